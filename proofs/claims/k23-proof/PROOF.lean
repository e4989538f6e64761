import PyProof.Rows.All
import Wide.All
import OpenK.AllK
import Wide.FinOn
import HandS.ForMost
import HandS.Evl
import HandS.TupAny
import HandS.TupMul
import HandS.IsInst
import HandS.Deep
import HandS.Wide
import HandS.Walk
import HandS.Defaults
import HandS.Iter
import PyProof.EnumMake
import KE.GoesMore
import KE.DataCmp
import HandS.SetFor
import HandS.Strs
import HandS.Dict
import KE.KDictPairs
import KE.KDictCopyH
import HandS.TupLen
import HandS.WordsDict
import HandS.SortInts
import HandS.Style
import KE.KDictDisplayH
import HandS.RevTup
import HandS.Rev
import KE.KDictList
import HandS.Conv
import KE.KDictZip
import HandS.Zip
import HandS.ListItems
import PyProof.ReprRoads
import HandS.HeadEnd
import KE.KStateDown
import HandS.More
import HandS.Words
import HandS.Head0
import HandS.Head1
import HandS.Head2
import HandS.HeadHook1
import HandS.HeadHook2
import PySem.Challenge.RW_wordvalues_k23_whole_endless_words_led
set_option Elab.async false
set_option linter.all false
set_option maxRecDepth 100000
/-! Values as plain data: none, bools, ints, texts, tuples of such. -/
namespace WV
open PySem PySem.Spec PyProof.Rows L2
abbrev T := PyData
/-- tuples stay -/
def Kp (H H' : Hp) : Prop := ∀ a xs, H a = some (.tup xs) → H' a = some (.tup xs)
theorem Kp.refl (H : Hp) : Kp H H := fun _ _ h => h
theorem Kp.trans {H H1 H2 : Hp} (a : Kp H H1) (b : Kp H1 H2) : Kp H H2 := fun x o h => b x o (a x o h)
theorem Kp.ex {H H' : Hp} (e : Evl.Ex H H') : Kp H H' := fun a xs h => e a _ h
theorem Kp.updL {H : Hp} {l : Addr} {xs ys : List V} (h : H l = some (.lst xs)) : Kp H (upd H l (.lst ys)) := fun a zs e => by
  have ne : a ≠ l := fun z => by
    rw [z, h] at e
    cases e
  rw [upd_ne ne]
  exact e
theorem Kp.new {H : Hp} {p : Addr} {o : HO} (h : H p = none) : Kp H (upd H p o) := Kp.ex (Evl.Ex.new h)
mutual
inductive Td (H : Hp) : V → T → Prop
  | n : Td H .non .none
  | b (x : Bool) : Td H (.bl x) (.bool x)
  | i (x : Int) : Td H (.int x) (.int x)
  | s (x : Str) : Td H (.str x) (.str x)
  | t {a : Addr} {vs : List V} {ds : List T} : H a = some (.tup vs) → Tds H vs ds → Td H (.ref a) (.tuple ds)
inductive Tds (H : Hp) : List V → List T → Prop
  | nil : Tds H [] []
  | cons {v : V} {vs : List V} {d : T} {ds : List T} : Td H v d → Tds H vs ds → Tds H (v :: vs) (d :: ds)
end
mutual
theorem Td.keep {H H' : Hp} (e : Kp H H') : ∀ {v : V} {d : T}, Td H v d → Td H' v d
  | _, _, .n => .n
  | _, _, .b x => .b x
  | _, _, .i x => .i x
  | _, _, .s x => .s x
  | _, _, .t h hs => .t (e _ _ h) (Tds.keep e hs)
theorem Tds.keep {H H' : Hp} (e : Kp H H') : ∀ {v : List V} {d : List T}, Tds H v d → Tds H' v d
  | _, _, .nil => .nil
  | _, _, .cons h hs => .cons (Td.keep e h) (Tds.keep e hs)
end
theorem Tds.length {H : Hp} : ∀ {vs : List V} {ds : List T}, Tds H vs ds → vs.length = ds.length
  | _, _, .nil => rfl
  | _, _, .cons _ h => by rw [List.length_cons, List.length_cons, h.length]
theorem Tds.get {H : Hp} : ∀ {vs : List V} {ds : List T} {j : Nat} {v : V}, Tds H vs ds → vs[j]? = some v → ∃ d, ds[j]? = some d ∧ Td H v d
  | _, _, j, v, .nil, h => by simp at h
  | _, _, 0, v, .cons h hs, e => by
    simp at e
    subst e
    exact ⟨_, rfl, h⟩
  | _, _, j + 1, v, .cons h hs, e => by
    simp at e
    obtain ⟨d, h1, h2⟩ := hs.get e
    exact ⟨d, by simpa using h1, h2⟩
theorem Tds.get' {H : Hp} : ∀ {vs : List V} {ds : List T} {j : Nat} {d : T}, Tds H vs ds → ds[j]? = some d → ∃ v, vs[j]? = some v ∧ Td H v d
  | _, _, j, v, .nil, h => by simp at h
  | _, _, 0, v, .cons h hs, e => by
    simp at e
    subst e
    exact ⟨_, rfl, h⟩
  | _, _, j + 1, v, .cons h hs, e => by
    simp at e
    obtain ⟨d, h1, h2⟩ := hs.get' e
    exact ⟨d, by simpa using h1, h2⟩
theorem Tds.append {H : Hp} : ∀ {vs ws : List V} {ds es : List T}, Tds H vs ds → Tds H ws es → Tds H (vs ++ ws) (ds ++ es)
  | _, _, _, _, .nil, h => h
  | _, _, _, _, .cons h hs, h2 => .cons h (hs.append h2)
theorem Tds.drop {H : Hp} : ∀ {vs : List V} {ds : List T} (n : Nat), Tds H vs ds → Tds H (vs.drop n) (ds.drop n)
  | _, _, 0, h => h
  | _, _, n + 1, .nil => .nil
  | _, _, n + 1, .cons _ hs => hs.drop n
theorem Tds.take {H : Hp} : ∀ {vs : List V} {ds : List T} (n : Nat), Tds H vs ds → Tds H (vs.take n) (ds.take n)
  | _, _, 0, _ => .nil
  | _, _, n + 1, .nil => .nil
  | _, _, n + 1, .cons h hs => .cons h (hs.take n)
/-! ### what evaluates to what -/
open Evl (Ex)
variable {K : PySem.W.Frag} {X : Cx}
def ED (te : TE) (σ : L2.St) (H : Hp) (d : T) : Prop := ∀ H1, Ex H H1 → ∀ Q : VK, (∀ v H2, Ex H1 H2 → Td H2 v d → Q v H2) → te σ H1 Q
def EL (te : TE) (σ : L2.St) (H : Hp) (ds : List T) : Prop := ∀ H1, Ex H H1 → ∀ Q : VK, (∀ p vs H2, H1 p = none → Ex H1 H2 → H2 p = some (.lst vs) → Tds H2 vs ds → Q (.ref p) H2) → te σ H1 Q
def EA (ta : TA) (σ : L2.St) (H : Hp) (ds : List T) : Prop := ∀ H1, Ex H H1 → ∀ Q : List V → Hp → Prop, (∀ vs H2, Ex H1 H2 → Tds H2 vs ds → Q vs H2) → ta σ H1 Q
def EB (tt : TT) (σ : L2.St) (H : Hp) (b : Bool) : Prop := ∀ H1, Ex H H1 → ∀ Q : Bool → Hp → Prop, (∀ H2, Ex H1 H2 → Q b H2) → tt σ H1 Q
def EO (to : TO) (σ : L2.St) (H : Hp) (o : Option Int) : Prop := ∀ H1, Ex H H1 → ∀ Q : Option Int → Hp → Prop, (∀ H2, Ex H1 H2 → Q o H2) → to σ H1 Q
section
variable {σ : L2.St} {H H' : Hp} {ta tb te : TE} {t u : TT} {d d2 : T}
theorem ED.keep (e : Ex H H') (h : ED te σ H d) : ED te σ H' d := fun H1 k Q q => h H1 (e.trans k) Q q
theorem EB.keep {b : Bool} (e : Ex H H') (h : EB t σ H b) : EB t σ H' b := fun H1 k Q q => h H1 (e.trans k) Q q
theorem EL.keep {ds : List T} (e : Ex H H') (h : EL te σ H ds) : EL te σ H' ds := fun H1 k Q q => h H1 (e.trans k) Q q
theorem EA.keep {ta : TA} {ds : List T} (e : Ex H H') (h : EA ta σ H ds) : EA ta σ H' ds := fun H1 k Q q => h H1 (e.trans k) Q q
theorem ed_var {i : Nat} {v : V} (h : σ[i]? = some (some v)) (hd : Td H v d) : ED (tVar i) σ H d := fun H1 k _ q => ⟨v, h, q v H1 (Ex.refl H1) (hd.keep (.ex k))⟩
/-- x -/
theorem ed_int {x : Int} : ED (tC (.int x)) σ H (.int x) := fun H1 _ _ q => q _ H1 (Ex.refl H1) (.i x)
theorem ed_bl {x : Bool} : ED (tC (.bl x)) σ H (.bool x) := fun H1 _ _ q => q _ H1 (Ex.refl H1) (.b x)
theorem ed_str {x : Str} : ED (tC (.str x)) σ H (.str x) := fun H1 _ _ q => q _ H1 (Ex.refl H1) (.s x)
theorem ed_non : ED (tC .non) σ H .none := fun H1 _ _ q => q _ H1 (Ex.refl H1) .n
theorem ed_is (h : ED te σ H d) (e : d = d2) : ED te σ H d2 := e ▸ h
theorem eb_is {a b : Bool} (h : EB t σ H a) (e : a = b) : EB t σ H b := e ▸ h
theorem ea_nil : EA tNil σ H [] := fun H1 _ _ q => q [] H1 (Ex.refl H1) .nil
theorem ea_cons {tr : TA} {ds : List T} (h : ED te σ H d) (hr : EA tr σ H ds) : EA (tCons te tr) σ H (d :: ds) := fun H1 k Q q =>
  h H1 k _ fun v H2 e2 hv => hr H2 (k.trans e2) _ fun vs H3 e3 hvs => q _ H3 (e2.trans e3) (.cons (hv.keep (.ex e3)) hvs)
theorem ed_tup {ta : TA} {ds : List T} (h : EA ta σ H ds) (hl : ds.length ≤ 100000) : ED (tTup ta) σ H (.tuple ds) := fun H1 k Q q =>
  h H1 k _ fun vs H2 e2 hvs => ⟨Evl.sz_of (hvs.length ▸ hl), fun p hp => q _ _ (e2.trans (Ex.new hp)) (.t upd_same (hvs.keep (.new hp)))⟩
theorem el_lst {ta : TA} {ds : List T} (h : EA ta σ H ds) (hl : ds.length ≤ 100000) : EL (tLst ta) σ H ds := fun H1 k Q q =>
  h H1 k _ fun vs H2 e2 hvs => ⟨Evl.sz_of (hvs.length ▸ hl), fun p hp => q _ vs _ (Evl.fresh_back e2 hp) (e2.trans (Ex.new hp)) upd_same (hvs.keep (.new hp))⟩
theorem Td.int_inv {v : V} {x : Int} (h : Td H v (.int x)) : v = .int x := by cases h; rfl
theorem Td.bl_inv {v : V} {x : Bool} (h : Td H v (.bool x)) : v = .bl x := by cases h; rfl
theorem Td.tup_inv {v : V} {ds : List T} (h : Td H v (.tuple ds)) : ∃ a vs, v = .ref a ∧ H a = some (.tup vs) ∧ Tds H vs ds := by
  cases h with
  | t h hs => exact ⟨_, _, rfl, h, hs⟩
/-- an operation of two ints -/
theorem ed_opI {C : Int → Int → Prop} {g : Int → Int → V} {x y : Int} (ha : ED ta σ H (.int x)) (hb : ED tb σ H (.int y)) (hc : C x y) (hz : ∀ H, Td H (g x y) d) : ED (tOp (rI C g) ta tb) σ H d := fun H1 k Q q =>
  ha H1 k _ fun v H2 e2 hv => hb H2 (k.trans e2) _ fun w H3 e3 hw => ⟨x, y, hv.int_inv, hw.int_inv, hc, q _ H3 (e2.trans e3) (hz H3)⟩
theorem ed_opI0 {g : Int → Int → V} {x y : Int} (ha : ED ta σ H (.int x)) (hb : ED tb σ H (.int y)) (hz : ∀ H, Td H (g x y) d) : ED (tOp (rI0 g) ta tb) σ H d := fun H1 k Q q =>
  ha H1 k _ fun v H2 e2 hv => hb H2 (k.trans e2) _ fun w H3 e3 hw => ⟨x, y, hv.int_inv, hw.int_inv, q _ H3 (e2.trans e3) (hz H3)⟩
/-- t[i] -/
theorem atI_tds {vs : List V} {ds : List T} {i : Int} (h : Tds H vs ds) (e : atI ds i = some d) : ∃ v, atI vs i = some v ∧ Td H v d := by
  unfold atI at e ⊢
  rw [h.length]
  cases e1 : ixN ds.length i with
  | none =>
    rw [e1] at e
    cases e
  | some j =>
    rw [e1] at e
    exact h.get' e
theorem ed_ixT {ds : List T} {i : Int} (ha : ED ta σ H (.tuple ds)) (hb : ED tb σ H (.int i)) (e : atI ds i = some d) : ED (tOp (rIxT K) ta tb) σ H d := fun H1 k Q q =>
  ha H1 k _ fun v H2 e2 hv => hb H2 (k.trans e2) _ fun w H3 e3 hw => by
    obtain ⟨a, vs, rfl, h1, h2⟩ := hv.tup_inv
    obtain ⟨z, hz1, hz2⟩ := atI_tds h2 e
    exact ⟨a, vs, i, z, rfl, hw.int_inv, .inl (.inl (e3 a _ h1)), hz1, q z H3 (e2.trans e3) (hz2.keep (.ex e3))⟩
def cutT (ds : List T) (lo hi : Option Int) : List T := (ds.drop (HT.sIx ds.length 0 lo)).take (HT.sIx ds.length ds.length hi - HT.sIx ds.length 0 lo)
theorem cut_tds {vs : List V} {ds : List T} {lo hi : Option Int} (h : Tds H vs ds) : Tds H (cutV vs lo hi) (cutT ds lo hi) := by
  unfold cutV cutT
  rw [h.length]
  exact (h.drop _).take _
theorem eo_none : EO tNoPart σ H none := fun H1 _ _ q => q H1 (Ex.refl H1)
theorem eo_some {i : Int} (h : ED te σ H (.int i)) : EO (tPart te) σ H (some i) := fun H1 k Q q => h H1 k _ fun v H2 e2 hv => ⟨i, hv.int_inv, q H2 e2⟩
theorem ed_slT {tl th : TO} {ds : List T} {lo hi : Option Int} (ha : ED ta σ H (.tuple ds)) (h1 : EO tl σ H lo) (h2 : EO th σ H hi) : ED (tSl (rSlA K) ta tl th) σ H (.tuple (cutT ds lo hi)) := fun H1 k Q q =>
  ha H1 k _ fun v H2 e2 hv => h1 H2 (k.trans e2) _ fun H3 e3 => h2 H3 ((k.trans e2).trans e3) _ fun H4 e4 => by
    obtain ⟨a, vs, rfl, g1, g2⟩ := hv.tup_inv
    have g1' : H4 a = some (.tup vs) := e4 a _ (e3 a _ g1)
    have g2' : Tds H4 vs ds := g2.keep (.ex (e3.trans e4))
    have ee : Ex H1 H4 := (e2.trans e3).trans e4
    refine ⟨a, vs, rfl, .inl (.inl g1'), fun hw => ?_, fun hw p hp => ?_⟩
    · have : cutT ds lo hi = ds := by
        unfold cutT
        rw [← g2.length, hw.1, hw.2]
        simp [g2.length]
      rw [this] at q
      exact q _ H4 ee (.t g1' g2')
    · exact q _ _ (ee.trans (Ex.new hp)) (.t upd_same ((cut_tds g2').keep (.new hp)))
theorem ed_cat {ds es : List T} (ha : ED ta σ H (.tuple ds)) (hb : ED tb σ H (.tuple es)) (hl : ds.length + es.length ≤ 100000) : ED (tOp (rCatA K) ta tb) σ H (.tuple (ds ++ es)) := fun H1 k Q q =>
  ha H1 k _ fun v H2 e2 hv => hb H2 (k.trans e2) _ fun w H3 e3 hw => by
    obtain ⟨a, vs, rfl, g1, g2⟩ := hv.tup_inv
    obtain ⟨b, ws, rfl, f1, f2⟩ := hw.tup_inv
    have g2' := g2.keep (.ex e3)
    refine ⟨a, b, vs, ws, rfl, rfl, .inl (.inl (e3 a _ g1)), .inl (.inl f1), Evl.sz_of (by rw [g2.length, f2.length]; exact hl), fun z => ?_, fun z1 z2 => ?_, fun z1 z2 p hp => ?_⟩
    · subst z
      cases g2
      exact q _ H3 (e2.trans e3) (.t f1 f2)
    · subst z2
      cases f2
      rw [List.append_nil] at q
      exact q _ H3 (e2.trans e3) (.t (e3 a _ g1) g2')
    · exact q _ _ ((e2.trans e3).trans (Ex.new hp)) (.t upd_same ((g2'.append f2).keep (.new hp)))
theorem ed_len {ds : List T} (ha : ED ta σ H (.tuple ds)) : ED (tCB (fun xs H Q => ∃ p ys, xs = [.ref p] ∧ (SqL K H p ys ∨ SqT K H p ys) ∧ Q (.int ys.length) H) (tCons ta tNil)) σ H (.int ds.length) := fun H1 k Q q =>
  ha H1 k _ fun v H2 e2 hv => by
    obtain ⟨a, vs, rfl, g1, g2⟩ := hv.tup_inv
    refine ⟨a, vs, rfl, .inr (.inl (.inl g1)), ?_⟩
    rw [g2.length]
    exact q _ H2 e2 (.i _)
theorem eb_B {b : Bool} (h : ED te σ H (.bool b)) : EB (tB te) σ H b := fun H1 k Q q => h H1 k _ fun v H2 e2 hv => ⟨b, hv.bl_inv, q H2 e2⟩
theorem eb_test {b : Bool} (h : ED te σ H (.bool b)) : EB (tTest te) σ H b := fun H1 k Q q => h H1 k _ fun v H2 e2 hv => ⟨b, hv.bl_inv, q H2 e2⟩
theorem eb_not {b : Bool} (h : EB t σ H b) : EB (tNot t) σ H (!b) := fun H1 k Q q => h H1 k _ fun H2 e2 => q H2 e2
theorem eb_and {a b : Bool} (h : EB t σ H a) (h2 : a = true → EB u σ H b) : EB (tAnd t u) σ H (a && b) := fun H1 k Q q => h H1 k _ fun H2 e2 => by
  cases a with
  | true =>
    show u σ H2 Q
    exact h2 rfl H2 (k.trans e2) Q fun H3 e3 => q H3 (e2.trans e3)
  | false =>
    show Q false H2
    exact q H2 e2
theorem eb_or {a b : Bool} (h : EB t σ H a) (h2 : a = false → EB u σ H b) : EB (tOr t u) σ H (a || b) := fun H1 k Q q => h H1 k _ fun H2 e2 => by
  cases a with
  | true =>
    show Q true H2
    exact q H2 e2
  | false =>
    show u σ H2 Q
    exact h2 rfl H2 (k.trans e2) Q fun H3 e3 => q H3 (e2.trans e3)
theorem ed_if {b : Bool} (h : EB t σ H b) (h1 : b = true → ED ta σ H d) (h2 : b = false → ED tb σ H d) : ED (tIf t ta tb) σ H d := fun H1 k Q q => h H1 k _ fun H2 e2 => by
  cases b with
  | true =>
    show ta σ H2 Q
    exact h1 rfl H2 (k.trans e2) Q fun v H3 e3 => q v H3 (e2.trans e3)
  | false =>
    show tb σ H2 Q
    exact h2 rfl H2 (k.trans e2) Q fun v H3 e3 => q v H3 (e2.trans e3)
/-- a def over plain data -/
def SpT (f : List T → T → Prop) : Sp := fun vs H Q _ => ∃ ds d, Tds H vs ds ∧ f ds d ∧ ∀ v H', Ex H H' → Td H' v d → Q v H'
theorem ed_call {f : List T → T → Prop} {E : XK} {ta : TA} {ds : List T} (h : EA ta σ H ds) (hf : f ds d) : ED (tCall (SpT f) [] E ta) σ H d := fun H1 k Q q =>
  h H1 k _ fun vs H2 e2 hvs => ⟨ds, d, by rw [List.append_nil]; exact hvs, hf, fun v H3 e3 hv => q v H3 (e2.trans e3) hv⟩
/-! statements -/
variable {D : Ends} {tu tw : TS}
theorem s_ret (h : ED te σ H d) (k : ∀ v H1, Ex H H1 → Td H1 v d → D.rt v H1) : tRet te D σ H := h H (Ex.refl H) _ k
theorem s_asg {i : Nat} (h : ED te σ H d) (k : ∀ v H1, Ex H H1 → Td H1 v d → D.nx (σ.set i (some v)) H1) : tAsg te (gName i) D σ H := h H (Ex.refl H) _ k
theorem s_if {b : Bool} (h : EB t σ H b) (h1 : b = true → ∀ H1, Ex H H1 → tu D σ H1) (h2 : b = false → ∀ H1, Ex H H1 → tw D σ H1) : tIfS t tu tw D σ H := h H (Ex.refl H) _ fun H1 e => by
  cases b with
  | true =>
    show tu D σ H1
    exact h1 rfl H1 e
  | false =>
    show tw D σ H1
    exact h2 rfl H1 e
/-- a, b = e -/
theorem s_unp2 {i j : Nat} {d1 d2 : T} (h : ED te σ H (.tuple [d1, d2])) (k : ∀ v w H1, Ex H H1 → Td H1 v d1 → Td H1 w d2 → D.nx ((σ.set i (some v)).set j (some w)) H1) : tAsg te (gTup K 2 (gCons (gName i) (gCons (gName j) gNil))) D σ H := h H (Ex.refl H) _ fun v H1 e hv => by
  obtain ⟨a, vs, rfl, g1, g2⟩ := hv.tup_inv
  cases g2 with
  | cons x1 r1 =>
    cases r1 with
    | cons x2 r2 =>
      cases r2
      exact ⟨a, _, rfl, .inl (.inl g1), rfl, _, _, rfl, _, _, rfl, rfl, k _ _ H1 e x1 x2⟩
end
end WV
set_option maxRecDepth 100000
/-! Rules for several kinds at once, and what they give on plain data. -/
namespace WV
open PySem PySem.Spec PyProof.Rows L2
open Evl (Ex)
mutual
theorem Td.dp {K : PySem.W.Frag} {H : Hp} : ∀ {v : V} {d : T}, Td H v d → Dp K H v d
  | _, _, .n => .non
  | _, _, .b x => .bl x
  | _, _, .i x => .int x
  | _, _, .s x => .str x
  | _, _, .t h hs => .tup (.inl (.inl h)) (Tds.dp hs)
theorem Tds.dp {K : PySem.W.Frag} {H : Hp} : ∀ {v : List V} {d : List T}, Tds H v d → DpAll K H v d
  | _, _, .nil => .nil
  | _, _, .cons h hs => .cons (Td.dp h) (Tds.dp hs)
end
/-- one of two rules -/
def rU (r r' : R2) : R2 := fun x y H Q => r x y H Q ∨ r' x y H Q
section
variable {X : Cx} {K : PySem.W.Frag} {σ : L2.St} {H H' : Hp} {ta tb te : TE} {t u : TT} {d d2 e : T}
/-- what two values give -/
def RD (r : R2) (H : Hp) (d e f : T) : Prop := ∀ v w H1, Ex H H1 → Td H1 v d → Td H1 w e → ∀ Q : VK, (∀ z H2, Ex H1 H2 → Td H2 z f → Q z H2) → r v w H1 Q
theorem ed_op {r : R2} {f : T} (ha : ED ta σ H d) (hb : ED tb σ H e) (hr : RD r H d e f) : ED (tOp r ta tb) σ H f := fun H1 k Q q =>
  ha H1 k _ fun v H2 e2 hv => hb H2 (k.trans e2) _ fun w H3 e3 hw => hr v w H3 ((k.trans e2).trans e3) (hv.keep (.ex e3)) hw Q fun z H4 e4 hz => q z H4 ((e2.trans e3).trans e4) hz
theorem RD.l {r r' : R2} {f : T} (h : RD r H d e f) : RD (rU r r') H d e f := fun v w H1 k hv hw Q q => .inl (h v w H1 k hv hw Q q)
theorem RD.r {r r' : R2} {f : T} (h : RD r' H d e f) : RD (rU r r') H d e f := fun v w H1 k hv hw Q q => .inr (h v w H1 k hv hw Q q)
theorem rd_I0 {g : Int → Int → V} {x y : Int} {f : T} (hz : ∀ H, Td H (g x y) f) : RD (rI0 g) H (.int x) (.int y) f := fun v w H1 k hv hw Q q => ⟨x, y, hv.int_inv, hw.int_inv, q _ H1 (Ex.refl H1) (hz H1)⟩
theorem rd_I {C : Int → Int → Prop} {g : Int → Int → V} {x y : Int} {f : T} (hc : C x y) (hz : ∀ H, Td H (g x y) f) : RD (rI C g) H (.int x) (.int y) f := fun v w H1 k hv hw Q q => ⟨x, y, hv.int_inv, hw.int_inv, hc, q _ H1 (Ex.refl H1) (hz H1)⟩
theorem rd_cat {ds es : List T} (hl : ds.length + es.length ≤ 100000) : RD (rCatA K) H (.tuple ds) (.tuple es) (.tuple (ds ++ es)) := fun v w H1 k hv hw Q q => by
  obtain ⟨a, vs, rfl, g1, g2⟩ := hv.tup_inv
  obtain ⟨b, ws, rfl, f1, f2⟩ := hw.tup_inv
  refine ⟨a, b, vs, ws, rfl, rfl, .inl (.inl g1), .inl (.inl f1), Evl.sz_of (by rw [g2.length, f2.length]; exact hl), fun z => ?_, fun z1 z2 => ?_, fun z1 z2 p hp => ?_⟩
  · subst z
    cases g2
    exact q _ H1 (Ex.refl H1) (.t f1 f2)
  · subst z2
    cases f2
    rw [List.append_nil] at q
    exact q _ H1 (Ex.refl H1) (.t g1 g2)
  · exact q _ _ (Ex.new hp) (.t upd_same ((g2.append f2).keep (.new hp)))
theorem op_addU : OpR X (binaryOp .Add) (rU (rI0 (fun i j => .int (i + j))) (rU (rCatA X.K) rCat)) := op_add.or (op_catA.or op_cat)
theorem ed_addI {r : R2} {x y : Int} (ha : ED ta σ H (.int x)) (hb : ED tb σ H (.int y)) : ED (tOp (rU (rI0 (fun i j => .int (i + j))) r) ta tb) σ H (.int (x + y)) := ed_op ha hb (.l (rd_I0 fun _ => .i _))
theorem ed_subI {x y : Int} (ha : ED ta σ H (.int x)) (hb : ED tb σ H (.int y)) : ED (tOp (rI0 (fun i j => .int (i - j))) ta tb) σ H (.int (x - y)) := ed_op ha hb (rd_I0 fun _ => .i _)
theorem ed_addT {r r' : R2} {ds es : List T} (ha : ED ta σ H (.tuple ds)) (hb : ED tb σ H (.tuple es)) (hl : ds.length + es.length ≤ 100000) : ED (tOp (rU r (rU (rCatA K) r')) ta tb) σ H (.tuple (ds ++ es)) := ed_op ha hb (.r (.l (rd_cat hl)))
theorem ed_modI {x y : Int} (ha : ED ta σ H (.int x)) (hb : ED tb σ H (.int y)) (hy : y ≠ 0) : ED (tOp (rI (fun x j => j ≠ 0) (fun i j => .int (i.fmod j))) ta tb) σ H (.int (x.fmod y)) := ed_op ha hb (rd_I hy fun _ => .i _)
theorem ed_ltI {x y : Int} (ha : ED ta σ H (.int x)) (hb : ED tb σ H (.int y)) : ED (tOp (rI0 (fun i j => .bl (decide (i < j)))) ta tb) σ H (.bool (decide (x < y))) := ed_op ha hb (rd_I0 fun _ => .b _)
/-- == of data -/
theorem rd_eqD (h1 : SeqAt.shaped d = true) (h2 : SeqAt.shaped e = true) : RD (rEqD K) H d e (.bool (PyData.eqv d e)) := fun v w H1 k hv hw Q q => ⟨d, e, hv.dp, hw.dp, h1, h2, q _ H1 (Ex.refl H1) (.b _)⟩
theorem rd_neD (h1 : SeqAt.shaped d = true) (h2 : SeqAt.shaped e = true) : RD (rNeD K) H d e (.bool (!PyData.eqv d e)) := fun v w H1 k hv hw Q q => ⟨d, e, hv.dp, hw.dp, h1, h2, q _ H1 (Ex.refl H1) (.b _)⟩
theorem ed_eq (ha : ED ta σ H d) (hb : ED tb σ H e) (h1 : SeqAt.shaped d = true) (h2 : SeqAt.shaped e = true) : ED (tOp (rEqD K) ta tb) σ H (.bool (PyData.eqv d e)) := ed_op ha hb (rd_eqD h1 h2)
theorem ed_ne (ha : ED ta σ H d) (hb : ED tb σ H e) (h1 : SeqAt.shaped d = true) (h2 : SeqAt.shaped e = true) : ED (tOp (rNeD K) ta tb) σ H (.bool (!PyData.eqv d e)) := ed_op ha hb (rd_neD h1 h2)
/-- t[i] by ix_seq -/
theorem rd_ixT {ds : List T} {i : Int} (e : atI ds i = some d) : RD (rIxT K) H (.tuple ds) (.int i) d := fun v w H1 k hv hw Q q => by
  obtain ⟨a, vs, rfl, h1, h2⟩ := hv.tup_inv
  obtain ⟨z, hz1, hz2⟩ := atI_tds h2 e
  exact ⟨a, vs, i, z, rfl, hw.int_inv, .inl (.inl h1), hz1, q z H1 (Ex.refl H1) hz2⟩
theorem ed_ix {ds : List T} {i : Int} (ha : ED ta σ H (.tuple ds)) (hb : ED tb σ H (.int i)) (e : atI ds i = some d) : ED (tOp (rIx K) ta tb) σ H d := ed_op ha hb fun v w H1 k hv hw Q q => .inr (.inl (rd_ixT (K := K) e v w H1 k hv hw Q q))
/-- a slice of a list or of a tuple -/
theorem sl_seqU : SlR X (fun x lo hi H Q => rSlL X.K x lo hi H Q ∨ rSlA X.K x lo hi H Q) := sl_list.or sl_tupA
theorem ed_sl {tl th : TO} {ds : List T} {lo hi : Option Int} (ha : ED ta σ H (.tuple ds)) (h1 : EO tl σ H lo) (h2 : EO th σ H hi) : ED (tSl (fun x lo hi H Q => rSlL K x lo hi H Q ∨ rSlA K x lo hi H Q) ta tl th) σ H (.tuple (cutT ds lo hi)) := fun H1 k Q q =>
  ha H1 k _ fun v H2 e2 hv => h1 H2 (k.trans e2) _ fun H3 e3 => h2 H3 ((k.trans e2).trans e3) _ fun H4 e4 => by
    have ee : Ex H1 H4 := (e2.trans e3).trans e4
    have hv' := hv.keep (.ex (e3.trans e4))
    have E1 : ED (tC v) σ H4 (.tuple ds) := fun H5 k5 Q5 q5 => q5 v H5 (Ex.refl H5) (hv'.keep (.ex k5))
    have := ed_slT (K := K) (tl := fun _ H Q => Q lo H) (th := fun _ H Q => Q hi H) E1 (fun H5 _ Q5 q5 => q5 H5 (Ex.refl H5)) (fun H5 _ Q5 q5 => q5 H5 (Ex.refl H5)) H4 (Ex.refl H4) Q (fun w H5 e5 hw => q w H5 (ee.trans e5) hw)
    exact .inr this
/-- a walk over a list or over a tuple -/
def iSeq (K : PySem.W.Frag) (tl : TE) : TI := fun σ H R => tl σ H fun x H1 => ∃ a, x = .ref a ∧ (((∃ xs, SqL K H1 a xs) ∧ R (Itl K a) H1) ∨ ((∃ xs, SqT K H1 a xs) ∧ R (Itt K a) H1))
theorem pi_seq {tg l : Expr} {tl : TE} (hl : PE X l tl) : PI X tg l (iSeq X.K tl) := by
  refine ⟨fun pins s σ H R I h => ?_⟩
  refine thn (hl.run pins s σ H _ I h) fun v s1 ⟨x, H1, I1, r1, q1⟩ => ?_
  obtain ⟨a, e, q1⟩ := q1
  subst e
  cases r1
  rcases q1 with ⟨⟨xs, hq⟩, q⟩ | ⟨⟨xs, hq⟩, q⟩
  · obtain ⟨its, rv, p, hz⟩ := I1.list hq
    refine wpAny_pyIter_list p.isList ?_
    refine ⟨s1.heap.objs.size, [s1.heap.objs.size], _, _, H1, rfl, I1.kept (t' := s1.toks) fun b o e => Heap.get?_push_of_some _ e, turn_list a _, ⟨_, Heap.get?_push_size _ rfl, rfl, rfl⟩, fun b hb => ?_, q⟩
    have e : b = s1.heap.objs.size := by simpa using hb
    subst e
    exact I1.fpOk (Nat.le_refl _) (I1.hok.fresh (Nat.le_refl _))
  · obtain ⟨its, rv, p, hz⟩ := I1.tuple hq
    refine wpAny_pyIter_tuple (show s1.heap.IsTuple a its.toArray from p) ?_
    refine ⟨s1.heap.objs.size, [s1.heap.objs.size], _, _, H1, rfl, I1.kept (t' := s1.toks) fun b o e => Heap.get?_push_of_some _ e, turn_tuple a _, ⟨_, Heap.get?_push_size _ rfl, rfl, rfl⟩, fun b hb => ?_, q⟩
    have e : b = s1.heap.objs.size := by simpa using hb
    subst e
    exact I1.fpOk (Nat.le_refl _) (I1.hok.fresh (Nat.le_refl _))
end
section
variable {X : Cx} {CX : CXT} {k : Nat} {f : Addr} {fd : FuncData} {ps ks : List Str} {sp : Sp} {E : XK} {x : Str} {p pos : Pos} {kws : List Keyword} {tk : TA} {g : List Value → List Value → List Value} {gV : List V → List V → List V}
/-- f(k = v, ..), names alone -/
theorem pe_callK0 (F : FnOk X.prog X.w X.K X.mg X.base CX k f fd ps sp) (hr : Room k X.A) (hg : Gl X x) (hm : X.mg x = some (.ref f)) (hk : PySem.W.keepIn X.K (.ref f) = true) (hb : KBinds X.K fd ps ks g gV) (hx : Passes CX X E)
    (hkw : PK X kws tk) (hall : (backToKw pos (keywordEach kws X.env)).all (·.1.isSome) = true := by rfl) (hks : (backToKw pos (keywordEach kws X.env)).filterMap (·.1) = ks := by rfl)
    (hdb : (x == ("__debug__" : Str)) = false := by decide) (hpl : ((backTo pos (starEach [] X.env)).any (·.1) || (backToKw pos (keywordEach kws X.env)).any (·.1.isNone)) = false := by rfl) :
    PE X (.Call (.Name x p) [] kws pos) (tCallK sp gV E tNil tk) := by
  refine ⟨fun pins s σ H Q I h => ?_⟩
  refine wpAny_Call_Name_kw (ld_glob I hg hm ?_ hdb)
  refine PySem.W.callWith_KW0 (h₀ := X.base) I.ok.mod.kin hk hall ?_ hpl
  refine thn (hkw.run pos pins s σ H _ I h) fun ws s2 ⟨zs, H2, I2, rz, q2⟩ => ⟨I2.kIn, ?_⟩
  rw [hks]
  exact run_fnk F hr hb hx I2 .nil rz q2
end
end WV
set_option maxRecDepth 100000
set_option maxHeartbeats 2000000
/-! Comprehensions and loops over plain data. -/
namespace WV
open PySem PySem.Spec PyProof.Rows L2
open Evl (Ex)
def gd (n : Nat) (f : Nat → Bool) (g : Nat → T) : List T := ((List.range n).filter f).map g
theorem gd_yes {n : Nat} {f : Nat → Bool} {g : Nat → T} (h : f n = true) : gd (n + 1) f g = gd n f g ++ [g n] := by
  unfold gd
  rw [List.range_succ, List.filter_append, List.filter_cons_of_pos h, List.filter_nil, List.map_append]
  rfl
theorem gd_no {n : Nat} {f : Nat → Bool} {g : Nat → T} (h : f n = false) : gd (n + 1) f g = gd n f g := by
  unfold gd
  rw [List.range_succ, List.filter_append, List.filter_cons_of_neg (by rw [h]; exact Bool.false_ne_true), List.filter_nil, List.append_nil]
theorem gd_len (n : Nat) (f : Nat → Bool) (g : Nat → T) : (gd n f g).length ≤ n := by
  unfold gd
  rw [List.length_map]
  exact Nat.le_trans (List.length_filter_le _ _) (by rw [List.length_range]; exact Nat.le_refl _)
theorem gd_all (n : Nat) (g : Nat → T) : gd n (fun _ => true) g = (List.range n).map g := by
  unfold gd
  rw [List.filter_eq_self.mpr (fun _ _ => rfl)]
def Cd (H : Hp) (D : Addr) (ds : List T) (H' : Hp) : Prop := H D = none ∧ Ex H H' ∧ ∃ vs, H' D = some (.lst vs) ∧ Tds H' vs ds
section
variable {X : Cx} {K : PySem.W.Frag} {σ : L2.St} {H H' : Hp} {ta tb te tl : TE} {t u : TT} {d d2 e : T} {gt : TG} {vs : List Nat}
theorem cd_turn {D : Addr} {f : Nat → Bool} {g : Nat → T} {i : Nat} {σ2 : L2.St} (p : Cd H D (gd i f g) H') (hi : i < 50000) (ht : EB t σ2 H' (f i)) (he : f i = true → ED te σ2 H' (g i)) :
    t σ2 H' fun b H3 => if b = true then te σ2 H3 fun y H4 => ∃ acc, H4 D = some (.lst acc) ∧ acc.length < sizeLine ∧ Cd H D (gd (i + 1) f g) (upd H4 D (.lst (acc ++ [y]))) else Cd H D (gd (i + 1) f g) H3 := by
  obtain ⟨p1, p2, ws, p3, p4⟩ := p
  refine ht H' (Ex.refl H') _ fun H3 e3 => ?_
  cases hf : f i with
  | true =>
    show te σ2 H3 fun y H4 => ∃ acc, H4 D = some (.lst acc) ∧ acc.length < sizeLine ∧ Cd H D (gd (i + 1) f g) (upd H4 D (.lst (acc ++ [y])))
    refine he hf H3 e3 _ fun y H4 e4 hy => ⟨ws, e4 D _ (e3 D _ p3), Evl.sz_lt (by have := gd_len i f g; rw [p4.length]; omega), p1, Ex.mut ((p2.trans e3).trans e4) p1, ws ++ [y], upd_same, ?_⟩
    rw [gd_yes hf]
    exact ((p4.keep (.ex (e3.trans e4))).append (.cons hy .nil)).keep (.updL (e4 D _ (e3 D _ p3)))
  | false =>
    show Cd H D (gd (i + 1) f g) H3
    refine ⟨p1, p2.trans e3, ws, e3 D _ p3, ?_⟩
    rw [gd_no hf]
    exact p4.keep (.ex e3)
theorem cd_0 {D : Addr} {f : Nat → Bool} {g : Nat → T} (hD : H D = none) : Cd H D (gd 0 f g) (upd H D (.lst [])) := ⟨hD, Ex.new hD, [], upd_same, .nil⟩
theorem eb_yes : EB tYes σ H true := fun H1 e Q q => q H1 (Ex.refl H1)
theorem walk0 {n : Nat} : Walk (Itr 0 n) n (fun _ => True) (YFn fun i => .int (i : Int)) := ⟨fun _ _ hi _ => hi, fun _ _ => Nat.le_refl _, fun i H x H' _ _ y => ⟨y.1, by rw [y.2, Int.zero_add]⟩⟩
theorem el_lcR1 {ta : TA} {j : Nat} {n : Int} (f : Nat → Bool) (g : Nat → T) (h : EA ta σ H [.int n]) (hn : -100000 ≤ n ∧ n ≤ 40000) (hw : ∀ x, wipe ((wipe σ vs).set j (some x)) vs = wipe σ vs)
    (ht : ∀ (i : Nat) H1, Ex H H1 → (i : Int) < n → EB t ((wipe σ vs).set j (some (.int (i : Int)))) H1 (f i)) (he : ∀ (i : Nat) H1, Ex H H1 → (i : Int) < n → f i = true → ED te ((wipe σ vs).set j (some (.int (i : Int)))) H1 (g i)) :
    EL (tLc (iRng1 ta) (gName j) t te vs) σ H (gd n.toNat f g) := fun H0 e Q q => h H0 e _ fun vv H1 e1 hv => by
  cases hv with
  | cons h1 r =>
    cases r
    rw [h1.int_inv]
    exact ⟨n, rfl, by omega, by omega, fun Dl hD =>
      lc_it walk0 (fun i H' => Cd H1 Dl (gd i f g) H') (cd_0 hD) (fun _ _ _ _ => trivial) (fun i x H2 H3 hi p y => by
        obtain ⟨rfl, rfl⟩ := y
        exact ⟨hw _, cd_turn p (by omega) (ht i H3 ((e.trans e1).trans p.2.1) (by omega)) (fun hf => he i H3 ((e.trans e1).trans p.2.1) (by omega) hf)⟩) (fun H' p => by
          obtain ⟨p1, p2, ws, p3, p4⟩ := p
          exact q Dl ws H' (Evl.fresh_back e1 p1) (e1.trans p2) p3 p4)⟩
theorem el_lcR2 {ta : TA} {j : Nat} {lo n : Int} (f : Nat → Bool) (g : Nat → T) (h : EA ta σ H [.int lo, .int n]) (hn : -100000 ≤ lo ∧ lo ≤ 40000 ∧ -100000 ≤ n ∧ n ≤ 40000 ∧ n - lo ≤ 40000) (hw : ∀ x, wipe ((wipe σ vs).set j (some x)) vs = wipe σ vs)
    (ht : ∀ (i : Nat) H1, Ex H H1 → lo + (i : Int) < n → EB t ((wipe σ vs).set j (some (.int (lo + (i : Int))))) H1 (f i)) (he : ∀ (i : Nat) H1, Ex H H1 → lo + (i : Int) < n → f i = true → ED te ((wipe σ vs).set j (some (.int (lo + (i : Int))))) H1 (g i)) :
    EL (tLc (iRng2 ta) (gName j) t te vs) σ H (gd (n - lo).toNat f g) := fun H0 e Q q => h H0 e _ fun vv H1 e1 hv => by
  cases hv with
  | cons h1 r =>
    cases r with
    | cons h2 r =>
      cases r
      rw [h1.int_inv, h2.int_inv]
      exact ⟨lo, n, rfl, ⟨by omega, by omega, by omega, by omega⟩, fun Dl hD =>
        lc_it walk_range (fun i H' => Cd H1 Dl (gd i f g) H') (cd_0 hD) (fun _ _ _ _ => trivial) (fun i x H2 H3 hi p y => by
          obtain ⟨rfl, rfl⟩ := y
          exact ⟨hw _, cd_turn p (by omega) (ht i H3 ((e.trans e1).trans p.2.1) (by omega)) (fun hf => he i H3 ((e.trans e1).trans p.2.1) (by omega) hf)⟩) (fun H' p => by
            obtain ⟨p1, p2, ws, p3, p4⟩ := p
            exact q Dl ws H' (Evl.fresh_back e1 p1) (e1.trans p2) p3 p4)⟩
/-- over a tuple -/
theorem el_lcT {ds : List T} (f : Nat → Bool) (g : Nat → T) (h : ED tl σ H (.tuple ds)) (hz : ds.length ≤ 40000)
    (hb : ∀ (i : Nat) (v : V) (d : T) (H1 : Hp), Ex H H1 → ds[i]? = some d → Td H1 v d → ∀ Q2 : L2.St → Hp → Prop, (∀ σ2, wipe σ2 vs = wipe σ vs → EB t σ2 H1 (f i) → (f i = true → ED te σ2 H1 (g i)) → Q2 σ2 H1) → gt v (wipe σ vs) H1 Q2) :
    EL (tLc (iSeq K tl) gt t te vs) σ H (gd ds.length f g) := fun H0 e Q q => h H0 e _ fun v H1 e1 hv => by
  obtain ⟨a, xs, rfl, g1, g2⟩ := hv.tup_inv
  refine ⟨a, rfl, .inr ⟨⟨xs, .inl (.inl g1)⟩, fun Dl hD => ?_⟩⟩
  have key := lc_it (walk_tup (K := K) (a := a) (xs := xs)) (g := gt) (tt := t) (te := te) (vs := vs) (σ := σ) (H1 := H1) (D := Dl) (Qd := Q (.ref Dl)) (fun i H' => Cd H1 Dl (gd i f g) H') (cd_0 hD) (fun i H' _ p => .inl (.inl (p.2.1 a _ g1))) (fun i x H2 H3 hi p y => by
    obtain ⟨rfl, hx⟩ := y
    obtain ⟨d, hd1, hd2⟩ := g2.get hx
    refine hb i x d H3 ((e.trans e1).trans p.2.1) hd1 (hd2.keep (.ex p.2.1)) _ fun σ2 w2 ht he => ⟨w2, cd_turn p (by rw [g2.length] at hi; omega) ht he⟩) (fun H' p => by
      obtain ⟨p1, p2, ws, p3, p4⟩ := p
      rw [g2.length] at p4
      exact q Dl ws H' (Evl.fresh_back e1 p1) (e1.trans p2) p3 p4)
  exact key
/-- over a list that stands at an address -/
theorem el_lcL {ds : List T} {a : Addr} {xs : List V} (f : Nat → Bool) (g : Nat → T) (h : ∀ H0, Ex H H0 → ∀ Q : VK, (∀ H1, Ex H0 H1 → Q (.ref a) H1) → tl σ H0 Q) (hl : H a = some (.lst xs)) (hd : Tds H xs ds) (hz : ds.length ≤ 40000)
    (hb : ∀ (i : Nat) (v : V) (d : T) (H1 : Hp), Ex H H1 → ds[i]? = some d → Td H1 v d → ∀ Q2 : L2.St → Hp → Prop, (∀ σ2, wipe σ2 vs = wipe σ vs → EB t σ2 H1 (f i) → (f i = true → ED te σ2 H1 (g i)) → Q2 σ2 H1) → gt v (wipe σ vs) H1 Q2) :
    EL (tLc (iSeq K tl) gt t te vs) σ H (gd ds.length f g) := fun H0 e Q q => h H0 e _ fun H1 e1 => by
  have g1 : H1 a = some (.lst xs) := e1 a _ (e a _ hl)
  have g2 : Tds H1 xs ds := hd.keep (.ex (e.trans e1))
  refine ⟨a, rfl, .inl ⟨⟨xs, .inl (.inl g1)⟩, fun Dl hD => ?_⟩⟩
  have key := lc_it (walk_list (K := K) (a := a) (xs := xs)) (g := gt) (tt := t) (te := te) (vs := vs) (σ := σ) (H1 := H1) (D := Dl) (Qd := Q (.ref Dl)) (fun i H' => Cd H1 Dl (gd i f g) H') (cd_0 hD) (fun i H' _ p => .inl (.inl (p.2.1 a _ g1))) (fun i x H2 H3 hi p y => by
    obtain ⟨rfl, hx⟩ := y
    obtain ⟨d, hd1, hd2⟩ := g2.get hx
    refine hb i x d H3 ((e.trans e1).trans p.2.1) hd1 (hd2.keep (.ex p.2.1)) _ fun σ2 w2 ht he => ⟨w2, cd_turn p (by rw [g2.length] at hi; omega) ht he⟩) (fun H' p => by
      obtain ⟨p1, p2, ws, p3, p4⟩ := p
      rw [g2.length] at p4
      exact q Dl ws H' (Evl.fresh_back e1 p1) (e1.trans p2) p3 p4)
  exact key
/-- over a new list -/
theorem el_lcN {ds : List T} (f : Nat → Bool) (g : Nat → T) (h : EL tl σ H ds) (hz : ds.length ≤ 40000)
    (hb : ∀ (i : Nat) (v : V) (d : T) (H1 : Hp), Ex H H1 → ds[i]? = some d → Td H1 v d → ∀ Q2 : L2.St → Hp → Prop, (∀ σ2, wipe σ2 vs = wipe σ vs → EB t σ2 H1 (f i) → (f i = true → ED te σ2 H1 (g i)) → Q2 σ2 H1) → gt v (wipe σ vs) H1 Q2) :
    EL (tLc (iSeq K tl) gt t te vs) σ H (gd ds.length f g) := fun H0 e Q q => h H0 e _ fun a xs H1 ha e1 g1 g2 => by
  refine ⟨a, rfl, .inl ⟨⟨xs, .inl (.inl g1)⟩, fun Dl hD => ?_⟩⟩
  have key := lc_it (walk_list (K := K) (a := a) (xs := xs)) (g := gt) (tt := t) (te := te) (vs := vs) (σ := σ) (H1 := H1) (D := Dl) (Qd := Q (.ref Dl)) (fun i H' => Cd H1 Dl (gd i f g) H') (cd_0 hD) (fun i H' _ p => .inl (.inl (p.2.1 a _ g1))) (fun i x H2 H3 hi p y => by
    obtain ⟨rfl, hx⟩ := y
    obtain ⟨d, hd1, hd2⟩ := g2.get hx
    refine hb i x d H3 ((e.trans e1).trans p.2.1) hd1 (hd2.keep (.ex p.2.1)) _ fun σ2 w2 ht he => ⟨w2, cd_turn p (by rw [g2.length] at hi; omega) ht he⟩) (fun H' p => by
      obtain ⟨p1, p2, ws, p3, p4⟩ := p
      rw [g2.length] at p4
      exact q Dl ws H' (Evl.fresh_back e1 p1) (e1.trans p2) p3 p4)
  exact key
/-! ### lists at work -/
/-- tuple(list) -/
theorem ed_tupL {ds : List T} (h : EL te σ H ds) : ED (tCB (fun xs H Q => ∃ p ys, xs = [.ref p] ∧ ((SqL K H p ys ∧ ∀ l, H l = none → Q (.ref l) (upd H l (.tup ys))) ∨ (SqT K H p ys ∧ Q (.ref p) H))) (tCons te tNil)) σ H (.tuple ds) := fun H1 e Q q =>
  h H1 e _ fun p vs H2 hp e2 h1 h2 => ⟨p, vs, rfl, .inl ⟨.inl (.inl h1), fun l hl => q _ _ (e2.trans (Ex.new hl)) (.t upd_same (h2.keep (.new hl)))⟩⟩
/-- [..][i] -/
theorem ed_ixN {ds : List T} {i : Int} (h : EL ta σ H ds) (hb : ED tb σ H (.int i)) (e : atI ds i = some d) : ED (tOp (rIx K) ta tb) σ H d := fun H1 e1 Q q =>
  h H1 e1 _ fun p vs H2 hp e2 h1 h2 => hb H2 (e1.trans e2) _ fun w H3 e3 hw => by
    obtain ⟨z, hz1, hz2⟩ := atI_tds (h2.keep (.ex e3)) e
    exact .inl ⟨p, vs, i, z, rfl, hw.int_inv, .inl (.inl (e3 p _ h1)), hz1, q z H3 (e2.trans e3) hz2⟩
/-- all(..), any(..) of a new list -/
theorem tds_bools : ∀ {ws : List V} {bs : List Bool}, Tds H ws (bs.map PyData.bool) → ws = bs.map V.bl
  | [], [], _ => rfl
  | w :: ws, b :: bs, h => by
    cases h with
    | cons h1 h2 => rw [List.map_cons, h1.bl_inv, tds_bools h2]
  | [], _ :: _, h => by cases h
  | _ :: _, [], h => by cases h
theorem ed_all {bs : List Bool} (h : EL te σ H (bs.map .bool)) : ED (tCB (rAll K) (tCons te tNil)) σ H (.bool (bs.all id)) := fun H1 e Q q =>
  h H1 e _ fun p vs H2 hp e2 h1 h2 => ⟨p, bs, rfl, by rw [← tds_bools h2]; exact .inl (.inl h1), q _ H2 e2 (.b _)⟩
theorem ed_any {bs : List Bool} (h : EL te σ H (bs.map .bool)) : ED (tCB (rAny K) (tCons te tNil)) σ H (.bool (bs.any id)) := fun H1 e Q q =>
  h H1 e _ fun p vs H2 hp e2 h1 h2 => ⟨p, bs, rfl, by rw [← tds_bools h2]; exact .inl (.inl h1), q _ H2 e2 (.b _)⟩
/-! ### statements -/
variable {D : Ends} {tu tw : TS}
theorem s_asgL {i : Nat} {ds : List T} (h : EL te σ H ds) (k : ∀ p vs H1, H p = none → Ex H H1 → H1 p = some (.lst vs) → Tds H1 vs ds → D.nx (σ.set i (some (.ref p))) H1) : tAsg te (gName i) D σ H := h H (Ex.refl H) _ k
theorem s_forR1 {ta : TA} {j : Nat} {n : Int} (h : EA ta σ H [.int n]) (hn : -100000 ≤ n ∧ n ≤ 100000) (Pv : Nat → L2.St → Hp → Prop) (h0 : ∀ H1, Ex H H1 → Pv 0 σ H1)
    (hs : ∀ (i : Nat) σ' H', (i : Int) < n → Pv i σ' H' → tu { D with nx := Pv (i + 1), ct := Pv (i + 1), bk := D.nx } (σ'.set j (some (.int (i : Int)))) H') (hd : ∀ σ' H', Pv n.toNat σ' H' → D.nx σ' H') : tFor (iRng1 ta) (gName j) tu D σ H :=
  h H (Ex.refl H) _ fun vv H1 e1 hv => by
    cases hv with
    | cons h1 r =>
      cases r
      rw [h1.int_inv]
      exact ⟨n, rfl, by omega, by omega, for_it walk0 Pv (h0 H1 e1) (fun _ _ _ _ _ => trivial) (fun i x σ' H2 H3 hi p y => by
        obtain ⟨rfl, rfl⟩ := y
        exact hs i σ' H3 (by omega) p) hd⟩
theorem s_forR2 {ta : TA} {j : Nat} {lo n : Int} (h : EA ta σ H [.int lo, .int n]) (hn : -100000 ≤ lo ∧ lo ≤ 100000 ∧ -100000 ≤ n ∧ n ≤ 100000) (Pv : Nat → L2.St → Hp → Prop) (h0 : ∀ H1, Ex H H1 → Pv 0 σ H1)
    (hs : ∀ (i : Nat) σ' H', lo + (i : Int) < n → Pv i σ' H' → tu { D with nx := Pv (i + 1), ct := Pv (i + 1), bk := D.nx } (σ'.set j (some (.int (lo + (i : Int))))) H') (hd : ∀ σ' H', Pv (n - lo).toNat σ' H' → D.nx σ' H') : tFor (iRng2 ta) (gName j) tu D σ H :=
  h H (Ex.refl H) _ fun vv H1 e1 hv => by
    cases hv with
    | cons h1 r =>
      cases r with
      | cons h2 r =>
        cases r
        rw [h1.int_inv, h2.int_inv]
        exact ⟨lo, n, rfl, ⟨by omega, by omega, by omega, by omega⟩, for_it walk_range Pv (h0 H1 e1) (fun _ _ _ _ _ => trivial) (fun i x σ' H2 H3 hi p y => by
          obtain ⟨rfl, rfl⟩ := y
          exact hs i σ' H3 (by omega) p) hd⟩
/-- over a tuple; Pv: the heap ahead of the walk, the turn, the slots, the heap -/
theorem s_forT {ds : List T} (h : ED tl σ H (.tuple ds)) (Pv : Hp → Nat → L2.St → Hp → Prop) (h0 : ∀ H1, Ex H H1 → Pv H1 0 σ H1) (hk : ∀ H1 i σ' H', Pv H1 i σ' H' → Kp H1 H')
    (hs : ∀ H1 (i : Nat) v d σ' H', Ex H H1 → ds[i]? = some d → Pv H1 i σ' H' → Td H' v d → gt v σ' H' fun σ2 H2 => tu { D with nx := Pv H1 (i + 1), ct := Pv H1 (i + 1), bk := D.nx } σ2 H2) (hd : ∀ H1 σ' H', Ex H H1 → Pv H1 ds.length σ' H' → D.nx σ' H') : tFor (iSeq K tl) gt tu D σ H :=
  h H (Ex.refl H) _ fun v H1 e1 hv => by
    obtain ⟨a, xs, rfl, g1, g2⟩ := hv.tup_inv
    exact ⟨a, rfl, .inr ⟨⟨xs, .inl (.inl g1)⟩, for_it (walk_tup (K := K) (a := a) (xs := xs)) (Pv H1) (h0 H1 e1) (fun i σ' H' _ p => .inl (.inl (hk H1 i σ' H' p a _ g1))) (fun i x σ' H2 H3 hi p y => by
      obtain ⟨rfl, hx⟩ := y
      obtain ⟨d, hd1, hd2⟩ := g2.get hx
      exact hs H1 i x d σ' H3 e1 hd1 p (hd2.keep (hk H1 i σ' H3 p))) (fun σ' H' p => by
        rw [g2.length] at p
        exact hd H1 σ' H' e1 p)⟩⟩
/-- over a new list, kept as it is -/
theorem s_forN {ds : List T} (h : EL tl σ H ds) (Pv : Hp → Nat → L2.St → Hp → Prop) (h0 : ∀ H1, Ex H H1 → Pv H1 0 σ H1) (hk : ∀ H1 i σ' H', Pv H1 i σ' H' → Ex H1 H')
    (hs : ∀ H1 (i : Nat) v d σ' H', Ex H H1 → ds[i]? = some d → Pv H1 i σ' H' → Td H' v d → gt v σ' H' fun σ2 H2 => tu { D with nx := Pv H1 (i + 1), ct := Pv H1 (i + 1), bk := D.nx } σ2 H2) (hd : ∀ H1 σ' H', Ex H H1 → Pv H1 ds.length σ' H' → D.nx σ' H') : tFor (iSeq K tl) gt tu D σ H :=
  h H (Ex.refl H) _ fun a xs H1 ha e1 g1 g2 => by
    exact ⟨a, rfl, .inl ⟨⟨xs, .inl (.inl g1)⟩, for_it (walk_list (K := K) (a := a) (xs := xs)) (Pv H1) (h0 H1 e1) (fun i σ' H' _ p => .inl (.inl (hk H1 i σ' H' p a _ g1))) (fun i x σ' H2 H3 hi p y => by
      obtain ⟨rfl, hx⟩ := y
      obtain ⟨d, hd1, hd2⟩ := g2.get hx
      exact hs H1 i x d σ' H3 e1 hd1 p (hd2.keep (.ex (hk H1 i σ' H3 p)))) (fun σ' H' p => by
        rw [g2.length] at p
        exact hd H1 σ' H' e1 p)⟩⟩
end
end WV
set_option maxRecDepth 100000
set_option maxHeartbeats 2000000
namespace WV
open PySem PySem.Spec PyProof.Rows L2
open Evl (Ex)
theorem tuple_mul1 (l : Addr) (items : Array Value) (n : Nat) (dd : Option Addr) (sl : Array (Option Value)) (u : Tok) :
    Meets (Builtin.«tuple.__mul__» ⟨[.ref l, .int 1 u], []⟩) (fun _ R s => s.heap.get? l = some { cls := .type "tuple", dict := dd, data := .seq items n, slots := sl } ∧ R (.ok (.ret (Value.ref l))) s) :=
  .of_wp fun prog w A R s h => by
    obtain ⟨hp, g, d, tk, os⟩ := s
    obtain ⟨hl, h⟩ := h
    have f1 := AutoSeq1.idx_int
    wp_walk using wpAny_loadPart' hl
    exact ⟨_, rfl, h⟩
/-- tuple * 1 -/
def rRep1 (K : PySem.W.Frag) : R2 := fun x y H Q => ∃ l xs, x = .ref l ∧ y = .int 1 ∧ SqT K H l xs ∧ Q (.ref l) H
theorem op_rep1 {X : Cx} : OpR X (binaryOp .Mult) (rRep1 X.K) := by
  intro pins s σ H x y v u Q I rx ry h
  obtain ⟨l, xs, rfl, rfl, hT, q⟩ := h
  cases rx
  obtain ⟨t, rfl⟩ := ry
  obtain ⟨its, r, ⟨⟨cls, dd, data, sl⟩, ho, hc, n, hd⟩, hs⟩ := I.tuple hT
  simp only at hc hd
  subst hc hd
  refine wpAny_binaryOp_repeat_ref (T := "tuple") (U := "int") (by decide) ⟨_, ho, rfl⟩ (fun s' => typeIs_int s' 1 t) noFill_tuple_mul F.fills_int_mul F.slot_int_rmul repeat_tuple F.slot_int_index.lookup
    (call_meets F.slot_int_rmul (typeIs_int s 1 t) F.entry_int_rmul (F.args_int_rmul_2 _ _) (int_rmul_tuple 1 t l its.toArray n dd sl)
      ⟨ho, rfl, ⟨_, ho, rfl⟩, call_meets F.slot_tuple_mul ⟨_, ho, rfl⟩ F.entry_tuple_mul (F.args_tuple_mul_2 _ _) (tuple_mul1 l its.toArray n dd sl t) ⟨ho, ?_⟩⟩)
  exact ⟨.ref l, H, I, rfl, q⟩
theorem op_mulU {X : Cx} : OpR X (binaryOp .Mult) (rU (rI CMul (fun i j => .int (i * j))) (rU (rRepT X.K) (rRep1 X.K))) := op_mul.or (op_repT.or op_rep1)
def repD (n : Nat) (ds : List T) : List T := (List.replicate n ds).flatten
theorem Tds.rep {H : Hp} {vs : List V} {ds : List T} (h : Tds H vs ds) : ∀ n : Nat, Tds H (List.replicate n vs).flatten (repD n ds)
  | 0 => .nil
  | n + 1 => by
    unfold repD
    rw [List.replicate_succ, List.replicate_succ, List.flatten_cons, List.flatten_cons]
    exact h.append (h.rep n)
section
variable {X : Cx} {K : PySem.W.Frag} {σ : L2.St} {H H' : Hp} {ta tb te : TE} {t u : TT} {d d2 e : T}
theorem ed_mulI {r : R2} {x y : Int} (ha : ED ta σ H (.int x)) (hb : ED tb σ H (.int y)) (hc : CMul x y) : ED (tOp (rU (rI CMul (fun i j => .int (i * j))) r) ta tb) σ H (.int (x * y)) := ed_op ha hb (.l (rd_I hc fun _ => .i _))
theorem ed_rep {r : R2} {ds : List T} {k : Int} (ha : ED ta σ H (.tuple ds)) (hb : ED tb σ H (.int k)) (hn : ds ≠ []) (hk : 1 ≤ k ∧ k ≤ 1000) (hl : ds.length ≤ 1000) : ED (tOp (rU r (rU (rRepT K) (rRep1 K))) ta tb) σ H (.tuple (repD k.toNat ds)) := ed_op ha hb fun v w H1 e hv hw Q q => by
  obtain ⟨a, vs, rfl, g1, g2⟩ := hv.tup_inv
  cases hw.int_inv
  by_cases h1 : k = 1
  · subst h1
    refine .inr (.inr ⟨a, vs, rfl, rfl, .inl (.inl g1), q _ H1 (Ex.refl H1) (.t g1 ?_)⟩)
    unfold repD
    simpa using g2
  · refine .inr (.inl ⟨a, k, vs, rfl, rfl, .inl (.inl g1), fun z => hn ?_, by omega, by omega, by rw [g2.length]; exact hl, fun p hp => q _ _ (Ex.new hp) (.t upd_same ((g2.rep _).keep (.new hp)))⟩)
    have := g2.length
    rw [z] at this
    exact List.eq_nil_of_length_eq_zero this.symm
theorem ed_fdivI {x y : Int} (ha : ED ta σ H (.int x)) (hb : ED tb σ H (.int y)) (hc : CDivN x y) : ED (tOp (rI CDivN fun i j => .int (i.fdiv j)) ta tb) σ H (.int (x.fdiv y)) := ed_op ha hb (rd_I hc fun _ => .i _)
theorem ed_leI {x y : Int} (ha : ED ta σ H (.int x)) (hb : ED tb σ H (.int y)) : ED (tOp (rI0 (fun i j => .bl (decide (i ≤ j)))) ta tb) σ H (.bool (decide (x ≤ y))) := ed_op ha hb (rd_I0 fun _ => .b _)
theorem ed_gtI {x y : Int} (ha : ED ta σ H (.int x)) (hb : ED tb σ H (.int y)) : ED (tOp (rI0 (fun i j => .bl (decide (i > j)))) ta tb) σ H (.bool (decide (x > y))) := ed_op ha hb (rd_I0 fun _ => .b _)
theorem ed_neg {x : Int} (ha : ED ta σ H (.int x)) : ED (tUn (L2.rU fun i => .int (-i)) ta) σ H (.int (-x)) := fun H1 k Q q => ha H1 k _ fun v H2 e2 hv => ⟨x, hv.int_inv, q _ H2 e2 (.i _)⟩
theorem ed_max {x y : Int} (ha : ED ta σ H (.int x)) (hb : ED tb σ H (.int y)) : ED (tCB (fun xs H Q => ∃ i j, xs = [.int i, .int j] ∧ Q (.int (if j > i then j else i)) H) (tCons ta (tCons tb tNil))) σ H (.int (max x y)) := fun H1 k Q q =>
  ha H1 k _ fun v H2 e2 hv => hb H2 (k.trans e2) _ fun w H3 e3 hw => by
    cases hv.int_inv
    cases hw.int_inv
    refine ⟨x, y, rfl, ?_⟩
    have : (if y > x then y else x) = max x y := by
      split <;> omega
    rw [this]
    exact q _ H3 (e2.trans e3) (.i _)
def isNone : T → Bool
  | .none => true
  | _ => false
theorem Td.isN {v : V} (h : Td H v d) : decide (v = .non) = isNone d := by cases h <;> rfl
theorem ed_isN (ha : ED ta σ H d) : ED (tOp (fun x y H Q => y = .non ∧ Q (.bl (decide (x = .non))) H) ta (tC .non)) σ H (.bool (isNone d)) := fun H1 k Q q => ha H1 k _ fun v H2 e2 hv => ⟨rfl, by rw [hv.isN]; exact q _ H2 e2 (.b _)⟩
theorem ed_notN (ha : ED ta σ H d) : ED (tOp (fun x y H Q => y = .non ∧ Q (.bl (!decide (x = .non))) H) ta (tC .non)) σ H (.bool (!isNone d)) := fun H1 k Q q => ha H1 k _ fun v H2 e2 hv => ⟨rfl, by rw [hv.isN]; exact q _ H2 e2 (.b _)⟩
theorem ed_andV {a b : Bool} (h : ED ta σ H (.bool a)) (h2 : a = true → ED tb σ H (.bool b)) : ED (tAndV ta tb) σ H (.bool (a && b)) := fun H1 k Q q => h H1 k _ fun v H2 e2 hv => ⟨a, hv.bl_inv, by
  cases a with
  | true =>
    show tb σ H2 Q
    exact h2 rfl H2 (k.trans e2) Q fun v H3 e3 hv => q v H3 (e2.trans e3) hv
  | false =>
    show Q _ H2
    exact q _ H2 e2 (.b _)⟩
theorem ed_orV {a b : Bool} (h : ED ta σ H (.bool a)) (h2 : a = false → ED tb σ H (.bool b)) : ED (tOrV ta tb) σ H (.bool (a || b)) := fun H1 k Q q => h H1 k _ fun v H2 e2 hv => ⟨a, hv.bl_inv, by
  cases a with
  | true =>
    show Q _ H2
    exact q _ H2 e2 (.b _)
  | false =>
    show tb σ H2 Q
    exact h2 rfl H2 (k.trans e2) Q fun v H3 e3 hv => q v H3 (e2.trans e3) hv⟩
theorem ed_notV {a : Bool} (h : ED ta σ H (.bool a)) : ED (tNotV ta) σ H (.bool (!a)) := fun H1 k Q q => h H1 k _ fun v H2 e2 hv => ⟨a, hv.bl_inv, q _ H2 e2 (.b _)⟩
theorem ed_chain {r r' : R2} {tc : TE} {f : T} {a b : Bool} (ha : ED ta σ H d) (hb : ED tb σ H e) (hr : RD r H d e (.bool a)) (hc : a = true → ED tc σ H f ∧ RD r' H e f (.bool b)) : ED (tChain r r' ta tb tc) σ H (.bool (a && b)) := fun H1 k Q q =>
  ha H1 k _ fun v H2 e2 hv => hb H2 (k.trans e2) _ fun w H3 e3 hw => hr v w H3 ((k.trans e2).trans e3) (hv.keep (.ex e3)) hw _ fun z H4 e4 hz => ⟨a, hz.bl_inv, by
    have ee := ((k.trans e2).trans e3).trans e4
    have ff := ((e2.trans e3).trans e4)
    cases a with
    | false =>
      show Q _ H4
      exact q _ H4 ff (.b _)
    | true =>
      show tc σ H4 fun w' H5 => r' w w' H5 Q
      obtain ⟨h1, h2⟩ := hc rfl
      exact h1 H4 ee _ fun x H5 e5 hx => h2 w x H5 (ee.trans e5) (hw.keep (.ex (e4.trans e5))) hx Q fun z H6 e6 hz => q z H6 ((ff.trans e5).trans e6) hz⟩
theorem rd_leI {x y : Int} : RD (rI0 (fun i j => .bl (decide (i ≤ j)))) H (.int x) (.int y) (.bool (decide (x ≤ y))) := rd_I0 fun _ => .b _
theorem rd_ltI {x y : Int} : RD (rI0 (fun i j => .bl (decide (i < j)))) H (.int x) (.int y) (.bool (decide (x < y))) := rd_I0 fun _ => .b _
/-- low <= x < high -/
theorem ed_in {tc : TE} {x y z : Int} (ha : ED ta σ H (.int x)) (hb : ED tb σ H (.int y)) (hc : ED tc σ H (.int z)) : ED (tChain (rI0 (fun i j => .bl (decide (i ≤ j)))) (rI0 (fun i j => .bl (decide (i < j)))) ta tb tc) σ H (.bool (decide (x ≤ y) && decide (y < z))) := ed_chain ha hb rd_leI fun _ => ⟨hc, rd_ltI⟩
theorem ed_in2 {tc : TE} {x y z : Int} (ha : ED ta σ H (.int x)) (hb : ED tb σ H (.int y)) (hc : ED tc σ H (.int z)) : ED (tChain (rI0 (fun i j => .bl (decide (i ≤ j)))) (rI0 (fun i j => .bl (decide (i ≤ j)))) ta tb tc) σ H (.bool (decide (x ≤ y) && decide (y ≤ z))) := ed_chain ha hb rd_leI fun _ => ⟨hc, rd_leI⟩
/-! isinstance -/
def tyN : T → String
  | .none => "NoneType"
  | .bool _ => "bool"
  | .int _ => "int"
  | .str _ => "str"
  | .tuple _ => "tuple"
  | _ => "list"
theorem Td.ty {v : V} (h : Td H v d) : TyX K H v (.type (tyN d)) := by
  cases h with
  | n => exact .base .non
  | b x => exact .base (.bl x)
  | i x => exact .base (.int x)
  | s x => exact .base (.str x)
  | t h hs => exact .base (.tup h)
def isTup : T → Bool
  | .tuple _ => true
  | _ => false
def isInt : T → Bool
  | .int _ => true
  | .bool _ => true
  | _ => false
def isBool : T → Bool
  | .bool _ => true
  | _ => false
def isStr : T → Bool
  | .str _ => true
  | _ => false
theorem kb_all : kitB "NoneType" "tuple" = some false ∧ kitB "bool" "tuple" = some false ∧ kitB "int" "tuple" = some false ∧ kitB "str" "tuple" = some false ∧ kitB "tuple" "tuple" = some true ∧ kitB "list" "tuple" = some false ∧
  kitB "NoneType" "int" = some false ∧ kitB "bool" "int" = some true ∧ kitB "int" "int" = some true ∧ kitB "str" "int" = some false ∧ kitB "tuple" "int" = some false ∧ kitB "list" "int" = some false ∧
  kitB "NoneType" "bool" = some false ∧ kitB "bool" "bool" = some true ∧ kitB "int" "bool" = some false ∧ kitB "str" "bool" = some false ∧ kitB "tuple" "bool" = some false ∧ kitB "list" "bool" = some false ∧
  kitB "NoneType" "str" = some false ∧ kitB "bool" "str" = some false ∧ kitB "int" "str" = some false ∧ kitB "str" "str" = some true ∧ kitB "tuple" "str" = some false ∧ kitB "list" "str" = some false := by decide +kernel
theorem ed_isi {n : String} {b : Bool} (ha : ED ta σ H d) (hk : kitB (tyN d) n = some b) : ED (tCB (rIsi K) (tCons ta (tCons (tC (.ty n)) tNil))) σ H (.bool b) := fun H1 k Q q =>
  ha H1 k _ fun v H2 e2 hv => ⟨v, .ty n, _, _, b, rfl, .ty n, hv.ty, kit_ty hk, q _ H2 e2 (.b _)⟩
theorem Td.nl {v : V} {xs : List T} (h : Td H v (.list xs)) : False := by cases h
theorem ed_isTup (ha : ED ta σ H d) : ED (tCB (rIsi K) (tCons ta (tCons (tC (.ty "tuple")) tNil))) σ H (.bool (isTup d)) := fun H1 k Q q => ha H1 k _ fun v H2 e2 hv => by
  obtain ⟨k1, k2, k3, k4, k5, _⟩ := kb_all
  refine ⟨v, .ty "tuple", _, _, isTup d, rfl, .ty _, hv.ty, ?_, q _ H2 e2 (.b _)⟩
  cases hv
  · exact kit_ty k1
  · exact kit_ty k2
  · exact kit_ty k3
  · exact kit_ty k4
  · exact kit_ty k5
theorem ed_isInt (ha : ED ta σ H d) : ED (tCB (rIsi K) (tCons ta (tCons (tC (.ty "int")) tNil))) σ H (.bool (isInt d)) := fun H1 k Q q => ha H1 k _ fun v H2 e2 hv => by
  obtain ⟨_, _, _, _, _, _, k1, k2, k3, k4, k5, _⟩ := kb_all
  refine ⟨v, .ty "int", _, _, isInt d, rfl, .ty _, hv.ty, ?_, q _ H2 e2 (.b _)⟩
  cases hv
  · exact kit_ty k1
  · exact kit_ty k2
  · exact kit_ty k3
  · exact kit_ty k4
  · exact kit_ty k5
theorem ed_isBool (ha : ED ta σ H d) : ED (tCB (rIsi K) (tCons ta (tCons (tC (.ty "bool")) tNil))) σ H (.bool (isBool d)) := fun H1 k Q q => ha H1 k _ fun v H2 e2 hv => by
  obtain ⟨_, _, _, _, _, _, _, _, _, _, _, _, k1, k2, k3, k4, k5, _⟩ := kb_all
  refine ⟨v, .ty "bool", _, _, isBool d, rfl, .ty _, hv.ty, ?_, q _ H2 e2 (.b _)⟩
  cases hv
  · exact kit_ty k1
  · exact kit_ty k2
  · exact kit_ty k3
  · exact kit_ty k4
  · exact kit_ty k5
theorem ed_isStr (ha : ED ta σ H d) : ED (tCB (rIsi K) (tCons ta (tCons (tC (.ty "str")) tNil))) σ H (.bool (isStr d)) := fun H1 k Q q => ha H1 k _ fun v H2 e2 hv => by
  obtain ⟨_, _, _, _, _, _, _, _, _, _, _, _, _, _, _, _, _, _, k1, k2, k3, k4, k5, _⟩ := kb_all
  refine ⟨v, .ty "str", _, _, isStr d, rfl, .ty _, hv.ty, ?_, q _ H2 e2 (.b _)⟩
  cases hv
  · exact kit_ty k1
  · exact kit_ty k2
  · exact kit_ty k3
  · exact kit_ty k4
  · exact kit_ty k5
end
end WV
set_option maxRecDepth 100000
set_option maxHeartbeats 4000000
/-! enumerate(tuple). -/
namespace WV
open PySem PySem.Spec PyProof.Rows L2
theorem meets_enumerate_newT (l : Addr) (items : Array Value) (n : Nat) (dct : Option Addr) (sl : Array (Option Value)) :
    Meets (Builtin.«enumerate.__new__» ⟨[.type "enumerate", .ref l], []⟩) (fun _ R s => s.heap.get? l = some { cls := .type "tuple", dict := dct, data := .seq items n, slots := sl } ∧
      R (.ok (.ret (.ref (s.heap.push { cls := .type "tuple_iterator", data := .fields #[.ref l, .int 0 0] }).objs.size)))
        { s with heap := (s.heap.push { cls := .type "tuple_iterator", data := .fields #[.ref l, .int 0 0] }).push { cls := .type "enumerate", data := .fields #[.none, .bool false, .ref s.heap.objs.size, rawInt 0, .none, .none] } }) :=
  .of_wp fun prog w A R s h => by
    obtain ⟨hp, g, d, tk, os⟩ := s; obtain ⟨hl, h⟩ := h
    have hsub := sub_enumerate
    have hL : Heap.IsTuple (Shared.heap ⟨hp, g, d, tk, os⟩) l items := ⟨_, hl, rfl, n, rfl⟩
    wp_walk using AutoSeq1.wpAny_loadPart' hl
    refine wpAny_stack_any fun st => wpAny_pure ?_
    split
    · rename_i c _ _ _ _ _
      cases (c == Value.type "enumerate")
      · wp_walk using AutoSeq1.wpAny_loadPart' hl, wpAny_pyIter_tuple hL
        exact ⟨_, rfl, h⟩
      · wp_walk using AutoSeq1.wpAny_loadPart' hl, wpAny_pyIter_tuple hL
        exact ⟨_, rfl, h⟩
    · wp_walk using AutoSeq1.wpAny_loadPart' hl, wpAny_pyIter_tuple hL
      exact ⟨_, rfl, h⟩
section
variable {prog : Program} {w : World} {A : Around} {E : Value → Shared → Prop} {s : Shared}
theorem call_enumerate_tuple {l : Addr} {items : Array Value} {Q : Value → Shared → Prop} (hL : s.heap.IsTuple l items)
    (h : ∀ h', IsEnum h' (s.heap.objs.size + 1) s.heap.objs.size 0 .none → h'.IsTupleIter s.heap.objs.size l 0 → h'.objs.size = s.heap.objs.size + 2 →
      (∀ b o, s.heap.get? b = some o → h'.get? b = some o) → Q (.ref (s.heap.objs.size + 1)) { s with heap := h' }) :
    wpAny (model prog w) A (call (.type "enumerate") [.ref l]) Q E s := by
  obtain ⟨⟨c, dct, dt, sl⟩, hl, hc, n, hd⟩ := hL
  replace hc : c = .type "tuple" := hc
  replace hd : dt = .seq items n := hd
  subst hc hd
  refine callType_new F.called_enumerate (by decide) (F.typeCall_enumerate_1 _) (F.newCall_enumerate_1 _) (fun obj => F.args_object_init_2 obj _) F.entry_enumerate_new
    (meets_enumerate_newT l items n dct sl) ⟨hl, ?_⟩
  have hz : (s.heap.push { cls := .type "tuple_iterator", data := .fields #[.ref l, .int 0 0] }).objs.size = s.heap.objs.size + 1 := Heap.size_push ..
  show _ ∧ _
  rw [hz]
  have he : IsEnum ((s.heap.push { cls := .type "tuple_iterator", data := .fields #[.ref l, .int 0 0] }).push
      { cls := .type "enumerate", data := .fields #[.none, .bool false, .ref s.heap.objs.size, rawInt 0, .none, .none] }) (s.heap.objs.size + 1) s.heap.objs.size 0 .none := by
    have := Heap.get?_push_size (s.heap.push { cls := .type "tuple_iterator", data := .fields #[.ref l, .int 0 0] })
      (o := { cls := .type "enumerate", data := .fields #[.none, .bool false, .ref s.heap.objs.size, rawInt 0, .none, .none] }) rfl
    rw [hz] at this; exact this
  refine ⟨⟨_, he, rfl⟩, h _ he ⟨_, Heap.get?_push_of_some _ (Heap.get?_push_size _ rfl), rfl, rfl⟩ (by rw [Heap.size_push, hz]) fun b o x => Heap.get?_push_of_some _ (Heap.get?_push_of_some _ x)⟩
end
/-- the tuple at a, each item in a new pair -/
def IteT (K : PySem.W.Frag) (a : Addr) : It :=
  ⟨fun i H => ∃ (xs : List V) (x : V), SqT K H a xs ∧ xs[i]? = some x, fun i H v H' => ∃ T x, v = .ref T ∧ H T = none ∧ H' = upd H T (.tup [.int (i : Nat), x]) ∧ ∀ xs, SqT K H a xs → xs[i]? = some x, fun i H => ∃ xs : List V, SqT K H a xs ∧ xs.length = i⟩
theorem turn_enumT {P : Program} {w : World} {K : PySem.W.Frag} {elts : List Expr} {kk : Nat} {tpos : Pos} (a e it : Addr) :
    Turn P w K (.Tuple elts kk tpos) (IteT K a) [e, it] e (fun i h => (∃ old, IsEnum h e it ((i : Nat) : Int) old) ∧ h.IsTupleIter it a i ∧ e ≠ it) where
  mem := by simp
  obj := fun i h st b hb => by
    obtain ⟨⟨old, he⟩, ⟨o, ho, hc, hd⟩, _⟩ := st
    have e' : b = e ∨ b = it := by simpa using hb
    rcases e' with z | z
    · rw [z]; exact ⟨_, he, fun v q => nomatch q⟩
    · rw [z]; exact ⟨o, ho, fun v q => by rw [hd] at q; cases q⟩
  keep := fun i h h' st k => let ⟨⟨old, he⟩, hi, hne⟩ := st; ⟨⟨old, k e (by simp) _ he⟩, hi.at fun o q => k it (by simp) o q, hne⟩
  item := by
    intro X hP hw hK hc i pins s σ H E I hf st hg
    subst hP hw hK
    obtain ⟨⟨old, he⟩, hit, hne⟩ := st
    obtain ⟨xs, x, hq, hx⟩ := hg
    obtain ⟨its, rv, p, hz⟩ := I.tuple hq
    have p : s.heap.IsTuple a its.toArray := p
    obtain ⟨u, hu, ru⟩ := rv.get hx
    have hel : e < s.heap.objs.size := Heap.lt_size he
    have hil : it < s.heap.objs.size := by obtain ⟨_, q, _⟩ := hit; exact Heap.lt_size q
    have nia : a ≠ it := fun z => by
      subst z
      obtain ⟨o, q, qc, _⟩ := hit
      obtain ⟨o2, q2, qc2, _⟩ := p
      rw [q] at q2
      cases q2
      rw [qc] at qc2
      exact absurd qc2 (by decide)
    have nea : e ≠ a := fun z => by
      subst z
      obtain ⟨o2, q2, qc2, _⟩ := p
      rw [show s.heap.get? e = _ from he] at q2
      cases q2
      exact absurd (show Value.type "enumerate" = Value.type "tuple" from qc2) (by decide)
    have D : PySem.Draws X.prog X.w X.A.in1 it [it, a] its.toArray.size (fun i v => its.toArray[i]? = some v) (fun i h => h.IsTupleIter it a i ∧ h.IsTuple a its.toArray) := PySem.Draws.tuple (show X.A.in1.handled = none from I.ok.hd hc) it a nia its.toArray
    have hi : i < its.toArray.size := by
      have := (List.getElem?_eq_some_iff.mp hu).1
      simpa using this
    refine wpAny_pyNext_enum_itemD D he ⟨hit, p⟩ hi hne (by simp [hne, nea]) fun u' h' tk hP ho hst' hT hsz hk => ?_
    have eu : u' = u := by
      have : its.toArray[i]? = some u := by simpa using hu
      rw [this] at hP
      cases hP
      rfl
    subst eu
    refine ⟨_, rfl, wpAny_letOwnedTupleGo_enum (s := { s with heap := h', toks := tk + 1 }) ho fun h'' he' sb => ?_⟩
    have hT2 : h''.get? s.heap.objs.size = some { cls := .type "tuple", data := .seq #[.int i tk, u'] } := (sb.2 _ (Nat.ne_of_gt hel)).trans hT
    have new : ObjOk X.prog X.w (upd H s.heap.objs.size (.tup [.int (i : Nat), x])) h'' s.heap.objs.size (.tup [.int (i : Nat), x]) :=
      ⟨by show 2 ≤ sizeLine; decide, [.int i tk, u'], .cons ⟨_, rfl⟩ (.cons ru .nil), ⟨_, hT2, rfl, _, rfl⟩⟩
    have I1 : Inv X pins σ (upd H s.heap.objs.size (.tup [.int (i : Nat), x])) { s with heap := h'', toks := tk + 1 } :=
      I.turnedNew (ch := [e, it]) (fun b ob hb q => (sb.2 b (fun z => hb (by simp [z]))).trans (hk b ob (fun z => hb (by simp [z])) (fun z => hb (by simp [z])) q)) hf (Nat.le_refl _) new
    refine ⟨.ref s.heap.objs.size, _, I1, rfl, ⟨_, x, rfl, I.hok.fresh (Nat.le_refl _), rfl, fun ys hy => by rw [I.tuple_inj hy hq]; exact hx⟩, ⟨⟨u', ?_⟩, hst'.1.at fun o q => (sb.2 it (Ne.symm hne)).trans q, hne⟩, fun b hb => ?_⟩
    · have e1 : ((i + 1 : Nat) : Int) = (i : Int) + 1 := by omega
      rw [e1]; exact he'
    · have hb' : b < s.heap.objs.size := by
        have e' : b = e ∨ b = it := by simpa using hb
        rcases e' with z | z
        · rw [z]; exact hel
        · rw [z]; exact hil
      rw [upd_ne (Nat.ne_of_lt hb')]
      exact (hf b hb).1
  done := by
    intro X hP hw hK hc i pins s σ H E I hf st hg
    subst hP hw hK
    obtain ⟨⟨old, he⟩, hit, hne⟩ := st
    obtain ⟨xs, hq, hx⟩ := hg
    obtain ⟨its, rv, p, hz⟩ := I.tuple hq
    obtain ⟨f0, f1, f2, f3, f4, f5⟩ := hf it (by simp)
    have hl := rv.length
    have p : s.heap.IsTuple a its.toArray := p
    have nia : a ≠ it := fun z => by
      subst z
      obtain ⟨o, q, qc, _⟩ := hit
      obtain ⟨o2, q2, qc2, _⟩ := p
      rw [q] at q2
      cases q2
      rw [qc] at qc2
      exact absurd qc2 (by decide)
    have nea : e ≠ a := fun z => by
      subst z
      obtain ⟨o2, q2, qc2, _⟩ := p
      rw [show s.heap.get? e = _ from he] at q2
      cases q2
      exact absurd (show Value.type "enumerate" = Value.type "tuple" from qc2) (by decide)
    have D : PySem.Draws X.prog X.w X.A.in1 it [it, a] its.toArray.size (fun i v => its.toArray[i]? = some v) (fun i h => h.IsTupleIter it a i ∧ h.IsTuple a its.toArray) := PySem.Draws.tuple (show X.A.in1.handled = none from I.ok.hd hc) it a nia its.toArray
    have hi : its.toArray.size = i := by
      rw [List.size_toArray]
      omega
    exact wpAny_pyNext_enum_endD D he ⟨by rw [hi]; exact hit, p⟩ fun h' eb => ⟨rfl, I.turned (t' := s.toks) (fun b o hb q => eb b o hb q) f0 f1 f3 f4 f5⟩
  self := fun A i s Q E st h => let ⟨⟨_, he⟩, _⟩ := st; wpAny_pyIter_enum he h
end WV
set_option maxRecDepth 100000
set_option maxHeartbeats 4000000
/-! enumerate over plain data. -/
namespace WV
open PySem PySem.Spec PyProof.Rows L2
open Evl (Ex)
def iEnumU (K : PySem.W.Frag) (ta : TA) : TI := fun σ H R => ta σ H fun vs H1 => ∃ a, vs = [.ref a] ∧ (((∃ xs, SqL K H1 a xs) ∧ R (Ite K a) H1) ∨ ((∃ xs, SqT K H1 a xs) ∧ R (IteT K a) H1))
theorem pi_enumU {X : Cx} {e : Expr} {ta : TA} {p pos tpos : Pos} {elts : List Expr} {kk : Nat} (hg : Gl X "enumerate") (hm : X.mg "enumerate" = none) (ha : PA X [e] ta) (hs : starEach [e] X.env = [(false, eval e X.env)] := by rfl) :
    PI X (.Tuple elts kk tpos) (.Call (.Name "enumerate" p) [e] [] pos) (iEnumU X.K ta) := by
  refine ⟨fun pins s σ H R I h => ?_⟩
  refine Call_ (ld_blt I hg hm boot_enumerate (PyProof.Rows.callWith_type1 (thn (ha.run pos pins s σ H _ I h) fun us s1 ⟨vs, H1, I1, r1, q1⟩ => ?_) hs rfl))
  obtain ⟨a, ex, q⟩ := q1
  subst ex
  cases r1 with
  | cons r rr =>
    cases rr
    cases r
    rcases q with ⟨⟨xs, hq⟩, q⟩ | ⟨⟨xs, hq⟩, q⟩
    · obtain ⟨its, rv, p', hz⟩ := I1.list hq
      refine call_enumerate_list p'.isList fun h' he hit hsz hk => wpAny_pyIter_enum he ?_
      have I2 : Inv X pins σ H1 { s1 with heap := h' } := I1.kept (t' := s1.toks) hk
      refine ⟨s1.heap.objs.size + 1, [s1.heap.objs.size + 1, s1.heap.objs.size], _, _, H1, rfl, I2, turn_enum a (s1.heap.objs.size + 1) s1.heap.objs.size, ⟨⟨.none, he⟩, hit, Nat.succ_ne_self _⟩, fun b hb => ?_, q⟩
      have e' : b = s1.heap.objs.size + 1 ∨ b = s1.heap.objs.size := by simpa using hb
      have hle : s1.heap.objs.size ≤ b := by
        rcases e' with z | z
        · rw [z]; exact Nat.le_add_right _ _
        · rw [z]; exact Nat.le_refl _
      exact I1.fpOk hle (I1.hok.fresh hle)
    · obtain ⟨its, rv, p', hz⟩ := I1.tuple hq
      refine call_enumerate_tuple (show s1.heap.IsTuple a its.toArray from p') fun h' he hit hsz hk => wpAny_pyIter_enum he ?_
      have I2 : Inv X pins σ H1 { s1 with heap := h' } := I1.kept (t' := s1.toks) hk
      refine ⟨s1.heap.objs.size + 1, [s1.heap.objs.size + 1, s1.heap.objs.size], _, _, H1, rfl, I2, turn_enumT a (s1.heap.objs.size + 1) s1.heap.objs.size, ⟨⟨.none, he⟩, hit, Nat.succ_ne_self _⟩, fun b hb => ?_, q⟩
      have e' : b = s1.heap.objs.size + 1 ∨ b = s1.heap.objs.size := by simpa using hb
      have hle : s1.heap.objs.size ≤ b := by
        rcases e' with z | z
        · rw [z]; exact Nat.le_add_right _ _
        · rw [z]; exact Nat.le_refl _
      exact I1.fpOk hle (I1.hok.fresh hle)
section
variable {K : PySem.W.Frag} {a : Addr} {xs : List V}
theorem walk_enumT : Walk (IteT K a) xs.length (fun H => SqT K H a xs) (YPair (fun i => some (.int (i : Nat))) (fun i => xs[i]?)) := by
  refine ⟨fun i _ hi q => ⟨xs, xs[i], q, by simp [hi]⟩, fun _ q => ⟨xs, q, rfl⟩, fun i H v H' _ q y => ?_⟩
  obtain ⟨T, x, h1, h2, h3, h4⟩ := y
  exact ⟨T, .int (i : Nat), x, h1, h2, h3, rfl, h4 xs q⟩
end
section
variable {X : Cx} {K : PySem.W.Frag} {σ : L2.St} {H H' : Hp} {ta tb te tl : TE} {t u : TT} {d d2 e : T} {gt : TG} {vs : List Nat}
/-- enumerate: what a turn gives, as data -/
theorem ypair_td {xs : List V} {ds : List T} {i : Nat} {H1 H2 H3 : Hp} {v : V} (h : Tds H1 xs ds) (e : Ex H1 H2) (y : YPair (fun i => some (.int (i : Nat))) (fun i => xs[i]?) i H2 v H3) : ∃ d, ds[i]? = some d ∧ Ex H2 H3 ∧ Td H3 v (.tuple [.int (i : Nat), d]) := by
  obtain ⟨p, x, y, rfl, h2, rfl, h4, h5⟩ := y
  obtain ⟨d, hd1, hd2⟩ := h.get h5
  cases h4
  exact ⟨d, hd1, Ex.new h2, .t upd_same (.cons (.i _) (.cons ((hd2.keep (.ex e)).keep (.new h2)) .nil))⟩
theorem el_lcE {ds : List T} (f : Nat → Bool) (g : Nat → T) (h : ED tl σ H (.tuple ds)) (hz : ds.length ≤ 40000)
    (hb : ∀ (i : Nat) (v : V) (d : T) (H1 : Hp), Ex H H1 → ds[i]? = some d → Td H1 v (.tuple [.int (i : Nat), d]) → ∀ Q2 : L2.St → Hp → Prop, (∀ σ2, wipe σ2 vs = wipe σ vs → EB t σ2 H1 (f i) → (f i = true → ED te σ2 H1 (g i)) → Q2 σ2 H1) → gt v (wipe σ vs) H1 Q2) :
    EL (tLc (iEnumU K (tCons tl tNil)) gt t te vs) σ H (gd ds.length f g) := fun H0 e Q q => h H0 e _ fun v H1 e1 hv => by
  obtain ⟨a, xs, rfl, g1, g2⟩ := hv.tup_inv
  refine ⟨a, rfl, .inr ⟨⟨xs, .inl (.inl g1)⟩, fun Dl hD => ?_⟩⟩
  have key := lc_it (walk_enumT (K := K) (a := a) (xs := xs)) (g := gt) (tt := t) (te := te) (vs := vs) (σ := σ) (H1 := H1) (D := Dl) (Qd := Q (.ref Dl)) (fun i H' => Cd H1 Dl (gd i f g) H') (cd_0 hD) (fun i H' _ p => .inl (.inl (p.2.1 a _ g1))) (fun i x H2 H3 hi p y => by
    obtain ⟨d, hd1, e3, hd2⟩ := ypair_td g2 p.2.1 y
    obtain ⟨p1, p2, ws, p3, p4⟩ := p
    have p' : Cd H1 Dl (gd i f g) H3 := ⟨p1, p2.trans e3, ws, e3 Dl _ p3, p4.keep (.ex e3)⟩
    refine hb i x d H3 ((e.trans e1).trans p'.2.1) hd1 hd2 _ fun σ2 w2 ht he => ⟨w2, cd_turn p' (by rw [g2.length] at hi; omega) ht he⟩) (fun H' p => by
      obtain ⟨p1, p2, ws, p3, p4⟩ := p
      rw [g2.length] at p4
      exact q Dl ws H' (Evl.fresh_back e1 p1) (e1.trans p2) p3 p4)
  exact key
variable {D : Ends} {tu tw : TS}
/-- enumerate(tuple) -/
theorem s_forE {ds : List T} (h : ED tl σ H (.tuple ds)) (Pv : Hp → Nat → L2.St → Hp → Prop) (h0 : ∀ H1, Ex H H1 → Pv H1 0 σ H1) (hk : ∀ H1 i σ' H', Pv H1 i σ' H' → Ex H1 H')
    (hs : ∀ H1 (i : Nat) v d σ' H' H2, Ex H H1 → ds[i]? = some d → Pv H1 i σ' H' → Ex H' H2 → Td H2 v (.tuple [.int (i : Nat), d]) → gt v σ' H2 fun σ2 H2 => tu { D with nx := Pv H1 (i + 1), ct := Pv H1 (i + 1), bk := D.nx } σ2 H2) (hd : ∀ H1 σ' H', Ex H H1 → Pv H1 ds.length σ' H' → D.nx σ' H') : tFor (iEnumU K (tCons tl tNil)) gt tu D σ H :=
  h H (Ex.refl H) _ fun v H1 e1 hv => by
    obtain ⟨a, xs, rfl, g1, g2⟩ := hv.tup_inv
    exact ⟨a, rfl, .inr ⟨⟨xs, .inl (.inl g1)⟩, for_it (walk_enumT (K := K) (a := a) (xs := xs)) (Pv H1) (h0 H1 e1) (fun i σ' H' _ p => .inl (.inl (hk H1 i σ' H' p a _ g1))) (fun i x σ' H2 H3 hi p y => by
      obtain ⟨d, hd1, e3, hd2⟩ := ypair_td g2 (hk H1 i σ' H2 p) y
      exact hs H1 i x d σ' H2 H3 e1 hd1 p e3 hd2) (fun σ' H' p => by
        rw [g2.length] at p
        exact hd H1 σ' H' e1 p)⟩⟩
/-- enumerate(list at an address), kept as it is -/
theorem s_forEL {ds : List T} {a : Addr} {xs : List V} (h : ∀ H0, Ex H H0 → ∀ Q : VK, (∀ H1, Ex H0 H1 → Q (.ref a) H1) → tl σ H0 Q) (hl : H a = some (.lst xs)) (hdd : Tds H xs ds) (Pv : Hp → Nat → L2.St → Hp → Prop) (h0 : ∀ H1, Ex H H1 → Pv H1 0 σ H1) (hk : ∀ H1 i σ' H', Pv H1 i σ' H' → Ex H1 H')
    (hs : ∀ H1 (i : Nat) v d σ' H' H2, Ex H H1 → ds[i]? = some d → Pv H1 i σ' H' → Ex H' H2 → Td H2 v (.tuple [.int (i : Nat), d]) → gt v σ' H2 fun σ2 H2 => tu { D with nx := Pv H1 (i + 1), ct := Pv H1 (i + 1), bk := D.nx } σ2 H2) (hd : ∀ H1 σ' H', Ex H H1 → Pv H1 ds.length σ' H' → D.nx σ' H') : tFor (iEnumU K (tCons tl tNil)) gt tu D σ H :=
  h H (Ex.refl H) _ fun H1 e1 => by
    have g1 : H1 a = some (.lst xs) := e1 a _ hl
    have g2 : Tds H1 xs ds := hdd.keep (.ex e1)
    exact ⟨a, rfl, .inl ⟨⟨xs, .inl (.inl g1)⟩, for_it (walk_enum (K := K) (a := a) (xs := xs)) (Pv H1) (h0 H1 e1) (fun i σ' H' _ p => .inl (.inl (hk H1 i σ' H' p a _ g1))) (fun i x σ' H2 H3 hi p y => by
      obtain ⟨d, hd1, e3, hd2⟩ := ypair_td g2 (hk H1 i σ' H2 p) y
      exact hs H1 i x d σ' H2 H3 e1 hd1 p e3 hd2) (fun σ' H' p => by
        rw [g2.length] at p
        exact hd H1 σ' H' e1 p)⟩⟩
end
end WV
set_option maxRecDepth 100000
set_option maxHeartbeats 2000000
/-! Lists that stand at an address, as data. -/
namespace WV
open PySem PySem.Spec PyProof.Rows L2
open Evl (Ex Ev)
def LA (H : Hp) (v : V) (ds : List T) : Prop := ∃ a xs, v = .ref a ∧ H a = some (.lst xs) ∧ Tds H xs ds
theorem LA.keep {H H' : Hp} {v : V} {ds : List T} (e : Ex H H') (h : LA H v ds) : LA H' v ds := by
  obtain ⟨a, xs, rfl, h1, h2⟩ := h
  exact ⟨a, xs, rfl, e a _ h1, h2.keep (.ex e)⟩
theorem LA.dp {K : PySem.W.Frag} {H : Hp} {v : V} {ds : List T} (h : LA H v ds) : Dp K H v (.list ds) := by
  obtain ⟨a, xs, rfl, h1, h2⟩ := h
  exact .lst (.inl (.inl h1)) h2.dp
section
variable {X : Cx} {K : PySem.W.Frag} {σ : L2.St} {H H' : Hp} {ta tb te tl : TE} {t u : TT} {d d2 e : T} {ds es : List T} {v w : V} {gt : TG} {vs : List Nat}
/-- a list, new or not, that is data now -/
def EM (te : TE) (σ : L2.St) (H : Hp) (ds : List T) : Prop := ∀ H1, Ex H H1 → ∀ Q : VK, (∀ v H2, Ex H1 H2 → LA H2 v ds → Q v H2) → te σ H1 Q
theorem em_var {i : Nat} (h : σ[i]? = some (some v)) (hl : LA H v ds) : EM (tVar i) σ H ds := fun H1 e Q q => ⟨v, h, q v H1 (Ex.refl H1) (hl.keep e)⟩
theorem em_new (h : EL te σ H ds) : EM te σ H ds := fun H1 e Q q => h H1 e _ fun p vs H2 _ e2 h1 h2 => q _ H2 e2 ⟨p, vs, rfl, h1, h2⟩
theorem em_nil : EM (tLst tNil) σ H [] := em_new (el_lst ea_nil (by simp))
theorem EM.keep (e : Ex H H') (h : EM te σ H ds) : EM te σ H' ds := fun H1 k Q q => h H1 (e.trans k) Q q
theorem ed_ixM {i : Int} (h : EM ta σ H ds) (hb : ED tb σ H (.int i)) (e : atI ds i = some d) : ED (tOp (rIx K) ta tb) σ H d := fun H1 e1 Q q =>
  h H1 e1 _ fun v H2 e2 hl => hb H2 (e1.trans e2) _ fun w H3 e3 hw => by
    obtain ⟨p, vs, rfl, h1, h2⟩ := hl
    obtain ⟨z, hz1, hz2⟩ := atI_tds (h2.keep (.ex e3)) e
    exact .inl ⟨p, vs, i, z, rfl, hw.int_inv, .inl (.inl (e3 p _ h1)), hz1, q z H3 (e2.trans e3) hz2⟩
theorem ed_lenM (h : EM ta σ H ds) : ED (tCB (fun xs H Q => ∃ p ys, xs = [.ref p] ∧ (SqL K H p ys ∨ SqT K H p ys) ∧ Q (.int ys.length) H) (tCons ta tNil)) σ H (.int ds.length) := fun H1 k Q q =>
  h H1 k _ fun v H2 e2 hv => by
    obtain ⟨a, vs, rfl, g1, g2⟩ := hv
    refine ⟨a, vs, rfl, .inl (.inl (.inl g1)), ?_⟩
    rw [g2.length]
    exact q _ H2 e2 (.i _)
theorem ed_neM (ha : EM ta σ H ds) (hb : EM tb σ H es) (h1 : SeqAt.shaped (.list ds) = true) (h2 : SeqAt.shaped (.list es) = true) : ED (tOp (rNeD K) ta tb) σ H (.bool (!PyData.eqv (.list ds) (.list es))) := fun H1 k Q q =>
  ha H1 k _ fun v H2 e2 hv => hb H2 (k.trans e2) _ fun w H3 e3 hw => ⟨_, _, (hv.keep e3).dp, hw.dp, h1, h2, q _ H3 (e2.trans e3) (.b _)⟩
theorem ed_eqM (ha : EM ta σ H ds) (hb : EM tb σ H es) (h1 : SeqAt.shaped (.list ds) = true) (h2 : SeqAt.shaped (.list es) = true) : ED (tOp (rEqD K) ta tb) σ H (.bool (PyData.eqv (.list ds) (.list es))) := fun H1 k Q q =>
  ha H1 k _ fun v H2 e2 hv => hb H2 (k.trans e2) _ fun w H3 e3 hw => ⟨_, _, (hv.keep e3).dp, hw.dp, h1, h2, q _ H3 (e2.trans e3) (.b _)⟩
theorem ed_inM (ha : ED ta σ H d) (hb : EM tb σ H es) (h1 : SeqAt.shaped d = true) (h2 : SeqAt.shaped (.list es) = true) : ED (tOp (rInD K) ta tb) σ H (.bool (es.any fun z => PyData.eqv z d)) := fun H1 k Q q =>
  ha H1 k _ fun v H2 e2 hv => hb H2 (k.trans e2) _ fun w H3 e3 hw => ⟨_, _, (hv.keep (.ex e3)).dp, hw.dp, h1, h2, q _ H3 (e2.trans e3) (.b _)⟩
theorem ed_niM (ha : ED ta σ H d) (hb : EM tb σ H es) (h1 : SeqAt.shaped d = true) (h2 : SeqAt.shaped (.list es) = true) : ED (tOp (rNotInD K) ta tb) σ H (.bool (!es.any fun z => PyData.eqv z d)) := fun H1 k Q q =>
  ha H1 k _ fun v H2 e2 hv => hb H2 (k.trans e2) _ fun w H3 e3 hw => ⟨_, _, (hv.keep (.ex e3)).dp, hw.dp, h1, h2, q _ H3 (e2.trans e3) (.b _)⟩
/-- l[lo:hi] -/
theorem el_slM {tl th : TO} {lo hi : Option Int} (ha : EM ta σ H ds) (h1 : EO tl σ H lo) (h2 : EO th σ H hi) : EL (tSl (fun x lo hi H Q => rSlL K x lo hi H Q ∨ rSlA K x lo hi H Q) ta tl th) σ H (cutT ds lo hi) := fun H1 k Q q =>
  ha H1 k _ fun v H2 e2 hv => h1 H2 (k.trans e2) _ fun H3 e3 => h2 H3 ((k.trans e2).trans e3) _ fun H4 e4 => by
    obtain ⟨a, xs, rfl, g1, g2⟩ := hv.keep (e3.trans e4)
    exact .inl ⟨a, xs, rfl, .inl (.inl g1), fun p hp => q _ _ _ (Evl.fresh_back ((e2.trans e3).trans e4) hp) (((e2.trans e3).trans e4).trans (Ex.new hp)) upd_same ((cut_tds g2).keep (.new hp))⟩
/-- all(..), any(..) of a list -/
theorem ed_allM {bs : List Bool} (h : EM te σ H (bs.map .bool)) : ED (tCB (rAll K) (tCons te tNil)) σ H (.bool (bs.all id)) := fun H1 e Q q =>
  h H1 e _ fun v H2 e2 ⟨p, xs, ev, h1, h2⟩ => ⟨p, bs, by rw [ev], by rw [← tds_bools h2]; exact .inl (.inl h1), q _ H2 e2 (.b _)⟩
theorem ed_tupM (h : EM te σ H ds) : ED (tCB (fun xs H Q => ∃ p ys, xs = [.ref p] ∧ ((SqL K H p ys ∧ ∀ l, H l = none → Q (.ref l) (upd H l (.tup ys))) ∨ (SqT K H p ys ∧ Q (.ref p) H))) (tCons te tNil)) σ H (.tuple ds) := fun H1 e Q q =>
  h H1 e _ fun v H2 e2 ⟨p, xs, ev, h1, h2⟩ => ⟨p, xs, by rw [ev], .inl ⟨.inl (.inl h1), fun l hl => q _ _ (e2.trans (Ex.new hl)) (.t upd_same (h2.keep (.new hl)))⟩⟩
/-- over a list -/
theorem el_lcM {ds : List T} (f : Nat → Bool) (g : Nat → T) (h : EM tl σ H ds) (hz : ds.length ≤ 40000)
    (hb : ∀ (i : Nat) (v : V) (d : T) (H1 : Hp), Ex H H1 → ds[i]? = some d → Td H1 v d → ∀ Q2 : L2.St → Hp → Prop, (∀ σ2, wipe σ2 vs = wipe σ vs → EB t σ2 H1 (f i) → (f i = true → ED te σ2 H1 (g i)) → Q2 σ2 H1) → gt v (wipe σ vs) H1 Q2) :
    EL (tLc (iSeq K tl) gt t te vs) σ H (gd ds.length f g) := fun H0 e Q q => h H0 e _ fun a H1 e1 hl => by
  obtain ⟨a, xs, rfl, g1, g2⟩ := hl
  refine ⟨a, rfl, .inl ⟨⟨xs, .inl (.inl g1)⟩, fun Dl hD => ?_⟩⟩
  have key := lc_it (walk_list (K := K) (a := a) (xs := xs)) (g := gt) (tt := t) (te := te) (vs := vs) (σ := σ) (H1 := H1) (D := Dl) (Qd := Q (.ref Dl)) (fun i H' => Cd H1 Dl (gd i f g) H') (cd_0 hD) (fun i H' _ p => .inl (.inl (p.2.1 a _ g1))) (fun i x H2 H3 hi p y => by
    obtain ⟨rfl, hx⟩ := y
    obtain ⟨d, hd1, hd2⟩ := g2.get hx
    refine hb i x d H3 ((e.trans e1).trans p.2.1) hd1 (hd2.keep (.ex p.2.1)) _ fun σ2 w2 ht he => ⟨w2, cd_turn p (by rw [g2.length] at hi; omega) ht he⟩) (fun H' p => by
      obtain ⟨p1, p2, ws, p3, p4⟩ := p
      rw [g2.length] at p4
      exact q Dl ws H' (Evl.fresh_back e1 p1) (e1.trans p2) p3 p4)
  exact key
variable {D : Ends} {tu tw : TS}
theorem s_asgM {i : Nat} (h : EM te σ H ds) (k : ∀ v H1, Ex H H1 → LA H1 v ds → D.nx (σ.set i (some v)) H1) : tAsg te (gName i) D σ H := h H (Ex.refl H) _ k
/-- over a list, kept as it is -/
theorem s_forM {ds : List T} (h : EM tl σ H ds) (Pv : Hp → Nat → L2.St → Hp → Prop) (h0 : ∀ H1, Ex H H1 → Pv H1 0 σ H1) (hk : ∀ H1 i σ' H', Pv H1 i σ' H' → Ex H1 H')
    (hs : ∀ H1 (i : Nat) v d σ' H', Ex H H1 → ds[i]? = some d → Pv H1 i σ' H' → Td H' v d → gt v σ' H' fun σ2 H2 => tu { D with nx := Pv H1 (i + 1), ct := Pv H1 (i + 1), bk := D.nx } σ2 H2) (hd : ∀ H1 σ' H', Ex H H1 → Pv H1 ds.length σ' H' → D.nx σ' H') : tFor (iSeq K tl) gt tu D σ H :=
  h H (Ex.refl H) _ fun a H1 e1 hl => by
    obtain ⟨a, xs, rfl, g1, g2⟩ := hl
    exact ⟨a, rfl, .inl ⟨⟨xs, .inl (.inl g1)⟩, for_it (walk_list (K := K) (a := a) (xs := xs)) (Pv H1) (h0 H1 e1) (fun i σ' H' _ p => .inl (.inl (hk H1 i σ' H' p a _ g1))) (fun i x σ' H2 H3 hi p y => by
      obtain ⟨rfl, hx⟩ := y
      obtain ⟨d, hd1, hd2⟩ := g2.get hx
      exact hs H1 i x d σ' H3 e1 hd1 p (hd2.keep (.ex (hk H1 i σ' H3 p)))) (fun σ' H' p => by
        rw [g2.length] at p
        exact hd H1 σ' H' e1 p)⟩⟩
end
end WV
set_option maxRecDepth 100000
/-! Comprehensions whose parts name the frame. -/
namespace WV
open PySem PySem.Spec PyProof.Rows L2
section
variable {X : Cx}
abbrev Bk (α : Type 1) : Type 1 := Shared → Hp → Addr → List (Str × Addr) → List Addr → α
theorem pe_lcD {elt tg iter : Expr} {ifs : List Expr} {scope : Scope} {own : List (Str × Nat)} {pos : Pos} {wi : TI} {g : Shared → Hp → Addr → List (Str × Addr) → List Addr → TG} {tt : Shared → Hp → Addr → List (Str × Addr) → List Addr → TT} {te : Shared → Hp → Addr → List (Str × Addr) → List Addr → TE}
    (s0 : Shared) (H0 : Hp) (hc : X.calm = true) (hN : X.N.Nodup) (hi : PI X tg iter wi) (ok : BlkOk X.N X.env.scope scope own)
    (hg : ∀ (s : Shared) (H : Hp) (C : Addr) (cl : List (Str × Addr)) (fp : List Addr), PG (X.blk s H scope (compEnvC scope cl C X.env) fp) tg (g s H C cl fp)) (ht : ∀ (s : Shared) (H : Hp) (C : Addr) (cl : List (Str × Addr)) (fp : List Addr), PTs (X.blk s H scope (compEnvC scope cl C X.env) fp) ifs (tt s H C cl fp))
    (he : ∀ (s : Shared) (H : Hp) (C : Addr) (cl : List (Str × Addr)) (fp : List Addr), PE (X.blk s H scope (compEnvC scope cl C X.env) fp) elt (te s H C cl fp)) (hs : ∀ x, foldedSetIterable iter X.env x = pure x := by intro _; rfl)
    (eg : ∀ s H C cl fp, g s H C cl fp = g s0 H0 0 [] [] := by intros; rfl) (et : ∀ s H C cl fp, tt s H C cl fp = tt s0 H0 0 [] [] := by intros; rfl) (ee : ∀ s H C cl fp, te s H C cl fp = te s0 H0 0 [] [] := by intros; rfl) :
    PE X (.ListComp elt [⟨tg, iter, ifs, 0⟩] scope pos) (tLc wi (g s0 H0 0 [] []) (tt s0 H0 0 [] []) (te s0 H0 0 [] []) (own.map (·.2))) :=
  pe_lc hc hN hi ok (fun s H C cl fp => eg s H C cl fp ▸ hg s H C cl fp) (fun s H C cl fp => et s H C cl fp ▸ ht s H C cl fp) (fun s H C cl fp => ee s H C cl fp ▸ he s H C cl fp) hs
theorem ps_setLcD {i : Nat} {y : Str} {py : Pos} {elt tg iter : Expr} {ifs : List Expr} {scope : Scope} {own : List (Str × Nat)} {pos spos : Pos} {wi : TI} {g : Shared → Hp → Addr → List (Str × Addr) → List Addr → TG} {tt : Shared → Hp → Addr → List (Str × Addr) → List Addr → TT} {te : Shared → Hp → Addr → List (Str × Addr) → List Addr → TE}
    (s0 : Shared) (H0 : Hp) (hc : X.calm = true) (hN : X.N.Nodup) (hy : X.N[i]? = some y) (hyl : X.env.scope.names.lookup y = some .local)
    (hsw : swapsWith (.ListComp elt [⟨tg, iter, ifs, 0⟩] scope pos) (some (.Name y py)) spos.line X.env = pure true) (hi : PI X tg iter wi) (ok : BlkOk X.N X.env.scope scope own)
    (hg : ∀ (s : Shared) (H : Hp) (C : Addr) (cl : List (Str × Addr)) (fp : List Addr), PG (X.blk s H scope (compEnvC scope cl C X.env) fp) tg (g s H C cl fp)) (ht : ∀ (s : Shared) (H : Hp) (C : Addr) (cl : List (Str × Addr)) (fp : List Addr), PTs (X.blk s H scope (compEnvC scope cl C X.env) fp) ifs (tt s H C cl fp))
    (he : ∀ (s : Shared) (H : Hp) (C : Addr) (cl : List (Str × Addr)) (fp : List Addr), PE (X.blk s H scope (compEnvC scope cl C X.env) fp) elt (te s H C cl fp)) (hs : ∀ x, foldedSetIterable iter X.env x = pure x := by intro _; rfl)
    (eg : ∀ s H C cl fp, g s H C cl fp = g s0 H0 0 [] [] := by intros; rfl) (et : ∀ s H C cl fp, tt s H C cl fp = tt s0 H0 0 [] [] := by intros; rfl) (ee : ∀ s H C cl fp, te s H C cl fp = te s0 H0 0 [] [] := by intros; rfl) :
    PS X (.Assign [.Name y py] (.ListComp elt [⟨tg, iter, ifs, 0⟩] scope pos) spos) (tAsg (tLc wi (g s0 H0 0 [] []) (tt s0 H0 0 [] []) (te s0 H0 0 [] []) (own.map (·.2))) (gName i)) :=
  ps_setLc hc hN hy hyl hsw hi ok (fun s H C cl fp => eg s H C cl fp ▸ hg s H C cl fp) (fun s H C cl fp => et s H C cl fp ▸ ht s H C cl fp) (fun s H C cl fp => ee s H C cl fp ▸ he s H C cl fp) hs
end
end WV
set_option maxRecDepth 100000
set_option maxHeartbeats 2000000
/-! Shapes and equality of plain data. -/
namespace WV
open PySem PySem.Spec PyProof.Rows L2
def sh (n : Nat) (d : T) : Prop := PyData.canLay0 d = true ∧ PyData.depth d ≤ n
theorem sh.mono {n m : Nat} {d : T} (h : sh n d) (e : n ≤ m) : sh m d := ⟨h.1, Nat.le_trans h.2 e⟩
theorem sh.ok {n : Nat} {d : T} (h : sh n d) (e : n ≤ 64 := by decide) : SeqAt.shaped d = true := by
  unfold SeqAt.shaped
  rw [h.1, decide_eq_true (Nat.le_trans h.2 e)]
  rfl
theorem sh_int {n : Nat} {x : Int} : sh n (.int x) := ⟨by simp [PyData.canLay0], by simp [PyData.depth]⟩
theorem sh_bool {n : Nat} {x : Bool} : sh n (.bool x) := ⟨by simp [PyData.canLay0], by simp [PyData.depth]⟩
theorem sh_none {n : Nat} : sh n .none := ⟨by simp [PyData.canLay0], by simp [PyData.depth]⟩
theorem sh_all : ∀ {n : Nat} {ds : List T}, (∀ d ∈ ds, sh n d) → PyData.canLayAll0 ds = true ∧ PyData.depthAll ds ≤ n
  | n, [], _ => ⟨by simp [PyData.canLayAll0], by simp [PyData.depthAll]⟩
  | n, d :: ds, h => by
    have h1 := h d (by simp)
    have h2 := sh_all (n := n) (ds := ds) (fun x hx => h x (List.mem_cons_of_mem _ hx))
    refine ⟨by rw [PyData.canLayAll0, h1.1, h2.1]; rfl, ?_⟩
    rw [PyData.depthAll]
    exact Nat.max_le.mpr ⟨h1.2, h2.2⟩
theorem sh_tup {n : Nat} {ds : List T} (h : ∀ d ∈ ds, sh n d) : sh (n + 1) (.tuple ds) := by
  obtain ⟨h1, h2⟩ := sh_all h
  refine ⟨by rw [PyData.canLay0, h1], ?_⟩
  rw [PyData.depth]
  omega
theorem sh_lst {n : Nat} {ds : List T} (h : ∀ d ∈ ds, sh n d) : sh (n + 1) (.list ds) := by
  obtain ⟨h1, h2⟩ := sh_all h
  refine ⟨by rw [PyData.canLay0, h1], ?_⟩
  rw [PyData.depth]
  omega
theorem sh_nil {n : Nat} : sh (n + 1) (.tuple []) := sh_tup (fun d h => by cases h)
theorem sh_nilL {n : Nat} : sh (n + 1) (.list []) := sh_lst (fun d h => by cases h)
theorem sh_gd {n m : Nat} {f : Nat → Bool} {g : Nat → T} (h : ∀ i, sh m (g i)) : sh (m + 1) (.list (gd n f g)) := sh_lst (fun d hd => by
  unfold gd at hd
  obtain ⟨i, _, rfl⟩ := List.mem_map.mp hd
  exact h i)
/-- a word -/
def W (ns : List Int) : T := .tuple (ns.map .int)
theorem sh_W {n : Nat} {ns : List Int} : sh (n + 1) (W ns) := sh_tup (fun d hd => by
  obtain ⟨i, _, rfl⟩ := List.mem_map.mp hd
  exact sh_int)
theorem eqv_ints : ∀ a b : List Int, PyData.eqvAll (a.map .int) (b.map .int) = decide (a = b)
  | [], [] => by simp [PyData.eqvAll]
  | [], _ :: _ => by simp [PyData.eqvAll]
  | _ :: _, [] => by simp [PyData.eqvAll]
  | x :: a, y :: b => by
    rw [List.map_cons, List.map_cons, PyData.eqvAll, eqv_ints a b, PyData.eqv]
    by_cases h : x = y
    · simp [h]
    · simp [h]
theorem eqv_W (a b : List Int) : PyData.eqv (W a) (W b) = decide (a = b) := by
  unfold W
  rw [PyData.eqv, eqv_ints]
theorem eqv_W0 (a : List Int) : PyData.eqv (W a) (.tuple []) = decide (a = []) := eqv_W a []
theorem eqv_int (x y : Int) : PyData.eqv (.int x) (.int y) = decide (x = y) := by
  rw [PyData.eqv]
  by_cases h : x = y
  · simp [h]
  · simp [h]
theorem eqv_nilL (ds : List T) : PyData.eqv (.list ds) (.list []) = decide (ds = []) := by
  rw [PyData.eqv]
  cases ds with
  | nil => simp [PyData.eqvAll]
  | cons d ds => simp [PyData.eqvAll]
/-- a tuple of words: one list of lists -/
theorem eqv_Ws : ∀ a b : List (List Int), PyData.eqvAll (a.map W) (b.map W) = decide (a = b)
  | [], [] => by simp [PyData.eqvAll]
  | [], _ :: _ => by simp [PyData.eqvAll]
  | _ :: _, [] => by simp [PyData.eqvAll]
  | x :: a, y :: b => by
    rw [List.map_cons, List.map_cons, PyData.eqvAll, eqv_Ws a b, eqv_W]
    by_cases h : x = y
    · simp [h]
    · simp [h]
section
open Evl (Ex)
variable {K : PySem.W.Frag} {σ : L2.St} {H : Hp} {t u : TT} {ta tb te : TE}
theorem g_two {v : V} {d1 d2 : T} {i j : Nat} {Q : L2.St → Hp → Prop} (h : Td H v (.tuple [d1, d2])) (k : ∀ a b, Td H a d1 → Td H b d2 → Q ((σ.set i (some a)).set j (some b)) H) : gTup K 2 (gCons (gName i) (gCons (gName j) gNil)) v σ H Q := by
  obtain ⟨a, vs, rfl, g1, g2⟩ := h.tup_inv
  cases g2 with
  | cons x1 r1 =>
    cases r1 with
    | cons x2 r2 =>
      cases r2
      exact ⟨a, _, rfl, .inl (.inl g1), rfl, _, _, rfl, _, _, rfl, rfl, k _ _ x1 x2⟩
theorem eb_orT (h : EB t σ H true) : EB (tOr t u) σ H true := fun H1 k Q q => h H1 k _ fun H2 e2 => by
  show Q true H2
  exact q H2 e2
theorem eb_andF (h : EB t σ H false) : EB (tAnd t u) σ H false := fun H1 k Q q => h H1 k _ fun H2 e2 => by
  show Q false H2
  exact q H2 e2
theorem ed_ifT {d : T} (h : EB t σ H true) (h1 : ED ta σ H d) : ED (tIf t ta tb) σ H d := ed_if h (fun _ => h1) (fun e => by cases e)
theorem ed_ifF {d : T} (h : EB t σ H false) (h1 : ED tb σ H d) : ED (tIf t ta tb) σ H d := ed_if h (fun e => by cases e) (fun _ => h1)
variable {D : Ends} {tu tw : TS}
theorem s_ifT (h : EB t σ H true) (h1 : ∀ H1, Ex H H1 → tu D σ H1) : tIfS t tu tw D σ H := s_if h (fun _ => h1) (fun e => by cases e)
theorem s_ifF (h : EB t σ H false) (h1 : ∀ H1, Ex H H1 → tw D σ H1) : tIfS t tu tw D σ H := s_if h (fun e => by cases e) (fun _ => h1)
end
end WV
set_option maxRecDepth 100000
set_option maxHeartbeats 2000000
/-! Slices of words; lists made by a test and a value; lassos, in plain lists. -/
namespace WV
open PySem PySem.Spec PyProof.Rows L2
theorem cut_take (ds : List T) (n : Nat) : cutT ds none (some (n : Int)) = ds.take n := by
  unfold cutT
  rw [show HT.sIx ds.length 0 none = 0 from rfl, show HT.sIx ds.length ds.length (some (n : Int)) = min n ds.length from HT.sIx_nat _ _ _, List.drop_zero, Nat.sub_zero]
  rw [List.take_eq_take_iff]
  omega
theorem cut_drop (ds : List T) (n : Nat) : cutT ds (some (n : Int)) none = ds.drop n := by
  unfold cutT
  rw [show HT.sIx ds.length ds.length none = ds.length from rfl, show HT.sIx ds.length 0 (some (n : Int)) = min n ds.length from HT.sIx_nat _ _ _]
  rw [List.take_of_length_le (by rw [List.length_drop]; exact Nat.le_refl _)]
  by_cases h : n ≤ ds.length
  · rw [Nat.min_eq_left h]
  · rw [Nat.min_eq_right (by omega), List.drop_length, List.drop_of_length_le (by omega)]
theorem sIx_neg1 (n d : Nat) : HT.sIx n d (some (-1)) = n - 1 := by
  show (if (-1 : Int) < 0 then ((-1 : Int) + (n : Int)).toNat else min (-1 : Int).toNat n) = _
  rw [if_pos (by decide)]
  omega
theorem cut_init (ds : List T) : cutT ds none (some (-1)) = ds.dropLast := by
  unfold cutT
  rw [show HT.sIx ds.length 0 none = 0 from rfl, sIx_neg1, List.drop_zero, List.dropLast_eq_take, Nat.sub_zero]
theorem cut_last (ds : List T) : cutT ds (some (-1)) none = ds.drop (ds.length - 1) := by
  unfold cutT
  rw [show HT.sIx ds.length ds.length none = ds.length from rfl, sIx_neg1]
  rw [List.take_of_length_le (by rw [List.length_drop]; exact Nat.le_refl _)]
theorem gd_list (ds : List T) (f : T → Bool) (g : T → T) : gd ds.length (fun i => f (ds.getD i .none)) (fun i => g (ds.getD i .none)) = (ds.filter f).map g := by
  have e : (List.range ds.length).map (fun i => ds.getD i .none) = ds := by
    apply List.ext_getElem
    · simp
    · intro i h1 h2
      simp [List.getD, h2]
  have e2 : (ds.filter f).map g = ((((List.range ds.length).map (fun i => ds.getD i .none))).filter f).map g := by rw [e]
  rw [e2, List.filter_map, List.map_map]
  rfl
/-! lassos -/
def repI (n : Nat) (v : List Int) : List Int := (List.replicate n v).flatten
theorem repD_W (n : Nat) (v : List Int) : repD n (v.map .int) = (repI n v).map .int := by
  unfold repD repI
  rw [List.map_flatten, List.map_replicate]
def rootOk (v : List Int) (s : Nat) : Bool := v.length % s == 0 && decide (repI (v.length / s) (v.take s) = v)
def rootSize (v : List Int) : Nat := match (List.range v.length).find? (fun i => rootOk v (i + 1)) with
  | some i => i + 1
  | none => v.length
def root (v : List Int) : List Int := v.take (rootSize v)
theorem rootOk_len {v : List Int} (h : v ≠ []) : rootOk v v.length = true := by
  have : 0 < v.length := List.length_pos_iff.mpr h
  simp [rootOk, Nat.div_self this, repI]
theorem root_find {v : List Int} (h : v ≠ []) : ∃ i, (List.range v.length).find? (fun i => rootOk v (i + 1)) = some i := by
  have : 0 < v.length := List.length_pos_iff.mpr h
  rw [← Option.isSome_iff_exists, List.find?_isSome]
  exact ⟨v.length - 1, by simp; omega, by rw [Nat.sub_add_cancel this]; exact rootOk_len h⟩
theorem rootSize_ok {v : List Int} (h : v ≠ []) : 1 ≤ rootSize v ∧ rootSize v ≤ v.length ∧ rootOk v (rootSize v) = true := by
  obtain ⟨i, hi⟩ := root_find h
  have h1 := List.find?_some hi
  have h2 := List.mem_of_find?_eq_some hi
  rw [List.mem_range] at h2
  unfold rootSize
  rw [hi]
  exact ⟨by simp, h2, h1⟩
theorem root_length {v : List Int} (h : v ≠ []) : (root v).length = rootSize v := by
  unfold root
  rw [List.length_take]
  have := (rootSize_ok h).2.1
  omega
theorem root_ne {v : List Int} (h : v ≠ []) : root v ≠ [] := by
  have h1 := root_length h
  have h2 := (rootSize_ok h).1
  intro e
  rw [e] at h1
  simp at h1
  omega
def rot (v : List Int) : List Int := v.drop (v.length - 1) ++ v.dropLast
theorem rot_length {v : List Int} (h : v ≠ []) : (rot v).length = v.length := by
  have : 0 < v.length := List.length_pos_iff.mpr h
  unfold rot
  rw [List.length_append, List.length_drop, List.length_dropLast]
  omega
theorem rot_ne {v : List Int} (h : v ≠ []) : rot v ≠ [] := by
  have h1 := rot_length h
  have : 0 < v.length := List.length_pos_iff.mpr h
  intro e
  rw [e] at h1
  simp at h1
  omega
def strp : Nat → List Int → List Int → List Int × List Int
  | 0, u, v => (u, v)
  | n + 1, u, v => if u ≠ [] ∧ u.getD (u.length - 1) 0 = v.getD (v.length - 1) 0 then strp n u.dropLast (rot v) else (u, v)
def least (u v : List Int) : List Int × List Int := strp u.length u (root v)
theorem gd_mem {n : Nat} {f : Nat → Bool} {g : Nat → T} {i : Nat} {d : T} (h : (gd n f g)[i]? = some d) : ∃ j, j < n ∧ f j = true ∧ d = g j := by
  have := List.mem_of_getElem? h
  unfold gd at this
  obtain ⟨j, hj, rfl⟩ := List.mem_map.mp this
  obtain ⟨h1, h2⟩ := List.mem_filter.mp hj
  exact ⟨j, List.mem_range.mp h1, h2, rfl⟩
theorem atI_neg1 {α : Type} {xs : List α} {v : α} (h : xs[xs.length - 1]? = some v) : atI xs (-1) = some v := by
  have hl : xs.length - 1 < xs.length := (List.getElem?_eq_some_iff.mp h).1
  unfold atI
  have : ixN xs.length (-1) = some (xs.length - 1) := by
    unfold ixN
    simp
    omega
  rw [this]
  exact h
section
open Evl (Ex)
variable {K : PySem.W.Frag} {σ : L2.St} {H : Hp} {ta tb te : TE} {u v : List Int}
theorem el_is {ds es : List T} (h : EL ta σ H ds) (e : ds = es) : EL ta σ H es := e ▸ h
theorem ed_lenW (ha : ED ta σ H (W v)) : ED (tCB (fun xs H Q => ∃ p ys, xs = [.ref p] ∧ (SqL K H p ys ∨ SqT K H p ys) ∧ Q (.int ys.length) H) (tCons ta tNil)) σ H (.int (v.length : Nat)) := ed_is (ed_len ha) (by rw [List.length_map])
theorem ed_takeW {n : Nat} (ha : ED ta σ H (W v)) (hb : ED tb σ H (.int (n : Nat))) : ED (tSl (fun x lo hi H Q => rSlL K x lo hi H Q ∨ rSlA K x lo hi H Q) ta tNoPart (tPart tb)) σ H (W (v.take n)) := ed_is (ed_sl ha eo_none (eo_some hb)) (by rw [cut_take, W, List.map_take])
theorem ed_dropW {n : Nat} (ha : ED ta σ H (W v)) (hb : ED tb σ H (.int (n : Nat))) : ED (tSl (fun x lo hi H Q => rSlL K x lo hi H Q ∨ rSlA K x lo hi H Q) ta (tPart tb) tNoPart) σ H (W (v.drop n)) := ed_is (ed_sl ha (eo_some hb) eo_none) (by rw [cut_drop, W, List.map_drop])
theorem ed_initW (ha : ED ta σ H (W v)) (hb : ED tb σ H (.int (-1))) : ED (tSl (fun x lo hi H Q => rSlL K x lo hi H Q ∨ rSlA K x lo hi H Q) ta tNoPart (tPart tb)) σ H (W v.dropLast) := ed_is (ed_sl ha eo_none (eo_some hb)) (by rw [cut_init, W, List.map_dropLast])
theorem ed_lastW (ha : ED ta σ H (W v)) (hb : ED tb σ H (.int (-1))) : ED (tSl (fun x lo hi H Q => rSlL K x lo hi H Q ∨ rSlA K x lo hi H Q) ta (tPart tb) tNoPart) σ H (W (v.drop (v.length - 1))) := ed_is (ed_sl ha (eo_some hb) eo_none) (by rw [cut_last, W, List.map_drop, List.length_map])
theorem ed_repW {r : R2} {k : Nat} (ha : ED ta σ H (W v)) (hb : ED tb σ H (.int (k : Nat))) (hn : v ≠ []) (hk : 1 ≤ k ∧ k ≤ 1000) (hl : v.length ≤ 1000) : ED (tOp (WV.rU r (WV.rU (rRepT K) (rRep1 K))) ta tb) σ H (W (repI k v)) :=
  ed_is (ed_rep ha hb (by simpa using hn) (by omega) (by rw [List.length_map]; exact hl)) (by rw [Int.toNat_natCast, repD_W, W])
theorem ed_catW {r r' : R2} (ha : ED ta σ H (W u)) (hb : ED tb σ H (W v)) (hl : u.length + v.length ≤ 100000) : ED (tOp (WV.rU r (WV.rU (rCatA K) r')) ta tb) σ H (W (u ++ v)) := ed_is (ed_addT ha hb (by rw [List.length_map, List.length_map]; exact hl)) (by rw [W, List.map_append])
theorem ed_eqW (ha : ED ta σ H (W u)) (hb : ED tb σ H (W v)) : ED (tOp (rEqD K) ta tb) σ H (.bool (decide (u = v))) := ed_is (ed_eq ha hb (sh_W (n := 0)).ok (sh_W (n := 0)).ok) (by rw [eqv_W])
theorem ed_neW0 (ha : ED ta σ H (W u)) (hb : ED tb σ H (.tuple [])) : ED (tOp (rNeD K) ta tb) σ H (.bool (!decide (u = []))) := ed_is (ed_ne ha hb (sh_W (n := 0)).ok (sh_nil (n := 0)).ok) (by rw [eqv_W0])
theorem ed_eqI {x y : Int} (ha : ED ta σ H (.int x)) (hb : ED tb σ H (.int y)) : ED (tOp (rEqD K) ta tb) σ H (.bool (decide (x = y))) := ed_is (ed_eq ha hb (sh_int (n := 0)).ok (sh_int (n := 0)).ok) (by rw [eqv_int])
theorem ed_neI {x y : Int} (ha : ED ta σ H (.int x)) (hb : ED tb σ H (.int y)) : ED (tOp (rNeD K) ta tb) σ H (.bool (!decide (x = y))) := ed_is (ed_ne ha hb (sh_int (n := 0)).ok (sh_int (n := 0)).ok) (by rw [eqv_int])
theorem getD_map {v : List Int} {i : Nat} (h : i < v.length) : (v.map PyData.int)[i]? = some (.int (v.getD i 0)) := by
  rw [List.getElem?_map, List.getElem?_eq_getElem h]
  simp [List.getD, List.getElem?_eq_getElem h]
theorem ed_ixW {i : Nat} (ha : ED ta σ H (W v)) (hb : ED tb σ H (.int (i : Nat))) (hi : i < v.length) : ED (tOp (rIx K) ta tb) σ H (.int (v.getD i 0)) := ed_ix ha hb (atI_nat (getD_map hi))
theorem ed_ixW1 (ha : ED ta σ H (W v)) (hb : ED tb σ H (.int (-1))) (hv : v ≠ []) : ED (tOp (rIx K) ta tb) σ H (.int (v.getD (v.length - 1) 0)) := ed_ix ha hb (atI_neg1 (by
  have : 0 < v.length := List.length_pos_iff.mpr hv
  rw [List.length_map]
  exact getD_map (by omega)))
theorem fmod_nat (a b : Nat) : Int.fmod (a : Int) (b : Int) = ((a % b : Nat) : Int) := by
  rw [Int.fmod_eq_emod_of_nonneg _ (by omega)]
  rfl
theorem fdiv_nat (a b : Nat) : Int.fdiv (a : Int) (b : Int) = ((a / b : Nat) : Int) := by
  rw [Int.fdiv_eq_ediv_of_nonneg _ (by omega)]
  rfl
/-- a, b = x, y -/
theorem s_par {D : Ends} {i j : Nat} {d1 d2 : T} (h1 : ED ta σ H d1) (h2 : ED tb σ H d2) (k : ∀ a b H1, Ex H H1 → Td H1 a d1 → Td H1 b d2 → D.nx ((σ.set i (some a)).set j (some b)) H1) : tPar i j (tCons ta (tCons tb tNil)) D σ H :=
  h1 H (Ex.refl H) _ fun a H1 e1 ha => h2 H1 e1 _ fun b H2 e2 hb => ⟨a, b, rfl, k a b H2 (e1.trans e2) (ha.keep (.ex e2)) hb⟩
theorem ed_int1 {x : Int} (ha : ED ta σ H (.int x)) : ED (tCB (fun xs H Q => (∃ i, xs = [.int i] ∧ Q (.int i) H) ∨ ∃ k, xs = [.bl k] ∧ Q (.int (if k then 1 else 0)) H) (tCons ta tNil)) σ H (.int x) := fun H1 k Q q => ha H1 k _ fun v H2 e2 hv => .inl ⟨x, by rw [hv.int_inv], q _ H2 e2 (.i _)⟩
end
end WV
set_option maxRecDepth 100000
set_option maxHeartbeats 2000000
/-! Lists that grow. -/
namespace WV
open PySem PySem.Spec PyProof.Rows L2
open Evl (Ex)
def Mut (a : Addr) (H H' : Hp) : Prop := (∀ b o, b ≠ a → H b = some o → H' b = some o) ∧ Kp H H'
theorem Mut.ex {a : Addr} {H0 H H' : Hp} (m : Mut a H H') (e : Ex H0 H) (h : H0 a = none) : Ex H0 H' := fun b o hb => m.1 b o (fun z => by
  rw [z, h] at hb
  cases hb) (e b o hb)
theorem Mut.la {a b : Addr} {H H' : Hp} {ds : List T} (m : Mut a H H') (h : LA H (.ref b) ds) (ne : b ≠ a) : LA H' (.ref b) ds := by
  obtain ⟨p, xs, e, h1, h2⟩ := h
  cases e
  exact ⟨b, xs, rfl, m.1 b _ ne h1, h2.keep m.2⟩
section
variable {K : PySem.W.Frag} {σ : L2.St} {H H' : Hp} {ta tb te : TE} {D : Ends} {tu tw : TS}
theorem s_appG {i : Nat} {a : Addr} {ds : List T} {d : T} (hv : σ[i]? = some (some (.ref a))) (hl : LA H (.ref a) ds) (h : ED te σ H d) (hz : ds.length < 100000) (k : ∀ H', Mut a H H' → LA H' (.ref a) (ds ++ [d]) → D.nx σ H') :
    tDrop (tBM K "list" rAppend (tVar i) (tCons te tNil)) D σ H := by
  obtain ⟨p, xs, e, h1, h2⟩ := hl
  cases e
  refine ⟨_, hv, Or.inl ⟨rfl, xs, .inl (.inl h1)⟩, h H (Ex.refl H) _ fun v H2 e2 hd => ⟨a, xs, v, rfl, rfl, e2 a _ h1, Evl.sz_lt (by rw [h2.length]; exact hz), ?_⟩⟩
  have kp : Kp H2 (upd H2 a (.lst (xs ++ [v]))) := .updL (e2 a _ h1)
  refine k _ ⟨fun b o ne hb => by rw [upd_ne ne]; exact e2 b o hb, (Kp.ex e2).trans kp⟩ ⟨a, _, rfl, upd_same, ?_⟩
  exact ((h2.keep (.ex e2)).append (.cons hd .nil)).keep kp
/-- a = [..] : a new list -/
theorem s_asgN {i : Nat} {ds : List T} (h : EL te σ H ds) (k : ∀ a H1, H a = none → Ex H H1 → LA H1 (.ref a) ds → D.nx (σ.set i (some (.ref a))) H1) : tAsg te (gName i) D σ H := h H (Ex.refl H) _ fun p vs H1 hp e h1 h2 => k p H1 hp e ⟨p, vs, rfl, h1, h2⟩
/-- a, b = [..], x -/
theorem s_parNM {i j : Nat} {ds es : List T} (h1 : EL ta σ H ds) (h2 : EL tb σ H es) (k : ∀ a b H1, a ≠ b → H a = none → H b = none → Ex H H1 → LA H1 (.ref a) ds → LA H1 (.ref b) es → D.nx ((σ.set i (some (.ref a))).set j (some (.ref b))) H1) : tPar i j (tCons ta (tCons tb tNil)) D σ H :=
  h1 H (Ex.refl H) _ fun a xs H1 ha e1 p1 p2 => h2 H1 e1 _ fun b ys H2 hb e2 q1 q2 => ⟨_, _, rfl, k a b H2 (fun z => by rw [← z, p1] at hb; cases hb) ha (Evl.fresh_back e1 hb) (e1.trans e2) ⟨a, xs, rfl, e2 a _ p1, p2.keep (.ex e2)⟩ ⟨b, ys, rfl, q1, q2⟩⟩
theorem s_parND {i j : Nat} {ds : List T} {d : T} (h1 : EL ta σ H ds) (h2 : ED tb σ H d) (k : ∀ a b H1, H a = none → Ex H H1 → LA H1 (.ref a) ds → Td H1 b d → D.nx ((σ.set i (some (.ref a))).set j (some b)) H1) : tPar i j (tCons ta (tCons tb tNil)) D σ H :=
  h1 H (Ex.refl H) _ fun a xs H1 ha e1 p1 p2 => h2 H1 e1 _ fun b H2 e2 hb => ⟨_, _, rfl, k a b H2 ha (e1.trans e2) ⟨a, xs, rfl, e2 a _ p1, p2.keep (.ex e2)⟩ hb⟩
theorem s_parDN {i j : Nat} {ds : List T} {d : T} (h1 : ED ta σ H d) (h2 : EL tb σ H ds) (k : ∀ a b H1, H b = none → Ex H H1 → Td H1 a d → LA H1 (.ref b) ds → D.nx ((σ.set i (some a)).set j (some (.ref b))) H1) : tPar i j (tCons ta (tCons tb tNil)) D σ H :=
  h1 H (Ex.refl H) _ fun a H1 e1 p => h2 H1 e1 _ fun b xs H2 hb e2 q1 q2 => ⟨_, _, rfl, k a b H2 (Evl.fresh_back e1 hb) (e1.trans e2) (p.keep (.ex e2)) ⟨b, xs, rfl, q1, q2⟩⟩
/-- l.index(x) -/
theorem ed_indexM {ds : List T} {d z : T} {j : Nat} (ha : EM ta σ H ds) (hb : ED tb σ H d) (h1 : SeqAt.shaped (.list ds) = true) (h2 : SeqAt.shaped d = true) (hz : ds[j]? = some z) (hj : PyData.eqv z d = true) (hn : ∀ m z', m < j → ds[m]? = some z' → PyData.eqv z' d = false) : ED (tBM K "list" (rIndexD K) ta (tCons tb tNil)) σ H (.int (j : Nat)) := fun H1 k Q q =>
  ha H1 k _ fun v H2 e2 hv => by
    have hv0 := hv
    obtain ⟨a, xs, rfl, g1, g2⟩ := hv
    exact ⟨Or.inl ⟨rfl, xs, .inl (.inl g1)⟩, hb H2 (k.trans e2) _ fun w H3 e3 hw => ⟨a, w, d, ds, j, z, rfl, rfl, (hv0.keep e3).dp, hw.dp, h1, h2, hz, hj, hn, q _ H3 (e2.trans e3) (.i _)⟩⟩
theorem sh_map {α : Type} {n : Nat} {xs : List α} {g : α → T} (h : ∀ x, sh n (g x)) : sh (n + 1) (.list (xs.map g)) := sh_lst (fun d hd => by
  obtain ⟨i, _, rfl⟩ := List.mem_map.mp hd
  exact h i)
theorem any_int (xs : List Int) (x : Int) : ((xs.map PyData.int).any fun z => PyData.eqv z (.int x)) = decide (x ∈ xs) := by
  rw [List.any_map, Bool.eq_iff_iff, List.any_eq_true]
  simp only [Function.comp, eqv_int, decide_eq_true_eq]
  constructor
  · rintro ⟨y, h1, rfl⟩
    exact h1
  · intro h
    exact ⟨x, h, rfl⟩
theorem any_W (xs : List (List Int)) (x : List Int) : ((xs.map W).any fun z => PyData.eqv z (W x)) = decide (x ∈ xs) := by
  rw [List.any_map, Bool.eq_iff_iff, List.any_eq_true]
  simp only [Function.comp, eqv_W, decide_eq_true_eq]
  constructor
  · rintro ⟨y, h1, rfl⟩
    exact h1
  · intro h
    exact ⟨x, h, rfl⟩
end
end WV
set_option maxRecDepth 100000
/-! Plain: what repeats. -/
namespace WV
theorem nodup_le {α : Type} [BEq α] [LawfulBEq α] : ∀ (l L : List α), l.Nodup → (∀ x ∈ l, x ∈ L) → l.length ≤ L.length
  | [], L, _, _ => by simp
  | x :: l, L, hn, h => by
    rw [List.nodup_cons] at hn
    have hx : x ∈ L := h x (by simp)
    have := nodup_le l (L.erase x) hn.2 (fun y hy => (List.mem_erase_of_ne (fun e : y = x => hn.1 (e ▸ hy))).mpr (h y (by simp [hy])))
    rw [List.length_erase_of_mem hx] at this
    have hp : 0 < L.length := List.length_pos_of_mem hx
    rw [List.length_cons]
    omega
section
variable {α : Type} [DecidableEq α]
/-- the m-th is among those ahead -/
def hit (S : Nat → α) (m : Nat) : Bool := (List.range m).any fun j => decide (S j = S m)
theorem hit_iff {S : Nat → α} {m : Nat} : hit S m = true ↔ ∃ j, j < m ∧ S j = S m := by
  unfold hit
  rw [List.any_eq_true]
  constructor
  · rintro ⟨j, h1, h2⟩
    exact ⟨j, List.mem_range.mp h1, of_decide_eq_true h2⟩
  · rintro ⟨j, h1, h2⟩
    exact ⟨j, List.mem_range.mpr h1, decide_eq_true h2⟩
theorem nodup_of {S : Nat → α} : ∀ {m : Nat}, (∀ i, i < m → hit S i = false) → ((List.range m).map S).Nodup
  | 0, _ => by simp
  | m + 1, h => by
    rw [List.range_succ, List.map_append, List.nodup_append]
    refine ⟨nodup_of fun i hi => h i (by omega), by simp, ?_⟩
    intro a ha b hb e
    simp at hb
    subst hb
    subst e
    obtain ⟨j, hj, hj2⟩ := List.mem_map.mp ha
    have h1 := h m (by omega)
    rw [hit_iff.mpr ⟨j, List.mem_range.mp hj, hj2⟩] at h1
    cases h1
/-- one of the first is a hit -/
theorem hit_ex {S : Nat → α} {L : List α} (h : ∀ i, S i ∈ L) : ∃ m, m ≤ L.length ∧ hit S m = true := by
  apply Classical.byContradiction
  intro hn
  have hn' : ∀ i, i < L.length + 1 → hit S i = false := fun i hi => by
    cases e : hit S i with
    | false => rfl
    | true => exact absurd ⟨i, by omega, e⟩ hn
  have := nodup_le _ L (nodup_of hn') (fun x hx => by
    obtain ⟨j, _, rfl⟩ := List.mem_map.mp hx
    exact h j)
  rw [List.length_map, List.length_range] at this
  omega
/-- the first hit, where it hits -/
def per (S : Nat → α) (n : Nat) : Nat := ((List.range (n + 1)).find? (hit S)).getD 0
def pre (S : Nat → α) (n : Nat) : Nat := ((List.range (per S n)).find? (fun j => decide (S j = S (per S n)))).getD 0
theorem per_ok {S : Nat → α} {L : List α} (h : ∀ i, S i ∈ L) : per S L.length ≤ L.length ∧ hit S (per S L.length) = true ∧ ∀ i, i < per S L.length → hit S i = false := by
  obtain ⟨m, h1, h2⟩ := hit_ex h
  have : ((List.range (L.length + 1)).find? (hit S)).isSome := by
    rw [List.find?_isSome]
    exact ⟨m, by simp; omega, h2⟩
  obtain ⟨i, hi⟩ := Option.isSome_iff_exists.mp this
  unfold per
  rw [hi]
  rw [List.find?_range_eq_some] at hi
  obtain ⟨a, b, c⟩ := hi
  simp at b
  exact ⟨by simpa using (by omega : i ≤ L.length), a, fun j hj => by simpa using c j hj⟩
theorem pre_ok {S : Nat → α} {L : List α} (h : ∀ i, S i ∈ L) : pre S L.length < per S L.length ∧ S (pre S L.length) = S (per S L.length) ∧ ∀ j, j < pre S L.length → S j ≠ S (per S L.length) := by
  obtain ⟨_, h2, _⟩ := per_ok h
  obtain ⟨j, j1, j2⟩ := hit_iff.mp h2
  have : ((List.range (per S L.length)).find? (fun j => decide (S j = S (per S L.length)))).isSome := by
    rw [List.find?_isSome]
    exact ⟨j, by simp; omega, decide_eq_true j2⟩
  obtain ⟨i, hi⟩ := Option.isSome_iff_exists.mp this
  unfold pre
  rw [hi]
  rw [List.find?_range_eq_some] at hi
  obtain ⟨a, b, c⟩ := hi
  simp at b
  exact ⟨b, of_decide_eq_true a, fun k hk => by simpa using c k hk⟩
end
end WV
set_option maxRecDepth 100000
set_option maxHeartbeats 2000000
/-! Order of plain data; calls with a list. -/
namespace WV
open PySem PySem.Spec PyProof.Rows L2
open Evl (Ex)
def rLeD (K : PySem.W.Frag) : R2 := fun x y H Q => ∃ d e, Dp K H x d ∧ Dp K H y e ∧ PySem.W.alike d e = true ∧ d ≠ .none ∧ PyData.depth d ≤ 64 ∧ Q (.bl (!PySem.W.dataLt e d)) H
theorem op_leD {X : Cx} (hu : X.A.units + 64 < cLine) : OpR X (compareOp .LtE) (rLeD X.K) := by
  intro pins s σ H x y v u Q I rx ry h
  obtain ⟨d, e, hd, he, ha, hn, hz, q⟩ := h
  obtain ⟨as, r1⟩ := Dp.reads I d x v hd rx
  obtain ⟨bs, r2⟩ := Dp.reads I e y u he ry
  refine PySem.W.le_data r1 r2 ha hn ?_ ⟨.bl _, H, I, rfl, q⟩
  have : min (PyData.depth d) (PyData.depth e) ≤ PyData.depth d := Nat.min_le_left _ _
  omega
/-- a value and a list in, a value out -/
def SpTL (f : T → List T → T → Prop) : Sp := fun vs H Q _ => ∃ v l d ds r, vs = [v, l] ∧ Td H v d ∧ LA H l ds ∧ f d ds r ∧ ∀ z H', Ex H H' → Td H' z r → Q z H'
section
variable {K : PySem.W.Frag} {σ : L2.St} {H H' : Hp} {ta tb te : TE} {D : Ends} {tu tw : TS}
theorem ed_leD {d e : T} (ha : ED ta σ H d) (hb : ED tb σ H e) (h1 : PySem.W.alike d e = true) (hn : d ≠ .none) (hz : PyData.depth d ≤ 64) : ED (tOp (rLeD K) ta tb) σ H (.bool (!PySem.W.dataLt e d)) := fun H1 k Q q =>
  ha H1 k _ fun v H2 e2 hv => hb H2 (k.trans e2) _ fun w H3 e3 hw => ⟨d, e, (hv.keep (.ex e3)).dp, hw.dp, h1, hn, hz, q _ H3 (e2.trans e3) (.b _)⟩
theorem ed_callTL {f : T → List T → T → Prop} {E : XK} {d r : T} {ds : List T} (h1 : ED ta σ H d) (h2 : EM tb σ H ds) (hf : f d ds r) : ED (tCall (SpTL f) [] E (tCons ta (tCons tb tNil))) σ H r := fun H1 k Q q =>
  h1 H1 k _ fun v H2 e2 hv => h2 H2 (k.trans e2) _ fun l H3 e3 hl => ⟨v, l, d, ds, r, rfl, hv.keep (.ex e3), hl, hf, fun z H4 e4 hz => q z H4 ((e2.trans e3).trans e4) hz⟩
theorem sh_str {n : Nat} {x : Str} (h : PyData.strOk x = true) : sh n (.str x) := ⟨by rw [PyData.canLay0]; exact h, by simp [PyData.depth]⟩
theorem gd_bools {α : Type} (xs : List α) (z : α) (f : α → Bool) : gd xs.length (fun _ => true) (fun i => .bool (f (xs.getD i z))) = (xs.map f).map .bool := by
  rw [gd_all]
  apply List.ext_getElem
  · simp
  · intro i h1 h2
    simp at h1 h2
    simp [List.getD, h2]
theorem alike_ints : ∀ a b : List Int, PySem.W.alikeAll (a.map .int) (b.map .int) = true
  | [], _ => by simp [PySem.W.alikeAll]
  | _ :: _, [] => by simp [PySem.W.alikeAll]
  | x :: a, y :: b => by
    rw [List.map_cons, List.map_cons, PySem.W.alikeAll, alike_ints a b, PySem.W.alike]
    rfl
theorem alike_W (a b : List Int) : PySem.W.alike (W a) (W b) = true := by
  unfold W
  rw [PySem.W.alike, alike_ints]
end
end WV
set_option maxRecDepth 100000
set_option maxHeartbeats 2000000
/-! sorted(set(tuple of ints)). -/
namespace WV
open PySem PySem.Spec PyProof.Rows L2
open Evl (Ex)
def insI (x : Int) : List Int → List Int
  | [] => [x]
  | y :: l => if x < y then x :: y :: l else if x = y then y :: l else y :: insI x l
def srtI (ns : List Int) : List Int := ns.foldr insI []
theorem mem_insI {x k : Int} : ∀ {l : List Int}, k ∈ insI x l ↔ k = x ∨ k ∈ l
  | [] => by simp [insI]
  | y :: l => by
    unfold insI
    split
    · simp
    · split
      · rename_i h
        subst h
        simp
      · rw [List.mem_cons, mem_insI (l := l), List.mem_cons]
        constructor
        · rintro (h | h | h)
          · exact .inr (.inl h)
          · exact .inl h
          · exact .inr (.inr h)
        · rintro (h | h | h)
          · exact .inr (.inl h)
          · exact .inl h
          · exact .inr (.inr h)
theorem mem_srtI {k : Int} : ∀ {ns : List Int}, k ∈ srtI ns ↔ k ∈ ns
  | [] => by simp [srtI]
  | x :: ns => by
    show k ∈ insI x (srtI ns) ↔ _
    rw [mem_insI, mem_srtI (ns := ns), List.mem_cons]
theorem insI_up {x : Int} : ∀ {l : List Int}, l.Pairwise (· < ·) → (insI x l).Pairwise (· < ·)
  | [], _ => by simp [insI]
  | y :: l, h => by
    rw [List.pairwise_cons] at h
    unfold insI
    split
    · rename_i hx
      rw [List.pairwise_cons, List.pairwise_cons]
      refine ⟨fun z hz => ?_, h⟩
      rcases List.mem_cons.mp hz with rfl | hz
      · exact hx
      · exact Int.lt_trans hx (h.1 z hz)
    · split
      · rw [List.pairwise_cons]
        exact h
      · rw [List.pairwise_cons]
        refine ⟨fun z hz => ?_, insI_up h.2⟩
        rcases mem_insI.mp hz with rfl | hz
        · omega
        · exact h.1 z hz
theorem srtI_up : ∀ ns : List Int, (srtI ns).Pairwise (· < ·)
  | [] => by simp [srtI]
  | x :: ns => insI_up (srtI_up ns)
theorem up_unique : ∀ {a b : List Int}, a.Pairwise (· < ·) → b.Pairwise (· < ·) → (∀ k, k ∈ a ↔ k ∈ b) → a = b
  | [], [], _, _, _ => rfl
  | [], y :: b, _, _, h => by
    have := (h y).mpr (by simp)
    cases this
  | x :: a, [], _, _, h => by
    have := (h x).mp (by simp)
    cases this
  | x :: a, y :: b, ha, hb, h => by
    rw [List.pairwise_cons] at ha hb
    have hxy : x = y := by
      have h1 := (h x).mp (by simp)
      have h2 := (h y).mpr (by simp)
      rcases List.mem_cons.mp h1 with e | e
      · exact e
      · rcases List.mem_cons.mp h2 with e2 | e2
        · exact e2.symm
        · have := hb.1 x e
          have := ha.1 y e2
          omega
    subst hxy
    congr 1
    refine up_unique ha.2 hb.2 fun k => ?_
    constructor
    · intro hk
      have := (h k).mp (by simp [hk])
      rcases List.mem_cons.mp this with e | e
      · have := ha.1 k hk
        omega
      · exact e
    · intro hk
      have := (h k).mpr (by simp [hk])
      rcases List.mem_cons.mp this with e | e
      · have := hb.1 k hk
        omega
      · exact e
/-- set(tuple of ints) -/
def rSetTup (K : PySem.W.Frag) (w : World) : List V → Hp → VK → Prop := fun xs H Q => ∃ (a : Addr) (ns : List Int), xs = [.ref a] ∧ SqT K H a (ns.map V.int) ∧ ns.length ≤ 1000 ∧ ∀ p c, H p = none → c ≤ ns.length → Q (.ref p) (upd H p (SetO w p (fun j => decide (j ∈ ns)) c))
theorem call_setU {X : Cx} (hcalm : X.calm = true) : CallR X (.type "set") (rSetTup X.K X.w) := by
  intro pins s σ H xs us Q I r h
  obtain ⟨a, ns, rfl, hs, hz, q⟩ := h
  obtain ⟨u, rfl, rx⟩ := vals1 r
  cases rx
  obtain ⟨its, rv, p, hzz⟩ := I.tuple hs
  refine call_set_tupI ns (I.ok.hd hcalm) (show s.heap.IsTuple a its.toArray from p) (by simpa using Vals.ints rv) (by unfold scanBound; omega) fun h' tk c R hc k => ?_
  exact ⟨.ref s.heap.objs.size, upd H s.heap.objs.size (SetO X.w s.heap.objs.size (fun j => decide (j ∈ ns)) c), I.laid (t' := tk) k (Nat.le_refl _) (setO_new R), rfl, q _ c (I.hok.fresh (Nat.le_refl _)) hc⟩
section
variable {K : PySem.W.Frag} {w : World} {σ : L2.St} {H H' : Hp} {ta tb te : TE} {D : Ends} {tu tw : TS}
theorem tds_ints : ∀ {ns : List Int} {vs : List V}, Tds H vs (ns.map .int) → vs = ns.map V.int
  | [], _, .nil => rfl
  | x :: ns, _, .cons h1 h2 => by rw [List.map_cons, h1.int_inv, tds_ints h2]
theorem el_sortedSet {ns : List Int} (ha : ED ta σ H (W ns)) (hz : ns.length < 64) : EL (tCB (rSortedSet w) (tCons (tCB (rSetTup K w) (tCons ta tNil)) tNil)) σ H ((srtI ns).map .int) := fun H1 k Q q =>
  ha H1 k _ fun v H2 e2 hv => by
    obtain ⟨a, vs, rfl, g1, g2⟩ := hv.tup_inv
    have hvs : vs = ns.map V.int := tds_ints g2
    subst hvs
    refine ⟨a, ns, rfl, .inl (.inl g1), by omega, fun p c hp hc => ⟨p, _, c, rfl, upd_same, by omega, fun ns' p' up hm hl hp' => ?_⟩⟩
    have e : ns' = srtI ns := up_unique up (srtI_up ns) fun k => by
      rw [hm k, mem_srtI]
      simp
    have ep : Ex H2 (upd H2 p (SetO w p (fun j => decide (j ∈ ns)) c)) := Ex.new hp
    refine q p' _ _ (Evl.fresh_back (e2.trans ep) hp') ((e2.trans ep).trans (Ex.new hp')) upd_same ?_
    rw [e]
    have : ∀ l : List Int, Tds (upd (upd H2 p (SetO w p (fun j => decide (j ∈ ns)) c)) p' (.lst ((srtI ns).map V.int))) (l.map V.int) (l.map .int) := fun l => by
      induction l with
      | nil => exact .nil
      | cons x l ih => exact .cons (.i _) ih
    exact this _
end
end WV
set_option maxRecDepth 100000
set_option maxHeartbeats 4000000
/-! dict(pairs), d.update(pairs) with keys that are tuples. -/
namespace WV
open PySem PySem.Spec PyProof.Rows L2
open Evl (Ex)
def mergeT (kvs more : List (List L2.Key × V)) : List (List L2.Key × V) := more.foldl (fun acc kv => putK acc kv.1 kv.2) kvs
theorem KT_merge {H : Hp} : ∀ {more : List (List L2.Key × V)} {rs : List (List L2.Key × Addr × Value)} {kvs : List (List L2.Key × V)} {vs : List (List L2.Key × Addr × Value)}, KT H more rs → KT H kvs vs → KT H (mergeT kvs more) (storedAllH vs rs)
  | _, _, _, _, .nil, h => h
  | p :: more, q :: rs, kvs, vs, .cons h t, h2 => by
    have := KT.put h2 p.1 h.2.1 h.2.2
    have e : storedH vs p.1 q.2.1 q.2.2 = storedH vs q.1 q.2.1 q.2.2 := by rw [h.1]
    rw [e] at this
    exact KT_merge (more := more) (rs := rs) (kvs := putK kvs p.1 p.2) (vs := storedH vs q.1 q.2.1 q.2.2) t this
theorem length_mergeT : ∀ (more kvs : List (List L2.Key × V)), (mergeT kvs more).length ≤ kvs.length + more.length
  | [], kvs => by simp [mergeT]
  | p :: more, kvs => by
    have h1 := length_mergeT more (putK kvs p.1 p.2)
    have h2 := length_putK kvs p.1 p.2
    show (mergeT (putK kvs p.1 p.2) more).length ≤ _
    rw [List.length_cons]
    omega
/-- pairs of a tuple and a value -/
def PT (H : Hp) : List Addr → List (List L2.Key × V) → Prop := Paired fun p kv => ∃ b, H p = some (.tup [.ref b, kv.2]) ∧ H b = some (.tup (kv.1.map kV))
section
variable {X : Cx} {pins : List (Addr × Obj)} {σ : L2.St} {H : Hp} {s : Shared}
theorem pairsT_of (I : Inv X pins σ H s) : ∀ {ps : List Addr} {kvs : List (List L2.Key × V)}, PT H ps kvs →
    ∃ qs : List (List L2.Key × Addr × Value), KT H kvs qs ∧ qs.length = ps.length ∧ ∀ (j : Nat) (q : List L2.Key × Addr × Value), qs[j]? = some q → ∃ p, ps[j]? = some p ∧ IsTup s.heap p #[.ref q.2.1, q.2.2]
  | _, _, .nil => ⟨[], .nil, rfl, fun j q e => by simp at e⟩
  | _, _, .cons (a := p) (b := kv) h t => by
    obtain ⟨qs, r, hl, hp⟩ := pairsT_of I t
    obtain ⟨b, h1, h2⟩ := h
    obtain ⟨its, rv, ht, _⟩ := I.tuple (.inl (.inl h1))
    obtain ⟨u, y, ei, ru, ry⟩ := vals2 rv
    subst ei
    cases ru
    refine ⟨(kv.1, b, y) :: qs, .cons ⟨rfl, h2, ry⟩ r, by rw [List.length_cons, List.length_cons, hl], fun j q e => ?_⟩
    cases j with
    | zero =>
      have e' : (kv.1, b, y) = q := Option.some.inj e
      subst e'
      exact ⟨p, rfl, ht⟩
    | succ j =>
      obtain ⟨p', e1, e2⟩ := hp j q (by simpa using e)
      exact ⟨p', by simpa using e1, e2⟩
theorem keysStay (I : Inv X pins σ H s) {d : Addr} (hd : ∀ b xs, H b = some (.tup xs) → b ≠ d) : ∀ {kvs : List (List L2.Key × V)} {qs : List (List L2.Key × Addr × Value)}, KT H kvs qs → KeysStay (tupleKind (mixKind X.prog X.w)) s.heap d [] qs
  | _, _, .nil => fun h' hk x hx => by cases hx
  | _, _, .cons (a := p) (b := q) h t => fun h' hk x hx => by
    rcases List.mem_cons.mp hx with rfl | hx
    · obtain ⟨e1, e2, e3⟩ := h
      rw [e1] at e2
      obtain ⟨o, items, n, ho, hc, hdd, hi⟩ := key_of I.hok e2
      exact ⟨o, items, n, hk _ _ (hd _ _ e2) (by simp) ho, hc, hdd, hi⟩
    · exact keysStay I hd t h' hk x hx
theorem pairArgT {ps : List Addr} {qs : List (List L2.Key × Addr × Value)} {its : List Value} (hits : its = ps.map Value.ref) (hl : qs.length = ps.length) (hp : ∀ (j : Nat) (q : List L2.Key × Addr × Value), qs[j]? = some q → ∃ p, ps[j]? = some p ∧ IsTup s.heap p #[.ref q.2.1, q.2.2]) :
    PairItems s.heap its.toArray (fun j => ps.getD j 0) (qs.map fun q => (Value.ref q.2.1, q.2.2)) := by
  subst hits
  refine ⟨by simp [hl], fun j k v e => ?_⟩
  rw [List.getElem?_map] at e
  cases hq : qs[j]? with
  | none =>
    rw [hq] at e
    cases e
  | some q =>
    rw [hq] at e
    cases e
    obtain ⟨p, h1, h2⟩ := hp j q hq
    have : ps.getD j 0 = p := by simp [List.getD, h1]
    show _ = some (Value.ref (ps.getD j 0)) ∧ PairAt s.heap (ps.getD j 0) (.ref q.2.1) q.2.2
    rw [this]
    exact ⟨by simp [h1], .inl h2⟩
theorem pairsHaveT {qs : List (List L2.Key × Addr × Value)} : PairsHaveH (tupleKind (mixKind X.prog X.w)) (qs.map fun q => (Value.ref q.2.1, q.2.2)).length (PairRel (qs.map fun q => (Value.ref q.2.1, q.2.2))) qs := by
  refine ⟨by simp, fun i key v e => ?_⟩
  have e : (qs.map fun q => (Value.ref q.2.1, q.2.2))[i]? = some (key, v) := e
  rw [List.getElem?_map] at e
  cases hq : qs[i]? with
  | none =>
    rw [hq] at e
    cases e
  | some q =>
    rw [hq] at e
    cases e
    exact ⟨q.1, q.2.1, rfl, rfl⟩
end
/-- dict(pairs), the keys tuples -/
def rDictT (K : PySem.W.Frag) : List V → Hp → VK → Prop := fun xs H Q => ∃ (a : Addr) (ps : List Addr) (kvs : List (List L2.Key × V)), xs = [.ref a] ∧ SqL K H a (ps.map V.ref) ∧ PT H ps kvs ∧ ∀ p, H p = none → Q (.ref p) (upd H p (.dT (mergeT [] kvs)))
theorem call_dictT {X : Cx} (hcalm : X.calm = true) (hu : X.A.units + 64 < cLine) : CallR X (.type "dict") (rDictT X.K) := by
  intro pins s σ H xs us Q I r h
  obtain ⟨a, ps, kvs, rfl, hq, hp, q⟩ := h
  obtain ⟨u, rfl, rx⟩ := vals1 r
  cases rx
  obtain ⟨its, rv, ⟨o, n, ho, hc, hd, hdat⟩, hz⟩ := I.list hq
  have ei := refs_at rv
  obtain ⟨qs, rel, hl, hpr⟩ := pairsT_of I hp
  rw [List.length_map] at hz
  have P := PairArg.list (prog := X.prog) (w := X.w) a its.toArray (fun j => ps.getD j 0) (qs.map fun q => (Value.ref q.2.1, q.2.2))
  refine call_dict_pairsH (knd := tupleKind (mixKind X.prog X.w)) (ps := qs) P (I.ok.hd hcalm) (show X.A.in1.in1.units < cLine from by show X.A.units + 1 + 1 < cLine; omega) ⟨⟨o, n, ho, hc, hd, hdat⟩, pairArgT ei hl hpr⟩ pairsHaveT (keysStay I (fun b xs hb e => by
    have := I.hok.fresh (Nat.le_refl s.heap.objs.size)
    rw [← e, hb] at this
    cases this) rel) (by rw [List.length_map, hl]; exact hz) fun h' tk hD hk => ?_
  obtain ⟨od, es, ep, d1, d2, d3, d4, d5, d6⟩ := hD
  have hm : (s.heap.objs.size == sysModules) = false := beq_eq_false_iff_ne.mpr (Nat.ne_of_gt I.big)
  have hfresh := I.hok.fresh (Nat.le_refl s.heap.objs.size)
  refine ⟨.ref s.heap.objs.size, upd H s.heap.objs.size (.dT (mergeT [] kvs)), I.laid (t' := tk) (fun b o e => hk b o (by simp) e) (Nat.le_refl _) (show ObjOk X.prog X.w _ _ _ (.dT (mergeT [] kvs)) from ⟨?_, hm, storedAllH [] qs, ?_, od, es, ep, d1, d2, d3, d4, d6⟩), rfl, q _ hfresh⟩
  · refine Nat.le_trans (length_mergeT kvs []) ?_
    rw [List.length_nil, Nat.zero_add, rel.length, hl]
    exact hz
  · refine (KT_merge rel .nil).keeps fun b ys hb => ?_
    rw [upd_ne (fun e => by rw [e, hfresh] at hb; cases hb)]
    exact hb
/-- d.update(pairs), the keys tuples -/
def rUpdT (K : PySem.W.Frag) : V → List V → Hp → VK → Prop := fun x xs H Q => ∃ (d a : Addr) (acc : List (List L2.Key × V)) (ps : List Addr) (kvs : List (List L2.Key × V)), x = .ref d ∧ xs = [.ref a] ∧ H d = some (.dT acc) ∧ SqL K H a (ps.map V.ref) ∧ PT H ps kvs ∧ acc.length + ps.length ≤ 100000 ∧ Q .non (upd H d (.dT (mergeT acc kvs)))
theorem mt_updT {X : Cx} (hcalm : X.calm = true) (hu : X.A.units + 64 < cLine) : MtR X "dict.update" (rUpdT X.K) := by
  intro pins s σ H x xs v us Q I rx rxs h
  obtain ⟨d, a, acc, ps, kvs, rfl, rfl, hd, hq, hp, hz0, q⟩ := h
  cases rx
  obtain ⟨u, rfl, ru⟩ := rxs.one
  cases ru
  obtain ⟨its, rv, ⟨o, n, ho, hc, hdn, hdat⟩, hz⟩ := I.list hq
  have ei := refs_at rv
  obtain ⟨qs, rel, hl, hpr⟩ := pairsT_of I hp
  obtain ⟨z0, hsys, xs0, rel0, hD0⟩ := dt_of I.hok hd
  have hlen0 := rel0.length
  have P := PairArg.list (prog := X.prog) (w := X.w) a its.toArray (fun j => ps.getD j 0) (qs.map fun q => (Value.ref q.2.1, q.2.2))
  have hnt : ∀ b xs, H b = some (.tup xs) → b ≠ d := fun b xs hb e => by
    rw [e, hd] at hb
    cases hb
  have hdT : s.TypeIs (.ref d) "dict" := hD0.typeIs
  have hpi := pairArgT ei hl hpr
  refine call_update_pairsH (knd := tupleKind (mixKind X.prog X.w)) (acc := xs0) (ps := qs) P (I.ok.hd hcalm) (show X.A.in1.units < cLine from by show X.A.units + 1 < cLine; omega) ⟨⟨o, n, ho, hc, hdn, hdat⟩, hpi⟩ (fun hm => ?_) pairsHaveT (fun h' hk x hx => ?_) hD0 (by rw [List.length_map, hl, ← hlen0]; exact Evl.sz_of hz0) fun h' tk hD hk => ?_
  · obtain ⟨od, es, ep, d1, d2, _⟩ := hD0
    rcases List.mem_cons.mp hm with e | hm
    · rw [e, ho] at d1
      cases d1
      have := d2.1
      rw [hc] at this
      exact absurd this (by decide)
    · obtain ⟨j, hj, e⟩ := List.mem_map.mp hm
      rw [List.mem_range] at hj
      obtain ⟨i1, i2⟩ := hpi
      have hjj : (qs.map fun q => (Value.ref q.2.1, q.2.2))[j]? = some ((qs.map fun q => (Value.ref q.2.1, q.2.2))[j]) := List.getElem?_eq_getElem hj
      obtain ⟨_, ht⟩ := i2 j _ _ hjj
      rcases ht with ⟨o2, g1, g2, _⟩ | ⟨o2, g1, g2, _⟩
      · replace g1 : s.heap.get? (ps.getD j 0) = some o2 := g1
        rw [e, d1] at g1
        cases g1
        have := d2.1
        rw [g2] at this
        exact absurd this (by decide)
      · replace g1 : s.heap.get? (ps.getD j 0) = some o2 := g1
        rw [e, d1] at g1
        cases g1
        have := d2.1
        rw [g2] at this
        exact absurd this (by decide)
  · rcases List.mem_append.mp hx with hx | hx
    · exact keysStay I hnt rel0 h' hk x hx
    · exact keysStay I hnt rel h' hk x hx
  · obtain ⟨od, es, ep, d1, d2, d3, d4, d5, d6⟩ := hD
    refine ⟨.non, upd H d (.dT (mergeT acc kvs)), I.write (e := d) (t' := tk) (by rw [hd]; trivial) (.inl rfl) (fun b u hb hu => hk b u hb (by simp) hu) ⟨od, d1⟩ (show ObjOk X.prog X.w _ _ _ (.dT (mergeT acc kvs)) from ⟨?_, hsys, storedAllH xs0 qs, ?_, od, es, ep, d1, d2, d3, d4, d6⟩), rfl, q⟩
    · refine Nat.le_trans (length_mergeT kvs acc) ?_
      rw [rel.length, hl]
      exact Evl.sz_of hz0
    · refine (KT_merge rel rel0).keeps fun b ys hb => ?_
      rw [upd_ne (hnt b ys hb)]
      exact hb
end WV
set_option maxRecDepth 100000
set_option maxHeartbeats 4000000
/-! len of dicts, in, a display with a tuple key, tuple[::-1], sorted of one. -/
namespace HT
open PySem PySem.Spec PyProof.Rows
section
variable {prog : Program} {w : World} {A : Around} {E : Value → Shared → Prop} {s : Shared}
theorem fm_congr {α β : Type} {f g : α → Option β} : ∀ {l : List α}, (∀ m ∈ l, f m = g m) → l.filterMap f = l.filterMap g
  | [], _ => rfl
  | x :: l, h => by
    rw [List.filterMap_cons, List.filterMap_cons, h x (by simp), fm_congr (fun m hm => h m (by simp [hm]))]
theorem pick_rev (xs : Array Value) : ((List.range xs.size).filterMap fun (m : Nat) => xs[(((xs.size : Int) - 1) + (m : Int) * (-1)).toNat]?).toArray = xs.toList.reverse.toArray := by
  have e : (List.range xs.size).filterMap (fun (m : Nat) => xs[(((xs.size : Int) - 1) + (m : Int) * (-1)).toNat]?) = (List.range xs.size).filterMap (fun m => xs.toList.reverse[m]?) := by
    apply fm_congr
    intro m hm
    rw [List.mem_range] at hm
    rw [List.getElem?_reverse (by simpa using hm), Array.getElem?_toList]
    congr 1
    have : xs.toList.length = xs.size := by simp
    omega
  rw [e]
  have := PySem.W.krv_all xs.toList.reverse.toArray
  simp at this ⊢
  exact this
theorem getItem_tuple_rev {t sl : Addr} {items : Array Value} {vl vu vs : Value} {Q : Value → Shared → Prop} (ht : IsTup s.heap t items) (hs : s.heap.IsSliceOf sl vl vu vs) (pl : IsPart vl none) (pu : IsPart vu none) (ps : IsPart vs (some (-1)))
    (h : Q (.ref s.heap.objs.size) { s with heap := s.heap.push { cls := .type "tuple", data := .seq items.toList.reverse.toArray } })
    (hsz : items.size ≤ sizeLine) : wpAny (model prog w) A (getItem (.ref t) (.ref sl)) Q E s := by
  obtain ⟨os, hos, hcs, hds⟩ := id hs
  have hTs : s.TypeIs (.ref sl) "slice" := ⟨os, hos, hcs⟩
  unfold getItem
  try with_reducible refine wpAny_holding ?_
  first | refine wpAny_bind (wpAny_pure ?_) | skip
  refine wpAny_bind (wpAny_sequenceKey ht.typeIs (by decide) ?_)
  refine wpAny_bind (wpAny_callSpecial?_slot (name := Str.ofString "__getitem__") ht.typeIs PyProof.Rows.slot_tuple_getitem
    (wpAny_call_entry PyProof.Rows.slot_tuple_getitem ht.typeIs entry_tuple_getitem ?_ (args_tuple_getitem _ _)))
  show wpAny _ _ (Builtin.Tuple.tupleItemsOf (.ref t) >>= _) _ _ s
  refine wpAny_bind (tupleItemsOf_ ht ?_)
  refine wpAny_bind (wpAny_typeOf hTs ?_)
  rw [if_pos (by decide)]
  refine wpAny_bind ?_
  unfold Builtin.Slice.sliceApplied Builtin.Slice.sliceFields
  refine wpAny_bind (wpAny_bind (wpAny_field hos hds (x := vl) rfl (wpAny_bind (wpAny_field hos hds (x := vu) rfl (wpAny_bind (wpAny_field hos hds (x := vs) rfl (wpAny_pure ?_)))))))
  refine wpAny_bind (slicePart_ ps ?_)
  show wpAny _ _ (if ((-1 : Int) == 0) = true then _ else _) _ _ s
  rw [if_neg (by decide)]
  refine wpAny_bind (slicePart_ pl (wpAny_bind (slicePart_ pu (wpAny_bind (wpAny_pure ?_)))))
  show wpAny _ _ (match Builtin.Slice.sliceAdjust none none (-1) (items.size : Int) with | (lo, hi) => pure (lo, (-1 : Int), Builtin.Slice.slicePlaces lo hi (-1))) _ _ s
  have e1 : Builtin.Slice.sliceAdjust none none (-1) (items.size : Int) = ((items.size : Int) - 1, -1) := by
    unfold Builtin.Slice.sliceAdjust
    rfl
  rw [e1]
  have e2 : Builtin.Slice.slicePlaces ((items.size : Int) - 1) (-1) (-1) = items.size := by
    unfold Builtin.Slice.slicePlaces
    rw [if_neg (by decide)]
    simp
    omega
  show wpAny _ _ (pure ((items.size : Int) - 1, (-1 : Int), Builtin.Slice.slicePlaces ((items.size : Int) - 1) (-1) (-1))) _ _ s
  rw [e2]
  refine wpAny_pure ?_
  show wpAny _ _ (if (((items.size : Int) - 1) == 0 && (-1 : Int) == 1 && items.size == items.size) = true then _ else _) _ _ s
  rw [if_neg (by simp), pick_rev]
  have htake : sizeOk (.seq items.toList.reverse.toArray) := by
    show items.toList.reverse.toArray.size ≤ sizeLine
    simpa using hsz
  first
    | exact wpAny_bind (m := Builtin.Tuple.tupleExact _) (wpAny_newObj_type (wpAny_pure ⟨_, rfl, wpAny_pure h⟩) htake)
    | exact wpAny_bind (m := Builtin.Tuple.tupleExact _) (wpAny_newObj_type (wpAny_bind (wpAny_pure (wpAny_pure ⟨_, rfl, wpAny_pure h⟩))) htake)
    | exact wpAny_bind (wpAny_bind (m := Builtin.Tuple.tupleExact _) (wpAny_newObj_type (wpAny_pure (wpAny_pure ⟨_, rfl, wpAny_pure h⟩)) htake))
    | exact wpAny_bind (wpAny_bind (m := Builtin.Tuple.tupleExact _) (wpAny_newObj_type (wpAny_pure ⟨_, rfl, wpAny_pure h⟩) htake))
end
end HT
namespace WV
open PySem PySem.Spec PyProof.Rows L2
open Evl (Ex)
section
variable {X : Cx}
/-- t[::-1] of a tuple -/
def tRevT (K : PySem.W.Frag) (te : TE) : TE := fun σ H Q => te σ H fun x H1 => ∃ a xs, x = .ref a ∧ SqT K H1 a xs ∧ ∀ p, H1 p = none → Q (.ref p) (upd H1 p (.tup xs.reverse))
theorem pe_revT {e : Expr} {te : TE} {k : Nat} {p1 p2 p3 pos : Pos} (he : PE X e te) : PE X (.Subscript e (.Slice none none (some (.UnaryOp .USub (.Constant (.int 1) k p1) p2)) p3) pos) (tRevT X.K te) := by
  refine ⟨fun pins s σ H Q I h => ?_⟩
  refine Subscript_ (thn (he.run pins s σ H _ I h) fun v s1 ⟨x, H1, I1, r1, q1⟩ => ?_)
  obtain ⟨a, xs, ex, hx, q⟩ := q1
  subst ex
  cases r1
  have hst : PO X (some (.UnaryOp .USub (.Constant (.int 1) k p1) p2)) (tPart (tUn (L2.rU fun i => .int (-i)) (tC (.int 1)))) := po_some (pe_un un_neg pe_int)
  refine wpAny_Slice (thn (po_none.run pins s1 σ H1 (fun o H2 => o = none ∧ H2 = H1) I1 ⟨rfl, rfl⟩) fun vl s2 ⟨l, H2, I2, pl, el, e2⟩ => ?_)
  subst el e2
  refine thn (po_none.run pins s2 σ H2 (fun o H3 => o = none ∧ H3 = H2) I2 ⟨rfl, rfl⟩) fun vu s3 ⟨u, H3, I3, pu, eu, e3⟩ => ?_
  subst eu e3
  refine thn (hst.run pins s3 σ H3 (fun o H4 => o = some (-1) ∧ H4 = H3) I3 ⟨1, rfl, -1, rfl, rfl, rfl⟩) fun vs s4 ⟨o, H4, I4, ps, eo, e4⟩ => ?_
  subst eo e4
  have I5 : Inv X pins σ H4 { s4 with heap := s4.heap.push { cls := .type "slice", data := .fields #[vl, vu, vs] } } := I4.kept (t' := s4.toks) fun b ob q => Heap.get?_push_of_some _ q
  obtain ⟨its, r, ht, hz⟩ := I5.tuple hx
  have hlen := r.length
  show wpAny (model X.prog X.w) X.A (subscriptTail e (.Slice none none (some (.UnaryOp .USub (.Constant (.int 1) k p1) p2)) p3) (.ref a) (.ref s4.heap.objs.size)) (EP X pins σ Q) X.xe { s4 with heap := s4.heap.push { cls := .type "slice", data := .fields #[vl, vu, vs] } }
  refine tail_any (ops := [.ref a, .ref s4.heap.objs.size]) ht.typeIs (PyProof.Rows.slot_tuple_getitem.lookup) ?_ (by with_unfolding_all rfl)
  refine HT.getItem_tuple_rev ht (Heap.IsSliceOf.new _ vl vu vs) pl pu ps ?_ (by rw [List.size_toArray]; omega)
  refine ⟨.ref _, _, I5.laid (t' := s4.toks) (o := .tup xs.reverse) (fun b ob q => Heap.get?_push_of_some _ q) (Nat.le_refl _) ?_, rfl, q _ (I5.hok.fresh (Nat.le_refl _))⟩
  exact ⟨by rw [List.length_reverse]; exact hz, _, r.reverse, IsTup.new _ _⟩
/-- len of a list, a tuple, a dict -/
def rLenU (K : PySem.W.Frag) : List V → Hp → VK → Prop := fun xs H Q => (∃ p ys, xs = [.ref p] ∧ (SqL K H p ys ∨ SqT K H p ys) ∧ Q (.int ys.length) H) ∨ (∃ a kvs, xs = [V.ref a] ∧ H a = some (.dK kvs) ∧ Q (.int kvs.length) H) ∨ rLenT xs H Q
theorem call_lenU : CallR X (.builtin "len") (rLenU X.K) := by
  intro pins s σ H xs us Q I r h
  rcases h with h | h | h
  · exact call_len_seq pins s σ H xs us Q I r h
  · exact call_lenD pins s σ H xs us Q I r h
  · exact call_len_dT pins s σ H xs us Q I r h
/-- x in d -/
def rInDk : R2 := fun x y H Q => ∃ a o, y = .ref a ∧ DGet H a x o ∧ Q (.bl o.isSome) H
theorem op_inDk (hu : X.A.units + 1 < cLine) : OpR X (compareOp .In) rInDk := by
  intro pins s σ H x y v u Q I rx ry h
  obtain ⟨a, o, rfl, g, q⟩ := h
  cases ry
  exact d_in hu I g rx fun s' I' => ⟨.bl o.isSome, H, I', rfl, q⟩
/-- sorted of a list of one -/
def rSorted1 (K : PySem.W.Frag) : List V → Hp → VK → Prop := fun vs H Q => ∃ (a : Addr) (y : V), vs = [V.ref a] ∧ SqL K H a [y] ∧ ∀ p : Addr, H p = none → Q (.ref p) (upd H p (.lst [y]))
theorem cr_sorted1 : CallR X (.builtin "sorted") (rSorted1 X.K) := by
  intro pins s σ H vs us Q I r h
  obtain ⟨a, y, rfl, hs, q⟩ := h
  obtain ⟨its, rv, hl, hz⟩ := I.list hs
  rw [Vals.ref1 r]
  obtain ⟨u, rfl, ru⟩ := rv.one
  refine SrtO.sorted_ord SrtO.swo_int hl.isList (by rw [← rv.length]; exact hz) (fun h2 => absurd h2 (by simp)) fun out h1 h2 => ?_
  have ho : out = [u] := List.perm_singleton.mp h2.perm
  subst ho
  obtain ⟨ep, he'⟩ := PyProof.Rows.sortedAll_at s.heap [u] [u].toArray
  exact ⟨.ref _, upd H (s.heap.objs.size + 1) (.lst [y]), I.laid (t' := s.toks) (fun _ _ => PyProof.Rows.sortedAll_old) (Nat.le_succ _) ⟨by show 1 ≤ sizeLine; decide, [u], ep, .cons ru .nil, he'⟩, rfl, q _ (I.hok.fresh (Nat.le_succ _))⟩
/-- {t: v}, the key a tuple -/
def tDispT1 (tk tv : TE) : TE := fun σ H Q => ∀ p, H p = none → tk σ (upd H p (.dT [])) fun x H1 => tv σ H1 fun y H2 => H2 p = some (.dT []) ∧ ∃ b ks, x = .ref b ∧ H2 b = some (.tup (ks.map kV)) ∧ Q (.ref p) (upd H2 p (.dT [(ks, y)]))
theorem pe_dispT1 {k v : Expr} {pos : Pos} {tk tv : TE} (hu : X.A.units + 64 < cLine) (hk : PE X k tk) (hv : PE X v tv) : PE X (.Dict [some k] [v] pos) (tDispT1 tk tv) := by
  refine ⟨fun pins s σ H Q I q => ?_⟩
  have hn := I.hok.fresh (Nat.le_refl s.heap.objs.size)
  have I1 := I.laid (a := s.heap.objs.size) (o := .dT []) (h' := s.heap.push { cls := .type "dict", data := .dict #[] }) (t' := s.toks) (fun _ _ q => Heap.get?_push_of_some _ q) (Nat.le_refl _) (dt_empty s.heap I.big)
  rw [arm_eval_Dict, zip_pairTrees [some k] [v] X.env pos rfl rfl, dictDisplay_pairs (pairTrees [some k] [v] X.env pos) (fun z => by cases z) (show 1 < 17 by decide)]
  refine wpAny_bind (wpAny_standAt (wpAny_bind (wpAny_subDictH (knd := tupleKind (mixKind X.prog X.w)) (Q := fun d s' => wpAny (model X.prog X.w) X.A (pure (Value.ref d)) (EP X pins σ Q) X.xe s') (show X.A.units < cLine by omega) (show 1 ≤ 15 by decide) ?_)))
  refine pairTrees_cons_walk (thn (hk.run pins _ σ _ _ I1 (q _ hn)) fun w1 s1 ⟨x, H1, I2, r1, q1⟩ => thn (hv.run pins s1 σ H1 _ I2 q1) fun w2 s2 ⟨y, H2, I3, r2, q2⟩ => pairTrees_nil_walk ?_)
  obtain ⟨e, b, ks, rfl, hb, q3⟩ := q2
  cases r1
  obtain ⟨z, hd, xs0, r0, dd⟩ := dt_of I3.hok e
  cases r0
  refine ⟨[(ks, b, w2)], ⟨rfl, rfl, key_of I3.hok hb, trivial⟩, dd, fun h' tk hD hs => wpAny_pure ⟨.ref s.heap.objs.size, _, ?_, rfl, q3⟩⟩
  obtain ⟨od, es, ep, d1, d2, d3, d4, d5, d6⟩ := hD
  refine I3.write (e := s.heap.objs.size) (t' := tk) (by rw [e]; trivial) (.inl rfl) (fun c u hc hu => (hs.2 c hc).trans hu) ⟨od, d1⟩ (show ObjOk X.prog X.w _ _ _ (.dT [(ks, y)]) from ⟨by show 1 ≤ sizeLine; decide, hd, storedAllH [] [(ks, b, w2)], ?_, od, es, ep, d1, d2, d3, d4, d6⟩)
  refine Paired.cons ⟨rfl, ?_, r2⟩ .nil
  have hne : b ≠ s.heap.objs.size := fun z => by
    rw [z, e] at hb
    cases hb
  rw [upd_ne hne]
  exact hb
end
end WV
set_option maxRecDepth 100000
set_option maxHeartbeats 4000000
namespace WV
open PySem PySem.Spec PyProof.Rows L2
open Evl (Ex)
section
variable {X : Cx}
theorem pe_orE {e : Expr} {t t' : TE} (h : PE X e t) (h' : PE X e t') : PE X e (fun σ H Q => t σ H Q ∨ t' σ H Q) := by
  refine ⟨fun pins s σ H Q I hw => ?_⟩
  rcases hw with hw | hw
  · exact h.run pins s σ H Q I hw
  · exact h'.run pins s σ H Q I hw
/-- a dict of tuple keys that is never written again -/
def iKeysF (td : TE) : TI := fun σ H R => td σ H fun x H1 => ∃ d kvs, x = .ref d ∧ H1 d = some (.dT kvs) ∧ ∀ o, R (Itkt d o kvs) (upd H1 d (.frz o (.dT kvs)))
theorem pi_keysF {tg e : Expr} {td : TE} (he : PE X e td) : PI X tg e (iKeysF td) := by
  refine ⟨fun pins s σ H R I h => ?_⟩
  refine thn (he.run pins s σ H _ I h) fun u s1 ⟨x, H1, I1, rx, d, kvs, ex, hd, q⟩ => ?_
  subst ex
  obtain rfl : u = Value.ref d := rx
  obtain ⟨o, I2⟩ := I1.lock hd trivial
  obtain ⟨hs, hgd, hx, es, ep, hdt, hsz, ent⟩ := I2.frzT (o := o) (kvs := kvs) upd_same
  refine iter_keys hs hgd hx hdt (pi_one (tk := s1.toks) I2 _ (turn_keysT _ hdt) ⟨_, Heap.get?_push_size _ rfl, rfl, ?_⟩ (q o))
  rw [hsz] <;> rfl
end
end WV
set_option maxRecDepth 100000
set_option maxHeartbeats 4000000
namespace WV
open PySem PySem.Spec PyProof.Rows L2
open Evl (Ex)
theorem nodup_map' {α β : Type} {f : α → β} (hf : ∀ a b, f a = f b → a = b) : ∀ {l : List α}, l.Nodup → (l.map f).Nodup
  | [], _ => by simp
  | x :: l, h => by
    rw [List.nodup_cons] at h
    rw [List.map_cons, List.nodup_cons]
    refine ⟨fun hm => ?_, nodup_map' hf h.2⟩
    obtain ⟨y, hy, e⟩ := List.mem_map.mp hm
    exact h.1 (hf _ _ e ▸ hy)
def kI (ns : List Int) : List L2.Key := ns.map Sum.inl
theorem kI_V (ns : List Int) : (kI ns).map kV = ns.map V.int := by
  unfold kI
  rw [List.map_map]
  rfl
theorem kI_inj {a b : List Int} (h : kI a = kI b) : a = b := by
  unfold kI at h
  induction a generalizing b with
  | nil =>
    cases b with
    | nil => rfl
    | cons _ _ => cases h
  | cons x a ih =>
    cases b with
    | nil => cases h
    | cons y b =>
      simp only [List.map_cons, List.cons.injEq] at h
      obtain ⟨h1, h2⟩ := h
      cases h1
      rw [ih h2]
/-- pairs that go into a dict: (word, True), (number, True) -/
def pT (w : List Int) : T := .tuple [W w, .bool true]
def pI (x : Int) : T := .tuple [.int x, .bool true]
theorem td_PT {H : Hp} : ∀ {L : List (List Int)} {xs : List V}, Tds H xs (L.map pT) → ∃ ps : List Addr, xs = ps.map V.ref ∧ PT H ps (L.map fun w => (kI w, V.bl true)) ∧ ps.length = L.length
  | [], _, .nil => ⟨[], rfl, .nil, rfl⟩
  | w :: L, _, .cons h hs => by
    obtain ⟨ps, e, p, l⟩ := td_PT hs
    obtain ⟨a, vs, rfl, g1, g2⟩ := Td.tup_inv h
    cases g2 with
    | cons x1 r1 =>
      cases r1 with
      | cons x2 r2 =>
        cases r2
        obtain ⟨b, ws, rfl, f1, f2⟩ := x1.tup_inv
        cases x2.bl_inv
        refine ⟨a :: ps, by rw [e]; rfl, .cons ⟨b, g1, ?_⟩ p, by simp [l]⟩
        rw [tds_ints f2] at f1
        show H b = some (.tup ((kI w).map kV))
        rw [kI_V]
        exact f1
theorem td_PK {K : PySem.W.Frag} {H : Hp} : ∀ {L : List Int} {xs : List V}, Tds H xs (L.map pI) → ∃ ps : List Addr, xs = ps.map V.ref ∧ Paired (fun p (kv : L2.Key × V) => SqT K H p [kV kv.1, kv.2]) ps (L.map fun x => (Sum.inl x, V.bl true)) ∧ ps.length = L.length
  | [], _, .nil => ⟨[], rfl, .nil, rfl⟩
  | w :: L, _, .cons h hs => by
    obtain ⟨ps, e, p, l⟩ := td_PK (K := K) hs
    obtain ⟨a, vs, rfl, g1, g2⟩ := Td.tup_inv h
    cases g2 with
    | cons x1 r1 =>
      cases r1 with
      | cons x2 r2 =>
        cases r2
        cases x1.int_inv
        cases x2.bl_inv
        exact ⟨a :: ps, by rw [e]; rfl, .cons (.inl (.inl g1)) p, by simp [l]⟩
theorem mergeT_nodup : ∀ (more acc : List (List L2.Key × V)), ((acc ++ more).map (·.1)).Nodup → mergeT acc more = acc ++ more
  | [], acc, _ => by simp [mergeT]
  | p :: more, acc, h => by
    have hn : valV acc p.1 = none := by
      cases e : valV acc p.1 with
      | none => rfl
      | some v =>
        exfalso
        unfold valV at e
        cases hf : acc.find? (fun kv => decide (kv.1 = p.1)) with
        | none =>
          rw [hf] at e
          cases e
        | some q =>
          have h1 := List.mem_of_find?_eq_some hf
          have h2 : q.1 = p.1 := by simpa using List.find?_some hf
          rw [List.map_append, List.nodup_append] at h
          exact h.2.2 q.1 (List.mem_map.mpr ⟨q, h1, rfl⟩) p.1 (by simp) h2
    show mergeT (putK acc p.1 p.2) more = _
    rw [putK_new _ hn, mergeT_nodup more _ (by rw [List.append_assoc]; exact h), List.append_assoc]
    rfl
theorem mergeK_nodup : ∀ (more acc : List (L2.Key × V)), ((acc ++ more).map (·.1)).Nodup → mergeK acc more = acc ++ more
  | [], acc, _ => by simp [mergeK]
  | p :: more, acc, h => by
    have hn : valV acc p.1 = none := by
      cases e : valV acc p.1 with
      | none => rfl
      | some v =>
        exfalso
        unfold valV at e
        cases hf : acc.find? (fun kv => decide (kv.1 = p.1)) with
        | none =>
          rw [hf] at e
          cases e
        | some q =>
          have h1 := List.mem_of_find?_eq_some hf
          have h2 : q.1 = p.1 := by simpa using List.find?_some hf
          rw [List.map_append, List.nodup_append] at h
          exact h.2.2 q.1 (List.mem_map.mpr ⟨q, h1, rfl⟩) p.1 (by simp) h2
    show mergeK (putK acc p.1 p.2) more = _
    rw [putK_new _ hn, mergeK_nodup more _ (by rw [List.append_assoc]; exact h), List.append_assoc]
    rfl
/-- every key that goes in is there -/
theorem mergeK_has (k : L2.Key) : ∀ (more acc : List (L2.Key × V)), (k ∈ more.map (·.1) ∨ (valV acc k).isSome = true) → (valV (mergeK acc more) k).isSome = true
  | [], acc, h => by
    rcases h with h | h
    · simp at h
    · exact h
  | p :: more, acc, h => by
    show (valV (mergeK (putK acc p.1 p.2) more) k).isSome = true
    refine mergeK_has k more _ ?_
    by_cases e : k = p.1
    · right
      rw [valV_put, if_pos e]
      rfl
    · rcases h with h | h
      · left
        simp [e] at h
        simpa using h
      · right
        rw [valV_put, if_neg e]
        exact h
section
variable {K : PySem.W.Frag} {σ : L2.St} {H H' : Hp} {ta tb te : TE}
def rDictK (K : PySem.W.Frag) : List V → Hp → VK → Prop := fun xs H Q => ∃ (a : Addr) (ps : List Addr) (kvs : List (L2.Key × V)), xs = [.ref a] ∧ SqL K H a (ps.map V.ref) ∧ Paired (fun p kv => SqT K H p [kV kv.1, kv.2]) ps kvs ∧ ∀ p, H p = none → Q (.ref p) (upd H p (.dK (mergeK [] kvs)))
theorem ed_lenDT {L : List (List Int)} (h : EM te σ H (L.map pT)) (hn : L.Nodup) : ED (tCB (rLenU K) (tCons (tCB (rDictT K) (tCons te tNil)) tNil)) σ H (.int (L.length : Nat)) := fun H1 e Q q =>
  h H1 e _ fun v H2 e2 ⟨a, xs, ev, h1, h2⟩ => by
    subst ev
    obtain ⟨ps, rfl, hp, hl⟩ := td_PT h2
    refine ⟨a, ps, _, rfl, .inl (.inl h1), hp, fun p hp' => .inr (.inr ⟨p, _, rfl, upd_same, ?_⟩)⟩
    rw [mergeT_nodup _ [] (by
      rw [List.nil_append, List.map_map]
      exact nodup_map' (f := kI) (fun a b e => kI_inj e) hn), List.nil_append, List.length_map]
    exact q _ _ (e2.trans (Ex.new hp')) (.i _)
theorem ed_lenDK {L : List Int} (h : EM te σ H (L.map pI)) (hn : L.Nodup) : ED (tCB (rLenU K) (tCons (tCB (rDictK K) (tCons te tNil)) tNil)) σ H (.int (L.length : Nat)) := fun H1 e Q q =>
  h H1 e _ fun v H2 e2 ⟨a, xs, ev, h1, h2⟩ => by
    subst ev
    obtain ⟨ps, rfl, hp, hl⟩ := td_PK (K := K) h2
    refine ⟨a, ps, _, rfl, .inl (.inl h1), hp, fun p hp' => .inr (.inl ⟨p, _, rfl, upd_same, ?_⟩)⟩
    rw [mergeK_nodup _ [] (by
      rw [List.nil_append, List.map_map]
      exact nodup_map' (f := fun x : Int => (Sum.inl x : L2.Key)) (fun a b e => by cases e; rfl) hn), List.nil_append, List.length_map]
    exact q _ _ (e2.trans (Ex.new hp')) (.i _)
end
end WV
set_option maxRecDepth 100000
set_option maxHeartbeats 4000000
/-! Comprehensions over a dict of one entry. -/
namespace WV
open PySem PySem.Spec PyProof.Rows L2
open Evl (Ex Ev)
/-- what is known of H but the object at d stays -/
def Ox (d : Addr) (H H' : Hp) : Prop := ∀ b o, b ≠ d → H b = some o → H' b = some o
theorem Ox.td {d : Addr} {H H' : Hp} {v : V} {x : T} {u : HO} (o : Ox d H H') (hd : H d = some u) (hu : ∀ xs, u ≠ .tup xs) (h : Td H v x) : Td H' v x := h.keep fun b xs hb => o b _ (fun e => by
  rw [e, hd] at hb
  cases hb
  exact hu xs rfl) hb
theorem gd_1 (r : T) : gd 1 (fun _ => true) (fun _ => r) = [r] := rfl
section
variable {K : PySem.W.Frag} {σ : L2.St} {H : Hp} {td te : TE}
theorem lock_end {d Dl : Addr} {u : HO} {od : Obj} {H1 H' : Hp} {r : T} {Q : VK} (hd : H1 d = some u) (hu : ∀ xs, u ≠ .tup xs) (p : Cd (upd H1 d (.frz od u)) Dl [r] H') (q : ∀ p vs H2, H1 p = none → Ex H1 H2 → H2 p = some (.lst vs) → Tds H2 vs [r] → Q (.ref p) H2) : H' d = some (.frz od u) ∧ Q (.ref Dl) (upd H' d u) := by
  obtain ⟨p1, p2, vs, p3, p4⟩ := p
  have hdd : H' d = some (.frz od u) := p2 d _ upd_same
  have ne : Dl ≠ d := fun z => by
    rw [z, upd_same] at p1
    cases p1
  refine ⟨hdd, q Dl vs _ (by rw [upd_ne ne] at p1; exact p1) (fun b o hb => ?_) (by rw [upd_ne ne]; exact p3) (p4.keep fun b xs hb => ?_)⟩
  · by_cases e : b = d
    · subst e
      rw [hd] at hb
      cases hb
      exact upd_same
    · rw [upd_ne e]
      exact p2 b o (by rw [upd_ne e]; exact hb)
  · have : b ≠ d := fun e => by
      rw [e, hdd] at hb
      cases hb
    rw [upd_ne this]
    exact hb
theorem el_key1 {d : Addr} {w : List Int} {vt : V} {r : T} {j : Nat} {vs : List Nat} (hd : H d = some (.dT [(kI w, vt)])) (htd : ∀ H0, Ox d H H0 → ∀ Q : VK, (∀ H1, Ex H0 H1 → Q (.ref d) H1) → td σ H0 Q) (hw : ∀ x, wipe ((wipe σ vs).set j (some x)) vs = wipe σ vs)
    (hte : ∀ q H2, Td H2 (.ref q) (W w) → Ox d H H2 → ED te ((wipe σ vs).set j (some (.ref q))) H2 r) : EL (tLockE (tLc (iKeys td) (gName j) tYes te vs)) σ H [r] := fun H1 e Q q => by
  have hd1 := e d _ hd
  refine ⟨d, _, hd1, trivial, fun od => ?_⟩
  have ox : Ox d H (upd H1 d (.frz od (.dT [(kI w, vt)]))) := fun b o ne hb => by
    rw [upd_ne ne]
    exact e b o hb
  refine htd _ ox _ fun Hb eb => ⟨d, od, rfl, .inr ⟨_, eb _ _ upd_same, fun Dl hD => ?_⟩⟩
  exact lc_it (walk_keysT (d := d) (o := od) (kvs := [(kI w, vt)])) (g := gName j) (tt := tYes) (te := te) (vs := vs) (σ := σ) (H1 := Hb) (D := Dl) (fun i H' => Cd Hb Dl (gd i (fun _ => true) (fun _ => r)) H') (cd_0 hD) (fun i H' _ p => p.2.1 d _ (eb _ _ upd_same)) (fun i x H2 H3 hi p y => by
    obtain ⟨rfl, k, v, a, hk, rfl, ha⟩ := y
    have hi0 : i = 0 := by simpa using hi
    subst hi0
    cases hk
    have ox2 : Ox d H H3 := fun b o ne hb => p.2.1 b o (eb _ _ (ox b o ne hb))
    refine ⟨hw _, cd_turn p (by omega) eb_yes fun _ => hte a H3 (.t ha ?_) ox2⟩
    rw [kI_V]
    have : ∀ l : List Int, Tds H3 (l.map V.int) (l.map .int) := fun l => by
      induction l with
      | nil => exact .nil
      | cons x l ih => exact .cons (.i _) ih
    exact this w) (fun H' p => lock_end hd1 (fun xs z => by cases z) (by
      obtain ⟨p1, p2, p3⟩ := p
      exact ⟨Evl.fresh_back eb p1, eb.trans p2, p3⟩) q)
theorem el_val1 {d : Addr} {k : L2.Key} {v : V} {r : T} {j : Nat} {vs : List Nat} (hd : H d = some (.dK [(k, v)])) (htd : ∀ H0, Ox d H H0 → ∀ Q : VK, Q (.ref d) H0 → td σ H0 Q) (hw : ∀ x, wipe ((wipe σ vs).set j (some x)) vs = wipe σ vs)
    (hte : ∀ H2, Ox d H H2 → ED te ((wipe σ vs).set j (some v)) H2 r) : EL (tLockE (tLc (iVals td) (gName j) tYes te vs)) σ H [r] := fun H1 e Q q => by
  have hd1 := e d _ hd
  refine ⟨d, _, hd1, trivial, fun od => ?_⟩
  have ox : Ox d H (upd H1 d (.frz od (.dK [(k, v)]))) := fun b o ne hb => by
    rw [upd_ne ne]
    exact e b o hb
  refine htd _ ox _ ⟨d, od, _, rfl, upd_same, fun Dl hD => ?_⟩
  exact lc_it (walk_values (d := d) (o := od) (kvs := [(k, v)])) (g := gName j) (tt := tYes) (te := te) (vs := vs) (σ := σ) (H1 := upd H1 d (.frz od (.dK [(k, v)]))) (D := Dl) (fun i H' => Cd (upd H1 d (.frz od (.dK [(k, v)]))) Dl (gd i (fun _ => true) (fun _ => r)) H') (cd_0 hD) (fun i H' _ p => p.2.1 d _ upd_same) (fun i x H2 H3 hi p y => by
    obtain ⟨rfl, k', hk⟩ := y
    have hi0 : i = 0 := by simpa using hi
    subst hi0
    cases hk
    have ox2 : Ox d H H3 := fun b o ne hb => p.2.1 b o (ox b o ne hb)
    exact ⟨hw _, cd_turn p (by omega) eb_yes fun _ => hte H3 ox2⟩) (fun H' p => lock_end hd1 (fun xs z => by cases z) p q)
/-- a new dict without entries, walked -/
theorem el_key0 {j : Nat} {vs : List Nat} (htd : ∀ H0, Ex H H0 → ∀ Q : VK, (∀ p H1, H0 p = none → Ex H0 H1 → H1 p = some (.dT []) → Q (.ref p) H1) → td σ H0 Q) : EL (tLc (iKeysF td) (gName j) tYes te vs) σ H [] := fun H1 e Q q => by
  refine htd H1 e _ fun p H2 hp e2 h2 => ⟨p, [], rfl, h2, fun o Dl hD => ?_⟩
  have e3 : Ex H1 (upd H2 p (.frz o (.dT []))) := Ex.mut e2 hp
  exact lc_it (walk_keysT (d := p) (o := o) (kvs := [])) (g := gName j) (tt := tYes) (te := te) (vs := vs) (σ := σ) (H1 := upd H2 p (.frz o (.dT []))) (D := Dl) (fun i H' => Cd (upd H2 p (.frz o (.dT []))) Dl [] H') (cd_0 (f := fun _ => true) (g := fun _ => .none) hD) (fun i H' _ p' => p'.2.1 p _ upd_same) (fun i x H2 H3 hi p y => by simp at hi) (fun H' p' => by
    obtain ⟨p1, p2, vs, p3, p4⟩ := p'
    exact q Dl vs H' (Evl.fresh_back e3 p1) (e3.trans p2) p3 p4)
theorem el_sorted1 {r : T} (h : EL te σ H [r]) : EL (tCB (rSorted1 K) (tCons te tNil)) σ H [r] := fun H1 e Q q =>
  h H1 e _ fun p vs H2 hp e2 h1 h2 => by
    cases h2 with
    | cons x r =>
      cases r
      exact ⟨p, _, rfl, .inl (.inl h1), fun l hl => q l _ _ (Evl.fresh_back e2 hl) (e2.trans (Ex.new hl)) upd_same (.cons (x.keep (.new hl)) .nil)⟩
end
end WV
set_option maxRecDepth 100000
set_option maxHeartbeats 4000000
/-! list(reversed(list)). -/
namespace RT
open PySem PySem.Spec PyProof.Rows L2
section
variable {prog : Program} {w : World} {A : Around} {E : Value → Shared → Prop} {s : Shared}
theorem init_rev {R : Result → Shared → Prop} {S it l : Addr} {items : Array Value} (hh : A.handled = none) (hit : s.heap.IsRevIter it l ((items.size : Int) - 1)) (hl : s.heap.IsList l items) (hne : l ≠ it) (hn : items.size ≤ sizeLine) (hSi : S ≠ it) (hSl : S ≠ l) (hS : s.heap.get? S = some { cls := .type "list", data := .seq #[] })
    (hR : ∀ h' tk acc' c', (∀ b o, b ≠ S → b ≠ it → s.heap.get? b = some o → h'.get? b = some o) → h'.get? S = some { cls := .type "list", dict := none, data := .seq acc' c', slots := #[] } → ItemsOf (fun i v => items[items.size - 1 - i]? = some v) acc' items.size → R (.ok (.ret .none)) { s with heap := h', toks := tk }) :
    wpAny (model prog w) A.in1 (Builtin.«list.__init__» ⟨[.ref S, .ref it], []⟩)
      (fun fin s' => match fin with | .done f => R (.ok f) s' | .again c' => c'.quiet = true ∧ codeAny (model prog w) A c' R s') (fun e s' => R (.error e) s') s := by
  show wpAny _ _ (do let old ← Builtin.List.listItems (.ref S); Builtin.List.listUpdate (.ref S) (fun _ => #[]); letGo old.toList.reverse; Builtin.List.listExtendWith (.ref S) (.ref it) .none) _ _ s
  refine wpAny_bind ?_
  unfold Builtin.List.listItems
  refine wpAny_bind (wpAny_seqItems hS rfl (wpAny_pure ?_))
  show wpAny _ _ (updateSeq S (fun _ => #[]) >>= fun _ => letGo (#[] : Array Value).toList.reverse >>= fun _ => Builtin.List.listExtendWith (.ref S) (.ref it) .none) _ _ s
  refine wpAny_bind (wpAny_updateSeq hS rfl ?_)
  have hS₂ := Heap.get?_update_self (Obj.mapSeq (fun _ => (#[] : Array Value))) hS rfl
  have oth : ∀ b o, b ≠ S → s.heap.get? b = some o → (s.heap.update S (Obj.mapSeq (fun _ => (#[] : Array Value)))).get? b = some o :=
    fun b o hb e => (Heap.get?_update_other _ _ (Ne.symm hb)).trans e
  refine wpAny_bind (wpAny_letGo ?_)
  have hit1 : (s.heap.update S (Obj.mapSeq (fun _ => (#[] : Array Value)))).IsRevIter it l ((items.size : Int) - 1) := hit.at fun o e => oth it o hSi.symm e
  have hl1 : (s.heap.update S (Obj.mapSeq (fun _ => (#[] : Array Value)))).IsList l items := hl.at fun o e => oth l o hSl.symm e
  have W := (Walks.listRev (prog := prog) (w := w) (A := A.in1) hh it l hne items).toS
  have hSf : S ∉ [it, l] := by simp only [List.mem_cons, List.not_mem_nil, or_false, not_or]; exact ⟨hSi, hSl⟩
  generalize hhp : s.heap.update S (Obj.mapSeq (fun _ => (#[] : Array Value))) = hp at *
  have hT : ({ s with heap := hp } : Shared).TypeIs (.ref it) "list_reverseiterator" := Heap.IsRevIter.typeIs (s := { s with heap := hp }) hit1
  have h1 : Builtin.List.listSameRef (.ref S) (.ref it) = false := by simp [Builtin.List.listSameRef, hSi]
  unfold Builtin.List.listExtendWith
  refine wpAny_bind (wpAny_typeOf hT ?_)
  rw [if_neg (by rw [h1]; decide)]
  refine wpAny_bind (wpAny_pyIter_revIter (s := { s with heap := hp }) hit1 ?_)
  refine wpAny_bind (wpAny_holding ?_)
  unfold Builtin.List.listLengthHint
  refine wpAny_bind (wpAny_specialOf hT nolen_lri ?_)
  show wpAny _ A.in1 (specialOf (Value.ref it) (Str.ofString "__length_hint__") >>= _) _ _ _
  refine wpAny_bind (wpAny_specialOf hT hint_lri ?_)
  generalize hid : ("list_reverseiterator.__length_hint__" : String) = id0
  wp_delta
  rw [show splitId id0 = some ("list_reverseiterator", "__length_hint__") from by subst hid; decide +kernel]
  subst hid
  refine wpAny_bind (wpAny_isInstance (b := true) hT (by rw [isSubtype_type]; kernel_rfl) ?_)
  refine wpAny_pure ?_
  rw [if_neg (by decide)]
  have e0 : ((items.size : Nat) : Int) - 1 - ((0 : Nat) : Int) = (items.size : Int) - 1 := by omega
  refine wpAny_pure ⟨plainId_quiet F.plain_extend_loop _, codeAny_extend_loopS W hn S hSf _ items.size 0 _ _ _ rfl (Nat.zero_le _) ⟨Nat.zero_le _, by rw [e0]; exact hit1, hl1⟩ hS₂ (ItemsOf.nil _) fun s' acc' c' hm hS' hacc => ?_⟩
  rw [Moved.eq_with hm]
  refine hR s'.heap s'.toks acc' c' (fun b o hb hb2 e => hm.heap b o (fun hmem => ?_) (oth b o hb e)) hS' hacc
  rcases List.mem_cons.mp hmem with e' | hmem
  · exact hb e'
  · exact hb2 (List.mem_singleton.mp hmem)
theorem call_list_rev {it l : Addr} {items : Array Value} {Q : Value → Shared → Prop} (hh : A.handled = none) (hit : s.heap.IsRevIter it l ((items.size : Int) - 1)) (hl : s.heap.IsList l items) (hne : l ≠ it) (hn : items.size ≤ sizeLine)
    (hQ : ∀ h' tk acc' c', (∀ b o, b ≠ it → s.heap.get? b = some o → h'.get? b = some o) → h'.get? s.heap.objs.size = some { cls := .type "list", dict := none, data := .seq acc' c', slots := #[] } → ItemsOf (fun i v => items[items.size - 1 - i]? = some v) acc' items.size → Q (.ref s.heap.objs.size) { s with heap := h', toks := tk }) :
    wpAny (model prog w) A (call (.type "list") [.ref it]) Q E s := by
  refine callType_codes (Q₁ := fun obj s₁ => obj = .ref s.heap.objs.size ∧ s₁ = { s with heap := s.heap.push { cls := .type "list", data := .seq #[] } }) PySem.F.called_list (PySem.F.typeCall_list_1 _) PySem.F.entry_list_init
    (code_list_new _ ⟨rfl, rfl⟩) fun obj s₁ h₁ => ?_
  obtain ⟨rfl, rfl⟩ := h₁
  have hS : (s.heap.push { cls := .type "list", data := .seq #[] }).get? s.heap.objs.size = some { cls := .type "list", data := .seq #[] } := Heap.get?_push_size _ rfl
  obtain ⟨oi, hoi, _⟩ := id hit
  obtain ⟨ol, hol, _⟩ := id hl
  refine ⟨⟨_, hS, rfl⟩, PySem.F.args_list_init_2 _ _, init_rev (A := A.in1) hh (hit.at fun o e => Heap.get?_push_of_some _ e) (hl.push _) hne hn (Nat.ne_of_gt (Heap.lt_size hoi)) (Nat.ne_of_gt (Heap.lt_size hol)) hS (fun h' tk acc' c' hk hS' hacc => ?_)⟩
  exact ⟨rfl, hQ h' tk acc' c' (fun b o hb e => hk b o (Nat.ne_of_lt (Heap.lt_size e)) hb (Heap.get?_push_of_some _ e)) hS' hacc⟩
end
end RT
namespace WV
open PySem PySem.Spec PyProof.Rows L2
open Evl (Ex)
def tListRev (K : PySem.W.Frag) (te : TE) : TE := fun σ H Q => te σ H fun x H1 => ∃ a xs, x = .ref a ∧ SqL K H1 a xs ∧ ∀ p, H1 p = none → Q (.ref p) (upd H1 p (.lst xs.reverse))
theorem pe_listRev {X : Cx} {e : Expr} {te : TE} {p p2 pos pos2 : Pos} (hc : X.calm = true) (hg : Gl X "list") (hm : X.mg "list" = none) (hg2 : Gl X "reversed") (hm2 : X.mg "reversed" = none) (he : PE X e te)
    (hs : starEach [e] X.env = (false, eval e X.env) :: starEach [] X.env := by rfl)
    (hs2 : starEach [.Call (.Name "reversed" p2) [e] [] pos2] X.env = (false, eval (.Call (.Name "reversed" p2) [e] [] pos2) X.env) :: starEach [] X.env := by rfl) :
    PE X (.Call (.Name "list" p) [.Call (.Name "reversed" p2) [e] [] pos2] [] pos) (tListRev X.K te) := by
  refine ⟨fun pins s σ H Q I h => ?_⟩
  refine Call_ (ld_blt I hg hm boot_list (PyProof.Rows.callWith_type1 (args_cons (Call_ (ld_blt I hg2 hm2 PyProof.Rows.boot_reversed (PyProof.Rows.callWith_type1 (args_cons (thn (he.run pins s σ H _ I h) fun u s1 ⟨v, H1, I1, r1, q1⟩ => args_nil ?_) hs) hs rfl))) hs2) hs2 rfl))
  obtain ⟨a, xs, ev, hq, q⟩ := q1
  subst ev
  obtain rfl : u = Value.ref a := r1
  obtain ⟨its, rv, p', hz⟩ := I1.list hq
  refine call_reversed_list p'.isList (args_nil ?_)
  have hl := p'.isList
  obtain ⟨ol, hol, _⟩ := id hl
  have hne : a ≠ s1.heap.objs.size := Nat.ne_of_lt (Heap.lt_size hol)
  have hn : its.toArray.size ≤ sizeLine := by rw [List.size_toArray, ← rv.length]; exact hz
  have hsz : (s1.heap.push (revObj a ((its.toArray.size : Int) - 1))).objs.size = s1.heap.objs.size + 1 := Heap.size_push ..
  refine RT.call_list_rev (s := { s1 with heap := s1.heap.push (revObj a ((its.toArray.size : Int) - 1)) }) (I1.ok.hd hc) ⟨_, Heap.get?_push_size _ rfl, rfl, rfl⟩ (hl.push _) hne hn fun h' tk acc c' hk hS hi => ?_
  have hS : h'.get? (s1.heap.objs.size + 1) = some { cls := .type "list", dict := none, data := .seq acc c', slots := #[] } := by
    rw [← hsz]
    exact hS
  refine ⟨.ref (s1.heap.objs.size + 1), upd H1 (s1.heap.objs.size + 1) (.lst xs.reverse), I1.laid (t' := tk) (fun b o e => hk b o (Nat.ne_of_lt (Heap.lt_size e)) (Heap.get?_push_of_some _ e)) (Nat.le_succ _) (show ObjOk X.prog X.w _ _ _ (.lst xs.reverse) from ⟨by rw [List.length_reverse]; exact hz, acc.toList, c', RT.vals_rev rv hi, ?_⟩), ?_, q _ (I1.hok.fresh (Nat.le_succ _))⟩
  · rw [Array.toArray_toList]
    exact hS
  · show Value.ref _ = Value.ref _
    rw [hsz]
end WV
set_option maxRecDepth 100000
namespace K23
open PySem PySem.Spec PyProof.Rows L2 WV
def topS (i : Nat) : Stmt := PySem.Challenge.pw_wordvalues_k23_whole_endless_words_led.main.body.getD i (.Pass ⟨0, 0, 0, 0⟩)
abbrev s_is_number : Stmt := topS 7
abbrev nm_is_number : List Str := ["value"]
theorem sc_is_number : FnScope nm_is_number ["value"] (defScope s_is_number) := ⟨rfl, rfl, rfl, by decide +kernel, rfl, by decide +kernel, by decide +kernel⟩
abbrev s_is_within : Stmt := topS 8
abbrev nm_is_within : List Str := ["value", "low", "high"]
theorem sc_is_within : FnScope nm_is_within ["value", "low", "high"] (defScope s_is_within) := ⟨rfl, rfl, rfl, by decide +kernel, rfl, by decide +kernel, by decide +kernel⟩
abbrev s_word_error : Stmt := topS 9
abbrev nm_word_error : List Str := ["k", "value", "item", "odd", "place"]
theorem sc_word_error : FnScope nm_word_error ["k", "value"] (defScope s_word_error) := ⟨rfl, rfl, rfl, by decide +kernel, rfl, by decide +kernel, by decide +kernel⟩
abbrev s_lasso_error : Stmt := topS 11
abbrev nm_lasso_error : List Str := ["k", "value", "word"]
theorem sc_lasso_error : FnScope nm_lasso_error ["k", "value"] (defScope s_lasso_error) := ⟨rfl, rfl, rfl, by decide +kernel, rfl, by decide +kernel, by decide +kernel⟩
abbrev s_letter_at : Stmt := topS 12
abbrev nm_letter_at : List Str := ["lasso", "i", "into", "around"]
theorem sc_letter_at : FnScope nm_letter_at ["lasso", "i"] (defScope s_letter_at) := ⟨rfl, rfl, rfl, by decide +kernel, rfl, by decide +kernel, by decide +kernel⟩
abbrev s_root_of : Stmt := topS 13
abbrev nm_root_of : List Str := ["word", "sizes", "size"]
theorem sc_root_of : FnScope nm_root_of ["word"] (defScope s_root_of) := ⟨rfl, rfl, rfl, by decide +kernel, rfl, by decide +kernel, by decide +kernel⟩
abbrev s_least_lasso : Stmt := topS 14
abbrev nm_least_lasso : List Str := ["lasso", "into", "around"]
theorem sc_least_lasso : FnScope nm_least_lasso ["lasso"] (defScope s_least_lasso) := ⟨rfl, rfl, rfl, by decide +kernel, rfl, by decide +kernel, by decide +kernel⟩
abbrev s_shifted_lasso : Stmt := topS 15
abbrev nm_shifted_lasso : List Str := ["lasso", "i", "into", "around", "turn"]
theorem sc_shifted_lasso : FnScope nm_shifted_lasso ["lasso", "i"] (defScope s_shifted_lasso) := ⟨rfl, rfl, rfl, by decide +kernel, rfl, by decide +kernel, by decide +kernel⟩
abbrev s_first_apart : Stmt := topS 16
abbrev nm_first_apart : List Str := ["one", "other", "many", "i"]
theorem sc_first_apart : FnScope nm_first_apart ["one", "other"] (defScope s_first_apart) := ⟨rfl, rfl, rfl, by decide +kernel, rfl, by decide +kernel, by decide +kernel⟩
abbrev s_again_letters : Stmt := topS 21
abbrev nm_again_letters : List Str := ["lasso"]
theorem sc_again_letters : FnScope nm_again_letters ["lasso"] (defScope s_again_letters) := ⟨rfl, rfl, rfl, by decide +kernel, rfl, by decide +kernel, by decide +kernel⟩
abbrev s_is_out : Stmt := topS 23
abbrev nm_is_out : List Str := ["m", "value", "item"]
theorem sc_is_out : FnScope nm_is_out ["m", "value"] (defScope s_is_out) := ⟨rfl, rfl, rfl, by decide +kernel, rfl, by decide +kernel, by decide +kernel⟩
abbrev s_is_arc : Stmt := topS 24
abbrev nm_is_arc : List Str := ["k", "m", "n", "value"]
theorem sc_is_arc : FnScope nm_is_arc ["k", "m", "n", "value"] (defScope s_is_arc) := ⟨rfl, rfl, rfl, by decide +kernel, rfl, by decide +kernel, by decide +kernel⟩
abbrev s_is_end : Stmt := topS 25
abbrev nm_is_end : List Str := ["m", "n", "value"]
theorem sc_is_end : FnScope nm_is_end ["m", "n", "value"] (defScope s_is_end) := ⟨rfl, rfl, rfl, by decide +kernel, rfl, by decide +kernel, by decide +kernel⟩
abbrev s_first_fault : Stmt := topS 26
abbrev nm_first_fault : List Str := ["items", "flags", "place", "flag"]
theorem sc_first_fault : FnScope nm_first_fault ["items", "flags"] (defScope s_first_fault) := ⟨rfl, rfl, rfl, by decide +kernel, rfl, by decide +kernel, by decide +kernel⟩
abbrev s_led_error : Stmt := topS 27
abbrev nm_led_error : List Str := ["k", "m", "value", "n", "begins", "arcs", "ends", "part", "faults", "state", "arc", "end", "found", "fault"]
theorem sc_led_error : FnScope nm_led_error ["k", "m", "value"] (defScope s_led_error) := ⟨rfl, rfl, rfl, by decide +kernel, rfl, by decide +kernel, by decide +kernel⟩
abbrev s_in_length_order : Stmt := topS 28
abbrev nm_in_length_order : List Str := ["words", "word", "length"]
theorem sc_in_length_order : FnScope nm_in_length_order ["words"] (defScope s_in_length_order) := ⟨rfl, rfl, rfl, by decide +kernel, rfl, by decide +kernel, by decide +kernel⟩
abbrev s_live_rows : Stmt := topS 29
abbrev nm_live_rows : List Str := ["led", "word", "found", "state", "out", "letter", "near", "arc"]
theorem sc_live_rows : FnScope nm_live_rows ["led", "word"] (defScope s_live_rows) := ⟨rfl, rfl, rfl, by decide +kernel, rfl, by decide +kernel, by decide +kernel⟩
abbrev s_written_behind : Stmt := topS 30
abbrev nm_written_behind : List Str := ["led", "word", "begins", "live", "here", "state", "place", "letter", "later", "own", "out", "goal", "known", "written"]
theorem sc_written_behind : FnScope nm_written_behind ["led", "word", "begins"] (defScope s_written_behind) := ⟨rfl, rfl, rfl, by decide +kernel, rfl, by decide +kernel, by decide +kernel⟩
abbrev s_answers_of : Stmt := topS 31
abbrev nm_answers_of : List Str := ["led", "word", "here", "found", "state", "out", "written"]
theorem sc_answers_of : FnScope nm_answers_of ["led", "word"] (defScope s_answers_of) := ⟨rfl, rfl, rfl, by decide +kernel, rfl, by decide +kernel, by decide +kernel⟩
abbrev s_is_steady : Stmt := topS 33
abbrev nm_is_steady : List Str := ["led", "arcs", "ends", "arc", "state", "out"]
theorem sc_is_steady : FnScope nm_is_steady ["led"] (defScope s_is_steady) := ⟨rfl, rfl, rfl, by decide +kernel, rfl, by decide +kernel, by decide +kernel⟩
abbrev s_maps_error : Stmt := topS 35
abbrev nm_maps_error : List Str := ["n", "k", "value", "own", "item", "letter", "odd", "place"]
theorem sc_maps_error : FnScope nm_maps_error ["n", "k", "value"] (defScope s_maps_error) := ⟨rfl, rfl, rfl, by decide +kernel, rfl, by decide +kernel, by decide +kernel⟩
abbrev s_then_map : Stmt := topS 36
abbrev nm_then_map : List Str := ["one", "other", "state"]
theorem sc_then_map : FnScope nm_then_map ["one", "other"] (defScope s_then_map) := ⟨rfl, rfl, rfl, by decide +kernel, rfl, by decide +kernel, by decide +kernel⟩
abbrev s_map_of : Stmt := topS 37
abbrev nm_map_of : List Str := ["n", "maps", "word", "own", "letter"]
theorem sc_map_of : FnScope nm_map_of ["n", "maps", "word"] (defScope s_map_of) := ⟨rfl, rfl, rfl, by decide +kernel, rfl, by decide +kernel, by decide +kernel⟩
abbrev s_moved_word : Stmt := topS 39
abbrev nm_moved_word : List Str := ["move", "word", "found", "letter"]
theorem sc_moved_word : FnScope nm_moved_word ["move", "word"] (defScope s_moved_word) := ⟨rfl, rfl, rfl, by decide +kernel, rfl, by decide +kernel, by decide +kernel⟩
abbrev s_map_powers : Stmt := topS 41
abbrev nm_map_powers : List Str := ["own", "found", "here"]
theorem sc_map_powers : FnScope nm_map_powers ["own"] (defScope s_map_powers) := ⟨rfl, rfl, rfl, by decide +kernel, rfl, by decide +kernel, by decide +kernel⟩
abbrev s_map_round : Stmt := topS 42
abbrev nm_map_round : List Str := ["own", "powers", "place"]
theorem sc_map_round : FnScope nm_map_round ["own"] (defScope s_map_round) := ⟨rfl, rfl, rfl, by decide +kernel, rfl, by decide +kernel, by decide +kernel⟩
abbrev s_law_own_bag : Stmt := topS 44
abbrev nm_law_own_bag : List Str := ["script", "cells", "cell", "mixed"]
theorem sc_law_own_bag : FnScope nm_law_own_bag ["script"] (defScope s_law_own_bag) := ⟨rfl, rfl, rfl, by decide +kernel, rfl, by decide +kernel, by decide +kernel⟩
abbrev s_law_draw : Stmt := topS 45
abbrev nm_law_draw : List Str := ["bag", "below", "cell", "found"]
theorem sc_law_draw : FnScope nm_law_draw ["bag", "below"] (defScope s_law_draw) := ⟨rfl, rfl, rfl, by decide +kernel, rfl, by decide +kernel, by decide +kernel⟩
abbrev s_law_pick : Stmt := topS 46
abbrev nm_law_pick : List Str := ["bag", "some"]
theorem sc_law_pick : FnScope nm_law_pick ["bag", "some"] (defScope s_law_pick) := ⟨rfl, rfl, rfl, by decide +kernel, rfl, by decide +kernel, by decide +kernel⟩
abbrev s_law_same : Stmt := topS 47
abbrev nm_law_same : List Str := ["told", "due", "one", "other"]
theorem sc_law_same : FnScope nm_law_same ["told", "due"] (defScope s_law_same) := ⟨rfl, rfl, rfl, by decide +kernel, rfl, by decide +kernel, by decide +kernel⟩
abbrev s_law_led : Stmt := topS 48
abbrev nm_law_led : List Str := ["bag", "k", "m", "n", "arcs", "i", "a", "out", "at"]
theorem sc_law_led : FnScope nm_law_led ["bag", "k", "m", "n"] (defScope s_law_led) := ⟨rfl, rfl, rfl, by decide +kernel, rfl, by decide +kernel, by decide +kernel⟩
abbrev s_law_lasso : Stmt := topS 49
abbrev nm_law_lasso : List Str := ["bag", "k", "most", "into", "i", "around"]
theorem sc_law_lasso : FnScope nm_law_lasso ["bag", "k", "most"] (defScope s_law_lasso) := ⟨rfl, rfl, rfl, by decide +kernel, rfl, by decide +kernel, by decide +kernel⟩
abbrev s_law_at : Stmt := topS 50
abbrev nm_law_at : List Str := ["lasso", "i", "into", "around"]
theorem sc_law_at : FnScope nm_law_at ["lasso", "i"] (defScope s_law_at) := ⟨rfl, rfl, rfl, by decide +kernel, rfl, by decide +kernel, by decide +kernel⟩
abbrev s_law_least : Stmt := topS 51
abbrev nm_law_least : List Str := ["lasso", "into", "around", "d"]
theorem sc_law_least : FnScope nm_law_least ["lasso"] (defScope s_law_least) := ⟨rfl, rfl, rfl, by decide +kernel, rfl, by decide +kernel, by decide +kernel⟩
abbrev s_law_shift : Stmt := topS 52
abbrev nm_law_shift : List Str := ["lasso", "i", "into", "around", "at"]
theorem sc_law_shift : FnScope nm_law_shift ["lasso", "i"] (defScope s_law_shift) := ⟨rfl, rfl, rfl, by decide +kernel, rfl, by decide +kernel, by decide +kernel⟩
abbrev s_law_go : Stmt := topS 53
abbrev nm_law_go : List Str := ["led", "state", "word", "told", "letter", "arc"]
theorem sc_law_go : FnScope nm_law_go ["led", "state", "word"] (defScope s_law_go) := ⟨rfl, rfl, rfl, by decide +kernel, rfl, by decide +kernel, by decide +kernel⟩
abbrev s_law_through : Stmt := topS 54
abbrev nm_law_through : List Str := ["led", "state", "lasso", "told", "here", "states", "words", "word", "at", "around"]
theorem sc_law_through : FnScope nm_law_through ["led", "state", "lasso"] (defScope s_law_through) := ⟨rfl, rfl, rfl, by decide +kernel, rfl, by decide +kernel, by decide +kernel⟩
abbrev s_law_are_letters : Stmt := topS 55
abbrev nm_law_are_letters : List Str := ["bag", "k", "lassos", "lasso", "into", "around", "i", "due", "shift", "least", "letters", "told", "twin", "one", "other", "far", "unlike"]
theorem sc_law_are_letters : FnScope nm_law_are_letters ["bag", "k", "lassos"] (defScope s_law_are_letters) := ⟨rfl, rfl, rfl, by decide +kernel, rfl, by decide +kernel, by decide +kernel⟩
abbrev s_law_is_led : Stmt := topS 56
abbrev nm_law_is_led : List Str := ["bag", "k", "m", "led", "lasso", "n", "begin", "told", "written", "i", "letters", "some", "arc", "letter", "many", "word", "state", "rest", "maps", "a", "own", "into", "here", "powers", "times"]
theorem sc_law_is_led : FnScope nm_law_is_led ["bag", "k", "m", "led", "lasso"] (defScope s_law_is_led) := ⟨rfl, rfl, rfl, by decide +kernel, rfl, by decide +kernel, by decide +kernel⟩
abbrev s_law_is_moved : Stmt := topS 57
abbrev nm_law_is_moved : List Str := ["bag", "k", "m", "lasso", "move", "a", "i", "led", "due", "told", "other"]
theorem sc_law_is_moved : FnScope nm_law_is_moved ["bag", "k", "m", "lasso"] (defScope s_law_is_moved) := ⟨rfl, rfl, rfl, by decide +kernel, rfl, by decide +kernel, by decide +kernel⟩
abbrev s_law_are_judged : Stmt := topS 58
abbrev nm_law_are_judged : List Str := ["k", "lasso", "into", "around", "values", "dues", "told", "value", "due"]
theorem sc_law_are_judged : FnScope nm_law_are_judged ["k", "lasso"] (defScope s_law_are_judged) := ⟨rfl, rfl, rfl, by decide +kernel, rfl, by decide +kernel, by decide +kernel⟩
abbrev s_law : Stmt := topS 59
abbrev nm_law : List Str := ["script", "bag", "k", "m", "n", "led", "lassos", "kept", "lasso", "bad", "told"]
theorem sc_law : FnScope nm_law ["script"] (defScope s_law) := ⟨rfl, rfl, rfl, by decide +kernel, rfl, by decide +kernel, by decide +kernel⟩
/-- how names alone, or some, bind -/
theorem kb_mk {K : PySem.W.Frag} {x qual : Str} {st : Stmt} {f : Addr} {fd : FuncData} {ps ks : List Str} {g : List Value → List Value → List Value} {gV : List V → List V → List V} (F : Fun K x qual st f fd)
    (h : ∀ (kV doc pm : Value) (an : Option Addr) (cdv ct : Value) (us ws : List Value), (g us ws).length = ps.length → bindArgs (PySem.W.fnOf x qual (defArgs st) (defBody st) (defScope st) .none kV doc pm an cdv ct) ⟨us, ks.zip ws⟩ = pure (ps.zip (g us ws)))
    (r : ∀ {vs : List V} {us : List Value} {zs : List V} {ws : List Value}, Vals vs us → Vals zs ws → Vals (gV vs zs) (g us ws)) : KBinds K fd ps ks g gV := by
  obtain ⟨oc, od, kV, doc, pm, an, cdv, ct, osl, rfl, lk, hcd⟩ := F.ex
  exact ⟨fun s us ws _ hl => .of_eq (h kV doc pm an cdv ct us ws hl), fun r1 r2 => r r1 r2⟩
def kg_lasso_error_value_k : List Value → List Value → List Value
  | [], [w0, w1] => [w1, w0]
  | _, _ => []
def kv_lasso_error_value_k : List V → List V → List V
  | [], [w0, w1] => [w1, w0]
  | _, _ => []
def kg_letter_at_i_lasso : List Value → List Value → List Value
  | [], [w0, w1] => [w1, w0]
  | _, _ => []
def kv_letter_at_i_lasso : List V → List V → List V
  | [], [w0, w1] => [w1, w0]
  | _, _ => []
def kg_least_lasso_lasso : List Value → List Value → List Value
  | [], [w0] => [w0]
  | _, _ => []
def kv_least_lasso_lasso : List V → List V → List V
  | [], [w0] => [w0]
  | _, _ => []
def kg_shifted_lasso_i_lasso : List Value → List Value → List Value
  | [], [w0, w1] => [w1, w0]
  | _, _ => []
def kv_shifted_lasso_i_lasso : List V → List V → List V
  | [], [w0, w1] => [w1, w0]
  | _, _ => []
def kg_first_apart_other_one : List Value → List Value → List Value
  | [], [w0, w1] => [w1, w0]
  | _, _ => []
def kv_first_apart_other_one : List V → List V → List V
  | [], [w0, w1] => [w1, w0]
  | _, _ => []
def kg_again_letters_lasso : List Value → List Value → List Value
  | [], [w0] => [w0]
  | _, _ => []
def kv_again_letters_lasso : List V → List V → List V
  | [], [w0] => [w0]
  | _, _ => []
def kg_led_error_value_m_k : List Value → List Value → List Value
  | [], [w0, w1, w2] => [w2, w1, w0]
  | _, _ => []
def kv_led_error_value_m_k : List V → List V → List V
  | [], [w0, w1, w2] => [w2, w1, w0]
  | _, _ => []
def kg_map_of_word_maps_n : List Value → List Value → List Value
  | [], [w0, w1, w2] => [w2, w1, w0]
  | _, _ => []
def kv_map_of_word_maps_n : List V → List V → List V
  | [], [w0, w1, w2] => [w2, w1, w0]
  | _, _ => []
def kg_moved_word_word_move : List Value → List Value → List Value
  | [], [w0, w1] => [w1, w0]
  | _, _ => []
def kv_moved_word_word_move : List V → List V → List V
  | [], [w0, w1] => [w1, w0]
  | _, _ => []
def kg_map_round_own : List Value → List Value → List Value
  | [], [w0] => [w0]
  | _, _ => []
def kv_map_round_own : List V → List V → List V
  | [], [w0] => [w0]
  | _, _ => []
structure Txt (K : PySem.W.Frag) (mg : Str → Option Value) where
  m_isinstance : mg "isinstance" = none
  m_bool : mg "bool" = none
  m_int : mg "int" = none
  m_all : mg "all" = none
  m_tuple : mg "tuple" = none
  m_len : mg "len" = none
  m_enumerate : mg "enumerate" = none
  m_max : mg "max" = none
  m_range : mg "range" = none
  m_sorted : mg "sorted" = none
  m_set : mg "set" = none
  m_dict : mg "dict" = none
  m_any : mg "any" = none
  m_abs : mg "abs" = none
  m_list : mg "list" = none
  m_reversed : mg "reversed" = none
  m_zip : mg "zip" = none
  m_str : mg "str" = none
  m_repr : mg "repr" = none
  t_MAX_LENGTH : Tok
  c_MAX_LENGTH : mg "MAX_LENGTH" = some (.int 40 t_MAX_LENGTH)
  t_MAX_LASSO : Tok
  c_MAX_LASSO : mg "MAX_LASSO" = some (.int 12 t_MAX_LASSO)
  t_MAX_OUT : Tok
  c_MAX_OUT : mg "MAX_OUT" = some (.int 4 t_MAX_OUT)
  t_MAX_STATES : Tok
  c_MAX_STATES : mg "MAX_STATES" = some (.int 6 t_MAX_STATES)
  t_MAX_ARCS : Tok
  c_MAX_ARCS : mg "MAX_ARCS" = some (.int 40 t_MAX_ARCS)
  t_MAX_LISTED : Tok
  c_MAX_LISTED : mg "MAX_LISTED" = some (.int 500 t_MAX_LISTED)
  f_is_number : Addr
  d_is_number : FuncData
  F_is_number : Fun K "is_number" "is_number" s_is_number f_is_number d_is_number
  g_is_number : mg "is_number" = some (.ref f_is_number)
  b_is_number : Binds K d_is_number ["value"] []
  f_is_within : Addr
  d_is_within : FuncData
  F_is_within : Fun K "is_within" "is_within" s_is_within f_is_within d_is_within
  g_is_within : mg "is_within" = some (.ref f_is_within)
  b_is_within : Binds K d_is_within ["value", "low", "high"] []
  f_word_error : Addr
  d_word_error : FuncData
  F_word_error : Fun K "word_error" "word_error" s_word_error f_word_error d_word_error
  g_word_error : mg "word_error" = some (.ref f_word_error)
  b_word_error : Binds K d_word_error ["k", "value"] []
  f_lasso_error : Addr
  d_lasso_error : FuncData
  F_lasso_error : Fun K "lasso_error" "lasso_error" s_lasso_error f_lasso_error d_lasso_error
  g_lasso_error : mg "lasso_error" = some (.ref f_lasso_error)
  b_lasso_error : Binds K d_lasso_error ["k", "value"] []
  k_lasso_error_value_k : KBinds K d_lasso_error ["k", "value"] ["value", "k"] kg_lasso_error_value_k kv_lasso_error_value_k
  f_letter_at : Addr
  d_letter_at : FuncData
  F_letter_at : Fun K "letter_at" "letter_at" s_letter_at f_letter_at d_letter_at
  g_letter_at : mg "letter_at" = some (.ref f_letter_at)
  b_letter_at : Binds K d_letter_at ["lasso", "i"] []
  k_letter_at_i_lasso : KBinds K d_letter_at ["lasso", "i"] ["i", "lasso"] kg_letter_at_i_lasso kv_letter_at_i_lasso
  f_root_of : Addr
  d_root_of : FuncData
  F_root_of : Fun K "root_of" "root_of" s_root_of f_root_of d_root_of
  g_root_of : mg "root_of" = some (.ref f_root_of)
  b_root_of : Binds K d_root_of ["word"] []
  f_least_lasso : Addr
  d_least_lasso : FuncData
  F_least_lasso : Fun K "least_lasso" "least_lasso" s_least_lasso f_least_lasso d_least_lasso
  g_least_lasso : mg "least_lasso" = some (.ref f_least_lasso)
  b_least_lasso : Binds K d_least_lasso ["lasso"] []
  k_least_lasso_lasso : KBinds K d_least_lasso ["lasso"] ["lasso"] kg_least_lasso_lasso kv_least_lasso_lasso
  f_shifted_lasso : Addr
  d_shifted_lasso : FuncData
  F_shifted_lasso : Fun K "shifted_lasso" "shifted_lasso" s_shifted_lasso f_shifted_lasso d_shifted_lasso
  g_shifted_lasso : mg "shifted_lasso" = some (.ref f_shifted_lasso)
  b_shifted_lasso : Binds K d_shifted_lasso ["lasso", "i"] []
  k_shifted_lasso_i_lasso : KBinds K d_shifted_lasso ["lasso", "i"] ["i", "lasso"] kg_shifted_lasso_i_lasso kv_shifted_lasso_i_lasso
  f_first_apart : Addr
  d_first_apart : FuncData
  F_first_apart : Fun K "first_apart" "first_apart" s_first_apart f_first_apart d_first_apart
  g_first_apart : mg "first_apart" = some (.ref f_first_apart)
  b_first_apart : Binds K d_first_apart ["one", "other"] []
  k_first_apart_other_one : KBinds K d_first_apart ["one", "other"] ["other", "one"] kg_first_apart_other_one kv_first_apart_other_one
  f_again_letters : Addr
  d_again_letters : FuncData
  F_again_letters : Fun K "again_letters" "again_letters" s_again_letters f_again_letters d_again_letters
  g_again_letters : mg "again_letters" = some (.ref f_again_letters)
  b_again_letters : Binds K d_again_letters ["lasso"] []
  k_again_letters_lasso : KBinds K d_again_letters ["lasso"] ["lasso"] kg_again_letters_lasso kv_again_letters_lasso
  f_is_out : Addr
  d_is_out : FuncData
  F_is_out : Fun K "is_out" "is_out" s_is_out f_is_out d_is_out
  g_is_out : mg "is_out" = some (.ref f_is_out)
  b_is_out : Binds K d_is_out ["m", "value"] []
  f_is_arc : Addr
  d_is_arc : FuncData
  F_is_arc : Fun K "is_arc" "is_arc" s_is_arc f_is_arc d_is_arc
  g_is_arc : mg "is_arc" = some (.ref f_is_arc)
  b_is_arc : Binds K d_is_arc ["k", "m", "n", "value"] []
  f_is_end : Addr
  d_is_end : FuncData
  F_is_end : Fun K "is_end" "is_end" s_is_end f_is_end d_is_end
  g_is_end : mg "is_end" = some (.ref f_is_end)
  b_is_end : Binds K d_is_end ["m", "n", "value"] []
  f_first_fault : Addr
  d_first_fault : FuncData
  F_first_fault : Fun K "first_fault" "first_fault" s_first_fault f_first_fault d_first_fault
  g_first_fault : mg "first_fault" = some (.ref f_first_fault)
  b_first_fault : Binds K d_first_fault ["items", "flags"] []
  f_led_error : Addr
  d_led_error : FuncData
  F_led_error : Fun K "led_error" "led_error" s_led_error f_led_error d_led_error
  g_led_error : mg "led_error" = some (.ref f_led_error)
  b_led_error : Binds K d_led_error ["k", "m", "value"] []
  k_led_error_value_m_k : KBinds K d_led_error ["k", "m", "value"] ["value", "m", "k"] kg_led_error_value_m_k kv_led_error_value_m_k
  f_in_length_order : Addr
  d_in_length_order : FuncData
  F_in_length_order : Fun K "in_length_order" "in_length_order" s_in_length_order f_in_length_order d_in_length_order
  g_in_length_order : mg "in_length_order" = some (.ref f_in_length_order)
  b_in_length_order : Binds K d_in_length_order ["words"] []
  f_live_rows : Addr
  d_live_rows : FuncData
  F_live_rows : Fun K "live_rows" "live_rows" s_live_rows f_live_rows d_live_rows
  g_live_rows : mg "live_rows" = some (.ref f_live_rows)
  b_live_rows : Binds K d_live_rows ["led", "word"] []
  f_written_behind : Addr
  d_written_behind : FuncData
  F_written_behind : Fun K "written_behind" "written_behind" s_written_behind f_written_behind d_written_behind
  g_written_behind : mg "written_behind" = some (.ref f_written_behind)
  b_written_behind : Binds K d_written_behind ["led", "word", "begins"] []
  f_answers_of : Addr
  d_answers_of : FuncData
  F_answers_of : Fun K "answers_of" "answers_of" s_answers_of f_answers_of d_answers_of
  g_answers_of : mg "answers_of" = some (.ref f_answers_of)
  b_answers_of : Binds K d_answers_of ["led", "word"] []
  f_is_steady : Addr
  d_is_steady : FuncData
  F_is_steady : Fun K "is_steady" "is_steady" s_is_steady f_is_steady d_is_steady
  g_is_steady : mg "is_steady" = some (.ref f_is_steady)
  b_is_steady : Binds K d_is_steady ["led"] []
  f_maps_error : Addr
  d_maps_error : FuncData
  F_maps_error : Fun K "maps_error" "maps_error" s_maps_error f_maps_error d_maps_error
  g_maps_error : mg "maps_error" = some (.ref f_maps_error)
  b_maps_error : Binds K d_maps_error ["n", "k", "value"] []
  f_then_map : Addr
  d_then_map : FuncData
  F_then_map : Fun K "then_map" "then_map" s_then_map f_then_map d_then_map
  g_then_map : mg "then_map" = some (.ref f_then_map)
  b_then_map : Binds K d_then_map ["one", "other"] []
  f_map_of : Addr
  d_map_of : FuncData
  F_map_of : Fun K "map_of" "map_of" s_map_of f_map_of d_map_of
  g_map_of : mg "map_of" = some (.ref f_map_of)
  b_map_of : Binds K d_map_of ["n", "maps", "word"] []
  k_map_of_word_maps_n : KBinds K d_map_of ["n", "maps", "word"] ["word", "maps", "n"] kg_map_of_word_maps_n kv_map_of_word_maps_n
  f_moved_word : Addr
  d_moved_word : FuncData
  F_moved_word : Fun K "moved_word" "moved_word" s_moved_word f_moved_word d_moved_word
  g_moved_word : mg "moved_word" = some (.ref f_moved_word)
  b_moved_word : Binds K d_moved_word ["move", "word"] []
  k_moved_word_word_move : KBinds K d_moved_word ["move", "word"] ["word", "move"] kg_moved_word_word_move kv_moved_word_word_move
  f_map_powers : Addr
  d_map_powers : FuncData
  F_map_powers : Fun K "map_powers" "map_powers" s_map_powers f_map_powers d_map_powers
  g_map_powers : mg "map_powers" = some (.ref f_map_powers)
  b_map_powers : Binds K d_map_powers ["own"] []
  f_map_round : Addr
  d_map_round : FuncData
  F_map_round : Fun K "map_round" "map_round" s_map_round f_map_round d_map_round
  g_map_round : mg "map_round" = some (.ref f_map_round)
  b_map_round : Binds K d_map_round ["own"] []
  k_map_round_own : KBinds K d_map_round ["own"] ["own"] kg_map_round_own kv_map_round_own
  f_law_own_bag : Addr
  d_law_own_bag : FuncData
  F_law_own_bag : Fun K "_law_own_bag" "_law_own_bag" s_law_own_bag f_law_own_bag d_law_own_bag
  g_law_own_bag : mg "_law_own_bag" = some (.ref f_law_own_bag)
  b_law_own_bag : Binds K d_law_own_bag ["script"] []
  f_law_draw : Addr
  d_law_draw : FuncData
  F_law_draw : Fun K "_law_draw" "_law_draw" s_law_draw f_law_draw d_law_draw
  g_law_draw : mg "_law_draw" = some (.ref f_law_draw)
  b_law_draw : Binds K d_law_draw ["bag", "below"] []
  f_law_pick : Addr
  d_law_pick : FuncData
  F_law_pick : Fun K "_law_pick" "_law_pick" s_law_pick f_law_pick d_law_pick
  g_law_pick : mg "_law_pick" = some (.ref f_law_pick)
  b_law_pick : Binds K d_law_pick ["bag", "some"] []
  f_law_same : Addr
  d_law_same : FuncData
  F_law_same : Fun K "_law_same" "_law_same" s_law_same f_law_same d_law_same
  g_law_same : mg "_law_same" = some (.ref f_law_same)
  b_law_same : Binds K d_law_same ["told", "due"] []
  f_law_led : Addr
  d_law_led : FuncData
  F_law_led : Fun K "_law_led" "_law_led" s_law_led f_law_led d_law_led
  g_law_led : mg "_law_led" = some (.ref f_law_led)
  b_law_led : Binds K d_law_led ["bag", "k", "m", "n"] []
  f_law_lasso : Addr
  d_law_lasso : FuncData
  F_law_lasso : Fun K "_law_lasso" "_law_lasso" s_law_lasso f_law_lasso d_law_lasso
  g_law_lasso : mg "_law_lasso" = some (.ref f_law_lasso)
  b_law_lasso : Binds K d_law_lasso ["bag", "k", "most"] []
  f_law_at : Addr
  d_law_at : FuncData
  F_law_at : Fun K "_law_at" "_law_at" s_law_at f_law_at d_law_at
  g_law_at : mg "_law_at" = some (.ref f_law_at)
  b_law_at : Binds K d_law_at ["lasso", "i"] []
  f_law_least : Addr
  d_law_least : FuncData
  F_law_least : Fun K "_law_least" "_law_least" s_law_least f_law_least d_law_least
  g_law_least : mg "_law_least" = some (.ref f_law_least)
  b_law_least : Binds K d_law_least ["lasso"] []
  f_law_shift : Addr
  d_law_shift : FuncData
  F_law_shift : Fun K "_law_shift" "_law_shift" s_law_shift f_law_shift d_law_shift
  g_law_shift : mg "_law_shift" = some (.ref f_law_shift)
  b_law_shift : Binds K d_law_shift ["lasso", "i"] []
  f_law_go : Addr
  d_law_go : FuncData
  F_law_go : Fun K "_law_go" "_law_go" s_law_go f_law_go d_law_go
  g_law_go : mg "_law_go" = some (.ref f_law_go)
  b_law_go : Binds K d_law_go ["led", "state", "word"] []
  f_law_through : Addr
  d_law_through : FuncData
  F_law_through : Fun K "_law_through" "_law_through" s_law_through f_law_through d_law_through
  g_law_through : mg "_law_through" = some (.ref f_law_through)
  b_law_through : Binds K d_law_through ["led", "state", "lasso"] []
  f_law_are_letters : Addr
  d_law_are_letters : FuncData
  F_law_are_letters : Fun K "_law_are_letters" "_law_are_letters" s_law_are_letters f_law_are_letters d_law_are_letters
  g_law_are_letters : mg "_law_are_letters" = some (.ref f_law_are_letters)
  b_law_are_letters : Binds K d_law_are_letters ["bag", "k", "lassos"] []
  f_law_is_led : Addr
  d_law_is_led : FuncData
  F_law_is_led : Fun K "_law_is_led" "_law_is_led" s_law_is_led f_law_is_led d_law_is_led
  g_law_is_led : mg "_law_is_led" = some (.ref f_law_is_led)
  b_law_is_led : Binds K d_law_is_led ["bag", "k", "m", "led", "lasso"] []
  f_law_is_moved : Addr
  d_law_is_moved : FuncData
  F_law_is_moved : Fun K "_law_is_moved" "_law_is_moved" s_law_is_moved f_law_is_moved d_law_is_moved
  g_law_is_moved : mg "_law_is_moved" = some (.ref f_law_is_moved)
  b_law_is_moved : Binds K d_law_is_moved ["bag", "k", "m", "lasso"] []
  f_law_are_judged : Addr
  d_law_are_judged : FuncData
  F_law_are_judged : Fun K "_law_are_judged" "_law_are_judged" s_law_are_judged f_law_are_judged d_law_are_judged
  g_law_are_judged : mg "_law_are_judged" = some (.ref f_law_are_judged)
  b_law_are_judged : Binds K d_law_are_judged ["k", "lasso"] []
  f_law : Addr
  d_law : FuncData
  F_law : Fun K "law" "law" s_law f_law d_law
  g_law : mg "law" = some (.ref f_law)
  b_law : Binds K d_law ["script"] []
end K23
set_option maxRecDepth 100000
set_option maxHeartbeats 1000000
namespace K23
open PySem PySem.Spec PyProof.Rows L2 WV
open Evl (Ex)
def La (u v : List Int) : T := .tuple [W u, W v]
def lat (u v : List Int) (i : Nat) : Int := if i < u.length then u.getD i 0 else v.getD ((i - u.length) % v.length) 0
variable {P : Program} {w : World} {K : PySem.W.Frag} {mg : Str → Option Value} {base : Heap}
theorem spT_len {f : List T → T → Prop} {n : Nat} (h : ∀ ds d, f ds d → ds.length = n) {vs : List V} {H : Hp} {Q : VK} {E : XK} (s : SpT f vs H Q E) : vs.length = n := by
  obtain ⟨ds, d, h1, h2, _⟩ := s
  rw [h1.length]
  exact h _ _ h2
theorem atI_W {ns : List Int} {i : Nat} (h : i < ns.length) : atI (ns.map PyData.int) (i : Int) = some (.int (ns.getD i 0)) := by
  apply atI_nat
  rw [List.getElem?_map, List.getElem?_eq_getElem h]
  simp [List.getD, List.getElem?_eq_getElem h]
/-- the letter at a number -/
def fAt : List T → T → Prop := fun ds d => ∃ u v, ∃ i : Nat, ds = [La u v, .int i] ∧ v ≠ [] ∧ d = .int (lat u v i)
theorem ok_letter_at (T : Txt K mg) : FnOk P w K mg base CX0 1 T.f_letter_at T.d_letter_at ["lasso", "i"] (SpT fAt) := by
  refine T.F_letter_at.ok sc_letter_at (fun vs H Q E h => spT_len (n := 2) (fun ds d ⟨u, v, i, e, _⟩ => by rw [e]; rfl) h) (fun cdv A outer s H vs Q E hr h => ?_)
  obtain ⟨ds, d, hds, ⟨u, v, i, rfl, hv, rfl⟩, q⟩ := h
  have hv0 : 0 < v.length := List.length_pos_iff.mpr hv
  refine ⟨_, (pss_cons (ps_asg (pv 0) (pg_tup rfl (pgs_cons (pg_name (i := 2) sc_letter_at.nd rfl (by first | exact .inl rfl | exact .inr rfl)) (pgs_cons (pg_name (i := 3) sc_letter_at.nd rfl (by first | exact .inl rfl | exact .inr rfl)) pgs_nil))))
      (pss_one (ps_ret (pe_ifExp (pt_cmpR op_lt (pv 1) (pe_callB call_len_seq (by rfl) T.m_len (by decide +kernel) (pa_cons (pv 2) pa_nil)) (by rfl)) (pe_ix ix_seq (pv 2) (pv 1) (fun _ _ => rfl)) (pe_ix ix_seq (pv 3) (pe_op op_modN (pe_op op_sub (pv 1) (pe_callB call_len_seq (by rfl) T.m_len (by decide +kernel) (pa_cons (pv 2) pa_nil))) (pe_callB call_len_seq (by rfl) T.m_len (by decide +kernel) (pa_cons (pv 3) pa_nil))) (fun _ _ => rfl)))))), ?_⟩
  cases hds with
  | cons h0 r =>
    cases r with
    | cons h1 r =>
      cases r
      refine s_unp2 (ed_var rfl h0) fun a b H1 e1 ha hb => ?_
      have h1' := h1.keep (.ex e1)
      refine s_ret (d := .int (lat u v i)) (ed_if (eb_test (ed_ltI (ed_var rfl h1') (ed_len (ed_var rfl ha)))) (fun hlt => ed_ix (ed_var rfl ha) (ed_var rfl h1') ?_)
        (fun hge => ed_ix (ed_var rfl hb) (ed_modI (ed_subI (ed_var rfl h1') (ed_len (ed_var rfl ha))) (ed_len (ed_var rfl hb)) ?_) ?_)) (fun z H2 e2 hz => q z H2 (e1.trans e2) hz)
      · have hi : i < u.length := by
          have := of_decide_eq_true hlt
          rw [List.length_map] at this
          omega
        rw [atI_W hi]
        simp [lat, hi]
      · rw [List.length_map]
        omega
      · have hi : ¬ i < u.length := by
          have := of_decide_eq_false hge
          rw [List.length_map] at this
          omega
        rw [List.length_map, List.length_map]
        have e1 : ((i : Int) - (u.length : Int)).fmod (v.length : Int) = (((i - u.length) % v.length : Nat) : Int) := by
          rw [Int.fmod_eq_emod_of_nonneg _ (by omega)]
          rw [show (i : Int) - (u.length : Int) = ((i - u.length : Nat) : Int) by omega]
          rfl
        rw [e1, atI_W (Nat.mod_lt _ hv0)]
        simp [lat, hi]
/-! numbers, words -/
def isNum (d : T) : Bool := isInt d && !isBool d
def fNum : List T → T → Prop := fun ds r => ∃ d, ds = [d] ∧ r = .bool (isNum d)
theorem ok_is_number (T : Txt K mg) : FnOk P w K mg base CX0 1 T.f_is_number T.d_is_number ["value"] (SpT fNum) := by
  refine T.F_is_number.ok sc_is_number (fun vs H Q E h => spT_len (n := 1) (fun ds d ⟨u, e, _⟩ => by rw [e]; rfl) h) (fun cdv A outer s H vs Q E hr h => ?_)
  obtain ⟨ds, r, hds, ⟨d, rfl, rfl⟩, q⟩ := h
  refine ⟨_, (pss_one (ps_ret (pe_and (pe_callB call_isi (by rfl) T.m_isinstance (by decide +kernel) (pa_cons (pv 0) (pa_cons (pe_bltn (v := .ty "int") (u := .type "int") (by rfl) T.m_int (by decide +kernel) (by rfl)) pa_nil))) (pe_one (pe_not (pe_callB call_isi (by rfl) T.m_isinstance (by decide +kernel) (pa_cons (pv 0) (pa_cons (pe_bltn (v := .ty "bool") (u := .type "bool") (by rfl) T.m_bool (by decide +kernel) (by rfl)) pa_nil)))))))), ?_⟩
  cases hds with
  | cons h0 r =>
    cases r
    exact s_ret (ed_andV (ed_isInt (ed_var rfl h0)) fun _ => ed_notV (ed_isBool (ed_var rfl h0))) q
def isIn (d : T) (lo hi : Int) : Bool := match d with
  | .int x => decide (lo ≤ x) && decide (x ≤ hi)
  | _ => false
theorem isNum_int {d : T} (h : isNum d = true) : ∃ x, d = .int x := by
  cases d <;> simp [isNum, WV.isInt, WV.isBool] at h
  exact ⟨_, rfl⟩
theorem isIn_no {d : T} {lo hi : Int} (h : isNum d = false) : isIn d lo hi = false := by
  cases d <;> simp [isNum, WV.isInt, WV.isBool] at h <;> rfl
def fWithin : List T → T → Prop := fun ds r => ∃ d lo hi, ds = [d, .int lo, .int hi] ∧ r = .bool (isIn d lo hi)
theorem ok_is_within (T : Txt K mg) : FnOk P w K mg base CX0 2 T.f_is_within T.d_is_within ["value", "low", "high"] (SpT fWithin) := by
  have G_is_number := ok_is_number (P := P) (w := w) (base := base) T
  refine T.F_is_within.ok sc_is_within (fun vs H Q E h => spT_len (n := 3) (fun ds d ⟨u, _, _, e, _⟩ => by rw [e]; rfl) h) (fun cdv A outer s H vs Q E hr h => ?_)
  obtain ⟨ds, r, hds, ⟨d, lo, hi, rfl, rfl⟩, q⟩ := h
  refine ⟨_, (pss_one (ps_ret (pe_and (pe_call G_is_number (hr.mono (by decide)) (by rfl) T.g_is_number T.F_is_number.kp T.b_is_number .nil pass0 (pa_cons (pv 0) pa_nil)) (pe_one (pe_chain op_le op_le (pv 1) (pv 0) (pv 2)))))), ?_⟩
  cases hds with
  | cons h0 r =>
    cases r with
    | cons h1 r =>
      cases r with
      | cons h2 r =>
        cases r
        refine s_ret (ed_is (d := .bool (isNum d && isIn d lo hi)) (ed_andV (ed_call (ea_cons (ed_var rfl h0) ea_nil) ⟨d, rfl, rfl⟩) fun hn => ?_) ?_) q
        · obtain ⟨x, rfl⟩ := isNum_int hn
          exact ed_in2 (ed_var rfl h1) (ed_var rfl h0) (ed_var rfl h2)
        · cases hn : isNum d with
          | true => simp
          | false => simp [isIn_no hn]
/-- what word_error tells -/
def badAt (k : Int) (ds : List T) (i : Nat) : Bool := match ds[i]? with
  | some (.int x) => !(decide (0 ≤ x) && decide (x < k))
  | _ => false
def weD (k : Int) : T → T
  | .tuple ds => if ds.all isNum then (if ds.length > 40 then .str "long" else
      match (gd ds.length (badAt k ds) fun i => .int (i : Nat)) with
      | [] => .none
      | d :: _ => .tuple [.str "letter", d]) else .str "form"
  | _ => .str "form"
def fWE : List T → T → Prop := fun ds r => ∃ k d, ds = [.int k, d] ∧ (∀ es, d = .tuple es → es.length ≤ 1000) ∧ r = weD k d
theorem atI0 {α : Type} (x : α) (xs : List α) : atI (x :: xs) 0 = some x := atI_nat (j := 0) rfl
theorem all_get {ds : List T} {f : T → Bool} {i : Nat} {d : T} (h : ds.all f = true) (e : ds[i]? = some d) : f d = true := List.all_eq_true.mp h d (List.mem_of_getElem? e)
theorem gd_const (n : Nat) (f : T → Bool) (ds : List T) (h : ds.length = n) : gd n (fun _ => true) (fun i => .bool (f (ds.getD i .none))) = (ds.map f).map .bool := by
  rw [gd_all]
  apply List.ext_getElem
  · simp [h]
  · intro i h1 h2
    simp at h1 h2
    simp [List.getD, h2]
theorem getD_of {ds : List T} {i : Nat} {d : T} (e : ds[i]? = some d) : ds.getD i .none = d := by simp [List.getD, e]
def SpWE : Sp := fun vs H Q E => SpT fWE vs H Q E ∨ ∃ x l ds, vs = [x, l] ∧ LA H l ds ∧ ∀ v H', Ex H H' → Td H' v (.str "form") → Q v H'
theorem la_tup {K : PySem.W.Frag} {σ : L2.St} {H : Hp} {te : TE} {ds : List WV.T} (h : EM te σ H ds) : ED (tCB (rIsi K) (tCons te (tCons (tC (.ty "tuple")) tNil))) σ H (.bool false) := fun H1 k Q q => h H1 k _ fun v H2 e2 hv => by
  obtain ⟨_, _, _, _, _, k6, _⟩ := kb_all
  obtain ⟨a, xs, rfl, h1, h2⟩ := hv
  exact ⟨_, .ty "tuple", _, _, false, rfl, .ty _, .base (.lst h1), kit_ty k6, q _ H2 e2 (.b _)⟩
theorem ok_word_error (T : Txt K mg) : FnOk P w K mg base CX0 2 T.f_word_error T.d_word_error ["k", "value"] SpWE := by
  have G_is_number := ok_is_number (P := P) (w := w) (base := base) T
  refine T.F_word_error.ok sc_word_error (fun vs H Q E h => ?_) (fun cdv A outer s H vs Q E hr h => ?_)
  · rcases h with h | ⟨_, _, _, e, _⟩
    · exact spT_len (n := 2) (fun ds d ⟨u, _, e, _⟩ => by rw [e]; rfl) h
    · rw [e]
      rfl
  have hu := hr.units
  refine ⟨_, (pss_cons (ps_if (PW.pt (pw_or (pt_not (pt_val (pe_callB call_isi (by rfl) T.m_isinstance (by decide +kernel) (pa_cons (pv 1) (pa_cons (pe_bltn (v := .ty "tuple") (u := .type "tuple") (by rfl) T.m_tuple (by decide +kernel) (by rfl)) pa_nil))))) (pw_or1 (pt_not (pt_val (pe_callB (cr_all rfl) (by rfl) T.m_all (by decide +kernel) (pa_cons (pe_lcD s H (own := [("item", 2)]) rfl sc_word_error.nd (pi_seq (pv 1)) (blkOk_by (own := [("item", 2)]) (N := nm_word_error) (sc := defScope s_word_error) (by decide +kernel)) (fun _ _ _ _ _ => (pg_name (i := 2) sc_word_error.nd rfl (by first | exact .inl rfl | exact .inr rfl))) (fun _ _ _ _ _ => pts_nil) (fun _ _ _ _ _ => (pe_call G_is_number (hr.mono (by decide)) (by rfl) T.g_is_number T.F_is_number.kp T.b_is_number .nil pass0 (pa_cons (pv 2) pa_nil)))) pa_nil)))))))
        (pss_one (ps_ret pe_str))
        pss_nil)
      (pss_cons (ps_if (pt_cmpR op_gt (pe_callB call_len_seq (by rfl) T.m_len (by decide +kernel) (pa_cons (pv 1) pa_nil)) (pe_glob (v := .int 40) (by rfl) T.c_MAX_LENGTH ⟨_, rfl⟩) (by rfl))
        (pss_one (ps_ret pe_str))
        pss_nil)
      (pss_cons (ps_setLcD s H (i := 3) (own := [("place", 4), ("item", 2)]) rfl sc_word_error.nd rfl rfl (sw_true rfl rfl rfl (by decide +kernel)) (pi_enumU (by rfl) T.m_enumerate (pa_cons (pv 1) pa_nil)) (blkOk_by (own := [("place", 4), ("item", 2)]) (N := nm_word_error) (sc := defScope s_word_error) (by decide +kernel)) (fun _ _ _ _ _ => (pg_tup rfl (pgs_cons (pg_name (i := 4) sc_word_error.nd rfl (by first | exact .inl rfl | exact .inr rfl)) (pgs_cons (pg_name (i := 2) sc_word_error.nd rfl (by first | exact .inl rfl | exact .inr rfl)) pgs_nil)))) (fun _ _ _ _ _ => pts_one (pt_not (pt_chain op_le op_lt pe_int (pv 2) (pv 0)))) (fun _ _ _ _ _ => (pv 4)))
      (pss_one (ps_ret (pe_ifExp (pt_cmpR (op_neD hu) (pv 3) (pe_lst pa_nil) (by rfl)) (pe_tup (pa_cons pe_str (pa_cons (pe_ix ix_seq (pv 3) pe_int (fun _ _ => rfl)) pa_nil))) pe_non)))))), ?_⟩
  rcases h with h | ⟨x0, l, ds, rfl, hl, q⟩
  case inr => exact s_ifT (eb_orT (eb_is (eb_not (eb_B (la_tup (em_var (i := 1) rfl hl)))) rfl)) fun H1 e1 => s_ret ed_str fun v H2 e2 hv => q v H2 (e1.trans e2) hv
  obtain ⟨ds, r, hds, ⟨k, d, rfl, hz, rfl⟩, q⟩ := h
  cases hds with
  | cons h0 r =>
    cases r with
    | cons h1 r =>
      cases r
      by_cases ht : ∃ es, d = .tuple es
      · obtain ⟨es, rfl⟩ := ht
        have hz := hz es rfl
        refine s_if (eb_or (a := false) (eb_not (b := true) (eb_B (ed_isTup (ed_var rfl h1)))) (fun _ => eb_not (eb_B (ed_all (bs := es.map isNum) (gd_const es.length isNum es rfl ▸ el_lcT (fun _ => true) (fun i => .bool (isNum (es.getD i .none))) (ed_var rfl h1) (by omega) (fun i v d H1 e1 hd hv Q2 q2 => q2 _ rfl eb_yes fun _ => ed_call (ea_cons (ed_var rfl hv) ea_nil) ⟨_, rfl, by rw [getD_of hd]⟩)))))) (fun hb H1 e1 => ?_) (fun hb H1 e1 => ?_)
        · have hb : es.all isNum = false := by simpa using hb
          refine s_ret ed_str fun v H2 e2 hv => q v H2 (e1.trans e2) ?_
          simpa [weD, hb] using hv
        have hb : es.all isNum = true := by
          rw [List.all_eq_true]
          simpa using hb
        refine s_if (eb_test (ed_gtI (ed_len (ed_var rfl (h1.keep (.ex e1)))) ed_int)) (fun hc H2 e2 => ?_) (fun hc H2 e2 => ?_)
        · have hc : es.length > 40 := by
            have := of_decide_eq_true hc
            omega
          refine s_ret ed_str fun v H3 e3 hv => q v H3 ((e1.trans e2).trans e3) ?_
          simpa [weD, hb, hc] using hv
        have hc : ¬ es.length > 40 := by
          have := of_decide_eq_false hc
          omega
        have h1' := h1.keep (.ex (e1.trans e2))
        have h0' := h0.keep (.ex (e1.trans e2))
        refine s_asgM (em_new (el_lcE (ds := es) (badAt k es) (fun i => .int (i : Nat)) (ed_var rfl h1') (by omega) (fun i v d H3 e3 hd hv Q2 q2 => g_two hv fun a b ha hb' => ?_))) (fun v H3 e3 hv => ?_)
        · obtain ⟨x, rfl⟩ := isNum_int (all_get hb hd)
          refine q2 _ rfl (eb_is (eb_not (eb_test (ed_in ed_int (ed_var rfl hb') (ed_var rfl (h0'.keep (.ex e3)))))) ?_) (fun _ => ed_var rfl ha)
          simp [badAt, hd]
        · have hw : weD k (.tuple es) = match (gd es.length (badAt k es) fun i => .int (i : Nat)) with
            | [] => .none
            | d :: _ => .tuple [.str "letter", d] := by
            simp [weD, hb, hc]
          rw [hw] at q
          generalize hg : (gd es.length (badAt k es) fun i => PyData.int (i : Nat)) = gs at hv q
          have hsh : SeqAt.shaped (.list gs) = true := by
            rw [← hg]
            exact (sh_gd (m := 0) fun i => sh_int).ok
          refine s_ret (ed_if (eb_test (ed_neM (em_var rfl hv) em_nil hsh (sh_nilL (n := 0)).ok)) (fun hd => ?_) (fun hd => ?_)) (fun v H4 e4 hv => q v H4 (((e1.trans e2).trans e3).trans e4) hv)
          · rw [eqv_nilL] at hd
            cases gs with
            | nil => simp at hd
            | cons g gs => exact ed_tup (ea_cons ed_str (ea_cons (ed_ixM (em_var rfl hv) ed_int (atI0 g gs)) ea_nil)) (by simp)
          · rw [eqv_nilL] at hd
            cases gs with
            | nil => exact ed_non
            | cons g gs => simp at hd
      · have hi : isTup d = false := by
          cases d <;> simp at ht <;> rfl
        refine s_ifT (eb_orT (eb_is (eb_not (eb_B (ed_isTup (ed_var rfl h1)))) (by rw [hi]; rfl))) (fun H1 e1 => s_ret ed_str fun v H2 e2 hv => q v H2 (e1.trans e2) ?_)
        have hw : weD k d = .str "form" := by
          cases d <;> simp at ht <;> rfl
        rw [hw]
        exact hv
end K23
set_option maxRecDepth 100000
set_option maxHeartbeats 1000000
namespace K23
open PySem PySem.Spec PyProof.Rows L2 WV
open Evl (Ex)
variable {P : Program} {w : World} {K : PySem.W.Frag} {mg : Str → Option Value} {base : Heap}
def fRoot : List T → T → Prop := fun ds r => ∃ v : List Int, ds = [W v] ∧ v ≠ [] ∧ v.length ≤ 500 ∧ r = W (root v)
theorem ok_root_of (T : Txt K mg) : FnOk P w K mg base CX0 1 T.f_root_of T.d_root_of ["word"] (SpT fRoot) := by
  refine T.F_root_of.ok sc_root_of (fun vs H Q E h => spT_len (n := 1) (fun ds d ⟨u, e, _⟩ => by rw [e]; rfl) h) (fun cdv A outer s H vs Q E hr h => ?_)
  obtain ⟨ds, r, hds, ⟨v, rfl, hv, hz, rfl⟩, q⟩ := h
  have hu := hr.units
  refine ⟨_, (pss_cons (ps_setLcD s H (i := 1) (own := [("size", 2)]) rfl sc_root_of.nd rfl rfl (sw_true rfl rfl rfl (by decide +kernel)) (pi_range2 (by rfl) T.m_range (pa_cons pe_int (pa_cons (pe_op op_addU (pe_callB call_len_seq (by rfl) T.m_len (by decide +kernel) (pa_cons (pv 0) pa_nil)) pe_int) pa_nil))) (blkOk_by (own := [("size", 2)]) (N := nm_root_of) (sc := defScope s_root_of) (by decide +kernel)) (fun _ _ _ _ _ => (pg_name (i := 2) sc_root_of.nd rfl (by first | exact .inl rfl | exact .inr rfl))) (fun _ _ _ _ _ => pts_one (pt_cmpR (op_eqD hu) (pe_op op_modN (pe_callB call_len_seq (by rfl) T.m_len (by decide +kernel) (pa_cons (pv 0) pa_nil)) (pv 2)) pe_int (by rfl))) (fun _ _ _ _ _ => (pv 2)))
      (pss_one (ps_ret (pe_ix ix_seq (pe_lcD s H (own := [("size", 2)]) rfl sc_root_of.nd (pi_seq (pv 1)) (blkOk_by (own := [("size", 2)]) (N := nm_root_of) (sc := defScope s_root_of) (by decide +kernel)) (fun _ _ _ _ _ => (pg_name (i := 2) sc_root_of.nd rfl (by first | exact .inl rfl | exact .inr rfl))) (fun _ _ _ _ _ => pts_one (pt_cmpR (op_eqD hu) (pe_op op_mulU (pe_slice sl_seqU (pv 0) po_none (po_some (pv 2))) (pe_op op_fdivN (pe_callB call_len_seq (by rfl) T.m_len (by decide +kernel) (pa_cons (pv 0) pa_nil)) (pv 2))) (pv 0) (by rfl))) (fun _ _ _ _ _ => (pe_slice sl_seqU (pv 0) po_none (po_some (pv 2))))) pe_int (fun _ _ => rfl))))), ?_⟩
  have hl : 0 < v.length := List.length_pos_iff.mpr hv
  cases hds with
  | cons h0 r =>
    cases r
    refine s_asgM (em_new (el_lcR2 (lo := 1) (n := (v.length : Int) + 1) (fun i => decide (v.length % (i + 1) = 0)) (fun i => .int ((i + 1 : Nat) : Int)) (ea_cons ed_int (ea_cons (ed_addI (ed_lenW (ed_var rfl h0)) ed_int) ea_nil)) (by omega) (fun x => rfl) (fun i H1 e1 hi => ?_) (fun i H1 e1 hi hf => ed_var rfl ?_))) (fun a H1 e1 ha => ?_)
    · refine eb_is (a := decide (((v.length % (i + 1) : Nat) : Int) = 0)) (eb_test (ed_eqI (ed_is (ed_modI (ed_lenW (ed_var rfl (h0.keep (.ex e1)))) (ed_var rfl (.i (1 + (i : Int)))) (by omega)) ?_) ed_int)) ?_
      · rw [show (1 : Int) + (i : Int) = ((i + 1 : Nat) : Int) by omega, fmod_nat]
      · apply decide_eq_decide.mpr
        omega
    · rw [show ((i + 1 : Nat) : Int) = 1 + (i : Int) by omega]
      exact .i _
    · generalize hg : (gd ((v.length : Int) + 1 - 1).toNat (fun i => decide (v.length % (i + 1) = 0)) fun i => PyData.int ((i + 1 : Nat) : Int)) = gs at ha
      have hm : ∀ {i : Nat} {d : WV.T}, gs[i]? = some d → ∃ j, j < v.length ∧ d = .int ((j + 1 : Nat) : Int) := fun h => by
        rw [← hg] at h
        obtain ⟨j, h1, _, h2⟩ := gd_mem h
        exact ⟨j, by omega, h2⟩
      have h0' := h0.keep (.ex e1)
      have hlen : gs.length ≤ 500 := by
        rw [← hg]
        have := gd_len ((v.length : Int) + 1 - 1).toNat (fun i => decide (v.length % (i + 1) = 0)) fun i => PyData.int ((i + 1 : Nat) : Int)
        omega
      let F : WV.T → Bool := fun d => match d with | .int s => decide (repI (v.length / s.toNat) (v.take s.toNat) = v) | _ => false
      let G : WV.T → WV.T := fun d => match d with | .int s => W (v.take s.toNat) | _ => .none
      refine s_ret (ed_ixM (ds := (gs.filter F).map G) (em_new (el_is (el_lcM (ds := gs) (fun i => F (gs.getD i .none)) (fun i => G (gs.getD i .none)) (em_var rfl ha) (by omega) (fun i x d H2 e2 hd hx Q2 q2 => ?_)) (gd_list gs F G))) ed_int ?_) (fun z H2 e2 hz => q z H2 (e1.trans e2) hz)
      · rw [getD_of hd] at q2
        obtain ⟨j, hj, rfl⟩ := hm hd
        have hvv := h0'.keep (.ex e2)
        refine q2 _ rfl ?_ (fun _ => ?_)
        · refine eb_is (eb_test (ed_eqW (ed_repW (k := v.length / (j + 1)) (ed_takeW (ed_var rfl hvv) (ed_var rfl hx)) (ed_is (ed_fdivI (ed_lenW (ed_var rfl hvv)) (ed_var rfl hx) ?_) ?_) ?_ ?_ ?_) (ed_var rfl hvv))) ?_
          · exact ⟨by omega, by omega⟩
          · rw [fdiv_nat]
          · intro e
            have := congrArg List.length e
            rw [List.length_take, List.length_nil] at this
            omega
          · refine ⟨Nat.div_pos (by omega) (by omega), Nat.le_trans (Nat.div_le_self _ _) (by omega)⟩
          · rw [List.length_take]
            omega
          · rfl
        · exact ed_takeW (ed_var rfl hvv) (ed_var rfl hx)
      · obtain ⟨i, hi⟩ := root_find hv
        have hroot : root v = v.take (i + 1) := by
          unfold root rootSize
          rw [hi]
        have key : ((gs.filter F).map G).head? = some (W (root v)) := by
          rw [← hg]
          unfold gd
          rw [show ((v.length : Int) + 1 - 1).toNat = v.length by omega, List.filter_map, List.filter_filter, List.map_map, List.head?_map, List.head?_filter]
          have : (fun a => (F ∘ fun i => PyData.int ((i + 1 : Nat) : Int)) a && decide (v.length % (a + 1) = 0)) = (fun i => rootOk v (i + 1)) := by
            funext a
            show (decide (repI (v.length / (((a + 1 : Nat) : Int)).toNat) (v.take (((a + 1 : Nat) : Int)).toNat) = v) && decide (v.length % (a + 1) = 0)) = _
            rw [Int.toNat_natCast]
            unfold rootOk
            rw [Bool.and_comm]
            congr 1
          rw [this, hi]
          show some (W (v.take (((i + 1 : Nat) : Int)).toNat)) = _
          rw [Int.toNat_natCast, hroot]
        cases hl : (gs.filter F).map G with
        | nil =>
          rw [hl] at key
          cases key
        | cons x xs =>
          rw [hl] at key
          cases key
          exact atI0 _ _
end K23
set_option maxRecDepth 100000
set_option maxHeartbeats 1000000
namespace K23
open PySem PySem.Spec PyProof.Rows L2 WV
open Evl (Ex)
variable {P : Program} {w : World} {K : PySem.W.Frag} {mg : Str → Option Value} {base : Heap}
section
variable {σ : L2.St} {H : Hp} {ta tb te : TE} {u v : List Int}
theorem ed_La0 (h : ED ta σ H (La u v)) : ED (tOp (rIx K) ta (tC (.int 0))) σ H (W u) := ed_ix h ed_int (atI0 _ _)
theorem ed_La1 (h : ED ta σ H (La u v)) : ED (tOp (rIx K) ta (tC (.int 1))) σ H (W v) := ed_ix h ed_int (atI_nat (j := 1) rfl)
theorem ed_La (h1 : ED ta σ H (W u)) (h2 : ED tb σ H (W v)) : ED (tTup (tCons ta (tCons tb tNil))) σ H (La u v) := ed_tup (ea_cons h1 (ea_cons h2 ea_nil)) (by simp)
end
theorem ed_m1 {σ : L2.St} {H : Hp} : ED (tUn (L2.rU fun i => .int (-i)) (tC (.int 1))) σ H (.int (-1)) := ed_neg ed_int
def fLeast : List T → T → Prop := fun ds r => ∃ u v : List Int, ds = [La u v] ∧ v ≠ [] ∧ u.length ≤ 500 ∧ v.length ≤ 500 ∧ r = La (least u v).1 (least u v).2
theorem ok_least_lasso (T : Txt K mg) : FnOk P w K mg base CX0 2 T.f_least_lasso T.d_least_lasso ["lasso"] (SpT fLeast) := by
  have G_root_of := ok_root_of (P := P) (w := w) (base := base) T
  refine T.F_least_lasso.ok sc_least_lasso (fun vs H Q E h => spT_len (n := 1) (fun ds d ⟨u, v, e, _⟩ => by rw [e]; rfl) h) (fun cdv A outer s H vs Q E hr h => ?_)
  obtain ⟨ds, r, hds, ⟨u, v, rfl, hv, hz1, hz2, rfl⟩, q⟩ := h
  have hu := hr.units
  refine ⟨_, (pss_cons (ps_par (i := 1) (j := 2) (by rfl) sc_least_lasso.nd rfl rfl (by decide) rfl rfl (pa_cons (pe_ix ix_seq (pv 0) pe_int (fun _ _ => rfl)) (pa_cons (pe_call G_root_of (hr.mono (by decide)) (by rfl) T.g_root_of T.F_root_of.kp T.b_root_of .nil pass0 (pa_cons (pe_ix ix_seq (pv 0) pe_int (fun _ _ => rfl)) pa_nil)) pa_nil)) (by rfl))
      (Evl.pss_cut (ps_while PassesOwn.never (PW.pt (pw_and (pt_cmpR (op_neD hu) (pv 1) (pe_tup pa_nil) (by rfl)) (pw_and1 (pt_cmpR (op_eqD hu) (pe_ix ix_seq (pv 1) (pe_un un_neg pe_int) (fun _ _ => rfl)) (pe_ix ix_seq (pv 2) (pe_un un_neg pe_int) (fun _ _ => rfl)) (by rfl)))))
        (pss_one (ps_par (i := 1) (j := 2) (by rfl) sc_least_lasso.nd rfl rfl (by decide) rfl rfl (pa_cons (pe_slice sl_seqU (pv 1) po_none (po_some (pe_un un_neg pe_int))) (pa_cons (pe_op op_addU (pe_slice sl_seqU (pv 2) (po_some (pe_un un_neg pe_int)) po_none) (pe_slice sl_seqU (pv 2) po_none (po_some (pe_un un_neg pe_int)))) pa_nil)) (by rfl))))
      (pss_one (ps_ret (pe_tup (pa_cons (pv 1) (pa_cons (pv 2) pa_nil))))))), ?_⟩
  cases hds with
  | cons h0 r =>
    cases r
    rename_i x0
    refine s_par (ed_La0 (ed_var rfl h0)) (ed_call (ea_cons (ed_La1 (ed_var rfl h0)) ea_nil) ⟨v, rfl, hv, hz2, rfl⟩) fun a b H1 e1 ha hb => ?_
    refine Evl.q_cut (M := fun σ' H' => ∃ a b, σ' = [some x0, some a, some b] ∧ Td H' a (W (least u v).1) ∧ Td H' b (W (least u v).2) ∧ Ex H H') ?_ ?_
    · refine Evl.s_while (fun m σ' H' => ∃ a b u' v', σ' = [some x0, some a, some b] ∧ m = u'.length ∧ Td H' a (W u') ∧ Td H' b (W v') ∧ Ex H H' ∧ v' ≠ [] ∧ u'.length ≤ 500 ∧ v'.length ≤ 500 ∧ strp u'.length u' v' = least u v) u.length ?_ ?_
      · refine ⟨a, b, u, root v, rfl, rfl, ha, hb, e1, root_ne hv, hz1, ?_, rfl⟩
        rw [root_length hv]
        exact Nat.le_trans (rootSize_ok hv).2.1 hz2
      · rintro m σ' H' ⟨a, b, u', v', rfl, rfl, ha, hb, e', hv', l1, l2, hs⟩
        by_cases h1 : u' = []
        · refine ⟨false, eb_andF (eb_is (eb_test (ed_neW0 (ed_var rfl ha) (ed_tup ea_nil (by simp)))) (by simp [h1])), (fun z => absurd z (by decide)), fun _ H2 e2 => ?_⟩
          refine ⟨a, b, rfl, ?_, ?_, e'.trans e2⟩
          · rw [← hs, h1]
            rw [h1] at ha
            exact ha.keep (.ex e2)
          · rw [← hs, h1]
            exact hb.keep (.ex e2)
        · have hl1 : 0 < u'.length := List.length_pos_iff.mpr h1
          have hl2 : 0 < v'.length := List.length_pos_iff.mpr hv'
          refine ⟨decide (u'.getD (u'.length - 1) 0 = v'.getD (v'.length - 1) 0), eb_is (eb_and (a := true) (eb_is (eb_test (ed_neW0 (ed_var rfl ha) (ed_tup ea_nil (by simp)))) (by simp [h1])) (fun _ => eb_test (ed_eqI (ed_ixW1 (ed_var rfl ha) ed_m1 h1) (ed_ixW1 (ed_var rfl hb) ed_m1 hv')))) (by simp), fun hc H2 e2 => ?_, fun hc H2 e2 => ?_⟩
          · have ha2 := ha.keep (.ex e2)
            have hb2 := hb.keep (.ex e2)
            refine ⟨_, fun σ2 H3 h => h, ?_⟩
            refine s_par (ed_initW (ed_var rfl ha2) ed_m1) (ed_catW (ed_lastW (ed_var rfl hb2) ed_m1) (ed_initW (ed_var rfl hb2) ed_m1) (by rw [List.length_drop, List.length_dropLast]; omega)) fun a' b' H3 e3 ha3 hb3 => ?_
            refine ⟨u'.length - 1, by omega, a', b', u'.dropLast, rot v', rfl, by rw [List.length_dropLast], ha3, hb3, (e'.trans e2).trans e3, rot_ne hv', by rw [List.length_dropLast]; omega, by rw [rot_length hv']; omega, ?_⟩
            rw [← hs, List.length_dropLast]
            obtain ⟨n, hn⟩ : ∃ n, u'.length = n + 1 := ⟨u'.length - 1, by omega⟩
            have hc := of_decide_eq_true hc
            rw [hn] at hc
            rw [hn, strp, if_pos ⟨h1, by rw [hn]; exact hc⟩]
            rfl
          · obtain ⟨n, hn⟩ : ∃ n, u'.length = n + 1 := ⟨u'.length - 1, by omega⟩
            have hc := of_decide_eq_false hc
            have : strp u'.length u' v' = (u', v') := by
              rw [hn, strp, if_neg (fun h => hc h.2)]
            rw [this] at hs
            exact ⟨a, b, rfl, by rw [← hs]; exact ha.keep (.ex e2), by rw [← hs]; exact hb.keep (.ex e2), e'.trans e2⟩
    · rintro σ' H' ⟨a, b, rfl, ha, hb, e'⟩
      exact s_ret (ed_La (ed_var rfl ha) (ed_var rfl hb)) fun z H3 e3 hz => q z H3 (e'.trans e3) hz
end K23
set_option maxRecDepth 100000
set_option maxHeartbeats 1000000
namespace K23
open PySem PySem.Spec PyProof.Rows L2 WV
open Evl (Ex)
variable {P : Program} {w : World} {K : PySem.W.Frag} {mg : Str → Option Value} {base : Heap}
def shift (u v : List Int) (i : Nat) : List Int × List Int := if i ≤ u.length then least (u.drop i) v else least [] (v.drop ((i - u.length) % v.length) ++ v.take ((i - u.length) % v.length))
def fShift : List T → T → Prop := fun ds r => ∃ u v : List Int, ∃ i : Nat, ds = [La u v, .int i] ∧ v ≠ [] ∧ u.length ≤ 500 ∧ v.length ≤ 500 ∧ r = La (shift u v i).1 (shift u v i).2
theorem ok_shifted_lasso (T : Txt K mg) : FnOk P w K mg base CX0 3 T.f_shifted_lasso T.d_shifted_lasso ["lasso", "i"] (SpT fShift) := by
  have G_least_lasso := ok_least_lasso (P := P) (w := w) (base := base) T
  refine T.F_shifted_lasso.ok sc_shifted_lasso (fun vs H Q E h => spT_len (n := 2) (fun ds d ⟨u, v, i, e, _⟩ => by rw [e]; rfl) h) (fun cdv A outer s H vs Q E hr h => ?_)
  obtain ⟨ds, r, hds, ⟨u, v, i, rfl, hv, hz1, hz2, rfl⟩, q⟩ := h
  have hu := hr.units
  have hl : 0 < v.length := List.length_pos_iff.mpr hv
  refine ⟨_, (pss_cons (ps_asg (pv 0) (pg_tup rfl (pgs_cons (pg_name (i := 2) sc_shifted_lasso.nd rfl (by first | exact .inl rfl | exact .inr rfl)) (pgs_cons (pg_name (i := 3) sc_shifted_lasso.nd rfl (by first | exact .inl rfl | exact .inr rfl)) pgs_nil))))
      (pss_cons (ps_if (pt_cmpR op_le (pv 1) (pe_callB call_len_seq (by rfl) T.m_len (by decide +kernel) (pa_cons (pv 2) pa_nil)) (by rfl))
        (pss_one (ps_ret (pe_call G_least_lasso (hr.mono (by decide)) (by rfl) T.g_least_lasso T.F_least_lasso.kp T.b_least_lasso .nil pass0 (pa_cons (pe_tup (pa_cons (pe_slice sl_seqU (pv 2) (po_some (pv 1)) po_none) (pa_cons (pv 3) pa_nil))) pa_nil))))
        pss_nil)
      (pss_cons (ps_asg (pe_op op_modN (pe_op op_sub (pv 1) (pe_callB call_len_seq (by rfl) T.m_len (by decide +kernel) (pa_cons (pv 2) pa_nil))) (pe_callB call_len_seq (by rfl) T.m_len (by decide +kernel) (pa_cons (pv 3) pa_nil))) (pg_name (i := 4) sc_shifted_lasso.nd rfl (by first | exact .inl rfl | exact .inr rfl)))
      (pss_one (ps_ret (pe_call G_least_lasso (hr.mono (by decide)) (by rfl) T.g_least_lasso T.F_least_lasso.kp T.b_least_lasso .nil pass0 (pa_cons (pe_tup (pa_cons (pe_tup pa_nil) (pa_cons (pe_op op_addU (pe_slice sl_seqU (pv 3) (po_some (pv 4)) po_none) (pe_slice sl_seqU (pv 3) po_none (po_some (pv 4)))) pa_nil))) pa_nil))))))), ?_⟩
  cases hds with
  | cons h0 r =>
    cases r with
    | cons h1 r =>
      cases r
      refine s_unp2 (ed_var rfl h0) fun a b H1 e1 ha hb => ?_
      have h1' := h1.keep (.ex e1)
      refine s_if (eb_test (ed_leI (ed_var rfl h1') (ed_lenW (ed_var rfl ha)))) (fun hc H2 e2 => ?_) (fun hc H2 e2 => ?_)
      · have hc : i ≤ u.length := by
          have := of_decide_eq_true hc
          omega
        refine s_ret (ed_call (ea_cons (ed_La (ed_dropW (ed_var rfl (ha.keep (.ex e2))) (ed_var rfl (h1'.keep (.ex e2)))) (ed_var rfl (hb.keep (.ex e2)))) ea_nil) ⟨_, _, rfl, hv, by rw [List.length_drop]; omega, hz2, rfl⟩) fun z H3 e3 hz => q z H3 ((e1.trans e2).trans e3) ?_
        rw [shift, if_pos hc]
        exact hz
      · have hc : ¬ i ≤ u.length := by
          have := of_decide_eq_false hc
          omega
        refine s_asg (d := .int (((i - u.length) % v.length : Nat) : Int)) (ed_is (ed_modI (ed_subI (ed_var rfl (h1'.keep (.ex e2))) (ed_lenW (ed_var rfl (ha.keep (.ex e2))))) (ed_lenW (ed_var rfl (hb.keep (.ex e2)))) (by omega)) ?_) (fun t H3 e3 ht => ?_)
        · rw [show (i : Int) - (u.length : Int) = ((i - u.length : Nat) : Int) by omega, fmod_nat]
        · have hb3 := hb.keep (.ex (e2.trans e3))
          refine s_ret (ed_call (ea_cons (ed_La (u := []) (ed_tup ea_nil (by simp)) (ed_catW (ed_dropW (ed_var rfl hb3) (ed_var rfl ht)) (ed_takeW (ed_var rfl hb3) (ed_var rfl ht)) ?_)) ea_nil) ⟨[], _, rfl, ?_, by simp, ?_, rfl⟩) fun z H4 e4 hz => q z H4 (((e1.trans e2).trans e3).trans e4) ?_
          · rw [List.length_drop, List.length_take]
            omega
          · rw [shift, if_neg hc]
            exact hz
          · intro e
            have := congrArg List.length e
            rw [List.length_append, List.length_drop, List.length_take, List.length_nil] at this
            omega
          · rw [List.length_append, List.length_drop, List.length_take]
            omega
/-- how far two are compared -/
def farI (u v u' v' : List Int) : Nat := max u.length u'.length + v.length + v'.length
def apart (u v u' v' : List Int) : Option Nat := (List.range (farI u v u' v')).find? (fun i => !decide (lat u v i = lat u' v' i))
def optN : Option Nat → T
  | none => .none
  | some i => .int (i : Nat)
def fApart : List T → T → Prop := fun ds r => ∃ u v u' v' : List Int, ds = [La u v, La u' v'] ∧ v ≠ [] ∧ v' ≠ [] ∧ u.length ≤ 500 ∧ v.length ≤ 500 ∧ u'.length ≤ 500 ∧ v'.length ≤ 500 ∧ r = optN (apart u v u' v')
theorem find_lt {p : Nat → Bool} {n i : Nat} (h : i < n) (hp : p i = true) (hn : ∀ j, j < i → p j = false) : (List.range n).find? p = some i := by
  rw [List.find?_range_eq_some]
  exact ⟨hp, by simpa using h, fun j hj => by simp [hn j hj]⟩
theorem find_no {p : Nat → Bool} {n : Nat} (hn : ∀ j, j < n → p j = false) : (List.range n).find? p = none := by
  rw [List.find?_range_eq_none]
  exact fun j hj => by simp [hn j hj]
theorem ok_first_apart (T : Txt K mg) : FnOk P w K mg base CX0 2 T.f_first_apart T.d_first_apart ["one", "other"] (SpT fApart) := by
  have G_letter_at := ok_letter_at (P := P) (w := w) (base := base) T
  refine T.F_first_apart.ok sc_first_apart (fun vs H Q E h => spT_len (n := 2) (fun ds d ⟨u, v, _, _, e, _⟩ => by rw [e]; rfl) h) (fun cdv A outer s H vs Q E hr h => ?_)
  obtain ⟨ds, r, hds, ⟨u, v, u', v', rfl, hv, hv', z1, z2, z3, z4, rfl⟩, q⟩ := h
  have hu := hr.units
  refine ⟨_, (pss_cons (ps_asg (pe_op op_addU (pe_op op_addU (pe_callB (call_max2 rfl) (by rfl) T.m_max (by decide +kernel) (pa_cons (pe_callB call_len_seq (by rfl) T.m_len (by decide +kernel) (pa_cons (pe_ix ix_seq (pv 0) pe_int (fun _ _ => rfl)) pa_nil)) (pa_cons (pe_callB call_len_seq (by rfl) T.m_len (by decide +kernel) (pa_cons (pe_ix ix_seq (pv 1) pe_int (fun _ _ => rfl)) pa_nil)) pa_nil))) (pe_callB call_len_seq (by rfl) T.m_len (by decide +kernel) (pa_cons (pe_ix ix_seq (pv 0) pe_int (fun _ _ => rfl)) pa_nil))) (pe_callB call_len_seq (by rfl) T.m_len (by decide +kernel) (pa_cons (pe_ix ix_seq (pv 1) pe_int (fun _ _ => rfl)) pa_nil))) (pg_name (i := 2) sc_first_apart.nd rfl (by first | exact .inl rfl | exact .inr rfl)))
      (Evl.pss_cut (ps_for PassesOwn.never rfl (pi_range1 (by rfl) T.m_range (pa_cons (pv 2) pa_nil)) (pg_name (i := 3) sc_first_apart.nd rfl (by first | exact .inl rfl | exact .inr rfl))
        (pss_one (ps_if (pt_cmpR (op_neD hu) (pe_call G_letter_at (hr.mono (by decide)) (by rfl) T.g_letter_at T.F_letter_at.kp T.b_letter_at .nil pass0 (pa_cons (pv 0) (pa_cons (pv 3) pa_nil))) (pe_call G_letter_at (hr.mono (by decide)) (by rfl) T.g_letter_at T.F_letter_at.kp T.b_letter_at .nil pass0 (pa_cons (pv 1) (pa_cons (pv 3) pa_nil))) (by rfl))
        (pss_one (ps_ret (pv 3)))
        pss_nil)))
      (pss_one (ps_ret pe_non)))), ?_⟩
  cases hds with
  | cons h0 r =>
    cases r with
    | cons h1 r =>
      cases r
      rename_i x0 x1
      refine s_asg (d := .int (farI u v u' v' : Nat)) (ed_is (ed_addI (ed_addI (ed_max (ed_lenW (ed_La0 (ed_var rfl h0))) (ed_lenW (ed_La0 (ed_var rfl h1)))) (ed_lenW (ed_La1 (ed_var rfl h0)))) (ed_lenW (ed_La1 (ed_var rfl h1)))) ?_) (fun m H1 e1 hm => ?_)
      · unfold farI
        congr 1
        omega
      refine Evl.q_cut (M := fun σ' H' => Ex H H' ∧ apart u v u' v' = none) ?_ ?_
      · refine s_forR1 (n := (farI u v u' v' : Nat)) (ea_cons (ed_var rfl hm) ea_nil) (by unfold farI; omega) (fun i σ' H' => (∃ z, σ' = [some x0, some x1, some m, z]) ∧ Ex H1 H' ∧ ∀ j, j < i → lat u v j = lat u' v' j) (fun H2 e2 => ⟨⟨_, rfl⟩, e2, fun j hj => absurd hj (by omega)⟩) ?_ ?_
        · rintro i σ' H' hi ⟨⟨z, rfl⟩, e2, hp⟩
          have h0' := h0.keep (.ex (e1.trans e2))
          have h1' := h1.keep (.ex (e1.trans e2))
          refine s_if (eb_test (ed_neI (ed_call (ea_cons (ed_var rfl h0') (ea_cons (ed_var rfl (.i _)) ea_nil)) ⟨u, v, i, rfl, hv, rfl⟩) (ed_call (ea_cons (ed_var rfl h1') (ea_cons (ed_var rfl (.i _)) ea_nil)) ⟨u', v', i, rfl, hv', rfl⟩))) (fun hc H3 e3 => ?_) (fun hc H3 e3 => ?_)
          · refine s_ret (ed_var rfl (.i _)) fun z H4 e4 hz => q z H4 (((e1.trans e2).trans e3).trans e4) ?_
            have : apart u v u' v' = some i := find_lt (by omega) hc fun j hj => by simp [hp j hj]
            rw [this]
            exact hz
          · refine ⟨⟨_, rfl⟩, e2.trans e3, fun j hj => ?_⟩
            by_cases e : j = i
            · subst e
              simpa using hc
            · exact hp j (by omega)
        · rintro σ' H' ⟨⟨z, rfl⟩, e2, hp⟩
          refine ⟨e1.trans e2, find_no fun j hj => ?_⟩
          simp [hp j (by omega)]
      · rintro σ' H' ⟨e, hp⟩
        refine s_ret ed_non fun z H4 e4 hz => q z H4 (e.trans e4) ?_
        rw [hp]
        exact hz
end K23
set_option maxRecDepth 100000
set_option maxHeartbeats 1000000
namespace K23
open PySem PySem.Spec PyProof.Rows L2 WV
open Evl (Ex)
variable {P : Program} {w : World} {K : PySem.W.Frag} {mg : Str → Option Value} {base : Heap}
theorem ok_law_at (T : Txt K mg) : FnOk P w K mg base CX0 1 T.f_law_at T.d_law_at ["lasso", "i"] (SpT fAt) := by
  refine T.F_law_at.ok sc_law_at (fun vs H Q E h => spT_len (n := 2) (fun ds d ⟨u, v, i, e, _⟩ => by rw [e]; rfl) h) (fun cdv A outer s H vs Q E hr h => ?_)
  obtain ⟨ds, d, hds, ⟨u, v, i, rfl, hv, rfl⟩, q⟩ := h
  have hv0 : 0 < v.length := List.length_pos_iff.mpr hv
  refine ⟨_, (pss_cons (ps_asg (pv 0) (pg_tup rfl (pgs_cons (pg_name (i := 2) sc_law_at.nd rfl (by first | exact .inl rfl | exact .inr rfl)) (pgs_cons (pg_name (i := 3) sc_law_at.nd rfl (by first | exact .inl rfl | exact .inr rfl)) pgs_nil))))
      (pss_one (ps_ret (pe_ifExp (pt_cmpR op_lt (pv 1) (pe_callB call_len_seq (by rfl) T.m_len (by decide +kernel) (pa_cons (pv 2) pa_nil)) (by rfl)) (pe_ix ix_seq (pv 2) (pv 1) (fun _ _ => rfl)) (pe_ix ix_seq (pv 3) (pe_op op_modN (pe_callTy call_int1 (by rfl) T.m_int (by decide +kernel) (pa_cons (pe_op op_sub (pv 1) (pe_callB call_len_seq (by rfl) T.m_len (by decide +kernel) (pa_cons (pv 2) pa_nil))) pa_nil)) (pe_callB call_len_seq (by rfl) T.m_len (by decide +kernel) (pa_cons (pv 3) pa_nil))) (fun _ _ => rfl)))))), ?_⟩
  cases hds with
  | cons h0 r =>
    cases r with
    | cons h1 r =>
      cases r
      refine s_unp2 (ed_var rfl h0) fun a b H1 e1 ha hb => ?_
      have h1' := h1.keep (.ex e1)
      refine s_ret (d := .int (lat u v i)) (ed_if (eb_test (ed_ltI (ed_var rfl h1') (ed_lenW (ed_var rfl ha)))) (fun hlt => ed_is (ed_ixW (i := i) (ed_var rfl ha) (ed_var rfl h1') ?_) ?_)
        (fun hge => ed_is (ed_ixW (i := (i - u.length) % v.length) (ed_var rfl hb) (ed_is (ed_modI (ed_int1 (ed_subI (ed_var rfl h1') (ed_lenW (ed_var rfl ha)))) (ed_lenW (ed_var rfl hb)) (by omega)) ?_) ?_) ?_)) (fun z H2 e2 hz => q z H2 (e1.trans e2) hz)
      · have := of_decide_eq_true hlt
        omega
      · have := of_decide_eq_true hlt
        have hi : i < u.length := by omega
        simp [lat, hi]
      · have := of_decide_eq_false hge
        rw [show (i : Int) - (u.length : Int) = ((i - u.length : Nat) : Int) by omega, fmod_nat]
      · exact Nat.mod_lt _ hv0
      · have := of_decide_eq_false hge
        have hi : ¬ i < u.length := by omega
        simp [lat, hi]
theorem dec0 (x : Nat) : decide ((x : Int) = 0) = (x == 0) := by
  cases x with
  | zero => rfl
  | succ n => simp; omega
theorem ok_law_least (T : Txt K mg) : FnOk P w K mg base CX0 2 T.f_law_least T.d_law_least ["lasso"] (SpT fLeast) := by
  refine T.F_law_least.ok sc_law_least (fun vs H Q E h => spT_len (n := 1) (fun ds d ⟨u, v, e, _⟩ => by rw [e]; rfl) h) (fun cdv A outer s H vs Q E hr h => ?_)
  obtain ⟨ds, r, hds, ⟨u, v, rfl, hv, hz1, hz2, rfl⟩, q⟩ := h
  have hu := hr.units
  have hl : 0 < v.length := List.length_pos_iff.mpr hv
  refine ⟨_, (pss_cons (ps_asg (pv 0) (pg_tup rfl (pgs_cons (pg_name (i := 1) sc_law_least.nd rfl (by first | exact .inl rfl | exact .inr rfl)) (pgs_cons (pg_name (i := 2) sc_law_least.nd rfl (by first | exact .inl rfl | exact .inr rfl)) pgs_nil))))
      (Evl.pss_cut (ps_for PassesOwn.never rfl (pi_range2 (by rfl) T.m_range (pa_cons pe_int (pa_cons (pe_op op_addU (pe_callB call_len_seq (by rfl) T.m_len (by decide +kernel) (pa_cons (pv 2) pa_nil)) pe_int) pa_nil))) (pg_name (i := 3) sc_law_least.nd rfl (by first | exact .inl rfl | exact .inr rfl))
        (pss_one (ps_if (PW.pt (pw_and (pt_cmpR (op_eqD hu) (pe_op op_modN (pe_callTy call_int1 (by rfl) T.m_int (by decide +kernel) (pa_cons (pe_callB call_len_seq (by rfl) T.m_len (by decide +kernel) (pa_cons (pv 2) pa_nil)) pa_nil)) (pv 3)) pe_int (by rfl)) (pw_and1 (pt_cmpR (op_eqD hu) (pe_op op_mulU (pe_slice sl_seqU (pv 2) po_none (po_some (pv 3))) (pe_op op_fdivN (pe_callB call_len_seq (by rfl) T.m_len (by decide +kernel) (pa_cons (pv 2) pa_nil)) (pv 3))) (pv 2) (by rfl)))))
        (pss_cons (ps_asg (pe_slice sl_seqU (pv 2) po_none (po_some (pv 3))) (pg_name (i := 2) sc_law_least.nd rfl (by first | exact .inl rfl | exact .inr rfl)))
      (pss_one ps_break))
        pss_nil)))
      (Evl.pss_cut (ps_while PassesOwn.never (PW.pt (pw_and (pt_cmpR (op_neD hu) (pv 1) (pe_tup pa_nil) (by rfl)) (pw_and1 (pt_cmpR (op_eqD hu) (pe_ix ix_seq (pv 1) (pe_un un_neg pe_int) (fun _ _ => rfl)) (pe_ix ix_seq (pv 2) (pe_un un_neg pe_int) (fun _ _ => rfl)) (by rfl)))))
        (pss_one (ps_par (i := 1) (j := 2) (by rfl) sc_law_least.nd rfl rfl (by decide) rfl rfl (pa_cons (pe_slice sl_seqU (pv 1) po_none (po_some (pe_un un_neg pe_int))) (pa_cons (pe_op op_addU (pe_slice sl_seqU (pv 2) (po_some (pe_un un_neg pe_int)) po_none) (pe_slice sl_seqU (pv 2) po_none (po_some (pe_un un_neg pe_int)))) pa_nil)) (by rfl))))
      (pss_one (ps_ret (pe_tup (pa_cons (pv 1) (pa_cons (pv 2) pa_nil)))))))), ?_⟩
  cases hds with
  | cons h0 r =>
    cases r
    rename_i x0
    refine s_unp2 (ed_var rfl h0) fun a b H1 e1 ha hb => ?_
    refine Evl.q_cut (M := fun σ' H' => ∃ b z, σ' = [some x0, some a, some b, z] ∧ Ex H1 H' ∧ Td H' b (W (root v))) ?_ ?_
    · refine s_forR2 (lo := 1) (n := (v.length : Int) + 1) (ea_cons ed_int (ea_cons (ed_addI (ed_lenW (ed_var rfl hb)) ed_int) ea_nil)) (by omega) (fun i σ' H' => (∃ z, σ' = [some x0, some a, some b, z]) ∧ Ex H1 H' ∧ ∀ j, j < i → rootOk v (j + 1) = false) (fun H2 e2 => ⟨⟨_, rfl⟩, e2, fun j hj => absurd hj (by omega)⟩) ?_ ?_
      · rintro i σ' H' hi ⟨⟨z, rfl⟩, e2, hp⟩
        have hb2 := hb.keep (.ex e2)
        have hsz : Td H' (.int (1 + (i : Int))) (.int ((i + 1 : Nat) : Int)) := by
          rw [show ((i + 1 : Nat) : Int) = 1 + (i : Int) by omega]
          exact .i _
        refine s_if (b := rootOk v (i + 1)) (eb_is (eb_and (a := decide (((v.length % (i + 1) : Nat) : Int) = 0)) (b := decide (repI (v.length / (i + 1)) (v.take (i + 1)) = v)) (eb_test (ed_eqI (ed_is (ed_modI (ed_int1 (ed_lenW (ed_var rfl hb2))) (ed_var rfl hsz) (by omega)) ?_) ed_int)) (fun _ => eb_test (ed_eqW (ed_repW (k := v.length / (i + 1)) (ed_takeW (ed_var rfl hb2) (ed_var rfl hsz)) (ed_is (ed_fdivI (ed_lenW (ed_var rfl hb2)) (ed_var rfl hsz) ?_) ?_) ?_ ?_ ?_) (ed_var rfl hb2)))) ?_) (fun hc H3 e3 => ?_) (fun hc H3 e3 => ?_)
        · rw [fmod_nat]
        · exact ⟨by omega, by omega⟩
        · rw [fdiv_nat]
        · intro e
          have := congrArg List.length e
          rw [List.length_take, List.length_nil] at this
          omega
        · refine ⟨Nat.div_pos (by omega) (by omega), Nat.le_trans (Nat.div_le_self _ _) (by omega)⟩
        · rw [List.length_take]
          omega
        · unfold rootOk
          congr 1
          exact dec0 _
        · refine s_asg (ed_takeW (ed_var rfl (hb2.keep (.ex e3))) (ed_var rfl (hsz.keep (.ex e3)))) fun b' H4 e4 hb' => ?_
          have hr' : root v = v.take (i + 1) := by
            unfold root rootSize
            rw [find_lt (i := i) (by omega) hc hp]
          exact ⟨b', _, rfl, (e2.trans e3).trans e4, by rw [hr']; exact hb'⟩
        · refine ⟨⟨_, rfl⟩, e2.trans e3, fun j hj => ?_⟩
          by_cases e : j = i
          · subst e
            exact hc
          · exact hp j (by omega)
      · rintro σ' H' ⟨_, _, hp⟩
        have := hp (v.length - 1) (by omega)
        rw [Nat.sub_add_cancel hl, rootOk_len hv] at this
        cases this
    rintro σ' H2 ⟨b, z0, rfl, e2, hb⟩
    have ha := ha.keep (.ex e2)
    refine Evl.q_cut (M := fun σ' H' => ∃ a b, σ' = [some x0, some a, some b, z0] ∧ Td H' a (W (least u v).1) ∧ Td H' b (W (least u v).2) ∧ Ex H H') ?_ ?_
    · refine Evl.s_while (fun m σ' H' => ∃ a b u' v', σ' = [some x0, some a, some b, z0] ∧ m = u'.length ∧ Td H' a (W u') ∧ Td H' b (W v') ∧ Ex H H' ∧ v' ≠ [] ∧ u'.length ≤ 500 ∧ v'.length ≤ 500 ∧ strp u'.length u' v' = least u v) u.length ?_ ?_
      · refine ⟨a, b, u, root v, rfl, rfl, ha, hb, e1.trans e2, root_ne hv, hz1, ?_, rfl⟩
        rw [root_length hv]
        exact Nat.le_trans (rootSize_ok hv).2.1 hz2
      · rintro m σ' H' ⟨a, b, u', v', rfl, rfl, ha, hb, e', hv', l1, l2, hs⟩
        by_cases h1 : u' = []
        · refine ⟨false, eb_andF (eb_is (eb_test (ed_neW0 (ed_var rfl ha) (ed_tup ea_nil (by simp)))) (by simp [h1])), (fun z => absurd z (by decide)), fun _ H2 e2 => ?_⟩
          refine ⟨a, b, rfl, ?_, ?_, e'.trans e2⟩
          · rw [← hs, h1]
            rw [h1] at ha
            exact ha.keep (.ex e2)
          · rw [← hs, h1]
            exact hb.keep (.ex e2)
        · have hl1 : 0 < u'.length := List.length_pos_iff.mpr h1
          have hl2 : 0 < v'.length := List.length_pos_iff.mpr hv'
          refine ⟨decide (u'.getD (u'.length - 1) 0 = v'.getD (v'.length - 1) 0), eb_is (eb_and (a := true) (eb_is (eb_test (ed_neW0 (ed_var rfl ha) (ed_tup ea_nil (by simp)))) (by simp [h1])) (fun _ => eb_test (ed_eqI (ed_ixW1 (ed_var rfl ha) ed_m1 h1) (ed_ixW1 (ed_var rfl hb) ed_m1 hv')))) (by simp), fun hc H2 e2 => ?_, fun hc H2 e2 => ?_⟩
          · have ha2 := ha.keep (.ex e2)
            have hb2 := hb.keep (.ex e2)
            refine ⟨_, fun σ2 H3 h => h, ?_⟩
            refine s_par (ed_initW (ed_var rfl ha2) ed_m1) (ed_catW (ed_lastW (ed_var rfl hb2) ed_m1) (ed_initW (ed_var rfl hb2) ed_m1) (by rw [List.length_drop, List.length_dropLast]; omega)) fun a' b' H3 e3 ha3 hb3 => ?_
            refine ⟨u'.length - 1, by omega, a', b', u'.dropLast, rot v', rfl, by rw [List.length_dropLast], ha3, hb3, (e'.trans e2).trans e3, rot_ne hv', by rw [List.length_dropLast]; omega, by rw [rot_length hv']; omega, ?_⟩
            rw [← hs, List.length_dropLast]
            obtain ⟨n, hn⟩ : ∃ n, u'.length = n + 1 := ⟨u'.length - 1, by omega⟩
            have hc := of_decide_eq_true hc
            rw [hn] at hc
            rw [hn, strp, if_pos ⟨h1, by rw [hn]; exact hc⟩]
            rfl
          · obtain ⟨n, hn⟩ : ∃ n, u'.length = n + 1 := ⟨u'.length - 1, by omega⟩
            have hc := of_decide_eq_false hc
            have : strp u'.length u' v' = (u', v') := by
              rw [hn, strp, if_neg (fun h => hc h.2)]
            rw [this] at hs
            exact ⟨a, b, rfl, by rw [← hs]; exact ha.keep (.ex e2), by rw [← hs]; exact hb.keep (.ex e2), e'.trans e2⟩
    · rintro σ' H' ⟨a, b, rfl, ha, hb, e'⟩
      exact s_ret (ed_La (ed_var rfl ha) (ed_var rfl hb)) fun z H3 e3 hz => q z H3 (e'.trans e3) hz
theorem ok_law_shift (T : Txt K mg) : FnOk P w K mg base CX0 3 T.f_law_shift T.d_law_shift ["lasso", "i"] (SpT fShift) := by
  have G_law_least := ok_law_least (P := P) (w := w) (base := base) T
  refine T.F_law_shift.ok sc_law_shift (fun vs H Q E h => spT_len (n := 2) (fun ds d ⟨u, v, i, e, _⟩ => by rw [e]; rfl) h) (fun cdv A outer s H vs Q E hr h => ?_)
  obtain ⟨ds, r, hds, ⟨u, v, i, rfl, hv, hz1, hz2, rfl⟩, q⟩ := h
  have hu := hr.units
  have hl : 0 < v.length := List.length_pos_iff.mpr hv
  refine ⟨_, (pss_cons (ps_asg (pv 0) (pg_tup rfl (pgs_cons (pg_name (i := 2) sc_law_shift.nd rfl (by first | exact .inl rfl | exact .inr rfl)) (pgs_cons (pg_name (i := 3) sc_law_shift.nd rfl (by first | exact .inl rfl | exact .inr rfl)) pgs_nil))))
      (pss_cons (ps_if (pt_cmpR op_le (pv 1) (pe_callB call_len_seq (by rfl) T.m_len (by decide +kernel) (pa_cons (pv 2) pa_nil)) (by rfl))
        (pss_one (ps_ret (pe_call G_law_least (hr.mono (by decide)) (by rfl) T.g_law_least T.F_law_least.kp T.b_law_least .nil pass0 (pa_cons (pe_tup (pa_cons (pe_slice sl_seqU (pv 2) (po_some (pv 1)) po_none) (pa_cons (pv 3) pa_nil))) pa_nil))))
        pss_nil)
      (pss_cons (ps_asg (pe_op op_modN (pe_callTy call_int1 (by rfl) T.m_int (by decide +kernel) (pa_cons (pe_op op_sub (pv 1) (pe_callB call_len_seq (by rfl) T.m_len (by decide +kernel) (pa_cons (pv 2) pa_nil))) pa_nil)) (pe_callB call_len_seq (by rfl) T.m_len (by decide +kernel) (pa_cons (pv 3) pa_nil))) (pg_name (i := 4) sc_law_shift.nd rfl (by first | exact .inl rfl | exact .inr rfl)))
      (pss_one (ps_ret (pe_call G_law_least (hr.mono (by decide)) (by rfl) T.g_law_least T.F_law_least.kp T.b_law_least .nil pass0 (pa_cons (pe_tup (pa_cons (pe_tup pa_nil) (pa_cons (pe_op op_addU (pe_slice sl_seqU (pv 3) (po_some (pv 4)) po_none) (pe_slice sl_seqU (pv 3) po_none (po_some (pv 4)))) pa_nil))) pa_nil))))))), ?_⟩
  cases hds with
  | cons h0 r =>
    cases r with
    | cons h1 r =>
      cases r
      refine s_unp2 (ed_var rfl h0) fun a b H1 e1 ha hb => ?_
      have h1' := h1.keep (.ex e1)
      refine s_if (eb_test (ed_leI (ed_var rfl h1') (ed_lenW (ed_var rfl ha)))) (fun hc H2 e2 => ?_) (fun hc H2 e2 => ?_)
      · have hc : i ≤ u.length := by
          have := of_decide_eq_true hc
          omega
        refine s_ret (ed_call (ea_cons (ed_La (ed_dropW (ed_var rfl (ha.keep (.ex e2))) (ed_var rfl (h1'.keep (.ex e2)))) (ed_var rfl (hb.keep (.ex e2)))) ea_nil) ⟨_, _, rfl, hv, by rw [List.length_drop]; omega, hz2, rfl⟩) fun z H3 e3 hz => q z H3 ((e1.trans e2).trans e3) ?_
        rw [shift, if_pos hc]
        exact hz
      · have hc : ¬ i ≤ u.length := by
          have := of_decide_eq_false hc
          omega
        refine s_asg (d := .int (((i - u.length) % v.length : Nat) : Int)) (ed_is (ed_modI (ed_int1 (ed_subI (ed_var rfl (h1'.keep (.ex e2))) (ed_lenW (ed_var rfl (ha.keep (.ex e2)))))) (ed_lenW (ed_var rfl (hb.keep (.ex e2)))) (by omega)) ?_) (fun t H3 e3 ht => ?_)
        · rw [show (i : Int) - (u.length : Int) = ((i - u.length : Nat) : Int) by omega, fmod_nat]
        · have hb3 := hb.keep (.ex (e2.trans e3))
          refine s_ret (ed_call (ea_cons (ed_La (u := []) (ed_tup ea_nil (by simp)) (ed_catW (ed_dropW (ed_var rfl hb3) (ed_var rfl ht)) (ed_takeW (ed_var rfl hb3) (ed_var rfl ht)) ?_)) ea_nil) ⟨[], _, rfl, ?_, by simp, ?_, rfl⟩) fun z H4 e4 hz => q z H4 (((e1.trans e2).trans e3).trans e4) ?_
          · rw [List.length_drop, List.length_take]
            omega
          · rw [shift, if_neg hc]
            exact hz
          · intro e
            have := congrArg List.length e
            rw [List.length_append, List.length_drop, List.length_take, List.length_nil] at this
            omega
          · rw [List.length_append, List.length_drop, List.length_take]
            omega
end K23
set_option maxRecDepth 100000
set_option maxHeartbeats 1000000
namespace K23
open PySem PySem.Spec PyProof.Rows L2 WV
open Evl (Ex)
variable {P : Program} {w : World} {K : PySem.W.Frag} {mg : Str → Option Value} {base : Heap}
/-- maps -/
def tm (one other : List Int) : List Int := one.map fun s => other.getD s.toNat 0
def Mp (n : Nat) (m : List Int) : Prop := m.length = n ∧ ∀ s ∈ m, 0 ≤ s ∧ s < (n : Int)
theorem Mp.tm {n : Nat} {a b : List Int} (ha : Mp n a) (hb : Mp n b) : Mp n (tm a b) := by
  refine ⟨by unfold K23.tm; rw [List.length_map]; exact ha.1, fun s hs => ?_⟩
  unfold K23.tm at hs
  obtain ⟨x, hx, rfl⟩ := List.mem_map.mp hs
  obtain ⟨h1, h2⟩ := ha.2 x hx
  refine hb.2 _ ?_
  have : x.toNat < b.length := by rw [hb.1]; omega
  rw [List.getD, List.getElem?_eq_getElem this]
  exact List.getElem_mem this
theorem W_get {ns : List Int} {i : Nat} {d : WV.T} (h : (ns.map PyData.int)[i]? = some d) : ∃ x, ns[i]? = some x ∧ d = .int x := by
  rw [List.getElem?_map] at h
  cases e : ns[i]? with
  | none =>
    rw [e] at h
    cases h
  | some x =>
    rw [e] at h
    cases h
    exact ⟨x, rfl, rfl⟩
def fThen : List T → T → Prop := fun ds r => ∃ n a b, ds = [W a, W b] ∧ n ≤ 40000 ∧ Mp n a ∧ Mp n b ∧ r = W (tm a b)
theorem gd_mapW (a : List Int) (g : Int → Int) : (gd (a.map PyData.int).length (fun _ => true) (fun i => .int (g (a.getD i 0)))) = (a.map g).map .int := by
  rw [gd_all]
  apply List.ext_getElem
  · simp
  · intro i h1 h2
    simp at h1 h2
    simp [List.getD, h2]
theorem ok_then_map (T : Txt K mg) : FnOk P w K mg base CX0 1 T.f_then_map T.d_then_map ["one", "other"] (SpT fThen) := by
  refine T.F_then_map.ok sc_then_map (fun vs H Q E h => spT_len (n := 2) (fun ds d ⟨_, u, v, e, _⟩ => by rw [e]; rfl) h) (fun cdv A outer s H vs Q E hr h => ?_)
  obtain ⟨ds, d, hds, ⟨n, a, b, rfl, hz, ha, hb, rfl⟩, q⟩ := h
  refine ⟨_, (pss_one (ps_ret (pe_callTy call_tuple_of (by rfl) T.m_tuple (by decide +kernel) (pa_cons (pe_lcD s H (own := [("state", 2)]) rfl sc_then_map.nd (pi_seq (pv 0)) (blkOk_by (own := [("state", 2)]) (N := nm_then_map) (sc := defScope s_then_map) (by decide +kernel)) (fun _ _ _ _ _ => (pg_name (i := 2) sc_then_map.nd rfl (by first | exact .inl rfl | exact .inr rfl))) (fun _ _ _ _ _ => pts_nil) (fun _ _ _ _ _ => (pe_ix ix_seq (pv 1) (pv 2) (fun _ _ => rfl)))) pa_nil)))), ?_⟩
  cases hds with
  | cons h0 r =>
    cases r with
    | cons h1 r =>
      cases r
      refine s_ret (ed_tupL (el_is (el_lcT (ds := a.map .int) (fun _ => true) (fun i => .int (b.getD (a.getD i 0).toNat 0)) (ed_var rfl h0) (by rw [List.length_map, ha.1]; exact hz) (fun i v d H1 e1 hd hv Q2 q2 => q2 _ rfl eb_yes fun _ => ?_)) (gd_mapW a fun s => b.getD s.toNat 0))) q
      obtain ⟨x, hx, rfl⟩ := W_get hd
      have e2 : a.getD i 0 = x := by simp [List.getD, hx]
      obtain ⟨p1, p2⟩ := ha.2 x (List.mem_of_getElem? hx)
      rw [e2]
      exact ed_ixW (i := x.toNat) (ed_var rfl (h1.keep (.ex e1))) (ed_is (ed_var rfl hv) (by rw [Int.toNat_of_nonneg p1])) (by rw [hb.1]; omega)
/-- a word's map -/
def idm (n : Nat) : List Int := (List.range n).map fun (i : Nat) => (i : Int)
theorem idm_ok (n : Nat) : Mp n (idm n) := ⟨by simp [idm], fun s hs => by
  unfold idm at hs
  obtain ⟨x, hx, rfl⟩ := List.mem_map.mp hs
  rw [List.mem_range] at hx
  omega⟩
def mpw (ms : List (List Int)) (m : List Int) (ws : List Int) : List Int := ws.foldl (fun m l => tm m (ms.getD l.toNat [])) m
theorem Mp.mpw {n : Nat} {ms : List (List Int)} (hm : ∀ m ∈ ms, Mp n m) : ∀ {ws : List Int} {m : List Int}, (∀ l ∈ ws, 0 ≤ l ∧ l < (ms.length : Int)) → Mp n m → Mp n (mpw ms m ws)
  | [], m, _, h => h
  | l :: ws, m, hw, h => by
    obtain ⟨p1, p2⟩ := hw l (by simp)
    have hl : l.toNat < ms.length := by omega
    refine Mp.mpw hm (ws := ws) (fun x hx => hw x (by simp [hx])) (h.tm (hm _ ?_))
    rw [List.getD, List.getElem?_eq_getElem hl]
    exact List.getElem_mem hl
def fMapOf : List T → T → Prop := fun ds r => ∃ n : Nat, ∃ ms ws, ds = [.int (n : Nat), .tuple (ms.map W), W ws] ∧ n ≤ 40000 ∧ (∀ m ∈ ms, Mp n m) ∧ (∀ l ∈ ws, 0 ≤ l ∧ l < (ms.length : Int)) ∧ r = W (mpw ms (idm n) ws)
theorem mpw_snoc (ms : List (List Int)) (m ws : List Int) (l : Int) : mpw ms m (ws ++ [l]) = tm (mpw ms m ws) (ms.getD l.toNat []) := by
  unfold mpw
  rw [List.foldl_append]
  rfl
theorem take_snoc {α : Type} {xs : List α} {i : Nat} {x : α} (h : xs[i]? = some x) : xs.take (i + 1) = xs.take i ++ [x] := by
  rw [List.take_succ, h]
  rfl
theorem Ws_get {ms : List (List Int)} {i : Nat} (h : i < ms.length) : (ms.map W)[i]? = some (W (ms.getD i [])) := by
  rw [List.getElem?_map, List.getElem?_eq_getElem h]
  simp [List.getD, List.getElem?_eq_getElem h]
theorem td_rg {H : Hp} (n : Nat) : Tds H (rgV 0 (n : Int)) ((idm n).map .int) := by
  unfold rgV idm
  rw [show ((n : Int) - 0).toNat = n by omega, List.map_map]
  generalize List.range n = l
  induction l with
  | nil => exact .nil
  | cons x l ih =>
    refine .cons ?_ ih
    show Td H (.int (0 + (x : Int))) (.int (x : Int))
    rw [Int.zero_add]
    exact .i _
theorem ed_tupRg {σ : L2.St} {H : Hp} {ta : TE} {n : Nat} (ha : ED ta σ H (.int (n : Nat))) (hn : n ≤ 40000) : ED (tTupRg (tRg1 ta)) σ H (W (idm n)) := fun H1 k Q q => ha H1 k _ fun v H2 e2 hv =>
  ⟨n, hv.int_inv, RgOk.of_le (by omega) (by omega) (by omega) (by omega), fun p hp => q _ _ (e2.trans (Ex.new hp)) (.t upd_same (td_rg n))⟩
theorem ok_map_of (T : Txt K mg) : FnOk P w K mg base CX0 2 T.f_map_of T.d_map_of ["n", "maps", "word"] (SpT fMapOf) := by
  have G_then_map := ok_then_map (P := P) (w := w) (base := base) T
  refine T.F_map_of.ok sc_map_of (fun vs H Q E h => spT_len (n := 3) (fun ds d ⟨_, u, v, e, _⟩ => by rw [e]; rfl) h) (fun cdv A outer s H vs Q E hr h => ?_)
  obtain ⟨ds, d, hds, ⟨n, ms, ws, rfl, hz, hm, hw, rfl⟩, q⟩ := h
  refine ⟨_, (pss_cons (ps_asg (pe_tupRg rfl (by rfl) T.m_tuple (prg_1 (by rfl) T.m_range (pv 0))) (pg_name (i := 3) sc_map_of.nd rfl (by first | exact .inl rfl | exact .inr rfl)))
      (Evl.pss_cut (ps_for PassesOwn.never rfl (pi_seq (pv 2)) (pg_name (i := 4) sc_map_of.nd rfl (by first | exact .inl rfl | exact .inr rfl))
        (pss_one (ps_asg (pe_call G_then_map (hr.mono (by decide)) (by rfl) T.g_then_map T.F_then_map.kp T.b_then_map .nil pass0 (pa_cons (pv 3) (pa_cons (pe_ix ix_seq (pv 1) (pv 4) (fun _ _ => rfl)) pa_nil))) (pg_name (i := 3) sc_map_of.nd rfl (by first | exact .inl rfl | exact .inr rfl)))))
      (pss_one (ps_ret (pv 3))))), ?_⟩
  cases hds with
  | cons h0 r =>
    cases r with
    | cons h1 r =>
      cases r with
      | cons h2 r =>
        cases r
        rename_i x0 x1 x2
        refine s_asg (ed_tupRg (ed_var rfl h0) hz) fun o H1 e1 ho => ?_
        refine Evl.q_cut (M := fun σ' H' => ∃ o z, σ' = [some x0, some x1, some x2, some o, z] ∧ Ex H H' ∧ Td H' o (W (mpw ms (idm n) ws))) ?_ ?_
        · refine s_forT (ds := ws.map .int) (ed_var rfl (h2.keep (.ex e1))) (fun H2 i σ' H' => ∃ o z, σ' = [some x0, some x1, some x2, some o, z] ∧ Ex H2 H' ∧ Ex H H' ∧ Td H' o (W (mpw ms (idm n) (ws.take i)))) (fun H2 e2 => ⟨o, _, rfl, Ex.refl _, e1.trans e2, ho.keep (.ex e2)⟩) (fun H2 i σ' H' ⟨_, _, _, e, _⟩ => .ex e) ?_ ?_
          · rintro H2 i v d σ' H' e2 hd ⟨o, z, rfl, e3, e4, ho⟩ hv
            obtain ⟨x, hx, rfl⟩ := W_get hd
            obtain ⟨p1, p2⟩ := hw x (List.mem_of_getElem? hx)
            have hl : x.toNat < ms.length := by omega
            have hm1 : Mp n (mpw ms (idm n) (ws.take i)) := Mp.mpw hm (fun l hl => hw l (List.mem_of_mem_take hl)) (idm_ok n)
            have hm2 : Mp n (ms.getD x.toNat []) := hm _ (by
              rw [List.getD, List.getElem?_eq_getElem hl]
              exact List.getElem_mem hl)
            refine s_asg (ed_call (ea_cons (ed_var rfl ho) (ea_cons (ed_ix (ed_var rfl (h1.keep (.ex e4))) (ed_is (ed_var rfl hv) (congrArg PyData.int (Int.toNat_of_nonneg p1).symm)) (atI_nat (Ws_get hl))) ea_nil)) ⟨n, _, _, rfl, hz, hm1, hm2, rfl⟩) fun o' H5 e5 ho' => ?_
            refine ⟨o', _, rfl, e3.trans e5, e4.trans e5, ?_⟩
            rw [take_snoc hx, mpw_snoc]
            exact ho'
          · rintro H2 σ' H' e2 ⟨o, z, rfl, e3, e4, ho⟩
            rw [List.length_map, List.take_length] at ho
            exact ⟨o, z, rfl, e4, ho⟩
        · rintro σ' H' ⟨o, z, rfl, e, ho⟩
          exact s_ret (ed_var rfl ho) fun v H4 e4 hv => q v H4 (e.trans e4) hv
end K23
set_option maxRecDepth 100000
set_option maxHeartbeats 1000000
namespace K23
open PySem PySem.Spec PyProof.Rows L2 WV
open Evl (Ex)
variable {P : Program} {w : World} {K : PySem.W.Frag} {mg : Str → Option Value} {base : Heap}
def mvw (ms : List (List Int)) (ws : List Int) : List Int := (ws.map fun l => ms.getD l.toNat []).flatten
theorem mvw_snoc (ms : List (List Int)) (ws : List Int) (l : Int) : mvw ms (ws ++ [l]) = mvw ms ws ++ ms.getD l.toNat [] := by
  unfold mvw
  rw [List.map_append, List.flatten_append]
  simp
theorem getD_mem {ms : List (List Int)} {i : Nat} (h : i < ms.length) : ms.getD i [] ∈ ms := by
  rw [List.getD, List.getElem?_eq_getElem h]
  exact List.getElem_mem h
theorem mvw_len {ms : List (List Int)} (hm : ∀ m ∈ ms, m.length ≤ 4) : ∀ ws : List Int, (mvw ms ws).length ≤ 4 * ws.length
  | [] => by simp [mvw]
  | l :: ws => by
    have h1 := mvw_len hm ws
    have h2 : (ms.getD l.toNat []).length ≤ 4 := by
      by_cases h : l.toNat < ms.length
      · exact hm _ (getD_mem h)
      · simp [List.getD, h]
    unfold mvw at h1 ⊢
    rw [List.map_cons, List.flatten_cons, List.length_append, List.length_cons]
    omega
def fMoved : List T → T → Prop := fun ds r => ∃ ms ws, ds = [.tuple (ms.map W), W ws] ∧ (∀ m ∈ ms, m.length ≤ 4) ∧ ws.length ≤ 1000 ∧ (∀ l ∈ ws, 0 ≤ l ∧ l < (ms.length : Int)) ∧ r = W (mvw ms ws)
theorem ok_moved_word (T : Txt K mg) : FnOk P w K mg base CX0 1 T.f_moved_word T.d_moved_word ["move", "word"] (SpT fMoved) := by
  refine T.F_moved_word.ok sc_moved_word (fun vs H Q E h => spT_len (n := 2) (fun ds d ⟨_, u, e, _⟩ => by rw [e]; rfl) h) (fun cdv A outer s H vs Q E hr h => ?_)
  obtain ⟨ds, d, hds, ⟨ms, ws, rfl, hm, hz, hw, rfl⟩, q⟩ := h
  refine ⟨_, (pss_cons (ps_asg (pe_tup pa_nil) (pg_name (i := 2) sc_moved_word.nd rfl (by first | exact .inl rfl | exact .inr rfl)))
      (Evl.pss_cut (ps_for PassesOwn.never rfl (pi_seq (pv 1)) (pg_name (i := 3) sc_moved_word.nd rfl (by first | exact .inl rfl | exact .inr rfl))
        (pss_one (ps_asg (pe_op op_addU (pv 2) (pe_ix ix_seq (pv 0) (pv 3) (fun _ _ => rfl))) (pg_name (i := 2) sc_moved_word.nd rfl (by first | exact .inl rfl | exact .inr rfl)))))
      (pss_one (ps_ret (pv 2))))), ?_⟩
  cases hds with
  | cons h1 r =>
    cases r with
    | cons h2 r =>
      cases r
      rename_i x1 x2
      refine s_asg (d := W []) (ed_tup ea_nil (by simp)) fun o H1 e1 ho => ?_
      refine Evl.q_cut (M := fun σ' H' => ∃ o z, σ' = [some x1, some x2, some o, z] ∧ Ex H H' ∧ Td H' o (W (mvw ms ws))) ?_ ?_
      · refine s_forT (ds := ws.map .int) (ed_var rfl (h2.keep (.ex e1))) (fun H2 i σ' H' => ∃ o z, σ' = [some x1, some x2, some o, z] ∧ Ex H2 H' ∧ Ex H H' ∧ Td H' o (W (mvw ms (ws.take i)))) (fun H2 e2 => ⟨o, _, rfl, Ex.refl _, e1.trans e2, ho.keep (.ex e2)⟩) (fun H2 i σ' H' ⟨_, _, _, e, _⟩ => .ex e) ?_ ?_
        · rintro H2 i v d σ' H' e2 hd ⟨o, z, rfl, e3, e4, ho⟩ hv
          obtain ⟨x, hx, rfl⟩ := W_get hd
          obtain ⟨p1, p2⟩ := hw x (List.mem_of_getElem? hx)
          have hl : x.toNat < ms.length := by omega
          have hi : i < ws.length := (List.getElem?_eq_some_iff.mp hx).1
          have b1 := mvw_len hm (ws.take i)
          have b2 := hm _ (getD_mem hl)
          rw [List.length_take] at b1
          refine s_asg (ed_catW (ed_var rfl ho) (ed_ix (ed_var rfl (h1.keep (.ex e4))) (ed_is (ed_var rfl hv) (congrArg PyData.int (Int.toNat_of_nonneg p1).symm)) (atI_nat (Ws_get hl))) (by omega)) fun o' H5 e5 ho' => ?_
          refine ⟨o', _, rfl, e3.trans e5, e4.trans e5, ?_⟩
          rw [take_snoc hx, mvw_snoc]
          exact ho'
        · rintro H2 σ' H' e2 ⟨o, z, rfl, e3, e4, ho⟩
          rw [List.length_map, List.take_length] at ho
          exact ⟨o, z, rfl, e4, ho⟩
      · rintro σ' H' ⟨o, z, rfl, e, ho⟩
        exact s_ret (ed_var rfl ho) fun v H4 e4 hv => q v H4 (e.trans e4) hv
/-! led machines -/
structure Arc where
  s : Int
  l : Int
  out : List Int
  g : Int
def arcD (a : Arc) : WV.T := .tuple [.int a.s, .int a.l, W a.out, .int a.g]
def endD (e : Int × List Int) : WV.T := .tuple [.int e.1, W e.2]
def ledD (n : Nat) (bs : List Int) (as : List Arc) (es : List (Int × List Int)) : WV.T := .tuple [.int (n : Nat), W bs, .tuple (as.map arcD), .tuple (es.map endD)]
theorem gd_of {α : Type} (xs : List α) (z : α) (f : α → Bool) (g : α → WV.T) : gd xs.length (fun i => f (xs.getD i z)) (fun i => g (xs.getD i z)) = (xs.filter f).map g := by
  have e : (List.range xs.length).map (fun i => xs.getD i z) = xs := by
    apply List.ext_getElem
    · simp
    · intro i h1 h2
      simp [List.getD, h2]
  have e2 : (xs.filter f).map g = ((((List.range xs.length).map (fun i => xs.getD i z))).filter f).map g := by rw [e]
  rw [e2, List.filter_map, List.map_map]
  rfl
theorem map_get {α : Type} {xs : List α} {g : α → WV.T} (z : α) {i : Nat} {d : WV.T} (h : (xs.map g)[i]? = some d) : xs[i]? = some (xs.getD i z) ∧ d = g (xs.getD i z) := by
  rw [List.getElem?_map] at h
  cases e : xs[i]? with
  | none =>
    rw [e] at h
    cases h
  | some x =>
    rw [e] at h
    cases h
    have : xs.getD i z = x := by simp [List.getD, e]
    rw [this]
    exact ⟨rfl, rfl⟩
def isArc (s l : Int) (a : Arc) : Bool := decide ([a.s, a.l] = [s, l])
def stp (as : List Arc) (s l : Int) : Option Arc := as.find? (isArc s l)
def go (as : List Arc) (s : Int) (ws : List Int) : List Int × Int := ws.foldl (fun p l => match stp as p.2 l with
  | some a => (p.1 ++ a.out, a.g)
  | none => p) ([], s)
structure Full (n k : Nat) (as : List Arc) : Prop where
  sz : as.length ≤ 40000
  out : ∀ a ∈ as, a.out.length ≤ 4
  arc : ∀ s l : Int, 0 ≤ s → s < (n : Int) → 0 ≤ l → l < (k : Int) → ∃ a, stp as s l = some a ∧ 0 ≤ a.g ∧ a.g < (n : Int)
def St (n : Nat) (s : Int) : Prop := 0 ≤ s ∧ s < (n : Int)
def Wd (k : Nat) (ws : List Int) : Prop := ∀ l ∈ ws, 0 ≤ l ∧ l < (k : Int)
theorem go_snoc {as : List Arc} {s : Int} {ws : List Int} {l : Int} {a : Arc} (h : stp as (go as s ws).2 l = some a) : go as s (ws ++ [l]) = ((go as s ws).1 ++ a.out, a.g) := by
  unfold go at h ⊢
  rw [List.foldl_append]
  simp only [List.foldl_cons, List.foldl_nil]
  rw [h]
theorem go_ok {n k : Nat} {as : List Arc} (F : Full n k as) {s : Int} (hs : St n s) : ∀ {ws : List Int}, Wd k ws → St n (go as s ws).2 ∧ (go as s ws).1.length ≤ 4 * ws.length := by
  intro ws
  generalize hn : ws.length = m
  induction m generalizing ws with
  | zero =>
    intro _
    have : ws = [] := List.eq_nil_of_length_eq_zero hn
    subst this
    exact ⟨hs, by simp [go]⟩
  | succ m ih =>
    intro hw
    have hne : ws ≠ [] := by
      intro e
      rw [e] at hn
      cases hn
    obtain ⟨us, l, rfl⟩ : ∃ us l, ws = us ++ [l] := ⟨ws.dropLast, ws.getLast hne, (List.dropLast_concat_getLast hne).symm⟩
    have hl : us.length = m := by
      rw [List.length_append] at hn
      simpa using hn
    obtain ⟨i1, i2⟩ := ih hl (fun x hx => hw x (by simp [hx]))
    obtain ⟨p1, p2⟩ := hw l (by simp)
    obtain ⟨a, ha, g1, g2⟩ := F.arc _ l i1.1 i1.2 p1 p2
    have ho := F.out a (List.mem_of_find?_eq_some ha)
    rw [go_snoc ha]
    refine ⟨⟨g1, g2⟩, ?_⟩
    show (_ ++ a.out).length ≤ _
    rw [List.length_append]
    omega
def fGo : List T → T → Prop := fun ds r => ∃ n k : Nat, ∃ bs as es, ∃ s : Int, ∃ ws, ds = [ledD n bs as es, .int s, W ws] ∧ Full n k as ∧ St n s ∧ Wd k ws ∧ ws.length ≤ 1000 ∧ r = .tuple [W (go as s ws).1, .int (go as s ws).2]
theorem ok_law_go (T : Txt K mg) : FnOk P w K mg base CX0 1 T.f_law_go T.d_law_go ["led", "state", "word"] (SpT fGo) := by
  refine T.F_law_go.ok sc_law_go (fun vs H Q E h => spT_len (n := 3) (fun ds d ⟨_, _, _, _, _, _, _, e, _⟩ => by rw [e]; rfl) h) (fun cdv A outer s H vs Q E hr h => ?_)
  obtain ⟨ds, d, hds, ⟨n, k, bs, as, es, s0, ws, rfl, F, hs, hw, hz, rfl⟩, q⟩ := h
  have hu := hr.units
  refine ⟨_, (pss_cons (ps_asg (pe_tup pa_nil) (pg_name (i := 3) sc_law_go.nd rfl (by first | exact .inl rfl | exact .inr rfl)))
      (Evl.pss_cut (ps_for PassesOwn.never rfl (pi_seq (pv 2)) (pg_name (i := 4) sc_law_go.nd rfl (by first | exact .inl rfl | exact .inr rfl))
        (pss_cons (ps_asg (pe_ix ix_seq (pe_lcD s H (own := [("arc", 5)]) rfl sc_law_go.nd (pi_seq (pe_ix ix_seq (pv 0) pe_int (fun _ _ => rfl))) (blkOk_by (own := [("arc", 5)]) (N := nm_law_go) (sc := defScope s_law_go) (by decide +kernel)) (fun _ _ _ _ _ => (pg_name (i := 5) sc_law_go.nd rfl (by first | exact .inl rfl | exact .inr rfl))) (fun _ _ _ _ _ => pts_one (pt_cmpR (op_eqD hu) (pe_slice sl_seqU (pv 5) po_none (po_some pe_int)) (pe_tup (pa_cons (pv 1) (pa_cons (pv 4) pa_nil))) (by rfl))) (fun _ _ _ _ _ => (pv 5))) pe_int (fun _ _ => rfl)) (pg_name (i := 5) sc_law_go.nd rfl (by first | exact .inl rfl | exact .inr rfl)))
      (pss_one (ps_asg (pe_tup (pa_cons (pe_op op_addU (pv 3) (pe_ix ix_seq (pv 5) pe_int (fun _ _ => rfl))) (pa_cons (pe_ix ix_seq (pv 5) pe_int (fun _ _ => rfl)) pa_nil))) (pg_tup rfl (pgs_cons (pg_name (i := 3) sc_law_go.nd rfl (by first | exact .inl rfl | exact .inr rfl)) (pgs_cons (pg_name (i := 1) sc_law_go.nd rfl (by first | exact .inl rfl | exact .inr rfl)) pgs_nil)))))))
      (pss_one (ps_ret (pe_tup (pa_cons (pv 3) (pa_cons (pv 1) pa_nil))))))), ?_⟩
  cases hds with
  | cons h0 r =>
    cases r with
    | cons h1 r =>
      cases r with
      | cons h2 r =>
        cases r
        rename_i x0 x1 x2
        refine s_asg (d := W []) (ed_tup ea_nil (by simp)) fun o H1 e1 ho => ?_
        refine Evl.q_cut (M := fun σ' H' => ∃ t o y z, σ' = [some x0, some t, some x2, some o, y, z] ∧ Ex H H' ∧ Td H' o (W (go as s0 ws).1) ∧ Td H' t (.int (go as s0 ws).2)) ?_ ?_
        · refine s_forT (ds := ws.map .int) (ed_var rfl (h2.keep (.ex e1))) (fun H2 i σ' H' => ∃ t o y z, σ' = [some x0, some t, some x2, some o, y, z] ∧ Ex H2 H' ∧ Ex H H' ∧ Td H' o (W (go as s0 (ws.take i)).1) ∧ Td H' t (.int (go as s0 (ws.take i)).2)) (fun H2 e2 => ⟨_, o, _, _, rfl, Ex.refl _, e1.trans e2, ho.keep (.ex e2), h1.keep (.ex (e1.trans e2))⟩) (fun H2 i σ' H' ⟨_, _, _, _, _, e, _⟩ => .ex e) ?_ ?_
          · rintro H2 i v d σ' H' e2 hd ⟨t, o, y, z, rfl, e3, e4, ho, ht⟩ hv
            obtain ⟨x, hx, rfl⟩ := W_get hd
            obtain ⟨p1, p2⟩ := hw x (List.mem_of_getElem? hx)
            have hi : i < ws.length := (List.getElem?_eq_some_iff.mp hx).1
            obtain ⟨g1, g2⟩ := go_ok F hs (ws := ws.take i) (fun l hl => hw l (List.mem_of_mem_take hl))
            rw [List.length_take] at g2
            obtain ⟨a, ha, b1, b2⟩ := F.arc _ x g1.1 g1.2 p1 p2
            have bo := F.out a (List.mem_of_find?_eq_some ha)
            have hled := h0.keep (.ex e4)
            generalize hgo : go as s0 (ws.take i) = G at ho ht g1 g2 ha
            refine s_asg (d := arcD a) (ed_ixM (ds := (as.filter (isArc G.2 x)).map arcD) (em_new (el_is (el_lcT (ds := as.map arcD) (fun i => isArc G.2 x (as.getD i ⟨0, 0, [], 0⟩)) (fun i => arcD (as.getD i ⟨0, 0, [], 0⟩)) (ed_ix (ed_var rfl hled) ed_int (atI_nat (j := 2) rfl)) (by rw [List.length_map]; exact F.sz) (fun i v d H3 e5 hd' hv' Q2 q2 => ?_)) ?_)) ed_int ?_) (fun va H5 e5 hva => ?_)
            · obtain ⟨_, rfl⟩ := map_get ⟨0, 0, [], 0⟩ hd'
              generalize as.getD i ⟨0, 0, [], 0⟩ = a' at q2 hv'
              refine q2 _ rfl ?_ (fun _ => ed_var rfl hv')
              exact eb_test (ed_eqW (u := [a'.s, a'.l]) (v := [G.2, x]) (ed_is (ed_sl (ed_var rfl hv') eo_none (eo_some (i := ((2 : Nat) : Int)) ed_int)) (by rw [cut_take]; rfl)) (ed_tup (ea_cons (ed_var rfl (ht.keep (.ex e5))) (ea_cons (ed_var rfl (hv.keep (.ex e5))) ea_nil)) (by simp)))
            · rw [List.length_map]
              exact gd_of as ⟨0, 0, [], 0⟩ (isArc G.2 x) arcD
            · have : ((as.filter (isArc G.2 x)).map arcD).head? = some (arcD a) := by
                rw [List.head?_map, List.head?_filter]
                rw [show as.find? (isArc G.2 x) = some a from ha]
                rfl
              cases hl : (as.filter (isArc G.2 x)).map arcD with
              | nil =>
                rw [hl] at this
                cases this
              | cons x xs =>
                rw [hl] at this
                cases this
                exact atI0 _ _
            · refine s_unp2 (d1 := W (G.1 ++ a.out)) (d2 := .int a.g) (ed_tup (ea_cons (ed_catW (ed_var rfl (ho.keep (.ex e5))) (ed_ix (ed_var rfl hva) ed_int (atI_nat (j := 2) rfl)) (by omega)) (ea_cons (ed_ix (ed_var rfl hva) ed_int (atI_nat (j := 3) rfl)) ea_nil)) (by simp)) fun o' t' H6 e6 ho' ht' => ?_
              have hgo' : go as s0 (ws.take (i + 1)) = (G.1 ++ a.out, a.g) := by
                rw [take_snoc hx, go_snoc (a := a) (by rw [hgo]; exact ha), hgo]
              refine ⟨t', o', _, _, rfl, (e3.trans e5).trans e6, (e4.trans e5).trans e6, ?_, ?_⟩
              · rw [hgo']
                exact ho'
              · rw [hgo']
                exact ht'
          · rintro H2 σ' H' e2 ⟨t, o, y, z, rfl, e3, e4, ho, ht⟩
            rw [List.length_map, List.take_length] at ho ht
            exact ⟨t, o, y, z, rfl, e4, ho, ht⟩
        · rintro σ' H' ⟨t, o, y, z, rfl, e, ho, ht⟩
          exact s_ret (ed_tup (ea_cons (ed_var rfl ho) (ea_cons (ed_var rfl ht) ea_nil)) (by simp)) fun v H4 e4 hv => q v H4 (e.trans e4) hv
end K23
set_option maxRecDepth 100000
set_option maxHeartbeats 2000000
namespace K23
open PySem PySem.Spec PyProof.Rows L2 WV
open Evl (Ex)
variable {P : Program} {w : World} {K : PySem.W.Frag} {mg : Str → Option Value} {base : Heap}
def Sq (as : List Arc) (v : List Int) (h : Int) : Nat → Int
  | 0 => h
  | j + 1 => (go as (Sq as v h j) v).2
def Wq (as : List Arc) (v : List Int) (h : Int) (j : Nat) : List Int := (go as (Sq as v h j) v).1
def thr (n : Nat) (as : List Arc) (s : Int) (u v : List Int) : List Int × List Int :=
  ((go as s u).1 ++ (((List.range (per (Sq as v (go as s u).2) n)).map (Wq as v (go as s u).2)).take (pre (Sq as v (go as s u).2) n)).flatten,
    (((List.range (per (Sq as v (go as s u).2) n)).map (Wq as v (go as s u).2)).drop (pre (Sq as v (go as s u).2) n)).flatten)
theorem Sq_ok {n k : Nat} {as : List Arc} (F : Full n k as) {v : List Int} (hv : Wd k v) {h : Int} (hs : St n h) : ∀ j, St n (Sq as v h j)
  | 0 => hs
  | j + 1 => (go_ok F (Sq_ok F hv hs j) hv).1
theorem idm_mem {n : Nat} {s : Int} (h : St n s) : s ∈ idm n := by
  unfold idm
  rw [List.mem_map]
  exact ⟨s.toNat, List.mem_range.mpr (by have := h.1; have := h.2; omega), Int.toNat_of_nonneg h.1⟩
theorem idm_len (n : Nat) : (idm n).length = n := by simp [idm]
theorem per_S {n k : Nat} {as : List Arc} (F : Full n k as) {v : List Int} (hv : Wd k v) {h : Int} (hs : St n h) : per (Sq as v h) n ≤ n ∧ hit (Sq as v h) (per (Sq as v h) n) = true ∧ ∀ i, i < per (Sq as v h) n → hit (Sq as v h) i = false := by
  have := per_ok (S := Sq as v h) (L := idm n) fun i => idm_mem (Sq_ok F hv hs i)
  rw [idm_len] at this
  exact this
theorem pre_S {n k : Nat} {as : List Arc} (F : Full n k as) {v : List Int} (hv : Wd k v) {h : Int} (hs : St n h) : pre (Sq as v h) n < per (Sq as v h) n ∧ Sq as v h (pre (Sq as v h) n) = Sq as v h (per (Sq as v h) n) ∧ ∀ j, j < pre (Sq as v h) n → Sq as v h j ≠ Sq as v h (per (Sq as v h) n) := by
  have := pre_ok (S := Sq as v h) (L := idm n) fun i => idm_mem (Sq_ok F hv hs i)
  rw [idm_len] at this
  exact this
theorem mem_S {S : Nat → Int} {m : Nat} : S m ∈ (List.range m).map S ↔ hit S m = true := by
  rw [hit_iff, List.mem_map]
  constructor
  · rintro ⟨j, h1, h2⟩
    exact ⟨j, List.mem_range.mp h1, h2⟩
  · rintro ⟨j, h1, h2⟩
    exact ⟨j, List.mem_range.mpr h1, h2⟩
theorem flat_len {L : List (List Int)} {c : Nat} (h : ∀ x ∈ L, x.length ≤ c) : L.flatten.length ≤ c * L.length := by
  induction L with
  | nil => simp
  | cons x L ih =>
    have h1 := ih fun y hy => h y (by simp [hy])
    have h2 := h x (by simp)
    rw [List.flatten_cons, List.length_append, List.length_cons, Nat.mul_add]
    omega
def fThr : List T → T → Prop := fun ds r => ∃ n k : Nat, ∃ bs as es, ∃ s : Int, ∃ u v, ds = [ledD n bs as es, .int s, La u v] ∧ Full n k as ∧ n ≤ 100 ∧ St n s ∧ Wd k u ∧ Wd k v ∧ u.length ≤ 100 ∧ v.length ≤ 100 ∧ r = La (thr n as s u v).1 (thr n as s u v).2
/-- for word in words: told = told + word -/
theorem cat_loop {D : Ends} {σ : L2.St} {H : Hp} {tl : TE} {i j : Nat} {L : List (List Int)} {t0 : List Int} {o : V} {σf : V → Option V → L2.St} {r r' : R2} (h : EM tl σ H (L.map W)) (h0 : σ = σf o (σ.getD j none)) (ho : Td H o (W t0)) (hb : t0.length + L.flatten.length ≤ 100000)
    (hs1 : ∀ a z x, (σf a z).set j (some x) = σf a (some x)) (hg1 : ∀ a z, (σf a z)[i]? = some (some a)) (hg2 : ∀ a x, (σf a (some x))[j]? = some (some x)) (hs2 : ∀ a z x, (σf a z).set i (some x) = σf x z)
    (k : ∀ a z H', Ex H H' → Td H' a (W (t0 ++ L.flatten)) → D.nx (σf a z) H') : tFor (iSeq K tl) (gName j) (tAsg (tOp (WV.rU r (WV.rU (rCatA K) r')) (tVar i) (tVar j)) (gName i)) D σ H := by
  refine s_forM h (fun H1 i' σ' H' => ∃ a z, σ' = σf a z ∧ Ex H1 H' ∧ Ex H H' ∧ Td H' a (W (t0 ++ (L.take i').flatten))) (fun H1 e1 => ⟨o, _, h0, Ex.refl _, e1, by simpa using ho.keep (.ex e1)⟩) (fun H1 i' σ' H' ⟨_, _, _, e, _⟩ => e) ?_ ?_
  · rintro H1 i' v d σ' H' e1 hd ⟨a, z, rfl, e2, e3, ha⟩ hv
    obtain ⟨hx, rfl⟩ := map_get [] hd
    have hi : i' < L.length := (List.getElem?_eq_some_iff.mp hx).1
    have hfl : (L.take (i' + 1)).flatten = (L.take i').flatten ++ L.getD i' [] := by
      rw [take_snoc hx, List.flatten_append]
      simp
    have hle : ((L.take (i' + 1)).flatten).length ≤ L.flatten.length := by
      have : L.flatten = (L.take (i' + 1)).flatten ++ (L.drop (i' + 1)).flatten := by
        rw [← List.flatten_append, List.take_append_drop]
      rw [this, List.length_append]
      omega
    rw [hfl, List.length_append] at hle
    show tAsg _ _ _ ((σf a z).set j (some v)) H'
    rw [hs1]
    refine s_asg (ed_catW (ed_var (hg1 a _) ha) (ed_var (hg2 a v) hv) (by rw [List.length_append]; omega)) fun a' H2 e4 ha' => ?_
    rw [hs2]
    refine ⟨a', _, rfl, e2.trans e4, e3.trans e4, ?_⟩
    rw [hfl, ← List.append_assoc]
    exact ha'
  · rintro H1 σ' H' e1 ⟨a, z, rfl, e2, e3, ha⟩
    rw [List.length_map, List.take_length] at ha
    exact k a z H' e3 ha
theorem ok_law_through (T : Txt K mg) : FnOk P w K mg base CX0 2 T.f_law_through T.d_law_through ["led", "state", "lasso"] (SpT fThr) := by
  have G_law_go := ok_law_go (P := P) (w := w) (base := base) T
  refine T.F_law_through.ok sc_law_through (fun vs H Q E h => spT_len (n := 3) (fun ds d ⟨_, _, _, _, _, _, _, _, e, _⟩ => by rw [e]; rfl) h) (fun cdv A outer s H vs Q E hr h => ?_)
  obtain ⟨ds, d, hds, ⟨n, k, bs, as, es, s0, u, v, rfl, F, hn, hs, hwu, hwv, zu, zv, rfl⟩, q⟩ := h
  have hu := hr.units
  have hv : (A.deeper (envOfC "_law_through" (defScope s_law_through) s.heap.objs.size T.f_law_through cdv)).units + 65 < cLine := by
    have := hr.un
    omega
  refine ⟨_, (pss_cons (ps_asg (pe_call G_law_go (hr.mono (by decide)) (by rfl) T.g_law_go T.F_law_go.kp T.b_law_go .nil pass0 (pa_cons (pv 0) (pa_cons (pv 1) (pa_cons (pe_ix ix_seq (pv 2) pe_int (fun _ _ => rfl)) pa_nil)))) (pg_tup rfl (pgs_cons (pg_name (i := 3) sc_law_through.nd rfl (by first | exact .inl rfl | exact .inr rfl)) (pgs_cons (pg_name (i := 4) sc_law_through.nd rfl (by first | exact .inl rfl | exact .inr rfl)) pgs_nil))))
      (pss_cons (ps_par (i := 5) (j := 6) (by rfl) sc_law_through.nd rfl rfl (by decide) rfl rfl (pa_cons (pe_lst (pa_cons (pv 4) pa_nil)) (pa_cons (pe_lst pa_nil) pa_nil)) (by rfl))
      (Evl.pss_cut (ps_while PassesOwn.never (pt_cmpR (op_notInD hv) (pe_ix ix_seq (pv 5) (pe_un un_neg pe_int) (fun _ _ => rfl)) (pe_slice sl_seqU (pv 5) po_none (po_some (pe_un un_neg pe_int))) (by rfl))
        (pss_cons (ps_asg (pe_call G_law_go (hr.mono (by decide)) (by rfl) T.g_law_go T.F_law_go.kp T.b_law_go .nil pass0 (pa_cons (pv 0) (pa_cons (pe_ix ix_seq (pv 5) (pe_un un_neg pe_int) (fun _ _ => rfl)) (pa_cons (pe_ix ix_seq (pv 2) pe_int (fun _ _ => rfl)) pa_nil)))) (pg_tup rfl (pgs_cons (pg_name (i := 7) sc_law_through.nd rfl (by first | exact .inl rfl | exact .inr rfl)) (pgs_cons (pg_name (i := 4) sc_law_through.nd rfl (by first | exact .inl rfl | exact .inr rfl)) pgs_nil))))
      (pss_cons (ps_expr (pe_bm PySem.F.plainAttrs_list PySem.F.slot_list_append PySem.F.type_list_append mt_append (pv 6) (pa_cons (pv 7) pa_nil)))
      (pss_one (ps_expr (pe_bm PySem.F.plainAttrs_list PySem.F.slot_list_append PySem.F.type_list_append mt_append (pv 5) (pa_cons (pv 4) pa_nil)))))))
      (pss_cons (ps_par (i := 8) (j := 9) (by rfl) sc_law_through.nd rfl rfl (by decide) rfl rfl (pa_cons (pe_bm PySem.F.plainAttrs_list PySem.F.slot_list_index PySem.F.type_list_index (mt_indexD hv) (pv 5) (pa_cons (pe_ix ix_seq (pv 5) (pe_un un_neg pe_int) (fun _ _ => rfl)) pa_nil)) (pa_cons (pe_tup pa_nil) pa_nil)) (by rfl))
      (Evl.pss_cut (ps_for PassesOwn.never rfl (pi_seq (pe_slice sl_seqU (pv 6) po_none (po_some (pv 8)))) (pg_name (i := 7) sc_law_through.nd rfl (by first | exact .inl rfl | exact .inr rfl))
        (pss_one (ps_asg (pe_op op_addU (pv 3) (pv 7)) (pg_name (i := 3) sc_law_through.nd rfl (by first | exact .inl rfl | exact .inr rfl)))))
      (Evl.pss_cut (ps_for PassesOwn.never rfl (pi_seq (pe_slice sl_seqU (pv 6) (po_some (pv 8)) po_none)) (pg_name (i := 7) sc_law_through.nd rfl (by first | exact .inl rfl | exact .inr rfl))
        (pss_one (ps_asg (pe_op op_addU (pv 9) (pv 7)) (pg_name (i := 9) sc_law_through.nd rfl (by first | exact .inl rfl | exact .inr rfl)))))
      (pss_one (ps_ret (pe_tup (pa_cons (pv 3) (pa_cons (pv 9) pa_nil))))))))))), ?_⟩
  cases hds with
  | cons h0 r =>
    cases r with
    | cons h1 r =>
      cases r with
      | cons h2 r =>
        cases r
        rename_i x0 x1 x2
        obtain ⟨g1, g2⟩ := go_ok F hs hwu
        refine s_unp2 (d1 := W (go as s0 u).1) (d2 := .int (go as s0 u).2) (ed_call (ea_cons (ed_var rfl h0) (ea_cons (ed_var rfl h1) (ea_cons (ed_La0 (ed_var rfl h2)) ea_nil))) ⟨n, k, bs, as, es, s0, u, rfl, F, hs, hwu, by omega, rfl⟩) fun a b H1 e1 ha hb => ?_
        have hS : ∀ j, St n (Sq as v (go as s0 u).2 j) := Sq_ok F hwv g1
        obtain ⟨m1, m2, m3⟩ := per_S F hwv g1
        obtain ⟨a1, a2, a3⟩ := pre_S F hwv g1
        have hq : thr n as s0 u v = ((go as s0 u).1 ++ (((List.range (per (Sq as v (go as s0 u).2) n)).map (Wq as v (go as s0 u).2)).take (pre (Sq as v (go as s0 u).2) n)).flatten, (((List.range (per (Sq as v (go as s0 u).2) n)).map (Wq as v (go as s0 u).2)).drop (pre (Sq as v (go as s0 u).2) n)).flatten) := rfl
        rw [hq] at q
        have hWl : ∀ j, (Wq as v (go as s0 u).2 j).length ≤ 400 := fun j => by
          have := (go_ok F (hS j) hwv).2
          unfold Wq
          omega
        have hWs : ∀ j, go as (Sq as v (go as s0 u).2 j) v = (Wq as v (go as s0 u).2 j, Sq as v (go as s0 u).2 (j + 1)) := fun j => rfl
        generalize hSS : Sq as v (go as s0 u).2 = S at *
        generalize hWW : Wq as v (go as s0 u).2 = Wd' at *
        have hS0 : S 0 = (go as s0 u).2 := by rw [← hSS]; rfl
        generalize hm : per S n = m at *
        generalize hat : pre S n = at' at *
        generalize hgo : go as s0 u = gu at *
        refine s_parNM (ds := [.int (S 0)]) (es := []) (el_lst (ea_cons (ed_is (ed_var rfl hb) (by rw [hS0])) ea_nil) (by simp)) (el_lst ea_nil (by simp)) fun p pw H2 hne hp hpw e2 hlp hlw => ?_
        have hp0 := Evl.fresh_back e1 hp
        have hpw0 := Evl.fresh_back e1 hpw
        refine Evl.q_cut (M := fun σ' H' => ∃ h z, σ' = [some x0, some x1, some x2, some a, some h, some (.ref p), some (.ref pw), z, none, none] ∧ Ex H H' ∧ Td H' a (W gu.1) ∧ LA H' (.ref p) (((List.range (m + 1)).map S).map .int) ∧ LA H' (.ref pw) (((List.range m).map Wd').map W)) ?_ ?_
        · refine Evl.s_while (fun μ σ' H' => ∃ i h z, μ = n - i ∧ i ≤ m ∧ σ' = [some x0, some x1, some x2, some a, some h, some (.ref p), some (.ref pw), z, none, none] ∧ Ex H H' ∧ Td H' a (W gu.1) ∧ LA H' (.ref p) (((List.range (i + 1)).map S).map .int) ∧ LA H' (.ref pw) (((List.range i).map Wd').map W)) n ?_ ?_
          · exact ⟨0, b, none, by omega, by omega, rfl, e1.trans e2, ha.keep (.ex e2), hlp, hlw⟩
          · rintro μ σ' H' ⟨i, h, z, rfl, hi, rfl, e', ha', hlp, hlw⟩
            have hlast : ∀ {H'' : Hp}, LA H'' (.ref p) (((List.range (i + 1)).map S).map .int) → ED _ [some x0, some x1, some x2, some a, some h, some (.ref p), some (.ref pw), z, none, none] H'' (.int (S i)) := fun hl => ed_ixM (K := K) (em_var (i := 5) rfl hl) ed_m1 (atI_neg1 (by simp))
            refine ⟨!hit S i, eb_is (eb_test (ed_niM (hlast hlp) (em_new (el_slM (em_var rfl hlp) eo_none (eo_some ed_m1))) (sh_int (n := 0)).ok ?_)) ?_, fun hc H3 e3 => ?_, fun hc H3 e3 => ?_⟩
            · rw [cut_init, ← List.map_dropLast]
              exact (sh_map fun x => sh_int (n := 0)).ok
            · rw [cut_init, ← List.map_dropLast, any_int]
              have : ((List.range (i + 1)).map S).dropLast = (List.range i).map S := by
                rw [List.range_succ, List.map_append]
                simp
              rw [this]
              congr 1
              rw [Bool.eq_iff_iff, decide_eq_true_eq]
              exact mem_S
            · have hc : hit S i = false := by simpa using hc
              have hlt : i < m := by
                rcases Nat.lt_or_ge i m with h | h
                · exact h
                · have : i = m := by omega
                  rw [this, m2] at hc
                  cases hc
              refine ⟨_, fun σ2 H4 h => h, ?_⟩
              have hlp3 := hlp.keep e3
              have hlw3 := hlw.keep e3
              have h0' := h0.keep (.ex (e'.trans e3))
              have h2' := h2.keep (.ex (e'.trans e3))
              refine s_unp2 (d1 := W (Wd' i)) (d2 := .int (S (i + 1))) (ed_call (ea_cons (ed_var rfl h0') (ea_cons (hlast hlp3) (ea_cons (ed_La1 (ed_var rfl h2')) ea_nil))) ⟨n, k, bs, as, es, S i, v, rfl, F, hS i, hwv, by omega, by rw [hWs]⟩) fun c d H4 e4 hc' hd' => ?_
              refine s_appG (i := 6) rfl (hlw3.keep e4) (ed_var rfl hc') (by simp; omega) fun H5 mu5 hlw5 => ?_
              have hlp5 := mu5.la (hlp3.keep e4) hne
              refine s_appG (i := 5) rfl hlp5 (ed_var rfl (hd'.keep mu5.2)) (by simp; omega) fun H6 mu6 hlp6 => ?_
              have ex5 : Ex H H5 := mu5.ex ((e'.trans e3).trans e4) hpw0
              refine ⟨n - (i + 1), by omega, i + 1, d, _, rfl, by omega, rfl, mu6.ex ex5 hp0, ((ha'.keep (.ex (e3.trans e4))).keep mu5.2).keep mu6.2, ?_, ?_⟩
              · rw [List.range_succ (n := i + 1), List.map_append, List.map_append]
                exact hlp6
              · rw [List.range_succ, List.map_append, List.map_append]
                exact mu6.la hlw5 hne.symm
            · have hc : hit S i = true := by simpa using hc
              have : i = m := by
                rcases Nat.lt_or_ge i m with h | h
                · rw [m3 i h] at hc
                  cases hc
                · omega
              subst this
              exact ⟨h, z, rfl, e'.trans e3, ha'.keep (.ex e3), hlp.keep e3, hlw.keep e3⟩
        · rintro σ' H' ⟨h, z, rfl, e', ha', hlp, hlw⟩
          have hlast : ED _ [some x0, some x1, some x2, some a, some h, some (.ref p), some (.ref pw), z, none, none] H' (.int (S m)) := ed_ixM (K := K) (em_var (i := 5) rfl hlp) ed_m1 (atI_neg1 (by simp))
          refine s_par (d1 := .int (at' : Nat)) (d2 := W []) (ed_indexM (em_var rfl hlp) hlast (sh_map fun x => sh_int (n := 0)).ok (sh_int (n := 0)).ok (z := .int (S at')) ?_ (by rw [eqv_int, a2]; simp) ?_) (ed_tup ea_nil (by simp)) fun va vr H2' e2' hva hvr => ?_
          · rw [List.getElem?_map, List.getElem?_map, List.getElem?_range (by omega)]
            rfl
          · intro j z' hj hz'
            rw [List.getElem?_map, List.getElem?_map, List.getElem?_range (by omega)] at hz'
            cases hz'
            rw [eqv_int]
            exact decide_eq_false (a3 j hj)
          · have hcut : ∀ c, c ≤ m → (((List.range m).map Wd').take c).flatten.length ≤ 40000 := fun c hc => by
              have := flat_len (L := ((List.range m).map Wd').take c) (c := 400) (fun x hx => by
                obtain ⟨j, _, rfl⟩ := List.mem_map.mp (List.mem_of_mem_take hx)
                exact hWl j)
              simp at this ⊢
              have h3 : min c m ≤ 100 := by omega
              have h4 := Nat.mul_le_mul_left 400 h3
              omega
            have hcut2 : (((List.range m).map Wd').drop at').flatten.length ≤ 40000 := by
              have := flat_len (L := ((List.range m).map Wd').drop at') (c := 400) (fun x hx => by
                obtain ⟨j, _, rfl⟩ := List.mem_map.mp (List.mem_of_mem_drop hx)
                exact hWl j)
              simp at this ⊢
              have h3 : m - at' ≤ 100 := by omega
              have h4 := Nat.mul_le_mul_left 400 h3
              omega
            refine Evl.q_cut (M := fun σ' H'' => ∃ a z, σ' = [some x0, some x1, some x2, some a, some h, some (.ref p), some (.ref pw), z, some va, some vr] ∧ Ex H' H'' ∧ Ex H2' H'' ∧ Td H'' a (W (gu.1 ++ (((List.range m).map Wd').take at').flatten))) ?_ ?_
            · refine cat_loop (K := K) (i := 3) (j := 7) (L := ((List.range m).map Wd').take at') (t0 := gu.1) (σf := fun a z => [some x0, some x1, some x2, some a, some h, some (.ref p), some (.ref pw), z, some va, some vr]) (em_new (el_is (el_slM (em_var rfl (hlw.keep e2')) eo_none (eo_some (ed_var rfl hva))) (by rw [cut_take, List.map_take]))) rfl (ha'.keep (.ex e2')) (by have := hcut at' (by omega); omega) (fun _ _ _ => rfl) (fun _ _ => rfl) (fun _ _ => rfl) (fun _ _ _ => rfl) fun a z H3 e3 ha3 => ?_
              exact ⟨a, z, rfl, e2'.trans e3, e3, ha3⟩
            · rintro σ' H3 ⟨a, z, rfl, e3, e3', ha3⟩
              have hva3 : Td H3 va (.int (at' : Nat)) := by
                cases hva
                exact .i _
              have hvr3 : Td H3 vr (W []) := hvr.keep (.ex e3')
              refine Evl.q_cut (M := fun σ' H'' => ∃ r z, σ' = [some x0, some x1, some x2, some a, some h, some (.ref p), some (.ref pw), z, some va, some r] ∧ Ex H3 H'' ∧ Td H'' r (W ([] ++ (((List.range m).map Wd').drop at').flatten))) ?_ ?_
              · refine cat_loop (K := K) (i := 9) (j := 7) (L := ((List.range m).map Wd').drop at') (t0 := []) (σf := fun r z => [some x0, some x1, some x2, some a, some h, some (.ref p), some (.ref pw), z, some va, some r]) (em_new (el_is (el_slM (em_var rfl (hlw.keep e3)) (eo_some (ed_var rfl hva3)) eo_none) (by rw [cut_drop, List.map_drop]))) rfl hvr3 (by simpa using (by omega : (((List.range m).map Wd').drop at').flatten.length ≤ 100000)) (fun _ _ _ => rfl) (fun _ _ => rfl) (fun _ _ => rfl) (fun _ _ _ => rfl) fun r z H4 e4 hr4 => ?_
                exact ⟨r, z, rfl, e4, hr4⟩
              · rintro σ' H4 ⟨r, z, rfl, e4, hr4⟩
                rw [List.nil_append] at hr4
                exact s_ret (ed_La (ed_var rfl (ha3.keep (.ex e4))) (ed_var rfl hr4)) fun z H5 e5 hz => q z H5 (((e'.trans e3).trans e4).trans e5) hz
end K23
set_option maxRecDepth 100000
set_option maxHeartbeats 2000000
namespace K23
open PySem PySem.Spec PyProof.Rows L2 WV
open Evl (Ex)
variable {P : Program} {w : World} {K : PySem.W.Frag} {mg : Str → Option Value} {base : Heap}
def Pw (own : List Int) : Nat → List Int
  | 0 => own
  | j + 1 => tm (Pw own j) own
theorem Pw_ok {n : Nat} {own : List Int} (h : Mp n own) : ∀ j, Mp n (Pw own j)
  | 0 => h
  | j + 1 => (Pw_ok h j).tm h
def allL (n : Nat) : Nat → List (List Int)
  | 0 => [[]]
  | j + 1 => (allL n j).flatMap fun m => (idm n).map fun x => x :: m
theorem allL_mem {n : Nat} : ∀ {j : Nat} {m : List Int}, m.length = j → (∀ s ∈ m, St n s) → m ∈ allL n j
  | 0, [], _, _ => by simp [allL]
  | j + 1, x :: m, h, hs => by
    unfold allL
    rw [List.mem_flatMap]
    exact ⟨m, allL_mem (by simpa using h) (fun s h => hs s (by simp [h])), List.mem_map.mpr ⟨x, idm_mem (hs x (by simp)), rfl⟩⟩
def NM (n : Nat) : Nat := (allL n n).length
theorem NM_le {n : Nat} (h : n ≤ 3) : NM n ≤ 27 := by
  have : n = 0 ∨ n = 1 ∨ n = 2 ∨ n = 3 := by omega
  rcases this with rfl | rfl | rfl | rfl <;> decide
theorem per_P {n : Nat} {own : List Int} (h : Mp n own) : per (Pw own) (NM n) ≤ NM n ∧ hit (Pw own) (per (Pw own) (NM n)) = true ∧ ∀ i, i < per (Pw own) (NM n) → hit (Pw own) i = false :=
  per_ok (S := Pw own) (L := allL n n) fun i => allL_mem (Pw_ok h i).1 (Pw_ok h i).2
theorem pre_P {n : Nat} {own : List Int} (h : Mp n own) : pre (Pw own) (NM n) < per (Pw own) (NM n) ∧ Pw own (pre (Pw own) (NM n)) = Pw own (per (Pw own) (NM n)) ∧ ∀ j, j < pre (Pw own) (NM n) → Pw own j ≠ Pw own (per (Pw own) (NM n)) :=
  pre_ok (S := Pw own) (L := allL n n) fun i => allL_mem (Pw_ok h i).1 (Pw_ok h i).2
theorem mem_P {S : Nat → List Int} {m : Nat} : S m ∈ (List.range m).map S ↔ hit S m = true := by
  rw [hit_iff, List.mem_map]
  constructor
  · rintro ⟨j, h1, h2⟩
    exact ⟨j, List.mem_range.mp h1, h2⟩
  · rintro ⟨j, h1, h2⟩
    exact ⟨j, List.mem_range.mpr h1, h2⟩
def spPow : Sp := fun vs H Q _ => ∃ n own, Tds H vs [W own] ∧ Mp n own ∧ n ≤ 3 ∧ ∀ t l H', Ex H H' → H' t = some (.tup [.ref l, .int (pre (Pw own) (NM n) : Nat)]) → LA H' (.ref l) (((List.range (per (Pw own) (NM n))).map (Pw own)).map W) → Q (.ref t) H'
theorem ok_map_powers (T : Txt K mg) : FnOk P w K mg base CX0 2 T.f_map_powers T.d_map_powers ["own"] spPow := by
  have G_then_map := ok_then_map (P := P) (w := w) (base := base) T
  refine T.F_map_powers.ok sc_map_powers (fun vs H Q E ⟨_, _, h, _⟩ => h.length) (fun cdv A outer s H vs Q E hr h => ?_)
  obtain ⟨n, own, hds, hm, hn, q⟩ := h
  have hu := hr.units
  have hv : (A.deeper (envOfC "map_powers" (defScope s_map_powers) s.heap.objs.size T.f_map_powers cdv)).units + 65 < cLine := by
    have := hr.un
    omega
  refine ⟨_, (pss_cons (ps_par (i := 1) (j := 2) (by rfl) sc_map_powers.nd rfl rfl (by decide) rfl rfl (pa_cons (pe_lst pa_nil) (pa_cons (pv 0) pa_nil)) (by rfl))
      (Evl.pss_cut (ps_while PassesOwn.never (pt_cmpR (op_notInD hv) (pv 2) (pv 1) (by rfl))
        (pss_cons (ps_expr (pe_bm PySem.F.plainAttrs_list PySem.F.slot_list_append PySem.F.type_list_append mt_append (pv 1) (pa_cons (pv 2) pa_nil)))
      (pss_one (ps_asg (pe_call G_then_map (hr.mono (by decide)) (by rfl) T.g_then_map T.F_then_map.kp T.b_then_map .nil pass0 (pa_cons (pv 2) (pa_cons (pv 0) pa_nil))) (pg_name (i := 2) sc_map_powers.nd rfl (by first | exact .inl rfl | exact .inr rfl))))))
      (pss_one (ps_ret (pe_tup (pa_cons (pv 1) (pa_cons (pe_bm PySem.F.plainAttrs_list PySem.F.slot_list_index PySem.F.type_list_index (mt_indexD hv) (pv 1) (pa_cons (pv 2) pa_nil)) pa_nil))))))), ?_⟩
  cases hds with
  | cons h0 r =>
    cases r
    rename_i x0
    obtain ⟨m1, m2, m3⟩ := per_P hm
    obtain ⟨a1, a2, a3⟩ := pre_P hm
    have hN := NM_le hn
    have hP := Pw_ok hm
    have hPs : ∀ j, Pw own (j + 1) = tm (Pw own j) own := fun j => rfl
    have hP0 : Pw own 0 = own := rfl
    generalize hSS : Pw own = S at *
    generalize hmm : per S (NM n) = m at *
    generalize hat : pre S (NM n) = at' at *
    refine s_parND (ds := []) (el_lst ea_nil (by simp)) (ed_var rfl h0) fun p b H1 hp e1 hlp hb => ?_
    refine Evl.q_cut (M := fun σ' H' => ∃ h, σ' = [some x0, some (.ref p), some h] ∧ Ex H H' ∧ Td H' h (W (S m)) ∧ LA H' (.ref p) (((List.range m).map S).map W)) ?_ ?_
    · refine Evl.s_while (fun μ σ' H' => ∃ i h, μ = NM n - i ∧ i ≤ m ∧ σ' = [some x0, some (.ref p), some h] ∧ Ex H H' ∧ Td H' h (W (S i)) ∧ LA H' (.ref p) (((List.range i).map S).map W)) (NM n) ?_ ?_
      · exact ⟨0, b, by omega, by omega, rfl, e1, by rw [hP0]; exact hb, hlp⟩
      · rintro μ σ' H' ⟨i, h, rfl, hi, rfl, e', hh, hlp⟩
        refine ⟨!hit S i, eb_is (eb_test (ed_niM (ed_var rfl hh) (em_var rfl hlp) (sh_W (n := 0)).ok (sh_map fun x => sh_W (n := 0)).ok)) ?_, fun hc H3 e3 => ?_, fun hc H3 e3 => ?_⟩
        · rw [any_W]
          congr 1
          rw [Bool.eq_iff_iff, decide_eq_true_eq]
          exact mem_P
        · have hc : hit S i = false := by simpa using hc
          have hlt : i < m := by
            rcases Nat.lt_or_ge i m with h | h
            · exact h
            · have : i = m := by omega
              rw [this, m2] at hc
              cases hc
          refine ⟨_, fun σ2 H4 h => h, ?_⟩
          have hlp3 := hlp.keep e3
          refine s_appG (i := 1) rfl hlp3 (ed_var rfl (hh.keep (.ex e3))) (by simp; omega) fun H5 mu5 hlp5 => ?_
          have ex5 : Ex H H5 := mu5.ex (e'.trans e3) hp
          refine s_asg (ed_call (ea_cons (ed_var rfl ((hh.keep (.ex e3)).keep mu5.2)) (ea_cons (ed_var rfl (h0.keep (.ex ex5))) ea_nil)) ⟨n, S i, own, rfl, by omega, hP i, hm, rfl⟩) fun h' H6 e6 hh' => ?_
          refine ⟨NM n - (i + 1), by omega, i + 1, h', rfl, by omega, rfl, ex5.trans e6, by rw [hPs]; exact hh', ?_⟩
          rw [List.range_succ, List.map_append, List.map_append]
          exact hlp5.keep e6
        · have hc : hit S i = true := by simpa using hc
          have : i = m := by
            rcases Nat.lt_or_ge i m with h | h
            · rw [m3 i h] at hc
              cases hc
            · omega
          subst this
          exact ⟨h, rfl, e'.trans e3, hh.keep (.ex e3), hlp.keep e3⟩
    · rintro σ' H' ⟨h, rfl, e', hh, hlp⟩
      have hix : ED _ [some x0, some (.ref p), some h] H' (.int (at' : Nat)) := ed_indexM (K := K) (em_var (i := 1) rfl hlp) (ed_var (i := 2) rfl hh) (sh_map fun x => sh_W (n := 0)).ok (sh_W (n := 0)).ok (z := W (S at')) (by
        rw [List.getElem?_map, List.getElem?_map, List.getElem?_range (by omega)]
        rfl) (by rw [eqv_W, a2]; simp) (by
        intro j z' hj hz'
        rw [List.getElem?_map, List.getElem?_map, List.getElem?_range (by omega)] at hz'
        cases hz'
        rw [eqv_W]
        exact decide_eq_false (a3 j hj))
      refine ⟨_, rfl, ?_⟩
      refine hix H' (Ex.refl H') _ fun v H2 e2 hv' => ?_
      cases hv'
      refine ⟨(by show 2 ≤ sizeLine; decide), fun t ht => q t p _ (e'.trans (e2.trans (Ex.new ht))) upd_same (hlp.keep (e2.trans (Ex.new ht)))⟩
theorem s_callG {D : Ends} {σ : L2.St} {H : Hp} {sp : Sp} {E : XK} {ta : TA} {g : TG} {ds : List T} (h : EA ta σ H ds) (hs : ∀ vs H1, Ex H H1 → Tds H1 vs ds → sp (vs ++ []) H1 (fun v H2 => g v σ H2 D.nx) E) : tAsg (tCall sp [] E ta) g D σ H := h H (Ex.refl H) _ hs
def fRound : List T → T → Prop := fun ds r => ∃ n own, ds = [W own] ∧ Mp n own ∧ n ≤ 3 ∧ r = .tuple [.int (pre (Pw own) (NM n) + 1 : Nat), .int (per (Pw own) (NM n) - pre (Pw own) (NM n) : Nat)]
theorem ok_map_round (T : Txt K mg) : FnOk P w K mg base CX0 3 T.f_map_round T.d_map_round ["own"] (SpT fRound) := by
  have G_map_powers := ok_map_powers (P := P) (w := w) (base := base) T
  refine T.F_map_round.ok sc_map_round (fun vs H Q E h => spT_len (n := 1) (fun ds d ⟨_, _, e, _⟩ => by rw [e]; rfl) h) (fun cdv A outer s H vs Q E hr h => ?_)
  obtain ⟨ds, d, hds, ⟨n, own, rfl, hm, hn, rfl⟩, q⟩ := h
  refine ⟨_, (pss_cons (ps_asg (pe_call G_map_powers (hr.mono (by decide)) (by rfl) T.g_map_powers T.F_map_powers.kp T.b_map_powers .nil pass0 (pa_cons (pv 0) pa_nil)) (pg_tup rfl (pgs_cons (pg_name (i := 1) sc_map_round.nd rfl (by first | exact .inl rfl | exact .inr rfl)) (pgs_cons (pg_name (i := 2) sc_map_round.nd rfl (by first | exact .inl rfl | exact .inr rfl)) pgs_nil))))
      (pss_one (ps_ret (pe_tup (pa_cons (pe_op op_addU (pv 2) pe_int) (pa_cons (pe_op op_sub (pe_callB call_len_seq (by rfl) T.m_len (by decide +kernel) (pa_cons (pv 1) pa_nil)) (pv 2)) pa_nil)))))), ?_⟩
  cases hds with
  | cons h0 r =>
    cases r
    rename_i x0
    obtain ⟨a1, a2, a3⟩ := pre_P hm
    refine s_callG (ea_cons (ed_var rfl h0) ea_nil) fun vs H1 e1 hvs => ?_
    refine ⟨n, own, by simpa using hvs, hm, hn, fun t l H2 e2 ht hl => ?_⟩
    refine ⟨t, _, rfl, .inl (.inl ht), rfl, _, _, rfl, _, _, rfl, rfl, ?_⟩
    refine s_ret (ed_tup (ea_cons (ed_is (ed_addI (ed_var rfl (.i _)) ed_int) (by rfl)) (ea_cons (ed_is (ed_subI (ed_lenM (em_var rfl hl)) (ed_var rfl (.i _))) ?_) ea_nil)) (by simp)) fun z H3 e3 hz => q z H3 ((e1.trans e2).trans e3) hz
    simp
    omega
end K23
set_option maxRecDepth 100000
set_option maxHeartbeats 2000000
namespace K23
open PySem PySem.Spec PyProof.Rows L2 WV
open Evl (Ex)
variable {P : Program} {w : World} {K : PySem.W.Frag} {mg : Str → Option Value} {base : Heap}
def okS (x : Int) (n : Int) : Bool := isIn (.int x) 0 (n - 1)
def okO (m : Int) (o : List Int) : Bool := decide (o.length ≤ 4) && o.all (fun x => okS x m)
def okA (k m n : Int) (a : Arc) : Bool := okO m a.out && (okS a.s n && (okS a.l k && okS a.g n))
def okE (m n : Int) (e : Int × List Int) : Bool := okS e.1 n && okO m e.2
def fOut : List T → T → Prop := fun ds r => ∃ m : Int, ∃ o : List Int, ds = [.int m, W o] ∧ o.length ≤ 1000 ∧ r = .bool (okO m o)
theorem gd_okS (m : Int) (o : List Int) : gd (o.map PyData.int).length (fun _ => true) (fun i => .bool (okS (o.getD i 0) m)) = (o.map fun x => okS x m).map .bool := by
  rw [List.length_map]
  exact gd_bools o 0 (fun x => okS x m)
theorem ok_is_out (T : Txt K mg) : FnOk P w K mg base CX0 3 T.f_is_out T.d_is_out ["m", "value"] (SpT fOut) := by
  have G_is_within := ok_is_within (P := P) (w := w) (base := base) T
  refine T.F_is_out.ok sc_is_out (fun vs H Q E h => spT_len (n := 2) (fun ds d ⟨_, _, e, _⟩ => by rw [e]; rfl) h) (fun cdv A outer s H vs Q E hr h => ?_)
  obtain ⟨ds, d, hds, ⟨m, o, rfl, hz, rfl⟩, q⟩ := h
  refine ⟨_, (pss_one (ps_ret (pe_and (pe_callB call_isi (by rfl) T.m_isinstance (by decide +kernel) (pa_cons (pv 1) (pa_cons (pe_bltn (v := .ty "tuple") (u := .type "tuple") (by rfl) T.m_tuple (by decide +kernel) (by rfl)) pa_nil))) (pe_and (pe_cmpR op_le (pe_callB call_len_seq (by rfl) T.m_len (by decide +kernel) (pa_cons (pv 1) pa_nil)) (pe_glob (v := .int 4) (by rfl) T.c_MAX_OUT ⟨_, rfl⟩) (by rfl)) (pe_one (pe_callB (cr_all rfl) (by rfl) T.m_all (by decide +kernel) (pa_cons (pe_lcD s H (own := [("item", 2)]) rfl sc_is_out.nd (pi_seq (pv 1)) (blkOk_by (own := [("item", 2)]) (N := nm_is_out) (sc := defScope s_is_out) (by decide +kernel)) (fun _ _ _ _ _ => (pg_name (i := 2) sc_is_out.nd rfl (by first | exact .inl rfl | exact .inr rfl))) (fun _ _ _ _ _ => pts_nil) (fun _ _ _ _ _ => (pe_call G_is_within (hr.mono (by decide)) (by rfl) T.g_is_within T.F_is_within.kp T.b_is_within .nil pass0 (pa_cons (pv 2) (pa_cons pe_int (pa_cons (pe_op op_sub (pv 0) pe_int) pa_nil)))))) pa_nil))))))), ?_⟩
  cases hds with
  | cons h0 r =>
    cases r with
    | cons h1 r =>
      cases r
      refine s_ret (ed_is (d := .bool (true && (decide ((o.length : Int) ≤ 4) && (o.map fun x => okS x m).all id))) (ed_andV (ed_isTup (ed_var rfl h1)) (fun _ => ed_andV (ed_leI (ed_lenW (ed_var rfl h1)) ed_int) fun _ => ed_all (el_is (el_lcT (ds := o.map .int) (fun _ => true) (fun i => .bool (okS (o.getD i 0) m)) (ed_var rfl h1) (by rw [List.length_map]; omega) (fun i v d H1 e1 hd hv Q2 q2 => ?_)) (gd_okS m o)))) ?_) q
      · obtain ⟨hx, rfl⟩ := map_get 0 hd
        refine q2 _ rfl eb_yes fun _ => ed_call (ea_cons (ed_var rfl hv) (ea_cons ed_int (ea_cons (ed_subI (ed_var rfl (h0.keep (.ex e1))) ed_int) ea_nil))) ⟨_, _, _, rfl, rfl⟩
      · unfold okO
        congr 1
        rw [Bool.true_and, List.all_map]
        congr 1
        apply decide_eq_decide.mpr
        omega
def fArc : List T → T → Prop := fun ds r => ∃ k m n : Int, ∃ a : Arc, ds = [.int k, .int m, .int n, arcD a] ∧ a.out.length ≤ 1000 ∧ r = .bool (okA k m n a)
theorem ok_is_arc (T : Txt K mg) : FnOk P w K mg base CX0 4 T.f_is_arc T.d_is_arc ["k", "m", "n", "value"] (SpT fArc) := by
  have G_is_within := ok_is_within (P := P) (w := w) (base := base) T
  have G_is_out := ok_is_out (P := P) (w := w) (base := base) T
  refine T.F_is_arc.ok sc_is_arc (fun vs H Q E h => spT_len (n := 4) (fun ds d ⟨_, _, _, _, e, _⟩ => by rw [e]; rfl) h) (fun cdv A outer s H vs Q E hr h => ?_)
  obtain ⟨ds, d, hds, ⟨k, m, n, a, rfl, hz, rfl⟩, q⟩ := h
  have hu := hr.units
  refine ⟨_, (pss_cons (ps_if (PW.pt (pw_or (pt_not (pt_val (pe_callB call_isi (by rfl) T.m_isinstance (by decide +kernel) (pa_cons (pv 3) (pa_cons (pe_bltn (v := .ty "tuple") (u := .type "tuple") (by rfl) T.m_tuple (by decide +kernel) (by rfl)) pa_nil))))) (pw_or (pt_cmpR (op_neD hu) (pe_callB call_len_seq (by rfl) T.m_len (by decide +kernel) (pa_cons (pv 3) pa_nil)) pe_int (by rfl)) (pw_or1 (pt_not (pt_val (pe_call G_is_out (hr.mono (by decide)) (by rfl) T.g_is_out T.F_is_out.kp T.b_is_out .nil pass0 (pa_cons (pv 1) (pa_cons (pe_ix ix_seq (pv 3) pe_int (fun _ _ => rfl)) pa_nil)))))))))
        (pss_one (ps_ret pe_bl))
        pss_nil)
      (pss_one (ps_ret (pe_and (pe_call G_is_within (hr.mono (by decide)) (by rfl) T.g_is_within T.F_is_within.kp T.b_is_within .nil pass0 (pa_cons (pe_ix ix_seq (pv 3) pe_int (fun _ _ => rfl)) (pa_cons pe_int (pa_cons (pe_op op_sub (pv 2) pe_int) pa_nil)))) (pe_and (pe_call G_is_within (hr.mono (by decide)) (by rfl) T.g_is_within T.F_is_within.kp T.b_is_within .nil pass0 (pa_cons (pe_ix ix_seq (pv 3) pe_int (fun _ _ => rfl)) (pa_cons pe_int (pa_cons (pe_op op_sub (pv 0) pe_int) pa_nil)))) (pe_one (pe_call G_is_within (hr.mono (by decide)) (by rfl) T.g_is_within T.F_is_within.kp T.b_is_within .nil pass0 (pa_cons (pe_ix ix_seq (pv 3) pe_int (fun _ _ => rfl)) (pa_cons pe_int (pa_cons (pe_op op_sub (pv 2) pe_int) pa_nil)))))))))), ?_⟩
  cases hds with
  | cons h0 r =>
    cases r with
    | cons h1 r =>
      cases r with
      | cons h2 r =>
        cases r with
        | cons h3 r =>
          cases r
          have hs : ∀ {σ : L2.St} {H1 : Hp} {te : TE} {x n : Int} {tn : TE}, ED te σ H1 (.int x) → ED tn σ H1 (.int n) → ED (tCall (SpT fWithin) [] E0 (tCons te (tCons (tC (.int 0)) (tCons (tOp (rI0 fun i j => .int (i - j)) tn (tC (.int 1))) tNil)))) σ H1 (.bool (okS x n)) := fun h1 h2 => ed_call (ea_cons h1 (ea_cons ed_int (ea_cons (ed_subI h2 ed_int) ea_nil))) ⟨_, _, _, rfl, rfl⟩
          refine s_if (b := !okO m a.out) (eb_is (eb_or (a := false) (eb_not (b := true) (eb_B (ed_isTup (ed_var rfl h3)))) (fun _ => eb_or (a := false) (eb_test (ed_neI (ed_len (ed_var rfl h3)) ed_int)) (fun _ => eb_not (eb_B (ed_call (ea_cons (ed_var rfl h1) (ea_cons (ed_ix (ed_var rfl h3) ed_int (atI_nat (j := 2) rfl)) ea_nil)) ⟨m, a.out, rfl, hz, rfl⟩))))) (by simp)) (fun hc H1 e1 => ?_) (fun hc H1 e1 => ?_)
          · refine s_ret ed_bl fun v H2 e2 hv => q v H2 (e1.trans e2) ?_
            have : okO m a.out = false := by simpa using hc
            simpa [okA, this] using hv
          · have hok : okO m a.out = true := by simpa using hc
            have k0 := h0.keep (.ex e1)
            have k2 := h2.keep (.ex e1)
            have k3 := h3.keep (.ex e1)
            refine s_ret (ed_is (ed_andV (hs (ed_ix (ed_var rfl k3) ed_int (atI0 _ _)) (ed_var rfl k2)) fun _ => ed_andV (hs (ed_ix (ed_var rfl k3) ed_int (atI_nat (j := 1) rfl)) (ed_var rfl k0)) fun _ => hs (ed_ix (ed_var rfl k3) ed_int (atI_nat (j := 3) rfl)) (ed_var rfl k2)) ?_) fun v H2 e2 hv => q v H2 (e1.trans e2) hv
            simp [okA, hok]
def fEnd : List T → T → Prop := fun ds r => ∃ m n : Int, ∃ e : Int × List Int, ds = [.int m, .int n, endD e] ∧ e.2.length ≤ 1000 ∧ r = .bool (okE m n e)
theorem ok_is_end (T : Txt K mg) : FnOk P w K mg base CX0 4 T.f_is_end T.d_is_end ["m", "n", "value"] (SpT fEnd) := by
  have G_is_within := ok_is_within (P := P) (w := w) (base := base) T
  have G_is_out := ok_is_out (P := P) (w := w) (base := base) T
  refine T.F_is_end.ok sc_is_end (fun vs H Q E h => spT_len (n := 3) (fun ds d ⟨_, _, _, e, _⟩ => by rw [e]; rfl) h) (fun cdv A outer s H vs Q E hr h => ?_)
  obtain ⟨ds, d, hds, ⟨m, n, e, rfl, hz, rfl⟩, q⟩ := h
  have hu := hr.units
  refine ⟨_, (pss_one (ps_ret (pe_and (pe_callB call_isi (by rfl) T.m_isinstance (by decide +kernel) (pa_cons (pv 2) (pa_cons (pe_bltn (v := .ty "tuple") (u := .type "tuple") (by rfl) T.m_tuple (by decide +kernel) (by rfl)) pa_nil))) (pe_and (pe_cmpR (op_eqD hu) (pe_callB call_len_seq (by rfl) T.m_len (by decide +kernel) (pa_cons (pv 2) pa_nil)) pe_int (by rfl)) (pe_and (pe_call G_is_within (hr.mono (by decide)) (by rfl) T.g_is_within T.F_is_within.kp T.b_is_within .nil pass0 (pa_cons (pe_ix ix_seq (pv 2) pe_int (fun _ _ => rfl)) (pa_cons pe_int (pa_cons (pe_op op_sub (pv 1) pe_int) pa_nil)))) (pe_one (pe_call G_is_out (hr.mono (by decide)) (by rfl) T.g_is_out T.F_is_out.kp T.b_is_out .nil pass0 (pa_cons (pv 0) (pa_cons (pe_ix ix_seq (pv 2) pe_int (fun _ _ => rfl)) pa_nil))))))))), ?_⟩
  cases hds with
  | cons h0 r =>
    cases r with
    | cons h1 r =>
      cases r with
      | cons h3 r =>
        cases r
        have hs : ∀ {σ : L2.St} {H1 : Hp} {te : TE} {x n : Int} {tn : TE}, ED te σ H1 (.int x) → ED tn σ H1 (.int n) → ED (tCall (SpT fWithin) [] E0 (tCons te (tCons (tC (.int 0)) (tCons (tOp (rI0 fun i j => .int (i - j)) tn (tC (.int 1))) tNil)))) σ H1 (.bool (okS x n)) := fun h1 h2 => ed_call (ea_cons h1 (ea_cons ed_int (ea_cons (ed_subI h2 ed_int) ea_nil))) ⟨_, _, _, rfl, rfl⟩
        refine s_ret (ed_is (d := .bool (true && (decide ((2 : Int) = 2) && (okS e.1 n && okO m e.2)))) (ed_andV (ed_isTup (ed_var rfl h3)) fun _ => ed_andV (ed_eqI (ed_len (ed_var rfl h3)) ed_int) fun _ => ed_andV (hs (ed_ix (ed_var rfl h3) ed_int (atI0 _ _)) (ed_var rfl h1)) fun _ => ed_call (ea_cons (ed_var rfl h0) (ea_cons (ed_ix (ed_var rfl h3) ed_int (atI_nat (j := 1) rfl)) ea_nil)) ⟨m, e.2, rfl, hz, rfl⟩) ?_) q
        simp [okE]
end K23
set_option maxRecDepth 100000
set_option maxHeartbeats 2000000
namespace K23
open PySem PySem.Spec PyProof.Rows L2 WV
open Evl (Ex)
variable {P : Program} {w : World} {K : PySem.W.Frag} {mg : Str → Option Value} {base : Heap}
def ffB (ds : List WV.T) (bs : List Bool) (i : Nat) : Bool := !(bs.getD i false) || (decide (0 < i) && !PySem.W.dataLt (ds.getD (i - 1) .none) (ds.getD i .none))
def ff (ds : List WV.T) (bs : List Bool) : Option Nat := (List.range bs.length).find? (ffB ds bs)
def fFF : WV.T → List WV.T → WV.T → Prop := fun d fs r => ∃ ds bs, d = .tuple ds ∧ fs = bs.map .bool ∧ ds.length = bs.length ∧ bs.length ≤ 1000 ∧ (∀ d e, d ∈ ds → e ∈ ds → PySem.W.alike d e = true ∧ d ≠ .none ∧ PyData.depth d ≤ 64) ∧ r = optN (ff ds bs)
theorem getD_inT {ds : List WV.T} {i : Nat} (h : i < ds.length) : ds[i]? = some (ds.getD i .none) ∧ ds.getD i .none ∈ ds := by
  rw [List.getD, List.getElem?_eq_getElem h]
  exact ⟨rfl, List.getElem_mem h⟩
theorem ok_first_fault (T : Txt K mg) : FnOk P w K mg base CX0 1 T.f_first_fault T.d_first_fault ["items", "flags"] (SpTL fFF) := by
  refine T.F_first_fault.ok sc_first_fault (fun vs H Q E ⟨_, _, _, _, _, e, _⟩ => by rw [e]; rfl) (fun cdv A outer s H vs Q E hr h => ?_)
  obtain ⟨x0, x1, d0, ds0, r0, rfl, h0, h1, ⟨ds, bs, rfl, rfl, hlen, hz, hal, rfl⟩, q⟩ := h
  have hu := hr.units
  refine ⟨_, (Evl.pss_cut (ps_for PassesOwn.never rfl (pi_enumU (by rfl) T.m_enumerate (pa_cons (pv 1) pa_nil)) (pg_tup rfl (pgs_cons (pg_name (i := 2) sc_first_fault.nd rfl (by first | exact .inl rfl | exact .inr rfl)) (pgs_cons (pg_name (i := 3) sc_first_fault.nd rfl (by first | exact .inl rfl | exact .inr rfl)) pgs_nil)))
        (pss_one (ps_if (PW.pt (pw_or (pt_not (pt_val (pv 3))) (pw_or1 (PW.pt (pw_and (pt_cmpR op_gt (pv 2) pe_int (by rfl)) (pw_and1 (pt_cmpR (op_leD hu) (pe_ix ix_seq (pv 0) (pv 2) (fun _ _ => rfl)) (pe_ix ix_seq (pv 0) (pe_op op_sub (pv 2) pe_int) (fun _ _ => rfl)) (by rfl))))))))
        (pss_one (ps_ret (pv 2)))
        pss_nil)))
      (pss_one (ps_ret pe_non))), ?_⟩
  obtain ⟨p, xs, rfl, h11, h12⟩ := h1
  refine Evl.q_cut (M := fun σ' H' => Ex H H' ∧ ff ds bs = none) ?_ ?_
  · refine s_forEL (ds := bs.map .bool) (a := p) (xs := xs) (fun H0 e Q q => ⟨_, rfl, q H0 (Ex.refl _)⟩) h11 h12 (fun H1 i σ' H' => (∃ y z, σ' = [some x0, some (.ref p), y, z]) ∧ Ex H1 H' ∧ Ex H H' ∧ ∀ j, j < i → ffB ds bs j = false) (fun H1 e1 => ⟨⟨_, _, rfl⟩, Ex.refl _, e1, fun j hj => absurd hj (by omega)⟩) (fun H1 i σ' H' h => h.2.1) ?_ ?_
    · rintro H1 i v d σ' H' H2 e1 hd ⟨⟨y, z, rfl⟩, e2, e3, hp⟩ e4 hv
      obtain ⟨hx, rfl⟩ := map_get false hd
      have hi : i < bs.length := (List.getElem?_eq_some_iff.mp hx).1
      refine g_two hv fun a b ha hb => ?_
      have h0' := h0.keep (.ex (e3.trans e4))
      obtain ⟨p1, p2⟩ := getD_inT (ds := ds) (i := i) (by omega)
      obtain ⟨r1, r2⟩ := getD_inT (ds := ds) (i := i - 1) (by omega)
      obtain ⟨c1, c2, c3⟩ := hal _ _ p2 r2
      refine s_if (b := ffB ds bs i) (eb_or (eb_not (eb_B (ed_var rfl hb))) fun _ => eb_is (eb_and (a := decide (0 < (i : Int))) (b := !PySem.W.dataLt (ds.getD (i - 1) .none) (ds.getD i .none)) (eb_test (ed_gtI (ed_var rfl ha) ed_int)) fun hpos => eb_test (ed_leD (ed_ix (ed_var rfl h0') (ed_var rfl ha) (atI_nat p1)) (ed_ix (i := ((i - 1 : Nat) : Int)) (ed_var rfl h0') (ed_is (ed_subI (ed_var rfl ha) ed_int) ?_) (atI_nat r1)) c1 c2 c3)) ?_) (fun hc H3 e5 => ?_) (fun hc H3 e5 => ?_)
      · have := of_decide_eq_true hpos
        congr 1
        omega
      · congr 1
        apply decide_eq_decide.mpr
        omega
      · refine s_ret (ed_var rfl (ha.keep (.ex e5))) fun z H4 e6 hz => q z H4 (((e3.trans e4).trans e5).trans e6) ?_
        have : ff ds bs = some i := find_lt hi hc hp
        rw [this]
        exact hz
      · refine ⟨⟨_, _, rfl⟩, (e2.trans e4).trans e5, (e3.trans e4).trans e5, fun j hj => ?_⟩
        by_cases e : j = i
        · subst e
          exact hc
        · exact hp j (by omega)
    · rintro H1 σ' H' e1 ⟨⟨y, z, rfl⟩, e2, e3, hp⟩
      refine ⟨e3, find_no fun j hj => hp j (by rw [List.length_map]; exact hj)⟩
  · rintro σ' H' ⟨e, hp⟩
    refine s_ret ed_non fun z H4 e4 hz => q z H4 (e.trans e4) ?_
    rw [hp]
    exact hz
/-- what led_error tells -/
def ltag (s : Str) (o : Option Nat) : WV.T := .tuple [.str s, optN o]
def ltel : WV.T → Bool
  | .tuple [_, x] => !isNone x
  | _ => false
def leD (k m : Int) (n : Nat) (bs : List Int) (as : List Arc) (es : List (Int × List Int)) : WV.T :=
  match [ltag "begin" (ff (bs.map .int) (bs.map fun b => okS b n)), ltag "arc" (ff (as.map arcD) (as.map (okA k m n))), ltag "end" (ff (es.map endD) (es.map (okE m n)))].filter ltel with
  | [] => .none
  | d :: _ => d
def fLed : List T → T → Prop := fun ds r => ∃ k m : Int, ∃ n : Nat, ∃ bs as es, ds = [.int k, .int m, ledD n bs as es] ∧ n ≤ 6 ∧ bs.length ≤ 40 ∧ as.length ≤ 40 ∧ es.length ≤ 40 ∧ (∀ a ∈ as, a.out.length ≤ 1000) ∧ (∀ e ∈ es, e.2.length ≤ 1000) ∧ r = leD k m n bs as es
theorem s_unp4 {D : Ends} {σ : L2.St} {H : Hp} {te : TE} {i1 i2 i3 i4 : Nat} {d1 d2 d3 d4 : WV.T} (h : ED te σ H (.tuple [d1, d2, d3, d4])) (k : ∀ v1 v2 v3 v4 H1, Ex H H1 → Td H1 v1 d1 → Td H1 v2 d2 → Td H1 v3 d3 → Td H1 v4 d4 → D.nx ((((σ.set i1 (some v1)).set i2 (some v2)).set i3 (some v3)).set i4 (some v4)) H1) : tAsg te (gTup K 4 (gCons (gName i1) (gCons (gName i2) (gCons (gName i3) (gCons (gName i4) gNil))))) D σ H := h H (Ex.refl H) _ fun v H1 e hv => by
  obtain ⟨a, vs, rfl, g1, g2⟩ := hv.tup_inv
  cases g2 with
  | cons x1 r1 =>
    cases r1 with
    | cons x2 r2 =>
      cases r2 with
      | cons x3 r3 =>
        cases r3 with
        | cons x4 r4 =>
          cases r4
          exact ⟨a, _, rfl, .inl (.inl g1), rfl, _, _, rfl, _, _, rfl, _, _, rfl, _, _, rfl, rfl, k _ _ _ _ H1 e x1 x2 x3 x4⟩
theorem alike_intsD (bs : List Int) : ∀ d e, d ∈ bs.map PyData.int → e ∈ bs.map PyData.int → PySem.W.alike d e = true ∧ d ≠ .none ∧ PyData.depth d ≤ 64 := by
  intro d e hd he
  obtain ⟨x, _, rfl⟩ := List.mem_map.mp hd
  obtain ⟨y, _, rfl⟩ := List.mem_map.mp he
  exact ⟨by rw [PySem.W.alike], by simp, (sh_int (n := 64)).2⟩
theorem sh_arc (a : Arc) : sh 64 (arcD a) := sh_tup (n := 63) (by
  intro d hd
  simp at hd
  rcases hd with rfl | rfl | rfl | rfl
  · exact sh_int
  · exact sh_int
  · exact sh_W
  · exact sh_int)
theorem sh_end (e : Int × List Int) : sh 64 (endD e) := sh_tup (n := 63) (by
  intro d hd
  simp at hd
  rcases hd with rfl | rfl
  · exact sh_int
  · exact sh_W)
theorem alike_arcs (as : List Arc) : ∀ d e, d ∈ as.map arcD → e ∈ as.map arcD → PySem.W.alike d e = true ∧ d ≠ .none ∧ PyData.depth d ≤ 64 := by
  intro d e hd he
  obtain ⟨x, _, rfl⟩ := List.mem_map.mp hd
  obtain ⟨y, _, rfl⟩ := List.mem_map.mp he
  refine ⟨?_, by simp [arcD], (sh_arc x).2⟩
  unfold arcD
  simp only [PySem.W.alike, PySem.W.alikeAll, alike_W]
  rfl
theorem alike_ends (es : List (Int × List Int)) : ∀ d e, d ∈ es.map endD → e ∈ es.map endD → PySem.W.alike d e = true ∧ d ≠ .none ∧ PyData.depth d ≤ 64 := by
  intro d e hd he
  obtain ⟨x, _, rfl⟩ := List.mem_map.mp hd
  obtain ⟨y, _, rfl⟩ := List.mem_map.mp he
  refine ⟨?_, by simp [endD], (sh_end x).2⟩
  unfold endD
  simp only [PySem.W.alike, PySem.W.alikeAll, alike_W]
  rfl
end K23
set_option maxRecDepth 100000
set_option maxHeartbeats 2000000
namespace K23
open PySem PySem.Spec PyProof.Rows L2 WV
open Evl (Ex)
variable {P : Program} {w : World} {K : PySem.W.Frag} {mg : Str → Option Value} {base : Heap}
theorem sh_tag (s : Str) (h : PyData.strOk s = true) (o : Option Nat) : sh 1 (ltag s o) := sh_tup (n := 0) (by
  intro d hd
  simp at hd
  rcases hd with rfl | rfl
  · exact sh_str h
  · cases o with
    | none => exact sh_none
    | some i => exact sh_int)
theorem ok_led_error (T : Txt K mg) : FnOk P w K mg base CX0 5 T.f_led_error T.d_led_error ["k", "m", "value"] (SpT fLed) := by
  have G_is_within := ok_is_within (P := P) (w := w) (base := base) T
  have G_is_arc := ok_is_arc (P := P) (w := w) (base := base) T
  have G_is_end := ok_is_end (P := P) (w := w) (base := base) T
  have G_first_fault := ok_first_fault (P := P) (w := w) (base := base) T
  refine T.F_led_error.ok sc_led_error (fun vs H Q E h => spT_len (n := 3) (fun ds d ⟨_, _, _, _, _, _, e, _⟩ => by rw [e]; rfl) h) (fun cdv A outer s H vs Q E hr h => ?_)
  obtain ⟨ds, d, hds, ⟨k, m, n, bs, as, es, rfl, hn, z1, z2, z3, za, ze, rfl⟩, q⟩ := h
  have hu := hr.units
  refine ⟨_, (pss_cons (ps_if (PW.pt (pw_or (pt_not (pt_val (pe_callB call_isi (by rfl) T.m_isinstance (by decide +kernel) (pa_cons (pv 2) (pa_cons (pe_bltn (v := .ty "tuple") (u := .type "tuple") (by rfl) T.m_tuple (by decide +kernel) (by rfl)) pa_nil))))) (pw_or (pt_cmpR (op_neD hu) (pe_callB call_len_seq (by rfl) T.m_len (by decide +kernel) (pa_cons (pv 2) pa_nil)) pe_int (by rfl)) (pw_or1 (pt_not (pt_val (pe_call G_is_within (hr.mono (by decide)) (by rfl) T.g_is_within T.F_is_within.kp T.b_is_within .nil pass0 (pa_cons (pe_ix ix_seq (pv 2) pe_int (fun _ _ => rfl)) (pa_cons pe_int (pa_cons (pe_glob (v := .int 6) (by rfl) T.c_MAX_STATES ⟨_, rfl⟩) pa_nil))))))))))
        (pss_one (ps_ret pe_str))
        pss_nil)
      (pss_cons (ps_asg (pv 2) (pg_tup rfl (pgs_cons (pg_name (i := 3) sc_led_error.nd rfl (by first | exact .inl rfl | exact .inr rfl)) (pgs_cons (pg_name (i := 4) sc_led_error.nd rfl (by first | exact .inl rfl | exact .inr rfl)) (pgs_cons (pg_name (i := 5) sc_led_error.nd rfl (by first | exact .inl rfl | exact .inr rfl)) (pgs_cons (pg_name (i := 6) sc_led_error.nd rfl (by first | exact .inl rfl | exact .inr rfl)) pgs_nil))))))
      (pss_cons (ps_if (pt_not (pt_val (pe_callB (cr_all rfl) (by rfl) T.m_all (by decide +kernel) (pa_cons (pe_lcD s H (own := [("part", 7)]) rfl sc_led_error.nd (pi_seq (pe_slice sl_seqU (pv 2) (po_some pe_int) po_none)) (blkOk_by (own := [("part", 7)]) (N := nm_led_error) (sc := defScope s_led_error) (by decide +kernel)) (fun _ _ _ _ _ => (pg_name (i := 7) sc_led_error.nd rfl (by first | exact .inl rfl | exact .inr rfl))) (fun _ _ _ _ _ => pts_nil) (fun _ _ _ _ _ => (pe_callB call_isi (by rfl) T.m_isinstance (by decide +kernel) (pa_cons (pv 7) (pa_cons (pe_bltn (v := .ty "tuple") (u := .type "tuple") (by rfl) T.m_tuple (by decide +kernel) (by rfl)) pa_nil))))) pa_nil))))
        (pss_one (ps_ret pe_str))
        pss_nil)
      (pss_cons (ps_if (PW.pt (pw_or (pt_cmpR op_gt (pe_callB call_len_seq (by rfl) T.m_len (by decide +kernel) (pa_cons (pv 5) pa_nil)) (pe_glob (v := .int 40) (by rfl) T.c_MAX_ARCS ⟨_, rfl⟩) (by rfl)) (pw_or1 (pt_cmpR op_gt (pe_callB call_len_seq (by rfl) T.m_len (by decide +kernel) (pa_cons (pv 6) pa_nil)) (pe_glob (v := .int 40) (by rfl) T.c_MAX_ARCS ⟨_, rfl⟩) (by rfl)))))
        (pss_one (ps_ret pe_str))
        pss_nil)
      (pss_cons (ps_asg (pe_lst (pa_cons (pe_tup (pa_cons pe_str (pa_cons (pe_call G_first_fault (hr.mono (by decide)) (by rfl) T.g_first_fault T.F_first_fault.kp T.b_first_fault .nil pass0 (pa_cons (pv 4) (pa_cons (pe_lcD s H (own := [("state", 9)]) rfl sc_led_error.nd (pi_seq (pv 4)) (blkOk_by (own := [("state", 9)]) (N := nm_led_error) (sc := defScope s_led_error) (by decide +kernel)) (fun _ _ _ _ _ => (pg_name (i := 9) sc_led_error.nd rfl (by first | exact .inl rfl | exact .inr rfl))) (fun _ _ _ _ _ => pts_nil) (fun _ _ _ _ _ => (pe_call G_is_within (hr.mono (by decide)) (by rfl) T.g_is_within T.F_is_within.kp T.b_is_within .nil pass0 (pa_cons (pv 9) (pa_cons pe_int (pa_cons (pe_op op_sub (pv 3) pe_int) pa_nil)))))) pa_nil))) pa_nil))) pa_nil)) (pg_name (i := 8) sc_led_error.nd rfl (by first | exact .inl rfl | exact .inr rfl)))
      (pss_cons (ps_expr (pe_bm PySem.F.plainAttrs_list PySem.F.slot_list_append PySem.F.type_list_append mt_append (pv 8) (pa_cons (pe_tup (pa_cons pe_str (pa_cons (pe_call G_first_fault (hr.mono (by decide)) (by rfl) T.g_first_fault T.F_first_fault.kp T.b_first_fault .nil pass0 (pa_cons (pv 5) (pa_cons (pe_lcD s H (own := [("arc", 10)]) rfl sc_led_error.nd (pi_seq (pv 5)) (blkOk_by (own := [("arc", 10)]) (N := nm_led_error) (sc := defScope s_led_error) (by decide +kernel)) (fun _ _ _ _ _ => (pg_name (i := 10) sc_led_error.nd rfl (by first | exact .inl rfl | exact .inr rfl))) (fun _ _ _ _ _ => pts_nil) (fun _ _ _ _ _ => (pe_call G_is_arc (hr.mono (by decide)) (by rfl) T.g_is_arc T.F_is_arc.kp T.b_is_arc .nil pass0 (pa_cons (pv 0) (pa_cons (pv 1) (pa_cons (pv 3) (pa_cons (pv 10) pa_nil))))))) pa_nil))) pa_nil))) pa_nil)))
      (pss_cons (ps_expr (pe_bm PySem.F.plainAttrs_list PySem.F.slot_list_append PySem.F.type_list_append mt_append (pv 8) (pa_cons (pe_tup (pa_cons pe_str (pa_cons (pe_call G_first_fault (hr.mono (by decide)) (by rfl) T.g_first_fault T.F_first_fault.kp T.b_first_fault .nil pass0 (pa_cons (pv 6) (pa_cons (pe_lcD s H (own := [("end", 11)]) rfl sc_led_error.nd (pi_seq (pv 6)) (blkOk_by (own := [("end", 11)]) (N := nm_led_error) (sc := defScope s_led_error) (by decide +kernel)) (fun _ _ _ _ _ => (pg_name (i := 11) sc_led_error.nd rfl (by first | exact .inl rfl | exact .inr rfl))) (fun _ _ _ _ _ => pts_nil) (fun _ _ _ _ _ => (pe_call G_is_end (hr.mono (by decide)) (by rfl) T.g_is_end T.F_is_end.kp T.b_is_end .nil pass0 (pa_cons (pv 1) (pa_cons (pv 3) (pa_cons (pv 11) pa_nil)))))) pa_nil))) pa_nil))) pa_nil)))
      (pss_cons (ps_setLcD s H (i := 12) (own := [("fault", 13)]) rfl sc_led_error.nd rfl rfl (sw_true rfl rfl rfl (by decide +kernel)) (pi_seq (pv 8)) (blkOk_by (own := [("fault", 13)]) (N := nm_led_error) (sc := defScope s_led_error) (by decide +kernel)) (fun _ _ _ _ _ => (pg_name (i := 13) sc_led_error.nd rfl (by first | exact .inl rfl | exact .inr rfl))) (fun _ _ _ _ _ => pts_one (pt_cmpR op_notN (pe_ix ix_seq (pv 13) pe_int (fun _ _ => rfl)) pe_non (by rfl))) (fun _ _ _ _ _ => (pv 13)))
      (pss_one (ps_ret (pe_ifExp (pt_cmpR (op_neD hu) (pv 12) (pe_lst pa_nil) (by rfl)) (pe_ix ix_seq (pv 12) pe_int (fun _ _ => rfl)) pe_non))))))))))), ?_⟩
  cases hds with
  | cons h0 r =>
    cases r with
    | cons h1 r =>
      cases r with
      | cons h2 r =>
        cases r
        rename_i x0 x1 x2
        have hs : ∀ {σ : L2.St} {H1 : Hp} {te : TE} {x n : Int} {tn : TE}, ED te σ H1 (.int x) → ED tn σ H1 (.int n) → ED (tCall (SpT fWithin) [] E0 (tCons te (tCons (tC (.int 0)) (tCons (tOp (rI0 fun i j => .int (i - j)) tn (tC (.int 1))) tNil)))) σ H1 (.bool (okS x n)) := fun h1 h2 => ed_call (ea_cons h1 (ea_cons ed_int (ea_cons (ed_subI h2 ed_int) ea_nil))) ⟨_, _, _, rfl, rfl⟩
        refine s_ifF (eb_is (eb_or (a := false) (eb_not (b := true) (eb_B (ed_isTup (ed_var rfl h2)))) (fun _ => eb_or (a := false) (eb_test (ed_neI (ed_len (ed_var rfl h2)) ed_int)) (fun _ => eb_not (eb_B (ed_call (ea_cons (ed_ix (ed_var rfl h2) ed_int (atI0 _ _)) (ea_cons ed_int (ea_cons ed_int ea_nil))) ⟨_, _, _, rfl, rfl⟩))))) ?_) (fun H1 e1 => ?_)
        · have a1 : decide ((0 : Int) ≤ (n : Int)) = true := by simp
          have a2 : decide ((n : Int) ≤ 6) = true := by simp; omega
          simp [isIn, a1, a2]
        refine s_unp4 (ed_var rfl (h2.keep (.ex e1))) fun vn vb va ve H2 e2 hn' hb' ha' he' => ?_
        have h2' := h2.keep (.ex (e1.trans e2))
        refine s_ifF (eb_is (eb_not (b := true) (eb_B (ed_is (ed_all (bs := [true, true, true]) (el_is (el_lcT (fun _ => true) (fun i => .bool true) (ed_sl (lo := some 1) (hi := none) (ed_var rfl h2') (eo_some ed_int) eo_none) (by rw [show (1 : Int) = ((1 : Nat) : Int) from rfl, cut_drop]; simp) (fun i v d H3 e3 hd hv Q2 q2 => ?_)) ?_)) rfl))) rfl) (fun H3 e3 => ?_)
        · refine q2 _ rfl eb_yes fun _ => ?_
          rw [show (1 : Int) = ((1 : Nat) : Int) from rfl, cut_drop] at hd
          have : isTup d = true := by
            match i, hd with
            | 0, hd => simp at hd; rw [← hd]; rfl
            | 1, hd => simp at hd; rw [← hd]; rfl
            | 2, hd => simp at hd; rw [← hd]; rfl
            | (j + 3), hd => simp at hd
          exact ed_is (ed_isTup (ed_var rfl hv)) (by rw [this])
        · rw [show (1 : Int) = ((1 : Nat) : Int) from rfl, cut_drop]
          rfl
        have k0 := h0.keep (.ex ((e1.trans e2).trans e3))
        have k1 := h1.keep (.ex ((e1.trans e2).trans e3))
        have kn := hn'.keep (.ex e3)
        have kb := hb'.keep (.ex e3)
        have ka := ha'.keep (.ex e3)
        have ke := he'.keep (.ex e3)
        refine s_ifF (eb_is (eb_or (a := false) (eb_is (eb_test (ed_gtI (ed_len (ed_var rfl ka)) ed_int)) ?_) (fun _ => eb_is (b := false) (eb_test (ed_gtI (ed_len (ed_var rfl ke)) ed_int)) ?_)) rfl) (fun H4 e4 => ?_)
        · rw [List.length_map]
          apply decide_eq_false
          omega
        · rw [List.length_map]
          apply decide_eq_false
          omega
        show tSeq _ _ _ _ _
        have l0 := k0.keep (.ex e4)
        have l1 := k1.keep (.ex e4)
        have ln := kn.keep (.ex e4)
        have lb := kb.keep (.ex e4)
        have la := ka.keep (.ex e4)
        have le := ke.keep (.ex e4)
        have ex4 : Ex H H4 := ((e1.trans e2).trans e3).trans e4
        refine s_asgN (ds := [ltag "begin" (ff (bs.map .int) (bs.map fun b => okS b n))]) (el_lst (ea_cons (ed_tup (ea_cons ed_str (ea_cons (ed_callTL (d := W bs) (ds := (bs.map fun b => okS b n).map .bool) (ed_var rfl lb) (em_new (el_is (el_lcT (ds := bs.map .int) (fun _ => true) (fun i => .bool (okS (bs.getD i 0) n)) (ed_var rfl lb) (by rw [List.length_map]; omega) (fun i v d H5 e5 hd hv Q2 q2 => ?_)) ?_)) ⟨_, _, rfl, rfl, by simp, by simp; omega, alike_intsD bs, rfl⟩) ea_nil)) (by simp)) ea_nil) (by simp)) (fun p H5 hp e5 hl => ?_)
        · obtain ⟨hx, rfl⟩ := map_get 0 hd
          exact q2 _ rfl eb_yes fun _ => hs (ed_var rfl hv) (ed_var rfl (ln.keep (.ex e5)))
        · rw [List.length_map]
          exact gd_bools bs 0 fun b => okS b n
        have hp0 := Evl.fresh_back ex4 hp
        have l0 := l0.keep (.ex e5)
        have l1 := l1.keep (.ex e5)
        have ln := ln.keep (.ex e5)
        have la := la.keep (.ex e5)
        have le := le.keep (.ex e5)
        have ex5 := ex4.trans e5
        refine s_appG (i := 8) (d := ltag "arc" (ff (as.map arcD) (as.map (okA k m n)))) rfl hl (ed_tup (ea_cons ed_str (ea_cons (ed_callTL (d := .tuple (as.map arcD)) (ds := (as.map (okA k m n)).map .bool) (ed_var rfl la) (em_new (el_is (el_lcT (ds := as.map arcD) (fun _ => true) (fun i => .bool (okA k m n (as.getD i ⟨0, 0, [], 0⟩))) (ed_var rfl la) (by rw [List.length_map]; omega) (fun i v d H6 e6 hd hv Q2 q2 => ?_)) ?_)) ⟨_, _, rfl, rfl, by simp, by simp; omega, alike_arcs as, rfl⟩) ea_nil)) (by simp)) (by simp) (fun H6 mu6 hl => ?_)
        · obtain ⟨hx, rfl⟩ := map_get ⟨0, 0, [], 0⟩ hd
          have hmem := za _ (List.mem_of_getElem? hx)
          exact q2 _ rfl eb_yes fun _ => ed_call (ea_cons (ed_var rfl (l0.keep (.ex e6))) (ea_cons (ed_var rfl (l1.keep (.ex e6))) (ea_cons (ed_var rfl (ln.keep (.ex e6))) (ea_cons (ed_var rfl hv) ea_nil)))) ⟨k, m, n, _, rfl, hmem, rfl⟩
        · rw [List.length_map]
          exact gd_bools as ⟨0, 0, [], 0⟩ (okA k m n)
        have l1 := l1.keep mu6.2
        have ln := ln.keep mu6.2
        have le := le.keep mu6.2
        have ex6 := mu6.ex ex5 hp0
        refine s_appG (i := 8) (d := ltag "end" (ff (es.map endD) (es.map (okE m n)))) rfl hl (ed_tup (ea_cons ed_str (ea_cons (ed_callTL (d := .tuple (es.map endD)) (ds := (es.map (okE m n)).map .bool) (ed_var rfl le) (em_new (el_is (el_lcT (ds := es.map endD) (fun _ => true) (fun i => .bool (okE m n (es.getD i (0, [])))) (ed_var rfl le) (by rw [List.length_map]; omega) (fun i v d H7 e7 hd hv Q2 q2 => ?_)) ?_)) ⟨_, _, rfl, rfl, by simp, by simp; omega, alike_ends es, rfl⟩) ea_nil)) (by simp)) (by simp) (fun H7 mu7 hl => ?_)
        · obtain ⟨hx, rfl⟩ := map_get (0, []) hd
          have hmem := ze _ (List.mem_of_getElem? hx)
          exact q2 _ rfl eb_yes fun _ => ed_call (ea_cons (ed_var rfl (l1.keep (.ex e7))) (ea_cons (ed_var rfl (ln.keep (.ex e7))) (ea_cons (ed_var rfl hv) ea_nil))) ⟨m, n, _, rfl, hmem, rfl⟩
        · rw [List.length_map]
          exact gd_bools es (0, []) (okE m n)
        have ex7 := mu7.ex ex6 hp0
        have hq : leD k m n bs as es = match [ltag "begin" (ff (bs.map .int) (bs.map fun b => okS b n)), ltag "arc" (ff (as.map arcD) (as.map (okA k m n))), ltag "end" (ff (es.map endD) (es.map (okE m n)))].filter ltel with
          | [] => .none
          | d :: _ => d := rfl
        rw [hq] at q
        have hl : LA H7 (.ref p) [ltag "begin" (ff (bs.map .int) (bs.map fun b => okS b n)), ltag "arc" (ff (as.map arcD) (as.map (okA k m n))), ltag "end" (ff (es.map endD) (es.map (okE m n)))] := hl
        have t1 := sh_tag "begin" (by decide +kernel) (ff (bs.map .int) (bs.map fun b => okS b n))
        have t2 := sh_tag "arc" (by decide +kernel) (ff (as.map arcD) (as.map (okA k m n)))
        have t3 := sh_tag "end" (by decide +kernel) (ff (es.map endD) (es.map (okE m n)))
        have htt : ∀ d ∈ [ltag "begin" (ff (bs.map .int) (bs.map fun b => okS b n)), ltag "arc" (ff (as.map arcD) (as.map (okA k m n))), ltag "end" (ff (es.map endD) (es.map (okE m n)))], sh 1 d ∧ ∃ s o, d = ltag s o := by
          intro d hd
          simp at hd
          rcases hd with rfl | rfl | rfl
          · exact ⟨t1, _, _, rfl⟩
          · exact ⟨t2, _, _, rfl⟩
          · exact ⟨t3, _, _, rfl⟩
        have hlen3 : ∀ a b c : WV.T, [a, b, c].length ≤ 40000 := fun _ _ _ => by simp
        have hlen3 := hlen3 (ltag "begin" (ff (bs.map .int) (bs.map fun b => okS b n))) (ltag "arc" (ff (as.map arcD) (as.map (okA k m n)))) (ltag "end" (ff (es.map endD) (es.map (okE m n))))
        generalize [ltag "begin" (ff (bs.map .int) (bs.map fun b => okS b n)), ltag "arc" (ff (as.map arcD) (as.map (okA k m n))), ltag "end" (ff (es.map endD) (es.map (okE m n)))] = fs at hl q htt hlen3
        refine s_asgM (em_new (el_is (el_lcM (ds := fs) (fun i => ltel (fs.getD i .none)) (fun i => fs.getD i .none) (em_var rfl hl) hlen3 (fun i v d H8 e8 hd hv Q2 q2 => ?_)) ((gd_list fs ltel id).trans (List.map_id _)))) (fun v H8 e8 hf => ?_)
        · have hmem := (htt d (List.mem_of_getElem? hd)).2
          obtain ⟨s, o, rfl⟩ := hmem
          rw [getD_of hd] at q2
          exact q2 _ rfl (eb_test (ed_notN (ed_ix (ed_var rfl hv) ed_int (atI_nat (j := 1) rfl)))) fun _ => ed_var rfl hv
        · have hsh : SeqAt.shaped (.list (fs.filter ltel)) = true := (sh_lst (n := 1) fun d hd => (htt d ((List.mem_filter.mp hd).1)).1).ok
          generalize fs.filter ltel = gs at hf q hsh
          refine s_ret (ed_if (eb_test (ed_neM (em_var rfl hf) em_nil hsh (sh_nilL (n := 0)).ok)) (fun hd => ?_) (fun hd => ?_)) (fun v H9 e9 hv => q v H9 ((ex7.trans e8).trans e9) hv)
          · rw [eqv_nilL] at hd
            cases gs with
            | nil => simp at hd
            | cons g gs => exact ed_ixM (em_var rfl hf) ed_int (atI0 _ _)
          · rw [eqv_nilL] at hd
            cases gs with
            | nil => exact ed_non
            | cons g gs => simp at hd
end K23
set_option maxRecDepth 100000
set_option maxHeartbeats 2000000
namespace K23
open PySem PySem.Spec PyProof.Rows L2 WV
open Evl (Ex)
variable {P : Program} {w : World} {K : PySem.W.Frag} {mg : Str → Option Value} {base : Heap}
def fAgain : List T → T → Prop := fun ds r => ∃ u v : List Int, ds = [La u v] ∧ v.length < 64 ∧ r = W (srtI v)
theorem ok_again_letters (T : Txt K mg) : FnOk P w K mg base CX0 1 T.f_again_letters T.d_again_letters ["lasso"] (SpT fAgain) := by
  refine T.F_again_letters.ok sc_again_letters (fun vs H Q E h => spT_len (n := 1) (fun ds d ⟨_, _, e, _⟩ => by rw [e]; rfl) h) (fun cdv A outer s H vs Q E hr h => ?_)
  obtain ⟨ds, d, hds, ⟨u, v, rfl, hz, rfl⟩, q⟩ := h
  refine ⟨_, (pss_one (ps_ret (pe_callTy call_tuple_of (by rfl) T.m_tuple (by decide +kernel) (pa_cons (pe_callB (cr_sortedSet rfl) (by rfl) T.m_sorted (by decide +kernel) (pa_cons (pe_callTy (call_setU rfl) (by rfl) T.m_set (by decide +kernel) (pa_cons (pe_ix ix_seq (pv 0) pe_int (fun _ _ => rfl)) pa_nil)) pa_nil)) pa_nil)))), ?_⟩
  cases hds with
  | cons h0 r =>
    cases r
    exact s_ret (ed_tupL (el_sortedSet (ed_La1 (ed_var rfl h0)) hz)) q
/-- maps that are so -/
def fMaps : List T → T → Prop := fun ds r => ∃ n k : Nat, ∃ ms : List (List Int), ds = [.int (n : Nat), .int (k : Nat), .tuple (ms.map W)] ∧ ms.length = k ∧ n ≤ 1000 ∧ k ≤ 1000 ∧ (∀ m ∈ ms, Mp n m) ∧ r = .none
theorem gd_false {n : Nat} {f : Nat → Bool} {g : Nat → WV.T} (h : ∀ i, i < n → f i = false) : gd n f g = [] := by
  unfold gd
  rw [List.filter_eq_nil_iff.mpr]
  · rfl
  · intro a ha
    rw [h a (List.mem_range.mp ha)]
    simp
theorem ok_maps_error (T : Txt K mg) : FnOk P w K mg base CX0 2 T.f_maps_error T.d_maps_error ["n", "k", "value"] (SpT fMaps) := by
  have G_is_number := ok_is_number (P := P) (w := w) (base := base) T
  refine T.F_maps_error.ok sc_maps_error (fun vs H Q E h => spT_len (n := 3) (fun ds d ⟨_, _, _, e, _⟩ => by rw [e]; rfl) h) (fun cdv A outer s H vs Q E hr h => ?_)
  obtain ⟨ds, d, hds, ⟨n, k, ms, rfl, hk, zn, zk, hm, rfl⟩, q⟩ := h
  have hu := hr.units
  refine ⟨_, (pss_cons (ps_if (PW.pt (pw_or (pt_not (pt_val (pe_callB call_isi (by rfl) T.m_isinstance (by decide +kernel) (pa_cons (pv 2) (pa_cons (pe_bltn (v := .ty "tuple") (u := .type "tuple") (by rfl) T.m_tuple (by decide +kernel) (by rfl)) pa_nil))))) (pw_or1 (pt_cmpR (op_neD hu) (pe_callB call_len_seq (by rfl) T.m_len (by decide +kernel) (pa_cons (pv 2) pa_nil)) (pv 1) (by rfl)))))
        (pss_one (ps_ret pe_str))
        pss_nil)
      (Evl.pss_cut (ps_for PassesOwn.never rfl (pi_seq (pv 2)) (pg_name (i := 3) sc_maps_error.nd rfl (by first | exact .inl rfl | exact .inr rfl))
        (pss_one (ps_if (PW.pt (pw_or (pt_not (pt_val (pe_callB call_isi (by rfl) T.m_isinstance (by decide +kernel) (pa_cons (pv 3) (pa_cons (pe_bltn (v := .ty "tuple") (u := .type "tuple") (by rfl) T.m_tuple (by decide +kernel) (by rfl)) pa_nil))))) (pw_or (pt_cmpR (op_neD hu) (pe_callB call_len_seq (by rfl) T.m_len (by decide +kernel) (pa_cons (pv 3) pa_nil)) (pv 0) (by rfl)) (pw_or1 (pt_not (pt_val (pe_callB (cr_all rfl) (by rfl) T.m_all (by decide +kernel) (pa_cons (pe_lcD s H (own := [("item", 4)]) rfl sc_maps_error.nd (pi_seq (pv 3)) (blkOk_by (own := [("item", 4)]) (N := nm_maps_error) (sc := defScope s_maps_error) (by decide +kernel)) (fun _ _ _ _ _ => (pg_name (i := 4) sc_maps_error.nd rfl (by first | exact .inl rfl | exact .inr rfl))) (fun _ _ _ _ _ => pts_nil) (fun _ _ _ _ _ => (pe_call G_is_number (hr.mono (by decide)) (by rfl) T.g_is_number T.F_is_number.kp T.b_is_number .nil pass0 (pa_cons (pv 4) pa_nil)))) pa_nil))))))))
        (pss_one (ps_ret pe_str))
        pss_nil)))
      (Evl.pss_cut (ps_for PassesOwn.never rfl (pi_enumU (by rfl) T.m_enumerate (pa_cons (pv 2) pa_nil)) (pg_tup rfl (pgs_cons (pg_name (i := 5) sc_maps_error.nd rfl (by first | exact .inl rfl | exact .inr rfl)) (pgs_cons (pg_name (i := 3) sc_maps_error.nd rfl (by first | exact .inl rfl | exact .inr rfl)) pgs_nil)))
        (pss_cons (ps_setLcD s H (i := 6) (own := [("place", 7), ("item", 4)]) rfl sc_maps_error.nd rfl rfl (sw_true rfl rfl rfl (by decide +kernel)) (pi_enumU (by rfl) T.m_enumerate (pa_cons (pv 3) pa_nil)) (blkOk_by (own := [("place", 7), ("item", 4)]) (N := nm_maps_error) (sc := defScope s_maps_error) (by decide +kernel)) (fun _ _ _ _ _ => (pg_tup rfl (pgs_cons (pg_name (i := 7) sc_maps_error.nd rfl (by first | exact .inl rfl | exact .inr rfl)) (pgs_cons (pg_name (i := 4) sc_maps_error.nd rfl (by first | exact .inl rfl | exact .inr rfl)) pgs_nil)))) (fun _ _ _ _ _ => pts_one (pt_not (pt_chain op_le op_lt pe_int (pv 4) (pv 0)))) (fun _ _ _ _ _ => (pv 7)))
      (pss_one (ps_if (pt_cmpR (op_neD hu) (pv 6) (pe_lst pa_nil) (by rfl))
        (pss_one (ps_ret (pe_tup (pa_cons pe_str (pa_cons (pv 5) (pa_cons (pe_ix ix_seq (pv 6) pe_int (fun _ _ => rfl)) pa_nil))))))
        pss_nil))))
      (pss_one (ps_ret pe_non))))), ?_⟩
  cases hds with
  | cons h0 r =>
    cases r with
    | cons h1 r =>
      cases r with
      | cons h2 r =>
        cases r
        rename_i x0 x1 x2
        refine s_ifF (eb_is (eb_or (a := false) (eb_not (b := true) (eb_B (ed_isTup (ed_var rfl h2)))) (fun _ => eb_is (b := false) (eb_test (ed_neI (ed_len (ed_var rfl h2)) (ed_var rfl h1))) (by simp [hk]))) rfl) (fun H1 e1 => ?_)
        have k0 := h0.keep (.ex e1)
        have k2 := h2.keep (.ex e1)
        refine Evl.q_cut (M := fun σ' H' => ∃ y z, σ' = [some x0, some x1, some x2, y, z, none, none, none] ∧ Ex H H') ?_ ?_
        · refine s_forT (ds := ms.map W) (ed_var rfl k2) (fun H2 i σ' H' => ∃ y z, σ' = [some x0, some x1, some x2, y, z, none, none, none] ∧ Ex H2 H' ∧ Ex H H') (fun H2 e2 => ⟨_, _, rfl, Ex.refl _, e1.trans e2⟩) (fun H2 i σ' H' ⟨_, _, _, e, _⟩ => .ex e) ?_ ?_
          · rintro H2 i v d σ' H' e2 hd ⟨y, z, rfl, e3, e4⟩ hv
            obtain ⟨hx, rfl⟩ := map_get [] hd
            have hmem := hm _ (List.mem_of_getElem? hx)
            generalize ms.getD i [] = m at hv hmem hx
            refine s_ifF (eb_is (eb_or (a := false) (eb_not (b := true) (eb_B (ed_isTup (ed_var rfl hv)))) (fun _ => eb_or (a := false) (eb_is (eb_test (ed_neI (ed_lenW (ed_var rfl hv)) (ed_var rfl (h0.keep (.ex e4))))) (by simp [hmem.1])) (fun _ => eb_is (b := false) (eb_not (eb_B (ed_all (bs := (m.map PyData.int).map isNum) (el_is (el_lcT (ds := m.map .int) (fun _ => true) (fun i => .bool (isNum ((m.map PyData.int).getD i .none))) (ed_var rfl hv) (by rw [List.length_map, hmem.1]; omega) (fun i v d H1 e1 hd hv Q2 q2 => q2 _ rfl eb_yes fun _ => ed_call (ea_cons (ed_var rfl hv) ea_nil) ⟨_, rfl, by rw [getD_of hd]⟩)) (gd_const _ isNum _ rfl))))) ?_))) rfl) (fun H5 e5 => ?_)
            · have : ((m.map PyData.int).map isNum).all id = true := by
                rw [List.map_map, List.all_map, List.all_eq_true]
                intro x _
                rfl
              rw [this]
              rfl
            · exact ⟨_, _, rfl, e3.trans e5, e4.trans e5⟩
          · rintro H2 σ' H' e2 ⟨y, z, rfl, e3, e4⟩
            exact ⟨y, z, rfl, e4⟩
        · rintro σ' H' ⟨y, z, rfl, e⟩
          refine Evl.q_cut (M := fun σ' H'' => Ex H H'') ?_ ?_
          · refine s_forE (ds := ms.map W) (ed_var rfl (h2.keep (.ex e))) (fun H2 i σ' H' => (∃ y z a b c, σ' = [some x0, some x1, some x2, y, z, a, b, c]) ∧ Ex H2 H' ∧ Ex H H') (fun H2 e2 => ⟨⟨_, _, _, _, _, rfl⟩, Ex.refl _, e.trans e2⟩) (fun H2 i σ' H' h => h.2.1) ?_ ?_
            · rintro H2 i v d σ' H' H3 e2 hd ⟨⟨y, z, a, b, c, rfl⟩, e3, e4⟩ e5 hv
              obtain ⟨hx, rfl⟩ := map_get [] hd
              have hmem := hm _ (List.mem_of_getElem? hx)
              generalize ms.getD i [] = m at hv hmem hx
              refine g_two hv fun vi vm hvi hvm => ?_
              refine s_asgM (em_new (el_is (es := []) (el_lcE (ds := m.map .int) (fun _ => false) (fun i => .int (i : Nat)) (ed_var rfl hvm) (by rw [List.length_map, hmem.1]; omega) (fun j v d H4 e6 hd' hv' Q2 q2 => g_two hv' fun a' b' ha' hb' => ?_)) (gd_false fun _ _ => rfl))) (fun vo H4 e6 ho => ?_)
              · obtain ⟨x, hx', rfl⟩ := W_get hd'
                obtain ⟨p1, p2⟩ := hmem.2 x (List.mem_of_getElem? hx')
                refine q2 _ rfl (eb_is (eb_not (eb_test (ed_in ed_int (ed_var rfl hb') (ed_var rfl (h0.keep (.ex ((e4.trans e5).trans e6))))))) ?_) (fun z => absurd z (by decide))
                rw [decide_eq_true p1, decide_eq_true p2]
                rfl
              · refine s_ifF (eb_is (eb_test (ed_neM (em_var rfl ho) em_nil (sh_nilL (n := 0)).ok (sh_nilL (n := 0)).ok)) (by rw [eqv_nilL]; rfl)) (fun H5 e7 => ?_)
                exact ⟨⟨_, _, _, _, _, rfl⟩, ((e3.trans e5).trans e6).trans e7, ((e4.trans e5).trans e6).trans e7⟩
            · rintro H2 σ' H' e2 ⟨⟨y, z, a, b, c, rfl⟩, e3, e4⟩
              exact e4
          · rintro σ' H'' e'
            exact s_ret ed_non fun z H4 e4 hz => q z H4 (e'.trans e4) hz
end K23
set_option maxRecDepth 100000
set_option maxHeartbeats 2000000
namespace K23
open PySem PySem.Spec PyProof.Rows L2 WV
open Evl (Ex Ev)
variable {P : Program} {w : World} {K : PySem.W.Frag} {mg : Str → Option Value} {base : Heap}
def leL (k : Int) : WV.T → WV.T → WV.T
  | .tuple e1, .tuple e2 => if isNone (weD k (.tuple e1)) && isNone (weD k (.tuple e2)) then (if e2.isEmpty then .str "empty" else if max (e1.length : Int) (e2.length : Int) > 12 then .str "long" else .none) else .str "form"
  | _, _ => .str "form"
def szT (d : WV.T) : Prop := ∀ es, d = .tuple es → es.length ≤ 1000
inductive LAr (k : Int) (H : Hp) : V → WV.T → Prop
  | pair {x : V} {d1 d2 : WV.T} : Td H x (.tuple [d1, d2]) → szT d1 → szT d2 → LAr k H x (leL k d1 d2)
  | non : LAr k H .non (.str "form")
  | one {x : V} {d : WV.T} : Td H x (.tuple [d]) → LAr k H x (.str "form")
  | lst {x : V} {ds : List WV.T} : LA H x ds → LAr k H x (.str "form")
  | mix {a : Addr} {l b : V} {ds : List WV.T} {d : WV.T} : H a = some (.tup [l, b]) → LA H l ds → Td H b d → szT d → LAr k H (.ref a) (.str "form")
def SpLE : Sp := fun vs H Q _ => ∃ kv x, ∃ k : Int, ∃ r, vs = [kv, x] ∧ Td H kv (.int k) ∧ LAr k H x r ∧ ∀ v H', Ex H H' → Td H' v r → Q v H'
theorem ed_callWE {σ : L2.St} {H : Hp} {ta tb : TE} {E : XK} {k : Int} {d : WV.T} (h1 : ED ta σ H (.int k)) (h2 : ED tb σ H d) (hz : szT d) : ED (tCall SpWE [] E (tCons ta (tCons tb tNil))) σ H (weD k d) := fun H1 e Q q =>
  h1 H1 e _ fun v H2 e2 hv => h2 H2 (e.trans e2) _ fun w H3 e3 hw => .inl ⟨_, _, .cons (hv.keep (.ex e3)) (.cons hw .nil), ⟨k, d, rfl, hz, rfl⟩, fun z H4 e4 hz => q z H4 ((e2.trans e3).trans e4) hz⟩
theorem ed_callWL {σ : L2.St} {H : Hp} {ta tb : TE} {E : XK} {d : WV.T} {ds : List WV.T} (h1 : ED ta σ H d) (h2 : EM tb σ H ds) : ED (tCall SpWE [] E (tCons ta (tCons tb tNil))) σ H (.str "form") := fun H1 e Q q =>
  h1 H1 e _ fun v H2 e2 hv => h2 H2 (e.trans e2) _ fun w H3 e3 hw => .inr ⟨v, w, ds, rfl, hw, fun z H4 e4 hz => q z H4 ((e2.trans e3).trans e4) hz⟩
/-- over a tuple that stands, of any values -/
theorem el_lcV {σ : L2.St} {H : Hp} {tl te : TE} {t : TT} {gt : TG} {vs : List Nat} {a : Addr} {xs : List V} (f : Nat → Bool) (g : Nat → WV.T) (h : Ev tl σ H (.ref a)) (hl : H a = some (.tup xs)) (hz : xs.length ≤ 40000)
    (hb : ∀ (i : Nat) (v : V) (H1 : Hp), Ex H H1 → xs[i]? = some v → ∀ Q2 : L2.St → Hp → Prop, (∀ σ2, wipe σ2 vs = wipe σ vs → EB t σ2 H1 (f i) → (f i = true → ED te σ2 H1 (g i)) → Q2 σ2 H1) → gt v (wipe σ vs) H1 Q2) :
    EL (tLc (iSeq K tl) gt t te vs) σ H (gd xs.length f g) := fun H0 e Q q => h H0 e _ fun H1 e1 => by
  have g1 : H1 a = some (.tup xs) := e1 a _ (e a _ hl)
  refine ⟨a, rfl, .inr ⟨⟨xs, .inl (.inl g1)⟩, fun Dl hD => ?_⟩⟩
  have key := lc_it (walk_tup (K := K) (a := a) (xs := xs)) (g := gt) (tt := t) (te := te) (vs := vs) (σ := σ) (H1 := H1) (D := Dl) (Qd := Q (.ref Dl)) (fun i H' => Cd H1 Dl (gd i f g) H') (cd_0 hD) (fun i H' _ p => .inl (.inl (p.2.1 a _ g1))) (fun i x H2 H3 hi p y => by
    obtain ⟨rfl, hx⟩ := y
    exact hb i x H3 ((e.trans e1).trans p.2.1) hx _ fun σ2 w2 ht he => ⟨w2, cd_turn p (by omega) ht he⟩) (fun H' p => by
      obtain ⟨p1, p2, ws, p3, p4⟩ := p
      exact q Dl ws H' (Evl.fresh_back e1 p1) (e1.trans p2) p3 p4)
  exact key
theorem weD_int {k : Int} {d : WV.T} (h : isNone (weD k d) = true) : ∃ es, d = .tuple es ∧ ∀ e ∈ es, sh 0 e := by
  cases d with
  | tuple es =>
    refine ⟨es, rfl, fun e he => ?_⟩
    by_cases hall : es.all isNum = true
    · obtain ⟨x, rfl⟩ := isNum_int (List.all_eq_true.mp hall e he)
      exact sh_int
    · simp [weD, hall, isNone] at h
  | _ => simp [weD, isNone] at h
theorem ok_lasso_error (T : Txt K mg) : FnOk P w K mg base CX0 3 T.f_lasso_error T.d_lasso_error ["k", "value"] SpLE := by
  have G_word_error := ok_word_error (P := P) (w := w) (base := base) T
  refine T.F_lasso_error.ok sc_lasso_error (fun vs H Q E ⟨_, _, _, _, e, _⟩ => by rw [e]; rfl) (fun cdv A outer s H vs Q E hr h => ?_)
  obtain ⟨x0, x1, k, r, rfl, h0, har, q⟩ := h
  have hu := hr.units
  refine ⟨_, (pss_cons (ps_if (PW.pt (pw_or (pt_not (pt_val (pe_callB call_isi (by rfl) T.m_isinstance (by decide +kernel) (pa_cons (pv 1) (pa_cons (pe_bltn (v := .ty "tuple") (u := .type "tuple") (by rfl) T.m_tuple (by decide +kernel) (by rfl)) pa_nil))))) (pw_or (pt_cmpR (op_neD hu) (pe_callB call_len_seq (by rfl) T.m_len (by decide +kernel) (pa_cons (pv 1) pa_nil)) pe_int (by rfl)) (pw_or1 (pt_not (pt_val (pe_callB (cr_all rfl) (by rfl) T.m_all (by decide +kernel) (pa_cons (pe_lcD s H (own := [("word", 2)]) rfl sc_lasso_error.nd (pi_seq (pv 1)) (blkOk_by (own := [("word", 2)]) (N := nm_lasso_error) (sc := defScope s_lasso_error) (by decide +kernel)) (fun _ _ _ _ _ => (pg_name (i := 2) sc_lasso_error.nd rfl (by first | exact .inl rfl | exact .inr rfl))) (fun _ _ _ _ _ => pts_nil) (fun _ _ _ _ _ => (pe_cmpR op_isN (pe_call G_word_error (hr.mono (by decide)) (by rfl) T.g_word_error T.F_word_error.kp T.b_word_error .nil pass0 (pa_cons (pv 0) (pa_cons (pv 2) pa_nil))) pe_non (by rfl)))) pa_nil))))))))
        (pss_one (ps_ret pe_str))
        pss_nil)
      (pss_cons (ps_if (pt_cmpR (op_eqD hu) (pe_ix ix_seq (pv 1) pe_int (fun _ _ => rfl)) (pe_tup pa_nil) (by rfl))
        (pss_one (ps_ret pe_str))
        pss_nil)
      (pss_one (ps_ret (pe_ifExp (pt_cmpR op_gt (pe_callB (call_max2 rfl) (by rfl) T.m_max (by decide +kernel) (pa_cons (pe_callB call_len_seq (by rfl) T.m_len (by decide +kernel) (pa_cons (pe_ix ix_seq (pv 1) pe_int (fun _ _ => rfl)) pa_nil)) (pa_cons (pe_callB call_len_seq (by rfl) T.m_len (by decide +kernel) (pa_cons (pe_ix ix_seq (pv 1) pe_int (fun _ _ => rfl)) pa_nil)) pa_nil))) (pe_glob (v := .int 12) (by rfl) T.c_MAX_LASSO ⟨_, rfl⟩) (by rfl)) pe_str pe_non))))), ?_⟩
  have hform : ∀ {H1 : Hp} {D : Ends} {σ : L2.St}, (∀ v H', Ex H1 H' → Td H' v (.str "form") → D.rt v H') → tRet (tC (.str "form")) D σ H1 := fun k => s_ret ed_str k
  cases har with
  | non =>
    exact s_ifT (eb_orT (eb_is (eb_not (eb_B (ed_isTup (d := .none) (ed_var (i := 1) rfl .n)))) rfl)) fun H1 e1 => s_ret ed_str fun v H2 e2 hv => q v H2 (e1.trans e2) hv
  | lst hl =>
    exact s_ifT (eb_orT (eb_is (eb_not (eb_B (la_tup (em_var (i := 1) rfl hl)))) rfl)) fun H1 e1 => s_ret ed_str fun v H2 e2 hv => q v H2 (e1.trans e2) hv
  | one h1 =>
    exact s_ifT (eb_is (eb_or (a := false) (eb_not (b := true) (eb_B (ed_isTup (ed_var rfl h1)))) (fun _ => eb_orT (eb_is (eb_test (ed_neI (ed_len (ed_var rfl h1)) ed_int)) (by simp)))) rfl) fun H1 e1 => s_ret ed_str fun v H2 e2 hv => q v H2 (e1.trans e2) hv
  | mix ha hl hb hz =>
    rename_i a l b ds d
    have hev : ∀ {H' : Hp}, Ev (tVar 1) [some x0, some (.ref a), none] H' (.ref a) := Evl.ev_var rfl
    have htup : ED (tCB (rIsi K) (tCons (tVar 1) (tCons (tC (.ty "tuple")) tNil))) [some x0, some (.ref a), none] H (.bool true) := fun H1 k Q q => hev H1 k _ fun H2 e2 => by
      obtain ⟨_, _, _, _, k5, _⟩ := kb_all
      exact ⟨_, .ty "tuple", _, _, true, rfl, .ty _, .base (.tup (e2 _ _ (k _ _ ha))), kit_ty k5, q _ H2 e2 (.b _)⟩
    have hlen : ED (tCB (fun xs H Q => ∃ p ys, xs = [.ref p] ∧ (SqL K H p ys ∨ SqT K H p ys) ∧ Q (.int ys.length) H) (tCons (tVar 1) tNil)) [some x0, some (.ref a), none] H (.int 2) := fun H1 k Q q => hev H1 k _ fun H2 e2 =>
      ⟨a, _, rfl, .inr (.inl (.inl (e2 _ _ (k _ _ ha)))), q _ H2 e2 (.i _)⟩
    refine s_ifT (eb_is (eb_or (a := false) (eb_not (b := true) (eb_B htup)) (fun _ => eb_or (a := false) (eb_is (eb_test (ed_neI hlen ed_int)) (by decide)) (fun _ => eb_is (b := true) (eb_not (eb_B (ed_all (bs := [false, isNone (weD k d)]) (el_lcV (fun _ => true) (fun i => .bool ([false, isNone (weD k d)].getD i false)) hev ha (by simp) (fun i v H1 e1 hd Q2 q2 => ?_))))) (by simp)))) rfl) fun H1 e1 => s_ret ed_str fun v H2 e2 hv => q v H2 (e1.trans e2) hv
    refine q2 _ rfl eb_yes fun _ => ?_
    match i, hd with
    | 0, hd =>
      cases hd
      exact ed_is (ed_isN (ed_callWL (ed_var rfl (h0.keep (.ex e1))) (em_var rfl (hl.keep e1)))) rfl
    | 1, hd =>
      cases hd
      exact ed_isN (ed_callWE (ed_var rfl (h0.keep (.ex e1))) (ed_var rfl (hb.keep (.ex e1))) hz)
    | (j + 2), hd => simp at hd
  | pair h1 z1 z2 =>
    rename_i d1 d2
    refine s_if (b := !(isNone (weD k d1) && isNone (weD k d2))) (eb_is (eb_or (a := false) (eb_not (b := true) (eb_B (ed_isTup (ed_var rfl h1)))) (fun _ => eb_or (a := false) (eb_is (eb_test (ed_neI (ed_len (ed_var rfl h1)) ed_int)) (by simp)) (fun _ => eb_not (eb_B (ed_all (bs := [isNone (weD k d1), isNone (weD k d2)]) (el_is (el_lcT (ds := [d1, d2]) (fun _ => true) (fun i => .bool ([isNone (weD k d1), isNone (weD k d2)].getD i false)) (ed_var rfl h1) (by simp) (fun i v d H1 e1 hd hv Q2 q2 => ?_)) rfl)))))) (by simp)) (fun hc H1 e1 => ?_) (fun hc H1 e1 => ?_)
    · refine q2 _ rfl eb_yes fun _ => ?_
      match i, hd with
      | 0, hd =>
        cases hd
        exact ed_isN (ed_callWE (ed_var rfl (h0.keep (.ex e1))) (ed_var rfl hv) z1)
      | 1, hd =>
        cases hd
        exact ed_isN (ed_callWE (ed_var rfl (h0.keep (.ex e1))) (ed_var rfl hv) z2)
      | (j + 2), hd => simp at hd
    · have hc : (isNone (weD k d1) && isNone (weD k d2)) = false := by
        cases e : (isNone (weD k d1) && isNone (weD k d2)) with
        | false => rfl
        | true =>
          rw [e] at hc
          cases hc
      refine s_ret ed_str fun v H2 e2 hv => q v H2 (e1.trans e2) ?_
      have : leL k d1 d2 = .str "form" := by
        unfold leL
        split
        · rw [hc]
          rfl
        · rfl
      rw [this]
      exact hv
    · have hc : (isNone (weD k d1) && isNone (weD k d2)) = true := by
        cases e : (isNone (weD k d1) && isNone (weD k d2)) with
        | true => rfl
        | false =>
          rw [e] at hc
          cases hc
      rw [Bool.and_eq_true] at hc
      obtain ⟨e1s, rfl, s1⟩ := weD_int hc.1
      obtain ⟨e2s, rfl, s2⟩ := weD_int hc.2
      have hq : leL k (.tuple e1s) (.tuple e2s) = if e2s.isEmpty then .str "empty" else if max (e1s.length : Int) (e2s.length : Int) > 12 then .str "long" else .none := by
        simp [leL, hc.1, hc.2]
      rw [hq] at q
      have h1' := h1.keep (.ex e1)
      refine s_if (eb_test (ed_eq (ed_ix (ed_var rfl h1') ed_int (atI_nat (j := 1) rfl)) (ed_tup ea_nil (by simp)) (sh_tup s2).ok (sh_nil (n := 0)).ok)) (fun hc H2 e2 => ?_) (fun hc H2 e2 => ?_)
      · have : e2s.isEmpty = true := by
          rw [PyData.eqv] at hc
          cases e2s with
          | nil => rfl
          | cons _ _ => simp [PyData.eqvAll] at hc
        rw [if_pos this] at q
        exact s_ret ed_str fun v H3 e3 hv => q v H3 ((e1.trans e2).trans e3) hv
      · have : e2s.isEmpty = false := by
          rw [PyData.eqv] at hc
          cases e2s with
          | nil => simp [PyData.eqvAll] at hc
          | cons _ _ => rfl
        rw [this, if_neg (by simp)] at q
        have h1'' := h1'.keep (.ex e2)
        refine s_ret (ed_if (eb_test (ed_gtI (ed_max (ed_len (ed_ix (ed_var rfl h1'') ed_int (atI0 _ _))) (ed_len (ed_ix (ed_var rfl h1'') ed_int (atI_nat (j := 1) rfl)))) ed_int)) (fun hd => ed_is ed_str ?_) (fun hd => ed_is ed_non ?_)) (fun v H3 e3 hv => q v H3 ((e1.trans e2).trans e3) hv)
        · rw [if_pos (of_decide_eq_true hd)]
        · rw [if_neg (of_decide_eq_false hd)]
end K23
set_option maxRecDepth 100000
set_option maxHeartbeats 2000000
namespace K23
open PySem PySem.Spec PyProof.Rows L2 WV
open Evl (Ex Ev)
variable {P : Program} {w : World} {K : PySem.W.Frag} {mg : Str → Option Value} {base : Heap}
def fSteady : List T → T → Prop := fun ds r => ∃ n : Nat, ∃ bs as es, ds = [ledD n bs as es] ∧ bs.length ≤ 1 ∧ as.length ≤ 1000 ∧ es.length ≤ 1000 ∧ (as.map fun a => [a.s, a.l]).Nodup ∧ (es.map fun e => e.1).Nodup ∧ r = .bool true
theorem gd_map {α : Type} (xs : List α) (z : α) (g : α → WV.T) : gd xs.length (fun _ => true) (fun i => g (xs.getD i z)) = xs.map g := by
  have := gd_of xs z (fun _ => true) g
  rw [List.filter_eq_self.mpr (fun _ _ => rfl)] at this
  exact this
theorem ok_is_steady (T : Txt K mg) : FnOk P w K mg base CX0 1 T.f_is_steady T.d_is_steady ["led"] (SpT fSteady) := by
  refine T.F_is_steady.ok sc_is_steady (fun vs H Q E h => spT_len (n := 1) (fun ds d ⟨_, _, _, _, e, _⟩ => by rw [e]; rfl) h) (fun cdv A outer s H vs Q E hr h => ?_)
  obtain ⟨ds, d, hds, ⟨n, bs, as, es, rfl, hb, ha, he, na, ne, rfl⟩, q⟩ := h
  have hu := hr.units
  refine ⟨_, (pss_cons (ps_par (i := 1) (j := 2) (by rfl) sc_is_steady.nd rfl rfl (by decide) rfl rfl (pa_cons (pe_lcD s H (own := [("arc", 3)]) rfl sc_is_steady.nd (pi_seq (pe_ix ix_seq (pv 0) pe_int (fun _ _ => rfl))) (blkOk_by (own := [("arc", 3)]) (N := nm_is_steady) (sc := defScope s_is_steady) (by decide +kernel)) (fun _ _ _ _ _ => (pg_name (i := 3) sc_is_steady.nd rfl (by first | exact .inl rfl | exact .inr rfl))) (fun _ _ _ _ _ => pts_nil) (fun _ _ _ _ _ => (pe_slice sl_seqU (pv 3) po_none (po_some pe_int)))) (pa_cons (pe_lcD s H (own := [("state", 4), ("out", 5)]) rfl sc_is_steady.nd (pi_seq (pe_ix ix_seq (pv 0) pe_int (fun _ _ => rfl))) (blkOk_by (own := [("state", 4), ("out", 5)]) (N := nm_is_steady) (sc := defScope s_is_steady) (by decide +kernel)) (fun _ _ _ _ _ => (pg_tup rfl (pgs_cons (pg_name (i := 4) sc_is_steady.nd rfl (by first | exact .inl rfl | exact .inr rfl)) (pgs_cons (pg_name (i := 5) sc_is_steady.nd rfl (by first | exact .inl rfl | exact .inr rfl)) pgs_nil)))) (fun _ _ _ _ _ => pts_nil) (fun _ _ _ _ _ => (pv 4))) pa_nil)) (by rfl))
      (pss_cons (ps_if (PW.pt (pw_or (pt_cmpR op_gt (pe_callB call_len_seq (by rfl) T.m_len (by decide +kernel) (pa_cons (pe_ix ix_seq (pv 0) pe_int (fun _ _ => rfl)) pa_nil)) pe_int (by rfl)) (pw_or1 (pt_cmpR op_lt (pe_callB call_lenU (by rfl) T.m_len (by decide +kernel) (pa_cons (pe_callTy (call_dictT rfl hu) (by rfl) T.m_dict (by decide +kernel) (pa_cons (pe_lcD s H (own := [("arc", 3)]) rfl sc_is_steady.nd (pi_seq (pv 1)) (blkOk_by (own := [("arc", 3)]) (N := nm_is_steady) (sc := defScope s_is_steady) (by decide +kernel)) (fun _ _ _ _ _ => (pg_name (i := 3) sc_is_steady.nd rfl (by first | exact .inl rfl | exact .inr rfl))) (fun _ _ _ _ _ => pts_nil) (fun _ _ _ _ _ => (pe_tup (pa_cons (pv 3) (pa_cons pe_bl pa_nil))))) pa_nil)) pa_nil)) (pe_callB call_len_seq (by rfl) T.m_len (by decide +kernel) (pa_cons (pv 1) pa_nil)) (by rfl)))))
        (pss_one (ps_ret pe_bl))
        pss_nil)
      (pss_one (ps_ret (pe_cmpR (op_eqD hu) (pe_callB call_lenU (by rfl) T.m_len (by decide +kernel) (pa_cons (pe_callTy (call_dictP rfl) (by rfl) T.m_dict (by decide +kernel) (pa_cons (pe_lcD s H (own := [("state", 4)]) rfl sc_is_steady.nd (pi_seq (pv 2)) (blkOk_by (own := [("state", 4)]) (N := nm_is_steady) (sc := defScope s_is_steady) (by decide +kernel)) (fun _ _ _ _ _ => (pg_name (i := 4) sc_is_steady.nd rfl (by first | exact .inl rfl | exact .inr rfl))) (fun _ _ _ _ _ => pts_nil) (fun _ _ _ _ _ => (pe_tup (pa_cons (pv 4) (pa_cons pe_bl pa_nil))))) pa_nil)) pa_nil)) (pe_callB call_len_seq (by rfl) T.m_len (by decide +kernel) (pa_cons (pv 2) pa_nil)) (by rfl)))))), ?_⟩
  cases hds with
  | cons h0 r =>
    cases r
    rename_i x0
    refine s_parNM (ds := (as.map fun a => [a.s, a.l]).map W) (es := (es.map fun e => e.1).map .int) (el_is (el_lcT (ds := as.map arcD) (fun _ => true) (fun i => W [(as.getD i ⟨0, 0, [], 0⟩).s, (as.getD i ⟨0, 0, [], 0⟩).l]) (ed_ix (ed_var rfl h0) ed_int (atI_nat (j := 2) rfl)) (by rw [List.length_map]; omega) (fun i v d H1 e1 hd hv Q2 q2 => ?_)) ?_) (el_is (el_lcT (ds := es.map endD) (fun _ => true) (fun i => .int (es.getD i (0, [])).1) (ed_ix (ed_var rfl h0) ed_int (atI_nat (j := 3) rfl)) (by rw [List.length_map]; omega) (fun i v d H1 e1 hd hv Q2 q2 => ?_)) ?_) (fun a b H1 hab hp1 hp2 e1 hla hlb => ?_)
    · obtain ⟨_, rfl⟩ := map_get ⟨0, 0, [], 0⟩ hd
      exact q2 _ rfl eb_yes fun _ => ed_is (ed_sl (ed_var rfl hv) eo_none (eo_some (i := ((2 : Nat) : Int)) ed_int)) (by rw [cut_take]; rfl)
    · rw [List.length_map, List.map_map]
      exact gd_map as ⟨0, 0, [], 0⟩ fun a => W [a.s, a.l]
    · obtain ⟨_, rfl⟩ := map_get (0, []) hd
      exact g_two hv fun a b ha hb => q2 _ rfl eb_yes fun _ => ed_var rfl ha
    · rw [List.length_map, List.map_map]
      exact gd_map es (0, []) fun e => .int e.1
    · have k0 := h0.keep (.ex e1)
      have l1 : ED (tCB (rLenU K) (tCons (tCB (rDictT K) (tCons (tLc (iSeq K (tVar 1)) (gName 3) tYes (tTup (tCons (tVar 3) (tCons (tC (.bl true)) tNil))) [3]) tNil)) tNil)) [some x0, some (.ref a), some (.ref b), none, none, none] H1 (.int (as.length : Nat)) := by
        refine ed_is (ed_lenDT (L := as.map fun a => [a.s, a.l]) (em_new (el_is (el_lcM (ds := (as.map fun a => [a.s, a.l]).map W) (fun _ => true) (fun i => pT ((as.map fun a => [a.s, a.l]).getD i [])) (em_var rfl hla) (by rw [List.length_map, List.length_map]; omega) (fun i v d H2 e2 hd hv Q2 q2 => ?_)) ?_)) na) (by rw [List.length_map])
        · obtain ⟨_, rfl⟩ := map_get [] hd
          exact q2 _ rfl eb_yes fun _ => ed_tup (ea_cons (ed_var rfl hv) (ea_cons ed_bl ea_nil)) (by simp)
        · rw [List.length_map]
          exact gd_map _ [] pT
      have l2 : ∀ {H2 : Hp}, Ex H1 H2 → ED (tCB (rLenU K) (tCons (tCB (rDictK K) (tCons (tLc (iSeq K (tVar 2)) (gName 4) tYes (tTup (tCons (tVar 4) (tCons (tC (.bl true)) tNil))) [4]) tNil)) tNil)) [some x0, some (.ref a), some (.ref b), none, none, none] H2 (.int (es.length : Nat)) := fun {H2} e2 => by
        refine ed_is (ed_lenDK (L := es.map fun e => e.1) (em_new (el_is (el_lcM (ds := (es.map fun e => e.1).map .int) (fun _ => true) (fun i => pI ((es.map fun e => e.1).getD i 0)) (em_var rfl (hlb.keep e2)) (by rw [List.length_map, List.length_map]; omega) (fun i v d H2 e2 hd hv Q2 q2 => ?_)) ?_)) ne) (by rw [List.length_map])
        · obtain ⟨_, rfl⟩ := map_get 0 hd
          exact q2 _ rfl eb_yes fun _ => ed_tup (ea_cons (ed_var rfl hv) (ea_cons ed_bl ea_nil)) (by simp)
        · rw [List.length_map]
          exact gd_map _ 0 pI
      refine s_ifF (eb_is (eb_or (a := false) (eb_is (eb_test (ed_gtI (ed_lenW (ed_ix (ed_var rfl k0) ed_int (atI_nat (j := 1) rfl))) ed_int)) ?_) (fun _ => eb_is (b := false) (eb_test (ed_ltI l1 (ed_lenM (em_var rfl hla)))) ?_)) rfl) (fun H2 e2 => ?_)
      · apply decide_eq_false
        omega
      · rw [List.length_map, List.length_map]
        simp
      · refine s_ret (ed_is (ed_eqI (l2 e2) (ed_lenM (em_var rfl (hlb.keep e2)))) ?_) fun v H3 e3 hv => q v H3 ((e1.trans e2).trans e3) hv
        rw [List.length_map, List.length_map]
        simp
end K23
set_option maxRecDepth 100000
set_option maxHeartbeats 2000000
namespace K23
open PySem PySem.Spec PyProof.Rows L2 WV
open Evl (Ex Ev)
variable {P : Program} {w : World} {K : PySem.W.Frag} {mg : Str → Option Value} {base : Heap}
def Good (n : Nat) (H : Hp) (d : Addr) : Prop := ∃ kvs, H d = some (.dK kvs) ∧ ∀ s, St n s → (valV kvs (Sum.inl s)).isSome = true
def LDs (n m : Nat) (H : Hp) (v : V) : Prop := ∃ l, ∃ ds : List Addr, v = .ref l ∧ H l = some (.lst (ds.map V.ref)) ∧ ds.length = m ∧ ∀ d ∈ ds, Good n H d
theorem LDs.keep {n m : Nat} {H H' : Hp} {v : V} (e : Ex H H') (h : LDs n m H v) : LDs n m H' v := by
  obtain ⟨l, ds, rfl, h1, h2, h3⟩ := h
  refine ⟨l, ds, rfl, e _ _ h1, h2, fun d hd => ?_⟩
  obtain ⟨kvs, k1, k2⟩ := h3 d hd
  exact ⟨kvs, e _ _ k1, k2⟩
def EKd (te : TE) (σ : L2.St) (H : Hp) (kvs : List (L2.Key × V)) : Prop := ∀ H1, Ex H H1 → ∀ Q : VK, (∀ p H2, H1 p = none → Ex H1 H2 → H2 p = some (.dK kvs) → Q (.ref p) H2) → te σ H1 Q
theorem ek_dict {σ : L2.St} {H : Hp} {te : TE} {L : List Int} (h : EM te σ H (L.map pI)) : EKd (tCB (rDictK K) (tCons te tNil)) σ H (mergeK [] (L.map fun x => (Sum.inl x, V.bl true))) := fun H1 e Q q =>
  h H1 e _ fun v H2 e2 ⟨a, xs, ev, h1, h2⟩ => by
    subst ev
    obtain ⟨ps, rfl, hp, hl⟩ := td_PK (K := K) h2
    exact ⟨a, ps, _, rfl, .inl (.inl h1), hp, fun p hp' => q p _ (Evl.fresh_back e2 hp') (e2.trans (Ex.new hp')) upd_same⟩
theorem good_of {n : Nat} {H : Hp} {d : Addr} {L : List Int} (h : H d = some (.dK (mergeK [] (L.map fun x => (Sum.inl x, V.bl true))))) (hL : ∀ s, St n s → s ∈ L) : Good n H d :=
  ⟨_, h, fun s hs => mergeK_has _ _ _ (.inl (by
    rw [List.map_map]
    exact List.mem_map.mpr ⟨s, hL s hs, rfl⟩))⟩
/-- x in rows[i] -/
theorem ed_inRow {n m : Nat} {σ : L2.St} {H : Hp} {ta tb ti : TE} {s : Int} {i : Nat} (ha : ED ta σ H (.int s)) (hs : St n s) (hv : ∀ H1, Ex H H1 → ∀ Q : VK, (∀ v H2, Ex H1 H2 → LDs n m H2 v → Q v H2) → tb σ H1 Q) (hi : ED ti σ H (.int (i : Nat))) (him : i < m) : ED (tOp rInDk ta (tOp (rIx K) tb ti)) σ H (.bool true) := fun H1 e Q q =>
  ha H1 e _ fun x H2 e2 hx => hv H2 (e.trans e2) _ fun y H3 e3 hy => hi H3 ((e.trans e2).trans e3) _ fun z H4 e4 hz => by
    obtain ⟨l, ds, rfl, h1, h2, h3⟩ := hy.keep e4
    have hdi : ds[i]? = some (ds.getD i 0) := by simp [List.getD, h2, him]
    obtain ⟨kvs, k1, k2⟩ := h3 _ (List.mem_of_getElem? hdi)
    refine .inl ⟨l, _, (i : Int), .ref (ds.getD i 0), rfl, hz.int_inv, .inl (.inl h1), atI_nat (by rw [List.getElem?_map, hdi]; rfl), ?_⟩
    have hx' := hx.int_inv
    subst hx'
    refine ⟨ds.getD i 0, _, rfl, DGet.k (k := Sum.inl s) k1, ?_⟩
    rw [k2 s hs]
    exact q _ _ ((e2.trans e3).trans e4) (.b _)
theorem ed_revT {σ : L2.St} {H : Hp} {te : TE} {ds : List WV.T} (h : ED te σ H (.tuple ds)) : ED (tRevT K te) σ H (.tuple ds.reverse) := fun H1 e Q q =>
  h H1 e _ fun v H2 e2 hv => by
    obtain ⟨a, xs, rfl, g1, g2⟩ := hv.tup_inv
    refine ⟨a, xs, rfl, .inl (.inl g1), fun p hp => q _ _ (e2.trans (Ex.new hp)) (.t upd_same ?_)⟩
    have : ∀ {xs : List V} {ds : List WV.T}, Tds H2 xs ds → Tds H2 xs.reverse ds.reverse := fun {xs ds} h => by
      induction xs generalizing ds with
      | nil => cases h; exact .nil
      | cons x xs ih =>
        cases h with
        | cons h1 h2 =>
          rw [List.reverse_cons, List.reverse_cons]
          exact (ih h2).append (.cons h1 .nil)
    exact (this g2).keep (.new hp)
theorem s_row0 {D : Ends} {i : Nat} {σ : L2.St} {H : Hp} {te : TE} {kvs : List (L2.Key × V)} (h : EKd te σ H kvs) (k : ∀ d0 l H1, Ex H H1 → H1 d0 = some (.dK kvs) → H1 l = some (.lst [V.ref d0]) → D.nx (σ.set i (some (.ref l))) H1) : tAsg (tLst (tCons te tNil)) (gName i) D σ H :=
  h H (Ex.refl H) _ fun d0 H1 hd0 e1 hd1 => ⟨Evl.sz_of (by simp), fun l hl => k d0 l _ (e1.trans (Ex.new hl)) (Ex.new hl _ _ hd1) upd_same⟩
theorem s_asgQ {D : Ends} {i : Nat} {σ : L2.St} {H : Hp} {te : TE} {G : Hp → V → Prop} (h : ∀ H1, Ex H H1 → ∀ Q : VK, (∀ v H2, Ex H1 H2 → G H2 v → Q v H2) → te σ H1 Q) (k : ∀ v H1, Ex H H1 → G H1 v → D.nx (σ.set i (some v)) H1) : tAsg te (gName i) D σ H := h H (Ex.refl H) _ k
/-- [d] + rows -/
theorem ld_cons {n m j : Nat} {σ : L2.St} {H : Hp} {te : TE} {v : V} {kvs : List (L2.Key × V)} {r r' : R2} (h : EKd te σ H kvs) (hg : ∀ p H2, H2 p = some (.dK kvs) → Good n H2 p) (hv : σ[j]? = some (some v)) (hl : LDs n m H v) (hm : m ≤ 2000) :
    ∀ H1, Ex H H1 → ∀ Q : VK, (∀ v H2, Ex H1 H2 → LDs n (m + 1) H2 v → Q v H2) → tOp (WV.rU r (WV.rU r' rCat)) (tLst (tCons te tNil)) (tVar j) σ H1 Q := fun H1 e Q q =>
  h H1 e _ fun p H2 hp e2 h2 => ⟨Evl.sz_of (by simp), fun l hll => ⟨v, hv, by
    have e3 : Ex H2 (upd H2 l (.lst [V.ref p])) := Ex.new hll
    obtain ⟨l0, ds, rfl, h1, h2', h3⟩ := hl.keep ((e.trans e2).trans e3)
    refine .inr (.inr ⟨l, l0, _, _, rfl, rfl, upd_same, h1, Evl.sz_of (by simp; omega), fun l' hl' => q _ _ ((e2.trans e3).trans (Ex.new hl')) ?_⟩)
    have e4 : Ex (upd H2 l (.lst [V.ref p])) (upd (upd H2 l (.lst [V.ref p])) l' (.lst ([V.ref p] ++ ds.map V.ref))) := Ex.new hl'
    refine ⟨l', p :: ds, rfl, upd_same, by simp [h2'], fun d hd => ?_⟩
    rcases List.mem_cons.mp hd with rfl | hd
    · exact hg _ _ (e4 _ _ (e3 _ _ h2))
    · obtain ⟨kvs, k1, k2⟩ := h3 d hd
      exact ⟨kvs, e4 _ _ k1, k2⟩⟩⟩
def SpLive : Sp := fun vs H Q _ => ∃ n k : Nat, ∃ bs as es, ∃ ws, Tds H vs [ledD n bs as es, W ws] ∧ Full n k as ∧ (∀ s, St n s → ∃ e ∈ es, e.1 = s) ∧ es.length ≤ 1000 ∧ (∀ a ∈ as, St n a.g) ∧ Wd k ws ∧ ws.length ≤ 1000 ∧ ∀ v H', Ex H H' → LDs n (ws.length + 1) H' v → Q v H'
theorem ok_live_rows (T : Txt K mg) : FnOk P w K mg base CX0 1 T.f_live_rows T.d_live_rows ["led", "word"] SpLive := by
  refine T.F_live_rows.ok sc_live_rows (fun vs H Q E ⟨_, _, _, _, _, _, h, _⟩ => h.length) (fun cdv A outer s H vs Q E hr h => ?_)
  obtain ⟨n, k, bs, as, es, ws, hds, F, hes, hez, hga, hw, hz, q⟩ := h
  have hu := hr.units
  have hu1 : (A.deeper (envOfC "live_rows" (defScope s_live_rows) s.heap.objs.size T.f_live_rows cdv)).units + 1 < cLine := by omega
  refine ⟨_, (pss_cons (ps_asg (pe_lst (pa_cons (pe_callTy (call_dictP rfl) (by rfl) T.m_dict (by decide +kernel) (pa_cons (pe_lcD s H (own := [("state", 3), ("out", 4)]) rfl sc_live_rows.nd (pi_seq (pe_ix ix_seq (pv 0) pe_int (fun _ _ => rfl))) (blkOk_by (own := [("state", 3), ("out", 4)]) (N := nm_live_rows) (sc := defScope s_live_rows) (by decide +kernel)) (fun _ _ _ _ _ => (pg_tup rfl (pgs_cons (pg_name (i := 3) sc_live_rows.nd rfl (by first | exact .inl rfl | exact .inr rfl)) (pgs_cons (pg_name (i := 4) sc_live_rows.nd rfl (by first | exact .inl rfl | exact .inr rfl)) pgs_nil)))) (fun _ _ _ _ _ => pts_nil) (fun _ _ _ _ _ => (pe_tup (pa_cons (pv 3) (pa_cons pe_bl pa_nil))))) pa_nil)) pa_nil)) (pg_name (i := 2) sc_live_rows.nd rfl (by first | exact .inl rfl | exact .inr rfl)))
      (Evl.pss_cut (ps_for PassesOwn.never rfl (pi_seq (pe_revT (pv 1))) (pg_name (i := 5) sc_live_rows.nd rfl (by first | exact .inl rfl | exact .inr rfl))
        (pss_cons (ps_setLcD s H (i := 6) (own := [("arc", 7)]) rfl sc_live_rows.nd rfl rfl (sw_true rfl rfl rfl (by decide +kernel)) (pi_seq (pe_ix ix_seq (pv 0) pe_int (fun _ _ => rfl))) (blkOk_by (own := [("arc", 7)]) (N := nm_live_rows) (sc := defScope s_live_rows) (by decide +kernel)) (fun _ _ _ _ _ => (pg_name (i := 7) sc_live_rows.nd rfl (by first | exact .inl rfl | exact .inr rfl))) (fun _ _ _ _ _ => pts_one (PW.pt (pw_and (pt_cmpR (op_eqD hu) (pe_ix ix_seq (pv 7) pe_int (fun _ _ => rfl)) (pv 5) (by rfl)) (pw_and1 (pt_cmpR (op_inDk hu1) (pe_ix ix_seq (pv 7) pe_int (fun _ _ => rfl)) (pe_ix ix_seq (pv 2) pe_int (fun _ _ => rfl)) (by rfl)))))) (fun _ _ _ _ _ => (pe_ix ix_seq (pv 7) pe_int (fun _ _ => rfl))))
      (pss_one (ps_asg (pe_op op_addU (pe_lst (pa_cons (pe_callTy (call_dictP rfl) (by rfl) T.m_dict (by decide +kernel) (pa_cons (pe_lcD s H (own := [("state", 3)]) rfl sc_live_rows.nd (pi_seq (pv 6)) (blkOk_by (own := [("state", 3)]) (N := nm_live_rows) (sc := defScope s_live_rows) (by decide +kernel)) (fun _ _ _ _ _ => (pg_name (i := 3) sc_live_rows.nd rfl (by first | exact .inl rfl | exact .inr rfl))) (fun _ _ _ _ _ => pts_nil) (fun _ _ _ _ _ => (pe_tup (pa_cons (pv 3) (pa_cons pe_bl pa_nil))))) pa_nil)) pa_nil)) (pv 2)) (pg_name (i := 2) sc_live_rows.nd rfl (by first | exact .inl rfl | exact .inr rfl))))))
      (pss_one (ps_ret (pv 2))))), ?_⟩
  cases hds with
  | cons h0 r =>
    cases r with
    | cons h1 r =>
      cases r
      rename_i x0 x1
      refine s_row0 (ek_dict (L := es.map fun e => e.1) (em_new (el_is (el_lcT (ds := es.map endD) (fun _ => true) (fun i => pI (es.getD i (0, [])).1) (ed_ix (ed_var rfl h0) ed_int (atI_nat (j := 3) rfl)) (by rw [List.length_map]; omega) (fun i v d H1 e1 hd hv Q2 q2 => ?_)) ?_))) (fun d0 l H1 e2 hd1 hl1 => ?_)
      · obtain ⟨_, rfl⟩ := map_get (0, []) hd
        exact g_two hv fun a b ha hb => q2 _ rfl eb_yes fun _ => ed_tup (ea_cons (ed_var rfl ha) (ea_cons ed_bl ea_nil)) (by simp)
      · rw [List.length_map, List.map_map]
        exact gd_map es (0, []) fun e => pI e.1
      have hl0 : LDs n (0 + 1) H1 (.ref l) := by
        refine ⟨l, [d0], rfl, hl1, rfl, fun d hd => ?_⟩
        rcases List.mem_cons.mp hd with rfl | hd
        · refine good_of hd1 fun s hs => ?_
          obtain ⟨e, he, rfl⟩ := hes s hs
          exact List.mem_map.mpr ⟨e, he, rfl⟩
        · cases hd
      refine Evl.q_cut (M := fun σ' H' => ∃ v z5 z6, σ' = [some x0, some x1, some v, none, none, z5, z6, none] ∧ Ex H H' ∧ LDs n (ws.length + 1) H' v) ?_ ?_
      · refine s_forT (ds := (ws.map PyData.int).reverse) (ed_revT (ed_var rfl (h1.keep (.ex e2)))) (fun H2 i σ' H' => ∃ v z5 z6, σ' = [some x0, some x1, some v, none, none, z5, z6, none] ∧ Ex H2 H' ∧ Ex H H' ∧ LDs n (i + 1) H' v) (fun H2 e3 => ⟨_, _, _, rfl, Ex.refl _, e2.trans e3, hl0.keep e3⟩) (fun H2 i σ' H' ⟨_, _, _, _, e, _⟩ => .ex e) ?_ ?_
        · rintro H2 i v d σ' H' e3 hd ⟨vf, z5, z6, rfl, e4, e5, hlf⟩ hv
          have hi : i < ws.length := by
            have := (List.getElem?_eq_some_iff.mp hd).1
            simpa using this
          have hmem := List.mem_of_getElem? hd
          rw [List.mem_reverse] at hmem
          obtain ⟨x, hx, rfl⟩ := List.mem_map.mp hmem
          obtain ⟨p1, p2⟩ := hw x hx
          have k0 := h0.keep (.ex e5)
          refine s_asgM (ds := ((as.filter fun a => decide (a.l = x)).map fun a => a.s).map .int) (em_new (el_is (el_lcT (ds := as.map arcD) (fun i => decide ((as.getD i ⟨0, 0, [], 0⟩).l = x)) (fun i => .int (as.getD i ⟨0, 0, [], 0⟩).s) (ed_ix (ed_var rfl k0) ed_int (atI_nat (j := 2) rfl)) (by rw [List.length_map]; exact F.sz) (fun i' v' d' H6 e6 hd' hv' Q2 q2 => ?_)) ?_)) (fun vn H6 e6 hn => ?_)
          · obtain ⟨hx', rfl⟩ := map_get ⟨0, 0, [], 0⟩ hd'
            have hg := hga _ (List.mem_of_getElem? hx')
            generalize as.getD i' ⟨0, 0, [], 0⟩ = a at q2 hv' hg
            refine q2 _ rfl (eb_is (eb_and (b := true) (eb_test (ed_eqI (ed_ix (ed_var rfl hv') ed_int (atI_nat (j := 1) rfl)) (ed_var rfl (hv.keep (.ex e6))))) fun _ => eb_test (ed_inRow (n := n) (m := i + 1) (i := 0) (ed_ix (ed_var rfl hv') ed_int (atI_nat (j := 3) rfl)) hg (fun H7 e7 Q q => ⟨vf, rfl, q _ _ (Ex.refl _) (hlf.keep (e6.trans e7))⟩) ed_int (by omega))) (by simp)) fun _ => ed_ix (ed_var rfl hv') ed_int (atI0 _ _)
          · rw [List.length_map, List.map_map]
            exact gd_of as ⟨0, 0, [], 0⟩ (fun a => decide (a.l = x)) (fun a => .int a.s)
          · refine s_asgQ (ld_cons (ek_dict (L := (as.filter fun a => decide (a.l = x)).map fun a => a.s) (em_new (el_is (el_lcM (ds := ((as.filter fun a => decide (a.l = x)).map fun a => a.s).map .int) (fun _ => true) (fun i => pI (((as.filter fun a => decide (a.l = x)).map fun a => a.s).getD i 0)) (em_var rfl hn) (by
              rw [List.length_map, List.length_map]
              exact Nat.le_trans (List.length_filter_le _ _) F.sz) (fun i v d H1 e1 hd hv Q2 q2 => by
              obtain ⟨_, rfl⟩ := map_get 0 hd
              exact q2 _ rfl eb_yes fun _ => ed_tup (ea_cons (ed_var rfl hv) (ea_cons ed_bl ea_nil)) (by simp))) (by
                rw [List.length_map]
                exact gd_map _ 0 pI)))) (fun p H2 h => good_of h fun s hs => ?_) rfl (hlf.keep e6) (by omega)) fun v' H7 e7 hl7 => ?_
            · obtain ⟨a, ha, _⟩ := F.arc s x hs.1 hs.2 p1 p2
              have h1 := List.mem_of_find?_eq_some ha
              have h2 := List.find?_some ha
              have h3 : [a.s, a.l] = [s, x] := of_decide_eq_true h2
              simp only [List.cons.injEq, and_true] at h3
              exact List.mem_map.mpr ⟨a, List.mem_filter.mpr ⟨h1, decide_eq_true h3.2⟩, h3.1⟩
            · exact ⟨v', _, _, rfl, (e4.trans e6).trans e7, (e5.trans e6).trans e7, hl7⟩
        · rintro H2 σ' H' e3 ⟨vf, z5, z6, rfl, e4, e5, hlf⟩
          rw [List.length_reverse, List.length_map] at hlf
          exact ⟨vf, z5, z6, rfl, e5, hlf⟩
      · rintro σ' H' ⟨vf, z5, z6, rfl, e5, hlf⟩
        exact ⟨vf, rfl, q vf H' e5 hlf⟩
end K23
set_option maxRecDepth 100000
set_option maxHeartbeats 4000000
namespace K23
open PySem PySem.Spec PyProof.Rows L2 WV
open Evl (Ex Ev)
variable {P : Program} {w : World} {K : PySem.W.Frag} {mg : Str → Option Value} {base : Heap}
/-- one state, one word -/
def WS (H : Hp) (v : V) (p : List Int × Int) : Prop := ∃ h d, v = .ref h ∧ H h = some (.dK [(Sum.inl p.2, .ref d)]) ∧ H d = some (.dT [(kI p.1, .bl true)])
theorem WS.keep {H H' : Hp} {v : V} {p : List Int × Int} (e : Ex H H') (h : WS H v p) : WS H' v p := by
  obtain ⟨h, d, rfl, h1, h2⟩ := h
  exact ⟨h, d, rfl, e _ _ h1, e _ _ h2⟩
theorem e_disp0 {σ : L2.St} {H : Hp} {Q : VK} (q : ∀ p H2, H p = none → Ex H H2 → H2 p = some (.dT [(kI [], .bl true)]) → Q (.ref p) H2) : tDispT1 (tTup tNil) (tC (.bl true)) σ H Q := fun p hp =>
  ⟨Evl.sz_of (by simp), fun b hb => by
    have ne : p ≠ b := fun z => by
      rw [← z, upd_same] at hb
      cases hb
    have e1 : Ex H (upd (upd H p (.dT [])) b (.tup [])) := (Ex.new hp).trans (Ex.new hb)
    exact ⟨by rw [upd_ne ne]; exact upd_same, b, [], rfl, upd_same, q p _ hp (Ex.mut e1 hp) upd_same⟩⟩
/-- dict([(state, {(): True}) for state in begins if ..]) -/
theorem s_here {D : Ends} {σ : L2.St} {H : Hp} {tl : TE} {tt : TT} {i j : Nat} {b : Int} {vs : List Nat} (h : ED tl σ H (W [b])) (ht : ∀ H1, Ex H H1 → EB tt ((wipe σ vs).set j (some (.int b))) H1 true) (hw : ∀ x, wipe ((wipe σ vs).set j (some x)) vs = wipe σ vs)
    (hj : ((wipe σ vs).set j (some (.int b)))[j]? = some (some (.int b))) (k : ∀ v H1, Ex H H1 → WS H1 v ([], b) → D.nx (σ.set i (some v)) H1) :
    tAsg (tCB (rDictK K) (tCons (tLc (iSeq K tl) (gName j) tt (tTup (tCons (tVar j) (tCons (tDispT1 (tTup tNil) (tC (.bl true))) tNil))) vs) tNil)) (gName i) D σ H :=
  h H (Ex.refl H) _ fun v H1 e1 hv => by
    obtain ⟨a, xs, rfl, g1, g2⟩ := hv.tup_inv
    have hxs : xs = [.int b] := tds_ints (ns := [b]) g2
    subst hxs
    refine ⟨a, rfl, .inr ⟨⟨_, .inl (.inl g1)⟩, fun Dl hD => ?_⟩⟩
    exact lc_it (walk_tup (K := K) (a := a) (xs := [.int b])) (g := gName j) (tt := tt) (vs := vs) (σ := σ) (H1 := H1) (D := Dl) (fun i H' => Ex H1 H' ∧ (i = 0 → H' Dl = some (.lst [])) ∧ (i = 1 → ∃ t dd, H' Dl = some (.lst [.ref t]) ∧ H' t = some (.tup [.int b, .ref dd]) ∧ H' dd = some (.dT [(kI [], .bl true)])))
      ⟨Ex.new hD, fun _ => upd_same, fun z => absurd z (by decide)⟩ (fun i H' _ p => .inl (.inl (p.1 a _ g1))) (fun i x H2 H3 hi p y => by
        obtain ⟨rfl, hx⟩ := y
        have hi0 : i = 0 := by simpa using hi
        subst hi0
        cases hx
        refine ⟨hw _, ht H3 (e1.trans p.1) H3 (Ex.refl _) _ fun H4 e4 => ?_⟩
        rw [if_pos rfl]
        refine ⟨_, hj, e_disp0 fun dd H5 hdd e5 h5 => ⟨Evl.sz_of (by simp), fun t ht' => ?_⟩⟩
        have e6 : Ex H5 (upd H5 t (.tup [.int b, .ref dd])) := Ex.new ht'
        have hDl : (upd H5 t (.tup [.int b, .ref dd])) Dl = some (.lst []) := e6 _ _ (e5 _ _ (e4 _ _ (p.2.1 rfl)))
        have net : t ≠ Dl := fun z => by
          rw [z, upd_same] at hDl
          cases hDl
        have hDl5 : H5 Dl = some (.lst []) := e5 _ _ (e4 _ _ (p.2.1 rfl))
        have ned : dd ≠ Dl := fun z => by
          rw [z, hDl5] at h5
          cases h5
        refine ⟨[], hDl, by show 0 < sizeLine; decide, Ex.mut (((p.1.trans e4).trans e5).trans e6) hD, fun z => absurd z (by decide), fun _ => ⟨t, dd, upd_same, by rw [upd_ne net]; exact upd_same, by rw [upd_ne ned]; exact e6 _ _ h5⟩⟩) (fun H' p => by
        obtain ⟨t, dd, q1, q2, q3⟩ := p.2.2 rfl
        refine ⟨Dl, [t], [(Sum.inl b, .ref dd)], rfl, .inl (.inl q1), .cons (.inl (.inl q2)) .nil, fun h hh => k _ _ ((e1.trans p.1).trans (Ex.new hh)) ⟨h, dd, rfl, upd_same, Ex.new hh _ _ q3⟩⟩)
theorem g_four {σ : L2.St} {H : Hp} {v : V} {d1 d2 d3 d4 : WV.T} {i1 i2 i3 i4 : Nat} {Q : L2.St → Hp → Prop} (h : Td H v (.tuple [d1, d2, d3, d4])) (k : ∀ v1 v2 v3 v4, Td H v1 d1 → Td H v2 d2 → Td H v3 d3 → Td H v4 d4 → Q ((((σ.set i1 (some v1)).set i2 (some v2)).set i3 (some v3)).set i4 (some v4)) H) : gTup K 4 (gCons (gName i1) (gCons (gName i2) (gCons (gName i3) (gCons (gName i4) gNil)))) v σ H Q := by
  obtain ⟨a, vs, rfl, g1, g2⟩ := h.tup_inv
  cases g2 with
  | cons x1 r1 =>
    cases r1 with
    | cons x2 r2 =>
      cases r2 with
      | cons x3 r3 =>
        cases r3 with
        | cons x4 r4 =>
          cases r4
          exact ⟨a, _, rfl, .inl (.inl g1), rfl, _, _, rfl, _, _, rfl, _, _, rfl, _, _, rfl, rfl, k _ _ _ _ x1 x2 x3 x4⟩
theorem key_unique {as : List Arc} (h : (as.map fun a => [a.s, a.l]).Nodup) {i j : Nat} {a b : Arc} (hi : as[i]? = some a) (hj : as[j]? = some b) (e : [a.s, a.l] = [b.s, b.l]) : i = j := by
  have hlt : i < (as.map fun a => [a.s, a.l]).length := by
    rw [List.length_map]
    exact (List.getElem?_eq_some_iff.mp hi).1
  refine (List.getElem?_inj hlt h).mp ?_
  rw [List.getElem?_map, List.getElem?_map, hi, hj]
  simpa using e
/-- x in {s: ..} -/
theorem ed_in1 {σ : L2.St} {H : Hp} {ta : TE} {j : Nat} {h : Addr} {x s : Int} {y : V} (ha : ED ta σ H (.int x)) (hv : σ[j]? = some (some (.ref h))) (hh : H h = some (.dK [(Sum.inl s, y)])) : ED (tOp rInDk ta (tVar j)) σ H (.bool (decide (x = s))) := fun H1 e Q q =>
  ha H1 e _ fun v H2 e2 hx => ⟨_, hv, by
    have := hx.int_inv
    subst this
    refine ⟨h, _, rfl, DGet.k (k := Sum.inl x) (e2 _ _ (e _ _ hh)), ?_⟩
    have : (valV [((Sum.inl s : L2.Key), y)] (Sum.inl x)).isSome = decide (x = s) := by
      by_cases hxs : x = s
      · subst hxs
        simp [valV]
      · have : (Sum.inl s : L2.Key) ≠ Sum.inl x := fun z => hxs (by cases z; rfl)
        simp [valV, this, hxs]
    rw [this]
    exact q _ _ e2 (.b _)⟩
theorem s_newK {D : Ends} {i : Nat} {σ : L2.St} {H : Hp} (k : ∀ p H1, H p = none → H1 = upd H p (.dK []) → D.nx (σ.set i (some (.ref p))) H1) : tAsg tDNewK (gName i) D σ H := fun p hp => k p _ hp rfl
theorem s_asgV {D : Ends} {i j : Nat} {σ : L2.St} {H : Hp} {v : V} (h : σ[j]? = some (some v)) (k : D.nx (σ.set i (some v)) H) : tAsg (tVar j) (gName i) D σ H := ⟨v, h, k⟩
/-- known = later.get(goal, {}) -/
theorem s_getNew {D : Ends} {i jd jk : Nat} {σ : L2.St} {H : Hp} {lt : Addr} {g : Int} (hd : σ[jd]? = some (some (.ref lt))) (hg : σ[jk]? = some (some (.int g))) (hl : H lt = some (.dK [])) (k : ∀ kd H1, H kd = none → H1 = upd H kd (.dT []) → D.nx (σ.set i (some (.ref kd))) H1) : tAsg (tDGet2 (tVar jd) (tVar jk) tDNewT) (gName i) D σ H :=
  ⟨_, hd, lt, rfl, .inl ⟨[], .inl hl⟩, _, hg, fun kd hkd => ⟨none, DGet.k (k := Sum.inl g) (kvs := []) (H := upd H kd (.dT [])) (a := lt) (by
    rw [upd_ne (fun z => by rw [← z, hl] at hkd; cases hkd)]
    exact hl), k kd _ hkd rfl⟩⟩
/-- known.update([(word, True)]) -/
theorem s_upd1 {D : Ends} {j : Nat} {σ : L2.St} {H : Hp} {te : TE} {kd : Addr} {w : List Int} (hd : σ[j]? = some (some (.ref kd))) (hk : H kd = some (.dT [])) (h : EL te σ H [pT w]) (k : ∀ H1, Ex H H1 → D.nx σ (upd H1 kd (.dT [(kI w, .bl true)]))) : tDrop (tBM K "dict" (rUpdT K) (tVar j) (tCons te tNil)) D σ H :=
  ⟨_, hd, .inr (.inr (.inl ⟨rfl, .inr ⟨_, hk⟩⟩)), h H (Ex.refl H) _ fun p vs H2 hp e2 h1 h2 => by
    obtain ⟨ps, rfl, hpt, hlen⟩ := td_PT (L := [w]) h2
    exact ⟨kd, p, [], ps, _, rfl, rfl, e2 _ _ hk, .inl (.inl h1), hpt, by rw [hlen]; simp, k H2 e2⟩⟩
/-- later[goal] = known -/
theorem s_put1 {D : Ends} {jd jk jv : Nat} {σ : L2.St} {H : Hp} {lt : Addr} {g : Int} {v : V} (hd : σ[jd]? = some (some (.ref lt))) (hg : σ[jk]? = some (some (.int g))) (hv : σ[jv]? = some (some v)) (hl : H lt = some (.dK [])) (k : D.nx σ (upd H lt (.dK [(Sum.inl g, v)]))) : sDPut (tVar jd) (tVar jk) (tVar jv) D σ H :=
  ⟨_, hv, _, hd, _, hg, lt, _, rfl, DPut.k (k := Sum.inl g) hl (by show 0 < sizeLine; decide), k⟩
def SpWritten : Sp := fun vs H Q _ => ∃ n k : Nat, ∃ bs as es, ∃ ws, ∃ b : Int, Tds H vs [ledD n bs as es, W ws, W [b]] ∧ Full n k as ∧ (as.map fun a => [a.s, a.l]).Nodup ∧ (∀ s, St n s → ∃ e ∈ es, e.1 = s) ∧ es.length ≤ 1000 ∧ (∀ a ∈ as, St n a.g) ∧ St n b ∧ Wd k ws ∧ ws.length ≤ 1000 ∧ ∀ v H', Ex H H' → WS H' v (go as b ws) → Q v H'
theorem ok_written_behind (T : Txt K mg) : FnOk P w K mg base CX0 2 T.f_written_behind T.d_written_behind ["led", "word", "begins"] SpWritten := by
  have G_live_rows := ok_live_rows (P := P) (w := w) (base := base) T
  refine T.F_written_behind.ok sc_written_behind (fun vs H Q E ⟨_, _, _, _, _, _, _, h, _⟩ => h.length) (fun cdv A outer s H vs Q E hr h => ?_)
  obtain ⟨n, k, bs, as, es, ws, b, hds, F, hnd, hes, hez, hga, hb, hw, hz, q⟩ := h
  have hu := hr.units
  have hu1 : (A.deeper (envOfC "written_behind" (defScope s_written_behind) s.heap.objs.size T.f_written_behind cdv)).units + 1 < cLine := by omega
  refine ⟨_, (pss_cons (ps_asg (pe_call G_live_rows (hr.mono (by decide)) (by rfl) T.g_live_rows T.F_live_rows.kp T.b_live_rows .nil pass0 (pa_cons (pv 0) (pa_cons (pv 1) pa_nil))) (pg_name (i := 3) sc_written_behind.nd rfl (by first | exact .inl rfl | exact .inr rfl)))
      (pss_cons (ps_asg (pe_callTy (call_dictP rfl) (by rfl) T.m_dict (by decide +kernel) (pa_cons (pe_lcD s H (own := [("state", 5)]) rfl sc_written_behind.nd (pi_seq (pv 2)) (blkOk_by (own := [("state", 5)]) (N := nm_written_behind) (sc := defScope s_written_behind) (by decide +kernel)) (fun _ _ _ _ _ => (pg_name (i := 5) sc_written_behind.nd rfl (by first | exact .inl rfl | exact .inr rfl))) (fun _ _ _ _ _ => pts_one (pt_cmpR (op_inDk hu1) (pv 5) (pe_ix ix_seq (pv 3) pe_int (fun _ _ => rfl)) (by rfl))) (fun _ _ _ _ _ => (pe_tup (pa_cons (pv 5) (pa_cons (pe_dispT1 hu (pe_tup pa_nil) pe_bl) pa_nil))))) pa_nil)) (pg_name (i := 4) sc_written_behind.nd rfl (by first | exact .inl rfl | exact .inr rfl)))
      (Evl.pss_cut (ps_for PassesOwn.never rfl (pi_enumU (by rfl) T.m_enumerate (pa_cons (pv 1) pa_nil)) (pg_tup rfl (pgs_cons (pg_name (i := 6) sc_written_behind.nd rfl (by first | exact .inl rfl | exact .inr rfl)) (pgs_cons (pg_name (i := 7) sc_written_behind.nd rfl (by first | exact .inl rfl | exact .inr rfl)) pgs_nil)))
        (pss_cons (ps_asg pe_dnewK (pg_name (i := 8) sc_written_behind.nd rfl (by first | exact .inl rfl | exact .inr rfl)))
      (Evl.pss_cut (ps_for PassesOwn.never rfl (pi_seq (pe_ix ix_seq (pv 0) pe_int (fun _ _ => rfl))) (pg_tup rfl (pgs_cons (pg_name (i := 5) sc_written_behind.nd rfl (by first | exact .inl rfl | exact .inr rfl)) (pgs_cons (pg_name (i := 9) sc_written_behind.nd rfl (by first | exact .inl rfl | exact .inr rfl)) (pgs_cons (pg_name (i := 10) sc_written_behind.nd rfl (by first | exact .inl rfl | exact .inr rfl)) (pgs_cons (pg_name (i := 11) sc_written_behind.nd rfl (by first | exact .inl rfl | exact .inr rfl)) pgs_nil)))))
        (pss_one (ps_if (PW.pt (pw_and (pt_cmpR (op_eqD hu) (pv 9) (pv 7) (by rfl)) (pw_and (pt_cmpR (op_inDk hu1) (pv 5) (pv 4) (by rfl)) (pw_and1 (pt_cmpR (op_inDk hu1) (pv 11) (pe_ix ix_seq (pv 3) (pe_op op_addU (pv 6) pe_int) (fun _ _ => rfl)) (by rfl))))))
        (pss_cons (ps_asg (pe_dget2 hu1 (pv 8) (pv 11) pe_dnewT ⟨rfl, rfl, rfl, rfl⟩) (pg_name (i := 12) sc_written_behind.nd rfl (by first | exact .inl rfl | exact .inr rfl)))
      (pss_cons (ps_expr (pe_bm PySem.F.plainAttrs_dict PySem.F.slot_dict_update PySem.F.type_dict_update (mt_updT rfl hu) (pv 12) (pa_cons (pe_lock (pe_lcD s H (own := [("written", 13)]) rfl sc_written_behind.nd (pi_keys (pe_dget hu1 (pv 4) (pv 5) (fun _ _ => rfl))) (blkOk_by (own := [("written", 13)]) (N := nm_written_behind) (sc := defScope s_written_behind) (by decide +kernel)) (fun _ _ _ _ _ => (pg_name (i := 13) sc_written_behind.nd rfl (by first | exact .inl rfl | exact .inr rfl))) (fun _ _ _ _ _ => pts_nil) (fun _ _ _ _ _ => (pe_tup (pa_cons (pe_op op_addU (pv 13) (pv 10)) (pa_cons pe_bl pa_nil)))))) pa_nil)))
      (pss_one (ps_dput hu1 (pv 8) (pv 11) (pv 12) rfl))))
        pss_nil)))
      (pss_cons (ps_if (pt_val (pe_callB (cr_any rfl) (by rfl) T.m_any (by decide +kernel) (pa_cons (pe_lock (pe_lcD s H (own := [("written", 13)]) rfl sc_written_behind.nd (pi_values (pv 8)) (blkOk_by (own := [("written", 13)]) (N := nm_written_behind) (sc := defScope s_written_behind) (by decide +kernel)) (fun _ _ _ _ _ => (pg_name (i := 13) sc_written_behind.nd rfl (by first | exact .inl rfl | exact .inr rfl))) (fun _ _ _ _ _ => pts_nil) (fun _ _ _ _ _ => (pe_cmpR op_gt (pe_callB call_lenU (by rfl) T.m_len (by decide +kernel) (pa_cons (pv 13) pa_nil)) (pe_glob (v := .int 500) (by rfl) T.c_MAX_LISTED ⟨_, rfl⟩) (by rfl))))) pa_nil)))
        (pss_one ps_never)
        pss_nil)
      (pss_one (ps_asg (pv 8) (pg_name (i := 4) sc_written_behind.nd rfl (by first | exact .inl rfl | exact .inr rfl))))))))
      (pss_one (ps_ret (pv 4)))))), ?_⟩
  cases hds with
  | cons h0 r =>
    cases r with
    | cons h1 r =>
      cases r with
      | cons h2 r =>
        cases r
        rename_i x0 x1 x2
        refine s_callG (g := gName 3) (ea_cons (ed_var rfl h0) (ea_cons (ed_var rfl h1) ea_nil)) fun vs1 H1 e1 hvs => ?_
        refine ⟨n, k, bs, as, es, ws, by simpa using hvs, F, hes, hez, hga, hw, hz, fun vl H2 e2 hl => ?_⟩
        have e12 := e1.trans e2
        refine s_here (b := b) (ed_var rfl (h2.keep (.ex e12))) (fun H3 e3 => eb_test (ed_inRow (n := n) (m := ws.length + 1) (i := 0) (ed_var rfl (.i b)) hb (fun H4 e4 Q q => ⟨vl, rfl, q _ _ (Ex.refl _) (hl.keep (e3.trans e4))⟩) ed_int (by omega))) (fun x => rfl) rfl fun vh H3 e3 hwh => ?_
        have e13 := e12.trans e3
        refine Evl.q_cut (M := fun σ' H' => ∃ vh z5 z6 z7 z8 z9 z10 z11 z12, σ' = [some x0, some x1, some x2, some vl, some vh, z5, z6, z7, z8, z9, z10, z11, z12, none] ∧ Ex H H' ∧ WS H' vh (go as b ws)) ?_ ?_
        · refine s_forE (ds := ws.map .int) (ed_var rfl (h1.keep (.ex e13))) (fun H4 i σ' H' => ∃ vh z5 z6 z7 z8 z9 z10 z11 z12, σ' = [some x0, some x1, some x2, some vl, some vh, z5, z6, z7, z8, z9, z10, z11, z12, none] ∧ Ex H4 H' ∧ WS H' vh (go as b (ws.take i))) (fun H4 e4 => ⟨_, _, _, _, _, _, _, _, _, rfl, Ex.refl _, hwh.keep e4⟩) (fun H4 i σ' H' ⟨_, _, _, _, _, _, _, _, _, _, e, _⟩ => e) ?_ ?_
          · rintro H4 i v d σ' H' H5 e4 hd ⟨vh, z5, z6, z7, z8, z9, z10, z11, z12, rfl, e5, hws⟩ e6 hv
            obtain ⟨x, hx, rfl⟩ := W_get hd
            obtain ⟨p1, p2⟩ := hw x (List.mem_of_getElem? hx)
            have hi : i < ws.length := (List.getElem?_eq_some_iff.mp hx).1
            obtain ⟨g1, g2⟩ := go_ok F hb (ws := ws.take i) (fun l hl => hw l (List.mem_of_mem_take hl))
            obtain ⟨a, ha, _, _⟩ := F.arc _ x g1.1 g1.2 p1 p2
            have ha' := ha
            rw [List.length_take] at g2
            have hgo' : go as b (ws.take (i + 1)) = ((go as b (ws.take i)).1 ++ a.out, a.g) := by
              rw [take_snoc hx, go_snoc ha]
            generalize go as b (ws.take i) = G at hws g1 g2 ha ha' hgo'
            have hfs := List.find?_some ha
            have hkey : [a.s, a.l] = [G.2, x] := of_decide_eq_true hfs
            obtain ⟨j0, hj0⟩ := List.getElem?_of_mem (List.mem_of_find?_eq_some ha)
            have hao := F.out a (List.mem_of_getElem? hj0)
            obtain ⟨h, dd, rfl, q1, q2⟩ := hws.keep e6
            refine g_two hv fun vp vx hvp hvx => ?_
            have hvx' := hvx.int_inv
            have hvp' := hvp.int_inv
            subst hvx' hvp'
            refine s_newK fun lt H6 hlt e7 => ?_
            subst e7
            have eb : Ex H3 H5 := (e4.trans e5).trans e6
            have k0 := h0.keep (.ex (e13.trans eb))
            have kl := hl.keep (e3.trans eb)
            refine Evl.q_cut (M := fun σ' H' => ∃ z5 z9 z10 z11 z12 kd, σ' = [some x0, some x1, some x2, some vl, some (.ref h), z5, some (.int (i : Nat)), some (.int x), some (.ref lt), z9, z10, z11, z12, none] ∧ Ex H5 H' ∧ H' lt = some (.dK [(Sum.inl a.g, .ref kd)]) ∧ H' kd = some (.dT [(kI (G.1 ++ a.out), .bl true)])) ?_ ?_
            · refine s_forT (ds := as.map arcD) (ed_ix (ed_var rfl (k0.keep (.new hlt))) ed_int (atI_nat (j := 2) rfl)) (fun H7 j σ' H' => ∃ z5 z9 z10 z11 z12, σ' = [some x0, some x1, some x2, some vl, some (.ref h), z5, some (.int (i : Nat)), some (.int x), some (.ref lt), z9, z10, z11, z12, none] ∧ Ex H5 H' ∧ Kp H7 H' ∧ ((j ≤ j0 ∧ H' lt = some (.dK [])) ∨ (j0 < j ∧ ∃ kd, H' lt = some (.dK [(Sum.inl a.g, .ref kd)]) ∧ H' kd = some (.dT [(kI (G.1 ++ a.out), .bl true)])))) (fun H7 e7 => ⟨_, _, _, _, _, rfl, (Ex.new hlt).trans e7, Kp.refl _, .inl ⟨by omega, e7 _ _ upd_same⟩⟩) (fun H7 j σ' H' ⟨_, _, _, _, _, _, _, e, _⟩ => e) ?_ ?_
              · rintro H7 j v d σ' H' e7 hd' ⟨z5, z9, z10, z11, z12, rfl, e8, kp, hcase⟩ hv'
                obtain ⟨hx', rfl⟩ := map_get ⟨0, 0, [], 0⟩ hd'
                have hmem := List.mem_of_getElem? hx'
                generalize as.getD j ⟨0, 0, [], 0⟩ = a2 at hv' hx' hmem
                refine g_four hv' fun v5 v9 v10 v11 hv5 hv9 hv10 hv11 => ?_
                have hh := e8 _ _ q1
                refine s_if (b := decide ([a2.s, a2.l] = [G.2, x])) (eb_is (eb_and (a := decide (a2.l = x)) (b := decide (a2.s = G.2) && true) (eb_test (ed_eqI (ed_var rfl hv9) (ed_var rfl (.i x)))) fun _ => eb_and (a := decide (a2.s = G.2)) (b := true) (eb_test (ed_in1 (j := 4) (ed_var rfl hv5) rfl hh)) fun _ => eb_test (ed_inRow (n := n) (m := ws.length + 1) (i := i + 1) (ed_var rfl hv11) (hga _ hmem) (fun H9 e9 Q q => ⟨vl, rfl, q _ _ (Ex.refl _) (kl.keep (e8.trans e9))⟩) (ed_is (ed_addI (ed_var rfl (.i (i : Nat))) ed_int) rfl) (by omega))) ?_) (fun hc H9 e9 => ?_) (fun hc H9 e9 => ?_)
                · rw [Bool.and_true, Bool.eq_iff_iff]
                  simp [and_comm]
                · have hc := of_decide_eq_true hc
                  have hj : j = j0 := key_unique hnd hx' hj0 (hc.trans hkey.symm)
                  subst hj
                  rw [hx'] at hj0
                  cases hj0
                  rcases hcase with ⟨_, hlt0⟩ | ⟨hlt', _⟩
                  · have hlt9 := e9 _ _ hlt0
                    have hv10 := hv10.keep (.ex e9)
                    have hv11 := (hv11.keep (.ex e9)).int_inv
                    have hv5 := (hv5.keep (.ex e9)).int_inv
                    subst hv11 hv5
                    have hs : a.s = G.2 := by
                      simp only [List.cons.injEq] at hc
                      exact hc.1
                    refine s_getNew (jd := 8) (jk := 11) (g := a.g) rfl rfl hlt9 fun kd H10 hkd e10 => ?_
                    subst e10
                    have q1' := e9 _ _ hh
                    have q2' := e9 _ _ (e8 _ _ q2)
                    have q1'' : (upd H9 kd (.dT [])) h = some (.dK [(Sum.inl G.2, .ref dd)]) := Ex.new hkd _ _ q1'
                    have q2'' : (upd H9 kd (.dT [])) dd = some (.dT [(kI G.1, .bl true)]) := Ex.new hkd _ _ q2'
                    have hne : h ≠ dd := fun z => by
                      rw [z, q2''] at q1''
                      cases q1''
                    refine s_upd1 (w := G.1 ++ a.out) (j := 12) rfl upd_same (el_key1 (d := dd) (w := G.1) (r := pT (G.1 ++ a.out)) q2'' (fun H0 ox Q q => ⟨_, rfl, _, rfl, h, .ref dd, rfl, ?_, q _ (Ex.refl _)⟩) (fun x => rfl) (fun qq H11 hq ox => ?_)) fun H11 e11 => ?_
                    · have := DGet.k (k := Sum.inl a.s) (ox _ _ hne q1'')
                      rw [hs] at this ⊢
                      have hval : valV [((Sum.inl G.2 : L2.Key), V.ref dd)] (Sum.inl G.2) = some (.ref dd) := by simp [valV]
                      rw [hval] at this
                      exact this
                    · have hv10'' := ox.td q2'' (fun xs z => by cases z) (hv10.keep (.new hkd))
                      exact ed_tup (ea_cons (ed_catW (ed_var rfl hq) (ed_var rfl hv10'') (by omega)) (ea_cons ed_bl ea_nil)) (by simp)
                    · have hltf : H11 lt = some (.dK []) := e11 _ _ (Ex.new hkd _ _ hlt9)
                      have hkdf : H11 kd = some (.dT []) := e11 _ _ upd_same
                      have hkl : kd ≠ lt := fun z => by
                        rw [z, hltf] at hkdf
                        cases hkdf
                      refine s_put1 (jd := 8) (jk := 11) (jv := 12) (lt := lt) (g := a.g) rfl rfl rfl (by rw [upd_ne hkl.symm]; exact hltf) ?_
                      have eall : Ex H5 H11 := ((e8.trans e9).trans (Ex.new hkd)).trans e11
                      have hkd5 : H5 kd = none := Evl.fresh_back (e8.trans e9) hkd
                      refine ⟨_, _, _, _, _, rfl, Ex.mut (Ex.mut eall hkd5) hlt, ?_, .inr ⟨by omega, kd, upd_same, by rw [upd_ne hkl]; exact upd_same⟩⟩
                      refine (kp.trans (.ex ((e9.trans (Ex.new hkd)).trans e11))).trans fun c xs hc => ?_
                      have c1 : c ≠ kd := fun z => by
                        rw [z, hkdf] at hc
                        cases hc
                      have c2 : c ≠ lt := fun z => by
                        rw [z, hltf] at hc
                        cases hc
                      rw [upd_ne c2, upd_ne c1]
                      exact hc
                  · omega
                · have hc := of_decide_eq_false hc
                  refine ⟨_, _, _, _, _, rfl, e8.trans e9, kp.trans (.ex e9), ?_⟩
                  have hjne : j ≠ j0 := fun z => by
                    subst z
                    rw [hx'] at hj0
                    cases hj0
                    exact hc hkey
                  rcases hcase with ⟨c1, c2⟩ | ⟨c1, kd, c2, c3⟩
                  · exact .inl ⟨by omega, e9 _ _ c2⟩
                  · exact .inr ⟨by omega, kd, e9 _ _ c2, e9 _ _ c3⟩
              · rintro H7 σ' H' e7 ⟨z5, z9, z10, z11, z12, rfl, e8, kp, hcase⟩
                rw [List.length_map] at hcase
                have := (List.getElem?_eq_some_iff.mp hj0).1
                rcases hcase with ⟨c1, _⟩ | ⟨_, kd, c2, c3⟩
                · omega
                · exact ⟨_, _, _, _, _, kd, rfl, e8, c2, c3⟩
            · rintro σ' H' ⟨z5, z9, z10, z11, z12, kd, rfl, e8, c2, c3⟩
              have hne : kd ≠ lt := fun z => by
                rw [z, c2] at c3
                cases c3
              refine s_ifF (eb_is (eb_B (ed_any (bs := [false]) (el_val1 (d := lt) (r := .bool false) c2 (fun H0 ox Q q => ⟨_, rfl, q⟩) (fun x => rfl) (fun H9 ox => ed_is (ed_gtI (x := 1) (fun H10 e10 Q q => ⟨_, rfl, .inr (.inr ⟨kd, _, rfl, e10 _ _ (ox _ _ hne c3), q _ _ (Ex.refl _) (.i _)⟩)⟩) ed_int) (congrArg PyData.bool (by decide)))))) rfl) fun H9 e9 => ?_
              refine s_asgV (j := 8) rfl ?_
              refine ⟨_, _, _, _, _, _, _, _, _, rfl, ((e5.trans e6).trans e8).trans e9, ?_⟩
              rw [hgo']
              exact ⟨lt, kd, rfl, e9 _ _ c2, e9 _ _ c3⟩
          · rintro H4 σ' H' e4 ⟨vh, z5, z6, z7, z8, z9, z10, z11, z12, rfl, e5, hws⟩
            rw [List.length_map, List.take_length] at hws
            exact ⟨vh, z5, z6, z7, z8, z9, z10, z11, z12, rfl, (e13.trans e4).trans e5, hws⟩
        · rintro σ' H' ⟨vh, z5, z6, z7, z8, z9, z10, z11, z12, rfl, e5, hws⟩
          exact ⟨vh, rfl, q vh H' e5 hws⟩
end K23
set_option maxRecDepth 100000
set_option maxHeartbeats 4000000
namespace K23
open PySem PySem.Spec PyProof.Rows L2 WV
open Evl (Ex Ev)
variable {P : Program} {w : World} {K : PySem.W.Frag} {mg : Str → Option Value} {base : Heap}
def SpOrder : Sp := fun vs H Q _ => ∃ d ws vt, vs = [.ref d] ∧ H d = some (.dT [(kI ws, vt)]) ∧ ∀ l H', H l = none → Ex H H' → LA H' (.ref l) [W ws] → Q (.ref l) H'
theorem ok_in_length_order (T : Txt K mg) : FnOk P w K mg base CX0 1 T.f_in_length_order T.d_in_length_order ["words"] SpOrder := by
  refine T.F_in_length_order.ok sc_in_length_order (fun vs H Q E ⟨_, _, _, h, _⟩ => by rw [h]; rfl) (fun cdv A outer s H vs Q E hr h => ?_)
  obtain ⟨d, ws, vt, rfl, hd, q⟩ := h
  have hu := hr.units
  refine ⟨_, (pss_one (ps_ret (pe_lcD s H (own := [("length", 2), ("word", 1)]) rfl sc_in_length_order.nd (pi_seq (pe_callB cr_sorted1 (by rfl) T.m_sorted (by decide +kernel) (pa_cons (pe_lock (pe_lcD s H (own := [("word", 1)]) rfl sc_in_length_order.nd (pi_keys (pv 0)) (blkOk_by (own := [("word", 1)]) (N := nm_in_length_order) (sc := defScope s_in_length_order) (by decide +kernel)) (fun _ _ _ _ _ => (pg_name (i := 1) sc_in_length_order.nd rfl (by first | exact .inl rfl | exact .inr rfl))) (fun _ _ _ _ _ => pts_nil) (fun _ _ _ _ _ => (pe_tup (pa_cons (pe_callB call_len_seq (by rfl) T.m_len (by decide +kernel) (pa_cons (pv 1) pa_nil)) (pa_cons (pv 1) pa_nil)))))) pa_nil))) (blkOk_by (own := [("length", 2), ("word", 1)]) (N := nm_in_length_order) (sc := defScope s_in_length_order) (by decide +kernel)) (fun _ _ _ _ _ => (pg_tup rfl (pgs_cons (pg_name (i := 2) sc_in_length_order.nd rfl (by first | exact .inl rfl | exact .inr rfl)) (pgs_cons (pg_name (i := 1) sc_in_length_order.nd rfl (by first | exact .inl rfl | exact .inr rfl)) pgs_nil)))) (fun _ _ _ _ _ => pts_nil) (fun _ _ _ _ _ => (pv 1))))), ?_⟩
  have key : ∀ {σ : L2.St} {D : Ends} {te : TE} {ds : List WV.T}, EL te σ H ds → (∀ l H', H l = none → Ex H H' → LA H' (.ref l) ds → D.rt (.ref l) H') → tRet te D σ H := fun h k => h H (Ex.refl H) _ fun p vs H2 hp e2 h1 h2 => k p H2 hp e2 ⟨p, vs, rfl, h1, h2⟩
  refine key (el_is (el_lcM (ds := [.tuple [.int (ws.length : Nat), W ws]]) (fun _ => true) (fun _ => W ws) (em_new (el_sorted1 (el_key1 (w := ws) (r := .tuple [.int (ws.length : Nat), W ws]) hd (fun H0 ox Q q => ⟨_, rfl, q _ (Ex.refl _)⟩) (fun x => rfl) (fun a H2 ha ox => ed_tup (ea_cons (ed_lenW (ed_var rfl ha)) (ea_cons (ed_var rfl ha) ea_nil)) (by simp))))) (by simp) (fun i v d H1 e1 hd hv Q2 q2 => ?_)) rfl) q
  have hi : i = 0 := by
    have := (List.getElem?_eq_some_iff.mp hd).1
    simpa using this
  subst hi
  cases hd
  exact g_two hv fun a b ha hb => q2 _ rfl eb_yes fun _ => ed_var rfl hb
def fAns : List T → T → Prop := fun ds r => ∃ n k : Nat, ∃ b : Int, ∃ as es, ∃ ws, ds = [ledD n [b] as es, W ws] ∧ Full n k as ∧ (as.map fun a => [a.s, a.l]).Nodup ∧ (∀ s, St n s → ∃ e ∈ es, e.1 = s) ∧ (es.map fun e => e.1).Nodup ∧ (∀ e ∈ es, e.2 = []) ∧ es.length ≤ 1000 ∧ (∀ a ∈ as, St n a.g) ∧ St n b ∧ Wd k ws ∧ ws.length ≤ 1000 ∧ r = .tuple [W (go as b ws).1]
theorem end_unique {es : List (Int × List Int)} (h : (es.map fun e => e.1).Nodup) {i j : Nat} {a b : Int × List Int} (hi : es[i]? = some a) (hj : es[j]? = some b) (e : a.1 = b.1) : i = j := by
  have hlt : i < (es.map fun e => e.1).length := by
    rw [List.length_map]
    exact (List.getElem?_eq_some_iff.mp hi).1
  refine (List.getElem?_inj hlt h).mp ?_
  rw [List.getElem?_map, List.getElem?_map, hi, hj]
  simpa using e
/-- found.update([]) -/
theorem s_upd0 {D : Ends} {j : Nat} {σ : L2.St} {H : Hp} {te : TE} {kd : Addr} {acc : List (List L2.Key × V)} (hd : σ[j]? = some (some (.ref kd))) (hk : H kd = some (.dT acc)) (hz : acc.length ≤ 1000) (h : EL te σ H []) (k : ∀ H1, Ex H H1 → D.nx σ (upd H1 kd (.dT acc))) : tDrop (tBM K "dict" (rUpdT K) (tVar j) (tCons te tNil)) D σ H :=
  ⟨_, hd, .inr (.inr (.inl ⟨rfl, .inr ⟨_, hk⟩⟩)), h H (Ex.refl H) _ fun p vs H2 hp e2 h1 h2 => by
    cases h2
    exact ⟨kd, p, acc, [], [], rfl, rfl, e2 _ _ hk, .inl (.inl h1), .nil, by simp; omega, k H2 e2⟩⟩
theorem el_orL {σ : L2.St} {H : Hp} {t t' : TE} {ds : List WV.T} (h : EL t σ H ds) : EL (fun σ H Q => t σ H Q ∨ t' σ H Q) σ H ds := fun H1 e Q q => .inl (h H1 e Q q)
theorem el_orR {σ : L2.St} {H : Hp} {t t' : TE} {ds : List WV.T} (h : EL t' σ H ds) : EL (fun σ H Q => t σ H Q ∨ t' σ H Q) σ H ds := fun H1 e Q q => .inr (h H1 e Q q)
/-- here.get(state, {}) -/
theorem get_there {σ : L2.St} {H0 : Hp} {jh js : Nat} {h : Addr} {s : Int} {d : Addr} (h1 : σ[jh]? = some (some (.ref h))) (h2 : σ[js]? = some (some (.int s))) (hh : H0 h = some (.dK [(Sum.inl s, .ref d)])) {Q : VK} (q : ∀ H1, Ex H0 H1 → Q (.ref d) H1) : tDGet2 (tVar jh) (tVar js) tDNewT σ H0 Q :=
  ⟨_, h1, h, rfl, .inl ⟨_, .inl hh⟩, _, h2, fun kd hkd => ⟨_, DGet.k (k := Sum.inl s) (kvs := [(Sum.inl s, .ref d)]) (H := upd H0 kd (.dT [])) (a := h) (Ex.new hkd _ _ hh), by
    have hval : valV [((Sum.inl s : L2.Key), V.ref d)] (Sum.inl s) = some (.ref d) := by simp [valV]
    rw [hval]
    exact q _ (Ex.new hkd)⟩⟩
theorem get_not {σ : L2.St} {H0 : Hp} {jh js : Nat} {h : Addr} {s s' : Int} {y : V} (h1 : σ[jh]? = some (some (.ref h))) (h2 : σ[js]? = some (some (.int s'))) (hh : H0 h = some (.dK [(Sum.inl s, y)])) (ne : s' ≠ s) {Q : VK} (q : ∀ p H1, H0 p = none → Ex H0 H1 → H1 p = some (.dT []) → Q (.ref p) H1) : tDGet2 (tVar jh) (tVar js) tDNewT σ H0 Q :=
  ⟨_, h1, h, rfl, .inl ⟨_, .inl hh⟩, _, h2, fun kd hkd => ⟨_, DGet.k (k := Sum.inl s') (kvs := [(Sum.inl s, y)]) (H := upd H0 kd (.dT [])) (a := h) (Ex.new hkd _ _ hh), by
    have hval : valV [((Sum.inl s : L2.Key), y)] (Sum.inl s') = none := by
      have : (Sum.inl s : L2.Key) ≠ Sum.inl s' := fun z => ne (by cases z; rfl)
      simp [valV, this]
    rw [hval]
    exact q kd _ hkd (Ex.new hkd) upd_same⟩⟩
theorem em_order {σ : L2.St} {H : Hp} {E : XK} {j : Nat} {d : Addr} {ws : List Int} {vt : V} (h : σ[j]? = some (some (.ref d))) (hd : H d = some (.dT [(kI ws, vt)])) : EM (tCall SpOrder [] E (tCons (tVar j) tNil)) σ H [W ws] := fun H1 e Q q =>
  ⟨_, h, d, ws, vt, rfl, e _ _ hd, fun l H2 hl e2 hla => q _ _ e2 hla⟩
theorem s_parCT {D : Ends} {i j : Nat} {σ : L2.St} {H : Hp} {sp : Sp} {E : XK} {ta : TA} {ds : List WV.T} (h : EA ta σ H ds) (hs : ∀ vs H1, Ex H H1 → Tds H1 vs ds → sp (vs ++ []) H1 (fun v H2 => (tCons tDNewT tNil) σ H2 fun vs H3 => ∃ a c, v :: vs = [a, c] ∧ D.nx ((σ.set i (some a)).set j (some c)) H3) E) : tPar i j (tCons (tCall sp [] E ta) (tCons tDNewT tNil)) D σ H := h H (Ex.refl H) _ hs
theorem ok_answers_of (T : Txt K mg) : FnOk P w K mg base CX0 3 T.f_answers_of T.d_answers_of ["led", "word"] (SpT fAns) := by
  have G_written_behind := ok_written_behind (P := P) (w := w) (base := base) T
  have G_in_length_order := ok_in_length_order (P := P) (w := w) (base := base) T
  refine T.F_answers_of.ok sc_answers_of (fun vs H Q E h => spT_len (n := 2) (fun ds d ⟨_, _, _, _, _, _, e, _⟩ => by rw [e]; rfl) h) (fun cdv A outer s H vs Q E hr h => ?_)
  obtain ⟨ds, r, hds, ⟨n, k, b, as, es, ws, rfl, F, hnd, hes, hend, hout, hez, hga, hb, hw, hz, rfl⟩, q⟩ := h
  have hu := hr.units
  have hu1 : (A.deeper (envOfC "answers_of" (defScope s_answers_of) s.heap.objs.size T.f_answers_of cdv)).units + 1 < cLine := by omega
  refine ⟨_, (pss_cons (ps_par (i := 2) (j := 3) (by rfl) sc_answers_of.nd rfl rfl (by decide) rfl rfl (pa_cons (pe_call G_written_behind (hr.mono (by decide)) (by rfl) T.g_written_behind T.F_written_behind.kp T.b_written_behind .nil pass0 (pa_cons (pv 0) (pa_cons (pv 1) (pa_cons (pe_ix ix_seq (pv 0) pe_int (fun _ _ => rfl)) pa_nil)))) (pa_cons pe_dnewT pa_nil)) (by rfl))
      (Evl.pss_cut (ps_for PassesOwn.never rfl (pi_seq (pe_ix ix_seq (pv 0) pe_int (fun _ _ => rfl))) (pg_tup rfl (pgs_cons (pg_name (i := 4) sc_answers_of.nd rfl (by first | exact .inl rfl | exact .inr rfl)) (pgs_cons (pg_name (i := 5) sc_answers_of.nd rfl (by first | exact .inl rfl | exact .inr rfl)) pgs_nil)))
        (pss_one (ps_expr (pe_bm PySem.F.plainAttrs_dict PySem.F.slot_dict_update PySem.F.type_dict_update (mt_updT rfl hu) (pv 3) (pa_cons (pe_orE (pe_lock (pe_lcD s H (own := [("written", 6)]) rfl sc_answers_of.nd (pi_keys (pe_dget2 hu1 (pv 2) (pv 4) pe_dnewT ⟨rfl, rfl, rfl, rfl⟩)) (blkOk_by (own := [("written", 6)]) (N := nm_answers_of) (sc := defScope s_answers_of) (by decide +kernel)) (fun _ _ _ _ _ => (pg_name (i := 6) sc_answers_of.nd rfl (by first | exact .inl rfl | exact .inr rfl))) (fun _ _ _ _ _ => pts_nil) (fun _ _ _ _ _ => (pe_tup (pa_cons (pe_op op_addU (pv 6) (pv 5)) (pa_cons pe_bl pa_nil)))))) (pe_lcD s H (own := [("written", 6)]) rfl sc_answers_of.nd (pi_keysF (pe_dget2 hu1 (pv 2) (pv 4) pe_dnewT ⟨rfl, rfl, rfl, rfl⟩)) (blkOk_by (own := [("written", 6)]) (N := nm_answers_of) (sc := defScope s_answers_of) (by decide +kernel)) (fun _ _ _ _ _ => (pg_name (i := 6) sc_answers_of.nd rfl (by first | exact .inl rfl | exact .inr rfl))) (fun _ _ _ _ _ => pts_nil) (fun _ _ _ _ _ => (pe_tup (pa_cons (pe_op op_addU (pv 6) (pv 5)) (pa_cons pe_bl pa_nil)))))) pa_nil)))))
      (pss_cons (ps_if (pt_cmpR op_gt (pe_callB call_lenU (by rfl) T.m_len (by decide +kernel) (pa_cons (pv 3) pa_nil)) (pe_glob (v := .int 500) (by rfl) T.c_MAX_LISTED ⟨_, rfl⟩) (by rfl))
        (pss_one ps_never)
        pss_nil)
      (pss_one (ps_ret (pe_callTy call_tuple_of (by rfl) T.m_tuple (by decide +kernel) (pa_cons (pe_call G_in_length_order (hr.mono (by decide)) (by rfl) T.g_in_length_order T.F_in_length_order.kp T.b_in_length_order .nil pass0 (pa_cons (pv 3) pa_nil)) pa_nil))))))), ?_⟩
  cases hds with
  | cons h0 r =>
    cases r with
    | cons h1 r =>
      cases r
      rename_i x0 x1
      have hgo := go_ok F hb hw
      refine s_parCT (ea_cons (ed_var rfl h0) (ea_cons (ed_var rfl h1) (ea_cons (ed_ix (ed_var rfl h0) ed_int (atI_nat (j := 1) rfl)) ea_nil))) fun vs1 H1 e1 hvs => ?_
      refine ⟨n, k, [b], as, es, ws, b, by simpa using hvs, F, hnd, hes, hez, hga, hb, hw, hz, fun vh H2 e2 hws => fun ft hft => ⟨vh, .ref ft, rfl, ?_⟩⟩
      have hst : St n (go as b ws).2 := hgo.1
      have hlen := hgo.2
      generalize go as b ws = G at hws q hst hlen
      obtain ⟨h, dd, rfl, q1, q2⟩ := hws
      obtain ⟨e0, he0, hes0⟩ := hes _ hst
      obtain ⟨j0, hj0⟩ := List.getElem?_of_mem he0
      have k0 := h0.keep (.ex (e1.trans e2))
      refine Evl.q_cut (M := fun σ' H' => ∃ z4 z5, σ' = [some x0, some x1, some (.ref h), some (.ref ft), z4, z5, none] ∧ Ex H H' ∧ H' ft = some (.dT [(kI G.1, .bl true)])) ?_ ?_
      · refine s_forT (ds := es.map endD) (ed_ix (ed_var rfl (k0.keep (.new hft))) ed_int (atI_nat (j := 3) rfl)) (fun H7 j σ' H' => ∃ z4 z5, σ' = [some x0, some x1, some (.ref h), some (.ref ft), z4, z5, none] ∧ Ex H2 H' ∧ Kp H7 H' ∧ ((j ≤ j0 ∧ H' ft = some (.dT [])) ∨ (j0 < j ∧ H' ft = some (.dT [(kI G.1, .bl true)])))) (fun H7 e7 => ⟨_, _, rfl, (Ex.new hft).trans e7, Kp.refl _, .inl ⟨by omega, e7 _ _ upd_same⟩⟩) (fun H7 j σ' H' ⟨_, _, _, _, e, _⟩ => e) ?_ ?_
        · rintro H7 j v d σ' H' e7 hd' ⟨z4, z5, rfl, e8, kp, hcase⟩ hv'
          obtain ⟨hx', rfl⟩ := map_get (0, []) hd'
          have hmem := List.mem_of_getElem? hx'
          generalize es.getD j (0, []) = a2 at hv' hx' hmem
          have hout2 := hout _ hmem
          refine g_two hv' fun v4 v5 hv4 hv5 => ?_
          have hv4' := hv4.int_inv
          subst hv4'
          rw [hout2] at hv5
          have hh := e8 _ _ q1
          have hdd := e8 _ _ q2
          have hne : h ≠ dd := fun z => by
            rw [z, hdd] at hh
            cases hh
          have hkp : ∀ {H9 : Hp} {u : HO}, Ex H' H9 → (∀ xs, H9 ft ≠ some (.tup xs)) → Kp H' (upd H9 ft u) := fun {H9 u} e9 hn c xs hc => by
            have h9 := e9 _ _ hc
            have : c ≠ ft := fun z => by
              rw [z] at h9
              exact hn xs h9
            rw [upd_ne this]
            exact h9
          by_cases hs : a2.1 = G.2
          · have hj : j = j0 := end_unique hend hx' hj0 (hs.trans hes0.symm)
            rcases hcase with ⟨_, hf⟩ | ⟨hlt, _⟩
            · refine s_upd1 (w := G.1 ++ []) (j := 3) rfl hf (el_orL (el_key1 (d := dd) (w := G.1) (r := pT (G.1 ++ [])) hdd (fun H0 ox Q q => get_there (jh := 2) (js := 4) (h := h) rfl rfl (by rw [hs]; exact ox _ _ hne hh) q) (fun x => rfl) (fun qq H11 hq ox => ?_))) fun H9 e9 => ?_
              · have hv5' := ox.td hdd (fun xs z => by cases z) hv5
                exact ed_tup (ea_cons (ed_catW (v := []) (ed_var rfl hq) (ed_var rfl hv5') (by simp; omega)) (ea_cons ed_bl ea_nil)) (by simp)
              · rw [List.append_nil]
                have hf9 := e9 _ _ hf
                exact ⟨_, _, rfl, Ex.mut (e8.trans e9) hft, kp.trans (hkp e9 (fun xs z => by rw [hf9] at z; cases z)), .inr ⟨by omega, upd_same⟩⟩
            · omega
          · have hjne : j ≠ j0 := fun z => by
              subst z
              rw [hx'] at hj0
              cases hj0
              exact hs hes0
            obtain ⟨acc, hacc, hal, hcc⟩ : ∃ acc, H' ft = some (.dT acc) ∧ acc.length ≤ 1000 ∧ ((j + 1 ≤ j0 ∧ acc = []) ∨ (j0 < j + 1 ∧ acc = [(kI G.1, .bl true)])) := by
              rcases hcase with ⟨c1, c2⟩ | ⟨c1, c2⟩
              · exact ⟨_, c2, by simp, .inl ⟨by omega, rfl⟩⟩
              · exact ⟨_, c2, by simp, .inr ⟨by omega, rfl⟩⟩
            refine s_upd0 (j := 3) rfl hacc hal (el_orR (el_key0 (fun H0 e0 Q q => get_not (jh := 2) (js := 4) (h := h) (s := G.2) rfl rfl (e0 _ _ hh) hs q))) fun H9 e9 => ?_
            have hf9 := e9 _ _ hacc
            refine ⟨_, _, rfl, Ex.mut (e8.trans e9) hft, kp.trans (hkp e9 (fun xs z => by rw [hf9] at z; cases z)), ?_⟩
            rcases hcc with ⟨c1, c2⟩ | ⟨c1, c2⟩
            · exact .inl ⟨c1, by rw [upd_same, c2]⟩
            · exact .inr ⟨c1, by rw [upd_same, c2]⟩
        · rintro H7 σ' H' e7 ⟨z4, z5, rfl, e8, kp, hcase⟩
          rw [List.length_map] at hcase
          have := (List.getElem?_eq_some_iff.mp hj0).1
          rcases hcase with ⟨c1, _⟩ | ⟨_, c2⟩
          · omega
          · exact ⟨_, _, rfl, (e1.trans e2).trans e8, c2⟩
      · rintro σ' H' ⟨z4, z5, rfl, e8, hf⟩
        refine s_ifF (eb_is (eb_test (ed_gtI (x := 1) (fun H10 e10 Q q => ⟨_, rfl, .inr (.inr ⟨ft, _, rfl, e10 _ _ hf, q _ _ (Ex.refl _) (.i _)⟩)⟩) ed_int)) (by decide)) (fun H9 e9 => ?_)
        refine s_ret (d := .tuple [W G.1]) (ed_tupM (em_order (j := 3) rfl (e9 _ _ hf))) fun v H10 e10 hv => q v H10 ((e8.trans e9).trans e10) hv
end K23
set_option maxRecDepth 100000
set_option maxHeartbeats 4000000
namespace K23
open PySem PySem.Spec PyProof.Rows L2 WV
open Evl (Ex Ev)
variable {P : Program} {w : World} {K : PySem.W.Frag} {mg : Str → Option Value} {base : Heap}
/-- the bag of draws -/
def Bg (H : Hp) (b c : Addr) : Prop := ∃ cells : List Int, ∃ d x : Int, H b = some (.lst [.ref c, .int d, .int x]) ∧ H c = some (.lst (cells.map V.int)) ∧ b ≠ c ∧ (∀ z ∈ cells, 0 ≤ z) ∧ cells.length ≤ 1000 ∧ 0 ≤ d ∧ 0 ≤ x ∧ x < 2147483647
/-- all but the bag stays -/
def Bx (b c : Addr) (H H' : Hp) : Prop := ∀ a o, a ≠ b → a ≠ c → H a = some o → H' a = some o
theorem Bx.refl (b c : Addr) (H : Hp) : Bx b c H H := fun _ _ _ _ h => h
theorem Bx.trans {b c : Addr} {H H1 H2 : Hp} (h : Bx b c H H1) (h' : Bx b c H1 H2) : Bx b c H H2 := fun a o n1 n2 e => h' a o n1 n2 (h a o n1 n2 e)
theorem Bx.ex {b c : Addr} {H H' : Hp} (h : Ex H H') : Bx b c H H' := fun a o _ _ e => h a o e
theorem Bg.keep {b c : Addr} {H H' : Hp} (h : Bg H b c) (e : Ex H H') : Bg H' b c := by
  obtain ⟨cells, d, x, h1, h2, h3⟩ := h
  exact ⟨cells, d, x, e _ _ h1, e _ _ h2, h3⟩
theorem Bg.kp {b c : Addr} {H H' : Hp} (h : Bg H b c) (e : Bx b c H H') : Kp H H' := fun a xs hx => by
  obtain ⟨cells, d, x, h1, h2, _⟩ := h
  exact e a _ (fun z => by rw [z, h1] at hx; cases hx) (fun z => by rw [z, h2] at hx; cases hx) hx
theorem ed_b1 {σ : L2.St} {H : Hp} {b c : Addr} {d x : Int} (hv : σ[0]? = some (some (.ref b))) (h : H b = some (.lst [.ref c, .int d, .int x])) : ED (tOp (rIx K) (tVar 0) (tC (.int 1))) σ H (.int d) := fun H1 e Q q => ⟨_, hv, .inl ⟨b, _, 1, .int d, rfl, rfl, .inl (.inl (e _ _ h)), atI_nat (j := 1) rfl, q _ _ (Ex.refl _) (.i _)⟩⟩
theorem ed_b2 {σ : L2.St} {H : Hp} {b c : Addr} {d x : Int} (hv : σ[0]? = some (some (.ref b))) (h : H b = some (.lst [.ref c, .int d, .int x])) : ED (tOp (rIx K) (tVar 0) (tC (.int 2))) σ H (.int x) := fun H1 e Q q => ⟨_, hv, .inl ⟨b, _, 2, .int x, rfl, rfl, .inl (.inl (e _ _ h)), atI_nat (j := 2) rfl, q _ _ (Ex.refl _) (.i _)⟩⟩
theorem tds_mk {H : Hp} : ∀ l : List Int, Tds H (l.map V.int) (l.map .int)
  | [] => .nil
  | x :: l => .cons (.i x) (tds_mk l)
theorem em_b0 {σ : L2.St} {H : Hp} {b c : Addr} {d x : Int} {cells : List Int} (hv : σ[0]? = some (some (.ref b))) (h : H b = some (.lst [.ref c, .int d, .int x])) (hc : H c = some (.lst (cells.map V.int))) : EM (tOp (rIx K) (tVar 0) (tC (.int 0))) σ H (cells.map .int) := fun H1 e Q q => ⟨_, hv, .inl ⟨b, _, 0, .ref c, rfl, rfl, .inl (.inl (e _ _ h)), atI0 _ _, q _ _ (Ex.refl _) ⟨c, _, rfl, e _ _ hc, tds_mk _⟩⟩⟩
/-- bag[1] = e, bag[2] = e -/
theorem s_set {D : Ends} {σ : L2.St} {H : Hp} {te : TE} {b c : Addr} {d x y : Int} (h : ED te σ H (.int y)) (hv : σ[0]? = some (some (.ref b))) (hb : H b = some (.lst [.ref c, .int d, .int x])) (k : ∀ H1, Ex H H1 → D.nx σ (upd H1 b (.lst [.ref c, .int y, .int x]))) : tAsg te (gSub (tVar 0) (tC (.int 1)) rSetL) D σ H :=
  h H (Ex.refl H) _ fun v H1 e1 hy => ⟨_, hv, b, _, 1, 1, rfl, rfl, e1 _ _ hb, rfl, by
    rw [hy.int_inv]
    exact k H1 e1⟩
theorem s_set2 {D : Ends} {σ : L2.St} {H : Hp} {te : TE} {b c : Addr} {d x y : Int} (h : ED te σ H (.int y)) (hv : σ[0]? = some (some (.ref b))) (hb : H b = some (.lst [.ref c, .int d, .int x])) (k : ∀ H1, Ex H H1 → D.nx σ (upd H1 b (.lst [.ref c, .int d, .int y]))) : tAsg te (gSub (tVar 0) (tC (.int 2)) rSetL) D σ H :=
  h H (Ex.refl H) _ fun v H1 e1 hy => ⟨_, hv, b, _, 2, 2, rfl, rfl, e1 _ _ hb, rfl, by
    rw [hy.int_inv]
    exact k H1 e1⟩
theorem s_pop {D : Ends} {σ : L2.St} {H : Hp} {i : Nat} {b c : Addr} {d x z : Int} {cells : List Int} (hv : σ[0]? = some (some (.ref b))) (hb : H b = some (.lst [.ref c, .int d, .int x])) (hc : H c = some (.lst ((cells ++ [z]).map V.int))) (k : D.nx (σ.set i (some (.int z))) (upd H c (.lst (cells.map V.int)))) : tAsg (tBM0 K "list" rPop (tOp (rIx K) (tVar 0) (tC (.int 0)))) (gName i) D σ H :=
  ⟨_, hv, .inl ⟨b, _, 0, .ref c, rfl, rfl, .inl (.inl hb), atI0 _ _, .inl ⟨rfl, _, .inl (.inl hc)⟩, c, _, .int z, rfl, rfl, hc, by simp, by
    have : ((cells ++ [z]).map V.int).dropLast = cells.map V.int := by simp
    rw [this]
    exact k⟩⟩
theorem bg_upd {H H1 : Hp} {b c : Addr} {u : HO} (h : Bx b c H H1) (a : Addr) (ha : a = b ∨ a = c) : Bx b c H (upd H1 a u) := fun z o n1 n2 e => by
  have hza : z ≠ a := fun q => by
    rcases ha with e | e
    · exact n1 (q.trans e)
    · exact n2 (q.trans e)
  rw [upd_ne hza]
  exact h z o n1 n2 e
theorem mod_in {x m : Int} (hm : 1 ≤ m) : 0 ≤ x.fmod m ∧ x.fmod m < m := by
  rw [Int.fmod_eq_emod_of_nonneg _ (by omega)]
  exact ⟨Int.emod_nonneg _ (by omega), Int.emod_lt_of_pos _ (by omega)⟩
def SpDraw : Sp := fun vs H Q _ => ∃ b c, ∃ m : Int, vs = [.ref b, .int m] ∧ 1 ≤ m ∧ m < 1000000 ∧ Bg H b c ∧ ∀ (r : Int) H', 0 ≤ r → r < m → Bx b c H H' → Bg H' b c → Q (.int r) H'
theorem ok_law_draw (T : Txt K mg) : FnOk P w K mg base CX0 1 T.f_law_draw T.d_law_draw ["bag", "below"] SpDraw := by
  refine T.F_law_draw.ok sc_law_draw (fun vs H Q E ⟨_, _, _, h, _⟩ => by rw [h]; rfl) (fun cdv A outer s H vs Q E hr h => ?_)
  obtain ⟨b, c, m, rfl, m1, m2, hbg, q⟩ := h
  have hu := hr.units
  refine ⟨_, (Evl.pss_cut (ps_if (PW.pt (pw_and (pt_cmpR (op_eqD hu) (pe_ix ix_seq (pv 0) pe_int (fun _ _ => rfl)) pe_int (by rfl)) (pw_and1 (pt_cmpR (op_neD hu) (pe_ix ix_seq (pv 0) pe_int (fun _ _ => rfl)) (pe_lst pa_nil) (by rfl)))))
        (pss_cons (ps_asg (pe_bm0 PySem.F.plainAttrs_list PySem.F.slot_list_pop PySem.F.type_list_pop mt_pop (pe_ix ix_seq (pv 0) pe_int (fun _ _ => rfl))) (pg_name (i := 2) sc_law_draw.nd rfl (by first | exact .inl rfl | exact .inr rfl)))
      (pss_one (ps_asg (pe_ifExp (pt_cmpR op_gt (pv 2) (pe_op op_pow pe_int pe_int) (by rfl)) (pv 2) pe_int) (pg_sub (pv 0) pe_int set_list))))
        pss_nil)
      (pss_cons (ps_if (pt_cmpR op_gt (pe_ix ix_seq (pv 0) pe_int (fun _ _ => rfl)) pe_int (by rfl))
        (pss_cons (ps_asg (pe_op op_modN (pe_callTy call_int1 (by rfl) T.m_int (by decide +kernel) (pa_cons (pe_ix ix_seq (pv 0) pe_int (fun _ _ => rfl)) pa_nil)) (pv 1)) (pg_name (i := 3) sc_law_draw.nd rfl (by first | exact .inl rfl | exact .inr rfl)))
      (pss_cons (ps_asg (pe_op op_fdivN (pe_callTy call_int1 (by rfl) T.m_int (by decide +kernel) (pa_cons (pe_ix ix_seq (pv 0) pe_int (fun _ _ => rfl)) pa_nil)) (pv 1)) (pg_sub (pv 0) pe_int set_list))
      (pss_one (ps_ret (pv 3)))))
        pss_nil)
      (pss_cons (ps_asg (pe_op op_modN (pe_callTy call_int1 (by rfl) T.m_int (by decide +kernel) (pa_cons (pe_op op_addU (pe_op op_mulU (pe_ix ix_seq (pv 0) pe_int (fun _ _ => rfl)) pe_int) pe_int) pa_nil)) pe_int) (pg_sub (pv 0) pe_int set_list))
      (pss_one (ps_ret (pe_op op_modN (pe_callTy call_int1 (by rfl) T.m_int (by decide +kernel) (pa_cons (pe_op op_fdivN (pe_op op_modN (pe_callTy call_int1 (by rfl) T.m_int (by decide +kernel) (pa_cons (pe_op op_mulU (pe_ix ix_seq (pv 0) pe_int (fun _ _ => rfl)) (pe_ix ix_seq (pv 0) pe_int (fun _ _ => rfl))) pa_nil)) pe_int) pe_int) pa_nil)) (pv 1))))))), ?_⟩
  obtain ⟨cells, d, x, hb, hc, hne, hpos, hlen, hd, hx0, hx1⟩ := hbg
  refine Evl.q_cut (M := fun σ' H' => ∃ z, σ' = [some (.ref b), some (.int m), z, none] ∧ Bx b c H H' ∧ Bg H' b c) ?_ ?_
  · have hsh : SeqAt.shaped (.list (cells.map PyData.int)) = true := (sh_map fun x => sh_int (n := 0)).ok
    refine s_if (eb_and (a := decide (d = 0)) (eb_test (ed_eqI (ed_b1 rfl hb) ed_int)) fun _ => eb_test (ed_neM (em_b0 rfl hb hc) em_nil hsh (sh_nilL (n := 0)).ok)) (fun hcnd H1 e1 => ?_) (fun hcnd H1 e1 => ?_)
    · have hcn : cells ≠ [] := by
        intro z
        rw [z, eqv_nilL] at hcnd
        simp at hcnd
      obtain ⟨init, z, rfl⟩ : ∃ init z, cells = init ++ [z] := ⟨cells.dropLast, cells.getLast hcn, (List.dropLast_concat_getLast hcn).symm⟩
      have hz : 0 ≤ z := hpos z (by simp)
      refine s_pop rfl (e1 _ _ hb) (e1 _ _ hc) ?_
      have hb1 : (upd H1 c (.lst (init.map V.int))) b = some (.lst [.ref c, .int d, .int x]) := by
        rw [upd_ne hne]
        exact e1 _ _ hb
      refine s_set (y := if z > 1000000000 then z else 0) (ed_if (eb_test (ed_gtI (ed_var rfl (.i z)) (ed_is (d2 := .int 1000000000) (ed_op ed_int ed_int (rd_I (C := CPow) ⟨by decide, by decide, by decide⟩ fun _ => .i _)) (congrArg PyData.int (by decide))))) (fun h => ed_is (ed_var rfl (.i z)) ?_) (fun h => ed_is ed_int ?_)) rfl hb1 (fun H2 e2 => ?_)
      · rw [if_pos (of_decide_eq_true h)]
      · rw [if_neg (of_decide_eq_false h)]
      · refine ⟨_, rfl, bg_upd ((bg_upd (.ex e1) c (.inr rfl)).trans (.ex e2)) b (.inl rfl), init, _, x, upd_same, ?_, hne, fun z hz => hpos z (by simp [hz]), by simp at hlen; omega, by split <;> omega, hx0, hx1⟩
        rw [upd_ne hne.symm]
        exact e2 _ _ upd_same
    · exact ⟨_, rfl, .ex e1, Bg.keep ⟨cells, d, x, hb, hc, hne, hpos, hlen, hd, hx0, hx1⟩ e1⟩
  · rintro σ' H' ⟨z, rfl, hbx, cells, d, x, hb, hc, hne, hpos, hlen, hd, hx0, hx1⟩
    refine s_if (eb_test (ed_gtI (ed_b1 rfl hb) ed_int)) (fun hcnd H1 e1 => ?_) (fun hcnd H1 e1 => ?_)
    · have hb1 := e1 _ _ hb
      refine s_asg (ed_modI (ed_int1 (ed_b1 rfl hb1)) (ed_var rfl (.i m)) (by omega)) fun vf H2 e2 hvf => ?_
      have hb2 := e2 _ _ hb1
      refine s_set (ed_fdivI (ed_int1 (ed_b1 rfl hb2)) (ed_var rfl (.i m)) ⟨by omega, by omega⟩) rfl hb2 fun H3 e3 => ?_
      have hvf' := hvf.int_inv
      subst hvf'
      have hin := mod_in (x := d) m1
      have hdiv : 0 ≤ d.fdiv m := by
        rw [Int.fdiv_eq_ediv_of_nonneg _ (by omega)]
        exact Int.ediv_nonneg hd (by omega)
      refine ⟨_, rfl, q _ _ hin.1 hin.2 (bg_upd (hbx.trans (.ex ((e1.trans e2).trans e3))) b (.inl rfl)) ⟨cells, _, x, upd_same, ?_, hne, hpos, hlen, hdiv, hx0, hx1⟩⟩
      rw [upd_ne hne.symm]
      exact e3 _ _ (e2 _ _ (e1 _ _ hc))
    · have hb1 := e1 _ _ hb
      refine s_set2 (ed_modI (ed_int1 (ed_addI (ed_mulI (ed_b2 rfl hb1) ed_int (.inr ⟨by decide, by decide⟩)) ed_int)) ed_int (by decide)) rfl hb1 fun H2 e2 => ?_
      have hin := mod_in (x := x * 48271 + 11) (m := 2147483647) (by decide)
      generalize (x * 48271 + 11).fmod 2147483647 = y at hin
      have hb2 : (upd H2 b (.lst [.ref c, .int d, .int y])) b = some (.lst [.ref c, .int d, .int y]) := upd_same
      refine s_ret (d := .int (Int.fmod (Int.fdiv (Int.fmod (y * y) 2147483629) 7) m)) (ed_modI (ed_int1 (ed_fdivI (ed_modI (ed_int1 (ed_mulI (ed_b2 rfl hb2) (ed_b2 rfl hb2) (.inl ⟨by omega, by omega⟩))) ed_int (by decide)) ed_int ⟨by decide, by decide⟩)) (ed_var rfl (.i m)) (by omega)) fun v H3 e3 hv => ?_
      have hv' := hv.int_inv
      subst hv'
      have hin2 := mod_in (x := Int.fdiv (Int.fmod (y * y) 2147483629) 7) m1
      refine q _ _ hin2.1 hin2.2 ((bg_upd (hbx.trans (.ex (e1.trans e2))) b (.inl rfl)).trans (.ex e3)) (Bg.keep ⟨cells, d, y, upd_same, ?_, hne, hpos, hlen, hd, hin.1, hin.2⟩ e3)
      rw [upd_ne hne.symm]
      exact e2 _ _ (e1 _ _ hc)
end K23
set_option maxRecDepth 100000
set_option maxHeartbeats 4000000
namespace K23
open PySem PySem.Spec PyProof.Rows L2 WV
open Evl (Ex Ev)
variable {P : Program} {w : World} {K : PySem.W.Frag} {mg : Str → Option Value} {base : Heap}
def SpBag (K : PySem.W.Frag) : Sp := fun vs H Q _ => ∃ l, ∃ ns : List Int, vs = [.ref l] ∧ SqL K H l (ns.map V.int) ∧ ns.length ≤ 1000 ∧ ∀ b c H', H b = none → H c = none → Ex H H' → Bg H' b c → Q (.ref b) H'
theorem ed_abs {σ : L2.St} {H : Hp} {ta : TE} {x : Int} (ha : ED ta σ H (.int x)) : ED (tCB (fun xs H Q => ∃ i, xs = [V.int i] ∧ Q (V.int (if i < 0 then -i else i)) H) (tCons ta tNil)) σ H (.int (if x < 0 then -x else x)) := fun H1 e Q q => ha H1 e _ fun v H2 e2 hv => ⟨x, by rw [hv.int_inv], q _ H2 e2 (.i _)⟩
theorem gd_mapW' (a : List Int) (g : Int → Int) : (gd a.length (fun _ => true) (fun i => .int (g (a.getD i 0)))) = (a.map g).map .int := by
  rw [List.map_map]
  exact gd_map a 0 fun x => .int (g x)
theorem ok_law_own_bag (T : Txt K mg) : FnOk P w K mg base CX0 1 T.f_law_own_bag T.d_law_own_bag ["script"] (SpBag K) := by
  refine T.F_law_own_bag.ok sc_law_own_bag (fun vs H Q E ⟨_, _, h, _⟩ => by rw [h]; rfl) (fun cdv A outer s H vs Q E hr h => ?_)
  obtain ⟨l, ns, rfl, hl, hz, q⟩ := h
  have hu := hr.units
  refine ⟨_, (pss_cons (ps_setLcD s H (i := 1) (own := [("cell", 2)]) rfl sc_law_own_bag.nd rfl rfl (sw_true rfl rfl rfl (by decide +kernel)) (pi_seq (pe_slice sl_seqU (pv 0) po_none (po_some pe_int))) (blkOk_by (own := [("cell", 2)]) (N := nm_law_own_bag) (sc := defScope s_law_own_bag) (by decide +kernel)) (fun _ _ _ _ _ => (pg_name (i := 2) sc_law_own_bag.nd rfl (by first | exact .inl rfl | exact .inr rfl))) (fun _ _ _ _ _ => pts_nil) (fun _ _ _ _ _ => (pe_callB call_abs (by rfl) T.m_abs (by decide +kernel) (pa_cons (pe_callTy call_int1 (by rfl) T.m_int (by decide +kernel) (pa_cons (pv 2) pa_nil)) pa_nil))))
      (pss_cons (ps_asg (pe_op op_addU pe_int (pe_callB call_len_seq (by rfl) T.m_len (by decide +kernel) (pa_cons (pv 1) pa_nil))) (pg_name (i := 3) sc_law_own_bag.nd rfl (by first | exact .inl rfl | exact .inr rfl)))
      (Evl.pss_cut (ps_for PassesOwn.never rfl (pi_seq (pv 1)) (pg_name (i := 2) sc_law_own_bag.nd rfl (by first | exact .inl rfl | exact .inr rfl))
        (pss_one (ps_asg (pe_op op_modN (pe_callTy call_int1 (by rfl) T.m_int (by decide +kernel) (pa_cons (pe_op op_addU (pe_op op_addU (pe_op op_mulU (pv 3) pe_int) (pe_op op_modN (pe_callTy call_int1 (by rfl) T.m_int (by decide +kernel) (pa_cons (pv 2) pa_nil)) pe_int)) pe_int) pa_nil)) pe_int) (pg_name (i := 3) sc_law_own_bag.nd rfl (by first | exact .inl rfl | exact .inr rfl)))))
      (pss_one (ps_ret (pe_lst (pa_cons (pe_listRev rfl (by rfl) T.m_list (by rfl) T.m_reversed (pe_callTy call_list_of (by rfl) T.m_list (by decide +kernel) (pa_cons (pv 1) pa_nil))) (pa_cons pe_int (pa_cons (pv 3) pa_nil))))))))), ?_⟩
  have hsl : EL (tSl (fun x lo hi H Q => rSlL K x lo hi H Q ∨ rSlA K x lo hi H Q) (tVar 0) tNoPart (tPart (tC (.int 63)))) (L2.start nm_law_own_bag [V.ref l]) H ((ns.take 63).map .int) := fun H1 e Q q =>
    ⟨_, rfl, 63, rfl, .inl ⟨l, _, rfl, Evl.ex_l e hl, fun p hp => q p _ _ hp (Ex.new hp) upd_same (by
      have : cutV (ns.map V.int) none (some 63) = (ns.take 63).map V.int := by
        unfold cutV
        rw [show HT.sIx (ns.map V.int).length 0 none = 0 from rfl, show HT.sIx (ns.map V.int).length (ns.map V.int).length (some (63 : Int)) = min 63 (ns.map V.int).length from HT.sIx_nat _ _ 63, List.drop_zero, Nat.sub_zero, List.map_take]
        rw [List.take_eq_take_iff]
        simp
      rw [this]
      exact tds_mk _)⟩⟩
  have hlen : (ns.take 63).length ≤ 63 := by rw [List.length_take]; omega
  generalize ns.take 63 = cs at hsl hlen
  refine s_asgM (ds := (cs.map fun i => if i < 0 then -i else i).map .int) (em_new (el_is (el_lcM (ds := cs.map .int) (fun _ => true) (fun i => .int (if cs.getD i 0 < 0 then -cs.getD i 0 else cs.getD i 0)) (em_new hsl) (by rw [List.length_map]; omega) (fun i v d H1 e1 hd hv Q2 q2 => ?_)) ?_)) (fun vc H1 e1 hvc => ?_)
  · obtain ⟨_, rfl⟩ := map_get 0 hd
    exact q2 _ rfl eb_yes fun _ => ed_abs (ed_int1 (ed_var rfl hv))
  · rw [List.length_map]
    exact gd_mapW' cs (fun i => if i < 0 then -i else i)
  · have hcp : ∀ z ∈ (cs.map fun i => if i < 0 then -i else i), (0 : Int) ≤ z := fun z hz => by
      obtain ⟨y, _, rfl⟩ := List.mem_map.mp hz
      split <;> omega
    have hcl : (cs.map fun i => if i < 0 then -i else i).length ≤ 63 := by rw [List.length_map]; exact hlen
    generalize (cs.map fun i => if i < 0 then -i else i) = cells at hvc hcp hcl
    refine s_asg (ed_addI ed_int (ed_lenM (em_var rfl hvc))) fun vm H2 e2 hvm => ?_
    refine Evl.q_cut (M := fun σ' H' => ∃ z, ∃ x : Int, σ' = [some (.ref l), some vc, z, some (.int x)] ∧ Ex H H' ∧ LA H' vc (cells.map .int) ∧ 0 ≤ x ∧ x < 2147483647) ?_ ?_
    · refine s_forM (ds := cells.map .int) (em_var rfl (hvc.keep e2)) (fun H3 i σ' H' => ∃ z, ∃ x : Int, σ' = [some (.ref l), some vc, z, some (.int x)] ∧ Ex H3 H' ∧ 0 ≤ x ∧ x < 2147483647) (fun H3 e3 => ⟨_, _, by rw [hvm.int_inv]; rfl, Ex.refl _, ?_, ?_⟩) (fun H3 i σ' H' ⟨_, _, _, e, _⟩ => e) ?_ ?_
      · rw [List.length_map]
        omega
      · rw [List.length_map]
        omega
      · rintro H3 i v d σ' H' e3 hd ⟨z, x, rfl, e4, x0, x1⟩ hv
        obtain ⟨_, rfl⟩ := map_get 0 hd
        refine s_asg (ed_modI (ed_int1 (ed_addI (ed_addI (ed_mulI (ed_var rfl (.i x)) ed_int (.inr ⟨by decide, by decide⟩)) (ed_modI (ed_int1 (ed_var rfl hv)) ed_int (by decide))) ed_int)) ed_int (by decide)) fun vx H4 e5 hvx => ?_
        have hin := mod_in (x := x * 48271 + (cells.getD i 0).fmod 2147483629 + 7) (m := 2147483647) (by decide)
        exact ⟨_, _, by rw [hvx.int_inv]; rfl, e4.trans e5, hin.1, hin.2⟩
      · rintro H3 σ' H' e3 ⟨z, x, rfl, e4, x0, x1⟩
        exact ⟨z, x, rfl, ((e1.trans e2).trans e3).trans e4, hvc.keep ((e2.trans e3).trans e4), x0, x1⟩
    · rintro σ' H' ⟨z, x, rfl, e, ⟨p, xs, rfl, hp, hxs⟩, x0, x1⟩
      have hxs' := tds_ints hxs
      subst hxs'
      refine ⟨_, rfl, p, _, rfl, .inl (.inl (.inl hp)), fun l2 hl2 => ⟨l2, _, rfl, .inl (.inl upd_same), fun c hc => ⟨_, rfl, Evl.sz_of (by simp), fun b hb => ?_⟩⟩⟩
      have ee : Ex H (upd (upd (upd H' l2 (.lst (cells.map V.int))) c (.lst (cells.map V.int).reverse)) b (.lst [.ref c, .int 0, .int x])) := ((e.trans (Ex.new hl2)).trans (Ex.new hc)).trans (Ex.new hb)
      have hbc : b ≠ c := fun zz => by
        rw [zz, upd_same] at hb
        cases hb
      refine q b c _ (Evl.fresh_back ((e.trans (Ex.new hl2)).trans (Ex.new hc)) hb) (Evl.fresh_back (e.trans (Ex.new hl2)) hc) ee ⟨cells.reverse, 0, x, upd_same, ?_, hbc, fun z hz => hcp z (by simpa using hz), by simp; omega, by decide, x0, x1⟩
      rw [upd_ne hbc.symm, upd_same, List.map_reverse]
def SpPick : Sp := fun vs H Q _ => ∃ b c t, ∃ xs : List Int, vs = [.ref b, .ref t] ∧ Bg H b c ∧ t ≠ b ∧ t ≠ c ∧ H t = some (.lst (xs.map V.int)) ∧ xs ≠ [] ∧ xs.length ≤ 1000 ∧ ∀ (r : Int) H', r ∈ xs → Bx b c H H' → Bg H' b c → Q (.int r) H'
theorem ok_law_pick (T : Txt K mg) : FnOk P w K mg base CX0 2 T.f_law_pick T.d_law_pick ["bag", "some"] SpPick := by
  have G_law_draw := ok_law_draw (P := P) (w := w) (base := base) T
  refine T.F_law_pick.ok sc_law_pick (fun vs H Q E ⟨_, _, _, _, h, _⟩ => by rw [h]; rfl) (fun cdv A outer s H vs Q E hr h => ?_)
  obtain ⟨b, c, t, xs, rfl, hb, n1, n2, ht, hx, hz, q⟩ := h
  refine ⟨_, (pss_one (ps_ret (pe_ix ix_seq (pv 1) (pe_call G_law_draw (hr.mono (by decide)) (by rfl) T.g_law_draw T.F_law_draw.kp T.b_law_draw .nil pass0 (pa_cons (pv 0) (pa_cons (pe_callB call_len_seq (by rfl) T.m_len (by decide +kernel) (pa_cons (pv 1) pa_nil)) pa_nil))) (fun _ _ => rfl)))), ?_⟩
  have hlen : 0 < xs.length := List.length_pos_iff.mpr hx
  refine ⟨_, rfl, _, rfl, _, rfl, ?_⟩
  refine ⟨t, _, rfl, .inl (.inl (.inl ht)), ?_⟩
  refine ⟨b, c, (xs.length : Int), by simp, by omega, by omega, hb, fun r H' r0 r1 hbx hbg => ?_⟩
  obtain ⟨i, rfl⟩ : ∃ i : Nat, r = (i : Int) := ⟨r.toNat, (Int.toNat_of_nonneg r0).symm⟩
  have hi : i < xs.length := by omega
  refine .inl ⟨t, _, (i : Int), .int xs[i], rfl, rfl, .inl (.inl (hbx _ _ n1 n2 ht)), atI_nat (by simp [hi]), q _ _ (List.getElem_mem hi) hbx hbg⟩
end K23
set_option maxRecDepth 100000
set_option maxHeartbeats 4000000
namespace K23
open PySem PySem.Spec PyProof.Rows L2 WV
open Evl (Ex Ev)
variable {P : Program} {w : World} {K : PySem.W.Frag} {mg : Str → Option Value} {base : Heap}
/-- an expression that may draw -/
def EXb (b c : Addr) (te : TE) (σ : L2.St) (H : Hp) (G : Hp → V → Prop) : Prop := ∀ H1, Bx b c H H1 → Bg H1 b c → ∀ Q : VK, (∀ v H2, Bx b c H1 H2 → Bg H2 b c → G H2 v → Q v H2) → te σ H1 Q
theorem EXb.keep {b c : Addr} {te : TE} {σ : L2.St} {H H' : Hp} {G : Hp → V → Prop} (h : EXb b c te σ H G) (e : Bx b c H H') : EXb b c te σ H' G := fun H1 e1 => h H1 (e.trans e1)
def Rg (lo hi : Int) : Hp → V → Prop := fun _ v => ∃ r, v = .int r ∧ lo ≤ r ∧ r < hi
theorem ex_draw {b c : Addr} {σ : L2.St} {H : Hp} {te : TE} {E : XK} {i : Nat} {m : Int} (hb : σ[i]? = some (some (.ref b))) (hm : ∀ H1, ED te σ H1 (.int m)) (m1 : 1 ≤ m) (m2 : m < 1000000) : EXb b c (tCall SpDraw [] E (tCons (tVar i) (tCons te tNil))) σ H (Rg 0 m) := fun H1 e hbg Q q =>
  ⟨_, hb, hm H1 H1 (Ex.refl _) _ fun v H2 e2 hv => ⟨b, c, m, by rw [hv.int_inv]; rfl, m1, m2, hbg.keep e2, fun r H' r0 r1 hbx hbg' => q _ _ ((Bx.ex e2).trans hbx) hbg' ⟨r, rfl, r0, r1⟩⟩⟩
theorem ex_add1 {b c : Addr} {σ : L2.St} {H : Hp} {te : TE} {lo hi : Int} {r : R2} (h : EXb b c te σ H (Rg lo hi)) : EXb b c (tOp (WV.rU (rI0 fun i j => .int (i + j)) r) (tC (.int 1)) te) σ H (Rg (1 + lo) (1 + hi)) := fun H1 e hbg Q q =>
  h H1 e hbg _ fun v H2 e2 hb2 ⟨x, hx, x0, x1⟩ => .inl ⟨1, x, rfl, hx, q _ _ e2 hb2 ⟨1 + x, rfl, by omega, by omega⟩⟩
theorem bg_ne {H : Hp} {b c p : Addr} (h : Bg H b c) (hp : H p = none) : p ≠ b ∧ p ≠ c := by
  obtain ⟨cells, d, x, h1, h2, _⟩ := h
  refine ⟨fun z => ?_, fun z => ?_⟩
  · rw [z, h1] at hp
    cases hp
  · rw [z, h2] at hp
    cases hp
theorem bx_mut {H H' : Hp} {b c p : Addr} {u : HO} (h : Bx b c H H') (hp : H p = none) : Bx b c H (upd H' p u) := fun a o n1 n2 e => by
  rw [upd_ne (fun z => by rw [z, hp] at e; cases e)]
  exact h a o n1 n2 e
theorem bg_mut {H' : Hp} {b c p : Addr} {u : HO} (h : Bg H' b c) (hp : p ≠ b ∧ p ≠ c) : Bg (upd H' p u) b c := by
  obtain ⟨cells, d, x, h1, h2, h3⟩ := h
  exact ⟨cells, d, x, by rw [upd_ne hp.1.symm]; exact h1, by rw [upd_ne hp.2.symm]; exact h2, h3⟩
/-- tuple([e for i in range(n)]), all of it drawn -/
theorem ex_tup {b c : Addr} {σ : L2.St} {H : Hp} {tn te : TE} {j : Nat} {vs : List Nat} {lo hi m : Int} (hn : EXb b c tn σ H (Rg lo hi)) (h0 : -100000 ≤ lo) (h1 : hi ≤ 40000) (hw : ∀ x, wipe ((wipe σ vs).set j (some x)) vs = wipe σ vs)
    (he : ∀ (x : V) H1, EXb b c te ((wipe σ vs).set j (some x)) H1 (Rg 0 m)) : EXb b c (tCB (fun xs H Q => ∃ p ys, xs = [.ref p] ∧ ((SqL K H p ys ∧ ∀ l, H l = none → Q (.ref l) (upd H l (.tup ys))) ∨ (SqT K H p ys ∧ Q (.ref p) H))) (tCons (tLc (iRng1 (tCons tn tNil)) (gName j) tYes te vs) tNil)) σ H
      (fun H v => ∃ ns : List Int, Td H v (W ns) ∧ (∀ z ∈ ns, 0 ≤ z ∧ z < m) ∧ lo ≤ (ns.length : Int) ∧ ((ns.length : Int) < hi ∨ ns = [])) := fun H1 e hbg Q q =>
  hn H1 e hbg _ fun v H2 e2 hb2 ⟨n, hv, n0, n1⟩ => ⟨n, by rw [hv], by omega, by omega, fun Dl hD => by
    have hne := bg_ne hb2 hD
    exact lc_it walk0 (g := gName j) (tt := tYes) (te := te) (vs := vs) (σ := σ) (H1 := H2) (D := Dl) (fun i H' => Bx b c H2 H' ∧ Bg H' b c ∧ ∃ ns : List Int, H' Dl = some (.lst (ns.map V.int)) ∧ ns.length = i ∧ ∀ z ∈ ns, 0 ≤ z ∧ z < m)
      ⟨.ex (Ex.new hD), hb2.keep (Ex.new hD), [], upd_same, rfl, fun z hz => by cases hz⟩ (fun _ _ _ _ => trivial) (fun i x H3 H4 hi p y => by
        obtain ⟨rfl, rfl⟩ := y
        obtain ⟨p1, p2, ns, p3, p4, p5⟩ := p
        refine ⟨hw _, ?_⟩
        show te _ _ _
        refine he _ H4 H4 (Bx.refl _ _ _) p2 _ fun v H5 e5 hb5 ⟨z, hz, z0, z1⟩ => ?_
        subst hz
        refine ⟨ns.map V.int, e5 _ _ hne.1 hne.2 p3, Evl.sz_lt (by rw [List.length_map]; omega), bx_mut (p1.trans e5) hD, bg_mut hb5 hne, ns ++ [z], ?_, by simp [p4], fun y hy => ?_⟩
        · rw [upd_same, List.map_append]
          rfl
        · rcases List.mem_append.mp hy with hy | hy
          · exact p5 y hy
          · rw [List.mem_singleton.mp hy]
            exact ⟨z0, z1⟩) (fun H' p => by
        obtain ⟨p1, p2, ns, p3, p4, p5⟩ := p
        refine ⟨Dl, _, rfl, .inl ⟨.inl (.inl p3), fun t ht => q _ _ (bx_mut (e2.trans p1) (by
          cases ht1 : H1 t with
          | none => rfl
          | some o =>
            by_cases hbt : t = b
            · obtain ⟨_, _, _, w1, _⟩ := p2
              rw [hbt, w1] at ht
              cases ht
            · by_cases hct : t = c
              · obtain ⟨_, _, _, _, w2, _⟩ := p2
                rw [hct, w2] at ht
                cases ht
              · rw [(e2.trans p1) t o hbt hct ht1] at ht
                cases ht)) (bg_mut p2 (bg_ne p2 ht)) ⟨ns, .t upd_same (tds_mk ns), p5, ?_, ?_⟩⟩⟩
        · omega
        · by_cases hn0 : ns = []
          · exact .inr hn0
          · left
            have : 0 < ns.length := List.length_pos_iff.mpr hn0
            omega)⟩
theorem s_asgX {D : Ends} {b c : Addr} {i : Nat} {σ : L2.St} {H : Hp} {te : TE} {G : Hp → V → Prop} (h : EXb b c te σ H G) (hb : Bg H b c) (k : ∀ v H1, Bx b c H H1 → Bg H1 b c → G H1 v → D.nx (σ.set i (some v)) H1) : tAsg te (gName i) D σ H := h H (Bx.refl _ _ _) hb _ k
/-- draw(..) == x as a test -/
theorem s_ifX {D : Ends} {b c : Addr} {σ : L2.St} {H : Hp} {te : TE} {lo hi y : Int} {tu tw : TS} (h : EXb b c te σ H (Rg lo hi)) (hb : Bg H b c) (h1 : ∀ H1, Bx b c H H1 → Bg H1 b c → tu D σ H1) (h2 : ∀ H1, Bx b c H H1 → Bg H1 b c → tw D σ H1) : tIfS (tTest (tOp (rEqD K) te (tC (.int y)))) tu tw D σ H :=
  h H (Bx.refl _ _ _) hb _ fun v H1 e1 hb1 ⟨r, hr, _⟩ => ⟨.int r, .int y, by rw [hr]; exact (Td.i r).dp, (Td.i (H := H1) y).dp, (sh_int (n := 0)).ok, (sh_int (n := 0)).ok, by
    refine ⟨_, rfl, ?_⟩
    cases PyData.eqv (.int r) (.int y) with
    | true => exact h1 H1 e1 hb1
    | false => exact h2 H1 e1 hb1⟩
theorem repI_len (n : Nat) (v : List Int) : (repI n v).length = n * v.length := by
  unfold repI
  simp [List.length_flatten, List.map_replicate, List.sum_replicate_nat]
theorem repI_mem {n : Nat} {v : List Int} {z : Int} (h : z ∈ repI n v) : z ∈ v := by
  unfold repI at h
  rw [List.mem_flatten] at h
  obtain ⟨l, h1, h2⟩ := h
  rw [List.eq_of_mem_replicate h1] at h2
  exact h2
def SpLasso : Sp := fun vs H Q _ => ∃ b c, ∃ k most : Nat, vs = [.ref b, .int k, .int most] ∧ 1 ≤ k ∧ k ≤ 1000 ∧ 1 ≤ most ∧ most ≤ 100 ∧ Bg H b c ∧ ∀ r H' u v, Td H' r (La u v) → Wd k u → Wd k v → u.length ≤ most → v ≠ [] → v.length ≤ most → Bx b c H H' → Bg H' b c → Q r H'
theorem ok_law_lasso (T : Txt K mg) : FnOk P w K mg base CX0 2 T.f_law_lasso T.d_law_lasso ["bag", "k", "most"] SpLasso := by
  have G_law_draw := ok_law_draw (P := P) (w := w) (base := base) T
  refine T.F_law_lasso.ok sc_law_lasso (fun vs H Q E ⟨_, _, _, _, h, _⟩ => by rw [h]; rfl) (fun cdv A outer s H vs Q E hr h => ?_)
  obtain ⟨b, c, k, most, rfl, k1, k2, m1, m2, hb, q⟩ := h
  have hu := hr.units
  refine ⟨_, (pss_cons (ps_asg (pe_callTy call_tuple_of (by rfl) T.m_tuple (by decide +kernel) (pa_cons (pe_lcD s H (own := [("i", 4)]) rfl sc_law_lasso.nd (pi_range1 (by rfl) T.m_range (pa_cons (pe_call G_law_draw (hr.mono (by decide)) (by rfl) T.g_law_draw T.F_law_draw.kp T.b_law_draw .nil pass0 (pa_cons (pv 0) (pa_cons (pe_op op_addU (pv 2) pe_int) pa_nil))) pa_nil)) (blkOk_by (own := [("i", 4)]) (N := nm_law_lasso) (sc := defScope s_law_lasso) (by decide +kernel)) (fun _ _ _ _ _ => (pg_name (i := 4) sc_law_lasso.nd rfl (by first | exact .inl rfl | exact .inr rfl))) (fun _ _ _ _ _ => pts_nil) (fun _ _ _ _ _ => (pe_call G_law_draw (hr.mono (by decide)) (by rfl) T.g_law_draw T.F_law_draw.kp T.b_law_draw .nil pass0 (pa_cons (pv 0) (pa_cons (pv 1) pa_nil))))) pa_nil)) (pg_name (i := 3) sc_law_lasso.nd rfl (by first | exact .inl rfl | exact .inr rfl)))
      (pss_cons (ps_asg (pe_callTy call_tuple_of (by rfl) T.m_tuple (by decide +kernel) (pa_cons (pe_lcD s H (own := [("i", 4)]) rfl sc_law_lasso.nd (pi_range1 (by rfl) T.m_range (pa_cons (pe_op op_addU pe_int (pe_call G_law_draw (hr.mono (by decide)) (by rfl) T.g_law_draw T.F_law_draw.kp T.b_law_draw .nil pass0 (pa_cons (pv 0) (pa_cons (pv 2) pa_nil)))) pa_nil)) (blkOk_by (own := [("i", 4)]) (N := nm_law_lasso) (sc := defScope s_law_lasso) (by decide +kernel)) (fun _ _ _ _ _ => (pg_name (i := 4) sc_law_lasso.nd rfl (by first | exact .inl rfl | exact .inr rfl))) (fun _ _ _ _ _ => pts_nil) (fun _ _ _ _ _ => (pe_call G_law_draw (hr.mono (by decide)) (by rfl) T.g_law_draw T.F_law_draw.kp T.b_law_draw .nil pass0 (pa_cons (pv 0) (pa_cons (pv 1) pa_nil))))) pa_nil)) (pg_name (i := 5) sc_law_lasso.nd rfl (by first | exact .inl rfl | exact .inr rfl)))
      (Evl.pss_cut (ps_if (pt_cmpR (op_eqD hu) (pe_call G_law_draw (hr.mono (by decide)) (by rfl) T.g_law_draw T.F_law_draw.kp T.b_law_draw .nil pass0 (pa_cons (pv 0) (pa_cons pe_int pa_nil))) pe_int (by rfl))
        (pss_one (ps_asg (pe_slice sl_seqU (pe_op op_mulU (pe_slice sl_seqU (pv 5) po_none (po_some pe_int)) (pv 2)) po_none (po_some (pv 2))) (pg_name (i := 5) sc_law_lasso.nd rfl (by first | exact .inl rfl | exact .inr rfl))))
        pss_nil)
      (pss_one (ps_ret (pe_tup (pa_cons (pv 3) (pa_cons (pv 5) pa_nil)))))))), ?_⟩
  refine s_asgX (ex_tup (lo := 0) (hi := (most : Int) + 1) (m := k) (ex_draw rfl (fun H1 => ed_addI (ed_var rfl (.i _)) ed_int) (by omega) (by omega)) (by omega) (by omega) (fun x => rfl) (fun x H1 => ex_draw rfl (fun H2 => ed_var rfl (.i _)) (by omega) (by omega))) hb fun vu H1 e1 hb1 ⟨u, hu1, hu2, hu3, hu4⟩ => ?_
  refine s_asgX (ex_tup (lo := 1) (hi := 1 + (most : Int)) (m := k) (ex_add1 (lo := 0) (ex_draw rfl (fun H1 => ed_var rfl (.i _)) (by omega) (by omega))) (by omega) (by omega) (fun x => rfl) (fun x H1 => ex_draw rfl (fun H2 => ed_var rfl (.i _)) (by omega) (by omega))) hb1 fun vv H2 e2 hb2 ⟨v, hv1, hv2, hv3, hv4⟩ => ?_
  have hu1 := hu1.keep (hb1.kp e2)
  have hul : u.length ≤ most := by
    rcases hu4 with h | h
    · omega
    · rw [h]
      simp
  have hvn : v ≠ [] := fun z => by
    rw [z] at hv3
    simp at hv3
  have hvl : v.length ≤ most := by
    rcases hv4 with h | h
    · omega
    · exact absurd h hvn
  refine Evl.q_cut (M := fun σ' H' => ∃ y, ∃ v : List Int, σ' = [some (.ref b), some (.int k), some (.int most), some vu, none, some y] ∧ Bx b c H2 H' ∧ Bg H' b c ∧ Td H' y (W v) ∧ Wd k v ∧ v ≠ [] ∧ v.length ≤ most) ?_ ?_
  · refine s_ifX (ex_draw (m := 4) rfl (fun H1 => ed_int) (by decide) (by decide)) hb2 (fun H3 e3 hb3 => ?_) (fun H3 e3 hb3 => ?_)
    · have hv3' := hv1.keep (hb2.kp e3)
      have hvp : 0 < v.length := List.length_pos_iff.mpr hvn
      refine s_asg (d := W ((repI most (v.take 2)).take most)) (ed_takeW (ed_repW (k := most) (ed_takeW (n := 2) (ed_var rfl hv3') ed_int) (ed_var rfl (.i _)) ?_ ⟨by omega, by omega⟩ (by rw [List.length_take]; omega)) (ed_var rfl (.i _))) fun y H4 e4 hy => ?_
      · intro z
        have := congrArg List.length z
        rw [List.length_take, List.length_nil] at this
        omega
      · refine ⟨y, _, rfl, e3.trans (.ex e4), hb3.keep e4, hy, fun z hz => hv2 z (List.mem_of_mem_take (repI_mem (List.mem_of_mem_take hz))), ?_, ?_⟩
        · intro z
          have := congrArg List.length z
          rw [List.length_take, repI_len, List.length_take, List.length_nil] at this
          have h1 : 1 ≤ min 2 v.length := by omega
          have h2 := Nat.mul_le_mul_left most h1
          omega
        · rw [List.length_take]
          omega
    · exact ⟨vv, v, rfl, e3, hb3, hv1.keep (hb2.kp e3), hv2, hvn, hvl⟩
  · rintro σ' H' ⟨y, v', rfl, e', hb', hy, w1, w2, w3⟩
    exact s_ret (ed_La (ed_var rfl (hu1.keep (hb2.kp e'))) (ed_var rfl hy)) fun r H5 e5 hr => q r H5 u v' hr hu2 w1 hul w2 w3 (((e1.trans e2).trans e').trans (.ex e5)) (hb'.keep e5)
end K23
set_option maxRecDepth 100000
set_option maxHeartbeats 4000000
namespace K23
open PySem PySem.Spec PyProof.Rows L2 WV
open Evl (Ex Ev)
variable {P : Program} {w : World} {K : PySem.W.Frag} {mg : Str → Option Value} {base : Heap}
theorem la_bx {H H' : Hp} {b c p : Addr} {ds : List WV.T} (h : LA H (.ref p) ds) (e : Bx b c H H') (hb : Bg H b c) (n : p ≠ b ∧ p ≠ c) : LA H' (.ref p) ds := by
  obtain ⟨q, xs, e1, h1, h2⟩ := h
  cases e1
  exact ⟨p, xs, rfl, e _ _ n.1 n.2 h1, h2.keep (hb.kp e)⟩
def endsN (n : Nat) : List (Int × List Int) := (List.range n).map fun (i : Nat) => ((i : Int), [])
def row (i : Nat) (k : Nat) : List (Int × Int) := (List.range k).map fun (a : Nat) => ((i : Int), (a : Int))
def prs (k : Nat) (n : Nat) : List (Int × Int) := (List.range n).flatMap fun i => row i k
theorem prs_succ (k n : Nat) : prs k (n + 1) = prs k n ++ row n k := by
  unfold prs
  rw [List.range_succ, List.flatMap_append]
  simp
theorem row_succ (i k : Nat) : row i (k + 1) = row i k ++ [((i : Int), (k : Int))] := by
  unfold row
  rw [List.range_succ, List.map_append]
  rfl
theorem row_len (i k : Nat) : (row i k).length = k := by simp [row]
theorem prs_len (k : Nat) : ∀ n, (prs k n).length = n * k
  | 0 => by simp [prs]
  | n + 1 => by rw [prs_succ, List.length_append, prs_len k n, row_len, Nat.succ_mul]
def Arcs (m n : Nat) (ks : List (Int × Int)) (as : List Arc) : Prop := as.map (fun a => (a.s, a.l)) = ks ∧ ∀ a ∈ as, Wd m a.out ∧ 1 ≤ a.out.length ∧ a.out.length ≤ 3 ∧ St n a.g
theorem Arcs.snoc {m n : Nat} {ks : List (Int × Int)} {as : List Arc} {a : Arc} (h : Arcs m n ks as) (ha : Wd m a.out ∧ 1 ≤ a.out.length ∧ a.out.length ≤ 3 ∧ St n a.g) : Arcs m n (ks ++ [(a.s, a.l)]) (as ++ [a]) := by
  refine ⟨by rw [List.map_append, h.1]; rfl, fun x hx => ?_⟩
  rcases List.mem_append.mp hx with hx | hx
  · exact h.2 x hx
  · rw [List.mem_singleton.mp hx]
    exact ha
theorem ex_pick {b c : Addr} {σ : L2.St} {H : Hp} {E : XK} {ta : TA} (hb : σ[0]? = some (some (.ref b))) (ha : ∀ H1, EA ta σ H1 [.int 1, .int 1, .int 1, .int 2, .int 3]) : EXb b c (tCall SpPick [] E (tCons (tVar 0) (tCons (tLst ta) tNil))) σ H (Rg 1 4) := fun H1 e hbg Q q =>
  ⟨_, hb, ha H1 H1 (Ex.refl _) _ fun vs H2 e2 hvs => ⟨Evl.sz_of (by rw [hvs.length]; simp), fun t ht => by
    have hvs' : vs = ([1, 1, 1, 2, 3] : List Int).map V.int := tds_ints (ns := [1, 1, 1, 2, 3]) hvs
    subst hvs'
    have hb2 := hbg.keep e2
    obtain ⟨n1, n2⟩ := bg_ne hb2 ht
    refine ⟨b, c, t, [1, 1, 1, 2, 3], rfl, hb2.keep (Ex.new ht), n1, n2, upd_same, by simp, by simp, fun r H' hr hbx hbg' => q _ _ ((Bx.ex (e2.trans (Ex.new ht))).trans hbx) hbg' ⟨r, rfl, ?_⟩⟩
    simp at hr
    omega⟩⟩
/-- arcs.append((i, a, out, draw)) -/
theorem s_appArc {D : Ends} {b c p : Addr} {σ : L2.St} {H : Hp} {td : TE} {jp ji ja jo : Nat} {ds : List WV.T} {i a : Int} {out : List Int} {vo : V} {lo hi : Int} (hp : σ[jp]? = some (some (.ref p))) (hi' : σ[ji]? = some (some (.int i))) (ha : σ[ja]? = some (some (.int a))) (ho : σ[jo]? = some (some vo)) (hout : Td H vo (W out)) (hd : EXb b c td σ H (Rg lo hi)) (hl : LA H (.ref p) ds) (hb : Bg H b c) (hn : p ≠ b ∧ p ≠ c) (hz : ds.length < 100000)
    (k : ∀ (g : Int) H', lo ≤ g → g < hi → (∀ q o, q ≠ b → q ≠ c → q ≠ p → H q = some o → H' q = some o) → Bg H' b c → LA H' (.ref p) (ds ++ [arcD ⟨i, a, out, g⟩]) → D.nx σ H') : tDrop (tBM K "list" rAppend (tVar jp) (tCons (tTup (tCons (tVar ji) (tCons (tVar ja) (tCons (tVar jo) (tCons td tNil))))) tNil)) D σ H := by
  obtain ⟨q, xs, e1, h1, h2⟩ := hl
  cases e1
  refine ⟨_, hp, .inl ⟨rfl, xs, .inl (.inl h1)⟩, _, hi', _, ha, _, ho, hd H (Bx.refl _ _ _) hb _ fun v H1 e1 hb1 ⟨g, hg, g0, g1⟩ => ⟨Evl.sz_of (by simp), fun t ht => ?_⟩⟩
  subst hg
  have hp1 := e1 _ _ hn.1 hn.2 h1
  have htp : t ≠ p := fun z => by
    rw [z, hp1] at ht
    cases ht
  refine ⟨p, xs, .ref t, rfl, rfl, by rw [upd_ne htp.symm]; exact hp1, Evl.sz_lt (by rw [h2.length]; exact hz), k g _ g0 g1 (fun q o n1 n2 n3 hq => ?_) (bg_mut (bg_mut hb1 (bg_ne hb1 ht)) hn) ⟨p, _, rfl, upd_same, ?_⟩⟩
  · rw [upd_ne n3]
    exact Ex.new ht _ _ (e1 _ _ n1 n2 hq)
  · have kp1 := hb.kp e1
    have kp2 : Kp H1 (upd (upd H1 t (.tup [.int i, .int a, vo, .int g])) p (.lst (xs ++ [V.ref t]))) := (Kp.new ht).trans (.updL (by rw [upd_ne htp.symm]; exact hp1))
    refine (h2.keep (kp1.trans kp2)).append (.cons (.t (by rw [upd_ne htp]; exact upd_same) (.cons (.i _) (.cons (.i _) (.cons (hout.keep (kp1.trans kp2)) (.cons (.i _) .nil))))) .nil)
def SpLed : Sp := fun vs H Q _ => ∃ b c, ∃ k m n : Nat, vs = [.ref b, .int k, .int m, .int n] ∧ 1 ≤ k ∧ k ≤ 10 ∧ 1 ≤ m ∧ m ≤ 10 ∧ 1 ≤ n ∧ n ≤ 10 ∧ Bg H b c ∧ ∀ r H' b0 as, Td H' r (ledD n [b0] as (endsN n)) → St n b0 → Arcs m n (prs k n) as → Bx b c H H' → Bg H' b c → Q r H'
theorem ok_law_led (T : Txt K mg) : FnOk P w K mg base CX0 3 T.f_law_led T.d_law_led ["bag", "k", "m", "n"] SpLed := by
  have G_law_draw := ok_law_draw (P := P) (w := w) (base := base) T
  have G_law_pick := ok_law_pick (P := P) (w := w) (base := base) T
  refine T.F_law_led.ok sc_law_led (fun vs H Q E ⟨_, _, _, _, _, h, _⟩ => by rw [h]; rfl) (fun cdv A outer s H vs Q E hr h => ?_)
  obtain ⟨b, c, k, m, n, rfl, k1, k2, m1, m2, n1, n2, hb, q⟩ := h
  have hu := hr.units
  refine ⟨_, (pss_cons (ps_asg (pe_lst pa_nil) (pg_name (i := 4) sc_law_led.nd rfl (by first | exact .inl rfl | exact .inr rfl)))
      (Evl.pss_cut (ps_for PassesOwn.never rfl (pi_range1 (by rfl) T.m_range (pa_cons (pv 3) pa_nil)) (pg_name (i := 5) sc_law_led.nd rfl (by first | exact .inl rfl | exact .inr rfl))
        (pss_one (ps_for PassesOwn.never rfl (pi_range1 (by rfl) T.m_range (pa_cons (pv 1) pa_nil)) (pg_name (i := 6) sc_law_led.nd rfl (by first | exact .inl rfl | exact .inr rfl))
        (pss_cons (ps_asg (pe_callTy call_tuple_of (by rfl) T.m_tuple (by decide +kernel) (pa_cons (pe_lcD s H (own := [("at", 8)]) rfl sc_law_led.nd (pi_range1 (by rfl) T.m_range (pa_cons (pe_call G_law_pick (hr.mono (by decide)) (by rfl) T.g_law_pick T.F_law_pick.kp T.b_law_pick .nil pass0 (pa_cons (pv 0) (pa_cons (pe_lst (pa_cons pe_int (pa_cons pe_int (pa_cons pe_int (pa_cons pe_int (pa_cons pe_int pa_nil)))))) pa_nil))) pa_nil)) (blkOk_by (own := [("at", 8)]) (N := nm_law_led) (sc := defScope s_law_led) (by decide +kernel)) (fun _ _ _ _ _ => (pg_name (i := 8) sc_law_led.nd rfl (by first | exact .inl rfl | exact .inr rfl))) (fun _ _ _ _ _ => pts_nil) (fun _ _ _ _ _ => (pe_call G_law_draw (hr.mono (by decide)) (by rfl) T.g_law_draw T.F_law_draw.kp T.b_law_draw .nil pass0 (pa_cons (pv 0) (pa_cons (pv 2) pa_nil))))) pa_nil)) (pg_name (i := 7) sc_law_led.nd rfl (by first | exact .inl rfl | exact .inr rfl)))
      (pss_one (ps_expr (pe_bm PySem.F.plainAttrs_list PySem.F.slot_list_append PySem.F.type_list_append mt_append (pv 4) (pa_cons (pe_tup (pa_cons (pv 5) (pa_cons (pv 6) (pa_cons (pv 7) (pa_cons (pe_call G_law_draw (hr.mono (by decide)) (by rfl) T.g_law_draw T.F_law_draw.kp T.b_law_draw .nil pass0 (pa_cons (pv 0) (pa_cons (pv 3) pa_nil))) pa_nil))))) pa_nil))))))))
      (pss_one (ps_ret (pe_tup (pa_cons (pv 3) (pa_cons (pe_tup (pa_cons (pe_call G_law_draw (hr.mono (by decide)) (by rfl) T.g_law_draw T.F_law_draw.kp T.b_law_draw .nil pass0 (pa_cons (pv 0) (pa_cons (pv 3) pa_nil))) pa_nil)) (pa_cons (pe_callTy call_tuple_of (by rfl) T.m_tuple (by decide +kernel) (pa_cons (pv 4) pa_nil)) (pa_cons (pe_callTy call_tuple_of (by rfl) T.m_tuple (by decide +kernel) (pa_cons (pe_lcD s H (own := [("i", 5)]) rfl sc_law_led.nd (pi_range1 (by rfl) T.m_range (pa_cons (pv 3) pa_nil)) (blkOk_by (own := [("i", 5)]) (N := nm_law_led) (sc := defScope s_law_led) (by decide +kernel)) (fun _ _ _ _ _ => (pg_name (i := 5) sc_law_led.nd rfl (by first | exact .inl rfl | exact .inr rfl))) (fun _ _ _ _ _ => pts_nil) (fun _ _ _ _ _ => (pe_tup (pa_cons (pv 5) (pa_cons (pe_tup pa_nil) pa_nil))))) pa_nil)) pa_nil))))))))), ?_⟩
  refine s_asgN (ds := []) (el_lst ea_nil (by simp)) fun p H1 hp e1 hl => ?_
  have hb1 := hb.keep e1
  have hpn : p ≠ b ∧ p ≠ c := bg_ne hb hp
  have hstep : ∀ {H' H'' : Hp}, Bx b c H H' → (∀ q o, q ≠ b → q ≠ c → q ≠ p → H' q = some o → H'' q = some o) → Bx b c H H'' := fun h1 h2 a o na nc e => h2 a o na nc (fun z => by rw [z, hp] at e; cases e) (h1 a o na nc e)
  refine Evl.q_cut (M := fun σ' H' => ∃ z5 z6 z7 as, σ' = [some (.ref b), some (.int k), some (.int m), some (.int n), some (.ref p), z5, z6, z7, none] ∧ Bx b c H H' ∧ Bg H' b c ∧ LA H' (.ref p) (as.map arcD) ∧ Arcs m n (prs k n) as) ?_ ?_
  · refine s_forR1 (n := (n : Nat)) (ea_cons (ed_var rfl (.i _)) ea_nil) (by omega) (fun i σ' H' => ∃ z5 z6 z7 as, σ' = [some (.ref b), some (.int k), some (.int m), some (.int n), some (.ref p), z5, z6, z7, none] ∧ Bx b c H H' ∧ Bg H' b c ∧ LA H' (.ref p) (as.map arcD) ∧ Arcs m n (prs k i) as) (fun H2 e2 => ⟨_, _, _, [], rfl, .ex (e1.trans e2), hb1.keep e2, hl.keep e2, rfl, fun a ha => by cases ha⟩) ?_ ?_
    · rintro i σ' H' hi ⟨z5, z6, z7, as, rfl, e2, hb2, hl2, har⟩
      refine s_forR1 (n := (k : Nat)) (ea_cons (ed_var rfl (.i _)) ea_nil) (by omega) (fun a σ' H' => ∃ z6 z7 as, σ' = [some (.ref b), some (.int k), some (.int m), some (.int n), some (.ref p), some (.int (i : Nat)), z6, z7, none] ∧ Bx b c H H' ∧ Bg H' b c ∧ LA H' (.ref p) (as.map arcD) ∧ Arcs m n (prs k i ++ row i a) as) (fun H3 e3 => ⟨_, _, as, rfl, e2.trans (.ex e3), hb2.keep e3, hl2.keep e3, by simpa [row] using har⟩) ?_ ?_
      · rintro a σ' H' ha ⟨z6, z7, as, rfl, e3, hb3, hl3, har⟩
        have hlen : as.length ≤ 1000 := by
          have h1 := congrArg List.length har.1
          rw [List.length_map, List.length_append, prs_len, row_len] at h1
          have : i * k ≤ 10 * 10 := Nat.mul_le_mul (by omega) k2
          omega
        refine s_asgX (ex_tup (lo := 1) (hi := 4) (m := m) (ex_pick rfl (fun H1 => ea_cons ed_int (ea_cons ed_int (ea_cons ed_int (ea_cons ed_int (ea_cons ed_int ea_nil)))))) (by decide) (by decide) (fun x => rfl) (fun x H1 => ex_draw rfl (fun H2 => ed_var rfl (.i _)) (by omega) (by omega))) hb3 fun vo H4 e4 hb4 ⟨out, ho1, ho2, ho3, ho4⟩ => ?_
        refine s_appArc (b := b) (c := c) (p := p) (jp := 4) (ji := 5) (ja := 6) (jo := 7) (lo := 0) (hi := n) rfl rfl rfl rfl ho1 (ex_draw rfl (fun H2 => ed_var rfl (.i _)) (by omega) (by omega)) (la_bx hl3 e4 hb3 hpn) hb4 hpn (by rw [List.length_map]; omega) fun g H5 g0 g1 e5 hb5 hl5 => ?_
        refine ⟨_, _, as ++ [⟨i, a, out, g⟩], rfl, hstep (e3.trans e4) e5, hb5, by rw [List.map_append]; exact hl5, ?_⟩
        rw [row_succ, ← List.append_assoc]
        refine har.snoc (a := ⟨i, a, out, g⟩) ⟨ho2, by show 1 ≤ out.length; omega, ?_, g0, g1⟩
        show out.length ≤ 3
        rcases ho4 with h | h
        · omega
        · rw [h]
          simp
      · rintro σ' H' ⟨z6, z7, as, rfl, e3, hb3, hl3, har⟩
        refine ⟨_, _, _, as, rfl, e3, hb3, hl3, ?_⟩
        rw [prs_succ]
        exact har
    · rintro σ' H' ⟨z5, z6, z7, as, rfl, e2, hb2, hl2, har⟩
      exact ⟨_, _, _, as, rfl, e2, hb2, hl2, har⟩
  · rintro σ' H' ⟨z5, z6, z7, as, rfl, e2, hb2, hl2, har⟩
    refine ⟨_, rfl, ex_draw (m := n) rfl (fun H2 => ed_var rfl (.i _)) (by omega) (by omega) H' (Bx.refl _ _ _) hb2 _ fun v H3 e3 hb3 ⟨b0, hv, b00, b01⟩ => ⟨Evl.sz_of (by simp), fun t ht => ?_⟩⟩
    subst hv
    have hl3 := (la_bx hl2 e3 hb2 hpn).keep (Ex.new (o := .tup [.int b0]) ht)
    have hrest : EA (tCons (tCB (fun xs H Q => ∃ p ys, xs = [.ref p] ∧ ((SqL K H p ys ∧ ∀ l, H l = none → Q (.ref l) (upd H l (.tup ys))) ∨ (SqT K H p ys ∧ Q (.ref p) H))) (tCons (tVar 4) tNil)) (tCons (tCB (fun xs H Q => ∃ p ys, xs = [.ref p] ∧ ((SqL K H p ys ∧ ∀ l, H l = none → Q (.ref l) (upd H l (.tup ys))) ∨ (SqT K H p ys ∧ Q (.ref p) H))) (tCons (tLc (iRng1 (tCons (tVar 3) tNil)) (gName 5) tYes (tTup (tCons (tVar 5) (tCons (tTup tNil) tNil))) [5]) tNil)) tNil)) [some (.ref b), some (.int k), some (.int m), some (.int n), some (.ref p), z5, z6, z7, none] (upd H3 t (.tup [.int b0])) [.tuple (as.map arcD), .tuple ((endsN n).map endD)] := by
      refine ea_cons (ed_tupM (em_var rfl hl3)) (ea_cons (ed_tupL (el_is (el_lcR1 (n := (n : Nat)) (fun _ => true) (fun i => endD ((i : Int), [])) (ea_cons (ed_var rfl (.i _)) ea_nil) (by omega) (fun x => rfl) (fun i H1 e1 hi => eb_yes) (fun i H1 e1 hi _ => ed_tup (ea_cons (ed_var rfl (.i _)) (ea_cons (ed_tup ea_nil (by simp)) ea_nil)) (by simp))) ?_)) ea_nil)
      unfold endsN
      rw [gd_all, List.map_map, Int.toNat_natCast]
      rfl
    refine hrest _ (Ex.refl _) _ fun vs H4 e4 hvs => ⟨Evl.sz_of (by simp [hvs.length]), fun t2 ht2 => ?_⟩
    refine q _ _ b0 as (.t upd_same (.cons (.i _) (.cons (.t (vs := [.int b0]) ?_ (.cons (.i _) .nil)) (hvs.keep (.new ht2))))) ⟨b00, b01⟩ har ?_ ?_
    · exact Ex.new ht2 _ _ (e4 _ _ upd_same)
    · exact ((e2.trans e3).trans (.ex (Ex.new ht))).trans (.ex (e4.trans (Ex.new ht2)))
    · exact (hb3.keep (Ex.new ht)).keep (e4.trans (Ex.new ht2))
end K23
set_option maxRecDepth 100000
/-! Plain: least lassos. -/
namespace WV
def lw (u v : List Int) (i : Nat) : Int := if i < u.length then u.getD i 0 else v.getD ((i - u.length) % v.length) 0
def cyc (v : List Int) (i : Nat) : Int := v.getD (i % v.length) 0
theorem lw_ge {u v : List Int} {i : Nat} (h : u.length ≤ i) : lw u v i = cyc v (i - u.length) := by
  unfold lw cyc
  rw [if_neg (by omega)]
theorem lw_lt {u v : List Int} {i : Nat} (h : i < u.length) : lw u v i = u.getD i 0 := by
  unfold lw
  rw [if_pos h]
theorem cyc_lt {v : List Int} {i : Nat} (h : i < v.length) : cyc v i = v.getD i 0 := by
  unfold cyc
  rw [Nat.mod_eq_of_lt h]
theorem cyc_add (v : List Int) (i k : Nat) : cyc v (i + v.length * k) = cyc v i := by
  unfold cyc
  rw [Nat.add_mul_mod_self_left]
theorem getD_app_lt {a b : List Int} {i : Nat} (h : i < a.length) : (a ++ b).getD i 0 = a.getD i 0 := by
  simp [List.getD, List.getElem?_append_left h]
theorem getD_app_ge {a b : List Int} {i : Nat} (h : a.length ≤ i) : (a ++ b).getD i 0 = b.getD (i - a.length) 0 := by
  simp [List.getD, List.getElem?_append_right h]
theorem ext_getD {a b : List Int} (hl : a.length = b.length) (h : ∀ i, i < a.length → a.getD i 0 = b.getD i 0) : a = b := by
  apply List.ext_getElem hl
  intro i h1 h2
  have := h i h1
  simpa [List.getD, h1, h2] using this
theorem repI_succ (m : Nat) (x : List Int) : repI (m + 1) x = x ++ repI m x := by
  unfold repI
  rw [List.replicate_succ, List.flatten_cons]
theorem repI_length (m : Nat) (x : List Int) : (repI m x).length = m * x.length := by
  induction m with
  | zero => simp [repI]
  | succ m ih => rw [repI_succ, List.length_append, ih, Nat.succ_mul, Nat.add_comm]
theorem repI_get (x : List Int) : ∀ (m i : Nat), i < m * x.length → (repI m x).getD i 0 = cyc x i
  | 0, i, h => by simp at h
  | m + 1, i, h => by
    rw [repI_succ]
    by_cases hi : i < x.length
    · rw [getD_app_lt hi, cyc_lt hi]
    · rw [getD_app_ge (by omega), repI_get x m (i - x.length) (by rw [Nat.succ_mul] at h; omega)]
      have : i = (i - x.length) + x.length * 1 := by omega
      rw [this, cyc_add]
      congr 1
      omega
theorem take_getD {v : List Int} {s i : Nat} (h : i < s) (hs : s ≤ v.length) : (v.take s).getD i 0 = v.getD i 0 := by
  simp [List.getD, List.getElem?_take, h]
/-- s turns v's letters round -/
theorem rootOk_iff {v : List Int} {s : Nat} (h1 : 1 ≤ s) (h2 : s ≤ v.length) : rootOk v s = true ↔ v.length % s = 0 ∧ ∀ i, i < v.length → v.getD i 0 = v.getD (i % s) 0 := by
  have htl : (v.take s).length = s := by rw [List.length_take]; omega
  unfold rootOk
  rw [Bool.and_eq_true, decide_eq_true_eq, beq_iff_eq]
  constructor
  · rintro ⟨a, b⟩
    refine ⟨a, fun i hi => ?_⟩
    have hm : v.length / s * s = v.length := Nat.div_mul_cancel (Nat.dvd_of_mod_eq_zero a)
    have := repI_get (v.take s) (v.length / s) i (by rw [htl, hm]; exact hi)
    rw [b] at this
    rw [this]
    unfold cyc
    rw [htl, take_getD (Nat.mod_lt _ (by omega)) h2]
  · rintro ⟨a, b⟩
    have hm : v.length / s * s = v.length := Nat.div_mul_cancel (Nat.dvd_of_mod_eq_zero a)
    refine ⟨a, ext_getD (by rw [repI_length, htl, hm]) fun i hi => ?_⟩
    rw [repI_length, htl, hm] at hi
    rw [repI_get _ _ _ (by rw [htl, hm]; exact hi), b i hi]
    unfold cyc
    rw [htl, take_getD (Nat.mod_lt _ (by omega)) h2]
theorem root_cyc {v : List Int} (hv : v ≠ []) (i : Nat) : cyc (root v) i = cyc v i := by
  obtain ⟨s1, s2, s3⟩ := rootSize_ok hv
  obtain ⟨a, b⟩ := (rootOk_iff s1 s2).mp s3
  have hl : 0 < v.length := List.length_pos_iff.mpr hv
  unfold cyc
  rw [root_length hv, b (i % v.length) (Nat.mod_lt _ hl), Nat.mod_mod_of_dvd _ (Nat.dvd_of_mod_eq_zero a)]
  unfold root
  rw [take_getD (Nat.mod_lt _ (by omega)) s2]
theorem lw_root {u v : List Int} (hv : v ≠ []) (i : Nat) : lw u (root v) i = lw u v i := by
  by_cases h : i < u.length
  · rw [lw_lt h, lw_lt h]
  · rw [lw_ge (by omega), lw_ge (by omega), root_cyc hv]
/-- an eventual period -/
def Per (w : Nat → Int) (q : Nat) : Prop := ∃ N, ∀ j, N ≤ j → w (j + q) = w j
theorem Per.sub {w : Nat → Int} {p q : Nat} (hp : Per w p) (hq : Per w q) (h : q ≤ p) : Per w (p - q) := by
  obtain ⟨N, hN⟩ := hp
  obtain ⟨M, hM⟩ := hq
  refine ⟨max N M, fun j hj => ?_⟩
  rw [← hM (j + (p - q)) (by omega), ← hN j (by omega)]
  congr 1
  omega
theorem Per.gcd {w : Nat → Int} : ∀ (n p q : Nat), p + q ≤ n → Per w p → Per w q → Per w (Nat.gcd p q)
  | 0, p, q, h, hp, hq => by
    have : p = 0 ∧ q = 0 := by omega
    rw [this.1, this.2]
    exact ⟨0, fun j _ => rfl⟩
  | n + 1, p, q, h, hp, hq => by
    by_cases h0 : p = 0
    · rw [h0, Nat.gcd_zero_left]
      exact hq
    by_cases h1 : q = 0
    · rw [h1, Nat.gcd_zero_right]
      exact hp
    by_cases hle : q ≤ p
    · have := Per.gcd n (p - q) q (by omega) (hp.sub hq hle) hq
      rw [Nat.gcd_comm, Nat.gcd_sub_self_right hle] at this
      rw [Nat.gcd_comm]
      exact this
    · have := Per.gcd n p (q - p) (by omega) hp (hq.sub hp (by omega))
      rw [Nat.gcd_sub_self_right (by omega)] at this
      exact this
end WV
set_option maxRecDepth 100000
/-! Plain: least lassos are unique. -/
namespace WV
theorem per_lw {u v : List Int} : Per (lw u v) v.length := ⟨u.length, fun j hj => by
  rw [lw_ge (by omega), lw_ge hj]
  have : j + v.length - u.length = (j - u.length) + v.length * 1 := by omega
  rw [this, cyc_add]⟩
theorem root_min {u v : List Int} {q : Nat} (hv : v ≠ []) (hq : 1 ≤ q) (h : Per (lw u v) q) : rootSize v ≤ q := by
  have hl : 0 < v.length := List.length_pos_iff.mpr hv
  have hg : Per (lw u v) (Nat.gcd q v.length) := Per.gcd _ _ _ (Nat.le_refl _) h per_lw
  have hg1 : 1 ≤ Nat.gcd q v.length := Nat.gcd_pos_of_pos_left _ hq
  have hgq : Nat.gcd q v.length ≤ q := Nat.gcd_le_left _ hq
  have hgv : Nat.gcd q v.length ≤ v.length := Nat.gcd_le_right _ hl
  have hdv : Nat.gcd q v.length ∣ v.length := Nat.gcd_dvd_right _ _
  generalize Nat.gcd q v.length = g at *
  obtain ⟨N, hN⟩ := hg
  have hc : ∀ i, cyc v (i + g) = cyc v i := fun i => by
    have h1 := hN (u.length + i + v.length * N) (by
      have := Nat.mul_le_mul_right N hl
      omega)
    rw [lw_ge (by omega), lw_ge (by omega)] at h1
    have e1 : u.length + i + v.length * N + g - u.length = (i + g) + v.length * N := by omega
    have e2 : u.length + i + v.length * N - u.length = i + v.length * N := by omega
    rw [e1, e2, cyc_add, cyc_add] at h1
    exact h1
  have hck : ∀ k i, cyc v (i + g * k) = cyc v i := fun k => by
    induction k with
    | zero => intro i; simp
    | succ k ih =>
      intro i
      have : i + g * (k + 1) = (i + g * k) + g := by rw [Nat.mul_succ]; omega
      rw [this, hc, ih]
  have hok : rootOk v g = true := (rootOk_iff hg1 hgv).mpr ⟨Nat.mod_eq_zero_of_dvd hdv, fun i hi => by
    have h1 := hck (i / g) (i % g)
    rw [Nat.mod_add_div] at h1
    rw [cyc_lt hi, cyc_lt (Nat.lt_of_le_of_lt (Nat.mod_le _ _) hi)] at h1
    exact h1⟩
  obtain ⟨i, hi⟩ := root_find hv
  have hrs : rootSize v = i + 1 := by
    unfold rootSize
    rw [hi]
  rw [List.find?_range_eq_some] at hi
  obtain ⟨_, _, h3⟩ := hi
  rw [hrs]
  rcases Nat.lt_or_ge (g - 1) i with hlt | hge
  · have := h3 (g - 1) hlt
    rw [Nat.sub_add_cancel hg1, hok] at this
    simp at this
  · omega
theorem rot_cyc0 {v : List Int} (hv : v ≠ []) : cyc (rot v) 0 = v.getD (v.length - 1) 0 := by
  have hl : 0 < v.length := List.length_pos_iff.mpr hv
  rw [cyc_lt (by rw [rot_length hv]; exact hl)]
  unfold rot
  rw [getD_app_lt (by rw [List.length_drop]; omega)]
  simp [List.getD]
theorem rot_cycS {v : List Int} (hv : v ≠ []) (k : Nat) : cyc (rot v) (k + 1) = cyc v k := by
  have hl : 0 < v.length := List.length_pos_iff.mpr hv
  have hk := Nat.mod_lt k hl
  have hmd := Nat.mod_add_div k v.length
  by_cases h : k % v.length + 1 < v.length
  · have e : (k + 1) % v.length = k % v.length + 1 := by
      have : k + 1 = (k % v.length + 1) + v.length * (k / v.length) := by omega
      rw [this, Nat.add_mul_mod_self_left, Nat.mod_eq_of_lt h]
    unfold cyc
    rw [rot_length hv, e]
    unfold rot
    rw [getD_app_ge (by rw [List.length_drop]; omega), List.length_drop]
    have e2 : k % v.length + 1 - (v.length - (v.length - 1)) = k % v.length := by omega
    rw [e2, List.dropLast_eq_take, take_getD (by omega) (by omega)]
  · have hk1 : k % v.length = v.length - 1 := by omega
    have e : (k + 1) % v.length = 0 := by
      have : k + 1 = 0 + v.length * (k / v.length + 1) := by rw [Nat.mul_succ]; omega
      rw [this, Nat.add_mul_mod_self_left, Nat.zero_mod]
    have h0 := rot_cyc0 hv
    unfold cyc at h0 ⊢
    rw [rot_length hv] at h0 ⊢
    rw [e, hk1]
    rw [Nat.zero_mod] at h0
    exact h0
theorem step_lw {u v : List Int} (hu : u ≠ []) (hv : v ≠ []) (h : u.getD (u.length - 1) 0 = v.getD (v.length - 1) 0) (j : Nat) : lw u.dropLast (rot v) j = lw u v j := by
  have hl : 0 < u.length := List.length_pos_iff.mpr hu
  have hd : u.dropLast.length = u.length - 1 := List.length_dropLast
  by_cases h1 : j < u.length - 1
  · rw [lw_lt (by omega), lw_lt (by omega), List.dropLast_eq_take, take_getD h1 (by omega)]
  · rw [lw_ge (by omega), hd]
    by_cases h2 : j = u.length - 1
    · rw [h2, Nat.sub_self, rot_cyc0 hv, lw_lt (by omega), h]
    · rw [lw_ge (by omega)]
      have : j - (u.length - 1) = (j - u.length) + 1 := by omega
      rw [this, rot_cycS hv]
/-- what stripping leaves -/
structure Stripped (u v a b : List Int) : Prop where
  word : ∀ j, lw a b j = lw u v j
  len : b.length = v.length
  stop : a = [] ∨ a.getD (a.length - 1) 0 ≠ b.getD (b.length - 1) 0
theorem strp_ok : ∀ (n : Nat) (u v : List Int), u.length = n → v ≠ [] → Stripped u v (strp n u v).1 (strp n u v).2
  | 0, u, v, hn, hv => ⟨fun _ => rfl, rfl, .inl (List.eq_nil_of_length_eq_zero hn)⟩
  | n + 1, u, v, hn, hv => by
    unfold strp
    by_cases h : u ≠ [] ∧ u.getD (u.length - 1) 0 = v.getD (v.length - 1) 0
    · rw [if_pos h]
      have ih := strp_ok n u.dropLast (rot v) (by rw [List.length_dropLast]; omega) (rot_ne hv)
      exact ⟨fun j => (ih.word j).trans (step_lw h.1 hv h.2 j), ih.len.trans (rot_length hv), ih.stop⟩
    · rw [if_neg h]
      refine ⟨fun _ => rfl, rfl, ?_⟩
      by_cases hu : u = []
      · exact .inl hu
      · exact .inr fun e => h ⟨hu, e⟩
theorem least_ok (u : List Int) {v : List Int} (hv : v ≠ []) : Stripped u (root v) (least u v).1 (least u v).2 := strp_ok _ u (root v) rfl (root_ne hv)
theorem lw_least (u : List Int) {v : List Int} (hv : v ≠ []) (j : Nat) : lw (least u v).1 (least u v).2 j = lw u v j := ((least_ok u hv).word j).trans (lw_root hv j)
theorem least_len (u : List Int) {v : List Int} (hv : v ≠ []) : (least u v).2.length = rootSize v := (least_ok u hv).len.trans (root_length hv)
theorem least_ne (u : List Int) {v : List Int} (hv : v ≠ []) : (least u v).2 ≠ [] := fun e => by
  have h1 := least_len u hv
  have h2 := (rootSize_ok hv).1
  rw [e] at h1
  simp at h1
  omega
theorem pre_le {a b a' b' : List Int} (hb : b' ≠ []) (hw : ∀ j, lw a b j = lw a' b' j) (hl : b.length = b'.length) (hs : a' = [] ∨ a'.getD (a'.length - 1) 0 ≠ b'.getD (b'.length - 1) 0) : a'.length ≤ a.length := by
  have hbl : 0 < b'.length := List.length_pos_iff.mpr hb
  rcases Nat.lt_or_ge a.length a'.length with h | h
  · exfalso
    rcases hs with e | e
    · rw [e] at h
      simp at h
    · apply e
      have h1 := hw (a'.length - 1)
      have h2 := hw (a'.length - 1 + b'.length)
      rw [lw_ge (by omega), lw_lt (by omega)] at h1
      rw [lw_ge (by omega), lw_ge (by omega)] at h2
      have e1 : a'.length - 1 + b'.length - a.length = (a'.length - 1 - a.length) + b.length * 1 := by omega
      have e2 : a'.length - 1 + b'.length - a'.length = b'.length - 1 := by omega
      rw [e1, cyc_add, h1, e2, cyc_lt (by omega)] at h2
      exact h2
  · exact h
theorem least_unique {u v u' v' : List Int} (hv : v ≠ []) (hv' : v' ≠ []) (h : ∀ i, lw u v i = lw u' v' i) : least u v = least u' v' := by
  have hfun : lw u v = lw u' v' := funext h
  have hrs : rootSize v = rootSize v' := by
    have p1 : Per (lw u v) (rootSize v) := by
      have := per_lw (u := u) (v := root v)
      rw [root_length hv, funext (lw_root (u := u) hv)] at this
      exact this
    have p2 : Per (lw u' v') (rootSize v') := by
      have := per_lw (u := u') (v := root v')
      rw [root_length hv', funext (lw_root (u := u') hv')] at this
      exact this
    have a1 := root_min hv (rootSize_ok hv').1 (by rw [hfun]; exact p2)
    have a2 := root_min hv' (rootSize_ok hv).1 (by rw [← hfun]; exact p1)
    omega
  have hw : ∀ j, lw (least u v).1 (least u v).2 j = lw (least u' v').1 (least u' v').2 j := fun j => by rw [lw_least u hv, lw_least u' hv', h]
  have hl : (least u v).2.length = (least u' v').2.length := by rw [least_len u hv, least_len u' hv', hrs]
  have n1 := pre_le (least_ne u' hv') hw hl (by
    have := (least_ok u' hv').stop
    exact this)
  have n2 := pre_le (least_ne u hv) (fun j => (hw j).symm) hl.symm (least_ok u hv).stop
  have hn : (least u v).1.length = (least u' v').1.length := by omega
  have e1 : (least u v).1 = (least u' v').1 := ext_getD hn fun i hi => by
    have := hw i
    rw [lw_lt hi, lw_lt (by omega)] at this
    exact this
  have e2 : (least u v).2 = (least u' v').2 := ext_getD hl fun i hi => by
    have := hw ((least u v).1.length + i)
    rw [lw_ge (by omega), lw_ge (by omega), hn, Nat.add_sub_cancel_left, cyc_lt hi, cyc_lt (by omega)] at this
    exact this
  exact Prod.ext e1 e2
theorem least_eq_iff {u v u' v' : List Int} (hv : v ≠ []) (hv' : v' ≠ []) : least u v = least u' v' ↔ ∀ i, lw u v i = lw u' v' i := by
  constructor
  · intro h i
    rw [← lw_least u hv, ← lw_least u' hv', h]
  · exact least_unique hv hv'
/-- equal for long is equal for ever -/
theorem agree {u v u' v' : List Int} (h : ∀ i, i < max u.length u'.length + v.length + v'.length → lw u v i = lw u' v' i) : ∀ i, lw u v i = lw u' v' i := by
  have P : ∀ j, u.length ≤ j → lw u v (j + v.length) = lw u v j := fun j hj => by
    rw [lw_ge (by omega), lw_ge hj]
    have : j + v.length - u.length = (j - u.length) + v.length * 1 := by omega
    rw [this, cyc_add]
  have P' : ∀ j, u'.length ≤ j → lw u' v' (j + v'.length) = lw u' v' j := fun j hj => by
    rw [lw_ge (by omega), lw_ge hj]
    have : j + v'.length - u'.length = (j - u'.length) + v'.length * 1 := by omega
    rw [this, cyc_add]
  by_cases hv : v.length = 0
  · intro i
    by_cases hv' : v'.length = 0
    · by_cases hi : i < max u.length u'.length
      · exact h i (by omega)
      · rw [lw_ge (by omega), lw_ge (by omega)]
        have e1 : v = [] := List.eq_nil_of_length_eq_zero hv
        have e2 : v' = [] := List.eq_nil_of_length_eq_zero hv'
        rw [e1, e2]
        simp [cyc]
    · induction i using Nat.strongRecOn with
      | _ i ih =>
        by_cases hi : i < max u.length u'.length + v.length + v'.length
        · exact h i hi
        · have h1 := ih (i - v'.length) (by omega)
          have h2 := P' (i - v'.length) (by omega)
          rw [Nat.sub_add_cancel (by omega)] at h2
          rw [h2, ← h1]
          have e1 : v = [] := List.eq_nil_of_length_eq_zero hv
          rw [lw_ge (by omega), lw_ge (by omega), e1]
          simp [cyc]
  · intro i
    induction i using Nat.strongRecOn with
    | _ i ih =>
      by_cases hi : i < max u.length u'.length + v.length + v'.length
      · exact h i hi
      · have a1 := P (i - v.length) (by omega)
        rw [Nat.sub_add_cancel (by omega)] at a1
        rw [a1, ih (i - v.length) (by omega)]
        by_cases hv' : v'.length = 0
        · have e2 : v' = [] := List.eq_nil_of_length_eq_zero hv'
          rw [lw_ge (by omega), lw_ge (by omega), e2]
          simp [cyc]
        · have a2 := P' (i - v.length - v'.length) (by omega)
          rw [Nat.sub_add_cancel (by omega)] at a2
          have a3 := P' (i - v'.length) (by omega)
          rw [Nat.sub_add_cancel (by omega)] at a3
          have a4 := P (i - v'.length - v.length) (by omega)
          rw [Nat.sub_add_cancel (by omega)] at a4
          rw [a2, a3, ← ih (i - v'.length) (by omega), a4, ← ih (i - v.length - v'.length) (by omega)]
          congr 1
          omega
end WV
set_option maxRecDepth 100000
/-! Plain: what goes through a led machine, as endless words. -/
namespace K23
open WV
def gF (as : List Arc) (p : List Int × Int) (l : Int) : List Int × Int := match stp as p.2 l with
  | some a => (p.1 ++ a.out, a.g)
  | none => p
theorem go_eq (as : List Arc) (s : Int) (ws : List Int) : go as s ws = ws.foldl (gF as) ([], s) := rfl
theorem go_acc (as : List Arc) : ∀ (ws : List Int) (t : List Int) (s : Int), ws.foldl (gF as) (t, s) = (t ++ (go as s ws).1, (go as s ws).2)
  | [], t, s => by simp [go]
  | l :: ws, t, s => by
    rw [List.foldl_cons, go_eq, List.foldl_cons]
    unfold gF
    cases stp as s l with
    | none =>
      simp only
      exact go_acc as ws t s
    | some a =>
      simp only [List.nil_append]
      have h1 := go_acc as ws (t ++ a.out) a.g
      have h2 := go_acc as ws a.out a.g
      unfold gF at h1 h2
      rw [h1, h2, List.append_assoc]
theorem go_append (as : List Arc) (s : Int) (a b : List Int) : go as s (a ++ b) = ((go as s a).1 ++ (go as (go as s a).2 b).1, (go as (go as s a).2 b).2) := by
  rw [go_eq, List.foldl_append, ← go_eq, ← go_acc]
theorem repI_snoc (j : Nat) (v : List Int) : repI (j + 1) v = repI j v ++ v := by
  unfold repI
  rw [List.replicate_succ', List.flatten_append]
  simp
/-- all that is told of u v .. v -/
def cat (f : Nat → List Int) : Nat → List Int
  | 0 => []
  | j + 1 => cat f j ++ f j
theorem cat_map (f : Nat → List Int) : ∀ n, ((List.range n).map f).flatten = cat f n
  | 0 => by simp [cat]
  | n + 1 => by
    rw [List.range_succ, List.map_append, List.flatten_append, cat_map f n]
    simp [cat]
theorem cat_add (f : Nat → List Int) (a : Nat) : ∀ b, cat f (a + b) = cat f a ++ cat (fun j => f (a + j)) b
  | 0 => by simp [cat]
  | b + 1 => by
    show cat f (a + b) ++ f (a + b) = _
    rw [cat_add f a b, List.append_assoc]
    rfl
theorem go_rep (as : List Arc) (s : Int) (u v : List Int) : ∀ j, go as s (u ++ repI j v) = ((go as s u).1 ++ cat (Wq as v (go as s u).2) j, Sq as v (go as s u).2 j)
  | 0 => by simp [repI, cat, Sq]
  | j + 1 => by
    rw [repI_snoc, ← List.append_assoc, go_append, go_rep as s u v j]
    simp only
    rw [List.append_assoc]
    rfl
theorem thr_eq (n : Nat) (as : List Arc) (s : Int) (u v : List Int) (h : pre (Sq as v (go as s u).2) n < per (Sq as v (go as s u).2) n) : thr n as s u v = ((go as s u).1 ++ cat (Wq as v (go as s u).2) (pre (Sq as v (go as s u).2) n), cat (fun j => Wq as v (go as s u).2 (pre (Sq as v (go as s u).2) n + j)) (per (Sq as v (go as s u).2) n - pre (Sq as v (go as s u).2) n)) := by
  unfold thr
  generalize hS : Sq as v (go as s u).2 = S at *
  generalize Wq as v (go as s u).2 = Wd
  generalize pre S n = a at *
  generalize per S n = m at *
  congr 1
  · rw [← List.map_take, List.take_range, Nat.min_eq_left (by omega), cat_map]
  · have h1 : cat Wd m = cat Wd a ++ cat (fun j => Wd (a + j)) (m - a) := by
      have := cat_add Wd a (m - a)
      rw [show a + (m - a) = m by omega] at this
      exact this
    have h2 : ((List.range m).map Wd).flatten = (((List.range m).map Wd).take a).flatten ++ (((List.range m).map Wd).drop a).flatten := by
      rw [← List.flatten_append, List.take_append_drop]
    rw [cat_map, ← List.map_take, List.take_range, Nat.min_eq_left (by omega), cat_map, h1] at h2
    exact (List.append_cancel_left h2).symm
/-- a word stands at the beginning of an endless one -/
def Bgn (x : List Int) (f : Nat → Int) : Prop := ∀ i, i < x.length → x.getD i 0 = f i
theorem Bgn.left {x y : List Int} {f : Nat → Int} (h : Bgn (x ++ y) f) : Bgn x f := fun i hi => by
  rw [← h i (by rw [List.length_append]; omega), getD_app_lt hi]
theorem Bgn.app {x y : List Int} {f : Nat → Int} (h1 : Bgn x f) (h2 : Bgn y fun i => f (x.length + i)) : Bgn (x ++ y) f := fun i hi => by
  rw [List.length_append] at hi
  by_cases h : i < x.length
  · rw [getD_app_lt h]
    exact h1 i h
  · rw [getD_app_ge (by omega), h2 (i - x.length) (by omega)]
    show f (x.length + (i - x.length)) = f i
    rw [show x.length + (i - x.length) = i by omega]
theorem Bgn.right {x y : List Int} {f : Nat → Int} (h : Bgn (x ++ y) f) : Bgn y fun i => f (x.length + i) := fun i hi => by
  have := h (x.length + i) (by rw [List.length_append]; omega)
  rw [getD_app_ge (by omega), Nat.add_sub_cancel_left] at this
  exact this
theorem bgn_cyc (r : List Int) : ∀ q, Bgn (repI q r) (cyc r) := fun q i hi => by
  rw [repI_length] at hi
  exact repI_get r q i hi
/-- a list of words that comes round again after d -/
theorem cat_round {f : Nat → List Int} {d : Nat} (hd : 1 ≤ d) (hf : ∀ j, f (j + d) = f j) : ∀ q, cat f (d * q) = repI q (cat f d)
  | 0 => by simp [cat, repI]
  | q + 1 => by
    have h1 : ∀ q j, f (d * q + j) = f j := fun q => by
      induction q with
      | zero => intro j; simp
      | succ q ih =>
        intro j
        have : d * (q + 1) + j = (d * q + j) + d := by rw [Nat.mul_succ]; omega
        rw [this, hf, ih]
    have h2 : (fun j => f (d * q + j)) = f := funext (h1 q)
    rw [Nat.mul_succ, cat_add, cat_round hd hf q, h2, repI_snoc]
theorem cat_bgn {f : Nat → List Int} {d : Nat} (hd : 1 ≤ d) (hf : ∀ j, f (j + d) = f j) (k : Nat) : Bgn (cat f k) (cyc (cat f d)) := by
  have hk : k ≤ d * k := Nat.le_mul_of_pos_left k hd
  have h1 := bgn_cyc (cat f d) k
  rw [← cat_round hd hf k] at h1
  have h2 := cat_add f k (d * k - k)
  rw [show k + (d * k - k) = d * k by omega] at h2
  rw [h2] at h1
  exact h1.left
theorem Sq_round {as : List Arc} {v : List Int} {h : Int} {a d : Nat} (e : Sq as v h (a + d) = Sq as v h a) : ∀ j, Sq as v h (a + (j + d)) = Sq as v h (a + j)
  | 0 => by simpa using e
  | j + 1 => by
    have : a + (j + 1 + d) = (a + (j + d)) + 1 := by omega
    rw [this]
    show (go as (Sq as v h (a + (j + d))) v).2 = (go as (Sq as v h (a + j)) v).2
    rw [Sq_round e j]
/-- all that is told stands at the beginning of the lasso that is told -/
theorem thr_bgn {n k : Nat} {as : List Arc} (F : Full n k as) {s : Int} (hs : St n s) {u v : List Int} (hu : Wd k u) (hv : Wd k v) (j : Nat) : Bgn (go as s (u ++ repI j v)).1 (lw (thr n as s u v).1 (thr n as s u v).2) := by
  have g := (go_ok F hs hu).1
  obtain ⟨p1, p2, p3⟩ := pre_S F hv g
  rw [go_rep, thr_eq n as s u v p1]
  generalize hh : (go as s u).2 = h at *
  generalize ha : pre (Sq as v h) n = a at *
  generalize hm : per (Sq as v h) n = m at *
  have hround : ∀ j, Wq as v h (a + (j + (m - a))) = Wq as v h (a + j) := fun j => by
    unfold Wq
    rw [Sq_round (by rw [show a + (m - a) = m by omega]; exact p2.symm) j]
  have key : ∀ k, Bgn (((go as s u).1 ++ cat (Wq as v h) a) ++ cat (fun j => Wq as v h (a + j)) k) (lw ((go as s u).1 ++ cat (Wq as v h) a) (cat (fun j => Wq as v h (a + j)) (m - a))) := fun k => by
    refine Bgn.app (fun i hi => ?_) (fun i hi => ?_)
    · rw [lw_lt hi]
    · have := cat_bgn (f := fun j => Wq as v h (a + j)) (d := m - a) (by omega) hround k i hi
      rw [this]
      show _ = lw _ _ _
      rw [lw_ge (by omega), Nat.add_sub_cancel_left]
  show Bgn ((go as s u).1 ++ cat (Wq as v h) j) (lw ((go as s u).1 ++ cat (Wq as v h) a) (cat (fun j => Wq as v h (a + j)) (m - a)))
  have hk := key j
  rw [List.append_assoc, ← cat_add, Nat.add_comm a j, cat_add, ← List.append_assoc] at hk
  exact hk.left
end K23
set_option maxRecDepth 100000
/-! Plain: shifts of what goes through. -/
namespace K23
open WV
theorem drop_getD {v : List Int} {t i : Nat} : (v.drop t).getD i 0 = v.getD (t + i) 0 := by
  simp [List.getD, List.getElem?_drop]
theorem turn_cyc {v : List Int} {t : Nat} (hv : v ≠ []) (ht : t < v.length) (j : Nat) : cyc (v.drop t ++ v.take t) j = cyc v (t + j) := by
  have hl : 0 < v.length := List.length_pos_iff.mpr hv
  have hlen : (v.drop t ++ v.take t).length = v.length := by
    rw [List.length_append, List.length_drop, List.length_take]
    omega
  have hj := Nat.mod_lt j hl
  have hmd := Nat.mod_add_div j v.length
  have e1 : cyc v (t + j) = cyc v (t + j % v.length) := by
    have : t + j = (t + j % v.length) + v.length * (j / v.length) := by omega
    rw [this, cyc_add]
  rw [e1]
  unfold cyc
  rw [hlen]
  generalize j % v.length = i at hj
  by_cases h : i < v.length - t
  · rw [getD_app_lt (by rw [List.length_drop]; exact h), drop_getD, Nat.mod_eq_of_lt (by omega)]
  · rw [getD_app_ge (by rw [List.length_drop]; omega), List.length_drop, take_getD (by omega) (by omega)]
    have : (t + i) % v.length = t + i - v.length := by
      have : t + i = (t + i - v.length) + v.length * 1 := by omega
      rw [this, Nat.add_mul_mod_self_left, Nat.mod_eq_of_lt (by omega)]
      omega
    rw [this]
    congr 1
    omega
theorem shift_is (u : List Int) {v : List Int} (hv : v ≠ []) (i : Nat) : ∃ p q : List Int, q ≠ [] ∧ shift u v i = least p q ∧ ∀ j, lw p q j = lw u v (i + j) := by
  have hl : 0 < v.length := List.length_pos_iff.mpr hv
  unfold shift
  by_cases h : i ≤ u.length
  · rw [if_pos h]
    refine ⟨_, _, hv, rfl, fun j => ?_⟩
    have hd : (u.drop i).length = u.length - i := List.length_drop
    by_cases hj : j < u.length - i
    · rw [lw_lt (by omega), lw_lt (by omega), drop_getD]
    · rw [lw_ge (by omega), lw_ge (by omega), hd]
      congr 1
      omega
  · rw [if_neg h]
    have ht := Nat.mod_lt (i - u.length) hl
    have hmd := Nat.mod_add_div (i - u.length) v.length
    refine ⟨_, _, ?_, rfl, fun j => ?_⟩
    · intro e
      have := congrArg List.length e
      rw [List.length_append, List.length_drop, List.length_take, List.length_nil] at this
      omega
    · rw [lw_ge (by simp), lw_ge (by omega), List.length_nil, Nat.sub_zero, turn_cyc hv ht]
      have : i + j - u.length = ((i - u.length) % v.length + j) + v.length * ((i - u.length) / v.length) := by omega
      rw [this, cyc_add]
theorem shift_lw (u : List Int) {v : List Int} (hv : v ≠ []) (i j : Nat) : lw (shift u v i).1 (shift u v i).2 j = lw u v (i + j) := by
  obtain ⟨p, q, hq, e, hw⟩ := shift_is u hv i
  rw [e, lw_least p hq, hw]
theorem shift_ne (u : List Int) {v : List Int} (hv : v ≠ []) (i : Nat) : (shift u v i).2 ≠ [] := by
  obtain ⟨p, q, hq, e, hw⟩ := shift_is u hv i
  rw [e]
  exact least_ne p hq
theorem getD_memI {v : List Int} {i : Nat} (h : i < v.length) : v.getD i 0 ∈ v := by
  rw [List.getD, List.getElem?_eq_getElem h]
  exact List.getElem_mem h
theorem lw_in {k : Nat} {u v : List Int} (hu : Wd k u) (hw : Wd k v) (hv : v ≠ []) (j : Nat) : 0 ≤ lw u v j ∧ lw u v j < (k : Int) := by
  have hl : 0 < v.length := List.length_pos_iff.mpr hv
  by_cases h : j < u.length
  · rw [lw_lt h]
    exact hu _ (getD_memI h)
  · rw [lw_ge (by omega)]
    exact hw _ (getD_memI (Nat.mod_lt _ hl))
theorem wd_of {k : Nat} {a b : List Int} (hb : b ≠ []) (h : ∀ j, 0 ≤ lw a b j ∧ lw a b j < (k : Int)) : Wd k a ∧ Wd k b := by
  constructor
  · intro z hz
    obtain ⟨i, hi, e⟩ := List.mem_iff_getElem.mp hz
    have := h i
    rw [lw_lt hi] at this
    simpa [List.getD, hi, e] using this
  · intro z hz
    obtain ⟨i, hi, e⟩ := List.mem_iff_getElem.mp hz
    have := h (a.length + i)
    rw [lw_ge (by omega), Nat.add_sub_cancel_left, cyc_lt hi] at this
    simpa [List.getD, hi, e] using this
theorem shift_wd {k : Nat} {u v : List Int} (hu : Wd k u) (hw : Wd k v) (hv : v ≠ []) (i : Nat) : Wd k (shift u v i).1 ∧ Wd k (shift u v i).2 :=
  wd_of (shift_ne u hv i) fun j => by
    rw [shift_lw u hv]
    exact lw_in hu hw hv _
def pfx (f : Nat → Int) (n : Nat) : List Int := (List.range n).map f
theorem pfx_len (f : Nat → Int) (n : Nat) : (pfx f n).length = n := by simp [pfx]
theorem pfx_bgn (f : Nat → Int) (n : Nat) : Bgn (pfx f n) f := fun i hi => by
  rw [pfx_len] at hi
  unfold pfx
  simp [List.getD, hi]
theorem bgn_split {x z : List Int} {f : Nat → Int} (hx : Bgn x f) (hz : Bgn z f) (h : x.length ≤ z.length) : ∃ y, z = x ++ y := by
  refine ⟨z.drop x.length, ?_⟩
  have : z.take x.length = x := ext_getD (by rw [List.length_take]; omega) fun i hi => by
    rw [List.length_take] at hi
    rw [take_getD (by omega) h, hz i (by omega), hx i (by omega)]
  conv => lhs; rw [← List.take_append_drop x.length z]
  rw [this]
theorem bgn_lasso (u v : List Int) (j : Nat) : Bgn (u ++ repI j v) (lw u v) :=
  Bgn.app (fun i hi => by rw [lw_lt hi]) fun i hi => by
    rw [bgn_cyc v j i hi]
    show _ = lw _ _ _
    rw [lw_ge (by omega), Nat.add_sub_cancel_left]
theorem go_bgn {n k : Nat} {as : List Arc} (F : Full n k as) {s : Int} (hs : St n s) {u v : List Int} (hu : Wd k u) (hw : Wd k v) (hv : v ≠ []) {x : List Int} (hx : Bgn x (lw u v)) : Bgn (go as s x).1 (lw (thr n as s u v).1 (thr n as s u v).2) := by
  have hl : 0 < v.length := List.length_pos_iff.mpr hv
  obtain ⟨y, hy⟩ := bgn_split hx (bgn_lasso u v x.length) (by
    rw [List.length_append, repI_length]
    have := Nat.le_mul_of_pos_right x.length hl
    omega)
  have h1 := thr_bgn F hs hu hw x.length
  rw [hy, go_append] at h1
  exact h1.left
theorem go_ge {n k : Nat} {as : List Arc} (F : Full n k as) (ho : ∀ a ∈ as, 1 ≤ a.out.length) : ∀ (x : List Int) {s : Int}, St n s → Wd k x → x.length ≤ (go as s x).1.length
  | [], s, _, _ => by simp
  | l :: x, s, hs, hw => by
    have e : l :: x = [l] ++ x := rfl
    obtain ⟨p1, p2⟩ := hw l (by simp)
    obtain ⟨a, ha, g1, g2⟩ := F.arc s l hs.1 hs.2 p1 p2
    have h1 : go as s [l] = (a.out, a.g) := by
      have := go_snoc (as := as) (s := s) (ws := []) (l := l) (a := a) ha
      simpa [go] using this
    have h2 := go_ge F ho x (s := a.g) ⟨g1, g2⟩ (fun z hz => hw z (by simp [hz]))
    have h3 := ho a (List.mem_of_find?_eq_some ha)
    rw [e, go_append, h1]
    simp only [List.length_append, List.length_cons, List.length_nil]
    omega
/-- what goes through behind a piece is the piece's shift -/
theorem thr_shift {n k : Nat} {as : List Arc} (F : Full n k as) (ho : ∀ a ∈ as, 1 ≤ a.out.length) {s : Int} (hs : St n s) {u v : List Int} (hu : Wd k u) (hw : Wd k v) (hv : v ≠ []) {x : List Int} (hx : Bgn x (lw u v)) (i : Nat) :
    lw (thr n as (go as s x).2 (shift u v x.length).1 (shift u v x.length).2).1 (thr n as (go as s x).2 (shift u v x.length).1 (shift u v x.length).2).2 i = lw (thr n as s u v).1 (thr n as s u v).2 ((go as s x).1.length + i) := by
  obtain ⟨w1, w2⟩ := shift_wd hu hw hv x.length
  have hne := shift_ne u hv x.length
  have hxw : Wd k x := fun z hz => by
    obtain ⟨j, hj, e⟩ := List.mem_iff_getElem.mp hz
    have h1 := hx j hj
    have h2 := lw_in hu hw hv j
    rw [← h1] at h2
    simpa [List.getD, hj, e] using h2
  have hs' := (go_ok F hs hxw).1
  have hyb := pfx_bgn (lw (shift u v x.length).1 (shift u v x.length).2) (i + 1)
  have hyw : Wd k (pfx (lw (shift u v x.length).1 (shift u v x.length).2) (i + 1)) := fun z hz => by
    unfold pfx at hz
    obtain ⟨j, _, rfl⟩ := List.mem_map.mp hz
    exact lw_in w1 w2 hne j
  have hlen := go_ge F ho _ hs' hyw
  rw [pfx_len] at hlen
  have b1 := go_bgn F hs' w1 w2 hne hyb
  have hxy : Bgn (x ++ pfx (lw (shift u v x.length).1 (shift u v x.length).2) (i + 1)) (lw u v) := Bgn.app hx fun j hj => by
    rw [hyb j hj, shift_lw u hv]
  have b2 := go_bgn F hs hu hw hv hxy
  rw [go_append] at b2
  have b3 := b2.right i (by omega)
  rw [← b1 i (by omega)]
  exact b3
theorem thr_ne {n k : Nat} {as : List Arc} (F : Full n k as) (ho : ∀ a ∈ as, 1 ≤ a.out.length) {s : Int} (hs : St n s) {u v : List Int} (hu : Wd k u) (hw : Wd k v) (hv : v ≠ []) : (thr n as s u v).2 ≠ [] := by
  have hl : 0 < v.length := List.length_pos_iff.mpr hv
  have g := (go_ok F hs hu).1
  obtain ⟨p1, p2, p3⟩ := pre_S F hw g
  rw [thr_eq n as s u v p1]
  intro e
  have hd : 1 ≤ per (Sq as v (go as s u).2) n - pre (Sq as v (go as s u).2) n := by omega
  obtain ⟨d, hd'⟩ : ∃ d, per (Sq as v (go as s u).2) n - pre (Sq as v (go as s u).2) n = d + 1 := ⟨_, (Nat.sub_add_cancel hd).symm⟩
  simp only [hd'] at e
  have e2 : Wq as v (go as s u).2 (pre (Sq as v (go as s u).2) n + d) = [] := (List.append_eq_nil_iff.mp e).2
  have := go_ge F ho v (Sq_ok F hw g (pre (Sq as v (go as s u).2) n + d)) hw
  unfold Wq at e2
  rw [e2, List.length_nil] at this
  omega
end K23
set_option maxRecDepth 100000
/-! Plain: words as maps of a led machine's states. -/
namespace K23
open WV
def gmap (n : Nat) (as : List Arc) (ws : List Int) : List Int := (List.range n).map fun i => (go as ((i : Nat) : Int) ws).2
theorem gmap_len (n : Nat) (as : List Arc) (ws : List Int) : (gmap n as ws).length = n := by simp [gmap]
theorem gmap_ok {n k : Nat} {as : List Arc} (F : Full n k as) {ws : List Int} (hw : Wd k ws) : Mp n (gmap n as ws) := by
  refine ⟨gmap_len _ _ _, fun s hs => ?_⟩
  unfold gmap at hs
  obtain ⟨i, hi, rfl⟩ := List.mem_map.mp hs
  rw [List.mem_range] at hi
  exact (go_ok F (s := ((i : Nat) : Int)) ⟨by omega, by omega⟩ hw).1
theorem gmap_get {n : Nat} {as : List Arc} {s : Int} (hs : St n s) (ws : List Int) : (gmap n as ws).getD s.toNat 0 = (go as s ws).2 := by
  have h0 := hs.1
  have h1 := hs.2
  have hi : s.toNat < n := by omega
  unfold gmap
  simp [List.getD, hi, Int.toNat_of_nonneg h0]
theorem tm_get {a b : List Int} {i : Nat} (h : i < a.length) : (tm a b).getD i 0 = b.getD (a.getD i 0).toNat 0 := by
  unfold tm
  simp [List.getD, h]
theorem Pw_gmap {n k : Nat} {as : List Arc} (F : Full n k as) {v : List Int} (hw : Wd k v) {h : Int} (hs : St n h) : ∀ j, (Pw (gmap n as v) j).getD h.toNat 0 = Sq as v h (j + 1)
  | 0 => gmap_get hs v
  | j + 1 => by
    have hl : h.toNat < (Pw (gmap n as v) j).length := by
      rw [(Pw_ok (gmap_ok F hw) j).1]
      have := hs.1
      have := hs.2
      omega
    show (tm (Pw (gmap n as v) j) (gmap n as v)).getD h.toNat 0 = _
    rw [tm_get hl, Pw_gmap F hw hs j, gmap_get (Sq_ok F hw hs (j + 1))]
    rfl
theorem gmap_nil (n : Nat) (as : List Arc) : gmap n as [] = idm n := by
  unfold gmap idm
  rfl
theorem mpw_gmap {n k : Nat} {as : List Arc} (F : Full n k as) : ∀ (m : Nat) (ws : List Int), ws.length = m → Wd k ws → mpw ((List.range k).map fun a => gmap n as [((a : Nat) : Int)]) (idm n) ws = gmap n as ws
  | 0, ws, hm, _ => by
    have : ws = [] := List.eq_nil_of_length_eq_zero hm
    rw [this, gmap_nil]
    rfl
  | m + 1, ws, hm, hw => by
    have hne : ws ≠ [] := by
      intro e
      rw [e] at hm
      cases hm
    obtain ⟨us, l, rfl⟩ : ∃ us l, ws = us ++ [l] := ⟨ws.dropLast, ws.getLast hne, (List.dropLast_concat_getLast hne).symm⟩
    have hl : us.length = m := by
      rw [List.length_append] at hm
      simpa using hm
    have hu : Wd k us := fun x hx => hw x (by simp [hx])
    obtain ⟨p1, p2⟩ := hw l (by simp)
    have hlt : l.toNat < k := by omega
    rw [mpw_snoc, mpw_gmap F m us hl hu]
    have e1 : ((List.range k).map fun a => gmap n as [((a : Nat) : Int)]).getD l.toNat [] = gmap n as [l] := by
      simp [List.getD, hlt, Int.toNat_of_nonneg p1]
    rw [e1]
    refine ext_getD (by unfold tm; rw [List.length_map, gmap_len, gmap_len]) fun i hi => ?_
    unfold tm at hi
    rw [List.length_map] at hi
    rw [tm_get hi]
    rw [gmap_len] at hi
    have hs : St n ((i : Nat) : Int) := ⟨by omega, by omega⟩
    have g1 := gmap_get (as := as) hs us
    have g2 := gmap_get (as := as) hs (us ++ [l])
    rw [Int.toNat_natCast] at g1 g2
    rw [g1, g2, gmap_get (go_ok F hs hu).1, go_append]
end K23
set_option maxRecDepth 100000
/-! Plain: moves as led machines of one state; full machines from the law's pairs. -/
namespace K23
open WV
theorem lw_twin (u v : List Int) (hv : v ≠ []) (j : Nat) : lw (u ++ v) v j = lw u v j := by
  by_cases h : j < u.length
  · rw [lw_lt (by rw [List.length_append]; omega), lw_lt h, getD_app_lt h]
  · by_cases h2 : j < u.length + v.length
    · rw [lw_lt (by rw [List.length_append]; omega), lw_ge (by omega), getD_app_ge (by omega), cyc_lt (by omega)]
    · rw [lw_ge (by rw [List.length_append]; omega), lw_ge (by omega), List.length_append]
      have : j - u.length = (j - (u.length + v.length)) + v.length * 1 := by omega
      rw [this, cyc_add]
def mvArcs (ms : List (List Int)) : List Arc := (List.range ms.length).map fun a => ⟨0, ((a : Nat) : Int), ms.getD a [], 0⟩
theorem mv_stp (ms : List (List Int)) {l : Int} (h0 : 0 ≤ l) (h1 : l < (ms.length : Int)) : stp (mvArcs ms) 0 l = some ⟨0, l, ms.getD l.toNat [], 0⟩ := by
  unfold stp mvArcs
  rw [List.find?_map]
  have : (List.range ms.length).find? (isArc 0 l ∘ fun a => (⟨0, ((a : Nat) : Int), ms.getD a [], 0⟩ : Arc)) = some l.toNat := by
    rw [List.find?_range_eq_some]
    refine ⟨?_, by simp; omega, fun j hj => ?_⟩
    · show decide _ = true
      rw [decide_eq_true_eq]
      simp [Int.toNat_of_nonneg h0]
    · show (!decide _) = true
      rw [Bool.not_eq_true', decide_eq_false_iff_not]
      simp
      omega
  rw [this]
  simp [Int.toNat_of_nonneg h0]
theorem mv_full (ms : List (List Int)) (hm : ∀ m ∈ ms, m.length ≤ 4) (hz : ms.length ≤ 1000) : Full 1 ms.length (mvArcs ms) := by
  refine ⟨by unfold mvArcs; rw [List.length_map, List.length_range]; omega, fun a ha => ?_, fun s l s0 s1 l0 l1 => ?_⟩
  · unfold mvArcs at ha
    obtain ⟨i, hi, rfl⟩ := List.mem_map.mp ha
    rw [List.mem_range] at hi
    exact hm _ (getD_mem hi)
  · have : s = 0 := by omega
    subst this
    exact ⟨_, mv_stp ms l0 l1, by show (0 : Int) ≤ 0; omega, by show (0 : Int) < 1; omega⟩
theorem mv_go (ms : List (List Int)) : ∀ (m : Nat) (ws : List Int), ws.length = m → Wd ms.length ws → go (mvArcs ms) 0 ws = (mvw ms ws, 0)
  | 0, ws, hm, _ => by
    have : ws = [] := List.eq_nil_of_length_eq_zero hm
    rw [this]
    rfl
  | m + 1, ws, hm, hw => by
    have hne : ws ≠ [] := by
      intro e
      rw [e] at hm
      cases hm
    obtain ⟨us, l, rfl⟩ : ∃ us l, ws = us ++ [l] := ⟨ws.dropLast, ws.getLast hne, (List.dropLast_concat_getLast hne).symm⟩
    have hl : us.length = m := by
      rw [List.length_append] at hm
      simpa using hm
    have hu : Wd ms.length us := fun x hx => hw x (by simp [hx])
    obtain ⟨p1, p2⟩ := hw l (by simp)
    have ih := mv_go ms m us hl hu
    rw [go_snoc (a := ⟨0, l, ms.getD l.toNat [], 0⟩) (by rw [ih]; exact mv_stp ms p1 p2), ih, mvw_snoc]
theorem mv_thr (ms : List (List Int)) {u v : List Int} (hu : Wd ms.length u) (hv : Wd ms.length v) : thr 1 (mvArcs ms) 0 u v = (mvw ms u, mvw ms v) := by
  have hS : ∀ j, Sq (mvArcs ms) v 0 j = 0 := fun j => by
    induction j with
    | zero => rfl
    | succ j ih =>
      show (go (mvArcs ms) (Sq (mvArcs ms) v 0 j) v).2 = 0
      rw [ih, mv_go ms _ v rfl hv]
  have hW : ∀ j, Wq (mvArcs ms) v 0 j = mvw ms v := fun j => by
    unfold Wq
    rw [hS, mv_go ms _ v rfl hv]
  have hper : per (Sq (mvArcs ms) v 0) 1 = 1 := by
    unfold per
    have : (List.range (1 + 1)).find? (hit (Sq (mvArcs ms) v 0)) = some 1 := by
      rw [List.find?_range_eq_some]
      refine ⟨hit_iff.mpr ⟨0, by omega, by rw [hS, hS]⟩, by simp, fun j hj => ?_⟩
      have : j = 0 := by omega
      subst this
      rfl
    rw [this]
    rfl
  have hpre : pre (Sq (mvArcs ms) v 0) 1 = 0 := by
    unfold pre
    rw [hper]
    have : (List.range 1).find? (fun j => decide (Sq (mvArcs ms) v 0 j = Sq (mvArcs ms) v 0 1)) = some 0 := by
      rw [List.find?_range_eq_some]
      exact ⟨decide_eq_true (by rw [hS, hS]), by simp, fun j hj => by omega⟩
    rw [this]
    rfl
  have hg := mv_go ms _ u rfl hu
  unfold thr
  rw [hg]
  simp only
  rw [hper, hpre]
  simp [hW]
end K23
set_option maxRecDepth 100000
/-! Plain: the drawn machine is full, its arcs differ. -/
namespace K23
open WV
def tk (k t : Nat) : Int × Int := (((t / k : Nat) : Int), ((t % k : Nat) : Int))
theorem row_tk {k : Nat} (hk : 1 ≤ k) (n : Nat) : row n k = (List.range k).map fun a => tk k (n * k + a) := by
  unfold row
  apply List.map_congr_left
  intro a ha
  rw [List.mem_range] at ha
  unfold tk
  have e1 : (n * k + a) / k = n := by
    rw [Nat.mul_comm, Nat.mul_add_div (by omega), Nat.div_eq_of_lt ha, Nat.add_zero]
  have e2 : (n * k + a) % k = a := by
    rw [Nat.mul_comm, Nat.mul_add_mod, Nat.mod_eq_of_lt ha]
  rw [e1, e2]
theorem prs_tk {k : Nat} (hk : 1 ≤ k) : ∀ n, prs k n = (List.range (n * k)).map (tk k)
  | 0 => by simp [prs]
  | n + 1 => by
    rw [prs_succ, prs_tk hk n, row_tk hk n, Nat.succ_mul, List.range_add, List.map_append, List.map_map]
    rfl
theorem tk_inj {k a b : Nat} (h : tk k a = tk k b) : a = b := by
  unfold tk at h
  simp only [Prod.mk.injEq] at h
  have h1 : a / k = b / k := by omega
  have h2 : a % k = b % k := by omega
  rw [← Nat.div_add_mod a k, ← Nat.div_add_mod b k, h1, h2]
theorem prs_nodup {k : Nat} (hk : 1 ≤ k) (n : Nat) : (prs k n).Nodup := by
  rw [prs_tk hk]
  exact nodup_map' (fun a b e => tk_inj e) List.nodup_range
section
variable {m n k : Nat} {as : List Arc}
theorem arcs_nodup (hk : 1 ≤ k) (h : Arcs m n (prs k n) as) : (as.map fun a => [a.s, a.l]).Nodup := by
  have e : (as.map fun a => [a.s, a.l]) = (as.map fun a => (a.s, a.l)).map fun p => [p.1, p.2] := by
    rw [List.map_map]
    rfl
  rw [e, h.1]
  refine nodup_map' (fun a b e => ?_) (prs_nodup hk n)
  simp only [List.cons.injEq, and_true] at e
  exact Prod.ext e.1 e.2
theorem arcs_len (h : Arcs m n (prs k n) as) : as.length = n * k := by
  have := congrArg List.length h.1
  rw [List.length_map, prs_len] at this
  exact this
theorem arcs_mem (h : Arcs m n (prs k n) as) {s l : Int} (s0 : 0 ≤ s) (s1 : s < (n : Int)) (l0 : 0 ≤ l) (l1 : l < (k : Int)) : ∃ a ∈ as, a.s = s ∧ a.l = l := by
  have hm : (s, l) ∈ prs k n := by
    unfold prs
    rw [List.mem_flatMap]
    refine ⟨s.toNat, List.mem_range.mpr (by omega), ?_⟩
    unfold row
    rw [List.mem_map]
    exact ⟨l.toNat, List.mem_range.mpr (by omega), by rw [Int.toNat_of_nonneg s0, Int.toNat_of_nonneg l0]⟩
  rw [← h.1] at hm
  obtain ⟨a, ha, e⟩ := List.mem_map.mp hm
  simp only [Prod.mk.injEq] at e
  exact ⟨a, ha, e.1, e.2⟩
theorem arcs_full (hn : n ≤ 100) (hk : k ≤ 100) (h : Arcs m n (prs k n) as) : Full n k as := by
  refine ⟨?_, fun a ha => ?_, fun s l s0 s1 l0 l1 => ?_⟩
  · rw [arcs_len h]
    have := Nat.mul_le_mul hn hk
    omega
  · have := (h.2 a ha).2.2.1
    omega
  · obtain ⟨a, ha, e1, e2⟩ := arcs_mem h s0 s1 l0 l1
    have : ((as.find? (isArc s l))).isSome := by
      rw [List.find?_isSome]
      refine ⟨a, ha, ?_⟩
      show decide _ = true
      rw [decide_eq_true_eq, e1, e2]
    obtain ⟨b, hb⟩ := Option.isSome_iff_exists.mp this
    have hg := (h.2 b (List.mem_of_find?_eq_some hb)).2.2.2
    exact ⟨b, hb, hg.1, hg.2⟩
theorem ends_all {s : Int} (hs : St n s) : ∃ e ∈ endsN n, e.1 = s := by
  have h0 := hs.1
  have h1 := hs.2
  unfold endsN
  exact ⟨(s, []), List.mem_map.mpr ⟨s.toNat, List.mem_range.mpr (by omega), by rw [Int.toNat_of_nonneg h0]⟩, rfl⟩
theorem ends_nodup : ((endsN n).map fun e => e.1).Nodup := by
  unfold endsN
  rw [List.map_map]
  exact nodup_map' (f := (fun e : Int × List Int => e.1) ∘ fun (i : Nat) => ((i : Int), ([] : List Int))) (fun a b e => by
    have : (a : Int) = (b : Int) := e
    omega) List.nodup_range
theorem ends_empty : ∀ e ∈ endsN n, e.2 = [] := by
  intro e he
  unfold endsN at he
  obtain ⟨i, _, rfl⟩ := List.mem_map.mp he
  rfl
theorem ends_len : (endsN n).length = n := by simp [endsN]
end
end K23
set_option maxRecDepth 100000
/-! Plain: led_error of the drawn machine. -/
namespace K23
open WV PyProof.Rows
theorem toks_arc (a : Arc) : ∃ r, PySem.W.keyToks (arcD a) = .inl 1 :: .inl a.s :: .inl 1 :: .inl a.l :: r := ⟨_, by
  unfold arcD
  simp only [PySem.W.keyToks, PySem.W.keyToksAll, List.cons_append, List.nil_append]
  rfl⟩
theorem lt_arc {a b : Arc} (h : a.s < b.s ∨ (a.s = b.s ∧ a.l < b.l)) : PySem.W.dataLt (arcD a) (arcD b) = true := by
  obtain ⟨r, hr⟩ := toks_arc a
  obtain ⟨t, ht⟩ := toks_arc b
  unfold PySem.W.dataLt
  rw [hr, ht, lex_self]
  rcases h with h | ⟨h1, h2⟩
  · rw [lex_diff (fun e => by
      have : a.s = b.s := by injection e
      omega)]
    show decide (a.s < b.s) = true
    exact decide_eq_true h
  · rw [h1, lex_self, lex_self, lex_diff (fun e => by
      have : a.l = b.l := by injection e
      omega)]
    show decide (a.l < b.l) = true
    exact decide_eq_true h2
theorem toks_end (e : Int × List Int) : ∃ r, PySem.W.keyToks (endD e) = .inl 1 :: .inl e.1 :: r := ⟨_, by
  unfold endD
  simp only [PySem.W.keyToks, PySem.W.keyToksAll, List.cons_append, List.nil_append]
  rfl⟩
theorem lt_end {a b : Int × List Int} (h : a.1 < b.1) : PySem.W.dataLt (endD a) (endD b) = true := by
  obtain ⟨r, hr⟩ := toks_end a
  obtain ⟨t, ht⟩ := toks_end b
  unfold PySem.W.dataLt
  rw [hr, ht, lex_self, lex_diff (fun e => by
    have : a.1 = b.1 := by injection e
    omega)]
  show decide (a.1 < b.1) = true
  exact decide_eq_true h
theorem lex_irr : ∀ l, lexLt itemOrd l l = false
  | [] => rfl
  | x :: l => by rw [lex_self]; exact lex_irr l
theorem lt_same (d : WV.T) : PySem.W.dataLt d d = false := lex_irr _
theorem okS_of {x : Int} {n : Nat} (h : St n x) : okS x n = true := by
  unfold okS isIn
  simp only
  rw [Bool.and_eq_true, decide_eq_true_eq, decide_eq_true_eq]
  exact ⟨h.1, by have := h.2; omega⟩
theorem okO_of {m : Nat} {o : List Int} (h : Wd m o) (hl : o.length ≤ 3) : okO m o = true := by
  unfold okO
  rw [Bool.and_eq_true, decide_eq_true_eq, List.all_eq_true]
  exact ⟨by omega, fun x hx => okS_of (h x hx)⟩
section
variable {m n k : Nat} {as : List Arc}
theorem arcs_at (hk : 1 ≤ k) (h : Arcs m n (prs k n) as) {i : Nat} {a : Arc} (e : as[i]? = some a) : (a.s, a.l) = tk k i ∧ i < n * k := by
  have hi : i < as.length := (List.getElem?_eq_some_iff.mp e).1
  rw [arcs_len h] at hi
  have h1 : (as.map fun a => (a.s, a.l))[i]? = some (a.s, a.l) := by rw [List.getElem?_map, e]; rfl
  rw [h.1, prs_tk hk, List.getElem?_map, List.getElem?_range hi] at h1
  exact ⟨(Option.some.inj h1).symm, hi⟩
theorem arcs_okA (hk : 1 ≤ k) (h : Arcs m n (prs k n) as) {a : Arc} (ha : a ∈ as) : okA k m n a = true := by
  obtain ⟨i, hi⟩ := List.getElem?_of_mem ha
  obtain ⟨e, hlt⟩ := arcs_at hk h hi
  obtain ⟨w1, w2, w3, w4⟩ := h.2 a ha
  unfold tk at e
  simp only [Prod.mk.injEq] at e
  unfold okA
  have hd : i / k < n := Nat.div_lt_of_lt_mul (by rw [Nat.mul_comm]; exact hlt)
  have hm : i % k < k := Nat.mod_lt _ (by omega)
  generalize i / k = q at e hd
  generalize i % k = r at e hm
  rw [okO_of w1 w3, okS_of (x := a.s) ⟨by omega, by omega⟩, okS_of (x := a.l) ⟨by omega, by omega⟩, okS_of w4]
  rfl
theorem arcs_up (hk : 1 ≤ k) (h : Arcs m n (prs k n) as) {i : Nat} {a b : Arc} (ha : as[i]? = some a) (hb : as[i + 1]? = some b) : PySem.W.dataLt (arcD a) (arcD b) = true := by
  obtain ⟨e1, _⟩ := arcs_at hk h ha
  obtain ⟨e2, _⟩ := arcs_at hk h hb
  unfold tk at e1 e2
  simp only [Prod.mk.injEq] at e1 e2
  refine lt_arc ?_
  have hmd := Nat.div_add_mod i k
  have hmd2 := Nat.div_add_mod (i + 1) k
  have hm := Nat.mod_lt i (show 0 < k by omega)
  have hm2 := Nat.mod_lt (i + 1) (show 0 < k by omega)
  have hle : i / k ≤ (i + 1) / k := Nat.div_le_div_right (by omega)
  rcases Nat.lt_or_ge (i / k) ((i + 1) / k) with hlt | hge
  · left
    omega
  · right
    have : i / k = (i + 1) / k := by omega
    rw [this] at hmd
    exact ⟨by omega, by omega⟩
theorem ff_none {ds : List WV.T} {bs : List Bool} (h : ∀ i, i < bs.length → bs.getD i false = true) (hl : ∀ i, i + 1 < bs.length → PySem.W.dataLt (ds.getD i .none) (ds.getD (i + 1) .none) = true) : ff ds bs = none := by
  refine find_no fun i hi => ?_
  unfold ffB
  rw [h i hi]
  by_cases h0 : 0 < i
  · have := hl (i - 1) (by omega)
    rw [Nat.sub_add_cancel h0] at this
    rw [this]
    simp
  · simp [h0]
theorem ffA (hk : 1 ≤ k) (h : Arcs m n (prs k n) as) : ff (as.map arcD) (as.map (okA k m n)) = none := by
  refine ff_none (fun i hi => ?_) (fun i hi => ?_)
  · rw [List.length_map] at hi
    simp [List.getD, hi, arcs_okA hk h (List.getElem_mem hi)]
  · rw [List.length_map] at hi
    have h1 : i < as.length := by omega
    simp only [List.getD, List.getElem?_map, List.getElem?_eq_getElem h1, List.getElem?_eq_getElem hi, Option.map_some, Option.getD_some]
    exact arcs_up hk h (List.getElem?_eq_getElem h1) (List.getElem?_eq_getElem hi)
theorem led_none (hk : 1 ≤ k) (h : Arcs m n (prs k n) as) {b : Int} (hb : St n b) : leD k m n [b] as (endsN n) = .none := by
  have f1 : ff (([b] : List Int).map .int) (([b] : List Int).map fun b => okS b n) = none := ff_none (fun i hi => by
    have : i = 0 := by simpa using hi
    subst this
    exact okS_of hb) (fun i hi => by simp at hi)
  have f3 : ff ((endsN n).map endD) ((endsN n).map (okE m n)) = none := ff_none (fun i hi => by
    rw [List.length_map, ends_len] at hi
    unfold endsN
    simp only [List.getD, List.getElem?_map, List.getElem?_range hi, Option.map_some, Option.getD_some]
    unfold okE
    rw [okS_of (x := (i : Int)) ⟨by omega, by omega⟩]
    rfl) (fun i hi => by
    rw [List.length_map, ends_len] at hi
    unfold endsN
    simp only [List.getD, List.getElem?_map, List.getElem?_range hi, List.getElem?_range (show i < n by omega), Option.map_some, Option.getD_some]
    exact lt_end (by show ((i : Nat) : Int) < ((i + 1 : Nat) : Int); omega))
  unfold leD
  rw [f1, ffA hk h, f3]
  rfl
end
end K23
set_option maxRecDepth 100000
/-! Plain: led_error of the two bad machines. -/
namespace K23
open WV PyProof.Rows
theorem ff_some {ds : List WV.T} {bs : List Bool} {j : Nat} (hj : j < bs.length) (h : ∀ i, i < j → bs.getD i false = true) (hl : ∀ i, i + 1 < j → PySem.W.dataLt (ds.getD i .none) (ds.getD (i + 1) .none) = true) (hb : ffB ds bs j = true) : ff ds bs = some j := by
  refine find_lt hj hb fun i hi => ?_
  unfold ffB
  rw [h i hi]
  by_cases h0 : 0 < i
  · have := hl (i - 1) (by omega)
    rw [Nat.sub_add_cancel h0] at this
    rw [this]
    simp
  · simp [h0]
section
variable {m n k : Nat} {as : List Arc}
theorem ffBegin {b : Int} (hb : St n b) : ff (([b] : List Int).map .int) (([b] : List Int).map fun b => okS b n) = none := ff_none (fun i hi => by
    have : i = 0 := by simpa using hi
    subst this
    exact okS_of hb) (fun i hi => by simp at hi)
theorem led_badArc (hk : 1 ≤ k) (hn : 1 ≤ n) (h : Arcs m n (prs k n) as) {b : Int} (hb : St n b) (es : List (Int × List Int)) : leD k m n [b] (as.dropLast ++ [⟨n, 0, [0], 0⟩]) es = ltag "arc" (some (as.length - 1)) := by
  have hlen := arcs_len h
  have hpos : 1 ≤ as.length := by
    rw [hlen]
    exact Nat.mul_le_mul hn hk
  have hdl : as.dropLast.length = as.length - 1 := List.length_dropLast
  have hget : ∀ i, i < as.length - 1 → (as.dropLast ++ [(⟨n, 0, [0], 0⟩ : Arc)])[i]? = as[i]? := fun i hi => by
    rw [List.getElem?_append_left (by omega), List.dropLast_eq_take, List.getElem?_take, if_pos hi]
  have hf : ff ((as.dropLast ++ [(⟨n, 0, [0], 0⟩ : Arc)]).map arcD) ((as.dropLast ++ [(⟨n, 0, [0], 0⟩ : Arc)]).map (okA k m n)) = some (as.length - 1) := by
    refine ff_some (by rw [List.length_map, List.length_append, hdl]; simp) (fun i hi => ?_) (fun i hi => ?_) ?_
    · have h1 : i < as.length := by omega
      simp only [List.getD, List.getElem?_map, hget i hi, List.getElem?_eq_getElem h1, Option.map_some, Option.getD_some]
      exact arcs_okA hk h (List.getElem_mem h1)
    · have h1 : i < as.length := by omega
      have h2 : i + 1 < as.length := by omega
      simp only [List.getD, List.getElem?_map, hget i (by omega), hget (i + 1) hi, List.getElem?_eq_getElem h1, List.getElem?_eq_getElem h2, Option.map_some, Option.getD_some]
      exact arcs_up hk h (List.getElem?_eq_getElem h1) (List.getElem?_eq_getElem h2)
    · have hl : (as.dropLast ++ [(⟨n, 0, [0], 0⟩ : Arc)])[as.length - 1]? = some ⟨n, 0, [0], 0⟩ := by
        rw [List.getElem?_append_right (by omega), hdl, Nat.sub_self]
        rfl
      unfold ffB
      have hbad : okA k m n (⟨n, 0, [0], 0⟩ : Arc) = false := by
        unfold okA
        have : okS (n : Int) n = false := by
          unfold okS isIn
          simp only
          have : decide ((n : Int) ≤ (n : Int) - 1) = false := decide_eq_false (by omega)
          rw [this, Bool.and_false]
        show (okO m [0] && (okS (n : Int) n && _)) = false
        rw [this, Bool.false_and, Bool.and_false]
      simp only [List.getD, List.getElem?_map, hl, Option.map_some, Option.getD_some, hbad]
      rfl
  unfold leD
  rw [ffBegin hb, hf]
  rfl
theorem led_twoEnds (hk : 1 ≤ k) (hn : 1 ≤ n) (h : Arcs m n (prs k n) as) {b : Int} (hb : St n b) : leD k m n [b] as (endsN n ++ [((n : Int) - 1, [])]) = ltag "end" (some n) := by
  have hget : ∀ i, i < n → (endsN n ++ [((n : Int) - 1, ([] : List Int))])[i]? = some ((i : Int), []) := fun i hi => by
    rw [List.getElem?_append_left (by rw [ends_len]; exact hi)]
    unfold endsN
    rw [List.getElem?_map, List.getElem?_range hi]
    rfl
  have hl : (endsN n ++ [((n : Int) - 1, ([] : List Int))])[n]? = some ((n : Int) - 1, []) := by
    rw [List.getElem?_append_right (by rw [ends_len]; omega), ends_len, Nat.sub_self]
    rfl
  have hok : ∀ x : Int, St n x → okE m n (x, []) = true := fun x hx => by
    unfold okE
    rw [okS_of hx]
    rfl
  have hf : ff ((endsN n ++ [((n : Int) - 1, ([] : List Int))]).map endD) ((endsN n ++ [((n : Int) - 1, ([] : List Int))]).map (okE m n)) = some n := by
    refine ff_some (by rw [List.length_map, List.length_append, ends_len]; simp) (fun i hi => ?_) (fun i hi => ?_) ?_
    · simp only [List.getD, List.getElem?_map, hget i hi, Option.map_some, Option.getD_some]
      exact hok _ ⟨by omega, by omega⟩
    · simp only [List.getD, List.getElem?_map, hget i (by omega), hget (i + 1) hi, Option.map_some, Option.getD_some]
      exact lt_end (by show ((i : Nat) : Int) < ((i + 1 : Nat) : Int); omega)
    · unfold ffB
      have e : (((n - 1 : Nat) : Int), ([] : List Int)) = ((n : Int) - 1, []) := by
        congr 1
        omega
      simp only [List.getD, List.getElem?_map, hl, hget (n - 1) (by omega), Option.map_some, Option.getD_some, e, lt_same]
      simp
      omega
  unfold leD
  rw [ffBegin hb, ffA hk h, hf]
  rfl
end
end K23
set_option maxRecDepth 100000
set_option maxHeartbeats 4000000
/-! list(zip(t, u)) of two tuples: each pair is a new tuple, since the list holds those ahead of it. -/
namespace ZT
open PySem PySem.Spec PyProof.Rows
theorem zip_lenless : typeLookup (.type "zip") "__len__" = pure none := am_miss_of_fast (by decide +kernel)
theorem zip_hintless : typeLookup (.type "zip") "__length_hint__" = pure none := am_miss_of_fast (by decide +kernel)
section
variable {prog : Program} {w : World} {A : Around} {E : Value → Shared → Prop} {s : Shared}
/-- where a zip over two tuples stands ahead of turn i; S: the list that is filled -/
structure Zs (h : Heap) (z TI TO i1 i2 a b S : Addr) (i : Nat) : Prop where
  two : IsPair h TI (.ref i1) (.ref i2)
  it1 : h.IsTupleIter i1 a i
  it2 : h.IsTupleIter i2 b i
  self : (IsZip h z TI TO .none ∧ ∃ x y, IsPair h TO x y) ∨ ∃ T f oT, IsZipHeld h z TI TO T f ∧ h.get? T = some oT ∧ T ≠ S ∧ T ≠ z ∧ T ≠ i1 ∧ T ≠ i2
variable {z TI TO i1 i2 a b S : Addr} {i : Nat} {xs ys : Array Value}
theorem Zs.keep {h h' : Heap} (st : Zs h z TI TO i1 i2 a b S i) (k : ∀ c o, c ≠ S → h.get? c = some o → h'.get? c = some o) (n : S ≠ z ∧ S ≠ TI ∧ S ≠ TO ∧ S ≠ i1 ∧ S ≠ i2) : Zs h' z TI TO i1 i2 a b S i := by
  obtain ⟨p, q1, q2, q⟩ := st
  refine ⟨k _ _ n.2.1.symm p, q1.at fun o e => k _ o n.2.2.2.1.symm e, q2.at fun o e => k _ o n.2.2.2.2.symm e, ?_⟩
  rcases q with ⟨e, x, y, t⟩ | ⟨T, f, oT, e, t, nT⟩
  · exact .inl ⟨k _ _ n.1.symm e, x, y, k _ _ n.2.2.1.symm t⟩
  · exact .inr ⟨T, f, oT, k _ _ n.1.symm e, k _ _ nT.1 t, nT⟩
/-- zip.__next__ where its last pair is held by somebody -/
theorem held_item {T : Addr} {f : Bool} {oT : Obj} {x y : Value} {Q : Value → Shared → Prop} (D : ZipApart z TI TO i1 i2 a b) (hz : IsZipHeld s.heap z TI TO T f) (hT : s.heap.get? T = some oT) (hp : IsPair s.heap TI (.ref i1) (.ref i2))
    (q1 : s.heap.IsTupleIter i1 a i) (q2 : s.heap.IsTupleIter i2 b i) (ha : s.heap.IsTuple a xs) (hb : s.heap.IsTuple b ys) (hx : xs[i]? = some x) (hy : ys[i]? = some y)
    (hQ : ∀ h', IsZipHeld h' z TI TO T true → h'.IsTupleIter i1 a (i + 1) → h'.IsTupleIter i2 b (i + 1) → IsPair h' s.heap.objs.size x y → h'.objs.size = s.heap.objs.size + 1 → (∀ c o, c ≠ z → c ≠ i1 → c ≠ i2 → s.heap.get? c = some o → h'.get? c = some o) → Q (.ref s.heap.objs.size) { s with heap := h' }) :
    wpAny (model prog w) A (Builtin.«zip.__next__» ⟨[.ref z], []⟩) (fun r s' => ∃ v, r = .done (.ret v) ∧ Q v s') E s := by
  show wpAny _ _ (field (.ref z) 2 >>= _) _ _ _
  refine wpAny_bind (wpAny_field hz rfl (x := .bool false) rfl ?_)
  show wpAny _ _ (field (.ref z) 3 >>= _) _ _ _
  refine wpAny_bind (wpAny_field hz rfl (x := .ref TI) rfl (wpAny_bind (wpAny_seqItems hp rfl ?_)))
  show wpAny _ _ (Builtin.SmallTypes.ownedTupleIsFree (.ref z) >>= _) _ _ _
  refine wpAny_bind (wpAny_tupleHeld_zip hz hT fun g1 z1 s1 => ?_)
  simp only [Bool.false_eq_true, if_false]
  refine wpAny_bind ?_
  rw [← Array.forIn_toList]
  simp only [List.forIn_cons, List.forIn_nil]
  have k1 : ∀ c o, c ≠ z → s.heap.get? c = some o → g1.get? c = some o := fun c o n e => s1.extBut _ _ n e
  refine wpAny_bind (wpAny_bind (wpAny_holding ?_))
  show wpAny _ _ (Builtin.SmallTypes.nextOf (.ref i1) >>= _) _ _ _
  refine wpAny_bind (RZ.nextOf_tuple_item (s := { s with heap := g1 }) (q1.at fun o e => k1 _ o D.i1z e) (ha.at fun o e => k1 _ o D.l1z e) hx fun g2 p1 s2 => wpAny_pure (wpAny_pure ?_))
  have k2 : ∀ c o, c ≠ z → c ≠ i1 → s.heap.get? c = some o → g2.get? c = some o := fun c o n m e => s2.extBut _ _ m (k1 c o n e)
  refine wpAny_bind (wpAny_bind (wpAny_holding ?_))
  show wpAny _ _ (Builtin.SmallTypes.nextOf (.ref i2) >>= _) _ _ _
  refine wpAny_bind (RZ.nextOf_tuple_item (s := { s with heap := g2 }) (q2.at fun o e => k2 _ o D.i2z D.i12.symm e) (hb.at fun o e => k2 _ o D.l2z D.l2i1 e) hy fun g3 p2 s3 => wpAny_pure (wpAny_pure (wpAny_pure ?_)))
  have k3 : ∀ c o, c ≠ z → c ≠ i1 → c ≠ i2 → s.heap.get? c = some o → g3.get? c = some o := fun c o n m l e => s3.extBut _ _ l (k2 c o n m e)
  have sz : g3.objs.size = s.heap.objs.size := s3.1.trans (s2.1.trans s1.1)
  have z3 : IsZipHeld g3 z TI TO T true := s3.extBut _ _ D.i2z.symm (s2.extBut _ _ D.i1z.symm z1)
  have up : ∀ c o, g3.get? c = some o → (g3.push { cls := .type "tuple", data := .seq #[x, y] }).get? c = some o := fun c o e => Heap.get?_push_of_some _ e
  show wpAny _ _ (newTuple [x, y] >>= _) _ _ _
  refine wpAny_bind (wpAny_newTuple (wpAny_pure ⟨_, rfl, ?_⟩))
  have new : IsPair (g3.push { cls := .type "tuple", data := .seq #[x, y] }) g3.objs.size x y := Heap.get?_push_size _ rfl
  have sz4 : (g3.push { cls := .type "tuple", data := .seq #[x, y] }).objs.size = g3.objs.size + 1 := Heap.size_push ..
  show Q (.ref g3.objs.size) _
  rw [sz] at new sz4 ⊢
  exact hQ _ (up _ _ z3) ((p1.extBut s3.extBut D.i12).at fun o e => up _ o e) (p2.at fun o e => up _ o e) new sz4 fun c o n m l e => up c o (k3 c o n m l e)
theorem held_end {T : Addr} {f : Bool} {oT : Obj} {Q : Fin → Shared → Prop} (hh : A.handled = none) (D : ZipApart z TI TO i1 i2 a b) (hz : IsZipHeld s.heap z TI TO T f) (hT : s.heap.get? T = some oT) (hp : IsPair s.heap TI (.ref i1) (.ref i2))
    (q1 : s.heap.IsTupleIter i1 a i) (ha : s.heap.IsTuple a xs) (hx : xs[i]? = none)
    (hE : ∀ h' e, (∀ c o, c ≠ z → c ≠ i1 → s.heap.get? c = some o → h'.get? c = some o) → (∃ o, h'.get? e = some o ∧ o.cls = .type "StopIteration") → E (.ref e) { s with heap := h' }) :
    wpAny (model prog w) A (Builtin.«zip.__next__» ⟨[.ref z], []⟩) Q E s := by
  show wpAny _ _ (field (.ref z) 2 >>= _) _ _ _
  refine wpAny_bind (wpAny_field hz rfl (x := .bool false) rfl ?_)
  show wpAny _ _ (field (.ref z) 3 >>= _) _ _ _
  refine wpAny_bind (wpAny_field hz rfl (x := .ref TI) rfl (wpAny_bind (wpAny_seqItems hp rfl ?_)))
  show wpAny _ _ (Builtin.SmallTypes.ownedTupleIsFree (.ref z) >>= _) _ _ _
  refine wpAny_bind (wpAny_tupleHeld_zip hz hT fun g1 z1 s1 => ?_)
  simp only [Bool.false_eq_true, if_false]
  refine wpAny_bind ?_
  rw [← Array.forIn_toList]
  simp only [List.forIn_cons, List.forIn_nil]
  have k1 : ∀ c o, c ≠ z → s.heap.get? c = some o → g1.get? c = some o := fun c o n e => s1.extBut _ _ n e
  refine wpAny_bind (wpAny_bind (wpAny_holding ?_))
  show wpAny _ _ (Builtin.SmallTypes.nextOf (.ref i1) >>= _) _ _ _
  exact wpAny_bind (RZ.nextOf_tuple_end (s := { s with heap := g1 }) hh (q1.at fun o e => k1 _ o D.i1z e) (ha.at fun o e => k1 _ o D.l1z e) hx fun g2 e s2 he => hE g2 e (fun c o n m h => s2 _ _ m (k1 c o n h)) he)
/-- one turn -/
theorem nextZ {x y : Value} {Q : Option Value → Shared → Prop} (D : ZipApart z TI TO i1 i2 a b) (st : Zs s.heap z TI TO i1 i2 a b S i) (hS : S < s.heap.objs.size) (ha : s.heap.IsTuple a xs) (hb : s.heap.IsTuple b ys) (hx : xs[i]? = some x) (hy : ys[i]? = some y)
    (hQ : ∀ h', Zs h' z TI TO i1 i2 a b S (i + 1) → IsPair h' s.heap.objs.size x y → (∀ c o, c ≠ z → c ≠ TO → c ≠ i1 → c ≠ i2 → s.heap.get? c = some o → h'.get? c = some o) → Q (some (.ref s.heap.objs.size)) { s with heap := h' }) :
    wpAny (model prog w) A (pyNext (.ref z)) Q E s := by
  obtain ⟨p, q1, q2, q⟩ := st
  rcases q with ⟨e, x0, y0, t⟩ | ⟨T, f, oT, e, t, nT⟩
  · refine RZ.pyNext_zipT_item D e p t q1 q2 ha hb hx hy fun h' e' t' r1 r2 new sz k => ?_
    have lt : ∀ {c o}, s.heap.get? c = some o → s.heap.objs.size ≠ c := fun e => Nat.ne_of_gt (Heap.lt_size e)
    obtain ⟨o1, g1, _⟩ := id q1
    obtain ⟨o2, g2, _⟩ := id q2
    exact hQ h' ⟨k _ _ D.TIz D.TITO D.TIi1 D.TIi2 p, r1, r2, .inr ⟨_, false, _, e', new, Nat.ne_of_gt hS, lt e, lt g1, lt g2⟩⟩ new k
  · have ty : s.TypeIs (.ref z) "zip" := ⟨_, e, rfl⟩
    unfold pyNext
    refine wpAny_bind (wpAny_attempt (wpAny_callSpecial?_slot (name := Str.ofString "__next__") ty F.slot_zip_next (wpAny_call_entry F.slot_zip_next ty F.entry_zip_next (held_item D e t p q1 q2 ha hb hx hy fun h' e' r1 r2 new sz k => wpAny_pure ?_) (F.args_zip_next_1 _))))
    exact hQ h' ⟨k _ _ D.TIz D.TIi1 D.TIi2 p, r1, r2, .inr ⟨T, true, oT, e', k T oT nT.2.1 nT.2.2.1 nT.2.2.2 t, nT⟩⟩ new fun c o n _ m l h => k c o n m l h
/-- none is left -/
theorem doneZ {Q : Option Value → Shared → Prop} (hh : A.handled = none) (D : ZipApart z TI TO i1 i2 a b) (st : Zs s.heap z TI TO i1 i2 a b S i) (ha : s.heap.IsTuple a xs) (hb : s.heap.IsTuple b ys) (hx : xs[i]? = none)
    (hQ : ∀ h', (∀ c o, c ≠ z → c ≠ TO → c ≠ i1 → c ≠ i2 → s.heap.get? c = some o → h'.get? c = some o) → Q none { s with heap := h' }) :
    wpAny (model prog w) A (pyNext (.ref z)) Q E s := by
  obtain ⟨p, q1, q2, q⟩ := st
  rcases q with ⟨e, x0, y0, t⟩ | ⟨T, f, oT, e, t, nT⟩
  · exact RZ.pyNext_zipT_end hh D e p t q1 q2 ha hb (.inl hx) hQ
  · have ty : s.TypeIs (.ref z) "zip" := ⟨_, e, rfl⟩
    unfold pyNext
    refine wpAny_bind (wpAny_attempt (wpAny_callSpecial?_slot (name := Str.ofString "__next__") ty F.slot_zip_next (wpAny_call_entry F.slot_zip_next ty F.entry_zip_next (held_end hh D e t p q1 ha hx fun h' e' k he => ?_) (F.args_zip_next_1 _))))
    obtain ⟨oe, h1, h2⟩ := he
    exact wpAny_bind (wpAny_isInstance (T := "StopIteration") (b := true) ⟨oe, h1, h2⟩ isSubtype_stop (wpAny_pure (hQ _ fun c o n _ m _ h => k c o n m h)))
/-- the pairs that were made -/
structure Mz (xs ys : Array Value) (lo : Addr) (h : Heap) (as : List Addr) : Prop where
  rise : as.Pairwise (· < ·)
  above : ∀ a ∈ as, lo < a
  pair : ∀ (j : Nat) (a : Addr), as[j]? = some a → ∃ x y, xs[j]? = some x ∧ ys[j]? = some y ∧ IsPair h a x y
theorem Mz.lt {h : Heap} {lo : Addr} {as : List Addr} (g : Mz xs ys lo h as) {c : Addr} (hc : c ∈ as) : c < h.objs.size := by
  obtain ⟨j, hj⟩ := List.mem_iff_getElem?.mp hc
  obtain ⟨_, _, _, _, e⟩ := g.pair j c hj
  exact Heap.lt_size e
theorem Mz.at' {h h' : Heap} {lo : Addr} {as : List Addr} (g : Mz xs ys lo h as) (k : ∀ c o, lo < c → h.get? c = some o → h'.get? c = some o) : Mz xs ys lo h' as := ⟨g.rise, g.above, fun j c hj => by
  obtain ⟨x, y, h1, h2, e⟩ := g.pair j c hj
  exact ⟨x, y, h1, h2, k _ _ (g.above c (List.mem_of_getElem? hj)) e⟩⟩
theorem Mz.snoc {h : Heap} {lo c : Addr} {as : List Addr} {x y : Value} (g : Mz xs ys lo h as) (hc : IsPair h c x y) (hx : xs[as.length]? = some x) (hy : ys[as.length]? = some y) (up : ∀ d ∈ as, d < c) (hl : lo < c) : Mz xs ys lo h (as ++ [c]) := by
  refine ⟨List.pairwise_append.mpr ⟨g.rise, List.pairwise_singleton _ _, fun d hd e he => by rw [List.mem_singleton.mp he]; exact up d hd⟩, fun d hd => ?_, fun j d hj => ?_⟩
  · rcases List.mem_append.mp hd with hd | hd
    · exact g.above d hd
    · rw [List.mem_singleton.mp hd]
      exact hl
  · by_cases h1 : j < as.length
    · rw [List.getElem?_append_left h1] at hj
      exact g.pair j d hj
    · rw [List.getElem?_append_right (by omega)] at hj
      have h2 : j - as.length = 0 := by
        cases h3 : j - as.length with
        | zero => rfl
        | succ n =>
          rw [h3] at hj
          simp at hj
      rw [h2] at hj
      have h4 : c = d := by simpa using hj
      subst h4
      have h5 : j = as.length := by omega
      subst h5
      exact ⟨x, y, hx, hy, hc⟩
variable {R : Result → Shared → Prop}
theorem fillZ (hh : A.handled = none) (D : ZipApart z TI TO i1 i2 a b) (lo : z < S ∧ TI < S ∧ TO < S ∧ i1 < S ∧ i2 < S ∧ a < S ∧ b < S) (hn : xs.size ≤ sizeLine) (hl : xs.size = ys.size) (res : Value) {h₁ : Heap}
    (hR : ∀ h' tk acc c as, (∀ q o, q ≠ S → q ≠ z → q ≠ TO → q ≠ i1 → q ≠ i2 → h₁.get? q = some o → h'.get? q = some o) → h'.get? S = some { cls := .type "list", dict := none, data := .seq acc c, slots := #[] } → as.length = xs.size → Mz xs ys S h' as →
      acc.toList = as.map Value.ref → R (.ok (.ret res)) { s with heap := h', toks := tk }) :
    ∀ (k i : Nat) (h : Heap) (tk c : Nat) (acc : Array Value) (as : List Addr), xs.size - i = k → i ≤ xs.size → Zs h z TI TO i1 i2 a b S i → h.IsTuple a xs → h.IsTuple b ys → (∀ q o, q ≠ S → q ≠ z → q ≠ TO → q ≠ i1 → q ≠ i2 → h₁.get? q = some o → h.get? q = some o) →
      h.get? S = some { cls := .type "list", dict := none, data := .seq acc c, slots := #[] } → acc.toList = as.map Value.ref → as.length = i → Mz xs ys S h as →
      codeAny (model prog w) A (.builtin "list.extend.loop" ⟨[.ref S, .ref z, res], []⟩) R { s with heap := h, toks := tk } := by
  obtain ⟨n1, n2, n3, n4, n5, n6, n7⟩ := lo
  have nS : S ≠ z ∧ S ≠ TI ∧ S ≠ TO ∧ S ≠ i1 ∧ S ≠ i2 := ⟨Nat.ne_of_gt n1, Nat.ne_of_gt n2, Nat.ne_of_gt n3, Nat.ne_of_gt n4, Nat.ne_of_gt n5⟩
  intro k
  induction k with
  | zero =>
    intro i h tk c acc as hk hi st ha hb hkeep hS hacc hal hG
    refine codeAny_builtin F.entry_extend_loop ?_
    rw [Around.under_plainId F.plain_extend_loop _]
    refine wpAny_bind (doneZ (s := { s with heap := h, toks := tk }) (A := A.in1) hh D st ha hb (by simp; omega) fun h' he => ?_)
    refine wpAny_pure (hR h' tk acc c as (fun q o m0 m1 m2 m3 m4 e => he q o m1 m2 m3 m4 (hkeep q o m0 m1 m2 m3 m4 e)) (he S _ nS.1 nS.2.2.1 nS.2.2.2.1 nS.2.2.2.2 hS) (by omega) (hG.at' fun q o hq e => he q o ?_ ?_ ?_ ?_ e) hacc)
    · exact Nat.ne_of_gt (Nat.lt_trans n1 hq)
    · exact Nat.ne_of_gt (Nat.lt_trans n3 hq)
    · exact Nat.ne_of_gt (Nat.lt_trans n4 hq)
    · exact Nat.ne_of_gt (Nat.lt_trans n5 hq)
  | succ k ih =>
    intro i h tk c acc as hk hi st ha hb hkeep hS hacc hal hG
    have hlt : i < xs.size := by omega
    have hlt2 : i < ys.size := by omega
    have hsz : acc.size = i := by rw [← Array.length_toList, hacc, List.length_map, hal]
    have hSl : S < h.objs.size := Heap.lt_size hS
    refine codeAny_builtin F.entry_extend_loop ?_
    rw [Around.under_plainId F.plain_extend_loop _]
    refine wpAny_bind (nextZ (s := { s with heap := h, toks := tk }) D st hSl ha hb (Array.getElem?_eq_getElem hlt) (Array.getElem?_eq_getElem hlt2) fun h' st' new hkp => ?_)
    dsimp only at new hkp ⊢
    have hS' := hkp S _ nS.1 nS.2.2.1 nS.2.2.2.1 nS.2.2.2.2 hS
    have up : ∀ q o, q ≠ S → h'.get? q = some o → (h'.update S (Obj.mapSeq (·.push (Value.ref h.objs.size)))).get? q = some o := fun q o hq e => (Heap.get?_update_other _ _ (Ne.symm hq)).trans e
    have hi' : ∀ q o, S < q → h.get? q = some o → (h'.update S (Obj.mapSeq (·.push (Value.ref h.objs.size)))).get? q = some o := fun q o hq e =>
      up q o (Nat.ne_of_gt hq) (hkp q o (Nat.ne_of_gt (Nat.lt_trans n1 hq)) (Nat.ne_of_gt (Nat.lt_trans n3 hq)) (Nat.ne_of_gt (Nat.lt_trans n4 hq)) (Nat.ne_of_gt (Nat.lt_trans n5 hq)) e)
    show wpAny _ A.in1 (updateSeq S (·.push (Value.ref h.objs.size)) >>= _) _ _ _
    refine wpAny_bind (wpAny_updateSeq hS' rfl (wpAny_pure ⟨plainId_quiet F.plain_extend_loop _, ih (i + 1) _ tk _ (acc.push (Value.ref h.objs.size)) (as ++ [h.objs.size]) (by omega) hlt (st'.keep up nS) ?_ ?_ ?_ (Heap.get?_update_self _ hS' rfl) (by rw [Array.toList_push, hacc, List.map_append]; rfl) (by rw [List.length_append, hal]; rfl) ?_⟩) (by rw [hsz]; omega) (by show (acc.push (Value.ref h.objs.size)).size ≤ sizeLine + 1; rw [Array.size_push, hsz]; omega))
    · exact ha.at fun o e => up _ o (Nat.ne_of_lt n6) (hkp _ o D.l1z D.l1TO D.l1i1 D.l1i2 e)
    · exact hb.at fun o e => up _ o (Nat.ne_of_lt n7) (hkp _ o D.l2z D.l2TO D.l2i1 D.l2i2 e)
    · exact fun q o m0 m1 m2 m3 m4 e => up q o m0 (hkp q o m1 m2 m3 m4 (hkeep q o m0 m1 m2 m3 m4 e))
    · refine (hG.at' hi').snoc (x := xs[i]) (y := ys[i]) (up _ _ (Nat.ne_of_gt hSl) new) (by rw [hal]; exact Array.getElem?_eq_getElem hlt) (by rw [hal]; exact Array.getElem?_eq_getElem hlt2) (fun d hd => hG.lt hd) hSl
/-- list.__init__ of a new list with a new zip -/
theorem initZ (hh : A.handled = none) (D : ZipApart z TI TO i1 i2 a b) (lo : z < S ∧ TI < S ∧ TO < S ∧ i1 < S ∧ i2 < S ∧ a < S ∧ b < S) (hn : xs.size ≤ sizeLine) (hl : xs.size = ys.size) (st : Zs s.heap z TI TO i1 i2 a b S 0) (hz : IsZip s.heap z TI TO .none) (ha : s.heap.IsTuple a xs) (hb : s.heap.IsTuple b ys)
    (hS : s.heap.get? S = some { cls := .type "list", data := .seq #[] })
    (hR : ∀ h' tk acc c as, (∀ q o, q ≠ S → q ≠ z → q ≠ TO → q ≠ i1 → q ≠ i2 → s.heap.get? q = some o → h'.get? q = some o) → h'.get? S = some { cls := .type "list", dict := none, data := .seq acc c, slots := #[] } → as.length = xs.size → Mz xs ys S h' as →
      acc.toList = as.map Value.ref → R (.ok (.ret .none)) { s with heap := h', toks := tk }) :
    wpAny (model prog w) A.in1 (Builtin.«list.__init__» ⟨[.ref S, .ref z], []⟩)
      (fun fin s' => match fin with | .done f => R (.ok f) s' | .again c' => c'.quiet = true ∧ codeAny (model prog w) A c' R s') (fun e s' => R (.error e) s') s := by
  have nS : S ≠ z ∧ S ≠ TI ∧ S ≠ TO ∧ S ≠ i1 ∧ S ≠ i2 := ⟨Nat.ne_of_gt lo.1, Nat.ne_of_gt lo.2.1, Nat.ne_of_gt lo.2.2.1, Nat.ne_of_gt lo.2.2.2.1, Nat.ne_of_gt lo.2.2.2.2.1⟩
  show wpAny _ _ (do let old ← Builtin.List.listItems (.ref S); Builtin.List.listUpdate (.ref S) (fun _ => #[]); letGo old.toList.reverse; Builtin.List.listExtendWith (.ref S) (.ref z) .none) _ _ s
  refine wpAny_bind ?_
  unfold Builtin.List.listItems
  refine wpAny_bind (wpAny_seqItems hS rfl (wpAny_pure ?_))
  show wpAny _ _ (updateSeq S (fun _ => #[]) >>= fun _ => letGo (#[] : Array Value).toList.reverse >>= fun _ => Builtin.List.listExtendWith (.ref S) (.ref z) .none) _ _ s
  refine wpAny_bind (wpAny_updateSeq hS rfl (wpAny_bind (wpAny_letGo ?_)))
  have hS₂ := Heap.get?_update_self (Obj.mapSeq (fun _ => (#[] : Array Value))) hS rfl
  have oth : ∀ q o, q ≠ S → s.heap.get? q = some o → (s.heap.update S (Obj.mapSeq (fun _ => (#[] : Array Value)))).get? q = some o := fun q o hq e => (Heap.get?_update_other _ _ (Ne.symm hq)).trans e
  generalize s.heap.update S (Obj.mapSeq (fun _ => (#[] : Array Value))) = hp at *
  have z2 := oth _ _ nS.1.symm hz
  have ty : ({ s with heap := hp } : Shared).TypeIs (.ref z) "zip" := ⟨_, z2, rfl⟩
  unfold Builtin.List.listExtendWith
  refine wpAny_bind (wpAny_typeOf ty ?_)
  have e1 : Builtin.List.listSameRef (.ref S) (.ref z) = false := by simp [Builtin.List.listSameRef, nS.1]
  have e2 : (Value.type "zip" == Value.type "list") = false := by decide
  have e3 : (Value.type "zip" == Value.type "tuple") = false := by decide
  simp only [e1, e2, e3, Bool.or_false, Bool.false_eq_true, if_false]
  refine wpAny_bind (wpAny_pyIter_zip (s := { s with heap := hp }) z2 (wpAny_bind (wpAny_holding ?_)))
  unfold Builtin.List.listLengthHint
  refine wpAny_bind (wpAny_specialOf ty zip_lenless ?_)
  show wpAny _ A.in1 (specialOf (Value.ref z) (Str.ofString "__length_hint__") >>= _) _ _ _
  refine wpAny_bind (wpAny_specialOf ty zip_hintless (wpAny_pure ?_))
  show wpAny _ A.in1 (rule "list.extend.makes-room" >>= fun _ => Builtin.List.listTouch (.ref S) >>= fun _ => again (.builtin "list.extend.loop" ⟨[.ref S, .ref z, .none], []⟩)) _ _ _
  refine wpAny_bind (wpAny_rule (wpAny_bind ?_))
  show wpAny _ A.in1 (updateSeq S (·.push .none) >>= fun _ => updateSeq S (·.pop)) _ _ _
  refine wpAny_bind (wpAny_updateSeq hS₂ rfl ?_)
  have hS₃ := Heap.get?_update_self (Obj.mapSeq (·.push Value.none)) hS₂ rfl
  refine wpAny_updateSeq hS₃ rfl ?_
  have hS₄ := Heap.get?_update_self (Obj.mapSeq (·.pop)) hS₃ rfl
  have oth2 : ∀ q o, q ≠ S → s.heap.get? q = some o → ((hp.update S (Obj.mapSeq (·.push Value.none))).update S (Obj.mapSeq (·.pop))).get? q = some o := fun q o hq e =>
    (Heap.get?_update_other _ _ (Ne.symm hq)).trans ((Heap.get?_update_other _ _ (Ne.symm hq)).trans (oth q o hq e))
  exact wpAny_pure ⟨plainId_quiet F.plain_extend_loop _, fillZ (s := s) (h₁ := s.heap) hh D lo hn hl .none hR xs.size 0 _ _ _ #[] [] (Nat.sub_zero _) (Nat.zero_le _) (st.keep oth2 nS) (ha.at fun o e => oth2 _ o (Nat.ne_of_lt lo.2.2.2.2.2.1) e) (hb.at fun o e => oth2 _ o (Nat.ne_of_lt lo.2.2.2.2.2.2) e) (fun q o m _ _ _ _ e => oth2 q o m e) hS₄ rfl rfl ⟨List.Pairwise.nil, (fun _ h => nomatch h), fun j c h => by simp at h⟩⟩
theorem callZ {Q : Value → Shared → Prop} (hh : A.handled = none) (D : ZipApart z TI TO i1 i2 a b) (lo : z < s.heap.objs.size ∧ TI < s.heap.objs.size ∧ TO < s.heap.objs.size ∧ i1 < s.heap.objs.size ∧ i2 < s.heap.objs.size ∧ a < s.heap.objs.size ∧ b < s.heap.objs.size) (hn : xs.size ≤ sizeLine) (hl : xs.size = ys.size)
    (hz : IsZip s.heap z TI TO .none) (hp : IsPair s.heap TI (.ref i1) (.ref i2)) (ho : IsPair s.heap TO .none .none) (q1 : s.heap.IsTupleIter i1 a 0) (q2 : s.heap.IsTupleIter i2 b 0) (ha : s.heap.IsTuple a xs) (hb : s.heap.IsTuple b ys)
    (hQ : ∀ h' tk acc c as, (∀ q o, q ≠ z → q ≠ TO → q ≠ i1 → q ≠ i2 → s.heap.get? q = some o → h'.get? q = some o) → h'.get? s.heap.objs.size = some { cls := .type "list", dict := none, data := .seq acc c, slots := #[] } → as.length = xs.size → Mz xs ys s.heap.objs.size h' as →
      acc.toList = as.map Value.ref → Q (.ref s.heap.objs.size) { s with heap := h', toks := tk }) :
    wpAny (model prog w) A (call (.type "list") [.ref z]) Q E s := by
  refine callType_codes (Q₁ := fun obj s₁ => obj = .ref s.heap.objs.size ∧ s₁ = { s with heap := s.heap.push { cls := .type "list", data := .seq #[] } }) F.called_list (F.typeCall_list_1 _) F.entry_list_init (code_list_new _ ⟨rfl, rfl⟩) fun obj s₁ e => ?_
  obtain ⟨rfl, rfl⟩ := e
  have up : ∀ q o, s.heap.get? q = some o → (s.heap.push { cls := .type "list", data := .seq #[] }).get? q = some o := fun q o e => Heap.get?_push_of_some _ e
  have hS : (s.heap.push { cls := .type "list", data := .seq #[] }).get? s.heap.objs.size = some { cls := .type "list", data := .seq #[] } := Heap.get?_push_size _ rfl
  refine ⟨⟨_, hS, rfl⟩, F.args_list_init_2 _ _, initZ (s := { s with heap := s.heap.push { cls := .type "list", data := .seq #[] } }) (A := A.in1) hh D lo hn hl ⟨up _ _ hp, q1.at fun o e => up _ o e, q2.at fun o e => up _ o e, .inl ⟨up _ _ hz, _, _, up _ _ ho⟩⟩ (up _ _ hz) (ha.at fun o e => up _ o e) (hb.at fun o e => up _ o e) hS fun h' tk acc c as k hS' hl' hG hacc => ?_⟩
  exact ⟨rfl, hQ h' tk acc c as (fun q o m1 m2 m3 m4 e => k q o (Nat.ne_of_lt (Heap.lt_size e)) m1 m2 m3 m4 (up q o e)) hS' hl' hG hacc⟩
end
end ZT
set_option maxRecDepth 100000
set_option maxHeartbeats 4000000
/-! list(zip(t, u)) over the layer, and as data. -/
namespace WV
open PySem PySem.Spec PyProof.Rows L2
open Evl (Ex)
def putP : Hp → List Addr → List (V × V) → Hp
  | H, a :: as, p :: ps => putP (upd H a (.tup [p.1, p.2])) as ps
  | H, [], _ => H
  | H, _ :: _, [] => H
theorem putP_off {b : Addr} : ∀ (as : List Addr) (ps : List (V × V)) (H : Hp), b ∉ as → putP H as ps b = H b
  | [], _, _, _ => rfl
  | _ :: _, [], _, _ => rfl
  | a :: as, p :: ps, H, h => (putP_off as ps _ fun z => h (List.mem_cons_of_mem _ z)).trans (upd_ne fun z => h (by rw [z]; exact List.mem_cons_self))
theorem putP_at : ∀ (as : List Addr) (ps : List (V × V)) (H : Hp), as.length = ps.length → as.Nodup → ∀ (j : Nat) (a : Addr), as[j]? = some a → ∃ p, ps[j]? = some p ∧ putP H as ps a = some (.tup [p.1, p.2])
  | [], _, _, _, _, j, a, h => by simp at h
  | _ :: _, [], _, h, _, _, _, _ => by cases h
  | c :: as, p :: ps, H, h, hn, 0, a, e => by
    have : c = a := by simpa using e
    subst this
    exact ⟨p, rfl, (putP_off as ps _ (List.nodup_cons.mp hn).1).trans upd_same⟩
  | c :: as, p :: ps, H, h, hn, j + 1, a, e => putP_at as ps (upd H c (.tup [p.1, p.2])) (Nat.succ.inj h) (List.nodup_cons.mp hn).2 j a (by simpa using e)
theorem vals_ref : ∀ as : List Addr, Vals (as.map V.ref) (as.map Value.ref)
  | [] => .nil
  | _ :: as => .cons rfl (vals_ref as)
theorem pairs_laid {X : Cx} {pins : List (Addr × Obj)} {σ : L2.St} {H : Hp} {s : Shared} {h' : Heap} {tk : Nat} {ps : List (V × V)} {S : Addr} {acc : Array Value} {c : Nat} {as : List Addr} (I : Inv X pins σ H s) (h0 : s.heap.objs.size ≤ S) (hz : ps.length ≤ sizeLine)
    (hk : ∀ b o, s.heap.get? b = some o → h'.get? b = some o) (hS : h'.get? S = some { cls := .type "list", dict := none, data := .seq acc c, slots := #[] }) (hl : as.length = ps.length) (hr : as.Pairwise (· < ·)) (ha : ∀ a ∈ as, S < a)
    (hp : ∀ (j : Nat) (a : Addr) (p : V × V), as[j]? = some a → ps[j]? = some p → ∃ x y, RelV p.1 x ∧ RelV p.2 y ∧ IsPair h' a x y) (hacc : acc.toList = as.map Value.ref) :
    ∃ H' : Hp, (∀ b o, H b = some o → H' b = some o) ∧ H S = none ∧ H' S = some (.lst (as.map V.ref)) ∧ (∀ (j : Nat) (a : Addr), as[j]? = some a → ∃ p, ps[j]? = some p ∧ H' a = some (.tup [p.1, p.2])) ∧ Inv X pins σ H' { s with heap := h', toks := tk } := by
  have Sn : S ∉ as := fun z => Nat.lt_irrefl _ (ha _ z)
  have nd : as.Nodup := List.Pairwise.imp (fun h => Nat.ne_of_lt h) hr
  have new : ∀ t ∈ as, H t = none := fun t ht => I.hok.fresh (Nat.le_trans h0 (Nat.le_of_lt (ha t ht)))
  have newS : H S = none := I.hok.fresh h0
  have atP := putP_at as ps (upd H S (.lst (as.map V.ref))) hl nd
  have off : ∀ b, b ∉ as → b ≠ S → putP (upd H S (.lst (as.map V.ref))) as ps b = H b := fun b h1 h2 => (putP_off as ps _ h1).trans (upd_ne h2)
  have low : ∀ b o, s.heap.get? b = some o → b ∉ as ∧ b ≠ S := fun b o e =>
    have lt : b < S := Nat.lt_of_lt_of_le (Heap.lt_size e) h0
    ⟨fun z => Nat.lt_asymm lt (ha b z), Nat.ne_of_lt lt⟩
  have kp : ∀ b u, H b = some u → putP (upd H S (.lst (as.map V.ref))) as ps b = some u := fun b u e => by
    rw [off b (fun z => by rw [new b z] at e; cases e) (fun z => by rw [z, newS] at e; cases e)]
    exact e
  have eS : putP (upd H S (.lst (as.map V.ref))) as ps S = some (.lst (as.map V.ref)) := (putP_off as ps _ Sn).trans upd_same
  refine ⟨_, kp, newS, eS, atP, ?_⟩
  refine I.call' (ch := []) rfl ⟨fun b o q _ _ _ => hk b o q, fun b o q _ _ _ => ⟨o.slots, hk b o q⟩, fun b o q n _ => ?_, fun b o q _ => ⟨o, hk b o q⟩, fun b xs q => kp b _ q, fun b o u q => kp b _ q, fun b ps q => ⟨#[], by rw [kp b _ q]; simp⟩⟩ (fun b u q => ?_) I.bare fun b z => by simp at z
  · rw [off b (low b o q).1 (low b o q).2]
    exact n
  · by_cases hb : b ∈ as
    · obtain ⟨j, hj⟩ := List.mem_iff_getElem?.mp hb
      obtain ⟨p, e2, e3⟩ := atP j b hj
      rw [e3] at q
      cases q
      obtain ⟨x, y, r1, r2, e4⟩ := hp j b p hj e2
      exact ⟨by show 2 ≤ sizeLine; decide, [x, y], .cons r1 (.cons r2 .nil), ⟨_, e4, rfl, _, rfl⟩⟩
    · by_cases hb2 : b = S
      · rw [hb2] at q ⊢
        rw [eS] at q
        cases q
        refine ⟨by rw [List.length_map]; omega, acc.toList, c, by rw [hacc]; exact vals_ref as, ?_⟩
        rw [Array.toArray_toList]
        exact hS
      · rw [off b hb hb2] at q
        exact (I.hok b u q).stay (fun d v _ y => hk d v y) (fun d y => kp d _ y) fun d xs y => kp d _ y
def tListZip (K : PySem.W.Frag) (ta : TA) : TE := fun σ H Q => ta σ H fun vs H1 => ∃ a b xs ys, vs = [.ref a, .ref b] ∧ SqT K H1 a xs ∧ SqT K H1 b ys ∧ xs.length = ys.length ∧
  ∀ (H' : Hp) (p : Addr) (ts : List Addr), (∀ c o, H1 c = some o → H' c = some o) → H1 p = none → H' p = some (.lst (ts.map V.ref)) → ts.length = xs.length → (∀ (j : Nat) (t : Addr), ts[j]? = some t → ∃ q, (xs.zip ys)[j]? = some q ∧ H' t = some (.tup [q.1, q.2])) → Q (.ref p) H'
theorem pe_listZip {X : Cx} {e e2 : Expr} {ta : TA} {p p2 pos pos2 : Pos} (hc : X.calm = true) (hg : Gl X "list") (hm : X.mg "list" = none) (hg2 : Gl X "zip") (hm2 : X.mg "zip" = none) (ha : PA X [e, e2] ta)
    (hs : starEach [.Call (.Name "zip" p2) [e, e2] [] pos2] X.env = (false, eval (.Call (.Name "zip" p2) [e, e2] [] pos2) X.env) :: starEach [] X.env := by rfl)
    (hs2 : starEach [e, e2] X.env = (false, eval e X.env) :: starEach [e2] X.env := by rfl) (hpl : (backTo pos2 (starEach [e2] X.env)).any (·.1) = false := by rfl) :
    PE X (.Call (.Name "list" p) [.Call (.Name "zip" p2) [e, e2] [] pos2] [] pos) (tListZip X.K ta) := by
  refine ⟨fun pins s σ H Q I h => ?_⟩
  refine Call_ (ld_blt I hg hm boot_list (PyProof.Rows.callWith_type1 (args_cons (Call_ (ld_blt I hg2 hm2 PyProof.Rows.boot_zip (PyProof.Rows.callWith_type1 (thn (ha.run pos2 pins s σ H _ I h) fun us s1 ⟨vs, H1, I1, r1, q1⟩ => ?_) hs2 hpl))) hs) hs rfl))
  obtain ⟨a, b, xs, ys, ev, hx, hy, hl, q⟩ := q1
  subst ev
  cases r1 with
  | cons r rr =>
    cases rr with
    | cons r' rr =>
      cases rr
      cases r
      cases r'
      obtain ⟨its, rv, p1, hz1⟩ := I1.tuple hx
      obtain ⟨its2, rv2, p2, _⟩ := I1.tuple hy
      obtain ⟨o1, ho1, _⟩ := id p1
      obtain ⟨o2, ho2, _⟩ := id p2
      have l1 := Heap.lt_size ho1
      have l2 := Heap.lt_size ho2
      have hsx : its.toArray.size = xs.length := by rw [List.size_toArray, ← rv.length]
      have hsy : its2.toArray.size = ys.length := by rw [List.size_toArray, ← rv2.length]
      refine RZ.call_zipT (show s1.heap.IsTuple a its.toArray from p1) (show s1.heap.IsTuple b its2.toArray from p2) fun h' hz hTI hTO q1 q2 hsz hk => args_nil ?_
      have hsz' : ({ s1 with heap := h' } : Shared).heap.objs.size = s1.heap.objs.size + 5 := hsz
      refine ZT.callZ (s := { s1 with heap := h' }) (I1.ok.hd hc) (PySem.W.ktu_apart s1.heap.objs.size a b l1 l2) ?_ (by rw [hsx]; exact hz1) (by rw [hsx, hsy, hl]) hz hTI hTO q1 q2 (Heap.IsTuple.at (show s1.heap.IsTuple a its.toArray from p1) fun o e => hk _ o e) (Heap.IsTuple.at (show s1.heap.IsTuple b its2.toArray from p2) fun o e => hk _ o e) fun h2 tk acc c as k hS hal hG hacc => ?_
      · rw [hsz']
        exact ⟨Nat.add_lt_add_left (by decide) _, Nat.add_lt_add_left (by decide) _, Nat.add_lt_add_left (by decide) _, Nat.lt_add_of_pos_right (by decide), Nat.add_lt_add_left (by decide) _, Nat.lt_of_lt_of_le l1 (Nat.le_add_right _ _), Nat.lt_of_lt_of_le l2 (Nat.le_add_right _ _)⟩
      · rw [hsz'] at hS hG ⊢
        have hal' : as.length = (xs.zip ys).length := by rw [hal, hsx, List.length_zip, ← hl, Nat.min_self]
        have hkk : ∀ b o, s1.heap.get? b = some o → h2.get? b = some o := fun b o e => by
          have lt := Heap.lt_size e
          refine k b o ?_ ?_ ?_ ?_ (hk b o e)
          · exact Nat.ne_of_lt (Nat.lt_of_lt_of_le lt (Nat.le_add_right _ _))
          · exact Nat.ne_of_lt (Nat.lt_of_lt_of_le lt (Nat.le_add_right _ _))
          · exact Nat.ne_of_lt lt
          · exact Nat.ne_of_lt (Nat.lt_of_lt_of_le lt (Nat.le_add_right _ _))
        obtain ⟨H', w1, w2, w3, w4, J⟩ := pairs_laid (tk := tk) (ps := xs.zip ys) I1 (Nat.le_add_right _ _) (by rw [← hal', hal, hsx]; exact hz1) hkk hS hal' hG.rise hG.above (fun j t q hj hq => by
          obtain ⟨x, y, e1, e2, e3⟩ := hG.pair j t hj
          obtain ⟨f1, f2⟩ := List.getElem?_zip_eq_some.mp hq
          obtain ⟨u, g1, g2⟩ := rv.get f1
          obtain ⟨u2, g3, g4⟩ := rv2.get f2
          have e1' : its[j]? = some x := by simpa using e1
          have e2' : its2[j]? = some y := by simpa using e2
          rw [e1'] at g1
          rw [e2'] at g3
          cases g1
          cases g3
          exact ⟨x, y, g2, g4, e3⟩) hacc
        exact ⟨.ref _, H', J, rfl, q H' _ as w1 w2 w3 (by rw [hal, hsx]) w4⟩
section
variable {K : PySem.W.Frag} {σ : L2.St} {H : Hp} {ta tb : TE}
theorem tds_pairs {H : Hp} : ∀ {ts : List Addr} {ps : List (V × V)} {ds : List (T × T)}, ts.length = ps.length → ps.length = ds.length → (∀ (j : Nat) (t : Addr), ts[j]? = some t → ∃ q, ps[j]? = some q ∧ H t = some (.tup [q.1, q.2])) → (∀ (j : Nat) (q : V × V) (d : T × T), ps[j]? = some q → ds[j]? = some d → Td H q.1 d.1 ∧ Td H q.2 d.2) → Tds H (ts.map V.ref) (ds.map fun d => .tuple [d.1, d.2])
  | [], _, [], _, _, _, _ => .nil
  | [], [], _ :: _, _, h, _, _ => by cases h
  | [], _ :: _, _, h, _, _, _ => by cases h
  | _ :: _, [], _, h, _, _, _ => by cases h
  | _ :: _, _ :: _, [], _, h, _, _ => by cases h
  | t :: ts, p :: ps, d :: ds, h1, h2, h3, h4 => by
    refine .cons ?_ (tds_pairs (Nat.succ.inj h1) (Nat.succ.inj h2) (fun j t e => by simpa using h3 (j + 1) t (by simpa using e)) (fun j q d e1 e2 => h4 (j + 1) q d (by simpa using e1) (by simpa using e2)))
    obtain ⟨q, e1, e2⟩ := h3 0 t rfl
    have e3 : p = q := by simpa using e1
    subst e3
    obtain ⟨f1, f2⟩ := h4 0 p d rfl rfl
    exact .t e2 (.cons f1 (.cons f2 .nil))
theorem el_listZip {ds es : List T} (ha : ED ta σ H (.tuple ds)) (hb : ED tb σ H (.tuple es)) (hl : ds.length = es.length) : EL (tListZip K (tCons ta (tCons tb tNil))) σ H ((ds.zip es).map fun d => .tuple [d.1, d.2]) := fun H1 k Q q =>
  ha H1 k _ fun v H2 e2 hv => hb H2 (k.trans e2) _ fun w H3 e3 hw => by
    obtain ⟨a, xs, rfl, g1, g2⟩ := (hv.keep (.ex e3)).tup_inv
    obtain ⟨b, ys, rfl, f1, f2⟩ := hw.tup_inv
    have lx := g2.length
    have ly := f2.length
    refine ⟨a, b, xs, ys, rfl, .inl (.inl g1), .inl (.inl f1), by omega, fun H' p ts kk hp h1 hz hts => ?_⟩
    have ex : Ex H3 H' := fun c o e => kk c o e
    refine q p _ H' (Evl.fresh_back (e2.trans e3) hp) ((e2.trans e3).trans ex) h1 ?_
    refine tds_pairs (ps := xs.zip ys) (by rw [List.length_zip]; omega) (by rw [List.length_zip, List.length_zip]; omega) hts fun j q d e1 e4 => ?_
    obtain ⟨a1, a2⟩ := List.getElem?_zip_eq_some.mp e1
    obtain ⟨b1, b2⟩ := List.getElem?_zip_eq_some.mp e4
    obtain ⟨d1, c1, c2⟩ := g2.get a1
    obtain ⟨d2, c3, c4⟩ := f2.get a2
    rw [c1] at b1
    rw [c3] at b2
    cases b1
    cases b2
    exact ⟨c2.keep (.ex ex), c4.keep (.ex ex)⟩
end
end WV
set_option maxRecDepth 100000
set_option maxHeartbeats 4000000
namespace K23
open PySem PySem.Spec PyProof.Rows L2 WV
open Evl (Ex Ev)
variable {P : Program} {w : World} {K : PySem.W.Frag} {mg : Str → Option Value} {base : Heap}
mutual
/-- no tuple is long -/
def szd : WV.T → Bool
  | .tuple ds => decide (ds.length ≤ 1000) && szds ds
  | _ => true
def szds : List WV.T → Bool
  | [] => true
  | d :: ds => szd d && szds ds
end
theorem szd_tup {ds : List WV.T} (h : szd (.tuple ds) = true) : ds.length ≤ 1000 ∧ ∀ d ∈ ds, szd d = true := by
  unfold szd at h
  rw [Bool.and_eq_true, decide_eq_true_eq] at h
  refine ⟨h.1, ?_⟩
  have : ∀ ds : List WV.T, szds ds = true → ∀ d ∈ ds, szd d = true := fun ds => by
    induction ds with
    | nil => intro _ d hd; cases hd
    | cons x ds ih =>
      intro hs d hd
      unfold szds at hs
      rw [Bool.and_eq_true] at hs
      rcases List.mem_cons.mp hd with e | e
      · rw [e]
        exact hs.1
      · exact ih hs.2 d e
  exact this ds h.2
theorem sh_items {j : Nat} : ∀ {ds : List WV.T}, PyData.canLayAll0 ds = true → PyData.depthAll ds ≤ j → ∀ d ∈ ds, sh j d
  | [], _, _, d, hd => by cases hd
  | x :: ds, h1, h2, d, hd => by
    rw [PyData.canLayAll0, Bool.and_eq_true] at h1
    rw [PyData.depthAll] at h2
    rcases List.mem_cons.mp hd with e | e
    · rw [e]
      exact ⟨h1.1, by omega⟩
    · exact sh_items h1.2 (by omega) d e
theorem sh_item {j : Nat} {ds : List WV.T} (h : sh (j + 1) (.tuple ds)) : ∀ d ∈ ds, sh j d := by
  obtain ⟨h1, h2⟩ := h
  rw [PyData.canLay0] at h1
  rw [PyData.depth] at h2
  exact sh_items h1 (by omega)
theorem sh_no {ds : List WV.T} (h : sh 0 (.tuple ds)) : False := by
  have := h.2
  rw [PyData.depth] at this
  omega
/-- told is just due -/
def SpSame (j : Nat) : Sp := fun vs H Q _ => ∃ x y d, vs = [x, y] ∧ Td H x d ∧ Td H y d ∧ sh j d ∧ szd d = true ∧ ∀ v H', Ex H H' → Td H' v (.bool true) → Q v H'
theorem ed_same {σ : L2.St} {H : Hp} {j : Nat} {E : XK} {ta tb : TE} {d : WV.T} (h1 : ED ta σ H d) (h2 : ED tb σ H d) (hd : sh j d) (hz : szd d = true) : ED (tCall (SpSame j) [] E (tCons ta (tCons tb tNil))) σ H (.bool true) := fun H1 e Q q =>
  h1 H1 e _ fun v H2 e2 hv => h2 H2 (e.trans e2) _ fun w H3 e3 hw => ⟨v, w, d, rfl, hv.keep (.ex e3), hw, hd, hz, fun z H4 e4 hz => q z H4 ((e2.trans e3).trans e4) hz⟩
theorem s_next {D : Ends} {σ : L2.St} {H : Hp} (h : D.nx σ H) : tNext D σ H := h
theorem same_step {k j : Nat} (T : Txt K mg) (spI : Sp) (hk : 1 ≤ k) (hj : j ≤ 64) (G_law_same : FnOk P w K mg base CX0 k T.f_law_same T.d_law_same ["told", "due"] spI)
    (hI : ∀ vs H Q E, ∀ x y d, vs = [x, y] → Td H x d → Td H y d → (∃ ds, sh j (.tuple ds) ∧ d ∈ ds) → szd d = true → (∀ v H', Ex H H' → Td H' v (.bool true) → Q v H') → spI vs H Q E) : FnOk P w K mg base CX0 (k + 1) T.f_law_same T.d_law_same ["told", "due"] (SpSame j) := by
  refine T.F_law_same.ok sc_law_same (fun vs H Q E ⟨_, _, _, h, _⟩ => by rw [h]; rfl) (fun cdv A outer s H vs Q E hr h => ?_)
  obtain ⟨x0, x1, d, rfl, h0, h1, hd, hz, q⟩ := h
  have hu := hr.units
  refine ⟨_, (pss_cons (ps_if (pt_val (pe_callB call_isi (by rfl) T.m_isinstance (by decide +kernel) (pa_cons (pv 1) (pa_cons (pe_bltn (v := .ty "tuple") (u := .type "tuple") (by rfl) T.m_tuple (by decide +kernel) (by rfl)) pa_nil))))
        (pss_cons (ps_if (PW.pt (pw_or (pt_not (pt_val (pe_callB call_isi (by rfl) T.m_isinstance (by decide +kernel) (pa_cons (pv 0) (pa_cons (pe_bltn (v := .ty "tuple") (u := .type "tuple") (by rfl) T.m_tuple (by decide +kernel) (by rfl)) pa_nil))))) (pw_or1 (pt_cmpR (op_neD hu) (pe_callB call_len_seq (by rfl) T.m_len (by decide +kernel) (pa_cons (pv 0) pa_nil)) (pe_callB call_len_seq (by rfl) T.m_len (by decide +kernel) (pa_cons (pv 1) pa_nil)) (by rfl)))))
        (pss_one (ps_ret pe_bl))
        pss_nil)
      (pss_one (ps_ret (pe_callB (cr_all rfl) (by rfl) T.m_all (by decide +kernel) (pa_cons (pe_lcD s H (own := [("one", 2), ("other", 3)]) rfl sc_law_same.nd (pi_seq (pe_listZip rfl (by rfl) T.m_list (by rfl) T.m_zip (pa_cons (pv 0) (pa_cons (pv 1) pa_nil)))) (blkOk_by (own := [("one", 2), ("other", 3)]) (N := nm_law_same) (sc := defScope s_law_same) (by decide +kernel)) (fun _ _ _ _ _ => (pg_tup rfl (pgs_cons (pg_name (i := 2) sc_law_same.nd rfl (by first | exact .inl rfl | exact .inr rfl)) (pgs_cons (pg_name (i := 3) sc_law_same.nd rfl (by first | exact .inl rfl | exact .inr rfl)) pgs_nil)))) (fun _ _ _ _ _ => pts_nil) (fun _ _ _ _ _ => (pe_call G_law_same hr (by rfl) T.g_law_same T.F_law_same.kp T.b_law_same .nil pass0 (pa_cons (pv 2) (pa_cons (pv 3) pa_nil))))) pa_nil)))))
        pss_nil)
      (pss_cons (ps_if (PW.pt (pw_or (pt_cmpR op_isN (pv 1) pe_non (by rfl)) (pw_or1 (pt_val (pe_callB call_isi (by rfl) T.m_isinstance (by decide +kernel) (pa_cons (pv 1) (pa_cons (pe_bltn (v := .ty "bool") (u := .type "bool") (by rfl) T.m_bool (by decide +kernel) (by rfl)) pa_nil)))))))
        (pss_one (ps_ret (pe_ifExp (pt_cmpR op_isN (pv 1) pe_non (by rfl)) (pe_cmpR op_isN (pv 0) pe_non (by rfl)) (pe_and (pe_callB call_isi (by rfl) T.m_isinstance (by decide +kernel) (pa_cons (pv 0) (pa_cons (pe_bltn (v := .ty "bool") (u := .type "bool") (by rfl) T.m_bool (by decide +kernel) (by rfl)) pa_nil))) (pe_one (pe_cmpR (op_eqD hu) (pv 0) (pv 1) (by rfl)))))))
        pss_nil)
      (pss_cons (ps_if (pt_val (pe_callB call_isi (by rfl) T.m_isinstance (by decide +kernel) (pa_cons (pv 1) (pa_cons (pe_bltn (v := .ty "int") (u := .type "int") (by rfl) T.m_int (by decide +kernel) (by rfl)) pa_nil))))
        (pss_one (ps_ret (pe_and (pe_callB call_isi (by rfl) T.m_isinstance (by decide +kernel) (pa_cons (pv 0) (pa_cons (pe_bltn (v := .ty "int") (u := .type "int") (by rfl) T.m_int (by decide +kernel) (by rfl)) pa_nil))) (pe_and (pe_not (pe_callB call_isi (by rfl) T.m_isinstance (by decide +kernel) (pa_cons (pv 0) (pa_cons (pe_bltn (v := .ty "bool") (u := .type "bool") (by rfl) T.m_bool (by decide +kernel) (by rfl)) pa_nil)))) (pe_one (pe_cmpR (op_eqD hu) (pv 0) (pv 1) (by rfl)))))))
        pss_nil)
      (pss_one (ps_ret (pe_and (pe_callB call_isi (by rfl) T.m_isinstance (by decide +kernel) (pa_cons (pv 0) (pa_cons (pe_bltn (v := .ty "str") (u := .type "str") (by rfl) T.m_str (by decide +kernel) (by rfl)) pa_nil))) (pe_one (pe_cmpR (op_eqD hu) (pv 0) (pv 1) (by rfl))))))))), ?_⟩
  have e1n : ∀ {H1 : Hp}, Ex H H1 → Td H1 x0 d ∧ Td H1 x1 d := fun e => ⟨h0.keep (.ex e), h1.keep (.ex e)⟩
  have hsd : SeqAt.shaped d = true := sh.ok hd hj
  cases d with
  | list ds => exact h0.nl.elim
  | tuple ds =>
    obtain ⟨z1, z2⟩ := szd_tup hz
    refine s_ifT (eb_test (ed_isTup (ed_var rfl h1))) fun H1 e1 => ?_
    have k0 := h0.keep (.ex e1)
    have k1 := h1.keep (.ex e1)
    refine s_ifF (eb_is (eb_or (a := false) (eb_not (b := true) (eb_B (ed_isTup (ed_var rfl k0)))) (fun _ => eb_is (b := false) (eb_test (ed_neI (ed_len (ed_var rfl k0)) (ed_len (ed_var rfl k1)))) (by simp))) rfl) fun H2 e2 => ?_
    have k0 := k0.keep (.ex e2)
    have k1 := k1.keep (.ex e2)
    have hlen : ((ds.zip ds).map fun p => PyData.tuple [p.1, p.2]).length = ds.length := by simp
    refine s_next ?_
    dsimp only
    refine s_ret (d := .bool true) ?_ fun v H3 e3 hv => q v H3 ((e1.trans e2).trans e3) hv
    refine ed_is (ed_all (bs := ds.map fun _ => true) (el_is (el_lcN (ds := (ds.zip ds).map fun p => .tuple [p.1, p.2]) (fun _ => true) (fun _ => .bool true) (el_listZip (ed_var rfl k0) (ed_var rfl k1) rfl) (by rw [hlen]; omega) (fun i v dd H3 e3 hd' hv Q2 q2 => ?_)) ?_)) ?_
    · obtain ⟨p, hp, rfl⟩ : ∃ p, (ds.zip ds)[i]? = some p ∧ dd = .tuple [p.1, p.2] := by
        rw [List.getElem?_map] at hd'
        cases hp : (ds.zip ds)[i]? with
        | none =>
          rw [hp] at hd'
          cases hd'
        | some p =>
          rw [hp] at hd'
          cases hd'
          exact ⟨p, rfl, rfl⟩
      obtain ⟨p1, p2⟩ := List.getElem?_zip_eq_some.mp hp
      rw [p1] at p2
      have p3 : p.1 = p.2 := Option.some.inj p2
      have hmem : p.1 ∈ ds := List.mem_of_getElem? p1
      rw [← p3] at hv
      refine g_two hv fun a b ha hb => q2 _ rfl eb_yes fun _ => ?_
      intro H4 e4 Q q4
      exact ⟨_, rfl, _, rfl, hI _ _ _ _ a b p.1 rfl (ha.keep (.ex e4)) (hb.keep (.ex e4)) ⟨ds, hd, hmem⟩ (z2 _ hmem) q4⟩
    · rw [hlen, gd_all]
      simp [List.map_const']
    · simp
  | none =>
    refine s_ifF (eb_is (eb_test (ed_isTup (ed_var rfl h1))) rfl) fun H1 e1 => ?_
    refine s_ifT (eb_orT (eb_is (eb_test (ed_isN (ed_var rfl (e1n e1).2))) rfl)) fun H2 e2 => ?_
    exact s_ret (ed_ifT (eb_is (eb_test (ed_isN (ed_var rfl (e1n (e1.trans e2)).2))) rfl) (ed_is (ed_isN (ed_var rfl (e1n (e1.trans e2)).1)) rfl)) fun v H3 e3 hv => q v H3 ((e1.trans e2).trans e3) hv
  | bool x =>
    refine s_ifF (eb_is (eb_test (ed_isTup (ed_var rfl h1))) rfl) fun H1 e1 => ?_
    refine s_ifT (eb_is (eb_or (a := false) (eb_is (eb_test (ed_isN (ed_var rfl (e1n e1).2))) rfl) fun _ => eb_test (ed_isBool (ed_var rfl (e1n e1).2))) rfl) fun H2 e2 => ?_
    exact s_ret (ed_ifF (eb_is (eb_test (ed_isN (ed_var rfl (e1n (e1.trans e2)).2))) rfl) (ed_is (ed_andV (ed_isBool (ed_var rfl (e1n (e1.trans e2)).1)) fun _ => ed_eq (ed_var rfl (e1n (e1.trans e2)).1) (ed_var rfl (e1n (e1.trans e2)).2) hsd hsd) (by simp [PyData.eqv, WV.isBool]))) fun v H3 e3 hv => q v H3 ((e1.trans e2).trans e3) hv
  | int x =>
    refine s_ifF (eb_is (eb_test (ed_isTup (ed_var rfl h1))) rfl) fun H1 e1 => ?_
    refine s_ifF (eb_is (eb_or (a := false) (eb_is (eb_test (ed_isN (ed_var rfl (e1n e1).2))) rfl) fun _ => eb_test (ed_isBool (ed_var rfl (e1n e1).2))) rfl) fun H2 e2 => ?_
    refine s_ifT (eb_is (eb_test (ed_isInt (ed_var rfl (e1n (e1.trans e2)).2))) rfl) fun H3 e3 => ?_
    have ee := (e1.trans e2).trans e3
    exact s_ret (ed_is (ed_andV (ed_isInt (ed_var rfl (e1n ee).1)) fun _ => ed_andV (ed_notV (ed_isBool (ed_var rfl (e1n ee).1))) fun _ => ed_eq (ed_var rfl (e1n ee).1) (ed_var rfl (e1n ee).2) hsd hsd) (by simp [PyData.eqv, WV.isInt, WV.isBool])) fun v H4 e4 hv => q v H4 (ee.trans e4) hv
  | str x =>
    refine s_ifF (eb_is (eb_test (ed_isTup (ed_var rfl h1))) rfl) fun H1 e1 => ?_
    refine s_ifF (eb_is (eb_or (a := false) (eb_is (eb_test (ed_isN (ed_var rfl (e1n e1).2))) rfl) fun _ => eb_test (ed_isBool (ed_var rfl (e1n e1).2))) rfl) fun H2 e2 => ?_
    refine s_ifF (eb_is (eb_test (ed_isInt (ed_var rfl (e1n (e1.trans e2)).2))) rfl) fun H3 e3 => ?_
    have ee := (e1.trans e2).trans e3
    exact s_ret (ed_is (ed_andV (ed_isStr (ed_var rfl (e1n ee).1)) fun _ => ed_eq (ed_var rfl (e1n ee).1) (ed_var rfl (e1n ee).2) hsd hsd) (by simp [PyData.eqv, WV.isStr])) fun v H4 e4 hv => q v H4 (ee.trans e4) hv
  | _ => cases h0
theorem ok_law_same (T : Txt K mg) : ∀ j, j ≤ 64 → FnOk P w K mg base CX0 (j + 2) T.f_law_same T.d_law_same ["told", "due"] (SpSame j)
  | 0, h => same_step (k := 1) T (fun _ _ _ _ => False) (Nat.le_refl _) h ⟨fun _ _ _ _ h => h.elim, fun _ _ _ _ _ _ _ _ _ _ _ _ _ h => h.elim⟩ fun vs H Q E x y d e h0 h1 ⟨ds, hs, _⟩ => (sh_no hs).elim
  | j + 1, h => same_step (k := j + 2) T (SpSame j) (by omega) h (ok_law_same T j (by omega)) fun vs H Q E x y d e h0 h1 ⟨ds, hs, hm⟩ hz q => ⟨x, y, d, e, h0, h1, sh_item hs d hm, hz, q⟩
end K23
set_option maxRecDepth 100000
set_option maxHeartbeats 2000000
/-! Calls by names alone, over data. -/
namespace K23
open PySem PySem.Spec PyProof.Rows L2 WV
open Evl (Ex Ev)
section
variable {σ : L2.St} {H : Hp} {ta tb tc : TE} {E : XK} {f : List WV.T → WV.T → Prop} {gV : List V → List V → List V} {d1 d2 d3 r : WV.T}
theorem ed_callK1 (hg : ∀ a, gV [] [a] = [a]) (h1 : ED ta σ H d1) (hf : f [d1] r) : ED (tCallK (SpT f) gV E tNil (tCons ta tNil)) σ H r := fun H1 e Q q =>
  h1 H1 e _ fun v H2 e2 hv => ⟨[d1], r, by rw [hg]; exact .cons hv .nil, hf, fun z H4 e4 hz => q z H4 (e2.trans e4) hz⟩
theorem ed_callK2 (hg : ∀ a b, gV [] [a, b] = [b, a]) (h1 : ED ta σ H d1) (h2 : ED tb σ H d2) (hf : f [d2, d1] r) : ED (tCallK (SpT f) gV E tNil (tCons ta (tCons tb tNil))) σ H r := fun H1 e Q q =>
  h1 H1 e _ fun v H2 e2 hv => h2 H2 (e.trans e2) _ fun w H3 e3 hw => ⟨[d2, d1], r, by rw [hg]; exact .cons hw (.cons (hv.keep (.ex e3)) .nil), hf, fun z H4 e4 hz => q z H4 ((e2.trans e3).trans e4) hz⟩
theorem ed_callK3 (hg : ∀ a b c, gV [] [a, b, c] = [c, b, a]) (h1 : ED ta σ H d1) (h2 : ED tb σ H d2) (h3 : ED tc σ H d3) (hf : f [d3, d2, d1] r) : ED (tCallK (SpT f) gV E tNil (tCons ta (tCons tb (tCons tc tNil)))) σ H r := fun H1 e Q q =>
  h1 H1 e _ fun v H2 e2 hv => h2 H2 (e.trans e2) _ fun w H3 e3 hw => h3 H3 ((e.trans e2).trans e3) _ fun x H4 e4 hx => ⟨[d3, d2, d1], r, by rw [hg]; exact .cons hx (.cons (hw.keep (.ex e4)) (.cons (hv.keep (.ex (e3.trans e4))) .nil)), hf, fun z H5 e5 hz => q z H5 (((e2.trans e3).trans e4).trans e5) hz⟩
theorem ed_2 (h1 : ED ta σ H d1) (h2 : ED tb σ H d2) : ED (tTup (tCons ta (tCons tb tNil))) σ H (.tuple [d1, d2]) := ed_tup (ea_cons h1 (ea_cons h2 ea_nil)) (by simp)
end
theorem szd_int {x : Int} : szd (.int x) = true := rfl
theorem szds_of : ∀ {ds : List WV.T}, (∀ d ∈ ds, szd d = true) → szds ds = true
  | [], _ => rfl
  | d :: ds, h => by
    unfold szds
    rw [h d (by simp), szds_of fun x hx => h x (List.mem_cons_of_mem _ hx)]
    rfl
theorem szd_of {ds : List WV.T} (hl : ds.length ≤ 1000) (h : ∀ d ∈ ds, szd d = true) : szd (.tuple ds) = true := by
  unfold szd
  rw [szds_of h, decide_eq_true hl]
  rfl
theorem szd_W {ns : List Int} (h : ns.length ≤ 1000) : szd (W ns) = true := szd_of (by rw [List.length_map]; exact h) fun d hd => by
  obtain ⟨i, _, rfl⟩ := List.mem_map.mp hd
  rfl
theorem szd_2 {a b : WV.T} (ha : szd a = true) (hb : szd b = true) : szd (.tuple [a, b]) = true := szd_of (by simp) fun d hd => by
  simp at hd
  rcases hd with rfl | rfl
  · exact ha
  · exact hb
theorem sh_2 {n : Nat} {a b : WV.T} (ha : sh n a) (hb : sh n b) : sh (n + 1) (.tuple [a, b]) := sh_tup fun d hd => by
  simp at hd
  rcases hd with rfl | rfl
  · exact ha
  · exact hb
theorem szd_La {u v : List Int} (hu : u.length ≤ 1000) (hv : v.length ≤ 1000) : szd (La u v) = true := szd_2 (szd_W hu) (szd_W hv)
theorem sh_La {n : Nat} {u v : List Int} : sh (n + 2) (La u v) := sh_2 sh_W sh_W
theorem kv1 {g : List V → List V → List V} (h : ∀ a, g [] [a] = [a]) : ∀ a, g [] [a] = [a] := h
end K23
set_option maxRecDepth 100000
set_option maxHeartbeats 4000000
namespace K23
open PySem PySem.Spec PyProof.Rows L2 WV
open Evl (Ex Ev)
variable {P : Program} {w : World} {K : PySem.W.Frag} {mg : Str → Option Value} {base : Heap}
theorem LAr.keep {k : Int} {H H' : Hp} (e : Ex H H') {x : V} {r : WV.T} (h : LAr k H x r) : LAr k H' x r := by
  cases h with
  | pair h z1 z2 => exact .pair (h.keep (.ex e)) z1 z2
  | non => exact .non
  | one h => exact .one (h.keep (.ex e))
  | lst h => exact .lst (h.keep e)
  | mix h1 h2 h3 h4 => exact .mix (e _ _ h1) (h2.keep e) (h3.keep (.ex e)) h4
inductive LArs (k : Int) (H : Hp) : List V → List WV.T → Prop
  | nil : LArs k H [] []
  | cons {v : V} {vs : List V} {d : WV.T} {ds : List WV.T} : LAr k H v d → LArs k H vs ds → LArs k H (v :: vs) (d :: ds)
theorem LArs.keep {k : Int} {H H' : Hp} (e : Ex H H') : ∀ {vs : List V} {rs : List WV.T}, LArs k H vs rs → LArs k H' vs rs
  | _, _, .nil => .nil
  | _, _, .cons h hs => .cons (h.keep e) (hs.keep e)
theorem LArs.length {k : Int} {H : Hp} : ∀ {vs : List V} {rs : List WV.T}, LArs k H vs rs → vs.length = rs.length
  | _, _, .nil => rfl
  | _, _, .cons _ h => by rw [List.length_cons, List.length_cons, h.length]
theorem LArs.append {k : Int} {H : Hp} : ∀ {vs ws : List V} {ds es : List WV.T}, LArs k H vs ds → LArs k H ws es → LArs k H (vs ++ ws) (ds ++ es)
  | _, _, _, _, .nil, h => h
  | _, _, _, _, .cons h hs, h2 => .cons h (hs.append h2)
theorem LArs.get {k : Int} {H : Hp} : ∀ {vs : List V} {rs : List WV.T} {j : Nat} {v : V}, LArs k H vs rs → vs[j]? = some v → LAr k H v (rs.getD j .none)
  | _, _, j, v, .nil, h => by simp at h
  | _, _, 0, v, .cons h hs, e => by
    simp at e
    subst e
    exact h
  | _, _, j + 1, v, .cons h hs, e => by
    simp at e
    exact hs.get e
section
variable {σ : L2.St} {H : Hp} {ta tb te tl : TE} {k : Int} {r : WV.T} {E : XK}
def EJ (k : Int) (te : TE) (σ : L2.St) (H : Hp) (r : WV.T) : Prop := ∀ H1, Ex H H1 → ∀ Q : VK, (∀ v H2, Ex H1 H2 → LAr k H2 v r → Q v H2) → te σ H1 Q
def EJs (k : Int) (ta : TA) (σ : L2.St) (H : Hp) (rs : List WV.T) : Prop := ∀ H1, Ex H H1 → ∀ Q : List V → Hp → Prop, (∀ vs H2, Ex H1 H2 → LArs k H2 vs rs → Q vs H2) → ta σ H1 Q
theorem ejs_nil : EJs k tNil σ H [] := fun H1 _ Q q => q [] H1 (Ex.refl H1) .nil
theorem ejs_cons {tr : TA} {rs : List WV.T} (h : EJ k te σ H r) (hr : EJs k tr σ H rs) : EJs k (tCons te tr) σ H (r :: rs) := fun H1 e Q q =>
  h H1 e _ fun v H2 e2 hv => hr H2 (e.trans e2) _ fun vs H3 e3 hvs => q _ H3 (e2.trans e3) (.cons (hv.keep e3) hvs)
theorem ej_pair {d1 d2 : WV.T} (h : ED te σ H (.tuple [d1, d2])) (z1 : szT d1) (z2 : szT d2) : EJ k te σ H (leL k d1 d2) := fun H1 e Q q => h H1 e _ fun v H2 e2 hv => q v H2 e2 (.pair hv z1 z2)
theorem ej_one {d : WV.T} (h : ED te σ H (.tuple [d])) : EJ k te σ H (.str "form") := fun H1 e Q q => h H1 e _ fun v H2 e2 hv => q v H2 e2 (.one hv)
theorem ej_non : EJ k (tC .non) σ H (.str "form") := fun H1 e Q q => q _ H1 (Ex.refl _) .non
theorem ej_lst {ds : List WV.T} (h : EL te σ H ds) : EJ k te σ H (.str "form") := fun H1 e Q q => h H1 e _ fun p vs H2 hp e2 h1 h2 => q _ H2 e2 (.lst ⟨p, vs, rfl, h1, h2⟩)
theorem ej_mix {ds : List WV.T} {d : WV.T} (h1 : EL ta σ H ds) (h2 : ED tb σ H d) (hz : szT d) : EJ k (tTup (tCons ta (tCons tb tNil))) σ H (.str "form") := fun H1 e Q q =>
  h1 H1 e _ fun p vs H2 hp e2 g1 g2 => h2 H2 (e.trans e2) _ fun w H3 e3 hw => ⟨Evl.sz_of (by simp), fun t ht => q _ _ ((e2.trans e3).trans (Ex.new ht)) (.mix upd_same ⟨p, vs, rfl, Ex.new ht _ _ (e3 _ _ g1), g2.keep (.ex (e3.trans (Ex.new ht)))⟩ (hw.keep (.new ht)) hz)⟩
theorem el_listT {ds : List WV.T} (h : ED te σ H (.tuple ds)) : EL (tCB (fun xs H Q => ∃ p ys, xs = [.ref p] ∧ (SqL K H p ys ∨ SqT K H p ys) ∧ ∀ l, H l = none → Q (.ref l) (upd H l (.lst ys))) (tCons te tNil)) σ H ds := fun H1 e Q q =>
  h H1 e _ fun v H2 e2 hv => by
    obtain ⟨a, xs, rfl, g1, g2⟩ := hv.tup_inv
    exact ⟨a, xs, rfl, .inr (.inl (.inl g1)), fun l hl => q l xs _ (Evl.fresh_back e2 hl) (e2.trans (Ex.new hl)) upd_same (g2.keep (.new hl))⟩
theorem ed_callLE (hk : ED ta σ H (.int k)) (h : EJ k tb σ H r) : ED (tCall SpLE [] E (tCons ta (tCons tb tNil))) σ H r := fun H1 e Q q =>
  hk H1 e _ fun v H2 e2 hv => h H2 (e.trans e2) _ fun w H3 e3 hw => ⟨v, w, k, r, rfl, hv.keep (.ex e3), hw, fun z H4 e4 hz => q z H4 ((e2.trans e3).trans e4) hz⟩
theorem ed_callLEK {gV : List V → List V → List V} (hg : ∀ a b, gV [] [a, b] = [b, a]) (hk : ED ta σ H (.int k)) (h : EJ k tb σ H r) : ED (tCallK SpLE gV E tNil (tCons tb (tCons ta tNil))) σ H r := fun H1 e Q q =>
  h H1 e _ fun w H2 e2 hw => hk H2 (e.trans e2) _ fun v H3 e3 hv => ⟨v, w, k, r, hg _ _, hv, hw.keep e3, fun z H4 e4 hz => q z H4 ((e2.trans e3).trans e4) hz⟩
theorem ej_var {i : Nat} {v : V} (h : σ[i]? = some (some v)) (hv : LAr k H v r) : EJ k (tVar i) σ H r := fun H1 e Q q => ⟨v, h, q v H1 (Ex.refl H1) (hv.keep e)⟩
/-- over a list of any values -/
theorem el_lcA {t : TT} {gt : TG} {vs : List Nat} {a : Addr} {xs : List V} (f : Nat → Bool) (g : Nat → WV.T) (h : Ev tl σ H (.ref a)) (hl : H a = some (.lst xs)) (hz : xs.length ≤ 40000)
    (hb : ∀ (i : Nat) (v : V) (H1 : Hp), Ex H H1 → xs[i]? = some v → ∀ Q2 : L2.St → Hp → Prop, (∀ σ2, wipe σ2 vs = wipe σ vs → EB t σ2 H1 (f i) → (f i = true → ED te σ2 H1 (g i)) → Q2 σ2 H1) → gt v (wipe σ vs) H1 Q2) :
    EL (tLc (iSeq K tl) gt t te vs) σ H (gd xs.length f g) := fun H0 e Q q => h H0 e _ fun H1 e1 => by
  have g1 : H1 a = some (.lst xs) := e1 a _ (e a _ hl)
  refine ⟨a, rfl, .inl ⟨⟨xs, .inl (.inl g1)⟩, fun Dl hD => ?_⟩⟩
  have key := lc_it (walk_list (K := K) (a := a) (xs := xs)) (g := gt) (tt := t) (te := te) (vs := vs) (σ := σ) (H1 := H1) (D := Dl) (Qd := Q (.ref Dl)) (fun i H' => Cd H1 Dl (gd i f g) H') (cd_0 hD) (fun i H' _ p => .inl (.inl (p.2.1 a _ g1))) (fun i x H2 H3 hi p y => by
    obtain ⟨rfl, hx⟩ := y
    exact hb i x H3 ((e.trans e1).trans p.2.1) hx _ fun σ2 w2 ht he => ⟨w2, cd_turn p (by omega) ht he⟩) (fun H' p => by
      obtain ⟨p1, p2, ws, p3, p4⟩ := p
      exact q Dl ws H' (Evl.fresh_back e1 p1) (e1.trans p2) p3 p4)
  exact key
end
/-! what each is -/
theorem weD_ok {k : Nat} {ws : List Int} (hw : Wd k ws) (hl : ws.length ≤ 40) : weD k (W ws) = .none := by
  have h1 : (ws.map PyData.int).all isNum = true := by
    rw [List.all_map, List.all_eq_true]
    intro x _
    rfl
  have h2 : ¬ (ws.map PyData.int).length > 40 := by rw [List.length_map]; omega
  have h3 : (gd (ws.map PyData.int).length (badAt k (ws.map PyData.int)) fun i => PyData.int (i : Nat)) = [] := gd_false fun i hi => by
    rw [List.length_map] at hi
    unfold badAt
    rw [List.getElem?_map, List.getElem?_eq_getElem hi]
    obtain ⟨p1, p2⟩ := hw _ (List.getElem_mem hi)
    simp [p1, p2]
  unfold W
  simp only [weD, h1, if_true]
  rw [if_neg h2, h3]
theorem weD_nil {k : Int} : weD k (.tuple []) = .none := by
  simp [weD, gd]
theorem weD_bad {k : Nat} {ws : List Int} : isNone (weD k (W (ws ++ [(k : Int)]))) = false := by
  have h1 : ((ws ++ [(k : Int)]).map PyData.int).all isNum = true := by
    rw [List.all_map, List.all_eq_true]
    intro x _
    rfl
  unfold W
  simp only [weD, h1, if_true]
  split
  · rfl
  · have hm : (gd ((ws ++ [(k : Int)]).map PyData.int).length (badAt k ((ws ++ [(k : Int)]).map PyData.int)) fun i => PyData.int (i : Nat)) ≠ [] := by
      intro e
      unfold gd at e
      rw [List.map_eq_nil_iff, List.filter_eq_nil_iff] at e
      refine e ws.length (List.mem_range.mpr (by simp)) ?_
      unfold badAt
      rw [List.getElem?_map, List.getElem?_append_right (by omega)]
      simp
    split
    · next h => exact absurd h hm
    · rfl
theorem weD_bool {k : Int} : isNone (weD k (.tuple [.bool true])) = false := by
  simp [weD, isNum, WV.isInt, WV.isBool, isNone]
theorem weD_long {k : Int} {ws : List Int} (h : 40 < ws.length) : isNone (weD k (W ws)) = false := by
  have h1 : (ws.map PyData.int).all isNum = true := by
    rw [List.all_map, List.all_eq_true]
    intro x _
    rfl
  unfold W
  simp only [weD, h1, if_true]
  rw [if_pos (by rw [List.length_map]; omega)]
  rfl
theorem leL_W {k : Nat} {u v : List Int} (hu : Wd k u) (hv : Wd k v) (lu : u.length ≤ 40) (lv : v.length ≤ 40) : leL k (W u) (W v) = if v.isEmpty then .str "empty" else if max (u.length : Int) (v.length : Int) > 12 then .str "long" else .none := by
  have h1 := weD_ok hu lu
  have h2 := weD_ok hv lv
  unfold W at h1 h2 ⊢
  simp only [leL]
  rw [h1, h2]
  simp [isNone]
theorem leL_l {k : Int} {d1 d2 : List WV.T} (h : isNone (weD k (.tuple d1)) = false) : leL k (.tuple d1) (.tuple d2) = .str "form" := by
  simp only [leL, h, Bool.false_and]
  rfl
theorem leL_r {k : Int} {d1 d2 : List WV.T} (h : isNone (weD k (.tuple d2)) = false) : leL k (.tuple d1) (.tuple d2) = .str "form" := by
  simp only [leL, h, Bool.and_false]
  rfl
theorem szT_W {ws : List Int} (h : ws.length ≤ 1000) : szT (W ws) := fun es e => by
  unfold W at e
  cases e
  rw [List.length_map]
  exact h
def z13 : List Int := repI 13 [0]
def z41 : List Int := repI 41 [0]
def dues : List WV.T := [.none, .str "form", .str "form", .str "empty", .str "form", .str "form", .str "long", .str "long", .str "form", .str "form", .str "form", .str "empty"]
def dues2 : List WV.T := dues.map fun r => .tuple [r, r]
theorem dues_ok : (∀ d ∈ dues, sh 0 d) ∧ ∀ d ∈ dues, szd d = true := by
  have s1 : sh 0 (.str "form") := sh_str (by decide +kernel)
  have s2 : sh 0 (.str "empty") := sh_str (by decide +kernel)
  have s3 : sh 0 (.str "long") := sh_str (by decide +kernel)
  have s4 : sh 0 (.none) := sh_none
  constructor
  · intro d hd
    simp only [dues, List.mem_cons, List.not_mem_nil, or_false] at hd
    rcases hd with rfl | rfl | rfl | rfl | rfl | rfl | rfl | rfl | rfl | rfl | rfl | rfl <;> assumption
  · intro d hd
    simp only [dues, List.mem_cons, List.not_mem_nil, or_false] at hd
    rcases hd with rfl | rfl | rfl | rfl | rfl | rfl | rfl | rfl | rfl | rfl | rfl | rfl <;> rfl
def SpJud : Sp := fun vs H Q _ => ∃ k : Nat, ∃ kv x u v, vs = [kv, x] ∧ 1 ≤ k ∧ Td H kv (.int k) ∧ Td H x (La u v) ∧ Wd k u ∧ Wd k v ∧ v ≠ [] ∧ u.length ≤ 12 ∧ v.length ≤ 12 ∧ ∀ v H', Ex H H' → Td H' v (.bool true) → Q v H'
theorem s_asgE {D : Ends} {σ : L2.St} {H : Hp} {k : Int} {i : Nat} {ta : TA} {rs : List WV.T} (h : EJs k ta σ H rs) (hz : rs.length ≤ 1000) (q : ∀ a vs H1, Ex H H1 → H1 a = some (.lst vs) → LArs k H1 vs rs → D.nx (σ.set i (some (.ref a))) H1) : tAsg (tLst ta) (gName i) D σ H :=
  h H (Ex.refl H) _ fun vs H2 e2 hvs => ⟨Evl.sz_of (by rw [hvs.length]; omega), fun p hp => q p vs _ (e2.trans (Ex.new hp)) upd_same (hvs.keep (Ex.new hp))⟩
theorem ok_law_are_judged (T : Txt K mg) : FnOk P w K mg base CX0 5 T.f_law_are_judged T.d_law_are_judged ["k", "lasso"] SpJud := by
  have G_lasso_error := ok_lasso_error (P := P) (w := w) (base := base) T
  have G_law_same := ok_law_same (P := P) (w := w) (base := base) T 2 (by decide)
  refine T.F_law_are_judged.ok sc_law_are_judged (fun vs H Q E ⟨_, _, _, _, _, h, _⟩ => by rw [h]; rfl) (fun cdv A outer s H vs Q E hr h => ?_)
  obtain ⟨k, x0, x1, u, v, rfl, hk, h0, h1, wu, wv, vn, lu, lv, q⟩ := h
  have hu := hr.units
  refine ⟨_, (pss_cons (ps_asg (pv 1) (pg_tup rfl (pgs_cons (pg_name (i := 2) sc_law_are_judged.nd rfl (by first | exact .inl rfl | exact .inr rfl)) (pgs_cons (pg_name (i := 3) sc_law_are_judged.nd rfl (by first | exact .inl rfl | exact .inr rfl)) pgs_nil))))
      (pss_cons (ps_asg (pe_lst (pa_cons (pv 1) (pa_cons pe_non (pa_cons (pe_tup (pa_cons (pv 2) pa_nil)) (pa_cons (pe_tup (pa_cons (pv 2) (pa_cons (pe_tup pa_nil) pa_nil))) (pa_cons (pe_tup (pa_cons (pe_op op_addU (pv 2) (pe_tup (pa_cons (pv 0) pa_nil))) (pa_cons (pv 3) pa_nil))) (pa_cons (pe_tup (pa_cons (pv 2) (pa_cons (pe_tup (pa_cons pe_bl pa_nil)) pa_nil))) (pa_cons (pe_tup (pa_cons (pe_op op_mulU (pe_tup (pa_cons pe_int pa_nil)) pe_int) (pa_cons (pv 3) pa_nil))) pa_nil)))))))) (pg_name (i := 4) sc_law_are_judged.nd rfl (by first | exact .inl rfl | exact .inr rfl)))
      (pss_cons (ps_asg (pe_op op_addU (pv 4) (pe_lst (pa_cons (pe_tup (pa_cons (pv 2) (pa_cons (pe_op op_mulU (pe_tup (pa_cons pe_int pa_nil)) pe_int) pa_nil))) (pa_cons (pe_tup (pa_cons (pe_op op_mulU (pe_tup (pa_cons pe_int pa_nil)) pe_int) (pa_cons (pv 3) pa_nil))) (pa_cons (pe_tup (pa_cons (pe_callTy call_list_of (by rfl) T.m_list (by decide +kernel) (pa_cons (pv 2) pa_nil)) (pa_cons (pv 3) pa_nil))) (pa_cons (pe_lst (pa_cons (pv 2) (pa_cons (pv 3) pa_nil))) (pa_cons (pe_tup (pa_cons (pe_op op_mulU (pe_tup (pa_cons pe_int pa_nil)) pe_int) (pa_cons (pe_tup pa_nil) pa_nil))) pa_nil))))))) (pg_name (i := 4) sc_law_are_judged.nd rfl (by first | exact .inl rfl | exact .inr rfl)))
      (pss_cons (ps_asg (pe_lst (pa_cons pe_non (pa_cons pe_str (pa_cons pe_str (pa_cons pe_str (pa_cons pe_str (pa_cons pe_str (pa_cons pe_str (pa_cons pe_str (pa_cons pe_str (pa_cons pe_str (pa_cons pe_str (pa_cons pe_str pa_nil))))))))))))) (pg_name (i := 5) sc_law_are_judged.nd rfl (by first | exact .inl rfl | exact .inr rfl)))
      (pss_cons (ps_setLcD s H (i := 6) (own := [("value", 7)]) rfl sc_law_are_judged.nd rfl rfl (sw_true rfl rfl rfl (by decide +kernel)) (pi_seq (pv 4)) (blkOk_by (own := [("value", 7)]) (N := nm_law_are_judged) (sc := defScope s_law_are_judged) (by decide +kernel)) (fun _ _ _ _ _ => (pg_name (i := 7) sc_law_are_judged.nd rfl (by first | exact .inl rfl | exact .inr rfl))) (fun _ _ _ _ _ => pts_nil) (fun _ _ _ _ _ => (pe_tup (pa_cons (pe_call G_lasso_error (hr.mono (by decide)) (by rfl) T.g_lasso_error T.F_lasso_error.kp T.b_lasso_error .nil pass0 (pa_cons (pv 0) (pa_cons (pv 7) pa_nil))) (pa_cons (pe_callK0 G_lasso_error (hr.mono (by decide)) (by rfl) T.g_lasso_error T.F_lasso_error.kp T.k_lasso_error_value_k pass0 (pk_cons (pv 7) (pk_cons (pv 0) pk_nil))) pa_nil)))))
      (pss_one (ps_ret (pe_call G_law_same (hr.mono (by decide)) (by rfl) T.g_law_same T.F_law_same.kp T.b_law_same .nil pass0 (pa_cons (pe_callTy call_tuple_of (by rfl) T.m_tuple (by decide +kernel) (pa_cons (pv 6) pa_nil)) (pa_cons (pe_callTy call_tuple_of (by rfl) T.m_tuple (by decide +kernel) (pa_cons (pe_lcD s H (own := [("due", 8)]) rfl sc_law_are_judged.nd (pi_seq (pv 5)) (blkOk_by (own := [("due", 8)]) (N := nm_law_are_judged) (sc := defScope s_law_are_judged) (by decide +kernel)) (fun _ _ _ _ _ => (pg_name (i := 8) sc_law_are_judged.nd rfl (by first | exact .inl rfl | exact .inr rfl))) (fun _ _ _ _ _ => pts_nil) (fun _ _ _ _ _ => (pe_tup (pa_cons (pv 8) (pa_cons (pv 8) pa_nil))))) pa_nil)) pa_nil)))))))))), ?_⟩
  have hz13 : z13.length = 13 := by decide
  have hz41 : z41.length = 41 := by decide
  have w13 : Wd k z13 := fun l hl => by
    have : l = 0 := by
      have : ∀ l ∈ z13, l = 0 := by decide
      exact this l hl
    omega
  have ve : v.isEmpty = false := by
    cases v with
    | nil => exact absurd rfl vn
    | cons _ _ => rfl
  have zz : ∀ {σ : L2.St} {H : Hp}, ED (tOp (WV.rU (rI CMul fun i j => .int (i * j)) (WV.rU (rRepT K) (rRep1 K))) (tTup (tCons (tC (.int 0)) tNil)) (tC (.int 13))) σ H (W z13) := ed_repW (v := [0]) (k := 13) (ed_tup (ea_cons ed_int ea_nil) (by simp)) ed_int (by simp) ⟨by decide, by decide⟩ (by simp)
  have zz1 : ∀ {σ : L2.St} {H : Hp}, ED (tOp (WV.rU (rI CMul fun i j => .int (i * j)) (WV.rU (rRepT K) (rRep1 K))) (tTup (tCons (tC (.int 0)) tNil)) (tC (.int 41))) σ H (W z41) := ed_repW (v := [0]) (k := 41) (ed_tup (ea_cons ed_int ea_nil) (by simp)) ed_int (by simp) ⟨by decide, by decide⟩ (by simp)
  have su : szT (W u) := szT_W (by omega)
  have sv : szT (W v) := szT_W (by omega)
  have s13 : szT (W z13) := szT_W (by rw [hz13]; decide)
  have snil : szT (.tuple []) := fun es e => by cases e; simp
  refine s_unp2 (ed_var rfl h1) fun a b H1 e1 ha hb => ?_
  have k0 := h0.keep (.ex e1)
  have k1 := h1.keep (.ex e1)
  have d0 : leL k (W u) (W v) = .none := by
    rw [leL_W wu wv (by omega) (by omega), ve]
    simp only [Bool.false_eq_true, if_false]
    rw [if_neg (by omega)]
  have d3 : leL k (W u) (.tuple []) = .str "empty" := by
    rw [show (.tuple [] : WV.T) = W [] from rfl, leL_W wu (fun l hl => by cases hl) (by omega) (by simp)]
    rfl
  have d4 : leL k (W (u ++ [(k : Int)])) (W v) = .str "form" := leL_l weD_bad
  have d5 : leL k (W u) (.tuple [.bool true]) = .str "form" := leL_r weD_bool
  have d6 : leL k (W z13) (W v) = .str "long" := by
    rw [leL_W w13 wv (by omega) (by omega), ve]
    simp only [Bool.false_eq_true, if_false]
    rw [if_pos (by omega)]
  have d7 : leL k (W u) (W z13) = .str "long" := by
    rw [leL_W wu w13 (by omega) (by omega), show z13.isEmpty = false by decide]
    simp only [Bool.false_eq_true, if_false]
    rw [if_pos (by omega)]
  have d8 : leL k (W z41) (W v) = .str "form" := leL_l (weD_long (by omega))
  have d11 : leL k (W z13) (.tuple []) = .str "empty" := by
    rw [show (.tuple [] : WV.T) = W [] from rfl, leL_W w13 (fun l hl => by cases hl) (by omega) (by simp)]
    rfl
  refine s_asgE (k := k) (rs := [leL k (W u) (W v), .str "form", .str "form", leL k (W u) (.tuple []), leL k (W (u ++ [(k : Int)])) (W v), leL k (W u) (.tuple [.bool true]), leL k (W z13) (W v)])
    (ejs_cons (ej_pair (ed_var rfl k1) su sv) (ejs_cons ej_non (ejs_cons (ej_one (ed_tup (ea_cons (ed_var rfl ha) ea_nil) (by simp))) (ejs_cons (ej_pair (ed_2 (ed_var rfl ha) (ed_tup ea_nil (by simp))) su snil)
      (ejs_cons (ej_pair (ed_2 (ed_catW (v := [(k : Int)]) (ed_var rfl ha) (ed_tup (ea_cons (ed_var rfl k0) ea_nil) (by simp)) (by simp; omega)) (ed_var rfl hb)) (szT_W (by simp; omega)) sv)
      (ejs_cons (ej_pair (ed_2 (ed_var rfl ha) (ed_tup (ea_cons ed_bl ea_nil) (by simp))) su (fun es e => by cases e; simp)) (ejs_cons (ej_pair (ed_2 zz (ed_var rfl hb)) s13 sv) ejs_nil))))))) (by simp) fun p vs H2 e2 hp hvs => ?_
  have a2 := ha.keep (.ex e2)
  have b2 := hb.keep (.ex e2)
  have k0 := k0.keep (.ex e2)
  have second : EJs k _ [some x0, some x1, some a, some b, some (.ref p), none, none, none, none] H2 [leL k (W u) (W z13), leL k (W z41) (W v), .str "form", .str "form", leL k (W z13) (.tuple [])] :=
    ejs_cons (ej_pair (ed_2 (ed_var (i := 2) rfl a2) zz) su s13) (ejs_cons (ej_pair (ed_2 zz1 (ed_var (i := 3) rfl b2)) (szT_W (by rw [hz41]; decide)) sv)
      (ejs_cons (ej_mix (el_listT (K := K) (ed_var (i := 2) rfl a2)) (ed_var (i := 3) rfl b2) sv) (ejs_cons (ej_lst (el_lst (ea_cons (ed_var (i := 2) rfl a2) (ea_cons (ed_var (i := 3) rfl b2) ea_nil)) (by simp))) (ejs_cons (ej_pair (ed_2 zz (ed_tup ea_nil (by simp))) s13 snil) ejs_nil))))
  refine ⟨_, rfl, second H2 (Ex.refl _) _ fun ws H3 e3 hws => ⟨Evl.sz_of (by rw [hws.length]; simp), fun p2 hp2 => ?_⟩⟩
  have hp3 := Ex.new (o := .lst ws) hp2 _ _ (e3 _ _ hp)
  refine .inr (.inr ⟨p, p2, vs, ws, rfl, rfl, hp3, upd_same, Evl.sz_of (by rw [hvs.length, hws.length]; simp), fun p4 hp4 => ?_⟩)
  have ex4 := (e3.trans (Ex.new (o := .lst ws) hp2)).trans (Ex.new (o := .lst (vs ++ ws)) hp4)
  have hall := (hvs.keep ex4).append ((hws.keep (Ex.new hp2)).keep (Ex.new hp4))
  rw [d0, d3, d4, d5, d6, d7, d8, d11] at hall
  have hall : LArs k _ (vs ++ ws) dues := hall
  have hl12 : (vs ++ ws).length = dues.length := hall.length
  have k04 := k0.keep (.ex ex4)
  refine s_asgM (ds := dues) (em_new (el_lst (ea_cons ed_non (ea_cons ed_str (ea_cons ed_str (ea_cons ed_str (ea_cons ed_str (ea_cons ed_str (ea_cons ed_str (ea_cons ed_str (ea_cons ed_str (ea_cons ed_str (ea_cons ed_str (ea_cons ed_str ea_nil)))))))))))) (by simp [dues]))) fun vd H5 e5 hvd => ?_
  have hall5 := hall.keep e5
  have hp5 := e5 _ _ (upd_same (H := upd H3 p2 (.lst ws)) (a := p4) (o := .lst (vs ++ ws)))
  have k05 := k04.keep (.ex e5)
  refine s_asgM (ds := dues2) (em_new (el_is (el_lcA (a := p4) (xs := vs ++ ws) (fun _ => true) (fun i => .tuple [dues.getD i .none, dues.getD i .none]) (Evl.ev_var rfl) hp5 (by rw [hl12]; decide) (fun i vv H6 e6 hd Q2 q2 => ?_)) ?_)) fun vt H6 e6 hvt => ?_
  · have hx := (hall5.keep e6).get hd
    exact q2 _ rfl eb_yes fun _ => ed_2 (ed_callLE (ed_var rfl (k05.keep (.ex e6))) (ej_var rfl hx)) (ed_callLEK (fun _ _ => rfl) (ed_var rfl (k05.keep (.ex e6))) (ej_var rfl hx))
  · rw [hl12]
    rfl
  · have hsh : sh 2 (.tuple dues2) := sh_tup fun d hd => by
      unfold dues2 at hd
      obtain ⟨r, hr, rfl⟩ := List.mem_map.mp hd
      exact sh_2 (dues_ok.1 r hr) (dues_ok.1 r hr)
    have hsz : szd (.tuple dues2) = true := szd_of (by decide) fun d hd => by
      unfold dues2 at hd
      obtain ⟨r, hr, rfl⟩ := List.mem_map.mp hd
      exact szd_2 (dues_ok.2 r hr) (dues_ok.2 r hr)
    have hdd : (gd dues.length (fun _ => true) fun i => PyData.tuple [dues.getD i .none, dues.getD i .none]) = dues2 := rfl
    refine s_ret (ed_same (d := .tuple dues2) (ed_tupM (em_var rfl hvt)) (ed_tupL (el_is (el_lcM (ds := dues) (fun _ => true) (fun i => .tuple [dues.getD i .none, dues.getD i .none]) (em_var rfl (hvd.keep e6)) (by decide) (fun i vv d H7 e7 hd hv Q2 q2 => ?_)) hdd)) hsh hsz) fun z H7 e7 hz => q z H7 ((((e1.trans e2).trans ex4).trans e5).trans (e6.trans e7)) hz
    rw [getD_of hd] at q2
    exact q2 _ rfl eb_yes fun _ => ed_2 (ed_var rfl hv) (ed_var rfl hv)
end K23
set_option maxRecDepth 100000
set_option maxHeartbeats 2000000
/-! Draws among other things; sizes of least lassos. -/
namespace K23
open PySem PySem.Spec PyProof.Rows L2 WV
open Evl (Ex Ev)
variable {K : PySem.W.Frag}
theorem strp_len : ∀ (n : Nat) (u v : List Int), (strp n u v).1.length ≤ u.length
  | 0, u, v => Nat.le_refl _
  | n + 1, u, v => by
    unfold strp
    split
    · have := strp_len n u.dropLast (rot v)
      rw [List.length_dropLast] at this
      omega
    · exact Nat.le_refl _
theorem least_bound (u : List Int) {v : List Int} (hv : v ≠ []) : (least u v).1.length ≤ u.length ∧ (least u v).2.length ≤ v.length := by
  refine ⟨strp_len _ _ _, ?_⟩
  rw [least_len u hv]
  exact (rootSize_ok hv).2.1
theorem insI_len (x : Int) : ∀ l : List Int, (insI x l).length ≤ l.length + 1
  | [] => by simp [insI]
  | y :: l => by
    have := insI_len x l
    unfold insI
    repeat' split
    all_goals simp only [List.length_cons]
    all_goals omega
theorem srtI_len : ∀ l : List Int, (srtI l).length ≤ l.length
  | [] => by simp [srtI]
  | x :: l => by
    have h1 := srtI_len l
    have h2 := insI_len x (srtI l)
    show (insI x (srtI l)).length ≤ l.length + 1
    omega
theorem shift_bound (u : List Int) {v : List Int} (hv : v ≠ []) (i : Nat) : (shift u v i).1.length ≤ u.length ∧ (shift u v i).2.length ≤ v.length := by
  have hl : 0 < v.length := List.length_pos_iff.mpr hv
  unfold shift
  split
  · have := least_bound (u.drop i) hv
    rw [List.length_drop] at this
    omega
  · have ht := Nat.mod_lt (i - u.length) hl
    have hlen : (v.drop ((i - u.length) % v.length) ++ v.take ((i - u.length) % v.length)).length = v.length := by
      rw [List.length_append, List.length_drop, List.length_take]
      omega
    have := least_bound [] (v := v.drop ((i - u.length) % v.length) ++ v.take ((i - u.length) % v.length)) (fun e => by
      rw [e] at hlen
      simp at hlen
      omega)
    rw [hlen, List.length_nil] at this
    omega
theorem apart_iff {u v u' v' : List Int} : apart u v u' v' = none ↔ ∀ i, lw u v i = lw u' v' i := by
  unfold apart farI
  rw [List.find?_range_eq_none]
  constructor
  · intro h
    refine agree fun i hi => ?_
    have : lat u v i = lat u' v' i := by simpa using h i hi
    exact this
  · intro h i _
    simp
    exact h i
theorem apart_least {u v u' v' : List Int} (hv : v ≠ []) (hv' : v' ≠ []) : isNone (optN (apart u v u' v')) = decide (least u v = least u' v') := by
  rw [Bool.eq_iff_iff, decide_eq_true_eq, least_eq_iff hv hv', ← apart_iff]
  cases apart u v u' v' <;> simp [optN, isNone]
theorem eqv_La (a b c d : List Int) : PyData.eqv (La a b) (La c d) = decide ((a, b) = (c, d)) := by
  unfold La
  rw [PyData.eqv, PyData.eqvAll, PyData.eqvAll, PyData.eqvAll, eqv_W, eqv_W, Bool.eq_iff_iff]
  simp
section
variable {b c : Addr} {σ : L2.St} {H : Hp} {ta tb te tl : TE} {P R : Int → Prop}
/-- an int that is so -/
def EI (b c : Addr) (te : TE) (σ : L2.St) (H : Hp) (P : Int → Prop) : Prop := EXb b c te σ H fun _ v => ∃ r, v = .int r ∧ P r
def EIs (b c : Addr) (ta : TA) (σ : L2.St) (H : Hp) (P : List Int → Prop) : Prop := ∀ H1, Bx b c H H1 → Bg H1 b c → ∀ Q : List V → Hp → Prop, (∀ ns H2, Bx b c H1 H2 → Bg H2 b c → P ns → Q (ns.map V.int) H2) → ta σ H1 Q
theorem EI.keep {H' : Hp} (h : EI b c te σ H P) (e : Bx b c H H') : EI b c te σ H' P := EXb.keep h e
theorem ei_ed {n : Int} (h : ∀ H1, Bx b c H H1 → Bg H1 b c → ED te σ H1 (.int n)) : EI b c te σ H (· = n) := fun H1 e hb Q q =>
  h H1 e hb H1 (Ex.refl _) _ fun v H2 e2 hv => q v H2 (.ex e2) (hb.keep e2) ⟨n, hv.int_inv, rfl⟩
theorem ei_draw {E : XK} {i : Nat} {m : Int} (hb : σ[i]? = some (some (.ref b))) (hm : ∀ H1, ED te σ H1 (.int m)) (m1 : 1 ≤ m) (m2 : m < 1000000) : EI b c (tCall SpDraw [] E (tCons (tVar i) (tCons te tNil))) σ H (fun r => 0 ≤ r ∧ r < m) := ex_draw hb hm m1 m2
theorem ei_sub (h1 : EI b c ta σ H P) (h2 : EI b c tb σ H R) : EI b c (tOp (rI0 fun i j => .int (i - j)) ta tb) σ H (fun z => ∃ x y, P x ∧ R y ∧ z = x - y) := fun H1 e hb Q q =>
  h1 H1 e hb _ fun v H2 e2 hb2 ⟨x, hx, px⟩ => h2 H2 (e.trans e2) hb2 _ fun w H3 e3 hb3 ⟨y, hy, py⟩ => ⟨x, y, hx, hy, q _ H3 (e2.trans e3) hb3 ⟨_, rfl, x, y, px, py, rfl⟩⟩
theorem eis_nil : EIs b c tNil σ H (· = []) := fun H1 e hb Q q => q [] H1 (Bx.refl _ _ _) hb rfl
theorem eis_cons {tr : TA} {S : List Int → Prop} (h : EI b c te σ H P) (hr : EIs b c tr σ H S) : EIs b c (tCons te tr) σ H (fun ns => ∃ x xs, ns = x :: xs ∧ P x ∧ S xs) := fun H1 e hb Q q =>
  h H1 e hb _ fun v H2 e2 hb2 ⟨x, hx, px⟩ => hr H2 (e.trans e2) hb2 _ fun ns H3 e3 hb3 pn => by
    subst hx
    exact q (x :: ns) H3 (e2.trans e3) hb3 ⟨x, ns, rfl, px, pn⟩
/-- over a list whose items are drawn; the body draws none -/
theorem s_forI {D : Ends} {tr : TA} {gt : TG} {tu : TS} {S : List Int → Prop} (h : EIs b c tr σ H S) (hS : ∀ ns, S ns → ns.length ≤ 1000) (hb : Bg H b c) (Pv : List Int → Hp → Nat → L2.St → Hp → Prop) (h0 : ∀ ns H1, Bx b c H H1 → Bg H1 b c → S ns → Pv ns H1 0 σ H1) (hk : ∀ ns H1 i σ' H', Pv ns H1 i σ' H' → Ex H1 H')
    (hs : ∀ ns H1 (i : Nat) (x : Int) v σ' H', Bx b c H H1 → Bg H1 b c → S ns → ns[i]? = some x → Pv ns H1 i σ' H' → v = .int x → gt v σ' H' fun σ2 H2 => tu { D with nx := Pv ns H1 (i + 1), ct := Pv ns H1 (i + 1), bk := D.nx } σ2 H2) (hd : ∀ ns H1 σ' H', Bx b c H H1 → Bg H1 b c → S ns → Pv ns H1 ns.length σ' H' → D.nx σ' H') : tFor (iSeq K (tLst tr)) gt tu D σ H :=
  h H (Bx.refl _ _ _) hb _ fun ns H1 e1 hb1 hn => ⟨Evl.sz_of (by rw [List.length_map]; have := hS ns hn; omega), fun p hp => by
    have e2 : Bx b c H (upd H1 p (.lst (ns.map V.int))) := e1.trans (.ex (Ex.new hp))
    have hb2 : Bg (upd H1 p (.lst (ns.map V.int))) b c := hb1.keep (Ex.new hp)
    have g1 : (upd H1 p (.lst (ns.map V.int))) p = some (.lst (ns.map V.int)) := upd_same
    generalize upd H1 p (.lst (ns.map V.int)) = H2 at e2 hb2 g1
    exact ⟨p, rfl, .inl ⟨⟨_, .inl (.inl g1)⟩, for_it (walk_list (K := K) (a := p) (xs := ns.map V.int)) (Pv ns H2) (h0 ns H2 e2 hb2 hn) (fun i σ' H' _ q => .inl (.inl (hk ns H2 i σ' H' q p _ g1))) (fun i x σ' H3 H4 hi q y => by
      obtain ⟨rfl, hx⟩ := y
      rw [List.getElem?_map] at hx
      cases hx2 : ns[i]? with
      | none =>
        rw [hx2] at hx
        cases hx
      | some z =>
        rw [hx2] at hx
        cases hx
        exact hs ns H2 i z _ σ' H4 e2 hb2 hn hx2 q rfl) (fun σ' H' q => by
        rw [List.length_map] at q
        exact hd ns H2 σ' H' e2 hb2 hn q)⟩⟩⟩
/-- over a list that stands apart from the bag -/
theorem s_forLX {D : Ends} {gt : TG} {tu : TS} {a : Addr} {xs : List V} {ds : List WV.T} (h : Ev tl σ H (.ref a)) (hl : H a = some (.lst xs)) (hd : Tds H xs ds) (hb : Bg H b c) (ha : a ≠ b ∧ a ≠ c) (Pv : Nat → L2.St → Hp → Prop) (h0 : ∀ H1, Ex H H1 → Pv 0 σ H1) (hk : ∀ i σ' H', Pv i σ' H' → Bx b c H H' ∧ Bg H' b c)
    (hs : ∀ (i : Nat) v d σ' H', ds[i]? = some d → Pv i σ' H' → Td H' v d → gt v σ' H' fun σ2 H2 => tu { D with nx := Pv (i + 1), ct := Pv (i + 1), bk := D.nx } σ2 H2) (hD : ∀ σ' H', Pv ds.length σ' H' → D.nx σ' H') : tFor (iSeq K tl) gt tu D σ H :=
  h H (Ex.refl H) _ fun H1 e1 => ⟨a, rfl, .inl ⟨⟨xs, .inl (.inl (e1 _ _ hl))⟩, for_it (walk_list (K := K) (a := a) (xs := xs)) Pv (h0 H1 e1) (fun i σ' H' _ p => .inl (.inl ((hk i σ' H' p).1 _ _ ha.1 ha.2 hl))) (fun i x σ' H2 H3 hi p y => by
    obtain ⟨rfl, hx⟩ := y
    obtain ⟨d, hd1, hd2⟩ := hd.get hx
    exact hs i x d σ' H3 hd1 p (hd2.keep (hb.kp (hk i σ' H3 p).1))) (fun σ' H' p => by
      rw [hd.length] at p
      exact hD σ' H' p)⟩⟩
end
end K23
set_option maxRecDepth 100000
set_option maxHeartbeats 4000000
namespace K23
open PySem PySem.Spec PyProof.Rows L2 WV
open Evl (Ex Ev)
variable {P : Program} {w : World} {K : PySem.W.Frag} {mg : Str → Option Value} {base : Heap}
abbrev Lso := List Int × List Int
def lsD (ls : List Lso) : List WV.T := ls.map fun p => La p.1 p.2
structure LsOk (k : Nat) (p : Lso) : Prop where
  wu : Wd k p.1
  wv : Wd k p.2
  vn : p.2 ≠ []
  lu : p.1.length ≤ 12
  lv : p.2.length ≤ 12
def pairD (q : Lso × Lso) : WV.T := .tuple [La q.1.1 q.1.2, La q.2.1 q.2.2]
structure PrOk (q : Lso × Lso) : Prop where
  n1 : q.1.2 ≠ []
  n2 : q.2.2 ≠ []
  l1 : q.1.1.length ≤ 100
  l2 : q.1.2.length ≤ 100
  l3 : q.2.1.length ≤ 100
  l4 : q.2.2.length ≤ 100
theorem LsOk.pr {k : Nat} {p q : Lso} (h : LsOk k p) (h2 : LsOk k q) : PrOk (p, q) := ⟨h.vn, h2.vn, Nat.le_trans h.lu (by decide), Nat.le_trans h.lv (by decide), Nat.le_trans h2.lu (by decide), Nat.le_trans h2.lv (by decide)⟩
theorem gd_find (n : Nat) (f : Nat → Bool) : (gd n f fun i => PyData.int (i : Nat)).head? = ((List.range n).find? f).map fun i => PyData.int (i : Nat) := by
  unfold gd
  rw [List.head?_map, List.head?_filter]
theorem sh_opt {n : Nat} {o : Option Nat} : sh n (optN o) := by
  cases o
  · exact sh_none
  · exact sh_int
theorem szd_opt {o : Option Nat} : szd (optN o) = true := by cases o <;> rfl
def SpLet : Sp := fun vs H Q _ => ∃ b c l, ∃ k : Nat, ∃ p0 p1 ps, vs = [.ref b, .int k, .ref l] ∧ Bg H b c ∧ l ≠ b ∧ l ≠ c ∧ LA H (.ref l) (lsD (p0 :: p1 :: ps)) ∧ ps.length ≤ 100 ∧ (∀ p ∈ p0 :: p1 :: ps, LsOk k p) ∧ ∀ v H', Bx b c H H' → Bg H' b c → Td H' v (.bool true) → Q v H'
theorem ok_law_are_letters (T : Txt K mg) : FnOk P w K mg base CX0 6 T.f_law_are_letters T.d_law_are_letters ["bag", "k", "lassos"] SpLet := by
  have G_law_draw := ok_law_draw (P := P) (w := w) (base := base) T
  have G_law_at := ok_law_at (P := P) (w := w) (base := base) T
  have G_law_shift := ok_law_shift (P := P) (w := w) (base := base) T
  have G_law_least := ok_law_least (P := P) (w := w) (base := base) T
  have G_letter_at := ok_letter_at (P := P) (w := w) (base := base) T
  have G_shifted_lasso := ok_shifted_lasso (P := P) (w := w) (base := base) T
  have G_least_lasso := ok_least_lasso (P := P) (w := w) (base := base) T
  have G_again_letters := ok_again_letters (P := P) (w := w) (base := base) T
  have G_first_apart := ok_first_apart (P := P) (w := w) (base := base) T
  have G_law_same := ok_law_same (P := P) (w := w) (base := base) T 3 (by decide)
  refine T.F_law_are_letters.ok sc_law_are_letters (fun vs H Q E ⟨_, _, _, _, _, _, _, h, _⟩ => by rw [h]; rfl) (fun cdv A outer s H vs Q E hr h => ?_)
  obtain ⟨b, c, l, k, p0, p1, ps, rfl, hb, n1, n2, hl, hz, hp, q⟩ := h
  have hu := hr.units
  refine ⟨_, (Evl.pss_cut (ps_for PassesOwn.never rfl (pi_seq (pv 2)) (pg_name (i := 3) sc_law_are_letters.nd rfl (by first | exact .inl rfl | exact .inr rfl))
        (pss_cons (ps_asg (pv 3) (pg_tup rfl (pgs_cons (pg_name (i := 4) sc_law_are_letters.nd rfl (by first | exact .inl rfl | exact .inr rfl)) (pgs_cons (pg_name (i := 5) sc_law_are_letters.nd rfl (by first | exact .inl rfl | exact .inr rfl)) pgs_nil))))
      (Evl.pss_cut (ps_for PassesOwn.never rfl (pi_seq (pe_lst (pa_cons pe_int (pa_cons (pe_callB call_len_seq (by rfl) T.m_len (by decide +kernel) (pa_cons (pv 4) pa_nil)) (pa_cons (pe_call G_law_draw (hr.mono (by decide)) (by rfl) T.g_law_draw T.F_law_draw.kp T.b_law_draw .nil pass0 (pa_cons (pv 0) (pa_cons pe_int pa_nil))) (pa_cons (pe_op op_sub (pe_op op_pow pe_int pe_int) (pe_call G_law_draw (hr.mono (by decide)) (by rfl) T.g_law_draw T.F_law_draw.kp T.b_law_draw .nil pass0 (pa_cons (pv 0) (pa_cons pe_int pa_nil)))) pa_nil)))))) (pg_name (i := 6) sc_law_are_letters.nd rfl (by first | exact .inl rfl | exact .inr rfl))
        (pss_cons (ps_par (i := 7) (j := 8) (by rfl) sc_law_are_letters.nd rfl rfl (by decide) rfl rfl (pa_cons (pe_call G_law_at (hr.mono (by decide)) (by rfl) T.g_law_at T.F_law_at.kp T.b_law_at .nil pass0 (pa_cons (pv 3) (pa_cons (pv 6) pa_nil))) (pa_cons (pe_call G_law_shift (hr.mono (by decide)) (by rfl) T.g_law_shift T.F_law_shift.kp T.b_law_shift .nil pass0 (pa_cons (pv 3) (pa_cons (pv 6) pa_nil))) pa_nil)) (by rfl))
      (pss_cons (ps_if (pt_not (pt_val (pe_call G_law_same (hr.mono (by decide)) (by rfl) T.g_law_same T.F_law_same.kp T.b_law_same .nil pass0 (pa_cons (pe_tup (pa_cons (pe_call G_letter_at (hr.mono (by decide)) (by rfl) T.g_letter_at T.F_letter_at.kp T.b_letter_at .nil pass0 (pa_cons (pv 3) (pa_cons (pv 6) pa_nil))) (pa_cons (pe_callK0 G_letter_at (hr.mono (by decide)) (by rfl) T.g_letter_at T.F_letter_at.kp T.k_letter_at_i_lasso pass0 (pk_cons (pv 6) (pk_cons (pv 3) pk_nil))) pa_nil))) (pa_cons (pe_tup (pa_cons (pv 7) (pa_cons (pv 7) pa_nil))) pa_nil)))))
        (pss_one (ps_ret pe_bl))
        pss_nil)
      (pss_one (ps_if (pt_not (pt_val (pe_call G_law_same (hr.mono (by decide)) (by rfl) T.g_law_same T.F_law_same.kp T.b_law_same .nil pass0 (pa_cons (pe_tup (pa_cons (pe_call G_shifted_lasso (hr.mono (by decide)) (by rfl) T.g_shifted_lasso T.F_shifted_lasso.kp T.b_shifted_lasso .nil pass0 (pa_cons (pv 3) (pa_cons (pv 6) pa_nil))) (pa_cons (pe_callK0 G_shifted_lasso (hr.mono (by decide)) (by rfl) T.g_shifted_lasso T.F_shifted_lasso.kp T.k_shifted_lasso_i_lasso pass0 (pk_cons (pv 6) (pk_cons (pv 3) pk_nil))) pa_nil))) (pa_cons (pe_tup (pa_cons (pv 8) (pa_cons (pv 8) pa_nil))) pa_nil)))))
        (pss_one (ps_ret pe_bl))
        pss_nil)))))
      (pss_cons (ps_par (i := 9) (j := 10) (by rfl) sc_law_are_letters.nd rfl rfl (by decide) rfl rfl (pa_cons (pe_call G_law_least (hr.mono (by decide)) (by rfl) T.g_law_least T.F_law_least.kp T.b_law_least .nil pass0 (pa_cons (pv 3) pa_nil)) (pa_cons (pe_callTy call_tuple_of (by rfl) T.m_tuple (by decide +kernel) (pa_cons (pe_callB (cr_sortedSet rfl) (by rfl) T.m_sorted (by decide +kernel) (pa_cons (pe_callTy (call_setU rfl) (by rfl) T.m_set (by decide +kernel) (pa_cons (pv 5) pa_nil)) pa_nil)) pa_nil)) pa_nil)) (by rfl))
      (pss_cons (ps_asg (pe_tup (pa_cons (pe_call G_least_lasso (hr.mono (by decide)) (by rfl) T.g_least_lasso T.F_least_lasso.kp T.b_least_lasso .nil pass0 (pa_cons (pv 3) pa_nil)) (pa_cons (pe_callK0 G_least_lasso (hr.mono (by decide)) (by rfl) T.g_least_lasso T.F_least_lasso.kp T.k_least_lasso_lasso pass0 (pk_cons (pv 3) pk_nil)) (pa_cons (pe_call G_again_letters (hr.mono (by decide)) (by rfl) T.g_again_letters T.F_again_letters.kp T.b_again_letters .nil pass0 (pa_cons (pv 3) pa_nil)) (pa_cons (pe_callK0 G_again_letters (hr.mono (by decide)) (by rfl) T.g_again_letters T.F_again_letters.kp T.k_again_letters_lasso pass0 (pk_cons (pv 3) pk_nil)) pa_nil))))) (pg_name (i := 11) sc_law_are_letters.nd rfl (by first | exact .inl rfl | exact .inr rfl)))
      (pss_one (ps_if (pt_not (pt_val (pe_call G_law_same (hr.mono (by decide)) (by rfl) T.g_law_same T.F_law_same.kp T.b_law_same .nil pass0 (pa_cons (pv 11) (pa_cons (pe_tup (pa_cons (pv 9) (pa_cons (pv 9) (pa_cons (pv 10) (pa_cons (pv 10) pa_nil))))) pa_nil)))))
        (pss_one (ps_ret pe_bl))
        pss_nil)))))))
      (pss_cons (ps_asg (pe_ix ix_seq (pv 2) pe_int (fun _ _ => rfl)) (pg_name (i := 12) sc_law_are_letters.nd rfl (by first | exact .inl rfl | exact .inr rfl)))
      (Evl.pss_cut (ps_if (pt_cmpR op_lt (pe_callB call_len_seq (by rfl) T.m_len (by decide +kernel) (pa_cons (pe_ix ix_seq (pe_ix ix_seq (pv 2) pe_int (fun _ _ => rfl)) pe_int (fun _ _ => rfl)) pa_nil)) pe_int (by rfl))
        (pss_one (ps_asg (pe_tup (pa_cons (pe_op op_addU (pe_ix ix_seq (pe_ix ix_seq (pv 2) pe_int (fun _ _ => rfl)) pe_int (fun _ _ => rfl)) (pe_slice sl_seqU (pe_ix ix_seq (pe_ix ix_seq (pv 2) pe_int (fun _ _ => rfl)) pe_int (fun _ _ => rfl)) po_none (po_some pe_int))) (pa_cons (pe_op op_addU (pe_slice sl_seqU (pe_ix ix_seq (pe_ix ix_seq (pv 2) pe_int (fun _ _ => rfl)) pe_int (fun _ _ => rfl)) (po_some pe_int) po_none) (pe_slice sl_seqU (pe_ix ix_seq (pe_ix ix_seq (pv 2) pe_int (fun _ _ => rfl)) pe_int (fun _ _ => rfl)) po_none (po_some pe_int))) pa_nil))) (pg_name (i := 12) sc_law_are_letters.nd rfl (by first | exact .inl rfl | exact .inr rfl))))
        pss_nil)
      (Evl.pss_cut (ps_for PassesOwn.never rfl (pi_seq (pe_lst (pa_cons (pe_tup (pa_cons (pe_ix ix_seq (pv 2) pe_int (fun _ _ => rfl)) (pa_cons (pe_ix ix_seq (pv 2) pe_int (fun _ _ => rfl)) pa_nil))) (pa_cons (pe_tup (pa_cons (pe_ix ix_seq (pv 2) pe_int (fun _ _ => rfl)) (pa_cons (pe_ix ix_seq (pv 2) pe_int (fun _ _ => rfl)) pa_nil))) (pa_cons (pe_tup (pa_cons (pe_ix ix_seq (pv 2) pe_int (fun _ _ => rfl)) (pa_cons (pv 12) pa_nil))) pa_nil))))) (pg_tup rfl (pgs_cons (pg_name (i := 13) sc_law_are_letters.nd rfl (by first | exact .inl rfl | exact .inr rfl)) (pgs_cons (pg_name (i := 14) sc_law_are_letters.nd rfl (by first | exact .inl rfl | exact .inr rfl)) pgs_nil)))
        (pss_cons (ps_asg (pe_op op_addU (pe_op op_addU (pe_callB (call_max2 rfl) (by rfl) T.m_max (by decide +kernel) (pa_cons (pe_callB call_len_seq (by rfl) T.m_len (by decide +kernel) (pa_cons (pe_ix ix_seq (pv 13) pe_int (fun _ _ => rfl)) pa_nil)) (pa_cons (pe_callB call_len_seq (by rfl) T.m_len (by decide +kernel) (pa_cons (pe_ix ix_seq (pv 14) pe_int (fun _ _ => rfl)) pa_nil)) pa_nil))) (pe_callB call_len_seq (by rfl) T.m_len (by decide +kernel) (pa_cons (pe_ix ix_seq (pv 13) pe_int (fun _ _ => rfl)) pa_nil))) (pe_callB call_len_seq (by rfl) T.m_len (by decide +kernel) (pa_cons (pe_ix ix_seq (pv 14) pe_int (fun _ _ => rfl)) pa_nil))) (pg_name (i := 15) sc_law_are_letters.nd rfl (by first | exact .inl rfl | exact .inr rfl)))
      (pss_cons (ps_setLcD s H (i := 16) (own := [("i", 6)]) rfl sc_law_are_letters.nd rfl rfl (sw_true rfl rfl rfl (by decide +kernel)) (pi_range1 (by rfl) T.m_range (pa_cons (pv 15) pa_nil)) (blkOk_by (own := [("i", 6)]) (N := nm_law_are_letters) (sc := defScope s_law_are_letters) (by decide +kernel)) (fun _ _ _ _ _ => (pg_name (i := 6) sc_law_are_letters.nd rfl (by first | exact .inl rfl | exact .inr rfl))) (fun _ _ _ _ _ => pts_one (pt_cmpR (op_neD hu) (pe_call G_law_at (hr.mono (by decide)) (by rfl) T.g_law_at T.F_law_at.kp T.b_law_at .nil pass0 (pa_cons (pv 13) (pa_cons (pv 6) pa_nil))) (pe_call G_law_at (hr.mono (by decide)) (by rfl) T.g_law_at T.F_law_at.kp T.b_law_at .nil pass0 (pa_cons (pv 14) (pa_cons (pv 6) pa_nil))) (by rfl))) (fun _ _ _ _ _ => (pv 6)))
      (pss_cons (ps_asg (pe_ifExp (pt_cmpR (op_neD hu) (pv 16) (pe_lst pa_nil) (by rfl)) (pe_ix ix_seq (pv 16) pe_int (fun _ _ => rfl)) pe_non) (pg_name (i := 7) sc_law_are_letters.nd rfl (by first | exact .inl rfl | exact .inr rfl)))
      (pss_cons (ps_if (pt_not (pt_val (pe_call G_law_same (hr.mono (by decide)) (by rfl) T.g_law_same T.F_law_same.kp T.b_law_same .nil pass0 (pa_cons (pe_tup (pa_cons (pe_call G_first_apart (hr.mono (by decide)) (by rfl) T.g_first_apart T.F_first_apart.kp T.b_first_apart .nil pass0 (pa_cons (pv 13) (pa_cons (pv 14) pa_nil))) (pa_cons (pe_callK0 G_first_apart (hr.mono (by decide)) (by rfl) T.g_first_apart T.F_first_apart.kp T.k_first_apart_other_one pass0 (pk_cons (pv 14) (pk_cons (pv 13) pk_nil))) pa_nil))) (pa_cons (pe_tup (pa_cons (pv 7) (pa_cons (pv 7) pa_nil))) pa_nil)))))
        (pss_one (ps_ret pe_bl))
        pss_nil)
      (pss_one (ps_if (pt_cmpR (op_neD hu) (pe_cmpR op_isN (pv 7) pe_non (by rfl)) (pe_cmpR (op_eqD hu) (pe_call G_law_least (hr.mono (by decide)) (by rfl) T.g_law_least T.F_law_least.kp T.b_law_least .nil pass0 (pa_cons (pv 13) pa_nil)) (pe_call G_law_least (hr.mono (by decide)) (by rfl) T.g_law_least T.F_law_least.kp T.b_law_least .nil pass0 (pa_cons (pv 14) pa_nil)) (by rfl)) (by rfl))
        (pss_one (ps_ret pe_bl))
        pss_nil)))))))
      (pss_one (ps_ret pe_bl)))))), ?_⟩
  obtain ⟨l', xs, e0, hl1, hl2⟩ := id hl
  cases e0
  refine Evl.q_cut (M := fun σ' H' => ∃ z3 z4 z5 z6 z7 z8 z9 z10 z11, σ' = [some (.ref b), some (.int k), some (.ref l), z3, z4, z5, z6, z7, z8, z9, z10, z11, none, none, none, none, none] ∧ Bx b c H H' ∧ Bg H' b c) ?_ ?_
  · refine s_forLX (b := b) (c := c) (Evl.ev_var rfl) hl1 hl2 hb ⟨n1, n2⟩ (fun i σ' H' => ∃ z3 z4 z5 z6 z7 z8 z9 z10 z11, σ' = [some (.ref b), some (.int k), some (.ref l), z3, z4, z5, z6, z7, z8, z9, z10, z11, none, none, none, none, none] ∧ Bx b c H H' ∧ Bg H' b c) (fun H1 e1 => ⟨_, _, _, _, _, _, _, _, _, rfl, .ex e1, hb.keep e1⟩) (fun i σ' H' ⟨_, _, _, _, _, _, _, _, _, _, e⟩ => e) ?_ ?_
    · rintro i v d σ' H' hd ⟨z3, z4, z5, z6, z7, z8, z9, z10, z11, rfl, e1, hb1⟩ hv
      obtain ⟨hx, rfl⟩ := map_get ([], []) hd
      have ok := hp _ (List.mem_of_getElem? hx)
      generalize (p0 :: p1 :: ps).getD i ([], []) = p at hv ok
      obtain ⟨u, x⟩ := p
      obtain ⟨wu, wv, vn, lu, lv⟩ := ok
      simp only at wu wv vn lu lv hv
      have hsb := fun n => shift_bound u vn n
      have hlb := least_bound u vn
      refine s_unp2 (ed_var (i := 3) rfl hv) fun va vb H2 e2 ha hbb => ?_
      have hv2 := hv.keep (.ex e2)
      have hb2 := hb1.keep e2
      refine Evl.q_cut (M := fun σ' H' => ∃ z6 z7 z8, σ' = [some (.ref b), some (.int k), some (.ref l), some v, some va, some vb, z6, z7, z8, z9, z10, z11, none, none, none, none, none] ∧ Bx b c H2 H' ∧ Bg H' b c) ?_ ?_
      · have hpow : (10 : Int) ^ (30 : Int).toNat = 1000000000000000000000000000000 := by decide
        refine s_forI (b := b) (c := c) (eis_cons (ei_ed fun H3 e3 hb3 => ed_int) (eis_cons (ei_ed fun H3 e3 hb3 => ed_lenW (ed_var rfl (ha.keep (hb2.kp e3)))) (eis_cons (ei_draw rfl (fun _ => ed_int) (by decide) (by decide)) (eis_cons (ei_sub (ei_ed fun H3 e3 hb3 => ed_op ed_int ed_int (rd_I (C := CPow) ⟨by decide, by decide, by decide⟩ fun _ => .i _)) (ei_draw rfl (fun _ => ed_int) (by decide) (by decide))) eis_nil)))) (by
          rintro _ ⟨x0, _, rfl, rfl, x1, _, rfl, rfl, x2, _, rfl, h2, x3, _, rfl, h3, rfl⟩
          simp) hb2 (fun ns H3 i σ' H' => (∃ z6 z7 z8, σ' = [some (.ref b), some (.int k), some (.ref l), some v, some va, some vb, z6, z7, z8, z9, z10, z11, none, none, none, none, none]) ∧ Ex H3 H') (fun ns H3 e3 hb3 hn => ⟨⟨_, _, _, rfl⟩, Ex.refl _⟩) (fun ns H3 i σ' H' h => h.2) ?_ ?_
        · rintro ns H3 i x3 vi σ' H' e3 hb3 hn hxi ⟨⟨z6, z7, z8, rfl⟩, e4⟩ rfl
          have hx0 : 0 ≤ x3 := by
            have hm := List.mem_of_getElem? hxi
            obtain ⟨y0, _, rfl, rfl, y1, _, rfl, rfl, y2, _, rfl, h2, y3, _, rfl, ⟨q1, q2, rfl, hq2, rfl⟩, rfl⟩ := hn
            rw [hpow] at hm
            simp only [List.mem_cons, List.not_mem_nil, or_false] at hm
            rcases hm with rfl | rfl | rfl | rfl <;> omega
          obtain ⟨n, rfl⟩ := Int.eq_ofNat_of_zero_le hx0
          have hv4 := hv2.keep ((hb2.kp e3).trans (.ex e4))
          refine s_par (d1 := .int (lat u x n)) (d2 := La (shift u x n).1 (shift u x n).2) (ed_call (ea_cons (ed_var rfl hv4) (ea_cons (ed_var rfl (.i _)) ea_nil)) ⟨u, x, n, rfl, vn, rfl⟩) (ed_call (ea_cons (ed_var rfl hv4) (ea_cons (ed_var rfl (.i _)) ea_nil)) ⟨u, x, n, rfl, vn, by omega, by omega, rfl⟩) fun vd vs H5 e5 hvd hvs => ?_
          have hv5 := hv4.keep (.ex e5)
          refine s_ifF (eb_is (eb_not (b := true) (eb_B (ed_same (d := .tuple [.int (lat u x n), .int (lat u x n)]) (ed_2 (ed_call (ea_cons (ed_var rfl hv5) (ea_cons (ed_var rfl (.i _)) ea_nil)) ⟨u, x, n, rfl, vn, rfl⟩) (ed_callK2 (fun _ _ => rfl) (ed_var rfl (.i _)) (ed_var rfl hv5) ⟨u, x, n, rfl, vn, rfl⟩)) (ed_2 (ed_var rfl hvd) (ed_var rfl hvd)) (sh_2 sh_int sh_int) (szd_2 rfl rfl)))) rfl) fun H6 e6 => ?_
          have hv6 := hv5.keep (.ex e6)
          have hvs6 := hvs.keep (.ex e6)
          have hs := hsb n
          refine s_ifF (eb_is (eb_not (b := true) (eb_B (ed_same (d := .tuple [La (shift u x n).1 (shift u x n).2, La (shift u x n).1 (shift u x n).2]) (ed_2 (ed_call (ea_cons (ed_var rfl hv6) (ea_cons (ed_var rfl (.i _)) ea_nil)) ⟨u, x, n, rfl, vn, by omega, by omega, rfl⟩) (ed_callK2 (fun _ _ => rfl) (ed_var rfl (.i _)) (ed_var rfl hv6) ⟨u, x, n, rfl, vn, by omega, by omega, rfl⟩)) (ed_2 (ed_var rfl hvs6) (ed_var rfl hvs6)) (sh_2 sh_La sh_La) (szd_2 (szd_La (by omega) (by omega)) (szd_La (by omega) (by omega)))))) rfl) fun H7 e7 => ?_
          exact ⟨⟨_, _, _, rfl⟩, ((e4.trans e5).trans e6).trans e7⟩
        · rintro ns H3 σ' H' e3 hb3 hn ⟨⟨z6, z7, z8, rfl⟩, e4⟩
          exact ⟨_, _, _, rfl, e3.trans (.ex e4), hb3.keep e4⟩
      · rintro σ' H3 ⟨z6, z7, z8, rfl, e3, hb3⟩
        have hv3 := hv2.keep (hb2.kp e3)
        have hbb3 := hbb.keep (hb2.kp e3)
        refine s_par (d1 := La (least u x).1 (least u x).2) (d2 := W (srtI x)) (ed_call (ea_cons (ed_var rfl hv3) ea_nil) ⟨u, x, rfl, vn, by omega, by omega, rfl⟩) (ed_tupL (el_sortedSet (ed_var rfl hbb3) (by omega))) fun vl vt H4 e4 hvl hvt => ?_
        have hv4 := hv3.keep (.ex e4)
        refine s_asg (d := .tuple [La (least u x).1 (least u x).2, La (least u x).1 (least u x).2, W (srtI x), W (srtI x)]) (ed_tup (ea_cons (ed_call (ea_cons (ed_var rfl hv4) ea_nil) ⟨u, x, rfl, vn, by omega, by omega, rfl⟩) (ea_cons (ed_callK1 (fun _ => rfl) (ed_var rfl hv4) ⟨u, x, rfl, vn, by omega, by omega, rfl⟩) (ea_cons (ed_call (ea_cons (ed_var rfl hv4) ea_nil) ⟨u, x, rfl, by omega, rfl⟩) (ea_cons (ed_callK1 (fun _ => rfl) (ed_var rfl hv4) ⟨u, x, rfl, by omega, rfl⟩) ea_nil)))) (by simp)) fun vto H5 e5 hvto => ?_
        have hvl5 := hvl.keep (.ex e5)
        have hvt5 := hvt.keep (.ex e5)
        have hsl : (srtI x).length ≤ 1000 := by
          have := srtI_len x
          omega
        refine s_ifF (eb_is (eb_not (b := true) (eb_B (ed_same (ed_var rfl hvto) (ed_tup (ea_cons (ed_var rfl hvl5) (ea_cons (ed_var rfl hvl5) (ea_cons (ed_var rfl hvt5) (ea_cons (ed_var rfl hvt5) ea_nil)))) (by simp)) (sh_tup fun d hd => ?_) (szd_of (by simp) fun d hd => ?_)))) rfl) fun H6 e6 => ?_
        · simp only [List.mem_cons, List.not_mem_nil, or_false] at hd
          rcases hd with rfl | rfl | rfl | rfl
          · exact sh_La
          · exact sh_La
          · exact sh_W
          · exact sh_W
        · simp only [List.mem_cons, List.not_mem_nil, or_false] at hd
          rcases hd with rfl | rfl | rfl | rfl
          · exact szd_La (by omega) (by omega)
          · exact szd_La (by omega) (by omega)
          · exact szd_W hsl
          · exact szd_W hsl
        · have ee := (e4.trans e5).trans e6
          exact ⟨_, _, _, _, _, _, _, _, _, rfl, ((e1.trans (.ex e2)).trans e3).trans (.ex ee), hb3.keep ee⟩
    · exact fun σ' H' h => h
  · rintro σ' H1 ⟨z3, z4, z5, z6, z7, z8, z9, z10, z11, rfl, e1, hb1⟩
    have hlb := la_bx hl e1 hb ⟨n1, n2⟩
    have ok0 := hp p0 (by simp)
    have ok1 := hp p1 (by simp)
    refine s_asg (d := La p0.1 p0.2) (ed_ixM (em_var rfl hlb) ed_int (atI0 _ _)) fun vt H2 e2 hvt => ?_
    have hl2 := hlb.keep e2
    refine Evl.q_cut (M := fun σ' H' => ∃ y tu tv, σ' = [some (.ref b), some (.int k), some (.ref l), z3, z4, z5, z6, z7, z8, z9, z10, z11, some y, none, none, none, none] ∧ Ex H2 H' ∧ Td H' y (La tu tv) ∧ tv ≠ [] ∧ tu.length ≤ 100 ∧ tv.length ≤ 100) ?_ ?_
    · have lu0 := ok0.lu
      have lv0 := ok0.lv
      have hv0 : 0 < p0.2.length := List.length_pos_iff.mpr ok0.vn
      refine s_if (eb_test (ed_ltI (ed_lenW (ed_La0 (ed_ixM (em_var rfl hl2) ed_int (atI0 _ _)))) ed_int)) (fun hc H3 e3 => ?_) (fun hc H3 e3 => ⟨vt, _, _, rfl, e3, hvt.keep (.ex e3), ok0.vn, by omega, by omega⟩)
      have ix0 : ED (tOp (rIx K) (tVar 2) (tC (.int 0))) [some (.ref b), some (.int k), some (.ref l), z3, z4, z5, z6, z7, z8, z9, z10, z11, some vt, none, none, none, none] H3 (La p0.1 p0.2) := ed_ixM (em_var rfl (hl2.keep e3)) ed_int (atI0 _ _)
      refine s_asg (d := La (p0.1 ++ p0.2.take 1) (p0.2.drop 1 ++ p0.2.take 1)) (ed_La (ed_catW (ed_La0 ix0) (ed_takeW (n := 1) (ed_La1 ix0) ed_int) (by rw [List.length_take]; omega)) (ed_catW (ed_dropW (n := 1) (ed_La1 ix0) ed_int) (ed_takeW (n := 1) (ed_La1 ix0) ed_int) (by rw [List.length_take, List.length_drop]; omega))) fun y H4 e4 hy => ⟨y, _, _, rfl, e3.trans e4, hy, ?_, ?_, ?_⟩
      · intro z
        have := congrArg List.length z
        rw [List.length_append, List.length_drop, List.length_take, List.length_nil] at this
        omega
      · rw [List.length_append, List.length_take]
        omega
      · rw [List.length_append, List.length_drop, List.length_take]
        omega
    · rintro σ' H3 ⟨y, tu, tv, rfl, e3, hy, tn, tl1, tl2⟩
      have hl3 := hl2.keep e3
      have ix0 : ED (tOp (rIx K) (tVar 2) (tC (.int 0))) [some (.ref b), some (.int k), some (.ref l), z3, z4, z5, z6, z7, z8, z9, z10, z11, some y, none, none, none, none] H3 (La p0.1 p0.2) := ed_ixM (em_var rfl hl3) ed_int (atI0 _ _)
      have ix1 : ED (tOp (rIx K) (tVar 2) (tC (.int 1))) [some (.ref b), some (.int k), some (.ref l), z3, z4, z5, z6, z7, z8, z9, z10, z11, some y, none, none, none, none] H3 (La p1.1 p1.2) := ed_ixM (em_var rfl hl3) ed_int (atI_nat (j := 1) rfl)
      have hprs : ∀ r ∈ [(p0, p1), (p1, p0), (p0, (tu, tv))], PrOk r := fun r hr => by
        simp only [List.mem_cons, List.not_mem_nil, or_false] at hr
        rcases hr with rfl | rfl | rfl
        · exact ok0.pr ok1
        · exact ok1.pr ok0
        · exact ⟨ok0.vn, tn, Nat.le_trans ok0.lu (by decide), Nat.le_trans ok0.lv (by decide), tl1, tl2⟩
      refine Evl.q_cut (M := fun σ' H' => Ex H3 H') ?_ ?_
      · refine s_forM (ds := [(p0, p1), (p1, p0), (p0, (tu, tv))].map pairD) (em_new (el_lst (ea_cons (ed_2 ix0 ix1) (ea_cons (ed_2 ix1 ix0) (ea_cons (ed_2 ix0 (ed_var rfl hy)) ea_nil))) (by simp))) (fun H4 i σ' H' => (∃ z6 z7 z13 z14 z15 z16, σ' = [some (.ref b), some (.int k), some (.ref l), z3, z4, z5, z6, z7, z8, z9, z10, z11, some y, z13, z14, z15, z16]) ∧ Ex H4 H' ∧ Ex H3 H') (fun H4 e4 => ⟨⟨_, _, _, _, _, _, rfl⟩, Ex.refl _, e4⟩) (fun H4 i σ' H' h => h.2.1) ?_ (fun H4 σ' H' e4 h => h.2.2)
        rintro H4 i v d σ' H' e4 hd ⟨⟨z6, z7, z13, z14, z15, z16, rfl⟩, e5, e6⟩ hv
        obtain ⟨hx, rfl⟩ := map_get (([], []), ([], [])) hd
        have ok := hprs _ (List.mem_of_getElem? hx)
        generalize [(p0, p1), (p1, p0), (p0, (tu, tv))].getD i (([], []), ([], [])) = r at hv ok
        obtain ⟨⟨u, x⟩, ⟨u', x'⟩⟩ := r
        obtain ⟨m1, m2, l1, l2, l3, l4⟩ := ok
        simp only at m1 m2 l1 l2 l3 l4
        have lb1 := least_bound u m1
        have lb2 := least_bound u' m2
        refine g_two (show Td H' v (.tuple [La u x, La u' x']) from hv) fun a b' ha hb' => ?_
        refine s_asg (d := .int (farI u x u' x' : Nat)) (ed_is (ed_addI (ed_addI (ed_max (ed_lenW (ed_La0 (ed_var rfl ha))) (ed_lenW (ed_La0 (ed_var rfl hb')))) (ed_lenW (ed_La1 (ed_var rfl ha)))) (ed_lenW (ed_La1 (ed_var rfl hb')))) ?_) (fun m H7 e7 hm => ?_)
        · unfold farI
          congr 1
          omega
        have ha7 := ha.keep (.ex e7)
        have hb7 := hb'.keep (.ex e7)
        have hfar : farI u x u' x' ≤ 300 := by
          unfold farI
          omega
        refine s_asgM (em_new (el_lcR1 (n := (farI u x u' x' : Nat)) (fun i => !decide (lat u x i = lat u' x' i)) (fun i => .int (i : Nat)) (ea_cons (ed_var rfl hm) ea_nil) (by omega) (fun x => rfl) (fun i H8 e8 hi => eb_test (ed_neI (ed_call (ea_cons (ed_var rfl (ha7.keep (.ex e8))) (ea_cons (ed_var rfl (.i _)) ea_nil)) ⟨u, x, i, rfl, m1, rfl⟩) (ed_call (ea_cons (ed_var rfl (hb7.keep (.ex e8))) (ea_cons (ed_var rfl (.i _)) ea_nil)) ⟨u', x', i, rfl, m2, rfl⟩))) (fun i H8 e8 hi _ => ed_var rfl (.i _)))) (fun vu H8 e8 hvu => ?_)
        have hgf := gd_find (farI u x u' x') (fun i => !decide (lat u x i = lat u' x' i))
        rw [Int.toNat_natCast] at hvu
        have hsh : SeqAt.shaped (.list (gd (farI u x u' x') (fun i => !decide (lat u x i = lat u' x' i)) fun i => PyData.int (i : Nat))) = true := (sh_gd (m := 0) fun i => sh_int).ok
        have hap : apart u x u' x' = (List.range (farI u x u' x')).find? (fun i => !decide (lat u x i = lat u' x' i)) := rfl
        rw [← hap] at hgf
        generalize gd (farI u x u' x') (fun i => !decide (lat u x i = lat u' x' i)) (fun i => PyData.int (i : Nat)) = gs at hvu hgf hsh
        refine s_asg (d := optN (apart u x u' x')) (ed_if (eb_test (ed_neM (em_var rfl hvu) em_nil hsh (sh_nilL (n := 0)).ok)) (fun hd => ?_) (fun hd => ?_)) (fun vdue H9 e9 hvdue => ?_)
        · rw [eqv_nilL] at hd
          cases gs with
          | nil => simp at hd
          | cons g gs =>
            refine ed_is (ed_ixM (em_var rfl hvu) ed_int (atI0 g gs)) ?_
            cases ho : apart u x u' x' with
            | none =>
              rw [ho] at hgf
              cases hgf
            | some j =>
              rw [ho] at hgf
              simpa [optN] using hgf
        · rw [eqv_nilL] at hd
          cases gs with
          | nil =>
            cases ho : apart u x u' x' with
            | none => exact ed_non
            | some j =>
              rw [ho] at hgf
              cases hgf
          | cons g gs => simp at hd
        have ha9 := ha7.keep (.ex (e8.trans e9))
        have hb9 := hb7.keep (.ex (e8.trans e9))
        refine s_ifF (eb_is (eb_not (b := true) (eb_B (ed_same (d := .tuple [optN (apart u x u' x'), optN (apart u x u' x')]) (ed_2 (ed_call (ea_cons (ed_var rfl ha9) (ea_cons (ed_var rfl hb9) ea_nil)) ⟨u, x, u', x', rfl, m1, m2, by omega, by omega, by omega, by omega, rfl⟩) (ed_callK2 (fun _ _ => rfl) (ed_var rfl hb9) (ed_var rfl ha9) ⟨u, x, u', x', rfl, m1, m2, by omega, by omega, by omega, by omega, rfl⟩)) (ed_2 (ed_var rfl hvdue) (ed_var rfl hvdue)) (sh_2 sh_opt sh_opt) (szd_2 szd_opt szd_opt)))) rfl) fun H10 e10 => ?_
        have ha10 := ha9.keep (.ex e10)
        have hb10 := hb9.keep (.ex e10)
        refine s_ifF (eb_is (eb_test (ed_ne (ed_isN (ed_var rfl (hvdue.keep (.ex e10)))) (ed_eq (ed_call (ea_cons (ed_var rfl ha10) ea_nil) ⟨u, x, rfl, m1, by omega, by omega, rfl⟩) (ed_call (ea_cons (ed_var rfl hb10) ea_nil) ⟨u', x', rfl, m2, by omega, by omega, rfl⟩) (sh_La (n := 0)).ok (sh_La (n := 0)).ok) (sh_bool (n := 0)).ok (sh_bool (n := 0)).ok)) ?_) fun H11 e11 => ?_
        · rw [apart_least m1 m2, eqv_La]
          show (!PyData.eqv (.bool (decide (least u x = least u' x'))) (.bool (decide (least u x = least u' x')))) = false
          rw [PyData.eqv]
          simp
        · have ee := (((e7.trans e8).trans e9).trans e10).trans e11
          exact ⟨⟨_, _, _, _, _, _, rfl⟩, e5.trans ee, e6.trans ee⟩
      · rintro σ' H' e4
        have ee := (e2.trans e3).trans e4
        exact s_ret ed_bl fun v H5 e5 hv => q v H5 (e1.trans (.ex (ee.trans e5))) (hb1.keep (ee.trans e5)) hv
end K23
set_option maxRecDepth 100000
set_option maxHeartbeats 4000000
namespace K23
open PySem PySem.Spec PyProof.Rows L2 WV
open Evl (Ex Ev)
variable {P : Program} {w : World} {K : PySem.W.Frag} {mg : Str → Option Value} {base : Heap}
theorem as_words {Pm : List Int → Prop} : ∀ {ds : List WV.T}, (∀ d ∈ ds, ∃ m, d = W m ∧ Pm m) → ∃ ms : List (List Int), ds = ms.map W ∧ ∀ m ∈ ms, Pm m
  | [], _ => ⟨[], rfl, fun m h => by cases h⟩
  | d :: ds, h => by
    obtain ⟨m, rfl, hm⟩ := h d (by simp)
    obtain ⟨ms, rfl, hms⟩ := as_words (Pm := Pm) (ds := ds) fun d hd => h d (List.mem_cons_of_mem _ hd)
    refine ⟨m :: ms, rfl, fun x hx => ?_⟩
    rcases List.mem_cons.mp hx with e | e
    · rw [e]
      exact hm
    · exact hms x e
theorem mvw_ge {ms : List (List Int)} (h : ∀ m ∈ ms, 1 ≤ m.length) : ∀ ws : List Int, Wd ms.length ws → ws.length ≤ (mvw ms ws).length
  | [], _ => by simp [mvw]
  | l :: ws, hw => by
    have h1 := mvw_ge h ws fun x hx => hw x (List.mem_cons_of_mem _ hx)
    obtain ⟨p1, p2⟩ := hw l (by simp)
    have h2 := h _ (getD_mem (i := l.toNat) (by omega))
    unfold mvw at h1 ⊢
    rw [List.map_cons, List.flatten_cons, List.length_append, List.length_cons]
    omega
/-- tuple([e for i in range(n)]), its items drawn -/
theorem ex_tupD {b c : Addr} {σ : L2.St} {H : Hp} {tn te : TE} {j : Nat} {vs : List Nat} {n : Nat} {Pd : WV.T → Prop} (hn : ∀ H1, ED tn σ H1 (.int n)) (h1 : n ≤ 1000) (hw : ∀ x, wipe ((wipe σ vs).set j (some x)) vs = wipe σ vs)
    (he : ∀ (i : Nat) H1, EXb b c te ((wipe σ vs).set j (some (.int i))) H1 (fun H v => ∃ d, Td H v d ∧ Pd d)) : EXb b c (tCB (fun xs H Q => ∃ p ys, xs = [.ref p] ∧ ((SqL K H p ys ∧ ∀ l, H l = none → Q (.ref l) (upd H l (.tup ys))) ∨ (SqT K H p ys ∧ Q (.ref p) H))) (tCons (tLc (iRng1 (tCons tn tNil)) (gName j) tYes te vs) tNil)) σ H
      (fun H v => ∃ ds : List WV.T, Td H v (.tuple ds) ∧ ds.length = n ∧ ∀ d ∈ ds, Pd d) := fun H1 e hbg Q q =>
  hn H1 H1 (Ex.refl _) _ fun v H2 e2 hv => ⟨n, by rw [hv.int_inv], by omega, by omega, fun Dl hD => by
    have hb2 := hbg.keep e2
    have hne := bg_ne hb2 hD
    exact lc_it walk0 (g := gName j) (tt := tYes) (te := te) (vs := vs) (σ := σ) (H1 := H2) (D := Dl) (fun i H' => Bx b c H2 H' ∧ Bg H' b c ∧ ∃ (ws : List V) (ds : List WV.T), H' Dl = some (.lst ws) ∧ Tds H' ws ds ∧ ds.length = i ∧ ∀ d ∈ ds, Pd d)
      ⟨.ex (Ex.new hD), hb2.keep (Ex.new hD), [], [], upd_same, .nil, rfl, fun z hz => by cases hz⟩ (fun _ _ _ _ => trivial) (fun i x H3 H4 hi p y => by
        obtain ⟨rfl, rfl⟩ := y
        obtain ⟨p1, p2, ws, ds, p3, p4, p5, p6⟩ := p
        refine ⟨hw _, ?_⟩
        show te _ _ _
        refine he i H4 H4 (Bx.refl _ _ _) p2 _ fun v H5 e5 hb5 ⟨d, hd, hpd⟩ => ?_
        have g5 := e5 _ _ hne.1 hne.2 p3
        refine ⟨ws, g5, Evl.sz_lt (by rw [p4.length]; omega), bx_mut (p1.trans e5) hD, bg_mut hb5 hne, ws ++ [v], ds ++ [d], upd_same, ?_, by simp [p5], fun y hy => ?_⟩
        · exact ((p4.keep (p2.kp e5)).append (.cons hd .nil)).keep (.updL g5)
        · rcases List.mem_append.mp hy with hy | hy
          · exact p6 y hy
          · rw [List.mem_singleton.mp hy]
            exact hpd) (fun H' p => by
        obtain ⟨p1, p2, ws, ds, p3, p4, p5, p6⟩ := p
        have e2' : Bx b c H1 H2 := .ex e2
        refine ⟨Dl, _, rfl, .inl ⟨.inl (.inl p3), fun t ht => q _ _ (bx_mut (e2'.trans p1) (by
          cases ht1 : H1 t with
          | none => rfl
          | some o =>
            by_cases hbt : t = b
            · obtain ⟨_, _, _, w1, _⟩ := p2
              rw [hbt, w1] at ht
              cases ht
            · by_cases hct : t = c
              · obtain ⟨_, _, _, _, w2, _⟩ := p2
                rw [hct, w2] at ht
                cases ht
              · rw [(e2'.trans p1) t o hbt hct ht1] at ht
                cases ht)) (bg_mut p2 (bg_ne p2 ht)) ⟨ds, .t upd_same (p4.keep (.new ht)), p5, p6⟩⟩⟩)⟩
theorem EXb.imp {b c : Addr} {te : TE} {σ : L2.St} {H : Hp} {G G' : Hp → V → Prop} (h : EXb b c te σ H G) (g : ∀ H v, G H v → G' H v) : EXb b c te σ H G' := fun H1 e hb Q q => h H1 e hb Q fun v H2 e2 hb2 hg => q v H2 e2 hb2 (g _ _ hg)
/-- the outer comprehension's own scope -/
abbrev scMv : Scope := { kind := .function, names := [(".0", .local), ("a", .local), ("tuple", .globalImplicit), ("range", .globalImplicit), ("_law_draw", .globalImplicit), ("bag", .cell), ("m", .cell)], isGenerator := false, isCoroutine := false }
def SpMv : Sp := fun vs H Q _ => ∃ b c, ∃ k m : Nat, ∃ x u v, vs = [.ref b, .int k, .int m, x] ∧ 1 ≤ k ∧ k ≤ 10 ∧ 1 ≤ m ∧ m ≤ 10 ∧ Bg H b c ∧ Td H x (La u v) ∧ LsOk k (u, v) ∧ ∀ r H', Bx b c H H' → Bg H' b c → Td H' r (.bool true) → Q r H'
theorem ok_law_is_moved (T : Txt K mg) : FnOk P w K mg base CX0 6 T.f_law_is_moved T.d_law_is_moved ["bag", "k", "m", "lasso"] SpMv := by
  have G_law_draw := ok_law_draw (P := P) (w := w) (base := base) T
  have G_law_through := ok_law_through (P := P) (w := w) (base := base) T
  have G_moved_word := ok_moved_word (P := P) (w := w) (base := base) T
  have G_law_least := ok_law_least (P := P) (w := w) (base := base) T
  have G_least_lasso := ok_least_lasso (P := P) (w := w) (base := base) T
  have G_first_apart := ok_first_apart (P := P) (w := w) (base := base) T
  have G_law_same := ok_law_same (P := P) (w := w) (base := base) T 3 (by decide)
  refine T.F_law_is_moved.ok sc_law_is_moved (fun vs H Q E ⟨_, _, _, _, _, _, _, h, _⟩ => by rw [h]; rfl) (fun cdv A outer s H vs Q E hr h => ?_)
  obtain ⟨b, c, k, m, x3, u, v, rfl, k1, k2, m1, m2, hb, hx, ok, q⟩ := h
  have hu := hr.units
  refine ⟨_, (pss_cons (ps_asg (pe_callTy call_tuple_of (by rfl) T.m_tuple (by decide +kernel) (pa_cons (pe_lcD s H (own := [("a", 5)]) rfl sc_law_is_moved.nd (pi_range1 (by rfl) T.m_range (pa_cons (pv 1) pa_nil)) (blkOk_by (own := [("a", 5)]) (N := nm_law_is_moved) (sc := defScope s_law_is_moved) (by decide +kernel)) (fun _ _ _ _ _ => (pg_name (i := 5) sc_law_is_moved.nd rfl (by first | exact .inl rfl | exact .inr rfl))) (fun _ _ _ _ _ => pts_nil) (fun _ _ _ _ _ => (pe_callTy call_tuple_of (by rfl) T.m_tuple (by decide +kernel) (pa_cons (pe_lcD s H (own := [("i", 6)]) rfl sc_law_is_moved.nd (pi_range1 (by rfl) T.m_range (pa_cons (pe_op op_addU pe_int (pe_call G_law_draw (hr.mono (by decide)) (by rfl) T.g_law_draw T.F_law_draw.kp T.b_law_draw .nil pass0 (pa_cons (pv 0) (pa_cons pe_int pa_nil)))) pa_nil)) (blkOk_by (own := [("i", 6)]) (N := nm_law_is_moved) (sc := scMv) (by decide +kernel)) (fun _ _ _ _ _ => (pg_name (i := 6) sc_law_is_moved.nd rfl (by first | exact .inl rfl | exact .inr rfl))) (fun _ _ _ _ _ => pts_nil) (fun _ _ _ _ _ => (pe_call G_law_draw (hr.mono (by decide)) (by rfl) T.g_law_draw T.F_law_draw.kp T.b_law_draw .nil pass0 (pa_cons (pv 0) (pa_cons (pv 2) pa_nil))))) pa_nil)))) pa_nil)) (pg_name (i := 4) sc_law_is_moved.nd rfl (by first | exact .inl rfl | exact .inr rfl)))
      (pss_cons (ps_asg (pe_tup (pa_cons pe_int (pa_cons (pe_tup (pa_cons pe_int pa_nil)) (pa_cons (pe_callTy call_tuple_of (by rfl) T.m_tuple (by decide +kernel) (pa_cons (pe_lcD s H (own := [("a", 5)]) rfl sc_law_is_moved.nd (pi_range1 (by rfl) T.m_range (pa_cons (pv 1) pa_nil)) (blkOk_by (own := [("a", 5)]) (N := nm_law_is_moved) (sc := defScope s_law_is_moved) (by decide +kernel)) (fun _ _ _ _ _ => (pg_name (i := 5) sc_law_is_moved.nd rfl (by first | exact .inl rfl | exact .inr rfl))) (fun _ _ _ _ _ => pts_nil) (fun _ _ _ _ _ => (pe_tup (pa_cons pe_int (pa_cons (pv 5) (pa_cons (pe_ix ix_seq (pv 4) (pv 5) (fun _ _ => rfl)) (pa_cons pe_int pa_nil))))))) pa_nil)) (pa_cons (pe_tup (pa_cons (pe_tup (pa_cons pe_int (pa_cons (pe_tup pa_nil) pa_nil))) pa_nil)) pa_nil))))) (pg_name (i := 7) sc_law_is_moved.nd rfl (by first | exact .inl rfl | exact .inr rfl)))
      (pss_cons (ps_asg (pe_call G_law_through (hr.mono (by decide)) (by rfl) T.g_law_through T.F_law_through.kp T.b_law_through .nil pass0 (pa_cons (pv 7) (pa_cons pe_int (pa_cons (pv 3) pa_nil)))) (pg_name (i := 8) sc_law_is_moved.nd rfl (by first | exact .inl rfl | exact .inr rfl)))
      (pss_cons (ps_asg (pe_tup (pa_cons (pe_call G_moved_word (hr.mono (by decide)) (by rfl) T.g_moved_word T.F_moved_word.kp T.b_moved_word .nil pass0 (pa_cons (pv 4) (pa_cons (pe_ix ix_seq (pv 3) pe_int (fun _ _ => rfl)) pa_nil))) (pa_cons (pe_callK0 G_moved_word (hr.mono (by decide)) (by rfl) T.g_moved_word T.F_moved_word.kp T.k_moved_word_word_move pass0 (pk_cons (pe_ix ix_seq (pv 3) pe_int (fun _ _ => rfl)) (pk_cons (pv 4) pk_nil))) pa_nil))) (pg_name (i := 9) sc_law_is_moved.nd rfl (by first | exact .inl rfl | exact .inr rfl)))
      (pss_cons (ps_if (pt_not (pt_val (pe_call G_law_same (hr.mono (by decide)) (by rfl) T.g_law_same T.F_law_same.kp T.b_law_same .nil pass0 (pa_cons (pv 9) (pa_cons (pv 8) pa_nil)))))
        (pss_one (ps_ret pe_bl))
        pss_nil)
      (pss_cons (ps_asg (pe_tup (pa_cons (pe_op op_addU (pe_ix ix_seq (pv 8) pe_int (fun _ _ => rfl)) (pe_ix ix_seq (pv 8) pe_int (fun _ _ => rfl))) (pa_cons (pe_ix ix_seq (pv 8) pe_int (fun _ _ => rfl)) pa_nil))) (pg_name (i := 10) sc_law_is_moved.nd rfl (by first | exact .inl rfl | exact .inr rfl)))
      (pss_cons (ps_if (PW.pt (pw_or (pt_cmpR op_gt (pe_callB call_len_seq (by rfl) T.m_len (by decide +kernel) (pa_cons (pe_ix ix_seq (pv 10) pe_int (fun _ _ => rfl)) pa_nil)) pe_int (by rfl)) (pw_or1 (pt_cmpR op_gt (pe_callB call_len_seq (by rfl) T.m_len (by decide +kernel) (pa_cons (pe_ix ix_seq (pv 8) pe_int (fun _ _ => rfl)) pa_nil)) pe_int (by rfl)))))
        (pss_one (ps_ret pe_bl))
        pss_nil)
      (pss_one (ps_ret (pe_call G_law_same (hr.mono (by decide)) (by rfl) T.g_law_same T.F_law_same.kp T.b_law_same .nil pass0 (pa_cons (pe_tup (pa_cons (pe_call G_first_apart (hr.mono (by decide)) (by rfl) T.g_first_apart T.F_first_apart.kp T.b_first_apart .nil pass0 (pa_cons (pv 8) (pa_cons (pv 10) pa_nil))) (pa_cons (pe_call G_least_lasso (hr.mono (by decide)) (by rfl) T.g_least_lasso T.F_least_lasso.kp T.b_least_lasso .nil pass0 (pa_cons (pv 10) pa_nil)) pa_nil))) (pa_cons (pe_tup (pa_cons pe_non (pa_cons (pe_call G_law_least (hr.mono (by decide)) (by rfl) T.g_law_least T.F_law_least.kp T.b_law_least .nil pass0 (pa_cons (pv 8) pa_nil)) pa_nil))) pa_nil)))))))))))), ?_⟩
  refine s_asgX ((ex_tupD (n := k) (Pd := fun d => ∃ ns : List Int, d = W ns ∧ (∀ z ∈ ns, 0 ≤ z ∧ z < (m : Int)) ∧ (1 : Int) ≤ (ns.length : Int) ∧ ((ns.length : Int) < 1 + 2 ∨ ns = [])) (fun H1 => ed_var rfl (.i _)) (by omega) (fun x => rfl) (fun i H1 => (ex_tup (lo := 1) (hi := 1 + 2) (m := m) (ex_add1 (lo := 0) (hi := 2) (ex_draw rfl (fun H1 => ed_int) (by decide) (by decide))) (by decide) (by decide) (fun x => rfl) (fun x H1 => ex_draw rfl (fun H2 => ed_var rfl (.i _)) (by omega) (by omega))).imp fun H v ⟨ns, h1, h2, h3, h4⟩ => ⟨W ns, h1, ns, rfl, h2, h3, h4⟩))) hb fun vm H1 e1 hb1 ⟨ds, hvm, hlen, hds⟩ => ?_
  obtain ⟨ms, rfl, hms⟩ := as_words hds
  rw [List.length_map] at hlen
  subst hlen
  obtain ⟨wu, wv, vn, lu, lv⟩ := ok
  simp only at wu wv vn lu lv
  have hm1 : ∀ m ∈ ms, 1 ≤ m.length := fun m hm => by
    have := (hms m hm).2.1
    omega
  have hm4 : ∀ m ∈ ms, m.length ≤ 4 := fun m hm => by
    rcases (hms m hm).2.2 with h | h
    · omega
    · rw [h]
      simp
  have mu1 := mvw_len hm4 u
  have mv1 := mvw_len hm4 v
  have mv0 := mvw_ge hm1 v wv
  have hv0 : 0 < v.length := List.length_pos_iff.mpr vn
  have mvn : mvw ms v ≠ [] := fun z => by
    rw [z, List.length_nil] at mv0
    omega
  have hx1 := hx.keep (hb.kp e1)
  refine s_asg (d := ledD 1 [0] (mvArcs ms) [(0, [])]) (ed_tup (ea_cons ed_int (ea_cons (ed_tup (ea_cons ed_int ea_nil) (by simp)) (ea_cons (ed_tupL (el_is (el_lcR1 (n := (ms.length : Nat)) (fun _ => true) (fun i => arcD ⟨0, ((i : Nat) : Int), ms.getD i [], 0⟩) (ea_cons (ed_var rfl (.i _)) ea_nil) (by omega) (fun x => rfl) (fun i H2 e2 hi => eb_yes) (fun i H2 e2 hi _ => ed_tup (ea_cons ed_int (ea_cons (ed_var rfl (.i _)) (ea_cons (ed_ix (ed_var rfl (hvm.keep (.ex e2))) (ed_var rfl (.i _)) (atI_nat (Ws_get (by omega)))) (ea_cons ed_int ea_nil)))) (by simp))) ?_)) (ea_cons (ed_tup (ea_cons (ed_2 ed_int (ed_tup ea_nil (by simp))) ea_nil) (by simp)) ea_nil)))) (by simp)) fun vled H2 e2 hvled => ?_
  · rw [gd_all, Int.toNat_natCast]
    unfold mvArcs
    rw [List.map_map]
    rfl
  have hthr := mv_thr ms wu wv
  have hx2 := hx1.keep (.ex e2)
  refine s_asg (d := La (mvw ms u) (mvw ms v)) (ed_call (ea_cons (ed_var rfl hvled) (ea_cons ed_int (ea_cons (ed_var rfl hx2) ea_nil))) ⟨1, ms.length, [0], mvArcs ms, [(0, [])], 0, u, v, rfl, mv_full ms hm4 (by omega), by decide, ⟨by decide, by decide⟩, wu, wv, by omega, by omega, by rw [hthr]⟩) fun vdue H3 e3 hvdue => ?_
  have hx3 := hx2.keep (.ex e3)
  have hvm3 := hvm.keep (.ex (e2.trans e3))
  refine s_asg (d := La (mvw ms u) (mvw ms v)) (ed_La (ed_call (ea_cons (ed_var rfl hvm3) (ea_cons (ed_La0 (ed_var rfl hx3)) ea_nil)) ⟨ms, u, rfl, hm4, by omega, wu, rfl⟩) (ed_callK2 (fun _ _ => rfl) (ed_La1 (ed_var rfl hx3)) (ed_var rfl hvm3) ⟨ms, v, rfl, hm4, by omega, wv, rfl⟩)) fun vtold H4 e4 hvtold => ?_
  have hvdue4 := hvdue.keep (.ex e4)
  refine s_ifF (eb_is (eb_not (b := true) (eb_B (ed_same (ed_var rfl hvtold) (ed_var rfl hvdue4) (sh_La (n := 1)) (szd_La (by omega) (by omega))))) rfl) fun H5 e5 => ?_
  have hvdue5 := hvdue4.keep (.ex e5)
  refine s_asg (d := La (mvw ms u ++ mvw ms v) (mvw ms v)) (ed_La (ed_catW (ed_La0 (ed_var rfl hvdue5)) (ed_La1 (ed_var rfl hvdue5)) (by omega)) (ed_La1 (ed_var rfl hvdue5))) fun vo H6 e6 hvo => ?_
  have hvdue6 := hvdue5.keep (.ex e6)
  have ee6 := (((e2.trans e3).trans e4).trans e5).trans e6
  refine s_if (eb_or (eb_test (ed_gtI (ed_lenW (ed_La0 (ed_var rfl hvo))) ed_int)) (fun _ => eb_test (ed_gtI (ed_lenW (ed_La1 (ed_var rfl hvdue6))) ed_int))) (fun _ H7 e7 => s_ret ed_bl fun r H8 e8 hr => ?_) (fun _ H7 e7 => ?_)
  · have ee := (ee6.trans e7).trans e8
    exact q r H8 (e1.trans (.ex ee)) (hb1.keep ee) hr
  · have hvdue7 := hvdue6.keep (.ex e7)
    have hvo7 := hvo.keep (.ex e7)
    have tw : ∀ i, lw (mvw ms u) (mvw ms v) i = lw (mvw ms u ++ mvw ms v) (mvw ms v) i := fun i => (lw_twin _ _ mvn i).symm
    have hap : apart (mvw ms u) (mvw ms v) (mvw ms u ++ mvw ms v) (mvw ms v) = none := apart_iff.mpr tw
    have hle : least (mvw ms u ++ mvw ms v) (mvw ms v) = least (mvw ms u) (mvw ms v) := least_unique mvn mvn fun i => (tw i).symm
    have hlb := least_bound (mvw ms u) mvn
    refine s_next ?_
    dsimp only
    refine s_ret (ed_same (d := .tuple [.none, La (least (mvw ms u) (mvw ms v)).1 (least (mvw ms u) (mvw ms v)).2]) (ed_2 (ed_call (ea_cons (ed_var rfl hvdue7) (ea_cons (ed_var rfl hvo7) ea_nil)) ⟨_, _, _, _, rfl, mvn, mvn, by omega, by omega, by rw [List.length_append]; omega, by omega, by rw [hap]; rfl⟩) (ed_call (ea_cons (ed_var rfl hvo7) ea_nil) ⟨_, _, rfl, mvn, by rw [List.length_append]; omega, by omega, by rw [hle]⟩)) (ed_2 ed_non (ed_call (ea_cons (ed_var rfl hvdue7) ea_nil) ⟨_, _, rfl, mvn, by omega, by omega, rfl⟩)) (sh_2 sh_none sh_La) (szd_2 rfl (szd_La (by omega) (by omega)))) fun r H8 e8 hr => ?_
    have ee := (ee6.trans e7).trans e8
    exact q r H8 (e1.trans (.ex ee)) (hb1.keep ee) hr
end K23
set_option maxRecDepth 100000
/-! Plain: letters, lengths and rests of what goes through. -/
namespace K23
open WV
theorem go_cons (as : List Arc) (s l : Int) (ws : List Int) : go as s (l :: ws) = match stp as s l with
  | some a => (a.out ++ (go as a.g ws).1, (go as a.g ws).2)
  | none => go as s ws := by
  rw [go_eq, List.foldl_cons]
  unfold gF
  cases stp as s l with
  | none => rfl
  | some a =>
    have h := go_acc as ws a.out a.g
    unfold gF at h
    simpa using h
theorem go_mem {as : List Arc} : ∀ {ws : List Int} {s z : Int}, z ∈ (go as s ws).1 → ∃ a ∈ as, a.l ∈ ws ∧ z ∈ a.out
  | [], s, z, h => by simp [go] at h
  | l :: ws, s, z, h => by
    rw [go_cons] at h
    cases hs : stp as s l with
    | none =>
      rw [hs] at h
      obtain ⟨a, h1, h2, h3⟩ := go_mem (ws := ws) h
      exact ⟨a, h1, List.mem_cons_of_mem _ h2, h3⟩
    | some a =>
      rw [hs] at h
      rcases List.mem_append.mp h with h | h
      · have hm := List.mem_of_find?_eq_some hs
        have hp := List.find?_some hs
        unfold isArc at hp
        rw [decide_eq_true_eq] at hp
        simp only [List.cons.injEq, and_true] at hp
        exact ⟨a, hm, by rw [hp.2]; exact List.mem_cons_self, h⟩
      · obtain ⟨a', h1, h2, h3⟩ := go_mem (ws := ws) h
        exact ⟨a', h1, List.mem_cons_of_mem _ h2, h3⟩
theorem mem_cat {f : Nat → List Int} {z : Int} : ∀ {n : Nat}, z ∈ cat f n → ∃ j, z ∈ f j
  | 0, h => by simp [cat] at h
  | n + 1, h => by
    rcases List.mem_append.mp h with h | h
    · exact mem_cat h
    · exact ⟨n, h⟩
theorem cat_len {f : Nat → List Int} {c : Nat} (h : ∀ j, (f j).length ≤ c) : ∀ n, (cat f n).length ≤ c * n
  | 0 => by simp [cat]
  | n + 1 => by
    have h1 := cat_len h n
    have h2 := h n
    show (cat f n ++ f n).length ≤ _
    rw [List.length_append, Nat.mul_succ]
    omega
section
variable {m n k : Nat} {as : List Arc} {s : Int} {u v : List Int}
theorem thr_mem2 (F : Full n k as) (hs : St n s) (hu : Wd k u) (hv : Wd k v) {z : Int} (h : z ∈ (thr n as s u v).2) : ∃ a ∈ as, a.l ∈ v ∧ z ∈ a.out := by
  have g := (go_ok F hs hu).1
  rw [thr_eq n as s u v (pre_S F hv g).1] at h
  obtain ⟨j, hj⟩ := mem_cat h
  exact go_mem hj
theorem thr_mem1 (F : Full n k as) (hs : St n s) (hu : Wd k u) (hv : Wd k v) {z : Int} (h : z ∈ (thr n as s u v).1) : ∃ a ∈ as, z ∈ a.out := by
  have g := (go_ok F hs hu).1
  rw [thr_eq n as s u v (pre_S F hv g).1] at h
  rcases List.mem_append.mp h with h | h
  · obtain ⟨a, h1, _, h3⟩ := go_mem h
    exact ⟨a, h1, h3⟩
  · obtain ⟨j, hj⟩ := mem_cat h
    obtain ⟨a, h1, _, h3⟩ := go_mem hj
    exact ⟨a, h1, h3⟩
theorem thr_wd (F : Full n k as) (ho : ∀ a ∈ as, Wd m a.out) (hs : St n s) (hu : Wd k u) (hv : Wd k v) : Wd m (thr n as s u v).1 ∧ Wd m (thr n as s u v).2 := by
  refine ⟨fun z hz => ?_, fun z hz => ?_⟩
  · obtain ⟨a, h1, h3⟩ := thr_mem1 F hs hu hv hz
    exact ho a h1 z h3
  · obtain ⟨a, h1, _, h3⟩ := thr_mem2 F hs hu hv hz
    exact ho a h1 z h3
theorem thr_len (F : Full n k as) (hs : St n s) (hu : Wd k u) (hv : Wd k v) : (thr n as s u v).1.length ≤ 4 * u.length + 4 * v.length * n ∧ (thr n as s u v).2.length ≤ 4 * v.length * n := by
  obtain ⟨g, gl⟩ := go_ok F hs hu
  have hp := pre_S F hv g
  have hr := (per_S F hv g).1
  rw [thr_eq n as s u v hp.1]
  have hW : ∀ j, (Wq as v (go as s u).2 j).length ≤ 4 * v.length := fun j => (go_ok F (Sq_ok F hv g j) hv).2
  have c1 := cat_len (f := Wq as v (go as s u).2) hW (pre (Sq as v (go as s u).2) n)
  have c2 := cat_len (f := fun j => Wq as v (go as s u).2 (pre (Sq as v (go as s u).2) n + j)) (fun j => hW _) (per (Sq as v (go as s u).2) n - pre (Sq as v (go as s u).2) n)
  have m1 := Nat.mul_le_mul_left (4 * v.length) (show pre (Sq as v (go as s u).2) n ≤ n by omega)
  have m2 := Nat.mul_le_mul_left (4 * v.length) (show per (Sq as v (go as s u).2) n - pre (Sq as v (go as s u).2) n ≤ n by omega)
  refine ⟨?_, Nat.le_trans c2 m2⟩
  simp only [List.length_append]
  omega
/-- the rest of what is told is told of the rest -/
theorem rest_eq (F : Full n k as) (ho : ∀ a ∈ as, 1 ≤ a.out.length) (hs : St n s) (hu : Wd k u) (hw : Wd k v) (hv : v ≠ []) {x : List Int} (hx : Bgn x (lw u v)) (hxw : Wd k x) :
    least (thr n as (go as s x).2 (shift u v x.length).1 (shift u v x.length).2).1 (thr n as (go as s x).2 (shift u v x.length).1 (shift u v x.length).2).2 = shift (thr n as s u v).1 (thr n as s u v).2 (go as s x).1.length := by
  obtain ⟨p, q, hq, e, hpq⟩ := shift_is (thr n as s u v).1 (thr_ne F ho hs hu hw hv) (go as s x).1.length
  obtain ⟨w1, w2⟩ := shift_wd hu hw hv x.length
  rw [e]
  exact least_unique (thr_ne F ho (go_ok F hs hxw).1 w1 w2 (shift_ne u hv _)) hq fun i => (thr_shift F ho hs hu hw hv hx i).trans (hpq i).symm
def pref (u v : List Int) (c : Nat) : List Int := (u ++ repI 12 v).take c
theorem pref_bgn (u v : List Int) (c : Nat) : Bgn (pref u v c) (lw u v) := by
  have h := bgn_lasso u v 12
  rw [← List.take_append_drop c (u ++ repI 12 v)] at h
  exact h.left
theorem pref_len (u : List Int) {v : List Int} (hv : v ≠ []) {c : Nat} (hc : c ≤ 12) : (pref u v c).length = c := by
  have hl : 0 < v.length := List.length_pos_iff.mpr hv
  unfold pref
  rw [List.length_take, List.length_append, repI_length]
  omega
theorem pref_wd (hu : Wd k u) (hw : Wd k v) (c : Nat) : Wd k (pref u v c) := fun z hz => by
  rcases List.mem_append.mp (List.mem_of_mem_take hz) with h | h
  · exact hu z h
  · exact hw z (repI_mem h)
theorem go_pow (F : Full n k as) (hs : St n s) (hu : Wd k u) (hv : Wd k v) (j : Nat) : (go as s (u ++ repI (j + 1) v)).2 = (Pw (gmap n as v) j).getD (go as s u).2.toNat 0 := by
  rw [go_rep, Pw_gmap F hv (go_ok F hs hu).1]
/-- what the arcs of some letters write -/
def sm (v : List Int) (as : List Arc) : List Int := (as.map fun a => if a.l ∈ v then a.out else []).flatten
theorem sm_snoc (v : List Int) (as : List Arc) (a : Arc) : sm v (as ++ [a]) = sm v as ++ (if a.l ∈ v then a.out else []) := by
  unfold sm
  rw [List.map_append, List.flatten_append]
  simp
theorem sm_mem {v : List Int} {as : List Arc} {a : Arc} {z : Int} (h : a ∈ as) (hl : a.l ∈ v) (hz : z ∈ a.out) : z ∈ sm v as := by
  unfold sm
  rw [List.mem_flatten]
  refine ⟨a.out, List.mem_map.mpr ⟨a, h, by rw [if_pos hl]⟩, hz⟩
theorem sm_len {v : List Int} (ho : ∀ a ∈ as, a.out.length ≤ 4) : (sm v as).length ≤ 4 * as.length := by
  have := flat_len (L := as.map fun a => if a.l ∈ v then a.out else []) (c := 4) fun x hx => by
    obtain ⟨a, ha, rfl⟩ := List.mem_map.mp hx
    split
    · exact ho a ha
    · simp
  rw [List.length_map] at this
  exact this
end
end K23
set_option maxRecDepth 100000
set_option maxHeartbeats 4000000
/-! list.extend of a tuple; ints in words and lists. -/
namespace WV
open PySem PySem.Spec PyProof.Rows L2
open Evl (Ex)
theorem list_extend_any (l : Addr) (items : Array Value) (n : Nat) (b : Addr) (items2 : Array Value) (n2 : Nat) (dd : Option Addr) (sl : Array (Option Value)) (h0 : ¬(!items.isEmpty && Builtin.List.listTooLong (items.size + items2.size)) = true) (h1 : items.size ≤ sizeLine) (h2 : items.size + items2.size ≤ sizeLine + 1) :
    Meets (Builtin.«list.extend» ⟨[.ref l, .ref b], []⟩) (fun _ R s => s.heap.get? l = some { cls := .type "list", dict := none, data := .seq items n, slots := #[] } ∧ s.heap.get? b = some { cls := .type "tuple", dict := dd, data := .seq items2 n2, slots := sl } ∧ R (.ok (.ret Value.none)) { s with heap := s.heap.update l (Obj.mapSeq fun x => x ++ items2), toks := s.toks }) :=
  .of_wp fun prog w A R s h => by
    obtain ⟨hp, g, d, tk, os⟩ := s
    obtain ⟨hl, hb, h⟩ := h
    have f1 := AutoSeq1.idx_int
    have f4 := AutoSeq1.sub_tuple_list
    have f2 := AutoSeq1.sub_tuple_tuple
    have f3 := AutoSeq1.sub_list_list
    have f5 := AutoSeq1.sub_list_tuple
    have hz' : (items ++ items2).size ≤ sizeLine + 1 := by
      rw [Array.size_append]
      exact h2
    wp_walk using (wpAny_updateSeq hl rfl (hz := h1) (_hz' := hz')), wpAny_loadPart' hl, wpAny_loadPart' hb
    exact ⟨_, rfl, h⟩
def rExtT (K : PySem.W.Frag) : V → List V → Hp → VK → Prop := fun x vs H Q => ∃ l b xs zs, x = .ref l ∧ vs = [.ref b] ∧ H l = some (.lst xs) ∧ SqT K H b zs ∧ xs.length + zs.length ≤ sizeLine ∧ Q .non (upd H l (.lst (xs ++ zs)))
theorem mt_extendT {X : Cx} : MtR X "list.extend" (rExtT X.K) := by
  intro pins s σ H x vs v us Q I rx rv h
  obtain ⟨l, b, xs, zs, rfl, rfl, hH, hB, hz, q⟩ := h
  cases rx
  obtain ⟨u, rfl, ru⟩ := rv.one
  cases ru
  obtain ⟨z, its, n, r, hl, e⟩ := I.lstM hH
  obtain ⟨its2, r2, ⟨⟨cls, dd, data, sl⟩, ho, hc, n2, hd⟩, hs⟩ := I.tuple hB
  simp only at hc hd
  subst hc hd
  have hl2 := r2.length
  have hsz : its.toArray.size + its2.toArray.size ≤ sizeLine := by
    rw [List.size_toArray, List.size_toArray]
    omega
  have hlong : ¬ (!its.toArray.isEmpty && Builtin.List.listTooLong (its.toArray.size + its2.toArray.size)) = true := by
    rw [notLongL hsz, Bool.and_false]
    exact Bool.false_ne_true
  refine call_meets F.slot_list_extend ⟨_, e, rfl⟩ F.entry_list_extend (F.args_list_extend_2 _ _)
    (list_extend_any l its.toArray n b its2.toArray n2 dd sl hlong (by rw [List.size_toArray]; omega) (by omega)) ⟨e, ho, ?_⟩
  refine ⟨.non, _, I.lset (its' := its ++ its2) hH e (by simp) (r.append r2) ?_, rfl, q⟩
  rw [List.length_append]
  omega
section
variable {K : PySem.W.Frag} {σ : L2.St} {H : Hp} {ta tb te : TE} {D : Ends}
theorem s_extT {i : Nat} {a : Addr} {ds es : List T} (hv : σ[i]? = some (some (.ref a))) (hl : LA H (.ref a) ds) (h : ED te σ H (.tuple es)) (hz : ds.length + es.length ≤ 100000) (k : ∀ H', Mut a H H' → LA H' (.ref a) (ds ++ es) → D.nx σ H') :
    tDrop (tBM K "list" (rExtT K) (tVar i) (tCons te tNil)) D σ H := by
  obtain ⟨p, xs, e, h1, h2⟩ := hl
  cases e
  refine ⟨_, hv, Or.inl ⟨rfl, xs, .inl (.inl h1)⟩, h H (Ex.refl H) _ fun v H2 e2 hd => ?_⟩
  obtain ⟨t, zs, rfl, g1, g2⟩ := hd.tup_inv
  refine ⟨a, t, xs, zs, rfl, rfl, e2 a _ h1, .inl (.inl g1), Evl.sz_of (by rw [h2.length, g2.length]; exact hz), ?_⟩
  have kp : Kp H2 (upd H2 a (.lst (xs ++ zs))) := .updL (e2 a _ h1)
  refine k _ ⟨fun b o ne hb => by rw [upd_ne ne]; exact e2 b o hb, (Kp.ex e2).trans kp⟩ ⟨a, _, rfl, upd_same, ?_⟩
  exact ((h2.keep (.ex e2)).append g2).keep kp
theorem inV_ints (x : Int) (ns : List Int) : inV (.int x) (ns.map V.int) = decide (x ∈ ns) := by
  unfold inV
  rw [List.any_map, Bool.eq_iff_iff, List.any_eq_true, decide_eq_true_eq]
  constructor
  · rintro ⟨y, h1, h2⟩
    have : y = x := by
      have h2 : (y == x) = true := h2
      simpa using h2
    rw [← this]
    exact h1
  · intro h
    refine ⟨x, h, ?_⟩
    show (x == x) = true
    simp
theorem flat_ints (ns : List Int) : (ns.map V.int).all flatV = true := by
  rw [List.all_map, List.all_eq_true]
  intro x _
  rfl
theorem ed_inW {x : Int} {ns : List Int} (ha : ED ta σ H (.int x)) (hb : ED tb σ H (W ns)) : ED (tOp (rIn K false) ta tb) σ H (.bool (decide (x ∈ ns))) := fun H1 k Q q =>
  ha H1 k _ fun v H2 e2 hv => hb H2 (k.trans e2) _ fun w H3 e3 hw => by
    obtain ⟨a, vs, rfl, g1, g2⟩ := hw.tup_inv
    have hvs : vs = ns.map V.int := tds_ints g2
    subst hvs
    rw [hv.int_inv]
    refine ⟨a, _, rfl, .inr (.inl (.inl g1)), rfl, flat_ints ns, ?_⟩
    rw [inV_ints]
    exact q _ H3 (e2.trans e3) (.b _)
theorem ed_inLI {x : Int} {ns : List Int} (ha : ED ta σ H (.int x)) (hb : EM tb σ H (ns.map .int)) : ED (tOp (rIn K false) ta tb) σ H (.bool (decide (x ∈ ns))) := fun H1 k Q q =>
  ha H1 k _ fun v H2 e2 hv => hb H2 (k.trans e2) _ fun w H3 e3 hw => by
    obtain ⟨a, vs, rfl, g1, g2⟩ := hw
    have hvs : vs = ns.map V.int := tds_ints g2
    subst hvs
    rw [hv.int_inv]
    refine ⟨a, _, rfl, .inl (.inl (.inl g1)), rfl, flat_ints ns, ?_⟩
    rw [inV_ints]
    exact q _ H3 (e2.trans e3) (.b _)
end
end WV
set_option maxRecDepth 100000
set_option maxHeartbeats 8000000
namespace K23
open PySem PySem.Spec PyProof.Rows L2 WV
open Evl (Ex Ev)
variable {P : Program} {w : World} {K : PySem.W.Frag} {mg : Str → Option Value} {base : Heap}
theorem ei_drawX {b c : Addr} {σ : L2.St} {H : Hp} {te : TE} {E : XK} {i : Nat} {m : Int} (hb : σ[i]? = some (some (.ref b))) (hm : ∀ H1, Bx b c H H1 → Bg H1 b c → ED te σ H1 (.int m)) (m1 : 1 ≤ m) (m2 : m < 1000000) : EI b c (tCall SpDraw [] E (tCons (tVar i) (tCons te tNil))) σ H (fun r => 0 ≤ r ∧ r < m) := fun H1 e hbg Q q =>
  ⟨_, hb, hm H1 e hbg H1 (Ex.refl _) _ fun v H2 e2 hv => ⟨b, c, m, by rw [hv.int_inv]; rfl, m1, m2, hbg.keep e2, fun r H' r0 r1 hbx hbg' => q _ _ ((Bx.ex e2).trans hbx) hbg' ⟨r, rfl, r0, r1⟩⟩⟩
/-- (lasso[0] + lasso[1] * 12)[:c] -/
theorem ed_pref {σ : L2.St} {H : Hp} {ta tb : TE} {u v : List Int} {c : Nat} {r r' r2 : R2} (h : ED ta σ H (La u v)) (hc : ED tb σ H (.int (c : Nat))) (vn : v ≠ []) (lu : u.length ≤ 12) (lv : v.length ≤ 12) :
    ED (tSl (fun x lo hi H Q => rSlL K x lo hi H Q ∨ rSlA K x lo hi H Q) (tOp (WV.rU r (WV.rU (rCatA K) r')) (tOp (rIx K) ta (tC (.int 0))) (tOp (WV.rU r2 (WV.rU (rRepT K) (rRep1 K))) (tOp (rIx K) ta (tC (.int 1))) (tC (.int 12)))) tNoPart (tPart tb)) σ H (W (pref u v c)) :=
  ed_takeW (n := c) (ed_catW (ed_La0 h) (ed_repW (k := 12) (ed_La1 h) ed_int vn ⟨by decide, by decide⟩ (by omega)) (by rw [repI_length]; omega)) hc
abbrev scLd : Scope := { kind := .function, names := [(".0", .local), ("a", .cell), ("tuple", .globalImplicit), ("range", .globalImplicit), ("led", .cell), ("n", .cell)], isGenerator := false, isCoroutine := false }
def SpLd : Sp := fun vs H Q _ => ∃ b c, ∃ k m n : Nat, ∃ x3 x4 b0 as u v, vs = [.ref b, .int k, .int m, x3, x4] ∧ 1 ≤ k ∧ k ≤ 10 ∧ 1 ≤ m ∧ m ≤ 10 ∧ 1 ≤ n ∧ n ≤ 3 ∧ Bg H b c ∧ Td H x3 (ledD n [b0] as (endsN n)) ∧ Td H x4 (La u v) ∧ LsOk k (u, v) ∧ St n b0 ∧ Arcs m n (prs k n) as ∧ ∀ r H', Bx b c H H' → Bg H' b c → Td H' r (.bool true) → Q r H'
theorem ok_law_is_led (T : Txt K mg) : FnOk P w K mg base CX0 6 T.f_law_is_led T.d_law_is_led ["bag", "k", "m", "led", "lasso"] SpLd := by
  have G_law_draw := ok_law_draw (P := P) (w := w) (base := base) T
  have G_law_through := ok_law_through (P := P) (w := w) (base := base) T
  have G_law_go := ok_law_go (P := P) (w := w) (base := base) T
  have G_law_shift := ok_law_shift (P := P) (w := w) (base := base) T
  have G_law_least := ok_law_least (P := P) (w := w) (base := base) T
  have G_is_steady := ok_is_steady (P := P) (w := w) (base := base) T
  have G_led_error := ok_led_error (P := P) (w := w) (base := base) T
  have G_lasso_error := ok_lasso_error (P := P) (w := w) (base := base) T
  have G_letter_at := ok_letter_at (P := P) (w := w) (base := base) T
  have G_again_letters := ok_again_letters (P := P) (w := w) (base := base) T
  have G_shifted_lasso := ok_shifted_lasso (P := P) (w := w) (base := base) T
  have G_answers_of := ok_answers_of (P := P) (w := w) (base := base) T
  have G_maps_error := ok_maps_error (P := P) (w := w) (base := base) T
  have G_map_of := ok_map_of (P := P) (w := w) (base := base) T
  have G_map_round := ok_map_round (P := P) (w := w) (base := base) T
  have G_law_same := ok_law_same (P := P) (w := w) (base := base) T 3 (by decide)
  refine T.F_law_is_led.ok sc_law_is_led (fun vs H Q E ⟨_, _, _, _, _, _, _, _, _, _, _, h, _⟩ => by rw [h]; rfl) (fun cdv A outer s H vs Q E hr h => ?_)
  obtain ⟨b, c, k, m, n, x3, x4, b0, as, u, v, rfl, k1, k2, m1, m2, n1, n2, hb, hled, hlas, ok, hb0, har, q⟩ := h
  have hu := hr.units
  have hv : (A.deeper (envOfC "_law_is_led" (defScope s_law_is_led) s.heap.objs.size T.f_law_is_led cdv)).units + 65 < cLine := by
    have := hr.un
    omega
  refine ⟨_, (pss_cons (ps_asg (pe_tup (pa_cons (pe_ix ix_seq (pv 3) pe_int (fun _ _ => rfl)) (pa_cons (pe_ix ix_seq (pe_ix ix_seq (pv 3) pe_int (fun _ _ => rfl)) pe_int (fun _ _ => rfl)) pa_nil))) (pg_tup rfl (pgs_cons (pg_name (i := 5) sc_law_is_led.nd rfl (by first | exact .inl rfl | exact .inr rfl)) (pgs_cons (pg_name (i := 6) sc_law_is_led.nd rfl (by first | exact .inl rfl | exact .inr rfl)) pgs_nil))))
      (pss_cons (ps_asg (pe_call G_law_through (hr.mono (by decide)) (by rfl) T.g_law_through T.F_law_through.kp T.b_law_through .nil pass0 (pa_cons (pv 3) (pa_cons (pv 6) (pa_cons (pv 4) pa_nil)))) (pg_name (i := 7) sc_law_is_led.nd rfl (by first | exact .inl rfl | exact .inr rfl)))
      (pss_cons (ps_if (PW.pt (pw_or (pt_cmpR op_gt (pe_callB call_len_seq (by rfl) T.m_len (by decide +kernel) (pa_cons (pe_ix ix_seq (pv 7) pe_int (fun _ _ => rfl)) pa_nil)) pe_int (by rfl)) (pw_or1 (pt_cmpR op_gt (pe_callB call_len_seq (by rfl) T.m_len (by decide +kernel) (pa_cons (pe_ix ix_seq (pv 7) pe_int (fun _ _ => rfl)) pa_nil)) pe_int (by rfl)))))
        (pss_one (ps_ret pe_bl))
        pss_nil)
      (pss_cons (ps_if (pt_not (pt_val (pe_call G_law_same (hr.mono (by decide)) (by rfl) T.g_law_same T.F_law_same.kp T.b_law_same .nil pass0 (pa_cons (pe_tup (pa_cons (pe_call G_is_steady (hr.mono (by decide)) (by rfl) T.g_is_steady T.F_is_steady.kp T.b_is_steady .nil pass0 (pa_cons (pv 3) pa_nil)) (pa_cons (pe_call G_led_error (hr.mono (by decide)) (by rfl) T.g_led_error T.F_led_error.kp T.b_led_error .nil pass0 (pa_cons (pv 1) (pa_cons (pv 2) (pa_cons (pv 3) pa_nil)))) (pa_cons (pe_call G_lasso_error (hr.mono (by decide)) (by rfl) T.g_lasso_error T.F_lasso_error.kp T.b_lasso_error .nil pass0 (pa_cons (pv 2) (pa_cons (pv 7) pa_nil))) pa_nil)))) (pa_cons (pe_tup (pa_cons pe_bl (pa_cons pe_non (pa_cons pe_non pa_nil)))) pa_nil)))))
        (pss_one (ps_ret pe_bl))
        pss_nil)
      (pss_cons (ps_asg (pe_ix ix_seq (pe_call G_law_go (hr.mono (by decide)) (by rfl) T.g_law_go T.F_law_go.kp T.b_law_go .nil pass0 (pa_cons (pv 3) (pa_cons (pv 6) (pa_cons (pe_slice sl_seqU (pe_op op_addU (pe_ix ix_seq (pv 4) pe_int (fun _ _ => rfl)) (pe_op op_mulU (pe_ix ix_seq (pv 4) pe_int (fun _ _ => rfl)) pe_int)) po_none (po_some pe_int)) pa_nil)))) pe_int (fun _ _ => rfl)) (pg_name (i := 8) sc_law_is_led.nd rfl (by first | exact .inl rfl | exact .inr rfl)))
      (Evl.pss_cut (ps_for PassesOwn.never rfl (pi_seq (pe_lst (pa_cons pe_int (pa_cons (pe_op op_sub (pe_callB call_len_seq (by rfl) T.m_len (by decide +kernel) (pa_cons (pv 8) pa_nil)) pe_int) (pa_cons (pe_call G_law_draw (hr.mono (by decide)) (by rfl) T.g_law_draw T.F_law_draw.kp T.b_law_draw .nil pass0 (pa_cons (pv 0) (pa_cons (pe_callB call_len_seq (by rfl) T.m_len (by decide +kernel) (pa_cons (pv 8) pa_nil)) pa_nil))) pa_nil))))) (pg_name (i := 9) sc_law_is_led.nd rfl (by first | exact .inl rfl | exact .inr rfl))
        (pss_one (ps_if (pt_not (pt_val (pe_call G_law_same (hr.mono (by decide)) (by rfl) T.g_law_same T.F_law_same.kp T.b_law_same .nil pass0 (pa_cons (pe_call G_letter_at (hr.mono (by decide)) (by rfl) T.g_letter_at T.F_letter_at.kp T.b_letter_at .nil pass0 (pa_cons (pv 7) (pa_cons (pv 9) pa_nil))) (pa_cons (pe_ix ix_seq (pv 8) (pv 9) (fun _ _ => rfl)) pa_nil)))))
        (pss_one (ps_ret pe_bl))
        pss_nil)))
      (pss_cons (ps_asg (pe_callB (cr_sortedSet rfl) (by rfl) T.m_sorted (by decide +kernel) (pa_cons (pe_callTy (call_setU rfl) (by rfl) T.m_set (by decide +kernel) (pa_cons (pe_ix ix_seq (pe_call G_law_through (hr.mono (by decide)) (by rfl) T.g_law_through T.F_law_through.kp T.b_law_through .nil pass0 (pa_cons (pv 3) (pa_cons (pv 6) (pa_cons (pv 4) pa_nil)))) pe_int (fun _ _ => rfl)) pa_nil)) pa_nil)) (pg_name (i := 10) sc_law_is_led.nd rfl (by first | exact .inl rfl | exact .inr rfl)))
      (pss_cons (ps_asg (pe_lst pa_nil) (pg_name (i := 11) sc_law_is_led.nd rfl (by first | exact .inl rfl | exact .inr rfl)))
      (Evl.pss_cut (ps_for PassesOwn.never rfl (pi_seq (pe_ix ix_seq (pv 3) pe_int (fun _ _ => rfl))) (pg_name (i := 12) sc_law_is_led.nd rfl (by first | exact .inl rfl | exact .inr rfl))
        (pss_one (ps_expr (pe_bm PySem.F.plainAttrs_list PySem.F.slot_list_extend PySem.F.type_list_extend mt_extendT (pv 11) (pa_cons (pe_ifExp (pt_cmpR op_in_seq (pe_ix ix_seq (pv 12) pe_int (fun _ _ => rfl)) (pe_ix ix_seq (pv 4) pe_int (fun _ _ => rfl)) (by rfl)) (pe_ix ix_seq (pv 12) pe_int (fun _ _ => rfl)) (pe_tup pa_nil)) pa_nil)))))
      (pss_cons (ps_if (PW.pt (pw_or (pt_not (pt_val (pe_callB (cr_all rfl) (by rfl) T.m_all (by decide +kernel) (pa_cons (pe_lcD s H (own := [("letter", 13)]) rfl sc_law_is_led.nd (pi_seq (pv 10)) (blkOk_by (own := [("letter", 13)]) (N := nm_law_is_led) (sc := defScope s_law_is_led) (by decide +kernel)) (fun _ _ _ _ _ => (pg_name (i := 13) sc_law_is_led.nd rfl (by first | exact .inl rfl | exact .inr rfl))) (fun _ _ _ _ _ => pts_nil) (fun _ _ _ _ _ => (pe_cmpR op_in_seq (pv 13) (pv 11) (by rfl)))) pa_nil)))) (pw_or1 (pt_not (pt_val (pe_call G_law_same (hr.mono (by decide)) (by rfl) T.g_law_same T.F_law_same.kp T.b_law_same .nil pass0 (pa_cons (pe_call G_again_letters (hr.mono (by decide)) (by rfl) T.g_again_letters T.F_again_letters.kp T.b_again_letters .nil pass0 (pa_cons (pv 7) pa_nil)) (pa_cons (pe_callTy call_tuple_of (by rfl) T.m_tuple (by decide +kernel) (pa_cons (pv 10) pa_nil)) pa_nil))))))))
        (pss_one (ps_ret pe_bl))
        pss_nil)
      (Evl.pss_cut (ps_for PassesOwn.never rfl (pi_seq (pe_lst (pa_cons pe_int (pa_cons pe_int (pa_cons pe_int pa_nil))))) (pg_name (i := 14) sc_law_is_led.nd rfl (by first | exact .inl rfl | exact .inr rfl))
        (pss_cons (ps_asg (pe_call G_law_go (hr.mono (by decide)) (by rfl) T.g_law_go T.F_law_go.kp T.b_law_go .nil pass0 (pa_cons (pv 3) (pa_cons (pv 6) (pa_cons (pe_slice sl_seqU (pe_op op_addU (pe_ix ix_seq (pv 4) pe_int (fun _ _ => rfl)) (pe_op op_mulU (pe_ix ix_seq (pv 4) pe_int (fun _ _ => rfl)) pe_int)) po_none (po_some (pv 14))) pa_nil)))) (pg_tup rfl (pgs_cons (pg_name (i := 15) sc_law_is_led.nd rfl (by first | exact .inl rfl | exact .inr rfl)) (pgs_cons (pg_name (i := 16) sc_law_is_led.nd rfl (by first | exact .inl rfl | exact .inr rfl)) pgs_nil))))
      (pss_cons (ps_asg (pe_call G_law_through (hr.mono (by decide)) (by rfl) T.g_law_through T.F_law_through.kp T.b_law_through .nil pass0 (pa_cons (pv 3) (pa_cons (pv 16) (pa_cons (pe_call G_law_shift (hr.mono (by decide)) (by rfl) T.g_law_shift T.F_law_shift.kp T.b_law_shift .nil pass0 (pa_cons (pv 4) (pa_cons (pv 14) pa_nil))) pa_nil)))) (pg_name (i := 17) sc_law_is_led.nd rfl (by first | exact .inl rfl | exact .inr rfl)))
      (pss_cons (ps_if (pt_not (pt_val (pe_call G_law_same (hr.mono (by decide)) (by rfl) T.g_law_same T.F_law_same.kp T.b_law_same .nil pass0 (pa_cons (pe_call G_shifted_lasso (hr.mono (by decide)) (by rfl) T.g_shifted_lasso T.F_shifted_lasso.kp T.b_shifted_lasso .nil pass0 (pa_cons (pv 7) (pa_cons (pe_callB call_len_seq (by rfl) T.m_len (by decide +kernel) (pa_cons (pv 15) pa_nil)) pa_nil))) (pa_cons (pe_call G_law_least (hr.mono (by decide)) (by rfl) T.g_law_least T.F_law_least.kp T.b_law_least .nil pass0 (pa_cons (pv 17) pa_nil)) pa_nil)))))
        (pss_one (ps_ret pe_bl))
        pss_nil)
      (pss_one (ps_if (pt_not (pt_val (pe_call G_law_same (hr.mono (by decide)) (by rfl) T.g_law_same T.F_law_same.kp T.b_law_same .nil pass0 (pa_cons (pe_call G_answers_of (hr.mono (by decide)) (by rfl) T.g_answers_of T.F_answers_of.kp T.b_answers_of .nil pass0 (pa_cons (pv 3) (pa_cons (pe_slice sl_seqU (pe_op op_addU (pe_ix ix_seq (pv 4) pe_int (fun _ _ => rfl)) (pe_op op_mulU (pe_ix ix_seq (pv 4) pe_int (fun _ _ => rfl)) pe_int)) po_none (po_some (pv 14))) pa_nil))) (pa_cons (pe_tup (pa_cons (pv 15) pa_nil)) pa_nil)))))
        (pss_one (ps_ret pe_bl))
        pss_nil))))))
      (pss_cons (ps_asg (pe_callTy call_tuple_of (by rfl) T.m_tuple (by decide +kernel) (pa_cons (pe_lcD s H (own := [("a", 19)]) rfl sc_law_is_led.nd (pi_range1 (by rfl) T.m_range (pa_cons (pv 1) pa_nil)) (blkOk_by (own := [("a", 19)]) (N := nm_law_is_led) (sc := defScope s_law_is_led) (by decide +kernel)) (fun _ _ _ _ _ => (pg_name (i := 19) sc_law_is_led.nd rfl (by first | exact .inl rfl | exact .inr rfl))) (fun _ _ _ _ _ => pts_nil) (fun _ _ _ _ _ => (pe_callTy call_tuple_of (by rfl) T.m_tuple (by decide +kernel) (pa_cons (pe_lcD s H (own := [("i", 9)]) rfl sc_law_is_led.nd (pi_range1 (by rfl) T.m_range (pa_cons (pv 5) pa_nil)) (blkOk_by (own := [("i", 9)]) (N := nm_law_is_led) (sc := scLd) (by decide +kernel)) (fun _ _ _ _ _ => (pg_name (i := 9) sc_law_is_led.nd rfl (by first | exact .inl rfl | exact .inr rfl))) (fun _ _ _ _ _ => pts_nil) (fun _ _ _ _ _ => (pe_ix ix_seq (pe_call G_law_go (hr.mono (by decide)) (by rfl) T.g_law_go T.F_law_go.kp T.b_law_go .nil pass0 (pa_cons (pv 3) (pa_cons (pv 9) (pa_cons (pe_tup (pa_cons (pv 19) pa_nil)) pa_nil)))) pe_int (fun _ _ => rfl)))) pa_nil)))) pa_nil)) (pg_name (i := 18) sc_law_is_led.nd rfl (by first | exact .inl rfl | exact .inr rfl)))
      (pss_cons (ps_asg (pe_callTy call_tuple_of (by rfl) T.m_tuple (by decide +kernel) (pa_cons (pe_lcD s H (own := [("i", 9)]) rfl sc_law_is_led.nd (pi_range1 (by rfl) T.m_range (pa_cons (pv 5) pa_nil)) (blkOk_by (own := [("i", 9)]) (N := nm_law_is_led) (sc := defScope s_law_is_led) (by decide +kernel)) (fun _ _ _ _ _ => (pg_name (i := 9) sc_law_is_led.nd rfl (by first | exact .inl rfl | exact .inr rfl))) (fun _ _ _ _ _ => pts_nil) (fun _ _ _ _ _ => (pe_ix ix_seq (pe_call G_law_go (hr.mono (by decide)) (by rfl) T.g_law_go T.F_law_go.kp T.b_law_go .nil pass0 (pa_cons (pv 3) (pa_cons (pv 9) (pa_cons (pe_ix ix_seq (pv 4) pe_int (fun _ _ => rfl)) pa_nil)))) pe_int (fun _ _ => rfl)))) pa_nil)) (pg_name (i := 20) sc_law_is_led.nd rfl (by first | exact .inl rfl | exact .inr rfl)))
      (pss_cons (ps_asg (pe_callTy call_tuple_of (by rfl) T.m_tuple (by decide +kernel) (pa_cons (pe_lcD s H (own := [("i", 9)]) rfl sc_law_is_led.nd (pi_range1 (by rfl) T.m_range (pa_cons (pv 5) pa_nil)) (blkOk_by (own := [("i", 9)]) (N := nm_law_is_led) (sc := defScope s_law_is_led) (by decide +kernel)) (fun _ _ _ _ _ => (pg_name (i := 9) sc_law_is_led.nd rfl (by first | exact .inl rfl | exact .inr rfl))) (fun _ _ _ _ _ => pts_nil) (fun _ _ _ _ _ => (pe_ix ix_seq (pe_call G_law_go (hr.mono (by decide)) (by rfl) T.g_law_go T.F_law_go.kp T.b_law_go .nil pass0 (pa_cons (pv 3) (pa_cons (pv 9) (pa_cons (pe_ix ix_seq (pv 4) pe_int (fun _ _ => rfl)) pa_nil)))) pe_int (fun _ _ => rfl)))) pa_nil)) (pg_name (i := 21) sc_law_is_led.nd rfl (by first | exact .inl rfl | exact .inr rfl)))
      (pss_cons (ps_asg (pe_tup (pa_cons (pe_call G_maps_error (hr.mono (by decide)) (by rfl) T.g_maps_error T.F_maps_error.kp T.b_maps_error .nil pass0 (pa_cons (pv 5) (pa_cons (pv 1) (pa_cons (pv 18) pa_nil)))) (pa_cons (pe_call G_map_of (hr.mono (by decide)) (by rfl) T.g_map_of T.F_map_of.kp T.b_map_of .nil pass0 (pa_cons (pv 5) (pa_cons (pv 18) (pa_cons (pe_ix ix_seq (pv 4) pe_int (fun _ _ => rfl)) pa_nil)))) (pa_cons (pe_callK0 G_map_of (hr.mono (by decide)) (by rfl) T.g_map_of T.F_map_of.kp T.k_map_of_word_maps_n pass0 (pk_cons (pe_ix ix_seq (pv 4) pe_int (fun _ _ => rfl)) (pk_cons (pv 18) (pk_cons (pv 5) pk_nil)))) pa_nil)))) (pg_name (i := 7) sc_law_is_led.nd rfl (by first | exact .inl rfl | exact .inr rfl)))
      (pss_cons (ps_if (pt_not (pt_val (pe_call G_law_same (hr.mono (by decide)) (by rfl) T.g_law_same T.F_law_same.kp T.b_law_same .nil pass0 (pa_cons (pv 7) (pa_cons (pe_tup (pa_cons pe_non (pa_cons (pv 20) (pa_cons (pv 21) pa_nil)))) pa_nil)))))
        (pss_one (ps_ret pe_bl))
        pss_nil)
      (pss_cons (ps_par (i := 22) (j := 23) (by rfl) sc_law_is_led.nd rfl rfl (by decide) rfl rfl (pa_cons (pe_ix ix_seq (pv 21) (pv 6) (fun _ _ => rfl)) (pa_cons (pe_lst (pa_cons (pv 20) pa_nil)) pa_nil)) (by rfl))
      (Evl.pss_cut (ps_while PassesOwn.never (pt_cmpR (op_notInD hv) (pe_callTy call_tuple_of (by rfl) T.m_tuple (by decide +kernel) (pa_cons (pe_lcD s H (own := [("i", 9)]) rfl sc_law_is_led.nd (pi_seq (pe_ix ix_seq (pv 23) (pe_un un_neg pe_int) (fun _ _ => rfl))) (blkOk_by (own := [("i", 9)]) (N := nm_law_is_led) (sc := defScope s_law_is_led) (by decide +kernel)) (fun _ _ _ _ _ => (pg_name (i := 9) sc_law_is_led.nd rfl (by first | exact .inl rfl | exact .inr rfl))) (fun _ _ _ _ _ => pts_nil) (fun _ _ _ _ _ => (pe_ix ix_seq (pv 20) (pv 9) (fun _ _ => rfl)))) pa_nil)) (pv 23) (by rfl))
        (pss_one (ps_expr (pe_bm PySem.F.plainAttrs_list PySem.F.slot_list_append PySem.F.type_list_append mt_append (pv 23) (pa_cons (pe_callTy call_tuple_of (by rfl) T.m_tuple (by decide +kernel) (pa_cons (pe_lcD s H (own := [("i", 9)]) rfl sc_law_is_led.nd (pi_seq (pe_ix ix_seq (pv 23) (pe_un un_neg pe_int) (fun _ _ => rfl))) (blkOk_by (own := [("i", 9)]) (N := nm_law_is_led) (sc := defScope s_law_is_led) (by decide +kernel)) (fun _ _ _ _ _ => (pg_name (i := 9) sc_law_is_led.nd rfl (by first | exact .inl rfl | exact .inr rfl))) (fun _ _ _ _ _ => pts_nil) (fun _ _ _ _ _ => (pe_ix ix_seq (pv 20) (pv 9) (fun _ _ => rfl)))) pa_nil)) pa_nil)))))
      (pss_cons (ps_asg (pe_op op_addU (pe_bm PySem.F.plainAttrs_list PySem.F.slot_list_index PySem.F.type_list_index (mt_indexD hv) (pv 23) (pa_cons (pe_callTy call_tuple_of (by rfl) T.m_tuple (by decide +kernel) (pa_cons (pe_lcD s H (own := [("i", 9)]) rfl sc_law_is_led.nd (pi_seq (pe_ix ix_seq (pv 23) (pe_un un_neg pe_int) (fun _ _ => rfl))) (blkOk_by (own := [("i", 9)]) (N := nm_law_is_led) (sc := defScope s_law_is_led) (by decide +kernel)) (fun _ _ _ _ _ => (pg_name (i := 9) sc_law_is_led.nd rfl (by first | exact .inl rfl | exact .inr rfl))) (fun _ _ _ _ _ => pts_nil) (fun _ _ _ _ _ => (pe_ix ix_seq (pv 20) (pv 9) (fun _ _ => rfl)))) pa_nil)) pa_nil)) pe_int) (pg_name (i := 19) sc_law_is_led.nd rfl (by first | exact .inl rfl | exact .inr rfl)))
      (pss_cons (ps_if (pt_not (pt_val (pe_call G_law_same (hr.mono (by decide)) (by rfl) T.g_law_same T.F_law_same.kp T.b_law_same .nil pass0 (pa_cons (pe_tup (pa_cons (pe_call G_map_round (hr.mono (by decide)) (by rfl) T.g_map_round T.F_map_round.kp T.b_map_round .nil pass0 (pa_cons (pv 20) pa_nil)) (pa_cons (pe_callK0 G_map_round (hr.mono (by decide)) (by rfl) T.g_map_round T.F_map_round.kp T.k_map_round_own pass0 (pk_cons (pv 20) pk_nil)) pa_nil))) (pa_cons (pe_op op_mulU (pe_tup (pa_cons (pe_tup (pa_cons (pv 19) (pa_cons (pe_op op_addU (pe_op op_sub (pe_callB call_len_seq (by rfl) T.m_len (by decide +kernel) (pa_cons (pv 23) pa_nil)) (pv 19)) pe_int) pa_nil))) pa_nil)) pe_int) pa_nil)))))
        (pss_one (ps_ret pe_bl))
        pss_nil)
      (Evl.pss_cut (ps_for PassesOwn.never rfl (pi_seq (pe_lst (pa_cons (pv 19) (pa_cons (pe_op op_addU (pe_op op_sub (pe_op op_addU (pv 19) (pe_callB call_len_seq (by rfl) T.m_len (by decide +kernel) (pa_cons (pv 23) pa_nil))) (pv 19)) pe_int) pa_nil)))) (pg_name (i := 24) sc_law_is_led.nd rfl (by first | exact .inl rfl | exact .inr rfl))
        (pss_one (ps_if (pt_cmpR (op_neD hu) (pe_ix ix_seq (pe_call G_law_go (hr.mono (by decide)) (by rfl) T.g_law_go T.F_law_go.kp T.b_law_go .nil pass0 (pa_cons (pv 3) (pa_cons (pv 6) (pa_cons (pe_op op_addU (pe_ix ix_seq (pv 4) pe_int (fun _ _ => rfl)) (pe_op op_mulU (pe_ix ix_seq (pv 4) pe_int (fun _ _ => rfl)) (pv 24))) pa_nil)))) pe_int (fun _ _ => rfl)) (pe_ix ix_seq (pe_ix ix_seq (pv 23) (pe_op op_sub (pv 19) pe_int) (fun _ _ => rfl)) (pv 22) (fun _ _ => rfl)) (by rfl))
        (pss_one (ps_ret pe_bl))
        pss_nil)))
      (pss_one (ps_ret pe_bl))))))))))))))))))))))), ?_⟩
  obtain ⟨wu, wv, vn, lu, lv⟩ := ok
  simp only at wu wv vn lu lv
  have F : Full n k as := arcs_full (by omega) (by omega) har
  have alen : as.length ≤ 30 := by
    rw [arcs_len har]
    have := Nat.mul_le_mul n2 k2
    omega
  have ho1 : ∀ a ∈ as, 1 ≤ a.out.length := fun a ha => (har.2 a ha).2.1
  have ho3 : ∀ a ∈ as, a.out.length ≤ 3 := fun a ha => (har.2 a ha).2.2.1
  have how : ∀ a ∈ as, Wd m a.out := fun a ha => (har.2 a ha).1
  have hag : ∀ a ∈ as, St n a.g := fun a ha => (har.2 a ha).2.2.2
  have and := arcs_nodup k1 har
  have elen : (endsN n).length = n := ends_len
  have vpos : 0 < v.length := List.length_pos_iff.mpr vn
  have tn0 := thr_ne F ho1 hb0 wu wv vn
  have tb0 : ∀ x, Bgn x (lw u v) → Bgn (go as b0 x).1 (lw (thr n as b0 u v).1 (thr n as b0 u v).2) := fun x hx => go_bgn F hb0 wu wv vn hx
  have tw0 := thr_wd F how hb0 wu wv
  have tm0 : ∀ z ∈ (thr n as b0 u v).2, ∃ a ∈ as, a.l ∈ v ∧ z ∈ a.out := fun z hz => thr_mem2 F hb0 wu wv hz
  have tr0 : ∀ cc, cc ≤ 12 → least (thr n as (go as b0 (pref u v cc)).2 (shift u v cc).1 (shift u v cc).2).1 (thr n as (go as b0 (pref u v cc)).2 (shift u v cc).1 (shift u v cc).2).2 = shift (thr n as b0 u v).1 (thr n as b0 u v).2 (go as b0 (pref u v cc)).1.length := fun cc hcc => by
    have := rest_eq F ho1 hb0 wu wv vn (pref_bgn u v cc) (pref_wd wu wv cc)
    rw [pref_len u vn hcc] at this
    exact this
  rcases hT : thr n as b0 u v with ⟨tu, tv⟩
  rw [hT] at tn0 tb0 tw0 tm0 tr0
  simp only at tn0 tb0 tw0 tm0 tr0
  have hthr : ∀ {ds : List WV.T}, ds = [ledD n [b0] as (endsN n), .int b0, La u v] → fThr ds (La tu tv) := fun e => ⟨n, k, [b0], as, endsN n, b0, u, v, e, F, by omega, hb0, wu, wv, by omega, by omega, by rw [hT]⟩
  -- n, begin
  refine s_unp2 (d1 := .int n) (d2 := .int b0) (ed_2 (ed_ix (ds := [.int n, W [b0], .tuple (as.map arcD), .tuple ((endsN n).map endD)]) (ed_var rfl hled) ed_int (atI0 _ _)) (ed_ix (ds := [.int b0]) (ed_ix (ds := [.int n, W [b0], .tuple (as.map arcD), .tuple ((endsN n).map endD)]) (ed_var rfl hled) ed_int (atI_nat (j := 1) rfl)) ed_int (atI0 _ _))) fun v5 v6 H1 e1 h5 h6 => ?_
  have h5' := h5.int_inv
  have h6' := h6.int_inv
  subst h5'
  subst h6'
  have led1 := hled.keep (.ex e1)
  have las1 := hlas.keep (.ex e1)
  -- told
  refine s_asg (d := La tu tv) (ed_call (ea_cons (ed_var rfl led1) (ea_cons (ed_var rfl (.i _)) (ea_cons (ed_var rfl las1) ea_nil))) (hthr rfl)) fun x7 H2 e2 h7 => ?_
  refine s_if (eb_or (eb_test (ed_gtI (ed_lenW (ed_La0 (ed_var rfl h7))) ed_int)) (fun _ => eb_test (ed_gtI (ed_lenW (ed_La1 (ed_var rfl h7))) ed_int))) (fun _ H3 e3 => s_ret ed_bl fun r H4 e4 hr' => q r H4 (.ex (((e1.trans e2).trans e3).trans e4)) (hb.keep (((e1.trans e2).trans e3).trans e4)) hr') (fun hc H3 e3 => ?_)
  rw [Bool.or_eq_false_iff, decide_eq_false_iff_not, decide_eq_false_iff_not] at hc
  have ltu : tu.length ≤ 12 := by omega
  have ltv : tv.length ≤ 12 := by omega
  clear hc
  refine s_next ?_
  dsimp only
  have led3 := led1.keep (.ex (e2.trans e3))
  have las3 := las1.keep (.ex (e2.trans e3))
  have h73 := h7.keep (.ex e3)
  have leL0 : leL m (W tu) (W tv) = .none := by
    rw [leL_W tw0.1 tw0.2 (by omega) (by omega)]
    have : tv.isEmpty = false := by
      cases tv with
      | nil => exact absurd rfl tn0
      | cons _ _ => rfl
    rw [this]
    simp only [Bool.false_eq_true, if_false]
    rw [if_neg (by omega)]
  refine s_ifF (eb_is (eb_not (b := true) (eb_B (ed_same (d := .tuple [.bool true, .none, .none]) (ed_tup (ea_cons (ed_call (ea_cons (ed_var rfl led3) ea_nil) ⟨n, [b0], as, endsN n, rfl, by simp, by omega, by omega, and, ends_nodup, rfl⟩) (ea_cons (ed_call (ea_cons (ed_var rfl (.i _)) (ea_cons (ed_var rfl (.i _)) (ea_cons (ed_var rfl led3) ea_nil))) ⟨k, m, n, [b0], as, endsN n, rfl, by omega, by simp, by omega, by omega, fun a ha => by have := ho3 a ha; omega, fun e he => by rw [ends_empty e he]; simp, (led_none k1 har hb0).symm⟩) (ea_cons (ed_is (ed_callLE (k := m) (ed_var rfl (.i _)) (ej_pair (ed_var rfl h73) (szT_W (by omega)) (szT_W (by omega)))) leL0) ea_nil))) (by simp)) (ed_tup (ea_cons ed_bl (ea_cons ed_non (ea_cons ed_non ea_nil))) (by simp)) (sh_tup fun d hd => ?_) (szd_of (by simp) fun d hd => ?_)))) rfl) fun H4 e4 => ?_
  · simp only [List.mem_cons, List.not_mem_nil, or_false] at hd
    rcases hd with rfl | rfl | rfl
    · exact sh_bool
    · exact sh_none
    · exact sh_none
  · simp only [List.mem_cons, List.not_mem_nil, or_false] at hd
    rcases hd with rfl | rfl | rfl <;> rfl
  have led4 := led3.keep (.ex e4)
  have las4 := las3.keep (.ex e4)
  have h74 := h73.keep (.ex e4)
  have hgo : ∀ {ds : List WV.T} {cc : Nat}, cc ≤ 12 → ds = [ledD n [b0] as (endsN n), .int b0, W (pref u v cc)] → fGo ds (.tuple [W (go as b0 (pref u v cc)).1, .int (go as b0 (pref u v cc)).2]) := fun hcc e => ⟨n, k, [b0], as, endsN n, b0, _, e, F, hb0, pref_wd wu wv _, by rw [pref_len u vn hcc]; omega, rfl⟩
  -- written
  refine s_asg (d := W (go as b0 (pref u v 12)).1) (ed_ix (ds := [W (go as b0 (pref u v 12)).1, .int (go as b0 (pref u v 12)).2]) (ed_call (ea_cons (ed_var rfl led4) (ea_cons (ed_var rfl (.i _)) (ea_cons (ed_pref (c := 12) (ed_var rfl las4) ed_int vn lu lv) ea_nil))) (hgo (by decide) rfl)) ed_int (atI0 _ _)) fun x8 H5 e5 h8 => ?_
  have wl1 := go_ge F ho1 _ hb0 (pref_wd wu wv 12)
  have wl2 := (go_ok F hb0 (pref_wd wu wv 12)).2
  have hwb := tb0 _ (pref_bgn u v 12)
  rw [pref_len u vn (by decide)] at wl1 wl2
  generalize (go as b0 (pref u v 12)).1 = wr at h8 wl1 wl2 hwb
  have hb5 : Bg H5 b c := hb.keep (((((e1.trans e2).trans e3).trans e4)).trans e5)
  have ex5 : Ex H H5 := (((e1.trans e2).trans e3).trans e4).trans e5
  have led5 := led4.keep (.ex e5)
  have las5 := las4.keep (.ex e5)
  have h75 := h74.keep (.ex e5)
  refine Evl.q_cut (M := fun σ' H' => ∃ z9, σ' = [some (.ref b), some (.int k), some (.int m), some x3, some x4, some (.int n), some (.int b0), some x7, some x8, z9, none, none, none, none, none, none, none, none, none, none, none, none, none, none, none] ∧ Bx b c H5 H' ∧ Bg H' b c) ?_ ?_
  · refine s_forI (b := b) (c := c) (eis_cons (ei_ed fun H6 e6 hb6 => ed_int) (eis_cons (ei_sub (ei_ed fun H6 e6 hb6 => ed_lenW (ed_var rfl (h8.keep (hb5.kp e6)))) (ei_ed fun H6 e6 hb6 => ed_int)) (eis_cons (ei_drawX rfl (fun H6 e6 hb6 => ed_lenW (ed_var rfl (h8.keep (hb5.kp e6)))) (by omega) (by omega)) eis_nil))) (by
      rintro _ ⟨y0, _, rfl, rfl, y1, _, rfl, ⟨q1, q2, rfl, rfl, rfl⟩, y2, _, rfl, h2, rfl⟩
      simp) hb5 (fun ns H6 i σ' H' => (∃ z9, σ' = [some (.ref b), some (.int k), some (.int m), some x3, some x4, some (.int n), some (.int b0), some x7, some x8, z9, none, none, none, none, none, none, none, none, none, none, none, none, none, none, none]) ∧ Ex H6 H') (fun ns H6 e6 hb6 hn => ⟨⟨_, rfl⟩, Ex.refl _⟩) (fun ns H6 i σ' H' h => h.2) ?_ ?_
    · rintro ns H6 i y vi σ' H' e6 hb6 hn hxi ⟨⟨z9, rfl⟩, e7⟩ rfl
      have hy : 0 ≤ y ∧ y < (wr.length : Int) := by
        have hm := List.mem_of_getElem? hxi
        obtain ⟨y0, _, rfl, rfl, y1, _, rfl, ⟨q1, q2, rfl, rfl, rfl⟩, y2, _, rfl, h2, rfl⟩ := hn
        simp only [List.mem_cons, List.not_mem_nil, or_false] at hm
        rcases hm with rfl | rfl | rfl <;> omega
      obtain ⟨j, rfl⟩ := Int.eq_ofNat_of_zero_le hy.1
      have kp7 := (hb5.kp e6).trans (.ex e7)
      refine s_ifF (eb_is (eb_not (b := true) (eb_B (ed_same (d := .int (lat tu tv j)) (ed_call (ea_cons (ed_var rfl (h75.keep kp7)) (ea_cons (ed_var rfl (.i _)) ea_nil)) ⟨tu, tv, j, rfl, tn0, rfl⟩) (ed_is (ed_ixW (i := j) (ed_var rfl (h8.keep kp7)) (ed_var rfl (.i _)) (by omega)) (congrArg PyData.int (hwb j (by omega)))) sh_int rfl))) rfl) fun H8 e8 => ?_
      exact ⟨⟨_, rfl⟩, e7.trans e8⟩
    · rintro ns H6 σ' H' e6 hb6 hn ⟨⟨z9, rfl⟩, e7⟩
      exact ⟨_, rfl, e6.trans (.ex e7), hb6.keep e7⟩
  rintro σ' H6 ⟨z9, rfl, bx6, hb6⟩
  have kp6 := hb5.kp bx6
  have led6 := led5.keep kp6
  have las6 := las5.keep kp6
  have h76 := h75.keep kp6
  -- letters
  refine s_asgM (em_new (el_sortedSet (ns := tv) (ed_ix (ds := [W tu, W tv]) (ed_call (ea_cons (ed_var rfl led6) (ea_cons (ed_var rfl (.i _)) (ea_cons (ed_var rfl las6) ea_nil))) (hthr rfl)) ed_int (atI_nat (j := 1) rfl)) (by omega))) fun x10 H7 e7 h10 => ?_
  refine s_asgN (ds := []) (el_lst ea_nil (by simp)) fun p H8 hp e8 hls => ?_
  have led8 := led6.keep (.ex (e7.trans e8))
  have las8 := las6.keep (.ex (e7.trans e8))
  refine Evl.q_cut (M := fun σ' H' => ∃ z12, σ' = [some (.ref b), some (.int k), some (.int m), some x3, some x4, some (.int n), some (.int b0), some x7, some x8, z9, some x10, some (.ref p), z12, none, none, none, none, none, none, none, none, none, none, none, none] ∧ Ex H7 H' ∧ LA H' (.ref p) ((sm v as).map .int)) ?_ ?_
  · refine s_forT (ds := as.map arcD) (ed_ix (ds := [.int n, W [b0], .tuple (as.map arcD), .tuple ((endsN n).map endD)]) (ed_var rfl led8) ed_int (atI_nat (j := 2) rfl)) (fun H9 i σ' H' => ∃ z12, σ' = [some (.ref b), some (.int k), some (.int m), some x3, some x4, some (.int n), some (.int b0), some x7, some x8, z9, some x10, some (.ref p), z12, none, none, none, none, none, none, none, none, none, none, none, none] ∧ Ex H7 H' ∧ Kp H9 H' ∧ LA H' (.ref p) ((sm v (as.take i)).map .int)) (fun H9 e9 => ⟨_, rfl, e8.trans e9, Kp.refl _, hls.keep e9⟩) (fun H9 i σ' H' ⟨_, _, _, e, _⟩ => e) ?_ ?_
    · rintro H9 i va d σ' H' e9 hd ⟨z12, rfl, e10, kp, hla⟩ hva
      obtain ⟨hx, rfl⟩ := map_get ⟨0, 0, [], 0⟩ hd
      have hmem := List.mem_of_getElem? hx
      generalize as.getD i ⟨0, 0, [], 0⟩ = a at hva hx hmem
      have las10 := (las6.keep (.ex e7)).keep (.ex e10)
      have hsl := sm_len (v := v) (as := as.take i) fun a ha => by have := ho3 a (List.mem_of_mem_take ha); omega
      rw [List.length_take] at hsl
      have hol := ho3 a hmem
      refine s_extT (i := 11) (es := (if a.l ∈ v then a.out else []).map .int) rfl hla (ed_if (eb_test (ed_inW (ed_ix (ds := [.int a.s, .int a.l, W a.out, .int a.g]) (ed_var rfl hva) ed_int (atI_nat (j := 1) rfl)) (ed_La1 (ed_var rfl las10)))) (fun h => ed_is (ed_ix (ds := [.int a.s, .int a.l, W a.out, .int a.g]) (ed_var rfl hva) ed_int (atI_nat (j := 2) rfl)) ?_) (fun h => ed_is (ed_tup ea_nil (by simp)) ?_)) ?_ fun H11 mu hla11 => ?_
      · rw [if_pos (of_decide_eq_true h)]
        rfl
      · rw [if_neg (of_decide_eq_false h)]
        rfl
      · rw [List.length_map, List.length_map]
        split
        · omega
        · simp
          omega
      · refine ⟨_, rfl, mu.ex e10 hp, kp.trans mu.2, ?_⟩
        rw [take_snoc hx, sm_snoc, List.map_append]
        exact hla11
    · rintro H9 σ' H' e9 ⟨z12, rfl, e10, kp, hla⟩
      rw [List.length_map, List.take_length] at hla
      exact ⟨_, rfl, e10, hla⟩
  rintro σ' H9 ⟨z12, rfl, e9, hla⟩
  have ex79 : Ex H6 H9 := e7.trans e9
  have led9 := led6.keep (.ex ex79)
  have las9 := las6.keep (.ex ex79)
  have h79 := h76.keep (.ex ex79)
  have h109 := h10.keep e9
  have slen := srtI_len tv
  have hall : ((srtI tv).map fun z => decide (z ∈ sm v as)).all id = true := by
    rw [List.all_map, List.all_eq_true]
    intro z hz
    obtain ⟨a, g1, g2, g3⟩ := tm0 z (mem_srtI.mp hz)
    exact decide_eq_true (sm_mem g1 g2 g3)
  refine s_ifF (eb_is (eb_or (a := false) (eb_is (a := !true) (eb_not (eb_B (ed_is (ed_all (bs := (srtI tv).map fun z => decide (z ∈ sm v as)) (el_is (el_lcM (ds := (srtI tv).map .int) (fun _ => true) (fun i => .bool (decide ((srtI tv).getD i 0 ∈ sm v as))) (em_var rfl h109) (by rw [List.length_map]; omega) (fun i vl d H12 e12 hd hvl Q2 q2 => ?_)) ?_)) (congrArg PyData.bool hall)))) rfl) (fun _ => eb_is (b := false) (eb_not (b := true) (eb_B (ed_same (d := W (srtI tv)) (ed_call (ea_cons (ed_var rfl h79) ea_nil) ⟨tu, tv, rfl, by omega, rfl⟩) (ed_tupM (em_var rfl h109)) sh_W (szd_W (by omega))))) rfl)) rfl) fun H12 e12 => ?_
  · obtain ⟨_, rfl⟩ := map_get 0 hd
    exact q2 _ rfl eb_yes fun _ => ed_inLI (ed_var rfl hvl) (em_var rfl (hla.keep e12))
  · rw [List.length_map]
    exact gd_bools (srtI tv) 0 fun z => decide (z ∈ sm v as)
  have led12 := led9.keep (.ex e12)
  have las12 := las9.keep (.ex e12)
  have h712 := h79.keep (.ex e12)
  refine Evl.q_cut (M := fun σ' H' => ∃ z14 z15 z16 z17, σ' = [some (.ref b), some (.int k), some (.int m), some x3, some x4, some (.int n), some (.int b0), some x7, some x8, z9, some x10, some (.ref p), z12, none, z14, z15, z16, z17, none, none, none, none, none, none, none] ∧ Ex H12 H') ?_ ?_
  · refine s_forM (ds := ([1, 2, 5] : List Nat).map fun (i : Nat) => .int (i : Int)) (em_new (el_lst (ea_cons ed_int (ea_cons ed_int (ea_cons ed_int ea_nil))) (by simp))) (fun H13 i σ' H' => (∃ z14 z15 z16 z17, σ' = [some (.ref b), some (.int k), some (.int m), some x3, some x4, some (.int n), some (.int b0), some x7, some x8, z9, some x10, some (.ref p), z12, none, z14, z15, z16, z17, none, none, none, none, none, none, none]) ∧ Ex H13 H' ∧ Ex H12 H') (fun H13 e13 => ⟨⟨_, _, _, _, rfl⟩, Ex.refl _, e13⟩) (fun H13 i σ' H' h => h.2.1) ?_ ?_
    · rintro H13 i vm d σ' H' e13 hd ⟨⟨z14, z15, z16, z17, rfl⟩, e14, e15⟩ hvm
      obtain ⟨hx, rfl⟩ := map_get 0 hd
      have hcc : ([1, 2, 5] : List Nat).getD i 0 ≤ 12 := by
        have := List.mem_of_getElem? hx
        simp only [List.mem_cons, List.not_mem_nil, or_false] at this
        omega
      generalize ([1, 2, 5] : List Nat).getD i 0 = cc at hvm hcc
      have hvm' := hvm.int_inv
      subst hvm'
      have led15 := led12.keep (.ex e15)
      have las15 := las12.keep (.ex e15)
      have h715 := h712.keep (.ex e15)
      have hpw := pref_wd wu wv cc
      have hgk := go_ok F hb0 hpw
      have hpl := pref_len u vn hcc
      rw [hpl] at hgk
      refine s_unp2 (d1 := W (go as b0 (pref u v cc)).1) (d2 := .int (go as b0 (pref u v cc)).2) (ed_call (ea_cons (ed_var rfl led15) (ea_cons (ed_var rfl (.i _)) (ea_cons (ed_pref (c := cc) (ed_var rfl las15) (ed_var rfl (.i _)) vn lu lv) ea_nil))) (hgo hcc rfl)) fun x15 x16 H16 e16 h15 h16 => ?_
      have led16 := led15.keep (.ex e16)
      have las16 := las15.keep (.ex e16)
      have hsb := shift_bound u vn cc
      obtain ⟨sw1, sw2⟩ := shift_wd wu wv vn cc
      have snn := shift_ne u vn cc
      refine s_asg (d := La (thr n as (go as b0 (pref u v cc)).2 (shift u v cc).1 (shift u v cc).2).1 (thr n as (go as b0 (pref u v cc)).2 (shift u v cc).1 (shift u v cc).2).2) (ed_call (ea_cons (ed_var rfl led16) (ea_cons (ed_var rfl h16) (ea_cons (ed_call (ea_cons (ed_var rfl las16) (ea_cons (ed_var rfl (.i _)) ea_nil)) ⟨u, v, cc, rfl, vn, by omega, by omega, rfl⟩) ea_nil))) ⟨n, k, [b0], as, endsN n, _, _, _, rfl, F, by omega, hgk.1, sw1, sw2, by omega, by omega, rfl⟩) fun x17 H17 e17 h17 => ?_
      have h717 := h715.keep (.ex (e16.trans e17))
      have h157 := h15.keep (.ex e17)
      have tl := thr_len F hgk.1 sw1 sw2
      have tnn := thr_ne F ho1 hgk.1 sw1 sw2 snn
      have hm1 : 4 * (shift u v cc).2.length * n ≤ 4 * 12 * 3 := Nat.mul_le_mul (by omega) n2
      have hsb2 := shift_bound tu tn0 (go as b0 (pref u v cc)).1.length
      have hre := tr0 cc hcc
      refine s_ifF (eb_is (eb_not (b := true) (eb_B (ed_same (d := La (shift tu tv (go as b0 (pref u v cc)).1.length).1 (shift tu tv (go as b0 (pref u v cc)).1.length).2) (ed_call (ea_cons (ed_var rfl h717) (ea_cons (ed_lenW (ed_var rfl h157)) ea_nil)) ⟨tu, tv, (go as b0 (pref u v cc)).1.length, rfl, tn0, by omega, by omega, rfl⟩) (ed_call (ea_cons (ed_var rfl h17) ea_nil) ⟨_, _, rfl, tnn, by omega, by omega, by rw [hre]⟩) sh_La (szd_La (by omega) (by omega))))) rfl) fun H18 e18 => ?_
      have led18 := led16.keep (.ex (e17.trans e18))
      have las18 := las16.keep (.ex (e17.trans e18))
      have h158 := h157.keep (.ex e18)
      refine s_ifF (eb_is (eb_not (b := true) (eb_B (ed_same (d := .tuple [W (go as b0 (pref u v cc)).1]) (ed_call (ea_cons (ed_var rfl led18) (ea_cons (ed_pref (c := cc) (ed_var rfl las18) (ed_var rfl (.i _)) vn lu lv) ea_nil)) ⟨n, k, b0, as, endsN n, pref u v cc, rfl, F, and, fun s hs => ends_all hs, ends_nodup, ends_empty, by omega, hag, hb0, hpw, by omega, rfl⟩) (ed_tup (ea_cons (ed_var rfl h158) ea_nil) (by simp)) (sh_tup fun d hd => ?_) (szd_of (by simp) fun d hd => ?_)))) rfl) fun H19 e19 => ?_
      · rw [List.mem_singleton.mp hd]
        exact sh_W
      · rw [List.mem_singleton.mp hd]
        exact szd_W (by omega)
      · have ee := ((e16.trans e17).trans e18).trans e19
        exact ⟨⟨_, _, _, _, rfl⟩, e14.trans ee, e15.trans ee⟩
    · rintro H13 σ' H' e13 ⟨⟨z14, z15, z16, z17, rfl⟩, e14, e15⟩
      exact ⟨_, _, _, _, rfl, e15⟩
  rintro σ' H13 ⟨z14, z15, z16, z17, rfl, e13⟩
  have led13 := led12.keep (.ex e13)
  have las13 := las12.keep (.ex e13)
  have stn : ∀ i : Nat, (i : Int) < (n : Int) → St n (i : Int) := fun i hi => ⟨by omega, hi⟩
  have hgoS : ∀ {ds : List WV.T} {i : Nat} {x : List Int}, (i : Int) < (n : Int) → Wd k x → x.length ≤ 1000 → ds = [ledD n [b0] as (endsN n), .int (i : Int), W x] → fGo ds (.tuple [W (go as (i : Int) x).1, .int (go as (i : Int) x).2]) := fun hi hx hl e => ⟨n, k, [b0], as, endsN n, _, _, e, F, stn _ hi, hx, hl, rfl⟩
  have gm : ∀ x : List Int, gd n (fun _ => true) (fun i => PyData.int (go as (i : Int) x).2) = (gmap n as x).map .int := fun x => by
    rw [gd_all]
    unfold gmap
    rw [List.map_map]
    rfl
  -- maps, own, into
  refine s_asg (d := .tuple (((List.range k).map fun (a : Nat) => gmap n as [(a : Int)]).map W)) (ed_tupL (el_is (el_lcR1 (n := (k : Nat)) (fun _ => true) (fun a => W (gmap n as [((a : Nat) : Int)])) (ea_cons (ed_var rfl (.i _)) ea_nil) (by omega) (fun x => rfl) (fun i H14 e14 hi => eb_yes) (fun a H14 e14 ha _ => ed_tupL (el_is (el_lcR1 (n := (n : Nat)) (fun _ => true) (fun i => .int (go as ((i : Nat) : Int) [((a : Nat) : Int)]).2) (ea_cons (ed_var rfl (.i _)) ea_nil) (by omega) (fun x => rfl) (fun i H15 e15 hi => eb_yes) (fun i H15 e15 hi _ => ed_ix (ds := [W (go as ((i : Nat) : Int) [((a : Nat) : Int)]).1, .int (go as ((i : Nat) : Int) [((a : Nat) : Int)]).2]) (ed_call (ea_cons (ed_var rfl (led13.keep (.ex (e14.trans e15)))) (ea_cons (ed_var rfl (.i _)) (ea_cons (ed_tup (ea_cons (ed_var rfl (.i _)) ea_nil) (by simp)) ea_nil))) (hgoS hi (fun l hl => ?_) (by simp) rfl)) ed_int (atI_nat (j := 1) rfl))) ?_))) ?_)) fun x18 H14 e14 h18 => ?_
  · rw [List.mem_singleton.mp hl]
    exact ⟨by omega, ha⟩
  · rw [Int.toNat_natCast]
    exact gm _
  · rw [Int.toNat_natCast, gd_all, List.map_map]
    rfl
  have led14 := led13.keep (.ex e14)
  have las14 := las13.keep (.ex e14)
  refine s_asg (d := W (gmap n as v)) (ed_tupL (el_is (el_lcR1 (n := (n : Nat)) (fun _ => true) (fun i => .int (go as ((i : Nat) : Int) v).2) (ea_cons (ed_var rfl (.i _)) ea_nil) (by omega) (fun x => rfl) (fun i H15 e15 hi => eb_yes) (fun i H15 e15 hi _ => ed_ix (ds := [W (go as ((i : Nat) : Int) v).1, .int (go as ((i : Nat) : Int) v).2]) (ed_call (ea_cons (ed_var rfl (led14.keep (.ex e15))) (ea_cons (ed_var rfl (.i _)) (ea_cons (ed_La1 (ed_var rfl (las14.keep (.ex e15)))) ea_nil))) (hgoS hi wv (by omega) rfl)) ed_int (atI_nat (j := 1) rfl))) (by rw [Int.toNat_natCast]; exact gm v))) fun x20 H15 e15 h20 => ?_
  have led15 := led14.keep (.ex e15)
  have las15 := las14.keep (.ex e15)
  refine s_asg (d := W (gmap n as u)) (ed_tupL (el_is (el_lcR1 (n := (n : Nat)) (fun _ => true) (fun i => .int (go as ((i : Nat) : Int) u).2) (ea_cons (ed_var rfl (.i _)) ea_nil) (by omega) (fun x => rfl) (fun i H16 e16 hi => eb_yes) (fun i H16 e16 hi _ => ed_ix (ds := [W (go as ((i : Nat) : Int) u).1, .int (go as ((i : Nat) : Int) u).2]) (ed_call (ea_cons (ed_var rfl (led15.keep (.ex e16))) (ea_cons (ed_var rfl (.i _)) (ea_cons (ed_La0 (ed_var rfl (las15.keep (.ex e16)))) ea_nil))) (hgoS hi wu (by omega) rfl)) ed_int (atI_nat (j := 1) rfl))) (by rw [Int.toNat_natCast]; exact gm u))) fun x21 H16 e16 h21 => ?_
  have led16 := led15.keep (.ex e16)
  have las16 := las15.keep (.ex e16)
  have h186 := h18.keep (.ex (e15.trans e16))
  have h206 := h20.keep (.ex e16)
  have hmp := gmap_ok F wv
  have hmpu := gmap_ok F wu
  have hms : ∀ mm ∈ (List.range k).map fun (a : Nat) => gmap n as [(a : Int)], Mp n mm := fun mm hmm => by
    obtain ⟨a, ha, rfl⟩ := List.mem_map.mp hmm
    rw [List.mem_range] at ha
    exact gmap_ok F fun l hl => by
      rw [List.mem_singleton.mp hl]
      exact ⟨by omega, by omega⟩
  have hmo : ∀ {ds : List WV.T} {x : List Int}, Wd k x → ds = [.int n, .tuple (((List.range k).map fun (a : Nat) => gmap n as [(a : Int)]).map W), W x] → fMapOf ds (W (gmap n as x)) := fun {ds x} hx e => ⟨n, _, x, e, by omega, hms, by rw [List.length_map, List.length_range]; exact hx, by rw [mpw_gmap F _ x rfl hx]⟩
  refine s_asg (d := .tuple [.none, W (gmap n as v), W (gmap n as u)]) (ed_tup (ea_cons (ed_call (ea_cons (ed_var rfl (.i _)) (ea_cons (ed_var rfl (.i _)) (ea_cons (ed_var rfl h186) ea_nil))) ⟨n, k, _, rfl, by simp, by omega, by omega, hms, rfl⟩) (ea_cons (ed_call (ea_cons (ed_var rfl (.i _)) (ea_cons (ed_var rfl h186) (ea_cons (ed_La1 (ed_var rfl las16)) ea_nil))) (hmo wv rfl)) (ea_cons (ed_callK3 (fun _ _ _ => rfl) (ed_La0 (ed_var rfl las16)) (ed_var rfl h186) (ed_var rfl (.i _)) (hmo wu rfl)) ea_nil))) (by simp)) fun y7 H17 e17 hy7 => ?_
  have h207 := h206.keep (.ex e17)
  have h217 := h21.keep (.ex e17)
  refine s_ifF (eb_is (eb_not (b := true) (eb_B (ed_same (ed_var rfl hy7) (ed_tup (ea_cons ed_non (ea_cons (ed_var rfl h207) (ea_cons (ed_var rfl h217) ea_nil))) (by simp)) (sh_tup fun d hd => ?_) (szd_of (by simp) fun d hd => ?_)))) rfl) fun H18 e18 => ?_
  · simp only [List.mem_cons, List.not_mem_nil, or_false] at hd
    rcases hd with rfl | rfl | rfl
    · exact sh_none
    · exact sh_W
    · exact sh_W
  · simp only [List.mem_cons, List.not_mem_nil, or_false] at hd
    rcases hd with rfl | rfl | rfl
    · rfl
    · exact szd_W (by rw [gmap_len]; omega)
    · exact szd_W (by rw [gmap_len]; omega)
  have led18 := led16.keep (.ex (e17.trans e18))
  have las18 := las16.keep (.ex (e17.trans e18))
  have h208 := h207.keep (.ex e18)
  have h218 := h217.keep (.ex e18)
  have hb0n : b0.toNat < n := by
    have h1 := hb0.1
    have h2 := hb0.2
    omega
  refine s_parDN (d := .int (go as b0 u).2) (ds := [W (gmap n as v)]) (ed_is (ed_ixW (i := b0.toNat) (ed_var rfl h218) (ed_is (ed_var rfl (.i _)) (congrArg PyData.int (Int.toNat_of_nonneg hb0.1).symm)) (by rw [gmap_len]; exact hb0n)) (congrArg PyData.int (gmap_get hb0 u))) (el_lst (ea_cons (ed_var rfl h208) ea_nil) (by simp)) fun x22 pp H19 hpp e19 h22 hlpp => ?_
  have h209 := h208.keep (.ex e19)
  obtain ⟨mm1, mm2, mm3⟩ := per_P hmp
  obtain ⟨a1, a2, a3⟩ := pre_P hmp
  have hN := NM_le n2
  have hPok := Pw_ok hmp
  have hPs : ∀ j, Pw (gmap n as v) (j + 1) = tm (Pw (gmap n as v) j) (gmap n as v) := fun j => rfl
  have hP0 : Pw (gmap n as v) 0 = gmap n as v := rfl
  have hhit0 : hit (Pw (gmap n as v)) 0 = false := rfl
  have hper1 : 1 ≤ per (Pw (gmap n as v)) (NM n) := by omega
  -- tuple([own[i] for i in powers[-1]])
  have next : ∀ {H' : Hp} {σ : L2.St} {i : Nat} (hw : ∀ x, wipe ((wipe σ [9]).set 9 (some x)) [9] = wipe σ [9]) (h23 : σ[23]? = some (some (.ref pp))) (h20' : ∀ x, ((wipe σ [9]).set 9 (some x))[20]? = some (some x20)) (hi9 : ∀ x, ((wipe σ [9]).set 9 (some x))[9]? = some (some x)), Td H' x20 (W (gmap n as v)) → LA H' (.ref pp) (((List.range (i + 1)).map (Pw (gmap n as v))).map W) →
      ED (tCB (fun xs H Q => ∃ p ys, xs = [.ref p] ∧ ((SqL K H p ys ∧ ∀ l, H l = none → Q (.ref l) (upd H l (.tup ys))) ∨ (SqT K H p ys ∧ Q (.ref p) H))) (tCons (tLc (iSeq K (tOp (rIx K) (tVar 23) (tUn (L2.rU fun i => .int (-i)) (tC (.int 1))))) (gName 9) tYes (tOp (rIx K) (tVar 20) (tVar 9)) [9]) tNil)) σ H' (W (Pw (gmap n as v) (i + 1))) := fun {H' σ i} hw h23 h20' hi9 ho hlp => by
    have hlen := (hPok i).1
    refine ed_tupL (el_is (el_lcT (ds := (Pw (gmap n as v) i).map .int) (fun _ => true) (fun j => .int ((gmap n as v).getD ((Pw (gmap n as v) i).getD j 0).toNat 0)) (ed_ixM (em_var h23 hlp) ed_m1 (atI_neg1 (by simp [W]))) (by rw [List.length_map, hlen]; omega) (fun j x d H1 e1 hd hx Q2 q2 => ?_)) ?_)
    · obtain ⟨hxx, rfl⟩ := map_get 0 hd
      have hst := (hPok i).2 _ (List.mem_of_getElem? hxx)
      refine q2 _ (hw _) eb_yes fun _ => ed_ixW (i := ((Pw (gmap n as v) i).getD j 0).toNat) (ed_var (h20' _) (ho.keep (.ex e1))) (ed_is (ed_var (hi9 _) hx) (congrArg PyData.int (Int.toNat_of_nonneg hst.1).symm)) (by rw [gmap_len]; omega)
    · rw [hPs]
      exact gd_mapW (Pw (gmap n as v) i) fun z => (gmap n as v).getD z.toNat 0
  refine Evl.q_cut (M := fun σ' H' => ∃ z24 : Unit, σ' = [some (.ref b), some (.int k), some (.int m), some x3, some x4, some (.int n), some (.int b0), some y7, some x8, z9, some x10, some (.ref p), z12, none, z14, z15, z16, z17, some x18, none, some x20, some x21, some x22, some (.ref pp), none] ∧ Ex H18 H' ∧ LA H' (.ref pp) (((List.range (per (Pw (gmap n as v)) (NM n))).map (Pw (gmap n as v))).map W)) ?_ ?_
  · refine Evl.s_while (fun μ σ' H' => ∃ i, μ = NM n - i ∧ i + 1 ≤ per (Pw (gmap n as v)) (NM n) ∧ σ' = [some (.ref b), some (.int k), some (.int m), some x3, some x4, some (.int n), some (.int b0), some y7, some x8, z9, some x10, some (.ref p), z12, none, z14, z15, z16, z17, some x18, none, some x20, some x21, some x22, some (.ref pp), none] ∧ Ex H18 H' ∧ LA H' (.ref pp) (((List.range (i + 1)).map (Pw (gmap n as v))).map W)) (NM n) ⟨0, by omega, hper1, rfl, e19, hlpp⟩ ?_
    rintro μ σ' H' ⟨i, rfl, hi, rfl, e20, hlp⟩
    have h20x := h208.keep (.ex e20)
    refine ⟨!hit (Pw (gmap n as v)) (i + 1), eb_is (eb_test (ed_niM (next (fun x => rfl) rfl (fun x => rfl) (fun x => rfl) h20x hlp) (em_var rfl hlp) (sh_W (n := 0)).ok (sh_map fun x => sh_W (n := 0)).ok)) ?_, fun hc H21 e21 => ?_, fun hc H21 e21 => ?_⟩
    · rw [any_W]
      congr 1
      rw [Bool.eq_iff_iff, decide_eq_true_eq]
      exact mem_P
    · have hc : hit (Pw (gmap n as v)) (i + 1) = false := by simpa using hc
      have hlt : i + 1 < per (Pw (gmap n as v)) (NM n) := by
        rcases Nat.lt_or_ge (i + 1) (per (Pw (gmap n as v)) (NM n)) with h | h
        · exact h
        · have : i + 1 = per (Pw (gmap n as v)) (NM n) := by omega
          rw [this, mm2] at hc
          cases hc
      refine ⟨_, fun σ2 H4 h => h, ?_⟩
      refine s_appG (i := 23) rfl (hlp.keep e21) (next (fun x => rfl) rfl (fun x => rfl) (fun x => rfl) (h20x.keep (.ex e21)) (hlp.keep e21)) (by simp; omega) fun H22 mu hlp22 => ?_
      refine ⟨NM n - (i + 1), by omega, i + 1, rfl, by omega, rfl, mu.ex (e20.trans e21) hpp, ?_⟩
      rw [List.range_succ (n := i + 1), List.map_append, List.map_append]
      exact hlp22
    · have hc : hit (Pw (gmap n as v)) (i + 1) = true := by simpa using hc
      have : i + 1 = per (Pw (gmap n as v)) (NM n) := by
        rcases Nat.lt_or_ge (i + 1) (per (Pw (gmap n as v)) (NM n)) with h | h
        · rw [mm3 _ h] at hc
          cases hc
        · omega
      rw [this] at hlp
      exact ⟨(), rfl, e20.trans e21, hlp.keep e21⟩
  rintro σ' H20 ⟨_, rfl, e20, hlp⟩
  obtain ⟨ii, hii⟩ : ∃ ii, per (Pw (gmap n as v)) (NM n) = ii + 1 := ⟨_, (Nat.sub_add_cancel hper1).symm⟩
  have led20 := led18.keep (.ex e20)
  have las20 := las18.keep (.ex e20)
  have h2020 := h208.keep (.ex e20)
  have h2220 : x22 = .int (go as b0 u).2 := h22.int_inv
  subst h2220
  have hlp' := hlp
  rw [hii] at hlp'
  refine s_asg (d := .int ((pre (Pw (gmap n as v)) (NM n) + 1 : Nat) : Int)) (ed_is (ed_addI (ed_indexM (em_var rfl hlp) (next (i := ii) (fun x => rfl) rfl (fun x => rfl) (fun x => rfl) h2020 hlp') (sh_map fun x => sh_W (n := 0)).ok (sh_W (n := 0)).ok (j := pre (Pw (gmap n as v)) (NM n)) (z := W (Pw (gmap n as v) (pre (Pw (gmap n as v)) (NM n)))) ?_ ?_ ?_) ed_int) (by simp)) fun x19 H21 e21 h19 => ?_
  · rw [List.getElem?_map, List.getElem?_map, List.getElem?_range (by omega)]
    rfl
  · rw [eqv_W, ← hii, a2]
    simp
  · intro j z' hj hz'
    rw [List.getElem?_map, List.getElem?_map, List.getElem?_range (by omega)] at hz'
    cases hz'
    rw [eqv_W, ← hii]
    exact decide_eq_false (a3 j hj)
  have h19' := h19.int_inv
  subst h19'
  have h2021 := h2020.keep (.ex e21)
  have hlp21 := hlp.keep e21
  have hRd : ∀ {ds : List WV.T}, ds = [W (gmap n as v)] → fRound ds (.tuple [.int (pre (Pw (gmap n as v)) (NM n) + 1 : Nat), .int (per (Pw (gmap n as v)) (NM n) - pre (Pw (gmap n as v)) (NM n) : Nat)]) := fun e => ⟨n, _, e, hmp, n2, rfl⟩
  refine s_ifF (eb_is (eb_not (b := true) (eb_B (ed_same (d := .tuple [.tuple [.int (pre (Pw (gmap n as v)) (NM n) + 1 : Nat), .int (per (Pw (gmap n as v)) (NM n) - pre (Pw (gmap n as v)) (NM n) : Nat)], .tuple [.int (pre (Pw (gmap n as v)) (NM n) + 1 : Nat), .int (per (Pw (gmap n as v)) (NM n) - pre (Pw (gmap n as v)) (NM n) : Nat)]]) (ed_2 (ed_call (ea_cons (ed_var rfl h2021) ea_nil) (hRd rfl)) (ed_callK1 (fun _ => rfl) (ed_var rfl h2021) (hRd rfl))) (ed_rep (k := 2) (ds := [.tuple [.int (pre (Pw (gmap n as v)) (NM n) + 1 : Nat), .int (per (Pw (gmap n as v)) (NM n) - pre (Pw (gmap n as v)) (NM n) : Nat)]]) (ed_tup (ea_cons (ed_2 (ed_var rfl (.i _)) (ed_is (ed_addI (ed_subI (ed_lenM (em_var rfl hlp21)) (ed_var rfl (.i _))) ed_int) ?_)) ea_nil) (by simp)) ed_int (by simp) (by decide) (by simp)) (sh_2 (sh_2 sh_int sh_int) (sh_2 sh_int sh_int)) (szd_2 (szd_2 rfl rfl) (szd_2 rfl rfl))))) rfl) fun H22 e22 => ?_
  · rw [List.length_map, List.length_map, List.length_range]
    congr 1
    omega
  have led22 := led20.keep (.ex (e21.trans e22))
  have las22 := las20.keep (.ex (e21.trans e22))
  have hlp22 := hlp21.keep e22
  have hgp := go_pow F hb0 wu wv
  refine Evl.q_cut (M := fun σ' H' => Ex H22 H') ?_ ?_
  · refine s_forM (ds := [pre (Pw (gmap n as v)) (NM n) + 1, per (Pw (gmap n as v)) (NM n) + 1].map fun (i : Nat) => .int (i : Int)) (em_new (el_lst (ea_cons (ed_var rfl (.i _)) (ea_cons (ed_is (ed_addI (ed_subI (ed_addI (ed_var rfl (.i _)) (ed_lenM (em_var rfl hlp22))) (ed_var rfl (.i _))) ed_int) ?_) ea_nil)) (by simp))) (fun H23 i σ' H' => (∃ z24, σ' = [some (.ref b), some (.int k), some (.int m), some x3, some x4, some (.int n), some (.int b0), some y7, some x8, z9, some x10, some (.ref p), z12, none, z14, z15, z16, z17, some x18, some (.int (pre (Pw (gmap n as v)) (NM n) + 1 : Nat)), some x20, some x21, some (.int (go as b0 u).2), some (.ref pp), z24]) ∧ Ex H23 H' ∧ Ex H22 H') (fun H23 e23 => ⟨⟨_, rfl⟩, Ex.refl _, e23⟩) (fun H23 i σ' H' h => h.2.1) ?_ (fun H23 σ' H' e23 h => h.2.2)
    · rw [List.length_map, List.length_map, List.length_range]
      congr 1
      omega
    · rintro H23 i vt d σ' H' e23 hd ⟨⟨z24, rfl⟩, e24, e25⟩ hvt
      obtain ⟨hx, rfl⟩ := map_get 0 hd
      have htt : ∃ j, [pre (Pw (gmap n as v)) (NM n) + 1, per (Pw (gmap n as v)) (NM n) + 1].getD i 0 = j + 1 ∧ j ≤ 27 ∧ Pw (gmap n as v) j = Pw (gmap n as v) (pre (Pw (gmap n as v)) (NM n)) := by
        have := List.mem_of_getElem? hx
        simp only [List.mem_cons, List.not_mem_nil, or_false] at this
        rcases this with e | e
        · exact ⟨_, e, by omega, rfl⟩
        · exact ⟨_, e, by omega, a2.symm⟩
      generalize [pre (Pw (gmap n as v)) (NM n) + 1, per (Pw (gmap n as v)) (NM n) + 1].getD i 0 = tt at hvt htt
      obtain ⟨j, rfl, hj, hPj⟩ := htt
      have led25 := led22.keep (.ex e25)
      have las25 := las22.keep (.ex e25)
      have hlp25 := hlp22.keep e25
      have hrl : (u ++ repI (j + 1) v).length ≤ 1000 := by
        rw [List.length_append, repI_length]
        have := Nat.mul_le_mul (show j + 1 ≤ 28 by omega) lv
        omega
      have hst := go_ok F hb0 wu
      refine s_ifF (eb_is (eb_test (ed_neI (ed_ix (ds := [W (go as b0 (u ++ repI (j + 1) v)).1, .int (go as b0 (u ++ repI (j + 1) v)).2]) (ed_call (ea_cons (ed_var rfl led25) (ea_cons (ed_var rfl (.i _)) (ea_cons (ed_catW (ed_La0 (ed_var rfl las25)) (ed_repW (k := j + 1) (ed_La1 (ed_var rfl las25)) (ed_var rfl hvt) vn ⟨by omega, by omega⟩ (by omega)) (by rw [List.length_append] at hrl; omega)) ea_nil))) ⟨n, k, [b0], as, endsN n, b0, _, rfl, F, hb0, fun l hl => ?_, hrl, rfl⟩) ed_int (atI_nat (j := 1) rfl)) (ed_ixW (i := (go as b0 u).2.toNat) (v := Pw (gmap n as v) (pre (Pw (gmap n as v)) (NM n))) (ed_ixM (em_var rfl hlp25) (ed_is (d2 := .int ((pre (Pw (gmap n as v)) (NM n) : Nat) : Int)) (ed_subI (ed_var rfl (.i _)) ed_int) (by congr 1; omega)) (atI_nat ?_)) (ed_is (ed_var rfl (.i _)) (congrArg PyData.int (Int.toNat_of_nonneg hst.1.1).symm)) ?_))) ?_) fun H26 e26 => ?_
      · rcases List.mem_append.mp hl with h | h
        · exact wu l h
        · exact wv l (repI_mem h)
      · rw [List.getElem?_map, List.getElem?_map, List.getElem?_range (by omega)]
        rfl
      · rw [(hPok _).1]
        have h1 := hst.1.1
        have h2 := hst.1.2
        omega
      · rw [hgp j, hPj]
        simp
      · exact ⟨⟨_, rfl⟩, e24.trans e26, e25.trans e26⟩
  · rintro σ' H23 e23
    have ee : Ex H6 H23 := ((((((((((ex79.trans e12).trans e13).trans e14).trans e15).trans e16).trans e17).trans e18).trans e20).trans e21).trans e22).trans e23
    exact s_ret ed_bl fun r H24 e24 hr' => q r H24 (((Bx.ex ex5).trans bx6).trans (.ex (ee.trans e24))) (hb6.keep (ee.trans e24)) hr'
end K23
set_option maxRecDepth 100000
set_option maxHeartbeats 4000000
/-! repr of data; a def run where nothing is being shown; the law's call there. -/
namespace K23
open PySem PySem.Spec PyProof.Rows L2 WV
open Evl (Ex Ev)
/-- repr(tuple or list), nothing being shown around -/
def rReprD (K : PySem.W.Frag) : List V → Hp → VK → Prop := fun xs H Q => ∃ a d, xs = [.ref a] ∧ Dp K H (.ref a) d ∧ d.showable = true ∧ d.hasDict = false ∧ PyData.depth d ≤ 60 ∧ d.shown.length ≤ sizeLine ∧ Q (.str d.shown) H
theorem call_reprD {X : Cx} (hg : X.A.guards = some []) (hu : X.A.units + 64 < cLine) : CallR X (.builtin "repr") (rReprD X.K) := by
  intro pins s σ H xs us Q I r h
  obtain ⟨a, d, rfl, hd, h1, h2, h3, h4, q⟩ := h
  obtain ⟨u, rfl, rx⟩ := vals1 r
  cases rx
  obtain ⟨as, r1⟩ := Dp.reads I d (.ref a) (.ref a) hd rfl
  exact repr_of_reads' r1 h1 (PyData.noDict_hsm h2) hg (by omega) (fun _ _ e => e) (fun h' u tk hk => ⟨.str d.shown, H, I.kept (t' := tk) hk, ⟨_, rfl⟩, q⟩) h4
mutual
/-- small ints, tuples and lists of such; a bound of the text -/
def dg : WV.T → Bool
  | .int x => decide (0 ≤ x) && decide (x < 10000)
  | .tuple ds => dgs ds
  | .list ds => dgs ds
  | _ => false
def dgs : List WV.T → Bool
  | [] => true
  | d :: ds => dg d && dgs ds
end
mutual
def wb : WV.T → Nat
  | .tuple ds => wbs ds + 3
  | .list ds => wbs ds + 3
  | _ => 4
def wbs : List WV.T → Nat
  | [] => 0
  | d :: ds => wb d + 2 + wbs ds
end
theorem textFrom_le : ∀ (ts : List Str) (k : Nat) (acc : Str), (textFrom k acc ts).length ≤ acc.length + piled ts
  | [], k, acc => Nat.le_add_right _ _
  | t :: ts, k, acc => by
    have ih := textFrom_le ts (k + 1) (acc ++ (if k > 0 then ", " else "" : String) ++ t)
    have e : (acc ++ (if k > 0 then ", " else "" : String) ++ t).length ≤ acc.length + 2 + t.length := by
      rw [strLen_append, strLen_append]
      split
      · exact Nat.le_refl _
      · show acc.length + 0 + t.length ≤ _
        omega
    rw [piled_cons]
    show (textFrom (k + 1) (acc ++ (if k > 0 then ", " else "" : String) ++ t) ts).length ≤ _
    omega
theorem listText_le (ts : List Str) : (listText ts).length ≤ piled ts + 2 := by
  have h := textFrom_le ts 0 "["
  have e : (listText ts).length = (textFrom 0 "[" ts).length + 1 := by
    show (textFrom 0 "[" ts ++ "]").length = _
    rw [strLen_append]
    rfl
  have e2 : ("[" : Str).length = 1 := rfl
  omega
theorem tupleText_le (ts : List Str) : (tupleText ts).length ≤ piled ts + 3 := by
  unfold tupleText
  rw [strLen_append, strLen_append]
  have h1 : ("(" : Str).length = 1 := rfl
  have h2 : ((if ts.length == 1 then ",)" else ")" : String) : Str).length ≤ 2 := by
    split <;> decide
  have h3 : (Str.join ", " ts).length ≤ piled ts := by
    by_cases h : ts = []
    · subst h
      exact Nat.le_refl _
    · have := join_length_add ts h
      omega
  omega
mutual
theorem shown_le : ∀ d : WV.T, dg d = true → d.showable = true ∧ d.hasDict = false ∧ d.shown.length ≤ wb d
  | .int x, h => by
    simp only [dg, Bool.and_eq_true, decide_eq_true_eq] at h
    refine ⟨?_, by simp [PyData.hasDict], ?_⟩
    · simp only [PyData.showable, decide_eq_true_eq]
      have h1 : x.natAbs < 2 ^ 14 := by omega
      have h2 : x.natAbs.log2 < 14 := by
        by_cases h0 : x.natAbs = 0
        · rw [h0]
          decide
        · exact (Nat.log2_lt h0).mpr h1
      omega
    · simp only [PyData.shown, wb]
      exact toString_length_le h.1 (by decide) (by omega)
  | .tuple ds, h => by
    simp only [dg] at h
    obtain ⟨h1, h2, h3⟩ := shownAll_le ds h
    refine ⟨by simpa [PyData.showable] using h1, by simpa [PyData.hasDict] using h2, ?_⟩
    simp only [PyData.shown, wb]
    have := tupleText_le (PyData.shownAll ds)
    omega
  | .list ds, h => by
    simp only [dg] at h
    obtain ⟨h1, h2, h3⟩ := shownAll_le ds h
    refine ⟨by simpa [PyData.showable] using h1, by simpa [PyData.hasDict] using h2, ?_⟩
    simp only [PyData.shown, wb]
    have := listText_le (PyData.shownAll ds)
    omega
  | .none, h => by simp [dg] at h
  | .bool _, h => by simp [dg] at h
  | .str _, h => by simp [dg] at h
  | .dict _, h => by simp [dg] at h
theorem shownAll_le : ∀ ds : List WV.T, dgs ds = true → PyData.showableAll ds = true ∧ PyData.hasDictAll ds = false ∧ piled (PyData.shownAll ds) ≤ wbs ds
  | [], _ => ⟨by simp [PyData.showableAll], by simp [PyData.hasDictAll], by simp [PyData.shownAll, piled_nil, wbs]⟩
  | d :: ds, h => by
    simp only [dgs, Bool.and_eq_true] at h
    obtain ⟨a1, a2, a3⟩ := shown_le d h.1
    obtain ⟨b1, b2, b3⟩ := shownAll_le ds h.2
    refine ⟨by simp [PyData.showableAll, a1, b1], by simp [PyData.hasDictAll, a2, b2], ?_⟩
    simp only [PyData.shownAll, wbs]
    rw [piled_cons]
    omega
end
theorem dgs_of : ∀ {ds : List WV.T}, (∀ d ∈ ds, dg d = true) → dgs ds = true
  | [], _ => rfl
  | d :: ds, h => by
    simp only [dgs, Bool.and_eq_true]
    exact ⟨h d (by simp), dgs_of fun x hx => h x (List.mem_cons_of_mem _ hx)⟩
theorem dg_tup {ds : List WV.T} (h : ∀ d ∈ ds, dg d = true) : dg (.tuple ds) = true := by
  simp only [dg]
  exact dgs_of h
theorem dg_lst {ds : List WV.T} (h : ∀ d ∈ ds, dg d = true) : dg (.list ds) = true := by
  simp only [dg]
  exact dgs_of h
theorem dg_int {x : Int} (h : 0 ≤ x) (h2 : x < 10000) : dg (.int x) = true := by simp [dg, h, h2]
theorem dg_W {k : Nat} {ws : List Int} (h : Wd k ws) (hk : k ≤ 10000) : dg (W ws) = true := dg_tup fun d hd => by
  obtain ⟨x, hx, rfl⟩ := List.mem_map.mp hd
  exact dg_int (h x hx).1 (by have := (h x hx).2; omega)
theorem wbs_le {c : Nat} : ∀ {ds : List WV.T}, (∀ d ∈ ds, wb d ≤ c) → wbs ds ≤ (c + 2) * ds.length
  | [], _ => by simp [wbs]
  | d :: ds, h => by
    have h1 := h d (by simp)
    have h2 := wbs_le (ds := ds) fun x hx => h x (List.mem_cons_of_mem _ hx)
    simp only [wbs, List.length_cons, Nat.mul_succ]
    omega
theorem wb_W (ws : List Int) : wb (W ws) ≤ 6 * ws.length + 3 := by
  have := wbs_le (c := 4) (ds := ws.map PyData.int) fun d hd => by
    obtain ⟨x, _, rfl⟩ := List.mem_map.mp hd
    simp [wb]
  rw [List.length_map] at this
  simp only [W, wb]
  omega
section
variable {P : Program} {w : World} {K : PySem.W.Frag} {mg : Str → Option Value} {base : Heap}
/-- a def's run at one place -/
theorem run_at {A : Around} {x qual : Str} {st : Stmt} {f : Addr} {fd : FuncData} {N ps : List Str} {k : Nat} {sp : Sp} (F : Fun K x qual st f fd) (S : FnScope N ps (defScope st)) (len : ∀ vs H Q E, sp vs H Q E → vs.length = ps.length)
    (hbody : ∀ (cdv : Value) (outer : List Env) (s : Shared) (H : Hp) (vs : List V) (Q : VK) (E : XK), Room k (A.deeper (envOfC qual (defScope st) s.heap.objs.size f cdv)) → sp vs H Q E →
      ∃ t, PSs (cxOf CX0 P w K mg base N qual (defScope st) f cdv A outer s H E).nox (defBody st) t ∧ t { nx := fun _ H' => Q .non H', rt := Q } (start N vs) H)
    (outer : List Env) (s : Shared) (H : Hp) (args : Args) (us : List Value) (vs : List V) (Q : VK) (E : XK) (hr : Room (k + 1) A) (e0 : Env0 P w K mg base A outer s H) (hb : BindsTo s fd args (ps.zip us)) (r : Vals vs us) (hsp : sp vs H Q E) :
    codeAny (model P w) A (.call (.ref f) args) (CR CX0 outer P w H s Q E) s := by
  obtain ⟨oc, od, kV, doc, pm, an, cdv, ct, osl, rfl, lk, hcd⟩ := F.ex
  have hl := len _ _ _ _ hsp
  have old : ∀ b o, base.get? b = some o → s.heap.get? b = some o := fun b o e => (e0.bs b o e).1
  have KX : K.In s.heap := e0.mod.kin.keeps old
  have kinds : ∀ y ∈ ps.zip us, (defScope st).names.lookup y.1 = some .local ∨ ((defScope st).names.lookup y.1 = some .cell ∧ ((cellsFrom (s.heap.objs.size + 1) (defScope st).names []).lookup y.1).isSome = true) := fun y hy => by
    rcases S.par y.1 (List.of_mem_zip (show (y.1, y.2) ∈ ps.zip us from hy)).1 with q | q
    · exact .inl q
    · exact .inr ⟨q, PySem.W.cellsFrom_some _ _ _ (.inl q)⟩
  refine codeAny_call_function hr.depth (KX _ _ lk) rfl S.co S.gen rfl (PySem.W.codeRec_of KX hcd) (hb _ _ _ _ (wpAny_newFunctionEnv_cells S.kind kinds fun env he s1 x => ?_))
  subst he
  refine ⟨(e0.mod.nolimit.keeps old).keeps x.toInCall.keep, codeAny_func ?_⟩
  obtain ⟨t, ht, hq⟩ := hbody cdv outer s H vs Q E (hr.deeper _) hsp
  have I : Inv (cxOf CX0 P w K mg base N qual (defScope st) f cdv A outer s H E) [] (start N vs) H s1 := inv_start S hr.hd e0 hl r x
  have fin : ∀ {s' : Shared} {σ' : L2.St} {H' : Hp} {v : V} {u : Value}, Inv (cxOf CX0 P w K mg base N qual (defScope st) f cdv A outer s H E) [] σ' H' s' → RelV v u → Q v H' → CE outer P w H s Q u s' := fun {s' σ' H' v u} J rv q => ⟨v, H', J.os, J.bare, J.base, J.hok, rv, q⟩
  refine wpAny_mono (ht.nox.run [] s1 (start N vs) H _ I hq) (fun fl s' hs => ?_) fun e s' hs => hs
  cases fl with
  | ret u =>
    obtain ⟨v, σ', H', J, rv, q⟩ := hs
    exact fin J rv q
  | next =>
    obtain ⟨σ', H', J, q⟩ := hs
    exact fin (v := V.non) (u := Value.none) J rfl q
  | brk =>
    obtain ⟨_, _, _, z⟩ := hs
    exact False.elim z
  | cont =>
    obtain ⟨_, _, _, z⟩ := hs
    exact False.elim z
/-- the heap that tracks the script alone -/
def onlyS (K : PySem.W.Frag) (a : Addr) (vs : List Value) (ns : List Int) : Hp := fun b => if b = a ∧ K.lookup a = none then some (.frz { cls := .type "list", data := .seq vs.toArray } (.lst (ns.map V.int))) else none
theorem onlyS_at {a b : Addr} {vs : List Value} {ns : List Int} {u : HO} (h : onlyS K a vs ns b = some u) : b = a ∧ K.lookup a = none ∧ u = .frz { cls := .type "list", data := .seq vs.toArray } (.lst (ns.map V.int)) := by
  unfold onlyS at h
  split at h
  · next c => exact ⟨c.1, c.2, (Option.some.inj h).symm⟩
  · cases h
/-- the law's call, from its def's run there -/
theorem law_at {sp : Sp} {k : Nat} {mb : Str → Option Value} {fa a : Addr} {fd : FuncData} {x : Str} {s₁ : Shared} {vs : List Value} {ns : List Int} (KX : K.In s₁.heap) (hns : s₁.heap.Ns mainGlobals mg) (hb : s₁.heap.Ns builtinsNs mb) (hbb : ∀ x : Str, x ≠ "__name__" → mb x = bootBuiltins x) (hlim : s₁.heap.NoLimit) (hg : s₁.gens = #[])
    (ha : s₁.heap.get? a = some { cls := .type "list", data := .seq vs.toArray }) (hi : IntsAre vs ns) (hl : ns.length ≤ sizeLine) (hr : Room k callerA)
    (F : ∀ base : Heap, K.In base → base.Ns mainGlobals mg → ∀ (outer : List Env) (s : Shared) (H : Hp) (args : Args) (us : List Value) (vs : List V) (Q : VK) (E : XK), Room k callerA → Env0 P w K mg base callerA outer s H → BindsTo s fd args ([x].zip us) → Vals vs us → sp vs H Q E → codeAny (model P w) callerA (.call (.ref fa) args) (CR CX0 outer P w H s Q E) s)
    (hbind : ∀ (s : Shared) (u : Value), BindsTo s fd ⟨[u], []⟩ [(x, u)]) (hsp : ∀ H : Hp, SqL K H a (ns.map V.int) → sp [.ref a] H (fun v _ => v = .bl true) fun _ _ _ => False) (hCX : ∀ H e s', CX0 [] H s₁ (fun _ _ _ => False) e s' → False) :
    codeAny (model P w) callerA (.call (.ref fa) ⟨[.ref a], []⟩) (fun r s' => r = .ok (.ret (.bool true)) ∧ OldK s₁.heap s'.heap ∧ s'.os = s₁.os ∧ AllBare s'.gens) s₁ := by
  have rv := vals_ints hi
  have lenV := hi.length
  have off : ∀ {b : Addr} {o : Obj}, s₁.heap.get? b = some o → (b = a → K.lookup a ≠ none) → (hidT s₁.heap (onlyS K a vs ns)).get? b = some o := fun {b o} e n => hidT_get e (by
    cases q : onlyS K a vs ns b with
    | none => rfl
    | some u =>
      obtain ⟨h1, h2, _⟩ := onlyS_at q
      exact absurd h2 (n h1))
  have noA : ∀ {b : Addr} {o : Obj} {es : Array DictEntry} {ep : Nat}, s₁.heap.get? b = some o → o.data = .dict es ep → b ≠ a := fun {b o es ep} e d z => by
    rw [z, ha] at e
    cases e
    have d' : Data.seq vs.toArray _ = Data.dict es ep := d
    cases d'
  have nsK : ∀ {b : Addr} {m : Str → Option Value}, s₁.heap.Ns b m → (hidT s₁.heap (onlyS K a vs ns)).Ns b m := fun {b m} ⟨o, es, ep, e, d, r⟩ => ⟨o, es, ep, off e (fun z => absurd z (noA e d)), d, r⟩
  have hKb : K.In (hidT s₁.heap (onlyS K a vs ns)) := fun b o e => off (KX b o e) fun z => by
    rw [← z, e]
    exact fun h => by cases h
  have hM : Mod K mg (hidT s₁.heap (onlyS K a vs ns)) := ⟨hKb, nsK hns, ⟨mb, nsK hb, hbb⟩, let ⟨mc, h1, h2⟩ := hlim; ⟨mc, nsK h1, h2⟩⟩
  have hok : HOk P w (onlyS K a vs ns) s₁.heap := fun b u z => by
    obtain ⟨rfl, _, rfl⟩ := onlyS_at z
    exact ⟨ha, by rw [List.length_map]; exact hl, vs, _, rv, ha⟩
  have hS : SqL K (onlyS K a vs ns) a (ns.map V.int) := by
    cases hk : K.lookup a with
    | some o =>
      have e := KX a o hk
      rw [ha] at e
      cases e
      exact .inr ⟨_, vs.toArray, _, hk, rfl, rfl, rfl, by rw [List.size_toArray, lenV]; exact hl, by simpa using rv⟩
    | none => exact .inl (.inr ⟨_, if_pos ⟨rfl, hk⟩⟩)
  have e0 : Env0 P w K mg (hidT s₁.heap (onlyS K a vs ns)) callerA [] s₁ (onlyS K a vs ns) := ⟨rfl, hM, fun b o e => of_hidT e, Nat.le_of_eq (hidT_size _ _), trivial, fun b hb => absurd (show b ∈ ([] : List Addr) from hb) (by simp), hok, .of_eq hg⟩
  refine codeAny_mono (F _ hKb (nsK hns) [] s₁ _ ⟨[.ref a], []⟩ [.ref a] [.ref a] _ _ hr e0 (hbind s₁ (.ref a)) (.cons rfl .nil) (hsp _ hS)) fun r s' h => ?_
  cases r with
  | error e => exact (hCX (onlyS K a vs ns) e s' h).elim
  | ok fl =>
    cases fl with
    | next => exact False.elim h
    | brk => exact False.elim h
    | cont => exact False.elim h
    | ret u =>
      obtain ⟨v, H', os, bare, un, hok', r', q⟩ := h
      have q' : v = .bl true := q
      subst q'
      obtain rfl : u = Value.bool true := r'
      refine ⟨rfl, OldK.of_keep fun b o e => ?_, os, bare⟩
      cases q : onlyS K a vs ns b with
      | none => exact un.keep b o e q (fun z => absurd (show b ∈ ([] : List Addr) from z) (by simp)) (by simp)
      | some u =>
        obtain ⟨rfl, _, rfl⟩ := onlyS_at q
        obtain ⟨e2, _⟩ := hok' b _ (un.frzs b _ _ q)
        rw [ha] at e
        cases e
        exact e2
end
end K23
set_option maxRecDepth 100000
set_option maxHeartbeats 8000000
namespace K23
open PySem PySem.Spec PyProof.Rows L2 WV
open Evl (Ex Ev)
variable {P : Program} {w : World} {K : PySem.W.Frag} {mg : Str → Option Value} {base : Heap}
section
variable {b c : Addr} {σ : L2.St} {H : Hp} {te tl : TE} {t u : TT} {D : Ends} {tu tw : TS}
/-- a test that may draw -/
def EBX (b c : Addr) (t : TT) (σ : L2.St) (H : Hp) (x : Bool) : Prop := ∀ H1, Bx b c H H1 → Bg H1 b c → ∀ Q : Bool → Hp → Prop, (∀ H2, Bx b c H1 H2 → Bg H2 b c → Q x H2) → t σ H1 Q
theorem ebx_B {x : Bool} (h : EXb b c te σ H (fun H v => Td H v (.bool x))) : EBX b c (tB te) σ H x := fun H1 e hb Q q => h H1 e hb _ fun v H2 e2 hb2 hv => ⟨x, hv.bl_inv, q H2 e2 hb2⟩
theorem ebx_not {x : Bool} (h : EBX b c t σ H x) : EBX b c (tNot t) σ H (!x) := fun H1 e hb Q q => h H1 e hb _ fun H2 e2 hb2 => q H2 e2 hb2
theorem ebx_or {x : Bool} (h : EBX b c t σ H false) (h2 : EBX b c u σ H x) : EBX b c (tOr t u) σ H x := fun H1 e hb Q q => h H1 e hb _ fun H2 e2 hb2 => by
  show u σ H2 Q
  exact h2 H2 (e.trans e2) hb2 Q fun H3 e3 hb3 => q H3 (e2.trans e3) hb3
theorem s_ifXF (h : EBX b c t σ H false) (hb : Bg H b c) (k : ∀ H1, Bx b c H H1 → Bg H1 b c → tw D σ H1) : tIfS t tu tw D σ H := h H (Bx.refl _ _ _) hb _ fun H1 e hb1 => by
  show tw D σ H1
  exact k H1 e hb1
end
theorem str_inv {H : Hp} {v : V} {x : Str} (h : Td H v (.str x)) : v = .str x := by
  cases h
  rfl
/-- repr((led, lassos)) -/
theorem ed_repr2 {σ : L2.St} {H : Hp} {i j : Nat} {x y : V} {d : WV.T} {ds : List WV.T} (hx : σ[i]? = some (some x)) (hy : σ[j]? = some (some y)) (h1 : Td H x d) (h2 : LA H y ds) (hd : dg (.tuple [d, .list ds]) = true) (hs : sh 60 (.tuple [d, .list ds])) (hw : wb (.tuple [d, .list ds]) ≤ 100000) :
    ED (tCB (rReprD K) (tCons (tTup (tCons (tVar i) (tCons (tVar j) tNil))) tNil)) σ H (.str (PyData.shown (.tuple [d, .list ds]))) := fun H1 e Q q => by
  obtain ⟨s1, s2, s3⟩ := shown_le _ hd
  refine ⟨x, hx, y, hy, Evl.sz_of (by simp), fun t ht => ⟨t, .tuple [d, .list ds], rfl, .tup (.inl (.inl upd_same)) (.cons ((h1.keep (.ex e)).keep (.new ht)).dp (.cons ((h2.keep e).keep (Ex.new ht)).dp .nil)), s1, s2, hs.2, Evl.sz_of (Nat.le_trans s3 hw), q _ _ (Ex.new ht) (.s _)⟩⟩
theorem ex_lasso {b c : Addr} {σ : L2.St} {H : Hp} {E : XK} {k most : Nat} (h1 : σ[1]? = some (some (.ref b))) (h2 : σ[2]? = some (some (.int k))) (k1 : 1 ≤ k) (k2 : k ≤ 10) (m1 : 1 ≤ most) (m2 : most ≤ 12) :
    EXb b c (tCall SpLasso [] E (tCons (tVar 1) (tCons (tVar 2) (tCons (tC (.int most)) tNil)))) σ H (fun H v => ∃ p : Lso, Td H v (La p.1 p.2) ∧ LsOk k p) := fun H1 e hb Q q =>
  ⟨_, h1, _, h2, b, c, k, most, rfl, k1, by omega, m1, by omega, hb, fun r H' u v hr wu wv lu vn lv bx bg => q r H' bx bg ⟨(u, v), hr, wu, wv, vn, Nat.le_trans lu m2, Nat.le_trans lv m2⟩⟩
theorem dg_La {k : Nat} {p : Lso} (h : LsOk k p) (hk : k ≤ 10) : dg (La p.1 p.2) = true := dg_tup fun d hd => by
  simp only [List.mem_cons, List.not_mem_nil, or_false] at hd
  rcases hd with rfl | rfl
  · exact dg_W h.wu (by omega)
  · exact dg_W h.wv (by omega)
theorem wb_La {k : Nat} {p : Lso} (h : LsOk k p) : wb (La p.1 p.2) ≤ 200 := by
  have h1 := wb_W p.1
  have h2 := wb_W p.2
  have l1 := h.lu
  have l2 := h.lv
  simp only [La, wb, wbs]
  omega
theorem arc_small {k m n : Nat} {as : List Arc} (hk : 1 ≤ k) (k2 : k ≤ 10) (n2 : n ≤ 10) (h : Arcs m n (prs k n) as) {a : Arc} (ha : a ∈ as) : (0 ≤ a.s ∧ a.s < 1000) ∧ 0 ≤ a.l ∧ a.l < 1000 := by
  obtain ⟨i, hi⟩ := List.getElem?_of_mem ha
  obtain ⟨e, hlt⟩ := arcs_at hk h hi
  have := Nat.mul_le_mul n2 k2
  unfold tk at e
  simp only [Prod.mk.injEq] at e
  have h1 : i / k ≤ i := Nat.div_le_self _ _
  have h2 : i % k ≤ i := Nat.mod_le _ _
  generalize i / k = q1 at e h1
  generalize i % k = q2 at e h2
  omega
theorem led_small {k m n : Nat} {b0 : Int} {as : List Arc} (hk : 1 ≤ k) (k2 : k ≤ 10) (m2 : m ≤ 10) (n2 : n ≤ 3) (hb : St n b0) (h : Arcs m n (prs k n) as) : dg (ledD n [b0] as (endsN n)) = true ∧ wb (ledD n [b0] as (endsN n)) ≤ 10000 ∧ sh 5 (ledD n [b0] as (endsN n)) := by
  have alen : as.length ≤ 30 := by
    rw [arcs_len h]
    have := Nat.mul_le_mul n2 k2
    omega
  have elen : (endsN n).length = n := ends_len
  have hends : ∀ e ∈ endsN n, 0 ≤ e.1 ∧ e.1 < 10 ∧ e.2 = [] := fun e he => by
    have he2 := ends_empty e he
    unfold endsN at he
    obtain ⟨i, hi, rfl⟩ := List.mem_map.mp he
    rw [List.mem_range] at hi
    exact ⟨by show (0 : Int) ≤ (i : Int); omega, by show (i : Int) < 10; omega, rfl⟩
  have dA : ∀ a ∈ as, dg (arcD a) = true ∧ wb (arcD a) ≤ 100 ∧ sh 2 (arcD a) := fun a ha => by
    obtain ⟨w1, w2, w3, w4⟩ := h.2 a ha
    obtain ⟨⟨s1, s2⟩, l1, l2⟩ := arc_small hk k2 (by omega) h ha
    have hw := wb_W a.out
    have g1 := w4.1
    have g2 := w4.2
    refine ⟨dg_tup fun d hd => ?_, ?_, sh_tup fun d hd => ?_⟩
    · simp only [List.mem_cons, List.not_mem_nil, or_false] at hd
      rcases hd with rfl | rfl | rfl | rfl
      · exact dg_int s1 (by omega)
      · exact dg_int l1 (by omega)
      · exact dg_W w1 (by omega)
      · exact dg_int g1 (by omega)
    · simp only [arcD, wb, wbs]
      simp only [W, wb] at hw ⊢
      omega
    · simp only [List.mem_cons, List.not_mem_nil, or_false] at hd
      rcases hd with rfl | rfl | rfl | rfl
      · exact sh_int
      · exact sh_int
      · exact sh_W
      · exact sh_int
  have dE : ∀ e ∈ endsN n, dg (endD e) = true ∧ wb (endD e) ≤ 100 ∧ sh 2 (endD e) := fun e he => by
    obtain ⟨s1, s2, s3⟩ := hends e he
    refine ⟨dg_tup fun d hd => ?_, ?_, sh_2 sh_int sh_W⟩
    · simp only [List.mem_cons, List.not_mem_nil, or_false] at hd
      rcases hd with rfl | rfl
      · exact dg_int s1 (by omega)
      · rw [s3]
        rfl
    · have hw := wb_W e.2
      rw [s3] at hw
      simp only [endD, wb, wbs, s3]
      simp only [W, wb] at hw ⊢
      simp at hw ⊢
      omega
  have m1 : ∀ d ∈ as.map arcD, dg d = true ∧ wb d ≤ 100 ∧ sh 2 d := fun d hd => by
    obtain ⟨a, ha, rfl⟩ := List.mem_map.mp hd
    exact dA a ha
  have m2' : ∀ d ∈ (endsN n).map endD, dg d = true ∧ wb d ≤ 100 ∧ sh 2 d := fun d hd => by
    obtain ⟨e, he, rfl⟩ := List.mem_map.mp hd
    exact dE e he
  have q1 := wbs_le (c := 100) (ds := as.map arcD) fun d hd => (m1 d hd).2.1
  have q2 := wbs_le (c := 100) (ds := (endsN n).map endD) fun d hd => (m2' d hd).2.1
  have q3 := wb_W [b0]
  rw [List.length_map] at q1 q2
  have b1 := hb.1
  have b2 := hb.2
  refine ⟨dg_tup fun d hd => ?_, ?_, sh_tup fun d hd => ?_⟩
  · simp only [List.mem_cons, List.not_mem_nil, or_false] at hd
    rcases hd with rfl | rfl | rfl | rfl
    · exact dg_int (by omega) (by omega)
    · exact dg_W (k := n) (fun l hl => by rw [List.mem_singleton.mp hl]; exact hb) (by omega)
    · exact dg_tup fun d hd => (m1 d hd).1
    · exact dg_tup fun d hd => (m2' d hd).1
  · simp only [ledD, wb, wbs]
    simp only [W, wb] at q3 ⊢
    simp only [List.length_cons, List.length_nil] at q3
    omega
  · simp only [List.mem_cons, List.not_mem_nil, or_false] at hd
    rcases hd with rfl | rfl | rfl | rfl
    · exact sh_int
    · exact sh_W
    · exact (sh_tup fun d hd => (m1 d hd).2.2).mono (by decide)
    · exact (sh_tup fun d hd => (m2' d hd).2.2).mono (by decide)
def SpLaw (K : PySem.W.Frag) : Sp := fun vs H Q _ => ∃ l, ∃ ns : List Int, vs = [.ref l] ∧ SqL K H l (ns.map V.int) ∧ ns.length ≤ 1000 ∧ ∀ H', Q (.bl true) H'
theorem run_law (T : Txt K mg) (outer : List Env) (s : Shared) (H : Hp) (args : Args) (us : List Value) (vs : List V) (Q : VK) (E : XK) (hr : Room 7 callerA) (e0 : Env0 P w K mg base callerA outer s H) (hb : BindsTo s T.d_law args ((["script"] : List Str).zip us)) (r : Vals vs us) (hsp : SpLaw K vs H Q E) :
    codeAny (model P w) callerA (.call (.ref T.f_law) args) (CR CX0 outer P w H s Q E) s := by
  have G_law_draw := ok_law_draw (P := P) (w := w) (base := base) T
  have G_law_own_bag := ok_law_own_bag (P := P) (w := w) (base := base) T
  have G_law_led := ok_law_led (P := P) (w := w) (base := base) T
  have G_law_lasso := ok_law_lasso (P := P) (w := w) (base := base) T
  have G_law_are_letters := ok_law_are_letters (P := P) (w := w) (base := base) T
  have G_law_are_judged := ok_law_are_judged (P := P) (w := w) (base := base) T
  have G_law_is_led := ok_law_is_led (P := P) (w := w) (base := base) T
  have G_law_is_moved := ok_law_is_moved (P := P) (w := w) (base := base) T
  have G_led_error := ok_led_error (P := P) (w := w) (base := base) T
  have G_law_same := ok_law_same (P := P) (w := w) (base := base) T 3 (by decide)
  refine run_at T.F_law sc_law (fun vs H Q E ⟨_, _, h, _⟩ => by rw [h]; rfl) (fun cdv outer s H vs Q E hr h => ?_) outer s H args us vs Q E hr e0 hb r hsp
  obtain ⟨l, ns, rfl, hl, hz, q⟩ := h
  have hu := hr.units
  have hgd : (callerA.deeper (envOfC "law" (defScope s_law) s.heap.objs.size T.f_law cdv)).guards = some [] := rfl
  refine ⟨_, (pss_cons (ps_asg (pe_call G_law_own_bag (hr.mono (by decide)) (by rfl) T.g_law_own_bag T.F_law_own_bag.kp T.b_law_own_bag .nil pass0 (pa_cons (pv 0) pa_nil)) (pg_name (i := 1) sc_law.nd rfl (by first | exact .inl rfl | exact .inr rfl)))
      (pss_cons (ps_par3 (i := 2) (j := 3) (l := 4) (by rfl) sc_law.nd rfl rfl rfl (by decide) (by decide) (by decide) rfl rfl rfl (pa_cons (pe_op op_addU pe_int (pe_call G_law_draw (hr.mono (by decide)) (by rfl) T.g_law_draw T.F_law_draw.kp T.b_law_draw .nil pass0 (pa_cons (pv 1) (pa_cons pe_int pa_nil)))) (pa_cons (pe_op op_addU pe_int (pe_call G_law_draw (hr.mono (by decide)) (by rfl) T.g_law_draw T.F_law_draw.kp T.b_law_draw .nil pass0 (pa_cons (pv 1) (pa_cons pe_int pa_nil)))) (pa_cons (pe_op op_addU pe_int (pe_call G_law_draw (hr.mono (by decide)) (by rfl) T.g_law_draw T.F_law_draw.kp T.b_law_draw .nil pass0 (pa_cons (pv 1) (pa_cons pe_int pa_nil)))) pa_nil))) (by rfl))
      (pss_cons (ps_asg (pe_call G_law_led (hr.mono (by decide)) (by rfl) T.g_law_led T.F_law_led.kp T.b_law_led .nil pass0 (pa_cons (pv 1) (pa_cons (pv 2) (pa_cons (pv 3) (pa_cons (pv 4) pa_nil))))) (pg_name (i := 5) sc_law.nd rfl (by first | exact .inl rfl | exact .inr rfl)))
      (pss_cons (ps_asg (pe_lst (pa_cons (pe_call G_law_lasso (hr.mono (by decide)) (by rfl) T.g_law_lasso T.F_law_lasso.kp T.b_law_lasso .nil pass0 (pa_cons (pv 1) (pa_cons (pv 2) (pa_cons pe_int pa_nil)))) (pa_cons (pe_call G_law_lasso (hr.mono (by decide)) (by rfl) T.g_law_lasso T.F_law_lasso.kp T.b_law_lasso .nil pass0 (pa_cons (pv 1) (pa_cons (pv 2) (pa_cons pe_int pa_nil)))) (pa_cons (pe_call G_law_lasso (hr.mono (by decide)) (by rfl) T.g_law_lasso T.F_law_lasso.kp T.b_law_lasso .nil pass0 (pa_cons (pv 1) (pa_cons (pv 2) (pa_cons pe_int pa_nil)))) (pa_cons (pe_call G_law_lasso (hr.mono (by decide)) (by rfl) T.g_law_lasso T.F_law_lasso.kp T.b_law_lasso .nil pass0 (pa_cons (pv 1) (pa_cons (pv 2) (pa_cons pe_int pa_nil)))) pa_nil))))) (pg_name (i := 6) sc_law.nd rfl (by first | exact .inl rfl | exact .inr rfl)))
      (pss_cons (ps_asg (pe_callB (call_reprD hgd hu) (by rfl) T.m_repr (by decide +kernel) (pa_cons (pe_tup (pa_cons (pv 5) (pa_cons (pv 6) pa_nil))) pa_nil)) (pg_name (i := 7) sc_law.nd rfl (by first | exact .inl rfl | exact .inr rfl)))
      (pss_cons (ps_if (PW.pt (pw_or (pt_not (pt_val (pe_call G_law_are_letters (hr.mono (by decide)) (by rfl) T.g_law_are_letters T.F_law_are_letters.kp T.b_law_are_letters .nil pass0 (pa_cons (pv 1) (pa_cons (pv 2) (pa_cons (pv 6) pa_nil)))))) (pw_or1 (pt_not (pt_val (pe_call G_law_are_judged (hr.mono (by decide)) (by rfl) T.g_law_are_judged T.F_law_are_judged.kp T.b_law_are_judged .nil pass0 (pa_cons (pv 2) (pa_cons (pe_ix ix_seq (pv 6) pe_int (fun _ _ => rfl)) pa_nil))))))))
        (pss_one (ps_ret pe_bl))
        pss_nil)
      (Evl.pss_cut (ps_for PassesOwn.never rfl (pi_seq (pe_slice sl_seqU (pv 6) (po_some pe_int) po_none)) (pg_name (i := 8) sc_law.nd rfl (by first | exact .inl rfl | exact .inr rfl))
        (pss_one (ps_if (PW.pt (pw_or (pt_not (pt_val (pe_call G_law_is_led (hr.mono (by decide)) (by rfl) T.g_law_is_led T.F_law_is_led.kp T.b_law_is_led .nil pass0 (pa_cons (pv 1) (pa_cons (pv 2) (pa_cons (pv 3) (pa_cons (pv 5) (pa_cons (pv 8) pa_nil)))))))) (pw_or1 (pt_not (pt_val (pe_call G_law_is_moved (hr.mono (by decide)) (by rfl) T.g_law_is_moved T.F_law_is_moved.kp T.b_law_is_moved .nil pass0 (pa_cons (pv 1) (pa_cons (pv 2) (pa_cons (pv 3) (pa_cons (pv 8) pa_nil))))))))))
        (pss_one (ps_ret pe_bl))
        pss_nil)))
      (pss_cons (ps_asg (pe_tup (pa_cons (pv 4) (pa_cons (pe_ix ix_seq (pv 5) pe_int (fun _ _ => rfl)) (pa_cons (pe_op op_addU (pe_slice sl_seqU (pe_ix ix_seq (pv 5) pe_int (fun _ _ => rfl)) po_none (po_some (pe_un un_neg pe_int))) (pe_tup (pa_cons (pe_tup (pa_cons (pv 4) (pa_cons pe_int (pa_cons (pe_tup (pa_cons pe_int pa_nil)) (pa_cons pe_int pa_nil))))) pa_nil))) (pa_cons (pe_ix ix_seq (pv 5) pe_int (fun _ _ => rfl)) pa_nil))))) (pg_name (i := 9) sc_law.nd rfl (by first | exact .inl rfl | exact .inr rfl)))
      (pss_cons (ps_asg (pe_tup (pa_cons (pe_call G_led_error (hr.mono (by decide)) (by rfl) T.g_led_error T.F_led_error.kp T.b_led_error .nil pass0 (pa_cons (pv 2) (pa_cons (pv 3) (pa_cons (pv 9) pa_nil)))) (pa_cons (pe_callK0 G_led_error (hr.mono (by decide)) (by rfl) T.g_led_error T.F_led_error.kp T.k_led_error_value_m_k pass0 (pk_cons (pe_tup (pa_cons (pv 4) (pa_cons (pe_ix ix_seq (pv 5) pe_int (fun _ _ => rfl)) (pa_cons (pe_ix ix_seq (pv 5) pe_int (fun _ _ => rfl)) (pa_cons (pe_op op_addU (pe_ix ix_seq (pv 5) pe_int (fun _ _ => rfl)) (pe_slice sl_seqU (pe_ix ix_seq (pv 5) pe_int (fun _ _ => rfl)) (po_some (pe_un un_neg pe_int)) po_none)) pa_nil))))) (pk_cons (pv 3) (pk_cons (pv 2) pk_nil)))) pa_nil))) (pg_name (i := 10) sc_law.nd rfl (by first | exact .inl rfl | exact .inr rfl)))
      (pss_one (ps_ret (pe_and (pe_call G_law_same (hr.mono (by decide)) (by rfl) T.g_law_same T.F_law_same.kp T.b_law_same .nil pass0 (pa_cons (pv 10) (pa_cons (pe_tup (pa_cons (pe_tup (pa_cons pe_str (pa_cons (pe_op op_sub (pe_callB call_len_seq (by rfl) T.m_len (by decide +kernel) (pa_cons (pe_ix ix_seq (pv 5) pe_int (fun _ _ => rfl)) pa_nil)) pe_int) pa_nil))) (pa_cons (pe_tup (pa_cons pe_str (pa_cons (pv 4) pa_nil))) pa_nil))) pa_nil))) (pe_one (pe_cmpR op_eq (pe_callB (call_reprD hgd hu) (by rfl) T.m_repr (by decide +kernel) (pa_cons (pe_tup (pa_cons (pv 5) (pa_cons (pv 6) pa_nil))) pa_nil)) (pv 7) (by rfl))))))))))))))), ?_⟩
  -- bag
  refine ⟨_, rfl, l, ns, rfl, hl, hz, fun b c H1 hbn hcn e1 hb1 => ?_⟩
  -- k, m, n
  refine (ex_add1 (lo := 0) (hi := 3) (ex_draw (m := 3) rfl (fun H1 => ed_int) (by decide) (by decide))) H1 (Bx.refl _ _ _) hb1 _ fun vk H2 e2 hb2 ⟨ki, hk, k0, k3⟩ => ?_
  refine (ex_add1 (lo := 0) (hi := 3) (ex_draw (m := 3) rfl (fun H1 => ed_int) (by decide) (by decide))) H2 (Bx.refl _ _ _) hb2 _ fun vm H3 e3 hb3 ⟨mi, hm, m0, m3⟩ => ?_
  refine (ex_add1 (lo := 0) (hi := 3) (ex_draw (m := 3) rfl (fun H1 => ed_int) (by decide) (by decide))) H3 (Bx.refl _ _ _) hb3 _ fun vn H4 e4 hb4 ⟨ni, hn, n0, n3⟩ => ?_
  refine ⟨_, _, _, rfl, ?_⟩
  obtain ⟨k, rfl⟩ := Int.eq_ofNat_of_zero_le (show 0 ≤ ki by omega)
  obtain ⟨m, rfl⟩ := Int.eq_ofNat_of_zero_le (show 0 ≤ mi by omega)
  obtain ⟨n, rfl⟩ := Int.eq_ofNat_of_zero_le (show 0 ≤ ni by omega)
  subst hk
  subst hm
  subst hn
  -- led
  refine ⟨_, rfl, _, rfl, _, rfl, _, rfl, b, c, k, m, n, rfl, by omega, by omega, by omega, by omega, by omega, by omega, hb4, fun x5 H5 b0 as h5 hb0 har e5 hb5 => ?_⟩
  -- lassos
  refine (ex_lasso (most := 12) rfl rfl (by omega) (by omega) (by decide) (by decide)) H5 (Bx.refl _ _ _) hb5 _ fun l0 H6 e6 hb6 ⟨p0, t0, ok0⟩ => ?_
  refine (ex_lasso (most := 4) rfl rfl (by omega) (by omega) (by decide) (by decide)) H6 (Bx.refl _ _ _) hb6 _ fun l1 H7 e7 hb7 ⟨p1, t1, ok1⟩ => ?_
  refine (ex_lasso (most := 3) rfl rfl (by omega) (by omega) (by decide) (by decide)) H7 (Bx.refl _ _ _) hb7 _ fun l2 H8 e8 hb8 ⟨p2, t2, ok2⟩ => ?_
  refine (ex_lasso (most := 2) rfl rfl (by omega) (by omega) (by decide) (by decide)) H8 (Bx.refl _ _ _) hb8 _ fun l3 H9 e9 hb9 ⟨p3, t3, ok3⟩ => ?_
  refine ⟨Evl.sz_of (by simp), fun p hp => ?_⟩
  have hpn := bg_ne hb9 hp
  have hlp : LA (upd H9 p (.lst [l0, l1, l2, l3])) (.ref p) (lsD [p0, p1, p2, p3]) := ⟨p, _, rfl, upd_same, Tds.keep (.new hp) (.cons (((t0.keep (hb6.kp e7)).keep (hb7.kp e8)).keep (hb8.kp e9)) (.cons ((t1.keep (hb7.kp e8)).keep (hb8.kp e9)) (.cons (t2.keep (hb8.kp e9)) (.cons t3 .nil))))⟩
  have h10 : Td (upd H9 p (.lst [l0, l1, l2, l3])) x5 (ledD n [b0] as (endsN n)) := ((((h5.keep (hb5.kp e6)).keep (hb6.kp e7)).keep (hb7.kp e8)).keep (hb8.kp e9)).keep (.new hp)
  have hb10 : Bg (upd H9 p (.lst [l0, l1, l2, l3])) b c := hb9.keep (Ex.new hp)
  generalize upd H9 p (.lst [l0, l1, l2, l3]) = H10 at hlp h10 hb10
  obtain ⟨ld1, ld2, ld3⟩ := led_small (m := m) (show 1 ≤ k by omega) (by omega) (by omega) (by omega) hb0 har
  have hoks : ∀ r ∈ [p0, p1, p2, p3], LsOk k r := fun r hr => by
    simp only [List.mem_cons, List.not_mem_nil, or_false] at hr
    rcases hr with rfl | rfl | rfl | rfl <;> assumption
  have hlsm : ∀ d ∈ lsD [p0, p1, p2, p3], dg d = true ∧ wb d ≤ 200 ∧ sh 2 d := fun d hd => by
    obtain ⟨r, hr, rfl⟩ := List.mem_map.mp hd
    exact ⟨dg_La (hoks r hr) (by omega), wb_La (hoks r hr), sh_La⟩
  have hdg : dg (.tuple [ledD n [b0] as (endsN n), .list (lsD [p0, p1, p2, p3])]) = true := dg_tup fun d hd => by
    simp only [List.mem_cons, List.not_mem_nil, or_false] at hd
    rcases hd with rfl | rfl
    · exact ld1
    · exact dg_lst fun d hd => (hlsm d hd).1
  have hshd : sh 60 (.tuple [ledD n [b0] as (endsN n), .list (lsD [p0, p1, p2, p3])]) := (sh_2 (n := 5) ld3 ((sh_lst fun d hd => (hlsm d hd).2.2).mono (by decide))).mono (by decide)
  have hwb : wb (.tuple [ledD n [b0] as (endsN n), .list (lsD [p0, p1, p2, p3])]) ≤ 100000 := by
    have h1 := wbs_le (c := 200) (ds := lsD [p0, p1, p2, p3]) fun d hd => (hlsm d hd).2.1
    have h2 : (lsD [p0, p1, p2, p3]).length = 4 := rfl
    rw [h2] at h1
    simp only [wb, wbs]
    omega
  -- kept
  refine s_asg (d := .str (PyData.shown (.tuple [ledD n [b0] as (endsN n), .list (lsD [p0, p1, p2, p3])]))) (ed_repr2 (i := 5) (j := 6) rfl rfl h10 hlp hdg hshd hwb) fun x7 H11 e11 h7 => ?_
  have hx7 : x7 = .str (PyData.shown (.tuple [ledD n [b0] as (endsN n), .list (lsD [p0, p1, p2, p3])])) := str_inv h7
  have hb11 := hb10.keep e11
  have led11 := h10.keep (.ex e11)
  have hlp11 := hlp.keep e11
  -- the letters, the judged
  dsimp only
  refine s_ifXF (b := b) (c := c) ?_ hb11 fun H12 e12 hb12 => ?_
  · refine ebx_or (ebx_not (x := true) (ebx_B fun H12 e12 hb12 Q2 q2 => ?_)) (ebx_not (x := true) (ebx_B fun H12 e12 hb12 Q2 q2 => ?_))
    · exact ⟨_, rfl, _, rfl, _, rfl, b, c, p, k, p0, p1, [p2, p3], rfl, hb12, hpn.1, hpn.2, la_bx hlp11 e12 hb11 hpn, by simp, hoks, fun v H' bx bg hv => q2 v H' bx bg hv⟩
    · refine ⟨_, rfl, ?_⟩
      refine (ed_ixM (K := K) (i := 0) (em_var (i := 6) rfl (la_bx hlp11 e12 hb11 hpn)) ed_int (atI0 _ _)) H12 (Ex.refl _) _ fun v H13 e13 hv => ?_
      exact ⟨k, _, _, p0.1, p0.2, rfl, by omega, .i _, hv, ok0.wu, ok0.wv, ok0.vn, ok0.lu, ok0.lv, fun r H' e14 hr => q2 r H' (.ex (e13.trans e14)) (hb12.keep (e13.trans e14)) hr⟩
  have led12 := led11.keep (hb11.kp e12)
  have hlp12 := la_bx hlp11 e12 hb11 hpn
  refine Evl.q_cut (M := fun σ' H' => ∃ z8, σ' = [some (.ref l), some (.ref b), some (.int k), some (.int m), some (.int n), some x5, some (.ref p), some x7, z8, none, none] ∧ Bx b c H12 H' ∧ Bg H' b c) ?_ ?_
  · refine (el_slM (lo := some ((1 : Nat) : Int)) (hi := none) (em_var (i := 6) rfl hlp12) (eo_some ed_int) eo_none) H12 (Ex.refl _) _ fun a xs H13 ha e13 g1 g2 => ?_
    rw [cut_drop] at g2
    have han := bg_ne hb12 ha
    have hb13 := hb12.keep e13
    have led13 := led12.keep (.ex e13)
    exact s_forLX (K := K) (tl := fun σ H Q => Q (.ref a) H) (b := b) (c := c) (ds := (lsD [p0, p1, p2, p3]).drop 1) (fun H1 _ Q q => q H1 (Ex.refl _)) g1 g2 hb13 han (fun i σ' H' => ∃ z8, σ' = [some (.ref l), some (.ref b), some (.int k), some (.int m), some (.int n), some x5, some (.ref p), some x7, z8, none, none] ∧ Bx b c H13 H' ∧ Bg H' b c) (fun H14 e14 => ⟨_, rfl, .ex e14, hb13.keep e14⟩) (fun i σ' H' ⟨_, _, h⟩ => h) (fun i v d σ' H' hd ⟨z8, hσ, e14, hb14⟩ hv => by
      subst hσ
      obtain ⟨r, hr, hrd⟩ : ∃ r, [p1, p2, p3][i]? = some r ∧ d = La r.1 r.2 := by
        have hd' : ([p1, p2, p3].map fun p : Lso => La p.1 p.2)[i]? = some d := hd
        rw [List.getElem?_map] at hd'
        cases hr : [p1, p2, p3][i]? with
        | none =>
          rw [hr] at hd'
          cases hd'
        | some r =>
          rw [hr] at hd'
          exact ⟨r, rfl, (Option.some.inj hd').symm⟩
      subst hrd
      have okr := hoks r (List.mem_cons_of_mem _ (List.mem_of_getElem? hr))
      have led14 := led13.keep (hb13.kp e14)
      refine s_ifXF (b := b) (c := c) ?_ hb14 fun H15 e15 hb15 => ?_
      · refine ebx_or (ebx_not (x := true) (ebx_B fun H15 e15 hb15 Q2 q2 => ?_)) (ebx_not (x := true) (ebx_B fun H15 e15 hb15 Q2 q2 => ?_))
        · exact ⟨_, rfl, _, rfl, _, rfl, _, rfl, _, rfl, b, c, k, m, n, x5, v, b0, as, r.1, r.2, rfl, by omega, by omega, by omega, by omega, by omega, by omega, hb15, led14.keep (hb14.kp e15), hv.keep (hb14.kp e15), okr, hb0, har, fun z H' bx bg hz => q2 z H' bx bg hz⟩
        · exact ⟨_, rfl, _, rfl, _, rfl, _, rfl, b, c, k, m, v, r.1, r.2, rfl, by omega, by omega, by omega, by omega, hb15, hv.keep (hb14.kp e15), okr, fun z H' bx bg hz => q2 z H' bx bg hz⟩
      exact ⟨_, rfl, e14.trans e15, hb15⟩) (fun σ' H' ⟨z8, hσ, e14, hb14⟩ => ⟨z8, hσ, (Bx.ex e13).trans e14, hb14⟩)
  rintro σ' H13 ⟨z8, rfl, e13, hb13⟩
  have led13 := led12.keep (hb12.kp e13)
  have hlp13 := la_bx hlp12 e13 hb12 hpn
  have alen : as.length ≤ 30 := by
    rw [arcs_len har]
    have := Nat.mul_le_mul (show n ≤ 3 by omega) (show k ≤ 10 by omega)
    omega
  have elen : (endsN n).length = n := ends_len
  have ho3 : ∀ a ∈ as, a.out.length ≤ 3 := fun a ha => (har.2 a ha).2.2.1
  -- bad
  refine s_asg (d := ledD n [b0] (as.dropLast ++ [⟨n, 0, [0], 0⟩]) (endsN n)) (ed_is (ed_tup (ea_cons (ed_var rfl (.i _)) (ea_cons (ed_ix (ds := [.int n, W [b0], .tuple (as.map arcD), .tuple ((endsN n).map endD)]) (ed_var rfl led13) ed_int (atI_nat (j := 1) rfl)) (ea_cons (ed_addT (ds := (as.map arcD).dropLast) (es := [arcD ⟨n, 0, [0], 0⟩]) (ed_is (ed_sl (ds := as.map arcD) (ed_ix (ds := [.int n, W [b0], .tuple (as.map arcD), .tuple ((endsN n).map endD)]) (ed_var rfl led13) ed_int (atI_nat (j := 2) rfl)) eo_none (eo_some ed_m1)) (by rw [cut_init])) (ed_tup (ea_cons (ed_tup (ea_cons (ed_var rfl (.i _)) (ea_cons ed_int (ea_cons (ed_tup (ea_cons ed_int ea_nil) (by simp)) (ea_cons ed_int ea_nil)))) (by simp)) ea_nil) (by simp)) (by rw [List.length_dropLast, List.length_map]; simp; omega)) (ea_cons (ed_ix (ds := [.int n, W [b0], .tuple (as.map arcD), .tuple ((endsN n).map endD)]) (ed_var rfl led13) ed_int (atI_nat (j := 3) rfl)) ea_nil)))) (by simp)) ?_) fun x9 H14 e14 h9 => ?_
  · unfold ledD
    rw [List.map_append, List.map_dropLast]
    rfl
  have led14 := led13.keep (.ex e14)
  have hlp14 := hlp13.keep e14
  have er1 := led_badArc (show 1 ≤ k by omega) (show 1 ≤ n by omega) har hb0 (endsN n)
  have er2 := led_twoEnds (show 1 ≤ k by omega) (show 1 ≤ n by omega) har hb0
  have hout1 : ∀ a ∈ as.dropLast ++ [(⟨n, 0, [0], 0⟩ : Arc)], a.out.length ≤ 1000 := fun a ha => by
    rcases List.mem_append.mp ha with h | h
    · rw [List.dropLast_eq_take] at h
      have := ho3 a (List.mem_of_mem_take h)
      omega
    · rw [List.mem_singleton.mp h]
      simp
  have hend2 : ∀ e ∈ endsN n ++ [((n : Int) - 1, ([] : List Int))], e.2.length ≤ 1000 := fun e he => by
    rcases List.mem_append.mp he with h | h
    · rw [ends_empty e h]
      simp
    · rw [List.mem_singleton.mp h]
      simp
  have htwo : PyData.tuple [.int n, W [b0], .tuple (as.map arcD), .tuple ((endsN n).map endD ++ ((endsN n).map endD).drop (((endsN n).map endD).length - 1))] = ledD n [b0] as (endsN n ++ [((n : Int) - 1, [])]) := by
    have h2 : ((endsN n).map endD).drop (((endsN n).map endD).length - 1) = [endD ((n : Int) - 1, [])] := by
      rw [List.length_map, elen]
      obtain ⟨n', rfl⟩ : ∃ n', n = n' + 1 := ⟨n - 1, by omega⟩
      unfold endsN
      rw [List.range_succ, List.map_append, List.map_append, Nat.add_sub_cancel, List.drop_left' (by simp)]
      simp
    rw [h2]
    unfold ledD
    rw [List.map_append]
    rfl
  -- told
  refine s_asg (d := .tuple [ltag "arc" (some (as.length - 1)), ltag "end" (some n)]) (ed_2 (ed_call (ea_cons (ed_var rfl (.i _)) (ea_cons (ed_var rfl (.i _)) (ea_cons (ed_var rfl h9) ea_nil))) ⟨k, m, n, [b0], _, endsN n, rfl, by omega, by simp, by rw [List.length_append, List.length_dropLast]; simp; omega, by omega, hout1, fun e he => by rw [ends_empty e he]; simp, er1.symm⟩)
    (ed_callK3 (fun _ _ _ => rfl) (ed_is (d2 := ledD n [b0] as (endsN n ++ [((n : Int) - 1, [])])) (ed_tup (ea_cons (ed_var rfl (.i _)) (ea_cons (ed_ix (ds := [.int n, W [b0], .tuple (as.map arcD), .tuple ((endsN n).map endD)]) (ed_var rfl led14) ed_int (atI_nat (j := 1) rfl)) (ea_cons (ed_ix (ds := [.int n, W [b0], .tuple (as.map arcD), .tuple ((endsN n).map endD)]) (ed_var rfl led14) ed_int (atI_nat (j := 2) rfl)) (ea_cons (ed_addT (ds := (endsN n).map endD) (es := ((endsN n).map endD).drop (((endsN n).map endD).length - 1)) (ed_ix (ds := [.int n, W [b0], .tuple (as.map arcD), .tuple ((endsN n).map endD)]) (ed_var rfl led14) ed_int (atI_nat (j := 3) rfl)) (ed_is (ed_sl (ds := (endsN n).map endD) (ed_ix (ds := [.int n, W [b0], .tuple (as.map arcD), .tuple ((endsN n).map endD)]) (ed_var rfl led14) ed_int (atI_nat (j := 3) rfl)) (eo_some ed_m1) eo_none) (by rw [cut_last])) (by rw [List.length_drop, List.length_map]; omega)) ea_nil)))) (by simp)) htwo) (ed_var rfl (.i _)) (ed_var rfl (.i _)) ⟨k, m, n, [b0], as, _, rfl, by omega, by simp, by omega, by rw [List.length_append]; simp; omega, fun a ha => by have := ho3 a ha; omega, hend2, er2.symm⟩)) fun x10 H15 e15 h10' => ?_
  have led15 := led14.keep (.ex e15)
  have hlp15 := hlp14.keep e15
  -- the end
  refine s_ret (d := .bool true) (ed_is (ed_andV (a := true) (b := true) (ed_same (ed_var rfl h10') (ed_2 (ed_2 ed_str (ed_is (ed_subI (ed_len (ds := as.map arcD) (ed_ix (ds := [.int n, W [b0], .tuple (as.map arcD), .tuple ((endsN n).map endD)]) (ed_var rfl led15) ed_int (atI_nat (j := 2) rfl))) ed_int) ?_)) (ed_2 ed_str (ed_var rfl (.i _)))) (sh_2 (sh_2 (sh_str (by decide +kernel)) sh_int) (sh_2 (sh_str (by decide +kernel)) sh_int)) (szd_2 (szd_2 rfl rfl) (szd_2 rfl rfl))) fun _ => ?_) rfl) fun v H16 e16 hv => ?_
  · rw [List.length_map]
    show PyData.int _ = PyData.int (((as.length - 1 : Nat) : Int))
    congr 1
    have : 1 ≤ as.length := by
      rw [arcs_len har]
      exact Nat.mul_le_mul (show 1 ≤ n by omega) (show 1 ≤ k by omega)
    omega
  · intro H17 e17 Q2 q2
    refine (ed_repr2 (i := 5) (j := 6) rfl rfl led15 hlp15 hdg hshd hwb) H17 e17 _ fun v H18 e18 hv => ?_
    have hv' : v = x7 := by
      rw [hx7]
      exact str_inv hv
    refine ⟨x7, rfl, ?_, ?_⟩
    · rw [hv', hx7]
      rfl
    · rw [hv', decide_eq_true rfl]
      exact q2 _ _ e18 (.b _)
  · rw [hv.bl_inv]
    exact q H16
end K23
set_option maxRecDepth 100000
set_option maxHeartbeats 4000000
namespace K23
open PySem PySem.Spec PyProof.Rows L2 WV
/-! ### what the top has written -/
theorem fun_of {K : PySem.W.Frag} {x q : Str} {st : Stmt} {f : Addr} {fd : FuncData} (F : FunD K x q (defArgs st) (defBody st) (defScope st) [] [] f fd) : Fun K x q st f fd := by
  obtain ⟨⟨oc, od, dV, kV, doc, pm, an, cdv, ct, osl, e, lk, hcd, hd, hk⟩, kp⟩ := F
  rcases hd with ⟨_, rfl⟩ | ⟨h, _⟩
  · exact ⟨⟨oc, od, kV, doc, pm, an, cdv, ct, osl, e, lk, hcd⟩, kp⟩
  · exact absurd rfl h
theorem kx_lasso_error_value_k {K : PySem.W.Frag} {f : Addr} {fd : FuncData} (F : Fun K "lasso_error" "lasso_error" s_lasso_error f fd) : KBinds K fd ["k", "value"] ["value", "k"] kg_lasso_error_value_k kv_lasso_error_value_k := by
  refine kb_mk F (fun kV doc pm an cdv ct us ws hl => ?_) (fun {vs us zs ws} r1 r2 => ?_)
  · match us, ws, hl with
    | [], [w0, w1], _ => rfl
    | [], [], hl => cases hl
    | [], [_], hl => cases hl
    | [], _ :: _ :: _ :: _, hl => cases hl
    | _ :: _, _, hl => cases hl
  · cases r1 with
    | cons _ _ => exact .nil
    | nil =>
      cases r2 with
      | nil => exact .nil
      | cons h0 r2 =>
        cases r2 with
        | nil => exact .nil
        | cons h1 r2 =>
          cases r2 with
          | cons _ _ => exact .nil
          | nil => exact (.cons h1 (.cons h0 .nil))
theorem kx_letter_at_i_lasso {K : PySem.W.Frag} {f : Addr} {fd : FuncData} (F : Fun K "letter_at" "letter_at" s_letter_at f fd) : KBinds K fd ["lasso", "i"] ["i", "lasso"] kg_letter_at_i_lasso kv_letter_at_i_lasso := by
  refine kb_mk F (fun kV doc pm an cdv ct us ws hl => ?_) (fun {vs us zs ws} r1 r2 => ?_)
  · match us, ws, hl with
    | [], [w0, w1], _ => rfl
    | [], [], hl => cases hl
    | [], [_], hl => cases hl
    | [], _ :: _ :: _ :: _, hl => cases hl
    | _ :: _, _, hl => cases hl
  · cases r1 with
    | cons _ _ => exact .nil
    | nil =>
      cases r2 with
      | nil => exact .nil
      | cons h0 r2 =>
        cases r2 with
        | nil => exact .nil
        | cons h1 r2 =>
          cases r2 with
          | cons _ _ => exact .nil
          | nil => exact (.cons h1 (.cons h0 .nil))
theorem kx_least_lasso_lasso {K : PySem.W.Frag} {f : Addr} {fd : FuncData} (F : Fun K "least_lasso" "least_lasso" s_least_lasso f fd) : KBinds K fd ["lasso"] ["lasso"] kg_least_lasso_lasso kv_least_lasso_lasso := by
  refine kb_mk F (fun kV doc pm an cdv ct us ws hl => ?_) (fun {vs us zs ws} r1 r2 => ?_)
  · match us, ws, hl with
    | [], [w0], _ => rfl
    | [], [], hl => cases hl
    | [], _ :: _ :: _, hl => cases hl
    | _ :: _, _, hl => cases hl
  · cases r1 with
    | cons _ _ => exact .nil
    | nil =>
      cases r2 with
      | nil => exact .nil
      | cons h0 r2 =>
        cases r2 with
        | cons _ _ => exact .nil
        | nil => exact (.cons h0 .nil)
theorem kx_shifted_lasso_i_lasso {K : PySem.W.Frag} {f : Addr} {fd : FuncData} (F : Fun K "shifted_lasso" "shifted_lasso" s_shifted_lasso f fd) : KBinds K fd ["lasso", "i"] ["i", "lasso"] kg_shifted_lasso_i_lasso kv_shifted_lasso_i_lasso := by
  refine kb_mk F (fun kV doc pm an cdv ct us ws hl => ?_) (fun {vs us zs ws} r1 r2 => ?_)
  · match us, ws, hl with
    | [], [w0, w1], _ => rfl
    | [], [], hl => cases hl
    | [], [_], hl => cases hl
    | [], _ :: _ :: _ :: _, hl => cases hl
    | _ :: _, _, hl => cases hl
  · cases r1 with
    | cons _ _ => exact .nil
    | nil =>
      cases r2 with
      | nil => exact .nil
      | cons h0 r2 =>
        cases r2 with
        | nil => exact .nil
        | cons h1 r2 =>
          cases r2 with
          | cons _ _ => exact .nil
          | nil => exact (.cons h1 (.cons h0 .nil))
theorem kx_first_apart_other_one {K : PySem.W.Frag} {f : Addr} {fd : FuncData} (F : Fun K "first_apart" "first_apart" s_first_apart f fd) : KBinds K fd ["one", "other"] ["other", "one"] kg_first_apart_other_one kv_first_apart_other_one := by
  refine kb_mk F (fun kV doc pm an cdv ct us ws hl => ?_) (fun {vs us zs ws} r1 r2 => ?_)
  · match us, ws, hl with
    | [], [w0, w1], _ => rfl
    | [], [], hl => cases hl
    | [], [_], hl => cases hl
    | [], _ :: _ :: _ :: _, hl => cases hl
    | _ :: _, _, hl => cases hl
  · cases r1 with
    | cons _ _ => exact .nil
    | nil =>
      cases r2 with
      | nil => exact .nil
      | cons h0 r2 =>
        cases r2 with
        | nil => exact .nil
        | cons h1 r2 =>
          cases r2 with
          | cons _ _ => exact .nil
          | nil => exact (.cons h1 (.cons h0 .nil))
theorem kx_again_letters_lasso {K : PySem.W.Frag} {f : Addr} {fd : FuncData} (F : Fun K "again_letters" "again_letters" s_again_letters f fd) : KBinds K fd ["lasso"] ["lasso"] kg_again_letters_lasso kv_again_letters_lasso := by
  refine kb_mk F (fun kV doc pm an cdv ct us ws hl => ?_) (fun {vs us zs ws} r1 r2 => ?_)
  · match us, ws, hl with
    | [], [w0], _ => rfl
    | [], [], hl => cases hl
    | [], _ :: _ :: _, hl => cases hl
    | _ :: _, _, hl => cases hl
  · cases r1 with
    | cons _ _ => exact .nil
    | nil =>
      cases r2 with
      | nil => exact .nil
      | cons h0 r2 =>
        cases r2 with
        | cons _ _ => exact .nil
        | nil => exact (.cons h0 .nil)
theorem kx_led_error_value_m_k {K : PySem.W.Frag} {f : Addr} {fd : FuncData} (F : Fun K "led_error" "led_error" s_led_error f fd) : KBinds K fd ["k", "m", "value"] ["value", "m", "k"] kg_led_error_value_m_k kv_led_error_value_m_k := by
  refine kb_mk F (fun kV doc pm an cdv ct us ws hl => ?_) (fun {vs us zs ws} r1 r2 => ?_)
  · match us, ws, hl with
    | [], [w0, w1, w2], _ => rfl
    | [], [], hl => cases hl
    | [], [_], hl => cases hl
    | [], [_, _], hl => cases hl
    | [], _ :: _ :: _ :: _ :: _, hl => cases hl
    | _ :: _, _, hl => cases hl
  · cases r1 with
    | cons _ _ => exact .nil
    | nil =>
      cases r2 with
      | nil => exact .nil
      | cons h0 r2 =>
        cases r2 with
        | nil => exact .nil
        | cons h1 r2 =>
          cases r2 with
          | nil => exact .nil
          | cons h2 r2 =>
            cases r2 with
            | cons _ _ => exact .nil
            | nil => exact (.cons h2 (.cons h1 (.cons h0 .nil)))
theorem kx_map_of_word_maps_n {K : PySem.W.Frag} {f : Addr} {fd : FuncData} (F : Fun K "map_of" "map_of" s_map_of f fd) : KBinds K fd ["n", "maps", "word"] ["word", "maps", "n"] kg_map_of_word_maps_n kv_map_of_word_maps_n := by
  refine kb_mk F (fun kV doc pm an cdv ct us ws hl => ?_) (fun {vs us zs ws} r1 r2 => ?_)
  · match us, ws, hl with
    | [], [w0, w1, w2], _ => rfl
    | [], [], hl => cases hl
    | [], [_], hl => cases hl
    | [], [_, _], hl => cases hl
    | [], _ :: _ :: _ :: _ :: _, hl => cases hl
    | _ :: _, _, hl => cases hl
  · cases r1 with
    | cons _ _ => exact .nil
    | nil =>
      cases r2 with
      | nil => exact .nil
      | cons h0 r2 =>
        cases r2 with
        | nil => exact .nil
        | cons h1 r2 =>
          cases r2 with
          | nil => exact .nil
          | cons h2 r2 =>
            cases r2 with
            | cons _ _ => exact .nil
            | nil => exact (.cons h2 (.cons h1 (.cons h0 .nil)))
theorem kx_moved_word_word_move {K : PySem.W.Frag} {f : Addr} {fd : FuncData} (F : Fun K "moved_word" "moved_word" s_moved_word f fd) : KBinds K fd ["move", "word"] ["word", "move"] kg_moved_word_word_move kv_moved_word_word_move := by
  refine kb_mk F (fun kV doc pm an cdv ct us ws hl => ?_) (fun {vs us zs ws} r1 r2 => ?_)
  · match us, ws, hl with
    | [], [w0, w1], _ => rfl
    | [], [], hl => cases hl
    | [], [_], hl => cases hl
    | [], _ :: _ :: _ :: _, hl => cases hl
    | _ :: _, _, hl => cases hl
  · cases r1 with
    | cons _ _ => exact .nil
    | nil =>
      cases r2 with
      | nil => exact .nil
      | cons h0 r2 =>
        cases r2 with
        | nil => exact .nil
        | cons h1 r2 =>
          cases r2 with
          | cons _ _ => exact .nil
          | nil => exact (.cons h1 (.cons h0 .nil))
theorem kx_map_round_own {K : PySem.W.Frag} {f : Addr} {fd : FuncData} (F : Fun K "map_round" "map_round" s_map_round f fd) : KBinds K fd ["own"] ["own"] kg_map_round_own kv_map_round_own := by
  refine kb_mk F (fun kV doc pm an cdv ct us ws hl => ?_) (fun {vs us zs ws} r1 r2 => ?_)
  · match us, ws, hl with
    | [], [w0], _ => rfl
    | [], [], hl => cases hl
    | [], _ :: _ :: _, hl => cases hl
    | _ :: _, _, hl => cases hl
  · cases r1 with
    | cons _ _ => exact .nil
    | nil =>
      cases r2 with
      | nil => exact .nil
      | cons h0 r2 =>
        cases r2 with
        | cons _ _ => exact .nil
        | nil => exact (.cons h0 .nil)
def fnL : List He.DefD := [⟨("is_number", none), "is_number", "is_number", defArgs s_is_number, defBody s_is_number, defScope s_is_number, [], []⟩,
  ⟨("is_within", none), "is_within", "is_within", defArgs s_is_within, defBody s_is_within, defScope s_is_within, [], []⟩,
  ⟨("word_error", none), "word_error", "word_error", defArgs s_word_error, defBody s_word_error, defScope s_word_error, [], []⟩,
  ⟨("lasso_error", none), "lasso_error", "lasso_error", defArgs s_lasso_error, defBody s_lasso_error, defScope s_lasso_error, [], []⟩,
  ⟨("letter_at", none), "letter_at", "letter_at", defArgs s_letter_at, defBody s_letter_at, defScope s_letter_at, [], []⟩,
  ⟨("root_of", none), "root_of", "root_of", defArgs s_root_of, defBody s_root_of, defScope s_root_of, [], []⟩,
  ⟨("least_lasso", none), "least_lasso", "least_lasso", defArgs s_least_lasso, defBody s_least_lasso, defScope s_least_lasso, [], []⟩,
  ⟨("shifted_lasso", none), "shifted_lasso", "shifted_lasso", defArgs s_shifted_lasso, defBody s_shifted_lasso, defScope s_shifted_lasso, [], []⟩,
  ⟨("first_apart", none), "first_apart", "first_apart", defArgs s_first_apart, defBody s_first_apart, defScope s_first_apart, [], []⟩,
  ⟨("again_letters", none), "again_letters", "again_letters", defArgs s_again_letters, defBody s_again_letters, defScope s_again_letters, [], []⟩,
  ⟨("is_out", none), "is_out", "is_out", defArgs s_is_out, defBody s_is_out, defScope s_is_out, [], []⟩,
  ⟨("is_arc", none), "is_arc", "is_arc", defArgs s_is_arc, defBody s_is_arc, defScope s_is_arc, [], []⟩,
  ⟨("is_end", none), "is_end", "is_end", defArgs s_is_end, defBody s_is_end, defScope s_is_end, [], []⟩,
  ⟨("first_fault", none), "first_fault", "first_fault", defArgs s_first_fault, defBody s_first_fault, defScope s_first_fault, [], []⟩,
  ⟨("led_error", none), "led_error", "led_error", defArgs s_led_error, defBody s_led_error, defScope s_led_error, [], []⟩,
  ⟨("in_length_order", none), "in_length_order", "in_length_order", defArgs s_in_length_order, defBody s_in_length_order, defScope s_in_length_order, [], []⟩,
  ⟨("live_rows", none), "live_rows", "live_rows", defArgs s_live_rows, defBody s_live_rows, defScope s_live_rows, [], []⟩,
  ⟨("written_behind", none), "written_behind", "written_behind", defArgs s_written_behind, defBody s_written_behind, defScope s_written_behind, [], []⟩,
  ⟨("answers_of", none), "answers_of", "answers_of", defArgs s_answers_of, defBody s_answers_of, defScope s_answers_of, [], []⟩,
  ⟨("is_steady", none), "is_steady", "is_steady", defArgs s_is_steady, defBody s_is_steady, defScope s_is_steady, [], []⟩,
  ⟨("maps_error", none), "maps_error", "maps_error", defArgs s_maps_error, defBody s_maps_error, defScope s_maps_error, [], []⟩,
  ⟨("then_map", none), "then_map", "then_map", defArgs s_then_map, defBody s_then_map, defScope s_then_map, [], []⟩,
  ⟨("map_of", none), "map_of", "map_of", defArgs s_map_of, defBody s_map_of, defScope s_map_of, [], []⟩,
  ⟨("moved_word", none), "moved_word", "moved_word", defArgs s_moved_word, defBody s_moved_word, defScope s_moved_word, [], []⟩,
  ⟨("map_powers", none), "map_powers", "map_powers", defArgs s_map_powers, defBody s_map_powers, defScope s_map_powers, [], []⟩,
  ⟨("map_round", none), "map_round", "map_round", defArgs s_map_round, defBody s_map_round, defScope s_map_round, [], []⟩,
  ⟨("_law_own_bag", none), "_law_own_bag", "_law_own_bag", defArgs s_law_own_bag, defBody s_law_own_bag, defScope s_law_own_bag, [], []⟩,
  ⟨("_law_draw", none), "_law_draw", "_law_draw", defArgs s_law_draw, defBody s_law_draw, defScope s_law_draw, [], []⟩,
  ⟨("_law_pick", none), "_law_pick", "_law_pick", defArgs s_law_pick, defBody s_law_pick, defScope s_law_pick, [], []⟩,
  ⟨("_law_same", none), "_law_same", "_law_same", defArgs s_law_same, defBody s_law_same, defScope s_law_same, [], []⟩,
  ⟨("_law_led", none), "_law_led", "_law_led", defArgs s_law_led, defBody s_law_led, defScope s_law_led, [], []⟩,
  ⟨("_law_lasso", none), "_law_lasso", "_law_lasso", defArgs s_law_lasso, defBody s_law_lasso, defScope s_law_lasso, [], []⟩,
  ⟨("_law_at", none), "_law_at", "_law_at", defArgs s_law_at, defBody s_law_at, defScope s_law_at, [], []⟩,
  ⟨("_law_least", none), "_law_least", "_law_least", defArgs s_law_least, defBody s_law_least, defScope s_law_least, [], []⟩,
  ⟨("_law_shift", none), "_law_shift", "_law_shift", defArgs s_law_shift, defBody s_law_shift, defScope s_law_shift, [], []⟩,
  ⟨("_law_go", none), "_law_go", "_law_go", defArgs s_law_go, defBody s_law_go, defScope s_law_go, [], []⟩,
  ⟨("_law_through", none), "_law_through", "_law_through", defArgs s_law_through, defBody s_law_through, defScope s_law_through, [], []⟩,
  ⟨("_law_are_letters", none), "_law_are_letters", "_law_are_letters", defArgs s_law_are_letters, defBody s_law_are_letters, defScope s_law_are_letters, [], []⟩,
  ⟨("_law_is_led", none), "_law_is_led", "_law_is_led", defArgs s_law_is_led, defBody s_law_is_led, defScope s_law_is_led, [], []⟩,
  ⟨("_law_is_moved", none), "_law_is_moved", "_law_is_moved", defArgs s_law_is_moved, defBody s_law_is_moved, defScope s_law_is_moved, [], []⟩,
  ⟨("_law_are_judged", none), "_law_are_judged", "_law_are_judged", defArgs s_law_are_judged, defBody s_law_are_judged, defScope s_law_are_judged, [], []⟩,
  ⟨("law", none), "law", "law", defArgs s_law, defBody s_law, defScope s_law, [], []⟩]
def faL : List He.Fa := ([.glo "is_number", .glo "is_within", .glo "word_error", .glo "lasso_error", .glo "letter_at", .glo "root_of", .glo "least_lasso", .glo "shifted_lasso", .glo "first_apart", .glo "again_letters", .glo "is_out", .glo "is_arc", .glo "is_end", .glo "first_fault", .glo "led_error", .glo "in_length_order", .glo "live_rows", .glo "written_behind", .glo "answers_of", .glo "is_steady", .glo "maps_error", .glo "then_map", .glo "map_of", .glo "moved_word", .glo "map_powers", .glo "map_round", .glo "_law_own_bag", .glo "_law_draw", .glo "_law_pick", .glo "_law_same"] : List He.Fa) ++ ([.glo "_law_led", .glo "_law_lasso", .glo "_law_at", .glo "_law_least", .glo "_law_shift", .glo "_law_go", .glo "_law_through", .glo "_law_are_letters", .glo "_law_is_led", .glo "_law_is_moved", .glo "_law_are_judged", .glo "law", .free "isinstance", .free "bool", .free "int", .free "all", .free "tuple", .free "len", .free "enumerate", .free "max", .free "range", .free "sorted", .free "set", .free "dict", .free "any", .free "abs", .free "list", .free "reversed", .free "zip", .free "str"] : List He.Fa) ++ ([.free "repr", .int "MAX_LENGTH" 40, .int "MAX_LASSO" 12, .int "MAX_OUT" 4, .int "MAX_STATES" 6, .int "MAX_ARCS" 40, .int "MAX_LISTED" 500] : List He.Fa)
abbrev Rw : PySem.W.OpenRow := PySem.W.OpenLaw.row PySem.Challenge.rw_wordvalues_k23_whole_endless_words_led
abbrev hkH : PySem.W.Hook := He.hookD 3 faL fnL
def obH (s : PySem.W.SharedT) : He.AlD := He.obsDG 3 faL fnL (HandSHeadRun.getT s)
theorem obH_eq (s : PySem.W.SharedT) : obH s = hkH.obs s.abs := He.obsDG_eq (HandSHeadRun.getT_eq s)
def looseH : List Str := (["MAX_STATES", "MAX_LENGTH", "MAX_LISTED", "MAX_OUT", "MAX_ARCS", "MAX_LASSO", "is_number", "is_within", "word_error", "lasso_error", "letter_at", "root_of", "least_lasso", "shifted_lasso", "first_apart", "WordError", "TooMany", "again_letters", "is_out", "is_arc", "is_end", "first_fault", "led_error", "in_length_order", "live_rows", "written_behind", "answers_of", "is_steady", "maps_error", "then_map"] : List Str) ++ (["map_of", "moved_word", "map_powers", "map_round", "_law_own_bag", "_law_draw", "_law_pick", "_law_same", "_law_led", "_law_lasso", "_law_at", "_law_least", "_law_shift", "_law_go", "_law_through", "_law_are_letters", "_law_is_led", "_law_is_moved", "_law_are_judged"] : List Str)
set_option maxHeartbeats 0 in
theorem runH (w : World) : HandSHeadRun.RunEq Rw (PySem.W.view Rw.prog [59]) hkH obH 3000 looseH w := by
  intro os
  kernel_rfl
theorem factsH {P : Program} {w : World} {K : PySem.W.Frag} {h : Heap} {mg : Str → Option Value} {f : Addr} (X : K.In h) (G : h.Ns mainGlobals mg) (hfa : mg ("law" : Str) = some (.ref f)) (c : He.SaysD faL fnL K) :
    ∃ T : Txt K mg, T.f_law = f := by
  obtain ⟨d0, D0⟩ := c.def_ 0 (d := ⟨("is_number", none), "is_number", "is_number", defArgs s_is_number, defBody s_is_number, defScope s_is_number, [], []⟩) rfl
  have F0 := fun_of (st := s_is_number) D0
  obtain ⟨d1, D1⟩ := c.def_ 1 (d := ⟨("is_within", none), "is_within", "is_within", defArgs s_is_within, defBody s_is_within, defScope s_is_within, [], []⟩) rfl
  have F1 := fun_of (st := s_is_within) D1
  obtain ⟨d2, D2⟩ := c.def_ 2 (d := ⟨("word_error", none), "word_error", "word_error", defArgs s_word_error, defBody s_word_error, defScope s_word_error, [], []⟩) rfl
  have F2 := fun_of (st := s_word_error) D2
  obtain ⟨d3, D3⟩ := c.def_ 3 (d := ⟨("lasso_error", none), "lasso_error", "lasso_error", defArgs s_lasso_error, defBody s_lasso_error, defScope s_lasso_error, [], []⟩) rfl
  have F3 := fun_of (st := s_lasso_error) D3
  obtain ⟨d4, D4⟩ := c.def_ 4 (d := ⟨("letter_at", none), "letter_at", "letter_at", defArgs s_letter_at, defBody s_letter_at, defScope s_letter_at, [], []⟩) rfl
  have F4 := fun_of (st := s_letter_at) D4
  obtain ⟨d5, D5⟩ := c.def_ 5 (d := ⟨("root_of", none), "root_of", "root_of", defArgs s_root_of, defBody s_root_of, defScope s_root_of, [], []⟩) rfl
  have F5 := fun_of (st := s_root_of) D5
  obtain ⟨d6, D6⟩ := c.def_ 6 (d := ⟨("least_lasso", none), "least_lasso", "least_lasso", defArgs s_least_lasso, defBody s_least_lasso, defScope s_least_lasso, [], []⟩) rfl
  have F6 := fun_of (st := s_least_lasso) D6
  obtain ⟨d7, D7⟩ := c.def_ 7 (d := ⟨("shifted_lasso", none), "shifted_lasso", "shifted_lasso", defArgs s_shifted_lasso, defBody s_shifted_lasso, defScope s_shifted_lasso, [], []⟩) rfl
  have F7 := fun_of (st := s_shifted_lasso) D7
  obtain ⟨d8, D8⟩ := c.def_ 8 (d := ⟨("first_apart", none), "first_apart", "first_apart", defArgs s_first_apart, defBody s_first_apart, defScope s_first_apart, [], []⟩) rfl
  have F8 := fun_of (st := s_first_apart) D8
  obtain ⟨d9, D9⟩ := c.def_ 9 (d := ⟨("again_letters", none), "again_letters", "again_letters", defArgs s_again_letters, defBody s_again_letters, defScope s_again_letters, [], []⟩) rfl
  have F9 := fun_of (st := s_again_letters) D9
  obtain ⟨d10, D10⟩ := c.def_ 10 (d := ⟨("is_out", none), "is_out", "is_out", defArgs s_is_out, defBody s_is_out, defScope s_is_out, [], []⟩) rfl
  have F10 := fun_of (st := s_is_out) D10
  obtain ⟨d11, D11⟩ := c.def_ 11 (d := ⟨("is_arc", none), "is_arc", "is_arc", defArgs s_is_arc, defBody s_is_arc, defScope s_is_arc, [], []⟩) rfl
  have F11 := fun_of (st := s_is_arc) D11
  obtain ⟨d12, D12⟩ := c.def_ 12 (d := ⟨("is_end", none), "is_end", "is_end", defArgs s_is_end, defBody s_is_end, defScope s_is_end, [], []⟩) rfl
  have F12 := fun_of (st := s_is_end) D12
  obtain ⟨d13, D13⟩ := c.def_ 13 (d := ⟨("first_fault", none), "first_fault", "first_fault", defArgs s_first_fault, defBody s_first_fault, defScope s_first_fault, [], []⟩) rfl
  have F13 := fun_of (st := s_first_fault) D13
  obtain ⟨d14, D14⟩ := c.def_ 14 (d := ⟨("led_error", none), "led_error", "led_error", defArgs s_led_error, defBody s_led_error, defScope s_led_error, [], []⟩) rfl
  have F14 := fun_of (st := s_led_error) D14
  obtain ⟨d15, D15⟩ := c.def_ 15 (d := ⟨("in_length_order", none), "in_length_order", "in_length_order", defArgs s_in_length_order, defBody s_in_length_order, defScope s_in_length_order, [], []⟩) rfl
  have F15 := fun_of (st := s_in_length_order) D15
  obtain ⟨d16, D16⟩ := c.def_ 16 (d := ⟨("live_rows", none), "live_rows", "live_rows", defArgs s_live_rows, defBody s_live_rows, defScope s_live_rows, [], []⟩) rfl
  have F16 := fun_of (st := s_live_rows) D16
  obtain ⟨d17, D17⟩ := c.def_ 17 (d := ⟨("written_behind", none), "written_behind", "written_behind", defArgs s_written_behind, defBody s_written_behind, defScope s_written_behind, [], []⟩) rfl
  have F17 := fun_of (st := s_written_behind) D17
  obtain ⟨d18, D18⟩ := c.def_ 18 (d := ⟨("answers_of", none), "answers_of", "answers_of", defArgs s_answers_of, defBody s_answers_of, defScope s_answers_of, [], []⟩) rfl
  have F18 := fun_of (st := s_answers_of) D18
  obtain ⟨d19, D19⟩ := c.def_ 19 (d := ⟨("is_steady", none), "is_steady", "is_steady", defArgs s_is_steady, defBody s_is_steady, defScope s_is_steady, [], []⟩) rfl
  have F19 := fun_of (st := s_is_steady) D19
  obtain ⟨d20, D20⟩ := c.def_ 20 (d := ⟨("maps_error", none), "maps_error", "maps_error", defArgs s_maps_error, defBody s_maps_error, defScope s_maps_error, [], []⟩) rfl
  have F20 := fun_of (st := s_maps_error) D20
  obtain ⟨d21, D21⟩ := c.def_ 21 (d := ⟨("then_map", none), "then_map", "then_map", defArgs s_then_map, defBody s_then_map, defScope s_then_map, [], []⟩) rfl
  have F21 := fun_of (st := s_then_map) D21
  obtain ⟨d22, D22⟩ := c.def_ 22 (d := ⟨("map_of", none), "map_of", "map_of", defArgs s_map_of, defBody s_map_of, defScope s_map_of, [], []⟩) rfl
  have F22 := fun_of (st := s_map_of) D22
  obtain ⟨d23, D23⟩ := c.def_ 23 (d := ⟨("moved_word", none), "moved_word", "moved_word", defArgs s_moved_word, defBody s_moved_word, defScope s_moved_word, [], []⟩) rfl
  have F23 := fun_of (st := s_moved_word) D23
  obtain ⟨d24, D24⟩ := c.def_ 24 (d := ⟨("map_powers", none), "map_powers", "map_powers", defArgs s_map_powers, defBody s_map_powers, defScope s_map_powers, [], []⟩) rfl
  have F24 := fun_of (st := s_map_powers) D24
  obtain ⟨d25, D25⟩ := c.def_ 25 (d := ⟨("map_round", none), "map_round", "map_round", defArgs s_map_round, defBody s_map_round, defScope s_map_round, [], []⟩) rfl
  have F25 := fun_of (st := s_map_round) D25
  obtain ⟨d26, D26⟩ := c.def_ 26 (d := ⟨("_law_own_bag", none), "_law_own_bag", "_law_own_bag", defArgs s_law_own_bag, defBody s_law_own_bag, defScope s_law_own_bag, [], []⟩) rfl
  have F26 := fun_of (st := s_law_own_bag) D26
  obtain ⟨d27, D27⟩ := c.def_ 27 (d := ⟨("_law_draw", none), "_law_draw", "_law_draw", defArgs s_law_draw, defBody s_law_draw, defScope s_law_draw, [], []⟩) rfl
  have F27 := fun_of (st := s_law_draw) D27
  obtain ⟨d28, D28⟩ := c.def_ 28 (d := ⟨("_law_pick", none), "_law_pick", "_law_pick", defArgs s_law_pick, defBody s_law_pick, defScope s_law_pick, [], []⟩) rfl
  have F28 := fun_of (st := s_law_pick) D28
  obtain ⟨d29, D29⟩ := c.def_ 29 (d := ⟨("_law_same", none), "_law_same", "_law_same", defArgs s_law_same, defBody s_law_same, defScope s_law_same, [], []⟩) rfl
  have F29 := fun_of (st := s_law_same) D29
  obtain ⟨d30, D30⟩ := c.def_ 30 (d := ⟨("_law_led", none), "_law_led", "_law_led", defArgs s_law_led, defBody s_law_led, defScope s_law_led, [], []⟩) rfl
  have F30 := fun_of (st := s_law_led) D30
  obtain ⟨d31, D31⟩ := c.def_ 31 (d := ⟨("_law_lasso", none), "_law_lasso", "_law_lasso", defArgs s_law_lasso, defBody s_law_lasso, defScope s_law_lasso, [], []⟩) rfl
  have F31 := fun_of (st := s_law_lasso) D31
  obtain ⟨d32, D32⟩ := c.def_ 32 (d := ⟨("_law_at", none), "_law_at", "_law_at", defArgs s_law_at, defBody s_law_at, defScope s_law_at, [], []⟩) rfl
  have F32 := fun_of (st := s_law_at) D32
  obtain ⟨d33, D33⟩ := c.def_ 33 (d := ⟨("_law_least", none), "_law_least", "_law_least", defArgs s_law_least, defBody s_law_least, defScope s_law_least, [], []⟩) rfl
  have F33 := fun_of (st := s_law_least) D33
  obtain ⟨d34, D34⟩ := c.def_ 34 (d := ⟨("_law_shift", none), "_law_shift", "_law_shift", defArgs s_law_shift, defBody s_law_shift, defScope s_law_shift, [], []⟩) rfl
  have F34 := fun_of (st := s_law_shift) D34
  obtain ⟨d35, D35⟩ := c.def_ 35 (d := ⟨("_law_go", none), "_law_go", "_law_go", defArgs s_law_go, defBody s_law_go, defScope s_law_go, [], []⟩) rfl
  have F35 := fun_of (st := s_law_go) D35
  obtain ⟨d36, D36⟩ := c.def_ 36 (d := ⟨("_law_through", none), "_law_through", "_law_through", defArgs s_law_through, defBody s_law_through, defScope s_law_through, [], []⟩) rfl
  have F36 := fun_of (st := s_law_through) D36
  obtain ⟨d37, D37⟩ := c.def_ 37 (d := ⟨("_law_are_letters", none), "_law_are_letters", "_law_are_letters", defArgs s_law_are_letters, defBody s_law_are_letters, defScope s_law_are_letters, [], []⟩) rfl
  have F37 := fun_of (st := s_law_are_letters) D37
  obtain ⟨d38, D38⟩ := c.def_ 38 (d := ⟨("_law_is_led", none), "_law_is_led", "_law_is_led", defArgs s_law_is_led, defBody s_law_is_led, defScope s_law_is_led, [], []⟩) rfl
  have F38 := fun_of (st := s_law_is_led) D38
  obtain ⟨d39, D39⟩ := c.def_ 39 (d := ⟨("_law_is_moved", none), "_law_is_moved", "_law_is_moved", defArgs s_law_is_moved, defBody s_law_is_moved, defScope s_law_is_moved, [], []⟩) rfl
  have F39 := fun_of (st := s_law_is_moved) D39
  obtain ⟨d40, D40⟩ := c.def_ 40 (d := ⟨("_law_are_judged", none), "_law_are_judged", "_law_are_judged", defArgs s_law_are_judged, defBody s_law_are_judged, defScope s_law_are_judged, [], []⟩) rfl
  have F40 := fun_of (st := s_law_are_judged) D40
  obtain ⟨d41, D41⟩ := c.def_ 41 (d := ⟨("law", none), "law", "law", defArgs s_law, defBody s_law, defScope s_law, [], []⟩) rfl
  have F41 := fun_of (st := s_law) D41
  obtain ⟨t0, c0⟩ := He.int_ok X G (c.fact 61 (f := .int "MAX_LENGTH" 40) rfl)
  obtain ⟨t1, c1⟩ := He.int_ok X G (c.fact 62 (f := .int "MAX_LASSO" 12) rfl)
  obtain ⟨t2, c2⟩ := He.int_ok X G (c.fact 63 (f := .int "MAX_OUT" 4) rfl)
  obtain ⟨t3, c3⟩ := He.int_ok X G (c.fact 64 (f := .int "MAX_STATES" 6) rfl)
  obtain ⟨t4, c4⟩ := He.int_ok X G (c.fact 65 (f := .int "MAX_ARCS" 40) rfl)
  obtain ⟨t5, c5⟩ := He.int_ok X G (c.fact 66 (f := .int "MAX_LISTED" 500) rfl)
  refine ⟨{
    m_isinstance := He.free_ok X G (c.fact 42 (f := .free "isinstance") rfl)
    m_bool := He.free_ok X G (c.fact 43 (f := .free "bool") rfl)
    m_int := He.free_ok X G (c.fact 44 (f := .free "int") rfl)
    m_all := He.free_ok X G (c.fact 45 (f := .free "all") rfl)
    m_tuple := He.free_ok X G (c.fact 46 (f := .free "tuple") rfl)
    m_len := He.free_ok X G (c.fact 47 (f := .free "len") rfl)
    m_enumerate := He.free_ok X G (c.fact 48 (f := .free "enumerate") rfl)
    m_max := He.free_ok X G (c.fact 49 (f := .free "max") rfl)
    m_range := He.free_ok X G (c.fact 50 (f := .free "range") rfl)
    m_sorted := He.free_ok X G (c.fact 51 (f := .free "sorted") rfl)
    m_set := He.free_ok X G (c.fact 52 (f := .free "set") rfl)
    m_dict := He.free_ok X G (c.fact 53 (f := .free "dict") rfl)
    m_any := He.free_ok X G (c.fact 54 (f := .free "any") rfl)
    m_abs := He.free_ok X G (c.fact 55 (f := .free "abs") rfl)
    m_list := He.free_ok X G (c.fact 56 (f := .free "list") rfl)
    m_reversed := He.free_ok X G (c.fact 57 (f := .free "reversed") rfl)
    m_zip := He.free_ok X G (c.fact 58 (f := .free "zip") rfl)
    m_str := He.free_ok X G (c.fact 59 (f := .free "str") rfl)
    m_repr := He.free_ok X G (c.fact 60 (f := .free "repr") rfl)
    t_MAX_LENGTH := t0
    c_MAX_LENGTH := c0
    t_MAX_LASSO := t1
    c_MAX_LASSO := c1
    t_MAX_OUT := t2
    c_MAX_OUT := c2
    t_MAX_STATES := t3
    c_MAX_STATES := c3
    t_MAX_ARCS := t4
    c_MAX_ARCS := c4
    t_MAX_LISTED := t5
    c_MAX_LISTED := c5
    f_is_number := _
    d_is_number := d0
    F_is_number := F0
    g_is_number := He.glo_ok X G (c.fact 0 (f := .glo "is_number") rfl)
    b_is_number := F0.binds (ps := ["value"]) fun _ _ _ _ _ _ us hl => match us, hl with | [_], _ => rfl
    f_is_within := _
    d_is_within := d1
    F_is_within := F1
    g_is_within := He.glo_ok X G (c.fact 1 (f := .glo "is_within") rfl)
    b_is_within := F1.binds (ps := ["value", "low", "high"]) fun _ _ _ _ _ _ us hl => match us, hl with | [_, _, _], _ => rfl
    f_word_error := _
    d_word_error := d2
    F_word_error := F2
    g_word_error := He.glo_ok X G (c.fact 2 (f := .glo "word_error") rfl)
    b_word_error := F2.binds (ps := ["k", "value"]) fun _ _ _ _ _ _ us hl => match us, hl with | [_, _], _ => rfl
    f_lasso_error := _
    d_lasso_error := d3
    F_lasso_error := F3
    g_lasso_error := He.glo_ok X G (c.fact 3 (f := .glo "lasso_error") rfl)
    b_lasso_error := F3.binds (ps := ["k", "value"]) fun _ _ _ _ _ _ us hl => match us, hl with | [_, _], _ => rfl
    k_lasso_error_value_k := kx_lasso_error_value_k F3
    f_letter_at := _
    d_letter_at := d4
    F_letter_at := F4
    g_letter_at := He.glo_ok X G (c.fact 4 (f := .glo "letter_at") rfl)
    b_letter_at := F4.binds (ps := ["lasso", "i"]) fun _ _ _ _ _ _ us hl => match us, hl with | [_, _], _ => rfl
    k_letter_at_i_lasso := kx_letter_at_i_lasso F4
    f_root_of := _
    d_root_of := d5
    F_root_of := F5
    g_root_of := He.glo_ok X G (c.fact 5 (f := .glo "root_of") rfl)
    b_root_of := F5.binds (ps := ["word"]) fun _ _ _ _ _ _ us hl => match us, hl with | [_], _ => rfl
    f_least_lasso := _
    d_least_lasso := d6
    F_least_lasso := F6
    g_least_lasso := He.glo_ok X G (c.fact 6 (f := .glo "least_lasso") rfl)
    b_least_lasso := F6.binds (ps := ["lasso"]) fun _ _ _ _ _ _ us hl => match us, hl with | [_], _ => rfl
    k_least_lasso_lasso := kx_least_lasso_lasso F6
    f_shifted_lasso := _
    d_shifted_lasso := d7
    F_shifted_lasso := F7
    g_shifted_lasso := He.glo_ok X G (c.fact 7 (f := .glo "shifted_lasso") rfl)
    b_shifted_lasso := F7.binds (ps := ["lasso", "i"]) fun _ _ _ _ _ _ us hl => match us, hl with | [_, _], _ => rfl
    k_shifted_lasso_i_lasso := kx_shifted_lasso_i_lasso F7
    f_first_apart := _
    d_first_apart := d8
    F_first_apart := F8
    g_first_apart := He.glo_ok X G (c.fact 8 (f := .glo "first_apart") rfl)
    b_first_apart := F8.binds (ps := ["one", "other"]) fun _ _ _ _ _ _ us hl => match us, hl with | [_, _], _ => rfl
    k_first_apart_other_one := kx_first_apart_other_one F8
    f_again_letters := _
    d_again_letters := d9
    F_again_letters := F9
    g_again_letters := He.glo_ok X G (c.fact 9 (f := .glo "again_letters") rfl)
    b_again_letters := F9.binds (ps := ["lasso"]) fun _ _ _ _ _ _ us hl => match us, hl with | [_], _ => rfl
    k_again_letters_lasso := kx_again_letters_lasso F9
    f_is_out := _
    d_is_out := d10
    F_is_out := F10
    g_is_out := He.glo_ok X G (c.fact 10 (f := .glo "is_out") rfl)
    b_is_out := F10.binds (ps := ["m", "value"]) fun _ _ _ _ _ _ us hl => match us, hl with | [_, _], _ => rfl
    f_is_arc := _
    d_is_arc := d11
    F_is_arc := F11
    g_is_arc := He.glo_ok X G (c.fact 11 (f := .glo "is_arc") rfl)
    b_is_arc := F11.binds (ps := ["k", "m", "n", "value"]) fun _ _ _ _ _ _ us hl => match us, hl with | [_, _, _, _], _ => rfl
    f_is_end := _
    d_is_end := d12
    F_is_end := F12
    g_is_end := He.glo_ok X G (c.fact 12 (f := .glo "is_end") rfl)
    b_is_end := F12.binds (ps := ["m", "n", "value"]) fun _ _ _ _ _ _ us hl => match us, hl with | [_, _, _], _ => rfl
    f_first_fault := _
    d_first_fault := d13
    F_first_fault := F13
    g_first_fault := He.glo_ok X G (c.fact 13 (f := .glo "first_fault") rfl)
    b_first_fault := F13.binds (ps := ["items", "flags"]) fun _ _ _ _ _ _ us hl => match us, hl with | [_, _], _ => rfl
    f_led_error := _
    d_led_error := d14
    F_led_error := F14
    g_led_error := He.glo_ok X G (c.fact 14 (f := .glo "led_error") rfl)
    b_led_error := F14.binds (ps := ["k", "m", "value"]) fun _ _ _ _ _ _ us hl => match us, hl with | [_, _, _], _ => rfl
    k_led_error_value_m_k := kx_led_error_value_m_k F14
    f_in_length_order := _
    d_in_length_order := d15
    F_in_length_order := F15
    g_in_length_order := He.glo_ok X G (c.fact 15 (f := .glo "in_length_order") rfl)
    b_in_length_order := F15.binds (ps := ["words"]) fun _ _ _ _ _ _ us hl => match us, hl with | [_], _ => rfl
    f_live_rows := _
    d_live_rows := d16
    F_live_rows := F16
    g_live_rows := He.glo_ok X G (c.fact 16 (f := .glo "live_rows") rfl)
    b_live_rows := F16.binds (ps := ["led", "word"]) fun _ _ _ _ _ _ us hl => match us, hl with | [_, _], _ => rfl
    f_written_behind := _
    d_written_behind := d17
    F_written_behind := F17
    g_written_behind := He.glo_ok X G (c.fact 17 (f := .glo "written_behind") rfl)
    b_written_behind := F17.binds (ps := ["led", "word", "begins"]) fun _ _ _ _ _ _ us hl => match us, hl with | [_, _, _], _ => rfl
    f_answers_of := _
    d_answers_of := d18
    F_answers_of := F18
    g_answers_of := He.glo_ok X G (c.fact 18 (f := .glo "answers_of") rfl)
    b_answers_of := F18.binds (ps := ["led", "word"]) fun _ _ _ _ _ _ us hl => match us, hl with | [_, _], _ => rfl
    f_is_steady := _
    d_is_steady := d19
    F_is_steady := F19
    g_is_steady := He.glo_ok X G (c.fact 19 (f := .glo "is_steady") rfl)
    b_is_steady := F19.binds (ps := ["led"]) fun _ _ _ _ _ _ us hl => match us, hl with | [_], _ => rfl
    f_maps_error := _
    d_maps_error := d20
    F_maps_error := F20
    g_maps_error := He.glo_ok X G (c.fact 20 (f := .glo "maps_error") rfl)
    b_maps_error := F20.binds (ps := ["n", "k", "value"]) fun _ _ _ _ _ _ us hl => match us, hl with | [_, _, _], _ => rfl
    f_then_map := _
    d_then_map := d21
    F_then_map := F21
    g_then_map := He.glo_ok X G (c.fact 21 (f := .glo "then_map") rfl)
    b_then_map := F21.binds (ps := ["one", "other"]) fun _ _ _ _ _ _ us hl => match us, hl with | [_, _], _ => rfl
    f_map_of := _
    d_map_of := d22
    F_map_of := F22
    g_map_of := He.glo_ok X G (c.fact 22 (f := .glo "map_of") rfl)
    b_map_of := F22.binds (ps := ["n", "maps", "word"]) fun _ _ _ _ _ _ us hl => match us, hl with | [_, _, _], _ => rfl
    k_map_of_word_maps_n := kx_map_of_word_maps_n F22
    f_moved_word := _
    d_moved_word := d23
    F_moved_word := F23
    g_moved_word := He.glo_ok X G (c.fact 23 (f := .glo "moved_word") rfl)
    b_moved_word := F23.binds (ps := ["move", "word"]) fun _ _ _ _ _ _ us hl => match us, hl with | [_, _], _ => rfl
    k_moved_word_word_move := kx_moved_word_word_move F23
    f_map_powers := _
    d_map_powers := d24
    F_map_powers := F24
    g_map_powers := He.glo_ok X G (c.fact 24 (f := .glo "map_powers") rfl)
    b_map_powers := F24.binds (ps := ["own"]) fun _ _ _ _ _ _ us hl => match us, hl with | [_], _ => rfl
    f_map_round := _
    d_map_round := d25
    F_map_round := F25
    g_map_round := He.glo_ok X G (c.fact 25 (f := .glo "map_round") rfl)
    b_map_round := F25.binds (ps := ["own"]) fun _ _ _ _ _ _ us hl => match us, hl with | [_], _ => rfl
    k_map_round_own := kx_map_round_own F25
    f_law_own_bag := _
    d_law_own_bag := d26
    F_law_own_bag := F26
    g_law_own_bag := He.glo_ok X G (c.fact 26 (f := .glo "_law_own_bag") rfl)
    b_law_own_bag := F26.binds (ps := ["script"]) fun _ _ _ _ _ _ us hl => match us, hl with | [_], _ => rfl
    f_law_draw := _
    d_law_draw := d27
    F_law_draw := F27
    g_law_draw := He.glo_ok X G (c.fact 27 (f := .glo "_law_draw") rfl)
    b_law_draw := F27.binds (ps := ["bag", "below"]) fun _ _ _ _ _ _ us hl => match us, hl with | [_, _], _ => rfl
    f_law_pick := _
    d_law_pick := d28
    F_law_pick := F28
    g_law_pick := He.glo_ok X G (c.fact 28 (f := .glo "_law_pick") rfl)
    b_law_pick := F28.binds (ps := ["bag", "some"]) fun _ _ _ _ _ _ us hl => match us, hl with | [_, _], _ => rfl
    f_law_same := _
    d_law_same := d29
    F_law_same := F29
    g_law_same := He.glo_ok X G (c.fact 29 (f := .glo "_law_same") rfl)
    b_law_same := F29.binds (ps := ["told", "due"]) fun _ _ _ _ _ _ us hl => match us, hl with | [_, _], _ => rfl
    f_law_led := _
    d_law_led := d30
    F_law_led := F30
    g_law_led := He.glo_ok X G (c.fact 30 (f := .glo "_law_led") rfl)
    b_law_led := F30.binds (ps := ["bag", "k", "m", "n"]) fun _ _ _ _ _ _ us hl => match us, hl with | [_, _, _, _], _ => rfl
    f_law_lasso := _
    d_law_lasso := d31
    F_law_lasso := F31
    g_law_lasso := He.glo_ok X G (c.fact 31 (f := .glo "_law_lasso") rfl)
    b_law_lasso := F31.binds (ps := ["bag", "k", "most"]) fun _ _ _ _ _ _ us hl => match us, hl with | [_, _, _], _ => rfl
    f_law_at := _
    d_law_at := d32
    F_law_at := F32
    g_law_at := He.glo_ok X G (c.fact 32 (f := .glo "_law_at") rfl)
    b_law_at := F32.binds (ps := ["lasso", "i"]) fun _ _ _ _ _ _ us hl => match us, hl with | [_, _], _ => rfl
    f_law_least := _
    d_law_least := d33
    F_law_least := F33
    g_law_least := He.glo_ok X G (c.fact 33 (f := .glo "_law_least") rfl)
    b_law_least := F33.binds (ps := ["lasso"]) fun _ _ _ _ _ _ us hl => match us, hl with | [_], _ => rfl
    f_law_shift := _
    d_law_shift := d34
    F_law_shift := F34
    g_law_shift := He.glo_ok X G (c.fact 34 (f := .glo "_law_shift") rfl)
    b_law_shift := F34.binds (ps := ["lasso", "i"]) fun _ _ _ _ _ _ us hl => match us, hl with | [_, _], _ => rfl
    f_law_go := _
    d_law_go := d35
    F_law_go := F35
    g_law_go := He.glo_ok X G (c.fact 35 (f := .glo "_law_go") rfl)
    b_law_go := F35.binds (ps := ["led", "state", "word"]) fun _ _ _ _ _ _ us hl => match us, hl with | [_, _, _], _ => rfl
    f_law_through := _
    d_law_through := d36
    F_law_through := F36
    g_law_through := He.glo_ok X G (c.fact 36 (f := .glo "_law_through") rfl)
    b_law_through := F36.binds (ps := ["led", "state", "lasso"]) fun _ _ _ _ _ _ us hl => match us, hl with | [_, _, _], _ => rfl
    f_law_are_letters := _
    d_law_are_letters := d37
    F_law_are_letters := F37
    g_law_are_letters := He.glo_ok X G (c.fact 37 (f := .glo "_law_are_letters") rfl)
    b_law_are_letters := F37.binds (ps := ["bag", "k", "lassos"]) fun _ _ _ _ _ _ us hl => match us, hl with | [_, _, _], _ => rfl
    f_law_is_led := _
    d_law_is_led := d38
    F_law_is_led := F38
    g_law_is_led := He.glo_ok X G (c.fact 38 (f := .glo "_law_is_led") rfl)
    b_law_is_led := F38.binds (ps := ["bag", "k", "m", "led", "lasso"]) fun _ _ _ _ _ _ us hl => match us, hl with | [_, _, _, _, _], _ => rfl
    f_law_is_moved := _
    d_law_is_moved := d39
    F_law_is_moved := F39
    g_law_is_moved := He.glo_ok X G (c.fact 39 (f := .glo "_law_is_moved") rfl)
    b_law_is_moved := F39.binds (ps := ["bag", "k", "m", "lasso"]) fun _ _ _ _ _ _ us hl => match us, hl with | [_, _, _, _], _ => rfl
    f_law_are_judged := _
    d_law_are_judged := d40
    F_law_are_judged := F40
    g_law_are_judged := He.glo_ok X G (c.fact 40 (f := .glo "_law_are_judged") rfl)
    b_law_are_judged := F40.binds (ps := ["k", "lasso"]) fun _ _ _ _ _ _ us hl => match us, hl with | [_, _], _ => rfl
    f_law := _
    d_law := d41
    F_law := F41
    g_law := He.glo_ok X G (c.fact 41 (f := .glo "law") rfl)
    b_law := F41.binds (ps := ["script"]) fun _ _ _ _ _ _ us hl => match us, hl with | [_], _ => rfl }, ?_⟩
  have e := hfa.symm.trans (He.glo_ok X G (c.fact 41 (f := .glo "law") rfl))
  exact (Value.ref.inj (Option.some.inj e)).symm
theorem walkH {q : Program} {loose : List Str} {XP : (Str → Option Value) → Heap → Prop} {d : DefRec} (hdn : d.name = ("law" : Str)) (hdf : d.params.defaults = []) :
    PySem.W.WalkO q loose XP hkH.says (PySem.W.OpenLaw.row PySem.Challenge.rw_wordvalues_k23_whole_endless_words_led).toRowW d [] (fun f vs => PySem.call f vs) := by
  refine Att.attach_call (l := PySem.Challenge.rw_wordvalues_k23_whole_endless_words_led) (n := 63) rfl hdf fun w s₀ s₁ mg mb fa o pm cd doc a vs ns G Y ho hd hcd hmg hobj hints hlen hg => ?_
  obtain ⟨K, KX, c⟩ := Y
  have hmg' : mg ("law" : Str) = some (.ref fa) := by
    rw [← hdn]
    exact hmg
  obtain ⟨T, hT⟩ := factsH (P := PySem.Challenge.rw_wordvalues_k23_whole_endless_words_led.prog) (w := w) KX G.T.g hmg' c
  subst hT
  have hbd : ∀ (s : Shared) (u : Value), BindsTo s T.d_law ⟨[u], []⟩ [("script", u)] := fun s u => by
    obtain ⟨oc, od, kV, doc, pm, an, cdv, ct, osl, e, _⟩ := T.F_law.ex
    rw [e]
    exact .of_eq rfl
  exact law_at (sp := SpLaw K) (k := 7) KX G.T.g G.T.b G.T.builtins G.T.nolimit hg hobj hints (Nat.le_trans hlen (by decide)) ⟨rfl, by decide, by decide⟩ (fun base _ _ => run_law (base := base) T) hbd (fun H hS => ⟨a, ns, rfl, hS, by omega, fun _ => rfl⟩) (fun _ _ _ h => h)
end K23
open PySem PySem.W PySem.Calls PyProof.Rows
set_option maxHeartbeats 0 in
theorem PySem.Challenge.cw_wordvalues_k23_whole_endless_words_led_holds : PySem.Challenge.rw_wordvalues_k23_whole_endless_words_led.Holds := by
  w_on; o_law
  refine HandSHeadRun.head_any (r := OpenLaw.row PySem.Challenge.rw_wordvalues_k23_whole_endless_words_led) (q := view (OpenLaw.row PySem.Challenge.rw_wordvalues_k23_whole_endless_words_led).prog [59]) (H := K23.hkH) (ob := K23.obH) (M := 3000) (loose := K23.looseH) (d := HandSHeadRun.topDef (OpenLaw.row PySem.Challenge.rw_wordvalues_k23_whole_endless_words_led).prog 59) (kwd := []) K23.obH_eq
    (by kernel_rfl) (fun s => by kernel_rfl) K23.runH (by kernel_rfl) (by kernel_rfl) (by kernel_rfl) (by rfl) (by first | assumption | decide +kernel) (by decide +kernel) ⟨rfl, rfl, rfl, rfl, rfl, by decide +kernel⟩ ?hw ?hc
  case hw => w_witness2
  case hc => exact K23.walkH (d := HandSHeadRun.topDef (OpenLaw.row PySem.Challenge.rw_wordvalues_k23_whole_endless_words_led).prog 59) (by kernel_rfl) (by kernel_rfl)

