import PyProof.Rows.All
import Wide.All
import OpenK.AllK
import Wide.FinOn
import HandS.ForMost
import HandS.ForExc
import HandS.TryMany
import HandS.Lambda
import HandS.Flow
import HandS.Style
import HandS.Zip
import HandS.Rev
import HandS.IsInst
import HandS.Wide
import HandS.Evl
import HandS.EndTab
import HandS.Conv
import KE.KNestM
import KE.KxSplit
import HandS.Walk
import HandS.DictComp
import PyProof.GenCompD
import HandS.GenOver
import HandS.ExcInit
import HandS.Nested
import KE.KExcSuper
import HandS.HeadHook4
import HandS.HeadWalk
import HandS.ExcField
import HandS.SetKeys
import HandS.Deep
import HandS.TupMul
import HandS.TryOnly
import KE.GoesEnum
import HandS.RevRange
import HandS.More
import HandS.Strs
import HandS.HeadHook2
import HandS.SetFor
import HandS.Remove
import HandS.DictTup
import HandS.TupSets
import KE.KDictZip
import KE.DataMinMax
import KE.KStateDown
import HandS.Defaults
import HandS.Head0
import HandS.Head1
import HandS.Head2
import HandS.HeadEnd
import HandS.HeadHook1
import HandS.HeadHook3
import PySem.Challenge.RW_drivehall_k22_two_wires
set_option Elab.async false
set_option pp.maxSteps 1500
set_option maxRecDepth 100000
set_option synthInstance.maxHeartbeats 0
set_option synthInstance.maxSize 1000000
set_option linter.all false
set_option pp.maxSteps 1500
set_option synthInstance.maxHeartbeats 0
set_option synthInstance.maxSize 1000000
/-! The layer Dh: chunks of the abstract heap, goals over chunks. -/
namespace Dh
open PySem L2

/-! ### chunks -/
abbrev HP := Hp → Prop
def isImm : HO → Bool
  | .tup _ => true
  | _ => false
def isTbl : HO → Bool
  | .tbl _ => true
  | _ => false
def isWr : HO → Bool
  | .lst _ => true
  | .dK _ => true
  | .dT _ => true
  | .set _ _ => true
  | .ins _ _ _ => true
  | .frz _ _ => true
  | _ => false
def Dis (h1 h2 : Hp) : Prop := ∀ a o u, h1 a = some o → h2 a = some u → o = u ∧ isImm o = true
def Sub (h H : Hp) : Prop := ∀ a o, h a = some o → H a = some o
def NT (h : Hp) : Prop := ∀ a o, h a = some o → isTbl o = false
def Seps : List HP → Hp → Prop
  | [], _ => True
  | P :: Ps, H => ∃ h1 h2, Dis h1 h2 ∧ NT h1 ∧ NT h2 ∧ Sub h1 H ∧ Sub h2 H ∧ P h1 ∧ Seps Ps h2
/-- the object o stands at a -/
def pt (a : Addr) (o : HO) : HP := fun h => h a = some o
/-- an instance of the class at C with the attributes fs -/
def ob (a C : Addr) (fs : List (Str × V)) : HP := fun h => ∃ dx, h a = some (.ins C dx fs)
def ex {α : Sort u} (P : α → HP) : HP := fun h => ∃ x, P x h
def pu (p : Prop) : HP := fun _ => p

theorem wr_imm {o : HO} (w : isWr o = true) : isImm o = false := by
  cases o <;> first | rfl | (simp [isWr] at w)
theorem imm_tbl {o : HO} (w : isImm o = true) : isTbl o = false := by
  cases o <;> first | rfl | (simp [isImm] at w)
def ntH (H : Hp) : Hp := fun a => match H a with
  | some o => if isTbl o then none else some o
  | none => none
theorem ntH_some {H : Hp} {a : Addr} {o : HO} : ntH H a = some o ↔ H a = some o ∧ isTbl o = false := by
  unfold ntH
  cases e : H a with
  | none => simp
  | some u =>
    cases t : isTbl u with
    | true =>
      simp only [t, if_true, Option.some.injEq]
      constructor
      · intro h; cases h
      · rintro ⟨rfl, h⟩; rw [t] at h; cases h
    | false =>
      simp only [t, Bool.false_eq_true, if_false, Option.some.injEq]
      constructor
      · rintro rfl; exact ⟨rfl, t⟩
      · rintro ⟨rfl, _⟩; rfl
def uni (h k : Hp) : Hp := fun a => match h a with
  | some o => some o
  | none => k a
theorem uni_some {h k : Hp} {a : Addr} {o : HO} (e : uni h k a = some o) : h a = some o ∨ k a = some o := by
  unfold uni at e
  cases q : h a with
  | none => rw [q] at e; exact .inr e
  | some u => rw [q] at e; exact .inl e
theorem uni_l {h k : Hp} {a : Addr} {o : HO} (e : h a = some o) : uni h k a = some o := by unfold uni; rw [e]
theorem uni_r {h k : Hp} (d : Dis h k) {a : Addr} {o : HO} (e : k a = some o) : uni h k a = some o := by
  unfold uni
  cases q : h a with
  | none => exact e
  | some u => rw [(d a u o q e).1]
theorem Dis.symm {h k : Hp} (d : Dis h k) : Dis k h := fun a o u h1 h2 => by
  obtain ⟨e, i⟩ := d a u o h2 h1
  subst e
  exact ⟨rfl, i⟩
theorem Dis.sub {h k h' k' : Hp} (d : Dis h k) (s : Sub h' h) (t : Sub k' k) : Dis h' k' := fun a o u h1 h2 => d a o u (s _ _ h1) (t _ _ h2)
theorem Sub.trans {h k l : Hp} (a : Sub h k) (b : Sub k l) : Sub h l := fun x o e => b x o (a x o e)
theorem Sub.refl (h : Hp) : Sub h h := fun _ _ e => e
theorem NT.sub {h k : Hp} (n : NT k) (s : Sub h k) : NT h := fun a o e => n a o (s a o e)
theorem NT.uni {h k : Hp} (n : NT h) (m : NT k) : NT (uni h k) := fun a o e => (uni_some e).elim (n a o) (m a o)
theorem Sub.uni {h k l : Hp} (s : Sub h l) (t : Sub k l) : Sub (uni h k) l := fun a o e => (uni_some e).elim (s a o) (t a o)
theorem Dis.uniL {h k l : Hp} (d : Dis h l) (e : Dis k l) : Dis (uni h k) l := fun a o u q r => (uni_some q).elim (fun z => d a o u z r) (fun z => e a o u z r)

theorem Seps.mono {H H' : Hp} (k : ∀ a o, H a = some o → isTbl o = false → H' a = some o) : ∀ {L : List HP}, Seps L H → Seps L H'
  | [], _ => trivial
  | P :: L, ⟨h1, h2, d, n1, n2, s1, s2, p, r⟩ => ⟨h1, h2, d, n1, n2, fun a o e => k a o (s1 a o e) (n1 a o e), fun a o e => k a o (s2 a o e) (n2 a o e), p, r⟩
theorem Seps.sub {H H' : Hp} (s : Sub H H') {L : List HP} (h : Seps L H) : Seps L H' := h.mono fun a o e _ => s a o e
theorem Seps.nt {H : Hp} {L : List HP} (h : Seps L H) : Seps L (ntH H) := h.mono fun _ _ e n => ntH_some.mpr ⟨e, n⟩
theorem NT.ntH (H : Hp) : NT (ntH H) := fun _ _ e => (ntH_some.mp e).2
theorem Sub.ntH (H : Hp) : Sub (ntH H) H := fun _ _ e => (ntH_some.mp e).1

theorem Seps.tail {P : HP} {L : List HP} {H : Hp} : Seps (P :: L) H → Seps L H
  | ⟨_, _, _, _, _, _, s2, _, r⟩ => r.sub s2
theorem Seps.head {P : HP} {L : List HP} {H : Hp} : Seps (P :: L) H → ∃ h, Sub h H ∧ P h
  | ⟨h1, _, _, _, _, s1, _, p, _⟩ => ⟨h1, s1, p⟩
theorem Seps.imp {P P' : HP} {L : List HP} {H : Hp} (k : ∀ h, P h → P' h) : Seps (P :: L) H → Seps (P' :: L) H
  | ⟨h1, h2, d, n1, n2, s1, s2, p, r⟩ => ⟨h1, h2, d, n1, n2, s1, s2, k _ p, r⟩
theorem Seps.impT {P : HP} {L L' : List HP} {H : Hp} (k : ∀ h, Seps L h → Seps L' h) : Seps (P :: L) H → Seps (P :: L') H
  | ⟨h1, h2, d, n1, n2, s1, s2, p, r⟩ => ⟨h1, h2, d, n1, n2, s1, s2, p, k _ r⟩
theorem Seps.swap {P Q : HP} {L : List HP} {H : Hp} : Seps (P :: Q :: L) H → Seps (Q :: P :: L) H
  | ⟨h1, h2, d, n1, n2, s1, s2, p, h21, h22, d', m1, m2, t1, t2, q, r⟩ =>
    ⟨h21, uni h1 h22, (Dis.uniL (d.sub (Sub.refl _) t1) d'.symm).symm, m1, n1.uni m2, t1.trans s2, s1.uni (t2.trans s2), q, h1, h22, d.sub (Sub.refl _) t2, n1, m2, fun _ _ e => uni_l e, fun _ _ e => uni_r (d.sub (Sub.refl _) t2) e, p, r⟩
/-- a new object -/
theorem Seps.new {L : List HP} {H : Hp} {p : Addr} {o : HO} {P : HP} (h : Seps L H) (hp : H p = none) (ho : isTbl o = false) (hP : ∀ k : Hp, k p = some o → P k) : Seps (P :: L) (upd H p o) := by
  refine ⟨upd (fun _ => none) p o, ntH H, fun a u v e1 e2 => ?_, fun a u e => ?_, NT.ntH H, fun a u e => ?_, fun a u e => ?_, hP _ upd_same, h.nt⟩
  · by_cases q : a = p
    · subst q; have z := (ntH_some.mp e2).1; rw [hp] at z; cases z
    · rw [upd_ne q] at e1; cases e1
  · by_cases q : a = p
    · subst q; rw [upd_same] at e; cases e; exact ho
    · rw [upd_ne q] at e; cases e
  · by_cases q : a = p
    · subst q; rw [upd_same] at e ⊢; exact e
    · rw [upd_ne q] at e; cases e
  · have z := (ntH_some.mp e).1
    rw [upd_ne (ne_of_none z hp)]; exact z
/-- the first chunk's object at a is written -/
theorem Seps.wr {P P' : HP} {L : List HP} {H : Hp} {a : Addr} {o' : HO} (ho : isTbl o' = false) (k : ∀ h, P h → ∃ o, h a = some o ∧ isWr o = true ∧ P' (upd h a o')) : Seps (P :: L) H → Seps (P' :: L) (upd H a o')
  | ⟨h1, h2, d, n1, n2, s1, s2, p, r⟩ => by
    obtain ⟨o, e, w, p'⟩ := k h1 p
    have na : h2 a = none := by
      cases q : h2 a with
      | none => rfl
      | some u =>
        have z := (d a o u e q).2
        rw [wr_imm w] at z
        cases z
    refine ⟨upd h1 a o', h2, fun b u v e1 e2 => ?_, fun b u e1 => ?_, n2, fun b u e1 => ?_, fun b u e1 => ?_, p', r⟩
    · by_cases q : b = a
      · subst q; rw [na] at e2; cases e2
      · rw [upd_ne q] at e1; exact d b u v e1 e2
    · by_cases q : b = a
      · subst q; rw [upd_same] at e1; cases e1; exact ho
      · rw [upd_ne q] at e1; exact n1 b u e1
    · by_cases q : b = a
      · subst q; rw [upd_same] at e1 ⊢; exact e1
      · rw [upd_ne q] at e1 ⊢; exact s1 b u e1
    · rw [upd_ne (ne_of_none e1 na)]; exact s2 b u e1
/-- chunks in two groups -/
theorem Seps.cut : ∀ {L1 L2 : List HP} {H : Hp}, Seps (L1 ++ L2) H → Seps (Seps L1 :: L2) H
  | [], L2, H, h => ⟨fun _ => none, ntH H, fun _ _ _ e => (nomatch e), fun _ _ e => (nomatch e), NT.ntH H, fun _ _ e => (nomatch e), Sub.ntH H, trivial, h.nt⟩
  | P :: L1, L2, H, ⟨h1, h2, d, n1, n2, s1, s2, p, r⟩ => by
    obtain ⟨k1, k2, e, m1, m2, t1, t2, q, z⟩ := Seps.cut r
    have d1 := d.sub (Sub.refl _) t1
    exact ⟨uni h1 k1, k2, (d.sub (Sub.refl _) t2).uniL e, n1.uni m1, m2, s1.uni (t1.trans s2), t2.trans s2, ⟨h1, k1, d1, n1, m1, fun _ _ x => uni_l x, fun _ _ x => uni_r d1 x, p, q⟩, z⟩
theorem Seps.paste : ∀ {L1 L2 : List HP} {H : Hp}, Seps (Seps L1 :: L2) H → Seps (L1 ++ L2) H
  | [], _, _, h => h.tail
  | P :: L1, L2, H, ⟨h1, h2, d, n1, n2, s1, s2, ⟨k1, k2, e, m1, m2, t1, t2, p, q⟩, r⟩ => by
    have d2 := d.sub t2 (Sub.refl _)
    exact ⟨k1, uni k2 h2, (Dis.uniL e.symm (d.sub t1 (Sub.refl _)).symm).symm, m1, m2.uni n2, t1.trans s1, (t2.trans s1).uni s2, p, Seps.paste ⟨k2, h2, d2, m2, n2, fun _ _ x => uni_l x, fun _ _ x => uni_r d2 x, q, r⟩⟩
/-- an immutable object may be told again -/
theorem Seps.more {L : List HP} {H : Hp} {P : HP} (h : Seps L H) (k : Hp) (hk : Sub k H) (hi : ∀ a o, k a = some o → isImm o = true) (hP : P k) : Seps (P :: L) H := by
  have nk : NT k := fun a o e => imm_tbl (hi a o e)
  refine ⟨k, ntH H, fun a o u e1 e2 => ?_, nk, NT.ntH H, hk, Sub.ntH H, hP, h.nt⟩
  have e3 := hk a o e1
  rw [(ntH_some.mp e2).1] at e3
  cases e3
  exact ⟨rfl, hi a o e1⟩

/-! ### picking, entailment -/
def Pick (L : List HP) (c : HP) (L1 : List HP) : Prop := ∀ H, Seps L H → Seps (c :: L1) H
theorem pick_here {c : HP} {L : List HP} : Pick (c :: L) c L := fun _ h => h
theorem pick_there {c d : HP} {L L1 : List HP} (p : Pick L c L1) : Pick (d :: L) c (d :: L1) := fun _ h => (h.impT p).swap
def Ent (L L' : List HP) : Prop := ∀ H, Seps L H → Seps L' H
theorem ent_refl {L : List HP} : Ent L L := fun _ h => h
theorem ent_nil {L : List HP} : Ent L [] := fun _ _ => trivial
theorem ent_cons {L L1 L' : List HP} {c : HP} (p : Pick L c L1) (e : Ent L1 L') : Ent L (c :: L') := fun H h => (p H h).impT e
theorem ent_drop {L L' : List HP} {d : HP} (e : Ent L L') : Ent (d :: L) L' := fun H h => e H h.tail
theorem Ent.trans {L M N : List HP} (a : Ent L M) (b : Ent M N) : Ent L N := fun H h => b H (a H h)

/-! ### goals -/
section
variable {T : List (Addr × Str)}
def Go (T : List (Addr × Str)) (L : List HP) (G : Hp → Prop) : Prop := ∀ H, LamX.Tabs T H → Seps L H → G H
theorem Go.ent {L L' : List HP} {G : Hp → Prop} (e : Ent L L') (g : Go T L' G) : Go T L G := fun H t h => g H t (e H h)
theorem Go.mono {L : List HP} {G G' : Hp → Prop} (g : Go T L G) (k : ∀ H, G H → G' H) : Go T L G' := fun H t h => k H (g H t h)
theorem go_ex {α : Sort u} {P : α → HP} {L : List HP} {G : Hp → Prop} (g : ∀ x, Go T (P x :: L) G) : Go T (ex P :: L) G := fun H t h => by
  obtain ⟨h1, h2, d, n1, n2, s1, s2, ⟨x, p⟩, r⟩ := h
  exact g x H t ⟨h1, h2, d, n1, n2, s1, s2, p, r⟩
theorem go_pu {p : Prop} {L : List HP} {G : Hp → Prop} (g : p → Go T L G) : Go T (pu p :: L) G := fun H t h => by
  obtain ⟨h1, s1, p⟩ := h.head
  exact g p H t h.tail
theorem go_seps {L1 L : List HP} {G : Hp → Prop} (g : Go T (L1 ++ L) G) : Go T (Seps L1 :: L) G := fun H t h => g H t h.paste
theorem codeO_nw {c : Addr} {q : Str} : isWr (LamX.CodeO c q) = false := rfl
theorem Tabs.wr {H : Hp} {a : Addr} {o o' : HO} (t : LamX.Tabs T H) (e : H a = some o) (w : isWr o = true) : LamX.Tabs T (upd H a o') := fun p hp => by
  obtain ⟨ps, h1, h2, h3⟩ := t p hp
  have ne : ∀ b u, H b = some u → isWr u = false → b ≠ a := fun b u q nw z => by
    subst z; rw [e] at q; cases q; rw [w] at nw; cases nw
  refine ⟨ps, by rw [upd_ne (ne _ _ h1 rfl)]; exact h1, h2, fun pos cv hc => ?_⟩
  obtain ⟨c, e1, e2⟩ := h3 pos cv hc
  exact ⟨c, e1, by rw [upd_ne (ne _ _ e2 codeO_nw)]; exact e2⟩
theorem Tabs.new {H : Hp} {a : Addr} {o : HO} (t : LamX.Tabs T H) (e : H a = none) : LamX.Tabs T (upd H a o) := t.ext fun b u q => by rw [upd_ne (ne_of_none q e)]; exact q
/-- a new object -/
theorem go_new {L : List HP} {o : HO} {P : Addr → HP} {Q : Addr → Hp → Prop} (ho : isTbl o = false) (hP : ∀ p (k : Hp), k p = some o → P p k) (g : ∀ p, Go T (P p :: L) (Q p)) : Go T L (fun H => ∀ p, H p = none → Q p (upd H p o)) :=
  fun H t h p hp => g p _ (Tabs.new t hp) (h.new hp ho (hP p))
/-- an object written -/
theorem go_wr {L L1 : List HP} {a : Addr} {o' : HO} {P P' : HP} {Q : Hp → Prop} (pk : Pick L P L1) (ho : isTbl o' = false) (k : ∀ h, P h → ∃ o, h a = some o ∧ isWr o = true ∧ P' (upd h a o')) (g : Go T (P' :: L1) Q) : Go T L (fun H => Q (upd H a o')) :=
  fun H t h => by
    have h' := pk H h
    obtain ⟨h1, s1, p⟩ := h'.head
    obtain ⟨o, e, w, _⟩ := k h1 p
    exact g _ (Tabs.wr t (s1 a o e) w) (h'.wr ho k)
theorem Pick.at {L L1 : List HP} {a : Addr} {o : HO} (pk : Pick L (pt a o) L1) {H : Hp} (h : Seps L H) : H a = some o := by
  obtain ⟨h1, s1, p⟩ := (pk H h).head
  exact s1 a o p
theorem Pick.obj {L L1 : List HP} {a C : Addr} {fs : List (Str × V)} (pk : Pick L (ob a C fs) L1) {H : Hp} (h : Seps L H) : ∃ dx, H a = some (.ins C dx fs) := by
  obtain ⟨h1, s1, dx, p⟩ := (pk H h).head
  exact ⟨dx, s1 a _ p⟩
end
end Dh

/-! The layer Dh, second part: readings whose form hangs on the values at hand; goals over chunks, step by step. -/
namespace Dh
open PySem PySem.Spec PyProof.Rows L2

/-! ### operators by the values at hand -/
section
variable {X : Cx}
def rAddX (K : PySem.W.Frag) : R2 := fun x y H Q => match x, y with
  | .int i, .int j => Q (.int (i + j)) H
  | .str a, .str b => a.length + b.length ≤ sizeLine ∧ Q (.str (a ++ b)) H
  | .int i, .bl k => Q (.int (i + b2i k)) H
  | .ref l, .ref b => (∃ xs zs, H l = some (.lst xs) ∧ H b = some (.lst zs) ∧ xs.length + zs.length ≤ sizeLine ∧ ∀ p, H p = none → Q (.ref p) (upd H p (.lst (xs ++ zs)))) ∨ rCatT K (.ref l) (.ref b) H Q
  | _, _ => False
theorem op_addS : OpR X (binaryOp .Add) (fun x y H Q => ∃ a b, x = .str a ∧ y = .str b ∧ a.length + b.length ≤ sizeLine ∧ Q (.str (a ++ b)) H) := by
  intro pins s σ H x y v u Q I rx ry h
  obtain ⟨a, b, ex, ey, hl, q⟩ := h
  subst ex; subst ey
  obtain ⟨t, rfl⟩ := rx
  obtain ⟨t', rfl⟩ := ry
  exact add_str (fun t' tk => ⟨.str _, H, I.tok _, ⟨_, rfl⟩, q⟩) hl
theorem op_addX : OpR X (binaryOp .Add) (rAddX X.K) := by
  intro pins s σ H x y v u Q I rx ry h
  unfold rAddX at h
  split at h
  · exact op_add pins s σ H _ _ v u Q I rx ry ⟨_, _, rfl, rfl, h⟩
  · exact op_addS pins s σ H _ _ v u Q I rx ry ⟨_, _, rfl, rfl, h.1, h.2⟩
  · exact op_add_ib pins s σ H _ _ v u Q I rx ry ⟨_, _, rfl, rfl, h⟩
  · rcases h with ⟨xs, zs, h1, h2, h3, h4⟩ | h
    · exact op_cat pins s σ H _ _ v u Q I rx ry ⟨_, _, xs, zs, rfl, rfl, h1, h2, h3, h4⟩
    · exact op_catT pins s σ H _ _ v u Q I rx ry h
  · exact h.elim
def rMulX (K : PySem.W.Frag) : R2 := fun x y H Q => match x, y with
  | .int i, .int j => CMul i j ∧ Q (.int (i * j)) H
  | .ref l, .int k => rRep (.ref l) (.int k) H Q
  | _, _ => False
theorem op_mulX : OpR X (binaryOp .Mult) (rMulX X.K) := by
  intro pins s σ H x y v u Q I rx ry h
  unfold rMulX at h
  split at h
  · exact op_mul pins s σ H _ _ v u Q I rx ry ⟨_, _, rfl, rfl, h.1, h.2⟩
  · exact op_rep pins s σ H _ _ v u Q I rx ry h
  · exact h.elim
/-- == of small values by decide, of data by their trees -/
def rEqX (K : PySem.W.Frag) : R2 := fun x y H Q => rEq x y H Q ∨ rEqD K x y H Q
def rNeX (K : PySem.W.Frag) : R2 := fun x y H Q => rNe x y H Q ∨ rNeD K x y H Q
theorem op_eqX (hu : X.A.units + 64 < cLine) : OpR X (compareOp .Eq) (rEqX X.K) := fun pins s σ H x y v u Q I rx ry h =>
  h.elim (op_eq pins s σ H x y v u Q I rx ry) (op_eqD hu pins s σ H x y v u Q I rx ry)
theorem op_neX (hu : X.A.units + 64 < cLine) : OpR X (compareOp .NotEq) (rNeX X.K) := fun pins s σ H x y v u Q I rx ry h =>
  h.elim (op_ne pins s σ H x y v u Q I rx ry) (op_neD hu pins s σ H x y v u Q I rx ry)
def rIxX (K : PySem.W.Frag) : R2 := fun x y H Q => rIxL K x y H Q ∨ rIxT K x y H Q
theorem ix_seq : IxR X (rIxX X.K) := fun ve se pins s σ H x y v u Q I rx ry h hs =>
  h.elim (fun z => ix_list ve se pins s σ H x y v u Q I rx ry z hs) (fun z => ix_tup ve se pins s σ H x y v u Q I rx ry z hs)
def rSlXX (K : PySem.W.Frag) : V → Option Int → Option Int → Hp → VK → Prop := fun x lo hi H Q => rSlL K x lo hi H Q ∨ rSlT K x lo hi H Q
theorem sl_seq : SlR X (rSlXX X.K) := SlR.or sl_list sl_tup
/-- for over a list or a tuple -/
def iSeq (K : PySem.W.Frag) (tl : TE) : TI := fun σ H R => tl σ H fun x H1 => ∃ a, x = .ref a ∧ ((∃ xs, SqL K H1 a xs ∧ R (Itl K a) H1) ∨ ∃ xs, SqT K H1 a xs ∧ R (Itt K a) H1)
theorem pi_seq {tg l : Expr} {tl : TE} (hl : PE X l tl) : PI X tg l (iSeq X.K tl) := by
  refine ⟨fun pins s σ H R I h => ?_⟩
  refine thn (hl.run pins s σ H _ I h) fun v s1 hv => ?_
  obtain ⟨x, H1, I1, r1, a, e, q⟩ := hv
  subst e
  cases r1
  rcases q with ⟨xs, hx, q⟩ | ⟨xs, hx, q⟩
  · obtain ⟨its, rv, p, hz⟩ := I1.list hx
    refine wpAny_pyIter_list p.isList ?_
    exact ⟨s1.heap.objs.size, [s1.heap.objs.size], _, _, H1, rfl, I1.kept (t' := s1.toks) (fun b o e => Heap.get?_push_of_some _ e), turn_list a _, ⟨_, Heap.get?_push_size _ rfl, rfl, rfl⟩,
      fun b hb => (List.mem_singleton.mp hb) ▸ I1.fpOk (Nat.le_refl _) (I1.hok.fresh (Nat.le_refl _)), q⟩
  · obtain ⟨its, rv, p, hz⟩ := I1.tuple hx
    refine wpAny_pyIter_tuple (show s1.heap.IsTuple a _ from p) ?_
    exact ⟨s1.heap.objs.size, [s1.heap.objs.size], _, _, H1, rfl, I1.kept (t' := s1.toks) (fun b o e => Heap.get?_push_of_some _ e), turn_tuple a _, ⟨_, Heap.get?_push_size _ rfl, rfl, rfl⟩,
      fun b hb => (List.mem_singleton.mp hb) ▸ I1.fpOk (Nat.le_refl _) (I1.hok.fresh (Nat.le_refl _)), q⟩
/-- built-ins by values -/
def rIntX : List V → Hp → VK → Prop := fun xs H Q => (∃ i, xs = [.int i] ∧ Q (.int i) H) ∨ ∃ k, xs = [.bl k] ∧ Q (.int (if k then 1 else 0)) H
theorem call_intX : CallR X (.type "int") rIntX := call_int1
def rAbsX : List V → Hp → VK → Prop := fun xs H Q => ∃ i, xs = [.int i] ∧ Q (.int (if i < 0 then -i else i)) H
theorem call_absX : CallR X (.builtin "abs") rAbsX := call_abs
def rMax2X : List V → Hp → VK → Prop := fun xs H Q => ∃ i j, xs = [.int i, .int j] ∧ Q (.int (if j > i then j else i)) H
theorem call_max2X (hc : X.calm = true) : CallR X (.builtin "max") rMax2X := call_max2 hc
def rMin2X : List V → Hp → VK → Prop := fun xs H Q => ∃ i j, xs = [.int i, .int j] ∧ Q (.int (if j < i then j else i)) H
theorem call_min2X (hc : X.calm = true) : CallR X (.builtin "min") rMin2X := call_min2 hc
def rStrI : List V → Hp → VK → Prop := fun xs H Q => ∃ i, xs = [.int i] ∧ i.natAbs.log2 < 1920 ∧ Q (.str (toString i)) H
theorem call_strI : CallR X (.type "str") rStrI := call_str_int
def rLenX (K : PySem.W.Frag) : List V → Hp → VK → Prop := fun xs H Q => ∃ p ys, xs = [.ref p] ∧ (SqL K H p ys ∨ SqT K H p ys) ∧ Q (.int ys.length) H
theorem call_lenX : CallR X (.builtin "len") (rLenX X.K) := call_len_seq
def rLenD : List V → Hp → VK → Prop := fun xs H Q => ∃ a kvs, xs = [V.ref a] ∧ H a = some (.dK kvs) ∧ Q (.int kvs.length) H
theorem call_lenDX : CallR X (.builtin "len") rLenD := call_lenD
def rListX (K : PySem.W.Frag) : List V → Hp → VK → Prop := fun xs H Q => ∃ p ys, xs = [.ref p] ∧ (SqL K H p ys ∨ SqT K H p ys) ∧ ∀ l, H l = none → Q (.ref l) (upd H l (.lst ys))
theorem call_listX : CallR X (.type "list") (rListX X.K) := call_list_of
def rTupX (K : PySem.W.Frag) : List V → Hp → VK → Prop := fun xs H Q => ∃ p ys, xs = [.ref p] ∧ ((SqL K H p ys ∧ ∀ l, H l = none → Q (.ref l) (upd H l (.tup ys))) ∨ (SqT K H p ys ∧ Q (.ref p) H))
theorem call_tupX : CallR X (.type "tuple") (rTupX X.K) := call_tuple_of
/-- is None -/
def rIsNX : R2 := fun x y H Q => y = .non ∧ Q (.bl (decide (x = .non))) H
def rNotNX : R2 := fun x y H Q => y = .non ∧ Q (.bl (!decide (x = .non))) H
theorem op_isNX : OpR X (compareOp .Is) rIsNX := op_isN
theorem op_notNX : OpR X (compareOp .IsNot) rNotNX := op_notN
/-- truth of a value -/
def tTruX (K : PySem.W.Frag) (ta : TE) : TT := fun σ H Q => ta σ H fun x H' => ∃ k, TruV K x H' k ∧ Q k H'
theorem pt_truX {a : Expr} {ta : TE} (ha : PE X a ta) (he : ∀ whole, isTrue a X.env whole = (do let v ← whole; standAt a.pos; holding [v] (truthy v)) := by intro _; rfl) : PT X a (tTruX X.K ta) := pt_truth ha he
/-- an attribute of an instance whose class is known -/
def lFld (C : Addr) (f : Str) (Q : VK) : V → Hp → Prop := fun x H => ∃ a dx fs v, x = .ref a ∧ H a = some (.ins C dx fs) ∧ fs.lookup f = some v ∧ Q v H
def tFldC (C : Addr) (f : Str) (ta : TE) : TE := fun σ H Q => ta σ H (lFld C f Q)
theorem pe_fldC {e : Expr} {f : Str} {pos : Pos} {ta : TE} {C : Addr} (c : Cls X.K C) (n : NoAttr X.K C f) (he : PE X e ta) (hb : attributeBase e f X.env (eval e X.env) = eval e X.env := by rfl) : PE X (.Attribute e f pos) (tFldC C f ta) := by
  refine ⟨fun pins s σ H Q I h => attr_of hb (thn (he.run pins s σ H _ I h) ?_)⟩
  intro u s1 hu
  obtain ⟨x, H1, I1, rx, a, dx, fs, v, ex, ea, l, q⟩ := hu
  subst ex
  have hua : u = Value.ref a := rx
  subst hua
  exact getattr_ok I1 ea c n l fun u' s2 I2 ru => ⟨v, H1, I2, ru, q⟩
def lSFld (C : Addr) (f : Str) (y : V) (N : Hp → Prop) : V → Hp → Prop := fun x H => ∃ a dx fs, x = .ref a ∧ H a = some (.ins C dx fs) ∧ fs.length < 1000 ∧ N (upd H a (.ins C dx (putF f y fs)))
def sFldC (C : Addr) (f : Str) (ta tv : TE) : TS := fun D σ H => tv σ H fun y H1 => ta σ H1 (lSFld C f y (D.nx σ))
theorem ps_fldC {o value : Expr} {f : Str} {pos pos' : Pos} {ta tv : TE} {C : Addr} (c : Cls X.K C) (n : NoAttr X.K C f) (ha : PE X o ta) (hv : PE X value tv) (hs : swapsWith value (some (.Attribute o f pos')) pos.line X.env = pure false := by rfl) :
    PS X (.Assign [.Attribute o f pos'] value pos) (sFldC C f ta tv) := by
  refine ⟨fun pins s σ H D I h => plainObj_wpAny_Assign_Attribute (thn (hv.run pins s σ H _ I h) ?_) hs⟩
  intro u s1 hu
  obtain ⟨y, H1, I1, ry, q⟩ := hu
  refine thn (ha.run pins s1 σ H1 _ I1 q) ?_
  intro ov s2 hov
  obtain ⟨x, H2, I2, rx, a, dx, fs, ex, ea, l, q2⟩ := hov
  subst ex
  have hua : ov = Value.ref a := rx
  subst hua
  exact setattr_ok I2 ea c n l ry fun s3 I3 => ⟨σ, _, I3, q2⟩
def lAugF (C : Addr) (f : Str) (tv : TE) (rd : V → V → Hp → VK → Prop) (σ : L2.St) (N : Hp → Prop) : V → Hp → Prop := fun x H1 => ∃ a dx fs v, x = .ref a ∧ H1 a = some (.ins C dx fs) ∧ fs.lookup f = some v ∧
  tv σ H1 fun y H2 => rd v y H2 fun z H3 => lSFld C f z N (.ref a) H3
def sAugC (C : Addr) (f : Str) (ta tv : TE) (rd : V → V → Hp → VK → Prop) : TS := fun D σ H => ta σ H (lAugF C f tv rd σ (D.nx σ))
theorem ps_augC {o value : Expr} {f : Str} {pos tpos : Pos} {ta tv : TE} {C : Addr} {op : Operator} {rd : V → V → Hp → VK → Prop} (c : Cls X.K C) (n : NoAttr X.K C f) (ha : PE X o ta) (hv : PE X value tv) (hop : InOp X op rd) :
    PS X (.AugAssign (.Attribute o f tpos) op value pos) (sAugC C f ta tv rd) := by
  refine ⟨fun pins s σ H D I h => wpAny_AugAssign_AttributeAny (thn (ha.run pins s σ H _ I h) ?_)⟩
  intro ov s1 hov
  obtain ⟨x, H1, I1, rx, a, dx, fs, v, ex, ea, l, q⟩ := hov
  subst ex
  have hua : ov = Value.ref a := rx
  subst hua
  refine getattr_ok I1 ea c n l fun u s2 I2 ru => thn (hv.run pins s2 σ H1 _ I2 q) ?_
  intro w3 s3 h3
  obtain ⟨y, H2, I3, ry, q3⟩ := h3
  refine thn (hop pins s3 σ H2 v y u w3 _ I3 ru ry q3) ?_
  intro w4 s4 h4
  obtain ⟨z, H3, I4, rz, a', dx', fs', ea0, ea', l', q4⟩ := h4
  cases ea0
  exact setattr_ok I4 ea' c n l' rz fun s5 I5 => ⟨σ, _, I5, q4⟩
/-- x op= e of ints, of texts, of lists made anew -/
def ipAdd : TIp := fun x y H Q => match x, y with
  | .int i, .int j => Q (.int (i + j)) H
  | _, _ => False
end
end Dh

/-! The layer Dh, third part: goals over chunks, one lemma a construct. -/
namespace Dh
open PySem PySem.Spec PyProof.Rows L2
section
variable {T : List (Addr × Str)} {L L1 L2' : List HP} {σ : L2.St} {Q : VK} {K : PySem.W.Frag} {v x y z : V} {i j : Int} {n : Nat} {ta tb tc te td : TE} {t u : TT} {r r' : R2} {N0 : L2.St → Hp → Prop} {R0 : VK} {B0 C0 : L2.St → Hp → Prop} {ts us : TS} {P P' : Hp → Prop} {C a p : Addr} {o o' : HO} {fs : List (Str × V)} {f : Str} {xs ys : List V} {b : Bool}

/-! ### the ends -/
theorem g_and {q : Prop} (hq : q) (k : Go T L P) : Go T L fun H => q ∧ P H := fun H t h => ⟨hq, k H t h⟩
theorem g_pure {q : Prop} (hq : q) : Go T L fun _ => q := fun _ _ _ => hq

theorem ent_imp {P P' : HP} (k : ∀ h, P h → P' h) : Ent (P :: L) (P' :: L) := fun _ h => h.imp k
theorem ent_tail {P : HP} {L' : List HP} (e : Ent L L') : Ent (P :: L) (P :: L') := fun _ h => h.impT e
theorem ent_pick {P P' : HP} {A : List HP} (pk : Pick L P A) (k : ∀ h, P h → P' h) : Pick L P' A := fun H h => (pk H h).imp k
theorem Go.fold {P P' : HP} {G : Hp → Prop} (k : ∀ h, P h → P' h) (g : Go T (P' :: L) G) : Go T (P :: L) G := g.ent (ent_imp k)
theorem g_cut {t1 u1 : TS} {N0 : L2.St → Hp → Prop} {R0 : VK} {B0 C0 : L2.St → Hp → Prop} (I : L2.St → List HP → Prop) (h : Go T L fun H => t1 ⟨fun σ H => ∃ L, I σ L ∧ LamX.Tabs T H ∧ Seps L H, R0, B0, C0⟩ σ H) (k : ∀ σ L, I σ L → Go T L fun H => u1 ⟨N0, R0, B0, C0⟩ σ H) :
    Go T L fun H => Evl.tCut t1 u1 ⟨N0, R0, B0, C0⟩ σ H := fun H t s => ⟨_, h H t s, fun σ' H' ⟨L', i, t', s'⟩ => k σ' L' i H' t' s'⟩

theorem ent_fold {A L R : List HP} {P : HP} (e : Ent L (A ++ R)) (h : ∀ H, Seps A H → P H) : Ent L (P :: R) := fun H x => (Seps.cut (e H x)).imp h
theorem ixN_lt {n k : Nat} (h : k < n) : ixN n (k : Int) = some k := by
  unfold ixN
  rw [if_pos (by omega), if_pos (by omega)]
  rfl
theorem atI_lt {α : Type} {xs : List α} {k : Nat} {v : α} (h : xs[k]? = some v) : atI xs (k : Int) = some v := by
  have hk : k < xs.length := (List.getElem?_eq_some_iff.mp h).1
  unfold atI
  rw [ixN_lt hk]
  exact h

theorem hasM_of {P : HP} {A : List HP} {m : Str} (pk : Pick L P A) (h : ∀ h, P h → ∃ dx fs, h a = some (.ins C dx fs) ∧ fs.lookup m = none) : ∀ H, Seps L H → ∃ dx fs, H a = some (.ins C dx fs) ∧ fs.lookup m = none := fun H s => by
  obtain ⟨h1, s1, p⟩ := (pk H s).head
  obtain ⟨dx, fs, e, n⟩ := h h1 p
  exact ⟨dx, fs, s1 _ _ e, n⟩

theorem Ent.pick {L' A : List HP} {c : HP} (e : Ent L L') (p : Pick L' c A) : Pick L c A := fun H h => p H (e H h)
theorem Ent.has {L' A : List HP} {c : HP} (e : Ent L L') (p : Pick L' c A) : ∃ A, Pick L c A := ⟨A, e.pick p⟩

/-! ### expressions -/
theorem g_var {i : Nat} (h : σ[i]? = some (some v)) (k : Go T L fun H => Q v H) : Go T L fun H => tVar i σ H Q := fun H t s => ⟨v, h, k H t s⟩
theorem g_c (k : Go T L fun H => Q v H) : Go T L fun H => tC v σ H Q := k
theorem g_op (k : Go T L fun H => ta σ H fun x H1 => tb σ H1 fun y H2 => r x y H2 Q) : Go T L fun H => tOp r ta tb σ H Q := k
theorem g_un {ru : V → Hp → VK → Prop} (k : Go T L fun H => ta σ H fun x H1 => ru x H1 Q) : Go T L fun H => tUn ru ta σ H Q := k
theorem g_I0 {g : Int → Int → V} (k : Go T L fun H => Q (g i j) H) : Go T L fun H => rI0 g (.int i) (.int j) H Q := fun H t s => ⟨i, j, rfl, rfl, k H t s⟩
theorem g_I {Cn : Int → Int → Prop} {g : Int → Int → V} (hc : Cn i j) (k : Go T L fun H => Q (g i j) H) : Go T L fun H => rI Cn g (.int i) (.int j) H Q := fun H t s => ⟨i, j, rfl, rfl, hc, k H t s⟩
theorem g_U {g : Int → V} (k : Go T L fun H => Q (g i) H) : Go T L fun H => rU g (.int i) H Q := fun H t s => ⟨i, rfl, k H t s⟩
theorem g_addI (k : Go T L fun H => Q (.int (i + j)) H) : Go T L fun H => rAddX K (.int i) (.int j) H Q := k
theorem g_addB (k : Go T L fun H => Q (.int (i + b2i b)) H) : Go T L fun H => rAddX K (.int i) (.bl b) H Q := k
theorem g_addS {s1 s2 : Str} (hl : s1.length + s2.length ≤ sizeLine) (k : Go T L fun H => Q (.str (s1 ++ s2)) H) : Go T L fun H => rAddX K (.str s1) (.str s2) H Q := fun H t s => ⟨hl, k H t s⟩
theorem g_addL {l q : Addr} {A B : List HP} (p1 : Pick L (pt l (.lst xs)) A) (p2 : Pick L (pt q (.lst ys)) B) (hl : xs.length + ys.length ≤ sizeLine) (k : ∀ p, Go T (pt p (.lst (xs ++ ys)) :: L) fun H => Q (.ref p) H) : Go T L fun H => rAddX K (.ref l) (.ref q) H Q :=
  fun H t s => .inl ⟨xs, ys, p1.at s, p2.at s, hl, (go_new (P := fun p => pt p (.lst (xs ++ ys))) rfl (fun _ _ e => e) k) H t s⟩
theorem g_mulI (hc : CMul i j) (k : Go T L fun H => Q (.int (i * j)) H) : Go T L fun H => rMulX K (.int i) (.int j) H Q := fun H t s => ⟨hc, k H t s⟩
theorem g_eqS (h : scal x y = true) (k : Go T L fun H => Q (.bl (decide (x = y))) H) : Go T L fun H => rEqX K x y H Q := fun H t s => .inl ⟨h, k H t s⟩
theorem g_neS (h : scal x y = true) (k : Go T L fun H => Q (.bl (!decide (x = y))) H) : Go T L fun H => rNeX K x y H Q := fun H t s => .inl ⟨h, k H t s⟩
theorem g_eqD {d e : PyData} (h1 : ∀ H, Seps L H → Dp K H x d) (h2 : ∀ H, Seps L H → Dp K H y e) (s1 : SeqAt.shaped d = true) (s2 : SeqAt.shaped e = true) (k : Go T L fun H => Q (.bl (PyData.eqv d e)) H) : Go T L fun H => rEqX K x y H Q :=
  fun H t s => .inr ⟨d, e, h1 H s, h2 H s, s1, s2, k H t s⟩
theorem g_neD {d e : PyData} (h1 : ∀ H, Seps L H → Dp K H x d) (h2 : ∀ H, Seps L H → Dp K H y e) (s1 : SeqAt.shaped d = true) (s2 : SeqAt.shaped e = true) (k : Go T L fun H => Q (.bl (!PyData.eqv d e)) H) : Go T L fun H => rNeX K x y H Q :=
  fun H t s => .inr ⟨d, e, h1 H s, h2 H s, s1, s2, k H t s⟩
theorem g_isN (k : Go T L fun H => Q (.bl (decide (x = .non))) H) : Go T L fun H => rIsNX x .non H Q := fun H t s => ⟨rfl, k H t s⟩
theorem g_notN (k : Go T L fun H => Q (.bl (!decide (x = .non))) H) : Go T L fun H => rNotNX x .non H Q := fun H t s => ⟨rfl, k H t s⟩
theorem g_ixL {A : List HP} (pk : Pick L (pt a (.lst xs)) A) (h : atI xs i = some v) (k : Go T L fun H => Q v H) : Go T L fun H => rIxX K (.ref a) (.int i) H Q := fun H t s => .inl ⟨a, xs, i, v, rfl, rfl, SqL.of (pk.at s), h, k H t s⟩
theorem g_ixT {A : List HP} (pk : Pick L (pt a (.tup xs)) A) (h : atI xs i = some v) (k : Go T L fun H => Q v H) : Go T L fun H => rIxX K (.ref a) (.int i) H Q := fun H t s => .inr ⟨a, xs, i, v, rfl, rfl, SqT.of (pk.at s), h, k H t s⟩
theorem g_slL {A : List HP} {lo hi : Option Int} (pk : Pick L (pt a (.lst xs)) A) (k : ∀ p, Go T (pt p (.lst (cutV xs lo hi)) :: L) fun H => Q (.ref p) H) : Go T L fun H => rSlXX K (.ref a) lo hi H Q :=
  fun H t s => .inl ⟨a, xs, rfl, SqL.of (pk.at s), (go_new (P := fun p => pt p (.lst (cutV xs lo hi))) rfl (fun _ _ e => e) k) H t s⟩
theorem g_sl {rs : V → Option Int → Option Int → Hp → VK → Prop} {tl th : TO} (k : Go T L fun H => te σ H fun x H1 => tl σ H1 fun l H2 => th σ H2 fun u H3 => rs x l u H3 Q) : Go T L fun H => tSl rs te tl th σ H Q := k
theorem g_noPart {R : Option Int → Hp → Prop} (k : Go T L fun H => R none H) : Go T L fun H => tNoPart σ H R := k
def lPart (R : Option Int → Hp → Prop) (x : V) (H : Hp) : Prop := ∃ i, x = .int i ∧ R (some i) H
theorem g_part {R : Option Int → Hp → Prop} (k : Go T L fun H => te σ H (lPart R)) : Go T L fun H => tPart te σ H R := k
theorem g_isInt {R : Int → Hp → Prop} (k : Go T L fun H => R i H) : Go T L fun H => ∃ i', V.int i = .int i' ∧ R i' H := fun H t s => ⟨i, rfl, k H t s⟩
theorem g_isSomeInt {R : Option Int → Hp → Prop} (k : Go T L fun H => R (some i) H) : Go T L fun H => lPart R (.int i) H := fun H t s => ⟨i, rfl, k H t s⟩
theorem g_fldE (k : Go T L fun H => ta σ H (lFld C f Q)) : Go T L fun H => tFldC C f ta σ H Q := k
theorem g_fld {A : List HP} (pk : Pick L (ob a C fs) A) (h : fs.lookup f = some v) (k : Go T L fun H => Q v H) : Go T L fun H => lFld C f Q (.ref a) H := fun H t s => by
  obtain ⟨dx, e⟩ := pk.obj s
  exact ⟨a, dx, fs, v, rfl, e, h, k H t s⟩
def nTup (Q : VK) (xs : List V) (H : Hp) : Prop := xs.length ≤ sizeLine ∧ ∀ p, H p = none → Q (.ref p) (upd H p (.tup xs))
def nLst (Q : VK) (xs : List V) (H : Hp) : Prop := xs.length ≤ sizeLine ∧ ∀ p, H p = none → Q (.ref p) (upd H p (.lst xs))
theorem g_tup {tr : TA} (k : Go T L fun H => tr σ H (nTup Q)) : Go T L fun H => tTup tr σ H Q := k
theorem g_lst {tr : TA} (k : Go T L fun H => tr σ H (nLst Q)) : Go T L fun H => tLst tr σ H Q := k
theorem g_newT (hl : xs.length ≤ sizeLine) (k : ∀ p, Go T (pt p (.tup xs) :: L) fun H => Q (.ref p) H) : Go T L fun H => nTup Q xs H :=
  fun H t s => ⟨hl, (go_new (P := fun p => pt p (.tup xs)) rfl (fun _ _ e => e) k) H t s⟩
theorem g_newL (hl : xs.length ≤ sizeLine) (k : ∀ p, Go T (pt p (.lst xs) :: L) fun H => Q (.ref p) H) : Go T L fun H => nLst Q xs H :=
  fun H t s => ⟨hl, (go_new (P := fun p => pt p (.lst xs)) rfl (fun _ _ e => e) k) H t s⟩
theorem g_nil {R : List V → Hp → Prop} (k : Go T L fun H => R [] H) : Go T L fun H => tNil σ H R := k
theorem g_cons {tr : TA} {R : List V → Hp → Prop} (k : Go T L fun H => ta σ H fun x H1 => tr σ H1 fun xs H2 => R (x :: xs) H2) : Go T L fun H => tCons ta tr σ H R := k
theorem g_call {sp : Sp} {E : XK} {tr : TA} (k : Go T L fun H => tr σ H fun vs H1 => sp vs H1 Q E) : Go T L fun H => tCall sp [] E tr σ H Q := by
  unfold tCall
  simp only [List.append_nil]
  exact k
/-- a method of an instance that stands in the chunk c -/
def HasM (L : List HP) (a C : Addr) (m : Str) : Prop := ∀ H, Seps L H → ∃ dx fs, H a = some (.ins C dx fs) ∧ fs.lookup m = none
def lMeth (C : Addr) (m : Str) (sp : Sp) (E : XK) (tr : TA) (σ : L2.St) (Q : VK) : V → Hp → Prop := fun x H1 => ∃ a dx fs, x = .ref a ∧ H1 a = some (.ins C dx fs) ∧ fs.lookup m = none ∧ tr σ H1 fun vs H2 => sp (x :: (vs ++ [])) H2 Q E
theorem g_methE {m : Str} {sp : Sp} {E : XK} {tr : TA} (k : Go T L fun H => ta σ H (lMeth C m sp E tr σ Q)) : Go T L fun H => tMeth C m sp [] E ta tr σ H Q := k
theorem g_meth {m : Str} {sp : Sp} {E : XK} {tr : TA} (hm : HasM L a C m) (k : Go T L fun H => tr σ H fun vs H2 => sp (.ref a :: vs) H2 Q E) : Go T L fun H => lMeth C m sp E tr σ Q (.ref a) H := fun H t s => by
  obtain ⟨dx, fs, e, n⟩ := hm H s
  refine ⟨a, dx, fs, rfl, e, n, ?_⟩
  simp only [List.append_nil]
  exact k H t s
theorem hasM_ob {A : List HP} {m : Str} (pk : Pick L (ob a C fs) A) (h : fs.lookup m = none) : HasM L a C m := fun H s => by
  obtain ⟨dx, e⟩ := pk.obj s
  exact ⟨dx, fs, e, h⟩
def nMk (C : Addr) (sp : Sp) (E : XK) (Q : VK) (vs : List V) (H1 : Hp) : Prop := ∀ x dx, H1 x = none → H1 dx = none → dx ≠ x → sp (.ref x :: vs) (upd (upd H1 dx (.own x)) x (.ins C dx [])) (fun v H2 => v = .non ∧ Q (.ref x) H2) E
theorem g_make {sp : Sp} {E : XK} {tr : TA} (k : Go T L fun H => tr σ H (nMk C sp E Q)) : Go T L fun H => tMake C sp [] E tr σ H Q := by
  unfold tMake
  simp only [List.append_nil]
  exact k
theorem g_made {sp : Sp} {E : XK} {vs : List V} (k : ∀ x, Go T (ob x C [] :: L) fun H => sp (.ref x :: vs) H (fun v H2 => v = .non ∧ Q (.ref x) H2) E) : Go T L fun H => nMk C sp E Q vs H := fun H t s x dx nx nd ne => by
  have t1 := Tabs.new (o := .own x) t nd
  have s1 : Seps L (upd H dx (.own x)) := s.sub fun b u e => by rw [upd_ne (ne_of_none e nd)]; exact e
  have n1 : upd H dx (.own x) x = none := by rw [upd_ne (Ne.symm ne)]; exact nx
  exact k x _ (Tabs.new t1 n1) (s1.new n1 rfl fun kk e => ⟨dx, e⟩)
theorem g_cb {rc : List V → Hp → VK → Prop} {tr : TA} (k : Go T L fun H => tr σ H fun vs H1 => rc vs H1 Q) : Go T L fun H => tCB rc tr σ H Q := k
theorem g_int (k : Go T L fun H => Q (.int i) H) : Go T L fun H => rIntX [.int i] H Q := fun H t s => .inl ⟨i, rfl, k H t s⟩
theorem g_intB (k : Go T L fun H => Q (.int (if b then 1 else 0)) H) : Go T L fun H => rIntX [.bl b] H Q := fun H t s => .inr ⟨b, rfl, k H t s⟩
theorem g_abs (k : Go T L fun H => Q (.int (if i < 0 then -i else i)) H) : Go T L fun H => rAbsX [.int i] H Q := fun H t s => ⟨i, rfl, k H t s⟩
theorem g_max2 (k : Go T L fun H => Q (.int (if j > i then j else i)) H) : Go T L fun H => rMax2X [.int i, .int j] H Q := fun H t s => ⟨i, j, rfl, k H t s⟩
theorem g_min2 (k : Go T L fun H => Q (.int (if j < i then j else i)) H) : Go T L fun H => rMin2X [.int i, .int j] H Q := fun H t s => ⟨i, j, rfl, k H t s⟩
theorem g_strI (h : i.natAbs.log2 < 1920) (k : Go T L fun H => Q (.str (toString i)) H) : Go T L fun H => rStrI [.int i] H Q := fun H t s => ⟨i, rfl, h, k H t s⟩
theorem g_lenL {A : List HP} (pk : Pick L (pt a (.lst xs)) A) (k : Go T L fun H => Q (.int xs.length) H) : Go T L fun H => rLenX K [.ref a] H Q := fun H t s => ⟨a, xs, rfl, .inl (SqL.of (pk.at s)), k H t s⟩
theorem g_lenT {A : List HP} (pk : Pick L (pt a (.tup xs)) A) (k : Go T L fun H => Q (.int xs.length) H) : Go T L fun H => rLenX K [.ref a] H Q := fun H t s => ⟨a, xs, rfl, .inr (SqT.of (pk.at s)), k H t s⟩
theorem g_lenD {A : List HP} {kvs : List (Key × V)} (pk : Pick L (pt a (.dK kvs)) A) (k : Go T L fun H => Q (.int kvs.length) H) : Go T L fun H => rLenD [.ref a] H Q := fun H t s => ⟨a, kvs, rfl, pk.at s, k H t s⟩
theorem g_listL {A : List HP} (pk : Pick L (pt a (.lst xs)) A) (k : ∀ p, Go T (pt p (.lst xs) :: L) fun H => Q (.ref p) H) : Go T L fun H => rListX K [.ref a] H Q := fun H t s => ⟨a, xs, rfl, .inl (SqL.of (pk.at s)), (go_new (P := fun p => pt p (.lst xs)) rfl (fun _ _ e => e) k) H t s⟩
theorem g_listT {A : List HP} (pk : Pick L (pt a (.tup xs)) A) (k : ∀ p, Go T (pt p (.lst xs) :: L) fun H => Q (.ref p) H) : Go T L fun H => rListX K [.ref a] H Q := fun H t s => ⟨a, xs, rfl, .inr (SqT.of (pk.at s)), (go_new (P := fun p => pt p (.lst xs)) rfl (fun _ _ e => e) k) H t s⟩
theorem g_tupL {A : List HP} (pk : Pick L (pt a (.lst xs)) A) (k : ∀ p, Go T (pt p (.tup xs) :: L) fun H => Q (.ref p) H) : Go T L fun H => rTupX K [.ref a] H Q := fun H t s => ⟨a, xs, rfl, .inl ⟨SqL.of (pk.at s), (go_new (P := fun p => pt p (.tup xs)) rfl (fun _ _ e => e) k) H t s⟩⟩
theorem g_tupT {A : List HP} (pk : Pick L (pt a (.tup xs)) A) (k : Go T L fun H => Q (.ref a) H) : Go T L fun H => rTupX K [.ref a] H Q := fun H t s => ⟨a, xs, rfl, .inr ⟨SqT.of (pk.at s), k H t s⟩⟩
theorem g_sum {A : List HP} {ns : List Int} (pk : Pick L (pt a (.lst (ns.map V.int))) A) (k : Go T L fun H => Q (.int ns.sum) H) : Go T L fun H => rSum K [.ref a] H Q := fun H t s => ⟨a, ns, rfl, SqL.of (pk.at s), k H t s⟩
/-! ### methods of lists -/
theorem g_bm {rm : V → List V → Hp → VK → Prop} {tr : TA} (k : Go T L fun H => ta σ H fun x H1 => tyV K "list" x H1 ∧ tr σ H1 fun vs H2 => rm x vs H2 Q) : Go T L fun H => tBM K "list" rm ta tr σ H Q := k
theorem g_bm0 {rm : V → List V → Hp → VK → Prop} (k : Go T L fun H => ta σ H fun x H1 => tyV K "list" x H1 ∧ rm x [] H1 Q) : Go T L fun H => tBM0 K "list" rm ta σ H Q := k
theorem g_tyL {A : List HP} (pk : Pick L (pt a (.lst xs)) A) (k : Go T L P) : Go T L fun H => tyV K "list" (.ref a) H ∧ P H := fun H t s => ⟨.inl ⟨rfl, _, SqL.of (pk.at s)⟩, k H t s⟩
theorem go_lst {A : List HP} {G : Hp → Prop} (pk : Pick L (pt a (.lst xs)) A) (k : Go T (pt a (.lst ys) :: A) G) : Go T L fun H => G (upd H a (.lst ys)) := go_wr (P' := pt a (.lst ys)) pk rfl (fun h e => ⟨_, e, rfl, upd_same⟩) k
theorem g_append {A : List HP} (pk : Pick L (pt a (.lst xs)) A) (hl : xs.length < sizeLine) (k : Go T (pt a (.lst (xs ++ [y])) :: A) fun H => Q .non H) : Go T L fun H => rAppend (.ref a) [y] H Q := fun H t s => ⟨a, xs, y, rfl, rfl, pk.at s, hl, (go_lst pk k) H t s⟩
theorem g_pop {A : List HP} (pk : Pick L (pt a (.lst xs)) A) (h : xs[xs.length - 1]? = some y) (k : Go T (pt a (.lst xs.dropLast) :: A) fun H => Q y H) : Go T L fun H => rPop (.ref a) [] H Q := fun H t s => ⟨a, xs, y, rfl, rfl, pk.at s, h, (go_lst pk k) H t s⟩
theorem g_popAt {A : List HP} {m : Nat} (pk : Pick L (pt a (.lst xs)) A) (h1 : -(2 ^ 63) ≤ i) (h2 : i < 2 ^ 63) (h3 : seqIndex? i xs.length = some m) (h : xs[m]? = some y) (k : Go T (pt a (.lst (xs.eraseIdx m)) :: A) fun H => Q y H) : Go T L fun H => rPopAt (.ref a) [.int i] H Q :=
  fun H t s => ⟨a, xs, i, m, y, rfl, rfl, pk.at s, h1, h2, h3, h, (go_lst pk k) H t s⟩
theorem g_rep {A : List HP} (pk : Pick L (pt a (.lst xs)) A) (h1 : -(2 ^ 63) ≤ i) (h2 : i < 2 ^ 63) (h3 : xs.length * i.toNat ≤ sizeLine) (k : ∀ p, Go T (pt p (.lst (List.replicate i.toNat xs).flatten) :: L) fun H => Q (.ref p) H) : Go T L fun H => rMulX K (.ref a) (.int i) H Q :=
  fun H t s => ⟨a, i, xs, rfl, rfl, pk.at s, h1, h2, h3, (go_new (P := fun p => pt p (.lst (List.replicate i.toNat xs).flatten)) rfl (fun _ _ e => e) k) H t s⟩

/-! ### tests -/
theorem g_test {R : Bool → Hp → Prop} (k : Go T L fun H => te σ H fun x H' => ∃ k, x = .bl k ∧ R k H') : Go T L fun H => tTest te σ H R := k
theorem g_B {R : Bool → Hp → Prop} (k : Go T L fun H => te σ H fun x H' => ∃ k, x = .bl k ∧ R k H') : Go T L fun H => tB te σ H R := k
theorem g_isB {R : Bool → Hp → Prop} (k : Go T L fun H => R b H) : Go T L fun H => ∃ k, V.bl b = .bl k ∧ R k H := fun H t s => ⟨b, rfl, k H t s⟩
theorem g_if {A B : Hp → Prop} (h1 : b = true → Go T L A) (h2 : b = false → Go T L B) : Go T L fun H => if b = true then A H else B H := fun H t s => by
  cases b with
  | true => rw [if_pos rfl]; exact h1 rfl H t s
  | false => rw [if_neg (by decide)]; exact h2 rfl H t s
theorem g_ifT {A B : Hp → Prop} (h : b = true) (k : Go T L A) : Go T L fun H => if b = true then A H else B H := g_if (fun _ => k) (fun e => absurd (e.symm.trans h) (by decide))
theorem g_ifF {A B : Hp → Prop} (h : b = false) (k : Go T L B) : Go T L fun H => if b = true then A H else B H := g_if (fun e => absurd (e.symm.trans h) (by decide)) (fun _ => k)
theorem g_ifD {c : Prop} [Decidable c] {A B : Hp → Prop} (h1 : c → Go T L A) (h2 : ¬ c → Go T L B) : Go T L fun H => if decide c = true then A H else B H := g_if (fun e => h1 (of_decide_eq_true e)) (fun e => h2 (of_decide_eq_false e))
theorem g_ifN {c : Prop} [Decidable c] {A B : Hp → Prop} (h1 : c → Go T L B) (h2 : ¬ c → Go T L A) : Go T L fun H => if (!decide c) = true then A H else B H :=
  g_if (fun e => h2 (of_decide_eq_false (by simpa using e))) (fun e => h1 (of_decide_eq_true (by simpa using e)))
theorem g_not {R : Bool → Hp → Prop} (k : Go T L fun H => t σ H fun c H1 => R (!c) H1) : Go T L fun H => tNot t σ H R := k
theorem g_tand {R : Bool → Hp → Prop} (k : Go T L fun H => t σ H fun c H1 => if c = true then u σ H1 R else R false H1) : Go T L fun H => tAnd t u σ H R := k
theorem g_tor {R : Bool → Hp → Prop} (k : Go T L fun H => t σ H fun c H1 => if c = true then R true H1 else u σ H1 R) : Go T L fun H => tOr t u σ H R := k
theorem g_andV (k : Go T L fun H => ta σ H fun x H1 => ∃ c, x = .bl c ∧ if c = true then tb σ H1 Q else Q (.bl false) H1) : Go T L fun H => tAndV ta tb σ H Q := k
theorem g_orV (k : Go T L fun H => ta σ H fun x H1 => ∃ c, x = .bl c ∧ if c = true then Q (.bl true) H1 else tb σ H1 Q) : Go T L fun H => tOrV ta tb σ H Q := k
theorem g_notV (k : Go T L fun H => ta σ H fun x H1 => ∃ c, x = .bl c ∧ Q (.bl (!c)) H1) : Go T L fun H => tNotV ta σ H Q := k
theorem g_ifE (k : Go T L fun H => t σ H fun c H1 => if c = true then ta σ H1 Q else tb σ H1 Q) : Go T L fun H => tIf t ta tb σ H Q := k
theorem g_chain (k : Go T L fun H => ta σ H fun x H1 => tb σ H1 fun y H2 => r x y H2 fun z H3 => ∃ k, z = .bl k ∧ (if k = true then tc σ H3 fun w' H4 => r' y w' H4 Q else Q (.bl false) H3)) : Go T L fun H => tChain r r' ta tb tc σ H Q := k
theorem g_tru {R : Bool → Hp → Prop} (k : Go T L fun H => ta σ H fun x H' => ∃ k, TruV K x H' k ∧ R k H') : Go T L fun H => tTruX K ta σ H R := k
theorem g_truB {R : Bool → Hp → Prop} (k : Go T L fun H => R b H) : Go T L fun H => ∃ k, TruV K (.bl b) H k ∧ R k H := fun H t s => ⟨b, rfl, k H t s⟩
theorem g_truI {R : Bool → Hp → Prop} (k : Go T L fun H => R (i != 0) H) : Go T L fun H => ∃ k, TruV K (.int i) H k ∧ R k H := fun H t s => ⟨_, rfl, k H t s⟩
theorem g_truN {R : Bool → Hp → Prop} (k : Go T L fun H => R false H) : Go T L fun H => ∃ k, TruV K .non H k ∧ R k H := fun H t s => ⟨_, rfl, k H t s⟩
theorem g_truL {A : List HP} {R : Bool → Hp → Prop} (pk : Pick L (pt a (.lst xs)) A) (k : Go T L fun H => R (!xs.isEmpty) H) : Go T L fun H => ∃ k, TruV K (.ref a) H k ∧ R k H := fun H t s => ⟨_, .inl ⟨xs, SqL.of (pk.at s), rfl⟩, k H t s⟩

/-! ### statements -/
theorem g_seq (k : Go T L fun H => ts ⟨us ⟨N0, R0, B0, C0⟩, R0, B0, C0⟩ σ H) : Go T L fun H => tSeq ts us ⟨N0, R0, B0, C0⟩ σ H := k
theorem g_next (k : Go T L fun H => N0 σ H) : Go T L fun H => tNext ⟨N0, R0, B0, C0⟩ σ H := k
theorem g_brk (k : Go T L fun H => B0 σ H) : Go T L fun H => tBreak ⟨N0, R0, B0, C0⟩ σ H := k
theorem g_cont (k : Go T L fun H => C0 σ H) : Go T L fun H => tCont ⟨N0, R0, B0, C0⟩ σ H := k
theorem g_drop (k : Go T L fun H => te σ H fun _ H1 => N0 σ H1) : Go T L fun H => tDrop te ⟨N0, R0, B0, C0⟩ σ H := k
theorem g_ret (k : Go T L fun H => te σ H R0) : Go T L fun H => tRet te ⟨N0, R0, B0, C0⟩ σ H := k
theorem g_retN (k : Go T L fun H => R0 .non H) : Go T L fun H => tRetN ⟨N0, R0, B0, C0⟩ σ H := k
theorem g_ifS (k : Go T L fun H => t σ H fun b H1 => if b = true then ts ⟨N0, R0, B0, C0⟩ σ H1 else us ⟨N0, R0, B0, C0⟩ σ H1) : Go T L fun H => tIfS t ts us ⟨N0, R0, B0, C0⟩ σ H := k
theorem g_asg {g : TG} (k : Go T L fun H => te σ H fun x H1 => g x σ H1 N0) : Go T L fun H => tAsg te g ⟨N0, R0, B0, C0⟩ σ H := k
theorem g_name {m : Nat} {N : L2.St → Hp → Prop} (k : Go T L fun H => N (σ.set m (some v)) H) : Go T L fun H => gName m v σ H N := k
theorem g_gsub {to ti : TE} {tt : TSet} {N : L2.St → Hp → Prop} (k : Go T L fun H => to σ H fun o H1 => ti σ H1 fun i H2 => tt o i v H2 fun H3 => N σ H3) : Go T L fun H => gSub to ti tt v σ H N := k
theorem g_setL {A : List HP} {m : Nat} {N : Hp → Prop} (pk : Pick L (pt a (.lst xs)) A) (h : ixN xs.length i = some m) (k : Go T (pt a (.lst (xs.set m v)) :: A) N) : Go T L fun H => rSetL (.ref a) (.int i) v H N := fun H t s => ⟨a, xs, i, m, rfl, rfl, pk.at s, h, (go_lst pk k) H t s⟩
theorem g_gtup {A : List HP} {m : Nat} {tg : TGs} {N : L2.St → Hp → Prop} (pk : Pick L (pt a (.tup xs)) A) (h : xs.length = m) (k : Go T L fun H => tg xs σ H N) : Go T L fun H => gTup K m tg (.ref a) σ H N := fun H t s => ⟨a, xs, rfl, SqT.of (pk.at s), h, k H t s⟩
theorem g_gnil {N : L2.St → Hp → Prop} (k : Go T L fun H => N σ H) : Go T L fun H => gNil [] σ H N := fun H t s => ⟨rfl, k H t s⟩
theorem g_gcons {g : TG} {tg : TGs} {vs : List V} {N : L2.St → Hp → Prop} (k : Go T L fun H => g v σ H fun σ' H' => tg vs σ' H' N) : Go T L fun H => gCons g tg (v :: vs) σ H N := fun H t s => ⟨v, vs, rfl, k H t s⟩
theorem g_par {m q : Nat} {tr : TA} (k : Go T L fun H => tr σ H fun vs H1 => ∃ v w, vs = [v, w] ∧ N0 ((σ.set m (some v)).set q (some w)) H1) : Go T L fun H => tPar m q tr ⟨N0, R0, B0, C0⟩ σ H := k
theorem g_par2 {F : V → V → Hp → Prop} (k : Go T L fun H => F x y H) : Go T L fun H => ∃ v w, [x, y] = [v, w] ∧ F v w H := fun H t s => ⟨x, y, rfl, k H t s⟩
theorem g_sfldE {tv : TE} (k : Go T L fun H => tv σ H fun y H1 => ta σ H1 (lSFld C f y (N0 σ))) : Go T L fun H => sFldC C f ta tv ⟨N0, R0, B0, C0⟩ σ H := k
theorem g_sfld {A : List HP} {fs' : List (Str × V)} {N : Hp → Prop} (pk : Pick L (ob a C fs) A) (h : putF f y fs = fs') (hl : fs.length < 1000) (k : Go T (ob a C fs' :: A) N) : Go T L fun H => lSFld C f y N (.ref a) H := fun H t s => by
  obtain ⟨dx, e⟩ := pk.obj s
  refine ⟨a, dx, fs, rfl, e, hl, ?_⟩
  rw [h]
  exact (go_wr (P' := ob a C fs') (o' := .ins C dx fs') pk rfl (fun hh ⟨dy, e1⟩ => ⟨_, e1, rfl, dx, upd_same⟩) k) H t s
theorem g_augE {tv : TE} {rd : V → V → Hp → VK → Prop} (k : Go T L fun H => ta σ H (lAugF C f tv rd σ (N0 σ))) : Go T L fun H => sAugC C f ta tv rd ⟨N0, R0, B0, C0⟩ σ H := k
theorem g_augF {A : List HP} {tv : TE} {rd : V → V → Hp → VK → Prop} {N : Hp → Prop} (pk : Pick L (ob a C fs) A) (h : fs.lookup f = some v) (k : Go T L fun H => tv σ H fun y H2 => rd v y H2 fun z H3 => lSFld C f z N (.ref a) H3) : Go T L fun H => lAugF C f tv rd σ N (.ref a) H := fun H t s => by
  obtain ⟨dx, e⟩ := pk.obj s
  exact ⟨a, dx, fs, v, rfl, e, h, k H t s⟩
theorem g_augV {m : Nat} {ti : TIp} (h : σ[m]? = some (some x)) (k : Go T L fun H => te σ H fun y H1 => ti x y H1 fun z H2 => N0 (σ.set m (some z)) H2) : Go T L fun H => tAug m te ti ⟨N0, R0, B0, C0⟩ σ H := fun H t s => ⟨x, h, k H t s⟩
theorem g_ipI {g : Int → Int → Int} (k : Go T L fun H => Q (.int (g i j)) H) : Go T L fun H => ipI g (.int i) (.int j) H Q := fun H t s => ⟨i, j, rfl, rfl, k H t s⟩
theorem g_rAdd (k : Go T L fun H => Q (.int (i + j)) H) : Go T L fun H => rAdd (.int i) (.int j) H Q := fun H t s => ⟨i, j, rfl, rfl, k H t s⟩
theorem g_rSub (k : Go T L fun H => Q (.int (i - j)) H) : Go T L fun H => rSub (.int i) (.int j) H Q := fun H t s => ⟨i, j, rfl, rfl, k H t s⟩

/-! ### loops -/
/-- a state told by slots and chunks -/
abbrev SI := L2.St → List HP → Prop
def SI.at (T : List (Addr × Str)) (I : SI) : L2.St → Hp → Prop := fun σ H => ∃ L, I σ L ∧ LamX.Tabs T H ∧ Seps L H
theorem SI.in {I : SI} (h : I σ L) : Go T L fun H => SI.at T I σ H := fun H t s => ⟨L, h, t, s⟩
theorem SI.out {I : SI} {G : L2.St → Hp → Prop} (k : ∀ σ L, I σ L → Go T L fun H => G σ H) : ∀ σ H, SI.at T I σ H → G σ H := fun σ H ⟨L, h, t, s⟩ => k σ L h H t s
def ForG (J : It) (g : TG) (ts : TS) (N0 : L2.St → Hp → Prop) (R0 : VK) (σ : L2.St) (H1 : Hp) : Prop := ∃ W : Nat → Nat → L2.St → Hp → Prop, (∃ m, W 0 m σ H1) ∧ ∀ i m σ H, W i m σ H →
  (J.stop i H ∧ N0 σ H) ∨ (J.go i H ∧ ∃ N : L2.St → Hp → Prop, (∀ σ' H', N σ' H' → ∃ m', m' < m ∧ W (i + 1) m' σ' H') ∧ ∀ x H', J.yld i H x H' → g x σ H' fun σ2 H2 => ts ⟨N, R0, N0, N⟩ σ2 H2)
theorem g_for {wi : TI} {g : TG} (k : Go T L fun H => wi σ H fun J H1 => ForG J g ts N0 R0 σ H1) : Go T L fun H => tFor wi g ts ⟨N0, R0, B0, C0⟩ σ H := k
def lRng1 (R : It → Hp → Prop) (vs : List V) (H : Hp) : Prop := ∃ j : Int, vs = [.int j] ∧ -(2 ^ 62) ≤ j ∧ j < 2 ^ 62 ∧ R (Itr 0 j.toNat) H
def lRng2 (R : It → Hp → Prop) (vs : List V) (H : Hp) : Prop := ∃ i j : Int, vs = [.int i, .int j] ∧ (-(2 ^ 62) ≤ i ∧ i < 2 ^ 62 ∧ -(2 ^ 62) ≤ j ∧ j < 2 ^ 62) ∧ R (Itr i (j - i).toNat) H
def lSeq (K : PySem.W.Frag) (R : It → Hp → Prop) (x : V) (H : Hp) : Prop := ∃ a, x = .ref a ∧ ((∃ xs, SqL K H a xs ∧ R (Itl K a) H) ∨ ∃ xs, SqT K H a xs ∧ R (Itt K a) H)
theorem g_iRng1 {tr : TA} {R : It → Hp → Prop} (k : Go T L fun H => tr σ H (lRng1 R)) : Go T L fun H => iRng1 tr σ H R := k
theorem g_iRng2 {tr : TA} {R : It → Hp → Prop} (k : Go T L fun H => tr σ H (lRng2 R)) : Go T L fun H => iRng2 tr σ H R := k
theorem g_rng1 {R : It → Hp → Prop} (h1 : -(2 ^ 62) ≤ j) (h2 : j < 2 ^ 62) (k : Go T L fun H => R (Itr 0 j.toNat) H) : Go T L fun H => lRng1 R [.int j] H := fun H t s => ⟨j, rfl, h1, h2, k H t s⟩
theorem g_rng2 {R : It → Hp → Prop} (h : -(2 ^ 62) ≤ i ∧ i < 2 ^ 62 ∧ -(2 ^ 62) ≤ j ∧ j < 2 ^ 62) (k : Go T L fun H => R (Itr i (j - i).toNat) H) : Go T L fun H => lRng2 R [.int i, .int j] H := fun H t s => ⟨i, j, rfl, h, k H t s⟩
/-- for over a range, by an invariant over turns, slots, chunks -/
theorem g_forR {lo : Int} {g : TG} (I : Nat → SI) (h0 : I 0 σ L) (hs : ∀ i σ L, i < n → I i σ L → Go T L fun H => g (.int (lo + i)) σ H fun σ2 H2 => ts ⟨SI.at T (I (i + 1)), R0, N0, SI.at T (I (i + 1))⟩ σ2 H2)
    (hd : ∀ σ L, I n σ L → Go T L fun H => N0 σ H) : Go T L fun H => ForG (Itr lo n) g ts N0 R0 σ H := fun H t s =>
  for_range (D := ⟨N0, R0, fun _ _ => False, fun _ _ => False⟩) (lo := lo) (n := n) (fun i => SI.at T (I i)) ⟨L, h0, t, s⟩ (fun i σ H hi ⟨L, h, t, s⟩ => hs i σ L hi h H t s) (fun σ H ⟨L, h, t, s⟩ => hd σ L h H t s)
/-- for over a list that stands still -/
theorem g_forL {g : TG} (I : Nat → SI) (h0 : I 0 σ L) (hl : ∀ i σ L, I i σ L → ∃ A, Pick L (pt a (.lst xs)) A) (hs : ∀ i x σ L, xs[i]? = some x → I i σ L → Go T L fun H => g x σ H fun σ2 H2 => ts ⟨SI.at T (I (i + 1)), R0, N0, SI.at T (I (i + 1))⟩ σ2 H2)
    (hd : ∀ σ L, I xs.length σ L → Go T L fun H => N0 σ H) : Go T L fun H => ForG (Itl K a) g ts N0 R0 σ H := fun H t s =>
  for_list (D := ⟨N0, R0, fun _ _ => False, fun _ _ => False⟩) (K := K) (xs := xs) (fun i => SI.at T (I i)) ⟨L, h0, t, s⟩ (fun i σ H _ ⟨L, h, t, s⟩ => let ⟨_, pk⟩ := hl i σ L h; SqL.of (pk.at s)) (fun i x σ H hi ⟨L, h, t, s⟩ => hs i x σ L hi h H t s) (fun σ H ⟨L, h, t, s⟩ => hd σ L h H t s)
theorem g_forT {g : TG} (I : Nat → SI) (h0 : I 0 σ L) (hl : ∀ i σ L, I i σ L → ∃ A, Pick L (pt a (.tup xs)) A) (hs : ∀ i x σ L, xs[i]? = some x → I i σ L → Go T L fun H => g x σ H fun σ2 H2 => ts ⟨SI.at T (I (i + 1)), R0, N0, SI.at T (I (i + 1))⟩ σ2 H2)
    (hd : ∀ σ L, I xs.length σ L → Go T L fun H => N0 σ H) : Go T L fun H => ForG (Itt K a) g ts N0 R0 σ H := fun H t s =>
  for_tup (D := ⟨N0, R0, fun _ _ => False, fun _ _ => False⟩) (K := K) (xs := xs) (fun i => SI.at T (I i)) ⟨L, h0, t, s⟩ (fun i σ H _ ⟨L, h, t, s⟩ => let ⟨_, pk⟩ := hl i σ L h; SqT.of (pk.at s)) (fun i x σ H hi ⟨L, h, t, s⟩ => hs i x σ L hi h H t s) (fun σ H ⟨L, h, t, s⟩ => hd σ L h H t s)
theorem g_iSeqE {R : It → Hp → Prop} (k : Go T L fun H => te σ H (lSeq K R)) : Go T L fun H => iSeq K te σ H R := k
theorem g_iSeqL {A : List HP} {R : It → Hp → Prop} (pk : Pick L (pt a (.lst xs)) A) (k : Go T L fun H => R (Itl K a) H) : Go T L fun H => lSeq K R (.ref a) H := fun H t s => ⟨a, rfl, .inl ⟨xs, SqL.of (pk.at s), k H t s⟩⟩
theorem g_iSeqT {A : List HP} {R : It → Hp → Prop} (pk : Pick L (pt a (.tup xs)) A) (k : Go T L fun H => R (Itt K a) H) : Go T L fun H => lSeq K R (.ref a) H := fun H t s => ⟨a, rfl, .inr ⟨xs, SqT.of (pk.at s), k H t s⟩⟩
def wBody (T : List (Addr × Str)) (I : Nat → SI) (m : Nat) (ts : TS) (N0 : L2.St → Hp → Prop) (R0 : VK) (σ : L2.St) (H : Hp) : Prop :=
  ∃ N : L2.St → Hp → Prop, (∀ σ' H', N σ' H' → ∃ m', m' < m ∧ SI.at T (I m') σ' H') ∧ ts ⟨N, R0, N0, N⟩ σ H
theorem g_wbody {I : Nat → SI} {m : Nat} (k : Go T L fun H => ts ⟨SI.at T (fun σ L => ∃ m', m' < m ∧ I m' σ L), R0, N0, SI.at T (fun σ L => ∃ m', m' < m ∧ I m' σ L)⟩ σ H) : Go T L fun H => wBody T I m ts N0 R0 σ H := fun H t s =>
  ⟨_, fun σ' H' ⟨L', ⟨m', lt, h'⟩, t', s'⟩ => ⟨m', lt, L', h', t', s'⟩, k H t s⟩
/-- while, by an invariant over a measure, slots, chunks -/
theorem g_while (I : Nat → SI) (m0 : Nat) (h0 : I m0 σ L) (hs : ∀ m σ L, I m σ L → Go T L fun H => t σ H fun b H1 => if b = true then wBody T I m ts N0 R0 σ H1 else N0 σ H1) : Go T L fun H => tWhile t ts ⟨N0, R0, B0, C0⟩ σ H := fun H tt s =>
  ⟨fun m σ H => SI.at T (I m) σ H, ⟨m0, L, h0, tt, s⟩, fun m σ H ⟨L', h, t1, s1⟩ => hs m σ L' h H t1 s1⟩
theorem cut_take {xs : List V} {m : Nat} : cutV xs none (some (m : Int)) = xs.take m := by
  unfold cutV
  rw [HT.sIx_none, HT.sIx_nat, List.drop_zero, Nat.sub_zero]
  rcases Nat.le_total m xs.length with h | h
  · rw [Nat.min_eq_left h]
  · rw [Nat.min_eq_right h, List.take_length, List.take_of_length_le h]
theorem cut_drop {xs : List V} {m : Nat} : cutV xs (some (m : Int)) none = xs.drop m := by
  unfold cutV
  rw [HT.sIx_none, HT.sIx_nat]
  rcases Nat.le_total m xs.length with h | h
  · rw [Nat.min_eq_left h, List.take_of_length_le (by rw [List.length_drop]; exact Nat.le_refl _)]
  · rw [Nat.min_eq_right h, Nat.sub_self, List.take_zero, List.drop_of_length_le h]
end
/-! ### comprehensions -/
section
variable {T : List (Addr × Str)} {L : List HP} {σ : L2.St} {Q : VK} {K : PySem.W.Frag} {n : Nat} {te : TE} {tt : TT} {g : TG} {vs : List Nat} {a : Addr} {xs : List V}
abbrev CI := Nat → List V → List HP → Prop
def LcPv (T : List (Addr × Str)) (D : Addr) (I : CI) (i : Nat) : Hp → Prop := fun H => ∃ acc L, I i acc L ∧ LamX.Tabs T H ∧ Seps (pt D (.lst acc) :: L) H
def LcAdd (T : List (Addr × Str)) (D : Addr) (I : CI) (i : Nat) (y : V) : Hp → Prop := fun H4 => ∃ acc, H4 D = some (.lst acc) ∧ acc.length < sizeLine ∧ LcPv T D I i (upd H4 D (.lst (acc ++ [y])))
def LcTurn (T : List (Addr × Str)) (D : Addr) (I : CI) (i : Nat) (g : TG) (tt : TT) (te : TE) (vs : List Nat) (σ : L2.St) (x : V) : Hp → Prop := fun H =>
  g x (wipe σ vs) H fun σ2 H2 => wipe σ2 vs = wipe σ vs ∧ tt σ2 H2 fun b H3 => if b = true then te σ2 H3 fun y H4 => LcAdd T D I (i + 1) y H4 else LcPv T D I (i + 1) H3
def LcG (J : It) (g : TG) (tt : TT) (te : TE) (vs : List Nat) (σ : L2.St) (Q : VK) (H1 : Hp) : Prop := ∀ D, H1 D = none → ∃ W : Nat → Nat → Hp → Prop, (∃ m, W 0 m (upd H1 D (.lst []))) ∧ ∀ i m H, W i m H →
  (J.stop i H ∧ Q (.ref D) H) ∨ (J.go i H ∧ ∃ Nx : Hp → Prop, (∀ H', Nx H' → ∃ m', m' < m ∧ W (i + 1) m' H') ∧ ∀ x H', J.yld i H x H' → g x (wipe σ vs) H' fun σ2 H2 => wipe σ2 vs = wipe σ vs ∧ tt σ2 H2 fun b H3 =>
    if b = true then te σ2 H3 fun y H4 => ∃ acc, H4 D = some (.lst acc) ∧ acc.length < sizeLine ∧ Nx (upd H4 D (.lst (acc ++ [y]))) else Nx H3)
theorem g_lcE {wi : TI} (k : Go T L fun H => wi σ H fun J H1 => LcG J g tt te vs σ Q H1) : Go T L fun H => tLc wi g tt te vs σ H Q := k
theorem g_lcR {lo : Int} (I : CI) (h0 : I 0 [] L) (hs : ∀ D i acc L, i < n → I i acc L → Go T (pt D (.lst acc) :: L) (LcTurn T D I i g tt te vs σ (.int (lo + i))))
    (hd : ∀ D acc L, I n acc L → Go T (pt D (.lst acc) :: L) fun H => Q (.ref D) H) : Go T L fun H => LcG (Itr lo n) g tt te vs σ Q H := fun H t s D hD =>
  lc_range (lo := lo) (n := n) (LcPv T D I) ⟨[], L, h0, Tabs.new t hD, s.new hD rfl fun _ e => e⟩ (fun i H hi ⟨acc, L, h, t, s⟩ => hs D i acc L hi h H t s) (fun H ⟨acc, L, h, t, s⟩ => hd D acc L h H t s)
theorem g_lcL (I : CI) (h0 : I 0 [] L) (hl : ∀ i acc L, I i acc L → ∃ A, Pick L (pt a (.lst xs)) A) (hs : ∀ D i x acc L, xs[i]? = some x → I i acc L → Go T (pt D (.lst acc) :: L) (LcTurn T D I i g tt te vs σ x))
    (hd : ∀ D acc L, I xs.length acc L → Go T (pt D (.lst acc) :: L) fun H => Q (.ref D) H) : Go T L fun H => LcG (Itl K a) g tt te vs σ Q H := fun H t s D hD =>
  lc_list (K := K) (xs := xs) (LcPv T D I) ⟨[], L, h0, Tabs.new t hD, s.new hD rfl fun _ e => e⟩ (fun i H _ ⟨acc, L, h, t, s⟩ => let ⟨_, pk⟩ := hl i acc L h; SqL.of (pk.at s.tail)) (fun i x H hi ⟨acc, L, h, t, s⟩ => hs D i x acc L hi h H t s) (fun H ⟨acc, L, h, t, s⟩ => hd D acc L h H t s)
theorem g_lcT (I : CI) (h0 : I 0 [] L) (hl : ∀ i acc L, I i acc L → ∃ A, Pick L (pt a (.tup xs)) A) (hs : ∀ D i x acc L, xs[i]? = some x → I i acc L → Go T (pt D (.lst acc) :: L) (LcTurn T D I i g tt te vs σ x))
    (hd : ∀ D acc L, I xs.length acc L → Go T (pt D (.lst acc) :: L) fun H => Q (.ref D) H) : Go T L fun H => LcG (Itt K a) g tt te vs σ Q H := fun H t s D hD =>
  lc_tup (K := K) (xs := xs) (LcPv T D I) ⟨[], L, h0, Tabs.new t hD, s.new hD rfl fun _ e => e⟩ (fun i H _ ⟨acc, L, h, t, s⟩ => let ⟨_, pk⟩ := hl i acc L h; SqT.of (pk.at s.tail)) (fun i x H hi ⟨acc, L, h, t, s⟩ => hs D i x acc L hi h H t s) (fun H ⟨acc, L, h, t, s⟩ => hd D acc L h H t s)
theorem g_turn {D : Addr} {I : CI} {i : Nat} {x : V} (k : Go T L fun H => g x (wipe σ vs) H fun σ2 H2 => wipe σ2 vs = wipe σ vs ∧ tt σ2 H2 fun b H3 => if b = true then te σ2 H3 fun y H4 => LcAdd T D I (i + 1) y H4 else LcPv T D I (i + 1) H3) : Go T L (LcTurn T D I i g tt te vs σ x) := k
theorem g_tYes {R : Bool → Hp → Prop} (k : Go T L fun H => R true H) : Go T L fun H => tYes σ H R := k
theorem g_lcAdd {D : Addr} {I : CI} {i : Nat} {y : V} {A : List HP} {acc : List V} (pk : Pick L (pt D (.lst acc)) A) (hl : acc.length < sizeLine) (h : I i (acc ++ [y]) A) : Go T L fun H => LcAdd T D I i y H := fun H t s =>
  ⟨acc, pk.at s, hl, (go_lst (G := LcPv T D I i) pk fun H t s => ⟨_, _, h, t, s⟩) H t s⟩
theorem g_lcKeep {D : Addr} {I : CI} {i : Nat} {A : List HP} {acc : List V} (pk : Pick L (pt D (.lst acc)) A) (h : I i acc A) : Go T L fun H => LcPv T D I i H := fun H t s => ⟨acc, A, h, t, pk H s⟩
end
/-! ### promises -/
/-- a promise told over chunks -/
abbrev SG := List V → List HP → VK → XK → Prop
def sOf (T : List (Addr × Str)) (sg : SG) : Sp := fun vs H Q E => ∃ L, LamX.Tabs T H ∧ Seps L H ∧ sg vs L Q E
theorem g_spec {T : List (Addr × Str)} {L : List HP} {sg : SG} {vs : List V} {Q : VK} {E : XK} (h : sg vs L Q E) : Go T L fun H => sOf T sg vs H Q E := fun H t s => ⟨L, t, s, h⟩
end Dh

/-! The layer Dh, fourth part: callees by one fact each, raising, a lambda handed to a def with several clauses. -/
namespace Dh
open PySem PySem.Spec PyProof.Rows L2

/-- a def that may be called by its name -/
structure CalX (P : Program) (w : World) (K : PySem.W.Frag) (mg : Str → Option Value) (base : Heap) (k : Nat) (x : Str) (sp : Sp) : Prop where
  ex : ∃ (f : Addr) (fd : FuncData) (ps : List Str), FnOk P w K mg base (L2.CX P w) k f fd ps sp ∧ mg x = some (.ref f) ∧ PySem.W.keepIn K (.ref f) = true ∧ Binds K fd ps []
structure MetX (P : Program) (w : World) (K : PySem.W.Frag) (mg : Str → Option Value) (base : Heap) (k : Nat) (C : Addr) (m : Str) (sp : Sp) : Prop where
  ex : ∃ (f : Addr) (fd : FuncData) (ps : List Str), Cls K C ∧ Meth K C m f ∧ FnOk P w K mg base (L2.CX P w) k f fd ps sp ∧ Binds K fd ps []
structure MakX (P : Program) (w : World) (K : PySem.W.Frag) (mg : Str → Option Value) (base : Heap) (k : Nat) (x : Str) (C : Addr) (sp : Sp) : Prop where
  ex : ∃ (f : Addr) (fd : FuncData) (ps : List Str), Mk K C f ∧ FnOk P w K mg base (L2.CX P w) k f fd ps sp ∧ mg x = some (.ref C) ∧ Binds K fd ps []
section
variable {X : Cx} {k j : Nat} {C : Addr} {x m : Str} {sp : Sp} {p pos apos : Pos} {e o : Expr} {es : List Expr} {ta : TE} {t : TA} {E : XK}
theorem pe_cal (c : CalX X.prog X.w X.K X.mg X.base k x sp) (hr : Room j X.A) (hk : k ≤ j) (hx : Passes (L2.CX X.prog X.w) X E) (hg : Gl X x) (ha : PA X (e :: es) t)
    (hdb : (x == ("__debug__" : Str)) = false := by decide) (he : starEach (e :: es) X.env = (false, eval e X.env) :: starEach es X.env := by rfl) (hpl : (backTo pos (starEach es X.env)).any (·.1) = false := by rfl) :
    PE X (.Call (.Name x p) (e :: es) [] pos) (tCall sp [] E t) := by
  obtain ⟨f, fd, ps, F, hm, kp, b⟩ := c.ex
  exact pe_call F (hr.mono hk) hg hm kp b .nil hx ha hdb he hpl
theorem pe_cal0 (c : CalX X.prog X.w X.K X.mg X.base k x sp) (hr : Room j X.A) (hk : k ≤ j) (hx : Passes (L2.CX X.prog X.w) X E) (hg : Gl X x) (hdb : (x == ("__debug__" : Str)) = false := by decide) :
    PE X (.Call (.Name x p) [] [] pos) (tCall sp [] E tNil) := by
  obtain ⟨f, fd, ps, F, hm, kp, b⟩ := c.ex
  exact pe_call0 F (hr.mono hk) hg hm kp b .nil hx hdb
theorem pe_mak (c : MakX X.prog X.w X.K X.mg X.base k x C sp) (hr : Room j X.A) (hk : k + 1 ≤ j) (hx : Passes (L2.CX X.prog X.w) X E) (hg : Gl X x) (ha : PA X (e :: es) t)
    (hdb : (x == ("__debug__" : Str)) = false := by decide) (he : starEach (e :: es) X.env = (false, eval e X.env) :: starEach es X.env := by rfl) (hpl : (backTo pos (starEach es X.env)).any (·.1) = false := by rfl) :
    PE X (.Call (.Name x p) (e :: es) [] pos) (tMake C sp [] E t) := by
  obtain ⟨f, fd, ps, M, F, hm, b⟩ := c.ex
  exact pe_make M F (hr.mono hk) hg hm b .nil hx ha hdb he hpl
theorem pe_mak0 (c : MakX X.prog X.w X.K X.mg X.base k x C sp) (hr : Room j X.A) (hk : k + 1 ≤ j) (hx : Passes (L2.CX X.prog X.w) X E) (hg : Gl X x) (hdb : (x == ("__debug__" : Str)) = false := by decide) :
    PE X (.Call (.Name x p) [] [] pos) (tMake C sp [] E tNil) := by
  obtain ⟨f, fd, ps, M, F, hm, b⟩ := c.ex
  exact pe_make0 M F (hr.mono hk) hg hm b .nil hx hdb
theorem pe_met {pl : Sem Bool} (c : MetX X.prog X.w X.K X.mg X.base k C m sp) (hr : Room j X.A) (hk : k ≤ j) (hx : Passes (L2.CX X.prog X.w) X E) (he : PE X o ta) (ha : PA X (e :: es) t)
    (hst : starEach (e :: es) X.env = (false, eval e X.env) :: starEach es X.env := by rfl) (hpl : (backTo pos (starEach es X.env)).any (·.1) = false := by rfl)
    (ht : eval (.Call (.Attribute o m apos) (e :: es) [] pos) X.env = (eval o X.env >>= fun ov => standAt apos.atName >>= fun _ => holding [ov] (getMethod ov m pl) >>= fun ff => callWith pos ff.1 ff.2 (backTo pos (starEach (e :: es) X.env)) (backToKw pos (keywordEach [] X.env))) := by rfl) :
    PE X (.Call (.Attribute o m apos) (e :: es) [] pos) (tMeth C m sp [] E ta t) := by
  obtain ⟨f, fd, ps, hc, hm, F, b⟩ := c.ex
  exact pe_meth (pl := pl) he hc hm F (hr.mono hk) b .nil hx ha hst hpl ht
theorem pe_met0 {pl : Sem Bool} (c : MetX X.prog X.w X.K X.mg X.base k C m sp) (hr : Room j X.A) (hk : k ≤ j) (hx : Passes (L2.CX X.prog X.w) X E) (he : PE X o ta)
    (ht : eval (.Call (.Attribute o m apos) [] [] pos) X.env = (eval o X.env >>= fun ov => standAt apos.atName >>= fun _ => holding [ov] (getMethod ov m pl) >>= fun ff => callWith pos ff.1 ff.2 (backTo pos (starEach [] X.env)) (backToKw pos (keywordEach [] X.env))) := by rfl) :
    PE X (.Call (.Attribute o m apos) [] [] pos) (tMeth C m sp [] E ta tNil) := by
  obtain ⟨f, fd, ps, hc, hm, F, b⟩ := c.ex
  exact pe_meth0 (pl := pl) he hc hm F (hr.mono hk) b .nil hx ht
end
/-! ### raising -/
/-- what the top has written of an exception class without an own __init__ -/
structure ExcX (K : PySem.W.Frag) (mg : Str → Option Value) (x : Str) (C : Addr) : Prop where
  g : mg x = some (.ref C)
  q : PySem.W.excIn K C [.type "ValueError", .type "Exception", .type "BaseException", .type "object"] "ValueError.__new__" = true
  k : PySem.W.keepIn K (.ref C) = true
  b : PySem.W.subIn K (.ref C) (.type "BaseException") = some true
  t : PySem.W.typeIn K (.ref C) = some (.type "type")
def tRs (C : Addr) (W : WX) : TS := fun _ σ H => W (.ref C) none σ H
theorem ps_rs {X : Cx} {W : WX} {x m : Str} {C : Addr} {j : Nat} {p p2 pos pos' : Pos} (hc : X.calm = true) (tk : Takes X W) (ec : ExcX X.K X.mg x C) (hg : Gl X x) (hdb : (x == ("__debug__" : Str)) = false := by decide) :
    PS X (.Raise (some (.Call (.Name x p) [.Constant (.str m) j p2] [] pos)) none pos') (tRs C W) :=
  ps_raise hc tk (pmk_own PySem.F.excBase_ValueError ec.q ec.g ec.k (raises_own ec.b ec.t) hg hdb)
section
variable {T : List (Addr × Str)} {L : List HP} {σ : L2.St} {D : Ends} {C : Addr} {E : XK} {W : WX}
theorem g_rs (k : Go T L fun H => E (.ref C) none H) : Go T L fun H => tRs C (fun cls d _ H => E cls d H) D σ H := k
theorem g_rsW (k : Go T L fun H => W (.ref C) none σ H) : Go T L fun H => tRs C W D σ H := k
end

/-! ### a lambda handed to a def: try: return what() / except X: return '..' / .. -/
/-- what the clauses give back of an exception -/
def toldE (K : PySem.W.Frag) : List (Addr × Str) → VK → XK
  | [], _ => fun _ _ _ => False
  | (C, ret) :: r, Q => fun cls d H => ∃ b, PySem.W.exmOne K cls (.ref C) = some b ∧ (b = true → Q (.str ret) H) ∧ (b = false → toldE K r Q cls d H)
def TTx (K : PySem.W.Frag) (cs : List (Addr × Str)) : (XK → Hp → VK → Prop) → Hp → VK → Prop := fun tl H Q => tl (toldE K cs Q) H Q
/-- the clauses as they stand in the text -/
inductive Clauses (X : Cx) : List ExceptHandler → List (Addr × Str) → Prop
  | nil : Clauses X [] []
  | cons {x ret : Str} {C : Addr} {j : Nat} {p1 p2 p3 p4 : Pos} {hs : List ExceptHandler} {cs : List (Addr × Str)} (hg : X.env.kindOf x = some .globalImplicit) (hm : X.mg x = some (.ref C)) (hd : (x == ("__debug__" : Str)) = false) (r : Clauses X hs cs) :
      Clauses X (.ExceptHandler (some (.Name x p1)) none [.Return (some (.Constant (.str ret) j p2)) p3] p4 :: hs) ((C, ret) :: cs)
def tsOf (cs : List (Addr × Str)) : List (Value × (Addr → Value → Option Addr → TS)) := cs.map fun c => (.ref c.1, fun _ _ _ => tRet (tC (.str c.2)))
theorem Clauses.ok {X : Cx} {hs : List ExceptHandler} {cs : List (Addr × Str)} (c : Clauses X hs cs) : HdsOk X hs (tsOf cs) := by
  induction c with
  | nil => exact .nil
  | cons hg hm hd r ih => exact .cons ⟨hg, hd, .inl hm⟩ (fun _ _ _ _ _ _ _ => pss_one (ps_ret pe_str)) ih
theorem toldE_many {K : PySem.W.Frag} {D : Ends} : ∀ {cs : List (Addr × Str)} {cls : Value} {d : Option Addr} {σ : L2.St} {H : Hp}, toldE K cs D.rt cls d H → wMany K (fun _ _ _ _ => False) D (tsOf cs) cls d σ H
  | [], _, _, _, _, h => h
  | (C, ret) :: r, cls, d, σ, H, ⟨b, h1, h2, h3⟩ => ⟨b, h1, fun e _ _ => h2 e, fun e => toldE_many (h3 e)⟩
theorem told_many {X : Cx} {Ng : List Str} {x a q : Str} {sg : Scope} {g : Addr} {cdg : Value} {h0 : ExceptHandler} {hs : List ExceptHandler} {cs : List (Addr × Str)} {p1 p2 p3 p8 : Pos}
    (hcl : ∀ (f : Addr) (s : Shared) (H : Hp), Clauses (cxOf C8.CX0 X.prog X.w X.K X.mg X.base Ng x sg g cdg X.A X.stack s H C8.E0).nox (h0 :: hs) cs) (hst : ∀ f : Addr, (L2.start Ng [V.ref f])[0]? = some (some (V.ref f))) :
    LamX.GivesTo X Ng x sg g cdg [.Try [.Return (some (.Call (.Name a p1) [] [] p2)) p3] (h0 :: hs) [] [] p8] a q (TTx X.K cs) := by
  intro f c' s H Q tl act hc h
  refine ⟨_, pss_one (ps_try_many (X := (cxOf C8.CX0 X.prog X.w X.K X.mg X.base Ng x sg g cdg X.A X.stack s H C8.E0).nox) (Wout := fun _ _ _ _ => False)
      (tb := fun W D σ H => ∃ Ech : XK, (∀ cls d σ' H', Ech cls d H' → W cls d σ' H') ∧ σ[0]? = some (some (.ref f)) ∧ H c' = some (LamX.CodeO c' q) ∧ tl Ech H D.rt)
      rfl rfl LamX.takes0 (fun W pn xe tk _ => ?_) (hcl f s H).ok), ?_⟩
  · refine ⟨fun pins s' σ H' D I h' => ?_⟩
    obtain ⟨Ech, hW, h1, h2, h3⟩ := h'
    exact (pss_one (ps_ret (pos := p3) (act W pn xe Ech p1 p2 tk hW))).run pins s' σ H' D I ⟨h1, h2, h3⟩
  · exact ⟨toldE X.K cs Q, fun cls d σ' H' z => toldE_many (D := ⟨fun _ H' => Q .non H', Q, fun _ _ => False, fun _ _ => False⟩) z, hst f, hc, h⟩
/-- what the top has written of such a def (told), and how a caller stands -/
structure ToldX (K : PySem.W.Frag) (mg : Str → Option Value) (x : Str) (st : Stmt) (g : Addr) : Prop where
  ex : ∃ (oc : Value) (od : Option Addr) (kV doc pm : Value) (an : Option Addr) (cdv ct : Value) (osl : Array (Option Value)),
    K.lookup g = some ⟨oc, od, .func (PySem.W.fnOf x x (defArgs st) (defBody st) (defScope st) .none kV doc pm an cdv ct), osl⟩ ∧ PySem.W.codeIn K cdv x = true
  m : mg x = some (.ref g)
  k : PySem.W.keepIn K (.ref g) = true
def tTold (T : List (Addr × Str)) (K : PySem.W.Frag) (cs : List (Addr × Str)) (t : XK → TE) : TE := fun σ H Q => LamX.Tabs T H ∧ ∀ H1, LamX.ExtN H H1 → LamX.Tabs T H1 → t (toldE K cs Q) σ H1 Q
theorem g_told {T : List (Addr × Str)} {L : List HP} {σ : L2.St} {Q : VK} {K : PySem.W.Frag} {cs : List (Addr × Str)} {t : XK → TE} (k : Go T L fun H => t (toldE K cs Q) σ H Q) : Go T L fun H => tTold T K cs t σ H Q := fun H tt s =>
  ⟨tt, fun H1 e t1 => k H1 t1 (s.mono fun a o h n => e a o h fun ps z => by rw [z] at n; cases n)⟩
theorem g_toldE {T : List (Addr × Str)} {L : List HP} {Q : VK} {K : PySem.W.Frag} {cs : List (Addr × Str)} {C : Addr} {ret : Str} {cls : Value} {d : Option Addr} {b : Bool} (h : PySem.W.exmOne K cls (.ref C) = some b) (k1 : b = true → Go T L fun H => Q (.str ret) H) (k2 : b = false → Go T L fun H => toldE K cs Q cls d H) :
    Go T L fun H => toldE K ((C, ret) :: cs) Q cls d H := fun H t s => ⟨b, h, fun e => k1 e H t s, fun e => k2 e H t s⟩
def locQ (q : Str) : Str := q ++ ".<locals>."
theorem cx_qual {CX : CXT} {P : Program} {w : World} {K : PySem.W.Frag} {mg : Str → Option Value} {base : Heap} {N : List Str} {qual : Str} {scope : Scope} {f : Addr} {cd : Value} {A : Around} {outer : List Env} {s : Shared} {H : Hp} {E : XK} : (cxOf CX P w K mg base N qual scope f cd A outer s H E).env.qual = locQ qual := rfl
theorem cx_code {CX : CXT} {P : Program} {w : World} {K : PySem.W.Frag} {mg : Str → Option Value} {base : Heap} {N : List Str} {qual : Str} {scope : Scope} {f : Addr} {cd : Value} {A : Around} {outer : List Env} {s : Shared} {H : Hp} {E : XK} : (cxOf CX P w K mg base N qual scope f cd A outer s H E).env.code = cd := rfl
def lamQ (q : Str) : Str := q ++ "<lambda>"
/-- told(lambda: body) -/
theorem pe_told {X : Cx} {T cs : List (Addr × Str)} {x a qn : Str} {g c P : Addr} {k j : Nat} {st : Stmt} {Ng : List Str} {params : Arguments} {body : Expr} {scope : Scope} {t : XK → TE} {p lpos pos : Pos}
    (tx : ToldX X.K X.mg x st g) (hb : ∀ kV doc pm an cdv ct, L2.Binds X.K (PySem.W.fnOf x x (defArgs st) (defBody st) (defScope st) .none kV doc pm an cdv ct) [a] []) (Sg : FnScope Ng [a] (defScope st)) (hNg : Ng[0]? = some a) (hva : Vis (defScope st) a)
    (hG : ∀ cdv q, LamX.GivesTo X Ng x (defScope st) g cdv (defBody st) a q (TTx X.K cs))
    (TB : LamX.TabB X.base X.mg c P) (hcode : X.env.code = .ref c) (hq : X.env.qual = qn) (hmT : (P, lamQ qn) ∈ T) (hu : ∀ p ∈ T, p.1 = P → p.2 = lamQ qn) (hr : Room j X.A) (hk : k + 2 ≤ j) (Ls : LamX.LamS X.env.scope scope) (hdef : defaultsOf params X.env = ([], []))
    (hbind : ∀ (q : Str) (cl : List (Str × Addr)) (pm cv ctv : Value), bindArgs (PySem.W.kla_fn "<lambda>" q params body scope cl pm cv ctv) ⟨[], []⟩ = pure [])
    (hg : Gl X x) (hbody : ∀ (A : Around) (outer : List Env) (s : Shared) (H : Hp) (E : XK) (f c' : Addr), Room k (A.deeper (LamX.lamEnv X scope s.heap.objs.size f c')) → PE (LamX.lamCx X A outer s H E scope f c') body (t E))
    (hdb : (x == ("__debug__" : Str)) = false := by decide) (hd : (a == ("__debug__" : Str)) = false := by decide) (hcd : (a == ("__classdict__" : Str)) = false := by decide) :
    PE X (.Call (.Name x p) [.Lambda params body scope lpos] [] pos) (tTold T X.K cs t) := by
  subst hq
  obtain ⟨oc, od, kV, doc, pm, an, cdv, ct, osl, lk, hcg⟩ := tx.ex
  exact LamX.pe_lamcall (k := k) (T := T) (TT := TTx X.K cs) hg tx.m tx.k lk hcg (hb kV doc pm an cdv ct) Sg hNg hva (hG cdv _) TB hcode hmT hu (hr.mono hk) Ls hdef hbind hbody hdb hd hcd
end Dh

/-! The layer Dh, fifth part: the rules with the written part told apart, and a def's promise. -/
namespace Dh
open PySem PySem.Spec PyProof.Rows L2
section
variable {X : Cx} {K : PySem.W.Frag}
theorem oAdd (hK : X.K = K) : OpR X (binaryOp .Add) (rAddX K) := hK ▸ op_addX
theorem oMul (hK : X.K = K) : OpR X (binaryOp .Mult) (rMulX K) := hK ▸ op_mulX
theorem oEq (hK : X.K = K) (hu : X.A.units + 64 < cLine) : OpR X (compareOp .Eq) (rEqX K) := hK ▸ op_eqX hu
theorem oNe (hK : X.K = K) (hu : X.A.units + 64 < cLine) : OpR X (compareOp .NotEq) (rNeX K) := hK ▸ op_neX hu
theorem oIn (hK : X.K = K) : OpR X (compareOp .In) (rIn K false) := hK ▸ op_in_seq
theorem oNotIn (hK : X.K = K) : OpR X (compareOp .NotIn) (rIn K true) := hK ▸ op_notIn_seq
theorem xSeq (hK : X.K = K) : IxR X (rIxX K) := hK ▸ ix_seq
theorem slSeq (hK : X.K = K) : SlR X (rSlXX K) := hK ▸ sl_seq
theorem piSeq {tg l : Expr} {tl : TE} (hK : X.K = K) (hl : PE X l tl) : PI X tg l (iSeq K tl) := hK ▸ pi_seq hl
theorem cLen (hK : X.K = K) : CallR X (.builtin "len") (rLenX K) := hK ▸ call_lenX
theorem cList (hK : X.K = K) : CallR X (.type "list") (rListX K) := hK ▸ call_listX
theorem cTup (hK : X.K = K) : CallR X (.type "tuple") (rTupX K) := hK ▸ call_tupX
theorem cSum (hK : X.K = K) (hc : X.calm = true) : CallR X (.builtin "sum") (rSum K) := hK ▸ cr_sum hc
theorem cMax (hK : X.K = K) (hc : X.calm = true) : CallR X (.builtin "max") (rMax K) := hK ▸ cr_max hc
theorem cMin (hK : X.K = K) (hc : X.calm = true) : CallR X (.builtin "min") (rMin K) := hK ▸ cr_min hc
theorem ptTru {a : Expr} {ta : TE} (hK : X.K = K) (ha : PE X a ta) (he : ∀ whole, isTrue a X.env whole = (do let v ← whole; standAt a.pos; holding [v] (truthy v)) := by intro _; rfl) : PT X a (tTruX K ta) := hK ▸ pt_truX ha he
theorem pgTup {es : List Expr} {k : Nat} {t : TGs} {n : Nat} {pos : Pos} (hK : X.K = K) (hc : X.calm = true) (h : PGs X es t) (hl : (assignEach es X.env).length = n) (hs : (assignEach es X.env).findIdx? (·.1) = none) : PG X (.Tuple es k pos) (gTup K n t) := hK ▸ pg_tup hc h hl hs
theorem ipMul : PIp X .Mult (fun x y H Q => ∃ i j, x = .int i ∧ y = .int j ∧ CMul i j ∧ Q (.int (i * j)) H) := by
  intro pins s σ H x y v u Q I r1 r2 h
  obtain ⟨i, j, e1, e2, hc, q⟩ := h
  subst e1
  subst e2
  obtain ⟨t, ht⟩ := r1
  obtain ⟨t', ht'⟩ := r2
  subst ht
  subst ht'
  exact PyProof.Rows.imul_int ⟨.int _, H, I.tok _, ⟨_, rfl⟩, q⟩ hc.ok
def ipMulX : TIp := fun x y H Q => ∃ i j, x = .int i ∧ y = .int j ∧ CMul i j ∧ Q (.int (i * j)) H
theorem ipMulR : PIp X .Mult ipMulX := ipMul
theorem g_ipMul {T : List (Addr × Str)} {L : List HP} {i j : Int} {Q : VK} (hc : CMul i j) (k : Go T L fun H => Q (.int (i * j)) H) : Go T L fun H => ipMulX (.int i) (.int j) H Q := fun H t s => ⟨i, j, rfl, rfl, hc, k H t s⟩
theorem piRev {tg e : Expr} {te : TE} {p pos : Pos} (hK : X.K = K) (hg : Gl X "reversed") (hm : X.mg "reversed" = none) (he : PE X e te) (hs : starEach [e] X.env = (false, eval e X.env) :: starEach [] X.env := by rfl) : PI X tg (.Call (.Name "reversed" p) [e] [] pos) (RT.iRevA K te) := hK ▸ RT.pi_revA hg hm he hs
theorem cIsi (hK : X.K = K) : CallR X (.builtin "isinstance") (rIsi K) := hK ▸ call_isi
theorem blt_abs : bootBuiltins "abs" = some (.builtin "abs") := by decide +kernel
theorem blt_any : bootBuiltins "any" = some (.builtin "any") := by decide +kernel
theorem blt_all : bootBuiltins "all" = some (.builtin "all") := by decide +kernel
end
/-- a list that is to be read alone (the script) -/
def sq (K : PySem.W.Frag) (a : Addr) (xs : List V) : HP := fun h => SqL K h a xs
theorem sq_sub {K : PySem.W.Frag} {h H : Hp} {a : Addr} {xs : List V} (s : ∀ b o, h b = some o → isTbl o = false → H b = some o) (e : SqL K h a xs) : SqL K H a xs := by
  rcases e with (e | ⟨o, e⟩) | e
  · exact .inl (.inl (s _ _ e rfl))
  · exact .inl (.inr ⟨o, s _ _ e rfl⟩)
  · exact .inr e
theorem g_slQ {T : List (Addr × Str)} {L A : List HP} {K : PySem.W.Frag} {a : Addr} {xs : List V} {lo hi : Option Int} {Q : VK} (pk : Pick L (sq K a xs) A) (k : ∀ p, Go T (pt p (.lst (cutV xs lo hi)) :: L) fun H => Q (.ref p) H) : Go T L fun H => rSlXX K (.ref a) lo hi H Q := fun H t s => by
  obtain ⟨h1, s1, e⟩ := (pk H s).head
  exact .inl ⟨a, xs, rfl, sq_sub (fun b o q _ => s1 b o q) e, (go_new (P := fun p => pt p (.lst (cutV xs lo hi))) rfl (fun _ _ e => e) k) H t s⟩
theorem seps_sq {K : PySem.W.Frag} {H : Hp} {a : Addr} {xs : List V} (e : SqL K H a xs) : Seps [sq K a xs] H :=
  ⟨ntH H, fun _ => none, fun _ _ _ _ q => (nomatch q), NT.ntH H, fun _ _ q => (nomatch q), Sub.ntH H, fun _ _ q => (nomatch q), sq_sub (fun b o q n => ntH_some.mpr ⟨q, n⟩) e, trivial⟩
theorem tabs_nil {T : List (Addr × Str)} {H : Hp} (h : ∀ p ∈ T, H p.1 = some (.tbl #[])) : LamX.Tabs T H := fun p hp => LamX.TabS.nil (h p hp)
theorem cx_no {P : Program} {w : World} {H : Hp} {s : Shared} {e : Value} {s' : Shared} (h : L2.CX P w [] H s (fun _ _ _ => False) e s') : False := by
  obtain ⟨_, _, _, _, _, _, _, _, _, _, _, _, z⟩ := h
  exact z
theorem exm_mk {K : PySem.W.Frag} {A B : Addr} {b : Bool} (h1 : PySem.W.subIn K (.ref B) (.type "BaseException") = some true) (h2 : PySem.W.isClsIn K B = true) (h3 : PySem.W.typeIn K (.ref B) = some (.type "type")) (h4 : PySem.W.subIn K (.ref A) (.ref B) = some b) : PySem.W.exmOne K (.ref A) (.ref B) = some b := by
  unfold PySem.W.exmOne
  rw [h1, if_pos (by rfl)]
  show (if ((PySem.W.clsIn K B).isSome && PySem.W.typeIn K (.ref B) == some (.type "type")) = true then PySem.W.subIn K (.ref A) (.ref B) else none) = some b
  have e : (PySem.W.clsIn K B).isSome = true := h2
  rw [h3, h4, e]
  rfl
/-! ### a def's promise, its arguments counted -/
def sOfN (T : List (Addr × Str)) (n : Nat) (sg : SG) : Sp := fun vs H Q E => vs.length = n ∧ ∃ L, LamX.Tabs T H ∧ Seps L H ∧ sg vs L Q E
theorem g_sp {T : List (Addr × Str)} {L : List HP} {sg : SG} {vs : List V} {Q : VK} {E : XK} {n : Nat} (hl : vs.length = n) (h : sg vs L Q E) : Go T L fun H => sOfN T n sg vs H Q E := fun H t s => ⟨hl, L, t, s, h⟩
/-- a def whose code object stands at c -/
structure FunC (K : PySem.W.Frag) (x qual : Str) (st : Stmt) (f : Addr) (fd : FuncData) (cdv : Value) : Prop where
  ex : ∃ (oc : Value) (od : Option Addr) (kV doc pm : Value) (an : Option Addr) (ct : Value) (osl : Array (Option Value)),
    fd = PySem.W.fnOf x qual (defArgs st) (defBody st) (defScope st) .none kV doc pm an cdv ct ∧ K.lookup f = some ⟨oc, od, .func fd, osl⟩ ∧ PySem.W.codeIn K cdv qual = true
section
variable {P : Program} {w : World} {K : PySem.W.Frag} {mg : Str → Option Value} {base : Heap} {T : List (Addr × Str)}
theorem fnX {x qual : Str} {st : Stmt} {f : Addr} {fd : FuncData} {cdv : Value} {N ps : List Str} {k n : Nat} {sg : SG} (F : FunC K x qual st f fd cdv) (S : FnScope N ps (defScope st)) (hn : ps.length = n)
    (hbody : ∀ (A : Around) (outer : List Env) (s : Shared) (H0 : Hp) (L : List HP) (vs : List V) (Q : VK) (E : XK), Room k (A.deeper (envOfC qual (defScope st) s.heap.objs.size f cdv)) → vs.length = n → sg vs L Q E →
      ∃ t, PSs (cxOf (L2.CX P w) P w K mg base N qual (defScope st) f cdv A outer s H0 E) (defBody st) t ∧ Go T L fun H => t { nx := fun _ H' => Q .non H', rt := Q } (start N vs) H) :
    FnOk P w K mg base (L2.CX P w) (k + 1) f fd ps (sOfN T n sg) := by
  obtain ⟨oc, od, kV, doc, pm, an, ct, osl, e, lk, hcd⟩ := F.ex
  subst e
  refine fn_of lk hcd S (fun vs H Q E h => h.1.trans hn.symm) fun A outer s H vs Q E hr hsp => ?_
  obtain ⟨hl, L, ht, hs, hg⟩ := hsp
  obtain ⟨t, h, q⟩ := hbody A outer s H L vs Q E hr hl hg
  exact ⟨t, h, q H ht hs⟩
theorem FunC.bnd {x qual : Str} {st : Stmt} {f : Addr} {fd : FuncData} {cdv : Value} {ps : List Str} (F : FunC K x qual st f fd cdv)
    (h : ∀ (kV doc pm : Value) (an : Option Addr) (cdv ct : Value) (us : List Value), us.length = ps.length → bindArgs (PySem.W.fnOf x qual (defArgs st) (defBody st) (defScope st) .none kV doc pm an cdv ct) ⟨us, []⟩ = pure (ps.zip us)) : Binds K fd ps [] := by
  obtain ⟨oc, od, kV, doc, pm, an, ct, osl, e, lk, hcd⟩ := F.ex
  subst e
  exact .all (h kV doc pm an cdv ct)
end
end Dh

/-! The layer Dh, sixth part: dicts, lists of tuples, == of data, ranges made lists. -/
namespace Dh
open PySem PySem.Spec PyProof.Rows L2
section
variable {T : List (Addr × Str)} {L : List HP} {σ : L2.St} {Q : VK} {K : PySem.W.Frag} {v x y z : V} {i j : Int} {n m : Nat} {ta tb tc te td ty tv : TE} {N0 : L2.St → Hp → Prop} {R0 : VK} {B0 C0 : L2.St → Hp → Prop} {a b p : Addr} {xs ys vs ws : List V} {ns ms : List Int} {kvs : List (Key × V)} {A B D : List HP}
theorem g_nonA {P : Hp → Prop} (k : Go T L P) : Go T L fun H => V.non = V.non ∧ P H := fun H t s => ⟨rfl, k H t s⟩
/-! ### dicts -/
def lDIn (Q : VK) (y x : V) (H2 : Hp) : Prop := ∃ a o, x = .ref a ∧ DGet H2 a y o ∧ Q (.bl o.isSome) H2
theorem g_dinE (k : Go T L fun H => ty σ H fun y H1 => td σ H1 (lDIn Q y)) : Go T L fun H => tDIn ty td σ H Q := k
theorem g_dinI (pk : Pick L (pt a (.dK kvs)) A) (k : Go T L fun H => Q (.bl (valV kvs (Sum.inl i)).isSome) H) : Go T L fun H => lDIn Q (.int i) (.ref a) H := fun H t s => ⟨a, _, rfl, DGet.k (k := Sum.inl i) (pk.at s), k H t s⟩
def lDNotIn (Q : VK) (y x : V) (H2 : Hp) : Prop := ∃ a o, x = .ref a ∧ DGet H2 a y o ∧ Q (.bl (!o.isSome)) H2
theorem g_dnotinE (k : Go T L fun H => ty σ H fun y H1 => td σ H1 (lDNotIn Q y)) : Go T L fun H => tDNotIn ty td σ H Q := k
theorem g_dnotinI (pk : Pick L (pt a (.dK kvs)) A) (k : Go T L fun H => Q (.bl (!(valV kvs (Sum.inl i)).isSome)) H) : Go T L fun H => lDNotIn Q (.int i) (.ref a) H := fun H t s => ⟨a, _, rfl, DGet.k (k := Sum.inl i) (pk.at s), k H t s⟩
theorem g_cmpE {tt : TE} {R : Bool → Hp → Prop} (k : Go T L fun H => tt σ H fun z H' => ∃ k, z = .bl k ∧ R k H') : Go T L fun H => tTest tt σ H R := k
def lDGet (Q : VK) (x y : V) (H2 : Hp) : Prop := ∃ a v, x = .ref a ∧ DGet H2 a y (some v) ∧ Q v H2
theorem g_dgetE (k : Go T L fun H => td σ H fun x H1 => ty σ H1 (lDGet Q x)) : Go T L fun H => tDGet td ty σ H Q := k
theorem g_dgetI (pk : Pick L (pt a (.dK kvs)) A) (h : valV kvs (Sum.inl i) = some v) (k : Go T L fun H => Q v H) : Go T L fun H => lDGet Q (.ref a) (.int i) H := fun H t s => ⟨a, v, rfl, h ▸ DGet.k (k := Sum.inl i) (pk.at s), k H t s⟩
def lDPut (N : Hp → Prop) (v x y : V) (H3 : Hp) : Prop := ∃ a H4, x = .ref a ∧ DPut H3 a y v H4 ∧ N H4
theorem g_dputE (k : Go T L fun H => tv σ H fun v H1 => td σ H1 fun x H2 => ty σ H2 (lDPut (N0 σ) v x)) : Go T L fun H => sDPut td ty tv ⟨N0, R0, B0, C0⟩ σ H := k
theorem g_dputI {N : Hp → Prop} (pk : Pick L (pt a (.dK kvs)) A) (hl : kvs.length < sizeLine) (k : Go T (pt a (.dK (putK kvs (Sum.inl i) v)) :: A) N) : Go T L fun H => lDPut N v (.ref a) (.int i) H := fun H t s =>
  ⟨a, _, rfl, DPut.k (k := Sum.inl i) (pk.at s) hl, (go_wr (P' := pt a (.dK (putK kvs (Sum.inl i) v))) pk rfl (fun h e => ⟨_, e, rfl, upd_same⟩) k) H t s⟩
def lDPopA (ty : TE) (σ : L2.St) (Q : VK) (x : V) (H1 : Hp) : Prop := ∃ a, x = .ref a ∧ IsD H1 a ∧ ty σ H1 fun y H2 => ∃ kvs k v, H2 a = some (.dK kvs) ∧ y = kV k ∧ valV kvs k = some v ∧ Q v (upd H2 a (.dK (dropK kvs k)))
def lDPopB (a : Addr) (Q : VK) (y : V) (H2 : Hp) : Prop := ∃ kvs k v, H2 a = some (.dK kvs) ∧ y = kV k ∧ valV kvs k = some v ∧ Q v (upd H2 a (.dK (dropK kvs k)))
theorem g_dpopE (k : Go T L fun H => td σ H (lDPopA ty σ Q)) : Go T L fun H => tDPop1 td ty σ H Q := k
theorem g_dpopA (pk : Pick L (pt a (.dK kvs)) A) (k : Go T L fun H => ty σ H (lDPopB a Q)) : Go T L fun H => lDPopA ty σ Q (.ref a) H := fun H t s => ⟨a, rfl, .inl ⟨_, .inl (pk.at s)⟩, k H t s⟩
theorem g_dpopB (pk : Pick L (pt a (.dK kvs)) A) (h : valV kvs (Sum.inl i) = some v) (k : Go T (pt a (.dK (dropK kvs (Sum.inl i))) :: A) fun H => Q v H) : Go T L fun H => lDPopB a Q (.int i) H := fun H t s =>
  ⟨kvs, Sum.inl i, v, pk.at s, rfl, h, (go_wr (P' := pt a (.dK (dropK kvs (Sum.inl i)))) pk rfl (fun h e => ⟨_, e, rfl, upd_same⟩) k) H t s⟩
theorem g_dnew (k : ∀ p, Go T (pt p (.dK []) :: L) fun H => Q (.ref p) H) : Go T L fun H => tDNewK σ H Q := go_new (P := fun p => pt p (.dK [])) rfl (fun _ _ e => e) k

/-! ### lists of tuples of ints -/
/-- the values vs are tuples of the ints ts -/
inductive F2 (H : Hp) : List V → List (List Int) → Prop
  | nil : F2 H [] []
  | cons {t : Addr} {vs : List V} {ms : List Int} {ts : List (List Int)} : H t = some (.tup (ms.map .int)) → F2 H vs ts → F2 H (.ref t :: vs) (ms :: ts)
def tps (vs : List V) (ts : List (List Int)) : HP := fun h => F2 h vs ts
section
variable {H : Hp} {ts us : List (List Int)}
theorem F2.len : ∀ {vs : List V} {ts : List (List Int)}, F2 H vs ts → vs.length = ts.length
  | _, _, .nil => rfl
  | _, _, .cons _ r => by rw [List.length_cons, List.length_cons, r.len]
theorem F2.app : ∀ {vs ws : List V} {ts us : List (List Int)}, F2 H vs ts → F2 H ws us → F2 H (vs ++ ws) (ts ++ us)
  | _, _, _, _, .nil, r => r
  | _, _, _, _, .cons e q, r => .cons e (q.app r)
theorem F2.take : ∀ {vs : List V} {ts : List (List Int)} (k : Nat), F2 H vs ts → F2 H (vs.take k) (ts.take k)
  | _, _, 0, _ => by rw [List.take_zero, List.take_zero]; exact .nil
  | _, _, _ + 1, .nil => .nil
  | _, _, k + 1, .cons e r => .cons e (r.take k)
theorem F2.drop : ∀ {vs : List V} {ts : List (List Int)} (k : Nat), F2 H vs ts → F2 H (vs.drop k) (ts.drop k)
  | _, _, 0, r => r
  | _, _, _ + 1, .nil => .nil
  | _, _, k + 1, .cons e r => r.drop k
theorem F2.at : ∀ {vs : List V} {ts : List (List Int)} {k : Nat} {ms : List Int}, F2 H vs ts → ts[k]? = some ms → ∃ t, vs[k]? = some (.ref t) ∧ H t = some (.tup (ms.map .int))
  | _, _, _, _, .nil, h => by simp at h
  | _, _, 0, _, .cons e r, h => by
    simp at h
    subst h
    exact ⟨_, rfl, e⟩
  | _, _, k + 1, _, .cons e r, h => by
    obtain ⟨t, h1, h2⟩ := r.at (k := k) (by simpa using h)
    exact ⟨t, by simpa using h1, h2⟩
theorem F2.mono {H' : Hp} (s : ∀ a xs, H a = some (.tup xs) → H' a = some (.tup xs)) : ∀ {vs : List V} {ts : List (List Int)}, F2 H vs ts → F2 H' vs ts
  | _, _, .nil => .nil
  | _, _, .cons e r => .cons (s _ _ e) (r.mono s)
theorem Pick.f2 (pk : Pick L (tps vs ts) A) (s : Seps L H) : F2 H vs ts := by
  obtain ⟨h1, s1, e⟩ := (pk H s).head
  exact e.mono fun a xs q => s1 _ _ q
/-- tuples may be told again -/
theorem ent_tps {R : List HP} (h : ∀ H, Seps L H → F2 H vs ts) (e : Ent L R) : Ent L (tps vs ts :: R) := fun H s => by
  have f := h H s
  refine Seps.impT (fun h q => e h q) (s.more (fun a => match H a with
    | some (.tup xs) => some (.tup xs)
    | _ => none) (fun a o q => ?_) (fun a o q => ?_) (f.mono fun a xs q => by rw [q]))
  · revert q
    dsimp only
    split
    · rename_i ys q1
      intro q2
      rw [q1]
      exact q2
    · intro q; cases q
  · revert q
    split
    · intro q; cases q; rfl
    · intro q; cases q
/-- one of them -/
theorem go_tpsAt {ms : List Int} {k : Nat} {G : Hp → Prop} (pk : Pick L (tps vs ts) A) (hk : ts[k]? = some ms) (hx : ms.map V.int = xs) (g : ∀ t, vs[k]? = some (.ref t) → Go T (pt t (.tup xs) :: L) G) : Go T L G := fun H tt s => by
  subst hx
  obtain ⟨t, h1, h2⟩ := (pk.f2 s).at hk
  refine g t h1 H tt (s.more (upd (fun _ => none) t (.tup (ms.map .int))) (fun a o q => ?_) (fun a o q => ?_) upd_same)
  · by_cases e : a = t
    · subst e; rw [upd_same] at q; cases q; exact h2
    · rw [upd_ne e] at q; cases q
  · by_cases e : a = t
    · subst e; rw [upd_same] at q; cases q; rfl
    · rw [upd_ne e] at q; cases q
theorem go_tpsLen {G : Hp → Prop} (pk : Pick L (tps vs ts) A) (g : vs.length = ts.length → Go T L G) : Go T L G := fun H tt s => g (pk.f2 s).len H tt s
theorem f2_one {t : Addr} (hx : ms.map V.int = xs) (pk : Pick L (pt t (.tup xs)) A) (s : Seps L H) : F2 H [.ref t] [ms] := .cons (by rw [hx]; exact pk.at s) .nil
end

/-! ### == of data -/
def dIs (ns : List Int) : List PyData := ns.map .int
theorem dps_ints {H : Hp} : ∀ ns : List Int, DpAll K H (ns.map .int) (dIs ns)
  | [] => .nil
  | n :: ns => .cons (.int n) (dps_ints ns)
theorem lay_ints : ∀ ns : List Int, PyData.canLayAll0 (dIs ns) = true
  | [] => by simp [dIs, PyData.canLayAll0]
  | n :: ns => by
    have := lay_ints ns
    simp only [dIs] at this
    simp [dIs, PyData.canLayAll0, PyData.canLay0, this]
theorem dep_ints : ∀ ns : List Int, PyData.depthAll (dIs ns) = 0
  | [] => by simp [dIs, PyData.depthAll]
  | n :: ns => by
    have := dep_ints ns
    simp only [dIs] at this
    simp [dIs, PyData.depthAll, PyData.depth, this]
theorem shp_ints (ns : List Int) : SeqAt.shaped (.list (dIs ns)) = true := by
  have h1 := dep_ints ns
  show (PyData.canLay0 (.list (dIs ns)) && decide (PyData.depth (.list (dIs ns)) ≤ 64)) = true
  rw [Bool.and_eq_true]
  exact ⟨by simp only [PyData.canLay0]; exact lay_ints ns, decide_eq_true (by simp only [PyData.depth]; omega)⟩
theorem shp_intsT (ns : List Int) : SeqAt.shaped (.tuple (dIs ns)) = true := by
  have h1 := dep_ints ns
  show (PyData.canLay0 (.tuple (dIs ns)) && decide (PyData.depth (.tuple (dIs ns)) ≤ 64)) = true
  rw [Bool.and_eq_true]
  exact ⟨by simp only [PyData.canLay0]; exact lay_ints ns, decide_eq_true (by simp only [PyData.depth]; omega)⟩
theorem eqv_ints : ∀ ns ms : List Int, PyData.eqvAll (dIs ns) (dIs ms) = decide (ns = ms)
  | [], [] => by simp [dIs, PyData.eqvAll]
  | [], m :: ms => by simp [dIs, PyData.eqvAll]
  | n :: ns, [] => by simp [dIs, PyData.eqvAll]
  | n :: ns, m :: ms => by
    have h := eqv_ints ns ms
    simp only [dIs] at h
    simp only [dIs, List.map_cons, PyData.eqvAll, PyData.eqv, h]
    rw [Bool.eq_iff_iff]
    simp
def dTs (ts : List (List Int)) : List PyData := ts.map fun ms => .tuple (dIs ms)
theorem dps_tups {H : Hp} : ∀ {vs : List V} {ts : List (List Int)}, F2 H vs ts → DpAll K H vs (dTs ts)
  | _, _, .nil => .nil
  | _, _, .cons e r => .cons (.tup (SqT.of e) (dps_ints _)) (dps_tups r)
theorem lay_tups : ∀ ts : List (List Int), PyData.canLayAll0 (dTs ts) = true
  | [] => by simp [dTs, PyData.canLayAll0]
  | t :: ts => by
    have := lay_tups ts
    have h2 := lay_ints t
    simp only [dTs] at this
    simp [dTs, PyData.canLayAll0, PyData.canLay0, this, h2]
theorem dep_tups : ∀ ts : List (List Int), PyData.depthAll (dTs ts) ≤ 1
  | [] => by simp [dTs, PyData.depthAll]
  | t :: ts => by
    have h1 := dep_tups ts
    have h2 := dep_ints t
    simp only [dTs] at h1
    simp only [dTs, List.map_cons, PyData.depthAll, PyData.depth]
    omega
theorem shp_tups (ts : List (List Int)) : SeqAt.shaped (.list (dTs ts)) = true := by
  have h1 := dep_tups ts
  show (PyData.canLay0 (.list (dTs ts)) && decide (PyData.depth (.list (dTs ts)) ≤ 64)) = true
  rw [Bool.and_eq_true]
  exact ⟨by simp only [PyData.canLay0]; exact lay_tups ts, decide_eq_true (by simp only [PyData.depth]; omega)⟩
theorem eqv_tups0 : ∀ ts : List (List Int), PyData.eqvAll (dTs ts) [] = decide (ts = [])
  | [] => by simp [dTs, PyData.eqvAll]
  | t :: ts => by simp [dTs, PyData.eqvAll]
theorem dp_lst {H : Hp} (pk : Pick L (pt a (.lst (ns.map .int))) A) (s : Seps L H) : Dp K H (.ref a) (.list (dIs ns)) := .lst (SqL.of (pk.at s)) (dps_ints ns)
theorem dp_nil {H : Hp} (pk : Pick L (pt a (.lst [])) A) (s : Seps L H) : Dp K H (.ref a) (.list (dIs [])) := .lst (SqL.of (pk.at s)) .nil
theorem dp_tups {H : Hp} {ts : List (List Int)} (pk : Pick L (pt a (.lst vs)) A) (p2 : Pick L (tps vs ts) B) (s : Seps L H) : Dp K H (.ref a) (.list (dTs ts)) := .lst (SqL.of (pk.at s)) (dps_tups (p2.f2 s))
theorem g_eqLL (p1 : Pick L (pt a (.lst (ns.map .int))) A) (p2 : Pick L (pt b (.lst (ms.map .int))) B) (k : Go T L fun H => Q (.bl (decide (ns = ms))) H) : Go T L fun H => rEqX K (.ref a) (.ref b) H Q :=
  g_eqD (fun H s => dp_lst p1 s) (fun H s => dp_lst p2 s) (shp_ints _) (shp_ints _) (by simp only [PyData.eqv, eqv_ints]; exact k)
theorem g_neLL (p1 : Pick L (pt a (.lst (ns.map .int))) A) (p2 : Pick L (pt b (.lst (ms.map .int))) B) (k : Go T L fun H => Q (.bl (!decide (ns = ms))) H) : Go T L fun H => rNeX K (.ref a) (.ref b) H Q :=
  g_neD (fun H s => dp_lst p1 s) (fun H s => dp_lst p2 s) (shp_ints _) (shp_ints _) (by simp only [PyData.eqv, eqv_ints]; exact k)
theorem g_eqL0 (p1 : Pick L (pt a (.lst (ns.map .int))) A) (p2 : Pick L (pt b (.lst [])) B) (k : Go T L fun H => Q (.bl (decide (ns = []))) H) : Go T L fun H => rEqX K (.ref a) (.ref b) H Q :=
  g_eqD (fun H s => dp_lst p1 s) (fun H s => dp_nil p2 s) (shp_ints _) (shp_ints _) (by simp only [PyData.eqv, eqv_ints]; exact k)
theorem g_neL0 (p1 : Pick L (pt a (.lst (ns.map .int))) A) (p2 : Pick L (pt b (.lst [])) B) (k : Go T L fun H => Q (.bl (!decide (ns = []))) H) : Go T L fun H => rNeX K (.ref a) (.ref b) H Q :=
  g_neD (fun H s => dp_lst p1 s) (fun H s => dp_nil p2 s) (shp_ints _) (shp_ints _) (by simp only [PyData.eqv, eqv_ints]; exact k)
theorem g_neT0 {ts : List (List Int)} (p1 : Pick L (pt a (.lst vs)) A) (p3 : Pick L (tps vs ts) D) (p2 : Pick L (pt b (.lst [])) B) (k : Go T L fun H => Q (.bl (!decide (ts = []))) H) : Go T L fun H => rNeX K (.ref a) (.ref b) H Q :=
  g_neD (fun H s => dp_tups p1 p3 s) (fun H s => dp_nil p2 s) (shp_tups _) (shp_ints _) (by
    have e : PyData.eqv (.list (dTs ts)) (.list (dIs [])) = decide (ts = []) := by simp only [PyData.eqv]; exact eqv_tups0 ts
    rw [e]; exact k)
theorem g_neP {i j k l : Int} (p1 : Pick L (pt a (.tup [.int i, .int j])) A) (p2 : Pick L (pt b (.tup [.int k, .int l])) B) (g : Go T L fun H => Q (.bl (!decide ([i, j] = [k, l]))) H) : Go T L fun H => rNeX K (.ref a) (.ref b) H Q :=
  g_neD (d := .tuple (dIs [i, j])) (e := .tuple (dIs [k, l])) (fun H s => .tup (SqT.of (p1.at s)) (dps_ints [i, j])) (fun H s => .tup (SqT.of (p2.at s)) (dps_ints [k, l])) (shp_intsT _) (shp_intsT _) (by simp only [PyData.eqv, eqv_ints]; exact g)
theorem inV_ints (i : Int) (ns : List Int) : inV (.int i) (ns.map .int) = decide (i ∈ ns) := by
  unfold inV
  induction ns with
  | nil => simp
  | cons n ns ih =>
    rw [List.map_cons, List.any_cons, ih]
    show ((n == i) || decide (i ∈ ns)) = decide (i ∈ n :: ns)
    by_cases h : i = n
    · subst h; simp
    · have h' : ¬ n = i := fun e => h e.symm
      simp [h, h']
theorem g_inI (pk : Pick L (pt b (.lst (ns.map .int))) A) (k : Go T L fun H => Q (.bl (decide (i ∈ ns))) H) : Go T L fun H => rIn K false (.int i) (.ref b) H Q := fun H t s =>
  ⟨b, _, rfl, .inl (SqL.of (pk.at s)), rfl, by rw [List.all_map, List.all_eq_true]; exact fun _ _ => rfl, by rw [if_neg (by decide), inV_ints]; exact k H t s⟩

/-! ### slices, sums of mapped lists -/
section
variable {α : Type} {f : α → V} {us ws : List α}
theorem g_slTk (pk : Pick L (pt a (.lst (us.map f))) A) (k : ∀ p, Go T (pt p (.lst ((us.take m).map f)) :: L) fun H => Q (.ref p) H) : Go T L fun H => rSlXX K (.ref a) none (some (m : Int)) H Q :=
  g_slL pk fun p => by rw [cut_take, ← List.map_take]; exact k p
theorem g_slQTk (pk : Pick L (sq K a (us.map f)) A) (k : ∀ p, Go T (pt p (.lst ((us.take m).map f)) :: L) fun H => Q (.ref p) H) : Go T L fun H => rSlXX K (.ref a) none (some (m : Int)) H Q :=
  g_slQ pk fun p => by rw [cut_take, ← List.map_take]; exact k p
theorem g_slDr (pk : Pick L (pt a (.lst (us.map f))) A) (k : ∀ p, Go T (pt p (.lst ((us.drop m).map f)) :: L) fun H => Q (.ref p) H) : Go T L fun H => rSlXX K (.ref a) (some (m : Int)) none H Q :=
  g_slL pk fun p => by rw [cut_drop, ← List.map_drop]; exact k p
theorem g_addM {l q : Addr} (p1 : Pick L (pt l (.lst (us.map f))) A) (p2 : Pick L (pt q (.lst (ws.map f))) B) (hl : us.length + ws.length ≤ sizeLine) (k : ∀ p, Go T (pt p (.lst ((us ++ ws).map f)) :: L) fun H => Q (.ref p) H) : Go T L fun H => rAddX K (.ref l) (.ref q) H Q :=
  g_addL p1 p2 (by rw [List.length_map, List.length_map]; exact hl) fun p => by rw [← List.map_append]; exact k p
end
theorem g_pop0 {α : Type} {f : α → V} {u : α} {us : List α} (pk : Pick L (pt a (.lst ((u :: us).map f))) A) (k : Go T (pt a (.lst (us.map f)) :: A) fun H => Q (f u) H) : Go T L fun H => rPopAt (.ref a) [.int 0] H Q :=
  g_popAt (m := 0) pk (by decide) (by decide) (by simp [seqIndex?]) rfl k
/-! ### chunks of one kind -/
theorem seps_snoc {c : HP} {R : List HP} : Ent (c :: Seps A :: R) (Seps (A ++ [c]) :: R) := fun H s => by
  have h := Seps.paste s.swap
  have e : A ++ c :: R = (A ++ [c]) ++ R := by simp
  rw [e] at h
  exact Seps.cut h
theorem seps_head {c : HP} {R : List HP} : Ent (Seps (c :: A) :: R) (c :: Seps A :: R) := fun H s => by
  have h : Seps ((c :: A) ++ R) H := Seps.paste s
  exact Seps.impT (fun _ z => Seps.cut z) h
theorem ent_seps0 {R : List HP} : Ent R (Seps [] :: R) := fun H s => Seps.cut (L1 := []) s
/-! ### ranges made lists, three at once -/
def lRgL (Q : VK) (a b : Int) (H : Hp) : Prop := RgOk a b ∧ ∀ q, H q = none → Q (.ref q) (upd H q (.lst (rgV a b)))
theorem g_listRg {te : L2.St → Hp → (Int → Int → Hp → Prop) → Prop} (k : Go T L fun H => te σ H (lRgL Q)) : Go T L fun H => tLstRg te σ H Q := k
def lRg1 (R : Int → Int → Hp → Prop) (x : V) (H : Hp) : Prop := ∃ n, x = .int n ∧ R 0 n H
theorem g_rg1E {R : Int → Int → Hp → Prop} (k : Go T L fun H => ta σ H (lRg1 R)) : Go T L fun H => tRg1 ta σ H R := k
theorem g_rg1 {R : Int → Int → Hp → Prop} (k : Go T L fun H => R 0 i H) : Go T L fun H => lRg1 R (.int i) H := fun H t s => ⟨i, rfl, k H t s⟩
def natI (n : Nat) : List Int := (List.range n).map Int.ofNat
theorem rgV_nat {n : Nat} : rgV 0 (n : Int) = (natI n).map V.int := by
  unfold rgV natI
  simp
theorem g_rgN (h : n ≤ 16777216) (k : ∀ p, Go T (pt p (.lst ((natI n).map V.int)) :: L) fun H => Q (.ref p) H) : Go T L fun H => lRgL Q 0 (n : Int) H := fun H t s =>
  ⟨RgOk.of_le (by omega) (by omega) (by omega) (by omega), by rw [rgV_nat]; exact (go_new (P := fun p => pt p (.lst ((natI n).map V.int))) rfl (fun _ _ e => e) k) H t s⟩
theorem g_rgL (h : RgOk i j) (k : ∀ p, Go T (pt p (.lst (rgV i j)) :: L) fun H => Q (.ref p) H) : Go T L fun H => lRgL Q i j H := fun H t s => ⟨h, (go_new (P := fun p => pt p (.lst (rgV i j))) rfl (fun _ _ e => e) k) H t s⟩
theorem g_par3 {m q l : Nat} {tr : TA} (k : Go T L fun H => tr σ H fun vs H1 => ∃ u v w, vs = [u, v, w] ∧ N0 (((σ.set m (some u)).set q (some v)).set l (some w)) H1) : Go T L fun H => tPar3 m q l tr ⟨N0, R0, B0, C0⟩ σ H := k
theorem g_par3b {F : V → V → V → Hp → Prop} (k : Go T L fun H => F x y z H) : Go T L fun H => ∃ u v w, [x, y, z] = [u, v, w] ∧ F u v w H := fun H t s => ⟨x, y, z, rfl, k H t s⟩
end
end Dh

/-! The layer Dh, part G: shorter ways through comprehensions and tests. -/
namespace Dh
open PySem PySem.Spec PyProof.Rows L2
section
variable {T : List (Addr × Str)} {L L0 A : List HP} {σ : L2.St} {Q : VK} {K : PySem.W.Frag} {n : Nat} {te : TE} {tt : TT} {g : TG} {vs : List Nat} {a : Addr} {xs : List V} {x y : V} {b : Bool}
/-- the branch that stays is shown first and may be leant on in the other -/
theorem g_ifDE {c : Prop} [Decidable c] {A B : Hp → Prop} (h2 : Go T L B) (h1 : c → Go T L B → Go T L A) : Go T L fun H => if decide c = true then A H else B H := g_ifD (fun h => h1 h h2) (fun _ => h2)
/-- a comprehension over a range whose turns leave the chunks as they are -/
def IF (f : Nat → V) (L0 : List HP) : CI := fun j acc L => acc = (List.range j).map f ∧ Ent L L0
theorem g_lcRf {lo : Int} (f : Nat → V) (h0 : Ent L L0) (hs : ∀ D i, i < n → Go T (pt D (.lst ((List.range i).map f)) :: L0) (LcTurn T D (IF f L0) i g tt te vs σ (.int (lo + i))))
    (hd : ∀ D, Go T (pt D (.lst ((List.range n).map f)) :: L0) fun H => Q (.ref D) H) : Go T L fun H => LcG (Itr lo n) g tt te vs σ Q H :=
  g_lcR (IF f L0) ⟨rfl, h0⟩ (fun D i acc L hi h => by obtain ⟨rfl, e⟩ := h; exact (hs D i hi).ent (ent_tail e)) (fun D acc L h => by obtain ⟨rfl, e⟩ := h; exact (hd D).ent (ent_tail e))
theorem g_lcPut {f : Nat → V} {D : Addr} {i : Nat} (pk : Pick L (pt D (.lst ((List.range i).map f))) A) (hl : i < sizeLine) (hy : y = f i) (e : Ent A L0) : Go T L fun H => LcAdd T D (IF f L0) (i + 1) y H :=
  g_lcAdd pk (by rw [List.length_map, List.length_range]; exact hl) ⟨by rw [hy, List.range_succ, List.map_append]; rfl, e⟩
/-- .. over a list of mapped things -/
def IM {α : Type} (us : List α) (f : α → V) (L0 : List HP) : CI := fun j acc L => acc = (us.take j).map f ∧ Ent L L0
theorem g_lcMf {α : Type} {us : List α} {gx : α → V} (f : α → V) (h0 : Ent L L0) (pk : Pick L0 (pt a (.lst (us.map gx))) A) (hs : ∀ D i u, us[i]? = some u → Go T (pt D (.lst ((us.take i).map f)) :: L0) (LcTurn T D (IM us f L0) i g tt te vs σ (gx u)))
    (hd : ∀ D, Go T (pt D (.lst (us.map f)) :: L0) fun H => Q (.ref D) H) : Go T L fun H => LcG (Itl K a) g tt te vs σ Q H :=
  g_lcL (IM us f L0) ⟨rfl, h0⟩ (fun i acc L h => h.2.has pk) (fun D i x acc L hx h => by
    obtain ⟨rfl, e⟩ := h
    rw [List.getElem?_map] at hx
    obtain ⟨u, hu, rfl⟩ := Option.map_eq_some_iff.mp hx
    exact (hs D i u hu).ent (ent_tail e)) (fun D acc L h => by
    obtain ⟨rfl, e⟩ := h
    rw [List.length_map, List.take_length]
    exact (hd D).ent (ent_tail e))
theorem g_lcPutM {α : Type} {us : List α} {u : α} {f : α → V} {D : Addr} {i : Nat} (hu : us[i]? = some u) (pk : Pick L (pt D (.lst ((us.take i).map f))) A) (hl : us.length < sizeLine) (hy : y = f u) (e : Ent A L0) : Go T L fun H => LcAdd T D (IM us f L0) (i + 1) y H :=
  g_lcAdd pk (by rw [List.length_map, List.length_take]; omega) ⟨by rw [hy, List.take_add_one, hu, List.map_append]; rfl, e⟩
/-! ### lists of mapped things -/
theorem atI_map {α : Type} {f : α → V} {us : List α} {k : Nat} {u : α} (h : us[k]? = some u) : atI (us.map f) (k : Int) = some (f u) := atI_lt (by rw [List.getElem?_map, h]; rfl)
theorem g_setM {α : Type} {f : α → V} {us : List α} {i : Int} {m : Nat} {u : α} {A : List HP} {N : Hp → Prop} (pk : Pick L (pt a (.lst (us.map f))) A) (h : ixN (us.map f).length i = some m) (k : Go T (pt a (.lst ((us.set m u).map f)) :: A) N) : Go T L fun H => rSetL (.ref a) (.int i) (f u) H N :=
  g_setL pk h (by rw [← List.map_set]; exact k)
/-! ### what a told lambda raised -/
theorem g_toldN {cs : List (Addr × Str)} {C : Addr} {ret : Str} {cls : Value} {d : Option Addr} (h : PySem.W.exmOne K cls (.ref C) = some false) (k : Go T L fun H => toldE K cs Q cls d H) : Go T L fun H => toldE K ((C, ret) :: cs) Q cls d H :=
  g_toldE h (fun e => by cases e) fun _ => k
theorem g_toldY {cs : List (Addr × Str)} {C : Addr} {ret : Str} {cls : Value} {d : Option Addr} (h : PySem.W.exmOne K cls (.ref C) = some true) (k : Go T L fun H => Q (.str ret) H) : Go T L fun H => toldE K ((C, ret) :: cs) Q cls d H :=
  g_toldE h (fun _ => k) fun e => by cases e
end
end Dh

/-! The layer Dh, part I: data that never changes (ints, texts, bools, None, tuples of data), told as trees. -/
namespace Dh
open PySem PySem.Spec PyProof.Rows L2
inductive Dt where
  | non
  | int (i : Int)
  | bl (b : Bool)
  | str (s : Str)
  | tup (ds : List Dt)
mutual
inductive DV (H : Hp) : V → Dt → Prop
  | non : DV H .non .non
  | int {i : Int} : DV H (.int i) (.int i)
  | bl {b : Bool} : DV H (.bl b) (.bl b)
  | str {s : Str} : DV H (.str s) (.str s)
  | tup {t : Addr} {vs : List V} {ds : List Dt} : H t = some (.tup vs) → DVs H vs ds → DV H (.ref t) (.tup ds)
inductive DVs (H : Hp) : List V → List Dt → Prop
  | nil : DVs H [] []
  | cons {v : V} {vs : List V} {d : Dt} {ds : List Dt} : DV H v d → DVs H vs ds → DVs H (v :: vs) (d :: ds)
end
def dv (v : V) (d : Dt) : HP := fun h => DV h v d
def dvs (vs : List V) (ds : List Dt) : HP := fun h => DVs h vs ds
section
variable {T : List (Addr × Str)} {L A B R : List HP} {σ : L2.St} {Q : VK} {K : PySem.W.Frag} {H H' : Hp} {v x y : V} {vs ws xs : List V} {d e : Dt} {ds es : List Dt} {a b t p : Addr} {G : Hp → Prop} {k n : Nat} {i j : Int} {s : Str}
mutual
theorem DV.mono (m : ∀ a xs, H a = some (.tup xs) → H' a = some (.tup xs)) : ∀ {v : V} {d : Dt}, DV H v d → DV H' v d
  | _, _, .non => .non
  | _, _, .int => .int
  | _, _, .bl => .bl
  | _, _, .str => .str
  | _, _, .tup e r => .tup (m _ _ e) (DVs.mono m r)
theorem DVs.mono (m : ∀ a xs, H a = some (.tup xs) → H' a = some (.tup xs)) : ∀ {vs : List V} {ds : List Dt}, DVs H vs ds → DVs H' vs ds
  | _, _, .nil => .nil
  | _, _, .cons e r => .cons (DV.mono m e) (DVs.mono m r)
end
theorem DVs.len : ∀ {vs : List V} {ds : List Dt}, DVs H vs ds → vs.length = ds.length
  | _, _, .nil => rfl
  | _, _, .cons _ r => by rw [List.length_cons, List.length_cons, r.len]
theorem DVs.app : ∀ {vs ws : List V} {ds es : List Dt}, DVs H vs ds → DVs H ws es → DVs H (vs ++ ws) (ds ++ es)
  | _, _, _, _, .nil, r => r
  | _, _, _, _, .cons e q, r => .cons e (q.app r)
theorem DVs.take : ∀ {vs : List V} {ds : List Dt} (k : Nat), DVs H vs ds → DVs H (vs.take k) (ds.take k)
  | _, _, 0, _ => by rw [List.take_zero, List.take_zero]; exact .nil
  | _, _, _ + 1, .nil => .nil
  | _, _, k + 1, .cons e r => .cons e (r.take k)
theorem DVs.drop : ∀ {vs : List V} {ds : List Dt} (k : Nat), DVs H vs ds → DVs H (vs.drop k) (ds.drop k)
  | _, _, 0, r => r
  | _, _, _ + 1, .nil => .nil
  | _, _, k + 1, .cons e r => r.drop k
theorem DVs.at : ∀ {vs : List V} {ds : List Dt} {k : Nat} {d : Dt}, DVs H vs ds → ds[k]? = some d → ∃ v, vs[k]? = some v ∧ DV H v d
  | _, _, _, _, .nil, h => by simp at h
  | _, _, 0, _, .cons e r, h => by
    simp at h
    subst h
    exact ⟨_, rfl, e⟩
  | _, _, k + 1, _, .cons e r, h => by
    obtain ⟨v, h1, h2⟩ := r.at (k := k) (by simpa using h)
    exact ⟨v, by simpa using h1, h2⟩
theorem DVs.set : ∀ {vs : List V} {ds : List Dt} {v : V} {d : Dt} (k : Nat), DVs H vs ds → DV H v d → DVs H (vs.set k v) (ds.set k d)
  | _, _, _, _, _, .nil, _ => .nil
  | _, _, _, _, 0, .cons _ r, h => .cons h r
  | _, _, _, _, k + 1, .cons e r, h => .cons e (r.set k h)
theorem DVs.ints : ∀ ns : List Int, DVs H (ns.map .int) (ns.map .int)
  | [] => .nil
  | n :: ns => .cons .int (DVs.ints ns)
theorem Pick.dv (pk : Pick L (dv v d) A) (s : Seps L H) : DV H v d := by
  obtain ⟨h1, s1, e⟩ := (pk H s).head
  exact e.mono fun a xs q => s1 _ _ q
theorem Pick.dvs (pk : Pick L (dvs vs ds) A) (s : Seps L H) : DVs H vs ds := by
  obtain ⟨h1, s1, e⟩ := (pk H s).head
  exact e.mono fun a xs q => s1 _ _ q
theorem Pick.tup (pk : Pick L (pt t (.tup vs)) A) (s : Seps L H) (h : DVs H vs ds) : DV H (.ref t) (.tup ds) := .tup (pk.at s) h
def tupsOf (H : Hp) : Hp := fun a => match H a with
  | some (.tup xs) => some (.tup xs)
  | _ => none
theorem tupsOf_some {a : Addr} {o : HO} (h : tupsOf H a = some o) : H a = some o ∧ isImm o = true := by
  unfold tupsOf at h
  split at h
  · rename_i xs q
    cases h
    exact ⟨q, rfl⟩
  · cases h
theorem tupsOf_at {a : Addr} {xs : List V} (h : H a = some (.tup xs)) : tupsOf H a = some (.tup xs) := by
  unfold tupsOf
  rw [h]
/-- data may be told again -/
theorem ent_dvs (h : ∀ H, Seps L H → DVs H vs ds) (e : Ent L R) : Ent L (dvs vs ds :: R) := fun H s =>
  Seps.impT (fun h q => e h q) (s.more (tupsOf H) (fun a o q => (tupsOf_some q).1) (fun a o q => (tupsOf_some q).2) ((h H s).mono fun a xs q => tupsOf_at q))
theorem ent_dv (h : ∀ H, Seps L H → DV H v d) (e : Ent L R) : Ent L (dv v d :: R) := fun H s =>
  Seps.impT (fun h q => e h q) (s.more (tupsOf H) (fun a o q => (tupsOf_some q).1) (fun a o q => (tupsOf_some q).2) ((h H s).mono fun a xs q => tupsOf_at q))
theorem go_dvs (h : ∀ H, Seps L H → DVs H vs ds) (g : Go T (dvs vs ds :: L) G) : Go T L G := g.ent (ent_dvs h ent_refl)
theorem go_dv (h : ∀ H, Seps L H → DV H v d) (g : Go T (dv v d :: L) G) : Go T L G := g.ent (ent_dv h ent_refl)
theorem go_dvsLen (pk : Pick L (dvs vs ds) A) (g : vs.length = ds.length → Go T L G) : Go T L G := fun H tt s => g (pk.dvs s).len H tt s
/-- one of a row of data -/
theorem go_dvsAt (pk : Pick L (dvs vs ds) A) (hk : ds[k]? = some d) (g : ∀ v, vs[k]? = some v → Go T (dv v d :: L) G) : Go T L G := fun H tt s => by
  obtain ⟨v, h1, h2⟩ := (pk.dvs s).at hk
  exact g v h1 H tt (ent_dv (fun H s => by
    obtain ⟨w, h3, h4⟩ := (pk.dvs s).at hk
    rw [h1] at h3
    cases h3
    exact h4) ent_refl H s)
/-- a tuple's parts -/
theorem go_dvTup (pk : Pick L (dv v (.tup ds)) A) (g : ∀ t vs, v = .ref t → Go T (pt t (.tup vs) :: dvs vs ds :: L) G) : Go T L G := fun H tt s => by
  have f : ∀ H, Seps L H → ∃ t vs, v = .ref t ∧ H t = some (.tup vs) ∧ DVs H vs ds := fun H s => by
    have q := pk.dv s
    cases q with
    | tup e r => exact ⟨_, _, rfl, e, r⟩
  obtain ⟨t, vs, rfl, e, r⟩ := f H s
  have s1 : Seps (dvs vs ds :: L) H := s.more (tupsOf H) (fun a o q => (tupsOf_some q).1) (fun a o q => (tupsOf_some q).2) (r.mono fun a xs q => tupsOf_at q)
  have s2 : Seps (pt t (.tup vs) :: dvs vs ds :: L) H := s1.more (tupsOf H) (fun a o q => (tupsOf_some q).1) (fun a o q => (tupsOf_some q).2) (tupsOf_at e)
  exact g t vs rfl H tt s2
theorem go_dvInt (pk : Pick L (dv v (.int i)) A) (g : v = .int i → Go T L G) : Go T L G := fun H tt s => g (by cases pk.dv s; rfl) H tt s
theorem go_dvStr (pk : Pick L (dv v (.str s)) A) (g : v = .str s → Go T L G) : Go T L G := fun H tt q => g (by cases pk.dv q; rfl) H tt q
theorem go_dvBl {b : Bool} (pk : Pick L (dv v (.bl b)) A) (g : v = .bl b → Go T L G) : Go T L G := fun H tt q => g (by cases pk.dv q; rfl) H tt q
theorem go_dvNon (pk : Pick L (dv v .non) A) (g : v = .non → Go T L G) : Go T L G := fun H tt q => g (by cases pk.dv q; rfl) H tt q
theorem go_dvsNil (pk : Pick L (dvs vs []) A) (g : vs = [] → Go T L G) : Go T L G := fun H tt q => g (by cases pk.dvs q; rfl) H tt q
theorem go_dvsCons (pk : Pick L (dvs vs (d :: ds)) A) (g : ∀ v ws, vs = v :: ws → Go T (dv v d :: dvs ws ds :: L) G) : Go T L G := fun H tt s => by
  have f : ∀ H, Seps L H → ∃ v ws, vs = v :: ws ∧ DV H v d ∧ DVs H ws ds := fun H s => by
    have q := pk.dvs s
    cases q with
    | cons e r => exact ⟨_, _, rfl, e, r⟩
  obtain ⟨v, ws, rfl, _⟩ := f H s
  refine g v ws rfl H tt (ent_dv (fun H s => ?_) (ent_dvs (fun H s => ?_) ent_refl) H s)
  · obtain ⟨v', ws', e, h1, _⟩ := f H s
    cases e
    exact h1
  · obtain ⟨v', ws', e, _, h1⟩ := f H s
    cases e
    exact h1
/-! rows of tuples of plain things -/
def Dt.at : Dt → V
  | .int i => .int i
  | .bl b => .bl b
  | .str s => .str s
  | _ => .non
def Dt.isAt : Dt → Bool
  | .tup _ => false
  | _ => true
theorem DVs.atoms : ∀ {vs : List V} {ds : List Dt}, DVs H vs ds → ds.all Dt.isAt = true → vs = ds.map Dt.at
  | _, _, .nil, _ => rfl
  | _, _, .cons e r, h => by
    rw [List.all_cons, Bool.and_eq_true] at h
    rw [List.map_cons, ← r.atoms h.2]
    congr 1
    cases e with
    | tup _ _ => cases h.1
    | _ => rfl
theorem go_dvRow {es : List Dt} (pk : Pick L (dvs vs ds) A) (hk : ds[k]? = some (.tup es)) (he : es.all Dt.isAt = true) (hx : es.map Dt.at = xs) (g : ∀ t, vs[k]? = some (.ref t) → Go T (pt t (.tup xs) :: L) G) : Go T L G := fun H tt s => by
  have f : ∀ H, Seps L H → ∃ t, vs[k]? = some (.ref t) ∧ H t = some (.tup xs) := fun H s => by
    obtain ⟨v, h1, h2⟩ := (pk.dvs s).at hk
    cases h2 with
    | tup e r => exact ⟨_, h1, by rw [← hx, ← r.atoms he]; exact e⟩
  obtain ⟨t, h1, h2⟩ := f H s
  exact g t h1 H tt (s.more (tupsOf H) (fun a o q => (tupsOf_some q).1) (fun a o q => (tupsOf_some q).2) (tupsOf_at h2))
/-! ### == of data -/
mutual
def Dt.py : Dt → PyData
  | .non => .none
  | .int i => .int i
  | .bl b => .bool b
  | .str s => .str s
  | .tup ds => .tuple (Dt.pys ds)
def Dt.pys : List Dt → List PyData
  | [] => []
  | d :: ds => d.py :: Dt.pys ds
end
mutual
theorem DV.dp : ∀ {v : V} {d : Dt}, DV H v d → Dp K H v d.py
  | _, _, .non => .non
  | _, _, .int => .int _
  | _, _, .bl => .bl _
  | _, _, .str => .str _
  | _, _, .tup e r => .tup (SqT.of e) (DVs.dp r)
theorem DVs.dp : ∀ {vs : List V} {ds : List Dt}, DVs H vs ds → DpAll K H vs (Dt.pys ds)
  | _, _, .nil => .nil
  | _, _, .cons e r => .cons (DV.dp e) (DVs.dp r)
end
mutual
/-- how deep; no bools within -/
def Dt.dep : Dt → Nat
  | .tup ds => Dt.deps ds + 1
  | _ => 0
def Dt.deps : List Dt → Nat
  | [] => 0
  | d :: ds => max d.dep (Dt.deps ds)
end
mutual
def Dt.nob : Dt → Bool
  | .bl _ => false
  | .tup ds => Dt.nobs ds
  | _ => true
def Dt.nobs : List Dt → Bool
  | [] => true
  | d :: ds => d.nob && Dt.nobs ds
end
mutual
/-- its texts can be laid -/
def Dt.lay : Dt → Bool
  | .str s => PyData.strOk s
  | .tup ds => Dt.lays ds
  | _ => true
def Dt.lays : List Dt → Bool
  | [] => true
  | d :: ds => d.lay && Dt.lays ds
end
mutual
theorem lay_dt : ∀ {d : Dt}, d.lay = true → PyData.canLay0 d.py = true
  | .non, _ => rfl
  | .int _, _ => rfl
  | .bl _, _ => rfl
  | .str _, h => by
    simp only [Dt.py, PyData.canLay0]
    exact h
  | .tup ds, h => by
    simp only [Dt.py, PyData.canLay0]
    exact lay_dts h
theorem lay_dts : ∀ {ds : List Dt}, Dt.lays ds = true → PyData.canLayAll0 (Dt.pys ds) = true
  | [], _ => rfl
  | d :: ds, h => by
    simp only [Dt.lays, Bool.and_eq_true] at h
    simp only [Dt.pys, PyData.canLayAll0, lay_dt h.1, lay_dts h.2, Bool.and_self]
end
mutual
theorem dep_dt : ∀ d : Dt, PyData.depth d.py = d.dep
  | .non => rfl
  | .int _ => rfl
  | .bl _ => rfl
  | .str _ => rfl
  | .tup ds => by
    simp only [Dt.py, PyData.depth, Dt.dep, dep_dts ds]
    try omega
theorem dep_dts : ∀ ds : List Dt, PyData.depthAll (Dt.pys ds) = Dt.deps ds
  | [] => rfl
  | d :: ds => by simp only [Dt.pys, PyData.depthAll, Dt.deps, dep_dt d, dep_dts ds]
end
theorem shp_dt (l : d.lay = true) (h : d.dep ≤ 64) : SeqAt.shaped d.py = true := by
  show (PyData.canLay0 d.py && decide (PyData.depth d.py ≤ 64)) = true
  rw [lay_dt l, dep_dt, decide_eq_true h]
  rfl
theorem shp_dts (l : Dt.lays ds = true) (h : Dt.deps ds ≤ 60) : SeqAt.shaped (.list (Dt.pys ds)) = true := by
  show (PyData.canLay0 (.list (Dt.pys ds)) && decide (PyData.depth (.list (Dt.pys ds)) ≤ 64)) = true
  simp only [PyData.canLay0, PyData.depth, lay_dts l, dep_dts, Bool.true_and, decide_eq_true_eq]
  omega
theorem lays_all : ∀ {ds : List Dt}, (∀ d ∈ ds, d.lay = true) → Dt.lays ds = true
  | [], _ => rfl
  | d :: ds, h => by
    show (d.lay && Dt.lays ds) = true
    rw [h d List.mem_cons_self, lays_all fun e he => h e (List.mem_cons_of_mem _ he)]
    rfl
theorem deps_map {α : Type} {f : α → Dt} {m : Nat} (h : ∀ u, (f u).dep ≤ m) : ∀ us : List α, Dt.deps (us.map f) ≤ m
  | [] => Nat.zero_le _
  | u :: us => Nat.max_le.mpr ⟨h u, deps_map h us⟩
theorem nobs_map {α : Type} {f : α → Dt} (h : ∀ u, (f u).nob = true) : ∀ us : List α, Dt.nobs (us.map f) = true
  | [] => rfl
  | u :: us => by
    show ((f u).nob && Dt.nobs (us.map f)) = true
    rw [h u, nobs_map h us]
    rfl
mutual
theorem eqv_dt : ∀ {d e : Dt}, d.nob = true → e.nob = true → PyData.eqv d.py e.py = true → d = e
  | .non, .non, _, _, _ => rfl
  | .int i, .int j, _, _, h => by
    simp only [Dt.py, PyData.eqv] at h
    have e : i = j := by simpa using h
    rw [e]
  | .str i, .str j, _, _, h => by
    simp only [Dt.py, PyData.eqv] at h
    have e : i = j := by simpa using h
    rw [e]
  | .tup ds, .tup es, h1, h2, h => by
    simp only [Dt.py, PyData.eqv] at h
    rw [eqv_dts h1 h2 h]
  | .bl _, _, h, _, _ => by cases h
  | _, .bl _, _, h, _ => by cases h
  | .non, .int _, _, _, h => by simp [Dt.py, PyData.eqv] at h
  | .non, .str _, _, _, h => by simp [Dt.py, PyData.eqv] at h
  | .non, .tup _, _, _, h => by simp [Dt.py, PyData.eqv] at h
  | .int _, .non, _, _, h => by simp [Dt.py, PyData.eqv] at h
  | .int _, .str _, _, _, h => by simp [Dt.py, PyData.eqv] at h
  | .int _, .tup _, _, _, h => by simp [Dt.py, PyData.eqv] at h
  | .str _, .non, _, _, h => by simp [Dt.py, PyData.eqv] at h
  | .str _, .int _, _, _, h => by simp [Dt.py, PyData.eqv] at h
  | .str _, .tup _, _, _, h => by simp [Dt.py, PyData.eqv] at h
  | .tup _, .non, _, _, h => by simp [Dt.py, PyData.eqv] at h
  | .tup _, .int _, _, _, h => by simp [Dt.py, PyData.eqv] at h
  | .tup _, .str _, _, _, h => by simp [Dt.py, PyData.eqv] at h
theorem eqv_dts : ∀ {ds es : List Dt}, Dt.nobs ds = true → Dt.nobs es = true → PyData.eqvAll (Dt.pys ds) (Dt.pys es) = true → ds = es
  | [], [], _, _, _ => rfl
  | [], e :: es, _, _, h => by simp [Dt.pys, PyData.eqvAll] at h
  | d :: ds, [], _, _, h => by simp [Dt.pys, PyData.eqvAll] at h
  | d :: ds, e :: es, h1, h2, h => by
    simp only [Dt.pys, PyData.eqvAll, Bool.and_eq_true] at h
    simp only [Dt.nobs, Bool.and_eq_true] at h1 h2
    rw [eqv_dt h1.1 h2.1 h.1, eqv_dts h1.2 h2.2 h.2]
end
mutual
theorem eqv_dtR : ∀ d : Dt, PyData.eqv d.py d.py = true
  | .non => by simp [Dt.py, PyData.eqv]
  | .int _ => by simp [Dt.py, PyData.eqv]
  | .bl _ => by simp [Dt.py, PyData.eqv]
  | .str _ => by simp [Dt.py, PyData.eqv]
  | .tup ds => by
    simp only [Dt.py, PyData.eqv]
    exact eqv_dtsR ds
theorem eqv_dtsR : ∀ ds : List Dt, PyData.eqvAll (Dt.pys ds) (Dt.pys ds) = true
  | [] => by simp [Dt.pys, PyData.eqvAll]
  | d :: ds => by simp only [Dt.pys, PyData.eqvAll, eqv_dtR d, eqv_dtsR ds, Bool.and_self]
end
open Classical in
theorem eqv_dtD {d e : Dt} (h1 : d.nob = true) (h2 : e.nob = true) : PyData.eqv d.py e.py = decide (d = e) := by
  by_cases h : d = e
  · subst h
    rw [eqv_dtR, decide_eq_true rfl]
  · rw [decide_eq_false h, Bool.eq_false_iff]
    exact fun z => h (eqv_dt h1 h2 z)
open Classical in
theorem eqv_dtsD {ds es : List Dt} (h1 : Dt.nobs ds = true) (h2 : Dt.nobs es = true) : PyData.eqv (.list (Dt.pys ds)) (.list (Dt.pys es)) = decide (ds = es) := by
  simp only [PyData.eqv]
  by_cases h : ds = es
  · subst h
    rw [eqv_dtsR, decide_eq_true rfl]
  · rw [decide_eq_false h, Bool.eq_false_iff]
    exact fun z => h (eqv_dts h1 h2 z)
/-- == of two lists of data: by a Bool of one's own -/
theorem g_eqDs {r : Bool} (p1 : Pick L (pt a (.lst vs)) A) (q1 : ∀ H, Seps L H → DVs H vs ds) (p2 : Pick L (pt b (.lst ws)) B) (q2 : ∀ H, Seps L H → DVs H ws es) (l1 : Dt.lays ds = true) (l2 : Dt.lays es = true) (b1 : Dt.deps ds ≤ 60) (b2 : Dt.deps es ≤ 60) (h : PyData.eqv (.list (Dt.pys ds)) (.list (Dt.pys es)) = r) (k : Go T L fun H => Q (.bl r) H) :
    Go T L fun H => rEqX K (.ref a) (.ref b) H Q :=
  g_eqD (fun H s => .lst (SqL.of (p1.at s)) (q1 H s).dp) (fun H s => .lst (SqL.of (p2.at s)) (q2 H s).dp) (shp_dts l1 b1) (shp_dts l2 b2) (by rw [h]; exact k)
theorem g_neDs {r : Bool} (p1 : Pick L (pt a (.lst vs)) A) (q1 : ∀ H, Seps L H → DVs H vs ds) (p2 : Pick L (pt b (.lst ws)) B) (q2 : ∀ H, Seps L H → DVs H ws es) (l1 : Dt.lays ds = true) (l2 : Dt.lays es = true) (b1 : Dt.deps ds ≤ 60) (b2 : Dt.deps es ≤ 60) (h : PyData.eqv (.list (Dt.pys ds)) (.list (Dt.pys es)) = r) (k : Go T L fun H => Q (.bl (!r)) H) :
    Go T L fun H => rNeX K (.ref a) (.ref b) H Q :=
  g_neD (fun H s => .lst (SqL.of (p1.at s)) (q1 H s).dp) (fun H s => .lst (SqL.of (p2.at s)) (q2 H s).dp) (shp_dts l1 b1) (shp_dts l2 b2) (by rw [h]; exact k)
/-- == of two tuples (or smaller data) -/
theorem g_eqDt {r : Bool} (q1 : ∀ H, Seps L H → DV H x d) (q2 : ∀ H, Seps L H → DV H y e) (l1 : d.lay = true) (l2 : e.lay = true) (b1 : d.dep ≤ 64) (b2 : e.dep ≤ 64) (h : PyData.eqv d.py e.py = r) (k : Go T L fun H => Q (.bl r) H) : Go T L fun H => rEqX K x y H Q :=
  g_eqD (fun H s => (q1 H s).dp) (fun H s => (q2 H s).dp) (shp_dt l1 b1) (shp_dt l2 b2) (by rw [h]; exact k)
theorem g_neDt {r : Bool} (q1 : ∀ H, Seps L H → DV H x d) (q2 : ∀ H, Seps L H → DV H y e) (l1 : d.lay = true) (l2 : e.lay = true) (b1 : d.dep ≤ 64) (b2 : e.dep ≤ 64) (h : PyData.eqv d.py e.py = r) (k : Go T L fun H => Q (.bl (!r)) H) : Go T L fun H => rNeX K x y H Q :=
  g_neD (fun H s => (q1 H s).dp) (fun H s => (q2 H s).dp) (shp_dt l1 b1) (shp_dt l2 b2) (by rw [h]; exact k)
/-! ### more -/
theorem log2_ok {i : Int} (h : i.natAbs < 4294967296) : i.natAbs.log2 < 1920 := by
  rcases Nat.eq_zero_or_pos i.natAbs with e | e
  · rw [e]; decide
  · rw [Nat.log2_lt (by omega)]
    exact Nat.lt_of_lt_of_le h (Nat.pow_le_pow_right (n := 2) (by decide) (show 32 ≤ 1920 by decide))
theorem g_toNat {r : Int} (h : 0 ≤ r) (k : Go T L fun H => Q (.int ((r.toNat : Nat) : Int)) H) : Go T L fun H => Q (.int r) H := by
  rw [Int.toNat_of_nonneg h] at k
  exact k
theorem g_isiI {c : String} {r : Bool} (h : PySem.W.kitOne K (.type "int") (.type c) = some r) (k : Go T L fun H => Q (.bl r) H) : Go T L fun H => rIsi K [.int i, .ty c] H Q := fun H t s =>
  ⟨_, _, _, _, _, rfl, .ty _, .base (.int _), h, k H t s⟩
theorem g_isiII (k : Go T L fun H => Q (.bl true) H) : Go T L fun H => rIsi K [.int i, .ty "int"] H Q := g_isiI (kit_ty (by decide +kernel)) k
theorem g_isiIB (k : Go T L fun H => Q (.bl false) H) : Go T L fun H => rIsi K [.int i, .ty "bool"] H Q := g_isiI (kit_ty (by decide +kernel)) k
theorem inV_strs (s : Str) (ss : List Str) : inV (.str s) (ss.map .str) = decide (s ∈ ss) := by
  unfold inV
  induction ss with
  | nil => simp
  | cons n ns ih =>
    rw [List.map_cons, List.any_cons, ih]
    show ((n == s) || decide (s ∈ ns)) = decide (s ∈ n :: ns)
    by_cases h : s = n
    · subst h; simp
    · have h' : ¬ n = s := fun e => h e.symm
      simp [h, h']
/-- x in a tuple of texts of the module's own -/
theorem g_inK {ss : List Str} (hq : ∀ H, SqT K H b (ss.map .str)) (k : Go T L fun H => Q (.bl (decide (s ∈ ss))) H) : Go T L fun H => rIn K false (.str s) (.ref b) H Q := fun H t z =>
  ⟨b, _, rfl, .inr (hq H), rfl, by rw [List.all_map, List.all_eq_true]; exact fun _ _ => rfl, by rw [if_neg (by decide), inV_strs]; exact k H t z⟩
theorem g_notInK {ss : List Str} (hq : ∀ H, SqT K H b (ss.map .str)) (k : Go T L fun H => Q (.bl (!decide (s ∈ ss))) H) : Go T L fun H => rIn K true (.str s) (.ref b) H Q := fun H t z =>
  ⟨b, _, rfl, .inr (hq H), rfl, by rw [List.all_map, List.all_eq_true]; exact fun _ _ => rfl, by rw [if_pos rfl, inV_strs]; exact k H t z⟩
/-! ### dicts with keys of texts -/
section
variable {kvs : List (Key × V)}
theorem g_dinS (pk : Pick L (pt a (.dK kvs)) A) (k : Go T L fun H => Q (.bl (valV kvs (Sum.inr s)).isSome) H) : Go T L fun H => lDIn Q (.str s) (.ref a) H := fun H t z => ⟨a, _, rfl, DGet.k (k := Sum.inr s) (pk.at z), k H t z⟩
theorem g_dnotinS (pk : Pick L (pt a (.dK kvs)) A) (k : Go T L fun H => Q (.bl (!(valV kvs (Sum.inr s)).isSome)) H) : Go T L fun H => lDNotIn Q (.str s) (.ref a) H := fun H t z => ⟨a, _, rfl, DGet.k (k := Sum.inr s) (pk.at z), k H t z⟩
theorem g_dgetS (pk : Pick L (pt a (.dK kvs)) A) (h : valV kvs (Sum.inr s) = some v) (k : Go T L fun H => Q v H) : Go T L fun H => lDGet Q (.ref a) (.str s) H := fun H t z => ⟨a, v, rfl, h ▸ DGet.k (k := Sum.inr s) (pk.at z), k H t z⟩
theorem g_dputS {N : Hp → Prop} (pk : Pick L (pt a (.dK kvs)) A) (hl : kvs.length < sizeLine) (k : Go T (pt a (.dK (putK kvs (Sum.inr s) v)) :: A) N) : Go T L fun H => lDPut N v (.ref a) (.str s) H := fun H t z =>
  ⟨a, _, rfl, DPut.k (k := Sum.inr s) (pk.at z) hl, (go_wr (P' := pt a (.dK (putK kvs (Sum.inr s) v))) pk rfl (fun h e => ⟨_, e, rfl, upd_same⟩) k) H t z⟩
theorem g_dpopS (pk : Pick L (pt a (.dK kvs)) A) (h : valV kvs (Sum.inr s) = some v) (k : Go T (pt a (.dK (dropK kvs (Sum.inr s))) :: A) fun H => Q v H) : Go T L fun H => lDPopB a Q (.str s) H := fun H t z =>
  ⟨kvs, Sum.inr s, v, pk.at z, rfl, h, (go_wr (P' := pt a (.dK (dropK kvs (Sum.inr s)))) pk rfl (fun h e => ⟨_, e, rfl, upd_same⟩) k) H t z⟩
end
end
end Dh

/-! The layer Dh, part J: loops and comprehensions over reversed, zip, enumerate; dict comprehensions. -/
namespace Dh
open PySem PySem.Spec PyProof.Rows L2
section
variable {X : Cx} {K : PySem.W.Frag}
theorem piZip {e e2 : Expr} {ta : TA} {p pos tpos : Pos} {elts : List Expr} {kk : Nat} (hK : X.K = K) (hg : Gl X "zip") (hm : X.mg "zip" = none) (ha : PA X [e, e2] ta)
    (hs : starEach [e, e2] X.env = (false, eval e X.env) :: starEach [e2] X.env := by rfl) (hpl : (backTo pos (starEach [e2] X.env)).any (·.1) = false := by rfl) :
    PI X (.Tuple elts kk tpos) (.Call (.Name "zip" p) [e, e2] [] pos) (RZ.iZipA K ta) := hK ▸ RZ.pi_zipA hg hm ha hs hpl
theorem piEnum {e : Expr} {ta : TA} {p pos tpos : Pos} {elts : List Expr} {kk : Nat} (hK : X.K = K) (hg : Gl X "enumerate") (hm : X.mg "enumerate" = none) (ha : PA X [e] ta) (hs : starEach [e] X.env = [(false, eval e X.env)] := by rfl) :
    PI X (.Tuple elts kk tpos) (.Call (.Name "enumerate" p) [e] [] pos) (iEnum K ta) := hK ▸ pi_enum hg hm ha hs
end
section
variable {T : List (Addr × Str)} {L L0 A B : List HP} {σ : L2.St} {Q : VK} {K : PySem.W.Frag} {n : Nat} {te ta : TE} {tt : TT} {tr : TA} {g : TG} {vs : List Nat} {a b p : Addr} {xs ys : List V} {x y : V} {ts : TS} {N0 : L2.St → Hp → Prop} {R0 : VK} {R : It → Hp → Prop} {J : It} {G : Hp → Prop} {Y : Nat → Hp → V → Hp → Prop}
theorem walk_revT : Walk (RT.ItvT K a xs.length) xs.length (fun H => SqT K H a xs) (fun i H x H' => H' = H ∧ xs[xs.length - 1 - i]? = some x) :=
  ⟨fun i _ hi q => ⟨hi, xs, xs[xs.length - 1 - i]'(by omega), q, by simp [show xs.length - 1 - i < xs.length by omega]⟩, fun _ _ => Nat.le_refl _, fun _ _ _ _ _ q y => ⟨y.1, y.2 xs q⟩⟩
theorem walk_zipT (hn : n = min xs.length ys.length) : Walk (RZ.ItzT K a b) n (fun H => SqT K H a xs ∧ SqT K H b ys) (YPair (fun i => xs[i]?) (fun i => ys[i]?)) := by
  subst hn
  refine ⟨fun i _ hi q => ?_, fun _ q => ⟨xs, ys, q.1, q.2, by omega⟩, fun i H v H' _ q y => ?_⟩
  · have h1 : i < xs.length := by omega
    have h2 : i < ys.length := by omega
    exact ⟨xs, ys, xs[i], ys[i], q.1, q.2, by simp [h1], by simp [h2]⟩
  · obtain ⟨T, x, z, h1, h2, h3, h4, h5⟩ := y
    exact ⟨T, x, z, h1, h2, h3, h4 xs q.1, h5 ys q.2⟩
/-- a for over a walk that leaves the heap as it is -/
theorem g_forW {Pm : Nat → V → Prop} (w : Walk J n G Y) (hy : ∀ i H x H', Y i H x H' → H' = H ∧ Pm i x) (I : Nat → SI) (h0 : I 0 σ L) (hG : ∀ i σ L, I i σ L → ∀ H, Seps L H → G H)
    (hs : ∀ i x σ L, i < n → Pm i x → I i σ L → Go T L fun H => g x σ H fun σ2 H2 => ts ⟨SI.at T (I (i + 1)), R0, N0, SI.at T (I (i + 1))⟩ σ2 H2) (hd : ∀ σ L, I n σ L → Go T L fun H => N0 σ H) :
    Go T L fun H => ForG J g ts N0 R0 σ H := fun H t s =>
  for_it w (D := ⟨N0, R0, fun _ _ => False, fun _ _ => False⟩) (fun i => SI.at T (I i)) ⟨L, h0, t, s⟩ (fun i σ H _ ⟨L, h, t, s⟩ => hG i σ L h H s) (fun i x σ H H' hi ⟨L, h, t, s⟩ yy => by
    obtain ⟨e, hx⟩ := hy _ _ _ _ yy
    rw [e]
    exact hs i x σ L hi hx h H t s) (fun σ H ⟨L, h, t, s⟩ => hd σ L h H t s)
/-- a for over a walk that gives pairs -/
theorem g_forP {f h : Nat → Option V} (w : Walk J n G (YPair f h)) (I : Nat → SI) (h0 : I 0 σ L) (hG : ∀ i σ L, I i σ L → ∀ H, Seps L H → G H)
    (hs : ∀ i x y p σ L, i < n → f i = some x → h i = some y → I i σ L → Go T (pt p (.tup [x, y]) :: L) fun H => g (.ref p) σ H fun σ2 H2 => ts ⟨SI.at T (I (i + 1)), R0, N0, SI.at T (I (i + 1))⟩ σ2 H2) (hd : ∀ σ L, I n σ L → Go T L fun H => N0 σ H) :
    Go T L fun H => ForG J g ts N0 R0 σ H := fun H t s =>
  for_it w (D := ⟨N0, R0, fun _ _ => False, fun _ _ => False⟩) (fun i => SI.at T (I i)) ⟨L, h0, t, s⟩ (fun i σ H _ ⟨L, h, t, s⟩ => hG i σ L h H s) (fun i v σ H H' hi ⟨L, hh, t, s⟩ yy => by
    obtain ⟨q, x, y, rfl, e1, rfl, hx, hy⟩ := yy
    exact hs i x y q σ L hi hx hy hh _ (Tabs.new t e1) (s.new e1 rfl fun _ e => e)) (fun σ H ⟨L, h, t, s⟩ => hd σ L h H t s)
theorem g_lcW {Pm : Nat → V → Prop} (w : Walk J n G Y) (hy : ∀ i H x H', Y i H x H' → H' = H ∧ Pm i x) (I : CI) (h0 : I 0 [] L) (hG : ∀ i acc L, I i acc L → ∀ H, Seps L H → G H)
    (hs : ∀ D i x acc L, i < n → Pm i x → I i acc L → Go T (pt D (.lst acc) :: L) (LcTurn T D I i g tt te vs σ x)) (hd : ∀ D acc L, I n acc L → Go T (pt D (.lst acc) :: L) fun H => Q (.ref D) H) :
    Go T L fun H => LcG J g tt te vs σ Q H := fun H t s D hD =>
  lc_it w (LcPv T D I) ⟨[], L, h0, Tabs.new t hD, s.new hD rfl fun _ e => e⟩ (fun i H _ ⟨acc, L, h, t, s⟩ => hG i acc L h H s.tail) (fun i x H H' hi ⟨acc, L, h, t, s⟩ yy => by
    obtain ⟨e, hx⟩ := hy _ _ _ _ yy
    rw [e]
    exact hs D i x acc L hi hx h H t s) (fun H ⟨acc, L, h, t, s⟩ => hd D acc L h H t s)
theorem g_lcP {f h : Nat → Option V} (w : Walk J n G (YPair f h)) (I : CI) (h0 : I 0 [] L) (hG : ∀ i acc L, I i acc L → ∀ H, Seps L H → G H)
    (hs : ∀ D i x y p acc L, i < n → f i = some x → h i = some y → I i acc L → Go T (pt p (.tup [x, y]) :: pt D (.lst acc) :: L) (LcTurn T D I i g tt te vs σ (.ref p))) (hd : ∀ D acc L, I n acc L → Go T (pt D (.lst acc) :: L) fun H => Q (.ref D) H) :
    Go T L fun H => LcG J g tt te vs σ Q H := fun H t s D hD =>
  lc_it w (LcPv T D I) ⟨[], L, h0, Tabs.new t hD, s.new hD rfl fun _ e => e⟩ (fun i H _ ⟨acc, L, h, t, s⟩ => hG i acc L h H s.tail) (fun i v H H' hi ⟨acc, L, hh, t, s⟩ yy => by
    obtain ⟨q, x, y, rfl, e1, rfl, hx, hy⟩ := yy
    exact hs D i x y q acc L hi hx hy hh _ (Tabs.new t e1) (s.new e1 rfl fun _ e => e)) (fun H ⟨acc, L, h, t, s⟩ => hd D acc L h H t s)
/-! ### the readings of what is walked -/
def lRev (K : PySem.W.Frag) (R : It → Hp → Prop) (v : V) (H1 : Hp) : Prop := ∃ (a : Addr) (xs : List V), v = .ref a ∧ ((SqL K H1 a xs ∧ R (Itv K a xs.length) H1) ∨ (SqT K H1 a xs ∧ R (RT.ItvT K a xs.length) H1))
theorem g_iRevE (k : Go T L fun H => te σ H (lRev K R)) : Go T L fun H => RT.iRevA K te σ H R := k
theorem g_iRevL (pk : Pick L (pt a (.lst xs)) A) (k : Go T L fun H => R (Itv K a xs.length) H) : Go T L fun H => lRev K R (.ref a) H := fun H t s => ⟨a, xs, rfl, .inl ⟨SqL.of (pk.at s), k H t s⟩⟩
theorem g_iRevT (pk : Pick L (pt a (.tup xs)) A) (k : Go T L fun H => R (RT.ItvT K a xs.length) H) : Go T L fun H => lRev K R (.ref a) H := fun H t s => ⟨a, xs, rfl, .inr ⟨SqT.of (pk.at s), k H t s⟩⟩
def lZip (K : PySem.W.Frag) (R : It → Hp → Prop) (us : List V) (H1 : Hp) : Prop := ∃ a b xs ys, us = [.ref a, .ref b] ∧ ((SqL K H1 a xs ∧ SqL K H1 b ys ∧ R (Itz K a b) H1) ∨ (SqT K H1 a xs ∧ SqT K H1 b ys ∧ R (RZ.ItzT K a b) H1))
theorem g_iZipE (k : Go T L fun H => tr σ H (lZip K R)) : Go T L fun H => RZ.iZipA K tr σ H R := k
theorem g_iZipL (p1 : Pick L (pt a (.lst xs)) A) (p2 : Pick L (pt b (.lst ys)) B) (k : Go T L fun H => R (Itz K a b) H) : Go T L fun H => lZip K R [.ref a, .ref b] H := fun H t s => ⟨a, b, xs, ys, rfl, .inl ⟨SqL.of (p1.at s), SqL.of (p2.at s), k H t s⟩⟩
theorem g_iZipT (p1 : Pick L (pt a (.tup xs)) A) (p2 : Pick L (pt b (.tup ys)) B) (k : Go T L fun H => R (RZ.ItzT K a b) H) : Go T L fun H => lZip K R [.ref a, .ref b] H := fun H t s => ⟨a, b, xs, ys, rfl, .inr ⟨SqT.of (p1.at s), SqT.of (p2.at s), k H t s⟩⟩
def lEnum (K : PySem.W.Frag) (R : It → Hp → Prop) (us : List V) (H1 : Hp) : Prop := ∃ a xs, us = [.ref a] ∧ SqL K H1 a xs ∧ R (Ite K a) H1
theorem g_iEnumE (k : Go T L fun H => tr σ H (lEnum K R)) : Go T L fun H => iEnum K tr σ H R := k
theorem g_iEnum (pk : Pick L (pt a (.lst xs)) A) (k : Go T L fun H => R (Ite K a) H) : Go T L fun H => lEnum K R [.ref a] H := fun H t s => ⟨a, xs, rfl, SqL.of (pk.at s), k H t s⟩
theorem yAt_ok : ∀ (i : Nat) (H : Hp) (x : V) (H' : Hp), YAt xs i H x H' → H' = H ∧ xs[i]? = some x := fun _ _ _ _ h => h
theorem id_ok {Pm : Nat → V → Prop} : ∀ (i : Nat) (H : Hp) (x : V) (H' : Hp), (H' = H ∧ Pm i x) → H' = H ∧ Pm i x := fun _ _ _ _ h => h
/-- zip of two lists of mapped things, each turn's value by f, the chunks as they were -/
def IZ {α β : Type} (us : List α) (ws : List β) (f : α → β → V) (L0 : List HP) : CI := fun j acc L => acc = ((us.zip ws).take j).map (fun q => f q.1 q.2) ∧ Ent L L0
theorem zip_at {α β : Type} {us : List α} {ws : List β} {gx : α → V} {gy : β → V} {i : Nat} {x y : V} (h1 : (us.map gx)[i]? = some x) (h2 : (ws.map gy)[i]? = some y) : ∃ u w, us[i]? = some u ∧ ws[i]? = some w ∧ x = gx u ∧ y = gy w ∧ (us.zip ws)[i]? = some (u, w) := by
  rw [List.getElem?_map] at h1 h2
  obtain ⟨u, hu, rfl⟩ := Option.map_eq_some_iff.mp h1
  obtain ⟨w, hw, rfl⟩ := Option.map_eq_some_iff.mp h2
  exact ⟨u, w, hu, hw, rfl, rfl, by rw [List.getElem?_zip_eq_some]; exact ⟨hu, hw⟩⟩
theorem g_lcZ {α β : Type} {us : List α} {ws : List β} {gx : α → V} {gy : β → V} (f : α → β → V) (w : Walk J (min us.length ws.length) G (YPair (fun i => (us.map gx)[i]?) (fun i => (ws.map gy)[i]?))) (h0 : Ent L L0) (hG : ∀ H, Seps L0 H → G H)
    (hs : ∀ D i u z p, us[i]? = some u → ws[i]? = some z → (us.zip ws)[i]? = some (u, z) → Go T (pt p (.tup [gx u, gy z]) :: pt D (.lst (((us.zip ws).take i).map (fun q => f q.1 q.2))) :: L0) (LcTurn T D (IZ us ws f L0) i g tt te vs σ (.ref p)))
    (hd : ∀ D, Go T (pt D (.lst ((us.zip ws).map (fun q => f q.1 q.2))) :: L0) fun H => Q (.ref D) H) : Go T L fun H => LcG J g tt te vs σ Q H :=
  g_lcP w (IZ us ws f L0) ⟨rfl, h0⟩ (fun i acc L h H s => hG H (h.2 H s)) (fun D i x y p acc L hi h1 h2 h => by
    obtain ⟨rfl, e⟩ := h
    obtain ⟨u, z, h3, h4, rfl, rfl, h5⟩ := zip_at h1 h2
    exact (hs D i u z p h3 h4 h5).ent (ent_tail (ent_tail e))) (fun D acc L h => by
    obtain ⟨rfl, e⟩ := h
    rw [List.take_of_length_le (by rw [List.length_zip]; exact Nat.le_refl _)]
    exact (hd D).ent (ent_tail e))
theorem g_lcPutZ {α β : Type} {us : List α} {ws : List β} {f : α → β → V} {u : α} {z : β} {D : Addr} {i : Nat} (hu : (us.zip ws)[i]? = some (u, z)) (pk : Pick L (pt D (.lst (((us.zip ws).take i).map (fun q => f q.1 q.2)))) A) (hl : us.length < sizeLine) (hy : y = f u z) (e : Ent A L0) : Go T L fun H => LcAdd T D (IZ us ws f L0) (i + 1) y H :=
  g_lcAdd pk (by rw [List.length_map, List.length_take, List.length_zip]; omega) ⟨by rw [hy, List.take_add_one, hu, List.map_append]; rfl, e⟩
/-- a comprehension over a tuple of mapped things -/
theorem g_lcMt {α : Type} {us : List α} {gx : α → V} (f : α → V) (h0 : Ent L L0) (pk : Pick L0 (pt a (.tup (us.map gx))) A) (hs : ∀ D i u, us[i]? = some u → Go T (pt D (.lst ((us.take i).map f)) :: L0) (LcTurn T D (IM us f L0) i g tt te vs σ (gx u)))
    (hd : ∀ D, Go T (pt D (.lst (us.map f)) :: L0) fun H => Q (.ref D) H) : Go T L fun H => LcG (Itt K a) g tt te vs σ Q H :=
  g_lcT (IM us f L0) ⟨rfl, h0⟩ (fun i acc L h => h.2.has pk) (fun D i x acc L hx h => by
    obtain ⟨rfl, e⟩ := h
    rw [List.getElem?_map] at hx
    obtain ⟨u, hu, rfl⟩ := Option.map_eq_some_iff.mp hx
    exact (hs D i u hu).ent (ent_tail e)) (fun D acc L h => by
    obtain ⟨rfl, e⟩ := h
    rw [List.length_map, List.take_length]
    exact (hd D).ent (ent_tail e))
/-! ### dict comprehensions -/
abbrev DI := Nat → List (Key × V) → List HP → Prop
section
variable {tk tv : TE} {kvs : List (Key × V)} {D : Addr}
def DcPv (T : List (Addr × Str)) (D : Addr) (I : DI) (i : Nat) : Hp → Prop := fun H => ∃ kvs L, I i kvs L ∧ LamX.Tabs T H ∧ Seps (pt D (.dK kvs) :: L) H
def DcPut (T : List (Addr × Str)) (D : Addr) (I : DI) (i : Nat) (y z : V) : Hp → Prop := fun H5 => ∃ kvs k, y = kV k ∧ H5 D = some (.dK kvs) ∧ kvs.length < sizeLine ∧ DcPv T D I i (upd H5 D (.dK (putK kvs k z)))
def DcTurn (T : List (Addr × Str)) (D : Addr) (I : DI) (i : Nat) (g : TG) (tt : TT) (tk tv : TE) (vs : List Nat) (σ : L2.St) (x : V) : Hp → Prop := fun H =>
  g x (wipe σ vs) H fun σ2 H2 => wipe σ2 vs = wipe σ vs ∧ tt σ2 H2 fun b H3 => if b = true then tk σ2 H3 fun y H4 => tv σ2 H4 fun z H5 => DcPut T D I (i + 1) y z H5 else DcPv T D I (i + 1) H3
def DcG (J : It) (g : TG) (tt : TT) (tk tv : TE) (vs : List Nat) (σ : L2.St) (Q : VK) (H1 : Hp) : Prop := ∀ D, H1 D = none → ∃ W : Nat → Nat → Hp → Prop, (∃ m, W 0 m (upd H1 D (.dK []))) ∧ ∀ i m H, W i m H →
  (J.stop i H ∧ Q (.ref D) H) ∨ (J.go i H ∧ ∃ Nx : Hp → Prop, (∀ H', Nx H' → ∃ m', m' < m ∧ W (i + 1) m' H') ∧ ∀ x H', J.yld i H x H' → g x (wipe σ vs) H' fun σ2 H2 => wipe σ2 vs = wipe σ vs ∧ tt σ2 H2 fun b H3 =>
    if b = true then tk σ2 H3 fun y H4 => tv σ2 H4 fun z H5 => ∃ kvs k, y = kV k ∧ H5 D = some (.dK kvs) ∧ kvs.length < sizeLine ∧ Nx (upd H5 D (.dK (putK kvs k z))) else Nx H3)
theorem g_dcE {wi : TI} (k : Go T L fun H => wi σ H fun J H1 => DcG J g tt tk tv vs σ Q H1) : Go T L fun H => tDc wi g tt tk tv vs σ H Q := k
theorem g_dcW {Pm : Nat → V → Prop} (w : Walk J n G Y) (hy : ∀ i H x H', Y i H x H' → H' = H ∧ Pm i x) (I : DI) (h0 : I 0 [] L) (hG : ∀ i kvs L, I i kvs L → ∀ H, Seps L H → G H)
    (hs : ∀ D i x kvs L, i < n → Pm i x → I i kvs L → Go T (pt D (.dK kvs) :: L) (DcTurn T D I i g tt tk tv vs σ x)) (hd : ∀ D kvs L, I n kvs L → Go T (pt D (.dK kvs) :: L) fun H => Q (.ref D) H) :
    Go T L fun H => DcG J g tt tk tv vs σ Q H := fun H t s D hD => by
  refine ⟨fun i m H => m = n - i ∧ i ≤ n ∧ DcPv T D I i H, ⟨n, by simp, Nat.zero_le _, [], L, h0, Tabs.new t hD, s.new hD rfl fun _ e => e⟩, ?_⟩
  rintro i m H ⟨rfl, hi, p⟩
  obtain ⟨kvs, L, h, t, s⟩ := _root_.id p
  have q := hG i kvs L h H s.tail
  by_cases hlt : i < n
  · refine .inr ⟨w.goes i H hlt q, DcPv T D I (i + 1), fun H' p' => ⟨n - (i + 1), by omega, rfl, hlt, p'⟩, fun x H' y => ?_⟩
    obtain ⟨e, hx⟩ := hy _ _ _ _ (w.yields i H x H' hlt q y)
    rw [e]
    exact hs D i x kvs L hlt hx h H t s
  · have e : i = n := by omega
    subst e
    exact .inl ⟨w.stops H q, hd D kvs L h H t s⟩
theorem g_dturn {I : DI} {i : Nat} (k : Go T L fun H => g x (wipe σ vs) H fun σ2 H2 => wipe σ2 vs = wipe σ vs ∧ tt σ2 H2 fun b H3 => if b = true then tk σ2 H3 fun y H4 => tv σ2 H4 fun z H5 => DcPut T D I (i + 1) y z H5 else DcPv T D I (i + 1) H3) : Go T L (DcTurn T D I i g tt tk tv vs σ x) := k
theorem g_dcPut {I : DI} {i : Nat} {k : Key} {z : V} (pk : Pick L (pt D (.dK kvs)) A) (hl : kvs.length < sizeLine) (hk : y = kV k) (h : I i (putK kvs k z) A) : Go T L fun H => DcPut T D I i y z H := fun H t s =>
  ⟨kvs, k, hk, pk.at s, hl, (go_wr (P' := pt D (.dK (putK kvs k z))) (Q := DcPv T D I i) pk rfl (fun h e => ⟨_, e, rfl, upd_same⟩) fun H t s => ⟨_, _, h, t, s⟩) H t s⟩
end
end
end Dh
namespace Dh
open PySem PySem.Spec PyProof.Rows L2
/-! ### dicts that are sets of keys -/
def keyD (ks : List Key) : List (Key × V) := ks.map fun k => (k, .bl true)
def hasK (ks : List Key) (k : Key) : Bool := ks.any fun x => decide (x = k)
theorem hasK_iff {ks : List Key} {k : Key} : hasK ks k = true ↔ k ∈ ks := by simp [hasK]
def addK (ks : List Key) (k : Key) : List Key := if hasK ks k = true then ks else ks ++ [k]
theorem keyD_in (k : Key) : ∀ ks : List Key, (valV (keyD ks) k).isSome = hasK ks k
  | [] => rfl
  | x :: ks => by
    have ih := keyD_in k ks
    rw [keyD] at ih
    by_cases h : x = k
    · subst h
      rw [keyD, List.map_cons, valV_pos rfl]
      simp [hasK]
    · rw [keyD, List.map_cons, valV_neg (by simpa using h), ih]
      simp [hasK, h]
theorem keyD_put {ks : List Key} {k : Key} : putK (keyD ks) k (.bl true) = keyD (addK ks k) := by
  unfold putK addK
  rw [valV_any, keyD_in]
  by_cases h : hasK ks k = true
  · rw [if_pos h, if_pos h]
    unfold keyD
    rw [List.map_map]
    refine List.map_congr_left fun x _ => ?_
    show (if x = k then ((x, V.bl true) : Key × V) else (x, .bl true)) = (x, .bl true)
    split <;> rfl
  · rw [if_neg h, if_neg h]
    unfold keyD
    simp
theorem keyD_len {ks : List Key} : (keyD ks).length = ks.length := List.length_map _
theorem addK_len {ks : List Key} {k : Key} : (addK ks k).length ≤ ks.length + 1 := by
  unfold addK
  split
  · exact Nat.le_succ _
  · rw [List.length_append]; exact Nat.le_refl _
end Dh

/-! The layer Dh, part K: any, all, sum of a generator expression; its element may call defs. -/
namespace Gx
open PySem PySem.Spec PyProof.Rows L2
/-- the context of a generator expression's element -/
abbrev gxCx (X : Cx) (A : Around) (s : Shared) (H : Hp) (cenv : Env) (fp : List Addr) (pn : List (Addr × Obj)) : Cx :=
  { X with A := A, s_0 := s, H_0 := H, env := cenv, outer := X.stack, stack := cenv :: X.stack, ex := fp, fn := fun _ => false, calm := true, pn := pn, xe := fun _ _ => False }
structure GenOk (N : List Str) (sc scope : Scope) (own : List (Str × Nat)) : Prop where
  blk : BlkOk N sc scope own
  co : scope.isCoroutine = false
  cell : ∀ y ∈ scope.names, y.2 ≠ .cell
  dot : scope.names.lookup (".0" : Str) = some NameKind.local
def genC (N : List Str) (sc scope : Scope) (own : List (Str × Nat)) : Bool :=
  blkC N sc scope own && !scope.isCoroutine && (scope.names.all fun y => !decide (y.2 = .cell)) && decide (scope.names.lookup (".0" : Str) = some NameKind.local)
theorem genOk_by {N : List Str} {sc scope : Scope} {own : List (Str × Nat)} (h : genC N sc scope own = true) : GenOk N sc scope own := by
  unfold genC at h
  simp only [Bool.and_eq_true, Bool.not_eq_true', List.all_eq_true, decide_eq_true_eq, decide_eq_false_iff_not] at h
  obtain ⟨⟨⟨h1, h2⟩, h3⟩, h4⟩ := h
  exact ⟨blkOk_by h1, h2, h3, h4⟩
section
variable {X : Cx} {pins : List (Addr × Obj)} {σ : L2.St} {H : Hp} {s : Shared}
theorem gen_start {scope : Scope} {own : List (Str × Nat)} {fp : List Addr} {A : Around} {a : Addr} {go : Obj} {s5 : Shared} {bi : Addr} {code : Value} {m : Str → Option Value} (I : Inv X pins σ H s) (ok : GenOk X.N X.env.scope scope own) (hN : X.N.Nodup)
    (hfp : ∀ b ∈ fp, FpOk X pins H b ∧ b < s.heap.objs.size) (hA : A.handled = none) (hfr : A.frames = some (genEnv scope (cloFrom X.env.cells scope.names []) s.heap.objs.size code bi X.env :: X.stack)) (hbi : bi = builtinsNs)
    (os : s5.os = s.os) (bare : AllBare s5.gens) (kp : ∀ b o, s.heap.get? b = some o → s5.heap.get? b = some o) (ns : s5.heap.Ns s.heap.objs.size m) (ha : s.heap.objs.size < a) (hgo : s5.heap.get? a = some go) (hgd : ∀ v, go.data ≠ .cell v) :
    Inv (gxCx X A s H (genEnv scope (cloFrom X.env.cells scope.names []) s.heap.objs.size code bi X.env) fp [(a, go)]) [] (wipe σ (own.map (·.2))) H s5 := by
  have hfree : ∀ y ∈ scope.names, y.2 = .free → ∃ c, X.env.cells.lookup y.1 = some c := fun y hy e => by
    rcases ok.blk.free y hy e with k | k
    · exact I.ok.has _ (.inl k)
    · exact I.ok.has _ (.inr k)
  have cm : ∀ {y c}, (cloFrom X.env.cells scope.names []).lookup y = some c → X.env.cells.lookup y = some c := fun {y c} e => by
    rcases cloFrom_mem (PySem.mem_of_lookup e) with hm | ⟨h1, h2⟩
    · cases hm
    · obtain ⟨c1, hc⟩ := hfree _ h1 rfl
      have hc : X.env.cells.lookup y = some c1 := hc
      have e2 : c = c1 := by
        rw [h2, hc] <;> rfl
      rw [e2]
      exact hc
  have look : ∀ {y}, scope.names.lookup y = some .free → ∃ c, (cloFrom X.env.cells scope.names []).lookup y = some c := fun {y} hl => by
    have hy : (y, NameKind.free) ∈ scope.names := PySem.mem_of_lookup hl
    exact mem_lookup (cloFrom_has (cells := X.env.cells) (acc := []) hy)
  have cellLt : ∀ {y c}, X.env.cells.lookup y = some c → c < s.heap.objs.size := fun {y c} e => by
    obtain ⟨w, z⟩ := I.cell y c e
    exact z.lt
  have okG : (gxCx X A s H (genEnv scope (cloFrom X.env.cells scope.names []) s.heap.objs.size code bi X.env) fp [(a, go)]).Ok := by
    refine ⟨I.ok.mod, ok.blk.kind, I.ok.glob, hbi, Nat.le_refl _, fun y z c e1 e2 => I.ok.inj y z c (cm e1) (cm e2), fun y hy => ?_, fun y c z _ => ?_, fun _ => hA, hfr, .inr ⟨rfl, rfl⟩,
      fun b hb => ⟨Nat.ne_of_lt (hfp b hb).2, fun y c e z => (hfp b hb).1.2.2.2.2.1 y c (cm e) z⟩, I.bs, Nat.le_trans I.ok.bsz I.sz, fun b o e hb => ?_, fun b hb z => ?_, I.stack, I.stkFree⟩
    · have hy : scope.names.lookup y = some .cell ∨ scope.names.lookup y = some .free := hy
      rcases hy with hy | hy
      · exact absurd rfl (ok.cell _ (PySem.mem_of_lookup hy))
      · exact look hy
    · have z : false = true := z
      cases z
    · rcases (hfp b hb).1.2.2.2.1 with z | z
      · exact I.ok.noex b o e z
      · exact absurd (Nat.lt_of_lt_of_le (Heap.lt_size e) (Nat.le_trans I.ok.bsz z)) (Nat.lt_irrefl _)
    · rcases List.mem_cons.mp (I.stkSub b z) with z | z
      · exact (hfp b hb).1.2.1 z
      · exact (hfp b hb).1.2.2.1 z
  refine ⟨okG, os, bare, Un.kept kp, ⟨m, ns, fun i y v e1 e2 e3 => ?_⟩, fun y c e => ?_, I.hok.fresh (Nat.le_refl _), fun y c e => I.freeC y c (cm e), fun p hp => ?_, I.hok.kept kp, by rw [wipe_length]; exact I.len⟩
  · obtain ⟨e2, hne⟩ := wipe_some e2
    have e3 : Vis scope y := e3
    have no : ¬ scope.names.lookup y = some .local := fun e => by
      rcases ok.blk.own _ (PySem.mem_of_lookup e) (.inl rfl) with e' | e'
      · obtain ⟨p, hp, hpy⟩ := List.mem_map.mp e'
        have e4 := ok.blk.ix p hp
        have hpy : p.1 = y := hpy
        rw [hpy] at e4
        exact hne (List.mem_map.mpr ⟨p, hp, nodup_ix hN e4 e1⟩)
      · exact e' (List.mem_of_getElem? e1)
    rcases e3 with k | k | k
    · exact absurd k no
    · exact absurd rfl (ok.cell _ (PySem.mem_of_lookup k))
    · obtain ⟨m0, hn0, hl⟩ := I.loc
      have hvis : Vis X.env.scope y := (ok.blk.free _ (PySem.mem_of_lookup k) rfl).elim (fun k => .inr (.inl k)) (fun k => .inr (.inr k))
      obtain ⟨w', r, q⟩ := hl i y v e1 e2 hvis
      obtain ⟨c2, h2⟩ := look k
      refine ⟨w', r, .inr ⟨.inr k, c2, h2, ?_⟩⟩
      have c1 := cm h2
      rcases q with ⟨k', _⟩ | ⟨_, c3, e', z⟩
      · have k' : X.env.scope.names.lookup y = some .local := k'
        rcases ok.blk.free _ (PySem.mem_of_lookup k) rfl with k2 | k2 <;> rw [show X.env.scope.names.lookup y = _ from k2] at k' <;> cases k'
      · rw [c1] at e'
        cases e'
        exact z.keeps kp
  · obtain ⟨w', z⟩ := I.cell y c (cm e)
    exact ⟨w', z.keeps kp⟩
  · have hp : p ∈ [(a, go)] := by simpa using hp
    rw [List.mem_singleton.mp hp]
    refine ⟨hgo, I.hok.fresh (Nat.le_of_lt ha), Nat.ne_of_gt ha, fun z => ?_, hgd⟩
    rcases List.mem_cons.mp (I.stkSub a z) with z | z
    · have := I.lt
      rw [← z] at this
      exact absurd (Nat.lt_trans this ha) (Nat.lt_irrefl _)
    · exact I.nofs (Nat.le_of_lt ha) z
end
/-! ### asleep -/
/-- what the consumer may do while the generator sleeps: its own objects Ss change -/
structure Slept (Ss : List Addr) (s s' : Shared) : Prop where
  os : s'.os = s.os
  bare : AllBare s'.gens
  keep : ∀ b o, b ∉ Ss → s.heap.get? b = some o → s'.heap.get? b = some o
  own : ∀ b ∈ Ss, ∀ o, s.heap.get? b = some o → ∃ o', s'.heap.get? b = some o' ∧ ∀ v, o'.data ≠ .cell v
/-- the consumer's objects: younger than the generator, none of its own -/
structure Own (Z : Cx) (Ss : List Addr) : Prop where
  old : ∀ b ∈ Ss, Z.s_0.heap.objs.size ≤ b
  loc : ∀ b ∈ Ss, b ≠ Z.env.locals
  cel : ∀ b ∈ Ss, ∀ x c, Z.env.cells.lookup x = some c → c ≠ b
  pn : ∀ b ∈ Ss, ∀ p ∈ Z.pn, p.1 ≠ b
  fs : ∀ b ∈ Ss, b ∉ Z.fs
  ex : ∀ b ∈ Ss, b ∉ Z.ex
def GI (Z : Cx) (Ss : List Addr) (σ : L2.St) (H : Hp) (s : Shared) : Prop := (∀ b ∈ Ss, ∃ o, s.heap.get? b = some o) ∧ Inv Z (pinsAt Ss s.heap) σ H s
section
variable {Z : Cx} {Ss : List Addr} {σ : L2.St} {H : Hp} {s s' : Shared}
theorem GI.woken (O : Own Z Ss) (h : GI Z Ss σ H s) (z : Slept Ss s s') : GI Z Ss σ H s' := by
  obtain ⟨ho, I⟩ := h
  have hH : ∀ b ∈ Ss, H b = none := fun b hb => by
    obtain ⟨o, e⟩ := ho b hb
    exact (I.pin (b, o) (List.mem_append_right _ (mem_pinsAt hb e))).2.1
  have hS : ∀ b ∈ Ss, ∃ o, s'.heap.get? b = some o ∧ ∀ v, o.data ≠ .cell v := fun b hb => by
    obtain ⟨o, e⟩ := ho b hb
    exact z.own b hb o e
  have I0 : Inv Z [] σ H s := I.pins_of fun p hp => nomatch hp
  have nt : ∀ b u, H b = some u → b ∉ Ss := fun b u q hb => by rw [hH b hb] at q; cases q
  obtain ⟨hh, g, d, t, o⟩ := s'
  obtain ⟨z1, z2, z3, z4⟩ := z
  have ho' : o = s.os := z1
  subst ho'
  have J : Inv Z [] σ H { s with heap := hh, gens := g, drawn := d, toks := t } := by
    refine I0.step (g' := g) (t' := t) (d' := d) (ch := Ss) (fun b hb => ⟨.inr (O.old b hb), O.loc b hb, fun x c e => O.cel b hb x c e, fun p hp => O.pn b hb p (by simpa using hp)⟩)
      (fun b ob _ _ hc q _ => z3 b ob hc q) (fun b ob _ _ hc q _ => ⟨ob.slots, z3 b ob hc q⟩) (fun _ _ _ _ n => n) (fun b ob hc q => ⟨ob, z3 b ob hc q⟩)
      (fun _ _ q => q) (fun _ _ _ q => q) (fun b ps q => ⟨#[], by rw [q]; simp⟩) (fun m hm => ?_) (fun b u q => ?_) z2
    · obtain ⟨ob, es, ep, ho, r⟩ := hm
      exact ⟨ob, es, ep, z3 _ ob (fun hb => O.loc _ hb rfl) ho, r⟩
    · refine (I0.hok b u q).stay (fun c v hc y => z3 c v ?_ y) (fun _ y => y) fun _ _ y => y
      rcases hc with y | y
      · rw [y]; exact nt b u q
      · exact nt c _ y
  refine ⟨fun b hb => let ⟨o, e, _⟩ := hS b hb; ⟨o, e⟩, J.pins_of fun p hp => ?_⟩
  obtain ⟨hb, e⟩ := of_pinsAt hp
  obtain ⟨o', e', d⟩ := hS p.1 hb
  rw [e] at e'
  cases e'
  exact ⟨e, hH _ hb, O.loc _ hb, O.fs _ hb, d⟩
/-- the consumer's objects stand as they stood -/
theorem GI.at {P0 : List (Addr × Obj)} {s0 : Shared} (h0 : ∀ b ∈ Ss, ∃ o, s0.heap.get? b = some o) (I : Inv Z (pinsAt Ss s0.heap) σ H s) : GI Z Ss σ H s ∧ ∀ b ∈ Ss, ∀ o, s0.heap.get? b = some o → s.heap.get? b = some o := by
  have k : ∀ b ∈ Ss, ∀ o, s0.heap.get? b = some o → s.heap.get? b = some o := fun b hb o e => (I.pin (b, o) (List.mem_append_right _ (mem_pinsAt hb e))).1
  refine ⟨⟨fun b hb => let ⟨o, e⟩ := h0 b hb; ⟨o, k b hb o e⟩, I.pins_of fun p hp => ?_⟩, k⟩
  obtain ⟨hb, e⟩ := of_pinsAt hp
  obtain ⟨o, e0⟩ := h0 p.1 hb
  have q := I.pin (p.1, o) (List.mem_append_right _ (mem_pinsAt hb e0))
  have e1 := q.1
  rw [e] at e1
  cases e1
  exact q
theorem GI.weak {σ' : L2.St} (h : GI Z Ss σ H s) (hl : σ'.length = σ.length) (w : ∀ (i : Nat) v, σ'[i]? = some (some v) → σ[i]? = some (some v)) : GI Z Ss σ' H s := ⟨h.1, h.2.weak hl w⟩
theorem GI.kept {h' : Heap} {t' : Nat} (h : GI Z Ss σ H s) (k : ∀ b u, s.heap.get? b = some u → h'.get? b = some u) : GI Z Ss σ H { s with heap := h', toks := t' } := by
  obtain ⟨ho, I⟩ := h
  exact (GI.at (P0 := []) (s0 := s) ho (I.kept (t' := t') k)).1
theorem GI.gens {g' : Array GenState} (h : GI Z Ss σ H s) (hb : AllBare g') : GI Z Ss σ H { s with gens := g' } :=
  ⟨h.1, ⟨h.2.ok, h.2.os, hb, h.2.base, h.2.loc, h.2.cell, h.2.free, h.2.freeC, h.2.pin, h.2.hok, h.2.len⟩⟩
end
/-! ### the protocol -/
def GR (Z : Cx) (Ss : List Addr) (σ : L2.St) (Pn : Hp → Prop) : Nat → Shared → Shared → Prop := fun n s₀ s => n = 0 ∧ (∃ H, GI Z Ss σ H s ∧ Pn H) ∧ ∀ b ∈ Ss, ∀ o, s₀.heap.get? b = some o → s.heap.get? b = some o
def GY (Z : Cx) (Ss : List Addr) (σ : L2.St) (ps : List Nat) (F : Nat → V → Prop) (Pv : Nat → Hp → Prop) : Protocol := fun n s₀ v s kap =>
  ∃ i y H, ps[ps.length - 1 - n]? = some i ∧ RelV y v ∧ F i y ∧ GI Z Ss σ H s ∧ Pv (i + 1) H ∧ (∀ b ∈ Ss, ∀ o, s₀.heap.get? b = some o → s.heap.get? b = some o) ∧ ∀ s', Slept Ss s s' → kap (.send .none) s'
/-- the turns as one reads them -/
def GenRd (J : It) (g : TG) (tt : TT) (te : TE) (vs : List Nat) (σw : L2.St) (n : Nat) (pz : Nat → Bool) (F : Nat → V → Prop) (Pv : Nat → Hp → Prop) : Prop :=
  (∀ i H, i < n → Pv i H → J.go i H ∧ ∀ x H', J.yld i H x H' → g x σw H' fun σ2 H2 => wipe σ2 vs = σw ∧ tt σ2 H2 fun b H3 => b = pz i ∧ (if b = true then te σ2 H3 fun y H4 => F i y ∧ Pv (i + 1) H4 else Pv (i + 1) H3)) ∧ ∀ H, Pv n H → J.stop n H
section
variable {Z : Cx} {Ss : List Addr} {elt tg iter : Expr} {ifs : List Expr} {scope : Scope} {pos : Pos} {it : Addr} {fp : List Addr} {tn : Nat → Heap → Prop} {J : It} {g : TG} {tt : TT} {te : TE} {vs : List Nat} {σ : L2.St} {n : Nat} {pz : Nat → Bool} {F : Nat → V → Prop} {Pv : Nat → Hp → Prop} {A : Around}
theorem seg_loop (O : Own Z Ss) (hov : Z.A = A.over (.compLoop (.GeneratorExp elt [⟨tg, iter, ifs, 0⟩] scope pos) 0 (.ref it) .none Z.env) []) (hc : Z.calm = true) (hx : Z.xe = fun _ _ => False) (hex : Z.ex = fp) (hpf : ∀ p ∈ Z.pn, p.1 ∉ fp) (hco : Z.env.scope.isCoroutine = false)
    (T : Turn Z.prog Z.w Z.K tg J fp it tn) (pg : PG Z tg g) (pt : PTs Z ifs tt) (pe : PE Z elt te) (rd : GenRd J g tt te vs (wipe σ vs) n pz F Pv) :
    ∀ (k i : Nat) (s₀ s : Shared) (H : Hp), n - i = k → i ≤ n → GI Z Ss (wipe σ vs) H s → tn i s.heap → (∀ b ∈ fp, H b = none) → Pv i H → (∀ b ∈ Ss, ∀ o, s₀.heap.get? b = some o → s.heap.get? b = some o) →
      Seg (model Z.prog Z.w) A (fun n' s₀ r s₁ => r = .ok .next ∧ GR Z Ss (wipe σ vs) (Pv n) n' s₀ s₁) (GY Z Ss (wipe σ vs) (passing pz n 0) F Pv) (passing pz n i).length s₀
        (.compLoop (.GeneratorExp elt [⟨tg, iter, ifs, 0⟩] scope pos) 0 (.ref it) .none Z.env)
        ((model Z.prog Z.w).den (.compLoop (.GeneratorExp elt [⟨tg, iter, ifs, 0⟩] scope pos) 0 (.ref it) .none Z.env)) [] s := by
  have stat : ∀ {σ' : L2.St} {H' : Hp} {s' : Shared} {pins : List (Addr × Obj)}, Inv Z pins σ' H' s' → (∀ p ∈ pins, p.1 ∉ fp) → (∀ b ∈ fp, H' b = none) → ∀ b ∈ fp, FpOk Z pins H' b := fun {σ' H' s' pins} I' hp hn b hb =>
    ⟨hn b hb, (I'.ok.exf b (hex ▸ hb)).1, I'.ok.exfs b (hex ▸ hb), .inl (hex ▸ hb), fun x c e => (I'.ok.exf b (hex ▸ hb)).2 x c e, fun p hp' z => (List.mem_append.mp hp').elim (fun q => hpf p q (z ▸ hb)) fun q => hp p q (z ▸ hb)⟩
  have npS : ∀ h : Heap, ∀ p ∈ pinsAt Ss h, p.1 ∉ fp := fun h p hp q => O.ex p.1 (of_pinsAt hp).1 (hex ▸ q)
  intro k
  induction k with
  | zero =>
    intro i s₀ s H hk hi hG st hn hP hS
    have hin : i = n := by omega
    subst hin
    show Seg _ A _ _ _ s₀ _ ((compTurn (.GeneratorExp elt [⟨tg, iter, ifs, 0⟩] scope pos) 0 (.ref it) .none Z.env).onRaise (leaving Z.env)) [] s
    rw [compTurn_gen, Sem.onRaise_eq_wrap]
    refine seg_bind_wrap (wpAny_standAt ?_)
    refine seg_bind_wrap ?_
    rw [← hov]
    refine thnF (T.done Z rfl rfl rfl hc i (pinsAt Ss s.heap) s (wipe σ vs) H (fun _ _ => False) hG.2 (stat hG.2 (npS _) hn) st (rd.2 H hP)) fun r s1 hr => ?_
    obtain ⟨er, I1⟩ := hr
    subst er
    obtain ⟨G1, k1⟩ := GI.at (P0 := []) hG.1 I1
    exact seg_end (.ok .next) ⟨rfl, by rw [passing_end]; rfl, ⟨H, G1, hP⟩, fun b hb o e => k1 b hb o (hS b hb o e)⟩
  | succ k ih =>
    intro i s₀ s H hk hi hG st hn hP hS
    have hlt : i < n := by omega
    obtain ⟨go, step⟩ := rd.1 i H hlt hP
    show Seg _ A _ _ _ s₀ _ ((compTurn (.GeneratorExp elt [⟨tg, iter, ifs, 0⟩] scope pos) 0 (.ref it) .none Z.env).onRaise (leaving Z.env)) [] s
    rw [compTurn_gen, Sem.onRaise_eq_wrap]
    refine seg_bind_wrap (wpAny_standAt ?_)
    refine seg_bind_wrap ?_
    rw [← hov]
    refine thnF (T.item Z rfl rfl rfl hc i (pinsAt Ss s.heap) s (wipe σ vs) H (fun _ _ => False) hG.2 (stat hG.2 (npS _) hn) st go) fun r s6 hr => ?_
    obtain ⟨u, er, h6⟩ := hr
    subst er
    refine seg_bind_wrap ?_
    rw [← hov]
    refine thnF h6 fun _ s7 h7 => ?_
    obtain ⟨x, H7, I7, r7, y7, st7, n7⟩ := h7
    have I7' := I7.pinned (stat I7 (npS _) n7) (T.obj _ _ st7)
    refine seg_bind_wrap ?_
    rw [← hov]
    have q8 := pg.run _ s7 _ H7 x u _ I7' r7 (step x H7 y7)
    rw [hx] at q8
    refine thnF q8 fun _ s8 h8 => ?_
    obtain ⟨σ8, H8, I8, hw8, q8⟩ := h8
    refine seg_bind_wrap ?_
    rw [← hov]
    have q9 := pt.run _ s8 σ8 H8 _ I8 q8
    rw [hx] at q9
    refine thnF q9 fun b s9 h9 => ?_
    obtain ⟨H9, I9, eb, q9⟩ := h9
    have fin : ∀ {s' : Shared} {H' : Hp}, Inv Z (pinsAt Ss s.heap ++ pinsAt fp s7.heap) σ8 H' s' → GI Z Ss (wipe σ vs) H' s' ∧ tn (i + 1) s'.heap ∧ (∀ b ∈ fp, H' b = none) ∧ ∀ b ∈ Ss, ∀ o, s₀.heap.get? b = some o → s'.heap.get? b = some o := fun {s' H'} I' => by
      have pin' : ∀ b ∈ fp, ∀ o, s7.heap.get? b = some o → s'.heap.get? b = some o ∧ H' b = none := fun b hb o e =>
        let z := I'.pin (b, o) (List.mem_append_right _ (List.mem_append_right _ (mem_pinsAt hb e)))
        ⟨z.1, z.2.1⟩
      have hl : (wipe σ vs).length = σ8.length := by rw [← hw8, wipe_length]
      have I2 : Inv Z (pinsAt Ss s.heap) (wipe σ vs) H' s' := (I'.unpinned).weak hl fun j v e => by
        rw [← hw8] at e
        exact (wipe_some e).1
      obtain ⟨G2, k2⟩ := GI.at (P0 := []) hG.1 I2
      refine ⟨G2, T.keep _ _ _ st7 fun b hb o e => (pin' b hb o e).1, fun b hb => ?_, fun b hb o e => k2 b hb o (hS b hb o e)⟩
      obtain ⟨o, e, _⟩ := T.obj _ _ st7 b hb
      exact (pin' b hb o e).2
    subst eb
    cases hpz : pz i with
    | false =>
      rw [hpz] at q9
      rw [passing_false hlt hpz]
      simp only [Bool.false_eq_true, if_false] at q9 ⊢
      obtain ⟨G2, t2, n2, k2⟩ := fin I9
      exact seg_again rfl (ih (i + 1) s₀ s9 H9 (by omega) hlt G2 t2 n2 q9 k2)
    | true =>
      rw [hpz] at q9
      rw [passing_true hlt hpz, List.length_cons]
      simp only [if_true] at q9 ⊢
      have hy : ∀ v, yieldOut Z.env v = yieldValue v := fun v => by simp only [yieldOut, hco, Bool.false_eq_true, if_false]
      simp only [hy]
      rw [Sem.bind_eq_wrap', Sem.bind_eq_wrap', Sem.wrap_wrap, Sem.wrap_wrap]
      refine seg_wrap ?_
      rw [← hov]
      have q10 := pe.run _ s9 σ8 H9 _ I9 q9
      rw [hx] at q10
      refine thnF q10 fun z s10 h10 => ?_
      obtain ⟨yv, H10, I10, r10, hF, hP2⟩ := h10
      obtain ⟨G2, t2, n2, k2⟩ := fin I10
      refine seg_at (seg_yield rfl rfl rfl ⟨i, yv, H10, passing_here hlt hpz, r10, hF, G2, hP2, k2, fun s'' z => ?_⟩)
      refine seg_again rfl (ih (i + 1) s'' s'' H10 (by omega) hlt (G2.woken O z) (T.keep _ _ _ t2 fun b hb o e => z.keep b o (fun hS => O.ex b hS (hex ▸ hb)) e) n2 hP2 fun _ _ _ e => e)
theorem seg_start (O : Own Z Ss) (hov : Z.A = A.over (.compLoop (.GeneratorExp elt [⟨tg, iter, ifs, 0⟩] scope pos) 0 (.ref it) .none Z.env) []) (hc : Z.calm = true) (hx : Z.xe = fun _ _ => False) (hex : Z.ex = fp) (hpf : ∀ p ∈ Z.pn, p.1 ∉ fp) (hco : Z.env.scope.isCoroutine = false)
    (T : Turn Z.prog Z.w Z.K tg J fp it tn) (pg : PG Z tg g) (pt : PTs Z ifs tt) (pe : PE Z elt te) (rd : GenRd J g tt te vs (wipe σ vs) n pz F Pv) (s₀ s : Shared) (H : Hp) (hG : GI Z Ss (wipe σ vs) H s) (st : tn 0 s.heap) (hn : ∀ b ∈ fp, H b = none) (hP : Pv 0 H)
    (hS : ∀ b ∈ Ss, ∀ o, s₀.heap.get? b = some o → s.heap.get? b = some o) :
      Seg (model Z.prog Z.w) A (fun n' s₀ r s₁ => r = .ok .next ∧ GR Z Ss (wipe σ vs) (Pv n) n' s₀ s₁) (GY Z Ss (wipe σ vs) (passing pz n 0) F Pv) (passing pz n 0).length s₀
        (.compStart (.GeneratorExp elt [⟨tg, iter, ifs, 0⟩] scope pos) 0 (.ref it) .none Z.env)
        ((model Z.prog Z.w).den (.compStart (.GeneratorExp elt [⟨tg, iter, ifs, 0⟩] scope pos) 0 (.ref it) .none Z.env)) [] s := by
  have loop := seg_loop O hov hc hx hex hpf hco T pg pt pe rd n 0 s₀ s H (Nat.sub_zero _) (Nat.zero_le _) hG st hn hP hS
  show Seg _ A _ _ _ s₀ _ ((compStart (.GeneratorExp elt [⟨tg, iter, ifs, 0⟩] scope pos) 0 (.ref it) .none Z.env).onRaise (leaving Z.env)) [] s
  unfold compStart
  rw [Sem.onRaise_eq_wrap]
  show Seg _ A _ _ _ s₀ _ ((ask >>= _).wrap _ _ _ _) [] s
  refine seg_bind_wrap (wpAny_askSetting ?_)
  split
  · exact seg_again rfl loop
  · first
      | exact seg_bind_wrap (wpAny_rule (seg_bind_wrap (wpAny_standAt (seg_bind_wrap (T.self _ 0 s _ _ st (seg_again rfl loop))))))
      | (refine seg_bind_wrap (wpAny_rule ?_); show Seg _ A _ _ _ s₀ _ ((standAt iter.pos >>= _).wrap _ _ _ _) [] s; exact seg_bind_wrap (wpAny_standAt (seg_bind_wrap (T.self _ 0 s _ _ st (seg_again rfl loop)))))
end
/-! ### the walked generator -/
theorem Slept.refl {Ss : List Addr} {s : Shared} (hb : AllBare s.gens) (h : ∀ b ∈ Ss, ∀ o, s.heap.get? b = some o → ∀ v, o.data ≠ .cell v) : Slept Ss s s := ⟨rfl, hb, fun _ _ _ e => e, fun b hb' o e => ⟨o, e, h b hb' o e⟩⟩
theorem Slept.trans {Ss : List Addr} {s s1 s2 : Shared} (x : Slept Ss s s1) (y : Slept Ss s1 s2) : Slept Ss s s2 :=
  ⟨y.os.trans x.os, y.bare, fun b o hb e => y.keep b o hb (x.keep b o hb e), fun b hb o e => let ⟨o1, e1, _⟩ := x.own b hb o e; y.own b hb o1 e1⟩
theorem GI.plain {Z : Cx} {Ss : List Addr} {σ : L2.St} {H : Hp} {s : Shared} (G : GI Z Ss σ H s) : ∀ b ∈ Ss, ∀ o, s.heap.get? b = some o → ∀ v, o.data ≠ .cell v := fun b hb o e => (G.2.pin (b, o) (List.mem_append_right _ (mem_pinsAt hb e))).2.2.2.2
theorem bare_setGen {s : Shared} {g : Nat} {x : GenState} (h : AllBare s.gens) (hx : x.bare = true) : AllBare (s.setGen g x).gens := by
  intro y hy
  obtain ⟨i, hi⟩ := Array.mem_iff_getElem?.mp hy
  have hi : (s.gens.setIfInBounds g x)[i]? = some y := hi
  rw [Array.getElem?_setIfInBounds] at hi
  split at hi
  · split at hi
    · cases hi; exact hx
    · cases hi
  · exact h y (Array.mem_of_getElem? hi)
def AtG (Z : Cx) (A : Around) (Ss : List Addr) (σ : L2.St) (ps : List Nat) (F : Nat → V → Prop) (Pv : Nat → Hp → Prop) (n g j : Nat) (s : Shared) : Prop :=
  ∃ i H, GI Z Ss σ H s ∧ Pv i H ∧ ∃ gs, s.gens[g]? = some gs ∧ ∀ s'', Slept Ss s s'' → gs.Goes (model Z.prog Z.w) A (fun n' s₀ r s₁ => r = .ok .next ∧ GR Z Ss σ (Pv n) n' s₀ s₁) (GY Z Ss σ ps F Pv) (ps.length - j) (.send .none) s''
section
variable {Z : Cx} {A0 : Around} {Ss : List Addr} {σ : L2.St} {ps : List Nat} {F : Nat → V → Prop} {Pv : Nat → Hp → Prop} {n g j : Nat} {s : Shared} {a : Addr} {go : Obj} {E : Value → Shared → Prop}
theorem AtG.slept {s' : Shared} (O : Own Z Ss) (h : AtG Z A0 Ss σ ps F Pv n g j s) (z : Slept Ss s s') (hg : s'.gens = s.gens) : AtG Z A0 Ss σ ps F Pv n g j s' := by
  obtain ⟨i, H, G, hP, gs, hgs, hgo⟩ := h
  exact ⟨i, H, G.woken O z, hP, gs, by rw [hg]; exact hgs, fun s'' z' => hgo s'' (z.trans z')⟩
theorem g_item {Q : Option Value → Shared → Prop} (hpn : (a, go) ∈ Z.pn) (hgo : ∀ h : Heap, h.get? a = some go → h.IsGen a g) (hh : A0.handled = none) (hroom : A0.depth < recursionLimit) (hj : j < ps.length) (st : AtG Z A0.in1 Ss σ ps F Pv n g j s)
    (hQ : ∀ v s' i y, ps[j]? = some i → RelV y v → F i y → AtG Z A0.in1 Ss σ ps F Pv n g (j + 1) s' → (∀ b ∈ Ss, ∀ o, s.heap.get? b = some o → s'.heap.get? b = some o) → Q (some v) s') :
    wpAny (model Z.prog Z.w) A0 (pyNext (.ref a)) Q E s := by
  obtain ⟨i0, H, G, hP, gs, hgs, hgoes⟩ := st
  have hg : s.heap.IsGen a g := hgo _ (G.2.pin (a, go) (List.mem_append_left _ hpn)).1
  have hlt : g < s.gens.size := (Array.getElem?_eq_some_iff.mp hgs).1
  obtain ⟨m, hm⟩ : ∃ m, ps.length - j = m + 1 := ⟨ps.length - j - 1, by omega⟩
  rw [hm] at hgoes
  have zr : Slept Ss s (s.setGen g .running) := ⟨rfl, bare_setGen G.2.bare rfl, fun _ _ _ e => e, fun b hb o e => ⟨o, e, G.plain b hb o e⟩⟩
  refine GenW.wpAny_gsz (n := g + 1) hlt ?_
  refine wpAny_pyNext_genexpQ (P := GR Z Ss σ (Pv n)) hh G.2.nolimit hroom hg hgs (hgoes _ zr) (fun v s₁ gs' hb hv => ?_) (fun s₁ hp h' hk => absurd hp.1 (Nat.succ_ne_zero m))
  obtain ⟨i, y, H1, hi, ry, hF, G1, hP1, hS, kap⟩ := hv
  intro hsz
  have hidx : ps.length - 1 - (m + 1 - 1) = j := by omega
  rw [hidx] at hi
  have hsz' : g < s₁.gens.size := by
    have : g + 1 ≤ (s₁.setGen g gs').gens.size := hsz
    rw [GenW.setGen_size] at this
    exact this
  have hs1 : (s₁.setGen g gs').gens[g]? = some gs' := by simp [Shared.setGen, hsz']
  refine hQ v _ i y hi ry hF ⟨i + 1, H1, G1.gens (bare_setGen G1.2.bare hb), hP1, gs', hs1, fun s'' z => ?_⟩ hS
  have e : ps.length - (j + 1) = m := by omega
  rw [e]
  exact kap s'' ⟨z.os, z.bare, z.keep, z.own⟩
theorem g_done {Q : Option Value → Shared → Prop} (hpn : (a, go) ∈ Z.pn) (hgo : ∀ h : Heap, h.get? a = some go → h.IsGen a g) (hh : A0.handled = none) (hroom : A0.depth < recursionLimit) (st : AtG Z A0.in1 Ss σ ps F Pv n g ps.length s)
    (hQ : ∀ s' H, GI Z Ss σ H s' → Pv n H → (∀ b ∈ Ss, ∀ o, s.heap.get? b = some o → s'.heap.get? b = some o) → Q none s') :
    wpAny (model Z.prog Z.w) A0 (pyNext (.ref a)) Q E s := by
  obtain ⟨i0, H, G, hP, gs, hgs, hgoes⟩ := st
  have hg : s.heap.IsGen a g := hgo _ (G.2.pin (a, go) (List.mem_append_left _ hpn)).1
  rw [Nat.sub_self] at hgoes
  have zr : Slept Ss s (s.setGen g .running) := ⟨rfl, bare_setGen G.2.bare rfl, fun _ _ _ e => e, fun b hb o e => ⟨o, e, G.plain b hb o e⟩⟩
  refine wpAny_pyNext_genexpQ (P := GR Z Ss σ (Pv n)) hh G.2.nolimit hroom hg hgs (hgoes _ zr) (fun v s₁ gs' hb hv => ?_) (fun s₁ hp h' hk => ?_)
  · obtain ⟨i, y, H1, hi, ry, hF, G1, hP1, hS, kap⟩ := hv
    exact False.elim (kap s₁ (Slept.refl G1.2.bare G1.plain))
  · obtain ⟨_, ⟨H1, G1, hP1⟩, hS⟩ := hp
    have G2 : GI Z Ss σ H1 (s₁.setGen g .finished) := G1.gens (bare_setGen G1.2.bare rfl)
    exact hQ _ H1 (G2.kept (t' := (s₁.setGen g .finished).toks) hk) hP1 fun b hb o e => hk b o (hS b hb o e)
end
/-! ### any, all, sum -/
section
variable {Z : Cx} {A0 : Around} {σ : L2.St} {ps : List Nat} {f : Nat → Bool} {fi : Nat → Int} {Pv : Nat → Hp → Prop} {n g : Nat} {a : Addr} {go : Obj} {R : Result → Shared → Prop}
theorem any_go (hpn : (a, go) ∈ Z.pn) (hgo : ∀ h : Heap, h.get? a = some go → h.IsGen a g) (hh : A0.handled = none) (hroom : A0.depth < recursionLimit) : ∀ (k j : Nat) (s : Shared), ps.length - j = k → j ≤ ps.length → AtG Z A0.in1.in1 [] σ ps (fun i y => y = .bl (f i)) Pv n g j s →
    (∀ s' i H, GI Z [] σ H s' → Pv i H → R (.ok (.ret (.bool ((ps.drop j).any f)))) s') → codeAny (model Z.prog Z.w) A0 (.builtin "any.loop" ⟨[.ref a], []⟩) R s := by
  intro k
  induction k with
  | zero =>
    intro j s hk hj st hR
    have e : j = ps.length := by omega
    subst e
    refine codeAny_builtin PySem.F.entry_any_loop ?_
    rw [Around.under_plainId PySem.F.plain_any_loop _]
    show wpAny _ A0.in1 (pyNext (.ref a) >>= _) _ _ s
    refine wpAny_bind (g_done (A0 := A0.in1) hpn hgo hh hroom st fun s' H G hP _ => ?_)
    refine wpAny_bind (wpAny_rule (wpAny_pure ?_))
    have := hR s' n H G hP
    rw [List.drop_length] at this
    exact this
  | succ k ih =>
    intro j s hk hj st hR
    have hlt : j < ps.length := by omega
    refine codeAny_builtin PySem.F.entry_any_loop ?_
    rw [Around.under_plainId PySem.F.plain_any_loop _]
    show wpAny _ A0.in1 (pyNext (.ref a) >>= _) _ _ s
    refine wpAny_bind (g_item (A0 := A0.in1) hpn hgo hh hroom hlt st fun v s' i y hi ry hF st' _ => ?_)
    subst hF
    obtain rfl : v = Value.bool (f i) := ry
    have hd : ps.drop j = i :: ps.drop (j + 1) := by
      rw [List.drop_eq_getElem_cons hlt]
      congr 1
      rw [List.getElem?_eq_getElem hlt] at hi
      exact Option.some.inj hi
    refine wpAny_bind (wpAny_holding (wpAny_truthy_bool ?_))
    refine wpAny_bind (wpAny_letGo ?_)
    cases hb : f i with
    | false =>
      simp only [Bool.false_eq_true, if_false]
      refine wpAny_pure ⟨plainId_quiet PySem.F.plain_any_loop _, ih (j + 1) s' (by omega) hlt st' fun s'' i' H' G' hP' => ?_⟩
      have := hR s'' i' H' G' hP'
      rw [hd, List.any_cons, hb, Bool.false_or] at this
      exact this
    | true =>
      simp only [if_true]
      refine wpAny_bind (wpAny_rule (wpAny_pure ?_))
      obtain ⟨i', H', G', hP', _⟩ := st'
      have := hR s' i' H' G' hP'
      rw [hd, List.any_cons, hb, Bool.true_or] at this
      exact this
theorem all_go (hpn : (a, go) ∈ Z.pn) (hgo : ∀ h : Heap, h.get? a = some go → h.IsGen a g) (hh : A0.handled = none) (hroom : A0.depth < recursionLimit) : ∀ (k j : Nat) (s : Shared), ps.length - j = k → j ≤ ps.length → AtG Z A0.in1.in1 [] σ ps (fun i y => y = .bl (f i)) Pv n g j s →
    (∀ s' i H, GI Z [] σ H s' → Pv i H → R (.ok (.ret (.bool ((ps.drop j).all f)))) s') → codeAny (model Z.prog Z.w) A0 (.builtin "all.loop" ⟨[.ref a], []⟩) R s := by
  intro k
  induction k with
  | zero =>
    intro j s hk hj st hR
    have e : j = ps.length := by omega
    subst e
    refine codeAny_builtin PySem.F.entry_all_loop ?_
    rw [Around.under_plainId PySem.F.plain_all_loop _]
    show wpAny _ A0.in1 (pyNext (.ref a) >>= _) _ _ s
    refine wpAny_bind (g_done (A0 := A0.in1) hpn hgo hh hroom st fun s' H G hP _ => ?_)
    refine wpAny_bind (wpAny_rule (wpAny_pure ?_))
    have := hR s' n H G hP
    rw [List.drop_length] at this
    exact this
  | succ k ih =>
    intro j s hk hj st hR
    have hlt : j < ps.length := by omega
    refine codeAny_builtin PySem.F.entry_all_loop ?_
    rw [Around.under_plainId PySem.F.plain_all_loop _]
    show wpAny _ A0.in1 (pyNext (.ref a) >>= _) _ _ s
    refine wpAny_bind (g_item (A0 := A0.in1) hpn hgo hh hroom hlt st fun v s' i y hi ry hF st' _ => ?_)
    subst hF
    obtain rfl : v = Value.bool (f i) := ry
    have hd : ps.drop j = i :: ps.drop (j + 1) := by
      rw [List.drop_eq_getElem_cons hlt]
      congr 1
      rw [List.getElem?_eq_getElem hlt] at hi
      exact Option.some.inj hi
    refine wpAny_bind (wpAny_holding (wpAny_truthy_bool ?_))
    refine wpAny_bind (wpAny_letGo ?_)
    cases hb : f i with
    | true =>
      simp only [if_true]
      refine wpAny_pure ⟨plainId_quiet PySem.F.plain_all_loop _, ih (j + 1) s' (by omega) hlt st' fun s'' i' H' G' hP' => ?_⟩
      have := hR s'' i' H' G' hP'
      rw [hd, List.all_cons, hb, Bool.true_and] at this
      exact this
    | false =>
      simp only [Bool.false_eq_true, if_false]
      refine wpAny_bind (wpAny_rule (wpAny_pure ?_))
      obtain ⟨i', H', G', hP', _⟩ := st'
      have := hR s' i' H' G' hP'
      rw [hd, List.all_cons, hb, Bool.false_and] at this
      exact this
/-- the sum of the first j -/
def preS (ps : List Nat) (fi : Nat → Int) (j : Nat) : Int := ((ps.take j).map fi).sum
theorem preS_succ {j i : Nat} (hi : ps[j]? = some i) : preS ps fi (j + 1) = preS ps fi j + fi i := by
  unfold preS
  rw [List.take_add_one, hi, List.map_append, List.sum_append]
  simp
theorem sum_go {S : Addr} (O : Own Z [S]) (hpn : (a, go) ∈ Z.pn) (hgo : ∀ h : Heap, h.get? a = some go → h.IsGen a g) (hh : A0.handled = none) (hroom : A0.depth < recursionLimit) (hfit : ∀ j i, ps[j]? = some i → InLong (fi i) ∧ InLong (preS ps fi (j + 1))) :
    ∀ (k j : Nat) (s : Shared) (tA : Tok) (c : Nat), ps.length - j = k → j ≤ ps.length → AtG Z A0.in1.in1 [S] σ ps (fun i y => y = .int (fi i)) Pv n g j s → s.heap.get? S = some { cls := .type "list", dict := none, data := .seq #[.int (preS ps fi j) tA] c, slots := #[] } →
    (∀ s' H t', GI Z [S] σ H s' → Pv n H → R (.ok (.ret (.int (preS ps fi ps.length) t'))) s') → codeAny (model Z.prog Z.w) A0 (.builtin "sum.loop" ⟨[.ref a, .ref S, rawInt 0, rawInt 0], []⟩) R s := by
  intro k
  induction k with
  | zero =>
    intro j s tA c hk hj st hS hR
    have e : j = ps.length := by omega
    subst e
    refine codeAny_builtin PySem.F.entry_sum_loop ?_
    rw [Around.under_plainId PySem.F.plain_sum_loop _]
    show wpAny _ A0.in1 (seqItems? (.ref S) >>= _) _ _ s
    refine wpAny_bind (wpAny_seqItems hS rfl ?_)
    show wpAny _ A0.in1 (tryCatch (pyNext (.ref a)) _ >>= _) _ _ s
    refine wpAny_bind (wpAny_tryCatch (g_done (A0 := A0.in1) hpn hgo hh hroom st fun s' H G hP _ => ?_))
    exact wpAny_pure (hR s' H tA G hP)
  | succ k ih =>
    intro j s tA c hk hj st hS hR
    have hlt : j < ps.length := by omega
    refine codeAny_builtin PySem.F.entry_sum_loop ?_
    rw [Around.under_plainId PySem.F.plain_sum_loop _]
    show wpAny _ A0.in1 (seqItems? (.ref S) >>= _) _ _ s
    refine wpAny_bind (wpAny_seqItems hS rfl ?_)
    show wpAny _ A0.in1 (tryCatch (pyNext (.ref a)) _ >>= _) _ _ s
    refine wpAny_bind (wpAny_tryCatch (g_item (A0 := A0.in1) hpn hgo hh hroom hlt st fun v s' i y hi ry hF st' kS => ?_))
    subst hF
    obtain ⟨t, rfl⟩ := (show ∃ t, v = Value.int (fi i) t from ry)
    have hS' := kS S List.mem_cons_self _ hS
    obtain ⟨⟨f1, f2⟩, f3, f4⟩ := hfit j i hi
    rw [preS_succ hi] at f3 f4
    have hc : ((decide (-(2 ^ 63) ≤ fi i) && decide (fi i < 2 ^ 63)) && (decide (-(2 ^ 63) ≤ preS ps fi j + fi i) && decide (preS ps fi j + fi i < 2 ^ 63))) = true := by
      simp only [Bool.and_eq_true, decide_eq_true_eq]
      exact ⟨⟨f1, f2⟩, f3, f4⟩
    show wpAny _ A0.in1 (if (_ : Bool) = true then (mkInt (preS ps fi j + fi i) >>= _) else _) _ _ _
    split
    · rw [← preS_succ hi]
      refine wpAny_bind (wpAny_mkInt ?_)
      show wpAny _ A0.in1 (updateSeq S (fun _ => #[.int (preS ps fi (j + 1)) s'.toks]) >>= _) _ _ _
      refine wpAny_bind ?_
      refine wpAny_updateSeq hS' rfl (wpAny_pure ⟨plainId_quiet PySem.F.plain_sum_loop _, ih (j + 1) _ s'.toks _ (by omega) hlt (st'.slept O ⟨rfl, ?_, fun b o hb e => ?_, fun b hb o e => ?_⟩ rfl) (Heap.get?_update_self _ hS' rfl) hR⟩)
      · obtain ⟨_, _, G, _⟩ := st'
        exact G.2.bare
      · exact (Heap.get?_update_other _ _ (fun h : S = b => hb (by rw [h]; exact List.mem_cons_self))).trans e
      · have eb : b = S := List.mem_singleton.mp hb
        subst eb
        exact ⟨_, Heap.get?_update_self _ hS' rfl, fun v q => by cases q⟩
    · rename_i hneg
      exact absurd hc hneg
end
/-! ### the expression -/
section
variable {X : Cx} {T : List (Addr × Str)}
/-- a generator that was made: how it is walked, how one comes back -/
structure Made (X : Cx) (pins : List (Addr × Obj)) (σ σw : L2.St) (n : Nat) (ps : List Nat) (F : Nat → V → Prop) (Pv : Nat → Hp → Prop) (a : Addr) (s5 : Shared) : Prop where
  ex : ∃ (Z : Cx) (go : Obj) (g : Nat), Z.prog = X.prog ∧ Z.w = X.w ∧ (a, go) ∈ Z.pn ∧ (∀ h : Heap, h.get? a = some go → h.IsGen a g) ∧ s5.heap.IsGen a g ∧ (∀ Ss : List Addr, (∀ b ∈ Ss, s5.heap.objs.size ≤ b) → Own Z Ss) ∧
    (∀ (Ss : List Addr) (s' : Shared), (∀ b ∈ Ss, s5.heap.objs.size ≤ b) → (∀ b ∈ Ss, ∃ o, s'.heap.get? b = some o ∧ ∀ v, o.data ≠ .cell v) → s'.os = s5.os → s'.gens = s5.gens → (∀ b o, s5.heap.get? b = some o → s'.heap.get? b = some o) → AtG Z X.A.in1.in1 Ss σw ps F Pv n g 0 s') ∧
    (∀ (Ss : List Addr) (σ' : L2.St) (H' : Hp) (s' : Shared), GI Z Ss σ' H' s' → Inv X pins σ H' s')
def tGenM (T : List (Addr × Str)) (wi : TI) (g : TG) (tt : TT) (te : TE) (vs : List Nat) (σ : L2.St) (H : Hp) (Rs : Nat → (Nat → Bool) → (Nat → V → Prop) → (Nat → Hp → Prop) → Prop) : Prop :=
  wi σ H fun J H1 => LamX.Tabs T H1 ∧ ∀ H2, LamX.ExtN H1 H2 → LamX.Tabs T H2 → ∃ n pz F Pv, Pv 0 H2 ∧ GenRd J g tt te vs (wipe σ vs) n pz F Pv ∧ Rs n pz F Pv
theorem no_eq {a b : Nat} (h : a + 2 ≤ b) (z : b = a) : False := by omega
theorem no_eq1 {a b : Nat} (h : a + 1 ≤ b) (z : a = b) : False := by omega
theorem no_lt {a b : Nat} (h : a + 2 ≤ b) (z : b < a) : False := by omega
theorem gen_mk {pins : List (Addr × Obj)} {σ : L2.St} {H : Hp} {s : Shared} {c P : Addr} {elt tg iter : Expr} {ifs : List Expr} {scope : Scope} {own : List (Str × Nat)} {gpos : Pos} {wi : TI} {g : TG} {tt : TT} {te : TE} {k : Nat} {Q' : Value → Shared → Prop} {Rs : Nat → (Nat → Bool) → (Nat → V → Prop) → (Nat → Hp → Prop) → Prop}
    (hr : Room (k + 1) X.A) (TB : LamX.TabB X.base X.mg c P) (hcode : X.env.code = .ref c) (hmT : (P, X.env.qual ++ "<genexpr>") ∈ T) (hu : ∀ p ∈ T, p.1 = P → p.2 = X.env.qual ++ "<genexpr>") (ok : GenOk X.N X.env.scope scope own) (hN : X.N.Nodup) (hi : PI X tg iter wi)
    (hg : ∀ (A : Around) (s : Shared) (H : Hp) (C : Addr) (cd : Value) (fp : List Addr) (pn : List (Addr × Obj)), PG (gxCx X A s H (genEnv scope (cloFrom X.env.cells scope.names []) C cd builtinsNs X.env) fp pn) tg g)
    (ht : ∀ (A : Around) (s : Shared) (H : Hp) (C : Addr) (cd : Value) (fp : List Addr) (pn : List (Addr × Obj)), Room k A → PTs (gxCx X A s H (genEnv scope (cloFrom X.env.cells scope.names []) C cd builtinsNs X.env) fp pn) ifs tt)
    (he : ∀ (A : Around) (s : Shared) (H : Hp) (C : Addr) (cd : Value) (fp : List Addr) (pn : List (Addr × Obj)), Room k A → PE (gxCx X A s H (genEnv scope (cloFrom X.env.cells scope.names []) C cd builtinsNs X.env) fp pn) elt te)
    (hs : ∀ v, genFold iter X.env v = pure v) (I : Inv X pins σ H s) (h : tGenM T wi g tt te (own.map (·.2)) σ H Rs)
    (hQ : ∀ n pz F Pv a s5, Rs n pz F Pv → Made X pins σ (wipe σ (own.map (·.2))) n (passing pz n 0) F Pv a s5 → Q' (.ref a) s5) :
    wpAny (model X.prog X.w) X.A (eval (.GeneratorExp elt [⟨tg, iter, ifs, 0⟩] scope gpos) X.env) Q' X.xe s := by
  have hfree : ∀ y ∈ scope.names, y.2 = .free → ∃ c, X.env.cells.lookup y.1 = some c := fun y hy e => by
    rcases ok.blk.free y hy e with k | k
    · exact I.ok.has _ (.inl k)
    · exact I.ok.has _ (.inr k)
  refine wpAny_GeneratorExp_make ok.co (closure_ok hfree) ok.cell ok.dot ok.blk.kind (by have := hr.dp; omega) ?_ hs
  refine thn (hi.run pins s σ H _ I h) fun xv s1 hx => thn hx fun itv s2 h2 => ?_
  obtain ⟨it, fp, tn, J, H2, e, I2, Tn, st2, f2, T2, q⟩ := h2
  subst e
  refine ⟨I2.nolimit, ?_⟩
  obtain ⟨ps, hP, htr, ha⟩ := T2 _ hmT
  have hPs : s2.heap.get? P = some { cls := .none, data := .fields ps } := I2.hok P _ hP
  have cd : PySem.W.CodeHd s2.heap c P := TB.code.keeps I2.bk
  have cont : ∀ (code : Value) (h3 : Heap) (tk : Nat) (H3 : Hp), Inv X pins σ H3 { s2 with heap := h3, toks := tk } → LamX.ExtN H2 H3 → LamX.Tabs T H3 → (∀ b o, b ≠ P → s2.heap.get? b = some o → h3.get? b = some o) → s2.heap.objs.size ≤ h3.objs.size →
      (∀ b, b < s2.heap.objs.size → H2 b = none → H3 b = none) →
      wpAny (model X.prog X.w) X.A (builtinsFor X.env.globals X.env.builtins) (fun bi s₄ =>
        ∀ h', h'.Ns s₄.heap.objs.size (fun y => if y = ".0" then some (.ref it) else none) → Heap.SameBut s₄.heap.objs.size (s₄.heap.push { cls := .type "frame", data := .dict #[] }) h' →
          Q' (.ref h'.objs.size) { s₄ with
            gens := s₄.gens.push (.fresh (.compStart (.GeneratorExp elt [⟨tg, iter, ifs, 0⟩] scope gpos) 0 (.ref it) .none (genEnv scope (cloFrom X.env.cells scope.names []) s₄.heap.objs.size code bi X.env))),
            toks := s₄.toks + 1 + 1 + 1,
            heap := h'.push { cls := .type "generator", data := .fields #[.int s₄.gens.size 0, .str "<genexpr>" (s₄.toks + 1), .str (X.env.qual ++ "<genexpr>") (s₄.toks + 1 + 1)] } }) X.xe { s2 with heap := h3, toks := tk } := by
    intro code h3 tk H3 I3 eN T3 kp3 hsz h23
    obtain ⟨bm, ob, e1, e2, e3, e4, e5, e6, e7, e8⟩ := TB.bm
    refine wpAny_builtinsFor (m := X.mg) (by rw [I3.ok.glob]; exact I3.mod.glob.keeps I3.bk) e1 e2 (I3.bk _ _ e5) e6 e7 e8 ?_
    intro h' hn' hs'
    obtain ⟨n, pz, F, Pv, p0, rd, hRs⟩ := q H3 eN T3
    generalize hs4 : ({ s2 with heap := h3, toks := tk } : Shared) = s4 at I3 hn' hs' ⊢
    have h4 : s4.heap = h3 := by rw [← hs4]
    have szh : h'.objs.size = s4.heap.objs.size + 1 := by rw [hs'.1, Heap.size_push]
    generalize hgo : ({ cls := .type "generator", data := .fields #[.int s4.gens.size 0, .str "<genexpr>" (s4.toks + 1), .str (X.env.qual ++ "<genexpr>") (s4.toks + 1 + 1)] } : Obj) = go
    have keep' : ∀ b o, s4.heap.get? b = some o → h'.get? b = some o := fun b o e => hs'.extBut b o (Nat.ne_of_lt (Heap.lt_size e)) (Heap.get?_push_of_some _ e)
    have keep5 : ∀ b o, s4.heap.get? b = some o → (h'.push go).get? b = some o := fun b o e => Heap.get?_push_of_some _ (keep' b o e)
    have hgp : ∀ h : Heap, (h.push go).get? h.objs.size = some go := fun h => Heap.get?_push_size _ (by rw [← hgo]; rfl)
    have hgen : ∀ h : Heap, ∀ a, h.get? a = some go → h.IsGen a s4.gens.size := fun h a e => ⟨go, _, _, e, by rw [← hgo], by rw [← hgo], by rw [← hgo]⟩
    have hgd : ∀ v, go.data ≠ .cell v := fun v z => by rw [← hgo] at z; cases z
    have f4 : ∀ b ∈ fp, FpOk X pins H3 b ∧ b < s4.heap.objs.size := fun b hb => by
      obtain ⟨o, e, _⟩ := Tn.obj _ _ st2 b hb
      have hlt := Heap.lt_size e
      exact ⟨⟨h23 b hlt (f2 b hb).1, (f2 b hb).2⟩, by rw [h4]; exact Nat.lt_of_lt_of_le hlt hsz⟩
    have nP : ∀ b ∈ fp, b ≠ P := fun b hb z => by
      have := (f2 b hb).1
      rw [z, hP] at this
      cases this
    have st4 : tn 0 s4.heap := Tn.keep _ _ _ st2 fun b hb o e => by rw [h4]; exact kp3 b o (nP b hb) e
    have roomG : ∀ env : Env, Room k (X.A.in1.in1.deeper env) := fun env => ⟨hr.hd, by have := hr.dp; show X.A.depth + 1 + 3 * k + 5 < _; omega, by have := hr.un; show X.A.units + 1 + 1 + 3 + 16 * k + 200 < _; omega⟩
    have ownP : ∀ Ss : List Addr, (∀ b ∈ Ss, (h'.push go).objs.size ≤ b) → Own (gxCx X (X.A.in1.in1.deeper (genEnv scope (cloFrom X.env.cells scope.names []) s4.heap.objs.size code builtinsNs X.env)) s4 H3 (genEnv scope (cloFrom X.env.cells scope.names []) s4.heap.objs.size code builtinsNs X.env) fp [(h'.objs.size, go)]) Ss := fun Ss hSs => by
      have young : ∀ b ∈ Ss, h'.objs.size + 1 ≤ b := fun b hb => by
        have := hSs b hb
        have e : (h'.push go).objs.size = h'.objs.size + 1 := Heap.size_push ..
        rw [← e]; exact this
      have lt4 : ∀ b ∈ Ss, s4.heap.objs.size + 2 ≤ b := fun b hb => by have := young b hb; rw [szh] at this; exact this
      refine ⟨fun b hb => Nat.le_trans (Nat.le_add_right _ 2) (lt4 b hb), fun b hb z => no_eq (lt4 b hb) z, fun b hb x c e z => ?_, fun b hb p hp z => ?_, fun b hb z => ?_, fun b hb z => no_lt (lt4 b hb) (f4 b z).2⟩
      · have e : (cloFrom X.env.cells scope.names []).lookup x = some c := e
        rcases cloFrom_mem (PySem.mem_of_lookup e) with hm | ⟨hy, hc⟩
        · cases hm
        · obtain ⟨c1, hc1⟩ := hfree _ hy rfl
          have hc1 : X.env.cells.lookup x = some c1 := hc1
          obtain ⟨w, zz⟩ := I3.cell x c1 hc1
          have e2 : c = c1 := by
            rw [hc, hc1] <;> rfl
          refine no_lt (lt4 b hb) ?_
          rw [← z, e2]
          exact zz.lt
      · rw [List.mem_singleton.mp hp] at z
        exact no_eq1 (young b hb) z
      · have z : b ∈ frs X.stack := z
        rcases List.mem_cons.mp (I3.stkSub b z) with z | z
        · have q := I3.lt
          rw [← z] at q
          exact no_lt (lt4 b hb) q
        · exact I3.nofs (Nat.le_trans (Nat.le_add_right _ 2) (lt4 b hb)) z
    refine hQ n pz F Pv h'.objs.size _ hRs ⟨gxCx X (X.A.in1.in1.deeper (genEnv scope (cloFrom X.env.cells scope.names []) s4.heap.objs.size code builtinsNs X.env)) s4 H3 (genEnv scope (cloFrom X.env.cells scope.names []) s4.heap.objs.size code builtinsNs X.env) fp [(h'.objs.size, go)], go, s4.gens.size, rfl, rfl, List.mem_singleton.mpr rfl,
      fun h e => hgen h _ e, hgen _ _ (hgp h'), fun Ss hSs => ownP Ss hSs, fun Ss s' hSs hSo hos hgs hk => ?_, fun Ss σ' H' s' G => ?_⟩
    · have hown := ownP Ss hSs
      have kp5 : ∀ b o, s4.heap.get? b = some o → s'.heap.get? b = some o := fun b o e => hk b o (keep5 b o e)
      have hb' : AllBare s'.gens := by rw [hgs]; exact AllBare.push I3.bare rfl
      have ns' : s'.heap.Ns s4.heap.objs.size (fun y => if y = ".0" then some (.ref it) else none) := by
        obtain ⟨o, es, ep, ho, r⟩ := hn'
        exact ⟨o, es, ep, hk _ o (Heap.get?_push_of_some _ ho), r⟩
      have J := gen_start (A := X.A.in1.in1.deeper (genEnv scope (cloFrom X.env.cells scope.names []) s4.heap.objs.size code builtinsNs X.env)) (a := h'.objs.size) (go := go) (s5 := s') (bi := builtinsNs) (code := code) I3 ok hN f4 hr.hd
        (by show (X.A.frames).map _ = _; rw [I3.ok.frames]; rfl) rfl hos hb' kp5 ns' (by rw [szh]; exact Nat.lt_succ_self _) (hk _ _ (hgp h')) hgd
      have G : GI (gxCx X (X.A.in1.in1.deeper (genEnv scope (cloFrom X.env.cells scope.names []) s4.heap.objs.size code builtinsNs X.env)) s4 H3 (genEnv scope (cloFrom X.env.cells scope.names []) s4.heap.objs.size code builtinsNs X.env) fp [(h'.objs.size, go)]) Ss (wipe σ (own.map (·.2))) H3 s' := by
        refine ⟨fun b hb => let ⟨o, e, _⟩ := hSo b hb; ⟨o, e⟩, J.pins_of fun p hp => ?_⟩
        obtain ⟨hb, e⟩ := of_pinsAt hp
        obtain ⟨o', e', d⟩ := hSo p.1 hb
        rw [e] at e'
        cases e'
        have h1 := hown.old _ hb
        exact ⟨e, I3.hok.fresh h1, hown.loc _ hb, hown.fs _ hb, d⟩
      refine ⟨0, H3, G, p0, .fresh (.compStart (.GeneratorExp elt [⟨tg, iter, ifs, 0⟩] scope gpos) 0 (.ref it) .none (genEnv scope (cloFrom X.env.cells scope.names []) s4.heap.objs.size code builtinsNs X.env)), by rw [hgs]; exact Array.getElem?_push_size .., fun s'' z => ⟨rfl, ?_⟩⟩
      refine seg_start (A := X.A.in1.in1) (vs := own.map (·.2)) hown ?_ rfl rfl rfl (fun p hp hb => ?_) ok.co Tn (hg _ _ _ _ _ _ _) (ht _ _ _ _ _ _ _ (roomG _)) (he _ _ _ _ _ _ _ (roomG _)) rd s'' s'' H3 (G.woken hown z) ?_ (fun b hb => (f4 b hb).1.1) p0 fun _ _ _ e => e
      · first
          | rfl
          | (simp [Around.over, Around.deeper, marksOver, frameCount, unitsOf, envsOf, guardsOf, pushEnvs, pushGuards, Code.envs, Code.env?, Code.isFrame, Code.guards, Code.isGuard, Code.weight, Code.frames, Code.isCreation, Code.isCaller, Code.cUnits])
      · rw [List.mem_singleton.mp hp] at hb
        have q := (f4 _ hb).2
        have q : h'.objs.size < s4.heap.objs.size := q
        rw [szh] at q
        exact Nat.lt_irrefl _ (Nat.lt_of_succ_lt q)
      · refine Tn.keep _ _ _ st4 fun b hb o e => z.keep b o (fun hS => hown.ex b hS hb) (kp5 b o e)
    · obtain ⟨_, I'⟩ := G
      exact I3.call' (ch := fp) I'.os I'.base I'.hok I'.bare fun b hb => ⟨(f4 b hb).1.2.2.2.1, (f4 b hb).1.2.1, (f4 b hb).1.2.2.2.2.1, (f4 b hb).1.2.2.2.2.2⟩
  cases hf : codeAmong gpos ps.toList with
  | none =>
    refine wpAny_genexprCodeX hcode (cd.code hPs htr) (cd.tab hPs) hf fun c' h' tk hx hge hlt hco' hrec htab' _ => ?_
    obtain ⟨c2, oc, vs, t, e2, hoc, hd, hv⟩ := hrec
    cases e2
    have nC : H2 c' = none := I2.hok.fresh hge
    have hsz : s2.heap.objs.size ≤ h'.objs.size := Nat.le_trans hge (Nat.le_of_lt hlt)
    have I3 := LamX.inv_table (t' := tk) (more := #[rawInt gpos.line, rawInt gpos.col, .ref c']) (h' := h') I2 hP hx htab'.2 hge ⟨oc, vs, t, hoc, hd, hv⟩
    have hE : LamX.ExtN H2 (upd (upd H2 P (.tbl (ps ++ #[rawInt gpos.line, rawInt gpos.col, .ref c']))) c' (LamX.CodeO c' (X.env.qual ++ "<genexpr>"))) := fun b o e n => by
      rw [upd_ne (ne_of_none e nC), upd_ne (fun z => n ps (Option.some.inj (e.symm.trans (by rw [z]; exact hP))))]
      exact e
    have eL : (ps ++ #[rawInt gpos.line, rawInt gpos.col, .ref c']).toList = ps.toList ++ [rawInt gpos.line, rawInt gpos.col, .ref c'] := by simp
    refine cont _ h' tk _ I3 hE (fun p hp => ?_) hx hsz (fun b hb e => ?_)
    · by_cases hb : p.1 = P
      · rw [hu p hp hb, hb]
        refine ⟨_, by rw [upd_ne (ne_of_none hP nC), upd_same], by rw [eL]; exact PySem.TriplesOk_snoc _ _ _ _ htr, fun p' cv hcv => ?_⟩
        rw [eL] at hcv
        rcases LamX.among_app _ htr hcv with z | z
        · obtain ⟨c0, e1, e2⟩ := ha p' cv z
          exact ⟨c0, e1, hE _ _ e2 LamX.codeO_ne⟩
        · exact ⟨c', z, upd_same⟩
      · obtain ⟨ps', a1, a2, a3⟩ := T2 p hp
        refine ⟨ps', by rw [upd_ne (ne_of_none a1 nC), upd_ne hb]; exact a1, a2, fun p' cv hcv => ?_⟩
        obtain ⟨c0, e1, e2⟩ := a3 p' cv hcv
        exact ⟨c0, e1, hE _ _ e2 LamX.codeO_ne⟩
    · have hbc : b ≠ c' := fun z => by
        rw [z] at hb
        exact Nat.lt_irrefl _ (Nat.lt_of_lt_of_le hb hge)
      have hbP : b ≠ P := fun z => by
        rw [z, hP] at e
        cases e
      rw [upd_ne hbc, upd_ne hbP]
      exact e
  | some cv =>
    refine wpAny_genexprCode_hit hcode (cd.code hPs htr) hf ?_
    exact cont cv s2.heap s2.toks H2 I2 (LamX.ExtN.refl H2) T2 (fun _ _ _ e => e) (Nat.le_refl _) fun _ _ e => e
end
end Gx

/-! The layer Dh, part L: any, all, sum of a generator expression or a list: rules, readings, goals over chunks. -/
namespace Gx
open PySem PySem.Spec PyProof.Rows L2
section
variable {X : Cx} {T : List (Addr × Str)}
def rsAny (Q : VK) : Nat → (Nat → Bool) → (Nat → V → Prop) → (Nat → Hp → Prop) → Prop := fun n pz F Pv => ∃ f : Nat → Bool, F = (fun i y => y = .bl (f i)) ∧ ∀ i H', Pv i H' → Q (.bl ((passing pz n 0).any f)) H'
def rsAll (Q : VK) : Nat → (Nat → Bool) → (Nat → V → Prop) → (Nat → Hp → Prop) → Prop := fun n pz F Pv => ∃ f : Nat → Bool, F = (fun i y => y = .bl (f i)) ∧ ∀ i H', Pv i H' → Q (.bl ((passing pz n 0).all f)) H'
def rsSum (Q : VK) : Nat → (Nat → Bool) → (Nat → V → Prop) → (Nat → Hp → Prop) → Prop := fun n pz F Pv => ∃ f : Nat → Int, F = (fun i y => y = .int (f i)) ∧ (∀ j i, (passing pz n 0)[j]? = some i → InLong (f i) ∧ InLong (preS (passing pz n 0) f (j + 1))) ∧ ∀ i H', Pv i H' → Q (.int ((passing pz n 0).map f).sum) H'
def lGen (T : List (Addr × Str)) (g : TG) (tt : TT) (te : TE) (vs : List Nat) (σ : L2.St) (Rs : Nat → (Nat → Bool) → (Nat → V → Prop) → (Nat → Hp → Prop) → Prop) (J : It) (H1 : Hp) : Prop :=
  LamX.Tabs T H1 ∧ ∀ H2, LamX.ExtN H1 H2 → LamX.Tabs T H2 → ∃ n pz F Pv, Pv 0 H2 ∧ GenRd J g tt te vs (wipe σ vs) n pz F Pv ∧ Rs n pz F Pv
def tAnyG (T : List (Addr × Str)) (wi : TI) (g : TG) (tt : TT) (te : TE) (vs : List Nat) : TE := fun σ H Q => wi σ H (lGen T g tt te vs σ (rsAny Q))
def tAllG (T : List (Addr × Str)) (wi : TI) (g : TG) (tt : TT) (te : TE) (vs : List Nat) : TE := fun σ H Q => wi σ H (lGen T g tt te vs σ (rsAll Q))
def tSumG (T : List (Addr × Str)) (wi : TI) (g : TG) (tt : TT) (te : TE) (vs : List Nat) : TE := fun σ H Q => wi σ H (lGen T g tt te vs σ (rsSum Q))
theorem pe_anyG {c P : Addr} {elt tg iter : Expr} {ifs : List Expr} {scope : Scope} {own : List (Str × Nat)} {p pos gpos : Pos} {wi : TI} {g : TG} {tt : TT} {te : TE} {k j : Nat} {qn : Str}
    (hr : Room j X.A) (hk : k + 1 ≤ j) (hgl : Gl X "any") (hm : X.mg "any" = none) (TB : LamX.TabB X.base X.mg c P) (hcode : X.env.code = .ref c) (hq : X.env.qual = qn) (hmT : (P, qn ++ "<genexpr>") ∈ T) (hu : ∀ p ∈ T, p.1 = P → p.2 = qn ++ "<genexpr>") (ok : GenOk X.N X.env.scope scope own) (hN : X.N.Nodup) (hi : PI X tg iter wi)
    (hg : ∀ (A : Around) (s : Shared) (H : Hp) (C : Addr) (cd : Value) (fp : List Addr) (pn : List (Addr × Obj)), PG (gxCx X A s H (genEnv scope (cloFrom X.env.cells scope.names []) C cd builtinsNs X.env) fp pn) tg g)
    (ht : ∀ (A : Around) (s : Shared) (H : Hp) (C : Addr) (cd : Value) (fp : List Addr) (pn : List (Addr × Obj)), Room k A → PTs (gxCx X A s H (genEnv scope (cloFrom X.env.cells scope.names []) C cd builtinsNs X.env) fp pn) ifs tt)
    (he : ∀ (A : Around) (s : Shared) (H : Hp) (C : Addr) (cd : Value) (fp : List Addr) (pn : List (Addr × Obj)), Room k A → PE (gxCx X A s H (genEnv scope (cloFrom X.env.cells scope.names []) C cd builtinsNs X.env) fp pn) elt te)
    (hs : ∀ v, genFold iter X.env v = pure v := by intro _; rfl)
    (hst : starEach [.GeneratorExp elt [⟨tg, iter, ifs, 0⟩] scope gpos] X.env = (false, eval (.GeneratorExp elt [⟨tg, iter, ifs, 0⟩] scope gpos) X.env) :: starEach [] X.env := by rfl) :
    PE X (.Call (.Name "any" p) [.GeneratorExp elt [⟨tg, iter, ifs, 0⟩] scope gpos] [] pos) (tAnyG T wi g tt te (own.map (·.2))) := by
  subst hq
  refine ⟨fun pins s σ H Q I h => ?_⟩
  refine wpAny_Call_Name_kw (ld_blt I hgl hm PyProof.Rows.boot_any ?_)
  refine PyProof.Rows.callWith_builtin1 ?_ hst (by rfl)
  rw [hst]
  show wpAny _ _ (spliced ((false, eval (.GeneratorExp elt [⟨tg, iter, ifs, 0⟩] scope gpos) X.env) :: backTo pos (starEach [] X.env))) _ _ s
  refine Calls.spliced_cons (gen_mk (hr.mono hk) TB hcode hmT hu ok hN hi hg ht he hs I (Rs := rsAny Q) h fun n pz F Pv a s5 hRs M => ?_)
  refine Calls.spliced_nil ?_
  obtain ⟨f, rfl, hq⟩ := hRs
  obtain ⟨Z, go, gg, e1, e2, hpn, hgo, hg5, hown, hat, hback⟩ := M.ex
  have A0 := hat [] s5 (by simp) (by simp) rfl rfl fun _ _ e => e
  refine call_function_tree PySem.F.kind_any PySem.F.plain_any PySem.F.entry_any (PySem.F.args_any1 _) ?_
  unfold Builtin.«any»
  refine wpAny_bind (m := oneArg "any" _) (wpAny_pure ?_)
  refine wpAny_bind (wpAny_pyIter_gen hg5 ?_)
  rw [← e1, ← e2]
  refine wpAny_pure ⟨plainId_quiet PySem.F.plain_any_loop _, any_go hpn hgo hr.hd (by have := hr.dp; omega) _ 0 s5 rfl (Nat.zero_le _) A0 fun s' i H' G hP => ?_⟩
  rw [List.drop_zero]
  exact ⟨.bl _, H', hback [] _ H' s' G, rfl, hq i H' hP⟩
theorem pe_allG {c P : Addr} {elt tg iter : Expr} {ifs : List Expr} {scope : Scope} {own : List (Str × Nat)} {p pos gpos : Pos} {wi : TI} {g : TG} {tt : TT} {te : TE} {k j : Nat} {qn : Str}
    (hr : Room j X.A) (hk : k + 1 ≤ j) (hgl : Gl X "all") (hm : X.mg "all" = none) (TB : LamX.TabB X.base X.mg c P) (hcode : X.env.code = .ref c) (hq : X.env.qual = qn) (hmT : (P, qn ++ "<genexpr>") ∈ T) (hu : ∀ p ∈ T, p.1 = P → p.2 = qn ++ "<genexpr>") (ok : GenOk X.N X.env.scope scope own) (hN : X.N.Nodup) (hi : PI X tg iter wi)
    (hg : ∀ (A : Around) (s : Shared) (H : Hp) (C : Addr) (cd : Value) (fp : List Addr) (pn : List (Addr × Obj)), PG (gxCx X A s H (genEnv scope (cloFrom X.env.cells scope.names []) C cd builtinsNs X.env) fp pn) tg g)
    (ht : ∀ (A : Around) (s : Shared) (H : Hp) (C : Addr) (cd : Value) (fp : List Addr) (pn : List (Addr × Obj)), Room k A → PTs (gxCx X A s H (genEnv scope (cloFrom X.env.cells scope.names []) C cd builtinsNs X.env) fp pn) ifs tt)
    (he : ∀ (A : Around) (s : Shared) (H : Hp) (C : Addr) (cd : Value) (fp : List Addr) (pn : List (Addr × Obj)), Room k A → PE (gxCx X A s H (genEnv scope (cloFrom X.env.cells scope.names []) C cd builtinsNs X.env) fp pn) elt te)
    (hs : ∀ v, genFold iter X.env v = pure v := by intro _; rfl)
    (hst : starEach [.GeneratorExp elt [⟨tg, iter, ifs, 0⟩] scope gpos] X.env = (false, eval (.GeneratorExp elt [⟨tg, iter, ifs, 0⟩] scope gpos) X.env) :: starEach [] X.env := by rfl) :
    PE X (.Call (.Name "all" p) [.GeneratorExp elt [⟨tg, iter, ifs, 0⟩] scope gpos] [] pos) (tAllG T wi g tt te (own.map (·.2))) := by
  subst hq
  refine ⟨fun pins s σ H Q I h => ?_⟩
  refine wpAny_Call_Name_kw (ld_blt I hgl hm PyProof.Rows.boot_all ?_)
  refine PyProof.Rows.callWith_builtin1 ?_ hst (by rfl)
  rw [hst]
  show wpAny _ _ (spliced ((false, eval (.GeneratorExp elt [⟨tg, iter, ifs, 0⟩] scope gpos) X.env) :: backTo pos (starEach [] X.env))) _ _ s
  refine Calls.spliced_cons (gen_mk (hr.mono hk) TB hcode hmT hu ok hN hi hg ht he hs I (Rs := rsAll Q) h fun n pz F Pv a s5 hRs M => ?_)
  refine Calls.spliced_nil ?_
  obtain ⟨f, rfl, hq⟩ := hRs
  obtain ⟨Z, go, gg, e1, e2, hpn, hgo, hg5, hown, hat, hback⟩ := M.ex
  have A0 := hat [] s5 (by simp) (by simp) rfl rfl fun _ _ e => e
  refine call_function_tree PySem.F.kind_all PySem.F.plain_all PySem.F.entry_all (PySem.F.args_all1 _) ?_
  unfold Builtin.«all»
  refine wpAny_bind (m := oneArg "all" _) (wpAny_pure ?_)
  refine wpAny_bind (wpAny_pyIter_gen hg5 ?_)
  rw [← e1, ← e2]
  refine wpAny_pure ⟨plainId_quiet PySem.F.plain_all_loop _, all_go hpn hgo hr.hd (by have := hr.dp; omega) _ 0 s5 rfl (Nat.zero_le _) A0 fun s' i H' G hP => ?_⟩
  rw [List.drop_zero]
  exact ⟨.bl _, H', hback [] _ H' s' G, rfl, hq i H' hP⟩
theorem pe_sumG {c P : Addr} {elt tg iter : Expr} {ifs : List Expr} {scope : Scope} {own : List (Str × Nat)} {p pos gpos : Pos} {wi : TI} {g : TG} {tt : TT} {te : TE} {k j : Nat} {qn : Str}
    (hr : Room j X.A) (hk : k + 1 ≤ j) (hgl : Gl X "sum") (hm : X.mg "sum" = none) (TB : LamX.TabB X.base X.mg c P) (hcode : X.env.code = .ref c) (hq : X.env.qual = qn) (hmT : (P, qn ++ "<genexpr>") ∈ T) (hu : ∀ p ∈ T, p.1 = P → p.2 = qn ++ "<genexpr>") (ok : GenOk X.N X.env.scope scope own) (hN : X.N.Nodup) (hi : PI X tg iter wi)
    (hg : ∀ (A : Around) (s : Shared) (H : Hp) (C : Addr) (cd : Value) (fp : List Addr) (pn : List (Addr × Obj)), PG (gxCx X A s H (genEnv scope (cloFrom X.env.cells scope.names []) C cd builtinsNs X.env) fp pn) tg g)
    (ht : ∀ (A : Around) (s : Shared) (H : Hp) (C : Addr) (cd : Value) (fp : List Addr) (pn : List (Addr × Obj)), Room k A → PTs (gxCx X A s H (genEnv scope (cloFrom X.env.cells scope.names []) C cd builtinsNs X.env) fp pn) ifs tt)
    (he : ∀ (A : Around) (s : Shared) (H : Hp) (C : Addr) (cd : Value) (fp : List Addr) (pn : List (Addr × Obj)), Room k A → PE (gxCx X A s H (genEnv scope (cloFrom X.env.cells scope.names []) C cd builtinsNs X.env) fp pn) elt te)
    (hs : ∀ v, genFold iter X.env v = pure v := by intro _; rfl)
    (hst : starEach [.GeneratorExp elt [⟨tg, iter, ifs, 0⟩] scope gpos] X.env = (false, eval (.GeneratorExp elt [⟨tg, iter, ifs, 0⟩] scope gpos) X.env) :: starEach [] X.env := by rfl) :
    PE X (.Call (.Name "sum" p) [.GeneratorExp elt [⟨tg, iter, ifs, 0⟩] scope gpos] [] pos) (tSumG T wi g tt te (own.map (·.2))) := by
  subst hq
  refine ⟨fun pins s σ H Q I h => ?_⟩
  refine wpAny_Call_Name_kw (ld_blt I hgl hm PyProof.Rows.boot_sum ?_)
  refine PyProof.Rows.callWith_builtin1 ?_ hst (by rfl)
  rw [hst]
  show wpAny _ _ (spliced ((false, eval (.GeneratorExp elt [⟨tg, iter, ifs, 0⟩] scope gpos) X.env) :: backTo pos (starEach [] X.env))) _ _ s
  refine Calls.spliced_cons (gen_mk (hr.mono hk) TB hcode hmT hu ok hN hi hg ht he hs I (Rs := rsSum Q) h fun n pz F Pv a s5 hRs M => ?_)
  refine Calls.spliced_nil ?_
  obtain ⟨f, rfl, hfit, hq⟩ := hRs
  obtain ⟨Z, go, gg, e1, e2, hpn, hgo, hg5, hown, hat, hback⟩ := M.ex
  refine call_function_tree PySem.F.kind_sum PySem.F.plain_sum PySem.F.entry_sum (PySem.F.args_sum1 _) ?_
  unfold Builtin.«sum»
  simp only [List.length_cons, List.length_nil]
  rw [if_neg (by decide)]
  refine wpAny_bind (wpAny_of_eq (show Builtin.Builtins.bindParams "sum" ["start"] 0 { } = pure [none] from rfl) ?_)
  refine wpAny_bind (wpAny_pyIter_gen hg5 ?_)
  refine wpAny_bind (wpAny_mkInt ?_)
  refine wpAny_bind (wpAny_pure ?_)
  simp only [List.forIn_cons, List.forIn_nil]
  refine wpAny_bind (wpAny_bind (wpAny_bind (wpAny_isInstance (T := "int") (b := false) (typeIs_int _ _ _) PySem.sub_int_str ?_)))
  simp only [Bool.false_eq_true, if_false]
  refine wpAny_pure (wpAny_bind (wpAny_bind (wpAny_isInstance (T := "int") (b := false) (typeIs_int _ _ _) PySem.sub_int_bytes ?_)))
  simp only [Bool.false_eq_true, if_false]
  refine wpAny_pure (wpAny_bind (wpAny_bind (wpAny_isInstance (T := "int") (b := false) (typeIs_int _ _ _) PySem.sub_int_bytearray ?_)))
  simp only [Bool.false_eq_true, if_false]
  refine wpAny_pure (wpAny_pure ?_)
  refine wpAny_bind (wpAny_newObj_type ?_)
  have hO := hown [s5.heap.objs.size] (fun b hb => Nat.le_of_eq (List.mem_singleton.mp hb).symm)
  have hS : ∀ o : Obj, o.isFreed = false → (s5.heap.push o).get? s5.heap.objs.size = some o := fun o ho => Heap.get?_push_size _ ho
  rw [← e1, ← e2]
  refine wpAny_pure ⟨plainId_quiet PySem.F.plain_sum_loop _, sum_go hO hpn hgo hr.hd (by have := hr.dp; omega) hfit _ 0 _ _ 0 rfl (Nat.zero_le _) (hat [s5.heap.objs.size] _ (fun b hb => Nat.le_of_eq (List.mem_singleton.mp hb).symm) (fun b hb => ?_) rfl rfl fun b o e => Heap.get?_push_of_some _ e) (Heap.get?_push_size _ rfl) fun s' H' t' G hP => ?_⟩
  · rw [List.mem_singleton.mp hb]
    exact ⟨_, Heap.get?_push_size _ rfl, fun v q => by cases q⟩
  · have e : preS (passing pz n 0) f (passing pz n 0).length = ((passing pz n 0).map f).sum := by unfold preS; rw [List.take_length]
    rw [e]
    exact ⟨.int _, H', hback _ _ H' s' G, ⟨t', rfl⟩, hq n H' hP⟩
end
end Gx
namespace Dh
open PySem PySem.Spec PyProof.Rows L2 Gx
/-! ### goals over chunks -/
section
variable {T : List (Addr × Str)} {L L0 A B : List HP} {σ : L2.St} {Q : VK} {K : PySem.W.Frag} {n : Nat} {te : TE} {tt : TT} {g : TG} {vs : List Nat} {a b : Addr} {xs ys : List V} {x y : V} {J : It} {G : Hp → Prop} {Y : Nat → Hp → V → Hp → Prop} {Rs : Nat → (Nat → Bool) → (Nat → V → Prop) → (Nat → Hp → Prop) → Prop} {wi : TI}
theorem g_anyE (k : Go T L fun H => wi σ H (lGen T g tt te vs σ (rsAny Q))) : Go T L fun H => tAnyG T wi g tt te vs σ H Q := k
theorem g_allE (k : Go T L fun H => wi σ H (lGen T g tt te vs σ (rsAll Q))) : Go T L fun H => tAllG T wi g tt te vs σ H Q := k
theorem g_sumE (k : Go T L fun H => wi σ H (lGen T g tt te vs σ (rsSum Q))) : Go T L fun H => tSumG T wi g tt te vs σ H Q := k
/-- the element is reckoned: y, the chunks as they were -/
def GEnd (T : List (Addr × Str)) (L0 : List HP) (z y : V) : Hp → Prop := fun H => y = z ∧ ∃ L, Ent L L0 ∧ LamX.Tabs T H ∧ Seps L H
def GSkip (T : List (Addr × Str)) (L0 : List HP) : Hp → Prop := fun H => ∃ L, Ent L L0 ∧ LamX.Tabs T H ∧ Seps L H
theorem g_gend {z : V} (hy : y = z) (e : Ent L L0) : Go T L (GEnd T L0 z y) := fun H t s => ⟨hy, L, e, t, s⟩
theorem g_gskip (e : Ent L L0) : Go T L (GSkip T L0) := fun H t s => ⟨L, e, t, s⟩
/-- a turn: the test's outcome and the element's value are told -/
def GTurn (T : List (Addr × Str)) (L0 : List HP) (g : TG) (tt : TT) (te : TE) (vs : List Nat) (σ : L2.St) (x : V) (p : Bool) (z : V) : Hp → Prop := fun H =>
  g x (wipe σ vs) H fun σ2 H2 => wipe σ2 vs = wipe σ vs ∧ tt σ2 H2 fun b H3 => b = p ∧ (if b = true then te σ2 H3 fun y H4 => GEnd T L0 z y H4 else GSkip T L0 H3)
theorem g_gturn {p : Bool} {z : V} (k : Go T L fun H => g x (wipe σ vs) H fun σ2 H2 => wipe σ2 vs = wipe σ vs ∧ tt σ2 H2 fun b H3 => b = p ∧ (if b = true then te σ2 H3 fun y H4 => GEnd T L0 z y H4 else GSkip T L0 H3)) : Go T L (GTurn T L0 g tt te vs σ x p z) := k
theorem g_genW {Pm : Nat → V → Prop} (w : Walk J n G Y) (hy : ∀ i H x H', Y i H x H' → H' = H ∧ Pm i x) (pz : Nat → Bool) (z : Nat → V) (h0 : Ent L L0) (hG : ∀ H, Seps L0 H → G H)
    (hs : ∀ i x, i < n → Pm i x → Go T L0 (GTurn T L0 g tt te vs σ x (pz i) (z i))) (hd : ∀ Pv : Nat → Hp → Prop, (∀ i H, Pv i H → GSkip T L0 H) → Rs n pz (fun i y => y = z i) Pv) : Go T L fun H => lGen T g tt te vs σ Rs J H := fun H t s =>
  ⟨t, fun H2 e t2 => ⟨n, pz, fun i y => y = z i, fun _ => GSkip T L0, ⟨L, h0, t2, s.mono fun a o h nt => e a o h fun ps z => by rw [z] at nt; cases nt⟩,
    ⟨fun i H1 hi ⟨L1, e1, t1, s1⟩ => ⟨w.goes i H1 hi (hG _ (e1 _ s1)), fun x H' yy => by
      obtain ⟨eH, px⟩ := hy _ _ _ _ (w.yields i H1 x H' hi (hG _ (e1 _ s1)) yy)
      subst eH
      exact hs i x hi px H' t1 (e1 _ s1)⟩, fun H1 ⟨L1, e1, t1, s1⟩ => w.stops H1 (hG _ (e1 _ s1))⟩, hd _ fun _ _ h => h⟩⟩
/-- .. over pairs that are made anew -/
theorem g_genP {f h : Nat → Option V} (w : Walk J n G (YPair f h)) (pz : Nat → Bool) (z : Nat → V) (h0 : Ent L L0) (hG : ∀ H, Seps L0 H → G H)
    (hs : ∀ i x y p, i < n → f i = some x → h i = some y → Go T (pt p (.tup [x, y]) :: L0) (GTurn T L0 g tt te vs σ (.ref p) (pz i) (z i))) (hd : ∀ Pv : Nat → Hp → Prop, (∀ i H, Pv i H → GSkip T L0 H) → Rs n pz (fun i y => y = z i) Pv) : Go T L fun H => lGen T g tt te vs σ Rs J H := fun H t s =>
  ⟨t, fun H2 e t2 => ⟨n, pz, fun i y => y = z i, fun _ => GSkip T L0, ⟨L, h0, t2, s.mono fun a o h nt => e a o h fun ps z => by rw [z] at nt; cases nt⟩,
    ⟨fun i H1 hi ⟨L1, e1, t1, s1⟩ => ⟨w.goes i H1 hi (hG _ (e1 _ s1)), fun v H' yy => by
      obtain ⟨q, x, y, rfl, en, rfl, hx, hy⟩ := w.yields i H1 v H' hi (hG _ (e1 _ s1)) yy
      exact hs i x y q hi hx hy _ (Tabs.new t1 en) ((e1 _ s1).new en rfl fun _ e => e)⟩, fun H1 ⟨L1, e1, t1, s1⟩ => w.stops H1 (hG _ (e1 _ s1))⟩, hd _ fun _ _ h => h⟩⟩
theorem pass_all (pz : Nat → Bool) (n : Nat) : passing pz n 0 = (List.range n).filter pz := by unfold passing; rw [List.drop_zero]
theorem rs_any {pz : Nat → Bool} {f : Nat → Bool} {Pv : Nat → Hp → Prop} (h : ∀ i H, Pv i H → GSkip T L0 H) (k : Go T L0 fun H => Q (.bl (((List.range n).filter pz).any f)) H) : rsAny Q n pz (fun i y => y = .bl (f i)) Pv :=
  ⟨f, rfl, fun i H p => by
    obtain ⟨L1, e1, t1, s1⟩ := h i H p
    rw [pass_all]
    exact k H t1 (e1 _ s1)⟩
theorem rs_all {pz : Nat → Bool} {f : Nat → Bool} {Pv : Nat → Hp → Prop} (h : ∀ i H, Pv i H → GSkip T L0 H) (k : Go T L0 fun H => Q (.bl (((List.range n).filter pz).all f)) H) : rsAll Q n pz (fun i y => y = .bl (f i)) Pv :=
  ⟨f, rfl, fun i H p => by
    obtain ⟨L1, e1, t1, s1⟩ := h i H p
    rw [pass_all]
    exact k H t1 (e1 _ s1)⟩
theorem rs_sum {pz : Nat → Bool} {f : Nat → Int} {Pv : Nat → Hp → Prop} (B : Nat) (hB : ∀ i, i < n → -(B : Int) ≤ f i ∧ f i ≤ B) (hn : n * B < 9223372036854775808) (h : ∀ i H, Pv i H → GSkip T L0 H) (k : Go T L0 fun H => Q (.int (((List.range n).filter pz).map f).sum) H) : rsSum Q n pz (fun i y => y = .int (f i)) Pv := by
  have hm : ∀ i ∈ passing pz n 0, -(B : Int) ≤ f i ∧ f i ≤ B := fun i hi => by
    rw [pass_all] at hi
    exact hB i (List.mem_range.mp (List.mem_filter.mp hi).1)
  have hl : (passing pz n 0).length ≤ n := by
    rw [pass_all]
    exact Nat.le_trans (List.length_filter_le _ _) (by rw [List.length_range]; exact Nat.le_refl _)
  have bnd : ∀ l : List Nat, (∀ i ∈ l, -(B : Int) ≤ f i ∧ f i ≤ B) → -((l.length * B : Nat) : Int) ≤ (l.map f).sum ∧ (l.map f).sum ≤ ((l.length * B : Nat) : Int) := by
    intro l
    induction l with
    | nil => intro _; simp
    | cons i l ih =>
      intro hl
      have h1 := hl i List.mem_cons_self
      have h2 := ih fun x hx => hl x (List.mem_cons_of_mem _ hx)
      rw [List.length_cons, Nat.succ_mul, List.map_cons, List.sum_cons]
      omega
  refine ⟨f, rfl, fun j i hi => ?_, fun i H p => ?_⟩
  · have h1 := hm i (List.mem_of_getElem? hi)
    have hj : j < (passing pz n 0).length := (List.getElem?_eq_some_iff.mp hi).1
    have hn1 : 1 * B ≤ n * B := Nat.mul_le_mul_right B (by omega)
    have h2 := bnd ((passing pz n 0).take (j + 1)) fun x hx => hm x (List.mem_of_mem_take hx)
    have h3 : ((passing pz n 0).take (j + 1)).length * B ≤ n * B := Nat.mul_le_mul_right B (Nat.le_trans (by rw [List.length_take]; omega) hl)
    refine ⟨⟨by omega, by omega⟩, ?_⟩
    unfold preS
    exact ⟨by omega, by omega⟩
  · obtain ⟨L1, e1, t1, s1⟩ := h i H p
    rw [pass_all]
    exact k H t1 (e1 _ s1)
theorem any_range {α : Type} (us : List α) (f : α → Bool) (d : Nat → Bool) (h : ∀ i u, us[i]? = some u → d i = f u) : (List.range us.length).any d = us.any f := by
  rw [Bool.eq_iff_iff, List.any_eq_true, List.any_eq_true]
  constructor
  · rintro ⟨i, hi, e⟩
    have hi := List.mem_range.mp hi
    exact ⟨us[i], List.getElem_mem hi, by rw [← h i _ (List.getElem?_eq_getElem hi)]; exact e⟩
  · rintro ⟨u, hu, e⟩
    obtain ⟨i, hi⟩ := List.mem_iff_getElem?.mp hu
    exact ⟨i, List.mem_range.mpr (List.getElem?_eq_some_iff.mp hi).1, by rw [h i u hi]; exact e⟩
theorem all_range {α : Type} (us : List α) (f : α → Bool) (d : Nat → Bool) (h : ∀ i u, us[i]? = some u → d i = f u) : (List.range us.length).all d = us.all f := by
  rw [Bool.eq_iff_iff, List.all_eq_true, List.all_eq_true]
  constructor
  · intro hh u hu
    obtain ⟨i, hi⟩ := List.mem_iff_getElem?.mp hu
    rw [← h i u hi]
    exact hh i (List.mem_range.mpr (List.getElem?_eq_some_iff.mp hi).1)
  · intro hh i hi
    have hi := List.mem_range.mp hi
    rw [h i _ (List.getElem?_eq_getElem hi)]
    exact hh _ (List.getElem_mem hi)
theorem filt_true (n : Nat) : (List.range n).filter (fun _ => true) = List.range n := List.filter_eq_self.mpr fun _ _ => rfl
def fAt {α : Type} (us : List α) (f : α → V) : Nat → V := fun i => match us[i]? with
  | some u => f u
  | none => .non
theorem fAt_some {α : Type} {us : List α} {f : α → V} {i : Nat} {u : α} (h : us[i]? = some u) : fAt us f i = f u := by unfold fAt; rw [h]
def bAt {α : Type} (us : List α) (f : α → Bool) : Nat → Bool := fun i => match us[i]? with
  | some u => f u
  | none => false
theorem bAt_some {α : Type} {us : List α} {f : α → Bool} {i : Nat} {u : α} (h : us[i]? = some u) : bAt us f i = f u := by unfold bAt; rw [h]
theorem any_rng {n : Nat} {f f' : Nat → Bool} (h : ∀ i, i < n → f i = f' i) : (List.range n).any f = (List.range n).any f' := by
  rw [Bool.eq_iff_iff, List.any_eq_true, List.any_eq_true]
  exact ⟨fun ⟨i, hi, e⟩ => ⟨i, hi, by rw [← h i (List.mem_range.mp hi)]; exact e⟩, fun ⟨i, hi, e⟩ => ⟨i, hi, by rw [h i (List.mem_range.mp hi)]; exact e⟩⟩
/-- any, all over a range -/
theorem g_anyR {lo : Int} (f : Nat → Bool) (h0 : Ent L L0) (hs : ∀ i, i < n → Go T L0 (GTurn T L0 g tYes te vs σ (.int (lo + i)) true (.bl (f i)))) (hd : Go T L0 fun H => Q (.bl ((List.range n).any f)) H) : Go T L fun H => lGen T g tYes te vs σ (rsAny Q) (Itr lo n) H :=
  g_genW (Pm := fun i x => x = .int (lo + i)) walk_range (fun _ _ _ _ h => h) (fun _ => true) (fun i => .bl (f i)) h0 (fun _ _ => trivial) (fun i x hi e => by subst e; exact hs i hi) fun Pv h => rs_any h (by rw [filt_true]; exact hd)
theorem g_allR {lo : Int} (f : Nat → Bool) (h0 : Ent L L0) (hs : ∀ i, i < n → Go T L0 (GTurn T L0 g tYes te vs σ (.int (lo + i)) true (.bl (f i)))) (hd : Go T L0 fun H => Q (.bl ((List.range n).all f)) H) : Go T L fun H => lGen T g tYes te vs σ (rsAll Q) (Itr lo n) H :=
  g_genW (Pm := fun i x => x = .int (lo + i)) walk_range (fun _ _ _ _ h => h) (fun _ => true) (fun i => .bl (f i)) h0 (fun _ _ => trivial) (fun i x hi e => by subst e; exact hs i hi) fun Pv h => rs_all h (by rw [filt_true]; exact hd)
theorem g_sumR {lo : Int} (f : Nat → Int) (B : Nat) (hB : ∀ i, i < n → -(B : Int) ≤ f i ∧ f i ≤ B) (hn : n * B < 9223372036854775808) (h0 : Ent L L0) (hs : ∀ i, i < n → Go T L0 (GTurn T L0 g tYes te vs σ (.int (lo + i)) true (.int (f i)))) (hd : Go T L0 fun H => Q (.int ((List.range n).map f).sum) H) : Go T L fun H => lGen T g tYes te vs σ (rsSum Q) (Itr lo n) H :=
  g_genW (Pm := fun i x => x = .int (lo + i)) walk_range (fun _ _ _ _ h => h) (fun _ => true) (fun i => .int (f i)) h0 (fun _ _ => trivial) (fun i x hi e => by subst e; exact hs i hi) fun Pv h => rs_sum B hB hn h (by rw [filt_true]; exact hd)
section
variable {α : Type} {us : List α} {gx : α → V}
theorem at_map {i : Nat} {x : V} (h : (us.map gx)[i]? = some x) : ∃ u, us[i]? = some u ∧ x = gx u := by
  rw [List.getElem?_map] at h
  obtain ⟨u, hu, rfl⟩ := Option.map_eq_some_iff.mp h
  exact ⟨u, hu, rfl⟩
/-- any, all over a list or a tuple of mapped things -/
theorem g_anyM (f : α → Bool) (w : Walk J us.length G (YAt (us.map gx))) (h0 : Ent L L0) (hG : ∀ H, Seps L0 H → G H) (hs : ∀ (i : Nat) (u : α), us[i]? = some u → Go T L0 (GTurn T L0 g tYes te vs σ (gx u) true (.bl (f u)))) (hd : Go T L0 fun H => Q (.bl (us.any f)) H) :
    Go T L fun H => lGen T g tYes te vs σ (rsAny Q) J H :=
  g_genW (Pm := fun i x => (us.map gx)[i]? = some x) w (fun _ _ _ _ h => h) (fun _ => true) (fun i => .bl (bAt us f i)) h0 hG (fun i x hi e => by
    obtain ⟨u, hu, rfl⟩ := at_map e
    rw [bAt_some hu]
    exact hs i u hu) fun Pv h => rs_any h (by rw [filt_true, any_range us f _ fun i u hu => bAt_some hu]; exact hd)
theorem g_allM (f : α → Bool) (w : Walk J us.length G (YAt (us.map gx))) (h0 : Ent L L0) (hG : ∀ H, Seps L0 H → G H) (hs : ∀ (i : Nat) (u : α), us[i]? = some u → Go T L0 (GTurn T L0 g tYes te vs σ (gx u) true (.bl (f u)))) (hd : Go T L0 fun H => Q (.bl (us.all f)) H) :
    Go T L fun H => lGen T g tYes te vs σ (rsAll Q) J H :=
  g_genW (Pm := fun i x => (us.map gx)[i]? = some x) w (fun _ _ _ _ h => h) (fun _ => true) (fun i => .bl (bAt us f i)) h0 hG (fun i x hi e => by
    obtain ⟨u, hu, rfl⟩ := at_map e
    rw [bAt_some hu]
    exact hs i u hu) fun Pv h => rs_all h (by rw [filt_true, all_range us f _ fun i u hu => bAt_some hu]; exact hd)
theorem walk_listM : Walk (Itl K a) us.length (fun H => SqL K H a (us.map gx)) (YAt (us.map gx)) := by
  have h := walk_list (K := K) (a := a) (xs := us.map gx)
  rw [List.length_map] at h
  exact h
theorem walk_tupM : Walk (Itt K a) us.length (fun H => SqT K H a (us.map gx)) (YAt (us.map gx)) := by
  have h := walk_tup (K := K) (a := a) (xs := us.map gx)
  rw [List.length_map] at h
  exact h
/-- over a list of mapped things -/
theorem g_anyL (f : α → Bool) (pk : Pick L0 (pt a (.lst (us.map gx))) A) (h0 : Ent L L0) (hs : ∀ (i : Nat) (u : α), us[i]? = some u → Go T L0 (GTurn T L0 g tYes te vs σ (gx u) true (.bl (f u)))) (hd : Go T L0 fun H => Q (.bl (us.any f)) H) : Go T L fun H => lGen T g tYes te vs σ (rsAny Q) (Itl K a) H :=
  g_anyM f walk_listM h0 (fun H s => SqL.of (pk.at s)) hs hd
theorem g_allL (f : α → Bool) (pk : Pick L0 (pt a (.lst (us.map gx))) A) (h0 : Ent L L0) (hs : ∀ (i : Nat) (u : α), us[i]? = some u → Go T L0 (GTurn T L0 g tYes te vs σ (gx u) true (.bl (f u)))) (hd : Go T L0 fun H => Q (.bl (us.all f)) H) : Go T L fun H => lGen T g tYes te vs σ (rsAll Q) (Itl K a) H :=
  g_allM f walk_listM h0 (fun H s => SqL.of (pk.at s)) hs hd
theorem g_anyT (f : α → Bool) (pk : Pick L0 (pt a (.tup (us.map gx))) A) (h0 : Ent L L0) (hs : ∀ (i : Nat) (u : α), us[i]? = some u → Go T L0 (GTurn T L0 g tYes te vs σ (gx u) true (.bl (f u)))) (hd : Go T L0 fun H => Q (.bl (us.any f)) H) : Go T L fun H => lGen T g tYes te vs σ (rsAny Q) (Itt K a) H :=
  g_anyM f walk_tupM h0 (fun H s => SqT.of (pk.at s)) hs hd
theorem g_allT (f : α → Bool) (pk : Pick L0 (pt a (.tup (us.map gx))) A) (h0 : Ent L L0) (hs : ∀ (i : Nat) (u : α), us[i]? = some u → Go T L0 (GTurn T L0 g tYes te vs σ (gx u) true (.bl (f u)))) (hd : Go T L0 fun H => Q (.bl (us.all f)) H) : Go T L fun H => lGen T g tYes te vs σ (rsAll Q) (Itt K a) H :=
  g_allM f walk_tupM h0 (fun H s => SqT.of (pk.at s)) hs hd
end
end
def genQ (q : Str) : Str := q ++ "<genexpr>"
/-! ### any, all of a list of bools -/
section
variable {X : Cx}
def rAnyB (K : PySem.W.Frag) : List V → Hp → VK → Prop := fun xs H Q => ∃ (a : Addr) (bs : List Bool), xs = [V.ref a] ∧ SqL K H a (bs.map V.bl) ∧ Q (.bl (bs.any fun b => b)) H
def rAllB (K : PySem.W.Frag) : List V → Hp → VK → Prop := fun xs H Q => ∃ (a : Addr) (bs : List Bool), xs = [V.ref a] ∧ SqL K H a (bs.map V.bl) ∧ Q (.bl (bs.all fun b => b)) H
theorem bools_at {bs : List Bool} {its : List Value} (r : Vals (bs.map V.bl) its) {i : Nat} {v : Value} (h : its.toArray[i]? = some v) : v = .bool (bs.getD i false) := by
  have h2 : its[i]? = some v := by simpa using h
  have hi : i < its.length := (List.getElem?_eq_some_iff.mp h2).1
  have hb : i < bs.length := by rw [← r.length, List.length_map] at hi; exact hi
  have e : (bs.map V.bl)[i]? = some (V.bl bs[i]) := by rw [List.getElem?_map, List.getElem?_eq_getElem hb] <;> rfl
  obtain ⟨u, hu, ru⟩ := r.get e
  rw [h2] at hu
  cases hu
  have ru : v = Value.bool bs[i] := ru
  rw [ru, List.getD_eq_getElem?_getD, List.getElem?_eq_getElem hb]
  rfl
theorem call_anyB (hc : X.calm = true) : CallR X (.builtin "any") (rAnyB X.K) := by
  intro pins s σ H xs us Q I r h
  obtain ⟨a, bs, rfl, hs, q⟩ := h
  obtain ⟨its, rv, hl, _⟩ := I.list hs
  rw [Vals.ref1 r]
  have hIL := hl.isList
  refine call_any_walk ?_
  refine wpAny_pyIter_list hIL ?_
  have hne : a ≠ s.heap.objs.size := by
    obtain ⟨o, e, _⟩ := id hIL
    exact Nat.ne_of_lt (Heap.lt_size e)
  refine ⟨s.heap.objs.size, [s.heap.objs.size, a], [s.heap.objs.size], its.toArray.size, (fun i v => its.toArray[i]? = some v), (fun i h => h.IsListIter s.heap.objs.size a i ∧ h.IsList a its.toArray), (fun i => bs.getD i false), rfl, Walks.list (A := X.A.in1) (show X.A.in1.handled = none from I.ok.hd hc) _ _ hne _, ⟨⟨_, Heap.get?_push_size _ rfl, rfl, rfl⟩, let ⟨o, e, r⟩ := hIL; ⟨o, Heap.get?_push_of_some _ e, r⟩⟩, fun i v s' Q' E' hv hq => ?_, fun h' tk hk => ?_⟩
  · rw [bools_at rv hv]
    exact wpAny_truthy_bool hq
  · have e : its.toArray.size = bs.length := by rw [List.size_toArray, ← rv.length, List.length_map]
    rw [e, any_range bs (fun b => b) _ fun i u hu => by rw [List.getD_eq_getElem?_getD, hu] <;> rfl]
    exact ⟨.bl _, H, I.kept fun b o eb => hk b o (fun z => by
      have := Heap.lt_size eb
      rw [List.mem_singleton.mp z] at this
      exact Nat.lt_irrefl _ this) (Heap.get?_push_of_some _ eb), rfl, q⟩
theorem cAny {K : PySem.W.Frag} (hK : X.K = K) (hc : X.calm = true) : CallR X (.builtin "any") (rAnyB K) := hK ▸ call_anyB hc
theorem g_anyB {T : List (Addr × Str)} {L A : List HP} {K : PySem.W.Frag} {a : Addr} {bs : List Bool} {Q : VK} (pk : Pick L (pt a (.lst (bs.map V.bl))) A) (k : Go T L fun H => Q (.bl (bs.any fun b => b)) H) : Go T L fun H => rAnyB K [.ref a] H Q := fun H t s => ⟨a, bs, rfl, SqL.of (pk.at s), k H t s⟩
end
end Dh

/-! The layer Dh, part M: comprehensions with tests. -/
namespace Dh
open PySem PySem.Spec PyProof.Rows L2
section
variable {T : List (Addr × Str)} {L L0 A : List HP} {σ : L2.St} {Q : VK} {K : PySem.W.Frag} {n : Nat} {te : TE} {tt : TT} {g : TG} {vs : List Nat} {a : Addr} {xs : List V} {x y : V} {b : Bool} {J : It} {G : Hp → Prop} {Y : Nat → Hp → V → Hp → Prop}
/-- by the turn: those with p, each by f; the chunks as they were -/
def IP (p : Nat → Bool) (f : Nat → V) (L0 : List HP) : CI := fun j acc L => acc = ((List.range j).filter p).map f ∧ Ent L L0
theorem ip_succ {p : Nat → Bool} {f : Nat → V} {i : Nat} (h : p i = true) : ((List.range i).filter p).map f ++ [f i] = ((List.range (i + 1)).filter p).map f := by
  rw [List.range_succ, List.filter_append, List.map_append]
  simp [h]
theorem ip_skip {p : Nat → Bool} {f : Nat → V} {i : Nat} (h : p i = false) : ((List.range i).filter p).map f = ((List.range (i + 1)).filter p).map f := by
  rw [List.range_succ, List.filter_append, List.map_append]
  simp [h]
theorem ip_len {p : Nat → Bool} {f : Nat → V} {i : Nat} : (((List.range i).filter p).map f).length ≤ i := by
  rw [List.length_map]
  exact Nat.le_trans (List.length_filter_le _ _) (by rw [List.length_range]; exact Nat.le_refl _)
theorem g_lcPutP {p : Nat → Bool} {f : Nat → V} {D : Addr} {i : Nat} (hp : p i = true) (pk : Pick L (pt D (.lst (((List.range i).filter p).map f))) A) (hl : i < sizeLine) (hy : y = f i) (e : Ent A L0) : Go T L fun H => LcAdd T D (IP p f L0) (i + 1) y H :=
  g_lcAdd pk (Nat.lt_of_le_of_lt ip_len hl) ⟨by rw [hy, ip_succ hp], e⟩
theorem g_lcKeepP {p : Nat → Bool} {f : Nat → V} {D : Addr} {i : Nat} (hp : p i = false) (pk : Pick L (pt D (.lst (((List.range i).filter p).map f))) A) (e : Ent A L0) : Go T L fun H => LcPv T D (IP p f L0) (i + 1) H :=
  g_lcKeep pk ⟨by rw [ip_skip hp], e⟩
/-- both ways of a test at once -/
theorem g_lcP1 {p : Nat → Bool} {f : Nat → V} {D : Addr} {i : Nat} {b : Bool} {N : Hp → Prop} (hp : b = p i) (pk : Pick L (pt D (.lst (((List.range i).filter p).map f))) A) (e : Ent A L0) (k : b = true → p i = true → Go T L N) : Go T L fun H => if b = true then N H else LcPv T D (IP p f L0) (i + 1) H :=
  g_if (fun h => k h (hp ▸ h)) (fun h => g_lcKeepP (hp ▸ h) pk e)
theorem g_lcWp {Pm : Nat → V → Prop} (w : Walk J n G Y) (hy : ∀ i H x H', Y i H x H' → H' = H ∧ Pm i x) (p : Nat → Bool) (f : Nat → V) (h0 : Ent L L0) (hG : ∀ H, Seps L0 H → G H)
    (hs : ∀ D i x, i < n → Pm i x → Go T (pt D (.lst (((List.range i).filter p).map f)) :: L0) (LcTurn T D (IP p f L0) i g tt te vs σ x)) (hd : ∀ D, Go T (pt D (.lst (((List.range n).filter p).map f)) :: L0) fun H => Q (.ref D) H) :
    Go T L fun H => LcG J g tt te vs σ Q H :=
  g_lcW w hy (IP p f L0) ⟨rfl, h0⟩ (fun i acc L h H s => hG H (h.2 H s)) (fun D i x acc L hi hx h => by obtain ⟨rfl, e⟩ := h; exact (hs D i x hi hx).ent (ent_tail e)) (fun D acc L h => by obtain ⟨rfl, e⟩ := h; exact (hd D).ent (ent_tail e))
theorem g_lcPp {fx fy : Nat → Option V} (w : Walk J n G (YPair fx fy)) (p : Nat → Bool) (f : Nat → V) (h0 : Ent L L0) (hG : ∀ H, Seps L0 H → G H)
    (hs : ∀ D i x y q, i < n → fx i = some x → fy i = some y → Go T (pt q (.tup [x, y]) :: pt D (.lst (((List.range i).filter p).map f)) :: L0) (LcTurn T D (IP p f L0) i g tt te vs σ (.ref q))) (hd : ∀ D, Go T (pt D (.lst (((List.range n).filter p).map f)) :: L0) fun H => Q (.ref D) H) :
    Go T L fun H => LcG J g tt te vs σ Q H :=
  g_lcP w (IP p f L0) ⟨rfl, h0⟩ (fun i acc L h H s => hG H (h.2 H s)) (fun D i x y q acc L hi hx hy h => by obtain ⟨rfl, e⟩ := h; exact (hs D i x y q hi hx hy).ent (ent_tail (ent_tail e))) (fun D acc L h => by obtain ⟨rfl, e⟩ := h; exact (hd D).ent (ent_tail e))
/-- over a range -/
theorem g_lcRp {lo : Int} (p : Nat → Bool) (f : Nat → V) (h0 : Ent L L0) (hs : ∀ D i, i < n → Go T (pt D (.lst (((List.range i).filter p).map f)) :: L0) (LcTurn T D (IP p f L0) i g tt te vs σ (.int (lo + i))))
    (hd : ∀ D, Go T (pt D (.lst (((List.range n).filter p).map f)) :: L0) fun H => Q (.ref D) H) : Go T L fun H => LcG (Itr lo n) g tt te vs σ Q H :=
  g_lcWp (Pm := fun i x => x = .int (lo + i)) walk_range (fun _ _ _ _ h => h) p f h0 (fun _ _ => trivial) (fun D i x hi e => by subst e; exact hs D i hi) hd
theorem filt_at {α : Type} (us : List α) (p : α → Bool) (f : α → V) (pi : Nat → Bool) (fi : Nat → V) (hp : ∀ i u, us[i]? = some u → pi i = p u) (hf : ∀ i u, us[i]? = some u → fi i = f u) : ((List.range us.length).filter pi).map fi = (us.filter p).map f := by
  have key : ∀ k, k ≤ us.length → ((List.range k).filter pi).map fi = ((us.take k).filter p).map f := by
    intro k
    induction k with
    | zero => intro _; simp
    | succ k ih =>
      intro hk
      have hu : us[k]? = some us[k] := List.getElem?_eq_getElem (by omega)
      rw [List.take_add_one, hu, List.filter_append, List.map_append, ← ih (by omega), List.range_succ, List.filter_append, List.map_append]
      congr 1
      by_cases h : p us[k] = true
      · simp [hp k _ hu, hf k _ hu, h]
      · simp [hp k _ hu, hf k _ hu, h]
  have := key us.length (Nat.le_refl _)
  rw [List.take_length] at this
  exact this
section
variable {α : Type} {us : List α} {gx : α → V}
/-- over a list of mapped things -/
theorem g_lcLp (p : α → Bool) (f : α → V) (pk : Pick L0 (pt a (.lst (us.map gx))) A) (h0 : Ent L L0) (hs : ∀ D (i : Nat) (u : α), us[i]? = some u → bAt us p i = p u → fAt us f i = f u → Go T (pt D (.lst (((List.range i).filter (bAt us p)).map (fAt us f))) :: L0) (LcTurn T D (IP (bAt us p) (fAt us f) L0) i g tt te vs σ (gx u)))
    (hd : ∀ D, Go T (pt D (.lst ((us.filter p).map f)) :: L0) fun H => Q (.ref D) H) : Go T L fun H => LcG (Itl K a) g tt te vs σ Q H :=
  g_lcWp (Pm := fun i x => (us.map gx)[i]? = some x) walk_listM (fun _ _ _ _ h => h) (bAt us p) (fAt us f) h0 (fun H s => SqL.of (pk.at s)) (fun D i x hi e => by
    obtain ⟨u, hu, rfl⟩ := at_map e
    exact hs D i u hu (bAt_some hu) (fAt_some hu)) fun D => by
    rw [filt_at us p f _ _ (fun i u h => bAt_some h) fun i u h => fAt_some h]
    exact hd D
theorem g_lcTp (p : α → Bool) (f : α → V) (pk : Pick L0 (pt a (.tup (us.map gx))) A) (h0 : Ent L L0) (hs : ∀ D (i : Nat) (u : α), us[i]? = some u → bAt us p i = p u → fAt us f i = f u → Go T (pt D (.lst (((List.range i).filter (bAt us p)).map (fAt us f))) :: L0) (LcTurn T D (IP (bAt us p) (fAt us f) L0) i g tt te vs σ (gx u)))
    (hd : ∀ D, Go T (pt D (.lst ((us.filter p).map f)) :: L0) fun H => Q (.ref D) H) : Go T L fun H => LcG (Itt K a) g tt te vs σ Q H :=
  g_lcWp (Pm := fun i x => (us.map gx)[i]? = some x) walk_tupM (fun _ _ _ _ h => h) (bAt us p) (fAt us f) h0 (fun H s => SqT.of (pk.at s)) (fun D i x hi e => by
    obtain ⟨u, hu, rfl⟩ := at_map e
    exact hs D i u hu (bAt_some hu) (fAt_some hu)) fun D => by
    rw [filt_at us p f _ _ (fun i u h => bAt_some h) fun i u h => fAt_some h]
    exact hd D
end
end
section
variable {T : List (Addr × Str)} {L A : List HP} {Q : VK} {K : PySem.W.Frag} {a : Addr} {ns : List Int}
theorem g_maxL (pk : Pick L (pt a (.lst (ns.map V.int))) A) (h : 0 < ns.length) (k : ∀ m, m ∈ ns → (∀ y, y ∈ ns → y ≤ m) → Go T L fun H => Q (.int m) H) : Go T L fun H => rMax K [.ref a] H Q := fun H t s => ⟨a, ns, rfl, SqL.of (pk.at s), h, fun m h1 h2 => k m h1 h2 H t s⟩
theorem g_minL (pk : Pick L (pt a (.lst (ns.map V.int))) A) (h : 0 < ns.length) (k : ∀ m, m ∈ ns → (∀ y, y ∈ ns → m ≤ y) → Go T L fun H => Q (.int m) H) : Go T L fun H => rMin K [.ref a] H Q := fun H t s => ⟨a, ns, rfl, SqL.of (pk.at s), h, fun m h1 h2 => k m h1 h2 H t s⟩
end
/-! ### == of lists, tuples of numbers, of bools -/
abbrev nI (k : Nat) : V := .int (k : Int)
def cI (us : List Nat) : List Int := us.map fun k : Nat => (k : Int)
theorem map_nI (us : List Nat) : us.map nI = (cI us).map V.int := by unfold cI; rw [List.map_map]; rfl
theorem cI_inj : ∀ {us ws : List Nat}, cI us = cI ws ↔ us = ws
  | [], [] => by simp [cI]
  | [], w :: ws => by simp [cI]
  | u :: us, [] => by simp [cI]
  | u :: us, w :: ws => by
    have h := cI_inj (us := us) (ws := ws)
    unfold cI at h ⊢
    rw [List.map_cons, List.map_cons, List.cons.injEq, List.cons.injEq, h]
    constructor
    · rintro ⟨a, b⟩; exact ⟨by omega, b⟩
    · rintro ⟨a, b⟩; exact ⟨by omega, b⟩
theorem cI_nil {us : List Nat} : cI us = [] ↔ us = [] := by unfold cI; simp
def dBs (bs : List Bool) : List PyData := bs.map .bool
theorem dps_bools {K : PySem.W.Frag} {H : Hp} : ∀ bs : List Bool, DpAll K H (bs.map .bl) (dBs bs)
  | [] => .nil
  | b :: bs => .cons (.bl b) (dps_bools bs)
theorem lay_bools : ∀ bs : List Bool, PyData.canLayAll0 (dBs bs) = true
  | [] => by simp [dBs, PyData.canLayAll0]
  | n :: ns => by
    have := lay_bools ns
    simp only [dBs] at this
    simp [dBs, PyData.canLayAll0, PyData.canLay0, this]
theorem dep_bools : ∀ bs : List Bool, PyData.depthAll (dBs bs) = 0
  | [] => by simp [dBs, PyData.depthAll]
  | n :: ns => by
    have := dep_bools ns
    simp only [dBs] at this
    simp [dBs, PyData.depthAll, PyData.depth, this]
theorem shp_bools (bs : List Bool) : SeqAt.shaped (.list (dBs bs)) = true := by
  have h1 := dep_bools bs
  show (PyData.canLay0 (.list (dBs bs)) && decide (PyData.depth (.list (dBs bs)) ≤ 64)) = true
  rw [Bool.and_eq_true]
  exact ⟨by simp only [PyData.canLay0]; exact lay_bools bs, decide_eq_true (by simp only [PyData.depth]; omega)⟩
theorem eqv_bools : ∀ ns ms : List Bool, PyData.eqvAll (dBs ns) (dBs ms) = decide (ns = ms)
  | [], [] => by simp [dBs, PyData.eqvAll]
  | [], m :: ms => by simp [dBs, PyData.eqvAll]
  | n :: ns, [] => by simp [dBs, PyData.eqvAll]
  | n :: ns, m :: ms => by
    have h := eqv_bools ns ms
    simp only [dBs] at h
    simp only [dBs, List.map_cons, PyData.eqvAll, PyData.eqv, h]
    rw [Bool.eq_iff_iff]
    simp
section
variable {T : List (Addr × Str)} {L A B : List HP} {Q : VK} {K : PySem.W.Frag} {a b : Addr} {us ws : List Nat} {ns ms : List Int} {bs cs : List Bool}
theorem dp_tup {H : Hp} (pk : Pick L (pt a (.tup (ns.map .int))) A) (s : Seps L H) : Dp K H (.ref a) (.tuple (dIs ns)) := .tup (SqT.of (pk.at s)) (dps_ints ns)
theorem g_eqTT (p1 : Pick L (pt a (.tup (ns.map .int))) A) (p2 : Pick L (pt b (.tup (ms.map .int))) B) (k : Go T L fun H => Q (.bl (decide (ns = ms))) H) : Go T L fun H => rEqX K (.ref a) (.ref b) H Q :=
  g_eqD (fun H s => dp_tup p1 s) (fun H s => dp_tup p2 s) (shp_intsT _) (shp_intsT _) (by simp only [PyData.eqv, eqv_ints]; exact k)
theorem g_neTT (p1 : Pick L (pt a (.tup (ns.map .int))) A) (p2 : Pick L (pt b (.tup (ms.map .int))) B) (k : Go T L fun H => Q (.bl (!decide (ns = ms))) H) : Go T L fun H => rNeX K (.ref a) (.ref b) H Q :=
  g_neD (fun H s => dp_tup p1 s) (fun H s => dp_tup p2 s) (shp_intsT _) (shp_intsT _) (by simp only [PyData.eqv, eqv_ints]; exact k)
theorem g_eqNN (p1 : Pick L (pt a (.lst (us.map nI))) A) (p2 : Pick L (pt b (.lst (ws.map nI))) B) (k : Go T L fun H => Q (.bl (decide (us = ws))) H) : Go T L fun H => rEqX K (.ref a) (.ref b) H Q := by
  rw [map_nI] at p1 p2
  exact g_eqLL p1 p2 (by rw [show decide (cI us = cI ws) = decide (us = ws) from decide_eq_decide.mpr cI_inj]; exact k)
theorem g_neNN (p1 : Pick L (pt a (.lst (us.map nI))) A) (p2 : Pick L (pt b (.lst (ws.map nI))) B) (k : Go T L fun H => Q (.bl (!decide (us = ws))) H) : Go T L fun H => rNeX K (.ref a) (.ref b) H Q := by
  rw [map_nI] at p1 p2
  exact g_neLL p1 p2 (by rw [show decide (cI us = cI ws) = decide (us = ws) from decide_eq_decide.mpr cI_inj]; exact k)
theorem g_eqN0 (p1 : Pick L (pt a (.lst (us.map nI))) A) (p2 : Pick L (pt b (.lst [])) B) (k : Go T L fun H => Q (.bl (decide (us = []))) H) : Go T L fun H => rEqX K (.ref a) (.ref b) H Q := by
  rw [map_nI] at p1
  exact g_eqL0 p1 p2 (by rw [show decide (cI us = []) = decide (us = []) from decide_eq_decide.mpr cI_nil]; exact k)
theorem g_neN0 (p1 : Pick L (pt a (.lst (us.map nI))) A) (p2 : Pick L (pt b (.lst [])) B) (k : Go T L fun H => Q (.bl (!decide (us = []))) H) : Go T L fun H => rNeX K (.ref a) (.ref b) H Q := by
  rw [map_nI] at p1
  exact g_neL0 p1 p2 (by rw [show decide (cI us = []) = decide (us = []) from decide_eq_decide.mpr cI_nil]; exact k)
theorem g_neTN (p1 : Pick L (pt a (.tup (us.map nI))) A) (p2 : Pick L (pt b (.tup (ws.map nI))) B) (k : Go T L fun H => Q (.bl (!decide (us = ws))) H) : Go T L fun H => rNeX K (.ref a) (.ref b) H Q := by
  rw [map_nI] at p1 p2
  exact g_neTT p1 p2 (by rw [show decide (cI us = cI ws) = decide (us = ws) from decide_eq_decide.mpr cI_inj]; exact k)
theorem dp_bs {H : Hp} (pk : Pick L (pt a (.lst (bs.map .bl))) A) (s : Seps L H) : Dp K H (.ref a) (.list (dBs bs)) := .lst (SqL.of (pk.at s)) (dps_bools bs)
theorem g_neBB (p1 : Pick L (pt a (.lst (bs.map .bl))) A) (p2 : Pick L (pt b (.lst (cs.map .bl))) B) (k : Go T L fun H => Q (.bl (!decide (bs = cs))) H) : Go T L fun H => rNeX K (.ref a) (.ref b) H Q :=
  g_neD (fun H s => dp_bs p1 s) (fun H s => dp_bs p2 s) (shp_bools _) (shp_bools _) (by simp only [PyData.eqv, eqv_bools]; exact k)
theorem g_eqBB (p1 : Pick L (pt a (.lst (bs.map .bl))) A) (p2 : Pick L (pt b (.lst (cs.map .bl))) B) (k : Go T L fun H => Q (.bl (decide (bs = cs))) H) : Go T L fun H => rEqX K (.ref a) (.ref b) H Q :=
  g_eqD (fun H s => dp_bs p1 s) (fun H s => dp_bs p2 s) (shp_bools _) (shp_bools _) (by simp only [PyData.eqv, eqv_bools]; exact k)
theorem inV_nats (i : Nat) (us : List Nat) : inV (nI i) (us.map nI) = decide (i ∈ us) := by
  rw [map_nI, inV_ints]
  rw [decide_eq_decide]
  unfold cI
  rw [List.mem_map]
  exact ⟨fun ⟨u, hu, e⟩ => by rw [show i = u by omega]; exact hu, fun h => ⟨i, h, rfl⟩⟩
theorem all_nI (us : List Nat) (x : V) (h : ∀ k : Nat, scal x (nI k) = true) : (us.map nI).all (scal x) = true := by
  rw [List.all_map, List.all_eq_true]
  exact fun k _ => h k
theorem g_inN {i : Nat} (pk : Pick L (pt b (.lst (us.map nI))) A) (k : Go T L fun H => Q (.bl (decide (i ∈ us))) H) : Go T L fun H => rIn K false (.int (i : Int)) (.ref b) H Q := fun H t s =>
  ⟨b, _, rfl, .inl (SqL.of (pk.at s)), rfl, by rw [List.all_map, List.all_eq_true]; exact fun _ _ => rfl, by rw [if_neg (by decide), inV_nats]; exact k H t s⟩
theorem g_notInN {i : Nat} (pk : Pick L (pt b (.lst (us.map nI))) A) (k : Go T L fun H => Q (.bl (!decide (i ∈ us))) H) : Go T L fun H => rIn K true (.int (i : Int)) (.ref b) H Q := fun H t s =>
  ⟨b, _, rfl, .inl (SqL.of (pk.at s)), rfl, by rw [List.all_map, List.all_eq_true]; exact fun _ _ => rfl, by rw [if_pos rfl, inV_nats]; exact k H t s⟩
theorem g_notInI {i : Int} (pk : Pick L (pt b (.lst (ns.map .int))) A) (k : Go T L fun H => Q (.bl (!decide (i ∈ ns))) H) : Go T L fun H => rIn K true (.int i) (.ref b) H Q := fun H t s =>
  ⟨b, _, rfl, .inl (SqL.of (pk.at s)), rfl, by rw [List.all_map, List.all_eq_true]; exact fun _ _ => rfl, by rw [if_pos rfl, inV_ints]; exact k H t s⟩
theorem inV_bools (i : Bool) (us : List Bool) : inV (.bl i) (us.map .bl) = decide (i ∈ us) := by
  unfold inV
  induction us with
  | nil => simp
  | cons n ns ih =>
    rw [List.map_cons, List.any_cons, ih]
    have e : eqV (.bl n) (.bl i) = (n == i) := by cases i <;> cases n <;> decide
    rw [e]
    cases i <;> cases n <;> simp
theorem g_inB {i : Bool} (pk : Pick L (pt b (.lst (bs.map .bl))) A) (k : Go T L fun H => Q (.bl (decide (i ∈ bs))) H) : Go T L fun H => rIn K false (.bl i) (.ref b) H Q := fun H t s =>
  ⟨b, _, rfl, .inl (SqL.of (pk.at s)), rfl, by rw [List.all_map, List.all_eq_true]; exact fun _ _ => rfl, by rw [if_neg (by decide), inV_bools]; exact k H t s⟩
/-- the last is taken -/
theorem g_popL {α : Type} {f : α → V} {us : List α} {u : α} (pk : Pick L (pt a (.lst (us.map f))) A) (h : us.getLast? = some u) (k : Go T (pt a (.lst (us.dropLast.map f)) :: A) fun H => Q (f u) H) : Go T L fun H => rPop (.ref a) [] H Q :=
  g_pop pk (by rw [List.length_map, List.getElem?_map]; rw [List.getLast?_eq_getElem?] at h; rw [h]; rfl) (by rw [← List.map_dropLast]; exact k)
end
/-! ### [x] * n -/
section
variable {T : List (Addr × Str)} {L A : List HP} {Q : VK} {K : PySem.W.Frag} {a : Addr} {n : Nat} {b : Bool} {i : Int}
theorem rep_flat {α : Type} {f : α → V} {u : α} : ∀ n : Nat, (List.replicate n [f u]).flatten = (List.replicate n u).map f
  | 0 => rfl
  | n + 1 => by rw [List.replicate_succ, List.replicate_succ, List.flatten_cons, rep_flat n]; rfl
theorem g_repX {α : Type} {f : α → V} {u : α} (pk : Pick L (pt a (.lst [f u])) A) (h : n ≤ 16777216) (k : ∀ p, Go T (pt p (.lst ((List.replicate n u).map f)) :: L) fun H => Q (.ref p) H) : Go T L fun H => rMulX K (.ref a) (.int (n : Int)) H Q :=
  g_rep pk (by omega) (by omega) (by rw [PySem.sizeLine_eq, Int.toNat_natCast]; simp; omega) fun p => by rw [Int.toNat_natCast, rep_flat]; exact k p
theorem g_repB (pk : Pick L (pt a (.lst [.bl b])) A) (h : n ≤ 16777216) (k : ∀ p, Go T (pt p (.lst ((List.replicate n b).map .bl)) :: L) fun H => Q (.ref p) H) : Go T L fun H => rMulX K (.ref a) (.int (n : Int)) H Q := g_repX (f := V.bl) pk h k
theorem g_repI (pk : Pick L (pt a (.lst [.int i])) A) (h : n ≤ 16777216) (k : ∀ p, Go T (pt p (.lst ((List.replicate n i).map .int)) :: L) fun H => Q (.ref p) H) : Go T L fun H => rMulX K (.ref a) (.int (n : Int)) H Q := g_repX (f := V.int) pk h k
end
theorem Go.conv {T : List (Addr × Str)} {L A : List HP} {P P' : HP} {G : Hp → Prop} (pk : Pick L P A) (k : ∀ h, P h → P' h) (g : Go T (P' :: A) G) : Go T L G := g.ent fun H s => (pk H s).imp k
section
variable {T : List (Addr × Str)} {L A B D : List HP} {Q : VK} {K : PySem.W.Frag} {a b : Addr} {vs : List V} {ds : List Dt} {x : V}
/-- a list of data, == [] -/
theorem eqv_pys0 : ∀ ds : List Dt, PyData.eqvAll (Dt.pys ds) [] = ds.isEmpty
  | [] => by simp [Dt.pys, PyData.eqvAll]
  | d :: ds => by simp [Dt.pys, PyData.eqvAll]
theorem isEmpty_len {α β : Type} {xs : List α} {ys : List β} (h : xs.length = ys.length) : ys.isEmpty = xs.isEmpty := by
  cases xs <;> cases ys <;> simp at h ⊢
theorem g_eqV0 (p1 : Pick L (pt a (.lst vs)) A) (q1 : Pick L (dvs vs ds) D) (p2 : Pick L (pt b (.lst [])) B) (l1 : Dt.lays ds = true) (b1 : Dt.deps ds ≤ 60) (k : Go T L fun H => Q (.bl ds.isEmpty) H) : Go T L fun H => rEqX K (.ref a) (.ref b) H Q :=
  g_eqD (fun H s => .lst (SqL.of (p1.at s)) (q1.dvs s).dp) (fun H s => dp_nil p2 s) (shp_dts l1 b1) (shp_ints _) (by
    have e : PyData.eqv (.list (Dt.pys ds)) (.list (dIs [])) = ds.isEmpty := by simp only [PyData.eqv]; exact eqv_pys0 ds
    rw [e]; exact k)
theorem g_neV0 (p1 : Pick L (pt a (.lst vs)) A) (q1 : Pick L (dvs vs ds) D) (p2 : Pick L (pt b (.lst [])) B) (l1 : Dt.lays ds = true) (b1 : Dt.deps ds ≤ 60) (k : Go T L fun H => Q (.bl (!ds.isEmpty)) H) : Go T L fun H => rNeX K (.ref a) (.ref b) H Q :=
  g_neD (fun H s => .lst (SqL.of (p1.at s)) (q1.dvs s).dp) (fun H s => dp_nil p2 s) (shp_dts l1 b1) (shp_ints _) (by
    have e : PyData.eqv (.list (Dt.pys ds)) (.list (dIs [])) = ds.isEmpty := by simp only [PyData.eqv]; exact eqv_pys0 ds
    rw [e]; exact k)
end
end Dh

/-! The layer Dh, part N: lists of owned things. -/
namespace Dh
open PySem PySem.Spec PyProof.Rows L2
theorem seps_mid {c : HP} {Y : List HP} : ∀ {X : List HP} {H : Hp}, Seps (X ++ c :: Y) H → Seps (c :: (X ++ Y)) H
  | [], _, h => h
  | _ :: X, _, h => (h.impT fun _ z => seps_mid (X := X) z).swap
theorem seps_dim {c : HP} {Y : List HP} : ∀ {X : List HP} {H : Hp}, Seps (c :: (X ++ Y)) H → Seps (X ++ c :: Y) H
  | [], _, h => h
  | _ :: X, _, h => h.swap.impT fun _ z => seps_dim (X := X) z
section
variable {α : Type} {T : List (Addr × Str)} {L L0 A R : List HP} {P : V → α → HP} {vs : List V} {us : List α} {v : V} {u u' : α} {a : Addr} {G : Hp → Prop} {i : Nat}
/-- the values vs stand for the things us, each owned -/
def rows (P : V → α → HP) (vs : List V) (us : List α) : HP := fun h => vs.length = us.length ∧ Seps (List.zipWith P vs us) h
/-- .. but for the one at i -/
def hole (P : V → α → HP) (vs : List V) (us : List α) (i : Nat) : HP := fun h => vs.length = us.length ∧ Seps (List.zipWith P (vs.take i) (us.take i) ++ List.zipWith P (vs.drop (i + 1)) (us.drop (i + 1))) h
theorem zip_split {vs : List V} {us : List α} {v : V} {u : α} {i : Nat} (hv : vs[i]? = some v) (hu : us[i]? = some u) : List.zipWith P vs us = List.zipWith P (vs.take i) (us.take i) ++ P v u :: List.zipWith P (vs.drop (i + 1)) (us.drop (i + 1)) := by
  obtain ⟨h1, e1⟩ := List.getElem?_eq_some_iff.mp hv
  obtain ⟨h2, e2⟩ := List.getElem?_eq_some_iff.mp hu
  have q1 : vs = vs.take i ++ v :: vs.drop (i + 1) := by rw [← e1, List.getElem_cons_drop h1, List.take_append_drop]
  have q2 : us = us.take i ++ u :: us.drop (i + 1) := by rw [← e2, List.getElem_cons_drop h2, List.take_append_drop]
  conv => lhs; rw [q1, q2]
  rw [List.zipWith_append (by rw [List.length_take, List.length_take]; omega)]
  rfl
theorem ent_hole (hv : vs[i]? = some v) (hu : us[i]? = some u) : Ent (rows P vs us :: L) (P v u :: hole P vs us i :: L) := fun H s => by
  have s2 : Seps (Seps [P v u, hole P vs us i] :: L) H := s.imp fun h ⟨hl, z⟩ => by
    rw [zip_split hv hu] at z
    have z := seps_mid z
    refine z.impT fun h2 z2 => ?_
    have := Seps.cut (L2 := []) (by rw [List.append_nil]; exact z2)
    exact this.imp fun h3 z3 => ⟨hl, z3⟩
  exact s2.paste
theorem ent_plug (hv : vs[i]? = some v) (hu : i < us.length) : Ent (P v u' :: hole P vs us i :: L) (rows P vs (us.set i u') :: L) := fun H s => by
  have s2 := Seps.cut (L1 := [P v u', hole P vs us i]) (L2 := L) s
  refine s2.imp fun h z => ?_
  have hl : vs.length = us.length := by
    obtain ⟨_, _, hl, _⟩ := z.tail.head
    exact hl
  refine ⟨by rw [List.length_set]; exact hl, ?_⟩
  rw [zip_split hv (List.getElem?_set_self hu)]
  refine seps_dim ?_
  have e1 : (us.set i u').take i = us.take i := by rw [List.take_set_of_le (Nat.le_refl _)]
  have e2 : (us.set i u').drop (i + 1) = us.drop (i + 1) := by rw [List.drop_set_of_lt (Nat.lt_succ_self _)]
  rw [e1, e2]
  exact z.impT fun h2 z2 => by
    obtain ⟨h3, s3, _, z3⟩ := z2.head
    exact z3.sub s3
theorem ent_plug0 (hv : vs[i]? = some v) (hu : us[i]? = some u) : Ent (P v u :: hole P vs us i :: L) (rows P vs us :: L) := by
  have h := ent_plug (P := P) (L := L) (u' := u) hv (List.getElem?_eq_some_iff.mp hu).1
  obtain ⟨hi, e⟩ := List.getElem?_eq_some_iff.mp hu
  rw [← e, List.set_getElem_self hi] at h
  rw [e] at h
  exact h
theorem go_rowsLen (pk : Pick L (rows P vs us) A) (g : vs.length = us.length → Go T L G) : Go T L G := fun H t s => by
  obtain ⟨h, _, hl, _⟩ := (pk H s).head
  exact g hl H t s
theorem ent_rows0 : Ent L (rows P [] [] :: L) := fun H s => (ent_seps0 H s).imp fun h z => ⟨rfl, z⟩
theorem ent_rowsSnoc : Ent (rows P vs us :: P v u :: L) (rows P (vs ++ [v]) (us ++ [u]) :: L) := fun H s => by
  have s2 := Seps.cut (L1 := [rows P vs us, P v u]) (L2 := L) s
  refine s2.imp fun h z => ?_
  have hl : vs.length = us.length := by
    obtain ⟨_, _, hl, _⟩ := z.head
    exact hl
  refine ⟨by rw [List.length_append, List.length_append, hl]; rfl, ?_⟩
  rw [List.zipWith_append hl]
  have z2 : Seps (Seps (List.zipWith P vs us) :: [P v u]) h := z.imp fun h2 z2 => z2.2
  exact z2.paste
theorem ent_rowsCons : Ent (P v u :: rows P vs us :: L) (rows P (v :: vs) (u :: us) :: L) := fun H s => by
  have s2 := Seps.cut (L1 := [P v u, rows P vs us]) (L2 := L) s
  refine s2.imp fun h z => ?_
  have hl : vs.length = us.length := by
    obtain ⟨_, _, hl, _⟩ := z.tail.head
    exact hl
  refine ⟨by rw [List.length_cons, List.length_cons, hl], ?_⟩
  exact z.impT fun h2 z2 => by
    obtain ⟨h3, s3, _, z3⟩ := z2.head
    exact z3.sub s3
theorem ent_rowsUn : Ent (rows P (v :: vs) (u :: us) :: L) (P v u :: rows P vs us :: L) := fun H s => by
  have s2 : Seps (Seps [P v u, rows P vs us] :: L) H := s.imp fun h ⟨hl, z⟩ => by
    refine Seps.impT (fun h2 z2 => ?_) (show Seps (P v u :: List.zipWith P vs us) h from z)
    have := Seps.cut (L2 := []) (by rw [List.append_nil]; exact z2)
    exact this.imp fun h3 z3 => ⟨by simpa using hl, z3⟩
  exact s2.paste
theorem zip_imp {P' : V → α → HP} (k : ∀ v u h, P v u h → P' v u h) : ∀ (vs : List V) (us : List α) (h : Hp), Seps (List.zipWith P vs us) h → Seps (List.zipWith P' vs us) h
  | [], _, _, _ => trivial
  | _ :: _, [], _, _ => trivial
  | v :: vs, u :: us, h, z => (Seps.imp (k v u) (show Seps (P v u :: List.zipWith P vs us) h from z)).impT fun h2 z2 => zip_imp k vs us h2 z2
theorem rows_imp {P' : V → α → HP} (k : ∀ v u h, P v u h → P' v u h) {vs : List V} {us : List α} {h : Hp} (z : rows P vs us h) : rows P' vs us h := ⟨z.1, zip_imp k vs us h z.2⟩
/-- a list (by its value) of owned things -/
def lsO (P : V → α → HP) (v : V) (us : List α) : HP := fun h => ∃ a vs, v = .ref a ∧ Seps [pt a (.lst vs), rows P vs us] h
theorem go_lsO (pk : Pick L (lsO P v us) A) (g : ∀ a vs, v = .ref a → vs.length = us.length → Go T (pt a (.lst vs) :: rows P vs us :: A) G) : Go T L G := fun H t s => by
  obtain ⟨h1, h2, d, n1, n2, s1, s2, ⟨a, vs, e, z⟩, r⟩ := pk H s
  have hl : vs.length = us.length := by
    obtain ⟨_, _, hl, _⟩ := z.tail.head
    exact hl
  have q : Seps (Seps [pt a (.lst vs), rows P vs us] :: A) H := ⟨h1, h2, d, n1, n2, s1, s2, z, r⟩
  exact g a vs e hl H t q.paste
theorem ent_lsO {R : List HP} {A B : List HP} (p1 : Pick L (pt a (.lst vs)) A) (p2 : Pick A (rows P vs us) B) (e : Ent B R) : Ent L (lsO P (.ref a) us :: R) := fun H s => by
  have z := ((p1 H s).impT fun h q => p2 h q)
  have z2 := Seps.cut (L1 := [pt a (.lst vs), rows P vs us]) (L2 := B) z
  exact (z2.imp (P' := lsO P (.ref a) us) fun h q => ⟨a, vs, rfl, q⟩).impT fun h q => e h q
end
end Dh

/-! The layer Dh, part S: steps of a walk by classes, many at once. Printed by wip/tools/mkst.py. -/
namespace Dh
open PySem PySem.Spec PyProof.Rows L2 Gx
/-- G is shown by K -/
class St (G : Prop) (K : outParam Prop) : Prop where go : K → G
class Wk (G : Prop) (K : outParam Prop) : Prop where go : K → G
class Wk1 (G : Prop) (K : outParam Prop) : Prop where go : K → G
instance (priority := low) wkStop {G : Prop} : Wk G G := ⟨id⟩
instance wkStep {G K1 K : Prop} [a : St G K1] [b : Wk K1 K] : Wk G K := ⟨fun k => a.go (b.go k)⟩
instance wkStep1 {G K1 K : Prop} [a : St G K1] [b : Wk K1 K] : Wk1 G K := ⟨fun k => a.go (b.go k)⟩
theorem wk1 {G K : Prop} [w : Wk1 G K] (k : K) : G := w.go k
section
variable {σ σ1 σ2 : L2.St} {i m : Nat} {v x y : V} {o : Option V} {L A : List HP} {a C : Addr} {h : HO} {c d : HP} {fs fs' : List (Str × V)} {f : Str}
class SlotC (σ : L2.St) (i : Nat) (v : outParam V) : Prop where h : σ[i]? = some (some v)
instance : SlotC (some v :: σ) 0 v := ⟨rfl⟩
instance [s : SlotC σ i v] : SlotC (o :: σ) (i + 1) v := ⟨by rw [List.getElem?_cons_succ]; exact s.h⟩
class SetC (σ : L2.St) (i : Nat) (x : Option V) (σ' : outParam L2.St) : Prop where h : σ.set i x = σ'
instance {x : Option V} : SetC (o :: σ) 0 x (x :: σ) := ⟨rfl⟩
instance {x : Option V} [s : SetC σ i x σ1] : SetC (o :: σ) (i + 1) x (o :: σ1) := ⟨by rw [List.set_cons_succ, s.h]⟩
instance (priority := low) {x : Option V} : SetC σ i x (σ.set i x) := ⟨rfl⟩
class WipeC (σ : L2.St) (vs : List Nat) (σ' : outParam L2.St) : Prop where h : wipe σ vs = σ'
instance : WipeC σ [] σ := ⟨rfl⟩
instance {vs : List Nat} [s : WipeC σ vs σ1] [t : SetC σ1 i none σ2] : WipeC σ (i :: vs) σ2 := ⟨by show (wipe σ vs).set i none = σ2; rw [s.h, t.h]⟩
instance (priority := low) {vs : List Nat} : WipeC σ vs (wipe σ vs) := ⟨rfl⟩
instance {s : Str} {own : List (Str × Nat)} [z : WipeC σ (List.map (fun x => x.snd) own) σ1] [t : SetC σ1 i none σ2] : WipeC σ (List.map (fun x => x.snd) ((s, i) :: own)) σ2 := ⟨by show (wipe σ (List.map (fun x => x.snd) own)).set i none = σ2; rw [z.h, t.h]⟩
instance : WipeC σ (List.map (fun x : Str × Nat => x.snd) []) σ := ⟨rfl⟩
class PkC (L : List HP) (c : HP) (A : outParam (List HP)) : Prop where h : Pick L c A
instance (priority := low) [s : PkC L c A] : PkC (d :: L) c (d :: A) := ⟨pick_there s.h⟩
instance : PkC (c :: L) c L := ⟨pick_here⟩
class PtC (L : List HP) (a : Addr) (h : outParam HO) (A : outParam (List HP)) : Prop where h : Pick L (pt a h) A
instance (priority := low) [s : PtC L a h A] : PtC (d :: L) a h (d :: A) := ⟨pick_there s.h⟩
instance : PtC (pt a h :: L) a h L := ⟨pick_here⟩
class ObC (L : List HP) (a : Addr) (C : Addr) (fs : outParam (List (Str × V))) (A : outParam (List HP)) : Prop where h : Pick L (ob a C fs) A
instance (priority := low) [s : ObC L a C fs A] : ObC (d :: L) a C fs (d :: A) := ⟨pick_there s.h⟩
instance : ObC (ob a C fs :: L) a C fs L := ⟨pick_here⟩
class LkC (fs : List (Str × V)) (f : Str) (v : outParam V) : Prop where h : fs.lookup f = some v
class NoC (fs : List (Str × V)) (f : Str) : Prop where h : fs.lookup f = none
class PfC (f : Str) (y : V) (fs : List (Str × V)) (fs' : outParam (List (Str × V))) : Prop where h : putF f y fs = fs'
class LnC (fs : List (Str × V)) : Prop where h : fs.length < 1000
class HasC (L : List HP) (a C : Addr) (m : Str) : Prop where h : HasM L a C m
instance {m : Str} [s : ObC L a C fs A] [t : NoC fs m] : HasC L a C m := ⟨hasM_ob s.h t.h⟩
class ScC (x y : V) : Prop where h : scal x y = true
instance {i j : Int} : ScC (.int i) (.int j) := ⟨rfl⟩
instance {i j : Bool} : ScC (.bl i) (.bl j) := ⟨rfl⟩
instance {i j : Str} : ScC (.str i) (.str j) := ⟨rfl⟩
instance : ScC .non .non := ⟨rfl⟩
instance {i : Int} : ScC (.int i) .non := ⟨rfl⟩
instance {i : Int} : ScC .non (.int i) := ⟨rfl⟩
instance {i : Str} : ScC (.str i) .non := ⟨rfl⟩
instance {i : Str} : ScC .non (.str i) := ⟨rfl⟩
instance {i : Bool} : ScC (.bl i) .non := ⟨rfl⟩
instance {i : Bool} : ScC .non (.bl i) := ⟨rfl⟩
instance {i : Str} {j : Int} : ScC (.str i) (.int j) := ⟨rfl⟩
instance {i : Str} {j : Int} : ScC (.int j) (.str i) := ⟨rfl⟩
instance {i : Str} {j : Bool} : ScC (.str i) (.bl j) := ⟨rfl⟩
instance {i : Str} {j : Bool} : ScC (.bl j) (.str i) := ⟨rfl⟩
end
section
variable {T : List (Addr × Str)} {L : List HP} {σ σ1 : L2.St} {g : TG} {tt : TT} {te tk tv : TE} {vs : List Nat} {x v : V} {P : Hp → Prop} {N : L2.St → Hp → Prop} {A B : Hp → Prop} {m : Nat}
def lPar (σ : L2.St) (m q : Nat) (N : L2.St → Hp → Prop) (vs : List V) (H : Hp) : Prop := ∃ v w, vs = [v, w] ∧ N ((σ.set m (some v)).set q (some w)) H
def lPar3 (σ : L2.St) (m q l : Nat) (N : L2.St → Hp → Prop) (vs : List V) (H : Hp) : Prop := ∃ u v w, vs = [u, v, w] ∧ N (((σ.set m (some u)).set q (some v)).set l (some w)) H
def lSet (σ : L2.St) (m : Nat) (N : L2.St → Hp → Prop) (z : V) (H : Hp) : Prop := N (σ.set m (some z)) H
section
variable {N0 : L2.St → Hp → Prop} {R0 : VK} {B0 C0 : L2.St → Hp → Prop} {q l : Nat} {tr : TA} {ti : TIp} {y z : V} {σ2 σ3 : L2.St}
instance (priority := 1300) st_par : St (Go T L fun H => tPar m q tr ⟨N0, R0, B0, C0⟩ σ H) (Go T L fun H => tr σ H (lPar σ m q N0)) := ⟨g_par⟩
instance (priority := 1300) st_par2 [a : SetC σ m (some x) σ1] [b : SetC σ1 q (some y) σ2] : St (Go T L fun H => lPar σ m q N0 [x, y] H) (Go T L fun H => N0 σ2 H) := ⟨fun k => by
  have e1 := a.h; have e2 := b.h; subst e1; subst e2
  exact fun H t s => ⟨x, y, rfl, k H t s⟩⟩
instance (priority := 1300) st_par3 : St (Go T L fun H => tPar3 m q l tr ⟨N0, R0, B0, C0⟩ σ H) (Go T L fun H => tr σ H (lPar3 σ m q l N0)) := ⟨g_par3⟩
instance (priority := 1300) st_par3b [a : SetC σ m (some x) σ1] [b : SetC σ1 q (some y) σ2] [c : SetC σ2 l (some z) σ3] : St (Go T L fun H => lPar3 σ m q l N0 [x, y, z] H) (Go T L fun H => N0 σ3 H) := ⟨fun k => by
  have e1 := a.h; have e2 := b.h; have e3 := c.h; subst e1; subst e2; subst e3
  exact fun H t s => ⟨x, y, z, rfl, k H t s⟩⟩
instance (priority := 1300) st_augV [zh : SlotC σ m x] : St (Go T L fun H => tAug m te ti ⟨N0, R0, B0, C0⟩ σ H) (Go T L fun H => te σ H fun y H1 => ti x y H1 (lSet σ m N0)) := ⟨fun k => g_augV zh.h k⟩
instance (priority := 1300) st_lSet [a : SetC σ m (some z) σ1] : St (Go T L fun H => lSet σ m N0 z H) (Go T L fun H => N0 σ1 H) := ⟨fun k => by have e := a.h; subst e; exact k⟩
end
theorem g_ifTT (k : Go T L A) : Go T L fun H => if true = true then A H else B H := g_ifT rfl k
theorem g_ifFF (k : Go T L B) : Go T L fun H => if false = true then A H else B H := g_ifF rfl k
instance (priority := 1500) st_ifTT : St (Go T L fun H => if true = true then A H else B H) (Go T L A) := ⟨g_ifTT⟩
instance (priority := 1500) st_ifFF : St (Go T L fun H => if false = true then A H else B H) (Go T L B) := ⟨g_ifFF⟩
instance (priority := 1490) st_name [s : SetC σ m (some v) σ1] : St (Go T L fun H => gName m v σ H N) (Go T L fun H => N σ1 H) := ⟨fun k => g_name (by rw [s.h]; exact k)⟩
instance (priority := 1400) st_wiped [s : WipeC σ vs σ1] : St (Go T L fun H => wipe σ vs = σ1 ∧ P H) (Go T L P) := ⟨fun k => g_and s.h k⟩
instance (priority := 1400) st_turn {D : Addr} {I : CI} {i : Nat} [s : WipeC σ vs σ1] : St (Go T L (LcTurn T D I i g tt te vs σ x)) (Go T L fun H => g x σ1 H fun σ2 H2 => wipe σ2 vs = σ1 ∧ tt σ2 H2 fun b H3 => if b = true then te σ2 H3 fun y H4 => LcAdd T D I (i + 1) y H4 else LcPv T D I (i + 1) H3) := ⟨fun k => g_turn (by rw [s.h]; exact k)⟩
instance (priority := 1400) st_dturn {D : Addr} {I : DI} {i : Nat} [s : WipeC σ vs σ1] : St (Go T L (DcTurn T D I i g tt tk tv vs σ x)) (Go T L fun H => g x σ1 H fun σ2 H2 => wipe σ2 vs = σ1 ∧ tt σ2 H2 fun b H3 => if b = true then tk σ2 H3 fun y H4 => tv σ2 H4 fun z H5 => DcPut T D I (i + 1) y z H5 else DcPv T D I (i + 1) H3) := ⟨fun k => g_dturn (by rw [s.h]; exact k)⟩
instance (priority := 1400) st_gturn {L0 : List HP} {p : Bool} {z : V} [s : WipeC σ vs σ1] : St (Go T L (GTurn T L0 g tt te vs σ x p z)) (Go T L fun H => g x σ1 H fun σ2 H2 => wipe σ2 vs = σ1 ∧ tt σ2 H2 fun b H3 => b = p ∧ (if b = true then te σ2 H3 fun y H4 => GEnd T L0 z y H4 else GSkip T L0 H3)) := ⟨fun k => g_gturn (by rw [s.h]; exact k)⟩
instance (priority := 1400) st_trueA : St (Go T L fun H => true = true ∧ P H) (Go T L P) := ⟨fun k => g_and rfl k⟩
end
section
variable {T : List (Addr × Str)} {L L1 L2' : List HP} {σ : L2.St} {Q : VK} {K : PySem.W.Frag} {v x y z : V} {i j : Int} {n : Nat} {ta tb tc te td : TE} {t u : TT} {r r' : R2} {N0 : L2.St → Hp → Prop} {R0 : VK} {B0 C0 : L2.St → Hp → Prop} {ts us : TS} {P P' : Hp → Prop} {C a p : Addr} {o o' : HO} {fs : List (Str × V)} {f : Str} {xs ys : List V} {b : Bool}
instance (priority := 1480) st_var {i : Nat} [zh : SlotC σ i v] : St (Go T L fun H => tVar i σ H Q) (Go T L fun H => Q v H) := ⟨fun k => g_var zh.h k⟩
end
section
variable {T : List (Addr × Str)} {L L1 L2' : List HP} {σ : L2.St} {Q : VK} {K : PySem.W.Frag} {v x y z : V} {i j : Int} {n : Nat} {ta tb tc te td : TE} {t u : TT} {r r' : R2} {N0 : L2.St → Hp → Prop} {R0 : VK} {B0 C0 : L2.St → Hp → Prop} {ts us : TS} {P P' : Hp → Prop} {C a p : Addr} {o o' : HO} {fs : List (Str × V)} {f : Str} {xs ys : List V} {b : Bool}
instance (priority := 1477) st_seq   : St (Go T L fun H => tSeq ts us ⟨N0, R0, B0, C0⟩ σ H) (Go T L fun H => ts ⟨us ⟨N0, R0, B0, C0⟩, R0, B0, C0⟩ σ H) := ⟨fun k => g_seq  k⟩
end
section
variable {T : List (Addr × Str)} {L L1 L2' : List HP} {σ : L2.St} {Q : VK} {K : PySem.W.Frag} {v x y z : V} {i j : Int} {n : Nat} {ta tb tc te td : TE} {t u : TT} {r r' : R2} {N0 : L2.St → Hp → Prop} {R0 : VK} {B0 C0 : L2.St → Hp → Prop} {ts us : TS} {P P' : Hp → Prop} {C a p : Addr} {o o' : HO} {fs : List (Str × V)} {f : Str} {xs ys : List V} {b : Bool}
instance (priority := 1474) st_asg {g : TG}  : St (Go T L fun H => tAsg te g ⟨N0, R0, B0, C0⟩ σ H) (Go T L fun H => te σ H fun x H1 => g x σ H1 N0) := ⟨fun k => g_asg  k⟩
end
section
variable {T : List (Addr × Str)} {L L1 L2' : List HP} {σ : L2.St} {Q : VK} {K : PySem.W.Frag} {v x y z : V} {i j : Int} {n : Nat} {ta tb tc te td : TE} {t u : TT} {r r' : R2} {N0 : L2.St → Hp → Prop} {R0 : VK} {B0 C0 : L2.St → Hp → Prop} {ts us : TS} {P P' : Hp → Prop} {C a p : Addr} {o o' : HO} {fs : List (Str × V)} {f : Str} {xs ys : List V} {b : Bool}
instance (priority := 1468) st_op   : St (Go T L fun H => tOp r ta tb σ H Q) (Go T L fun H => ta σ H fun x H1 => tb σ H1 fun y H2 => r x y H2 Q) := ⟨fun k => g_op  k⟩
end
section
variable {T : List (Addr × Str)} {L L1 L2' : List HP} {σ : L2.St} {Q : VK} {K : PySem.W.Frag} {v x y z : V} {i j : Int} {n : Nat} {ta tb tc te td : TE} {t u : TT} {r r' : R2} {N0 : L2.St → Hp → Prop} {R0 : VK} {B0 C0 : L2.St → Hp → Prop} {ts us : TS} {P P' : Hp → Prop} {C a p : Addr} {o o' : HO} {fs : List (Str × V)} {f : Str} {xs ys : List V} {b : Bool}
instance (priority := 1465) st_c   : St (Go T L fun H => tC v σ H Q) (Go T L fun H => Q v H) := ⟨fun k => g_c  k⟩
end
section
variable {T : List (Addr × Str)} {L L1 L2' : List HP} {σ : L2.St} {Q : VK} {K : PySem.W.Frag} {v x y z : V} {i j : Int} {n : Nat} {ta tb tc te td : TE} {t u : TT} {r r' : R2} {N0 : L2.St → Hp → Prop} {R0 : VK} {B0 C0 : L2.St → Hp → Prop} {ts us : TS} {P P' : Hp → Prop} {C a p : Addr} {o o' : HO} {fs : List (Str × V)} {f : Str} {xs ys : List V} {b : Bool}
instance (priority := 1462) st_next   : St (Go T L fun H => tNext ⟨N0, R0, B0, C0⟩ σ H) (Go T L fun H => N0 σ H) := ⟨fun k => g_next  k⟩
end
section
variable {T : List (Addr × Str)} {L L1 L2' : List HP} {σ : L2.St} {Q : VK} {K : PySem.W.Frag} {v x y z : V} {i j : Int} {n : Nat} {ta tb tc te td : TE} {t u : TT} {r r' : R2} {N0 : L2.St → Hp → Prop} {R0 : VK} {B0 C0 : L2.St → Hp → Prop} {ts us : TS} {P P' : Hp → Prop} {C a p : Addr} {o o' : HO} {fs : List (Str × V)} {f : Str} {xs ys : List V} {b : Bool}
instance (priority := 1459) st_ifS   : St (Go T L fun H => tIfS t ts us ⟨N0, R0, B0, C0⟩ σ H) (Go T L fun H => t σ H fun b H1 => if b = true then ts ⟨N0, R0, B0, C0⟩ σ H1 else us ⟨N0, R0, B0, C0⟩ σ H1) := ⟨fun k => g_ifS  k⟩
end
section
variable {T : List (Addr × Str)} {L L1 L2' : List HP} {σ : L2.St} {Q : VK} {K : PySem.W.Frag} {v x y z : V} {i j : Int} {n : Nat} {ta tb tc te td : TE} {t u : TT} {r r' : R2} {N0 : L2.St → Hp → Prop} {R0 : VK} {B0 C0 : L2.St → Hp → Prop} {ts us : TS} {P P' : Hp → Prop} {C a p : Addr} {o o' : HO} {fs : List (Str × V)} {f : Str} {xs ys : List V} {b : Bool}
instance (priority := 1456) st_fldE   : St (Go T L fun H => tFldC C f ta σ H Q) (Go T L fun H => ta σ H (lFld C f Q)) := ⟨fun k => g_fldE  k⟩
end
section
variable {T : List (Addr × Str)} {L L1 L2' : List HP} {σ : L2.St} {Q : VK} {K : PySem.W.Frag} {v x y z : V} {i j : Int} {n : Nat} {ta tb tc te td : TE} {t u : TT} {r r' : R2} {N0 : L2.St → Hp → Prop} {R0 : VK} {B0 C0 : L2.St → Hp → Prop} {ts us : TS} {P P' : Hp → Prop} {C a p : Addr} {o o' : HO} {fs : List (Str × V)} {f : Str} {xs ys : List V} {b : Bool}
instance (priority := 1453) st_fld {A : List HP} [zpk : ObC L a C fs A] [zh : LkC fs f v] : St (Go T L fun H => lFld C f Q (.ref a) H) (Go T L fun H => Q v H) := ⟨fun k => g_fld zpk.h zh.h k⟩
end
section
variable {T : List (Addr × Str)} {L L1 L2' : List HP} {σ : L2.St} {Q : VK} {K : PySem.W.Frag} {v x y z : V} {i j : Int} {n : Nat} {ta tb tc te td : TE} {t u : TT} {r r' : R2} {N0 : L2.St → Hp → Prop} {R0 : VK} {B0 C0 : L2.St → Hp → Prop} {ts us : TS} {P P' : Hp → Prop} {C a p : Addr} {o o' : HO} {fs : List (Str × V)} {f : Str} {xs ys : List V} {b : Bool}
instance (priority := 1450) st_meth {m : Str} {sp : Sp} {E : XK} {tr : TA} [zhm : HasC L a C m] : St (Go T L fun H => lMeth C m sp E tr σ Q (.ref a) H) (Go T L fun H => tr σ H fun vs H2 => sp (.ref a :: vs) H2 Q E) := ⟨fun k => g_meth zhm.h k⟩
end
section
variable {T : List (Addr × Str)} {L L1 L2' : List HP} {σ : L2.St} {Q : VK} {K : PySem.W.Frag} {v x y z : V} {i j : Int} {n : Nat} {ta tb tc te td : TE} {t u : TT} {r r' : R2} {N0 : L2.St → Hp → Prop} {R0 : VK} {B0 C0 : L2.St → Hp → Prop} {ts us : TS} {P P' : Hp → Prop} {C a p : Addr} {o o' : HO} {fs : List (Str × V)} {f : Str} {xs ys : List V} {b : Bool}
instance (priority := 1447) st_methE {m : Str} {sp : Sp} {E : XK} {tr : TA}  : St (Go T L fun H => tMeth C m sp [] E ta tr σ H Q) (Go T L fun H => ta σ H (lMeth C m sp E tr σ Q)) := ⟨fun k => g_methE  k⟩
end
section
variable {T : List (Addr × Str)} {L L1 L2' : List HP} {σ : L2.St} {Q : VK} {K : PySem.W.Frag} {v x y z : V} {i j : Int} {n : Nat} {ta tb tc te td : TE} {t u : TT} {r r' : R2} {N0 : L2.St → Hp → Prop} {R0 : VK} {B0 C0 : L2.St → Hp → Prop} {ts us : TS} {P P' : Hp → Prop} {C a p : Addr} {o o' : HO} {fs : List (Str × V)} {f : Str} {xs ys : List V} {b : Bool}
instance (priority := 1444) st_call {sp : Sp} {E : XK} {tr : TA}  : St (Go T L fun H => tCall sp [] E tr σ H Q) (Go T L fun H => tr σ H fun vs H1 => sp vs H1 Q E) := ⟨fun k => g_call  k⟩
end
section
variable {T : List (Addr × Str)} {L L1 L2' : List HP} {σ : L2.St} {Q : VK} {K : PySem.W.Frag} {v x y z : V} {i j : Int} {n : Nat} {ta tb tc te td : TE} {t u : TT} {r r' : R2} {N0 : L2.St → Hp → Prop} {R0 : VK} {B0 C0 : L2.St → Hp → Prop} {ts us : TS} {P P' : Hp → Prop} {C a p : Addr} {o o' : HO} {fs : List (Str × V)} {f : Str} {xs ys : List V} {b : Bool}
instance (priority := 1441) st_cons {tr : TA} {R : List V → Hp → Prop}  : St (Go T L fun H => tCons ta tr σ H R) (Go T L fun H => ta σ H fun x H1 => tr σ H1 fun xs H2 => R (x :: xs) H2) := ⟨fun k => g_cons  k⟩
end
section
variable {T : List (Addr × Str)} {L L1 L2' : List HP} {σ : L2.St} {Q : VK} {K : PySem.W.Frag} {v x y z : V} {i j : Int} {n : Nat} {ta tb tc te td : TE} {t u : TT} {r r' : R2} {N0 : L2.St → Hp → Prop} {R0 : VK} {B0 C0 : L2.St → Hp → Prop} {ts us : TS} {P P' : Hp → Prop} {C a p : Addr} {o o' : HO} {fs : List (Str × V)} {f : Str} {xs ys : List V} {b : Bool}
instance (priority := 1438) st_nil {R : List V → Hp → Prop}  : St (Go T L fun H => tNil σ H R) (Go T L fun H => R [] H) := ⟨fun k => g_nil  k⟩
end
section
variable {T : List (Addr × Str)} {L L1 L2' : List HP} {σ : L2.St} {Q : VK} {K : PySem.W.Frag} {v x y z : V} {i j : Int} {n : Nat} {ta tb tc te td : TE} {t u : TT} {r r' : R2} {N0 : L2.St → Hp → Prop} {R0 : VK} {B0 C0 : L2.St → Hp → Prop} {ts us : TS} {P P' : Hp → Prop} {C a p : Addr} {o o' : HO} {fs : List (Str × V)} {f : Str} {xs ys : List V} {b : Bool}
instance (priority := 1435) st_test {R : Bool → Hp → Prop}  : St (Go T L fun H => tTest te σ H R) (Go T L fun H => te σ H fun x H' => ∃ k, x = .bl k ∧ R k H') := ⟨fun k => g_test  k⟩
end
section
variable {T : List (Addr × Str)} {L L1 L2' : List HP} {σ : L2.St} {Q : VK} {K : PySem.W.Frag} {v x y z : V} {i j : Int} {n : Nat} {ta tb tc te td : TE} {t u : TT} {r r' : R2} {N0 : L2.St → Hp → Prop} {R0 : VK} {B0 C0 : L2.St → Hp → Prop} {ts us : TS} {P P' : Hp → Prop} {C a p : Addr} {o o' : HO} {fs : List (Str × V)} {f : Str} {xs ys : List V} {b : Bool}
instance (priority := 1432) st_isB {R : Bool → Hp → Prop}  : St (Go T L fun H => ∃ k, V.bl b = .bl k ∧ R k H) (Go T L fun H => R b H) := ⟨fun k => g_isB  k⟩
end
section
variable {T : List (Addr × Str)} {L L1 L2' : List HP} {σ : L2.St} {Q : VK} {K : PySem.W.Frag} {v x y z : V} {i j : Int} {n : Nat} {ta tb tc te td : TE} {t u : TT} {r r' : R2} {N0 : L2.St → Hp → Prop} {R0 : VK} {B0 C0 : L2.St → Hp → Prop} {ts us : TS} {P P' : Hp → Prop} {C a p : Addr} {o o' : HO} {fs : List (Str × V)} {f : Str} {xs ys : List V} {b : Bool}
instance (priority := 1429) st_B {R : Bool → Hp → Prop}  : St (Go T L fun H => tB te σ H R) (Go T L fun H => te σ H fun x H' => ∃ k, x = .bl k ∧ R k H') := ⟨fun k => g_B  k⟩
end
section
variable {T : List (Addr × Str)} {L L1 L2' : List HP} {σ : L2.St} {Q : VK} {K : PySem.W.Frag} {v x y z : V} {i j : Int} {n : Nat} {ta tb tc te td : TE} {t u : TT} {r r' : R2} {N0 : L2.St → Hp → Prop} {R0 : VK} {B0 C0 : L2.St → Hp → Prop} {ts us : TS} {P P' : Hp → Prop} {C a p : Addr} {o o' : HO} {fs : List (Str × V)} {f : Str} {xs ys : List V} {b : Bool}
instance (priority := 1426) st_tru {R : Bool → Hp → Prop}  : St (Go T L fun H => tTruX K ta σ H R) (Go T L fun H => ta σ H fun x H' => ∃ k, TruV K x H' k ∧ R k H') := ⟨fun k => g_tru  k⟩
end
section
variable {T : List (Addr × Str)} {L L1 L2' : List HP} {σ : L2.St} {Q : VK} {K : PySem.W.Frag} {v x y z : V} {i j : Int} {n : Nat} {ta tb tc te td : TE} {t u : TT} {r r' : R2} {N0 : L2.St → Hp → Prop} {R0 : VK} {B0 C0 : L2.St → Hp → Prop} {ts us : TS} {P P' : Hp → Prop} {C a p : Addr} {o o' : HO} {fs : List (Str × V)} {f : Str} {xs ys : List V} {b : Bool}
instance (priority := 1423) st_truB {R : Bool → Hp → Prop}  : St (Go T L fun H => ∃ k, TruV K (.bl b) H k ∧ R k H) (Go T L fun H => R b H) := ⟨fun k => g_truB  k⟩
end
section
variable {T : List (Addr × Str)} {L L1 L2' : List HP} {σ : L2.St} {Q : VK} {K : PySem.W.Frag} {v x y z : V} {i j : Int} {n : Nat} {ta tb tc te td : TE} {t u : TT} {r r' : R2} {N0 : L2.St → Hp → Prop} {R0 : VK} {B0 C0 : L2.St → Hp → Prop} {ts us : TS} {P P' : Hp → Prop} {C a p : Addr} {o o' : HO} {fs : List (Str × V)} {f : Str} {xs ys : List V} {b : Bool}
instance (priority := 1420) st_drop   : St (Go T L fun H => tDrop te ⟨N0, R0, B0, C0⟩ σ H) (Go T L fun H => te σ H fun _ H1 => N0 σ H1) := ⟨fun k => g_drop  k⟩
end
section
variable {T : List (Addr × Str)} {L L1 L2' : List HP} {σ : L2.St} {Q : VK} {K : PySem.W.Frag} {v x y z : V} {i j : Int} {n : Nat} {ta tb tc te td : TE} {t u : TT} {r r' : R2} {N0 : L2.St → Hp → Prop} {R0 : VK} {B0 C0 : L2.St → Hp → Prop} {ts us : TS} {P P' : Hp → Prop} {C a p : Addr} {o o' : HO} {fs : List (Str × V)} {f : Str} {xs ys : List V} {b : Bool}
instance (priority := 1417) st_ret   : St (Go T L fun H => tRet te ⟨N0, R0, B0, C0⟩ σ H) (Go T L fun H => te σ H R0) := ⟨fun k => g_ret  k⟩
end
section
variable {T : List (Addr × Str)} {L L1 L2' : List HP} {σ : L2.St} {Q : VK} {K : PySem.W.Frag} {v x y z : V} {i j : Int} {n : Nat} {ta tb tc te td : TE} {t u : TT} {r r' : R2} {N0 : L2.St → Hp → Prop} {R0 : VK} {B0 C0 : L2.St → Hp → Prop} {ts us : TS} {P P' : Hp → Prop} {C a p : Addr} {o o' : HO} {fs : List (Str × V)} {f : Str} {xs ys : List V} {b : Bool}
instance (priority := 1414) st_retN   : St (Go T L fun H => tRetN ⟨N0, R0, B0, C0⟩ σ H) (Go T L fun H => R0 .non H) := ⟨fun k => g_retN  k⟩
end
section
variable {T : List (Addr × Str)} {L L1 L2' : List HP} {σ : L2.St} {Q : VK} {K : PySem.W.Frag} {v x y z : V} {i j : Int} {n : Nat} {ta tb tc te td : TE} {t u : TT} {r r' : R2} {N0 : L2.St → Hp → Prop} {R0 : VK} {B0 C0 : L2.St → Hp → Prop} {ts us : TS} {P P' : Hp → Prop} {C a p : Addr} {o o' : HO} {fs : List (Str × V)} {f : Str} {xs ys : List V} {b : Bool}
instance (priority := 1411) st_brk   : St (Go T L fun H => tBreak ⟨N0, R0, B0, C0⟩ σ H) (Go T L fun H => B0 σ H) := ⟨fun k => g_brk  k⟩
end
section
variable {T : List (Addr × Str)} {L L1 L2' : List HP} {σ : L2.St} {Q : VK} {K : PySem.W.Frag} {v x y z : V} {i j : Int} {n : Nat} {ta tb tc te td : TE} {t u : TT} {r r' : R2} {N0 : L2.St → Hp → Prop} {R0 : VK} {B0 C0 : L2.St → Hp → Prop} {ts us : TS} {P P' : Hp → Prop} {C a p : Addr} {o o' : HO} {fs : List (Str × V)} {f : Str} {xs ys : List V} {b : Bool}
instance (priority := 1408) st_cont   : St (Go T L fun H => tCont ⟨N0, R0, B0, C0⟩ σ H) (Go T L fun H => C0 σ H) := ⟨fun k => g_cont  k⟩
end
section
variable {T : List (Addr × Str)} {L L1 L2' : List HP} {σ : L2.St} {Q : VK} {K : PySem.W.Frag} {v x y z : V} {i j : Int} {n : Nat} {ta tb tc te td : TE} {t u : TT} {r r' : R2} {N0 : L2.St → Hp → Prop} {R0 : VK} {B0 C0 : L2.St → Hp → Prop} {ts us : TS} {P P' : Hp → Prop} {C a p : Addr} {o o' : HO} {fs : List (Str × V)} {f : Str} {xs ys : List V} {b : Bool}
instance (priority := 1405) st_un {ru : V → Hp → VK → Prop}  : St (Go T L fun H => tUn ru ta σ H Q) (Go T L fun H => ta σ H fun x H1 => ru x H1 Q) := ⟨fun k => g_un  k⟩
end
section
variable {T : List (Addr × Str)} {L L1 L2' : List HP} {σ : L2.St} {Q : VK} {K : PySem.W.Frag} {v x y z : V} {i j : Int} {n : Nat} {ta tb tc te td : TE} {t u : TT} {r r' : R2} {N0 : L2.St → Hp → Prop} {R0 : VK} {B0 C0 : L2.St → Hp → Prop} {ts us : TS} {P P' : Hp → Prop} {C a p : Addr} {o o' : HO} {fs : List (Str × V)} {f : Str} {xs ys : List V} {b : Bool}
instance (priority := 1402) st_I0 {g : Int → Int → V}  : St (Go T L fun H => rI0 g (.int i) (.int j) H Q) (Go T L fun H => Q (g i j) H) := ⟨fun k => g_I0  k⟩
end
section
variable {T : List (Addr × Str)} {L L1 L2' : List HP} {σ : L2.St} {Q : VK} {K : PySem.W.Frag} {v x y z : V} {i j : Int} {n : Nat} {ta tb tc te td : TE} {t u : TT} {r r' : R2} {N0 : L2.St → Hp → Prop} {R0 : VK} {B0 C0 : L2.St → Hp → Prop} {ts us : TS} {P P' : Hp → Prop} {C a p : Addr} {o o' : HO} {fs : List (Str × V)} {f : Str} {xs ys : List V} {b : Bool}
instance (priority := 1399) st_addI   : St (Go T L fun H => rAddX K (.int i) (.int j) H Q) (Go T L fun H => Q (.int (i + j)) H) := ⟨fun k => g_addI  k⟩
end
section
variable {T : List (Addr × Str)} {L L1 L2' : List HP} {σ : L2.St} {Q : VK} {K : PySem.W.Frag} {v x y z : V} {i j : Int} {n : Nat} {ta tb tc te td : TE} {t u : TT} {r r' : R2} {N0 : L2.St → Hp → Prop} {R0 : VK} {B0 C0 : L2.St → Hp → Prop} {ts us : TS} {P P' : Hp → Prop} {C a p : Addr} {o o' : HO} {fs : List (Str × V)} {f : Str} {xs ys : List V} {b : Bool}
instance (priority := 1396) st_addB   : St (Go T L fun H => rAddX K (.int i) (.bl b) H Q) (Go T L fun H => Q (.int (i + b2i b)) H) := ⟨fun k => g_addB  k⟩
end
section
variable {T : List (Addr × Str)} {L L1 L2' : List HP} {σ : L2.St} {Q : VK} {K : PySem.W.Frag} {v x y z : V} {i j : Int} {n : Nat} {ta tb tc te td : TE} {t u : TT} {r r' : R2} {N0 : L2.St → Hp → Prop} {R0 : VK} {B0 C0 : L2.St → Hp → Prop} {ts us : TS} {P P' : Hp → Prop} {C a p : Addr} {o o' : HO} {fs : List (Str × V)} {f : Str} {xs ys : List V} {b : Bool}
instance (priority := 1393) st_U {g : Int → V}  : St (Go T L fun H => rU g (.int i) H Q) (Go T L fun H => Q (g i) H) := ⟨fun k => g_U  k⟩
end
section
variable {T : List (Addr × Str)} {L L1 L2' : List HP} {σ : L2.St} {Q : VK} {K : PySem.W.Frag} {v x y z : V} {i j : Int} {n : Nat} {ta tb tc te td : TE} {t u : TT} {r r' : R2} {N0 : L2.St → Hp → Prop} {R0 : VK} {B0 C0 : L2.St → Hp → Prop} {ts us : TS} {P P' : Hp → Prop} {C a p : Addr} {o o' : HO} {fs : List (Str × V)} {f : Str} {xs ys : List V} {b : Bool}
instance (priority := 1390) st_eqS  [zh : ScC x y] : St (Go T L fun H => rEqX K x y H Q) (Go T L fun H => Q (.bl (decide (x = y))) H) := ⟨fun k => g_eqS zh.h k⟩
end
section
variable {T : List (Addr × Str)} {L L1 L2' : List HP} {σ : L2.St} {Q : VK} {K : PySem.W.Frag} {v x y z : V} {i j : Int} {n : Nat} {ta tb tc te td : TE} {t u : TT} {r r' : R2} {N0 : L2.St → Hp → Prop} {R0 : VK} {B0 C0 : L2.St → Hp → Prop} {ts us : TS} {P P' : Hp → Prop} {C a p : Addr} {o o' : HO} {fs : List (Str × V)} {f : Str} {xs ys : List V} {b : Bool}
instance (priority := 1387) st_neS  [zh : ScC x y] : St (Go T L fun H => rNeX K x y H Q) (Go T L fun H => Q (.bl (!decide (x = y))) H) := ⟨fun k => g_neS zh.h k⟩
end
section
variable {T : List (Addr × Str)} {L L1 L2' : List HP} {σ : L2.St} {Q : VK} {K : PySem.W.Frag} {v x y z : V} {i j : Int} {n : Nat} {ta tb tc te td : TE} {t u : TT} {r r' : R2} {N0 : L2.St → Hp → Prop} {R0 : VK} {B0 C0 : L2.St → Hp → Prop} {ts us : TS} {P P' : Hp → Prop} {C a p : Addr} {o o' : HO} {fs : List (Str × V)} {f : Str} {xs ys : List V} {b : Bool}
instance (priority := 1384) st_isN   : St (Go T L fun H => rIsNX x .non H Q) (Go T L fun H => Q (.bl (decide (x = .non))) H) := ⟨fun k => g_isN  k⟩
end
section
variable {T : List (Addr × Str)} {L L1 L2' : List HP} {σ : L2.St} {Q : VK} {K : PySem.W.Frag} {v x y z : V} {i j : Int} {n : Nat} {ta tb tc te td : TE} {t u : TT} {r r' : R2} {N0 : L2.St → Hp → Prop} {R0 : VK} {B0 C0 : L2.St → Hp → Prop} {ts us : TS} {P P' : Hp → Prop} {C a p : Addr} {o o' : HO} {fs : List (Str × V)} {f : Str} {xs ys : List V} {b : Bool}
instance (priority := 1381) st_notN   : St (Go T L fun H => rNotNX x .non H Q) (Go T L fun H => Q (.bl (!decide (x = .non))) H) := ⟨fun k => g_notN  k⟩
end
section
variable {T : List (Addr × Str)} {L L1 L2' : List HP} {σ : L2.St} {Q : VK} {K : PySem.W.Frag} {v x y z : V} {i j : Int} {n : Nat} {ta tb tc te td : TE} {t u : TT} {r r' : R2} {N0 : L2.St → Hp → Prop} {R0 : VK} {B0 C0 : L2.St → Hp → Prop} {ts us : TS} {P P' : Hp → Prop} {C a p : Addr} {o o' : HO} {fs : List (Str × V)} {f : Str} {xs ys : List V} {b : Bool}
instance (priority := 1378) st_sl {rs : V → Option Int → Option Int → Hp → VK → Prop} {tl th : TO}  : St (Go T L fun H => tSl rs te tl th σ H Q) (Go T L fun H => te σ H fun x H1 => tl σ H1 fun l H2 => th σ H2 fun u H3 => rs x l u H3 Q) := ⟨fun k => g_sl  k⟩
end
section
variable {T : List (Addr × Str)} {L L1 L2' : List HP} {σ : L2.St} {Q : VK} {K : PySem.W.Frag} {v x y z : V} {i j : Int} {n : Nat} {ta tb tc te td : TE} {t u : TT} {r r' : R2} {N0 : L2.St → Hp → Prop} {R0 : VK} {B0 C0 : L2.St → Hp → Prop} {ts us : TS} {P P' : Hp → Prop} {C a p : Addr} {o o' : HO} {fs : List (Str × V)} {f : Str} {xs ys : List V} {b : Bool}
instance (priority := 1375) st_noPart {R : Option Int → Hp → Prop}  : St (Go T L fun H => tNoPart σ H R) (Go T L fun H => R none H) := ⟨fun k => g_noPart  k⟩
end
section
variable {T : List (Addr × Str)} {L L1 L2' : List HP} {σ : L2.St} {Q : VK} {K : PySem.W.Frag} {v x y z : V} {i j : Int} {n : Nat} {ta tb tc te td : TE} {t u : TT} {r r' : R2} {N0 : L2.St → Hp → Prop} {R0 : VK} {B0 C0 : L2.St → Hp → Prop} {ts us : TS} {P P' : Hp → Prop} {C a p : Addr} {o o' : HO} {fs : List (Str × V)} {f : Str} {xs ys : List V} {b : Bool}
instance (priority := 1372) st_part {R : Option Int → Hp → Prop}  : St (Go T L fun H => tPart te σ H R) (Go T L fun H => te σ H (lPart R)) := ⟨fun k => g_part  k⟩
end
section
variable {T : List (Addr × Str)} {L L1 L2' : List HP} {σ : L2.St} {Q : VK} {K : PySem.W.Frag} {v x y z : V} {i j : Int} {n : Nat} {ta tb tc te td : TE} {t u : TT} {r r' : R2} {N0 : L2.St → Hp → Prop} {R0 : VK} {B0 C0 : L2.St → Hp → Prop} {ts us : TS} {P P' : Hp → Prop} {C a p : Addr} {o o' : HO} {fs : List (Str × V)} {f : Str} {xs ys : List V} {b : Bool}
instance (priority := 1369) st_isSomeInt {R : Option Int → Hp → Prop}  : St (Go T L fun H => lPart R (.int i) H) (Go T L fun H => R (some i) H) := ⟨fun k => g_isSomeInt  k⟩
end
section
variable {T : List (Addr × Str)} {L L1 L2' : List HP} {σ : L2.St} {Q : VK} {K : PySem.W.Frag} {v x y z : V} {i j : Int} {n : Nat} {ta tb tc te td : TE} {t u : TT} {r r' : R2} {N0 : L2.St → Hp → Prop} {R0 : VK} {B0 C0 : L2.St → Hp → Prop} {ts us : TS} {P P' : Hp → Prop} {C a p : Addr} {o o' : HO} {fs : List (Str × V)} {f : Str} {xs ys : List V} {b : Bool}
instance (priority := 1366) st_tup {tr : TA}  : St (Go T L fun H => tTup tr σ H Q) (Go T L fun H => tr σ H (nTup Q)) := ⟨fun k => g_tup  k⟩
end
section
variable {T : List (Addr × Str)} {L L1 L2' : List HP} {σ : L2.St} {Q : VK} {K : PySem.W.Frag} {v x y z : V} {i j : Int} {n : Nat} {ta tb tc te td : TE} {t u : TT} {r r' : R2} {N0 : L2.St → Hp → Prop} {R0 : VK} {B0 C0 : L2.St → Hp → Prop} {ts us : TS} {P P' : Hp → Prop} {C a p : Addr} {o o' : HO} {fs : List (Str × V)} {f : Str} {xs ys : List V} {b : Bool}
instance (priority := 1363) st_lst {tr : TA}  : St (Go T L fun H => tLst tr σ H Q) (Go T L fun H => tr σ H (nLst Q)) := ⟨fun k => g_lst  k⟩
end
section
variable {T : List (Addr × Str)} {L L1 L2' : List HP} {σ : L2.St} {Q : VK} {K : PySem.W.Frag} {v x y z : V} {i j : Int} {n : Nat} {ta tb tc te td : TE} {t u : TT} {r r' : R2} {N0 : L2.St → Hp → Prop} {R0 : VK} {B0 C0 : L2.St → Hp → Prop} {ts us : TS} {P P' : Hp → Prop} {C a p : Addr} {o o' : HO} {fs : List (Str × V)} {f : Str} {xs ys : List V} {b : Bool}
instance (priority := 1360) st_make {sp : Sp} {E : XK} {tr : TA}  : St (Go T L fun H => tMake C sp [] E tr σ H Q) (Go T L fun H => tr σ H (nMk C sp E Q)) := ⟨fun k => g_make  k⟩
end
section
variable {T : List (Addr × Str)} {L L1 L2' : List HP} {σ : L2.St} {Q : VK} {K : PySem.W.Frag} {v x y z : V} {i j : Int} {n : Nat} {ta tb tc te td : TE} {t u : TT} {r r' : R2} {N0 : L2.St → Hp → Prop} {R0 : VK} {B0 C0 : L2.St → Hp → Prop} {ts us : TS} {P P' : Hp → Prop} {C a p : Addr} {o o' : HO} {fs : List (Str × V)} {f : Str} {xs ys : List V} {b : Bool}
instance (priority := 1357) st_cb {rc : List V → Hp → VK → Prop} {tr : TA}  : St (Go T L fun H => tCB rc tr σ H Q) (Go T L fun H => tr σ H fun vs H1 => rc vs H1 Q) := ⟨fun k => g_cb  k⟩
end
section
variable {T : List (Addr × Str)} {L L1 L2' : List HP} {σ : L2.St} {Q : VK} {K : PySem.W.Frag} {v x y z : V} {i j : Int} {n : Nat} {ta tb tc te td : TE} {t u : TT} {r r' : R2} {N0 : L2.St → Hp → Prop} {R0 : VK} {B0 C0 : L2.St → Hp → Prop} {ts us : TS} {P P' : Hp → Prop} {C a p : Addr} {o o' : HO} {fs : List (Str × V)} {f : Str} {xs ys : List V} {b : Bool}
instance (priority := 1354) st_int   : St (Go T L fun H => rIntX [.int i] H Q) (Go T L fun H => Q (.int i) H) := ⟨fun k => g_int  k⟩
end
section
variable {T : List (Addr × Str)} {L L1 L2' : List HP} {σ : L2.St} {Q : VK} {K : PySem.W.Frag} {v x y z : V} {i j : Int} {n : Nat} {ta tb tc te td : TE} {t u : TT} {r r' : R2} {N0 : L2.St → Hp → Prop} {R0 : VK} {B0 C0 : L2.St → Hp → Prop} {ts us : TS} {P P' : Hp → Prop} {C a p : Addr} {o o' : HO} {fs : List (Str × V)} {f : Str} {xs ys : List V} {b : Bool}
instance (priority := 1351) st_intB   : St (Go T L fun H => rIntX [.bl b] H Q) (Go T L fun H => Q (.int (if b then 1 else 0)) H) := ⟨fun k => g_intB  k⟩
end
section
variable {T : List (Addr × Str)} {L L1 L2' : List HP} {σ : L2.St} {Q : VK} {K : PySem.W.Frag} {v x y z : V} {i j : Int} {n : Nat} {ta tb tc te td : TE} {t u : TT} {r r' : R2} {N0 : L2.St → Hp → Prop} {R0 : VK} {B0 C0 : L2.St → Hp → Prop} {ts us : TS} {P P' : Hp → Prop} {C a p : Addr} {o o' : HO} {fs : List (Str × V)} {f : Str} {xs ys : List V} {b : Bool}
instance (priority := 1348) st_abs   : St (Go T L fun H => rAbsX [.int i] H Q) (Go T L fun H => Q (.int (if i < 0 then -i else i)) H) := ⟨fun k => g_abs  k⟩
end
section
variable {T : List (Addr × Str)} {L L1 L2' : List HP} {σ : L2.St} {Q : VK} {K : PySem.W.Frag} {v x y z : V} {i j : Int} {n : Nat} {ta tb tc te td : TE} {t u : TT} {r r' : R2} {N0 : L2.St → Hp → Prop} {R0 : VK} {B0 C0 : L2.St → Hp → Prop} {ts us : TS} {P P' : Hp → Prop} {C a p : Addr} {o o' : HO} {fs : List (Str × V)} {f : Str} {xs ys : List V} {b : Bool}
instance (priority := 1345) st_max2   : St (Go T L fun H => rMax2X [.int i, .int j] H Q) (Go T L fun H => Q (.int (if j > i then j else i)) H) := ⟨fun k => g_max2  k⟩
end
section
variable {T : List (Addr × Str)} {L L1 L2' : List HP} {σ : L2.St} {Q : VK} {K : PySem.W.Frag} {v x y z : V} {i j : Int} {n : Nat} {ta tb tc te td : TE} {t u : TT} {r r' : R2} {N0 : L2.St → Hp → Prop} {R0 : VK} {B0 C0 : L2.St → Hp → Prop} {ts us : TS} {P P' : Hp → Prop} {C a p : Addr} {o o' : HO} {fs : List (Str × V)} {f : Str} {xs ys : List V} {b : Bool}
instance (priority := 1342) st_min2   : St (Go T L fun H => rMin2X [.int i, .int j] H Q) (Go T L fun H => Q (.int (if j < i then j else i)) H) := ⟨fun k => g_min2  k⟩
end
section
variable {T : List (Addr × Str)} {L L1 L2' : List HP} {σ : L2.St} {Q : VK} {K : PySem.W.Frag} {v x y z : V} {i j : Int} {n : Nat} {ta tb tc te td : TE} {t u : TT} {r r' : R2} {N0 : L2.St → Hp → Prop} {R0 : VK} {B0 C0 : L2.St → Hp → Prop} {ts us : TS} {P P' : Hp → Prop} {C a p : Addr} {o o' : HO} {fs : List (Str × V)} {f : Str} {xs ys : List V} {b : Bool}
instance (priority := 1339) st_lenL {A : List HP} [zpk : PtC L a (.lst xs) A] : St (Go T L fun H => rLenX K [.ref a] H Q) (Go T L fun H => Q (.int xs.length) H) := ⟨fun k => g_lenL zpk.h k⟩
end
section
variable {T : List (Addr × Str)} {L L1 L2' : List HP} {σ : L2.St} {Q : VK} {K : PySem.W.Frag} {v x y z : V} {i j : Int} {n : Nat} {ta tb tc te td : TE} {t u : TT} {r r' : R2} {N0 : L2.St → Hp → Prop} {R0 : VK} {B0 C0 : L2.St → Hp → Prop} {ts us : TS} {P P' : Hp → Prop} {C a p : Addr} {o o' : HO} {fs : List (Str × V)} {f : Str} {xs ys : List V} {b : Bool}
instance (priority := 1336) st_lenT {A : List HP} [zpk : PtC L a (.tup xs) A] : St (Go T L fun H => rLenX K [.ref a] H Q) (Go T L fun H => Q (.int xs.length) H) := ⟨fun k => g_lenT zpk.h k⟩
end
section
variable {T : List (Addr × Str)} {L L1 L2' : List HP} {σ : L2.St} {Q : VK} {K : PySem.W.Frag} {v x y z : V} {i j : Int} {n : Nat} {ta tb tc te td : TE} {t u : TT} {r r' : R2} {N0 : L2.St → Hp → Prop} {R0 : VK} {B0 C0 : L2.St → Hp → Prop} {ts us : TS} {P P' : Hp → Prop} {C a p : Addr} {o o' : HO} {fs : List (Str × V)} {f : Str} {xs ys : List V} {b : Bool}
instance (priority := 1333) st_lenD {A : List HP} {kvs : List (Key × V)} [zpk : PtC L a (.dK kvs) A] : St (Go T L fun H => rLenD [.ref a] H Q) (Go T L fun H => Q (.int kvs.length) H) := ⟨fun k => g_lenD zpk.h k⟩
end
section
variable {T : List (Addr × Str)} {L L1 L2' : List HP} {σ : L2.St} {Q : VK} {K : PySem.W.Frag} {v x y z : V} {i j : Int} {n : Nat} {ta tb tc te td : TE} {t u : TT} {r r' : R2} {N0 : L2.St → Hp → Prop} {R0 : VK} {B0 C0 : L2.St → Hp → Prop} {ts us : TS} {P P' : Hp → Prop} {C a p : Addr} {o o' : HO} {fs : List (Str × V)} {f : Str} {xs ys : List V} {b : Bool}
instance (priority := 1330) st_bm {rm : V → List V → Hp → VK → Prop} {tr : TA}  : St (Go T L fun H => tBM K "list" rm ta tr σ H Q) (Go T L fun H => ta σ H fun x H1 => tyV K "list" x H1 ∧ tr σ H1 fun vs H2 => rm x vs H2 Q) := ⟨fun k => g_bm  k⟩
end
section
variable {T : List (Addr × Str)} {L L1 L2' : List HP} {σ : L2.St} {Q : VK} {K : PySem.W.Frag} {v x y z : V} {i j : Int} {n : Nat} {ta tb tc te td : TE} {t u : TT} {r r' : R2} {N0 : L2.St → Hp → Prop} {R0 : VK} {B0 C0 : L2.St → Hp → Prop} {ts us : TS} {P P' : Hp → Prop} {C a p : Addr} {o o' : HO} {fs : List (Str × V)} {f : Str} {xs ys : List V} {b : Bool}
instance (priority := 1327) st_bm0 {rm : V → List V → Hp → VK → Prop}  : St (Go T L fun H => tBM0 K "list" rm ta σ H Q) (Go T L fun H => ta σ H fun x H1 => tyV K "list" x H1 ∧ rm x [] H1 Q) := ⟨fun k => g_bm0  k⟩
end
section
variable {T : List (Addr × Str)} {L L1 L2' : List HP} {σ : L2.St} {Q : VK} {K : PySem.W.Frag} {v x y z : V} {i j : Int} {n : Nat} {ta tb tc te td : TE} {t u : TT} {r r' : R2} {N0 : L2.St → Hp → Prop} {R0 : VK} {B0 C0 : L2.St → Hp → Prop} {ts us : TS} {P P' : Hp → Prop} {C a p : Addr} {o o' : HO} {fs : List (Str × V)} {f : Str} {xs ys : List V} {b : Bool}
instance (priority := 1324) st_tyL {A : List HP} [zpk : PtC L a (.lst xs) A] : St (Go T L fun H => tyV K "list" (.ref a) H ∧ P H) (Go T L P) := ⟨fun k => g_tyL zpk.h k⟩
end
section
variable {T : List (Addr × Str)} {L L1 L2' : List HP} {σ : L2.St} {Q : VK} {K : PySem.W.Frag} {v x y z : V} {i j : Int} {n : Nat} {ta tb tc te td : TE} {t u : TT} {r r' : R2} {N0 : L2.St → Hp → Prop} {R0 : VK} {B0 C0 : L2.St → Hp → Prop} {ts us : TS} {P P' : Hp → Prop} {C a p : Addr} {o o' : HO} {fs : List (Str × V)} {f : Str} {xs ys : List V} {b : Bool}
instance (priority := 1321) st_not {R : Bool → Hp → Prop}  : St (Go T L fun H => tNot t σ H R) (Go T L fun H => t σ H fun c H1 => R (!c) H1) := ⟨fun k => g_not  k⟩
end
section
variable {T : List (Addr × Str)} {L L1 L2' : List HP} {σ : L2.St} {Q : VK} {K : PySem.W.Frag} {v x y z : V} {i j : Int} {n : Nat} {ta tb tc te td : TE} {t u : TT} {r r' : R2} {N0 : L2.St → Hp → Prop} {R0 : VK} {B0 C0 : L2.St → Hp → Prop} {ts us : TS} {P P' : Hp → Prop} {C a p : Addr} {o o' : HO} {fs : List (Str × V)} {f : Str} {xs ys : List V} {b : Bool}
instance (priority := 1318) st_tand {R : Bool → Hp → Prop}  : St (Go T L fun H => tAnd t u σ H R) (Go T L fun H => t σ H fun c H1 => if c = true then u σ H1 R else R false H1) := ⟨fun k => g_tand  k⟩
end
section
variable {T : List (Addr × Str)} {L L1 L2' : List HP} {σ : L2.St} {Q : VK} {K : PySem.W.Frag} {v x y z : V} {i j : Int} {n : Nat} {ta tb tc te td : TE} {t u : TT} {r r' : R2} {N0 : L2.St → Hp → Prop} {R0 : VK} {B0 C0 : L2.St → Hp → Prop} {ts us : TS} {P P' : Hp → Prop} {C a p : Addr} {o o' : HO} {fs : List (Str × V)} {f : Str} {xs ys : List V} {b : Bool}
instance (priority := 1315) st_tor {R : Bool → Hp → Prop}  : St (Go T L fun H => tOr t u σ H R) (Go T L fun H => t σ H fun c H1 => if c = true then R true H1 else u σ H1 R) := ⟨fun k => g_tor  k⟩
end
section
variable {T : List (Addr × Str)} {L L1 L2' : List HP} {σ : L2.St} {Q : VK} {K : PySem.W.Frag} {v x y z : V} {i j : Int} {n : Nat} {ta tb tc te td : TE} {t u : TT} {r r' : R2} {N0 : L2.St → Hp → Prop} {R0 : VK} {B0 C0 : L2.St → Hp → Prop} {ts us : TS} {P P' : Hp → Prop} {C a p : Addr} {o o' : HO} {fs : List (Str × V)} {f : Str} {xs ys : List V} {b : Bool}
instance (priority := 1312) st_andV   : St (Go T L fun H => tAndV ta tb σ H Q) (Go T L fun H => ta σ H fun x H1 => ∃ c, x = .bl c ∧ if c = true then tb σ H1 Q else Q (.bl false) H1) := ⟨fun k => g_andV  k⟩
end
section
variable {T : List (Addr × Str)} {L L1 L2' : List HP} {σ : L2.St} {Q : VK} {K : PySem.W.Frag} {v x y z : V} {i j : Int} {n : Nat} {ta tb tc te td : TE} {t u : TT} {r r' : R2} {N0 : L2.St → Hp → Prop} {R0 : VK} {B0 C0 : L2.St → Hp → Prop} {ts us : TS} {P P' : Hp → Prop} {C a p : Addr} {o o' : HO} {fs : List (Str × V)} {f : Str} {xs ys : List V} {b : Bool}
instance (priority := 1309) st_orV   : St (Go T L fun H => tOrV ta tb σ H Q) (Go T L fun H => ta σ H fun x H1 => ∃ c, x = .bl c ∧ if c = true then Q (.bl true) H1 else tb σ H1 Q) := ⟨fun k => g_orV  k⟩
end
section
variable {T : List (Addr × Str)} {L L1 L2' : List HP} {σ : L2.St} {Q : VK} {K : PySem.W.Frag} {v x y z : V} {i j : Int} {n : Nat} {ta tb tc te td : TE} {t u : TT} {r r' : R2} {N0 : L2.St → Hp → Prop} {R0 : VK} {B0 C0 : L2.St → Hp → Prop} {ts us : TS} {P P' : Hp → Prop} {C a p : Addr} {o o' : HO} {fs : List (Str × V)} {f : Str} {xs ys : List V} {b : Bool}
instance (priority := 1306) st_notV   : St (Go T L fun H => tNotV ta σ H Q) (Go T L fun H => ta σ H fun x H1 => ∃ c, x = .bl c ∧ Q (.bl (!c)) H1) := ⟨fun k => g_notV  k⟩
end
section
variable {T : List (Addr × Str)} {L L1 L2' : List HP} {σ : L2.St} {Q : VK} {K : PySem.W.Frag} {v x y z : V} {i j : Int} {n : Nat} {ta tb tc te td : TE} {t u : TT} {r r' : R2} {N0 : L2.St → Hp → Prop} {R0 : VK} {B0 C0 : L2.St → Hp → Prop} {ts us : TS} {P P' : Hp → Prop} {C a p : Addr} {o o' : HO} {fs : List (Str × V)} {f : Str} {xs ys : List V} {b : Bool}
instance (priority := 1303) st_ifE   : St (Go T L fun H => tIf t ta tb σ H Q) (Go T L fun H => t σ H fun c H1 => if c = true then ta σ H1 Q else tb σ H1 Q) := ⟨fun k => g_ifE  k⟩
end
section
variable {T : List (Addr × Str)} {L L1 L2' : List HP} {σ : L2.St} {Q : VK} {K : PySem.W.Frag} {v x y z : V} {i j : Int} {n : Nat} {ta tb tc te td : TE} {t u : TT} {r r' : R2} {N0 : L2.St → Hp → Prop} {R0 : VK} {B0 C0 : L2.St → Hp → Prop} {ts us : TS} {P P' : Hp → Prop} {C a p : Addr} {o o' : HO} {fs : List (Str × V)} {f : Str} {xs ys : List V} {b : Bool}
instance (priority := 1300) st_chain   : St (Go T L fun H => tChain r r' ta tb tc σ H Q) (Go T L fun H => ta σ H fun x H1 => tb σ H1 fun y H2 => r x y H2 fun z H3 => ∃ k, z = .bl k ∧ (if k = true then tc σ H3 fun w' H4 => r' y w' H4 Q else Q (.bl false) H3)) := ⟨fun k => g_chain  k⟩
end
section
variable {T : List (Addr × Str)} {L L1 L2' : List HP} {σ : L2.St} {Q : VK} {K : PySem.W.Frag} {v x y z : V} {i j : Int} {n : Nat} {ta tb tc te td : TE} {t u : TT} {r r' : R2} {N0 : L2.St → Hp → Prop} {R0 : VK} {B0 C0 : L2.St → Hp → Prop} {ts us : TS} {P P' : Hp → Prop} {C a p : Addr} {o o' : HO} {fs : List (Str × V)} {f : Str} {xs ys : List V} {b : Bool}
instance (priority := 1297) st_truI {R : Bool → Hp → Prop}  : St (Go T L fun H => ∃ k, TruV K (.int i) H k ∧ R k H) (Go T L fun H => R (i != 0) H) := ⟨fun k => g_truI  k⟩
end
section
variable {T : List (Addr × Str)} {L L1 L2' : List HP} {σ : L2.St} {Q : VK} {K : PySem.W.Frag} {v x y z : V} {i j : Int} {n : Nat} {ta tb tc te td : TE} {t u : TT} {r r' : R2} {N0 : L2.St → Hp → Prop} {R0 : VK} {B0 C0 : L2.St → Hp → Prop} {ts us : TS} {P P' : Hp → Prop} {C a p : Addr} {o o' : HO} {fs : List (Str × V)} {f : Str} {xs ys : List V} {b : Bool}
instance (priority := 1294) st_truN {R : Bool → Hp → Prop}  : St (Go T L fun H => ∃ k, TruV K .non H k ∧ R k H) (Go T L fun H => R false H) := ⟨fun k => g_truN  k⟩
end
section
variable {T : List (Addr × Str)} {L L1 L2' : List HP} {σ : L2.St} {Q : VK} {K : PySem.W.Frag} {v x y z : V} {i j : Int} {n : Nat} {ta tb tc te td : TE} {t u : TT} {r r' : R2} {N0 : L2.St → Hp → Prop} {R0 : VK} {B0 C0 : L2.St → Hp → Prop} {ts us : TS} {P P' : Hp → Prop} {C a p : Addr} {o o' : HO} {fs : List (Str × V)} {f : Str} {xs ys : List V} {b : Bool}
instance (priority := 1291) st_truL {A : List HP} {R : Bool → Hp → Prop} [zpk : PtC L a (.lst xs) A] : St (Go T L fun H => ∃ k, TruV K (.ref a) H k ∧ R k H) (Go T L fun H => R (!xs.isEmpty) H) := ⟨fun k => g_truL zpk.h k⟩
end
section
variable {T : List (Addr × Str)} {L L1 L2' : List HP} {σ : L2.St} {Q : VK} {K : PySem.W.Frag} {v x y z : V} {i j : Int} {n : Nat} {ta tb tc te td : TE} {t u : TT} {r r' : R2} {N0 : L2.St → Hp → Prop} {R0 : VK} {B0 C0 : L2.St → Hp → Prop} {ts us : TS} {P P' : Hp → Prop} {C a p : Addr} {o o' : HO} {fs : List (Str × V)} {f : Str} {xs ys : List V} {b : Bool}
instance (priority := 1288) st_gsub {to ti : TE} {tt : TSet} {N : L2.St → Hp → Prop}  : St (Go T L fun H => gSub to ti tt v σ H N) (Go T L fun H => to σ H fun o H1 => ti σ H1 fun i H2 => tt o i v H2 fun H3 => N σ H3) := ⟨fun k => g_gsub  k⟩
end
section
variable {T : List (Addr × Str)} {L L1 L2' : List HP} {σ : L2.St} {Q : VK} {K : PySem.W.Frag} {v x y z : V} {i j : Int} {n : Nat} {ta tb tc te td : TE} {t u : TT} {r r' : R2} {N0 : L2.St → Hp → Prop} {R0 : VK} {B0 C0 : L2.St → Hp → Prop} {ts us : TS} {P P' : Hp → Prop} {C a p : Addr} {o o' : HO} {fs : List (Str × V)} {f : Str} {xs ys : List V} {b : Bool}
instance (priority := 1285) st_gnil {N : L2.St → Hp → Prop}  : St (Go T L fun H => gNil [] σ H N) (Go T L fun H => N σ H) := ⟨fun k => g_gnil  k⟩
end
section
variable {T : List (Addr × Str)} {L L1 L2' : List HP} {σ : L2.St} {Q : VK} {K : PySem.W.Frag} {v x y z : V} {i j : Int} {n : Nat} {ta tb tc te td : TE} {t u : TT} {r r' : R2} {N0 : L2.St → Hp → Prop} {R0 : VK} {B0 C0 : L2.St → Hp → Prop} {ts us : TS} {P P' : Hp → Prop} {C a p : Addr} {o o' : HO} {fs : List (Str × V)} {f : Str} {xs ys : List V} {b : Bool}
instance (priority := 1282) st_gcons {g : TG} {tg : TGs} {vs : List V} {N : L2.St → Hp → Prop}  : St (Go T L fun H => gCons g tg (v :: vs) σ H N) (Go T L fun H => g v σ H fun σ' H' => tg vs σ' H' N) := ⟨fun k => g_gcons  k⟩
end
section
variable {T : List (Addr × Str)} {L : List HP} {σ : L2.St} {Q : VK} {K : PySem.W.Frag} {v x y z : V} {i j : Int} {n m : Nat} {ta tb tc te td ty tv : TE} {N0 : L2.St → Hp → Prop} {R0 : VK} {B0 C0 : L2.St → Hp → Prop} {a b p : Addr} {xs ys vs ws : List V} {ns ms : List Int} {kvs : List (Key × V)} {A B D : List HP}
instance (priority := 1267) st_listRg {te : L2.St → Hp → (Int → Int → Hp → Prop) → Prop}  : St (Go T L fun H => tLstRg te σ H Q) (Go T L fun H => te σ H (lRgL Q)) := ⟨fun k => g_listRg  k⟩
end
section
variable {T : List (Addr × Str)} {L : List HP} {σ : L2.St} {Q : VK} {K : PySem.W.Frag} {v x y z : V} {i j : Int} {n m : Nat} {ta tb tc te td ty tv : TE} {N0 : L2.St → Hp → Prop} {R0 : VK} {B0 C0 : L2.St → Hp → Prop} {a b p : Addr} {xs ys vs ws : List V} {ns ms : List Int} {kvs : List (Key × V)} {A B D : List HP}
instance (priority := 1264) st_rg1E {R : Int → Int → Hp → Prop}  : St (Go T L fun H => tRg1 ta σ H R) (Go T L fun H => ta σ H (lRg1 R)) := ⟨fun k => g_rg1E  k⟩
end
section
variable {T : List (Addr × Str)} {L : List HP} {σ : L2.St} {Q : VK} {K : PySem.W.Frag} {v x y z : V} {i j : Int} {n m : Nat} {ta tb tc te td ty tv : TE} {N0 : L2.St → Hp → Prop} {R0 : VK} {B0 C0 : L2.St → Hp → Prop} {a b p : Addr} {xs ys vs ws : List V} {ns ms : List Int} {kvs : List (Key × V)} {A B D : List HP}
instance (priority := 1261) st_rg1 {R : Int → Int → Hp → Prop}  : St (Go T L fun H => lRg1 R (.int i) H) (Go T L fun H => R 0 i H) := ⟨fun k => g_rg1  k⟩
end
section
variable {T : List (Addr × Str)} {L : List HP} {σ : L2.St} {Q : VK} {K : PySem.W.Frag} {v x y z : V} {i j : Int} {n m : Nat} {ta tb tc te td ty tv : TE} {N0 : L2.St → Hp → Prop} {R0 : VK} {B0 C0 : L2.St → Hp → Prop} {a b p : Addr} {xs ys vs ws : List V} {ns ms : List Int} {kvs : List (Key × V)} {A B D : List HP}
instance (priority := 1258) st_dinE   : St (Go T L fun H => tDIn ty td σ H Q) (Go T L fun H => ty σ H fun y H1 => td σ H1 (lDIn Q y)) := ⟨fun k => g_dinE  k⟩
end
section
variable {T : List (Addr × Str)} {L : List HP} {σ : L2.St} {Q : VK} {K : PySem.W.Frag} {v x y z : V} {i j : Int} {n m : Nat} {ta tb tc te td ty tv : TE} {N0 : L2.St → Hp → Prop} {R0 : VK} {B0 C0 : L2.St → Hp → Prop} {a b p : Addr} {xs ys vs ws : List V} {ns ms : List Int} {kvs : List (Key × V)} {A B D : List HP}
instance (priority := 1255) st_dnotinE   : St (Go T L fun H => tDNotIn ty td σ H Q) (Go T L fun H => ty σ H fun y H1 => td σ H1 (lDNotIn Q y)) := ⟨fun k => g_dnotinE  k⟩
end
section
variable {T : List (Addr × Str)} {L : List HP} {σ : L2.St} {Q : VK} {K : PySem.W.Frag} {v x y z : V} {i j : Int} {n m : Nat} {ta tb tc te td ty tv : TE} {N0 : L2.St → Hp → Prop} {R0 : VK} {B0 C0 : L2.St → Hp → Prop} {a b p : Addr} {xs ys vs ws : List V} {ns ms : List Int} {kvs : List (Key × V)} {A B D : List HP}
instance (priority := 1252) st_dgetE   : St (Go T L fun H => tDGet td ty σ H Q) (Go T L fun H => td σ H fun x H1 => ty σ H1 (lDGet Q x)) := ⟨fun k => g_dgetE  k⟩
end
section
variable {T : List (Addr × Str)} {L : List HP} {σ : L2.St} {Q : VK} {K : PySem.W.Frag} {v x y z : V} {i j : Int} {n m : Nat} {ta tb tc te td ty tv : TE} {N0 : L2.St → Hp → Prop} {R0 : VK} {B0 C0 : L2.St → Hp → Prop} {a b p : Addr} {xs ys vs ws : List V} {ns ms : List Int} {kvs : List (Key × V)} {A B D : List HP}
instance (priority := 1249) st_dputE   : St (Go T L fun H => sDPut td ty tv ⟨N0, R0, B0, C0⟩ σ H) (Go T L fun H => tv σ H fun v H1 => td σ H1 fun x H2 => ty σ H2 (lDPut (N0 σ) v x)) := ⟨fun k => g_dputE  k⟩
end
section
variable {T : List (Addr × Str)} {L : List HP} {σ : L2.St} {Q : VK} {K : PySem.W.Frag} {v x y z : V} {i j : Int} {n m : Nat} {ta tb tc te td ty tv : TE} {N0 : L2.St → Hp → Prop} {R0 : VK} {B0 C0 : L2.St → Hp → Prop} {a b p : Addr} {xs ys vs ws : List V} {ns ms : List Int} {kvs : List (Key × V)} {A B D : List HP}
instance (priority := 1246) st_dpopE   : St (Go T L fun H => tDPop1 td ty σ H Q) (Go T L fun H => td σ H (lDPopA ty σ Q)) := ⟨fun k => g_dpopE  k⟩
end
section
variable {T : List (Addr × Str)} {L : List HP} {σ : L2.St} {Q : VK} {K : PySem.W.Frag} {v x y z : V} {i j : Int} {n m : Nat} {ta tb tc te td ty tv : TE} {N0 : L2.St → Hp → Prop} {R0 : VK} {B0 C0 : L2.St → Hp → Prop} {a b p : Addr} {xs ys vs ws : List V} {ns ms : List Int} {kvs : List (Key × V)} {A B D : List HP}
instance (priority := 1243) st_dpopA  [zpk : PtC L a (.dK kvs) A] : St (Go T L fun H => lDPopA ty σ Q (.ref a) H) (Go T L fun H => ty σ H (lDPopB a Q)) := ⟨fun k => g_dpopA zpk.h k⟩
end
section
variable {T : List (Addr × Str)} {L : List HP} {σ : L2.St} {Q : VK} {K : PySem.W.Frag} {v x y z : V} {i j : Int} {n m : Nat} {ta tb tc te td ty tv : TE} {N0 : L2.St → Hp → Prop} {R0 : VK} {B0 C0 : L2.St → Hp → Prop} {a b p : Addr} {xs ys vs ws : List V} {ns ms : List Int} {kvs : List (Key × V)} {A B D : List HP}
instance (priority := 1240) st_dinI  [zpk : PtC L a (.dK kvs) A] : St (Go T L fun H => lDIn Q (.int i) (.ref a) H) (Go T L fun H => Q (.bl (valV kvs (Sum.inl i)).isSome) H) := ⟨fun k => g_dinI zpk.h k⟩
end
section
variable {T : List (Addr × Str)} {L : List HP} {σ : L2.St} {Q : VK} {K : PySem.W.Frag} {v x y z : V} {i j : Int} {n m : Nat} {ta tb tc te td ty tv : TE} {N0 : L2.St → Hp → Prop} {R0 : VK} {B0 C0 : L2.St → Hp → Prop} {a b p : Addr} {xs ys vs ws : List V} {ns ms : List Int} {kvs : List (Key × V)} {A B D : List HP}
instance (priority := 1237) st_dnotinI  [zpk : PtC L a (.dK kvs) A] : St (Go T L fun H => lDNotIn Q (.int i) (.ref a) H) (Go T L fun H => Q (.bl (!(valV kvs (Sum.inl i)).isSome)) H) := ⟨fun k => g_dnotinI zpk.h k⟩
end
section
variable {T : List (Addr × Str)} {L A B R : List HP} {σ : L2.St} {Q : VK} {K : PySem.W.Frag} {H H' : Hp} {v x y : V} {vs ws xs : List V} {d e : Dt} {ds es : List Dt} {a b t p : Addr} {G : Hp → Prop} {k n : Nat} {i j : Int} {s : Str}
variable {kvs : List (Key × V)}
instance (priority := 1234) st_dinS  [zpk : PtC L a (.dK kvs) A] : St (Go T L fun H => lDIn Q (.str s) (.ref a) H) (Go T L fun H => Q (.bl (valV kvs (Sum.inr s)).isSome) H) := ⟨fun k => g_dinS zpk.h k⟩
end
section
variable {T : List (Addr × Str)} {L A B R : List HP} {σ : L2.St} {Q : VK} {K : PySem.W.Frag} {H H' : Hp} {v x y : V} {vs ws xs : List V} {d e : Dt} {ds es : List Dt} {a b t p : Addr} {G : Hp → Prop} {k n : Nat} {i j : Int} {s : Str}
variable {kvs : List (Key × V)}
instance (priority := 1231) st_dnotinS  [zpk : PtC L a (.dK kvs) A] : St (Go T L fun H => lDNotIn Q (.str s) (.ref a) H) (Go T L fun H => Q (.bl (!(valV kvs (Sum.inr s)).isSome)) H) := ⟨fun k => g_dnotinS zpk.h k⟩
end
section
variable {T : List (Addr × Str)} {L L1 L2' : List HP} {σ : L2.St} {Q : VK} {K : PySem.W.Frag} {v x y z : V} {i j : Int} {n : Nat} {ta tb tc te td : TE} {t u : TT} {r r' : R2} {N0 : L2.St → Hp → Prop} {R0 : VK} {B0 C0 : L2.St → Hp → Prop} {ts us : TS} {P P' : Hp → Prop} {C a p : Addr} {o o' : HO} {fs : List (Str × V)} {f : Str} {xs ys : List V} {b : Bool}
instance (priority := 1228) st_sfldE {tv : TE}  : St (Go T L fun H => sFldC C f ta tv ⟨N0, R0, B0, C0⟩ σ H) (Go T L fun H => tv σ H fun y H1 => ta σ H1 (lSFld C f y (N0 σ))) := ⟨fun k => g_sfldE  k⟩
end
section
variable {T : List (Addr × Str)} {L L1 L2' : List HP} {σ : L2.St} {Q : VK} {K : PySem.W.Frag} {v x y z : V} {i j : Int} {n : Nat} {ta tb tc te td : TE} {t u : TT} {r r' : R2} {N0 : L2.St → Hp → Prop} {R0 : VK} {B0 C0 : L2.St → Hp → Prop} {ts us : TS} {P P' : Hp → Prop} {C a p : Addr} {o o' : HO} {fs : List (Str × V)} {f : Str} {xs ys : List V} {b : Bool}
instance (priority := 1225) st_sfld {A : List HP} {fs' : List (Str × V)} {N : Hp → Prop} [zpk : ObC L a C fs A] [zh : PfC f y fs fs'] [zhl : LnC fs] : St (Go T L fun H => lSFld C f y N (.ref a) H) (Go T (ob a C fs' :: A) N) := ⟨fun k => g_sfld zpk.h zh.h zhl.h k⟩
end
section
variable {T : List (Addr × Str)} {L L1 L2' : List HP} {σ : L2.St} {Q : VK} {K : PySem.W.Frag} {v x y z : V} {i j : Int} {n : Nat} {ta tb tc te td : TE} {t u : TT} {r r' : R2} {N0 : L2.St → Hp → Prop} {R0 : VK} {B0 C0 : L2.St → Hp → Prop} {ts us : TS} {P P' : Hp → Prop} {C a p : Addr} {o o' : HO} {fs : List (Str × V)} {f : Str} {xs ys : List V} {b : Bool}
instance (priority := 1222) st_augE {tv : TE} {rd : V → V → Hp → VK → Prop}  : St (Go T L fun H => sAugC C f ta tv rd ⟨N0, R0, B0, C0⟩ σ H) (Go T L fun H => ta σ H (lAugF C f tv rd σ (N0 σ))) := ⟨fun k => g_augE  k⟩
end
section
variable {T : List (Addr × Str)} {L L1 L2' : List HP} {σ : L2.St} {Q : VK} {K : PySem.W.Frag} {v x y z : V} {i j : Int} {n : Nat} {ta tb tc te td : TE} {t u : TT} {r r' : R2} {N0 : L2.St → Hp → Prop} {R0 : VK} {B0 C0 : L2.St → Hp → Prop} {ts us : TS} {P P' : Hp → Prop} {C a p : Addr} {o o' : HO} {fs : List (Str × V)} {f : Str} {xs ys : List V} {b : Bool}
instance (priority := 1219) st_augF {A : List HP} {tv : TE} {rd : V → V → Hp → VK → Prop} {N : Hp → Prop} [zpk : ObC L a C fs A] [zh : LkC fs f v] : St (Go T L fun H => lAugF C f tv rd σ N (.ref a) H) (Go T L fun H => tv σ H fun y H2 => rd v y H2 fun z H3 => lSFld C f z N (.ref a) H3) := ⟨fun k => g_augF zpk.h zh.h k⟩
end
section
variable {T : List (Addr × Str)} {L L1 L2' : List HP} {σ : L2.St} {Q : VK} {K : PySem.W.Frag} {v x y z : V} {i j : Int} {n : Nat} {ta tb tc te td : TE} {t u : TT} {r r' : R2} {N0 : L2.St → Hp → Prop} {R0 : VK} {B0 C0 : L2.St → Hp → Prop} {ts us : TS} {P P' : Hp → Prop} {C a p : Addr} {o o' : HO} {fs : List (Str × V)} {f : Str} {xs ys : List V} {b : Bool}
instance (priority := 1213) st_ipI {g : Int → Int → Int}  : St (Go T L fun H => ipI g (.int i) (.int j) H Q) (Go T L fun H => Q (.int (g i j)) H) := ⟨fun k => g_ipI  k⟩
end
section
variable {T : List (Addr × Str)} {L L1 L2' : List HP} {σ : L2.St} {Q : VK} {K : PySem.W.Frag} {v x y z : V} {i j : Int} {n : Nat} {ta tb tc te td : TE} {t u : TT} {r r' : R2} {N0 : L2.St → Hp → Prop} {R0 : VK} {B0 C0 : L2.St → Hp → Prop} {ts us : TS} {P P' : Hp → Prop} {C a p : Addr} {o o' : HO} {fs : List (Str × V)} {f : Str} {xs ys : List V} {b : Bool}
instance (priority := 1210) st_rAdd   : St (Go T L fun H => rAdd (.int i) (.int j) H Q) (Go T L fun H => Q (.int (i + j)) H) := ⟨fun k => g_rAdd  k⟩
end
section
variable {T : List (Addr × Str)} {L L1 L2' : List HP} {σ : L2.St} {Q : VK} {K : PySem.W.Frag} {v x y z : V} {i j : Int} {n : Nat} {ta tb tc te td : TE} {t u : TT} {r r' : R2} {N0 : L2.St → Hp → Prop} {R0 : VK} {B0 C0 : L2.St → Hp → Prop} {ts us : TS} {P P' : Hp → Prop} {C a p : Addr} {o o' : HO} {fs : List (Str × V)} {f : Str} {xs ys : List V} {b : Bool}
instance (priority := 1207) st_rSub   : St (Go T L fun H => rSub (.int i) (.int j) H Q) (Go T L fun H => Q (.int (i - j)) H) := ⟨fun k => g_rSub  k⟩
end
section
variable {T : List (Addr × Str)} {L L1 L2' : List HP} {σ : L2.St} {Q : VK} {K : PySem.W.Frag} {v x y z : V} {i j : Int} {n : Nat} {ta tb tc te td : TE} {t u : TT} {r r' : R2} {N0 : L2.St → Hp → Prop} {R0 : VK} {B0 C0 : L2.St → Hp → Prop} {ts us : TS} {P P' : Hp → Prop} {C a p : Addr} {o o' : HO} {fs : List (Str × V)} {f : Str} {xs ys : List V} {b : Bool}
instance (priority := 1204) st_for {wi : TI} {g : TG}  : St (Go T L fun H => tFor wi g ts ⟨N0, R0, B0, C0⟩ σ H) (Go T L fun H => wi σ H fun J H1 => ForG J g ts N0 R0 σ H1) := ⟨fun k => g_for  k⟩
end
section
variable {T : List (Addr × Str)} {L L1 L2' : List HP} {σ : L2.St} {Q : VK} {K : PySem.W.Frag} {v x y z : V} {i j : Int} {n : Nat} {ta tb tc te td : TE} {t u : TT} {r r' : R2} {N0 : L2.St → Hp → Prop} {R0 : VK} {B0 C0 : L2.St → Hp → Prop} {ts us : TS} {P P' : Hp → Prop} {C a p : Addr} {o o' : HO} {fs : List (Str × V)} {f : Str} {xs ys : List V} {b : Bool}
instance (priority := 1201) st_iRng1 {tr : TA} {R : It → Hp → Prop}  : St (Go T L fun H => iRng1 tr σ H R) (Go T L fun H => tr σ H (lRng1 R)) := ⟨fun k => g_iRng1  k⟩
end
section
variable {T : List (Addr × Str)} {L L1 L2' : List HP} {σ : L2.St} {Q : VK} {K : PySem.W.Frag} {v x y z : V} {i j : Int} {n : Nat} {ta tb tc te td : TE} {t u : TT} {r r' : R2} {N0 : L2.St → Hp → Prop} {R0 : VK} {B0 C0 : L2.St → Hp → Prop} {ts us : TS} {P P' : Hp → Prop} {C a p : Addr} {o o' : HO} {fs : List (Str × V)} {f : Str} {xs ys : List V} {b : Bool}
instance (priority := 1198) st_iRng2 {tr : TA} {R : It → Hp → Prop}  : St (Go T L fun H => iRng2 tr σ H R) (Go T L fun H => tr σ H (lRng2 R)) := ⟨fun k => g_iRng2  k⟩
end
section
variable {T : List (Addr × Str)} {L L1 L2' : List HP} {σ : L2.St} {Q : VK} {K : PySem.W.Frag} {v x y z : V} {i j : Int} {n : Nat} {ta tb tc te td : TE} {t u : TT} {r r' : R2} {N0 : L2.St → Hp → Prop} {R0 : VK} {B0 C0 : L2.St → Hp → Prop} {ts us : TS} {P P' : Hp → Prop} {C a p : Addr} {o o' : HO} {fs : List (Str × V)} {f : Str} {xs ys : List V} {b : Bool}
instance (priority := 1195) st_iSeqE {R : It → Hp → Prop}  : St (Go T L fun H => iSeq K te σ H R) (Go T L fun H => te σ H (lSeq K R)) := ⟨fun k => g_iSeqE  k⟩
end
section
variable {T : List (Addr × Str)} {L L1 L2' : List HP} {σ : L2.St} {Q : VK} {K : PySem.W.Frag} {v x y z : V} {i j : Int} {n : Nat} {ta tb tc te td : TE} {t u : TT} {r r' : R2} {N0 : L2.St → Hp → Prop} {R0 : VK} {B0 C0 : L2.St → Hp → Prop} {ts us : TS} {P P' : Hp → Prop} {C a p : Addr} {o o' : HO} {fs : List (Str × V)} {f : Str} {xs ys : List V} {b : Bool}
instance (priority := 1192) st_iSeqL {A : List HP} {R : It → Hp → Prop} [zpk : PtC L a (.lst xs) A] : St (Go T L fun H => lSeq K R (.ref a) H) (Go T L fun H => R (Itl K a) H) := ⟨fun k => g_iSeqL zpk.h k⟩
end
section
variable {T : List (Addr × Str)} {L L1 L2' : List HP} {σ : L2.St} {Q : VK} {K : PySem.W.Frag} {v x y z : V} {i j : Int} {n : Nat} {ta tb tc te td : TE} {t u : TT} {r r' : R2} {N0 : L2.St → Hp → Prop} {R0 : VK} {B0 C0 : L2.St → Hp → Prop} {ts us : TS} {P P' : Hp → Prop} {C a p : Addr} {o o' : HO} {fs : List (Str × V)} {f : Str} {xs ys : List V} {b : Bool}
instance (priority := 1189) st_iSeqT {A : List HP} {R : It → Hp → Prop} [zpk : PtC L a (.tup xs) A] : St (Go T L fun H => lSeq K R (.ref a) H) (Go T L fun H => R (Itt K a) H) := ⟨fun k => g_iSeqT zpk.h k⟩
end
section
variable {T : List (Addr × Str)} {L L0 A B : List HP} {σ : L2.St} {Q : VK} {K : PySem.W.Frag} {n : Nat} {te ta : TE} {tt : TT} {tr : TA} {g : TG} {vs : List Nat} {a b p : Addr} {xs ys : List V} {x y : V} {ts : TS} {N0 : L2.St → Hp → Prop} {R0 : VK} {R : It → Hp → Prop} {J : It} {G : Hp → Prop} {Y : Nat → Hp → V → Hp → Prop}
instance (priority := 1186) st_iRevE   : St (Go T L fun H => RT.iRevA K te σ H R) (Go T L fun H => te σ H (lRev K R)) := ⟨fun k => g_iRevE  k⟩
end
section
variable {T : List (Addr × Str)} {L L0 A B : List HP} {σ : L2.St} {Q : VK} {K : PySem.W.Frag} {n : Nat} {te ta : TE} {tt : TT} {tr : TA} {g : TG} {vs : List Nat} {a b p : Addr} {xs ys : List V} {x y : V} {ts : TS} {N0 : L2.St → Hp → Prop} {R0 : VK} {R : It → Hp → Prop} {J : It} {G : Hp → Prop} {Y : Nat → Hp → V → Hp → Prop}
instance (priority := 1183) st_iRevL  [zpk : PtC L a (.lst xs) A] : St (Go T L fun H => lRev K R (.ref a) H) (Go T L fun H => R (Itv K a xs.length) H) := ⟨fun k => g_iRevL zpk.h k⟩
end
section
variable {T : List (Addr × Str)} {L L0 A B : List HP} {σ : L2.St} {Q : VK} {K : PySem.W.Frag} {n : Nat} {te ta : TE} {tt : TT} {tr : TA} {g : TG} {vs : List Nat} {a b p : Addr} {xs ys : List V} {x y : V} {ts : TS} {N0 : L2.St → Hp → Prop} {R0 : VK} {R : It → Hp → Prop} {J : It} {G : Hp → Prop} {Y : Nat → Hp → V → Hp → Prop}
instance (priority := 1180) st_iRevT  [zpk : PtC L a (.tup xs) A] : St (Go T L fun H => lRev K R (.ref a) H) (Go T L fun H => R (RT.ItvT K a xs.length) H) := ⟨fun k => g_iRevT zpk.h k⟩
end
section
variable {T : List (Addr × Str)} {L L0 A B : List HP} {σ : L2.St} {Q : VK} {K : PySem.W.Frag} {n : Nat} {te ta : TE} {tt : TT} {tr : TA} {g : TG} {vs : List Nat} {a b p : Addr} {xs ys : List V} {x y : V} {ts : TS} {N0 : L2.St → Hp → Prop} {R0 : VK} {R : It → Hp → Prop} {J : It} {G : Hp → Prop} {Y : Nat → Hp → V → Hp → Prop}
instance (priority := 1177) st_iZipE   : St (Go T L fun H => RZ.iZipA K tr σ H R) (Go T L fun H => tr σ H (lZip K R)) := ⟨fun k => g_iZipE  k⟩
end
section
variable {T : List (Addr × Str)} {L L0 A B : List HP} {σ : L2.St} {Q : VK} {K : PySem.W.Frag} {n : Nat} {te ta : TE} {tt : TT} {tr : TA} {g : TG} {vs : List Nat} {a b p : Addr} {xs ys : List V} {x y : V} {ts : TS} {N0 : L2.St → Hp → Prop} {R0 : VK} {R : It → Hp → Prop} {J : It} {G : Hp → Prop} {Y : Nat → Hp → V → Hp → Prop}
instance (priority := 1174) st_iZipL  [zp1 : PtC L a (.lst xs) A] [zp2 : PtC L b (.lst ys) B] : St (Go T L fun H => lZip K R [.ref a, .ref b] H) (Go T L fun H => R (Itz K a b) H) := ⟨fun k => g_iZipL zp1.h zp2.h k⟩
end
section
variable {T : List (Addr × Str)} {L L0 A B : List HP} {σ : L2.St} {Q : VK} {K : PySem.W.Frag} {n : Nat} {te ta : TE} {tt : TT} {tr : TA} {g : TG} {vs : List Nat} {a b p : Addr} {xs ys : List V} {x y : V} {ts : TS} {N0 : L2.St → Hp → Prop} {R0 : VK} {R : It → Hp → Prop} {J : It} {G : Hp → Prop} {Y : Nat → Hp → V → Hp → Prop}
instance (priority := 1171) st_iZipT  [zp1 : PtC L a (.tup xs) A] [zp2 : PtC L b (.tup ys) B] : St (Go T L fun H => lZip K R [.ref a, .ref b] H) (Go T L fun H => R (RZ.ItzT K a b) H) := ⟨fun k => g_iZipT zp1.h zp2.h k⟩
end
section
variable {T : List (Addr × Str)} {L L0 A B : List HP} {σ : L2.St} {Q : VK} {K : PySem.W.Frag} {n : Nat} {te ta : TE} {tt : TT} {tr : TA} {g : TG} {vs : List Nat} {a b p : Addr} {xs ys : List V} {x y : V} {ts : TS} {N0 : L2.St → Hp → Prop} {R0 : VK} {R : It → Hp → Prop} {J : It} {G : Hp → Prop} {Y : Nat → Hp → V → Hp → Prop}
instance (priority := 1168) st_iEnumE   : St (Go T L fun H => iEnum K tr σ H R) (Go T L fun H => tr σ H (lEnum K R)) := ⟨fun k => g_iEnumE  k⟩
end
section
variable {T : List (Addr × Str)} {L L0 A B : List HP} {σ : L2.St} {Q : VK} {K : PySem.W.Frag} {n : Nat} {te ta : TE} {tt : TT} {tr : TA} {g : TG} {vs : List Nat} {a b p : Addr} {xs ys : List V} {x y : V} {ts : TS} {N0 : L2.St → Hp → Prop} {R0 : VK} {R : It → Hp → Prop} {J : It} {G : Hp → Prop} {Y : Nat → Hp → V → Hp → Prop}
instance (priority := 1165) st_iEnum  [zpk : PtC L a (.lst xs) A] : St (Go T L fun H => lEnum K R [.ref a] H) (Go T L fun H => R (Ite K a) H) := ⟨fun k => g_iEnum zpk.h k⟩
end
section
variable {T : List (Addr × Str)} {L L0 A B : List HP} {σ : L2.St} {Q : VK} {K : PySem.W.Frag} {n : Nat} {te ta : TE} {tt : TT} {tr : TA} {g : TG} {vs : List Nat} {a b p : Addr} {xs ys : List V} {x y : V} {ts : TS} {N0 : L2.St → Hp → Prop} {R0 : VK} {R : It → Hp → Prop} {J : It} {G : Hp → Prop} {Y : Nat → Hp → V → Hp → Prop}
variable {tk tv : TE} {kvs : List (Key × V)} {D : Addr}
instance (priority := 1162) st_dcE {wi : TI}  : St (Go T L fun H => tDc wi g tt tk tv vs σ H Q) (Go T L fun H => wi σ H fun J H1 => DcG J g tt tk tv vs σ Q H1) := ⟨fun k => g_dcE  k⟩
end
section
variable {T : List (Addr × Str)} {L L0 A B : List HP} {σ : L2.St} {Q : VK} {K : PySem.W.Frag} {n : Nat} {te : TE} {tt : TT} {g : TG} {vs : List Nat} {a b : Addr} {xs ys : List V} {x y : V} {J : It} {G : Hp → Prop} {Y : Nat → Hp → V → Hp → Prop} {Rs : Nat → (Nat → Bool) → (Nat → V → Prop) → (Nat → Hp → Prop) → Prop} {wi : TI}
instance (priority := 1156) st_anyE   : St (Go T L fun H => tAnyG T wi g tt te vs σ H Q) (Go T L fun H => wi σ H (lGen T g tt te vs σ (rsAny Q))) := ⟨fun k => g_anyE  k⟩
end
section
variable {T : List (Addr × Str)} {L L0 A B : List HP} {σ : L2.St} {Q : VK} {K : PySem.W.Frag} {n : Nat} {te : TE} {tt : TT} {g : TG} {vs : List Nat} {a b : Addr} {xs ys : List V} {x y : V} {J : It} {G : Hp → Prop} {Y : Nat → Hp → V → Hp → Prop} {Rs : Nat → (Nat → Bool) → (Nat → V → Prop) → (Nat → Hp → Prop) → Prop} {wi : TI}
instance (priority := 1153) st_allE   : St (Go T L fun H => tAllG T wi g tt te vs σ H Q) (Go T L fun H => wi σ H (lGen T g tt te vs σ (rsAll Q))) := ⟨fun k => g_allE  k⟩
end
section
variable {T : List (Addr × Str)} {L L0 A B : List HP} {σ : L2.St} {Q : VK} {K : PySem.W.Frag} {n : Nat} {te : TE} {tt : TT} {g : TG} {vs : List Nat} {a b : Addr} {xs ys : List V} {x y : V} {J : It} {G : Hp → Prop} {Y : Nat → Hp → V → Hp → Prop} {Rs : Nat → (Nat → Bool) → (Nat → V → Prop) → (Nat → Hp → Prop) → Prop} {wi : TI}
instance (priority := 1150) st_sumE   : St (Go T L fun H => tSumG T wi g tt te vs σ H Q) (Go T L fun H => wi σ H (lGen T g tt te vs σ (rsSum Q))) := ⟨fun k => g_sumE  k⟩
end
section
variable {T : List (Addr × Str)} {L : List HP} {σ : L2.St} {Q : VK} {K : PySem.W.Frag} {n : Nat} {te : TE} {tt : TT} {g : TG} {vs : List Nat} {a : Addr} {xs : List V}
instance (priority := 1144) st_lcE {wi : TI}  : St (Go T L fun H => tLc wi g tt te vs σ H Q) (Go T L fun H => wi σ H fun J H1 => LcG J g tt te vs σ Q H1) := ⟨fun k => g_lcE  k⟩
end
section
variable {T : List (Addr × Str)} {L : List HP} {σ : L2.St} {Q : VK} {K : PySem.W.Frag} {n : Nat} {te : TE} {tt : TT} {g : TG} {vs : List Nat} {a : Addr} {xs : List V}
instance (priority := 1138) st_tYes {R : Bool → Hp → Prop}  : St (Go T L fun H => tYes σ H R) (Go T L fun H => R true H) := ⟨fun k => g_tYes  k⟩
end
section
variable {T : List (Addr × Str)} {L : List HP} {σ : L2.St} {D : Ends} {C : Addr} {E : XK} {W : WX}
instance (priority := 1135) st_rs   : St (Go T L fun H => tRs C (fun cls d _ H => E cls d H) D σ H) (Go T L fun H => E (.ref C) none H) := ⟨fun k => g_rs  k⟩
end
section
variable {T : List (Addr × Str)} {L : List HP} {σ : L2.St} {D : Ends} {C : Addr} {E : XK} {W : WX}
instance (priority := 1132) st_rsW   : St (Go T L fun H => tRs C W D σ H) (Go T L fun H => W (.ref C) none σ H) := ⟨fun k => g_rsW  k⟩
end
section
instance (priority := 1129) st_told {T : List (Addr × Str)} {L : List HP} {σ : L2.St} {Q : VK} {K : PySem.W.Frag} {cs : List (Addr × Str)} {t : XK → TE}  : St (Go T L fun H => tTold T K cs t σ H Q) (Go T L fun H => t (toldE K cs Q) σ H Q) := ⟨fun k => g_told  k⟩
end
section
variable {T : List (Addr × Str)} {L : List HP} {σ : L2.St} {Q : VK} {K : PySem.W.Frag} {v x y z : V} {i j : Int} {n m : Nat} {ta tb tc te td ty tv : TE} {N0 : L2.St → Hp → Prop} {R0 : VK} {B0 C0 : L2.St → Hp → Prop} {a b p : Addr} {xs ys vs ws : List V} {ns ms : List Int} {kvs : List (Key × V)} {A B D : List HP}
instance (priority := 1126) st_nonA {P : Hp → Prop}  : St (Go T L fun H => V.non = V.non ∧ P H) (Go T L P) := ⟨fun k => g_nonA  k⟩
end
section
variable {T : List (Addr × Str)} {L A B R : List HP} {σ : L2.St} {Q : VK} {K : PySem.W.Frag} {H H' : Hp} {v x y : V} {vs ws xs : List V} {d e : Dt} {ds es : List Dt} {a b t p : Addr} {G : Hp → Prop} {k n : Nat} {i j : Int} {s : Str}
instance (priority := 1123) st_isiII   : St (Go T L fun H => rIsi K [.int i, .ty "int"] H Q) (Go T L fun H => Q (.bl true) H) := ⟨fun k => g_isiII  k⟩
end
section
variable {T : List (Addr × Str)} {L A B R : List HP} {σ : L2.St} {Q : VK} {K : PySem.W.Frag} {H H' : Hp} {v x y : V} {vs ws xs : List V} {d e : Dt} {ds es : List Dt} {a b t p : Addr} {G : Hp → Prop} {k n : Nat} {i j : Int} {s : Str}
instance (priority := 1120) st_isiIB   : St (Go T L fun H => rIsi K [.int i, .ty "bool"] H Q) (Go T L fun H => Q (.bl false) H) := ⟨fun k => g_isiIB  k⟩
end
section
variable {T : List (Addr × Str)} {L L1 L2' : List HP} {σ : L2.St} {Q : VK} {K : PySem.W.Frag} {v x y z : V} {i j : Int} {n : Nat} {ta tb tc te td : TE} {t u : TT} {r r' : R2} {N0 : L2.St → Hp → Prop} {R0 : VK} {B0 C0 : L2.St → Hp → Prop} {ts us : TS} {P P' : Hp → Prop} {C a p : Addr} {o o' : HO} {fs : List (Str × V)} {f : Str} {xs ys : List V} {b : Bool}
instance (priority := 1111) st_made {sp : Sp} {E : XK} {vs : List V}  : St (Go T L fun H => nMk C sp E Q vs H) (∀ x, Go T (ob x C [] :: L) fun H => sp (.ref x :: vs) H (fun v H2 => v = .non ∧ Q (.ref x) H2) E) := ⟨fun k => g_made  k⟩
end
section
variable {T : List (Addr × Str)} {L L1 L2' : List HP} {σ : L2.St} {Q : VK} {K : PySem.W.Frag} {v x y z : V} {i j : Int} {n : Nat} {ta tb tc te td : TE} {t u : TT} {r r' : R2} {N0 : L2.St → Hp → Prop} {R0 : VK} {B0 C0 : L2.St → Hp → Prop} {ts us : TS} {P P' : Hp → Prop} {C a p : Addr} {o o' : HO} {fs : List (Str × V)} {f : Str} {xs ys : List V} {b : Bool}
instance (priority := 1108) st_listL {A : List HP} [zpk : PtC L a (.lst xs) A] : St (Go T L fun H => rListX K [.ref a] H Q) (∀ p, Go T (pt p (.lst xs) :: L) fun H => Q (.ref p) H) := ⟨fun k => g_listL zpk.h k⟩
end
section
variable {T : List (Addr × Str)} {L L1 L2' : List HP} {σ : L2.St} {Q : VK} {K : PySem.W.Frag} {v x y z : V} {i j : Int} {n : Nat} {ta tb tc te td : TE} {t u : TT} {r r' : R2} {N0 : L2.St → Hp → Prop} {R0 : VK} {B0 C0 : L2.St → Hp → Prop} {ts us : TS} {P P' : Hp → Prop} {C a p : Addr} {o o' : HO} {fs : List (Str × V)} {f : Str} {xs ys : List V} {b : Bool}
instance (priority := 1105) st_listT {A : List HP} [zpk : PtC L a (.tup xs) A] : St (Go T L fun H => rListX K [.ref a] H Q) (∀ p, Go T (pt p (.lst xs) :: L) fun H => Q (.ref p) H) := ⟨fun k => g_listT zpk.h k⟩
end
section
variable {T : List (Addr × Str)} {L L1 L2' : List HP} {σ : L2.St} {Q : VK} {K : PySem.W.Frag} {v x y z : V} {i j : Int} {n : Nat} {ta tb tc te td : TE} {t u : TT} {r r' : R2} {N0 : L2.St → Hp → Prop} {R0 : VK} {B0 C0 : L2.St → Hp → Prop} {ts us : TS} {P P' : Hp → Prop} {C a p : Addr} {o o' : HO} {fs : List (Str × V)} {f : Str} {xs ys : List V} {b : Bool}
instance (priority := 1102) st_tupL {A : List HP} [zpk : PtC L a (.lst xs) A] : St (Go T L fun H => rTupX K [.ref a] H Q) (∀ p, Go T (pt p (.tup xs) :: L) fun H => Q (.ref p) H) := ⟨fun k => g_tupL zpk.h k⟩
end
section
variable {T : List (Addr × Str)} {L L1 L2' : List HP} {σ : L2.St} {Q : VK} {K : PySem.W.Frag} {v x y z : V} {i j : Int} {n : Nat} {ta tb tc te td : TE} {t u : TT} {r r' : R2} {N0 : L2.St → Hp → Prop} {R0 : VK} {B0 C0 : L2.St → Hp → Prop} {ts us : TS} {P P' : Hp → Prop} {C a p : Addr} {o o' : HO} {fs : List (Str × V)} {f : Str} {xs ys : List V} {b : Bool}
instance (priority := 1099) st_tupT {A : List HP} [zpk : PtC L a (.tup xs) A] : St (Go T L fun H => rTupX K [.ref a] H Q) (Go T L fun H => Q (.ref a) H) := ⟨fun k => g_tupT zpk.h k⟩
end
section
variable {T : List (Addr × Str)} {L : List HP} {σ : L2.St} {Q : VK} {K : PySem.W.Frag} {v x y z : V} {i j : Int} {n m : Nat} {ta tb tc te td ty tv : TE} {N0 : L2.St → Hp → Prop} {R0 : VK} {B0 C0 : L2.St → Hp → Prop} {a b p : Addr} {xs ys vs ws : List V} {ns ms : List Int} {kvs : List (Key × V)} {A B D : List HP}
instance (priority := 1096) st_dnew   : St (Go T L fun H => tDNewK σ H Q) (∀ p, Go T (pt p (.dK []) :: L) fun H => Q (.ref p) H) := ⟨fun k => g_dnew  k⟩
end
end Dh

/-! The layer Dh, part X: own exceptions whose __init__ says super().__init__(text), then keeps one thing. -/
namespace Dh
open PySem PySem.Spec PyProof.Rows L2
section
variable {P : Program} {w : World} {K : PySem.W.Frag} {mg : Str → Option Value} {base : Heap} {CX : CXT}
abbrev supScope (par : Str) : Scope := ⟨.function, [("self", .local), (par, .local), ("__class__", .free), ("super", .globalImplicit)], false, false, []⟩
abbrev supNF (fd : FuncData) (par : Str) (cc cda : Addr) : NdefX.NF := ⟨fd.name, fd.qualname, fd.params, [], supScope par, [("__class__", cc)], cda⟩
/-- what is known of such a class (at C) and its __init__ (at f) -/
structure SupX (P : Program) (K : PySem.W.Frag) (mg : Str → Option Value) (C f : Addr) (fd : FuncData) (par fl : Str) : Prop where
  ox : OexC K C
  nf : PySem.W.findIn K (.ref C) fl = some none
  fn : ∃ oc od osl, K.lookup f = some ⟨oc, od, .func fd, osl⟩
  body : ∃ (p0 p1 p2 : Pos) (msg : Str) (j : Nat) (p3 p4 p5 p6 p7 p8 p9 : Pos), (p2.endLine == p4.line) = true ∧ fd.body = .stmts [.Expr (.Call (.Attribute (.Call (.Name "super" p0) [] [] p1) "__init__" p2) [.Constant (.str msg) j p3] [] p4) p5, .Assign [.Attribute (.Name "self" p6) fl p7] (.Name par p8) p9]
  env : fd.globals = mainGlobals ∧ fd.builtins = builtinsNs
  hd : ∃ a1 a2 q1 q2, fd.params = ⟨[], [⟨"self", a1, q1⟩, ⟨par, a2, q2⟩], none, [], [], none, []⟩
  cell : ∃ cc, fd.closure = [(("__class__" : Str), cc)] ∧ ∃ cl cld csl, K.lookup cc = some ⟨cl, cld, .cell (some (.ref C)), csl⟩
  code : ∃ cda, fd.code = .ref cda ∧ PySem.W.codeIn K (.ref cda) fd.qualname = true ∧ ∃ ccl cdd vs ccs file tf, K.lookup cda = some ⟨ccl, cdd, .fields vs, ccs⟩ ∧ vs[2]? = some (.str file tf) ∧ ((P.main.file : Str) == file) = true
  sc : fd.scope = supScope par
  odd : (par == ("__debug__" : Str)) = false ∧ (par == ("__classdict__" : Str)) = false
  scope : NdefX.NScope ["self", par, "__class__"] ["self", par] ["__class__"] (supScope par)
  sup : (supScope par).names.lookup ("super" : Str) = some .globalImplicit
  mgs : mg "super" = none
  top : (P.main.scope.names.lookup ("super" : Str)).isSome = false
  sub : PySem.W.mroIn K C (.ref C) = some true
  ve : PySem.W.subIn K (.ref C) (.type "ValueError") = some true
  ini : PySem.W.ks_superIn K C C "__init__" = some (some (.builtin "ValueError.__init__"))
  op : PySem.W.nsIn K cStatics "thirdparty.any" = some none
theorem sup_eval {p0 p1 p2 p3 p4 : Pos} {msg m : Str} {j : Nat} {env : Env} (h : (p2.endLine == p4.line) = true) : ∃ pl : Sem Bool, eval (.Call (.Attribute (.Call (.Name "super" p0) [] [] p1) m p2) [.Constant (.str msg) j p3] [] p4) env = (do
      let ov ← attributeBase (.Call (.Name "super" p0) [] [] p1) m env (eval (.Call (.Name "super" p0) [] [] p1) env)
      standAt p2.atName
      let (ff, first) ← holding [ov] (getMethod ov m pl)
      callWith p4 ff first (backTo p4 (starEach [.Constant (.str msg) j p3] env)) []) := by
  refine ⟨(do return (← importBound (.Call (.Name "super" p0) [] [] p1) env).getD true), ?_⟩
  show (do
      let ov ← attributeBase (.Call (.Name "super" p0) [] [] p1) m env (eval (.Call (.Name "super" p0) [] [] p1) env)
      standAt p2.atName
      methodCall (.Call (.Name "super" p0) [] [] p1) m p2 p4 env ov 1 (backTo p4 (starEach [.Constant (.str msg) j p3] env)) []) = _
  unfold methodCall methodCallPos calleeOf
  simp only [h, Bool.or_true, if_true]
  have e : methodCallForm 1 (backTo p4 (starEach [.Constant (.str msg) j p3] env)) [] = true := rfl
  simp only [e, if_true, pure_bind]
theorem call_mw {A : Around} {E : Value → Shared → Prop} {hh : Heap} {g : Array GenState} {dr : Drawn} {tk : Nat} {os : OsState} {nm q : Str} {C N e u t0 : Addr} {bs bm : List Value} {hdct : Bool} {sn : List Str} {sub : List Value} {ab : Bool} {col : Option Bool} {dd : Option Addr} {k0 k1 k2 k3 k5 : Option Value} {us : List Value} {Q : Value → Shared → Prop}
    (hC : hh.get? C = some (excClassObj nm q C N bs bm hdct sn sub ab col dd k0 k1 k2 k3 k5 "ValueError.__new__")) (he : hh.get? e = some (PySem.HandSPX.excO C t0)) (hu : hh.get? u = some (PySem.W.kxs_mw "ValueError.__init__" e)) (hl : us.length ≤ sizeLine)
    (hq : ∀ h' t1, (∀ b o, b ≠ e → hh.get? b = some o → h'.get? b = some o) → h'.get? e = some (PySem.HandSPX.excO C t1) → Q .none ⟨h', g, dr, tk, os⟩) : wpAny (model P w) A (call (.ref u) us) Q E ⟨hh, g, dr, tk, os⟩ := by
  have c1 : (Value.type "method-wrapper" == Value.type "method" || Value.type "method-wrapper" == Value.type "builtin_function_or_method" ||
      Value.type "method-wrapper" == Value.type "method-wrapper") = true := by decide
  refine wpAny_call <| codeAny_of_tree <| (?_ : wpAny _ A.in1 (callAny (.ref u) ⟨us, []⟩) _ _ _)
  unfold callAny
  refine wpAny_bind <| wpAny_load hu ?_
  simp only [PySem.W.kxs_mw, c1, if_true]
  refine PySem.W.KFB.if_so (by decide) <| wpAny_bind <| PySem.W.check_bound_init F.excBase_ValueError.toExcCallFacts hC he rfl <| wpAny_bind <| wpAny_pure <| wpAny_pure ?_
  exact ⟨plainId_quiet F.excBase_ValueError.init.plain _, codeAny_builtin F.excBase_ValueError.initEntry (PySem.W.exc_init_tree (cls := .ref C) (t0 := t0) (dv := none) (c2 := .none) (c3 := .none) (b4 := .bool false) he hl fun h' z1 z2 z3 => hq h' _ z1 z2)⟩
def sgSup (C : Addr) (fl : Str) : Sp := fun vs H Q E => ∃ a v, vs = [.ref a, v] ∧ H a = some (exo a C none) ∧ ∀ d, H d = none → d ≠ a → Q .non (upd (upd H d (exd d [(fl, v)])) a (exo a C (some d)))
theorem fn_sup {C f : Addr} {fd : FuncData} {par fl : Str} {k : Nat} (X : SupX P K mg C f fd par fl) : FnOk P w K mg base CX (k + 1) f fd ["self", par] (sgSup C fl) := by
  obtain ⟨oc, od, osl, lk⟩ := X.fn
  obtain ⟨p0, p1, p2, msg, j, p3, p4, p5, p6, p7, p8, p9, hpos, hbody⟩ := X.body
  obtain ⟨cc, hcl, cl, cld, csl, lcell⟩ := X.cell
  obtain ⟨cda, hcode, hcd, ccl, cdd, vs, ccs, file, tf, lcode, hvs, hfile⟩ := X.code
  obtain ⟨a1, a2, q1, q2, hpar⟩ := X.hd
  obtain ⟨hgl, hbl⟩ := X.env
  have hsc := X.scope
  refine ⟨fun vs H Q E ⟨a, v, e, _⟩ => by rw [e] <;> rfl, fun A outer s H args us vs Q E hr e0 hb r hsp => ?_⟩
  obtain ⟨a, v, rfl, ea, hq⟩ := hsp
  have KX : K.In s.heap := e0.mod.kin.keeps fun b o e => (e0.bs b o e).1
  have lim : s.heap.NoLimit := e0.mod.nolimit.keeps fun b o e => (e0.bs b o e).1
  obtain ⟨u0, u1, rfl, r0, r1⟩ : ∃ u0 u1, us = [u0, u1] ∧ RelV (.ref a) u0 ∧ RelV v u1 := by
    cases r with
    | cons x y => cases y with
      | cons x' y' => cases y'; exact ⟨_, _, rfl, x, x'⟩
  obtain rfl : u0 = Value.ref a := r0
  refine PySem.ks_codeAny_call_defAt (fd := fd) (binds := ([("self" : Str), par] : List Str).zip [Value.ref a, u1]) hr.depth (KX _ _ lk) rfl lim (PySem.W.codeRec_of KX (by rw [hcode]; exact hcd)) hbody hb (by rw [X.sc]; exact hsc.nocell) (fun x hx => by rw [X.sc]; exact hsc.par _ (List.of_mem_zip hx).1) (fun h1 hns hk1 => ?_) (by rw [X.sc]) (by rw [X.sc]) (by rw [X.sc])
  have hF : callEnv fd s.heap.objs.size f = NdefX.envF (supNF fd par cc cda) f s.heap.objs.size := by
    unfold callEnv
    rw [hgl, hbl, hcl, hcode, X.sc]
    rfl
  rw [hF]
  have bk : base.get? cc = some ⟨cl, cld, .cell (some (.ref C)), csl⟩ := e0.mod.kin _ _ lcell
  have CA : NdefX.CellsAt (supNF fd par cc cda).cl ["__class__"] [none] s.heap H := by
    refine ⟨rfl, fun y c e => ?_, fun x y c e1 e2 => ?_, fun i y e => ?_⟩
    · have hy : c = cc := by
        simp only [List.lookup] at e
        split at e
        · cases e; rfl
        · cases e
      subst hy
      obtain ⟨h1, h2⟩ := e0.bs c _ bk
      exact ⟨h2, _, ⟨_, h1, rfl⟩⟩
    · simp only [List.lookup] at e1 e2
      split at e1
      · rename_i z1
        split at e2
        · rename_i z2
          rw [beq_iff_eq.mp z1, beq_iff_eq.mp z2]
        · cases e2
      · cases e1
    · cases i with
      | zero =>
        cases e
        exact ⟨cc, by simp [List.lookup], fun v z => by cases z⟩
      | succ i => cases e
  have I : Inv (NdefX.ncx CX P w K mg base ["self", par, "__class__"] (supNF fd par cc cda) f A outer s H E) [] (NdefX.startF ["self", par, "__class__"] [.ref a, v] [none]) H { s with heap := h1, toks := s.toks + (([("self" : Str), par] : List Str).zip [Value.ref a, u1]).length } :=
    NdefX.inv_startN hsc hr.hd e0 rfl r CA hns hk1
  have KX1 : K.In h1 := KX.keeps hk1
  obtain ⟨nm, q, N, bs, bm, sn, sub, ab, col, dd, k0, k1, k2, k3, k5, hC, hbm⟩ := X.ox.cls
  obtain ⟨t1, ho⟩ := exo_at I.hok ea
  obtain ⟨mb, hmb1, hmb2⟩ := e0.mod.blt
  have hka : (supScope par).names.lookup ("self" : Str) = some .local := hsc.par _ (by simp)
  have hkc : (supScope par).names.lookup ("__class__" : Str) = some .free := hsc.frk _ (by simp)
  obtain ⟨pl, hev⟩ := sup_eval (p0 := p0) (p1 := p1) (p3 := p3) (msg := msg) (m := "__init__") (j := j) (env := NdefX.envF (supNF fd par cc cda) f s.heap.objs.size) hpos
  refine PySem.ks_wpAt_execs_cons (PySem.ks_wpAt_Expr_any (PySem.ks_wpAt_MethodCall (pl := pl) ?_ hev))
  refine PySem.ks_wpAt_super_base X.sup hkc rfl rfl (KX1 _ _ lk) rfl (by rw [hpar]; rfl) rfl (KX1 _ _ lcode) rfl hvs hfile X.top ?_
  refine PySem.W.ks_loadName_global rfl X.sup (Calls.loadGlobal_builtin (e0.mod.glob.keeps fun b o e => hk1 _ _ (e0.bs b o e).1) X.mgs (hmb1.keeps fun b o e => hk1 _ _ (e0.bs b o e).1) ((hmb2 "super" (by decide)).trans (by first | boot_by_name | rfl | kernel_rfl)) ⟨rfl, ?_⟩)
  refine wpAny_loadName_free (c := cc) rfl hkc (by simp [List.lookup]) ⟨_, hk1 _ _ (KX _ _ lcell), rfl⟩ ?_
  have hnd : ([("self" : Str), par] : List Str).Nodup := by
    have := hsc.nd
    simp only [List.nodup_cons, List.mem_cons, not_or] at this ⊢
    exact ⟨⟨this.1.1, by simp⟩, by simp⟩
  refine wpAny_loadName_local rfl hka hns (NdefX.zip_look (ps := [("self" : Str), par]) (i := 0) hnd rfl rfl) ?_
  have hcl : PySem.W.clsIn K C = some { name := nm, bases := bs, mro := .ref C :: bm, ns := N, qualname := q, hasDict := true, slotNames := sn, subclasses := sub, abstract := ab, collection := col, hasDel := false } := by unfold PySem.W.clsIn; rw [hC] <;> rfl
  have haC : a ≠ C := fun z => by
    subst z
    have z := (e0.bs _ _ (e0.mod.kin _ _ hC)).2
    rw [ea] at z
    cases z
  refine PySem.ks_wpAny_isType_cls (KX1 _ _ hC) rfl ⟨rfl, ?_⟩
  refine PySem.ks_wpAny_call_super (KX1 _ _ hC) rfl ho rfl (fun c z => by cases z) (PySem.W.looks_mroIn KX1 X.sub) (fun h2 e2 kk2 => ?_)
  have KX2 : K.In h2 := KX1.keeps kk2
  have hini := X.ini
  unfold PySem.W.ks_superIn at hini
  rw [hcl] at hini
  have J2 : PySem.W.InstAt h2 a _ C none := ⟨kk2 _ _ ho, rfl, rfl, trivial⟩
  refine PySem.W.kxs_getMethod PySem.W.kxs_ValueError e2 (PySem.W.looks_opaque KX2 X.op) (l₀ := .ref C :: bm) ((PySem.W.looks_clsIn KX2 hcl).andThen .now) rfl KX2 hini (J2.type.andThen (PySem.W.looks_subIn KX2 X.ve)) haC rfl ?_
  have hu3 : (h2.push (PySem.W.kxs_mw "ValueError.__init__" a)).get? h2.objs.size = some (PySem.W.kxs_mw "ValueError.__init__" a) := Heap.get?_push_at rfl rfl
  refine PySem.W.kxs_callWith (i := "ValueError.__init__") (x := a) rfl (PySem.Calls.evalArgs_plain ?_)
  refine wpAny_mono (Q := fun xs s' => xs.length ≤ 1 ∧ ∃ t9, s' = ⟨h2.push (PySem.W.kxs_mw "ValueError.__init__" a), s.gens, s.drawn, t9, s.os⟩) (E := fun _ _ => False) ?_ (fun xs s' hx => ?_) (fun _ _ z => z.elim)
  · wp_walk
    exact ⟨Nat.le_refl _, _, rfl⟩
  obtain ⟨hxl, t9, rfl⟩ := hx
  refine ⟨hu3, ?_⟩
  have hh3 : ∀ b o, h1.get? b = some o → (h2.push (PySem.W.kxs_mw "ValueError.__init__" a)).get? b = some o := fun b o z => Heap.get?_push_of_some _ (kk2 _ _ z)
  refine call_mw (hh3 _ _ (KX1 _ _ hC)) (hh3 _ _ ho) hu3 (by simp only [List.nil_append]; rw [sizeLine_eq]; omega) (fun h' t4 z1 z2 => ?_)
  have kw : ∀ b u, b ≠ a → h1.get? b = some u → h'.get? b = some u := fun b u z y => z1 _ _ z (hh3 _ _ y)
  have J := I.write (t' := t9) (x := a) (e := a) (o := exo a C none) (by rw [ea]; exact True.intro) (.inl rfl) kw ⟨_, z2⟩ (exo_ok z2)
  have eu : upd H a (exo a C none) = H := by
    funext b
    by_cases hb : b = a
    · rw [hb, upd_same, ea]
    · rw [upd_ne hb]
  rw [eu] at J
  have ps : PSs (NdefX.ncx CX P w K mg base ["self", par, "__class__"] (supNF fd par cc cda) f A outer s H E) [.Assign [.Attribute (.Name "self" p6) fl p7] (.Name par p8) p9] _ :=
    pss_one (ps_ost (pe_var (i := 0) rfl (.inl hka)) (pe_var (i := 1) rfl (.inl (hsc.par _ (by simp))) X.odd.1 X.odd.2))
  refine wpAt_of_wpAny ?_
  refine wpAny_mono (ps.run [] _ _ H { nx := fun _ H' => Q .non H', rt := Q } J ?_) (fun fl0 s' hs => ?_) fun e s' hs => hs
  · exact ⟨v, rfl, .ref a, rfl, a, C, rfl, X.ox, X.nf, .inl ⟨ea, fun d hd1 hd2 => hq d hd1 hd2⟩⟩
  have fin : ∀ {σ' : L2.St} {H' : Hp} {v9 : V} {u9 : Value}, Inv (NdefX.ncx CX P w K mg base ["self", par, "__class__"] (supNF fd par cc cda) f A outer s H E) [] σ' H' s' → RelV v9 u9 → Q v9 H' → CE outer P w H s Q u9 s' :=
    fun {σ' H' v9 u9} G rv qq => ⟨v9, H', G.os, G.bare, G.base, G.hok, rv, qq⟩
  cases fl0 with
  | ret u =>
    obtain ⟨v9, σ', H', G, rv, qq⟩ := hs
    exact fin G rv qq
  | next =>
    obtain ⟨σ', H', G, qq⟩ := hs
    exact fin (v9 := V.non) (u9 := Value.none) G rfl qq
  | brk =>
    obtain ⟨_, _, _, qq⟩ := hs
    exact False.elim qq
  | cont =>
    obtain ⟨_, _, _, qq⟩ := hs
    exact False.elim qq
/-! ### raising such an exception -/
/-- raise C(e) -/
def tRsx (C : Addr) (fl : Str) (W : WX) (ta : TA) : TS := fun _ σ H => tMkO C (sgSup C fl) [] ta σ H fun cls d H' => W cls d σ H'
def lRsx (C : Addr) (fl : Str) (W : WX) (σ : L2.St) (vs : List V) (H1 : Hp) : Prop := vs.length ≤ 1000 ∧ ∀ a, H1 a = none → sgSup C fl (.ref a :: (vs ++ [])) (upd H1 a (exo a C none))
  (fun v H2 => v = .non ∧ ∃ (d : Addr) (fs : List (Str × V)), H2 a = some (exo a C (some d)) ∧ H2 d = some (exd d fs) ∧ H1 d = none ∧ W (.ref C) (some d) σ (upd (del H2 a) d (.xd fs))) (fun _ _ _ => False)
structure RaiX (P : Program) (w : World) (K : PySem.W.Frag) (mg : Str → Option Value) (base : Heap) (x : Str) (C : Addr) (fl : Str) : Prop where
  ex : ∃ (fI : Addr) (fd : FuncData) (par : Str), OexC K C ∧ PySem.W.findIn K (.ref C) "__init__" = some (some (.ref fI)) ∧ PySem.W.typeIn K (.ref fI) = some (.type "function") ∧ FnOk P w K mg base (L2.CX P w) 1 fI fd ["self", par] (sgSup C fl) ∧ Binds K fd ["self", par] [] ∧ mg x = some (.ref C)
theorem ps_rsx {X : Cx} {W : WX} {x fl : Str} {C : Addr} {e : Expr} {ta : TA} {jj : Nat} {p pos pos' : Pos} (hc : X.calm = true) (tk : Takes X W) (r : RaiX X.prog X.w X.K X.mg X.base x C fl) (hr : Room jj X.A) (hj : 2 ≤ jj) (hg : Gl X x) (ha : PA X [e] ta)
    (hdb : (x == ("__debug__" : Str)) = false := by decide) (he : starEach [e] X.env = (false, eval e X.env) :: starEach [] X.env := by rfl) (hpl : (backTo pos (starEach [] X.env)).any (·.1) = false := by rfl) :
    PS X (.Raise (some (.Call (.Name x p) [e] [] pos)) none pos') (tRsx C fl W ta) := by
  obtain ⟨fI, fd, par, h1, h2, h3, h4, h5, h6⟩ := r.ex
  exact ps_raise hc tk (pmk_oex (k := 1) h1 h2 h3 h4 (hr.mono hj) h5 .nil (passes_call tk fun _ _ _ _ z => z.elim) hg h6 ha hdb he hpl)
end
section
variable {T : List (Addr × Str)} {L : List HP} {σ : L2.St} {C : Addr} {fl : Str} {W : WX} {ta : TA} {v : V} {D : Ends}
theorem g_rsxE (k : Go T L fun H => ta σ H (lRsx C fl W σ)) : Go T L fun H => tRsx C fl W ta D σ H := k
theorem g_rsx (k : ∀ d, Go T (pt d (.xd [(fl, v)]) :: L) fun H => W (.ref C) (some d) σ H) : Go T L fun H => lRsx C fl W σ [v] H := fun H t s => by
  refine ⟨by show 1 ≤ 1000; decide, fun a na => ⟨a, v, rfl, upd_same, fun d nd ne => ⟨rfl, d, [(fl, v)], upd_same, by rw [upd_ne ne, upd_same], by rw [upd_ne ne] at nd; exact nd, ?_⟩⟩⟩
  have nd' : H d = none := by rw [upd_ne ne] at nd; exact nd
  have e : upd (del (upd (upd (upd H a (exo a C none)) d (exd d [(fl, v)])) a (exo a C (some d))) a) d (.xd [(fl, v)]) = upd H d (.xd [(fl, v)]) := by
    funext b
    by_cases h1 : b = d
    · rw [h1, upd_same, upd_same]
    · rw [upd_ne h1, upd_ne h1]
      by_cases h2 : b = a
      · rw [h2, del_same, na]
      · rw [del_ne h2, upd_ne h2, upd_ne h1, upd_ne h2]
  rw [e]
  exact (go_new (P := fun d => pt d (.xd [(fl, v)])) (Q := fun d H' => W (.ref C) (some d) σ H') rfl (fun _ _ z => z) k) H t s d nd'
end
/-! ### what the head tells of such a class -/
section
variable {P : Program} {w : World} {K : PySem.W.Frag} {mg : Str → Option Value} {base h : Heap}
def clsB (K : PySem.W.Frag) (C : Addr) : Bool := match K.lookup C with
  | some ⟨.type t, _, .cls cd, sl⟩ => decide (t = "type") && (decide (cd.mro.head? = some (.ref C)) && (PySem.HandSPX.refsVE cd.mro.tail && (cd.hasDict && (!cd.hasDel && (decide (sl.toList.length = 6) && decide (sl.toList[4]? = some (some (.builtin "ValueError.__new__"))))))))
  | _ => false
theorem clsB_ok {C : Addr} (z : clsB K C = true) : ∃ nm q N bs bm sn sub ab col dd k0 k1 k2 k3 k5, K.lookup C = some (excClassObj nm q C N bs bm true sn sub ab col dd k0 k1 k2 k3 k5 "ValueError.__new__") ∧ PySem.HandSPX.refsVE bm = true := by
  unfold clsB at z
  split at z
  · rename_i t dd cd sl ho
    simp only [Bool.and_eq_true, decide_eq_true_eq, Bool.not_eq_true'] at z
    obtain ⟨rfl, e1, e2, e3, e4, e5, e6⟩ := z
    obtain ⟨nm, bs, mro, ns, qn, hd, sn, sub, ab, col, dl⟩ := cd
    obtain ⟨l⟩ := sl
    dsimp only at e1 e2 e3 e4 e5 e6
    subst e3 e4
    cases mro with
    | nil => cases e1
    | cons m0 bm =>
      obtain rfl : m0 = .ref C := by simpa using e1
      match l, e5, e6 with
      | [k0, k1, k2, k3, k4, k5], _, e6 =>
        obtain rfl : k4 = some (.builtin "ValueError.__new__") := by simpa using e6
        exact ⟨nm, qn, ns, bs, bm, sn, sub, ab, col, dd, k0, k1, k2, k3, k5, ho, e2⟩
  · cases z
def bodyB (par fl : Str) : FuncBody → Bool
  | .stmts [.Expr (.Call (.Attribute (.Call (.Name s1 _) [] [] _) s2 p2) [.Constant (.str _) _ _] [] p4) _, .Assign [.Attribute (.Name s3 _) s4 _] (.Name s5 _) _] =>
    decide (s1 = "super") && (decide (s2 = "__init__") && (decide (s3 = "self") && (decide (s4 = fl) && (decide (s5 = par) && p2.endLine == p4.line))))
  | _ => false
theorem bodyB_ok {par fl : Str} {b : FuncBody} (z : bodyB par fl b = true) : ∃ (p0 p1 p2 : Pos) (msg : Str) (j : Nat) (p3 p4 p5 p6 p7 p8 p9 : Pos), (p2.endLine == p4.line) = true ∧
    b = .stmts [.Expr (.Call (.Attribute (.Call (.Name "super" p0) [] [] p1) "__init__" p2) [.Constant (.str msg) j p3] [] p4) p5, .Assign [.Attribute (.Name "self" p6) fl p7] (.Name par p8) p9] := by
  unfold bodyB at z
  split at z
  · simp only [Bool.and_eq_true, decide_eq_true_eq] at z
    obtain ⟨rfl, rfl, rfl, rfl, rfl, e⟩ := z
    exact ⟨_, _, _, _, _, _, _, _, _, _, _, _, e, rfl⟩
  · cases z
def parB (par : Str) : Arguments → Bool
  | ⟨[], [⟨s1, _, _⟩, ⟨s2, _, _⟩], none, [], [], none, []⟩ => decide (s1 = "self") && decide (s2 = par)
  | _ => false
theorem parB_ok {par : Str} {b : Arguments} (z : parB par b = true) : ∃ a1 a2 q1 q2, b = ⟨[], [⟨"self", a1, q1⟩, ⟨par, a2, q2⟩], none, [], [], none, []⟩ := by
  unfold parB at z
  split at z
  · simp only [Bool.and_eq_true, decide_eq_true_eq] at z
    obtain ⟨rfl, rfl⟩ := z
    exact ⟨_, _, _, _, rfl⟩
  · cases z
def cellB (K : PySem.W.Frag) (C : Addr) : List (Str × Addr) → Bool
  | [(s1, cc)] => decide (s1 = "__class__") && (match K.lookup cc with
    | some ⟨_, _, .cell (some (.ref D)), _⟩ => decide (D = C)
    | _ => false)
  | _ => false
theorem cellB_ok {C : Addr} {l : List (Str × Addr)} (z : cellB K C l = true) : ∃ cc, l = [(("__class__" : Str), cc)] ∧ ∃ cl cld csl, K.lookup cc = some ⟨cl, cld, .cell (some (.ref C)), csl⟩ := by
  unfold cellB at z
  split at z
  · rename_i s1 cc
    obtain ⟨z1, z2⟩ := Bool.and_eq_true_iff.mp z
    have z1 := of_decide_eq_true z1
    subst z1
    split at z2
    · rename_i ho
      have z2 := of_decide_eq_true z2
      subst z2
      exact ⟨cc, rfl, _, _, _, ho⟩
    · cases z2
  · cases z
def codeB (P : Program) (K : PySem.W.Frag) (q : Str) : Value → Bool
  | .ref cda => PySem.W.codeIn K (.ref cda) q && (match K.lookup cda with
    | some ⟨_, _, .fields vs, _⟩ => (match (vs[2]? : Option Value) with
      | some (Value.str file _) => (P.main.file : Str) == file
      | _ => false)
    | _ => false)
  | _ => false
theorem codeB_ok {q : Str} {c : Value} (z : codeB P K q c = true) : ∃ cda, c = .ref cda ∧ PySem.W.codeIn K (.ref cda) q = true ∧ ∃ ccl cdd vs ccs file tf, K.lookup cda = some ⟨ccl, cdd, .fields vs, ccs⟩ ∧ vs[2]? = some (.str file tf) ∧ ((P.main.file : Str) == file) = true := by
  unfold codeB at z
  split at z
  · rename_i cda
    obtain ⟨z1, z2⟩ := Bool.and_eq_true_iff.mp z
    split at z2
    · rename_i ho
      split at z2
      · rename_i hv
        exact ⟨cda, rfl, z1, _, _, _, _, _, _, ho, hv, z2⟩
      · cases z2
    · cases z2
  · cases z
def noneB : Value → Bool
  | .none => true
  | _ => false
theorem noneB_ok {v : Value} (z : noneB v = true) : v = .none := by
  unfold noneB at z
  split at z
  · rfl
  · cases z
def funB (P : Program) (K : PySem.W.Frag) (C f : Addr) (par fl : Str) : Bool := match K.lookup f with
  | some ⟨_, _, .func fd, _⟩ => bodyB par fl fd.body && (decide (fd.globals = mainGlobals) && (decide (fd.builtins = builtinsNs) && (parB par fd.params && (cellB K C fd.closure && (codeB P K fd.qualname fd.code && (decide (fd.scope = supScope par) && noneB fd.defaults))))))
  | _ => false
def supB (P : Program) (K : PySem.W.Frag) (x par fl : Str) : Bool :=
  clsB K (He.ga K x) && (funB P K (He.ga K x) (He.fAd K (x, some "__init__")) par fl && (decide (PySem.W.findIn K (.ref (He.ga K x)) "__setattr__" = some (some (.builtin "object.__setattr__"))) &&
  (decide (PySem.W.subIn K (.ref (He.ga K x)) (.type "BaseException") = some true) && (decide (PySem.W.typeIn K (.ref (He.ga K x)) = some (.type "type")) && (PySem.W.keepIn K (.ref (He.ga K x)) &&
  (decide (PySem.W.findIn K (.ref (He.ga K x)) fl = some none) && (decide ((P.main.scope.names.lookup ("super" : Str)).isSome = false) && (decide (PySem.W.mroIn K (He.ga K x) (.ref (He.ga K x)) = some true) &&
  (decide (PySem.W.subIn K (.ref (He.ga K x)) (.type "ValueError") = some true) && (decide (PySem.W.ks_superIn K (He.ga K x) (He.ga K x) "__init__" = some (some (.builtin "ValueError.__init__"))) &&
  (decide (PySem.W.nsIn K cStatics "thirdparty.any" = some none) && (decide (PySem.W.findIn K (.ref (He.ga K x)) "__init__" = some (some (.ref (He.fAd K (x, some "__init__"))))) && decide (PySem.W.typeIn K (.ref (He.fAd K (x, some "__init__"))) = some (.type "function"))))))))))))))
theorem raix_of {x par fl : Str} (z : supB P K x par fl = true) (hm : mg x = some (.ref (He.ga K x))) (hs : mg "super" = none) (n : NdefX.nscB ["self", par, "__class__"] ["self", par] ["__class__"] (supScope par) = true) (n2 : (supScope par).names.lookup ("super" : Str) = some .globalImplicit)
    (n3 : (par == ("__debug__" : Str)) = false ∧ (par == ("__classdict__" : Str)) = false) (hb : ∀ (fd : FuncData) a1 a2 q1 q2, fd.params = ⟨[], [⟨"self", a1, q1⟩, ⟨par, a2, q2⟩], none, [], [], none, []⟩ → fd.defaults = .none → Binds K fd ["self", par] []) : RaiX P w K mg base x (He.ga K x) fl := by
  unfold supB at z
  simp only [Bool.and_eq_true, decide_eq_true_eq] at z
  obtain ⟨z1, z2, z3, z4, z5, z6, z7, z8, z9, z10, z11, z12, z13, z14⟩ := z
  unfold funB at z2
  split at z2
  · rename_i fd osl ho
    simp only [Bool.and_eq_true, decide_eq_true_eq] at z2
    obtain ⟨y1, y2, y3, y4, y5, y6, y7, y8⟩ := z2
    have ox : OexC K (He.ga K x) := ⟨clsB_ok z1, z3, z4, z5, z6⟩
    obtain ⟨a1, a2, q1, q2, hp⟩ := parB_ok y4
    exact ⟨_, fd, par, ox, z13, z14, fn_sup ⟨ox, z7, ⟨_, _, _, ho⟩, bodyB_ok y1, ⟨y2, y3⟩, ⟨a1, a2, q1, q2, hp⟩, cellB_ok y5, codeB_ok y6, y7, n3, NdefX.nscope_by n, n2, hs, z8, z9, z10, z11, z12⟩, hb fd a1 a2 q1 q2 hp (noneB_ok y8), hm⟩
  · cases z2
end
/-! ### the head's facts, the statics among them -/
def asY (n : Nat) (g : Addr → Option Obj) : List Addr := He.asD g n ++ [cStatics]
structure SaysY (fa : List He.Fa) (fn : List He.DefD) (tf : List He.Defn) (ex : PySem.W.Frag → Bool) (h : Heap) (K : PySem.W.Frag) : Prop where
  d : He.SaysD fa fn K
  more : ex K = true
  tb : ∀ p ∈ tf, PySem.W.codeHdIn K (He.cT K p).1 (He.cT K p).2 = true ∧ K.lookup (He.cT K p).2 = none ∧ h.get? (He.cT K p).2 = some { cls := .none, data := .fields #[] }
def obsY (n : Nat) (fa : List He.Fa) (fn : List He.DefD) (tf : List He.Defn) (ex : PySem.W.Frag → Bool) (g : Addr → Option Obj) : He.AlD × Bool :=
  (He.obsD fa fn (He.frT g (asY n g)), ex (He.frT g (asY n g)) && He.tabsB g tf (He.frT g (asY n g)))
theorem saysY_of {n : Nat} {fa : List He.Fa} {fn : List He.DefD} {tf : List He.Defn} {ex : PySem.W.Frag → Bool} {h : Heap} (e : obsY n fa fn tf ex h.get? = (He.valD fn, true)) : SaysY fa fn tf ex h (He.frT h.get? (asY n h.get?)) := by
  unfold obsY at e
  rw [Prod.mk.injEq, Bool.and_eq_true] at e
  obtain ⟨e1, e2, e3⟩ := e
  refine ⟨e1, e2, fun p hp => ?_⟩
  have z := List.all_eq_true.mp e3 p hp
  rw [Bool.and_eq_true] at z
  obtain ⟨z1, z2⟩ := z
  split at z2
  · rename_i o ho
    exact ⟨z1, He.frT_none ho z2, by rw [ho, He.emptyTab_eq z2]⟩
  · cases z2
def hookY (n : Nat) (fa : List He.Fa) (fn : List He.DefD) (tf : List He.Defn) (ex : PySem.W.Frag → Bool) : PySem.W.Hook where
  α := He.AlD × Bool
  obs := fun s => obsY n fa fn tf ex s.heap.get?
  val := fun _ => (He.valD fn, true)
  says := fun _ h => ∃ K : PySem.W.Frag, K.In h ∧ SaysY fa fn tf ex h K
  of := fun _ _ e => ⟨_, He.frT_in, saysY_of e⟩
  keeps := fun _ _ _ ⟨K, hK, c⟩ k => ⟨K, hK.keeps k, c.d, c.more, fun p hp => ⟨(c.tb p hp).1, (c.tb p hp).2.1, k _ _ (c.tb p hp).2.2⟩⟩
theorem obsY_eq {n : Nat} {fa : List He.Fa} {fn : List He.DefD} {tf : List He.Defn} {ex : PySem.W.Frag → Bool} {g : Addr → Option Obj} {s : Shared} (h : ∀ a, g a = s.heap.get? a) : obsY n fa fn tf ex g = (hookY n fa fn tf ex).obs s := by
  obtain rfl : g = s.heap.get? := funext h
  rfl
end Dh

/-! The layer Dh, part T: dicts of data that never changes, dicts of owned things; try .. except X as e; sorted. -/
namespace Dh
open PySem PySem.Spec PyProof.Rows L2
/-! ### dicts by keys, values of any kind -/
section
variable {β : Type}
def valD (kds : List (Key × β)) (k : Key) : Option β := (kds.find? fun q => decide (q.1 = k)).map (·.2)
def putD (kds : List (Key × β)) (k : Key) (d : β) : List (Key × β) := if (kds.any fun q => decide (q.1 = k)) = true then kds.map (fun q => if q.1 = k then (q.1, d) else q) else kds ++ [(k, d)]
def dropD (kds : List (Key × β)) (k : Key) : List (Key × β) := kds.filter fun q => decide (q.1 ≠ k)
theorem valD_cons {p : Key × β} {r : List (Key × β)} {k : Key} : valD (p :: r) k = if p.1 = k then some p.2 else valD r k := by
  unfold valD
  rw [List.find?_cons]
  by_cases h : p.1 = k
  · rw [decide_eq_true h, if_pos h]; rfl
  · rw [decide_eq_false h, if_neg h]
theorem valD_any (k : Key) : ∀ kds : List (Key × β), (kds.any fun q => decide (q.1 = k)) = (valD kds k).isSome
  | [] => rfl
  | p :: r => by
    rw [List.any_cons, valD_cons, valD_any k r]
    by_cases h : p.1 = k
    · rw [if_pos h, decide_eq_true h]; rfl
    · rw [if_neg h, decide_eq_false h]; rfl
theorem valD_map (k j : Key) (y : β) : ∀ kds : List (Key × β), valD (kds.map fun q => if q.1 = k then (q.1, y) else q) j = (valD kds j).map fun x => if j = k then y else x
  | [] => rfl
  | p :: r => by
    rw [List.map_cons, valD_cons, valD_cons, valD_map k j y r]
    by_cases h : p.1 = k
    · rw [if_pos h]
      by_cases h2 : p.1 = j
      · rw [if_pos h2, if_pos h2, Option.map_some, if_pos (h2.symm.trans h)]
      · rw [if_neg h2, if_neg h2]
    · rw [if_neg h]
      by_cases h2 : p.1 = j
      · rw [if_pos h2, if_pos h2, Option.map_some, if_neg (fun e => h (h2.trans e))]
      · rw [if_neg h2, if_neg h2]
theorem valD_snoc (k j : Key) (y : β) : ∀ kds : List (Key × β), valD kds k = none → valD (kds ++ [(k, y)]) j = if j = k then some y else valD kds j
  | [], _ => by
    rw [List.nil_append, valD_cons]
    by_cases h : k = j
    · rw [if_pos h, if_pos h.symm]
    · rw [if_neg h, if_neg fun e => h e.symm]
  | p :: r, h => by
    rw [valD_cons] at h
    have hk : ¬ p.1 = k := fun e => by rw [if_pos e] at h; cases h
    rw [if_neg hk] at h
    rw [List.cons_append, valD_cons, valD_cons, valD_snoc k j y r h]
    by_cases h2 : p.1 = j
    · rw [if_pos h2, if_pos h2, if_neg fun e => hk (h2.trans e)]
    · rw [if_neg h2, if_neg h2]
theorem valD_put (kds : List (Key × β)) (k j : Key) (y : β) : valD (putD kds k y) j = if j = k then some y else valD kds j := by
  unfold putD
  rw [valD_any]
  by_cases h : (valD kds k).isSome = true
  · rw [if_pos h, valD_map]
    by_cases e : j = k
    · subst e
      rw [if_pos rfl]
      obtain ⟨x, hx⟩ := Option.isSome_iff_exists.mp h
      rw [hx, Option.map_some, if_pos rfl]
    · simp only [if_neg e]
      cases valD kds j <;> rfl
  · rw [if_neg h, valD_snoc _ _ _ _ (by simpa using h)]
theorem valD_drop (k j : Key) : ∀ kds : List (Key × β), valD (dropD kds k) j = if j = k then none else valD kds j
  | [] => by show (none : Option β) = _; split <;> rfl
  | p :: r => by
    have ih := valD_drop k j r
    unfold dropD at ih ⊢
    rw [List.filter_cons]
    by_cases h : p.1 = k
    · rw [if_neg (by simp [h]), ih, valD_cons]
      by_cases e : j = k
      · rw [if_pos e, if_pos e]
      · rw [if_neg e, if_neg e, if_neg fun z => e (z.symm.trans h)]
    · rw [if_pos (by simp [h]), valD_cons, valD_cons, ih]
      by_cases h2 : p.1 = j
      · rw [if_pos h2, if_pos h2, if_neg fun e => h (h2.trans e)]
      · rw [if_neg h2, if_neg h2]
theorem putD_new {kds : List (Key × β)} {k : Key} {d : β} (h : valD kds k = none) : putD kds k d = kds ++ [(k, d)] := by
  unfold putD
  rw [valD_any, h, if_neg (by simp)]
end
/-- the pairs kvs stand for keys and data -/
inductive KD (H : Hp) : List (Key × V) → List (Key × Dt) → Prop
  | nil : KD H [] []
  | cons {k : Key} {v : V} {d : Dt} {kvs : List (Key × V)} {kds : List (Key × Dt)} : DV H v d → KD H kvs kds → KD H ((k, v) :: kvs) ((k, d) :: kds)
section
variable {H H' : Hp} {k : Key} {v : V} {d : Dt}
theorem KD.mono (m : ∀ a xs, H a = some (.tup xs) → H' a = some (.tup xs)) : ∀ {kvs : List (Key × V)} {kds : List (Key × Dt)}, KD H kvs kds → KD H' kvs kds
  | _, _, .nil => .nil
  | _, _, .cons e r => .cons (e.mono m) (r.mono m)
theorem KD.len : ∀ {kvs : List (Key × V)} {kds : List (Key × Dt)}, KD H kvs kds → kvs.length = kds.length
  | _, _, .nil => rfl
  | _, _, .cons _ r => by rw [List.length_cons, List.length_cons, r.len]
theorem KD.get : ∀ {kvs : List (Key × V)} {kds : List (Key × Dt)}, KD H kvs kds → (valD kds k = none ∧ valV kvs k = none) ∨ ∃ v d, valD kds k = some d ∧ valV kvs k = some v ∧ DV H v d
  | _, _, .nil => .inl ⟨rfl, rfl⟩
  | _, _, .cons (k := j) (v := v) (d := d) e r => by
    by_cases h : j = k
    · exact .inr ⟨v, d, by rw [valD_cons, if_pos h], valV_pos h, e⟩
    · rw [valD_cons, if_neg h, valV_neg h]
      exact r.get
theorem KD.any {kvs : List (Key × V)} {kds : List (Key × Dt)} (r : KD H kvs kds) : (kvs.any fun q => decide (q.1 = k)) = (kds.any fun q => decide (q.1 = k)) := by
  induction r with
  | nil => rfl
  | cons e r ih => rw [List.any_cons, List.any_cons, ih]
theorem KD.map (hd : DV H v d) {kvs : List (Key × V)} {kds : List (Key × Dt)} (r : KD H kvs kds) : KD H (kvs.map fun q => if q.1 = k then (q.1, v) else q) (kds.map fun q => if q.1 = k then (q.1, d) else q) := by
  induction r with
  | nil => exact .nil
  | @cons j v2 d2 _ _ e r ih =>
    rw [List.map_cons, List.map_cons]
    by_cases h : j = k
    · rw [if_pos h, if_pos h]; exact .cons hd ih
    · rw [if_neg h, if_neg h]; exact .cons e ih
theorem KD.snoc (hd : DV H v d) {kvs : List (Key × V)} {kds : List (Key × Dt)} (r : KD H kvs kds) : KD H (kvs ++ [(k, v)]) (kds ++ [(k, d)]) := by
  induction r with
  | nil => exact .cons hd .nil
  | cons e r ih => exact .cons e ih
theorem KD.put (hd : DV H v d) {kvs : List (Key × V)} {kds : List (Key × Dt)} (r : KD H kvs kds) : KD H (putK kvs k v) (putD kds k d) := by
  unfold putK putD
  rw [r.any]
  split
  · exact r.map hd
  · exact r.snoc hd
theorem KD.drop {kvs : List (Key × V)} {kds : List (Key × Dt)} (r : KD H kvs kds) : KD H (dropK kvs k) (dropD kds k) := by
  unfold dropK dropD
  induction r with
  | nil => exact .nil
  | @cons j v2 d2 _ _ e r ih =>
    rw [List.filter_cons, List.filter_cons]
    by_cases h : j = k
    · rw [if_neg (by simp [h]), if_neg (by simp [h])]; exact ih
    · rw [if_pos (by simp [h]), if_pos (by simp [h])]; exact .cons e ih
end
/-- a dict of data -/
def dkD (a : Addr) (kds : List (Key × Dt)) : HP := fun h => ∃ kvs, h a = some (.dK kvs) ∧ KD h kvs kds
def kdC (kvs : List (Key × V)) (kds : List (Key × Dt)) : HP := fun h => KD h kvs kds
section
variable {T : List (Addr × Str)} {L A B R : List HP} {K : PySem.W.Frag} {Q : VK} {a : Addr} {kvs : List (Key × V)} {kds : List (Key × Dt)} {k : Key} {v : V} {d : Dt} {G N : Hp → Prop} {i : Int} {s : Str}
theorem Pick.kdC (pk : Pick L (kdC kvs kds) A) {H : Hp} (s : Seps L H) : KD H kvs kds := by
  obtain ⟨h1, s1, r⟩ := (pk H s).head
  exact KD.mono (fun a xs q => s1 _ _ q) r
theorem ent_kdC {R : List HP} (h : ∀ H, Seps L H → KD H kvs kds) (e : Ent L R) : Ent L (kdC kvs kds :: R) := fun H s =>
  Seps.impT (fun h q => e h q) (s.more (tupsOf H) (fun a o q => (tupsOf_some q).1) (fun a o q => (tupsOf_some q).2) ((h H s).mono fun a xs q => tupsOf_at q))
theorem go_kdC (h : ∀ H, Seps L H → KD H kvs kds) (g : Go T (kdC kvs kds :: L) G) : Go T L G := g.ent (ent_kdC h ent_refl)
theorem go_dkD (pk : Pick L (dkD a kds) A) (g : ∀ kvs, kvs.length = kds.length → Go T (pt a (.dK kvs) :: kdC kvs kds :: A) G) : Go T L G := fun H t s => by
  obtain ⟨h1, h2, d, n1, n2, s1, s2, ⟨kvs, e, r⟩, z⟩ := pk H s
  have q : Seps (pt a (.dK kvs) :: A) H := ⟨h1, h2, d, n1, n2, s1, s2, e, z⟩
  have r2 : KD H kvs kds := r.mono fun a xs q => s1 _ _ q
  have q2 : Seps (kdC kvs kds :: pt a (.dK kvs) :: A) H := q.more (tupsOf H) (fun a o q => (tupsOf_some q).1) (fun a o q => (tupsOf_some q).2) (r2.mono fun a xs q => tupsOf_at q)
  exact g kvs r.len H t q2.swap
theorem ent_dkD {R : List HP} (p1 : Pick L (pt a (.dK kvs)) A) (p2 : Pick A (kdC kvs kds) B) (e : Ent B R) : Ent L (dkD a kds :: R) := fun H s => by
  have z := Seps.cut (L1 := [pt a (.dK kvs), kdC kvs kds]) (L2 := B) ((p1 H s).impT fun h q => p2 h q)
  refine (z.imp (P' := dkD a kds) fun h q => ?_).impT fun h q => e h q
  obtain ⟨g1, t1, e1⟩ := q.head
  obtain ⟨g2, t2, e2⟩ := q.tail.head
  exact ⟨kvs, t1 _ _ e1, KD.mono (fun a xs q => t2 _ _ q) e2⟩
theorem ent_dkD0 {R : List HP} (p1 : Pick L (pt a (.dK [])) A) (e : Ent A R) : Ent L (dkD a [] :: R) := fun H s => ((p1 H s).imp fun h q => ⟨[], q, .nil⟩).impT fun h q => e h q
/-- a value stands there, or not -/
theorem go_kdGet (k : Key) (pk : Pick L (kdC kvs kds) A) (h0 : valD kds k = none → valV kvs k = none → Go T L G) (h1 : ∀ d v, valD kds k = some d → valV kvs k = some v → Go T (dv v d :: L) G) : Go T L G := fun H t s => by
  rcases (pk.kdC s).get (k := k) with ⟨n1, n2⟩ | ⟨v, d, n1, n2, n3⟩
  · exact h0 n1 n2 H t s
  · exact h1 d v n1 n2 H t (s.more (tupsOf H) (fun a o q => (tupsOf_some q).1) (fun a o q => (tupsOf_some q).2) (n3.mono fun a xs q => tupsOf_at q))
end
/-- a tuple of plain things -/
theorem go_dvFlat {T : List (Addr × Str)} {L A : List HP} {v : V} {es : List Dt} {xs : List V} {G : Hp → Prop} (pk : Pick L (dv v (.tup es)) A) (he : es.all Dt.isAt = true) (hx : es.map Dt.at = xs) (g : ∀ t, v = .ref t → Go T (pt t (.tup xs) :: L) G) : Go T L G := fun H tt s => by
  have f : ∀ H, Seps L H → ∃ t, v = .ref t ∧ H t = some (.tup xs) := fun H s => by
    have z := pk.dv s
    cases z with
    | tup e r => exact ⟨_, rfl, by rw [← hx, ← r.atoms he]; exact e⟩
  obtain ⟨t, h1, h2⟩ := f H s
  exact g t h1 H tt (s.more (tupsOf H) (fun a o q => (tupsOf_some q).1) (fun a o q => (tupsOf_some q).2) (tupsOf_at h2))
/-! ### dicts of owned things -/
section
variable {α : Type} {T : List (Addr × Str)} {L A B R : List HP} {P : V → α → HP} {a : Addr} {kus : List (Key × α)} {vs : List V} {k : Key} {G : Hp → Prop}
def lsK (P : V → α → HP) (a : Addr) (kus : List (Key × α)) : HP := fun h => ∃ vs, Seps [pt a (.dK ((kus.map (·.1)).zip vs)), rows P vs (kus.map (·.2))] h
theorem go_lsK (pk : Pick L (lsK P a kus) A) (g : ∀ vs, vs.length = kus.length → Go T (pt a (.dK ((kus.map (·.1)).zip vs)) :: rows P vs (kus.map (·.2)) :: A) G) : Go T L G := fun H t s => by
  obtain ⟨h1, h2, d, n1, n2, s1, s2, ⟨vs, z⟩, r⟩ := pk H s
  have hl : vs.length = kus.length := by
    obtain ⟨_, _, hl, _⟩ := z.tail.head
    rw [hl, List.length_map]
  have q : Seps (Seps [pt a (.dK ((kus.map (·.1)).zip vs)), rows P vs (kus.map (·.2))] :: A) H := ⟨h1, h2, d, n1, n2, s1, s2, z, r⟩
  exact g vs hl H t q.paste
theorem ent_lsK {kvs : List (Key × V)} (p1 : Pick L (pt a (.dK kvs)) A) (hk : kvs = (kus.map (·.1)).zip vs) (p2 : Pick A (rows P vs (kus.map (·.2))) B) (e : Ent B R) : Ent L (lsK P a kus :: R) := fun H s => by
  subst hk
  have z : Seps ([pt a (.dK ((kus.map (·.1)).zip vs)), rows P vs (kus.map (·.2))] ++ B) H := (p1 H s).impT fun h q => p2 h q
  exact (z.cut.imp (P' := lsK P a kus) fun h q => ⟨vs, q⟩).impT fun h q => e h q
theorem zipK_get (k : Key) : ∀ {kus : List (Key × α)} {vs : List V}, vs.length = kus.length → (valD kus k = none ∧ valV ((kus.map (·.1)).zip vs) k = none) ∨ ∃ (i : Nat) (u : α) (v : V), kus[i]? = some (k, u) ∧ valD kus k = some u ∧ vs[i]? = some v ∧ valV ((kus.map (·.1)).zip vs) k = some v
  | [], _, _ => .inl ⟨rfl, rfl⟩
  | _ :: _, [], h => by cases h
  | (j, u) :: r, v :: vs, h => by
    rw [List.map_cons, List.zip_cons_cons]
    by_cases e : j = k
    · subst e
      exact .inr ⟨0, u, v, rfl, by rw [valD_cons, if_pos rfl], rfl, valV_pos rfl⟩
    · rw [valD_cons, if_neg e, valV_neg e]
      rcases zipK_get k (kus := r) (vs := vs) (by simpa using h) with z | ⟨i, u', v', z1, z2, z3, z4⟩
      · exact .inl z
      · exact .inr ⟨i + 1, u', v', z1, z2, z3, z4⟩
theorem putD_at {k : Key} {u u' : α} : ∀ {kus : List (Key × α)} {i : Nat}, (kus.map (·.1)).Nodup → kus[i]? = some (k, u) → putD kus k u' = kus.set i (k, u') := by
  have key : ∀ {kus : List (Key × α)} {i : Nat}, (kus.map (·.1)).Nodup → kus[i]? = some (k, u) → (kus.map fun q => if q.1 = k then (q.1, u') else q) = kus.set i (k, u') := by
    intro kus
    induction kus with
    | nil => intro i _ h; cases h
    | cons p r ih =>
      intro i nd h
      rw [List.map_cons, List.nodup_cons] at nd
      cases i with
      | zero =>
        cases h
        have e : (r.map fun q => if q.1 = k then (q.1, u') else q) = r := by
          conv => rhs; rw [← List.map_id r]
          refine List.map_congr_left fun q hq => ?_
          rw [if_neg fun e : q.1 = k => nd.1 (by rw [← e]; exact List.mem_map.mpr ⟨q, hq, rfl⟩)]
          rfl
        rw [List.map_cons, e]
        simp
      | succ i =>
        have h' : r[i]? = some (k, u) := h
        have hk : ¬ p.1 = k := fun e => nd.1 (by rw [e]; exact List.mem_map.mpr ⟨(k, u), List.mem_of_getElem? h', rfl⟩)
        rw [List.map_cons, if_neg hk, ih nd.2 h']
        rfl
  intro kus i nd h
  unfold putD
  rw [if_pos (List.any_eq_true.mpr ⟨(k, u), List.mem_of_getElem? h, by simp⟩), key nd h]
theorem putD_keys {k : Key} {u' : α} (kus : List (Key × α)) : (putD kus k u').map (·.1) = if (valD kus k).isSome = true then kus.map (·.1) else kus.map (·.1) ++ [k] := by
  unfold putD
  rw [valD_any]
  split
  · rw [List.map_map]
    refine List.map_congr_left fun q _ => ?_
    show (if q.1 = k then (q.1, u') else q).1 = q.1
    split <;> rfl
  · rw [List.map_append]; rfl
theorem valD_none {k : Key} : ∀ {kus : List (Key × α)}, valD kus k = none ↔ k ∉ kus.map (·.1)
  | [] => by simp [valD]
  | p :: r => by
    rw [valD_cons, List.map_cons, List.mem_cons]
    by_cases e : p.1 = k
    · rw [if_pos e]
      simp [e]
    · rw [if_neg e, valD_none]
      exact ⟨fun h z => z.elim (fun z => e z.symm) h, fun h z => h (.inr z)⟩
theorem putD_nodup {k : Key} {u' : α} {kus : List (Key × α)} (h : (kus.map (·.1)).Nodup) : ((putD kus k u').map (·.1)).Nodup := by
  rw [putD_keys]
  split
  · exact h
  · rename_i z
    have hk : k ∉ kus.map (·.1) := valD_none.mp (by simpa using z)
    exact List.nodup_append.mpr ⟨h, by simp, fun a ha b hb e => by
      rw [List.mem_singleton] at hb
      exact hk (by rw [← hb, ← e]; exact ha)⟩
end
/-! ### get, setdefault -/
section
variable {T : List (Addr × Str)} {L A B R : List HP} {σ : L2.St} {Q : VK} {a : Addr} {kvs : List (Key × V)} {td ty tx : TE} {i : Int} {v : V}
def lGet1 (ty : TE) (σ : L2.St) (Q : VK) (x : V) (H1 : Hp) : Prop := ∃ a, x = .ref a ∧ IsD H1 a ∧ ty σ H1 fun y H2 => ∃ o, DGet H2 a y o ∧ Q (o.getD .non) H2
def lGet1b (a : Addr) (Q : VK) (y : V) (H2 : Hp) : Prop := ∃ o, DGet H2 a y o ∧ Q (o.getD .non) H2
theorem g_get1E (k : Go T L fun H => td σ H (lGet1 ty σ Q)) : Go T L fun H => tDGet1 td ty σ H Q := k
theorem g_get1 (pk : Pick L (pt a (.dK kvs)) A) (k : Go T L fun H => ty σ H (lGet1b a Q)) : Go T L fun H => lGet1 ty σ Q (.ref a) H := fun H t s => ⟨a, rfl, .inl ⟨_, .inl (pk.at s)⟩, k H t s⟩
theorem g_get1I (pk : Pick L (pt a (.dK kvs)) A) (k : Go T L fun H => Q ((valV kvs (Sum.inl i)).getD .non) H) : Go T L fun H => lGet1b a Q (.int i) H := fun H t s => ⟨_, DGet.k (k := Sum.inl i) (pk.at s), k H t s⟩
def lGet2 (ty tx : TE) (σ : L2.St) (Q : VK) (x : V) (H1 : Hp) : Prop := ∃ a, x = .ref a ∧ IsD H1 a ∧ ty σ H1 fun y H2 => tx σ H2 fun z H3 => ∃ o, DGet H3 a y o ∧ Q (o.getD z) H3
def lGet2b (a : Addr) (Q : VK) (y z : V) (H3 : Hp) : Prop := ∃ o, DGet H3 a y o ∧ Q (o.getD z) H3
theorem g_get2E (k : Go T L fun H => td σ H (lGet2 ty tx σ Q)) : Go T L fun H => tDGet2 td ty tx σ H Q := k
theorem g_get2 (pk : Pick L (pt a (.dK kvs)) A) (k : Go T L fun H => ty σ H fun y H2 => tx σ H2 fun z H3 => lGet2b a Q y z H3) : Go T L fun H => lGet2 ty tx σ Q (.ref a) H := fun H t s => ⟨a, rfl, .inl ⟨_, .inl (pk.at s)⟩, k H t s⟩
theorem g_get2I {z : V} (pk : Pick L (pt a (.dK kvs)) A) (k : Go T L fun H => Q ((valV kvs (Sum.inl i)).getD z) H) : Go T L fun H => lGet2b a Q (.int i) z H := fun H t s => ⟨_, DGet.k (k := Sum.inl i) (pk.at s), k H t s⟩
def lSetd (ty tx : TE) (σ : L2.St) (Q : VK) (x : V) (H1 : Hp) : Prop := ∃ a, x = .ref a ∧ IsD H1 a ∧ ty σ H1 fun y H2 => tx σ H2 fun z H3 => ∃ (kvs : List (Key × V)) (k : Key), H3 a = some (.dK kvs) ∧ y = kV k ∧ kvs.length < sizeLine ∧ (∀ v, valV kvs k = some v → Q v H3) ∧ (valV kvs k = none → Q z (upd H3 a (.dK (putK kvs k z))))
def lSetdb (a : Addr) (Q : VK) (y z : V) (H3 : Hp) : Prop := ∃ (kvs : List (Key × V)) (k : Key), H3 a = some (.dK kvs) ∧ y = kV k ∧ kvs.length < sizeLine ∧ (∀ v, valV kvs k = some v → Q v H3) ∧ (valV kvs k = none → Q z (upd H3 a (.dK (putK kvs k z))))
theorem g_setdE (k : Go T L fun H => td σ H (lSetd ty tx σ Q)) : Go T L fun H => tDSetd td ty tx σ H Q := k
theorem g_setd (pk : Pick L (pt a (.dK kvs)) A) (k : Go T L fun H => ty σ H fun y H2 => tx σ H2 fun z H3 => lSetdb a Q y z H3) : Go T L fun H => lSetd ty tx σ Q (.ref a) H := fun H t s => ⟨a, rfl, .inl ⟨_, .inl (pk.at s)⟩, k H t s⟩
theorem g_setdI {z : V} (pk : Pick L (pt a (.dK kvs)) A) (hl : kvs.length < sizeLine) (k1 : ∀ v, valV kvs (Sum.inl i) = some v → Go T L fun H => Q v H) (k2 : valV kvs (Sum.inl i) = none → Go T (pt a (.dK (putK kvs (Sum.inl i) z)) :: A) fun H => Q z H) : Go T L fun H => lSetdb a Q (.int i) z H := fun H t s =>
  ⟨kvs, Sum.inl i, pk.at s, rfl, hl, fun v e => k1 v e H t s, fun e => (go_wr (P' := pt a (.dK (putK kvs (Sum.inl i) z))) pk rfl (fun h e => ⟨_, e, rfl, upd_same⟩) (k2 e)) H t s⟩
end
/-! ### try .. except X as e -/
section
variable {X : Cx} {k j : Nat} {C : Addr} {m : Str} {sp : Sp} {E : L2.St → XK} {pos apos : Pos} {e o : Expr} {es : List Expr} {ta : TE} {t : TA}
/-- a method called within a try: what is wished of exceptions hangs on the slots -/
def tMethW (C : Addr) (m : Str) (sp : Sp) (E : L2.St → XK) (ta : TE) (t : TA) : TE := fun σ H Q => tMeth C m sp [] (E σ) ta t σ H Q
theorem pe_metW {pl : Sem Bool} (c : MetX X.prog X.w X.K X.mg X.base k C m sp) (hr : Room j X.A) (hk : k ≤ j) (hx : ∀ σ, PassesAt (L2.CX X.prog X.w) X σ (E σ)) (he : PE X o ta) (ha : PA X (e :: es) t)
    (hst : starEach (e :: es) X.env = (false, eval e X.env) :: starEach es X.env := by rfl) (hpl : (backTo pos (starEach es X.env)).any (·.1) = false := by rfl)
    (ht : eval (.Call (.Attribute o m apos) (e :: es) [] pos) X.env = (eval o X.env >>= fun ov => standAt apos.atName >>= fun _ => holding [ov] (getMethod ov m pl) >>= fun ff => callWith pos ff.1 ff.2 (backTo pos (starEach (e :: es) X.env)) (backToKw pos (keywordEach [] X.env))) := by rfl) :
    PE X (.Call (.Attribute o m apos) (e :: es) [] pos) (tMethW C m sp E ta t) := by
  obtain ⟨f, fd, ps, hc, hm, F, b⟩ := c.ex
  have F := F.mono hk
  refine ⟨fun pins s σ H Q I h => PySem.W.methodCall_KW (pl := pl) (thn (he.run pins s σ H _ I h) fun u s1 z => ?_) ht⟩
  obtain ⟨x, H1, I1, rx, a, dx, fs, ex, ea, l, q⟩ := z
  subst ex
  obtain rfl : u = Value.ref a := rx
  refine getmeth_ok I1 ea hc hm l (PySem.W.callWith_K (first := [.ref a]) (h₀ := X.base) I1.ok.mod.kin hm.kp (thn (ha.run pos pins s1 σ H1 _ I1 q) fun us s2 z2 => ?_) hst hpl)
  obtain ⟨vs, H2, I2, r, q2⟩ := z2
  simp only [List.append_nil] at q2
  exact ⟨I2.kIn, run_fnS (us := .ref a :: us) (vs := .ref a :: vs) F hr b (hx σ) I2 (.cons rfl r) q2⟩
/-- a try: the body's reading under the wish of its clauses -/
def tTry (tb : WX → TS) (w : Ends → WX) : TS := fun D σ H => tb (w D) D σ H
theorem ps_tryAs {K : PySem.W.Frag} {x n : Str} {c : Value} {i : Nat} {body suite : List Stmt} {b0 : Stmt} {np pos pos' : Pos} {tb : WX → TS} {ts : Addr → Value → Option Addr → TS} {Wout : WX} (hK : X.K = K)
    (hs : X.stack = X.env :: X.outer) (hf : X.env.frame = some X.env.locals) (hN : X.N.Nodup) (hi : X.N[i]? = some n) (hln : X.env.kindOf n = some .local) (hc : Names X x c) (tk : Takes X Wout)
    (hb : ∀ (W : WX) (pn : List (Addr × Obj)) (xe : Value → Shared → Prop), Takes (X.tr pn xe) W → PassesOwn (model X.prog X.w) X.A X.env xe → PSs (X.tr pn xe) body (tb W))
    (hsu : ∀ (a : Addr) (oe : Obj) (cls : Value) (d : Option Addr) (pn : List (Addr × Obj)), Zc cls d oe → (∃ vs, oe.data = .fields vs) → PSs (X.suite a ((a, oe) :: pn)) (b0 :: suite) (ts a cls d)) :
    PS X (.Try body [.ExceptHandler (some (.Name x np)) (some n) (b0 :: suite) pos'] [] [] pos) (tTry tb (wAs K c i ts Wout)) := hK ▸ ps_try_as hs hf hN hi hln hc tk hb hsu
end
section
variable {T : List (Addr × Str)} {L A : List HP} {σ : L2.St} {Q : VK} {K : PySem.W.Frag} {C C2 a dd : Addr} {m fl : Str} {sp : Sp} {E : L2.St → XK} {ta te : TE} {tr : TA} {tb : WX → TS} {w : Ends → WX} {D : Ends} {i : Nat} {ts : Addr → Value → Option Addr → TS} {Wout : WX} {cls : Value} {d : Option Addr} {v : V} {fs : List (Str × V)}
theorem g_methW (k : Go T L fun H => ta σ H (lMeth C m sp (E σ) tr σ Q)) : Go T L fun H => tMethW C m sp E ta tr σ H Q := k
theorem g_tTry (k : Go T L fun H => tb (w D) D σ H) : Go T L fun H => tTry tb w D σ H := k
theorem g_wAsY (h : PySem.W.exmOne K cls (.ref C) = some true) (k : ∀ a, Go T L fun H => ts a cls d { nx := fun σ' H' => D.nx (σ'.set i none) H', rt := D.rt, bk := fun σ' H' => D.bk (σ'.set i none) H', ct := fun σ' H' => D.ct (σ'.set i none) H' } (σ.set i (some (.ref a))) H) :
    Go T L fun H => WE (wAs K (.ref C) i ts Wout D) σ cls d H := fun H t s => ⟨true, h, fun _ a _ => k a H t s, fun z => by cases z⟩
theorem g_wAsN (h : PySem.W.exmOne K cls (.ref C) = some false) (k : Go T L fun H => Wout cls d σ H) : Go T L fun H => WE (wAs K (.ref C) i ts Wout D) σ cls d H := fun H t s => ⟨false, h, (fun z => by cases z), fun _ => k H t s⟩
theorem g_xf {q : Nat} (hs : σ[q]? = some (some (.ref a))) (pk : Pick L (pt dd (.xd fs)) A) (hl : fs.lookup fl = some v) (k : Go T L fun H => Q v H) : Go T L fun H => tXf a (.ref C) (some dd) C fl (tVar q) σ H Q := fun H t s =>
  ⟨_, hs, rfl, rfl, dd, fs, v, rfl, pk.at s, hl, k H t s⟩
end
/-! ### comprehensions over rows of data -/
section
variable {α : Type} {T : List (Addr × Str)} {L L0 A B : List HP} {σ : L2.St} {Q : VK} {K : PySem.W.Frag} {te : TE} {tt : TT} {g : TG} {sl : List Nat} {a : Addr} {us : List α} {f : α → Dt} {vs : List V}
def vAt (vs : List V) (i : Nat) : V := vs.getD i .non
theorem vAt_some {i : Nat} {v : V} (h : vs[i]? = some v) : vAt vs i = v := by unfold vAt; rw [List.getD_eq_getElem?_getD, h]; rfl
theorem dvs_pts {H : Hp} {F : Nat → V} {G : Nat → Dt} : ∀ is : List Nat, (∀ i ∈ is, DV H (F i) (G i)) → DVs H (is.map F) (is.map G)
  | [], _ => .nil
  | i :: is, h => .cons (h i List.mem_cons_self) (dvs_pts is fun j hj => h j (List.mem_cons_of_mem _ hj))
def dAt (us : List α) (f : α → Dt) (i : Nat) : Dt := match us[i]? with
  | some u => f u
  | none => .non
theorem filt_dt (us : List α) (p : α → Bool) (f : α → Dt) : ((List.range us.length).filter (bAt us p)).map (dAt us f) = (us.filter p).map f := by
  have key : ∀ k, k ≤ us.length → ((List.range k).filter (bAt us p)).map (dAt us f) = ((us.take k).filter p).map f := by
    intro k
    induction k with
    | zero => intro _; simp
    | succ k ih =>
      intro hk
      have hu : us[k]? = some us[k] := List.getElem?_eq_getElem (by omega)
      rw [List.take_add_one, hu, List.filter_append, List.map_append, ← ih (by omega), List.range_succ, List.filter_append, List.map_append]
      congr 1
      have e1 : bAt us p k = p us[k] := bAt_some hu
      have e2 : dAt us f k = f us[k] := by unfold dAt; rw [hu]
      by_cases h : p us[k] = true
      · simp [e1, e2, h]
      · simp [e1, e2, h]
  have z := key us.length (Nat.le_refl _)
  rw [List.take_length] at z
  exact z
/-- the items that pass, as they are -/
theorem g_lcRows (p : α → Bool) (h0 : Ent L L0) (pk : Pick L0 (pt a (.lst vs)) A) (pd : Pick L0 (dvs vs (us.map f)) B)
    (hs : ∀ D (i : Nat) u v, us[i]? = some u → vs[i]? = some v → bAt us p i = p u → vAt vs i = v → i < us.length → Go T (dv v (f u) :: pt D (.lst (((List.range i).filter (bAt us p)).map (vAt vs))) :: L0) (LcTurn T D (IP (bAt us p) (vAt vs) L0) i g tt te sl σ v))
    (hd : ∀ D ws, Go T (pt D (.lst ws) :: dvs ws ((us.filter p).map f) :: L0) fun H => Q (.ref D) H) : Go T L fun H => LcG (Itl K a) g tt te sl σ Q H := by
  refine Go.ent h0 (go_dvsLen pd fun hl => ?_)
  rw [List.length_map] at hl
  have w : L2.Walk (Itl K a) us.length (fun H => SqL K H a vs) (L2.YAt vs) := by rw [← hl]; exact walk_list
  refine g_lcWp (Pm := fun i x => vs[i]? = some x) w (fun _ _ _ _ h => h) (bAt us p) (vAt vs) ent_refl (fun H s => SqL.of (pk.at s)) (fun D i x hi e => ?_) fun D => ?_
  · have hu : us[i]? = some us[i] := List.getElem?_eq_getElem hi
    have pd2 : Pick (pt D (.lst (((List.range i).filter (bAt us p)).map (vAt vs))) :: L0) (dvs vs (us.map f)) (pt D (.lst (((List.range i).filter (bAt us p)).map (vAt vs))) :: B) := pick_there pd
    refine go_dvsAt pd2 (k := i) (d := f us[i]) (by rw [List.getElem?_map, hu]; rfl) fun v hv => ?_
    rw [e] at hv
    cases hv
    exact hs D i _ _ hu e (bAt_some hu) (vAt_some e) hi
  · have pd2 : Pick (pt D (.lst (((List.range us.length).filter (bAt us p)).map (vAt vs))) :: L0) (dvs vs (us.map f)) (pt D (.lst (((List.range us.length).filter (bAt us p)).map (vAt vs))) :: B) := pick_there pd
    refine go_dvs (vs := ((List.range us.length).filter (bAt us p)).map (vAt vs)) (ds := (us.filter p).map f) (fun H s => ?_) ?_
    · rw [← filt_dt us p f]
      refine dvs_pts _ fun i hi => ?_
      have hi := List.mem_range.mp (List.mem_filter.mp hi).1
      obtain ⟨v, h1, h2⟩ := (pd2.dvs s).at (k := i) (d := f us[i]) (by rw [List.getElem?_map, List.getElem?_eq_getElem hi]; rfl)
      rw [vAt_some h1]
      unfold dAt
      rw [List.getElem?_eq_getElem hi]
      exact h2
    · exact Go.ent (fun H s => s.swap) (hd D _)
/-- a value of each row that passes -/
theorem g_lcRowsF (p : α → Bool) (fn : α → V) (h0 : Ent L L0) (pk : Pick L0 (pt a (.lst vs)) A) (pd : Pick L0 (dvs vs (us.map f)) B)
    (hs : ∀ D (i : Nat) u v, us[i]? = some u → vs[i]? = some v → bAt us p i = p u → fAt us fn i = fn u → i < us.length → Go T (dv v (f u) :: pt D (.lst (((List.range i).filter (bAt us p)).map (fAt us fn))) :: L0) (LcTurn T D (IP (bAt us p) (fAt us fn) L0) i g tt te sl σ v))
    (hd : ∀ D, Go T (pt D (.lst ((us.filter p).map fn)) :: L0) fun H => Q (.ref D) H) : Go T L fun H => LcG (Itl K a) g tt te sl σ Q H := by
  refine Go.ent h0 (go_dvsLen pd fun hl => ?_)
  rw [List.length_map] at hl
  have w : L2.Walk (Itl K a) us.length (fun H => SqL K H a vs) (L2.YAt vs) := by rw [← hl]; exact walk_list
  refine g_lcWp (Pm := fun i x => vs[i]? = some x) w (fun _ _ _ _ h => h) (bAt us p) (fAt us fn) ent_refl (fun H s => SqL.of (pk.at s)) (fun D i x hi e => ?_) fun D => ?_
  · have hu : us[i]? = some us[i] := List.getElem?_eq_getElem hi
    have pd2 : Pick (pt D (.lst (((List.range i).filter (bAt us p)).map (fAt us fn))) :: L0) (dvs vs (us.map f)) (pt D (.lst (((List.range i).filter (bAt us p)).map (fAt us fn))) :: B) := pick_there pd
    refine go_dvsAt pd2 (k := i) (d := f us[i]) (by rw [List.getElem?_map, hu]; rfl) fun v hv => ?_
    rw [e] at hv
    cases hv
    exact hs D i _ _ hu e (bAt_some hu) (fAt_some hu) hi
  · rw [filt_at us p fn _ _ (fun i u h => bAt_some h) fun i u h => fAt_some h]
    exact hd D
end
/-! ### sorted -/
def rSortDI : List V → Hp → VK → Prop := fun xs H Q => ∃ (a : Addr) (kvs : List (Key × V)) (ks : List Int), xs = [.ref a] ∧ Rd H a (.dK kvs) ∧ kvs.map (·.1) = ks.map Sum.inl ∧ ks.length < 64 ∧ ∀ (ys : List Int) (p : Addr), ys.Perm ks → ys.Pairwise (· ≤ ·) → H p = none → Q (.ref p) (upd H p (.lst (ys.map V.int)))
theorem cSortD {X : Cx} (hc : X.calm = true) : CallR X (.builtin "sorted") rSortDI := call_sortedDI hc
theorem cSortI {X : Cx} {K : PySem.W.Frag} (hK : X.K = K) : CallR X (.builtin "sorted") (rSorted K) := hK ▸ cr_sorted
section
variable {T : List (Addr × Str)} {L A : List HP} {Q : VK} {K : PySem.W.Frag} {a : Addr} {kvs : List (Key × V)} {ns : List Int}
theorem g_sortD {ks : List Int} (pk : Pick L (pt a (.dK kvs)) A) (hk : kvs.map (·.1) = ks.map Sum.inl) (hl : ks.length < 64) (k : ∀ (ys : List Int) p, ys.Perm ks → ys.Pairwise (· ≤ ·) → Go T (pt p (.lst (ys.map V.int)) :: L) fun H => Q (.ref p) H) : Go T L fun H => rSortDI [.ref a] H Q := fun H t s =>
  ⟨a, kvs, ks, rfl, .inl (pk.at s), hk, hl, fun ys p h1 h2 h3 => (go_new (P := fun p => pt p (.lst (ys.map V.int))) rfl (fun _ _ e => e) fun p => k ys p h1 h2) H t s p h3⟩
theorem g_sortI (pk : Pick L (pt a (.lst (ns.map V.int))) A) (hl : ns.length < 64) (k : ∀ (ys : List Int) p, ys.Perm ns → ys.Pairwise (· ≤ ·) → Go T (pt p (.lst (ys.map V.int)) :: L) fun H => Q (.ref p) H) : Go T L fun H => rSorted K [.ref a] H Q := fun H t s =>
  ⟨a, ns, rfl, SqL.of (pk.at s), hl, fun ys p h1 h2 h3 => (go_new (P := fun p => pt p (.lst (ys.map V.int))) rfl (fun _ _ e => e) fun p => k ys p h1 h2) H t s p h3⟩
end
end Dh

/-! The layer Dh, part U: two fors in a comprehension, tuples put together and repeated, data in rows, try without a name. -/
namespace Dh
open PySem PySem.Spec PyProof.Rows L2
/-! ### two fors -/
section
variable {T : List (Addr × Str)} {L : List HP} {σ : L2.St} {Q : VK} {K : PySem.W.Frag} {n : Nat} {te : TE} {tt tt1 : TT} {g g1 : TG} {wi wi1 : TI} {vs vs1 : List Nat} {a D : Addr} {xs : List V} {x : V} {J J1 : It} {G : Hp → Prop} {Y : Nat → Hp → V → Hp → Prop} {i : Nat}
def Lc2G (J : It) (g : TG) (tt : TT) (wi1 : TI) (g1 : TG) (tt1 : TT) (te : TE) (vs vs1 : List Nat) (σ : L2.St) (Q : VK) (H1 : Hp) : Prop := tLc2 (fun _ H R => R J H) g tt wi1 g1 tt1 te vs vs1 σ H1 Q
theorem g_lc2E (k : Go T L fun H => wi σ H fun J H1 => Lc2G J g tt wi1 g1 tt1 te vs vs1 σ Q H1) : Go T L fun H => tLc2 wi g tt wi1 g1 tt1 te vs vs1 σ H Q := k
/-- the inner walk -/
def Lc2In (T : List (Addr × Str)) (D : Addr) (I : CI) (i : Nat) (Ji : It) (gi : TG) (ti : TT) (ei : TE) (is : List Nat) (τ : L2.St) (Hi : Hp) : Prop := ∃ V1 : Nat → Nat → Hp → Prop, (∃ q, V1 0 q Hi) ∧ ∀ j k B, V1 j k B →
  (Ji.stop j B ∧ LcPv T D I i B) ∨ (Ji.go j B ∧ ∃ N1 : Hp → Prop, (∀ C, N1 C → ∃ k', k' < k ∧ V1 (j + 1) k' C) ∧ ∀ z C, Ji.yld j B z C → gi z (wipe τ is) C fun ρ C5 => wipe ρ is = wipe τ is ∧ ti ρ C5 fun c C6 =>
    if c = true then ei ρ C6 fun y C7 => ∃ ys, C7 D = some (.lst ys) ∧ ys.length < sizeLine ∧ N1 (upd C7 D (.lst (ys ++ [y]))) else N1 C6)
def Lc2Turn (T : List (Addr × Str)) (D : Addr) (I : CI) (i : Nat) (g : TG) (tt : TT) (wi1 : TI) (g1 : TG) (tt1 : TT) (te : TE) (vs vs1 : List Nat) (σ : L2.St) (x : V) (H : Hp) : Prop :=
  g x (wipe σ vs) H fun σ2 H2 => wipe σ2 vs = wipe σ vs ∧ tt σ2 H2 fun b H3 => if b = true then wi1 σ2 H3 fun J1 H4 => Lc2In T D I (i + 1) J1 g1 tt1 te vs1 σ2 H4 else LcPv T D I (i + 1) H3
theorem g_turn2 {I : CI} (k : Go T L fun H => g x (wipe σ vs) H fun σ2 H2 => wipe σ2 vs = wipe σ vs ∧ tt σ2 H2 fun b H3 => if b = true then wi1 σ2 H3 fun J1 H4 => Lc2In T D I (i + 1) J1 g1 tt1 te vs1 σ2 H4 else LcPv T D I (i + 1) H3) : Go T L (Lc2Turn T D I i g tt wi1 g1 tt1 te vs vs1 σ x) := k
theorem g_lc2W {Pm : Nat → V → Prop} (w : Walk J n G Y) (hy : ∀ i H x H', Y i H x H' → H' = H ∧ Pm i x) (I : CI) (h0 : I 0 [] L) (hG : ∀ i acc L, I i acc L → ∀ H, Seps L H → G H)
    (hs : ∀ D i x acc L, i < n → Pm i x → I i acc L → Go T (pt D (.lst acc) :: L) (Lc2Turn T D I i g tt wi1 g1 tt1 te vs vs1 σ x)) (hd : ∀ D acc L, I n acc L → Go T (pt D (.lst acc) :: L) fun H => Q (.ref D) H) :
    Go T L fun H => Lc2G J g tt wi1 g1 tt1 te vs vs1 σ Q H := fun H t s D hD => by
  refine ⟨fun i m H => m = n - i ∧ i ≤ n ∧ LcPv T D I i H, ⟨_, rfl, Nat.zero_le _, [], L, h0, Tabs.new t hD, s.new hD rfl fun _ e => e⟩, fun i m H ⟨hm, hi, acc, L, h, t, s⟩ => ?_⟩
  by_cases e : i = n
  · subst e
    exact .inl ⟨w.stops H (hG _ _ _ h H s.tail), hd D acc L h H t s⟩
  · have hlt : i < n := by omega
    refine .inr ⟨w.goes i H hlt (hG _ _ _ h H s.tail), fun H' => LcPv T D I (i + 1) H', fun H' z => ⟨n - (i + 1), by omega, rfl, hlt, z⟩, fun x H' yy => ?_⟩
    obtain ⟨e, hx⟩ := hy _ _ _ _ (w.yields i H x H' hlt (hG _ _ _ h H s.tail) yy)
    rw [e]
    exact hs D i x acc L hlt hx h H t s
theorem g_lc2In {Pm : Nat → V → Prop} {A : List HP} {acc0 : List V} {I : CI} (w : Walk J n G Y) (hy : ∀ i H x H', Y i H x H' → H' = H ∧ Pm i x) (I1 : CI) (pk : Pick L (pt D (.lst acc0)) A) (h0 : I1 0 acc0 A) (hG : ∀ i acc L, I1 i acc L → ∀ H, Seps L H → G H)
    (hs : ∀ j x acc L, j < n → Pm j x → I1 j acc L → Go T (pt D (.lst acc) :: L) (LcTurn T D I1 j g1 tt1 te vs1 σ x)) (hd : ∀ acc L, I1 n acc L → Go T (pt D (.lst acc) :: L) fun H => LcPv T D I i H) :
    Go T L fun H => Lc2In T D I i J g1 tt1 te vs1 σ H := fun H t s => by
  refine ⟨fun i m H => m = n - i ∧ i ≤ n ∧ LcPv T D I1 i H, ⟨_, rfl, Nat.zero_le _, acc0, A, h0, t, pk H s⟩, fun i m H ⟨hm, hi, acc, L, h, t, s⟩ => ?_⟩
  by_cases e : i = n
  · subst e
    exact .inl ⟨w.stops H (hG _ _ _ h H s.tail), hd acc L h H t s⟩
  · have hlt : i < n := by omega
    refine .inr ⟨w.goes i H hlt (hG _ _ _ h H s.tail), fun H' => LcPv T D I1 (i + 1) H', fun H' z => ⟨n - (i + 1), by omega, rfl, hlt, z⟩, fun x H' yy => ?_⟩
    obtain ⟨e, hx⟩ := hy _ _ _ _ (w.yields i H x H' hlt (hG _ _ _ h H s.tail) yy)
    rw [e]
    exact hs i x acc L hlt hx h H t s
/-- a turn's end: the list is put back into the chunks -/
theorem g_lc2Keep {I : CI} {A : List HP} {acc : List V} (pk : Pick L (pt D (.lst acc)) A) (h : I i acc A) : Go T L fun H => LcPv T D I i H := fun H t s => ⟨acc, A, h, t, pk H s⟩
end
/-! ### tuples -/
section
variable {X : Cx} {T : List (Addr × Str)} {L A B : List HP} {Q : VK} {K : PySem.W.Frag} {a b : Addr} {xs ys : List V} {us ws : List Nat} {n : Nat} {s : Str} {ss : List Str} {d : Dt} {ds : List Dt} {x : V}
theorem go_tupMore {G : Hp → Prop} (pk : Pick L (pt a (.tup xs)) A) (g : Go T (pt a (.tup xs) :: L) G) : Go T L G := fun H t s =>
  g H t (s.more (tupsOf H) (fun _ _ q => (tupsOf_some q).1) (fun _ _ q => (tupsOf_some q).2) (tupsOf_at (pk.at s)))
theorem g_addT (p1 : Pick L (pt a (.tup xs)) A) (p2 : Pick L (pt b (.tup ys)) B) (hne : xs ≠ []) (hl : xs.length + ys.length ≤ sizeLine) (k : ∀ p, Go T (pt p (.tup (xs ++ ys)) :: L) fun H => Q (.ref p) H) : Go T L fun H => rAddX K (.ref a) (.ref b) H Q := fun H t s =>
  .inr ⟨a, b, xs, ys, rfl, rfl, SqT.of (p1.at s), SqT.of (p2.at s), hne, hl, fun e => by
    have k' := k a
    rw [e, List.append_nil] at k'
    exact go_tupMore p1 k' H t s, fun _ => go_new (P := fun p => pt p (.tup (xs ++ ys))) (Q := fun p H' => Q (.ref p) H') rfl (fun _ _ e => e) k H t s⟩
theorem g_addTN (p1 : Pick L (pt a (.tup (us.map nI))) A) (p2 : Pick L (pt b (.tup (ws.map nI))) B) (hne : us ≠ []) (hl : us.length + ws.length ≤ sizeLine) (k : ∀ p, Go T (pt p (.tup ((us ++ ws).map nI)) :: L) fun H => Q (.ref p) H) : Go T L fun H => rAddX K (.ref a) (.ref b) H Q :=
  g_addT p1 p2 (fun e => hne (List.map_eq_nil_iff.mp e)) (by rw [List.length_map, List.length_map]; exact hl) fun p => by rw [← List.map_append]; exact k p
theorem oMulT (hK : X.K = K) : OpR X (binaryOp .Mult) (rRepT K) := hK ▸ op_repT
theorem g_repT {u : Nat} (pk : Pick L (pt a (.tup [nI u])) A) (h1 : 2 ≤ n) (h2 : n ≤ 1000) (k : ∀ p, Go T (pt p (.tup ((List.replicate n u).map nI)) :: L) fun H => Q (.ref p) H) : Go T L fun H => rRepT K (.ref a) (.int (n : Int)) H Q := fun H t s =>
  ⟨a, n, [nI u], rfl, rfl, SqT.of (pk.at s), by simp, by omega, by omega, by simp, by
    rw [Int.toNat_natCast, rep_flat]
    exact go_new (P := fun p => pt p (.tup ((List.replicate n u).map nI))) (Q := fun p H' => Q (.ref p) H') rfl (fun _ _ e => e) k H t s⟩
theorem g_eqTN (p1 : Pick L (pt a (.tup (us.map nI))) A) (p2 : Pick L (pt b (.tup (ws.map nI))) B) (k : Go T L fun H => Q (.bl (decide (us = ws))) H) : Go T L fun H => rEqX K (.ref a) (.ref b) H Q := by
  rw [map_nI] at p1 p2
  exact g_eqTT p1 p2 (by rw [show decide (cI us = cI ws) = decide (us = ws) from decide_eq_decide.mpr cI_inj]; exact k)
/-- slices of tuples (never the whole) -/
theorem cut_mid {xs : List V} {m n : Nat} : cutV xs (some (m : Int)) (some (n : Int)) = (xs.drop m).take (n - m) := by
  unfold cutV
  rw [HT.sIx_nat, HT.sIx_nat]
  rcases Nat.le_total m xs.length with h | h
  · rw [Nat.min_eq_left h]
    rcases Nat.le_total n xs.length with h2 | h2
    · rw [Nat.min_eq_left h2]
    · rw [Nat.min_eq_right h2, List.take_of_length_le (by rw [List.length_drop]; exact Nat.le_refl _), List.take_of_length_le (by rw [List.length_drop]; omega)]
  · rw [Nat.min_eq_right h, List.drop_of_length_le (Nat.le_refl _), List.drop_of_length_le h, List.take_nil, List.take_nil]
theorem g_slT {lo hi : Option Int} (pk : Pick L (pt a (.tup xs)) A) (h : ¬ (HT.sIx xs.length 0 lo = 0 ∧ HT.sIx xs.length xs.length hi = xs.length)) (k : ∀ p, Go T (pt p (.tup (cutV xs lo hi)) :: L) fun H => Q (.ref p) H) : Go T L fun H => rSlXX K (.ref a) lo hi H Q := fun H t s =>
  .inr ⟨a, xs, rfl, SqT.of (pk.at s), h, go_new (P := fun p => pt p (.tup (cutV xs lo hi))) (Q := fun p H' => Q (.ref p) H') rfl (fun _ _ e => e) k H t s⟩
theorem g_slTm {m : Nat} (pk : Pick L (pt a (.tup (us.map nI))) A) (h : 0 < m ∨ n < us.length) (h2 : 0 < us.length) (k : ∀ p, Go T (pt p (.tup (((us.drop m).take (n - m)).map nI)) :: L) fun H => Q (.ref p) H) : Go T L fun H => rSlXX K (.ref a) (some (m : Int)) (some (n : Int)) H Q :=
  g_slT pk (by rw [HT.sIx_nat, HT.sIx_nat, List.length_map]; omega) fun p => by rw [cut_mid, ← List.map_drop, ← List.map_take]; exact k p
theorem g_slTt (pk : Pick L (pt a (.tup (us.map nI))) A) (h : n < us.length) (k : ∀ p, Go T (pt p (.tup ((us.take n).map nI)) :: L) fun H => Q (.ref p) H) : Go T L fun H => rSlXX K (.ref a) none (some (n : Int)) H Q :=
  g_slT pk (by rw [HT.sIx_none, HT.sIx_nat, List.length_map]; omega) fun p => by rw [cut_take, ← List.map_take]; exact k p
theorem g_slTd (pk : Pick L (pt a (.tup (us.map nI))) A) (h : 0 < n) (h2 : 0 < us.length) (k : ∀ p, Go T (pt p (.tup ((us.drop n).map nI)) :: L) fun H => Q (.ref p) H) : Go T L fun H => rSlXX K (.ref a) (some (n : Int)) none H Q :=
  g_slT pk (by rw [HT.sIx_none, HT.sIx_nat, List.length_map]; omega) fun p => by rw [cut_drop, ← List.map_drop]; exact k p
/-- x in a tuple of texts that was just laid -/
theorem g_inTS (pk : Pick L (pt b (.tup (ss.map .str))) A) (k : Go T L fun H => Q (.bl (decide (s ∈ ss))) H) : Go T L fun H => rIn K false (.str s) (.ref b) H Q := fun H t z =>
  ⟨b, _, rfl, .inr (SqT.of (pk.at z)), rfl, by rw [List.all_map, List.all_eq_true]; exact fun _ _ => rfl, by rw [if_neg (by decide), inV_strs]; exact k H t z⟩
theorem g_notInTS (pk : Pick L (pt b (.tup (ss.map .str))) A) (k : Go T L fun H => Q (.bl (!decide (s ∈ ss))) H) : Go T L fun H => rIn K true (.str s) (.ref b) H Q := fun H t z =>
  ⟨b, _, rfl, .inr (SqT.of (pk.at z)), rfl, by rw [List.all_map, List.all_eq_true]; exact fun _ _ => rfl, by rw [if_pos rfl, inV_strs]; exact k H t z⟩
theorem sum_cI (us : List Nat) : (cI us).sum = ((us.sum : Nat) : Int) := by
  unfold cI
  induction us with
  | nil => rfl
  | cons u us ih => rw [List.map_cons, List.sum_cons, List.sum_cons, ih]; omega
theorem g_sumN (pk : Pick L (pt a (.lst (us.map nI))) A) (k : Go T L fun H => Q (.int ((us.sum : Nat) : Int)) H) : Go T L fun H => rSum K [.ref a] H Q := by
  rw [map_nI] at pk
  exact g_sum pk (by rw [sum_cI]; exact k)
/-- data in a tuple of data -/
def rInDT (K : PySem.W.Frag) : R2 := fun x y H Q => ∃ d ds, Dp K H x d ∧ Dp K H y (.tuple ds) ∧ SeqAt.shaped d = true ∧ SeqAt.shaped (.tuple ds) = true ∧ Q (.bl (ds.any fun z => PyData.eqv z d)) H
theorem op_inDT (hu : X.A.units + 65 < cLine) : OpR X (compareOp .In) (rInDT X.K) := by
  intro pins s σ H x y v u Q I rx ry h
  obtain ⟨d, ds, hd, he, sd, se, q⟩ := h
  obtain ⟨as, r1⟩ := Dp.reads I d x v hd rx
  obtain ⟨bs, r2⟩ := Dp.reads I (.tuple ds) y u he ry
  exact SeqAt.in_tuple_reads r2 r1 (SeqAt.canLay_of_shaped se) (SeqAt.canLay_of_shaped sd) (room_in_shaped sd hu) ⟨.bl _, H, I, rfl, q⟩
theorem oInDT (hK : X.K = K) (hu : X.A.units + 65 < cLine) : OpR X (compareOp .In) (rInDT K) := hK ▸ op_inDT hu
theorem g_inDT {y : V} (q1 : ∀ H, Seps L H → DV H x d) (q2 : ∀ H, Seps L H → DV H y (.tup ds)) (l1 : d.lay = true) (l2 : Dt.lays ds = true) (b1 : d.dep ≤ 60) (b2 : Dt.deps ds ≤ 60) (k : Go T L fun H => Q (.bl ((Dt.pys ds).any fun z => PyData.eqv z d.py)) H) : Go T L fun H => rInDT K x y H Q := fun H t s =>
  ⟨d.py, Dt.pys ds, (q1 H s).dp, (q2 H s).dp, shp_dt l1 (by omega), shp_dt (d := .tup ds) l2 (by
    show Dt.deps ds + 1 ≤ 64
    omega), k H t s⟩
end
/-! ### enumerate of a tuple -/
def IteT (K : PySem.W.Frag) (a : Addr) : It where
  go i H := ∃ (xs : List V) (x : V), SqT K H a xs ∧ xs[i]? = some x
  yld i H v H' := ∃ p x, v = .ref p ∧ H p = none ∧ H' = upd H p (.tup [.int (i : Nat), x]) ∧ ∀ xs, SqT K H a xs → xs[i]? = some x
  stop i H := ∃ xs : List V, SqT K H a xs ∧ xs.length = i
theorem turn_enumT {P : Program} {w : World} {K : PySem.W.Frag} {elts : List Expr} {kk : Nat} {tpos : Pos} {a e it : Addr} (ha : a ≠ it) (hb : e ≠ a) (hc0 : e ≠ it) :
    Turn P w K (.Tuple elts kk tpos) (IteT K a) [e, it] e (fun i h => (∃ old, IsEnum h e it ((i : Nat) : Int) old) ∧ h.IsTupleIter it a i) where
  mem := by simp
  obj := fun i h st b hb => by
    obtain ⟨⟨old, he⟩, ⟨o, ho, hc, hd⟩⟩ := st
    rcases List.mem_cons.mp hb with rfl | hb
    · exact ⟨_, he, fun v q => nomatch q⟩
    · rw [List.mem_singleton.mp hb]
      exact ⟨o, ho, fun v q => by rw [hd] at q; cases q⟩
  keep := fun i h h' st k => by
    obtain ⟨⟨old, he⟩, hit⟩ := st
    exact ⟨⟨old, k e (by simp) _ he⟩, hit.at fun o q => k it (by simp) o q⟩
  item := by
    intro X hP hw hK hc i pins s σ H E I hf st hg
    subst hP hw hK
    obtain ⟨⟨old, he⟩, hit⟩ := st
    obtain ⟨xs, x, hq, hx⟩ := hg
    obtain ⟨its, rv, p, hz⟩ := I.tuple hq
    obtain ⟨u, hu, ru⟩ := rv.get hx
    have D := Draws.tuple (prog := X.prog) (w := X.w) (A := X.A.in1) (I.ok.hd hc) it a ha its.toArray
    have hel : e < s.heap.objs.size := Heap.lt_size he
    have hil : it < s.heap.objs.size := by
      obtain ⟨_, q, _⟩ := hit
      exact Heap.lt_size q
    have hi : i < its.toArray.size := by
      rw [List.size_toArray]
      exact (List.getElem?_eq_some_iff.mp hu).1
    refine wpAny_pyNext_enum_itemD D he ⟨hit, p⟩ hi hc0 (by simp [hc0, hb]) fun x' h' tk hP ho hst' hT hsz hk => ?_
    obtain rfl : u = x' := by
      have e2 : its[i]? = some x' := by simpa using hP
      rw [hu] at e2
      exact Option.some.inj e2
    refine ⟨_, rfl, wpAny_letOwnedTupleGo_enum (s := { s with heap := h', toks := tk + 1 }) ho fun h2 he2 sb => ?_⟩
    have hT2 : h2.get? s.heap.objs.size = some { cls := .type "tuple", data := .seq #[.int i tk, u] } := (sb.2 _ (Nat.ne_of_gt hel)).trans hT
    have new : ObjOk X.prog X.w (upd H s.heap.objs.size (.tup [.int (i : Nat), x])) h2 s.heap.objs.size (.tup [.int (i : Nat), x]) :=
      ⟨show 2 ≤ sizeLine by decide, [.int i tk, u], .cons ⟨_, rfl⟩ (.cons ru .nil), ⟨_, hT2, rfl, _, rfl⟩⟩
    have I1 := I.turnedNew (t' := tk + 1) (ch := [e, it]) (h' := h2) (fun b ob hb q => (sb.2 b (fun z => hb (by simp [z]))).trans (hk b ob (fun z => hb (by simp [z])) (fun z => hb (by simp [z])) q)) hf (Nat.le_refl _) new
    refine ⟨.ref s.heap.objs.size, _, I1, rfl, ⟨_, x, rfl, I.hok.fresh (Nat.le_refl _), rfl, fun ys hy => by rw [I.tuple_inj hy hq]; exact hx⟩, ⟨⟨u, ?_⟩, hst'.1.at fun o q => (sb.2 it (Ne.symm hc0)).trans q⟩, fun b hb => ?_⟩
    · rw [show ((i + 1 : Nat) : Int) = (i : Int) + 1 by omega]
      exact he2
    · have hb' : b < s.heap.objs.size := by
        rcases List.mem_cons.mp hb with rfl | hb
        · exact hel
        · rw [List.mem_singleton.mp hb]; exact hil
      rw [upd_ne (Nat.ne_of_lt hb')]
      exact (hf b hb).1
  done := by
    intro X hP hw hK hc i pins s σ H E I hf st hg
    subst hP hw hK
    obtain ⟨⟨old, he⟩, hit⟩ := st
    obtain ⟨xs, hq, hx⟩ := hg
    obtain ⟨its, rv, p, hz⟩ := I.tuple hq
    obtain ⟨f0, f1, f2, f3, f4, f5⟩ := hf it (by simp)
    have hl := rv.length
    have D := Draws.tuple (prog := X.prog) (w := X.w) (A := X.A.in1) (I.ok.hd hc) it a ha its.toArray
    have hn : its.toArray.size = i := by
      rw [List.size_toArray]
      omega
    rw [hn] at D
    exact wpAny_pyNext_enum_endD D he ⟨hit, p⟩ fun h' eb => ⟨rfl, I.turned (t' := s.toks) (fun b o hb q => eb b o hb q) f0 f1 f3 f4 f5⟩
  self := fun A i s Q E st h => by
    obtain ⟨⟨old, he⟩, hit⟩ := st
    exact wpAny_pyIter_enum he h
set_option maxHeartbeats 1000000 in
theorem meets_enumT (t : Addr) (items : Array Value) : Meets (Builtin.«enumerate.__new__» ⟨[.type "enumerate", .ref t], []⟩) (fun _ R s => s.heap.IsTuple t items ∧
    R (.ok (.ret (.ref (s.heap.push { cls := .type "tuple_iterator", data := .fields #[.ref t, .int 0 0] }).objs.size)))
      { s with heap := (s.heap.push { cls := .type "tuple_iterator", data := .fields #[.ref t, .int 0 0] }).push { cls := .type "enumerate", data := .fields #[.none, .bool false, .ref s.heap.objs.size, rawInt 0, .none, .none] } }) :=
  .of_wp fun prog w A R s h => by
    obtain ⟨hp, g, d, tk, os⟩ := s
    obtain ⟨h1, h⟩ := h
    have hsub := sub_enumerate
    have q1 : ∀ {A' : Around} {E : Value → Shared → Prop} {Q : Value → Shared → Prop}, Q (.ref hp.objs.size) ⟨hp.push { cls := .type "tuple_iterator", data := .fields #[.ref t, .int 0 0] }, g, d, tk, os⟩ → wpAny (model prog w) A' (pyIter (.ref t)) Q E ⟨hp, g, d, tk, os⟩ :=
      fun q => (begins_tuple t items).iter prog w _ _ ⟨hp, g, d, tk, os⟩ _ h1 q
    wp_walk using q1
    refine wpAny_stack_any fun st => wpAny_pure ?_
    split
    · rename_i c _ _ _ _ _
      cases (c == Value.type "enumerate")
      all_goals
        wp_walk using q1
        exact ⟨_, rfl, h⟩
    · wp_walk using q1
      exact ⟨_, rfl, h⟩
theorem call_enumT {prog : Program} {w : World} {A : Around} {E : Value → Shared → Prop} {s : Shared} {t : Addr} {items : Array Value} {Q : Value → Shared → Prop} (h1 : s.heap.IsTuple t items)
    (h : ∀ h', IsEnum h' (s.heap.objs.size + 1) s.heap.objs.size 0 .none → h'.IsTupleIter s.heap.objs.size t 0 → (∀ b o, s.heap.get? b = some o → h'.get? b = some o) → Q (.ref (s.heap.objs.size + 1)) { s with heap := h' }) :
    wpAny (model prog w) A (call (.type "enumerate") [.ref t]) Q E s := by
  refine callType_new F.called_enumerate (by decide) (F.typeCall_enumerate_1 _) (F.newCall_enumerate_1 _) (fun obj => F.args_object_init_2 obj _) F.entry_enumerate_new (meets_enumT t items) ⟨h1, ?_⟩
  have hz : (s.heap.push { cls := .type "tuple_iterator", data := .fields #[.ref t, .int 0 0] }).objs.size = s.heap.objs.size + 1 := Heap.size_push ..
  have he := Heap.get?_push_size (s.heap.push { cls := .type "tuple_iterator", data := .fields #[.ref t, .int 0 0] }) (o := { cls := .type "enumerate", data := .fields #[.none, .bool false, .ref s.heap.objs.size, rawInt 0, .none, .none] }) rfl
  show _ ∧ _
  rw [hz] at he ⊢
  exact ⟨⟨_, he, rfl⟩, h _ he ⟨_, Heap.get?_push_of_some _ (Heap.get?_push_size _ rfl), rfl, rfl⟩ fun b o x => Heap.get?_push_of_some _ (Heap.get?_push_of_some _ x)⟩
/-- enumerate of a list or a tuple -/
def lEnumT (K : PySem.W.Frag) (R : It → Hp → Prop) (us : List V) (H1 : Hp) : Prop := ∃ a xs, us = [.ref a] ∧ SqT K H1 a xs ∧ R (IteT K a) H1
def iEnumT (K : PySem.W.Frag) (ta : TA) : TI := fun σ H R => ta σ H (lEnumT K R)
theorem piEnumT {X : Cx} {K : PySem.W.Frag} {e : Expr} {ta : TA} {p pos tpos : Pos} {elts : List Expr} {kk : Nat} (hK : X.K = K) (hg : Gl X "enumerate") (hm : X.mg "enumerate" = none) (ha : PA X [e] ta) (hs : starEach [e] X.env = [(false, eval e X.env)] := by rfl) :
    PI X (.Tuple elts kk tpos) (.Call (.Name "enumerate" p) [e] [] pos) (iEnumT K ta) := by
  subst hK
  refine ⟨fun pins s σ H R I h => ?_⟩
  refine Call_ (ld_blt I hg hm boot_enumerate (PyProof.Rows.callWith_type1 (thn (ha.run pos pins s σ H _ I h) fun us s1 ⟨vs, H1, I1, r1, q1⟩ => ?_) hs rfl))
  obtain ⟨a, xs, rfl, hq, q⟩ := q1
  rw [Vals.ref1 r1]
  obtain ⟨its, rv, pt', hz⟩ := I1.tuple hq
  have hal : a < s1.heap.objs.size := by
    obtain ⟨_, q', _⟩ := pt'
    exact Heap.lt_size q'
  refine call_enumT (items := its.toArray) pt' fun h' he hit hk => wpAny_pyIter_enum he ?_
  have I2 : Inv X pins σ H1 { s1 with heap := h' } := I1.kept (t' := s1.toks) hk
  refine ⟨s1.heap.objs.size + 1, [s1.heap.objs.size + 1, s1.heap.objs.size], _, _, H1, rfl, I2, turn_enumT (a := a) (e := s1.heap.objs.size + 1) (it := s1.heap.objs.size) (Nat.ne_of_lt hal) (Nat.ne_of_gt (Nat.lt_succ_of_lt hal)) (Nat.succ_ne_self _), ⟨⟨.none, he⟩, hit⟩, fun b hb => ?_, q⟩
  have hle : s1.heap.objs.size ≤ b := by
    rcases List.mem_cons.mp hb with rfl | hb
    · exact Nat.le_add_right _ _
    · rw [List.mem_singleton.mp hb]; exact Nat.le_refl _
  exact I1.fpOk hle (I1.hok.fresh hle)
theorem walk_enumT {K : PySem.W.Frag} {a : Addr} {xs : List V} : Walk (IteT K a) xs.length (fun H => SqT K H a xs) (YPair (fun i => some (.int (i : Nat))) (fun i => xs[i]?)) := by
  refine ⟨fun i _ hi q => ⟨xs, xs[i], q, by simp [hi]⟩, fun _ q => ⟨xs, q, rfl⟩, fun i H v H' _ q y => ?_⟩
  obtain ⟨p, x, h1, h2, h3, h4⟩ := y
  exact ⟨p, .int (i : Nat), x, h1, h2, h3, rfl, h4 xs q⟩
section
variable {T : List (Addr × Str)} {L A : List HP} {σ : L2.St} {K : PySem.W.Frag} {a : Addr} {xs : List V} {tr : TA} {R : It → Hp → Prop}
theorem g_iEnumTE (k : Go T L fun H => tr σ H (lEnumT K R)) : Go T L fun H => iEnumT K tr σ H R := k
theorem g_iEnumT (pk : Pick L (pt a (.tup xs)) A) (k : Go T L fun H => R (IteT K a) H) : Go T L fun H => lEnumT K R [.ref a] H := fun H t s => ⟨a, xs, rfl, SqT.of (pk.at s), k H t s⟩
end
/-! ### a list or a tuple -/
abbrev seqB (b : Bool) (vs : List V) : HO := match b with
  | true => .lst vs
  | false => .tup vs
section
variable {T : List (Addr × Str)} {L A : List HP} {K : PySem.W.Frag} {a : Addr} {xs : List V} {R : It → Hp → Prop}
theorem g_iSeqB (fl : Bool) (pk : Pick L (pt a (seqB fl xs)) A) (k : ∀ J (Gd : Hp → Prop), Walk J xs.length Gd (YAt xs) → (∀ L A, Pick L (pt a (seqB fl xs)) A → ∀ H, Seps L H → Gd H) → Go T L fun H => R J H) : Go T L fun H => lSeq K R (.ref a) H := by
  cases fl with
  | true => exact g_iSeqL pk (k _ _ walk_list fun L A pk H s => SqL.of (pk.at s))
  | false => exact g_iSeqT pk (k _ _ walk_tup fun L A pk H s => SqT.of (pk.at s))
/-- a for over it -/
theorem g_forB {σ : L2.St} {g : TG} {ts : TS} {N0 : L2.St → Hp → Prop} {R0 : VK} (fl : Bool) (pk : Pick L (pt a (seqB fl xs)) A) (I : Nat → SI) (h0 : I 0 σ L) (hl : ∀ i σ L, I i σ L → ∃ A, Pick L (pt a (seqB fl xs)) A)
    (hs : ∀ i x σ L, xs[i]? = some x → I i σ L → Go T L fun H => g x σ H fun σ2 H2 => ts ⟨SI.at T (I (i + 1)), R0, N0, SI.at T (I (i + 1))⟩ σ2 H2) (hd : ∀ σ L, I xs.length σ L → Go T L fun H => N0 σ H) :
    Go T L fun H => lSeq K (fun J H1 => ForG J g ts N0 R0 σ H1) (.ref a) H := by
  cases fl with
  | true => exact g_iSeqL pk (g_forL I h0 hl hs hd)
  | false => exact g_iSeqT pk (g_forT I h0 hl hs hd)
end
/-! ### range(i, j, c) -/
section
variable {T : List (Addr × Str)} {L : List HP} {σ : L2.St} {tr : TA} {R : It → Hp → Prop} {i j c : Int} {n : Nat}
def lRng3 (R : It → Hp → Prop) (vs : List V) (H1 : Hp) : Prop := ∃ (i j c : Int) (n : Nat), vs = [.int i, .int j, .int c] ∧ RgC i j c n ∧ R (Itc i c n) H1
theorem g_iRng3 (k : Go T L fun H => tr σ H (lRng3 R)) : Go T L fun H => iRng3 tr σ H R := k
theorem g_rng3 (h : RgC i j c n) (k : Go T L fun H => R (Itc i c n) H) : Go T L fun H => lRng3 R [.int i, .int j, .int c] H := fun H t s => ⟨i, j, c, n, rfl, h, k H t s⟩
theorem rgC_two {m n : Nat} (h : n = (m + 1) / 2) (hm : m < 1073741824) : RgC 0 (m : Int) 2 n := by
  refine ⟨by decide, by decide, ?_, ?_⟩
  · have e : Builtin.Range.rangeSize 0 (m : Int) 2 = (n : Int) := by
      rw [rangeSize_pos (by decide) (by omega), h]
      omega
    unfold Builtin.Range.small
    rw [e]
    unfold Builtin.Range.rangeFitsLong
    simp
    omega
  · rw [rangeSize_pos (by decide) (by omega), h]
    omega
/-- for over range(lo, .., c) -/
theorem g_forRC {lo c : Int} {n : Nat} {g : TG} {ts : TS} {N0 : L2.St → Hp → Prop} {R0 : VK} (I : Nat → SI) (h0 : I 0 σ L) (hs : ∀ i σ L, i < n → I i σ L → Go T L fun H => g (.int (lo + (i : Nat) * c)) σ H fun σ2 H2 => ts ⟨SI.at T (I (i + 1)), R0, N0, SI.at T (I (i + 1))⟩ σ2 H2)
    (hd : ∀ σ L, I n σ L → Go T L fun H => N0 σ H) : Go T L fun H => ForG (Itc lo c n) g ts N0 R0 σ H := fun H t s =>
  for_rangeC (D := ⟨N0, R0, fun _ _ => False, fun _ _ => False⟩) (lo := lo) (c := c) (n := n) (fun i => SI.at T (I i)) ⟨L, h0, t, s⟩ (fun i σ H hi ⟨L, h, t, s⟩ => hs i σ L hi h H t s) (fun σ H ⟨L, h, t, s⟩ => hd σ L h H t s)
end
/-! ### calls and tries -/
section
variable {X : Cx} {k j : Nat} {C : Addr} {x : Str} {sp : Sp} {E : L2.St → XK} {pos p : Pos} {e : Expr} {es : List Expr} {t : TA}
theorem pe_calW (c : CalX X.prog X.w X.K X.mg X.base k x sp) (hr : Room j X.A) (hk : k ≤ j) (hx : ∀ σ, PassesAt (L2.CX X.prog X.w) X σ (E σ)) (hg : Gl X x) (ha : PA X (e :: es) t)
    (hdb : (x == ("__debug__" : Str)) = false := by decide) (he : starEach (e :: es) X.env = (false, eval e X.env) :: starEach es X.env := by rfl) (hpl : (backTo pos (starEach es X.env)).any (·.1) = false := by rfl) :
    PE X (.Call (.Name x p) (e :: es) [] pos) (tCallS sp E t) := by
  obtain ⟨f, fd, ps, F, hm, kp, b⟩ := c.ex
  exact pe_callS F (hr.mono hk) hg hm kp b hx ha hdb he hpl
end
section
variable {T : List (Addr × Str)} {L : List HP} {σ : L2.St} {Q : VK} {K : PySem.W.Frag} {sp : Sp} {E : L2.St → XK} {t : TA} {C : Addr} {cls : Value} {d : Option Addr} {D : Ends} {Wout : WX} {ts : Addr → Value → Option Addr → TS} {tb : WX → TS}
theorem g_callS (k : Go T L fun H => t σ H fun vs H1 => sp vs H1 Q (E σ)) : Go T L fun H => tCallS sp E t σ H Q := k
def tTryO (K : PySem.W.Frag) (c : Value) (ts : Addr → Value → Option Addr → TS) (Wout : WX) (tb : WX → TS) : TS := fun D σ H => tb (wOnly K c ts Wout D) D σ H
theorem ps_tryOnly {X : Cx} {x : Str} {c : Value} {body suite : List Stmt} {b0 : Stmt} {np pos pos' : Pos} {tb : WX → TS} {ts : Addr → Value → Option Addr → TS} {Wout : WX} (hK : X.K = K) (hs : X.stack = X.env :: X.outer) (hf : X.env.frame = some X.env.locals) (hc : Names X x c) (tk : Takes X Wout)
    (hb : ∀ (W : WX) (pn : List (Addr × Obj)) (xe : Value → Shared → Prop), Takes (X.tr pn xe) W → PassesOwn (model X.prog X.w) X.A X.env xe → PSs (X.tr pn xe) body (tb W))
    (hsu : ∀ (a : Addr) (oe : Obj) (cls : Value) (d : Option Addr) (pn : List (Addr × Obj)), Zc cls d oe → (∃ vs, oe.data = .fields vs) → PSs (X.suite a ((a, oe) :: pn)) (b0 :: suite) (ts a cls d)) :
    PS X (.Try body [.ExceptHandler (some (.Name x np)) none (b0 :: suite) pos'] [] [] pos) (tTryO K c ts Wout tb) := hK ▸ ps_try_only hs hf hc tk hb hsu
theorem g_tryO (k : Go T L fun H => tb (wOnly K (.ref C) ts Wout D) D σ H) : Go T L fun H => tTryO K (.ref C) ts Wout tb D σ H := k
theorem g_wOnlyY (h : PySem.W.exmOne K cls (.ref C) = some true) (k : ∀ a, Go T L fun H => ts a cls d D σ H) : Go T L fun H => WE (wOnly K (.ref C) ts Wout D) σ cls d H := fun H t s => ⟨true, h, fun _ a _ => k a H t s, fun z => by cases z⟩
end
end Dh

/-! The layer Dh, part V: insert, index of data in a tuple, reversed ranges. -/
namespace L2
open PySem PySem.Spec PyProof.Rows
section
variable {X : Cx}
/-- t.index(x) of a tuple of data -/
def rIndexDT (K : PySem.W.Frag) : V → List V → Hp → VK → Prop := fun x xs H Q => ∃ (a : Addr) (y : V) (d : PyData) (ds : List PyData) (j : Nat) (z : PyData), x = V.ref a ∧ xs = [y] ∧ Dp K H (V.ref a) (.tuple ds) ∧ Dp K H y d ∧
  SeqAt.shaped (.tuple ds) = true ∧ SeqAt.shaped d = true ∧ ds[j]? = some z ∧ PyData.eqv z d = true ∧ (∀ (m : Nat) (z' : PyData), m < j → ds[m]? = some z' → PyData.eqv z' d = false) ∧ Q (.int (j : Nat)) H
theorem mt_indexDT (hu : X.A.units + 65 < cLine) : MtR X "tuple.index" (rIndexDT X.K) := by
  intro pins s σ H x xs v us Q I rx rxs h
  obtain ⟨a, y, d, ds, j, z, rfl, rfl, hl, hy, sl, sd, hz, hzj, hno, q⟩ := h
  cases rx
  cases rxs with
  | cons ry rt =>
    rename_i uy ut
    cases rt
    obtain ⟨bs, r1⟩ := Dp.reads I d y uy hy ry
    have hxs : PyData.canLayAll0 ds = true := SeqAt.canLay_of_shaped sl
    have hroom : X.A.units + 1 + min (PyData.depthAll ds) d.depth < cLine := room_in_shaped sd hu
    cases hl with
    | tup hs ha =>
      obtain ⟨its, rv, ⟨⟨cls, dd, data, sls⟩, ho, hc, n, hdt⟩, hlen⟩ := I.tuple hs
      simp only at hc hdt
      subst hc hdt
      obtain ⟨as, h4⟩ := Dp.readsAll I ds _ its ha rv
      have hn : its.length = ds.length := SeqAt.ReadsAll.length ds its as h4
      have hmap : its.map (SeqAt.readOf s.heap) = ds := SeqAt.readsAll_map ds its as hxs h4
      have hvl := rv.length
      have hsl := sizeLine_eq
      obtain ⟨hjd, _⟩ := List.getElem?_eq_some_iff.mp hz
      have hjl : j < its.length := by omega
      have hj : j < its.toArray.size := by simpa using hjl
      have at_ : ∀ (m : Nat) (hm : m < its.toArray.size) (z' : PyData), ds[m]? = some z' → SeqAt.readOf s.heap its.toArray[m] = z' := by
        intro m hm z' hz'
        have hml : m < its.length := by simpa using hm
        rw [← hmap, List.getElem?_map, List.getElem?_eq_getElem hml] at hz'
        have e1 : SeqAt.readOf s.heap its[m] = z' := Option.some.inj (show some (SeqAt.readOf s.heap its[m]) = some z' from hz')
        simpa using e1
      refine call_meets PySem.F.slot_tuple_index ⟨_, ho, rfl⟩ PySem.F.entry_tuple_index (PySem.F.args_tuple_index_2 _ _)
        (TI.tuple_indexAt a its.toArray n dd sls uy (fun u => PyData.eqv (SeqAt.readOf s.heap u) d) j hj ?_ ?_) ⟨ho, SeqAt.items_eqAt (vs := its.toArray) (show ReadsAll s.heap its.toArray.toList ds as from h4) r1 hxs (SeqAt.canLay_of_shaped sd) hroom, ?_⟩
      · show PyData.eqv (SeqAt.readOf s.heap its.toArray[j]) d = true
        rw [at_ j hj z hz]
        exact hzj
      · intro m hm hmj
        have hmd : m < ds.length := by omega
        have hz' : ds[m]? = some ds[m] := List.getElem?_eq_getElem hmd
        show PyData.eqv (SeqAt.readOf s.heap its.toArray[m]) d = false
        rw [at_ m hm _ hz']
        exact hno m _ hmj hz'
      · exact ⟨.int (j : Nat), H, I.tok _, ⟨_, rfl⟩, q⟩
end
end L2
namespace Dh
open PySem PySem.Spec PyProof.Rows L2
section
variable {T : List (Addr × Str)} {K : PySem.W.Frag} {X : Cx} {L A : List HP} {Q : VK} {σ : L2.St} {xs ys : List V} {a p : Addr}
/-! ### insert -/
def rInsert (x : V) (vs : List V) (H : Hp) (Q : VK) : Prop := ∃ (l : Addr) (xs : List V) (i : Int) (y : V), x = .ref l ∧ vs = [.int i, y] ∧ H l = some (.lst xs) ∧ xs.length < sizeLine ∧ 0 ≤ i ∧ i < 2 ^ 63 ∧
    Q .non (upd H l (.lst (xs.take i.toNat ++ [y] ++ xs.drop i.toNat)))
theorem mtInsert : MtR X "list.insert" rInsert := mt_insert
theorem g_insert {y : V} {n : Nat} (pk : Pick L (pt a (.lst xs)) A) (hl : xs.length < sizeLine) (hn : n < 2 ^ 62) (k : Go T (pt a (.lst (xs.take n ++ [y] ++ xs.drop n)) :: A) fun H => Q .non H) : Go T L fun H => rInsert (.ref a) [.int (n : Int), y] H Q := fun H t s =>
  ⟨a, xs, n, y, rfl, rfl, pk.at s, hl, by omega, by omega, by rw [Int.toNat_natCast]; exact (go_lst pk k) H t s⟩
/-! ### index -/
theorem mtIndexDT (hK : X.K = K) (hu : X.A.units + 65 < cLine) : MtR X "tuple.index" (rIndexDT K) := hK ▸ mt_indexDT hu
/-! ### reversed(range(..)) -/
def lRevR (R : It → Hp → Prop) (a b : Int) (H1 : Hp) : Prop := -(2 ^ 62) ≤ a ∧ a < 2 ^ 62 ∧ -(2 ^ 62) ≤ b ∧ b < 2 ^ 62 ∧ R (Itc (a + (((b - a).toNat : Nat) : Int) - 1) (-1) (b - a).toNat) H1
theorem g_iRevR {tr : L2.St → Hp → (Int → Int → Hp → Prop) → Prop} {R : It → Hp → Prop} (k : Go T L fun H => tr σ H (lRevR R)) : Go T L fun H => iRevR tr σ H R := k
theorem g_revN {R : It → Hp → Prop} {n : Nat} (hn : n < 2 ^ 60) (k : Go T L fun H => R (Itc ((n : Int) - 1) (-1) n) H) : Go T L fun H => lRevR R 0 (n : Int) H := fun H t s =>
  ⟨by omega, by omega, by omega, by omega, by
    have e : ((n : Int) - 0).toNat = n := by omega
    rw [e, Int.zero_add]
    exact k H t s⟩
/-! ### extend -/
theorem g_ext {B : List HP} {b : Addr} (pk : Pick L (pt a (.lst xs)) A) (pk2 : Pick L (pt b (.lst ys)) B) (hl : xs.length + ys.length ≤ sizeLine) (k : Go T (pt a (.lst (xs ++ ys)) :: A) fun H => Q .non H) : Go T L fun H => rExtend (.ref a) [.ref b] H Q := fun H t s =>
  ⟨a, b, xs, ys, rfl, rfl, pk.at s, pk2.at s, hl, (go_lst pk k) H t s⟩
theorem g_extN {B : List HP} {b : Addr} {us ws : List Nat} (pk : Pick L (pt a (.lst (us.map nI))) A) (pk2 : Pick L (pt b (.lst (ws.map nI))) B) (hl : us.length + ws.length ≤ sizeLine) (k : Go T (pt a (.lst ((us ++ ws).map nI)) :: A) fun H => Q .non H) : Go T L fun H => rExtend (.ref a) [.ref b] H Q :=
  g_ext pk pk2 (by rw [List.length_map, List.length_map]; exact hl) (by rw [← List.map_append]; exact k)
theorem g_extI {B : List HP} {b : Addr} {us ws : List Int} (pk : Pick L (pt a (.lst (us.map V.int))) A) (pk2 : Pick L (pt b (.lst (ws.map V.int))) B) (hl : us.length + ws.length ≤ sizeLine) (k : Go T (pt a (.lst ((us ++ ws).map V.int)) :: A) fun H => Q .non H) : Go T L fun H => rExtend (.ref a) [.ref b] H Q :=
  g_ext pk pk2 (by rw [List.length_map, List.length_map]; exact hl) (by rw [← List.map_append]; exact k)
/-! ### remove -/
theorem g_removeI {ns : List Int} {z : Int} (pk : Pick L (pt a (.lst (ns.map V.int))) A) (hz : z ∈ ns) (k : Go T (pt a (.lst ((ns.erase z).map V.int)) :: A) fun H => Q .non H) : Go T L fun H => rRemI (.ref a) [.int z] H Q := fun H t s =>
  let ⟨j, h1, h2, h3, h4⟩ := first_at hz
  ⟨a, ns, z, j, rfl, rfl, pk.at s, h2, h3, by rw [h4]; exact (go_lst pk k) H t s⟩
end
/-! ### tuples within a table -/
def itemA (K : PySem.W.Frag) (x : Str) (i : Nat) : Addr := match K.lookup (He.ga K x) with
  | some ⟨_, _, .seq its _, _⟩ => (match its[i]? with
    | some (.ref a) => a
    | _ => 0)
  | _ => 0
def tupAB (K : PySem.W.Frag) (a : Addr) (vs : List He.Dv) : Bool := match K.lookup a with
  | some ⟨.type c, _, .seq its _, _⟩ => decide (c = "tuple") && (decide (its.size ≤ sizeLine) && He.relAll (vs.map (He.Dv.v K)) its.toList)
  | _ => false
theorem tupAB_ok {K : PySem.W.Frag} {a : Addr} {vs : List He.Dv} (h : tupAB K a vs = true) (H : Hp) : SqT K H a (vs.map (He.Dv.v K)) := by
  unfold tupAB at h
  cases q : K.lookup a with
  | none =>
    rw [q] at h
    cases h
  | some o =>
    obtain ⟨oc, od, dt, osl⟩ := o
    rw [q] at h
    cases oc with
    | type c =>
      cases dt with
      | seq its n =>
        obtain ⟨h1, h2⟩ := He.ba (show (decide (c = "tuple") && (decide (its.size ≤ sizeLine) && He.relAll (vs.map (He.Dv.v K)) its.toList)) = true from h)
        obtain ⟨h3, h4⟩ := He.ba h2
        exact .inr ⟨_, its, n, q, congrArg Value.type (of_decide_eq_true h1), rfl, of_decide_eq_true h3, He.relAll_ok h4⟩
      | _ => cases h
    | _ => cases dt <;> cases h
end Dh

/-! The layer Dh, part W: dicts whose keys are pairs, locked while walked; lists of pairs, sorted. -/
namespace Dh
open PySem PySem.Spec PyProof.Rows L2 Gx
/-! ### locking -/
/-- behind a lock: the thing at d stands as it stood -/
def uL (d : Addr) (od : Obj) (u : HO) (P : Hp → Prop) : Hp → Prop := fun H' => H' d = some (.frz od u) ∧ P (upd H' d u)
theorem wr_mut {u : HO} (w : isWr u = true) (n : ∀ o v, u ≠ .frz o v) : Mut (some u) := by
  cases u <;> first | trivial | (exact absurd rfl (n _ _)) | (simp [isWr] at w)
section
variable {T : List (Addr × Str)} {L L0 A B : List HP} {σ : L2.St} {Q : VK} {K : PySem.W.Frag} {n : Nat} {te : TE} {tt : TT} {g : TG} {ts : TS} {vs : List Nat} {a b d p q : Addr} {xs ys : List V} {x y : V} {u : HO} {o od : Obj} {N0 : L2.St → Hp → Prop} {R0 : VK} {B0 C0 : L2.St → Hp → Prop}
theorem g_lockS {t : TS} {kvs : List (List Key × V)} (pk : Pick L (pt d (.dT kvs)) A) (k : ∀ od, Go T (pt d (.frz od (.dT kvs)) :: A) fun H => t ⟨fun σ' => uL d od (.dT kvs) (N0 σ'), fun v => uL d od (.dT kvs) (R0 v), fun σ' => uL d od (.dT kvs) (B0 σ'), fun σ' => uL d od (.dT kvs) (C0 σ')⟩ σ H) : Go T L fun H => tLock t ⟨N0, R0, B0, C0⟩ σ H := fun H t s =>
  ⟨d, _, pk.at s, trivial, fun od => go_wr pk (P' := pt d (.frz od (.dT kvs))) rfl (fun h e => ⟨_, e, rfl, upd_same⟩) (k od) H t s⟩
theorem g_lockE {t : TE} {kvs : List (List Key × V)} (pk : Pick L (pt d (.dT kvs)) A) (k : ∀ od, Go T (pt d (.frz od (.dT kvs)) :: A) fun H => t σ H fun v => uL d od (.dT kvs) (Q v)) : Go T L fun H => tLockE t σ H Q := fun H t s =>
  ⟨d, _, pk.at s, trivial, fun od => go_wr pk (P' := pt d (.frz od (.dT kvs))) rfl (fun h e => ⟨_, e, rfl, upd_same⟩) (k od) H t s⟩
theorem g_unl {P : Hp → Prop} {kvs : List (List Key × V)} (pk : Pick L (pt d (.frz od (.dT kvs))) A) (k : Go T (pt d (.dT kvs) :: A) P) : Go T L (uL d od (.dT kvs) P) := fun H t s =>
  ⟨pk.at s, go_wr pk (P' := pt d (.dT kvs)) rfl (fun h e => ⟨_, e, rfl, upd_same⟩) k H t s⟩
/-- a tuple that stands there may be told -/
theorem Seps.tupAt {H : Hp} (s : Seps L H) (hq : H q = some (.tup xs)) : Seps (pt q (.tup xs) :: L) H :=
  s.more (tupsOf H) (fun _ _ z => (tupsOf_some z).1) (fun _ _ z => (tupsOf_some z).2) (tupsOf_at hq)
/-! ### walks over keys -/
def lKeysT (R : It → Hp → Prop) (x : V) (H1 : Hp) : Prop := ∃ d o, x = .ref d ∧ ((∃ kvs, H1 d = some (.frz o (.dK kvs)) ∧ R (Itk d o kvs) H1) ∨ ∃ kvs, H1 d = some (.frz o (.dT kvs)) ∧ R (Itkt d o kvs) H1)
theorem g_iKeysE {td : TE} {R : It → Hp → Prop} (k : Go T L fun H => td σ H (lKeysT R)) : Go T L fun H => iKeys td σ H R := k
theorem g_iKeysT {R : It → Hp → Prop} {kvs : List (List Key × V)} (pk : Pick L (pt d (.frz od (.dT kvs))) A) (k : Go T L fun H => R (Itkt d od kvs) H) : Go T L fun H => lKeysT R (.ref d) H := fun H t s =>
  ⟨d, od, rfl, .inr ⟨kvs, pk.at s, k H t s⟩⟩
theorem g_forKT {kvs : List (List Key × V)} (I : Nat → SI) (h0 : I 0 σ L) (hG : ∀ i σ L, I i σ L → ∃ A, Pick L (pt d (.frz od (.dT kvs))) A)
    (hs : ∀ i k v q σ L, kvs[i]? = some (k, v) → I i σ L → Go T (pt q (.tup (k.map kV)) :: L) fun H => g (.ref q) σ H fun σ2 H2 => ts ⟨SI.at T (I (i + 1)), R0, N0, SI.at T (I (i + 1))⟩ σ2 H2) (hd : ∀ σ L, I kvs.length σ L → Go T L fun H => N0 σ H) :
    Go T L fun H => ForG (Itkt d od kvs) g ts N0 R0 σ H := fun H t s =>
  for_it walk_keysT (D := ⟨N0, R0, fun _ _ => False, fun _ _ => False⟩) (fun i => SI.at T (I i)) ⟨L, h0, t, s⟩ (fun i σ H _ ⟨L, h, t, s⟩ => by
    obtain ⟨A, pk⟩ := hG i σ L h
    exact pk.at s) (fun i x σ H H' hi ⟨L, h, t, s⟩ yy => by
    obtain ⟨e, k, v, q, hk, rfl, hq⟩ := yy
    rw [e]
    exact hs i k v q σ L hk h H t (Seps.tupAt s hq)) (fun σ H ⟨L, h, t, s⟩ => hd σ L h H t s)
theorem g_lcKT {kvs : List (List Key × V)} (I : CI) (h0 : I 0 [] L) (hG : ∀ i acc L, I i acc L → ∃ A, Pick L (pt d (.frz od (.dT kvs))) A)
    (hs : ∀ D i k v q acc L, kvs[i]? = some (k, v) → I i acc L → Go T (pt q (.tup (k.map kV)) :: pt D (.lst acc) :: L) (LcTurn T D I i g tt te vs σ (.ref q))) (hd : ∀ D acc L, I kvs.length acc L → Go T (pt D (.lst acc) :: L) fun H => Q (.ref D) H) :
    Go T L fun H => LcG (Itkt d od kvs) g tt te vs σ Q H := fun H t s D hD =>
  lc_it walk_keysT (LcPv T D I) ⟨[], L, h0, Tabs.new t hD, s.new hD rfl fun _ e => e⟩ (fun i H _ ⟨acc, L, h, t, s⟩ => by
    obtain ⟨A, pk⟩ := hG i acc L h
    exact pk.at s.tail) (fun i x H H' hi ⟨acc, L, h, t, s⟩ yy => by
    obtain ⟨e, k, v, q, hk, rfl, hq⟩ := yy
    rw [e]
    exact hs D i k v q acc L hk h H t (Seps.tupAt s hq)) (fun H ⟨acc, L, h, t, s⟩ => hd D acc L h H t s)
theorem g_genKT {Rs : Nat → (Nat → Bool) → (Nat → V → Prop) → (Nat → Hp → Prop) → Prop} {kvs : List (List Key × V)} (pz : Nat → Bool) (z : Nat → V) (h0 : Ent L L0) (pk : Pick L0 (pt d (.frz od (.dT kvs))) A)
    (hs : ∀ i k v q, kvs[i]? = some (k, v) → Go T (pt q (.tup (k.map kV)) :: L0) (GTurn T L0 g tt te vs σ (.ref q) (pz i) (z i))) (hd : ∀ Pv : Nat → Hp → Prop, (∀ i H, Pv i H → GSkip T L0 H) → Rs kvs.length pz (fun i y => y = z i) Pv) : Go T L fun H => lGen T g tt te vs σ Rs (Itkt d od kvs) H := fun H t s =>
  ⟨t, fun H2 e t2 => ⟨kvs.length, pz, fun i y => y = z i, fun _ => GSkip T L0, ⟨L, h0, t2, s.mono fun a o h nt => e a o h fun ps z => by rw [z] at nt; cases nt⟩,
    ⟨fun i H1 hi ⟨L1, e1, t1, s1⟩ => ⟨walk_keysT.goes i H1 hi (pk.at (e1 _ s1)), fun x H' yy => by
      obtain ⟨eH, k, v, q, hk, rfl, hq⟩ := walk_keysT.yields i H1 x H' hi (pk.at (e1 _ s1)) yy
      subst eH
      exact hs i k v q hk H' t1 (Seps.tupAt (e1 _ s1) hq)⟩, fun H1 ⟨L1, e1, t1, s1⟩ => walk_keysT.stops H1 (pk.at (e1 _ s1))⟩, hd _ fun _ _ h => h⟩⟩
/-! ### sets of pairs -/
abbrev kP (r : Nat × Nat) : List Key := [Sum.inl (r.1 : Int), Sum.inl (r.2 : Int)]
def keyT (ks : List (Nat × Nat)) : List (List Key × V) := ks.map fun r => (kP r, .bl true)
theorem kP_inj {r s : Nat × Nat} (h : kP r = kP s) : r = s := by
  obtain ⟨a, b⟩ := r
  obtain ⟨c, d⟩ := s
  simp only [kP, List.cons.injEq, Sum.inl.injEq] at h
  obtain ⟨h1, h2, _⟩ := h
  have e1 : a = c := by omega
  have e2 : b = d := by omega
  rw [e1, e2]
theorem keyT_at {ks : List (Nat × Nat)} {i : Nat} {k : List Key} {v : V} (h : (keyT ks)[i]? = some (k, v)) : ∃ r, ks[i]? = some r ∧ k = kP r := by
  unfold keyT at h
  rw [List.getElem?_map] at h
  obtain ⟨r, hr, e⟩ := Option.map_eq_some_iff.mp h
  cases e
  exact ⟨r, hr, rfl⟩
theorem keyT_len {ks : List (Nat × Nat)} : (keyT ks).length = ks.length := List.length_map _
theorem keyT_val {r : Nat × Nat} : ∀ {ks : List (Nat × Nat)}, valV (keyT ks) (kP r) = if r ∈ ks then some (.bl true) else none
  | [] => rfl
  | s :: ks => by
    by_cases h : s = r
    · subst h
      rw [if_pos List.mem_cons_self]
      exact valV_pos (p := (kP s, V.bl true)) rfl
    · have : valV (keyT (s :: ks)) (kP r) = valV (keyT ks) (kP r) := valV_neg (p := (kP s, V.bl true)) fun e => h (kP_inj e)
      rw [this, keyT_val]
      by_cases h2 : r ∈ ks
      · rw [if_pos h2, if_pos (List.mem_cons_of_mem _ h2)]
      · rw [if_neg h2, if_neg fun m => (List.mem_cons.mp m).elim (fun e => h e.symm) h2]
theorem keyT_has {ks : List (Nat × Nat)} {r : Nat × Nat} : (valV (keyT ks) (kP r)).isSome = decide (r ∈ ks) := by
  rw [keyT_val]
  by_cases h : r ∈ ks
  · rw [if_pos h, decide_eq_true h]; rfl
  · rw [if_neg h, decide_eq_false h]; rfl
theorem keyT_put {ks : List (Nat × Nat)} {r : Nat × Nat} (h : r ∉ ks) : putK (keyT ks) (kP r) (.bl true) = keyT (ks ++ [r]) := by
  have e : ((keyT ks).any fun kv => decide (kv.1 = kP r)) = false := by
    rw [List.any_eq_false]
    intro kv hm
    obtain ⟨s, hs, rfl⟩ := List.mem_map.mp hm
    intro z
    exact h (kP_inj (of_decide_eq_true z) ▸ hs)
  unfold putK
  rw [e, if_neg (by decide)]
  unfold keyT
  rw [List.map_append]
  rfl
theorem keyT_drop {ks : List (Nat × Nat)} {r : Nat × Nat} : dropK (keyT ks) (kP r) = keyT (ks.filter fun s => decide (s ≠ r)) := by
  unfold dropK keyT
  rw [List.filter_map]
  congr 1
  refine List.filter_congr fun s _ => ?_
  show decide (kP s ≠ kP r) = decide (s ≠ r)
  by_cases h : s = r
  · subst h; simp
  · have h2 : kP s ≠ kP r := fun e => h (kP_inj e)
    rw [decide_eq_true h2, decide_eq_true h]
section
variable {ks : List (Nat × Nat)} {i j : Nat}
theorem g_dinP (pk : Pick L (pt a (.dT (keyT ks))) A) (p2 : Pick L (pt b (.tup [nI i, nI j])) B) (k : Go T L fun H => Q (.bl (decide ((i, j) ∈ ks))) H) : Go T L fun H => lDIn Q (.ref b) (.ref a) H := fun H t s =>
  ⟨a, _, rfl, DGet.t (k := kP (i, j)) (pk.at s) (p2.at s), by rw [keyT_has]; exact k H t s⟩
theorem g_dnotinP (pk : Pick L (pt a (.dT (keyT ks))) A) (p2 : Pick L (pt b (.tup [nI i, nI j])) B) (k : Go T L fun H => Q (.bl (!decide ((i, j) ∈ ks))) H) : Go T L fun H => lDNotIn Q (.ref b) (.ref a) H := fun H t s =>
  ⟨a, _, rfl, DGet.t (k := kP (i, j)) (pk.at s) (p2.at s), by rw [keyT_has]; exact k H t s⟩
theorem g_dputP {N : Hp → Prop} (pk : Pick L (pt a (.dT (keyT ks))) A) (p2 : Pick L (pt b (.tup [nI i, nI j])) B) (hn : (i, j) ∉ ks) (hl : ks.length < sizeLine) (k : Go T (pt a (.dT (keyT (ks ++ [(i, j)]))) :: A) N) : Go T L fun H => lDPut N (.bl true) (.ref a) (.ref b) H := fun H t s =>
  ⟨a, _, rfl, DPut.t (k := kP (i, j)) (pk.at s) (p2.at s) (by rw [keyT_len]; exact hl), by
    rw [keyT_put hn]
    exact go_wr pk (P' := pt a (.dT (keyT (ks ++ [(i, j)])))) rfl (fun h e => ⟨_, e, rfl, upd_same⟩) k H t s⟩
/-! ### pop -/
theorem meetsPop1 {prog : Program} {w : World} {κ : Type} [DecidableEq κ] {knd : HeapKind prog w κ} {d b : Addr} {k : κ} (hd : (d == sysModules) = false) :
    MeetsIn prog w (Builtin.«dict.pop» ⟨[.ref d, .ref b], []⟩) (fun A R s => ∃ xs p, knd.room A.in1 ∧ knd.is s.heap k b ∧ s.heap.DictOfH knd d xs ∧ xs.length ≤ sizeLine ∧ atKey xs k = some p ∧
      ∀ h' tk, h'.DictOfH knd d (DT.dropH xs k) → Heap.SameBut d s.heap h' → R (.ok (.ret p.2)) { s with heap := h', toks := tk }) :=
  .of_wp fun A R s ⟨xs, p, hu, hkey, hm, hsz, hp, hsome⟩ => by
    obtain ⟨o, es, ep, ho, hc, hdat, he, his, hn⟩ := id hm
    have hes : es.size = xs.length := size_of_entries he
    have hpart : (keyPart (Value.ref b)).isSome = false := rfl
    unfold Builtin.«dict.pop»
    refine wpAny_bind ?_
    unfold Builtin.Dict.keyAndDefault
    refine wpAny_bind (wpAny_notOrdered_dict hm.typeIs ?_)
    show wpAny _ _ (pure (d, Value.ref b, none)) _ _ s
    refine wpAny_pure ?_
    simp only [hpart, Bool.false_eq_true, if_false]
    refine wpAny_bind (wpAny_dictEntries ho hdat (wpAny_bind (wpAny_pure ?_)))
    cases hem : es.isEmpty with
    | true =>
      have h0 : xs = [] := by
        have z : es.size = 0 := by simpa using hem
        exact List.length_eq_zero_iff.mp (by omega)
      rw [h0] at hp
      cases hp
    | false =>
      simp only [Bool.false_eq_true, if_false]
      refine wpAny_bind (DT.takeH hu hkey hm hsz (fun hno => ?_) fun p' e hp' hev h' hm' hs' => ?_)
      · rw [hp] at hno
        cases hno
      · rw [hp] at hp'
        cases hp'
        simp only [Option.isNone_some, Bool.false_eq_true, if_false]
        exact wpAny_bind (wpAny_letGo (wpAny_pure ⟨e.val, rfl, by rw [hev]; exact hsome h' _ hm' hs'⟩))
def rPopT1 : V → List V → Hp → VK → Prop := fun x xs H Q => ∃ (a : Addr) (kvs : List (List L2.Key × V)) (k : List L2.Key) (b : Addr) (v : V), x = .ref a ∧ xs = [.ref b] ∧ H a = some (.dT kvs) ∧ H b = some (.tup (k.map kV)) ∧
  valV kvs k = some v ∧ Q v (upd H a (.dT (dropK kvs k)))
theorem mtPopT1 {X : Cx} (hu : X.A.units + 1 < cLine) : MtR X "dict.pop" rPopT1 := by
  intro pins s σ H x xs v us Q I rx rxs h
  obtain ⟨a, kvs, k, b, v0, rfl, rfl, ha, hb, ev, q1⟩ := h
  cases rx
  obtain ⟨u1, rfl, r1⟩ := rxs.one
  cases r1
  obtain ⟨z, hd, xs', rel, dd⟩ := dt_of I.hok ha
  have hz : xs'.length ≤ sizeLine := by rw [← Paired.length rel]; exact z
  have r := rel.val k
  rw [ev] at r
  obtain ⟨p2, hp2, rv⟩ := RelO.some_of r
  obtain ⟨p, hp, rfl⟩ := Option.map_eq_some_iff.mp hp2
  refine call_meetsIn PySem.F.slot_dict_pop dd.typeIs PySem.F.entry_dict_pop (PySem.F.args_dict_pop_2 _ _) (meetsPop1 (knd := tupleKind (mixKind X.prog X.w)) (k := k) hd)
    ⟨xs', p, tupleKind_room_in1 hu, key_of I.hok hb, dd, hz, hp, fun h' tk dd' hs => ?_⟩
  obtain ⟨o, es, ep, hq, h2, h3, h4, _, h5⟩ := dd'
  have I2 : Inv X pins σ (upd H a (.dT (dropK kvs k))) { s with heap := h', toks := tk } :=
    d_write I (by rw [ha]; exact True.intro) hs ⟨o, hq⟩ ⟨Nat.le_trans (dropK_le kvs k) z, hd, _, (DX.KT_drop k rel).keeps (fun c ys ec => (by rw [upd_ne (ne_of ec ha (fun z => nomatch z))]; exact ec)), o, es, ep, hq, h2, h3, h4, h5⟩
  exact ⟨v0, _, I2, rv, q1⟩
theorem g_popP (pk : Pick L (pt a (.dT (keyT ks))) A) (p2 : Pick L (pt b (.tup [nI i, nI j])) B) (h : (i, j) ∈ ks) (k : Go T (pt a (.dT (keyT (ks.filter fun s => decide (s ≠ (i, j))))) :: A) fun H => Q (.bl true) H) : Go T L fun H => rPopT1 (.ref a) [.ref b] H Q := fun H t s =>
  ⟨a, _, kP (i, j), b, .bl true, rfl, rfl, pk.at s, p2.at s, by rw [keyT_val, if_pos h], by
    rw [keyT_drop]
    exact go_wr pk (P' := pt a (.dT (keyT (ks.filter fun s => decide (s ≠ (i, j)))))) rfl (fun h e => ⟨_, e, rfl, upd_same⟩) k H t s⟩
theorem g_bmD {rm : V → List V → Hp → VK → Prop} {ta : TE} {tr : TA} (k : Go T L fun H => ta σ H fun x H1 => tyV K "dict" x H1 ∧ tr σ H1 fun vs H2 => rm x vs H2 Q) : Go T L fun H => tBM K "dict" rm ta tr σ H Q := k
theorem g_tyD {P : Hp → Prop} {kvs : List (List Key × V)} (pk : Pick L (pt a (.dT kvs)) A) (k : Go T L P) : Go T L fun H => tyV K "dict" (.ref a) H ∧ P H := fun H t s => ⟨.inr (.inr (.inl ⟨rfl, .inr ⟨_, pk.at s⟩⟩)), k H t s⟩
theorem g_newDT (k : ∀ p, Go T (pt p (.dT (keyT []))  :: L) fun H => Q (.ref p) H) : Go T L fun H => tDNewT σ H Q := go_new (P := fun p => pt p (.dT [])) (o := .dT []) rfl (fun _ _ e => e) k
/-- walks over a set of pairs -/
theorem g_forKP (I : Nat → SI) (h0 : I 0 σ L) (hG : ∀ i σ L, I i σ L → ∃ A, Pick L (pt d (.frz od (.dT (keyT ks)))) A)
    (hs : ∀ i r q σ L, ks[i]? = some r → I i σ L → Go T (pt q (.tup [nI r.1, nI r.2]) :: L) fun H => g (.ref q) σ H fun σ2 H2 => ts ⟨SI.at T (I (i + 1)), R0, N0, SI.at T (I (i + 1))⟩ σ2 H2) (hd : ∀ σ L, I ks.length σ L → Go T L fun H => N0 σ H) :
    Go T L fun H => ForG (Itkt d od (keyT ks)) g ts N0 R0 σ H :=
  g_forKT I h0 hG (fun i k v q σ L hk h => by
    obtain ⟨r, hr, rfl⟩ := keyT_at hk
    exact hs i r q σ L hr h) fun σ L h => hd σ L (by rw [keyT_len] at h; exact h)
theorem g_lcKP (p : Nat × Nat → Bool) (f : Nat × Nat → V) (pk : Pick L0 (pt d (.frz od (.dT (keyT ks)))) A) (h0 : Ent L L0)
    (hs : ∀ D (i : Nat) r q, ks[i]? = some r → bAt ks p i = p r → fAt ks f i = f r → Go T (pt q (.tup [nI r.1, nI r.2]) :: pt D (.lst (((List.range i).filter (bAt ks p)).map (fAt ks f))) :: L0) (LcTurn T D (IP (bAt ks p) (fAt ks f) L0) i g tt te vs σ (.ref q)))
    (hd : ∀ D, Go T (pt D (.lst ((ks.filter p).map f)) :: L0) fun H => Q (.ref D) H) : Go T L fun H => LcG (Itkt d od (keyT ks)) g tt te vs σ Q H :=
  g_lcKT (IP (bAt ks p) (fAt ks f) L0) ⟨rfl, h0⟩ (fun i acc L h => ⟨_, fun H s => pk H (h.2 H s)⟩) (fun D i k v q acc L hk h => by
    obtain ⟨r, hr, rfl⟩ := keyT_at hk
    obtain ⟨rfl, e⟩ := h
    exact (hs D i r q hr (bAt_some hr) (fAt_some hr)).ent (ent_tail (ent_tail e))) fun D acc L h => by
    obtain ⟨rfl, e⟩ := h
    rw [keyT_len, filt_at ks p f _ _ (fun i u h => bAt_some h) fun i u h => fAt_some h]
    exact (hd D).ent (ent_tail e)
theorem g_anyKP (f : Nat × Nat → Bool) (pk : Pick L0 (pt d (.frz od (.dT (keyT ks)))) A) (h0 : Ent L L0)
    (hs : ∀ (i : Nat) r q, ks[i]? = some r → Go T (pt q (.tup [nI r.1, nI r.2]) :: L0) (GTurn T L0 g tYes te vs σ (.ref q) true (.bl (f r)))) (hd : Go T L0 fun H => Q (.bl (ks.any f)) H) : Go T L fun H => lGen T g tYes te vs σ (rsAny Q) (Itkt d od (keyT ks)) H :=
  g_genKT (fun _ => true) (fun i => .bl (bAt ks f i)) h0 pk (fun i k v q hk => by
    obtain ⟨r, hr, rfl⟩ := keyT_at hk
    rw [bAt_some hr]
    exact hs i r q hr) fun Pv h => rs_any h (by rw [filt_true, keyT_len, any_range ks f _ fun i u hu => bAt_some hu]; exact hd)
end
/-! ### lists of pairs, sorted -/
abbrev dP (r : Nat × Nat) : Dt := .tup [.int (r.1 : Int), .int (r.2 : Int)]
theorem dvs_perm {H : Hp} {xs ys : List V} (p : ys.Perm xs) : ∀ {ks : List (Nat × Nat)}, DVs H xs (ks.map dP) → ∃ ps : List (Nat × Nat), ps.Perm ks ∧ DVs H ys (ps.map dP) := by
  induction p with
  | nil => intro ks h; exact ⟨ks, List.Perm.refl _, h⟩
  | cons x _ ih =>
    intro ks h
    cases ks with
    | nil => cases h
    | cons k ks =>
      cases h with
      | cons e r =>
        obtain ⟨ps, h1, h2⟩ := ih r
        exact ⟨k :: ps, h1.cons k, .cons e h2⟩
  | swap x y l =>
    intro ks h
    match ks, h with
    | k1 :: k2 :: ks, .cons e1 (.cons e2 r) => exact ⟨k2 :: k1 :: ks, .swap k1 k2 ks, .cons e2 (.cons e1 r)⟩
  | trans _ _ ih1 ih2 =>
    intro ks h
    obtain ⟨ps, h1, h2⟩ := ih2 h
    obtain ⟨qs, h3, h4⟩ := ih1 h2
    exact ⟨qs, h3.trans h1, h4⟩
theorem dP_tup {H : Hp} {x : V} {r : Nat × Nat} (h : DV H x (dP r)) : TupI K H x [(r.1 : Int), (r.2 : Int)] := by
  cases h with
  | tup e q =>
    refine ⟨_, rfl, SqT.of ?_⟩
    rw [e]
    cases q with
    | cons e1 q =>
      cases q with
      | cons e2 q =>
        cases q
        cases e1
        cases e2
        rfl
theorem dvs_mem {H : Hp} {x : V} : ∀ {xs : List V} {ks : List (Nat × Nat)}, DVs H xs (ks.map dP) → x ∈ xs → ∃ r, r ∈ ks ∧ DV H x (dP r)
  | _, [], .nil, m => by cases m
  | _, k :: ks, .cons e r, m => by
    rcases List.mem_cons.mp m with rfl | m
    · exact ⟨k, List.mem_cons_self, e⟩
    · obtain ⟨s, h1, h2⟩ := dvs_mem r m
      exact ⟨s, List.mem_cons_of_mem _ h1, h2⟩
theorem dvs_sorted {H : Hp} : ∀ {ys : List V} {ps : List (Nat × Nat)}, DVs H ys (ps.map dP) → ys.Pairwise (fun x y => ∀ n m, TupI K H x n → TupI K H y m → TS.code 64 n ≤ TS.code 64 m) → ps.Pairwise fun r s => r.1 * 64 + r.2 ≤ s.1 * 64 + s.2
  | _, [], .nil, _ => .nil
  | y :: ys, p :: ps, .cons e r, h => by
    rw [List.pairwise_cons] at h ⊢
    refine ⟨fun s hs => ?_, dvs_sorted r h.2⟩
    obtain ⟨i, hi, es⟩ := List.mem_iff_getElem.mp hs
    obtain ⟨z, hz, dz⟩ := r.at (k := i) (d := dP s) (by rw [List.getElem?_map, List.getElem?_eq_getElem hi, es]; rfl)
    have := h.1 z (List.mem_of_getElem? hz) _ _ (dP_tup e) (dP_tup dz)
    rw [code_pair, code_pair] at this
    omega
theorem cSortP {X : Cx} (hK : X.K = K) : CallR X (.builtin "sorted") (rSortU K 2 64) := hK ▸ cr_sortT (by decide)
theorem g_sortP {ks : List (Nat × Nat)} (pk : Pick L (pt a (.lst xs)) A) (pd : Pick L (dvs xs (ks.map dP)) B) (hl : ks.length < 64) (hb : ∀ r ∈ ks, r.1 < 64 ∧ r.2 < 64)
    (k : ∀ (ps : List (Nat × Nat)) ys p, ps.Perm ks → ps.Pairwise (fun r s => r.1 * 64 + r.2 ≤ s.1 * 64 + s.2) → Go T (pt p (.lst ys) :: dvs ys (ps.map dP) :: L) fun H => Q (.ref p) H) : Go T L fun H => rSortU K 2 64 [.ref a] H Q := fun H t s => by
  have q := pd.dvs s
  refine ⟨a, xs, rfl, SqL.of (pk.at s), by rw [q.len, List.length_map]; exact hl, fun x m => ?_, fun ys p hp hs hn => ?_⟩
  · obtain ⟨r, h1, h2⟩ := dvs_mem q m
    refine ⟨_, dP_tup h2, rfl, fun z hz => ?_⟩
    have := hb r h1
    simp only [List.mem_cons, List.not_mem_nil, or_false] at hz
    rcases hz with rfl | rfl <;> omega
  · obtain ⟨ps, h1, h2⟩ := dvs_perm hp q
    have s1 : Seps (dvs ys (ps.map dP) :: L) H := s.more (tupsOf H) (fun a o q => (tupsOf_some q).1) (fun a o q => (tupsOf_some q).2) (h2.mono fun a xs q => tupsOf_at q)
    exact (k ps ys p h1 (dvs_sorted h2 hs)) _ (Tabs.new t hn) (s1.new hn rfl fun _ e => e)
/-! ### data in a list, a tuple of data -/
theorem oInDL {X : Cx} (hK : X.K = K) (hu : X.A.units + 65 < cLine) : OpR X (compareOp .In) (rInD K) := hK ▸ op_inD hu
theorem oNotInDL {X : Cx} (hK : X.K = K) (hu : X.A.units + 65 < cLine) : OpR X (compareOp .NotIn) (rNotInD K) := hK ▸ op_notInD hu
def rNotInDT (K : PySem.W.Frag) : R2 := fun x y H Q => ∃ d ds, Dp K H x d ∧ Dp K H y (.tuple ds) ∧ SeqAt.shaped d = true ∧ SeqAt.shaped (.tuple ds) = true ∧ Q (.bl (!ds.any fun z => PyData.eqv z d)) H
theorem op_notInDT {X : Cx} (hu : X.A.units + 65 < cLine) : OpR X (compareOp .NotIn) (rNotInDT X.K) := by
  intro pins s σ H x y v u Q I rx ry h
  obtain ⟨d, ds, hd, he, sd, se, q⟩ := h
  obtain ⟨as, r1⟩ := Dp.reads I d x v hd rx
  obtain ⟨bs, r2⟩ := Dp.reads I (.tuple ds) y u he ry
  exact SeqAt.notIn_tuple_reads r2 r1 (SeqAt.canLay_of_shaped se) (SeqAt.canLay_of_shaped sd) (room_in_shaped sd hu) ⟨.bl _, H, I, rfl, q⟩
theorem oNotInDT {X : Cx} (hK : X.K = K) (hu : X.A.units + 65 < cLine) : OpR X (compareOp .NotIn) (rNotInDT K) := hK ▸ op_notInDT hu
structure DtOk {α : Type} (f : α → Dt) : Prop where
  nob : ∀ u, (f u).nob = true
  inj : ∀ u w, f u = f w → u = w
  lay : ∀ u, (f u).lay = true
  dep : ∀ u, (f u).dep ≤ 50
theorem any_dt {α : Type} [DecidableEq α] {f : α → Dt} (ok : DtOk f) {u : α} : ∀ {us : List α}, ((Dt.pys (us.map f)).any fun z => PyData.eqv z (f u).py) = decide (u ∈ us)
  | [] => by simp [Dt.pys]
  | w :: us => by
    show (PyData.eqv (f w).py (f u).py || (Dt.pys (us.map f)).any fun z => PyData.eqv z (f u).py) = _
    rw [any_dt ok, eqv_dtD (ok.nob w) (ok.nob u)]
    by_cases h : w = u
    · subst h
      simp
    · have h2 : ¬ f w = f u := fun e => h (ok.inj _ _ e)
      have h3 : ¬ u = w := fun e => h e.symm
      simp [h2, h3]
theorem dP_ok : DtOk dP := ⟨fun _ => rfl, fun u w e => by
  obtain ⟨a, b⟩ := u
  obtain ⟨c, d⟩ := w
  simp only [dP, Dt.tup.injEq, List.cons.injEq, Dt.int.injEq] at e
  obtain ⟨h1, h2, _⟩ := e
  have e1 : a = c := by omega
  have e2 : b = d := by omega
  rw [e1, e2], fun _ => rfl, fun _ => Nat.le_of_ble_eq_true rfl⟩
section
variable {α : Type} [DecidableEq α] {f : α → Dt} {us : List α} {w : α}
theorem g_inDM (ok : DtOk f) (pk : Pick L (pt b (.lst ys)) A) (pd : Pick L (dvs ys (us.map f)) B) (q1 : ∀ H, Seps L H → DV H x (f w)) (k : Go T L fun H => Q (.bl (decide (w ∈ us))) H) : Go T L fun H => rInD K x (.ref b) H Q := fun H t s =>
  ⟨(f w).py, Dt.pys (us.map f), (q1 H s).dp, .lst (SqL.of (pk.at s)) (pd.dvs s).dp, shp_dt (ok.lay w) (Nat.le_trans (ok.dep w) (by decide)), shp_dts (lays_all fun d hd => by
    obtain ⟨u, _, rfl⟩ := List.mem_map.mp hd
    exact ok.lay u) (Nat.le_trans (deps_map ok.dep us) (by decide)), by rw [any_dt ok]; exact k H t s⟩
theorem g_notInDM (ok : DtOk f) (pk : Pick L (pt b (.lst ys)) A) (pd : Pick L (dvs ys (us.map f)) B) (q1 : ∀ H, Seps L H → DV H x (f w)) (k : Go T L fun H => Q (.bl (!decide (w ∈ us))) H) : Go T L fun H => rNotInD K x (.ref b) H Q := fun H t s =>
  ⟨(f w).py, Dt.pys (us.map f), (q1 H s).dp, .lst (SqL.of (pk.at s)) (pd.dvs s).dp, shp_dt (ok.lay w) (Nat.le_trans (ok.dep w) (by decide)), shp_dts (lays_all fun d hd => by
    obtain ⟨u, _, rfl⟩ := List.mem_map.mp hd
    exact ok.lay u) (Nat.le_trans (deps_map ok.dep us) (by decide)), by rw [any_dt ok]; exact k H t s⟩
end
theorem g_notInDTk {e : Dt} {es : List Dt} {r : Bool} (q1 : ∀ H, Seps L H → DV H x e) (q2 : ∀ H, Dp K H y (.tuple (Dt.pys es))) (l1 : e.lay = true) (l2 : Dt.lays es = true) (b1 : e.dep ≤ 60) (b2 : Dt.deps es ≤ 60) (h : ((Dt.pys es).any fun z => PyData.eqv z e.py) = r) (k : Go T L fun H => Q (.bl (!r)) H) : Go T L fun H => rNotInDT K x y H Q := fun H t s =>
  ⟨e.py, Dt.pys es, (q1 H s).dp, q2 H, shp_dt l1 (by omega), shp_dt (d := .tup es) l2 (by
    show Dt.deps es + 1 ≤ 64
    omega), by rw [h]; exact k H t s⟩
theorem g_ixDTk {e : Dt} {es : List Dt} {j : Nat} (q1 : ∀ H, Seps L H → DV H y e) (q2 : ∀ H, Dp K H (.ref a) (.tuple (Dt.pys es))) (l1 : e.lay = true) (l2 : Dt.lays es = true) (b1 : e.dep ≤ 60) (b2 : Dt.deps es ≤ 60)
    (h : ∃ z, (Dt.pys es)[j]? = some z ∧ PyData.eqv z e.py = true ∧ ∀ (m : Nat) (z' : PyData), m < j → (Dt.pys es)[m]? = some z' → PyData.eqv z' e.py = false) (k : Go T L fun H => Q (.int (j : Nat)) H) : Go T L fun H => rIndexDT K (.ref a) [y] H Q := fun H t s => by
  obtain ⟨z, h1, h2, h3⟩ := h
  exact ⟨a, y, e.py, Dt.pys es, j, z, rfl, rfl, q2 H, (q1 H s).dp, shp_dt (d := .tup es) l2 (by
    show Dt.deps es + 1 ≤ 64
    omega), shp_dt l1 (by omega), h1, h2, h3, k H t s⟩
theorem g_bmT {rm : V → List V → Hp → VK → Prop} {ta : TE} {tr : TA} (k : Go T L fun H => ta σ H fun x H1 => tyV K "tuple" x H1 ∧ tr σ H1 fun vs H2 => rm x vs H2 Q) : Go T L fun H => tBM K "tuple" rm ta tr σ H Q := k
end
/-! ### sorted, by a function -/
def srt (l : List Nat) : List Nat := l.mergeSort fun a b => decide (a ≤ b)
theorem srt_perm {l : List Nat} : (srt l).Perm l := List.mergeSort_perm _ _
theorem srt_pair {l : List Nat} : (srt l).Pairwise (· ≤ ·) :=
  (List.pairwise_mergeSort (le := fun a b => decide (a ≤ b)) (fun a b c h1 h2 => decide_eq_true (Nat.le_trans (of_decide_eq_true h1) (of_decide_eq_true h2))) (fun a b => by
    simp only [Bool.or_eq_true, decide_eq_true_eq]; omega) l).imp fun h => of_decide_eq_true h
theorem srt_eq {l ys : List Nat} (p : ys.Perm l) (h : ys.Pairwise (· ≤ ·)) : ys = srt l :=
  (p.trans srt_perm.symm).eq_of_pairwise (fun a b _ _ h1 h2 => Nat.le_antisymm h1 h2) h srt_pair
theorem perm_ints {ys : List Int} {us : List Nat} (h : ys.Perm (cI us)) : ys = cI (ys.map Int.toNat) ∧ (ys.map Int.toNat).Perm us := by
  have hn : ∀ y ∈ ys, 0 ≤ y := fun y hy => by
    obtain ⟨u, _, rfl⟩ := List.mem_map.mp (h.mem_iff.mp hy)
    exact Int.natCast_nonneg u
  constructor
  · unfold cI
    rw [List.map_map]
    have : ys.map (fun y => y) = ys.map ((fun k : Nat => (k : Int)) ∘ Int.toNat) := List.map_congr_left fun y hy => (Int.toNat_of_nonneg (hn y hy)).symm
    rw [← this, List.map_id']
  · have := h.map Int.toNat
    unfold cI at this
    rw [List.map_map] at this
    have e : us.map (Int.toNat ∘ fun k : Nat => (k : Int)) = us := by
      have : us.map (Int.toNat ∘ fun k : Nat => (k : Int)) = us.map (fun k => k) := List.map_congr_left fun k _ => Int.toNat_natCast k
      rw [this, List.map_id']
    rwa [e] at this
theorem srt_ints {ys : List Int} {us : List Nat} (h : ys.Perm (cI us)) (hp : ys.Pairwise (· ≤ ·)) : ys = cI (srt us) := by
  obtain ⟨e, h2⟩ := perm_ints h
  rw [e]
  congr 1
  refine srt_eq h2 ?_
  rw [List.pairwise_map]
  exact hp.imp fun h => by omega
section
variable {T : List (Addr × Str)} {L A B : List HP} {Q : VK} {K : PySem.W.Frag} {a b : Addr} {xs : List V}
theorem g_sortN {us : List Nat} (pk : Pick L (pt a (.lst (us.map nI))) A) (hl : us.length < 64) (k : ∀ p, Go T (pt p (.lst ((srt us).map nI)) :: L) fun H => Q (.ref p) H) : Go T L fun H => rSorted K [.ref a] H Q := by
  rw [map_nI] at pk
  refine g_sortI pk (by rw [cI, List.length_map]; exact hl) fun ys p h1 h2 => ?_
  rw [srt_ints h1 h2, ← map_nI]
  exact k p
/-- sorted(d), d a set of numbers -/
def keyN (us : List Nat) : List (Key × V) := us.map fun u : Nat => (Sum.inl ((u : Nat) : Int), .bl true)
theorem g_sortDN {us : List Nat} (pk : Pick L (pt a (.dK (keyN us))) A) (hl : us.length < 64) (k : ∀ p, Go T (pt p (.lst ((srt us).map nI)) :: L) fun H => Q (.ref p) H) : Go T L fun H => rSortDI [.ref a] H Q := by
  refine g_sortD (ks := cI us) pk (by unfold keyN cI; rw [List.map_map, List.map_map]; rfl) (by rw [cI, List.length_map]; exact hl) fun ys p h1 h2 => ?_
  rw [srt_ints h1 h2, ← map_nI]
  exact k p
def addN (us : List Nat) (u : Nat) : List Nat := if u ∈ us then us else us ++ [u]
theorem keyN_val {u : Nat} : ∀ {us : List Nat}, valV (keyN us) (Sum.inl (u : Int)) = if u ∈ us then some (.bl true) else none
  | [] => rfl
  | s :: us => by
    by_cases h : s = u
    · subst h
      rw [if_pos List.mem_cons_self]
      exact valV_pos (p := ((Sum.inl (s : Int) : Key), V.bl true)) rfl
    · have : valV (keyN (s :: us)) (Sum.inl (u : Int)) = valV (keyN us) (Sum.inl (u : Int)) := valV_neg (p := ((Sum.inl (s : Int) : Key), V.bl true)) fun e => h (by
        injection e with e
        omega)
      rw [this, keyN_val]
      by_cases h2 : u ∈ us
      · rw [if_pos h2, if_pos (List.mem_cons_of_mem _ h2)]
      · rw [if_neg h2, if_neg fun m => (List.mem_cons.mp m).elim (fun e => h e.symm) h2]
theorem keyN_put {us : List Nat} {u : Nat} : putK (keyN us) (Sum.inl (u : Int)) (.bl true) = keyN (addN us u) := by
  have e : ((keyN us).any fun kv => decide (kv.1 = Sum.inl (u : Int))) = decide (u ∈ us) := by
    rw [Bool.eq_iff_iff, List.any_eq_true, decide_eq_true_eq]
    constructor
    · rintro ⟨kv, hm, z⟩
      obtain ⟨s, hs, rfl⟩ := List.mem_map.mp hm
      have z := of_decide_eq_true z
      injection z with z
      have : s = u := by omega
      exact this ▸ hs
    · intro h
      exact ⟨_, List.mem_map.mpr ⟨u, h, rfl⟩, decide_eq_true rfl⟩
  unfold putK addN
  rw [e]
  by_cases h : u ∈ us
  · rw [if_pos (decide_eq_true h), if_pos h]
    unfold keyN
    rw [List.map_map]
    refine List.map_congr_left fun s _ => ?_
    show (if (Sum.inl (s : Int) : Key) = Sum.inl (u : Int) then ((Sum.inl (s : Int) : Key), V.bl true) else (Sum.inl (s : Int), V.bl true)) = _
    split <;> rfl
  · rw [if_neg (by rw [decide_eq_false h]; decide), if_neg h]
    unfold keyN
    rw [List.map_append]
    rfl
theorem g_dinN {us : List Nat} {u : Nat} (pk : Pick L (pt a (.dK (keyN us))) A) (k : Go T L fun H => Q (.bl (decide (u ∈ us))) H) : Go T L fun H => lDIn Q (.int (u : Int)) (.ref a) H :=
  g_dinI pk (by
    rw [keyN_val]
    by_cases h : u ∈ us
    · rw [if_pos h]; rw [decide_eq_true h] at k; exact k
    · rw [if_neg h]; rw [decide_eq_false h] at k; exact k)
theorem g_dputN {us : List Nat} {u : Nat} {N : Hp → Prop} (pk : Pick L (pt a (.dK (keyN us))) A) (hl : us.length < sizeLine) (k : Go T (pt a (.dK (keyN (addN us u))) :: A) N) : Go T L fun H => lDPut N (.bl true) (.ref a) (.int (u : Int)) H :=
  g_dputI pk (by unfold keyN; rw [List.length_map]; exact hl) (by rw [keyN_put]; exact k)
/-- sorted pairs -/
def srtP (l : List (Nat × Nat)) : List (Nat × Nat) := l.mergeSort fun r s => decide (r.1 * 64 + r.2 ≤ s.1 * 64 + s.2)
theorem srtP_perm {l : List (Nat × Nat)} : (srtP l).Perm l := List.mergeSort_perm _ _
theorem srtP_pair {l : List (Nat × Nat)} : (srtP l).Pairwise fun r s => r.1 * 64 + r.2 ≤ s.1 * 64 + s.2 :=
  (List.pairwise_mergeSort (le := fun r s : Nat × Nat => decide (r.1 * 64 + r.2 ≤ s.1 * 64 + s.2)) (fun a b c h1 h2 => decide_eq_true (Nat.le_trans (of_decide_eq_true h1) (of_decide_eq_true h2))) (fun a b => by
    simp only [Bool.or_eq_true, decide_eq_true_eq]; omega) l).imp fun h => of_decide_eq_true h
theorem srtP_eq {l ys : List (Nat × Nat)} (p : ys.Perm l) (hb : ∀ r ∈ l, r.1 < 64 ∧ r.2 < 64) (h : ys.Pairwise fun r s => r.1 * 64 + r.2 ≤ s.1 * 64 + s.2) : ys = srtP l :=
  (p.trans srtP_perm.symm).eq_of_pairwise (fun r s hr hs h1 h2 => by
    have b1 := hb r (p.mem_iff.mp hr)
    have b2 := hb s (srtP_perm.mem_iff.mp hs)
    obtain ⟨r1, r2⟩ := r
    obtain ⟨s1, s2⟩ := s
    dsimp only at *
    have e1 : r1 = s1 := by omega
    have e2 : r2 = s2 := by omega
    rw [e1, e2]) h srtP_pair
theorem g_sortPP {ks : List (Nat × Nat)} (pk : Pick L (pt a (.lst xs)) A) (pd : Pick L (dvs xs (ks.map dP)) B) (hl : ks.length < 64) (hb : ∀ r ∈ ks, r.1 < 64 ∧ r.2 < 64)
    (k : ∀ ys p, Go T (pt p (.lst ys) :: dvs ys ((srtP ks).map dP) :: L) fun H => Q (.ref p) H) : Go T L fun H => rSortU K 2 64 [.ref a] H Q :=
  g_sortP pk pd hl hb fun ps ys p h1 h2 => by
    rw [srtP_eq h1 hb h2]
    exact k ys p
end
/-! ### tuples of the module by their class -/
def tyB (K : PySem.W.Frag) (a : Addr) : Bool := match K.lookup a with
  | some ⟨.type c, none, _, _⟩ => decide (c = "tuple")
  | _ => false
theorem tyB_ok {K : PySem.W.Frag} {a : Addr} (h : tyB K a = true) (H : Hp) : tyV K "tuple" (.ref a) H := by
  unfold tyB at h
  split at h
  · rename_i c d sl q
    exact .inr (.inl ⟨rfl, _, q, congrArg Value.type (of_decide_eq_true h), rfl⟩)
  · cases h
end Dh

/-! The layer Dh, part Q: a tuple's slice that is the whole of it, a tuple once. -/
namespace L2
open PySem PySem.Spec PyProof.Rows
set_option maxHeartbeats 4000000
theorem tuple_mulOne (l : Addr) (items : Array Value) (n : Nat) (dd : Option Addr) (sl : Array (Option Value)) (u : Tok) :
    Meets (Builtin.«tuple.__mul__» ⟨[.ref l, .int 1 u], []⟩) (fun _ R s => s.heap.get? l = some { cls := .type "tuple", dict := dd, data := .seq items n, slots := sl } ∧
      R (.ok (.ret (Value.ref l))) s) :=
  .of_wp fun prog w A R s h => by
    obtain ⟨hp, g, d, tk, os⟩ := s
    obtain ⟨hl, h⟩ := h
    have f1 := AutoSeq1.idx_int
    wp_walk using wpAny_loadPart' hl
    repeat (first
      | (refine wpAny_ite_false (decide_eq_false (by decide)) ?_; wp_walk using wpAny_loadPart' hl)
      | (refine wpAny_ite_true (decide_eq_true (by simp)) ?_; wp_walk using wpAny_loadPart' hl))

    exact ⟨_, rfl, h⟩
theorem getItem_whole {prog : Program} {w : World} {A : Around} {E : Value → Shared → Prop} {s : Shared} {t sl : Addr} {items : Array Value} {vl vu : Value} {lo hi : Option Int} {Q : Value → Shared → Prop} (ht : IsTup s.heap t items) (hs : s.heap.IsSliceOf sl vl vu .none) (pl : IsPart vl lo) (pu : IsPart vu hi)
    (h1 : HT.sIx items.size 0 lo = 0) (h2 : HT.sIx items.size items.size hi = items.size) (h : Q (.ref t) s) : wpAny (model prog w) A (getItem (.ref t) (.ref sl)) Q E s := by
  obtain ⟨os, hos, hcs, hds⟩ := id hs
  have hTs : s.TypeIs (.ref sl) "slice" := ⟨os, hos, hcs⟩
  unfold getItem
  try with_reducible refine wpAny_holding ?_
  first | refine wpAny_bind (wpAny_pure ?_) | skip
  refine wpAny_bind (wpAny_sequenceKey ht.typeIs (by decide) ?_)
  refine wpAny_bind (wpAny_callSpecial?_slot (name := Str.ofString "__getitem__") ht.typeIs PyProof.Rows.slot_tuple_getitem
    (wpAny_call_entry PyProof.Rows.slot_tuple_getitem ht.typeIs entry_tuple_getitem ?_ (args_tuple_getitem _ _)))
  show wpAny _ _ (Builtin.Tuple.tupleItemsOf (.ref t) >>= _) _ _ s
  refine wpAny_bind (tupleItemsOf_ ht ?_)
  refine wpAny_bind (wpAny_typeOf hTs ?_)
  rw [if_pos (by decide)]
  refine wpAny_bind (HT.sliceApplied_gen hs pl pu ?_)
  rw [h1, h2]
  have hno : ((((0 : Nat) : Int) == 0 && (1 : Int) == 1 && (items.size - 0) == items.size) = true) := by simp
  show wpAny _ _ (if (((0 : Nat) : Int) == 0 && (1 : Int) == 1 && (items.size - 0) == items.size) = true then _ else _) _ _ s
  rw [if_pos hno]
  unfold Builtin.Tuple.tupleIsExact
  obtain ⟨ot, hot, hct, n, hdt⟩ := id ht
  refine wpAny_bind (wpAny_bind (wpAny_typeOf ht.typeIs (wpAny_pure ?_)))
  rw [if_pos (by decide)]
  refine wpAny_bind (wpAny_rule ?_)
  first
    | exact wpAny_pure ⟨_, rfl, wpAny_pure h⟩
    | (unfold ret; exact wpAny_pure ⟨_, rfl, wpAny_pure h⟩)
theorem sl_whole {X : Cx} : SlR X fun x lo hi H Q => ∃ a xs, x = .ref a ∧ SqT X.K H a xs ∧ HT.sIx xs.length 0 lo = 0 ∧ HT.sIx xs.length xs.length hi = xs.length ∧ Q (.ref a) H := by
  intro pins s σ H x v vl vu lo hi sl Q I rx hs pl pu h
  obtain ⟨a, xs, rfl, hx, h1, h2, q⟩ := h
  cases rx
  obtain ⟨its, r, ht, hz⟩ := I.tuple hx
  have hlen : its.toArray.size = xs.length := by rw [List.size_toArray]; exact r.length.symm
  exact ⟨"tuple", _, PyProof.Rows.slot_tuple_getitem.lookup, ht.typeIs, getItem_whole ht hs pl pu (by rw [hlen]; exact h1) (by rw [hlen]; exact h2) ⟨.ref a, H, I, rfl, q⟩⟩
def rRep1 (K : PySem.W.Frag) : R2 := fun x y H Q => ∃ l xs, x = .ref l ∧ y = .int 1 ∧ SqT K H l xs ∧ Q (.ref l) H
theorem op_rep1 {X : Cx} : OpR X (binaryOp .Mult) (rRep1 X.K) := by
  intro pins s σ H x y v u Q I rx ry h
  obtain ⟨l, xs, rfl, rfl, hT, q⟩ := h
  cases rx
  obtain ⟨t, rfl⟩ := ry
  obtain ⟨its, r, ⟨⟨cls, dd, data, sl⟩, ho, hc, n, hd⟩, hs⟩ := I.tuple hT
  simp only at hc hd
  subst hc hd
  exact wpAny_binaryOp_repeat_ref (T := "tuple") (U := "int") (by decide) ⟨_, ho, rfl⟩ (fun s' => typeIs_int s' 1 t) noFill_tuple_mul F.fills_int_mul F.slot_int_rmul repeat_tuple F.slot_int_index.lookup
    (call_meets F.slot_int_rmul (typeIs_int s 1 t) F.entry_int_rmul (F.args_int_rmul_2 _ _) (int_rmul_tuple 1 t l its.toArray n dd sl)
      ⟨ho, rfl, ⟨_, ho, rfl⟩, call_meets F.slot_tuple_mul ⟨_, ho, rfl⟩ F.entry_tuple_mul (F.args_tuple_mul_2 _ _) (tuple_mulOne l its.toArray n dd sl t) ⟨ho, .ref l, H, I, rfl, q⟩⟩)
/-! ### sum of a tuple; a list unpacked -/
theorem sum_rawT {prog : Program} {w : World} {A : Around} {E : Value → Shared → Prop} {s : Shared} {l : Addr} {its : List Value} {ns : List Int} {Q : Value → Shared → Prop} (hh : A.handled = none) (hl : IsTup s.heap l its.toArray) (hi : IntsAre its ns)
    (h : ∀ h' tk t', (∀ b o, s.heap.get? b = some o → h'.get? b = some o) → Q (.int ns.sum t') { s with heap := h', toks := tk }) : wpAny (model prog w) A (call (.builtin "sum") [.ref l]) Q E s := by
  obtain ⟨xs, e⟩ := hi.allInts.items
  have hn : numsOf (intItems xs).toList = ns := by rw [← e]; exact hi.numsOf
  rw [nums_intItems] at hn
  rw [e] at hl
  have hlt : l < s.heap.objs.size := by obtain ⟨_, q, _⟩ := hl; exact Heap.lt_size q
  refine call_sum_walkG (wpAny_pyIter_tuple (show s.heap.IsTuple l (intItems xs) from hl) ?_)
  refine ⟨_, _, _, _, _, _, numAt xs, rfl, Walks.tuple (A := A.in1) hh _ l (Nat.ne_of_lt hlt) (intItems xs), ⟨⟨_, Heap.get?_push_size _ rfl, rfl, rfl⟩, IsTup.keeps hl fun b o q => Heap.get?_push_of_some _ q⟩, fun b hb => ?_, (fun _ _ => intItems_at), fun h' tk t' hk => ?_⟩
  · show b < (s.heap.push _).objs.size
    rw [Heap.size_push]
    simp only [List.mem_cons, List.not_mem_nil, or_false] at hb
    rcases hb with rfl | rfl
    · exact Nat.lt_succ_self _
    · exact Nat.lt_succ_of_lt hlt
  · have := h h' tk t' fun b o q => hk b o (fun hb => Nat.lt_irrefl _ ((List.mem_singleton.mp hb) ▸ Heap.lt_size q)) (Heap.get?_push_of_some _ q)
    rw [show preSum (numAt xs) (intItems xs).size = ns.sum by
      rw [show (intItems xs).size = xs.size by simp [intItems], preSum_eq, List.take_of_length_le (by simp), hn]]
    exact this
def rSumT (K : PySem.W.Frag) : List V → Hp → VK → Prop := fun vs H Q => ∃ (a : Addr) (ns : List Int), vs = [V.ref a] ∧ SqT K H a (ns.map V.int) ∧ Q (.int ns.sum) H
theorem cr_sumT {X : Cx} (hc : X.calm = true) : CallR X (.builtin "sum") (rSumT X.K) := by
  intro pins s σ H vs us Q I r h
  obtain ⟨a, ns, rfl, hs, q⟩ := h
  obtain ⟨its, rv, hl, _⟩ := I.tuple hs
  rw [Vals.ref1 r]
  exact sum_rawT (I.ok.hd hc) hl rv.ints fun h' tk t' hk => ⟨.int _, H, I.kept hk, ⟨_, rfl⟩, q⟩
end L2
namespace Dh
open PySem PySem.Spec PyProof.Rows L2
def rSlW (K : PySem.W.Frag) : V → Option Int → Option Int → Hp → VK → Prop := fun x lo hi H Q => rSlXX K x lo hi H Q ∨ ∃ a xs, x = .ref a ∧ SqT K H a xs ∧ HT.sIx xs.length 0 lo = 0 ∧ HT.sIx xs.length xs.length hi = xs.length ∧ Q (.ref a) H
theorem slSeqW {X : Cx} {K : PySem.W.Frag} (hK : X.K = K) : SlR X (rSlW K) := hK ▸ SlR.or sl_seq sl_whole
def rRepW (K : PySem.W.Frag) : R2 := fun x y H Q => rRepT K x y H Q ∨ rRep1 K x y H Q
theorem oMulTW {X : Cx} {K : PySem.W.Frag} (hK : X.K = K) : OpR X (binaryOp .Mult) (rRepW K) := hK ▸ fun pins s σ H x y v u Q I rx ry h => h.elim (op_repT pins s σ H x y v u Q I rx ry) (op_rep1 pins s σ H x y v u Q I rx ry)
section
variable {T : List (Addr × Str)} {L A : List HP} {K : PySem.W.Frag} {Q : VK} {a : Addr} {xs : List V} {us : List Nat} {ns : List Int} {n : Nat}
theorem g_slW {lo hi : Option Int} (pk : Pick L (pt a (.tup xs)) A) (k : ∀ p, Go T (pt p (.tup (cutV xs lo hi)) :: L) fun H => Q (.ref p) H) : Go T L fun H => rSlW K (.ref a) lo hi H Q := fun H t s => by
  by_cases h : HT.sIx xs.length 0 lo = 0 ∧ HT.sIx xs.length xs.length hi = xs.length
  · refine .inr ⟨a, xs, rfl, SqT.of (pk.at s), h.1, h.2, ?_⟩
    have e : cutV xs lo hi = xs := by
      unfold cutV
      rw [h.1, h.2, List.drop_zero, Nat.sub_zero, List.take_length]
    have k' := k a
    rw [e] at k'
    exact go_tupMore pk k' H t s
  · exact .inl (g_slT pk h k H t s)
/-- slices of lists by the wider rule -/
theorem g_slWL {x : V} {lo hi : Option Int} (k : Go T L fun H => rSlXX K x lo hi H Q) : Go T L fun H => rSlW K x lo hi H Q := fun H t s => .inl (k H t s)
theorem g_slWm {m : Nat} (pk : Pick L (pt a (.tup (us.map nI))) A) (k : ∀ p, Go T (pt p (.tup (((us.drop m).take (n - m)).map nI)) :: L) fun H => Q (.ref p) H) : Go T L fun H => rSlW K (.ref a) (some (m : Int)) (some (n : Int)) H Q :=
  g_slW pk fun p => by rw [cut_mid, ← List.map_drop, ← List.map_take]; exact k p
theorem g_slWt (pk : Pick L (pt a (.tup (us.map nI))) A) (k : ∀ p, Go T (pt p (.tup ((us.take n).map nI)) :: L) fun H => Q (.ref p) H) : Go T L fun H => rSlW K (.ref a) none (some (n : Int)) H Q :=
  g_slW pk fun p => by rw [cut_take, ← List.map_take]; exact k p
theorem g_repW {u : Nat} (pk : Pick L (pt a (.tup [nI u])) A) (h1 : 1 ≤ n) (h2 : n ≤ 1000) (k : ∀ p, Go T (pt p (.tup ((List.replicate n u).map nI)) :: L) fun H => Q (.ref p) H) : Go T L fun H => rRepW K (.ref a) (.int (n : Int)) H Q := fun H t s => by
  by_cases h : n = 1
  · subst h
    exact .inr ⟨a, _, rfl, rfl, SqT.of (pk.at s), go_tupMore pk (k a) H t s⟩
  · exact .inl (g_repT pk (by omega) h2 k H t s)
end
section
variable {α : Type} {T : List (Addr × Str)} {L L0 A B : List HP} {σ : L2.St} {Q : VK} {K : PySem.W.Frag} {te : TE} {tt : TT} {g : TG} {sl : List Nat} {a : Addr} {us : List α} {f : α → Dt} {vs : List V}
/-- the items that pass, as they are -/
theorem g_lcRowsT (p : α → Bool) (h0 : Ent L L0) (pk : Pick L0 (pt a (.tup vs)) A) (pd : Pick L0 (dvs vs (us.map f)) B)
    (hs : ∀ D (i : Nat) u v, us[i]? = some u → vs[i]? = some v → bAt us p i = p u → vAt vs i = v → i < us.length → Go T (dv v (f u) :: pt D (.lst (((List.range i).filter (bAt us p)).map (vAt vs))) :: L0) (LcTurn T D (IP (bAt us p) (vAt vs) L0) i g tt te sl σ v))
    (hd : ∀ D ws, Go T (pt D (.lst ws) :: dvs ws ((us.filter p).map f) :: L0) fun H => Q (.ref D) H) : Go T L fun H => LcG (Itt K a) g tt te sl σ Q H := by
  refine Go.ent h0 (go_dvsLen pd fun hl => ?_)
  rw [List.length_map] at hl
  have w : L2.Walk (Itt K a) us.length (fun H => SqT K H a vs) (L2.YAt vs) := by rw [← hl]; exact walk_tup
  refine g_lcWp (Pm := fun i x => vs[i]? = some x) w (fun _ _ _ _ h => h) (bAt us p) (vAt vs) ent_refl (fun H s => SqT.of (pk.at s)) (fun D i x hi e => ?_) fun D => ?_
  · have hu : us[i]? = some us[i] := List.getElem?_eq_getElem hi
    have pd2 : Pick (pt D (.lst (((List.range i).filter (bAt us p)).map (vAt vs))) :: L0) (dvs vs (us.map f)) (pt D (.lst (((List.range i).filter (bAt us p)).map (vAt vs))) :: B) := pick_there pd
    refine go_dvsAt pd2 (k := i) (d := f us[i]) (by rw [List.getElem?_map, hu]; rfl) fun v hv => ?_
    rw [e] at hv
    cases hv
    exact hs D i _ _ hu e (bAt_some hu) (vAt_some e) hi
  · have pd2 : Pick (pt D (.lst (((List.range us.length).filter (bAt us p)).map (vAt vs))) :: L0) (dvs vs (us.map f)) (pt D (.lst (((List.range us.length).filter (bAt us p)).map (vAt vs))) :: B) := pick_there pd
    refine go_dvs (vs := ((List.range us.length).filter (bAt us p)).map (vAt vs)) (ds := (us.filter p).map f) (fun H s => ?_) ?_
    · rw [← filt_dt us p f]
      refine dvs_pts _ fun i hi => ?_
      have hi := List.mem_range.mp (List.mem_filter.mp hi).1
      obtain ⟨v, h1, h2⟩ := (pd2.dvs s).at (k := i) (d := f us[i]) (by rw [List.getElem?_map, List.getElem?_eq_getElem hi]; rfl)
      rw [vAt_some h1]
      unfold dAt
      rw [List.getElem?_eq_getElem hi]
      exact h2
    · exact Go.ent (fun H s => s.swap) (hd D _)
end
def rSumW (K : PySem.W.Frag) : List V → Hp → VK → Prop := fun vs H Q => rSum K vs H Q ∨ rSumT K vs H Q
theorem cSumW {X : Cx} {K : PySem.W.Frag} (hK : X.K = K) (hc : X.calm = true) : CallR X (.builtin "sum") (rSumW K) := hK ▸ fun pins s σ H vs us Q I r h => h.elim (cr_sum hc pins s σ H vs us Q I r) (cr_sumT hc pins s σ H vs us Q I r)
theorem pgLst {X : Cx} {K : PySem.W.Frag} {es : List Expr} {k : Nat} {t : TGs} {n : Nat} {pos : Pos} (hK : X.K = K) (hc : X.calm = true) (h : PGs X es t) (hl : (assignEach es X.env).length = n) (hs : (assignEach es X.env).findIdx? (·.1) = none) : PG X (.Tuple es k pos) (gLst K n t) := hK ▸ pg_lst hc h hl hs
section
variable {T : List (Addr × Str)} {L A : List HP} {K : PySem.W.Frag} {Q : VK} {a : Addr} {xs : List V} {us : List Nat} {ns : List Int} {n m : Nat} {σ : L2.St}
theorem g_glst {tg : TGs} {N : L2.St → Hp → Prop} (pk : Pick L (pt a (.lst xs)) A) (h : xs.length = m) (k : Go T L fun H => tg xs σ H N) : Go T L fun H => gLst K m tg (.ref a) σ H N := fun H t s => ⟨a, xs, rfl, SqL.of (pk.at s), h, k H t s⟩
theorem g_sumWl (k : Go T L fun H => rSum K [.ref a] H Q) : Go T L fun H => rSumW K [.ref a] H Q := fun H t s => .inl (k H t s)
theorem g_sumWN (pk : Pick L (pt a (.tup (us.map nI))) A) (k : Go T L fun H => Q (.int ((us.sum : Nat) : Int)) H) : Go T L fun H => rSumW K [.ref a] H Q := fun H t s => by
  rw [map_nI] at pk
  exact .inr ⟨a, cI us, rfl, SqT.of (pk.at s), by rw [sum_cI]; exact k H t s⟩
theorem go_dvP {v : V} {r : Nat × Nat} {G : Hp → Prop} (pk : Pick L (dv v (dP r)) A) (g : ∀ t, v = .ref t → Go T (pt t (.tup [nI r.1, nI r.2]) :: L) G) : Go T L G :=
  fun H tt s => by
    have f : ∃ t, v = .ref t ∧ H t = some (.tup [nI r.1, nI r.2]) := by
      have q := pk.dv s
      cases q with
      | tup e r =>
        cases r with
        | cons e1 r =>
          cases r with
          | cons e2 r =>
            cases r
            cases e1
            cases e2
            exact ⟨_, rfl, e⟩
    obtain ⟨t, e1, e⟩ := f
    exact g t e1 H tt (Seps.tupAt s e)
end
end Dh

/-! The layer Dh, part R: tuple(zip(..)) of two tuples; min of a list of tuples; enumerate of a list or tuple; lists of lists. -/
namespace ZT
open PySem PySem.W PySem.Calls PyProof.Rows PyProof.V PySem.Spec
open PySem.Sem (wp)
set_option maxHeartbeats 4000000
section
variable {prog : Program} {w : World} {A : Around} {E : Value → Shared → Prop} {s : Shared}
theorem nextItemH {z TI TO T i1 i2 l1 l2 : Addr} {f : Bool} {oT : Obj} {k1 k2 : Nat} {xs ys : Array Value} {x y : Value} {Q : Value → Shared → Prop} (D : ZipApart z TI TO i1 i2 l1 l2)
    (hz : IsZipHeld s.heap z TI TO T f) (hT : s.heap.get? T = some oT) (hTI : IsPair s.heap TI (.ref i1) (.ref i2))
    (h1 : s.heap.IsTupleIter i1 l1 k1) (h2 : s.heap.IsTupleIter i2 l2 k2) (hl1 : s.heap.IsTuple l1 xs) (hl2 : s.heap.IsTuple l2 ys) (hx : xs[k1]? = some x) (hy : ys[k2]? = some y)
    (hQ : ∀ h', IsZipHeld h' z TI TO T true → h'.IsTupleIter i1 l1 (k1 + 1) → h'.IsTupleIter i2 l2 (k2 + 1) → IsPair h' s.heap.objs.size x y → h'.objs.size = s.heap.objs.size + 1 →
      (∀ c o, c ≠ z → c ≠ i1 → c ≠ i2 → s.heap.get? c = some o → h'.get? c = some o) → Q (.ref s.heap.objs.size) { s with heap := h' }) :
    wpAny (model prog w) A (Builtin.«zip.__next__» ⟨[.ref z], []⟩) (fun fin s' => ∃ v, fin = .done (.ret v) ∧ Q v s') E s := by
  show wpAny _ _ (field (.ref z) 2 >>= _) _ _ _
  refine wpAny_bind (wpAny_field hz rfl (x := .bool false) rfl ?_)
  show wpAny _ _ (field (.ref z) 3 >>= _) _ _ _
  refine wpAny_bind (wpAny_field hz rfl (x := .ref TI) rfl ?_)
  refine wpAny_bind (wpAny_seqItems hTI rfl ?_)
  show wpAny _ _ (Builtin.SmallTypes.ownedTupleIsFree (.ref z) >>= _) _ _ _
  refine wpAny_bind (wpAny_tupleHeld_zip hz hT fun h₁ hz₁ hs₁ => ?_)
  simp only [Bool.false_eq_true, if_false]
  refine wpAny_bind ?_
  rw [← Array.forIn_toList]
  simp only [List.forIn_cons, List.forIn_nil]
  refine wpAny_bind (wpAny_bind (wpAny_holding ?_))
  show wpAny _ _ (Builtin.SmallTypes.nextOf (.ref i1) >>= _) _ _ _
  refine wpAny_bind (RZ.nextOf_tuple_item (s := { s with heap := h₁ }) (h1.extBut hs₁.extBut D.i1z) (hl1.extBut hs₁.extBut D.l1z) hx fun h₂ h1₂ hs₂ => wpAny_pure ?_)
  refine wpAny_pure ?_
  refine wpAny_bind (wpAny_bind (wpAny_holding ?_))
  show wpAny _ _ (Builtin.SmallTypes.nextOf (.ref i2) >>= _) _ _ _
  refine wpAny_bind (RZ.nextOf_tuple_item (s := { s with heap := h₂ }) ((h2.extBut hs₁.extBut D.i2z).extBut hs₂.extBut D.i12.symm) ((hl2.extBut hs₁.extBut D.l2z).extBut hs₂.extBut D.l2i1) hy fun h₃ h2₃ hs₃ => wpAny_pure ?_)
  refine wpAny_pure (wpAny_pure ?_)
  show wpAny _ _ (newTuple [x, y] >>= _) _ _ _
  refine wpAny_bind (wpAny_newTuple ?_)
  have hsz : h₃.objs.size = s.heap.objs.size := by rw [hs₃.1, hs₂.1, hs₁.1]
  have hz₃ : IsZipHeld h₃ z TI TO T true := hs₃.extBut _ _ D.i2z.symm (hs₂.extBut _ _ D.i1z.symm hz₁)
  have hk : ∀ c o, c ≠ z → c ≠ i1 → c ≠ i2 → s.heap.get? c = some o → h₃.get? c = some o := fun c o c1 c2 c3 e => hs₃.extBut _ _ c3 (hs₂.extBut _ _ c2 (hs₁.extBut _ _ c1 e))
  have h1₃ : h₃.IsTupleIter i1 l1 (k1 + 1) := h1₂.extBut hs₃.extBut D.i12
  refine wpAny_pure ⟨_, rfl, ?_⟩
  show Q (.ref h₃.objs.size) _
  have hp : IsPair (h₃.push { cls := .type "tuple", data := .seq #[x, y] }) h₃.objs.size x y := Heap.get?_push_size _ rfl
  have hz4 : (h₃.push { cls := .type "tuple", data := .seq #[x, y] }).objs.size = h₃.objs.size + 1 := Heap.size_push ..
  rw [hsz] at hp hz4 ⊢
  exact hQ _ (Heap.get?_push_of_some _ hz₃) (h1₃.at fun o e => Heap.get?_push_of_some _ e) (h2₃.at fun o e => Heap.get?_push_of_some _ e) hp hz4 fun c o c1 c2 c3 e => Heap.get?_push_of_some _ (hk c o c1 c2 c3 e)
theorem nextEndH {z TI TO T i1 i2 l1 l2 : Addr} {f : Bool} {oT : Obj} {k1 k2 : Nat} {xs ys : Array Value} {Q : Fin → Shared → Prop} (hh : A.handled = none) (D : ZipApart z TI TO i1 i2 l1 l2)
    (hz : IsZipHeld s.heap z TI TO T f) (hT : s.heap.get? T = some oT) (hTI : IsPair s.heap TI (.ref i1) (.ref i2))
    (h1 : s.heap.IsTupleIter i1 l1 k1) (hl1 : s.heap.IsTuple l1 xs) (hend : xs[k1]? = none)
    (hE : ∀ h' e, (∀ c o, c ≠ z → c ≠ i1 → c ≠ i2 → s.heap.get? c = some o → h'.get? c = some o) → (∃ o, h'.get? e = some o ∧ o.cls = .type "StopIteration") → E (.ref e) { s with heap := h' }) :
    wpAny (model prog w) A (Builtin.«zip.__next__» ⟨[.ref z], []⟩) Q E s := by
  show wpAny _ _ (field (.ref z) 2 >>= _) _ _ _
  refine wpAny_bind (wpAny_field hz rfl (x := .bool false) rfl ?_)
  show wpAny _ _ (field (.ref z) 3 >>= _) _ _ _
  refine wpAny_bind (wpAny_field hz rfl (x := .ref TI) rfl ?_)
  refine wpAny_bind (wpAny_seqItems hTI rfl ?_)
  show wpAny _ _ (Builtin.SmallTypes.ownedTupleIsFree (.ref z) >>= _) _ _ _
  refine wpAny_bind (wpAny_tupleHeld_zip hz hT fun h₁ hz₁ hs₁ => ?_)
  simp only [Bool.false_eq_true, if_false]
  refine wpAny_bind ?_
  rw [← Array.forIn_toList]
  simp only [List.forIn_cons, List.forIn_nil]
  refine wpAny_bind (wpAny_bind (wpAny_holding ?_))
  show wpAny _ _ (Builtin.SmallTypes.nextOf (.ref i1) >>= _) _ _ _
  refine wpAny_bind (RZ.nextOf_tuple_end (s := { s with heap := h₁ }) hh (h1.extBut hs₁.extBut D.i1z) (hl1.extBut hs₁.extBut D.l1z) hend fun h₂ e hs₂ he => ?_)
  exact hE h₂ e (fun c o c1 c2 _ x => hs₂ _ _ c2 (hs₁.extBut _ _ c1 x)) he
theorem pyItemH {z TI TO T i1 i2 l1 l2 : Addr} {f : Bool} {oT : Obj} {k1 k2 : Nat} {xs ys : Array Value} {x y : Value} {Q : Option Value → Shared → Prop} (D : ZipApart z TI TO i1 i2 l1 l2)
    (hz : IsZipHeld s.heap z TI TO T f) (hT : s.heap.get? T = some oT) (hTI : IsPair s.heap TI (.ref i1) (.ref i2))
    (h1 : s.heap.IsTupleIter i1 l1 k1) (h2 : s.heap.IsTupleIter i2 l2 k2) (hl1 : s.heap.IsTuple l1 xs) (hl2 : s.heap.IsTuple l2 ys) (hx : xs[k1]? = some x) (hy : ys[k2]? = some y)
    (hQ : ∀ h', IsZipHeld h' z TI TO T true → h'.IsTupleIter i1 l1 (k1 + 1) → h'.IsTupleIter i2 l2 (k2 + 1) → IsPair h' s.heap.objs.size x y → h'.objs.size = s.heap.objs.size + 1 →
      (∀ c o, c ≠ z → c ≠ i1 → c ≠ i2 → s.heap.get? c = some o → h'.get? c = some o) → Q (some (.ref s.heap.objs.size)) { s with heap := h' }) :
    wpAny (model prog w) A (pyNext (.ref z)) Q E s := by
  have hTy : s.TypeIs (.ref z) "zip" := ⟨_, hz, rfl⟩
  unfold pyNext
  exact wpAny_bind (wpAny_attempt (wpAny_callSpecial?_slot (name := Str.ofString "__next__") hTy PySem.F.slot_zip_next
    (wpAny_call_entry PySem.F.slot_zip_next hTy PySem.F.entry_zip_next
      (nextItemH D hz hT hTI h1 h2 hl1 hl2 hx hy fun h' a1 a3 a4 a5 a6 a7 => wpAny_pure (hQ h' a1 a3 a4 a5 a6 a7)) (PySem.F.args_zip_next_1 _))))
theorem pyEndH {z TI TO T i1 i2 l1 l2 : Addr} {f : Bool} {oT : Obj} {k1 k2 : Nat} {xs ys : Array Value} {Q : Option Value → Shared → Prop} (hh : A.handled = none) (D : ZipApart z TI TO i1 i2 l1 l2)
    (hz : IsZipHeld s.heap z TI TO T f) (hT : s.heap.get? T = some oT) (hTI : IsPair s.heap TI (.ref i1) (.ref i2))
    (h1 : s.heap.IsTupleIter i1 l1 k1) (hl1 : s.heap.IsTuple l1 xs) (hend : xs[k1]? = none)
    (hQ : ∀ h', (∀ c o, c ≠ z → c ≠ i1 → c ≠ i2 → s.heap.get? c = some o → h'.get? c = some o) → Q none { s with heap := h' }) : wpAny (model prog w) A (pyNext (.ref z)) Q E s := by
  have hTy : s.TypeIs (.ref z) "zip" := ⟨_, hz, rfl⟩
  unfold pyNext
  refine wpAny_bind (wpAny_attempt (wpAny_callSpecial?_slot (name := Str.ofString "__next__") hTy PySem.F.slot_zip_next
    (wpAny_call_entry PySem.F.slot_zip_next hTy PySem.F.entry_zip_next (nextEndH (k2 := k2) (ys := #[]) hh D hz hT hTI h1 hl1 hend fun h' e hk he => ?_) (PySem.F.args_zip_next_1 _))))
  obtain ⟨o, ho, hc⟩ := he
  refine wpAny_bind (wpAny_isInstance (T := "StopIteration") (b := true) ⟨o, ho, hc⟩ PySem.isSubtype_stop ?_)
  exact wpAny_pure (hQ _ hk)

/-- the zip behind k turns; its last tuple is out, and not one of av -/
def ZSt (h : Heap) (z TI TO i1 i2 l1 l2 : Addr) (k : Nat) (lo : Addr) : Prop := IsPair h TI (.ref i1) (.ref i2) ∧ h.IsTupleIter i1 l1 k ∧ h.IsTupleIter i2 l2 k ∧
  ((IsZip h z TI TO .none ∧ ∃ a b, IsPair h TO a b) ∨ ∃ T f oT, IsZipHeld h z TI TO T f ∧ h.get? T = some oT ∧ lo < T)
theorem ZSt.zip {h : Heap} {z TI TO i1 i2 l1 l2 : Addr} {k : Nat} {lo : Addr} (st : ZSt h z TI TO i1 i2 l1 l2 k lo) : ∃ o, h.get? z = some o ∧ o.cls = .type "zip" := by
  obtain ⟨_, _, _, ⟨hz, _⟩ | ⟨T, f, oT, hz, _, _⟩⟩ := st
  · exact ⟨_, hz, rfl⟩
  · exact ⟨_, hz, rfl⟩
theorem ZSt.keep {h h' : Heap} {z TI TO i1 i2 l1 l2 S lo : Addr} {k : Nat} (st : ZSt h z TI TO i1 i2 l1 l2 k lo) (up : ∀ b o, b ≠ S → h.get? b = some o → h'.get? b = some o) (a1 : z ≠ S) (a2 : TI ≠ S) (a3 : TO ≠ S) (a4 : i1 ≠ S) (a5 : i2 ≠ S) (a6 : S ≤ lo) :
    ZSt h' z TI TO i1 i2 l1 l2 k lo := by
  obtain ⟨hTI, h1, h2, q⟩ := st
  refine ⟨up _ _ a2 hTI, h1.at fun o e => up _ o a4 e, h2.at fun o e => up _ o a5 e, ?_⟩
  rcases q with ⟨hz, a, b, hTO⟩ | ⟨T, f, oT, hz, hT, hlo⟩
  · exact .inl ⟨up _ _ a1 hz, a, b, up _ _ a3 hTO⟩
  · exact .inr ⟨T, f, oT, up _ _ a1 hz, up _ _ (Nat.ne_of_gt (Nat.lt_of_le_of_lt a6 hlo)) hT, hlo⟩
theorem nxt {z TI TO i1 i2 l1 l2 lo : Addr} {k : Nat} {xs ys : Array Value} {x y : Value} {Q : Option Value → Shared → Prop} (D : ZipApart z TI TO i1 i2 l1 l2) (hst : ZSt s.heap z TI TO i1 i2 l1 l2 k lo)
    (hl1 : s.heap.IsTuple l1 xs) (hl2 : s.heap.IsTuple l2 ys) (hx : xs[k]? = some x) (hy : ys[k]? = some y) (hlo : lo < s.heap.objs.size) (hzl : z ≤ lo) (h1l : i1 ≤ lo) (h2l : i2 ≤ lo)
    (hQ : ∀ h', ZSt h' z TI TO i1 i2 l1 l2 (k + 1) lo → IsPair h' s.heap.objs.size x y → h'.objs.size = s.heap.objs.size + 1 →
      (∀ c o, c ≠ z → c ≠ TO → c ≠ i1 → c ≠ i2 → s.heap.get? c = some o → h'.get? c = some o) → Q (some (.ref s.heap.objs.size)) { s with heap := h' }) :
    wpAny (model prog w) A (pyNext (.ref z)) Q E s := by
  obtain ⟨hTI, h1, h2, ⟨hz, a, b, hTO⟩ | ⟨T, f, oT, hz, hT, hlT⟩⟩ := hst
  · refine RZ.pyNext_zipT_item D hz hTI hTO h1 h2 hl1 hl2 hx hy fun h' z' TO' h1' h2' hT' hsz hk => hQ h' ⟨hk _ _ D.TIz D.TITO D.TIi1 D.TIi2 hTI, h1', h2', .inr ⟨_, false, _, z', hT', hlo⟩⟩ hT' hsz hk
  · refine pyItemH D hz hT hTI h1 h2 hl1 hl2 hx hy fun h' z' h1' h2' hT' hsz hk => hQ h' ⟨hk _ _ D.TIz D.TIi1 D.TIi2 hTI, h1', h2', .inr ⟨T, true, oT, z', hk _ _ (Nat.ne_of_gt (Nat.lt_of_le_of_lt hzl hlT)) (Nat.ne_of_gt (Nat.lt_of_le_of_lt h1l hlT)) (Nat.ne_of_gt (Nat.lt_of_le_of_lt h2l hlT)) hT, hlT⟩⟩ hT' hsz fun c o c1 _ c3 c4 e => hk c o c1 c3 c4 e
theorem fin {z TI TO i1 i2 l1 l2 lo : Addr} {k : Nat} {xs ys : Array Value} {Q : Option Value → Shared → Prop} (hh : A.handled = none) (D : ZipApart z TI TO i1 i2 l1 l2) (hst : ZSt s.heap z TI TO i1 i2 l1 l2 k lo)
    (hl1 : s.heap.IsTuple l1 xs) (hl2 : s.heap.IsTuple l2 ys) (hx : xs[k]? = none)
    (hQ : ∀ h', (∀ c o, c ≠ z → c ≠ TO → c ≠ i1 → c ≠ i2 → s.heap.get? c = some o → h'.get? c = some o) → Q none { s with heap := h' }) :
    wpAny (model prog w) A (pyNext (.ref z)) Q E s := by
  obtain ⟨hTI, h1, h2, ⟨hz, a, b, hTO⟩ | ⟨T, f, oT, hz, hT, hlT⟩⟩ := hst
  · exact RZ.pyNext_zipT_end hh D hz hTI hTO h1 h2 hl1 hl2 (.inl hx) hQ
  · exact pyEndH (k2 := k) (ys := #[]) hh D hz hT hTI h1 hl1 hx fun h' hk => hQ h' fun c o c1 _ c3 c4 e => hk c o c1 c3 c4 e
end
structure Made (xs ys : Array Value) (lo : Addr) (h : Heap) (as : List Addr) : Prop where
  rise : as.Pairwise (· < ·)
  above : ∀ a ∈ as, lo < a
  pairs : ∀ (j : Nat) (a : Addr), as[j]? = some a → ∃ x y, xs[j]? = some x ∧ ys[j]? = some y ∧ IsPair h a x y
theorem Made.there {xs ys : Array Value} {lo : Addr} {h : Heap} {as : List Addr} (g : Made xs ys lo h as) {a : Addr} (ha : a ∈ as) : a < h.objs.size := by
  obtain ⟨j, hj⟩ := List.mem_iff_getElem?.mp ha
  obtain ⟨_, _, _, _, e⟩ := g.pairs j a hj
  exact Heap.lt_size e
theorem Made.low {xs ys : Array Value} {lo lo' : Addr} {h : Heap} {as : List Addr} (g : Made xs ys lo h as) (hl : lo' ≤ lo) : Made xs ys lo' h as := ⟨g.rise, fun a ha => Nat.lt_of_le_of_lt hl (g.above a ha), g.pairs⟩
section
variable {prog : Program} {w : World} {A : Around} {s : Shared} {R : Result → Shared → Prop} {xs ys : Array Value}
theorem loopZ {S z TI TO i1 i2 l1 l2 : Addr} (D : ZipApart z TI TO i1 i2 l1 l2) (hh : A.handled = none) (a1 : z < S) (a2 : TI < S) (a3 : TO < S) (a4 : i1 < S) (a5 : i2 < S) (b1 : l1 ≠ S) (b2 : l2 ≠ S) (hxy : xs.size = ys.size) (hn : xs.size ≤ sizeLine) (res : Value) {h₁ : Heap}
    (hR : ∀ h' tk acc c as, (∀ b o, b ≠ S → b ≠ z → b ≠ TO → b ≠ i1 → b ≠ i2 → h₁.get? b = some o → h'.get? b = some o) → h'.get? S = some { cls := .type "list", dict := none, data := .seq acc c, slots := #[] } → as.length = xs.size → Made xs ys S h' as →
      acc.toList = as.map Value.ref → R (.ok (.ret res)) { s with heap := h', toks := tk }) :
    ∀ (k i : Nat) (h : Heap) (tk c : Nat) (acc : Array Value) (as : List Addr), xs.size - i = k → i ≤ xs.size → ZSt h z TI TO i1 i2 l1 l2 i S → h.IsTuple l1 xs → h.IsTuple l2 ys → (∀ b o, b ≠ S → b ≠ z → b ≠ TO → b ≠ i1 → b ≠ i2 → h₁.get? b = some o → h.get? b = some o) →
      h.get? S = some { cls := .type "list", dict := none, data := .seq acc c, slots := #[] } → acc.toList = as.map Value.ref → as.length = i → Made xs ys S h as →
      codeAny (model prog w) A (.builtin "list.extend.loop" ⟨[.ref S, .ref z, res], []⟩) R { s with heap := h, toks := tk } := by
  intro k
  induction k with
  | zero =>
    intro i h tk c acc as hk hi hst hD1 hD2 hkeep hS hacc hal hG
    refine codeAny_builtin PySem.F.entry_extend_loop ?_
    rw [Around.under_plainId PySem.F.plain_extend_loop _]
    show wpAny _ A.in1 (pyNext (.ref z) >>= _) _ _ _
    have hnone : xs[i]? = none := Array.getElem?_eq_none (by omega)
    refine wpAny_bind (fin (s := { s with heap := h, toks := tk }) (A := A.in1) hh D hst hD1 hD2 hnone fun h' he => ?_)
    have e1 : ∀ b o, S < b → h.get? b = some o → h'.get? b = some o := fun b o hb e => he b o (Nat.ne_of_gt (Nat.lt_trans a1 hb)) (Nat.ne_of_gt (Nat.lt_trans a3 hb)) (Nat.ne_of_gt (Nat.lt_trans a4 hb)) (Nat.ne_of_gt (Nat.lt_trans a5 hb)) e
    refine wpAny_pure (hR h' tk acc c as (fun b o h1 h2 h3 h4 h5 e => he b o h2 h3 h4 h5 (hkeep b o h1 h2 h3 h4 h5 e)) (he S _ (Nat.ne_of_gt a1) (Nat.ne_of_gt a3) (Nat.ne_of_gt a4) (Nat.ne_of_gt a5) hS) (by omega) ⟨hG.rise, hG.above, fun j a hj => ?_⟩ hacc)
    obtain ⟨x, y, e1', e2', e3⟩ := hG.pairs j a hj
    exact ⟨x, y, e1', e2', e1 a _ (hG.above a (List.mem_of_getElem? hj)) e3⟩
  | succ k ih =>
    intro i h tk c acc as hk hi hst hD1 hD2 hkeep hS hacc hal hG
    have hlt : i < xs.size := by omega
    have hsz : acc.size = i := by rw [← Array.length_toList, hacc, List.length_map, hal]
    have hSl : S < h.objs.size := Heap.lt_size hS
    refine codeAny_builtin PySem.F.entry_extend_loop ?_
    rw [Around.under_plainId PySem.F.plain_extend_loop _]
    show wpAny _ A.in1 (pyNext (.ref z) >>= _) _ _ _
    refine wpAny_bind (nxt (s := { s with heap := h, toks := tk }) D hst hD1 hD2 (Array.getElem?_eq_getElem hlt) (Array.getElem?_eq_getElem (by omega)) hSl (Nat.le_of_lt a1) (Nat.le_of_lt a4) (Nat.le_of_lt a5) fun h' hst' ht hz hkp => ?_)
    dsimp only at hst' ht hz hkp ⊢
    have hS' := hkp S _ (Nat.ne_of_gt a1) (Nat.ne_of_gt a3) (Nat.ne_of_gt a4) (Nat.ne_of_gt a5) hS
    have up : ∀ b o, b ≠ S → h'.get? b = some o → (h'.update S (Obj.mapSeq (·.push (Value.ref h.objs.size)))).get? b = some o := fun b o hb e => (Heap.get?_update_other _ _ (Ne.symm hb)).trans e
    have old : ∀ b o, S < b → h.get? b = some o → h'.get? b = some o := fun b o hb e => hkp b o (Nat.ne_of_gt (Nat.lt_trans a1 hb)) (Nat.ne_of_gt (Nat.lt_trans a3 hb)) (Nat.ne_of_gt (Nat.lt_trans a4 hb)) (Nat.ne_of_gt (Nat.lt_trans a5 hb)) e
    show wpAny _ A.in1 (updateSeq S (·.push (Value.ref h.objs.size)) >>= _) _ _ _
    refine wpAny_bind ?_
    refine wpAny_updateSeq hS' rfl (wpAny_pure ⟨plainId_quiet PySem.F.plain_extend_loop _, ih (i + 1) _ tk _ (acc.push (Value.ref h.objs.size)) (as ++ [h.objs.size]) (by omega) hlt
      (hst'.keep up (Nat.ne_of_lt a1) (Nat.ne_of_lt a2) (Nat.ne_of_lt a3) (Nat.ne_of_lt a4) (Nat.ne_of_lt a5) (Nat.le_refl _)) (hD1.at fun o e => up _ o b1 (hkp _ o D.l1z D.l1TO D.l1i1 D.l1i2 e)) (hD2.at fun o e => up _ o b2 (hkp _ o D.l2z D.l2TO D.l2i1 D.l2i2 e))
      (fun b o h1 h2 h3 h4 h5 e => up b o h1 (hkp b o h2 h3 h4 h5 (hkeep b o h1 h2 h3 h4 h5 e))) (Heap.get?_update_self _ hS' rfl) (by rw [Array.toList_push, hacc, List.map_append]; rfl) (by rw [List.length_append, hal]; rfl) ⟨?_, ?_, ?_⟩⟩) (by rw [hsz]; omega) (by show (acc.push (Value.ref h.objs.size)).size ≤ sizeLine + 1; rw [Array.size_push, hsz]; omega)
    · refine List.pairwise_append.mpr ⟨hG.rise, List.pairwise_singleton _ _, fun a ha b hb => ?_⟩
      rw [List.mem_singleton.mp hb]
      exact hG.there ha
    · intro a ha
      rcases List.mem_append.mp ha with ha | ha
      · exact hG.above a ha
      · rw [List.mem_singleton.mp ha]; exact hSl
    · intro j b hj
      rcases Nat.lt_trichotomy j as.length with h1 | h1 | h1
      · rw [List.getElem?_append_left h1] at hj
        obtain ⟨x, y, e1, e2, e3⟩ := hG.pairs j b hj
        have hb := hG.above b (List.mem_of_getElem? hj)
        exact ⟨x, y, e1, e2, up b _ (Nat.ne_of_gt hb) (old b _ hb e3)⟩
      · subst h1
        have hb : h.objs.size = b := by simpa using hj
        subst hb
        subst hal
        exact ⟨_, _, Array.getElem?_eq_getElem hlt, Array.getElem?_eq_getElem (by omega), up _ _ (Nat.ne_of_gt hSl) ht⟩
      · have hnone : (as ++ [h.objs.size])[j]? = none := List.getElem?_eq_none (by rw [List.length_append, List.length_singleton]; omega)
        rw [hnone] at hj; cases hj
end
theorem zip_no_len : typeLookup (.type "zip") "__len__" = pure none := by rw [typeLookup_type, builtinLookup_eq_fast]; kernel_rfl
theorem zip_no_hint : typeLookup (.type "zip") "__length_hint__" = pure none := by rw [typeLookup_type, builtinLookup_eq_fast]; kernel_rfl
section
variable {prog : Program} {w : World} {A : Around} {E : Value → Shared → Prop} {s : Shared} {xs ys : Array Value}
theorem collectZ {R : List Value → Shared → Prop} {z TI TO i1 i2 l1 l2 : Addr} (D : ZipApart z TI TO i1 i2 l1 l2) (hh : A.handled = none) (hz : IsZip s.heap z TI TO .none) (hTI : IsPair s.heap TI (.ref i1) (.ref i2)) (hTO : IsPair s.heap TO .none .none)
    (h1 : s.heap.IsTupleIter i1 l1 0) (h2 : s.heap.IsTupleIter i2 l2 0) (hl1 : s.heap.IsTuple l1 xs) (hl2 : s.heap.IsTuple l2 ys) (hxy : xs.size = ys.size) (hn : xs.size ≤ sizeLine)
    (h : ∀ (h' : Heap) (tk : Nat) (as : List Addr), (∀ b o, b ≠ z → b ≠ TO → b ≠ i1 → b ≠ i2 → s.heap.get? b = some o → h'.get? b = some o) → s.heap.objs.size < h'.objs.size → as.length = xs.size → Made xs ys s.heap.objs.size h' as → R (as.map Value.ref) { s with heap := h', toks := tk }) :
    wpAny (model prog w) A (collect (.ref z)) R E s := by
  have c1 : z < s.heap.objs.size := Heap.lt_size hz
  have c2 : TI < s.heap.objs.size := Heap.lt_size hTI
  have c3 : TO < s.heap.objs.size := Heap.lt_size hTO
  have c4 : i1 < s.heap.objs.size := by obtain ⟨_, e, _⟩ := id h1; exact Heap.lt_size e
  have c5 : i2 < s.heap.objs.size := by obtain ⟨_, e, _⟩ := id h2; exact Heap.lt_size e
  have c6 : l1 < s.heap.objs.size := by obtain ⟨_, e, _⟩ := id hl1; exact Heap.lt_size e
  have c7 : l2 < s.heap.objs.size := by obtain ⟨_, e, _⟩ := id hl2; exact Heap.lt_size e
  unfold collect
  refine wpAny_bind (wpAny_runValue (codeAny_builtin PySem.F.entry_proto_collect ?_))
  rw [Around.under_plainId PySem.F.plain_proto_collect _]
  show wpAny _ A.in1 (newList [] >>= fun l => again (.builtin "list.__iadd__" ⟨[l, .ref z], []⟩)) _ _ s
  refine wpAny_bind (wpAny_newObj_type ?_)
  refine wpAny_pure ⟨plainId_quiet PySem.F.plain_list_iadd _, codeAny_builtin PySem.F.entry_list_iadd ?_⟩
  rw [Around.under_plainId PySem.F.plain_list_iadd _]
  have hS₁ : (s.heap.push { cls := .type "list", data := .seq ([] : List Value).toArray }).get? s.heap.objs.size = some { cls := .type "list", data := .seq #[] } := Heap.get?_push_size _ rfl
  have hT : ({ s with heap := s.heap.push { cls := .type "list", data := .seq ([] : List Value).toArray } } : Shared).TypeIs (.ref z) "zip" := ⟨_, Heap.get?_push_of_some _ hz, rfl⟩
  have g1 : Builtin.List.listSameRef (.ref s.heap.objs.size) (.ref z) = false := by simp [Builtin.List.listSameRef, Nat.ne_of_gt c1]
  show wpAny _ A.in1 (Builtin.List.listExtendWith (.ref s.heap.objs.size) (.ref z) (.ref s.heap.objs.size)) _ _ _
  unfold Builtin.List.listExtendWith
  refine wpAny_bind (wpAny_typeOf hT ?_)
  rw [if_neg (by rw [g1]; decide)]
  refine wpAny_bind (wpAny_pyIter_zip (Heap.get?_push_of_some _ hz) ?_)
  refine wpAny_bind (wpAny_holding ?_)
  unfold Builtin.List.listLengthHint
  refine wpAny_bind (wpAny_specialOf hT zip_no_len ?_)
  show wpAny _ A.in1 (specialOf (Value.ref z) (Str.ofString "__length_hint__") >>= _) _ _ _
  refine wpAny_bind (wpAny_specialOf hT zip_no_hint ?_)
  refine wpAny_pure ?_
  show wpAny _ A.in1 (rule "list.extend.makes-room" >>= fun _ => Builtin.List.listTouch (.ref s.heap.objs.size) >>= fun _ =>
    again (.builtin "list.extend.loop" ⟨[.ref s.heap.objs.size, .ref z, .ref s.heap.objs.size], []⟩)) _ _ _
  refine wpAny_bind (wpAny_rule ?_)
  refine wpAny_bind ?_
  show wpAny _ _ (updateSeq s.heap.objs.size (·.push .none) >>= fun _ => updateSeq s.heap.objs.size (·.pop)) _ _ _
  refine wpAny_bind (wpAny_updateSeq hS₁ rfl ?_)
  have hS₂ := Heap.get?_update_self (Obj.mapSeq (·.push Value.none)) hS₁ rfl
  refine wpAny_updateSeq hS₂ rfl ?_
  have hS₃ := Heap.get?_update_self (Obj.mapSeq (·.pop)) hS₂ rfl
  have oth : ∀ b o, b ≠ s.heap.objs.size → s.heap.get? b = some o →
      (((s.heap.push { cls := .type "list", data := .seq ([] : List Value).toArray }).update s.heap.objs.size (Obj.mapSeq (·.push Value.none))).update s.heap.objs.size (Obj.mapSeq (·.pop))).get? b = some o :=
    fun b o hb e => (Heap.get?_update_other _ _ (Ne.symm hb)).trans ((Heap.get?_update_other _ _ (Ne.symm hb)).trans (Heap.get?_push_of_some _ e))
  refine wpAny_pure ⟨plainId_quiet PySem.F.plain_extend_loop _, loopZ (s := s) (h₁ := s.heap) D hh c1 c2 c3 c4 c5 (Nat.ne_of_lt c6) (Nat.ne_of_lt c7) hxy hn _ (fun h' tk' acc' c' as hk' hS' hl hG hacc => ?_) xs.size 0 _ _ _ #[] [] (Nat.sub_zero _) (Nat.zero_le _)
    ⟨oth _ _ (Nat.ne_of_lt c2) hTI, h1.at fun o e => oth _ o (Nat.ne_of_lt c4) e, h2.at fun o e => oth _ o (Nat.ne_of_lt c5) e, .inl ⟨oth _ _ (Nat.ne_of_lt c1) hz, _, _, oth _ _ (Nat.ne_of_lt c3) hTO⟩⟩
    (hl1.at fun o e => oth _ o (Nat.ne_of_lt c6) e) (hl2.at fun o e => oth _ o (Nat.ne_of_lt c7) e) (fun b o hb _ _ _ _ e => oth b o hb e) hS₃ rfl rfl ⟨List.Pairwise.nil, (fun _ ha => nomatch ha), (fun j a hj => by simp at hj)⟩⟩
  show wpAny _ A (load s.heap.objs.size >>= _) _ _ _
  refine wpAny_bind (wpAny_load hS' ?_)
  refine wpAny_pure ?_
  show R acc'.toList _
  rw [hacc]
  exact h h' tk' as (fun b o h1 h2 h3 h4 e => hk' b o (Nat.ne_of_lt (Heap.lt_size e)) h1 h2 h3 h4 e) (Heap.lt_size hS') hl hG
theorem codeZ {z TI TO i1 i2 l1 l2 : Addr} {Q₁ : Value → Shared → Prop} (D : ZipApart z TI TO i1 i2 l1 l2) (hh : A.handled = none) (hz : IsZip s.heap z TI TO .none) (hTI : IsPair s.heap TI (.ref i1) (.ref i2)) (hTO : IsPair s.heap TO .none .none)
    (h1 : s.heap.IsTupleIter i1 l1 0) (h2 : s.heap.IsTupleIter i2 l2 0) (hl1 : s.heap.IsTuple l1 xs) (hl2 : s.heap.IsTuple l2 ys) (hxy : xs.size = ys.size) (hn : xs.size ≤ sizeLine)
    (h : ∀ (h' : Heap) (tk : Nat) (as : List Addr), (∀ b o, b ≠ z → b ≠ TO → b ≠ i1 → b ≠ i2 → s.heap.get? b = some o → h'.get? b = some o) → s.heap.objs.size < h'.objs.size → as.length = xs.size → Made xs ys s.heap.objs.size h' as →
      Q₁ (.ref h'.objs.size) { s with heap := h'.push { cls := .type "tuple", data := .seq (as.map Value.ref).toArray }, toks := tk }) :
    codeAny (model prog w) A (.call (.builtin "tuple.__new__") ⟨[.type "tuple", .ref z], []⟩) (wants Q₁ E) s := by
  refine codeAny_of_tree ?_
  show wpAny _ A.in1 (do checkBuiltinCall "tuple.__new__" ⟨[.type "tuple", .ref z], []⟩; again (.builtin "tuple.__new__" ⟨[.type "tuple", .ref z], []⟩)) _ _ s
  refine wpAny_bind (wpAny_of_eq (PySem.F.newCall_tuple_1 _) (wpAny_pure ⟨plainId_quiet PySem.F.plain_tuple_new _, codeAny_builtin PySem.F.entry_tuple_new ?_⟩))
  rw [Around.under_plainId PySem.F.plain_tuple_new _]
  have hsub := sub_tuple_self
  have hinit := init_tuple_lookup
  have hmh := madeHere_tuple
  have hTI' : s.TypeIs (.ref z) "zip" := ⟨_, hz, rfl⟩
  have hh1 : A.in1.handled = none := hh
  wp_walk using wpAny_typeOf hTI', collectZ (A := A.in1) D hh1 hz hTI hTO h1 h2 hl1 hl2 hxy hn
  intro h' tk as hk hlt hl hG
  show wpAny _ _ (Builtin.Tuple.tupleExact (as.map Value.ref).toArray >>= fun v => ret v) _ _ _
  unfold Builtin.Tuple.tupleExact
  refine wpAny_bind (wpAny_newObj_type ?_ (by show (as.map Value.ref).toArray.size ≤ sizeLine; rw [List.size_toArray, List.length_map, hl]; exact hn))
  refine wpAny_pure ?_
  exact h h' tk as hk hlt hl hG
theorem callZ {z TI TO i1 i2 l1 l2 : Addr} {Q : Value → Shared → Prop} (D : ZipApart z TI TO i1 i2 l1 l2) (hh : A.handled = none) (hz : IsZip s.heap z TI TO .none) (hTI : IsPair s.heap TI (.ref i1) (.ref i2)) (hTO : IsPair s.heap TO .none .none)
    (h1 : s.heap.IsTupleIter i1 l1 0) (h2 : s.heap.IsTupleIter i2 l2 0) (hl1 : s.heap.IsTuple l1 xs) (hl2 : s.heap.IsTuple l2 ys) (hxy : xs.size = ys.size) (hn : xs.size ≤ sizeLine)
    (hQ : ∀ (h' : Heap) (tk : Nat) (as : List Addr), (∀ b o, b ≠ z → b ≠ TO → b ≠ i1 → b ≠ i2 → s.heap.get? b = some o → h'.get? b = some o) → s.heap.objs.size < h'.objs.size → as.length = xs.size → Made xs ys s.heap.objs.size h' as →
      Q (.ref h'.objs.size) { s with heap := h'.push { cls := .type "tuple", data := .seq (as.map Value.ref).toArray }, toks := tk }) :
    wpAny (model prog w) A (call (.type "tuple") [.ref z]) Q E s := by
  refine callType_codes (Q₁ := fun obj s₁ => s₁.TypeIs obj "tuple" ∧ Q obj s₁) PySem.F.called_tuple (PySem.F.typeCall_tuple_1 _) PySem.F.entry_object_init
    (codeZ (A := A.in1) D hh hz hTI hTO h1 h2 hl1 hl2 hxy hn fun h' tk as hk hlt hl hG => ⟨⟨_, Heap.get?_push_size _ rfl, rfl⟩, hQ h' tk as hk hlt hl hG⟩) fun obj s₁ h₁ => ?_
  exact ⟨h₁.1, PySem.F.args_object_init_2 obj _, object_init_meets PySem.F.called_tuple.init.lookup PySem.F.called_tuple.made (by decide) prog w A.in1 _ s₁ ⟨h₁.1, rfl, h₁.2⟩⟩
end
end ZT
namespace L2
open PySem PySem.Spec PyProof.Rows
set_option maxHeartbeats 4000000
def lTupZip (K : PySem.W.Frag) (Q : VK) (vs : List V) (H1 : Hp) : Prop := ∃ (a b : Addr) (xs ys : List V), vs = [.ref a, .ref b] ∧ SqT K H1 a xs ∧ SqT K H1 b ys ∧ xs.length = ys.length ∧
  ∀ (H2 : Hp) (as : List Addr) (p : Addr), (∀ b o, H1 b = some o → H2 b = some o) → as.length = xs.length → (∀ (j : Nat) c x y, as[j]? = some c → xs[j]? = some x → ys[j]? = some y → H2 c = some (.tup [x, y])) → H2 p = some (.tup (as.map V.ref)) → Q (.ref p) H2
def tTupZip (K : PySem.W.Frag) (ta : TA) : TE := fun σ H Q => ta σ H (lTupZip K Q)
section
variable {X : Cx}
theorem pe_tupZip {e e2 : Expr} {ta : TA} {p p2 pos pos2 : Pos} (hc : X.calm = true) (hg : Gl X "tuple") (hm : X.mg "tuple" = none) (hg2 : Gl X "zip") (hm2 : X.mg "zip" = none) (ha : PA X [e, e2] ta)
    (hs : starEach [e, e2] X.env = (false, eval e X.env) :: starEach [e2] X.env := by rfl) (hpl : (backTo pos2 (starEach [e2] X.env)).any (·.1) = false := by rfl)
    (hs2 : starEach [.Call (.Name "zip" p2) [e, e2] [] pos2] X.env = (false, eval (.Call (.Name "zip" p2) [e, e2] [] pos2) X.env) :: starEach [] X.env := by rfl) :
    PE X (.Call (.Name "tuple" p) [.Call (.Name "zip" p2) [e, e2] [] pos2] [] pos) (tTupZip X.K ta) := by
  refine ⟨fun pins s σ H Q I h => ?_⟩
  refine Call_ (ld_blt I hg hm boot_tuple (PyProof.Rows.callWith_type1 (args_cons (Call_ (ld_blt I hg2 hm2 PyProof.Rows.boot_zip (PyProof.Rows.callWith_type1 (thn (ha.run pos2 pins s σ H _ I h) fun us s1 ⟨vs, H1, I1, r1, q1⟩ => ?_) hs hpl))) hs2) hs2 rfl))
  obtain ⟨a, b, xs, ys, ex, hqx, hqy, hlen, q1⟩ := q1
  subst ex
  cases r1 with
  | cons r rr =>
    cases rr with
    | cons r' rr =>
      cases rr
      cases r
      cases r'
      obtain ⟨its, rv, p1, hz1⟩ := I1.tuple hqx
      obtain ⟨its2, rv2, p2', _⟩ := I1.tuple hqy
      obtain ⟨o1, ho1, _⟩ := id p1
      obtain ⟨o2, ho2, _⟩ := id p2'
      have l1 := rv.length
      have l2 := rv2.length
      refine RZ.call_zipT (show s1.heap.IsTuple a its.toArray from p1) (show s1.heap.IsTuple b its2.toArray from p2') fun h' hz hTI hTO h1 h2 hsz hk => args_nil ?_
      have I2 : Inv X pins σ H1 { s1 with heap := h' } := I1.kept (t' := s1.toks) hk
      have hnew : ∀ c, s1.heap.objs.size ≤ c → H1 c = none := fun c hle => I1.hok.fresh hle
      have fresh4 : ∀ c, c ∈ [s1.heap.objs.size + 4, s1.heap.objs.size + 3, s1.heap.objs.size, s1.heap.objs.size + 1] → FpOk X pins H1 c := fun c hcm => by
        have e' : c = s1.heap.objs.size + 4 ∨ c = s1.heap.objs.size + 3 ∨ c = s1.heap.objs.size ∨ c = s1.heap.objs.size + 1 := by simpa using hcm
        have hle : s1.heap.objs.size ≤ c := by
          rcases e' with z | z | z | z
          · rw [z]; exact Nat.le_add_right _ _
          · rw [z]; exact Nat.le_add_right _ _
          · rw [z]; exact Nat.le_refl _
          · rw [z]; exact Nat.le_add_right _ _
        exact I1.fpOk hle (I1.hok.fresh hle)
      refine ZT.callZ (s := { s1 with heap := h' }) (PySem.W.ktu_apart s1.heap.objs.size a b (Heap.lt_size ho1) (Heap.lt_size ho2)) (I1.ok.hd hc) hz hTI hTO h1 h2 ((show s1.heap.IsTuple a its.toArray from p1).at fun o q => hk _ o q) ((show s1.heap.IsTuple b its2.toArray from p2').at fun o q => hk _ o q) (by simp; omega) (by rw [List.size_toArray]; omega) fun hF tk as hkF hlt hal hG => ?_
      dsimp only at hkF hlt hal hG ⊢
      have hal2 : as.length = xs.length := by rw [hal, List.size_toArray]; omega
      have I3 : Inv X pins σ H1 { s1 with heap := hF, toks := tk } := Inv.turnedL (s := { s1 with heap := h' }) (h' := hF) (t' := tk) (ch := [s1.heap.objs.size + 4, s1.heap.objs.size + 3, s1.heap.objs.size, s1.heap.objs.size + 1]) I2 (fun c o hb q => hkF c o (fun z => hb (by simp [z])) (fun z => hb (by simp [z])) (fun z => hb (by simp [z])) (fun z => hb (by simp [z])) q) fresh4
      have I4 : Inv X pins σ (upd H1 hF.objs.size (.tup (as.map V.ref))) { s1 with heap := hF.push { cls := .type "tuple", data := .seq (as.map Value.ref).toArray }, toks := tk } :=
        I3.laid (t' := tk) (fun c o e => Heap.get?_push_of_some _ e) (Nat.le_refl _) (show ObjOk X.prog X.w _ _ _ (.tup (as.map V.ref)) from ⟨by rw [List.length_map, hal2]; omega, as.map Value.ref, vals_maps V.ref Value.ref as fun _ _ => rfl, IsTup.new _ _⟩)
      have nd : as.Nodup := List.Pairwise.imp (fun h => Nat.ne_of_lt h) hG.rise
      have hbase : ∀ c ∈ as, s1.heap.objs.size ≤ c := fun c hc' => Nat.le_of_lt (Nat.lt_of_le_of_lt (by rw [hsz]; exact Nat.le_add_right _ _) (hG.above c hc'))
      obtain ⟨H2, I5, gr, qt⟩ := DX.takeT (P := fun c vs => ∃ (j : Nat) (x y : V), as[j]? = some c ∧ xs[j]? = some x ∧ ys[j]? = some y ∧ vs = [x, y]) I1 as _ I4 nd fun c hcm => by
        obtain ⟨j, hj⟩ := List.mem_iff_getElem?.mp hcm
        obtain ⟨u, u2, hu, hu2, hp⟩ := hG.pairs j c hj
        have hjx : j < xs.length := by rw [← hal2]; exact (List.getElem?_eq_some_iff.mp hj).1
        obtain ⟨v1, hv1, rv1⟩ := rv.get (List.getElem?_eq_getElem hjx)
        obtain ⟨v2, hv2, rv2'⟩ := rv2.get (List.getElem?_eq_getElem (show j < ys.length by omega))
        have e1 : v1 = u := by
          have z : its[j]? = some u := by simpa using hu
          rw [hv1] at z
          exact Option.some.inj z
        have e2 : v2 = u2 := by
          have z : its2[j]? = some u2 := by simpa using hu2
          rw [hv2] at z
          exact Option.some.inj z
        subst e1
        subst e2
        refine ⟨hbase c hcm, ?_, [xs[j], ys[j]], ⟨j, _, _, hj, List.getElem?_eq_getElem hjx, List.getElem?_eq_getElem (by omega), rfl⟩, fun H3 => ⟨(by rw [sizeLine_eq]; show 2 ≤ 16777216; omega), [v1, v2], .cons rv1 (.cons rv2' .nil), ⟨_, Heap.get?_push_of_some _ hp, rfl, 0, rfl⟩⟩⟩
        rw [upd_ne (Nat.ne_of_lt (Heap.lt_size hp))]
        exact hnew c (hbase c hcm)
      have hp0 : H1 hF.objs.size = none := hnew _ (Nat.le_of_lt (Nat.lt_of_le_of_lt (by rw [hsz]; exact Nat.le_add_right _ _) hlt))
      refine ⟨.ref hF.objs.size, H2, I5, rfl, q1 H2 as hF.objs.size (fun c o e => gr c o (by rw [upd_ne (ne_of_none e hp0)]; exact e)) hal2 (fun j c x y hj hx hy => ?_) (gr _ _ upd_same)⟩
      obtain ⟨vs, ⟨j2, x2, y2, j1, hx2, hy2, ev⟩, hH⟩ := qt c (List.mem_of_getElem? hj)
      have eij : j = j2 := (List.getElem?_inj (List.getElem?_eq_some_iff.mp hj).1 nd).mp (hj.trans j1.symm)
      subst eij
      rw [hx] at hx2
      rw [hy] at hy2
      cases hx2
      cases hy2
      rw [ev] at hH
      exact hH
end
end L2
namespace Dh
open PySem PySem.Spec PyProof.Rows L2
section
variable {T : List (Addr × Str)} {L A B : List HP} {σ : L2.St} {Q : VK} {K : PySem.W.Frag} {a b p : Addr} {us ws : List Nat}
theorem peTupZip {X : Cx} {e e2 : Expr} {ta : TA} {p p2 pos pos2 : Pos} (hK : X.K = K) (hc : X.calm = true) (hg : Gl X "tuple") (hm : X.mg "tuple" = none) (hg2 : Gl X "zip") (hm2 : X.mg "zip" = none) (ha : PA X [e, e2] ta)
    (hs : starEach [e, e2] X.env = (false, eval e X.env) :: starEach [e2] X.env := by rfl) (hpl : (backTo pos2 (starEach [e2] X.env)).any (·.1) = false := by rfl)
    (hs2 : starEach [.Call (.Name "zip" p2) [e, e2] [] pos2] X.env = (false, eval (.Call (.Name "zip" p2) [e, e2] [] pos2) X.env) :: starEach [] X.env := by rfl) :
    PE X (.Call (.Name "tuple" p) [.Call (.Name "zip" p2) [e, e2] [] pos2] [] pos) (tTupZip K ta) := hK ▸ pe_tupZip hc hg hm hg2 hm2 ha hs hpl hs2
theorem g_tupZipE {ta : TA} (k : Go T L fun H => ta σ H (lTupZip K Q)) : Go T L fun H => tTupZip K ta σ H Q := k
theorem tabs_ext {H H' : Hp} (t : LamX.Tabs T H) (e : ∀ b o, H b = some o → H' b = some o) : LamX.Tabs T H' := fun p hp => (t p hp).ext e
theorem g_tupZip (p1 : Pick L (pt a (.tup (us.map nI))) A) (p2 : Pick L (pt b (.tup (ws.map nI))) B) (hl : us.length = ws.length)
    (k : ∀ p vs, Go T (pt p (.tup vs) :: dvs vs ((us.zip ws).map dP) :: L) fun H => Q (.ref p) H) : Go T L fun H => lTupZip K Q [.ref a, .ref b] H := fun H t s => by
  refine ⟨a, b, _, _, rfl, SqT.of (p1.at s), SqT.of (p2.at s), by rw [List.length_map, List.length_map, hl], fun H2 as p hg hal hat hp => ?_⟩
  rw [List.length_map] at hal
  have hd : ∀ (as : List Addr) (us ws : List Nat), as.length = us.length → us.length = ws.length → (∀ (j : Nat) c x y, as[j]? = some c → (us.map nI)[j]? = some x → (ws.map nI)[j]? = some y → H2 c = some (.tup [x, y])) → DVs H2 (as.map V.ref) ((us.zip ws).map dP) := by
    intro as
    induction as with
    | nil => intro us ws h1 h2 _; cases us <;> first | exact .nil | cases h1
    | cons c as ih =>
      intro us ws h1 h2 h3
      cases us with
      | nil => cases h1
      | cons u us =>
        cases ws with
        | nil => cases h2
        | cons w ws =>
          refine .cons (.tup (h3 0 c _ _ rfl rfl rfl) (.cons .int (.cons .int .nil))) (ih us ws (by simpa using h1) (by simpa using h2) fun j c' x y e1 e2 e3 => h3 (j + 1) c' x y (by simpa using e1) (by simpa using e2) (by simpa using e3))
  have s2 : Seps L H2 := s.mono fun c o e _ => hg c o e
  have t2 := tabs_ext t hg
  have e1 : DV H2 (.ref p) (.tup ((us.zip ws).map dP)) := .tup hp (hd as us ws hal hl hat)
  have s3 : Seps (dvs (as.map V.ref) ((us.zip ws).map dP) :: L) H2 := s2.more (tupsOf H2) (fun a o q => (tupsOf_some q).1) (fun a o q => (tupsOf_some q).2) ((hd as us ws hal hl hat).mono fun a xs q => tupsOf_at q)
  have s4 : Seps (pt p (.tup (as.map V.ref)) :: dvs (as.map V.ref) ((us.zip ws).map dP) :: L) H2 := s3.more (tupsOf H2) (fun a o q => (tupsOf_some q).1) (fun a o q => (tupsOf_some q).2) (tupsOf_at hp)
  exact k p _ H2 t2 s4
end
end Dh

namespace L2
open PySem PySem.Spec PyProof.Rows
set_option maxHeartbeats 4000000
def rMinD (K : PySem.W.Frag) : List V → Hp → VK → Prop := fun vs H Q => ∃ (a : Addr) (xs : List V) (d : PyData) (ds : List PyData), vs = [V.ref a] ∧ SqL K H a xs ∧ DpAll K H xs (d :: ds) ∧ PySem.W.AlikeAll (d :: ds) ∧ PyData.depthAll (d :: ds) ≤ 60 ∧
  ∀ (i : Nat) (v : V), xs[i]? = some v → (d :: ds).getD i .none = PySem.W.minD d ds → i < (d :: ds).length → Q v H
section
variable {X : Cx}
open PySem PySem.W in
theorem cr_minD (hc : X.calm = true) (hu : X.A.units + 70 < cLine) : CallR X (.builtin "min") (rMinD X.K) := by
  intro pins s σ H vs us Q I r h
  obtain ⟨a, xs, d, ds, rfl, hs, hd, ha, hdep, q⟩ := h
  obtain ⟨its, rv, hl, _⟩ := I.list hs
  rw [Vals.ref1 r]
  obtain ⟨as, hr⟩ := Dp.readsAll I (d :: ds) xs its hd rv
  have hr' : ReadsAll s.heap its.toArray.toList (d :: ds) as := by simpa using hr
  have hn : its.toArray.size = ds.length + 1 := readsAll_len hr'
  refine call_min_walkH (iter_listW (A := X.A.in1) (I.ok.hd hc) hl.isList fun s₂ e W st hfp hw hk => ?_)
  refine ⟨_, _, _, _, _, _, _, s.heap, _, rfl, W, st, hfp, by omega, hw, hk, cmpIn_lt (A := X.A.in1) hr' ha (by show X.A.units + 1 + _ < _; omega), fun v s' hP m => ?_⟩
  obtain ⟨h', tk, rfl, hk'⟩ := moved_old e rfl m
  have e1 : its.toArray.size - 1 = ds.length := by omega
  have e2 := argBest_fold dataLt PyData.none d ds ds.length (Nat.le_refl _)
  rw [List.take_length] at e2
  rw [e1] at hP
  have hP' : its[argBest (fun i j => dataLt ((d :: ds).getD i .none) ((d :: ds).getD j .none)) ds.length]? = some v := by simpa using hP
  have hlen := rv.length
  have hlt : argBest (fun i j => dataLt ((d :: ds).getD i .none) ((d :: ds).getD j .none)) ds.length < xs.length := by
    have := (List.getElem?_eq_some_iff.mp hP').1
    omega
  obtain ⟨v1, hv1, rv1⟩ := rv.get (List.getElem?_eq_getElem hlt)
  rw [hP'] at hv1
  cases hv1
  exact ⟨_, H, I.kept (t' := tk) hk', rv1, q _ _ (List.getElem?_eq_getElem hlt) e2.2 (by rw [List.length_cons]; exact Nat.lt_succ_of_le e2.1)⟩
end
end L2
namespace Dh
open PySem PySem.Spec PyProof.Rows L2
section
variable {X : Cx} {K : PySem.W.Frag}
theorem cMinD (hK : X.K = K) (hc : X.calm = true) (hu : X.A.units + 70 < cLine) : CallR X (.builtin "min") (rMinD K) := hK ▸ cr_minD hc hu
end
/-- a row of numbers, as data -/
abbrev tN (u : List Nat) : Dt := .tup (u.map fun k : Nat => .int (k : Int))
/-- the order of rows -/
def lxN : List Nat → List Nat → Bool
  | [], [] => false
  | [], _ :: _ => true
  | _ :: _, [] => false
  | x :: r, y :: t => if x = y then lxN r t else decide (x < y)
theorem pys_tN : ∀ u : List Nat, Dt.pys (u.map fun k : Nat => .int (k : Int)) = u.map fun k : Nat => PyData.int (k : Int)
  | [] => by simp [Dt.pys]
  | u :: us => by simp [Dt.pys, Dt.py, pys_tN us]
theorem lexAll_N : ∀ u w : List Nat, PyProof.Rows.lexLt itemOrd (PySem.W.keyToksAll (u.map fun k : Nat => PyData.int (k : Int))) (PySem.W.keyToksAll (w.map fun k : Nat => PyData.int (k : Int))) = lxN u w
  | [], [] => rfl
  | [], w :: ws => rfl
  | u :: us, [] => rfl
  | u :: us, w :: ws => by
    have ih := lexAll_N us ws
    simp only [List.map_cons, PySem.W.keyToksAll, PySem.W.keyToks, List.cons_append, List.nil_append, lxN]
    rw [PyProof.Rows.lex_self (O := itemOrd)]
    by_cases e : u = w
    · subst e
      rw [if_pos rfl, PyProof.Rows.lex_self (O := itemOrd), ih]
    · rw [if_neg e]
      refine (PyProof.Rows.lex_diff (O := itemOrd) (show (Sum.inl (u : Int) : Int ⊕ List Nat) ≠ Sum.inl (w : Int) from fun z => e (by injection z with z; omega))).trans ?_
      show decide ((u : Int) < (w : Int)) = decide (u < w)
      rw [decide_eq_decide]
      omega
theorem lt_tN (u w : List Nat) : PySem.W.dataLt (tN u).py (tN w).py = lxN u w := by
  unfold PySem.W.dataLt
  simp only [Dt.py, PySem.W.keyToks, pys_tN]
  exact lexAll_N u w
theorem alk_tN : ∀ u w : List Nat, PySem.W.alikeAll (u.map fun k : Nat => PyData.int (k : Int)) (w.map fun k : Nat => PyData.int (k : Int)) = true
  | [], _ => by simp [PySem.W.alikeAll]
  | _ :: _, [] => by simp [PySem.W.alikeAll]
  | u :: us, w :: ws => by simp [PySem.W.alikeAll, PySem.W.alike, alk_tN us ws]
/-- the first of the least -/
def minR (x : List Nat) (xs : List (List Nat)) : List Nat := xs.foldl (fun a y => if lxN y a = true then y else a) x
theorem minD_tN : ∀ (xs : List (List Nat)) (x : List Nat), PySem.W.minD (tN x).py (xs.map fun u => (tN u).py) = (tN (minR x xs)).py
  | [], x => rfl
  | y :: xs, x => by
    have ih := minD_tN xs (if lxN y x = true then y else x)
    have e : minR x (y :: xs) = minR (if lxN y x = true then y else x) xs := rfl
    rw [e, ← ih]
    unfold PySem.W.minD
    rw [List.map_cons, List.foldl_cons, lt_tN]
    congr 1
    split <;> rfl
theorem pys_map {α : Type} (f : α → Dt) : ∀ us : List α, Dt.pys (us.map f) = us.map fun u => (f u).py
  | [] => by simp [Dt.pys]
  | u :: us => by simp [Dt.pys, pys_map f us]
theorem dep_tN (u : List Nat) : (tN u).dep ≤ 1 := by
  simp only [Dt.dep]
  have := deps_map (f := fun k : Nat => Dt.int (k : Int)) (m := 0) (fun _ => Nat.le_refl _) u
  omega
theorem tN_inj {u w : List Nat} (h : (tN u).py = (tN w).py) : u = w := by
  simp only [Dt.py, pys_tN] at h
  injection h with h
  have hj : ∀ us ws : List Nat, (us.map fun k : Nat => PyData.int (k : Int)) = (ws.map fun k : Nat => PyData.int (k : Int)) → us = ws := by
    intro us
    induction us with
    | nil => intro ws e; cases ws <;> first | rfl | (simp at e)
    | cons u us ih =>
      intro ws e
      cases ws with
      | nil => simp at e
      | cons w ws =>
        rw [List.map_cons, List.map_cons] at e
        injection e with e1 e2
        injection e1 with e1
        rw [ih ws e2, show u = w by omega]
  exact hj _ _ h
section
variable {T : List (Addr × Str)} {L A B C D E F : List HP} {σ : L2.St} {Q : VK} {K : PySem.W.Frag} {a b p a1 a2 b1 b2 : Addr} {xs vs : List V} {us ws us1 us2 ws1 ws2 : List Nat}
theorem g_minR {u : List Nat} {us : List (List Nat)} (pk : Pick L (pt a (.lst vs)) A) (pd : Pick L (dvs vs ((u :: us).map tN)) B)
    (k : ∀ v, Go T (dv v (tN (minR u us)) :: L) fun H => Q v H) : Go T L fun H => rMinD K [.ref a] H Q := fun H t s => by
  have q := pd.dvs s
  have hp := DVs.dp (K := K) q
  rw [pys_map] at hp
  have hdep : PyData.depthAll ((u :: us).map fun u => (tN u).py) ≤ 60 := by
    have h1 := dep_dts ((u :: us).map tN)
    rw [pys_map] at h1
    rw [h1]
    exact Nat.le_trans (deps_map dep_tN _) (by decide)
  refine ⟨a, vs, (tN u).py, us.map fun u => (tN u).py, rfl, SqL.of (pk.at s), hp, ⟨fun x hx y hy => ?_, fun x hx => ?_⟩, hdep, fun i v hv hi hlt => ?_⟩
  · obtain ⟨u1, _, rfl⟩ := List.mem_map.mp (show x ∈ (u :: us).map fun u => (tN u).py from hx)
    obtain ⟨u2, _, rfl⟩ := List.mem_map.mp (show y ∈ (u :: us).map fun u => (tN u).py from hy)
    simp only [Dt.py, PySem.W.alike, pys_tN]
    exact alk_tN _ _
  · obtain ⟨u1, _, rfl⟩ := List.mem_map.mp (show x ∈ (u :: us).map fun u => (tN u).py from hx)
    simp only [Dt.py]
    exact fun z => nomatch z
  · rw [minD_tN] at hi
    have hlt2 : i < (u :: us).length := by simpa using hlt
    have e1 : (u :: us)[i]? = some (u :: us)[i] := List.getElem?_eq_getElem hlt2
    have e2 : ((u :: us).map fun u => (tN u).py)[i]? = some (tN (u :: us)[i]).py := by rw [List.getElem?_map, e1]; rfl
    have e3 : (tN (u :: us)[i]).py = (tN (minR u us)).py := by
      rw [← hi]
      show _ = ((u :: us).map fun u => (tN u).py).getD i .none
      rw [List.getD_eq_getElem?_getD, e2]
      rfl
    have e4 : (u :: us)[i] = minR u us := tN_inj e3
    refine k v H t (ent_dv (fun H s => ?_) ent_refl H s)
    obtain ⟨w, h1, h2⟩ := (pd.dvs s).at (k := i) (d := tN (u :: us)[i]) (by rw [List.getElem?_map, e1]; rfl)
    rw [hv] at h1
    cases h1
    rw [← e4]
    exact h2
/-! ### lists of two lists -/
theorem dp_N {H : Hp} (pk : Pick L (pt a (.lst (us.map nI))) A) (s : Seps L H) : Dp K H (.ref a) (.list (dIs (cI us))) := by
  rw [map_nI] at pk
  exact dp_lst pk s
theorem g_neN2 (p1 : Pick L (pt a (.lst [.ref a1, .ref a2])) A) (p2 : Pick L (pt b (.lst [.ref b1, .ref b2])) B) (q1 : Pick L (pt a1 (.lst (us1.map nI))) C) (q2 : Pick L (pt a2 (.lst (us2.map nI))) D) (q3 : Pick L (pt b1 (.lst (ws1.map nI))) E) (q4 : Pick L (pt b2 (.lst (ws2.map nI))) F)
    (k : Go T L fun H => Q (.bl (!(decide (us1 = ws1) && decide (us2 = ws2)))) H) : Go T L fun H => rNeX K (.ref a) (.ref b) H Q := by
  have hs : ∀ u w : List Nat, SeqAt.shaped (.list [.list (dIs (cI u)), .list (dIs (cI w))]) = true := fun u w => by
    have h1 := dep_ints (cI u)
    have h2 := dep_ints (cI w)
    have h3 := lay_ints (cI u)
    have h4 := lay_ints (cI w)
    show (PyData.canLay0 (.list [.list (dIs (cI u)), .list (dIs (cI w))]) && decide (PyData.depth (.list [.list (dIs (cI u)), .list (dIs (cI w))]) ≤ 64)) = true
    rw [Bool.and_eq_true]
    exact ⟨by simp [PyData.canLay0, PyData.canLayAll0, h3, h4], decide_eq_true (by simp only [PyData.depth, PyData.depthAll]; omega)⟩
  refine g_neD (d := .list [.list (dIs (cI us1)), .list (dIs (cI us2))]) (e := .list [.list (dIs (cI ws1)), .list (dIs (cI ws2))]) (fun H s => .lst (SqL.of (p1.at s)) (.cons (dp_N q1 s) (.cons (dp_N q2 s) .nil))) (fun H s => .lst (SqL.of (p2.at s)) (.cons (dp_N q3 s) (.cons (dp_N q4 s) .nil))) (hs _ _) (hs _ _) ?_
  have e : PyData.eqv (.list [.list (dIs (cI us1)), .list (dIs (cI us2))]) (.list [.list (dIs (cI ws1)), .list (dIs (cI ws2))]) = (decide (us1 = ws1) && decide (us2 = ws2)) := by
    have c1 : ∀ u w : List Nat, decide (cI u = cI w) = decide (u = w) := fun u w => by rw [decide_eq_decide]; exact cI_inj
    simp only [PyData.eqv, PyData.eqvAll, eqv_ints, Bool.and_true, c1]
  rw [e]
  exact k
/-! ### enumerate of a list or a tuple -/
def lEnumB (K : PySem.W.Frag) (R : It → Hp → Prop) (us : List V) (H1 : Hp) : Prop := lEnum K R us H1 ∨ lEnumT K R us H1
def iEnumB (K : PySem.W.Frag) (ta : TA) : TI := fun σ H R => ta σ H (lEnumB K R)
theorem piEnumB {X : Cx} {e : Expr} {ta : TA} {p pos tpos : Pos} {elts : List Expr} {kk : Nat} (hK : X.K = K) (hg : Gl X "enumerate") (hm : X.mg "enumerate" = none) (ha : PA X [e] ta) (hs : starEach [e] X.env = [(false, eval e X.env)] := by rfl) :
    PI X (.Tuple elts kk tpos) (.Call (.Name "enumerate" p) [e] [] pos) (iEnumB K ta) := by
  subst hK
  refine ⟨fun pins s σ H R I h => ?_⟩
  refine Call_ (ld_blt I hg hm boot_enumerate (PyProof.Rows.callWith_type1 (thn (ha.run pos pins s σ H _ I h) fun us s1 ⟨vs, H1, I1, r1, q1⟩ => ?_) hs rfl))
  rcases q1 with ⟨a, xs, ex, hq, q⟩ | ⟨a, xs, ex, hq, q⟩
  · subst ex
    rw [Vals.ref1 r1]
    obtain ⟨its, rv, p', hz⟩ := I1.list hq
    refine call_enumerate_list p'.isList fun h' he hit hsz hk => wpAny_pyIter_enum he ?_
    have I2 : Inv X pins σ H1 { s1 with heap := h' } := I1.kept (t' := s1.toks) hk
    refine ⟨s1.heap.objs.size + 1, [s1.heap.objs.size + 1, s1.heap.objs.size], _, _, H1, rfl, I2, turn_enum a (s1.heap.objs.size + 1) s1.heap.objs.size, ⟨⟨.none, he⟩, hit, Nat.succ_ne_self _⟩, fun b hb => ?_, q⟩
    have hle : s1.heap.objs.size ≤ b := by
      rcases List.mem_cons.mp hb with rfl | hb
      · exact Nat.le_add_right _ _
      · rw [List.mem_singleton.mp hb]; exact Nat.le_refl _
    exact I1.fpOk hle (I1.hok.fresh hle)
  · subst ex
    rw [Vals.ref1 r1]
    obtain ⟨its, rv, pt', hz⟩ := I1.tuple hq
    have hal : a < s1.heap.objs.size := by
      obtain ⟨_, q', _⟩ := pt'
      exact Heap.lt_size q'
    refine call_enumT (items := its.toArray) pt' fun h' he hit hk => wpAny_pyIter_enum he ?_
    have I2 : Inv X pins σ H1 { s1 with heap := h' } := I1.kept (t' := s1.toks) hk
    refine ⟨s1.heap.objs.size + 1, [s1.heap.objs.size + 1, s1.heap.objs.size], _, _, H1, rfl, I2, turn_enumT (a := a) (e := s1.heap.objs.size + 1) (it := s1.heap.objs.size) (Nat.ne_of_lt hal) (Nat.ne_of_gt (Nat.lt_succ_of_lt hal)) (Nat.succ_ne_self _), ⟨⟨.none, he⟩, hit⟩, fun b hb => ?_, q⟩
    have hle : s1.heap.objs.size ≤ b := by
      rcases List.mem_cons.mp hb with rfl | hb
      · exact Nat.le_add_right _ _
      · rw [List.mem_singleton.mp hb]; exact Nat.le_refl _
    exact I1.fpOk hle (I1.hok.fresh hle)
theorem g_iEnumBE {tr : TA} {R : It → Hp → Prop} (k : Go T L fun H => tr σ H (lEnumB K R)) : Go T L fun H => iEnumB K tr σ H R := k
theorem g_iEnumB {R : It → Hp → Prop} (fl : Bool) (pk : Pick L (pt a (seqB fl xs)) A)
    (k : ∀ J (Gd : Hp → Prop), Walk J xs.length Gd (YPair (fun i => some (.int (i : Nat))) (fun i => xs[i]?)) → (∀ L A, Pick L (pt a (seqB fl xs)) A → ∀ H, Seps L H → Gd H) → Go T L fun H => R J H) : Go T L fun H => lEnumB K R [.ref a] H := by
  cases fl with
  | true => exact fun H t s => .inl ⟨a, xs, rfl, SqL.of (pk.at s), k _ _ walk_enum (fun L A pk H s => SqL.of (pk.at s)) H t s⟩
  | false => exact fun H t s => .inr ⟨a, xs, rfl, SqT.of (pk.at s), k _ _ walk_enumT (fun L A pk H s => SqT.of (pk.at s)) H t s⟩
/-! ### isinstance(a tuple, int) -/
theorem g_isiTI (pk : Pick L (pt a (.tup xs)) A) (k : Go T L fun H => Q (.bl false) H) : Go T L fun H => rIsi K [.ref a, .ty "int"] H Q := fun H t s =>
  ⟨.ref a, .ty "int", .type "tuple", .type "int", false, rfl, .ty _, .base (.tup (pk.at s)), kit_ty (by decide +kernel), k H t s⟩
/-! ### lists of pairs -/
theorem dvPr (i j : Nat) {x y : Int} {H : Hp} (pk : Pick L (pt a (.tup [.int x, .int y])) A) (s : Seps L H) (hx : x = (i : Int) := by rfl) (hy : y = (j : Int) := by rfl) : DV H (.ref a) (dP (i, j)) := by
  subst hx
  subst hy
  exact .tup (pk.at s) (.cons .int (.cons .int .nil))
theorem g_extP {ys : List V} {ls ms : List (Nat × Nat)} (pk : Pick L (pt a (.lst xs)) A) (pk2 : Pick L (pt b (.lst ys)) B) (d1 : Pick L (dvs xs (ls.map dP)) C) (d2 : Pick L (dvs ys (ms.map dP)) D) (hl : ls.length + ms.length ≤ sizeLine)
    (k : Go T (pt a (.lst (xs ++ ys)) :: dvs (xs ++ ys) ((ls ++ ms).map dP) :: A) fun H => Q .non H) : Go T L fun H => rExtend (.ref a) [.ref b] H Q := by
  refine go_dvsLen d1 fun e1 => go_dvsLen d2 fun e2 => ?_
  rw [List.length_map] at e1 e2
  refine go_dvs (vs := xs ++ ys) (ds := (ls ++ ms).map dP) (fun H s => by rw [List.map_append]; exact (d1.dvs s).app (d2.dvs s)) ?_
  exact g_ext (pick_there pk) (pick_there pk2) (by rw [e1, e2]; exact hl) k
theorem g_addLP {ys : List V} {ls ms : List (Nat × Nat)} (pk : Pick L (pt a (.lst xs)) A) (pk2 : Pick L (pt b (.lst ys)) B) (d1 : Pick L (dvs xs (ls.map dP)) C) (d2 : Pick L (dvs ys (ms.map dP)) D) (hl : ls.length + ms.length ≤ sizeLine)
    (k : ∀ p, Go T (pt p (.lst (xs ++ ys)) :: dvs (xs ++ ys) ((ls ++ ms).map dP) :: L) fun H => Q (.ref p) H) : Go T L fun H => rAddX K (.ref a) (.ref b) H Q := by
  refine go_dvsLen d1 fun e1 => go_dvsLen d2 fun e2 => ?_
  rw [List.length_map] at e1 e2
  refine go_dvs (vs := xs ++ ys) (ds := (ls ++ ms).map dP) (fun H s => by rw [List.map_append]; exact (d1.dvs s).app (d2.dvs s)) ?_
  exact g_addL (pick_there pk) (pick_there pk2) (by rw [e1, e2]; exact hl) k
theorem go_dvTri {v : V} {i : Int} {c : Bool} {d : Dt} {G : Hp → Prop} (pk : Pick L (dv v (.tup [.int i, .bl c, d])) A) (g : ∀ t z, v = .ref t → Go T (dv z d :: pt t (.tup [.int i, .bl c, z]) :: L) G) : Go T L G := by
  refine go_dvTup pk fun t ts ht => ?_
  refine go_dvsCons (pick_there pick_here) fun x xs e => ?_
  refine go_dvsCons (pick_there pick_here) fun y ys e2 => ?_
  refine go_dvsCons (pick_there pick_here) fun z zs e3 => ?_
  refine go_dvsNil (pick_there pick_here) fun e4 => ?_
  refine go_dvInt (pick_there (pick_there (pick_there (pick_there pick_here)))) fun e5 => ?_
  refine go_dvBl (pick_there (pick_there pick_here)) fun e6 => ?_
  subst e4 e3 e2 e e5 e6
  exact Go.ent (ent_cons pick_here (ent_drop (ent_drop (ent_drop (ent_drop (ent_drop (ent_cons pick_here (ent_drop ent_refl)))))))) (g t z ht)
theorem g_cutS {t1 u1 : TS} {N0 : L2.St → Hp → Prop} {R0 : VK} {B0 C0 : L2.St → Hp → Prop} (I : SI) (h : Go T L fun H => t1 ⟨SI.at T I, R0, B0, C0⟩ σ H) (k : ∀ σ L, I σ L → Go T L fun H => u1 ⟨N0, R0, B0, C0⟩ σ H) :
    Go T L fun H => Evl.tCut t1 u1 ⟨N0, R0, B0, C0⟩ σ H := g_cut I h k
/-! ### == of lists by their lengths -/
def rEqW (K : PySem.W.Frag) : R2 := fun x y H Q => rEqX K x y H Q ∨ ∃ (a b : Addr) (xs ys : List V), x = .ref a ∧ y = .ref b ∧ SqL K H a xs ∧ SqL K H b ys ∧ xs.length ≠ ys.length ∧ Q (.bl false) H
theorem op_eqW {X : Cx} (hu : X.A.units + 64 < cLine) : OpR X (compareOp .Eq) (rEqW X.K) := fun pins s σ H x y v u Q I rx ry h => by
  rcases h with h | ⟨a, b, xs, ys, rfl, rfl, hx, hy, hne, q⟩
  · exact op_eqX hu pins s σ H x y v u Q I rx ry h
  · cases rx
    cases ry
    obtain ⟨i1, r1, l1, _⟩ := I.list hx
    obtain ⟨i2, r2, l2, _⟩ := I.list hy
    have e1 := r1.length
    have e2 := r2.length
    refine PySem.SeqAt.eq_list_lengthsAt l1.isList l2.isList ?_ (by omega) ⟨.bl false, H, I, rfl, q⟩
    simp only [List.size_toArray, bne_iff_ne]
    omega
theorem oEqW {X : Cx} (hK : X.K = K) (hu : X.A.units + 64 < cLine) : OpR X (compareOp .Eq) (rEqW K) := hK ▸ op_eqW hu
theorem g_eqW0 (p1 : Pick L (pt a (.lst [])) A) (p2 : Pick L (pt b (.lst [])) B) (k : Go T L fun H => Q (.bl true) H) : Go T L fun H => rEqW K (.ref a) (.ref b) H Q := fun H t s =>
  .inl (g_eqL0 (ns := []) p1 p2 k H t s)
theorem g_eqW1 {x : V} (p1 : Pick L (pt a (.lst (x :: xs))) A) (p2 : Pick L (pt b (.lst [])) B) (k : Go T L fun H => Q (.bl false) H) : Go T L fun H => rEqW K (.ref a) (.ref b) H Q := fun H t s =>
  .inr ⟨a, b, _, _, rfl, rfl, SqL.of (p1.at s), SqL.of (p2.at s), by simp, k H t s⟩
end
/-! ### displays of a dict -/
section
variable {T : List (Addr × Str)} {L A : List HP} {σ : L2.St} {Q : VK} {p : Addr}
def lDisp (p : Addr) (Q : VK) (ps : List (V × V)) (H2 : Hp) : Prop := H2 p = some (.dK []) ∧ ∃ kvs : List (Key × V), ps = kvs.map (fun kv => (kV kv.1, kv.2)) ∧ kvs.length ≤ 15 ∧ Q (.ref p) (upd H2 p (.dK (mergeK [] kvs)))
theorem g_disp {trs : List (TE × TE)} (k : ∀ p, Go T (pt p (.dK []) :: L) fun H => tPairs trs σ H (lDisp p Q)) : Go T L fun H => tDisp trs σ H Q := go_new (P := fun p => pt p (.dK [])) rfl (fun _ _ e => e) k
theorem g_pairC {tk tv : TE} {r : List (TE × TE)} {N : List (V × V) → Hp → Prop} (k : Go T L fun H => tk σ H fun x H1 => tv σ H1 fun y H2 => tPairs r σ H2 fun ps H3 => N ((x, y) :: ps) H3) : Go T L fun H => tPairs ((tk, tv) :: r) σ H N := k
theorem g_pairN {N : List (V × V) → Hp → Prop} (k : Go T L fun H => N [] H) : Go T L fun H => tPairs [] σ H N := k
theorem g_dispI2 {i j : Int} {x y : V} (pk : Pick L (pt p (.dK [])) A) (h : i ≠ j) (k : Go T (pt p (.dK [(Sum.inl i, x), (Sum.inl j, y)]) :: A) fun H => Q (.ref p) H) : Go T L fun H => lDisp p Q [(.int i, x), (.int j, y)] H := fun H t s => by
  refine ⟨pk.at s, [(Sum.inl i, x), (Sum.inl j, y)], rfl, by simp, ?_⟩
  have e : mergeK [] [((Sum.inl i : Key), x), (Sum.inl j, y)] = [(Sum.inl i, x), (Sum.inl j, y)] := by
    show putK (putK [] (Sum.inl i) x) (Sum.inl j) y = _
    simp [putK, h]
  rw [e]
  exact (go_wr (P' := pt p (.dK [(Sum.inl i, x), (Sum.inl j, y)])) (o' := .dK [(Sum.inl i, x), (Sum.inl j, y)]) pk rfl (fun hh e1 => ⟨_, e1, rfl, upd_same⟩) k) H t s
end
end Dh

/-! The layer Dh, part H: from what the head tells to what the walk takes. -/
namespace Dh
open PySem PySem.Spec PyProof.Rows L2
section
variable {P : Program} {w : World} {K : PySem.W.Frag} {mg : Str → Option Value} {base h : Heap} {x qual m : Str} {st : Stmt} {f C : Addr} {fd : FuncData} {ps : List Str} {k : Nat} {sp : Sp}
abbrev FunX (K : PySem.W.Frag) (x qual : Str) (st : Stmt) (f : Addr) (fd : FuncData) : Prop := FunD K x qual (defArgs st) (defBody st) (defScope st) [] [] f fd
def dd (at_ : Str × Option Str) (x qual : Str) (st : Stmt) : He.DefD := ⟨at_, x, qual, defArgs st, defBody st, defScope st, [], []⟩
theorem FunX.parts (F : FunX K x qual st f fd) : ∃ (oc : Value) (od : Option Addr) (kV doc pm : Value) (an : Option Addr) (cdv ct : Value) (osl : Array (Option Value)),
    fd = PySem.W.fnOf x qual (defArgs st) (defBody st) (defScope st) .none kV doc pm an cdv ct ∧ K.lookup f = some ⟨oc, od, .func fd, osl⟩ ∧ PySem.W.codeIn K cdv qual = true := by
  obtain ⟨oc, od, dV, kV, doc, pm, an, cdv, ct, osl, e, lk, hcd, hD, _⟩ := F.ex
  rcases hD with ⟨_, rfl⟩ | ⟨z, _⟩
  · exact ⟨oc, od, kV, doc, pm, an, cdv, ct, osl, e, lk, hcd⟩
  · exact absurd rfl z
theorem FunX.c (F : FunX K x qual st f fd) : ∃ cdv, FunC K x qual st f fd cdv := by
  obtain ⟨oc, od, kV, doc, pm, an, cdv, ct, osl, e, lk, hcd⟩ := F.parts
  exact ⟨cdv, oc, od, kV, doc, pm, an, ct, osl, e, lk, hcd⟩
theorem FunX.r {p : Str × Option Str} (F : FunX K x qual st (He.fAd K p) fd) : FunC K x qual st (He.fAd K p) fd (.ref (He.cT K p).1) := by
  obtain ⟨oc, od, kV, doc, pm, an, cdv, ct, osl, e, lk, hcd⟩ := F.parts
  obtain ⟨c, rfl⟩ := He.codeIn_ref hcd
  have ec : (He.cT K p).1 = c := He.codeOf_eq lk (by rw [e])
  rw [ec]
  exact ⟨oc, od, kV, doc, pm, an, ct, osl, e, lk, hcd⟩
theorem FunX.told (F : FunX K x x st f fd) (hm : mg x = some (.ref f)) : ToldX K mg x st f := by
  obtain ⟨oc, od, kV, doc, pm, an, cdv, ct, osl, rfl, lk, hcd⟩ := F.parts
  exact ⟨⟨oc, od, kV, doc, pm, an, cdv, ct, osl, lk, hcd⟩, hm, F.kp⟩
theorem cal_of (F : FunX K x x st f fd) (ok : FnOk P w K mg base (L2.CX P w) k f fd ps sp) (hm : mg x = some (.ref f)) (b : Binds K fd ps []) : CalX P w K mg base k x sp := ⟨f, fd, ps, ok, hm, F.kp, b⟩
theorem met_of (ok : FnOk P w K mg base (L2.CX P w) k f fd ps sp) (c : Cls K C) (hm : Meth K C m f) (b : Binds K fd ps []) : MetX P w K mg base k C m sp := ⟨f, fd, ps, c, hm, ok, b⟩
theorem mak_of (ok : FnOk P w K mg base (L2.CX P w) k f fd ps sp) (hk : Mk K C f) (hm : mg x = some (.ref C)) (b : Binds K fd ps []) : MakX P w K mg base k x C sp := ⟨f, fd, ps, hk, ok, hm, b⟩
theorem exc_of (X : K.In h) (G : h.Ns mainGlobals mg) (c : (He.Fa.exc x).ok K = true) (g : (He.Fa.glo x).ok K = true) : ExcX K mg x (He.ga K x) := by
  obtain ⟨h1, h2, h3, h4⟩ := He.exc_ok c
  exact ⟨He.glo_ok X G g, h1, h2, h3, h4⟩
end
/-- the tables of the defs tf, and what their lambdas or generator expressions are called -/
def tabs (K : PySem.W.Frag) (tf : List (He.Defn × Str)) : List (Addr × Str) := tf.map fun x => ((He.cT K x.1).2, x.2)
def apart : List Addr → Bool
  | [] => true
  | a :: r => !r.contains a && apart r
def apartB (tf : List (He.Defn × Str)) (K : PySem.W.Frag) : Bool := apart (tf.map fun x => (He.cT K x.1).2)
theorem apart_in {α : Type} {f : α → Addr} {g : α → Str} : ∀ {l : List α}, apart (l.map f) = true → ∀ x ∈ l, ∀ p ∈ l.map fun y => (f y, g y), p.1 = f x → p.2 = g x
  | [], _, x, hx, _, _, _ => by cases hx
  | a :: r, h, x, hx, p, hp, e => by
    rw [List.map_cons, apart, Bool.and_eq_true, Bool.not_eq_true', List.contains_eq_mem, decide_eq_false_iff_not] at h
    rw [List.map_cons] at hp
    rcases List.mem_cons.mp hp with rfl | hp2
    · rcases List.mem_cons.mp hx with rfl | hx2
      · rfl
      · exact absurd (List.mem_map.mpr ⟨x, hx2, e.symm⟩) h.1
    · rcases List.mem_cons.mp hx with rfl | hx2
      · obtain ⟨y, hy, rfl⟩ := List.mem_map.mp hp2
        exact absurd (List.mem_map.mpr ⟨y, hy, e⟩) h.1
      · exact apart_in h.2 x hx2 p hp2 e
theorem tabs_mem {K : PySem.W.Frag} {tf : List (He.Defn × Str)} {x : He.Defn × Str} (hp : x ∈ tf) : ((He.cT K x.1).2, x.2) ∈ tabs K tf := List.mem_map.mpr ⟨x, hp, rfl⟩
theorem tabs_one {K : PySem.W.Frag} {tf : List (He.Defn × Str)} {x : He.Defn × Str} (h : apartB tf K = true) (hp : x ∈ tf) : ∀ q ∈ tabs K tf, q.1 = (He.cT K x.1).2 → q.2 = x.2 := fun q hq e => apart_in (f := fun x : He.Defn × Str => (He.cT K x.1).2) (g := fun x => x.2) h x hp q hq e
theorem tabs_empty {K : PySem.W.Frag} {tf : List (He.Defn × Str)} {H : Hp} (h : ∀ p ∈ (tf.map (·.1)).map (He.cT K), H p.2 = some (.tbl #[])) : LamX.Tabs (tabs K tf) H := tabs_nil fun q hq => by
  obtain ⟨x, hx, rfl⟩ := List.mem_map.mp hq
  exact h _ (List.mem_map.mpr ⟨x.1, List.mem_map.mpr ⟨x, hx, rfl⟩, rfl⟩)
end Dh

section
local macro_rules | `(tactic| kspl_open zz_pk) => `(tactic| (with_reducible first | exact Dh.pick_here | (refine' Dh.pick_there ?p; (case p => kspl_open zz_pk))))
local macro_rules | `(tactic| kspl_open zz_ent1) => `(tactic| first | (with_reducible exact Dh.ent_refl) | (with_reducible exact Dh.ent_nil) | (refine' Dh.ent_cons ?q0 ?k; (case q0 => kspl_open zz_pk)) | (refine' Dh.ent_drop ?k))
local macro_rules | `(tactic| kspl_open zz_ent) => `(tactic| (repeat' kspl_open zz_ent1))
local macro_rules | `(tactic| kspl_open zz_side) => `(tactic| first | (with_reducible assumption) | omega | (simp only [List.length_cons, List.length_nil, List.length_append, List.length_map, List.length_range, List.length_replicate, List.length_set, List.length_take, List.length_drop, PySem.sizeLine_eq] <;> omega) | (exact Dh.log2_ok (by omega)) | (simp only [L2.CMul, L2.CDiv, L2.CDivN]; omega) | (unfold L2.CPow; decide) | decide | (exact Or.inl rfl) | (exact Or.inr rfl) )
local macro_rules | `(tactic| kspl_open zz_dvp) => `(tactic| (with_reducible first | exact Dh.DV.int | exact Dh.DV.str | exact Dh.DV.bl | exact Dh.DV.non | exact Dh.DVs.nil | (refine' Dh.Pick.dvs ?a (by assumption); (case a => kspl_open zz_pk)) | (refine' Dh.Pick.dv ?a (by assumption); (case a => kspl_open zz_pk)) | (refine' Dh.DVs.cons ?a ?b; (case a => kspl_open zz_dvp); (case b => kspl_open zz_dvp)) | (refine' Dh.DVs.app ?a ?b; (case a => kspl_open zz_dvp); (case b => kspl_open zz_dvp)) | (refine' Dh.Pick.tup ?a (by assumption) ?b; (case a => kspl_open zz_pk); (case b => kspl_open zz_dvp)) | (refine' Dh.DVs.take _ ?a; (case a => kspl_open zz_dvp)) | (refine' Dh.DVs.drop _ ?a; (case a => kspl_open zz_dvp)) | (refine' Dh.DVs.set _ ?a ?b; (case a => kspl_open zz_dvp); (case b => kspl_open zz_dvp))))
local macro_rules | `(tactic| kspl_open zz_ixs) => `(tactic| first | assumption | omega | (simp only [List.length_set, List.length_map, List.length_cons, List.length_nil, List.length_append, List.length_replicate] <;> first | assumption | omega))
local macro_rules | `(tactic| kspl_open zz_lk) => `(tactic| first | rfl | assumption | (exact Dh.ixN_lt (by kspl_open zz_ixs)) | (exact Dh.atI_lt (by assumption)) | (exact Dh.atI_map (by assumption)) )
local macro_rules | `(tactic| kspl_open zz_kt) => `(tactic| assumption)
local macro_rules | `(tactic| kspl_open zz_pf) => `(tactic| first  | rfl)
local macro_rules | `(tactic| kspl_open zz_ln) => `(tactic| first  | decide | (simp only [List.length_cons, List.length_nil] <;> omega))
local macro_rules | `(tactic| kspl_open zz_hasm) => `(tactic| first | (refine' Dh.hasM_ob ?q0 ?q1; (case q0 => kspl_open zz_pk); (case q1 => kspl_open zz_lk)))
local macro_rules | `(tactic| kspl_open zz_vcp0) => `(tactic| first | ((with_reducible refine' Dh.g_seq ?k)) | ((with_reducible refine' Dh.g_next ?k)) | ((with_reducible refine' Dh.g_nonA ?k)) | ((with_reducible refine' Dh.g_var ?q0 ?k); (case q0 => rfl)) | ((with_reducible refine' Dh.g_c ?k)) | ((with_reducible refine' Dh.g_op ?k)) | ((with_reducible refine' Dh.g_asg ?k)) | ((with_reducible refine' Dh.g_name ?k)) | ((with_reducible refine' Dh.g_ifS ?k)) | ((with_reducible refine' Dh.g_test ?k)) | ((with_reducible refine' Dh.g_isB ?k)) | ((with_reducible refine' Dh.g_B ?k)) | ((with_reducible refine' Dh.g_ret ?k)) | ((with_reducible refine' Dh.g_retN ?k)) | ((with_reducible refine' Dh.g_drop ?k)) | ((with_reducible refine' Dh.g_brk ?k)) | ((with_reducible refine' Dh.g_cont ?k)) | ((with_reducible refine' Dh.g_un ?k)) | ((with_reducible refine' Dh.g_I0 ?k)) | ((with_reducible refine' Dh.g_addI ?k)) | ((with_reducible refine' Dh.g_addB ?k)) | ((with_reducible refine' Dh.g_addS ?q0 ?k); (case q0 => kspl_open zz_side)) | ((with_reducible refine' Dh.g_addM ?q0 ?q1 ?q2 ?k); (case q0 => kspl_open zz_pk); (case q1 => kspl_open zz_pk); (case q2 => kspl_open zz_side); intro _) | ((with_reducible refine' Dh.g_addL ?q0 ?q1 ?q2 ?k); (case q0 => kspl_open zz_pk); (case q1 => kspl_open zz_pk); (case q2 => kspl_open zz_side); intro _))
local macro_rules | `(tactic| kspl_open zz_vcp1) => `(tactic| first | ((with_reducible refine' Dh.g_I ?q0 ?k); (case q0 => kspl_open zz_side)) | ((with_reducible refine' Dh.g_mulI ?q0 ?k); (case q0 => kspl_open zz_side)) | ((with_reducible refine' Dh.g_U ?k)) | ((with_reducible refine' Dh.g_eqS ?q0 ?k); (case q0 => rfl)) | ((with_reducible refine' Dh.g_neS ?q0 ?k); (case q0 => rfl)) | ((with_reducible refine' Dh.g_eqLL ?q0 ?q1 ?k); (case q0 => kspl_open zz_pk); (case q1 => kspl_open zz_pk)) | ((with_reducible refine' Dh.g_neLL ?q0 ?q1 ?k); (case q0 => kspl_open zz_pk); (case q1 => kspl_open zz_pk)) | ((with_reducible refine' Dh.g_eqL0 ?q0 ?q1 ?k); (case q0 => kspl_open zz_pk); (case q1 => kspl_open zz_pk)) | ((with_reducible refine' Dh.g_neL0 ?q0 ?q1 ?k); (case q0 => kspl_open zz_pk); (case q1 => kspl_open zz_pk)) | ((with_reducible refine' Dh.g_neT0 ?q0 ?q1 ?q2 ?k); (case q0 => kspl_open zz_pk); (case q1 => kspl_open zz_pk); (case q2 => kspl_open zz_pk)) | ((with_reducible refine' Dh.g_neP ?q0 ?q1 ?k); (case q0 => kspl_open zz_pk); (case q1 => kspl_open zz_pk)) | ((with_reducible refine' Dh.g_inI ?q0 ?k); (case q0 => kspl_open zz_pk)) | ((with_reducible refine' Dh.g_eqTT ?q0 ?q1 ?k); (case q0 => kspl_open zz_pk); (case q1 => kspl_open zz_pk)) | ((with_reducible refine' Dh.g_neTT ?q0 ?q1 ?k); (case q0 => kspl_open zz_pk); (case q1 => kspl_open zz_pk)) | ((with_reducible refine' Dh.g_eqNN ?q0 ?q1 ?k); (case q0 => kspl_open zz_pk); (case q1 => kspl_open zz_pk)) | ((with_reducible refine' Dh.g_neNN ?q0 ?q1 ?k); (case q0 => kspl_open zz_pk); (case q1 => kspl_open zz_pk)) | ((with_reducible refine' Dh.g_eqN0 ?q0 ?q1 ?k); (case q0 => kspl_open zz_pk); (case q1 => kspl_open zz_pk)) | ((with_reducible refine' Dh.g_neN0 ?q0 ?q1 ?k); (case q0 => kspl_open zz_pk); (case q1 => kspl_open zz_pk)) | ((with_reducible refine' Dh.g_neTN ?q0 ?q1 ?k); (case q0 => kspl_open zz_pk); (case q1 => kspl_open zz_pk)) | ((with_reducible refine' Dh.g_neBB ?q0 ?q1 ?k); (case q0 => kspl_open zz_pk); (case q1 => kspl_open zz_pk)) | ((with_reducible refine' Dh.g_eqBB ?q0 ?q1 ?k); (case q0 => kspl_open zz_pk); (case q1 => kspl_open zz_pk)) | ((with_reducible refine' Dh.g_inN ?q0 ?k); (case q0 => kspl_open zz_pk)) | ((with_reducible refine' Dh.g_notInN ?q0 ?k); (case q0 => kspl_open zz_pk)) | ((with_reducible refine' Dh.g_notInI ?q0 ?k); (case q0 => kspl_open zz_pk)))
local macro_rules | `(tactic| kspl_open zz_vcp2) => `(tactic| first | ((with_reducible refine' Dh.g_inB ?q0 ?k); (case q0 => kspl_open zz_pk)) | ((with_reducible refine' Dh.g_isN ?k)) | ((with_reducible refine' Dh.g_notN ?k)) | ((with_reducible refine' Dh.g_ixL ?q0 ?q1 ?k); (case q0 => kspl_open zz_pk); (case q1 => kspl_open zz_lk)) | ((with_reducible refine' Dh.g_ixT ?q0 ?q1 ?k); (case q0 => kspl_open zz_pk); (case q1 => kspl_open zz_lk)) | ((with_reducible refine' Dh.g_sl ?k)) | ((with_reducible refine' Dh.g_noPart ?k)) | ((with_reducible refine' Dh.g_part ?k)) | ((with_reducible refine' Dh.g_isSomeInt ?k)) | ((with_reducible refine' Dh.g_slTk ?q0 ?k); (case q0 => kspl_open zz_pk); intro _) | ((with_reducible refine' Dh.g_slDr ?q0 ?k); (case q0 => kspl_open zz_pk); intro _) | ((with_reducible refine' Dh.g_slL ?q0 ?k); (case q0 => kspl_open zz_pk); intro _) | ((with_reducible refine' Dh.g_slQTk ?q0 ?k); (case q0 => kspl_open zz_pk); intro _) | ((with_reducible refine' Dh.g_slQ ?q0 ?k); (case q0 => kspl_open zz_pk); intro _) | ((with_reducible refine' Dh.g_fldE ?k)) | ((with_reducible refine' Dh.g_fld ?q0 ?q1 ?k); (case q0 => kspl_open zz_pk); (case q1 => kspl_open zz_lk)) | ((with_reducible refine' Dh.g_tup ?k)) | ((with_reducible refine' Dh.g_lst ?k)) | ((with_reducible refine' Dh.g_newT ?q0 ?k); (case q0 => kspl_open zz_side); intro _) | ((with_reducible refine' Dh.g_newL ?q0 ?k); (case q0 => kspl_open zz_side); intro _) | ((with_reducible refine' Dh.g_nil ?k)) | ((with_reducible refine' Dh.g_cons ?k)) | ((with_reducible refine' Dh.g_call ?k)) | ((with_reducible refine' Dh.g_methE ?k)))
local macro_rules | `(tactic| kspl_open zz_vcp3) => `(tactic| first | ((with_reducible refine' Dh.g_meth ?q0 ?k); (case q0 => kspl_open zz_hasm)) | ((with_reducible refine' Dh.g_make ?k)) | ((with_reducible refine' Dh.g_made ?k); intro _) | ((with_reducible refine' Dh.g_cb ?k)) | ((with_reducible refine' Dh.g_int ?k)) | ((with_reducible refine' Dh.g_intB ?k)) | ((with_reducible refine' Dh.g_abs ?k)) | ((with_reducible refine' Dh.g_max2 ?k)) | ((with_reducible refine' Dh.g_min2 ?k)) | ((with_reducible refine' Dh.g_strI ?q0 ?k); (case q0 => kspl_open zz_side)) | ((with_reducible refine' Dh.g_lenL ?q0 ?k); (case q0 => kspl_open zz_pk)) | ((with_reducible refine' Dh.g_lenT ?q0 ?k); (case q0 => kspl_open zz_pk)) | ((with_reducible refine' Dh.g_lenD ?q0 ?k); (case q0 => kspl_open zz_pk)) | ((with_reducible refine' Dh.g_listL ?q0 ?k); (case q0 => kspl_open zz_pk); intro _) | ((with_reducible refine' Dh.g_listT ?q0 ?k); (case q0 => kspl_open zz_pk); intro _) | ((with_reducible refine' Dh.g_tupL ?q0 ?k); (case q0 => kspl_open zz_pk); intro _) | ((with_reducible refine' Dh.g_tupT ?q0 ?k); (case q0 => kspl_open zz_pk)) | ((with_reducible refine' Dh.g_pop0 ?q0 ?k); (case q0 => kspl_open zz_pk)) | ((with_reducible refine' Dh.g_bm ?k)) | ((with_reducible refine' Dh.g_bm0 ?k)) | ((with_reducible refine' Dh.g_tyL ?q0 ?k); (case q0 => kspl_open zz_pk)) | ((with_reducible refine' Dh.g_append ?q0 ?q1 ?k); (case q0 => kspl_open zz_pk); (case q1 => kspl_open zz_side)) | ((with_reducible refine' Dh.g_repB ?q0 ?q1 ?k); (case q0 => kspl_open zz_pk); (case q1 => kspl_open zz_side); intro _) | ((with_reducible refine' Dh.g_repI ?q0 ?q1 ?k); (case q0 => kspl_open zz_pk); (case q1 => kspl_open zz_side); intro _))
local macro_rules | `(tactic| kspl_open zz_vcp4) => `(tactic| first | ((with_reducible refine' Dh.g_rep ?q0 ?q1 ?q2 ?q3 ?k); (case q0 => kspl_open zz_pk); (case q1 => kspl_open zz_side); (case q2 => kspl_open zz_side); (case q3 => kspl_open zz_side); intro _) | ((with_reducible refine' Dh.g_not ?k)) | ((with_reducible refine' Dh.g_tand ?k)) | ((with_reducible refine' Dh.g_tor ?k)) | ((with_reducible refine' Dh.g_andV ?k)) | ((with_reducible refine' Dh.g_orV ?k)) | ((with_reducible refine' Dh.g_notV ?k)) | ((with_reducible refine' Dh.g_ifE ?k)) | ((with_reducible refine' Dh.g_chain ?k)) | ((with_reducible refine' Dh.g_tru ?k)) | ((with_reducible refine' Dh.g_truB ?k)) | ((with_reducible refine' Dh.g_truI ?k)) | ((with_reducible refine' Dh.g_truN ?k)) | ((with_reducible refine' Dh.g_truL ?q0 ?k); (case q0 => kspl_open zz_pk)) | ((with_reducible refine' Dh.g_gsub ?k)) | ((with_reducible refine' Dh.g_setM ?q0 ?q1 ?k); (case q0 => kspl_open zz_pk); (case q1 => kspl_open zz_lk)) | ((with_reducible refine' Dh.g_setL ?q0 ?q1 ?k); (case q0 => kspl_open zz_pk); (case q1 => kspl_open zz_lk)) | ((with_reducible refine' Dh.g_gtup ?q0 ?q1 ?k); (case q0 => kspl_open zz_pk); (case q1 => rfl)) | ((with_reducible refine' Dh.g_gnil ?k)) | ((with_reducible refine' Dh.g_gcons ?k)) | ((with_reducible refine' Dh.g_par ?k)) | ((with_reducible refine' Dh.g_par2 ?k)) | ((with_reducible refine' Dh.g_par3 ?k)) | ((with_reducible refine' Dh.g_par3b ?k)))
local macro_rules | `(tactic| kspl_open zz_vcp5) => `(tactic| first | ((with_reducible refine' Dh.g_listRg ?k)) | ((with_reducible refine' Dh.g_rg1E ?k)) | ((with_reducible refine' Dh.g_rg1 ?k)) | ((with_reducible refine' Dh.g_rgN ?q0 ?k); (case q0 => kspl_open zz_side); intro _) | ((with_reducible refine' Dh.g_rgL ?q0 ?k); (case q0 => kspl_open zz_side); intro _) | ((with_reducible refine' Dh.g_dinE ?k)) | ((with_reducible refine' Dh.g_dinI ?q0 ?k); (case q0 => kspl_open zz_pk)) | ((with_reducible refine' Dh.g_dnotinE ?k)) | ((with_reducible refine' Dh.g_dnotinI ?q0 ?k); (case q0 => kspl_open zz_pk)) | ((with_reducible refine' Dh.g_dgetE ?k)) | ((with_reducible refine' Dh.g_dgetI ?q0 ?q1 ?k); (case q0 => kspl_open zz_pk); (case q1 => kspl_open zz_lk)) | ((with_reducible refine' Dh.g_dputE ?k)) | ((with_reducible refine' Dh.g_dputI ?q0 ?q1 ?k); (case q0 => kspl_open zz_pk); (case q1 => kspl_open zz_side)) | ((with_reducible refine' Dh.g_dpopE ?k)) | ((with_reducible refine' Dh.g_dpopA ?q0 ?k); (case q0 => kspl_open zz_pk)) | ((with_reducible refine' Dh.g_dpopB ?q0 ?q1 ?k); (case q0 => kspl_open zz_pk); (case q1 => kspl_open zz_lk)) | ((with_reducible refine' Dh.g_dnew ?k); intro _) | ((with_reducible refine' Dh.g_ipMul ?q0 ?k); (case q0 => kspl_open zz_side)) | ((with_reducible refine' Dh.g_sfldE ?k)) | ((with_reducible refine' Dh.g_sfld ?q0 ?q1 ?q2 ?k); (case q0 => kspl_open zz_pk); (case q1 => kspl_open zz_pf); (case q2 => kspl_open zz_ln)) | ((with_reducible refine' Dh.g_augE ?k)) | ((with_reducible refine' Dh.g_augF ?q0 ?q1 ?k); (case q0 => kspl_open zz_pk); (case q1 => kspl_open zz_lk)) | ((with_reducible refine' Dh.g_augV ?q0 ?k); (case q0 => rfl)) | ((with_reducible refine' Dh.g_ipI ?k)))
local macro_rules | `(tactic| kspl_open zz_vcp6) => `(tactic| first | ((with_reducible refine' Dh.g_rAdd ?k)) | ((with_reducible refine' Dh.g_rSub ?k)) | ((with_reducible refine' Dh.g_for ?k)) | ((with_reducible refine' Dh.g_iRng1 ?k)) | ((with_reducible refine' Dh.g_iRng2 ?k)) | ((with_reducible refine' Dh.g_rng1 ?q0 ?q1 ?k); (case q0 => kspl_open zz_side); (case q1 => kspl_open zz_side)) | ((with_reducible refine' Dh.g_rng2 ?q0 ?k); (case q0 => kspl_open zz_side)) | ((with_reducible refine' Dh.g_iSeqE ?k)) | ((with_reducible refine' Dh.g_iSeqL ?q0 ?k); (case q0 => kspl_open zz_pk)) | ((with_reducible refine' Dh.g_iSeqT ?q0 ?k); (case q0 => kspl_open zz_pk)) | ((with_reducible refine' Dh.g_inK ?q0 ?k); (case q0 => kspl_open zz_kt)) | ((with_reducible refine' Dh.g_notInK ?q0 ?k); (case q0 => kspl_open zz_kt)) | ((with_reducible refine' Dh.g_isiII ?k)) | ((with_reducible refine' Dh.g_isiIB ?k)) | ((with_reducible refine' Dh.g_dinS ?q0 ?k); (case q0 => kspl_open zz_pk)) | ((with_reducible refine' Dh.g_dnotinS ?q0 ?k); (case q0 => kspl_open zz_pk)) | ((with_reducible refine' Dh.g_dgetS ?q0 ?q1 ?k); (case q0 => kspl_open zz_pk); (case q1 => kspl_open zz_lk)) | ((with_reducible refine' Dh.g_dputS ?q0 ?q1 ?k); (case q0 => kspl_open zz_pk); (case q1 => kspl_open zz_side)) | ((with_reducible refine' Dh.g_dpopS ?q0 ?q1 ?k); (case q0 => kspl_open zz_pk); (case q1 => kspl_open zz_lk)) | ((with_reducible refine' Dh.g_iRevE ?k)) | ((with_reducible refine' Dh.g_iRevL ?q0 ?k); (case q0 => kspl_open zz_pk)) | ((with_reducible refine' Dh.g_iRevT ?q0 ?k); (case q0 => kspl_open zz_pk)) | ((with_reducible refine' Dh.g_iZipE ?k)) | ((with_reducible refine' Dh.g_iZipL ?q0 ?q1 ?k); (case q0 => kspl_open zz_pk); (case q1 => kspl_open zz_pk)))
local macro_rules | `(tactic| kspl_open zz_vcp7) => `(tactic| first | ((with_reducible refine' Dh.g_iZipT ?q0 ?q1 ?k); (case q0 => kspl_open zz_pk); (case q1 => kspl_open zz_pk)) | ((with_reducible refine' Dh.g_iEnumE ?k)) | ((with_reducible refine' Dh.g_iEnum ?q0 ?k); (case q0 => kspl_open zz_pk)) | ((with_reducible refine' Dh.g_dcE ?k)) | ((with_reducible refine' Dh.g_dturn ?k)) | ((with_reducible refine' Dh.g_sum ?q0 ?k); (case q0 => kspl_open zz_pk)) | ((with_reducible refine' Dh.g_popL ?q0 ?q1 ?k); (case q0 => kspl_open zz_pk); (case q1 => kspl_open zz_lk)) | ((with_reducible refine' Dh.g_pop ?q0 ?q1 ?k); (case q0 => kspl_open zz_pk); (case q1 => kspl_open zz_lk)) | ((with_reducible refine' Dh.g_anyE ?k)) | ((with_reducible refine' Dh.g_allE ?k)) | ((with_reducible refine' Dh.g_sumE ?k)) | ((with_reducible refine' Dh.g_gturn ?k)) | ((with_reducible refine' Dh.g_anyB ?q0 ?k); (case q0 => kspl_open zz_pk)) | ((with_reducible refine' Dh.g_wbody ?k)) | ((with_reducible refine' Dh.g_lcE ?k)) | ((with_reducible refine' Dh.g_turn ?k)) | ((with_reducible refine' Dh.g_tYes ?k)) | ((with_reducible refine' Dh.g_rs ?k)) | ((with_reducible refine' Dh.g_rsW ?k)) | ((with_reducible refine' Dh.g_told ?k)) | ((with_reducible refine' Dh.g_ifT ?q0 ?k); (case q0 => rfl)) | ((with_reducible refine' Dh.g_ifF ?q0 ?k); (case q0 => rfl)) | ((with_reducible refine' Dh.g_and ?q0 ?k); (case q0 => rfl)) | ((with_reducible refine' Dh.g_turn ?k)))
local macro_rules | `(tactic| kspl_open zz_vcp8) => `(tactic| first | ((with_reducible refine' Dh.g_rsxE ?k)) | ((with_reducible refine' Dh.g_rsx ?k); intro _) | ((with_reducible refine' Dh.g_get1E ?k)) | ((with_reducible refine' Dh.g_get1 ?q0 ?k); (case q0 => kspl_open zz_pk)) | ((with_reducible refine' Dh.g_get1I ?q0 ?k); (case q0 => kspl_open zz_pk)) | ((with_reducible refine' Dh.g_get2E ?k)) | ((with_reducible refine' Dh.g_get2 ?q0 ?k); (case q0 => kspl_open zz_pk)) | ((with_reducible refine' Dh.g_get2I ?q0 ?k); (case q0 => kspl_open zz_pk)) | ((with_reducible refine' Dh.g_setdE ?k)) | ((with_reducible refine' Dh.g_setd ?q0 ?k); (case q0 => kspl_open zz_pk)) | ((with_reducible refine' Dh.g_methW ?k)) | ((with_reducible refine' Dh.g_tTry ?k)) | ((with_reducible refine' Dh.g_xf ?q0 ?q1 ?q2 ?k); (case q0 => rfl); (case q1 => kspl_open zz_pk); (case q2 => rfl)) | ((with_reducible refine' Dh.g_lc2E ?k)) | ((with_reducible refine' Dh.g_turn2 ?k)) | ((with_reducible refine' Dh.g_addTN ?q0 ?q1 ?q2 ?q3 ?k); (case q0 => kspl_open zz_pk); (case q1 => kspl_open zz_pk); (case q2 => kspl_open zz_side); (case q3 => kspl_open zz_side); intro _) | ((with_reducible refine' Dh.g_repT ?q0 ?q1 ?q2 ?k); (case q0 => kspl_open zz_pk); (case q1 => kspl_open zz_side); (case q2 => kspl_open zz_side); intro _) | ((with_reducible refine' Dh.g_eqTN ?q0 ?q1 ?k); (case q0 => kspl_open zz_pk); (case q1 => kspl_open zz_pk)) | ((with_reducible refine' Dh.g_iRng3 ?k)) | ((with_reducible refine' Dh.g_callS ?k)) | ((with_reducible refine' Dh.g_tryO ?k)) | ((with_reducible refine' Dh.g_sumN ?q0 ?k); (case q0 => kspl_open zz_pk)) | ((with_reducible refine' Dh.g_iEnumTE ?k)) | ((with_reducible refine' Dh.g_iEnumT ?q0 ?k); (case q0 => kspl_open zz_pk)))
local macro_rules | `(tactic| kspl_open zz_vcp9) => `(tactic| first | ((with_reducible refine' Dh.g_slTt ?q0 ?q1 ?k); (case q0 => kspl_open zz_pk); (case q1 => kspl_open zz_side); intro _) | ((with_reducible refine' Dh.g_slTd ?q0 ?q1 ?q2 ?k); (case q0 => kspl_open zz_pk); (case q1 => kspl_open zz_side); (case q2 => kspl_open zz_side); intro _) | ((with_reducible refine' Dh.g_slTm ?q0 ?q1 ?q2 ?k); (case q0 => kspl_open zz_pk); (case q1 => kspl_open zz_side); (case q2 => kspl_open zz_side); intro _) | ((with_reducible refine' Dh.g_insert ?q0 ?q1 ?q2 ?k); (case q0 => kspl_open zz_pk); (case q1 => kspl_open zz_side); (case q2 => kspl_open zz_side)) | ((with_reducible refine' Dh.g_iRevR ?k)) | ((with_reducible refine' Dh.g_revN ?q0 ?k); (case q0 => kspl_open zz_side)) | ((with_reducible refine' Dh.g_removeI ?q0 ?q1 ?k); (case q0 => kspl_open zz_pk); (case q1 => kspl_open zz_side)) | ((with_reducible refine' Dh.g_extN ?q0 ?q1 ?q2 ?k); (case q0 => kspl_open zz_pk); (case q1 => kspl_open zz_pk); (case q2 => kspl_open zz_side)) | ((with_reducible refine' Dh.g_extI ?q0 ?q1 ?q2 ?k); (case q0 => kspl_open zz_pk); (case q1 => kspl_open zz_pk); (case q2 => kspl_open zz_side)) | ((with_reducible refine' Dh.g_lockS ?q0 ?k); (case q0 => kspl_open zz_pk); intro _) | ((with_reducible refine' Dh.g_lockE ?q0 ?k); (case q0 => kspl_open zz_pk); intro _) | ((with_reducible refine' Dh.g_unl ?q0 ?k); (case q0 => kspl_open zz_pk)) | ((with_reducible refine' Dh.g_iKeysE ?k)) | ((with_reducible refine' Dh.g_iKeysT ?q0 ?k); (case q0 => kspl_open zz_pk)) | ((with_reducible refine' Dh.g_dinP ?q0 ?q1 ?k); (case q0 => kspl_open zz_pk); (case q1 => kspl_open zz_pk)) | ((with_reducible refine' Dh.g_dnotinP ?q0 ?q1 ?k); (case q0 => kspl_open zz_pk); (case q1 => kspl_open zz_pk)) | ((with_reducible refine' Dh.g_dputP ?q0 ?q1 ?q2 ?q3 ?k); (case q0 => kspl_open zz_pk); (case q1 => kspl_open zz_pk); (case q2 => kspl_open zz_side); (case q3 => kspl_open zz_side)) | ((with_reducible refine' Dh.g_bmD ?k)) | ((with_reducible refine' Dh.g_tyD ?q0 ?k); (case q0 => kspl_open zz_pk)) | ((with_reducible refine' Dh.g_popP ?q0 ?q1 ?q2 ?k); (case q0 => kspl_open zz_pk); (case q1 => kspl_open zz_pk); (case q2 => kspl_open zz_side)) | ((with_reducible refine' Dh.g_newDT ?k); intro _) | ((with_reducible refine' Dh.g_bmT ?k)) | ((with_reducible refine' Dh.g_dinN ?q0 ?k); (case q0 => kspl_open zz_pk)) | ((with_reducible refine' Dh.g_dputN ?q0 ?q1 ?k); (case q0 => kspl_open zz_pk); (case q1 => kspl_open zz_side)))
local macro_rules | `(tactic| kspl_open zz_vcp10) => `(tactic| first | ((with_reducible refine' Dh.g_sortDN ?q0 ?q1 ?k); (case q0 => kspl_open zz_pk); (case q1 => kspl_open zz_side); intro _) | ((with_reducible refine' Dh.g_sortN ?q0 ?q1 ?k); (case q0 => kspl_open zz_pk); (case q1 => kspl_open zz_side); intro _) | ((with_reducible refine' Dh.g_glst ?q0 ?q1 ?k); (case q0 => kspl_open zz_pk); (case q1 => rfl)) | ((with_reducible refine' Dh.g_sumWN ?q0 ?k); (case q0 => kspl_open zz_pk)) | ((with_reducible refine' Dh.g_slWm ?q0 ?k); (case q0 => kspl_open zz_pk); intro _) | ((with_reducible refine' Dh.g_slWt ?q0 ?k); (case q0 => kspl_open zz_pk); intro _) | ((with_reducible refine' Dh.g_repW ?q0 ?q1 ?q2 ?k); (case q0 => kspl_open zz_pk); (case q1 => kspl_open zz_side); (case q2 => kspl_open zz_side); intro _) | ((with_reducible refine' Dh.g_tupZipE ?k)) | ((with_reducible refine' Dh.g_tupZip ?q0 ?q1 ?q2 ?k); (case q0 => kspl_open zz_pk); (case q1 => kspl_open zz_pk); (case q2 => kspl_open zz_side); intros) | ((with_reducible refine' Dh.g_minR ?q0 ?q1 ?k); (case q0 => kspl_open zz_pk); (case q1 => kspl_open zz_pk); intro _) | ((with_reducible refine' Dh.g_iEnumBE ?k)) | ((with_reducible refine' Dh.g_neN2 ?q0 ?q1 ?q2 ?q3 ?q4 ?q5 ?k); (case q0 => kspl_open zz_pk); (case q1 => kspl_open zz_pk); (case q2 => kspl_open zz_pk); (case q3 => kspl_open zz_pk); (case q4 => kspl_open zz_pk); (case q5 => kspl_open zz_pk)) | ((with_reducible refine' Dh.g_isiTI ?q0 ?k); (case q0 => kspl_open zz_pk)) | ((with_reducible refine' Dh.g_extP ?q0 ?q1 ?q2 ?q3 ?q4 ?k); (case q0 => kspl_open zz_pk); (case q1 => kspl_open zz_pk); (case q2 => kspl_open zz_pk); (case q3 => kspl_open zz_pk); (case q4 => kspl_open zz_side)) | ((with_reducible refine' Dh.g_addLP ?q0 ?q1 ?q2 ?q3 ?q4 ?k); (case q0 => kspl_open zz_pk); (case q1 => kspl_open zz_pk); (case q2 => kspl_open zz_pk); (case q3 => kspl_open zz_pk); (case q4 => kspl_open zz_side); intro _) | ((with_reducible refine' Dh.g_eqW0 ?q0 ?q1 ?k); (case q0 => kspl_open zz_pk); (case q1 => kspl_open zz_pk)) | ((with_reducible refine' Dh.g_eqW1 ?q0 ?q1 ?k); (case q0 => kspl_open zz_pk); (case q1 => kspl_open zz_pk)) | ((with_reducible refine' Dh.g_disp ?k); intro _) | ((with_reducible refine' Dh.g_pairC ?k)) | ((with_reducible refine' Dh.g_pairN ?k)) | ((with_reducible refine' Dh.g_dispI2 ?q0 ?q1 ?k); (case q0 => kspl_open zz_pk); (case q1 => decide)))
local macro_rules | `(tactic| kspl_open zz_vc1) => `(tactic| first | ((refine' Dh.wk1 ?k); (repeat (with_reducible intro _))) | kspl_open zz_vcp0 | kspl_open zz_vcp1 | kspl_open zz_vcp2 | kspl_open zz_vcp3 | kspl_open zz_vcp4 | kspl_open zz_vcp5 | kspl_open zz_vcp6 | kspl_open zz_vcp7 | kspl_open zz_vcp8 | kspl_open zz_vcp9 | kspl_open zz_vcp10 | kspl_open zz_use1 | kspl_open zz_told1)
local macro_rules | `(tactic| kspl_open zz_vc) => `(tactic| repeat kspl_open zz_vc1)
local macro_rules | `(tactic| kspl_open zz_spl) => `(tactic| first | ((with_reducible refine Dh.g_ifD ?_ ?_) <;> intro _) | ((with_reducible refine Dh.g_ifN ?_ ?_) <;> intro _) | ((with_reducible refine Dh.g_if ?_ ?_) <;> intro _))
local macro_rules | `(tactic| kspl_open zz_vcs) => `(tactic| repeat' (first | kspl_open zz_vc1 | kspl_open zz_spl))

namespace Toy
open PySem L2
section
variable {P : Program} {w : World} {K : PySem.W.Frag} {mg : Str → Option Value} {base : Heap} {T : List (Addr × Str)} {C_Chip C_BadWord C_BadPlace C_BadPlan C_NotDue C_Stuck C_BadBits C_BadText C_TooLarge g_told : Addr}
def top (i : Nat) : Stmt := PySem.Challenge.pw_drivehall_k22_two_wires.main.body.getD i (.Pass ⟨0, 0, 0, 0⟩)
abbrev s_Chip___init__ : Stmt := inClass (top 19) 0
abbrev N_Chip___init__ : List Str := ["self", "place", "many"]
theorem sc_Chip___init__ : FnScope N_Chip___init__ ["self", "place", "many"] (defScope s_Chip___init__) := ⟨rfl, rfl, rfl, by decide +kernel, rfl, by decide +kernel, by decide +kernel⟩
abbrev s_begin : Stmt := top 11
abbrev N_begin : List Str := []
theorem sc_begin : FnScope N_begin [] (defScope s_begin) := ⟨rfl, rfl, rfl, by decide +kernel, rfl, by decide +kernel, by decide +kernel⟩
abbrev s_end : Stmt := top 12
abbrev N_end : List Str := []
theorem sc_end : FnScope N_end [] (defScope s_end) := ⟨rfl, rfl, rfl, by decide +kernel, rfl, by decide +kernel, by decide +kernel⟩
abbrev s_bit : Stmt := top 13
abbrev N_bit : List Str := ["much"]
theorem sc_bit : FnScope N_bit ["much"] (defScope s_bit) := ⟨rfl, rfl, rfl, by decide +kernel, rfl, by decide +kernel, by decide +kernel⟩
abbrev s_raised_two : Stmt := top 15
abbrev N_raised_two : List Str := ["k", "found", "turn"]
theorem sc_raised_two : FnScope N_raised_two ["k"] (defScope s_raised_two) := ⟨rfl, rfl, rfl, by decide +kernel, rfl, by decide +kernel, by decide +kernel⟩
abbrev s_octet : Stmt := top 14
abbrev N_octet : List Str := ["much", "answer", "found", "k"]
theorem sc_octet : FnScope N_octet ["much", "answer"] (defScope s_octet) := ⟨rfl, rfl, rfl, by decide +kernel, rfl, by decide +kernel, by decide +kernel⟩
abbrev s_said : Stmt := top 16
abbrev N_said : List Str := ["parts", "found", "k", "place", "reads", "row", "much", "answer"]
theorem sc_said : FnScope N_said ["parts"] (defScope s_said) := ⟨rfl, rfl, rfl, by decide +kernel, rfl, by decide +kernel, by decide +kernel⟩
abbrev s_heard_on : Stmt := top 17
abbrev N_heard_on : List Str := ["levels", "found", "bits", "last", "is_begun", "k", "clock", "data", "j", "one"]
theorem sc_heard_on : FnScope N_heard_on ["levels"] (defScope s_heard_on) := ⟨rfl, rfl, rfl, by decide +kernel, rfl, by decide +kernel, by decide +kernel⟩
abbrev s_parts_of : Stmt := top 18
abbrev N_parts_of : List Str := ["rows", "found", "k", "head", "inner"]
theorem sc_parts_of : FnScope N_parts_of ["rows"] (defScope s_parts_of) := ⟨rfl, rfl, rfl, by decide +kernel, rfl, by decide +kernel, by decide +kernel⟩
abbrev s_Chip_take : Stmt := inClass (top 19) 1
abbrev N_Chip_take : List Str := ["self", "row", "found", "k", "much"]
theorem sc_Chip_take : FnScope N_Chip_take ["self", "row"] (defScope s_Chip_take) := ⟨rfl, rfl, rfl, by decide +kernel, rfl, by decide +kernel, by decide +kernel⟩
abbrev s_Chip_give : Stmt := inClass (top 19) 2
abbrev N_Chip_give : List Str := ["self", "many", "found", "k"]
theorem sc_Chip_give : FnScope N_Chip_give ["self", "many"] (defScope s_Chip_give) := ⟨rfl, rfl, rfl, by decide +kernel, rfl, by decide +kernel, by decide +kernel⟩
abbrev s_exchanged : Stmt := top 20
abbrev N_exchanged : List Str := ["chips", "asks", "found", "place", "what", "chip", "row", "one", "k", "much"]
theorem sc_exchanged : FnScope N_exchanged ["chips", "asks"] (defScope s_exchanged) := ⟨rfl, rfl, rfl, by decide +kernel, rfl, by decide +kernel, by decide +kernel⟩
abbrev s_won : Stmt := top 21
abbrev N_won : List Str := ["rows", "left", "line", "wide", "k", "saying", "low", "row", "one"]
theorem sc_won : FnScope N_won ["rows"] (defScope s_won) := ⟨rfl, rfl, rfl, by decide +kernel, rfl, by decide +kernel, by decide +kernel⟩
abbrev s_law_dice : Stmt := top 23
abbrev N_law_dice : List Str := ["cell"]
theorem sc_law_dice : FnScope N_law_dice ["cell"] (defScope s_law_dice) := ⟨rfl, rfl, rfl, by decide +kernel, rfl, by decide +kernel, by decide +kernel⟩
abbrev s_law_roll : Stmt := top 24
abbrev N_law_roll : List Str := ["dice", "many", "found"]
theorem sc_law_roll : FnScope N_law_roll ["dice", "many"] (defScope s_law_roll) := ⟨rfl, rfl, rfl, by decide +kernel, rfl, by decide +kernel, by decide +kernel⟩
abbrev s_law_rounds : Stmt := top 25
abbrev N_law_rounds : List Str := ["script", "most", "cells", "cell"]
theorem sc_law_rounds : FnScope N_law_rounds ["script", "most"] (defScope s_law_rounds) := ⟨rfl, rfl, rfl, by decide +kernel, rfl, by decide +kernel, by decide +kernel⟩
abbrev s_law_told : Stmt := top 26
abbrev N_law_told : List Str := ["what"]
theorem sc_law_told : FnScope N_law_told ["what"] (defScope s_law_told) := ⟨rfl, rfl, rfl, by decide +kernel, rfl, by decide +kernel, by decide +kernel⟩
abbrev s_law_levels : Stmt := top 27
abbrev N_law_levels : List Str := ["dice", "parts", "due", "asks", "levels", "rows", "octets", "row", "place", "reads"]
theorem sc_law_levels : FnScope N_law_levels ["dice", "parts", "due", "asks"] (defScope s_law_levels) := ⟨rfl, rfl, rfl, by decide +kernel, rfl, by decide +kernel, by decide +kernel⟩
abbrev s_law_won : Stmt := top 28
abbrev N_law_won : List Str := ["dice", "many", "said_rows", "least", "j", "k"]
theorem sc_law_won : FnScope N_law_won ["dice"] (defScope s_law_won) := ⟨rfl, rfl, rfl, by decide +kernel, rfl, by decide +kernel, by decide +kernel⟩
abbrev s_law_refused : Stmt := top 29
abbrev N_law_refused : List Str := []
theorem sc_law_refused : FnScope N_law_refused [] (defScope s_law_refused) := ⟨rfl, rfl, rfl, by decide +kernel, rfl, by decide +kernel, by decide +kernel⟩
abbrev s_law : Stmt := top 30
abbrev N_law : List Str := ["script", "dice", "asks", "cells", "at", "due", "turn", "place", "what", "row", "held", "k", "chips", "parts", "chip"]
theorem sc_law : FnScope N_law ["script"] (defScope s_law) := ⟨rfl, rfl, rfl, by decide +kernel, rfl, by decide +kernel, by decide +kernel⟩
def fs_Chip (v0 v1 v2 : V) : List (Str × V) := [("place", v0), ("cells", v1), ("at", v2)]
theorem lk_Chip_place {v0 v1 v2 : V} : (fs_Chip v0 v1 v2).lookup ("place" : Str) = some v0 := by kernel_rfl
theorem pf_Chip_place {v0 v1 v2 y : V} : putF "place" y (fs_Chip v0 v1 v2) = fs_Chip y v1 v2 := by kernel_rfl
theorem lk_Chip_cells {v0 v1 v2 : V} : (fs_Chip v0 v1 v2).lookup ("cells" : Str) = some v1 := by kernel_rfl
theorem pf_Chip_cells {v0 v1 v2 y : V} : putF "cells" y (fs_Chip v0 v1 v2) = fs_Chip v0 y v2 := by kernel_rfl
theorem lk_Chip_at {v0 v1 v2 : V} : (fs_Chip v0 v1 v2).lookup ("at" : Str) = some v2 := by kernel_rfl
theorem pf_Chip_at {v0 v1 v2 y : V} : putF "at" y (fs_Chip v0 v1 v2) = fs_Chip v0 v1 y := by kernel_rfl
theorem ln_Chip {v0 v1 v2 : V} : (fs_Chip v0 v1 v2).length < 1000 := by show 3 < 1000; decide
theorem no_Chip_init {v0 v1 v2 : V} : (fs_Chip v0 v1 v2).lookup ("__init__" : Str) = none := by kernel_rfl
theorem no_Chip_take {v0 v1 v2 : V} : (fs_Chip v0 v1 v2).lookup ("take" : Str) = none := by kernel_rfl
theorem no_Chip_give {v0 v1 v2 : V} : (fs_Chip v0 v1 v2).lookup ("give" : Str) = none := by kernel_rfl
theorem gr_Chip_place {v0 : V} : putF "place" v0 ([] : List (Str × V)) = [(("place" : Str), v0)] := by kernel_rfl
theorem gr_Chip_cells {v0 v1 : V} : putF "cells" v1 ([(("place" : Str), v0)] : List (Str × V)) = [(("place" : Str), v0), (("cells" : Str), v1)] := by kernel_rfl
theorem gr_Chip_at {v0 v1 v2 : V} : putF "at" v2 ([(("place" : Str), v0), (("cells" : Str), v1)] : List (Str × V)) = fs_Chip v0 v1 v2 := by kernel_rfl
instance {v0 v1 v2 : V} : Dh.LkC (fs_Chip v0 v1 v2) ("place" : Str) v0 := ⟨lk_Chip_place⟩
instance {v0 v1 v2 y : V} : Dh.PfC ("place" : Str) y (fs_Chip v0 v1 v2) (fs_Chip y v1 v2) := ⟨pf_Chip_place⟩
instance {v0 v1 v2 : V} : Dh.LkC (fs_Chip v0 v1 v2) ("cells" : Str) v1 := ⟨lk_Chip_cells⟩
instance {v0 v1 v2 y : V} : Dh.PfC ("cells" : Str) y (fs_Chip v0 v1 v2) (fs_Chip v0 y v2) := ⟨pf_Chip_cells⟩
instance {v0 v1 v2 : V} : Dh.LkC (fs_Chip v0 v1 v2) ("at" : Str) v2 := ⟨lk_Chip_at⟩
instance {v0 v1 v2 y : V} : Dh.PfC ("at" : Str) y (fs_Chip v0 v1 v2) (fs_Chip v0 v1 y) := ⟨pf_Chip_at⟩
instance {v0 v1 v2 : V} : Dh.LnC (fs_Chip v0 v1 v2) := ⟨ln_Chip⟩
instance {v0 v1 v2 : V} : Dh.NoC (fs_Chip v0 v1 v2) ("__init__" : Str) := ⟨no_Chip_init⟩
instance {v0 v1 v2 : V} : Dh.NoC (fs_Chip v0 v1 v2) ("take" : Str) := ⟨no_Chip_take⟩
instance {v0 v1 v2 : V} : Dh.NoC (fs_Chip v0 v1 v2) ("give" : Str) := ⟨no_Chip_give⟩
instance : Dh.LnC ([] : List (Str × V)) := ⟨by show 0 < 1000; decide⟩
instance {v0 : V} : Dh.PfC ("place" : Str) v0 ([] : List (Str × V)) ([(("place" : Str), v0)]) := ⟨gr_Chip_place⟩
instance {v0 : V} : Dh.LnC ([(("place" : Str), v0)] : List (Str × V)) := ⟨by show 1 < 1000; decide⟩
instance {v0 v1 : V} : Dh.PfC ("cells" : Str) v1 ([(("place" : Str), v0)] : List (Str × V)) ([(("place" : Str), v0), (("cells" : Str), v1)]) := ⟨gr_Chip_cells⟩
instance {v0 v1 : V} : Dh.LnC ([(("place" : Str), v0), (("cells" : Str), v1)] : List (Str × V)) := ⟨by show 2 < 1000; decide⟩
instance {v0 v1 v2 : V} : Dh.PfC ("at" : Str) v2 ([(("place" : Str), v0), (("cells" : Str), v1)] : List (Str × V)) (fs_Chip v0 v1 v2) := ⟨gr_Chip_at⟩
structure Txt (K : PySem.W.Frag) (mg : Str → Option Value) (C_Chip C_BadWord C_BadPlace C_BadPlan C_NotDue C_Stuck C_BadBits C_BadText C_TooLarge g_told : Addr) : Prop where
  c_Chip : Cls K C_Chip
  n_Chip_at : NoAttr K C_Chip "at"
  n_Chip_cells : NoAttr K C_Chip "cells"
  n_Chip_place : NoAttr K C_Chip "place"
  b_abs : mg "abs" = none
  b_enumerate : mg "enumerate" = none
  b_int : mg "int" = none
  b_isinstance : mg "isinstance" = none
  b_len : mg "len" = none
  b_list : mg "list" = none
  b_max : mg "max" = none
  b_min : mg "min" = none
  b_range : mg "range" = none
  b_sum : mg "sum" = none
  b_super : mg "super" = none
  b_tuple : mg "tuple" = none
  b_zip : mg "zip" = none
  e_BadPlan : Dh.ExcX K mg "BadPlan" C_BadPlan
  t_law_told : Dh.ToldX K mg "_law_told" s_law_told g_told
  m_BadWord : mg "BadWord" = some (.ref C_BadWord)
  m_BadPlace : mg "BadPlace" = some (.ref C_BadPlace)
  m_BadPlan : mg "BadPlan" = some (.ref C_BadPlan)
  m_NotDue : mg "NotDue" = some (.ref C_NotDue)
  m_Stuck : mg "Stuck" = some (.ref C_Stuck)
  m_BadBits : mg "BadBits" = some (.ref C_BadBits)
  m_BadText : mg "BadText" = some (.ref C_BadText)
  m_TooLarge : mg "TooLarge" = some (.ref C_TooLarge)
  x_BadPlan_BadWord : PySem.W.exmOne K (.ref C_BadPlan) (.ref C_BadWord) = some false
  x_BadPlan_BadPlace : PySem.W.exmOne K (.ref C_BadPlan) (.ref C_BadPlace) = some false
  x_BadPlan_BadPlan : PySem.W.exmOne K (.ref C_BadPlan) (.ref C_BadPlan) = some true
  x_BadBits_BadWord : PySem.W.exmOne K (.ref C_BadBits) (.ref C_BadWord) = some false
  x_BadBits_BadPlace : PySem.W.exmOne K (.ref C_BadBits) (.ref C_BadPlace) = some false
  x_BadBits_BadPlan : PySem.W.exmOne K (.ref C_BadBits) (.ref C_BadPlan) = some false
  x_BadBits_NotDue : PySem.W.exmOne K (.ref C_BadBits) (.ref C_NotDue) = some false
  x_BadBits_Stuck : PySem.W.exmOne K (.ref C_BadBits) (.ref C_Stuck) = some false
  x_BadBits_BadBits : PySem.W.exmOne K (.ref C_BadBits) (.ref C_BadBits) = some true
theorem bnd_law_told {kV doc pm cdv ct : Value} {an : Option Addr} : L2.Binds K (PySem.W.fnOf "_law_told" "_law_told" (defArgs s_law_told) (defBody s_law_told) (defScope s_law_told) .none kV doc pm an cdv ct) ["what"] [] :=
  .all fun us hl => match us, hl with | [_], _ => rfl
theorem told_law_told {X : Cx} {cdv : Value} {q : Str} (Z : Txt X.K X.mg C_Chip C_BadWord C_BadPlace C_BadPlan C_NotDue C_Stuck C_BadBits C_BadText C_TooLarge g_told) : LamX.GivesTo X N_law_told "_law_told" (defScope s_law_told) g_told cdv (defBody s_law_told) "what" q (Dh.TTx X.K [(C_BadWord, "word"), (C_BadPlace, "place"), (C_BadPlan, "plan"), (C_NotDue, "due"), (C_Stuck, "stuck"), (C_BadBits, "bits"), (C_BadText, "text"), (C_TooLarge, "large")]) :=
  Dh.told_many (fun _ _ _ => (Dh.Clauses.cons (by rfl) Z.m_BadWord (by decide) (Dh.Clauses.cons (by rfl) Z.m_BadPlace (by decide) (Dh.Clauses.cons (by rfl) Z.m_BadPlan (by decide) (Dh.Clauses.cons (by rfl) Z.m_NotDue (by decide) (Dh.Clauses.cons (by rfl) Z.m_Stuck (by decide) (Dh.Clauses.cons (by rfl) Z.m_BadBits (by decide) (Dh.Clauses.cons (by rfl) Z.m_BadText (by decide) (Dh.Clauses.cons (by rfl) Z.m_TooLarge (by decide) Dh.Clauses.nil))))))))) (fun _ => rfl)
def d_Chip___init__ : He.DefD := Dh.dd ("Chip", some "__init__") "__init__" "Chip.__init__" s_Chip___init__
def d_begin : He.DefD := Dh.dd ("begin", none) "begin" "begin" s_begin
def d_end : He.DefD := Dh.dd ("end", none) "end" "end" s_end
def d_bit : He.DefD := Dh.dd ("bit", none) "bit" "bit" s_bit
def d_raised_two : He.DefD := Dh.dd ("raised_two", none) "raised_two" "raised_two" s_raised_two
def d_octet : He.DefD := Dh.dd ("octet", none) "octet" "octet" s_octet
def d_said : He.DefD := Dh.dd ("said", none) "said" "said" s_said
def d_heard_on : He.DefD := Dh.dd ("heard_on", none) "heard_on" "heard_on" s_heard_on
def d_parts_of : He.DefD := Dh.dd ("parts_of", none) "parts_of" "parts_of" s_parts_of
def d_Chip_take : He.DefD := Dh.dd ("Chip", some "take") "take" "Chip.take" s_Chip_take
def d_Chip_give : He.DefD := Dh.dd ("Chip", some "give") "give" "Chip.give" s_Chip_give
def d_exchanged : He.DefD := Dh.dd ("exchanged", none) "exchanged" "exchanged" s_exchanged
def d_won : He.DefD := Dh.dd ("won", none) "won" "won" s_won
def d_law_dice : He.DefD := Dh.dd ("_law_dice", none) "_law_dice" "_law_dice" s_law_dice
def d_law_roll : He.DefD := Dh.dd ("_law_roll", none) "_law_roll" "_law_roll" s_law_roll
def d_law_rounds : He.DefD := Dh.dd ("_law_rounds", none) "_law_rounds" "_law_rounds" s_law_rounds
def d_law_told : He.DefD := Dh.dd ("_law_told", none) "_law_told" "_law_told" s_law_told
def d_law_levels : He.DefD := Dh.dd ("_law_levels", none) "_law_levels" "_law_levels" s_law_levels
def d_law_won : He.DefD := Dh.dd ("_law_won", none) "_law_won" "_law_won" s_law_won
def d_law_refused : He.DefD := Dh.dd ("_law_refused", none) "_law_refused" "_law_refused" s_law_refused
def d_law : He.DefD := Dh.dd ("law", none) "law" "law" s_law
def fn : List He.DefD := [d_Chip___init__, d_begin, d_end, d_bit, d_raised_two, d_octet, d_said, d_heard_on, d_parts_of, d_Chip_take, d_Chip_give, d_exchanged, d_won, d_law_dice, d_law_roll, d_law_rounds, d_law_told, d_law_levels, d_law_won, d_law_refused, d_law]
def fa : List He.Fa := [.glo "begin", .glo "end", .glo "bit", .glo "raised_two", .glo "octet", .glo "said", .glo "heard_on", .glo "parts_of", .glo "exchanged", .glo "won", .glo "_law_dice", .glo "_law_roll", .glo "_law_rounds", .glo "_law_told", .glo "_law_levels", .glo "_law_won", .glo "_law_refused", .glo "law", .glo "Chip", .glo "BadWord", .glo "BadPlace", .glo "BadPlan", .glo "NotDue", .glo "Stuck", .glo "BadBits", .glo "BadText", .glo "TooLarge", .free "abs", .free "enumerate", .free "int", .free "isinstance", .free "len", .free "list", .free "max", .free "min", .free "range", .free "sum", .free "super", .free "tuple", .free "zip", .cls "Chip", .noat "Chip" "at", .noat "Chip" "cells", .noat "Chip" "place", .mkr "Chip", .meth "Chip" "take", .meth "Chip" "give", .exc "BadPlan", .exm "BadPlan" "BadWord" false, .exm "BadPlan" "BadPlace" false, .exm "BadPlan" "BadPlan" true, .exm "BadBits" "BadWord" false, .exm "BadBits" "BadPlace" false, .exm "BadBits" "BadPlan" false, .exm "BadBits" "NotDue" false, .exm "BadBits" "Stuck" false, .exm "BadBits" "BadBits" true]
def tf : List He.Defn := [("heard_on", none), ("_law_levels", none), ("_law_refused", none)]
def tfs : List (He.Defn × Str) := [(("heard_on", none), Dh.genQ (Dh.locQ "heard_on")), (("_law_levels", none), Dh.lamQ (Dh.locQ "_law_levels")), (("_law_refused", none), Dh.lamQ (Dh.locQ "_law_refused"))]
abbrev R : PySem.W.OpenRow := PySem.W.OpenLaw.row PySem.Challenge.rw_drivehall_k22_two_wires
def exB (K : PySem.W.Frag) : Bool := Dh.apartB tfs K && Dh.supB R.prog K "BadBits" "place" "place"
abbrev hk : PySem.W.Hook := Dh.hookY 6 fa fn tf exB
def ob (s : PySem.W.SharedT) : He.AlD × Bool := Dh.obsY 6 fa fn tf exB (HandSHeadRun.getT s)
theorem ob_eq (s : PySem.W.SharedT) : ob s = hk.obs s.abs := Dh.obsY_eq (HandSHeadRun.getT_eq s)
def loose : List Str := (["__name__", "DriveFault", "BadWord", "BadPlace", "BadPlan", "NotDue", "Stuck", "BadBits", "BadText", "TooLarge", "begin", "end", "bit", "octet", "raised_two", "said", "heard_on", "parts_of", "Chip", "exchanged", "won", "_law_dice", "_law_roll", "_law_rounds", "_law_told", "_law_levels", "_law_won", "_law_refused"] : List Str)
theorem run (w : World) : HandSHeadRun.RunEq R (PySem.W.view R.prog [30]) hk ob 20000 loose w := by
  intro os
  kernel_rfl
end
end Toy
end

local macro_rules | `(tactic| kspl_open zz_pk) => `(tactic| (with_reducible first | exact Dh.pick_here | (refine' Dh.pick_there ?p; (case p => kspl_open zz_pk))))
local macro_rules | `(tactic| kspl_open zz_ent) => `(tactic| (repeat' kspl_open zz_ent1))
local macro_rules | `(tactic| kspl_open zz_side) => `(tactic| first | (with_reducible assumption) | omega | (simp only [List.length_cons, List.length_nil, List.length_append, List.length_map, List.length_range, List.length_replicate, List.length_set, List.length_take, List.length_drop, PySem.sizeLine_eq] <;> omega) | (exact Dh.log2_ok (by omega)) | (simp only [L2.CMul, L2.CDiv, L2.CDivN]; omega) | (unfold L2.CPow; decide) | decide | (exact Or.inl rfl) | (exact Or.inr rfl) )
local macro_rules | `(tactic| kspl_open zz_dvp) => `(tactic| (with_reducible first | exact Dh.DV.int | exact Dh.DV.str | exact Dh.DV.bl | exact Dh.DV.non | exact Dh.DVs.nil | (refine' Dh.Pick.dvs ?a (by assumption); (case a => kspl_open zz_pk)) | (refine' Dh.Pick.dv ?a (by assumption); (case a => kspl_open zz_pk)) | (refine' Dh.DVs.cons ?a ?b; (case a => kspl_open zz_dvp); (case b => kspl_open zz_dvp)) | (refine' Dh.DVs.app ?a ?b; (case a => kspl_open zz_dvp); (case b => kspl_open zz_dvp)) | (refine' Dh.Pick.tup ?a (by assumption) ?b; (case a => kspl_open zz_pk); (case b => kspl_open zz_dvp)) | (refine' Dh.DVs.take _ ?a; (case a => kspl_open zz_dvp)) | (refine' Dh.DVs.drop _ ?a; (case a => kspl_open zz_dvp)) | (refine' Dh.DVs.set _ ?a ?b; (case a => kspl_open zz_dvp); (case b => kspl_open zz_dvp))))
local macro_rules | `(tactic| kspl_open zz_ixs) => `(tactic| first | assumption | omega | (simp only [List.length_set, List.length_map, List.length_cons, List.length_nil, List.length_append, List.length_replicate] <;> first | assumption | omega))
local macro_rules | `(tactic| kspl_open zz_lk) => `(tactic| first | rfl | assumption | (exact Dh.ixN_lt (by kspl_open zz_ixs)) | (exact Dh.atI_lt (by assumption)) | (exact Dh.atI_map (by assumption))  | with_reducible exact Toy.lk_Chip_place | with_reducible exact Toy.lk_Chip_cells | with_reducible exact Toy.lk_Chip_at | with_reducible exact Toy.no_Chip_init | with_reducible exact Toy.no_Chip_take | with_reducible exact Toy.no_Chip_give)
local macro_rules | `(tactic| kspl_open zz_kt) => `(tactic| assumption)
local macro_rules | `(tactic| kspl_open zz_pf) => `(tactic| first  | with_reducible exact Toy.pf_Chip_place | with_reducible exact Toy.pf_Chip_cells | with_reducible exact Toy.pf_Chip_at | with_reducible exact Toy.gr_Chip_place | with_reducible exact Toy.gr_Chip_cells | with_reducible exact Toy.gr_Chip_at | rfl)
local macro_rules | `(tactic| kspl_open zz_ln) => `(tactic| first  | with_reducible exact Toy.ln_Chip | decide | (simp only [List.length_cons, List.length_nil] <;> omega))
local macro_rules | `(tactic| kspl_open zz_vcp0) => `(tactic| first | ((with_reducible refine' Dh.g_seq ?k)) | ((with_reducible refine' Dh.g_next ?k)) | ((with_reducible refine' Dh.g_nonA ?k)) | ((with_reducible refine' Dh.g_var ?q0 ?k); (case q0 => rfl)) | ((with_reducible refine' Dh.g_c ?k)) | ((with_reducible refine' Dh.g_op ?k)) | ((with_reducible refine' Dh.g_asg ?k)) | ((with_reducible refine' Dh.g_name ?k)) | ((with_reducible refine' Dh.g_ifS ?k)) | ((with_reducible refine' Dh.g_test ?k)) | ((with_reducible refine' Dh.g_isB ?k)) | ((with_reducible refine' Dh.g_B ?k)) | ((with_reducible refine' Dh.g_ret ?k)) | ((with_reducible refine' Dh.g_retN ?k)) | ((with_reducible refine' Dh.g_drop ?k)) | ((with_reducible refine' Dh.g_brk ?k)) | ((with_reducible refine' Dh.g_cont ?k)) | ((with_reducible refine' Dh.g_un ?k)) | ((with_reducible refine' Dh.g_I0 ?k)) | ((with_reducible refine' Dh.g_addI ?k)) | ((with_reducible refine' Dh.g_addB ?k)) | ((with_reducible refine' Dh.g_addS ?q0 ?k); (case q0 => kspl_open zz_side)) | ((with_reducible refine' Dh.g_addM ?q0 ?q1 ?q2 ?k); (case q0 => kspl_open zz_pk); (case q1 => kspl_open zz_pk); (case q2 => kspl_open zz_side); intro _) | ((with_reducible refine' Dh.g_addL ?q0 ?q1 ?q2 ?k); (case q0 => kspl_open zz_pk); (case q1 => kspl_open zz_pk); (case q2 => kspl_open zz_side); intro _))
local macro_rules | `(tactic| kspl_open zz_vcp1) => `(tactic| first | ((with_reducible refine' Dh.g_I ?q0 ?k); (case q0 => kspl_open zz_side)) | ((with_reducible refine' Dh.g_mulI ?q0 ?k); (case q0 => kspl_open zz_side)) | ((with_reducible refine' Dh.g_U ?k)) | ((with_reducible refine' Dh.g_eqS ?q0 ?k); (case q0 => rfl)) | ((with_reducible refine' Dh.g_neS ?q0 ?k); (case q0 => rfl)) | ((with_reducible refine' Dh.g_eqLL ?q0 ?q1 ?k); (case q0 => kspl_open zz_pk); (case q1 => kspl_open zz_pk)) | ((with_reducible refine' Dh.g_neLL ?q0 ?q1 ?k); (case q0 => kspl_open zz_pk); (case q1 => kspl_open zz_pk)) | ((with_reducible refine' Dh.g_eqL0 ?q0 ?q1 ?k); (case q0 => kspl_open zz_pk); (case q1 => kspl_open zz_pk)) | ((with_reducible refine' Dh.g_neL0 ?q0 ?q1 ?k); (case q0 => kspl_open zz_pk); (case q1 => kspl_open zz_pk)) | ((with_reducible refine' Dh.g_neT0 ?q0 ?q1 ?q2 ?k); (case q0 => kspl_open zz_pk); (case q1 => kspl_open zz_pk); (case q2 => kspl_open zz_pk)) | ((with_reducible refine' Dh.g_neP ?q0 ?q1 ?k); (case q0 => kspl_open zz_pk); (case q1 => kspl_open zz_pk)) | ((with_reducible refine' Dh.g_inI ?q0 ?k); (case q0 => kspl_open zz_pk)) | ((with_reducible refine' Dh.g_eqTT ?q0 ?q1 ?k); (case q0 => kspl_open zz_pk); (case q1 => kspl_open zz_pk)) | ((with_reducible refine' Dh.g_neTT ?q0 ?q1 ?k); (case q0 => kspl_open zz_pk); (case q1 => kspl_open zz_pk)) | ((with_reducible refine' Dh.g_eqNN ?q0 ?q1 ?k); (case q0 => kspl_open zz_pk); (case q1 => kspl_open zz_pk)) | ((with_reducible refine' Dh.g_neNN ?q0 ?q1 ?k); (case q0 => kspl_open zz_pk); (case q1 => kspl_open zz_pk)) | ((with_reducible refine' Dh.g_eqN0 ?q0 ?q1 ?k); (case q0 => kspl_open zz_pk); (case q1 => kspl_open zz_pk)) | ((with_reducible refine' Dh.g_neN0 ?q0 ?q1 ?k); (case q0 => kspl_open zz_pk); (case q1 => kspl_open zz_pk)) | ((with_reducible refine' Dh.g_neTN ?q0 ?q1 ?k); (case q0 => kspl_open zz_pk); (case q1 => kspl_open zz_pk)) | ((with_reducible refine' Dh.g_neBB ?q0 ?q1 ?k); (case q0 => kspl_open zz_pk); (case q1 => kspl_open zz_pk)) | ((with_reducible refine' Dh.g_eqBB ?q0 ?q1 ?k); (case q0 => kspl_open zz_pk); (case q1 => kspl_open zz_pk)) | ((with_reducible refine' Dh.g_inN ?q0 ?k); (case q0 => kspl_open zz_pk)) | ((with_reducible refine' Dh.g_notInN ?q0 ?k); (case q0 => kspl_open zz_pk)) | ((with_reducible refine' Dh.g_notInI ?q0 ?k); (case q0 => kspl_open zz_pk)))
local macro_rules | `(tactic| kspl_open zz_vcp2) => `(tactic| first | ((with_reducible refine' Dh.g_inB ?q0 ?k); (case q0 => kspl_open zz_pk)) | ((with_reducible refine' Dh.g_isN ?k)) | ((with_reducible refine' Dh.g_notN ?k)) | ((with_reducible refine' Dh.g_ixL ?q0 ?q1 ?k); (case q0 => kspl_open zz_pk); (case q1 => kspl_open zz_lk)) | ((with_reducible refine' Dh.g_ixT ?q0 ?q1 ?k); (case q0 => kspl_open zz_pk); (case q1 => kspl_open zz_lk)) | ((with_reducible refine' Dh.g_sl ?k)) | ((with_reducible refine' Dh.g_noPart ?k)) | ((with_reducible refine' Dh.g_part ?k)) | ((with_reducible refine' Dh.g_isSomeInt ?k)) | ((with_reducible refine' Dh.g_slTk ?q0 ?k); (case q0 => kspl_open zz_pk); intro _) | ((with_reducible refine' Dh.g_slDr ?q0 ?k); (case q0 => kspl_open zz_pk); intro _) | ((with_reducible refine' Dh.g_slL ?q0 ?k); (case q0 => kspl_open zz_pk); intro _) | ((with_reducible refine' Dh.g_slQTk ?q0 ?k); (case q0 => kspl_open zz_pk); intro _) | ((with_reducible refine' Dh.g_slQ ?q0 ?k); (case q0 => kspl_open zz_pk); intro _) | ((with_reducible refine' Dh.g_fldE ?k)) | ((with_reducible refine' Dh.g_fld ?q0 ?q1 ?k); (case q0 => kspl_open zz_pk); (case q1 => kspl_open zz_lk)) | ((with_reducible refine' Dh.g_tup ?k)) | ((with_reducible refine' Dh.g_lst ?k)) | ((with_reducible refine' Dh.g_newT ?q0 ?k); (case q0 => kspl_open zz_side); intro _) | ((with_reducible refine' Dh.g_newL ?q0 ?k); (case q0 => kspl_open zz_side); intro _) | ((with_reducible refine' Dh.g_nil ?k)) | ((with_reducible refine' Dh.g_cons ?k)) | ((with_reducible refine' Dh.g_call ?k)) | ((with_reducible refine' Dh.g_methE ?k)))
local macro_rules | `(tactic| kspl_open zz_vcp3) => `(tactic| first | ((with_reducible refine' Dh.g_meth ?q0 ?k); (case q0 => kspl_open zz_hasm)) | ((with_reducible refine' Dh.g_make ?k)) | ((with_reducible refine' Dh.g_made ?k); intro _) | ((with_reducible refine' Dh.g_cb ?k)) | ((with_reducible refine' Dh.g_int ?k)) | ((with_reducible refine' Dh.g_intB ?k)) | ((with_reducible refine' Dh.g_abs ?k)) | ((with_reducible refine' Dh.g_max2 ?k)) | ((with_reducible refine' Dh.g_min2 ?k)) | ((with_reducible refine' Dh.g_strI ?q0 ?k); (case q0 => kspl_open zz_side)) | ((with_reducible refine' Dh.g_lenL ?q0 ?k); (case q0 => kspl_open zz_pk)) | ((with_reducible refine' Dh.g_lenT ?q0 ?k); (case q0 => kspl_open zz_pk)) | ((with_reducible refine' Dh.g_lenD ?q0 ?k); (case q0 => kspl_open zz_pk)) | ((with_reducible refine' Dh.g_listL ?q0 ?k); (case q0 => kspl_open zz_pk); intro _) | ((with_reducible refine' Dh.g_listT ?q0 ?k); (case q0 => kspl_open zz_pk); intro _) | ((with_reducible refine' Dh.g_tupL ?q0 ?k); (case q0 => kspl_open zz_pk); intro _) | ((with_reducible refine' Dh.g_tupT ?q0 ?k); (case q0 => kspl_open zz_pk)) | ((with_reducible refine' Dh.g_pop0 ?q0 ?k); (case q0 => kspl_open zz_pk)) | ((with_reducible refine' Dh.g_bm ?k)) | ((with_reducible refine' Dh.g_bm0 ?k)) | ((with_reducible refine' Dh.g_tyL ?q0 ?k); (case q0 => kspl_open zz_pk)) | ((with_reducible refine' Dh.g_append ?q0 ?q1 ?k); (case q0 => kspl_open zz_pk); (case q1 => kspl_open zz_side)) | ((with_reducible refine' Dh.g_repB ?q0 ?q1 ?k); (case q0 => kspl_open zz_pk); (case q1 => kspl_open zz_side); intro _) | ((with_reducible refine' Dh.g_repI ?q0 ?q1 ?k); (case q0 => kspl_open zz_pk); (case q1 => kspl_open zz_side); intro _))
local macro_rules | `(tactic| kspl_open zz_vcp4) => `(tactic| first | ((with_reducible refine' Dh.g_rep ?q0 ?q1 ?q2 ?q3 ?k); (case q0 => kspl_open zz_pk); (case q1 => kspl_open zz_side); (case q2 => kspl_open zz_side); (case q3 => kspl_open zz_side); intro _) | ((with_reducible refine' Dh.g_not ?k)) | ((with_reducible refine' Dh.g_tand ?k)) | ((with_reducible refine' Dh.g_tor ?k)) | ((with_reducible refine' Dh.g_andV ?k)) | ((with_reducible refine' Dh.g_orV ?k)) | ((with_reducible refine' Dh.g_notV ?k)) | ((with_reducible refine' Dh.g_ifE ?k)) | ((with_reducible refine' Dh.g_chain ?k)) | ((with_reducible refine' Dh.g_tru ?k)) | ((with_reducible refine' Dh.g_truB ?k)) | ((with_reducible refine' Dh.g_truI ?k)) | ((with_reducible refine' Dh.g_truN ?k)) | ((with_reducible refine' Dh.g_truL ?q0 ?k); (case q0 => kspl_open zz_pk)) | ((with_reducible refine' Dh.g_gsub ?k)) | ((with_reducible refine' Dh.g_setM ?q0 ?q1 ?k); (case q0 => kspl_open zz_pk); (case q1 => kspl_open zz_lk)) | ((with_reducible refine' Dh.g_setL ?q0 ?q1 ?k); (case q0 => kspl_open zz_pk); (case q1 => kspl_open zz_lk)) | ((with_reducible refine' Dh.g_gtup ?q0 ?q1 ?k); (case q0 => kspl_open zz_pk); (case q1 => rfl)) | ((with_reducible refine' Dh.g_gnil ?k)) | ((with_reducible refine' Dh.g_gcons ?k)) | ((with_reducible refine' Dh.g_par ?k)) | ((with_reducible refine' Dh.g_par2 ?k)) | ((with_reducible refine' Dh.g_par3 ?k)) | ((with_reducible refine' Dh.g_par3b ?k)))
local macro_rules | `(tactic| kspl_open zz_vcp5) => `(tactic| first | ((with_reducible refine' Dh.g_listRg ?k)) | ((with_reducible refine' Dh.g_rg1E ?k)) | ((with_reducible refine' Dh.g_rg1 ?k)) | ((with_reducible refine' Dh.g_rgN ?q0 ?k); (case q0 => kspl_open zz_side); intro _) | ((with_reducible refine' Dh.g_rgL ?q0 ?k); (case q0 => kspl_open zz_side); intro _) | ((with_reducible refine' Dh.g_dinE ?k)) | ((with_reducible refine' Dh.g_dinI ?q0 ?k); (case q0 => kspl_open zz_pk)) | ((with_reducible refine' Dh.g_dnotinE ?k)) | ((with_reducible refine' Dh.g_dnotinI ?q0 ?k); (case q0 => kspl_open zz_pk)) | ((with_reducible refine' Dh.g_dgetE ?k)) | ((with_reducible refine' Dh.g_dgetI ?q0 ?q1 ?k); (case q0 => kspl_open zz_pk); (case q1 => kspl_open zz_lk)) | ((with_reducible refine' Dh.g_dputE ?k)) | ((with_reducible refine' Dh.g_dputI ?q0 ?q1 ?k); (case q0 => kspl_open zz_pk); (case q1 => kspl_open zz_side)) | ((with_reducible refine' Dh.g_dpopE ?k)) | ((with_reducible refine' Dh.g_dpopA ?q0 ?k); (case q0 => kspl_open zz_pk)) | ((with_reducible refine' Dh.g_dpopB ?q0 ?q1 ?k); (case q0 => kspl_open zz_pk); (case q1 => kspl_open zz_lk)) | ((with_reducible refine' Dh.g_dnew ?k); intro _) | ((with_reducible refine' Dh.g_ipMul ?q0 ?k); (case q0 => kspl_open zz_side)) | ((with_reducible refine' Dh.g_sfldE ?k)) | ((with_reducible refine' Dh.g_sfld ?q0 ?q1 ?q2 ?k); (case q0 => kspl_open zz_pk); (case q1 => kspl_open zz_pf); (case q2 => kspl_open zz_ln)) | ((with_reducible refine' Dh.g_augE ?k)) | ((with_reducible refine' Dh.g_augF ?q0 ?q1 ?k); (case q0 => kspl_open zz_pk); (case q1 => kspl_open zz_lk)) | ((with_reducible refine' Dh.g_augV ?q0 ?k); (case q0 => rfl)) | ((with_reducible refine' Dh.g_ipI ?k)))
local macro_rules | `(tactic| kspl_open zz_vcp6) => `(tactic| first | ((with_reducible refine' Dh.g_rAdd ?k)) | ((with_reducible refine' Dh.g_rSub ?k)) | ((with_reducible refine' Dh.g_for ?k)) | ((with_reducible refine' Dh.g_iRng1 ?k)) | ((with_reducible refine' Dh.g_iRng2 ?k)) | ((with_reducible refine' Dh.g_rng1 ?q0 ?q1 ?k); (case q0 => kspl_open zz_side); (case q1 => kspl_open zz_side)) | ((with_reducible refine' Dh.g_rng2 ?q0 ?k); (case q0 => kspl_open zz_side)) | ((with_reducible refine' Dh.g_iSeqE ?k)) | ((with_reducible refine' Dh.g_iSeqL ?q0 ?k); (case q0 => kspl_open zz_pk)) | ((with_reducible refine' Dh.g_iSeqT ?q0 ?k); (case q0 => kspl_open zz_pk)) | ((with_reducible refine' Dh.g_inK ?q0 ?k); (case q0 => kspl_open zz_kt)) | ((with_reducible refine' Dh.g_notInK ?q0 ?k); (case q0 => kspl_open zz_kt)) | ((with_reducible refine' Dh.g_isiII ?k)) | ((with_reducible refine' Dh.g_isiIB ?k)) | ((with_reducible refine' Dh.g_dinS ?q0 ?k); (case q0 => kspl_open zz_pk)) | ((with_reducible refine' Dh.g_dnotinS ?q0 ?k); (case q0 => kspl_open zz_pk)) | ((with_reducible refine' Dh.g_dgetS ?q0 ?q1 ?k); (case q0 => kspl_open zz_pk); (case q1 => kspl_open zz_lk)) | ((with_reducible refine' Dh.g_dputS ?q0 ?q1 ?k); (case q0 => kspl_open zz_pk); (case q1 => kspl_open zz_side)) | ((with_reducible refine' Dh.g_dpopS ?q0 ?q1 ?k); (case q0 => kspl_open zz_pk); (case q1 => kspl_open zz_lk)) | ((with_reducible refine' Dh.g_iRevE ?k)) | ((with_reducible refine' Dh.g_iRevL ?q0 ?k); (case q0 => kspl_open zz_pk)) | ((with_reducible refine' Dh.g_iRevT ?q0 ?k); (case q0 => kspl_open zz_pk)) | ((with_reducible refine' Dh.g_iZipE ?k)) | ((with_reducible refine' Dh.g_iZipL ?q0 ?q1 ?k); (case q0 => kspl_open zz_pk); (case q1 => kspl_open zz_pk)))
local macro_rules | `(tactic| kspl_open zz_vcp7) => `(tactic| first | ((with_reducible refine' Dh.g_iZipT ?q0 ?q1 ?k); (case q0 => kspl_open zz_pk); (case q1 => kspl_open zz_pk)) | ((with_reducible refine' Dh.g_iEnumE ?k)) | ((with_reducible refine' Dh.g_iEnum ?q0 ?k); (case q0 => kspl_open zz_pk)) | ((with_reducible refine' Dh.g_dcE ?k)) | ((with_reducible refine' Dh.g_dturn ?k)) | ((with_reducible refine' Dh.g_sum ?q0 ?k); (case q0 => kspl_open zz_pk)) | ((with_reducible refine' Dh.g_popL ?q0 ?q1 ?k); (case q0 => kspl_open zz_pk); (case q1 => kspl_open zz_lk)) | ((with_reducible refine' Dh.g_pop ?q0 ?q1 ?k); (case q0 => kspl_open zz_pk); (case q1 => kspl_open zz_lk)) | ((with_reducible refine' Dh.g_anyE ?k)) | ((with_reducible refine' Dh.g_allE ?k)) | ((with_reducible refine' Dh.g_sumE ?k)) | ((with_reducible refine' Dh.g_gturn ?k)) | ((with_reducible refine' Dh.g_anyB ?q0 ?k); (case q0 => kspl_open zz_pk)) | ((with_reducible refine' Dh.g_wbody ?k)) | ((with_reducible refine' Dh.g_lcE ?k)) | ((with_reducible refine' Dh.g_turn ?k)) | ((with_reducible refine' Dh.g_tYes ?k)) | ((with_reducible refine' Dh.g_rs ?k)) | ((with_reducible refine' Dh.g_rsW ?k)) | ((with_reducible refine' Dh.g_told ?k)) | ((with_reducible refine' Dh.g_ifT ?q0 ?k); (case q0 => rfl)) | ((with_reducible refine' Dh.g_ifF ?q0 ?k); (case q0 => rfl)) | ((with_reducible refine' Dh.g_and ?q0 ?k); (case q0 => rfl)) | ((with_reducible refine' Dh.g_turn ?k)))
local macro_rules | `(tactic| kspl_open zz_vcp8) => `(tactic| first | ((with_reducible refine' Dh.g_rsxE ?k)) | ((with_reducible refine' Dh.g_rsx ?k); intro _) | ((with_reducible refine' Dh.g_get1E ?k)) | ((with_reducible refine' Dh.g_get1 ?q0 ?k); (case q0 => kspl_open zz_pk)) | ((with_reducible refine' Dh.g_get1I ?q0 ?k); (case q0 => kspl_open zz_pk)) | ((with_reducible refine' Dh.g_get2E ?k)) | ((with_reducible refine' Dh.g_get2 ?q0 ?k); (case q0 => kspl_open zz_pk)) | ((with_reducible refine' Dh.g_get2I ?q0 ?k); (case q0 => kspl_open zz_pk)) | ((with_reducible refine' Dh.g_setdE ?k)) | ((with_reducible refine' Dh.g_setd ?q0 ?k); (case q0 => kspl_open zz_pk)) | ((with_reducible refine' Dh.g_methW ?k)) | ((with_reducible refine' Dh.g_tTry ?k)) | ((with_reducible refine' Dh.g_xf ?q0 ?q1 ?q2 ?k); (case q0 => rfl); (case q1 => kspl_open zz_pk); (case q2 => rfl)) | ((with_reducible refine' Dh.g_lc2E ?k)) | ((with_reducible refine' Dh.g_turn2 ?k)) | ((with_reducible refine' Dh.g_addTN ?q0 ?q1 ?q2 ?q3 ?k); (case q0 => kspl_open zz_pk); (case q1 => kspl_open zz_pk); (case q2 => kspl_open zz_side); (case q3 => kspl_open zz_side); intro _) | ((with_reducible refine' Dh.g_repT ?q0 ?q1 ?q2 ?k); (case q0 => kspl_open zz_pk); (case q1 => kspl_open zz_side); (case q2 => kspl_open zz_side); intro _) | ((with_reducible refine' Dh.g_eqTN ?q0 ?q1 ?k); (case q0 => kspl_open zz_pk); (case q1 => kspl_open zz_pk)) | ((with_reducible refine' Dh.g_iRng3 ?k)) | ((with_reducible refine' Dh.g_callS ?k)) | ((with_reducible refine' Dh.g_tryO ?k)) | ((with_reducible refine' Dh.g_sumN ?q0 ?k); (case q0 => kspl_open zz_pk)) | ((with_reducible refine' Dh.g_iEnumTE ?k)) | ((with_reducible refine' Dh.g_iEnumT ?q0 ?k); (case q0 => kspl_open zz_pk)))
local macro_rules | `(tactic| kspl_open zz_vcp9) => `(tactic| first | ((with_reducible refine' Dh.g_slTt ?q0 ?q1 ?k); (case q0 => kspl_open zz_pk); (case q1 => kspl_open zz_side); intro _) | ((with_reducible refine' Dh.g_slTd ?q0 ?q1 ?q2 ?k); (case q0 => kspl_open zz_pk); (case q1 => kspl_open zz_side); (case q2 => kspl_open zz_side); intro _) | ((with_reducible refine' Dh.g_slTm ?q0 ?q1 ?q2 ?k); (case q0 => kspl_open zz_pk); (case q1 => kspl_open zz_side); (case q2 => kspl_open zz_side); intro _) | ((with_reducible refine' Dh.g_insert ?q0 ?q1 ?q2 ?k); (case q0 => kspl_open zz_pk); (case q1 => kspl_open zz_side); (case q2 => kspl_open zz_side)) | ((with_reducible refine' Dh.g_iRevR ?k)) | ((with_reducible refine' Dh.g_revN ?q0 ?k); (case q0 => kspl_open zz_side)) | ((with_reducible refine' Dh.g_removeI ?q0 ?q1 ?k); (case q0 => kspl_open zz_pk); (case q1 => kspl_open zz_side)) | ((with_reducible refine' Dh.g_extN ?q0 ?q1 ?q2 ?k); (case q0 => kspl_open zz_pk); (case q1 => kspl_open zz_pk); (case q2 => kspl_open zz_side)) | ((with_reducible refine' Dh.g_extI ?q0 ?q1 ?q2 ?k); (case q0 => kspl_open zz_pk); (case q1 => kspl_open zz_pk); (case q2 => kspl_open zz_side)) | ((with_reducible refine' Dh.g_lockS ?q0 ?k); (case q0 => kspl_open zz_pk); intro _) | ((with_reducible refine' Dh.g_lockE ?q0 ?k); (case q0 => kspl_open zz_pk); intro _) | ((with_reducible refine' Dh.g_unl ?q0 ?k); (case q0 => kspl_open zz_pk)) | ((with_reducible refine' Dh.g_iKeysE ?k)) | ((with_reducible refine' Dh.g_iKeysT ?q0 ?k); (case q0 => kspl_open zz_pk)) | ((with_reducible refine' Dh.g_dinP ?q0 ?q1 ?k); (case q0 => kspl_open zz_pk); (case q1 => kspl_open zz_pk)) | ((with_reducible refine' Dh.g_dnotinP ?q0 ?q1 ?k); (case q0 => kspl_open zz_pk); (case q1 => kspl_open zz_pk)) | ((with_reducible refine' Dh.g_dputP ?q0 ?q1 ?q2 ?q3 ?k); (case q0 => kspl_open zz_pk); (case q1 => kspl_open zz_pk); (case q2 => kspl_open zz_side); (case q3 => kspl_open zz_side)) | ((with_reducible refine' Dh.g_bmD ?k)) | ((with_reducible refine' Dh.g_tyD ?q0 ?k); (case q0 => kspl_open zz_pk)) | ((with_reducible refine' Dh.g_popP ?q0 ?q1 ?q2 ?k); (case q0 => kspl_open zz_pk); (case q1 => kspl_open zz_pk); (case q2 => kspl_open zz_side)) | ((with_reducible refine' Dh.g_newDT ?k); intro _) | ((with_reducible refine' Dh.g_bmT ?k)) | ((with_reducible refine' Dh.g_dinN ?q0 ?k); (case q0 => kspl_open zz_pk)) | ((with_reducible refine' Dh.g_dputN ?q0 ?q1 ?k); (case q0 => kspl_open zz_pk); (case q1 => kspl_open zz_side)))
local macro_rules | `(tactic| kspl_open zz_vcp10) => `(tactic| first | ((with_reducible refine' Dh.g_sortDN ?q0 ?q1 ?k); (case q0 => kspl_open zz_pk); (case q1 => kspl_open zz_side); intro _) | ((with_reducible refine' Dh.g_sortN ?q0 ?q1 ?k); (case q0 => kspl_open zz_pk); (case q1 => kspl_open zz_side); intro _) | ((with_reducible refine' Dh.g_glst ?q0 ?q1 ?k); (case q0 => kspl_open zz_pk); (case q1 => rfl)) | ((with_reducible refine' Dh.g_sumWN ?q0 ?k); (case q0 => kspl_open zz_pk)) | ((with_reducible refine' Dh.g_slWm ?q0 ?k); (case q0 => kspl_open zz_pk); intro _) | ((with_reducible refine' Dh.g_slWt ?q0 ?k); (case q0 => kspl_open zz_pk); intro _) | ((with_reducible refine' Dh.g_repW ?q0 ?q1 ?q2 ?k); (case q0 => kspl_open zz_pk); (case q1 => kspl_open zz_side); (case q2 => kspl_open zz_side); intro _) | ((with_reducible refine' Dh.g_tupZipE ?k)) | ((with_reducible refine' Dh.g_tupZip ?q0 ?q1 ?q2 ?k); (case q0 => kspl_open zz_pk); (case q1 => kspl_open zz_pk); (case q2 => kspl_open zz_side); intros) | ((with_reducible refine' Dh.g_minR ?q0 ?q1 ?k); (case q0 => kspl_open zz_pk); (case q1 => kspl_open zz_pk); intro _) | ((with_reducible refine' Dh.g_iEnumBE ?k)) | ((with_reducible refine' Dh.g_neN2 ?q0 ?q1 ?q2 ?q3 ?q4 ?q5 ?k); (case q0 => kspl_open zz_pk); (case q1 => kspl_open zz_pk); (case q2 => kspl_open zz_pk); (case q3 => kspl_open zz_pk); (case q4 => kspl_open zz_pk); (case q5 => kspl_open zz_pk)) | ((with_reducible refine' Dh.g_isiTI ?q0 ?k); (case q0 => kspl_open zz_pk)) | ((with_reducible refine' Dh.g_extP ?q0 ?q1 ?q2 ?q3 ?q4 ?k); (case q0 => kspl_open zz_pk); (case q1 => kspl_open zz_pk); (case q2 => kspl_open zz_pk); (case q3 => kspl_open zz_pk); (case q4 => kspl_open zz_side)) | ((with_reducible refine' Dh.g_addLP ?q0 ?q1 ?q2 ?q3 ?q4 ?k); (case q0 => kspl_open zz_pk); (case q1 => kspl_open zz_pk); (case q2 => kspl_open zz_pk); (case q3 => kspl_open zz_pk); (case q4 => kspl_open zz_side); intro _) | ((with_reducible refine' Dh.g_eqW0 ?q0 ?q1 ?k); (case q0 => kspl_open zz_pk); (case q1 => kspl_open zz_pk)) | ((with_reducible refine' Dh.g_eqW1 ?q0 ?q1 ?k); (case q0 => kspl_open zz_pk); (case q1 => kspl_open zz_pk)) | ((with_reducible refine' Dh.g_disp ?k); intro _) | ((with_reducible refine' Dh.g_pairC ?k)) | ((with_reducible refine' Dh.g_pairN ?k)) | ((with_reducible refine' Dh.g_dispI2 ?q0 ?q1 ?k); (case q0 => kspl_open zz_pk); (case q1 => decide)))
local macro_rules | `(tactic| kspl_open zz_vc) => `(tactic| repeat kspl_open zz_vc1)
local macro_rules | `(tactic| kspl_open zz_spl) => `(tactic| first | ((with_reducible refine Dh.g_ifD ?_ ?_) <;> intro _) | ((with_reducible refine Dh.g_ifN ?_ ?_) <;> intro _) | ((with_reducible refine Dh.g_if ?_ ?_) <;> intro _))
local macro_rules | `(tactic| kspl_open zz_vcs) => `(tactic| repeat' (first | kspl_open zz_vc1 | kspl_open zz_spl))
local macro_rules | `(tactic| kspl_open zz_told1) => `(tactic| first | ((with_reducible refine' Dh.g_toldN (Toy.Txt.x_BadPlan_BadWord ?z) ?k); (case z => assumption))| ((with_reducible refine' Dh.g_toldN (Toy.Txt.x_BadPlan_BadPlace ?z) ?k); (case z => assumption))| ((with_reducible refine' Dh.g_toldY (Toy.Txt.x_BadPlan_BadPlan ?z) ?k); (case z => assumption))| ((with_reducible refine' Dh.g_toldN (Toy.Txt.x_BadBits_BadWord ?z) ?k); (case z => assumption))| ((with_reducible refine' Dh.g_toldN (Toy.Txt.x_BadBits_BadPlace ?z) ?k); (case z => assumption))| ((with_reducible refine' Dh.g_toldN (Toy.Txt.x_BadBits_BadPlan ?z) ?k); (case z => assumption))| ((with_reducible refine' Dh.g_toldN (Toy.Txt.x_BadBits_NotDue ?z) ?k); (case z => assumption))| ((with_reducible refine' Dh.g_toldN (Toy.Txt.x_BadBits_Stuck ?z) ?k); (case z => assumption))| ((with_reducible refine' Dh.g_toldY (Toy.Txt.x_BadBits_BadBits ?z) ?k); (case z => assumption)))
section
local macro_rules | `(tactic| kspl_open zz_ent1) => `(tactic| first | (with_reducible exact Dh.ent_refl) | (with_reducible exact Dh.ent_nil) | (refine' Dh.ent_cons ?q0 ?k; (case q0 => kspl_open zz_pk)) | (refine' Dh.ent_drop ?k))
local macro_rules | `(tactic| kspl_open zz_hasm) => `(tactic| first | (refine' Dh.hasM_ob ?q0 ?q1; (case q0 => kspl_open zz_pk); (case q1 => kspl_open zz_lk)))
local macro_rules | `(tactic| kspl_open zz_vc1) => `(tactic| first | ((refine' Dh.wk1 ?k); (repeat (with_reducible intro _))) | kspl_open zz_vcp0 | kspl_open zz_vcp1 | kspl_open zz_vcp2 | kspl_open zz_vcp3 | kspl_open zz_vcp4 | kspl_open zz_vcp5 | kspl_open zz_vcp6 | kspl_open zz_vcp7 | kspl_open zz_vcp8 | kspl_open zz_vcp9 | kspl_open zz_vcp10 | kspl_open zz_use1 | kspl_open zz_told1)


namespace Toy
open PySem L2
section
variable {P : Program} {w : World} {K : PySem.W.Frag} {mg : Str → Option Value} {base : Heap} {T : List (Addr × Str)} {C_Chip C_BadWord C_BadPlace C_BadPlan C_NotDue C_Stuck C_BadBits C_BadText C_TooLarge g_told : Addr}
def sg_law_dice (T : List (Addr × Str)) (K : PySem.W.Frag) (C_Chip C_BadWord C_BadPlace C_BadPlan C_NotDue C_Stuck C_BadBits C_BadText C_TooLarge g_told : Addr) : Dh.SG :=
  fun zs L Q E => ∃ (n : Int) (R : List Dh.HP), zs = [.int n] ∧ Dh.Ent L (R) ∧ (∀ (p : Addr) (a b c : Int), Dh.Go T ((Dh.pt p (.lst [.int a, .int b, .int c])) :: R) fun H => Q (.ref p) H)
theorem use_law_dice {L  : List Dh.HP} {Q : VK} {E : XK} {n : Int}   (k0 : ∀ (p : Addr) (a b c : Int), Dh.Go T ((Dh.pt p (.lst [.int a, .int b, .int c])) :: L) fun H => Q (.ref p) H) : Dh.Go T L fun H => Dh.sOfN T 1 (sg_law_dice T K C_Chip C_BadWord C_BadPlace C_BadPlan C_NotDue C_Stuck C_BadBits C_BadText C_TooLarge g_told) [.int n] H Q E := Dh.g_sp rfl ⟨n, L, rfl, Dh.ent_refl, k0⟩
local macro_rules | `(tactic| kspl_open zz_use1) => `(tactic| ((with_reducible refine' Toy.use_law_dice (fun _ _ _ _ => ?k0))))
set_option maxHeartbeats 8000000 in
theorem ok_law_dice (Z : Txt K mg C_Chip C_BadWord C_BadPlace C_BadPlan C_NotDue C_Stuck C_BadBits C_BadText C_TooLarge g_told)  {f : Addr} {fd : FuncData} {cdv : Value} (F : Dh.FunC K "_law_dice" "_law_dice" s_law_dice f fd cdv) :
    FnOk P w K mg base (L2.CX P w) 1 f fd ["cell"] (Dh.sOfN T 1 (sg_law_dice T K C_Chip C_BadWord C_BadPlace C_BadPlan C_NotDue C_Stuck C_BadBits C_BadText C_TooLarge g_told)) := by
  refine Dh.fnX (k := 0) F sc_law_dice rfl (fun A outer s H0 L vs Q E hr hl h => ?_)
  refine ⟨_, (pss_cons (ps_if (pt_chain op_lt op_lt (pe_op op_sub pe_int pe_int) (pv 0) pe_int)
    (pss_one (ps_ret (pe_lst (pa_cons (pe_callB Dh.call_absX (by rfl) Z.b_abs Dh.blt_abs (pa_cons (pv 0) pa_nil)) (pa_cons pe_int (pa_cons pe_int pa_nil))))))
    pss_nil)
    (pss_one (ps_ret (pe_lst (pa_cons (pv 0) (pa_cons (pe_op (Dh.oAdd (K := K) rfl) pe_int (pe_op op_mod (pe_callTy Dh.call_intX (by rfl) Z.b_int (by first | exact PySem.boot_int | exact PyProof.Rows.boot_int | decide +kernel) (pa_cons (pv 0) pa_nil)) pe_int)) (pa_cons (pe_callTy Dh.call_intX (by rfl) Z.b_int (by first | exact PySem.boot_int | exact PyProof.Rows.boot_int | decide +kernel) (pa_cons (pe_cmpR op_ge (pv 0) (pe_op op_pow pe_int pe_int) (nomark _)) pa_nil)) pa_nil))))))), ?_⟩
  try dsimp only [L2.cxOf, L2.Cx.blk, LamX.lamCx, L2.Cx.tr, L2.Cx.suite]
  obtain ⟨n, R, rfl, hE, k0⟩ := h
  refine Dh.Go.ent hE ?_
  rw [show L2.start N_law_dice [.int n] = [some (.int n)] from rfl]
  kspl_open zz_vcs
  all_goals exact k0 _ _ _ _
/-- a dice: three ints -/
def DiceAt (p : Addr) : Dh.HP := Dh.ex fun a : Int => Dh.ex fun b : Int => Dh.ex fun c : Int => Dh.pt p (.lst [.int a, .int b, .int c])
def sg_law_roll (T : List (Addr × Str)) (K : PySem.W.Frag) (C_Chip C_BadWord C_BadPlace C_BadPlan C_NotDue C_Stuck C_BadBits C_BadText C_TooLarge g_told : Addr) : Dh.SG :=
  fun zs L Q E => ∃ (p : Addr) (n : Int) (R : List Dh.HP), zs = [.ref p, .int n] ∧ Dh.Ent L ((DiceAt p) :: R) ∧ (0 < n) ∧ (n < 1073741824) ∧ (∀ (r : Nat), ((r : Int) < n) → Dh.Go T ((DiceAt p) :: R) fun H => Q (.int (r : Int)) H)
theorem use_law_roll {L A0 : List Dh.HP} {Q : VK} {E : XK} {p : Addr} {n : Int} (q0 : Dh.Pick L (DiceAt p) A0) (h0 : 0 < n) (h1 : n < 1073741824) (k0 : ∀ (r : Nat), ((r : Int) < n) → Dh.Go T ((DiceAt p) :: A0) fun H => Q (.int (r : Int)) H) : Dh.Go T L fun H => Dh.sOfN T 2 (sg_law_roll T K C_Chip C_BadWord C_BadPlace C_BadPlan C_NotDue C_Stuck C_BadBits C_BadText C_TooLarge g_told) [.ref p, .int n] H Q E := Dh.g_sp rfl ⟨p, n, A0, rfl, (Dh.ent_cons q0 Dh.ent_refl), h0, h1, k0⟩
local macro_rules | `(tactic| kspl_open zz_use1) => `(tactic| ((with_reducible refine' Toy.use_law_roll ?q0 ?h0 ?h1 (fun _ _ => ?k0)); (case q0 => kspl_open zz_pk); (case h0 => kspl_open zz_side); (case h1 => kspl_open zz_side)))
set_option maxHeartbeats 8000000 in
theorem ok_law_roll (Z : Txt K mg C_Chip C_BadWord C_BadPlace C_BadPlan C_NotDue C_Stuck C_BadBits C_BadText C_TooLarge g_told)  {f : Addr} {fd : FuncData} {cdv : Value} (F : Dh.FunC K "_law_roll" "_law_roll" s_law_roll f fd cdv) :
    FnOk P w K mg base (L2.CX P w) 1 f fd ["dice", "many"] (Dh.sOfN T 2 (sg_law_roll T K C_Chip C_BadWord C_BadPlace C_BadPlan C_NotDue C_Stuck C_BadBits C_BadText C_TooLarge g_told)) := by
  refine Dh.fnX (k := 0) F sc_law_roll rfl (fun A outer s H0 L vs Q E hr hl h => ?_)
  refine ⟨_, (pss_cons (ps_if (PW.pt (pw_or (pt_cmpR (Dh.oEq (K := K) rfl hr.units) (pe_ix (Dh.xSeq (K := K) rfl) (pv 0) pe_int (fun _ _ => rfl)) pe_int (nomark _)) (pw_or1 (PW.pt (pw_and (pt_cmpR (Dh.oEq (K := K) rfl hr.units) (pe_ix (Dh.xSeq (K := K) rfl) (pv 0) pe_int (fun _ _ => rfl)) pe_int (nomark _)) (pw_and1 (pt_cmpR op_gt (pe_ix (Dh.xSeq (K := K) rfl) (pv 0) pe_int (fun _ _ => rfl)) pe_int (nomark _))))))))
    (pss_cons (ps_set (i := 2) sc_law_roll.nd rfl (by first | exact Or.inl rfl | exact Or.inr rfl) (pe_op op_mod (pe_callTy Dh.call_intX (by rfl) Z.b_int (by first | exact PySem.boot_int | exact PyProof.Rows.boot_int | decide +kernel) (pa_cons (pe_ix (Dh.xSeq (K := K) rfl) (pv 0) pe_int (fun _ _ => rfl)) pa_nil)) (pv 1)))
    (pss_cons (ps_asg (pe_op op_fdiv (pe_ix (Dh.xSeq (K := K) rfl) (pv 0) pe_int (fun _ _ => rfl)) (pv 1)) (pg_sub (pv 0) pe_int set_list))
    (pss_one (ps_ret (pv 2)))))
    pss_nil)
    (pss_cons (ps_asg pe_int (pg_sub (pv 0) pe_int set_list))
    (pss_cons (ps_asg (pe_op op_mod (pe_callTy Dh.call_intX (by rfl) Z.b_int (by first | exact PySem.boot_int | exact PyProof.Rows.boot_int | decide +kernel) (pa_cons (pe_op (Dh.oAdd (K := K) rfl) (pe_op (Dh.oAdd (K := K) rfl) (pe_op (Dh.oMul (K := K) rfl) (pe_ix (Dh.xSeq (K := K) rfl) (pv 0) pe_int (fun _ _ => rfl)) pe_int) (pe_op (Dh.oMul (K := K) rfl) (pe_ix (Dh.xSeq (K := K) rfl) (pv 0) pe_int (fun _ _ => rfl)) pe_int)) pe_int) pa_nil)) pe_int) (pg_sub (pv 0) pe_int set_list))
    (pss_cons (ps_asg (pe_op (Dh.oAdd (K := K) rfl) (pe_ix (Dh.xSeq (K := K) rfl) (pv 0) pe_int (fun _ _ => rfl)) pe_int) (pg_sub (pv 0) pe_int set_list))
    (pss_one (ps_ret (pe_op op_mod (pe_callTy Dh.call_intX (by rfl) Z.b_int (by first | exact PySem.boot_int | exact PyProof.Rows.boot_int | decide +kernel) (pa_cons (pe_op (Dh.oAdd (K := K) rfl) (pe_op op_fdiv (pe_ix (Dh.xSeq (K := K) rfl) (pv 0) pe_int (fun _ _ => rfl)) pe_int) (pe_ix (Dh.xSeq (K := K) rfl) (pv 0) pe_int (fun _ _ => rfl))) pa_nil)) (pv 1)))))))), ?_⟩
  try dsimp only [L2.cxOf, L2.Cx.blk, LamX.lamCx, L2.Cx.tr, L2.Cx.suite]
  obtain ⟨p, n, R, rfl, hE, h0, h1, k0⟩ := h
  refine Dh.Go.ent hE ?_
  rw [show L2.start N_law_roll [.ref p, .int n] = [some (.ref p), some (.int n), none] from rfl]
  refine (Dh.go_ex fun a => Dh.go_ex fun b => Dh.go_ex fun c => ?_)
  kspl_open zz_vcs
  all_goals
    refine Dh.Go.ent (Dh.ent_imp fun h e => ⟨_, _, _, e⟩) (Dh.g_toNat (Int.emod_nonneg _ (by omega)) (k0 _ ?_))
    rw [Int.toNat_of_nonneg (Int.emod_nonneg _ (by omega))]
    exact Int.emod_lt_of_pos _ h0
end
end Toy
end

section
local macro_rules | `(tactic| kspl_open zz_ent1) => `(tactic| first | (with_reducible exact Dh.ent_refl) | (with_reducible exact Dh.ent_nil) | (refine' Dh.ent_cons ?q0 ?k; (case q0 => kspl_open zz_pk)) | (refine' Dh.ent_drop ?k))
local macro_rules | `(tactic| kspl_open zz_hasm) => `(tactic| first | (refine' Dh.hasM_ob ?q0 ?q1; (case q0 => kspl_open zz_pk); (case q1 => kspl_open zz_lk)))
local macro_rules | `(tactic| kspl_open zz_vc1) => `(tactic| first | ((refine' Dh.wk1 ?k); (repeat (with_reducible intro _))) | kspl_open zz_vcp0 | kspl_open zz_vcp1 | kspl_open zz_vcp2 | kspl_open zz_vcp3 | kspl_open zz_vcp4 | kspl_open zz_vcp5 | kspl_open zz_vcp6 | kspl_open zz_vcp7 | kspl_open zz_vcp8 | kspl_open zz_vcp9 | kspl_open zz_vcp10 | kspl_open zz_use1 | kspl_open zz_told1)
local macro_rules | `(tactic| kspl_open zz_use1) => `(tactic| ((with_reducible refine' Toy.use_law_dice (fun _ _ _ _ => ?k0))))
local macro_rules | `(tactic| kspl_open zz_use1) => `(tactic| ((with_reducible refine' Toy.use_law_roll ?q0 ?h0 ?h1 (fun _ _ => ?k0)); (case q0 => kspl_open zz_pk); (case h0 => kspl_open zz_side); (case h1 => kspl_open zz_side)))

namespace Toy
open PySem L2
section
variable {P : Program} {w : World} {K : PySem.W.Frag} {mg : Str → Option Value} {base : Heap} {T : List (Addr × Str)} {C_Chip C_BadWord C_BadPlace C_BadPlan C_NotDue C_Stuck C_BadBits C_BadText C_TooLarge g_told : Addr}
/-! two wires -/
abbrev bgL : List (Nat × Nat) := [(1, 1), (1, 0), (0, 0)]
abbrev enL : List (Nat × Nat) := [(0, 0), (1, 0), (1, 1)]
def btL (m : Nat) : List (Nat × Nat) := [(0, m), (1, m), (0, m)]
def oc8 (n k : Nat) : List (Nat × Nat) := (List.range k).flatMap fun k => btL (n / (128 / 2 ^ k) % 2)
def ocL (n b : Nat) : List (Nat × Nat) := oc8 n 8 ++ btL b
theorem oc8_snoc {n k : Nat} : oc8 n (k + 1) = oc8 n k ++ btL (n / (128 / 2 ^ k) % 2) := by
  unfold oc8
  rw [List.range_succ, List.flatMap_append]
  simp
theorem oc8_len {n k : Nat} : (oc8 n k).length = 3 * k := by
  induction k with
  | zero => rfl
  | succ k ih => rw [oc8_snoc, List.length_append, ih]; rfl
theorem ocL_len {n b : Nat} : (ocL n b).length = 27 := by
  unfold ocL
  rw [List.length_append, oc8_len]
  rfl
def sg_begin (T : List (Addr × Str)) (K : PySem.W.Frag) (C_Chip C_BadWord C_BadPlace C_BadPlan C_NotDue C_Stuck C_BadBits C_BadText C_TooLarge g_told : Addr) : Dh.SG :=
  fun zs L Q E => ∃ (R : List Dh.HP), zs = [] ∧ Dh.Ent L (R) ∧ (∀ (d : Addr) (vs : List V), Dh.Go T ((Dh.pt d (.lst vs)) :: (Dh.dvs vs (bgL.map Dh.dP)) :: R) fun H => Q (.ref d) H)
theorem use_begin {L  : List Dh.HP} {Q : VK} {E : XK}    (k0 : ∀ (d : Addr) (vs : List V), Dh.Go T ((Dh.pt d (.lst vs)) :: (Dh.dvs vs (bgL.map Dh.dP)) :: L) fun H => Q (.ref d) H) : Dh.Go T L fun H => Dh.sOfN T 0 (sg_begin T K C_Chip C_BadWord C_BadPlace C_BadPlan C_NotDue C_Stuck C_BadBits C_BadText C_TooLarge g_told) [] H Q E := Dh.g_sp rfl ⟨L, rfl, Dh.ent_refl, k0⟩
local macro_rules | `(tactic| kspl_open zz_use1) => `(tactic| ((with_reducible refine' Toy.use_begin (fun _ _ => ?k0))))
set_option maxHeartbeats 8000000 in
theorem ok_begin (Z : Txt K mg C_Chip C_BadWord C_BadPlace C_BadPlan C_NotDue C_Stuck C_BadBits C_BadText C_TooLarge g_told)  {f : Addr} {fd : FuncData} {cdv : Value} (F : Dh.FunC K "begin" "begin" s_begin f fd cdv) :
    FnOk P w K mg base (L2.CX P w) 1 f fd [] (Dh.sOfN T 0 (sg_begin T K C_Chip C_BadWord C_BadPlace C_BadPlan C_NotDue C_Stuck C_BadBits C_BadText C_TooLarge g_told)) := by
  refine Dh.fnX (k := 0) F sc_begin rfl (fun A outer s H0 L vs Q E hr hl h => ?_)
  refine ⟨_, (pss_one (ps_ret (pe_lst (pa_cons (pe_tup (pa_cons pe_int (pa_cons pe_int pa_nil))) (pa_cons (pe_tup (pa_cons pe_int (pa_cons pe_int pa_nil))) (pa_cons (pe_tup (pa_cons pe_int (pa_cons pe_int pa_nil))) pa_nil)))))), ?_⟩
  try dsimp only [L2.cxOf, L2.Cx.blk, LamX.lamCx, L2.Cx.tr, L2.Cx.suite]
  obtain ⟨R, rfl, hE, k0⟩ := h
  refine Dh.Go.ent hE ?_
  rw [show L2.start N_begin [] = [] from rfl]
  kspl_open zz_vc
  rename_i p1 p2 p3 d
  refine Dh.go_dvs (vs := [.ref p1, .ref p2, .ref p3]) (ds := bgL.map Dh.dP) (fun H s => .cons (Dh.dvPr 1 1 (by kspl_open zz_pk) s) (.cons (Dh.dvPr 1 0 (by kspl_open zz_pk) s) (.cons (Dh.dvPr 0 0 (by kspl_open zz_pk) s) .nil))) ?_
  exact Dh.Go.ent (by kspl_open zz_ent) (k0 d _)
def sg_end (T : List (Addr × Str)) (K : PySem.W.Frag) (C_Chip C_BadWord C_BadPlace C_BadPlan C_NotDue C_Stuck C_BadBits C_BadText C_TooLarge g_told : Addr) : Dh.SG :=
  fun zs L Q E => ∃ (R : List Dh.HP), zs = [] ∧ Dh.Ent L (R) ∧ (∀ (d : Addr) (vs : List V), Dh.Go T ((Dh.pt d (.lst vs)) :: (Dh.dvs vs (enL.map Dh.dP)) :: R) fun H => Q (.ref d) H)
theorem use_end {L  : List Dh.HP} {Q : VK} {E : XK}    (k0 : ∀ (d : Addr) (vs : List V), Dh.Go T ((Dh.pt d (.lst vs)) :: (Dh.dvs vs (enL.map Dh.dP)) :: L) fun H => Q (.ref d) H) : Dh.Go T L fun H => Dh.sOfN T 0 (sg_end T K C_Chip C_BadWord C_BadPlace C_BadPlan C_NotDue C_Stuck C_BadBits C_BadText C_TooLarge g_told) [] H Q E := Dh.g_sp rfl ⟨L, rfl, Dh.ent_refl, k0⟩
local macro_rules | `(tactic| kspl_open zz_use1) => `(tactic| ((with_reducible refine' Toy.use_end (fun _ _ => ?k0))))
set_option maxHeartbeats 8000000 in
theorem ok_end (Z : Txt K mg C_Chip C_BadWord C_BadPlace C_BadPlan C_NotDue C_Stuck C_BadBits C_BadText C_TooLarge g_told)  {f : Addr} {fd : FuncData} {cdv : Value} (F : Dh.FunC K "end" "end" s_end f fd cdv) :
    FnOk P w K mg base (L2.CX P w) 1 f fd [] (Dh.sOfN T 0 (sg_end T K C_Chip C_BadWord C_BadPlace C_BadPlan C_NotDue C_Stuck C_BadBits C_BadText C_TooLarge g_told)) := by
  refine Dh.fnX (k := 0) F sc_end rfl (fun A outer s H0 L vs Q E hr hl h => ?_)
  refine ⟨_, (pss_one (ps_ret (pe_lst (pa_cons (pe_tup (pa_cons pe_int (pa_cons pe_int pa_nil))) (pa_cons (pe_tup (pa_cons pe_int (pa_cons pe_int pa_nil))) (pa_cons (pe_tup (pa_cons pe_int (pa_cons pe_int pa_nil))) pa_nil)))))), ?_⟩
  try dsimp only [L2.cxOf, L2.Cx.blk, LamX.lamCx, L2.Cx.tr, L2.Cx.suite]
  obtain ⟨R, rfl, hE, k0⟩ := h
  refine Dh.Go.ent hE ?_
  rw [show L2.start N_end [] = [] from rfl]
  kspl_open zz_vc
  rename_i p1 p2 p3 d
  refine Dh.go_dvs (vs := [.ref p1, .ref p2, .ref p3]) (ds := enL.map Dh.dP) (fun H s => .cons (Dh.dvPr 0 0 (by kspl_open zz_pk) s) (.cons (Dh.dvPr 1 0 (by kspl_open zz_pk) s) (.cons (Dh.dvPr 1 1 (by kspl_open zz_pk) s) .nil))) ?_
  exact Dh.Go.ent (by kspl_open zz_ent) (k0 d _)
def sg_bit (T : List (Addr × Str)) (K : PySem.W.Frag) (C_Chip C_BadWord C_BadPlace C_BadPlan C_NotDue C_Stuck C_BadBits C_BadText C_TooLarge g_told : Addr) : Dh.SG :=
  fun zs L Q E => ∃ (m : Nat) (R : List Dh.HP), zs = [.int (m : Nat)] ∧ Dh.Ent L (R) ∧ (∀ (d : Addr) (vs : List V), Dh.Go T ((Dh.pt d (.lst vs)) :: (Dh.dvs vs ((btL m).map Dh.dP)) :: R) fun H => Q (.ref d) H)
theorem use_bit {L  : List Dh.HP} {Q : VK} {E : XK} {m : Nat}   (k0 : ∀ (d : Addr) (vs : List V), Dh.Go T ((Dh.pt d (.lst vs)) :: (Dh.dvs vs ((btL m).map Dh.dP)) :: L) fun H => Q (.ref d) H) : Dh.Go T L fun H => Dh.sOfN T 1 (sg_bit T K C_Chip C_BadWord C_BadPlace C_BadPlan C_NotDue C_Stuck C_BadBits C_BadText C_TooLarge g_told) [.int (m : Nat)] H Q E := Dh.g_sp rfl ⟨m, L, rfl, Dh.ent_refl, k0⟩
local macro_rules | `(tactic| kspl_open zz_use1) => `(tactic| ((with_reducible refine' Toy.use_bit (fun _ _ => ?k0))))
set_option maxHeartbeats 8000000 in
theorem ok_bit (Z : Txt K mg C_Chip C_BadWord C_BadPlace C_BadPlan C_NotDue C_Stuck C_BadBits C_BadText C_TooLarge g_told)  {f : Addr} {fd : FuncData} {cdv : Value} (F : Dh.FunC K "bit" "bit" s_bit f fd cdv) :
    FnOk P w K mg base (L2.CX P w) 1 f fd ["much"] (Dh.sOfN T 1 (sg_bit T K C_Chip C_BadWord C_BadPlace C_BadPlan C_NotDue C_Stuck C_BadBits C_BadText C_TooLarge g_told)) := by
  refine Dh.fnX (k := 0) F sc_bit rfl (fun A outer s H0 L vs Q E hr hl h => ?_)
  refine ⟨_, (pss_one (ps_ret (pe_lst (pa_cons (pe_tup (pa_cons pe_int (pa_cons (pv 0) pa_nil))) (pa_cons (pe_tup (pa_cons pe_int (pa_cons (pv 0) pa_nil))) (pa_cons (pe_tup (pa_cons pe_int (pa_cons (pv 0) pa_nil))) pa_nil)))))), ?_⟩
  try dsimp only [L2.cxOf, L2.Cx.blk, LamX.lamCx, L2.Cx.tr, L2.Cx.suite]
  obtain ⟨m, R, rfl, hE, k0⟩ := h
  refine Dh.Go.ent hE ?_
  rw [show L2.start N_bit [.int (m : Nat)] = [some (.int (m : Nat))] from rfl]
  kspl_open zz_vc
  rename_i p1 p2 p3 d
  refine Dh.go_dvs (vs := [.ref p1, .ref p2, .ref p3]) (ds := (btL m).map Dh.dP) (fun H s => .cons (Dh.dvPr 0 m (by kspl_open zz_pk) s) (.cons (Dh.dvPr 1 m (by kspl_open zz_pk) s) (.cons (Dh.dvPr 0 m (by kspl_open zz_pk) s) .nil))) ?_
  exact Dh.Go.ent (by kspl_open zz_ent) (k0 d _)
def sg_raised_two (T : List (Addr × Str)) (K : PySem.W.Frag) (C_Chip C_BadWord C_BadPlace C_BadPlan C_NotDue C_Stuck C_BadBits C_BadText C_TooLarge g_told : Addr) : Dh.SG :=
  fun zs L Q E => ∃ (k : Nat) (R : List Dh.HP), zs = [.int (k : Nat)] ∧ Dh.Ent L (R) ∧ (k ≤ 62) ∧ (Dh.Go T (R) fun H => Q (.int ((2 ^ k : Nat) : Int)) H)
theorem use_raised_two {L  : List Dh.HP} {Q : VK} {E : XK} {k : Nat}  (h0 : k ≤ 62) (k0 : Dh.Go T (L) fun H => Q (.int ((2 ^ k : Nat) : Int)) H) : Dh.Go T L fun H => Dh.sOfN T 1 (sg_raised_two T K C_Chip C_BadWord C_BadPlace C_BadPlan C_NotDue C_Stuck C_BadBits C_BadText C_TooLarge g_told) [.int (k : Nat)] H Q E := Dh.g_sp rfl ⟨k, L, rfl, Dh.ent_refl, h0, k0⟩
local macro_rules | `(tactic| kspl_open zz_use1) => `(tactic| ((with_reducible refine' Toy.use_raised_two ?h0 ?k0); (case h0 => kspl_open zz_side)))
set_option maxHeartbeats 8000000 in
theorem ok_raised_two (Z : Txt K mg C_Chip C_BadWord C_BadPlace C_BadPlan C_NotDue C_Stuck C_BadBits C_BadText C_TooLarge g_told)  {f : Addr} {fd : FuncData} {cdv : Value} (F : Dh.FunC K "raised_two" "raised_two" s_raised_two f fd cdv) :
    FnOk P w K mg base (L2.CX P w) 1 f fd ["k"] (Dh.sOfN T 1 (sg_raised_two T K C_Chip C_BadWord C_BadPlace C_BadPlan C_NotDue C_Stuck C_BadBits C_BadText C_TooLarge g_told)) := by
  refine Dh.fnX (k := 0) F sc_raised_two rfl (fun A outer s H0 L vs Q E hr hl h => ?_)
  refine ⟨_, (pss_cons (ps_set (i := 1) sc_raised_two.nd rfl (by first | exact Or.inl rfl | exact Or.inr rfl) pe_int)
    (pss_cons (ps_for (passes_of rfl) rfl (pi_range1 rfl Z.b_range (pa_cons (pv 0) pa_nil)) (pg_name (i := 2) sc_raised_two.nd rfl (by first | exact Or.inl rfl | exact Or.inr rfl))
    (pss_one (ps_aug (i := 1) sc_raised_two.nd rfl (by first | exact Or.inl rfl | exact Or.inr rfl) pe_int Dh.ipMulR)))
    (pss_one (ps_ret (pv 1))))), ?_⟩
  try dsimp only [L2.cxOf, L2.Cx.blk, LamX.lamCx, L2.Cx.tr, L2.Cx.suite]
  obtain ⟨k, R, rfl, hE, h0, k0⟩ := h
  refine Dh.Go.ent hE ?_
  rw [show L2.start N_raised_two [.int (k : Nat)] = [some (.int (k : Nat)), none, none] from rfl]
  kspl_open zz_vc
  refine Dh.g_forR (n := k) (lo := 0) (fun i σ L => ∃ v, σ = [some (.int (k : Int)), some (.int ((2 ^ i : Nat) : Int)), v] ∧ Dh.Ent L R) ⟨_, rfl, Dh.ent_refl⟩ ?_ ?_
  · rintro i σ L hi ⟨v, rfl, hE⟩
    refine Dh.Go.ent hE ?_
    have h2 : 2 ^ i ≤ 2 ^ 62 := Nat.pow_le_pow_right (by decide) (by omega)
    kspl_open zz_vc
    exact Dh.SI.in ⟨_, by rw [Nat.pow_succ]; rfl, Dh.ent_refl⟩
  · rintro σ L ⟨v, rfl, hE⟩
    refine Dh.Go.ent hE ?_
    kspl_open zz_vc
    exact k0
end
end Toy
end

section
local macro_rules | `(tactic| kspl_open zz_ent1) => `(tactic| first | (with_reducible exact Dh.ent_refl) | (with_reducible exact Dh.ent_nil) | (refine' Dh.ent_cons ?q0 ?k; (case q0 => kspl_open zz_pk)) | (refine' Dh.ent_drop ?k))
local macro_rules | `(tactic| kspl_open zz_hasm) => `(tactic| first | (refine' Dh.hasM_ob ?q0 ?q1; (case q0 => kspl_open zz_pk); (case q1 => kspl_open zz_lk)))
local macro_rules | `(tactic| kspl_open zz_vc1) => `(tactic| first | ((refine' Dh.wk1 ?k); (repeat (with_reducible intro _))) | kspl_open zz_vcp0 | kspl_open zz_vcp1 | kspl_open zz_vcp2 | kspl_open zz_vcp3 | kspl_open zz_vcp4 | kspl_open zz_vcp5 | kspl_open zz_vcp6 | kspl_open zz_vcp7 | kspl_open zz_vcp8 | kspl_open zz_vcp9 | kspl_open zz_vcp10 | kspl_open zz_use1 | kspl_open zz_told1)
local macro_rules | `(tactic| kspl_open zz_use1) => `(tactic| ((with_reducible refine' Toy.use_law_dice (fun _ _ _ _ => ?k0))))
local macro_rules | `(tactic| kspl_open zz_use1) => `(tactic| ((with_reducible refine' Toy.use_law_roll ?q0 ?h0 ?h1 (fun _ _ => ?k0)); (case q0 => kspl_open zz_pk); (case h0 => kspl_open zz_side); (case h1 => kspl_open zz_side)))
local macro_rules | `(tactic| kspl_open zz_use1) => `(tactic| ((with_reducible refine' Toy.use_begin (fun _ _ => ?k0))))
local macro_rules | `(tactic| kspl_open zz_use1) => `(tactic| ((with_reducible refine' Toy.use_end (fun _ _ => ?k0))))
local macro_rules | `(tactic| kspl_open zz_use1) => `(tactic| ((with_reducible refine' Toy.use_bit (fun _ _ => ?k0))))
local macro_rules | `(tactic| kspl_open zz_use1) => `(tactic| ((with_reducible refine' Toy.use_raised_two ?h0 ?k0); (case h0 => kspl_open zz_side)))

namespace Toy
open PySem L2
section
variable {P : Program} {w : World} {K : PySem.W.Frag} {mg : Str → Option Value} {base : Heap} {T : List (Addr × Str)} {C_Chip C_BadWord C_BadPlace C_BadPlan C_NotDue C_Stuck C_BadBits C_BadText C_TooLarge g_told : Addr}
def sg_octet (T : List (Addr × Str)) (K : PySem.W.Frag) (C_Chip C_BadWord C_BadPlace C_BadPlan C_NotDue C_Stuck C_BadBits C_BadText C_TooLarge g_told : Addr) : Dh.SG :=
  fun zs L Q E => ∃ (n : Nat) (b : Nat) (R : List Dh.HP), zs = [.int (n : Nat), .int (b : Nat)] ∧ Dh.Ent L (R) ∧ (n < 256) ∧ (∀ (d : Addr) (vs : List V), Dh.Go T ((Dh.pt d (.lst vs)) :: (Dh.dvs vs ((ocL n b).map Dh.dP)) :: R) fun H => Q (.ref d) H)
theorem use_octet {L  : List Dh.HP} {Q : VK} {E : XK} {n : Nat} {b : Nat}  (h0 : n < 256) (k0 : ∀ (d : Addr) (vs : List V), Dh.Go T ((Dh.pt d (.lst vs)) :: (Dh.dvs vs ((ocL n b).map Dh.dP)) :: L) fun H => Q (.ref d) H) : Dh.Go T L fun H => Dh.sOfN T 2 (sg_octet T K C_Chip C_BadWord C_BadPlace C_BadPlan C_NotDue C_Stuck C_BadBits C_BadText C_TooLarge g_told) [.int (n : Nat), .int (b : Nat)] H Q E := Dh.g_sp rfl ⟨n, b, L, rfl, Dh.ent_refl, h0, k0⟩
local macro_rules | `(tactic| kspl_open zz_use1) => `(tactic| ((with_reducible refine' Toy.use_octet ?h0 (fun _ _ => ?k0)); (case h0 => kspl_open zz_side)))
set_option maxHeartbeats 8000000 in
theorem ok_octet (Z : Txt K mg C_Chip C_BadWord C_BadPlace C_BadPlan C_NotDue C_Stuck C_BadBits C_BadText C_TooLarge g_told) (c_bit : Dh.CalX P w K mg base 1 "bit" (Dh.sOfN T 1 (sg_bit T K C_Chip C_BadWord C_BadPlace C_BadPlan C_NotDue C_Stuck C_BadBits C_BadText C_TooLarge g_told))) (c_raised_two : Dh.CalX P w K mg base 1 "raised_two" (Dh.sOfN T 1 (sg_raised_two T K C_Chip C_BadWord C_BadPlace C_BadPlan C_NotDue C_Stuck C_BadBits C_BadText C_TooLarge g_told))) {f : Addr} {fd : FuncData} {cdv : Value} (F : Dh.FunC K "octet" "octet" s_octet f fd cdv) :
    FnOk P w K mg base (L2.CX P w) 2 f fd ["much", "answer"] (Dh.sOfN T 2 (sg_octet T K C_Chip C_BadWord C_BadPlace C_BadPlan C_NotDue C_Stuck C_BadBits C_BadText C_TooLarge g_told)) := by
  refine Dh.fnX (k := 1) F sc_octet rfl (fun A outer s H0 L vs Q E hr hl h => ?_)
  refine ⟨_, (pss_cons (ps_set (i := 2) sc_octet.nd rfl (by first | exact Or.inl rfl | exact Or.inr rfl) (pe_lst pa_nil))
    (pss_cons (ps_for (passes_of rfl) rfl (pi_range1 rfl Z.b_range (pa_cons pe_int pa_nil)) (pg_name (i := 3) sc_octet.nd rfl (by first | exact Or.inl rfl | exact Or.inr rfl))
    (pss_one (ps_expr (pe_bm PySem.F.plainAttrs_list PySem.F.slot_list_extend PySem.F.type_list_extend mt_extend (pv 2) (pa_cons (Dh.pe_cal c_bit hr (by decide) (passes_call (takes_of rfl rfl rfl rfl) (fun _ _ _ _ h => h)) rfl (pa_cons (pe_op op_mod (pe_op op_fdiv (pv 0) (pe_op op_fdiv pe_int (Dh.pe_cal c_raised_two hr (by decide) (passes_call (takes_of rfl rfl rfl rfl) (fun _ _ _ _ h => h)) rfl (pa_cons (pv 3) pa_nil)))) pe_int) pa_nil)) pa_nil)))))
    (pss_one (ps_ret (pe_op (Dh.oAdd (K := K) rfl) (pv 2) (Dh.pe_cal c_bit hr (by decide) (passes_call (takes_of rfl rfl rfl rfl) (fun _ _ _ _ h => h)) rfl (pa_cons (pv 1) pa_nil))))))), ?_⟩
  try dsimp only [L2.cxOf, L2.Cx.blk, LamX.lamCx, L2.Cx.tr, L2.Cx.suite]
  obtain ⟨n, b, R, rfl, hE, h0, k0⟩ := h
  refine Dh.Go.ent hE ?_
  rw [show L2.start N_octet [.int (n : Nat), .int (b : Nat)] = [some (.int (n : Nat)), some (.int (b : Nat)), none, none] from rfl]
  kspl_open zz_vc
  rename_i F
  refine Dh.g_forR (n := 8) (lo := 0) (fun i σ L => ∃ (v : Option V) (vs : List V), σ = [some (.int (n : Int)), some (.int (b : Int)), some (.ref F), v] ∧ Dh.Ent L (Dh.pt F (.lst vs) :: Dh.dvs vs ((oc8 n i).map Dh.dP) :: R)) ⟨_, [], rfl, Dh.ent_cons Dh.pick_here (Dh.ent_dvs (vs := []) (ds := []) (fun _ _ => .nil) Dh.ent_refl)⟩ ?_ ?_
  · rintro i σ L hi ⟨v, vs, rfl, hE⟩
    refine Dh.Go.ent hE ?_
    simp only [Int.zero_add]
    have h2 : 0 < 2 ^ i := Nat.two_pow_pos i
    have h3 : 2 ^ i ≤ 2 ^ 7 := Nat.pow_le_pow_right (by decide) (by omega)
    have h4 : 0 < 128 / 2 ^ i := Nat.div_pos h3 h2
    have h5 := oc8_len (n := n) (k := i)
    have h6 : (btL (n / (128 / 2 ^ i) % 2)).length = 3 := rfl
    have h7 : (oc8 n i ++ btL (n / (128 / 2 ^ i) % 2)) = oc8 n (i + 1) := oc8_snoc.symm
    kspl_open zz_vc
    rw [show (128 : Int) / ((2 ^ i : Nat) : Int) = ((128 / 2 ^ i : Nat) : Int) from rfl]
    have h8 : 128 / 2 ^ i ≤ 128 := Nat.div_le_self _ _
    generalize 128 / 2 ^ i = q at h4 h6 h7 h8 ⊢
    kspl_open zz_vc
    rw [show (n : Int) / (q : Int) % 2 = ((n / q % 2 : Nat) : Int) from rfl]
    generalize n / q % 2 = m at h6 h7 ⊢
    kspl_open zz_vc
    exact Dh.SI.in ⟨_, _, rfl, by rw [← h7]; kspl_open zz_ent⟩
  · rintro σ L ⟨v, vs, rfl, hE⟩
    refine Dh.Go.ent hE ?_
    have h5 := oc8_len (n := n) (k := 8)
    have h6 : (btL b).length = 3 := rfl
    kspl_open zz_vc
    exact Dh.Go.ent (Dh.ent_tail (Dh.ent_tail (by kspl_open zz_ent))) (k0 _ _)
end
end Toy
end

section
local macro_rules | `(tactic| kspl_open zz_ent1) => `(tactic| first | (with_reducible exact Dh.ent_refl) | (with_reducible exact Dh.ent_nil) | (refine' Dh.ent_cons ?q0 ?k; (case q0 => kspl_open zz_pk)) | (refine' Dh.ent_drop ?k))
local macro_rules | `(tactic| kspl_open zz_hasm) => `(tactic| first | (refine' Dh.hasM_ob ?q0 ?q1; (case q0 => kspl_open zz_pk); (case q1 => kspl_open zz_lk)))
local macro_rules | `(tactic| kspl_open zz_vc1) => `(tactic| first | ((refine' Dh.wk1 ?k); (repeat (with_reducible intro _))) | kspl_open zz_vcp0 | kspl_open zz_vcp1 | kspl_open zz_vcp2 | kspl_open zz_vcp3 | kspl_open zz_vcp4 | kspl_open zz_vcp5 | kspl_open zz_vcp6 | kspl_open zz_vcp7 | kspl_open zz_vcp8 | kspl_open zz_vcp9 | kspl_open zz_vcp10 | kspl_open zz_use1 | kspl_open zz_told1)
local macro_rules | `(tactic| kspl_open zz_use1) => `(tactic| ((with_reducible refine' Toy.use_law_dice (fun _ _ _ _ => ?k0))))
local macro_rules | `(tactic| kspl_open zz_use1) => `(tactic| ((with_reducible refine' Toy.use_law_roll ?q0 ?h0 ?h1 (fun _ _ => ?k0)); (case q0 => kspl_open zz_pk); (case h0 => kspl_open zz_side); (case h1 => kspl_open zz_side)))
local macro_rules | `(tactic| kspl_open zz_use1) => `(tactic| ((with_reducible refine' Toy.use_begin (fun _ _ => ?k0))))
local macro_rules | `(tactic| kspl_open zz_use1) => `(tactic| ((with_reducible refine' Toy.use_end (fun _ _ => ?k0))))
local macro_rules | `(tactic| kspl_open zz_use1) => `(tactic| ((with_reducible refine' Toy.use_bit (fun _ _ => ?k0))))
local macro_rules | `(tactic| kspl_open zz_use1) => `(tactic| ((with_reducible refine' Toy.use_raised_two ?h0 ?k0); (case h0 => kspl_open zz_side)))
local macro_rules | `(tactic| kspl_open zz_use1) => `(tactic| ((with_reducible refine' Toy.use_octet ?h0 (fun _ _ => ?k0)); (case h0 => kspl_open zz_side)))

namespace Toy
open PySem L2
section
variable {P : Program} {w : World} {K : PySem.W.Frag} {mg : Str → Option Value} {base : Heap} {T : List (Addr × Str)} {C_Chip C_BadWord C_BadPlace C_BadPlan C_NotDue C_Stuck C_BadBits C_BadText C_TooLarge g_told : Addr}
structure Prt where
  pl : Nat
  rd : Bool
  row : Option (List (Nat × Nat))
abbrev oD : Option (List (Nat × Nat)) → Dh.Dt
  | none => .non
  | some l => .tup (l.map Dh.dP)
abbrev pD (p : Prt) : Dh.Dt := .tup [.int (p.pl : Int), .bl p.rd, oD p.row]
def rowL (l : List (Nat × Nat)) : List (Nat × Nat) := l.flatMap fun p => ocL p.1 p.2
def prL (p : Prt) : List (Nat × Nat) := bgL ++ ocL (2 * p.pl + p.rd.toNat) (if p.row.isSome then 0 else 1) ++ rowL (p.row.getD [])
def sdB : Nat → List Prt → List (Nat × Nat)
  | _, [] => []
  | k, p :: ps => (if k = 0 then [] else [(0, 1), (1, 1)]) ++ prL p ++ sdB (k + 1) ps
abbrev sdL (ps : List Prt) : List (Nat × Nat) := [(1, 1)] ++ sdB 0 ps ++ enL
theorem sdB_snoc (ps : List Prt) : ∀ {k : Nat} {p : Prt}, sdB k (ps ++ [p]) = sdB k ps ++ (if k + ps.length = 0 then [] else [(0, 1), (1, 1)]) ++ prL p := by
  induction ps with
  | nil => intro k p; simp [sdB]
  | cons q ps ih =>
    intro k p
    rw [List.cons_append, sdB, ih, sdB, List.length_cons]
    have e : ¬ k + (ps.length + 1) = 0 := by omega
    have e2 : ¬ k + 1 + ps.length = 0 := by omega
    rw [if_neg e, if_neg e2]
    simp only [List.append_assoc]
theorem rowL_snoc {l : List (Nat × Nat)} {p : Nat × Nat} : rowL (l ++ [p]) = rowL l ++ ocL p.1 p.2 := by
  unfold rowL
  rw [List.flatMap_append]
  simp
theorem rowL_len (l : List (Nat × Nat)) : (rowL l).length = 27 * l.length := by
  unfold rowL
  induction l with
  | nil => rfl
  | cons p l ih => rw [List.flatMap_cons, List.length_append, ih, ocL_len, List.length_cons]; omega
theorem prL_len {p : Prt} (h : (p.row.getD []).length ≤ 9) : (prL p).length ≤ 300 := by
  unfold prL
  rw [List.length_append, List.length_append, ocL_len, rowL_len]
  show 3 + 27 + _ ≤ _
  omega
theorem sdB_len (ps : List Prt) (h : ∀ p ∈ ps, (p.row.getD []).length ≤ 9) : ∀ k, (sdB k ps).length ≤ 302 * ps.length := by
  induction ps with
  | nil => intro k; exact Nat.le_refl _
  | cons p ps ih =>
    intro k
    have h1 := ih (fun q hq => h q (List.mem_cons_of_mem _ hq)) (k + 1)
    have h2 := prL_len (h p (List.mem_cons_self ..))
    rw [sdB, List.length_append, List.length_append, List.length_cons]
    split
    · simp only [List.length_nil]
      omega
    · simp only [List.length_cons, List.length_nil]
      omega
def sg_said (T : List (Addr × Str)) (K : PySem.W.Frag) (C_Chip C_BadWord C_BadPlace C_BadPlan C_NotDue C_Stuck C_BadBits C_BadText C_TooLarge g_told : Addr) : Dh.SG :=
  fun zs L Q E => ∃ (b : Addr) (fl : Bool) (vs : List V) (ps : List Prt) (R : List Dh.HP), zs = [.ref b] ∧ Dh.Ent L ((Dh.pt b (Dh.seqB fl vs)) :: (Dh.dvs vs (ps.map pD)) :: R) ∧ (ps.length ≤ 3) ∧ (∀ p ∈ ps, (p.row.getD []).length ≤ 9 ∧ ∀ q ∈ p.row.getD [], q.1 < 256) ∧ (∀ (d : Addr) (ws : List V), (∀ p ∈ ps, p.pl < 128) → Dh.Go T ((Dh.pt d (.tup ws)) :: (Dh.dvs ws ((sdL ps).map Dh.dP)) :: (Dh.pt b (Dh.seqB fl vs)) :: (Dh.dvs vs (ps.map pD)) :: R) fun H => Q (.ref d) H) ∧ ((∃ p ∈ ps, 128 ≤ p.pl) → Dh.Go T (R) fun H => E (.ref C_BadPlan) none H)
theorem use_said {L A0 A1 : List Dh.HP} {Q : VK} {E : XK} {b : Addr} {fl : Bool} {vs : List V} {ps : List Prt} (q0 : Dh.Pick L (Dh.pt b (Dh.seqB fl vs)) A0) (q1 : Dh.Pick A0 (Dh.dvs vs (ps.map pD)) A1) (h0 : ps.length ≤ 3) (h1 : ∀ p ∈ ps, (p.row.getD []).length ≤ 9 ∧ ∀ q ∈ p.row.getD [], q.1 < 256) (k0 : ∀ (d : Addr) (ws : List V), (∀ p ∈ ps, p.pl < 128) → Dh.Go T ((Dh.pt d (.tup ws)) :: (Dh.dvs ws ((sdL ps).map Dh.dP)) :: (Dh.pt b (Dh.seqB fl vs)) :: (Dh.dvs vs (ps.map pD)) :: A1) fun H => Q (.ref d) H) (k1 : (∃ p ∈ ps, 128 ≤ p.pl) → Dh.Go T (A1) fun H => E (.ref C_BadPlan) none H) : Dh.Go T L fun H => Dh.sOfN T 1 (sg_said T K C_Chip C_BadWord C_BadPlace C_BadPlan C_NotDue C_Stuck C_BadBits C_BadText C_TooLarge g_told) [.ref b] H Q E := Dh.g_sp rfl ⟨b, fl, vs, ps, A1, rfl, (Dh.ent_cons q0 (Dh.ent_cons q1 Dh.ent_refl)), h0, h1, k0, k1⟩
local macro_rules | `(tactic| kspl_open zz_use) => `(tactic| ((with_reducible refine' Toy.use_said ?q0 ?q1 ?h0 ?h1 (fun _ _ _ => ?k0) (fun _ => ?k1)); (case q0 => kspl_open zz_pk); (case q1 => kspl_open zz_pk); (case h0 => kspl_open zz_side); (case h1 => kspl_open zz_side)))
set_option maxHeartbeats 8000000 in
theorem ok_said (Z : Txt K mg C_Chip C_BadWord C_BadPlace C_BadPlan C_NotDue C_Stuck C_BadBits C_BadText C_TooLarge g_told) (c_begin : Dh.CalX P w K mg base 1 "begin" (Dh.sOfN T 0 (sg_begin T K C_Chip C_BadWord C_BadPlace C_BadPlan C_NotDue C_Stuck C_BadBits C_BadText C_TooLarge g_told))) (c_end : Dh.CalX P w K mg base 1 "end" (Dh.sOfN T 0 (sg_end T K C_Chip C_BadWord C_BadPlace C_BadPlan C_NotDue C_Stuck C_BadBits C_BadText C_TooLarge g_told))) (c_octet : Dh.CalX P w K mg base 2 "octet" (Dh.sOfN T 2 (sg_octet T K C_Chip C_BadWord C_BadPlace C_BadPlan C_NotDue C_Stuck C_BadBits C_BadText C_TooLarge g_told))) {f : Addr} {fd : FuncData} {cdv : Value} (F : Dh.FunC K "said" "said" s_said f fd cdv) :
    FnOk P w K mg base (L2.CX P w) 3 f fd ["parts"] (Dh.sOfN T 1 (sg_said T K C_Chip C_BadWord C_BadPlace C_BadPlan C_NotDue C_Stuck C_BadBits C_BadText C_TooLarge g_told)) := by
  refine Dh.fnX (k := 2) F sc_said rfl (fun A outer s H0 L vs Q E hr hl h => ?_)
  refine ⟨_, (pss_cons (ps_set (i := 1) sc_said.nd rfl (by first | exact Or.inl rfl | exact Or.inr rfl) (pe_lst (pa_cons (pe_tup (pa_cons pe_int (pa_cons pe_int pa_nil))) pa_nil)))
    (pss_cons (ps_for (passes_of rfl) rfl (Dh.piEnumB (K := K) rfl (by rfl) Z.b_enumerate (pa_cons (pv 0) pa_nil)) (Dh.pgTup (K := K) rfl rfl (pgs_cons (pg_name (i := 2) sc_said.nd rfl (by first | exact Or.inl rfl | exact Or.inr rfl)) (pgs_cons (Dh.pgTup (K := K) rfl rfl (pgs_cons (pg_name (i := 3) sc_said.nd rfl (by first | exact Or.inl rfl | exact Or.inr rfl)) (pgs_cons (pg_name (i := 4) sc_said.nd rfl (by first | exact Or.inl rfl | exact Or.inr rfl)) (pgs_cons (pg_name (i := 5) sc_said.nd rfl (by first | exact Or.inl rfl | exact Or.inr rfl)) pgs_nil))) rfl rfl) pgs_nil)) rfl rfl)
    (pss_cons (ps_if (pt_not (pt_chain op_le op_lt pe_int (pv 3) pe_int))
    (pss_one (Dh.ps_rs rfl (takes_of rfl rfl rfl rfl) Z.e_BadPlan rfl))
    pss_nil)
    (Evl.pss_cut (ps_if (pt_cmpR op_gt (pv 2) pe_int (nomark _))
    (pss_one (ps_expr (pe_bm PySem.F.plainAttrs_list PySem.F.slot_list_extend PySem.F.type_list_extend mt_extend (pv 1) (pa_cons (pe_lst (pa_cons (pe_tup (pa_cons pe_int (pa_cons pe_int pa_nil))) (pa_cons (pe_tup (pa_cons pe_int (pa_cons pe_int pa_nil))) pa_nil))) pa_nil))))
    pss_nil)
    (pss_cons (ps_expr (pe_bm PySem.F.plainAttrs_list PySem.F.slot_list_extend PySem.F.type_list_extend mt_extend (pv 1) (pa_cons (Dh.pe_cal0 c_begin hr (by decide) (passes_call (takes_of rfl rfl rfl rfl) (fun _ _ _ _ h => h)) rfl) pa_nil)))
    (pss_cons (ps_expr (pe_bm PySem.F.plainAttrs_list PySem.F.slot_list_extend PySem.F.type_list_extend mt_extend (pv 1) (pa_cons (Dh.pe_cal c_octet hr (by decide) (passes_call (takes_of rfl rfl rfl rfl) (fun _ _ _ _ h => h)) rfl (pa_cons (pe_op (Dh.oAdd (K := K) rfl) (pe_op (Dh.oMul (K := K) rfl) pe_int (pv 3)) (pe_callTy Dh.call_intX (by rfl) Z.b_int (by first | exact PySem.boot_int | exact PyProof.Rows.boot_int | decide +kernel) (pa_cons (pv 4) pa_nil))) (pa_cons (pe_ifExp (pt_cmpR Dh.op_notNX (pv 5) pe_non (nomark _)) pe_int pe_int) pa_nil))) pa_nil)))
    (pss_one (ps_for (passes_of rfl) rfl (Dh.piSeq (K := K) rfl (pe_ifExp (pt_cmpR Dh.op_notNX (pv 5) pe_non (nomark _)) (pv 5) (pe_tup pa_nil))) (Dh.pgTup (K := K) rfl rfl (pgs_cons (pg_name (i := 6) sc_said.nd rfl (by first | exact Or.inl rfl | exact Or.inr rfl)) (pgs_cons (pg_name (i := 7) sc_said.nd rfl (by first | exact Or.inl rfl | exact Or.inr rfl)) pgs_nil)) rfl rfl)
    (pss_one (ps_expr (pe_bm PySem.F.plainAttrs_list PySem.F.slot_list_extend PySem.F.type_list_extend mt_extend (pv 1) (pa_cons (Dh.pe_cal c_octet hr (by decide) (passes_call (takes_of rfl rfl rfl rfl) (fun _ _ _ _ h => h)) rfl (pa_cons (pv 6) (pa_cons (pv 7) pa_nil))) pa_nil)))))))))))
    (pss_one (ps_ret (pe_callTy (Dh.cTup (K := K) rfl) (by rfl) Z.b_tuple (by first | exact PySem.boot_tuple | exact PyProof.Rows.boot_tuple | decide +kernel) (pa_cons (pe_op (Dh.oAdd (K := K) rfl) (pv 1) (Dh.pe_cal0 c_end hr (by decide) (passes_call (takes_of rfl rfl rfl rfl) (fun _ _ _ _ h => h)) rfl)) pa_nil)))))), ?_⟩
  try dsimp only [L2.cxOf, L2.Cx.blk, LamX.lamCx, L2.Cx.tr, L2.Cx.suite]
  obtain ⟨b, fl, vs, ps, R, rfl, hE, h0, h1, k0, k1⟩ := h
  refine Dh.Go.ent hE ?_
  rw [show L2.start N_said [.ref b] = [some (.ref b), none, none, none, none, none, none, none] from rfl]
  kspl_open zz_vc
  rename_i p0 F
  refine Dh.go_dvsLen (show Dh.Pick _ (Dh.dvs vs (ps.map pD)) _ by kspl_open zz_pk) fun hvl => ?_
  rw [List.length_map] at hvl
  refine Dh.go_dvs (vs := [.ref p0]) (ds := [(1, 1)].map Dh.dP) (fun H s => .cons (Dh.dvPr 1 1 (by kspl_open zz_pk) s) .nil) ?_
  refine Dh.g_iEnumB fl (xs := vs) (by kspl_open zz_pk) fun J Gd w hGd => ?_
  refine Dh.g_forP (n := vs.length) w (fun i σ L => ∃ (v2 v3 v4 v5 v6 v7 : Option V) (ws : List V), σ = [some (.ref b), some (.ref F), v2, v3, v4, v5, v6, v7] ∧ (∀ p ∈ ps.take i, p.pl < 128) ∧
    Dh.Ent L (Dh.pt F (.lst ws) :: Dh.dvs ws (([(1, 1)] ++ sdB 0 (ps.take i)).map Dh.dP) :: Dh.pt b (Dh.seqB fl vs) :: Dh.dvs vs (ps.map pD) :: R)) ⟨_, _, _, _, _, _, _, rfl, by simp, Dh.ent_cons (show Dh.Pick _ (Dh.pt F (.lst [.ref p0])) _ by kspl_open zz_pk) (Dh.ent_cons (show Dh.Pick _ (Dh.dvs [.ref p0] ([(1, 1)].map Dh.dP)) _ by kspl_open zz_pk) (by kspl_open zz_ent))⟩ (fun i σ L h => ?_) ?_ ?_
  · obtain ⟨_, _, _, _, _, _, _, _, _, hE⟩ := h
    exact fun H s => hGd _ _ (show Dh.Pick _ (Dh.pt b (Dh.seqB fl vs)) _ by kspl_open zz_pk) H (hE H s)
  · rintro i xj yj pp σ L hj hxj hyj ⟨v2, v3, v4, v5, v6, v7, ws, rfl, hpl, hE⟩
    cases hxj
    obtain ⟨p, hp⟩ : ∃ p, ps[i]? = some p := ⟨_, List.getElem?_eq_getElem (by omega)⟩
    have hpm : p ∈ ps := List.mem_of_getElem? hp
    refine Dh.Go.ent (Dh.ent_tail hE) ?_
    refine Dh.go_dvsAt (k := i) (d := pD p) (show Dh.Pick _ (Dh.dvs vs (ps.map pD)) _ by kspl_open zz_pk) (by rw [List.getElem?_map, hp]; rfl) fun y hy => ?_
    rw [hyj] at hy
    cases hy
    have htk : ps.take (i + 1) = ps.take i ++ [p] := by rw [List.take_add_one, hp]; rfl
    have hil : (ps.take i).length = i := by rw [List.length_take]; omega
    have hsn : sdB 0 (ps.take (i + 1)) = sdB 0 (ps.take i) ++ (if i = 0 then [] else [(0, 1), (1, 1)]) ++ prL p := by rw [htk, sdB_snoc, hil, Nat.zero_add]
    have hbl := sdB_len (ps.take i) (fun q hq => (h1 q (List.mem_of_mem_take hq)).1) 0
    rw [hil] at hbl
    have hrw := h1 p hpm
    have hpl2 : p.pl < 128 → ∀ q ∈ ps.take (i + 1), q.pl < 128 := fun z q hq => by
      rw [htk] at hq
      rcases List.mem_append.mp hq with hq | hq
      · exact hpl q hq
      · rw [List.mem_singleton.mp hq]; exact z
    rw [hsn]
    clear hsn htk
    generalize sdB 0 (ps.take i) = acc at hbl hE ⊢
    refine Dh.go_dvTri Dh.pick_here fun t z ht => ?_
    subst ht
    kspl_open zz_vc
    refine Dh.g_ifN (fun zp => ?_) (fun zp => ?_)
    rotate_left
    · kspl_open zz_vc
      exact Dh.Go.ent (by kspl_open zz_ent) (k1 ⟨p, hpm, by omega⟩)
    have hpl3 := hpl2 (by omega)
    kspl_open zz_vc
    refine Dh.g_cutS (fun σ L => ∃ ws : List V, σ = [some (.ref b), some (.ref F), some (.int (i : Int)), some (.int (p.pl : Int)), some (.bl p.rd), some z, v6, v7] ∧
      Dh.Ent L (Dh.pt F (.lst ws) :: Dh.dvs ws (([(1, 1)] ++ (acc ++ (if i = 0 then [] else [(0, 1), (1, 1)]))).map Dh.dP) :: Dh.dv z (oD p.row) :: Dh.pt b (Dh.seqB fl vs) :: Dh.dvs vs (ps.map pD) :: R)) ?c1 ?c2
    · kspl_open zz_vc
      refine Dh.g_ifD (fun zk => ?_) (fun zk => ?_)
      · kspl_open zz_vc
        rename_i p1 p2 e
        refine Dh.go_dvs (vs := [.ref p1, .ref p2]) (ds := [(0, 1), (1, 1)].map Dh.dP) (fun H s => .cons (Dh.dvPr 0 1 (by kspl_open zz_pk) s) (.cons (Dh.dvPr 1 1 (by kspl_open zz_pk) s) .nil)) ?_
        refine Dh.g_extP (ls := [(1, 1)] ++ acc) (ms := [(0, 1), (1, 1)]) (by kspl_open zz_pk) (by kspl_open zz_pk) (by kspl_open zz_pk) (by kspl_open zz_pk) (by simp only [List.length_append, List.length_cons, List.length_nil, PySem.sizeLine_eq]; omega) ?_
        kspl_open zz_vc
        rw [if_neg (show ¬ i = 0 by omega), ← List.append_assoc]
        exact Dh.SI.in ⟨_, rfl, by kspl_open zz_ent⟩
      · kspl_open zz_vc
        rw [if_pos (show i = 0 by omega), List.append_nil]
        exact Dh.SI.in ⟨_, rfl, by kspl_open zz_ent⟩
    · rintro σ L ⟨ws2, rfl, hE2⟩
      refine Dh.Go.ent hE2 ?_
      have hsl : (if i = 0 then [] else [(0, 1), (1, 1)] : List (Nat × Nat)).length ≤ 2 := by split <;> decide
      have hpr : (prL p).length ≤ 300 := prL_len hrw.1
      unfold prL at hpr ⊢
      generalize (if i = 0 then [] else [(0, 1), (1, 1)] : List (Nat × Nat)) = sp at hsl ⊢
      have hac : ([(1, 1)] ++ (acc ++ sp)).length ≤ 1000 := by
        simp only [List.length_append, List.length_cons, List.length_nil]
        omega
      have hoc := ocL_len (n := 2 * p.pl + p.rd.toNat) (b := if p.row.isSome then 0 else 1)
      have hbg : bgL.length = 3 := rfl
      have hrd : (p.rd.toNat : Int) = if p.rd = true then 1 else 0 := by cases p.rd <;> rfl
      have hrd1 : p.rd.toNat ≤ 1 := by cases p.rd <;> decide
      have hvi : 2 * (p.pl : Int) + (if p.rd = true then 1 else 0) = ((2 * p.pl + p.rd.toNat : Nat) : Int) := by rw [← hrd]; rfl
      cases hrow : p.row with
      | none =>
        rw [hrow] at hrw
        clear hoc
        refine Dh.go_dvNon (show Dh.Pick _ (Dh.dv z (oD none)) _ by kspl_open zz_pk) fun ez => ?_
        subst ez
        kspl_open zz_vc
        rw [hvi]
        refine use_octet (n := 2 * p.pl + p.rd.toNat) (b := 1) (by omega) fun d ws3 => ?_
        have hoc : (ocL (2 * p.pl + p.rd.toNat) 1).length = 27 := ocL_len
        kspl_open zz_vc
        rename_i e
        refine Dh.g_forT (xs := []) (fun j σ L => σ = [some (.ref b), some (.ref F), some (.int (i : Int)), some (.int (p.pl : Int)), some (.bl p.rd), some .non, v6, v7] ∧
          Dh.Ent L (Dh.pt F (.lst ((ws2 ++ _) ++ ws3)) :: Dh.dvs ((ws2 ++ _) ++ ws3) (([(1, 1)] ++ (acc ++ sp) ++ bgL ++ ocL (2 * p.pl + p.rd.toNat) 1).map Dh.dP) :: Dh.pt e (.tup []) :: Dh.pt b (Dh.seqB fl vs) :: Dh.dvs vs (ps.map pD) :: R)) ⟨rfl, by kspl_open zz_ent⟩ ?_ ?_ ?_
        · rintro j σ L ⟨rfl, hE3⟩
          exact ⟨_, fun H s => (show Dh.Pick _ (Dh.pt e (.tup [])) _ by kspl_open zz_pk) H (hE3 H s)⟩
        · rintro j x σ L hx ⟨rfl, hE3⟩
          simp at hx
        · rintro σ L ⟨rfl, hE3⟩
          refine Dh.Go.ent hE3 ?_
          refine Dh.SI.in ⟨_, _, _, _, _, _, _, rfl, hpl3, Dh.ent_cons Dh.pick_here ?e5⟩
          simp only [Option.isSome_none, Option.getD_none, Bool.false_eq_true, if_false, show rowL [] = [] from rfl, List.append_nil, ← List.append_assoc]
          kspl_open zz_ent
      | some l =>
        rw [hrow] at hrw
        clear hoc
        refine Dh.go_dvTup (show Dh.Pick _ (Dh.dv z (oD (some l))) _ by kspl_open zz_pk) fun q qs ez => ?_
        subst ez
        refine Dh.go_dvsLen (show Dh.Pick _ (Dh.dvs qs (l.map Dh.dP)) _ by kspl_open zz_pk) fun hql => ?_
        rw [List.length_map] at hql
        kspl_open zz_vc
        rename_i bga bgv
        rw [hvi]
        refine use_octet (n := 2 * p.pl + p.rd.toNat) (b := 0) (by omega) fun d ws3 => ?_
        have hoc : (ocL (2 * p.pl + p.rd.toNat) 0).length = 27 := ocL_len
        have hrl : l.length ≤ 9 := hrw.1
        kspl_open zz_vc
        refine Dh.g_forT (xs := qs) (fun j σ L => ∃ (w6 w7 : Option V) (ws4 : List V), σ = [some (.ref b), some (.ref F), some (.int (i : Int)), some (.int (p.pl : Int)), some (.bl p.rd), some (.ref q), w6, w7] ∧
          Dh.Ent L (Dh.pt F (.lst ws4) :: Dh.dvs ws4 (([(1, 1)] ++ (acc ++ sp) ++ bgL ++ ocL (2 * p.pl + p.rd.toNat) 0 ++ rowL (l.take j)).map Dh.dP) :: Dh.pt q (.tup qs) :: Dh.dvs qs (l.map Dh.dP) :: Dh.pt b (Dh.seqB fl vs) :: Dh.dvs vs (ps.map pD) :: R)) ⟨_, _, ws2 ++ bgv ++ ws3, rfl, ?e0⟩ ?_ ?_ ?_
        case e0 =>
          rw [List.take_zero, show rowL [] = [] from rfl, List.append_nil]
          kspl_open zz_ent
        · rintro j σ L ⟨w6, w7, ws4, rfl, hE3⟩
          exact ⟨_, fun H s => (show Dh.Pick _ (Dh.pt q (.tup qs)) _ by kspl_open zz_pk) H (hE3 H s)⟩
        · rintro j x σ L hx ⟨w6, w7, ws4, rfl, hE3⟩
          have hj2 := (List.getElem?_eq_some_iff.mp hx).1
          obtain ⟨m, hm⟩ : ∃ m, l[j]? = some m := ⟨_, List.getElem?_eq_getElem (by omega)⟩
          have hrl2 := rowL_len (l.take j)
          rw [List.length_take] at hrl2
          have hml := hrw.2 m (List.mem_of_getElem? hm)
          have hoc2 : (ocL m.1 m.2).length = 27 := ocL_len
          have hac2 : ([(1, 1)] ++ (acc ++ sp) ++ bgL ++ ocL (2 * p.pl + p.rd.toNat) 0 ++ rowL (l.take j)).length ≤ 2000 := by
            simp only [List.length_append, List.length_cons, List.length_nil] at hac ⊢
            omega
          rw [show l.take (j + 1) = l.take j ++ [m] by rw [List.take_add_one, hm]; rfl, rowL_snoc, ← List.append_assoc]
          refine Dh.Go.ent hE3 ?_
          refine Dh.go_dvsAt (k := j) (d := Dh.dP m) (show Dh.Pick _ (Dh.dvs qs (l.map Dh.dP)) _ by kspl_open zz_pk) (by rw [List.getElem?_map, hm]; rfl) fun y hy => ?_
          rw [hx] at hy
          cases hy
          refine Dh.go_dvP Dh.pick_here fun t et => ?_
          subst et
          kspl_open zz_vc
          exact Dh.SI.in ⟨_, _, _, rfl, by kspl_open zz_ent⟩
        · rintro σ L ⟨w6, w7, ws4, rfl, hE3⟩
          refine Dh.Go.ent hE3 ?_
          rw [hql, List.take_length]
          refine Dh.SI.in ⟨_, _, _, _, _, _, _, rfl, hpl3, Dh.ent_cons Dh.pick_here ?e6⟩
          simp only [Option.isSome_some, Option.getD_some, if_true, ← List.append_assoc]
          kspl_open zz_ent
  · rintro σ L ⟨v2, v3, v4, v5, v6, v7, ws, rfl, hpl, hE⟩
    refine Dh.Go.ent hE ?_
    rw [hvl, List.take_length] at hpl
    have hbl := sdB_len ps (fun q hq => (h1 q hq).1) 0
    have hen : enL.length = 3 := rfl
    rw [hvl, List.take_length]
    kspl_open zz_vc
    exact Dh.Go.ent (Dh.ent_tail (by kspl_open zz_ent)) (k0 _ _ hpl)
end
end Toy
end

section
local macro_rules | `(tactic| kspl_open zz_ent1) => `(tactic| first | (with_reducible exact Dh.ent_refl) | (with_reducible exact Dh.ent_nil) | (refine' Dh.ent_cons ?q0 ?k; (case q0 => kspl_open zz_pk)) | (refine' Dh.ent_drop ?k))
local macro_rules | `(tactic| kspl_open zz_hasm) => `(tactic| first | (refine' Dh.hasM_ob ?q0 ?q1; (case q0 => kspl_open zz_pk); (case q1 => kspl_open zz_lk)))
local macro_rules | `(tactic| kspl_open zz_vc1) => `(tactic| first | ((refine' Dh.wk1 ?k); (repeat (with_reducible intro _))) | kspl_open zz_vcp0 | kspl_open zz_vcp1 | kspl_open zz_vcp2 | kspl_open zz_vcp3 | kspl_open zz_vcp4 | kspl_open zz_vcp5 | kspl_open zz_vcp6 | kspl_open zz_vcp7 | kspl_open zz_vcp8 | kspl_open zz_vcp9 | kspl_open zz_vcp10 | kspl_open zz_use1 | kspl_open zz_told1)
local macro_rules | `(tactic| kspl_open zz_use1) => `(tactic| ((with_reducible refine' Toy.use_law_dice (fun _ _ _ _ => ?k0))))
local macro_rules | `(tactic| kspl_open zz_use1) => `(tactic| ((with_reducible refine' Toy.use_law_roll ?q0 ?h0 ?h1 (fun _ _ => ?k0)); (case q0 => kspl_open zz_pk); (case h0 => kspl_open zz_side); (case h1 => kspl_open zz_side)))
local macro_rules | `(tactic| kspl_open zz_use1) => `(tactic| ((with_reducible refine' Toy.use_begin (fun _ _ => ?k0))))
local macro_rules | `(tactic| kspl_open zz_use1) => `(tactic| ((with_reducible refine' Toy.use_end (fun _ _ => ?k0))))
local macro_rules | `(tactic| kspl_open zz_use1) => `(tactic| ((with_reducible refine' Toy.use_bit (fun _ _ => ?k0))))
local macro_rules | `(tactic| kspl_open zz_use1) => `(tactic| ((with_reducible refine' Toy.use_raised_two ?h0 ?k0); (case h0 => kspl_open zz_side)))
local macro_rules | `(tactic| kspl_open zz_use1) => `(tactic| ((with_reducible refine' Toy.use_octet ?h0 (fun _ _ => ?k0)); (case h0 => kspl_open zz_side)))
local macro_rules | `(tactic| kspl_open zz_use) => `(tactic| ((with_reducible refine' Toy.use_said ?q0 ?q1 ?h0 ?h1 (fun _ _ _ => ?k0) (fun _ => ?k1)); (case q0 => kspl_open zz_pk); (case q1 => kspl_open zz_pk); (case h0 => kspl_open zz_side); (case h1 => kspl_open zz_side)))

namespace Toy
open PySem L2
section
variable {P : Program} {w : World} {K : PySem.W.Frag} {mg : Str → Option Value} {base : Heap} {T : List (Addr × Str)} {C_Chip C_BadWord C_BadPlace C_BadPlan C_NotDue C_Stuck C_BadBits C_BadText C_TooLarge g_told : Addr}
inductive Rw where
  | beg
  | fin
  | oct (n b : Nat)
deriving DecidableEq
abbrev rD : Rw → Dh.Dt
  | .beg => .tup [.str "begin"]
  | .fin => .tup [.str "end"]
  | .oct n b => .tup [.str "octet", .int (n : Int), .int (b : Int)]
structure Hs where
  rows : List Rw
  bits : List Nat
  last : Nat × Nat
  bg : Bool
def byt (us : List Nat) : Nat := ((List.range 8).map fun j => us.getD j 0 * 2 ^ (7 - j)).sum
def hs1 (s : Hs) (p : Nat × Nat) : Option Hs :=
  if s.last.1 = 1 ∧ p.1 = 1 ∧ s.last.2 ≠ p.2 then
    if 1 < s.bits.length then none
    else some ⟨if p.2 = 0 then s.rows ++ [.beg] else if s.bg = true then s.rows ++ [.fin] else s.rows, [], p, decide (p.2 = 0)⟩
  else if s.last.1 = 0 ∧ p.1 = 1 ∧ s.bg = true then
    if s.bits.length + 1 = 9 then some ⟨s.rows ++ [.oct (byt (s.bits ++ [p.2])) p.2], [], p, s.bg⟩
    else some ⟨s.rows, s.bits ++ [p.2], p, s.bg⟩
  else some ⟨s.rows, s.bits, p, s.bg⟩
def hrun : Hs → List (Nat × Nat) → Option Hs
  | s, [] => some s
  | s, p :: r => (hs1 s p).bind fun s' => hrun s' r
def hrd : List (Nat × Nat) → Option (List Rw)
  | [] => some []
  | p :: r => (hrun ⟨[], [], p, false⟩ r).bind fun s => if s.bg = true ∨ 1 < s.bits.length then none else some s.rows
theorem hrun_cons {s : Hs} {p : Nat × Nat} {r : List (Nat × Nat)} : hrun s (p :: r) = (hs1 s p).bind fun s' => hrun s' r := rfl
def Hs.ok (s : Hs) (i : Nat) : Prop := s.rows.length ≤ i ∧ s.bits.length ≤ 8 ∧ ∀ u ∈ s.bits, u ≤ 1
theorem hs1_ok {s s' : Hs} {p : Nat × Nat} {i : Nat} (h : s.ok i) (hp : p.2 ≤ 1) (e : hs1 s p = some s') : s'.ok (i + 1) := by
  obtain ⟨a, b, c⟩ := h
  unfold hs1 at e
  split at e
  · split at e
    · cases e
    · injection e with e
      subst e
      refine ⟨?_, Nat.zero_le _, fun u hu => nomatch hu⟩
      dsimp only
      split
      · rw [List.length_append]; exact Nat.succ_le_succ a
      · split
        · rw [List.length_append]; exact Nat.succ_le_succ a
        · exact Nat.le_succ_of_le a
  · split at e
    · split at e
      · injection e with e
        subst e
        exact ⟨by rw [List.length_append]; exact Nat.succ_le_succ a, Nat.zero_le _, fun u hu => nomatch hu⟩
      · rename_i h9
        injection e with e
        subst e
        refine ⟨Nat.le_succ_of_le a, by rw [List.length_append, List.length_singleton]; omega, fun u hu => ?_⟩
        rcases List.mem_append.mp hu with hu | hu
        · exact c u hu
        · rw [List.mem_singleton.mp hu]; exact hp
    · injection e with e
      subst e
      exact ⟨Nat.le_succ_of_le a, b, c⟩
theorem dT {a : Nat} {k : Int} (h : (a : Int) = k) : decide (Dh.nI a = V.int k) = true := decide_eq_true (congrArg V.int h)
theorem dF {a : Nat} {k : Int} (h : (a : Int) ≠ k) : decide (Dh.nI a = V.int k) = false := decide_eq_false fun z => h (by injection z)
theorem byt_sum {us : List Nat} {f : Nat → Int} (h : ∀ j, j < 8 → f j = ((us.getD j 0 * 2 ^ (7 - j) : Nat) : Int)) : (((List.range 8).filter fun _ => true).map f).sum = ((byt us : Nat) : Int) := by
  unfold byt
  rw [Dh.filt_true]
  simp only [show List.range 8 = [0, 1, 2, 3, 4, 5, 6, 7] from rfl, List.map_cons, List.map_nil, List.sum_cons, List.sum_nil]
  rw [h 0 (by decide), h 1 (by decide), h 2 (by decide), h 3 (by decide), h 4 (by decide), h 5 (by decide), h 6 (by decide), h 7 (by decide)]
  omega
def sg_heard_on (T : List (Addr × Str)) (K : PySem.W.Frag) (C_Chip C_BadWord C_BadPlace C_BadPlan C_NotDue C_Stuck C_BadBits C_BadText C_TooLarge g_told : Addr) : Dh.SG :=
  fun zs L Q E => ∃ (b : Addr) (vs : List V) (ls : List (Nat × Nat)) (R : List Dh.HP), zs = [.ref b] ∧ Dh.Ent L ((Dh.pt b (.tup vs)) :: (Dh.dvs vs (ls.map Dh.dP)) :: R) ∧ (0 < ls.length) ∧ (ls.length ≤ 10000) ∧ (∀ p ∈ ls, p.2 ≤ 1) ∧ (∀ (d : Addr) (ws : List V) (rs : List Rw), (hrd ls = some rs) → (rs.length ≤ ls.length) → Dh.Go T ((Dh.pt d (.tup ws)) :: (Dh.dvs ws (rs.map rD)) :: (Dh.pt b (.tup vs)) :: (Dh.dvs vs (ls.map Dh.dP)) :: R) fun H => Q (.ref d) H) ∧ (∀ (d : Addr), (hrd ls = none) → Dh.Go T ((Dh.pt b (.tup vs)) :: (Dh.dvs vs (ls.map Dh.dP)) :: R) fun H => E (.ref C_BadBits) (some d) H)
theorem use_heard_on {L A0 A1 : List Dh.HP} {Q : VK} {E : XK} {b : Addr} {vs : List V} {ls : List (Nat × Nat)} (q0 : Dh.Pick L (Dh.pt b (.tup vs)) A0) (q1 : Dh.Pick A0 (Dh.dvs vs (ls.map Dh.dP)) A1) (h0 : 0 < ls.length) (h1 : ls.length ≤ 10000) (h2 : ∀ p ∈ ls, p.2 ≤ 1) (k0 : ∀ (d : Addr) (ws : List V) (rs : List Rw), (hrd ls = some rs) → (rs.length ≤ ls.length) → Dh.Go T ((Dh.pt d (.tup ws)) :: (Dh.dvs ws (rs.map rD)) :: (Dh.pt b (.tup vs)) :: (Dh.dvs vs (ls.map Dh.dP)) :: A1) fun H => Q (.ref d) H) (k1 : ∀ (d : Addr), (hrd ls = none) → Dh.Go T ((Dh.pt b (.tup vs)) :: (Dh.dvs vs (ls.map Dh.dP)) :: A1) fun H => E (.ref C_BadBits) (some d) H) : Dh.Go T L fun H => Dh.sOfN T 1 (sg_heard_on T K C_Chip C_BadWord C_BadPlace C_BadPlan C_NotDue C_Stuck C_BadBits C_BadText C_TooLarge g_told) [.ref b] H Q E := Dh.g_sp rfl ⟨b, vs, ls, A1, rfl, (Dh.ent_cons q0 (Dh.ent_cons q1 Dh.ent_refl)), h0, h1, h2, k0, k1⟩
local macro_rules | `(tactic| kspl_open zz_use) => `(tactic| ((with_reducible refine' Toy.use_heard_on ?q0 ?q1 ?h0 ?h1 ?h2 (fun _ _ _ _ _ => ?k0) (fun _ _ => ?k1)); (case q0 => kspl_open zz_pk); (case q1 => kspl_open zz_pk); (case h0 => kspl_open zz_side); (case h1 => kspl_open zz_side); (case h2 => kspl_open zz_side)))
set_option maxHeartbeats 8000000 in
theorem ok_heard_on (Z : Txt K mg C_Chip C_BadWord C_BadPlace C_BadPlan C_NotDue C_Stuck C_BadBits C_BadText C_TooLarge g_told) (c_BadBits : Dh.RaiX P w K mg base "BadBits" C_BadBits "place") (c_raised_two : Dh.CalX P w K mg base 1 "raised_two" (Dh.sOfN T 1 (sg_raised_two T K C_Chip C_BadWord C_BadPlace C_BadPlan C_NotDue C_Stuck C_BadBits C_BadText C_TooLarge g_told))) {cc PP : Addr} (TB : LamX.TabB base mg cc PP) (hmT : (PP, Dh.genQ (Dh.locQ "heard_on")) ∈ T) (huT : ∀ p ∈ T, p.1 = PP → p.2 = Dh.genQ (Dh.locQ "heard_on")) {f : Addr} {fd : FuncData} (F : Dh.FunC K "heard_on" "heard_on" s_heard_on f fd (.ref cc)) :
    FnOk P w K mg base (L2.CX P w) 3 f fd ["levels"] (Dh.sOfN T 1 (sg_heard_on T K C_Chip C_BadWord C_BadPlace C_BadPlan C_NotDue C_Stuck C_BadBits C_BadText C_TooLarge g_told)) := by
  refine Dh.fnX (k := 2) F sc_heard_on rfl (fun A outer s H0 L vs Q E hr hl h => ?_)
  refine ⟨_, (pss_cons (ps_par3 (i := 1) (j := 2) (l := 3) (by rfl) sc_heard_on.nd rfl rfl rfl (by decide) (by decide) (by decide) rfl rfl rfl (pa_cons (pe_lst pa_nil) (pa_cons (pe_lst pa_nil) (pa_cons (pe_ifExp (pt_cmpR (Dh.oNe (K := K) rfl hr.units) (pv 0) (pe_tup pa_nil) (nomark _)) (pe_ix (Dh.xSeq (K := K) rfl) (pv 0) pe_int (fun _ _ => rfl)) (pe_tup (pa_cons pe_int (pa_cons pe_int pa_nil)))) pa_nil))) (by rfl))
    (pss_cons (ps_set (i := 4) sc_heard_on.nd rfl (by first | exact Or.inl rfl | exact Or.inr rfl) pe_bl)
    (pss_cons (ps_for (passes_of rfl) rfl (Dh.piEnumT (K := K) rfl (by rfl) Z.b_enumerate (pa_cons (pe_slice (Dh.slSeqW (K := K) rfl) (pv 0) (po_some pe_int) po_none) pa_nil)) (Dh.pgTup (K := K) rfl rfl (pgs_cons (pg_name (i := 5) sc_heard_on.nd rfl (by first | exact Or.inl rfl | exact Or.inr rfl)) (pgs_cons (Dh.pgTup (K := K) rfl rfl (pgs_cons (pg_name (i := 6) sc_heard_on.nd rfl (by first | exact Or.inl rfl | exact Or.inr rfl)) (pgs_cons (pg_name (i := 7) sc_heard_on.nd rfl (by first | exact Or.inl rfl | exact Or.inr rfl)) pgs_nil)) rfl rfl) pgs_nil)) rfl rfl)
    (Evl.pss_cut (ps_if (PW.pt (pw_and (pt_cmpR (Dh.oEq (K := K) rfl hr.units) (pe_ix (Dh.xSeq (K := K) rfl) (pv 3) pe_int (fun _ _ => rfl)) pe_int (nomark _)) (pw_and (pt_cmpR (Dh.oEq (K := K) rfl hr.units) (pv 6) pe_int (nomark _)) (pw_and1 (pt_cmpR (Dh.oNe (K := K) rfl hr.units) (pe_ix (Dh.xSeq (K := K) rfl) (pv 3) pe_int (fun _ _ => rfl)) (pv 7) (nomark _))))))
    (pss_cons (ps_if (pt_cmpR op_gt (pe_callB (Dh.cLen (K := K) rfl) (by rfl) Z.b_len (by first | exact PySem.boot_len | exact PyProof.Rows.boot_len | decide +kernel) (pa_cons (pv 2) pa_nil)) pe_int (nomark _))
    (pss_one (Dh.ps_rsx rfl (takes_of rfl rfl rfl rfl) c_BadBits hr (by decide) rfl (pa_cons (pe_op (Dh.oAdd (K := K) rfl) (pv 5) pe_int) pa_nil)))
    pss_nil)
    (pss_cons (ps_if (pt_cmpR (Dh.oEq (K := K) rfl hr.units) (pv 7) pe_int (nomark _))
    (pss_cons (ps_expr (pe_bm PySem.F.plainAttrs_list PySem.F.slot_list_append PySem.F.type_list_append mt_append (pv 1) (pa_cons (pe_tup (pa_cons pe_str pa_nil)) pa_nil)))
    (pss_one (ps_set (i := 4) sc_heard_on.nd rfl (by first | exact Or.inl rfl | exact Or.inr rfl) pe_bl)))
    (pss_one (ps_if (Dh.ptTru (K := K) rfl (pv 4))
    (pss_cons (ps_expr (pe_bm PySem.F.plainAttrs_list PySem.F.slot_list_append PySem.F.type_list_append mt_append (pv 1) (pa_cons (pe_tup (pa_cons pe_str pa_nil)) pa_nil)))
    (pss_one (ps_set (i := 4) sc_heard_on.nd rfl (by first | exact Or.inl rfl | exact Or.inr rfl) pe_bl)))
    pss_nil)))
    (pss_one (ps_set (i := 2) sc_heard_on.nd rfl (by first | exact Or.inl rfl | exact Or.inr rfl) (pe_lst pa_nil)))))
    (pss_one (ps_if (PW.pt (pw_and (pt_cmpR (Dh.oEq (K := K) rfl hr.units) (pe_ix (Dh.xSeq (K := K) rfl) (pv 3) pe_int (fun _ _ => rfl)) pe_int (nomark _)) (pw_and (pt_cmpR (Dh.oEq (K := K) rfl hr.units) (pv 6) pe_int (nomark _)) (pw_and1 (Dh.ptTru (K := K) rfl (pv 4))))))
    (pss_cons (ps_expr (pe_bm PySem.F.plainAttrs_list PySem.F.slot_list_append PySem.F.type_list_append mt_append (pv 2) (pa_cons (pv 7) pa_nil)))
    (pss_one (ps_if (pt_cmpR (Dh.oEq (K := K) rfl hr.units) (pe_callB (Dh.cLen (K := K) rfl) (by rfl) Z.b_len (by first | exact PySem.boot_len | exact PyProof.Rows.boot_len | decide +kernel) (pa_cons (pv 2) pa_nil)) pe_int (nomark _))
    (pss_cons (ps_expr (pe_bm PySem.F.plainAttrs_list PySem.F.slot_list_append PySem.F.type_list_append mt_append (pv 1) (pa_cons (pe_tup (pa_cons pe_str (pa_cons (Gx.pe_sumG (T := T) (k := 1) (own := [("j", 8), ("one", 9)]) (g := (gTup K 2 (gCons (gName 8) (gCons (gName 9) gNil)))) (tt := tYes) hr (by decide) rfl Z.b_sum TB Dh.cx_code Dh.cx_qual hmT huT (Gx.genOk_by (own := [("j", 8), ("one", 9)]) (N := N_heard_on) (by kernel_rfl)) sc_heard_on.nd (Dh.piEnum (K := K) rfl (by rfl) Z.b_enumerate (pa_cons (pe_slice (Dh.slSeq (K := K) rfl) (pv 2) po_none (po_some pe_int)) pa_nil)) (fun _ _ _ _ _ _ _ => (Dh.pgTup (K := K) rfl rfl (pgs_cons (pg_name (i := 8) sc_heard_on.nd rfl (by first | exact Or.inl rfl | exact Or.inr rfl)) (pgs_cons (pg_name (i := 9) sc_heard_on.nd rfl (by first | exact Or.inl rfl | exact Or.inr rfl)) pgs_nil)) rfl rfl)) (fun A s H C cd fp pn hrg => pts_nil) (fun A s H C cd fp pn hrg => (pe_op (Dh.oMul (K := K) rfl) (pv 9) (Dh.pe_cal c_raised_two hrg (by decide) passL rfl (pa_cons (pe_op op_sub pe_int (pv 8)) pa_nil))))) (pa_cons (pe_ix (Dh.xSeq (K := K) rfl) (pv 2) pe_int (fun _ _ => rfl)) pa_nil)))) pa_nil)))
    (pss_one (ps_set (i := 2) sc_heard_on.nd rfl (by first | exact Or.inl rfl | exact Or.inr rfl) (pe_lst pa_nil))))
    pss_nil)))
    pss_nil)))
    (pss_one (ps_set (i := 3) sc_heard_on.nd rfl (by first | exact Or.inl rfl | exact Or.inr rfl) (pe_tup (pa_cons (pv 6) (pa_cons (pv 7) pa_nil)))))))
    (pss_cons (ps_if (PW.pt (pw_or (Dh.ptTru (K := K) rfl (pv 4)) (pw_or1 (pt_cmpR op_gt (pe_callB (Dh.cLen (K := K) rfl) (by rfl) Z.b_len (by first | exact PySem.boot_len | exact PyProof.Rows.boot_len | decide +kernel) (pa_cons (pv 2) pa_nil)) pe_int (nomark _)))))
    (pss_one (Dh.ps_rsx rfl (takes_of rfl rfl rfl rfl) c_BadBits hr (by decide) rfl (pa_cons (pe_callB (Dh.cLen (K := K) rfl) (by rfl) Z.b_len (by first | exact PySem.boot_len | exact PyProof.Rows.boot_len | decide +kernel) (pa_cons (pv 0) pa_nil)) pa_nil)))
    pss_nil)
    (pss_one (ps_ret (pe_callTy (Dh.cTup (K := K) rfl) (by rfl) Z.b_tuple (by first | exact PySem.boot_tuple | exact PyProof.Rows.boot_tuple | decide +kernel) (pa_cons (pv 1) pa_nil)))))))), ?_⟩
  try dsimp only [L2.cxOf, L2.Cx.blk, LamX.lamCx, L2.Cx.tr, L2.Cx.suite]
  obtain ⟨b, vs, ls, R, rfl, hE, h0, h1, h2, k0, k1⟩ := h
  refine Dh.Go.ent hE ?_
  rw [show L2.start N_heard_on [.ref b] = [some (.ref b), none, none, none, none, none, none, none, none, none] from rfl]
  refine Dh.go_dvsLen (show Dh.Pick _ (Dh.dvs vs (ls.map Dh.dP)) _ by kspl_open zz_pk) fun hvl => ?_
  rw [List.length_map] at hvl
  obtain ⟨l0, lr, rfl⟩ : ∃ l0 lr, ls = l0 :: lr := by
    cases ls with
    | nil => simp at h0
    | cons l0 lr => exact ⟨l0, lr, rfl⟩
  have hd0 : Dh.Dt.deps ((l0 :: lr).map Dh.dP) ≤ 60 := Nat.le_trans (Dh.deps_map (m := 1) (fun _ => by simp [Dh.Dt.dep, Dh.Dt.deps]) _) (by decide)
  have hlay : Dh.Dt.lays ((l0 :: lr).map Dh.dP) = true := Dh.lays_all fun d hd => by
    obtain ⟨r, _, rfl⟩ := List.mem_map.mp hd
    rfl
  kspl_open zz_vc
  rename_i F B e
  refine Dh.g_neDt (d := .tup ((l0 :: lr).map Dh.dP)) (e := .tup []) (r := false) (fun H s => .tup (Dh.Pick.at (by kspl_open zz_pk) s) (Dh.Pick.dvs (show Dh.Pick _ (Dh.dvs vs ((l0 :: lr).map Dh.dP)) _ by kspl_open zz_pk) s)) (fun H s => .tup (Dh.Pick.at (show Dh.Pick _ (Dh.pt e (.tup [])) _ by kspl_open zz_pk) s) .nil) (by simp only [Dh.Dt.lay]; exact hlay) rfl (by simp only [Dh.Dt.dep]; omega) (by decide) rfl ?_
  refine Dh.go_dvsCons (d := Dh.dP l0) (ds := lr.map Dh.dP) (show Dh.Pick _ (Dh.dvs vs ((l0 :: lr).map Dh.dP)) _ by kspl_open zz_pk) fun x0 vr ev => ?_
  subst ev
  refine Dh.go_dvP (show Dh.Pick _ (Dh.dv x0 (Dh.dP l0)) _ by kspl_open zz_pk) fun t0 et => ?_
  subst et
  have e0 : L2.atI (V.ref t0 :: vr) 0 = some (.ref t0) := Dh.atI_lt (k := 0) rfl
  kspl_open zz_vc
  refine Dh.g_slW (by kspl_open zz_pk) fun p1 => ?_
  rw [show (some 1 : Option Int) = some ((1 : Nat) : Int) from rfl, Dh.cut_drop, show (V.ref t0 :: vr).drop 1 = vr from rfl]
  kspl_open zz_vc
  have hb0 : (⟨[], [], l0, false⟩ : Hs).ok 0 := ⟨Nat.le_refl _, Nat.zero_le _, fun u hu => nomatch hu⟩
  have hv2 : vr.length = lr.length := by simpa using hvl
  refine Dh.g_forP (n := vr.length) (Dh.walk_enumT (K := K) (a := p1) (xs := vr)) (fun i σ L => ∃ (v5 v6 v7 v8 v9 : Option V) (ws : List V) (st : Hs) (B lp : Addr), σ = [some (.ref b), some (.ref F), some (.ref B), some (.ref lp), some (.bl st.bg), v5, v6, v7, v8, v9] ∧ st.ok i ∧ hrun ⟨[], [], l0, false⟩ lr = hrun st (lr.drop i) ∧
    Dh.Ent L (Dh.pt F (.lst ws) :: Dh.dvs ws (st.rows.map rD) :: Dh.pt B (.lst (st.bits.map Dh.nI)) :: Dh.pt lp (.tup [Dh.nI st.last.1, Dh.nI st.last.2]) :: Dh.pt p1 (.tup vr) :: Dh.dvs vr (lr.map Dh.dP) :: Dh.pt b (.tup (V.ref t0 :: vr)) :: Dh.dvs (V.ref t0 :: vr) ((l0 :: lr).map Dh.dP) :: R)) ⟨_, _, _, _, _, [], ⟨[], [], l0, false⟩, B, t0, rfl, hb0, rfl, ?e0⟩ (fun i σ L h H s => ?_) ?_ ?_
  case e0 => exact Dh.ent_cons (show Dh.Pick _ (Dh.pt F (.lst [])) _ by kspl_open zz_pk) (Dh.ent_dvs (vs := []) (ds := []) (fun _ _ => .nil) (Dh.ent_cons (c := Dh.pt B (.lst [])) (show Dh.Pick _ (Dh.pt B (.lst [])) _ by kspl_open zz_pk) (by kspl_open zz_ent)))
  · obtain ⟨_, _, _, _, _, _, _, _, _, _, _, _, hE⟩ := h
    exact SqT.of (Dh.Pick.at (show Dh.Pick _ (Dh.pt p1 (.tup vr)) _ by kspl_open zz_pk) (hE H s))
  · rintro i xj yj pp σ L hj hxj hyj ⟨v5, v6, v7, v8, v9, ws, st, B, lp, rfl, hok, hrn, hE⟩
    cases hxj
    obtain ⟨p, hp⟩ : ∃ p, lr[i]? = some p := ⟨_, List.getElem?_eq_getElem (by omega)⟩
    have hp1 : p.2 ≤ 1 := h2 p (List.mem_cons_of_mem _ (List.mem_of_getElem? hp))
    have hdr : lr.drop i = p :: lr.drop (i + 1) := by
      obtain ⟨g1, g2⟩ := List.getElem?_eq_some_iff.mp hp
      rw [List.drop_eq_getElem_cons g1, g2]
    rw [hdr, hrun_cons] at hrn
    refine Dh.Go.ent (Dh.ent_tail hE) ?_
    refine Dh.go_dvsAt (k := i) (d := Dh.dP p) (show Dh.Pick _ (Dh.dvs vr (lr.map Dh.dP)) _ by kspl_open zz_pk) (by rw [List.getElem?_map, hp]; rfl) fun y hy => ?_
    rw [hyj] at hy
    cases hy
    refine Dh.go_dvP Dh.pick_here fun tp et => ?_
    subst et
    kspl_open zz_vc
    refine Dh.g_cutS (fun σ L => ∃ (v8 v9 : Option V) (ws : List V) (st' : Hs) (B : Addr), hs1 st p = some st' ∧ σ = [some (.ref b), some (.ref F), some (.ref B), some (.ref lp), some (.bl st'.bg), some (.int (i : Int)), some (Dh.nI p.1), some (Dh.nI p.2), v8, v9] ∧
      Dh.Ent L (Dh.pt F (.lst ws) :: Dh.dvs ws (st'.rows.map rD) :: Dh.pt B (.lst (st'.bits.map Dh.nI)) :: Dh.pt p1 (.tup vr) :: Dh.dvs vr (lr.map Dh.dP) :: Dh.pt b (.tup (V.ref t0 :: vr)) :: Dh.dvs (V.ref t0 :: vr) ((l0 :: lr).map Dh.dP) :: R)) ?c1 ?c2
    · kspl_open zz_vc
      refine Dh.go_dvsLen (show Dh.Pick _ (Dh.dvs ws (st.rows.map rD)) _ by kspl_open zz_pk) fun hwl => ?_
      rw [List.length_map] at hwl
      have hwl2 : ws.length < 10000 := by
        have := hok.1
        have := (List.getElem?_eq_some_iff.mp hp).1
        rw [List.length_cons] at h1
        omega
      by_cases c1 : st.last.1 = 1
      · refine Dh.g_ifT (dT (by omega)) ?_
        kspl_open zz_vc
        by_cases c2 : p.1 = 1
        · refine Dh.g_ifT (dT (by omega)) ?_
          kspl_open zz_vc
          by_cases c3 : st.last.2 = p.2
          · refine Dh.g_ifF (by rw [dT (by omega)]; rfl) ?_
            kspl_open zz_vc
            refine Dh.g_ifF (dF (by omega)) ?_
            kspl_open zz_vc
            exact Dh.SI.in ⟨_, _, ws, ⟨st.rows, st.bits, p, st.bg⟩, B, by unfold hs1; rw [if_neg (fun z => z.2.2 c3), if_neg (fun z => by omega)], rfl, by kspl_open zz_ent⟩
          · refine Dh.g_ifT (by rw [dF (by omega)]; rfl) ?_
            kspl_open zz_vc
            have hst0 : ¬ 1 < st.bits.length → hs1 st p = some ⟨if p.2 = 0 then st.rows ++ [.beg] else if st.bg = true then st.rows ++ [.fin] else st.rows, [], p, decide (p.2 = 0)⟩ := fun z => by
              unfold hs1
              rw [if_pos ⟨c1, c2, c3⟩, if_neg z]
            refine Dh.g_ifD (fun z => ?_) (fun z => ?_)
            · rw [List.length_map] at z
              kspl_open zz_vc
              rename_i d
              refine Dh.Go.ent (by kspl_open zz_ent) (k1 d ?_)
              have hn : hs1 st p = none := by
                unfold hs1
                rw [if_pos ⟨c1, c2, c3⟩, if_pos (by omega)]
              rw [hn] at hrn
              show (hrun _ lr).bind _ = none
              rw [hrn]
              rfl
            · rw [List.length_map] at z
              have hst0 := hst0 (by omega)
              kspl_open zz_vc
              by_cases c4 : p.2 = 0
              · rw [if_pos c4, decide_eq_true c4] at hst0
                refine Dh.g_ifT (dT (by omega)) ?_
                kspl_open zz_vc
                rename_i q B2
                refine Dh.go_dvs (vs := ws ++ [.ref q]) (ds := (st.rows ++ [Rw.beg]).map rD) (fun H s => by
                  rw [List.map_append]
                  exact (Dh.Pick.dvs (by kspl_open zz_pk) s).app (.cons (.tup (Dh.Pick.at (show Dh.Pick _ (Dh.pt q (.tup [.str "begin"])) _ by kspl_open zz_pk) s) (.cons .str .nil)) .nil)) ?_
                exact Dh.SI.in ⟨_, _, ws ++ [.ref q], _, B2, hst0, rfl, Dh.ent_cons (by kspl_open zz_pk) (Dh.ent_cons (by kspl_open zz_pk) (Dh.ent_cons (c := Dh.pt B2 (.lst [])) (by kspl_open zz_pk) (by kspl_open zz_ent)))⟩
              · rw [if_neg c4, decide_eq_false c4] at hst0
                refine Dh.g_ifF (dF (by omega)) ?_
                kspl_open zz_vc
                refine Dh.g_if (fun z2 => ?_) (fun z2 => ?_)
                · rw [if_pos z2] at hst0
                  kspl_open zz_vc
                  rename_i q B2
                  refine Dh.go_dvs (vs := ws ++ [.ref q]) (ds := (st.rows ++ [Rw.fin]).map rD) (fun H s => by
                    rw [List.map_append]
                    exact (Dh.Pick.dvs (by kspl_open zz_pk) s).app (.cons (.tup (Dh.Pick.at (show Dh.Pick _ (Dh.pt q (.tup [.str "end"])) _ by kspl_open zz_pk) s) (.cons .str .nil)) .nil)) ?_
                  exact Dh.SI.in ⟨_, _, ws ++ [.ref q], _, B2, hst0, rfl, Dh.ent_cons (by kspl_open zz_pk) (Dh.ent_cons (by kspl_open zz_pk) (Dh.ent_cons (c := Dh.pt B2 (.lst [])) (by kspl_open zz_pk) (by kspl_open zz_ent)))⟩
                · rw [if_neg (by rw [z2]; decide)] at hst0
                  kspl_open zz_vc
                  rename_i B2
                  exact Dh.SI.in ⟨_, _, ws, _, B2, hst0, by rw [z2], Dh.ent_cons (by kspl_open zz_pk) (Dh.ent_cons (by kspl_open zz_pk) (Dh.ent_cons (c := Dh.pt B2 (.lst [])) (by kspl_open zz_pk) (by kspl_open zz_ent)))⟩
        · refine Dh.g_ifF (dF (by omega)) ?_
          kspl_open zz_vc
          refine Dh.g_ifF (dF (by omega)) ?_
          kspl_open zz_vc
          exact Dh.SI.in ⟨_, _, ws, ⟨st.rows, st.bits, p, st.bg⟩, B, by unfold hs1; rw [if_neg (fun z => c2 z.2.1), if_neg (fun z => c2 z.2.1)], rfl, by kspl_open zz_ent⟩
      · refine Dh.g_ifF (dF (by omega)) ?_
        kspl_open zz_vc
        by_cases c4 : st.last.1 = 0
        · refine Dh.g_ifT (dT (by omega)) ?_
          kspl_open zz_vc
          by_cases c2 : p.1 = 1
          · refine Dh.g_ifT (dT (by omega)) ?_
            kspl_open zz_vc
            refine Dh.g_if (fun z2 => ?_) (fun z2 => ?_)
            · have hbl := hok.2.1
              have hst0 : hs1 st p = if st.bits.length + 1 = 9 then some ⟨st.rows ++ [.oct (byt (st.bits ++ [p.2])) p.2], [], p, st.bg⟩ else some ⟨st.rows, st.bits ++ [p.2], p, st.bg⟩ := by
                conv => lhs; unfold hs1
                rw [if_neg (fun z => c1 z.1), if_pos ⟨c4, c2, z2⟩]
              have hl9 : (st.bits.map Dh.nI ++ [Dh.nI p.2]).length = st.bits.length + 1 := by simp
              kspl_open zz_vc
              refine Dh.Go.conv (P := Dh.pt B (.lst (st.bits.map Dh.nI ++ [Dh.nI p.2]))) (P' := Dh.pt B (.lst ((st.bits ++ [p.2]).map Dh.nI))) (by kspl_open zz_pk) (fun _ h => by rw [List.map_append]; exact h) ?_
              rw [hl9]
              by_cases c5 : st.bits.length + 1 = 9
              · rw [if_pos c5] at hst0
                have hb8 : L2.atI ((st.bits ++ [p.2]).map Dh.nI) 8 = some (Dh.nI p.2) := Dh.atI_map (k := 8) (by rw [List.getElem?_append_right (by omega), show 8 - st.bits.length = 0 by omega]; rfl)
                have hub : ∀ j, (st.bits ++ [p.2]).getD j 0 ≤ 1 := fun j => by
                  rw [List.getD_eq_getElem?_getD]
                  cases e : (st.bits ++ [p.2])[j]? with
                  | none => exact Nat.zero_le _
                  | some u =>
                    rcases List.mem_append.mp (List.mem_of_getElem? e) with hu | hu
                    · exact hok.2.2 u hu
                    · rw [List.mem_singleton.mp hu]; exact hp1
                refine Dh.g_ifT (dT (a := st.bits.length + 1) (by omega)) ?_
                kspl_open zz_vc
                rename_i sl
                obtain ⟨us, hus⟩ : ∃ us, us = st.bits ++ [p.2] := ⟨_, rfl⟩
                have hul : us.length = 9 := by rw [hus, List.length_append]; exact c5
                rw [← hus] at hst0 hub hb8 ⊢
                rw [show (some 8 : Option Int) = some ((8 : Nat) : Int) from rfl, Dh.cut_take, ← List.map_take]
                have w := L2.walk_enum (K := K) (a := sl) (xs := (us.take 8).map Dh.nI)
                rw [List.length_map, List.length_take, hul] at w
                refine Dh.g_genP (n := 8) w (fun _ => true) (fun j => .int ((us.getD j 0 * 2 ^ (7 - j) : Nat) : Int)) Dh.ent_refl (fun H s => SqL.of (Dh.Pick.at (by kspl_open zz_pk) s)) (fun j x y q hj hx hy => ?_) fun Pv hP => Dh.rs_sum (f := fun j => ((us.getD j 0 * 2 ^ (7 - j) : Nat) : Int)) 128 (fun j hj => ?_) (by decide) hP ?_
                · cases hx
                  obtain ⟨u, hu, rfl⟩ := Dh.at_map hy
                  have hug : us.getD j 0 = u := by
                    rw [List.getElem?_take, if_pos hj] at hu
                    rw [List.getD_eq_getElem?_getD, hu]
                    rfl
                  have hu1 := hub j
                  rw [hug] at hu1 ⊢
                  kspl_open zz_vc
                  rw [show (7 : Int) - (j : Int) = ((7 - j : Nat) : Int) by omega]
                  kspl_open zz_vc
                  exact Dh.g_gend rfl (by kspl_open zz_ent)
                · have h1 := hub j
                  have h2 : 2 ^ (7 - j) ≤ 2 ^ 7 := Nat.pow_le_pow_right (by decide) (Nat.sub_le _ _)
                  have h3 : us.getD j 0 * 2 ^ (7 - j) ≤ 1 * 2 ^ 7 := Nat.mul_le_mul h1 h2
                  omega
                · rw [byt_sum fun _ _ => rfl]
                  kspl_open zz_vc
                  rename_i qt B2
                  refine Dh.go_dvs (vs := ws ++ [.ref qt]) (ds := (st.rows ++ [Rw.oct (byt us) p.2]).map rD) (fun H s => by
                    rw [List.map_append]
                    exact (Dh.Pick.dvs (by kspl_open zz_pk) s).app (.cons (.tup (Dh.Pick.at (show Dh.Pick _ (Dh.pt qt (.tup [.str "octet", .int ((byt us : Nat) : Int), Dh.nI p.2])) _ by kspl_open zz_pk) s) (.cons .str (.cons .int (.cons .int .nil)))) .nil)) ?_
                  exact Dh.SI.in ⟨_, _, ws ++ [.ref qt], _, B2, hst0, rfl, Dh.ent_cons (by kspl_open zz_pk) (Dh.ent_cons (by kspl_open zz_pk) (Dh.ent_cons (c := Dh.pt B2 (.lst [])) (by kspl_open zz_pk) (by kspl_open zz_ent)))⟩
              · rw [if_neg c5] at hst0
                refine Dh.g_ifF (dF (a := st.bits.length + 1) (by omega)) ?_
                kspl_open zz_vc
                exact Dh.SI.in ⟨_, _, ws, _, B, hst0, rfl, by kspl_open zz_ent⟩
            · kspl_open zz_vc
              exact Dh.SI.in ⟨_, _, ws, ⟨st.rows, st.bits, p, st.bg⟩, B, by unfold hs1; rw [if_neg (fun z => c1 z.1), if_neg (fun z => by rw [z2] at z; exact absurd z.2.2 (by decide))], rfl, by kspl_open zz_ent⟩
          · refine Dh.g_ifF (dF (by omega)) ?_
            kspl_open zz_vc
            exact Dh.SI.in ⟨_, _, ws, ⟨st.rows, st.bits, p, st.bg⟩, B, by unfold hs1; rw [if_neg (fun z => c2 z.2.1), if_neg (fun z => c2 z.2.1)], rfl, by kspl_open zz_ent⟩
        · refine Dh.g_ifF (dF (by omega)) ?_
          kspl_open zz_vc
          exact Dh.SI.in ⟨_, _, ws, ⟨st.rows, st.bits, p, st.bg⟩, B, by unfold hs1; rw [if_neg (fun z => c1 z.1), if_neg (fun z => c4 z.1)], rfl, by kspl_open zz_ent⟩
    · rintro σ L ⟨v8, v9, ws, st', B, hst, rfl, hE2⟩
      refine Dh.Go.ent hE2 ?_
      have hla : st'.last = p := by
        unfold hs1 at hst
        split at hst
        · split at hst
          · cases hst
          · injection hst with hst
            subst hst
            rfl
        · split at hst
          · split at hst
            · injection hst with hst
              subst hst
              rfl
            · injection hst with hst
              subst hst
              rfl
          · injection hst with hst
            subst hst
            rfl
      rw [hst] at hrn
      kspl_open zz_vc
      rename_i lp2
      refine Dh.SI.in ⟨_, _, _, _, _, ws, st', B, lp2, rfl, hs1_ok hok hp1 hst, hrn, ?_⟩
      rw [hla]
      kspl_open zz_ent
  · rintro σ L ⟨v5, v6, v7, v8, v9, ws, st, B, lp, rfl, hok, hrn, hE⟩
    refine Dh.Go.ent hE ?_
    rw [hv2, List.drop_length] at hrn
    kspl_open zz_vc
    have hfin : hrd (l0 :: lr) = if st.bg = true ∨ 1 < st.bits.length then none else some st.rows := by
      show (hrun _ lr).bind _ = _
      rw [hrn]
      rfl
    refine Dh.g_if (fun z => ?_) (fun z => ?_)
    · rw [if_pos (Or.inl z)] at hfin
      kspl_open zz_vc
      rename_i d
      exact Dh.Go.ent (by kspl_open zz_ent) (k1 d hfin)
    · kspl_open zz_vc
      refine Dh.g_ifD (fun z2 => ?_) (fun z2 => ?_)
      · rw [List.length_map] at z2
        rw [if_pos (Or.inr (by omega))] at hfin
        kspl_open zz_vc
        rename_i d
        exact Dh.Go.ent (by kspl_open zz_ent) (k1 d hfin)
      · rw [List.length_map] at z2
        rw [if_neg (fun y => by rcases y with y | y; (· rw [z] at y; cases y); (· omega))] at hfin
        kspl_open zz_vc
        rename_i d
        exact Dh.Go.ent (Dh.ent_tail (by kspl_open zz_ent)) (k0 d ws st.rows hfin (by have := hok.1; rw [List.length_cons]; omega))
end
end Toy
end

section
local macro_rules | `(tactic| kspl_open zz_ent1) => `(tactic| first | (with_reducible exact Dh.ent_refl) | (with_reducible exact Dh.ent_nil) | (refine' Dh.ent_cons ?q0 ?k; (case q0 => kspl_open zz_pk)) | (refine' Dh.ent_drop ?k))
local macro_rules | `(tactic| kspl_open zz_hasm) => `(tactic| first | (refine' Dh.hasM_ob ?q0 ?q1; (case q0 => kspl_open zz_pk); (case q1 => kspl_open zz_lk)))
local macro_rules | `(tactic| kspl_open zz_vc1) => `(tactic| first | ((refine' Dh.wk1 ?k); (repeat (with_reducible intro _))) | kspl_open zz_vcp0 | kspl_open zz_vcp1 | kspl_open zz_vcp2 | kspl_open zz_vcp3 | kspl_open zz_vcp4 | kspl_open zz_vcp5 | kspl_open zz_vcp6 | kspl_open zz_vcp7 | kspl_open zz_vcp8 | kspl_open zz_vcp9 | kspl_open zz_vcp10 | kspl_open zz_use1 | kspl_open zz_told1)
local macro_rules | `(tactic| kspl_open zz_use1) => `(tactic| ((with_reducible refine' Toy.use_law_dice (fun _ _ _ _ => ?k0))))
local macro_rules | `(tactic| kspl_open zz_use1) => `(tactic| ((with_reducible refine' Toy.use_law_roll ?q0 ?h0 ?h1 (fun _ _ => ?k0)); (case q0 => kspl_open zz_pk); (case h0 => kspl_open zz_side); (case h1 => kspl_open zz_side)))
local macro_rules | `(tactic| kspl_open zz_use1) => `(tactic| ((with_reducible refine' Toy.use_begin (fun _ _ => ?k0))))
local macro_rules | `(tactic| kspl_open zz_use1) => `(tactic| ((with_reducible refine' Toy.use_end (fun _ _ => ?k0))))
local macro_rules | `(tactic| kspl_open zz_use1) => `(tactic| ((with_reducible refine' Toy.use_bit (fun _ _ => ?k0))))
local macro_rules | `(tactic| kspl_open zz_use1) => `(tactic| ((with_reducible refine' Toy.use_raised_two ?h0 ?k0); (case h0 => kspl_open zz_side)))
local macro_rules | `(tactic| kspl_open zz_use1) => `(tactic| ((with_reducible refine' Toy.use_octet ?h0 (fun _ _ => ?k0)); (case h0 => kspl_open zz_side)))
local macro_rules | `(tactic| kspl_open zz_use) => `(tactic| ((with_reducible refine' Toy.use_said ?q0 ?q1 ?h0 ?h1 (fun _ _ _ => ?k0) (fun _ => ?k1)); (case q0 => kspl_open zz_pk); (case q1 => kspl_open zz_pk); (case h0 => kspl_open zz_side); (case h1 => kspl_open zz_side)))
local macro_rules | `(tactic| kspl_open zz_use) => `(tactic| ((with_reducible refine' Toy.use_heard_on ?q0 ?q1 ?h0 ?h1 ?h2 (fun _ _ _ _ _ => ?k0) (fun _ _ => ?k1)); (case q0 => kspl_open zz_pk); (case q1 => kspl_open zz_pk); (case h0 => kspl_open zz_side); (case h1 => kspl_open zz_side); (case h2 => kspl_open zz_side)))

namespace Toy
open PySem L2
section
variable {P : Program} {w : World} {K : PySem.W.Frag} {mg : Str → Option Value} {base : Heap} {T : List (Addr × Str)} {C_Chip C_BadWord C_BadPlace C_BadPlan C_NotDue C_Stuck C_BadBits C_BadText C_TooLarge g_told : Addr}
def spO : List Rw → List (Nat × Nat)
  | .oct n b :: r => (n, b) :: spO r
  | _ => []
theorem spO_at : ∀ {r : List Rw} {j : Nat} {q : Nat × Nat}, (spO r)[j]? = some q → r[j]? = some (.oct q.1 q.2)
  | [], j, q, h => by simp [spO] at h
  | .beg :: r, j, q, h => by simp [spO] at h
  | .fin :: r, j, q, h => by simp [spO] at h
  | .oct n b :: r, 0, q, h => by
    simp [spO] at h
    subst h
    rfl
  | .oct n b :: r, j + 1, q, h => by
    simp only [spO, List.getElem?_cons_succ] at h ⊢
    exact spO_at h
theorem spO_end : ∀ {r : List Rw} {x : Rw}, r[(spO r).length]? = some x → ∀ n b, x ≠ .oct n b
  | [], x, h, n, b => by simp [spO] at h
  | .beg :: r, x, h, n, b => by simp [spO] at h; subst h; exact fun z => by cases z
  | .fin :: r, x, h, n, b => by simp [spO] at h; subst h; exact fun z => by cases z
  | .oct n' b' :: r, x, h, n, b => by
    simp only [spO, List.length_cons, List.getElem?_cons_succ] at h
    exact spO_end h n b
theorem spO_le (r : List Rw) : (spO r).length ≤ r.length := by
  induction r with
  | nil => exact Nat.le_refl _
  | cons x r ih => cases x <;> simp [spO, ih]
def prt (n b : Nat) (l : List (Nat × Nat)) : Prt := ⟨n / 2, decide (n % 2 = 1), if b = 1 then none else some l⟩
def prs : List Rw → Option (List Prt)
  | [] => some []
  | .fin :: r => prs r
  | .beg :: .oct n b :: r => (prs (r.drop (spO r).length)).map (prt n b (spO r) :: ·)
  | _ => none
termination_by r => r.length
decreasing_by
  · simp
  · simp only [List.length_cons, List.length_drop]; omega
theorem prs_nil : prs [] = some [] := by unfold prs; rfl
theorem prs_fin {r : List Rw} : prs (.fin :: r) = prs r := by conv => lhs; unfold prs
theorem prs_beg {n b : Nat} {r : List Rw} : prs (.beg :: .oct n b :: r) = (prs (r.drop (spO r).length)).map (prt n b (spO r) :: ·) := by conv => lhs; unfold prs
theorem prs_o {n b : Nat} {r : List Rw} : prs (.oct n b :: r) = none := by unfold prs; rfl
theorem prs_b0 : prs [.beg] = none := by unfold prs; rfl
theorem prs_bb {r : List Rw} : prs (.beg :: .beg :: r) = none := by unfold prs; rfl
theorem prs_bf {r : List Rw} : prs (.beg :: .fin :: r) = none := by unfold prs; rfl
theorem rD_lay (x : Rw) : (rD x).lay = true := by cases x <;> simp [Dh.Dt.lay, Dh.Dt.lays] <;> decide +kernel
theorem rD_dep (x : Rw) : (rD x).dep ≤ 60 := by cases x <;> simp [Dh.Dt.dep, Dh.Dt.deps]
theorem e_end (x : Rw) : PyData.eqv (rD x).py (Dh.Dt.tup [.str "end"]).py = decide (x = .fin) := by
  cases x with
  | beg => decide +kernel
  | fin => decide +kernel
  | oct n b =>
    rw [decide_eq_false (fun z => by cases z)]
    simp [Dh.Dt.py, Dh.Dt.pys, PyData.eqv, PyData.eqvAll]
theorem e_beg (x : Rw) : PyData.eqv (rD x).py (Dh.Dt.tup [.str "begin"]).py = decide (x = .beg) := by
  cases x with
  | beg => decide +kernel
  | fin => decide +kernel
  | oct n b =>
    rw [decide_eq_false (fun z => by cases z)]
    simp [Dh.Dt.py, Dh.Dt.pys, PyData.eqv, PyData.eqvAll]
end
end Toy
end

section
local macro_rules | `(tactic| kspl_open zz_ent1) => `(tactic| first | (with_reducible exact Dh.ent_refl) | (with_reducible exact Dh.ent_nil) | (refine' Dh.ent_cons ?q0 ?k; (case q0 => kspl_open zz_pk)) | (refine' Dh.ent_drop ?k))
local macro_rules | `(tactic| kspl_open zz_hasm) => `(tactic| first | (refine' Dh.hasM_ob ?q0 ?q1; (case q0 => kspl_open zz_pk); (case q1 => kspl_open zz_lk)))
local macro_rules | `(tactic| kspl_open zz_vc1) => `(tactic| first | ((refine' Dh.wk1 ?k); (repeat (with_reducible intro _))) | kspl_open zz_vcp0 | kspl_open zz_vcp1 | kspl_open zz_vcp2 | kspl_open zz_vcp3 | kspl_open zz_vcp4 | kspl_open zz_vcp5 | kspl_open zz_vcp6 | kspl_open zz_vcp7 | kspl_open zz_vcp8 | kspl_open zz_vcp9 | kspl_open zz_vcp10 | kspl_open zz_use1 | kspl_open zz_told1)
local macro_rules | `(tactic| kspl_open zz_use1) => `(tactic| ((with_reducible refine' Toy.use_law_dice (fun _ _ _ _ => ?k0))))
local macro_rules | `(tactic| kspl_open zz_use1) => `(tactic| ((with_reducible refine' Toy.use_law_roll ?q0 ?h0 ?h1 (fun _ _ => ?k0)); (case q0 => kspl_open zz_pk); (case h0 => kspl_open zz_side); (case h1 => kspl_open zz_side)))
local macro_rules | `(tactic| kspl_open zz_use1) => `(tactic| ((with_reducible refine' Toy.use_begin (fun _ _ => ?k0))))
local macro_rules | `(tactic| kspl_open zz_use1) => `(tactic| ((with_reducible refine' Toy.use_end (fun _ _ => ?k0))))
local macro_rules | `(tactic| kspl_open zz_use1) => `(tactic| ((with_reducible refine' Toy.use_bit (fun _ _ => ?k0))))
local macro_rules | `(tactic| kspl_open zz_use1) => `(tactic| ((with_reducible refine' Toy.use_raised_two ?h0 ?k0); (case h0 => kspl_open zz_side)))
local macro_rules | `(tactic| kspl_open zz_use1) => `(tactic| ((with_reducible refine' Toy.use_octet ?h0 (fun _ _ => ?k0)); (case h0 => kspl_open zz_side)))
local macro_rules | `(tactic| kspl_open zz_use) => `(tactic| ((with_reducible refine' Toy.use_said ?q0 ?q1 ?h0 ?h1 (fun _ _ _ => ?k0) (fun _ => ?k1)); (case q0 => kspl_open zz_pk); (case q1 => kspl_open zz_pk); (case h0 => kspl_open zz_side); (case h1 => kspl_open zz_side)))
local macro_rules | `(tactic| kspl_open zz_use) => `(tactic| ((with_reducible refine' Toy.use_heard_on ?q0 ?q1 ?h0 ?h1 ?h2 (fun _ _ _ _ _ => ?k0) (fun _ _ => ?k1)); (case q0 => kspl_open zz_pk); (case q1 => kspl_open zz_pk); (case h0 => kspl_open zz_side); (case h1 => kspl_open zz_side); (case h2 => kspl_open zz_side)))

namespace Toy
open PySem L2
section
variable {P : Program} {w : World} {K : PySem.W.Frag} {mg : Str → Option Value} {base : Heap} {T : List (Addr × Str)} {C_Chip C_BadWord C_BadPlace C_BadPlan C_NotDue C_Stuck C_BadBits C_BadText C_TooLarge g_told : Addr}
def sg_parts_of (T : List (Addr × Str)) (K : PySem.W.Frag) (C_Chip C_BadWord C_BadPlace C_BadPlan C_NotDue C_Stuck C_BadBits C_BadText C_TooLarge g_told : Addr) : Dh.SG :=
  fun zs L Q E => ∃ (b : Addr) (vs : List V) (rs : List Rw) (R : List Dh.HP), zs = [.ref b] ∧ Dh.Ent L ((Dh.pt b (.tup vs)) :: (Dh.dvs vs (rs.map rD)) :: R) ∧ (rs.length ≤ 10000) ∧ (∀ (d : Addr) (ws : List V) (ps : List Prt), (prs rs = some ps) → (ps.length ≤ rs.length) → Dh.Go T ((Dh.pt d (.tup ws)) :: (Dh.dvs ws (ps.map pD)) :: (Dh.pt b (.tup vs)) :: (Dh.dvs vs (rs.map rD)) :: R) fun H => Q (.ref d) H) ∧ (∀ (d : Addr), (prs rs = none) → Dh.Go T ((Dh.pt b (.tup vs)) :: (Dh.dvs vs (rs.map rD)) :: R) fun H => E (.ref C_BadBits) (some d) H)
theorem use_parts_of {L A0 A1 : List Dh.HP} {Q : VK} {E : XK} {b : Addr} {vs : List V} {rs : List Rw} (q0 : Dh.Pick L (Dh.pt b (.tup vs)) A0) (q1 : Dh.Pick A0 (Dh.dvs vs (rs.map rD)) A1) (h0 : rs.length ≤ 10000) (k0 : ∀ (d : Addr) (ws : List V) (ps : List Prt), (prs rs = some ps) → (ps.length ≤ rs.length) → Dh.Go T ((Dh.pt d (.tup ws)) :: (Dh.dvs ws (ps.map pD)) :: (Dh.pt b (.tup vs)) :: (Dh.dvs vs (rs.map rD)) :: A1) fun H => Q (.ref d) H) (k1 : ∀ (d : Addr), (prs rs = none) → Dh.Go T ((Dh.pt b (.tup vs)) :: (Dh.dvs vs (rs.map rD)) :: A1) fun H => E (.ref C_BadBits) (some d) H) : Dh.Go T L fun H => Dh.sOfN T 1 (sg_parts_of T K C_Chip C_BadWord C_BadPlace C_BadPlan C_NotDue C_Stuck C_BadBits C_BadText C_TooLarge g_told) [.ref b] H Q E := Dh.g_sp rfl ⟨b, vs, rs, A1, rfl, (Dh.ent_cons q0 (Dh.ent_cons q1 Dh.ent_refl)), h0, k0, k1⟩
local macro_rules | `(tactic| kspl_open zz_use) => `(tactic| ((with_reducible refine' Toy.use_parts_of ?q0 ?q1 ?h0 (fun _ _ _ _ _ => ?k0) (fun _ _ => ?k1)); (case q0 => kspl_open zz_pk); (case q1 => kspl_open zz_pk); (case h0 => kspl_open zz_side)))
set_option maxHeartbeats 8000000 in
theorem ok_parts_of (Z : Txt K mg C_Chip C_BadWord C_BadPlace C_BadPlan C_NotDue C_Stuck C_BadBits C_BadText C_TooLarge g_told) (c_BadBits : Dh.RaiX P w K mg base "BadBits" C_BadBits "place") {f : Addr} {fd : FuncData} {cdv : Value} (F : Dh.FunC K "parts_of" "parts_of" s_parts_of f fd cdv) :
    FnOk P w K mg base (L2.CX P w) 3 f fd ["rows"] (Dh.sOfN T 1 (sg_parts_of T K C_Chip C_BadWord C_BadPlace C_BadPlan C_NotDue C_Stuck C_BadBits C_BadText C_TooLarge g_told)) := by
  refine Dh.fnX (k := 2) F sc_parts_of rfl (fun A outer s H0 L vs Q E hr hl h => ?_)
  refine ⟨_, (pss_cons (ps_par (i := 1) (j := 2) (by rfl) sc_parts_of.nd rfl rfl (by decide) rfl rfl (pa_cons (pe_lst pa_nil) (pa_cons pe_int pa_nil)) (by rfl))
    (pss_cons (ps_while (passes_of rfl) (pt_cmpR op_lt (pv 2) (pe_callB (Dh.cLen (K := K) rfl) (by rfl) Z.b_len (by first | exact PySem.boot_len | exact PyProof.Rows.boot_len | decide +kernel) (pa_cons (pv 0) pa_nil)) (nomark _))
    (pss_cons (ps_if (pt_cmpR (Dh.oEq (K := K) rfl hr.units) (pe_ix (Dh.xSeq (K := K) rfl) (pv 0) (pv 2) (fun _ _ => rfl)) (pe_tup (pa_cons pe_str pa_nil)) (nomark _))
    (pss_cons (ps_aug (i := 2) sc_parts_of.nd rfl (by first | exact Or.inl rfl | exact Or.inr rfl) pe_int ip_add)
    (pss_one ps_continue))
    pss_nil)
    (pss_cons (ps_if (PW.pt (pw_or (pt_cmpR (Dh.oNe (K := K) rfl hr.units) (pe_ix (Dh.xSeq (K := K) rfl) (pv 0) (pv 2) (fun _ _ => rfl)) (pe_tup (pa_cons pe_str pa_nil)) (nomark _)) (pw_or (pt_cmpR op_ge (pe_op (Dh.oAdd (K := K) rfl) (pv 2) pe_int) (pe_callB (Dh.cLen (K := K) rfl) (by rfl) Z.b_len (by first | exact PySem.boot_len | exact PyProof.Rows.boot_len | decide +kernel) (pa_cons (pv 0) pa_nil)) (nomark _)) (pw_or1 (pt_cmpR (Dh.oNe (K := K) rfl hr.units) (pe_ix (Dh.xSeq (K := K) rfl) (pe_ix (Dh.xSeq (K := K) rfl) (pv 0) (pe_op (Dh.oAdd (K := K) rfl) (pv 2) pe_int) (fun _ _ => rfl)) pe_int (fun _ _ => rfl)) pe_str (nomark _))))))
    (pss_one (Dh.ps_rsx rfl (takes_of rfl rfl rfl rfl) c_BadBits hr (by decide) rfl (pa_cons (pv 2) pa_nil)))
    pss_nil)
    (pss_cons (ps_par (i := 3) (j := 4) (by rfl) sc_parts_of.nd rfl rfl (by decide) rfl rfl (pa_cons (pe_ix (Dh.xSeq (K := K) rfl) (pv 0) (pe_op (Dh.oAdd (K := K) rfl) (pv 2) pe_int) (fun _ _ => rfl)) (pa_cons (pe_lst pa_nil) pa_nil)) (by rfl))
    (pss_cons (ps_aug (i := 2) sc_parts_of.nd rfl (by first | exact Or.inl rfl | exact Or.inr rfl) pe_int ip_add)
    (Evl.pss_cut (ps_while (passes_of rfl) (PW.pt (pw_and (pt_cmpR op_lt (pv 2) (pe_callB (Dh.cLen (K := K) rfl) (by rfl) Z.b_len (by first | exact PySem.boot_len | exact PyProof.Rows.boot_len | decide +kernel) (pa_cons (pv 0) pa_nil)) (nomark _)) (pw_and1 (pt_cmpR (Dh.oEq (K := K) rfl hr.units) (pe_ix (Dh.xSeq (K := K) rfl) (pe_ix (Dh.xSeq (K := K) rfl) (pv 0) (pv 2) (fun _ _ => rfl)) pe_int (fun _ _ => rfl)) pe_str (nomark _)))))
    (pss_cons (ps_expr (pe_bm PySem.F.plainAttrs_list PySem.F.slot_list_append PySem.F.type_list_append mt_append (pv 4) (pa_cons (pe_slice (Dh.slSeqW (K := K) rfl) (pe_ix (Dh.xSeq (K := K) rfl) (pv 0) (pv 2) (fun _ _ => rfl)) (po_some pe_int) po_none) pa_nil)))
    (pss_one (ps_aug (i := 2) sc_parts_of.nd rfl (by first | exact Or.inl rfl | exact Or.inr rfl) pe_int ip_add))))
    (pss_one (ps_expr (pe_bm PySem.F.plainAttrs_list PySem.F.slot_list_append PySem.F.type_list_append mt_append (pv 1) (pa_cons (pe_tup (pa_cons (pe_op op_fdiv (pe_ix (Dh.xSeq (K := K) rfl) (pv 3) pe_int (fun _ _ => rfl)) pe_int) (pa_cons (pe_cmpR (Dh.oEq (K := K) rfl hr.units) (pe_op op_mod (pe_ix (Dh.xSeq (K := K) rfl) (pv 3) pe_int (fun _ _ => rfl)) pe_int) pe_int (nomark _)) (pa_cons (pe_ifExp (pt_cmpR (Dh.oEq (K := K) rfl hr.units) (pe_ix (Dh.xSeq (K := K) rfl) (pv 3) pe_int (fun _ _ => rfl)) pe_int (nomark _)) pe_non (pe_callTy (Dh.cTup (K := K) rfl) (by rfl) Z.b_tuple (by first | exact PySem.boot_tuple | exact PyProof.Rows.boot_tuple | decide +kernel) (pa_cons (pv 4) pa_nil))) pa_nil)))) pa_nil))))))))))
    (pss_one (ps_ret (pe_callTy (Dh.cTup (K := K) rfl) (by rfl) Z.b_tuple (by first | exact PySem.boot_tuple | exact PyProof.Rows.boot_tuple | decide +kernel) (pa_cons (pv 1) pa_nil)))))), ?_⟩
  try dsimp only [L2.cxOf, L2.Cx.blk, LamX.lamCx, L2.Cx.tr, L2.Cx.suite]
  obtain ⟨b, vs, rs, R, rfl, hE, h0, k0, k1⟩ := h
  refine Dh.Go.ent hE ?_
  rw [show L2.start N_parts_of [.ref b] = [some (.ref b), none, none, none, none] from rfl]
  refine Dh.go_dvsLen (show Dh.Pick _ (Dh.dvs vs (rs.map rD)) _ by kspl_open zz_pk) fun hvl => ?_
  rw [List.length_map] at hvl
  kspl_open zz_vc
  rename_i F
  refine Dh.g_while (fun w σ L => ∃ (k : Nat) (v3 v4 : Option V) (ws : List V) (ps : List Prt), w = rs.length - k ∧ σ = [some (.ref b), some (.ref F), some (.int (k : Int)), v3, v4] ∧ k ≤ rs.length ∧ ps.length ≤ k ∧ prs rs = (prs (rs.drop k)).map (ps ++ ·) ∧
    Dh.Ent L (Dh.pt F (.lst ws) :: Dh.dvs ws (ps.map pD) :: Dh.pt b (.tup vs) :: Dh.dvs vs (rs.map rD) :: R)) _ ⟨0, _, _, [], [], rfl, rfl, Nat.zero_le _, Nat.le_refl _, by simp, Dh.ent_cons (show Dh.Pick _ (Dh.pt F (.lst [])) _ by kspl_open zz_pk) (Dh.ent_dvs (vs := []) (ds := []) (fun _ _ => .nil) (by kspl_open zz_ent))⟩ ?_
  rintro w σ L ⟨k, v3, v4, ws, ps, rfl, rfl, hk, hpk, hf, hE⟩
  refine Dh.Go.ent hE ?_
  refine Dh.go_dvsLen (show Dh.Pick _ (Dh.dvs ws (ps.map pD)) _ by kspl_open zz_pk) fun hwl => ?_
  rw [List.length_map] at hwl
  kspl_open zz_vc
  refine Dh.g_ifD (fun z => ?_) (fun z => ?_)
  · obtain ⟨x, hx⟩ : ∃ x, rs[k]? = some x := ⟨_, List.getElem?_eq_getElem (by omega)⟩
    have hd : rs.drop k = x :: rs.drop (k + 1) := by
      obtain ⟨g1, g2⟩ := List.getElem?_eq_some_iff.mp hx
      rw [List.drop_eq_getElem_cons g1, g2]
    rw [hd] at hf
    refine Dh.go_dvsAt (k := k) (d := rD x) (show Dh.Pick _ (Dh.dvs vs (rs.map rD)) _ by kspl_open zz_pk) (by rw [List.getElem?_map, hx]; rfl) fun y hy => ?_
    have e1 : L2.atI vs (k : Int) = some y := Dh.atI_lt hy
    kspl_open zz_vc
    rename_i p1
    refine Dh.g_eqDt (d := rD x) (e := .tup [.str "end"]) (r := decide (x = .fin)) (fun H s => Dh.Pick.dv (by kspl_open zz_pk) s) (fun H s => .tup (Dh.Pick.at (show Dh.Pick _ (Dh.pt p1 (.tup [.str "end"])) _ by kspl_open zz_pk) s) (.cons .str .nil)) (rD_lay x) (by decide +kernel) (Nat.le_trans (rD_dep x) (by decide)) (by decide) (e_end x) ?_
    kspl_open zz_vc
    by_cases c1 : x = .fin
    · subst c1
      rw [prs_fin] at hf
      refine Dh.g_ifT (decide_eq_true rfl) ?_
      kspl_open zz_vc
      exact Dh.SI.in ⟨rs.length - (k + 1), by omega, k + 1, _, _, ws, ps, rfl, rfl, by omega, by omega, hf, by kspl_open zz_ent⟩
    · refine Dh.g_ifF (decide_eq_false c1) ?_
      kspl_open zz_vc
      rename_i p2
      refine Dh.g_neDt (d := rD x) (e := .tup [.str "begin"]) (r := decide (x = .beg)) (fun H s => Dh.Pick.dv (by kspl_open zz_pk) s) (fun H s => .tup (Dh.Pick.at (show Dh.Pick _ (Dh.pt p2 (.tup [.str "begin"])) _ by kspl_open zz_pk) s) (.cons .str .nil)) (rD_lay x) (by decide +kernel) (Nat.le_trans (rD_dep x) (by decide)) (by decide) (e_beg x) ?_
      kspl_open zz_vc
      by_cases c2 : x = .beg
      · subst c2
        refine Dh.g_ifF (by rw [decide_eq_true rfl]; rfl) ?_
        kspl_open zz_vc
        refine Dh.g_ifD (fun z3 => ?_) (fun z3 => ?_)
        · rw [List.drop_of_length_le (show rs.length ≤ k + 1 by omega), prs_b0] at hf
          kspl_open zz_vc
          rename_i d
          exact Dh.Go.ent (by kspl_open zz_ent) (k1 d (by rw [hf]; rfl))
        obtain ⟨x2, hx2⟩ : ∃ x, rs[k + 1]? = some x := ⟨_, List.getElem?_eq_getElem (by omega)⟩
        have hd2 : rs.drop (k + 1) = x2 :: rs.drop (k + 2) := by
          obtain ⟨g1, g2⟩ := List.getElem?_eq_some_iff.mp hx2
          rw [List.drop_eq_getElem_cons g1, g2]
        rw [hd2] at hf
        refine Dh.go_dvsAt (k := k + 1) (d := rD x2) (show Dh.Pick _ (Dh.dvs vs (rs.map rD)) _ by kspl_open zz_pk) (by rw [List.getElem?_map, hx2]; rfl) fun y2 hy2 => ?_
        have e2 : L2.atI vs ((k : Int) + 1) = some y2 := Dh.atI_lt (k := k + 1) hy2
        cases x2 with
        | beg =>
          refine Dh.go_dvFlat (es := [.str "begin"]) (xs := [.str "begin"]) Dh.pick_here rfl rfl fun t et => ?_
          subst et
          kspl_open zz_vc
          rename_i d
          exact Dh.Go.ent (by kspl_open zz_ent) (k1 d (by rw [hf, prs_bb]; rfl))
        | fin =>
          refine Dh.go_dvFlat (es := [.str "end"]) (xs := [.str "end"]) Dh.pick_here rfl rfl fun t et => ?_
          subst et
          kspl_open zz_vc
          rename_i d
          exact Dh.Go.ent (by kspl_open zz_ent) (k1 d (by rw [hf, prs_bf]; rfl))
        | oct n c =>
          rw [prs_beg] at hf
          refine Dh.go_dvFlat (es := [.str "octet", .int (n : Int), .int (c : Int)]) (xs := [.str "octet", .int (n : Int), .int (c : Int)]) Dh.pick_here rfl rfl fun t et => ?_
          subst et
          kspl_open zz_vc
          rename_i I
          rw [show (k : Int) + 2 = ((k + 2 : Nat) : Int) from rfl]
          obtain ⟨r2, hr2⟩ : ∃ r2, r2 = rs.drop (k + 2) := ⟨_, rfl⟩
          rw [← hr2] at hf
          have hsl : (spO r2).length ≤ rs.length - (k + 2) := by
            have := spO_le r2
            rw [hr2, List.length_drop] at this
            rw [hr2]
            exact this
          refine Dh.g_cutS (fun σ L => ∃ (is : List V), σ = [some (.ref b), some (.ref F), some (.int ((k + 2 + (spO r2).length : Nat) : Int)), some (.ref t), some (.ref I)] ∧
            Dh.Ent L (Dh.pt I (.lst is) :: Dh.dvs is ((spO r2).map Dh.dP) :: Dh.pt t (.tup [.str "octet", .int (n : Int), .int (c : Int)]) :: Dh.pt F (.lst ws) :: Dh.dvs ws (ps.map pD) :: Dh.pt b (.tup vs) :: Dh.dvs vs (rs.map rD) :: R)) ?c1 ?c2
          · refine Dh.g_while (fun w σ L => ∃ (j : Nat) (is : List V), w = (spO r2).length - j ∧ j ≤ (spO r2).length ∧ σ = [some (.ref b), some (.ref F), some (.int ((k + 2 + j : Nat) : Int)), some (.ref t), some (.ref I)] ∧
              Dh.Ent L (Dh.pt I (.lst is) :: Dh.dvs is (((spO r2).take j).map Dh.dP) :: Dh.pt t (.tup [.str "octet", .int (n : Int), .int (c : Int)]) :: Dh.pt F (.lst ws) :: Dh.dvs ws (ps.map pD) :: Dh.pt b (.tup vs) :: Dh.dvs vs (rs.map rD) :: R)) _ ⟨0, [], rfl, Nat.zero_le _, rfl, Dh.ent_cons Dh.pick_here (Dh.ent_dvs (vs := []) (ds := []) (fun _ _ => .nil) (by kspl_open zz_ent))⟩ ?_
            rintro w σ L ⟨j, is, rfl, hj, rfl, hE2⟩
            refine Dh.Go.ent hE2 ?_
            refine Dh.go_dvsLen (show Dh.Pick _ (Dh.dvs is (((spO r2).take j).map Dh.dP)) _ by kspl_open zz_pk) fun hil => ?_
            rw [List.length_map, List.length_take] at hil
            kspl_open zz_vc
            by_cases cj : j < (spO r2).length
            · obtain ⟨q, hq⟩ : ∃ q, (spO r2)[j]? = some q := ⟨_, List.getElem?_eq_getElem cj⟩
              have hq2 := spO_at hq
              rw [hr2, List.getElem?_drop] at hq2
              refine Dh.g_ifT (decide_eq_true (by omega)) ?_
              refine Dh.go_dvsAt (k := k + 2 + j) (d := rD (.oct q.1 q.2)) (show Dh.Pick _ (Dh.dvs vs (rs.map rD)) _ by kspl_open zz_pk) (by rw [List.getElem?_map, hq2]; rfl) fun y3 hy3 => ?_
              have e3 : L2.atI vs ((k + 2 + j : Nat) : Int) = some y3 := Dh.atI_lt hy3
              refine Dh.go_dvFlat (es := [.str "octet", .int (q.1 : Int), .int (q.2 : Int)]) (xs := [.str "octet", .int (q.1 : Int), .int (q.2 : Int)]) Dh.pick_here rfl rfl fun t3 et3 => ?_
              subst et3
              kspl_open zz_vc
              refine Dh.g_slW (by kspl_open zz_pk) fun p3 => ?_
              rw [show (some 1 : Option Int) = some ((1 : Nat) : Int) from rfl, Dh.cut_drop, show [V.str "octet", V.int (q.1 : Int), V.int (q.2 : Int)].drop 1 = [V.int (q.1 : Int), V.int (q.2 : Int)] from rfl]
              kspl_open zz_vc
              refine Dh.go_dvs (vs := is ++ [.ref p3]) (ds := ((spO r2).take (j + 1)).map Dh.dP) (fun H s => by
                rw [List.take_add_one, hq, List.map_append]
                exact (Dh.Pick.dvs (by kspl_open zz_pk) s).app (.cons (Dh.dvPr q.1 q.2 (by kspl_open zz_pk) s) .nil)) ?_
              exact Dh.SI.in ⟨(spO r2).length - (j + 1), by omega, j + 1, is ++ [.ref p3], rfl, cj, rfl, by kspl_open zz_ent⟩
            · have ej : j = (spO r2).length := by omega
              subst ej
              rw [List.take_length]
              refine Dh.g_ifD (fun z4 => ?_) (fun z4 => ?_)
              · obtain ⟨x3, hx3⟩ : ∃ x, rs[k + 2 + (spO r2).length]? = some x := ⟨_, List.getElem?_eq_getElem (by omega)⟩
                have hne := spO_end (r := r2) (x := x3) (by rw [← hx3, hr2, List.getElem?_drop])
                refine Dh.go_dvsAt (k := k + 2 + (spO r2).length) (d := rD x3) (show Dh.Pick _ (Dh.dvs vs (rs.map rD)) _ by kspl_open zz_pk) (by rw [List.getElem?_map, hx3]; rfl) fun y3 hy3 => ?_
                have e3 : L2.atI vs ((k + 2 + (spO r2).length : Nat) : Int) = some y3 := Dh.atI_lt hy3
                cases x3 with
                | beg =>
                  refine Dh.go_dvFlat (es := [.str "begin"]) (xs := [.str "begin"]) Dh.pick_here rfl rfl fun t3 et3 => ?_
                  subst et3
                  kspl_open zz_vc
                  exact Dh.SI.in ⟨is, rfl, by kspl_open zz_ent⟩
                | fin =>
                  refine Dh.go_dvFlat (es := [.str "end"]) (xs := [.str "end"]) Dh.pick_here rfl rfl fun t3 et3 => ?_
                  subst et3
                  kspl_open zz_vc
                  exact Dh.SI.in ⟨is, rfl, by kspl_open zz_ent⟩
                | oct n2 c2 => exact absurd rfl (hne n2 c2)
              · kspl_open zz_vc
                exact Dh.SI.in ⟨is, rfl, by kspl_open zz_ent⟩
          · rintro σ L ⟨is, rfl, hE2⟩
            refine Dh.Go.ent hE2 ?_
            have hsr := spO_le r2
            have hfl : rs.length = (k + 2) + r2.length := by rw [hr2, List.length_drop]; omega
            have hdr : rs.drop (k + 2 + (spO r2).length) = r2.drop (spO r2).length := by rw [hr2, List.drop_drop]
            have hrd : decide (V.int ((n : Int) % 2) = V.int 1) = decide (n % 2 = 1) := by
              rw [decide_eq_decide]
              constructor
              · intro z; injection z; omega
              · intro z; exact congrArg V.int (by omega)
            have hf2 : prs rs = (prs (rs.drop (k + 2 + (spO r2).length))).map ((ps ++ [prt n c (spO r2)]) ++ ·) := by
              rw [hf, hdr]
              cases prs (r2.drop (spO r2).length) <;> simp
            kspl_open zz_vc
            by_cases c5 : c = 1
            · refine Dh.g_ifT (dT (by omega)) ?_
              kspl_open zz_vc
              rename_i pt9
              rw [hrd, show (n : Int) / 2 = ((n / 2 : Nat) : Int) from rfl]
              refine Dh.go_dvs (vs := ws ++ [.ref pt9]) (ds := (ps ++ [prt n c (spO r2)]).map pD) (fun H s => by
                rw [List.map_append, List.map_cons, List.map_nil]
                unfold prt
                rw [if_pos c5]
                exact (Dh.Pick.dvs (by kspl_open zz_pk) s).app (.cons (.tup (Dh.Pick.at (show Dh.Pick _ (Dh.pt pt9 (.tup [.int ((n / 2 : Nat) : Int), .bl (decide (n % 2 = 1)), .non])) _ by kspl_open zz_pk) s) (.cons .int (.cons .bl (.cons .non .nil)))) .nil)) ?_
              exact Dh.SI.in ⟨rs.length - (k + 2 + (spO r2).length), by omega, k + 2 + (spO r2).length, _, _, ws ++ [.ref pt9], ps ++ [prt n c (spO r2)], rfl, rfl, by omega, by rw [List.length_append]; simp; omega, hf2, by kspl_open zz_ent⟩
            · refine Dh.g_ifF (dF (by omega)) ?_
              kspl_open zz_vc
              rename_i it9 pt9
              rw [hrd, show (n : Int) / 2 = ((n / 2 : Nat) : Int) from rfl]
              refine Dh.go_dvs (vs := ws ++ [.ref pt9]) (ds := (ps ++ [prt n c (spO r2)]).map pD) (fun H s => by
                rw [List.map_append, List.map_cons, List.map_nil]
                unfold prt
                rw [if_neg c5]
                exact (Dh.Pick.dvs (by kspl_open zz_pk) s).app (.cons (.tup (Dh.Pick.at (show Dh.Pick _ (Dh.pt pt9 (.tup [.int ((n / 2 : Nat) : Int), .bl (decide (n % 2 = 1)), .ref it9])) _ by kspl_open zz_pk) s) (.cons .int (.cons .bl (.cons (.tup (Dh.Pick.at (show Dh.Pick _ (Dh.pt it9 (.tup is)) _ by kspl_open zz_pk) s) (Dh.Pick.dvs (by kspl_open zz_pk) s)) .nil)))) .nil)) ?_
              exact Dh.SI.in ⟨rs.length - (k + 2 + (spO r2).length), by omega, k + 2 + (spO r2).length, _, _, ws ++ [.ref pt9], ps ++ [prt n c (spO r2)], rfl, rfl, by omega, by rw [List.length_append]; simp; omega, hf2, by kspl_open zz_ent⟩
      · refine Dh.g_ifT (by rw [decide_eq_false c2]; rfl) ?_
        kspl_open zz_vc
        rename_i d
        refine Dh.Go.ent (by kspl_open zz_ent) (k1 d ?_)
        cases x with
        | beg => exact absurd rfl c2
        | fin => exact absurd rfl c1
        | oct n b =>
          rw [prs_o] at hf
          rw [hf]
          rfl
  · have hk2 : k = rs.length := by omega
    subst hk2
    rw [List.drop_length, prs_nil] at hf
    kspl_open zz_vc
    rename_i d
    exact Dh.Go.ent (Dh.ent_tail (by kspl_open zz_ent)) (k0 d ws ps (by rw [hf]; simp) hpk)
end
end Toy
end

section
local macro_rules | `(tactic| kspl_open zz_ent1) => `(tactic| first | (with_reducible exact Dh.ent_refl) | (with_reducible exact Dh.ent_nil) | (refine' Dh.ent_cons ?q0 ?k; (case q0 => kspl_open zz_pk)) | (refine' Dh.ent_drop ?k))
local macro_rules | `(tactic| kspl_open zz_hasm) => `(tactic| first | (refine' Dh.hasM_ob ?q0 ?q1; (case q0 => kspl_open zz_pk); (case q1 => kspl_open zz_lk)))
local macro_rules | `(tactic| kspl_open zz_vc1) => `(tactic| first | ((refine' Dh.wk1 ?k); (repeat (with_reducible intro _))) | kspl_open zz_vcp0 | kspl_open zz_vcp1 | kspl_open zz_vcp2 | kspl_open zz_vcp3 | kspl_open zz_vcp4 | kspl_open zz_vcp5 | kspl_open zz_vcp6 | kspl_open zz_vcp7 | kspl_open zz_vcp8 | kspl_open zz_vcp9 | kspl_open zz_vcp10 | kspl_open zz_use1 | kspl_open zz_told1)
local macro_rules | `(tactic| kspl_open zz_use1) => `(tactic| ((with_reducible refine' Toy.use_law_dice (fun _ _ _ _ => ?k0))))
local macro_rules | `(tactic| kspl_open zz_use1) => `(tactic| ((with_reducible refine' Toy.use_law_roll ?q0 ?h0 ?h1 (fun _ _ => ?k0)); (case q0 => kspl_open zz_pk); (case h0 => kspl_open zz_side); (case h1 => kspl_open zz_side)))
local macro_rules | `(tactic| kspl_open zz_use1) => `(tactic| ((with_reducible refine' Toy.use_begin (fun _ _ => ?k0))))
local macro_rules | `(tactic| kspl_open zz_use1) => `(tactic| ((with_reducible refine' Toy.use_end (fun _ _ => ?k0))))
local macro_rules | `(tactic| kspl_open zz_use1) => `(tactic| ((with_reducible refine' Toy.use_bit (fun _ _ => ?k0))))
local macro_rules | `(tactic| kspl_open zz_use1) => `(tactic| ((with_reducible refine' Toy.use_raised_two ?h0 ?k0); (case h0 => kspl_open zz_side)))
local macro_rules | `(tactic| kspl_open zz_use1) => `(tactic| ((with_reducible refine' Toy.use_octet ?h0 (fun _ _ => ?k0)); (case h0 => kspl_open zz_side)))
local macro_rules | `(tactic| kspl_open zz_use) => `(tactic| ((with_reducible refine' Toy.use_said ?q0 ?q1 ?h0 ?h1 (fun _ _ _ => ?k0) (fun _ => ?k1)); (case q0 => kspl_open zz_pk); (case q1 => kspl_open zz_pk); (case h0 => kspl_open zz_side); (case h1 => kspl_open zz_side)))
local macro_rules | `(tactic| kspl_open zz_use) => `(tactic| ((with_reducible refine' Toy.use_heard_on ?q0 ?q1 ?h0 ?h1 ?h2 (fun _ _ _ _ _ => ?k0) (fun _ _ => ?k1)); (case q0 => kspl_open zz_pk); (case q1 => kspl_open zz_pk); (case h0 => kspl_open zz_side); (case h1 => kspl_open zz_side); (case h2 => kspl_open zz_side)))
local macro_rules | `(tactic| kspl_open zz_use) => `(tactic| ((with_reducible refine' Toy.use_parts_of ?q0 ?q1 ?h0 (fun _ _ _ _ _ => ?k0) (fun _ _ => ?k1)); (case q0 => kspl_open zz_pk); (case q1 => kspl_open zz_pk); (case h0 => kspl_open zz_side)))

namespace Toy
open PySem L2
section
variable {P : Program} {w : World} {K : PySem.W.Frag} {mg : Str → Option Value} {base : Heap} {T : List (Addr × Str)} {C_Chip C_BadWord C_BadPlace C_BadPlan C_NotDue C_Stuck C_BadBits C_BadText C_TooLarge g_told : Addr}
abbrev Cst := List Nat × Nat
def tk1 (k : Nat) (s : Cst) (m : Nat) : Cst × Nat :=
  if k = 0 then ((s.1, m), if m < s.1.length then 0 else 1)
  else if s.2 < s.1.length then ((s.1.set s.2 m, s.2 + 1), 0) else (s, 1)
def tkN (s : Cst) (us : List Nat) : Nat → Cst × List Nat
  | 0 => (s, [])
  | i + 1 => ((tk1 i (tkN s us i).1 (us.getD i 0)).1, (tkN s us i).2 ++ [(tk1 i (tkN s us i).1 (us.getD i 0)).2])
def gi1 (s : Cst) : Nat := if s.2 < s.1.length then s.1.getD s.2 0 else 255
def giN (s : Cst) : Nat → Cst × List Nat
  | 0 => (s, [])
  | i + 1 => (((giN s i).1.1, (giN s i).1.2 + 1), (giN s i).2 ++ [gi1 (giN s i).1])
theorem tk1_len {k : Nat} {s : Cst} {m : Nat} : (tk1 k s m).1.1.length = s.1.length := by
  unfold tk1
  split
  · rfl
  · split
    · exact List.length_set
    · rfl
theorem tkN_len {s : Cst} {us : List Nat} : ∀ i, (tkN s us i).1.1.length = s.1.length ∧ (tkN s us i).2.length = i
  | 0 => ⟨rfl, rfl⟩
  | i + 1 => ⟨tk1_len.trans (tkN_len i).1, by show (_ ++ [_]).length = _; rw [List.length_append, (tkN_len i).2]; rfl⟩
theorem giN_eq {s : Cst} : ∀ i, (giN s i).1 = (s.1, s.2 + i) ∧ (giN s i).2.length = i
  | 0 => ⟨rfl, rfl⟩
  | i + 1 => ⟨by show ((giN s i).1.1, (giN s i).1.2 + 1) = _; rw [(giN_eq i).1]; rfl, by show (_ ++ [_]).length = _; rw [List.length_append, (giN_eq i).2]; rfl⟩
def ChipAt (C p : Addr) (pl : Nat) (ca : Addr) (cs : List Nat) (av : Nat) : Dh.HP := fun H => Dh.Seps [Dh.ob p C (fs_Chip (.int (pl : Int)) (.ref ca) (.int (av : Int))), Dh.pt ca (.lst (cs.map Dh.nI))] H
theorem go_ChipAt {C p : Addr} {pl : Nat} {ca : Addr} {cs : List Nat} {av : Nat} {L : List Dh.HP} {G : Hp → Prop} (g : Dh.Go T ((Dh.ob p C (fs_Chip (.int (pl : Int)) (.ref ca) (.int (av : Int)))) :: (Dh.pt ca (.lst (cs.map Dh.nI))) :: L) G) : Dh.Go T (ChipAt C p pl ca cs av :: L) G := fun H9 t9 s9 => by
  obtain ⟨z1, z2, z3, z4, z5, z6, z7, z8, z9⟩ := s9
  exact g   H9 t9 (Dh.Seps.paste (L1 := [_, _]) ⟨z1, z2, z3, z4, z5, z6, z7, z8, z9⟩)
theorem ent_ChipAt {C p : Addr} {pl : Nat} {ca : Addr} {cs : List Nat} {av : Nat}  {L R : List Dh.HP}  (pe : Dh.Ent L ((Dh.ob p C (fs_Chip (.int (pl : Int)) (.ref ca) (.int (av : Int)))) :: (Dh.pt ca (.lst (cs.map Dh.nI))) :: R)) : Dh.Ent L (ChipAt C p pl ca cs av :: R) :=
  Dh.ent_fold (A := [_, _]) pe fun H h => h
theorem fold_ChipAt {C p : Addr} {pl : Nat} {ca : Addr} {cs : List Nat} {av : Nat}  {L R : List Dh.HP} {G : Hp → Prop}  (pe : Dh.Ent L ((Dh.ob p C (fs_Chip (.int (pl : Int)) (.ref ca) (.int (av : Int)))) :: (Dh.pt ca (.lst (cs.map Dh.nI))) :: R)) (g : Dh.Go T (ChipAt C p pl ca cs av :: R) G) : Dh.Go T L G := g.ent (ent_ChipAt  pe)
theorem hasM_ChipAt {C p : Addr} {pl : Nat} {ca : Addr} {cs : List Nat} {av : Nat} {L A : List Dh.HP} {m : Str} (pk : Dh.Pick L (ChipAt C p pl ca cs av) A) (h : ∀ v0 v1 v2, (fs_Chip v0 v1 v2).lookup m = none) : Dh.HasM L p C m :=
  Dh.hasM_of pk fun H ss => by
    obtain ⟨dx, e⟩ := Dh.Pick.obj Dh.pick_here ss
    exact ⟨dx, _, e, h _ _ _⟩
theorem of_ChipAt {C p : Addr} {pl : Nat} {ca : Addr} {cs : List Nat} {av : Nat} {L A : List Dh.HP} {Qv : VK} {fl : Str} (pk : Dh.Pick L (ChipAt C p pl ca cs av) A) (k : Dh.Go T ((Dh.ob p C (fs_Chip (.int (pl : Int)) (.ref ca) (.int (av : Int)))) :: (Dh.pt ca (.lst (cs.map Dh.nI))) :: A) fun H => Dh.lFld C fl Qv (.ref p) H) : Dh.Go T L fun H => Dh.lFld C fl Qv (.ref p) H :=
  Dh.Go.ent (fun H s => pk H s) (go_ChipAt k)
set_option synthInstance.checkSynthOrder false in
instance (priority := 1100) iof_ChipAt {C p : Addr} {pl : Nat} {ca : Addr} {cs : List Nat} {av : Nat} {L A : List Dh.HP} {Qv : VK} {fl : Str} [pk : Dh.PkC L (ChipAt C p pl ca cs av) A] : Dh.St (Dh.Go T L fun H => Dh.lFld C fl Qv (.ref p) H) (Dh.Go T ((Dh.ob p C (fs_Chip (.int (pl : Int)) (.ref ca) (.int (av : Int)))) :: (Dh.pt ca (.lst (cs.map Dh.nI))) :: A) fun H => Dh.lFld C fl Qv (.ref p) H) := ⟨fun k => of_ChipAt pk.h k⟩
theorem sf_ChipAt {C p : Addr} {pl : Nat} {ca : Addr} {cs : List Nat} {av : Nat} {L A : List Dh.HP} {fl : Str} {yv : V} {Nv : Hp → Prop} (pk : Dh.Pick L (ChipAt C p pl ca cs av) A) (k : Dh.Go T ((Dh.ob p C (fs_Chip (.int (pl : Int)) (.ref ca) (.int (av : Int)))) :: (Dh.pt ca (.lst (cs.map Dh.nI))) :: A) fun H => Dh.lSFld C fl yv Nv (.ref p) H) : Dh.Go T L fun H => Dh.lSFld C fl yv Nv (.ref p) H :=
  Dh.Go.ent (fun H s => pk H s) (go_ChipAt k)
set_option synthInstance.checkSynthOrder false in
instance (priority := 1100) isf_ChipAt {C p : Addr} {pl : Nat} {ca : Addr} {cs : List Nat} {av : Nat} {L A : List Dh.HP} {fl : Str} {yv : V} {Nv : Hp → Prop} [pk : Dh.PkC L (ChipAt C p pl ca cs av) A] : Dh.St (Dh.Go T L fun H => Dh.lSFld C fl yv Nv (.ref p) H) (Dh.Go T ((Dh.ob p C (fs_Chip (.int (pl : Int)) (.ref ca) (.int (av : Int)))) :: (Dh.pt ca (.lst (cs.map Dh.nI))) :: A) fun H => Dh.lSFld C fl yv Nv (.ref p) H) := ⟨fun k => sf_ChipAt pk.h k⟩
theorem au_ChipAt {C p : Addr} {pl : Nat} {ca : Addr} {cs : List Nat} {av : Nat} {L A : List Dh.HP} {fl : Str} {tv : TE} {rdv : V → V → Hp → VK → Prop} {σv : L2.St} {Nv : Hp → Prop} (pk : Dh.Pick L (ChipAt C p pl ca cs av) A) (k : Dh.Go T ((Dh.ob p C (fs_Chip (.int (pl : Int)) (.ref ca) (.int (av : Int)))) :: (Dh.pt ca (.lst (cs.map Dh.nI))) :: A) fun H => Dh.lAugF C fl tv rdv σv Nv (.ref p) H) : Dh.Go T L fun H => Dh.lAugF C fl tv rdv σv Nv (.ref p) H :=
  Dh.Go.ent (fun H s => pk H s) (go_ChipAt k)
set_option synthInstance.checkSynthOrder false in
instance (priority := 1100) iau_ChipAt {C p : Addr} {pl : Nat} {ca : Addr} {cs : List Nat} {av : Nat} {L A : List Dh.HP} {fl : Str} {tv : TE} {rdv : V → V → Hp → VK → Prop} {σv : L2.St} {Nv : Hp → Prop} [pk : Dh.PkC L (ChipAt C p pl ca cs av) A] : Dh.St (Dh.Go T L fun H => Dh.lAugF C fl tv rdv σv Nv (.ref p) H) (Dh.Go T ((Dh.ob p C (fs_Chip (.int (pl : Int)) (.ref ca) (.int (av : Int)))) :: (Dh.pt ca (.lst (cs.map Dh.nI))) :: A) fun H => Dh.lAugF C fl tv rdv σv Nv (.ref p) H) := ⟨fun k => au_ChipAt pk.h k⟩
set_option synthInstance.checkSynthOrder false in
instance ihas_ChipAt {C p : Addr} {pl : Nat} {ca : Addr} {cs : List Nat} {av : Nat} {L A : List Dh.HP} {m : Str} [pk : Dh.PkC L (ChipAt C p pl ca cs av) A] [q : ∀ v0 v1 v2, Dh.NoC (fs_Chip v0 v1 v2) m] : Dh.HasC L p C m := ⟨hasM_ChipAt pk.h fun v0 v1 v2 => (q v0 v1 v2).h⟩
end
end Toy
end

section
local macro_rules | `(tactic| kspl_open zz_ent1) => `(tactic| first | (with_reducible exact Dh.ent_refl) | (with_reducible exact Dh.ent_nil) | (refine' Dh.ent_cons ?q0 ?k; (case q0 => kspl_open zz_pk)) | (with_reducible refine' Toy.ent_ChipAt ?k) | (refine' Dh.ent_drop ?k))
local macro_rules | `(tactic| kspl_open zz_hasm) => `(tactic| first | (refine' Toy.hasM_ChipAt ?q0 ?q1; (case q0 => kspl_open zz_pk); (case q1 => (intros; kspl_open zz_lk))) | (refine' Dh.hasM_ob ?q0 ?q1; (case q0 => kspl_open zz_pk); (case q1 => kspl_open zz_lk)))
local macro_rules | `(tactic| kspl_open zz_open1) => `(tactic| first  | (with_reducible refine' Toy.of_ChipAt ?q0 ?k; (case q0 => kspl_open zz_pk); intros) | (with_reducible refine' Toy.sf_ChipAt ?q0 ?k; (case q0 => kspl_open zz_pk); intros) | (with_reducible refine' Toy.au_ChipAt ?q0 ?k; (case q0 => kspl_open zz_pk); intros))
local macro_rules | `(tactic| kspl_open zz_vc1) => `(tactic| first | ((refine' Dh.wk1 ?k); (repeat (with_reducible intro _))) | kspl_open zz_vcp0 | kspl_open zz_vcp1 | kspl_open zz_vcp2 | kspl_open zz_vcp3 | kspl_open zz_vcp4 | kspl_open zz_vcp5 | kspl_open zz_vcp6 | kspl_open zz_vcp7 | kspl_open zz_vcp8 | kspl_open zz_vcp9 | kspl_open zz_vcp10 | kspl_open zz_use1 | kspl_open zz_told1 | kspl_open zz_open1)
local macro_rules | `(tactic| kspl_open zz_use1) => `(tactic| ((with_reducible refine' Toy.use_law_dice (fun _ _ _ _ => ?k0))))
local macro_rules | `(tactic| kspl_open zz_use1) => `(tactic| ((with_reducible refine' Toy.use_law_roll ?q0 ?h0 ?h1 (fun _ _ => ?k0)); (case q0 => kspl_open zz_pk); (case h0 => kspl_open zz_side); (case h1 => kspl_open zz_side)))
local macro_rules | `(tactic| kspl_open zz_use1) => `(tactic| ((with_reducible refine' Toy.use_begin (fun _ _ => ?k0))))
local macro_rules | `(tactic| kspl_open zz_use1) => `(tactic| ((with_reducible refine' Toy.use_end (fun _ _ => ?k0))))
local macro_rules | `(tactic| kspl_open zz_use1) => `(tactic| ((with_reducible refine' Toy.use_bit (fun _ _ => ?k0))))
local macro_rules | `(tactic| kspl_open zz_use1) => `(tactic| ((with_reducible refine' Toy.use_raised_two ?h0 ?k0); (case h0 => kspl_open zz_side)))
local macro_rules | `(tactic| kspl_open zz_use1) => `(tactic| ((with_reducible refine' Toy.use_octet ?h0 (fun _ _ => ?k0)); (case h0 => kspl_open zz_side)))
local macro_rules | `(tactic| kspl_open zz_use) => `(tactic| ((with_reducible refine' Toy.use_said ?q0 ?q1 ?h0 ?h1 (fun _ _ _ => ?k0) (fun _ => ?k1)); (case q0 => kspl_open zz_pk); (case q1 => kspl_open zz_pk); (case h0 => kspl_open zz_side); (case h1 => kspl_open zz_side)))
local macro_rules | `(tactic| kspl_open zz_use) => `(tactic| ((with_reducible refine' Toy.use_heard_on ?q0 ?q1 ?h0 ?h1 ?h2 (fun _ _ _ _ _ => ?k0) (fun _ _ => ?k1)); (case q0 => kspl_open zz_pk); (case q1 => kspl_open zz_pk); (case h0 => kspl_open zz_side); (case h1 => kspl_open zz_side); (case h2 => kspl_open zz_side)))
local macro_rules | `(tactic| kspl_open zz_use) => `(tactic| ((with_reducible refine' Toy.use_parts_of ?q0 ?q1 ?h0 (fun _ _ _ _ _ => ?k0) (fun _ _ => ?k1)); (case q0 => kspl_open zz_pk); (case q1 => kspl_open zz_pk); (case h0 => kspl_open zz_side)))

namespace Toy
open PySem L2
section
variable {P : Program} {w : World} {K : PySem.W.Frag} {mg : Str → Option Value} {base : Heap} {T : List (Addr × Str)} {C_Chip C_BadWord C_BadPlace C_BadPlan C_NotDue C_Stuck C_BadBits C_BadText C_TooLarge g_told : Addr}
def sg_Chip___init__ (T : List (Addr × Str)) (K : PySem.W.Frag) (C_Chip C_BadWord C_BadPlace C_BadPlan C_NotDue C_Stuck C_BadBits C_BadText C_TooLarge g_told : Addr) : Dh.SG :=
  fun zs L Q E => ∃ (p : Addr) (pl : Nat) (n : Nat) (R : List Dh.HP), zs = [.ref p, .int (pl : Nat), .int (n : Nat)] ∧ Dh.Ent L ((Dh.ob p C_Chip []) :: R) ∧ (n ≤ 100) ∧ (∀ (ca : Addr), Dh.Go T ((ChipAt C_Chip p pl ca (List.replicate n 0) 0) :: R) fun H => Q .non H)
theorem use_Chip___init__ {L A0 : List Dh.HP} {Q : VK} {E : XK} {p : Addr} {pl : Nat} {n : Nat} (q0 : Dh.Pick L (Dh.ob p C_Chip []) A0) (h0 : n ≤ 100) (k0 : ∀ (ca : Addr), Dh.Go T ((ChipAt C_Chip p pl ca (List.replicate n 0) 0) :: A0) fun H => Q .non H) : Dh.Go T L fun H => Dh.sOfN T 3 (sg_Chip___init__ T K C_Chip C_BadWord C_BadPlace C_BadPlan C_NotDue C_Stuck C_BadBits C_BadText C_TooLarge g_told) [.ref p, .int (pl : Nat), .int (n : Nat)] H Q E := Dh.g_sp rfl ⟨p, pl, n, A0, rfl, (Dh.ent_cons q0 Dh.ent_refl), h0, k0⟩
local macro_rules | `(tactic| kspl_open zz_use1) => `(tactic| ((with_reducible refine' Toy.use_Chip___init__ ?q0 ?h0 (fun _ => ?k0)); (case q0 => kspl_open zz_pk); (case h0 => kspl_open zz_side)))
set_option maxHeartbeats 8000000 in
theorem ok_Chip___init__ (Z : Txt K mg C_Chip C_BadWord C_BadPlace C_BadPlan C_NotDue C_Stuck C_BadBits C_BadText C_TooLarge g_told)  {f : Addr} {fd : FuncData} {cdv : Value} (F : Dh.FunC K "__init__" "Chip.__init__" s_Chip___init__ f fd cdv) :
    FnOk P w K mg base (L2.CX P w) 1 f fd ["self", "place", "many"] (Dh.sOfN T 3 (sg_Chip___init__ T K C_Chip C_BadWord C_BadPlace C_BadPlan C_NotDue C_Stuck C_BadBits C_BadText C_TooLarge g_told)) := by
  refine Dh.fnX (k := 0) F sc_Chip___init__ rfl (fun A outer s H0 L vs Q E hr hl h => ?_)
  refine ⟨_, (pss_cons (Dh.ps_fldC Z.c_Chip Z.n_Chip_place (pv 0) (pv 1))
    (pss_cons (Dh.ps_fldC Z.c_Chip Z.n_Chip_cells (pv 0) (pe_op (Dh.oMul (K := K) rfl) (pe_lst (pa_cons pe_int pa_nil)) (pv 2)))
    (pss_one (Dh.ps_fldC Z.c_Chip Z.n_Chip_at (pv 0) pe_int)))), ?_⟩
  try dsimp only [L2.cxOf, L2.Cx.blk, LamX.lamCx, L2.Cx.tr, L2.Cx.suite]
  obtain ⟨p, pl, n, R, rfl, hE, h0, k0⟩ := h
  refine Dh.Go.ent hE ?_
  rw [show L2.start N_Chip___init__ [.ref p, .int (pl : Nat), .int (n : Nat)] = [some (.ref p), some (.int (pl : Nat)), some (.int (n : Nat))] from rfl]
  kspl_open zz_vc
  rename_i q d
  refine Dh.Go.conv (P := Dh.pt d (.lst ((List.replicate n (0 : Int)).map V.int))) (P' := Dh.pt d (.lst ((List.replicate n (0 : Nat)).map Dh.nI))) (by kspl_open zz_pk) (fun _ h => by rw [List.map_replicate] at h ⊢; exact h) ?_
  refine Dh.Go.conv (P := Dh.ob p C_Chip (fs_Chip (.int (pl : Int)) (.ref d) (.int 0))) (P' := Dh.ob p C_Chip (fs_Chip (.int (pl : Int)) (.ref d) (.int ((0 : Nat) : Int)))) (by kspl_open zz_pk) (fun _ h => h) ?_
  exact Dh.Go.ent (by kspl_open zz_ent) (k0 d)
def sg_Chip_give (T : List (Addr × Str)) (K : PySem.W.Frag) (C_Chip C_BadWord C_BadPlace C_BadPlan C_NotDue C_Stuck C_BadBits C_BadText C_TooLarge g_told : Addr) : Dh.SG :=
  fun zs L Q E => ∃ (p : Addr) (n : Nat) (pl : Nat) (ca : Addr) (cs : List Nat) (av : Nat) (R : List Dh.HP), zs = [.ref p, .int (n : Nat)] ∧ Dh.Ent L ((ChipAt C_Chip p pl ca cs av) :: R) ∧ (n ≤ 100) ∧ (∀ (d : Addr), Dh.Go T ((ChipAt C_Chip p pl ca (giN (cs, av) n).1.1 (giN (cs, av) n).1.2) :: (Dh.pt d (.tup ((giN (cs, av) n).2.map Dh.nI))) :: R) fun H => Q (.ref d) H)
theorem use_Chip_give {L A0 : List Dh.HP} {Q : VK} {E : XK} {p : Addr} {n : Nat} {pl : Nat} {ca : Addr} {cs : List Nat} {av : Nat} (q0 : Dh.Pick L (ChipAt C_Chip p pl ca cs av) A0) (h0 : n ≤ 100) (k0 : ∀ (d : Addr), Dh.Go T ((ChipAt C_Chip p pl ca (giN (cs, av) n).1.1 (giN (cs, av) n).1.2) :: (Dh.pt d (.tup ((giN (cs, av) n).2.map Dh.nI))) :: A0) fun H => Q (.ref d) H) : Dh.Go T L fun H => Dh.sOfN T 2 (sg_Chip_give T K C_Chip C_BadWord C_BadPlace C_BadPlan C_NotDue C_Stuck C_BadBits C_BadText C_TooLarge g_told) [.ref p, .int (n : Nat)] H Q E := Dh.g_sp rfl ⟨p, n, pl, ca, cs, av, A0, rfl, (Dh.ent_cons q0 Dh.ent_refl), h0, k0⟩
local macro_rules | `(tactic| kspl_open zz_use1) => `(tactic| ((with_reducible refine' Toy.use_Chip_give ?q0 ?h0 (fun _ => ?k0)); (case q0 => kspl_open zz_pk); (case h0 => kspl_open zz_side)))
set_option maxHeartbeats 8000000 in
theorem ok_Chip_give (Z : Txt K mg C_Chip C_BadWord C_BadPlace C_BadPlan C_NotDue C_Stuck C_BadBits C_BadText C_TooLarge g_told)  {f : Addr} {fd : FuncData} {cdv : Value} (F : Dh.FunC K "give" "Chip.give" s_Chip_give f fd cdv) :
    FnOk P w K mg base (L2.CX P w) 1 f fd ["self", "many"] (Dh.sOfN T 2 (sg_Chip_give T K C_Chip C_BadWord C_BadPlace C_BadPlan C_NotDue C_Stuck C_BadBits C_BadText C_TooLarge g_told)) := by
  refine Dh.fnX (k := 0) F sc_Chip_give rfl (fun A outer s H0 L vs Q E hr hl h => ?_)
  refine ⟨_, (pss_cons (ps_set (i := 2) sc_Chip_give.nd rfl (by first | exact Or.inl rfl | exact Or.inr rfl) (pe_lst pa_nil))
    (pss_cons (ps_for (passes_of rfl) rfl (pi_range1 rfl Z.b_range (pa_cons (pv 1) pa_nil)) (pg_name (i := 3) sc_Chip_give.nd rfl (by first | exact Or.inl rfl | exact Or.inr rfl))
    (pss_cons (ps_expr (pe_bm PySem.F.plainAttrs_list PySem.F.slot_list_append PySem.F.type_list_append mt_append (pv 2) (pa_cons (pe_ifExp (pt_cmpR op_lt (Dh.pe_fldC Z.c_Chip Z.n_Chip_at (pv 0)) (pe_callB (Dh.cLen (K := K) rfl) (by rfl) Z.b_len (by first | exact PySem.boot_len | exact PyProof.Rows.boot_len | decide +kernel) (pa_cons (Dh.pe_fldC Z.c_Chip Z.n_Chip_cells (pv 0)) pa_nil)) (nomark _)) (pe_ix (Dh.xSeq (K := K) rfl) (Dh.pe_fldC Z.c_Chip Z.n_Chip_cells (pv 0)) (Dh.pe_fldC Z.c_Chip Z.n_Chip_at (pv 0)) (fun _ _ => rfl)) pe_int) pa_nil)))
    (pss_one (Dh.ps_augC Z.c_Chip Z.n_Chip_at (pv 0) pe_int in_add))))
    (pss_one (ps_ret (pe_callTy (Dh.cTup (K := K) rfl) (by rfl) Z.b_tuple (by first | exact PySem.boot_tuple | exact PyProof.Rows.boot_tuple | decide +kernel) (pa_cons (pv 2) pa_nil)))))), ?_⟩
  try dsimp only [L2.cxOf, L2.Cx.blk, LamX.lamCx, L2.Cx.tr, L2.Cx.suite]
  obtain ⟨p, n, pl, ca, cs, av, R, rfl, hE, h0, k0⟩ := h
  refine Dh.Go.ent hE ?_
  rw [show L2.start N_Chip_give [.ref p, .int (n : Nat)] = [some (.ref p), some (.int (n : Nat)), none, none] from rfl]
  kspl_open zz_vc
  rename_i F
  refine Dh.g_forR (n := n) (lo := 0) (fun i σ L => ∃ v, σ = [some (.ref p), some (.int (n : Int)), some (.ref F), v] ∧ Dh.Ent L (ChipAt C_Chip p pl ca (giN (cs, av) i).1.1 (giN (cs, av) i).1.2 :: Dh.pt F (.lst ((giN (cs, av) i).2.map Dh.nI)) :: R)) ⟨_, rfl, Dh.ent_cons (c := ChipAt C_Chip p pl ca cs av) (by kspl_open zz_pk) (Dh.ent_cons (c := Dh.pt F (.lst [])) (by kspl_open zz_pk) (by kspl_open zz_ent))⟩ ?_ ?_
  · rintro i σ L hi ⟨v, rfl, hE⟩
    have hgi := (giN_eq (s := (cs, av)) i).2
    rw [show giN (cs, av) (i + 1) = (((giN (cs, av) i).1.1, (giN (cs, av) i).1.2 + 1), (giN (cs, av) i).2 ++ [gi1 (giN (cs, av) i).1]) from rfl]
    generalize giN (cs, av) i = q at hgi hE ⊢
    clear k0
    obtain ⟨⟨cs, av⟩, acc⟩ := q
    dsimp only at hgi
    refine Dh.Go.ent hE ?_
    by_cases z' : av < cs.length
    · have e1 : L2.atI (cs.map Dh.nI) (av : Int) = some (Dh.nI (cs.getD av 0)) := Dh.atI_map (by rw [List.getD_eq_getElem?_getD, List.getElem?_eq_getElem z']; rfl)
      rw [show gi1 (cs, av) = cs.getD av 0 from if_pos z']
      dsimp only
      kspl_open zz_vc
      refine Dh.g_ifT (decide_eq_true (by rw [List.length_map]; omega)) ?_
      kspl_open zz_vc
      refine Dh.Go.conv (P := Dh.pt F (.lst (acc.map Dh.nI ++ [Dh.nI (cs.getD av 0)]))) (P' := Dh.pt F (.lst ((acc ++ [cs.getD av 0]).map Dh.nI))) (by kspl_open zz_pk) (fun _ h => by rw [List.map_append]; exact h) ?_
      rw [show (av : Int) + 1 = ((av + 1 : Nat) : Int) from rfl]
      exact Dh.SI.in ⟨_, rfl, by kspl_open zz_ent⟩
    · rw [show gi1 (cs, av) = 255 from if_neg z']
      dsimp only
      kspl_open zz_vc
      refine Dh.g_ifF (decide_eq_false (by rw [List.length_map]; omega)) ?_
      kspl_open zz_vc
      refine Dh.Go.conv (P := Dh.pt F (.lst (acc.map Dh.nI ++ [V.int 255]))) (P' := Dh.pt F (.lst ((acc ++ [255]).map Dh.nI))) (by kspl_open zz_pk) (fun _ h => by rw [List.map_append]; exact h) ?_
      rw [show (av : Int) + 1 = ((av + 1 : Nat) : Int) from rfl]
      exact Dh.SI.in ⟨_, rfl, by kspl_open zz_ent⟩
  · rintro σ L ⟨v, rfl, hE⟩
    refine Dh.Go.ent hE ?_
    kspl_open zz_vc
    exact Dh.Go.ent (by kspl_open zz_ent) (k0 _)
def sg_Chip_take (T : List (Addr × Str)) (K : PySem.W.Frag) (C_Chip C_BadWord C_BadPlace C_BadPlan C_NotDue C_Stuck C_BadBits C_BadText C_TooLarge g_told : Addr) : Dh.SG :=
  fun zs L Q E => ∃ (p : Addr) (b : Addr) (pl : Nat) (ca : Addr) (cs : List Nat) (av : Nat) (us : List Nat) (R : List Dh.HP), zs = [.ref p, .ref b] ∧ Dh.Ent L ((ChipAt C_Chip p pl ca cs av) :: (Dh.pt b (.tup (us.map Dh.nI))) :: R) ∧ (us.length ≤ 100) ∧ (∀ (d : Addr), Dh.Go T ((ChipAt C_Chip p pl ca (tkN (cs, av) us us.length).1.1 (tkN (cs, av) us us.length).1.2) :: (Dh.pt d (.tup ((tkN (cs, av) us us.length).2.map Dh.nI))) :: (Dh.pt b (.tup (us.map Dh.nI))) :: R) fun H => Q (.ref d) H)
theorem use_Chip_take {L A0 A1 : List Dh.HP} {Q : VK} {E : XK} {p : Addr} {b : Addr} {pl : Nat} {ca : Addr} {cs : List Nat} {av : Nat} {us : List Nat} (q0 : Dh.Pick L (ChipAt C_Chip p pl ca cs av) A0) (q1 : Dh.Pick A0 (Dh.pt b (.tup (us.map Dh.nI))) A1) (h0 : us.length ≤ 100) (k0 : ∀ (d : Addr), Dh.Go T ((ChipAt C_Chip p pl ca (tkN (cs, av) us us.length).1.1 (tkN (cs, av) us us.length).1.2) :: (Dh.pt d (.tup ((tkN (cs, av) us us.length).2.map Dh.nI))) :: (Dh.pt b (.tup (us.map Dh.nI))) :: A1) fun H => Q (.ref d) H) : Dh.Go T L fun H => Dh.sOfN T 2 (sg_Chip_take T K C_Chip C_BadWord C_BadPlace C_BadPlan C_NotDue C_Stuck C_BadBits C_BadText C_TooLarge g_told) [.ref p, .ref b] H Q E := Dh.g_sp rfl ⟨p, b, pl, ca, cs, av, us, A1, rfl, (Dh.ent_cons q0 (Dh.ent_cons q1 Dh.ent_refl)), h0, k0⟩
local macro_rules | `(tactic| kspl_open zz_use1) => `(tactic| ((with_reducible refine' Toy.use_Chip_take ?q0 ?q1 ?h0 (fun _ => ?k0)); (case q0 => kspl_open zz_pk); (case q1 => kspl_open zz_pk); (case h0 => kspl_open zz_side)))
set_option maxHeartbeats 8000000 in
theorem ok_Chip_take (Z : Txt K mg C_Chip C_BadWord C_BadPlace C_BadPlan C_NotDue C_Stuck C_BadBits C_BadText C_TooLarge g_told)  {f : Addr} {fd : FuncData} {cdv : Value} (F : Dh.FunC K "take" "Chip.take" s_Chip_take f fd cdv) :
    FnOk P w K mg base (L2.CX P w) 1 f fd ["self", "row"] (Dh.sOfN T 2 (sg_Chip_take T K C_Chip C_BadWord C_BadPlace C_BadPlan C_NotDue C_Stuck C_BadBits C_BadText C_TooLarge g_told)) := by
  refine Dh.fnX (k := 0) F sc_Chip_take rfl (fun A outer s H0 L vs Q E hr hl h => ?_)
  refine ⟨_, (pss_cons (ps_set (i := 2) sc_Chip_take.nd rfl (by first | exact Or.inl rfl | exact Or.inr rfl) (pe_lst pa_nil))
    (pss_cons (ps_for (passes_of rfl) rfl (Dh.piEnumT (K := K) rfl (by rfl) Z.b_enumerate (pa_cons (pv 1) pa_nil)) (Dh.pgTup (K := K) rfl rfl (pgs_cons (pg_name (i := 3) sc_Chip_take.nd rfl (by first | exact Or.inl rfl | exact Or.inr rfl)) (pgs_cons (pg_name (i := 4) sc_Chip_take.nd rfl (by first | exact Or.inl rfl | exact Or.inr rfl)) pgs_nil)) rfl rfl)
    (pss_one (ps_if (pt_cmpR (Dh.oEq (K := K) rfl hr.units) (pv 3) pe_int (nomark _))
    (pss_cons (Dh.ps_fldC Z.c_Chip Z.n_Chip_at (pv 0) (pv 4))
    (pss_one (ps_expr (pe_bm PySem.F.plainAttrs_list PySem.F.slot_list_append PySem.F.type_list_append mt_append (pv 2) (pa_cons (pe_ifExp (pt_cmpR op_lt (pv 4) (pe_callB (Dh.cLen (K := K) rfl) (by rfl) Z.b_len (by first | exact PySem.boot_len | exact PyProof.Rows.boot_len | decide +kernel) (pa_cons (Dh.pe_fldC Z.c_Chip Z.n_Chip_cells (pv 0)) pa_nil)) (nomark _)) pe_int pe_int) pa_nil)))))
    (pss_one (ps_if (pt_cmpR op_lt (Dh.pe_fldC Z.c_Chip Z.n_Chip_at (pv 0)) (pe_callB (Dh.cLen (K := K) rfl) (by rfl) Z.b_len (by first | exact PySem.boot_len | exact PyProof.Rows.boot_len | decide +kernel) (pa_cons (Dh.pe_fldC Z.c_Chip Z.n_Chip_cells (pv 0)) pa_nil)) (nomark _))
    (pss_cons (ps_asg (pv 4) (pg_sub (Dh.pe_fldC Z.c_Chip Z.n_Chip_cells (pv 0)) (Dh.pe_fldC Z.c_Chip Z.n_Chip_at (pv 0)) set_list))
    (pss_cons (Dh.ps_augC Z.c_Chip Z.n_Chip_at (pv 0) pe_int in_add)
    (pss_one (ps_expr (pe_bm PySem.F.plainAttrs_list PySem.F.slot_list_append PySem.F.type_list_append mt_append (pv 2) (pa_cons pe_int pa_nil))))))
    (pss_one (ps_expr (pe_bm PySem.F.plainAttrs_list PySem.F.slot_list_append PySem.F.type_list_append mt_append (pv 2) (pa_cons pe_int pa_nil)))))))))
    (pss_one (ps_ret (pe_callTy (Dh.cTup (K := K) rfl) (by rfl) Z.b_tuple (by first | exact PySem.boot_tuple | exact PyProof.Rows.boot_tuple | decide +kernel) (pa_cons (pv 2) pa_nil)))))), ?_⟩
  try dsimp only [L2.cxOf, L2.Cx.blk, LamX.lamCx, L2.Cx.tr, L2.Cx.suite]
  obtain ⟨p, b, pl, ca, cs, av, us, R, rfl, hE, h0, k0⟩ := h
  refine Dh.Go.ent hE ?_
  rw [show L2.start N_Chip_take [.ref p, .ref b] = [some (.ref p), some (.ref b), none, none, none] from rfl]
  kspl_open zz_vc
  rename_i F
  have w := Dh.walk_enumT (K := K) (a := b) (xs := us.map Dh.nI)
  rw [List.length_map] at w
  refine Dh.g_forP (n := us.length) w (fun i σ L => ∃ v3 v4, σ = [some (.ref p), some (.ref b), some (.ref F), v3, v4] ∧ Dh.Ent L (ChipAt C_Chip p pl ca (tkN (cs, av) us i).1.1 (tkN (cs, av) us i).1.2 :: Dh.pt F (.lst ((tkN (cs, av) us i).2.map Dh.nI)) :: Dh.pt b (.tup (us.map Dh.nI)) :: R)) ⟨_, _, rfl, Dh.ent_cons (c := ChipAt C_Chip p pl ca cs av) (by kspl_open zz_pk) (Dh.ent_cons (c := Dh.pt F (.lst [])) (by kspl_open zz_pk) (by kspl_open zz_ent))⟩ (fun i σ L h => ?_) ?_ ?_
  · obtain ⟨_, _, _, hE⟩ := h
    exact fun H s => SqT.of (Dh.Pick.at (show Dh.Pick _ (Dh.pt b (.tup (us.map Dh.nI))) _ by kspl_open zz_pk) (hE H s))
  · rintro i xj yj pp σ L hj hxj hyj ⟨v3, v4, rfl, hE⟩
    cases hxj
    obtain ⟨m, hm, rfl⟩ := Dh.at_map hyj
    have hgm : us.getD i 0 = m := by rw [List.getD_eq_getElem?_getD, hm]; rfl
    have htl := tkN_len (s := (cs, av)) (us := us) i
    rw [show tkN (cs, av) us (i + 1) = ((tk1 i (tkN (cs, av) us i).1 m).1, (tkN (cs, av) us i).2 ++ [(tk1 i (tkN (cs, av) us i).1 m).2]) by rw [← hgm]; rfl]
    generalize tkN (cs, av) us i = q at htl hE ⊢
    clear k0
    obtain ⟨⟨cs, av⟩, acc⟩ := q
    dsimp only at htl
    refine Dh.Go.ent (Dh.ent_tail hE) ?_
    by_cases c1 : i = 0
    · subst c1
      by_cases c2 : m < cs.length
      · rw [show tk1 0 (cs, av) m = ((cs, m), 0) by unfold tk1; rw [if_pos rfl]; dsimp only; rw [if_pos c2]]
        dsimp only
        kspl_open zz_vc
        refine Dh.g_ifT (decide_eq_true (by rw [List.length_map]; omega)) ?_
        kspl_open zz_vc
        refine Dh.Go.conv (P := Dh.pt F (.lst (acc.map Dh.nI ++ [V.int 0]))) (P' := Dh.pt F (.lst ((acc ++ [0]).map Dh.nI))) (by kspl_open zz_pk) (fun _ h => by rw [List.map_append]; exact h) ?_
        exact Dh.SI.in ⟨_, _, rfl, by kspl_open zz_ent⟩
      · rw [show tk1 0 (cs, av) m = ((cs, m), 1) by unfold tk1; rw [if_pos rfl]; dsimp only; rw [if_neg c2]]
        dsimp only
        kspl_open zz_vc
        refine Dh.g_ifF (decide_eq_false (by rw [List.length_map]; omega)) ?_
        kspl_open zz_vc
        refine Dh.Go.conv (P := Dh.pt F (.lst (acc.map Dh.nI ++ [V.int 1]))) (P' := Dh.pt F (.lst ((acc ++ [1]).map Dh.nI))) (by kspl_open zz_pk) (fun _ h => by rw [List.map_append]; exact h) ?_
        exact Dh.SI.in ⟨_, _, rfl, by kspl_open zz_ent⟩
    · by_cases c2 : av < cs.length
      · rw [show tk1 i (cs, av) m = ((cs.set av m, av + 1), 0) by unfold tk1; rw [if_neg c1]; dsimp only; rw [if_pos c2]]
        dsimp only
        have e3 : L2.ixN (cs.map Dh.nI).length (av : Int) = some av := Dh.ixN_lt (by rw [List.length_map]; omega)
        kspl_open zz_vc
        refine Dh.g_ifF (decide_eq_false (fun z => c1 (by injection z; omega))) ?_
        kspl_open zz_vc
        refine Dh.g_ifT (decide_eq_true (by rw [List.length_map]; omega)) ?_
        kspl_open zz_vc
        refine Dh.Go.conv (P := Dh.pt F (.lst (acc.map Dh.nI ++ [V.int 0]))) (P' := Dh.pt F (.lst ((acc ++ [0]).map Dh.nI))) (by kspl_open zz_pk) (fun _ h => by rw [List.map_append]; exact h) ?_
        rw [show (av : Int) + 1 = ((av + 1 : Nat) : Int) from rfl]
        exact Dh.SI.in ⟨_, _, rfl, by kspl_open zz_ent⟩
      · rw [show tk1 i (cs, av) m = ((cs, av), 1) by unfold tk1; rw [if_neg c1]; dsimp only; rw [if_neg c2]]
        dsimp only
        kspl_open zz_vc
        refine Dh.g_ifF (decide_eq_false (fun z => c1 (by injection z; omega))) ?_
        kspl_open zz_vc
        refine Dh.g_ifF (decide_eq_false (by rw [List.length_map]; omega)) ?_
        kspl_open zz_vc
        refine Dh.Go.conv (P := Dh.pt F (.lst (acc.map Dh.nI ++ [V.int 1]))) (P' := Dh.pt F (.lst ((acc ++ [1]).map Dh.nI))) (by kspl_open zz_pk) (fun _ h => by rw [List.map_append]; exact h) ?_
        exact Dh.SI.in ⟨_, _, rfl, by kspl_open zz_ent⟩
  · rintro σ L ⟨v3, v4, rfl, hE⟩
    refine Dh.Go.ent hE ?_
    kspl_open zz_vc
    exact Dh.Go.ent (by kspl_open zz_ent) (k0 _)
end
end Toy
end

section
local macro_rules | `(tactic| kspl_open zz_ent1) => `(tactic| first | (with_reducible exact Dh.ent_refl) | (with_reducible exact Dh.ent_nil) | (refine' Dh.ent_cons ?q0 ?k; (case q0 => kspl_open zz_pk)) | (with_reducible refine' Toy.ent_ChipAt ?k) | (refine' Dh.ent_drop ?k))
local macro_rules | `(tactic| kspl_open zz_hasm) => `(tactic| first | (refine' Toy.hasM_ChipAt ?q0 ?q1; (case q0 => kspl_open zz_pk); (case q1 => (intros; kspl_open zz_lk))) | (refine' Dh.hasM_ob ?q0 ?q1; (case q0 => kspl_open zz_pk); (case q1 => kspl_open zz_lk)))
local macro_rules | `(tactic| kspl_open zz_open1) => `(tactic| first  | (with_reducible refine' Toy.of_ChipAt ?q0 ?k; (case q0 => kspl_open zz_pk); intros) | (with_reducible refine' Toy.sf_ChipAt ?q0 ?k; (case q0 => kspl_open zz_pk); intros) | (with_reducible refine' Toy.au_ChipAt ?q0 ?k; (case q0 => kspl_open zz_pk); intros))
local macro_rules | `(tactic| kspl_open zz_vc1) => `(tactic| first | ((refine' Dh.wk1 ?k); (repeat (with_reducible intro _))) | kspl_open zz_vcp0 | kspl_open zz_vcp1 | kspl_open zz_vcp2 | kspl_open zz_vcp3 | kspl_open zz_vcp4 | kspl_open zz_vcp5 | kspl_open zz_vcp6 | kspl_open zz_vcp7 | kspl_open zz_vcp8 | kspl_open zz_vcp9 | kspl_open zz_vcp10 | kspl_open zz_use1 | kspl_open zz_told1 | kspl_open zz_open1)
local macro_rules | `(tactic| kspl_open zz_use1) => `(tactic| ((with_reducible refine' Toy.use_law_dice (fun _ _ _ _ => ?k0))))
local macro_rules | `(tactic| kspl_open zz_use1) => `(tactic| ((with_reducible refine' Toy.use_law_roll ?q0 ?h0 ?h1 (fun _ _ => ?k0)); (case q0 => kspl_open zz_pk); (case h0 => kspl_open zz_side); (case h1 => kspl_open zz_side)))
local macro_rules | `(tactic| kspl_open zz_use1) => `(tactic| ((with_reducible refine' Toy.use_begin (fun _ _ => ?k0))))
local macro_rules | `(tactic| kspl_open zz_use1) => `(tactic| ((with_reducible refine' Toy.use_end (fun _ _ => ?k0))))
local macro_rules | `(tactic| kspl_open zz_use1) => `(tactic| ((with_reducible refine' Toy.use_bit (fun _ _ => ?k0))))
local macro_rules | `(tactic| kspl_open zz_use1) => `(tactic| ((with_reducible refine' Toy.use_raised_two ?h0 ?k0); (case h0 => kspl_open zz_side)))
local macro_rules | `(tactic| kspl_open zz_use1) => `(tactic| ((with_reducible refine' Toy.use_octet ?h0 (fun _ _ => ?k0)); (case h0 => kspl_open zz_side)))
local macro_rules | `(tactic| kspl_open zz_use) => `(tactic| ((with_reducible refine' Toy.use_said ?q0 ?q1 ?h0 ?h1 (fun _ _ _ => ?k0) (fun _ => ?k1)); (case q0 => kspl_open zz_pk); (case q1 => kspl_open zz_pk); (case h0 => kspl_open zz_side); (case h1 => kspl_open zz_side)))
local macro_rules | `(tactic| kspl_open zz_use) => `(tactic| ((with_reducible refine' Toy.use_heard_on ?q0 ?q1 ?h0 ?h1 ?h2 (fun _ _ _ _ _ => ?k0) (fun _ _ => ?k1)); (case q0 => kspl_open zz_pk); (case q1 => kspl_open zz_pk); (case h0 => kspl_open zz_side); (case h1 => kspl_open zz_side); (case h2 => kspl_open zz_side)))
local macro_rules | `(tactic| kspl_open zz_use) => `(tactic| ((with_reducible refine' Toy.use_parts_of ?q0 ?q1 ?h0 (fun _ _ _ _ _ => ?k0) (fun _ _ => ?k1)); (case q0 => kspl_open zz_pk); (case q1 => kspl_open zz_pk); (case h0 => kspl_open zz_side)))
local macro_rules | `(tactic| kspl_open zz_use1) => `(tactic| ((with_reducible refine' Toy.use_Chip___init__ ?q0 ?h0 (fun _ => ?k0)); (case q0 => kspl_open zz_pk); (case h0 => kspl_open zz_side)))
local macro_rules | `(tactic| kspl_open zz_use1) => `(tactic| ((with_reducible refine' Toy.use_Chip_give ?q0 ?h0 (fun _ => ?k0)); (case q0 => kspl_open zz_pk); (case h0 => kspl_open zz_side)))
local macro_rules | `(tactic| kspl_open zz_use1) => `(tactic| ((with_reducible refine' Toy.use_Chip_take ?q0 ?q1 ?h0 (fun _ => ?k0)); (case q0 => kspl_open zz_pk); (case q1 => kspl_open zz_pk); (case h0 => kspl_open zz_side)))

namespace Toy
open PySem L2
section
variable {P : Program} {w : World} {K : PySem.W.Frag} {mg : Str → Option Value} {base : Heap} {T : List (Addr × Str)} {C_Chip C_BadWord C_BadPlace C_BadPlan C_NotDue C_Stuck C_BadBits C_BadText C_TooLarge g_told : Addr}
inductive Wh where
  | n (k : Nat)
  | l (us : List Nat)
abbrev wD : Wh → Dh.Dt
  | .n k => .int (k : Int)
  | .l us => Dh.tN us
abbrev aD (a : Nat × Wh) : Dh.Dt := .tup [.int (a.1 : Int), wD a.2]
def Wh.ok : Wh → Prop
  | .n k => k ≤ 3
  | .l us => us.length ≤ 3
def gRow (s : Cst) (k : Nat) : List (Nat × Nat) := (List.range k).map fun j => ((giN s k).2.getD j 0, if j + 1 = k then 1 else 0)
def on1 (s : Cst) (pl : Nat) : Wh → Cst × Prt
  | .n k => ((giN s k).1, ⟨pl, true, some (gRow s k)⟩)
  | .l us => ((tkN s us us.length).1, ⟨pl, false, some (us.zip (tkN s us us.length).2)⟩)
abbrev Ch2 := Cst × Cst
def Wh.isN : Wh → Bool
  | .n _ => true
  | .l _ => false
def ex1 (s : Ch2) (a : Nat × Wh) : Ch2 × Prt :=
  if a.1 = 5 then (((on1 s.1 5 a.2).1, s.2), (on1 s.1 5 a.2).2)
  else if a.1 = 9 then ((s.1, (on1 s.2 9 a.2).1), (on1 s.2 9 a.2).2)
  else (s, ⟨a.1, a.2.isN, none⟩)
def exN (s : Ch2) (as : List (Nat × Wh)) : Nat → Ch2 × List Prt
  | 0 => (s, [])
  | i + 1 => ((ex1 (exN s as i).1 (as.getD i (0, .n 0))).1, (exN s as i).2 ++ [(ex1 (exN s as i).1 (as.getD i (0, .n 0))).2])
theorem exN_len {s : Ch2} {as : List (Nat × Wh)} : ∀ i, (exN s as i).2.length = i
  | 0 => rfl
  | i + 1 => by show (_ ++ [_]).length = _; rw [List.length_append, exN_len i]; rfl
abbrev ChO (C p5 p9 c5 c9 : Addr) (s : Ch2) : List Dh.HP := [ChipAt C p5 5 c5 s.1.1 s.1.2, ChipAt C p9 9 c9 s.2.1 s.2.2]
theorem go_pair {T : List (Addr × Str)} {L A : List Dh.HP} {v : V} {i : Int} {d : Dh.Dt} {G : Hp → Prop} (pk : Dh.Pick L (Dh.dv v (.tup [.int i, d])) A) (g : ∀ t z, v = .ref t → Dh.Go T (Dh.dv z d :: Dh.pt t (.tup [.int i, z]) :: L) G) : Dh.Go T L G := by
  refine Dh.go_dvTup pk fun t ts ht => ?_
  refine Dh.go_dvsCons (Dh.pick_there Dh.pick_here) fun x xs e => ?_
  refine Dh.go_dvsCons (Dh.pick_there Dh.pick_here) fun y ys e2 => ?_
  refine Dh.go_dvsNil (Dh.pick_there Dh.pick_here) fun e4 => ?_
  refine Dh.go_dvInt (Dh.pick_there (Dh.pick_there Dh.pick_here)) fun e5 => ?_
  subst e4 e2 e e5
  exact Dh.Go.ent (Dh.ent_cons Dh.pick_here (Dh.ent_drop (Dh.ent_drop (Dh.ent_drop (Dh.ent_cons Dh.pick_here (Dh.ent_drop Dh.ent_refl)))))) (g t y ht)
theorem go_tN {T : List (Addr × Str)} {L A : List Dh.HP} {v : V} {us : List Nat} {G : Hp → Prop} (pk : Dh.Pick L (Dh.dv v (Dh.tN us)) A) (g : ∀ t, v = .ref t → Dh.Go T (Dh.pt t (.tup (us.map Dh.nI)) :: L) G) : Dh.Go T L G :=
  Dh.go_dvFlat (es := us.map fun k : Nat => .int (k : Int)) (xs := us.map Dh.nI) pk (by simp [Dh.Dt.isAt]) (by rw [List.map_map]; rfl) g
end
end Toy
end

section
local macro_rules | `(tactic| kspl_open zz_ent1) => `(tactic| first | (with_reducible exact Dh.ent_refl) | (with_reducible exact Dh.ent_nil) | (refine' Dh.ent_cons ?q0 ?k; (case q0 => kspl_open zz_pk)) | (with_reducible refine' Toy.ent_ChipAt ?k) | (refine' Dh.ent_drop ?k))
local macro_rules | `(tactic| kspl_open zz_hasm) => `(tactic| first | (refine' Toy.hasM_ChipAt ?q0 ?q1; (case q0 => kspl_open zz_pk); (case q1 => (intros; kspl_open zz_lk))) | (refine' Dh.hasM_ob ?q0 ?q1; (case q0 => kspl_open zz_pk); (case q1 => kspl_open zz_lk)))
local macro_rules | `(tactic| kspl_open zz_open1) => `(tactic| first  | (with_reducible refine' Toy.of_ChipAt ?q0 ?k; (case q0 => kspl_open zz_pk); intros) | (with_reducible refine' Toy.sf_ChipAt ?q0 ?k; (case q0 => kspl_open zz_pk); intros) | (with_reducible refine' Toy.au_ChipAt ?q0 ?k; (case q0 => kspl_open zz_pk); intros))
local macro_rules | `(tactic| kspl_open zz_vc1) => `(tactic| first | ((refine' Dh.wk1 ?k); (repeat (with_reducible intro _))) | kspl_open zz_vcp0 | kspl_open zz_vcp1 | kspl_open zz_vcp2 | kspl_open zz_vcp3 | kspl_open zz_vcp4 | kspl_open zz_vcp5 | kspl_open zz_vcp6 | kspl_open zz_vcp7 | kspl_open zz_vcp8 | kspl_open zz_vcp9 | kspl_open zz_vcp10 | kspl_open zz_use1 | kspl_open zz_told1 | kspl_open zz_open1)
local macro_rules | `(tactic| kspl_open zz_use1) => `(tactic| ((with_reducible refine' Toy.use_law_dice (fun _ _ _ _ => ?k0))))
local macro_rules | `(tactic| kspl_open zz_use1) => `(tactic| ((with_reducible refine' Toy.use_law_roll ?q0 ?h0 ?h1 (fun _ _ => ?k0)); (case q0 => kspl_open zz_pk); (case h0 => kspl_open zz_side); (case h1 => kspl_open zz_side)))
local macro_rules | `(tactic| kspl_open zz_use1) => `(tactic| ((with_reducible refine' Toy.use_begin (fun _ _ => ?k0))))
local macro_rules | `(tactic| kspl_open zz_use1) => `(tactic| ((with_reducible refine' Toy.use_end (fun _ _ => ?k0))))
local macro_rules | `(tactic| kspl_open zz_use1) => `(tactic| ((with_reducible refine' Toy.use_bit (fun _ _ => ?k0))))
local macro_rules | `(tactic| kspl_open zz_use1) => `(tactic| ((with_reducible refine' Toy.use_raised_two ?h0 ?k0); (case h0 => kspl_open zz_side)))
local macro_rules | `(tactic| kspl_open zz_use1) => `(tactic| ((with_reducible refine' Toy.use_octet ?h0 (fun _ _ => ?k0)); (case h0 => kspl_open zz_side)))
local macro_rules | `(tactic| kspl_open zz_use) => `(tactic| ((with_reducible refine' Toy.use_said ?q0 ?q1 ?h0 ?h1 (fun _ _ _ => ?k0) (fun _ => ?k1)); (case q0 => kspl_open zz_pk); (case q1 => kspl_open zz_pk); (case h0 => kspl_open zz_side); (case h1 => kspl_open zz_side)))
local macro_rules | `(tactic| kspl_open zz_use) => `(tactic| ((with_reducible refine' Toy.use_heard_on ?q0 ?q1 ?h0 ?h1 ?h2 (fun _ _ _ _ _ => ?k0) (fun _ _ => ?k1)); (case q0 => kspl_open zz_pk); (case q1 => kspl_open zz_pk); (case h0 => kspl_open zz_side); (case h1 => kspl_open zz_side); (case h2 => kspl_open zz_side)))
local macro_rules | `(tactic| kspl_open zz_use) => `(tactic| ((with_reducible refine' Toy.use_parts_of ?q0 ?q1 ?h0 (fun _ _ _ _ _ => ?k0) (fun _ _ => ?k1)); (case q0 => kspl_open zz_pk); (case q1 => kspl_open zz_pk); (case h0 => kspl_open zz_side)))
local macro_rules | `(tactic| kspl_open zz_use1) => `(tactic| ((with_reducible refine' Toy.use_Chip___init__ ?q0 ?h0 (fun _ => ?k0)); (case q0 => kspl_open zz_pk); (case h0 => kspl_open zz_side)))
local macro_rules | `(tactic| kspl_open zz_use1) => `(tactic| ((with_reducible refine' Toy.use_Chip_give ?q0 ?h0 (fun _ => ?k0)); (case q0 => kspl_open zz_pk); (case h0 => kspl_open zz_side)))
local macro_rules | `(tactic| kspl_open zz_use1) => `(tactic| ((with_reducible refine' Toy.use_Chip_take ?q0 ?q1 ?h0 (fun _ => ?k0)); (case q0 => kspl_open zz_pk); (case q1 => kspl_open zz_pk); (case h0 => kspl_open zz_side)))

namespace Toy
open PySem L2
section
variable {P : Program} {w : World} {K : PySem.W.Frag} {mg : Str → Option Value} {base : Heap} {T : List (Addr × Str)} {C_Chip C_BadWord C_BadPlace C_BadPlan C_NotDue C_Stuck C_BadBits C_BadText C_TooLarge g_told : Addr}
def sg_exchanged (T : List (Addr × Str)) (K : PySem.W.Frag) (C_Chip C_BadWord C_BadPlace C_BadPlan C_NotDue C_Stuck C_BadBits C_BadText C_TooLarge g_told : Addr) : Dh.SG :=
  fun zs L Q E => ∃ (b : Addr) (e : Addr) (p5 : Addr) (p9 : Addr) (c5 : Addr) (c9 : Addr) (u5 : List Nat) (v5 : Nat) (u9 : List Nat) (v9 : Nat) (vs : List V) (as : List (Nat × Wh)) (R : List Dh.HP), zs = [.ref b, .ref e] ∧ Dh.Ent L ((Dh.pt b (.lst [.ref p5, .ref p9])) :: (ChipAt C_Chip p5 5 c5 u5 v5) :: (ChipAt C_Chip p9 9 c9 u9 v9) :: (Dh.pt e (.lst vs)) :: (Dh.dvs vs (as.map aD)) :: R) ∧ (as.length ≤ 3) ∧ (∀ a ∈ as, a.2.ok) ∧ (∀ (d : Addr) (ws : List V), Dh.Go T ((Dh.pt d (.tup ws)) :: (Dh.dvs ws ((exN ((u5, v5), (u9, v9)) as as.length).2.map pD)) :: (Dh.pt b (.lst [.ref p5, .ref p9])) :: (ChipAt C_Chip p5 5 c5 (exN ((u5, v5), (u9, v9)) as as.length).1.1.1 (exN ((u5, v5), (u9, v9)) as as.length).1.1.2) :: (ChipAt C_Chip p9 9 c9 (exN ((u5, v5), (u9, v9)) as as.length).1.2.1 (exN ((u5, v5), (u9, v9)) as as.length).1.2.2) :: (Dh.pt e (.lst vs)) :: (Dh.dvs vs (as.map aD)) :: R) fun H => Q (.ref d) H)
theorem use_exchanged {L A0 A1 A2 A3 A4 : List Dh.HP} {Q : VK} {E : XK} {b : Addr} {e : Addr} {p5 : Addr} {p9 : Addr} {c5 : Addr} {c9 : Addr} {u5 : List Nat} {v5 : Nat} {u9 : List Nat} {v9 : Nat} {vs : List V} {as : List (Nat × Wh)} (q0 : Dh.Pick L (Dh.pt b (.lst [.ref p5, .ref p9])) A0) (q1 : Dh.Pick A0 (ChipAt C_Chip p5 5 c5 u5 v5) A1) (q2 : Dh.Pick A1 (ChipAt C_Chip p9 9 c9 u9 v9) A2) (q3 : Dh.Pick A2 (Dh.pt e (.lst vs)) A3) (q4 : Dh.Pick A3 (Dh.dvs vs (as.map aD)) A4) (h0 : as.length ≤ 3) (h1 : ∀ a ∈ as, a.2.ok) (k0 : ∀ (d : Addr) (ws : List V), Dh.Go T ((Dh.pt d (.tup ws)) :: (Dh.dvs ws ((exN ((u5, v5), (u9, v9)) as as.length).2.map pD)) :: (Dh.pt b (.lst [.ref p5, .ref p9])) :: (ChipAt C_Chip p5 5 c5 (exN ((u5, v5), (u9, v9)) as as.length).1.1.1 (exN ((u5, v5), (u9, v9)) as as.length).1.1.2) :: (ChipAt C_Chip p9 9 c9 (exN ((u5, v5), (u9, v9)) as as.length).1.2.1 (exN ((u5, v5), (u9, v9)) as as.length).1.2.2) :: (Dh.pt e (.lst vs)) :: (Dh.dvs vs (as.map aD)) :: A4) fun H => Q (.ref d) H) : Dh.Go T L fun H => Dh.sOfN T 2 (sg_exchanged T K C_Chip C_BadWord C_BadPlace C_BadPlan C_NotDue C_Stuck C_BadBits C_BadText C_TooLarge g_told) [.ref b, .ref e] H Q E := Dh.g_sp rfl ⟨b, e, p5, p9, c5, c9, u5, v5, u9, v9, vs, as, A4, rfl, (Dh.ent_cons q0 (Dh.ent_cons q1 (Dh.ent_cons q2 (Dh.ent_cons q3 (Dh.ent_cons q4 Dh.ent_refl))))), h0, h1, k0⟩
local macro_rules | `(tactic| kspl_open zz_use1) => `(tactic| ((with_reducible refine' Toy.use_exchanged ?q0 ?q1 ?q2 ?q3 ?q4 ?h0 ?h1 (fun _ _ => ?k0)); (case q0 => kspl_open zz_pk); (case q1 => kspl_open zz_pk); (case q2 => kspl_open zz_pk); (case q3 => kspl_open zz_pk); (case q4 => kspl_open zz_pk); (case h0 => kspl_open zz_side); (case h1 => kspl_open zz_side)))
set_option maxHeartbeats 8000000 in
theorem ok_exchanged (Z : Txt K mg C_Chip C_BadWord C_BadPlace C_BadPlan C_NotDue C_Stuck C_BadBits C_BadText C_TooLarge g_told) (c_Chip_give : Dh.MetX P w K mg base 1 C_Chip "give" (Dh.sOfN T 2 (sg_Chip_give T K C_Chip C_BadWord C_BadPlace C_BadPlan C_NotDue C_Stuck C_BadBits C_BadText C_TooLarge g_told))) (c_Chip_take : Dh.MetX P w K mg base 1 C_Chip "take" (Dh.sOfN T 2 (sg_Chip_take T K C_Chip C_BadWord C_BadPlace C_BadPlan C_NotDue C_Stuck C_BadBits C_BadText C_TooLarge g_told))) {f : Addr} {fd : FuncData} {cdv : Value} (F : Dh.FunC K "exchanged" "exchanged" s_exchanged f fd cdv) :
    FnOk P w K mg base (L2.CX P w) 2 f fd ["chips", "asks"] (Dh.sOfN T 2 (sg_exchanged T K C_Chip C_BadWord C_BadPlace C_BadPlan C_NotDue C_Stuck C_BadBits C_BadText C_TooLarge g_told)) := by
  refine Dh.fnX (k := 1) F sc_exchanged rfl (fun A outer s H0 L vs Q E hr hl h => ?_)
  refine ⟨_, (pss_cons (ps_set (i := 2) sc_exchanged.nd rfl (by first | exact Or.inl rfl | exact Or.inr rfl) (pe_lst pa_nil))
    (pss_cons (ps_for (passes_of rfl) rfl (Dh.piSeq (K := K) rfl (pv 1)) (Dh.pgTup (K := K) rfl rfl (pgs_cons (pg_name (i := 3) sc_exchanged.nd rfl (by first | exact Or.inl rfl | exact Or.inr rfl)) (pgs_cons (pg_name (i := 4) sc_exchanged.nd rfl (by first | exact Or.inl rfl | exact Or.inr rfl)) pgs_nil)) rfl rfl)
    (pss_cons (ps_setLc (i := 5) (own := [("one", 7)]) (g := (gName 7)) rfl sc_exchanged.nd rfl rfl (sw_true rfl rfl rfl (by decide +kernel)) (Dh.piSeq (K := K) rfl (pv 0)) (blkOk_by (own := [("one", 7)]) (N := N_exchanged) (by kernel_rfl)) (fun _ _ _ _ _ => (pg_name (i := 7) sc_exchanged.nd rfl (by first | exact Or.inl rfl | exact Or.inr rfl))) (fun _ _ _ _ _ => pts_one (pt_cmpR (Dh.oEq (K := K) rfl hr.units) (Dh.pe_fldC Z.c_Chip Z.n_Chip_place (pv 7)) (pv 3) (nomark _))) (fun _ _ _ _ _ => (pv 7)))
    (pss_one (ps_if (pt_cmpR (Dh.oEqW (K := K) rfl hr.units) (pv 5) (pe_lst pa_nil) (nomark _))
    (pss_one (ps_expr (pe_bm PySem.F.plainAttrs_list PySem.F.slot_list_append PySem.F.type_list_append mt_append (pv 2) (pa_cons (pe_tup (pa_cons (pv 3) (pa_cons (pe_callB (Dh.cIsi (K := K) rfl) (by rfl) Z.b_isinstance (by first | exact PySem.boot_isinstance | exact PyProof.Rows.boot_isinstance | decide +kernel) (pa_cons (pv 4) (pa_cons (pe_bltn (v := .ty "int") (by rfl) Z.b_int (by first | exact PySem.boot_int | exact PyProof.Rows.boot_int | decide +kernel) rfl) pa_nil))) (pa_cons pe_non pa_nil)))) pa_nil))))
    (pss_one (ps_if (Dh.ptTru (K := K) rfl (pe_callB (Dh.cIsi (K := K) rfl) (by rfl) Z.b_isinstance (by first | exact PySem.boot_isinstance | exact PyProof.Rows.boot_isinstance | decide +kernel) (pa_cons (pv 4) (pa_cons (pe_bltn (v := .ty "int") (by rfl) Z.b_int (by first | exact PySem.boot_int | exact PyProof.Rows.boot_int | decide +kernel) rfl) pa_nil))))
    (pss_cons (ps_set (i := 6) sc_exchanged.nd rfl (by first | exact Or.inl rfl | exact Or.inr rfl) (Dh.pe_met c_Chip_give hr (by decide) (passes_call (takes_of rfl rfl rfl rfl) (fun _ _ _ _ h => h)) (pe_ix (Dh.xSeq (K := K) rfl) (pv 5) pe_int (fun _ _ => rfl)) (pa_cons (pv 4) pa_nil)))
    (pss_one (ps_expr (pe_bm PySem.F.plainAttrs_list PySem.F.slot_list_append PySem.F.type_list_append mt_append (pv 2) (pa_cons (pe_tup (pa_cons (pv 3) (pa_cons pe_bl (pa_cons (pe_callTy (Dh.cTup (K := K) rfl) (by rfl) Z.b_tuple (by first | exact PySem.boot_tuple | exact PyProof.Rows.boot_tuple | decide +kernel) (pa_cons (pe_lc (own := [("k", 8), ("much", 9)]) (g := (gTup K 2 (gCons (gName 8) (gCons (gName 9) gNil)))) (tt := tYes) rfl sc_exchanged.nd (Dh.piEnumT (K := K) rfl (by rfl) Z.b_enumerate (pa_cons (pv 6) pa_nil)) (blkOk_by (own := [("k", 8), ("much", 9)]) (N := N_exchanged) (by kernel_rfl)) (fun _ _ _ _ _ => (Dh.pgTup (K := K) rfl rfl (pgs_cons (pg_name (i := 8) sc_exchanged.nd rfl (by first | exact Or.inl rfl | exact Or.inr rfl)) (pgs_cons (pg_name (i := 9) sc_exchanged.nd rfl (by first | exact Or.inl rfl | exact Or.inr rfl)) pgs_nil)) rfl rfl)) (fun _ _ _ _ _ => pts_nil) (fun _ _ _ _ _ => (pe_tup (pa_cons (pv 9) (pa_cons (pe_callTy Dh.call_intX (by rfl) Z.b_int (by first | exact PySem.boot_int | exact PyProof.Rows.boot_int | decide +kernel) (pa_cons (pe_cmpR (Dh.oEq (K := K) rfl hr.units) (pe_op (Dh.oAdd (K := K) rfl) (pv 8) pe_int) (pv 4) (nomark _)) pa_nil)) pa_nil))))) pa_nil)) pa_nil)))) pa_nil)))))
    (pss_one (ps_expr (pe_bm PySem.F.plainAttrs_list PySem.F.slot_list_append PySem.F.type_list_append mt_append (pv 2) (pa_cons (pe_tup (pa_cons (pv 3) (pa_cons pe_bl (pa_cons (Dh.peTupZip (K := K) rfl rfl (by rfl) Z.b_tuple (by rfl) Z.b_zip (pa_cons (pv 4) (pa_cons (Dh.pe_met c_Chip_take hr (by decide) (passes_call (takes_of rfl rfl rfl rfl) (fun _ _ _ _ h => h)) (pe_ix (Dh.xSeq (K := K) rfl) (pv 5) pe_int (fun _ _ => rfl)) (pa_cons (pv 4) pa_nil)) pa_nil))) pa_nil)))) pa_nil))))))))))
    (pss_one (ps_ret (pe_callTy (Dh.cTup (K := K) rfl) (by rfl) Z.b_tuple (by first | exact PySem.boot_tuple | exact PyProof.Rows.boot_tuple | decide +kernel) (pa_cons (pv 2) pa_nil)))))), ?_⟩
  try dsimp only [L2.cxOf, L2.Cx.blk, LamX.lamCx, L2.Cx.tr, L2.Cx.suite]
  obtain ⟨b, e, p5, p9, c5, c9, u5, v5, u9, v9, vs, as, R, rfl, hE, h0, h1, k0⟩ := h
  refine Dh.Go.ent hE ?_
  rw [show L2.start N_exchanged [.ref b, .ref e] = [some (.ref b), some (.ref e), none, none, none, none, none, none, none, none] from rfl]
  refine Dh.go_dvsLen (show Dh.Pick _ (Dh.dvs vs (as.map aD)) _ by kspl_open zz_pk) fun hvl => ?_
  rw [List.length_map] at hvl
  kspl_open zz_vc
  rename_i F
  refine Dh.g_forL (xs := vs) (fun i σ L => ∃ (w3 w4 w5 w6 w7 w8 w9 : Option V) (ws : List V) (z5 : List Nat) (y5 : Nat) (z9 : List Nat) (y9 : Nat) (rs : List Prt), exN ((u5, v5), (u9, v9)) as i = (((z5, y5), (z9, y9)), rs) ∧ σ = [some (.ref b), some (.ref e), some (.ref F), w3, w4, w5, w6, w7, w8, w9] ∧
    Dh.Ent L (Dh.pt F (.lst ws) :: Dh.dvs ws (rs.map pD) :: Dh.pt b (.lst [.ref p5, .ref p9]) :: ChipAt C_Chip p5 5 c5 z5 y5 :: ChipAt C_Chip p9 9 c9 z9 y9 :: Dh.pt e (.lst vs) :: Dh.dvs vs (as.map aD) :: R)) ⟨_, _, _, _, _, _, _, [], u5, v5, u9, v9, [], rfl, rfl, Dh.ent_cons (show Dh.Pick _ (Dh.pt F (.lst [])) _ by kspl_open zz_pk) (Dh.ent_dvs (vs := []) (ds := []) (fun _ _ => .nil) (by kspl_open zz_ent))⟩ ?_ ?_ ?_
  · rintro i σ L ⟨_, _, _, _, _, _, _, _, _, _, _, _, _, _, _, hE⟩
    exact ⟨_, fun H s => (show Dh.Pick _ (Dh.pt e (.lst vs)) _ by kspl_open zz_pk) H (hE H s)⟩
  · rintro i x σ L hx ⟨w3, w4, w5, w6, w7, w8, w9, ws, z5, y5, z9, y9, rs, hst, rfl, hE⟩
    have hi : i < as.length := by have := (List.getElem?_eq_some_iff.mp hx).1; omega
    obtain ⟨a, ha⟩ : ∃ a, as[i]? = some a := ⟨_, List.getElem?_eq_getElem hi⟩
    have hok := h1 a (List.mem_of_getElem? ha)
    have hrl := exN_len (s := ((u5, v5), (u9, v9))) (as := as) i
    have hga : as.getD i (0, .n 0) = a := by rw [List.getD_eq_getElem?_getD, ha]; rfl
    rw [hst] at hrl
    have hnx : exN ((u5, v5), (u9, v9)) as (i + 1) = ((ex1 ((z5, y5), (z9, y9)) a).1, rs ++ [(ex1 ((z5, y5), (z9, y9)) a).2]) := by
      show ((ex1 (exN _ as i).1 (as.getD i (0, .n 0))).1, (exN _ as i).2 ++ [(ex1 (exN _ as i).1 (as.getD i (0, .n 0))).2]) = _
      rw [hst, hga]
    refine Dh.Go.ent hE ?_
    refine Dh.go_dvsLen (show Dh.Pick _ (Dh.dvs ws (rs.map pD)) _ by kspl_open zz_pk) fun hwl => ?_
    rw [List.length_map] at hwl
    dsimp only at hrl
    have hwl3 : ws.length ≤ 3 := by omega
    refine Dh.go_dvsAt (k := i) (d := aD a) (show Dh.Pick _ (Dh.dvs vs (as.map aD)) _ by kspl_open zz_pk) (by rw [List.getElem?_map, ha]; rfl) fun y hy => ?_
    rw [hx] at hy
    cases hy
    obtain ⟨pl, w⟩ := a
    refine go_pair Dh.pick_here fun t z ez => ?_
    subst ez
    kspl_open zz_vc
    refine Dh.g_lcLp (us := [(p5, 5), (p9, 9)]) (gx := fun u : Addr × Nat => V.ref u.1) (fun u => decide (u.2 = pl)) (fun u => V.ref u.1) (show Dh.Pick _ (Dh.pt b (.lst [.ref p5, .ref p9])) _ by kspl_open zz_pk) Dh.ent_refl (fun D j u hu hp hf => ?_) (fun D => ?_)
    · have hj := (List.getElem?_eq_some_iff.mp hu).1
      have hu2 : u = (p5, 5) ∨ u = (p9, 9) := by simpa using List.mem_of_getElem? hu
      have hj2 : j < 2 := hj
      rcases hu2 with rfl | rfl
      · kspl_open zz_vc
        refine Dh.g_ifD (fun z => ?_) (fun z => ?_)
        · kspl_open zz_vc
          exact Dh.g_lcPutP (by rw [hp]; exact decide_eq_true (by injection z; omega)) (by kspl_open zz_pk) (by rw [PySem.sizeLine_eq]; omega) hf.symm (by kspl_open zz_ent)
        · exact Dh.g_lcKeepP (by rw [hp]; exact decide_eq_false (fun y => z (congrArg V.int (by omega)))) (by kspl_open zz_pk) (by kspl_open zz_ent)
      · kspl_open zz_vc
        refine Dh.g_ifD (fun z => ?_) (fun z => ?_)
        · kspl_open zz_vc
          exact Dh.g_lcPutP (by rw [hp]; exact decide_eq_true (by injection z; omega)) (by kspl_open zz_pk) (by rw [PySem.sizeLine_eq]; omega) hf.symm (by kspl_open zz_ent)
        · exact Dh.g_lcKeepP (by rw [hp]; exact decide_eq_false (fun y => z (congrArg V.int (by omega)))) (by kspl_open zz_pk) (by kspl_open zz_ent)
    by_cases n5 : pl = 5
    · subst n5
      refine Dh.Go.conv (P' := Dh.pt D (.lst [.ref p5])) Dh.pick_here (fun _ h => h) ?_
      cases w with
      | n k =>
        refine Dh.go_dvInt (show Dh.Pick _ (Dh.dv z (wD (.n k))) _ by kspl_open zz_pk) fun ez => ?_
        subst ez
        have hk3 : k ≤ 3 := hok
        have e0 : L2.atI [V.ref p5] 0 = some (.ref p5) := rfl
        have hgl := (giN_eq (s := (z5, y5)) k).2
        kspl_open zz_vc
        rename_i gd
        obtain ⟨gs, hgs⟩ : ∃ gs, gs = (giN (z5, y5) k).2 := ⟨_, rfl⟩
        have hrow : gRow (z5, y5) k = (List.range k).map fun j => (gs.getD j 0, if j + 1 = k then 1 else 0) := by rw [hgs]; rfl
        rw [← hgs] at hgl ⊢
        have w := Dh.walk_enumT (K := K) (a := gd) (xs := gs.map Dh.nI)
        rw [List.length_map, hgl] at w
        refine Dh.g_lcP (n := k) w (fun j acc L => acc.length = j ∧ Dh.Ent L (Dh.dvs acc (((gRow (z5, y5) k).take j).map Dh.dP) :: Dh.pt gd (.tup (gs.map Dh.nI)) :: ChipAt C_Chip p5 5 c5 (giN (z5, y5) k).1.1 (giN (z5, y5) k).1.2 :: ChipAt C_Chip p9 9 c9 z9 y9 :: Dh.pt F (.lst ws) :: Dh.dvs ws (rs.map pD) :: Dh.pt b (.lst [.ref p5, .ref p9]) :: Dh.pt e (.lst vs) :: Dh.dvs vs (as.map aD) :: R)) ⟨rfl, Dh.ent_dvs (vs := []) (ds := []) (fun _ _ => .nil) (by kspl_open zz_ent)⟩ (fun j acc L h H s => SqT.of (Dh.Pick.at (show Dh.Pick _ (Dh.pt gd (.tup (gs.map Dh.nI))) _ by kspl_open zz_pk) (h.2 H s))) (fun D2 j x y q acc L hj hx hy h => ?_) (fun D2 acc L h => ?_)
        · cases hx
          obtain ⟨m, hm, rfl⟩ := Dh.at_map hy
          obtain ⟨hal, hE3⟩ := h
          have hgm : gs.getD j 0 = m := by rw [List.getD_eq_getElem?_getD, hm]; rfl
          have hrj : (gRow (z5, y5) k).take (j + 1) = (gRow (z5, y5) k).take j ++ [(m, if j + 1 = k then 1 else 0)] := by
            rw [List.take_add_one, hrow, List.getElem?_map, List.getElem?_range hj, ← hgm]
            rfl
          refine Dh.Go.ent (Dh.ent_tail (Dh.ent_tail hE3)) ?_
          kspl_open zz_vc
          rename_i pq
          refine Dh.go_dvs (vs := acc ++ [.ref pq]) (ds := ((gRow (z5, y5) k).take (j + 1)).map Dh.dP) (fun H s => by
            rw [hrj, List.map_append]
            refine (Dh.Pick.dvs (by kspl_open zz_pk) s).app (.cons (Dh.dvPr m (if j + 1 = k then 1 else 0) (by kspl_open zz_pk) s rfl ?_) .nil)
            by_cases cj : j + 1 = k
            · rw [if_pos cj, if_pos (decide_eq_true (congrArg V.int (by omega)))]; rfl
            · rw [if_neg cj, if_neg (fun y => cj (by have y := of_decide_eq_true y; injection y; omega))]; rfl) ?_
          exact Dh.g_lcAdd (by kspl_open zz_pk) (by rw [hal, PySem.sizeLine_eq]; omega) ⟨by rw [List.length_append, hal]; rfl, by kspl_open zz_ent⟩
        · obtain ⟨hal, hE3⟩ := h
          rw [show (gRow (z5, y5) k).take k = gRow (z5, y5) k from List.take_of_length_le (by rw [hrow]; simp)] at hE3
          refine Dh.Go.ent (Dh.ent_tail hE3) ?_
          kspl_open zz_vc
          rename_i tq pq
          refine Dh.go_dvs (vs := ws ++ [.ref pq]) (ds := (rs ++ [(⟨5, true, some (gRow (z5, y5) k)⟩ : Prt)]).map pD) (fun H s => by
            rw [List.map_append]
            exact (Dh.Pick.dvs (by kspl_open zz_pk) s).app (.cons (.tup (Dh.Pick.at (show Dh.Pick _ (Dh.pt pq (.tup [.int ((5 : Nat) : Int), .bl true, .ref tq])) _ by kspl_open zz_pk) s) (.cons .int (.cons .bl (.cons (.tup (Dh.Pick.at (show Dh.Pick _ (Dh.pt tq (.tup acc)) _ by kspl_open zz_pk) s) (Dh.Pick.dvs (by kspl_open zz_pk) s)) .nil)))) .nil)) ?_
          exact Dh.SI.in ⟨_, _, _, _, _, _, _, ws ++ [.ref pq], (giN (z5, y5) k).1.1, (giN (z5, y5) k).1.2, z9, y9, rs ++ [⟨5, true, some (gRow (z5, y5) k)⟩], by rw [hnx]; rfl, rfl, by kspl_open zz_ent⟩
      | l us =>
        refine go_tN (show Dh.Pick _ (Dh.dv z (Dh.tN us)) _ by kspl_open zz_pk) fun q ez => ?_
        subst ez
        have hk3 : us.length ≤ 3 := hok
        have e0 : L2.atI [V.ref p5] 0 = some (.ref p5) := rfl
        have htl := (tkN_len (s := (z5, y5)) (us := us) us.length).2
        kspl_open zz_vc
        rename_i gd tq tvs pq
        refine Dh.go_dvs (vs := ws ++ [.ref pq]) (ds := (rs ++ [(⟨5, false, some (us.zip (tkN (z5, y5) us us.length).2)⟩ : Prt)]).map pD) (fun H s => by
          rw [List.map_append]
          exact (Dh.Pick.dvs (by kspl_open zz_pk) s).app (.cons (.tup (Dh.Pick.at (show Dh.Pick _ (Dh.pt pq (.tup [.int ((5 : Nat) : Int), .bl false, .ref tq])) _ by kspl_open zz_pk) s) (.cons .int (.cons .bl (.cons (.tup (Dh.Pick.at (show Dh.Pick _ (Dh.pt tq (.tup tvs)) _ by kspl_open zz_pk) s) (Dh.Pick.dvs (by kspl_open zz_pk) s)) .nil)))) .nil)) ?_
        exact Dh.SI.in ⟨_, _, _, _, _, _, _, ws ++ [.ref pq], (tkN (z5, y5) us us.length).1.1, (tkN (z5, y5) us us.length).1.2, z9, y9, rs ++ [⟨5, false, some (us.zip (tkN (z5, y5) us us.length).2)⟩], by rw [hnx]; rfl, rfl, by kspl_open zz_ent⟩
    by_cases n9 : pl = 9
    · subst n9
      refine Dh.Go.conv (P' := Dh.pt D (.lst [.ref p9])) Dh.pick_here (fun _ h => h) ?_
      cases w with
      | n k =>
        refine Dh.go_dvInt (show Dh.Pick _ (Dh.dv z (wD (.n k))) _ by kspl_open zz_pk) fun ez => ?_
        subst ez
        have hk3 : k ≤ 3 := hok
        have e0 : L2.atI [V.ref p9] 0 = some (.ref p9) := rfl
        have hgl := (giN_eq (s := (z9, y9)) k).2
        kspl_open zz_vc
        rename_i gd
        obtain ⟨gs, hgs⟩ : ∃ gs, gs = (giN (z9, y9) k).2 := ⟨_, rfl⟩
        have hrow : gRow (z9, y9) k = (List.range k).map fun j => (gs.getD j 0, if j + 1 = k then 1 else 0) := by rw [hgs]; rfl
        rw [← hgs] at hgl ⊢
        have w := Dh.walk_enumT (K := K) (a := gd) (xs := gs.map Dh.nI)
        rw [List.length_map, hgl] at w
        refine Dh.g_lcP (n := k) w (fun j acc L => acc.length = j ∧ Dh.Ent L (Dh.dvs acc (((gRow (z9, y9) k).take j).map Dh.dP) :: Dh.pt gd (.tup (gs.map Dh.nI)) :: ChipAt C_Chip p5 5 c5 z5 y5 :: ChipAt C_Chip p9 9 c9 (giN (z9, y9) k).1.1 (giN (z9, y9) k).1.2 :: Dh.pt F (.lst ws) :: Dh.dvs ws (rs.map pD) :: Dh.pt b (.lst [.ref p5, .ref p9]) :: Dh.pt e (.lst vs) :: Dh.dvs vs (as.map aD) :: R)) ⟨rfl, Dh.ent_dvs (vs := []) (ds := []) (fun _ _ => .nil) (by kspl_open zz_ent)⟩ (fun j acc L h H s => SqT.of (Dh.Pick.at (show Dh.Pick _ (Dh.pt gd (.tup (gs.map Dh.nI))) _ by kspl_open zz_pk) (h.2 H s))) (fun D2 j x y q acc L hj hx hy h => ?_) (fun D2 acc L h => ?_)
        · cases hx
          obtain ⟨m, hm, rfl⟩ := Dh.at_map hy
          obtain ⟨hal, hE3⟩ := h
          have hgm : gs.getD j 0 = m := by rw [List.getD_eq_getElem?_getD, hm]; rfl
          have hrj : (gRow (z9, y9) k).take (j + 1) = (gRow (z9, y9) k).take j ++ [(m, if j + 1 = k then 1 else 0)] := by
            rw [List.take_add_one, hrow, List.getElem?_map, List.getElem?_range hj, ← hgm]
            rfl
          refine Dh.Go.ent (Dh.ent_tail (Dh.ent_tail hE3)) ?_
          kspl_open zz_vc
          rename_i pq
          refine Dh.go_dvs (vs := acc ++ [.ref pq]) (ds := ((gRow (z9, y9) k).take (j + 1)).map Dh.dP) (fun H s => by
            rw [hrj, List.map_append]
            refine (Dh.Pick.dvs (by kspl_open zz_pk) s).app (.cons (Dh.dvPr m (if j + 1 = k then 1 else 0) (by kspl_open zz_pk) s rfl ?_) .nil)
            by_cases cj : j + 1 = k
            · rw [if_pos cj, if_pos (decide_eq_true (congrArg V.int (by omega)))]; rfl
            · rw [if_neg cj, if_neg (fun y => cj (by have y := of_decide_eq_true y; injection y; omega))]; rfl) ?_
          exact Dh.g_lcAdd (by kspl_open zz_pk) (by rw [hal, PySem.sizeLine_eq]; omega) ⟨by rw [List.length_append, hal]; rfl, by kspl_open zz_ent⟩
        · obtain ⟨hal, hE3⟩ := h
          rw [show (gRow (z9, y9) k).take k = gRow (z9, y9) k from List.take_of_length_le (by rw [hrow]; simp)] at hE3
          refine Dh.Go.ent (Dh.ent_tail hE3) ?_
          kspl_open zz_vc
          rename_i tq pq
          refine Dh.go_dvs (vs := ws ++ [.ref pq]) (ds := (rs ++ [(⟨9, true, some (gRow (z9, y9) k)⟩ : Prt)]).map pD) (fun H s => by
            rw [List.map_append]
            exact (Dh.Pick.dvs (by kspl_open zz_pk) s).app (.cons (.tup (Dh.Pick.at (show Dh.Pick _ (Dh.pt pq (.tup [.int ((9 : Nat) : Int), .bl true, .ref tq])) _ by kspl_open zz_pk) s) (.cons .int (.cons .bl (.cons (.tup (Dh.Pick.at (show Dh.Pick _ (Dh.pt tq (.tup acc)) _ by kspl_open zz_pk) s) (Dh.Pick.dvs (by kspl_open zz_pk) s)) .nil)))) .nil)) ?_
          exact Dh.SI.in ⟨_, _, _, _, _, _, _, ws ++ [.ref pq], z5, y5, (giN (z9, y9) k).1.1, (giN (z9, y9) k).1.2, rs ++ [⟨9, true, some (gRow (z9, y9) k)⟩], by rw [hnx]; rfl, rfl, by kspl_open zz_ent⟩
      | l us =>
        refine go_tN (show Dh.Pick _ (Dh.dv z (Dh.tN us)) _ by kspl_open zz_pk) fun q ez => ?_
        subst ez
        have hk3 : us.length ≤ 3 := hok
        have e0 : L2.atI [V.ref p9] 0 = some (.ref p9) := rfl
        have htl := (tkN_len (s := (z9, y9)) (us := us) us.length).2
        kspl_open zz_vc
        rename_i gd tq tvs pq
        refine Dh.go_dvs (vs := ws ++ [.ref pq]) (ds := (rs ++ [(⟨9, false, some (us.zip (tkN (z9, y9) us us.length).2)⟩ : Prt)]).map pD) (fun H s => by
          rw [List.map_append]
          exact (Dh.Pick.dvs (by kspl_open zz_pk) s).app (.cons (.tup (Dh.Pick.at (show Dh.Pick _ (Dh.pt pq (.tup [.int ((9 : Nat) : Int), .bl false, .ref tq])) _ by kspl_open zz_pk) s) (.cons .int (.cons .bl (.cons (.tup (Dh.Pick.at (show Dh.Pick _ (Dh.pt tq (.tup tvs)) _ by kspl_open zz_pk) s) (Dh.Pick.dvs (by kspl_open zz_pk) s)) .nil)))) .nil)) ?_
        exact Dh.SI.in ⟨_, _, _, _, _, _, _, ws ++ [.ref pq], z5, y5, (tkN (z9, y9) us us.length).1.1, (tkN (z9, y9) us us.length).1.2, rs ++ [⟨9, false, some (us.zip (tkN (z9, y9) us us.length).2)⟩], by rw [hnx]; rfl, rfl, by kspl_open zz_ent⟩
    have hex : ex1 ((z5, y5), (z9, y9)) (pl, w) = (((z5, y5), (z9, y9)), ⟨pl, w.isN, none⟩) := by
      unfold ex1
      rw [if_neg n5, if_neg n9]
    rw [hex] at hnx
    refine Dh.Go.conv (P' := Dh.pt D (.lst [])) Dh.pick_here (fun _ h => by
      rw [List.filter_cons_of_neg (by simp; omega), List.filter_cons_of_neg (by simp; omega)] at h
      exact h) ?_
    cases w with
    | n k =>
      refine Dh.go_dvInt (show Dh.Pick _ (Dh.dv z (wD (.n k))) _ by kspl_open zz_pk) fun ez => ?_
      subst ez
      kspl_open zz_vc
      rename_i pq
      refine Dh.go_dvs (vs := ws ++ [.ref pq]) (ds := (rs ++ [(⟨pl, true, none⟩ : Prt)]).map pD) (fun H s => by
        rw [List.map_append]
        exact (Dh.Pick.dvs (by kspl_open zz_pk) s).app (.cons (.tup (Dh.Pick.at (show Dh.Pick _ (Dh.pt pq (.tup [.int (pl : Int), .bl true, .non])) _ by kspl_open zz_pk) s) (.cons .int (.cons .bl (.cons .non .nil)))) .nil)) ?_
      exact Dh.SI.in ⟨_, _, _, _, _, _, _, ws ++ [.ref pq], z5, y5, z9, y9, rs ++ [⟨pl, true, none⟩], hnx, rfl, by kspl_open zz_ent⟩
    | l us =>
      refine go_tN (show Dh.Pick _ (Dh.dv z (Dh.tN us)) _ by kspl_open zz_pk) fun q ez => ?_
      subst ez
      kspl_open zz_vc
      rename_i pq
      refine Dh.go_dvs (vs := ws ++ [.ref pq]) (ds := (rs ++ [(⟨pl, false, none⟩ : Prt)]).map pD) (fun H s => by
        rw [List.map_append]
        exact (Dh.Pick.dvs (by kspl_open zz_pk) s).app (.cons (.tup (Dh.Pick.at (show Dh.Pick _ (Dh.pt pq (.tup [.int (pl : Int), .bl false, .non])) _ by kspl_open zz_pk) s) (.cons .int (.cons .bl (.cons .non .nil)))) .nil)) ?_
      exact Dh.SI.in ⟨_, _, _, _, _, _, _, ws ++ [.ref pq], z5, y5, z9, y9, rs ++ [⟨pl, false, none⟩], hnx, rfl, by kspl_open zz_ent⟩
  · rintro σ L ⟨w3, w4, w5, w6, w7, w8, w9, ws, z5, y5, z9, y9, rs, hst, rfl, hE⟩
    refine Dh.Go.ent hE ?_
    rw [hvl] at hst
    kspl_open zz_vc
    rename_i d
    have k0 := k0 d ws
    rw [hst] at k0
    exact Dh.Go.ent (Dh.ent_tail (by kspl_open zz_ent)) k0
end
end Toy
end

section
local macro_rules | `(tactic| kspl_open zz_ent1) => `(tactic| first | (with_reducible exact Dh.ent_refl) | (with_reducible exact Dh.ent_nil) | (refine' Dh.ent_cons ?q0 ?k; (case q0 => kspl_open zz_pk)) | (with_reducible refine' Toy.ent_ChipAt ?k) | (refine' Dh.ent_drop ?k))
local macro_rules | `(tactic| kspl_open zz_hasm) => `(tactic| first | (refine' Toy.hasM_ChipAt ?q0 ?q1; (case q0 => kspl_open zz_pk); (case q1 => (intros; kspl_open zz_lk))) | (refine' Dh.hasM_ob ?q0 ?q1; (case q0 => kspl_open zz_pk); (case q1 => kspl_open zz_lk)))
local macro_rules | `(tactic| kspl_open zz_open1) => `(tactic| first  | (with_reducible refine' Toy.of_ChipAt ?q0 ?k; (case q0 => kspl_open zz_pk); intros) | (with_reducible refine' Toy.sf_ChipAt ?q0 ?k; (case q0 => kspl_open zz_pk); intros) | (with_reducible refine' Toy.au_ChipAt ?q0 ?k; (case q0 => kspl_open zz_pk); intros))
local macro_rules | `(tactic| kspl_open zz_vc1) => `(tactic| first | ((refine' Dh.wk1 ?k); (repeat (with_reducible intro _))) | kspl_open zz_vcp0 | kspl_open zz_vcp1 | kspl_open zz_vcp2 | kspl_open zz_vcp3 | kspl_open zz_vcp4 | kspl_open zz_vcp5 | kspl_open zz_vcp6 | kspl_open zz_vcp7 | kspl_open zz_vcp8 | kspl_open zz_vcp9 | kspl_open zz_vcp10 | kspl_open zz_use1 | kspl_open zz_told1 | kspl_open zz_open1)
local macro_rules | `(tactic| kspl_open zz_use1) => `(tactic| ((with_reducible refine' Toy.use_law_dice (fun _ _ _ _ => ?k0))))
local macro_rules | `(tactic| kspl_open zz_use1) => `(tactic| ((with_reducible refine' Toy.use_law_roll ?q0 ?h0 ?h1 (fun _ _ => ?k0)); (case q0 => kspl_open zz_pk); (case h0 => kspl_open zz_side); (case h1 => kspl_open zz_side)))
local macro_rules | `(tactic| kspl_open zz_use1) => `(tactic| ((with_reducible refine' Toy.use_begin (fun _ _ => ?k0))))
local macro_rules | `(tactic| kspl_open zz_use1) => `(tactic| ((with_reducible refine' Toy.use_end (fun _ _ => ?k0))))
local macro_rules | `(tactic| kspl_open zz_use1) => `(tactic| ((with_reducible refine' Toy.use_bit (fun _ _ => ?k0))))
local macro_rules | `(tactic| kspl_open zz_use1) => `(tactic| ((with_reducible refine' Toy.use_raised_two ?h0 ?k0); (case h0 => kspl_open zz_side)))
local macro_rules | `(tactic| kspl_open zz_use1) => `(tactic| ((with_reducible refine' Toy.use_octet ?h0 (fun _ _ => ?k0)); (case h0 => kspl_open zz_side)))
local macro_rules | `(tactic| kspl_open zz_use) => `(tactic| ((with_reducible refine' Toy.use_said ?q0 ?q1 ?h0 ?h1 (fun _ _ _ => ?k0) (fun _ => ?k1)); (case q0 => kspl_open zz_pk); (case q1 => kspl_open zz_pk); (case h0 => kspl_open zz_side); (case h1 => kspl_open zz_side)))
local macro_rules | `(tactic| kspl_open zz_use) => `(tactic| ((with_reducible refine' Toy.use_heard_on ?q0 ?q1 ?h0 ?h1 ?h2 (fun _ _ _ _ _ => ?k0) (fun _ _ => ?k1)); (case q0 => kspl_open zz_pk); (case q1 => kspl_open zz_pk); (case h0 => kspl_open zz_side); (case h1 => kspl_open zz_side); (case h2 => kspl_open zz_side)))
local macro_rules | `(tactic| kspl_open zz_use) => `(tactic| ((with_reducible refine' Toy.use_parts_of ?q0 ?q1 ?h0 (fun _ _ _ _ _ => ?k0) (fun _ _ => ?k1)); (case q0 => kspl_open zz_pk); (case q1 => kspl_open zz_pk); (case h0 => kspl_open zz_side)))
local macro_rules | `(tactic| kspl_open zz_use1) => `(tactic| ((with_reducible refine' Toy.use_Chip___init__ ?q0 ?h0 (fun _ => ?k0)); (case q0 => kspl_open zz_pk); (case h0 => kspl_open zz_side)))
local macro_rules | `(tactic| kspl_open zz_use1) => `(tactic| ((with_reducible refine' Toy.use_Chip_give ?q0 ?h0 (fun _ => ?k0)); (case q0 => kspl_open zz_pk); (case h0 => kspl_open zz_side)))
local macro_rules | `(tactic| kspl_open zz_use1) => `(tactic| ((with_reducible refine' Toy.use_Chip_take ?q0 ?q1 ?h0 (fun _ => ?k0)); (case q0 => kspl_open zz_pk); (case q1 => kspl_open zz_pk); (case h0 => kspl_open zz_side)))
local macro_rules | `(tactic| kspl_open zz_use1) => `(tactic| ((with_reducible refine' Toy.use_exchanged ?q0 ?q1 ?q2 ?q3 ?q4 ?h0 ?h1 (fun _ _ => ?k0)); (case q0 => kspl_open zz_pk); (case q1 => kspl_open zz_pk); (case q2 => kspl_open zz_pk); (case q3 => kspl_open zz_pk); (case q4 => kspl_open zz_pk); (case h0 => kspl_open zz_side); (case h1 => kspl_open zz_side)))

namespace Toy
open PySem L2
section
variable {P : Program} {w : World} {K : PySem.W.Frag} {mg : Str → Option Value} {base : Heap} {T : List (Addr × Str)} {C_Chip C_BadWord C_BadPlace C_BadPlan C_NotDue C_Stuck C_BadBits C_BadText C_TooLarge g_told : Addr}
theorem lx_self : ∀ u : List Nat, Dh.lxN u u = false
  | [] => rfl
  | x :: u => by unfold Dh.lxN; rw [if_pos rfl]; exact lx_self u
theorem lx_tri : ∀ u w : List Nat, u.length = w.length → Dh.lxN u w = false → Dh.lxN w u = false → u = w
  | [], [], _, _, _ => rfl
  | [], _ :: _, h, _, _ => by simp at h
  | _ :: _, [], h, _, _ => by simp at h
  | x :: u, y :: w, h, a, b => by
    unfold Dh.lxN at a b
    by_cases e : x = y
    · subst e
      rw [if_pos rfl] at a b
      rw [lx_tri u w (by simpa using h) a b]
    · rw [if_neg e] at a
      rw [if_neg (fun z => e z.symm)] at b
      have := of_decide_eq_false a
      have := of_decide_eq_false b
      omega
theorem lx_asym : ∀ u w : List Nat, Dh.lxN u w = true → Dh.lxN w u = false
  | [], [], h => rfl
  | [], _ :: _, h => rfl
  | _ :: _, [], h => by simp [Dh.lxN] at h
  | x :: u, y :: w, h => by
    unfold Dh.lxN at h ⊢
    by_cases e : x = y
    · subst e
      rw [if_pos rfl] at h ⊢
      exact lx_asym u w h
    · rw [if_neg e] at h
      rw [if_neg (fun z => e z.symm)]
      have := of_decide_eq_true h
      exact decide_eq_false (by omega)
theorem lx_ntr : ∀ a b c : List Nat, a.length = b.length → b.length = c.length → Dh.lxN a b = false → Dh.lxN b c = false → Dh.lxN a c = false
  | [], [], [], _, _, _, _ => rfl
  | [], _ :: _, _, h, _, _, _ => by simp at h
  | _ :: _, [], _, h, _, _, _ => by simp at h
  | _, [], _ :: _, _, h, _, _ => by simp at h
  | _, _ :: _, [], _, h, _, _ => by simp at h
  | x :: a, y :: b, z :: c, h1, h2, p, q => by
    unfold Dh.lxN at p q ⊢
    by_cases e1 : x = y
    · subst e1
      rw [if_pos rfl] at p
      by_cases e2 : x = z
      · subst e2
        rw [if_pos rfl] at q ⊢
        exact lx_ntr a b c (by simpa using h1) (by simpa using h2) p q
      · rw [if_neg e2] at q ⊢
        exact q
    · rw [if_neg e1] at p
      have p := of_decide_eq_false p
      by_cases e2 : y = z
      · subst e2
        rw [if_neg e1]
        exact decide_eq_false p
      · rw [if_neg e2] at q
        have q := of_decide_eq_false q
        rw [if_neg (by omega)]
        exact decide_eq_false (by omega)
theorem lx_app : ∀ u w : List Nat, u.length = w.length → ∀ x y : Nat, Dh.lxN (u ++ [x]) (w ++ [y]) = (Dh.lxN u w || (decide (u = w) && decide (x < y)))
  | [], [], _, x, y => by
    show Dh.lxN [x] [y] = _
    unfold Dh.lxN
    by_cases e : x = y
    · subst e; simp [Dh.lxN]
    · rw [if_neg e]; simp [Dh.lxN]
  | [], _ :: _, h, _, _ => by simp at h
  | _ :: _, [], h, _, _ => by simp at h
  | a :: u, b :: w, h, x, y => by
    rw [List.cons_append, List.cons_append]
    by_cases e : a = b
    · subst e
      show (if a = a then Dh.lxN (u ++ [x]) (w ++ [y]) else _) = ((if a = a then Dh.lxN u w else _) || _)
      rw [if_pos rfl, if_pos rfl, lx_app u w (by simpa using h)]
      simp
    · show (if a = b then Dh.lxN (u ++ [x]) (w ++ [y]) else decide (a < b)) = ((if a = b then Dh.lxN u w else decide (a < b)) || _)
      rw [if_neg e, if_neg e]
      simp [e]
theorem minR_ok {n : Nat} : ∀ (xs : List (List Nat)) (x : List Nat), x.length = n → (∀ y ∈ xs, y.length = n) → Dh.minR x xs ∈ x :: xs ∧ ∀ y ∈ x :: xs, Dh.lxN y (Dh.minR x xs) = false
  | [], x, _, _ => ⟨List.mem_cons_self .., fun y hy => by rw [List.mem_singleton.mp hy]; exact lx_self x⟩
  | z :: xs, x, hx, h => by
    have hz := h z (List.mem_cons_self ..)
    have e : Dh.minR x (z :: xs) = Dh.minR (if Dh.lxN z x = true then z else x) xs := rfl
    rw [e]
    have hv : (if Dh.lxN z x = true then z else x).length = n := by split <;> assumption
    obtain ⟨m, le⟩ := minR_ok xs (if Dh.lxN z x = true then z else x) hv fun y hy => h y (List.mem_cons_of_mem _ hy)
    have hml : (Dh.minR (if Dh.lxN z x = true then z else x) xs).length = n := by
      rcases List.mem_cons.mp m with m | m
      · rw [m]; exact hv
      · exact h _ (List.mem_cons_of_mem _ m)
    refine ⟨?_, fun y hy => ?_⟩
    · rcases List.mem_cons.mp m with m | m
      · rw [m]
        split
        · simp
        · simp
      · exact List.mem_cons_of_mem _ (List.mem_cons_of_mem _ m)
    · have l0 := le _ (List.mem_cons_self ..)
      rcases List.mem_cons.mp hy with rfl | hy
      · refine lx_ntr _ _ _ (hx.trans hv.symm) (hv.trans hml.symm) ?_ l0
        split
        · rename_i q; exact lx_asym _ _ q
        · exact lx_self _
      · rcases List.mem_cons.mp hy with rfl | hy
        · refine lx_ntr _ _ _ (hz.trans hv.symm) (hv.trans hml.symm) ?_ l0
          split
          · exact lx_self _
          · rename_i q; exact Bool.eq_false_iff.mpr q
        · exact le y (List.mem_cons_of_mem _ hy)
/-- the levels on the wire -/
def wbit (us : List (List Nat)) (k j : Nat) : Nat := (us.getD j []).getD k 0
def wmin : List Nat → Nat
  | [] => 0
  | x :: xs => xs.foldl min x
def wL (us : List (List Nat)) : Nat → List Nat × List Nat
  | 0 => (List.range us.length, [])
  | k + 1 => ((wL us k).1.filter fun j => decide (wbit us k j = wmin ((wL us k).1.map (wbit us k))), (wL us k).2 ++ [wmin ((wL us k).1.map (wbit us k))])
theorem fold_min : ∀ (xs : List Nat) (x : Nat), xs.foldl min x ∈ x :: xs ∧ ∀ y ∈ x :: xs, xs.foldl min x ≤ y
  | [], x => ⟨List.mem_cons_self .., fun y hy => by rw [List.mem_singleton.mp hy]; exact Nat.le_refl _⟩
  | z :: xs, x => by
    obtain ⟨m, l⟩ := fold_min xs (min x z)
    rw [List.foldl_cons]
    refine ⟨?_, fun y hy => ?_⟩
    · rcases List.mem_cons.mp m with m | m
      · rw [m]
        rcases Nat.le_total x z with q | q
        · rw [Nat.min_eq_left q]; simp
        · rw [Nat.min_eq_right q]; simp
      · exact List.mem_cons_of_mem _ (List.mem_cons_of_mem _ m)
    · have l0 := l _ (List.mem_cons_self ..)
      rcases List.mem_cons.mp hy with rfl | hy
      · omega
      · rcases List.mem_cons.mp hy with rfl | hy
        · omega
        · exact l y (List.mem_cons_of_mem _ hy)
theorem wmin_ok {l : List Nat} (h : l ≠ []) : wmin l ∈ l ∧ ∀ y ∈ l, wmin l ≤ y := by
  cases l with
  | nil => exact absurd rfl h
  | cons x xs => exact fold_min xs x
theorem wL_len (us : List (List Nat)) : ∀ k, (wL us k).2.length = k
  | 0 => rfl
  | k + 1 => by show (_ ++ [_]).length = _; rw [List.length_append, wL_len us k]; rfl
theorem wL_ok {us : List (List Nat)} {n : Nat} (hu : us ≠ []) (hl : ∀ u ∈ us, u.length = n) : ∀ k, k ≤ n →
    (wL us k).1 = ((List.range us.length).filter fun j => decide ((us.getD j []).take k = (wL us k).2)) ∧ (wL us k).1 ≠ [] ∧ ∀ u ∈ us, Dh.lxN (u.take k) (wL us k).2 = false
  | 0, _ => by
    refine ⟨?_, ?_, fun u hu => by show Dh.lxN (u.take 0) [] = false; rw [List.take_zero]; rfl⟩
    · show List.range us.length = _
      rw [List.filter_eq_self.mpr]
      intro j _
      exact decide_eq_true rfl
    · show List.range us.length ≠ []
      rw [Ne, List.range_eq_nil]
      intro z
      exact hu (List.length_eq_zero_iff.mp z)
  | k + 1, hk => by
    obtain ⟨e1, e2, e3⟩ := wL_ok hu hl k (by omega)
    have hk2 := wL_len us k
    have hne : (wL us k).1.map (wbit us k) ≠ [] := by simpa using e2
    obtain ⟨m1, m2⟩ := wmin_ok hne
    have s1 : (wL us (k + 1)).1 = (wL us k).1.filter fun j => decide (wbit us k j = wmin ((wL us k).1.map (wbit us k))) := rfl
    have s2 : (wL us (k + 1)).2 = (wL us k).2 ++ [wmin ((wL us k).1.map (wbit us k))] := rfl
    generalize wmin ((wL us k).1.map (wbit us k)) = low at m1 m2 s1 s2
    rw [s1, s2]
    have tk : ∀ j, j < us.length → (us.getD j []).take (k + 1) = (us.getD j []).take k ++ [wbit us k j] ∧ ((us.getD j []).take k).length = k := by
      intro j hj
      have g : us.getD j [] = us[j] := by rw [List.getD_eq_getElem?_getD, List.getElem?_eq_getElem hj]; rfl
      have hjl := hl us[j] (List.getElem_mem hj)
      unfold wbit
      rw [g]
      refine ⟨?_, by rw [List.length_take]; omega⟩
      rw [List.take_add_one, List.getElem?_eq_getElem (by omega), List.getD_eq_getElem?_getD, List.getElem?_eq_getElem (by omega)]
      rfl
    refine ⟨?_, ?_, ?_⟩
    · rw [e1, List.filter_filter]
      refine List.filter_congr fun j hj => ?_
      obtain ⟨t1, t2⟩ := tk j (List.mem_range.mp hj)
      rw [t1]
      have : ((us.getD j []).take k ++ [wbit us k j] = (wL us k).2 ++ [low]) ↔ ((us.getD j []).take k = (wL us k).2 ∧ wbit us k j = low) := by
        constructor
        · intro z
          have := List.append_inj z (by rw [t2, hk2])
          exact ⟨this.1, by simpa using this.2⟩
        · rintro ⟨a, b⟩; rw [a, b]
      by_cases c1 : (us.getD j []).take k = (wL us k).2
      · by_cases c2 : wbit us k j = low
        · rw [decide_eq_true c1, decide_eq_true c2, decide_eq_true (this.mpr ⟨c1, c2⟩)]; rfl
        · rw [decide_eq_true c1, decide_eq_false c2, decide_eq_false (fun z => c2 (this.mp z).2)]; rfl
      · rw [decide_eq_false c1, decide_eq_false (fun z => c1 (this.mp z).1), Bool.and_false]
    · obtain ⟨j, hj, hjb⟩ := List.mem_map.mp m1
      intro z
      have : j ∈ (wL us k).1.filter fun j => decide (wbit us k j = low) := List.mem_filter.mpr ⟨hj, decide_eq_true hjb⟩
      rw [z] at this
      exact absurd this List.not_mem_nil
    · intro u hu
      obtain ⟨j, hj, rfl⟩ := List.mem_iff_getElem.mp hu
      have g : us.getD j [] = us[j] := by rw [List.getD_eq_getElem?_getD, List.getElem?_eq_getElem hj]; rfl
      obtain ⟨t1, t2⟩ := tk j hj
      have q := e3 _ hu
      rw [g] at t1 t2
      rw [t1, lx_app _ _ (by rw [t2, hk2]), q, Bool.false_or]
      by_cases c : us[j].take k = (wL us k).2
      · have hm : j ∈ (wL us k).1 := by rw [e1]; exact List.mem_filter.mpr ⟨List.mem_range.mpr hj, by rw [g]; exact decide_eq_true c⟩
        have := m2 _ (List.mem_map_of_mem hm)
        rw [decide_eq_false (show ¬ wbit us k j < low by omega), Bool.and_false]
      · rw [decide_eq_false c, Bool.false_and]
/-- what wins is the least -/
theorem won_law {r : List Nat} {rs : List (List Nat)} {n : Nat} (hl : ∀ u ∈ r :: rs, u.length = n) :
    (wL (r :: rs) n).2 = Dh.minR r rs ∧ (wL (r :: rs) n).1 = (List.range (r :: rs).length).filter fun j => decide ((r :: rs).getD j [] = Dh.minR r rs) := by
  obtain ⟨e1, e2, e3⟩ := wL_ok (us := r :: rs) (by simp) hl n (Nat.le_refl _)
  obtain ⟨m1, m2⟩ := minR_ok rs r (hl r (List.mem_cons_self ..)) fun y hy => hl y (List.mem_cons_of_mem _ hy)
  have wl := wL_len (r :: rs) n
  have ml := hl _ m1
  obtain ⟨j, hj⟩ := List.exists_mem_of_ne_nil _ e2
  rw [e1] at hj
  obtain ⟨hj1, hj2⟩ := List.mem_filter.mp hj
  have hj1 := List.mem_range.mp hj1
  have hj2 := of_decide_eq_true hj2
  have g : ∀ j (hj : j < (r :: rs).length), (r :: rs).getD j [] = (r :: rs)[j] := fun j hj => by rw [List.getD_eq_getElem?_getD, List.getElem?_eq_getElem hj]; rfl
  have tk : ∀ u ∈ r :: rs, u.take n = u := fun u hu => List.take_of_length_le (Nat.le_of_eq (hl u hu))
  rw [g j hj1, tk _ (List.getElem_mem hj1)] at hj2
  have e : (wL (r :: rs) n).2 = Dh.minR r rs := by
    refine lx_tri _ _ (wl.trans ml.symm) ?_ ?_
    · rw [← hj2]; exact m2 _ (List.getElem_mem hj1)
    · have := e3 _ m1
      rwa [tk _ m1] at this
  refine ⟨e, ?_⟩
  rw [e1]
  refine List.filter_congr fun i hi => ?_
  have hi := List.mem_range.mp hi
  rw [g i hi, tk _ (List.getElem_mem hi), e]
theorem hrun_app : ∀ (a b : List (Nat × Nat)) (s : Hs), hrun s (a ++ b) = (hrun s a).bind fun s' => hrun s' b
  | [], _, _ => rfl
  | p :: a, b, s => by
    rw [List.cons_append, hrun_cons, hrun_cons]
    cases hs1 s p with
    | none => rfl
    | some s' => exact hrun_app a b s'
theorem hs1_low {s : Hs} {m : Nat} : hs1 s (0, m) = some ⟨s.rows, s.bits, (0, m), s.bg⟩ := by
  unfold hs1
  rw [if_neg (fun z => absurd z.2.1 (fun y => nomatch y)), if_neg (fun z => absurd z.2.1 (fun y => nomatch y))]
theorem hs1_up {r : List Rw} {us : List Nat} {m d : Nat} : hs1 ⟨r, us, (0, d), true⟩ (1, m) = if us.length + 1 = 9 then some ⟨r ++ [.oct (byt (us ++ [m])) m], [], (1, m), true⟩ else some ⟨r, us ++ [m], (1, m), true⟩ := by
  conv => lhs; unfold hs1
  rw [if_neg (fun z => absurd z.1 (fun y => nomatch y)), if_pos ⟨rfl, rfl, rfl⟩]
theorem hrun_bit {r : List Rw} {us : List Nat} {l : Nat × Nat} {m : Nat} (h : us.length < 8) : hrun ⟨r, us, l, true⟩ (btL m) = some ⟨r, us ++ [m], (0, m), true⟩ := by
  have e := hs1_up (r := r) (us := us) (m := m) (d := m)
  rw [if_neg (show ¬ us.length + 1 = 9 by omega)] at e
  unfold btL
  rw [hrun_cons, hs1_low, Option.bind_some, hrun_cons, e, Option.bind_some, hrun_cons, hs1_low]
  rfl
theorem hrun_bit9 {r : List Rw} {us : List Nat} {l : Nat × Nat} {m : Nat} (h : us.length = 8) : hrun ⟨r, us, l, true⟩ (btL m) = some ⟨r ++ [.oct (byt (us ++ [m])) m], [], (0, m), true⟩ := by
  have e := hs1_up (r := r) (us := us) (m := m) (d := m)
  rw [if_pos (show us.length + 1 = 9 by omega)] at e
  unfold btL
  rw [hrun_cons, hs1_low, Option.bind_some, hrun_cons, e, Option.bind_some, hrun_cons, hs1_low]
  rfl
def ob8 (n k : Nat) : List Nat := (List.range k).map fun k => n / (128 / 2 ^ k) % 2
theorem ob8_len {n k : Nat} : (ob8 n k).length = k := by simp [ob8]
theorem hrun_oc8 {r : List Rw} {n : Nat} : ∀ {k : Nat} {l : Nat × Nat}, k ≤ 8 → ∃ l', hrun ⟨r, [], l, true⟩ (oc8 n k) = some ⟨r, ob8 n k, l', true⟩
  | 0, l, _ => ⟨l, rfl⟩
  | k + 1, l, h => by
    obtain ⟨l', e⟩ := hrun_oc8 (r := r) (n := n) (k := k) (l := l) (by omega)
    refine ⟨(0, n / (128 / 2 ^ k) % 2), ?_⟩
    rw [oc8_snoc, hrun_app, e, Option.bind_some, hrun_bit (by rw [ob8_len]; omega)]
    unfold ob8
    rw [List.range_succ, List.map_append]
    rfl
theorem byt_ob8 {n b : Nat} (h : n < 256) : byt (ob8 n 8 ++ [b]) = n := by
  simp only [byt, ob8, show List.range 8 = [0, 1, 2, 3, 4, 5, 6, 7] from rfl, List.map_cons, List.map_nil, List.sum_cons, List.sum_nil, List.cons_append, List.nil_append]
  simp only [List.getD_cons_zero, List.getD_cons_succ]
  simp only [show 128 / 2 ^ 0 = 128 from rfl, show 128 / 2 ^ 1 = 64 from rfl, show 128 / 2 ^ 2 = 32 from rfl, show 128 / 2 ^ 3 = 16 from rfl, show 128 / 2 ^ 4 = 8 from rfl, show 128 / 2 ^ 5 = 4 from rfl, show 128 / 2 ^ 6 = 2 from rfl, show 128 / 2 ^ 7 = 1 from rfl,
    show 2 ^ (7 - 0) = 128 from rfl, show 2 ^ (7 - 1) = 64 from rfl, show 2 ^ (7 - 2) = 32 from rfl, show 2 ^ (7 - 3) = 16 from rfl, show 2 ^ (7 - 4) = 8 from rfl, show 2 ^ (7 - 5) = 4 from rfl, show 2 ^ (7 - 6) = 2 from rfl, show 2 ^ (7 - 7) = 1 from rfl]
  omega
theorem hrun_oc {r : List Rw} {n b : Nat} {l : Nat × Nat} (h : n < 256) : hrun ⟨r, [], l, true⟩ (ocL n b) = some ⟨r ++ [.oct n b], [], (0, b), true⟩ := by
  obtain ⟨l', e⟩ := hrun_oc8 (r := r) (n := n) (k := 8) (l := l) (Nat.le_refl _)
  unfold ocL
  rw [hrun_app, e]
  show hrun _ (btL b) = _
  rw [hrun_bit9 ob8_len, byt_ob8 h]
theorem hrun_row : ∀ {q : List (Nat × Nat)} {r : List Rw} {d : Nat}, (∀ p ∈ q, p.1 < 256) → ∃ d', hrun ⟨r, [], (0, d), true⟩ (rowL q) = some ⟨r ++ q.map fun p => .oct p.1 p.2, [], (0, d'), true⟩
  | [], r, d, _ => ⟨d, by rw [List.map_nil, List.append_nil]; rfl⟩
  | p :: q, r, d, h => by
    obtain ⟨d', e⟩ := hrun_row (q := q) (r := r ++ [.oct p.1 p.2]) (d := p.2) fun x hx => h x (List.mem_cons_of_mem _ hx)
    refine ⟨d', ?_⟩
    show hrun _ (ocL p.1 p.2 ++ rowL q) = _
    rw [hrun_app, hrun_oc (h p (List.mem_cons_self ..))]
    show hrun _ (rowL q) = _
    rw [e, List.map_cons, List.append_assoc]
    rfl
theorem hrun_bg {r : List Rw} {us : List Nat} {g : Bool} (h : us.length ≤ 1) : hrun ⟨r, us, (1, 1), g⟩ bgL = some ⟨r ++ [.beg], [], (0, 0), true⟩ := by
  have e1 : hs1 ⟨r, us, (1, 1), g⟩ (1, 1) = some ⟨r, us, (1, 1), g⟩ := by
    unfold hs1
    rw [if_neg (fun z => absurd rfl z.2.2), if_neg (fun z => absurd z.1 (by decide : ¬ (1 : Nat) = 0))]
  have e2 : hs1 ⟨r, us, (1, 1), g⟩ (1, 0) = some ⟨r ++ [.beg], [], (1, 0), true⟩ := by
    unfold hs1
    rw [if_pos ⟨rfl, rfl, fun y => nomatch y⟩, if_neg (show ¬ 1 < us.length by omega)]
    rfl
  unfold bgL
  rw [hrun_cons, e1, Option.bind_some, hrun_cons, e2, Option.bind_some, hrun_cons, hs1_low]
  rfl
theorem hrun_gap {r : List Rw} {l : Nat × Nat} : hrun ⟨r, [], l, true⟩ [(0, 1), (1, 1)] = some ⟨r, [1], (1, 1), true⟩ := by
  show (hs1 _ (0, 1)).bind _ = _
  rw [hs1_low]
  show (hs1 ⟨r, [], (0, 1), true⟩ (1, 1)).bind _ = _
  rw [hs1_up]
  rfl
theorem hrun_en {r : List Rw} {l : Nat × Nat} : hrun ⟨r, [], l, true⟩ enL = some ⟨r ++ [.fin], [], (1, 1), false⟩ := by
  have e2 : hs1 ⟨r, [0], (1, 0), true⟩ (1, 1) = some ⟨r ++ [.fin], [], (1, 1), false⟩ := by
    unfold hs1
    rw [if_pos ⟨rfl, rfl, fun y => nomatch y⟩, if_neg (show ¬ 1 < [0].length by decide)]
    rfl
  unfold enL
  rw [hrun_cons, hs1_low, Option.bind_some, hrun_cons, hs1_up, if_neg (show ¬ [].length + 1 = 9 from fun y => nomatch y), Option.bind_some]
  show hrun ⟨r, [0], (1, 0), true⟩ _ = _
  rw [hrun_cons, e2]
  rfl
/-- the rows of a part -/
def anP (p : Prt) : Nat := if p.row.isSome then 0 else 1
def rwP (p : Prt) : List Rw := .beg :: .oct (2 * p.pl + p.rd.toNat) (anP p) :: (p.row.getD []).map fun q => .oct q.1 q.2
def rws (ps : List Prt) : List Rw := ps.flatMap rwP ++ [.fin]
def Prt.fine (p : Prt) : Prop := p.pl < 128 ∧ ∀ q ∈ p.row.getD [], q.1 < 256 ∧ q.2 ≤ 1
theorem hrun_pr {p : Prt} {r : List Rw} {us : List Nat} {g : Bool} (hp : p.fine) (h : us.length ≤ 1) : ∃ d, hrun ⟨r, us, (1, 1), g⟩ (prL p) = some ⟨r ++ rwP p, [], (0, d), true⟩ := by
  unfold prL
  have hr : p.rd.toNat ≤ 1 := by cases p.rd <;> decide
  have hpl := hp.1
  obtain ⟨d, e⟩ := hrun_row (q := p.row.getD []) (r := r ++ [.beg] ++ [.oct (2 * p.pl + p.rd.toNat) (if p.row.isSome then 0 else 1)]) (d := if p.row.isSome then 0 else 1) fun q hq => (hp.2 q hq).1
  refine ⟨d, ?_⟩
  rw [hrun_app, hrun_app, hrun_bg h, Option.bind_some, hrun_oc (by omega), Option.bind_some, e]
  simp [rwP, anP]
theorem hrun_sdB : ∀ {ps : List Prt} {k : Nat} {r : List Rw} {d : Nat}, (∀ p ∈ ps, p.fine) → 0 < k → ∃ d', hrun ⟨r, [], (0, d), true⟩ (sdB k ps) = some ⟨r ++ ps.flatMap rwP, [], (0, d'), true⟩
  | [], k, r, d, _, _ => ⟨d, by rw [List.flatMap_nil, List.append_nil]; rfl⟩
  | p :: ps, k, r, d, h, hk => by
    obtain ⟨d1, e1⟩ := hrun_pr (p := p) (r := r) (us := [1]) (g := true) (h p (List.mem_cons_self ..)) (Nat.le_refl _)
    obtain ⟨d2, e2⟩ := hrun_sdB (ps := ps) (k := k + 1) (r := r ++ rwP p) (d := d1) (fun q hq => h q (List.mem_cons_of_mem _ hq)) (Nat.succ_pos _)
    refine ⟨d2, ?_⟩
    rw [sdB, if_neg (by omega), hrun_app, hrun_app, hrun_gap, Option.bind_some, e1, Option.bind_some, e2, List.flatMap_cons, List.append_assoc]
theorem hrd_said {ps : List Prt} (h0 : ps ≠ []) (h : ∀ p ∈ ps, p.fine) : hrd (sdL ps) = some (rws ps) := by
  cases ps with
  | nil => exact absurd rfl h0
  | cons p ps =>
    obtain ⟨d1, e1⟩ := hrun_pr (p := p) (r := []) (us := []) (g := false) (h p (List.mem_cons_self ..)) (Nat.zero_le _)
    obtain ⟨d2, e2⟩ := hrun_sdB (ps := ps) (k := 1) (r := [] ++ rwP p) (d := d1) (fun q hq => h q (List.mem_cons_of_mem _ hq)) Nat.one_pos
    show (hrun ⟨[], [], (1, 1), false⟩ (sdB 0 (p :: ps) ++ enL)).bind _ = _
    rw [sdB, if_pos rfl, List.nil_append, hrun_app, hrun_app, e1, Option.bind_some, e2, Option.bind_some, hrun_en]
    rfl
/-- no rise of the second while the first stands -/
def nr : Nat × Nat → List (Nat × Nat) → Bool
  | _, [] => true
  | a, p :: r => !(decide (a.1 = 1) && decide (p.1 = 1) && decide (a.2 ≠ p.2) && decide (p.2 ≠ 0)) && nr p r
theorem nr_take : ∀ (l : List (Nat × Nat)) (k : Nat) (a : Nat × Nat), nr a l = true → nr a (l.take k) = true
  | _, 0, _, _ => by rw [List.take_zero]; rfl
  | [], k + 1, _, _ => rfl
  | p :: l, k + 1, a, h => by
    rw [nr, Bool.and_eq_true] at h
    rw [List.take_succ_cons, nr, Bool.and_eq_true]
    exact ⟨h.1, nr_take l k p h.2⟩
theorem hs1_nr {s s' : Hs} {p : Nat × Nat} (hb : s.bg = true) (h : (!(decide (s.last.1 = 1) && decide (p.1 = 1) && decide (s.last.2 ≠ p.2) && decide (p.2 ≠ 0))) = true) (e : hs1 s p = some s') : s'.bg = true ∧ s'.last = p := by
  unfold hs1 at e
  split at e
  · rename_i c
    split at e
    · cases e
    · injection e with e
      subst e
      refine ⟨?_, rfl⟩
      by_cases z : p.2 = 0
      · exact decide_eq_true z
      · simp [c.1, c.2.1, c.2.2, z] at h
  · split at e
    · split at e
      · injection e with e
        subst e
        exact ⟨hb, rfl⟩
      · injection e with e
        subst e
        exact ⟨hb, rfl⟩
    · injection e with e
      subst e
      exact ⟨hb, rfl⟩
theorem nr_run : ∀ (l : List (Nat × Nat)) {s s' : Hs}, s.bg = true → nr s.last l = true → hrun s l = some s' → s'.bg = true
  | [], s, s', hb, _, e => by injection e with e; rw [← e]; exact hb
  | p :: l, s, s', hb, h, e => by
    rw [hrun_cons] at e
    rw [nr, Bool.and_eq_true] at h
    cases q : hs1 s p with
    | none => rw [q] at e; cases e
    | some t =>
      rw [q] at e
      obtain ⟨a, b⟩ := hs1_nr hb h.1 q
      exact nr_run l a (by rw [b]; exact h.2) e
def Zr (r : List (Nat × Nat)) : Prop := ∀ d, nr (0, d) r = true
theorem zr_bit {r : List (Nat × Nat)} {m : Nat} (h : Zr r) : Zr (btL m ++ r) := fun d => by
  have e : ∀ a : Nat × Nat, a.1 = 0 → nr a ((0, m) :: (1, m) :: (0, m) :: r) = true := fun a ha => by simp [nr, h m]
  exact e _ rfl
theorem zr_oc8 {n : Nat} : ∀ {k : Nat} {r : List (Nat × Nat)}, Zr r → Zr (oc8 n k ++ r)
  | 0, r, h => h
  | k + 1, r, h => by
    rw [oc8_snoc, List.append_assoc]
    exact zr_oc8 (zr_bit h)
theorem zr_oc {n b : Nat} {r : List (Nat × Nat)} (h : Zr r) : Zr (ocL n b ++ r) := by
  unfold ocL
  rw [List.append_assoc]
  exact zr_oc8 (zr_bit h)
theorem zr_row : ∀ {q : List (Nat × Nat)} {r : List (Nat × Nat)}, Zr r → Zr (rowL q ++ r)
  | [], r, h => h
  | p :: q, r, h => by
    show Zr ((ocL p.1 p.2 ++ rowL q) ++ r)
    rw [List.append_assoc]
    exact zr_oc (zr_row h)
theorem zr_sdB : ∀ {ps : List Prt} {k : Nat}, 0 < k → Zr (sdB k ps)
  | [], k, _ => fun d => rfl
  | p :: ps, k, hk => fun d => by
    have z : Zr (ocL (2 * p.pl + p.rd.toNat) (if p.row.isSome then 0 else 1) ++ (rowL (p.row.getD []) ++ sdB (k + 1) ps)) := zr_oc (zr_row (zr_sdB (Nat.succ_pos _)))
    have z0 := z 0
    rw [sdB, if_neg (by omega)]
    unfold prL
    simp only [List.append_assoc, List.cons_append, List.nil_append]
    simp [nr, z0]
theorem hrd_cut {ps : List Prt} {c : Nat} (h0 : ps ≠ []) (h1 : 5 ≤ c) (h2 : c + 3 ≤ (sdL ps).length) : hrd ((sdL ps).take c) = none := by
  cases ps with
  | nil => exact absurd rfl h0
  | cons p ps =>
    obtain ⟨x, hx⟩ : ∃ x, x = ocL (2 * p.pl + p.rd.toNat) (if p.row.isSome then 0 else 1) ++ (rowL (p.row.getD []) ++ sdB 1 ps) := ⟨_, rfl⟩
    have e : sdL (p :: ps) = (1, 1) :: (bgL ++ (x ++ enL)) := by
      rw [hx]
      simp [sdL, sdB, prL]
    have z : Zr x := by rw [hx]; exact zr_oc (zr_row (zr_sdB Nat.one_pos))
    rw [e, List.length_cons, List.length_append, List.length_append] at h2
    have h2 : c ≤ 4 + x.length := by
      have : enL.length = 3 := rfl
      have : bgL.length = 3 := rfl
      omega
    obtain ⟨m, rfl⟩ : ∃ m, c = m + 4 := ⟨c - 4, by omega⟩
    have e2 : (sdL (p :: ps)).take (m + 4) = (1, 1) :: (bgL ++ x.take m) := by
      rw [e]
      show (1, 1) :: (1, 1) :: (1, 0) :: (0, 0) :: (x ++ enL).take m = _
      rw [List.take_append_of_le_length (by omega)]
      rfl
    rw [e2]
    show (hrun ⟨[], [], (1, 1), false⟩ (bgL ++ x.take m)).bind _ = _
    rw [hrun_app, hrun_bg (Nat.zero_le _), Option.bind_some]
    cases q : hrun ⟨[] ++ [.beg], [], (0, 0), true⟩ (x.take m) with
    | none => rfl
    | some s =>
      have := nr_run _ rfl (nr_take _ _ _ (z 0)) q
      show (if s.bg = true ∨ 1 < s.bits.length then none else some s.rows) = _
      rw [if_pos (Or.inl this)]
theorem spO_map : ∀ {q : List (Nat × Nat)} {r : List Rw}, spO r = [] → spO ((q.map fun p => Rw.oct p.1 p.2) ++ r) = q
  | [], r, h => h
  | p :: q, r, h => congrArg (p :: ·) (spO_map (q := q) h)
theorem spO_rws : ∀ {ps : List Prt}, spO (rws ps) = []
  | [] => rfl
  | p :: ps => rfl
theorem prt_of {p : Prt} : prt (2 * p.pl + p.rd.toNat) (anP p) (p.row.getD []) = p := by
  obtain ⟨pl, rd, row⟩ := p
  unfold prt anP
  have e1 : (2 * pl + rd.toNat) / 2 = pl := by cases rd <;> simp <;> omega
  have e2 : decide ((2 * pl + rd.toNat) % 2 = 1) = rd := by cases rd <;> simp <;> omega
  rw [e1, e2]
  cases row <;> rfl
theorem prs_rws : ∀ {ps : List Prt}, prs (rws ps) = some ps
  | [] => by show prs [.fin] = _; rw [prs_fin, prs_nil]
  | p :: ps => by
    have e : rws (p :: ps) = .beg :: .oct (2 * p.pl + p.rd.toNat) (anP p) :: (((p.row.getD []).map fun q => Rw.oct q.1 q.2) ++ rws ps) := by
      simp [rws, rwP]
    rw [e, prs_beg, spO_map spO_rws, List.drop_left' (by simp), prs_rws, Option.map_some, prt_of]
theorem rws_beg (ps : List Prt) : ((rws ps).filter fun x => decide (x = .beg)).length = ps.length := by
  unfold rws
  rw [List.filter_append, List.length_append, List.filter_flatMap]
  have : ∀ p : Prt, (rwP p).filter (fun x => decide (x = .beg)) = [.beg] := fun p => by
    unfold rwP
    rw [List.filter_cons_of_pos (by rfl), List.filter_cons_of_neg (by simp), List.filter_eq_nil_iff.mpr]
    intro x hx
    obtain ⟨q, _, rfl⟩ := List.mem_map.mp hx
    simp
  simp [this]
  induction ps with
  | nil => rfl
  | cons p ps ih => rw [List.map_cons, List.sum_cons, ih, List.length_cons]; omega
def Rw.isO : Rw → Bool
  | .oct _ _ => true
  | _ => false
def Rw.val : Rw → Nat
  | .oct n _ => n
  | _ => 0
theorem rws_oct {p : Prt} {ps : List Prt} {os : List Nat} (h : 2 * p.pl + p.rd.toNat ∈ os) : ((((rws (p :: ps)).filter fun x => x.isO && decide (x.val ∈ os)).map Rw.val).take 1) = [2 * p.pl + p.rd.toNat] := by
  have e : rws (p :: ps) = .beg :: .oct (2 * p.pl + p.rd.toNat) (anP p) :: (((p.row.getD []).map fun q => Rw.oct q.1 q.2) ++ rws ps) := by
    simp [rws, rwP]
  rw [e, List.filter_cons_of_neg (by simp [Rw.isO]), List.filter_cons_of_pos (by simp [Rw.isO, Rw.val, h])]
  rfl
theorem rws_last {ps : List Prt} : ∃ i, (rws ps).length = i + 1 ∧ (rws ps)[i]? = some .fin := ⟨(ps.flatMap rwP).length, by simp [rws], by simp [rws]⟩
end
end Toy
end

section
local macro_rules | `(tactic| kspl_open zz_ent1) => `(tactic| first | (with_reducible exact Dh.ent_refl) | (with_reducible exact Dh.ent_nil) | (refine' Dh.ent_cons ?q0 ?k; (case q0 => kspl_open zz_pk)) | (with_reducible refine' Toy.ent_ChipAt ?k) | (refine' Dh.ent_drop ?k))
local macro_rules | `(tactic| kspl_open zz_hasm) => `(tactic| first | (refine' Toy.hasM_ChipAt ?q0 ?q1; (case q0 => kspl_open zz_pk); (case q1 => (intros; kspl_open zz_lk))) | (refine' Dh.hasM_ob ?q0 ?q1; (case q0 => kspl_open zz_pk); (case q1 => kspl_open zz_lk)))
local macro_rules | `(tactic| kspl_open zz_open1) => `(tactic| first  | (with_reducible refine' Toy.of_ChipAt ?q0 ?k; (case q0 => kspl_open zz_pk); intros) | (with_reducible refine' Toy.sf_ChipAt ?q0 ?k; (case q0 => kspl_open zz_pk); intros) | (with_reducible refine' Toy.au_ChipAt ?q0 ?k; (case q0 => kspl_open zz_pk); intros))
local macro_rules | `(tactic| kspl_open zz_vc1) => `(tactic| first | ((refine' Dh.wk1 ?k); (repeat (with_reducible intro _))) | kspl_open zz_vcp0 | kspl_open zz_vcp1 | kspl_open zz_vcp2 | kspl_open zz_vcp3 | kspl_open zz_vcp4 | kspl_open zz_vcp5 | kspl_open zz_vcp6 | kspl_open zz_vcp7 | kspl_open zz_vcp8 | kspl_open zz_vcp9 | kspl_open zz_vcp10 | kspl_open zz_use1 | kspl_open zz_told1 | kspl_open zz_open1)
local macro_rules | `(tactic| kspl_open zz_use1) => `(tactic| ((with_reducible refine' Toy.use_law_dice (fun _ _ _ _ => ?k0))))
local macro_rules | `(tactic| kspl_open zz_use1) => `(tactic| ((with_reducible refine' Toy.use_law_roll ?q0 ?h0 ?h1 (fun _ _ => ?k0)); (case q0 => kspl_open zz_pk); (case h0 => kspl_open zz_side); (case h1 => kspl_open zz_side)))
local macro_rules | `(tactic| kspl_open zz_use1) => `(tactic| ((with_reducible refine' Toy.use_begin (fun _ _ => ?k0))))
local macro_rules | `(tactic| kspl_open zz_use1) => `(tactic| ((with_reducible refine' Toy.use_end (fun _ _ => ?k0))))
local macro_rules | `(tactic| kspl_open zz_use1) => `(tactic| ((with_reducible refine' Toy.use_bit (fun _ _ => ?k0))))
local macro_rules | `(tactic| kspl_open zz_use1) => `(tactic| ((with_reducible refine' Toy.use_raised_two ?h0 ?k0); (case h0 => kspl_open zz_side)))
local macro_rules | `(tactic| kspl_open zz_use1) => `(tactic| ((with_reducible refine' Toy.use_octet ?h0 (fun _ _ => ?k0)); (case h0 => kspl_open zz_side)))
local macro_rules | `(tactic| kspl_open zz_use) => `(tactic| ((with_reducible refine' Toy.use_said ?q0 ?q1 ?h0 ?h1 (fun _ _ _ => ?k0) (fun _ => ?k1)); (case q0 => kspl_open zz_pk); (case q1 => kspl_open zz_pk); (case h0 => kspl_open zz_side); (case h1 => kspl_open zz_side)))
local macro_rules | `(tactic| kspl_open zz_use) => `(tactic| ((with_reducible refine' Toy.use_heard_on ?q0 ?q1 ?h0 ?h1 ?h2 (fun _ _ _ _ _ => ?k0) (fun _ _ => ?k1)); (case q0 => kspl_open zz_pk); (case q1 => kspl_open zz_pk); (case h0 => kspl_open zz_side); (case h1 => kspl_open zz_side); (case h2 => kspl_open zz_side)))
local macro_rules | `(tactic| kspl_open zz_use) => `(tactic| ((with_reducible refine' Toy.use_parts_of ?q0 ?q1 ?h0 (fun _ _ _ _ _ => ?k0) (fun _ _ => ?k1)); (case q0 => kspl_open zz_pk); (case q1 => kspl_open zz_pk); (case h0 => kspl_open zz_side)))
local macro_rules | `(tactic| kspl_open zz_use1) => `(tactic| ((with_reducible refine' Toy.use_Chip___init__ ?q0 ?h0 (fun _ => ?k0)); (case q0 => kspl_open zz_pk); (case h0 => kspl_open zz_side)))
local macro_rules | `(tactic| kspl_open zz_use1) => `(tactic| ((with_reducible refine' Toy.use_Chip_give ?q0 ?h0 (fun _ => ?k0)); (case q0 => kspl_open zz_pk); (case h0 => kspl_open zz_side)))
local macro_rules | `(tactic| kspl_open zz_use1) => `(tactic| ((with_reducible refine' Toy.use_Chip_take ?q0 ?q1 ?h0 (fun _ => ?k0)); (case q0 => kspl_open zz_pk); (case q1 => kspl_open zz_pk); (case h0 => kspl_open zz_side)))
local macro_rules | `(tactic| kspl_open zz_use1) => `(tactic| ((with_reducible refine' Toy.use_exchanged ?q0 ?q1 ?q2 ?q3 ?q4 ?h0 ?h1 (fun _ _ => ?k0)); (case q0 => kspl_open zz_pk); (case q1 => kspl_open zz_pk); (case q2 => kspl_open zz_pk); (case q3 => kspl_open zz_pk); (case q4 => kspl_open zz_pk); (case h0 => kspl_open zz_side); (case h1 => kspl_open zz_side)))

namespace Toy
open PySem L2
section
variable {P : Program} {w : World} {K : PySem.W.Frag} {mg : Str → Option Value} {base : Heap} {T : List (Addr × Str)} {C_Chip C_BadWord C_BadPlace C_BadPlan C_NotDue C_Stuck C_BadBits C_BadText C_TooLarge g_told : Addr}
theorem go_rowN {T : List (Addr × Str)} {L A : List Dh.HP} {vs : List V} {us : List (List Nat)} {u : List Nat} {j : Nat} {G : Hp → Prop} (pk : Dh.Pick L (Dh.dvs vs (us.map Dh.tN)) A) (h : us[j]? = some u) (g : ∀ t, L2.atI vs (j : Int) = some (.ref t) → Dh.Go T (Dh.pt t (.tup (u.map Dh.nI)) :: L) G) : Dh.Go T L G := by
  refine Dh.go_dvsAt (k := j) (d := Dh.tN u) pk (by rw [List.getElem?_map, h]; rfl) fun y hy => ?_
  refine go_tN Dh.pick_here fun q ez => ?_
  subst ez
  exact Dh.Go.ent (Dh.ent_cons Dh.pick_here (Dh.ent_drop Dh.ent_refl)) (g q (Dh.atI_lt hy))
def sg_won (T : List (Addr × Str)) (K : PySem.W.Frag) (C_Chip C_BadWord C_BadPlace C_BadPlan C_NotDue C_Stuck C_BadBits C_BadText C_TooLarge g_told : Addr) : Dh.SG :=
  fun zs L Q E => ∃ (b : Addr) (vs : List V) (us : List (List Nat)) (R : List Dh.HP), zs = [.ref b] ∧ Dh.Ent L ((Dh.pt b (.lst vs)) :: (Dh.dvs vs (us.map Dh.tN)) :: R) ∧ (us ≠ []) ∧ (us.length ≤ 10) ∧ (∀ u ∈ us, u.length = 5) ∧ (∀ (d : Addr) (e : Addr) (f : Addr), Dh.Go T ((Dh.pt d (.tup [.ref e, .ref f])) :: (Dh.pt e (.tup ((wL us 5).1.map Dh.nI))) :: (Dh.pt f (.tup ((wL us 5).2.map Dh.nI))) :: (Dh.pt b (.lst vs)) :: (Dh.dvs vs (us.map Dh.tN)) :: R) fun H => Q (.ref d) H)
theorem use_won {L A0 A1 : List Dh.HP} {Q : VK} {E : XK} {b : Addr} {vs : List V} {us : List (List Nat)} (q0 : Dh.Pick L (Dh.pt b (.lst vs)) A0) (q1 : Dh.Pick A0 (Dh.dvs vs (us.map Dh.tN)) A1) (h0 : us ≠ []) (h1 : us.length ≤ 10) (h2 : ∀ u ∈ us, u.length = 5) (k0 : ∀ (d : Addr) (e : Addr) (f : Addr), Dh.Go T ((Dh.pt d (.tup [.ref e, .ref f])) :: (Dh.pt e (.tup ((wL us 5).1.map Dh.nI))) :: (Dh.pt f (.tup ((wL us 5).2.map Dh.nI))) :: (Dh.pt b (.lst vs)) :: (Dh.dvs vs (us.map Dh.tN)) :: A1) fun H => Q (.ref d) H) : Dh.Go T L fun H => Dh.sOfN T 1 (sg_won T K C_Chip C_BadWord C_BadPlace C_BadPlan C_NotDue C_Stuck C_BadBits C_BadText C_TooLarge g_told) [.ref b] H Q E := Dh.g_sp rfl ⟨b, vs, us, A1, rfl, (Dh.ent_cons q0 (Dh.ent_cons q1 Dh.ent_refl)), h0, h1, h2, k0⟩
local macro_rules | `(tactic| kspl_open zz_use1) => `(tactic| ((with_reducible refine' Toy.use_won ?q0 ?q1 ?h0 ?h1 ?h2 (fun _ _ _ => ?k0)); (case q0 => kspl_open zz_pk); (case q1 => kspl_open zz_pk); (case h0 => kspl_open zz_side); (case h1 => kspl_open zz_side); (case h2 => kspl_open zz_side)))
set_option maxHeartbeats 8000000 in
theorem ok_won (Z : Txt K mg C_Chip C_BadWord C_BadPlace C_BadPlan C_NotDue C_Stuck C_BadBits C_BadText C_TooLarge g_told)  {f : Addr} {fd : FuncData} {cdv : Value} (F : Dh.FunC K "won" "won" s_won f fd cdv) :
    FnOk P w K mg base (L2.CX P w) 1 f fd ["rows"] (Dh.sOfN T 1 (sg_won T K C_Chip C_BadWord C_BadPlace C_BadPlan C_NotDue C_Stuck C_BadBits C_BadText C_TooLarge g_told)) := by
  refine Dh.fnX (k := 0) F sc_won rfl (fun A outer s H0 L vs Q E hr hl h => ?_)
  refine ⟨_, (pss_cons (ps_par (i := 1) (j := 2) (by rfl) sc_won.nd rfl rfl (by decide) rfl rfl (pa_cons (pe_listRg rfl (by rfl) Z.b_list (prg_1 (by rfl) Z.b_range (pe_callB (Dh.cLen (K := K) rfl) (by rfl) Z.b_len (by first | exact PySem.boot_len | exact PyProof.Rows.boot_len | decide +kernel) (pa_cons (pv 0) pa_nil)))) (pa_cons (pe_lst pa_nil) pa_nil)) (by rfl))
    (pss_cons (ps_set (i := 3) sc_won.nd rfl (by first | exact Or.inl rfl | exact Or.inr rfl) (pe_callB (Dh.cMax (K := K) rfl rfl) (by rfl) Z.b_max (by first | exact PySem.boot_max | exact PyProof.Rows.boot_max | decide +kernel) (pa_cons (pe_op (Dh.oAdd (K := K) rfl) (pe_lst (pa_cons pe_int pa_nil)) (pe_lc (own := [("row", 7)]) (g := (gName 7)) (tt := tYes) rfl sc_won.nd (Dh.piSeq (K := K) rfl (pv 0)) (blkOk_by (own := [("row", 7)]) (N := N_won) (by kernel_rfl)) (fun _ _ _ _ _ => (pg_name (i := 7) sc_won.nd rfl (by first | exact Or.inl rfl | exact Or.inr rfl))) (fun _ _ _ _ _ => pts_nil) (fun _ _ _ _ _ => (pe_callB (Dh.cLen (K := K) rfl) (by rfl) Z.b_len (by first | exact PySem.boot_len | exact PyProof.Rows.boot_len | decide +kernel) (pa_cons (pv 7) pa_nil))))) pa_nil)))
    (pss_cons (ps_for (passes_of rfl) rfl (pi_range1 rfl Z.b_range (pa_cons (pv 3) pa_nil)) (pg_name (i := 4) sc_won.nd rfl (by first | exact Or.inl rfl | exact Or.inr rfl))
    (pss_cons (ps_setLc (i := 5) (own := [("one", 8)]) (g := (gName 8)) rfl sc_won.nd rfl rfl (sw_true rfl rfl rfl (by decide +kernel)) (Dh.piSeq (K := K) rfl (pv 1)) (blkOk_by (own := [("one", 8)]) (N := N_won) (by kernel_rfl)) (fun _ _ _ _ _ => (pg_name (i := 8) sc_won.nd rfl (by first | exact Or.inl rfl | exact Or.inr rfl))) (fun _ _ _ _ _ => pts_one (pt_cmpR op_lt (pv 4) (pe_callB (Dh.cLen (K := K) rfl) (by rfl) Z.b_len (by first | exact PySem.boot_len | exact PyProof.Rows.boot_len | decide +kernel) (pa_cons (pe_ix (Dh.xSeq (K := K) rfl) (pv 0) (pv 8) (fun _ _ => rfl)) pa_nil)) (nomark _))) (fun _ _ _ _ _ => (pv 8)))
    (pss_cons (ps_if (pt_cmpR (Dh.oEq (K := K) rfl hr.units) (pv 5) (pe_lst pa_nil) (nomark _))
    (pss_one ps_break)
    pss_nil)
    (pss_cons (ps_set (i := 6) sc_won.nd rfl (by first | exact Or.inl rfl | exact Or.inr rfl) (pe_callB (Dh.cMin (K := K) rfl rfl) (by rfl) Z.b_min (by first | exact PySem.boot_min | exact PyProof.Rows.boot_min | decide +kernel) (pa_cons (pe_lc (own := [("one", 8)]) (g := (gName 8)) (tt := tYes) rfl sc_won.nd (Dh.piSeq (K := K) rfl (pv 5)) (blkOk_by (own := [("one", 8)]) (N := N_won) (by kernel_rfl)) (fun _ _ _ _ _ => (pg_name (i := 8) sc_won.nd rfl (by first | exact Or.inl rfl | exact Or.inr rfl))) (fun _ _ _ _ _ => pts_nil) (fun _ _ _ _ _ => (pe_ix (Dh.xSeq (K := K) rfl) (pe_ix (Dh.xSeq (K := K) rfl) (pv 0) (pv 8) (fun _ _ => rfl)) (pv 4) (fun _ _ => rfl)))) pa_nil)))
    (pss_cons (ps_expr (pe_bm PySem.F.plainAttrs_list PySem.F.slot_list_append PySem.F.type_list_append mt_append (pv 2) (pa_cons (pv 6) pa_nil)))
    (pss_one (ps_setLc (i := 1) (own := [("one", 8)]) (g := (gName 8)) rfl sc_won.nd rfl rfl (sw_true rfl rfl rfl (by decide +kernel)) (Dh.piSeq (K := K) rfl (pv 1)) (blkOk_by (own := [("one", 8)]) (N := N_won) (by kernel_rfl)) (fun _ _ _ _ _ => (pg_name (i := 8) sc_won.nd rfl (by first | exact Or.inl rfl | exact Or.inr rfl))) (fun _ _ _ _ _ => pts_one (PW.pt (pw_or (pt_cmpR op_ge (pv 4) (pe_callB (Dh.cLen (K := K) rfl) (by rfl) Z.b_len (by first | exact PySem.boot_len | exact PyProof.Rows.boot_len | decide +kernel) (pa_cons (pe_ix (Dh.xSeq (K := K) rfl) (pv 0) (pv 8) (fun _ _ => rfl)) pa_nil)) (nomark _)) (pw_or1 (pt_cmpR (Dh.oEq (K := K) rfl hr.units) (pe_ix (Dh.xSeq (K := K) rfl) (pe_ix (Dh.xSeq (K := K) rfl) (pv 0) (pv 8) (fun _ _ => rfl)) (pv 4) (fun _ _ => rfl)) (pv 6) (nomark _)))))) (fun _ _ _ _ _ => (pv 8)))))))))
    (pss_one (ps_ret (pe_tup (pa_cons (pe_callTy (Dh.cTup (K := K) rfl) (by rfl) Z.b_tuple (by first | exact PySem.boot_tuple | exact PyProof.Rows.boot_tuple | decide +kernel) (pa_cons (pv 1) pa_nil)) (pa_cons (pe_callTy (Dh.cTup (K := K) rfl) (by rfl) Z.b_tuple (by first | exact PySem.boot_tuple | exact PyProof.Rows.boot_tuple | decide +kernel) (pa_cons (pv 2) pa_nil)) pa_nil)))))))), ?_⟩
  try dsimp only [L2.cxOf, L2.Cx.blk, LamX.lamCx, L2.Cx.tr, L2.Cx.suite]
  obtain ⟨b, vs, us, R, rfl, hE, h0, h1, h2, k0⟩ := h
  refine Dh.Go.ent hE ?_
  rw [show L2.start N_won [.ref b] = [some (.ref b), none, none, none, none, none, none, none, none] from rfl]
  refine Dh.go_dvsLen (show Dh.Pick _ (Dh.dvs vs (us.map Dh.tN)) _ by kspl_open zz_pk) fun hvl => ?_
  rw [List.length_map] at hvl
  kspl_open zz_vc
  rename_i LF LN Z0
  have hul : us.length ≠ 0 := fun z => h0 (List.length_eq_zero_iff.mp z)
  have wmem : ∀ k, k ≤ 5 → ∀ j ∈ (wL us k).1, j < us.length := fun k hk j hj => by
    rw [(wL_ok h0 h2 k hk).1] at hj
    exact List.mem_range.mp (List.mem_filter.mp hj).1
  have wne : ∀ k, k ≤ 5 → (wL us k).1 ≠ [] := fun k hk => (wL_ok h0 h2 k hk).2.1
  have wll : ∀ k, k ≤ 5 → (wL us k).1.length ≤ 10 := fun k hk => by
    rw [(wL_ok h0 h2 k hk).1]
    exact Nat.le_trans (List.length_filter_le ..) (by rw [List.length_range]; exact h1)
  have hrw : ∀ j, j < us.length → ∃ u, us[j]? = some u ∧ u.length = 5 ∧ ∀ k, k < 5 → u[k]? = some (wbit us k j) := fun j hj => by
    have hu := h2 us[j] (List.getElem_mem hj)
    refine ⟨us[j], List.getElem?_eq_getElem hj, hu, fun k hk => ?_⟩
    have g : us.getD j [] = us[j] := by rw [List.getD_eq_getElem?_getD, List.getElem?_eq_getElem hj]; rfl
    unfold wbit
    rw [g, List.getD_eq_getElem?_getD, List.getElem?_eq_getElem (by omega)]
    rfl
  have ftrue : ∀ l : List Nat, l.filter (fun _ => true) = l := fun l => List.filter_eq_self.mpr fun _ _ => rfl
  refine Dh.Go.conv (P := Dh.pt LF (.lst ((Dh.natI vs.length).map V.int))) (P' := Dh.pt LF (.lst ((wL us 0).1.map Dh.nI))) (by kspl_open zz_pk) (fun _ h => by
    rw [hvl] at h
    unfold Dh.natI at h
    rw [List.map_map] at h
    exact h) ?_
  refine Dh.g_lcL (xs := vs) (fun i acc L => acc = (List.replicate i (5 : Int)).map V.int ∧ Dh.Ent L (Dh.pt LF (.lst ((wL us 0).1.map Dh.nI)) :: Dh.pt Z0 (.lst [V.int 0]) :: Dh.pt LN (.lst []) :: Dh.pt b (.lst vs) :: Dh.dvs vs (us.map Dh.tN) :: R)) ⟨rfl, by kspl_open zz_ent⟩ (fun i acc L h => ⟨_, fun H s => (show Dh.Pick _ (Dh.pt b (.lst vs)) _ by kspl_open zz_pk) H (h.2 H s)⟩) (fun D i x acc L hx h => ?_) (fun D acc L h => ?_)
  · obtain ⟨rfl, hE⟩ := h
    have hi := (List.getElem?_eq_some_iff.mp hx).1
    obtain ⟨u, hu, hu5, _⟩ := hrw i (by omega)
    refine Dh.Go.ent (Dh.ent_tail hE) ?_
    refine go_rowN (j := i) (u := u) (show Dh.Pick _ (Dh.dvs vs (us.map Dh.tN)) _ by kspl_open zz_pk) hu fun t ht => ?_
    obtain rfl : x = .ref t := by
      have := Dh.atI_lt hx
      rw [ht] at this
      exact (Option.some.inj this).symm
    kspl_open zz_vc
    rw [List.length_map, hu5]
    exact Dh.g_lcAdd (by kspl_open zz_pk) (by rw [List.length_map, List.length_replicate, PySem.sizeLine_eq]; omega) ⟨by rw [List.replicate_succ', List.map_append]; rfl, by kspl_open zz_ent⟩
  · obtain ⟨rfl, hE⟩ := h
    refine Dh.Go.ent (Dh.ent_tail hE) ?_
    kspl_open zz_vc
    rename_i q
    refine Dh.Go.conv (P := Dh.pt q (.lst ([V.int 0] ++ (List.replicate vs.length (5 : Int)).map V.int))) (P' := Dh.pt q (.lst (([(0 : Int)] ++ List.replicate vs.length (5 : Int)).map V.int))) (by kspl_open zz_pk) (fun _ h => by rw [List.map_append]; exact h) ?_
    refine Dh.g_maxL (by kspl_open zz_pk) (by simp) fun m hm hle => ?_
    obtain rfl : m = 5 := by
      have := hle 5 (List.mem_append_right _ (List.mem_replicate.mpr ⟨by omega, rfl⟩))
      rcases List.mem_append.mp hm with hm | hm
      · rw [List.mem_singleton.mp hm] at this; omega
      · exact (List.mem_replicate.mp hm).2
    kspl_open zz_vc
    refine Dh.g_forR (n := 5) (lo := 0) (fun i σ L => ∃ (LF LN : Addr) (v5 v6 v7 : Option V), σ = [some (.ref b), some (.ref LF), some (.ref LN), some (.int 5), v5, v6, v7, none, none] ∧ Dh.Ent L (Dh.pt LF (.lst ((wL us i).1.map Dh.nI)) :: Dh.pt LN (.lst ((wL us i).2.map Dh.nI)) :: Dh.pt b (.lst vs) :: Dh.dvs vs (us.map Dh.tN) :: R)) ⟨LF, LN, _, _, _, rfl, Dh.ent_cons (by kspl_open zz_pk) (Dh.ent_cons (c := Dh.pt LN (.lst [])) (by kspl_open zz_pk) (by kspl_open zz_ent))⟩ ?_ ?_
    · rintro i σ L hi ⟨LF, LN, v5, v6, v7, rfl, hE⟩
      refine Dh.Go.ent hE ?_
      simp only [Int.zero_add]
      have hne := wne i (by omega)
      have hml := wmem i (by omega)
      have hll := wll i (by omega)
      have hwl := wL_len us i
      have s1 : (wL us (i + 1)).1 = (wL us i).1.filter fun j => decide (wbit us i j = wmin ((wL us i).1.map (wbit us i))) := rfl
      have s2 : (wL us (i + 1)).2 = (wL us i).2 ++ [wmin ((wL us i).1.map (wbit us i))] := rfl
      rw [s1, s2]
      obtain ⟨m1, m2⟩ := wmin_ok (l := (wL us i).1.map (wbit us i)) (by simpa using hne)
      generalize wmin ((wL us i).1.map (wbit us i)) = low at m1 m2 s1 s2 ⊢
      clear s1 s2
      generalize (wL us i).1 = ls at hE hne hml hll m1 m2 ⊢
      generalize (wL us i).2 = ln at hE hwl ⊢
      kspl_open zz_vc
      refine Dh.g_lcLp (us := ls) (gx := Dh.nI) (fun _ => true) Dh.nI (show Dh.Pick _ (Dh.pt LF (.lst (ls.map Dh.nI))) _ by kspl_open zz_pk) Dh.ent_refl (fun D j u hu hp hf => ?_) (fun D => ?_)
      · obtain ⟨r, hr, hr5, _⟩ := hrw u (hml u (List.mem_of_getElem? hu))
        have hj := (List.getElem?_eq_some_iff.mp hu).1
        refine go_rowN (j := u) (u := r) (show Dh.Pick _ (Dh.dvs vs (us.map Dh.tN)) _ by kspl_open zz_pk) hr fun t ht => ?_
        kspl_open zz_vc
        refine Dh.g_ifT (decide_eq_true (by rw [List.length_map, hr5]; omega)) ?_
        kspl_open zz_vc
        exact Dh.g_lcPutP hp (by kspl_open zz_pk) (by rw [PySem.sizeLine_eq]; omega) hf.symm (by kspl_open zz_ent)
      rw [ftrue]
      kspl_open zz_vc
      refine Dh.g_ifF (decide_eq_false hne) ?_
      kspl_open zz_vc
      refine Dh.g_lcLp (us := ls) (gx := Dh.nI) (fun _ => true) (fun j => Dh.nI (wbit us i j)) (show Dh.Pick _ (Dh.pt D (.lst (ls.map Dh.nI))) _ by kspl_open zz_pk) Dh.ent_refl (fun D j u hu hp hf => ?_) (fun D2 => ?_)
      · obtain ⟨r, hr, hr5, hrb⟩ := hrw u (hml u (List.mem_of_getElem? hu))
        have hj := (List.getElem?_eq_some_iff.mp hu).1
        refine go_rowN (j := u) (u := r) (show Dh.Pick _ (Dh.dvs vs (us.map Dh.tN)) _ by kspl_open zz_pk) hr fun t ht => ?_
        have e1 : L2.atI (r.map Dh.nI) (i : Int) = some (Dh.nI (wbit us i u)) := Dh.atI_map (hrb i hi)
        kspl_open zz_vc
        exact Dh.g_lcPutP hp (by kspl_open zz_pk) (by rw [PySem.sizeLine_eq]; omega) hf.symm (by kspl_open zz_ent)
      rw [ftrue]
      refine Dh.Go.conv (P := Dh.pt D2 (.lst (ls.map fun j => Dh.nI (wbit us i j)))) (P' := Dh.pt D2 (.lst ((Dh.cI (ls.map (wbit us i))).map V.int))) (by kspl_open zz_pk) (fun _ h => by rw [← Dh.map_nI, List.map_map]; exact h) ?_
      kspl_open zz_vc
      refine Dh.g_minL (by kspl_open zz_pk) (by unfold Dh.cI; rw [List.length_map, List.length_map]; exact List.length_pos_iff.mpr hne) fun m hm hle => ?_
      obtain rfl : m = (low : Int) := by
        obtain ⟨x, hx, rfl⟩ := List.mem_map.mp hm
        have a1 := m2 x hx
        have a2 := hle (low : Int) (List.mem_map.mpr ⟨low, m1, rfl⟩)
        omega
      kspl_open zz_vc
      refine Dh.Go.conv (P := Dh.pt LN (.lst (ln.map Dh.nI ++ [V.int (low : Int)]))) (P' := Dh.pt LN (.lst ((ln ++ [low]).map Dh.nI))) (by kspl_open zz_pk) (fun _ h => by rw [List.map_append]; exact h) ?_
      refine Dh.g_lcLp (us := ls) (gx := Dh.nI) (fun j => decide (wbit us i j = low)) Dh.nI (show Dh.Pick _ (Dh.pt LF (.lst (ls.map Dh.nI))) _ by kspl_open zz_pk) Dh.ent_refl (fun D j u hu hp hf => ?_) (fun D3 => ?_)
      · obtain ⟨r, hr, hr5, hrb⟩ := hrw u (hml u (List.mem_of_getElem? hu))
        have hj := (List.getElem?_eq_some_iff.mp hu).1
        refine go_rowN (j := u) (u := r) (show Dh.Pick _ (Dh.dvs vs (us.map Dh.tN)) _ by kspl_open zz_pk) hr fun t ht => ?_
        have e1 : L2.atI (r.map Dh.nI) (i : Int) = some (Dh.nI (wbit us i u)) := Dh.atI_map (hrb i hi)
        kspl_open zz_vc
        refine Dh.g_ifF (decide_eq_false (by rw [List.length_map, hr5]; omega)) ?_
        kspl_open zz_vc
        by_cases c : wbit us i u = low
        · refine Dh.g_ifT (dT (by omega)) ?_
          kspl_open zz_vc
          exact Dh.g_lcPutP (by rw [hp]; exact decide_eq_true c) (by kspl_open zz_pk) (by rw [PySem.sizeLine_eq]; omega) hf.symm (by kspl_open zz_ent)
        · refine Dh.g_ifF (dF (by omega)) ?_
          exact Dh.g_lcKeepP (by rw [hp]; exact decide_eq_false c) (by kspl_open zz_pk) (by kspl_open zz_ent)
      kspl_open zz_vc
      exact Dh.SI.in ⟨D3, LN, _, _, _, rfl, by kspl_open zz_ent⟩
    · rintro σ L ⟨LF, LN, v5, v6, v7, rfl, hE⟩
      refine Dh.Go.ent hE ?_
      kspl_open zz_vc
      exact Dh.Go.ent (by kspl_open zz_ent) (k0 _ _ _)
end
end Toy
end

section
local macro_rules | `(tactic| kspl_open zz_ent1) => `(tactic| first | (with_reducible exact Dh.ent_refl) | (with_reducible exact Dh.ent_nil) | (refine' Dh.ent_cons ?q0 ?k; (case q0 => kspl_open zz_pk)) | (with_reducible refine' Toy.ent_ChipAt ?k) | (refine' Dh.ent_drop ?k))
local macro_rules | `(tactic| kspl_open zz_hasm) => `(tactic| first | (refine' Toy.hasM_ChipAt ?q0 ?q1; (case q0 => kspl_open zz_pk); (case q1 => (intros; kspl_open zz_lk))) | (refine' Dh.hasM_ob ?q0 ?q1; (case q0 => kspl_open zz_pk); (case q1 => kspl_open zz_lk)))
local macro_rules | `(tactic| kspl_open zz_open1) => `(tactic| first  | (with_reducible refine' Toy.of_ChipAt ?q0 ?k; (case q0 => kspl_open zz_pk); intros) | (with_reducible refine' Toy.sf_ChipAt ?q0 ?k; (case q0 => kspl_open zz_pk); intros) | (with_reducible refine' Toy.au_ChipAt ?q0 ?k; (case q0 => kspl_open zz_pk); intros))
local macro_rules | `(tactic| kspl_open zz_vc1) => `(tactic| first | ((refine' Dh.wk1 ?k); (repeat (with_reducible intro _))) | kspl_open zz_vcp0 | kspl_open zz_vcp1 | kspl_open zz_vcp2 | kspl_open zz_vcp3 | kspl_open zz_vcp4 | kspl_open zz_vcp5 | kspl_open zz_vcp6 | kspl_open zz_vcp7 | kspl_open zz_vcp8 | kspl_open zz_vcp9 | kspl_open zz_vcp10 | kspl_open zz_use1 | kspl_open zz_told1 | kspl_open zz_open1)
local macro_rules | `(tactic| kspl_open zz_use1) => `(tactic| ((with_reducible refine' Toy.use_law_dice (fun _ _ _ _ => ?k0))))
local macro_rules | `(tactic| kspl_open zz_use1) => `(tactic| ((with_reducible refine' Toy.use_law_roll ?q0 ?h0 ?h1 (fun _ _ => ?k0)); (case q0 => kspl_open zz_pk); (case h0 => kspl_open zz_side); (case h1 => kspl_open zz_side)))
local macro_rules | `(tactic| kspl_open zz_use1) => `(tactic| ((with_reducible refine' Toy.use_begin (fun _ _ => ?k0))))
local macro_rules | `(tactic| kspl_open zz_use1) => `(tactic| ((with_reducible refine' Toy.use_end (fun _ _ => ?k0))))
local macro_rules | `(tactic| kspl_open zz_use1) => `(tactic| ((with_reducible refine' Toy.use_bit (fun _ _ => ?k0))))
local macro_rules | `(tactic| kspl_open zz_use1) => `(tactic| ((with_reducible refine' Toy.use_raised_two ?h0 ?k0); (case h0 => kspl_open zz_side)))
local macro_rules | `(tactic| kspl_open zz_use1) => `(tactic| ((with_reducible refine' Toy.use_octet ?h0 (fun _ _ => ?k0)); (case h0 => kspl_open zz_side)))
local macro_rules | `(tactic| kspl_open zz_use) => `(tactic| ((with_reducible refine' Toy.use_said ?q0 ?q1 ?h0 ?h1 (fun _ _ _ => ?k0) (fun _ => ?k1)); (case q0 => kspl_open zz_pk); (case q1 => kspl_open zz_pk); (case h0 => kspl_open zz_side); (case h1 => kspl_open zz_side)))
local macro_rules | `(tactic| kspl_open zz_use) => `(tactic| ((with_reducible refine' Toy.use_heard_on ?q0 ?q1 ?h0 ?h1 ?h2 (fun _ _ _ _ _ => ?k0) (fun _ _ => ?k1)); (case q0 => kspl_open zz_pk); (case q1 => kspl_open zz_pk); (case h0 => kspl_open zz_side); (case h1 => kspl_open zz_side); (case h2 => kspl_open zz_side)))
local macro_rules | `(tactic| kspl_open zz_use) => `(tactic| ((with_reducible refine' Toy.use_parts_of ?q0 ?q1 ?h0 (fun _ _ _ _ _ => ?k0) (fun _ _ => ?k1)); (case q0 => kspl_open zz_pk); (case q1 => kspl_open zz_pk); (case h0 => kspl_open zz_side)))
local macro_rules | `(tactic| kspl_open zz_use1) => `(tactic| ((with_reducible refine' Toy.use_Chip___init__ ?q0 ?h0 (fun _ => ?k0)); (case q0 => kspl_open zz_pk); (case h0 => kspl_open zz_side)))
local macro_rules | `(tactic| kspl_open zz_use1) => `(tactic| ((with_reducible refine' Toy.use_Chip_give ?q0 ?h0 (fun _ => ?k0)); (case q0 => kspl_open zz_pk); (case h0 => kspl_open zz_side)))
local macro_rules | `(tactic| kspl_open zz_use1) => `(tactic| ((with_reducible refine' Toy.use_Chip_take ?q0 ?q1 ?h0 (fun _ => ?k0)); (case q0 => kspl_open zz_pk); (case q1 => kspl_open zz_pk); (case h0 => kspl_open zz_side)))
local macro_rules | `(tactic| kspl_open zz_use1) => `(tactic| ((with_reducible refine' Toy.use_exchanged ?q0 ?q1 ?q2 ?q3 ?q4 ?h0 ?h1 (fun _ _ => ?k0)); (case q0 => kspl_open zz_pk); (case q1 => kspl_open zz_pk); (case q2 => kspl_open zz_pk); (case q3 => kspl_open zz_pk); (case q4 => kspl_open zz_pk); (case h0 => kspl_open zz_side); (case h1 => kspl_open zz_side)))
local macro_rules | `(tactic| kspl_open zz_use1) => `(tactic| ((with_reducible refine' Toy.use_won ?q0 ?q1 ?h0 ?h1 ?h2 (fun _ _ _ => ?k0)); (case q0 => kspl_open zz_pk); (case q1 => kspl_open zz_pk); (case h0 => kspl_open zz_side); (case h1 => kspl_open zz_side); (case h2 => kspl_open zz_side)))

namespace Toy
open PySem L2
section
variable {P : Program} {w : World} {K : PySem.W.Frag} {mg : Str → Option Value} {base : Heap} {T : List (Addr × Str)} {C_Chip C_BadWord C_BadPlace C_BadPlan C_NotDue C_Stuck C_BadBits C_BadText C_TooLarge g_told : Addr}
theorem nobs_ints : ∀ u : List Nat, Dh.Dt.nobs (u.map fun k : Nat => Dh.Dt.int (k : Int)) = true
  | [] => rfl
  | x :: u => by
    show (true && Dh.Dt.nobs (u.map fun k : Nat => Dh.Dt.int (k : Int))) = true
    rw [nobs_ints u]
    rfl
theorem lays_ints : ∀ u : List Nat, Dh.Dt.lays (u.map fun k : Nat => Dh.Dt.int (k : Int)) = true
  | [] => rfl
  | x :: u => by
    show (true && Dh.Dt.lays (u.map fun k : Nat => Dh.Dt.int (k : Int))) = true
    rw [lays_ints u]
    rfl
theorem tN_ok : Dh.DtOk Dh.tN := ⟨fun u => by simp only [Dh.Dt.nob]; exact nobs_ints u, fun u w e => Dh.tN_inj (by rw [e]), fun u => by simp only [Dh.Dt.lay]; exact lays_ints u, fun u => Nat.le_trans (Dh.dep_tN u) (by decide)⟩
theorem dtOk_eq {α : Type} [DecidableEq α] {f : α → Dh.Dt} (ok : Dh.DtOk f) (u w : α) : PyData.eqv (f u).py (f w).py = decide (u = w) := by
  rw [Dh.eqv_dtD (ok.nob u) (ok.nob w), decide_eq_decide]
  exact ⟨ok.inj u w, fun e => by rw [e]⟩
theorem dv_tN {H : Hp} {L A : List Dh.HP} {t : Addr} {u : List Nat} (pk : Dh.Pick L (Dh.pt t (.tup (u.map Dh.nI))) A) (s : Dh.Seps L H) : Dh.DV H (.ref t) (Dh.tN u) := by
  refine .tup (pk.at s) ?_
  have := Dh.DVs.ints (H := H) (Dh.cI u)
  rw [← Dh.map_nI] at this
  unfold Dh.cI at this
  rw [List.map_map] at this
  exact this
def sg_law_won (T : List (Addr × Str)) (K : PySem.W.Frag) (C_Chip C_BadWord C_BadPlace C_BadPlan C_NotDue C_Stuck C_BadBits C_BadText C_TooLarge g_told : Addr) : Dh.SG :=
  fun zs L Q E => ∃ (a : Addr) (R : List Dh.HP), zs = [.ref a] ∧ Dh.Ent L ((DiceAt a) :: R) ∧ (Dh.Go T ((DiceAt a) :: R) fun H => Q (.bl true) H)
theorem use_law_won {L A0 : List Dh.HP} {Q : VK} {E : XK} {a : Addr} (q0 : Dh.Pick L (DiceAt a) A0)  (k0 : Dh.Go T ((DiceAt a) :: A0) fun H => Q (.bl true) H) : Dh.Go T L fun H => Dh.sOfN T 1 (sg_law_won T K C_Chip C_BadWord C_BadPlace C_BadPlan C_NotDue C_Stuck C_BadBits C_BadText C_TooLarge g_told) [.ref a] H Q E := Dh.g_sp rfl ⟨a, A0, rfl, (Dh.ent_cons q0 Dh.ent_refl), k0⟩
local macro_rules | `(tactic| kspl_open zz_use1) => `(tactic| ((with_reducible refine' Toy.use_law_won ?q0 ?k0); (case q0 => kspl_open zz_pk)))
set_option maxHeartbeats 8000000 in
theorem ok_law_won (Z : Txt K mg C_Chip C_BadWord C_BadPlace C_BadPlan C_NotDue C_Stuck C_BadBits C_BadText C_TooLarge g_told) (c_law_roll : Dh.CalX P w K mg base 1 "_law_roll" (Dh.sOfN T 2 (sg_law_roll T K C_Chip C_BadWord C_BadPlace C_BadPlan C_NotDue C_Stuck C_BadBits C_BadText C_TooLarge g_told))) (c_won : Dh.CalX P w K mg base 1 "won" (Dh.sOfN T 1 (sg_won T K C_Chip C_BadWord C_BadPlace C_BadPlan C_NotDue C_Stuck C_BadBits C_BadText C_TooLarge g_told))) {f : Addr} {fd : FuncData} {cdv : Value} (F : Dh.FunC K "_law_won" "_law_won" s_law_won f fd cdv) :
    FnOk P w K mg base (L2.CX P w) 2 f fd ["dice"] (Dh.sOfN T 1 (sg_law_won T K C_Chip C_BadWord C_BadPlace C_BadPlan C_NotDue C_Stuck C_BadBits C_BadText C_TooLarge g_told)) := by
  refine Dh.fnX (k := 1) F sc_law_won rfl (fun A outer s H0 L vs Q E hr hl h => ?_)
  refine ⟨_, (pss_cons (ps_set (i := 1) sc_law_won.nd rfl (by first | exact Or.inl rfl | exact Or.inr rfl) (pe_op (Dh.oAdd (K := K) rfl) pe_int (Dh.pe_cal c_law_roll hr (by decide) (passes_call (takes_of rfl rfl rfl rfl) (fun _ _ _ _ h => h)) rfl (pa_cons (pv 0) (pa_cons pe_int pa_nil)))))
    (pss_cons (ps_set (i := 2) sc_law_won.nd rfl (by first | exact Or.inl rfl | exact Or.inr rfl) (pe_lc (own := [("j", 4)]) (g := (gName 4)) (tt := tYes) rfl sc_law_won.nd (pi_range1 rfl Z.b_range (pa_cons (pv 1) pa_nil)) (blkOk_by (own := [("j", 4)]) (N := N_law_won) (by kernel_rfl)) (fun _ _ _ _ _ => (pg_name (i := 4) sc_law_won.nd rfl (by first | exact Or.inl rfl | exact Or.inr rfl))) (fun _ _ _ _ _ => pts_nil) (fun _ _ _ _ _ => (pe_callTy (Dh.cTup (K := K) rfl) (by rfl) Z.b_tuple (by first | exact PySem.boot_tuple | exact PyProof.Rows.boot_tuple | decide +kernel) (pa_cons (pe_lc (own := [("k", 5)]) (g := (gName 5)) (tt := tYes) rfl sc_law_won.nd (pi_range1 rfl Z.b_range (pa_cons pe_int pa_nil)) (blkOk_by (own := [("k", 5)]) (N := N_law_won) (by kernel_rfl)) (fun _ _ _ _ _ => (pg_name (i := 5) sc_law_won.nd rfl (by first | exact Or.inl rfl | exact Or.inr rfl))) (fun _ _ _ _ _ => pts_nil) (fun _ _ _ _ _ => (Dh.pe_cal c_law_roll hr (by decide) passL rfl (pa_cons (pv 0) (pa_cons pe_int pa_nil))))) pa_nil)))))
    (pss_cons (ps_set (i := 3) sc_law_won.nd rfl (by first | exact Or.inl rfl | exact Or.inr rfl) (pe_callB (Dh.cMinD (K := K) rfl rfl (Nat.lt_of_le_of_lt (by exact Nat.add_le_add (Nat.le_add_right _ _) (by decide : 70 ≤ 200)) hr.un)) (by rfl) Z.b_min (by first | exact PySem.boot_min | exact PyProof.Rows.boot_min | decide +kernel) (pa_cons (pv 2) pa_nil)))
    (pss_cons (ps_if (pt_cmpR (Dh.oNe (K := K) rfl hr.units) (Dh.pe_cal c_won hr (by decide) (passes_call (takes_of rfl rfl rfl rfl) (fun _ _ _ _ h => h)) rfl (pa_cons (pv 2) pa_nil)) (pe_tup (pa_cons (pe_callTy (Dh.cTup (K := K) rfl) (by rfl) Z.b_tuple (by first | exact PySem.boot_tuple | exact PyProof.Rows.boot_tuple | decide +kernel) (pa_cons (pe_lc (own := [("j", 4)]) (g := (gName 4)) rfl sc_law_won.nd (pi_range1 rfl Z.b_range (pa_cons (pv 1) pa_nil)) (blkOk_by (own := [("j", 4)]) (N := N_law_won) (by kernel_rfl)) (fun _ _ _ _ _ => (pg_name (i := 4) sc_law_won.nd rfl (by first | exact Or.inl rfl | exact Or.inr rfl))) (fun _ _ _ _ _ => pts_one (pt_cmpR (Dh.oEq (K := K) rfl hr.units) (pe_ix (Dh.xSeq (K := K) rfl) (pv 2) (pv 4) (fun _ _ => rfl)) (pv 3) (nomark _))) (fun _ _ _ _ _ => (pv 4))) pa_nil)) (pa_cons (pv 3) pa_nil))) (nomark _))
    (pss_one (ps_ret pe_bl))
    pss_nil)
    (pss_one (ps_ret pe_bl)))))), ?_⟩
  try dsimp only [L2.cxOf, L2.Cx.blk, LamX.lamCx, L2.Cx.tr, L2.Cx.suite]
  obtain ⟨a, R, rfl, hE, k0⟩ := h
  refine Dh.Go.ent hE ?_
  rw [show L2.start N_law_won [.ref a] = [some (.ref a), none, none, none, none, none] from rfl]
  kspl_open zz_vc
  rename_i n1 hn1
  rw [show (2 : Int) + (n1 : Int) = ((2 + n1 : Nat) : Int) by omega, Int.toNat_natCast]
  obtain ⟨n, hn⟩ : ∃ n, n = 2 + n1 := ⟨_, rfl⟩
  rw [← hn]
  have hn2 : 2 ≤ n := by omega
  have hn3 : n ≤ 3 := by omega
  clear hn hn1
  refine Dh.g_lcR (n := n) (lo := 0) (fun j acc L => ∃ rs : List (List Nat), rs.length = j ∧ (∀ u ∈ rs, u.length = 5) ∧ Dh.Ent L (Dh.dvs acc (rs.map Dh.tN) :: DiceAt a :: R)) ⟨[], rfl, by simp, Dh.ent_dvs (vs := []) (ds := []) (fun _ _ => .nil) (by kspl_open zz_ent)⟩ (fun D j acc L hj h => ?_) (fun D acc L h => ?_)
  · obtain ⟨rs, hrl, hr5, hE⟩ := h
    refine Dh.Go.ent (Dh.ent_tail hE) ?_
    kspl_open zz_vc
    refine Dh.g_lcR (n := 5) (lo := 0) (fun j acc2 L => ∃ cs : List Nat, acc2 = cs.map Dh.nI ∧ cs.length = j ∧ Dh.Ent L (Dh.pt D (.lst acc) :: Dh.dvs acc (rs.map Dh.tN) :: DiceAt a :: R)) ⟨[], rfl, rfl, by kspl_open zz_ent⟩ (fun D2 j2 acc2 L hj2 h => ?_) (fun D2 acc2 L h => ?_)
    · obtain ⟨cs, rfl, hcl, hE2⟩ := h
      refine Dh.Go.ent (Dh.ent_tail hE2) ?_
      kspl_open zz_vc
      rename_i x hx
      exact Dh.g_lcAdd (by kspl_open zz_pk) (by rw [List.length_map, PySem.sizeLine_eq]; omega) ⟨cs ++ [x], by rw [List.map_append]; rfl, by rw [List.length_append, hcl]; rfl, by kspl_open zz_ent⟩
    · obtain ⟨cs, rfl, hcl, hE2⟩ := h
      refine Dh.Go.ent (Dh.ent_tail hE2) ?_
      kspl_open zz_vc
      rename_i tq
      refine Dh.go_dvsLen (show Dh.Pick _ (Dh.dvs acc (rs.map Dh.tN)) _ by kspl_open zz_pk) fun hal => ?_
      rw [List.length_map] at hal
      refine Dh.go_dvs (vs := acc ++ [.ref tq]) (ds := (rs ++ [cs]).map Dh.tN) (fun H s => by
        rw [List.map_append]
        exact (Dh.Pick.dvs (by kspl_open zz_pk) s).app (.cons (dv_tN (show Dh.Pick _ (Dh.pt tq (.tup (cs.map Dh.nI))) _ by kspl_open zz_pk) s) .nil)) ?_
      exact Dh.g_lcAdd (by kspl_open zz_pk) (by rw [PySem.sizeLine_eq]; omega) ⟨rs ++ [cs], by rw [List.length_append, hrl]; rfl, fun u hu => by
        rcases List.mem_append.mp hu with hu | hu
        · exact hr5 u hu
        · rw [List.mem_singleton.mp hu]; exact hcl, by kspl_open zz_ent⟩
  · obtain ⟨rs, hrl, hr5, hE⟩ := h
    refine Dh.Go.ent (Dh.ent_tail hE) ?_
    refine Dh.go_dvsLen (show Dh.Pick _ (Dh.dvs acc (rs.map Dh.tN)) _ by kspl_open zz_pk) fun hal => ?_
    rw [List.length_map] at hal
    kspl_open zz_vc
    obtain ⟨r, rt, rfl⟩ : ∃ r rt, rs = r :: rt := by
      cases rs with
      | nil => simp at hrl; omega
      | cons r rt => exact ⟨r, rt, rfl⟩
    obtain ⟨wl1, wl2⟩ := won_law (r := r) (rs := rt) (n := 5) hr5
    refine Dh.g_minR (show Dh.Pick _ (Dh.pt D (.lst acc)) _ by kspl_open zz_pk) (show Dh.Pick _ (Dh.dvs acc ((r :: rt).map Dh.tN)) _ by kspl_open zz_pk) fun lv => ?_
    rw [← wl1]
    kspl_open zz_vc
    refine use_won (vs := acc) (us := r :: rt) (by kspl_open zz_pk) (by kspl_open zz_pk) (by simp) (by omega) hr5 fun wd we wf => ?_
    kspl_open zz_vc
    refine Dh.g_lcRp (n := n) (lo := 0) (fun j => decide ((r :: rt).getD j [] = (wL (r :: rt) 5).2)) Dh.nI Dh.ent_refl (fun D2 j hj => ?_) (fun D2 => ?_)
    · simp only [Int.zero_add]
      obtain ⟨u, hu⟩ : ∃ u, (r :: rt)[j]? = some u := ⟨_, List.getElem?_eq_getElem (by omega)⟩
      have hg : (r :: rt).getD j [] = u := by rw [List.getD_eq_getElem?_getD, hu]; rfl
      refine Dh.go_dvsAt (k := j) (d := Dh.tN u) (show Dh.Pick _ (Dh.dvs acc ((r :: rt).map Dh.tN)) _ by kspl_open zz_pk) (by rw [List.getElem?_map, hu]; rfl) fun y hy => ?_
      have e1 : L2.atI acc (j : Int) = some y := Dh.atI_lt hy
      kspl_open zz_vc
      refine Dh.g_eqDt (d := Dh.tN u) (e := Dh.tN (wL (r :: rt) 5).2) (r := decide (u = (wL (r :: rt) 5).2)) (fun H s => Dh.Pick.dv (by kspl_open zz_pk) s) (fun H s => Dh.Pick.dv (show Dh.Pick _ (Dh.dv lv (Dh.tN (wL (r :: rt) 5).2)) _ by kspl_open zz_pk) s) (tN_ok.lay _) (tN_ok.lay _) (Nat.le_trans (tN_ok.dep _) (by decide)) (Nat.le_trans (tN_ok.dep _) (by decide)) (dtOk_eq tN_ok _ _) ?_
      kspl_open zz_vc
      refine Dh.g_ifD (fun z => ?_) (fun z => ?_)
      · kspl_open zz_vc
        exact Dh.g_lcPutP (by rw [hg]; exact decide_eq_true z) (by kspl_open zz_pk) (by rw [PySem.sizeLine_eq]; omega) rfl (by kspl_open zz_ent)
      · exact Dh.g_lcKeepP (by rw [hg]; exact decide_eq_false z) (by kspl_open zz_pk) (by kspl_open zz_ent)
    · rw [show ((List.range n).filter fun j => decide ((r :: rt).getD j [] = (wL (r :: rt) 5).2)) = (wL (r :: rt) 5).1 by rw [wl1, wl2, hrl]]
      generalize wL (r :: rt) 5 = z
      kspl_open zz_vc
      rename_i t1 t2
      refine Dh.g_neDt (d := .tup [Dh.tN z.1, Dh.tN z.2]) (e := .tup [Dh.tN z.1, Dh.tN z.2]) (r := true) (fun H s => .tup (Dh.Pick.at (show Dh.Pick _ (Dh.pt wd (.tup [.ref we, .ref wf])) _ by kspl_open zz_pk) s) (.cons (dv_tN (show Dh.Pick _ (Dh.pt we (.tup (z.1.map Dh.nI))) _ by kspl_open zz_pk) s) (.cons (dv_tN (show Dh.Pick _ (Dh.pt wf (.tup (z.2.map Dh.nI))) _ by kspl_open zz_pk) s) .nil)))
        (fun H s => .tup (Dh.Pick.at (show Dh.Pick _ (Dh.pt t2 (.tup [.ref t1, lv])) _ by kspl_open zz_pk) s) (.cons (dv_tN (show Dh.Pick _ (Dh.pt t1 (.tup (z.1.map Dh.nI))) _ by kspl_open zz_pk) s) (.cons (Dh.Pick.dv (show Dh.Pick _ (Dh.dv lv (Dh.tN z.2)) _ by kspl_open zz_pk) s) .nil)))
        (by simp only [Dh.Dt.lay, Dh.Dt.lays, lays_ints]; rfl) (by simp only [Dh.Dt.lay, Dh.Dt.lays, lays_ints]; rfl) (by have := tN_ok.dep z.1; have := tN_ok.dep z.2; simp only [Dh.Dt.dep, Dh.Dt.deps] at *; omega) (by have := tN_ok.dep z.1; have := tN_ok.dep z.2; simp only [Dh.Dt.dep, Dh.Dt.deps] at *; omega) (Dh.eqv_dtR _) ?_
      kspl_open zz_vc
      exact Dh.Go.ent (by kspl_open zz_ent) k0
end
end Toy
end

section
local macro_rules | `(tactic| kspl_open zz_ent1) => `(tactic| first | (with_reducible exact Dh.ent_refl) | (with_reducible exact Dh.ent_nil) | (refine' Dh.ent_cons ?q0 ?k; (case q0 => kspl_open zz_pk)) | (with_reducible refine' Toy.ent_ChipAt ?k) | (refine' Dh.ent_drop ?k))
local macro_rules | `(tactic| kspl_open zz_hasm) => `(tactic| first | (refine' Toy.hasM_ChipAt ?q0 ?q1; (case q0 => kspl_open zz_pk); (case q1 => (intros; kspl_open zz_lk))) | (refine' Dh.hasM_ob ?q0 ?q1; (case q0 => kspl_open zz_pk); (case q1 => kspl_open zz_lk)))
local macro_rules | `(tactic| kspl_open zz_open1) => `(tactic| first  | (with_reducible refine' Toy.of_ChipAt ?q0 ?k; (case q0 => kspl_open zz_pk); intros) | (with_reducible refine' Toy.sf_ChipAt ?q0 ?k; (case q0 => kspl_open zz_pk); intros) | (with_reducible refine' Toy.au_ChipAt ?q0 ?k; (case q0 => kspl_open zz_pk); intros))
local macro_rules | `(tactic| kspl_open zz_vc1) => `(tactic| first | ((refine' Dh.wk1 ?k); (repeat (with_reducible intro _))) | kspl_open zz_vcp0 | kspl_open zz_vcp1 | kspl_open zz_vcp2 | kspl_open zz_vcp3 | kspl_open zz_vcp4 | kspl_open zz_vcp5 | kspl_open zz_vcp6 | kspl_open zz_vcp7 | kspl_open zz_vcp8 | kspl_open zz_vcp9 | kspl_open zz_vcp10 | kspl_open zz_use1 | kspl_open zz_told1 | kspl_open zz_open1)
local macro_rules | `(tactic| kspl_open zz_use1) => `(tactic| ((with_reducible refine' Toy.use_law_dice (fun _ _ _ _ => ?k0))))
local macro_rules | `(tactic| kspl_open zz_use1) => `(tactic| ((with_reducible refine' Toy.use_law_roll ?q0 ?h0 ?h1 (fun _ _ => ?k0)); (case q0 => kspl_open zz_pk); (case h0 => kspl_open zz_side); (case h1 => kspl_open zz_side)))
local macro_rules | `(tactic| kspl_open zz_use1) => `(tactic| ((with_reducible refine' Toy.use_begin (fun _ _ => ?k0))))
local macro_rules | `(tactic| kspl_open zz_use1) => `(tactic| ((with_reducible refine' Toy.use_end (fun _ _ => ?k0))))
local macro_rules | `(tactic| kspl_open zz_use1) => `(tactic| ((with_reducible refine' Toy.use_bit (fun _ _ => ?k0))))
local macro_rules | `(tactic| kspl_open zz_use1) => `(tactic| ((with_reducible refine' Toy.use_raised_two ?h0 ?k0); (case h0 => kspl_open zz_side)))
local macro_rules | `(tactic| kspl_open zz_use1) => `(tactic| ((with_reducible refine' Toy.use_octet ?h0 (fun _ _ => ?k0)); (case h0 => kspl_open zz_side)))
local macro_rules | `(tactic| kspl_open zz_use) => `(tactic| ((with_reducible refine' Toy.use_said ?q0 ?q1 ?h0 ?h1 (fun _ _ _ => ?k0) (fun _ => ?k1)); (case q0 => kspl_open zz_pk); (case q1 => kspl_open zz_pk); (case h0 => kspl_open zz_side); (case h1 => kspl_open zz_side)))
local macro_rules | `(tactic| kspl_open zz_use) => `(tactic| ((with_reducible refine' Toy.use_heard_on ?q0 ?q1 ?h0 ?h1 ?h2 (fun _ _ _ _ _ => ?k0) (fun _ _ => ?k1)); (case q0 => kspl_open zz_pk); (case q1 => kspl_open zz_pk); (case h0 => kspl_open zz_side); (case h1 => kspl_open zz_side); (case h2 => kspl_open zz_side)))
local macro_rules | `(tactic| kspl_open zz_use) => `(tactic| ((with_reducible refine' Toy.use_parts_of ?q0 ?q1 ?h0 (fun _ _ _ _ _ => ?k0) (fun _ _ => ?k1)); (case q0 => kspl_open zz_pk); (case q1 => kspl_open zz_pk); (case h0 => kspl_open zz_side)))
local macro_rules | `(tactic| kspl_open zz_use1) => `(tactic| ((with_reducible refine' Toy.use_Chip___init__ ?q0 ?h0 (fun _ => ?k0)); (case q0 => kspl_open zz_pk); (case h0 => kspl_open zz_side)))
local macro_rules | `(tactic| kspl_open zz_use1) => `(tactic| ((with_reducible refine' Toy.use_Chip_give ?q0 ?h0 (fun _ => ?k0)); (case q0 => kspl_open zz_pk); (case h0 => kspl_open zz_side)))
local macro_rules | `(tactic| kspl_open zz_use1) => `(tactic| ((with_reducible refine' Toy.use_Chip_take ?q0 ?q1 ?h0 (fun _ => ?k0)); (case q0 => kspl_open zz_pk); (case q1 => kspl_open zz_pk); (case h0 => kspl_open zz_side)))
local macro_rules | `(tactic| kspl_open zz_use1) => `(tactic| ((with_reducible refine' Toy.use_exchanged ?q0 ?q1 ?q2 ?q3 ?q4 ?h0 ?h1 (fun _ _ => ?k0)); (case q0 => kspl_open zz_pk); (case q1 => kspl_open zz_pk); (case q2 => kspl_open zz_pk); (case q3 => kspl_open zz_pk); (case q4 => kspl_open zz_pk); (case h0 => kspl_open zz_side); (case h1 => kspl_open zz_side)))
local macro_rules | `(tactic| kspl_open zz_use1) => `(tactic| ((with_reducible refine' Toy.use_won ?q0 ?q1 ?h0 ?h1 ?h2 (fun _ _ _ => ?k0)); (case q0 => kspl_open zz_pk); (case q1 => kspl_open zz_pk); (case h0 => kspl_open zz_side); (case h1 => kspl_open zz_side); (case h2 => kspl_open zz_side)))
local macro_rules | `(tactic| kspl_open zz_use1) => `(tactic| ((with_reducible refine' Toy.use_law_won ?q0 ?k0); (case q0 => kspl_open zz_pk)))

namespace Toy
open PySem L2
section
variable {P : Program} {w : World} {K : PySem.W.Frag} {mg : Str → Option Value} {base : Heap} {T : List (Addr × Str)} {C_Chip C_BadWord C_BadPlace C_BadPlan C_NotDue C_Stuck C_BadBits C_BadText C_TooLarge g_told : Addr}
theorem btL_le {m : Nat} (h : m ≤ 1) : ∀ p ∈ btL m, p.2 ≤ 1 := fun p hp => by
  simp [btL] at hp
  rcases hp with rfl | rfl | rfl <;> exact h
theorem oc8_le {n : Nat} : ∀ {k : Nat}, ∀ p ∈ oc8 n k, p.2 ≤ 1
  | 0, p, hp => by simp [oc8] at hp
  | k + 1, p, hp => by
    rw [oc8_snoc] at hp
    rcases List.mem_append.mp hp with hp | hp
    · exact oc8_le p hp
    · exact btL_le (by omega) p hp
theorem ocL_le {n b : Nat} (h : b ≤ 1) : ∀ p ∈ ocL n b, p.2 ≤ 1 := fun p hp => by
  unfold ocL at hp
  rcases List.mem_append.mp hp with hp | hp
  · exact oc8_le p hp
  · exact btL_le h p hp
theorem rowL_le {l : List (Nat × Nat)} (h : ∀ q ∈ l, q.2 ≤ 1) : ∀ p ∈ rowL l, p.2 ≤ 1 := fun p hp => by
  obtain ⟨q, hq, hp⟩ := List.mem_flatMap.mp hp
  exact ocL_le (h q hq) p hp
theorem prL_le {x : Prt} (h : x.fine) : ∀ p ∈ prL x, p.2 ≤ 1 := fun p hp => by
  unfold prL at hp
  rcases List.mem_append.mp hp with hp | hp
  · rcases List.mem_append.mp hp with hp | hp
    · simp [bgL] at hp
      rcases hp with rfl | rfl | rfl <;> decide
    · exact ocL_le (by split <;> decide) p hp
  · exact rowL_le (fun q hq => (h.2 q hq).2) p hp
theorem sdB_le : ∀ {ps : List Prt} {k : Nat}, (∀ p ∈ ps, p.fine) → ∀ p ∈ sdB k ps, p.2 ≤ 1
  | [], k, h, p, hp => by simp [sdB] at hp
  | x :: ps, k, h, p, hp => by
    rw [sdB] at hp
    rcases List.mem_append.mp hp with hp | hp
    · rcases List.mem_append.mp hp with hp | hp
      · split at hp
        · simp at hp
        · simp at hp
          rcases hp with rfl | rfl <;> decide
      · exact prL_le (h x (List.mem_cons_self ..)) p hp
    · exact sdB_le (fun q hq => h q (List.mem_cons_of_mem _ hq)) p hp
theorem sdL_le {ps : List Prt} (h : ∀ p ∈ ps, p.fine) : ∀ p ∈ sdL ps, p.2 ≤ 1 := fun p hp => by
  unfold sdL at hp
  rcases List.mem_append.mp hp with hp | hp
  · rcases List.mem_append.mp hp with hp | hp
    · rw [List.mem_singleton.mp hp]; decide
    · exact sdB_le h p hp
  · simp [enL] at hp
    rcases hp with rfl | rfl | rfl <;> decide
theorem prL_ge {x : Prt} : 30 ≤ (prL x).length := by
  unfold prL
  rw [List.length_append, List.length_append, ocL_len]
  show 30 ≤ 3 + 27 + _
  omega
theorem sdL_ge {ps : List Prt} (h : ps ≠ []) : 34 ≤ (sdL ps).length := by
  cases ps with
  | nil => exact absurd rfl h
  | cons p ps =>
    have := prL_ge (x := p)
    unfold sdL
    rw [sdB]
    simp only [List.length_append, if_pos, List.length_cons, List.length_nil]
    omega
theorem lays_app : ∀ {a b : List Dh.Dt}, Dh.Dt.lays a = true → Dh.Dt.lays b = true → Dh.Dt.lays (a ++ b) = true
  | [], _, _, h => h
  | x :: a, b, h, h2 => by
    show (x.lay && Dh.Dt.lays (a ++ b)) = true
    have h : (x.lay && Dh.Dt.lays a) = true := h
    rw [Bool.and_eq_true] at h ⊢
    exact ⟨h.1, lays_app h.2 h2⟩
theorem pD_lay (p : Prt) : (pD p).lay = true := by
  obtain ⟨pl, rd, row⟩ := p
  cases row with
  | none => rfl
  | some l =>
    simp only [Dh.Dt.lay, Dh.Dt.lays, Bool.true_and, Bool.and_true]
    exact Dh.lays_all fun d hd => by
      obtain ⟨r, _, rfl⟩ := List.mem_map.mp hd
      rfl
theorem pD_dep (p : Prt) : (pD p).dep ≤ 5 := by
  obtain ⟨pl, rd, row⟩ := p
  cases row with
  | none => exact Nat.le_of_ble_eq_true rfl
  | some l =>
    have := Dh.deps_map (f := Dh.dP) (m := 1) (fun _ => Nat.le_of_ble_eq_true rfl) l
    simp only [Dh.Dt.dep, Dh.Dt.deps]
    omega
def hdP (p : Prt) : Nat := 2 * p.pl + p.rd.toNat
end
end Toy
end

section
local macro_rules | `(tactic| kspl_open zz_ent1) => `(tactic| first | (with_reducible exact Dh.ent_refl) | (with_reducible exact Dh.ent_nil) | (refine' Dh.ent_cons ?q0 ?k; (case q0 => kspl_open zz_pk)) | (with_reducible refine' Toy.ent_ChipAt ?k) | (refine' Dh.ent_drop ?k))
local macro_rules | `(tactic| kspl_open zz_hasm) => `(tactic| first | (refine' Toy.hasM_ChipAt ?q0 ?q1; (case q0 => kspl_open zz_pk); (case q1 => (intros; kspl_open zz_lk))) | (refine' Dh.hasM_ob ?q0 ?q1; (case q0 => kspl_open zz_pk); (case q1 => kspl_open zz_lk)))
local macro_rules | `(tactic| kspl_open zz_open1) => `(tactic| first  | (with_reducible refine' Toy.of_ChipAt ?q0 ?k; (case q0 => kspl_open zz_pk); intros) | (with_reducible refine' Toy.sf_ChipAt ?q0 ?k; (case q0 => kspl_open zz_pk); intros) | (with_reducible refine' Toy.au_ChipAt ?q0 ?k; (case q0 => kspl_open zz_pk); intros))
local macro_rules | `(tactic| kspl_open zz_vc1) => `(tactic| first | ((refine' Dh.wk1 ?k); (repeat (with_reducible intro _))) | kspl_open zz_vcp0 | kspl_open zz_vcp1 | kspl_open zz_vcp2 | kspl_open zz_vcp3 | kspl_open zz_vcp4 | kspl_open zz_vcp5 | kspl_open zz_vcp6 | kspl_open zz_vcp7 | kspl_open zz_vcp8 | kspl_open zz_vcp9 | kspl_open zz_vcp10 | kspl_open zz_use1 | kspl_open zz_told1 | kspl_open zz_open1)
local macro_rules | `(tactic| kspl_open zz_use1) => `(tactic| ((with_reducible refine' Toy.use_law_dice (fun _ _ _ _ => ?k0))))
local macro_rules | `(tactic| kspl_open zz_use1) => `(tactic| ((with_reducible refine' Toy.use_law_roll ?q0 ?h0 ?h1 (fun _ _ => ?k0)); (case q0 => kspl_open zz_pk); (case h0 => kspl_open zz_side); (case h1 => kspl_open zz_side)))
local macro_rules | `(tactic| kspl_open zz_use1) => `(tactic| ((with_reducible refine' Toy.use_begin (fun _ _ => ?k0))))
local macro_rules | `(tactic| kspl_open zz_use1) => `(tactic| ((with_reducible refine' Toy.use_end (fun _ _ => ?k0))))
local macro_rules | `(tactic| kspl_open zz_use1) => `(tactic| ((with_reducible refine' Toy.use_bit (fun _ _ => ?k0))))
local macro_rules | `(tactic| kspl_open zz_use1) => `(tactic| ((with_reducible refine' Toy.use_raised_two ?h0 ?k0); (case h0 => kspl_open zz_side)))
local macro_rules | `(tactic| kspl_open zz_use1) => `(tactic| ((with_reducible refine' Toy.use_octet ?h0 (fun _ _ => ?k0)); (case h0 => kspl_open zz_side)))
local macro_rules | `(tactic| kspl_open zz_use) => `(tactic| ((with_reducible refine' Toy.use_said ?q0 ?q1 ?h0 ?h1 (fun _ _ _ => ?k0) (fun _ => ?k1)); (case q0 => kspl_open zz_pk); (case q1 => kspl_open zz_pk); (case h0 => kspl_open zz_side); (case h1 => kspl_open zz_side)))
local macro_rules | `(tactic| kspl_open zz_use) => `(tactic| ((with_reducible refine' Toy.use_heard_on ?q0 ?q1 ?h0 ?h1 ?h2 (fun _ _ _ _ _ => ?k0) (fun _ _ => ?k1)); (case q0 => kspl_open zz_pk); (case q1 => kspl_open zz_pk); (case h0 => kspl_open zz_side); (case h1 => kspl_open zz_side); (case h2 => kspl_open zz_side)))
local macro_rules | `(tactic| kspl_open zz_use) => `(tactic| ((with_reducible refine' Toy.use_parts_of ?q0 ?q1 ?h0 (fun _ _ _ _ _ => ?k0) (fun _ _ => ?k1)); (case q0 => kspl_open zz_pk); (case q1 => kspl_open zz_pk); (case h0 => kspl_open zz_side)))
local macro_rules | `(tactic| kspl_open zz_use1) => `(tactic| ((with_reducible refine' Toy.use_Chip___init__ ?q0 ?h0 (fun _ => ?k0)); (case q0 => kspl_open zz_pk); (case h0 => kspl_open zz_side)))
local macro_rules | `(tactic| kspl_open zz_use1) => `(tactic| ((with_reducible refine' Toy.use_Chip_give ?q0 ?h0 (fun _ => ?k0)); (case q0 => kspl_open zz_pk); (case h0 => kspl_open zz_side)))
local macro_rules | `(tactic| kspl_open zz_use1) => `(tactic| ((with_reducible refine' Toy.use_Chip_take ?q0 ?q1 ?h0 (fun _ => ?k0)); (case q0 => kspl_open zz_pk); (case q1 => kspl_open zz_pk); (case h0 => kspl_open zz_side)))
local macro_rules | `(tactic| kspl_open zz_use1) => `(tactic| ((with_reducible refine' Toy.use_exchanged ?q0 ?q1 ?q2 ?q3 ?q4 ?h0 ?h1 (fun _ _ => ?k0)); (case q0 => kspl_open zz_pk); (case q1 => kspl_open zz_pk); (case q2 => kspl_open zz_pk); (case q3 => kspl_open zz_pk); (case q4 => kspl_open zz_pk); (case h0 => kspl_open zz_side); (case h1 => kspl_open zz_side)))
local macro_rules | `(tactic| kspl_open zz_use1) => `(tactic| ((with_reducible refine' Toy.use_won ?q0 ?q1 ?h0 ?h1 ?h2 (fun _ _ _ => ?k0)); (case q0 => kspl_open zz_pk); (case q1 => kspl_open zz_pk); (case h0 => kspl_open zz_side); (case h1 => kspl_open zz_side); (case h2 => kspl_open zz_side)))
local macro_rules | `(tactic| kspl_open zz_use1) => `(tactic| ((with_reducible refine' Toy.use_law_won ?q0 ?k0); (case q0 => kspl_open zz_pk)))

namespace Toy
open PySem L2
section
variable {P : Program} {w : World} {K : PySem.W.Frag} {mg : Str → Option Value} {base : Heap} {T : List (Addr × Str)} {C_Chip C_BadWord C_BadPlace C_BadPlan C_NotDue C_Stuck C_BadBits C_BadText C_TooLarge g_told : Addr}
def sg_law_levels (T : List (Addr × Str)) (K : PySem.W.Frag) (C_Chip C_BadWord C_BadPlace C_BadPlan C_NotDue C_Stuck C_BadBits C_BadText C_TooLarge g_told : Addr) : Dh.SG :=
  fun zs L Q E => ∃ (a : Addr) (b : Addr) (e : Addr) (f : Addr) (vs : List V) (ps : List Prt) (ws : List V) (ms : List V) (R : List Dh.HP), zs = [.ref a, .ref b, .ref e, .ref f] ∧ Dh.Ent L ((DiceAt a) :: (Dh.pt b (.tup vs)) :: (Dh.dvs vs (ps.map pD)) :: (Dh.pt e (.lst ws)) :: (Dh.dvs ws (ps.map pD)) :: (Dh.pt f (.lst ms)) :: R) ∧ (ps ≠ []) ∧ (ps.length ≤ 3) ∧ (∀ p ∈ ps, p.fine ∧ (p.row.getD []).length ≤ 9) ∧ (ms.length = ps.length) ∧ (Dh.Go T ((DiceAt a) :: R) fun H => Q (.bl true) H)
theorem use_law_levels {L A0 A1 A2 A3 A4 A5 : List Dh.HP} {Q : VK} {E : XK} {a : Addr} {b : Addr} {e : Addr} {f : Addr} {vs : List V} {ps : List Prt} {ws : List V} {ms : List V} (q0 : Dh.Pick L (DiceAt a) A0) (q1 : Dh.Pick A0 (Dh.pt b (.tup vs)) A1) (q2 : Dh.Pick A1 (Dh.dvs vs (ps.map pD)) A2) (q3 : Dh.Pick A2 (Dh.pt e (.lst ws)) A3) (q4 : Dh.Pick A3 (Dh.dvs ws (ps.map pD)) A4) (q5 : Dh.Pick A4 (Dh.pt f (.lst ms)) A5) (h0 : ps ≠ []) (h1 : ps.length ≤ 3) (h2 : ∀ p ∈ ps, p.fine ∧ (p.row.getD []).length ≤ 9) (h3 : ms.length = ps.length) (k0 : Dh.Go T ((DiceAt a) :: A5) fun H => Q (.bl true) H) : Dh.Go T L fun H => Dh.sOfN T 4 (sg_law_levels T K C_Chip C_BadWord C_BadPlace C_BadPlan C_NotDue C_Stuck C_BadBits C_BadText C_TooLarge g_told) [.ref a, .ref b, .ref e, .ref f] H Q E := Dh.g_sp rfl ⟨a, b, e, f, vs, ps, ws, ms, A5, rfl, (Dh.ent_cons q0 (Dh.ent_cons q1 (Dh.ent_cons q2 (Dh.ent_cons q3 (Dh.ent_cons q4 (Dh.ent_cons q5 Dh.ent_refl)))))), h0, h1, h2, h3, k0⟩
local macro_rules | `(tactic| kspl_open zz_use1) => `(tactic| ((with_reducible refine' Toy.use_law_levels ?q0 ?q1 ?q2 ?q3 ?q4 ?q5 ?h0 ?h1 ?h2 ?h3 ?k0); (case q0 => kspl_open zz_pk); (case q1 => kspl_open zz_pk); (case q2 => kspl_open zz_pk); (case q3 => kspl_open zz_pk); (case q4 => kspl_open zz_pk); (case q5 => kspl_open zz_pk); (case h0 => kspl_open zz_side); (case h1 => kspl_open zz_side); (case h2 => kspl_open zz_side); (case h3 => kspl_open zz_side)))
set_option maxHeartbeats 8000000 in
theorem ok_law_levels (Z : Txt K mg C_Chip C_BadWord C_BadPlace C_BadPlan C_NotDue C_Stuck C_BadBits C_BadText C_TooLarge g_told) (c_law_roll : Dh.CalX P w K mg base 1 "_law_roll" (Dh.sOfN T 2 (sg_law_roll T K C_Chip C_BadWord C_BadPlace C_BadPlan C_NotDue C_Stuck C_BadBits C_BadText C_TooLarge g_told))) (c_heard_on : Dh.CalX P w K mg base 3 "heard_on" (Dh.sOfN T 1 (sg_heard_on T K C_Chip C_BadWord C_BadPlace C_BadPlan C_NotDue C_Stuck C_BadBits C_BadText C_TooLarge g_told))) (c_parts_of : Dh.CalX P w K mg base 3 "parts_of" (Dh.sOfN T 1 (sg_parts_of T K C_Chip C_BadWord C_BadPlace C_BadPlan C_NotDue C_Stuck C_BadBits C_BadText C_TooLarge g_told))) (c_said : Dh.CalX P w K mg base 3 "said" (Dh.sOfN T 1 (sg_said T K C_Chip C_BadWord C_BadPlace C_BadPlan C_NotDue C_Stuck C_BadBits C_BadText C_TooLarge g_told))) {cc PP : Addr} (TB : LamX.TabB base mg cc PP) (hmT : (PP, Dh.lamQ (Dh.locQ "_law_levels")) ∈ T) (huT : ∀ p ∈ T, p.1 = PP → p.2 = Dh.lamQ (Dh.locQ "_law_levels")) {f : Addr} {fd : FuncData} (F : Dh.FunC K "_law_levels" "_law_levels" s_law_levels f fd (.ref cc)) :
    FnOk P w K mg base (L2.CX P w) 6 f fd ["dice", "parts", "due", "asks"] (Dh.sOfN T 4 (sg_law_levels T K C_Chip C_BadWord C_BadPlace C_BadPlan C_NotDue C_Stuck C_BadBits C_BadText C_TooLarge g_told)) := by
  refine Dh.fnX (k := 5) F sc_law_levels rfl (fun A outer s H0 L vs Q E hr hl h => ?_)
  refine ⟨_, (pss_cons (ps_set (i := 4) sc_law_levels.nd rfl (by first | exact Or.inl rfl | exact Or.inr rfl) (Dh.pe_cal c_said hr (by decide) (passes_call (takes_of rfl rfl rfl rfl) (fun _ _ _ _ h => h)) rfl (pa_cons (pv 1) pa_nil)))
    (pss_cons (ps_set (i := 5) sc_law_levels.nd rfl (by first | exact Or.inl rfl | exact Or.inr rfl) (Dh.pe_cal c_heard_on hr (by decide) (passes_call (takes_of rfl rfl rfl rfl) (fun _ _ _ _ h => h)) rfl (pa_cons (pv 4) pa_nil)))
    (pss_cons (ps_if (PW.pt (pw_or (pt_cmpR (Dh.oNe (K := K) rfl hr.units) (pe_callTy (Dh.cList (K := K) rfl) (by rfl) Z.b_list (by first | exact PySem.boot_list | exact PyProof.Rows.boot_list | decide +kernel) (pa_cons (Dh.pe_cal c_parts_of hr (by decide) (passes_call (takes_of rfl rfl rfl rfl) (fun _ _ _ _ h => h)) rfl (pa_cons (pv 5) pa_nil)) pa_nil)) (pv 2) (nomark _)) (pw_or1 (pt_cmpR (Dh.oNe (K := K) rfl hr.units) (pe_callB (Dh.cLen (K := K) rfl) (by rfl) Z.b_len (by first | exact PySem.boot_len | exact PyProof.Rows.boot_len | decide +kernel) (pa_cons (pe_lc (own := [("row", 7)]) (g := (gName 7)) rfl sc_law_levels.nd (Dh.piSeq (K := K) rfl (pv 5)) (blkOk_by (own := [("row", 7)]) (N := N_law_levels) (by kernel_rfl)) (fun _ _ _ _ _ => (pg_name (i := 7) sc_law_levels.nd rfl (by first | exact Or.inl rfl | exact Or.inr rfl))) (fun _ _ _ _ _ => pts_one (pt_cmpR (Dh.oEq (K := K) rfl hr.units) (pv 7) (pe_tup (pa_cons pe_str pa_nil)) (nomark _))) (fun _ _ _ _ _ => pe_int)) pa_nil)) (pe_callB (Dh.cLen (K := K) rfl) (by rfl) Z.b_len (by first | exact PySem.boot_len | exact PyProof.Rows.boot_len | decide +kernel) (pa_cons (pv 3) pa_nil)) (nomark _)))))
    (pss_one (ps_ret pe_bl))
    pss_nil)
    (pss_cons (ps_if (pt_cmpR (Dh.oNe (K := K) rfl hr.units) (pe_ix (Dh.xSeq (K := K) rfl) (pv 5) (pe_op op_sub (pe_callB (Dh.cLen (K := K) rfl) (by rfl) Z.b_len (by first | exact PySem.boot_len | exact PyProof.Rows.boot_len | decide +kernel) (pa_cons (pv 5) pa_nil)) pe_int) (fun _ _ => rfl)) (pe_tup (pa_cons pe_str pa_nil)) (nomark _))
    (pss_one (ps_ret pe_bl))
    pss_nil)
    (pss_cons (ps_set (i := 6) sc_law_levels.nd rfl (by first | exact Or.inl rfl | exact Or.inr rfl) (pe_lc (own := [("place", 8), ("reads", 9), ("row", 7)]) (g := (gTup K 3 (gCons (gName 8) (gCons (gName 9) (gCons (gName 7) gNil))))) (tt := tYes) rfl sc_law_levels.nd (Dh.piSeq (K := K) rfl (pv 2)) (blkOk_by (own := [("place", 8), ("reads", 9), ("row", 7)]) (N := N_law_levels) (by kernel_rfl)) (fun _ _ _ _ _ => (Dh.pgTup (K := K) rfl rfl (pgs_cons (pg_name (i := 8) sc_law_levels.nd rfl (by first | exact Or.inl rfl | exact Or.inr rfl)) (pgs_cons (pg_name (i := 9) sc_law_levels.nd rfl (by first | exact Or.inl rfl | exact Or.inr rfl)) (pgs_cons (pg_name (i := 7) sc_law_levels.nd rfl (by first | exact Or.inl rfl | exact Or.inr rfl)) pgs_nil))) rfl rfl)) (fun _ _ _ _ _ => pts_nil) (fun _ _ _ _ _ => (pe_op (Dh.oAdd (K := K) rfl) (pe_op (Dh.oMul (K := K) rfl) pe_int (pv 8)) (pe_callTy Dh.call_intX (by rfl) Z.b_int (by first | exact PySem.boot_int | exact PyProof.Rows.boot_int | decide +kernel) (pa_cons (pv 9) pa_nil))))))
    (pss_cons (ps_if (pt_cmpR (Dh.oNe (K := K) rfl hr.units) (pe_slice (Dh.slSeq (K := K) rfl) (pe_lc (own := [("row", 7)]) (g := (gName 7)) rfl sc_law_levels.nd (Dh.piSeq (K := K) rfl (pv 5)) (blkOk_by (own := [("row", 7)]) (N := N_law_levels) (by kernel_rfl)) (fun _ _ _ _ _ => (pg_name (i := 7) sc_law_levels.nd rfl (by first | exact Or.inl rfl | exact Or.inr rfl))) (fun _ _ _ _ _ => pts_one (PW.pt (pw_and (pt_cmpR (Dh.oEq (K := K) rfl hr.units) (pe_ix (Dh.xSeq (K := K) rfl) (pv 7) pe_int (fun _ _ => rfl)) pe_str (nomark _)) (pw_and1 (pt_cmpR (Dh.oIn (K := K) rfl) (pe_ix (Dh.xSeq (K := K) rfl) (pv 7) pe_int (fun _ _ => rfl)) (pv 6) rfl))))) (fun _ _ _ _ _ => (pe_ix (Dh.xSeq (K := K) rfl) (pv 7) pe_int (fun _ _ => rfl)))) po_none (po_some pe_int)) (pe_slice (Dh.slSeq (K := K) rfl) (pv 6) po_none (po_some pe_int)) (nomark _))
    (pss_one (ps_ret pe_bl))
    pss_nil)
    (pss_cons (ps_if (pt_cmpR (Dh.oNe (K := K) rfl hr.units) (Dh.pe_told (k := 3) (T := T) (cs := [(C_BadWord, "word"), (C_BadPlace, "place"), (C_BadPlan, "plan"), (C_NotDue, "due"), (C_Stuck, "stuck"), (C_BadBits, "bits"), (C_BadText, "text"), (C_TooLarge, "large")]) Z.t_law_told (fun _ _ _ _ _ _ => bnd_law_told) sc_law_told rfl (by first | exact Or.inl rfl | exact Or.inr (Or.inl rfl)) (fun _ _ => told_law_told Z) TB Dh.cx_code Dh.cx_qual hmT huT hr (by decide) (LamX.lamS_by (by kernel_rfl)) rfl (fun _ _ _ _ _ => rfl) rfl (fun A outer s H E f c' hr2 => (Dh.pe_cal c_heard_on hr2 (by decide) (passes_call (takes_of rfl rfl rfl rfl) (fun _ _ _ _ h => h)) rfl (pa_cons (pe_slice (Dh.slSeqW (K := K) rfl) (pv 4) po_none (po_some (pe_op (Dh.oAdd (K := K) rfl) pe_int (Dh.pe_cal c_law_roll hr2 (by decide) (passes_call (takes_of rfl rfl rfl rfl) (fun _ _ _ _ h => h)) rfl (pa_cons (pv 0) (pa_cons (pe_op op_sub (pe_callB (Dh.cLen (K := K) rfl) (by rfl) Z.b_len (by first | exact PySem.boot_len | exact PyProof.Rows.boot_len | decide +kernel) (pa_cons (pv 4) pa_nil)) pe_int) pa_nil)))))) pa_nil)))) pe_str (nomark _))
    (pss_one (ps_ret pe_bl))
    pss_nil)
    (pss_one (ps_ret pe_bl))))))))), ?_⟩
  try dsimp only [L2.cxOf, L2.Cx.blk, LamX.lamCx, L2.Cx.tr, L2.Cx.suite]
  obtain ⟨a, b, e, f, vs, ps, ws, ms, R, rfl, hE, h0, h1, h2, h3, k0⟩ := h
  refine Dh.Go.ent hE ?_
  rw [show L2.start N_law_levels [.ref a, .ref b, .ref e, .ref f] = [some (.ref a), some (.ref b), some (.ref e), some (.ref f), none, none, none, none, none, none] from rfl]
  have hfine : ∀ p ∈ ps, p.fine := fun p hp => (h2 p hp).1
  have hsl := sdB_len ps (fun p hp => (h2 p hp).2) 0
  have hll : (sdL ps).length ≤ 1000 := by
    unfold sdL
    have : enL.length = 3 := rfl
    rw [List.length_append, List.length_append, List.length_singleton]
    omega
  have hlg := sdL_ge h0
  refine Dh.go_dvsLen (show Dh.Pick _ (Dh.dvs ws (ps.map pD)) _ by kspl_open zz_pk) fun hwl => ?_
  rw [List.length_map] at hwl
  kspl_open zz_vc
  refine use_said (fl := false) (vs := vs) (ps := ps) (by kspl_open zz_pk) (show Dh.Pick _ (Dh.dvs vs (ps.map pD)) _ by kspl_open zz_pk) h1 (fun p hp => ⟨(h2 p hp).2, fun q hq => ((hfine p hp).2 q hq).1⟩) (fun lv lvs hpl => ?_) (fun ⟨p, hp, z⟩ => absurd (hfine p hp).1 (by omega))
  kspl_open zz_vc
  refine use_heard_on (vs := lvs) (ls := sdL ps) (by kspl_open zz_pk) (by kspl_open zz_pk) (by omega) (by omega) (sdL_le hfine) (fun ra rws' rs hrs hrl => ?_) (fun d z => by rw [hrd_said h0 hfine] at z; cases z)
  rw [hrd_said h0 hfine] at hrs
  obtain rfl := Option.some.inj hrs
  kspl_open zz_vc
  refine use_parts_of (vs := rws') (rs := rws ps) (by kspl_open zz_pk) (by kspl_open zz_pk) (by omega) (fun pd pvs ps' hps hpl' => ?_) (fun d z => by rw [prs_rws] at z; cases z)
  rw [prs_rws] at hps
  obtain rfl := Option.some.inj hps
  kspl_open zz_vc
  rename_i pl2
  have hlays : Dh.Dt.lays (ps.map pD) = true := Dh.lays_all fun d hd => by
    obtain ⟨r, _, rfl⟩ := List.mem_map.mp hd
    exact pD_lay r
  have hdeps : Dh.Dt.deps (ps.map pD) ≤ 60 := Nat.le_trans (Dh.deps_map pD_dep _) (by decide)
  refine Dh.g_neDs (r := true) (ds := ps.map pD) (es := ps.map pD) (show Dh.Pick _ (Dh.pt pl2 (.lst pvs)) _ by kspl_open zz_pk) (fun H s => Dh.Pick.dvs (show Dh.Pick _ (Dh.dvs pvs (ps.map pD)) _ by kspl_open zz_pk) s) (show Dh.Pick _ (Dh.pt e (.lst ws)) _ by kspl_open zz_pk) (fun H s => Dh.Pick.dvs (show Dh.Pick _ (Dh.dvs ws (ps.map pD)) _ by kspl_open zz_pk) s) hlays hlays hdeps hdeps (Dh.eqv_dtsR _) ?_
  kspl_open zz_vc
  refine Dh.go_dvsLen (show Dh.Pick _ (Dh.dvs rws' ((rws ps).map rD)) _ by kspl_open zz_pk) fun hrwl => ?_
  rw [List.length_map] at hrwl
  have hrb := rws_beg ps
  obtain ⟨i9, hi9, hx9⟩ := rws_last (ps := ps)
  obtain ⟨p0, pt0, hp0⟩ : ∃ p0 pt0, ps = p0 :: pt0 := by
    cases ps with
    | nil => exact absurd rfl h0
    | cons p r => exact ⟨p, r, rfl⟩
  have hoc := rws_oct (p := p0) (ps := pt0) (os := ps.map hdP) (by rw [hp0]; exact List.mem_cons_self ..)
  rw [← hp0] at hoc
  generalize hrws : rws ps = rs at *
  refine Dh.Go.ent (L' := Dh.pt ra (.tup rws') :: Dh.dvs rws' (rs.map rD) :: Dh.pt lv (.tup lvs) :: Dh.dvs lvs ((sdL ps).map Dh.dP) :: DiceAt a :: Dh.pt e (.lst ws) :: Dh.dvs ws (ps.map pD) :: Dh.pt f (.lst ms) :: R) (by kspl_open zz_ent) ?_
  refine Dh.g_lcT (xs := rws') (fun i acc L => acc = List.replicate ((rs.take i).filter fun x => decide (x = .beg)).length (.int 1) ∧ Dh.Ent L (Dh.pt ra (.tup rws') :: Dh.dvs rws' (rs.map rD) :: Dh.pt lv (.tup lvs) :: Dh.dvs lvs ((sdL ps).map Dh.dP) :: DiceAt a :: Dh.pt e (.lst ws) :: Dh.dvs ws (ps.map pD) :: Dh.pt f (.lst ms) :: R)) ⟨rfl, Dh.ent_refl⟩ (fun i acc L h => ⟨_, fun H s => Dh.pick_here H (h.2 H s)⟩) (fun D i x acc L hx h => ?_) (fun D acc L h => ?_)
  · obtain ⟨rfl, hE⟩ := h
    have hi := (List.getElem?_eq_some_iff.mp hx).1
    obtain ⟨r, hr⟩ : ∃ r, rs[i]? = some r := ⟨_, List.getElem?_eq_getElem (by omega)⟩
    have htk : rs.take (i + 1) = rs.take i ++ [r] := by rw [List.take_add_one, hr]; rfl
    have hfl : ((rs.take i).filter fun x => decide (x = Rw.beg)).length ≤ 1000 := Nat.le_trans (List.length_filter_le ..) (by rw [List.length_take]; omega)
    refine Dh.Go.ent (Dh.ent_tail hE) ?_
    refine Dh.go_dvsAt (k := i) (d := rD r) (show Dh.Pick _ (Dh.dvs rws' (rs.map rD)) _ by kspl_open zz_pk) (by rw [List.getElem?_map, hr]; rfl) fun y hy => ?_
    rw [hx] at hy
    cases hy
    kspl_open zz_vc
    rename_i p1
    refine Dh.g_eqDt (d := rD r) (e := .tup [.str "begin"]) (r := decide (r = .beg)) (fun H s => Dh.Pick.dv (show Dh.Pick _ (Dh.dv x (rD r)) _ by kspl_open zz_pk) s) (fun H s => .tup (Dh.Pick.at (show Dh.Pick _ (Dh.pt p1 (.tup [.str "begin"])) _ by kspl_open zz_pk) s) (.cons .str .nil)) (rD_lay r) (by decide +kernel) (Nat.le_trans (rD_dep r) (by decide)) (by decide) (e_beg r) ?_
    kspl_open zz_vc
    refine Dh.g_ifD (fun z => ?_) (fun z => ?_)
    · kspl_open zz_vc
      exact Dh.g_lcAdd (by kspl_open zz_pk) (by rw [List.length_replicate, PySem.sizeLine_eq]; omega) ⟨by rw [htk, List.filter_append, List.length_append, List.filter_cons_of_pos (by simpa using z)]; exact List.replicate_succ'.symm, by kspl_open zz_ent⟩
    · exact Dh.g_lcKeep (by kspl_open zz_pk) ⟨by rw [htk, List.filter_append, List.length_append, List.filter_cons_of_neg (by simpa using z)]; rfl, by kspl_open zz_ent⟩
  obtain ⟨rfl, hE⟩ := h
  refine Dh.Go.ent (Dh.ent_tail hE) ?_
  rw [hrwl, List.take_length, hrb]
  kspl_open zz_vc
  refine Dh.g_ifF (by rw [List.length_replicate, h3]; simp) ?_
  refine Dh.go_dvsAt (k := i9) (d := rD .fin) (show Dh.Pick _ (Dh.dvs rws' (rs.map rD)) _ by kspl_open zz_pk) (by rw [List.getElem?_map, hx9]; rfl) fun y9 hy9 => ?_
  have e9 : L2.atI rws' ((rws'.length : Int) - 1) = some y9 := by
    rw [show (rws'.length : Int) - 1 = (i9 : Int) by omega]
    exact Dh.atI_lt hy9
  kspl_open zz_vc
  rename_i p2
  refine Dh.g_neDt (d := rD .fin) (e := .tup [.str "end"]) (r := true) (fun H s => Dh.Pick.dv (by kspl_open zz_pk) s) (fun H s => .tup (Dh.Pick.at (show Dh.Pick _ (Dh.pt p2 (.tup [.str "end"])) _ by kspl_open zz_pk) s) (.cons .str .nil)) (rD_lay _) (by decide +kernel) (Nat.le_trans (rD_dep _) (by decide)) (by decide) (Dh.eqv_dtR _) ?_
  kspl_open zz_vc
  refine Dh.Go.ent (L' := Dh.pt ra (.tup rws') :: Dh.dvs rws' (rs.map rD) :: Dh.pt lv (.tup lvs) :: Dh.dvs lvs ((sdL ps).map Dh.dP) :: DiceAt a :: Dh.pt e (.lst ws) :: Dh.dvs ws (ps.map pD) :: Dh.pt f (.lst ms) :: R) (by kspl_open zz_ent) ?_
  refine Dh.g_lcL (xs := ws) (fun i acc L => acc = ((ps.take i).map hdP).map Dh.nI ∧ Dh.Ent L (Dh.pt ra (.tup rws') :: Dh.dvs rws' (rs.map rD) :: Dh.pt lv (.tup lvs) :: Dh.dvs lvs ((sdL ps).map Dh.dP) :: DiceAt a :: Dh.pt e (.lst ws) :: Dh.dvs ws (ps.map pD) :: Dh.pt f (.lst ms) :: R)) ⟨rfl, Dh.ent_refl⟩ (fun i acc L h => ⟨_, fun H s => (show Dh.Pick _ (Dh.pt e (.lst ws)) _ by kspl_open zz_pk) H (h.2 H s)⟩) (fun D i x acc L hx h => ?_) (fun D acc L h => ?_)
  · obtain ⟨rfl, hE⟩ := h
    have hi := (List.getElem?_eq_some_iff.mp hx).1
    obtain ⟨r, hr⟩ : ∃ r, ps[i]? = some r := ⟨_, List.getElem?_eq_getElem (by omega)⟩
    have htk : ps.take (i + 1) = ps.take i ++ [r] := by rw [List.take_add_one, hr]; rfl
    refine Dh.Go.ent (Dh.ent_tail hE) ?_
    refine Dh.go_dvsAt (k := i) (d := pD r) (show Dh.Pick _ (Dh.dvs ws (ps.map pD)) _ by kspl_open zz_pk) (by rw [List.getElem?_map, hr]; rfl) fun y hy => ?_
    rw [hx] at hy
    cases hy
    refine Dh.go_dvTri Dh.pick_here fun t z ht => ?_
    subst ht
    kspl_open zz_vc
    have hrd : 2 * (r.pl : Int) + (if r.rd = true then 1 else 0) = ((hdP r : Nat) : Int) := by
      unfold hdP
      cases r.rd <;> rfl
    rw [hrd]
    exact Dh.g_lcAdd (by kspl_open zz_pk) (by rw [List.length_map, List.length_map, List.length_take, PySem.sizeLine_eq]; omega) ⟨by rw [htk, List.map_append, List.map_append]; rfl, by kspl_open zz_ent⟩
  obtain ⟨rfl, hE⟩ := h
  refine Dh.Go.ent (Dh.ent_tail hE) ?_
  rw [hwl, List.take_length]
  kspl_open zz_vc
  obtain ⟨os, hos⟩ : ∃ os, os = ps.map hdP := ⟨_, rfl⟩
  rw [← hos] at hoc ⊢
  refine Dh.g_lcT (xs := rws') (fun i acc L => acc = (((rs.take i).filter fun x => x.isO && decide (x.val ∈ os)).map Rw.val).map Dh.nI ∧ Dh.Ent L (Dh.pt D (.lst (os.map Dh.nI)) :: Dh.pt ra (.tup rws') :: Dh.dvs rws' (rs.map rD) :: Dh.pt lv (.tup lvs) :: Dh.dvs lvs ((sdL ps).map Dh.dP) :: DiceAt a :: Dh.pt e (.lst ws) :: Dh.dvs ws (ps.map pD) :: Dh.pt f (.lst ms) :: R)) ⟨rfl, Dh.ent_refl⟩ (fun i acc L h => ⟨_, fun H s => (show Dh.Pick _ (Dh.pt ra (.tup rws')) _ by kspl_open zz_pk) H (h.2 H s)⟩) (fun D2 i x acc L hx h => ?_) (fun D2 acc L h => ?_)
  · obtain ⟨rfl, hE⟩ := h
    have hi := (List.getElem?_eq_some_iff.mp hx).1
    obtain ⟨r, hr⟩ : ∃ r, rs[i]? = some r := ⟨_, List.getElem?_eq_getElem (by omega)⟩
    have htk : rs.take (i + 1) = rs.take i ++ [r] := by rw [List.take_add_one, hr]; rfl
    have hfl : ((rs.take i).filter fun x => x.isO && decide (x.val ∈ os)).length ≤ 1000 := Nat.le_trans (List.length_filter_le ..) (by rw [List.length_take]; omega)
    refine Dh.Go.ent (Dh.ent_tail hE) ?_
    refine Dh.go_dvsAt (k := i) (d := rD r) (show Dh.Pick _ (Dh.dvs rws' (rs.map rD)) _ by kspl_open zz_pk) (by rw [List.getElem?_map, hr]; rfl) fun y hy => ?_
    rw [hx] at hy
    cases hy
    cases r with
    | beg =>
      refine Dh.go_dvFlat (es := [.str "begin"]) (xs := [.str "begin"]) Dh.pick_here rfl rfl fun t et => ?_
      subst et
      kspl_open zz_vc
      exact Dh.g_lcKeep (by kspl_open zz_pk) ⟨by rw [htk, List.filter_append, List.filter_cons_of_neg (by simp [Rw.isO])]; simp, by kspl_open zz_ent⟩
    | fin =>
      refine Dh.go_dvFlat (es := [.str "end"]) (xs := [.str "end"]) Dh.pick_here rfl rfl fun t et => ?_
      subst et
      kspl_open zz_vc
      exact Dh.g_lcKeep (by kspl_open zz_pk) ⟨by rw [htk, List.filter_append, List.filter_cons_of_neg (by simp [Rw.isO])]; simp, by kspl_open zz_ent⟩
    | oct n c =>
      refine Dh.go_dvFlat (es := [.str "octet", .int (n : Int), .int (c : Int)]) (xs := [.str "octet", .int (n : Int), .int (c : Int)]) Dh.pick_here rfl rfl fun t et => ?_
      subst et
      kspl_open zz_vc
      refine Dh.g_ifD (fun z => ?_) (fun z => ?_)
      · kspl_open zz_vc
        exact Dh.g_lcAdd (by kspl_open zz_pk) (by rw [List.length_map, List.length_map, PySem.sizeLine_eq]; omega) ⟨by rw [htk, List.filter_append, List.filter_cons_of_pos (by simp [Rw.isO, Rw.val, z]), List.map_append, List.map_append]; rfl, by kspl_open zz_ent⟩
      · exact Dh.g_lcKeep (by kspl_open zz_pk) ⟨by rw [htk, List.filter_append, List.filter_cons_of_neg (by simp [Rw.isO, Rw.val, z])]; simp, by kspl_open zz_ent⟩
  obtain ⟨rfl, hE⟩ := h
  refine Dh.Go.ent (Dh.ent_tail hE) ?_
  rw [hrwl, List.take_length]
  kspl_open zz_vc
  rename_i q1 q2
  rw [show (some 1 : Option Int) = some ((1 : Nat) : Int) from rfl, Dh.cut_take, Dh.cut_take]
  refine Dh.Go.conv (P := Dh.pt q1 (.lst (((rs.filter fun x => x.isO && decide (x.val ∈ os)).map Rw.val).map Dh.nI |>.take 1))) (P' := Dh.pt q1 (.lst ([hdP p0].map Dh.nI))) (by kspl_open zz_pk) (fun _ h => by rw [← List.map_take, hoc] at h; exact h) ?_
  refine Dh.Go.conv (P := Dh.pt q2 (.lst ((os.map Dh.nI).take 1))) (P' := Dh.pt q2 (.lst ([hdP p0].map Dh.nI))) (by kspl_open zz_pk) (fun _ h => by rw [← List.map_take, hos, hp0] at h; exact h) ?_
  kspl_open zz_vc
  refine Dh.g_ifF (by simp) ?_
  refine Dh.Go.ent (L' := Dh.pt lv (.tup lvs) :: Dh.dvs lvs ((sdL ps).map Dh.dP) :: DiceAt a :: R) (by kspl_open zz_ent) ?_
  refine Dh.go_dvsLen (show Dh.Pick _ (Dh.dvs lvs ((sdL ps).map Dh.dP)) _ by kspl_open zz_pk) fun hlvl => ?_
  rw [List.length_map] at hlvl
  kspl_open zz_vc
  rename_i c hc
  rw [show (5 : Int) + (c : Int) = ((5 + c : Nat) : Int) by omega]
  refine Dh.g_slW (by kspl_open zz_pk) fun sl => ?_
  rw [Dh.cut_take]
  kspl_open zz_vc
  refine Dh.go_dvs (vs := lvs.take (5 + c)) (ds := ((sdL ps).take (5 + c)).map Dh.dP) (fun H s => by
    rw [List.map_take]
    exact (Dh.Pick.dvs (show Dh.Pick _ (Dh.dvs lvs ((sdL ps).map Dh.dP)) _ by kspl_open zz_pk) s).take _) ?_
  refine use_heard_on (vs := lvs.take (5 + c)) (ls := (sdL ps).take (5 + c)) (by kspl_open zz_pk) (by kspl_open zz_pk) (by rw [List.length_take]; omega) (by rw [List.length_take]; omega) (fun p hp => sdL_le hfine p (List.mem_of_mem_take hp)) (fun d ws3 rs3 h9 _ => ?_) (fun d _ => ?_)
  · rw [hrd_cut h0 (by omega) (by omega)] at h9
    cases h9
  · kspl_open zz_vc
    exact Dh.Go.ent (by kspl_open zz_ent) k0
end
end Toy
end

section
local macro_rules | `(tactic| kspl_open zz_ent1) => `(tactic| first | (with_reducible exact Dh.ent_refl) | (with_reducible exact Dh.ent_nil) | (refine' Dh.ent_cons ?q0 ?k; (case q0 => kspl_open zz_pk)) | (with_reducible refine' Toy.ent_ChipAt ?k) | (refine' Dh.ent_drop ?k))
local macro_rules | `(tactic| kspl_open zz_hasm) => `(tactic| first | (refine' Toy.hasM_ChipAt ?q0 ?q1; (case q0 => kspl_open zz_pk); (case q1 => (intros; kspl_open zz_lk))) | (refine' Dh.hasM_ob ?q0 ?q1; (case q0 => kspl_open zz_pk); (case q1 => kspl_open zz_lk)))
local macro_rules | `(tactic| kspl_open zz_open1) => `(tactic| first  | (with_reducible refine' Toy.of_ChipAt ?q0 ?k; (case q0 => kspl_open zz_pk); intros) | (with_reducible refine' Toy.sf_ChipAt ?q0 ?k; (case q0 => kspl_open zz_pk); intros) | (with_reducible refine' Toy.au_ChipAt ?q0 ?k; (case q0 => kspl_open zz_pk); intros))
local macro_rules | `(tactic| kspl_open zz_vc1) => `(tactic| first | ((refine' Dh.wk1 ?k); (repeat (with_reducible intro _))) | kspl_open zz_vcp0 | kspl_open zz_vcp1 | kspl_open zz_vcp2 | kspl_open zz_vcp3 | kspl_open zz_vcp4 | kspl_open zz_vcp5 | kspl_open zz_vcp6 | kspl_open zz_vcp7 | kspl_open zz_vcp8 | kspl_open zz_vcp9 | kspl_open zz_vcp10 | kspl_open zz_use1 | kspl_open zz_told1 | kspl_open zz_open1)
local macro_rules | `(tactic| kspl_open zz_use1) => `(tactic| ((with_reducible refine' Toy.use_law_dice (fun _ _ _ _ => ?k0))))
local macro_rules | `(tactic| kspl_open zz_use1) => `(tactic| ((with_reducible refine' Toy.use_law_roll ?q0 ?h0 ?h1 (fun _ _ => ?k0)); (case q0 => kspl_open zz_pk); (case h0 => kspl_open zz_side); (case h1 => kspl_open zz_side)))
local macro_rules | `(tactic| kspl_open zz_use1) => `(tactic| ((with_reducible refine' Toy.use_begin (fun _ _ => ?k0))))
local macro_rules | `(tactic| kspl_open zz_use1) => `(tactic| ((with_reducible refine' Toy.use_end (fun _ _ => ?k0))))
local macro_rules | `(tactic| kspl_open zz_use1) => `(tactic| ((with_reducible refine' Toy.use_bit (fun _ _ => ?k0))))
local macro_rules | `(tactic| kspl_open zz_use1) => `(tactic| ((with_reducible refine' Toy.use_raised_two ?h0 ?k0); (case h0 => kspl_open zz_side)))
local macro_rules | `(tactic| kspl_open zz_use1) => `(tactic| ((with_reducible refine' Toy.use_octet ?h0 (fun _ _ => ?k0)); (case h0 => kspl_open zz_side)))
local macro_rules | `(tactic| kspl_open zz_use) => `(tactic| ((with_reducible refine' Toy.use_said ?q0 ?q1 ?h0 ?h1 (fun _ _ _ => ?k0) (fun _ => ?k1)); (case q0 => kspl_open zz_pk); (case q1 => kspl_open zz_pk); (case h0 => kspl_open zz_side); (case h1 => kspl_open zz_side)))
local macro_rules | `(tactic| kspl_open zz_use) => `(tactic| ((with_reducible refine' Toy.use_heard_on ?q0 ?q1 ?h0 ?h1 ?h2 (fun _ _ _ _ _ => ?k0) (fun _ _ => ?k1)); (case q0 => kspl_open zz_pk); (case q1 => kspl_open zz_pk); (case h0 => kspl_open zz_side); (case h1 => kspl_open zz_side); (case h2 => kspl_open zz_side)))
local macro_rules | `(tactic| kspl_open zz_use) => `(tactic| ((with_reducible refine' Toy.use_parts_of ?q0 ?q1 ?h0 (fun _ _ _ _ _ => ?k0) (fun _ _ => ?k1)); (case q0 => kspl_open zz_pk); (case q1 => kspl_open zz_pk); (case h0 => kspl_open zz_side)))
local macro_rules | `(tactic| kspl_open zz_use1) => `(tactic| ((with_reducible refine' Toy.use_Chip___init__ ?q0 ?h0 (fun _ => ?k0)); (case q0 => kspl_open zz_pk); (case h0 => kspl_open zz_side)))
local macro_rules | `(tactic| kspl_open zz_use1) => `(tactic| ((with_reducible refine' Toy.use_Chip_give ?q0 ?h0 (fun _ => ?k0)); (case q0 => kspl_open zz_pk); (case h0 => kspl_open zz_side)))
local macro_rules | `(tactic| kspl_open zz_use1) => `(tactic| ((with_reducible refine' Toy.use_Chip_take ?q0 ?q1 ?h0 (fun _ => ?k0)); (case q0 => kspl_open zz_pk); (case q1 => kspl_open zz_pk); (case h0 => kspl_open zz_side)))
local macro_rules | `(tactic| kspl_open zz_use1) => `(tactic| ((with_reducible refine' Toy.use_exchanged ?q0 ?q1 ?q2 ?q3 ?q4 ?h0 ?h1 (fun _ _ => ?k0)); (case q0 => kspl_open zz_pk); (case q1 => kspl_open zz_pk); (case q2 => kspl_open zz_pk); (case q3 => kspl_open zz_pk); (case q4 => kspl_open zz_pk); (case h0 => kspl_open zz_side); (case h1 => kspl_open zz_side)))
local macro_rules | `(tactic| kspl_open zz_use1) => `(tactic| ((with_reducible refine' Toy.use_won ?q0 ?q1 ?h0 ?h1 ?h2 (fun _ _ _ => ?k0)); (case q0 => kspl_open zz_pk); (case q1 => kspl_open zz_pk); (case h0 => kspl_open zz_side); (case h1 => kspl_open zz_side); (case h2 => kspl_open zz_side)))
local macro_rules | `(tactic| kspl_open zz_use1) => `(tactic| ((with_reducible refine' Toy.use_law_won ?q0 ?k0); (case q0 => kspl_open zz_pk)))
local macro_rules | `(tactic| kspl_open zz_use1) => `(tactic| ((with_reducible refine' Toy.use_law_levels ?q0 ?q1 ?q2 ?q3 ?q4 ?q5 ?h0 ?h1 ?h2 ?h3 ?k0); (case q0 => kspl_open zz_pk); (case q1 => kspl_open zz_pk); (case q2 => kspl_open zz_pk); (case q3 => kspl_open zz_pk); (case q4 => kspl_open zz_pk); (case q5 => kspl_open zz_pk); (case h0 => kspl_open zz_side); (case h1 => kspl_open zz_side); (case h2 => kspl_open zz_side); (case h3 => kspl_open zz_side)))

namespace Toy
open PySem L2
section
variable {P : Program} {w : World} {K : PySem.W.Frag} {mg : Str → Option Value} {base : Heap} {T : List (Addr × Str)} {C_Chip C_BadWord C_BadPlace C_BadPlan C_NotDue C_Stuck C_BadBits C_BadText C_TooLarge g_told : Addr}
def sg_law_refused (T : List (Addr × Str)) (K : PySem.W.Frag) (C_Chip C_BadWord C_BadPlace C_BadPlan C_NotDue C_Stuck C_BadBits C_BadText C_TooLarge g_told : Addr) : Dh.SG :=
  fun zs L Q E => ∃ (R : List Dh.HP), zs = [] ∧ Dh.Ent L (R) ∧ (Dh.Go T (R) fun H => Q (.bl true) H)
theorem use_law_refused {L  : List Dh.HP} {Q : VK} {E : XK}    (k0 : Dh.Go T (L) fun H => Q (.bl true) H) : Dh.Go T L fun H => Dh.sOfN T 0 (sg_law_refused T K C_Chip C_BadWord C_BadPlace C_BadPlan C_NotDue C_Stuck C_BadBits C_BadText C_TooLarge g_told) [] H Q E := Dh.g_sp rfl ⟨L, rfl, Dh.ent_refl, k0⟩
local macro_rules | `(tactic| kspl_open zz_use1) => `(tactic| ((with_reducible refine' Toy.use_law_refused ?k0)))
set_option maxHeartbeats 8000000 in
theorem ok_law_refused (Z : Txt K mg C_Chip C_BadWord C_BadPlace C_BadPlan C_NotDue C_Stuck C_BadBits C_BadText C_TooLarge g_told) (c_parts_of : Dh.CalX P w K mg base 3 "parts_of" (Dh.sOfN T 1 (sg_parts_of T K C_Chip C_BadWord C_BadPlace C_BadPlan C_NotDue C_Stuck C_BadBits C_BadText C_TooLarge g_told))) (c_said : Dh.CalX P w K mg base 3 "said" (Dh.sOfN T 1 (sg_said T K C_Chip C_BadWord C_BadPlace C_BadPlan C_NotDue C_Stuck C_BadBits C_BadText C_TooLarge g_told))) {cc PP : Addr} (TB : LamX.TabB base mg cc PP) (hmT : (PP, Dh.lamQ (Dh.locQ "_law_refused")) ∈ T) (huT : ∀ p ∈ T, p.1 = PP → p.2 = Dh.lamQ (Dh.locQ "_law_refused")) {f : Addr} {fd : FuncData} (F : Dh.FunC K "_law_refused" "_law_refused" s_law_refused f fd (.ref cc)) :
    FnOk P w K mg base (L2.CX P w) 6 f fd [] (Dh.sOfN T 0 (sg_law_refused T K C_Chip C_BadWord C_BadPlace C_BadPlan C_NotDue C_Stuck C_BadBits C_BadText C_TooLarge g_told)) := by
  refine Dh.fnX (k := 5) F sc_law_refused rfl (fun A outer s H0 L vs Q E hr hl h => ?_)
  refine ⟨_, (pss_cons (ps_if (pt_cmpR (Dh.oNe (K := K) rfl hr.units) (Dh.pe_told (k := 3) (T := T) (cs := [(C_BadWord, "word"), (C_BadPlace, "place"), (C_BadPlan, "plan"), (C_NotDue, "due"), (C_Stuck, "stuck"), (C_BadBits, "bits"), (C_BadText, "text"), (C_TooLarge, "large")]) Z.t_law_told (fun _ _ _ _ _ _ => bnd_law_told) sc_law_told rfl (by first | exact Or.inl rfl | exact Or.inr (Or.inl rfl)) (fun _ _ => told_law_told Z) TB Dh.cx_code Dh.cx_qual hmT huT hr (by decide) (LamX.lamS_by (by kernel_rfl)) rfl (fun _ _ _ _ _ => rfl) rfl (fun A outer s H E f c' hr2 => (Dh.pe_cal c_said hr2 (by decide) (passes_call (takes_of rfl rfl rfl rfl) (fun _ _ _ _ h => h)) rfl (pa_cons (pe_lst (pa_cons (pe_tup (pa_cons pe_int (pa_cons pe_bl (pa_cons (pe_tup pa_nil) pa_nil)))) pa_nil)) pa_nil)))) pe_str (nomark _))
    (pss_one (ps_ret pe_bl))
    pss_nil)
    (pss_cons (ps_if (pt_cmpR (Dh.oNe (K := K) rfl hr.units) (Dh.pe_told (k := 3) (T := T) (cs := [(C_BadWord, "word"), (C_BadPlace, "place"), (C_BadPlan, "plan"), (C_NotDue, "due"), (C_Stuck, "stuck"), (C_BadBits, "bits"), (C_BadText, "text"), (C_TooLarge, "large")]) Z.t_law_told (fun _ _ _ _ _ _ => bnd_law_told) sc_law_told rfl (by first | exact Or.inl rfl | exact Or.inr (Or.inl rfl)) (fun _ _ => told_law_told Z) TB Dh.cx_code Dh.cx_qual hmT huT hr (by decide) (LamX.lamS_by (by kernel_rfl)) rfl (fun _ _ _ _ _ => rfl) rfl (fun A outer s H E f c' hr2 => (Dh.pe_cal c_parts_of hr2 (by decide) (passes_call (takes_of rfl rfl rfl rfl) (fun _ _ _ _ h => h)) rfl (pa_cons (pe_tup (pa_cons (pe_tup (pa_cons pe_str (pa_cons pe_int (pa_cons pe_int pa_nil)))) pa_nil)) pa_nil)))) pe_str (nomark _))
    (pss_one (ps_ret pe_bl))
    pss_nil)
    (pss_one (ps_ret pe_bl)))), ?_⟩
  try dsimp only [L2.cxOf, L2.Cx.blk, LamX.lamCx, L2.Cx.tr, L2.Cx.suite]
  obtain ⟨R, rfl, hE, k0⟩ := h
  refine Dh.Go.ent hE ?_
  rw [show L2.start N_law_refused [] = [] from rfl]
  kspl_open zz_vc
  rename_i p0 p1 p2
  refine Dh.go_dvs (vs := [.ref p1]) (ds := [(⟨128, false, some []⟩ : Prt)].map pD) (fun H s => .cons (.tup (Dh.Pick.at (show Dh.Pick _ (Dh.pt p1 (.tup [.int 128, .bl false, .ref p0])) _ by kspl_open zz_pk) s) (.cons .int (.cons .bl (.cons (.tup (Dh.Pick.at (show Dh.Pick _ (Dh.pt p0 (.tup [])) _ by kspl_open zz_pk) s) .nil) .nil)))) .nil) ?_
  refine use_said (fl := true) (vs := [.ref p1]) (ps := [⟨128, false, some []⟩]) (show Dh.Pick _ (Dh.pt p2 (.lst [.ref p1])) _ by kspl_open zz_pk) (by kspl_open zz_pk) (by decide) (by simp) (fun d ws z => absurd (z _ (List.mem_cons_self ..)) (by decide)) (fun _ => ?_)
  kspl_open zz_vc
  rename_i q0 q1
  refine Dh.go_dvs (vs := [.ref q0]) (ds := [Rw.oct 1 0].map rD) (fun H s => .cons (.tup (Dh.Pick.at (show Dh.Pick _ (Dh.pt q0 (.tup [.str "octet", .int 1, .int 0])) _ by kspl_open zz_pk) s) (.cons .str (.cons .int (.cons .int .nil)))) .nil) ?_
  refine use_parts_of (vs := [.ref q0]) (rs := [.oct 1 0]) (by kspl_open zz_pk) (by kspl_open zz_pk) (by decide) (fun d ws ps z => by rw [prs_o] at z; cases z) (fun d _ => ?_)
  kspl_open zz_vc
  exact Dh.Go.ent (by kspl_open zz_ent) k0
end
end Toy
end

section
local macro_rules | `(tactic| kspl_open zz_ent1) => `(tactic| first | (with_reducible exact Dh.ent_refl) | (with_reducible exact Dh.ent_nil) | (refine' Dh.ent_cons ?q0 ?k; (case q0 => kspl_open zz_pk)) | (with_reducible refine' Toy.ent_ChipAt ?k) | (refine' Dh.ent_drop ?k))
local macro_rules | `(tactic| kspl_open zz_hasm) => `(tactic| first | (refine' Toy.hasM_ChipAt ?q0 ?q1; (case q0 => kspl_open zz_pk); (case q1 => (intros; kspl_open zz_lk))) | (refine' Dh.hasM_ob ?q0 ?q1; (case q0 => kspl_open zz_pk); (case q1 => kspl_open zz_lk)))
local macro_rules | `(tactic| kspl_open zz_open1) => `(tactic| first  | (with_reducible refine' Toy.of_ChipAt ?q0 ?k; (case q0 => kspl_open zz_pk); intros) | (with_reducible refine' Toy.sf_ChipAt ?q0 ?k; (case q0 => kspl_open zz_pk); intros) | (with_reducible refine' Toy.au_ChipAt ?q0 ?k; (case q0 => kspl_open zz_pk); intros))
local macro_rules | `(tactic| kspl_open zz_vc1) => `(tactic| first | ((refine' Dh.wk1 ?k); (repeat (with_reducible intro _))) | kspl_open zz_vcp0 | kspl_open zz_vcp1 | kspl_open zz_vcp2 | kspl_open zz_vcp3 | kspl_open zz_vcp4 | kspl_open zz_vcp5 | kspl_open zz_vcp6 | kspl_open zz_vcp7 | kspl_open zz_vcp8 | kspl_open zz_vcp9 | kspl_open zz_vcp10 | kspl_open zz_use1 | kspl_open zz_told1 | kspl_open zz_open1)
local macro_rules | `(tactic| kspl_open zz_use1) => `(tactic| ((with_reducible refine' Toy.use_law_dice (fun _ _ _ _ => ?k0))))
local macro_rules | `(tactic| kspl_open zz_use1) => `(tactic| ((with_reducible refine' Toy.use_law_roll ?q0 ?h0 ?h1 (fun _ _ => ?k0)); (case q0 => kspl_open zz_pk); (case h0 => kspl_open zz_side); (case h1 => kspl_open zz_side)))
local macro_rules | `(tactic| kspl_open zz_use1) => `(tactic| ((with_reducible refine' Toy.use_begin (fun _ _ => ?k0))))
local macro_rules | `(tactic| kspl_open zz_use1) => `(tactic| ((with_reducible refine' Toy.use_end (fun _ _ => ?k0))))
local macro_rules | `(tactic| kspl_open zz_use1) => `(tactic| ((with_reducible refine' Toy.use_bit (fun _ _ => ?k0))))
local macro_rules | `(tactic| kspl_open zz_use1) => `(tactic| ((with_reducible refine' Toy.use_raised_two ?h0 ?k0); (case h0 => kspl_open zz_side)))
local macro_rules | `(tactic| kspl_open zz_use1) => `(tactic| ((with_reducible refine' Toy.use_octet ?h0 (fun _ _ => ?k0)); (case h0 => kspl_open zz_side)))
local macro_rules | `(tactic| kspl_open zz_use) => `(tactic| ((with_reducible refine' Toy.use_said ?q0 ?q1 ?h0 ?h1 (fun _ _ _ => ?k0) (fun _ => ?k1)); (case q0 => kspl_open zz_pk); (case q1 => kspl_open zz_pk); (case h0 => kspl_open zz_side); (case h1 => kspl_open zz_side)))
local macro_rules | `(tactic| kspl_open zz_use) => `(tactic| ((with_reducible refine' Toy.use_heard_on ?q0 ?q1 ?h0 ?h1 ?h2 (fun _ _ _ _ _ => ?k0) (fun _ _ => ?k1)); (case q0 => kspl_open zz_pk); (case q1 => kspl_open zz_pk); (case h0 => kspl_open zz_side); (case h1 => kspl_open zz_side); (case h2 => kspl_open zz_side)))
local macro_rules | `(tactic| kspl_open zz_use) => `(tactic| ((with_reducible refine' Toy.use_parts_of ?q0 ?q1 ?h0 (fun _ _ _ _ _ => ?k0) (fun _ _ => ?k1)); (case q0 => kspl_open zz_pk); (case q1 => kspl_open zz_pk); (case h0 => kspl_open zz_side)))
local macro_rules | `(tactic| kspl_open zz_use1) => `(tactic| ((with_reducible refine' Toy.use_Chip___init__ ?q0 ?h0 (fun _ => ?k0)); (case q0 => kspl_open zz_pk); (case h0 => kspl_open zz_side)))
local macro_rules | `(tactic| kspl_open zz_use1) => `(tactic| ((with_reducible refine' Toy.use_Chip_give ?q0 ?h0 (fun _ => ?k0)); (case q0 => kspl_open zz_pk); (case h0 => kspl_open zz_side)))
local macro_rules | `(tactic| kspl_open zz_use1) => `(tactic| ((with_reducible refine' Toy.use_Chip_take ?q0 ?q1 ?h0 (fun _ => ?k0)); (case q0 => kspl_open zz_pk); (case q1 => kspl_open zz_pk); (case h0 => kspl_open zz_side)))
local macro_rules | `(tactic| kspl_open zz_use1) => `(tactic| ((with_reducible refine' Toy.use_exchanged ?q0 ?q1 ?q2 ?q3 ?q4 ?h0 ?h1 (fun _ _ => ?k0)); (case q0 => kspl_open zz_pk); (case q1 => kspl_open zz_pk); (case q2 => kspl_open zz_pk); (case q3 => kspl_open zz_pk); (case q4 => kspl_open zz_pk); (case h0 => kspl_open zz_side); (case h1 => kspl_open zz_side)))
local macro_rules | `(tactic| kspl_open zz_use1) => `(tactic| ((with_reducible refine' Toy.use_won ?q0 ?q1 ?h0 ?h1 ?h2 (fun _ _ _ => ?k0)); (case q0 => kspl_open zz_pk); (case q1 => kspl_open zz_pk); (case h0 => kspl_open zz_side); (case h1 => kspl_open zz_side); (case h2 => kspl_open zz_side)))
local macro_rules | `(tactic| kspl_open zz_use1) => `(tactic| ((with_reducible refine' Toy.use_law_won ?q0 ?k0); (case q0 => kspl_open zz_pk)))
local macro_rules | `(tactic| kspl_open zz_use1) => `(tactic| ((with_reducible refine' Toy.use_law_levels ?q0 ?q1 ?q2 ?q3 ?q4 ?q5 ?h0 ?h1 ?h2 ?h3 ?k0); (case q0 => kspl_open zz_pk); (case q1 => kspl_open zz_pk); (case q2 => kspl_open zz_pk); (case q3 => kspl_open zz_pk); (case q4 => kspl_open zz_pk); (case q5 => kspl_open zz_pk); (case h0 => kspl_open zz_side); (case h1 => kspl_open zz_side); (case h2 => kspl_open zz_side); (case h3 => kspl_open zz_side)))
local macro_rules | `(tactic| kspl_open zz_use1) => `(tactic| ((with_reducible refine' Toy.use_law_refused ?k0)))

namespace Toy
open PySem L2
section
variable {P : Program} {w : World} {K : PySem.W.Frag} {mg : Str → Option Value} {base : Heap} {T : List (Addr × Str)} {C_Chip C_BadWord C_BadPlace C_BadPlan C_NotDue C_Stuck C_BadBits C_BadText C_TooLarge g_told : Addr}
theorem giN_getD {s : Cst} : ∀ {k j : Nat}, j < k → (giN s k).2.getD j 0 = gi1 (s.1, s.2 + j)
  | k + 1, j, h => by
    have e : (giN s (k + 1)).2 = (giN s k).2 ++ [gi1 (giN s k).1] := rfl
    have hl := (giN_eq (s := s) k).2
    rw [e, List.getD_eq_getElem?_getD]
    by_cases c : j < k
    · rw [List.getElem?_append_left (by omega), ← List.getD_eq_getElem?_getD]
      exact giN_getD c
    · have : j = k := by omega
      subst this
      rw [List.getElem?_append_right (by omega), hl, Nat.sub_self, (giN_eq j).1]
      rfl
theorem gRow_len {s : Cst} {k : Nat} : (gRow s k).length = k := by simp [gRow]
theorem gRow_take {s : Cst} {k j : Nat} (h : j < k) : (gRow s k).take (j + 1) = (gRow s k).take j ++ [(gi1 (s.1, s.2 + j), if j + 1 = k then 1 else 0)] := by
  rw [List.take_add_one]
  unfold gRow
  rw [List.getElem?_map, List.getElem?_range h]
  have e := giN_getD (s := s) h
  show _ ++ [((giN s k).2.getD j 0, if j + 1 = k then 1 else 0)] = _
  rw [e]
/-- what the law draws -/
def Wh.ok2 : Wh → Prop
  | .n k => 1 ≤ k ∧ k ≤ 3
  | .l us => 1 ≤ us.length ∧ us.length ≤ 3 ∧ ∀ u ∈ us, u < 6
theorem Wh.ok_of {w : Wh} (h : w.ok2) : w.ok := by cases w <;> first | exact h.2 | exact h.2.1
def cOk (s : Cst) : Prop := ∀ u ∈ s.1, u < 6
def rOk (p : Prt) : Prop := p.fine ∧ (p.row.getD []).length ≤ 9
theorem tk1_ok {k m : Nat} {s : Cst} (h : cOk s) (hm : m < 6) : cOk (tk1 k s m).1 ∧ (tk1 k s m).2 ≤ 1 := by
  unfold tk1
  split
  · exact ⟨h, by dsimp only; split <;> simp⟩
  · split
    · exact ⟨fun u hu => by
        rcases List.mem_or_eq_of_mem_set hu with hu | rfl
        · exact h u hu
        · exact hm, Nat.zero_le _⟩
    · exact ⟨h, Nat.le_refl _⟩
theorem tkN_ok {s : Cst} {us : List Nat} (h : cOk s) (hu : ∀ u ∈ us, u < 6) : ∀ i, i ≤ us.length → cOk (tkN s us i).1 ∧ ∀ a ∈ (tkN s us i).2, a ≤ 1
  | 0, _ => ⟨h, fun a ha => by simp [tkN] at ha⟩
  | i + 1, hi => by
    obtain ⟨h1, h2⟩ := tkN_ok h hu i (by omega)
    have hm : us.getD i 0 < 6 := by
      rw [List.getD_eq_getElem?_getD, List.getElem?_eq_getElem (by omega)]
      exact hu _ (List.getElem_mem _)
    obtain ⟨h3, h4⟩ := tk1_ok (k := i) h1 hm
    refine ⟨h3, fun a ha => ?_⟩
    have ha : a ∈ (tkN s us i).2 ++ [(tk1 i (tkN s us i).1 (us.getD i 0)).2] := ha
    rcases List.mem_append.mp ha with ha | ha
    · exact h2 a ha
    · rw [List.mem_singleton.mp ha]; exact h4
theorem gi1_ok {s : Cst} (h : cOk s) : gi1 s < 256 := by
  unfold gi1
  split
  · rename_i c
    rw [List.getD_eq_getElem?_getD, List.getElem?_eq_getElem c]
    have := h _ (List.getElem_mem c)
    show s.1[s.2] < 256
    omega
  · decide
theorem on1_ok {s : Cst} {pl : Nat} {w : Wh} (h : cOk s) (hp : pl < 128) (hw : w.ok2) : cOk (on1 s pl w).1 ∧ rOk (on1 s pl w).2 := by
  cases w with
  | n k =>
    have hk : k ≤ 3 := hw.2
    refine ⟨by show cOk (giN s k).1; rw [(giN_eq k).1]; exact h, ⟨hp, fun q hq => ?_⟩, by show (gRow s k).length ≤ 9; rw [gRow_len]; omega⟩
    obtain ⟨j, hj, rfl⟩ := List.mem_map.mp (show q ∈ gRow s k from hq)
    rw [giN_getD (List.mem_range.mp hj)]
    exact ⟨gi1_ok (s := (s.1, s.2 + j)) h, by dsimp only; split <;> decide⟩
  | l us =>
    have h1 := tkN_ok (us := us) h hw.2.2 us.length (Nat.le_refl _)
    have h2 := (tkN_len (s := s) (us := us) us.length).2
    have hl : us.length ≤ 3 := hw.2.1
    refine ⟨h1.1, ⟨hp, fun q hq => ?_⟩, ?_⟩
    · have hq : (q.1, q.2) ∈ us.zip (tkN s us us.length).2 := hq
      have a1 := hw.2.2 _ (List.of_mem_zip hq).1
      exact ⟨by omega, h1.2 _ (List.of_mem_zip hq).2⟩
    · show (us.zip (tkN s us us.length).2).length ≤ 9
      rw [List.length_zip]
      omega
theorem ex1_ok {s : Ch2} {a : Nat × Wh} (h : cOk s.1 ∧ cOk s.2) (ha : a.1 < 128) (hw : a.2.ok2) : (cOk (ex1 s a).1.1 ∧ cOk (ex1 s a).1.2) ∧ rOk (ex1 s a).2 := by
  unfold ex1
  split
  · have := on1_ok (pl := 5) h.1 (by decide) hw
    exact ⟨⟨this.1, h.2⟩, this.2⟩
  · split
    · have := on1_ok (pl := 9) h.2 (by decide) hw
      exact ⟨⟨h.1, this.1⟩, this.2⟩
    · exact ⟨h, ⟨ha, fun q hq => by simp at hq⟩, by simp⟩
theorem exN_snoc {s : Ch2} {as : List (Nat × Wh)} {a : Nat × Wh} : ∀ i, i ≤ as.length → exN s (as ++ [a]) i = exN s as i
  | 0, _ => rfl
  | i + 1, h => by
    show ((ex1 (exN s (as ++ [a]) i).1 ((as ++ [a]).getD i (0, .n 0))).1, _) = ((ex1 (exN s as i).1 (as.getD i (0, .n 0))).1, _)
    have e : (as ++ [a]).getD i (0, .n 0) = as.getD i (0, .n 0) := by
      rw [List.getD_eq_getElem?_getD, List.getD_eq_getElem?_getD, List.getElem?_append_left (by omega)]
    rw [exN_snoc i (by omega), e]
def exL (as : List (Nat × Wh)) : Ch2 × List Prt := exN ((List.replicate 4 0, 0), (List.replicate 3 0, 0)) as as.length
theorem exL_snoc {as : List (Nat × Wh)} {a : Nat × Wh} : exL (as ++ [a]) = ((ex1 (exL as).1 a).1, (exL as).2 ++ [(ex1 (exL as).1 a).2]) := by
  unfold exL
  rw [List.length_append]
  show ((ex1 (exN _ (as ++ [a]) as.length).1 ((as ++ [a]).getD as.length (0, .n 0))).1, (exN _ (as ++ [a]) as.length).2 ++ [(ex1 (exN _ (as ++ [a]) as.length).1 ((as ++ [a]).getD as.length (0, .n 0))).2]) = _
  have e : (as ++ [a]).getD as.length (0, .n 0) = a := by
    rw [List.getD_eq_getElem?_getD, List.getElem?_append_right (Nat.le_refl _), Nat.sub_self]
    rfl
  rw [exN_snoc _ (Nat.le_refl _), e]
theorem exL_len {as : List (Nat × Wh)} : (exL as).2.length = as.length := exN_len _
theorem exL_ok (as : List (Nat × Wh)) : (∀ a ∈ as, a.1 < 128 ∧ a.2.ok2) → (cOk (exL as).1.1 ∧ cOk (exL as).1.2) ∧ ∀ p ∈ (exL as).2, rOk p := by
  suffices ∀ n (as : List (Nat × Wh)), as.length = n → (∀ a ∈ as, a.1 < 128 ∧ a.2.ok2) → (cOk (exL as).1.1 ∧ cOk (exL as).1.2) ∧ ∀ p ∈ (exL as).2, rOk p from this _ as rfl
  intro n
  induction n with
  | zero =>
    intro as hl _
    rw [List.length_eq_zero_iff.mp hl]
    exact ⟨⟨fun u hu => by rw [List.eq_of_mem_replicate hu]; decide, fun u hu => by rw [List.eq_of_mem_replicate hu]; decide⟩, fun p hp => by simp [exL, exN] at hp⟩
  | succ n ih =>
    intro as hl h
    obtain ⟨bs, b, rfl⟩ : ∃ bs b, as = bs ++ [b] := ⟨as.dropLast, as.getLast (by intro z; rw [z] at hl; cases hl), (List.dropLast_concat_getLast _).symm⟩
    have hb := h b (List.mem_append_right _ (List.mem_singleton.mpr rfl))
    obtain ⟨h1, h2⟩ := ih bs (by simpa using hl) fun a ha => h a (List.mem_append_left _ ha)
    obtain ⟨h3, h4⟩ := ex1_ok (s := (exL bs).1) (a := b) h1 hb.1 hb.2
    rw [exL_snoc]
    refine ⟨h3, fun p hp => ?_⟩
    rcases List.mem_append.mp hp with hp | hp
    · exact h2 p hp
    · rw [List.mem_singleton.mp hp]; exact h4
theorem tk1_len2 {s : Ch2} {a : Nat × Wh} : (ex1 s a).1.1.1.length = s.1.1.length ∧ (ex1 s a).1.2.1.length = s.2.1.length := by
  unfold ex1
  split
  · refine ⟨?_, rfl⟩
    cases a.2 with
    | n k => show (giN s.1 k).1.1.length = _; rw [(giN_eq k).1]
    | l us => exact (tkN_len _).1
  · split
    · refine ⟨rfl, ?_⟩
      cases a.2 with
      | n k => show (giN s.2 k).1.1.length = _; rw [(giN_eq k).1]
      | l us => exact (tkN_len _).1
    · exact ⟨rfl, rfl⟩
end
end Toy
end

section
local macro_rules | `(tactic| kspl_open zz_ent1) => `(tactic| first | (with_reducible exact Dh.ent_refl) | (with_reducible exact Dh.ent_nil) | (refine' Dh.ent_cons ?q0 ?k; (case q0 => kspl_open zz_pk)) | (with_reducible refine' Toy.ent_ChipAt ?k) | (refine' Dh.ent_drop ?k))
local macro_rules | `(tactic| kspl_open zz_hasm) => `(tactic| first | (refine' Toy.hasM_ChipAt ?q0 ?q1; (case q0 => kspl_open zz_pk); (case q1 => (intros; kspl_open zz_lk))) | (refine' Dh.hasM_ob ?q0 ?q1; (case q0 => kspl_open zz_pk); (case q1 => kspl_open zz_lk)))
local macro_rules | `(tactic| kspl_open zz_open1) => `(tactic| first  | (with_reducible refine' Toy.of_ChipAt ?q0 ?k; (case q0 => kspl_open zz_pk); intros) | (with_reducible refine' Toy.sf_ChipAt ?q0 ?k; (case q0 => kspl_open zz_pk); intros) | (with_reducible refine' Toy.au_ChipAt ?q0 ?k; (case q0 => kspl_open zz_pk); intros))
local macro_rules | `(tactic| kspl_open zz_vc1) => `(tactic| first | ((refine' Dh.wk1 ?k); (repeat (with_reducible intro _))) | kspl_open zz_vcp0 | kspl_open zz_vcp1 | kspl_open zz_vcp2 | kspl_open zz_vcp3 | kspl_open zz_vcp4 | kspl_open zz_vcp5 | kspl_open zz_vcp6 | kspl_open zz_vcp7 | kspl_open zz_vcp8 | kspl_open zz_vcp9 | kspl_open zz_vcp10 | kspl_open zz_use1 | kspl_open zz_told1 | kspl_open zz_open1)
local macro_rules | `(tactic| kspl_open zz_use1) => `(tactic| ((with_reducible refine' Toy.use_law_dice (fun _ _ _ _ => ?k0))))
local macro_rules | `(tactic| kspl_open zz_use1) => `(tactic| ((with_reducible refine' Toy.use_law_roll ?q0 ?h0 ?h1 (fun _ _ => ?k0)); (case q0 => kspl_open zz_pk); (case h0 => kspl_open zz_side); (case h1 => kspl_open zz_side)))
local macro_rules | `(tactic| kspl_open zz_use1) => `(tactic| ((with_reducible refine' Toy.use_begin (fun _ _ => ?k0))))
local macro_rules | `(tactic| kspl_open zz_use1) => `(tactic| ((with_reducible refine' Toy.use_end (fun _ _ => ?k0))))
local macro_rules | `(tactic| kspl_open zz_use1) => `(tactic| ((with_reducible refine' Toy.use_bit (fun _ _ => ?k0))))
local macro_rules | `(tactic| kspl_open zz_use1) => `(tactic| ((with_reducible refine' Toy.use_raised_two ?h0 ?k0); (case h0 => kspl_open zz_side)))
local macro_rules | `(tactic| kspl_open zz_use1) => `(tactic| ((with_reducible refine' Toy.use_octet ?h0 (fun _ _ => ?k0)); (case h0 => kspl_open zz_side)))
local macro_rules | `(tactic| kspl_open zz_use) => `(tactic| ((with_reducible refine' Toy.use_said ?q0 ?q1 ?h0 ?h1 (fun _ _ _ => ?k0) (fun _ => ?k1)); (case q0 => kspl_open zz_pk); (case q1 => kspl_open zz_pk); (case h0 => kspl_open zz_side); (case h1 => kspl_open zz_side)))
local macro_rules | `(tactic| kspl_open zz_use) => `(tactic| ((with_reducible refine' Toy.use_heard_on ?q0 ?q1 ?h0 ?h1 ?h2 (fun _ _ _ _ _ => ?k0) (fun _ _ => ?k1)); (case q0 => kspl_open zz_pk); (case q1 => kspl_open zz_pk); (case h0 => kspl_open zz_side); (case h1 => kspl_open zz_side); (case h2 => kspl_open zz_side)))
local macro_rules | `(tactic| kspl_open zz_use) => `(tactic| ((with_reducible refine' Toy.use_parts_of ?q0 ?q1 ?h0 (fun _ _ _ _ _ => ?k0) (fun _ _ => ?k1)); (case q0 => kspl_open zz_pk); (case q1 => kspl_open zz_pk); (case h0 => kspl_open zz_side)))
local macro_rules | `(tactic| kspl_open zz_use1) => `(tactic| ((with_reducible refine' Toy.use_Chip___init__ ?q0 ?h0 (fun _ => ?k0)); (case q0 => kspl_open zz_pk); (case h0 => kspl_open zz_side)))
local macro_rules | `(tactic| kspl_open zz_use1) => `(tactic| ((with_reducible refine' Toy.use_Chip_give ?q0 ?h0 (fun _ => ?k0)); (case q0 => kspl_open zz_pk); (case h0 => kspl_open zz_side)))
local macro_rules | `(tactic| kspl_open zz_use1) => `(tactic| ((with_reducible refine' Toy.use_Chip_take ?q0 ?q1 ?h0 (fun _ => ?k0)); (case q0 => kspl_open zz_pk); (case q1 => kspl_open zz_pk); (case h0 => kspl_open zz_side)))
local macro_rules | `(tactic| kspl_open zz_use1) => `(tactic| ((with_reducible refine' Toy.use_exchanged ?q0 ?q1 ?q2 ?q3 ?q4 ?h0 ?h1 (fun _ _ => ?k0)); (case q0 => kspl_open zz_pk); (case q1 => kspl_open zz_pk); (case q2 => kspl_open zz_pk); (case q3 => kspl_open zz_pk); (case q4 => kspl_open zz_pk); (case h0 => kspl_open zz_side); (case h1 => kspl_open zz_side)))
local macro_rules | `(tactic| kspl_open zz_use1) => `(tactic| ((with_reducible refine' Toy.use_won ?q0 ?q1 ?h0 ?h1 ?h2 (fun _ _ _ => ?k0)); (case q0 => kspl_open zz_pk); (case q1 => kspl_open zz_pk); (case h0 => kspl_open zz_side); (case h1 => kspl_open zz_side); (case h2 => kspl_open zz_side)))
local macro_rules | `(tactic| kspl_open zz_use1) => `(tactic| ((with_reducible refine' Toy.use_law_won ?q0 ?k0); (case q0 => kspl_open zz_pk)))
local macro_rules | `(tactic| kspl_open zz_use1) => `(tactic| ((with_reducible refine' Toy.use_law_levels ?q0 ?q1 ?q2 ?q3 ?q4 ?q5 ?h0 ?h1 ?h2 ?h3 ?k0); (case q0 => kspl_open zz_pk); (case q1 => kspl_open zz_pk); (case q2 => kspl_open zz_pk); (case q3 => kspl_open zz_pk); (case q4 => kspl_open zz_pk); (case q5 => kspl_open zz_pk); (case h0 => kspl_open zz_side); (case h1 => kspl_open zz_side); (case h2 => kspl_open zz_side); (case h3 => kspl_open zz_side)))
local macro_rules | `(tactic| kspl_open zz_use1) => `(tactic| ((with_reducible refine' Toy.use_law_refused ?k0)))

namespace Toy
open PySem L2
section
variable {P : Program} {w : World} {K : PySem.W.Frag} {mg : Str → Option Value} {base : Heap} {T : List (Addr × Str)} {C_Chip C_BadWord C_BadPlace C_BadPlan C_NotDue C_Stuck C_BadBits C_BadText C_TooLarge g_told : Addr}
def sg_law_rounds (T : List (Addr × Str)) (K : PySem.W.Frag) (C_Chip C_BadWord C_BadPlace C_BadPlan C_NotDue C_Stuck C_BadBits C_BadText C_TooLarge g_told : Addr) : Dh.SG :=
  fun zs L Q E => ∃ (a : Addr) (m : Nat) (ns : List Int) (R : List Dh.HP), zs = [.ref a, .int (m : Nat)] ∧ Dh.Ent L ((Dh.sq K a (ns.map .int)) :: R) ∧ (m ≤ 1000) ∧ (∀ (p : Addr) (ps : List Addr), Dh.Go T ((Dh.pt p (.lst (ps.map .ref))) :: (Dh.Seps (ps.map DiceAt)) :: R) fun H => Q (.ref p) H)
theorem use_law_rounds {L A0 : List Dh.HP} {Q : VK} {E : XK} {a : Addr} {m : Nat} {ns : List Int} (q0 : Dh.Pick L (Dh.sq K a (ns.map .int)) A0) (h0 : m ≤ 1000) (k0 : ∀ (p : Addr) (ps : List Addr), Dh.Go T ((Dh.pt p (.lst (ps.map .ref))) :: (Dh.Seps (ps.map DiceAt)) :: A0) fun H => Q (.ref p) H) : Dh.Go T L fun H => Dh.sOfN T 2 (sg_law_rounds T K C_Chip C_BadWord C_BadPlace C_BadPlan C_NotDue C_Stuck C_BadBits C_BadText C_TooLarge g_told) [.ref a, .int (m : Nat)] H Q E := Dh.g_sp rfl ⟨a, m, ns, A0, rfl, (Dh.ent_cons q0 Dh.ent_refl), h0, k0⟩
local macro_rules | `(tactic| kspl_open zz_use1) => `(tactic| ((with_reducible refine' Toy.use_law_rounds ?q0 ?h0 (fun _ _ => ?k0)); (case q0 => kspl_open zz_pk); (case h0 => kspl_open zz_side)))
theorem rounds_tail {c : Addr} {v0 v1 v2 : Option V} {xs : List Int} {R : List Dh.HP} {Q : VK} {te : TE} (hx : xs.length ≤ 1000) (k : ∀ (p : Addr) (ps : List Addr), Dh.Go T (Dh.pt p (.lst (ps.map .ref)) :: Dh.Seps (ps.map DiceAt) :: R) fun H => Q (.ref p) H)
    (ht : ∀ (σ : L2.St) (x : Int) (L : List Dh.HP) (Q : VK), σ[3]? = some (some (.int x)) → (∀ p a b c, Dh.Go T (Dh.pt p (.lst [.int a, .int b, .int c]) :: L) fun H => Q (.ref p) H) → Dh.Go T L fun H => te σ H Q) :
    Dh.Go T (Dh.pt c (.lst (xs.map .int)) :: R) fun H => Dh.LcG (Itl K c) (gName 3) tYes te [3] [v0, v1, v2, none] Q H := by
  refine Dh.g_lcL (xs := xs.map .int) (fun i acc L => ∃ ps : List Addr, ps.length = i ∧ acc = ps.map .ref ∧ Dh.Ent L (Dh.pt c (.lst (xs.map .int)) :: Dh.Seps (ps.map DiceAt) :: R)) ⟨[], rfl, rfl, Dh.ent_tail Dh.ent_seps0⟩ ?_ ?_ ?_
  · rintro i acc L ⟨ps, _, rfl, hE⟩
    exact hE.has Dh.pick_here
  · rintro D i x acc L hx' ⟨ps, hl, rfl, hE⟩
    rw [List.getElem?_map] at hx'
    obtain ⟨z, hz, rfl⟩ := Option.map_eq_some_iff.mp hx'
    have hi := (List.getElem?_eq_some_iff.mp hz).1
    refine Dh.g_turn ?_
    refine Dh.g_name ?_
    refine Dh.g_and rfl ?_
    refine Dh.g_tYes ?_
    refine Dh.g_ifT rfl ?_
    refine ht _ z _ _ rfl fun p a b c' => ?_
    refine Dh.g_lcAdd (Dh.pick_there Dh.pick_here) (by rw [List.length_map, PySem.sizeLine_eq]; omega) ⟨ps ++ [p], by rw [List.length_append, hl]; rfl, by rw [List.map_append]; rfl, ?_⟩
    rw [List.map_append]
    refine (Dh.ent_tail hE).trans ?_
    refine (Dh.ent_imp (P' := DiceAt p) fun h e => ⟨_, _, _, e⟩).trans ?_
    exact fun H s => s.swap.impT Dh.seps_snoc
  · rintro D acc L ⟨ps, _, rfl, hE⟩
    exact Dh.Go.ent (Dh.ent_tail (hE.trans (Dh.ent_drop Dh.ent_refl))) (k D ps)
set_option maxHeartbeats 8000000 in
theorem ok_law_rounds (Z : Txt K mg C_Chip C_BadWord C_BadPlace C_BadPlan C_NotDue C_Stuck C_BadBits C_BadText C_TooLarge g_told) (c_law_dice : Dh.CalX P w K mg base 1 "_law_dice" (Dh.sOfN T 1 (sg_law_dice T K C_Chip C_BadWord C_BadPlace C_BadPlan C_NotDue C_Stuck C_BadBits C_BadText C_TooLarge g_told))) {f : Addr} {fd : FuncData} {cdv : Value} (F : Dh.FunC K "_law_rounds" "_law_rounds" s_law_rounds f fd cdv) :
    FnOk P w K mg base (L2.CX P w) 2 f fd ["script", "most"] (Dh.sOfN T 2 (sg_law_rounds T K C_Chip C_BadWord C_BadPlace C_BadPlan C_NotDue C_Stuck C_BadBits C_BadText C_TooLarge g_told)) := by
  refine Dh.fnX (k := 1) F sc_law_rounds rfl (fun A outer s H0 L vs Q E hr hl h => ?_)
  refine ⟨_, (pss_cons (ps_set (i := 2) sc_law_rounds.nd rfl (by first | exact Or.inl rfl | exact Or.inr rfl) (pe_slice (Dh.slSeq (K := K) rfl) (pv 0) po_none (po_some (pv 1))))
    (pss_cons (ps_if (pt_cmpR (Dh.oEq (K := K) rfl hr.units) (pv 2) (pe_lst pa_nil) (nomark _))
    (pss_one (ps_set (i := 2) sc_law_rounds.nd rfl (by first | exact Or.inl rfl | exact Or.inr rfl) (pe_lst (pa_cons pe_int pa_nil))))
    pss_nil)
    (pss_one (ps_ret (pe_lc (own := [("cell", 3)]) (g := (gName 3)) (tt := tYes) rfl sc_law_rounds.nd (Dh.piSeq (K := K) rfl (pv 2)) (blkOk_by (own := [("cell", 3)]) (N := N_law_rounds) (by kernel_rfl)) (fun _ _ _ _ _ => (pg_name (i := 3) sc_law_rounds.nd rfl (by first | exact Or.inl rfl | exact Or.inr rfl))) (fun _ _ _ _ _ => pts_nil) (fun _ _ _ _ _ => (Dh.pe_cal c_law_dice hr (by decide) passL rfl (pa_cons (pv 3) pa_nil)))))))), ?_⟩
  try dsimp only [L2.cxOf, L2.Cx.blk, LamX.lamCx, L2.Cx.tr, L2.Cx.suite]
  obtain ⟨a, m, ns, R, rfl, hE, h0, k0⟩ := h
  refine Dh.Go.ent hE ?_
  rw [show L2.start N_law_rounds [.ref a, .int (m : Nat)] = [some (.ref a), some (.int (m : Nat)), none, none] from rfl]
  kspl_open zz_vcs
  · rename_i c1 c2 hc c3
    rw [show [V.int 0] = [(0 : Int)].map V.int from rfl]
    refine' Dh.Go.ent ?e (rounds_tail (xs := [0]) (c := c3) (by decide) k0 ?ht)
    (case e => kspl_open zz_ent)
    case ht =>
      intro σ x L Q hσ g
      refine Dh.g_call (Dh.g_cons (Dh.g_var hσ (Dh.g_nil ?_)))
      refine use_law_dice ?_
      exact g
  · rename_i c1 c2 hc
    refine' Dh.Go.ent ?e2 (rounds_tail (xs := ns.take m) (c := c1) (by rw [List.length_take]; omega) k0 ?ht2)
    (case e2 => kspl_open zz_ent)
    case ht2 =>
      intro σ x L Q hσ g
      refine Dh.g_call (Dh.g_cons (Dh.g_var hσ (Dh.g_nil ?_)))
      refine use_law_dice ?_
      exact g
end
end Toy
end

section
local macro_rules | `(tactic| kspl_open zz_ent1) => `(tactic| first | (with_reducible exact Dh.ent_refl) | (with_reducible exact Dh.ent_nil) | (refine' Dh.ent_cons ?q0 ?k; (case q0 => kspl_open zz_pk)) | (with_reducible refine' Toy.ent_ChipAt ?k) | (refine' Dh.ent_drop ?k))
local macro_rules | `(tactic| kspl_open zz_hasm) => `(tactic| first | (refine' Toy.hasM_ChipAt ?q0 ?q1; (case q0 => kspl_open zz_pk); (case q1 => (intros; kspl_open zz_lk))) | (refine' Dh.hasM_ob ?q0 ?q1; (case q0 => kspl_open zz_pk); (case q1 => kspl_open zz_lk)))
local macro_rules | `(tactic| kspl_open zz_open1) => `(tactic| first  | (with_reducible refine' Toy.of_ChipAt ?q0 ?k; (case q0 => kspl_open zz_pk); intros) | (with_reducible refine' Toy.sf_ChipAt ?q0 ?k; (case q0 => kspl_open zz_pk); intros) | (with_reducible refine' Toy.au_ChipAt ?q0 ?k; (case q0 => kspl_open zz_pk); intros))
local macro_rules | `(tactic| kspl_open zz_vc1) => `(tactic| first | ((refine' Dh.wk1 ?k); (repeat (with_reducible intro _))) | kspl_open zz_vcp0 | kspl_open zz_vcp1 | kspl_open zz_vcp2 | kspl_open zz_vcp3 | kspl_open zz_vcp4 | kspl_open zz_vcp5 | kspl_open zz_vcp6 | kspl_open zz_vcp7 | kspl_open zz_vcp8 | kspl_open zz_vcp9 | kspl_open zz_vcp10 | kspl_open zz_use1 | kspl_open zz_told1 | kspl_open zz_open1)
local macro_rules | `(tactic| kspl_open zz_use1) => `(tactic| ((with_reducible refine' Toy.use_law_dice (fun _ _ _ _ => ?k0))))
local macro_rules | `(tactic| kspl_open zz_use1) => `(tactic| ((with_reducible refine' Toy.use_law_roll ?q0 ?h0 ?h1 (fun _ _ => ?k0)); (case q0 => kspl_open zz_pk); (case h0 => kspl_open zz_side); (case h1 => kspl_open zz_side)))
local macro_rules | `(tactic| kspl_open zz_use1) => `(tactic| ((with_reducible refine' Toy.use_begin (fun _ _ => ?k0))))
local macro_rules | `(tactic| kspl_open zz_use1) => `(tactic| ((with_reducible refine' Toy.use_end (fun _ _ => ?k0))))
local macro_rules | `(tactic| kspl_open zz_use1) => `(tactic| ((with_reducible refine' Toy.use_bit (fun _ _ => ?k0))))
local macro_rules | `(tactic| kspl_open zz_use1) => `(tactic| ((with_reducible refine' Toy.use_raised_two ?h0 ?k0); (case h0 => kspl_open zz_side)))
local macro_rules | `(tactic| kspl_open zz_use1) => `(tactic| ((with_reducible refine' Toy.use_octet ?h0 (fun _ _ => ?k0)); (case h0 => kspl_open zz_side)))
local macro_rules | `(tactic| kspl_open zz_use) => `(tactic| ((with_reducible refine' Toy.use_said ?q0 ?q1 ?h0 ?h1 (fun _ _ _ => ?k0) (fun _ => ?k1)); (case q0 => kspl_open zz_pk); (case q1 => kspl_open zz_pk); (case h0 => kspl_open zz_side); (case h1 => kspl_open zz_side)))
local macro_rules | `(tactic| kspl_open zz_use) => `(tactic| ((with_reducible refine' Toy.use_heard_on ?q0 ?q1 ?h0 ?h1 ?h2 (fun _ _ _ _ _ => ?k0) (fun _ _ => ?k1)); (case q0 => kspl_open zz_pk); (case q1 => kspl_open zz_pk); (case h0 => kspl_open zz_side); (case h1 => kspl_open zz_side); (case h2 => kspl_open zz_side)))
local macro_rules | `(tactic| kspl_open zz_use) => `(tactic| ((with_reducible refine' Toy.use_parts_of ?q0 ?q1 ?h0 (fun _ _ _ _ _ => ?k0) (fun _ _ => ?k1)); (case q0 => kspl_open zz_pk); (case q1 => kspl_open zz_pk); (case h0 => kspl_open zz_side)))
local macro_rules | `(tactic| kspl_open zz_use1) => `(tactic| ((with_reducible refine' Toy.use_Chip___init__ ?q0 ?h0 (fun _ => ?k0)); (case q0 => kspl_open zz_pk); (case h0 => kspl_open zz_side)))
local macro_rules | `(tactic| kspl_open zz_use1) => `(tactic| ((with_reducible refine' Toy.use_Chip_give ?q0 ?h0 (fun _ => ?k0)); (case q0 => kspl_open zz_pk); (case h0 => kspl_open zz_side)))
local macro_rules | `(tactic| kspl_open zz_use1) => `(tactic| ((with_reducible refine' Toy.use_Chip_take ?q0 ?q1 ?h0 (fun _ => ?k0)); (case q0 => kspl_open zz_pk); (case q1 => kspl_open zz_pk); (case h0 => kspl_open zz_side)))
local macro_rules | `(tactic| kspl_open zz_use1) => `(tactic| ((with_reducible refine' Toy.use_exchanged ?q0 ?q1 ?q2 ?q3 ?q4 ?h0 ?h1 (fun _ _ => ?k0)); (case q0 => kspl_open zz_pk); (case q1 => kspl_open zz_pk); (case q2 => kspl_open zz_pk); (case q3 => kspl_open zz_pk); (case q4 => kspl_open zz_pk); (case h0 => kspl_open zz_side); (case h1 => kspl_open zz_side)))
local macro_rules | `(tactic| kspl_open zz_use1) => `(tactic| ((with_reducible refine' Toy.use_won ?q0 ?q1 ?h0 ?h1 ?h2 (fun _ _ _ => ?k0)); (case q0 => kspl_open zz_pk); (case q1 => kspl_open zz_pk); (case h0 => kspl_open zz_side); (case h1 => kspl_open zz_side); (case h2 => kspl_open zz_side)))
local macro_rules | `(tactic| kspl_open zz_use1) => `(tactic| ((with_reducible refine' Toy.use_law_won ?q0 ?k0); (case q0 => kspl_open zz_pk)))
local macro_rules | `(tactic| kspl_open zz_use1) => `(tactic| ((with_reducible refine' Toy.use_law_levels ?q0 ?q1 ?q2 ?q3 ?q4 ?q5 ?h0 ?h1 ?h2 ?h3 ?k0); (case q0 => kspl_open zz_pk); (case q1 => kspl_open zz_pk); (case q2 => kspl_open zz_pk); (case q3 => kspl_open zz_pk); (case q4 => kspl_open zz_pk); (case q5 => kspl_open zz_pk); (case h0 => kspl_open zz_side); (case h1 => kspl_open zz_side); (case h2 => kspl_open zz_side); (case h3 => kspl_open zz_side)))
local macro_rules | `(tactic| kspl_open zz_use1) => `(tactic| ((with_reducible refine' Toy.use_law_refused ?k0)))
local macro_rules | `(tactic| kspl_open zz_use1) => `(tactic| ((with_reducible refine' Toy.use_law_rounds ?q0 ?h0 (fun _ _ => ?k0)); (case q0 => kspl_open zz_pk); (case h0 => kspl_open zz_side)))

namespace Toy
open PySem L2
section
variable {P : Program} {w : World} {K : PySem.W.Frag} {mg : Str → Option Value} {base : Heap} {T : List (Addr × Str)} {C_Chip C_BadWord C_BadPlace C_BadPlan C_NotDue C_Stuck C_BadBits C_BadText C_TooLarge g_told : Addr}
def sg_law (T : List (Addr × Str)) (K : PySem.W.Frag) (C_Chip C_BadWord C_BadPlace C_BadPlan C_NotDue C_Stuck C_BadBits C_BadText C_TooLarge g_told : Addr) : Dh.SG :=
  fun zs L Q E => ∃ (a : Addr) (ns : List Int) (R : List Dh.HP), zs = [.ref a] ∧ Dh.Ent L ((Dh.sq K a (ns.map .int)) :: R) ∧ (Dh.Go T (R) fun H => Q (.bl true) H)
theorem use_law {L A0 : List Dh.HP} {Q : VK} {E : XK} {a : Addr} {ns : List Int} (q0 : Dh.Pick L (Dh.sq K a (ns.map .int)) A0)  (k0 : Dh.Go T (A0) fun H => Q (.bl true) H) : Dh.Go T L fun H => Dh.sOfN T 1 (sg_law T K C_Chip C_BadWord C_BadPlace C_BadPlan C_NotDue C_Stuck C_BadBits C_BadText C_TooLarge g_told) [.ref a] H Q E := Dh.g_sp rfl ⟨a, ns, A0, rfl, (Dh.ent_cons q0 Dh.ent_refl), k0⟩
local macro_rules | `(tactic| kspl_open zz_use1) => `(tactic| ((with_reducible refine' Toy.use_law ?q0 ?k0); (case q0 => kspl_open zz_pk)))
set_option maxHeartbeats 8000000 in
theorem ok_law (Z : Txt K mg C_Chip C_BadWord C_BadPlace C_BadPlan C_NotDue C_Stuck C_BadBits C_BadText C_TooLarge g_told) (c_Chip : Dh.MakX P w K mg base 1 "Chip" C_Chip (Dh.sOfN T 3 (sg_Chip___init__ T K C_Chip C_BadWord C_BadPlace C_BadPlan C_NotDue C_Stuck C_BadBits C_BadText C_TooLarge g_told))) (c_law_levels : Dh.CalX P w K mg base 6 "_law_levels" (Dh.sOfN T 4 (sg_law_levels T K C_Chip C_BadWord C_BadPlace C_BadPlan C_NotDue C_Stuck C_BadBits C_BadText C_TooLarge g_told))) (c_law_refused : Dh.CalX P w K mg base 6 "_law_refused" (Dh.sOfN T 0 (sg_law_refused T K C_Chip C_BadWord C_BadPlace C_BadPlan C_NotDue C_Stuck C_BadBits C_BadText C_TooLarge g_told))) (c_law_roll : Dh.CalX P w K mg base 1 "_law_roll" (Dh.sOfN T 2 (sg_law_roll T K C_Chip C_BadWord C_BadPlace C_BadPlan C_NotDue C_Stuck C_BadBits C_BadText C_TooLarge g_told))) (c_law_rounds : Dh.CalX P w K mg base 2 "_law_rounds" (Dh.sOfN T 2 (sg_law_rounds T K C_Chip C_BadWord C_BadPlace C_BadPlan C_NotDue C_Stuck C_BadBits C_BadText C_TooLarge g_told))) (c_law_won : Dh.CalX P w K mg base 2 "_law_won" (Dh.sOfN T 1 (sg_law_won T K C_Chip C_BadWord C_BadPlace C_BadPlan C_NotDue C_Stuck C_BadBits C_BadText C_TooLarge g_told))) (c_exchanged : Dh.CalX P w K mg base 2 "exchanged" (Dh.sOfN T 2 (sg_exchanged T K C_Chip C_BadWord C_BadPlace C_BadPlan C_NotDue C_Stuck C_BadBits C_BadText C_TooLarge g_told))) {f : Addr} {fd : FuncData} {cdv : Value} (F : Dh.FunC K "law" "law" s_law f fd cdv) :
    FnOk P w K mg base (L2.CX P w) 7 f fd ["script"] (Dh.sOfN T 1 (sg_law T K C_Chip C_BadWord C_BadPlace C_BadPlan C_NotDue C_Stuck C_BadBits C_BadText C_TooLarge g_told)) := by
  refine Dh.fnX (k := 6) F sc_law rfl (fun A outer s H0 L vs Q E hr hl h => ?_)
  refine ⟨_, (pss_cons (ps_for (passes_of rfl) rfl (Dh.piSeq (K := K) rfl (Dh.pe_cal c_law_rounds hr (by decide) (passes_call (takes_of rfl rfl rfl rfl) (fun _ _ _ _ h => h)) rfl (pa_cons (pv 0) (pa_cons pe_int pa_nil)))) (pg_name (i := 1) sc_law.nd rfl (by first | exact Or.inl rfl | exact Or.inr rfl))
    (pss_cons (ps_asg (pe_tup (pa_cons (pe_lst pa_nil) (pa_cons (pe_disp (pps_cons pe_int (pe_op (Dh.oMul (K := K) rfl) (pe_lst (pa_cons pe_int pa_nil)) pe_int) (pps_cons pe_int (pe_op (Dh.oMul (K := K) rfl) (pe_lst (pa_cons pe_int pa_nil)) pe_int) pps_nil)) (by rfl) (by rfl) (fun z => by cases z) (by decide)) (pa_cons (pe_disp (pps_cons pe_int pe_int (pps_cons pe_int pe_int pps_nil)) (by rfl) (by rfl) (fun z => by cases z) (by decide)) (pa_cons (pe_lst pa_nil) pa_nil))))) (Dh.pgTup (K := K) rfl rfl (pgs_cons (pg_name (i := 2) sc_law.nd rfl (by first | exact Or.inl rfl | exact Or.inr rfl)) (pgs_cons (pg_name (i := 3) sc_law.nd rfl (by first | exact Or.inl rfl | exact Or.inr rfl)) (pgs_cons (pg_name (i := 4) sc_law.nd rfl (by first | exact Or.inl rfl | exact Or.inr rfl)) (pgs_cons (pg_name (i := 5) sc_law.nd rfl (by first | exact Or.inl rfl | exact Or.inr rfl)) pgs_nil)))) rfl rfl))
    (pss_cons (ps_for (passes_of rfl) rfl (pi_range1 rfl Z.b_range (pa_cons (pe_op (Dh.oAdd (K := K) rfl) pe_int (Dh.pe_cal c_law_roll hr (by decide) (passes_call (takes_of rfl rfl rfl rfl) (fun _ _ _ _ h => h)) rfl (pa_cons (pv 1) (pa_cons pe_int pa_nil)))) pa_nil)) (pg_name (i := 6) sc_law.nd rfl (by first | exact Or.inl rfl | exact Or.inr rfl))
    (pss_cons (ps_set (i := 7) sc_law.nd rfl (by first | exact Or.inl rfl | exact Or.inr rfl) (pe_ix (Dh.xSeq (K := K) rfl) (pe_lst (pa_cons pe_int (pa_cons pe_int (pa_cons pe_int pa_nil)))) (Dh.pe_cal c_law_roll hr (by decide) (passes_call (takes_of rfl rfl rfl rfl) (fun _ _ _ _ h => h)) rfl (pa_cons (pv 1) (pa_cons pe_int pa_nil))) (fun _ _ => rfl)))
    (Evl.pss_cut (ps_set (i := 8) sc_law.nd rfl (by first | exact Or.inl rfl | exact Or.inr rfl) (pe_ifExp (pt_cmpR (Dh.oEq (K := K) rfl hr.units) (Dh.pe_cal c_law_roll hr (by decide) (passes_call (takes_of rfl rfl rfl rfl) (fun _ _ _ _ h => h)) rfl (pa_cons (pv 1) (pa_cons pe_int pa_nil))) pe_int (nomark _)) (pe_op (Dh.oAdd (K := K) rfl) pe_int (Dh.pe_cal c_law_roll hr (by decide) (passes_call (takes_of rfl rfl rfl rfl) (fun _ _ _ _ h => h)) rfl (pa_cons (pv 1) (pa_cons pe_int pa_nil)))) (pe_callTy (Dh.cTup (K := K) rfl) (by rfl) Z.b_tuple (by first | exact PySem.boot_tuple | exact PyProof.Rows.boot_tuple | decide +kernel) (pa_cons (pe_lc (own := [("k", 11)]) (g := (gName 11)) (tt := tYes) rfl sc_law.nd (pi_range1 rfl Z.b_range (pa_cons (pe_op (Dh.oAdd (K := K) rfl) pe_int (Dh.pe_cal c_law_roll hr (by decide) (passes_call (takes_of rfl rfl rfl rfl) (fun _ _ _ _ h => h)) rfl (pa_cons (pv 1) (pa_cons pe_int pa_nil)))) pa_nil)) (blkOk_by (own := [("k", 11)]) (N := N_law) (by kernel_rfl)) (fun _ _ _ _ _ => (pg_name (i := 11) sc_law.nd rfl (by first | exact Or.inl rfl | exact Or.inr rfl))) (fun _ _ _ _ _ => pts_nil) (fun _ _ _ _ _ => (Dh.pe_cal c_law_roll hr (by decide) passL rfl (pa_cons (pv 1) (pa_cons pe_int pa_nil))))) pa_nil))))
    (pss_cons (ps_expr (pe_bm PySem.F.plainAttrs_list PySem.F.slot_list_append PySem.F.type_list_append mt_append (pv 2) (pa_cons (pe_tup (pa_cons (pv 7) (pa_cons (pv 8) pa_nil))) pa_nil)))
    (pss_cons (ps_par (i := 9) (j := 10) (by rfl) sc_law.nd rfl rfl (by decide) rfl rfl (pa_cons (pe_lst pa_nil) (pa_cons (pe_dget2 (hu_of hr) (pv 3) (pv 7) (pe_lst pa_nil) ⟨by rfl, by rfl, by rfl, by rfl⟩) pa_nil)) (by rfl))
    (pss_one (ps_if (pt_cmpR (Dh.oEq (K := K) rfl hr.units) (pv 7) pe_int (nomark _))
    (pss_one (ps_expr (pe_bm PySem.F.plainAttrs_list PySem.F.slot_list_append PySem.F.type_list_append mt_append (pv 5) (pa_cons (pe_tup (pa_cons (pv 7) (pa_cons (pe_callB (Dh.cIsi (K := K) rfl) (by rfl) Z.b_isinstance (by first | exact PySem.boot_isinstance | exact PyProof.Rows.boot_isinstance | decide +kernel) (pa_cons (pv 8) (pa_cons (pe_bltn (v := .ty "int") (by rfl) Z.b_int (by first | exact PySem.boot_int | exact PyProof.Rows.boot_int | decide +kernel) rfl) pa_nil))) (pa_cons pe_non pa_nil)))) pa_nil))))
    (pss_one (ps_if (Dh.ptTru (K := K) rfl (pe_callB (Dh.cIsi (K := K) rfl) (by rfl) Z.b_isinstance (by first | exact PySem.boot_isinstance | exact PyProof.Rows.boot_isinstance | decide +kernel) (pa_cons (pv 8) (pa_cons (pe_bltn (v := .ty "int") (by rfl) Z.b_int (by first | exact PySem.boot_int | exact PyProof.Rows.boot_int | decide +kernel) rfl) pa_nil))))
    (pss_cons (ps_for (passes_of rfl) rfl (pi_range1 rfl Z.b_range (pa_cons (pv 8) pa_nil)) (pg_name (i := 11) sc_law.nd rfl (by first | exact Or.inl rfl | exact Or.inr rfl))
    (pss_cons (ps_expr (pe_bm PySem.F.plainAttrs_list PySem.F.slot_list_append PySem.F.type_list_append mt_append (pv 9) (pa_cons (pe_tup (pa_cons (pe_ifExp (pt_cmpR op_lt (pe_dget (hu_of hr) (pv 4) (pv 7) (fun _ _ => rfl)) (pe_callB (Dh.cLen (K := K) rfl) (by rfl) Z.b_len (by first | exact PySem.boot_len | exact PyProof.Rows.boot_len | decide +kernel) (pa_cons (pv 10) pa_nil)) (nomark _)) (pe_ix (Dh.xSeq (K := K) rfl) (pv 10) (pe_dget (hu_of hr) (pv 4) (pv 7) (fun _ _ => rfl)) (fun _ _ => rfl)) pe_int) (pa_cons (pe_callTy Dh.call_intX (by rfl) Z.b_int (by first | exact PySem.boot_int | exact PyProof.Rows.boot_int | decide +kernel) (pa_cons (pe_cmpR (Dh.oEq (K := K) rfl hr.units) (pv 11) (pe_op op_sub (pv 8) pe_int) (nomark _)) pa_nil)) pa_nil))) pa_nil)))
    (pss_one (ps_dput (hu_of hr) (pv 4) (pv 7) (pe_op (Dh.oAdd (K := K) rfl) (pe_dget (hu_of hr) (pv 4) (pv 7) (fun _ _ => rfl)) pe_int) rfl))))
    (pss_one (ps_expr (pe_bm PySem.F.plainAttrs_list PySem.F.slot_list_append PySem.F.type_list_append mt_append (pv 5) (pa_cons (pe_tup (pa_cons (pv 7) (pa_cons pe_bl (pa_cons (pe_callTy (Dh.cTup (K := K) rfl) (by rfl) Z.b_tuple (by first | exact PySem.boot_tuple | exact PyProof.Rows.boot_tuple | decide +kernel) (pa_cons (pv 9) pa_nil)) pa_nil)))) pa_nil)))))
    (pss_cons (ps_for (passes_of rfl) rfl (pi_range1 rfl Z.b_range (pa_cons (pe_callB (Dh.cLen (K := K) rfl) (by rfl) Z.b_len (by first | exact PySem.boot_len | exact PyProof.Rows.boot_len | decide +kernel) (pa_cons (pv 8) pa_nil)) pa_nil)) (pg_name (i := 11) sc_law.nd rfl (by first | exact Or.inl rfl | exact Or.inr rfl))
    (pss_one (ps_if (pt_cmpR (Dh.oEq (K := K) rfl hr.units) (pv 11) pe_int (nomark _))
    (pss_cons (ps_dput (hu_of hr) (pv 4) (pv 7) (pe_ix (Dh.xSeq (K := K) rfl) (pv 8) pe_int (fun _ _ => rfl)) rfl)
    (pss_one (ps_expr (pe_bm PySem.F.plainAttrs_list PySem.F.slot_list_append PySem.F.type_list_append mt_append (pv 9) (pa_cons (pe_tup (pa_cons (pe_ix (Dh.xSeq (K := K) rfl) (pv 8) pe_int (fun _ _ => rfl)) (pa_cons (pe_callTy Dh.call_intX (by rfl) Z.b_int (by first | exact PySem.boot_int | exact PyProof.Rows.boot_int | decide +kernel) (pa_cons (pe_cmpR op_ge (pe_ix (Dh.xSeq (K := K) rfl) (pv 8) pe_int (fun _ _ => rfl)) (pe_callB (Dh.cLen (K := K) rfl) (by rfl) Z.b_len (by first | exact PySem.boot_len | exact PyProof.Rows.boot_len | decide +kernel) (pa_cons (pv 10) pa_nil)) (nomark _)) pa_nil)) pa_nil))) pa_nil)))))
    (pss_one (ps_if (pt_cmpR op_lt (pe_dget (hu_of hr) (pv 4) (pv 7) (fun _ _ => rfl)) (pe_callB (Dh.cLen (K := K) rfl) (by rfl) Z.b_len (by first | exact PySem.boot_len | exact PyProof.Rows.boot_len | decide +kernel) (pa_cons (pv 10) pa_nil)) (nomark _))
    (pss_cons (ps_asg (pe_ix (Dh.xSeq (K := K) rfl) (pv 8) (pv 11) (fun _ _ => rfl)) (pg_sub (pv 10) (pe_dget (hu_of hr) (pv 4) (pv 7) (fun _ _ => rfl)) set_list))
    (pss_cons (ps_dput (hu_of hr) (pv 4) (pv 7) (pe_op (Dh.oAdd (K := K) rfl) (pe_dget (hu_of hr) (pv 4) (pv 7) (fun _ _ => rfl)) pe_int) rfl)
    (pss_one (ps_expr (pe_bm PySem.F.plainAttrs_list PySem.F.slot_list_append PySem.F.type_list_append mt_append (pv 9) (pa_cons (pe_tup (pa_cons (pe_ix (Dh.xSeq (K := K) rfl) (pv 8) (pv 11) (fun _ _ => rfl)) (pa_cons pe_int pa_nil))) pa_nil))))))
    (pss_one (ps_expr (pe_bm PySem.F.plainAttrs_list PySem.F.slot_list_append PySem.F.type_list_append mt_append (pv 9) (pa_cons (pe_tup (pa_cons (pe_ix (Dh.xSeq (K := K) rfl) (pv 8) (pv 11) (fun _ _ => rfl)) (pa_cons pe_int pa_nil))) pa_nil)))))))))
    (pss_one (ps_expr (pe_bm PySem.F.plainAttrs_list PySem.F.slot_list_append PySem.F.type_list_append mt_append (pv 5) (pa_cons (pe_tup (pa_cons (pv 7) (pa_cons pe_bl (pa_cons (pe_callTy (Dh.cTup (K := K) rfl) (by rfl) Z.b_tuple (by first | exact PySem.boot_tuple | exact PyProof.Rows.boot_tuple | decide +kernel) (pa_cons (pv 9) pa_nil)) pa_nil)))) pa_nil))))))))))))))
    (pss_cons (ps_set (i := 12) sc_law.nd rfl (by first | exact Or.inl rfl | exact Or.inr rfl) (pe_lst (pa_cons (Dh.pe_mak c_Chip hr (by decide) (passes_call (takes_of rfl rfl rfl rfl) (fun _ _ _ _ h => h)) rfl (pa_cons pe_int (pa_cons pe_int pa_nil))) (pa_cons (Dh.pe_mak c_Chip hr (by decide) (passes_call (takes_of rfl rfl rfl rfl) (fun _ _ _ _ h => h)) rfl (pa_cons pe_int (pa_cons pe_int pa_nil))) pa_nil))))
    (pss_cons (ps_set (i := 13) sc_law.nd rfl (by first | exact Or.inl rfl | exact Or.inr rfl) (Dh.pe_cal c_exchanged hr (by decide) (passes_call (takes_of rfl rfl rfl rfl) (fun _ _ _ _ h => h)) rfl (pa_cons (pv 12) (pa_cons (pv 2) pa_nil))))
    (pss_cons (ps_if (PW.pt (pw_or (pt_cmpR (Dh.oNe (K := K) rfl hr.units) (pe_callTy (Dh.cList (K := K) rfl) (by rfl) Z.b_list (by first | exact PySem.boot_list | exact PyProof.Rows.boot_list | decide +kernel) (pa_cons (pv 13) pa_nil)) (pv 5) (nomark _)) (pw_or1 (pt_cmpR (Dh.oNe (K := K) rfl hr.units) (pe_lc (own := [("chip", 14)]) (g := (gName 14)) (tt := tYes) rfl sc_law.nd (Dh.piSeq (K := K) rfl (pv 12)) (blkOk_by (own := [("chip", 14)]) (N := N_law) (by kernel_rfl)) (fun _ _ _ _ _ => (pg_name (i := 14) sc_law.nd rfl (by first | exact Or.inl rfl | exact Or.inr rfl))) (fun _ _ _ _ _ => pts_nil) (fun _ _ _ _ _ => (Dh.pe_fldC Z.c_Chip Z.n_Chip_cells (pv 14)))) (pe_lst (pa_cons (pe_dget (hu_of hr) (pv 3) pe_int (fun _ _ => rfl)) (pa_cons (pe_dget (hu_of hr) (pv 3) pe_int (fun _ _ => rfl)) pa_nil))) (nomark _)))))
    (pss_one (ps_ret pe_bl))
    pss_nil)
    (pss_cons (ps_if (pt_not (Dh.ptTru (K := K) rfl (Dh.pe_cal c_law_levels hr (by decide) (passes_call (takes_of rfl rfl rfl rfl) (fun _ _ _ _ h => h)) rfl (pa_cons (pv 1) (pa_cons (pv 13) (pa_cons (pv 5) (pa_cons (pv 2) pa_nil)))))))
    (pss_one (ps_ret pe_bl))
    pss_nil)
    (pss_cons (ps_if (pt_not (Dh.ptTru (K := K) rfl (Dh.pe_cal c_law_won hr (by decide) (passes_call (takes_of rfl rfl rfl rfl) (fun _ _ _ _ h => h)) rfl (pa_cons (pv 1) pa_nil))))
    (pss_one (ps_ret pe_bl))
    pss_nil)
    (pss_one (ps_if (pt_not (Dh.ptTru (K := K) rfl (Dh.pe_cal0 c_law_refused hr (by decide) (passes_call (takes_of rfl rfl rfl rfl) (fun _ _ _ _ h => h)) rfl)))
    (pss_one (ps_ret pe_bl))
    pss_nil))))))))))
    (pss_one (ps_ret pe_bl))), ?_⟩
  try dsimp only [L2.cxOf, L2.Cx.blk, LamX.lamCx, L2.Cx.tr, L2.Cx.suite]
  obtain ⟨a, ns, R, rfl, hE, k0⟩ := h
  refine Dh.Go.ent hE ?_
  rw [show L2.start N_law [.ref a] = [some (.ref a), none, none, none, none, none, none, none, none, none, none, none, none, none, none] from rfl]
  kspl_open zz_vc
  refine' Dh.g_sp rfl ⟨a, 3, ns, _, rfl, ?e1, by decide, fun p ps => ?k1⟩
  (case e1 => kspl_open zz_ent)
  kspl_open zz_vc
  refine Dh.g_forL (xs := ps.map .ref) (fun i σ L => ∃ v1 v2 v3 v4 v5 v6 v7 v8 v9 v10 v11 v12 v13, σ = [some (.ref a), v1, v2, v3, v4, v5, v6, v7, v8, v9, v10, v11, v12, v13, none] ∧ Dh.Ent L (Dh.pt p (.lst (ps.map .ref)) :: Dh.Seps ((ps.drop i).map DiceAt) :: R)) ⟨_, _, _, _, _, _, _, _, _, _, _, _, _, rfl, by rw [List.drop_zero]; kspl_open zz_ent⟩ ?_ ?_ ?_
  · rintro i σ L ⟨v1, v2, v3, v4, v5, v6, v7, v8, v9, v10, v11, v12, v13, rfl, hE⟩
    exact hE.has (by kspl_open zz_pk)
  · rintro i x σ L hx ⟨v1, v2, v3, v4, v5, v6, v7, v8, v9, v10, v11, v12, v13, rfl, hE⟩
    rw [List.getElem?_map] at hx
    obtain ⟨d, hd, rfl⟩ := Option.map_eq_some_iff.mp hx
    have hi := (List.getElem?_eq_some_iff.mp hd).1
    have ed : ps.drop i = d :: ps.drop (i + 1) := by
      rw [List.drop_eq_getElem_cons hi]
      congr 1
      exact (List.getElem?_eq_some_iff.mp hd).2
    rw [ed, List.map_cons] at hE
    refine Dh.Go.ent (hE.trans (Dh.ent_tail Dh.seps_head)) ?_
    clear hE
    kspl_open zz_vc
    rename_i AS CE t5 h5 t9 h9 AT DU tp r0 hr0
    rw [show (1 : Int) + (r0 : Int) = ((1 + r0 : Nat) : Int) by omega, Int.toNat_natCast]
    refine Dh.Go.conv (P := Dh.pt h5 (.lst (List.replicate (Int.toNat 4) [V.int 0]).flatten)) (P' := Dh.pt h5 (.lst ((List.replicate 4 0).map Dh.nI))) (by kspl_open zz_pk) (fun _ h => h) ?_
    refine Dh.Go.conv (P := Dh.pt h9 (.lst (List.replicate (Int.toNat 3) [V.int 0]).flatten)) (P' := Dh.pt h9 (.lst ((List.replicate 3 0).map Dh.nI))) (by kspl_open zz_pk) (fun _ h => h) ?_
    obtain ⟨n, hn⟩ : ∃ n, n = 1 + r0 := ⟨_, rfl⟩
    rw [← hn]
    have hn1 : 1 ≤ n := by omega
    have hn3 : n ≤ 3 := by omega
    clear hn hr0
    refine Dh.g_forR (n := n) (lo := 0) (fun j σ L => ∃ (as : List (Nat × Wh)) (va vd : List V) (u5 : List Nat) (y5 : Nat) (u9 : List Nat) (y9 : Nat) (rs : List Prt) (w6 w7 w8 w9 w10 w11 w12 w13 : Option V),
      as.length = j ∧ (∀ a ∈ as, a.1 < 128 ∧ a.2.ok2) ∧ exL as = (((u5, y5), (u9, y9)), rs) ∧ σ = [some (.ref a), some (.ref d), some (.ref AS), some (.ref CE), some (.ref AT), some (.ref DU), w6, w7, w8, w9, w10, w11, w12, w13, none] ∧
      Dh.Ent L (Dh.pt AS (.lst va) :: Dh.dvs va (as.map aD) :: Dh.pt DU (.lst vd) :: Dh.dvs vd (rs.map pD) :: Dh.pt CE (.dK [(Sum.inl 5, V.ref h5), (Sum.inl 9, V.ref h9)]) :: Dh.pt AT (.dK [(Sum.inl 5, Dh.nI y5), (Sum.inl 9, Dh.nI y9)]) :: Dh.pt h5 (.lst (u5.map Dh.nI)) :: Dh.pt h9 (.lst (u9.map Dh.nI)) :: DiceAt d :: Dh.pt p (.lst (ps.map .ref)) :: Dh.Seps ((ps.drop (i + 1)).map DiceAt) :: R))
      ⟨[], [], [], _, 0, _, 0, [], _, _, _, _, _, _, _, _, rfl, by simp, rfl, rfl, Dh.ent_cons (show Dh.Pick _ (Dh.pt AS (.lst [])) _ by kspl_open zz_pk) (Dh.ent_dvs (vs := []) (ds := []) (fun _ _ => .nil) (Dh.ent_cons (show Dh.Pick _ (Dh.pt DU (.lst [])) _ by kspl_open zz_pk) (Dh.ent_dvs (vs := []) (ds := []) (fun _ _ => .nil) (Dh.ent_cons (by kspl_open zz_pk) (Dh.ent_cons (c := Dh.pt AT (.dK [(Sum.inl 5, V.int 0), (Sum.inl 9, V.int 0)])) (by kspl_open zz_pk) (by kspl_open zz_ent))))))⟩ ?_ ?_
    · rintro j σ L hj ⟨as, va, vd, u5, y5, u9, y9, rs, w6, w7, w8, w9, w10, w11, w12, w13, hal, hok, hex, rfl, hE⟩
      refine Dh.Go.ent hE ?_
      simp only [Int.zero_add]
      kspl_open zz_vc
      rename_i tl q0 hq0
      obtain ⟨pl, hpl, e1⟩ : ∃ pl : Nat, (pl = 77 ∨ pl = 5 ∨ pl = 9) ∧ L2.atI [V.int 5, V.int 9, V.int 77] (q0 : Int) = some (.int (pl : Int)) := by
        match q0, hq0 with
        | 0, _ => exact ⟨5, by simp, rfl⟩
        | 1, _ => exact ⟨9, by simp, rfl⟩
        | 2, _ => exact ⟨77, by simp, rfl⟩
      have hp128 : pl < 128 := by omega
      kspl_open zz_vc
      obtain ⟨RR, hRR⟩ : ∃ RR, RR = Dh.pt p (.lst (ps.map .ref)) :: Dh.Seps ((ps.drop (i + 1)).map DiceAt) :: R := ⟨_, rfl⟩
      refine Dh.g_cutS (fun σ L => ∃ (w : Wh) (x : V) (w9 w10 w11 : Option V), w.ok2 ∧ σ = [some (.ref a), some (.ref d), some (.ref AS), some (.ref CE), some (.ref AT), some (.ref DU), some (.int (j : Int)), some (.int (pl : Int)), some x, w9, w10, w11, w12, w13, none] ∧
        Dh.Ent L (Dh.dv x (wD w) :: Dh.pt AS (.lst va) :: Dh.dvs va (as.map aD) :: Dh.pt DU (.lst vd) :: Dh.dvs vd (rs.map pD) :: Dh.pt CE (.dK [(Sum.inl 5, V.ref h5), (Sum.inl 9, V.ref h9)]) :: Dh.pt AT (.dK [(Sum.inl 5, Dh.nI y5), (Sum.inl 9, Dh.nI y9)]) :: Dh.pt h5 (.lst (u5.map Dh.nI)) :: Dh.pt h9 (.lst (u9.map Dh.nI)) :: DiceAt d :: RR)) ?c1 ?c2
      · kspl_open zz_vc
        refine Dh.g_ifD (fun z => ?_) (fun z => ?_)
        · kspl_open zz_vc
          rename_i k0' hk0'
          rw [show (1 : Int) + (k0' : Int) = ((1 + k0' : Nat) : Int) by omega]
          exact Dh.SI.in ⟨.n (1 + k0'), _, _, _, _, ⟨by omega, by omega⟩, rfl, Dh.ent_dv (fun _ _ => .int) (by rw [hRR]; kspl_open zz_ent)⟩
        · kspl_open zz_vc
          rename_i k0' hk0'
          rw [show (1 : Int) + (k0' : Int) = ((1 + k0' : Nat) : Int) by omega, Int.toNat_natCast]
          refine Dh.g_lcR (n := 1 + k0') (lo := 0) (fun j acc L => ∃ cs : List Nat, acc = cs.map Dh.nI ∧ cs.length = j ∧ (∀ x ∈ cs, x < 6) ∧ Dh.Ent L (Dh.pt AS (.lst va) :: Dh.dvs va (as.map aD) :: Dh.pt DU (.lst vd) :: Dh.dvs vd (rs.map pD) :: Dh.pt CE (.dK [(Sum.inl 5, V.ref h5), (Sum.inl 9, V.ref h9)]) :: Dh.pt AT (.dK [(Sum.inl 5, Dh.nI y5), (Sum.inl 9, Dh.nI y9)]) :: Dh.pt h5 (.lst (u5.map Dh.nI)) :: Dh.pt h9 (.lst (u9.map Dh.nI)) :: DiceAt d :: RR)) ⟨[], rfl, rfl, by simp, by rw [hRR]; kspl_open zz_ent⟩ (fun D j2 acc L hj2 h => ?_) (fun D acc L h => ?_)
          · obtain ⟨cs, rfl, hl, hb, hE⟩ := h
            refine Dh.Go.ent (Dh.ent_tail hE) ?_
            kspl_open zz_vc
            rename_i x hx
            exact Dh.g_lcAdd (by kspl_open zz_pk) (by rw [List.length_map, PySem.sizeLine_eq]; omega) ⟨cs ++ [x], by rw [List.map_append]; rfl, by rw [List.length_append, hl]; rfl, fun y hy => by
              rcases List.mem_append.mp hy with hy | hy
              · exact hb y hy
              · rw [List.mem_singleton.mp hy]; omega, by kspl_open zz_ent⟩
          · obtain ⟨cs, rfl, hl, hb, hE⟩ := h
            refine Dh.Go.ent (Dh.ent_tail hE) ?_
            kspl_open zz_vc
            rename_i tq
            exact Dh.SI.in ⟨.l cs, _, _, _, _, ⟨by omega, by omega, hb⟩, rfl, Dh.ent_dv (fun H s => dv_tN (show Dh.Pick _ (Dh.pt tq (.tup (cs.map Dh.nI))) _ by kspl_open zz_pk) s) (by kspl_open zz_ent)⟩
      · rintro σ L ⟨w, x, w9, w10, w11, hw, rfl, hE2⟩
        refine Dh.Go.ent hE2 ?_
        clear hE2 hE
        refine Dh.go_dvsLen (show Dh.Pick _ (Dh.dvs va (as.map aD)) _ by kspl_open zz_pk) fun hval => ?_
        refine Dh.go_dvsLen (show Dh.Pick _ (Dh.dvs vd (rs.map pD)) _ by kspl_open zz_pk) fun hvdl => ?_
        rw [List.length_map] at hval hvdl
        have hrl : rs.length = as.length := by
          have := exL_len (as := as)
          rw [hex] at this
          exact this
        kspl_open zz_vc
        rename_i qa RW z0
        have hnew : exL (as ++ [(pl, w)]) = ((ex1 ((u5, y5), (u9, y9)) (pl, w)).1, rs ++ [(ex1 ((u5, y5), (u9, y9)) (pl, w)).2]) := by rw [exL_snoc, hex]
        have hok2 : ∀ b ∈ as ++ [(pl, w)], b.1 < 128 ∧ b.2.ok2 := fun b hb => by
          rcases List.mem_append.mp hb with hb | hb
          · exact hok b hb
          · rw [List.mem_singleton.mp hb]; exact ⟨hp128, hw⟩
        refine Dh.go_dvs (vs := va ++ [.ref qa]) (ds := (as ++ [(pl, w)]).map aD) (fun H s => by
          rw [List.map_append]
          exact (Dh.Pick.dvs (show Dh.Pick _ (Dh.dvs va (as.map aD)) _ by kspl_open zz_pk) s).app (.cons (.tup (Dh.Pick.at (show Dh.Pick _ (Dh.pt qa (.tup [.int (pl : Int), x])) _ by kspl_open zz_pk) s) (.cons .int (.cons (Dh.Pick.dv (show Dh.Pick _ (Dh.dv x (wD w)) _ by kspl_open zz_pk) s) .nil))) .nil)) ?_
        by_cases n7 : pl = 77
        · subst n7
          have hex1 : ex1 ((u5, y5), (u9, y9)) (77, w) = (((u5, y5), (u9, y9)), ⟨77, w.isN, none⟩) := by
            unfold ex1
            rw [if_neg (show ¬ (77 : Nat) = 5 by decide), if_neg (show ¬ (77 : Nat) = 9 by decide)]
          rw [hex1] at hnew
          refine Dh.g_ifT rfl ?_
          kspl_open zz_vc
          cases w with
          | n k =>
            refine Dh.go_dvInt (show Dh.Pick _ (Dh.dv x (wD (.n k))) _ by kspl_open zz_pk) fun ez => ?_
            subst ez
            kspl_open zz_vc
            rename_i qd
            refine Dh.go_dvs (vs := vd ++ [.ref qd]) (ds := (rs ++ [(⟨77, true, none⟩ : Prt)]).map pD) (fun H s => by
              rw [List.map_append]
              exact (Dh.Pick.dvs (show Dh.Pick _ (Dh.dvs vd (rs.map pD)) _ by kspl_open zz_pk) s).app (.cons (.tup (Dh.Pick.at (show Dh.Pick _ (Dh.pt qd (.tup [.int ((77 : Nat) : Int), .bl true, .non])) _ by kspl_open zz_pk) s) (.cons .int (.cons .bl (.cons .non .nil)))) .nil)) ?_
            exact Dh.SI.in ⟨as ++ [(77, .n k)], va ++ [.ref qa], vd ++ [.ref qd], u5, y5, u9, y9, _, _, _, _, _, _, _, _, _, by rw [List.length_append, hal]; rfl, hok2, (show exL (as ++ [(77, .n k)]) = (((u5, y5), (u9, y9)), rs ++ [⟨77, true, none⟩]) from hnew), rfl, by rw [hRR]; kspl_open zz_ent⟩
          | l us =>
            refine go_tN (show Dh.Pick _ (Dh.dv x (Dh.tN us)) _ by kspl_open zz_pk) fun q ez => ?_
            subst ez
            kspl_open zz_vc
            rename_i qd
            refine Dh.go_dvs (vs := vd ++ [.ref qd]) (ds := (rs ++ [(⟨77, false, none⟩ : Prt)]).map pD) (fun H s => by
              rw [List.map_append]
              exact (Dh.Pick.dvs (show Dh.Pick _ (Dh.dvs vd (rs.map pD)) _ by kspl_open zz_pk) s).app (.cons (.tup (Dh.Pick.at (show Dh.Pick _ (Dh.pt qd (.tup [.int ((77 : Nat) : Int), .bl false, .non])) _ by kspl_open zz_pk) s) (.cons .int (.cons .bl (.cons .non .nil)))) .nil)) ?_
            exact Dh.SI.in ⟨as ++ [(77, .l us)], va ++ [.ref qa], vd ++ [.ref qd], u5, y5, u9, y9, _, _, _, _, _, _, _, _, _, by rw [List.length_append, hal]; rfl, hok2, (show exL (as ++ [(77, .l us)]) = (((u5, y5), (u9, y9)), rs ++ [⟨77, false, none⟩]) from hnew), rfl, by rw [hRR]; kspl_open zz_ent⟩
        · refine Dh.g_ifF (dF (a := pl) (by omega)) ?_
          obtain ⟨hA, hB, u, v, uB, kv, hv, hpv, hgc, hkl, hin, hout⟩ : ∃ (hA hB : Addr) (u : List Nat) (v : Nat) (uB : List Nat) (kv : Nat → List (L2.Key × V)), (∀ x, L2.valV (kv x) (Sum.inl (pl : Int)) = some (Dh.nI x)) ∧ (∀ x y, L2.putK (kv x) (Sum.inl (pl : Int)) (Dh.nI y) = kv y) ∧
              L2.valV [((Sum.inl 5 : L2.Key), V.ref h5), (Sum.inl 9, V.ref h9)] (Sum.inl (pl : Int)) = some (.ref hA) ∧ (∀ x, (kv x).length < PySem.sizeLine) ∧
              (∀ X, Dh.Ent (Dh.pt AT (.dK [(Sum.inl 5, Dh.nI y5), (Sum.inl 9, Dh.nI y9)]) :: Dh.pt h5 (.lst (u5.map Dh.nI)) :: Dh.pt h9 (.lst (u9.map Dh.nI)) :: X) (Dh.pt AT (.dK (kv v)) :: Dh.pt hA (.lst (u.map Dh.nI)) :: Dh.pt hB (.lst (uB.map Dh.nI)) :: X)) ∧
              ∀ (u' : List Nat) (v' : Nat) (pr : Prt), on1 (u, v) pl w = ((u', v'), pr) → ∃ z5 x5 z9 x9, exL (as ++ [(pl, w)]) = (((z5, x5), (z9, x9)), rs ++ [pr]) ∧
                ∀ X, Dh.Ent (Dh.pt AT (.dK (kv v')) :: Dh.pt hA (.lst (u'.map Dh.nI)) :: Dh.pt hB (.lst (uB.map Dh.nI)) :: X) (Dh.pt AT (.dK [(Sum.inl 5, Dh.nI x5), (Sum.inl 9, Dh.nI x9)]) :: Dh.pt h5 (.lst (z5.map Dh.nI)) :: Dh.pt h9 (.lst (z9.map Dh.nI)) :: X) := by
            rcases hpl with rfl | rfl | rfl
            · exact absurd rfl n7
            · refine ⟨h5, h9, u5, y5, u9, fun x => [(Sum.inl 5, Dh.nI x), (Sum.inl 9, Dh.nI y9)], fun x => rfl, fun x y => rfl, rfl, fun x => by rw [PySem.sizeLine_eq]; show 2 < _; omega, fun X => Dh.ent_refl, fun u' v' pr h => ⟨u', v', u9, y9, ?_, fun X => Dh.ent_refl⟩⟩
              rw [hnew]
              unfold ex1
              rw [if_pos rfl, h]
            · refine ⟨h9, h5, u9, y9, u5, fun x => [(Sum.inl 5, Dh.nI y5), (Sum.inl 9, Dh.nI x)], fun x => rfl, fun x y => rfl, rfl, fun x => by rw [PySem.sizeLine_eq]; show 2 < _; omega, fun X => by kspl_open zz_ent, fun u' v' pr h => ⟨u5, y5, u', v', ?_, fun X => by kspl_open zz_ent⟩⟩
              rw [hnew]
              unfold ex1
              rw [if_neg (show ¬ (9 : Nat) = 5 by decide), if_pos rfl, h]
          rw [hgc, Option.getD_some]
          refine Dh.Go.ent (L' := Dh.pt AT (.dK [(Sum.inl 5, Dh.nI y5), (Sum.inl 9, Dh.nI y9)]) :: Dh.pt h5 (.lst (u5.map Dh.nI)) :: Dh.pt h9 (.lst (u9.map Dh.nI)) :: Dh.dv x (wD w) :: Dh.pt RW (.lst []) :: Dh.pt AS (.lst (va ++ [.ref qa])) :: Dh.dvs (va ++ [.ref qa]) ((as ++ [(pl, w)]).map aD) :: Dh.pt DU (.lst vd) :: Dh.dvs vd (rs.map pD) :: Dh.pt CE (.dK [(Sum.inl 5, V.ref h5), (Sum.inl 9, V.ref h9)]) :: DiceAt d :: RR) (by kspl_open zz_ent) ?_
          refine Dh.Go.ent (hin _) ?_
          clear hin hgc hnew hex
          cases w with
          | n k =>
            refine Dh.go_dvInt (show Dh.Pick _ (Dh.dv x (wD (.n k))) _ by kspl_open zz_pk) fun ez => ?_
            subst ez
            have hk3 : k ≤ 3 := hw.2
            have hk1 : 1 ≤ k := hw.1
            kspl_open zz_vc
            rw [Int.toNat_natCast]
            refine Dh.g_forR (n := k) (lo := 0) (fun m σ L => ∃ (ws : List V) (w11 : Option V), σ = [some (.ref a), some (.ref d), some (.ref AS), some (.ref CE), some (.ref AT), some (.ref DU), some (.int (j : Int)), some (.int (pl : Int)), some (.int (k : Int)), some (.ref RW), some (.ref hA), w11, w12, w13, none] ∧
              Dh.Ent L (Dh.pt AT (.dK (kv (v + m))) :: Dh.pt hA (.lst (u.map Dh.nI)) :: Dh.pt hB (.lst (uB.map Dh.nI)) :: Dh.pt RW (.lst ws) :: Dh.dvs ws (((gRow (u, v) k).take m).map Dh.dP) :: Dh.pt AS (.lst (va ++ [.ref qa])) :: Dh.dvs (va ++ [.ref qa]) ((as ++ [(pl, Wh.n k)]).map aD) :: Dh.pt DU (.lst vd) :: Dh.dvs vd (rs.map pD) :: Dh.pt CE (.dK [(Sum.inl 5, V.ref h5), (Sum.inl 9, V.ref h9)]) :: DiceAt d :: RR)) ⟨[], _, rfl, Dh.ent_cons (c := Dh.pt AT (.dK (kv v))) (by kspl_open zz_pk) (Dh.ent_cons (by kspl_open zz_pk) (Dh.ent_cons (by kspl_open zz_pk) (Dh.ent_cons (show Dh.Pick _ (Dh.pt RW (.lst [])) _ by kspl_open zz_pk) (Dh.ent_dvs (vs := []) (ds := []) (fun _ _ => .nil) (by kspl_open zz_ent)))))⟩ ?_ ?_
            · rintro m σ L hm ⟨ws, w11, rfl, hE3⟩
              refine Dh.Go.ent hE3 ?_
              simp only [Int.zero_add]
              refine Dh.go_dvsLen (show Dh.Pick _ (Dh.dvs ws (((gRow (u, v) k).take m).map Dh.dP)) _ by kspl_open zz_pk) fun hwsl => ?_
              rw [List.length_map, List.length_take, gRow_len] at hwsl
              have hv' := hv (v + m)
              have hkl' := hkl (v + m)
              have hpv' : L2.putK (kv (v + m)) (Sum.inl (pl : Int)) (.int (((v + m : Nat) : Int) + 1)) = kv (v + (m + 1)) := hpv (v + m) (v + m + 1)
              have hgt := gRow_take (s := (u, v)) hm
              have hif : (if decide (V.int (m : Int) = V.int ((k : Int) - 1)) = true then (1 : Int) else 0) = ((if m + 1 = k then 1 else 0 : Nat) : Int) := by
                by_cases c : m + 1 = k
                · rw [if_pos c, if_pos (decide_eq_true (congrArg V.int (by omega)))]; rfl
                · rw [if_neg c, if_neg (fun z => c (by have z := of_decide_eq_true z; injection z; omega))]; rfl
              by_cases c : v + m < u.length
              · have e3 : L2.atI (u.map Dh.nI) ((v + m : Nat) : Int) = some (Dh.nI (u.getD (v + m) 0)) := Dh.atI_map (by rw [List.getD_eq_getElem?_getD, List.getElem?_eq_getElem c]; rfl)
                have hg : gi1 (u, v + m) = u.getD (v + m) 0 := if_pos c
                dsimp only at hgt
                rw [hg] at hgt
                kspl_open zz_vc
                refine Dh.g_ifT (decide_eq_true (by rw [List.length_map]; omega)) ?_
                kspl_open zz_vc
                rename_i qt
                rw [hpv', hif]
                refine Dh.go_dvs (vs := ws ++ [.ref qt]) (ds := ((gRow (u, v) k).take (m + 1)).map Dh.dP) (fun H s => by
                  rw [hgt, List.map_append]
                  exact (Dh.Pick.dvs (show Dh.Pick _ (Dh.dvs ws (((gRow (u, v) k).take m).map Dh.dP)) _ by kspl_open zz_pk) s).app (.cons (Dh.dvPr _ _ (show Dh.Pick _ (Dh.pt qt (.tup [Dh.nI (u.getD (v + m) 0), .int ((if m + 1 = k then 1 else 0 : Nat) : Int)])) _ by kspl_open zz_pk) s) .nil)) ?_
                exact Dh.SI.in ⟨ws ++ [.ref qt], _, rfl, by kspl_open zz_ent⟩
              · have hg : gi1 (u, v + m) = 255 := if_neg c
                dsimp only at hgt
                rw [hg] at hgt
                kspl_open zz_vc
                refine Dh.g_ifF (decide_eq_false (by rw [List.length_map]; omega)) ?_
                kspl_open zz_vc
                rename_i qt
                rw [hpv', hif]
                refine Dh.go_dvs (vs := ws ++ [.ref qt]) (ds := ((gRow (u, v) k).take (m + 1)).map Dh.dP) (fun H s => by
                  rw [hgt, List.map_append]
                  exact (Dh.Pick.dvs (show Dh.Pick _ (Dh.dvs ws (((gRow (u, v) k).take m).map Dh.dP)) _ by kspl_open zz_pk) s).app (.cons (Dh.dvPr _ _ (show Dh.Pick _ (Dh.pt qt (.tup [.int 255, .int ((if m + 1 = k then 1 else 0 : Nat) : Int)])) _ by kspl_open zz_pk) s) .nil)) ?_
                exact Dh.SI.in ⟨ws ++ [.ref qt], _, rfl, by kspl_open zz_ent⟩
            · rintro σ L ⟨ws, w11, rfl, hE3⟩
              refine Dh.Go.ent hE3 ?_
              rw [List.take_of_length_le (Nat.le_of_eq gRow_len)]
              obtain ⟨z5, x5, z9, x9, hex2, hout2⟩ := hout u (v + k) ⟨pl, true, some (gRow (u, v) k)⟩ (by show ((giN (u, v) k).1, _) = _; rw [(giN_eq k).1])
              kspl_open zz_vc
              rename_i tr qd
              refine Dh.go_dvs (vs := vd ++ [.ref qd]) (ds := (rs ++ [(⟨pl, true, some (gRow (u, v) k)⟩ : Prt)]).map pD) (fun H s => by
                rw [List.map_append]
                exact (Dh.Pick.dvs (show Dh.Pick _ (Dh.dvs vd (rs.map pD)) _ by kspl_open zz_pk) s).app (.cons (.tup (Dh.Pick.at (show Dh.Pick _ (Dh.pt qd (.tup [.int (pl : Int), .bl true, .ref tr])) _ by kspl_open zz_pk) s) (.cons .int (.cons .bl (.cons (.tup (Dh.Pick.at (show Dh.Pick _ (Dh.pt tr (.tup ws)) _ by kspl_open zz_pk) s) (Dh.Pick.dvs (show Dh.Pick _ (Dh.dvs ws ((gRow (u, v) k).map Dh.dP)) _ by kspl_open zz_pk) s)) .nil)))) .nil)) ?_
              refine Dh.Go.ent (L' := Dh.pt AT (.dK (kv (v + k))) :: Dh.pt hA (.lst (u.map Dh.nI)) :: Dh.pt hB (.lst (uB.map Dh.nI)) :: Dh.dvs (vd ++ [.ref qd]) ((rs ++ [(⟨pl, true, some (gRow (u, v) k)⟩ : Prt)]).map pD) :: Dh.pt AS (.lst (va ++ [.ref qa])) :: Dh.dvs (va ++ [.ref qa]) ((as ++ [(pl, Wh.n k)]).map aD) :: Dh.pt DU (.lst (vd ++ [.ref qd])) :: Dh.pt CE (.dK [(Sum.inl 5, V.ref h5), (Sum.inl 9, V.ref h9)]) :: DiceAt d :: RR) (by kspl_open zz_ent) ?_
              refine Dh.Go.ent (hout2 _) ?_
              exact Dh.SI.in ⟨as ++ [(pl, .n k)], va ++ [.ref qa], vd ++ [.ref qd], z5, x5, z9, x9, _, _, _, _, _, _, _, _, _, by rw [List.length_append, hal]; rfl, hok2, hex2, rfl, by rw [hRR]; kspl_open zz_ent⟩
          | l us =>
            refine go_tN (show Dh.Pick _ (Dh.dv x (Dh.tN us)) _ by kspl_open zz_pk) fun q ez => ?_
            subst ez
            have hul : us.length ≤ 3 := hw.2.1
            have hul1 : 1 ≤ us.length := hw.1
            kspl_open zz_vc
            rw [List.length_map, Int.toNat_natCast]
            refine Dh.g_forR (n := us.length) (lo := 0) (fun m σ L => ∃ (ws : List V) (w11 : Option V), σ = [some (.ref a), some (.ref d), some (.ref AS), some (.ref CE), some (.ref AT), some (.ref DU), some (.int (j : Int)), some (.int (pl : Int)), some (.ref q), some (.ref RW), some (.ref hA), w11, w12, w13, none] ∧
              Dh.Ent L (Dh.pt AT (.dK (kv (tkN (u, v) us m).1.2)) :: Dh.pt hA (.lst ((tkN (u, v) us m).1.1.map Dh.nI)) :: Dh.pt hB (.lst (uB.map Dh.nI)) :: Dh.pt RW (.lst ws) :: Dh.dvs ws (((us.take m).zip (tkN (u, v) us m).2).map Dh.dP) :: Dh.pt q (.tup (us.map Dh.nI)) :: Dh.pt AS (.lst (va ++ [.ref qa])) :: Dh.dvs (va ++ [.ref qa]) ((as ++ [(pl, Wh.l us)]).map aD) :: Dh.pt DU (.lst vd) :: Dh.dvs vd (rs.map pD) :: Dh.pt CE (.dK [(Sum.inl 5, V.ref h5), (Sum.inl 9, V.ref h9)]) :: DiceAt d :: RR)) ⟨[], _, rfl, Dh.ent_cons (c := Dh.pt AT (.dK (kv v))) (by kspl_open zz_pk) (Dh.ent_cons (c := Dh.pt hA (.lst (u.map Dh.nI))) (by kspl_open zz_pk) (Dh.ent_cons (by kspl_open zz_pk) (Dh.ent_cons (show Dh.Pick _ (Dh.pt RW (.lst [])) _ by kspl_open zz_pk) (Dh.ent_dvs (vs := []) (ds := []) (fun _ _ => .nil) (by kspl_open zz_ent)))))⟩ ?_ ?_
            · rintro m σ L hm ⟨ws, w11, rfl, hE3⟩
              refine Dh.Go.ent hE3 ?_
              simp only [Int.zero_add]
              obtain ⟨htl1, htl2⟩ := tkN_len (s := (u, v)) (us := us) m
              obtain ⟨um, hum⟩ : ∃ um, us[m]? = some um := ⟨_, List.getElem?_eq_getElem hm⟩
              have hgm : us.getD m 0 = um := by rw [List.getD_eq_getElem?_getD, hum]; rfl
              rw [show tkN (u, v) us (m + 1) = ((tk1 m (tkN (u, v) us m).1 um).1, (tkN (u, v) us m).2 ++ [(tk1 m (tkN (u, v) us m).1 um).2]) by rw [← hgm]; rfl]
              have hzip : ∀ b, (us.take (m + 1)).zip ((tkN (u, v) us m).2 ++ [b]) = (us.take m).zip (tkN (u, v) us m).2 ++ [(um, b)] := fun b => by
                rw [List.take_add_one, hum]
                exact List.zip_append (by rw [List.length_take, htl2]; omega)
              have e2 : L2.atI (us.map Dh.nI) (m : Int) = some (Dh.nI um) := Dh.atI_map hum
              clear hE3
              refine Dh.go_dvsLen (show Dh.Pick _ (Dh.dvs ws (((us.take m).zip (tkN (u, v) us m).2).map Dh.dP)) _ by kspl_open zz_pk) fun hwsl => ?_
              rw [List.length_map, List.length_zip, List.length_take, htl2] at hwsl
              generalize tkN (u, v) us m = tq at htl1 htl2 hzip ⊢
              obtain ⟨⟨cs, av⟩, acc⟩ := tq
              dsimp only at htl1 htl2 hzip ⊢
              have hv' := hv av
              have hkl' := hkl av
              have hpv' : L2.putK (kv av) (Sum.inl (pl : Int)) (.int ((av : Int) + 1)) = kv (av + 1) := hpv av (av + 1)
              by_cases c1 : m = 0
              · subst c1
                have e4 : L2.atI (us.map Dh.nI) 0 = some (Dh.nI um) := e2
                have hpv2 : L2.putK (kv av) (Sum.inl (pl : Int)) (Dh.nI um) = kv um := hpv av um
                have htk : tk1 0 (cs, av) um = ((cs, um), if um < cs.length then 0 else 1) := by unfold tk1; rw [if_pos rfl]
                rw [htk]
                dsimp only
                kspl_open zz_vc
                have hif : (if decide (((cs.map Dh.nI).length : Int) ≤ (um : Int)) = true then (1 : Int) else 0) = ((if um < cs.length then 0 else 1 : Nat) : Int) := by
                  rw [List.length_map]
                  by_cases c : um < cs.length
                  · rw [if_pos c, if_neg (fun z => by have z := of_decide_eq_true z; omega)]; rfl
                  · rw [if_neg c, if_pos (decide_eq_true (by omega))]; rfl
                rw [hif, hpv2]
                rename_i qt
                refine Dh.go_dvs (vs := ws ++ [.ref qt]) (ds := (((us.take 0).zip acc) ++ [(um, if um < cs.length then 0 else 1)]).map Dh.dP) (fun H s => by
                  rw [List.map_append]
                  exact (Dh.Pick.dvs (show Dh.Pick _ (Dh.dvs ws (((us.take 0).zip acc).map Dh.dP)) _ by kspl_open zz_pk) s).app (.cons (Dh.dvPr um _ (show Dh.Pick _ (Dh.pt qt (.tup [Dh.nI um, .int ((if um < cs.length then 0 else 1 : Nat) : Int)])) _ by kspl_open zz_pk) s) .nil)) ?_
                exact Dh.SI.in ⟨ws ++ [.ref qt], _, rfl, by rw [hzip]; kspl_open zz_ent⟩
              · by_cases c2 : av < cs.length
                · have htk : tk1 m (cs, av) um = ((cs.set av um, av + 1), 0) := by unfold tk1; rw [if_neg c1]; dsimp only; rw [if_pos c2]
                  rw [htk]
                  dsimp only
                  have e3 : L2.ixN (cs.map Dh.nI).length (av : Int) = some av := Dh.ixN_lt (by rw [List.length_map]; omega)
                  kspl_open zz_vc
                  refine Dh.g_ifF (decide_eq_false (fun z => c1 (by injection z; omega))) ?_
                  kspl_open zz_vc
                  refine Dh.g_ifT (decide_eq_true (by rw [List.length_map]; omega)) ?_
                  kspl_open zz_vc
                  rw [hpv']
                  rename_i qt
                  refine Dh.go_dvs (vs := ws ++ [.ref qt]) (ds := (((us.take m).zip acc) ++ [(um, 0)]).map Dh.dP) (fun H s => by
                    rw [List.map_append]
                    exact (Dh.Pick.dvs (show Dh.Pick _ (Dh.dvs ws (((us.take m).zip acc).map Dh.dP)) _ by kspl_open zz_pk) s).app (.cons (Dh.dvPr um _ (show Dh.Pick _ (Dh.pt qt (.tup [Dh.nI um, .int 0])) _ by kspl_open zz_pk) s) .nil)) ?_
                  exact Dh.SI.in ⟨ws ++ [.ref qt], _, rfl, by rw [hzip]; kspl_open zz_ent⟩
                · have htk : tk1 m (cs, av) um = ((cs, av), 1) := by unfold tk1; rw [if_neg c1]; dsimp only; rw [if_neg c2]
                  rw [htk]
                  dsimp only
                  kspl_open zz_vc
                  refine Dh.g_ifF (decide_eq_false (fun z => c1 (by injection z; omega))) ?_
                  kspl_open zz_vc
                  refine Dh.g_ifF (decide_eq_false (by rw [List.length_map]; omega)) ?_
                  kspl_open zz_vc
                  rename_i qt
                  refine Dh.go_dvs (vs := ws ++ [.ref qt]) (ds := (((us.take m).zip acc) ++ [(um, 1)]).map Dh.dP) (fun H s => by
                    rw [List.map_append]
                    exact (Dh.Pick.dvs (show Dh.Pick _ (Dh.dvs ws (((us.take m).zip acc).map Dh.dP)) _ by kspl_open zz_pk) s).app (.cons (Dh.dvPr um _ (show Dh.Pick _ (Dh.pt qt (.tup [Dh.nI um, .int 1])) _ by kspl_open zz_pk) s) .nil)) ?_
                  exact Dh.SI.in ⟨ws ++ [.ref qt], _, rfl, by rw [hzip]; kspl_open zz_ent⟩
            · rintro σ L ⟨ws, w11, rfl, hE3⟩
              refine Dh.Go.ent hE3 ?_
              rw [List.take_length]
              obtain ⟨z5, x5, z9, x9, hex2, hout2⟩ := hout (tkN (u, v) us us.length).1.1 (tkN (u, v) us us.length).1.2 ⟨pl, false, some (us.zip (tkN (u, v) us us.length).2)⟩ rfl
              clear hE3
              generalize tkN (u, v) us us.length = tq at hex2 hout2 ⊢
              kspl_open zz_vc
              rename_i tr qd
              refine Dh.go_dvs (vs := vd ++ [.ref qd]) (ds := (rs ++ [(⟨pl, false, some (us.zip tq.2)⟩ : Prt)]).map pD) (fun H s => by
                rw [List.map_append]
                exact (Dh.Pick.dvs (show Dh.Pick _ (Dh.dvs vd (rs.map pD)) _ by kspl_open zz_pk) s).app (.cons (.tup (Dh.Pick.at (show Dh.Pick _ (Dh.pt qd (.tup [.int (pl : Int), .bl false, .ref tr])) _ by kspl_open zz_pk) s) (.cons .int (.cons .bl (.cons (.tup (Dh.Pick.at (show Dh.Pick _ (Dh.pt tr (.tup ws)) _ by kspl_open zz_pk) s) (Dh.Pick.dvs (show Dh.Pick _ (Dh.dvs ws ((us.zip tq.2).map Dh.dP)) _ by kspl_open zz_pk) s)) .nil)))) .nil)) ?_
              refine Dh.Go.ent (L' := Dh.pt AT (.dK (kv tq.1.2)) :: Dh.pt hA (.lst (tq.1.1.map Dh.nI)) :: Dh.pt hB (.lst (uB.map Dh.nI)) :: Dh.dvs (vd ++ [.ref qd]) ((rs ++ [(⟨pl, false, some (us.zip tq.2)⟩ : Prt)]).map pD) :: Dh.pt AS (.lst (va ++ [.ref qa])) :: Dh.dvs (va ++ [.ref qa]) ((as ++ [(pl, Wh.l us)]).map aD) :: Dh.pt DU (.lst (vd ++ [.ref qd])) :: Dh.pt CE (.dK [(Sum.inl 5, V.ref h5), (Sum.inl 9, V.ref h9)]) :: DiceAt d :: RR) (by kspl_open zz_ent) ?_
              refine Dh.Go.ent (hout2 _) ?_
              exact Dh.SI.in ⟨as ++ [(pl, .l us)], va ++ [.ref qa], vd ++ [.ref qd], z5, x5, z9, x9, _, _, _, _, _, _, _, _, _, by rw [List.length_append, hal]; rfl, hok2, hex2, rfl, by rw [hRR]; kspl_open zz_ent⟩
    · rintro σ L ⟨as, va, vd, u5, y5, u9, y9, rs, w6, w7, w8, w9, w10, w11, w12, w13, hal, hok, hex, rfl, hE⟩
      refine Dh.Go.ent hE ?_
      kspl_open zz_vc
      rename_i p5
      refine use_Chip___init__ (pl := 5) (n := 4) (by kspl_open zz_pk) (by decide) fun c5 => ?_
      kspl_open zz_vc
      rename_i p9
      refine use_Chip___init__ (pl := 9) (n := 3) (by kspl_open zz_pk) (by decide) fun c9 => ?_
      kspl_open zz_vc
      rename_i ch
      have has : as.length ≤ 3 := by omega
      have hex' : exN ((List.replicate 4 0, 0), (List.replicate 3 0, 0)) as as.length = (((u5, y5), (u9, y9)), rs) := hex
      obtain ⟨hcok, hrok⟩ := exL_ok as hok
      rw [hex] at hrok
      have hrl : rs.length = as.length := by
        have := exL_len (as := as)
        rw [hex] at this
        exact this
      have hrn : rs ≠ [] := fun z => by
        rw [z] at hrl
        simp at hrl
        omega
      refine Dh.go_dvsLen (show Dh.Pick _ (Dh.dvs va (as.map aD)) _ by kspl_open zz_pk) fun hval => ?_
      rw [List.length_map] at hval
      refine use_exchanged (p5 := p5) (p9 := p9) (c5 := c5) (c9 := c9) (u5 := List.replicate 4 0) (v5 := 0) (u9 := List.replicate 3 0) (v9 := 0) (vs := va) (as := as) (by kspl_open zz_pk) (by kspl_open zz_pk) (by kspl_open zz_pk) (by kspl_open zz_pk) (by kspl_open zz_pk) has (fun a ha => Wh.ok_of (hok a ha).2) fun pt' pvs => ?_
      rw [hex']
      dsimp only
      kspl_open zz_vc
      rename_i pl2
      have hlays : Dh.Dt.lays (rs.map pD) = true := Dh.lays_all fun d hd => by
        obtain ⟨r, _, rfl⟩ := List.mem_map.mp hd
        exact pD_lay r
      have hdeps : Dh.Dt.deps (rs.map pD) ≤ 60 := Nat.le_trans (Dh.deps_map pD_dep _) (by decide)
      refine Dh.g_neDs (r := true) (ds := rs.map pD) (es := rs.map pD) (show Dh.Pick _ (Dh.pt pl2 (.lst pvs)) _ by kspl_open zz_pk) (fun H s => Dh.Pick.dvs (show Dh.Pick _ (Dh.dvs pvs (rs.map pD)) _ by kspl_open zz_pk) s) (show Dh.Pick _ (Dh.pt DU (.lst vd)) _ by kspl_open zz_pk) (fun H s => Dh.Pick.dvs (show Dh.Pick _ (Dh.dvs vd (rs.map pD)) _ by kspl_open zz_pk) s) hlays hlays hdeps hdeps (Dh.eqv_dtsR _) ?_
      kspl_open zz_vc
      refine Dh.g_lcLp (us := [(p5, c5), (p9, c9)]) (gx := fun u : Addr × Addr => V.ref u.1) (fun _ => true) (fun u => V.ref u.2) (show Dh.Pick _ (Dh.pt ch (.lst [.ref p5, .ref p9])) _ by kspl_open zz_pk) Dh.ent_refl (fun D j u hu hp hf => ?_) (fun D => ?_)
      · have hj := (List.getElem?_eq_some_iff.mp hu).1
        have hj2 : j < 2 := hj
        have hu2 : u = (p5, c5) ∨ u = (p9, c9) := by simpa using List.mem_of_getElem? hu
        rcases hu2 with rfl | rfl
        · kspl_open zz_vc
          exact Dh.g_lcPutP hp (by kspl_open zz_pk) (by rw [PySem.sizeLine_eq]; omega) hf.symm (by kspl_open zz_ent)
        · kspl_open zz_vc
          exact Dh.g_lcPutP hp (by kspl_open zz_pk) (by rw [PySem.sizeLine_eq]; omega) hf.symm (by kspl_open zz_ent)
      refine Dh.Go.conv (P' := Dh.pt D (.lst [.ref c5, .ref c9])) Dh.pick_here (fun _ h => h) ?_
      have e5 : L2.valV [((Sum.inl 5 : L2.Key), V.ref h5), (Sum.inl 9, V.ref h9)] (Sum.inl 5) = some (.ref h5) := rfl
      have e9 : L2.valV [((Sum.inl 5 : L2.Key), V.ref h5), (Sum.inl 9, V.ref h9)] (Sum.inl 9) = some (.ref h9) := rfl
      kspl_open zz_vc
      rename_i q2
      refine Dh.Go.conv (P := Dh.pt q2 (.lst [(fun x => x.2) ((Sum.inl 5 : L2.Key), V.ref h5), (fun x => x.2) ((Sum.inl 9 : L2.Key), V.ref h9)])) (P' := Dh.pt q2 (.lst [.ref h5, .ref h9])) Dh.pick_here (fun _ h => h) ?_
      refine Dh.Go.ent (L' := ChipAt C_Chip p5 5 c5 u5 y5 :: Dh.pt q2 (.lst [.ref h5, .ref h9]) :: Dh.pt D (.lst [.ref c5, .ref c9]) :: Dh.pt pt' (.tup pvs) :: Dh.dvs pvs (rs.map pD) :: ChipAt C_Chip p9 9 c9 u9 y9 :: Dh.pt AS (.lst va) :: Dh.pt DU (.lst vd) :: Dh.dvs vd (rs.map pD) :: Dh.pt h5 (.lst (u5.map Dh.nI)) :: Dh.pt h9 (.lst (u9.map Dh.nI)) :: DiceAt d :: Dh.pt p (.lst (ps.map .ref)) :: Dh.Seps ((ps.drop (i + 1)).map DiceAt) :: R) (by kspl_open zz_ent) ?_
      refine go_ChipAt ?_
      refine Dh.Go.ent (L' := ChipAt C_Chip p9 9 c9 u9 y9 :: Dh.pt c5 (.lst (u5.map Dh.nI)) :: Dh.pt q2 (.lst [.ref h5, .ref h9]) :: Dh.pt D (.lst [.ref c5, .ref c9]) :: Dh.pt pt' (.tup pvs) :: Dh.dvs pvs (rs.map pD) :: Dh.pt AS (.lst va) :: Dh.pt DU (.lst vd) :: Dh.dvs vd (rs.map pD) :: Dh.pt h5 (.lst (u5.map Dh.nI)) :: Dh.pt h9 (.lst (u9.map Dh.nI)) :: DiceAt d :: Dh.pt p (.lst (ps.map .ref)) :: Dh.Seps ((ps.drop (i + 1)).map DiceAt) :: R) (by kspl_open zz_ent) ?_
      refine go_ChipAt ?_
      refine Dh.go_dvsLen (show Dh.Pick _ (Dh.dvs vd (rs.map pD)) _ by kspl_open zz_pk) fun hvdl => ?_
      rw [List.length_map] at hvdl
      refine Dh.g_neN2 (us1 := u5) (us2 := u9) (ws1 := u5) (ws2 := u9) (show Dh.Pick _ (Dh.pt D (.lst [.ref c5, .ref c9])) _ by kspl_open zz_pk) (show Dh.Pick _ (Dh.pt q2 (.lst [.ref h5, .ref h9])) _ by kspl_open zz_pk) (by kspl_open zz_pk) (by kspl_open zz_pk) (by kspl_open zz_pk) (by kspl_open zz_pk) ?_
      kspl_open zz_vc
      refine Dh.g_ifF (by simp) ?_
      kspl_open zz_vc
      refine use_law_levels (vs := pvs) (ps := rs) (ws := vd) (ms := va) (by kspl_open zz_pk) (by kspl_open zz_pk) (by kspl_open zz_pk) (by kspl_open zz_pk) (show Dh.Pick _ (Dh.dvs vd (rs.map pD)) _ by kspl_open zz_pk) (by kspl_open zz_pk) hrn (by omega) hrok (by omega) ?_
      kspl_open zz_vc
      exact Dh.SI.in ⟨_, _, _, _, _, _, _, _, _, _, _, _, _, rfl, by kspl_open zz_ent⟩
  · rintro σ L ⟨v1, v2, v3, v4, v5, v6, v7, v8, v9, v10, v11, v12, v13, rfl, hE⟩
    refine Dh.Go.ent hE ?_
    kspl_open zz_vc
    exact Dh.Go.ent (Dh.ent_drop (Dh.ent_drop Dh.ent_refl)) k0
end
end Toy
end

section
local macro_rules | `(tactic| kspl_open zz_ent1) => `(tactic| first | (with_reducible exact Dh.ent_refl) | (with_reducible exact Dh.ent_nil) | (refine' Dh.ent_cons ?q0 ?k; (case q0 => kspl_open zz_pk)) | (with_reducible refine' Toy.ent_ChipAt ?k) | (refine' Dh.ent_drop ?k))
local macro_rules | `(tactic| kspl_open zz_hasm) => `(tactic| first | (refine' Toy.hasM_ChipAt ?q0 ?q1; (case q0 => kspl_open zz_pk); (case q1 => (intros; kspl_open zz_lk))) | (refine' Dh.hasM_ob ?q0 ?q1; (case q0 => kspl_open zz_pk); (case q1 => kspl_open zz_lk)))
local macro_rules | `(tactic| kspl_open zz_open1) => `(tactic| first  | (with_reducible refine' Toy.of_ChipAt ?q0 ?k; (case q0 => kspl_open zz_pk); intros) | (with_reducible refine' Toy.sf_ChipAt ?q0 ?k; (case q0 => kspl_open zz_pk); intros) | (with_reducible refine' Toy.au_ChipAt ?q0 ?k; (case q0 => kspl_open zz_pk); intros))
local macro_rules | `(tactic| kspl_open zz_vc1) => `(tactic| first | ((refine' Dh.wk1 ?k); (repeat (with_reducible intro _))) | kspl_open zz_vcp0 | kspl_open zz_vcp1 | kspl_open zz_vcp2 | kspl_open zz_vcp3 | kspl_open zz_vcp4 | kspl_open zz_vcp5 | kspl_open zz_vcp6 | kspl_open zz_vcp7 | kspl_open zz_vcp8 | kspl_open zz_vcp9 | kspl_open zz_vcp10 | kspl_open zz_use1 | kspl_open zz_told1 | kspl_open zz_open1)
local macro_rules | `(tactic| kspl_open zz_use1) => `(tactic| ((with_reducible refine' Toy.use_law_dice (fun _ _ _ _ => ?k0))))
local macro_rules | `(tactic| kspl_open zz_use1) => `(tactic| ((with_reducible refine' Toy.use_law_roll ?q0 ?h0 ?h1 (fun _ _ => ?k0)); (case q0 => kspl_open zz_pk); (case h0 => kspl_open zz_side); (case h1 => kspl_open zz_side)))
local macro_rules | `(tactic| kspl_open zz_use1) => `(tactic| ((with_reducible refine' Toy.use_begin (fun _ _ => ?k0))))
local macro_rules | `(tactic| kspl_open zz_use1) => `(tactic| ((with_reducible refine' Toy.use_end (fun _ _ => ?k0))))
local macro_rules | `(tactic| kspl_open zz_use1) => `(tactic| ((with_reducible refine' Toy.use_bit (fun _ _ => ?k0))))
local macro_rules | `(tactic| kspl_open zz_use1) => `(tactic| ((with_reducible refine' Toy.use_raised_two ?h0 ?k0); (case h0 => kspl_open zz_side)))
local macro_rules | `(tactic| kspl_open zz_use1) => `(tactic| ((with_reducible refine' Toy.use_octet ?h0 (fun _ _ => ?k0)); (case h0 => kspl_open zz_side)))
local macro_rules | `(tactic| kspl_open zz_use) => `(tactic| ((with_reducible refine' Toy.use_said ?q0 ?q1 ?h0 ?h1 (fun _ _ _ => ?k0) (fun _ => ?k1)); (case q0 => kspl_open zz_pk); (case q1 => kspl_open zz_pk); (case h0 => kspl_open zz_side); (case h1 => kspl_open zz_side)))
local macro_rules | `(tactic| kspl_open zz_use) => `(tactic| ((with_reducible refine' Toy.use_heard_on ?q0 ?q1 ?h0 ?h1 ?h2 (fun _ _ _ _ _ => ?k0) (fun _ _ => ?k1)); (case q0 => kspl_open zz_pk); (case q1 => kspl_open zz_pk); (case h0 => kspl_open zz_side); (case h1 => kspl_open zz_side); (case h2 => kspl_open zz_side)))
local macro_rules | `(tactic| kspl_open zz_use) => `(tactic| ((with_reducible refine' Toy.use_parts_of ?q0 ?q1 ?h0 (fun _ _ _ _ _ => ?k0) (fun _ _ => ?k1)); (case q0 => kspl_open zz_pk); (case q1 => kspl_open zz_pk); (case h0 => kspl_open zz_side)))
local macro_rules | `(tactic| kspl_open zz_use1) => `(tactic| ((with_reducible refine' Toy.use_Chip___init__ ?q0 ?h0 (fun _ => ?k0)); (case q0 => kspl_open zz_pk); (case h0 => kspl_open zz_side)))
local macro_rules | `(tactic| kspl_open zz_use1) => `(tactic| ((with_reducible refine' Toy.use_Chip_give ?q0 ?h0 (fun _ => ?k0)); (case q0 => kspl_open zz_pk); (case h0 => kspl_open zz_side)))
local macro_rules | `(tactic| kspl_open zz_use1) => `(tactic| ((with_reducible refine' Toy.use_Chip_take ?q0 ?q1 ?h0 (fun _ => ?k0)); (case q0 => kspl_open zz_pk); (case q1 => kspl_open zz_pk); (case h0 => kspl_open zz_side)))
local macro_rules | `(tactic| kspl_open zz_use1) => `(tactic| ((with_reducible refine' Toy.use_exchanged ?q0 ?q1 ?q2 ?q3 ?q4 ?h0 ?h1 (fun _ _ => ?k0)); (case q0 => kspl_open zz_pk); (case q1 => kspl_open zz_pk); (case q2 => kspl_open zz_pk); (case q3 => kspl_open zz_pk); (case q4 => kspl_open zz_pk); (case h0 => kspl_open zz_side); (case h1 => kspl_open zz_side)))
local macro_rules | `(tactic| kspl_open zz_use1) => `(tactic| ((with_reducible refine' Toy.use_won ?q0 ?q1 ?h0 ?h1 ?h2 (fun _ _ _ => ?k0)); (case q0 => kspl_open zz_pk); (case q1 => kspl_open zz_pk); (case h0 => kspl_open zz_side); (case h1 => kspl_open zz_side); (case h2 => kspl_open zz_side)))
local macro_rules | `(tactic| kspl_open zz_use1) => `(tactic| ((with_reducible refine' Toy.use_law_won ?q0 ?k0); (case q0 => kspl_open zz_pk)))
local macro_rules | `(tactic| kspl_open zz_use1) => `(tactic| ((with_reducible refine' Toy.use_law_levels ?q0 ?q1 ?q2 ?q3 ?q4 ?q5 ?h0 ?h1 ?h2 ?h3 ?k0); (case q0 => kspl_open zz_pk); (case q1 => kspl_open zz_pk); (case q2 => kspl_open zz_pk); (case q3 => kspl_open zz_pk); (case q4 => kspl_open zz_pk); (case q5 => kspl_open zz_pk); (case h0 => kspl_open zz_side); (case h1 => kspl_open zz_side); (case h2 => kspl_open zz_side); (case h3 => kspl_open zz_side)))
local macro_rules | `(tactic| kspl_open zz_use1) => `(tactic| ((with_reducible refine' Toy.use_law_refused ?k0)))
local macro_rules | `(tactic| kspl_open zz_use1) => `(tactic| ((with_reducible refine' Toy.use_law_rounds ?q0 ?h0 (fun _ _ => ?k0)); (case q0 => kspl_open zz_pk); (case h0 => kspl_open zz_side)))
local macro_rules | `(tactic| kspl_open zz_use1) => `(tactic| ((with_reducible refine' Toy.use_law ?q0 ?k0); (case q0 => kspl_open zz_pk)))

namespace Toy
open PySem L2
section
variable {P : Program} {w : World} {K : PySem.W.Frag} {mg : Str → Option Value} {base : Heap} {T : List (Addr × Str)} {C_Chip C_BadWord C_BadPlace C_BadPlan C_NotDue C_Stuck C_BadBits C_BadText C_TooLarge g_told : Addr}
theorem law_sp {a : Addr} {ns : List Int} (hl : ns.length ≤ 63) (hz : ∀ z ∈ ns, Builtin.Int.intBits z ≤ 1048576) : sg_law T K C_Chip C_BadWord C_BadPlace C_BadPlan C_NotDue C_Stuck C_BadBits C_BadText C_TooLarge g_told [.ref a] [Dh.sq K a (ns.map .int)] (fun v _ => v = .bl true) fun _ _ _ => False :=
  ⟨a, ns, [], rfl, Dh.ent_refl, fun _ _ _ => rfl⟩
set_option maxHeartbeats 0 in
theorem facts {P : Program} (hP : P = R.prog) {w : World} {K : PySem.W.Frag} {h : Heap} {mg : Str → Option Value} {f : Addr} (X : K.In h) (G : h.Ns mainGlobals mg) (hfa : mg ("law" : Str) = some (.ref f)) (c : He.SaysD fa fn K) (hex : exB K = true) :
    ∃ fd : FuncData, (∀ (s : Shared) (v : Value), BindsTo s fd ⟨[v], []⟩ [("script", v)]) ∧ ∀ base : Heap, (∀ p ∈ tf.map (He.cT K), LamX.TabB base mg p.1 p.2) → FnOk P w K mg base (L2.CX P w) 7 f fd ["script"] (Dh.sOfN (Dh.tabs K tfs) 1 (sg_law (Dh.tabs K tfs) K (He.ga K "Chip") (He.ga K "BadWord") (He.ga K "BadPlace") (He.ga K "BadPlan") (He.ga K "NotDue") (He.ga K "Stuck") (He.ga K "BadBits") (He.ga K "BadText") (He.ga K "TooLarge") (He.fAd K ("_law_told", none)))) := by
  obtain ⟨fd_Chip___init__, F_Chip___init__⟩ := c.def_ 0 (d := d_Chip___init__) rfl
  obtain ⟨fd_begin, F_begin⟩ := c.def_ 1 (d := d_begin) rfl
  obtain ⟨fd_end, F_end⟩ := c.def_ 2 (d := d_end) rfl
  obtain ⟨fd_bit, F_bit⟩ := c.def_ 3 (d := d_bit) rfl
  obtain ⟨fd_raised_two, F_raised_two⟩ := c.def_ 4 (d := d_raised_two) rfl
  obtain ⟨fd_octet, F_octet⟩ := c.def_ 5 (d := d_octet) rfl
  obtain ⟨fd_said, F_said⟩ := c.def_ 6 (d := d_said) rfl
  obtain ⟨fd_heard_on, F_heard_on⟩ := c.def_ 7 (d := d_heard_on) rfl
  obtain ⟨fd_parts_of, F_parts_of⟩ := c.def_ 8 (d := d_parts_of) rfl
  obtain ⟨fd_Chip_take, F_Chip_take⟩ := c.def_ 9 (d := d_Chip_take) rfl
  obtain ⟨fd_Chip_give, F_Chip_give⟩ := c.def_ 10 (d := d_Chip_give) rfl
  obtain ⟨fd_exchanged, F_exchanged⟩ := c.def_ 11 (d := d_exchanged) rfl
  obtain ⟨fd_won, F_won⟩ := c.def_ 12 (d := d_won) rfl
  obtain ⟨fd_law_dice, F_law_dice⟩ := c.def_ 13 (d := d_law_dice) rfl
  obtain ⟨fd_law_roll, F_law_roll⟩ := c.def_ 14 (d := d_law_roll) rfl
  obtain ⟨fd_law_rounds, F_law_rounds⟩ := c.def_ 15 (d := d_law_rounds) rfl
  obtain ⟨fd_law_told, F_law_told⟩ := c.def_ 16 (d := d_law_told) rfl
  obtain ⟨fd_law_levels, F_law_levels⟩ := c.def_ 17 (d := d_law_levels) rfl
  obtain ⟨fd_law_won, F_law_won⟩ := c.def_ 18 (d := d_law_won) rfl
  obtain ⟨fd_law_refused, F_law_refused⟩ := c.def_ 19 (d := d_law_refused) rfl
  obtain ⟨fd_law, F_law⟩ := c.def_ 20 (d := d_law) rfl
  have g_begin := He.glo_ok X G (c.fact 0 (f := .glo "begin") rfl)
  have g_end := He.glo_ok X G (c.fact 1 (f := .glo "end") rfl)
  have g_bit := He.glo_ok X G (c.fact 2 (f := .glo "bit") rfl)
  have g_raised_two := He.glo_ok X G (c.fact 3 (f := .glo "raised_two") rfl)
  have g_octet := He.glo_ok X G (c.fact 4 (f := .glo "octet") rfl)
  have g_said := He.glo_ok X G (c.fact 5 (f := .glo "said") rfl)
  have g_heard_on := He.glo_ok X G (c.fact 6 (f := .glo "heard_on") rfl)
  have g_parts_of := He.glo_ok X G (c.fact 7 (f := .glo "parts_of") rfl)
  have g_exchanged := He.glo_ok X G (c.fact 8 (f := .glo "exchanged") rfl)
  have g_won := He.glo_ok X G (c.fact 9 (f := .glo "won") rfl)
  have g_law_dice := He.glo_ok X G (c.fact 10 (f := .glo "_law_dice") rfl)
  have g_law_roll := He.glo_ok X G (c.fact 11 (f := .glo "_law_roll") rfl)
  have g_law_rounds := He.glo_ok X G (c.fact 12 (f := .glo "_law_rounds") rfl)
  have g_law_told := He.glo_ok X G (c.fact 13 (f := .glo "_law_told") rfl)
  have g_law_levels := He.glo_ok X G (c.fact 14 (f := .glo "_law_levels") rfl)
  have g_law_won := He.glo_ok X G (c.fact 15 (f := .glo "_law_won") rfl)
  have g_law_refused := He.glo_ok X G (c.fact 16 (f := .glo "_law_refused") rfl)
  have g_law := He.glo_ok X G (c.fact 17 (f := .glo "law") rfl)
  have g_Chip := He.glo_ok X G (c.fact 18 (f := .glo "Chip") rfl)
  have g_BadWord := He.glo_ok X G (c.fact 19 (f := .glo "BadWord") rfl)
  have g_BadPlace := He.glo_ok X G (c.fact 20 (f := .glo "BadPlace") rfl)
  have g_BadPlan := He.glo_ok X G (c.fact 21 (f := .glo "BadPlan") rfl)
  have g_NotDue := He.glo_ok X G (c.fact 22 (f := .glo "NotDue") rfl)
  have g_Stuck := He.glo_ok X G (c.fact 23 (f := .glo "Stuck") rfl)
  have g_BadBits := He.glo_ok X G (c.fact 24 (f := .glo "BadBits") rfl)
  have g_BadText := He.glo_ok X G (c.fact 25 (f := .glo "BadText") rfl)
  have g_TooLarge := He.glo_ok X G (c.fact 26 (f := .glo "TooLarge") rfl)
  simp only [exB, Bool.and_eq_true] at hex
  obtain ⟨hap, hs_BadBits⟩ := hex
  have e := hfa.symm.trans g_law
  cases e
  have Z : Txt K mg (He.ga K "Chip") (He.ga K "BadWord") (He.ga K "BadPlace") (He.ga K "BadPlan") (He.ga K "NotDue") (He.ga K "Stuck") (He.ga K "BadBits") (He.ga K "BadText") (He.ga K "TooLarge") (He.fAd K ("_law_told", none)) := { c_Chip := He.cls_ok (c.fact 40 (f := .cls "Chip") rfl), n_Chip_at := He.noat_ok (c.fact 41 (f := .noat "Chip" "at") rfl), n_Chip_cells := He.noat_ok (c.fact 42 (f := .noat "Chip" "cells") rfl), n_Chip_place := He.noat_ok (c.fact 43 (f := .noat "Chip" "place") rfl), b_abs := He.free_ok X G (c.fact 27 (f := .free "abs") rfl), b_enumerate := He.free_ok X G (c.fact 28 (f := .free "enumerate") rfl), b_int := He.free_ok X G (c.fact 29 (f := .free "int") rfl), b_isinstance := He.free_ok X G (c.fact 30 (f := .free "isinstance") rfl), b_len := He.free_ok X G (c.fact 31 (f := .free "len") rfl), b_list := He.free_ok X G (c.fact 32 (f := .free "list") rfl), b_max := He.free_ok X G (c.fact 33 (f := .free "max") rfl), b_min := He.free_ok X G (c.fact 34 (f := .free "min") rfl), b_range := He.free_ok X G (c.fact 35 (f := .free "range") rfl), b_sum := He.free_ok X G (c.fact 36 (f := .free "sum") rfl), b_super := He.free_ok X G (c.fact 37 (f := .free "super") rfl), b_tuple := He.free_ok X G (c.fact 38 (f := .free "tuple") rfl), b_zip := He.free_ok X G (c.fact 39 (f := .free "zip") rfl), e_BadPlan := Dh.exc_of X G (c.fact 47 (f := .exc "BadPlan") rfl) (c.fact 21 (f := .glo "BadPlan") rfl), t_law_told := Dh.FunX.told (x := "_law_told") (st := s_law_told) F_law_told g_law_told, m_BadWord := g_BadWord, m_BadPlace := g_BadPlace, m_BadPlan := g_BadPlan, m_NotDue := g_NotDue, m_Stuck := g_Stuck, m_BadBits := g_BadBits, m_BadText := g_BadText, m_TooLarge := g_TooLarge, x_BadPlan_BadWord := He.exm_ok (c.fact 48 (f := .exm "BadPlan" "BadWord" false) rfl), x_BadPlan_BadPlace := He.exm_ok (c.fact 49 (f := .exm "BadPlan" "BadPlace" false) rfl), x_BadPlan_BadPlan := He.exm_ok (c.fact 50 (f := .exm "BadPlan" "BadPlan" true) rfl), x_BadBits_BadWord := He.exm_ok (c.fact 51 (f := .exm "BadBits" "BadWord" false) rfl), x_BadBits_BadPlace := He.exm_ok (c.fact 52 (f := .exm "BadBits" "BadPlace" false) rfl), x_BadBits_BadPlan := He.exm_ok (c.fact 53 (f := .exm "BadBits" "BadPlan" false) rfl), x_BadBits_NotDue := He.exm_ok (c.fact 54 (f := .exm "BadBits" "NotDue" false) rfl), x_BadBits_Stuck := He.exm_ok (c.fact 55 (f := .exm "BadBits" "Stuck" false) rfl), x_BadBits_BadBits := He.exm_ok (c.fact 56 (f := .exm "BadBits" "BadBits" true) rfl) }
  have b_Chip___init__ : L2.Binds K fd_Chip___init__ ["self", "place", "many"] [] := F_Chip___init__.bindsN fun _ _ _ _ _ _ us hl => match us, hl with | [_, _, _], _ => rfl
  have b_begin : L2.Binds K fd_begin [] [] := F_begin.bindsN fun _ _ _ _ _ _ us hl => match us, hl with | [], _ => rfl
  have b_end : L2.Binds K fd_end [] [] := F_end.bindsN fun _ _ _ _ _ _ us hl => match us, hl with | [], _ => rfl
  have b_bit : L2.Binds K fd_bit ["much"] [] := F_bit.bindsN fun _ _ _ _ _ _ us hl => match us, hl with | [_], _ => rfl
  have b_raised_two : L2.Binds K fd_raised_two ["k"] [] := F_raised_two.bindsN fun _ _ _ _ _ _ us hl => match us, hl with | [_], _ => rfl
  have b_octet : L2.Binds K fd_octet ["much", "answer"] [] := F_octet.bindsN fun _ _ _ _ _ _ us hl => match us, hl with | [_, _], _ => rfl
  have b_said : L2.Binds K fd_said ["parts"] [] := F_said.bindsN fun _ _ _ _ _ _ us hl => match us, hl with | [_], _ => rfl
  have b_heard_on : L2.Binds K fd_heard_on ["levels"] [] := F_heard_on.bindsN fun _ _ _ _ _ _ us hl => match us, hl with | [_], _ => rfl
  have b_parts_of : L2.Binds K fd_parts_of ["rows"] [] := F_parts_of.bindsN fun _ _ _ _ _ _ us hl => match us, hl with | [_], _ => rfl
  have b_Chip_take : L2.Binds K fd_Chip_take ["self", "row"] [] := F_Chip_take.bindsN fun _ _ _ _ _ _ us hl => match us, hl with | [_, _], _ => rfl
  have b_Chip_give : L2.Binds K fd_Chip_give ["self", "many"] [] := F_Chip_give.bindsN fun _ _ _ _ _ _ us hl => match us, hl with | [_, _], _ => rfl
  have b_exchanged : L2.Binds K fd_exchanged ["chips", "asks"] [] := F_exchanged.bindsN fun _ _ _ _ _ _ us hl => match us, hl with | [_, _], _ => rfl
  have b_won : L2.Binds K fd_won ["rows"] [] := F_won.bindsN fun _ _ _ _ _ _ us hl => match us, hl with | [_], _ => rfl
  have b_law_dice : L2.Binds K fd_law_dice ["cell"] [] := F_law_dice.bindsN fun _ _ _ _ _ _ us hl => match us, hl with | [_], _ => rfl
  have b_law_roll : L2.Binds K fd_law_roll ["dice", "many"] [] := F_law_roll.bindsN fun _ _ _ _ _ _ us hl => match us, hl with | [_, _], _ => rfl
  have b_law_rounds : L2.Binds K fd_law_rounds ["script", "most"] [] := F_law_rounds.bindsN fun _ _ _ _ _ _ us hl => match us, hl with | [_, _], _ => rfl
  have b_law_told : L2.Binds K fd_law_told ["what"] [] := F_law_told.bindsN fun _ _ _ _ _ _ us hl => match us, hl with | [_], _ => rfl
  have b_law_levels : L2.Binds K fd_law_levels ["dice", "parts", "due", "asks"] [] := F_law_levels.bindsN fun _ _ _ _ _ _ us hl => match us, hl with | [_, _, _, _], _ => rfl
  have b_law_won : L2.Binds K fd_law_won ["dice"] [] := F_law_won.bindsN fun _ _ _ _ _ _ us hl => match us, hl with | [_], _ => rfl
  have b_law_refused : L2.Binds K fd_law_refused [] [] := F_law_refused.bindsN fun _ _ _ _ _ _ us hl => match us, hl with | [], _ => rfl
  have b_law : L2.Binds K fd_law ["script"] [] := F_law.bindsN fun _ _ _ _ _ _ us hl => match us, hl with | [_], _ => rfl
  refine ⟨fd_law, fun s v => F_law.bindsA (ps := ["script"]) (fun _ _ _ _ _ _ us hl => match us, hl with | [_], _ => rfl) s [v] rfl, fun base TB => ?_⟩
  have cc_BadBits___init__ : Dh.RaiX P w K mg base "BadBits" (He.ga K "BadBits") "place" := Dh.raix_of (par := "place") (by rw [hP]; exact hs_BadBits) g_BadBits Z.b_super (by decide +kernel) (by decide +kernel) ⟨by decide, by decide⟩ (fun fd a1 a2 q1 q2 h hd => by
    obtain ⟨n1, n2, n3, n4, n5, n6, n7, n8, n9, n10, n11, n12, n13, n14, n15⟩ := fd
    dsimp only at h hd
    subst h
    subst hd
    exact .all fun us hl => match us, hl with | [_, _], _ => rfl)
  obtain ⟨_, FC_Chip___init__⟩ := Dh.FunX.c (x := "__init__") (qual := "Chip.__init__") (st := s_Chip___init__) F_Chip___init__
  have o_Chip___init__ := ok_Chip___init__ (P := P) (w := w) (base := base) (T := Dh.tabs K tfs) Z  FC_Chip___init__
  have cc_Chip___init__ := Dh.mak_of o_Chip___init__ (He.mkr_ok (c.fact 44 (f := .mkr "Chip") rfl)) g_Chip b_Chip___init__
  obtain ⟨_, FC_begin⟩ := Dh.FunX.c (x := "begin") (qual := "begin") (st := s_begin) F_begin
  have o_begin := ok_begin (P := P) (w := w) (base := base) (T := Dh.tabs K tfs) Z  FC_begin
  have cc_begin := Dh.cal_of (x := "begin") (st := s_begin) F_begin o_begin g_begin b_begin
  obtain ⟨_, FC_end⟩ := Dh.FunX.c (x := "end") (qual := "end") (st := s_end) F_end
  have o_end := ok_end (P := P) (w := w) (base := base) (T := Dh.tabs K tfs) Z  FC_end
  have cc_end := Dh.cal_of (x := "end") (st := s_end) F_end o_end g_end b_end
  obtain ⟨_, FC_bit⟩ := Dh.FunX.c (x := "bit") (qual := "bit") (st := s_bit) F_bit
  have o_bit := ok_bit (P := P) (w := w) (base := base) (T := Dh.tabs K tfs) Z  FC_bit
  have cc_bit := Dh.cal_of (x := "bit") (st := s_bit) F_bit o_bit g_bit b_bit
  obtain ⟨_, FC_raised_two⟩ := Dh.FunX.c (x := "raised_two") (qual := "raised_two") (st := s_raised_two) F_raised_two
  have o_raised_two := ok_raised_two (P := P) (w := w) (base := base) (T := Dh.tabs K tfs) Z  FC_raised_two
  have cc_raised_two := Dh.cal_of (x := "raised_two") (st := s_raised_two) F_raised_two o_raised_two g_raised_two b_raised_two
  obtain ⟨_, FC_octet⟩ := Dh.FunX.c (x := "octet") (qual := "octet") (st := s_octet) F_octet
  have o_octet := ok_octet (P := P) (w := w) (base := base) (T := Dh.tabs K tfs) Z cc_bit cc_raised_two FC_octet
  have cc_octet := Dh.cal_of (x := "octet") (st := s_octet) F_octet o_octet g_octet b_octet
  obtain ⟨_, FC_said⟩ := Dh.FunX.c (x := "said") (qual := "said") (st := s_said) F_said
  have o_said := ok_said (P := P) (w := w) (base := base) (T := Dh.tabs K tfs) Z cc_begin cc_end cc_octet FC_said
  have cc_said := Dh.cal_of (x := "said") (st := s_said) F_said o_said g_said b_said
  have FC_heard_on := Dh.FunX.r (x := "heard_on") (qual := "heard_on") (st := s_heard_on) (p := ("heard_on", none)) F_heard_on
  have o_heard_on := ok_heard_on (P := P) (w := w) (base := base) (T := Dh.tabs K tfs) Z cc_BadBits___init__ cc_raised_two (TB _ (List.mem_map.mpr ⟨("heard_on", none), (by simp [tf]), rfl⟩)) (Dh.tabs_mem (tf := tfs) (x := (("heard_on", none), Dh.genQ (Dh.locQ "heard_on"))) (by simp [tfs])) (Dh.tabs_one (tf := tfs) (x := (("heard_on", none), Dh.genQ (Dh.locQ "heard_on"))) hap (by simp [tfs])) FC_heard_on
  have cc_heard_on := Dh.cal_of (x := "heard_on") (st := s_heard_on) F_heard_on o_heard_on g_heard_on b_heard_on
  obtain ⟨_, FC_parts_of⟩ := Dh.FunX.c (x := "parts_of") (qual := "parts_of") (st := s_parts_of) F_parts_of
  have o_parts_of := ok_parts_of (P := P) (w := w) (base := base) (T := Dh.tabs K tfs) Z cc_BadBits___init__ FC_parts_of
  have cc_parts_of := Dh.cal_of (x := "parts_of") (st := s_parts_of) F_parts_of o_parts_of g_parts_of b_parts_of
  obtain ⟨_, FC_Chip_take⟩ := Dh.FunX.c (x := "take") (qual := "Chip.take") (st := s_Chip_take) F_Chip_take
  have o_Chip_take := ok_Chip_take (P := P) (w := w) (base := base) (T := Dh.tabs K tfs) Z  FC_Chip_take
  have cc_Chip_take := Dh.met_of o_Chip_take (He.cls_ok (c.fact 40 (f := .cls "Chip") rfl)) (He.meth_ok (c.fact 45 (f := .meth "Chip" "take") rfl)) b_Chip_take
  obtain ⟨_, FC_Chip_give⟩ := Dh.FunX.c (x := "give") (qual := "Chip.give") (st := s_Chip_give) F_Chip_give
  have o_Chip_give := ok_Chip_give (P := P) (w := w) (base := base) (T := Dh.tabs K tfs) Z  FC_Chip_give
  have cc_Chip_give := Dh.met_of o_Chip_give (He.cls_ok (c.fact 40 (f := .cls "Chip") rfl)) (He.meth_ok (c.fact 46 (f := .meth "Chip" "give") rfl)) b_Chip_give
  obtain ⟨_, FC_exchanged⟩ := Dh.FunX.c (x := "exchanged") (qual := "exchanged") (st := s_exchanged) F_exchanged
  have o_exchanged := ok_exchanged (P := P) (w := w) (base := base) (T := Dh.tabs K tfs) Z cc_Chip_give cc_Chip_take FC_exchanged
  have cc_exchanged := Dh.cal_of (x := "exchanged") (st := s_exchanged) F_exchanged o_exchanged g_exchanged b_exchanged
  obtain ⟨_, FC_won⟩ := Dh.FunX.c (x := "won") (qual := "won") (st := s_won) F_won
  have o_won := ok_won (P := P) (w := w) (base := base) (T := Dh.tabs K tfs) Z  FC_won
  have cc_won := Dh.cal_of (x := "won") (st := s_won) F_won o_won g_won b_won
  obtain ⟨_, FC_law_dice⟩ := Dh.FunX.c (x := "_law_dice") (qual := "_law_dice") (st := s_law_dice) F_law_dice
  have o_law_dice := ok_law_dice (P := P) (w := w) (base := base) (T := Dh.tabs K tfs) Z  FC_law_dice
  have cc_law_dice := Dh.cal_of (x := "_law_dice") (st := s_law_dice) F_law_dice o_law_dice g_law_dice b_law_dice
  obtain ⟨_, FC_law_roll⟩ := Dh.FunX.c (x := "_law_roll") (qual := "_law_roll") (st := s_law_roll) F_law_roll
  have o_law_roll := ok_law_roll (P := P) (w := w) (base := base) (T := Dh.tabs K tfs) Z  FC_law_roll
  have cc_law_roll := Dh.cal_of (x := "_law_roll") (st := s_law_roll) F_law_roll o_law_roll g_law_roll b_law_roll
  obtain ⟨_, FC_law_rounds⟩ := Dh.FunX.c (x := "_law_rounds") (qual := "_law_rounds") (st := s_law_rounds) F_law_rounds
  have o_law_rounds := ok_law_rounds (P := P) (w := w) (base := base) (T := Dh.tabs K tfs) Z cc_law_dice FC_law_rounds
  have cc_law_rounds := Dh.cal_of (x := "_law_rounds") (st := s_law_rounds) F_law_rounds o_law_rounds g_law_rounds b_law_rounds
  have FC_law_levels := Dh.FunX.r (x := "_law_levels") (qual := "_law_levels") (st := s_law_levels) (p := ("_law_levels", none)) F_law_levels
  have o_law_levels := ok_law_levels (P := P) (w := w) (base := base) (T := Dh.tabs K tfs) Z cc_law_roll cc_heard_on cc_parts_of cc_said (TB _ (List.mem_map.mpr ⟨("_law_levels", none), (by simp [tf]), rfl⟩)) (Dh.tabs_mem (tf := tfs) (x := (("_law_levels", none), Dh.lamQ (Dh.locQ "_law_levels"))) (by simp [tfs])) (Dh.tabs_one (tf := tfs) (x := (("_law_levels", none), Dh.lamQ (Dh.locQ "_law_levels"))) hap (by simp [tfs])) FC_law_levels
  have cc_law_levels := Dh.cal_of (x := "_law_levels") (st := s_law_levels) F_law_levels o_law_levels g_law_levels b_law_levels
  obtain ⟨_, FC_law_won⟩ := Dh.FunX.c (x := "_law_won") (qual := "_law_won") (st := s_law_won) F_law_won
  have o_law_won := ok_law_won (P := P) (w := w) (base := base) (T := Dh.tabs K tfs) Z cc_law_roll cc_won FC_law_won
  have cc_law_won := Dh.cal_of (x := "_law_won") (st := s_law_won) F_law_won o_law_won g_law_won b_law_won
  have FC_law_refused := Dh.FunX.r (x := "_law_refused") (qual := "_law_refused") (st := s_law_refused) (p := ("_law_refused", none)) F_law_refused
  have o_law_refused := ok_law_refused (P := P) (w := w) (base := base) (T := Dh.tabs K tfs) Z cc_parts_of cc_said (TB _ (List.mem_map.mpr ⟨("_law_refused", none), (by simp [tf]), rfl⟩)) (Dh.tabs_mem (tf := tfs) (x := (("_law_refused", none), Dh.lamQ (Dh.locQ "_law_refused"))) (by simp [tfs])) (Dh.tabs_one (tf := tfs) (x := (("_law_refused", none), Dh.lamQ (Dh.locQ "_law_refused"))) hap (by simp [tfs])) FC_law_refused
  have cc_law_refused := Dh.cal_of (x := "_law_refused") (st := s_law_refused) F_law_refused o_law_refused g_law_refused b_law_refused
  obtain ⟨_, FC_law⟩ := Dh.FunX.c (x := "law") (qual := "law") (st := s_law) F_law
  have o_law := ok_law (P := P) (w := w) (base := base) (T := Dh.tabs K tfs) Z cc_Chip___init__ cc_law_levels cc_law_refused cc_law_roll cc_law_rounds cc_law_won cc_exchanged FC_law
  exact o_law
theorem law_walk {q : Program} {XP : (Str → Option Value) → Heap → Prop} : PySem.W.WalkO q loose XP hk.says R.toRowW (HandSHeadRun.topDef R.prog 30) [] (fun f vs => PySem.call f vs) := by
  refine LamX.walk_ofTsE (l := PySem.Challenge.rw_drivehall_k22_two_wires) (n := 63) (k := 7) (x := "script") (CX := fun w => L2.CX (PySem.Challenge.rw_drivehall_k22_two_wires).prog w) rfl (by decide) (by kernel_rfl) ⟨rfl, by decide, by decide⟩ ?F (fun _ _ _ _ _ => Dh.cx_no)
  intro w mg f h Y G hmg0
  obtain ⟨K, KX, c⟩ := Y
  have hmg : mg ("law" : Str) = some (.ref f) := by
    have e : (HandSHeadRun.topDef R.prog 30).name = ("law" : Str) := by kernel_rfl
    rw [← e]
    exact hmg0
  obtain ⟨fd, hb, hF⟩ := facts (P := (PySem.Challenge.rw_drivehall_k22_two_wires).prog) (w := w) rfl KX G hmg c.d c.more
  refine ⟨K, KX, fd, tf.map (He.cT K), _, ?_, ?_, ?_, hb, ?_, fun base _ _ TB => hF base TB⟩
  · intro p hp
    obtain ⟨d, hd, rfl⟩ := List.mem_map.mp hp
    exact (c.tb d hd).2.2
  · intro p hp
    obtain ⟨d, hd, rfl⟩ := List.mem_map.mp hp
    exact (c.tb d hd).2.1
  · intro p hp
    obtain ⟨d, hd, rfl⟩ := List.mem_map.mp hp
    exact PySem.W.codeHd_of_K KX ((c.tb d hd).1)
  · intro H a ns hl hz hT hS
    refine ⟨rfl, [Dh.sq K a (ns.map .int)], Dh.tabs_empty (tf := tfs) hT, Dh.seps_sq hS, ?_⟩
    exact law_sp hl hz

end
end Toy
end

open PySem PySem.W PySem.Calls PyProof.Rows in
set_option maxHeartbeats 0 in
theorem PySem.Challenge.cw_drivehall_k22_two_wires_holds : PySem.Challenge.rw_drivehall_k22_two_wires.Holds := by
  w_on; o_law
  refine HandSHeadRun.head_any (r := OpenLaw.row PySem.Challenge.rw_drivehall_k22_two_wires) (q := view (OpenLaw.row PySem.Challenge.rw_drivehall_k22_two_wires).prog [30]) (H := Toy.hk) (ob := Toy.ob) (M := 20000) (loose := Toy.loose) (d := HandSHeadRun.topDef (OpenLaw.row PySem.Challenge.rw_drivehall_k22_two_wires).prog 30) (kwd := []) Toy.ob_eq
    (by kernel_rfl) (fun s => by kernel_rfl) Toy.run (by kernel_rfl) (by kernel_rfl) (by kernel_rfl) (by rfl) (by first | assumption | decide +kernel) (by decide +kernel) ⟨rfl, rfl, rfl, rfl, rfl, by decide +kernel⟩ ?hw ?hc
  case hw => w_witness2
  case hc => exact Toy.law_walk
