import PyProof.Rows.All
import Wide.All
import OpenK.AllK
import Wide.FinOn
import HandS.ForMost
import HandS.ForExc
import HandS.TryMany
import HandS.Lambda
import HandS.Flow
import HandS.Style
import HandS.Zip
import HandS.Rev
import HandS.IsInst
import HandS.Wide
import HandS.Evl
import HandS.EndTab
import HandS.Conv
import KE.KNestM
import KE.KStateDown
import HandS.Defaults
import HandS.Head0
import HandS.Head1
import HandS.Head2
import HandS.HeadEnd
import HandS.HeadHook1
import HandS.HeadHook2
import HandS.HeadHook3
import HandS.HeadHook4
import HandS.HeadWalk
import PySem.Challenge.RW_drivehall_k06_rings_and_pipes
set_option Elab.async false
set_option pp.maxSteps 1500
set_option maxRecDepth 100000
set_option linter.all false
set_option pp.maxSteps 1500
/-! The layer Dh: chunks of the abstract heap, goals over chunks. -/
namespace Dh
open PySem L2

/-! ### chunks -/
abbrev HP := Hp → Prop
def isImm : HO → Bool
  | .tup _ => true
  | .frz _ _ => true
  | _ => false
def isTbl : HO → Bool
  | .tbl _ => true
  | _ => false
def isWr : HO → Bool
  | .lst _ => true
  | .dK _ => true
  | .dT _ => true
  | .set _ _ => true
  | .ins _ _ _ => true
  | _ => false
def Dis (h1 h2 : Hp) : Prop := ∀ a o u, h1 a = some o → h2 a = some u → o = u ∧ isImm o = true
def Sub (h H : Hp) : Prop := ∀ a o, h a = some o → H a = some o
def NT (h : Hp) : Prop := ∀ a o, h a = some o → isTbl o = false
def Seps : List HP → Hp → Prop
  | [], _ => True
  | P :: Ps, H => ∃ h1 h2, Dis h1 h2 ∧ NT h1 ∧ NT h2 ∧ Sub h1 H ∧ Sub h2 H ∧ P h1 ∧ Seps Ps h2
/-- the object o stands at a -/
def pt (a : Addr) (o : HO) : HP := fun h => h a = some o
/-- an instance of the class at C with the attributes fs -/
def ob (a C : Addr) (fs : List (Str × V)) : HP := fun h => ∃ dx, h a = some (.ins C dx fs)
def ex {α : Sort u} (P : α → HP) : HP := fun h => ∃ x, P x h
def pu (p : Prop) : HP := fun _ => p

theorem wr_imm {o : HO} (w : isWr o = true) : isImm o = false := by
  cases o <;> first | rfl | (simp [isWr] at w)
theorem imm_tbl {o : HO} (w : isImm o = true) : isTbl o = false := by
  cases o <;> first | rfl | (simp [isImm] at w)
def ntH (H : Hp) : Hp := fun a => match H a with
  | some o => if isTbl o then none else some o
  | none => none
theorem ntH_some {H : Hp} {a : Addr} {o : HO} : ntH H a = some o ↔ H a = some o ∧ isTbl o = false := by
  unfold ntH
  cases e : H a with
  | none => simp
  | some u =>
    cases t : isTbl u with
    | true =>
      simp only [t, if_true, Option.some.injEq]
      constructor
      · intro h; cases h
      · rintro ⟨rfl, h⟩; rw [t] at h; cases h
    | false =>
      simp only [t, Bool.false_eq_true, if_false, Option.some.injEq]
      constructor
      · rintro rfl; exact ⟨rfl, t⟩
      · rintro ⟨rfl, _⟩; rfl
def uni (h k : Hp) : Hp := fun a => match h a with
  | some o => some o
  | none => k a
theorem uni_some {h k : Hp} {a : Addr} {o : HO} (e : uni h k a = some o) : h a = some o ∨ k a = some o := by
  unfold uni at e
  cases q : h a with
  | none => rw [q] at e; exact .inr e
  | some u => rw [q] at e; exact .inl e
theorem uni_l {h k : Hp} {a : Addr} {o : HO} (e : h a = some o) : uni h k a = some o := by unfold uni; rw [e]
theorem uni_r {h k : Hp} (d : Dis h k) {a : Addr} {o : HO} (e : k a = some o) : uni h k a = some o := by
  unfold uni
  cases q : h a with
  | none => exact e
  | some u => rw [(d a u o q e).1]
theorem Dis.symm {h k : Hp} (d : Dis h k) : Dis k h := fun a o u h1 h2 => by
  obtain ⟨e, i⟩ := d a u o h2 h1
  subst e
  exact ⟨rfl, i⟩
theorem Dis.sub {h k h' k' : Hp} (d : Dis h k) (s : Sub h' h) (t : Sub k' k) : Dis h' k' := fun a o u h1 h2 => d a o u (s _ _ h1) (t _ _ h2)
theorem Sub.trans {h k l : Hp} (a : Sub h k) (b : Sub k l) : Sub h l := fun x o e => b x o (a x o e)
theorem Sub.refl (h : Hp) : Sub h h := fun _ _ e => e
theorem NT.sub {h k : Hp} (n : NT k) (s : Sub h k) : NT h := fun a o e => n a o (s a o e)
theorem NT.uni {h k : Hp} (n : NT h) (m : NT k) : NT (uni h k) := fun a o e => (uni_some e).elim (n a o) (m a o)
theorem Sub.uni {h k l : Hp} (s : Sub h l) (t : Sub k l) : Sub (uni h k) l := fun a o e => (uni_some e).elim (s a o) (t a o)
theorem Dis.uniL {h k l : Hp} (d : Dis h l) (e : Dis k l) : Dis (uni h k) l := fun a o u q r => (uni_some q).elim (fun z => d a o u z r) (fun z => e a o u z r)

theorem Seps.mono {H H' : Hp} (k : ∀ a o, H a = some o → isTbl o = false → H' a = some o) : ∀ {L : List HP}, Seps L H → Seps L H'
  | [], _ => trivial
  | P :: L, ⟨h1, h2, d, n1, n2, s1, s2, p, r⟩ => ⟨h1, h2, d, n1, n2, fun a o e => k a o (s1 a o e) (n1 a o e), fun a o e => k a o (s2 a o e) (n2 a o e), p, r⟩
theorem Seps.sub {H H' : Hp} (s : Sub H H') {L : List HP} (h : Seps L H) : Seps L H' := h.mono fun a o e _ => s a o e
theorem Seps.nt {H : Hp} {L : List HP} (h : Seps L H) : Seps L (ntH H) := h.mono fun _ _ e n => ntH_some.mpr ⟨e, n⟩
theorem NT.ntH (H : Hp) : NT (ntH H) := fun _ _ e => (ntH_some.mp e).2
theorem Sub.ntH (H : Hp) : Sub (ntH H) H := fun _ _ e => (ntH_some.mp e).1

theorem Seps.tail {P : HP} {L : List HP} {H : Hp} : Seps (P :: L) H → Seps L H
  | ⟨_, _, _, _, _, _, s2, _, r⟩ => r.sub s2
theorem Seps.head {P : HP} {L : List HP} {H : Hp} : Seps (P :: L) H → ∃ h, Sub h H ∧ P h
  | ⟨h1, _, _, _, _, s1, _, p, _⟩ => ⟨h1, s1, p⟩
theorem Seps.imp {P P' : HP} {L : List HP} {H : Hp} (k : ∀ h, P h → P' h) : Seps (P :: L) H → Seps (P' :: L) H
  | ⟨h1, h2, d, n1, n2, s1, s2, p, r⟩ => ⟨h1, h2, d, n1, n2, s1, s2, k _ p, r⟩
theorem Seps.impT {P : HP} {L L' : List HP} {H : Hp} (k : ∀ h, Seps L h → Seps L' h) : Seps (P :: L) H → Seps (P :: L') H
  | ⟨h1, h2, d, n1, n2, s1, s2, p, r⟩ => ⟨h1, h2, d, n1, n2, s1, s2, p, k _ r⟩
theorem Seps.swap {P Q : HP} {L : List HP} {H : Hp} : Seps (P :: Q :: L) H → Seps (Q :: P :: L) H
  | ⟨h1, h2, d, n1, n2, s1, s2, p, h21, h22, d', m1, m2, t1, t2, q, r⟩ =>
    ⟨h21, uni h1 h22, (Dis.uniL (d.sub (Sub.refl _) t1) d'.symm).symm, m1, n1.uni m2, t1.trans s2, s1.uni (t2.trans s2), q, h1, h22, d.sub (Sub.refl _) t2, n1, m2, fun _ _ e => uni_l e, fun _ _ e => uni_r (d.sub (Sub.refl _) t2) e, p, r⟩
/-- a new object -/
theorem Seps.new {L : List HP} {H : Hp} {p : Addr} {o : HO} {P : HP} (h : Seps L H) (hp : H p = none) (ho : isTbl o = false) (hP : ∀ k : Hp, k p = some o → P k) : Seps (P :: L) (upd H p o) := by
  refine ⟨upd (fun _ => none) p o, ntH H, fun a u v e1 e2 => ?_, fun a u e => ?_, NT.ntH H, fun a u e => ?_, fun a u e => ?_, hP _ upd_same, h.nt⟩
  · by_cases q : a = p
    · subst q; have z := (ntH_some.mp e2).1; rw [hp] at z; cases z
    · rw [upd_ne q] at e1; cases e1
  · by_cases q : a = p
    · subst q; rw [upd_same] at e; cases e; exact ho
    · rw [upd_ne q] at e; cases e
  · by_cases q : a = p
    · subst q; rw [upd_same] at e ⊢; exact e
    · rw [upd_ne q] at e; cases e
  · have z := (ntH_some.mp e).1
    rw [upd_ne (ne_of_none z hp)]; exact z
/-- the first chunk's object at a is written -/
theorem Seps.wr {P P' : HP} {L : List HP} {H : Hp} {a : Addr} {o' : HO} (ho : isTbl o' = false) (k : ∀ h, P h → ∃ o, h a = some o ∧ isWr o = true ∧ P' (upd h a o')) : Seps (P :: L) H → Seps (P' :: L) (upd H a o')
  | ⟨h1, h2, d, n1, n2, s1, s2, p, r⟩ => by
    obtain ⟨o, e, w, p'⟩ := k h1 p
    have na : h2 a = none := by
      cases q : h2 a with
      | none => rfl
      | some u =>
        have z := (d a o u e q).2
        rw [wr_imm w] at z
        cases z
    refine ⟨upd h1 a o', h2, fun b u v e1 e2 => ?_, fun b u e1 => ?_, n2, fun b u e1 => ?_, fun b u e1 => ?_, p', r⟩
    · by_cases q : b = a
      · subst q; rw [na] at e2; cases e2
      · rw [upd_ne q] at e1; exact d b u v e1 e2
    · by_cases q : b = a
      · subst q; rw [upd_same] at e1; cases e1; exact ho
      · rw [upd_ne q] at e1; exact n1 b u e1
    · by_cases q : b = a
      · subst q; rw [upd_same] at e1 ⊢; exact e1
      · rw [upd_ne q] at e1 ⊢; exact s1 b u e1
    · rw [upd_ne (ne_of_none e1 na)]; exact s2 b u e1
/-- chunks in two groups -/
theorem Seps.cut : ∀ {L1 L2 : List HP} {H : Hp}, Seps (L1 ++ L2) H → Seps (Seps L1 :: L2) H
  | [], L2, H, h => ⟨fun _ => none, ntH H, fun _ _ _ e => (nomatch e), fun _ _ e => (nomatch e), NT.ntH H, fun _ _ e => (nomatch e), Sub.ntH H, trivial, h.nt⟩
  | P :: L1, L2, H, ⟨h1, h2, d, n1, n2, s1, s2, p, r⟩ => by
    obtain ⟨k1, k2, e, m1, m2, t1, t2, q, z⟩ := Seps.cut r
    have d1 := d.sub (Sub.refl _) t1
    exact ⟨uni h1 k1, k2, (d.sub (Sub.refl _) t2).uniL e, n1.uni m1, m2, s1.uni (t1.trans s2), t2.trans s2, ⟨h1, k1, d1, n1, m1, fun _ _ x => uni_l x, fun _ _ x => uni_r d1 x, p, q⟩, z⟩
theorem Seps.paste : ∀ {L1 L2 : List HP} {H : Hp}, Seps (Seps L1 :: L2) H → Seps (L1 ++ L2) H
  | [], _, _, h => h.tail
  | P :: L1, L2, H, ⟨h1, h2, d, n1, n2, s1, s2, ⟨k1, k2, e, m1, m2, t1, t2, p, q⟩, r⟩ => by
    have d2 := d.sub t2 (Sub.refl _)
    exact ⟨k1, uni k2 h2, (Dis.uniL e.symm (d.sub t1 (Sub.refl _)).symm).symm, m1, m2.uni n2, t1.trans s1, (t2.trans s1).uni s2, p, Seps.paste ⟨k2, h2, d2, m2, n2, fun _ _ x => uni_l x, fun _ _ x => uni_r d2 x, q, r⟩⟩
/-- an immutable object may be told again -/
theorem Seps.more {L : List HP} {H : Hp} {P : HP} (h : Seps L H) (k : Hp) (hk : Sub k H) (hi : ∀ a o, k a = some o → isImm o = true) (hP : P k) : Seps (P :: L) H := by
  have nk : NT k := fun a o e => imm_tbl (hi a o e)
  refine ⟨k, ntH H, fun a o u e1 e2 => ?_, nk, NT.ntH H, hk, Sub.ntH H, hP, h.nt⟩
  have e3 := hk a o e1
  rw [(ntH_some.mp e2).1] at e3
  cases e3
  exact ⟨rfl, hi a o e1⟩

/-! ### picking, entailment -/
def Pick (L : List HP) (c : HP) (L1 : List HP) : Prop := ∀ H, Seps L H → Seps (c :: L1) H
theorem pick_here {c : HP} {L : List HP} : Pick (c :: L) c L := fun _ h => h
theorem pick_there {c d : HP} {L L1 : List HP} (p : Pick L c L1) : Pick (d :: L) c (d :: L1) := fun _ h => (h.impT p).swap
def Ent (L L' : List HP) : Prop := ∀ H, Seps L H → Seps L' H
theorem ent_refl {L : List HP} : Ent L L := fun _ h => h
theorem ent_nil {L : List HP} : Ent L [] := fun _ _ => trivial
theorem ent_cons {L L1 L' : List HP} {c : HP} (p : Pick L c L1) (e : Ent L1 L') : Ent L (c :: L') := fun H h => (p H h).impT e
theorem ent_drop {L L' : List HP} {d : HP} (e : Ent L L') : Ent (d :: L) L' := fun H h => e H h.tail
theorem Ent.trans {L M N : List HP} (a : Ent L M) (b : Ent M N) : Ent L N := fun H h => b H (a H h)

/-! ### goals -/
section
variable {T : List (Addr × Str)}
def Go (T : List (Addr × Str)) (L : List HP) (G : Hp → Prop) : Prop := ∀ H, LamX.Tabs T H → Seps L H → G H
theorem Go.ent {L L' : List HP} {G : Hp → Prop} (e : Ent L L') (g : Go T L' G) : Go T L G := fun H t h => g H t (e H h)
theorem Go.mono {L : List HP} {G G' : Hp → Prop} (g : Go T L G) (k : ∀ H, G H → G' H) : Go T L G' := fun H t h => k H (g H t h)
theorem go_ex {α : Sort u} {P : α → HP} {L : List HP} {G : Hp → Prop} (g : ∀ x, Go T (P x :: L) G) : Go T (ex P :: L) G := fun H t h => by
  obtain ⟨h1, h2, d, n1, n2, s1, s2, ⟨x, p⟩, r⟩ := h
  exact g x H t ⟨h1, h2, d, n1, n2, s1, s2, p, r⟩
theorem go_pu {p : Prop} {L : List HP} {G : Hp → Prop} (g : p → Go T L G) : Go T (pu p :: L) G := fun H t h => by
  obtain ⟨h1, s1, p⟩ := h.head
  exact g p H t h.tail
theorem go_seps {L1 L : List HP} {G : Hp → Prop} (g : Go T (L1 ++ L) G) : Go T (Seps L1 :: L) G := fun H t h => g H t h.paste
theorem codeO_nw {c : Addr} {q : Str} : isWr (LamX.CodeO c q) = false := rfl
theorem Tabs.wr {H : Hp} {a : Addr} {o o' : HO} (t : LamX.Tabs T H) (e : H a = some o) (w : isWr o = true) : LamX.Tabs T (upd H a o') := fun p hp => by
  obtain ⟨ps, h1, h2, h3⟩ := t p hp
  have ne : ∀ b u, H b = some u → isWr u = false → b ≠ a := fun b u q nw z => by
    subst z; rw [e] at q; cases q; rw [w] at nw; cases nw
  refine ⟨ps, by rw [upd_ne (ne _ _ h1 rfl)]; exact h1, h2, fun pos cv hc => ?_⟩
  obtain ⟨c, e1, e2⟩ := h3 pos cv hc
  exact ⟨c, e1, by rw [upd_ne (ne _ _ e2 codeO_nw)]; exact e2⟩
theorem Tabs.new {H : Hp} {a : Addr} {o : HO} (t : LamX.Tabs T H) (e : H a = none) : LamX.Tabs T (upd H a o) := t.ext fun b u q => by rw [upd_ne (ne_of_none q e)]; exact q
/-- a new object -/
theorem go_new {L : List HP} {o : HO} {P : Addr → HP} {Q : Addr → Hp → Prop} (ho : isTbl o = false) (hP : ∀ p (k : Hp), k p = some o → P p k) (g : ∀ p, Go T (P p :: L) (Q p)) : Go T L (fun H => ∀ p, H p = none → Q p (upd H p o)) :=
  fun H t h p hp => g p _ (Tabs.new t hp) (h.new hp ho (hP p))
/-- an object written -/
theorem go_wr {L L1 : List HP} {a : Addr} {o' : HO} {P P' : HP} {Q : Hp → Prop} (pk : Pick L P L1) (ho : isTbl o' = false) (k : ∀ h, P h → ∃ o, h a = some o ∧ isWr o = true ∧ P' (upd h a o')) (g : Go T (P' :: L1) Q) : Go T L (fun H => Q (upd H a o')) :=
  fun H t h => by
    have h' := pk H h
    obtain ⟨h1, s1, p⟩ := h'.head
    obtain ⟨o, e, w, _⟩ := k h1 p
    exact g _ (Tabs.wr t (s1 a o e) w) (h'.wr ho k)
theorem Pick.at {L L1 : List HP} {a : Addr} {o : HO} (pk : Pick L (pt a o) L1) {H : Hp} (h : Seps L H) : H a = some o := by
  obtain ⟨h1, s1, p⟩ := (pk H h).head
  exact s1 a o p
theorem Pick.obj {L L1 : List HP} {a C : Addr} {fs : List (Str × V)} (pk : Pick L (ob a C fs) L1) {H : Hp} (h : Seps L H) : ∃ dx, H a = some (.ins C dx fs) := by
  obtain ⟨h1, s1, dx, p⟩ := (pk H h).head
  exact ⟨dx, s1 a _ p⟩
end
end Dh

/-! The layer Dh, second part: readings whose form hangs on the values at hand; goals over chunks, step by step. -/
namespace Dh
open PySem PySem.Spec PyProof.Rows L2

/-! ### operators by the values at hand -/
section
variable {X : Cx}
def rAddX (K : PySem.W.Frag) : R2 := fun x y H Q => match x, y with
  | .int i, .int j => Q (.int (i + j)) H
  | .str a, .str b => a.length + b.length ≤ sizeLine ∧ Q (.str (a ++ b)) H
  | .int i, .bl k => Q (.int (i + b2i k)) H
  | .ref l, .ref b => (∃ xs zs, H l = some (.lst xs) ∧ H b = some (.lst zs) ∧ xs.length + zs.length ≤ sizeLine ∧ ∀ p, H p = none → Q (.ref p) (upd H p (.lst (xs ++ zs)))) ∨ rCatT K (.ref l) (.ref b) H Q
  | _, _ => False
theorem op_addS : OpR X (binaryOp .Add) (fun x y H Q => ∃ a b, x = .str a ∧ y = .str b ∧ a.length + b.length ≤ sizeLine ∧ Q (.str (a ++ b)) H) := by
  intro pins s σ H x y v u Q I rx ry h
  obtain ⟨a, b, ex, ey, hl, q⟩ := h
  subst ex; subst ey
  obtain ⟨t, rfl⟩ := rx
  obtain ⟨t', rfl⟩ := ry
  exact add_str (fun t' tk => ⟨.str _, H, I.tok _, ⟨_, rfl⟩, q⟩) hl
theorem op_addX : OpR X (binaryOp .Add) (rAddX X.K) := by
  intro pins s σ H x y v u Q I rx ry h
  unfold rAddX at h
  split at h
  · exact op_add pins s σ H _ _ v u Q I rx ry ⟨_, _, rfl, rfl, h⟩
  · exact op_addS pins s σ H _ _ v u Q I rx ry ⟨_, _, rfl, rfl, h.1, h.2⟩
  · exact op_add_ib pins s σ H _ _ v u Q I rx ry ⟨_, _, rfl, rfl, h⟩
  · rcases h with ⟨xs, zs, h1, h2, h3, h4⟩ | h
    · exact op_cat pins s σ H _ _ v u Q I rx ry ⟨_, _, xs, zs, rfl, rfl, h1, h2, h3, h4⟩
    · exact op_catT pins s σ H _ _ v u Q I rx ry h
  · exact h.elim
def rMulX (K : PySem.W.Frag) : R2 := fun x y H Q => match x, y with
  | .int i, .int j => CMul i j ∧ Q (.int (i * j)) H
  | .ref l, .int k => rRep (.ref l) (.int k) H Q
  | _, _ => False
theorem op_mulX : OpR X (binaryOp .Mult) (rMulX X.K) := by
  intro pins s σ H x y v u Q I rx ry h
  unfold rMulX at h
  split at h
  · exact op_mul pins s σ H _ _ v u Q I rx ry ⟨_, _, rfl, rfl, h.1, h.2⟩
  · exact op_rep pins s σ H _ _ v u Q I rx ry h
  · exact h.elim
/-- == of small values by decide, of data by their trees -/
def rEqX (K : PySem.W.Frag) : R2 := fun x y H Q => rEq x y H Q ∨ rEqD K x y H Q
def rNeX (K : PySem.W.Frag) : R2 := fun x y H Q => rNe x y H Q ∨ rNeD K x y H Q
theorem op_eqX (hu : X.A.units + 64 < cLine) : OpR X (compareOp .Eq) (rEqX X.K) := fun pins s σ H x y v u Q I rx ry h =>
  h.elim (op_eq pins s σ H x y v u Q I rx ry) (op_eqD hu pins s σ H x y v u Q I rx ry)
theorem op_neX (hu : X.A.units + 64 < cLine) : OpR X (compareOp .NotEq) (rNeX X.K) := fun pins s σ H x y v u Q I rx ry h =>
  h.elim (op_ne pins s σ H x y v u Q I rx ry) (op_neD hu pins s σ H x y v u Q I rx ry)
def rIxX (K : PySem.W.Frag) : R2 := fun x y H Q => rIxL K x y H Q ∨ rIxT K x y H Q
theorem ix_seq : IxR X (rIxX X.K) := fun ve se pins s σ H x y v u Q I rx ry h hs =>
  h.elim (fun z => ix_list ve se pins s σ H x y v u Q I rx ry z hs) (fun z => ix_tup ve se pins s σ H x y v u Q I rx ry z hs)
def rSlXX (K : PySem.W.Frag) : V → Option Int → Option Int → Hp → VK → Prop := fun x lo hi H Q => rSlL K x lo hi H Q ∨ rSlT K x lo hi H Q
theorem sl_seq : SlR X (rSlXX X.K) := SlR.or sl_list sl_tup
/-- for over a list or a tuple -/
def iSeq (K : PySem.W.Frag) (tl : TE) : TI := fun σ H R => tl σ H fun x H1 => ∃ a, x = .ref a ∧ ((∃ xs, SqL K H1 a xs ∧ R (Itl K a) H1) ∨ ∃ xs, SqT K H1 a xs ∧ R (Itt K a) H1)
theorem pi_seq {tg l : Expr} {tl : TE} (hl : PE X l tl) : PI X tg l (iSeq X.K tl) := by
  refine ⟨fun pins s σ H R I h => ?_⟩
  refine thn (hl.run pins s σ H _ I h) fun v s1 hv => ?_
  obtain ⟨x, H1, I1, r1, a, e, q⟩ := hv
  subst e
  cases r1
  rcases q with ⟨xs, hx, q⟩ | ⟨xs, hx, q⟩
  · obtain ⟨its, rv, p, hz⟩ := I1.list hx
    refine wpAny_pyIter_list p.isList ?_
    exact ⟨s1.heap.objs.size, [s1.heap.objs.size], _, _, H1, rfl, I1.kept (t' := s1.toks) (fun b o e => Heap.get?_push_of_some _ e), turn_list a _, ⟨_, Heap.get?_push_size _ rfl, rfl, rfl⟩,
      fun b hb => (List.mem_singleton.mp hb) ▸ I1.fpOk (Nat.le_refl _) (I1.hok.fresh (Nat.le_refl _)), q⟩
  · obtain ⟨its, rv, p, hz⟩ := I1.tuple hx
    refine wpAny_pyIter_tuple (show s1.heap.IsTuple a _ from p) ?_
    exact ⟨s1.heap.objs.size, [s1.heap.objs.size], _, _, H1, rfl, I1.kept (t' := s1.toks) (fun b o e => Heap.get?_push_of_some _ e), turn_tuple a _, ⟨_, Heap.get?_push_size _ rfl, rfl, rfl⟩,
      fun b hb => (List.mem_singleton.mp hb) ▸ I1.fpOk (Nat.le_refl _) (I1.hok.fresh (Nat.le_refl _)), q⟩
/-- built-ins by values -/
def rIntX : List V → Hp → VK → Prop := fun xs H Q => (∃ i, xs = [.int i] ∧ Q (.int i) H) ∨ ∃ k, xs = [.bl k] ∧ Q (.int (if k then 1 else 0)) H
theorem call_intX : CallR X (.type "int") rIntX := call_int1
def rAbsX : List V → Hp → VK → Prop := fun xs H Q => ∃ i, xs = [.int i] ∧ Q (.int (if i < 0 then -i else i)) H
theorem call_absX : CallR X (.builtin "abs") rAbsX := call_abs
def rMax2X : List V → Hp → VK → Prop := fun xs H Q => ∃ i j, xs = [.int i, .int j] ∧ Q (.int (if j > i then j else i)) H
theorem call_max2X (hc : X.calm = true) : CallR X (.builtin "max") rMax2X := call_max2 hc
def rMin2X : List V → Hp → VK → Prop := fun xs H Q => ∃ i j, xs = [.int i, .int j] ∧ Q (.int (if j < i then j else i)) H
theorem call_min2X (hc : X.calm = true) : CallR X (.builtin "min") rMin2X := call_min2 hc
def rStrI : List V → Hp → VK → Prop := fun xs H Q => ∃ i, xs = [.int i] ∧ i.natAbs.log2 < 1920 ∧ Q (.str (toString i)) H
theorem call_strI : CallR X (.type "str") rStrI := call_str_int
def rLenX (K : PySem.W.Frag) : List V → Hp → VK → Prop := fun xs H Q => ∃ p ys, xs = [.ref p] ∧ (SqL K H p ys ∨ SqT K H p ys) ∧ Q (.int ys.length) H
theorem call_lenX : CallR X (.builtin "len") (rLenX X.K) := call_len_seq
def rLenD : List V → Hp → VK → Prop := fun xs H Q => ∃ a kvs, xs = [V.ref a] ∧ H a = some (.dK kvs) ∧ Q (.int kvs.length) H
theorem call_lenDX : CallR X (.builtin "len") rLenD := call_lenD
def rListX (K : PySem.W.Frag) : List V → Hp → VK → Prop := fun xs H Q => ∃ p ys, xs = [.ref p] ∧ (SqL K H p ys ∨ SqT K H p ys) ∧ ∀ l, H l = none → Q (.ref l) (upd H l (.lst ys))
theorem call_listX : CallR X (.type "list") (rListX X.K) := call_list_of
def rTupX (K : PySem.W.Frag) : List V → Hp → VK → Prop := fun xs H Q => ∃ p ys, xs = [.ref p] ∧ ((SqL K H p ys ∧ ∀ l, H l = none → Q (.ref l) (upd H l (.tup ys))) ∨ (SqT K H p ys ∧ Q (.ref p) H))
theorem call_tupX : CallR X (.type "tuple") (rTupX X.K) := call_tuple_of
/-- is None -/
def rIsNX : R2 := fun x y H Q => y = .non ∧ Q (.bl (decide (x = .non))) H
def rNotNX : R2 := fun x y H Q => y = .non ∧ Q (.bl (!decide (x = .non))) H
theorem op_isNX : OpR X (compareOp .Is) rIsNX := op_isN
theorem op_notNX : OpR X (compareOp .IsNot) rNotNX := op_notN
/-- truth of a value -/
def tTruX (K : PySem.W.Frag) (ta : TE) : TT := fun σ H Q => ta σ H fun x H' => ∃ k, TruV K x H' k ∧ Q k H'
theorem pt_truX {a : Expr} {ta : TE} (ha : PE X a ta) (he : ∀ whole, isTrue a X.env whole = (do let v ← whole; standAt a.pos; holding [v] (truthy v)) := by intro _; rfl) : PT X a (tTruX X.K ta) := pt_truth ha he
/-- an attribute of an instance whose class is known -/
def lFld (C : Addr) (f : Str) (Q : VK) : V → Hp → Prop := fun x H => ∃ a dx fs v, x = .ref a ∧ H a = some (.ins C dx fs) ∧ fs.lookup f = some v ∧ Q v H
def tFldC (C : Addr) (f : Str) (ta : TE) : TE := fun σ H Q => ta σ H (lFld C f Q)
theorem pe_fldC {e : Expr} {f : Str} {pos : Pos} {ta : TE} {C : Addr} (c : Cls X.K C) (n : NoAttr X.K C f) (he : PE X e ta) (hb : attributeBase e f X.env (eval e X.env) = eval e X.env := by rfl) : PE X (.Attribute e f pos) (tFldC C f ta) := by
  refine ⟨fun pins s σ H Q I h => attr_of hb (thn (he.run pins s σ H _ I h) ?_)⟩
  intro u s1 hu
  obtain ⟨x, H1, I1, rx, a, dx, fs, v, ex, ea, l, q⟩ := hu
  subst ex
  have hua : u = Value.ref a := rx
  subst hua
  exact getattr_ok I1 ea c n l fun u' s2 I2 ru => ⟨v, H1, I2, ru, q⟩
def lSFld (C : Addr) (f : Str) (y : V) (N : Hp → Prop) : V → Hp → Prop := fun x H => ∃ a dx fs, x = .ref a ∧ H a = some (.ins C dx fs) ∧ fs.length < 1000 ∧ N (upd H a (.ins C dx (putF f y fs)))
def sFldC (C : Addr) (f : Str) (ta tv : TE) : TS := fun D σ H => tv σ H fun y H1 => ta σ H1 (lSFld C f y (D.nx σ))
theorem ps_fldC {o value : Expr} {f : Str} {pos pos' : Pos} {ta tv : TE} {C : Addr} (c : Cls X.K C) (n : NoAttr X.K C f) (ha : PE X o ta) (hv : PE X value tv) (hs : swapsWith value (some (.Attribute o f pos')) pos.line X.env = pure false := by rfl) :
    PS X (.Assign [.Attribute o f pos'] value pos) (sFldC C f ta tv) := by
  refine ⟨fun pins s σ H D I h => plainObj_wpAny_Assign_Attribute (thn (hv.run pins s σ H _ I h) ?_) hs⟩
  intro u s1 hu
  obtain ⟨y, H1, I1, ry, q⟩ := hu
  refine thn (ha.run pins s1 σ H1 _ I1 q) ?_
  intro ov s2 hov
  obtain ⟨x, H2, I2, rx, a, dx, fs, ex, ea, l, q2⟩ := hov
  subst ex
  have hua : ov = Value.ref a := rx
  subst hua
  exact setattr_ok I2 ea c n l ry fun s3 I3 => ⟨σ, _, I3, q2⟩
def lAugF (C : Addr) (f : Str) (tv : TE) (rd : V → V → Hp → VK → Prop) (σ : L2.St) (N : Hp → Prop) : V → Hp → Prop := fun x H1 => ∃ a dx fs v, x = .ref a ∧ H1 a = some (.ins C dx fs) ∧ fs.lookup f = some v ∧
  tv σ H1 fun y H2 => rd v y H2 fun z H3 => lSFld C f z N (.ref a) H3
def sAugC (C : Addr) (f : Str) (ta tv : TE) (rd : V → V → Hp → VK → Prop) : TS := fun D σ H => ta σ H (lAugF C f tv rd σ (D.nx σ))
theorem ps_augC {o value : Expr} {f : Str} {pos tpos : Pos} {ta tv : TE} {C : Addr} {op : Operator} {rd : V → V → Hp → VK → Prop} (c : Cls X.K C) (n : NoAttr X.K C f) (ha : PE X o ta) (hv : PE X value tv) (hop : InOp X op rd) :
    PS X (.AugAssign (.Attribute o f tpos) op value pos) (sAugC C f ta tv rd) := by
  refine ⟨fun pins s σ H D I h => wpAny_AugAssign_AttributeAny (thn (ha.run pins s σ H _ I h) ?_)⟩
  intro ov s1 hov
  obtain ⟨x, H1, I1, rx, a, dx, fs, v, ex, ea, l, q⟩ := hov
  subst ex
  have hua : ov = Value.ref a := rx
  subst hua
  refine getattr_ok I1 ea c n l fun u s2 I2 ru => thn (hv.run pins s2 σ H1 _ I2 q) ?_
  intro w3 s3 h3
  obtain ⟨y, H2, I3, ry, q3⟩ := h3
  refine thn (hop pins s3 σ H2 v y u w3 _ I3 ru ry q3) ?_
  intro w4 s4 h4
  obtain ⟨z, H3, I4, rz, a', dx', fs', ea0, ea', l', q4⟩ := h4
  cases ea0
  exact setattr_ok I4 ea' c n l' rz fun s5 I5 => ⟨σ, _, I5, q4⟩
/-- x op= e of ints, of texts, of lists made anew -/
def ipAdd : TIp := fun x y H Q => match x, y with
  | .int i, .int j => Q (.int (i + j)) H
  | _, _ => False
end
end Dh

/-! The layer Dh, third part: goals over chunks, one lemma a construct. -/
namespace Dh
open PySem PySem.Spec PyProof.Rows L2
section
variable {T : List (Addr × Str)} {L L1 L2' : List HP} {σ : L2.St} {Q : VK} {K : PySem.W.Frag} {v x y z : V} {i j : Int} {n : Nat} {ta tb tc te td : TE} {t u : TT} {r r' : R2} {N0 : L2.St → Hp → Prop} {R0 : VK} {B0 C0 : L2.St → Hp → Prop} {ts us : TS} {P P' : Hp → Prop} {C a p : Addr} {o o' : HO} {fs : List (Str × V)} {f : Str} {xs ys : List V} {b : Bool}

/-! ### the ends -/
theorem g_and {q : Prop} (hq : q) (k : Go T L P) : Go T L fun H => q ∧ P H := fun H t h => ⟨hq, k H t h⟩
theorem g_pure {q : Prop} (hq : q) : Go T L fun _ => q := fun _ _ _ => hq

theorem ent_imp {P P' : HP} (k : ∀ h, P h → P' h) : Ent (P :: L) (P' :: L) := fun _ h => h.imp k
theorem ent_tail {P : HP} {L' : List HP} (e : Ent L L') : Ent (P :: L) (P :: L') := fun _ h => h.impT e
theorem ent_pick {P P' : HP} {A : List HP} (pk : Pick L P A) (k : ∀ h, P h → P' h) : Pick L P' A := fun H h => (pk H h).imp k
theorem Go.fold {P P' : HP} {G : Hp → Prop} (k : ∀ h, P h → P' h) (g : Go T (P' :: L) G) : Go T (P :: L) G := g.ent (ent_imp k)
theorem g_cut {t1 u1 : TS} {N0 : L2.St → Hp → Prop} {R0 : VK} {B0 C0 : L2.St → Hp → Prop} (I : L2.St → List HP → Prop) (h : Go T L fun H => t1 ⟨fun σ H => ∃ L, I σ L ∧ LamX.Tabs T H ∧ Seps L H, R0, B0, C0⟩ σ H) (k : ∀ σ L, I σ L → Go T L fun H => u1 ⟨N0, R0, B0, C0⟩ σ H) :
    Go T L fun H => Evl.tCut t1 u1 ⟨N0, R0, B0, C0⟩ σ H := fun H t s => ⟨_, h H t s, fun σ' H' ⟨L', i, t', s'⟩ => k σ' L' i H' t' s'⟩

theorem ent_fold {A L R : List HP} {P : HP} (e : Ent L (A ++ R)) (h : ∀ H, Seps A H → P H) : Ent L (P :: R) := fun H x => (Seps.cut (e H x)).imp h
theorem ixN_lt {n k : Nat} (h : k < n) : ixN n (k : Int) = some k := by
  unfold ixN
  rw [if_pos (by omega), if_pos (by omega)]
  rfl
theorem atI_lt {α : Type} {xs : List α} {k : Nat} {v : α} (h : xs[k]? = some v) : atI xs (k : Int) = some v := by
  have hk : k < xs.length := (List.getElem?_eq_some_iff.mp h).1
  unfold atI
  rw [ixN_lt hk]
  exact h

theorem hasM_of {P : HP} {A : List HP} {m : Str} (pk : Pick L P A) (h : ∀ h, P h → ∃ dx fs, h a = some (.ins C dx fs) ∧ fs.lookup m = none) : ∀ H, Seps L H → ∃ dx fs, H a = some (.ins C dx fs) ∧ fs.lookup m = none := fun H s => by
  obtain ⟨h1, s1, p⟩ := (pk H s).head
  obtain ⟨dx, fs, e, n⟩ := h h1 p
  exact ⟨dx, fs, s1 _ _ e, n⟩

theorem Ent.pick {L' A : List HP} {c : HP} (e : Ent L L') (p : Pick L' c A) : Pick L c A := fun H h => p H (e H h)
theorem Ent.has {L' A : List HP} {c : HP} (e : Ent L L') (p : Pick L' c A) : ∃ A, Pick L c A := ⟨A, e.pick p⟩

/-! ### expressions -/
theorem g_var {i : Nat} (h : σ[i]? = some (some v)) (k : Go T L fun H => Q v H) : Go T L fun H => tVar i σ H Q := fun H t s => ⟨v, h, k H t s⟩
theorem g_c (k : Go T L fun H => Q v H) : Go T L fun H => tC v σ H Q := k
theorem g_op (k : Go T L fun H => ta σ H fun x H1 => tb σ H1 fun y H2 => r x y H2 Q) : Go T L fun H => tOp r ta tb σ H Q := k
theorem g_un {ru : V → Hp → VK → Prop} (k : Go T L fun H => ta σ H fun x H1 => ru x H1 Q) : Go T L fun H => tUn ru ta σ H Q := k
theorem g_I0 {g : Int → Int → V} (k : Go T L fun H => Q (g i j) H) : Go T L fun H => rI0 g (.int i) (.int j) H Q := fun H t s => ⟨i, j, rfl, rfl, k H t s⟩
theorem g_I {Cn : Int → Int → Prop} {g : Int → Int → V} (hc : Cn i j) (k : Go T L fun H => Q (g i j) H) : Go T L fun H => rI Cn g (.int i) (.int j) H Q := fun H t s => ⟨i, j, rfl, rfl, hc, k H t s⟩
theorem g_U {g : Int → V} (k : Go T L fun H => Q (g i) H) : Go T L fun H => rU g (.int i) H Q := fun H t s => ⟨i, rfl, k H t s⟩
theorem g_addI (k : Go T L fun H => Q (.int (i + j)) H) : Go T L fun H => rAddX K (.int i) (.int j) H Q := k
theorem g_addB (k : Go T L fun H => Q (.int (i + b2i b)) H) : Go T L fun H => rAddX K (.int i) (.bl b) H Q := k
theorem g_addS {s1 s2 : Str} (hl : s1.length + s2.length ≤ sizeLine) (k : Go T L fun H => Q (.str (s1 ++ s2)) H) : Go T L fun H => rAddX K (.str s1) (.str s2) H Q := fun H t s => ⟨hl, k H t s⟩
theorem g_addL {l q : Addr} {A B : List HP} (p1 : Pick L (pt l (.lst xs)) A) (p2 : Pick L (pt q (.lst ys)) B) (hl : xs.length + ys.length ≤ sizeLine) (k : ∀ p, Go T (pt p (.lst (xs ++ ys)) :: L) fun H => Q (.ref p) H) : Go T L fun H => rAddX K (.ref l) (.ref q) H Q :=
  fun H t s => .inl ⟨xs, ys, p1.at s, p2.at s, hl, (go_new (P := fun p => pt p (.lst (xs ++ ys))) rfl (fun _ _ e => e) k) H t s⟩
theorem g_mulI (hc : CMul i j) (k : Go T L fun H => Q (.int (i * j)) H) : Go T L fun H => rMulX K (.int i) (.int j) H Q := fun H t s => ⟨hc, k H t s⟩
theorem g_eqS (h : scal x y = true) (k : Go T L fun H => Q (.bl (decide (x = y))) H) : Go T L fun H => rEqX K x y H Q := fun H t s => .inl ⟨h, k H t s⟩
theorem g_neS (h : scal x y = true) (k : Go T L fun H => Q (.bl (!decide (x = y))) H) : Go T L fun H => rNeX K x y H Q := fun H t s => .inl ⟨h, k H t s⟩
theorem g_eqD {d e : PyData} (h1 : ∀ H, Seps L H → Dp K H x d) (h2 : ∀ H, Seps L H → Dp K H y e) (s1 : SeqAt.shaped d = true) (s2 : SeqAt.shaped e = true) (k : Go T L fun H => Q (.bl (PyData.eqv d e)) H) : Go T L fun H => rEqX K x y H Q :=
  fun H t s => .inr ⟨d, e, h1 H s, h2 H s, s1, s2, k H t s⟩
theorem g_neD {d e : PyData} (h1 : ∀ H, Seps L H → Dp K H x d) (h2 : ∀ H, Seps L H → Dp K H y e) (s1 : SeqAt.shaped d = true) (s2 : SeqAt.shaped e = true) (k : Go T L fun H => Q (.bl (!PyData.eqv d e)) H) : Go T L fun H => rNeX K x y H Q :=
  fun H t s => .inr ⟨d, e, h1 H s, h2 H s, s1, s2, k H t s⟩
theorem g_isN (k : Go T L fun H => Q (.bl (decide (x = .non))) H) : Go T L fun H => rIsNX x .non H Q := fun H t s => ⟨rfl, k H t s⟩
theorem g_notN (k : Go T L fun H => Q (.bl (!decide (x = .non))) H) : Go T L fun H => rNotNX x .non H Q := fun H t s => ⟨rfl, k H t s⟩
theorem g_ixL {A : List HP} (pk : Pick L (pt a (.lst xs)) A) (h : atI xs i = some v) (k : Go T L fun H => Q v H) : Go T L fun H => rIxX K (.ref a) (.int i) H Q := fun H t s => .inl ⟨a, xs, i, v, rfl, rfl, SqL.of (pk.at s), h, k H t s⟩
theorem g_ixT {A : List HP} (pk : Pick L (pt a (.tup xs)) A) (h : atI xs i = some v) (k : Go T L fun H => Q v H) : Go T L fun H => rIxX K (.ref a) (.int i) H Q := fun H t s => .inr ⟨a, xs, i, v, rfl, rfl, SqT.of (pk.at s), h, k H t s⟩
theorem g_slL {A : List HP} {lo hi : Option Int} (pk : Pick L (pt a (.lst xs)) A) (k : ∀ p, Go T (pt p (.lst (cutV xs lo hi)) :: L) fun H => Q (.ref p) H) : Go T L fun H => rSlXX K (.ref a) lo hi H Q :=
  fun H t s => .inl ⟨a, xs, rfl, SqL.of (pk.at s), (go_new (P := fun p => pt p (.lst (cutV xs lo hi))) rfl (fun _ _ e => e) k) H t s⟩
theorem g_sl {rs : V → Option Int → Option Int → Hp → VK → Prop} {tl th : TO} (k : Go T L fun H => te σ H fun x H1 => tl σ H1 fun l H2 => th σ H2 fun u H3 => rs x l u H3 Q) : Go T L fun H => tSl rs te tl th σ H Q := k
theorem g_noPart {R : Option Int → Hp → Prop} (k : Go T L fun H => R none H) : Go T L fun H => tNoPart σ H R := k
def lPart (R : Option Int → Hp → Prop) (x : V) (H : Hp) : Prop := ∃ i, x = .int i ∧ R (some i) H
theorem g_part {R : Option Int → Hp → Prop} (k : Go T L fun H => te σ H (lPart R)) : Go T L fun H => tPart te σ H R := k
theorem g_isInt {R : Int → Hp → Prop} (k : Go T L fun H => R i H) : Go T L fun H => ∃ i', V.int i = .int i' ∧ R i' H := fun H t s => ⟨i, rfl, k H t s⟩
theorem g_isSomeInt {R : Option Int → Hp → Prop} (k : Go T L fun H => R (some i) H) : Go T L fun H => lPart R (.int i) H := fun H t s => ⟨i, rfl, k H t s⟩
theorem g_fldE (k : Go T L fun H => ta σ H (lFld C f Q)) : Go T L fun H => tFldC C f ta σ H Q := k
theorem g_fld {A : List HP} (pk : Pick L (ob a C fs) A) (h : fs.lookup f = some v) (k : Go T L fun H => Q v H) : Go T L fun H => lFld C f Q (.ref a) H := fun H t s => by
  obtain ⟨dx, e⟩ := pk.obj s
  exact ⟨a, dx, fs, v, rfl, e, h, k H t s⟩
def nTup (Q : VK) (xs : List V) (H : Hp) : Prop := xs.length ≤ sizeLine ∧ ∀ p, H p = none → Q (.ref p) (upd H p (.tup xs))
def nLst (Q : VK) (xs : List V) (H : Hp) : Prop := xs.length ≤ sizeLine ∧ ∀ p, H p = none → Q (.ref p) (upd H p (.lst xs))
theorem g_tup {tr : TA} (k : Go T L fun H => tr σ H (nTup Q)) : Go T L fun H => tTup tr σ H Q := k
theorem g_lst {tr : TA} (k : Go T L fun H => tr σ H (nLst Q)) : Go T L fun H => tLst tr σ H Q := k
theorem g_newT (hl : xs.length ≤ sizeLine) (k : ∀ p, Go T (pt p (.tup xs) :: L) fun H => Q (.ref p) H) : Go T L fun H => nTup Q xs H :=
  fun H t s => ⟨hl, (go_new (P := fun p => pt p (.tup xs)) rfl (fun _ _ e => e) k) H t s⟩
theorem g_newL (hl : xs.length ≤ sizeLine) (k : ∀ p, Go T (pt p (.lst xs) :: L) fun H => Q (.ref p) H) : Go T L fun H => nLst Q xs H :=
  fun H t s => ⟨hl, (go_new (P := fun p => pt p (.lst xs)) rfl (fun _ _ e => e) k) H t s⟩
theorem g_nil {R : List V → Hp → Prop} (k : Go T L fun H => R [] H) : Go T L fun H => tNil σ H R := k
theorem g_cons {tr : TA} {R : List V → Hp → Prop} (k : Go T L fun H => ta σ H fun x H1 => tr σ H1 fun xs H2 => R (x :: xs) H2) : Go T L fun H => tCons ta tr σ H R := k
theorem g_call {sp : Sp} {E : XK} {tr : TA} (k : Go T L fun H => tr σ H fun vs H1 => sp vs H1 Q E) : Go T L fun H => tCall sp [] E tr σ H Q := by
  unfold tCall
  simp only [List.append_nil]
  exact k
/-- a method of an instance that stands in the chunk c -/
def HasM (L : List HP) (a C : Addr) (m : Str) : Prop := ∀ H, Seps L H → ∃ dx fs, H a = some (.ins C dx fs) ∧ fs.lookup m = none
def lMeth (C : Addr) (m : Str) (sp : Sp) (E : XK) (tr : TA) (σ : L2.St) (Q : VK) : V → Hp → Prop := fun x H1 => ∃ a dx fs, x = .ref a ∧ H1 a = some (.ins C dx fs) ∧ fs.lookup m = none ∧ tr σ H1 fun vs H2 => sp (x :: (vs ++ [])) H2 Q E
theorem g_methE {m : Str} {sp : Sp} {E : XK} {tr : TA} (k : Go T L fun H => ta σ H (lMeth C m sp E tr σ Q)) : Go T L fun H => tMeth C m sp [] E ta tr σ H Q := k
theorem g_meth {m : Str} {sp : Sp} {E : XK} {tr : TA} (hm : HasM L a C m) (k : Go T L fun H => tr σ H fun vs H2 => sp (.ref a :: vs) H2 Q E) : Go T L fun H => lMeth C m sp E tr σ Q (.ref a) H := fun H t s => by
  obtain ⟨dx, fs, e, n⟩ := hm H s
  refine ⟨a, dx, fs, rfl, e, n, ?_⟩
  simp only [List.append_nil]
  exact k H t s
theorem hasM_ob {A : List HP} {m : Str} (pk : Pick L (ob a C fs) A) (h : fs.lookup m = none) : HasM L a C m := fun H s => by
  obtain ⟨dx, e⟩ := pk.obj s
  exact ⟨dx, fs, e, h⟩
def nMk (C : Addr) (sp : Sp) (E : XK) (Q : VK) (vs : List V) (H1 : Hp) : Prop := ∀ x dx, H1 x = none → H1 dx = none → dx ≠ x → sp (.ref x :: vs) (upd (upd H1 dx (.own x)) x (.ins C dx [])) (fun v H2 => v = .non ∧ Q (.ref x) H2) E
theorem g_make {sp : Sp} {E : XK} {tr : TA} (k : Go T L fun H => tr σ H (nMk C sp E Q)) : Go T L fun H => tMake C sp [] E tr σ H Q := by
  unfold tMake
  simp only [List.append_nil]
  exact k
theorem g_made {sp : Sp} {E : XK} {vs : List V} (k : ∀ x, Go T (ob x C [] :: L) fun H => sp (.ref x :: vs) H (fun v H2 => v = .non ∧ Q (.ref x) H2) E) : Go T L fun H => nMk C sp E Q vs H := fun H t s x dx nx nd ne => by
  have t1 := Tabs.new (o := .own x) t nd
  have s1 : Seps L (upd H dx (.own x)) := s.sub fun b u e => by rw [upd_ne (ne_of_none e nd)]; exact e
  have n1 : upd H dx (.own x) x = none := by rw [upd_ne (Ne.symm ne)]; exact nx
  exact k x _ (Tabs.new t1 n1) (s1.new n1 rfl fun kk e => ⟨dx, e⟩)
theorem g_cb {rc : List V → Hp → VK → Prop} {tr : TA} (k : Go T L fun H => tr σ H fun vs H1 => rc vs H1 Q) : Go T L fun H => tCB rc tr σ H Q := k
theorem g_int (k : Go T L fun H => Q (.int i) H) : Go T L fun H => rIntX [.int i] H Q := fun H t s => .inl ⟨i, rfl, k H t s⟩
theorem g_intB (k : Go T L fun H => Q (.int (if b then 1 else 0)) H) : Go T L fun H => rIntX [.bl b] H Q := fun H t s => .inr ⟨b, rfl, k H t s⟩
theorem g_abs (k : Go T L fun H => Q (.int (if i < 0 then -i else i)) H) : Go T L fun H => rAbsX [.int i] H Q := fun H t s => ⟨i, rfl, k H t s⟩
theorem g_max2 (k : Go T L fun H => Q (.int (if j > i then j else i)) H) : Go T L fun H => rMax2X [.int i, .int j] H Q := fun H t s => ⟨i, j, rfl, k H t s⟩
theorem g_min2 (k : Go T L fun H => Q (.int (if j < i then j else i)) H) : Go T L fun H => rMin2X [.int i, .int j] H Q := fun H t s => ⟨i, j, rfl, k H t s⟩
theorem g_strI (h : i.natAbs.log2 < 1920) (k : Go T L fun H => Q (.str (toString i)) H) : Go T L fun H => rStrI [.int i] H Q := fun H t s => ⟨i, rfl, h, k H t s⟩
theorem g_lenL {A : List HP} (pk : Pick L (pt a (.lst xs)) A) (k : Go T L fun H => Q (.int xs.length) H) : Go T L fun H => rLenX K [.ref a] H Q := fun H t s => ⟨a, xs, rfl, .inl (SqL.of (pk.at s)), k H t s⟩
theorem g_lenT {A : List HP} (pk : Pick L (pt a (.tup xs)) A) (k : Go T L fun H => Q (.int xs.length) H) : Go T L fun H => rLenX K [.ref a] H Q := fun H t s => ⟨a, xs, rfl, .inr (SqT.of (pk.at s)), k H t s⟩
theorem g_lenD {A : List HP} {kvs : List (Key × V)} (pk : Pick L (pt a (.dK kvs)) A) (k : Go T L fun H => Q (.int kvs.length) H) : Go T L fun H => rLenD [.ref a] H Q := fun H t s => ⟨a, kvs, rfl, pk.at s, k H t s⟩
theorem g_listL {A : List HP} (pk : Pick L (pt a (.lst xs)) A) (k : ∀ p, Go T (pt p (.lst xs) :: L) fun H => Q (.ref p) H) : Go T L fun H => rListX K [.ref a] H Q := fun H t s => ⟨a, xs, rfl, .inl (SqL.of (pk.at s)), (go_new (P := fun p => pt p (.lst xs)) rfl (fun _ _ e => e) k) H t s⟩
theorem g_listT {A : List HP} (pk : Pick L (pt a (.tup xs)) A) (k : ∀ p, Go T (pt p (.lst xs) :: L) fun H => Q (.ref p) H) : Go T L fun H => rListX K [.ref a] H Q := fun H t s => ⟨a, xs, rfl, .inr (SqT.of (pk.at s)), (go_new (P := fun p => pt p (.lst xs)) rfl (fun _ _ e => e) k) H t s⟩
theorem g_tupL {A : List HP} (pk : Pick L (pt a (.lst xs)) A) (k : ∀ p, Go T (pt p (.tup xs) :: L) fun H => Q (.ref p) H) : Go T L fun H => rTupX K [.ref a] H Q := fun H t s => ⟨a, xs, rfl, .inl ⟨SqL.of (pk.at s), (go_new (P := fun p => pt p (.tup xs)) rfl (fun _ _ e => e) k) H t s⟩⟩
theorem g_tupT {A : List HP} (pk : Pick L (pt a (.tup xs)) A) (k : Go T L fun H => Q (.ref a) H) : Go T L fun H => rTupX K [.ref a] H Q := fun H t s => ⟨a, xs, rfl, .inr ⟨SqT.of (pk.at s), k H t s⟩⟩
theorem g_sum {A : List HP} {ns : List Int} (pk : Pick L (pt a (.lst (ns.map V.int))) A) (k : Go T L fun H => Q (.int ns.sum) H) : Go T L fun H => rSum K [.ref a] H Q := fun H t s => ⟨a, ns, rfl, SqL.of (pk.at s), k H t s⟩
/-! ### methods of lists -/
theorem g_bm {rm : V → List V → Hp → VK → Prop} {tr : TA} (k : Go T L fun H => ta σ H fun x H1 => tyV K "list" x H1 ∧ tr σ H1 fun vs H2 => rm x vs H2 Q) : Go T L fun H => tBM K "list" rm ta tr σ H Q := k
theorem g_bm0 {rm : V → List V → Hp → VK → Prop} (k : Go T L fun H => ta σ H fun x H1 => tyV K "list" x H1 ∧ rm x [] H1 Q) : Go T L fun H => tBM0 K "list" rm ta σ H Q := k
theorem g_tyL {A : List HP} (pk : Pick L (pt a (.lst xs)) A) (k : Go T L P) : Go T L fun H => tyV K "list" (.ref a) H ∧ P H := fun H t s => ⟨.inl ⟨rfl, _, SqL.of (pk.at s)⟩, k H t s⟩
theorem go_lst {A : List HP} {G : Hp → Prop} (pk : Pick L (pt a (.lst xs)) A) (k : Go T (pt a (.lst ys) :: A) G) : Go T L fun H => G (upd H a (.lst ys)) := go_wr (P' := pt a (.lst ys)) pk rfl (fun h e => ⟨_, e, rfl, upd_same⟩) k
theorem g_append {A : List HP} (pk : Pick L (pt a (.lst xs)) A) (hl : xs.length < sizeLine) (k : Go T (pt a (.lst (xs ++ [y])) :: A) fun H => Q .non H) : Go T L fun H => rAppend (.ref a) [y] H Q := fun H t s => ⟨a, xs, y, rfl, rfl, pk.at s, hl, (go_lst pk k) H t s⟩
theorem g_pop {A : List HP} (pk : Pick L (pt a (.lst xs)) A) (h : xs[xs.length - 1]? = some y) (k : Go T (pt a (.lst xs.dropLast) :: A) fun H => Q y H) : Go T L fun H => rPop (.ref a) [] H Q := fun H t s => ⟨a, xs, y, rfl, rfl, pk.at s, h, (go_lst pk k) H t s⟩
theorem g_popAt {A : List HP} {m : Nat} (pk : Pick L (pt a (.lst xs)) A) (h1 : -(2 ^ 63) ≤ i) (h2 : i < 2 ^ 63) (h3 : seqIndex? i xs.length = some m) (h : xs[m]? = some y) (k : Go T (pt a (.lst (xs.eraseIdx m)) :: A) fun H => Q y H) : Go T L fun H => rPopAt (.ref a) [.int i] H Q :=
  fun H t s => ⟨a, xs, i, m, y, rfl, rfl, pk.at s, h1, h2, h3, h, (go_lst pk k) H t s⟩
theorem g_rep {A : List HP} (pk : Pick L (pt a (.lst xs)) A) (h1 : -(2 ^ 63) ≤ i) (h2 : i < 2 ^ 63) (h3 : xs.length * i.toNat ≤ sizeLine) (k : ∀ p, Go T (pt p (.lst (List.replicate i.toNat xs).flatten) :: L) fun H => Q (.ref p) H) : Go T L fun H => rMulX K (.ref a) (.int i) H Q :=
  fun H t s => ⟨a, i, xs, rfl, rfl, pk.at s, h1, h2, h3, (go_new (P := fun p => pt p (.lst (List.replicate i.toNat xs).flatten)) rfl (fun _ _ e => e) k) H t s⟩

/-! ### tests -/
theorem g_test {R : Bool → Hp → Prop} (k : Go T L fun H => te σ H fun x H' => ∃ k, x = .bl k ∧ R k H') : Go T L fun H => tTest te σ H R := k
theorem g_B {R : Bool → Hp → Prop} (k : Go T L fun H => te σ H fun x H' => ∃ k, x = .bl k ∧ R k H') : Go T L fun H => tB te σ H R := k
theorem g_isB {R : Bool → Hp → Prop} (k : Go T L fun H => R b H) : Go T L fun H => ∃ k, V.bl b = .bl k ∧ R k H := fun H t s => ⟨b, rfl, k H t s⟩
theorem g_if {A B : Hp → Prop} (h1 : b = true → Go T L A) (h2 : b = false → Go T L B) : Go T L fun H => if b = true then A H else B H := fun H t s => by
  cases b with
  | true => rw [if_pos rfl]; exact h1 rfl H t s
  | false => rw [if_neg (by decide)]; exact h2 rfl H t s
theorem g_ifT {A B : Hp → Prop} (h : b = true) (k : Go T L A) : Go T L fun H => if b = true then A H else B H := g_if (fun _ => k) (fun e => absurd (e.symm.trans h) (by decide))
theorem g_ifF {A B : Hp → Prop} (h : b = false) (k : Go T L B) : Go T L fun H => if b = true then A H else B H := g_if (fun e => absurd (e.symm.trans h) (by decide)) (fun _ => k)
theorem g_ifD {c : Prop} [Decidable c] {A B : Hp → Prop} (h1 : c → Go T L A) (h2 : ¬ c → Go T L B) : Go T L fun H => if decide c = true then A H else B H := g_if (fun e => h1 (of_decide_eq_true e)) (fun e => h2 (of_decide_eq_false e))
theorem g_ifN {c : Prop} [Decidable c] {A B : Hp → Prop} (h1 : c → Go T L B) (h2 : ¬ c → Go T L A) : Go T L fun H => if (!decide c) = true then A H else B H :=
  g_if (fun e => h2 (of_decide_eq_false (by simpa using e))) (fun e => h1 (of_decide_eq_true (by simpa using e)))
theorem g_not {R : Bool → Hp → Prop} (k : Go T L fun H => t σ H fun c H1 => R (!c) H1) : Go T L fun H => tNot t σ H R := k
theorem g_tand {R : Bool → Hp → Prop} (k : Go T L fun H => t σ H fun c H1 => if c = true then u σ H1 R else R false H1) : Go T L fun H => tAnd t u σ H R := k
theorem g_tor {R : Bool → Hp → Prop} (k : Go T L fun H => t σ H fun c H1 => if c = true then R true H1 else u σ H1 R) : Go T L fun H => tOr t u σ H R := k
theorem g_andV (k : Go T L fun H => ta σ H fun x H1 => ∃ c, x = .bl c ∧ if c = true then tb σ H1 Q else Q (.bl false) H1) : Go T L fun H => tAndV ta tb σ H Q := k
theorem g_orV (k : Go T L fun H => ta σ H fun x H1 => ∃ c, x = .bl c ∧ if c = true then Q (.bl true) H1 else tb σ H1 Q) : Go T L fun H => tOrV ta tb σ H Q := k
theorem g_notV (k : Go T L fun H => ta σ H fun x H1 => ∃ c, x = .bl c ∧ Q (.bl (!c)) H1) : Go T L fun H => tNotV ta σ H Q := k
theorem g_ifE (k : Go T L fun H => t σ H fun c H1 => if c = true then ta σ H1 Q else tb σ H1 Q) : Go T L fun H => tIf t ta tb σ H Q := k
theorem g_chain (k : Go T L fun H => ta σ H fun x H1 => tb σ H1 fun y H2 => r x y H2 fun z H3 => ∃ k, z = .bl k ∧ (if k = true then tc σ H3 fun w' H4 => r' y w' H4 Q else Q (.bl false) H3)) : Go T L fun H => tChain r r' ta tb tc σ H Q := k
theorem g_tru {R : Bool → Hp → Prop} (k : Go T L fun H => ta σ H fun x H' => ∃ k, TruV K x H' k ∧ R k H') : Go T L fun H => tTruX K ta σ H R := k
theorem g_truB {R : Bool → Hp → Prop} (k : Go T L fun H => R b H) : Go T L fun H => ∃ k, TruV K (.bl b) H k ∧ R k H := fun H t s => ⟨b, rfl, k H t s⟩
theorem g_truI {R : Bool → Hp → Prop} (k : Go T L fun H => R (i != 0) H) : Go T L fun H => ∃ k, TruV K (.int i) H k ∧ R k H := fun H t s => ⟨_, rfl, k H t s⟩
theorem g_truN {R : Bool → Hp → Prop} (k : Go T L fun H => R false H) : Go T L fun H => ∃ k, TruV K .non H k ∧ R k H := fun H t s => ⟨_, rfl, k H t s⟩
theorem g_truL {A : List HP} {R : Bool → Hp → Prop} (pk : Pick L (pt a (.lst xs)) A) (k : Go T L fun H => R (!xs.isEmpty) H) : Go T L fun H => ∃ k, TruV K (.ref a) H k ∧ R k H := fun H t s => ⟨_, .inl ⟨xs, SqL.of (pk.at s), rfl⟩, k H t s⟩

/-! ### statements -/
theorem g_seq (k : Go T L fun H => ts ⟨us ⟨N0, R0, B0, C0⟩, R0, B0, C0⟩ σ H) : Go T L fun H => tSeq ts us ⟨N0, R0, B0, C0⟩ σ H := k
theorem g_next (k : Go T L fun H => N0 σ H) : Go T L fun H => tNext ⟨N0, R0, B0, C0⟩ σ H := k
theorem g_brk (k : Go T L fun H => B0 σ H) : Go T L fun H => tBreak ⟨N0, R0, B0, C0⟩ σ H := k
theorem g_cont (k : Go T L fun H => C0 σ H) : Go T L fun H => tCont ⟨N0, R0, B0, C0⟩ σ H := k
theorem g_drop (k : Go T L fun H => te σ H fun _ H1 => N0 σ H1) : Go T L fun H => tDrop te ⟨N0, R0, B0, C0⟩ σ H := k
theorem g_ret (k : Go T L fun H => te σ H R0) : Go T L fun H => tRet te ⟨N0, R0, B0, C0⟩ σ H := k
theorem g_retN (k : Go T L fun H => R0 .non H) : Go T L fun H => tRetN ⟨N0, R0, B0, C0⟩ σ H := k
theorem g_ifS (k : Go T L fun H => t σ H fun b H1 => if b = true then ts ⟨N0, R0, B0, C0⟩ σ H1 else us ⟨N0, R0, B0, C0⟩ σ H1) : Go T L fun H => tIfS t ts us ⟨N0, R0, B0, C0⟩ σ H := k
theorem g_asg {g : TG} (k : Go T L fun H => te σ H fun x H1 => g x σ H1 N0) : Go T L fun H => tAsg te g ⟨N0, R0, B0, C0⟩ σ H := k
theorem g_name {m : Nat} {N : L2.St → Hp → Prop} (k : Go T L fun H => N (σ.set m (some v)) H) : Go T L fun H => gName m v σ H N := k
theorem g_gsub {to ti : TE} {tt : TSet} {N : L2.St → Hp → Prop} (k : Go T L fun H => to σ H fun o H1 => ti σ H1 fun i H2 => tt o i v H2 fun H3 => N σ H3) : Go T L fun H => gSub to ti tt v σ H N := k
theorem g_setL {A : List HP} {m : Nat} {N : Hp → Prop} (pk : Pick L (pt a (.lst xs)) A) (h : ixN xs.length i = some m) (k : Go T (pt a (.lst (xs.set m v)) :: A) N) : Go T L fun H => rSetL (.ref a) (.int i) v H N := fun H t s => ⟨a, xs, i, m, rfl, rfl, pk.at s, h, (go_lst pk k) H t s⟩
theorem g_gtup {A : List HP} {m : Nat} {tg : TGs} {N : L2.St → Hp → Prop} (pk : Pick L (pt a (.tup xs)) A) (h : xs.length = m) (k : Go T L fun H => tg xs σ H N) : Go T L fun H => gTup K m tg (.ref a) σ H N := fun H t s => ⟨a, xs, rfl, SqT.of (pk.at s), h, k H t s⟩
theorem g_gnil {N : L2.St → Hp → Prop} (k : Go T L fun H => N σ H) : Go T L fun H => gNil [] σ H N := fun H t s => ⟨rfl, k H t s⟩
theorem g_gcons {g : TG} {tg : TGs} {vs : List V} {N : L2.St → Hp → Prop} (k : Go T L fun H => g v σ H fun σ' H' => tg vs σ' H' N) : Go T L fun H => gCons g tg (v :: vs) σ H N := fun H t s => ⟨v, vs, rfl, k H t s⟩
theorem g_par {m q : Nat} {tr : TA} (k : Go T L fun H => tr σ H fun vs H1 => ∃ v w, vs = [v, w] ∧ N0 ((σ.set m (some v)).set q (some w)) H1) : Go T L fun H => tPar m q tr ⟨N0, R0, B0, C0⟩ σ H := k
theorem g_par2 {F : V → V → Hp → Prop} (k : Go T L fun H => F x y H) : Go T L fun H => ∃ v w, [x, y] = [v, w] ∧ F v w H := fun H t s => ⟨x, y, rfl, k H t s⟩
theorem g_sfldE {tv : TE} (k : Go T L fun H => tv σ H fun y H1 => ta σ H1 (lSFld C f y (N0 σ))) : Go T L fun H => sFldC C f ta tv ⟨N0, R0, B0, C0⟩ σ H := k
theorem g_sfld {A : List HP} {fs' : List (Str × V)} {N : Hp → Prop} (pk : Pick L (ob a C fs) A) (h : putF f y fs = fs') (hl : fs.length < 1000) (k : Go T (ob a C fs' :: A) N) : Go T L fun H => lSFld C f y N (.ref a) H := fun H t s => by
  obtain ⟨dx, e⟩ := pk.obj s
  refine ⟨a, dx, fs, rfl, e, hl, ?_⟩
  rw [h]
  exact (go_wr (P' := ob a C fs') (o' := .ins C dx fs') pk rfl (fun hh ⟨dy, e1⟩ => ⟨_, e1, rfl, dx, upd_same⟩) k) H t s
theorem g_augE {tv : TE} {rd : V → V → Hp → VK → Prop} (k : Go T L fun H => ta σ H (lAugF C f tv rd σ (N0 σ))) : Go T L fun H => sAugC C f ta tv rd ⟨N0, R0, B0, C0⟩ σ H := k
theorem g_augF {A : List HP} {tv : TE} {rd : V → V → Hp → VK → Prop} {N : Hp → Prop} (pk : Pick L (ob a C fs) A) (h : fs.lookup f = some v) (k : Go T L fun H => tv σ H fun y H2 => rd v y H2 fun z H3 => lSFld C f z N (.ref a) H3) : Go T L fun H => lAugF C f tv rd σ N (.ref a) H := fun H t s => by
  obtain ⟨dx, e⟩ := pk.obj s
  exact ⟨a, dx, fs, v, rfl, e, h, k H t s⟩
theorem g_augV {m : Nat} {ti : TIp} (h : σ[m]? = some (some x)) (k : Go T L fun H => te σ H fun y H1 => ti x y H1 fun z H2 => N0 (σ.set m (some z)) H2) : Go T L fun H => tAug m te ti ⟨N0, R0, B0, C0⟩ σ H := fun H t s => ⟨x, h, k H t s⟩
theorem g_ipI {g : Int → Int → Int} (k : Go T L fun H => Q (.int (g i j)) H) : Go T L fun H => ipI g (.int i) (.int j) H Q := fun H t s => ⟨i, j, rfl, rfl, k H t s⟩
theorem g_rAdd (k : Go T L fun H => Q (.int (i + j)) H) : Go T L fun H => rAdd (.int i) (.int j) H Q := fun H t s => ⟨i, j, rfl, rfl, k H t s⟩
theorem g_rSub (k : Go T L fun H => Q (.int (i - j)) H) : Go T L fun H => rSub (.int i) (.int j) H Q := fun H t s => ⟨i, j, rfl, rfl, k H t s⟩

/-! ### loops -/
/-- a state told by slots and chunks -/
abbrev SI := L2.St → List HP → Prop
def SI.at (T : List (Addr × Str)) (I : SI) : L2.St → Hp → Prop := fun σ H => ∃ L, I σ L ∧ LamX.Tabs T H ∧ Seps L H
theorem SI.in {I : SI} (h : I σ L) : Go T L fun H => SI.at T I σ H := fun H t s => ⟨L, h, t, s⟩
theorem SI.out {I : SI} {G : L2.St → Hp → Prop} (k : ∀ σ L, I σ L → Go T L fun H => G σ H) : ∀ σ H, SI.at T I σ H → G σ H := fun σ H ⟨L, h, t, s⟩ => k σ L h H t s
def ForG (J : It) (g : TG) (ts : TS) (N0 : L2.St → Hp → Prop) (R0 : VK) (σ : L2.St) (H1 : Hp) : Prop := ∃ W : Nat → Nat → L2.St → Hp → Prop, (∃ m, W 0 m σ H1) ∧ ∀ i m σ H, W i m σ H →
  (J.stop i H ∧ N0 σ H) ∨ (J.go i H ∧ ∃ N : L2.St → Hp → Prop, (∀ σ' H', N σ' H' → ∃ m', m' < m ∧ W (i + 1) m' σ' H') ∧ ∀ x H', J.yld i H x H' → g x σ H' fun σ2 H2 => ts ⟨N, R0, N0, N⟩ σ2 H2)
theorem g_for {wi : TI} {g : TG} (k : Go T L fun H => wi σ H fun J H1 => ForG J g ts N0 R0 σ H1) : Go T L fun H => tFor wi g ts ⟨N0, R0, B0, C0⟩ σ H := k
def lRng1 (R : It → Hp → Prop) (vs : List V) (H : Hp) : Prop := ∃ j : Int, vs = [.int j] ∧ -(2 ^ 62) ≤ j ∧ j < 2 ^ 62 ∧ R (Itr 0 j.toNat) H
def lRng2 (R : It → Hp → Prop) (vs : List V) (H : Hp) : Prop := ∃ i j : Int, vs = [.int i, .int j] ∧ (-(2 ^ 62) ≤ i ∧ i < 2 ^ 62 ∧ -(2 ^ 62) ≤ j ∧ j < 2 ^ 62) ∧ R (Itr i (j - i).toNat) H
def lSeq (K : PySem.W.Frag) (R : It → Hp → Prop) (x : V) (H : Hp) : Prop := ∃ a, x = .ref a ∧ ((∃ xs, SqL K H a xs ∧ R (Itl K a) H) ∨ ∃ xs, SqT K H a xs ∧ R (Itt K a) H)
theorem g_iRng1 {tr : TA} {R : It → Hp → Prop} (k : Go T L fun H => tr σ H (lRng1 R)) : Go T L fun H => iRng1 tr σ H R := k
theorem g_iRng2 {tr : TA} {R : It → Hp → Prop} (k : Go T L fun H => tr σ H (lRng2 R)) : Go T L fun H => iRng2 tr σ H R := k
theorem g_rng1 {R : It → Hp → Prop} (h1 : -(2 ^ 62) ≤ j) (h2 : j < 2 ^ 62) (k : Go T L fun H => R (Itr 0 j.toNat) H) : Go T L fun H => lRng1 R [.int j] H := fun H t s => ⟨j, rfl, h1, h2, k H t s⟩
theorem g_rng2 {R : It → Hp → Prop} (h : -(2 ^ 62) ≤ i ∧ i < 2 ^ 62 ∧ -(2 ^ 62) ≤ j ∧ j < 2 ^ 62) (k : Go T L fun H => R (Itr i (j - i).toNat) H) : Go T L fun H => lRng2 R [.int i, .int j] H := fun H t s => ⟨i, j, rfl, h, k H t s⟩
/-- for over a range, by an invariant over turns, slots, chunks -/
theorem g_forR {lo : Int} {g : TG} (I : Nat → SI) (h0 : I 0 σ L) (hs : ∀ i σ L, i < n → I i σ L → Go T L fun H => g (.int (lo + i)) σ H fun σ2 H2 => ts ⟨SI.at T (I (i + 1)), R0, N0, SI.at T (I (i + 1))⟩ σ2 H2)
    (hd : ∀ σ L, I n σ L → Go T L fun H => N0 σ H) : Go T L fun H => ForG (Itr lo n) g ts N0 R0 σ H := fun H t s =>
  for_range (D := ⟨N0, R0, fun _ _ => False, fun _ _ => False⟩) (lo := lo) (n := n) (fun i => SI.at T (I i)) ⟨L, h0, t, s⟩ (fun i σ H hi ⟨L, h, t, s⟩ => hs i σ L hi h H t s) (fun σ H ⟨L, h, t, s⟩ => hd σ L h H t s)
/-- for over a list that stands still -/
theorem g_forL {g : TG} (I : Nat → SI) (h0 : I 0 σ L) (hl : ∀ i σ L, I i σ L → ∃ A, Pick L (pt a (.lst xs)) A) (hs : ∀ i x σ L, xs[i]? = some x → I i σ L → Go T L fun H => g x σ H fun σ2 H2 => ts ⟨SI.at T (I (i + 1)), R0, N0, SI.at T (I (i + 1))⟩ σ2 H2)
    (hd : ∀ σ L, I xs.length σ L → Go T L fun H => N0 σ H) : Go T L fun H => ForG (Itl K a) g ts N0 R0 σ H := fun H t s =>
  for_list (D := ⟨N0, R0, fun _ _ => False, fun _ _ => False⟩) (K := K) (xs := xs) (fun i => SI.at T (I i)) ⟨L, h0, t, s⟩ (fun i σ H _ ⟨L, h, t, s⟩ => let ⟨_, pk⟩ := hl i σ L h; SqL.of (pk.at s)) (fun i x σ H hi ⟨L, h, t, s⟩ => hs i x σ L hi h H t s) (fun σ H ⟨L, h, t, s⟩ => hd σ L h H t s)
theorem g_forT {g : TG} (I : Nat → SI) (h0 : I 0 σ L) (hl : ∀ i σ L, I i σ L → ∃ A, Pick L (pt a (.tup xs)) A) (hs : ∀ i x σ L, xs[i]? = some x → I i σ L → Go T L fun H => g x σ H fun σ2 H2 => ts ⟨SI.at T (I (i + 1)), R0, N0, SI.at T (I (i + 1))⟩ σ2 H2)
    (hd : ∀ σ L, I xs.length σ L → Go T L fun H => N0 σ H) : Go T L fun H => ForG (Itt K a) g ts N0 R0 σ H := fun H t s =>
  for_tup (D := ⟨N0, R0, fun _ _ => False, fun _ _ => False⟩) (K := K) (xs := xs) (fun i => SI.at T (I i)) ⟨L, h0, t, s⟩ (fun i σ H _ ⟨L, h, t, s⟩ => let ⟨_, pk⟩ := hl i σ L h; SqT.of (pk.at s)) (fun i x σ H hi ⟨L, h, t, s⟩ => hs i x σ L hi h H t s) (fun σ H ⟨L, h, t, s⟩ => hd σ L h H t s)
theorem g_iSeqE {R : It → Hp → Prop} (k : Go T L fun H => te σ H (lSeq K R)) : Go T L fun H => iSeq K te σ H R := k
theorem g_iSeqL {A : List HP} {R : It → Hp → Prop} (pk : Pick L (pt a (.lst xs)) A) (k : Go T L fun H => R (Itl K a) H) : Go T L fun H => lSeq K R (.ref a) H := fun H t s => ⟨a, rfl, .inl ⟨xs, SqL.of (pk.at s), k H t s⟩⟩
theorem g_iSeqT {A : List HP} {R : It → Hp → Prop} (pk : Pick L (pt a (.tup xs)) A) (k : Go T L fun H => R (Itt K a) H) : Go T L fun H => lSeq K R (.ref a) H := fun H t s => ⟨a, rfl, .inr ⟨xs, SqT.of (pk.at s), k H t s⟩⟩
def wBody (T : List (Addr × Str)) (I : Nat → SI) (m : Nat) (ts : TS) (N0 : L2.St → Hp → Prop) (R0 : VK) (σ : L2.St) (H : Hp) : Prop :=
  ∃ N : L2.St → Hp → Prop, (∀ σ' H', N σ' H' → ∃ m', m' < m ∧ SI.at T (I m') σ' H') ∧ ts ⟨N, R0, N0, N⟩ σ H
theorem g_wbody {I : Nat → SI} {m : Nat} (k : Go T L fun H => ts ⟨SI.at T (fun σ L => ∃ m', m' < m ∧ I m' σ L), R0, N0, SI.at T (fun σ L => ∃ m', m' < m ∧ I m' σ L)⟩ σ H) : Go T L fun H => wBody T I m ts N0 R0 σ H := fun H t s =>
  ⟨_, fun σ' H' ⟨L', ⟨m', lt, h'⟩, t', s'⟩ => ⟨m', lt, L', h', t', s'⟩, k H t s⟩
/-- while, by an invariant over a measure, slots, chunks -/
theorem g_while (I : Nat → SI) (m0 : Nat) (h0 : I m0 σ L) (hs : ∀ m σ L, I m σ L → Go T L fun H => t σ H fun b H1 => if b = true then wBody T I m ts N0 R0 σ H1 else N0 σ H1) : Go T L fun H => tWhile t ts ⟨N0, R0, B0, C0⟩ σ H := fun H tt s =>
  ⟨fun m σ H => SI.at T (I m) σ H, ⟨m0, L, h0, tt, s⟩, fun m σ H ⟨L', h, t1, s1⟩ => hs m σ L' h H t1 s1⟩
theorem cut_take {xs : List V} {m : Nat} : cutV xs none (some (m : Int)) = xs.take m := by
  unfold cutV
  rw [HT.sIx_none, HT.sIx_nat, List.drop_zero, Nat.sub_zero]
  rcases Nat.le_total m xs.length with h | h
  · rw [Nat.min_eq_left h]
  · rw [Nat.min_eq_right h, List.take_length, List.take_of_length_le h]
theorem cut_drop {xs : List V} {m : Nat} : cutV xs (some (m : Int)) none = xs.drop m := by
  unfold cutV
  rw [HT.sIx_none, HT.sIx_nat]
  rcases Nat.le_total m xs.length with h | h
  · rw [Nat.min_eq_left h, List.take_of_length_le (by rw [List.length_drop]; exact Nat.le_refl _)]
  · rw [Nat.min_eq_right h, Nat.sub_self, List.take_zero, List.drop_of_length_le h]
end
/-! ### comprehensions -/
section
variable {T : List (Addr × Str)} {L : List HP} {σ : L2.St} {Q : VK} {K : PySem.W.Frag} {n : Nat} {te : TE} {tt : TT} {g : TG} {vs : List Nat} {a : Addr} {xs : List V}
abbrev CI := Nat → List V → List HP → Prop
def LcPv (T : List (Addr × Str)) (D : Addr) (I : CI) (i : Nat) : Hp → Prop := fun H => ∃ acc L, I i acc L ∧ LamX.Tabs T H ∧ Seps (pt D (.lst acc) :: L) H
def LcAdd (T : List (Addr × Str)) (D : Addr) (I : CI) (i : Nat) (y : V) : Hp → Prop := fun H4 => ∃ acc, H4 D = some (.lst acc) ∧ acc.length < sizeLine ∧ LcPv T D I i (upd H4 D (.lst (acc ++ [y])))
def LcTurn (T : List (Addr × Str)) (D : Addr) (I : CI) (i : Nat) (g : TG) (tt : TT) (te : TE) (vs : List Nat) (σ : L2.St) (x : V) : Hp → Prop := fun H =>
  g x (wipe σ vs) H fun σ2 H2 => wipe σ2 vs = wipe σ vs ∧ tt σ2 H2 fun b H3 => if b = true then te σ2 H3 fun y H4 => LcAdd T D I (i + 1) y H4 else LcPv T D I (i + 1) H3
def LcG (J : It) (g : TG) (tt : TT) (te : TE) (vs : List Nat) (σ : L2.St) (Q : VK) (H1 : Hp) : Prop := ∀ D, H1 D = none → ∃ W : Nat → Nat → Hp → Prop, (∃ m, W 0 m (upd H1 D (.lst []))) ∧ ∀ i m H, W i m H →
  (J.stop i H ∧ Q (.ref D) H) ∨ (J.go i H ∧ ∃ Nx : Hp → Prop, (∀ H', Nx H' → ∃ m', m' < m ∧ W (i + 1) m' H') ∧ ∀ x H', J.yld i H x H' → g x (wipe σ vs) H' fun σ2 H2 => wipe σ2 vs = wipe σ vs ∧ tt σ2 H2 fun b H3 =>
    if b = true then te σ2 H3 fun y H4 => ∃ acc, H4 D = some (.lst acc) ∧ acc.length < sizeLine ∧ Nx (upd H4 D (.lst (acc ++ [y]))) else Nx H3)
theorem g_lcE {wi : TI} (k : Go T L fun H => wi σ H fun J H1 => LcG J g tt te vs σ Q H1) : Go T L fun H => tLc wi g tt te vs σ H Q := k
theorem g_lcR {lo : Int} (I : CI) (h0 : I 0 [] L) (hs : ∀ D i acc L, i < n → I i acc L → Go T (pt D (.lst acc) :: L) (LcTurn T D I i g tt te vs σ (.int (lo + i))))
    (hd : ∀ D acc L, I n acc L → Go T (pt D (.lst acc) :: L) fun H => Q (.ref D) H) : Go T L fun H => LcG (Itr lo n) g tt te vs σ Q H := fun H t s D hD =>
  lc_range (lo := lo) (n := n) (LcPv T D I) ⟨[], L, h0, Tabs.new t hD, s.new hD rfl fun _ e => e⟩ (fun i H hi ⟨acc, L, h, t, s⟩ => hs D i acc L hi h H t s) (fun H ⟨acc, L, h, t, s⟩ => hd D acc L h H t s)
theorem g_lcL (I : CI) (h0 : I 0 [] L) (hl : ∀ i acc L, I i acc L → ∃ A, Pick L (pt a (.lst xs)) A) (hs : ∀ D i x acc L, xs[i]? = some x → I i acc L → Go T (pt D (.lst acc) :: L) (LcTurn T D I i g tt te vs σ x))
    (hd : ∀ D acc L, I xs.length acc L → Go T (pt D (.lst acc) :: L) fun H => Q (.ref D) H) : Go T L fun H => LcG (Itl K a) g tt te vs σ Q H := fun H t s D hD =>
  lc_list (K := K) (xs := xs) (LcPv T D I) ⟨[], L, h0, Tabs.new t hD, s.new hD rfl fun _ e => e⟩ (fun i H _ ⟨acc, L, h, t, s⟩ => let ⟨_, pk⟩ := hl i acc L h; SqL.of (pk.at s.tail)) (fun i x H hi ⟨acc, L, h, t, s⟩ => hs D i x acc L hi h H t s) (fun H ⟨acc, L, h, t, s⟩ => hd D acc L h H t s)
theorem g_lcT (I : CI) (h0 : I 0 [] L) (hl : ∀ i acc L, I i acc L → ∃ A, Pick L (pt a (.tup xs)) A) (hs : ∀ D i x acc L, xs[i]? = some x → I i acc L → Go T (pt D (.lst acc) :: L) (LcTurn T D I i g tt te vs σ x))
    (hd : ∀ D acc L, I xs.length acc L → Go T (pt D (.lst acc) :: L) fun H => Q (.ref D) H) : Go T L fun H => LcG (Itt K a) g tt te vs σ Q H := fun H t s D hD =>
  lc_tup (K := K) (xs := xs) (LcPv T D I) ⟨[], L, h0, Tabs.new t hD, s.new hD rfl fun _ e => e⟩ (fun i H _ ⟨acc, L, h, t, s⟩ => let ⟨_, pk⟩ := hl i acc L h; SqT.of (pk.at s.tail)) (fun i x H hi ⟨acc, L, h, t, s⟩ => hs D i x acc L hi h H t s) (fun H ⟨acc, L, h, t, s⟩ => hd D acc L h H t s)
theorem g_turn {D : Addr} {I : CI} {i : Nat} {x : V} (k : Go T L fun H => g x (wipe σ vs) H fun σ2 H2 => wipe σ2 vs = wipe σ vs ∧ tt σ2 H2 fun b H3 => if b = true then te σ2 H3 fun y H4 => LcAdd T D I (i + 1) y H4 else LcPv T D I (i + 1) H3) : Go T L (LcTurn T D I i g tt te vs σ x) := k
theorem g_tYes {R : Bool → Hp → Prop} (k : Go T L fun H => R true H) : Go T L fun H => tYes σ H R := k
theorem g_lcAdd {D : Addr} {I : CI} {i : Nat} {y : V} {A : List HP} {acc : List V} (pk : Pick L (pt D (.lst acc)) A) (hl : acc.length < sizeLine) (h : I i (acc ++ [y]) A) : Go T L fun H => LcAdd T D I i y H := fun H t s =>
  ⟨acc, pk.at s, hl, (go_lst (G := LcPv T D I i) pk fun H t s => ⟨_, _, h, t, s⟩) H t s⟩
theorem g_lcKeep {D : Addr} {I : CI} {i : Nat} {A : List HP} {acc : List V} (pk : Pick L (pt D (.lst acc)) A) (h : I i acc A) : Go T L fun H => LcPv T D I i H := fun H t s => ⟨acc, A, h, t, pk H s⟩
end
/-! ### promises -/
/-- a promise told over chunks -/
abbrev SG := List V → List HP → VK → XK → Prop
def sOf (T : List (Addr × Str)) (sg : SG) : Sp := fun vs H Q E => ∃ L, LamX.Tabs T H ∧ Seps L H ∧ sg vs L Q E
theorem g_spec {T : List (Addr × Str)} {L : List HP} {sg : SG} {vs : List V} {Q : VK} {E : XK} (h : sg vs L Q E) : Go T L fun H => sOf T sg vs H Q E := fun H t s => ⟨L, t, s, h⟩
end Dh

/-! The layer Dh, fourth part: callees by one fact each, raising, a lambda handed to a def with several clauses. -/
namespace Dh
open PySem PySem.Spec PyProof.Rows L2

/-- a def that may be called by its name -/
structure CalX (P : Program) (w : World) (K : PySem.W.Frag) (mg : Str → Option Value) (base : Heap) (k : Nat) (x : Str) (sp : Sp) : Prop where
  ex : ∃ (f : Addr) (fd : FuncData) (ps : List Str), FnOk P w K mg base (L2.CX P w) k f fd ps sp ∧ mg x = some (.ref f) ∧ PySem.W.keepIn K (.ref f) = true ∧ Binds K fd ps []
structure MetX (P : Program) (w : World) (K : PySem.W.Frag) (mg : Str → Option Value) (base : Heap) (k : Nat) (C : Addr) (m : Str) (sp : Sp) : Prop where
  ex : ∃ (f : Addr) (fd : FuncData) (ps : List Str), Cls K C ∧ Meth K C m f ∧ FnOk P w K mg base (L2.CX P w) k f fd ps sp ∧ Binds K fd ps []
structure MakX (P : Program) (w : World) (K : PySem.W.Frag) (mg : Str → Option Value) (base : Heap) (k : Nat) (x : Str) (C : Addr) (sp : Sp) : Prop where
  ex : ∃ (f : Addr) (fd : FuncData) (ps : List Str), Mk K C f ∧ FnOk P w K mg base (L2.CX P w) k f fd ps sp ∧ mg x = some (.ref C) ∧ Binds K fd ps []
section
variable {X : Cx} {k j : Nat} {C : Addr} {x m : Str} {sp : Sp} {p pos apos : Pos} {e o : Expr} {es : List Expr} {ta : TE} {t : TA} {E : XK}
theorem pe_cal (c : CalX X.prog X.w X.K X.mg X.base k x sp) (hr : Room j X.A) (hk : k ≤ j) (hx : Passes (L2.CX X.prog X.w) X E) (hg : Gl X x) (ha : PA X (e :: es) t)
    (hdb : (x == ("__debug__" : Str)) = false := by decide) (he : starEach (e :: es) X.env = (false, eval e X.env) :: starEach es X.env := by rfl) (hpl : (backTo pos (starEach es X.env)).any (·.1) = false := by rfl) :
    PE X (.Call (.Name x p) (e :: es) [] pos) (tCall sp [] E t) := by
  obtain ⟨f, fd, ps, F, hm, kp, b⟩ := c.ex
  exact pe_call F (hr.mono hk) hg hm kp b .nil hx ha hdb he hpl
theorem pe_cal0 (c : CalX X.prog X.w X.K X.mg X.base k x sp) (hr : Room j X.A) (hk : k ≤ j) (hx : Passes (L2.CX X.prog X.w) X E) (hg : Gl X x) (hdb : (x == ("__debug__" : Str)) = false := by decide) :
    PE X (.Call (.Name x p) [] [] pos) (tCall sp [] E tNil) := by
  obtain ⟨f, fd, ps, F, hm, kp, b⟩ := c.ex
  exact pe_call0 F (hr.mono hk) hg hm kp b .nil hx hdb
theorem pe_mak (c : MakX X.prog X.w X.K X.mg X.base k x C sp) (hr : Room j X.A) (hk : k + 1 ≤ j) (hx : Passes (L2.CX X.prog X.w) X E) (hg : Gl X x) (ha : PA X (e :: es) t)
    (hdb : (x == ("__debug__" : Str)) = false := by decide) (he : starEach (e :: es) X.env = (false, eval e X.env) :: starEach es X.env := by rfl) (hpl : (backTo pos (starEach es X.env)).any (·.1) = false := by rfl) :
    PE X (.Call (.Name x p) (e :: es) [] pos) (tMake C sp [] E t) := by
  obtain ⟨f, fd, ps, M, F, hm, b⟩ := c.ex
  exact pe_make M F (hr.mono hk) hg hm b .nil hx ha hdb he hpl
theorem pe_mak0 (c : MakX X.prog X.w X.K X.mg X.base k x C sp) (hr : Room j X.A) (hk : k + 1 ≤ j) (hx : Passes (L2.CX X.prog X.w) X E) (hg : Gl X x) (hdb : (x == ("__debug__" : Str)) = false := by decide) :
    PE X (.Call (.Name x p) [] [] pos) (tMake C sp [] E tNil) := by
  obtain ⟨f, fd, ps, M, F, hm, b⟩ := c.ex
  exact pe_make0 M F (hr.mono hk) hg hm b .nil hx hdb
theorem pe_met {pl : Sem Bool} (c : MetX X.prog X.w X.K X.mg X.base k C m sp) (hr : Room j X.A) (hk : k ≤ j) (hx : Passes (L2.CX X.prog X.w) X E) (he : PE X o ta) (ha : PA X (e :: es) t)
    (hst : starEach (e :: es) X.env = (false, eval e X.env) :: starEach es X.env := by rfl) (hpl : (backTo pos (starEach es X.env)).any (·.1) = false := by rfl)
    (ht : eval (.Call (.Attribute o m apos) (e :: es) [] pos) X.env = (eval o X.env >>= fun ov => standAt apos.atName >>= fun _ => holding [ov] (getMethod ov m pl) >>= fun ff => callWith pos ff.1 ff.2 (backTo pos (starEach (e :: es) X.env)) (backToKw pos (keywordEach [] X.env))) := by rfl) :
    PE X (.Call (.Attribute o m apos) (e :: es) [] pos) (tMeth C m sp [] E ta t) := by
  obtain ⟨f, fd, ps, hc, hm, F, b⟩ := c.ex
  exact pe_meth (pl := pl) he hc hm F (hr.mono hk) b .nil hx ha hst hpl ht
theorem pe_met0 {pl : Sem Bool} (c : MetX X.prog X.w X.K X.mg X.base k C m sp) (hr : Room j X.A) (hk : k ≤ j) (hx : Passes (L2.CX X.prog X.w) X E) (he : PE X o ta)
    (ht : eval (.Call (.Attribute o m apos) [] [] pos) X.env = (eval o X.env >>= fun ov => standAt apos.atName >>= fun _ => holding [ov] (getMethod ov m pl) >>= fun ff => callWith pos ff.1 ff.2 (backTo pos (starEach [] X.env)) (backToKw pos (keywordEach [] X.env))) := by rfl) :
    PE X (.Call (.Attribute o m apos) [] [] pos) (tMeth C m sp [] E ta tNil) := by
  obtain ⟨f, fd, ps, hc, hm, F, b⟩ := c.ex
  exact pe_meth0 (pl := pl) he hc hm F (hr.mono hk) b .nil hx ht
end
/-! ### raising -/
/-- what the top has written of an exception class without an own __init__ -/
structure ExcX (K : PySem.W.Frag) (mg : Str → Option Value) (x : Str) (C : Addr) : Prop where
  g : mg x = some (.ref C)
  q : PySem.W.excIn K C [.type "ValueError", .type "Exception", .type "BaseException", .type "object"] "ValueError.__new__" = true
  k : PySem.W.keepIn K (.ref C) = true
  b : PySem.W.subIn K (.ref C) (.type "BaseException") = some true
  t : PySem.W.typeIn K (.ref C) = some (.type "type")
def tRs (C : Addr) (W : WX) : TS := fun _ σ H => W (.ref C) none σ H
theorem ps_rs {X : Cx} {W : WX} {x m : Str} {C : Addr} {j : Nat} {p p2 pos pos' : Pos} (hc : X.calm = true) (tk : Takes X W) (ec : ExcX X.K X.mg x C) (hg : Gl X x) (hdb : (x == ("__debug__" : Str)) = false := by decide) :
    PS X (.Raise (some (.Call (.Name x p) [.Constant (.str m) j p2] [] pos)) none pos') (tRs C W) :=
  ps_raise hc tk (pmk_own PySem.F.excBase_ValueError ec.q ec.g ec.k (raises_own ec.b ec.t) hg hdb)
section
variable {T : List (Addr × Str)} {L : List HP} {σ : L2.St} {D : Ends} {C : Addr} {E : XK} {W : WX}
theorem g_rs (k : Go T L fun H => E (.ref C) none H) : Go T L fun H => tRs C (fun cls d _ H => E cls d H) D σ H := k
theorem g_rsW (k : Go T L fun H => W (.ref C) none σ H) : Go T L fun H => tRs C W D σ H := k
end

/-! ### a lambda handed to a def: try: return what() / except X: return '..' / .. -/
/-- what the clauses give back of an exception -/
def toldE (K : PySem.W.Frag) : List (Addr × Str) → VK → XK
  | [], _ => fun _ _ _ => False
  | (C, ret) :: r, Q => fun cls d H => ∃ b, PySem.W.exmOne K cls (.ref C) = some b ∧ (b = true → Q (.str ret) H) ∧ (b = false → toldE K r Q cls d H)
def TTx (K : PySem.W.Frag) (cs : List (Addr × Str)) : (XK → Hp → VK → Prop) → Hp → VK → Prop := fun tl H Q => tl (toldE K cs Q) H Q
/-- the clauses as they stand in the text -/
inductive Clauses (X : Cx) : List ExceptHandler → List (Addr × Str) → Prop
  | nil : Clauses X [] []
  | cons {x ret : Str} {C : Addr} {j : Nat} {p1 p2 p3 p4 : Pos} {hs : List ExceptHandler} {cs : List (Addr × Str)} (hg : X.env.kindOf x = some .globalImplicit) (hm : X.mg x = some (.ref C)) (hd : (x == ("__debug__" : Str)) = false) (r : Clauses X hs cs) :
      Clauses X (.ExceptHandler (some (.Name x p1)) none [.Return (some (.Constant (.str ret) j p2)) p3] p4 :: hs) ((C, ret) :: cs)
def tsOf (cs : List (Addr × Str)) : List (Value × (Addr → Value → Option Addr → TS)) := cs.map fun c => (.ref c.1, fun _ _ _ => tRet (tC (.str c.2)))
theorem Clauses.ok {X : Cx} {hs : List ExceptHandler} {cs : List (Addr × Str)} (c : Clauses X hs cs) : HdsOk X hs (tsOf cs) := by
  induction c with
  | nil => exact .nil
  | cons hg hm hd r ih => exact .cons ⟨hg, hd, .inl hm⟩ (fun _ _ _ _ _ _ _ => pss_one (ps_ret pe_str)) ih
theorem toldE_many {K : PySem.W.Frag} {D : Ends} : ∀ {cs : List (Addr × Str)} {cls : Value} {d : Option Addr} {σ : L2.St} {H : Hp}, toldE K cs D.rt cls d H → wMany K (fun _ _ _ _ => False) D (tsOf cs) cls d σ H
  | [], _, _, _, _, h => h
  | (C, ret) :: r, cls, d, σ, H, ⟨b, h1, h2, h3⟩ => ⟨b, h1, fun e _ _ => h2 e, fun e => toldE_many (h3 e)⟩
theorem told_many {X : Cx} {Ng : List Str} {x a q : Str} {sg : Scope} {g : Addr} {cdg : Value} {h0 : ExceptHandler} {hs : List ExceptHandler} {cs : List (Addr × Str)} {p1 p2 p3 p8 : Pos}
    (hcl : ∀ (f : Addr) (s : Shared) (H : Hp), Clauses (cxOf C8.CX0 X.prog X.w X.K X.mg X.base Ng x sg g cdg X.A X.stack s H C8.E0).nox (h0 :: hs) cs) (hst : ∀ f : Addr, (L2.start Ng [V.ref f])[0]? = some (some (V.ref f))) :
    LamX.GivesTo X Ng x sg g cdg [.Try [.Return (some (.Call (.Name a p1) [] [] p2)) p3] (h0 :: hs) [] [] p8] a q (TTx X.K cs) := by
  intro f c' s H Q tl act hc h
  refine ⟨_, pss_one (ps_try_many (X := (cxOf C8.CX0 X.prog X.w X.K X.mg X.base Ng x sg g cdg X.A X.stack s H C8.E0).nox) (Wout := fun _ _ _ _ => False)
      (tb := fun W D σ H => ∃ Ech : XK, (∀ cls d σ' H', Ech cls d H' → W cls d σ' H') ∧ σ[0]? = some (some (.ref f)) ∧ H c' = some (LamX.CodeO c' q) ∧ tl Ech H D.rt)
      rfl rfl LamX.takes0 (fun W pn xe tk _ => ?_) (hcl f s H).ok), ?_⟩
  · refine ⟨fun pins s' σ H' D I h' => ?_⟩
    obtain ⟨Ech, hW, h1, h2, h3⟩ := h'
    exact (pss_one (ps_ret (pos := p3) (act W pn xe Ech p1 p2 tk hW))).run pins s' σ H' D I ⟨h1, h2, h3⟩
  · exact ⟨toldE X.K cs Q, fun cls d σ' H' z => toldE_many (D := ⟨fun _ H' => Q .non H', Q, fun _ _ => False, fun _ _ => False⟩) z, hst f, hc, h⟩
/-- what the top has written of such a def (told), and how a caller stands -/
structure ToldX (K : PySem.W.Frag) (mg : Str → Option Value) (x : Str) (st : Stmt) (g : Addr) : Prop where
  ex : ∃ (oc : Value) (od : Option Addr) (kV doc pm : Value) (an : Option Addr) (cdv ct : Value) (osl : Array (Option Value)),
    K.lookup g = some ⟨oc, od, .func (PySem.W.fnOf x x (defArgs st) (defBody st) (defScope st) .none kV doc pm an cdv ct), osl⟩ ∧ PySem.W.codeIn K cdv x = true
  m : mg x = some (.ref g)
  k : PySem.W.keepIn K (.ref g) = true
def tTold (T : List (Addr × Str)) (K : PySem.W.Frag) (cs : List (Addr × Str)) (t : XK → TE) : TE := fun σ H Q => LamX.Tabs T H ∧ ∀ H1, LamX.ExtN H H1 → LamX.Tabs T H1 → t (toldE K cs Q) σ H1 Q
theorem g_told {T : List (Addr × Str)} {L : List HP} {σ : L2.St} {Q : VK} {K : PySem.W.Frag} {cs : List (Addr × Str)} {t : XK → TE} (k : Go T L fun H => t (toldE K cs Q) σ H Q) : Go T L fun H => tTold T K cs t σ H Q := fun H tt s =>
  ⟨tt, fun H1 e t1 => k H1 t1 (s.mono fun a o h n => e a o h fun ps z => by rw [z] at n; cases n)⟩
theorem g_toldE {T : List (Addr × Str)} {L : List HP} {Q : VK} {K : PySem.W.Frag} {cs : List (Addr × Str)} {C : Addr} {ret : Str} {cls : Value} {d : Option Addr} {b : Bool} (h : PySem.W.exmOne K cls (.ref C) = some b) (k1 : b = true → Go T L fun H => Q (.str ret) H) (k2 : b = false → Go T L fun H => toldE K cs Q cls d H) :
    Go T L fun H => toldE K ((C, ret) :: cs) Q cls d H := fun H t s => ⟨b, h, fun e => k1 e H t s, fun e => k2 e H t s⟩
def locQ (q : Str) : Str := q ++ ".<locals>."
theorem cx_qual {CX : CXT} {P : Program} {w : World} {K : PySem.W.Frag} {mg : Str → Option Value} {base : Heap} {N : List Str} {qual : Str} {scope : Scope} {f : Addr} {cd : Value} {A : Around} {outer : List Env} {s : Shared} {H : Hp} {E : XK} : (cxOf CX P w K mg base N qual scope f cd A outer s H E).env.qual = locQ qual := rfl
theorem cx_code {CX : CXT} {P : Program} {w : World} {K : PySem.W.Frag} {mg : Str → Option Value} {base : Heap} {N : List Str} {qual : Str} {scope : Scope} {f : Addr} {cd : Value} {A : Around} {outer : List Env} {s : Shared} {H : Hp} {E : XK} : (cxOf CX P w K mg base N qual scope f cd A outer s H E).env.code = cd := rfl
def lamQ (q : Str) : Str := q ++ "<lambda>"
/-- told(lambda: body) -/
theorem pe_told {X : Cx} {T cs : List (Addr × Str)} {x a qn : Str} {g c P : Addr} {k j : Nat} {st : Stmt} {Ng : List Str} {params : Arguments} {body : Expr} {scope : Scope} {t : XK → TE} {p lpos pos : Pos}
    (tx : ToldX X.K X.mg x st g) (hb : ∀ kV doc pm an cdv ct, L2.Binds X.K (PySem.W.fnOf x x (defArgs st) (defBody st) (defScope st) .none kV doc pm an cdv ct) [a] []) (Sg : FnScope Ng [a] (defScope st)) (hNg : Ng[0]? = some a) (hva : Vis (defScope st) a)
    (hG : ∀ cdv q, LamX.GivesTo X Ng x (defScope st) g cdv (defBody st) a q (TTx X.K cs))
    (TB : LamX.TabB X.base X.mg c P) (hcode : X.env.code = .ref c) (hq : X.env.qual = qn) (hmT : (P, lamQ qn) ∈ T) (hu : ∀ p ∈ T, p.1 = P → p.2 = lamQ qn) (hr : Room j X.A) (hk : k + 2 ≤ j) (Ls : LamX.LamS X.env.scope scope) (hdef : defaultsOf params X.env = ([], []))
    (hbind : ∀ (q : Str) (cl : List (Str × Addr)) (pm cv ctv : Value), bindArgs (PySem.W.kla_fn "<lambda>" q params body scope cl pm cv ctv) ⟨[], []⟩ = pure [])
    (hg : Gl X x) (hbody : ∀ (A : Around) (outer : List Env) (s : Shared) (H : Hp) (E : XK) (f c' : Addr), Room k (A.deeper (LamX.lamEnv X scope s.heap.objs.size f c')) → PE (LamX.lamCx X A outer s H E scope f c') body (t E))
    (hdb : (x == ("__debug__" : Str)) = false := by decide) (hd : (a == ("__debug__" : Str)) = false := by decide) (hcd : (a == ("__classdict__" : Str)) = false := by decide) :
    PE X (.Call (.Name x p) [.Lambda params body scope lpos] [] pos) (tTold T X.K cs t) := by
  subst hq
  obtain ⟨oc, od, kV, doc, pm, an, cdv, ct, osl, lk, hcg⟩ := tx.ex
  exact LamX.pe_lamcall (k := k) (T := T) (TT := TTx X.K cs) hg tx.m tx.k lk hcg (hb kV doc pm an cdv ct) Sg hNg hva (hG cdv _) TB hcode hmT hu (hr.mono hk) Ls hdef hbind hbody hdb hd hcd
end Dh

/-! The layer Dh, fifth part: the rules with the written part told apart, and a def's promise. -/
namespace Dh
open PySem PySem.Spec PyProof.Rows L2
section
variable {X : Cx} {K : PySem.W.Frag}
theorem oAdd (hK : X.K = K) : OpR X (binaryOp .Add) (rAddX K) := hK ▸ op_addX
theorem oMul (hK : X.K = K) : OpR X (binaryOp .Mult) (rMulX K) := hK ▸ op_mulX
theorem oEq (hK : X.K = K) (hu : X.A.units + 64 < cLine) : OpR X (compareOp .Eq) (rEqX K) := hK ▸ op_eqX hu
theorem oNe (hK : X.K = K) (hu : X.A.units + 64 < cLine) : OpR X (compareOp .NotEq) (rNeX K) := hK ▸ op_neX hu
theorem oIn (hK : X.K = K) : OpR X (compareOp .In) (rIn K false) := hK ▸ op_in_seq
theorem oNotIn (hK : X.K = K) : OpR X (compareOp .NotIn) (rIn K true) := hK ▸ op_notIn_seq
theorem xSeq (hK : X.K = K) : IxR X (rIxX K) := hK ▸ ix_seq
theorem slSeq (hK : X.K = K) : SlR X (rSlXX K) := hK ▸ sl_seq
theorem piSeq {tg l : Expr} {tl : TE} (hK : X.K = K) (hl : PE X l tl) : PI X tg l (iSeq K tl) := hK ▸ pi_seq hl
theorem cLen (hK : X.K = K) : CallR X (.builtin "len") (rLenX K) := hK ▸ call_lenX
theorem cList (hK : X.K = K) : CallR X (.type "list") (rListX K) := hK ▸ call_listX
theorem cTup (hK : X.K = K) : CallR X (.type "tuple") (rTupX K) := hK ▸ call_tupX
theorem cSum (hK : X.K = K) (hc : X.calm = true) : CallR X (.builtin "sum") (rSum K) := hK ▸ cr_sum hc
theorem cMax (hK : X.K = K) (hc : X.calm = true) : CallR X (.builtin "max") (rMax K) := hK ▸ cr_max hc
theorem cMin (hK : X.K = K) (hc : X.calm = true) : CallR X (.builtin "min") (rMin K) := hK ▸ cr_min hc
theorem ptTru {a : Expr} {ta : TE} (hK : X.K = K) (ha : PE X a ta) (he : ∀ whole, isTrue a X.env whole = (do let v ← whole; standAt a.pos; holding [v] (truthy v)) := by intro _; rfl) : PT X a (tTruX K ta) := hK ▸ pt_truX ha he
theorem pgTup {es : List Expr} {k : Nat} {t : TGs} {n : Nat} {pos : Pos} (hK : X.K = K) (hc : X.calm = true) (h : PGs X es t) (hl : (assignEach es X.env).length = n) (hs : (assignEach es X.env).findIdx? (·.1) = none) : PG X (.Tuple es k pos) (gTup K n t) := hK ▸ pg_tup hc h hl hs
theorem ipMul : PIp X .Mult (fun x y H Q => ∃ i j, x = .int i ∧ y = .int j ∧ CMul i j ∧ Q (.int (i * j)) H) := by
  intro pins s σ H x y v u Q I r1 r2 h
  obtain ⟨i, j, e1, e2, hc, q⟩ := h
  subst e1
  subst e2
  obtain ⟨t, ht⟩ := r1
  obtain ⟨t', ht'⟩ := r2
  subst ht
  subst ht'
  exact PyProof.Rows.imul_int ⟨.int _, H, I.tok _, ⟨_, rfl⟩, q⟩ hc.ok
def ipMulX : TIp := fun x y H Q => ∃ i j, x = .int i ∧ y = .int j ∧ CMul i j ∧ Q (.int (i * j)) H
theorem ipMulR : PIp X .Mult ipMulX := ipMul
theorem g_ipMul {T : List (Addr × Str)} {L : List HP} {i j : Int} {Q : VK} (hc : CMul i j) (k : Go T L fun H => Q (.int (i * j)) H) : Go T L fun H => ipMulX (.int i) (.int j) H Q := fun H t s => ⟨i, j, rfl, rfl, hc, k H t s⟩
theorem piRev {tg e : Expr} {te : TE} {p pos : Pos} (hK : X.K = K) (hg : Gl X "reversed") (hm : X.mg "reversed" = none) (he : PE X e te) (hs : starEach [e] X.env = (false, eval e X.env) :: starEach [] X.env := by rfl) : PI X tg (.Call (.Name "reversed" p) [e] [] pos) (RT.iRevA K te) := hK ▸ RT.pi_revA hg hm he hs
theorem cIsi (hK : X.K = K) : CallR X (.builtin "isinstance") (rIsi K) := hK ▸ call_isi
theorem blt_abs : bootBuiltins "abs" = some (.builtin "abs") := by decide +kernel
theorem blt_any : bootBuiltins "any" = some (.builtin "any") := by decide +kernel
theorem blt_all : bootBuiltins "all" = some (.builtin "all") := by decide +kernel
end
/-- a list that is to be read alone (the script) -/
def sq (K : PySem.W.Frag) (a : Addr) (xs : List V) : HP := fun h => SqL K h a xs
theorem sq_sub {K : PySem.W.Frag} {h H : Hp} {a : Addr} {xs : List V} (s : ∀ b o, h b = some o → isTbl o = false → H b = some o) (e : SqL K h a xs) : SqL K H a xs := by
  rcases e with (e | ⟨o, e⟩) | e
  · exact .inl (.inl (s _ _ e rfl))
  · exact .inl (.inr ⟨o, s _ _ e rfl⟩)
  · exact .inr e
theorem g_slQ {T : List (Addr × Str)} {L A : List HP} {K : PySem.W.Frag} {a : Addr} {xs : List V} {lo hi : Option Int} {Q : VK} (pk : Pick L (sq K a xs) A) (k : ∀ p, Go T (pt p (.lst (cutV xs lo hi)) :: L) fun H => Q (.ref p) H) : Go T L fun H => rSlXX K (.ref a) lo hi H Q := fun H t s => by
  obtain ⟨h1, s1, e⟩ := (pk H s).head
  exact .inl ⟨a, xs, rfl, sq_sub (fun b o q _ => s1 b o q) e, (go_new (P := fun p => pt p (.lst (cutV xs lo hi))) rfl (fun _ _ e => e) k) H t s⟩
theorem seps_sq {K : PySem.W.Frag} {H : Hp} {a : Addr} {xs : List V} (e : SqL K H a xs) : Seps [sq K a xs] H :=
  ⟨ntH H, fun _ => none, fun _ _ _ _ q => (nomatch q), NT.ntH H, fun _ _ q => (nomatch q), Sub.ntH H, fun _ _ q => (nomatch q), sq_sub (fun b o q n => ntH_some.mpr ⟨q, n⟩) e, trivial⟩
theorem tabs_nil {T : List (Addr × Str)} {H : Hp} (h : ∀ p ∈ T, H p.1 = some (.tbl #[])) : LamX.Tabs T H := fun p hp => LamX.TabS.nil (h p hp)
theorem cx_no {P : Program} {w : World} {H : Hp} {s : Shared} {e : Value} {s' : Shared} (h : L2.CX P w [] H s (fun _ _ _ => False) e s') : False := by
  obtain ⟨_, _, _, _, _, _, _, _, _, _, _, _, z⟩ := h
  exact z
theorem exm_mk {K : PySem.W.Frag} {A B : Addr} {b : Bool} (h1 : PySem.W.subIn K (.ref B) (.type "BaseException") = some true) (h2 : PySem.W.isClsIn K B = true) (h3 : PySem.W.typeIn K (.ref B) = some (.type "type")) (h4 : PySem.W.subIn K (.ref A) (.ref B) = some b) : PySem.W.exmOne K (.ref A) (.ref B) = some b := by
  unfold PySem.W.exmOne
  rw [h1, if_pos (by rfl)]
  show (if ((PySem.W.clsIn K B).isSome && PySem.W.typeIn K (.ref B) == some (.type "type")) = true then PySem.W.subIn K (.ref A) (.ref B) else none) = some b
  have e : (PySem.W.clsIn K B).isSome = true := h2
  rw [h3, h4, e]
  rfl
/-! ### a def's promise, its arguments counted -/
def sOfN (T : List (Addr × Str)) (n : Nat) (sg : SG) : Sp := fun vs H Q E => vs.length = n ∧ ∃ L, LamX.Tabs T H ∧ Seps L H ∧ sg vs L Q E
theorem g_sp {T : List (Addr × Str)} {L : List HP} {sg : SG} {vs : List V} {Q : VK} {E : XK} {n : Nat} (hl : vs.length = n) (h : sg vs L Q E) : Go T L fun H => sOfN T n sg vs H Q E := fun H t s => ⟨hl, L, t, s, h⟩
/-- a def whose code object stands at c -/
structure FunC (K : PySem.W.Frag) (x qual : Str) (st : Stmt) (f : Addr) (fd : FuncData) (cdv : Value) : Prop where
  ex : ∃ (oc : Value) (od : Option Addr) (kV doc pm : Value) (an : Option Addr) (ct : Value) (osl : Array (Option Value)),
    fd = PySem.W.fnOf x qual (defArgs st) (defBody st) (defScope st) .none kV doc pm an cdv ct ∧ K.lookup f = some ⟨oc, od, .func fd, osl⟩ ∧ PySem.W.codeIn K cdv qual = true
section
variable {P : Program} {w : World} {K : PySem.W.Frag} {mg : Str → Option Value} {base : Heap} {T : List (Addr × Str)}
theorem fnX {x qual : Str} {st : Stmt} {f : Addr} {fd : FuncData} {cdv : Value} {N ps : List Str} {k n : Nat} {sg : SG} (F : FunC K x qual st f fd cdv) (S : FnScope N ps (defScope st)) (hn : ps.length = n)
    (hbody : ∀ (A : Around) (outer : List Env) (s : Shared) (H0 : Hp) (L : List HP) (vs : List V) (Q : VK) (E : XK), Room k (A.deeper (envOfC qual (defScope st) s.heap.objs.size f cdv)) → vs.length = n → sg vs L Q E →
      ∃ t, PSs (cxOf (L2.CX P w) P w K mg base N qual (defScope st) f cdv A outer s H0 E) (defBody st) t ∧ Go T L fun H => t { nx := fun _ H' => Q .non H', rt := Q } (start N vs) H) :
    FnOk P w K mg base (L2.CX P w) (k + 1) f fd ps (sOfN T n sg) := by
  obtain ⟨oc, od, kV, doc, pm, an, ct, osl, e, lk, hcd⟩ := F.ex
  subst e
  refine fn_of lk hcd S (fun vs H Q E h => h.1.trans hn.symm) fun A outer s H vs Q E hr hsp => ?_
  obtain ⟨hl, L, ht, hs, hg⟩ := hsp
  obtain ⟨t, h, q⟩ := hbody A outer s H L vs Q E hr hl hg
  exact ⟨t, h, q H ht hs⟩
theorem FunC.bnd {x qual : Str} {st : Stmt} {f : Addr} {fd : FuncData} {cdv : Value} {ps : List Str} (F : FunC K x qual st f fd cdv)
    (h : ∀ (kV doc pm : Value) (an : Option Addr) (cdv ct : Value) (us : List Value), us.length = ps.length → bindArgs (PySem.W.fnOf x qual (defArgs st) (defBody st) (defScope st) .none kV doc pm an cdv ct) ⟨us, []⟩ = pure (ps.zip us)) : Binds K fd ps [] := by
  obtain ⟨oc, od, kV, doc, pm, an, ct, osl, e, lk, hcd⟩ := F.ex
  subst e
  exact .all (h kV doc pm an cdv ct)
end
end Dh

/-! The layer Dh, sixth part: dicts, lists of tuples, == of data, ranges made lists. -/
namespace Dh
open PySem PySem.Spec PyProof.Rows L2
section
variable {T : List (Addr × Str)} {L : List HP} {σ : L2.St} {Q : VK} {K : PySem.W.Frag} {v x y z : V} {i j : Int} {n m : Nat} {ta tb tc te td ty tv : TE} {N0 : L2.St → Hp → Prop} {R0 : VK} {B0 C0 : L2.St → Hp → Prop} {a b p : Addr} {xs ys vs ws : List V} {ns ms : List Int} {kvs : List (Key × V)} {A B D : List HP}
theorem g_nonA {P : Hp → Prop} (k : Go T L P) : Go T L fun H => V.non = V.non ∧ P H := fun H t s => ⟨rfl, k H t s⟩
/-! ### dicts -/
def lDIn (Q : VK) (y x : V) (H2 : Hp) : Prop := ∃ a o, x = .ref a ∧ DGet H2 a y o ∧ Q (.bl o.isSome) H2
theorem g_dinE (k : Go T L fun H => ty σ H fun y H1 => td σ H1 (lDIn Q y)) : Go T L fun H => tDIn ty td σ H Q := k
theorem g_dinI (pk : Pick L (pt a (.dK kvs)) A) (k : Go T L fun H => Q (.bl (valV kvs (Sum.inl i)).isSome) H) : Go T L fun H => lDIn Q (.int i) (.ref a) H := fun H t s => ⟨a, _, rfl, DGet.k (k := Sum.inl i) (pk.at s), k H t s⟩
def lDNotIn (Q : VK) (y x : V) (H2 : Hp) : Prop := ∃ a o, x = .ref a ∧ DGet H2 a y o ∧ Q (.bl (!o.isSome)) H2
theorem g_dnotinE (k : Go T L fun H => ty σ H fun y H1 => td σ H1 (lDNotIn Q y)) : Go T L fun H => tDNotIn ty td σ H Q := k
theorem g_dnotinI (pk : Pick L (pt a (.dK kvs)) A) (k : Go T L fun H => Q (.bl (!(valV kvs (Sum.inl i)).isSome)) H) : Go T L fun H => lDNotIn Q (.int i) (.ref a) H := fun H t s => ⟨a, _, rfl, DGet.k (k := Sum.inl i) (pk.at s), k H t s⟩
theorem g_cmpE {tt : TE} {R : Bool → Hp → Prop} (k : Go T L fun H => tt σ H fun z H' => ∃ k, z = .bl k ∧ R k H') : Go T L fun H => tTest tt σ H R := k
def lDGet (Q : VK) (x y : V) (H2 : Hp) : Prop := ∃ a v, x = .ref a ∧ DGet H2 a y (some v) ∧ Q v H2
theorem g_dgetE (k : Go T L fun H => td σ H fun x H1 => ty σ H1 (lDGet Q x)) : Go T L fun H => tDGet td ty σ H Q := k
theorem g_dgetI (pk : Pick L (pt a (.dK kvs)) A) (h : valV kvs (Sum.inl i) = some v) (k : Go T L fun H => Q v H) : Go T L fun H => lDGet Q (.ref a) (.int i) H := fun H t s => ⟨a, v, rfl, h ▸ DGet.k (k := Sum.inl i) (pk.at s), k H t s⟩
def lDPut (N : Hp → Prop) (v x y : V) (H3 : Hp) : Prop := ∃ a H4, x = .ref a ∧ DPut H3 a y v H4 ∧ N H4
theorem g_dputE (k : Go T L fun H => tv σ H fun v H1 => td σ H1 fun x H2 => ty σ H2 (lDPut (N0 σ) v x)) : Go T L fun H => sDPut td ty tv ⟨N0, R0, B0, C0⟩ σ H := k
theorem g_dputI {N : Hp → Prop} (pk : Pick L (pt a (.dK kvs)) A) (hl : kvs.length < sizeLine) (k : Go T (pt a (.dK (putK kvs (Sum.inl i) v)) :: A) N) : Go T L fun H => lDPut N v (.ref a) (.int i) H := fun H t s =>
  ⟨a, _, rfl, DPut.k (k := Sum.inl i) (pk.at s) hl, (go_wr (P' := pt a (.dK (putK kvs (Sum.inl i) v))) pk rfl (fun h e => ⟨_, e, rfl, upd_same⟩) k) H t s⟩
def lDPopA (ty : TE) (σ : L2.St) (Q : VK) (x : V) (H1 : Hp) : Prop := ∃ a, x = .ref a ∧ IsD H1 a ∧ ty σ H1 fun y H2 => ∃ kvs k v, H2 a = some (.dK kvs) ∧ y = kV k ∧ valV kvs k = some v ∧ Q v (upd H2 a (.dK (dropK kvs k)))
def lDPopB (a : Addr) (Q : VK) (y : V) (H2 : Hp) : Prop := ∃ kvs k v, H2 a = some (.dK kvs) ∧ y = kV k ∧ valV kvs k = some v ∧ Q v (upd H2 a (.dK (dropK kvs k)))
theorem g_dpopE (k : Go T L fun H => td σ H (lDPopA ty σ Q)) : Go T L fun H => tDPop1 td ty σ H Q := k
theorem g_dpopA (pk : Pick L (pt a (.dK kvs)) A) (k : Go T L fun H => ty σ H (lDPopB a Q)) : Go T L fun H => lDPopA ty σ Q (.ref a) H := fun H t s => ⟨a, rfl, .inl ⟨_, .inl (pk.at s)⟩, k H t s⟩
theorem g_dpopB (pk : Pick L (pt a (.dK kvs)) A) (h : valV kvs (Sum.inl i) = some v) (k : Go T (pt a (.dK (dropK kvs (Sum.inl i))) :: A) fun H => Q v H) : Go T L fun H => lDPopB a Q (.int i) H := fun H t s =>
  ⟨kvs, Sum.inl i, v, pk.at s, rfl, h, (go_wr (P' := pt a (.dK (dropK kvs (Sum.inl i)))) pk rfl (fun h e => ⟨_, e, rfl, upd_same⟩) k) H t s⟩
theorem g_dnew (k : ∀ p, Go T (pt p (.dK []) :: L) fun H => Q (.ref p) H) : Go T L fun H => tDNewK σ H Q := go_new (P := fun p => pt p (.dK [])) rfl (fun _ _ e => e) k

/-! ### lists of tuples of ints -/
/-- the values vs are tuples of the ints ts -/
inductive F2 (H : Hp) : List V → List (List Int) → Prop
  | nil : F2 H [] []
  | cons {t : Addr} {vs : List V} {ms : List Int} {ts : List (List Int)} : H t = some (.tup (ms.map .int)) → F2 H vs ts → F2 H (.ref t :: vs) (ms :: ts)
def tps (vs : List V) (ts : List (List Int)) : HP := fun h => F2 h vs ts
section
variable {H : Hp} {ts us : List (List Int)}
theorem F2.len : ∀ {vs : List V} {ts : List (List Int)}, F2 H vs ts → vs.length = ts.length
  | _, _, .nil => rfl
  | _, _, .cons _ r => by rw [List.length_cons, List.length_cons, r.len]
theorem F2.app : ∀ {vs ws : List V} {ts us : List (List Int)}, F2 H vs ts → F2 H ws us → F2 H (vs ++ ws) (ts ++ us)
  | _, _, _, _, .nil, r => r
  | _, _, _, _, .cons e q, r => .cons e (q.app r)
theorem F2.take : ∀ {vs : List V} {ts : List (List Int)} (k : Nat), F2 H vs ts → F2 H (vs.take k) (ts.take k)
  | _, _, 0, _ => by rw [List.take_zero, List.take_zero]; exact .nil
  | _, _, _ + 1, .nil => .nil
  | _, _, k + 1, .cons e r => .cons e (r.take k)
theorem F2.drop : ∀ {vs : List V} {ts : List (List Int)} (k : Nat), F2 H vs ts → F2 H (vs.drop k) (ts.drop k)
  | _, _, 0, r => r
  | _, _, _ + 1, .nil => .nil
  | _, _, k + 1, .cons e r => r.drop k
theorem F2.at : ∀ {vs : List V} {ts : List (List Int)} {k : Nat} {ms : List Int}, F2 H vs ts → ts[k]? = some ms → ∃ t, vs[k]? = some (.ref t) ∧ H t = some (.tup (ms.map .int))
  | _, _, _, _, .nil, h => by simp at h
  | _, _, 0, _, .cons e r, h => by
    simp at h
    subst h
    exact ⟨_, rfl, e⟩
  | _, _, k + 1, _, .cons e r, h => by
    obtain ⟨t, h1, h2⟩ := r.at (k := k) (by simpa using h)
    exact ⟨t, by simpa using h1, h2⟩
theorem F2.mono {H' : Hp} (s : ∀ a xs, H a = some (.tup xs) → H' a = some (.tup xs)) : ∀ {vs : List V} {ts : List (List Int)}, F2 H vs ts → F2 H' vs ts
  | _, _, .nil => .nil
  | _, _, .cons e r => .cons (s _ _ e) (r.mono s)
theorem Pick.f2 (pk : Pick L (tps vs ts) A) (s : Seps L H) : F2 H vs ts := by
  obtain ⟨h1, s1, e⟩ := (pk H s).head
  exact e.mono fun a xs q => s1 _ _ q
/-- tuples may be told again -/
theorem ent_tps {R : List HP} (h : ∀ H, Seps L H → F2 H vs ts) (e : Ent L R) : Ent L (tps vs ts :: R) := fun H s => by
  have f := h H s
  refine Seps.impT (fun h q => e h q) (s.more (fun a => match H a with
    | some (.tup xs) => some (.tup xs)
    | _ => none) (fun a o q => ?_) (fun a o q => ?_) (f.mono fun a xs q => by rw [q]))
  · revert q
    dsimp only
    split
    · rename_i ys q1
      intro q2
      rw [q1]
      exact q2
    · intro q; cases q
  · revert q
    split
    · intro q; cases q; rfl
    · intro q; cases q
/-- one of them -/
theorem go_tpsAt {ms : List Int} {k : Nat} {G : Hp → Prop} (pk : Pick L (tps vs ts) A) (hk : ts[k]? = some ms) (hx : ms.map V.int = xs) (g : ∀ t, vs[k]? = some (.ref t) → Go T (pt t (.tup xs) :: L) G) : Go T L G := fun H tt s => by
  subst hx
  obtain ⟨t, h1, h2⟩ := (pk.f2 s).at hk
  refine g t h1 H tt (s.more (upd (fun _ => none) t (.tup (ms.map .int))) (fun a o q => ?_) (fun a o q => ?_) upd_same)
  · by_cases e : a = t
    · subst e; rw [upd_same] at q; cases q; exact h2
    · rw [upd_ne e] at q; cases q
  · by_cases e : a = t
    · subst e; rw [upd_same] at q; cases q; rfl
    · rw [upd_ne e] at q; cases q
theorem go_tpsLen {G : Hp → Prop} (pk : Pick L (tps vs ts) A) (g : vs.length = ts.length → Go T L G) : Go T L G := fun H tt s => g (pk.f2 s).len H tt s
theorem f2_one {t : Addr} (hx : ms.map V.int = xs) (pk : Pick L (pt t (.tup xs)) A) (s : Seps L H) : F2 H [.ref t] [ms] := .cons (by rw [hx]; exact pk.at s) .nil
end

/-! ### == of data -/
def dIs (ns : List Int) : List PyData := ns.map .int
theorem dps_ints {H : Hp} : ∀ ns : List Int, DpAll K H (ns.map .int) (dIs ns)
  | [] => .nil
  | n :: ns => .cons (.int n) (dps_ints ns)
theorem lay_ints : ∀ ns : List Int, PyData.canLayAll0 (dIs ns) = true
  | [] => by simp [dIs, PyData.canLayAll0]
  | n :: ns => by
    have := lay_ints ns
    simp only [dIs] at this
    simp [dIs, PyData.canLayAll0, PyData.canLay0, this]
theorem dep_ints : ∀ ns : List Int, PyData.depthAll (dIs ns) = 0
  | [] => by simp [dIs, PyData.depthAll]
  | n :: ns => by
    have := dep_ints ns
    simp only [dIs] at this
    simp [dIs, PyData.depthAll, PyData.depth, this]
theorem shp_ints (ns : List Int) : SeqAt.shaped (.list (dIs ns)) = true := by
  have h1 := dep_ints ns
  show (PyData.canLay0 (.list (dIs ns)) && decide (PyData.depth (.list (dIs ns)) ≤ 64)) = true
  rw [Bool.and_eq_true]
  exact ⟨by simp only [PyData.canLay0]; exact lay_ints ns, decide_eq_true (by simp only [PyData.depth]; omega)⟩
theorem shp_intsT (ns : List Int) : SeqAt.shaped (.tuple (dIs ns)) = true := by
  have h1 := dep_ints ns
  show (PyData.canLay0 (.tuple (dIs ns)) && decide (PyData.depth (.tuple (dIs ns)) ≤ 64)) = true
  rw [Bool.and_eq_true]
  exact ⟨by simp only [PyData.canLay0]; exact lay_ints ns, decide_eq_true (by simp only [PyData.depth]; omega)⟩
theorem eqv_ints : ∀ ns ms : List Int, PyData.eqvAll (dIs ns) (dIs ms) = decide (ns = ms)
  | [], [] => by simp [dIs, PyData.eqvAll]
  | [], m :: ms => by simp [dIs, PyData.eqvAll]
  | n :: ns, [] => by simp [dIs, PyData.eqvAll]
  | n :: ns, m :: ms => by
    have h := eqv_ints ns ms
    simp only [dIs] at h
    simp only [dIs, List.map_cons, PyData.eqvAll, PyData.eqv, h]
    rw [Bool.eq_iff_iff]
    simp
def dTs (ts : List (List Int)) : List PyData := ts.map fun ms => .tuple (dIs ms)
theorem dps_tups {H : Hp} : ∀ {vs : List V} {ts : List (List Int)}, F2 H vs ts → DpAll K H vs (dTs ts)
  | _, _, .nil => .nil
  | _, _, .cons e r => .cons (.tup (SqT.of e) (dps_ints _)) (dps_tups r)
theorem lay_tups : ∀ ts : List (List Int), PyData.canLayAll0 (dTs ts) = true
  | [] => by simp [dTs, PyData.canLayAll0]
  | t :: ts => by
    have := lay_tups ts
    have h2 := lay_ints t
    simp only [dTs] at this
    simp [dTs, PyData.canLayAll0, PyData.canLay0, this, h2]
theorem dep_tups : ∀ ts : List (List Int), PyData.depthAll (dTs ts) ≤ 1
  | [] => by simp [dTs, PyData.depthAll]
  | t :: ts => by
    have h1 := dep_tups ts
    have h2 := dep_ints t
    simp only [dTs] at h1
    simp only [dTs, List.map_cons, PyData.depthAll, PyData.depth]
    omega
theorem shp_tups (ts : List (List Int)) : SeqAt.shaped (.list (dTs ts)) = true := by
  have h1 := dep_tups ts
  show (PyData.canLay0 (.list (dTs ts)) && decide (PyData.depth (.list (dTs ts)) ≤ 64)) = true
  rw [Bool.and_eq_true]
  exact ⟨by simp only [PyData.canLay0]; exact lay_tups ts, decide_eq_true (by simp only [PyData.depth]; omega)⟩
theorem eqv_tups0 : ∀ ts : List (List Int), PyData.eqvAll (dTs ts) [] = decide (ts = [])
  | [] => by simp [dTs, PyData.eqvAll]
  | t :: ts => by simp [dTs, PyData.eqvAll]
theorem dp_lst {H : Hp} (pk : Pick L (pt a (.lst (ns.map .int))) A) (s : Seps L H) : Dp K H (.ref a) (.list (dIs ns)) := .lst (SqL.of (pk.at s)) (dps_ints ns)
theorem dp_nil {H : Hp} (pk : Pick L (pt a (.lst [])) A) (s : Seps L H) : Dp K H (.ref a) (.list (dIs [])) := .lst (SqL.of (pk.at s)) .nil
theorem dp_tups {H : Hp} {ts : List (List Int)} (pk : Pick L (pt a (.lst vs)) A) (p2 : Pick L (tps vs ts) B) (s : Seps L H) : Dp K H (.ref a) (.list (dTs ts)) := .lst (SqL.of (pk.at s)) (dps_tups (p2.f2 s))
theorem g_eqLL (p1 : Pick L (pt a (.lst (ns.map .int))) A) (p2 : Pick L (pt b (.lst (ms.map .int))) B) (k : Go T L fun H => Q (.bl (decide (ns = ms))) H) : Go T L fun H => rEqX K (.ref a) (.ref b) H Q :=
  g_eqD (fun H s => dp_lst p1 s) (fun H s => dp_lst p2 s) (shp_ints _) (shp_ints _) (by simp only [PyData.eqv, eqv_ints]; exact k)
theorem g_neLL (p1 : Pick L (pt a (.lst (ns.map .int))) A) (p2 : Pick L (pt b (.lst (ms.map .int))) B) (k : Go T L fun H => Q (.bl (!decide (ns = ms))) H) : Go T L fun H => rNeX K (.ref a) (.ref b) H Q :=
  g_neD (fun H s => dp_lst p1 s) (fun H s => dp_lst p2 s) (shp_ints _) (shp_ints _) (by simp only [PyData.eqv, eqv_ints]; exact k)
theorem g_eqL0 (p1 : Pick L (pt a (.lst (ns.map .int))) A) (p2 : Pick L (pt b (.lst [])) B) (k : Go T L fun H => Q (.bl (decide (ns = []))) H) : Go T L fun H => rEqX K (.ref a) (.ref b) H Q :=
  g_eqD (fun H s => dp_lst p1 s) (fun H s => dp_nil p2 s) (shp_ints _) (shp_ints _) (by simp only [PyData.eqv, eqv_ints]; exact k)
theorem g_neL0 (p1 : Pick L (pt a (.lst (ns.map .int))) A) (p2 : Pick L (pt b (.lst [])) B) (k : Go T L fun H => Q (.bl (!decide (ns = []))) H) : Go T L fun H => rNeX K (.ref a) (.ref b) H Q :=
  g_neD (fun H s => dp_lst p1 s) (fun H s => dp_nil p2 s) (shp_ints _) (shp_ints _) (by simp only [PyData.eqv, eqv_ints]; exact k)
theorem g_neT0 {ts : List (List Int)} (p1 : Pick L (pt a (.lst vs)) A) (p3 : Pick L (tps vs ts) D) (p2 : Pick L (pt b (.lst [])) B) (k : Go T L fun H => Q (.bl (!decide (ts = []))) H) : Go T L fun H => rNeX K (.ref a) (.ref b) H Q :=
  g_neD (fun H s => dp_tups p1 p3 s) (fun H s => dp_nil p2 s) (shp_tups _) (shp_ints _) (by
    have e : PyData.eqv (.list (dTs ts)) (.list (dIs [])) = decide (ts = []) := by simp only [PyData.eqv]; exact eqv_tups0 ts
    rw [e]; exact k)
theorem g_neP {i j k l : Int} (p1 : Pick L (pt a (.tup [.int i, .int j])) A) (p2 : Pick L (pt b (.tup [.int k, .int l])) B) (g : Go T L fun H => Q (.bl (!decide ([i, j] = [k, l]))) H) : Go T L fun H => rNeX K (.ref a) (.ref b) H Q :=
  g_neD (d := .tuple (dIs [i, j])) (e := .tuple (dIs [k, l])) (fun H s => .tup (SqT.of (p1.at s)) (dps_ints [i, j])) (fun H s => .tup (SqT.of (p2.at s)) (dps_ints [k, l])) (shp_intsT _) (shp_intsT _) (by simp only [PyData.eqv, eqv_ints]; exact g)
theorem inV_ints (i : Int) (ns : List Int) : inV (.int i) (ns.map .int) = decide (i ∈ ns) := by
  unfold inV
  induction ns with
  | nil => simp
  | cons n ns ih =>
    rw [List.map_cons, List.any_cons, ih]
    show ((n == i) || decide (i ∈ ns)) = decide (i ∈ n :: ns)
    by_cases h : i = n
    · subst h; simp
    · have h' : ¬ n = i := fun e => h e.symm
      simp [h, h']
theorem g_inI (pk : Pick L (pt b (.lst (ns.map .int))) A) (k : Go T L fun H => Q (.bl (decide (i ∈ ns))) H) : Go T L fun H => rIn K false (.int i) (.ref b) H Q := fun H t s =>
  ⟨b, _, rfl, .inl (SqL.of (pk.at s)), rfl, by rw [List.all_map, List.all_eq_true]; exact fun _ _ => rfl, by rw [if_neg (by decide), inV_ints]; exact k H t s⟩

/-! ### slices, sums of mapped lists -/
section
variable {α : Type} {f : α → V} {us ws : List α}
theorem g_slTk (pk : Pick L (pt a (.lst (us.map f))) A) (k : ∀ p, Go T (pt p (.lst ((us.take m).map f)) :: L) fun H => Q (.ref p) H) : Go T L fun H => rSlXX K (.ref a) none (some (m : Int)) H Q :=
  g_slL pk fun p => by rw [cut_take, ← List.map_take]; exact k p
theorem g_slQTk (pk : Pick L (sq K a (us.map f)) A) (k : ∀ p, Go T (pt p (.lst ((us.take m).map f)) :: L) fun H => Q (.ref p) H) : Go T L fun H => rSlXX K (.ref a) none (some (m : Int)) H Q :=
  g_slQ pk fun p => by rw [cut_take, ← List.map_take]; exact k p
theorem g_slDr (pk : Pick L (pt a (.lst (us.map f))) A) (k : ∀ p, Go T (pt p (.lst ((us.drop m).map f)) :: L) fun H => Q (.ref p) H) : Go T L fun H => rSlXX K (.ref a) (some (m : Int)) none H Q :=
  g_slL pk fun p => by rw [cut_drop, ← List.map_drop]; exact k p
theorem g_addM {l q : Addr} (p1 : Pick L (pt l (.lst (us.map f))) A) (p2 : Pick L (pt q (.lst (ws.map f))) B) (hl : us.length + ws.length ≤ sizeLine) (k : ∀ p, Go T (pt p (.lst ((us ++ ws).map f)) :: L) fun H => Q (.ref p) H) : Go T L fun H => rAddX K (.ref l) (.ref q) H Q :=
  g_addL p1 p2 (by rw [List.length_map, List.length_map]; exact hl) fun p => by rw [← List.map_append]; exact k p
end
theorem g_pop0 {α : Type} {f : α → V} {u : α} {us : List α} (pk : Pick L (pt a (.lst ((u :: us).map f))) A) (k : Go T (pt a (.lst (us.map f)) :: A) fun H => Q (f u) H) : Go T L fun H => rPopAt (.ref a) [.int 0] H Q :=
  g_popAt (m := 0) pk (by decide) (by decide) (by simp [seqIndex?]) rfl k
/-! ### chunks of one kind -/
theorem seps_snoc {c : HP} {R : List HP} : Ent (c :: Seps A :: R) (Seps (A ++ [c]) :: R) := fun H s => by
  have h := Seps.paste s.swap
  have e : A ++ c :: R = (A ++ [c]) ++ R := by simp
  rw [e] at h
  exact Seps.cut h
theorem seps_head {c : HP} {R : List HP} : Ent (Seps (c :: A) :: R) (c :: Seps A :: R) := fun H s => by
  have h : Seps ((c :: A) ++ R) H := Seps.paste s
  exact Seps.impT (fun _ z => Seps.cut z) h
theorem ent_seps0 {R : List HP} : Ent R (Seps [] :: R) := fun H s => Seps.cut (L1 := []) s
/-! ### ranges made lists, three at once -/
def lRgL (Q : VK) (a b : Int) (H : Hp) : Prop := RgOk a b ∧ ∀ q, H q = none → Q (.ref q) (upd H q (.lst (rgV a b)))
theorem g_listRg {te : L2.St → Hp → (Int → Int → Hp → Prop) → Prop} (k : Go T L fun H => te σ H (lRgL Q)) : Go T L fun H => tLstRg te σ H Q := k
def lRg1 (R : Int → Int → Hp → Prop) (x : V) (H : Hp) : Prop := ∃ n, x = .int n ∧ R 0 n H
theorem g_rg1E {R : Int → Int → Hp → Prop} (k : Go T L fun H => ta σ H (lRg1 R)) : Go T L fun H => tRg1 ta σ H R := k
theorem g_rg1 {R : Int → Int → Hp → Prop} (k : Go T L fun H => R 0 i H) : Go T L fun H => lRg1 R (.int i) H := fun H t s => ⟨i, rfl, k H t s⟩
def natI (n : Nat) : List Int := (List.range n).map Int.ofNat
theorem rgV_nat {n : Nat} : rgV 0 (n : Int) = (natI n).map V.int := by
  unfold rgV natI
  simp
theorem g_rgN (h : n ≤ 16777216) (k : ∀ p, Go T (pt p (.lst ((natI n).map V.int)) :: L) fun H => Q (.ref p) H) : Go T L fun H => lRgL Q 0 (n : Int) H := fun H t s =>
  ⟨RgOk.of_le (by omega) (by omega) (by omega) (by omega), by rw [rgV_nat]; exact (go_new (P := fun p => pt p (.lst ((natI n).map V.int))) rfl (fun _ _ e => e) k) H t s⟩
theorem g_rgL (h : RgOk i j) (k : ∀ p, Go T (pt p (.lst (rgV i j)) :: L) fun H => Q (.ref p) H) : Go T L fun H => lRgL Q i j H := fun H t s => ⟨h, (go_new (P := fun p => pt p (.lst (rgV i j))) rfl (fun _ _ e => e) k) H t s⟩
theorem g_par3 {m q l : Nat} {tr : TA} (k : Go T L fun H => tr σ H fun vs H1 => ∃ u v w, vs = [u, v, w] ∧ N0 (((σ.set m (some u)).set q (some v)).set l (some w)) H1) : Go T L fun H => tPar3 m q l tr ⟨N0, R0, B0, C0⟩ σ H := k
theorem g_par3b {F : V → V → V → Hp → Prop} (k : Go T L fun H => F x y z H) : Go T L fun H => ∃ u v w, [x, y, z] = [u, v, w] ∧ F u v w H := fun H t s => ⟨x, y, z, rfl, k H t s⟩
end
end Dh

/-! The layer Dh, part G: shorter ways through comprehensions and tests. -/
namespace Dh
open PySem PySem.Spec PyProof.Rows L2
section
variable {T : List (Addr × Str)} {L L0 A : List HP} {σ : L2.St} {Q : VK} {K : PySem.W.Frag} {n : Nat} {te : TE} {tt : TT} {g : TG} {vs : List Nat} {a : Addr} {xs : List V} {x y : V} {b : Bool}
/-- the branch that stays is shown first and may be leant on in the other -/
theorem g_ifDE {c : Prop} [Decidable c] {A B : Hp → Prop} (h2 : Go T L B) (h1 : c → Go T L B → Go T L A) : Go T L fun H => if decide c = true then A H else B H := g_ifD (fun h => h1 h h2) (fun _ => h2)
/-- a comprehension over a range whose turns leave the chunks as they are -/
def IF (f : Nat → V) (L0 : List HP) : CI := fun j acc L => acc = (List.range j).map f ∧ Ent L L0
theorem g_lcRf {lo : Int} (f : Nat → V) (h0 : Ent L L0) (hs : ∀ D i, i < n → Go T (pt D (.lst ((List.range i).map f)) :: L0) (LcTurn T D (IF f L0) i g tt te vs σ (.int (lo + i))))
    (hd : ∀ D, Go T (pt D (.lst ((List.range n).map f)) :: L0) fun H => Q (.ref D) H) : Go T L fun H => LcG (Itr lo n) g tt te vs σ Q H :=
  g_lcR (IF f L0) ⟨rfl, h0⟩ (fun D i acc L hi h => by obtain ⟨rfl, e⟩ := h; exact (hs D i hi).ent (ent_tail e)) (fun D acc L h => by obtain ⟨rfl, e⟩ := h; exact (hd D).ent (ent_tail e))
theorem g_lcPut {f : Nat → V} {D : Addr} {i : Nat} (pk : Pick L (pt D (.lst ((List.range i).map f))) A) (hl : i < sizeLine) (hy : y = f i) (e : Ent A L0) : Go T L fun H => LcAdd T D (IF f L0) (i + 1) y H :=
  g_lcAdd pk (by rw [List.length_map, List.length_range]; exact hl) ⟨by rw [hy, List.range_succ, List.map_append]; rfl, e⟩
/-- .. over a list of mapped things -/
def IM {α : Type} (us : List α) (f : α → V) (L0 : List HP) : CI := fun j acc L => acc = (us.take j).map f ∧ Ent L L0
theorem g_lcMf {α : Type} {us : List α} {gx : α → V} (f : α → V) (h0 : Ent L L0) (pk : Pick L0 (pt a (.lst (us.map gx))) A) (hs : ∀ D i u, us[i]? = some u → Go T (pt D (.lst ((us.take i).map f)) :: L0) (LcTurn T D (IM us f L0) i g tt te vs σ (gx u)))
    (hd : ∀ D, Go T (pt D (.lst (us.map f)) :: L0) fun H => Q (.ref D) H) : Go T L fun H => LcG (Itl K a) g tt te vs σ Q H :=
  g_lcL (IM us f L0) ⟨rfl, h0⟩ (fun i acc L h => h.2.has pk) (fun D i x acc L hx h => by
    obtain ⟨rfl, e⟩ := h
    rw [List.getElem?_map] at hx
    obtain ⟨u, hu, rfl⟩ := Option.map_eq_some_iff.mp hx
    exact (hs D i u hu).ent (ent_tail e)) (fun D acc L h => by
    obtain ⟨rfl, e⟩ := h
    rw [List.length_map, List.take_length]
    exact (hd D).ent (ent_tail e))
theorem g_lcPutM {α : Type} {us : List α} {u : α} {f : α → V} {D : Addr} {i : Nat} (hu : us[i]? = some u) (pk : Pick L (pt D (.lst ((us.take i).map f))) A) (hl : us.length < sizeLine) (hy : y = f u) (e : Ent A L0) : Go T L fun H => LcAdd T D (IM us f L0) (i + 1) y H :=
  g_lcAdd pk (by rw [List.length_map, List.length_take]; omega) ⟨by rw [hy, List.take_add_one, hu, List.map_append]; rfl, e⟩
end
end Dh

/-! The layer Dh, part H: from what the head tells to what the walk takes. -/
namespace Dh
open PySem PySem.Spec PyProof.Rows L2
section
variable {P : Program} {w : World} {K : PySem.W.Frag} {mg : Str → Option Value} {base h : Heap} {x qual m : Str} {st : Stmt} {f C : Addr} {fd : FuncData} {ps : List Str} {k : Nat} {sp : Sp}
abbrev FunX (K : PySem.W.Frag) (x qual : Str) (st : Stmt) (f : Addr) (fd : FuncData) : Prop := FunD K x qual (defArgs st) (defBody st) (defScope st) [] [] f fd
def dd (at_ : Str × Option Str) (x qual : Str) (st : Stmt) : He.DefD := ⟨at_, x, qual, defArgs st, defBody st, defScope st, [], []⟩
theorem FunX.parts (F : FunX K x qual st f fd) : ∃ (oc : Value) (od : Option Addr) (kV doc pm : Value) (an : Option Addr) (cdv ct : Value) (osl : Array (Option Value)),
    fd = PySem.W.fnOf x qual (defArgs st) (defBody st) (defScope st) .none kV doc pm an cdv ct ∧ K.lookup f = some ⟨oc, od, .func fd, osl⟩ ∧ PySem.W.codeIn K cdv qual = true := by
  obtain ⟨oc, od, dV, kV, doc, pm, an, cdv, ct, osl, e, lk, hcd, hD, _⟩ := F.ex
  rcases hD with ⟨_, rfl⟩ | ⟨z, _⟩
  · exact ⟨oc, od, kV, doc, pm, an, cdv, ct, osl, e, lk, hcd⟩
  · exact absurd rfl z
theorem FunX.c (F : FunX K x qual st f fd) : ∃ cdv, FunC K x qual st f fd cdv := by
  obtain ⟨oc, od, kV, doc, pm, an, cdv, ct, osl, e, lk, hcd⟩ := F.parts
  exact ⟨cdv, oc, od, kV, doc, pm, an, ct, osl, e, lk, hcd⟩
theorem FunX.r {p : Str × Option Str} (F : FunX K x qual st (He.fAd K p) fd) : FunC K x qual st (He.fAd K p) fd (.ref (He.cT K p).1) := by
  obtain ⟨oc, od, kV, doc, pm, an, cdv, ct, osl, e, lk, hcd⟩ := F.parts
  obtain ⟨c, rfl⟩ := He.codeIn_ref hcd
  have ec : (He.cT K p).1 = c := He.codeOf_eq lk (by rw [e])
  rw [ec]
  exact ⟨oc, od, kV, doc, pm, an, ct, osl, e, lk, hcd⟩
theorem FunX.told (F : FunX K x x st f fd) (hm : mg x = some (.ref f)) : ToldX K mg x st f := by
  obtain ⟨oc, od, kV, doc, pm, an, cdv, ct, osl, rfl, lk, hcd⟩ := F.parts
  exact ⟨⟨oc, od, kV, doc, pm, an, cdv, ct, osl, lk, hcd⟩, hm, F.kp⟩
theorem cal_of (F : FunX K x x st f fd) (ok : FnOk P w K mg base (L2.CX P w) k f fd ps sp) (hm : mg x = some (.ref f)) (b : Binds K fd ps []) : CalX P w K mg base k x sp := ⟨f, fd, ps, ok, hm, F.kp, b⟩
theorem met_of (ok : FnOk P w K mg base (L2.CX P w) k f fd ps sp) (c : Cls K C) (hm : Meth K C m f) (b : Binds K fd ps []) : MetX P w K mg base k C m sp := ⟨f, fd, ps, c, hm, ok, b⟩
theorem mak_of (ok : FnOk P w K mg base (L2.CX P w) k f fd ps sp) (hk : Mk K C f) (hm : mg x = some (.ref C)) (b : Binds K fd ps []) : MakX P w K mg base k x C sp := ⟨f, fd, ps, hk, ok, hm, b⟩
theorem exc_of (X : K.In h) (G : h.Ns mainGlobals mg) (c : (He.Fa.exc x).ok K = true) (g : (He.Fa.glo x).ok K = true) : ExcX K mg x (He.ga K x) := by
  obtain ⟨h1, h2, h3, h4⟩ := He.exc_ok c
  exact ⟨He.glo_ok X G g, h1, h2, h3, h4⟩
end
/-- the tables of the defs tf, and what their lambdas are called -/
def tabs (K : PySem.W.Frag) (tf : List He.Defn) : List (Addr × Str) := tf.map fun p => ((He.cT K p).2, lamQ (locQ (match p.2 with
  | none => p.1
  | some m => p.1 ++ "." ++ m)))
def apart : List Addr → Bool
  | [] => true
  | a :: r => !r.contains a && apart r
def apartB (tf : List He.Defn) (K : PySem.W.Frag) : Bool := apart (tf.map fun p => (He.cT K p).2)
theorem apart_in {α : Type} {f : α → Addr} {g : α → Str} : ∀ {l : List α}, apart (l.map f) = true → ∀ x ∈ l, ∀ p ∈ l.map fun y => (f y, g y), p.1 = f x → p.2 = g x
  | [], _, x, hx, _, _, _ => by cases hx
  | a :: r, h, x, hx, p, hp, e => by
    rw [List.map_cons, apart, Bool.and_eq_true, Bool.not_eq_true', List.contains_eq_mem, decide_eq_false_iff_not] at h
    rw [List.map_cons] at hp
    rcases List.mem_cons.mp hp with rfl | hp2
    · rcases List.mem_cons.mp hx with rfl | hx2
      · rfl
      · exact absurd (List.mem_map.mpr ⟨x, hx2, e.symm⟩) h.1
    · rcases List.mem_cons.mp hx with rfl | hx2
      · obtain ⟨y, hy, rfl⟩ := List.mem_map.mp hp2
        exact absurd (List.mem_map.mpr ⟨y, hy, e⟩) h.1
      · exact apart_in h.2 x hx2 p hp2 e
theorem tabs_mem {K : PySem.W.Frag} {tf : List He.Defn} {p : He.Defn} (hp : p ∈ tf) : ((He.cT K p).2, lamQ (locQ (match p.2 with
  | none => p.1
  | some m => p.1 ++ "." ++ m))) ∈ tabs K tf := List.mem_map.mpr ⟨p, hp, rfl⟩
theorem tabs_one {K : PySem.W.Frag} {tf : List He.Defn} {p : He.Defn} (h : apartB tf K = true) (hp : p ∈ tf) : ∀ q ∈ tabs K tf, q.1 = (He.cT K p).2 → q.2 = lamQ (locQ (match p.2 with
  | none => p.1
  | some m => p.1 ++ "." ++ m)) := fun q hq e => apart_in (f := fun p => (He.cT K p).2) (g := fun p : He.Defn => lamQ (locQ (match p.2 with
  | none => p.1
  | some m => p.1 ++ "." ++ m))) h p hp q hq e
theorem tabs_empty {K : PySem.W.Frag} {tf : List He.Defn} {H : Hp} (h : ∀ p ∈ tf.map (He.cT K), H p.2 = some (.tbl #[])) : LamX.Tabs (tabs K tf) H := tabs_nil fun q hq => by
  obtain ⟨p, hp, rfl⟩ := List.mem_map.mp hq
  exact h _ (List.mem_map.mpr ⟨p, hp, rfl⟩)
end Dh

section
local macro_rules | `(tactic| walk_at "pk") => `(tactic| (with_reducible first | exact Dh.pick_here | (refine' Dh.pick_there ?p; (case p => walk_at "pk"))))
local macro_rules | `(tactic| walk_at "ent") => `(tactic| first | (with_reducible exact Dh.ent_refl) | (with_reducible exact Dh.ent_nil) | (refine' Dh.ent_cons ?q0 ?k; (case q0 => walk_at "pk"); (case k => walk_at "ent")) | (refine' Dh.ent_drop ?k; (case k => walk_at "ent")))
local macro_rules | `(tactic| walk_at "side") => `(tactic| first | omega | decide | (simp only [L2.CMul, L2.CDiv, L2.CDivN]; omega) | (unfold L2.CPow; decide) | (simp only [List.length_cons, List.length_nil, List.length_append, List.length_map, List.length_range, List.length_replicate, List.length_set, List.length_take, List.length_drop, PySem.sizeLine_eq] <;> omega))
local macro_rules | `(tactic| walk_at "ixs") => `(tactic| first | assumption | omega | (simp only [List.length_set, List.length_map, List.length_cons, List.length_nil, List.length_append, List.length_replicate] <;> first | assumption | omega))
local macro_rules | `(tactic| walk_at "lk") => `(tactic| first | rfl | assumption | (exact Dh.ixN_lt (by walk_at "ixs")) | (exact Dh.atI_lt (by assumption)) )
local macro_rules | `(tactic| walk_at "pf") => `(tactic| first  | rfl)
local macro_rules | `(tactic| walk_at "ln") => `(tactic| first  | decide | (simp only [List.length_cons, List.length_nil] <;> omega))
local macro_rules | `(tactic| walk_at "hasm") => `(tactic| first | (refine' Dh.hasM_ob ?q0 ?q1; (case q0 => walk_at "pk"); (case q1 => walk_at "lk")))
local macro_rules | `(tactic| walk_at "vcp0") => `(tactic| first | ((with_reducible refine' Dh.g_seq ?k)) | ((with_reducible refine' Dh.g_next ?k)) | ((with_reducible refine' Dh.g_nonA ?k)) | ((with_reducible refine' Dh.g_var ?q0 ?k); (case q0 => rfl)) | ((with_reducible refine' Dh.g_c ?k)) | ((with_reducible refine' Dh.g_op ?k)) | ((with_reducible refine' Dh.g_asg ?k)) | ((with_reducible refine' Dh.g_name ?k)) | ((with_reducible refine' Dh.g_ifS ?k)) | ((with_reducible refine' Dh.g_test ?k)) | ((with_reducible refine' Dh.g_isB ?k)) | ((with_reducible refine' Dh.g_B ?k)) | ((with_reducible refine' Dh.g_ret ?k)) | ((with_reducible refine' Dh.g_retN ?k)) | ((with_reducible refine' Dh.g_drop ?k)) | ((with_reducible refine' Dh.g_brk ?k)) | ((with_reducible refine' Dh.g_cont ?k)) | ((with_reducible refine' Dh.g_un ?k)) | ((with_reducible refine' Dh.g_I0 ?k)) | ((with_reducible refine' Dh.g_addI ?k)) | ((with_reducible refine' Dh.g_addB ?k)) | ((with_reducible refine' Dh.g_addS ?q0 ?k); (case q0 => walk_at "side")) | ((with_reducible refine' Dh.g_addM ?q0 ?q1 ?q2 ?k); (case q0 => walk_at "pk"); (case q1 => walk_at "pk"); (case q2 => walk_at "side"); intro _) | ((with_reducible refine' Dh.g_addL ?q0 ?q1 ?q2 ?k); (case q0 => walk_at "pk"); (case q1 => walk_at "pk"); (case q2 => walk_at "side"); intro _))
local macro_rules | `(tactic| walk_at "vcp1") => `(tactic| first | ((with_reducible refine' Dh.g_I ?q0 ?k); (case q0 => walk_at "side")) | ((with_reducible refine' Dh.g_mulI ?q0 ?k); (case q0 => walk_at "side")) | ((with_reducible refine' Dh.g_U ?k)) | ((with_reducible refine' Dh.g_eqS ?q0 ?k); (case q0 => rfl)) | ((with_reducible refine' Dh.g_neS ?q0 ?k); (case q0 => rfl)) | ((with_reducible refine' Dh.g_eqLL ?q0 ?q1 ?k); (case q0 => walk_at "pk"); (case q1 => walk_at "pk")) | ((with_reducible refine' Dh.g_neLL ?q0 ?q1 ?k); (case q0 => walk_at "pk"); (case q1 => walk_at "pk")) | ((with_reducible refine' Dh.g_eqL0 ?q0 ?q1 ?k); (case q0 => walk_at "pk"); (case q1 => walk_at "pk")) | ((with_reducible refine' Dh.g_neL0 ?q0 ?q1 ?k); (case q0 => walk_at "pk"); (case q1 => walk_at "pk")) | ((with_reducible refine' Dh.g_neT0 ?q0 ?q1 ?q2 ?k); (case q0 => walk_at "pk"); (case q1 => walk_at "pk"); (case q2 => walk_at "pk")) | ((with_reducible refine' Dh.g_neP ?q0 ?q1 ?k); (case q0 => walk_at "pk"); (case q1 => walk_at "pk")) | ((with_reducible refine' Dh.g_inI ?q0 ?k); (case q0 => walk_at "pk")) | ((with_reducible refine' Dh.g_isN ?k)) | ((with_reducible refine' Dh.g_notN ?k)) | ((with_reducible refine' Dh.g_ixL ?q0 ?q1 ?k); (case q0 => walk_at "pk"); (case q1 => walk_at "lk")) | ((with_reducible refine' Dh.g_ixT ?q0 ?q1 ?k); (case q0 => walk_at "pk"); (case q1 => walk_at "lk")) | ((with_reducible refine' Dh.g_sl ?k)) | ((with_reducible refine' Dh.g_noPart ?k)) | ((with_reducible refine' Dh.g_part ?k)) | ((with_reducible refine' Dh.g_isSomeInt ?k)) | ((with_reducible refine' Dh.g_slTk ?q0 ?k); (case q0 => walk_at "pk"); intro _) | ((with_reducible refine' Dh.g_slDr ?q0 ?k); (case q0 => walk_at "pk"); intro _) | ((with_reducible refine' Dh.g_slL ?q0 ?k); (case q0 => walk_at "pk"); intro _) | ((with_reducible refine' Dh.g_slQTk ?q0 ?k); (case q0 => walk_at "pk"); intro _))
local macro_rules | `(tactic| walk_at "vcp2") => `(tactic| first | ((with_reducible refine' Dh.g_slQ ?q0 ?k); (case q0 => walk_at "pk"); intro _) | ((with_reducible refine' Dh.g_fldE ?k)) | ((with_reducible refine' Dh.g_fld ?q0 ?q1 ?k); (case q0 => walk_at "pk"); (case q1 => walk_at "lk")) | ((with_reducible refine' Dh.g_tup ?k)) | ((with_reducible refine' Dh.g_lst ?k)) | ((with_reducible refine' Dh.g_newT ?q0 ?k); (case q0 => walk_at "side"); intro _) | ((with_reducible refine' Dh.g_newL ?q0 ?k); (case q0 => walk_at "side"); intro _) | ((with_reducible refine' Dh.g_nil ?k)) | ((with_reducible refine' Dh.g_cons ?k)) | ((with_reducible refine' Dh.g_call ?k)) | ((with_reducible refine' Dh.g_methE ?k)) | ((with_reducible refine' Dh.g_meth ?q0 ?k); (case q0 => walk_at "hasm")) | ((with_reducible refine' Dh.g_make ?k)) | ((with_reducible refine' Dh.g_made ?k); intro _) | ((with_reducible refine' Dh.g_cb ?k)) | ((with_reducible refine' Dh.g_int ?k)) | ((with_reducible refine' Dh.g_intB ?k)) | ((with_reducible refine' Dh.g_abs ?k)) | ((with_reducible refine' Dh.g_max2 ?k)) | ((with_reducible refine' Dh.g_min2 ?k)) | ((with_reducible refine' Dh.g_strI ?q0 ?k); (case q0 => walk_at "side")) | ((with_reducible refine' Dh.g_lenL ?q0 ?k); (case q0 => walk_at "pk")) | ((with_reducible refine' Dh.g_lenT ?q0 ?k); (case q0 => walk_at "pk")) | ((with_reducible refine' Dh.g_lenD ?q0 ?k); (case q0 => walk_at "pk")))
local macro_rules | `(tactic| walk_at "vcp3") => `(tactic| first | ((with_reducible refine' Dh.g_listL ?q0 ?k); (case q0 => walk_at "pk"); intro _) | ((with_reducible refine' Dh.g_listT ?q0 ?k); (case q0 => walk_at "pk"); intro _) | ((with_reducible refine' Dh.g_tupL ?q0 ?k); (case q0 => walk_at "pk"); intro _) | ((with_reducible refine' Dh.g_tupT ?q0 ?k); (case q0 => walk_at "pk")) | ((with_reducible refine' Dh.g_pop0 ?q0 ?k); (case q0 => walk_at "pk")) | ((with_reducible refine' Dh.g_bm ?k)) | ((with_reducible refine' Dh.g_bm0 ?k)) | ((with_reducible refine' Dh.g_tyL ?q0 ?k); (case q0 => walk_at "pk")) | ((with_reducible refine' Dh.g_append ?q0 ?q1 ?k); (case q0 => walk_at "pk"); (case q1 => walk_at "side")) | ((with_reducible refine' Dh.g_rep ?q0 ?q1 ?q2 ?q3 ?k); (case q0 => walk_at "pk"); (case q1 => walk_at "side"); (case q2 => walk_at "side"); (case q3 => walk_at "side"); intro _) | ((with_reducible refine' Dh.g_not ?k)) | ((with_reducible refine' Dh.g_tand ?k)) | ((with_reducible refine' Dh.g_tor ?k)) | ((with_reducible refine' Dh.g_andV ?k)) | ((with_reducible refine' Dh.g_orV ?k)) | ((with_reducible refine' Dh.g_notV ?k)) | ((with_reducible refine' Dh.g_ifE ?k)) | ((with_reducible refine' Dh.g_chain ?k)) | ((with_reducible refine' Dh.g_tru ?k)) | ((with_reducible refine' Dh.g_truB ?k)) | ((with_reducible refine' Dh.g_truI ?k)) | ((with_reducible refine' Dh.g_truN ?k)) | ((with_reducible refine' Dh.g_truL ?q0 ?k); (case q0 => walk_at "pk")) | ((with_reducible refine' Dh.g_gsub ?k)))
local macro_rules | `(tactic| walk_at "vcp4") => `(tactic| first | ((with_reducible refine' Dh.g_setL ?q0 ?q1 ?k); (case q0 => walk_at "pk"); (case q1 => walk_at "lk")) | ((with_reducible refine' Dh.g_gtup ?q0 ?q1 ?k); (case q0 => walk_at "pk"); (case q1 => rfl)) | ((with_reducible refine' Dh.g_gnil ?k)) | ((with_reducible refine' Dh.g_gcons ?k)) | ((with_reducible refine' Dh.g_par ?k)) | ((with_reducible refine' Dh.g_par2 ?k)) | ((with_reducible refine' Dh.g_par3 ?k)) | ((with_reducible refine' Dh.g_par3b ?k)) | ((with_reducible refine' Dh.g_listRg ?k)) | ((with_reducible refine' Dh.g_rg1E ?k)) | ((with_reducible refine' Dh.g_rg1 ?k)) | ((with_reducible refine' Dh.g_rgN ?q0 ?k); (case q0 => walk_at "side"); intro _) | ((with_reducible refine' Dh.g_rgL ?q0 ?k); (case q0 => walk_at "side"); intro _) | ((with_reducible refine' Dh.g_dinE ?k)) | ((with_reducible refine' Dh.g_dinI ?q0 ?k); (case q0 => walk_at "pk")) | ((with_reducible refine' Dh.g_dnotinE ?k)) | ((with_reducible refine' Dh.g_dnotinI ?q0 ?k); (case q0 => walk_at "pk")) | ((with_reducible refine' Dh.g_dgetE ?k)) | ((with_reducible refine' Dh.g_dgetI ?q0 ?q1 ?k); (case q0 => walk_at "pk"); (case q1 => walk_at "lk")) | ((with_reducible refine' Dh.g_dputE ?k)) | ((with_reducible refine' Dh.g_dputI ?q0 ?q1 ?k); (case q0 => walk_at "pk"); (case q1 => walk_at "side")) | ((with_reducible refine' Dh.g_dpopE ?k)) | ((with_reducible refine' Dh.g_dpopA ?q0 ?k); (case q0 => walk_at "pk")) | ((with_reducible refine' Dh.g_dpopB ?q0 ?q1 ?k); (case q0 => walk_at "pk"); (case q1 => walk_at "lk")))
local macro_rules | `(tactic| walk_at "vcp5") => `(tactic| first | ((with_reducible refine' Dh.g_dnew ?k); intro _) | ((with_reducible refine' Dh.g_ipMul ?q0 ?k); (case q0 => walk_at "side")) | ((with_reducible refine' Dh.g_sfldE ?k)) | ((with_reducible refine' Dh.g_sfld ?q0 ?q1 ?q2 ?k); (case q0 => walk_at "pk"); (case q1 => walk_at "pf"); (case q2 => walk_at "ln")) | ((with_reducible refine' Dh.g_augE ?k)) | ((with_reducible refine' Dh.g_augF ?q0 ?q1 ?k); (case q0 => walk_at "pk"); (case q1 => walk_at "lk")) | ((with_reducible refine' Dh.g_augV ?q0 ?k); (case q0 => rfl)) | ((with_reducible refine' Dh.g_ipI ?k)) | ((with_reducible refine' Dh.g_rAdd ?k)) | ((with_reducible refine' Dh.g_rSub ?k)) | ((with_reducible refine' Dh.g_for ?k)) | ((with_reducible refine' Dh.g_iRng1 ?k)) | ((with_reducible refine' Dh.g_iRng2 ?k)) | ((with_reducible refine' Dh.g_rng1 ?q0 ?q1 ?k); (case q0 => walk_at "side"); (case q1 => walk_at "side")) | ((with_reducible refine' Dh.g_rng2 ?q0 ?k); (case q0 => walk_at "side")) | ((with_reducible refine' Dh.g_iSeqE ?k)) | ((with_reducible refine' Dh.g_iSeqL ?q0 ?k); (case q0 => walk_at "pk")) | ((with_reducible refine' Dh.g_iSeqT ?q0 ?k); (case q0 => walk_at "pk")) | ((with_reducible refine' Dh.g_wbody ?k)) | ((with_reducible refine' Dh.g_lcE ?k)) | ((with_reducible refine' Dh.g_turn ?k)) | ((with_reducible refine' Dh.g_tYes ?k)) | ((with_reducible refine' Dh.g_rs ?k)) | ((with_reducible refine' Dh.g_rsW ?k)))
local macro_rules | `(tactic| walk_at "vcp6") => `(tactic| first | ((with_reducible refine' Dh.g_told ?k)) | ((with_reducible refine' Dh.g_ifT ?q0 ?k); (case q0 => rfl)) | ((with_reducible refine' Dh.g_ifF ?q0 ?k); (case q0 => rfl)))
local macro_rules | `(tactic| walk_at "vc1") => `(tactic| first | walk_at "vcp0" | walk_at "vcp1" | walk_at "vcp2" | walk_at "vcp3" | walk_at "vcp4" | walk_at "vcp5" | walk_at "vcp6")
local macro_rules | `(tactic| walk_at "vc") => `(tactic| repeat walk_at "vc1")
local macro_rules | `(tactic| walk_at "spl") => `(tactic| first | ((with_reducible refine Dh.g_ifD ?_ ?_) <;> intro _) | ((with_reducible refine Dh.g_ifN ?_ ?_) <;> intro _) | ((with_reducible refine Dh.g_if ?_ ?_) <;> intro _))
local macro_rules | `(tactic| walk_at "vcs") => `(tactic| repeat' (first | walk_at "vc1" | walk_at "spl"))
namespace Toy
open PySem L2
section
variable {P : Program} {w : World} {K : PySem.W.Frag} {mg : Str → Option Value} {base : Heap} {T : List (Addr × Str)} {C_Ring C_Queue C_Pipe C_BadWord C_BadPlace C_BadPlan C_NotDue C_Stuck C_BadBits C_BadText C_TooLarge g_told : Addr}
def top (i : Nat) : Stmt := PySem.Challenge.pw_drivehall_k06_rings_and_pipes.main.body.getD i (.Pass ⟨0, 0, 0, 0⟩)
abbrev s_Ring___init__ : Stmt := inClass (top 11) 0
abbrev N_Ring___init__ : List Str := ["self", "many"]
theorem sc_Ring___init__ : FnScope N_Ring___init__ ["self", "many"] (defScope s_Ring___init__) := ⟨rfl, rfl, rfl, by decide +kernel, rfl, by decide +kernel, by decide +kernel⟩
abbrev s_Queue___init__ : Stmt := inClass (top 12) 0
abbrev N_Queue___init__ : List Str := ["self", "many", "round_at"]
theorem sc_Queue___init__ : FnScope N_Queue___init__ ["self", "many", "round_at"] (defScope s_Queue___init__) := ⟨rfl, rfl, rfl, by decide +kernel, rfl, by decide +kernel, by decide +kernel⟩
abbrev s_Pipe___init__ : Stmt := inClass (top 13) 0
abbrev N_Pipe___init__ : List Str := ["self", "many"]
theorem sc_Pipe___init__ : FnScope N_Pipe___init__ ["self", "many"] (defScope s_Pipe___init__) := ⟨rfl, rfl, rfl, by decide +kernel, rfl, by decide +kernel, by decide +kernel⟩
abbrev s_Ring_fill : Stmt := inClass (top 11) 1
abbrev N_Ring_fill : List Str := ["self", "what", "at"]
theorem sc_Ring_fill : FnScope N_Ring_fill ["self", "what"] (defScope s_Ring_fill) := ⟨rfl, rfl, rfl, by decide +kernel, rfl, by decide +kernel, by decide +kernel⟩
abbrev s_Ring_work : Stmt := inClass (top 11) 2
abbrev N_Ring_work : List Str := ["self", "at"]
theorem sc_Ring_work : FnScope N_Ring_work ["self"] (defScope s_Ring_work) := ⟨rfl, rfl, rfl, by decide +kernel, rfl, by decide +kernel, by decide +kernel⟩
abbrev s_Ring_reap : Stmt := inClass (top 11) 3
abbrev N_Ring_reap : List Str := ["self", "at"]
theorem sc_Ring_reap : FnScope N_Ring_reap ["self"] (defScope s_Ring_reap) := ⟨rfl, rfl, rfl, by decide +kernel, rfl, by decide +kernel, by decide +kernel⟩
abbrev s_Ring_left_room : Stmt := inClass (top 11) 4
abbrev N_Ring_left_room : List Str := ["self"]
theorem sc_Ring_left_room : FnScope N_Ring_left_room ["self"] (defScope s_Ring_left_room) := ⟨rfl, rfl, rfl, by decide +kernel, rfl, by decide +kernel, by decide +kernel⟩
abbrev s_Queue_give : Stmt := inClass (top 12) 1
abbrev N_Queue_give : List Str := ["self", "what", "place"]
theorem sc_Queue_give : FnScope N_Queue_give ["self", "what"] (defScope s_Queue_give) := ⟨rfl, rfl, rfl, by decide +kernel, rfl, by decide +kernel, by decide +kernel⟩
abbrev s_Queue_untaken : Stmt := inClass (top 12) 2
abbrev N_Queue_untaken : List Str := ["self"]
theorem sc_Queue_untaken : FnScope N_Queue_untaken ["self"] (defScope s_Queue_untaken) := ⟨rfl, rfl, rfl, by decide +kernel, rfl, by decide +kernel, by decide +kernel⟩
abbrev s_Queue_take : Stmt := inClass (top 12) 3
abbrev N_Queue_take : List Str := ["self", "place"]
theorem sc_Queue_take : FnScope N_Queue_take ["self"] (defScope s_Queue_take) := ⟨rfl, rfl, rfl, by decide +kernel, rfl, by decide +kernel, by decide +kernel⟩
abbrev s_Queue_use : Stmt := inClass (top 12) 4
abbrev N_Queue_use : List Str := ["self", "place", "much"]
theorem sc_Queue_use : FnScope N_Queue_use ["self", "place", "much"] (defScope s_Queue_use) := ⟨rfl, rfl, rfl, by decide +kernel, rfl, by decide +kernel, by decide +kernel⟩
abbrev s_Queue_reap : Stmt := inClass (top 12) 5
abbrev N_Queue_reap : List Str := ["self", "place", "much"]
theorem sc_Queue_reap : FnScope N_Queue_reap ["self"] (defScope s_Queue_reap) := ⟨rfl, rfl, rfl, by decide +kernel, rfl, by decide +kernel, by decide +kernel⟩
abbrev s_Queue_needs_call : Stmt := inClass (top 12) 6
abbrev N_Queue_needs_call : List Str := ["self", "before", "mark"]
theorem sc_Queue_needs_call : FnScope N_Queue_needs_call ["self", "before", "mark"] (defScope s_Queue_needs_call) := ⟨rfl, rfl, rfl, by decide +kernel, rfl, by decide +kernel, by decide +kernel⟩
abbrev s_Pipe_lying : Stmt := inClass (top 13) 1
abbrev N_Pipe_lying : List Str := ["self"]
theorem sc_Pipe_lying : FnScope N_Pipe_lying ["self"] (defScope s_Pipe_lying) := ⟨rfl, rfl, rfl, by decide +kernel, rfl, by decide +kernel, by decide +kernel⟩
abbrev s_Pipe_put : Stmt := inClass (top 13) 2
abbrev N_Pipe_put : List Str := ["self", "row", "much", "octet"]
theorem sc_Pipe_put : FnScope N_Pipe_put ["self", "row"] (defScope s_Pipe_put) := ⟨rfl, rfl, rfl, by decide +kernel, rfl, by decide +kernel, by decide +kernel⟩
abbrev s_Pipe_get : Stmt := inClass (top 13) 3
abbrev N_Pipe_get : List Str := ["self", "most", "found"]
theorem sc_Pipe_get : FnScope N_Pipe_get ["self", "most"] (defScope s_Pipe_get) := ⟨rfl, rfl, rfl, by decide +kernel, rfl, by decide +kernel, by decide +kernel⟩
abbrev s_law_dice : Stmt := top 15
abbrev N_law_dice : List Str := ["cell"]
theorem sc_law_dice : FnScope N_law_dice ["cell"] (defScope s_law_dice) := ⟨rfl, rfl, rfl, by decide +kernel, rfl, by decide +kernel, by decide +kernel⟩
abbrev s_law_roll : Stmt := top 16
abbrev N_law_roll : List Str := ["dice", "many", "found"]
theorem sc_law_roll : FnScope N_law_roll ["dice", "many"] (defScope s_law_roll) := ⟨rfl, rfl, rfl, by decide +kernel, rfl, by decide +kernel, by decide +kernel⟩
abbrev s_law_rounds : Stmt := top 17
abbrev N_law_rounds : List Str := ["script", "most", "cells", "cell"]
theorem sc_law_rounds : FnScope N_law_rounds ["script", "most"] (defScope s_law_rounds) := ⟨rfl, rfl, rfl, by decide +kernel, rfl, by decide +kernel, by decide +kernel⟩
abbrev s_law_told : Stmt := top 18
abbrev N_law_told : List Str := ["what"]
theorem sc_law_told : FnScope N_law_told ["what"] (defScope s_law_told) := ⟨rfl, rfl, rfl, by decide +kernel, rfl, by decide +kernel, by decide +kernel⟩
abbrev s_law_queue : Stmt := top 19
abbrev N_law_queue : List Str := ["dice", "many", "queue", "given", "taken", "used", "done", "count", "turn", "kind", "place", "k", "answer", "step_there", "mark", "before", "one"]
theorem sc_law_queue : FnScope N_law_queue ["dice"] (defScope s_law_queue) := ⟨rfl, rfl, rfl, by decide +kernel, rfl, by decide +kernel, by decide +kernel⟩
abbrev s_law_pipe : Stmt := top 20
abbrev N_law_pipe : List Str := ["dice", "size", "pipe", "held", "next_there", "turn", "much", "row", "k"]
theorem sc_law_pipe : FnScope N_law_pipe ["dice"] (defScope s_law_pipe) := ⟨rfl, rfl, rfl, by decide +kernel, rfl, by decide +kernel, by decide +kernel⟩
abbrev s_law : Stmt := top 21
abbrev N_law : List Str := ["script", "dice", "many", "ring", "filled", "worked", "reaped", "count", "turn", "kind", "full"]
theorem sc_law : FnScope N_law ["script"] (defScope s_law) := ⟨rfl, rfl, rfl, by decide +kernel, rfl, by decide +kernel, by decide +kernel⟩
def fs_Ring (v0 v1 v2 v3 v4 v5 v6 : V) : List (Str × V) := [("rows", v0), ("by_device", v1), ("done", v2), ("fill_at", v3), ("work_at", v4), ("reap_at", v5), ("filled", v6)]
theorem lk_Ring_rows {v0 v1 v2 v3 v4 v5 v6 : V} : (fs_Ring v0 v1 v2 v3 v4 v5 v6).lookup ("rows" : Str) = some v0 := by kernel_rfl
theorem pf_Ring_rows {v0 v1 v2 v3 v4 v5 v6 y : V} : putF "rows" y (fs_Ring v0 v1 v2 v3 v4 v5 v6) = fs_Ring y v1 v2 v3 v4 v5 v6 := by kernel_rfl
theorem lk_Ring_by_device {v0 v1 v2 v3 v4 v5 v6 : V} : (fs_Ring v0 v1 v2 v3 v4 v5 v6).lookup ("by_device" : Str) = some v1 := by kernel_rfl
theorem pf_Ring_by_device {v0 v1 v2 v3 v4 v5 v6 y : V} : putF "by_device" y (fs_Ring v0 v1 v2 v3 v4 v5 v6) = fs_Ring v0 y v2 v3 v4 v5 v6 := by kernel_rfl
theorem lk_Ring_done {v0 v1 v2 v3 v4 v5 v6 : V} : (fs_Ring v0 v1 v2 v3 v4 v5 v6).lookup ("done" : Str) = some v2 := by kernel_rfl
theorem pf_Ring_done {v0 v1 v2 v3 v4 v5 v6 y : V} : putF "done" y (fs_Ring v0 v1 v2 v3 v4 v5 v6) = fs_Ring v0 v1 y v3 v4 v5 v6 := by kernel_rfl
theorem lk_Ring_fill_at {v0 v1 v2 v3 v4 v5 v6 : V} : (fs_Ring v0 v1 v2 v3 v4 v5 v6).lookup ("fill_at" : Str) = some v3 := by kernel_rfl
theorem pf_Ring_fill_at {v0 v1 v2 v3 v4 v5 v6 y : V} : putF "fill_at" y (fs_Ring v0 v1 v2 v3 v4 v5 v6) = fs_Ring v0 v1 v2 y v4 v5 v6 := by kernel_rfl
theorem lk_Ring_work_at {v0 v1 v2 v3 v4 v5 v6 : V} : (fs_Ring v0 v1 v2 v3 v4 v5 v6).lookup ("work_at" : Str) = some v4 := by kernel_rfl
theorem pf_Ring_work_at {v0 v1 v2 v3 v4 v5 v6 y : V} : putF "work_at" y (fs_Ring v0 v1 v2 v3 v4 v5 v6) = fs_Ring v0 v1 v2 v3 y v5 v6 := by kernel_rfl
theorem lk_Ring_reap_at {v0 v1 v2 v3 v4 v5 v6 : V} : (fs_Ring v0 v1 v2 v3 v4 v5 v6).lookup ("reap_at" : Str) = some v5 := by kernel_rfl
theorem pf_Ring_reap_at {v0 v1 v2 v3 v4 v5 v6 y : V} : putF "reap_at" y (fs_Ring v0 v1 v2 v3 v4 v5 v6) = fs_Ring v0 v1 v2 v3 v4 y v6 := by kernel_rfl
theorem lk_Ring_filled {v0 v1 v2 v3 v4 v5 v6 : V} : (fs_Ring v0 v1 v2 v3 v4 v5 v6).lookup ("filled" : Str) = some v6 := by kernel_rfl
theorem pf_Ring_filled {v0 v1 v2 v3 v4 v5 v6 y : V} : putF "filled" y (fs_Ring v0 v1 v2 v3 v4 v5 v6) = fs_Ring v0 v1 v2 v3 v4 v5 y := by kernel_rfl
theorem ln_Ring {v0 v1 v2 v3 v4 v5 v6 : V} : (fs_Ring v0 v1 v2 v3 v4 v5 v6).length < 1000 := by show 7 < 1000; decide
theorem no_Ring_init {v0 v1 v2 v3 v4 v5 v6 : V} : (fs_Ring v0 v1 v2 v3 v4 v5 v6).lookup ("__init__" : Str) = none := by kernel_rfl
theorem no_Ring_fill {v0 v1 v2 v3 v4 v5 v6 : V} : (fs_Ring v0 v1 v2 v3 v4 v5 v6).lookup ("fill" : Str) = none := by kernel_rfl
theorem no_Ring_work {v0 v1 v2 v3 v4 v5 v6 : V} : (fs_Ring v0 v1 v2 v3 v4 v5 v6).lookup ("work" : Str) = none := by kernel_rfl
theorem no_Ring_reap {v0 v1 v2 v3 v4 v5 v6 : V} : (fs_Ring v0 v1 v2 v3 v4 v5 v6).lookup ("reap" : Str) = none := by kernel_rfl
theorem no_Ring_left_room {v0 v1 v2 v3 v4 v5 v6 : V} : (fs_Ring v0 v1 v2 v3 v4 v5 v6).lookup ("left_room" : Str) = none := by kernel_rfl
theorem gr_Ring_rows {v0 : V} : putF "rows" v0 ([] : List (Str × V)) = [(("rows" : Str), v0)] := by kernel_rfl
theorem gr_Ring_by_device {v0 v1 : V} : putF "by_device" v1 ([(("rows" : Str), v0)] : List (Str × V)) = [(("rows" : Str), v0), (("by_device" : Str), v1)] := by kernel_rfl
theorem gr_Ring_done {v0 v1 v2 : V} : putF "done" v2 ([(("rows" : Str), v0), (("by_device" : Str), v1)] : List (Str × V)) = [(("rows" : Str), v0), (("by_device" : Str), v1), (("done" : Str), v2)] := by kernel_rfl
theorem gr_Ring_fill_at {v0 v1 v2 v3 : V} : putF "fill_at" v3 ([(("rows" : Str), v0), (("by_device" : Str), v1), (("done" : Str), v2)] : List (Str × V)) = [(("rows" : Str), v0), (("by_device" : Str), v1), (("done" : Str), v2), (("fill_at" : Str), v3)] := by kernel_rfl
theorem gr_Ring_work_at {v0 v1 v2 v3 v4 : V} : putF "work_at" v4 ([(("rows" : Str), v0), (("by_device" : Str), v1), (("done" : Str), v2), (("fill_at" : Str), v3)] : List (Str × V)) = [(("rows" : Str), v0), (("by_device" : Str), v1), (("done" : Str), v2), (("fill_at" : Str), v3), (("work_at" : Str), v4)] := by kernel_rfl
theorem gr_Ring_reap_at {v0 v1 v2 v3 v4 v5 : V} : putF "reap_at" v5 ([(("rows" : Str), v0), (("by_device" : Str), v1), (("done" : Str), v2), (("fill_at" : Str), v3), (("work_at" : Str), v4)] : List (Str × V)) = [(("rows" : Str), v0), (("by_device" : Str), v1), (("done" : Str), v2), (("fill_at" : Str), v3), (("work_at" : Str), v4), (("reap_at" : Str), v5)] := by kernel_rfl
theorem gr_Ring_filled {v0 v1 v2 v3 v4 v5 v6 : V} : putF "filled" v6 ([(("rows" : Str), v0), (("by_device" : Str), v1), (("done" : Str), v2), (("fill_at" : Str), v3), (("work_at" : Str), v4), (("reap_at" : Str), v5)] : List (Str × V)) = fs_Ring v0 v1 v2 v3 v4 v5 v6 := by kernel_rfl
def fs_Queue (v0 v1 v2 v3 v4 v5 v6 v7 v8 v9 v10 : V) : List (Str × V) := [("many", v0), ("round_at", v1), ("table", v2), ("free", v3), ("given", v4), ("used", v5), ("given_count", v6), ("used_count", v7), ("device_seen", v8), ("out", v9), ("driver_seen", v10)]
theorem lk_Queue_many {v0 v1 v2 v3 v4 v5 v6 v7 v8 v9 v10 : V} : (fs_Queue v0 v1 v2 v3 v4 v5 v6 v7 v8 v9 v10).lookup ("many" : Str) = some v0 := by kernel_rfl
theorem pf_Queue_many {v0 v1 v2 v3 v4 v5 v6 v7 v8 v9 v10 y : V} : putF "many" y (fs_Queue v0 v1 v2 v3 v4 v5 v6 v7 v8 v9 v10) = fs_Queue y v1 v2 v3 v4 v5 v6 v7 v8 v9 v10 := by kernel_rfl
theorem lk_Queue_round_at {v0 v1 v2 v3 v4 v5 v6 v7 v8 v9 v10 : V} : (fs_Queue v0 v1 v2 v3 v4 v5 v6 v7 v8 v9 v10).lookup ("round_at" : Str) = some v1 := by kernel_rfl
theorem pf_Queue_round_at {v0 v1 v2 v3 v4 v5 v6 v7 v8 v9 v10 y : V} : putF "round_at" y (fs_Queue v0 v1 v2 v3 v4 v5 v6 v7 v8 v9 v10) = fs_Queue v0 y v2 v3 v4 v5 v6 v7 v8 v9 v10 := by kernel_rfl
theorem lk_Queue_table {v0 v1 v2 v3 v4 v5 v6 v7 v8 v9 v10 : V} : (fs_Queue v0 v1 v2 v3 v4 v5 v6 v7 v8 v9 v10).lookup ("table" : Str) = some v2 := by kernel_rfl
theorem pf_Queue_table {v0 v1 v2 v3 v4 v5 v6 v7 v8 v9 v10 y : V} : putF "table" y (fs_Queue v0 v1 v2 v3 v4 v5 v6 v7 v8 v9 v10) = fs_Queue v0 v1 y v3 v4 v5 v6 v7 v8 v9 v10 := by kernel_rfl
theorem lk_Queue_free {v0 v1 v2 v3 v4 v5 v6 v7 v8 v9 v10 : V} : (fs_Queue v0 v1 v2 v3 v4 v5 v6 v7 v8 v9 v10).lookup ("free" : Str) = some v3 := by kernel_rfl
theorem pf_Queue_free {v0 v1 v2 v3 v4 v5 v6 v7 v8 v9 v10 y : V} : putF "free" y (fs_Queue v0 v1 v2 v3 v4 v5 v6 v7 v8 v9 v10) = fs_Queue v0 v1 v2 y v4 v5 v6 v7 v8 v9 v10 := by kernel_rfl
theorem lk_Queue_given {v0 v1 v2 v3 v4 v5 v6 v7 v8 v9 v10 : V} : (fs_Queue v0 v1 v2 v3 v4 v5 v6 v7 v8 v9 v10).lookup ("given" : Str) = some v4 := by kernel_rfl
theorem pf_Queue_given {v0 v1 v2 v3 v4 v5 v6 v7 v8 v9 v10 y : V} : putF "given" y (fs_Queue v0 v1 v2 v3 v4 v5 v6 v7 v8 v9 v10) = fs_Queue v0 v1 v2 v3 y v5 v6 v7 v8 v9 v10 := by kernel_rfl
theorem lk_Queue_used {v0 v1 v2 v3 v4 v5 v6 v7 v8 v9 v10 : V} : (fs_Queue v0 v1 v2 v3 v4 v5 v6 v7 v8 v9 v10).lookup ("used" : Str) = some v5 := by kernel_rfl
theorem pf_Queue_used {v0 v1 v2 v3 v4 v5 v6 v7 v8 v9 v10 y : V} : putF "used" y (fs_Queue v0 v1 v2 v3 v4 v5 v6 v7 v8 v9 v10) = fs_Queue v0 v1 v2 v3 v4 y v6 v7 v8 v9 v10 := by kernel_rfl
theorem lk_Queue_given_count {v0 v1 v2 v3 v4 v5 v6 v7 v8 v9 v10 : V} : (fs_Queue v0 v1 v2 v3 v4 v5 v6 v7 v8 v9 v10).lookup ("given_count" : Str) = some v6 := by kernel_rfl
theorem pf_Queue_given_count {v0 v1 v2 v3 v4 v5 v6 v7 v8 v9 v10 y : V} : putF "given_count" y (fs_Queue v0 v1 v2 v3 v4 v5 v6 v7 v8 v9 v10) = fs_Queue v0 v1 v2 v3 v4 v5 y v7 v8 v9 v10 := by kernel_rfl
theorem lk_Queue_used_count {v0 v1 v2 v3 v4 v5 v6 v7 v8 v9 v10 : V} : (fs_Queue v0 v1 v2 v3 v4 v5 v6 v7 v8 v9 v10).lookup ("used_count" : Str) = some v7 := by kernel_rfl
theorem pf_Queue_used_count {v0 v1 v2 v3 v4 v5 v6 v7 v8 v9 v10 y : V} : putF "used_count" y (fs_Queue v0 v1 v2 v3 v4 v5 v6 v7 v8 v9 v10) = fs_Queue v0 v1 v2 v3 v4 v5 v6 y v8 v9 v10 := by kernel_rfl
theorem lk_Queue_device_seen {v0 v1 v2 v3 v4 v5 v6 v7 v8 v9 v10 : V} : (fs_Queue v0 v1 v2 v3 v4 v5 v6 v7 v8 v9 v10).lookup ("device_seen" : Str) = some v8 := by kernel_rfl
theorem pf_Queue_device_seen {v0 v1 v2 v3 v4 v5 v6 v7 v8 v9 v10 y : V} : putF "device_seen" y (fs_Queue v0 v1 v2 v3 v4 v5 v6 v7 v8 v9 v10) = fs_Queue v0 v1 v2 v3 v4 v5 v6 v7 y v9 v10 := by kernel_rfl
theorem lk_Queue_out {v0 v1 v2 v3 v4 v5 v6 v7 v8 v9 v10 : V} : (fs_Queue v0 v1 v2 v3 v4 v5 v6 v7 v8 v9 v10).lookup ("out" : Str) = some v9 := by kernel_rfl
theorem pf_Queue_out {v0 v1 v2 v3 v4 v5 v6 v7 v8 v9 v10 y : V} : putF "out" y (fs_Queue v0 v1 v2 v3 v4 v5 v6 v7 v8 v9 v10) = fs_Queue v0 v1 v2 v3 v4 v5 v6 v7 v8 y v10 := by kernel_rfl
theorem lk_Queue_driver_seen {v0 v1 v2 v3 v4 v5 v6 v7 v8 v9 v10 : V} : (fs_Queue v0 v1 v2 v3 v4 v5 v6 v7 v8 v9 v10).lookup ("driver_seen" : Str) = some v10 := by kernel_rfl
theorem pf_Queue_driver_seen {v0 v1 v2 v3 v4 v5 v6 v7 v8 v9 v10 y : V} : putF "driver_seen" y (fs_Queue v0 v1 v2 v3 v4 v5 v6 v7 v8 v9 v10) = fs_Queue v0 v1 v2 v3 v4 v5 v6 v7 v8 v9 y := by kernel_rfl
theorem ln_Queue {v0 v1 v2 v3 v4 v5 v6 v7 v8 v9 v10 : V} : (fs_Queue v0 v1 v2 v3 v4 v5 v6 v7 v8 v9 v10).length < 1000 := by show 11 < 1000; decide
theorem no_Queue_init {v0 v1 v2 v3 v4 v5 v6 v7 v8 v9 v10 : V} : (fs_Queue v0 v1 v2 v3 v4 v5 v6 v7 v8 v9 v10).lookup ("__init__" : Str) = none := by kernel_rfl
theorem no_Queue_give {v0 v1 v2 v3 v4 v5 v6 v7 v8 v9 v10 : V} : (fs_Queue v0 v1 v2 v3 v4 v5 v6 v7 v8 v9 v10).lookup ("give" : Str) = none := by kernel_rfl
theorem no_Queue_untaken {v0 v1 v2 v3 v4 v5 v6 v7 v8 v9 v10 : V} : (fs_Queue v0 v1 v2 v3 v4 v5 v6 v7 v8 v9 v10).lookup ("untaken" : Str) = none := by kernel_rfl
theorem no_Queue_take {v0 v1 v2 v3 v4 v5 v6 v7 v8 v9 v10 : V} : (fs_Queue v0 v1 v2 v3 v4 v5 v6 v7 v8 v9 v10).lookup ("take" : Str) = none := by kernel_rfl
theorem no_Queue_use {v0 v1 v2 v3 v4 v5 v6 v7 v8 v9 v10 : V} : (fs_Queue v0 v1 v2 v3 v4 v5 v6 v7 v8 v9 v10).lookup ("use" : Str) = none := by kernel_rfl
theorem no_Queue_reap {v0 v1 v2 v3 v4 v5 v6 v7 v8 v9 v10 : V} : (fs_Queue v0 v1 v2 v3 v4 v5 v6 v7 v8 v9 v10).lookup ("reap" : Str) = none := by kernel_rfl
theorem no_Queue_needs_call {v0 v1 v2 v3 v4 v5 v6 v7 v8 v9 v10 : V} : (fs_Queue v0 v1 v2 v3 v4 v5 v6 v7 v8 v9 v10).lookup ("needs_call" : Str) = none := by kernel_rfl
theorem gr_Queue_many {v0 : V} : putF "many" v0 ([] : List (Str × V)) = [(("many" : Str), v0)] := by kernel_rfl
theorem gr_Queue_round_at {v0 v1 : V} : putF "round_at" v1 ([(("many" : Str), v0)] : List (Str × V)) = [(("many" : Str), v0), (("round_at" : Str), v1)] := by kernel_rfl
theorem gr_Queue_table {v0 v1 v2 : V} : putF "table" v2 ([(("many" : Str), v0), (("round_at" : Str), v1)] : List (Str × V)) = [(("many" : Str), v0), (("round_at" : Str), v1), (("table" : Str), v2)] := by kernel_rfl
theorem gr_Queue_free {v0 v1 v2 v3 : V} : putF "free" v3 ([(("many" : Str), v0), (("round_at" : Str), v1), (("table" : Str), v2)] : List (Str × V)) = [(("many" : Str), v0), (("round_at" : Str), v1), (("table" : Str), v2), (("free" : Str), v3)] := by kernel_rfl
theorem gr_Queue_given {v0 v1 v2 v3 v4 : V} : putF "given" v4 ([(("many" : Str), v0), (("round_at" : Str), v1), (("table" : Str), v2), (("free" : Str), v3)] : List (Str × V)) = [(("many" : Str), v0), (("round_at" : Str), v1), (("table" : Str), v2), (("free" : Str), v3), (("given" : Str), v4)] := by kernel_rfl
theorem gr_Queue_used {v0 v1 v2 v3 v4 v5 : V} : putF "used" v5 ([(("many" : Str), v0), (("round_at" : Str), v1), (("table" : Str), v2), (("free" : Str), v3), (("given" : Str), v4)] : List (Str × V)) = [(("many" : Str), v0), (("round_at" : Str), v1), (("table" : Str), v2), (("free" : Str), v3), (("given" : Str), v4), (("used" : Str), v5)] := by kernel_rfl
theorem gr_Queue_given_count {v0 v1 v2 v3 v4 v5 v6 : V} : putF "given_count" v6 ([(("many" : Str), v0), (("round_at" : Str), v1), (("table" : Str), v2), (("free" : Str), v3), (("given" : Str), v4), (("used" : Str), v5)] : List (Str × V)) = [(("many" : Str), v0), (("round_at" : Str), v1), (("table" : Str), v2), (("free" : Str), v3), (("given" : Str), v4), (("used" : Str), v5), (("given_count" : Str), v6)] := by kernel_rfl
theorem gr_Queue_used_count {v0 v1 v2 v3 v4 v5 v6 v7 : V} : putF "used_count" v7 ([(("many" : Str), v0), (("round_at" : Str), v1), (("table" : Str), v2), (("free" : Str), v3), (("given" : Str), v4), (("used" : Str), v5), (("given_count" : Str), v6)] : List (Str × V)) = [(("many" : Str), v0), (("round_at" : Str), v1), (("table" : Str), v2), (("free" : Str), v3), (("given" : Str), v4), (("used" : Str), v5), (("given_count" : Str), v6), (("used_count" : Str), v7)] := by kernel_rfl
theorem gr_Queue_device_seen {v0 v1 v2 v3 v4 v5 v6 v7 v8 : V} : putF "device_seen" v8 ([(("many" : Str), v0), (("round_at" : Str), v1), (("table" : Str), v2), (("free" : Str), v3), (("given" : Str), v4), (("used" : Str), v5), (("given_count" : Str), v6), (("used_count" : Str), v7)] : List (Str × V)) = [(("many" : Str), v0), (("round_at" : Str), v1), (("table" : Str), v2), (("free" : Str), v3), (("given" : Str), v4), (("used" : Str), v5), (("given_count" : Str), v6), (("used_count" : Str), v7), (("device_seen" : Str), v8)] := by kernel_rfl
theorem gr_Queue_out {v0 v1 v2 v3 v4 v5 v6 v7 v8 v9 : V} : putF "out" v9 ([(("many" : Str), v0), (("round_at" : Str), v1), (("table" : Str), v2), (("free" : Str), v3), (("given" : Str), v4), (("used" : Str), v5), (("given_count" : Str), v6), (("used_count" : Str), v7), (("device_seen" : Str), v8)] : List (Str × V)) = [(("many" : Str), v0), (("round_at" : Str), v1), (("table" : Str), v2), (("free" : Str), v3), (("given" : Str), v4), (("used" : Str), v5), (("given_count" : Str), v6), (("used_count" : Str), v7), (("device_seen" : Str), v8), (("out" : Str), v9)] := by kernel_rfl
theorem gr_Queue_driver_seen {v0 v1 v2 v3 v4 v5 v6 v7 v8 v9 v10 : V} : putF "driver_seen" v10 ([(("many" : Str), v0), (("round_at" : Str), v1), (("table" : Str), v2), (("free" : Str), v3), (("given" : Str), v4), (("used" : Str), v5), (("given_count" : Str), v6), (("used_count" : Str), v7), (("device_seen" : Str), v8), (("out" : Str), v9)] : List (Str × V)) = fs_Queue v0 v1 v2 v3 v4 v5 v6 v7 v8 v9 v10 := by kernel_rfl
def fs_Pipe (v0 v1 v2 : V) : List (Str × V) := [("cells", v0), ("put_at", v1), ("get_at", v2)]
theorem lk_Pipe_cells {v0 v1 v2 : V} : (fs_Pipe v0 v1 v2).lookup ("cells" : Str) = some v0 := by kernel_rfl
theorem pf_Pipe_cells {v0 v1 v2 y : V} : putF "cells" y (fs_Pipe v0 v1 v2) = fs_Pipe y v1 v2 := by kernel_rfl
theorem lk_Pipe_put_at {v0 v1 v2 : V} : (fs_Pipe v0 v1 v2).lookup ("put_at" : Str) = some v1 := by kernel_rfl
theorem pf_Pipe_put_at {v0 v1 v2 y : V} : putF "put_at" y (fs_Pipe v0 v1 v2) = fs_Pipe v0 y v2 := by kernel_rfl
theorem lk_Pipe_get_at {v0 v1 v2 : V} : (fs_Pipe v0 v1 v2).lookup ("get_at" : Str) = some v2 := by kernel_rfl
theorem pf_Pipe_get_at {v0 v1 v2 y : V} : putF "get_at" y (fs_Pipe v0 v1 v2) = fs_Pipe v0 v1 y := by kernel_rfl
theorem ln_Pipe {v0 v1 v2 : V} : (fs_Pipe v0 v1 v2).length < 1000 := by show 3 < 1000; decide
theorem no_Pipe_init {v0 v1 v2 : V} : (fs_Pipe v0 v1 v2).lookup ("__init__" : Str) = none := by kernel_rfl
theorem no_Pipe_lying {v0 v1 v2 : V} : (fs_Pipe v0 v1 v2).lookup ("lying" : Str) = none := by kernel_rfl
theorem no_Pipe_put {v0 v1 v2 : V} : (fs_Pipe v0 v1 v2).lookup ("put" : Str) = none := by kernel_rfl
theorem no_Pipe_get {v0 v1 v2 : V} : (fs_Pipe v0 v1 v2).lookup ("get" : Str) = none := by kernel_rfl
theorem gr_Pipe_cells {v0 : V} : putF "cells" v0 ([] : List (Str × V)) = [(("cells" : Str), v0)] := by kernel_rfl
theorem gr_Pipe_put_at {v0 v1 : V} : putF "put_at" v1 ([(("cells" : Str), v0)] : List (Str × V)) = [(("cells" : Str), v0), (("put_at" : Str), v1)] := by kernel_rfl
theorem gr_Pipe_get_at {v0 v1 v2 : V} : putF "get_at" v2 ([(("cells" : Str), v0), (("put_at" : Str), v1)] : List (Str × V)) = fs_Pipe v0 v1 v2 := by kernel_rfl
structure Txt (K : PySem.W.Frag) (mg : Str → Option Value) (C_Ring C_Queue C_Pipe C_BadWord C_BadPlace C_BadPlan C_NotDue C_Stuck C_BadBits C_BadText C_TooLarge g_told : Addr) : Prop where
  c_Ring : Cls K C_Ring
  c_Queue : Cls K C_Queue
  c_Pipe : Cls K C_Pipe
  n_Pipe_cells : NoAttr K C_Pipe "cells"
  n_Pipe_get_at : NoAttr K C_Pipe "get_at"
  n_Pipe_put_at : NoAttr K C_Pipe "put_at"
  n_Queue_device_seen : NoAttr K C_Queue "device_seen"
  n_Queue_driver_seen : NoAttr K C_Queue "driver_seen"
  n_Queue_free : NoAttr K C_Queue "free"
  n_Queue_given : NoAttr K C_Queue "given"
  n_Queue_given_count : NoAttr K C_Queue "given_count"
  n_Queue_many : NoAttr K C_Queue "many"
  n_Queue_out : NoAttr K C_Queue "out"
  n_Queue_round_at : NoAttr K C_Queue "round_at"
  n_Queue_table : NoAttr K C_Queue "table"
  n_Queue_used : NoAttr K C_Queue "used"
  n_Queue_used_count : NoAttr K C_Queue "used_count"
  n_Ring_by_device : NoAttr K C_Ring "by_device"
  n_Ring_done : NoAttr K C_Ring "done"
  n_Ring_fill_at : NoAttr K C_Ring "fill_at"
  n_Ring_filled : NoAttr K C_Ring "filled"
  n_Ring_reap_at : NoAttr K C_Ring "reap_at"
  n_Ring_rows : NoAttr K C_Ring "rows"
  n_Ring_work_at : NoAttr K C_Ring "work_at"
  b_abs : mg "abs" = none
  b_int : mg "int" = none
  b_len : mg "len" = none
  b_list : mg "list" = none
  b_max : mg "max" = none
  b_min : mg "min" = none
  b_range : mg "range" = none
  b_tuple : mg "tuple" = none
  e_NotDue : Dh.ExcX K mg "NotDue" C_NotDue
  e_BadPlan : Dh.ExcX K mg "BadPlan" C_BadPlan
  t_law_told : Dh.ToldX K mg "_law_told" s_law_told g_told
  m_BadWord : mg "BadWord" = some (.ref C_BadWord)
  m_BadPlace : mg "BadPlace" = some (.ref C_BadPlace)
  m_BadPlan : mg "BadPlan" = some (.ref C_BadPlan)
  m_NotDue : mg "NotDue" = some (.ref C_NotDue)
  m_Stuck : mg "Stuck" = some (.ref C_Stuck)
  m_BadBits : mg "BadBits" = some (.ref C_BadBits)
  m_BadText : mg "BadText" = some (.ref C_BadText)
  m_TooLarge : mg "TooLarge" = some (.ref C_TooLarge)
  x_NotDue_BadWord : PySem.W.exmOne K (.ref C_NotDue) (.ref C_BadWord) = some false
  x_NotDue_BadPlace : PySem.W.exmOne K (.ref C_NotDue) (.ref C_BadPlace) = some false
  x_NotDue_BadPlan : PySem.W.exmOne K (.ref C_NotDue) (.ref C_BadPlan) = some false
  x_NotDue_NotDue : PySem.W.exmOne K (.ref C_NotDue) (.ref C_NotDue) = some true
  x_BadPlan_BadWord : PySem.W.exmOne K (.ref C_BadPlan) (.ref C_BadWord) = some false
  x_BadPlan_BadPlace : PySem.W.exmOne K (.ref C_BadPlan) (.ref C_BadPlace) = some false
  x_BadPlan_BadPlan : PySem.W.exmOne K (.ref C_BadPlan) (.ref C_BadPlan) = some true
theorem bnd_law_told {kV doc pm cdv ct : Value} {an : Option Addr} : L2.Binds K (PySem.W.fnOf "_law_told" "_law_told" (defArgs s_law_told) (defBody s_law_told) (defScope s_law_told) .none kV doc pm an cdv ct) ["what"] [] :=
  .all fun us hl => match us, hl with | [_], _ => rfl
theorem told_law_told {X : Cx} {cdv : Value} {q : Str} (Z : Txt X.K X.mg C_Ring C_Queue C_Pipe C_BadWord C_BadPlace C_BadPlan C_NotDue C_Stuck C_BadBits C_BadText C_TooLarge g_told) : LamX.GivesTo X N_law_told "_law_told" (defScope s_law_told) g_told cdv (defBody s_law_told) "what" q (Dh.TTx X.K [(C_BadWord, "word"), (C_BadPlace, "place"), (C_BadPlan, "plan"), (C_NotDue, "due"), (C_Stuck, "stuck"), (C_BadBits, "bits"), (C_BadText, "text"), (C_TooLarge, "large")]) :=
  Dh.told_many (fun _ _ _ => (Dh.Clauses.cons (by rfl) Z.m_BadWord (by decide) (Dh.Clauses.cons (by rfl) Z.m_BadPlace (by decide) (Dh.Clauses.cons (by rfl) Z.m_BadPlan (by decide) (Dh.Clauses.cons (by rfl) Z.m_NotDue (by decide) (Dh.Clauses.cons (by rfl) Z.m_Stuck (by decide) (Dh.Clauses.cons (by rfl) Z.m_BadBits (by decide) (Dh.Clauses.cons (by rfl) Z.m_BadText (by decide) (Dh.Clauses.cons (by rfl) Z.m_TooLarge (by decide) Dh.Clauses.nil))))))))) (fun _ => rfl)
end
end Toy
end

section
local macro_rules | `(tactic| walk_at "pk") => `(tactic| (with_reducible first | exact Dh.pick_here | (refine' Dh.pick_there ?p; (case p => walk_at "pk"))))
local macro_rules | `(tactic| walk_at "ent") => `(tactic| first | (with_reducible exact Dh.ent_refl) | (with_reducible exact Dh.ent_nil) | (refine' Dh.ent_cons ?q0 ?k; (case q0 => walk_at "pk"); (case k => walk_at "ent")) | (refine' Dh.ent_drop ?k; (case k => walk_at "ent")))
local macro_rules | `(tactic| walk_at "side") => `(tactic| first | omega | decide | (simp only [L2.CMul, L2.CDiv, L2.CDivN]; omega) | (unfold L2.CPow; decide) | (simp only [List.length_cons, List.length_nil, List.length_append, List.length_map, List.length_range, List.length_replicate, List.length_set, List.length_take, List.length_drop, PySem.sizeLine_eq] <;> omega))
local macro_rules | `(tactic| walk_at "ixs") => `(tactic| first | assumption | omega | (simp only [List.length_set, List.length_map, List.length_cons, List.length_nil, List.length_append, List.length_replicate] <;> first | assumption | omega))
local macro_rules | `(tactic| walk_at "lk") => `(tactic| first | rfl | assumption | (exact Dh.ixN_lt (by walk_at "ixs")) | (exact Dh.atI_lt (by assumption))  | with_reducible exact Toy.lk_Ring_rows | with_reducible exact Toy.lk_Ring_by_device | with_reducible exact Toy.lk_Ring_done | with_reducible exact Toy.lk_Ring_fill_at | with_reducible exact Toy.lk_Ring_work_at | with_reducible exact Toy.lk_Ring_reap_at | with_reducible exact Toy.lk_Ring_filled | with_reducible exact Toy.no_Ring_init | with_reducible exact Toy.no_Ring_fill | with_reducible exact Toy.no_Ring_work | with_reducible exact Toy.no_Ring_reap | with_reducible exact Toy.no_Ring_left_room | with_reducible exact Toy.lk_Queue_many | with_reducible exact Toy.lk_Queue_round_at | with_reducible exact Toy.lk_Queue_table | with_reducible exact Toy.lk_Queue_free | with_reducible exact Toy.lk_Queue_given | with_reducible exact Toy.lk_Queue_used | with_reducible exact Toy.lk_Queue_given_count | with_reducible exact Toy.lk_Queue_used_count | with_reducible exact Toy.lk_Queue_device_seen | with_reducible exact Toy.lk_Queue_out | with_reducible exact Toy.lk_Queue_driver_seen | with_reducible exact Toy.no_Queue_init | with_reducible exact Toy.no_Queue_give | with_reducible exact Toy.no_Queue_untaken | with_reducible exact Toy.no_Queue_take | with_reducible exact Toy.no_Queue_use | with_reducible exact Toy.no_Queue_reap | with_reducible exact Toy.no_Queue_needs_call | with_reducible exact Toy.lk_Pipe_cells | with_reducible exact Toy.lk_Pipe_put_at | with_reducible exact Toy.lk_Pipe_get_at | with_reducible exact Toy.no_Pipe_init | with_reducible exact Toy.no_Pipe_lying | with_reducible exact Toy.no_Pipe_put | with_reducible exact Toy.no_Pipe_get)
local macro_rules | `(tactic| walk_at "pf") => `(tactic| first  | with_reducible exact Toy.pf_Ring_rows | with_reducible exact Toy.pf_Ring_by_device | with_reducible exact Toy.pf_Ring_done | with_reducible exact Toy.pf_Ring_fill_at | with_reducible exact Toy.pf_Ring_work_at | with_reducible exact Toy.pf_Ring_reap_at | with_reducible exact Toy.pf_Ring_filled | with_reducible exact Toy.gr_Ring_rows | with_reducible exact Toy.gr_Ring_by_device | with_reducible exact Toy.gr_Ring_done | with_reducible exact Toy.gr_Ring_fill_at | with_reducible exact Toy.gr_Ring_work_at | with_reducible exact Toy.gr_Ring_reap_at | with_reducible exact Toy.gr_Ring_filled | with_reducible exact Toy.pf_Queue_many | with_reducible exact Toy.pf_Queue_round_at | with_reducible exact Toy.pf_Queue_table | with_reducible exact Toy.pf_Queue_free | with_reducible exact Toy.pf_Queue_given | with_reducible exact Toy.pf_Queue_used | with_reducible exact Toy.pf_Queue_given_count | with_reducible exact Toy.pf_Queue_used_count | with_reducible exact Toy.pf_Queue_device_seen | with_reducible exact Toy.pf_Queue_out | with_reducible exact Toy.pf_Queue_driver_seen | with_reducible exact Toy.gr_Queue_many | with_reducible exact Toy.gr_Queue_round_at | with_reducible exact Toy.gr_Queue_table | with_reducible exact Toy.gr_Queue_free | with_reducible exact Toy.gr_Queue_given | with_reducible exact Toy.gr_Queue_used | with_reducible exact Toy.gr_Queue_given_count | with_reducible exact Toy.gr_Queue_used_count | with_reducible exact Toy.gr_Queue_device_seen | with_reducible exact Toy.gr_Queue_out | with_reducible exact Toy.gr_Queue_driver_seen | with_reducible exact Toy.pf_Pipe_cells | with_reducible exact Toy.pf_Pipe_put_at | with_reducible exact Toy.pf_Pipe_get_at | with_reducible exact Toy.gr_Pipe_cells | with_reducible exact Toy.gr_Pipe_put_at | with_reducible exact Toy.gr_Pipe_get_at | rfl)
local macro_rules | `(tactic| walk_at "ln") => `(tactic| first  | with_reducible exact Toy.ln_Ring | with_reducible exact Toy.ln_Queue | with_reducible exact Toy.ln_Pipe | decide | (simp only [List.length_cons, List.length_nil] <;> omega))
local macro_rules | `(tactic| walk_at "hasm") => `(tactic| first | (refine' Dh.hasM_ob ?q0 ?q1; (case q0 => walk_at "pk"); (case q1 => walk_at "lk")))
local macro_rules | `(tactic| walk_at "vcp0") => `(tactic| first | ((with_reducible refine' Dh.g_seq ?k)) | ((with_reducible refine' Dh.g_next ?k)) | ((with_reducible refine' Dh.g_nonA ?k)) | ((with_reducible refine' Dh.g_var ?q0 ?k); (case q0 => rfl)) | ((with_reducible refine' Dh.g_c ?k)) | ((with_reducible refine' Dh.g_op ?k)) | ((with_reducible refine' Dh.g_asg ?k)) | ((with_reducible refine' Dh.g_name ?k)) | ((with_reducible refine' Dh.g_ifS ?k)) | ((with_reducible refine' Dh.g_test ?k)) | ((with_reducible refine' Dh.g_isB ?k)) | ((with_reducible refine' Dh.g_B ?k)) | ((with_reducible refine' Dh.g_ret ?k)) | ((with_reducible refine' Dh.g_retN ?k)) | ((with_reducible refine' Dh.g_drop ?k)) | ((with_reducible refine' Dh.g_brk ?k)) | ((with_reducible refine' Dh.g_cont ?k)) | ((with_reducible refine' Dh.g_un ?k)) | ((with_reducible refine' Dh.g_I0 ?k)) | ((with_reducible refine' Dh.g_addI ?k)) | ((with_reducible refine' Dh.g_addB ?k)) | ((with_reducible refine' Dh.g_addS ?q0 ?k); (case q0 => walk_at "side")) | ((with_reducible refine' Dh.g_addM ?q0 ?q1 ?q2 ?k); (case q0 => walk_at "pk"); (case q1 => walk_at "pk"); (case q2 => walk_at "side"); intro _) | ((with_reducible refine' Dh.g_addL ?q0 ?q1 ?q2 ?k); (case q0 => walk_at "pk"); (case q1 => walk_at "pk"); (case q2 => walk_at "side"); intro _))
local macro_rules | `(tactic| walk_at "vcp1") => `(tactic| first | ((with_reducible refine' Dh.g_I ?q0 ?k); (case q0 => walk_at "side")) | ((with_reducible refine' Dh.g_mulI ?q0 ?k); (case q0 => walk_at "side")) | ((with_reducible refine' Dh.g_U ?k)) | ((with_reducible refine' Dh.g_eqS ?q0 ?k); (case q0 => rfl)) | ((with_reducible refine' Dh.g_neS ?q0 ?k); (case q0 => rfl)) | ((with_reducible refine' Dh.g_eqLL ?q0 ?q1 ?k); (case q0 => walk_at "pk"); (case q1 => walk_at "pk")) | ((with_reducible refine' Dh.g_neLL ?q0 ?q1 ?k); (case q0 => walk_at "pk"); (case q1 => walk_at "pk")) | ((with_reducible refine' Dh.g_eqL0 ?q0 ?q1 ?k); (case q0 => walk_at "pk"); (case q1 => walk_at "pk")) | ((with_reducible refine' Dh.g_neL0 ?q0 ?q1 ?k); (case q0 => walk_at "pk"); (case q1 => walk_at "pk")) | ((with_reducible refine' Dh.g_neT0 ?q0 ?q1 ?q2 ?k); (case q0 => walk_at "pk"); (case q1 => walk_at "pk"); (case q2 => walk_at "pk")) | ((with_reducible refine' Dh.g_neP ?q0 ?q1 ?k); (case q0 => walk_at "pk"); (case q1 => walk_at "pk")) | ((with_reducible refine' Dh.g_inI ?q0 ?k); (case q0 => walk_at "pk")) | ((with_reducible refine' Dh.g_isN ?k)) | ((with_reducible refine' Dh.g_notN ?k)) | ((with_reducible refine' Dh.g_ixL ?q0 ?q1 ?k); (case q0 => walk_at "pk"); (case q1 => walk_at "lk")) | ((with_reducible refine' Dh.g_ixT ?q0 ?q1 ?k); (case q0 => walk_at "pk"); (case q1 => walk_at "lk")) | ((with_reducible refine' Dh.g_sl ?k)) | ((with_reducible refine' Dh.g_noPart ?k)) | ((with_reducible refine' Dh.g_part ?k)) | ((with_reducible refine' Dh.g_isSomeInt ?k)) | ((with_reducible refine' Dh.g_slTk ?q0 ?k); (case q0 => walk_at "pk"); intro _) | ((with_reducible refine' Dh.g_slDr ?q0 ?k); (case q0 => walk_at "pk"); intro _) | ((with_reducible refine' Dh.g_slL ?q0 ?k); (case q0 => walk_at "pk"); intro _) | ((with_reducible refine' Dh.g_slQTk ?q0 ?k); (case q0 => walk_at "pk"); intro _))
local macro_rules | `(tactic| walk_at "vcp2") => `(tactic| first | ((with_reducible refine' Dh.g_slQ ?q0 ?k); (case q0 => walk_at "pk"); intro _) | ((with_reducible refine' Dh.g_fldE ?k)) | ((with_reducible refine' Dh.g_fld ?q0 ?q1 ?k); (case q0 => walk_at "pk"); (case q1 => walk_at "lk")) | ((with_reducible refine' Dh.g_tup ?k)) | ((with_reducible refine' Dh.g_lst ?k)) | ((with_reducible refine' Dh.g_newT ?q0 ?k); (case q0 => walk_at "side"); intro _) | ((with_reducible refine' Dh.g_newL ?q0 ?k); (case q0 => walk_at "side"); intro _) | ((with_reducible refine' Dh.g_nil ?k)) | ((with_reducible refine' Dh.g_cons ?k)) | ((with_reducible refine' Dh.g_call ?k)) | ((with_reducible refine' Dh.g_methE ?k)) | ((with_reducible refine' Dh.g_meth ?q0 ?k); (case q0 => walk_at "hasm")) | ((with_reducible refine' Dh.g_make ?k)) | ((with_reducible refine' Dh.g_made ?k); intro _) | ((with_reducible refine' Dh.g_cb ?k)) | ((with_reducible refine' Dh.g_int ?k)) | ((with_reducible refine' Dh.g_intB ?k)) | ((with_reducible refine' Dh.g_abs ?k)) | ((with_reducible refine' Dh.g_max2 ?k)) | ((with_reducible refine' Dh.g_min2 ?k)) | ((with_reducible refine' Dh.g_strI ?q0 ?k); (case q0 => walk_at "side")) | ((with_reducible refine' Dh.g_lenL ?q0 ?k); (case q0 => walk_at "pk")) | ((with_reducible refine' Dh.g_lenT ?q0 ?k); (case q0 => walk_at "pk")) | ((with_reducible refine' Dh.g_lenD ?q0 ?k); (case q0 => walk_at "pk")))
local macro_rules | `(tactic| walk_at "vcp3") => `(tactic| first | ((with_reducible refine' Dh.g_listL ?q0 ?k); (case q0 => walk_at "pk"); intro _) | ((with_reducible refine' Dh.g_listT ?q0 ?k); (case q0 => walk_at "pk"); intro _) | ((with_reducible refine' Dh.g_tupL ?q0 ?k); (case q0 => walk_at "pk"); intro _) | ((with_reducible refine' Dh.g_tupT ?q0 ?k); (case q0 => walk_at "pk")) | ((with_reducible refine' Dh.g_pop0 ?q0 ?k); (case q0 => walk_at "pk")) | ((with_reducible refine' Dh.g_bm ?k)) | ((with_reducible refine' Dh.g_bm0 ?k)) | ((with_reducible refine' Dh.g_tyL ?q0 ?k); (case q0 => walk_at "pk")) | ((with_reducible refine' Dh.g_append ?q0 ?q1 ?k); (case q0 => walk_at "pk"); (case q1 => walk_at "side")) | ((with_reducible refine' Dh.g_rep ?q0 ?q1 ?q2 ?q3 ?k); (case q0 => walk_at "pk"); (case q1 => walk_at "side"); (case q2 => walk_at "side"); (case q3 => walk_at "side"); intro _) | ((with_reducible refine' Dh.g_not ?k)) | ((with_reducible refine' Dh.g_tand ?k)) | ((with_reducible refine' Dh.g_tor ?k)) | ((with_reducible refine' Dh.g_andV ?k)) | ((with_reducible refine' Dh.g_orV ?k)) | ((with_reducible refine' Dh.g_notV ?k)) | ((with_reducible refine' Dh.g_ifE ?k)) | ((with_reducible refine' Dh.g_chain ?k)) | ((with_reducible refine' Dh.g_tru ?k)) | ((with_reducible refine' Dh.g_truB ?k)) | ((with_reducible refine' Dh.g_truI ?k)) | ((with_reducible refine' Dh.g_truN ?k)) | ((with_reducible refine' Dh.g_truL ?q0 ?k); (case q0 => walk_at "pk")) | ((with_reducible refine' Dh.g_gsub ?k)))
local macro_rules | `(tactic| walk_at "vcp4") => `(tactic| first | ((with_reducible refine' Dh.g_setL ?q0 ?q1 ?k); (case q0 => walk_at "pk"); (case q1 => walk_at "lk")) | ((with_reducible refine' Dh.g_gtup ?q0 ?q1 ?k); (case q0 => walk_at "pk"); (case q1 => rfl)) | ((with_reducible refine' Dh.g_gnil ?k)) | ((with_reducible refine' Dh.g_gcons ?k)) | ((with_reducible refine' Dh.g_par ?k)) | ((with_reducible refine' Dh.g_par2 ?k)) | ((with_reducible refine' Dh.g_par3 ?k)) | ((with_reducible refine' Dh.g_par3b ?k)) | ((with_reducible refine' Dh.g_listRg ?k)) | ((with_reducible refine' Dh.g_rg1E ?k)) | ((with_reducible refine' Dh.g_rg1 ?k)) | ((with_reducible refine' Dh.g_rgN ?q0 ?k); (case q0 => walk_at "side"); intro _) | ((with_reducible refine' Dh.g_rgL ?q0 ?k); (case q0 => walk_at "side"); intro _) | ((with_reducible refine' Dh.g_dinE ?k)) | ((with_reducible refine' Dh.g_dinI ?q0 ?k); (case q0 => walk_at "pk")) | ((with_reducible refine' Dh.g_dnotinE ?k)) | ((with_reducible refine' Dh.g_dnotinI ?q0 ?k); (case q0 => walk_at "pk")) | ((with_reducible refine' Dh.g_dgetE ?k)) | ((with_reducible refine' Dh.g_dgetI ?q0 ?q1 ?k); (case q0 => walk_at "pk"); (case q1 => walk_at "lk")) | ((with_reducible refine' Dh.g_dputE ?k)) | ((with_reducible refine' Dh.g_dputI ?q0 ?q1 ?k); (case q0 => walk_at "pk"); (case q1 => walk_at "side")) | ((with_reducible refine' Dh.g_dpopE ?k)) | ((with_reducible refine' Dh.g_dpopA ?q0 ?k); (case q0 => walk_at "pk")) | ((with_reducible refine' Dh.g_dpopB ?q0 ?q1 ?k); (case q0 => walk_at "pk"); (case q1 => walk_at "lk")))
local macro_rules | `(tactic| walk_at "vcp5") => `(tactic| first | ((with_reducible refine' Dh.g_dnew ?k); intro _) | ((with_reducible refine' Dh.g_ipMul ?q0 ?k); (case q0 => walk_at "side")) | ((with_reducible refine' Dh.g_sfldE ?k)) | ((with_reducible refine' Dh.g_sfld ?q0 ?q1 ?q2 ?k); (case q0 => walk_at "pk"); (case q1 => walk_at "pf"); (case q2 => walk_at "ln")) | ((with_reducible refine' Dh.g_augE ?k)) | ((with_reducible refine' Dh.g_augF ?q0 ?q1 ?k); (case q0 => walk_at "pk"); (case q1 => walk_at "lk")) | ((with_reducible refine' Dh.g_augV ?q0 ?k); (case q0 => rfl)) | ((with_reducible refine' Dh.g_ipI ?k)) | ((with_reducible refine' Dh.g_rAdd ?k)) | ((with_reducible refine' Dh.g_rSub ?k)) | ((with_reducible refine' Dh.g_for ?k)) | ((with_reducible refine' Dh.g_iRng1 ?k)) | ((with_reducible refine' Dh.g_iRng2 ?k)) | ((with_reducible refine' Dh.g_rng1 ?q0 ?q1 ?k); (case q0 => walk_at "side"); (case q1 => walk_at "side")) | ((with_reducible refine' Dh.g_rng2 ?q0 ?k); (case q0 => walk_at "side")) | ((with_reducible refine' Dh.g_iSeqE ?k)) | ((with_reducible refine' Dh.g_iSeqL ?q0 ?k); (case q0 => walk_at "pk")) | ((with_reducible refine' Dh.g_iSeqT ?q0 ?k); (case q0 => walk_at "pk")) | ((with_reducible refine' Dh.g_wbody ?k)) | ((with_reducible refine' Dh.g_lcE ?k)) | ((with_reducible refine' Dh.g_turn ?k)) | ((with_reducible refine' Dh.g_tYes ?k)) | ((with_reducible refine' Dh.g_rs ?k)) | ((with_reducible refine' Dh.g_rsW ?k)))
local macro_rules | `(tactic| walk_at "vcp6") => `(tactic| first | ((with_reducible refine' Dh.g_told ?k)) | ((with_reducible refine' Dh.g_ifT ?q0 ?k); (case q0 => rfl)) | ((with_reducible refine' Dh.g_ifF ?q0 ?k); (case q0 => rfl)))
local macro_rules | `(tactic| walk_at "vc1") => `(tactic| first | walk_at "vcp0" | walk_at "vcp1" | walk_at "vcp2" | walk_at "vcp3" | walk_at "vcp4" | walk_at "vcp5" | walk_at "vcp6")
local macro_rules | `(tactic| walk_at "vc") => `(tactic| repeat walk_at "vc1")
local macro_rules | `(tactic| walk_at "spl") => `(tactic| first | ((with_reducible refine Dh.g_ifD ?_ ?_) <;> intro _) | ((with_reducible refine Dh.g_ifN ?_ ?_) <;> intro _) | ((with_reducible refine Dh.g_if ?_ ?_) <;> intro _))
local macro_rules | `(tactic| walk_at "vcs") => `(tactic| repeat' (first | walk_at "vc1" | walk_at "spl"))
namespace Toy
open PySem L2
section
variable {P : Program} {w : World} {K : PySem.W.Frag} {mg : Str → Option Value} {base : Heap} {T : List (Addr × Str)} {C_Ring C_Queue C_Pipe C_BadWord C_BadPlace C_BadPlan C_NotDue C_Stuck C_BadBits C_BadText C_TooLarge g_told : Addr}
def sg_law_dice (T : List (Addr × Str)) (K : PySem.W.Frag) (C_Ring C_Queue C_Pipe C_BadWord C_BadPlace C_BadPlan C_NotDue C_Stuck C_BadBits C_BadText C_TooLarge g_told : Addr) : Dh.SG :=
  fun vs L Q _ => ∃ n : Int, vs = [.int n] ∧ ∀ p a b c, Dh.Go T (Dh.pt p (.lst [.int a, .int b, .int c]) :: L) fun H => Q (.ref p) H
set_option maxHeartbeats 8000000 in
theorem ok_law_dice (Z : Txt K mg C_Ring C_Queue C_Pipe C_BadWord C_BadPlace C_BadPlan C_NotDue C_Stuck C_BadBits C_BadText C_TooLarge g_told)  {f : Addr} {fd : FuncData} {cdv : Value} (F : Dh.FunC K "_law_dice" "_law_dice" s_law_dice f fd cdv) :
    FnOk P w K mg base (L2.CX P w) 1 f fd ["cell"] (Dh.sOfN T 1 (sg_law_dice T K C_Ring C_Queue C_Pipe C_BadWord C_BadPlace C_BadPlan C_NotDue C_Stuck C_BadBits C_BadText C_TooLarge g_told)) := by
  refine Dh.fnX (k := 0) F sc_law_dice rfl (fun A outer s H0 L vs Q E hr hl h => ?_)
  refine ⟨_, (pss_cons (ps_if (pt_chain op_lt op_lt (pe_op op_sub pe_int pe_int) (pv 0) pe_int)
    (pss_one (ps_ret (pe_lst (pa_cons (pe_callB Dh.call_absX (by rfl) Z.b_abs Dh.blt_abs (pa_cons (pv 0) pa_nil)) (pa_cons pe_int (pa_cons pe_int pa_nil))))))
    pss_nil)
    (pss_one (ps_ret (pe_lst (pa_cons (pv 0) (pa_cons (pe_op (Dh.oAdd (K := K) rfl) pe_int (pe_op op_mod (pe_callTy Dh.call_intX (by rfl) Z.b_int (by first | exact PySem.boot_int | exact PyProof.Rows.boot_int | decide +kernel) (pa_cons (pv 0) pa_nil)) pe_int)) (pa_cons (pe_callTy Dh.call_intX (by rfl) Z.b_int (by first | exact PySem.boot_int | exact PyProof.Rows.boot_int | decide +kernel) (pa_cons (pe_cmpR op_ge (pv 0) (pe_op op_pow pe_int pe_int) (nomark _)) pa_nil)) pa_nil))))))), ?_⟩
  try dsimp only [L2.cxOf, L2.Cx.blk, LamX.lamCx, L2.Cx.tr]
  obtain ⟨n, rfl, k⟩ := h
  walk_at "vcs"
  all_goals exact k _ _ _ _
/-- a dice: three ints -/
def DiceAt (p : Addr) : Dh.HP := Dh.ex fun a : Int => Dh.ex fun b : Int => Dh.ex fun c : Int => Dh.pt p (.lst [.int a, .int b, .int c])
def sg_law_roll (T : List (Addr × Str)) (K : PySem.W.Frag) (C_Ring C_Queue C_Pipe C_BadWord C_BadPlace C_BadPlan C_NotDue C_Stuck C_BadBits C_BadText C_TooLarge g_told : Addr) : Dh.SG :=
  fun vs L Q _ => ∃ (p : Addr) (n : Int) (R : List Dh.HP), vs = [.ref p, .int n] ∧ Dh.Ent L (DiceAt p :: R) ∧ 0 < n ∧ n < 1073741824 ∧ ∀ r : Int, 0 ≤ r → r < n → Dh.Go T (DiceAt p :: R) fun H => Q (.int r) H
set_option maxHeartbeats 8000000 in
theorem ok_law_roll (Z : Txt K mg C_Ring C_Queue C_Pipe C_BadWord C_BadPlace C_BadPlan C_NotDue C_Stuck C_BadBits C_BadText C_TooLarge g_told)  {f : Addr} {fd : FuncData} {cdv : Value} (F : Dh.FunC K "_law_roll" "_law_roll" s_law_roll f fd cdv) :
    FnOk P w K mg base (L2.CX P w) 1 f fd ["dice", "many"] (Dh.sOfN T 2 (sg_law_roll T K C_Ring C_Queue C_Pipe C_BadWord C_BadPlace C_BadPlan C_NotDue C_Stuck C_BadBits C_BadText C_TooLarge g_told)) := by
  refine Dh.fnX (k := 0) F sc_law_roll rfl (fun A outer s H0 L vs Q E hr hl h => ?_)
  refine ⟨_, (pss_cons (ps_if (PW.pt (pw_or (pt_cmpR (Dh.oEq (K := K) rfl hr.units) (pe_ix (Dh.xSeq (K := K) rfl) (pv 0) pe_int (fun _ _ => rfl)) pe_int (nomark _)) (pw_or1 (PW.pt (pw_and (pt_cmpR (Dh.oEq (K := K) rfl hr.units) (pe_ix (Dh.xSeq (K := K) rfl) (pv 0) pe_int (fun _ _ => rfl)) pe_int (nomark _)) (pw_and1 (pt_cmpR op_gt (pe_ix (Dh.xSeq (K := K) rfl) (pv 0) pe_int (fun _ _ => rfl)) pe_int (nomark _))))))))
    (pss_cons (ps_set (i := 2) sc_law_roll.nd rfl (by first | exact Or.inl rfl | exact Or.inr rfl) (pe_op op_mod (pe_callTy Dh.call_intX (by rfl) Z.b_int (by first | exact PySem.boot_int | exact PyProof.Rows.boot_int | decide +kernel) (pa_cons (pe_ix (Dh.xSeq (K := K) rfl) (pv 0) pe_int (fun _ _ => rfl)) pa_nil)) (pv 1)))
    (pss_cons (ps_asg (pe_op op_fdiv (pe_ix (Dh.xSeq (K := K) rfl) (pv 0) pe_int (fun _ _ => rfl)) (pv 1)) (pg_sub (pv 0) pe_int set_list))
    (pss_one (ps_ret (pv 2)))))
    pss_nil)
    (pss_cons (ps_asg pe_int (pg_sub (pv 0) pe_int set_list))
    (pss_cons (ps_asg (pe_op op_mod (pe_callTy Dh.call_intX (by rfl) Z.b_int (by first | exact PySem.boot_int | exact PyProof.Rows.boot_int | decide +kernel) (pa_cons (pe_op (Dh.oAdd (K := K) rfl) (pe_op (Dh.oAdd (K := K) rfl) (pe_op (Dh.oMul (K := K) rfl) (pe_ix (Dh.xSeq (K := K) rfl) (pv 0) pe_int (fun _ _ => rfl)) pe_int) (pe_op (Dh.oMul (K := K) rfl) (pe_ix (Dh.xSeq (K := K) rfl) (pv 0) pe_int (fun _ _ => rfl)) pe_int)) pe_int) pa_nil)) pe_int) (pg_sub (pv 0) pe_int set_list))
    (pss_cons (ps_asg (pe_op (Dh.oAdd (K := K) rfl) (pe_ix (Dh.xSeq (K := K) rfl) (pv 0) pe_int (fun _ _ => rfl)) pe_int) (pg_sub (pv 0) pe_int set_list))
    (pss_one (ps_ret (pe_op op_mod (pe_callTy Dh.call_intX (by rfl) Z.b_int (by first | exact PySem.boot_int | exact PyProof.Rows.boot_int | decide +kernel) (pa_cons (pe_op (Dh.oAdd (K := K) rfl) (pe_op op_fdiv (pe_ix (Dh.xSeq (K := K) rfl) (pv 0) pe_int (fun _ _ => rfl)) pe_int) (pe_ix (Dh.xSeq (K := K) rfl) (pv 0) pe_int (fun _ _ => rfl))) pa_nil)) (pv 1)))))))), ?_⟩
  try dsimp only [L2.cxOf, L2.Cx.blk, LamX.lamCx, L2.Cx.tr]
  obtain ⟨p, n, R, rfl, hE, h0, h1, k⟩ := h
  refine Dh.Go.ent hE (Dh.go_ex fun a => Dh.go_ex fun b => Dh.go_ex fun c => ?_)
  walk_at "vcs"
  all_goals refine Dh.Go.ent (Dh.ent_imp fun h e => ⟨_, _, _, e⟩) (k _ (Int.emod_nonneg _ (by omega)) (Int.emod_lt_of_pos _ h0))
end
end Toy
end

section
local macro_rules | `(tactic| walk_at "pk") => `(tactic| (with_reducible first | exact Dh.pick_here | (refine' Dh.pick_there ?p; (case p => walk_at "pk"))))
local macro_rules | `(tactic| walk_at "ent") => `(tactic| first | (with_reducible exact Dh.ent_refl) | (with_reducible exact Dh.ent_nil) | (refine' Dh.ent_cons ?q0 ?k; (case q0 => walk_at "pk"); (case k => walk_at "ent")) | (refine' Dh.ent_drop ?k; (case k => walk_at "ent")))
local macro_rules | `(tactic| walk_at "side") => `(tactic| first | omega | decide | (simp only [L2.CMul, L2.CDiv, L2.CDivN]; omega) | (unfold L2.CPow; decide) | (simp only [List.length_cons, List.length_nil, List.length_append, List.length_map, List.length_range, List.length_replicate, List.length_set, List.length_take, List.length_drop, PySem.sizeLine_eq] <;> omega))
local macro_rules | `(tactic| walk_at "ixs") => `(tactic| first | assumption | omega | (simp only [List.length_set, List.length_map, List.length_cons, List.length_nil, List.length_append, List.length_replicate] <;> first | assumption | omega))
local macro_rules | `(tactic| walk_at "lk") => `(tactic| first | rfl | assumption | (exact Dh.ixN_lt (by walk_at "ixs")) | (exact Dh.atI_lt (by assumption))  | with_reducible exact Toy.lk_Ring_rows | with_reducible exact Toy.lk_Ring_by_device | with_reducible exact Toy.lk_Ring_done | with_reducible exact Toy.lk_Ring_fill_at | with_reducible exact Toy.lk_Ring_work_at | with_reducible exact Toy.lk_Ring_reap_at | with_reducible exact Toy.lk_Ring_filled | with_reducible exact Toy.no_Ring_init | with_reducible exact Toy.no_Ring_fill | with_reducible exact Toy.no_Ring_work | with_reducible exact Toy.no_Ring_reap | with_reducible exact Toy.no_Ring_left_room | with_reducible exact Toy.lk_Queue_many | with_reducible exact Toy.lk_Queue_round_at | with_reducible exact Toy.lk_Queue_table | with_reducible exact Toy.lk_Queue_free | with_reducible exact Toy.lk_Queue_given | with_reducible exact Toy.lk_Queue_used | with_reducible exact Toy.lk_Queue_given_count | with_reducible exact Toy.lk_Queue_used_count | with_reducible exact Toy.lk_Queue_device_seen | with_reducible exact Toy.lk_Queue_out | with_reducible exact Toy.lk_Queue_driver_seen | with_reducible exact Toy.no_Queue_init | with_reducible exact Toy.no_Queue_give | with_reducible exact Toy.no_Queue_untaken | with_reducible exact Toy.no_Queue_take | with_reducible exact Toy.no_Queue_use | with_reducible exact Toy.no_Queue_reap | with_reducible exact Toy.no_Queue_needs_call | with_reducible exact Toy.lk_Pipe_cells | with_reducible exact Toy.lk_Pipe_put_at | with_reducible exact Toy.lk_Pipe_get_at | with_reducible exact Toy.no_Pipe_init | with_reducible exact Toy.no_Pipe_lying | with_reducible exact Toy.no_Pipe_put | with_reducible exact Toy.no_Pipe_get)
local macro_rules | `(tactic| walk_at "pf") => `(tactic| first  | with_reducible exact Toy.pf_Ring_rows | with_reducible exact Toy.pf_Ring_by_device | with_reducible exact Toy.pf_Ring_done | with_reducible exact Toy.pf_Ring_fill_at | with_reducible exact Toy.pf_Ring_work_at | with_reducible exact Toy.pf_Ring_reap_at | with_reducible exact Toy.pf_Ring_filled | with_reducible exact Toy.gr_Ring_rows | with_reducible exact Toy.gr_Ring_by_device | with_reducible exact Toy.gr_Ring_done | with_reducible exact Toy.gr_Ring_fill_at | with_reducible exact Toy.gr_Ring_work_at | with_reducible exact Toy.gr_Ring_reap_at | with_reducible exact Toy.gr_Ring_filled | with_reducible exact Toy.pf_Queue_many | with_reducible exact Toy.pf_Queue_round_at | with_reducible exact Toy.pf_Queue_table | with_reducible exact Toy.pf_Queue_free | with_reducible exact Toy.pf_Queue_given | with_reducible exact Toy.pf_Queue_used | with_reducible exact Toy.pf_Queue_given_count | with_reducible exact Toy.pf_Queue_used_count | with_reducible exact Toy.pf_Queue_device_seen | with_reducible exact Toy.pf_Queue_out | with_reducible exact Toy.pf_Queue_driver_seen | with_reducible exact Toy.gr_Queue_many | with_reducible exact Toy.gr_Queue_round_at | with_reducible exact Toy.gr_Queue_table | with_reducible exact Toy.gr_Queue_free | with_reducible exact Toy.gr_Queue_given | with_reducible exact Toy.gr_Queue_used | with_reducible exact Toy.gr_Queue_given_count | with_reducible exact Toy.gr_Queue_used_count | with_reducible exact Toy.gr_Queue_device_seen | with_reducible exact Toy.gr_Queue_out | with_reducible exact Toy.gr_Queue_driver_seen | with_reducible exact Toy.pf_Pipe_cells | with_reducible exact Toy.pf_Pipe_put_at | with_reducible exact Toy.pf_Pipe_get_at | with_reducible exact Toy.gr_Pipe_cells | with_reducible exact Toy.gr_Pipe_put_at | with_reducible exact Toy.gr_Pipe_get_at | rfl)
local macro_rules | `(tactic| walk_at "ln") => `(tactic| first  | with_reducible exact Toy.ln_Ring | with_reducible exact Toy.ln_Queue | with_reducible exact Toy.ln_Pipe | decide | (simp only [List.length_cons, List.length_nil] <;> omega))
local macro_rules | `(tactic| walk_at "hasm") => `(tactic| first | (refine' Dh.hasM_ob ?q0 ?q1; (case q0 => walk_at "pk"); (case q1 => walk_at "lk")))
local macro_rules | `(tactic| walk_at "vcp0") => `(tactic| first | ((with_reducible refine' Dh.g_seq ?k)) | ((with_reducible refine' Dh.g_next ?k)) | ((with_reducible refine' Dh.g_nonA ?k)) | ((with_reducible refine' Dh.g_var ?q0 ?k); (case q0 => rfl)) | ((with_reducible refine' Dh.g_c ?k)) | ((with_reducible refine' Dh.g_op ?k)) | ((with_reducible refine' Dh.g_asg ?k)) | ((with_reducible refine' Dh.g_name ?k)) | ((with_reducible refine' Dh.g_ifS ?k)) | ((with_reducible refine' Dh.g_test ?k)) | ((with_reducible refine' Dh.g_isB ?k)) | ((with_reducible refine' Dh.g_B ?k)) | ((with_reducible refine' Dh.g_ret ?k)) | ((with_reducible refine' Dh.g_retN ?k)) | ((with_reducible refine' Dh.g_drop ?k)) | ((with_reducible refine' Dh.g_brk ?k)) | ((with_reducible refine' Dh.g_cont ?k)) | ((with_reducible refine' Dh.g_un ?k)) | ((with_reducible refine' Dh.g_I0 ?k)) | ((with_reducible refine' Dh.g_addI ?k)) | ((with_reducible refine' Dh.g_addB ?k)) | ((with_reducible refine' Dh.g_addS ?q0 ?k); (case q0 => walk_at "side")) | ((with_reducible refine' Dh.g_addM ?q0 ?q1 ?q2 ?k); (case q0 => walk_at "pk"); (case q1 => walk_at "pk"); (case q2 => walk_at "side"); intro _) | ((with_reducible refine' Dh.g_addL ?q0 ?q1 ?q2 ?k); (case q0 => walk_at "pk"); (case q1 => walk_at "pk"); (case q2 => walk_at "side"); intro _))
local macro_rules | `(tactic| walk_at "vcp1") => `(tactic| first | ((with_reducible refine' Dh.g_I ?q0 ?k); (case q0 => walk_at "side")) | ((with_reducible refine' Dh.g_mulI ?q0 ?k); (case q0 => walk_at "side")) | ((with_reducible refine' Dh.g_U ?k)) | ((with_reducible refine' Dh.g_eqS ?q0 ?k); (case q0 => rfl)) | ((with_reducible refine' Dh.g_neS ?q0 ?k); (case q0 => rfl)) | ((with_reducible refine' Dh.g_eqLL ?q0 ?q1 ?k); (case q0 => walk_at "pk"); (case q1 => walk_at "pk")) | ((with_reducible refine' Dh.g_neLL ?q0 ?q1 ?k); (case q0 => walk_at "pk"); (case q1 => walk_at "pk")) | ((with_reducible refine' Dh.g_eqL0 ?q0 ?q1 ?k); (case q0 => walk_at "pk"); (case q1 => walk_at "pk")) | ((with_reducible refine' Dh.g_neL0 ?q0 ?q1 ?k); (case q0 => walk_at "pk"); (case q1 => walk_at "pk")) | ((with_reducible refine' Dh.g_neT0 ?q0 ?q1 ?q2 ?k); (case q0 => walk_at "pk"); (case q1 => walk_at "pk"); (case q2 => walk_at "pk")) | ((with_reducible refine' Dh.g_neP ?q0 ?q1 ?k); (case q0 => walk_at "pk"); (case q1 => walk_at "pk")) | ((with_reducible refine' Dh.g_inI ?q0 ?k); (case q0 => walk_at "pk")) | ((with_reducible refine' Dh.g_isN ?k)) | ((with_reducible refine' Dh.g_notN ?k)) | ((with_reducible refine' Dh.g_ixL ?q0 ?q1 ?k); (case q0 => walk_at "pk"); (case q1 => walk_at "lk")) | ((with_reducible refine' Dh.g_ixT ?q0 ?q1 ?k); (case q0 => walk_at "pk"); (case q1 => walk_at "lk")) | ((with_reducible refine' Dh.g_sl ?k)) | ((with_reducible refine' Dh.g_noPart ?k)) | ((with_reducible refine' Dh.g_part ?k)) | ((with_reducible refine' Dh.g_isSomeInt ?k)) | ((with_reducible refine' Dh.g_slTk ?q0 ?k); (case q0 => walk_at "pk"); intro _) | ((with_reducible refine' Dh.g_slDr ?q0 ?k); (case q0 => walk_at "pk"); intro _) | ((with_reducible refine' Dh.g_slL ?q0 ?k); (case q0 => walk_at "pk"); intro _) | ((with_reducible refine' Dh.g_slQTk ?q0 ?k); (case q0 => walk_at "pk"); intro _))
local macro_rules | `(tactic| walk_at "vcp2") => `(tactic| first | ((with_reducible refine' Dh.g_slQ ?q0 ?k); (case q0 => walk_at "pk"); intro _) | ((with_reducible refine' Dh.g_fldE ?k)) | ((with_reducible refine' Dh.g_fld ?q0 ?q1 ?k); (case q0 => walk_at "pk"); (case q1 => walk_at "lk")) | ((with_reducible refine' Dh.g_tup ?k)) | ((with_reducible refine' Dh.g_lst ?k)) | ((with_reducible refine' Dh.g_newT ?q0 ?k); (case q0 => walk_at "side"); intro _) | ((with_reducible refine' Dh.g_newL ?q0 ?k); (case q0 => walk_at "side"); intro _) | ((with_reducible refine' Dh.g_nil ?k)) | ((with_reducible refine' Dh.g_cons ?k)) | ((with_reducible refine' Dh.g_call ?k)) | ((with_reducible refine' Dh.g_methE ?k)) | ((with_reducible refine' Dh.g_meth ?q0 ?k); (case q0 => walk_at "hasm")) | ((with_reducible refine' Dh.g_make ?k)) | ((with_reducible refine' Dh.g_made ?k); intro _) | ((with_reducible refine' Dh.g_cb ?k)) | ((with_reducible refine' Dh.g_int ?k)) | ((with_reducible refine' Dh.g_intB ?k)) | ((with_reducible refine' Dh.g_abs ?k)) | ((with_reducible refine' Dh.g_max2 ?k)) | ((with_reducible refine' Dh.g_min2 ?k)) | ((with_reducible refine' Dh.g_strI ?q0 ?k); (case q0 => walk_at "side")) | ((with_reducible refine' Dh.g_lenL ?q0 ?k); (case q0 => walk_at "pk")) | ((with_reducible refine' Dh.g_lenT ?q0 ?k); (case q0 => walk_at "pk")) | ((with_reducible refine' Dh.g_lenD ?q0 ?k); (case q0 => walk_at "pk")))
local macro_rules | `(tactic| walk_at "vcp3") => `(tactic| first | ((with_reducible refine' Dh.g_listL ?q0 ?k); (case q0 => walk_at "pk"); intro _) | ((with_reducible refine' Dh.g_listT ?q0 ?k); (case q0 => walk_at "pk"); intro _) | ((with_reducible refine' Dh.g_tupL ?q0 ?k); (case q0 => walk_at "pk"); intro _) | ((with_reducible refine' Dh.g_tupT ?q0 ?k); (case q0 => walk_at "pk")) | ((with_reducible refine' Dh.g_pop0 ?q0 ?k); (case q0 => walk_at "pk")) | ((with_reducible refine' Dh.g_bm ?k)) | ((with_reducible refine' Dh.g_bm0 ?k)) | ((with_reducible refine' Dh.g_tyL ?q0 ?k); (case q0 => walk_at "pk")) | ((with_reducible refine' Dh.g_append ?q0 ?q1 ?k); (case q0 => walk_at "pk"); (case q1 => walk_at "side")) | ((with_reducible refine' Dh.g_rep ?q0 ?q1 ?q2 ?q3 ?k); (case q0 => walk_at "pk"); (case q1 => walk_at "side"); (case q2 => walk_at "side"); (case q3 => walk_at "side"); intro _) | ((with_reducible refine' Dh.g_not ?k)) | ((with_reducible refine' Dh.g_tand ?k)) | ((with_reducible refine' Dh.g_tor ?k)) | ((with_reducible refine' Dh.g_andV ?k)) | ((with_reducible refine' Dh.g_orV ?k)) | ((with_reducible refine' Dh.g_notV ?k)) | ((with_reducible refine' Dh.g_ifE ?k)) | ((with_reducible refine' Dh.g_chain ?k)) | ((with_reducible refine' Dh.g_tru ?k)) | ((with_reducible refine' Dh.g_truB ?k)) | ((with_reducible refine' Dh.g_truI ?k)) | ((with_reducible refine' Dh.g_truN ?k)) | ((with_reducible refine' Dh.g_truL ?q0 ?k); (case q0 => walk_at "pk")) | ((with_reducible refine' Dh.g_gsub ?k)))
local macro_rules | `(tactic| walk_at "vcp4") => `(tactic| first | ((with_reducible refine' Dh.g_setL ?q0 ?q1 ?k); (case q0 => walk_at "pk"); (case q1 => walk_at "lk")) | ((with_reducible refine' Dh.g_gtup ?q0 ?q1 ?k); (case q0 => walk_at "pk"); (case q1 => rfl)) | ((with_reducible refine' Dh.g_gnil ?k)) | ((with_reducible refine' Dh.g_gcons ?k)) | ((with_reducible refine' Dh.g_par ?k)) | ((with_reducible refine' Dh.g_par2 ?k)) | ((with_reducible refine' Dh.g_par3 ?k)) | ((with_reducible refine' Dh.g_par3b ?k)) | ((with_reducible refine' Dh.g_listRg ?k)) | ((with_reducible refine' Dh.g_rg1E ?k)) | ((with_reducible refine' Dh.g_rg1 ?k)) | ((with_reducible refine' Dh.g_rgN ?q0 ?k); (case q0 => walk_at "side"); intro _) | ((with_reducible refine' Dh.g_rgL ?q0 ?k); (case q0 => walk_at "side"); intro _) | ((with_reducible refine' Dh.g_dinE ?k)) | ((with_reducible refine' Dh.g_dinI ?q0 ?k); (case q0 => walk_at "pk")) | ((with_reducible refine' Dh.g_dnotinE ?k)) | ((with_reducible refine' Dh.g_dnotinI ?q0 ?k); (case q0 => walk_at "pk")) | ((with_reducible refine' Dh.g_dgetE ?k)) | ((with_reducible refine' Dh.g_dgetI ?q0 ?q1 ?k); (case q0 => walk_at "pk"); (case q1 => walk_at "lk")) | ((with_reducible refine' Dh.g_dputE ?k)) | ((with_reducible refine' Dh.g_dputI ?q0 ?q1 ?k); (case q0 => walk_at "pk"); (case q1 => walk_at "side")) | ((with_reducible refine' Dh.g_dpopE ?k)) | ((with_reducible refine' Dh.g_dpopA ?q0 ?k); (case q0 => walk_at "pk")) | ((with_reducible refine' Dh.g_dpopB ?q0 ?q1 ?k); (case q0 => walk_at "pk"); (case q1 => walk_at "lk")))
local macro_rules | `(tactic| walk_at "vcp5") => `(tactic| first | ((with_reducible refine' Dh.g_dnew ?k); intro _) | ((with_reducible refine' Dh.g_ipMul ?q0 ?k); (case q0 => walk_at "side")) | ((with_reducible refine' Dh.g_sfldE ?k)) | ((with_reducible refine' Dh.g_sfld ?q0 ?q1 ?q2 ?k); (case q0 => walk_at "pk"); (case q1 => walk_at "pf"); (case q2 => walk_at "ln")) | ((with_reducible refine' Dh.g_augE ?k)) | ((with_reducible refine' Dh.g_augF ?q0 ?q1 ?k); (case q0 => walk_at "pk"); (case q1 => walk_at "lk")) | ((with_reducible refine' Dh.g_augV ?q0 ?k); (case q0 => rfl)) | ((with_reducible refine' Dh.g_ipI ?k)) | ((with_reducible refine' Dh.g_rAdd ?k)) | ((with_reducible refine' Dh.g_rSub ?k)) | ((with_reducible refine' Dh.g_for ?k)) | ((with_reducible refine' Dh.g_iRng1 ?k)) | ((with_reducible refine' Dh.g_iRng2 ?k)) | ((with_reducible refine' Dh.g_rng1 ?q0 ?q1 ?k); (case q0 => walk_at "side"); (case q1 => walk_at "side")) | ((with_reducible refine' Dh.g_rng2 ?q0 ?k); (case q0 => walk_at "side")) | ((with_reducible refine' Dh.g_iSeqE ?k)) | ((with_reducible refine' Dh.g_iSeqL ?q0 ?k); (case q0 => walk_at "pk")) | ((with_reducible refine' Dh.g_iSeqT ?q0 ?k); (case q0 => walk_at "pk")) | ((with_reducible refine' Dh.g_wbody ?k)) | ((with_reducible refine' Dh.g_lcE ?k)) | ((with_reducible refine' Dh.g_turn ?k)) | ((with_reducible refine' Dh.g_tYes ?k)) | ((with_reducible refine' Dh.g_rs ?k)) | ((with_reducible refine' Dh.g_rsW ?k)))
local macro_rules | `(tactic| walk_at "vcp6") => `(tactic| first | ((with_reducible refine' Dh.g_told ?k)) | ((with_reducible refine' Dh.g_ifT ?q0 ?k); (case q0 => rfl)) | ((with_reducible refine' Dh.g_ifF ?q0 ?k); (case q0 => rfl)))
local macro_rules | `(tactic| walk_at "vc1") => `(tactic| first | walk_at "vcp0" | walk_at "vcp1" | walk_at "vcp2" | walk_at "vcp3" | walk_at "vcp4" | walk_at "vcp5" | walk_at "vcp6")
local macro_rules | `(tactic| walk_at "vc") => `(tactic| repeat walk_at "vc1")
local macro_rules | `(tactic| walk_at "spl") => `(tactic| first | ((with_reducible refine Dh.g_ifD ?_ ?_) <;> intro _) | ((with_reducible refine Dh.g_ifN ?_ ?_) <;> intro _) | ((with_reducible refine Dh.g_if ?_ ?_) <;> intro _))
local macro_rules | `(tactic| walk_at "vcs") => `(tactic| repeat' (first | walk_at "vc1" | walk_at "spl"))
namespace Toy
open PySem L2
section
variable {P : Program} {w : World} {K : PySem.W.Frag} {mg : Str → Option Value} {base : Heap} {T : List (Addr × Str)} {C_Ring C_Queue C_Pipe C_BadWord C_BadPlace C_BadPlan C_NotDue C_Stuck C_BadBits C_BadText C_TooLarge g_told : Addr}
/-! the mathematics of a ring -/
theorem mod_inj {n a i j : Nat} (hi : i < n) (hj : j < n) (h : (a + i) % n = (a + j) % n) : i = j := by
  have h1 := Nat.div_add_mod (a + i) n
  have h2 := Nat.div_add_mod (a + j) n
  rw [h] at h1
  rcases Nat.lt_trichotomy ((a + i) / n) ((a + j) / n) with q | q | q
  · have := Nat.mul_le_mul_left n (Nat.succ_le_of_lt q)
    rw [Nat.mul_succ] at this
    omega
  · rw [q] at h1
    omega
  · have := Nat.mul_le_mul_left n (Nat.succ_le_of_lt q)
    rw [Nat.mul_succ] at this
    omega
theorem mod_one {n a : Nat} : (((a % n : Nat) : Int) + 1) % (n : Int) = ((a + 1) % n : Nat) := by
  rw [← Int.natCast_add_one, ← Int.natCast_emod, Nat.mod_add_mod]
theorem mod_one' {n a : Nat} : ((a : Int) + 1) % (n : Int) = ((a + 1) % n : Nat) := by
  rw [← Int.natCast_add_one, ← Int.natCast_emod]
structure RingOk (n : Nat) (W F : List Int) (rows bs ds : List V) (fa wa ra fl : Int) (a : Nat) : Prop where
  l1 : rows.length = n
  l2 : bs.length = n
  l3 : ds.length = n
  ha : a < n
  hm : W.length + F.length ≤ n
  era : ra = (a : Int)
  efa : fa = ((a + (W.length + F.length)) % n : Nat)
  ewa : wa = ((a + W.length) % n : Nat)
  efl : fl = (W.length + F.length : Nat)
  rw : ∀ (j : Nat) (x : Int), (W ++ F)[j]? = some x → rows[(a + j) % n]? = some (.int x)
  bs : ∀ j, j < n → bs[(a + j) % n]? = some (.bl (decide (W.length ≤ j ∧ j < W.length + F.length)))
  ds : ∀ j, j < n → ds[(a + j) % n]? = some (.bl (decide (j < W.length)))
section
variable {n a : Nat} {W F : List Int} {rows bs ds : List V} {fa wa ra fl x v : Int}
theorem ring_new (hn : 0 < n) : RingOk n [] [] (List.replicate n .non) (List.replicate n (.bl false)) (List.replicate n (.bl false)) 0 0 0 0 0 where
  l1 := List.length_replicate
  l2 := List.length_replicate
  l3 := List.length_replicate
  ha := hn
  hm := Nat.zero_le _
  era := rfl
  efa := by simp
  ewa := by simp
  efl := rfl
  rw := fun j x h => by simp at h
  bs := fun j hj => by
    rw [List.getElem?_replicate, if_pos (Nat.mod_lt _ hn)]
    simp
  ds := fun j hj => by
    rw [List.getElem?_replicate, if_pos (Nat.mod_lt _ hn)]
    simp
theorem RingOk.fill (R : RingOk n W F rows bs ds fa wa ra fl a) (h : W.length + F.length < n) :
    RingOk n W (F ++ [v]) (rows.set ((a + (W.length + F.length)) % n) (.int v)) (bs.set ((a + (W.length + F.length)) % n) (.bl true)) (ds.set ((a + (W.length + F.length)) % n) (.bl false))
      ((fa + 1) % ((rows.set ((a + (W.length + F.length)) % n) (.int v)).length : Int)) wa ra (fl + 1) a := by
  obtain ⟨l1, l2, l3, ha, hm, rfl, rfl, rfl, rfl, rw_, bs_, ds_⟩ := R
  have hk : (a + (W.length + F.length)) % n < n := Nat.mod_lt _ (by omega)
  have el : (F ++ [v]).length = F.length + 1 := by simp
  refine ⟨by simp [l1], by simp [l2], by simp [l3], ha, by omega, rfl, ?_, rfl, by rw [el]; omega, fun j x hx => ?_, fun j hj => ?_, fun j hj => ?_⟩
  · rw [List.length_set, l1, mod_one, el, Nat.add_assoc]
    rfl
  · rw [← List.append_assoc] at hx
    by_cases hj : j = W.length + F.length
    · subst hj
      rw [List.getElem?_append_right (by simp)] at hx
      simp at hx
      rw [List.getElem?_set_self (by omega), hx]
    · have hj2 : j < (W ++ F).length := by
        have := (List.getElem?_eq_some_iff.mp hx).1
        simp at this ⊢
        omega
      rw [List.getElem?_append_left hj2] at hx
      have hj3 : j < W.length + F.length := by simpa using hj2
      rw [List.getElem?_set_ne (fun e => hj (mod_inj (by omega) h e.symm))]
      exact rw_ j x hx
  · by_cases hjm : j = W.length + F.length
    · subst hjm
      rw [List.getElem?_set_self (by omega), el]
      congr 2
      exact (decide_eq_true (by omega)).symm
    · rw [List.getElem?_set_ne (fun e => hjm (mod_inj hj h e.symm)), bs_ j hj, el]
      congr 2
      exact decide_eq_decide.mpr (by omega)
  · by_cases hjm : j = W.length + F.length
    · subst hjm
      rw [List.getElem?_set_self (by omega)]
      congr 2
      exact (decide_eq_false (by omega)).symm
    · rw [List.getElem?_set_ne (fun e => hjm (mod_inj hj h e.symm)), ds_ j hj]
theorem RingOk.work (R : RingOk n W (x :: F) rows bs ds fa wa ra fl a) :
    RingOk n (W ++ [x]) F rows (bs.set ((a + W.length) % n) (.bl false)) (ds.set ((a + W.length) % n) (.bl true)) fa ((wa + 1) % (rows.length : Int)) ra fl a := by
  obtain ⟨l1, l2, l3, ha, hm, rfl, rfl, rfl, rfl, rw_, bs_, ds_⟩ := R
  have el : (W ++ [x]).length = W.length + 1 := by simp
  have ec : (x :: F).length = F.length + 1 := rfl
  rw [ec] at hm bs_
  have hw : W.length < n := by omega
  have hk : (a + W.length) % n < n := Nat.mod_lt _ (by omega)
  refine ⟨l1, by simp [l2], by simp [l3], ha, by omega, rfl, ?_, ?_, ?_, fun j y hy => ?_, fun j hj => ?_, fun j hj => ?_⟩
  · rw [el, ec, Nat.add_right_comm, Nat.add_assoc]
  · rw [l1, mod_one, el, Nat.add_assoc]
  · rw [el, ec]
    omega
  · rw [List.append_assoc] at hy
    exact rw_ j y hy
  · by_cases hjm : j = W.length
    · subst hjm
      rw [List.getElem?_set_self (by omega), el]
      congr 2
      exact (decide_eq_false (by omega)).symm
    · rw [List.getElem?_set_ne (fun e => hjm (mod_inj hj hw e.symm)), bs_ j hj, el]
      congr 2
      exact decide_eq_decide.mpr (by omega)
  · by_cases hjm : j = W.length
    · subst hjm
      rw [List.getElem?_set_self (by omega), el]
      congr 2
      exact (decide_eq_true (by omega)).symm
    · rw [List.getElem?_set_ne (fun e => hjm (mod_inj hj hw e.symm)), ds_ j hj, el]
      congr 2
      exact decide_eq_decide.mpr (by omega)
theorem RingOk.reap (R : RingOk n (x :: W) F rows bs ds fa wa ra fl a) :
    RingOk n W F rows bs (ds.set a (.bl false)) fa wa ((ra + 1) % (rows.length : Int)) (fl - 1) ((a + 1) % n) := by
  obtain ⟨l1, l2, l3, ha, hm, rfl, rfl, rfl, rfl, rw_, bs_, ds_⟩ := R
  have ec : (x :: W).length = W.length + 1 := rfl
  rw [ec] at hm bs_ ds_
  have e0 : ∀ j, ((a + 1) % n + j) % n = (a + (j + 1)) % n := fun j => by rw [Nat.mod_add_mod]; congr 1; omega
  have a0 : (a + 0) % n = a := Nat.mod_eq_of_lt ha
  refine ⟨l1, l2, by simp [l3], Nat.mod_lt _ (by omega), by omega, by rw [l1, mod_one'], ?_, ?_, ?_, fun j y hy => ?_, fun j hj => ?_, fun j hj => ?_⟩
  · rw [e0, ec]
    congr 2
    omega
  · rw [e0, ec]
  · rw [ec]
    omega
  · rw [e0]
    exact rw_ (j + 1) y hy
  · rw [e0]
    by_cases hj1 : j + 1 < n
    · rw [bs_ _ hj1]
      congr 2
      exact decide_eq_decide.mpr (by omega)
    · have e : (a + (j + 1)) % n = (a + 0) % n := by
        have : j + 1 = n := by omega
        rw [this, Nat.add_mod_right]
        rfl
      rw [e, bs_ 0 (by omega)]
      congr 2
      exact decide_eq_decide.mpr (by omega)
  · rw [e0]
    by_cases hj1 : j + 1 < n
    · have ne : a ≠ (a + (j + 1)) % n := fun e => by
        have := mod_inj (a := a) (i := 0) (j := j + 1) (by omega) hj1 (by rw [a0]; exact e)
        omega
      rw [List.getElem?_set_ne ne, ds_ _ hj1]
      congr 2
      exact decide_eq_decide.mpr (by omega)
    · have e : (a + (j + 1)) % n = a := by
        have : j + 1 = n := by omega
        rw [this, Nat.add_mod_right, Nat.mod_eq_of_lt ha]
      rw [e, List.getElem?_set_self (by omega)]
      congr 2
      exact (decide_eq_false (by omega)).symm
theorem RingOk.atW (R : RingOk n W (x :: F) rows bs ds fa wa ra fl a) : rows[(a + W.length) % n]? = some (.int x) := R.rw W.length x (by rw [List.getElem?_append_right (Nat.le_refl _)]; simp)
theorem RingOk.atR (R : RingOk n (x :: W) F rows bs ds fa wa ra fl a) : rows[a]? = some (.int x) := by
  have h := R.rw 0 x rfl
  rwa [Nat.add_zero, Nat.mod_eq_of_lt R.ha] at h
theorem RingOk.bsW (R : RingOk n W F rows bs ds fa wa ra fl a) : bs[(a + W.length) % n]? = some (.bl (!F.isEmpty)) := by
  have hm := R.hm
  have ha := R.ha
  by_cases h : W.length < n
  · rw [R.bs _ h]
    cases F with
    | nil => simp
    | cons y F => simp
  · have e : (a + W.length) % n = (a + 0) % n := by
      have : W.length = n := by omega
      rw [this, Nat.add_mod_right]
      rfl
    have ef : F = [] := List.length_eq_zero_iff.mp (by omega)
    rw [e, R.bs 0 (by omega), ef]
    congr 2
    exact decide_eq_false (by omega)
theorem RingOk.dsR (R : RingOk n W F rows bs ds fa wa ra fl a) : ds[a]? = some (.bl (!W.isEmpty)) := by
  have h := R.ds 0 (by have := R.ha; omega)
  rw [Nat.add_zero, Nat.mod_eq_of_lt R.ha] at h
  rw [h]
  cases W <;> simp
theorem RingOk.bsR (R : RingOk n (x :: W) F rows bs ds fa wa ra fl a) : bs[a]? = some (.bl false) := by
  have h := R.bs 0 (by have := R.ha; omega)
  rw [Nat.add_zero, Nat.mod_eq_of_lt R.ha] at h
  rw [h]
  simp
end
end
end Toy
end

section
local macro_rules | `(tactic| walk_at "pk") => `(tactic| (with_reducible first | exact Dh.pick_here | (refine' Dh.pick_there ?p; (case p => walk_at "pk"))))
local macro_rules | `(tactic| walk_at "ent") => `(tactic| first | (with_reducible exact Dh.ent_refl) | (with_reducible exact Dh.ent_nil) | (refine' Dh.ent_cons ?q0 ?k; (case q0 => walk_at "pk"); (case k => walk_at "ent")) | (refine' Dh.ent_drop ?k; (case k => walk_at "ent")))
local macro_rules | `(tactic| walk_at "side") => `(tactic| first | omega | decide | (simp only [L2.CMul, L2.CDiv, L2.CDivN]; omega) | (unfold L2.CPow; decide) | (simp only [List.length_cons, List.length_nil, List.length_append, List.length_map, List.length_range, List.length_replicate, List.length_set, List.length_take, List.length_drop, PySem.sizeLine_eq] <;> omega))
local macro_rules | `(tactic| walk_at "ixs") => `(tactic| first | assumption | omega | (simp only [List.length_set, List.length_map, List.length_cons, List.length_nil, List.length_append, List.length_replicate] <;> first | assumption | omega))
local macro_rules | `(tactic| walk_at "lk") => `(tactic| first | rfl | assumption | (exact Dh.ixN_lt (by walk_at "ixs")) | (exact Dh.atI_lt (by assumption))  | with_reducible exact Toy.lk_Ring_rows | with_reducible exact Toy.lk_Ring_by_device | with_reducible exact Toy.lk_Ring_done | with_reducible exact Toy.lk_Ring_fill_at | with_reducible exact Toy.lk_Ring_work_at | with_reducible exact Toy.lk_Ring_reap_at | with_reducible exact Toy.lk_Ring_filled | with_reducible exact Toy.no_Ring_init | with_reducible exact Toy.no_Ring_fill | with_reducible exact Toy.no_Ring_work | with_reducible exact Toy.no_Ring_reap | with_reducible exact Toy.no_Ring_left_room | with_reducible exact Toy.lk_Queue_many | with_reducible exact Toy.lk_Queue_round_at | with_reducible exact Toy.lk_Queue_table | with_reducible exact Toy.lk_Queue_free | with_reducible exact Toy.lk_Queue_given | with_reducible exact Toy.lk_Queue_used | with_reducible exact Toy.lk_Queue_given_count | with_reducible exact Toy.lk_Queue_used_count | with_reducible exact Toy.lk_Queue_device_seen | with_reducible exact Toy.lk_Queue_out | with_reducible exact Toy.lk_Queue_driver_seen | with_reducible exact Toy.no_Queue_init | with_reducible exact Toy.no_Queue_give | with_reducible exact Toy.no_Queue_untaken | with_reducible exact Toy.no_Queue_take | with_reducible exact Toy.no_Queue_use | with_reducible exact Toy.no_Queue_reap | with_reducible exact Toy.no_Queue_needs_call | with_reducible exact Toy.lk_Pipe_cells | with_reducible exact Toy.lk_Pipe_put_at | with_reducible exact Toy.lk_Pipe_get_at | with_reducible exact Toy.no_Pipe_init | with_reducible exact Toy.no_Pipe_lying | with_reducible exact Toy.no_Pipe_put | with_reducible exact Toy.no_Pipe_get)
local macro_rules | `(tactic| walk_at "pf") => `(tactic| first  | with_reducible exact Toy.pf_Ring_rows | with_reducible exact Toy.pf_Ring_by_device | with_reducible exact Toy.pf_Ring_done | with_reducible exact Toy.pf_Ring_fill_at | with_reducible exact Toy.pf_Ring_work_at | with_reducible exact Toy.pf_Ring_reap_at | with_reducible exact Toy.pf_Ring_filled | with_reducible exact Toy.gr_Ring_rows | with_reducible exact Toy.gr_Ring_by_device | with_reducible exact Toy.gr_Ring_done | with_reducible exact Toy.gr_Ring_fill_at | with_reducible exact Toy.gr_Ring_work_at | with_reducible exact Toy.gr_Ring_reap_at | with_reducible exact Toy.gr_Ring_filled | with_reducible exact Toy.pf_Queue_many | with_reducible exact Toy.pf_Queue_round_at | with_reducible exact Toy.pf_Queue_table | with_reducible exact Toy.pf_Queue_free | with_reducible exact Toy.pf_Queue_given | with_reducible exact Toy.pf_Queue_used | with_reducible exact Toy.pf_Queue_given_count | with_reducible exact Toy.pf_Queue_used_count | with_reducible exact Toy.pf_Queue_device_seen | with_reducible exact Toy.pf_Queue_out | with_reducible exact Toy.pf_Queue_driver_seen | with_reducible exact Toy.gr_Queue_many | with_reducible exact Toy.gr_Queue_round_at | with_reducible exact Toy.gr_Queue_table | with_reducible exact Toy.gr_Queue_free | with_reducible exact Toy.gr_Queue_given | with_reducible exact Toy.gr_Queue_used | with_reducible exact Toy.gr_Queue_given_count | with_reducible exact Toy.gr_Queue_used_count | with_reducible exact Toy.gr_Queue_device_seen | with_reducible exact Toy.gr_Queue_out | with_reducible exact Toy.gr_Queue_driver_seen | with_reducible exact Toy.pf_Pipe_cells | with_reducible exact Toy.pf_Pipe_put_at | with_reducible exact Toy.pf_Pipe_get_at | with_reducible exact Toy.gr_Pipe_cells | with_reducible exact Toy.gr_Pipe_put_at | with_reducible exact Toy.gr_Pipe_get_at | rfl)
local macro_rules | `(tactic| walk_at "ln") => `(tactic| first  | with_reducible exact Toy.ln_Ring | with_reducible exact Toy.ln_Queue | with_reducible exact Toy.ln_Pipe | decide | (simp only [List.length_cons, List.length_nil] <;> omega))
local macro_rules | `(tactic| walk_at "hasm") => `(tactic| first | (refine' Dh.hasM_ob ?q0 ?q1; (case q0 => walk_at "pk"); (case q1 => walk_at "lk")))
local macro_rules | `(tactic| walk_at "vcp0") => `(tactic| first | ((with_reducible refine' Dh.g_seq ?k)) | ((with_reducible refine' Dh.g_next ?k)) | ((with_reducible refine' Dh.g_nonA ?k)) | ((with_reducible refine' Dh.g_var ?q0 ?k); (case q0 => rfl)) | ((with_reducible refine' Dh.g_c ?k)) | ((with_reducible refine' Dh.g_op ?k)) | ((with_reducible refine' Dh.g_asg ?k)) | ((with_reducible refine' Dh.g_name ?k)) | ((with_reducible refine' Dh.g_ifS ?k)) | ((with_reducible refine' Dh.g_test ?k)) | ((with_reducible refine' Dh.g_isB ?k)) | ((with_reducible refine' Dh.g_B ?k)) | ((with_reducible refine' Dh.g_ret ?k)) | ((with_reducible refine' Dh.g_retN ?k)) | ((with_reducible refine' Dh.g_drop ?k)) | ((with_reducible refine' Dh.g_brk ?k)) | ((with_reducible refine' Dh.g_cont ?k)) | ((with_reducible refine' Dh.g_un ?k)) | ((with_reducible refine' Dh.g_I0 ?k)) | ((with_reducible refine' Dh.g_addI ?k)) | ((with_reducible refine' Dh.g_addB ?k)) | ((with_reducible refine' Dh.g_addS ?q0 ?k); (case q0 => walk_at "side")) | ((with_reducible refine' Dh.g_addM ?q0 ?q1 ?q2 ?k); (case q0 => walk_at "pk"); (case q1 => walk_at "pk"); (case q2 => walk_at "side"); intro _) | ((with_reducible refine' Dh.g_addL ?q0 ?q1 ?q2 ?k); (case q0 => walk_at "pk"); (case q1 => walk_at "pk"); (case q2 => walk_at "side"); intro _))
local macro_rules | `(tactic| walk_at "vcp1") => `(tactic| first | ((with_reducible refine' Dh.g_I ?q0 ?k); (case q0 => walk_at "side")) | ((with_reducible refine' Dh.g_mulI ?q0 ?k); (case q0 => walk_at "side")) | ((with_reducible refine' Dh.g_U ?k)) | ((with_reducible refine' Dh.g_eqS ?q0 ?k); (case q0 => rfl)) | ((with_reducible refine' Dh.g_neS ?q0 ?k); (case q0 => rfl)) | ((with_reducible refine' Dh.g_eqLL ?q0 ?q1 ?k); (case q0 => walk_at "pk"); (case q1 => walk_at "pk")) | ((with_reducible refine' Dh.g_neLL ?q0 ?q1 ?k); (case q0 => walk_at "pk"); (case q1 => walk_at "pk")) | ((with_reducible refine' Dh.g_eqL0 ?q0 ?q1 ?k); (case q0 => walk_at "pk"); (case q1 => walk_at "pk")) | ((with_reducible refine' Dh.g_neL0 ?q0 ?q1 ?k); (case q0 => walk_at "pk"); (case q1 => walk_at "pk")) | ((with_reducible refine' Dh.g_neT0 ?q0 ?q1 ?q2 ?k); (case q0 => walk_at "pk"); (case q1 => walk_at "pk"); (case q2 => walk_at "pk")) | ((with_reducible refine' Dh.g_neP ?q0 ?q1 ?k); (case q0 => walk_at "pk"); (case q1 => walk_at "pk")) | ((with_reducible refine' Dh.g_inI ?q0 ?k); (case q0 => walk_at "pk")) | ((with_reducible refine' Dh.g_isN ?k)) | ((with_reducible refine' Dh.g_notN ?k)) | ((with_reducible refine' Dh.g_ixL ?q0 ?q1 ?k); (case q0 => walk_at "pk"); (case q1 => walk_at "lk")) | ((with_reducible refine' Dh.g_ixT ?q0 ?q1 ?k); (case q0 => walk_at "pk"); (case q1 => walk_at "lk")) | ((with_reducible refine' Dh.g_sl ?k)) | ((with_reducible refine' Dh.g_noPart ?k)) | ((with_reducible refine' Dh.g_part ?k)) | ((with_reducible refine' Dh.g_isSomeInt ?k)) | ((with_reducible refine' Dh.g_slTk ?q0 ?k); (case q0 => walk_at "pk"); intro _) | ((with_reducible refine' Dh.g_slDr ?q0 ?k); (case q0 => walk_at "pk"); intro _) | ((with_reducible refine' Dh.g_slL ?q0 ?k); (case q0 => walk_at "pk"); intro _) | ((with_reducible refine' Dh.g_slQTk ?q0 ?k); (case q0 => walk_at "pk"); intro _))
local macro_rules | `(tactic| walk_at "vcp2") => `(tactic| first | ((with_reducible refine' Dh.g_slQ ?q0 ?k); (case q0 => walk_at "pk"); intro _) | ((with_reducible refine' Dh.g_fldE ?k)) | ((with_reducible refine' Dh.g_fld ?q0 ?q1 ?k); (case q0 => walk_at "pk"); (case q1 => walk_at "lk")) | ((with_reducible refine' Dh.g_tup ?k)) | ((with_reducible refine' Dh.g_lst ?k)) | ((with_reducible refine' Dh.g_newT ?q0 ?k); (case q0 => walk_at "side"); intro _) | ((with_reducible refine' Dh.g_newL ?q0 ?k); (case q0 => walk_at "side"); intro _) | ((with_reducible refine' Dh.g_nil ?k)) | ((with_reducible refine' Dh.g_cons ?k)) | ((with_reducible refine' Dh.g_call ?k)) | ((with_reducible refine' Dh.g_methE ?k)) | ((with_reducible refine' Dh.g_meth ?q0 ?k); (case q0 => walk_at "hasm")) | ((with_reducible refine' Dh.g_make ?k)) | ((with_reducible refine' Dh.g_made ?k); intro _) | ((with_reducible refine' Dh.g_cb ?k)) | ((with_reducible refine' Dh.g_int ?k)) | ((with_reducible refine' Dh.g_intB ?k)) | ((with_reducible refine' Dh.g_abs ?k)) | ((with_reducible refine' Dh.g_max2 ?k)) | ((with_reducible refine' Dh.g_min2 ?k)) | ((with_reducible refine' Dh.g_strI ?q0 ?k); (case q0 => walk_at "side")) | ((with_reducible refine' Dh.g_lenL ?q0 ?k); (case q0 => walk_at "pk")) | ((with_reducible refine' Dh.g_lenT ?q0 ?k); (case q0 => walk_at "pk")) | ((with_reducible refine' Dh.g_lenD ?q0 ?k); (case q0 => walk_at "pk")))
local macro_rules | `(tactic| walk_at "vcp3") => `(tactic| first | ((with_reducible refine' Dh.g_listL ?q0 ?k); (case q0 => walk_at "pk"); intro _) | ((with_reducible refine' Dh.g_listT ?q0 ?k); (case q0 => walk_at "pk"); intro _) | ((with_reducible refine' Dh.g_tupL ?q0 ?k); (case q0 => walk_at "pk"); intro _) | ((with_reducible refine' Dh.g_tupT ?q0 ?k); (case q0 => walk_at "pk")) | ((with_reducible refine' Dh.g_pop0 ?q0 ?k); (case q0 => walk_at "pk")) | ((with_reducible refine' Dh.g_bm ?k)) | ((with_reducible refine' Dh.g_bm0 ?k)) | ((with_reducible refine' Dh.g_tyL ?q0 ?k); (case q0 => walk_at "pk")) | ((with_reducible refine' Dh.g_append ?q0 ?q1 ?k); (case q0 => walk_at "pk"); (case q1 => walk_at "side")) | ((with_reducible refine' Dh.g_rep ?q0 ?q1 ?q2 ?q3 ?k); (case q0 => walk_at "pk"); (case q1 => walk_at "side"); (case q2 => walk_at "side"); (case q3 => walk_at "side"); intro _) | ((with_reducible refine' Dh.g_not ?k)) | ((with_reducible refine' Dh.g_tand ?k)) | ((with_reducible refine' Dh.g_tor ?k)) | ((with_reducible refine' Dh.g_andV ?k)) | ((with_reducible refine' Dh.g_orV ?k)) | ((with_reducible refine' Dh.g_notV ?k)) | ((with_reducible refine' Dh.g_ifE ?k)) | ((with_reducible refine' Dh.g_chain ?k)) | ((with_reducible refine' Dh.g_tru ?k)) | ((with_reducible refine' Dh.g_truB ?k)) | ((with_reducible refine' Dh.g_truI ?k)) | ((with_reducible refine' Dh.g_truN ?k)) | ((with_reducible refine' Dh.g_truL ?q0 ?k); (case q0 => walk_at "pk")) | ((with_reducible refine' Dh.g_gsub ?k)))
local macro_rules | `(tactic| walk_at "vcp4") => `(tactic| first | ((with_reducible refine' Dh.g_setL ?q0 ?q1 ?k); (case q0 => walk_at "pk"); (case q1 => walk_at "lk")) | ((with_reducible refine' Dh.g_gtup ?q0 ?q1 ?k); (case q0 => walk_at "pk"); (case q1 => rfl)) | ((with_reducible refine' Dh.g_gnil ?k)) | ((with_reducible refine' Dh.g_gcons ?k)) | ((with_reducible refine' Dh.g_par ?k)) | ((with_reducible refine' Dh.g_par2 ?k)) | ((with_reducible refine' Dh.g_par3 ?k)) | ((with_reducible refine' Dh.g_par3b ?k)) | ((with_reducible refine' Dh.g_listRg ?k)) | ((with_reducible refine' Dh.g_rg1E ?k)) | ((with_reducible refine' Dh.g_rg1 ?k)) | ((with_reducible refine' Dh.g_rgN ?q0 ?k); (case q0 => walk_at "side"); intro _) | ((with_reducible refine' Dh.g_rgL ?q0 ?k); (case q0 => walk_at "side"); intro _) | ((with_reducible refine' Dh.g_dinE ?k)) | ((with_reducible refine' Dh.g_dinI ?q0 ?k); (case q0 => walk_at "pk")) | ((with_reducible refine' Dh.g_dnotinE ?k)) | ((with_reducible refine' Dh.g_dnotinI ?q0 ?k); (case q0 => walk_at "pk")) | ((with_reducible refine' Dh.g_dgetE ?k)) | ((with_reducible refine' Dh.g_dgetI ?q0 ?q1 ?k); (case q0 => walk_at "pk"); (case q1 => walk_at "lk")) | ((with_reducible refine' Dh.g_dputE ?k)) | ((with_reducible refine' Dh.g_dputI ?q0 ?q1 ?k); (case q0 => walk_at "pk"); (case q1 => walk_at "side")) | ((with_reducible refine' Dh.g_dpopE ?k)) | ((with_reducible refine' Dh.g_dpopA ?q0 ?k); (case q0 => walk_at "pk")) | ((with_reducible refine' Dh.g_dpopB ?q0 ?q1 ?k); (case q0 => walk_at "pk"); (case q1 => walk_at "lk")))
local macro_rules | `(tactic| walk_at "vcp5") => `(tactic| first | ((with_reducible refine' Dh.g_dnew ?k); intro _) | ((with_reducible refine' Dh.g_ipMul ?q0 ?k); (case q0 => walk_at "side")) | ((with_reducible refine' Dh.g_sfldE ?k)) | ((with_reducible refine' Dh.g_sfld ?q0 ?q1 ?q2 ?k); (case q0 => walk_at "pk"); (case q1 => walk_at "pf"); (case q2 => walk_at "ln")) | ((with_reducible refine' Dh.g_augE ?k)) | ((with_reducible refine' Dh.g_augF ?q0 ?q1 ?k); (case q0 => walk_at "pk"); (case q1 => walk_at "lk")) | ((with_reducible refine' Dh.g_augV ?q0 ?k); (case q0 => rfl)) | ((with_reducible refine' Dh.g_ipI ?k)) | ((with_reducible refine' Dh.g_rAdd ?k)) | ((with_reducible refine' Dh.g_rSub ?k)) | ((with_reducible refine' Dh.g_for ?k)) | ((with_reducible refine' Dh.g_iRng1 ?k)) | ((with_reducible refine' Dh.g_iRng2 ?k)) | ((with_reducible refine' Dh.g_rng1 ?q0 ?q1 ?k); (case q0 => walk_at "side"); (case q1 => walk_at "side")) | ((with_reducible refine' Dh.g_rng2 ?q0 ?k); (case q0 => walk_at "side")) | ((with_reducible refine' Dh.g_iSeqE ?k)) | ((with_reducible refine' Dh.g_iSeqL ?q0 ?k); (case q0 => walk_at "pk")) | ((with_reducible refine' Dh.g_iSeqT ?q0 ?k); (case q0 => walk_at "pk")) | ((with_reducible refine' Dh.g_wbody ?k)) | ((with_reducible refine' Dh.g_lcE ?k)) | ((with_reducible refine' Dh.g_turn ?k)) | ((with_reducible refine' Dh.g_tYes ?k)) | ((with_reducible refine' Dh.g_rs ?k)) | ((with_reducible refine' Dh.g_rsW ?k)))
local macro_rules | `(tactic| walk_at "vcp6") => `(tactic| first | ((with_reducible refine' Dh.g_told ?k)) | ((with_reducible refine' Dh.g_ifT ?q0 ?k); (case q0 => rfl)) | ((with_reducible refine' Dh.g_ifF ?q0 ?k); (case q0 => rfl)))
local macro_rules | `(tactic| walk_at "vc1") => `(tactic| first | walk_at "vcp0" | walk_at "vcp1" | walk_at "vcp2" | walk_at "vcp3" | walk_at "vcp4" | walk_at "vcp5" | walk_at "vcp6")
local macro_rules | `(tactic| walk_at "vc") => `(tactic| repeat walk_at "vc1")
local macro_rules | `(tactic| walk_at "spl") => `(tactic| first | ((with_reducible refine Dh.g_ifD ?_ ?_) <;> intro _) | ((with_reducible refine Dh.g_ifN ?_ ?_) <;> intro _) | ((with_reducible refine Dh.g_if ?_ ?_) <;> intro _))
local macro_rules | `(tactic| walk_at "vcs") => `(tactic| repeat' (first | walk_at "vc1" | walk_at "spl"))
namespace Toy
open PySem L2
section
variable {P : Program} {w : World} {K : PySem.W.Frag} {mg : Str → Option Value} {base : Heap} {T : List (Addr × Str)} {C_Ring C_Queue C_Pipe C_BadWord C_BadPlace C_BadPlan C_NotDue C_Stuck C_BadBits C_BadText C_TooLarge g_told : Addr}
def RingAt (C p : Addr) (n : Nat) (W F : List Int) : Dh.HP := fun H => ∃ (r d e : Addr) (rows bs ds : List V) (fa wa ra fl : Int) (a : Nat), RingOk n W F rows bs ds fa wa ra fl a ∧
  Dh.Seps [Dh.ob p C (fs_Ring (.ref r) (.ref d) (.ref e) (.int fa) (.int wa) (.int ra) (.int fl)), Dh.pt r (.lst rows), Dh.pt d (.lst bs), Dh.pt e (.lst ds)] H
theorem go_ring {C p : Addr} {n : Nat} {W F : List Int} {L : List Dh.HP} {G : Hp → Prop} (g : ∀ r d e rows bs ds fa wa ra fl a, RingOk n W F rows bs ds fa wa ra fl a →
    Dh.Go T (Dh.ob p C (fs_Ring (.ref r) (.ref d) (.ref e) (.int fa) (.int wa) (.int ra) (.int fl)) :: Dh.pt r (.lst rows) :: Dh.pt d (.lst bs) :: Dh.pt e (.lst ds) :: L) G) : Dh.Go T (RingAt C p n W F :: L) G := fun H t s => by
  obtain ⟨h1, h2, d, n1, n2, s1, s2, ⟨r, dd, e, rows, bs, ds, fa, wa, ra, fl, a, ok, ss⟩, q⟩ := s
  exact g r dd e rows bs ds fa wa ra fl a ok H t (Dh.Seps.paste (L1 := [_, _, _, _]) ⟨h1, h2, d, n1, n2, s1, s2, ss, q⟩)
theorem fold_ring {C p r d e : Addr} {n a : Nat} {W F : List Int} {rows bs ds : List V} {fa wa ra fl : Int} {L R : List Dh.HP} {G : Hp → Prop} (ok : RingOk n W F rows bs ds fa wa ra fl a)
    (pe : Dh.Ent L (Dh.ob p C (fs_Ring (.ref r) (.ref d) (.ref e) (.int fa) (.int wa) (.int ra) (.int fl)) :: Dh.pt r (.lst rows) :: Dh.pt d (.lst bs) :: Dh.pt e (.lst ds) :: R)) (g : Dh.Go T (RingAt C p n W F :: R) G) : Dh.Go T L G :=
  g.ent (Dh.ent_fold (A := [_, _, _, _]) pe fun H h => ⟨r, d, e, rows, bs, ds, fa, wa, ra, fl, a, ok, h⟩)
def sg_Ring___init__ (T : List (Addr × Str)) (K : PySem.W.Frag) (C_Ring C_Queue C_Pipe C_BadWord C_BadPlace C_BadPlan C_NotDue C_Stuck C_BadBits C_BadText C_TooLarge g_told : Addr) : Dh.SG :=
  fun vs L Q E => ∃ (p : Addr) (n : Int) (R : List Dh.HP), vs = [.ref p, .int n] ∧ Dh.Ent L (Dh.ob p C_Ring [] :: R) ∧ n ≤ 1000 ∧ (n < 1 → Dh.Go T R fun H => E (.ref C_BadPlan) none H) ∧
    (∀ m : Nat, n = (m : Int) → 0 < m → Dh.Go T (RingAt C_Ring p m [] [] :: R) fun H => Q .non H)
set_option maxHeartbeats 8000000 in
theorem ok_Ring___init__ (Z : Txt K mg C_Ring C_Queue C_Pipe C_BadWord C_BadPlace C_BadPlan C_NotDue C_Stuck C_BadBits C_BadText C_TooLarge g_told)  {f : Addr} {fd : FuncData} {cdv : Value} (F : Dh.FunC K "__init__" "Ring.__init__" s_Ring___init__ f fd cdv) :
    FnOk P w K mg base (L2.CX P w) 1 f fd ["self", "many"] (Dh.sOfN T 2 (sg_Ring___init__ T K C_Ring C_Queue C_Pipe C_BadWord C_BadPlace C_BadPlan C_NotDue C_Stuck C_BadBits C_BadText C_TooLarge g_told)) := by
  refine Dh.fnX (k := 0) F sc_Ring___init__ rfl (fun A outer s H0 L vs Q E hr hl h => ?_)
  refine ⟨_, (pss_cons (ps_if (pt_cmpR op_lt (pv 1) pe_int (nomark _))
    (pss_one (Dh.ps_rs rfl (takes_of rfl rfl rfl rfl) Z.e_BadPlan rfl))
    pss_nil)
    (pss_cons (Dh.ps_fldC Z.c_Ring Z.n_Ring_rows (pv 0) (pe_op (Dh.oMul (K := K) rfl) (pe_lst (pa_cons pe_non pa_nil)) (pv 1)))
    (pss_cons (Dh.ps_fldC Z.c_Ring Z.n_Ring_by_device (pv 0) (pe_op (Dh.oMul (K := K) rfl) (pe_lst (pa_cons pe_bl pa_nil)) (pv 1)))
    (pss_cons (Dh.ps_fldC Z.c_Ring Z.n_Ring_done (pv 0) (pe_op (Dh.oMul (K := K) rfl) (pe_lst (pa_cons pe_bl pa_nil)) (pv 1)))
    (pss_cons (Dh.ps_fldC Z.c_Ring Z.n_Ring_fill_at (pv 0) pe_int)
    (pss_cons (Dh.ps_fldC Z.c_Ring Z.n_Ring_work_at (pv 0) pe_int)
    (pss_cons (Dh.ps_fldC Z.c_Ring Z.n_Ring_reap_at (pv 0) pe_int)
    (pss_one (Dh.ps_fldC Z.c_Ring Z.n_Ring_filled (pv 0) pe_int))))))))), ?_⟩
  try dsimp only [L2.cxOf, L2.Cx.blk, LamX.lamCx, L2.Cx.tr]
  obtain ⟨p, n, R, rfl, hE, h1, k1, k2⟩ := h
  refine Dh.Go.ent hE ?_
  walk_at "vcs"
  · exact Dh.Go.ent (Dh.ent_drop Dh.ent_refl) (k1 (by assumption))
  · obtain ⟨m, rfl⟩ : ∃ m : Nat, n = (m : Int) := ⟨n.toNat, by omega⟩
    simp only [List.flatten_replicate_singleton, Int.toNat_natCast]
    refine' fold_ring (ring_new (by omega)) ?e (k2 m rfl (by omega))
    (case e => walk_at "ent")
def sg_Ring_fill (T : List (Addr × Str)) (K : PySem.W.Frag) (C_Ring C_Queue C_Pipe C_BadWord C_BadPlace C_BadPlan C_NotDue C_Stuck C_BadBits C_BadText C_TooLarge g_told : Addr) : Dh.SG :=
  fun vs L Q E => ∃ (p : Addr) (v : Int) (n : Nat) (W F : List Int) (R : List Dh.HP), vs = [.ref p, .int v] ∧ Dh.Ent L (RingAt C_Ring p n W F :: R) ∧
    (W.length + F.length = n → Dh.Go T (RingAt C_Ring p n W F :: R) fun H => E (.ref C_NotDue) none H) ∧
    (∀ r : Int, W.length + F.length < n → Dh.Go T (RingAt C_Ring p n W (F ++ [v]) :: R) fun H => Q (.int r) H)
set_option maxHeartbeats 8000000 in
theorem ok_Ring_fill (Z : Txt K mg C_Ring C_Queue C_Pipe C_BadWord C_BadPlace C_BadPlan C_NotDue C_Stuck C_BadBits C_BadText C_TooLarge g_told)  {f : Addr} {fd : FuncData} {cdv : Value} (F : Dh.FunC K "fill" "Ring.fill" s_Ring_fill f fd cdv) :
    FnOk P w K mg base (L2.CX P w) 1 f fd ["self", "what"] (Dh.sOfN T 2 (sg_Ring_fill T K C_Ring C_Queue C_Pipe C_BadWord C_BadPlace C_BadPlan C_NotDue C_Stuck C_BadBits C_BadText C_TooLarge g_told)) := by
  refine Dh.fnX (k := 0) F sc_Ring_fill rfl (fun A outer s H0 L vs Q E hr hl h => ?_)
  refine ⟨_, (pss_cons (ps_if (pt_cmpR (Dh.oEq (K := K) rfl hr.units) (Dh.pe_fldC Z.c_Ring Z.n_Ring_filled (pv 0)) (pe_callB (Dh.cLen (K := K) rfl) (by rfl) Z.b_len (by first | exact PySem.boot_len | exact PyProof.Rows.boot_len | decide +kernel) (pa_cons (Dh.pe_fldC Z.c_Ring Z.n_Ring_rows (pv 0)) pa_nil)) (nomark _))
    (pss_one (Dh.ps_rs rfl (takes_of rfl rfl rfl rfl) Z.e_NotDue rfl))
    pss_nil)
    (pss_cons (ps_set (i := 2) sc_Ring_fill.nd rfl (by first | exact Or.inl rfl | exact Or.inr rfl) (Dh.pe_fldC Z.c_Ring Z.n_Ring_fill_at (pv 0)))
    (pss_cons (ps_asg (pv 1) (pg_sub (Dh.pe_fldC Z.c_Ring Z.n_Ring_rows (pv 0)) (pv 2) set_list))
    (pss_cons (ps_asg pe_bl (pg_sub (Dh.pe_fldC Z.c_Ring Z.n_Ring_done (pv 0)) (pv 2) set_list))
    (pss_cons (ps_asg pe_bl (pg_sub (Dh.pe_fldC Z.c_Ring Z.n_Ring_by_device (pv 0)) (pv 2) set_list))
    (pss_cons (Dh.ps_fldC Z.c_Ring Z.n_Ring_fill_at (pv 0) (pe_op op_mod (pe_op (Dh.oAdd (K := K) rfl) (pv 2) pe_int) (pe_callB (Dh.cLen (K := K) rfl) (by rfl) Z.b_len (by first | exact PySem.boot_len | exact PyProof.Rows.boot_len | decide +kernel) (pa_cons (Dh.pe_fldC Z.c_Ring Z.n_Ring_rows (pv 0)) pa_nil))))
    (pss_cons (Dh.ps_augC Z.c_Ring Z.n_Ring_filled (pv 0) pe_int in_add)
    (pss_one (ps_ret (pv 2)))))))))), ?_⟩
  try dsimp only [L2.cxOf, L2.Cx.blk, LamX.lamCx, L2.Cx.tr]
  obtain ⟨p, v, n, W, F, R, rfl, hE, k1, k2⟩ := h
  refine Dh.Go.ent hE (go_ring fun r d e rows bs ds fa wa ra fl a ok => ?_)
  obtain ⟨l1, l2, l3, ha, hm, rfl, rfl, rfl, rfl, rw_, bs_, ds_⟩ := id ok
  have hk : (a + (W.length + F.length)) % n < n := Nat.mod_lt _ (by omega)
  walk_at "vcs"
  · rename_i hc
    rw [V.int.injEq, l1] at hc
    refine' fold_ring ok ?e (k1 (by omega))
    (case e => walk_at "ent")
  · rename_i hc
    rw [V.int.injEq, l1] at hc
    refine' fold_ring (ok.fill (v := v) (by omega)) ?e (k2 _ (by omega))
    (case e => walk_at "ent")
def sg_Ring_work (T : List (Addr × Str)) (K : PySem.W.Frag) (C_Ring C_Queue C_Pipe C_BadWord C_BadPlace C_BadPlan C_NotDue C_Stuck C_BadBits C_BadText C_TooLarge g_told : Addr) : Dh.SG :=
  fun vs L Q E => ∃ (p : Addr) (n : Nat) (W F : List Int) (R : List Dh.HP), vs = [.ref p] ∧ Dh.Ent L (RingAt C_Ring p n W F :: R) ∧
    (F = [] → Dh.Go T (RingAt C_Ring p n W F :: R) fun H => E (.ref C_NotDue) none H) ∧
    (∀ x F', F = x :: F' → Dh.Go T (RingAt C_Ring p n (W ++ [x]) F' :: R) fun H => Q (.int x) H)
set_option maxHeartbeats 8000000 in
theorem ok_Ring_work (Z : Txt K mg C_Ring C_Queue C_Pipe C_BadWord C_BadPlace C_BadPlan C_NotDue C_Stuck C_BadBits C_BadText C_TooLarge g_told)  {f : Addr} {fd : FuncData} {cdv : Value} (F : Dh.FunC K "work" "Ring.work" s_Ring_work f fd cdv) :
    FnOk P w K mg base (L2.CX P w) 1 f fd ["self"] (Dh.sOfN T 1 (sg_Ring_work T K C_Ring C_Queue C_Pipe C_BadWord C_BadPlace C_BadPlan C_NotDue C_Stuck C_BadBits C_BadText C_TooLarge g_told)) := by
  refine Dh.fnX (k := 0) F sc_Ring_work rfl (fun A outer s H0 L vs Q E hr hl h => ?_)
  refine ⟨_, (pss_cons (ps_set (i := 1) sc_Ring_work.nd rfl (by first | exact Or.inl rfl | exact Or.inr rfl) (Dh.pe_fldC Z.c_Ring Z.n_Ring_work_at (pv 0)))
    (pss_cons (ps_if (pt_not (Dh.ptTru (K := K) rfl (pe_ix (Dh.xSeq (K := K) rfl) (Dh.pe_fldC Z.c_Ring Z.n_Ring_by_device (pv 0)) (pv 1) (fun _ _ => rfl))))
    (pss_one (Dh.ps_rs rfl (takes_of rfl rfl rfl rfl) Z.e_NotDue rfl))
    pss_nil)
    (pss_cons (ps_asg pe_bl (pg_sub (Dh.pe_fldC Z.c_Ring Z.n_Ring_by_device (pv 0)) (pv 1) set_list))
    (pss_cons (ps_asg pe_bl (pg_sub (Dh.pe_fldC Z.c_Ring Z.n_Ring_done (pv 0)) (pv 1) set_list))
    (pss_cons (Dh.ps_fldC Z.c_Ring Z.n_Ring_work_at (pv 0) (pe_op op_mod (pe_op (Dh.oAdd (K := K) rfl) (pv 1) pe_int) (pe_callB (Dh.cLen (K := K) rfl) (by rfl) Z.b_len (by first | exact PySem.boot_len | exact PyProof.Rows.boot_len | decide +kernel) (pa_cons (Dh.pe_fldC Z.c_Ring Z.n_Ring_rows (pv 0)) pa_nil))))
    (pss_one (ps_ret (pe_ix (Dh.xSeq (K := K) rfl) (Dh.pe_fldC Z.c_Ring Z.n_Ring_rows (pv 0)) (pv 1) (fun _ _ => rfl))))))))), ?_⟩
  try dsimp only [L2.cxOf, L2.Cx.blk, LamX.lamCx, L2.Cx.tr]
  obtain ⟨p, n, W, F, R, rfl, hE, k1, k2⟩ := h
  refine Dh.Go.ent hE (go_ring fun r d e rows bs ds fa wa ra fl a ok => ?_)
  obtain ⟨l1, l2, l3, ha, hm, rfl, rfl, rfl, rfl, rw_, bs_, ds_⟩ := id ok
  have hb := ok.bsW
  have hk : (a + W.length) % n < n := Nat.mod_lt _ (by omega)
  cases F with
  | nil =>
    walk_at "vcs"
    refine' fold_ring ok ?e (k1 rfl)
    (case e => walk_at "ent")
  | cons x F' =>
    have hx := ok.atW
    walk_at "vcs"
    refine' fold_ring ok.work ?e (k2 x F' rfl)
    (case e => walk_at "ent")
def sg_Ring_reap (T : List (Addr × Str)) (K : PySem.W.Frag) (C_Ring C_Queue C_Pipe C_BadWord C_BadPlace C_BadPlan C_NotDue C_Stuck C_BadBits C_BadText C_TooLarge g_told : Addr) : Dh.SG :=
  fun vs L Q E => ∃ (p : Addr) (n : Nat) (W F : List Int) (R : List Dh.HP), vs = [.ref p] ∧ Dh.Ent L (RingAt C_Ring p n W F :: R) ∧
    (W = [] → Dh.Go T (RingAt C_Ring p n W F :: R) fun H => E (.ref C_NotDue) none H) ∧
    (∀ x W', W = x :: W' → Dh.Go T (RingAt C_Ring p n W' F :: R) fun H => Q (.int x) H)
set_option maxHeartbeats 8000000 in
theorem ok_Ring_reap (Z : Txt K mg C_Ring C_Queue C_Pipe C_BadWord C_BadPlace C_BadPlan C_NotDue C_Stuck C_BadBits C_BadText C_TooLarge g_told)  {f : Addr} {fd : FuncData} {cdv : Value} (F : Dh.FunC K "reap" "Ring.reap" s_Ring_reap f fd cdv) :
    FnOk P w K mg base (L2.CX P w) 1 f fd ["self"] (Dh.sOfN T 1 (sg_Ring_reap T K C_Ring C_Queue C_Pipe C_BadWord C_BadPlace C_BadPlan C_NotDue C_Stuck C_BadBits C_BadText C_TooLarge g_told)) := by
  refine Dh.fnX (k := 0) F sc_Ring_reap rfl (fun A outer s H0 L vs Q E hr hl h => ?_)
  refine ⟨_, (pss_cons (ps_set (i := 1) sc_Ring_reap.nd rfl (by first | exact Or.inl rfl | exact Or.inr rfl) (Dh.pe_fldC Z.c_Ring Z.n_Ring_reap_at (pv 0)))
    (pss_cons (ps_if (PW.pt (pw_or (pt_cmpR (Dh.oEq (K := K) rfl hr.units) (Dh.pe_fldC Z.c_Ring Z.n_Ring_filled (pv 0)) pe_int (nomark _)) (pw_or (pt_not (Dh.ptTru (K := K) rfl (pe_ix (Dh.xSeq (K := K) rfl) (Dh.pe_fldC Z.c_Ring Z.n_Ring_done (pv 0)) (pv 1) (fun _ _ => rfl)))) (pw_or1 (Dh.ptTru (K := K) rfl (pe_ix (Dh.xSeq (K := K) rfl) (Dh.pe_fldC Z.c_Ring Z.n_Ring_by_device (pv 0)) (pv 1) (fun _ _ => rfl)))))))
    (pss_one (Dh.ps_rs rfl (takes_of rfl rfl rfl rfl) Z.e_NotDue rfl))
    pss_nil)
    (pss_cons (ps_asg pe_bl (pg_sub (Dh.pe_fldC Z.c_Ring Z.n_Ring_done (pv 0)) (pv 1) set_list))
    (pss_cons (Dh.ps_fldC Z.c_Ring Z.n_Ring_reap_at (pv 0) (pe_op op_mod (pe_op (Dh.oAdd (K := K) rfl) (pv 1) pe_int) (pe_callB (Dh.cLen (K := K) rfl) (by rfl) Z.b_len (by first | exact PySem.boot_len | exact PyProof.Rows.boot_len | decide +kernel) (pa_cons (Dh.pe_fldC Z.c_Ring Z.n_Ring_rows (pv 0)) pa_nil))))
    (pss_cons (Dh.ps_augC Z.c_Ring Z.n_Ring_filled (pv 0) pe_int in_sub)
    (pss_one (ps_ret (pe_ix (Dh.xSeq (K := K) rfl) (Dh.pe_fldC Z.c_Ring Z.n_Ring_rows (pv 0)) (pv 1) (fun _ _ => rfl))))))))), ?_⟩
  try dsimp only [L2.cxOf, L2.Cx.blk, LamX.lamCx, L2.Cx.tr]
  obtain ⟨p, n, W, F, R, rfl, hE, k1, k2⟩ := h
  refine Dh.Go.ent hE (go_ring fun r d e rows bs ds fa wa ra fl a ok => ?_)
  obtain ⟨l1, l2, l3, ha, hm, rfl, rfl, rfl, rfl, rw_, bs_, ds_⟩ := id ok
  have hd := ok.dsR
  cases W with
  | nil =>
    walk_at "vcs"
    all_goals
      refine' fold_ring ok ?e (k1 rfl)
      (case e => walk_at "ent")
  | cons x W' =>
    have hx := ok.atR
    have hb := ok.bsR
    walk_at "vcs"
    · rename_i hc
      rw [V.int.injEq, List.length_cons] at hc
      omega
    · refine' fold_ring ok.reap ?e (k2 x W' rfl)
      (case e => walk_at "ent")
def sg_Ring_left_room (T : List (Addr × Str)) (K : PySem.W.Frag) (C_Ring C_Queue C_Pipe C_BadWord C_BadPlace C_BadPlan C_NotDue C_Stuck C_BadBits C_BadText C_TooLarge g_told : Addr) : Dh.SG :=
  fun vs L Q E => ∃ (p : Addr) (n : Nat) (W F : List Int) (R : List Dh.HP), vs = [.ref p] ∧ Dh.Ent L (RingAt C_Ring p n W F :: R) ∧
    (Dh.Go T (RingAt C_Ring p n W F :: R) fun H => Q (.int ((n : Int) - (W.length + F.length : Nat))) H)
set_option maxHeartbeats 8000000 in
theorem ok_Ring_left_room (Z : Txt K mg C_Ring C_Queue C_Pipe C_BadWord C_BadPlace C_BadPlan C_NotDue C_Stuck C_BadBits C_BadText C_TooLarge g_told)  {f : Addr} {fd : FuncData} {cdv : Value} (F : Dh.FunC K "left_room" "Ring.left_room" s_Ring_left_room f fd cdv) :
    FnOk P w K mg base (L2.CX P w) 1 f fd ["self"] (Dh.sOfN T 1 (sg_Ring_left_room T K C_Ring C_Queue C_Pipe C_BadWord C_BadPlace C_BadPlan C_NotDue C_Stuck C_BadBits C_BadText C_TooLarge g_told)) := by
  refine Dh.fnX (k := 0) F sc_Ring_left_room rfl (fun A outer s H0 L vs Q E hr hl h => ?_)
  refine ⟨_, (pss_one (ps_ret (pe_op op_sub (pe_callB (Dh.cLen (K := K) rfl) (by rfl) Z.b_len (by first | exact PySem.boot_len | exact PyProof.Rows.boot_len | decide +kernel) (pa_cons (Dh.pe_fldC Z.c_Ring Z.n_Ring_rows (pv 0)) pa_nil)) (Dh.pe_fldC Z.c_Ring Z.n_Ring_filled (pv 0))))), ?_⟩
  try dsimp only [L2.cxOf, L2.Cx.blk, LamX.lamCx, L2.Cx.tr]
  obtain ⟨p, n, W, F, R, rfl, hE, k⟩ := h
  refine Dh.Go.ent hE (go_ring fun r d e rows bs ds fa wa ra fl a ok => ?_)
  obtain ⟨l1, l2, l3, ha, hm, rfl, rfl, rfl, rfl, rw_, bs_, ds_⟩ := id ok
  walk_at "vcs"
  rw [l1]
  refine' fold_ring ok ?e k
  (case e => walk_at "ent")
end
end Toy
end

section
local macro_rules | `(tactic| walk_at "pk") => `(tactic| (with_reducible first | exact Dh.pick_here | (refine' Dh.pick_there ?p; (case p => walk_at "pk"))))
local macro_rules | `(tactic| walk_at "ent") => `(tactic| first | (with_reducible exact Dh.ent_refl) | (with_reducible exact Dh.ent_nil) | (refine' Dh.ent_cons ?q0 ?k; (case q0 => walk_at "pk"); (case k => walk_at "ent")) | (refine' Dh.ent_drop ?k; (case k => walk_at "ent")))
local macro_rules | `(tactic| walk_at "side") => `(tactic| first | omega | decide | (simp only [L2.CMul, L2.CDiv, L2.CDivN]; omega) | (unfold L2.CPow; decide) | (simp only [List.length_cons, List.length_nil, List.length_append, List.length_map, List.length_range, List.length_replicate, List.length_set, List.length_take, List.length_drop, PySem.sizeLine_eq] <;> omega))
local macro_rules | `(tactic| walk_at "ixs") => `(tactic| first | assumption | omega | (simp only [List.length_set, List.length_map, List.length_cons, List.length_nil, List.length_append, List.length_replicate] <;> first | assumption | omega))
local macro_rules | `(tactic| walk_at "lk") => `(tactic| first | rfl | assumption | (exact Dh.ixN_lt (by walk_at "ixs")) | (exact Dh.atI_lt (by assumption))  | with_reducible exact Toy.lk_Ring_rows | with_reducible exact Toy.lk_Ring_by_device | with_reducible exact Toy.lk_Ring_done | with_reducible exact Toy.lk_Ring_fill_at | with_reducible exact Toy.lk_Ring_work_at | with_reducible exact Toy.lk_Ring_reap_at | with_reducible exact Toy.lk_Ring_filled | with_reducible exact Toy.no_Ring_init | with_reducible exact Toy.no_Ring_fill | with_reducible exact Toy.no_Ring_work | with_reducible exact Toy.no_Ring_reap | with_reducible exact Toy.no_Ring_left_room | with_reducible exact Toy.lk_Queue_many | with_reducible exact Toy.lk_Queue_round_at | with_reducible exact Toy.lk_Queue_table | with_reducible exact Toy.lk_Queue_free | with_reducible exact Toy.lk_Queue_given | with_reducible exact Toy.lk_Queue_used | with_reducible exact Toy.lk_Queue_given_count | with_reducible exact Toy.lk_Queue_used_count | with_reducible exact Toy.lk_Queue_device_seen | with_reducible exact Toy.lk_Queue_out | with_reducible exact Toy.lk_Queue_driver_seen | with_reducible exact Toy.no_Queue_init | with_reducible exact Toy.no_Queue_give | with_reducible exact Toy.no_Queue_untaken | with_reducible exact Toy.no_Queue_take | with_reducible exact Toy.no_Queue_use | with_reducible exact Toy.no_Queue_reap | with_reducible exact Toy.no_Queue_needs_call | with_reducible exact Toy.lk_Pipe_cells | with_reducible exact Toy.lk_Pipe_put_at | with_reducible exact Toy.lk_Pipe_get_at | with_reducible exact Toy.no_Pipe_init | with_reducible exact Toy.no_Pipe_lying | with_reducible exact Toy.no_Pipe_put | with_reducible exact Toy.no_Pipe_get)
local macro_rules | `(tactic| walk_at "pf") => `(tactic| first  | with_reducible exact Toy.pf_Ring_rows | with_reducible exact Toy.pf_Ring_by_device | with_reducible exact Toy.pf_Ring_done | with_reducible exact Toy.pf_Ring_fill_at | with_reducible exact Toy.pf_Ring_work_at | with_reducible exact Toy.pf_Ring_reap_at | with_reducible exact Toy.pf_Ring_filled | with_reducible exact Toy.gr_Ring_rows | with_reducible exact Toy.gr_Ring_by_device | with_reducible exact Toy.gr_Ring_done | with_reducible exact Toy.gr_Ring_fill_at | with_reducible exact Toy.gr_Ring_work_at | with_reducible exact Toy.gr_Ring_reap_at | with_reducible exact Toy.gr_Ring_filled | with_reducible exact Toy.pf_Queue_many | with_reducible exact Toy.pf_Queue_round_at | with_reducible exact Toy.pf_Queue_table | with_reducible exact Toy.pf_Queue_free | with_reducible exact Toy.pf_Queue_given | with_reducible exact Toy.pf_Queue_used | with_reducible exact Toy.pf_Queue_given_count | with_reducible exact Toy.pf_Queue_used_count | with_reducible exact Toy.pf_Queue_device_seen | with_reducible exact Toy.pf_Queue_out | with_reducible exact Toy.pf_Queue_driver_seen | with_reducible exact Toy.gr_Queue_many | with_reducible exact Toy.gr_Queue_round_at | with_reducible exact Toy.gr_Queue_table | with_reducible exact Toy.gr_Queue_free | with_reducible exact Toy.gr_Queue_given | with_reducible exact Toy.gr_Queue_used | with_reducible exact Toy.gr_Queue_given_count | with_reducible exact Toy.gr_Queue_used_count | with_reducible exact Toy.gr_Queue_device_seen | with_reducible exact Toy.gr_Queue_out | with_reducible exact Toy.gr_Queue_driver_seen | with_reducible exact Toy.pf_Pipe_cells | with_reducible exact Toy.pf_Pipe_put_at | with_reducible exact Toy.pf_Pipe_get_at | with_reducible exact Toy.gr_Pipe_cells | with_reducible exact Toy.gr_Pipe_put_at | with_reducible exact Toy.gr_Pipe_get_at | rfl)
local macro_rules | `(tactic| walk_at "ln") => `(tactic| first  | with_reducible exact Toy.ln_Ring | with_reducible exact Toy.ln_Queue | with_reducible exact Toy.ln_Pipe | decide | (simp only [List.length_cons, List.length_nil] <;> omega))
local macro_rules | `(tactic| walk_at "hasm") => `(tactic| first | (refine' Dh.hasM_ob ?q0 ?q1; (case q0 => walk_at "pk"); (case q1 => walk_at "lk")))
local macro_rules | `(tactic| walk_at "vcp0") => `(tactic| first | ((with_reducible refine' Dh.g_seq ?k)) | ((with_reducible refine' Dh.g_next ?k)) | ((with_reducible refine' Dh.g_nonA ?k)) | ((with_reducible refine' Dh.g_var ?q0 ?k); (case q0 => rfl)) | ((with_reducible refine' Dh.g_c ?k)) | ((with_reducible refine' Dh.g_op ?k)) | ((with_reducible refine' Dh.g_asg ?k)) | ((with_reducible refine' Dh.g_name ?k)) | ((with_reducible refine' Dh.g_ifS ?k)) | ((with_reducible refine' Dh.g_test ?k)) | ((with_reducible refine' Dh.g_isB ?k)) | ((with_reducible refine' Dh.g_B ?k)) | ((with_reducible refine' Dh.g_ret ?k)) | ((with_reducible refine' Dh.g_retN ?k)) | ((with_reducible refine' Dh.g_drop ?k)) | ((with_reducible refine' Dh.g_brk ?k)) | ((with_reducible refine' Dh.g_cont ?k)) | ((with_reducible refine' Dh.g_un ?k)) | ((with_reducible refine' Dh.g_I0 ?k)) | ((with_reducible refine' Dh.g_addI ?k)) | ((with_reducible refine' Dh.g_addB ?k)) | ((with_reducible refine' Dh.g_addS ?q0 ?k); (case q0 => walk_at "side")) | ((with_reducible refine' Dh.g_addM ?q0 ?q1 ?q2 ?k); (case q0 => walk_at "pk"); (case q1 => walk_at "pk"); (case q2 => walk_at "side"); intro _) | ((with_reducible refine' Dh.g_addL ?q0 ?q1 ?q2 ?k); (case q0 => walk_at "pk"); (case q1 => walk_at "pk"); (case q2 => walk_at "side"); intro _))
local macro_rules | `(tactic| walk_at "vcp1") => `(tactic| first | ((with_reducible refine' Dh.g_I ?q0 ?k); (case q0 => walk_at "side")) | ((with_reducible refine' Dh.g_mulI ?q0 ?k); (case q0 => walk_at "side")) | ((with_reducible refine' Dh.g_U ?k)) | ((with_reducible refine' Dh.g_eqS ?q0 ?k); (case q0 => rfl)) | ((with_reducible refine' Dh.g_neS ?q0 ?k); (case q0 => rfl)) | ((with_reducible refine' Dh.g_eqLL ?q0 ?q1 ?k); (case q0 => walk_at "pk"); (case q1 => walk_at "pk")) | ((with_reducible refine' Dh.g_neLL ?q0 ?q1 ?k); (case q0 => walk_at "pk"); (case q1 => walk_at "pk")) | ((with_reducible refine' Dh.g_eqL0 ?q0 ?q1 ?k); (case q0 => walk_at "pk"); (case q1 => walk_at "pk")) | ((with_reducible refine' Dh.g_neL0 ?q0 ?q1 ?k); (case q0 => walk_at "pk"); (case q1 => walk_at "pk")) | ((with_reducible refine' Dh.g_neT0 ?q0 ?q1 ?q2 ?k); (case q0 => walk_at "pk"); (case q1 => walk_at "pk"); (case q2 => walk_at "pk")) | ((with_reducible refine' Dh.g_neP ?q0 ?q1 ?k); (case q0 => walk_at "pk"); (case q1 => walk_at "pk")) | ((with_reducible refine' Dh.g_inI ?q0 ?k); (case q0 => walk_at "pk")) | ((with_reducible refine' Dh.g_isN ?k)) | ((with_reducible refine' Dh.g_notN ?k)) | ((with_reducible refine' Dh.g_ixL ?q0 ?q1 ?k); (case q0 => walk_at "pk"); (case q1 => walk_at "lk")) | ((with_reducible refine' Dh.g_ixT ?q0 ?q1 ?k); (case q0 => walk_at "pk"); (case q1 => walk_at "lk")) | ((with_reducible refine' Dh.g_sl ?k)) | ((with_reducible refine' Dh.g_noPart ?k)) | ((with_reducible refine' Dh.g_part ?k)) | ((with_reducible refine' Dh.g_isSomeInt ?k)) | ((with_reducible refine' Dh.g_slTk ?q0 ?k); (case q0 => walk_at "pk"); intro _) | ((with_reducible refine' Dh.g_slDr ?q0 ?k); (case q0 => walk_at "pk"); intro _) | ((with_reducible refine' Dh.g_slL ?q0 ?k); (case q0 => walk_at "pk"); intro _) | ((with_reducible refine' Dh.g_slQTk ?q0 ?k); (case q0 => walk_at "pk"); intro _))
local macro_rules | `(tactic| walk_at "vcp2") => `(tactic| first | ((with_reducible refine' Dh.g_slQ ?q0 ?k); (case q0 => walk_at "pk"); intro _) | ((with_reducible refine' Dh.g_fldE ?k)) | ((with_reducible refine' Dh.g_fld ?q0 ?q1 ?k); (case q0 => walk_at "pk"); (case q1 => walk_at "lk")) | ((with_reducible refine' Dh.g_tup ?k)) | ((with_reducible refine' Dh.g_lst ?k)) | ((with_reducible refine' Dh.g_newT ?q0 ?k); (case q0 => walk_at "side"); intro _) | ((with_reducible refine' Dh.g_newL ?q0 ?k); (case q0 => walk_at "side"); intro _) | ((with_reducible refine' Dh.g_nil ?k)) | ((with_reducible refine' Dh.g_cons ?k)) | ((with_reducible refine' Dh.g_call ?k)) | ((with_reducible refine' Dh.g_methE ?k)) | ((with_reducible refine' Dh.g_meth ?q0 ?k); (case q0 => walk_at "hasm")) | ((with_reducible refine' Dh.g_make ?k)) | ((with_reducible refine' Dh.g_made ?k); intro _) | ((with_reducible refine' Dh.g_cb ?k)) | ((with_reducible refine' Dh.g_int ?k)) | ((with_reducible refine' Dh.g_intB ?k)) | ((with_reducible refine' Dh.g_abs ?k)) | ((with_reducible refine' Dh.g_max2 ?k)) | ((with_reducible refine' Dh.g_min2 ?k)) | ((with_reducible refine' Dh.g_strI ?q0 ?k); (case q0 => walk_at "side")) | ((with_reducible refine' Dh.g_lenL ?q0 ?k); (case q0 => walk_at "pk")) | ((with_reducible refine' Dh.g_lenT ?q0 ?k); (case q0 => walk_at "pk")) | ((with_reducible refine' Dh.g_lenD ?q0 ?k); (case q0 => walk_at "pk")))
local macro_rules | `(tactic| walk_at "vcp3") => `(tactic| first | ((with_reducible refine' Dh.g_listL ?q0 ?k); (case q0 => walk_at "pk"); intro _) | ((with_reducible refine' Dh.g_listT ?q0 ?k); (case q0 => walk_at "pk"); intro _) | ((with_reducible refine' Dh.g_tupL ?q0 ?k); (case q0 => walk_at "pk"); intro _) | ((with_reducible refine' Dh.g_tupT ?q0 ?k); (case q0 => walk_at "pk")) | ((with_reducible refine' Dh.g_pop0 ?q0 ?k); (case q0 => walk_at "pk")) | ((with_reducible refine' Dh.g_bm ?k)) | ((with_reducible refine' Dh.g_bm0 ?k)) | ((with_reducible refine' Dh.g_tyL ?q0 ?k); (case q0 => walk_at "pk")) | ((with_reducible refine' Dh.g_append ?q0 ?q1 ?k); (case q0 => walk_at "pk"); (case q1 => walk_at "side")) | ((with_reducible refine' Dh.g_rep ?q0 ?q1 ?q2 ?q3 ?k); (case q0 => walk_at "pk"); (case q1 => walk_at "side"); (case q2 => walk_at "side"); (case q3 => walk_at "side"); intro _) | ((with_reducible refine' Dh.g_not ?k)) | ((with_reducible refine' Dh.g_tand ?k)) | ((with_reducible refine' Dh.g_tor ?k)) | ((with_reducible refine' Dh.g_andV ?k)) | ((with_reducible refine' Dh.g_orV ?k)) | ((with_reducible refine' Dh.g_notV ?k)) | ((with_reducible refine' Dh.g_ifE ?k)) | ((with_reducible refine' Dh.g_chain ?k)) | ((with_reducible refine' Dh.g_tru ?k)) | ((with_reducible refine' Dh.g_truB ?k)) | ((with_reducible refine' Dh.g_truI ?k)) | ((with_reducible refine' Dh.g_truN ?k)) | ((with_reducible refine' Dh.g_truL ?q0 ?k); (case q0 => walk_at "pk")) | ((with_reducible refine' Dh.g_gsub ?k)))
local macro_rules | `(tactic| walk_at "vcp4") => `(tactic| first | ((with_reducible refine' Dh.g_setL ?q0 ?q1 ?k); (case q0 => walk_at "pk"); (case q1 => walk_at "lk")) | ((with_reducible refine' Dh.g_gtup ?q0 ?q1 ?k); (case q0 => walk_at "pk"); (case q1 => rfl)) | ((with_reducible refine' Dh.g_gnil ?k)) | ((with_reducible refine' Dh.g_gcons ?k)) | ((with_reducible refine' Dh.g_par ?k)) | ((with_reducible refine' Dh.g_par2 ?k)) | ((with_reducible refine' Dh.g_par3 ?k)) | ((with_reducible refine' Dh.g_par3b ?k)) | ((with_reducible refine' Dh.g_listRg ?k)) | ((with_reducible refine' Dh.g_rg1E ?k)) | ((with_reducible refine' Dh.g_rg1 ?k)) | ((with_reducible refine' Dh.g_rgN ?q0 ?k); (case q0 => walk_at "side"); intro _) | ((with_reducible refine' Dh.g_rgL ?q0 ?k); (case q0 => walk_at "side"); intro _) | ((with_reducible refine' Dh.g_dinE ?k)) | ((with_reducible refine' Dh.g_dinI ?q0 ?k); (case q0 => walk_at "pk")) | ((with_reducible refine' Dh.g_dnotinE ?k)) | ((with_reducible refine' Dh.g_dnotinI ?q0 ?k); (case q0 => walk_at "pk")) | ((with_reducible refine' Dh.g_dgetE ?k)) | ((with_reducible refine' Dh.g_dgetI ?q0 ?q1 ?k); (case q0 => walk_at "pk"); (case q1 => walk_at "lk")) | ((with_reducible refine' Dh.g_dputE ?k)) | ((with_reducible refine' Dh.g_dputI ?q0 ?q1 ?k); (case q0 => walk_at "pk"); (case q1 => walk_at "side")) | ((with_reducible refine' Dh.g_dpopE ?k)) | ((with_reducible refine' Dh.g_dpopA ?q0 ?k); (case q0 => walk_at "pk")) | ((with_reducible refine' Dh.g_dpopB ?q0 ?q1 ?k); (case q0 => walk_at "pk"); (case q1 => walk_at "lk")))
local macro_rules | `(tactic| walk_at "vcp5") => `(tactic| first | ((with_reducible refine' Dh.g_dnew ?k); intro _) | ((with_reducible refine' Dh.g_ipMul ?q0 ?k); (case q0 => walk_at "side")) | ((with_reducible refine' Dh.g_sfldE ?k)) | ((with_reducible refine' Dh.g_sfld ?q0 ?q1 ?q2 ?k); (case q0 => walk_at "pk"); (case q1 => walk_at "pf"); (case q2 => walk_at "ln")) | ((with_reducible refine' Dh.g_augE ?k)) | ((with_reducible refine' Dh.g_augF ?q0 ?q1 ?k); (case q0 => walk_at "pk"); (case q1 => walk_at "lk")) | ((with_reducible refine' Dh.g_augV ?q0 ?k); (case q0 => rfl)) | ((with_reducible refine' Dh.g_ipI ?k)) | ((with_reducible refine' Dh.g_rAdd ?k)) | ((with_reducible refine' Dh.g_rSub ?k)) | ((with_reducible refine' Dh.g_for ?k)) | ((with_reducible refine' Dh.g_iRng1 ?k)) | ((with_reducible refine' Dh.g_iRng2 ?k)) | ((with_reducible refine' Dh.g_rng1 ?q0 ?q1 ?k); (case q0 => walk_at "side"); (case q1 => walk_at "side")) | ((with_reducible refine' Dh.g_rng2 ?q0 ?k); (case q0 => walk_at "side")) | ((with_reducible refine' Dh.g_iSeqE ?k)) | ((with_reducible refine' Dh.g_iSeqL ?q0 ?k); (case q0 => walk_at "pk")) | ((with_reducible refine' Dh.g_iSeqT ?q0 ?k); (case q0 => walk_at "pk")) | ((with_reducible refine' Dh.g_wbody ?k)) | ((with_reducible refine' Dh.g_lcE ?k)) | ((with_reducible refine' Dh.g_turn ?k)) | ((with_reducible refine' Dh.g_tYes ?k)) | ((with_reducible refine' Dh.g_rs ?k)) | ((with_reducible refine' Dh.g_rsW ?k)))
local macro_rules | `(tactic| walk_at "vcp6") => `(tactic| first | ((with_reducible refine' Dh.g_told ?k)) | ((with_reducible refine' Dh.g_ifT ?q0 ?k); (case q0 => rfl)) | ((with_reducible refine' Dh.g_ifF ?q0 ?k); (case q0 => rfl)))
local macro_rules | `(tactic| walk_at "vc1") => `(tactic| first | walk_at "vcp0" | walk_at "vcp1" | walk_at "vcp2" | walk_at "vcp3" | walk_at "vcp4" | walk_at "vcp5" | walk_at "vcp6")
local macro_rules | `(tactic| walk_at "vc") => `(tactic| repeat walk_at "vc1")
local macro_rules | `(tactic| walk_at "spl") => `(tactic| first | ((with_reducible refine Dh.g_ifD ?_ ?_) <;> intro _) | ((with_reducible refine Dh.g_ifN ?_ ?_) <;> intro _) | ((with_reducible refine Dh.g_if ?_ ?_) <;> intro _))
local macro_rules | `(tactic| walk_at "vcs") => `(tactic| repeat' (first | walk_at "vc1" | walk_at "spl"))
namespace Toy
open PySem L2
section
variable {P : Program} {w : World} {K : PySem.W.Frag} {mg : Str → Option Value} {base : Heap} {T : List (Addr × Str)} {C_Ring C_Queue C_Pipe C_BadWord C_BadPlace C_BadPlan C_NotDue C_Stuck C_BadBits C_BadText C_TooLarge g_told : Addr}
/-! a pipe -/
structure PipeOk (n : Nat) (S : List Int) (cells : List V) (pa ga : Int) (a : Nat) : Prop where
  l1 : cells.length = n
  ha : a < n
  hm : S.length < n
  ega : ga = (a : Int)
  epa : pa = ((a + S.length) % n : Nat)
  cl : ∀ (j : Nat) (x : Int), S[j]? = some x → cells[(a + j) % n]? = some (.int x)
section
variable {n a : Nat} {S : List Int} {cells : List V} {pa ga x v : Int}
theorem pipe_new (hn : 0 < n) : PipeOk n [] (List.replicate n (.int 0)) 0 0 0 :=
  ⟨List.length_replicate, hn, hn, rfl, by simp, fun j x h => by simp at h⟩
theorem PipeOk.put (R : PipeOk n S cells pa ga a) (h : S.length + 1 < n) : PipeOk n (S ++ [v]) (cells.set ((a + S.length) % n) (.int v)) ((pa + 1) % ((cells.set ((a + S.length) % n) (.int v)).length : Int)) ga a := by
  obtain ⟨l1, ha, hm, rfl, rfl, cl⟩ := R
  have hk : (a + S.length) % n < n := Nat.mod_lt _ (by omega)
  refine ⟨by simp [l1], ha, by simp; omega, rfl, ?_, fun j x hx => ?_⟩
  · rw [List.length_set, l1, mod_one, List.length_append, Nat.add_assoc]
    rfl
  · by_cases hj : j = S.length
    · subst hj
      rw [List.getElem?_append_right (Nat.le_refl _)] at hx
      simp at hx
      rw [List.getElem?_set_self (by omega), hx]
    · have hj2 : j < S.length := by
        have := (List.getElem?_eq_some_iff.mp hx).1
        simp at this
        omega
      rw [List.getElem?_append_left hj2] at hx
      rw [List.getElem?_set_ne (fun e => hj (mod_inj (by omega) hm e.symm))]
      exact cl j x hx
theorem PipeOk.get (R : PipeOk n (x :: S) cells pa ga a) : PipeOk n S cells pa ((ga + 1) % (cells.length : Int)) ((a + 1) % n) := by
  obtain ⟨l1, ha, hm, rfl, rfl, cl⟩ := R
  have ec : (x :: S).length = S.length + 1 := rfl
  have e0 : ∀ j, ((a + 1) % n + j) % n = (a + (j + 1)) % n := fun j => by rw [Nat.mod_add_mod]; congr 1; omega
  rw [ec] at hm
  refine ⟨l1, Nat.mod_lt _ (by omega), by omega, by rw [l1, mod_one'], by rw [e0, ec], fun j y hy => ?_⟩
  rw [e0]
  exact cl (j + 1) y hy
theorem PipeOk.at (R : PipeOk n (x :: S) cells pa ga a) : cells[a]? = some (.int x) := by
  have h := R.cl 0 x rfl
  rwa [Nat.add_zero, Nat.mod_eq_of_lt R.ha] at h
theorem PipeOk.lie (R : PipeOk n S cells pa ga a) : (pa - ga) % (cells.length : Int) = (S.length : Int) := by
  obtain ⟨l1, ha, hm, rfl, rfl, cl⟩ := R
  rw [l1]
  by_cases h : a + S.length < n
  · rw [Nat.mod_eq_of_lt h]
    have e : ((a + S.length : Nat) : Int) - (a : Int) = (S.length : Int) := by omega
    rw [e]
    exact Int.emod_eq_of_lt (by omega) (by omega)
  · have e : (a + S.length) % n = a + S.length - n := by
      rw [Nat.mod_eq_sub_mod (by omega), Nat.mod_eq_of_lt (by omega)]
    rw [e]
    have e2 : ((a + S.length - n : Nat) : Int) - (a : Int) = (S.length : Int) - (n : Int) := by omega
    rw [e2, Int.sub_emod_right]
    exact Int.emod_eq_of_lt (by omega) (by omega)
end
def PipeAt (C p : Addr) (n : Nat) (S : List Int) : Dh.HP := fun H => ∃ (r : Addr) (cells : List V) (pa ga : Int) (a : Nat), PipeOk n S cells pa ga a ∧
  Dh.Seps [Dh.ob p C (fs_Pipe (.ref r) (.int pa) (.int ga)), Dh.pt r (.lst cells)] H
theorem go_pipe {C p : Addr} {n : Nat} {S : List Int} {L : List Dh.HP} {G : Hp → Prop} (g : ∀ r cells pa ga a, PipeOk n S cells pa ga a →
    Dh.Go T (Dh.ob p C (fs_Pipe (.ref r) (.int pa) (.int ga)) :: Dh.pt r (.lst cells) :: L) G) : Dh.Go T (PipeAt C p n S :: L) G := fun H t s => by
  obtain ⟨h1, h2, d, n1, n2, s1, s2, ⟨r, cells, pa, ga, a, ok, ss⟩, q⟩ := s
  exact g r cells pa ga a ok H t (Dh.Seps.paste (L1 := [_, _]) ⟨h1, h2, d, n1, n2, s1, s2, ss, q⟩)
theorem fold_pipe {C p r : Addr} {n a : Nat} {S : List Int} {cells : List V} {pa ga : Int} {L R : List Dh.HP} {G : Hp → Prop} (ok : PipeOk n S cells pa ga a)
    (pe : Dh.Ent L (Dh.ob p C (fs_Pipe (.ref r) (.int pa) (.int ga)) :: Dh.pt r (.lst cells) :: R)) (g : Dh.Go T (PipeAt C p n S :: R) G) : Dh.Go T L G :=
  g.ent (Dh.ent_fold (A := [_, _]) pe fun H h => ⟨r, cells, pa, ga, a, ok, h⟩)
theorem ent_pipe {C p r : Addr} {n a : Nat} {S : List Int} {cells : List V} {pa ga : Int} {L R : List Dh.HP} (ok : PipeOk n S cells pa ga a)
    (pe : Dh.Ent L (Dh.ob p C (fs_Pipe (.ref r) (.int pa) (.int ga)) :: Dh.pt r (.lst cells) :: R)) : Dh.Ent L (PipeAt C p n S :: R) :=
  Dh.ent_fold (A := [_, _]) pe fun H h => ⟨r, cells, pa, ga, a, ok, h⟩
def sg_Pipe___init__ (T : List (Addr × Str)) (K : PySem.W.Frag) (C_Ring C_Queue C_Pipe C_BadWord C_BadPlace C_BadPlan C_NotDue C_Stuck C_BadBits C_BadText C_TooLarge g_told : Addr) : Dh.SG :=
  fun vs L Q E => ∃ (p : Addr) (n : Int) (R : List Dh.HP), vs = [.ref p, .int n] ∧ Dh.Ent L (Dh.ob p C_Pipe [] :: R) ∧ n ≤ 1000 ∧ (n < 2 → Dh.Go T R fun H => E (.ref C_BadPlan) none H) ∧
    (∀ m : Nat, n = (m : Int) → 1 < m → Dh.Go T (PipeAt C_Pipe p m [] :: R) fun H => Q .non H)
set_option maxHeartbeats 8000000 in
theorem ok_Pipe___init__ (Z : Txt K mg C_Ring C_Queue C_Pipe C_BadWord C_BadPlace C_BadPlan C_NotDue C_Stuck C_BadBits C_BadText C_TooLarge g_told)  {f : Addr} {fd : FuncData} {cdv : Value} (F : Dh.FunC K "__init__" "Pipe.__init__" s_Pipe___init__ f fd cdv) :
    FnOk P w K mg base (L2.CX P w) 1 f fd ["self", "many"] (Dh.sOfN T 2 (sg_Pipe___init__ T K C_Ring C_Queue C_Pipe C_BadWord C_BadPlace C_BadPlan C_NotDue C_Stuck C_BadBits C_BadText C_TooLarge g_told)) := by
  refine Dh.fnX (k := 0) F sc_Pipe___init__ rfl (fun A outer s H0 L vs Q E hr hl h => ?_)
  refine ⟨_, (pss_cons (ps_if (pt_cmpR op_lt (pv 1) pe_int (nomark _))
    (pss_one (Dh.ps_rs rfl (takes_of rfl rfl rfl rfl) Z.e_BadPlan rfl))
    pss_nil)
    (pss_cons (Dh.ps_fldC Z.c_Pipe Z.n_Pipe_cells (pv 0) (pe_op (Dh.oMul (K := K) rfl) (pe_lst (pa_cons pe_int pa_nil)) (pv 1)))
    (pss_cons (Dh.ps_fldC Z.c_Pipe Z.n_Pipe_put_at (pv 0) pe_int)
    (pss_one (Dh.ps_fldC Z.c_Pipe Z.n_Pipe_get_at (pv 0) pe_int))))), ?_⟩
  try dsimp only [L2.cxOf, L2.Cx.blk, LamX.lamCx, L2.Cx.tr]
  obtain ⟨p, n, R, rfl, hE, h1, k1, k2⟩ := h
  refine Dh.Go.ent hE ?_
  walk_at "vcs"
  · exact Dh.Go.ent (Dh.ent_drop Dh.ent_refl) (k1 (by assumption))
  · obtain ⟨m, rfl⟩ : ∃ m : Nat, n = (m : Int) := ⟨n.toNat, by omega⟩
    simp only [List.flatten_replicate_singleton, Int.toNat_natCast]
    refine' fold_pipe (pipe_new (by omega)) ?e (k2 m rfl (by omega))
    (case e => walk_at "ent")
def sg_Pipe_lying (T : List (Addr × Str)) (K : PySem.W.Frag) (C_Ring C_Queue C_Pipe C_BadWord C_BadPlace C_BadPlan C_NotDue C_Stuck C_BadBits C_BadText C_TooLarge g_told : Addr) : Dh.SG :=
  fun vs L Q E => ∃ (p : Addr) (n : Nat) (S : List Int) (R : List Dh.HP), vs = [.ref p] ∧ Dh.Ent L (PipeAt C_Pipe p n S :: R) ∧
    (S.length < n → Dh.Go T (PipeAt C_Pipe p n S :: R) fun H => Q (.int (S.length : Int)) H)
set_option maxHeartbeats 8000000 in
theorem ok_Pipe_lying (Z : Txt K mg C_Ring C_Queue C_Pipe C_BadWord C_BadPlace C_BadPlan C_NotDue C_Stuck C_BadBits C_BadText C_TooLarge g_told)  {f : Addr} {fd : FuncData} {cdv : Value} (F : Dh.FunC K "lying" "Pipe.lying" s_Pipe_lying f fd cdv) :
    FnOk P w K mg base (L2.CX P w) 1 f fd ["self"] (Dh.sOfN T 1 (sg_Pipe_lying T K C_Ring C_Queue C_Pipe C_BadWord C_BadPlace C_BadPlan C_NotDue C_Stuck C_BadBits C_BadText C_TooLarge g_told)) := by
  refine Dh.fnX (k := 0) F sc_Pipe_lying rfl (fun A outer s H0 L vs Q E hr hl h => ?_)
  refine ⟨_, (pss_one (ps_ret (pe_op op_mod (pe_op op_sub (Dh.pe_fldC Z.c_Pipe Z.n_Pipe_put_at (pv 0)) (Dh.pe_fldC Z.c_Pipe Z.n_Pipe_get_at (pv 0))) (pe_callB (Dh.cLen (K := K) rfl) (by rfl) Z.b_len (by first | exact PySem.boot_len | exact PyProof.Rows.boot_len | decide +kernel) (pa_cons (Dh.pe_fldC Z.c_Pipe Z.n_Pipe_cells (pv 0)) pa_nil))))), ?_⟩
  try dsimp only [L2.cxOf, L2.Cx.blk, LamX.lamCx, L2.Cx.tr]
  obtain ⟨p, n, S, R, rfl, hE, k⟩ := h
  refine Dh.Go.ent hE (go_pipe fun r cells pa ga a ok => ?_)
  have hl := ok.l1
  have ha := ok.ha
  walk_at "vcs"
  rw [ok.lie]
  refine' fold_pipe ok ?e (k ok.hm)
  (case e => walk_at "ent")
theorem hasM_pipe {C p : Addr} {n : Nat} {S : List Int} {L A : List Dh.HP} {m : Str} (pk : Dh.Pick L (PipeAt C p n S) A) (h : ∀ v0 v1 v2, (fs_Pipe v0 v1 v2).lookup m = none) : Dh.HasM L p C m :=
  Dh.hasM_of pk fun H ⟨r, cells, pa, ga, a, ok, ss⟩ => by
    obtain ⟨dx, e⟩ := Dh.Pick.obj Dh.pick_here ss
    exact ⟨dx, _, e, h _ _ _⟩
end
end Toy
end

section
local macro_rules | `(tactic| walk_at "pk") => `(tactic| (with_reducible first | exact Dh.pick_here | (refine' Dh.pick_there ?p; (case p => walk_at "pk"))))
local macro_rules | `(tactic| walk_at "ent") => `(tactic| first | (with_reducible exact Dh.ent_refl) | (with_reducible exact Dh.ent_nil) | (refine' Dh.ent_cons ?q0 ?k; (case q0 => walk_at "pk"); (case k => walk_at "ent")) | (refine' Dh.ent_drop ?k; (case k => walk_at "ent")))
local macro_rules | `(tactic| walk_at "side") => `(tactic| first | omega | decide | (simp only [L2.CMul, L2.CDiv, L2.CDivN]; omega) | (unfold L2.CPow; decide) | (simp only [List.length_cons, List.length_nil, List.length_append, List.length_map, List.length_range, List.length_replicate, List.length_set, List.length_take, List.length_drop, PySem.sizeLine_eq] <;> omega))
local macro_rules | `(tactic| walk_at "ixs") => `(tactic| first | assumption | omega | (simp only [List.length_set, List.length_map, List.length_cons, List.length_nil, List.length_append, List.length_replicate] <;> first | assumption | omega))
local macro_rules | `(tactic| walk_at "lk") => `(tactic| first | rfl | assumption | (exact Dh.ixN_lt (by walk_at "ixs")) | (exact Dh.atI_lt (by assumption))  | with_reducible exact Toy.lk_Ring_rows | with_reducible exact Toy.lk_Ring_by_device | with_reducible exact Toy.lk_Ring_done | with_reducible exact Toy.lk_Ring_fill_at | with_reducible exact Toy.lk_Ring_work_at | with_reducible exact Toy.lk_Ring_reap_at | with_reducible exact Toy.lk_Ring_filled | with_reducible exact Toy.no_Ring_init | with_reducible exact Toy.no_Ring_fill | with_reducible exact Toy.no_Ring_work | with_reducible exact Toy.no_Ring_reap | with_reducible exact Toy.no_Ring_left_room | with_reducible exact Toy.lk_Queue_many | with_reducible exact Toy.lk_Queue_round_at | with_reducible exact Toy.lk_Queue_table | with_reducible exact Toy.lk_Queue_free | with_reducible exact Toy.lk_Queue_given | with_reducible exact Toy.lk_Queue_used | with_reducible exact Toy.lk_Queue_given_count | with_reducible exact Toy.lk_Queue_used_count | with_reducible exact Toy.lk_Queue_device_seen | with_reducible exact Toy.lk_Queue_out | with_reducible exact Toy.lk_Queue_driver_seen | with_reducible exact Toy.no_Queue_init | with_reducible exact Toy.no_Queue_give | with_reducible exact Toy.no_Queue_untaken | with_reducible exact Toy.no_Queue_take | with_reducible exact Toy.no_Queue_use | with_reducible exact Toy.no_Queue_reap | with_reducible exact Toy.no_Queue_needs_call | with_reducible exact Toy.lk_Pipe_cells | with_reducible exact Toy.lk_Pipe_put_at | with_reducible exact Toy.lk_Pipe_get_at | with_reducible exact Toy.no_Pipe_init | with_reducible exact Toy.no_Pipe_lying | with_reducible exact Toy.no_Pipe_put | with_reducible exact Toy.no_Pipe_get)
local macro_rules | `(tactic| walk_at "pf") => `(tactic| first  | with_reducible exact Toy.pf_Ring_rows | with_reducible exact Toy.pf_Ring_by_device | with_reducible exact Toy.pf_Ring_done | with_reducible exact Toy.pf_Ring_fill_at | with_reducible exact Toy.pf_Ring_work_at | with_reducible exact Toy.pf_Ring_reap_at | with_reducible exact Toy.pf_Ring_filled | with_reducible exact Toy.gr_Ring_rows | with_reducible exact Toy.gr_Ring_by_device | with_reducible exact Toy.gr_Ring_done | with_reducible exact Toy.gr_Ring_fill_at | with_reducible exact Toy.gr_Ring_work_at | with_reducible exact Toy.gr_Ring_reap_at | with_reducible exact Toy.gr_Ring_filled | with_reducible exact Toy.pf_Queue_many | with_reducible exact Toy.pf_Queue_round_at | with_reducible exact Toy.pf_Queue_table | with_reducible exact Toy.pf_Queue_free | with_reducible exact Toy.pf_Queue_given | with_reducible exact Toy.pf_Queue_used | with_reducible exact Toy.pf_Queue_given_count | with_reducible exact Toy.pf_Queue_used_count | with_reducible exact Toy.pf_Queue_device_seen | with_reducible exact Toy.pf_Queue_out | with_reducible exact Toy.pf_Queue_driver_seen | with_reducible exact Toy.gr_Queue_many | with_reducible exact Toy.gr_Queue_round_at | with_reducible exact Toy.gr_Queue_table | with_reducible exact Toy.gr_Queue_free | with_reducible exact Toy.gr_Queue_given | with_reducible exact Toy.gr_Queue_used | with_reducible exact Toy.gr_Queue_given_count | with_reducible exact Toy.gr_Queue_used_count | with_reducible exact Toy.gr_Queue_device_seen | with_reducible exact Toy.gr_Queue_out | with_reducible exact Toy.gr_Queue_driver_seen | with_reducible exact Toy.pf_Pipe_cells | with_reducible exact Toy.pf_Pipe_put_at | with_reducible exact Toy.pf_Pipe_get_at | with_reducible exact Toy.gr_Pipe_cells | with_reducible exact Toy.gr_Pipe_put_at | with_reducible exact Toy.gr_Pipe_get_at | rfl)
local macro_rules | `(tactic| walk_at "ln") => `(tactic| first  | with_reducible exact Toy.ln_Ring | with_reducible exact Toy.ln_Queue | with_reducible exact Toy.ln_Pipe | decide | (simp only [List.length_cons, List.length_nil] <;> omega))
local macro_rules | `(tactic| walk_at "hasm") => `(tactic| first | (refine' Toy.hasM_pipe ?q0 ?q1; (case q0 => walk_at "pk"); (case q1 => (intros; walk_at "lk"))) | (refine' Dh.hasM_ob ?q0 ?q1; (case q0 => walk_at "pk"); (case q1 => walk_at "lk")))
local macro_rules | `(tactic| walk_at "vcp0") => `(tactic| first | ((with_reducible refine' Dh.g_seq ?k)) | ((with_reducible refine' Dh.g_next ?k)) | ((with_reducible refine' Dh.g_nonA ?k)) | ((with_reducible refine' Dh.g_var ?q0 ?k); (case q0 => rfl)) | ((with_reducible refine' Dh.g_c ?k)) | ((with_reducible refine' Dh.g_op ?k)) | ((with_reducible refine' Dh.g_asg ?k)) | ((with_reducible refine' Dh.g_name ?k)) | ((with_reducible refine' Dh.g_ifS ?k)) | ((with_reducible refine' Dh.g_test ?k)) | ((with_reducible refine' Dh.g_isB ?k)) | ((with_reducible refine' Dh.g_B ?k)) | ((with_reducible refine' Dh.g_ret ?k)) | ((with_reducible refine' Dh.g_retN ?k)) | ((with_reducible refine' Dh.g_drop ?k)) | ((with_reducible refine' Dh.g_brk ?k)) | ((with_reducible refine' Dh.g_cont ?k)) | ((with_reducible refine' Dh.g_un ?k)) | ((with_reducible refine' Dh.g_I0 ?k)) | ((with_reducible refine' Dh.g_addI ?k)) | ((with_reducible refine' Dh.g_addB ?k)) | ((with_reducible refine' Dh.g_addS ?q0 ?k); (case q0 => walk_at "side")) | ((with_reducible refine' Dh.g_addM ?q0 ?q1 ?q2 ?k); (case q0 => walk_at "pk"); (case q1 => walk_at "pk"); (case q2 => walk_at "side"); intro _) | ((with_reducible refine' Dh.g_addL ?q0 ?q1 ?q2 ?k); (case q0 => walk_at "pk"); (case q1 => walk_at "pk"); (case q2 => walk_at "side"); intro _))
local macro_rules | `(tactic| walk_at "vcp1") => `(tactic| first | ((with_reducible refine' Dh.g_I ?q0 ?k); (case q0 => walk_at "side")) | ((with_reducible refine' Dh.g_mulI ?q0 ?k); (case q0 => walk_at "side")) | ((with_reducible refine' Dh.g_U ?k)) | ((with_reducible refine' Dh.g_eqS ?q0 ?k); (case q0 => rfl)) | ((with_reducible refine' Dh.g_neS ?q0 ?k); (case q0 => rfl)) | ((with_reducible refine' Dh.g_eqLL ?q0 ?q1 ?k); (case q0 => walk_at "pk"); (case q1 => walk_at "pk")) | ((with_reducible refine' Dh.g_neLL ?q0 ?q1 ?k); (case q0 => walk_at "pk"); (case q1 => walk_at "pk")) | ((with_reducible refine' Dh.g_eqL0 ?q0 ?q1 ?k); (case q0 => walk_at "pk"); (case q1 => walk_at "pk")) | ((with_reducible refine' Dh.g_neL0 ?q0 ?q1 ?k); (case q0 => walk_at "pk"); (case q1 => walk_at "pk")) | ((with_reducible refine' Dh.g_neT0 ?q0 ?q1 ?q2 ?k); (case q0 => walk_at "pk"); (case q1 => walk_at "pk"); (case q2 => walk_at "pk")) | ((with_reducible refine' Dh.g_neP ?q0 ?q1 ?k); (case q0 => walk_at "pk"); (case q1 => walk_at "pk")) | ((with_reducible refine' Dh.g_inI ?q0 ?k); (case q0 => walk_at "pk")) | ((with_reducible refine' Dh.g_isN ?k)) | ((with_reducible refine' Dh.g_notN ?k)) | ((with_reducible refine' Dh.g_ixL ?q0 ?q1 ?k); (case q0 => walk_at "pk"); (case q1 => walk_at "lk")) | ((with_reducible refine' Dh.g_ixT ?q0 ?q1 ?k); (case q0 => walk_at "pk"); (case q1 => walk_at "lk")) | ((with_reducible refine' Dh.g_sl ?k)) | ((with_reducible refine' Dh.g_noPart ?k)) | ((with_reducible refine' Dh.g_part ?k)) | ((with_reducible refine' Dh.g_isSomeInt ?k)) | ((with_reducible refine' Dh.g_slTk ?q0 ?k); (case q0 => walk_at "pk"); intro _) | ((with_reducible refine' Dh.g_slDr ?q0 ?k); (case q0 => walk_at "pk"); intro _) | ((with_reducible refine' Dh.g_slL ?q0 ?k); (case q0 => walk_at "pk"); intro _) | ((with_reducible refine' Dh.g_slQTk ?q0 ?k); (case q0 => walk_at "pk"); intro _))
local macro_rules | `(tactic| walk_at "vcp2") => `(tactic| first | ((with_reducible refine' Dh.g_slQ ?q0 ?k); (case q0 => walk_at "pk"); intro _) | ((with_reducible refine' Dh.g_fldE ?k)) | ((with_reducible refine' Dh.g_fld ?q0 ?q1 ?k); (case q0 => walk_at "pk"); (case q1 => walk_at "lk")) | ((with_reducible refine' Dh.g_tup ?k)) | ((with_reducible refine' Dh.g_lst ?k)) | ((with_reducible refine' Dh.g_newT ?q0 ?k); (case q0 => walk_at "side"); intro _) | ((with_reducible refine' Dh.g_newL ?q0 ?k); (case q0 => walk_at "side"); intro _) | ((with_reducible refine' Dh.g_nil ?k)) | ((with_reducible refine' Dh.g_cons ?k)) | ((with_reducible refine' Dh.g_call ?k)) | ((with_reducible refine' Dh.g_methE ?k)) | ((with_reducible refine' Dh.g_meth ?q0 ?k); (case q0 => walk_at "hasm")) | ((with_reducible refine' Dh.g_make ?k)) | ((with_reducible refine' Dh.g_made ?k); intro _) | ((with_reducible refine' Dh.g_cb ?k)) | ((with_reducible refine' Dh.g_int ?k)) | ((with_reducible refine' Dh.g_intB ?k)) | ((with_reducible refine' Dh.g_abs ?k)) | ((with_reducible refine' Dh.g_max2 ?k)) | ((with_reducible refine' Dh.g_min2 ?k)) | ((with_reducible refine' Dh.g_strI ?q0 ?k); (case q0 => walk_at "side")) | ((with_reducible refine' Dh.g_lenL ?q0 ?k); (case q0 => walk_at "pk")) | ((with_reducible refine' Dh.g_lenT ?q0 ?k); (case q0 => walk_at "pk")) | ((with_reducible refine' Dh.g_lenD ?q0 ?k); (case q0 => walk_at "pk")))
local macro_rules | `(tactic| walk_at "vcp3") => `(tactic| first | ((with_reducible refine' Dh.g_listL ?q0 ?k); (case q0 => walk_at "pk"); intro _) | ((with_reducible refine' Dh.g_listT ?q0 ?k); (case q0 => walk_at "pk"); intro _) | ((with_reducible refine' Dh.g_tupL ?q0 ?k); (case q0 => walk_at "pk"); intro _) | ((with_reducible refine' Dh.g_tupT ?q0 ?k); (case q0 => walk_at "pk")) | ((with_reducible refine' Dh.g_pop0 ?q0 ?k); (case q0 => walk_at "pk")) | ((with_reducible refine' Dh.g_bm ?k)) | ((with_reducible refine' Dh.g_bm0 ?k)) | ((with_reducible refine' Dh.g_tyL ?q0 ?k); (case q0 => walk_at "pk")) | ((with_reducible refine' Dh.g_append ?q0 ?q1 ?k); (case q0 => walk_at "pk"); (case q1 => walk_at "side")) | ((with_reducible refine' Dh.g_rep ?q0 ?q1 ?q2 ?q3 ?k); (case q0 => walk_at "pk"); (case q1 => walk_at "side"); (case q2 => walk_at "side"); (case q3 => walk_at "side"); intro _) | ((with_reducible refine' Dh.g_not ?k)) | ((with_reducible refine' Dh.g_tand ?k)) | ((with_reducible refine' Dh.g_tor ?k)) | ((with_reducible refine' Dh.g_andV ?k)) | ((with_reducible refine' Dh.g_orV ?k)) | ((with_reducible refine' Dh.g_notV ?k)) | ((with_reducible refine' Dh.g_ifE ?k)) | ((with_reducible refine' Dh.g_chain ?k)) | ((with_reducible refine' Dh.g_tru ?k)) | ((with_reducible refine' Dh.g_truB ?k)) | ((with_reducible refine' Dh.g_truI ?k)) | ((with_reducible refine' Dh.g_truN ?k)) | ((with_reducible refine' Dh.g_truL ?q0 ?k); (case q0 => walk_at "pk")) | ((with_reducible refine' Dh.g_gsub ?k)))
local macro_rules | `(tactic| walk_at "vcp4") => `(tactic| first | ((with_reducible refine' Dh.g_setL ?q0 ?q1 ?k); (case q0 => walk_at "pk"); (case q1 => walk_at "lk")) | ((with_reducible refine' Dh.g_gtup ?q0 ?q1 ?k); (case q0 => walk_at "pk"); (case q1 => rfl)) | ((with_reducible refine' Dh.g_gnil ?k)) | ((with_reducible refine' Dh.g_gcons ?k)) | ((with_reducible refine' Dh.g_par ?k)) | ((with_reducible refine' Dh.g_par2 ?k)) | ((with_reducible refine' Dh.g_par3 ?k)) | ((with_reducible refine' Dh.g_par3b ?k)) | ((with_reducible refine' Dh.g_listRg ?k)) | ((with_reducible refine' Dh.g_rg1E ?k)) | ((with_reducible refine' Dh.g_rg1 ?k)) | ((with_reducible refine' Dh.g_rgN ?q0 ?k); (case q0 => walk_at "side"); intro _) | ((with_reducible refine' Dh.g_rgL ?q0 ?k); (case q0 => walk_at "side"); intro _) | ((with_reducible refine' Dh.g_dinE ?k)) | ((with_reducible refine' Dh.g_dinI ?q0 ?k); (case q0 => walk_at "pk")) | ((with_reducible refine' Dh.g_dnotinE ?k)) | ((with_reducible refine' Dh.g_dnotinI ?q0 ?k); (case q0 => walk_at "pk")) | ((with_reducible refine' Dh.g_dgetE ?k)) | ((with_reducible refine' Dh.g_dgetI ?q0 ?q1 ?k); (case q0 => walk_at "pk"); (case q1 => walk_at "lk")) | ((with_reducible refine' Dh.g_dputE ?k)) | ((with_reducible refine' Dh.g_dputI ?q0 ?q1 ?k); (case q0 => walk_at "pk"); (case q1 => walk_at "side")) | ((with_reducible refine' Dh.g_dpopE ?k)) | ((with_reducible refine' Dh.g_dpopA ?q0 ?k); (case q0 => walk_at "pk")) | ((with_reducible refine' Dh.g_dpopB ?q0 ?q1 ?k); (case q0 => walk_at "pk"); (case q1 => walk_at "lk")))
local macro_rules | `(tactic| walk_at "vcp5") => `(tactic| first | ((with_reducible refine' Dh.g_dnew ?k); intro _) | ((with_reducible refine' Dh.g_ipMul ?q0 ?k); (case q0 => walk_at "side")) | ((with_reducible refine' Dh.g_sfldE ?k)) | ((with_reducible refine' Dh.g_sfld ?q0 ?q1 ?q2 ?k); (case q0 => walk_at "pk"); (case q1 => walk_at "pf"); (case q2 => walk_at "ln")) | ((with_reducible refine' Dh.g_augE ?k)) | ((with_reducible refine' Dh.g_augF ?q0 ?q1 ?k); (case q0 => walk_at "pk"); (case q1 => walk_at "lk")) | ((with_reducible refine' Dh.g_augV ?q0 ?k); (case q0 => rfl)) | ((with_reducible refine' Dh.g_ipI ?k)) | ((with_reducible refine' Dh.g_rAdd ?k)) | ((with_reducible refine' Dh.g_rSub ?k)) | ((with_reducible refine' Dh.g_for ?k)) | ((with_reducible refine' Dh.g_iRng1 ?k)) | ((with_reducible refine' Dh.g_iRng2 ?k)) | ((with_reducible refine' Dh.g_rng1 ?q0 ?q1 ?k); (case q0 => walk_at "side"); (case q1 => walk_at "side")) | ((with_reducible refine' Dh.g_rng2 ?q0 ?k); (case q0 => walk_at "side")) | ((with_reducible refine' Dh.g_iSeqE ?k)) | ((with_reducible refine' Dh.g_iSeqL ?q0 ?k); (case q0 => walk_at "pk")) | ((with_reducible refine' Dh.g_iSeqT ?q0 ?k); (case q0 => walk_at "pk")) | ((with_reducible refine' Dh.g_wbody ?k)) | ((with_reducible refine' Dh.g_lcE ?k)) | ((with_reducible refine' Dh.g_turn ?k)) | ((with_reducible refine' Dh.g_tYes ?k)) | ((with_reducible refine' Dh.g_rs ?k)) | ((with_reducible refine' Dh.g_rsW ?k)))
local macro_rules | `(tactic| walk_at "vcp6") => `(tactic| first | ((with_reducible refine' Dh.g_told ?k)) | ((with_reducible refine' Dh.g_ifT ?q0 ?k); (case q0 => rfl)) | ((with_reducible refine' Dh.g_ifF ?q0 ?k); (case q0 => rfl)))
local macro_rules | `(tactic| walk_at "vc1") => `(tactic| first | walk_at "vcp0" | walk_at "vcp1" | walk_at "vcp2" | walk_at "vcp3" | walk_at "vcp4" | walk_at "vcp5" | walk_at "vcp6")
local macro_rules | `(tactic| walk_at "vc") => `(tactic| repeat walk_at "vc1")
local macro_rules | `(tactic| walk_at "spl") => `(tactic| first | ((with_reducible refine Dh.g_ifD ?_ ?_) <;> intro _) | ((with_reducible refine Dh.g_ifN ?_ ?_) <;> intro _) | ((with_reducible refine Dh.g_if ?_ ?_) <;> intro _))
local macro_rules | `(tactic| walk_at "vcs") => `(tactic| repeat' (first | walk_at "vc1" | walk_at "spl"))
namespace Toy
open PySem L2
section
variable {P : Program} {w : World} {K : PySem.W.Frag} {mg : Str → Option Value} {base : Heap} {T : List (Addr × Str)} {C_Ring C_Queue C_Pipe C_BadWord C_BadPlace C_BadPlan C_NotDue C_Stuck C_BadBits C_BadText C_TooLarge g_told : Addr}
theorem take_snoc {X : List Int} {i : Nat} {x : Int} (hx : X[i]? = some x) : X.take (i + 1) = X.take i ++ [x] := by
  rw [List.take_add_one, hx]
  rfl
def sg_Pipe_put (T : List (Addr × Str)) (K : PySem.W.Frag) (C_Ring C_Queue C_Pipe C_BadWord C_BadPlace C_BadPlan C_NotDue C_Stuck C_BadBits C_BadText C_TooLarge g_told : Addr) : Dh.SG :=
  fun vs L Q E => ∃ (p rr : Addr) (n : Nat) (S X : List Int) (R : List Dh.HP), vs = [.ref p, .ref rr] ∧ Dh.Ent L (PipeAt C_Pipe p n S :: Dh.pt rr (.lst (X.map .int)) :: R) ∧
    (∀ m : Nat, m = min X.length (n - 1 - S.length) → S.length < n → Dh.Go T (PipeAt C_Pipe p n (S ++ X.take m) :: Dh.pt rr (.lst (X.map .int)) :: R) fun H => Q (.int (m : Int)) H)
set_option maxHeartbeats 8000000 in
theorem ok_Pipe_put (Z : Txt K mg C_Ring C_Queue C_Pipe C_BadWord C_BadPlace C_BadPlan C_NotDue C_Stuck C_BadBits C_BadText C_TooLarge g_told) (c_Pipe_lying : Dh.MetX P w K mg base 1 C_Pipe "lying" (Dh.sOfN T 1 (sg_Pipe_lying T K C_Ring C_Queue C_Pipe C_BadWord C_BadPlace C_BadPlan C_NotDue C_Stuck C_BadBits C_BadText C_TooLarge g_told))) {f : Addr} {fd : FuncData} {cdv : Value} (F : Dh.FunC K "put" "Pipe.put" s_Pipe_put f fd cdv) :
    FnOk P w K mg base (L2.CX P w) 2 f fd ["self", "row"] (Dh.sOfN T 2 (sg_Pipe_put T K C_Ring C_Queue C_Pipe C_BadWord C_BadPlace C_BadPlan C_NotDue C_Stuck C_BadBits C_BadText C_TooLarge g_told)) := by
  refine Dh.fnX (k := 1) F sc_Pipe_put rfl (fun A outer s H0 L vs Q E hr hl h => ?_)
  refine ⟨_, (pss_cons (ps_set (i := 2) sc_Pipe_put.nd rfl (by first | exact Or.inl rfl | exact Or.inr rfl) (pe_callB (Dh.call_min2X rfl) (by rfl) Z.b_min (by first | exact PySem.boot_min | exact PyProof.Rows.boot_min | decide +kernel) (pa_cons (pe_callB (Dh.cLen (K := K) rfl) (by rfl) Z.b_len (by first | exact PySem.boot_len | exact PyProof.Rows.boot_len | decide +kernel) (pa_cons (pv 1) pa_nil)) (pa_cons (pe_op op_sub (pe_op op_sub (pe_callB (Dh.cLen (K := K) rfl) (by rfl) Z.b_len (by first | exact PySem.boot_len | exact PyProof.Rows.boot_len | decide +kernel) (pa_cons (Dh.pe_fldC Z.c_Pipe Z.n_Pipe_cells (pv 0)) pa_nil)) pe_int) (Dh.pe_met0 c_Pipe_lying hr (by decide) (passes_call (takes_of rfl rfl rfl rfl) (fun _ _ _ _ h => h)) (pv 0))) pa_nil))))
    (pss_cons (ps_for (passes_of rfl) rfl (Dh.piSeq (K := K) rfl (pe_slice (Dh.slSeq (K := K) rfl) (pv 1) po_none (po_some (pv 2)))) (pg_name (i := 3) sc_Pipe_put.nd rfl (by first | exact Or.inl rfl | exact Or.inr rfl))
    (pss_cons (ps_asg (pv 3) (pg_sub (Dh.pe_fldC Z.c_Pipe Z.n_Pipe_cells (pv 0)) (Dh.pe_fldC Z.c_Pipe Z.n_Pipe_put_at (pv 0)) set_list))
    (pss_one (Dh.ps_fldC Z.c_Pipe Z.n_Pipe_put_at (pv 0) (pe_op op_mod (pe_op (Dh.oAdd (K := K) rfl) (Dh.pe_fldC Z.c_Pipe Z.n_Pipe_put_at (pv 0)) pe_int) (pe_callB (Dh.cLen (K := K) rfl) (by rfl) Z.b_len (by first | exact PySem.boot_len | exact PyProof.Rows.boot_len | decide +kernel) (pa_cons (Dh.pe_fldC Z.c_Pipe Z.n_Pipe_cells (pv 0)) pa_nil)))))))
    (pss_one (ps_ret (pv 2))))), ?_⟩
  try dsimp only [L2.cxOf, L2.Cx.blk, LamX.lamCx, L2.Cx.tr]
  obtain ⟨p, rr, n, S, X, R, rfl, hE, k⟩ := h
  refine Dh.Go.ent hE (go_pipe fun r cells pa ga a ok => ?_)
  walk_at "vc"
  refine' fold_pipe ok ?e ?ka
  (case e => walk_at "ent")
  refine' Dh.g_sp rfl ⟨p, n, S, _, rfl, ?e1, ?kb⟩
  (case e1 => walk_at "ent")
  intro hlt
  walk_at "vc"
  rename_i D
  obtain ⟨m, hm⟩ : ∃ m, m = min X.length (n - 1 - S.length) := ⟨_, rfl⟩
  have em : (if (cells.length : Int) - 1 - (S.length : Int) < ((X.map V.int).length : Int) then (cells.length : Int) - 1 - S.length else ((X.map V.int).length : Int)) = (m : Int) := by
    rw [ok.l1, List.length_map]
    split <;> omega
  rw [em, Dh.cut_take, ← List.map_take]
  refine Dh.g_forL (xs := (X.take m).map .int) (fun i σ L => ∃ v, σ = [some (.ref p), some (.ref rr), some (.int m), v] ∧ Dh.Ent L (PipeAt C_Pipe p n (S ++ (X.take m).take i) :: Dh.pt D (.lst ((X.take m).map .int)) :: Dh.pt rr (.lst (X.map .int)) :: R)) ⟨none, rfl, ?e2⟩ ?_ ?_ ?_
  case e2 =>
    rw [List.take_zero, List.append_nil]
    walk_at "ent"
  · rintro i σ L ⟨v, rfl, hE⟩
    exact hE.has (by walk_at "pk")
  · rintro i x σ L hx ⟨v, rfl, hE⟩
    rw [List.getElem?_map] at hx
    obtain ⟨z, hz, rfl⟩ := Option.map_eq_some_iff.mp hx
    have hi : i < m := by
      have := (List.getElem?_eq_some_iff.mp hz).1
      rw [List.length_take] at this
      omega
    refine Dh.Go.ent hE (go_pipe fun r cells pa ga a ok => ?_)
    obtain ⟨l1, ha, hm', rfl, rfl, cl⟩ := id ok
    have hk : (a + (S ++ (X.take m).take i).length) % n < n := Nat.mod_lt _ (by omega)
    walk_at "vc"
    refine Dh.SI.in ⟨_, rfl, ?_⟩
    rw [take_snoc hz, ← List.append_assoc]
    refine' ent_pipe (ok.put (by simp only [List.length_append, List.length_take]; omega)) ?e3
    (case e3 => walk_at "ent")
  · rintro σ L ⟨v, rfl, hE⟩
    refine Dh.Go.ent hE ?_
    walk_at "vc"
    rw [List.length_map, List.take_of_length_le (Nat.le_refl _)]
    refine' Dh.Go.ent ?e4 (k m hm hlt)
    (case e4 => walk_at "ent")
def sg_Pipe_get (T : List (Addr × Str)) (K : PySem.W.Frag) (C_Ring C_Queue C_Pipe C_BadWord C_BadPlace C_BadPlan C_NotDue C_Stuck C_BadBits C_BadText C_TooLarge g_told : Addr) : Dh.SG :=
  fun vs L Q E => ∃ (p : Addr) (n m : Nat) (S : List Int) (R : List Dh.HP), vs = [.ref p, .int m] ∧ Dh.Ent L (PipeAt C_Pipe p n S :: R) ∧ n ≤ 1000 ∧
    (∀ t : Addr, Dh.Go T (Dh.pt t (.tup ((S.take m).map .int)) :: PipeAt C_Pipe p n (S.drop m) :: R) fun H => Q (.ref t) H)
set_option maxHeartbeats 8000000 in
theorem ok_Pipe_get (Z : Txt K mg C_Ring C_Queue C_Pipe C_BadWord C_BadPlace C_BadPlan C_NotDue C_Stuck C_BadBits C_BadText C_TooLarge g_told) (c_Pipe_lying : Dh.MetX P w K mg base 1 C_Pipe "lying" (Dh.sOfN T 1 (sg_Pipe_lying T K C_Ring C_Queue C_Pipe C_BadWord C_BadPlace C_BadPlan C_NotDue C_Stuck C_BadBits C_BadText C_TooLarge g_told))) {f : Addr} {fd : FuncData} {cdv : Value} (F : Dh.FunC K "get" "Pipe.get" s_Pipe_get f fd cdv) :
    FnOk P w K mg base (L2.CX P w) 2 f fd ["self", "most"] (Dh.sOfN T 2 (sg_Pipe_get T K C_Ring C_Queue C_Pipe C_BadWord C_BadPlace C_BadPlan C_NotDue C_Stuck C_BadBits C_BadText C_TooLarge g_told)) := by
  refine Dh.fnX (k := 1) F sc_Pipe_get rfl (fun A outer s H0 L vs Q E hr hl h => ?_)
  refine ⟨_, (pss_cons (ps_set (i := 2) sc_Pipe_get.nd rfl (by first | exact Or.inl rfl | exact Or.inr rfl) (pe_lst pa_nil))
    (pss_cons (ps_while (passes_of rfl) (PW.pt (pw_and (pt_cmpR op_lt (pe_callB (Dh.cLen (K := K) rfl) (by rfl) Z.b_len (by first | exact PySem.boot_len | exact PyProof.Rows.boot_len | decide +kernel) (pa_cons (pv 2) pa_nil)) (pv 1) (nomark _)) (pw_and1 (pt_cmpR op_gt (Dh.pe_met0 c_Pipe_lying hr (by decide) (passes_call (takes_of rfl rfl rfl rfl) (fun _ _ _ _ h => h)) (pv 0)) pe_int (nomark _)))))
    (pss_cons (ps_expr (pe_bm PySem.F.plainAttrs_list PySem.F.slot_list_append PySem.F.type_list_append mt_append (pv 2) (pa_cons (pe_ix (Dh.xSeq (K := K) rfl) (Dh.pe_fldC Z.c_Pipe Z.n_Pipe_cells (pv 0)) (Dh.pe_fldC Z.c_Pipe Z.n_Pipe_get_at (pv 0)) (fun _ _ => rfl)) pa_nil)))
    (pss_one (Dh.ps_fldC Z.c_Pipe Z.n_Pipe_get_at (pv 0) (pe_op op_mod (pe_op (Dh.oAdd (K := K) rfl) (Dh.pe_fldC Z.c_Pipe Z.n_Pipe_get_at (pv 0)) pe_int) (pe_callB (Dh.cLen (K := K) rfl) (by rfl) Z.b_len (by first | exact PySem.boot_len | exact PyProof.Rows.boot_len | decide +kernel) (pa_cons (Dh.pe_fldC Z.c_Pipe Z.n_Pipe_cells (pv 0)) pa_nil)))))))
    (pss_one (ps_ret (pe_callTy (Dh.cTup (K := K) rfl) (by rfl) Z.b_tuple (by first | exact PySem.boot_tuple | exact PyProof.Rows.boot_tuple | decide +kernel) (pa_cons (pv 2) pa_nil)))))), ?_⟩
  try dsimp only [L2.cxOf, L2.Cx.blk, LamX.lamCx, L2.Cx.tr]
  obtain ⟨p, n, m, S, R, rfl, hE, hn, k⟩ := h
  refine Dh.Go.ent hE (go_pipe fun r cells pa ga a ok => ?_)
  have hS := ok.hm
  refine' fold_pipe ok ?e ?ka
  (case e => walk_at "ent")
  walk_at "vc"
  rename_i D
  refine Dh.g_while (fun w σ L => ∃ (i : Nat) (S' : List Int), w = m - i ∧ i ≤ m ∧ i ≤ S.length ∧ S' = S.drop i ∧ σ = [some (.ref p), some (.int m), some (.ref D)] ∧ Dh.Ent L (PipeAt C_Pipe p n S' :: Dh.pt D (.lst ((S.take i).map .int)) :: R)) m ⟨0, S, rfl, by omega, by omega, rfl, rfl, ?e1⟩ ?_
  case e1 =>
    rw [List.take_zero, List.map_nil]
    walk_at "ent"
  rintro w σ L ⟨i, S', rfl, him, hiS, rfl, rfl, hE⟩
  refine Dh.Go.ent hE ?_
  have ei : ((S.take i).map V.int).length = i := by rw [List.length_map, List.length_take]; omega
  walk_at "vcs"
  · rename_i hc
    rw [ei] at hc
    refine' Dh.g_sp rfl ⟨p, n, S.drop i, _, rfl, ?e2, ?kb⟩
    (case e2 => walk_at "ent")
    intro hlt
    walk_at "vcs"
    · rename_i hd
      rw [List.length_drop] at hd
      have hx : S.drop i = S[i]'(by omega) :: S.drop (i + 1) := List.drop_eq_getElem_cons (by omega)
      rw [hx]
      refine (go_pipe fun r cells pa ga a ok => ?_)
      obtain ⟨l1, ha, hm', rfl, rfl, cl⟩ := id ok
      have hat := ok.at
      walk_at "vcs"
      refine Dh.SI.in ⟨m - (i + 1), by omega, i + 1, S.drop (i + 1), rfl, by omega, by omega, rfl, rfl, ?_⟩
      rw [take_snoc (List.getElem?_eq_getElem (show i < S.length by omega)), List.map_append, List.map_cons, List.map_nil]
      refine' ent_pipe ok.get ?e3
      (case e3 => walk_at "ent")
    · rename_i hd _
      rw [List.length_drop] at hd
      have e : i = S.length := by omega
      subst e
      refine' Dh.Go.ent ?e4 (k _)
      case e4 =>
        rw [List.take_of_length_le (show S.length ≤ m by omega), List.take_length, List.drop_of_length_le (show S.length ≤ m by omega), List.drop_length]
        walk_at "ent"
  · rename_i hc _
    rw [ei] at hc
    have e : i = m := by omega
    subst e
    refine' Dh.Go.ent ?e5 (k _)
    (case e5 => walk_at "ent")
end
end Toy
end

section
local macro_rules | `(tactic| walk_at "pk") => `(tactic| (with_reducible first | exact Dh.pick_here | (refine' Dh.pick_there ?p; (case p => walk_at "pk"))))
local macro_rules | `(tactic| walk_at "ent") => `(tactic| first | (with_reducible exact Dh.ent_refl) | (with_reducible exact Dh.ent_nil) | (refine' Dh.ent_cons ?q0 ?k; (case q0 => walk_at "pk"); (case k => walk_at "ent")) | (refine' Dh.ent_drop ?k; (case k => walk_at "ent")))
local macro_rules | `(tactic| walk_at "side") => `(tactic| first | omega | decide | (simp only [L2.CMul, L2.CDiv, L2.CDivN]; omega) | (unfold L2.CPow; decide) | (simp only [List.length_cons, List.length_nil, List.length_append, List.length_map, List.length_range, List.length_replicate, List.length_set, List.length_take, List.length_drop, PySem.sizeLine_eq] <;> omega))
local macro_rules | `(tactic| walk_at "ixs") => `(tactic| first | assumption | omega | (simp only [List.length_set, List.length_map, List.length_cons, List.length_nil, List.length_append, List.length_replicate] <;> first | assumption | omega))
local macro_rules | `(tactic| walk_at "lk") => `(tactic| first | rfl | assumption | (exact Dh.ixN_lt (by walk_at "ixs")) | (exact Dh.atI_lt (by assumption))  | with_reducible exact Toy.lk_Ring_rows | with_reducible exact Toy.lk_Ring_by_device | with_reducible exact Toy.lk_Ring_done | with_reducible exact Toy.lk_Ring_fill_at | with_reducible exact Toy.lk_Ring_work_at | with_reducible exact Toy.lk_Ring_reap_at | with_reducible exact Toy.lk_Ring_filled | with_reducible exact Toy.no_Ring_init | with_reducible exact Toy.no_Ring_fill | with_reducible exact Toy.no_Ring_work | with_reducible exact Toy.no_Ring_reap | with_reducible exact Toy.no_Ring_left_room | with_reducible exact Toy.lk_Queue_many | with_reducible exact Toy.lk_Queue_round_at | with_reducible exact Toy.lk_Queue_table | with_reducible exact Toy.lk_Queue_free | with_reducible exact Toy.lk_Queue_given | with_reducible exact Toy.lk_Queue_used | with_reducible exact Toy.lk_Queue_given_count | with_reducible exact Toy.lk_Queue_used_count | with_reducible exact Toy.lk_Queue_device_seen | with_reducible exact Toy.lk_Queue_out | with_reducible exact Toy.lk_Queue_driver_seen | with_reducible exact Toy.no_Queue_init | with_reducible exact Toy.no_Queue_give | with_reducible exact Toy.no_Queue_untaken | with_reducible exact Toy.no_Queue_take | with_reducible exact Toy.no_Queue_use | with_reducible exact Toy.no_Queue_reap | with_reducible exact Toy.no_Queue_needs_call | with_reducible exact Toy.lk_Pipe_cells | with_reducible exact Toy.lk_Pipe_put_at | with_reducible exact Toy.lk_Pipe_get_at | with_reducible exact Toy.no_Pipe_init | with_reducible exact Toy.no_Pipe_lying | with_reducible exact Toy.no_Pipe_put | with_reducible exact Toy.no_Pipe_get)
local macro_rules | `(tactic| walk_at "pf") => `(tactic| first  | with_reducible exact Toy.pf_Ring_rows | with_reducible exact Toy.pf_Ring_by_device | with_reducible exact Toy.pf_Ring_done | with_reducible exact Toy.pf_Ring_fill_at | with_reducible exact Toy.pf_Ring_work_at | with_reducible exact Toy.pf_Ring_reap_at | with_reducible exact Toy.pf_Ring_filled | with_reducible exact Toy.gr_Ring_rows | with_reducible exact Toy.gr_Ring_by_device | with_reducible exact Toy.gr_Ring_done | with_reducible exact Toy.gr_Ring_fill_at | with_reducible exact Toy.gr_Ring_work_at | with_reducible exact Toy.gr_Ring_reap_at | with_reducible exact Toy.gr_Ring_filled | with_reducible exact Toy.pf_Queue_many | with_reducible exact Toy.pf_Queue_round_at | with_reducible exact Toy.pf_Queue_table | with_reducible exact Toy.pf_Queue_free | with_reducible exact Toy.pf_Queue_given | with_reducible exact Toy.pf_Queue_used | with_reducible exact Toy.pf_Queue_given_count | with_reducible exact Toy.pf_Queue_used_count | with_reducible exact Toy.pf_Queue_device_seen | with_reducible exact Toy.pf_Queue_out | with_reducible exact Toy.pf_Queue_driver_seen | with_reducible exact Toy.gr_Queue_many | with_reducible exact Toy.gr_Queue_round_at | with_reducible exact Toy.gr_Queue_table | with_reducible exact Toy.gr_Queue_free | with_reducible exact Toy.gr_Queue_given | with_reducible exact Toy.gr_Queue_used | with_reducible exact Toy.gr_Queue_given_count | with_reducible exact Toy.gr_Queue_used_count | with_reducible exact Toy.gr_Queue_device_seen | with_reducible exact Toy.gr_Queue_out | with_reducible exact Toy.gr_Queue_driver_seen | with_reducible exact Toy.pf_Pipe_cells | with_reducible exact Toy.pf_Pipe_put_at | with_reducible exact Toy.pf_Pipe_get_at | with_reducible exact Toy.gr_Pipe_cells | with_reducible exact Toy.gr_Pipe_put_at | with_reducible exact Toy.gr_Pipe_get_at | rfl)
local macro_rules | `(tactic| walk_at "ln") => `(tactic| first  | with_reducible exact Toy.ln_Ring | with_reducible exact Toy.ln_Queue | with_reducible exact Toy.ln_Pipe | decide | (simp only [List.length_cons, List.length_nil] <;> omega))
local macro_rules | `(tactic| walk_at "hasm") => `(tactic| first | (refine' Toy.hasM_pipe ?q0 ?q1; (case q0 => walk_at "pk"); (case q1 => (intros; walk_at "lk"))) | (refine' Dh.hasM_ob ?q0 ?q1; (case q0 => walk_at "pk"); (case q1 => walk_at "lk")))
local macro_rules | `(tactic| walk_at "vcp0") => `(tactic| first | ((with_reducible refine' Dh.g_seq ?k)) | ((with_reducible refine' Dh.g_next ?k)) | ((with_reducible refine' Dh.g_nonA ?k)) | ((with_reducible refine' Dh.g_var ?q0 ?k); (case q0 => rfl)) | ((with_reducible refine' Dh.g_c ?k)) | ((with_reducible refine' Dh.g_op ?k)) | ((with_reducible refine' Dh.g_asg ?k)) | ((with_reducible refine' Dh.g_name ?k)) | ((with_reducible refine' Dh.g_ifS ?k)) | ((with_reducible refine' Dh.g_test ?k)) | ((with_reducible refine' Dh.g_isB ?k)) | ((with_reducible refine' Dh.g_B ?k)) | ((with_reducible refine' Dh.g_ret ?k)) | ((with_reducible refine' Dh.g_retN ?k)) | ((with_reducible refine' Dh.g_drop ?k)) | ((with_reducible refine' Dh.g_brk ?k)) | ((with_reducible refine' Dh.g_cont ?k)) | ((with_reducible refine' Dh.g_un ?k)) | ((with_reducible refine' Dh.g_I0 ?k)) | ((with_reducible refine' Dh.g_addI ?k)) | ((with_reducible refine' Dh.g_addB ?k)) | ((with_reducible refine' Dh.g_addS ?q0 ?k); (case q0 => walk_at "side")) | ((with_reducible refine' Dh.g_addM ?q0 ?q1 ?q2 ?k); (case q0 => walk_at "pk"); (case q1 => walk_at "pk"); (case q2 => walk_at "side"); intro _) | ((with_reducible refine' Dh.g_addL ?q0 ?q1 ?q2 ?k); (case q0 => walk_at "pk"); (case q1 => walk_at "pk"); (case q2 => walk_at "side"); intro _))
local macro_rules | `(tactic| walk_at "vcp1") => `(tactic| first | ((with_reducible refine' Dh.g_I ?q0 ?k); (case q0 => walk_at "side")) | ((with_reducible refine' Dh.g_mulI ?q0 ?k); (case q0 => walk_at "side")) | ((with_reducible refine' Dh.g_U ?k)) | ((with_reducible refine' Dh.g_eqS ?q0 ?k); (case q0 => rfl)) | ((with_reducible refine' Dh.g_neS ?q0 ?k); (case q0 => rfl)) | ((with_reducible refine' Dh.g_eqLL ?q0 ?q1 ?k); (case q0 => walk_at "pk"); (case q1 => walk_at "pk")) | ((with_reducible refine' Dh.g_neLL ?q0 ?q1 ?k); (case q0 => walk_at "pk"); (case q1 => walk_at "pk")) | ((with_reducible refine' Dh.g_eqL0 ?q0 ?q1 ?k); (case q0 => walk_at "pk"); (case q1 => walk_at "pk")) | ((with_reducible refine' Dh.g_neL0 ?q0 ?q1 ?k); (case q0 => walk_at "pk"); (case q1 => walk_at "pk")) | ((with_reducible refine' Dh.g_neT0 ?q0 ?q1 ?q2 ?k); (case q0 => walk_at "pk"); (case q1 => walk_at "pk"); (case q2 => walk_at "pk")) | ((with_reducible refine' Dh.g_neP ?q0 ?q1 ?k); (case q0 => walk_at "pk"); (case q1 => walk_at "pk")) | ((with_reducible refine' Dh.g_inI ?q0 ?k); (case q0 => walk_at "pk")) | ((with_reducible refine' Dh.g_isN ?k)) | ((with_reducible refine' Dh.g_notN ?k)) | ((with_reducible refine' Dh.g_ixL ?q0 ?q1 ?k); (case q0 => walk_at "pk"); (case q1 => walk_at "lk")) | ((with_reducible refine' Dh.g_ixT ?q0 ?q1 ?k); (case q0 => walk_at "pk"); (case q1 => walk_at "lk")) | ((with_reducible refine' Dh.g_sl ?k)) | ((with_reducible refine' Dh.g_noPart ?k)) | ((with_reducible refine' Dh.g_part ?k)) | ((with_reducible refine' Dh.g_isSomeInt ?k)) | ((with_reducible refine' Dh.g_slTk ?q0 ?k); (case q0 => walk_at "pk"); intro _) | ((with_reducible refine' Dh.g_slDr ?q0 ?k); (case q0 => walk_at "pk"); intro _) | ((with_reducible refine' Dh.g_slL ?q0 ?k); (case q0 => walk_at "pk"); intro _) | ((with_reducible refine' Dh.g_slQTk ?q0 ?k); (case q0 => walk_at "pk"); intro _))
local macro_rules | `(tactic| walk_at "vcp2") => `(tactic| first | ((with_reducible refine' Dh.g_slQ ?q0 ?k); (case q0 => walk_at "pk"); intro _) | ((with_reducible refine' Dh.g_fldE ?k)) | ((with_reducible refine' Dh.g_fld ?q0 ?q1 ?k); (case q0 => walk_at "pk"); (case q1 => walk_at "lk")) | ((with_reducible refine' Dh.g_tup ?k)) | ((with_reducible refine' Dh.g_lst ?k)) | ((with_reducible refine' Dh.g_newT ?q0 ?k); (case q0 => walk_at "side"); intro _) | ((with_reducible refine' Dh.g_newL ?q0 ?k); (case q0 => walk_at "side"); intro _) | ((with_reducible refine' Dh.g_nil ?k)) | ((with_reducible refine' Dh.g_cons ?k)) | ((with_reducible refine' Dh.g_call ?k)) | ((with_reducible refine' Dh.g_methE ?k)) | ((with_reducible refine' Dh.g_meth ?q0 ?k); (case q0 => walk_at "hasm")) | ((with_reducible refine' Dh.g_make ?k)) | ((with_reducible refine' Dh.g_made ?k); intro _) | ((with_reducible refine' Dh.g_cb ?k)) | ((with_reducible refine' Dh.g_int ?k)) | ((with_reducible refine' Dh.g_intB ?k)) | ((with_reducible refine' Dh.g_abs ?k)) | ((with_reducible refine' Dh.g_max2 ?k)) | ((with_reducible refine' Dh.g_min2 ?k)) | ((with_reducible refine' Dh.g_strI ?q0 ?k); (case q0 => walk_at "side")) | ((with_reducible refine' Dh.g_lenL ?q0 ?k); (case q0 => walk_at "pk")) | ((with_reducible refine' Dh.g_lenT ?q0 ?k); (case q0 => walk_at "pk")) | ((with_reducible refine' Dh.g_lenD ?q0 ?k); (case q0 => walk_at "pk")))
local macro_rules | `(tactic| walk_at "vcp3") => `(tactic| first | ((with_reducible refine' Dh.g_listL ?q0 ?k); (case q0 => walk_at "pk"); intro _) | ((with_reducible refine' Dh.g_listT ?q0 ?k); (case q0 => walk_at "pk"); intro _) | ((with_reducible refine' Dh.g_tupL ?q0 ?k); (case q0 => walk_at "pk"); intro _) | ((with_reducible refine' Dh.g_tupT ?q0 ?k); (case q0 => walk_at "pk")) | ((with_reducible refine' Dh.g_pop0 ?q0 ?k); (case q0 => walk_at "pk")) | ((with_reducible refine' Dh.g_bm ?k)) | ((with_reducible refine' Dh.g_bm0 ?k)) | ((with_reducible refine' Dh.g_tyL ?q0 ?k); (case q0 => walk_at "pk")) | ((with_reducible refine' Dh.g_append ?q0 ?q1 ?k); (case q0 => walk_at "pk"); (case q1 => walk_at "side")) | ((with_reducible refine' Dh.g_rep ?q0 ?q1 ?q2 ?q3 ?k); (case q0 => walk_at "pk"); (case q1 => walk_at "side"); (case q2 => walk_at "side"); (case q3 => walk_at "side"); intro _) | ((with_reducible refine' Dh.g_not ?k)) | ((with_reducible refine' Dh.g_tand ?k)) | ((with_reducible refine' Dh.g_tor ?k)) | ((with_reducible refine' Dh.g_andV ?k)) | ((with_reducible refine' Dh.g_orV ?k)) | ((with_reducible refine' Dh.g_notV ?k)) | ((with_reducible refine' Dh.g_ifE ?k)) | ((with_reducible refine' Dh.g_chain ?k)) | ((with_reducible refine' Dh.g_tru ?k)) | ((with_reducible refine' Dh.g_truB ?k)) | ((with_reducible refine' Dh.g_truI ?k)) | ((with_reducible refine' Dh.g_truN ?k)) | ((with_reducible refine' Dh.g_truL ?q0 ?k); (case q0 => walk_at "pk")) | ((with_reducible refine' Dh.g_gsub ?k)))
local macro_rules | `(tactic| walk_at "vcp4") => `(tactic| first | ((with_reducible refine' Dh.g_setL ?q0 ?q1 ?k); (case q0 => walk_at "pk"); (case q1 => walk_at "lk")) | ((with_reducible refine' Dh.g_gtup ?q0 ?q1 ?k); (case q0 => walk_at "pk"); (case q1 => rfl)) | ((with_reducible refine' Dh.g_gnil ?k)) | ((with_reducible refine' Dh.g_gcons ?k)) | ((with_reducible refine' Dh.g_par ?k)) | ((with_reducible refine' Dh.g_par2 ?k)) | ((with_reducible refine' Dh.g_par3 ?k)) | ((with_reducible refine' Dh.g_par3b ?k)) | ((with_reducible refine' Dh.g_listRg ?k)) | ((with_reducible refine' Dh.g_rg1E ?k)) | ((with_reducible refine' Dh.g_rg1 ?k)) | ((with_reducible refine' Dh.g_rgN ?q0 ?k); (case q0 => walk_at "side"); intro _) | ((with_reducible refine' Dh.g_rgL ?q0 ?k); (case q0 => walk_at "side"); intro _) | ((with_reducible refine' Dh.g_dinE ?k)) | ((with_reducible refine' Dh.g_dinI ?q0 ?k); (case q0 => walk_at "pk")) | ((with_reducible refine' Dh.g_dnotinE ?k)) | ((with_reducible refine' Dh.g_dnotinI ?q0 ?k); (case q0 => walk_at "pk")) | ((with_reducible refine' Dh.g_dgetE ?k)) | ((with_reducible refine' Dh.g_dgetI ?q0 ?q1 ?k); (case q0 => walk_at "pk"); (case q1 => walk_at "lk")) | ((with_reducible refine' Dh.g_dputE ?k)) | ((with_reducible refine' Dh.g_dputI ?q0 ?q1 ?k); (case q0 => walk_at "pk"); (case q1 => walk_at "side")) | ((with_reducible refine' Dh.g_dpopE ?k)) | ((with_reducible refine' Dh.g_dpopA ?q0 ?k); (case q0 => walk_at "pk")) | ((with_reducible refine' Dh.g_dpopB ?q0 ?q1 ?k); (case q0 => walk_at "pk"); (case q1 => walk_at "lk")))
local macro_rules | `(tactic| walk_at "vcp5") => `(tactic| first | ((with_reducible refine' Dh.g_dnew ?k); intro _) | ((with_reducible refine' Dh.g_ipMul ?q0 ?k); (case q0 => walk_at "side")) | ((with_reducible refine' Dh.g_sfldE ?k)) | ((with_reducible refine' Dh.g_sfld ?q0 ?q1 ?q2 ?k); (case q0 => walk_at "pk"); (case q1 => walk_at "pf"); (case q2 => walk_at "ln")) | ((with_reducible refine' Dh.g_augE ?k)) | ((with_reducible refine' Dh.g_augF ?q0 ?q1 ?k); (case q0 => walk_at "pk"); (case q1 => walk_at "lk")) | ((with_reducible refine' Dh.g_augV ?q0 ?k); (case q0 => rfl)) | ((with_reducible refine' Dh.g_ipI ?k)) | ((with_reducible refine' Dh.g_rAdd ?k)) | ((with_reducible refine' Dh.g_rSub ?k)) | ((with_reducible refine' Dh.g_for ?k)) | ((with_reducible refine' Dh.g_iRng1 ?k)) | ((with_reducible refine' Dh.g_iRng2 ?k)) | ((with_reducible refine' Dh.g_rng1 ?q0 ?q1 ?k); (case q0 => walk_at "side"); (case q1 => walk_at "side")) | ((with_reducible refine' Dh.g_rng2 ?q0 ?k); (case q0 => walk_at "side")) | ((with_reducible refine' Dh.g_iSeqE ?k)) | ((with_reducible refine' Dh.g_iSeqL ?q0 ?k); (case q0 => walk_at "pk")) | ((with_reducible refine' Dh.g_iSeqT ?q0 ?k); (case q0 => walk_at "pk")) | ((with_reducible refine' Dh.g_wbody ?k)) | ((with_reducible refine' Dh.g_lcE ?k)) | ((with_reducible refine' Dh.g_turn ?k)) | ((with_reducible refine' Dh.g_tYes ?k)) | ((with_reducible refine' Dh.g_rs ?k)) | ((with_reducible refine' Dh.g_rsW ?k)))
local macro_rules | `(tactic| walk_at "vcp6") => `(tactic| first | ((with_reducible refine' Dh.g_told ?k)) | ((with_reducible refine' Dh.g_ifT ?q0 ?k); (case q0 => rfl)) | ((with_reducible refine' Dh.g_ifF ?q0 ?k); (case q0 => rfl)))
local macro_rules | `(tactic| walk_at "vc1") => `(tactic| first | walk_at "vcp0" | walk_at "vcp1" | walk_at "vcp2" | walk_at "vcp3" | walk_at "vcp4" | walk_at "vcp5" | walk_at "vcp6")
local macro_rules | `(tactic| walk_at "vc") => `(tactic| repeat walk_at "vc1")
local macro_rules | `(tactic| walk_at "spl") => `(tactic| first | ((with_reducible refine Dh.g_ifD ?_ ?_) <;> intro _) | ((with_reducible refine Dh.g_ifN ?_ ?_) <;> intro _) | ((with_reducible refine Dh.g_if ?_ ?_) <;> intro _))
local macro_rules | `(tactic| walk_at "vcs") => `(tactic| repeat' (first | walk_at "vc1" | walk_at "spl"))
namespace Toy
open PySem L2
section
variable {P : Program} {w : World} {K : PySem.W.Frag} {mg : Str → Option Value} {base : Heap} {T : List (Addr × Str)} {C_Ring C_Queue C_Pipe C_BadWord C_BadPlace C_BadPlan C_NotDue C_Stuck C_BadBits C_BadText C_TooLarge g_told : Addr}
/-! the mathematics of a queue -/
/-- a row of values in a circle, from a on -/
def Buf (n : Nat) (c : List V) (a : Nat) (S : List V) : Prop := c.length = n ∧ ∀ j v, S[j]? = some v → c[(a + j) % n]? = some v
section
variable {n a b : Nat} {c S : List V} {x v : V}
theorem Buf.push (B : Buf n c a S) (h : S.length < n) : Buf n (c.set ((a + S.length) % n) v) a (S ++ [v]) := by
  have hk : (a + S.length) % n < n := Nat.mod_lt _ (by omega)
  refine ⟨by rw [List.length_set]; exact B.1, fun j y hy => ?_⟩
  by_cases hj : j = S.length
  · subst hj
    rw [List.getElem?_append_right (Nat.le_refl _)] at hy
    simp at hy
    rw [List.getElem?_set_self (by rw [B.1]; exact hk), hy]
  · have hj2 : j < S.length := by
      have := (List.getElem?_eq_some_iff.mp hy).1
      simp at this
      omega
    rw [List.getElem?_append_left hj2] at hy
    rw [List.getElem?_set_ne (fun e => hj (mod_inj (by omega) h e.symm))]
    exact B.2 j y hy
theorem Buf.pop (B : Buf n c a (x :: S)) (h : b % n = (a + 1) % n) : Buf n c b S :=
  ⟨B.1, fun j y hy => by
    have := B.2 (j + 1) y hy
    have e : (b + j) % n = (a + (j + 1)) % n := by
      rw [Nat.add_mod, h, ← Nat.add_mod]
      congr 1
      omega
    rw [e]
    exact this⟩
theorem Buf.at (B : Buf n c a (x :: S)) : c[a % n]? = some x := B.2 0 x rfl
theorem mod2 {m : Nat} : m % (2 * n) % n = m % n := Nat.mod_mod_of_dvd m ⟨2, by omega⟩
theorem ix2 {m : Nat} (hn : 0 < n) (hc : c.length = n) : ixN c.length (((m % (2 * n) : Nat) : Int) % (n : Int)) = some (m % n) := by
  rw [← Int.natCast_emod, mod2, hc]
  exact Dh.ixN_lt (Nat.mod_lt _ hn)
theorem at2 {m : Nat} (h : c[m % n]? = some v) : atI c ((m : Int) % (n : Int)) = some v := by
  rw [← Int.natCast_emod]
  exact Dh.atI_lt h
theorem one2 {m : Nat} : (((m % (2 * n) : Nat) : Int) + 1) % (2 * (n : Int)) = ((m + 1) % (2 * n) : Nat) := by
  have h := mod_one (n := 2 * n) (a := m)
  rwa [Int.natCast_mul] at h
theorem one2' {m : Nat} : ((m : Int) + 1) % (2 * (n : Int)) = ((m + 1) % (2 * n) : Nat) := by
  have h := mod_one' (n := 2 * n) (a := m)
  rwa [Int.natCast_mul] at h
theorem lie2 {m k : Nat} (hm : m < 2 * n) (hk : k < 2 * n) : (((m + k) % (2 * n) : Nat) - (m : Int)) % (2 * (n : Int)) = (k : Int) := by
  by_cases h : m + k < 2 * n
  · rw [Nat.mod_eq_of_lt h]
    have e : ((m + k : Nat) : Int) - (m : Int) = (k : Int) := by omega
    rw [e]
    exact Int.emod_eq_of_lt (by omega) (by omega)
  · have e : (m + k) % (2 * n) = m + k - 2 * n := by
      rw [Nat.mod_eq_sub_mod (by omega), Nat.mod_eq_of_lt (by omega)]
    rw [e]
    have e2 : ((m + k - 2 * n : Nat) : Int) - (m : Int) = (k : Int) - 2 * (n : Int) := by omega
    rw [e2, Int.sub_emod_right]
    exact Int.emod_eq_of_lt (by omega) (by omega)
theorem nz2 {m k : Nat} (hm : m < 2 * n) (hk : k < 2 * n) : ((((m + k) % (2 * n) : Nat) : Int) = (m : Int)) ↔ k = 0 := by
  constructor
  · intro e
    have h := lie2 hm hk
    rw [e, Int.sub_self, Int.zero_emod] at h
    omega
  · rintro rfl
    rw [Nat.add_zero, Nat.mod_eq_of_lt hm]
end
structure QueueOk (n : Nat) (G Tk : List (Int × Int)) (U : List (Int × Int × Int)) (F : List Int) (tb gv us uv : List V) (gc uc dsv drv : Int) (ds dr : Nat) : Prop where
  hn : 0 < n
  hb : n ≤ 1000
  l1 : tb.length = n
  bg : Buf n gv ds (G.map fun x => .int x.1)
  bu : Buf n us dr uv
  hds : ds < 2 * n
  hdr : dr < 2 * n
  lu : uv.length = U.length
  egc : gc = ((ds + G.length) % (2 * n) : Nat)
  euc : uc = ((dr + U.length) % (2 * n) : Nat)
  eds : dsv = (ds : Int)
  edr : drv = (dr : Int)
  pm : (F ++ (G.map (·.1) ++ (Tk.map (·.1) ++ U.map (·.1)))).Perm (Dh.natI n)
  tbl : ∀ p w, (p, w) ∈ G ∨ (p, w) ∈ Tk ∨ (∃ k, (p, w, k) ∈ U) → ∃ m : Nat, p = (m : Int) ∧ tb[m]? = some (.int w)
def outD (Tk : List (Int × Int)) : List (Key × V) := Tk.map fun x => (Sum.inl x.1, .bl true)
section
variable {n : Nat} {G Tk A B : List (Int × Int)} {U : List (Int × Int × Int)} {F : List Int} {tb gv us uv : List V} {gc uc dsv drv : Int} {ds dr : Nat} {x : Int × Int} {w p much : Int}
theorem natI_len {n : Nat} : (Dh.natI n).length = n := by simp [Dh.natI]
theorem natI_nodup {n : Nat} : (Dh.natI n).Nodup := List.Pairwise.map _ (fun a b h e => h (Int.ofNat.inj e)) List.nodup_range
theorem natI_mem {n : Nat} {p : Int} (h : p ∈ Dh.natI n) : ∃ m : Nat, p = (m : Int) ∧ m < n := by
  obtain ⟨m, h1, rfl⟩ := List.mem_map.mp h
  exact ⟨m, rfl, List.mem_range.mp h1⟩
theorem QueueOk.len (R : QueueOk n G Tk U F tb gv us uv gc uc dsv drv ds dr) : F.length + (G.length + (Tk.length + U.length)) = n := by
  have h := R.pm.length_eq
  rw [natI_len] at h
  simpa using h
theorem QueueOk.nd (R : QueueOk n G Tk U F tb gv us uv gc uc dsv drv ds dr) : (F ++ (G.map (·.1) ++ (Tk.map (·.1) ++ U.map (·.1)))).Nodup := R.pm.nodup_iff.mpr natI_nodup
theorem QueueOk.ran (R : QueueOk n G Tk U F tb gv us uv gc uc dsv drv ds dr) (h : p ∈ F ++ (G.map (·.1) ++ (Tk.map (·.1) ++ U.map (·.1)))) : ∃ m : Nat, p = (m : Int) ∧ m < n := natI_mem (R.pm.mem_iff.mp h)
theorem queue_new (hn : 0 < n) (hb : n ≤ 1000) : QueueOk n [] [] [] (Dh.natI n) (List.replicate n .non) (List.replicate n .non) (List.replicate n .non) [] 0 0 0 0 0 0 where
  hn := hn
  hb := hb
  l1 := List.length_replicate
  bg := ⟨List.length_replicate, fun j v h => by simp at h⟩
  bu := ⟨List.length_replicate, fun j v h => by simp at h⟩
  hds := by omega
  hdr := by omega
  lu := rfl
  egc := by simp
  euc := by simp
  eds := rfl
  edr := rfl
  pm := by simp
  tbl := fun p w h => by simp at h
theorem QueueOk.give {m : Nat} (R : QueueOk n G Tk U ((m : Int) :: F) tb gv us uv gc uc dsv drv ds dr) :
    QueueOk n (G ++ [((m : Int), w)]) Tk U F (tb.set m (.int w)) (gv.set ((ds + G.length) % n) (.int m)) us uv ((gc + 1) % (2 * (n : Int))) uc dsv drv ds dr := by
  have hl := R.len
  have hnd := R.nd
  obtain ⟨hn, hb, l1, bg, bu, hds, hdr, lu, rfl, rfl, rfl, rfl, pm, tbl⟩ := R
  rw [List.length_cons] at hl
  have lg : (G.map fun x => V.int x.1).length = G.length := List.length_map _
  refine ⟨hn, hb, by rw [List.length_set]; exact l1, ?_, bu, hds, hdr, lu, ?_, rfl, rfl, rfl, ?_, ?_⟩
  · have h := bg.push (v := V.int m) (by rw [lg]; omega)
    rw [lg] at h
    rw [List.map_append]
    exact h
  · rw [one2, List.length_append]
    rfl
  · refine List.Perm.trans ?_ pm
    rw [List.perm_iff_count]
    intro z
    simp only [List.count_append, List.count_cons, List.map_append, List.map_cons, List.map_nil, List.count_nil]
    omega
  · intro p v h
    have hm : ∀ p v, ((p, v) ∈ G ∨ (p, v) ∈ Tk ∨ ∃ k, (p, v, k) ∈ U) → p ≠ (m : Int) := fun p v h e => by
      subst e
      rw [List.cons_append] at hnd
      refine (List.nodup_cons.mp hnd).1 ?_
      simp only [List.mem_append, List.mem_map]
      rcases h with h | h | ⟨k, h⟩
      · exact .inr (.inl ⟨_, h, rfl⟩)
      · exact .inr (.inr (.inl ⟨_, h, rfl⟩))
      · exact .inr (.inr (.inr ⟨_, h, rfl⟩))
    have old : ((p, v) ∈ G ∨ (p, v) ∈ Tk ∨ ∃ k, (p, v, k) ∈ U) → ∃ k : Nat, p = (k : Int) ∧ (tb.set m (.int w))[k]? = some (.int v) := fun h => by
      obtain ⟨k, e, hk⟩ := tbl p v h
      refine ⟨k, e, ?_⟩
      rw [List.getElem?_set_ne (fun e2 => hm p v h (by rw [e, e2])), hk]
    rcases h with h | h | h
    · rcases List.mem_append.mp h with h | h
      · exact old (.inl h)
      · rw [List.mem_singleton] at h
        cases h
        have hr : ((m : Nat) : Int) ∈ Dh.natI n := pm.mem_iff.mp List.mem_cons_self
        obtain ⟨m', e, lt⟩ := natI_mem hr
        exact ⟨m, rfl, by rw [List.getElem?_set_self (by rw [l1]; omega)]⟩
    · exact old (.inr (.inl h))
    · exact old (.inr (.inr h))
theorem QueueOk.take (R : QueueOk n (x :: G) Tk U F tb gv us uv gc uc dsv drv ds dr) :
    QueueOk n G (Tk ++ [x]) U F tb gv us uv gc uc ((dsv + 1) % (2 * (n : Int))) drv ((ds + 1) % (2 * n)) dr := by
  obtain ⟨hn, hb, l1, bg, bu, hds, hdr, lu, rfl, rfl, rfl, rfl, pm, tbl⟩ := R
  refine ⟨hn, hb, l1, bg.pop mod2, bu, Nat.mod_lt _ (by omega), hdr, lu, ?_, rfl, one2', rfl, ?_, ?_⟩
  · rw [List.length_cons, Nat.mod_add_mod]
    congr 2
    omega
  · refine List.Perm.trans ?_ pm
    rw [List.perm_iff_count]
    intro z
    simp only [List.count_append, List.count_cons, List.map_append, List.map_cons, List.map_nil, List.count_nil]
    omega
  · intro p v h
    refine tbl p v ?_
    rcases h with h | h | h
    · exact .inl (List.mem_cons_of_mem _ h)
    · rcases List.mem_append.mp h with h | h
      · exact .inr (.inl h)
      · rw [List.mem_singleton] at h
        rw [h]
        exact .inl List.mem_cons_self
    · exact .inr (.inr h)
theorem QueueOk.use {v : V} (R : QueueOk n G (A ++ x :: B) U F tb gv us uv gc uc dsv drv ds dr) :
    QueueOk n G (A ++ B) (U ++ [(x.1, x.2, much)]) F tb gv (us.set ((dr + U.length) % n) v) (uv ++ [v]) gc ((uc + 1) % (2 * (n : Int))) dsv drv ds dr := by
  have hl := R.len
  obtain ⟨hn, hb, l1, bg, bu, hds, hdr, lu, rfl, rfl, rfl, rfl, pm, tbl⟩ := R
  simp only [List.length_append, List.length_cons] at hl
  refine ⟨hn, hb, l1, bg, ?_, hds, hdr, by rw [List.length_append, List.length_append, lu]; rfl, rfl, ?_, rfl, rfl, ?_, ?_⟩
  · have h := bu.push (v := v) (by rw [lu]; omega)
    rw [lu] at h
    exact h
  · rw [one2, List.length_append]
    rfl
  · refine List.Perm.trans ?_ pm
    rw [List.perm_iff_count]
    intro z
    simp only [List.count_append, List.count_cons, List.map_append, List.map_cons, List.map_nil, List.count_nil]
    omega
  · intro p v h
    refine tbl p v ?_
    rcases h with h | h | ⟨k, h⟩
    · exact .inl h
    · refine .inr (.inl ?_)
      rcases List.mem_append.mp h with h | h
      · exact List.mem_append_left _ h
      · exact List.mem_append_right _ (List.mem_cons_of_mem _ h)
    · rcases List.mem_append.mp h with h | h
      · exact .inr (.inr ⟨k, h⟩)
      · rw [List.mem_singleton] at h
        cases h
        exact .inr (.inl (List.mem_append_right _ List.mem_cons_self))
theorem QueueOk.reap {u : Int × Int × Int} {v : V} (R : QueueOk n G Tk (u :: U) F tb gv us (v :: uv) gc uc dsv drv ds dr) :
    QueueOk n G Tk U (F ++ [u.1]) tb gv us uv gc uc dsv ((drv + 1) % (2 * (n : Int))) ds ((dr + 1) % (2 * n)) := by
  obtain ⟨hn, hb, l1, bg, bu, hds, hdr, lu, rfl, rfl, rfl, rfl, pm, tbl⟩ := R
  refine ⟨hn, hb, l1, bg, bu.pop mod2, hds, Nat.mod_lt _ (by omega), by simpa using lu, rfl, ?_, rfl, one2', ?_, ?_⟩
  · rw [List.length_cons, Nat.mod_add_mod]
    congr 2
    omega
  · refine List.Perm.trans ?_ pm
    rw [List.perm_iff_count]
    intro z
    simp only [List.count_append, List.count_cons, List.map_append, List.map_cons, List.map_nil, List.count_nil]
    omega
  · intro p v h
    refine tbl p v ?_
    rcases h with h | h | ⟨k, h⟩
    · exact .inl h
    · exact .inr (.inl h)
    · exact .inr (.inr ⟨k, List.mem_cons_of_mem _ h⟩)
theorem out_in (p : Int) : ∀ Tk : List (Int × Int), (valV (outD Tk) (Sum.inl p)).isSome = decide (p ∈ Tk.map (·.1))
  | [] => rfl
  | x :: Tk => by
    by_cases h : x.1 = p
    · subst h
      rw [outD, List.map_cons, valV_pos rfl]
      simp
    · have ih := out_in p Tk
      rw [outD] at ih
      rw [outD, List.map_cons, valV_neg (by simpa using h), ih]
      have h' : ¬ p = x.1 := fun e => h e.symm
      simp [h']
theorem out_get (p : Int) : ∀ Tk : List (Int × Int), p ∈ Tk.map (·.1) → valV (outD Tk) (Sum.inl p) = some (.bl true)
  | [], h => by simp at h
  | x :: Tk, h => by
    by_cases e : x.1 = p
    · subst e
      rw [outD, List.map_cons, valV_pos rfl]
    · have ih := out_get p Tk
      rw [outD] at ih
      rw [outD, List.map_cons, valV_neg (by simpa using e)]
      refine ih ?_
      simp only [List.map_cons, List.mem_cons] at h
      exact h.resolve_left fun z => e z.symm
theorem out_put {p w : Int} (h : p ∉ Tk.map (·.1)) : putK (outD Tk) (Sum.inl p) (.bl true) = outD (Tk ++ [(p, w)]) := by
  unfold putK
  rw [valV_any, out_in, if_neg (by simpa using h)]
  simp [outD]
theorem out_drop_no {p : Int} : ∀ Tk : List (Int × Int), p ∉ Tk.map (·.1) → dropK (outD Tk) (Sum.inl p) = outD Tk
  | [], _ => rfl
  | x :: Tk, h => by
    simp only [List.map_cons, List.mem_cons, not_or] at h
    have ih := out_drop_no Tk h.2
    simp only [dropK, outD] at ih
    simp only [dropK, outD, List.map_cons]
    rw [List.filter_cons_of_pos (by simpa using fun e => h.1 e.symm), ih]
theorem out_drop (nd : ((A ++ x :: B).map (·.1)).Nodup) : dropK (outD (A ++ x :: B)) (Sum.inl x.1) = outD (A ++ B) := by
  induction A with
  | nil =>
    simp only [List.nil_append, List.map_cons, List.nodup_cons] at nd
    have h := out_drop_no B nd.1
    simp only [dropK, outD] at h
    simp only [dropK, outD, List.nil_append, List.map_cons]
    rw [List.filter_cons_of_neg (by simp), h]
  | cons a A ih =>
    rw [List.cons_append, List.map_cons, List.nodup_cons] at nd
    have h := ih nd.2
    have ne : ¬ a.1 = x.1 := fun e => nd.1 (by rw [e]; simp)
    simp only [dropK, outD] at h
    simp only [dropK, outD, List.cons_append, List.map_cons]
    rw [List.filter_cons_of_pos (by simpa using ne), h]
theorem out_len : (outD Tk).length = Tk.length := List.length_map _
end
end
end Toy
end

section
local macro_rules | `(tactic| walk_at "pk") => `(tactic| (with_reducible first | exact Dh.pick_here | (refine' Dh.pick_there ?p; (case p => walk_at "pk"))))
local macro_rules | `(tactic| walk_at "ent") => `(tactic| first | (with_reducible exact Dh.ent_refl) | (with_reducible exact Dh.ent_nil) | (refine' Dh.ent_cons ?q0 ?k; (case q0 => walk_at "pk"); (case k => walk_at "ent")) | (refine' Dh.ent_drop ?k; (case k => walk_at "ent")))
local macro_rules | `(tactic| walk_at "side") => `(tactic| first | omega | decide | (simp only [L2.CMul, L2.CDiv, L2.CDivN]; omega) | (unfold L2.CPow; decide) | (simp only [List.length_cons, List.length_nil, List.length_append, List.length_map, List.length_range, List.length_replicate, List.length_set, List.length_take, List.length_drop, PySem.sizeLine_eq] <;> omega))
local macro_rules | `(tactic| walk_at "ixs") => `(tactic| first | assumption | omega | (simp only [List.length_set, List.length_map, List.length_cons, List.length_nil, List.length_append, List.length_replicate] <;> first | assumption | omega))
local macro_rules | `(tactic| walk_at "lk") => `(tactic| first | rfl | assumption | (exact Dh.ixN_lt (by walk_at "ixs")) | (exact Dh.atI_lt (by assumption))  | with_reducible exact Toy.lk_Ring_rows | with_reducible exact Toy.lk_Ring_by_device | with_reducible exact Toy.lk_Ring_done | with_reducible exact Toy.lk_Ring_fill_at | with_reducible exact Toy.lk_Ring_work_at | with_reducible exact Toy.lk_Ring_reap_at | with_reducible exact Toy.lk_Ring_filled | with_reducible exact Toy.no_Ring_init | with_reducible exact Toy.no_Ring_fill | with_reducible exact Toy.no_Ring_work | with_reducible exact Toy.no_Ring_reap | with_reducible exact Toy.no_Ring_left_room | with_reducible exact Toy.lk_Queue_many | with_reducible exact Toy.lk_Queue_round_at | with_reducible exact Toy.lk_Queue_table | with_reducible exact Toy.lk_Queue_free | with_reducible exact Toy.lk_Queue_given | with_reducible exact Toy.lk_Queue_used | with_reducible exact Toy.lk_Queue_given_count | with_reducible exact Toy.lk_Queue_used_count | with_reducible exact Toy.lk_Queue_device_seen | with_reducible exact Toy.lk_Queue_out | with_reducible exact Toy.lk_Queue_driver_seen | with_reducible exact Toy.no_Queue_init | with_reducible exact Toy.no_Queue_give | with_reducible exact Toy.no_Queue_untaken | with_reducible exact Toy.no_Queue_take | with_reducible exact Toy.no_Queue_use | with_reducible exact Toy.no_Queue_reap | with_reducible exact Toy.no_Queue_needs_call | with_reducible exact Toy.lk_Pipe_cells | with_reducible exact Toy.lk_Pipe_put_at | with_reducible exact Toy.lk_Pipe_get_at | with_reducible exact Toy.no_Pipe_init | with_reducible exact Toy.no_Pipe_lying | with_reducible exact Toy.no_Pipe_put | with_reducible exact Toy.no_Pipe_get)
local macro_rules | `(tactic| walk_at "pf") => `(tactic| first  | with_reducible exact Toy.pf_Ring_rows | with_reducible exact Toy.pf_Ring_by_device | with_reducible exact Toy.pf_Ring_done | with_reducible exact Toy.pf_Ring_fill_at | with_reducible exact Toy.pf_Ring_work_at | with_reducible exact Toy.pf_Ring_reap_at | with_reducible exact Toy.pf_Ring_filled | with_reducible exact Toy.gr_Ring_rows | with_reducible exact Toy.gr_Ring_by_device | with_reducible exact Toy.gr_Ring_done | with_reducible exact Toy.gr_Ring_fill_at | with_reducible exact Toy.gr_Ring_work_at | with_reducible exact Toy.gr_Ring_reap_at | with_reducible exact Toy.gr_Ring_filled | with_reducible exact Toy.pf_Queue_many | with_reducible exact Toy.pf_Queue_round_at | with_reducible exact Toy.pf_Queue_table | with_reducible exact Toy.pf_Queue_free | with_reducible exact Toy.pf_Queue_given | with_reducible exact Toy.pf_Queue_used | with_reducible exact Toy.pf_Queue_given_count | with_reducible exact Toy.pf_Queue_used_count | with_reducible exact Toy.pf_Queue_device_seen | with_reducible exact Toy.pf_Queue_out | with_reducible exact Toy.pf_Queue_driver_seen | with_reducible exact Toy.gr_Queue_many | with_reducible exact Toy.gr_Queue_round_at | with_reducible exact Toy.gr_Queue_table | with_reducible exact Toy.gr_Queue_free | with_reducible exact Toy.gr_Queue_given | with_reducible exact Toy.gr_Queue_used | with_reducible exact Toy.gr_Queue_given_count | with_reducible exact Toy.gr_Queue_used_count | with_reducible exact Toy.gr_Queue_device_seen | with_reducible exact Toy.gr_Queue_out | with_reducible exact Toy.gr_Queue_driver_seen | with_reducible exact Toy.pf_Pipe_cells | with_reducible exact Toy.pf_Pipe_put_at | with_reducible exact Toy.pf_Pipe_get_at | with_reducible exact Toy.gr_Pipe_cells | with_reducible exact Toy.gr_Pipe_put_at | with_reducible exact Toy.gr_Pipe_get_at | rfl)
local macro_rules | `(tactic| walk_at "ln") => `(tactic| first  | with_reducible exact Toy.ln_Ring | with_reducible exact Toy.ln_Queue | with_reducible exact Toy.ln_Pipe | decide | (simp only [List.length_cons, List.length_nil] <;> omega))
local macro_rules | `(tactic| walk_at "hasm") => `(tactic| first | (refine' Toy.hasM_pipe ?q0 ?q1; (case q0 => walk_at "pk"); (case q1 => (intros; walk_at "lk"))) | (refine' Dh.hasM_ob ?q0 ?q1; (case q0 => walk_at "pk"); (case q1 => walk_at "lk")))
local macro_rules | `(tactic| walk_at "vcp0") => `(tactic| first | ((with_reducible refine' Dh.g_seq ?k)) | ((with_reducible refine' Dh.g_next ?k)) | ((with_reducible refine' Dh.g_nonA ?k)) | ((with_reducible refine' Dh.g_var ?q0 ?k); (case q0 => rfl)) | ((with_reducible refine' Dh.g_c ?k)) | ((with_reducible refine' Dh.g_op ?k)) | ((with_reducible refine' Dh.g_asg ?k)) | ((with_reducible refine' Dh.g_name ?k)) | ((with_reducible refine' Dh.g_ifS ?k)) | ((with_reducible refine' Dh.g_test ?k)) | ((with_reducible refine' Dh.g_isB ?k)) | ((with_reducible refine' Dh.g_B ?k)) | ((with_reducible refine' Dh.g_ret ?k)) | ((with_reducible refine' Dh.g_retN ?k)) | ((with_reducible refine' Dh.g_drop ?k)) | ((with_reducible refine' Dh.g_brk ?k)) | ((with_reducible refine' Dh.g_cont ?k)) | ((with_reducible refine' Dh.g_un ?k)) | ((with_reducible refine' Dh.g_I0 ?k)) | ((with_reducible refine' Dh.g_addI ?k)) | ((with_reducible refine' Dh.g_addB ?k)) | ((with_reducible refine' Dh.g_addS ?q0 ?k); (case q0 => walk_at "side")) | ((with_reducible refine' Dh.g_addM ?q0 ?q1 ?q2 ?k); (case q0 => walk_at "pk"); (case q1 => walk_at "pk"); (case q2 => walk_at "side"); intro _) | ((with_reducible refine' Dh.g_addL ?q0 ?q1 ?q2 ?k); (case q0 => walk_at "pk"); (case q1 => walk_at "pk"); (case q2 => walk_at "side"); intro _))
local macro_rules | `(tactic| walk_at "vcp1") => `(tactic| first | ((with_reducible refine' Dh.g_I ?q0 ?k); (case q0 => walk_at "side")) | ((with_reducible refine' Dh.g_mulI ?q0 ?k); (case q0 => walk_at "side")) | ((with_reducible refine' Dh.g_U ?k)) | ((with_reducible refine' Dh.g_eqS ?q0 ?k); (case q0 => rfl)) | ((with_reducible refine' Dh.g_neS ?q0 ?k); (case q0 => rfl)) | ((with_reducible refine' Dh.g_eqLL ?q0 ?q1 ?k); (case q0 => walk_at "pk"); (case q1 => walk_at "pk")) | ((with_reducible refine' Dh.g_neLL ?q0 ?q1 ?k); (case q0 => walk_at "pk"); (case q1 => walk_at "pk")) | ((with_reducible refine' Dh.g_eqL0 ?q0 ?q1 ?k); (case q0 => walk_at "pk"); (case q1 => walk_at "pk")) | ((with_reducible refine' Dh.g_neL0 ?q0 ?q1 ?k); (case q0 => walk_at "pk"); (case q1 => walk_at "pk")) | ((with_reducible refine' Dh.g_neT0 ?q0 ?q1 ?q2 ?k); (case q0 => walk_at "pk"); (case q1 => walk_at "pk"); (case q2 => walk_at "pk")) | ((with_reducible refine' Dh.g_neP ?q0 ?q1 ?k); (case q0 => walk_at "pk"); (case q1 => walk_at "pk")) | ((with_reducible refine' Dh.g_inI ?q0 ?k); (case q0 => walk_at "pk")) | ((with_reducible refine' Dh.g_isN ?k)) | ((with_reducible refine' Dh.g_notN ?k)) | ((with_reducible refine' Dh.g_ixL ?q0 ?q1 ?k); (case q0 => walk_at "pk"); (case q1 => walk_at "lk")) | ((with_reducible refine' Dh.g_ixT ?q0 ?q1 ?k); (case q0 => walk_at "pk"); (case q1 => walk_at "lk")) | ((with_reducible refine' Dh.g_sl ?k)) | ((with_reducible refine' Dh.g_noPart ?k)) | ((with_reducible refine' Dh.g_part ?k)) | ((with_reducible refine' Dh.g_isSomeInt ?k)) | ((with_reducible refine' Dh.g_slTk ?q0 ?k); (case q0 => walk_at "pk"); intro _) | ((with_reducible refine' Dh.g_slDr ?q0 ?k); (case q0 => walk_at "pk"); intro _) | ((with_reducible refine' Dh.g_slL ?q0 ?k); (case q0 => walk_at "pk"); intro _) | ((with_reducible refine' Dh.g_slQTk ?q0 ?k); (case q0 => walk_at "pk"); intro _))
local macro_rules | `(tactic| walk_at "vcp2") => `(tactic| first | ((with_reducible refine' Dh.g_slQ ?q0 ?k); (case q0 => walk_at "pk"); intro _) | ((with_reducible refine' Dh.g_fldE ?k)) | ((with_reducible refine' Dh.g_fld ?q0 ?q1 ?k); (case q0 => walk_at "pk"); (case q1 => walk_at "lk")) | ((with_reducible refine' Dh.g_tup ?k)) | ((with_reducible refine' Dh.g_lst ?k)) | ((with_reducible refine' Dh.g_newT ?q0 ?k); (case q0 => walk_at "side"); intro _) | ((with_reducible refine' Dh.g_newL ?q0 ?k); (case q0 => walk_at "side"); intro _) | ((with_reducible refine' Dh.g_nil ?k)) | ((with_reducible refine' Dh.g_cons ?k)) | ((with_reducible refine' Dh.g_call ?k)) | ((with_reducible refine' Dh.g_methE ?k)) | ((with_reducible refine' Dh.g_meth ?q0 ?k); (case q0 => walk_at "hasm")) | ((with_reducible refine' Dh.g_make ?k)) | ((with_reducible refine' Dh.g_made ?k); intro _) | ((with_reducible refine' Dh.g_cb ?k)) | ((with_reducible refine' Dh.g_int ?k)) | ((with_reducible refine' Dh.g_intB ?k)) | ((with_reducible refine' Dh.g_abs ?k)) | ((with_reducible refine' Dh.g_max2 ?k)) | ((with_reducible refine' Dh.g_min2 ?k)) | ((with_reducible refine' Dh.g_strI ?q0 ?k); (case q0 => walk_at "side")) | ((with_reducible refine' Dh.g_lenL ?q0 ?k); (case q0 => walk_at "pk")) | ((with_reducible refine' Dh.g_lenT ?q0 ?k); (case q0 => walk_at "pk")) | ((with_reducible refine' Dh.g_lenD ?q0 ?k); (case q0 => walk_at "pk")))
local macro_rules | `(tactic| walk_at "vcp3") => `(tactic| first | ((with_reducible refine' Dh.g_listL ?q0 ?k); (case q0 => walk_at "pk"); intro _) | ((with_reducible refine' Dh.g_listT ?q0 ?k); (case q0 => walk_at "pk"); intro _) | ((with_reducible refine' Dh.g_tupL ?q0 ?k); (case q0 => walk_at "pk"); intro _) | ((with_reducible refine' Dh.g_tupT ?q0 ?k); (case q0 => walk_at "pk")) | ((with_reducible refine' Dh.g_pop0 ?q0 ?k); (case q0 => walk_at "pk")) | ((with_reducible refine' Dh.g_bm ?k)) | ((with_reducible refine' Dh.g_bm0 ?k)) | ((with_reducible refine' Dh.g_tyL ?q0 ?k); (case q0 => walk_at "pk")) | ((with_reducible refine' Dh.g_append ?q0 ?q1 ?k); (case q0 => walk_at "pk"); (case q1 => walk_at "side")) | ((with_reducible refine' Dh.g_rep ?q0 ?q1 ?q2 ?q3 ?k); (case q0 => walk_at "pk"); (case q1 => walk_at "side"); (case q2 => walk_at "side"); (case q3 => walk_at "side"); intro _) | ((with_reducible refine' Dh.g_not ?k)) | ((with_reducible refine' Dh.g_tand ?k)) | ((with_reducible refine' Dh.g_tor ?k)) | ((with_reducible refine' Dh.g_andV ?k)) | ((with_reducible refine' Dh.g_orV ?k)) | ((with_reducible refine' Dh.g_notV ?k)) | ((with_reducible refine' Dh.g_ifE ?k)) | ((with_reducible refine' Dh.g_chain ?k)) | ((with_reducible refine' Dh.g_tru ?k)) | ((with_reducible refine' Dh.g_truB ?k)) | ((with_reducible refine' Dh.g_truI ?k)) | ((with_reducible refine' Dh.g_truN ?k)) | ((with_reducible refine' Dh.g_truL ?q0 ?k); (case q0 => walk_at "pk")) | ((with_reducible refine' Dh.g_gsub ?k)))
local macro_rules | `(tactic| walk_at "vcp4") => `(tactic| first | ((with_reducible refine' Dh.g_setL ?q0 ?q1 ?k); (case q0 => walk_at "pk"); (case q1 => walk_at "lk")) | ((with_reducible refine' Dh.g_gtup ?q0 ?q1 ?k); (case q0 => walk_at "pk"); (case q1 => rfl)) | ((with_reducible refine' Dh.g_gnil ?k)) | ((with_reducible refine' Dh.g_gcons ?k)) | ((with_reducible refine' Dh.g_par ?k)) | ((with_reducible refine' Dh.g_par2 ?k)) | ((with_reducible refine' Dh.g_par3 ?k)) | ((with_reducible refine' Dh.g_par3b ?k)) | ((with_reducible refine' Dh.g_listRg ?k)) | ((with_reducible refine' Dh.g_rg1E ?k)) | ((with_reducible refine' Dh.g_rg1 ?k)) | ((with_reducible refine' Dh.g_rgN ?q0 ?k); (case q0 => walk_at "side"); intro _) | ((with_reducible refine' Dh.g_rgL ?q0 ?k); (case q0 => walk_at "side"); intro _) | ((with_reducible refine' Dh.g_dinE ?k)) | ((with_reducible refine' Dh.g_dinI ?q0 ?k); (case q0 => walk_at "pk")) | ((with_reducible refine' Dh.g_dnotinE ?k)) | ((with_reducible refine' Dh.g_dnotinI ?q0 ?k); (case q0 => walk_at "pk")) | ((with_reducible refine' Dh.g_dgetE ?k)) | ((with_reducible refine' Dh.g_dgetI ?q0 ?q1 ?k); (case q0 => walk_at "pk"); (case q1 => walk_at "lk")) | ((with_reducible refine' Dh.g_dputE ?k)) | ((with_reducible refine' Dh.g_dputI ?q0 ?q1 ?k); (case q0 => walk_at "pk"); (case q1 => walk_at "side")) | ((with_reducible refine' Dh.g_dpopE ?k)) | ((with_reducible refine' Dh.g_dpopA ?q0 ?k); (case q0 => walk_at "pk")) | ((with_reducible refine' Dh.g_dpopB ?q0 ?q1 ?k); (case q0 => walk_at "pk"); (case q1 => walk_at "lk")))
local macro_rules | `(tactic| walk_at "vcp5") => `(tactic| first | ((with_reducible refine' Dh.g_dnew ?k); intro _) | ((with_reducible refine' Dh.g_ipMul ?q0 ?k); (case q0 => walk_at "side")) | ((with_reducible refine' Dh.g_sfldE ?k)) | ((with_reducible refine' Dh.g_sfld ?q0 ?q1 ?q2 ?k); (case q0 => walk_at "pk"); (case q1 => walk_at "pf"); (case q2 => walk_at "ln")) | ((with_reducible refine' Dh.g_augE ?k)) | ((with_reducible refine' Dh.g_augF ?q0 ?q1 ?k); (case q0 => walk_at "pk"); (case q1 => walk_at "lk")) | ((with_reducible refine' Dh.g_augV ?q0 ?k); (case q0 => rfl)) | ((with_reducible refine' Dh.g_ipI ?k)) | ((with_reducible refine' Dh.g_rAdd ?k)) | ((with_reducible refine' Dh.g_rSub ?k)) | ((with_reducible refine' Dh.g_for ?k)) | ((with_reducible refine' Dh.g_iRng1 ?k)) | ((with_reducible refine' Dh.g_iRng2 ?k)) | ((with_reducible refine' Dh.g_rng1 ?q0 ?q1 ?k); (case q0 => walk_at "side"); (case q1 => walk_at "side")) | ((with_reducible refine' Dh.g_rng2 ?q0 ?k); (case q0 => walk_at "side")) | ((with_reducible refine' Dh.g_iSeqE ?k)) | ((with_reducible refine' Dh.g_iSeqL ?q0 ?k); (case q0 => walk_at "pk")) | ((with_reducible refine' Dh.g_iSeqT ?q0 ?k); (case q0 => walk_at "pk")) | ((with_reducible refine' Dh.g_wbody ?k)) | ((with_reducible refine' Dh.g_lcE ?k)) | ((with_reducible refine' Dh.g_turn ?k)) | ((with_reducible refine' Dh.g_tYes ?k)) | ((with_reducible refine' Dh.g_rs ?k)) | ((with_reducible refine' Dh.g_rsW ?k)))
local macro_rules | `(tactic| walk_at "vcp6") => `(tactic| first | ((with_reducible refine' Dh.g_told ?k)) | ((with_reducible refine' Dh.g_ifT ?q0 ?k); (case q0 => rfl)) | ((with_reducible refine' Dh.g_ifF ?q0 ?k); (case q0 => rfl)))
local macro_rules | `(tactic| walk_at "vc1") => `(tactic| first | walk_at "vcp0" | walk_at "vcp1" | walk_at "vcp2" | walk_at "vcp3" | walk_at "vcp4" | walk_at "vcp5" | walk_at "vcp6")
local macro_rules | `(tactic| walk_at "vc") => `(tactic| repeat walk_at "vc1")
local macro_rules | `(tactic| walk_at "spl") => `(tactic| first | ((with_reducible refine Dh.g_ifD ?_ ?_) <;> intro _) | ((with_reducible refine Dh.g_ifN ?_ ?_) <;> intro _) | ((with_reducible refine Dh.g_if ?_ ?_) <;> intro _))
local macro_rules | `(tactic| walk_at "vcs") => `(tactic| repeat' (first | walk_at "vc1" | walk_at "spl"))
namespace Toy
open PySem L2
section
variable {P : Program} {w : World} {K : PySem.W.Frag} {mg : Str → Option Value} {base : Heap} {T : List (Addr × Str)} {C_Ring C_Queue C_Pipe C_BadWord C_BadPlace C_BadPlan C_NotDue C_Stuck C_BadBits C_BadText C_TooLarge g_told : Addr}
def QueueAt (C p : Addr) (n : Nat) (G Tk : List (Int × Int)) (U : List (Int × Int × Int)) : Dh.HP := fun H => ∃ (r1 r2 r3 r4 r5 : Addr) (F : List Int) (tb gv us uv : List V) (gc uc dsv drv : Int) (ds dr : Nat), QueueOk n G Tk U F tb gv us uv gc uc dsv drv ds dr ∧
  Dh.Seps [Dh.ob p C (fs_Queue (.int n) (.int (2 * (n : Int))) (.ref r1) (.ref r2) (.ref r3) (.ref r4) (.int gc) (.int uc) (.int dsv) (.ref r5) (.int drv)), Dh.pt r1 (.lst tb), Dh.pt r2 (.lst (F.map .int)), Dh.pt r3 (.lst gv), Dh.pt r4 (.lst us), Dh.pt r5 (.dK (outD Tk)), Dh.tps uv (U.map fun u => [u.1, u.2.2])] H
theorem go_queue {C p : Addr} {n : Nat} {G Tk : List (Int × Int)} {U : List (Int × Int × Int)} {L : List Dh.HP} {P : Hp → Prop} (g : ∀ r1 r2 r3 r4 r5 F tb gv us uv gc uc dsv drv ds dr, QueueOk n G Tk U F tb gv us uv gc uc dsv drv ds dr →
    Dh.Go T (Dh.ob p C (fs_Queue (.int n) (.int (2 * (n : Int))) (.ref r1) (.ref r2) (.ref r3) (.ref r4) (.int gc) (.int uc) (.int dsv) (.ref r5) (.int drv)) :: Dh.pt r1 (.lst tb) :: Dh.pt r2 (.lst (F.map .int)) :: Dh.pt r3 (.lst gv) :: Dh.pt r4 (.lst us) :: Dh.pt r5 (.dK (outD Tk)) :: Dh.tps uv (U.map fun u => [u.1, u.2.2]) :: L) P) : Dh.Go T (QueueAt C p n G Tk U :: L) P := fun H t s => by
  obtain ⟨h1, h2, d, n1, n2, s1, s2, ⟨r1, r2, r3, r4, r5, F, tb, gv, us, uv, gc, uc, dsv, drv, ds, dr, ok, ss⟩, q⟩ := s
  exact g r1 r2 r3 r4 r5 F tb gv us uv gc uc dsv drv ds dr ok H t (Dh.Seps.paste (L1 := [_, _, _, _, _, _, _]) ⟨h1, h2, d, n1, n2, s1, s2, ss, q⟩)
theorem ent_queue {C p r1 r2 r3 r4 r5 : Addr} {n : Nat} {G Tk : List (Int × Int)} {U : List (Int × Int × Int)} {F : List Int} {tb gv us uv : List V} {gc uc dsv drv : Int} {ds dr : Nat} {L R : List Dh.HP} (ok : QueueOk n G Tk U F tb gv us uv gc uc dsv drv ds dr)
    (pe : Dh.Ent L (Dh.ob p C (fs_Queue (.int n) (.int (2 * (n : Int))) (.ref r1) (.ref r2) (.ref r3) (.ref r4) (.int gc) (.int uc) (.int dsv) (.ref r5) (.int drv)) :: Dh.pt r1 (.lst tb) :: Dh.pt r2 (.lst (F.map .int)) :: Dh.pt r3 (.lst gv) :: Dh.pt r4 (.lst us) :: Dh.pt r5 (.dK (outD Tk)) :: Dh.tps uv (U.map fun u => [u.1, u.2.2]) :: R)) : Dh.Ent L (QueueAt C p n G Tk U :: R) :=
  Dh.ent_fold (A := [_, _, _, _, _, _, _]) pe fun H h => ⟨r1, r2, r3, r4, r5, F, tb, gv, us, uv, gc, uc, dsv, drv, ds, dr, ok, h⟩
theorem fold_queue {C p r1 r2 r3 r4 r5 : Addr} {n : Nat} {G Tk : List (Int × Int)} {U : List (Int × Int × Int)} {F : List Int} {tb gv us uv : List V} {gc uc dsv drv : Int} {ds dr : Nat} {L R : List Dh.HP} {P : Hp → Prop} (ok : QueueOk n G Tk U F tb gv us uv gc uc dsv drv ds dr)
    (pe : Dh.Ent L (Dh.ob p C (fs_Queue (.int n) (.int (2 * (n : Int))) (.ref r1) (.ref r2) (.ref r3) (.ref r4) (.int gc) (.int uc) (.int dsv) (.ref r5) (.int drv)) :: Dh.pt r1 (.lst tb) :: Dh.pt r2 (.lst (F.map .int)) :: Dh.pt r3 (.lst gv) :: Dh.pt r4 (.lst us) :: Dh.pt r5 (.dK (outD Tk)) :: Dh.tps uv (U.map fun u => [u.1, u.2.2]) :: R)) (g : Dh.Go T (QueueAt C p n G Tk U :: R) P) : Dh.Go T L P := g.ent (ent_queue ok pe)
theorem hasM_queue {C p : Addr} {n : Nat} {G Tk : List (Int × Int)} {U : List (Int × Int × Int)} {L A : List Dh.HP} {m : Str} (pk : Dh.Pick L (QueueAt C p n G Tk U) A) (h : ∀ v0 v1 v2 v3 v4 v5 v6 v7 v8 v9 v10, (fs_Queue v0 v1 v2 v3 v4 v5 v6 v7 v8 v9 v10).lookup m = none) : Dh.HasM L p C m :=
  Dh.hasM_of pk fun H ⟨r1, r2, r3, r4, r5, F, tb, gv, us, uv, gc, uc, dsv, drv, ds, dr, ok, ss⟩ => by
    obtain ⟨dx, e⟩ := Dh.Pick.obj Dh.pick_here ss
    exact ⟨dx, _, e, h _ _ _ _ _ _ _ _ _ _ _⟩
def sg_Queue___init__ (T : List (Addr × Str)) (K : PySem.W.Frag) (C_Ring C_Queue C_Pipe C_BadWord C_BadPlace C_BadPlan C_NotDue C_Stuck C_BadBits C_BadText C_TooLarge g_told : Addr) : Dh.SG :=
  fun vs L Q E => ∃ (p : Addr) (n r : Int) (R : List Dh.HP), vs = [.ref p, .int n, .int r] ∧ Dh.Ent L (Dh.ob p C_Queue [] :: R) ∧ n ≤ 1000 ∧ (n < 1 ∨ r % n ≠ 0 ∨ r = 2 * n) ∧ (n < 1 ∨ r % n ≠ 0 → Dh.Go T R fun H => E (.ref C_BadPlan) none H) ∧
    (∀ m : Nat, n = (m : Int) → 0 < m → r = 2 * (m : Int) → Dh.Go T (QueueAt C_Queue p m [] [] [] :: R) fun H => Q .non H)
set_option maxHeartbeats 8000000 in
theorem ok_Queue___init__ (Z : Txt K mg C_Ring C_Queue C_Pipe C_BadWord C_BadPlace C_BadPlan C_NotDue C_Stuck C_BadBits C_BadText C_TooLarge g_told)  {f : Addr} {fd : FuncData} {cdv : Value} (F : Dh.FunC K "__init__" "Queue.__init__" s_Queue___init__ f fd cdv) :
    FnOk P w K mg base (L2.CX P w) 1 f fd ["self", "many", "round_at"] (Dh.sOfN T 3 (sg_Queue___init__ T K C_Ring C_Queue C_Pipe C_BadWord C_BadPlace C_BadPlan C_NotDue C_Stuck C_BadBits C_BadText C_TooLarge g_told)) := by
  refine Dh.fnX (k := 0) F sc_Queue___init__ rfl (fun A outer s H0 L vs Q E hr hl h => ?_)
  refine ⟨_, (pss_cons (ps_if (PW.pt (pw_or (pt_cmpR op_lt (pv 1) pe_int (nomark _)) (pw_or (pt_cmpR (Dh.oNe (K := K) rfl hr.units) (pe_op op_mod (pv 2) (pv 1)) pe_int (nomark _)) (pw_or1 (pt_cmpR op_lt (pv 2) (pe_op (Dh.oMul (K := K) rfl) pe_int (pv 1)) (nomark _))))))
    (pss_one (Dh.ps_rs rfl (takes_of rfl rfl rfl rfl) Z.e_BadPlan rfl))
    pss_nil)
    (pss_cons (Dh.ps_fldC Z.c_Queue Z.n_Queue_many (pv 0) (pv 1))
    (pss_cons (Dh.ps_fldC Z.c_Queue Z.n_Queue_round_at (pv 0) (pv 2))
    (pss_cons (Dh.ps_fldC Z.c_Queue Z.n_Queue_table (pv 0) (pe_op (Dh.oMul (K := K) rfl) (pe_lst (pa_cons pe_non pa_nil)) (pv 1)))
    (pss_cons (Dh.ps_fldC Z.c_Queue Z.n_Queue_free (pv 0) (pe_listRg rfl (by rfl) Z.b_list (prg_1 (by rfl) Z.b_range (pv 1))))
    (pss_cons (Dh.ps_fldC Z.c_Queue Z.n_Queue_given (pv 0) (pe_op (Dh.oMul (K := K) rfl) (pe_lst (pa_cons pe_non pa_nil)) (pv 1)))
    (pss_cons (Dh.ps_fldC Z.c_Queue Z.n_Queue_used (pv 0) (pe_op (Dh.oMul (K := K) rfl) (pe_lst (pa_cons pe_non pa_nil)) (pv 1)))
    (pss_cons (Dh.ps_fldC Z.c_Queue Z.n_Queue_given_count (pv 0) pe_int)
    (pss_cons (Dh.ps_fldC Z.c_Queue Z.n_Queue_used_count (pv 0) pe_int)
    (pss_cons (Dh.ps_fldC Z.c_Queue Z.n_Queue_device_seen (pv 0) pe_int)
    (pss_cons (Dh.ps_fldC Z.c_Queue Z.n_Queue_out (pv 0) pe_dnewK)
    (pss_one (Dh.ps_fldC Z.c_Queue Z.n_Queue_driver_seen (pv 0) pe_int))))))))))))), ?_⟩
  try dsimp only [L2.cxOf, L2.Cx.blk, LamX.lamCx, L2.Cx.tr]
  obtain ⟨p, n, r, R, rfl, hE, h1, h2, k1, k2⟩ := h
  refine Dh.Go.ent hE ?_
  by_cases hn : n < 1
  · walk_at "vcs"
    · exact Dh.Go.ent (Dh.ent_drop Dh.ent_refl) (k1 (.inl hn))
    all_goals exact absurd hn (by assumption)
  · obtain ⟨m, rfl⟩ : ∃ m : Nat, n = (m : Int) := ⟨n.toNat, by omega⟩
    have e0 : r % (m : Int) ≠ 0 ∨ r = 2 * (m : Int) := h2.resolve_left hn
    walk_at "vcs"
    · exact absurd (by assumption) hn
    · rename_i hc hd
      rw [V.int.injEq] at hc
      exfalso
      omega
    · rename_i hc hd _ _ _ _ _ _ _ _
      rw [V.int.injEq] at hc
      have e : r = 2 * (m : Int) := e0.resolve_left fun h => h hc
      subst e
      simp only [List.flatten_replicate_singleton, Int.toNat_natCast]
      rw [show ([] : List (Key × V)) = outD [] from rfl]
      refine Dh.Go.ent (Dh.ent_tps (vs := []) (ts := ([] : List (Int × Int × Int)).map fun u => [u.1, u.2.2]) (fun _ _ => .nil) Dh.ent_refl) ?_
      refine' fold_queue (queue_new (by omega) (by omega)) ?e (k2 m rfl (by omega) rfl)
      (case e => walk_at "ent")
    · rename_i hc
      exact Dh.Go.ent (Dh.ent_drop Dh.ent_refl) (k1 (.inr fun e => hc (by rw [e])))
def sg_Queue_give (T : List (Addr × Str)) (K : PySem.W.Frag) (C_Ring C_Queue C_Pipe C_BadWord C_BadPlace C_BadPlan C_NotDue C_Stuck C_BadBits C_BadText C_TooLarge g_told : Addr) : Dh.SG :=
  fun vs L Q E => ∃ (p : Addr) (w : Int) (n : Nat) (G Tk : List (Int × Int)) (U : List (Int × Int × Int)) (R : List Dh.HP), vs = [.ref p, .int w] ∧ Dh.Ent L (QueueAt C_Queue p n G Tk U :: R) ∧
    (G.length + (Tk.length + U.length) = n → Dh.Go T (QueueAt C_Queue p n G Tk U :: R) fun H => E (.ref C_NotDue) none H) ∧
    (∀ q : Int, G.length + (Tk.length + U.length) < n → q ∉ G.map (·.1) ++ (Tk.map (·.1) ++ U.map (·.1)) → Dh.Go T (QueueAt C_Queue p n (G ++ [(q, w)]) Tk U :: R) fun H => Q (.int q) H)
set_option maxHeartbeats 8000000 in
theorem ok_Queue_give (Z : Txt K mg C_Ring C_Queue C_Pipe C_BadWord C_BadPlace C_BadPlan C_NotDue C_Stuck C_BadBits C_BadText C_TooLarge g_told)  {f : Addr} {fd : FuncData} {cdv : Value} (F : Dh.FunC K "give" "Queue.give" s_Queue_give f fd cdv) :
    FnOk P w K mg base (L2.CX P w) 1 f fd ["self", "what"] (Dh.sOfN T 2 (sg_Queue_give T K C_Ring C_Queue C_Pipe C_BadWord C_BadPlace C_BadPlan C_NotDue C_Stuck C_BadBits C_BadText C_TooLarge g_told)) := by
  refine Dh.fnX (k := 0) F sc_Queue_give rfl (fun A outer s H0 L vs Q E hr hl h => ?_)
  refine ⟨_, (pss_cons (ps_if (pt_cmpR (Dh.oEq (K := K) rfl hr.units) (Dh.pe_fldC Z.c_Queue Z.n_Queue_free (pv 0)) (pe_lst pa_nil) (nomark _))
    (pss_one (Dh.ps_rs rfl (takes_of rfl rfl rfl rfl) Z.e_NotDue rfl))
    pss_nil)
    (pss_cons (ps_set (i := 2) sc_Queue_give.nd rfl (by first | exact Or.inl rfl | exact Or.inr rfl) (pe_bm PySem.F.plainAttrs_list PySem.F.slot_list_pop PySem.F.type_list_pop mt_popAt (Dh.pe_fldC Z.c_Queue Z.n_Queue_free (pv 0)) (pa_cons pe_int pa_nil)))
    (pss_cons (ps_asg (pv 1) (pg_sub (Dh.pe_fldC Z.c_Queue Z.n_Queue_table (pv 0)) (pv 2) set_list))
    (pss_cons (ps_asg (pv 2) (pg_sub (Dh.pe_fldC Z.c_Queue Z.n_Queue_given (pv 0)) (pe_op op_mod (Dh.pe_fldC Z.c_Queue Z.n_Queue_given_count (pv 0)) (Dh.pe_fldC Z.c_Queue Z.n_Queue_many (pv 0))) set_list))
    (pss_cons (Dh.ps_fldC Z.c_Queue Z.n_Queue_given_count (pv 0) (pe_op op_mod (pe_op (Dh.oAdd (K := K) rfl) (Dh.pe_fldC Z.c_Queue Z.n_Queue_given_count (pv 0)) pe_int) (Dh.pe_fldC Z.c_Queue Z.n_Queue_round_at (pv 0))))
    (pss_one (ps_ret (pv 2)))))))), ?_⟩
  try dsimp only [L2.cxOf, L2.Cx.blk, LamX.lamCx, L2.Cx.tr]
  obtain ⟨p, w, n, G, Tk, U, R, rfl, hE, k1, k2⟩ := h
  refine Dh.Go.ent hE (go_queue fun r1 r2 r3 r4 r5 F tb gv us uv gc uc dsv drv ds dr ok => ?_)
  obtain ⟨hn, hb, l1, bg, bu, hds, hdr, lu, rfl, rfl, rfl, rfl, pm, tbl⟩ := id ok
  have hl := ok.len
  have hg := ix2 (m := ds + G.length) hn bg.1
  cases F with
  | nil =>
    walk_at "vcs"
    refine' fold_queue ok ?e (k1 (by simpa using hl))
    (case e => walk_at "ent")
  | cons q F =>
    obtain ⟨m, rfl, hm⟩ := ok.ran (p := q) (List.mem_append_left _ List.mem_cons_self)
    have hm' : m < tb.length := by rw [l1]; exact hm
    walk_at "vcs"
    refine' fold_queue (ok.give (w := w)) ?e (k2 m (by rw [List.length_cons] at hl; omega) ?hnm)
    (case e => walk_at "ent")
    case hnm =>
      have hnd := ok.nd
      rw [List.cons_append] at hnd
      exact fun hm => (List.nodup_cons.mp hnd).1 (List.mem_append_right _ hm)
def sg_Queue_untaken (T : List (Addr × Str)) (K : PySem.W.Frag) (C_Ring C_Queue C_Pipe C_BadWord C_BadPlace C_BadPlan C_NotDue C_Stuck C_BadBits C_BadText C_TooLarge g_told : Addr) : Dh.SG :=
  fun vs L Q E => ∃ (p : Addr) (n : Nat) (G Tk : List (Int × Int)) (U : List (Int × Int × Int)) (R : List Dh.HP), vs = [.ref p] ∧ Dh.Ent L (QueueAt C_Queue p n G Tk U :: R) ∧
    Dh.Go T (QueueAt C_Queue p n G Tk U :: R) fun H => Q (.int (G.length : Int)) H
set_option maxHeartbeats 8000000 in
theorem ok_Queue_untaken (Z : Txt K mg C_Ring C_Queue C_Pipe C_BadWord C_BadPlace C_BadPlan C_NotDue C_Stuck C_BadBits C_BadText C_TooLarge g_told)  {f : Addr} {fd : FuncData} {cdv : Value} (F : Dh.FunC K "untaken" "Queue.untaken" s_Queue_untaken f fd cdv) :
    FnOk P w K mg base (L2.CX P w) 1 f fd ["self"] (Dh.sOfN T 1 (sg_Queue_untaken T K C_Ring C_Queue C_Pipe C_BadWord C_BadPlace C_BadPlan C_NotDue C_Stuck C_BadBits C_BadText C_TooLarge g_told)) := by
  refine Dh.fnX (k := 0) F sc_Queue_untaken rfl (fun A outer s H0 L vs Q E hr hl h => ?_)
  refine ⟨_, (pss_one (ps_ret (pe_op op_mod (pe_op op_sub (Dh.pe_fldC Z.c_Queue Z.n_Queue_given_count (pv 0)) (Dh.pe_fldC Z.c_Queue Z.n_Queue_device_seen (pv 0))) (Dh.pe_fldC Z.c_Queue Z.n_Queue_round_at (pv 0))))), ?_⟩
  try dsimp only [L2.cxOf, L2.Cx.blk, LamX.lamCx, L2.Cx.tr]
  obtain ⟨p, n, G, Tk, U, R, rfl, hE, k⟩ := h
  refine Dh.Go.ent hE (go_queue fun r1 r2 r3 r4 r5 F tb gv us uv gc uc dsv drv ds dr ok => ?_)
  obtain ⟨hn, hb, l1, bg, bu, hds, hdr, lu, rfl, rfl, rfl, rfl, pm, tbl⟩ := id ok
  have hl := ok.len
  walk_at "vcs"
  rw [lie2 hds (by omega)]
  refine' fold_queue ok ?e k
  (case e => walk_at "ent")
end
end Toy
end

section
local macro_rules | `(tactic| walk_at "pk") => `(tactic| (with_reducible first | exact Dh.pick_here | (refine' Dh.pick_there ?p; (case p => walk_at "pk"))))
local macro_rules | `(tactic| walk_at "ent") => `(tactic| first | (with_reducible exact Dh.ent_refl) | (with_reducible exact Dh.ent_nil) | (refine' Dh.ent_cons ?q0 ?k; (case q0 => walk_at "pk"); (case k => walk_at "ent")) | (refine' Dh.ent_drop ?k; (case k => walk_at "ent")))
local macro_rules | `(tactic| walk_at "side") => `(tactic| first | omega | decide | (simp only [L2.CMul, L2.CDiv, L2.CDivN]; omega) | (unfold L2.CPow; decide) | (simp only [List.length_cons, List.length_nil, List.length_append, List.length_map, List.length_range, List.length_replicate, List.length_set, List.length_take, List.length_drop, PySem.sizeLine_eq] <;> omega))
local macro_rules | `(tactic| walk_at "ixs") => `(tactic| first | assumption | omega | (simp only [List.length_set, List.length_map, List.length_cons, List.length_nil, List.length_append, List.length_replicate] <;> first | assumption | omega))
local macro_rules | `(tactic| walk_at "lk") => `(tactic| first | rfl | assumption | (exact Dh.ixN_lt (by walk_at "ixs")) | (exact Dh.atI_lt (by assumption))  | with_reducible exact Toy.lk_Ring_rows | with_reducible exact Toy.lk_Ring_by_device | with_reducible exact Toy.lk_Ring_done | with_reducible exact Toy.lk_Ring_fill_at | with_reducible exact Toy.lk_Ring_work_at | with_reducible exact Toy.lk_Ring_reap_at | with_reducible exact Toy.lk_Ring_filled | with_reducible exact Toy.no_Ring_init | with_reducible exact Toy.no_Ring_fill | with_reducible exact Toy.no_Ring_work | with_reducible exact Toy.no_Ring_reap | with_reducible exact Toy.no_Ring_left_room | with_reducible exact Toy.lk_Queue_many | with_reducible exact Toy.lk_Queue_round_at | with_reducible exact Toy.lk_Queue_table | with_reducible exact Toy.lk_Queue_free | with_reducible exact Toy.lk_Queue_given | with_reducible exact Toy.lk_Queue_used | with_reducible exact Toy.lk_Queue_given_count | with_reducible exact Toy.lk_Queue_used_count | with_reducible exact Toy.lk_Queue_device_seen | with_reducible exact Toy.lk_Queue_out | with_reducible exact Toy.lk_Queue_driver_seen | with_reducible exact Toy.no_Queue_init | with_reducible exact Toy.no_Queue_give | with_reducible exact Toy.no_Queue_untaken | with_reducible exact Toy.no_Queue_take | with_reducible exact Toy.no_Queue_use | with_reducible exact Toy.no_Queue_reap | with_reducible exact Toy.no_Queue_needs_call | with_reducible exact Toy.lk_Pipe_cells | with_reducible exact Toy.lk_Pipe_put_at | with_reducible exact Toy.lk_Pipe_get_at | with_reducible exact Toy.no_Pipe_init | with_reducible exact Toy.no_Pipe_lying | with_reducible exact Toy.no_Pipe_put | with_reducible exact Toy.no_Pipe_get)
local macro_rules | `(tactic| walk_at "pf") => `(tactic| first  | with_reducible exact Toy.pf_Ring_rows | with_reducible exact Toy.pf_Ring_by_device | with_reducible exact Toy.pf_Ring_done | with_reducible exact Toy.pf_Ring_fill_at | with_reducible exact Toy.pf_Ring_work_at | with_reducible exact Toy.pf_Ring_reap_at | with_reducible exact Toy.pf_Ring_filled | with_reducible exact Toy.gr_Ring_rows | with_reducible exact Toy.gr_Ring_by_device | with_reducible exact Toy.gr_Ring_done | with_reducible exact Toy.gr_Ring_fill_at | with_reducible exact Toy.gr_Ring_work_at | with_reducible exact Toy.gr_Ring_reap_at | with_reducible exact Toy.gr_Ring_filled | with_reducible exact Toy.pf_Queue_many | with_reducible exact Toy.pf_Queue_round_at | with_reducible exact Toy.pf_Queue_table | with_reducible exact Toy.pf_Queue_free | with_reducible exact Toy.pf_Queue_given | with_reducible exact Toy.pf_Queue_used | with_reducible exact Toy.pf_Queue_given_count | with_reducible exact Toy.pf_Queue_used_count | with_reducible exact Toy.pf_Queue_device_seen | with_reducible exact Toy.pf_Queue_out | with_reducible exact Toy.pf_Queue_driver_seen | with_reducible exact Toy.gr_Queue_many | with_reducible exact Toy.gr_Queue_round_at | with_reducible exact Toy.gr_Queue_table | with_reducible exact Toy.gr_Queue_free | with_reducible exact Toy.gr_Queue_given | with_reducible exact Toy.gr_Queue_used | with_reducible exact Toy.gr_Queue_given_count | with_reducible exact Toy.gr_Queue_used_count | with_reducible exact Toy.gr_Queue_device_seen | with_reducible exact Toy.gr_Queue_out | with_reducible exact Toy.gr_Queue_driver_seen | with_reducible exact Toy.pf_Pipe_cells | with_reducible exact Toy.pf_Pipe_put_at | with_reducible exact Toy.pf_Pipe_get_at | with_reducible exact Toy.gr_Pipe_cells | with_reducible exact Toy.gr_Pipe_put_at | with_reducible exact Toy.gr_Pipe_get_at | rfl)
local macro_rules | `(tactic| walk_at "ln") => `(tactic| first  | with_reducible exact Toy.ln_Ring | with_reducible exact Toy.ln_Queue | with_reducible exact Toy.ln_Pipe | decide | (simp only [List.length_cons, List.length_nil] <;> omega))
local macro_rules | `(tactic| walk_at "hasm") => `(tactic| first | (refine' Toy.hasM_pipe ?q0 ?q1; (case q0 => walk_at "pk"); (case q1 => (intros; walk_at "lk"))) | (refine' Toy.hasM_queue ?q0 ?q1; (case q0 => walk_at "pk"); (case q1 => (intros; walk_at "lk"))) | (refine' Dh.hasM_ob ?q0 ?q1; (case q0 => walk_at "pk"); (case q1 => walk_at "lk")))
local macro_rules | `(tactic| walk_at "vcp0") => `(tactic| first | ((with_reducible refine' Dh.g_seq ?k)) | ((with_reducible refine' Dh.g_next ?k)) | ((with_reducible refine' Dh.g_nonA ?k)) | ((with_reducible refine' Dh.g_var ?q0 ?k); (case q0 => rfl)) | ((with_reducible refine' Dh.g_c ?k)) | ((with_reducible refine' Dh.g_op ?k)) | ((with_reducible refine' Dh.g_asg ?k)) | ((with_reducible refine' Dh.g_name ?k)) | ((with_reducible refine' Dh.g_ifS ?k)) | ((with_reducible refine' Dh.g_test ?k)) | ((with_reducible refine' Dh.g_isB ?k)) | ((with_reducible refine' Dh.g_B ?k)) | ((with_reducible refine' Dh.g_ret ?k)) | ((with_reducible refine' Dh.g_retN ?k)) | ((with_reducible refine' Dh.g_drop ?k)) | ((with_reducible refine' Dh.g_brk ?k)) | ((with_reducible refine' Dh.g_cont ?k)) | ((with_reducible refine' Dh.g_un ?k)) | ((with_reducible refine' Dh.g_I0 ?k)) | ((with_reducible refine' Dh.g_addI ?k)) | ((with_reducible refine' Dh.g_addB ?k)) | ((with_reducible refine' Dh.g_addS ?q0 ?k); (case q0 => walk_at "side")) | ((with_reducible refine' Dh.g_addM ?q0 ?q1 ?q2 ?k); (case q0 => walk_at "pk"); (case q1 => walk_at "pk"); (case q2 => walk_at "side"); intro _) | ((with_reducible refine' Dh.g_addL ?q0 ?q1 ?q2 ?k); (case q0 => walk_at "pk"); (case q1 => walk_at "pk"); (case q2 => walk_at "side"); intro _))
local macro_rules | `(tactic| walk_at "vcp1") => `(tactic| first | ((with_reducible refine' Dh.g_I ?q0 ?k); (case q0 => walk_at "side")) | ((with_reducible refine' Dh.g_mulI ?q0 ?k); (case q0 => walk_at "side")) | ((with_reducible refine' Dh.g_U ?k)) | ((with_reducible refine' Dh.g_eqS ?q0 ?k); (case q0 => rfl)) | ((with_reducible refine' Dh.g_neS ?q0 ?k); (case q0 => rfl)) | ((with_reducible refine' Dh.g_eqLL ?q0 ?q1 ?k); (case q0 => walk_at "pk"); (case q1 => walk_at "pk")) | ((with_reducible refine' Dh.g_neLL ?q0 ?q1 ?k); (case q0 => walk_at "pk"); (case q1 => walk_at "pk")) | ((with_reducible refine' Dh.g_eqL0 ?q0 ?q1 ?k); (case q0 => walk_at "pk"); (case q1 => walk_at "pk")) | ((with_reducible refine' Dh.g_neL0 ?q0 ?q1 ?k); (case q0 => walk_at "pk"); (case q1 => walk_at "pk")) | ((with_reducible refine' Dh.g_neT0 ?q0 ?q1 ?q2 ?k); (case q0 => walk_at "pk"); (case q1 => walk_at "pk"); (case q2 => walk_at "pk")) | ((with_reducible refine' Dh.g_neP ?q0 ?q1 ?k); (case q0 => walk_at "pk"); (case q1 => walk_at "pk")) | ((with_reducible refine' Dh.g_inI ?q0 ?k); (case q0 => walk_at "pk")) | ((with_reducible refine' Dh.g_isN ?k)) | ((with_reducible refine' Dh.g_notN ?k)) | ((with_reducible refine' Dh.g_ixL ?q0 ?q1 ?k); (case q0 => walk_at "pk"); (case q1 => walk_at "lk")) | ((with_reducible refine' Dh.g_ixT ?q0 ?q1 ?k); (case q0 => walk_at "pk"); (case q1 => walk_at "lk")) | ((with_reducible refine' Dh.g_sl ?k)) | ((with_reducible refine' Dh.g_noPart ?k)) | ((with_reducible refine' Dh.g_part ?k)) | ((with_reducible refine' Dh.g_isSomeInt ?k)) | ((with_reducible refine' Dh.g_slTk ?q0 ?k); (case q0 => walk_at "pk"); intro _) | ((with_reducible refine' Dh.g_slDr ?q0 ?k); (case q0 => walk_at "pk"); intro _) | ((with_reducible refine' Dh.g_slL ?q0 ?k); (case q0 => walk_at "pk"); intro _) | ((with_reducible refine' Dh.g_slQTk ?q0 ?k); (case q0 => walk_at "pk"); intro _))
local macro_rules | `(tactic| walk_at "vcp2") => `(tactic| first | ((with_reducible refine' Dh.g_slQ ?q0 ?k); (case q0 => walk_at "pk"); intro _) | ((with_reducible refine' Dh.g_fldE ?k)) | ((with_reducible refine' Dh.g_fld ?q0 ?q1 ?k); (case q0 => walk_at "pk"); (case q1 => walk_at "lk")) | ((with_reducible refine' Dh.g_tup ?k)) | ((with_reducible refine' Dh.g_lst ?k)) | ((with_reducible refine' Dh.g_newT ?q0 ?k); (case q0 => walk_at "side"); intro _) | ((with_reducible refine' Dh.g_newL ?q0 ?k); (case q0 => walk_at "side"); intro _) | ((with_reducible refine' Dh.g_nil ?k)) | ((with_reducible refine' Dh.g_cons ?k)) | ((with_reducible refine' Dh.g_call ?k)) | ((with_reducible refine' Dh.g_methE ?k)) | ((with_reducible refine' Dh.g_meth ?q0 ?k); (case q0 => walk_at "hasm")) | ((with_reducible refine' Dh.g_make ?k)) | ((with_reducible refine' Dh.g_made ?k); intro _) | ((with_reducible refine' Dh.g_cb ?k)) | ((with_reducible refine' Dh.g_int ?k)) | ((with_reducible refine' Dh.g_intB ?k)) | ((with_reducible refine' Dh.g_abs ?k)) | ((with_reducible refine' Dh.g_max2 ?k)) | ((with_reducible refine' Dh.g_min2 ?k)) | ((with_reducible refine' Dh.g_strI ?q0 ?k); (case q0 => walk_at "side")) | ((with_reducible refine' Dh.g_lenL ?q0 ?k); (case q0 => walk_at "pk")) | ((with_reducible refine' Dh.g_lenT ?q0 ?k); (case q0 => walk_at "pk")) | ((with_reducible refine' Dh.g_lenD ?q0 ?k); (case q0 => walk_at "pk")))
local macro_rules | `(tactic| walk_at "vcp3") => `(tactic| first | ((with_reducible refine' Dh.g_listL ?q0 ?k); (case q0 => walk_at "pk"); intro _) | ((with_reducible refine' Dh.g_listT ?q0 ?k); (case q0 => walk_at "pk"); intro _) | ((with_reducible refine' Dh.g_tupL ?q0 ?k); (case q0 => walk_at "pk"); intro _) | ((with_reducible refine' Dh.g_tupT ?q0 ?k); (case q0 => walk_at "pk")) | ((with_reducible refine' Dh.g_pop0 ?q0 ?k); (case q0 => walk_at "pk")) | ((with_reducible refine' Dh.g_bm ?k)) | ((with_reducible refine' Dh.g_bm0 ?k)) | ((with_reducible refine' Dh.g_tyL ?q0 ?k); (case q0 => walk_at "pk")) | ((with_reducible refine' Dh.g_append ?q0 ?q1 ?k); (case q0 => walk_at "pk"); (case q1 => walk_at "side")) | ((with_reducible refine' Dh.g_rep ?q0 ?q1 ?q2 ?q3 ?k); (case q0 => walk_at "pk"); (case q1 => walk_at "side"); (case q2 => walk_at "side"); (case q3 => walk_at "side"); intro _) | ((with_reducible refine' Dh.g_not ?k)) | ((with_reducible refine' Dh.g_tand ?k)) | ((with_reducible refine' Dh.g_tor ?k)) | ((with_reducible refine' Dh.g_andV ?k)) | ((with_reducible refine' Dh.g_orV ?k)) | ((with_reducible refine' Dh.g_notV ?k)) | ((with_reducible refine' Dh.g_ifE ?k)) | ((with_reducible refine' Dh.g_chain ?k)) | ((with_reducible refine' Dh.g_tru ?k)) | ((with_reducible refine' Dh.g_truB ?k)) | ((with_reducible refine' Dh.g_truI ?k)) | ((with_reducible refine' Dh.g_truN ?k)) | ((with_reducible refine' Dh.g_truL ?q0 ?k); (case q0 => walk_at "pk")) | ((with_reducible refine' Dh.g_gsub ?k)))
local macro_rules | `(tactic| walk_at "vcp4") => `(tactic| first | ((with_reducible refine' Dh.g_setL ?q0 ?q1 ?k); (case q0 => walk_at "pk"); (case q1 => walk_at "lk")) | ((with_reducible refine' Dh.g_gtup ?q0 ?q1 ?k); (case q0 => walk_at "pk"); (case q1 => rfl)) | ((with_reducible refine' Dh.g_gnil ?k)) | ((with_reducible refine' Dh.g_gcons ?k)) | ((with_reducible refine' Dh.g_par ?k)) | ((with_reducible refine' Dh.g_par2 ?k)) | ((with_reducible refine' Dh.g_par3 ?k)) | ((with_reducible refine' Dh.g_par3b ?k)) | ((with_reducible refine' Dh.g_listRg ?k)) | ((with_reducible refine' Dh.g_rg1E ?k)) | ((with_reducible refine' Dh.g_rg1 ?k)) | ((with_reducible refine' Dh.g_rgN ?q0 ?k); (case q0 => walk_at "side"); intro _) | ((with_reducible refine' Dh.g_rgL ?q0 ?k); (case q0 => walk_at "side"); intro _) | ((with_reducible refine' Dh.g_dinE ?k)) | ((with_reducible refine' Dh.g_dinI ?q0 ?k); (case q0 => walk_at "pk")) | ((with_reducible refine' Dh.g_dnotinE ?k)) | ((with_reducible refine' Dh.g_dnotinI ?q0 ?k); (case q0 => walk_at "pk")) | ((with_reducible refine' Dh.g_dgetE ?k)) | ((with_reducible refine' Dh.g_dgetI ?q0 ?q1 ?k); (case q0 => walk_at "pk"); (case q1 => walk_at "lk")) | ((with_reducible refine' Dh.g_dputE ?k)) | ((with_reducible refine' Dh.g_dputI ?q0 ?q1 ?k); (case q0 => walk_at "pk"); (case q1 => walk_at "side")) | ((with_reducible refine' Dh.g_dpopE ?k)) | ((with_reducible refine' Dh.g_dpopA ?q0 ?k); (case q0 => walk_at "pk")) | ((with_reducible refine' Dh.g_dpopB ?q0 ?q1 ?k); (case q0 => walk_at "pk"); (case q1 => walk_at "lk")))
local macro_rules | `(tactic| walk_at "vcp5") => `(tactic| first | ((with_reducible refine' Dh.g_dnew ?k); intro _) | ((with_reducible refine' Dh.g_ipMul ?q0 ?k); (case q0 => walk_at "side")) | ((with_reducible refine' Dh.g_sfldE ?k)) | ((with_reducible refine' Dh.g_sfld ?q0 ?q1 ?q2 ?k); (case q0 => walk_at "pk"); (case q1 => walk_at "pf"); (case q2 => walk_at "ln")) | ((with_reducible refine' Dh.g_augE ?k)) | ((with_reducible refine' Dh.g_augF ?q0 ?q1 ?k); (case q0 => walk_at "pk"); (case q1 => walk_at "lk")) | ((with_reducible refine' Dh.g_augV ?q0 ?k); (case q0 => rfl)) | ((with_reducible refine' Dh.g_ipI ?k)) | ((with_reducible refine' Dh.g_rAdd ?k)) | ((with_reducible refine' Dh.g_rSub ?k)) | ((with_reducible refine' Dh.g_for ?k)) | ((with_reducible refine' Dh.g_iRng1 ?k)) | ((with_reducible refine' Dh.g_iRng2 ?k)) | ((with_reducible refine' Dh.g_rng1 ?q0 ?q1 ?k); (case q0 => walk_at "side"); (case q1 => walk_at "side")) | ((with_reducible refine' Dh.g_rng2 ?q0 ?k); (case q0 => walk_at "side")) | ((with_reducible refine' Dh.g_iSeqE ?k)) | ((with_reducible refine' Dh.g_iSeqL ?q0 ?k); (case q0 => walk_at "pk")) | ((with_reducible refine' Dh.g_iSeqT ?q0 ?k); (case q0 => walk_at "pk")) | ((with_reducible refine' Dh.g_wbody ?k)) | ((with_reducible refine' Dh.g_lcE ?k)) | ((with_reducible refine' Dh.g_turn ?k)) | ((with_reducible refine' Dh.g_tYes ?k)) | ((with_reducible refine' Dh.g_rs ?k)) | ((with_reducible refine' Dh.g_rsW ?k)))
local macro_rules | `(tactic| walk_at "vcp6") => `(tactic| first | ((with_reducible refine' Dh.g_told ?k)) | ((with_reducible refine' Dh.g_ifT ?q0 ?k); (case q0 => rfl)) | ((with_reducible refine' Dh.g_ifF ?q0 ?k); (case q0 => rfl)))
local macro_rules | `(tactic| walk_at "vc1") => `(tactic| first | walk_at "vcp0" | walk_at "vcp1" | walk_at "vcp2" | walk_at "vcp3" | walk_at "vcp4" | walk_at "vcp5" | walk_at "vcp6")
local macro_rules | `(tactic| walk_at "vc") => `(tactic| repeat walk_at "vc1")
local macro_rules | `(tactic| walk_at "spl") => `(tactic| first | ((with_reducible refine Dh.g_ifD ?_ ?_) <;> intro _) | ((with_reducible refine Dh.g_ifN ?_ ?_) <;> intro _) | ((with_reducible refine Dh.g_if ?_ ?_) <;> intro _))
local macro_rules | `(tactic| walk_at "vcs") => `(tactic| repeat' (first | walk_at "vc1" | walk_at "spl"))
namespace Toy
open PySem L2
section
variable {P : Program} {w : World} {K : PySem.W.Frag} {mg : Str → Option Value} {base : Heap} {T : List (Addr × Str)} {C_Ring C_Queue C_Pipe C_BadWord C_BadPlace C_BadPlan C_NotDue C_Stuck C_BadBits C_BadText C_TooLarge g_told : Addr}
def sg_Queue_take (T : List (Addr × Str)) (K : PySem.W.Frag) (C_Ring C_Queue C_Pipe C_BadWord C_BadPlace C_BadPlan C_NotDue C_Stuck C_BadBits C_BadText C_TooLarge g_told : Addr) : Dh.SG :=
  fun vs L Q E => ∃ (p : Addr) (n : Nat) (G Tk : List (Int × Int)) (U : List (Int × Int × Int)) (R : List Dh.HP), vs = [.ref p] ∧ Dh.Ent L (QueueAt C_Queue p n G Tk U :: R) ∧
    (G = [] → Dh.Go T (QueueAt C_Queue p n G Tk U :: R) fun H => E (.ref C_NotDue) none H) ∧
    (∀ x G', G = x :: G' → Dh.Go T (QueueAt C_Queue p n G' (Tk ++ [x]) U :: R) fun H => Q (.int x.1) H)
set_option maxHeartbeats 8000000 in
theorem ok_Queue_take (Z : Txt K mg C_Ring C_Queue C_Pipe C_BadWord C_BadPlace C_BadPlan C_NotDue C_Stuck C_BadBits C_BadText C_TooLarge g_told) (c_Queue_untaken : Dh.MetX P w K mg base 1 C_Queue "untaken" (Dh.sOfN T 1 (sg_Queue_untaken T K C_Ring C_Queue C_Pipe C_BadWord C_BadPlace C_BadPlan C_NotDue C_Stuck C_BadBits C_BadText C_TooLarge g_told))) {f : Addr} {fd : FuncData} {cdv : Value} (F : Dh.FunC K "take" "Queue.take" s_Queue_take f fd cdv) :
    FnOk P w K mg base (L2.CX P w) 2 f fd ["self"] (Dh.sOfN T 1 (sg_Queue_take T K C_Ring C_Queue C_Pipe C_BadWord C_BadPlace C_BadPlan C_NotDue C_Stuck C_BadBits C_BadText C_TooLarge g_told)) := by
  refine Dh.fnX (k := 1) F sc_Queue_take rfl (fun A outer s H0 L vs Q E hr hl h => ?_)
  refine ⟨_, (pss_cons (ps_if (pt_cmpR (Dh.oEq (K := K) rfl hr.units) (Dh.pe_met0 c_Queue_untaken hr (by decide) (passes_call (takes_of rfl rfl rfl rfl) (fun _ _ _ _ h => h)) (pv 0)) pe_int (nomark _))
    (pss_one (Dh.ps_rs rfl (takes_of rfl rfl rfl rfl) Z.e_NotDue rfl))
    pss_nil)
    (pss_cons (ps_set (i := 1) sc_Queue_take.nd rfl (by first | exact Or.inl rfl | exact Or.inr rfl) (pe_ix (Dh.xSeq (K := K) rfl) (Dh.pe_fldC Z.c_Queue Z.n_Queue_given (pv 0)) (pe_op op_mod (Dh.pe_fldC Z.c_Queue Z.n_Queue_device_seen (pv 0)) (Dh.pe_fldC Z.c_Queue Z.n_Queue_many (pv 0))) (fun _ _ => rfl)))
    (pss_cons (Dh.ps_fldC Z.c_Queue Z.n_Queue_device_seen (pv 0) (pe_op op_mod (pe_op (Dh.oAdd (K := K) rfl) (Dh.pe_fldC Z.c_Queue Z.n_Queue_device_seen (pv 0)) pe_int) (Dh.pe_fldC Z.c_Queue Z.n_Queue_round_at (pv 0))))
    (pss_cons (ps_dput (hu_of hr) (Dh.pe_fldC Z.c_Queue Z.n_Queue_out (pv 0)) (pv 1) pe_bl rfl)
    (pss_one (ps_ret (pv 1))))))), ?_⟩
  try dsimp only [L2.cxOf, L2.Cx.blk, LamX.lamCx, L2.Cx.tr]
  obtain ⟨p, n, G, Tk, U, R, rfl, hE, k1, k2⟩ := h
  refine Dh.Go.ent hE ?_
  walk_at "vc"
  refine' Dh.g_sp rfl ⟨p, n, G, Tk, U, _, rfl, ?e1, ?kb⟩
  (case e1 => walk_at "ent")
  refine (go_queue fun r1 r2 r3 r4 r5 F tb gv us uv gc uc dsv drv ds dr ok => ?_)
  obtain ⟨hn, hb, l1, bg, bu, hds, hdr, lu, rfl, rfl, rfl, rfl, pm, tbl⟩ := id ok
  have hl := ok.len
  cases G with
  | nil =>
    walk_at "vcs"
    · refine' fold_queue ok ?e (k1 rfl)
      (case e => walk_at "ent")
    all_goals exact absurd rfl (by assumption)
  | cons x G =>
    obtain ⟨q, w⟩ := x
    have hat : atI gv ((ds : Int) % (n : Int)) = some (.int q) := at2 bg.at
    have hnp : q ∉ Tk.map (·.1) := fun h => by
      have h1 := (List.nodup_append.mp ok.nd).2.1
      rw [List.map_cons, List.cons_append] at h1
      exact (List.nodup_cons.mp h1).1 (List.mem_append_right _ (List.mem_append_left _ h))
    have hk : (outD Tk).length < sizeLine := by rw [out_len, PySem.sizeLine_eq]; omega
    walk_at "vcs"
    rw [out_put (w := w) hnp]
    refine' fold_queue ok.take ?e (k2 (q, w) G rfl)
    (case e => walk_at "ent")
def sg_Queue_use (T : List (Addr × Str)) (K : PySem.W.Frag) (C_Ring C_Queue C_Pipe C_BadWord C_BadPlace C_BadPlan C_NotDue C_Stuck C_BadBits C_BadText C_TooLarge g_told : Addr) : Dh.SG :=
  fun vs L Q E => ∃ (p : Addr) (q much : Int) (n : Nat) (G Tk : List (Int × Int)) (U : List (Int × Int × Int)) (R : List Dh.HP), vs = [.ref p, .int q, .int much] ∧ Dh.Ent L (QueueAt C_Queue p n G Tk U :: R) ∧
    (q ∉ Tk.map (·.1) → Dh.Go T (QueueAt C_Queue p n G Tk U :: R) fun H => E (.ref C_NotDue) none H) ∧
    (∀ A x B, Tk = A ++ x :: B → q = x.1 → Dh.Go T (QueueAt C_Queue p n G (A ++ B) (U ++ [(x.1, x.2, much)]) :: R) fun H => Q .non H)
set_option maxHeartbeats 8000000 in
theorem ok_Queue_use (Z : Txt K mg C_Ring C_Queue C_Pipe C_BadWord C_BadPlace C_BadPlan C_NotDue C_Stuck C_BadBits C_BadText C_TooLarge g_told)  {f : Addr} {fd : FuncData} {cdv : Value} (F : Dh.FunC K "use" "Queue.use" s_Queue_use f fd cdv) :
    FnOk P w K mg base (L2.CX P w) 1 f fd ["self", "place", "much"] (Dh.sOfN T 3 (sg_Queue_use T K C_Ring C_Queue C_Pipe C_BadWord C_BadPlace C_BadPlan C_NotDue C_Stuck C_BadBits C_BadText C_TooLarge g_told)) := by
  refine Dh.fnX (k := 0) F sc_Queue_use rfl (fun A outer s H0 L vs Q E hr hl h => ?_)
  refine ⟨_, (pss_cons (ps_if (pt_cmp (pc_dnotin (hu_of hr) (pv 1) (Dh.pe_fldC Z.c_Queue Z.n_Queue_out (pv 0))) rfl)
    (pss_one (Dh.ps_rs rfl (takes_of rfl rfl rfl rfl) Z.e_NotDue rfl))
    pss_nil)
    (pss_cons (ps_expr (pe_dpop1 (Dh.pe_fldC Z.c_Queue Z.n_Queue_out (pv 0)) (pv 1) ⟨by rfl, by rfl, by rfl, by rfl⟩))
    (pss_cons (ps_asg (pe_tup (pa_cons (pv 1) (pa_cons (pv 2) pa_nil))) (pg_sub (Dh.pe_fldC Z.c_Queue Z.n_Queue_used (pv 0)) (pe_op op_mod (Dh.pe_fldC Z.c_Queue Z.n_Queue_used_count (pv 0)) (Dh.pe_fldC Z.c_Queue Z.n_Queue_many (pv 0))) set_list))
    (pss_one (Dh.ps_fldC Z.c_Queue Z.n_Queue_used_count (pv 0) (pe_op op_mod (pe_op (Dh.oAdd (K := K) rfl) (Dh.pe_fldC Z.c_Queue Z.n_Queue_used_count (pv 0)) pe_int) (Dh.pe_fldC Z.c_Queue Z.n_Queue_round_at (pv 0)))))))), ?_⟩
  try dsimp only [L2.cxOf, L2.Cx.blk, LamX.lamCx, L2.Cx.tr]
  obtain ⟨p, q, much, n, G, Tk, U, R, rfl, hE, k1, k2⟩ := h
  refine Dh.Go.ent hE (go_queue fun r1 r2 r3 r4 r5 F tb gv us uv gc uc dsv drv ds dr ok => ?_)
  obtain ⟨hn, hb, l1, bg, bu, hds, hdr, lu, rfl, rfl, rfl, rfl, pm, tbl⟩ := id ok
  have hl := ok.len
  have hin := out_in q Tk
  by_cases hq : q ∈ Tk.map (·.1)
  · obtain ⟨x, hx, rfl⟩ := List.mem_map.mp hq
    obtain ⟨A', B', rfl⟩ := List.append_of_mem hx
    have hget := out_get x.1 _ hq
    have hu := ix2 (m := dr + U.length) hn bu.1
    walk_at "vc"
    refine Dh.g_ifF (by rw [hin]; simp) ?_
    walk_at "vc"
    rename_i t
    have nd := (List.nodup_append.mp (List.nodup_append.mp (List.nodup_append.mp ok.nd).2.1).2.1).1
    rw [out_drop nd]
    refine Dh.Go.ent (Dh.ent_tps (vs := uv ++ [.ref t]) (ts := (U ++ [(x.1, x.2, much)]).map fun u => [u.1, u.2.2]) (fun H s => ?_) Dh.ent_refl) ?_
    · rw [List.map_append]
      refine' (Dh.Pick.f2 (vs := uv) (ts := U.map fun u => [u.1, u.2.2]) ?pa s).app (Dh.f2_one (t := t) (ms := [x.1, much]) (xs := [.int x.1, .int much]) rfl ?pb s)
      (case pa => walk_at "pk")
      (case pb => walk_at "pk")
    refine' fold_queue ok.use ?e (k2 A' x B' rfl rfl)
    (case e => walk_at "ent")
  · walk_at "vc"
    refine Dh.g_ifT (by rw [hin]; simpa using hq) ?_
    walk_at "vc"
    refine' fold_queue ok ?e (k1 hq)
    (case e => walk_at "ent")
def sg_Queue_reap (T : List (Addr × Str)) (K : PySem.W.Frag) (C_Ring C_Queue C_Pipe C_BadWord C_BadPlace C_BadPlan C_NotDue C_Stuck C_BadBits C_BadText C_TooLarge g_told : Addr) : Dh.SG :=
  fun vs L Q E => ∃ (p : Addr) (n : Nat) (G Tk : List (Int × Int)) (U : List (Int × Int × Int)) (R : List Dh.HP), vs = [.ref p] ∧ Dh.Ent L (QueueAt C_Queue p n G Tk U :: R) ∧
    (U = [] → Dh.Go T (QueueAt C_Queue p n G Tk U :: R) fun H => E (.ref C_NotDue) none H) ∧
    (∀ u U' t, U = u :: U' → Dh.Go T (Dh.pt t (.tup [.int u.2.1, .int u.2.2]) :: QueueAt C_Queue p n G Tk U' :: R) fun H => Q (.ref t) H)
set_option maxHeartbeats 8000000 in
theorem ok_Queue_reap (Z : Txt K mg C_Ring C_Queue C_Pipe C_BadWord C_BadPlace C_BadPlan C_NotDue C_Stuck C_BadBits C_BadText C_TooLarge g_told)  {f : Addr} {fd : FuncData} {cdv : Value} (F : Dh.FunC K "reap" "Queue.reap" s_Queue_reap f fd cdv) :
    FnOk P w K mg base (L2.CX P w) 1 f fd ["self"] (Dh.sOfN T 1 (sg_Queue_reap T K C_Ring C_Queue C_Pipe C_BadWord C_BadPlace C_BadPlan C_NotDue C_Stuck C_BadBits C_BadText C_TooLarge g_told)) := by
  refine Dh.fnX (k := 0) F sc_Queue_reap rfl (fun A outer s H0 L vs Q E hr hl h => ?_)
  refine ⟨_, (pss_cons (ps_if (pt_cmpR (Dh.oEq (K := K) rfl hr.units) (Dh.pe_fldC Z.c_Queue Z.n_Queue_used_count (pv 0)) (Dh.pe_fldC Z.c_Queue Z.n_Queue_driver_seen (pv 0)) (nomark _))
    (pss_one (Dh.ps_rs rfl (takes_of rfl rfl rfl rfl) Z.e_NotDue rfl))
    pss_nil)
    (pss_cons (ps_asg (pe_ix (Dh.xSeq (K := K) rfl) (Dh.pe_fldC Z.c_Queue Z.n_Queue_used (pv 0)) (pe_op op_mod (Dh.pe_fldC Z.c_Queue Z.n_Queue_driver_seen (pv 0)) (Dh.pe_fldC Z.c_Queue Z.n_Queue_many (pv 0))) (fun _ _ => rfl)) (Dh.pgTup (K := K) rfl rfl (pgs_cons (pg_name (i := 1) sc_Queue_reap.nd rfl (by first | exact Or.inl rfl | exact Or.inr rfl)) (pgs_cons (pg_name (i := 2) sc_Queue_reap.nd rfl (by first | exact Or.inl rfl | exact Or.inr rfl)) pgs_nil)) rfl rfl))
    (pss_cons (Dh.ps_fldC Z.c_Queue Z.n_Queue_driver_seen (pv 0) (pe_op op_mod (pe_op (Dh.oAdd (K := K) rfl) (Dh.pe_fldC Z.c_Queue Z.n_Queue_driver_seen (pv 0)) pe_int) (Dh.pe_fldC Z.c_Queue Z.n_Queue_round_at (pv 0))))
    (pss_cons (ps_expr (pe_bm PySem.F.plainAttrs_list PySem.F.slot_list_append PySem.F.type_list_append mt_append (Dh.pe_fldC Z.c_Queue Z.n_Queue_free (pv 0)) (pa_cons (pv 1) pa_nil)))
    (pss_one (ps_ret (pe_tup (pa_cons (pe_ix (Dh.xSeq (K := K) rfl) (Dh.pe_fldC Z.c_Queue Z.n_Queue_table (pv 0)) (pv 1) (fun _ _ => rfl)) (pa_cons (pv 2) pa_nil))))))))), ?_⟩
  try dsimp only [L2.cxOf, L2.Cx.blk, LamX.lamCx, L2.Cx.tr]
  obtain ⟨p, n, G, Tk, U, R, rfl, hE, k1, k2⟩ := h
  refine Dh.Go.ent hE (go_queue fun r1 r2 r3 r4 r5 F tb gv us uv gc uc dsv drv ds dr ok => ?_)
  obtain ⟨hn, hb, l1, bg, bu, hds, hdr, lu, rfl, rfl, rfl, rfl, pm, tbl⟩ := id ok
  have hl := ok.len
  have hz := nz2 (k := U.length) hdr (by omega)
  cases U with
  | nil =>
    walk_at "vcs"
    · refine' fold_queue ok ?e (k1 rfl)
      (case e => walk_at "ent")
    · rename_i hc
      exact absurd (by rw [hz.mpr rfl]) hc
  | cons u U =>
    obtain ⟨q, w, much⟩ := u
    cases uv with
    | nil => simp at lu
    | cons v uv =>
      refine Dh.go_tpsAt (k := 0) (ms := [q, much]) (xs := [.int q, .int much]) (by walk_at "pk") rfl rfl fun t0 ht0 => ?_
      obtain rfl : v = .ref t0 := by simpa using ht0
      have hat := at2 (n := n) (m := dr) bu.at
      obtain ⟨m, rfl, hm⟩ := tbl q w (.inr (.inr ⟨much, List.mem_cons_self⟩))
      walk_at "vcs"
      · rename_i hc
        rw [V.int.injEq, hz] at hc
        simp at hc
      · have e : List.map V.int F ++ [V.int m] = (F ++ [(m : Int)]).map V.int := by rw [List.map_append]; rfl
        rw [e]
        refine Dh.Go.ent (Dh.ent_tps (vs := uv) (ts := U.map fun u : Int × Int × Int => [u.1, u.2.2]) (fun H s => ?_) Dh.ent_refl) ?_
        · have f : Dh.F2 H (.ref t0 :: uv) ((((m : Int), w, much) :: U).map fun u : Int × Int × Int => [u.1, u.2.2]) := by
            refine' Dh.Pick.f2 ?pa s
            (case pa => walk_at "pk")
          exact f.drop 1
        refine' fold_queue ok.reap ?e (Dh.Go.ent ?e2 (k2 _ U _ rfl))
        (case e => walk_at "ent")
        (case e2 => walk_at "ent")
def sg_Queue_needs_call (T : List (Addr × Str)) (K : PySem.W.Frag) (C_Ring C_Queue C_Pipe C_BadWord C_BadPlace C_BadPlan C_NotDue C_Stuck C_BadBits C_BadText C_TooLarge g_told : Addr) : Dh.SG :=
  fun vs L Q E => ∃ (p : Addr) (b m uc rr : Int) (v0 v2 v3 v4 v5 v6 v8 v9 v10 : V) (R : List Dh.HP), vs = [.ref p, .int b, .int m] ∧ Dh.Ent L (Dh.ob p C_Queue (fs_Queue v0 (.int rr) v2 v3 v4 v5 v6 (.int uc) v8 v9 v10) :: R) ∧ 0 < rr ∧
    Dh.Go T (Dh.ob p C_Queue (fs_Queue v0 (.int rr) v2 v3 v4 v5 v6 (.int uc) v8 v9 v10) :: R) fun H => Q (.bl (decide ((uc - m - 1) % rr < (uc - b) % rr))) H
set_option maxHeartbeats 8000000 in
theorem ok_Queue_needs_call (Z : Txt K mg C_Ring C_Queue C_Pipe C_BadWord C_BadPlace C_BadPlan C_NotDue C_Stuck C_BadBits C_BadText C_TooLarge g_told)  {f : Addr} {fd : FuncData} {cdv : Value} (F : Dh.FunC K "needs_call" "Queue.needs_call" s_Queue_needs_call f fd cdv) :
    FnOk P w K mg base (L2.CX P w) 1 f fd ["self", "before", "mark"] (Dh.sOfN T 3 (sg_Queue_needs_call T K C_Ring C_Queue C_Pipe C_BadWord C_BadPlace C_BadPlan C_NotDue C_Stuck C_BadBits C_BadText C_TooLarge g_told)) := by
  refine Dh.fnX (k := 0) F sc_Queue_needs_call rfl (fun A outer s H0 L vs Q E hr hl h => ?_)
  refine ⟨_, (pss_one (ps_ret (pe_cmpR op_lt (pe_op op_mod (pe_op op_sub (pe_op op_sub (Dh.pe_fldC Z.c_Queue Z.n_Queue_used_count (pv 0)) (pv 2)) pe_int) (Dh.pe_fldC Z.c_Queue Z.n_Queue_round_at (pv 0))) (pe_op op_mod (pe_op op_sub (Dh.pe_fldC Z.c_Queue Z.n_Queue_used_count (pv 0)) (pv 1)) (Dh.pe_fldC Z.c_Queue Z.n_Queue_round_at (pv 0))) (nomark _)))), ?_⟩
  try dsimp only [L2.cxOf, L2.Cx.blk, LamX.lamCx, L2.Cx.tr]
  obtain ⟨p, b, m, uc, rr, v0, v2, v3, v4, v5, v6, v8, v9, v10, R, rfl, hE, h0, k⟩ := h
  refine Dh.Go.ent hE ?_
  walk_at "vcs"
  exact k
end
end Toy
end

section
local macro_rules | `(tactic| walk_at "pk") => `(tactic| (with_reducible first | exact Dh.pick_here | (refine' Dh.pick_there ?p; (case p => walk_at "pk"))))
local macro_rules | `(tactic| walk_at "ent") => `(tactic| first | (with_reducible exact Dh.ent_refl) | (with_reducible exact Dh.ent_nil) | (refine' Dh.ent_cons ?q0 ?k; (case q0 => walk_at "pk"); (case k => walk_at "ent")) | (refine' Dh.ent_drop ?k; (case k => walk_at "ent")))
local macro_rules | `(tactic| walk_at "side") => `(tactic| first | omega | decide | (simp only [L2.CMul, L2.CDiv, L2.CDivN]; omega) | (unfold L2.CPow; decide) | (simp only [List.length_cons, List.length_nil, List.length_append, List.length_map, List.length_range, List.length_replicate, List.length_set, List.length_take, List.length_drop, PySem.sizeLine_eq] <;> omega))
local macro_rules | `(tactic| walk_at "ixs") => `(tactic| first | assumption | omega | (simp only [List.length_set, List.length_map, List.length_cons, List.length_nil, List.length_append, List.length_replicate] <;> first | assumption | omega))
local macro_rules | `(tactic| walk_at "lk") => `(tactic| first | rfl | assumption | (exact Dh.ixN_lt (by walk_at "ixs")) | (exact Dh.atI_lt (by assumption))  | with_reducible exact Toy.lk_Ring_rows | with_reducible exact Toy.lk_Ring_by_device | with_reducible exact Toy.lk_Ring_done | with_reducible exact Toy.lk_Ring_fill_at | with_reducible exact Toy.lk_Ring_work_at | with_reducible exact Toy.lk_Ring_reap_at | with_reducible exact Toy.lk_Ring_filled | with_reducible exact Toy.no_Ring_init | with_reducible exact Toy.no_Ring_fill | with_reducible exact Toy.no_Ring_work | with_reducible exact Toy.no_Ring_reap | with_reducible exact Toy.no_Ring_left_room | with_reducible exact Toy.lk_Queue_many | with_reducible exact Toy.lk_Queue_round_at | with_reducible exact Toy.lk_Queue_table | with_reducible exact Toy.lk_Queue_free | with_reducible exact Toy.lk_Queue_given | with_reducible exact Toy.lk_Queue_used | with_reducible exact Toy.lk_Queue_given_count | with_reducible exact Toy.lk_Queue_used_count | with_reducible exact Toy.lk_Queue_device_seen | with_reducible exact Toy.lk_Queue_out | with_reducible exact Toy.lk_Queue_driver_seen | with_reducible exact Toy.no_Queue_init | with_reducible exact Toy.no_Queue_give | with_reducible exact Toy.no_Queue_untaken | with_reducible exact Toy.no_Queue_take | with_reducible exact Toy.no_Queue_use | with_reducible exact Toy.no_Queue_reap | with_reducible exact Toy.no_Queue_needs_call | with_reducible exact Toy.lk_Pipe_cells | with_reducible exact Toy.lk_Pipe_put_at | with_reducible exact Toy.lk_Pipe_get_at | with_reducible exact Toy.no_Pipe_init | with_reducible exact Toy.no_Pipe_lying | with_reducible exact Toy.no_Pipe_put | with_reducible exact Toy.no_Pipe_get)
local macro_rules | `(tactic| walk_at "pf") => `(tactic| first  | with_reducible exact Toy.pf_Ring_rows | with_reducible exact Toy.pf_Ring_by_device | with_reducible exact Toy.pf_Ring_done | with_reducible exact Toy.pf_Ring_fill_at | with_reducible exact Toy.pf_Ring_work_at | with_reducible exact Toy.pf_Ring_reap_at | with_reducible exact Toy.pf_Ring_filled | with_reducible exact Toy.gr_Ring_rows | with_reducible exact Toy.gr_Ring_by_device | with_reducible exact Toy.gr_Ring_done | with_reducible exact Toy.gr_Ring_fill_at | with_reducible exact Toy.gr_Ring_work_at | with_reducible exact Toy.gr_Ring_reap_at | with_reducible exact Toy.gr_Ring_filled | with_reducible exact Toy.pf_Queue_many | with_reducible exact Toy.pf_Queue_round_at | with_reducible exact Toy.pf_Queue_table | with_reducible exact Toy.pf_Queue_free | with_reducible exact Toy.pf_Queue_given | with_reducible exact Toy.pf_Queue_used | with_reducible exact Toy.pf_Queue_given_count | with_reducible exact Toy.pf_Queue_used_count | with_reducible exact Toy.pf_Queue_device_seen | with_reducible exact Toy.pf_Queue_out | with_reducible exact Toy.pf_Queue_driver_seen | with_reducible exact Toy.gr_Queue_many | with_reducible exact Toy.gr_Queue_round_at | with_reducible exact Toy.gr_Queue_table | with_reducible exact Toy.gr_Queue_free | with_reducible exact Toy.gr_Queue_given | with_reducible exact Toy.gr_Queue_used | with_reducible exact Toy.gr_Queue_given_count | with_reducible exact Toy.gr_Queue_used_count | with_reducible exact Toy.gr_Queue_device_seen | with_reducible exact Toy.gr_Queue_out | with_reducible exact Toy.gr_Queue_driver_seen | with_reducible exact Toy.pf_Pipe_cells | with_reducible exact Toy.pf_Pipe_put_at | with_reducible exact Toy.pf_Pipe_get_at | with_reducible exact Toy.gr_Pipe_cells | with_reducible exact Toy.gr_Pipe_put_at | with_reducible exact Toy.gr_Pipe_get_at | rfl)
local macro_rules | `(tactic| walk_at "ln") => `(tactic| first  | with_reducible exact Toy.ln_Ring | with_reducible exact Toy.ln_Queue | with_reducible exact Toy.ln_Pipe | decide | (simp only [List.length_cons, List.length_nil] <;> omega))
local macro_rules | `(tactic| walk_at "hasm") => `(tactic| first | (refine' Toy.hasM_pipe ?q0 ?q1; (case q0 => walk_at "pk"); (case q1 => (intros; walk_at "lk"))) | (refine' Toy.hasM_queue ?q0 ?q1; (case q0 => walk_at "pk"); (case q1 => (intros; walk_at "lk"))) | (refine' Dh.hasM_ob ?q0 ?q1; (case q0 => walk_at "pk"); (case q1 => walk_at "lk")))
local macro_rules | `(tactic| walk_at "vcp0") => `(tactic| first | ((with_reducible refine' Dh.g_seq ?k)) | ((with_reducible refine' Dh.g_next ?k)) | ((with_reducible refine' Dh.g_nonA ?k)) | ((with_reducible refine' Dh.g_var ?q0 ?k); (case q0 => rfl)) | ((with_reducible refine' Dh.g_c ?k)) | ((with_reducible refine' Dh.g_op ?k)) | ((with_reducible refine' Dh.g_asg ?k)) | ((with_reducible refine' Dh.g_name ?k)) | ((with_reducible refine' Dh.g_ifS ?k)) | ((with_reducible refine' Dh.g_test ?k)) | ((with_reducible refine' Dh.g_isB ?k)) | ((with_reducible refine' Dh.g_B ?k)) | ((with_reducible refine' Dh.g_ret ?k)) | ((with_reducible refine' Dh.g_retN ?k)) | ((with_reducible refine' Dh.g_drop ?k)) | ((with_reducible refine' Dh.g_brk ?k)) | ((with_reducible refine' Dh.g_cont ?k)) | ((with_reducible refine' Dh.g_un ?k)) | ((with_reducible refine' Dh.g_I0 ?k)) | ((with_reducible refine' Dh.g_addI ?k)) | ((with_reducible refine' Dh.g_addB ?k)) | ((with_reducible refine' Dh.g_addS ?q0 ?k); (case q0 => walk_at "side")) | ((with_reducible refine' Dh.g_addM ?q0 ?q1 ?q2 ?k); (case q0 => walk_at "pk"); (case q1 => walk_at "pk"); (case q2 => walk_at "side"); intro _) | ((with_reducible refine' Dh.g_addL ?q0 ?q1 ?q2 ?k); (case q0 => walk_at "pk"); (case q1 => walk_at "pk"); (case q2 => walk_at "side"); intro _))
local macro_rules | `(tactic| walk_at "vcp1") => `(tactic| first | ((with_reducible refine' Dh.g_I ?q0 ?k); (case q0 => walk_at "side")) | ((with_reducible refine' Dh.g_mulI ?q0 ?k); (case q0 => walk_at "side")) | ((with_reducible refine' Dh.g_U ?k)) | ((with_reducible refine' Dh.g_eqS ?q0 ?k); (case q0 => rfl)) | ((with_reducible refine' Dh.g_neS ?q0 ?k); (case q0 => rfl)) | ((with_reducible refine' Dh.g_eqLL ?q0 ?q1 ?k); (case q0 => walk_at "pk"); (case q1 => walk_at "pk")) | ((with_reducible refine' Dh.g_neLL ?q0 ?q1 ?k); (case q0 => walk_at "pk"); (case q1 => walk_at "pk")) | ((with_reducible refine' Dh.g_eqL0 ?q0 ?q1 ?k); (case q0 => walk_at "pk"); (case q1 => walk_at "pk")) | ((with_reducible refine' Dh.g_neL0 ?q0 ?q1 ?k); (case q0 => walk_at "pk"); (case q1 => walk_at "pk")) | ((with_reducible refine' Dh.g_neT0 ?q0 ?q1 ?q2 ?k); (case q0 => walk_at "pk"); (case q1 => walk_at "pk"); (case q2 => walk_at "pk")) | ((with_reducible refine' Dh.g_neP ?q0 ?q1 ?k); (case q0 => walk_at "pk"); (case q1 => walk_at "pk")) | ((with_reducible refine' Dh.g_inI ?q0 ?k); (case q0 => walk_at "pk")) | ((with_reducible refine' Dh.g_isN ?k)) | ((with_reducible refine' Dh.g_notN ?k)) | ((with_reducible refine' Dh.g_ixL ?q0 ?q1 ?k); (case q0 => walk_at "pk"); (case q1 => walk_at "lk")) | ((with_reducible refine' Dh.g_ixT ?q0 ?q1 ?k); (case q0 => walk_at "pk"); (case q1 => walk_at "lk")) | ((with_reducible refine' Dh.g_sl ?k)) | ((with_reducible refine' Dh.g_noPart ?k)) | ((with_reducible refine' Dh.g_part ?k)) | ((with_reducible refine' Dh.g_isSomeInt ?k)) | ((with_reducible refine' Dh.g_slTk ?q0 ?k); (case q0 => walk_at "pk"); intro _) | ((with_reducible refine' Dh.g_slDr ?q0 ?k); (case q0 => walk_at "pk"); intro _) | ((with_reducible refine' Dh.g_slL ?q0 ?k); (case q0 => walk_at "pk"); intro _) | ((with_reducible refine' Dh.g_slQTk ?q0 ?k); (case q0 => walk_at "pk"); intro _))
local macro_rules | `(tactic| walk_at "vcp2") => `(tactic| first | ((with_reducible refine' Dh.g_slQ ?q0 ?k); (case q0 => walk_at "pk"); intro _) | ((with_reducible refine' Dh.g_fldE ?k)) | ((with_reducible refine' Dh.g_fld ?q0 ?q1 ?k); (case q0 => walk_at "pk"); (case q1 => walk_at "lk")) | ((with_reducible refine' Dh.g_tup ?k)) | ((with_reducible refine' Dh.g_lst ?k)) | ((with_reducible refine' Dh.g_newT ?q0 ?k); (case q0 => walk_at "side"); intro _) | ((with_reducible refine' Dh.g_newL ?q0 ?k); (case q0 => walk_at "side"); intro _) | ((with_reducible refine' Dh.g_nil ?k)) | ((with_reducible refine' Dh.g_cons ?k)) | ((with_reducible refine' Dh.g_call ?k)) | ((with_reducible refine' Dh.g_methE ?k)) | ((with_reducible refine' Dh.g_meth ?q0 ?k); (case q0 => walk_at "hasm")) | ((with_reducible refine' Dh.g_make ?k)) | ((with_reducible refine' Dh.g_made ?k); intro _) | ((with_reducible refine' Dh.g_cb ?k)) | ((with_reducible refine' Dh.g_int ?k)) | ((with_reducible refine' Dh.g_intB ?k)) | ((with_reducible refine' Dh.g_abs ?k)) | ((with_reducible refine' Dh.g_max2 ?k)) | ((with_reducible refine' Dh.g_min2 ?k)) | ((with_reducible refine' Dh.g_strI ?q0 ?k); (case q0 => walk_at "side")) | ((with_reducible refine' Dh.g_lenL ?q0 ?k); (case q0 => walk_at "pk")) | ((with_reducible refine' Dh.g_lenT ?q0 ?k); (case q0 => walk_at "pk")) | ((with_reducible refine' Dh.g_lenD ?q0 ?k); (case q0 => walk_at "pk")))
local macro_rules | `(tactic| walk_at "vcp3") => `(tactic| first | ((with_reducible refine' Dh.g_listL ?q0 ?k); (case q0 => walk_at "pk"); intro _) | ((with_reducible refine' Dh.g_listT ?q0 ?k); (case q0 => walk_at "pk"); intro _) | ((with_reducible refine' Dh.g_tupL ?q0 ?k); (case q0 => walk_at "pk"); intro _) | ((with_reducible refine' Dh.g_tupT ?q0 ?k); (case q0 => walk_at "pk")) | ((with_reducible refine' Dh.g_pop0 ?q0 ?k); (case q0 => walk_at "pk")) | ((with_reducible refine' Dh.g_bm ?k)) | ((with_reducible refine' Dh.g_bm0 ?k)) | ((with_reducible refine' Dh.g_tyL ?q0 ?k); (case q0 => walk_at "pk")) | ((with_reducible refine' Dh.g_append ?q0 ?q1 ?k); (case q0 => walk_at "pk"); (case q1 => walk_at "side")) | ((with_reducible refine' Dh.g_rep ?q0 ?q1 ?q2 ?q3 ?k); (case q0 => walk_at "pk"); (case q1 => walk_at "side"); (case q2 => walk_at "side"); (case q3 => walk_at "side"); intro _) | ((with_reducible refine' Dh.g_not ?k)) | ((with_reducible refine' Dh.g_tand ?k)) | ((with_reducible refine' Dh.g_tor ?k)) | ((with_reducible refine' Dh.g_andV ?k)) | ((with_reducible refine' Dh.g_orV ?k)) | ((with_reducible refine' Dh.g_notV ?k)) | ((with_reducible refine' Dh.g_ifE ?k)) | ((with_reducible refine' Dh.g_chain ?k)) | ((with_reducible refine' Dh.g_tru ?k)) | ((with_reducible refine' Dh.g_truB ?k)) | ((with_reducible refine' Dh.g_truI ?k)) | ((with_reducible refine' Dh.g_truN ?k)) | ((with_reducible refine' Dh.g_truL ?q0 ?k); (case q0 => walk_at "pk")) | ((with_reducible refine' Dh.g_gsub ?k)))
local macro_rules | `(tactic| walk_at "vcp4") => `(tactic| first | ((with_reducible refine' Dh.g_setL ?q0 ?q1 ?k); (case q0 => walk_at "pk"); (case q1 => walk_at "lk")) | ((with_reducible refine' Dh.g_gtup ?q0 ?q1 ?k); (case q0 => walk_at "pk"); (case q1 => rfl)) | ((with_reducible refine' Dh.g_gnil ?k)) | ((with_reducible refine' Dh.g_gcons ?k)) | ((with_reducible refine' Dh.g_par ?k)) | ((with_reducible refine' Dh.g_par2 ?k)) | ((with_reducible refine' Dh.g_par3 ?k)) | ((with_reducible refine' Dh.g_par3b ?k)) | ((with_reducible refine' Dh.g_listRg ?k)) | ((with_reducible refine' Dh.g_rg1E ?k)) | ((with_reducible refine' Dh.g_rg1 ?k)) | ((with_reducible refine' Dh.g_rgN ?q0 ?k); (case q0 => walk_at "side"); intro _) | ((with_reducible refine' Dh.g_rgL ?q0 ?k); (case q0 => walk_at "side"); intro _) | ((with_reducible refine' Dh.g_dinE ?k)) | ((with_reducible refine' Dh.g_dinI ?q0 ?k); (case q0 => walk_at "pk")) | ((with_reducible refine' Dh.g_dnotinE ?k)) | ((with_reducible refine' Dh.g_dnotinI ?q0 ?k); (case q0 => walk_at "pk")) | ((with_reducible refine' Dh.g_dgetE ?k)) | ((with_reducible refine' Dh.g_dgetI ?q0 ?q1 ?k); (case q0 => walk_at "pk"); (case q1 => walk_at "lk")) | ((with_reducible refine' Dh.g_dputE ?k)) | ((with_reducible refine' Dh.g_dputI ?q0 ?q1 ?k); (case q0 => walk_at "pk"); (case q1 => walk_at "side")) | ((with_reducible refine' Dh.g_dpopE ?k)) | ((with_reducible refine' Dh.g_dpopA ?q0 ?k); (case q0 => walk_at "pk")) | ((with_reducible refine' Dh.g_dpopB ?q0 ?q1 ?k); (case q0 => walk_at "pk"); (case q1 => walk_at "lk")))
local macro_rules | `(tactic| walk_at "vcp5") => `(tactic| first | ((with_reducible refine' Dh.g_dnew ?k); intro _) | ((with_reducible refine' Dh.g_ipMul ?q0 ?k); (case q0 => walk_at "side")) | ((with_reducible refine' Dh.g_sfldE ?k)) | ((with_reducible refine' Dh.g_sfld ?q0 ?q1 ?q2 ?k); (case q0 => walk_at "pk"); (case q1 => walk_at "pf"); (case q2 => walk_at "ln")) | ((with_reducible refine' Dh.g_augE ?k)) | ((with_reducible refine' Dh.g_augF ?q0 ?q1 ?k); (case q0 => walk_at "pk"); (case q1 => walk_at "lk")) | ((with_reducible refine' Dh.g_augV ?q0 ?k); (case q0 => rfl)) | ((with_reducible refine' Dh.g_ipI ?k)) | ((with_reducible refine' Dh.g_rAdd ?k)) | ((with_reducible refine' Dh.g_rSub ?k)) | ((with_reducible refine' Dh.g_for ?k)) | ((with_reducible refine' Dh.g_iRng1 ?k)) | ((with_reducible refine' Dh.g_iRng2 ?k)) | ((with_reducible refine' Dh.g_rng1 ?q0 ?q1 ?k); (case q0 => walk_at "side"); (case q1 => walk_at "side")) | ((with_reducible refine' Dh.g_rng2 ?q0 ?k); (case q0 => walk_at "side")) | ((with_reducible refine' Dh.g_iSeqE ?k)) | ((with_reducible refine' Dh.g_iSeqL ?q0 ?k); (case q0 => walk_at "pk")) | ((with_reducible refine' Dh.g_iSeqT ?q0 ?k); (case q0 => walk_at "pk")) | ((with_reducible refine' Dh.g_wbody ?k)) | ((with_reducible refine' Dh.g_lcE ?k)) | ((with_reducible refine' Dh.g_turn ?k)) | ((with_reducible refine' Dh.g_tYes ?k)) | ((with_reducible refine' Dh.g_rs ?k)) | ((with_reducible refine' Dh.g_rsW ?k)))
local macro_rules | `(tactic| walk_at "vcp6") => `(tactic| first | ((with_reducible refine' Dh.g_told ?k)) | ((with_reducible refine' Dh.g_ifT ?q0 ?k); (case q0 => rfl)) | ((with_reducible refine' Dh.g_ifF ?q0 ?k); (case q0 => rfl)))
local macro_rules | `(tactic| walk_at "vc1") => `(tactic| first | walk_at "vcp0" | walk_at "vcp1" | walk_at "vcp2" | walk_at "vcp3" | walk_at "vcp4" | walk_at "vcp5" | walk_at "vcp6")
local macro_rules | `(tactic| walk_at "vc") => `(tactic| repeat walk_at "vc1")
local macro_rules | `(tactic| walk_at "spl") => `(tactic| first | ((with_reducible refine Dh.g_ifD ?_ ?_) <;> intro _) | ((with_reducible refine Dh.g_ifN ?_ ?_) <;> intro _) | ((with_reducible refine Dh.g_if ?_ ?_) <;> intro _))
local macro_rules | `(tactic| walk_at "vcs") => `(tactic| repeat' (first | walk_at "vc1" | walk_at "spl"))
namespace Toy
open PySem L2
section
variable {P : Program} {w : World} {K : PySem.W.Frag} {mg : Str → Option Value} {base : Heap} {T : List (Addr × Str)} {C_Ring C_Queue C_Pipe C_BadWord C_BadPlace C_BadPlan C_NotDue C_Stuck C_BadBits C_BadText C_TooLarge g_told : Addr}
def sg_law_rounds (T : List (Addr × Str)) (K : PySem.W.Frag) (C_Ring C_Queue C_Pipe C_BadWord C_BadPlace C_BadPlan C_NotDue C_Stuck C_BadBits C_BadText C_TooLarge g_told : Addr) : Dh.SG :=
  fun vs L Q E => ∃ (a : Addr) (ns : List Int) (m : Nat) (R : List Dh.HP), vs = [.ref a, .int m] ∧ Dh.Ent L (Dh.sq K a (ns.map .int) :: R) ∧ m ≤ 1000 ∧ ∀ (p : Addr) (ps : List Addr), Dh.Go T (Dh.pt p (.lst (ps.map .ref)) :: Dh.Seps (ps.map DiceAt) :: R) fun H => Q (.ref p) H
theorem rounds_tail {c : Addr} {v0 v1 v2 : Option V} {xs : List Int} {R : List Dh.HP} {Q : VK} {te : TE} (hx : xs.length ≤ 1000) (k : ∀ (p : Addr) (ps : List Addr), Dh.Go T (Dh.pt p (.lst (ps.map .ref)) :: Dh.Seps (ps.map DiceAt) :: R) fun H => Q (.ref p) H)
    (ht : ∀ (σ : L2.St) (x : Int) (L : List Dh.HP) (Q : VK), σ[3]? = some (some (.int x)) → (∀ p a b c, Dh.Go T (Dh.pt p (.lst [.int a, .int b, .int c]) :: L) fun H => Q (.ref p) H) → Dh.Go T L fun H => te σ H Q) :
    Dh.Go T (Dh.pt c (.lst (xs.map .int)) :: R) fun H => Dh.LcG (Itl K c) (gName 3) tYes te [3] [v0, v1, v2, none] Q H := by
  refine Dh.g_lcL (xs := xs.map .int) (fun i acc L => ∃ ps : List Addr, ps.length = i ∧ acc = ps.map .ref ∧ Dh.Ent L (Dh.pt c (.lst (xs.map .int)) :: Dh.Seps (ps.map DiceAt) :: R)) ⟨[], rfl, rfl, Dh.ent_tail Dh.ent_seps0⟩ ?_ ?_ ?_
  · rintro i acc L ⟨ps, _, rfl, hE⟩
    exact hE.has Dh.pick_here
  · rintro D i x acc L hx' ⟨ps, hl, rfl, hE⟩
    rw [List.getElem?_map] at hx'
    obtain ⟨z, hz, rfl⟩ := Option.map_eq_some_iff.mp hx'
    have hi := (List.getElem?_eq_some_iff.mp hz).1
    refine Dh.g_turn ?_
    refine Dh.g_name ?_
    refine Dh.g_and rfl ?_
    refine Dh.g_tYes ?_
    refine Dh.g_ifT rfl ?_
    refine ht _ z _ _ rfl fun p a b c' => ?_
    refine Dh.g_lcAdd (Dh.pick_there Dh.pick_here) (by rw [List.length_map, PySem.sizeLine_eq]; omega) ⟨ps ++ [p], by rw [List.length_append, hl]; rfl, by rw [List.map_append]; rfl, ?_⟩
    rw [List.map_append]
    refine (Dh.ent_tail hE).trans ?_
    refine (Dh.ent_imp (P' := DiceAt p) fun h e => ⟨_, _, _, e⟩).trans ?_
    exact fun H s => s.swap.impT Dh.seps_snoc
  · rintro D acc L ⟨ps, _, rfl, hE⟩
    exact Dh.Go.ent (Dh.ent_tail (hE.trans (Dh.ent_drop Dh.ent_refl))) (k D ps)
set_option maxHeartbeats 8000000 in
theorem ok_law_rounds (Z : Txt K mg C_Ring C_Queue C_Pipe C_BadWord C_BadPlace C_BadPlan C_NotDue C_Stuck C_BadBits C_BadText C_TooLarge g_told) (c_law_dice : Dh.CalX P w K mg base 1 "_law_dice" (Dh.sOfN T 1 (sg_law_dice T K C_Ring C_Queue C_Pipe C_BadWord C_BadPlace C_BadPlan C_NotDue C_Stuck C_BadBits C_BadText C_TooLarge g_told))) {f : Addr} {fd : FuncData} {cdv : Value} (F : Dh.FunC K "_law_rounds" "_law_rounds" s_law_rounds f fd cdv) :
    FnOk P w K mg base (L2.CX P w) 2 f fd ["script", "most"] (Dh.sOfN T 2 (sg_law_rounds T K C_Ring C_Queue C_Pipe C_BadWord C_BadPlace C_BadPlan C_NotDue C_Stuck C_BadBits C_BadText C_TooLarge g_told)) := by
  refine Dh.fnX (k := 1) F sc_law_rounds rfl (fun A outer s H0 L vs Q E hr hl h => ?_)
  refine ⟨_, (pss_cons (ps_set (i := 2) sc_law_rounds.nd rfl (by first | exact Or.inl rfl | exact Or.inr rfl) (pe_slice (Dh.slSeq (K := K) rfl) (pv 0) po_none (po_some (pv 1))))
    (pss_cons (ps_if (pt_cmpR (Dh.oEq (K := K) rfl hr.units) (pv 2) (pe_lst pa_nil) (nomark _))
    (pss_one (ps_set (i := 2) sc_law_rounds.nd rfl (by first | exact Or.inl rfl | exact Or.inr rfl) (pe_lst (pa_cons pe_int pa_nil))))
    pss_nil)
    (pss_one (ps_ret (pe_lc (own := [("cell", 3)]) (g := (gName 3)) (tt := tYes) rfl sc_law_rounds.nd (Dh.piSeq (K := K) rfl (pv 2)) (blkOk_by (own := [("cell", 3)]) (N := N_law_rounds) (by kernel_rfl)) (fun _ _ _ _ _ => (pg_name (i := 3) sc_law_rounds.nd rfl (by first | exact Or.inl rfl | exact Or.inr rfl))) (fun _ _ _ _ _ => pts_nil) (fun _ _ _ _ _ => (Dh.pe_cal c_law_dice hr (by decide) passL rfl (pa_cons (pv 3) pa_nil)))))))), ?_⟩
  try dsimp only [L2.cxOf, L2.Cx.blk, LamX.lamCx, L2.Cx.tr]
  obtain ⟨a, ns, m, R, rfl, hE, hm, k⟩ := h
  refine Dh.Go.ent hE ?_
  walk_at "vcs"
  · rename_i c1 c2 hc c3
    rw [show [V.int 0] = [(0 : Int)].map V.int from rfl]
    refine' Dh.Go.ent ?e (rounds_tail (xs := [0]) (c := c3) (by decide) k ?ht)
    (case e => walk_at "ent")
    case ht =>
      intro σ x L Q hσ g
      refine Dh.g_call (Dh.g_cons (Dh.g_var hσ (Dh.g_nil ?_)))
      refine' Dh.g_sp rfl ⟨x, rfl, ?_⟩
      exact g
  · rename_i c1 c2 hc
    refine' Dh.Go.ent ?e2 (rounds_tail (xs := ns.take m) (c := c1) (by rw [List.length_take]; omega) k ?ht2)
    (case e2 => walk_at "ent")
    case ht2 =>
      intro σ x L Q hσ g
      refine Dh.g_call (Dh.g_cons (Dh.g_var hσ (Dh.g_nil ?_)))
      refine' Dh.g_sp rfl ⟨x, rfl, ?_⟩
      exact g
end
end Toy
end

section
local macro_rules | `(tactic| walk_at "pk") => `(tactic| (with_reducible first | exact Dh.pick_here | (refine' Dh.pick_there ?p; (case p => walk_at "pk"))))
local macro_rules | `(tactic| walk_at "ent") => `(tactic| first | (with_reducible exact Dh.ent_refl) | (with_reducible exact Dh.ent_nil) | (refine' Dh.ent_cons ?q0 ?k; (case q0 => walk_at "pk"); (case k => walk_at "ent")) | (refine' Dh.ent_drop ?k; (case k => walk_at "ent")))
local macro_rules | `(tactic| walk_at "side") => `(tactic| first | omega | decide | (simp only [L2.CMul, L2.CDiv, L2.CDivN]; omega) | (unfold L2.CPow; decide) | (simp only [List.length_cons, List.length_nil, List.length_append, List.length_map, List.length_range, List.length_replicate, List.length_set, List.length_take, List.length_drop, PySem.sizeLine_eq] <;> omega))
local macro_rules | `(tactic| walk_at "ixs") => `(tactic| first | assumption | omega | (simp only [List.length_set, List.length_map, List.length_cons, List.length_nil, List.length_append, List.length_replicate] <;> first | assumption | omega))
local macro_rules | `(tactic| walk_at "lk") => `(tactic| first | rfl | assumption | (exact Dh.ixN_lt (by walk_at "ixs")) | (exact Dh.atI_lt (by assumption))  | with_reducible exact Toy.lk_Ring_rows | with_reducible exact Toy.lk_Ring_by_device | with_reducible exact Toy.lk_Ring_done | with_reducible exact Toy.lk_Ring_fill_at | with_reducible exact Toy.lk_Ring_work_at | with_reducible exact Toy.lk_Ring_reap_at | with_reducible exact Toy.lk_Ring_filled | with_reducible exact Toy.no_Ring_init | with_reducible exact Toy.no_Ring_fill | with_reducible exact Toy.no_Ring_work | with_reducible exact Toy.no_Ring_reap | with_reducible exact Toy.no_Ring_left_room | with_reducible exact Toy.lk_Queue_many | with_reducible exact Toy.lk_Queue_round_at | with_reducible exact Toy.lk_Queue_table | with_reducible exact Toy.lk_Queue_free | with_reducible exact Toy.lk_Queue_given | with_reducible exact Toy.lk_Queue_used | with_reducible exact Toy.lk_Queue_given_count | with_reducible exact Toy.lk_Queue_used_count | with_reducible exact Toy.lk_Queue_device_seen | with_reducible exact Toy.lk_Queue_out | with_reducible exact Toy.lk_Queue_driver_seen | with_reducible exact Toy.no_Queue_init | with_reducible exact Toy.no_Queue_give | with_reducible exact Toy.no_Queue_untaken | with_reducible exact Toy.no_Queue_take | with_reducible exact Toy.no_Queue_use | with_reducible exact Toy.no_Queue_reap | with_reducible exact Toy.no_Queue_needs_call | with_reducible exact Toy.lk_Pipe_cells | with_reducible exact Toy.lk_Pipe_put_at | with_reducible exact Toy.lk_Pipe_get_at | with_reducible exact Toy.no_Pipe_init | with_reducible exact Toy.no_Pipe_lying | with_reducible exact Toy.no_Pipe_put | with_reducible exact Toy.no_Pipe_get)
local macro_rules | `(tactic| walk_at "pf") => `(tactic| first  | with_reducible exact Toy.pf_Ring_rows | with_reducible exact Toy.pf_Ring_by_device | with_reducible exact Toy.pf_Ring_done | with_reducible exact Toy.pf_Ring_fill_at | with_reducible exact Toy.pf_Ring_work_at | with_reducible exact Toy.pf_Ring_reap_at | with_reducible exact Toy.pf_Ring_filled | with_reducible exact Toy.gr_Ring_rows | with_reducible exact Toy.gr_Ring_by_device | with_reducible exact Toy.gr_Ring_done | with_reducible exact Toy.gr_Ring_fill_at | with_reducible exact Toy.gr_Ring_work_at | with_reducible exact Toy.gr_Ring_reap_at | with_reducible exact Toy.gr_Ring_filled | with_reducible exact Toy.pf_Queue_many | with_reducible exact Toy.pf_Queue_round_at | with_reducible exact Toy.pf_Queue_table | with_reducible exact Toy.pf_Queue_free | with_reducible exact Toy.pf_Queue_given | with_reducible exact Toy.pf_Queue_used | with_reducible exact Toy.pf_Queue_given_count | with_reducible exact Toy.pf_Queue_used_count | with_reducible exact Toy.pf_Queue_device_seen | with_reducible exact Toy.pf_Queue_out | with_reducible exact Toy.pf_Queue_driver_seen | with_reducible exact Toy.gr_Queue_many | with_reducible exact Toy.gr_Queue_round_at | with_reducible exact Toy.gr_Queue_table | with_reducible exact Toy.gr_Queue_free | with_reducible exact Toy.gr_Queue_given | with_reducible exact Toy.gr_Queue_used | with_reducible exact Toy.gr_Queue_given_count | with_reducible exact Toy.gr_Queue_used_count | with_reducible exact Toy.gr_Queue_device_seen | with_reducible exact Toy.gr_Queue_out | with_reducible exact Toy.gr_Queue_driver_seen | with_reducible exact Toy.pf_Pipe_cells | with_reducible exact Toy.pf_Pipe_put_at | with_reducible exact Toy.pf_Pipe_get_at | with_reducible exact Toy.gr_Pipe_cells | with_reducible exact Toy.gr_Pipe_put_at | with_reducible exact Toy.gr_Pipe_get_at | rfl)
local macro_rules | `(tactic| walk_at "ln") => `(tactic| first  | with_reducible exact Toy.ln_Ring | with_reducible exact Toy.ln_Queue | with_reducible exact Toy.ln_Pipe | decide | (simp only [List.length_cons, List.length_nil] <;> omega))
local macro_rules | `(tactic| walk_at "hasm") => `(tactic| first | (refine' Toy.hasM_pipe ?q0 ?q1; (case q0 => walk_at "pk"); (case q1 => (intros; walk_at "lk"))) | (refine' Toy.hasM_queue ?q0 ?q1; (case q0 => walk_at "pk"); (case q1 => (intros; walk_at "lk"))) | (refine' Dh.hasM_ob ?q0 ?q1; (case q0 => walk_at "pk"); (case q1 => walk_at "lk")))
local macro_rules | `(tactic| walk_at "vcp0") => `(tactic| first | ((with_reducible refine' Dh.g_seq ?k)) | ((with_reducible refine' Dh.g_next ?k)) | ((with_reducible refine' Dh.g_nonA ?k)) | ((with_reducible refine' Dh.g_var ?q0 ?k); (case q0 => rfl)) | ((with_reducible refine' Dh.g_c ?k)) | ((with_reducible refine' Dh.g_op ?k)) | ((with_reducible refine' Dh.g_asg ?k)) | ((with_reducible refine' Dh.g_name ?k)) | ((with_reducible refine' Dh.g_ifS ?k)) | ((with_reducible refine' Dh.g_test ?k)) | ((with_reducible refine' Dh.g_isB ?k)) | ((with_reducible refine' Dh.g_B ?k)) | ((with_reducible refine' Dh.g_ret ?k)) | ((with_reducible refine' Dh.g_retN ?k)) | ((with_reducible refine' Dh.g_drop ?k)) | ((with_reducible refine' Dh.g_brk ?k)) | ((with_reducible refine' Dh.g_cont ?k)) | ((with_reducible refine' Dh.g_un ?k)) | ((with_reducible refine' Dh.g_I0 ?k)) | ((with_reducible refine' Dh.g_addI ?k)) | ((with_reducible refine' Dh.g_addB ?k)) | ((with_reducible refine' Dh.g_addS ?q0 ?k); (case q0 => walk_at "side")) | ((with_reducible refine' Dh.g_addM ?q0 ?q1 ?q2 ?k); (case q0 => walk_at "pk"); (case q1 => walk_at "pk"); (case q2 => walk_at "side"); intro _) | ((with_reducible refine' Dh.g_addL ?q0 ?q1 ?q2 ?k); (case q0 => walk_at "pk"); (case q1 => walk_at "pk"); (case q2 => walk_at "side"); intro _))
local macro_rules | `(tactic| walk_at "vcp1") => `(tactic| first | ((with_reducible refine' Dh.g_I ?q0 ?k); (case q0 => walk_at "side")) | ((with_reducible refine' Dh.g_mulI ?q0 ?k); (case q0 => walk_at "side")) | ((with_reducible refine' Dh.g_U ?k)) | ((with_reducible refine' Dh.g_eqS ?q0 ?k); (case q0 => rfl)) | ((with_reducible refine' Dh.g_neS ?q0 ?k); (case q0 => rfl)) | ((with_reducible refine' Dh.g_eqLL ?q0 ?q1 ?k); (case q0 => walk_at "pk"); (case q1 => walk_at "pk")) | ((with_reducible refine' Dh.g_neLL ?q0 ?q1 ?k); (case q0 => walk_at "pk"); (case q1 => walk_at "pk")) | ((with_reducible refine' Dh.g_eqL0 ?q0 ?q1 ?k); (case q0 => walk_at "pk"); (case q1 => walk_at "pk")) | ((with_reducible refine' Dh.g_neL0 ?q0 ?q1 ?k); (case q0 => walk_at "pk"); (case q1 => walk_at "pk")) | ((with_reducible refine' Dh.g_neT0 ?q0 ?q1 ?q2 ?k); (case q0 => walk_at "pk"); (case q1 => walk_at "pk"); (case q2 => walk_at "pk")) | ((with_reducible refine' Dh.g_neP ?q0 ?q1 ?k); (case q0 => walk_at "pk"); (case q1 => walk_at "pk")) | ((with_reducible refine' Dh.g_inI ?q0 ?k); (case q0 => walk_at "pk")) | ((with_reducible refine' Dh.g_isN ?k)) | ((with_reducible refine' Dh.g_notN ?k)) | ((with_reducible refine' Dh.g_ixL ?q0 ?q1 ?k); (case q0 => walk_at "pk"); (case q1 => walk_at "lk")) | ((with_reducible refine' Dh.g_ixT ?q0 ?q1 ?k); (case q0 => walk_at "pk"); (case q1 => walk_at "lk")) | ((with_reducible refine' Dh.g_sl ?k)) | ((with_reducible refine' Dh.g_noPart ?k)) | ((with_reducible refine' Dh.g_part ?k)) | ((with_reducible refine' Dh.g_isSomeInt ?k)) | ((with_reducible refine' Dh.g_slTk ?q0 ?k); (case q0 => walk_at "pk"); intro _) | ((with_reducible refine' Dh.g_slDr ?q0 ?k); (case q0 => walk_at "pk"); intro _) | ((with_reducible refine' Dh.g_slL ?q0 ?k); (case q0 => walk_at "pk"); intro _) | ((with_reducible refine' Dh.g_slQTk ?q0 ?k); (case q0 => walk_at "pk"); intro _))
local macro_rules | `(tactic| walk_at "vcp2") => `(tactic| first | ((with_reducible refine' Dh.g_slQ ?q0 ?k); (case q0 => walk_at "pk"); intro _) | ((with_reducible refine' Dh.g_fldE ?k)) | ((with_reducible refine' Dh.g_fld ?q0 ?q1 ?k); (case q0 => walk_at "pk"); (case q1 => walk_at "lk")) | ((with_reducible refine' Dh.g_tup ?k)) | ((with_reducible refine' Dh.g_lst ?k)) | ((with_reducible refine' Dh.g_newT ?q0 ?k); (case q0 => walk_at "side"); intro _) | ((with_reducible refine' Dh.g_newL ?q0 ?k); (case q0 => walk_at "side"); intro _) | ((with_reducible refine' Dh.g_nil ?k)) | ((with_reducible refine' Dh.g_cons ?k)) | ((with_reducible refine' Dh.g_call ?k)) | ((with_reducible refine' Dh.g_methE ?k)) | ((with_reducible refine' Dh.g_meth ?q0 ?k); (case q0 => walk_at "hasm")) | ((with_reducible refine' Dh.g_make ?k)) | ((with_reducible refine' Dh.g_made ?k); intro _) | ((with_reducible refine' Dh.g_cb ?k)) | ((with_reducible refine' Dh.g_int ?k)) | ((with_reducible refine' Dh.g_intB ?k)) | ((with_reducible refine' Dh.g_abs ?k)) | ((with_reducible refine' Dh.g_max2 ?k)) | ((with_reducible refine' Dh.g_min2 ?k)) | ((with_reducible refine' Dh.g_strI ?q0 ?k); (case q0 => walk_at "side")) | ((with_reducible refine' Dh.g_lenL ?q0 ?k); (case q0 => walk_at "pk")) | ((with_reducible refine' Dh.g_lenT ?q0 ?k); (case q0 => walk_at "pk")) | ((with_reducible refine' Dh.g_lenD ?q0 ?k); (case q0 => walk_at "pk")))
local macro_rules | `(tactic| walk_at "vcp3") => `(tactic| first | ((with_reducible refine' Dh.g_listL ?q0 ?k); (case q0 => walk_at "pk"); intro _) | ((with_reducible refine' Dh.g_listT ?q0 ?k); (case q0 => walk_at "pk"); intro _) | ((with_reducible refine' Dh.g_tupL ?q0 ?k); (case q0 => walk_at "pk"); intro _) | ((with_reducible refine' Dh.g_tupT ?q0 ?k); (case q0 => walk_at "pk")) | ((with_reducible refine' Dh.g_pop0 ?q0 ?k); (case q0 => walk_at "pk")) | ((with_reducible refine' Dh.g_bm ?k)) | ((with_reducible refine' Dh.g_bm0 ?k)) | ((with_reducible refine' Dh.g_tyL ?q0 ?k); (case q0 => walk_at "pk")) | ((with_reducible refine' Dh.g_append ?q0 ?q1 ?k); (case q0 => walk_at "pk"); (case q1 => walk_at "side")) | ((with_reducible refine' Dh.g_rep ?q0 ?q1 ?q2 ?q3 ?k); (case q0 => walk_at "pk"); (case q1 => walk_at "side"); (case q2 => walk_at "side"); (case q3 => walk_at "side"); intro _) | ((with_reducible refine' Dh.g_not ?k)) | ((with_reducible refine' Dh.g_tand ?k)) | ((with_reducible refine' Dh.g_tor ?k)) | ((with_reducible refine' Dh.g_andV ?k)) | ((with_reducible refine' Dh.g_orV ?k)) | ((with_reducible refine' Dh.g_notV ?k)) | ((with_reducible refine' Dh.g_ifE ?k)) | ((with_reducible refine' Dh.g_chain ?k)) | ((with_reducible refine' Dh.g_tru ?k)) | ((with_reducible refine' Dh.g_truB ?k)) | ((with_reducible refine' Dh.g_truI ?k)) | ((with_reducible refine' Dh.g_truN ?k)) | ((with_reducible refine' Dh.g_truL ?q0 ?k); (case q0 => walk_at "pk")) | ((with_reducible refine' Dh.g_gsub ?k)))
local macro_rules | `(tactic| walk_at "vcp4") => `(tactic| first | ((with_reducible refine' Dh.g_setL ?q0 ?q1 ?k); (case q0 => walk_at "pk"); (case q1 => walk_at "lk")) | ((with_reducible refine' Dh.g_gtup ?q0 ?q1 ?k); (case q0 => walk_at "pk"); (case q1 => rfl)) | ((with_reducible refine' Dh.g_gnil ?k)) | ((with_reducible refine' Dh.g_gcons ?k)) | ((with_reducible refine' Dh.g_par ?k)) | ((with_reducible refine' Dh.g_par2 ?k)) | ((with_reducible refine' Dh.g_par3 ?k)) | ((with_reducible refine' Dh.g_par3b ?k)) | ((with_reducible refine' Dh.g_listRg ?k)) | ((with_reducible refine' Dh.g_rg1E ?k)) | ((with_reducible refine' Dh.g_rg1 ?k)) | ((with_reducible refine' Dh.g_rgN ?q0 ?k); (case q0 => walk_at "side"); intro _) | ((with_reducible refine' Dh.g_rgL ?q0 ?k); (case q0 => walk_at "side"); intro _) | ((with_reducible refine' Dh.g_dinE ?k)) | ((with_reducible refine' Dh.g_dinI ?q0 ?k); (case q0 => walk_at "pk")) | ((with_reducible refine' Dh.g_dnotinE ?k)) | ((with_reducible refine' Dh.g_dnotinI ?q0 ?k); (case q0 => walk_at "pk")) | ((with_reducible refine' Dh.g_dgetE ?k)) | ((with_reducible refine' Dh.g_dgetI ?q0 ?q1 ?k); (case q0 => walk_at "pk"); (case q1 => walk_at "lk")) | ((with_reducible refine' Dh.g_dputE ?k)) | ((with_reducible refine' Dh.g_dputI ?q0 ?q1 ?k); (case q0 => walk_at "pk"); (case q1 => walk_at "side")) | ((with_reducible refine' Dh.g_dpopE ?k)) | ((with_reducible refine' Dh.g_dpopA ?q0 ?k); (case q0 => walk_at "pk")) | ((with_reducible refine' Dh.g_dpopB ?q0 ?q1 ?k); (case q0 => walk_at "pk"); (case q1 => walk_at "lk")))
local macro_rules | `(tactic| walk_at "vcp5") => `(tactic| first | ((with_reducible refine' Dh.g_dnew ?k); intro _) | ((with_reducible refine' Dh.g_ipMul ?q0 ?k); (case q0 => walk_at "side")) | ((with_reducible refine' Dh.g_sfldE ?k)) | ((with_reducible refine' Dh.g_sfld ?q0 ?q1 ?q2 ?k); (case q0 => walk_at "pk"); (case q1 => walk_at "pf"); (case q2 => walk_at "ln")) | ((with_reducible refine' Dh.g_augE ?k)) | ((with_reducible refine' Dh.g_augF ?q0 ?q1 ?k); (case q0 => walk_at "pk"); (case q1 => walk_at "lk")) | ((with_reducible refine' Dh.g_augV ?q0 ?k); (case q0 => rfl)) | ((with_reducible refine' Dh.g_ipI ?k)) | ((with_reducible refine' Dh.g_rAdd ?k)) | ((with_reducible refine' Dh.g_rSub ?k)) | ((with_reducible refine' Dh.g_for ?k)) | ((with_reducible refine' Dh.g_iRng1 ?k)) | ((with_reducible refine' Dh.g_iRng2 ?k)) | ((with_reducible refine' Dh.g_rng1 ?q0 ?q1 ?k); (case q0 => walk_at "side"); (case q1 => walk_at "side")) | ((with_reducible refine' Dh.g_rng2 ?q0 ?k); (case q0 => walk_at "side")) | ((with_reducible refine' Dh.g_iSeqE ?k)) | ((with_reducible refine' Dh.g_iSeqL ?q0 ?k); (case q0 => walk_at "pk")) | ((with_reducible refine' Dh.g_iSeqT ?q0 ?k); (case q0 => walk_at "pk")) | ((with_reducible refine' Dh.g_wbody ?k)) | ((with_reducible refine' Dh.g_lcE ?k)) | ((with_reducible refine' Dh.g_turn ?k)) | ((with_reducible refine' Dh.g_tYes ?k)) | ((with_reducible refine' Dh.g_rs ?k)) | ((with_reducible refine' Dh.g_rsW ?k)))
local macro_rules | `(tactic| walk_at "vcp6") => `(tactic| first | ((with_reducible refine' Dh.g_told ?k)) | ((with_reducible refine' Dh.g_ifT ?q0 ?k); (case q0 => rfl)) | ((with_reducible refine' Dh.g_ifF ?q0 ?k); (case q0 => rfl)))
local macro_rules | `(tactic| walk_at "vc1") => `(tactic| first | walk_at "vcp0" | walk_at "vcp1" | walk_at "vcp2" | walk_at "vcp3" | walk_at "vcp4" | walk_at "vcp5" | walk_at "vcp6")
local macro_rules | `(tactic| walk_at "vc") => `(tactic| repeat walk_at "vc1")
local macro_rules | `(tactic| walk_at "spl") => `(tactic| first | ((with_reducible refine Dh.g_ifD ?_ ?_) <;> intro _) | ((with_reducible refine Dh.g_ifN ?_ ?_) <;> intro _) | ((with_reducible refine Dh.g_if ?_ ?_) <;> intro _))
local macro_rules | `(tactic| walk_at "vcs") => `(tactic| repeat' (first | walk_at "vc1" | walk_at "spl"))
namespace Toy
open PySem L2
section
variable {P : Program} {w : World} {K : PySem.W.Frag} {mg : Str → Option Value} {base : Heap} {T : List (Addr × Str)} {C_Ring C_Queue C_Pipe C_BadWord C_BadPlace C_BadPlan C_NotDue C_Stuck C_BadBits C_BadText C_TooLarge g_told : Addr}
def sg_law_pipe (T : List (Addr × Str)) (K : PySem.W.Frag) (C_Ring C_Queue C_Pipe C_BadWord C_BadPlace C_BadPlan C_NotDue C_Stuck C_BadBits C_BadText C_TooLarge g_told : Addr) : Dh.SG :=
  fun vs L Q E => ∃ (d : Addr) (R : List Dh.HP), vs = [.ref d] ∧ Dh.Ent L (DiceAt d :: R) ∧ Dh.Go T (DiceAt d :: R) fun H => Q (.bl true) H
def upTo (nt : Int) (i : Nat) : List Int := (List.range i).map fun j : Nat => nt + (j : Int)
theorem upTo_len {nt : Int} {i : Nat} : (upTo nt i).length = i := by simp [upTo]
theorem upTo_succ {nt : Int} {i : Nat} : upTo nt (i + 1) = upTo nt i ++ [nt + (i : Int)] := by simp [upTo, List.range_succ]
set_option maxHeartbeats 8000000 in
theorem ok_law_pipe (Z : Txt K mg C_Ring C_Queue C_Pipe C_BadWord C_BadPlace C_BadPlan C_NotDue C_Stuck C_BadBits C_BadText C_TooLarge g_told) (c_Pipe : Dh.MakX P w K mg base 1 "Pipe" C_Pipe (Dh.sOfN T 2 (sg_Pipe___init__ T K C_Ring C_Queue C_Pipe C_BadWord C_BadPlace C_BadPlan C_NotDue C_Stuck C_BadBits C_BadText C_TooLarge g_told))) (c_Pipe_get : Dh.MetX P w K mg base 2 C_Pipe "get" (Dh.sOfN T 2 (sg_Pipe_get T K C_Ring C_Queue C_Pipe C_BadWord C_BadPlace C_BadPlan C_NotDue C_Stuck C_BadBits C_BadText C_TooLarge g_told))) (c_Pipe_lying : Dh.MetX P w K mg base 1 C_Pipe "lying" (Dh.sOfN T 1 (sg_Pipe_lying T K C_Ring C_Queue C_Pipe C_BadWord C_BadPlace C_BadPlan C_NotDue C_Stuck C_BadBits C_BadText C_TooLarge g_told))) (c_Pipe_put : Dh.MetX P w K mg base 2 C_Pipe "put" (Dh.sOfN T 2 (sg_Pipe_put T K C_Ring C_Queue C_Pipe C_BadWord C_BadPlace C_BadPlan C_NotDue C_Stuck C_BadBits C_BadText C_TooLarge g_told))) (c_law_roll : Dh.CalX P w K mg base 1 "_law_roll" (Dh.sOfN T 2 (sg_law_roll T K C_Ring C_Queue C_Pipe C_BadWord C_BadPlace C_BadPlan C_NotDue C_Stuck C_BadBits C_BadText C_TooLarge g_told))) {f : Addr} {fd : FuncData} {cdv : Value} (F : Dh.FunC K "_law_pipe" "_law_pipe" s_law_pipe f fd cdv) :
    FnOk P w K mg base (L2.CX P w) 3 f fd ["dice"] (Dh.sOfN T 1 (sg_law_pipe T K C_Ring C_Queue C_Pipe C_BadWord C_BadPlace C_BadPlan C_NotDue C_Stuck C_BadBits C_BadText C_TooLarge g_told)) := by
  refine Dh.fnX (k := 2) F sc_law_pipe rfl (fun A outer s H0 L vs Q E hr hl h => ?_)
  refine ⟨_, (pss_cons (ps_set (i := 1) sc_law_pipe.nd rfl (by first | exact Or.inl rfl | exact Or.inr rfl) (pe_op (Dh.oAdd (K := K) rfl) pe_int (Dh.pe_cal c_law_roll hr (by decide) (passes_call (takes_of rfl rfl rfl rfl) (fun _ _ _ _ h => h)) rfl (pa_cons (pv 0) (pa_cons pe_int pa_nil)))))
    (pss_cons (ps_asg (pe_tup (pa_cons (Dh.pe_mak c_Pipe hr (by decide) (passes_call (takes_of rfl rfl rfl rfl) (fun _ _ _ _ h => h)) rfl (pa_cons (pv 1) pa_nil)) (pa_cons (pe_lst pa_nil) (pa_cons pe_int pa_nil)))) (Dh.pgTup (K := K) rfl rfl (pgs_cons (pg_name (i := 2) sc_law_pipe.nd rfl (by first | exact Or.inl rfl | exact Or.inr rfl)) (pgs_cons (pg_name (i := 3) sc_law_pipe.nd rfl (by first | exact Or.inl rfl | exact Or.inr rfl)) (pgs_cons (pg_name (i := 4) sc_law_pipe.nd rfl (by first | exact Or.inl rfl | exact Or.inr rfl)) pgs_nil))) rfl rfl))
    (pss_cons (ps_for (passes_of rfl) rfl (pi_range1 rfl Z.b_range (pa_cons pe_int pa_nil)) (pg_name (i := 5) sc_law_pipe.nd rfl (by first | exact Or.inl rfl | exact Or.inr rfl))
    (pss_cons (ps_set (i := 6) sc_law_pipe.nd rfl (by first | exact Or.inl rfl | exact Or.inr rfl) (Dh.pe_cal c_law_roll hr (by decide) (passes_call (takes_of rfl rfl rfl rfl) (fun _ _ _ _ h => h)) rfl (pa_cons (pv 0) (pa_cons pe_int pa_nil))))
    (pss_cons (ps_if (pt_cmpR (Dh.oEq (K := K) rfl hr.units) (Dh.pe_cal c_law_roll hr (by decide) (passes_call (takes_of rfl rfl rfl rfl) (fun _ _ _ _ h => h)) rfl (pa_cons (pv 0) (pa_cons pe_int pa_nil))) pe_int (nomark _))
    (pss_cons (ps_setLc (i := 7) (own := [("k", 8)]) (g := (gName 8)) (tt := tYes) rfl sc_law_pipe.nd rfl rfl (sw_true rfl rfl rfl (by decide +kernel)) (pi_range1 rfl Z.b_range (pa_cons (pv 6) pa_nil)) (blkOk_by (own := [("k", 8)]) (N := N_law_pipe) (by kernel_rfl)) (fun _ _ _ _ _ => (pg_name (i := 8) sc_law_pipe.nd rfl (by first | exact Or.inl rfl | exact Or.inr rfl))) (fun _ _ _ _ _ => pts_nil) (fun _ _ _ _ _ => (pe_op (Dh.oAdd (K := K) rfl) (pv 4) (pv 8))))
    (pss_cons (ps_if (pt_cmpR (Dh.oNe (K := K) rfl hr.units) (Dh.pe_met c_Pipe_put hr (by decide) (passes_call (takes_of rfl rfl rfl rfl) (fun _ _ _ _ h => h)) (pv 2) (pa_cons (pv 7) pa_nil)) (pe_callB (Dh.call_min2X rfl) (by rfl) Z.b_min (by first | exact PySem.boot_min | exact PyProof.Rows.boot_min | decide +kernel) (pa_cons (pv 6) (pa_cons (pe_op op_sub (pe_op op_sub (pv 1) pe_int) (pe_callB (Dh.cLen (K := K) rfl) (by rfl) Z.b_len (by first | exact PySem.boot_len | exact PyProof.Rows.boot_len | decide +kernel) (pa_cons (pv 3) pa_nil))) pa_nil))) (nomark _))
    (pss_one (ps_ret pe_bl))
    pss_nil)
    (pss_one (ps_asg (pe_tup (pa_cons (pe_op (Dh.oAdd (K := K) rfl) (pv 3) (pe_slice (Dh.slSeq (K := K) rfl) (pv 7) po_none (po_some (pe_op op_sub (pe_op op_sub (pv 1) pe_int) (pe_callB (Dh.cLen (K := K) rfl) (by rfl) Z.b_len (by first | exact PySem.boot_len | exact PyProof.Rows.boot_len | decide +kernel) (pa_cons (pv 3) pa_nil)))))) (pa_cons (pe_op (Dh.oAdd (K := K) rfl) (pv 4) (pe_callB (Dh.call_min2X rfl) (by rfl) Z.b_min (by first | exact PySem.boot_min | exact PyProof.Rows.boot_min | decide +kernel) (pa_cons (pv 6) (pa_cons (pe_op op_sub (pe_op op_sub (pv 1) pe_int) (pe_callB (Dh.cLen (K := K) rfl) (by rfl) Z.b_len (by first | exact PySem.boot_len | exact PyProof.Rows.boot_len | decide +kernel) (pa_cons (pv 3) pa_nil))) pa_nil)))) pa_nil))) (Dh.pgTup (K := K) rfl rfl (pgs_cons (pg_name (i := 3) sc_law_pipe.nd rfl (by first | exact Or.inl rfl | exact Or.inr rfl)) (pgs_cons (pg_name (i := 4) sc_law_pipe.nd rfl (by first | exact Or.inl rfl | exact Or.inr rfl)) pgs_nil)) rfl rfl)))))
    (pss_cons (ps_if (pt_cmpR (Dh.oNe (K := K) rfl hr.units) (pe_callTy (Dh.cList (K := K) rfl) (by rfl) Z.b_list (by first | exact PySem.boot_list | exact PyProof.Rows.boot_list | decide +kernel) (pa_cons (Dh.pe_met c_Pipe_get hr (by decide) (passes_call (takes_of rfl rfl rfl rfl) (fun _ _ _ _ h => h)) (pv 2) (pa_cons (pv 6) pa_nil)) pa_nil)) (pe_slice (Dh.slSeq (K := K) rfl) (pv 3) po_none (po_some (pv 6))) (nomark _))
    (pss_one (ps_ret pe_bl))
    pss_nil)
    (pss_one (ps_set (i := 3) sc_law_pipe.nd rfl (by first | exact Or.inl rfl | exact Or.inr rfl) (pe_slice (Dh.slSeq (K := K) rfl) (pv 3) (po_some (pv 6)) po_none)))))
    (pss_one (ps_if (pt_cmpR (Dh.oNe (K := K) rfl hr.units) (Dh.pe_met0 c_Pipe_lying hr (by decide) (passes_call (takes_of rfl rfl rfl rfl) (fun _ _ _ _ h => h)) (pv 2)) (pe_callB (Dh.cLen (K := K) rfl) (by rfl) Z.b_len (by first | exact PySem.boot_len | exact PyProof.Rows.boot_len | decide +kernel) (pa_cons (pv 3) pa_nil)) (nomark _))
    (pss_one (ps_ret pe_bl))
    pss_nil)))))
    (pss_one (ps_ret pe_bl))))), ?_⟩
  try dsimp only [L2.cxOf, L2.Cx.blk, LamX.lamCx, L2.Cx.tr]
  obtain ⟨d, R, rfl, hE, k⟩ := h
  refine Dh.Go.ent hE ?_
  walk_at "vc"
  refine' Dh.g_sp rfl ⟨d, 4, _, rfl, ?e1, by decide, by decide, fun r h0 h1 => ?k1⟩
  (case e1 => walk_at "ent")
  obtain ⟨r, rfl⟩ : ∃ r' : Nat, r = (r' : Int) := ⟨r.toNat, by omega⟩
  walk_at "vc"
  refine' Dh.g_sp rfl ⟨_, 2 + (r : Int), _, rfl, ?e2, by omega, fun h => absurd h (by omega), fun n hn hn1 => ?k2⟩
  (case e2 => walk_at "ent")
  walk_at "vc"
  rw [hn]
  rename_i x h0 _
  refine Dh.g_forR (n := 8) (lo := 0) (fun i σ L => ∃ (h : Addr) (S : List Int) (nt : Int) (v5 v6 v7 : Option V), σ = [some (.ref d), some (.int n), some (.ref x), some (.ref h), some (.int nt), v5, v6, v7, none] ∧ Dh.Ent L (Dh.pt h (.lst (S.map .int)) :: PipeAt C_Pipe x n S :: DiceAt d :: R)) ⟨h0, [], 0, none, none, none, rfl, ?e3⟩ ?hs ?hd
  case e3 =>
    rw [show ([] : List V) = ([] : List Int).map V.int from rfl]
    walk_at "ent"
  case hd =>
    rintro σ L ⟨h, S, nt, v5, v6, v7, rfl, hE⟩
    refine Dh.Go.ent hE ?_
    walk_at "vc"
    refine' Dh.Go.ent ?e9 k
    (case e9 => walk_at "ent")
  case hs =>
    rintro i σ L hi ⟨h, S, nt, v5, v6, v7, rfl, hE⟩
    refine Dh.Go.ent hE ?_
    walk_at "vc"
    refine' Dh.g_sp rfl ⟨d, 5, _, rfl, ?a1, by decide, by decide, fun q q0 q1 => ?a2⟩
    (case a1 => walk_at "ent")
    obtain ⟨q, rfl⟩ : ∃ r' : Nat, q = (r' : Int) := ⟨q.toNat, by omega⟩
    walk_at "vc"
    refine' Dh.g_sp rfl ⟨d, 2, _, rfl, ?b1, by decide, by decide, fun b b0 b1 => ?b2⟩
    (case b1 => walk_at "ent")
    walk_at "vcs"
    · refine Dh.g_lcR (n := q) (lo := 0) (fun i acc L => acc = (upTo nt i).map .int ∧ Dh.Ent L (Dh.pt h (.lst (S.map .int)) :: PipeAt C_Pipe x n S :: DiceAt d :: R)) ⟨by simp [upTo], ?l1⟩ ?l2 ?l3
      (case l1 => walk_at "ent")
      case l2 =>
        rintro D j acc L hj ⟨rfl, hE⟩
        refine Dh.g_turn (Dh.g_name (Dh.g_and rfl ?_))
        walk_at "vc"
        refine Dh.g_lcAdd Dh.pick_here (by rw [List.length_map, upTo_len, PySem.sizeLine_eq]; omega) ⟨?_, hE⟩
        rw [upTo_succ, List.map_append, Int.zero_add]
        rfl
      case l3 =>
        rintro D acc L ⟨rfl, hE⟩
        refine Dh.Go.ent (Dh.ent_tail hE) ?_
        walk_at "vc"
        refine' Dh.g_sp rfl ⟨x, D, n, S, upTo nt q, _, rfl, ?c1, fun m hm hlt => ?c2⟩
        (case c1 => walk_at "ent")
        rw [upTo_len] at hm
        walk_at "vc"
        refine Dh.g_ifF ?cf ?_
        case cf =>
          rw [Bool.not_eq_false', decide_eq_true_eq, V.int.injEq, List.length_map]
          split <;> omega
        walk_at "vc"
        have e2 : cutV ((upTo nt q).map V.int) none (some ((n : Int) - 1 - ((S.map V.int).length : Int))) = ((upTo nt q).take m).map V.int := by
          rw [List.length_map, show (n : Int) - 1 - (S.length : Int) = ((n - 1 - S.length : Nat) : Int) by omega, Dh.cut_take, List.map_take, hm, ← List.map_take, ← List.map_take]
          congr 1
          rw [← List.take_take, List.take_of_length_le (show (List.take (n - 1 - S.length) (upTo nt q)).length ≤ q by rw [List.length_take, upTo_len]; omega)]
        rw [e2]
        walk_at "vc"
        refine' Dh.g_sp rfl ⟨x, n, S ++ (upTo nt q).take m, _, rfl, ?f1, fun _ => ?f2⟩
        (case f1 => walk_at "ent")
        walk_at "vc"
        refine Dh.g_ifF (by rw [List.length_map]; simp) ?_
        walk_at "vc"
        refine Dh.SI.in ⟨_, S ++ (upTo nt q).take m, _, _, _, _, rfl, ?f3⟩
        walk_at "ent"
    · refine' Dh.g_sp rfl ⟨x, n, q, S, _, rfl, ?d1, by omega, fun t => ?d2⟩
      (case d1 => walk_at "ent")
      walk_at "vc"
      refine Dh.g_ifF (by simp) ?_
      walk_at "vc"
      refine' Dh.g_sp rfl ⟨x, n, S.drop q, _, rfl, ?g1, fun _ => ?g2⟩
      (case g1 => walk_at "ent")
      walk_at "vc"
      refine Dh.g_ifF (by rw [List.length_map]; simp) ?_
      walk_at "vc"
      refine Dh.SI.in ⟨_, S.drop q, _, _, _, _, rfl, ?g3⟩
      walk_at "ent"
end
end Toy
end

section
local macro_rules | `(tactic| walk_at "pk") => `(tactic| (with_reducible first | exact Dh.pick_here | (refine' Dh.pick_there ?p; (case p => walk_at "pk"))))
local macro_rules | `(tactic| walk_at "ent") => `(tactic| first | (with_reducible exact Dh.ent_refl) | (with_reducible exact Dh.ent_nil) | (refine' Dh.ent_cons ?q0 ?k; (case q0 => walk_at "pk"); (case k => walk_at "ent")) | (refine' Dh.ent_drop ?k; (case k => walk_at "ent")))
local macro_rules | `(tactic| walk_at "side") => `(tactic| first | omega | decide | (simp only [L2.CMul, L2.CDiv, L2.CDivN]; omega) | (unfold L2.CPow; decide) | (simp only [List.length_cons, List.length_nil, List.length_append, List.length_map, List.length_range, List.length_replicate, List.length_set, List.length_take, List.length_drop, PySem.sizeLine_eq] <;> omega))
local macro_rules | `(tactic| walk_at "ixs") => `(tactic| first | assumption | omega | (simp only [List.length_set, List.length_map, List.length_cons, List.length_nil, List.length_append, List.length_replicate] <;> first | assumption | omega))
local macro_rules | `(tactic| walk_at "lk") => `(tactic| first | rfl | assumption | (exact Dh.ixN_lt (by walk_at "ixs")) | (exact Dh.atI_lt (by assumption))  | with_reducible exact Toy.lk_Ring_rows | with_reducible exact Toy.lk_Ring_by_device | with_reducible exact Toy.lk_Ring_done | with_reducible exact Toy.lk_Ring_fill_at | with_reducible exact Toy.lk_Ring_work_at | with_reducible exact Toy.lk_Ring_reap_at | with_reducible exact Toy.lk_Ring_filled | with_reducible exact Toy.no_Ring_init | with_reducible exact Toy.no_Ring_fill | with_reducible exact Toy.no_Ring_work | with_reducible exact Toy.no_Ring_reap | with_reducible exact Toy.no_Ring_left_room | with_reducible exact Toy.lk_Queue_many | with_reducible exact Toy.lk_Queue_round_at | with_reducible exact Toy.lk_Queue_table | with_reducible exact Toy.lk_Queue_free | with_reducible exact Toy.lk_Queue_given | with_reducible exact Toy.lk_Queue_used | with_reducible exact Toy.lk_Queue_given_count | with_reducible exact Toy.lk_Queue_used_count | with_reducible exact Toy.lk_Queue_device_seen | with_reducible exact Toy.lk_Queue_out | with_reducible exact Toy.lk_Queue_driver_seen | with_reducible exact Toy.no_Queue_init | with_reducible exact Toy.no_Queue_give | with_reducible exact Toy.no_Queue_untaken | with_reducible exact Toy.no_Queue_take | with_reducible exact Toy.no_Queue_use | with_reducible exact Toy.no_Queue_reap | with_reducible exact Toy.no_Queue_needs_call | with_reducible exact Toy.lk_Pipe_cells | with_reducible exact Toy.lk_Pipe_put_at | with_reducible exact Toy.lk_Pipe_get_at | with_reducible exact Toy.no_Pipe_init | with_reducible exact Toy.no_Pipe_lying | with_reducible exact Toy.no_Pipe_put | with_reducible exact Toy.no_Pipe_get)
local macro_rules | `(tactic| walk_at "pf") => `(tactic| first  | with_reducible exact Toy.pf_Ring_rows | with_reducible exact Toy.pf_Ring_by_device | with_reducible exact Toy.pf_Ring_done | with_reducible exact Toy.pf_Ring_fill_at | with_reducible exact Toy.pf_Ring_work_at | with_reducible exact Toy.pf_Ring_reap_at | with_reducible exact Toy.pf_Ring_filled | with_reducible exact Toy.gr_Ring_rows | with_reducible exact Toy.gr_Ring_by_device | with_reducible exact Toy.gr_Ring_done | with_reducible exact Toy.gr_Ring_fill_at | with_reducible exact Toy.gr_Ring_work_at | with_reducible exact Toy.gr_Ring_reap_at | with_reducible exact Toy.gr_Ring_filled | with_reducible exact Toy.pf_Queue_many | with_reducible exact Toy.pf_Queue_round_at | with_reducible exact Toy.pf_Queue_table | with_reducible exact Toy.pf_Queue_free | with_reducible exact Toy.pf_Queue_given | with_reducible exact Toy.pf_Queue_used | with_reducible exact Toy.pf_Queue_given_count | with_reducible exact Toy.pf_Queue_used_count | with_reducible exact Toy.pf_Queue_device_seen | with_reducible exact Toy.pf_Queue_out | with_reducible exact Toy.pf_Queue_driver_seen | with_reducible exact Toy.gr_Queue_many | with_reducible exact Toy.gr_Queue_round_at | with_reducible exact Toy.gr_Queue_table | with_reducible exact Toy.gr_Queue_free | with_reducible exact Toy.gr_Queue_given | with_reducible exact Toy.gr_Queue_used | with_reducible exact Toy.gr_Queue_given_count | with_reducible exact Toy.gr_Queue_used_count | with_reducible exact Toy.gr_Queue_device_seen | with_reducible exact Toy.gr_Queue_out | with_reducible exact Toy.gr_Queue_driver_seen | with_reducible exact Toy.pf_Pipe_cells | with_reducible exact Toy.pf_Pipe_put_at | with_reducible exact Toy.pf_Pipe_get_at | with_reducible exact Toy.gr_Pipe_cells | with_reducible exact Toy.gr_Pipe_put_at | with_reducible exact Toy.gr_Pipe_get_at | rfl)
local macro_rules | `(tactic| walk_at "ln") => `(tactic| first  | with_reducible exact Toy.ln_Ring | with_reducible exact Toy.ln_Queue | with_reducible exact Toy.ln_Pipe | decide | (simp only [List.length_cons, List.length_nil] <;> omega))
local macro_rules | `(tactic| walk_at "hasm") => `(tactic| first | (refine' Toy.hasM_pipe ?q0 ?q1; (case q0 => walk_at "pk"); (case q1 => (intros; walk_at "lk"))) | (refine' Toy.hasM_queue ?q0 ?q1; (case q0 => walk_at "pk"); (case q1 => (intros; walk_at "lk"))) | (refine' Dh.hasM_ob ?q0 ?q1; (case q0 => walk_at "pk"); (case q1 => walk_at "lk")))
local macro_rules | `(tactic| walk_at "vcp0") => `(tactic| first | ((with_reducible refine' Dh.g_seq ?k)) | ((with_reducible refine' Dh.g_next ?k)) | ((with_reducible refine' Dh.g_nonA ?k)) | ((with_reducible refine' Dh.g_var ?q0 ?k); (case q0 => rfl)) | ((with_reducible refine' Dh.g_c ?k)) | ((with_reducible refine' Dh.g_op ?k)) | ((with_reducible refine' Dh.g_asg ?k)) | ((with_reducible refine' Dh.g_name ?k)) | ((with_reducible refine' Dh.g_ifS ?k)) | ((with_reducible refine' Dh.g_test ?k)) | ((with_reducible refine' Dh.g_isB ?k)) | ((with_reducible refine' Dh.g_B ?k)) | ((with_reducible refine' Dh.g_ret ?k)) | ((with_reducible refine' Dh.g_retN ?k)) | ((with_reducible refine' Dh.g_drop ?k)) | ((with_reducible refine' Dh.g_brk ?k)) | ((with_reducible refine' Dh.g_cont ?k)) | ((with_reducible refine' Dh.g_un ?k)) | ((with_reducible refine' Dh.g_I0 ?k)) | ((with_reducible refine' Dh.g_addI ?k)) | ((with_reducible refine' Dh.g_addB ?k)) | ((with_reducible refine' Dh.g_addS ?q0 ?k); (case q0 => walk_at "side")) | ((with_reducible refine' Dh.g_addM ?q0 ?q1 ?q2 ?k); (case q0 => walk_at "pk"); (case q1 => walk_at "pk"); (case q2 => walk_at "side"); intro _) | ((with_reducible refine' Dh.g_addL ?q0 ?q1 ?q2 ?k); (case q0 => walk_at "pk"); (case q1 => walk_at "pk"); (case q2 => walk_at "side"); intro _))
local macro_rules | `(tactic| walk_at "vcp1") => `(tactic| first | ((with_reducible refine' Dh.g_I ?q0 ?k); (case q0 => walk_at "side")) | ((with_reducible refine' Dh.g_mulI ?q0 ?k); (case q0 => walk_at "side")) | ((with_reducible refine' Dh.g_U ?k)) | ((with_reducible refine' Dh.g_eqS ?q0 ?k); (case q0 => rfl)) | ((with_reducible refine' Dh.g_neS ?q0 ?k); (case q0 => rfl)) | ((with_reducible refine' Dh.g_eqLL ?q0 ?q1 ?k); (case q0 => walk_at "pk"); (case q1 => walk_at "pk")) | ((with_reducible refine' Dh.g_neLL ?q0 ?q1 ?k); (case q0 => walk_at "pk"); (case q1 => walk_at "pk")) | ((with_reducible refine' Dh.g_eqL0 ?q0 ?q1 ?k); (case q0 => walk_at "pk"); (case q1 => walk_at "pk")) | ((with_reducible refine' Dh.g_neL0 ?q0 ?q1 ?k); (case q0 => walk_at "pk"); (case q1 => walk_at "pk")) | ((with_reducible refine' Dh.g_neT0 ?q0 ?q1 ?q2 ?k); (case q0 => walk_at "pk"); (case q1 => walk_at "pk"); (case q2 => walk_at "pk")) | ((with_reducible refine' Dh.g_neP ?q0 ?q1 ?k); (case q0 => walk_at "pk"); (case q1 => walk_at "pk")) | ((with_reducible refine' Dh.g_inI ?q0 ?k); (case q0 => walk_at "pk")) | ((with_reducible refine' Dh.g_isN ?k)) | ((with_reducible refine' Dh.g_notN ?k)) | ((with_reducible refine' Dh.g_ixL ?q0 ?q1 ?k); (case q0 => walk_at "pk"); (case q1 => walk_at "lk")) | ((with_reducible refine' Dh.g_ixT ?q0 ?q1 ?k); (case q0 => walk_at "pk"); (case q1 => walk_at "lk")) | ((with_reducible refine' Dh.g_sl ?k)) | ((with_reducible refine' Dh.g_noPart ?k)) | ((with_reducible refine' Dh.g_part ?k)) | ((with_reducible refine' Dh.g_isSomeInt ?k)) | ((with_reducible refine' Dh.g_slTk ?q0 ?k); (case q0 => walk_at "pk"); intro _) | ((with_reducible refine' Dh.g_slDr ?q0 ?k); (case q0 => walk_at "pk"); intro _) | ((with_reducible refine' Dh.g_slL ?q0 ?k); (case q0 => walk_at "pk"); intro _) | ((with_reducible refine' Dh.g_slQTk ?q0 ?k); (case q0 => walk_at "pk"); intro _))
local macro_rules | `(tactic| walk_at "vcp2") => `(tactic| first | ((with_reducible refine' Dh.g_slQ ?q0 ?k); (case q0 => walk_at "pk"); intro _) | ((with_reducible refine' Dh.g_fldE ?k)) | ((with_reducible refine' Dh.g_fld ?q0 ?q1 ?k); (case q0 => walk_at "pk"); (case q1 => walk_at "lk")) | ((with_reducible refine' Dh.g_tup ?k)) | ((with_reducible refine' Dh.g_lst ?k)) | ((with_reducible refine' Dh.g_newT ?q0 ?k); (case q0 => walk_at "side"); intro _) | ((with_reducible refine' Dh.g_newL ?q0 ?k); (case q0 => walk_at "side"); intro _) | ((with_reducible refine' Dh.g_nil ?k)) | ((with_reducible refine' Dh.g_cons ?k)) | ((with_reducible refine' Dh.g_call ?k)) | ((with_reducible refine' Dh.g_methE ?k)) | ((with_reducible refine' Dh.g_meth ?q0 ?k); (case q0 => walk_at "hasm")) | ((with_reducible refine' Dh.g_make ?k)) | ((with_reducible refine' Dh.g_made ?k); intro _) | ((with_reducible refine' Dh.g_cb ?k)) | ((with_reducible refine' Dh.g_int ?k)) | ((with_reducible refine' Dh.g_intB ?k)) | ((with_reducible refine' Dh.g_abs ?k)) | ((with_reducible refine' Dh.g_max2 ?k)) | ((with_reducible refine' Dh.g_min2 ?k)) | ((with_reducible refine' Dh.g_strI ?q0 ?k); (case q0 => walk_at "side")) | ((with_reducible refine' Dh.g_lenL ?q0 ?k); (case q0 => walk_at "pk")) | ((with_reducible refine' Dh.g_lenT ?q0 ?k); (case q0 => walk_at "pk")) | ((with_reducible refine' Dh.g_lenD ?q0 ?k); (case q0 => walk_at "pk")))
local macro_rules | `(tactic| walk_at "vcp3") => `(tactic| first | ((with_reducible refine' Dh.g_listL ?q0 ?k); (case q0 => walk_at "pk"); intro _) | ((with_reducible refine' Dh.g_listT ?q0 ?k); (case q0 => walk_at "pk"); intro _) | ((with_reducible refine' Dh.g_tupL ?q0 ?k); (case q0 => walk_at "pk"); intro _) | ((with_reducible refine' Dh.g_tupT ?q0 ?k); (case q0 => walk_at "pk")) | ((with_reducible refine' Dh.g_pop0 ?q0 ?k); (case q0 => walk_at "pk")) | ((with_reducible refine' Dh.g_bm ?k)) | ((with_reducible refine' Dh.g_bm0 ?k)) | ((with_reducible refine' Dh.g_tyL ?q0 ?k); (case q0 => walk_at "pk")) | ((with_reducible refine' Dh.g_append ?q0 ?q1 ?k); (case q0 => walk_at "pk"); (case q1 => walk_at "side")) | ((with_reducible refine' Dh.g_rep ?q0 ?q1 ?q2 ?q3 ?k); (case q0 => walk_at "pk"); (case q1 => walk_at "side"); (case q2 => walk_at "side"); (case q3 => walk_at "side"); intro _) | ((with_reducible refine' Dh.g_not ?k)) | ((with_reducible refine' Dh.g_tand ?k)) | ((with_reducible refine' Dh.g_tor ?k)) | ((with_reducible refine' Dh.g_andV ?k)) | ((with_reducible refine' Dh.g_orV ?k)) | ((with_reducible refine' Dh.g_notV ?k)) | ((with_reducible refine' Dh.g_ifE ?k)) | ((with_reducible refine' Dh.g_chain ?k)) | ((with_reducible refine' Dh.g_tru ?k)) | ((with_reducible refine' Dh.g_truB ?k)) | ((with_reducible refine' Dh.g_truI ?k)) | ((with_reducible refine' Dh.g_truN ?k)) | ((with_reducible refine' Dh.g_truL ?q0 ?k); (case q0 => walk_at "pk")) | ((with_reducible refine' Dh.g_gsub ?k)))
local macro_rules | `(tactic| walk_at "vcp4") => `(tactic| first | ((with_reducible refine' Dh.g_setL ?q0 ?q1 ?k); (case q0 => walk_at "pk"); (case q1 => walk_at "lk")) | ((with_reducible refine' Dh.g_gtup ?q0 ?q1 ?k); (case q0 => walk_at "pk"); (case q1 => rfl)) | ((with_reducible refine' Dh.g_gnil ?k)) | ((with_reducible refine' Dh.g_gcons ?k)) | ((with_reducible refine' Dh.g_par ?k)) | ((with_reducible refine' Dh.g_par2 ?k)) | ((with_reducible refine' Dh.g_par3 ?k)) | ((with_reducible refine' Dh.g_par3b ?k)) | ((with_reducible refine' Dh.g_listRg ?k)) | ((with_reducible refine' Dh.g_rg1E ?k)) | ((with_reducible refine' Dh.g_rg1 ?k)) | ((with_reducible refine' Dh.g_rgN ?q0 ?k); (case q0 => walk_at "side"); intro _) | ((with_reducible refine' Dh.g_rgL ?q0 ?k); (case q0 => walk_at "side"); intro _) | ((with_reducible refine' Dh.g_dinE ?k)) | ((with_reducible refine' Dh.g_dinI ?q0 ?k); (case q0 => walk_at "pk")) | ((with_reducible refine' Dh.g_dnotinE ?k)) | ((with_reducible refine' Dh.g_dnotinI ?q0 ?k); (case q0 => walk_at "pk")) | ((with_reducible refine' Dh.g_dgetE ?k)) | ((with_reducible refine' Dh.g_dgetI ?q0 ?q1 ?k); (case q0 => walk_at "pk"); (case q1 => walk_at "lk")) | ((with_reducible refine' Dh.g_dputE ?k)) | ((with_reducible refine' Dh.g_dputI ?q0 ?q1 ?k); (case q0 => walk_at "pk"); (case q1 => walk_at "side")) | ((with_reducible refine' Dh.g_dpopE ?k)) | ((with_reducible refine' Dh.g_dpopA ?q0 ?k); (case q0 => walk_at "pk")) | ((with_reducible refine' Dh.g_dpopB ?q0 ?q1 ?k); (case q0 => walk_at "pk"); (case q1 => walk_at "lk")))
local macro_rules | `(tactic| walk_at "vcp5") => `(tactic| first | ((with_reducible refine' Dh.g_dnew ?k); intro _) | ((with_reducible refine' Dh.g_ipMul ?q0 ?k); (case q0 => walk_at "side")) | ((with_reducible refine' Dh.g_sfldE ?k)) | ((with_reducible refine' Dh.g_sfld ?q0 ?q1 ?q2 ?k); (case q0 => walk_at "pk"); (case q1 => walk_at "pf"); (case q2 => walk_at "ln")) | ((with_reducible refine' Dh.g_augE ?k)) | ((with_reducible refine' Dh.g_augF ?q0 ?q1 ?k); (case q0 => walk_at "pk"); (case q1 => walk_at "lk")) | ((with_reducible refine' Dh.g_augV ?q0 ?k); (case q0 => rfl)) | ((with_reducible refine' Dh.g_ipI ?k)) | ((with_reducible refine' Dh.g_rAdd ?k)) | ((with_reducible refine' Dh.g_rSub ?k)) | ((with_reducible refine' Dh.g_for ?k)) | ((with_reducible refine' Dh.g_iRng1 ?k)) | ((with_reducible refine' Dh.g_iRng2 ?k)) | ((with_reducible refine' Dh.g_rng1 ?q0 ?q1 ?k); (case q0 => walk_at "side"); (case q1 => walk_at "side")) | ((with_reducible refine' Dh.g_rng2 ?q0 ?k); (case q0 => walk_at "side")) | ((with_reducible refine' Dh.g_iSeqE ?k)) | ((with_reducible refine' Dh.g_iSeqL ?q0 ?k); (case q0 => walk_at "pk")) | ((with_reducible refine' Dh.g_iSeqT ?q0 ?k); (case q0 => walk_at "pk")) | ((with_reducible refine' Dh.g_wbody ?k)) | ((with_reducible refine' Dh.g_lcE ?k)) | ((with_reducible refine' Dh.g_turn ?k)) | ((with_reducible refine' Dh.g_tYes ?k)) | ((with_reducible refine' Dh.g_rs ?k)) | ((with_reducible refine' Dh.g_rsW ?k)))
local macro_rules | `(tactic| walk_at "vcp6") => `(tactic| first | ((with_reducible refine' Dh.g_told ?k)) | ((with_reducible refine' Dh.g_ifT ?q0 ?k); (case q0 => rfl)) | ((with_reducible refine' Dh.g_ifF ?q0 ?k); (case q0 => rfl)))
local macro_rules | `(tactic| walk_at "vc1") => `(tactic| first | walk_at "vcp0" | walk_at "vcp1" | walk_at "vcp2" | walk_at "vcp3" | walk_at "vcp4" | walk_at "vcp5" | walk_at "vcp6")
local macro_rules | `(tactic| walk_at "vc") => `(tactic| repeat walk_at "vc1")
local macro_rules | `(tactic| walk_at "spl") => `(tactic| first | ((with_reducible refine Dh.g_ifD ?_ ?_) <;> intro _) | ((with_reducible refine Dh.g_ifN ?_ ?_) <;> intro _) | ((with_reducible refine Dh.g_if ?_ ?_) <;> intro _))
local macro_rules | `(tactic| walk_at "vcs") => `(tactic| repeat' (first | walk_at "vc1" | walk_at "spl"))
namespace Toy
open PySem L2
section
variable {P : Program} {w : World} {K : PySem.W.Frag} {mg : Str → Option Value} {base : Heap} {T : List (Addr × Str)} {C_Ring C_Queue C_Pipe C_BadWord C_BadPlace C_BadPlan C_NotDue C_Stuck C_BadBits C_BadText C_TooLarge g_told : Addr}
def p2 (x : Int × Int) : List Int := [x.1, x.2]
def p3 (u : Int × Int × Int) : List Int := [u.1, u.2.1, u.2.2]
theorem go_queueLen {C p : Addr} {n : Nat} {G Tk : List (Int × Int)} {U : List (Int × Int × Int)} {L A : List Dh.HP} {P : Hp → Prop} (pk : Dh.Pick L (QueueAt C p n G Tk U) A)
    (g : 0 < n → G.length + (Tk.length + U.length) ≤ n → (∀ x ∈ Tk.map (·.1), x < (n : Int)) → (Tk.map (·.1)).Nodup → Dh.Go T L P) : Dh.Go T L P := fun H t s => by
  obtain ⟨h1, s1, r1, r2, r3, r4, r5, F, tb, gv, us, uv, gc, uc, dsv, drv, ds, dr, ok, ss⟩ := (pk H s).head
  refine g ok.hn (by have := ok.len; omega) (fun x hx => ?_) (List.nodup_append.mp (List.nodup_append.mp (List.nodup_append.mp ok.nd).2.1).2.1).1 H t s
  obtain ⟨m, rfl, hm⟩ := ok.ran (List.mem_append_right _ (List.mem_append_right _ (List.mem_append_left _ hx)))
  omega
theorem atI_zero {xs : List V} {v : V} (h : xs[0]? = some v) : atI xs 0 = some v := Dh.atI_lt (k := 0) h
theorem cut_d1 {xs : List V} : cutV xs (some 1) none = xs.drop 1 := Dh.cut_drop (m := 1)
theorem cut_t1 {xs : List V} : cutV xs none (some 1) = xs.take 1 := Dh.cut_take (m := 1)
def hd (ms : List Int) : Int := ms.headD 0
theorem firsts {c : Addr} {v0 v1 v2 v3 v4 v5 v6 v7 v8 v9 v10 v11 v12 v13 v14 v15 : Option V} {vs : List V} {ts : List (List Int)} {R : List Dh.HP} {Q : VK} (hne : ∀ t ∈ ts, t ≠ []) (hlen : ts.length ≤ 1000)
    (k : ∀ D, Dh.Go T (Dh.pt D (.lst ((ts.map hd).map .int)) :: Dh.pt c (.lst vs) :: Dh.tps vs ts :: R) fun H => Q (.ref D) H) :
    Dh.Go T (Dh.pt c (.lst vs) :: Dh.tps vs ts :: R) fun H => Dh.LcG (Itl K c) (gName 16) tYes (tOp (Dh.rIxX K) (tVar 16) (tC (V.int 0))) [16] [v0, v1, v2, v3, v4, v5, v6, v7, v8, v9, v10, v11, v12, v13, v14, v15, none] Q H := by
  refine Dh.go_tpsLen (Dh.pick_there Dh.pick_here) fun hl => ?_
  refine Dh.g_lcL (xs := vs) (fun i acc L => acc = ((ts.take i).map hd).map .int ∧ Dh.Ent L (Dh.pt c (.lst vs) :: Dh.tps vs ts :: R)) ⟨by simp, Dh.ent_refl⟩ ?_ ?_ ?_
  · rintro i acc L ⟨rfl, hE⟩
    exact hE.has Dh.pick_here
  · rintro D i x acc L hx ⟨rfl, hE⟩
    have hi := (List.getElem?_eq_some_iff.mp hx).1
    refine Dh.Go.ent (Dh.ent_tail hE) ?_
    obtain ⟨ms, hms⟩ : ∃ ms, ts[i]? = some ms := ⟨_, List.getElem?_eq_getElem (by omega)⟩
    cases ms with
    | nil => exact absurd rfl (hne _ (List.mem_of_getElem? hms))
    | cons m0 mr =>
      refine Dh.go_tpsAt (ms := m0 :: mr) (xs := .int m0 :: mr.map .int) (Dh.pick_there (Dh.pick_there Dh.pick_here)) hms rfl fun t ht => ?_
      obtain rfl : x = .ref t := by rw [hx] at ht; exact Option.some.inj ht
      refine Dh.g_turn (Dh.g_name (Dh.g_and rfl (Dh.g_tYes (Dh.g_ifT rfl ?_))))
      refine Dh.g_op (Dh.g_var rfl (Dh.g_c (Dh.g_ixT Dh.pick_here (atI_zero rfl) ?_)))
      refine Dh.g_lcAdd (Dh.pick_there Dh.pick_here) (by rw [List.length_map, List.length_map, List.length_take, PySem.sizeLine_eq]; omega) ⟨?_, Dh.ent_drop Dh.ent_refl⟩
      rw [List.take_add_one, hms, List.map_append, List.map_append]
      rfl
  · rintro D acc L ⟨rfl, hE⟩
    rw [hl, List.take_length]
    exact Dh.Go.ent (Dh.ent_tail hE) (k D)
theorem calls_eq {n s : Nat} {uc m b : Int} (hn : 0 < n) (hs : s ≤ n) (hm0 : 0 ≤ m) (hm : m < 2 * (n : Int)) (hb : b = (uc - s) % (2 * (n : Int))) :
    decide ((uc - m - 1) % (2 * (n : Int)) < (uc - b) % (2 * (n : Int))) = decide (m ∈ (List.range s).map fun k : Nat => (b + (k : Int)) % (2 * (n : Int))) := by
  generalize hr : 2 * (n : Int) = r at *
  have hq := Int.emod_add_mul_ediv (uc - s) r
  rw [← hb] at hq
  generalize (uc - s) / r = q at hq
  have e1 : (uc - b) % r = s := by
    rw [show uc - b = (s : Int) + r * q by omega, Int.add_mul_emod_self_left, Int.emod_eq_of_lt (by omega) (by omega)]
  rw [e1]
  refine decide_eq_decide.mpr ⟨fun h => ?_, fun h => ?_⟩
  · have hj := Int.emod_add_mul_ediv (uc - m - 1) r
    have hj0 := Int.emod_nonneg (uc - m - 1) (show r ≠ 0 by omega)
    generalize (uc - m - 1) % r = j at *
    generalize (uc - m - 1) / r = q2 at *
    refine List.mem_map.mpr ⟨(s - 1 - j).toNat, List.mem_range.mpr (by omega), ?_⟩
    have e : b + (((s - 1 - j).toNat : Nat) : Int) = m + r * (q2 - q) := by rw [Int.mul_sub]; omega
    rw [e, Int.add_mul_emod_self_left, Int.emod_eq_of_lt hm0 hm]
  · obtain ⟨k, hk, rfl⟩ := List.mem_map.mp h
    have hk' := List.mem_range.mp hk
    have hj := Int.emod_add_mul_ediv (b + (k : Int)) r
    generalize (b + (k : Int)) % r = m' at *
    generalize (b + (k : Int)) / r = q2 at *
    have e : uc - m' - 1 = ((s : Int) - k - 1) + r * (q + q2) := by rw [Int.mul_add]; omega
    rw [e, Int.add_mul_emod_self_left, Int.emod_eq_of_lt (by omega) (by omega)]
    omega
def QInv (C d qa : Addr) (n : Nat) (R : List Dh.HP) : Nat → Dh.SI := fun i σ L => ∃ (ga ta ua da : Addr) (G Tk : List (Int × Int)) (U : List (Int × Int × Int)) (gv tv uv dv : List V) (ct : Int) (v8 v9 v10 v11 v12 : Option V),
  σ = [some (.ref d), some (.int n), some (.ref qa), some (.ref ga), some (.ref ta), some (.ref ua), some (.ref da), some (.int ct), v8, v9, v10, v11, v12, none, none, none, none] ∧ dv.length ≤ i ∧
  Dh.Ent L (Dh.pt ga (.lst gv) :: Dh.pt ta (.lst tv) :: Dh.pt ua (.lst uv) :: Dh.pt da (.lst dv) :: Dh.tps gv (G.map p2) :: Dh.tps tv (Tk.map p2) :: Dh.tps uv (U.map p3) :: QueueAt C qa n G Tk U :: DiceAt d :: R)
def sg_law_queue (T : List (Addr × Str)) (K : PySem.W.Frag) (C_Ring C_Queue C_Pipe C_BadWord C_BadPlace C_BadPlan C_NotDue C_Stuck C_BadBits C_BadText C_TooLarge g_told : Addr) : Dh.SG :=
  fun vs L Q E => ∃ (d : Addr) (R : List Dh.HP), vs = [.ref d] ∧ Dh.Ent L (DiceAt d :: R) ∧ Dh.Go T (DiceAt d :: R) fun H => Q (.bl true) H
set_option maxHeartbeats 8000000 in
theorem ok_law_queue (Z : Txt K mg C_Ring C_Queue C_Pipe C_BadWord C_BadPlace C_BadPlan C_NotDue C_Stuck C_BadBits C_BadText C_TooLarge g_told) (c_Queue : Dh.MakX P w K mg base 1 "Queue" C_Queue (Dh.sOfN T 3 (sg_Queue___init__ T K C_Ring C_Queue C_Pipe C_BadWord C_BadPlace C_BadPlan C_NotDue C_Stuck C_BadBits C_BadText C_TooLarge g_told))) (c_Queue_give : Dh.MetX P w K mg base 1 C_Queue "give" (Dh.sOfN T 2 (sg_Queue_give T K C_Ring C_Queue C_Pipe C_BadWord C_BadPlace C_BadPlan C_NotDue C_Stuck C_BadBits C_BadText C_TooLarge g_told))) (c_Queue_needs_call : Dh.MetX P w K mg base 1 C_Queue "needs_call" (Dh.sOfN T 3 (sg_Queue_needs_call T K C_Ring C_Queue C_Pipe C_BadWord C_BadPlace C_BadPlan C_NotDue C_Stuck C_BadBits C_BadText C_TooLarge g_told))) (c_Queue_reap : Dh.MetX P w K mg base 1 C_Queue "reap" (Dh.sOfN T 1 (sg_Queue_reap T K C_Ring C_Queue C_Pipe C_BadWord C_BadPlace C_BadPlan C_NotDue C_Stuck C_BadBits C_BadText C_TooLarge g_told))) (c_Queue_take : Dh.MetX P w K mg base 2 C_Queue "take" (Dh.sOfN T 1 (sg_Queue_take T K C_Ring C_Queue C_Pipe C_BadWord C_BadPlace C_BadPlan C_NotDue C_Stuck C_BadBits C_BadText C_TooLarge g_told))) (c_Queue_untaken : Dh.MetX P w K mg base 1 C_Queue "untaken" (Dh.sOfN T 1 (sg_Queue_untaken T K C_Ring C_Queue C_Pipe C_BadWord C_BadPlace C_BadPlan C_NotDue C_Stuck C_BadBits C_BadText C_TooLarge g_told))) (c_Queue_use : Dh.MetX P w K mg base 1 C_Queue "use" (Dh.sOfN T 3 (sg_Queue_use T K C_Ring C_Queue C_Pipe C_BadWord C_BadPlace C_BadPlan C_NotDue C_Stuck C_BadBits C_BadText C_TooLarge g_told))) (c_law_roll : Dh.CalX P w K mg base 1 "_law_roll" (Dh.sOfN T 2 (sg_law_roll T K C_Ring C_Queue C_Pipe C_BadWord C_BadPlace C_BadPlan C_NotDue C_Stuck C_BadBits C_BadText C_TooLarge g_told))) {cc PP : Addr} (TB : LamX.TabB base mg cc PP) (hmT : (PP, Dh.lamQ (Dh.locQ "_law_queue")) ∈ T) (huT : ∀ p ∈ T, p.1 = PP → p.2 = Dh.lamQ (Dh.locQ "_law_queue")) {f : Addr} {fd : FuncData} (F : Dh.FunC K "_law_queue" "_law_queue" s_law_queue f fd (.ref cc)) :
    FnOk P w K mg base (L2.CX P w) 5 f fd ["dice"] (Dh.sOfN T 1 (sg_law_queue T K C_Ring C_Queue C_Pipe C_BadWord C_BadPlace C_BadPlan C_NotDue C_Stuck C_BadBits C_BadText C_TooLarge g_told)) := by
  refine Dh.fnX (k := 4) F sc_law_queue rfl (fun A outer s H0 L vs Q E hr hl h => ?_)
  refine ⟨_, (pss_cons (ps_set (i := 1) sc_law_queue.nd rfl (by first | exact Or.inl rfl | exact Or.inr rfl) (pe_ix (Dh.xSeq (K := K) rfl) (pe_lst (pa_cons pe_int (pa_cons pe_int pa_nil))) (Dh.pe_cal c_law_roll hr (by decide) (passes_call (takes_of rfl rfl rfl rfl) (fun _ _ _ _ h => h)) rfl (pa_cons (pv 0) (pa_cons pe_int pa_nil))) (fun _ _ => rfl)))
    (pss_cons (ps_asg (pe_tup (pa_cons (Dh.pe_mak c_Queue hr (by decide) (passes_call (takes_of rfl rfl rfl rfl) (fun _ _ _ _ h => h)) rfl (pa_cons (pv 1) (pa_cons (pe_op (Dh.oMul (K := K) rfl) pe_int (pv 1)) pa_nil))) (pa_cons (pe_lst pa_nil) (pa_cons (pe_lst pa_nil) (pa_cons (pe_lst pa_nil) (pa_cons (pe_lst pa_nil) (pa_cons pe_int pa_nil))))))) (Dh.pgTup (K := K) rfl rfl (pgs_cons (pg_name (i := 2) sc_law_queue.nd rfl (by first | exact Or.inl rfl | exact Or.inr rfl)) (pgs_cons (pg_name (i := 3) sc_law_queue.nd rfl (by first | exact Or.inl rfl | exact Or.inr rfl)) (pgs_cons (pg_name (i := 4) sc_law_queue.nd rfl (by first | exact Or.inl rfl | exact Or.inr rfl)) (pgs_cons (pg_name (i := 5) sc_law_queue.nd rfl (by first | exact Or.inl rfl | exact Or.inr rfl)) (pgs_cons (pg_name (i := 6) sc_law_queue.nd rfl (by first | exact Or.inl rfl | exact Or.inr rfl)) (pgs_cons (pg_name (i := 7) sc_law_queue.nd rfl (by first | exact Or.inl rfl | exact Or.inr rfl)) pgs_nil)))))) rfl rfl))
    (pss_cons (ps_for (passes_of rfl) rfl (pi_range1 rfl Z.b_range (pa_cons (Dh.pe_cal c_law_roll hr (by decide) (passes_call (takes_of rfl rfl rfl rfl) (fun _ _ _ _ h => h)) rfl (pa_cons (pv 0) (pa_cons pe_int pa_nil))) pa_nil)) (pg_name (i := 8) sc_law_queue.nd rfl (by first | exact Or.inl rfl | exact Or.inr rfl))
    (pss_cons (ps_set (i := 9) sc_law_queue.nd rfl (by first | exact Or.inl rfl | exact Or.inr rfl) (Dh.pe_cal c_law_roll hr (by decide) (passes_call (takes_of rfl rfl rfl rfl) (fun _ _ _ _ h => h)) rfl (pa_cons (pv 0) (pa_cons pe_int pa_nil))))
    (pss_one (ps_if (pt_cmpR (Dh.oEq (K := K) rfl hr.units) (pv 9) pe_int (nomark _))
    (pss_cons (ps_set (i := 10) sc_law_queue.nd rfl (by first | exact Or.inl rfl | exact Or.inr rfl) (Dh.pe_told (k := 1) (T := T) (cs := [(C_BadWord, "word"), (C_BadPlace, "place"), (C_BadPlan, "plan"), (C_NotDue, "due"), (C_Stuck, "stuck"), (C_BadBits, "bits"), (C_BadText, "text"), (C_TooLarge, "large")]) Z.t_law_told (fun _ _ _ _ _ _ => bnd_law_told) sc_law_told rfl (by first | exact Or.inl rfl | exact Or.inr (Or.inl rfl)) (fun _ _ => told_law_told Z) TB Dh.cx_code Dh.cx_qual hmT huT hr (by decide) (LamX.lamS_by (by kernel_rfl)) rfl (fun _ _ _ _ _ => rfl) rfl (fun A outer s H E f c' hr2 => (Dh.pe_met c_Queue_give hr2 (by decide) (passes_call (takes_of rfl rfl rfl rfl) (fun _ _ _ _ h => h)) (pv 2) (pa_cons (pv 7) pa_nil)))))
    (pss_cons (ps_if (pt_cmpR (Dh.oNe (K := K) rfl hr.units) (pe_cmpR (Dh.oEq (K := K) rfl hr.units) (pv 10) pe_str (nomark _)) (pe_cmpR (Dh.oEq (K := K) rfl hr.units) (pe_op (Dh.oAdd (K := K) rfl) (pe_op (Dh.oAdd (K := K) rfl) (pe_callB (Dh.cLen (K := K) rfl) (by rfl) Z.b_len (by first | exact PySem.boot_len | exact PyProof.Rows.boot_len | decide +kernel) (pa_cons (pv 3) pa_nil)) (pe_callB (Dh.cLen (K := K) rfl) (by rfl) Z.b_len (by first | exact PySem.boot_len | exact PyProof.Rows.boot_len | decide +kernel) (pa_cons (pv 4) pa_nil))) (pe_callB (Dh.cLen (K := K) rfl) (by rfl) Z.b_len (by first | exact PySem.boot_len | exact PyProof.Rows.boot_len | decide +kernel) (pa_cons (pv 5) pa_nil))) (pv 1) (nomark _)) (nomark _))
    (pss_one (ps_ret pe_bl))
    pss_nil)
    (pss_one (ps_if (pt_cmpR (Dh.oNe (K := K) rfl hr.units) (pv 10) pe_str (nomark _))
    (pss_cons (ps_if (pt_cmpR (Dh.oIn (K := K) rfl) (pv 10) (pe_lc (own := [("one", 16)]) (g := (gName 16)) (tt := tYes) rfl sc_law_queue.nd (Dh.piSeq (K := K) rfl (pe_op (Dh.oAdd (K := K) rfl) (pe_op (Dh.oAdd (K := K) rfl) (pv 3) (pv 4)) (pv 5))) (blkOk_by (own := [("one", 16)]) (N := N_law_queue) (by kernel_rfl)) (fun _ _ _ _ _ => (pg_name (i := 16) sc_law_queue.nd rfl (by first | exact Or.inl rfl | exact Or.inr rfl))) (fun _ _ _ _ _ => pts_nil) (fun _ _ _ _ _ => (pe_ix (Dh.xSeq (K := K) rfl) (pv 16) pe_int (fun _ _ => rfl)))) rfl)
    (pss_one (ps_ret pe_bl))
    pss_nil)
    (pss_one (ps_asg (pe_tup (pa_cons (pe_op (Dh.oAdd (K := K) rfl) (pv 3) (pe_lst (pa_cons (pe_tup (pa_cons (pv 10) (pa_cons (pv 7) pa_nil))) pa_nil))) (pa_cons (pe_op (Dh.oAdd (K := K) rfl) (pv 7) pe_int) pa_nil))) (Dh.pgTup (K := K) rfl rfl (pgs_cons (pg_name (i := 3) sc_law_queue.nd rfl (by first | exact Or.inl rfl | exact Or.inr rfl)) (pgs_cons (pg_name (i := 7) sc_law_queue.nd rfl (by first | exact Or.inl rfl | exact Or.inr rfl)) pgs_nil)) rfl rfl))))
    pss_nil))))
    (pss_one (ps_if (pt_cmpR (Dh.oEq (K := K) rfl hr.units) (pv 9) pe_int (nomark _))
    (pss_cons (ps_if (pt_cmpR (Dh.oNe (K := K) rfl hr.units) (Dh.pe_told (k := 2) (T := T) (cs := [(C_BadWord, "word"), (C_BadPlace, "place"), (C_BadPlan, "plan"), (C_NotDue, "due"), (C_Stuck, "stuck"), (C_BadBits, "bits"), (C_BadText, "text"), (C_TooLarge, "large")]) Z.t_law_told (fun _ _ _ _ _ _ => bnd_law_told) sc_law_told rfl (by first | exact Or.inl rfl | exact Or.inr (Or.inl rfl)) (fun _ _ => told_law_told Z) TB Dh.cx_code Dh.cx_qual hmT huT hr (by decide) (LamX.lamS_by (by kernel_rfl)) rfl (fun _ _ _ _ _ => rfl) rfl (fun A outer s H E f c' hr2 => (Dh.pe_met0 c_Queue_take hr2 (by decide) (passes_call (takes_of rfl rfl rfl rfl) (fun _ _ _ _ h => h)) (pv 2)))) (pe_ifExp (pt_cmpR (Dh.oNe (K := K) rfl hr.units) (pv 3) (pe_lst pa_nil) (nomark _)) (pe_ix (Dh.xSeq (K := K) rfl) (pe_ix (Dh.xSeq (K := K) rfl) (pv 3) pe_int (fun _ _ => rfl)) pe_int (fun _ _ => rfl)) pe_str) (nomark _))
    (pss_one (ps_ret pe_bl))
    pss_nil)
    (pss_cons (ps_if (pt_cmpR (Dh.oNe (K := K) rfl hr.units) (Dh.pe_met0 c_Queue_untaken hr (by decide) (passes_call (takes_of rfl rfl rfl rfl) (fun _ _ _ _ h => h)) (pv 2)) (pe_callB (Dh.call_max2X rfl) (by rfl) Z.b_max (by first | exact PySem.boot_max | exact PyProof.Rows.boot_max | decide +kernel) (pa_cons pe_int (pa_cons (pe_op op_sub (pe_callB (Dh.cLen (K := K) rfl) (by rfl) Z.b_len (by first | exact PySem.boot_len | exact PyProof.Rows.boot_len | decide +kernel) (pa_cons (pv 3) pa_nil)) pe_int) pa_nil))) (nomark _))
    (pss_one (ps_ret pe_bl))
    pss_nil)
    (pss_one (ps_par (i := 3) (j := 4) (by rfl) sc_law_queue.nd rfl rfl (by decide) rfl rfl (pa_cons (pe_slice (Dh.slSeq (K := K) rfl) (pv 3) (po_some pe_int) po_none) (pa_cons (pe_op (Dh.oAdd (K := K) rfl) (pv 4) (pe_slice (Dh.slSeq (K := K) rfl) (pv 3) po_none (po_some pe_int))) pa_nil)) (by rfl)))))
    (pss_one (ps_if (PW.pt (pw_and (pt_cmpR (Dh.oEq (K := K) rfl hr.units) (pv 9) pe_int (nomark _)) (pw_and1 (pt_cmpR (Dh.oNe (K := K) rfl hr.units) (pv 4) (pe_lst pa_nil) (nomark _)))))
    (pss_cons (ps_set (i := 11) sc_law_queue.nd rfl (by first | exact Or.inl rfl | exact Or.inr rfl) (Dh.pe_cal c_law_roll hr (by decide) (passes_call (takes_of rfl rfl rfl rfl) (fun _ _ _ _ h => h)) rfl (pa_cons (pv 0) (pa_cons (pe_callB (Dh.cLen (K := K) rfl) (by rfl) Z.b_len (by first | exact PySem.boot_len | exact PyProof.Rows.boot_len | decide +kernel) (pa_cons (pv 4) pa_nil)) pa_nil))))
    (pss_cons (ps_expr (Dh.pe_met c_Queue_use hr (by decide) (passes_call (takes_of rfl rfl rfl rfl) (fun _ _ _ _ h => h)) (pv 2) (pa_cons (pe_ix (Dh.xSeq (K := K) rfl) (pe_ix (Dh.xSeq (K := K) rfl) (pv 4) (pv 11) (fun _ _ => rfl)) pe_int (fun _ _ => rfl)) (pa_cons (pv 11) pa_nil))))
    (pss_one (ps_par (i := 5) (j := 4) (by rfl) sc_law_queue.nd rfl rfl (by decide) rfl rfl (pa_cons (pe_op (Dh.oAdd (K := K) rfl) (pv 5) (pe_lst (pa_cons (pe_tup (pa_cons (pe_ix (Dh.xSeq (K := K) rfl) (pe_ix (Dh.xSeq (K := K) rfl) (pv 4) (pv 11) (fun _ _ => rfl)) pe_int (fun _ _ => rfl)) (pa_cons (pe_ix (Dh.xSeq (K := K) rfl) (pe_ix (Dh.xSeq (K := K) rfl) (pv 4) (pv 11) (fun _ _ => rfl)) pe_int (fun _ _ => rfl)) (pa_cons (pv 11) pa_nil)))) pa_nil))) (pa_cons (pe_op (Dh.oAdd (K := K) rfl) (pe_slice (Dh.slSeq (K := K) rfl) (pv 4) po_none (po_some (pv 11))) (pe_slice (Dh.slSeq (K := K) rfl) (pv 4) (po_some (pe_op (Dh.oAdd (K := K) rfl) (pv 11) pe_int)) po_none)) pa_nil)) (by rfl)))))
    (pss_cons (ps_set (i := 12) sc_law_queue.nd rfl (by first | exact Or.inl rfl | exact Or.inr rfl) (Dh.pe_told (k := 1) (T := T) (cs := [(C_BadWord, "word"), (C_BadPlace, "place"), (C_BadPlan, "plan"), (C_NotDue, "due"), (C_Stuck, "stuck"), (C_BadBits, "bits"), (C_BadText, "text"), (C_TooLarge, "large")]) Z.t_law_told (fun _ _ _ _ _ _ => bnd_law_told) sc_law_told rfl (by first | exact Or.inl rfl | exact Or.inr (Or.inl rfl)) (fun _ _ => told_law_told Z) TB Dh.cx_code Dh.cx_qual hmT huT hr (by decide) (LamX.lamS_by (by kernel_rfl)) rfl (fun _ _ _ _ _ => rfl) rfl (fun A outer s H E f c' hr2 => (Dh.pe_met0 c_Queue_reap hr2 (by decide) (passes_call (takes_of rfl rfl rfl rfl) (fun _ _ _ _ h => h)) (pv 2)))))
    (pss_cons (ps_if (pt_cmpR (Dh.oNe (K := K) rfl hr.units) (pv 12) (pe_ifExp (pt_cmpR (Dh.oNe (K := K) rfl hr.units) (pv 5) (pe_lst pa_nil) (nomark _)) (pe_tup (pa_cons (pe_ix (Dh.xSeq (K := K) rfl) (pe_ix (Dh.xSeq (K := K) rfl) (pv 5) pe_int (fun _ _ => rfl)) pe_int (fun _ _ => rfl)) (pa_cons (pe_ix (Dh.xSeq (K := K) rfl) (pe_ix (Dh.xSeq (K := K) rfl) (pv 5) pe_int (fun _ _ => rfl)) pe_int (fun _ _ => rfl)) pa_nil))) pe_str) (nomark _))
    (pss_one (ps_ret pe_bl))
    pss_nil)
    (pss_one (ps_par (i := 5) (j := 6) (by rfl) sc_law_queue.nd rfl rfl (by decide) rfl rfl (pa_cons (pe_slice (Dh.slSeq (K := K) rfl) (pv 5) (po_some pe_int) po_none) (pa_cons (pe_op (Dh.oAdd (K := K) rfl) (pv 6) (pe_slice (Dh.slSeq (K := K) rfl) (pv 5) po_none (po_some pe_int))) pa_nil)) (by rfl)))))))))))))
    (pss_cons (ps_if (pt_cmpR (Dh.oNe (K := K) rfl hr.units) (Dh.pe_told (k := 1) (T := T) (cs := [(C_BadWord, "word"), (C_BadPlace, "place"), (C_BadPlan, "plan"), (C_NotDue, "due"), (C_Stuck, "stuck"), (C_BadBits, "bits"), (C_BadText, "text"), (C_TooLarge, "large")]) Z.t_law_told (fun _ _ _ _ _ _ => bnd_law_told) sc_law_told rfl (by first | exact Or.inl rfl | exact Or.inr (Or.inl rfl)) (fun _ _ => told_law_told Z) TB Dh.cx_code Dh.cx_qual hmT huT hr (by decide) (LamX.lamS_by (by kernel_rfl)) rfl (fun _ _ _ _ _ => rfl) rfl (fun A outer s H E f c' hr2 => (Dh.pe_met c_Queue_use hr2 (by decide) (passes_call (takes_of rfl rfl rfl rfl) (fun _ _ _ _ h => h)) (pv 2) (pa_cons pe_int (pa_cons pe_int pa_nil))))) pe_str (nomark _))
    (pss_one (ps_ret pe_bl))
    pss_nil)
    (pss_cons (ps_par (i := 13) (j := 14) (by rfl) sc_law_queue.nd rfl rfl (by decide) rfl rfl (pa_cons (Dh.pe_cal c_law_roll hr (by decide) (passes_call (takes_of rfl rfl rfl rfl) (fun _ _ _ _ h => h)) rfl (pa_cons (pv 0) (pa_cons (pe_op (Dh.oAdd (K := K) rfl) (pv 1) pe_int) pa_nil))) (pa_cons (Dh.pe_cal c_law_roll hr (by decide) (passes_call (takes_of rfl rfl rfl rfl) (fun _ _ _ _ h => h)) rfl (pa_cons (pv 0) (pa_cons (pe_op (Dh.oMul (K := K) rfl) pe_int (pv 1)) pa_nil))) pa_nil)) (by rfl))
    (pss_cons (ps_set (i := 15) sc_law_queue.nd rfl (by first | exact Or.inl rfl | exact Or.inr rfl) (pe_op op_mod (pe_op op_sub (Dh.pe_fldC Z.c_Queue Z.n_Queue_used_count (pv 2)) (pv 13)) (pe_op (Dh.oMul (K := K) rfl) pe_int (pv 1))))
    (pss_one (ps_ret (pe_cmpR (Dh.oEq (K := K) rfl hr.units) (Dh.pe_met c_Queue_needs_call hr (by decide) (passes_call (takes_of rfl rfl rfl rfl) (fun _ _ _ _ h => h)) (pv 2) (pa_cons (pv 15) (pa_cons (pv 14) pa_nil))) (pe_cmpR (Dh.oIn (K := K) rfl) (pv 14) (pe_lc (own := [("k", 11)]) (g := (gName 11)) (tt := tYes) rfl sc_law_queue.nd (pi_range1 rfl Z.b_range (pa_cons (pv 13) pa_nil)) (blkOk_by (own := [("k", 11)]) (N := N_law_queue) (by kernel_rfl)) (fun _ _ _ _ _ => (pg_name (i := 11) sc_law_queue.nd rfl (by first | exact Or.inl rfl | exact Or.inr rfl))) (fun _ _ _ _ _ => pts_nil) (fun _ _ _ _ _ => (pe_op op_mod (pe_op (Dh.oAdd (K := K) rfl) (pv 15) (pv 11)) (pe_op (Dh.oMul (K := K) rfl) pe_int (pv 1))))) rfl) (nomark _)))))))))), ?_⟩
  try dsimp only [L2.cxOf, L2.Cx.blk, LamX.lamCx, L2.Cx.tr]
  obtain ⟨d, R, rfl, hE, k⟩ := h
  refine Dh.Go.ent hE ?_
  walk_at "vc"
  refine' Dh.g_sp rfl ⟨d, 2, _, rfl, ?e1, by decide, by decide, fun r h0 h1 => ?k1⟩
  (case e1 => walk_at "ent")
  obtain ⟨n, hn0, hn4, hat⟩ : ∃ n : Nat, 0 < n ∧ n ≤ 4 ∧ atI [V.int 2, V.int 4] r = some (.int n) := by
    rcases (show r = 0 ∨ r = 1 by omega) with rfl | rfl
    · exact ⟨2, by decide, by decide, rfl⟩
    · exact ⟨4, by decide, by decide, rfl⟩
  walk_at "vc"
  refine' Dh.g_sp rfl ⟨_, (n : Int), 2 * (n : Int), _, rfl, ?e2, by omega, .inr (.inr rfl), fun h => ?kx, fun m hm hm1 hm2 => ?k2⟩
  (case e2 => walk_at "ent")
  case kx =>
    exfalso
    rcases h with h | h
    · omega
    · exact h (by simp)
  obtain rfl : n = m := by omega
  walk_at "vc"
  refine' Dh.g_sp rfl ⟨d, 21, _, rfl, ?e3, by decide, by decide, fun tt t0 t1 => ?k3⟩
  (case e3 => walk_at "ent")
  obtain ⟨tt, rfl⟩ : ∃ r' : Nat, tt = (r' : Int) := ⟨tt.toNat, by omega⟩
  walk_at "vc"
  rename_i qa ga ta ua da _
  refine Dh.g_forR (n := tt) (lo := 0) (QInv C_Queue d qa n R) ⟨ga, ta, ua, da, [], [], [], [], [], [], [], 0, none, none, none, none, none, rfl, Nat.le_refl _, ?e4⟩ ?hs ?hd
  case e4 =>
    refine (Dh.ent_tps (vs := []) (ts := ([] : List (Int × Int)).map p2) (fun _ _ => .nil) (Dh.ent_tps (vs := []) (ts := ([] : List (Int × Int)).map p2) (fun _ _ => .nil) (Dh.ent_tps (vs := []) (ts := ([] : List (Int × Int × Int)).map p3) (fun _ _ => .nil) Dh.ent_refl))).trans ?_
    walk_at "ent"
  case hd =>
    rintro σ L ⟨ga, ta, ua, da, G, Tk, U, gv, tv, uv, dv, ct, v8, v9, v10, v11, v12, rfl, hdv, hE⟩
    refine Dh.Go.ent hE ?_
    refine' go_queueLen ?pq fun _ hlen hran hndt => ?_
    (case pq => walk_at "pk")
    walk_at "vc"
    refine' Dh.g_sp rfl ⟨qa, 99, 1, n, G, Tk, U, _, rfl, ?e5, fun hf => ?e6, fun A x B hx he => ?e7⟩
    (case e5 => walk_at "ent")
    case e7 =>
      exfalso
      subst hx
      have := hran x.1 (by simp)
      omega
    refine Dh.g_toldE Z.x_NotDue_BadWord (fun h => by cases h) fun _ => Dh.g_toldE Z.x_NotDue_BadPlace (fun h => by cases h) fun _ => Dh.g_toldE Z.x_NotDue_BadPlan (fun h => by cases h) fun _ => Dh.g_toldE Z.x_NotDue_NotDue (fun _ => ?_) (fun h => by cases h)
    walk_at "vc"
    refine' Dh.g_sp rfl ⟨d, (n : Int) + 1, _, rfl, ?e8, by omega, by omega, fun st st0 st1 => ?e9⟩
    (case e8 => walk_at "ent")
    obtain ⟨st, rfl⟩ : ∃ r' : Nat, st = (r' : Int) := ⟨st.toNat, by omega⟩
    walk_at "vc"
    refine' Dh.g_sp rfl ⟨d, 2 * (n : Int), _, rfl, ?e10, by omega, by omega, fun mk mk0 mk1 => ?e11⟩
    (case e10 => walk_at "ent")
    walk_at "vc"
    refine' Dh.Go.ent ?e12 (go_queue (C := C_Queue) (p := qa) (n := n) (G := G) (Tk := Tk) (U := U) fun r1 r2 r3 r4 r5 F tb gv' us uv' gc uc dsv drv ds dr ok => ?_)
    (case e12 => walk_at "ent")
    walk_at "vc"
    refine' Dh.g_sp rfl ⟨qa, (uc - (st : Int)) % (2 * (n : Int)), mk, uc, 2 * (n : Int), _, _, _, _, _, _, _, _, _, _, rfl, ?e13, by omega, ?e14⟩
    (case e13 => walk_at "ent")
    walk_at "vc"
    refine' Dh.g_lcRf (fun k : Nat => V.int (((uc - (st : Int)) % (2 * (n : Int)) + (k : Int)) % (2 * (n : Int)))) Dh.ent_refl (fun D j hj => ?e15) (fun D => ?e16)
    case e15 =>
      refine Dh.g_turn (Dh.g_name (Dh.g_and rfl ?_))
      walk_at "vc"
      refine Dh.g_lcPut Dh.pick_here (by rw [PySem.sizeLine_eq]; omega) (by rw [Int.zero_add]) Dh.ent_refl
    case e16 =>
      rw [show (List.range (st : Int).toNat).map (fun k : Nat => V.int (((uc - (st : Int)) % (2 * (n : Int)) + (k : Int)) % (2 * (n : Int)))) = ((List.range st).map fun k : Nat => ((uc - (st : Int)) % (2 * (n : Int)) + (k : Int)) % (2 * (n : Int))).map V.int by rw [List.map_map]; rfl]
      walk_at "vc"
      rw [calls_eq hn0 (by omega) mk0 mk1 rfl, decide_eq_true rfl]
      refine' Dh.Go.ent ?e17 k
      (case e17 => walk_at "ent")
  case hs =>
    rintro i σ L hi ⟨ga, ta, ua, da, G, Tk, U, gv, tv, uv, dv, ct, v8, v9, v10, v11, v12, rfl, hdv, hE⟩
    refine Dh.Go.ent hE ?_
    walk_at "vc"
    refine' Dh.g_sp rfl ⟨d, 4, _, rfl, ?a1, by decide, by decide, fun kd q0 q1 => ?a2⟩
    (case a1 => walk_at "ent")
    refine' go_queueLen ?pq fun _ hlen hran hndt => ?_
    (case pq => walk_at "pk")
    refine' Dh.go_tpsLen (vs := gv) (ts := G.map p2) ?pg fun lg => Dh.go_tpsLen (vs := tv) (ts := Tk.map p2) ?pt fun lt => Dh.go_tpsLen (vs := uv) (ts := U.map p3) ?pu fun lu => ?_
    (case pg => walk_at "pk")
    (case pt => walk_at "pk")
    (case pu => walk_at "pk")
    rw [List.length_map] at lg lt lu
    walk_at "vc"
    refine Dh.g_ifD (fun hk => ?b0) (fun hk => ?bn)
    case b0 =>
      walk_at "vc"
      refine' Dh.g_sp rfl ⟨qa, ct, n, G, Tk, U, _, rfl, ?c1, fun hf => ?c2, fun q hf hq => ?c3⟩
      (case c1 => walk_at "ent")
      case c2 =>
        refine Dh.g_toldE Z.x_NotDue_BadWord (fun h => by cases h) fun _ => Dh.g_toldE Z.x_NotDue_BadPlace (fun h => by cases h) fun _ => Dh.g_toldE Z.x_NotDue_BadPlan (fun h => by cases h) fun _ => Dh.g_toldE Z.x_NotDue_NotDue (fun _ => ?_) (fun h => by cases h)
        walk_at "vc"
        have e : (gv.length : Int) + tv.length + uv.length = n := by omega
        refine Dh.g_ifF (by rw [e]; simp) ?_
        walk_at "vc"
        refine Dh.SI.in ⟨ga, ta, ua, da, G, Tk, U, gv, tv, uv, dv, ct, _, _, _, _, _, rfl, by omega, ?_⟩
        walk_at "ent"
      case c3 =>
        walk_at "vc"
        have e : ¬ ((gv.length : Int) + tv.length + uv.length = n) := by omega
        refine Dh.g_ifF (by simp [e]) ?_
        walk_at "vc"
        rename_i c0 c1
        refine Dh.Go.ent (Dh.ent_tps (vs := gv ++ tv ++ uv) (ts := G.map p2 ++ Tk.map p2 ++ U.map p3) (fun H s => ?f2) Dh.ent_refl) ?_
        case f2 =>
          have f1 : Dh.F2 H gv (G.map p2) := by
            refine' Dh.Pick.f2 ?pa s
            (case pa => walk_at "pk")
          have f2 : Dh.F2 H tv (Tk.map p2) := by
            refine' Dh.Pick.f2 ?pa s
            (case pa => walk_at "pk")
          have f3 : Dh.F2 H uv (U.map p3) := by
            refine' Dh.Pick.f2 ?pa s
            (case pa => walk_at "pk")
          exact (f1.app f2).app f3
        have ehd : (G.map p2 ++ Tk.map p2 ++ U.map p3).map hd = G.map (·.1) ++ (Tk.map (·.1) ++ U.map (·.1)) := by
          rw [List.map_append, List.map_append, List.map_map, List.map_map, List.map_map, List.append_assoc]
          rfl
        refine' Dh.Go.ent ?e5 (firsts (c := c1) (vs := gv ++ tv ++ uv) (ts := G.map p2 ++ Tk.map p2 ++ U.map p3) ?ne ?ln fun D => ?k5)
        (case e5 => walk_at "ent")
        case ne =>
          intro t ht
          rcases List.mem_append.mp ht with ht | ht
          · rcases List.mem_append.mp ht with ht | ht
            · obtain ⟨x, _, rfl⟩ := List.mem_map.mp ht
              exact List.cons_ne_nil _ _
            · obtain ⟨x, _, rfl⟩ := List.mem_map.mp ht
              exact List.cons_ne_nil _ _
          · obtain ⟨x, _, rfl⟩ := List.mem_map.mp ht
            exact List.cons_ne_nil _ _
        case ln =>
          simp only [List.length_append, List.length_map]
          omega
        rw [ehd]
        walk_at "vc"
        refine Dh.g_ifF (decide_eq_false hq) ?_
        walk_at "vc"
        rename_i tq lq gn _
        refine Dh.Go.ent (Dh.ent_tps (vs := gv ++ [.ref tq]) (ts := (G ++ [(q, ct)]).map p2) (fun H s => ?f6) Dh.ent_refl) ?_
        case f6 =>
          have f1 : Dh.F2 H gv (G.map p2) := by
            refine' Dh.Pick.f2 ?pa s
            (case pa => walk_at "pk")
          have f2 : Dh.F2 H [.ref tq] [p2 (q, ct)] := by
            refine' Dh.f2_one (xs := [.int q, .int ct]) rfl ?pa s
            (case pa => walk_at "pk")
          rw [List.map_append]
          exact f1.app f2
        refine Dh.SI.in ⟨gn, ta, ua, da, G ++ [(q, ct)], Tk, U, gv ++ [.ref tq], tv, uv, dv, ct + 1, _, _, _, _, _, rfl, by omega, ?_⟩
        walk_at "ent"
    case bn =>
      walk_at "vc"
      refine Dh.g_ifD (fun hk1 => ?b1) (fun hk1 => ?bm)
      case b1 =>
        walk_at "vc"
        refine' Dh.g_sp rfl ⟨qa, n, G, Tk, U, _, rfl, ?c1, fun hf => ?c2, fun x G' hx => ?c3⟩
        (case c1 => walk_at "ent")
        case c2 =>
          refine Dh.g_toldE Z.x_NotDue_BadWord (fun h => by cases h) fun _ => Dh.g_toldE Z.x_NotDue_BadPlace (fun h => by cases h) fun _ => Dh.g_toldE Z.x_NotDue_BadPlan (fun h => by cases h) fun _ => Dh.g_toldE Z.x_NotDue_NotDue (fun _ => ?_) (fun h => by cases h)
          subst hf
          obtain rfl : gv = [] := List.eq_nil_of_length_eq_zero lg
          walk_at "vc"
          refine' Dh.g_sp rfl ⟨qa, n, [], Tk, U, _, rfl, ?u1, ?u2⟩
          (case u1 => walk_at "ent")
          walk_at "vc"
          rw [cut_d1, cut_t1]
          walk_at "vc"
          rename_i ng _ nt
          refine Dh.Go.ent (Dh.ent_tps (vs := [].drop 1) (ts := ([] : List (Int × Int)).map p2) (fun _ _ => .nil) (Dh.ent_tps (vs := tv ++ [].take 1) (ts := Tk.map p2) (fun H s => ?fb) Dh.ent_refl)) ?_
          case fb =>
            have f2 : Dh.F2 H tv (Tk.map p2) := by
              refine' Dh.Pick.f2 ?pa s
              (case pa => walk_at "pk")
            simpa using f2
          refine Dh.SI.in ⟨ng, nt, ua, da, [], Tk, U, [].drop 1, tv ++ [].take 1, uv, dv, ct, _, _, _, _, _, rfl, by omega, ?_⟩
          walk_at "ent"
        case c3 =>
          subst hx
          refine' Dh.go_tpsAt (vs := gv) (ts := (x :: G').map p2) (k := 0) (ms := p2 x) (xs := [.int x.1, .int x.2]) ?pk3 rfl rfl fun t0 ht0 => ?_
          (case pk3 => walk_at "pk")
          have ha0 := atI_zero ht0
          walk_at "vc"
          refine Dh.g_ifF (by simp) ?_
          walk_at "vc"
          refine' Dh.g_sp rfl ⟨qa, n, G', Tk ++ [x], U, _, rfl, ?y1, ?y2⟩
          (case y1 => walk_at "ent")
          walk_at "vc"
          rw [List.length_cons] at lg
          refine Dh.g_ifF ?cg3 ?_
          case cg3 =>
            rw [Bool.not_eq_false', decide_eq_true_eq, V.int.injEq]
            split <;> omega
          walk_at "vc"
          rw [cut_d1, cut_t1]
          walk_at "vc"
          rename_i ng _ nt
          refine Dh.Go.ent (Dh.ent_tps (vs := gv.drop 1) (ts := G'.map p2) (fun H s => ?fa3) (Dh.ent_tps (vs := tv ++ gv.take 1) (ts := (Tk ++ [x]).map p2) (fun H s => ?fb3) Dh.ent_refl)) ?_
          case fa3 =>
            have f1 : Dh.F2 H gv ((x :: G').map p2) := by
              refine' Dh.Pick.f2 ?pa s
              (case pa => walk_at "pk")
            exact f1.drop 1
          case fb3 =>
            have f1 : Dh.F2 H gv ((x :: G').map p2) := by
              refine' Dh.Pick.f2 ?pa s
              (case pa => walk_at "pk")
            have f2 : Dh.F2 H tv (Tk.map p2) := by
              refine' Dh.Pick.f2 ?pa s
              (case pa => walk_at "pk")
            rw [List.map_append]
            exact f2.app (f1.take 1)
          refine Dh.SI.in ⟨ng, nt, ua, da, G', Tk ++ [x], U, gv.drop 1, tv ++ gv.take 1, uv, dv, ct, _, _, _, _, _, rfl, by omega, ?_⟩
          walk_at "ent"
      case bm =>
        walk_at "vc"
        by_cases hu : kd = 2 ∧ Tk ≠ []
        · obtain ⟨rfl, hne⟩ := hu
          refine Dh.g_ifT rfl ?_
          walk_at "vc"
          refine Dh.g_ifT (by cases Tk with | nil => exact absurd rfl hne | cons x Tk => rfl) ?_
          walk_at "vc"
          refine' Dh.g_sp rfl ⟨d, (tv.length : Int), _, rfl, ?z1, ?z0, by omega, fun r r0 r1 => ?z2⟩
          (case z1 => walk_at "ent")
          case z0 =>
            have := List.length_pos_iff.mpr hne
            omega
          obtain ⟨r, rfl⟩ : ∃ r' : Nat, r = (r' : Int) := ⟨r.toNat, by omega⟩
          have hr : r < Tk.length := by omega
          obtain ⟨x, hx⟩ : ∃ x, Tk[r]? = some x := ⟨_, List.getElem?_eq_getElem hr⟩
          refine' Dh.go_tpsAt (vs := tv) (ts := Tk.map p2) (k := r) (ms := p2 x) (xs := [.int x.1, .int x.2]) ?pk4 (by rw [List.getElem?_map, hx]; rfl) rfl fun t0 ht0 => ?_
          (case pk4 => walk_at "pk")
          have ha0 := Dh.atI_lt ht0
          have hxm : x.1 ∈ Tk.map (·.1) := List.mem_map_of_mem (List.mem_of_getElem? hx)
          walk_at "vc"
          refine' Dh.g_sp rfl ⟨qa, x.1, r, n, G, Tk, U, _, rfl, ?z3, fun h => absurd hxm h, fun A y B hy he => ?z4⟩
          (case z3 => walk_at "ent")
          have eA : A.length = r := by
            refine (List.getElem?_inj (l := Tk.map (·.1)) (by rw [hy]; simp) hndt).mp ?_
            rw [List.getElem?_map, List.getElem?_map, hx, hy]
            simp [he]
          obtain rfl : x = y := by
            rw [hy, ← eA] at hx
            simpa using hx.symm
          walk_at "vc"
          rw [show ((r : Int) + 1) = ((r + 1 : Nat) : Int) from rfl, Dh.cut_drop, Dh.cut_take]
          walk_at "vc"
          rename_i tq l1 un c1 c2 nt
          refine Dh.Go.ent (Dh.ent_tps (vs := tv.take r ++ tv.drop (r + 1)) (ts := (A ++ B).map p2) (fun H s => ?fa4) (Dh.ent_tps (vs := uv ++ [.ref tq]) (ts := (U ++ [(x.1, x.2, (r : Int))]).map p3) (fun H s => ?fb4) Dh.ent_refl)) ?_
          case fa4 =>
            have f1 : Dh.F2 H tv (Tk.map p2) := by
              refine' Dh.Pick.f2 ?pa s
              (case pa => walk_at "pk")
            have e : (Tk.map p2).take r ++ (Tk.map p2).drop (r + 1) = (A ++ B).map p2 := by
              rw [hy, ← eA, ← List.map_take, ← List.map_drop, ← List.map_append]
              simp
            rw [← e]
            exact (f1.take r).app (f1.drop (r + 1))
          case fb4 =>
            have f1 : Dh.F2 H uv (U.map p3) := by
              refine' Dh.Pick.f2 ?pa s
              (case pa => walk_at "pk")
            have f2 : Dh.F2 H [.ref tq] [p3 (x.1, x.2, (r : Int))] := by
              refine' Dh.f2_one (xs := [.int x.1, .int x.2, .int r]) rfl ?pa s
              (case pa => walk_at "pk")
            rw [List.map_append]
            exact f1.app f2
          refine Dh.SI.in ⟨ga, nt, un, da, G, A ++ B, U ++ [(x.1, x.2, (r : Int))], gv, tv.take r ++ tv.drop (r + 1), uv ++ [.ref tq], dv, ct, _, _, _, _, _, rfl, by omega, ?_⟩
          walk_at "ent"
        · refine Dh.g_ifDE ?hel (fun hk2 hel => ?hq2)
          case hq2 =>
            rw [V.int.injEq] at hk2
            have hT : Tk = [] := Classical.byContradiction fun h => hu ⟨hk2, h⟩
            walk_at "vc"
            refine Dh.g_ifF (by rw [hT]; rfl) ?_
            exact hel.ent (Dh.ent_drop Dh.ent_refl)
          case hel =>
            walk_at "vc"
            cases U with
            | nil =>
              refine' Dh.g_sp rfl ⟨qa, n, G, Tk, [], _, rfl, ?w1, fun hf => ?w2, fun u U' t hx => by cases hx⟩
              (case w1 => walk_at "ent")
              refine Dh.g_toldE Z.x_NotDue_BadWord (fun h => by cases h) fun _ => Dh.g_toldE Z.x_NotDue_BadPlace (fun h => by cases h) fun _ => Dh.g_toldE Z.x_NotDue_BadPlan (fun h => by cases h) fun _ => Dh.g_toldE Z.x_NotDue_NotDue (fun _ => ?_) (fun h => by cases h)
              obtain rfl : uv = [] := List.eq_nil_of_length_eq_zero lu
              walk_at "vc"
              rw [cut_d1, cut_t1]
              walk_at "vc"
              rename_i un _ dn
              refine Dh.Go.ent (Dh.ent_tps (vs := [].drop 1) (ts := ([] : List (Int × Int × Int)).map p3) (fun _ _ => .nil) Dh.ent_refl) ?_
              refine Dh.SI.in ⟨ga, ta, un, dn, G, Tk, [], gv, tv, [].drop 1, dv ++ [].take 1, ct, _, _, _, _, _, rfl, by simp; omega, ?_⟩
              walk_at "ent"
            | cons u U =>
              refine' Dh.g_sp rfl ⟨qa, n, G, Tk, u :: U, _, rfl, ?w4, fun hf => (by cases hf), fun u' U' t hx => ?w5⟩
              (case w4 => walk_at "ent")
              cases hx
              refine' Dh.go_tpsAt (vs := uv) (ts := (u :: U).map p3) (k := 0) (ms := p3 u) (xs := [.int u.1, .int u.2.1, .int u.2.2]) ?pk5 rfl rfl fun t0 ht0 => ?_
              (case pk5 => walk_at "pk")
              have ha0 := atI_zero ht0
              walk_at "vc"
              refine Dh.g_ifF (by simp) ?_
              walk_at "vc"
              rw [cut_d1, cut_t1]
              walk_at "vc"
              rename_i un _ dn
              refine Dh.Go.ent (Dh.ent_tps (vs := uv.drop 1) (ts := U.map p3) (fun H s => ?fa6) Dh.ent_refl) ?_
              case fa6 =>
                have f1 : Dh.F2 H uv ((u :: U).map p3) := by
                  refine' Dh.Pick.f2 ?pa s
                  (case pa => walk_at "pk")
                exact f1.drop 1
              refine Dh.SI.in ⟨ga, ta, un, dn, G, Tk, U, gv, tv, uv.drop 1, dv ++ uv.take 1, ct, _, _, _, _, _, rfl, by rw [List.length_append, List.length_take]; omega, ?_⟩
              walk_at "ent"
end
end Toy
end

section
local macro_rules | `(tactic| walk_at "pk") => `(tactic| (with_reducible first | exact Dh.pick_here | (refine' Dh.pick_there ?p; (case p => walk_at "pk"))))
local macro_rules | `(tactic| walk_at "ent") => `(tactic| first | (with_reducible exact Dh.ent_refl) | (with_reducible exact Dh.ent_nil) | (refine' Dh.ent_cons ?q0 ?k; (case q0 => walk_at "pk"); (case k => walk_at "ent")) | (refine' Dh.ent_drop ?k; (case k => walk_at "ent")))
local macro_rules | `(tactic| walk_at "side") => `(tactic| first | omega | decide | (simp only [L2.CMul, L2.CDiv, L2.CDivN]; omega) | (unfold L2.CPow; decide) | (simp only [List.length_cons, List.length_nil, List.length_append, List.length_map, List.length_range, List.length_replicate, List.length_set, List.length_take, List.length_drop, PySem.sizeLine_eq] <;> omega))
local macro_rules | `(tactic| walk_at "ixs") => `(tactic| first | assumption | omega | (simp only [List.length_set, List.length_map, List.length_cons, List.length_nil, List.length_append, List.length_replicate] <;> first | assumption | omega))
local macro_rules | `(tactic| walk_at "lk") => `(tactic| first | rfl | assumption | (exact Dh.ixN_lt (by walk_at "ixs")) | (exact Dh.atI_lt (by assumption))  | with_reducible exact Toy.lk_Ring_rows | with_reducible exact Toy.lk_Ring_by_device | with_reducible exact Toy.lk_Ring_done | with_reducible exact Toy.lk_Ring_fill_at | with_reducible exact Toy.lk_Ring_work_at | with_reducible exact Toy.lk_Ring_reap_at | with_reducible exact Toy.lk_Ring_filled | with_reducible exact Toy.no_Ring_init | with_reducible exact Toy.no_Ring_fill | with_reducible exact Toy.no_Ring_work | with_reducible exact Toy.no_Ring_reap | with_reducible exact Toy.no_Ring_left_room | with_reducible exact Toy.lk_Queue_many | with_reducible exact Toy.lk_Queue_round_at | with_reducible exact Toy.lk_Queue_table | with_reducible exact Toy.lk_Queue_free | with_reducible exact Toy.lk_Queue_given | with_reducible exact Toy.lk_Queue_used | with_reducible exact Toy.lk_Queue_given_count | with_reducible exact Toy.lk_Queue_used_count | with_reducible exact Toy.lk_Queue_device_seen | with_reducible exact Toy.lk_Queue_out | with_reducible exact Toy.lk_Queue_driver_seen | with_reducible exact Toy.no_Queue_init | with_reducible exact Toy.no_Queue_give | with_reducible exact Toy.no_Queue_untaken | with_reducible exact Toy.no_Queue_take | with_reducible exact Toy.no_Queue_use | with_reducible exact Toy.no_Queue_reap | with_reducible exact Toy.no_Queue_needs_call | with_reducible exact Toy.lk_Pipe_cells | with_reducible exact Toy.lk_Pipe_put_at | with_reducible exact Toy.lk_Pipe_get_at | with_reducible exact Toy.no_Pipe_init | with_reducible exact Toy.no_Pipe_lying | with_reducible exact Toy.no_Pipe_put | with_reducible exact Toy.no_Pipe_get)
local macro_rules | `(tactic| walk_at "pf") => `(tactic| first  | with_reducible exact Toy.pf_Ring_rows | with_reducible exact Toy.pf_Ring_by_device | with_reducible exact Toy.pf_Ring_done | with_reducible exact Toy.pf_Ring_fill_at | with_reducible exact Toy.pf_Ring_work_at | with_reducible exact Toy.pf_Ring_reap_at | with_reducible exact Toy.pf_Ring_filled | with_reducible exact Toy.gr_Ring_rows | with_reducible exact Toy.gr_Ring_by_device | with_reducible exact Toy.gr_Ring_done | with_reducible exact Toy.gr_Ring_fill_at | with_reducible exact Toy.gr_Ring_work_at | with_reducible exact Toy.gr_Ring_reap_at | with_reducible exact Toy.gr_Ring_filled | with_reducible exact Toy.pf_Queue_many | with_reducible exact Toy.pf_Queue_round_at | with_reducible exact Toy.pf_Queue_table | with_reducible exact Toy.pf_Queue_free | with_reducible exact Toy.pf_Queue_given | with_reducible exact Toy.pf_Queue_used | with_reducible exact Toy.pf_Queue_given_count | with_reducible exact Toy.pf_Queue_used_count | with_reducible exact Toy.pf_Queue_device_seen | with_reducible exact Toy.pf_Queue_out | with_reducible exact Toy.pf_Queue_driver_seen | with_reducible exact Toy.gr_Queue_many | with_reducible exact Toy.gr_Queue_round_at | with_reducible exact Toy.gr_Queue_table | with_reducible exact Toy.gr_Queue_free | with_reducible exact Toy.gr_Queue_given | with_reducible exact Toy.gr_Queue_used | with_reducible exact Toy.gr_Queue_given_count | with_reducible exact Toy.gr_Queue_used_count | with_reducible exact Toy.gr_Queue_device_seen | with_reducible exact Toy.gr_Queue_out | with_reducible exact Toy.gr_Queue_driver_seen | with_reducible exact Toy.pf_Pipe_cells | with_reducible exact Toy.pf_Pipe_put_at | with_reducible exact Toy.pf_Pipe_get_at | with_reducible exact Toy.gr_Pipe_cells | with_reducible exact Toy.gr_Pipe_put_at | with_reducible exact Toy.gr_Pipe_get_at | rfl)
local macro_rules | `(tactic| walk_at "ln") => `(tactic| first  | with_reducible exact Toy.ln_Ring | with_reducible exact Toy.ln_Queue | with_reducible exact Toy.ln_Pipe | decide | (simp only [List.length_cons, List.length_nil] <;> omega))
local macro_rules | `(tactic| walk_at "hasm") => `(tactic| first | (refine' Toy.hasM_pipe ?q0 ?q1; (case q0 => walk_at "pk"); (case q1 => (intros; walk_at "lk"))) | (refine' Toy.hasM_queue ?q0 ?q1; (case q0 => walk_at "pk"); (case q1 => (intros; walk_at "lk"))) | (refine' Dh.hasM_ob ?q0 ?q1; (case q0 => walk_at "pk"); (case q1 => walk_at "lk")))
local macro_rules | `(tactic| walk_at "vcp0") => `(tactic| first | ((with_reducible refine' Dh.g_seq ?k)) | ((with_reducible refine' Dh.g_next ?k)) | ((with_reducible refine' Dh.g_nonA ?k)) | ((with_reducible refine' Dh.g_var ?q0 ?k); (case q0 => rfl)) | ((with_reducible refine' Dh.g_c ?k)) | ((with_reducible refine' Dh.g_op ?k)) | ((with_reducible refine' Dh.g_asg ?k)) | ((with_reducible refine' Dh.g_name ?k)) | ((with_reducible refine' Dh.g_ifS ?k)) | ((with_reducible refine' Dh.g_test ?k)) | ((with_reducible refine' Dh.g_isB ?k)) | ((with_reducible refine' Dh.g_B ?k)) | ((with_reducible refine' Dh.g_ret ?k)) | ((with_reducible refine' Dh.g_retN ?k)) | ((with_reducible refine' Dh.g_drop ?k)) | ((with_reducible refine' Dh.g_brk ?k)) | ((with_reducible refine' Dh.g_cont ?k)) | ((with_reducible refine' Dh.g_un ?k)) | ((with_reducible refine' Dh.g_I0 ?k)) | ((with_reducible refine' Dh.g_addI ?k)) | ((with_reducible refine' Dh.g_addB ?k)) | ((with_reducible refine' Dh.g_addS ?q0 ?k); (case q0 => walk_at "side")) | ((with_reducible refine' Dh.g_addM ?q0 ?q1 ?q2 ?k); (case q0 => walk_at "pk"); (case q1 => walk_at "pk"); (case q2 => walk_at "side"); intro _) | ((with_reducible refine' Dh.g_addL ?q0 ?q1 ?q2 ?k); (case q0 => walk_at "pk"); (case q1 => walk_at "pk"); (case q2 => walk_at "side"); intro _))
local macro_rules | `(tactic| walk_at "vcp1") => `(tactic| first | ((with_reducible refine' Dh.g_I ?q0 ?k); (case q0 => walk_at "side")) | ((with_reducible refine' Dh.g_mulI ?q0 ?k); (case q0 => walk_at "side")) | ((with_reducible refine' Dh.g_U ?k)) | ((with_reducible refine' Dh.g_eqS ?q0 ?k); (case q0 => rfl)) | ((with_reducible refine' Dh.g_neS ?q0 ?k); (case q0 => rfl)) | ((with_reducible refine' Dh.g_eqLL ?q0 ?q1 ?k); (case q0 => walk_at "pk"); (case q1 => walk_at "pk")) | ((with_reducible refine' Dh.g_neLL ?q0 ?q1 ?k); (case q0 => walk_at "pk"); (case q1 => walk_at "pk")) | ((with_reducible refine' Dh.g_eqL0 ?q0 ?q1 ?k); (case q0 => walk_at "pk"); (case q1 => walk_at "pk")) | ((with_reducible refine' Dh.g_neL0 ?q0 ?q1 ?k); (case q0 => walk_at "pk"); (case q1 => walk_at "pk")) | ((with_reducible refine' Dh.g_neT0 ?q0 ?q1 ?q2 ?k); (case q0 => walk_at "pk"); (case q1 => walk_at "pk"); (case q2 => walk_at "pk")) | ((with_reducible refine' Dh.g_neP ?q0 ?q1 ?k); (case q0 => walk_at "pk"); (case q1 => walk_at "pk")) | ((with_reducible refine' Dh.g_inI ?q0 ?k); (case q0 => walk_at "pk")) | ((with_reducible refine' Dh.g_isN ?k)) | ((with_reducible refine' Dh.g_notN ?k)) | ((with_reducible refine' Dh.g_ixL ?q0 ?q1 ?k); (case q0 => walk_at "pk"); (case q1 => walk_at "lk")) | ((with_reducible refine' Dh.g_ixT ?q0 ?q1 ?k); (case q0 => walk_at "pk"); (case q1 => walk_at "lk")) | ((with_reducible refine' Dh.g_sl ?k)) | ((with_reducible refine' Dh.g_noPart ?k)) | ((with_reducible refine' Dh.g_part ?k)) | ((with_reducible refine' Dh.g_isSomeInt ?k)) | ((with_reducible refine' Dh.g_slTk ?q0 ?k); (case q0 => walk_at "pk"); intro _) | ((with_reducible refine' Dh.g_slDr ?q0 ?k); (case q0 => walk_at "pk"); intro _) | ((with_reducible refine' Dh.g_slL ?q0 ?k); (case q0 => walk_at "pk"); intro _) | ((with_reducible refine' Dh.g_slQTk ?q0 ?k); (case q0 => walk_at "pk"); intro _))
local macro_rules | `(tactic| walk_at "vcp2") => `(tactic| first | ((with_reducible refine' Dh.g_slQ ?q0 ?k); (case q0 => walk_at "pk"); intro _) | ((with_reducible refine' Dh.g_fldE ?k)) | ((with_reducible refine' Dh.g_fld ?q0 ?q1 ?k); (case q0 => walk_at "pk"); (case q1 => walk_at "lk")) | ((with_reducible refine' Dh.g_tup ?k)) | ((with_reducible refine' Dh.g_lst ?k)) | ((with_reducible refine' Dh.g_newT ?q0 ?k); (case q0 => walk_at "side"); intro _) | ((with_reducible refine' Dh.g_newL ?q0 ?k); (case q0 => walk_at "side"); intro _) | ((with_reducible refine' Dh.g_nil ?k)) | ((with_reducible refine' Dh.g_cons ?k)) | ((with_reducible refine' Dh.g_call ?k)) | ((with_reducible refine' Dh.g_methE ?k)) | ((with_reducible refine' Dh.g_meth ?q0 ?k); (case q0 => walk_at "hasm")) | ((with_reducible refine' Dh.g_make ?k)) | ((with_reducible refine' Dh.g_made ?k); intro _) | ((with_reducible refine' Dh.g_cb ?k)) | ((with_reducible refine' Dh.g_int ?k)) | ((with_reducible refine' Dh.g_intB ?k)) | ((with_reducible refine' Dh.g_abs ?k)) | ((with_reducible refine' Dh.g_max2 ?k)) | ((with_reducible refine' Dh.g_min2 ?k)) | ((with_reducible refine' Dh.g_strI ?q0 ?k); (case q0 => walk_at "side")) | ((with_reducible refine' Dh.g_lenL ?q0 ?k); (case q0 => walk_at "pk")) | ((with_reducible refine' Dh.g_lenT ?q0 ?k); (case q0 => walk_at "pk")) | ((with_reducible refine' Dh.g_lenD ?q0 ?k); (case q0 => walk_at "pk")))
local macro_rules | `(tactic| walk_at "vcp3") => `(tactic| first | ((with_reducible refine' Dh.g_listL ?q0 ?k); (case q0 => walk_at "pk"); intro _) | ((with_reducible refine' Dh.g_listT ?q0 ?k); (case q0 => walk_at "pk"); intro _) | ((with_reducible refine' Dh.g_tupL ?q0 ?k); (case q0 => walk_at "pk"); intro _) | ((with_reducible refine' Dh.g_tupT ?q0 ?k); (case q0 => walk_at "pk")) | ((with_reducible refine' Dh.g_pop0 ?q0 ?k); (case q0 => walk_at "pk")) | ((with_reducible refine' Dh.g_bm ?k)) | ((with_reducible refine' Dh.g_bm0 ?k)) | ((with_reducible refine' Dh.g_tyL ?q0 ?k); (case q0 => walk_at "pk")) | ((with_reducible refine' Dh.g_append ?q0 ?q1 ?k); (case q0 => walk_at "pk"); (case q1 => walk_at "side")) | ((with_reducible refine' Dh.g_rep ?q0 ?q1 ?q2 ?q3 ?k); (case q0 => walk_at "pk"); (case q1 => walk_at "side"); (case q2 => walk_at "side"); (case q3 => walk_at "side"); intro _) | ((with_reducible refine' Dh.g_not ?k)) | ((with_reducible refine' Dh.g_tand ?k)) | ((with_reducible refine' Dh.g_tor ?k)) | ((with_reducible refine' Dh.g_andV ?k)) | ((with_reducible refine' Dh.g_orV ?k)) | ((with_reducible refine' Dh.g_notV ?k)) | ((with_reducible refine' Dh.g_ifE ?k)) | ((with_reducible refine' Dh.g_chain ?k)) | ((with_reducible refine' Dh.g_tru ?k)) | ((with_reducible refine' Dh.g_truB ?k)) | ((with_reducible refine' Dh.g_truI ?k)) | ((with_reducible refine' Dh.g_truN ?k)) | ((with_reducible refine' Dh.g_truL ?q0 ?k); (case q0 => walk_at "pk")) | ((with_reducible refine' Dh.g_gsub ?k)))
local macro_rules | `(tactic| walk_at "vcp4") => `(tactic| first | ((with_reducible refine' Dh.g_setL ?q0 ?q1 ?k); (case q0 => walk_at "pk"); (case q1 => walk_at "lk")) | ((with_reducible refine' Dh.g_gtup ?q0 ?q1 ?k); (case q0 => walk_at "pk"); (case q1 => rfl)) | ((with_reducible refine' Dh.g_gnil ?k)) | ((with_reducible refine' Dh.g_gcons ?k)) | ((with_reducible refine' Dh.g_par ?k)) | ((with_reducible refine' Dh.g_par2 ?k)) | ((with_reducible refine' Dh.g_par3 ?k)) | ((with_reducible refine' Dh.g_par3b ?k)) | ((with_reducible refine' Dh.g_listRg ?k)) | ((with_reducible refine' Dh.g_rg1E ?k)) | ((with_reducible refine' Dh.g_rg1 ?k)) | ((with_reducible refine' Dh.g_rgN ?q0 ?k); (case q0 => walk_at "side"); intro _) | ((with_reducible refine' Dh.g_rgL ?q0 ?k); (case q0 => walk_at "side"); intro _) | ((with_reducible refine' Dh.g_dinE ?k)) | ((with_reducible refine' Dh.g_dinI ?q0 ?k); (case q0 => walk_at "pk")) | ((with_reducible refine' Dh.g_dnotinE ?k)) | ((with_reducible refine' Dh.g_dnotinI ?q0 ?k); (case q0 => walk_at "pk")) | ((with_reducible refine' Dh.g_dgetE ?k)) | ((with_reducible refine' Dh.g_dgetI ?q0 ?q1 ?k); (case q0 => walk_at "pk"); (case q1 => walk_at "lk")) | ((with_reducible refine' Dh.g_dputE ?k)) | ((with_reducible refine' Dh.g_dputI ?q0 ?q1 ?k); (case q0 => walk_at "pk"); (case q1 => walk_at "side")) | ((with_reducible refine' Dh.g_dpopE ?k)) | ((with_reducible refine' Dh.g_dpopA ?q0 ?k); (case q0 => walk_at "pk")) | ((with_reducible refine' Dh.g_dpopB ?q0 ?q1 ?k); (case q0 => walk_at "pk"); (case q1 => walk_at "lk")))
local macro_rules | `(tactic| walk_at "vcp5") => `(tactic| first | ((with_reducible refine' Dh.g_dnew ?k); intro _) | ((with_reducible refine' Dh.g_ipMul ?q0 ?k); (case q0 => walk_at "side")) | ((with_reducible refine' Dh.g_sfldE ?k)) | ((with_reducible refine' Dh.g_sfld ?q0 ?q1 ?q2 ?k); (case q0 => walk_at "pk"); (case q1 => walk_at "pf"); (case q2 => walk_at "ln")) | ((with_reducible refine' Dh.g_augE ?k)) | ((with_reducible refine' Dh.g_augF ?q0 ?q1 ?k); (case q0 => walk_at "pk"); (case q1 => walk_at "lk")) | ((with_reducible refine' Dh.g_augV ?q0 ?k); (case q0 => rfl)) | ((with_reducible refine' Dh.g_ipI ?k)) | ((with_reducible refine' Dh.g_rAdd ?k)) | ((with_reducible refine' Dh.g_rSub ?k)) | ((with_reducible refine' Dh.g_for ?k)) | ((with_reducible refine' Dh.g_iRng1 ?k)) | ((with_reducible refine' Dh.g_iRng2 ?k)) | ((with_reducible refine' Dh.g_rng1 ?q0 ?q1 ?k); (case q0 => walk_at "side"); (case q1 => walk_at "side")) | ((with_reducible refine' Dh.g_rng2 ?q0 ?k); (case q0 => walk_at "side")) | ((with_reducible refine' Dh.g_iSeqE ?k)) | ((with_reducible refine' Dh.g_iSeqL ?q0 ?k); (case q0 => walk_at "pk")) | ((with_reducible refine' Dh.g_iSeqT ?q0 ?k); (case q0 => walk_at "pk")) | ((with_reducible refine' Dh.g_wbody ?k)) | ((with_reducible refine' Dh.g_lcE ?k)) | ((with_reducible refine' Dh.g_turn ?k)) | ((with_reducible refine' Dh.g_tYes ?k)) | ((with_reducible refine' Dh.g_rs ?k)) | ((with_reducible refine' Dh.g_rsW ?k)))
local macro_rules | `(tactic| walk_at "vcp6") => `(tactic| first | ((with_reducible refine' Dh.g_told ?k)) | ((with_reducible refine' Dh.g_ifT ?q0 ?k); (case q0 => rfl)) | ((with_reducible refine' Dh.g_ifF ?q0 ?k); (case q0 => rfl)))
local macro_rules | `(tactic| walk_at "vc1") => `(tactic| first | walk_at "vcp0" | walk_at "vcp1" | walk_at "vcp2" | walk_at "vcp3" | walk_at "vcp4" | walk_at "vcp5" | walk_at "vcp6")
local macro_rules | `(tactic| walk_at "vc") => `(tactic| repeat walk_at "vc1")
local macro_rules | `(tactic| walk_at "spl") => `(tactic| first | ((with_reducible refine Dh.g_ifD ?_ ?_) <;> intro _) | ((with_reducible refine Dh.g_ifN ?_ ?_) <;> intro _) | ((with_reducible refine Dh.g_if ?_ ?_) <;> intro _))
local macro_rules | `(tactic| walk_at "vcs") => `(tactic| repeat' (first | walk_at "vc1" | walk_at "spl"))
namespace Toy
open PySem L2
section
variable {P : Program} {w : World} {K : PySem.W.Frag} {mg : Str → Option Value} {base : Heap} {T : List (Addr × Str)} {C_Ring C_Queue C_Pipe C_BadWord C_BadPlace C_BadPlan C_NotDue C_Stuck C_BadBits C_BadText C_TooLarge g_told : Addr}
theorem hasM_ring {C p : Addr} {n : Nat} {W F : List Int} {L A : List Dh.HP} {m : Str} (pk : Dh.Pick L (RingAt C p n W F) A) (h : ∀ v0 v1 v2 v3 v4 v5 v6, (fs_Ring v0 v1 v2 v3 v4 v5 v6).lookup m = none) : Dh.HasM L p C m :=
  Dh.hasM_of pk fun H ⟨r, d, e, rows, bs, ds, fa, wa, ra, fl, a, ok, ss⟩ => by
    obtain ⟨dx, e⟩ := Dh.Pick.obj Dh.pick_here ss
    exact ⟨dx, _, e, h _ _ _ _ _ _ _⟩
end
end Toy
end

section
local macro_rules | `(tactic| walk_at "pk") => `(tactic| (with_reducible first | exact Dh.pick_here | (refine' Dh.pick_there ?p; (case p => walk_at "pk"))))
local macro_rules | `(tactic| walk_at "ent") => `(tactic| first | (with_reducible exact Dh.ent_refl) | (with_reducible exact Dh.ent_nil) | (refine' Dh.ent_cons ?q0 ?k; (case q0 => walk_at "pk"); (case k => walk_at "ent")) | (refine' Dh.ent_drop ?k; (case k => walk_at "ent")))
local macro_rules | `(tactic| walk_at "side") => `(tactic| first | omega | decide | (simp only [L2.CMul, L2.CDiv, L2.CDivN]; omega) | (unfold L2.CPow; decide) | (simp only [List.length_cons, List.length_nil, List.length_append, List.length_map, List.length_range, List.length_replicate, List.length_set, List.length_take, List.length_drop, PySem.sizeLine_eq] <;> omega))
local macro_rules | `(tactic| walk_at "ixs") => `(tactic| first | assumption | omega | (simp only [List.length_set, List.length_map, List.length_cons, List.length_nil, List.length_append, List.length_replicate] <;> first | assumption | omega))
local macro_rules | `(tactic| walk_at "lk") => `(tactic| first | rfl | assumption | (exact Dh.ixN_lt (by walk_at "ixs")) | (exact Dh.atI_lt (by assumption))  | with_reducible exact Toy.lk_Ring_rows | with_reducible exact Toy.lk_Ring_by_device | with_reducible exact Toy.lk_Ring_done | with_reducible exact Toy.lk_Ring_fill_at | with_reducible exact Toy.lk_Ring_work_at | with_reducible exact Toy.lk_Ring_reap_at | with_reducible exact Toy.lk_Ring_filled | with_reducible exact Toy.no_Ring_init | with_reducible exact Toy.no_Ring_fill | with_reducible exact Toy.no_Ring_work | with_reducible exact Toy.no_Ring_reap | with_reducible exact Toy.no_Ring_left_room | with_reducible exact Toy.lk_Queue_many | with_reducible exact Toy.lk_Queue_round_at | with_reducible exact Toy.lk_Queue_table | with_reducible exact Toy.lk_Queue_free | with_reducible exact Toy.lk_Queue_given | with_reducible exact Toy.lk_Queue_used | with_reducible exact Toy.lk_Queue_given_count | with_reducible exact Toy.lk_Queue_used_count | with_reducible exact Toy.lk_Queue_device_seen | with_reducible exact Toy.lk_Queue_out | with_reducible exact Toy.lk_Queue_driver_seen | with_reducible exact Toy.no_Queue_init | with_reducible exact Toy.no_Queue_give | with_reducible exact Toy.no_Queue_untaken | with_reducible exact Toy.no_Queue_take | with_reducible exact Toy.no_Queue_use | with_reducible exact Toy.no_Queue_reap | with_reducible exact Toy.no_Queue_needs_call | with_reducible exact Toy.lk_Pipe_cells | with_reducible exact Toy.lk_Pipe_put_at | with_reducible exact Toy.lk_Pipe_get_at | with_reducible exact Toy.no_Pipe_init | with_reducible exact Toy.no_Pipe_lying | with_reducible exact Toy.no_Pipe_put | with_reducible exact Toy.no_Pipe_get)
local macro_rules | `(tactic| walk_at "pf") => `(tactic| first  | with_reducible exact Toy.pf_Ring_rows | with_reducible exact Toy.pf_Ring_by_device | with_reducible exact Toy.pf_Ring_done | with_reducible exact Toy.pf_Ring_fill_at | with_reducible exact Toy.pf_Ring_work_at | with_reducible exact Toy.pf_Ring_reap_at | with_reducible exact Toy.pf_Ring_filled | with_reducible exact Toy.gr_Ring_rows | with_reducible exact Toy.gr_Ring_by_device | with_reducible exact Toy.gr_Ring_done | with_reducible exact Toy.gr_Ring_fill_at | with_reducible exact Toy.gr_Ring_work_at | with_reducible exact Toy.gr_Ring_reap_at | with_reducible exact Toy.gr_Ring_filled | with_reducible exact Toy.pf_Queue_many | with_reducible exact Toy.pf_Queue_round_at | with_reducible exact Toy.pf_Queue_table | with_reducible exact Toy.pf_Queue_free | with_reducible exact Toy.pf_Queue_given | with_reducible exact Toy.pf_Queue_used | with_reducible exact Toy.pf_Queue_given_count | with_reducible exact Toy.pf_Queue_used_count | with_reducible exact Toy.pf_Queue_device_seen | with_reducible exact Toy.pf_Queue_out | with_reducible exact Toy.pf_Queue_driver_seen | with_reducible exact Toy.gr_Queue_many | with_reducible exact Toy.gr_Queue_round_at | with_reducible exact Toy.gr_Queue_table | with_reducible exact Toy.gr_Queue_free | with_reducible exact Toy.gr_Queue_given | with_reducible exact Toy.gr_Queue_used | with_reducible exact Toy.gr_Queue_given_count | with_reducible exact Toy.gr_Queue_used_count | with_reducible exact Toy.gr_Queue_device_seen | with_reducible exact Toy.gr_Queue_out | with_reducible exact Toy.gr_Queue_driver_seen | with_reducible exact Toy.pf_Pipe_cells | with_reducible exact Toy.pf_Pipe_put_at | with_reducible exact Toy.pf_Pipe_get_at | with_reducible exact Toy.gr_Pipe_cells | with_reducible exact Toy.gr_Pipe_put_at | with_reducible exact Toy.gr_Pipe_get_at | rfl)
local macro_rules | `(tactic| walk_at "ln") => `(tactic| first  | with_reducible exact Toy.ln_Ring | with_reducible exact Toy.ln_Queue | with_reducible exact Toy.ln_Pipe | decide | (simp only [List.length_cons, List.length_nil] <;> omega))
local macro_rules | `(tactic| walk_at "hasm") => `(tactic| first | (refine' Toy.hasM_pipe ?q0 ?q1; (case q0 => walk_at "pk"); (case q1 => (intros; walk_at "lk"))) | (refine' Toy.hasM_queue ?q0 ?q1; (case q0 => walk_at "pk"); (case q1 => (intros; walk_at "lk"))) | (refine' Toy.hasM_ring ?q0 ?q1; (case q0 => walk_at "pk"); (case q1 => (intros; walk_at "lk"))) | (refine' Dh.hasM_ob ?q0 ?q1; (case q0 => walk_at "pk"); (case q1 => walk_at "lk")))
local macro_rules | `(tactic| walk_at "vcp0") => `(tactic| first | ((with_reducible refine' Dh.g_seq ?k)) | ((with_reducible refine' Dh.g_next ?k)) | ((with_reducible refine' Dh.g_nonA ?k)) | ((with_reducible refine' Dh.g_var ?q0 ?k); (case q0 => rfl)) | ((with_reducible refine' Dh.g_c ?k)) | ((with_reducible refine' Dh.g_op ?k)) | ((with_reducible refine' Dh.g_asg ?k)) | ((with_reducible refine' Dh.g_name ?k)) | ((with_reducible refine' Dh.g_ifS ?k)) | ((with_reducible refine' Dh.g_test ?k)) | ((with_reducible refine' Dh.g_isB ?k)) | ((with_reducible refine' Dh.g_B ?k)) | ((with_reducible refine' Dh.g_ret ?k)) | ((with_reducible refine' Dh.g_retN ?k)) | ((with_reducible refine' Dh.g_drop ?k)) | ((with_reducible refine' Dh.g_brk ?k)) | ((with_reducible refine' Dh.g_cont ?k)) | ((with_reducible refine' Dh.g_un ?k)) | ((with_reducible refine' Dh.g_I0 ?k)) | ((with_reducible refine' Dh.g_addI ?k)) | ((with_reducible refine' Dh.g_addB ?k)) | ((with_reducible refine' Dh.g_addS ?q0 ?k); (case q0 => walk_at "side")) | ((with_reducible refine' Dh.g_addM ?q0 ?q1 ?q2 ?k); (case q0 => walk_at "pk"); (case q1 => walk_at "pk"); (case q2 => walk_at "side"); intro _) | ((with_reducible refine' Dh.g_addL ?q0 ?q1 ?q2 ?k); (case q0 => walk_at "pk"); (case q1 => walk_at "pk"); (case q2 => walk_at "side"); intro _))
local macro_rules | `(tactic| walk_at "vcp1") => `(tactic| first | ((with_reducible refine' Dh.g_I ?q0 ?k); (case q0 => walk_at "side")) | ((with_reducible refine' Dh.g_mulI ?q0 ?k); (case q0 => walk_at "side")) | ((with_reducible refine' Dh.g_U ?k)) | ((with_reducible refine' Dh.g_eqS ?q0 ?k); (case q0 => rfl)) | ((with_reducible refine' Dh.g_neS ?q0 ?k); (case q0 => rfl)) | ((with_reducible refine' Dh.g_eqLL ?q0 ?q1 ?k); (case q0 => walk_at "pk"); (case q1 => walk_at "pk")) | ((with_reducible refine' Dh.g_neLL ?q0 ?q1 ?k); (case q0 => walk_at "pk"); (case q1 => walk_at "pk")) | ((with_reducible refine' Dh.g_eqL0 ?q0 ?q1 ?k); (case q0 => walk_at "pk"); (case q1 => walk_at "pk")) | ((with_reducible refine' Dh.g_neL0 ?q0 ?q1 ?k); (case q0 => walk_at "pk"); (case q1 => walk_at "pk")) | ((with_reducible refine' Dh.g_neT0 ?q0 ?q1 ?q2 ?k); (case q0 => walk_at "pk"); (case q1 => walk_at "pk"); (case q2 => walk_at "pk")) | ((with_reducible refine' Dh.g_neP ?q0 ?q1 ?k); (case q0 => walk_at "pk"); (case q1 => walk_at "pk")) | ((with_reducible refine' Dh.g_inI ?q0 ?k); (case q0 => walk_at "pk")) | ((with_reducible refine' Dh.g_isN ?k)) | ((with_reducible refine' Dh.g_notN ?k)) | ((with_reducible refine' Dh.g_ixL ?q0 ?q1 ?k); (case q0 => walk_at "pk"); (case q1 => walk_at "lk")) | ((with_reducible refine' Dh.g_ixT ?q0 ?q1 ?k); (case q0 => walk_at "pk"); (case q1 => walk_at "lk")) | ((with_reducible refine' Dh.g_sl ?k)) | ((with_reducible refine' Dh.g_noPart ?k)) | ((with_reducible refine' Dh.g_part ?k)) | ((with_reducible refine' Dh.g_isSomeInt ?k)) | ((with_reducible refine' Dh.g_slTk ?q0 ?k); (case q0 => walk_at "pk"); intro _) | ((with_reducible refine' Dh.g_slDr ?q0 ?k); (case q0 => walk_at "pk"); intro _) | ((with_reducible refine' Dh.g_slL ?q0 ?k); (case q0 => walk_at "pk"); intro _) | ((with_reducible refine' Dh.g_slQTk ?q0 ?k); (case q0 => walk_at "pk"); intro _))
local macro_rules | `(tactic| walk_at "vcp2") => `(tactic| first | ((with_reducible refine' Dh.g_slQ ?q0 ?k); (case q0 => walk_at "pk"); intro _) | ((with_reducible refine' Dh.g_fldE ?k)) | ((with_reducible refine' Dh.g_fld ?q0 ?q1 ?k); (case q0 => walk_at "pk"); (case q1 => walk_at "lk")) | ((with_reducible refine' Dh.g_tup ?k)) | ((with_reducible refine' Dh.g_lst ?k)) | ((with_reducible refine' Dh.g_newT ?q0 ?k); (case q0 => walk_at "side"); intro _) | ((with_reducible refine' Dh.g_newL ?q0 ?k); (case q0 => walk_at "side"); intro _) | ((with_reducible refine' Dh.g_nil ?k)) | ((with_reducible refine' Dh.g_cons ?k)) | ((with_reducible refine' Dh.g_call ?k)) | ((with_reducible refine' Dh.g_methE ?k)) | ((with_reducible refine' Dh.g_meth ?q0 ?k); (case q0 => walk_at "hasm")) | ((with_reducible refine' Dh.g_make ?k)) | ((with_reducible refine' Dh.g_made ?k); intro _) | ((with_reducible refine' Dh.g_cb ?k)) | ((with_reducible refine' Dh.g_int ?k)) | ((with_reducible refine' Dh.g_intB ?k)) | ((with_reducible refine' Dh.g_abs ?k)) | ((with_reducible refine' Dh.g_max2 ?k)) | ((with_reducible refine' Dh.g_min2 ?k)) | ((with_reducible refine' Dh.g_strI ?q0 ?k); (case q0 => walk_at "side")) | ((with_reducible refine' Dh.g_lenL ?q0 ?k); (case q0 => walk_at "pk")) | ((with_reducible refine' Dh.g_lenT ?q0 ?k); (case q0 => walk_at "pk")) | ((with_reducible refine' Dh.g_lenD ?q0 ?k); (case q0 => walk_at "pk")))
local macro_rules | `(tactic| walk_at "vcp3") => `(tactic| first | ((with_reducible refine' Dh.g_listL ?q0 ?k); (case q0 => walk_at "pk"); intro _) | ((with_reducible refine' Dh.g_listT ?q0 ?k); (case q0 => walk_at "pk"); intro _) | ((with_reducible refine' Dh.g_tupL ?q0 ?k); (case q0 => walk_at "pk"); intro _) | ((with_reducible refine' Dh.g_tupT ?q0 ?k); (case q0 => walk_at "pk")) | ((with_reducible refine' Dh.g_pop0 ?q0 ?k); (case q0 => walk_at "pk")) | ((with_reducible refine' Dh.g_bm ?k)) | ((with_reducible refine' Dh.g_bm0 ?k)) | ((with_reducible refine' Dh.g_tyL ?q0 ?k); (case q0 => walk_at "pk")) | ((with_reducible refine' Dh.g_append ?q0 ?q1 ?k); (case q0 => walk_at "pk"); (case q1 => walk_at "side")) | ((with_reducible refine' Dh.g_rep ?q0 ?q1 ?q2 ?q3 ?k); (case q0 => walk_at "pk"); (case q1 => walk_at "side"); (case q2 => walk_at "side"); (case q3 => walk_at "side"); intro _) | ((with_reducible refine' Dh.g_not ?k)) | ((with_reducible refine' Dh.g_tand ?k)) | ((with_reducible refine' Dh.g_tor ?k)) | ((with_reducible refine' Dh.g_andV ?k)) | ((with_reducible refine' Dh.g_orV ?k)) | ((with_reducible refine' Dh.g_notV ?k)) | ((with_reducible refine' Dh.g_ifE ?k)) | ((with_reducible refine' Dh.g_chain ?k)) | ((with_reducible refine' Dh.g_tru ?k)) | ((with_reducible refine' Dh.g_truB ?k)) | ((with_reducible refine' Dh.g_truI ?k)) | ((with_reducible refine' Dh.g_truN ?k)) | ((with_reducible refine' Dh.g_truL ?q0 ?k); (case q0 => walk_at "pk")) | ((with_reducible refine' Dh.g_gsub ?k)))
local macro_rules | `(tactic| walk_at "vcp4") => `(tactic| first | ((with_reducible refine' Dh.g_setL ?q0 ?q1 ?k); (case q0 => walk_at "pk"); (case q1 => walk_at "lk")) | ((with_reducible refine' Dh.g_gtup ?q0 ?q1 ?k); (case q0 => walk_at "pk"); (case q1 => rfl)) | ((with_reducible refine' Dh.g_gnil ?k)) | ((with_reducible refine' Dh.g_gcons ?k)) | ((with_reducible refine' Dh.g_par ?k)) | ((with_reducible refine' Dh.g_par2 ?k)) | ((with_reducible refine' Dh.g_par3 ?k)) | ((with_reducible refine' Dh.g_par3b ?k)) | ((with_reducible refine' Dh.g_listRg ?k)) | ((with_reducible refine' Dh.g_rg1E ?k)) | ((with_reducible refine' Dh.g_rg1 ?k)) | ((with_reducible refine' Dh.g_rgN ?q0 ?k); (case q0 => walk_at "side"); intro _) | ((with_reducible refine' Dh.g_rgL ?q0 ?k); (case q0 => walk_at "side"); intro _) | ((with_reducible refine' Dh.g_dinE ?k)) | ((with_reducible refine' Dh.g_dinI ?q0 ?k); (case q0 => walk_at "pk")) | ((with_reducible refine' Dh.g_dnotinE ?k)) | ((with_reducible refine' Dh.g_dnotinI ?q0 ?k); (case q0 => walk_at "pk")) | ((with_reducible refine' Dh.g_dgetE ?k)) | ((with_reducible refine' Dh.g_dgetI ?q0 ?q1 ?k); (case q0 => walk_at "pk"); (case q1 => walk_at "lk")) | ((with_reducible refine' Dh.g_dputE ?k)) | ((with_reducible refine' Dh.g_dputI ?q0 ?q1 ?k); (case q0 => walk_at "pk"); (case q1 => walk_at "side")) | ((with_reducible refine' Dh.g_dpopE ?k)) | ((with_reducible refine' Dh.g_dpopA ?q0 ?k); (case q0 => walk_at "pk")) | ((with_reducible refine' Dh.g_dpopB ?q0 ?q1 ?k); (case q0 => walk_at "pk"); (case q1 => walk_at "lk")))
local macro_rules | `(tactic| walk_at "vcp5") => `(tactic| first | ((with_reducible refine' Dh.g_dnew ?k); intro _) | ((with_reducible refine' Dh.g_ipMul ?q0 ?k); (case q0 => walk_at "side")) | ((with_reducible refine' Dh.g_sfldE ?k)) | ((with_reducible refine' Dh.g_sfld ?q0 ?q1 ?q2 ?k); (case q0 => walk_at "pk"); (case q1 => walk_at "pf"); (case q2 => walk_at "ln")) | ((with_reducible refine' Dh.g_augE ?k)) | ((with_reducible refine' Dh.g_augF ?q0 ?q1 ?k); (case q0 => walk_at "pk"); (case q1 => walk_at "lk")) | ((with_reducible refine' Dh.g_augV ?q0 ?k); (case q0 => rfl)) | ((with_reducible refine' Dh.g_ipI ?k)) | ((with_reducible refine' Dh.g_rAdd ?k)) | ((with_reducible refine' Dh.g_rSub ?k)) | ((with_reducible refine' Dh.g_for ?k)) | ((with_reducible refine' Dh.g_iRng1 ?k)) | ((with_reducible refine' Dh.g_iRng2 ?k)) | ((with_reducible refine' Dh.g_rng1 ?q0 ?q1 ?k); (case q0 => walk_at "side"); (case q1 => walk_at "side")) | ((with_reducible refine' Dh.g_rng2 ?q0 ?k); (case q0 => walk_at "side")) | ((with_reducible refine' Dh.g_iSeqE ?k)) | ((with_reducible refine' Dh.g_iSeqL ?q0 ?k); (case q0 => walk_at "pk")) | ((with_reducible refine' Dh.g_iSeqT ?q0 ?k); (case q0 => walk_at "pk")) | ((with_reducible refine' Dh.g_wbody ?k)) | ((with_reducible refine' Dh.g_lcE ?k)) | ((with_reducible refine' Dh.g_turn ?k)) | ((with_reducible refine' Dh.g_tYes ?k)) | ((with_reducible refine' Dh.g_rs ?k)) | ((with_reducible refine' Dh.g_rsW ?k)))
local macro_rules | `(tactic| walk_at "vcp6") => `(tactic| first | ((with_reducible refine' Dh.g_told ?k)) | ((with_reducible refine' Dh.g_ifT ?q0 ?k); (case q0 => rfl)) | ((with_reducible refine' Dh.g_ifF ?q0 ?k); (case q0 => rfl)))
local macro_rules | `(tactic| walk_at "vc1") => `(tactic| first | walk_at "vcp0" | walk_at "vcp1" | walk_at "vcp2" | walk_at "vcp3" | walk_at "vcp4" | walk_at "vcp5" | walk_at "vcp6")
local macro_rules | `(tactic| walk_at "vc") => `(tactic| repeat walk_at "vc1")
local macro_rules | `(tactic| walk_at "spl") => `(tactic| first | ((with_reducible refine Dh.g_ifD ?_ ?_) <;> intro _) | ((with_reducible refine Dh.g_ifN ?_ ?_) <;> intro _) | ((with_reducible refine Dh.g_if ?_ ?_) <;> intro _))
local macro_rules | `(tactic| walk_at "vcs") => `(tactic| repeat' (first | walk_at "vc1" | walk_at "spl"))
namespace Toy
open PySem L2
section
variable {P : Program} {w : World} {K : PySem.W.Frag} {mg : Str → Option Value} {base : Heap} {T : List (Addr × Str)} {C_Ring C_Queue C_Pipe C_BadWord C_BadPlace C_BadPlan C_NotDue C_Stuck C_BadBits C_BadText C_TooLarge g_told : Addr}
def LInv (C d ra : Addr) (m : Nat) (R : List Dh.HP) (sc : V) : Nat → Dh.SI := fun i σ L => ∃ (fa wa pa : Addr) (F W Rp : List Int) (c : Nat) (v8 v9 v10 : Option V),
  σ = [some sc, some (.ref d), some (.int m), some (.ref ra), some (.ref fa), some (.ref wa), some (.ref pa), some (.int c), v8, v9, v10] ∧ c ≤ i ∧ Rp ++ (W ++ F) = Dh.natI c ∧ F.length + W.length ≤ m ∧
  Dh.Ent L (Dh.pt fa (.lst (F.map .int)) :: Dh.pt wa (.lst (W.map .int)) :: Dh.pt pa (.lst (Rp.map .int)) :: RingAt C ra m W F :: DiceAt d :: R)
theorem natI_succ {c : Nat} : Dh.natI (c + 1) = Dh.natI c ++ [(c : Int)] := by
  unfold Dh.natI
  rw [List.range_succ, List.map_append]
  rfl
theorem natI_pre {A B : List Int} {c : Nat} (h : A ++ B = Dh.natI c) : A = Dh.natI A.length := by
  unfold Dh.natI at h ⊢
  have h1 : A = (A ++ B).take A.length := by simp
  rw [h, ← List.map_take, List.take_range] at h1
  have h2 : A.length ≤ c := by
    have := congrArg List.length h
    simp at this
    omega
  rw [Nat.min_eq_left h2] at h1
  exact h1
def sg_law (T : List (Addr × Str)) (K : PySem.W.Frag) (C_Ring C_Queue C_Pipe C_BadWord C_BadPlace C_BadPlan C_NotDue C_Stuck C_BadBits C_BadText C_TooLarge g_told : Addr) : Dh.SG :=
  fun vs L Q E => ∃ (a : Addr) (ns : List Int) (R : List Dh.HP), vs = [.ref a] ∧ Dh.Ent L (Dh.sq K a (ns.map .int) :: R) ∧ Dh.Go T [] fun H => Q (.bl true) H
set_option maxHeartbeats 8000000 in
theorem ok_law (Z : Txt K mg C_Ring C_Queue C_Pipe C_BadWord C_BadPlace C_BadPlan C_NotDue C_Stuck C_BadBits C_BadText C_TooLarge g_told) (c_Pipe : Dh.MakX P w K mg base 1 "Pipe" C_Pipe (Dh.sOfN T 2 (sg_Pipe___init__ T K C_Ring C_Queue C_Pipe C_BadWord C_BadPlace C_BadPlan C_NotDue C_Stuck C_BadBits C_BadText C_TooLarge g_told))) (c_Queue : Dh.MakX P w K mg base 1 "Queue" C_Queue (Dh.sOfN T 3 (sg_Queue___init__ T K C_Ring C_Queue C_Pipe C_BadWord C_BadPlace C_BadPlan C_NotDue C_Stuck C_BadBits C_BadText C_TooLarge g_told))) (c_Ring : Dh.MakX P w K mg base 1 "Ring" C_Ring (Dh.sOfN T 2 (sg_Ring___init__ T K C_Ring C_Queue C_Pipe C_BadWord C_BadPlace C_BadPlan C_NotDue C_Stuck C_BadBits C_BadText C_TooLarge g_told))) (c_Ring_fill : Dh.MetX P w K mg base 1 C_Ring "fill" (Dh.sOfN T 2 (sg_Ring_fill T K C_Ring C_Queue C_Pipe C_BadWord C_BadPlace C_BadPlan C_NotDue C_Stuck C_BadBits C_BadText C_TooLarge g_told))) (c_Ring_left_room : Dh.MetX P w K mg base 1 C_Ring "left_room" (Dh.sOfN T 1 (sg_Ring_left_room T K C_Ring C_Queue C_Pipe C_BadWord C_BadPlace C_BadPlan C_NotDue C_Stuck C_BadBits C_BadText C_TooLarge g_told))) (c_Ring_reap : Dh.MetX P w K mg base 1 C_Ring "reap" (Dh.sOfN T 1 (sg_Ring_reap T K C_Ring C_Queue C_Pipe C_BadWord C_BadPlace C_BadPlan C_NotDue C_Stuck C_BadBits C_BadText C_TooLarge g_told))) (c_Ring_work : Dh.MetX P w K mg base 1 C_Ring "work" (Dh.sOfN T 1 (sg_Ring_work T K C_Ring C_Queue C_Pipe C_BadWord C_BadPlace C_BadPlan C_NotDue C_Stuck C_BadBits C_BadText C_TooLarge g_told))) (c_law_pipe : Dh.CalX P w K mg base 3 "_law_pipe" (Dh.sOfN T 1 (sg_law_pipe T K C_Ring C_Queue C_Pipe C_BadWord C_BadPlace C_BadPlan C_NotDue C_Stuck C_BadBits C_BadText C_TooLarge g_told))) (c_law_queue : Dh.CalX P w K mg base 5 "_law_queue" (Dh.sOfN T 1 (sg_law_queue T K C_Ring C_Queue C_Pipe C_BadWord C_BadPlace C_BadPlan C_NotDue C_Stuck C_BadBits C_BadText C_TooLarge g_told))) (c_law_roll : Dh.CalX P w K mg base 1 "_law_roll" (Dh.sOfN T 2 (sg_law_roll T K C_Ring C_Queue C_Pipe C_BadWord C_BadPlace C_BadPlan C_NotDue C_Stuck C_BadBits C_BadText C_TooLarge g_told))) (c_law_rounds : Dh.CalX P w K mg base 2 "_law_rounds" (Dh.sOfN T 2 (sg_law_rounds T K C_Ring C_Queue C_Pipe C_BadWord C_BadPlace C_BadPlan C_NotDue C_Stuck C_BadBits C_BadText C_TooLarge g_told))) {cc PP : Addr} (TB : LamX.TabB base mg cc PP) (hmT : (PP, Dh.lamQ (Dh.locQ "law")) ∈ T) (huT : ∀ p ∈ T, p.1 = PP → p.2 = Dh.lamQ (Dh.locQ "law")) {f : Addr} {fd : FuncData} (F : Dh.FunC K "law" "law" s_law f fd (.ref cc)) :
    FnOk P w K mg base (L2.CX P w) 6 f fd ["script"] (Dh.sOfN T 1 (sg_law T K C_Ring C_Queue C_Pipe C_BadWord C_BadPlace C_BadPlan C_NotDue C_Stuck C_BadBits C_BadText C_TooLarge g_told)) := by
  refine Dh.fnX (k := 5) F sc_law rfl (fun A outer s H0 L vs Q E hr hl h => ?_)
  refine ⟨_, (pss_cons (ps_for (passes_of rfl) rfl (Dh.piSeq (K := K) rfl (Dh.pe_cal c_law_rounds hr (by decide) (passes_call (takes_of rfl rfl rfl rfl) (fun _ _ _ _ h => h)) rfl (pa_cons (pv 0) (pa_cons pe_int pa_nil)))) (pg_name (i := 1) sc_law.nd rfl (by first | exact Or.inl rfl | exact Or.inr rfl))
    (pss_cons (ps_set (i := 2) sc_law.nd rfl (by first | exact Or.inl rfl | exact Or.inr rfl) (pe_op (Dh.oAdd (K := K) rfl) pe_int (Dh.pe_cal c_law_roll hr (by decide) (passes_call (takes_of rfl rfl rfl rfl) (fun _ _ _ _ h => h)) rfl (pa_cons (pv 1) (pa_cons pe_int pa_nil)))))
    (pss_cons (ps_asg (pe_tup (pa_cons (Dh.pe_mak c_Ring hr (by decide) (passes_call (takes_of rfl rfl rfl rfl) (fun _ _ _ _ h => h)) rfl (pa_cons (pv 2) pa_nil)) (pa_cons (pe_lst pa_nil) (pa_cons (pe_lst pa_nil) (pa_cons (pe_lst pa_nil) (pa_cons pe_int pa_nil)))))) (Dh.pgTup (K := K) rfl rfl (pgs_cons (pg_name (i := 3) sc_law.nd rfl (by first | exact Or.inl rfl | exact Or.inr rfl)) (pgs_cons (pg_name (i := 4) sc_law.nd rfl (by first | exact Or.inl rfl | exact Or.inr rfl)) (pgs_cons (pg_name (i := 5) sc_law.nd rfl (by first | exact Or.inl rfl | exact Or.inr rfl)) (pgs_cons (pg_name (i := 6) sc_law.nd rfl (by first | exact Or.inl rfl | exact Or.inr rfl)) (pgs_cons (pg_name (i := 7) sc_law.nd rfl (by first | exact Or.inl rfl | exact Or.inr rfl)) pgs_nil))))) rfl rfl))
    (pss_cons (ps_for (passes_of rfl) rfl (pi_range1 rfl Z.b_range (pa_cons (Dh.pe_cal c_law_roll hr (by decide) (passes_call (takes_of rfl rfl rfl rfl) (fun _ _ _ _ h => h)) rfl (pa_cons (pv 1) (pa_cons pe_int pa_nil))) pa_nil)) (pg_name (i := 8) sc_law.nd rfl (by first | exact Or.inl rfl | exact Or.inr rfl))
    (pss_cons (ps_set (i := 9) sc_law.nd rfl (by first | exact Or.inl rfl | exact Or.inr rfl) (Dh.pe_cal c_law_roll hr (by decide) (passes_call (takes_of rfl rfl rfl rfl) (fun _ _ _ _ h => h)) rfl (pa_cons (pv 1) (pa_cons pe_int pa_nil))))
    (pss_cons (ps_if (pt_cmpR (Dh.oEq (K := K) rfl hr.units) (pv 9) pe_int (nomark _))
    (pss_cons (ps_set (i := 10) sc_law.nd rfl (by first | exact Or.inl rfl | exact Or.inr rfl) (pe_cmpR (Dh.oEq (K := K) rfl hr.units) (pe_op (Dh.oAdd (K := K) rfl) (pe_callB (Dh.cLen (K := K) rfl) (by rfl) Z.b_len (by first | exact PySem.boot_len | exact PyProof.Rows.boot_len | decide +kernel) (pa_cons (pv 4) pa_nil)) (pe_callB (Dh.cLen (K := K) rfl) (by rfl) Z.b_len (by first | exact PySem.boot_len | exact PyProof.Rows.boot_len | decide +kernel) (pa_cons (pv 5) pa_nil))) (pv 2) (nomark _)))
    (pss_cons (ps_if (pt_cmpR (Dh.oNe (K := K) rfl hr.units) (pe_cmpR (Dh.oEq (K := K) rfl hr.units) (Dh.pe_told (k := 1) (T := T) (cs := [(C_BadWord, "word"), (C_BadPlace, "place"), (C_BadPlan, "plan"), (C_NotDue, "due"), (C_Stuck, "stuck"), (C_BadBits, "bits"), (C_BadText, "text"), (C_TooLarge, "large")]) Z.t_law_told (fun _ _ _ _ _ _ => bnd_law_told) sc_law_told rfl (by first | exact Or.inl rfl | exact Or.inr (Or.inl rfl)) (fun _ _ => told_law_told Z) TB Dh.cx_code Dh.cx_qual hmT huT hr (by decide) (LamX.lamS_by (by kernel_rfl)) rfl (fun _ _ _ _ _ => rfl) rfl (fun A outer s H E f c' hr2 => (Dh.pe_met c_Ring_fill hr2 (by decide) (passes_call (takes_of rfl rfl rfl rfl) (fun _ _ _ _ h => h)) (pv 3) (pa_cons (pv 7) pa_nil)))) pe_str (nomark _)) (pv 10) (nomark _))
    (pss_one (ps_ret pe_bl))
    pss_nil)
    (pss_one (ps_asg (pe_tup (pa_cons (pe_op (Dh.oAdd (K := K) rfl) (pv 4) (pe_op (Dh.oMul (K := K) rfl) (pe_lst (pa_cons (pv 7) pa_nil)) (pe_callTy Dh.call_intX (by rfl) Z.b_int (by first | exact PySem.boot_int | exact PyProof.Rows.boot_int | decide +kernel) (pa_cons (pe_not (pv 10)) pa_nil)))) (pa_cons (pe_op (Dh.oAdd (K := K) rfl) (pv 7) (pe_callTy Dh.call_intX (by rfl) Z.b_int (by first | exact PySem.boot_int | exact PyProof.Rows.boot_int | decide +kernel) (pa_cons (pe_not (pv 10)) pa_nil))) pa_nil))) (Dh.pgTup (K := K) rfl rfl (pgs_cons (pg_name (i := 4) sc_law.nd rfl (by first | exact Or.inl rfl | exact Or.inr rfl)) (pgs_cons (pg_name (i := 7) sc_law.nd rfl (by first | exact Or.inl rfl | exact Or.inr rfl)) pgs_nil)) rfl rfl)))))
    (pss_one (ps_if (pt_cmpR (Dh.oEq (K := K) rfl hr.units) (pv 9) pe_int (nomark _))
    (pss_cons (ps_if (pt_cmpR (Dh.oNe (K := K) rfl hr.units) (Dh.pe_told (k := 1) (T := T) (cs := [(C_BadWord, "word"), (C_BadPlace, "place"), (C_BadPlan, "plan"), (C_NotDue, "due"), (C_Stuck, "stuck"), (C_BadBits, "bits"), (C_BadText, "text"), (C_TooLarge, "large")]) Z.t_law_told (fun _ _ _ _ _ _ => bnd_law_told) sc_law_told rfl (by first | exact Or.inl rfl | exact Or.inr (Or.inl rfl)) (fun _ _ => told_law_told Z) TB Dh.cx_code Dh.cx_qual hmT huT hr (by decide) (LamX.lamS_by (by kernel_rfl)) rfl (fun _ _ _ _ _ => rfl) rfl (fun A outer s H E f c' hr2 => (Dh.pe_met0 c_Ring_work hr2 (by decide) (passes_call (takes_of rfl rfl rfl rfl) (fun _ _ _ _ h => h)) (pv 3)))) (pe_ifExp (pt_cmpR (Dh.oNe (K := K) rfl hr.units) (pv 4) (pe_lst pa_nil) (nomark _)) (pe_ix (Dh.xSeq (K := K) rfl) (pv 4) pe_int (fun _ _ => rfl)) pe_str) (nomark _))
    (pss_one (ps_ret pe_bl))
    pss_nil)
    (pss_one (ps_par (i := 4) (j := 5) (by rfl) sc_law.nd rfl rfl (by decide) rfl rfl (pa_cons (pe_slice (Dh.slSeq (K := K) rfl) (pv 4) (po_some pe_int) po_none) (pa_cons (pe_op (Dh.oAdd (K := K) rfl) (pv 5) (pe_slice (Dh.slSeq (K := K) rfl) (pv 4) po_none (po_some pe_int))) pa_nil)) (by rfl))))
    (pss_cons (ps_if (pt_cmpR (Dh.oNe (K := K) rfl hr.units) (Dh.pe_told (k := 1) (T := T) (cs := [(C_BadWord, "word"), (C_BadPlace, "place"), (C_BadPlan, "plan"), (C_NotDue, "due"), (C_Stuck, "stuck"), (C_BadBits, "bits"), (C_BadText, "text"), (C_TooLarge, "large")]) Z.t_law_told (fun _ _ _ _ _ _ => bnd_law_told) sc_law_told rfl (by first | exact Or.inl rfl | exact Or.inr (Or.inl rfl)) (fun _ _ => told_law_told Z) TB Dh.cx_code Dh.cx_qual hmT huT hr (by decide) (LamX.lamS_by (by kernel_rfl)) rfl (fun _ _ _ _ _ => rfl) rfl (fun A outer s H E f c' hr2 => (Dh.pe_met0 c_Ring_reap hr2 (by decide) (passes_call (takes_of rfl rfl rfl rfl) (fun _ _ _ _ h => h)) (pv 3)))) (pe_ifExp (pt_cmpR (Dh.oNe (K := K) rfl hr.units) (pv 5) (pe_lst pa_nil) (nomark _)) (pe_ix (Dh.xSeq (K := K) rfl) (pv 5) pe_int (fun _ _ => rfl)) pe_str) (nomark _))
    (pss_one (ps_ret pe_bl))
    pss_nil)
    (pss_one (ps_par (i := 5) (j := 6) (by rfl) sc_law.nd rfl rfl (by decide) rfl rfl (pa_cons (pe_slice (Dh.slSeq (K := K) rfl) (pv 5) (po_some pe_int) po_none) (pa_cons (pe_op (Dh.oAdd (K := K) rfl) (pv 6) (pe_slice (Dh.slSeq (K := K) rfl) (pv 5) po_none (po_some pe_int))) pa_nil)) (by rfl)))))))
    (pss_one (ps_if (pt_cmpR (Dh.oNe (K := K) rfl hr.units) (Dh.pe_met0 c_Ring_left_room hr (by decide) (passes_call (takes_of rfl rfl rfl rfl) (fun _ _ _ _ h => h)) (pv 3)) (pe_op op_sub (pe_op op_sub (pv 2) (pe_callB (Dh.cLen (K := K) rfl) (by rfl) Z.b_len (by first | exact PySem.boot_len | exact PyProof.Rows.boot_len | decide +kernel) (pa_cons (pv 4) pa_nil))) (pe_callB (Dh.cLen (K := K) rfl) (by rfl) Z.b_len (by first | exact PySem.boot_len | exact PyProof.Rows.boot_len | decide +kernel) (pa_cons (pv 5) pa_nil))) (nomark _))
    (pss_one (ps_ret pe_bl))
    pss_nil)))))
    (pss_cons (ps_if (PW.pt (pw_or (pt_cmpR (Dh.oNe (K := K) rfl hr.units) (pv 6) (pe_listRg rfl (by rfl) Z.b_list (prg_1 (by rfl) Z.b_range (pe_callB (Dh.cLen (K := K) rfl) (by rfl) Z.b_len (by first | exact PySem.boot_len | exact PyProof.Rows.boot_len | decide +kernel) (pa_cons (pv 6) pa_nil)))) (nomark _)) (pw_or1 (pt_not (Dh.ptTru (K := K) rfl (Dh.pe_cal c_law_queue hr (by decide) (passes_call (takes_of rfl rfl rfl rfl) (fun _ _ _ _ h => h)) rfl (pa_cons (pv 1) pa_nil)))))))
    (pss_one (ps_ret pe_bl))
    pss_nil)
    (pss_cons (ps_if (pt_not (Dh.ptTru (K := K) rfl (Dh.pe_cal c_law_pipe hr (by decide) (passes_call (takes_of rfl rfl rfl rfl) (fun _ _ _ _ h => h)) rfl (pa_cons (pv 1) pa_nil))))
    (pss_one (ps_ret pe_bl))
    pss_nil)
    (pss_cons (ps_if (pt_cmpR (Dh.oNe (K := K) rfl hr.units) (Dh.pe_told (k := 2) (T := T) (cs := [(C_BadWord, "word"), (C_BadPlace, "place"), (C_BadPlan, "plan"), (C_NotDue, "due"), (C_Stuck, "stuck"), (C_BadBits, "bits"), (C_BadText, "text"), (C_TooLarge, "large")]) Z.t_law_told (fun _ _ _ _ _ _ => bnd_law_told) sc_law_told rfl (by first | exact Or.inl rfl | exact Or.inr (Or.inl rfl)) (fun _ _ => told_law_told Z) TB Dh.cx_code Dh.cx_qual hmT huT hr (by decide) (LamX.lamS_by (by kernel_rfl)) rfl (fun _ _ _ _ _ => rfl) rfl (fun A outer s H E f c' hr2 => (Dh.pe_mak c_Ring hr2 (by decide) (passes_call (takes_of rfl rfl rfl rfl) (fun _ _ _ _ h => h)) rfl (pa_cons pe_int pa_nil)))) pe_str (nomark _))
    (pss_one (ps_ret pe_bl))
    pss_nil)
    (pss_cons (ps_if (pt_cmpR (Dh.oNe (K := K) rfl hr.units) (Dh.pe_told (k := 2) (T := T) (cs := [(C_BadWord, "word"), (C_BadPlace, "place"), (C_BadPlan, "plan"), (C_NotDue, "due"), (C_Stuck, "stuck"), (C_BadBits, "bits"), (C_BadText, "text"), (C_TooLarge, "large")]) Z.t_law_told (fun _ _ _ _ _ _ => bnd_law_told) sc_law_told rfl (by first | exact Or.inl rfl | exact Or.inr (Or.inl rfl)) (fun _ _ => told_law_told Z) TB Dh.cx_code Dh.cx_qual hmT huT hr (by decide) (LamX.lamS_by (by kernel_rfl)) rfl (fun _ _ _ _ _ => rfl) rfl (fun A outer s H E f c' hr2 => (Dh.pe_mak c_Queue hr2 (by decide) (passes_call (takes_of rfl rfl rfl rfl) (fun _ _ _ _ h => h)) rfl (pa_cons pe_int (pa_cons pe_int pa_nil))))) pe_str (nomark _))
    (pss_one (ps_ret pe_bl))
    pss_nil)
    (pss_one (ps_if (pt_cmpR (Dh.oNe (K := K) rfl hr.units) (Dh.pe_told (k := 2) (T := T) (cs := [(C_BadWord, "word"), (C_BadPlace, "place"), (C_BadPlan, "plan"), (C_NotDue, "due"), (C_Stuck, "stuck"), (C_BadBits, "bits"), (C_BadText, "text"), (C_TooLarge, "large")]) Z.t_law_told (fun _ _ _ _ _ _ => bnd_law_told) sc_law_told rfl (by first | exact Or.inl rfl | exact Or.inr (Or.inl rfl)) (fun _ _ => told_law_told Z) TB Dh.cx_code Dh.cx_qual hmT huT hr (by decide) (LamX.lamS_by (by kernel_rfl)) rfl (fun _ _ _ _ _ => rfl) rfl (fun A outer s H E f c' hr2 => (Dh.pe_mak c_Pipe hr2 (by decide) (passes_call (takes_of rfl rfl rfl rfl) (fun _ _ _ _ h => h)) rfl (pa_cons pe_int pa_nil)))) pe_str (nomark _))
    (pss_one (ps_ret pe_bl))
    pss_nil))))))))))
    (pss_one (ps_ret pe_bl))), ?_⟩
  try dsimp only [L2.cxOf, L2.Cx.blk, LamX.lamCx, L2.Cx.tr]
  obtain ⟨a, ns, R, rfl, hE, k⟩ := h
  refine Dh.Go.ent hE ?_
  walk_at "vc"
  refine' Dh.g_sp rfl ⟨a, ns, 3, _, rfl, ?e1, by decide, fun p ps => ?k1⟩
  (case e1 => walk_at "ent")
  walk_at "vc"
  refine Dh.g_forL (xs := ps.map .ref) (fun i σ L => ∃ v1 v2 v3 v4 v5 v6 v7 v8 v9 v10, σ = [some (.ref a), v1, v2, v3, v4, v5, v6, v7, v8, v9, v10] ∧ Dh.Ent L [Dh.pt p (.lst (ps.map .ref)), Dh.Seps ((ps.drop i).map DiceAt)]) ⟨_, _, _, _, _, _, _, _, _, _, rfl, ?e2⟩ ?_ ?_ ?_
  case e2 =>
    rw [List.drop_zero]
    walk_at "ent"
  · rintro i σ L ⟨v1, v2, v3, v4, v5, v6, v7, v8, v9, v10, rfl, hE⟩
    exact hE.has (by walk_at "pk")
  · rintro i x σ L hx ⟨v1, v2, v3, v4, v5, v6, v7, v8, v9, v10, rfl, hE⟩
    rw [List.getElem?_map] at hx
    obtain ⟨d, hd, rfl⟩ := Option.map_eq_some_iff.mp hx
    have hi := (List.getElem?_eq_some_iff.mp hd).1
    have ed : ps.drop i = d :: ps.drop (i + 1) := by
      rw [List.drop_eq_getElem_cons hi]
      congr 1
      exact (List.getElem?_eq_some_iff.mp hd).2
    rw [ed, List.map_cons] at hE
    refine Dh.Go.ent (hE.trans (Dh.ent_tail Dh.seps_head)) ?_
    walk_at "vc"
    refine' Dh.g_sp rfl ⟨d, 4, _, rfl, ?e3, by decide, by decide, fun r r0 r1 => ?k3⟩
    (case e3 => walk_at "ent")
    obtain ⟨r, rfl⟩ : ∃ r' : Nat, r = (r' : Int) := ⟨r.toNat, by omega⟩
    walk_at "vc"
    refine' Dh.g_sp rfl ⟨_, 1 + (r : Int), _, rfl, ?e4, by omega, fun h => absurd h (by omega), fun m hm hm0 => ?k4⟩
    (case e4 => walk_at "ent")
    walk_at "vc"
    refine' Dh.g_sp rfl ⟨d, 21, _, rfl, ?e5, by decide, by decide, fun tt t0 t1 => ?k5⟩
    (case e5 => walk_at "ent")
    obtain ⟨tt, rfl⟩ : ∃ r' : Nat, tt = (r' : Int) := ⟨tt.toNat, by omega⟩
    walk_at "vc"
    rw [hm]
    rename_i ra r0 r1 r2 _
    refine Dh.g_forR (n := tt) (lo := 0) (LInv C_Ring d ra m [Dh.pt p (.lst (ps.map .ref)), Dh.Seps ((ps.drop (i + 1)).map DiceAt)] (.ref a)) ⟨_, _, _, [], [], [], 0, _, _, _, rfl, Nat.le_refl _, rfl, Nat.zero_le _, ?e6⟩ ?hs ?hd
    case e6 =>
      rw [List.map_nil]
      walk_at "ent"
    case hd =>
      rintro σ L ⟨fa, wa, pa, F, W, Rp, c, v8, v9, v10, rfl, hc, hp, hl, hE⟩
      refine Dh.Go.ent hE ?_
      have hR := natI_pre hp
      have hc' : Rp.length ≤ c := by
        have := congrArg List.length hp
        simp [Dh.natI] at this
        omega
      walk_at "vc"
      rw [List.length_map]
      walk_at "vc"
      refine Dh.g_ifF (by rw [← hR]; simp) ?_
      walk_at "vc"
      refine' Dh.g_sp rfl ⟨d, _, rfl, ?f1, ?f2⟩
      (case f1 => walk_at "ent")
      walk_at "vc"
      refine' Dh.g_sp rfl ⟨d, _, rfl, ?f3, ?f4⟩
      (case f3 => walk_at "ent")
      walk_at "vc"
      refine' Dh.g_sp rfl ⟨_, 0, _, rfl, ?f5, by decide, fun _ => ?f6, fun m h1 h2 => absurd h2 (by omega)⟩
      (case f5 => walk_at "ent")
      refine Dh.g_toldE Z.x_BadPlan_BadWord (fun h => by cases h) fun _ => Dh.g_toldE Z.x_BadPlan_BadPlace (fun h => by cases h) fun _ => Dh.g_toldE Z.x_BadPlan_BadPlan (fun _ => ?_) (fun h => by cases h)
      walk_at "vc"
      refine' Dh.g_sp rfl ⟨_, 3, 8, _, rfl, ?f7, by decide, .inr (.inl (by decide)), fun _ => ?f8, fun m h1 h2 h3 => absurd h3 (by omega)⟩
      (case f7 => walk_at "ent")
      refine Dh.g_toldE Z.x_BadPlan_BadWord (fun h => by cases h) fun _ => Dh.g_toldE Z.x_BadPlan_BadPlace (fun h => by cases h) fun _ => Dh.g_toldE Z.x_BadPlan_BadPlan (fun _ => ?_) (fun h => by cases h)
      walk_at "vc"
      refine' Dh.g_sp rfl ⟨_, 1, _, rfl, ?f9, by decide, fun _ => ?f10, fun m h1 h2 => absurd h2 (by omega)⟩
      (case f9 => walk_at "ent")
      refine Dh.g_toldE Z.x_BadPlan_BadWord (fun h => by cases h) fun _ => Dh.g_toldE Z.x_BadPlan_BadPlace (fun h => by cases h) fun _ => Dh.g_toldE Z.x_BadPlan_BadPlan (fun _ => ?_) (fun h => by cases h)
      walk_at "vc"
      refine Dh.SI.in ⟨_, _, _, _, _, _, _, _, _, _, rfl, ?f11⟩
      walk_at "ent"
    case hs =>
      rintro j σ L hj ⟨fa, wa, pa, F, W, Rp, c, v8, v9, v10, rfl, hc, hp, hl, hE⟩
      refine Dh.Go.ent hE ?_
      have hlen : Rp.length + (W.length + F.length) = c := by
        have := congrArg List.length hp
        simpa [Dh.natI] using this
      walk_at "vc"
      refine' Dh.g_sp rfl ⟨d, 3, _, rfl, ?a1, by decide, by decide, fun kd q0 q1 => ?a2⟩
      (case a1 => walk_at "ent")
      walk_at "vc"
      refine Dh.g_ifD (fun hk => ?b0) (fun hk => ?b1)
      case b0 =>
        walk_at "vc"
        refine' Dh.g_sp rfl ⟨ra, (c : Int), m, W, F, _, rfl, ?c1, fun hf => ?c2, fun r hf => ?c3⟩
        (case c1 => walk_at "ent")
        case c2 =>
          refine Dh.g_toldE Z.x_NotDue_BadWord (fun h => by cases h) fun _ => Dh.g_toldE Z.x_NotDue_BadPlace (fun h => by cases h) fun _ => Dh.g_toldE Z.x_NotDue_BadPlan (fun h => by cases h) fun _ => Dh.g_toldE Z.x_NotDue_NotDue (fun _ => ?_) (fun h => by cases h)
          have ef : decide (V.int (((F.map V.int).length : Int) + ((W.map V.int).length : Int)) = V.int (m : Int)) = true := by
            rw [decide_eq_true_eq, V.int.injEq, List.length_map, List.length_map]
            omega
          rw [ef]
          walk_at "vc"
          rw [show (List.replicate (if (!true) = true then 1 else 0 : Int).toNat [V.int (c : Int)]).flatten = ([] : List Int).map V.int from rfl]
          walk_at "vc"
          rw [List.append_nil]
          refine' Dh.g_sp rfl ⟨ra, m, W, F, _, rfl, ?mt1, ?mt2⟩
          (case mt1 => walk_at "ent")
          walk_at "vc"
          refine Dh.g_ifF ?mt3 ?_
          case mt3 =>
            simp only [List.length_map, List.length_append, List.length_cons, List.length_nil, Bool.not_eq_false', decide_eq_true_eq, V.int.injEq]
            omega
          walk_at "vc"
          refine Dh.SI.in ⟨_, _, _, F, W, Rp, c, _, _, _, rfl, by omega, hp, by omega, ?mt4⟩
          walk_at "ent"
        case c3 =>
          have ef : decide (V.int (((F.map V.int).length : Int) + ((W.map V.int).length : Int)) = V.int (m : Int)) = false := by
            rw [decide_eq_false_iff_not, V.int.injEq, List.length_map, List.length_map]
            omega
          rw [ef]
          walk_at "vc"
          rw [show (List.replicate (if (!false) = true then 1 else 0 : Int).toNat [V.int (c : Int)]).flatten = [(c : Int)].map V.int from rfl]
          walk_at "vc"
          refine' Dh.g_sp rfl ⟨ra, m, W, F ++ [(c : Int)], _, rfl, ?mu1, ?mu2⟩
          (case mu1 => walk_at "ent")
          walk_at "vc"
          refine Dh.g_ifF ?mu3 ?_
          case mu3 =>
            simp only [List.length_map, List.length_append, List.length_cons, List.length_nil, Bool.not_eq_false', decide_eq_true_eq, V.int.injEq]
            omega
          walk_at "vc"
          refine Dh.SI.in ⟨_, _, _, F ++ [(c : Int)], W, Rp, c + 1, _, _, _, rfl, by omega, by rw [natI_succ, ← hp]; simp, by rw [List.length_append]; simp only [List.length_cons, List.length_nil]; omega, ?mu4⟩
          walk_at "ent"
      case b1 =>
        walk_at "vc"
        refine Dh.g_ifD (fun hk1 => ?d1) (fun hk1 => ?d2)
        case d1 =>
          walk_at "vc"
          refine' Dh.g_sp rfl ⟨ra, m, W, F, _, rfl, ?g1, fun hf => ?g2, fun x F' hx => ?g3⟩
          (case g1 => walk_at "ent")
          case g2 =>
            refine Dh.g_toldE Z.x_NotDue_BadWord (fun h => by cases h) fun _ => Dh.g_toldE Z.x_NotDue_BadPlace (fun h => by cases h) fun _ => Dh.g_toldE Z.x_NotDue_BadPlan (fun h => by cases h) fun _ => Dh.g_toldE Z.x_NotDue_NotDue (fun _ => ?_) (fun h => by cases h)
            subst hf
            walk_at "vc"
            rw [show cutV (([] : List Int).map V.int) (some 1) none = ([] : List Int).map V.int from cut_d1, show cutV (([] : List Int).map V.int) none (some 1) = ([] : List Int).map V.int from cut_t1]
            walk_at "vc"
            rw [List.append_nil]
            refine' Dh.g_sp rfl ⟨ra, m, W, [], _, rfl, ?lp1, ?lp2⟩
            (case lp1 => walk_at "ent")
            walk_at "vc"
            refine Dh.g_ifF ?lp3 ?_
            case lp3 =>
              simp only [List.length_map, List.length_append, List.length_cons, List.length_nil, Bool.not_eq_false', decide_eq_true_eq, V.int.injEq]
              simp only [List.length_cons, List.length_nil] at hl
              omega
            walk_at "vc"
            refine Dh.SI.in ⟨_, _, _, [], W, Rp, c, _, _, _, rfl, by omega, by rw [← hp] <;> simp, by simp at hl ⊢ <;> omega, ?lp4⟩
            walk_at "ent"
          case g3 =>
            subst hx
            have hx0 : atI ((x :: F').map V.int) 0 = some (.int x) := atI_zero rfl
            walk_at "vc"
            refine Dh.g_ifF (by simp) ?_
            walk_at "vc"
            rw [show cutV ((x :: F').map V.int) (some 1) none = F'.map V.int from cut_d1, show cutV ((x :: F').map V.int) none (some 1) = [x].map V.int from cut_t1]
            walk_at "vc"
            refine' Dh.g_sp rfl ⟨ra, m, W ++ [x], F', _, rfl, ?lq1, ?lq2⟩
            (case lq1 => walk_at "ent")
            walk_at "vc"
            refine Dh.g_ifF ?lq3 ?_
            case lq3 =>
              simp only [List.length_map, List.length_append, List.length_cons, List.length_nil, Bool.not_eq_false', decide_eq_true_eq, V.int.injEq]
              simp only [List.length_cons, List.length_nil] at hl
              omega
            walk_at "vc"
            refine Dh.SI.in ⟨_, _, _, F', W ++ [x], Rp, c, _, _, _, rfl, by omega, by rw [← hp] <;> simp, by simp at hl ⊢ <;> omega, ?lq4⟩
            walk_at "ent"
        case d2 =>
          walk_at "vc"
          refine' Dh.g_sp rfl ⟨ra, m, W, F, _, rfl, ?i1, fun hf => ?i2, fun x W' hx => ?i3⟩
          (case i1 => walk_at "ent")
          case i2 =>
            refine Dh.g_toldE Z.x_NotDue_BadWord (fun h => by cases h) fun _ => Dh.g_toldE Z.x_NotDue_BadPlace (fun h => by cases h) fun _ => Dh.g_toldE Z.x_NotDue_BadPlan (fun h => by cases h) fun _ => Dh.g_toldE Z.x_NotDue_NotDue (fun _ => ?_) (fun h => by cases h)
            subst hf
            walk_at "vc"
            rw [show cutV (([] : List Int).map V.int) (some 1) none = ([] : List Int).map V.int from cut_d1, show cutV (([] : List Int).map V.int) none (some 1) = ([] : List Int).map V.int from cut_t1]
            walk_at "vc"
            rw [List.append_nil]
            refine' Dh.g_sp rfl ⟨ra, m, [], F, _, rfl, ?lr1, ?lr2⟩
            (case lr1 => walk_at "ent")
            walk_at "vc"
            refine Dh.g_ifF ?lr3 ?_
            case lr3 =>
              simp only [List.length_map, List.length_append, List.length_cons, List.length_nil, Bool.not_eq_false', decide_eq_true_eq, V.int.injEq]
              simp only [List.length_cons, List.length_nil] at hl
              omega
            walk_at "vc"
            refine Dh.SI.in ⟨_, _, _, F, [], Rp, c, _, _, _, rfl, by omega, by rw [← hp] <;> simp, by simp at hl ⊢ <;> omega, ?lr4⟩
            walk_at "ent"
          case i3 =>
            subst hx
            have hx0 : atI ((x :: W').map V.int) 0 = some (.int x) := atI_zero rfl
            walk_at "vc"
            refine Dh.g_ifF (by simp) ?_
            walk_at "vc"
            rw [show cutV ((x :: W').map V.int) (some 1) none = W'.map V.int from cut_d1, show cutV ((x :: W').map V.int) none (some 1) = [x].map V.int from cut_t1]
            walk_at "vc"
            refine' Dh.g_sp rfl ⟨ra, m, W', F, _, rfl, ?ls1, ?ls2⟩
            (case ls1 => walk_at "ent")
            walk_at "vc"
            refine Dh.g_ifF ?ls3 ?_
            case ls3 =>
              simp only [List.length_map, List.length_append, List.length_cons, List.length_nil, Bool.not_eq_false', decide_eq_true_eq, V.int.injEq]
              simp only [List.length_cons, List.length_nil] at hl
              omega
            walk_at "vc"
            refine Dh.SI.in ⟨_, _, _, F, W', Rp ++ [x], c, _, _, _, rfl, by omega, by rw [← hp] <;> simp, by simp at hl ⊢ <;> omega, ?ls4⟩
            walk_at "ent"
  · rintro σ L ⟨v1, v2, v3, v4, v5, v6, v7, v8, v9, v10, rfl, hE⟩
    refine Dh.Go.ent hE ?_
    walk_at "vc"
    exact Dh.Go.ent Dh.ent_nil k
end
end Toy
end

section
local macro_rules | `(tactic| walk_at "pk") => `(tactic| (with_reducible first | exact Dh.pick_here | (refine' Dh.pick_there ?p; (case p => walk_at "pk"))))
local macro_rules | `(tactic| walk_at "ent") => `(tactic| first | (with_reducible exact Dh.ent_refl) | (with_reducible exact Dh.ent_nil) | (refine' Dh.ent_cons ?q0 ?k; (case q0 => walk_at "pk"); (case k => walk_at "ent")) | (refine' Dh.ent_drop ?k; (case k => walk_at "ent")))
local macro_rules | `(tactic| walk_at "side") => `(tactic| first | omega | decide | (simp only [L2.CMul, L2.CDiv, L2.CDivN]; omega) | (unfold L2.CPow; decide) | (simp only [List.length_cons, List.length_nil, List.length_append, List.length_map, List.length_range, List.length_replicate, List.length_set, List.length_take, List.length_drop, PySem.sizeLine_eq] <;> omega))
local macro_rules | `(tactic| walk_at "ixs") => `(tactic| first | assumption | omega | (simp only [List.length_set, List.length_map, List.length_cons, List.length_nil, List.length_append, List.length_replicate] <;> first | assumption | omega))
local macro_rules | `(tactic| walk_at "lk") => `(tactic| first | rfl | assumption | (exact Dh.ixN_lt (by walk_at "ixs")) | (exact Dh.atI_lt (by assumption))  | with_reducible exact Toy.lk_Ring_rows | with_reducible exact Toy.lk_Ring_by_device | with_reducible exact Toy.lk_Ring_done | with_reducible exact Toy.lk_Ring_fill_at | with_reducible exact Toy.lk_Ring_work_at | with_reducible exact Toy.lk_Ring_reap_at | with_reducible exact Toy.lk_Ring_filled | with_reducible exact Toy.no_Ring_init | with_reducible exact Toy.no_Ring_fill | with_reducible exact Toy.no_Ring_work | with_reducible exact Toy.no_Ring_reap | with_reducible exact Toy.no_Ring_left_room | with_reducible exact Toy.lk_Queue_many | with_reducible exact Toy.lk_Queue_round_at | with_reducible exact Toy.lk_Queue_table | with_reducible exact Toy.lk_Queue_free | with_reducible exact Toy.lk_Queue_given | with_reducible exact Toy.lk_Queue_used | with_reducible exact Toy.lk_Queue_given_count | with_reducible exact Toy.lk_Queue_used_count | with_reducible exact Toy.lk_Queue_device_seen | with_reducible exact Toy.lk_Queue_out | with_reducible exact Toy.lk_Queue_driver_seen | with_reducible exact Toy.no_Queue_init | with_reducible exact Toy.no_Queue_give | with_reducible exact Toy.no_Queue_untaken | with_reducible exact Toy.no_Queue_take | with_reducible exact Toy.no_Queue_use | with_reducible exact Toy.no_Queue_reap | with_reducible exact Toy.no_Queue_needs_call | with_reducible exact Toy.lk_Pipe_cells | with_reducible exact Toy.lk_Pipe_put_at | with_reducible exact Toy.lk_Pipe_get_at | with_reducible exact Toy.no_Pipe_init | with_reducible exact Toy.no_Pipe_lying | with_reducible exact Toy.no_Pipe_put | with_reducible exact Toy.no_Pipe_get)
local macro_rules | `(tactic| walk_at "pf") => `(tactic| first  | with_reducible exact Toy.pf_Ring_rows | with_reducible exact Toy.pf_Ring_by_device | with_reducible exact Toy.pf_Ring_done | with_reducible exact Toy.pf_Ring_fill_at | with_reducible exact Toy.pf_Ring_work_at | with_reducible exact Toy.pf_Ring_reap_at | with_reducible exact Toy.pf_Ring_filled | with_reducible exact Toy.gr_Ring_rows | with_reducible exact Toy.gr_Ring_by_device | with_reducible exact Toy.gr_Ring_done | with_reducible exact Toy.gr_Ring_fill_at | with_reducible exact Toy.gr_Ring_work_at | with_reducible exact Toy.gr_Ring_reap_at | with_reducible exact Toy.gr_Ring_filled | with_reducible exact Toy.pf_Queue_many | with_reducible exact Toy.pf_Queue_round_at | with_reducible exact Toy.pf_Queue_table | with_reducible exact Toy.pf_Queue_free | with_reducible exact Toy.pf_Queue_given | with_reducible exact Toy.pf_Queue_used | with_reducible exact Toy.pf_Queue_given_count | with_reducible exact Toy.pf_Queue_used_count | with_reducible exact Toy.pf_Queue_device_seen | with_reducible exact Toy.pf_Queue_out | with_reducible exact Toy.pf_Queue_driver_seen | with_reducible exact Toy.gr_Queue_many | with_reducible exact Toy.gr_Queue_round_at | with_reducible exact Toy.gr_Queue_table | with_reducible exact Toy.gr_Queue_free | with_reducible exact Toy.gr_Queue_given | with_reducible exact Toy.gr_Queue_used | with_reducible exact Toy.gr_Queue_given_count | with_reducible exact Toy.gr_Queue_used_count | with_reducible exact Toy.gr_Queue_device_seen | with_reducible exact Toy.gr_Queue_out | with_reducible exact Toy.gr_Queue_driver_seen | with_reducible exact Toy.pf_Pipe_cells | with_reducible exact Toy.pf_Pipe_put_at | with_reducible exact Toy.pf_Pipe_get_at | with_reducible exact Toy.gr_Pipe_cells | with_reducible exact Toy.gr_Pipe_put_at | with_reducible exact Toy.gr_Pipe_get_at | rfl)
local macro_rules | `(tactic| walk_at "ln") => `(tactic| first  | with_reducible exact Toy.ln_Ring | with_reducible exact Toy.ln_Queue | with_reducible exact Toy.ln_Pipe | decide | (simp only [List.length_cons, List.length_nil] <;> omega))
local macro_rules | `(tactic| walk_at "hasm") => `(tactic| first | (refine' Toy.hasM_pipe ?q0 ?q1; (case q0 => walk_at "pk"); (case q1 => (intros; walk_at "lk"))) | (refine' Toy.hasM_queue ?q0 ?q1; (case q0 => walk_at "pk"); (case q1 => (intros; walk_at "lk"))) | (refine' Toy.hasM_ring ?q0 ?q1; (case q0 => walk_at "pk"); (case q1 => (intros; walk_at "lk"))) | (refine' Dh.hasM_ob ?q0 ?q1; (case q0 => walk_at "pk"); (case q1 => walk_at "lk")))
local macro_rules | `(tactic| walk_at "vcp0") => `(tactic| first | ((with_reducible refine' Dh.g_seq ?k)) | ((with_reducible refine' Dh.g_next ?k)) | ((with_reducible refine' Dh.g_nonA ?k)) | ((with_reducible refine' Dh.g_var ?q0 ?k); (case q0 => rfl)) | ((with_reducible refine' Dh.g_c ?k)) | ((with_reducible refine' Dh.g_op ?k)) | ((with_reducible refine' Dh.g_asg ?k)) | ((with_reducible refine' Dh.g_name ?k)) | ((with_reducible refine' Dh.g_ifS ?k)) | ((with_reducible refine' Dh.g_test ?k)) | ((with_reducible refine' Dh.g_isB ?k)) | ((with_reducible refine' Dh.g_B ?k)) | ((with_reducible refine' Dh.g_ret ?k)) | ((with_reducible refine' Dh.g_retN ?k)) | ((with_reducible refine' Dh.g_drop ?k)) | ((with_reducible refine' Dh.g_brk ?k)) | ((with_reducible refine' Dh.g_cont ?k)) | ((with_reducible refine' Dh.g_un ?k)) | ((with_reducible refine' Dh.g_I0 ?k)) | ((with_reducible refine' Dh.g_addI ?k)) | ((with_reducible refine' Dh.g_addB ?k)) | ((with_reducible refine' Dh.g_addS ?q0 ?k); (case q0 => walk_at "side")) | ((with_reducible refine' Dh.g_addM ?q0 ?q1 ?q2 ?k); (case q0 => walk_at "pk"); (case q1 => walk_at "pk"); (case q2 => walk_at "side"); intro _) | ((with_reducible refine' Dh.g_addL ?q0 ?q1 ?q2 ?k); (case q0 => walk_at "pk"); (case q1 => walk_at "pk"); (case q2 => walk_at "side"); intro _))
local macro_rules | `(tactic| walk_at "vcp1") => `(tactic| first | ((with_reducible refine' Dh.g_I ?q0 ?k); (case q0 => walk_at "side")) | ((with_reducible refine' Dh.g_mulI ?q0 ?k); (case q0 => walk_at "side")) | ((with_reducible refine' Dh.g_U ?k)) | ((with_reducible refine' Dh.g_eqS ?q0 ?k); (case q0 => rfl)) | ((with_reducible refine' Dh.g_neS ?q0 ?k); (case q0 => rfl)) | ((with_reducible refine' Dh.g_eqLL ?q0 ?q1 ?k); (case q0 => walk_at "pk"); (case q1 => walk_at "pk")) | ((with_reducible refine' Dh.g_neLL ?q0 ?q1 ?k); (case q0 => walk_at "pk"); (case q1 => walk_at "pk")) | ((with_reducible refine' Dh.g_eqL0 ?q0 ?q1 ?k); (case q0 => walk_at "pk"); (case q1 => walk_at "pk")) | ((with_reducible refine' Dh.g_neL0 ?q0 ?q1 ?k); (case q0 => walk_at "pk"); (case q1 => walk_at "pk")) | ((with_reducible refine' Dh.g_neT0 ?q0 ?q1 ?q2 ?k); (case q0 => walk_at "pk"); (case q1 => walk_at "pk"); (case q2 => walk_at "pk")) | ((with_reducible refine' Dh.g_neP ?q0 ?q1 ?k); (case q0 => walk_at "pk"); (case q1 => walk_at "pk")) | ((with_reducible refine' Dh.g_inI ?q0 ?k); (case q0 => walk_at "pk")) | ((with_reducible refine' Dh.g_isN ?k)) | ((with_reducible refine' Dh.g_notN ?k)) | ((with_reducible refine' Dh.g_ixL ?q0 ?q1 ?k); (case q0 => walk_at "pk"); (case q1 => walk_at "lk")) | ((with_reducible refine' Dh.g_ixT ?q0 ?q1 ?k); (case q0 => walk_at "pk"); (case q1 => walk_at "lk")) | ((with_reducible refine' Dh.g_sl ?k)) | ((with_reducible refine' Dh.g_noPart ?k)) | ((with_reducible refine' Dh.g_part ?k)) | ((with_reducible refine' Dh.g_isSomeInt ?k)) | ((with_reducible refine' Dh.g_slTk ?q0 ?k); (case q0 => walk_at "pk"); intro _) | ((with_reducible refine' Dh.g_slDr ?q0 ?k); (case q0 => walk_at "pk"); intro _) | ((with_reducible refine' Dh.g_slL ?q0 ?k); (case q0 => walk_at "pk"); intro _) | ((with_reducible refine' Dh.g_slQTk ?q0 ?k); (case q0 => walk_at "pk"); intro _))
local macro_rules | `(tactic| walk_at "vcp2") => `(tactic| first | ((with_reducible refine' Dh.g_slQ ?q0 ?k); (case q0 => walk_at "pk"); intro _) | ((with_reducible refine' Dh.g_fldE ?k)) | ((with_reducible refine' Dh.g_fld ?q0 ?q1 ?k); (case q0 => walk_at "pk"); (case q1 => walk_at "lk")) | ((with_reducible refine' Dh.g_tup ?k)) | ((with_reducible refine' Dh.g_lst ?k)) | ((with_reducible refine' Dh.g_newT ?q0 ?k); (case q0 => walk_at "side"); intro _) | ((with_reducible refine' Dh.g_newL ?q0 ?k); (case q0 => walk_at "side"); intro _) | ((with_reducible refine' Dh.g_nil ?k)) | ((with_reducible refine' Dh.g_cons ?k)) | ((with_reducible refine' Dh.g_call ?k)) | ((with_reducible refine' Dh.g_methE ?k)) | ((with_reducible refine' Dh.g_meth ?q0 ?k); (case q0 => walk_at "hasm")) | ((with_reducible refine' Dh.g_make ?k)) | ((with_reducible refine' Dh.g_made ?k); intro _) | ((with_reducible refine' Dh.g_cb ?k)) | ((with_reducible refine' Dh.g_int ?k)) | ((with_reducible refine' Dh.g_intB ?k)) | ((with_reducible refine' Dh.g_abs ?k)) | ((with_reducible refine' Dh.g_max2 ?k)) | ((with_reducible refine' Dh.g_min2 ?k)) | ((with_reducible refine' Dh.g_strI ?q0 ?k); (case q0 => walk_at "side")) | ((with_reducible refine' Dh.g_lenL ?q0 ?k); (case q0 => walk_at "pk")) | ((with_reducible refine' Dh.g_lenT ?q0 ?k); (case q0 => walk_at "pk")) | ((with_reducible refine' Dh.g_lenD ?q0 ?k); (case q0 => walk_at "pk")))
local macro_rules | `(tactic| walk_at "vcp3") => `(tactic| first | ((with_reducible refine' Dh.g_listL ?q0 ?k); (case q0 => walk_at "pk"); intro _) | ((with_reducible refine' Dh.g_listT ?q0 ?k); (case q0 => walk_at "pk"); intro _) | ((with_reducible refine' Dh.g_tupL ?q0 ?k); (case q0 => walk_at "pk"); intro _) | ((with_reducible refine' Dh.g_tupT ?q0 ?k); (case q0 => walk_at "pk")) | ((with_reducible refine' Dh.g_pop0 ?q0 ?k); (case q0 => walk_at "pk")) | ((with_reducible refine' Dh.g_bm ?k)) | ((with_reducible refine' Dh.g_bm0 ?k)) | ((with_reducible refine' Dh.g_tyL ?q0 ?k); (case q0 => walk_at "pk")) | ((with_reducible refine' Dh.g_append ?q0 ?q1 ?k); (case q0 => walk_at "pk"); (case q1 => walk_at "side")) | ((with_reducible refine' Dh.g_rep ?q0 ?q1 ?q2 ?q3 ?k); (case q0 => walk_at "pk"); (case q1 => walk_at "side"); (case q2 => walk_at "side"); (case q3 => walk_at "side"); intro _) | ((with_reducible refine' Dh.g_not ?k)) | ((with_reducible refine' Dh.g_tand ?k)) | ((with_reducible refine' Dh.g_tor ?k)) | ((with_reducible refine' Dh.g_andV ?k)) | ((with_reducible refine' Dh.g_orV ?k)) | ((with_reducible refine' Dh.g_notV ?k)) | ((with_reducible refine' Dh.g_ifE ?k)) | ((with_reducible refine' Dh.g_chain ?k)) | ((with_reducible refine' Dh.g_tru ?k)) | ((with_reducible refine' Dh.g_truB ?k)) | ((with_reducible refine' Dh.g_truI ?k)) | ((with_reducible refine' Dh.g_truN ?k)) | ((with_reducible refine' Dh.g_truL ?q0 ?k); (case q0 => walk_at "pk")) | ((with_reducible refine' Dh.g_gsub ?k)))
local macro_rules | `(tactic| walk_at "vcp4") => `(tactic| first | ((with_reducible refine' Dh.g_setL ?q0 ?q1 ?k); (case q0 => walk_at "pk"); (case q1 => walk_at "lk")) | ((with_reducible refine' Dh.g_gtup ?q0 ?q1 ?k); (case q0 => walk_at "pk"); (case q1 => rfl)) | ((with_reducible refine' Dh.g_gnil ?k)) | ((with_reducible refine' Dh.g_gcons ?k)) | ((with_reducible refine' Dh.g_par ?k)) | ((with_reducible refine' Dh.g_par2 ?k)) | ((with_reducible refine' Dh.g_par3 ?k)) | ((with_reducible refine' Dh.g_par3b ?k)) | ((with_reducible refine' Dh.g_listRg ?k)) | ((with_reducible refine' Dh.g_rg1E ?k)) | ((with_reducible refine' Dh.g_rg1 ?k)) | ((with_reducible refine' Dh.g_rgN ?q0 ?k); (case q0 => walk_at "side"); intro _) | ((with_reducible refine' Dh.g_rgL ?q0 ?k); (case q0 => walk_at "side"); intro _) | ((with_reducible refine' Dh.g_dinE ?k)) | ((with_reducible refine' Dh.g_dinI ?q0 ?k); (case q0 => walk_at "pk")) | ((with_reducible refine' Dh.g_dnotinE ?k)) | ((with_reducible refine' Dh.g_dnotinI ?q0 ?k); (case q0 => walk_at "pk")) | ((with_reducible refine' Dh.g_dgetE ?k)) | ((with_reducible refine' Dh.g_dgetI ?q0 ?q1 ?k); (case q0 => walk_at "pk"); (case q1 => walk_at "lk")) | ((with_reducible refine' Dh.g_dputE ?k)) | ((with_reducible refine' Dh.g_dputI ?q0 ?q1 ?k); (case q0 => walk_at "pk"); (case q1 => walk_at "side")) | ((with_reducible refine' Dh.g_dpopE ?k)) | ((with_reducible refine' Dh.g_dpopA ?q0 ?k); (case q0 => walk_at "pk")) | ((with_reducible refine' Dh.g_dpopB ?q0 ?q1 ?k); (case q0 => walk_at "pk"); (case q1 => walk_at "lk")))
local macro_rules | `(tactic| walk_at "vcp5") => `(tactic| first | ((with_reducible refine' Dh.g_dnew ?k); intro _) | ((with_reducible refine' Dh.g_ipMul ?q0 ?k); (case q0 => walk_at "side")) | ((with_reducible refine' Dh.g_sfldE ?k)) | ((with_reducible refine' Dh.g_sfld ?q0 ?q1 ?q2 ?k); (case q0 => walk_at "pk"); (case q1 => walk_at "pf"); (case q2 => walk_at "ln")) | ((with_reducible refine' Dh.g_augE ?k)) | ((with_reducible refine' Dh.g_augF ?q0 ?q1 ?k); (case q0 => walk_at "pk"); (case q1 => walk_at "lk")) | ((with_reducible refine' Dh.g_augV ?q0 ?k); (case q0 => rfl)) | ((with_reducible refine' Dh.g_ipI ?k)) | ((with_reducible refine' Dh.g_rAdd ?k)) | ((with_reducible refine' Dh.g_rSub ?k)) | ((with_reducible refine' Dh.g_for ?k)) | ((with_reducible refine' Dh.g_iRng1 ?k)) | ((with_reducible refine' Dh.g_iRng2 ?k)) | ((with_reducible refine' Dh.g_rng1 ?q0 ?q1 ?k); (case q0 => walk_at "side"); (case q1 => walk_at "side")) | ((with_reducible refine' Dh.g_rng2 ?q0 ?k); (case q0 => walk_at "side")) | ((with_reducible refine' Dh.g_iSeqE ?k)) | ((with_reducible refine' Dh.g_iSeqL ?q0 ?k); (case q0 => walk_at "pk")) | ((with_reducible refine' Dh.g_iSeqT ?q0 ?k); (case q0 => walk_at "pk")) | ((with_reducible refine' Dh.g_wbody ?k)) | ((with_reducible refine' Dh.g_lcE ?k)) | ((with_reducible refine' Dh.g_turn ?k)) | ((with_reducible refine' Dh.g_tYes ?k)) | ((with_reducible refine' Dh.g_rs ?k)) | ((with_reducible refine' Dh.g_rsW ?k)))
local macro_rules | `(tactic| walk_at "vcp6") => `(tactic| first | ((with_reducible refine' Dh.g_told ?k)) | ((with_reducible refine' Dh.g_ifT ?q0 ?k); (case q0 => rfl)) | ((with_reducible refine' Dh.g_ifF ?q0 ?k); (case q0 => rfl)))
local macro_rules | `(tactic| walk_at "vc1") => `(tactic| first | walk_at "vcp0" | walk_at "vcp1" | walk_at "vcp2" | walk_at "vcp3" | walk_at "vcp4" | walk_at "vcp5" | walk_at "vcp6")
local macro_rules | `(tactic| walk_at "vc") => `(tactic| repeat walk_at "vc1")
local macro_rules | `(tactic| walk_at "spl") => `(tactic| first | ((with_reducible refine Dh.g_ifD ?_ ?_) <;> intro _) | ((with_reducible refine Dh.g_ifN ?_ ?_) <;> intro _) | ((with_reducible refine Dh.g_if ?_ ?_) <;> intro _))
local macro_rules | `(tactic| walk_at "vcs") => `(tactic| repeat' (first | walk_at "vc1" | walk_at "spl"))
namespace Toy
open PySem L2
section
variable {P : Program} {w : World} {K : PySem.W.Frag} {mg : Str → Option Value} {base : Heap} {T : List (Addr × Str)} {C_Ring C_Queue C_Pipe C_BadWord C_BadPlace C_BadPlan C_NotDue C_Stuck C_BadBits C_BadText C_TooLarge g_told : Addr}
theorem law_sp {a : Addr} {ns : List Int} (hl : ns.length ≤ 63) (hz : ∀ z ∈ ns, Builtin.Int.intBits z ≤ 1048576) : sg_law T K C_Ring C_Queue C_Pipe C_BadWord C_BadPlace C_BadPlan C_NotDue C_Stuck C_BadBits C_BadText C_TooLarge g_told [.ref a] [Dh.sq K a (ns.map .int)] (fun v _ => v = .bl true) fun _ _ _ => False :=
  ⟨a, ns, [], rfl, Dh.ent_refl, fun _ _ _ => rfl⟩
def d_Ring___init__ : He.DefD := Dh.dd ("Ring", some "__init__") "__init__" "Ring.__init__" s_Ring___init__
def d_Queue___init__ : He.DefD := Dh.dd ("Queue", some "__init__") "__init__" "Queue.__init__" s_Queue___init__
def d_Pipe___init__ : He.DefD := Dh.dd ("Pipe", some "__init__") "__init__" "Pipe.__init__" s_Pipe___init__
def d_Ring_fill : He.DefD := Dh.dd ("Ring", some "fill") "fill" "Ring.fill" s_Ring_fill
def d_Ring_work : He.DefD := Dh.dd ("Ring", some "work") "work" "Ring.work" s_Ring_work
def d_Ring_reap : He.DefD := Dh.dd ("Ring", some "reap") "reap" "Ring.reap" s_Ring_reap
def d_Ring_left_room : He.DefD := Dh.dd ("Ring", some "left_room") "left_room" "Ring.left_room" s_Ring_left_room
def d_Queue_give : He.DefD := Dh.dd ("Queue", some "give") "give" "Queue.give" s_Queue_give
def d_Queue_untaken : He.DefD := Dh.dd ("Queue", some "untaken") "untaken" "Queue.untaken" s_Queue_untaken
def d_Queue_take : He.DefD := Dh.dd ("Queue", some "take") "take" "Queue.take" s_Queue_take
def d_Queue_use : He.DefD := Dh.dd ("Queue", some "use") "use" "Queue.use" s_Queue_use
def d_Queue_reap : He.DefD := Dh.dd ("Queue", some "reap") "reap" "Queue.reap" s_Queue_reap
def d_Queue_needs_call : He.DefD := Dh.dd ("Queue", some "needs_call") "needs_call" "Queue.needs_call" s_Queue_needs_call
def d_Pipe_lying : He.DefD := Dh.dd ("Pipe", some "lying") "lying" "Pipe.lying" s_Pipe_lying
def d_Pipe_put : He.DefD := Dh.dd ("Pipe", some "put") "put" "Pipe.put" s_Pipe_put
def d_Pipe_get : He.DefD := Dh.dd ("Pipe", some "get") "get" "Pipe.get" s_Pipe_get
def d_law_dice : He.DefD := Dh.dd ("_law_dice", none) "_law_dice" "_law_dice" s_law_dice
def d_law_roll : He.DefD := Dh.dd ("_law_roll", none) "_law_roll" "_law_roll" s_law_roll
def d_law_rounds : He.DefD := Dh.dd ("_law_rounds", none) "_law_rounds" "_law_rounds" s_law_rounds
def d_law_told : He.DefD := Dh.dd ("_law_told", none) "_law_told" "_law_told" s_law_told
def d_law_queue : He.DefD := Dh.dd ("_law_queue", none) "_law_queue" "_law_queue" s_law_queue
def d_law_pipe : He.DefD := Dh.dd ("_law_pipe", none) "_law_pipe" "_law_pipe" s_law_pipe
def d_law : He.DefD := Dh.dd ("law", none) "law" "law" s_law
def fn : List He.DefD := [d_Ring___init__, d_Queue___init__, d_Pipe___init__, d_Ring_fill, d_Ring_work, d_Ring_reap, d_Ring_left_room, d_Queue_give, d_Queue_untaken, d_Queue_take, d_Queue_use, d_Queue_reap, d_Queue_needs_call, d_Pipe_lying, d_Pipe_put, d_Pipe_get, d_law_dice, d_law_roll, d_law_rounds, d_law_told, d_law_queue, d_law_pipe, d_law]
def fa : List He.Fa := [.glo "_law_dice", .glo "_law_roll", .glo "_law_rounds", .glo "_law_told", .glo "_law_queue", .glo "_law_pipe", .glo "law", .glo "Ring", .glo "Queue", .glo "Pipe", .glo "BadWord", .glo "BadPlace", .glo "BadPlan", .glo "NotDue", .glo "Stuck", .glo "BadBits", .glo "BadText", .glo "TooLarge", .free "abs", .free "int", .free "len", .free "list", .free "max", .free "min", .free "range", .free "tuple", .cls "Ring", .cls "Queue", .cls "Pipe", .noat "Pipe" "cells", .noat "Pipe" "get_at", .noat "Pipe" "put_at", .noat "Queue" "device_seen", .noat "Queue" "driver_seen", .noat "Queue" "free", .noat "Queue" "given", .noat "Queue" "given_count", .noat "Queue" "many", .noat "Queue" "out", .noat "Queue" "round_at", .noat "Queue" "table", .noat "Queue" "used", .noat "Queue" "used_count", .noat "Ring" "by_device", .noat "Ring" "done", .noat "Ring" "fill_at", .noat "Ring" "filled", .noat "Ring" "reap_at", .noat "Ring" "rows", .noat "Ring" "work_at", .mkr "Ring", .meth "Ring" "fill", .meth "Ring" "work", .meth "Ring" "reap", .meth "Ring" "left_room", .mkr "Queue", .meth "Queue" "give", .meth "Queue" "untaken", .meth "Queue" "take", .meth "Queue" "use", .meth "Queue" "reap", .meth "Queue" "needs_call", .mkr "Pipe", .meth "Pipe" "lying", .meth "Pipe" "put", .meth "Pipe" "get", .exc "NotDue", .exc "BadPlan", .exm "NotDue" "BadWord" false, .exm "NotDue" "BadPlace" false, .exm "NotDue" "BadPlan" false, .exm "NotDue" "NotDue" true, .exm "BadPlan" "BadWord" false, .exm "BadPlan" "BadPlace" false, .exm "BadPlan" "BadPlan" true]
def tf : List He.Defn := [("_law_queue", none), ("law", none)]
abbrev R : PySem.W.OpenRow := PySem.W.OpenLaw.row PySem.Challenge.rw_drivehall_k06_rings_and_pipes
abbrev hk : PySem.W.Hook := He.hookX 6 fa fn [] tf (Dh.apartB tf)
def ob (s : PySem.W.SharedT) : He.AlX := He.obsX 6 fa fn [] tf (Dh.apartB tf) (HandSHeadRun.getT s)
theorem ob_eq (s : PySem.W.SharedT) : ob s = hk.obs s.abs := He.obsX_eq (HandSHeadRun.getT_eq s)
def loose : List Str := (["__name__", "DriveFault", "BadWord", "BadPlace", "BadPlan", "NotDue", "Stuck", "BadBits", "BadText", "TooLarge", "Ring", "Queue", "Pipe", "_law_dice", "_law_roll", "_law_rounds", "_law_told", "_law_queue", "_law_pipe"] : List Str)
theorem run (w : World) : HandSHeadRun.RunEq R (PySem.W.view R.prog [21]) hk ob 20000 loose w := by
  intro os
  kernel_rfl
theorem facts {P : Program} {w : World} {K : PySem.W.Frag} {h : Heap} {mg : Str → Option Value} {f : Addr} (X : K.In h) (G : h.Ns mainGlobals mg) (hfa : mg ("law" : Str) = some (.ref f)) (c : He.SaysD fa fn K) (hap : Dh.apartB tf K = true) :
    ∃ fd : FuncData, (∀ (s : Shared) (v : Value), BindsTo s fd ⟨[v], []⟩ [("script", v)]) ∧ ∀ base : Heap, (∀ p ∈ tf.map (He.cT K), LamX.TabB base mg p.1 p.2) → FnOk P w K mg base (L2.CX P w) 6 f fd ["script"] (Dh.sOfN (Dh.tabs K tf) 1 (sg_law (Dh.tabs K tf) K (He.ga K "Ring") (He.ga K "Queue") (He.ga K "Pipe") (He.ga K "BadWord") (He.ga K "BadPlace") (He.ga K "BadPlan") (He.ga K "NotDue") (He.ga K "Stuck") (He.ga K "BadBits") (He.ga K "BadText") (He.ga K "TooLarge") (He.fAd K ("_law_told", none)))) := by
  obtain ⟨fd_Ring___init__, F_Ring___init__⟩ := c.def_ 0 (d := d_Ring___init__) rfl
  obtain ⟨fd_Queue___init__, F_Queue___init__⟩ := c.def_ 1 (d := d_Queue___init__) rfl
  obtain ⟨fd_Pipe___init__, F_Pipe___init__⟩ := c.def_ 2 (d := d_Pipe___init__) rfl
  obtain ⟨fd_Ring_fill, F_Ring_fill⟩ := c.def_ 3 (d := d_Ring_fill) rfl
  obtain ⟨fd_Ring_work, F_Ring_work⟩ := c.def_ 4 (d := d_Ring_work) rfl
  obtain ⟨fd_Ring_reap, F_Ring_reap⟩ := c.def_ 5 (d := d_Ring_reap) rfl
  obtain ⟨fd_Ring_left_room, F_Ring_left_room⟩ := c.def_ 6 (d := d_Ring_left_room) rfl
  obtain ⟨fd_Queue_give, F_Queue_give⟩ := c.def_ 7 (d := d_Queue_give) rfl
  obtain ⟨fd_Queue_untaken, F_Queue_untaken⟩ := c.def_ 8 (d := d_Queue_untaken) rfl
  obtain ⟨fd_Queue_take, F_Queue_take⟩ := c.def_ 9 (d := d_Queue_take) rfl
  obtain ⟨fd_Queue_use, F_Queue_use⟩ := c.def_ 10 (d := d_Queue_use) rfl
  obtain ⟨fd_Queue_reap, F_Queue_reap⟩ := c.def_ 11 (d := d_Queue_reap) rfl
  obtain ⟨fd_Queue_needs_call, F_Queue_needs_call⟩ := c.def_ 12 (d := d_Queue_needs_call) rfl
  obtain ⟨fd_Pipe_lying, F_Pipe_lying⟩ := c.def_ 13 (d := d_Pipe_lying) rfl
  obtain ⟨fd_Pipe_put, F_Pipe_put⟩ := c.def_ 14 (d := d_Pipe_put) rfl
  obtain ⟨fd_Pipe_get, F_Pipe_get⟩ := c.def_ 15 (d := d_Pipe_get) rfl
  obtain ⟨fd_law_dice, F_law_dice⟩ := c.def_ 16 (d := d_law_dice) rfl
  obtain ⟨fd_law_roll, F_law_roll⟩ := c.def_ 17 (d := d_law_roll) rfl
  obtain ⟨fd_law_rounds, F_law_rounds⟩ := c.def_ 18 (d := d_law_rounds) rfl
  obtain ⟨fd_law_told, F_law_told⟩ := c.def_ 19 (d := d_law_told) rfl
  obtain ⟨fd_law_queue, F_law_queue⟩ := c.def_ 20 (d := d_law_queue) rfl
  obtain ⟨fd_law_pipe, F_law_pipe⟩ := c.def_ 21 (d := d_law_pipe) rfl
  obtain ⟨fd_law, F_law⟩ := c.def_ 22 (d := d_law) rfl
  have g_law_dice := He.glo_ok X G (c.fact 0 (f := .glo "_law_dice") rfl)
  have g_law_roll := He.glo_ok X G (c.fact 1 (f := .glo "_law_roll") rfl)
  have g_law_rounds := He.glo_ok X G (c.fact 2 (f := .glo "_law_rounds") rfl)
  have g_law_told := He.glo_ok X G (c.fact 3 (f := .glo "_law_told") rfl)
  have g_law_queue := He.glo_ok X G (c.fact 4 (f := .glo "_law_queue") rfl)
  have g_law_pipe := He.glo_ok X G (c.fact 5 (f := .glo "_law_pipe") rfl)
  have g_law := He.glo_ok X G (c.fact 6 (f := .glo "law") rfl)
  have g_Ring := He.glo_ok X G (c.fact 7 (f := .glo "Ring") rfl)
  have g_Queue := He.glo_ok X G (c.fact 8 (f := .glo "Queue") rfl)
  have g_Pipe := He.glo_ok X G (c.fact 9 (f := .glo "Pipe") rfl)
  have g_BadWord := He.glo_ok X G (c.fact 10 (f := .glo "BadWord") rfl)
  have g_BadPlace := He.glo_ok X G (c.fact 11 (f := .glo "BadPlace") rfl)
  have g_BadPlan := He.glo_ok X G (c.fact 12 (f := .glo "BadPlan") rfl)
  have g_NotDue := He.glo_ok X G (c.fact 13 (f := .glo "NotDue") rfl)
  have g_Stuck := He.glo_ok X G (c.fact 14 (f := .glo "Stuck") rfl)
  have g_BadBits := He.glo_ok X G (c.fact 15 (f := .glo "BadBits") rfl)
  have g_BadText := He.glo_ok X G (c.fact 16 (f := .glo "BadText") rfl)
  have g_TooLarge := He.glo_ok X G (c.fact 17 (f := .glo "TooLarge") rfl)
  have e := hfa.symm.trans g_law
  cases e
  have Z : Txt K mg (He.ga K "Ring") (He.ga K "Queue") (He.ga K "Pipe") (He.ga K "BadWord") (He.ga K "BadPlace") (He.ga K "BadPlan") (He.ga K "NotDue") (He.ga K "Stuck") (He.ga K "BadBits") (He.ga K "BadText") (He.ga K "TooLarge") (He.fAd K ("_law_told", none)) := { c_Ring := He.cls_ok (c.fact 26 (f := .cls "Ring") rfl), c_Queue := He.cls_ok (c.fact 27 (f := .cls "Queue") rfl), c_Pipe := He.cls_ok (c.fact 28 (f := .cls "Pipe") rfl), n_Pipe_cells := He.noat_ok (c.fact 29 (f := .noat "Pipe" "cells") rfl), n_Pipe_get_at := He.noat_ok (c.fact 30 (f := .noat "Pipe" "get_at") rfl), n_Pipe_put_at := He.noat_ok (c.fact 31 (f := .noat "Pipe" "put_at") rfl), n_Queue_device_seen := He.noat_ok (c.fact 32 (f := .noat "Queue" "device_seen") rfl), n_Queue_driver_seen := He.noat_ok (c.fact 33 (f := .noat "Queue" "driver_seen") rfl), n_Queue_free := He.noat_ok (c.fact 34 (f := .noat "Queue" "free") rfl), n_Queue_given := He.noat_ok (c.fact 35 (f := .noat "Queue" "given") rfl), n_Queue_given_count := He.noat_ok (c.fact 36 (f := .noat "Queue" "given_count") rfl), n_Queue_many := He.noat_ok (c.fact 37 (f := .noat "Queue" "many") rfl), n_Queue_out := He.noat_ok (c.fact 38 (f := .noat "Queue" "out") rfl), n_Queue_round_at := He.noat_ok (c.fact 39 (f := .noat "Queue" "round_at") rfl), n_Queue_table := He.noat_ok (c.fact 40 (f := .noat "Queue" "table") rfl), n_Queue_used := He.noat_ok (c.fact 41 (f := .noat "Queue" "used") rfl), n_Queue_used_count := He.noat_ok (c.fact 42 (f := .noat "Queue" "used_count") rfl), n_Ring_by_device := He.noat_ok (c.fact 43 (f := .noat "Ring" "by_device") rfl), n_Ring_done := He.noat_ok (c.fact 44 (f := .noat "Ring" "done") rfl), n_Ring_fill_at := He.noat_ok (c.fact 45 (f := .noat "Ring" "fill_at") rfl), n_Ring_filled := He.noat_ok (c.fact 46 (f := .noat "Ring" "filled") rfl), n_Ring_reap_at := He.noat_ok (c.fact 47 (f := .noat "Ring" "reap_at") rfl), n_Ring_rows := He.noat_ok (c.fact 48 (f := .noat "Ring" "rows") rfl), n_Ring_work_at := He.noat_ok (c.fact 49 (f := .noat "Ring" "work_at") rfl), b_abs := He.free_ok X G (c.fact 18 (f := .free "abs") rfl), b_int := He.free_ok X G (c.fact 19 (f := .free "int") rfl), b_len := He.free_ok X G (c.fact 20 (f := .free "len") rfl), b_list := He.free_ok X G (c.fact 21 (f := .free "list") rfl), b_max := He.free_ok X G (c.fact 22 (f := .free "max") rfl), b_min := He.free_ok X G (c.fact 23 (f := .free "min") rfl), b_range := He.free_ok X G (c.fact 24 (f := .free "range") rfl), b_tuple := He.free_ok X G (c.fact 25 (f := .free "tuple") rfl), e_NotDue := Dh.exc_of X G (c.fact 66 (f := .exc "NotDue") rfl) (c.fact 13 (f := .glo "NotDue") rfl), e_BadPlan := Dh.exc_of X G (c.fact 67 (f := .exc "BadPlan") rfl) (c.fact 12 (f := .glo "BadPlan") rfl), t_law_told := Dh.FunX.told (x := "_law_told") (st := s_law_told) F_law_told g_law_told, m_BadWord := g_BadWord, m_BadPlace := g_BadPlace, m_BadPlan := g_BadPlan, m_NotDue := g_NotDue, m_Stuck := g_Stuck, m_BadBits := g_BadBits, m_BadText := g_BadText, m_TooLarge := g_TooLarge, x_NotDue_BadWord := He.exm_ok (c.fact 68 (f := .exm "NotDue" "BadWord" false) rfl), x_NotDue_BadPlace := He.exm_ok (c.fact 69 (f := .exm "NotDue" "BadPlace" false) rfl), x_NotDue_BadPlan := He.exm_ok (c.fact 70 (f := .exm "NotDue" "BadPlan" false) rfl), x_NotDue_NotDue := He.exm_ok (c.fact 71 (f := .exm "NotDue" "NotDue" true) rfl), x_BadPlan_BadWord := He.exm_ok (c.fact 72 (f := .exm "BadPlan" "BadWord" false) rfl), x_BadPlan_BadPlace := He.exm_ok (c.fact 73 (f := .exm "BadPlan" "BadPlace" false) rfl), x_BadPlan_BadPlan := He.exm_ok (c.fact 74 (f := .exm "BadPlan" "BadPlan" true) rfl) }
  have b_Ring___init__ : L2.Binds K fd_Ring___init__ ["self", "many"] [] := F_Ring___init__.bindsN fun _ _ _ _ _ _ us hl => match us, hl with | [_, _], _ => rfl
  have b_Queue___init__ : L2.Binds K fd_Queue___init__ ["self", "many", "round_at"] [] := F_Queue___init__.bindsN fun _ _ _ _ _ _ us hl => match us, hl with | [_, _, _], _ => rfl
  have b_Pipe___init__ : L2.Binds K fd_Pipe___init__ ["self", "many"] [] := F_Pipe___init__.bindsN fun _ _ _ _ _ _ us hl => match us, hl with | [_, _], _ => rfl
  have b_Ring_fill : L2.Binds K fd_Ring_fill ["self", "what"] [] := F_Ring_fill.bindsN fun _ _ _ _ _ _ us hl => match us, hl with | [_, _], _ => rfl
  have b_Ring_work : L2.Binds K fd_Ring_work ["self"] [] := F_Ring_work.bindsN fun _ _ _ _ _ _ us hl => match us, hl with | [_], _ => rfl
  have b_Ring_reap : L2.Binds K fd_Ring_reap ["self"] [] := F_Ring_reap.bindsN fun _ _ _ _ _ _ us hl => match us, hl with | [_], _ => rfl
  have b_Ring_left_room : L2.Binds K fd_Ring_left_room ["self"] [] := F_Ring_left_room.bindsN fun _ _ _ _ _ _ us hl => match us, hl with | [_], _ => rfl
  have b_Queue_give : L2.Binds K fd_Queue_give ["self", "what"] [] := F_Queue_give.bindsN fun _ _ _ _ _ _ us hl => match us, hl with | [_, _], _ => rfl
  have b_Queue_untaken : L2.Binds K fd_Queue_untaken ["self"] [] := F_Queue_untaken.bindsN fun _ _ _ _ _ _ us hl => match us, hl with | [_], _ => rfl
  have b_Queue_take : L2.Binds K fd_Queue_take ["self"] [] := F_Queue_take.bindsN fun _ _ _ _ _ _ us hl => match us, hl with | [_], _ => rfl
  have b_Queue_use : L2.Binds K fd_Queue_use ["self", "place", "much"] [] := F_Queue_use.bindsN fun _ _ _ _ _ _ us hl => match us, hl with | [_, _, _], _ => rfl
  have b_Queue_reap : L2.Binds K fd_Queue_reap ["self"] [] := F_Queue_reap.bindsN fun _ _ _ _ _ _ us hl => match us, hl with | [_], _ => rfl
  have b_Queue_needs_call : L2.Binds K fd_Queue_needs_call ["self", "before", "mark"] [] := F_Queue_needs_call.bindsN fun _ _ _ _ _ _ us hl => match us, hl with | [_, _, _], _ => rfl
  have b_Pipe_lying : L2.Binds K fd_Pipe_lying ["self"] [] := F_Pipe_lying.bindsN fun _ _ _ _ _ _ us hl => match us, hl with | [_], _ => rfl
  have b_Pipe_put : L2.Binds K fd_Pipe_put ["self", "row"] [] := F_Pipe_put.bindsN fun _ _ _ _ _ _ us hl => match us, hl with | [_, _], _ => rfl
  have b_Pipe_get : L2.Binds K fd_Pipe_get ["self", "most"] [] := F_Pipe_get.bindsN fun _ _ _ _ _ _ us hl => match us, hl with | [_, _], _ => rfl
  have b_law_dice : L2.Binds K fd_law_dice ["cell"] [] := F_law_dice.bindsN fun _ _ _ _ _ _ us hl => match us, hl with | [_], _ => rfl
  have b_law_roll : L2.Binds K fd_law_roll ["dice", "many"] [] := F_law_roll.bindsN fun _ _ _ _ _ _ us hl => match us, hl with | [_, _], _ => rfl
  have b_law_rounds : L2.Binds K fd_law_rounds ["script", "most"] [] := F_law_rounds.bindsN fun _ _ _ _ _ _ us hl => match us, hl with | [_, _], _ => rfl
  have b_law_told : L2.Binds K fd_law_told ["what"] [] := F_law_told.bindsN fun _ _ _ _ _ _ us hl => match us, hl with | [_], _ => rfl
  have b_law_queue : L2.Binds K fd_law_queue ["dice"] [] := F_law_queue.bindsN fun _ _ _ _ _ _ us hl => match us, hl with | [_], _ => rfl
  have b_law_pipe : L2.Binds K fd_law_pipe ["dice"] [] := F_law_pipe.bindsN fun _ _ _ _ _ _ us hl => match us, hl with | [_], _ => rfl
  have b_law : L2.Binds K fd_law ["script"] [] := F_law.bindsN fun _ _ _ _ _ _ us hl => match us, hl with | [_], _ => rfl
  refine ⟨fd_law, fun s v => F_law.bindsA (ps := ["script"]) (fun _ _ _ _ _ _ us hl => match us, hl with | [_], _ => rfl) s [v] rfl, fun base TB => ?_⟩
  obtain ⟨_, FC_Ring___init__⟩ := Dh.FunX.c (x := "__init__") (qual := "Ring.__init__") (st := s_Ring___init__) F_Ring___init__
  have o_Ring___init__ := ok_Ring___init__ (P := P) (w := w) (base := base) (T := Dh.tabs K tf) Z  FC_Ring___init__
  have cc_Ring___init__ := Dh.mak_of o_Ring___init__ (He.mkr_ok (c.fact 50 (f := .mkr "Ring") rfl)) g_Ring b_Ring___init__
  obtain ⟨_, FC_Queue___init__⟩ := Dh.FunX.c (x := "__init__") (qual := "Queue.__init__") (st := s_Queue___init__) F_Queue___init__
  have o_Queue___init__ := ok_Queue___init__ (P := P) (w := w) (base := base) (T := Dh.tabs K tf) Z  FC_Queue___init__
  have cc_Queue___init__ := Dh.mak_of o_Queue___init__ (He.mkr_ok (c.fact 55 (f := .mkr "Queue") rfl)) g_Queue b_Queue___init__
  obtain ⟨_, FC_Pipe___init__⟩ := Dh.FunX.c (x := "__init__") (qual := "Pipe.__init__") (st := s_Pipe___init__) F_Pipe___init__
  have o_Pipe___init__ := ok_Pipe___init__ (P := P) (w := w) (base := base) (T := Dh.tabs K tf) Z  FC_Pipe___init__
  have cc_Pipe___init__ := Dh.mak_of o_Pipe___init__ (He.mkr_ok (c.fact 62 (f := .mkr "Pipe") rfl)) g_Pipe b_Pipe___init__
  obtain ⟨_, FC_Ring_fill⟩ := Dh.FunX.c (x := "fill") (qual := "Ring.fill") (st := s_Ring_fill) F_Ring_fill
  have o_Ring_fill := ok_Ring_fill (P := P) (w := w) (base := base) (T := Dh.tabs K tf) Z  FC_Ring_fill
  have cc_Ring_fill := Dh.met_of o_Ring_fill (He.cls_ok (c.fact 26 (f := .cls "Ring") rfl)) (He.meth_ok (c.fact 51 (f := .meth "Ring" "fill") rfl)) b_Ring_fill
  obtain ⟨_, FC_Ring_work⟩ := Dh.FunX.c (x := "work") (qual := "Ring.work") (st := s_Ring_work) F_Ring_work
  have o_Ring_work := ok_Ring_work (P := P) (w := w) (base := base) (T := Dh.tabs K tf) Z  FC_Ring_work
  have cc_Ring_work := Dh.met_of o_Ring_work (He.cls_ok (c.fact 26 (f := .cls "Ring") rfl)) (He.meth_ok (c.fact 52 (f := .meth "Ring" "work") rfl)) b_Ring_work
  obtain ⟨_, FC_Ring_reap⟩ := Dh.FunX.c (x := "reap") (qual := "Ring.reap") (st := s_Ring_reap) F_Ring_reap
  have o_Ring_reap := ok_Ring_reap (P := P) (w := w) (base := base) (T := Dh.tabs K tf) Z  FC_Ring_reap
  have cc_Ring_reap := Dh.met_of o_Ring_reap (He.cls_ok (c.fact 26 (f := .cls "Ring") rfl)) (He.meth_ok (c.fact 53 (f := .meth "Ring" "reap") rfl)) b_Ring_reap
  obtain ⟨_, FC_Ring_left_room⟩ := Dh.FunX.c (x := "left_room") (qual := "Ring.left_room") (st := s_Ring_left_room) F_Ring_left_room
  have o_Ring_left_room := ok_Ring_left_room (P := P) (w := w) (base := base) (T := Dh.tabs K tf) Z  FC_Ring_left_room
  have cc_Ring_left_room := Dh.met_of o_Ring_left_room (He.cls_ok (c.fact 26 (f := .cls "Ring") rfl)) (He.meth_ok (c.fact 54 (f := .meth "Ring" "left_room") rfl)) b_Ring_left_room
  obtain ⟨_, FC_Queue_give⟩ := Dh.FunX.c (x := "give") (qual := "Queue.give") (st := s_Queue_give) F_Queue_give
  have o_Queue_give := ok_Queue_give (P := P) (w := w) (base := base) (T := Dh.tabs K tf) Z  FC_Queue_give
  have cc_Queue_give := Dh.met_of o_Queue_give (He.cls_ok (c.fact 27 (f := .cls "Queue") rfl)) (He.meth_ok (c.fact 56 (f := .meth "Queue" "give") rfl)) b_Queue_give
  obtain ⟨_, FC_Queue_untaken⟩ := Dh.FunX.c (x := "untaken") (qual := "Queue.untaken") (st := s_Queue_untaken) F_Queue_untaken
  have o_Queue_untaken := ok_Queue_untaken (P := P) (w := w) (base := base) (T := Dh.tabs K tf) Z  FC_Queue_untaken
  have cc_Queue_untaken := Dh.met_of o_Queue_untaken (He.cls_ok (c.fact 27 (f := .cls "Queue") rfl)) (He.meth_ok (c.fact 57 (f := .meth "Queue" "untaken") rfl)) b_Queue_untaken
  obtain ⟨_, FC_Queue_take⟩ := Dh.FunX.c (x := "take") (qual := "Queue.take") (st := s_Queue_take) F_Queue_take
  have o_Queue_take := ok_Queue_take (P := P) (w := w) (base := base) (T := Dh.tabs K tf) Z cc_Queue_untaken FC_Queue_take
  have cc_Queue_take := Dh.met_of o_Queue_take (He.cls_ok (c.fact 27 (f := .cls "Queue") rfl)) (He.meth_ok (c.fact 58 (f := .meth "Queue" "take") rfl)) b_Queue_take
  obtain ⟨_, FC_Queue_use⟩ := Dh.FunX.c (x := "use") (qual := "Queue.use") (st := s_Queue_use) F_Queue_use
  have o_Queue_use := ok_Queue_use (P := P) (w := w) (base := base) (T := Dh.tabs K tf) Z  FC_Queue_use
  have cc_Queue_use := Dh.met_of o_Queue_use (He.cls_ok (c.fact 27 (f := .cls "Queue") rfl)) (He.meth_ok (c.fact 59 (f := .meth "Queue" "use") rfl)) b_Queue_use
  obtain ⟨_, FC_Queue_reap⟩ := Dh.FunX.c (x := "reap") (qual := "Queue.reap") (st := s_Queue_reap) F_Queue_reap
  have o_Queue_reap := ok_Queue_reap (P := P) (w := w) (base := base) (T := Dh.tabs K tf) Z  FC_Queue_reap
  have cc_Queue_reap := Dh.met_of o_Queue_reap (He.cls_ok (c.fact 27 (f := .cls "Queue") rfl)) (He.meth_ok (c.fact 60 (f := .meth "Queue" "reap") rfl)) b_Queue_reap
  obtain ⟨_, FC_Queue_needs_call⟩ := Dh.FunX.c (x := "needs_call") (qual := "Queue.needs_call") (st := s_Queue_needs_call) F_Queue_needs_call
  have o_Queue_needs_call := ok_Queue_needs_call (P := P) (w := w) (base := base) (T := Dh.tabs K tf) Z  FC_Queue_needs_call
  have cc_Queue_needs_call := Dh.met_of o_Queue_needs_call (He.cls_ok (c.fact 27 (f := .cls "Queue") rfl)) (He.meth_ok (c.fact 61 (f := .meth "Queue" "needs_call") rfl)) b_Queue_needs_call
  obtain ⟨_, FC_Pipe_lying⟩ := Dh.FunX.c (x := "lying") (qual := "Pipe.lying") (st := s_Pipe_lying) F_Pipe_lying
  have o_Pipe_lying := ok_Pipe_lying (P := P) (w := w) (base := base) (T := Dh.tabs K tf) Z  FC_Pipe_lying
  have cc_Pipe_lying := Dh.met_of o_Pipe_lying (He.cls_ok (c.fact 28 (f := .cls "Pipe") rfl)) (He.meth_ok (c.fact 63 (f := .meth "Pipe" "lying") rfl)) b_Pipe_lying
  obtain ⟨_, FC_Pipe_put⟩ := Dh.FunX.c (x := "put") (qual := "Pipe.put") (st := s_Pipe_put) F_Pipe_put
  have o_Pipe_put := ok_Pipe_put (P := P) (w := w) (base := base) (T := Dh.tabs K tf) Z cc_Pipe_lying FC_Pipe_put
  have cc_Pipe_put := Dh.met_of o_Pipe_put (He.cls_ok (c.fact 28 (f := .cls "Pipe") rfl)) (He.meth_ok (c.fact 64 (f := .meth "Pipe" "put") rfl)) b_Pipe_put
  obtain ⟨_, FC_Pipe_get⟩ := Dh.FunX.c (x := "get") (qual := "Pipe.get") (st := s_Pipe_get) F_Pipe_get
  have o_Pipe_get := ok_Pipe_get (P := P) (w := w) (base := base) (T := Dh.tabs K tf) Z cc_Pipe_lying FC_Pipe_get
  have cc_Pipe_get := Dh.met_of o_Pipe_get (He.cls_ok (c.fact 28 (f := .cls "Pipe") rfl)) (He.meth_ok (c.fact 65 (f := .meth "Pipe" "get") rfl)) b_Pipe_get
  obtain ⟨_, FC_law_dice⟩ := Dh.FunX.c (x := "_law_dice") (qual := "_law_dice") (st := s_law_dice) F_law_dice
  have o_law_dice := ok_law_dice (P := P) (w := w) (base := base) (T := Dh.tabs K tf) Z  FC_law_dice
  have cc_law_dice := Dh.cal_of (x := "_law_dice") (st := s_law_dice) F_law_dice o_law_dice g_law_dice b_law_dice
  obtain ⟨_, FC_law_roll⟩ := Dh.FunX.c (x := "_law_roll") (qual := "_law_roll") (st := s_law_roll) F_law_roll
  have o_law_roll := ok_law_roll (P := P) (w := w) (base := base) (T := Dh.tabs K tf) Z  FC_law_roll
  have cc_law_roll := Dh.cal_of (x := "_law_roll") (st := s_law_roll) F_law_roll o_law_roll g_law_roll b_law_roll
  obtain ⟨_, FC_law_rounds⟩ := Dh.FunX.c (x := "_law_rounds") (qual := "_law_rounds") (st := s_law_rounds) F_law_rounds
  have o_law_rounds := ok_law_rounds (P := P) (w := w) (base := base) (T := Dh.tabs K tf) Z cc_law_dice FC_law_rounds
  have cc_law_rounds := Dh.cal_of (x := "_law_rounds") (st := s_law_rounds) F_law_rounds o_law_rounds g_law_rounds b_law_rounds
  have FC_law_queue := Dh.FunX.r (x := "_law_queue") (qual := "_law_queue") (st := s_law_queue) (p := ("_law_queue", none)) F_law_queue
  have o_law_queue := ok_law_queue (P := P) (w := w) (base := base) (T := Dh.tabs K tf) Z cc_Queue___init__ cc_Queue_give cc_Queue_needs_call cc_Queue_reap cc_Queue_take cc_Queue_untaken cc_Queue_use cc_law_roll (TB _ (List.mem_map.mpr ⟨("_law_queue", none), (by simp [tf]), rfl⟩)) (Dh.tabs_mem (tf := tf) (p := ("_law_queue", none)) (by simp [tf])) (Dh.tabs_one (tf := tf) (p := ("_law_queue", none)) hap (by simp [tf])) FC_law_queue
  have cc_law_queue := Dh.cal_of (x := "_law_queue") (st := s_law_queue) F_law_queue o_law_queue g_law_queue b_law_queue
  obtain ⟨_, FC_law_pipe⟩ := Dh.FunX.c (x := "_law_pipe") (qual := "_law_pipe") (st := s_law_pipe) F_law_pipe
  have o_law_pipe := ok_law_pipe (P := P) (w := w) (base := base) (T := Dh.tabs K tf) Z cc_Pipe___init__ cc_Pipe_get cc_Pipe_lying cc_Pipe_put cc_law_roll FC_law_pipe
  have cc_law_pipe := Dh.cal_of (x := "_law_pipe") (st := s_law_pipe) F_law_pipe o_law_pipe g_law_pipe b_law_pipe
  have FC_law := Dh.FunX.r (x := "law") (qual := "law") (st := s_law) (p := ("law", none)) F_law
  have o_law := ok_law (P := P) (w := w) (base := base) (T := Dh.tabs K tf) Z cc_Pipe___init__ cc_Queue___init__ cc_Ring___init__ cc_Ring_fill cc_Ring_left_room cc_Ring_reap cc_Ring_work cc_law_pipe cc_law_queue cc_law_roll cc_law_rounds (TB _ (List.mem_map.mpr ⟨("law", none), (by simp [tf]), rfl⟩)) (Dh.tabs_mem (tf := tf) (p := ("law", none)) (by simp [tf])) (Dh.tabs_one (tf := tf) (p := ("law", none)) hap (by simp [tf])) FC_law
  exact o_law
theorem law_walk {q : Program} {XP : (Str → Option Value) → Heap → Prop} : PySem.W.WalkO q loose XP hk.says R.toRowW (HandSHeadRun.topDef R.prog 21) [] (fun f vs => PySem.call f vs) := by
  refine LamX.walk_ofTsE (l := PySem.Challenge.rw_drivehall_k06_rings_and_pipes) (n := 63) (k := 6) (x := "script") (CX := fun w => L2.CX (PySem.Challenge.rw_drivehall_k06_rings_and_pipes).prog w) rfl (by decide) (by kernel_rfl) ⟨rfl, by decide, by decide⟩ ?F (fun _ _ _ _ _ => Dh.cx_no)
  intro w mg f h Y G hmg0
  obtain ⟨K, KX, c⟩ := Y
  have hmg : mg ("law" : Str) = some (.ref f) := by
    have e : (HandSHeadRun.topDef R.prog 21).name = ("law" : Str) := by kernel_rfl
    rw [← e]
    exact hmg0
  obtain ⟨fd, hb, hF⟩ := facts (P := (PySem.Challenge.rw_drivehall_k06_rings_and_pipes).prog) (w := w) KX G hmg c.t.d c.more
  refine ⟨K, KX, fd, tf.map (He.cT K), _, ?_, ?_, ?_, hb, ?_, fun base _ _ TB => hF base TB⟩
  · intro p hp
    obtain ⟨d, hd, rfl⟩ := List.mem_map.mp hp
    exact c.empty d hd
  · intro p hp
    obtain ⟨d, hd, rfl⟩ := List.mem_map.mp hp
    exact c.out d hd
  · intro p hp
    obtain ⟨d, hd, rfl⟩ := List.mem_map.mp hp
    exact PySem.W.codeHd_of_K KX (c.hd d hd)
  · intro H a ns hl hz hT hS
    refine ⟨rfl, [Dh.sq K a (ns.map .int)], Dh.tabs_empty hT, Dh.seps_sq hS, ?_⟩
    exact law_sp hl hz

end
end Toy
end

open PySem PySem.W PySem.Calls PyProof.Rows in
set_option maxHeartbeats 0 in
theorem PySem.Challenge.cw_drivehall_k06_rings_and_pipes_holds : PySem.Challenge.rw_drivehall_k06_rings_and_pipes.Holds := by
  w_on; o_law
  refine HandSHeadRun.head_any (r := OpenLaw.row PySem.Challenge.rw_drivehall_k06_rings_and_pipes) (q := view (OpenLaw.row PySem.Challenge.rw_drivehall_k06_rings_and_pipes).prog [21]) (H := Toy.hk) (ob := Toy.ob) (M := 20000) (loose := Toy.loose) (d := HandSHeadRun.topDef (OpenLaw.row PySem.Challenge.rw_drivehall_k06_rings_and_pipes).prog 21) (kwd := []) Toy.ob_eq
    (by kernel_rfl) (fun s => by kernel_rfl) Toy.run (by kernel_rfl) (by kernel_rfl) (by kernel_rfl) (by rfl) (by first | assumption | decide +kernel) (by decide +kernel) ⟨rfl, rfl, rfl, rfl, rfl, by decide +kernel⟩ ?hw ?hc
  case hw => w_witness2
  case hc => exact Toy.law_walk
