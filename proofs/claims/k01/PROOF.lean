import PyProof.Rows.All
import Wide.All
import OpenK.AllK
import Wide.FinOn
import HandS.ForMost
import HandS.ForExc
import HandS.TryMany
import HandS.Lambda
import HandS.Flow
import HandS.Style
import HandS.Zip
import HandS.Rev
import HandS.IsInst
import HandS.Wide
import HandS.Evl
import HandS.EndTab
import HandS.Conv
import KE.KNestM
import HandS.Walk
import HandS.DictComp
import KE.KStateDown
import HandS.Defaults
import HandS.Head0
import HandS.Head1
import HandS.Head2
import HandS.HeadEnd
import HandS.HeadHook1
import HandS.HeadHook2
import HandS.HeadHook3
import HandS.HeadHook4
import HandS.HeadWalk
import PySem.Challenge.RW_drivehall_k01_words_and_registers
set_option Elab.async false
set_option pp.maxSteps 1500
set_option maxRecDepth 100000
set_option linter.all false
set_option pp.maxSteps 1500
/-! The layer Dh: chunks of the abstract heap, goals over chunks. -/
namespace Dh
open PySem L2

/-! ### chunks -/
abbrev HP := Hp → Prop
def isImm : HO → Bool
  | .tup _ => true
  | .frz _ _ => true
  | _ => false
def isTbl : HO → Bool
  | .tbl _ => true
  | _ => false
def isWr : HO → Bool
  | .lst _ => true
  | .dK _ => true
  | .dT _ => true
  | .set _ _ => true
  | .ins _ _ _ => true
  | _ => false
def Dis (h1 h2 : Hp) : Prop := ∀ a o u, h1 a = some o → h2 a = some u → o = u ∧ isImm o = true
def Sub (h H : Hp) : Prop := ∀ a o, h a = some o → H a = some o
def NT (h : Hp) : Prop := ∀ a o, h a = some o → isTbl o = false
def Seps : List HP → Hp → Prop
  | [], _ => True
  | P :: Ps, H => ∃ h1 h2, Dis h1 h2 ∧ NT h1 ∧ NT h2 ∧ Sub h1 H ∧ Sub h2 H ∧ P h1 ∧ Seps Ps h2
/-- the object o stands at a -/
def pt (a : Addr) (o : HO) : HP := fun h => h a = some o
/-- an instance of the class at C with the attributes fs -/
def ob (a C : Addr) (fs : List (Str × V)) : HP := fun h => ∃ dx, h a = some (.ins C dx fs)
def ex {α : Sort u} (P : α → HP) : HP := fun h => ∃ x, P x h
def pu (p : Prop) : HP := fun _ => p

theorem wr_imm {o : HO} (w : isWr o = true) : isImm o = false := by
  cases o <;> first | rfl | (simp [isWr] at w)
theorem imm_tbl {o : HO} (w : isImm o = true) : isTbl o = false := by
  cases o <;> first | rfl | (simp [isImm] at w)
def ntH (H : Hp) : Hp := fun a => match H a with
  | some o => if isTbl o then none else some o
  | none => none
theorem ntH_some {H : Hp} {a : Addr} {o : HO} : ntH H a = some o ↔ H a = some o ∧ isTbl o = false := by
  unfold ntH
  cases e : H a with
  | none => simp
  | some u =>
    cases t : isTbl u with
    | true =>
      simp only [t, if_true, Option.some.injEq]
      constructor
      · intro h; cases h
      · rintro ⟨rfl, h⟩; rw [t] at h; cases h
    | false =>
      simp only [t, Bool.false_eq_true, if_false, Option.some.injEq]
      constructor
      · rintro rfl; exact ⟨rfl, t⟩
      · rintro ⟨rfl, _⟩; rfl
def uni (h k : Hp) : Hp := fun a => match h a with
  | some o => some o
  | none => k a
theorem uni_some {h k : Hp} {a : Addr} {o : HO} (e : uni h k a = some o) : h a = some o ∨ k a = some o := by
  unfold uni at e
  cases q : h a with
  | none => rw [q] at e; exact .inr e
  | some u => rw [q] at e; exact .inl e
theorem uni_l {h k : Hp} {a : Addr} {o : HO} (e : h a = some o) : uni h k a = some o := by unfold uni; rw [e]
theorem uni_r {h k : Hp} (d : Dis h k) {a : Addr} {o : HO} (e : k a = some o) : uni h k a = some o := by
  unfold uni
  cases q : h a with
  | none => exact e
  | some u => rw [(d a u o q e).1]
theorem Dis.symm {h k : Hp} (d : Dis h k) : Dis k h := fun a o u h1 h2 => by
  obtain ⟨e, i⟩ := d a u o h2 h1
  subst e
  exact ⟨rfl, i⟩
theorem Dis.sub {h k h' k' : Hp} (d : Dis h k) (s : Sub h' h) (t : Sub k' k) : Dis h' k' := fun a o u h1 h2 => d a o u (s _ _ h1) (t _ _ h2)
theorem Sub.trans {h k l : Hp} (a : Sub h k) (b : Sub k l) : Sub h l := fun x o e => b x o (a x o e)
theorem Sub.refl (h : Hp) : Sub h h := fun _ _ e => e
theorem NT.sub {h k : Hp} (n : NT k) (s : Sub h k) : NT h := fun a o e => n a o (s a o e)
theorem NT.uni {h k : Hp} (n : NT h) (m : NT k) : NT (uni h k) := fun a o e => (uni_some e).elim (n a o) (m a o)
theorem Sub.uni {h k l : Hp} (s : Sub h l) (t : Sub k l) : Sub (uni h k) l := fun a o e => (uni_some e).elim (s a o) (t a o)
theorem Dis.uniL {h k l : Hp} (d : Dis h l) (e : Dis k l) : Dis (uni h k) l := fun a o u q r => (uni_some q).elim (fun z => d a o u z r) (fun z => e a o u z r)

theorem Seps.mono {H H' : Hp} (k : ∀ a o, H a = some o → isTbl o = false → H' a = some o) : ∀ {L : List HP}, Seps L H → Seps L H'
  | [], _ => trivial
  | P :: L, ⟨h1, h2, d, n1, n2, s1, s2, p, r⟩ => ⟨h1, h2, d, n1, n2, fun a o e => k a o (s1 a o e) (n1 a o e), fun a o e => k a o (s2 a o e) (n2 a o e), p, r⟩
theorem Seps.sub {H H' : Hp} (s : Sub H H') {L : List HP} (h : Seps L H) : Seps L H' := h.mono fun a o e _ => s a o e
theorem Seps.nt {H : Hp} {L : List HP} (h : Seps L H) : Seps L (ntH H) := h.mono fun _ _ e n => ntH_some.mpr ⟨e, n⟩
theorem NT.ntH (H : Hp) : NT (ntH H) := fun _ _ e => (ntH_some.mp e).2
theorem Sub.ntH (H : Hp) : Sub (ntH H) H := fun _ _ e => (ntH_some.mp e).1

theorem Seps.tail {P : HP} {L : List HP} {H : Hp} : Seps (P :: L) H → Seps L H
  | ⟨_, _, _, _, _, _, s2, _, r⟩ => r.sub s2
theorem Seps.head {P : HP} {L : List HP} {H : Hp} : Seps (P :: L) H → ∃ h, Sub h H ∧ P h
  | ⟨h1, _, _, _, _, s1, _, p, _⟩ => ⟨h1, s1, p⟩
theorem Seps.imp {P P' : HP} {L : List HP} {H : Hp} (k : ∀ h, P h → P' h) : Seps (P :: L) H → Seps (P' :: L) H
  | ⟨h1, h2, d, n1, n2, s1, s2, p, r⟩ => ⟨h1, h2, d, n1, n2, s1, s2, k _ p, r⟩
theorem Seps.impT {P : HP} {L L' : List HP} {H : Hp} (k : ∀ h, Seps L h → Seps L' h) : Seps (P :: L) H → Seps (P :: L') H
  | ⟨h1, h2, d, n1, n2, s1, s2, p, r⟩ => ⟨h1, h2, d, n1, n2, s1, s2, p, k _ r⟩
theorem Seps.swap {P Q : HP} {L : List HP} {H : Hp} : Seps (P :: Q :: L) H → Seps (Q :: P :: L) H
  | ⟨h1, h2, d, n1, n2, s1, s2, p, h21, h22, d', m1, m2, t1, t2, q, r⟩ =>
    ⟨h21, uni h1 h22, (Dis.uniL (d.sub (Sub.refl _) t1) d'.symm).symm, m1, n1.uni m2, t1.trans s2, s1.uni (t2.trans s2), q, h1, h22, d.sub (Sub.refl _) t2, n1, m2, fun _ _ e => uni_l e, fun _ _ e => uni_r (d.sub (Sub.refl _) t2) e, p, r⟩
/-- a new object -/
theorem Seps.new {L : List HP} {H : Hp} {p : Addr} {o : HO} {P : HP} (h : Seps L H) (hp : H p = none) (ho : isTbl o = false) (hP : ∀ k : Hp, k p = some o → P k) : Seps (P :: L) (upd H p o) := by
  refine ⟨upd (fun _ => none) p o, ntH H, fun a u v e1 e2 => ?_, fun a u e => ?_, NT.ntH H, fun a u e => ?_, fun a u e => ?_, hP _ upd_same, h.nt⟩
  · by_cases q : a = p
    · subst q; have z := (ntH_some.mp e2).1; rw [hp] at z; cases z
    · rw [upd_ne q] at e1; cases e1
  · by_cases q : a = p
    · subst q; rw [upd_same] at e; cases e; exact ho
    · rw [upd_ne q] at e; cases e
  · by_cases q : a = p
    · subst q; rw [upd_same] at e ⊢; exact e
    · rw [upd_ne q] at e; cases e
  · have z := (ntH_some.mp e).1
    rw [upd_ne (ne_of_none z hp)]; exact z
/-- the first chunk's object at a is written -/
theorem Seps.wr {P P' : HP} {L : List HP} {H : Hp} {a : Addr} {o' : HO} (ho : isTbl o' = false) (k : ∀ h, P h → ∃ o, h a = some o ∧ isWr o = true ∧ P' (upd h a o')) : Seps (P :: L) H → Seps (P' :: L) (upd H a o')
  | ⟨h1, h2, d, n1, n2, s1, s2, p, r⟩ => by
    obtain ⟨o, e, w, p'⟩ := k h1 p
    have na : h2 a = none := by
      cases q : h2 a with
      | none => rfl
      | some u =>
        have z := (d a o u e q).2
        rw [wr_imm w] at z
        cases z
    refine ⟨upd h1 a o', h2, fun b u v e1 e2 => ?_, fun b u e1 => ?_, n2, fun b u e1 => ?_, fun b u e1 => ?_, p', r⟩
    · by_cases q : b = a
      · subst q; rw [na] at e2; cases e2
      · rw [upd_ne q] at e1; exact d b u v e1 e2
    · by_cases q : b = a
      · subst q; rw [upd_same] at e1; cases e1; exact ho
      · rw [upd_ne q] at e1; exact n1 b u e1
    · by_cases q : b = a
      · subst q; rw [upd_same] at e1 ⊢; exact e1
      · rw [upd_ne q] at e1 ⊢; exact s1 b u e1
    · rw [upd_ne (ne_of_none e1 na)]; exact s2 b u e1
/-- chunks in two groups -/
theorem Seps.cut : ∀ {L1 L2 : List HP} {H : Hp}, Seps (L1 ++ L2) H → Seps (Seps L1 :: L2) H
  | [], L2, H, h => ⟨fun _ => none, ntH H, fun _ _ _ e => (nomatch e), fun _ _ e => (nomatch e), NT.ntH H, fun _ _ e => (nomatch e), Sub.ntH H, trivial, h.nt⟩
  | P :: L1, L2, H, ⟨h1, h2, d, n1, n2, s1, s2, p, r⟩ => by
    obtain ⟨k1, k2, e, m1, m2, t1, t2, q, z⟩ := Seps.cut r
    have d1 := d.sub (Sub.refl _) t1
    exact ⟨uni h1 k1, k2, (d.sub (Sub.refl _) t2).uniL e, n1.uni m1, m2, s1.uni (t1.trans s2), t2.trans s2, ⟨h1, k1, d1, n1, m1, fun _ _ x => uni_l x, fun _ _ x => uni_r d1 x, p, q⟩, z⟩
theorem Seps.paste : ∀ {L1 L2 : List HP} {H : Hp}, Seps (Seps L1 :: L2) H → Seps (L1 ++ L2) H
  | [], _, _, h => h.tail
  | P :: L1, L2, H, ⟨h1, h2, d, n1, n2, s1, s2, ⟨k1, k2, e, m1, m2, t1, t2, p, q⟩, r⟩ => by
    have d2 := d.sub t2 (Sub.refl _)
    exact ⟨k1, uni k2 h2, (Dis.uniL e.symm (d.sub t1 (Sub.refl _)).symm).symm, m1, m2.uni n2, t1.trans s1, (t2.trans s1).uni s2, p, Seps.paste ⟨k2, h2, d2, m2, n2, fun _ _ x => uni_l x, fun _ _ x => uni_r d2 x, q, r⟩⟩
/-- an immutable object may be told again -/
theorem Seps.more {L : List HP} {H : Hp} {P : HP} (h : Seps L H) (k : Hp) (hk : Sub k H) (hi : ∀ a o, k a = some o → isImm o = true) (hP : P k) : Seps (P :: L) H := by
  have nk : NT k := fun a o e => imm_tbl (hi a o e)
  refine ⟨k, ntH H, fun a o u e1 e2 => ?_, nk, NT.ntH H, hk, Sub.ntH H, hP, h.nt⟩
  have e3 := hk a o e1
  rw [(ntH_some.mp e2).1] at e3
  cases e3
  exact ⟨rfl, hi a o e1⟩

/-! ### picking, entailment -/
def Pick (L : List HP) (c : HP) (L1 : List HP) : Prop := ∀ H, Seps L H → Seps (c :: L1) H
theorem pick_here {c : HP} {L : List HP} : Pick (c :: L) c L := fun _ h => h
theorem pick_there {c d : HP} {L L1 : List HP} (p : Pick L c L1) : Pick (d :: L) c (d :: L1) := fun _ h => (h.impT p).swap
def Ent (L L' : List HP) : Prop := ∀ H, Seps L H → Seps L' H
theorem ent_refl {L : List HP} : Ent L L := fun _ h => h
theorem ent_nil {L : List HP} : Ent L [] := fun _ _ => trivial
theorem ent_cons {L L1 L' : List HP} {c : HP} (p : Pick L c L1) (e : Ent L1 L') : Ent L (c :: L') := fun H h => (p H h).impT e
theorem ent_drop {L L' : List HP} {d : HP} (e : Ent L L') : Ent (d :: L) L' := fun H h => e H h.tail
theorem Ent.trans {L M N : List HP} (a : Ent L M) (b : Ent M N) : Ent L N := fun H h => b H (a H h)

/-! ### goals -/
section
variable {T : List (Addr × Str)}
def Go (T : List (Addr × Str)) (L : List HP) (G : Hp → Prop) : Prop := ∀ H, LamX.Tabs T H → Seps L H → G H
theorem Go.ent {L L' : List HP} {G : Hp → Prop} (e : Ent L L') (g : Go T L' G) : Go T L G := fun H t h => g H t (e H h)
theorem Go.mono {L : List HP} {G G' : Hp → Prop} (g : Go T L G) (k : ∀ H, G H → G' H) : Go T L G' := fun H t h => k H (g H t h)
theorem go_ex {α : Sort u} {P : α → HP} {L : List HP} {G : Hp → Prop} (g : ∀ x, Go T (P x :: L) G) : Go T (ex P :: L) G := fun H t h => by
  obtain ⟨h1, h2, d, n1, n2, s1, s2, ⟨x, p⟩, r⟩ := h
  exact g x H t ⟨h1, h2, d, n1, n2, s1, s2, p, r⟩
theorem go_pu {p : Prop} {L : List HP} {G : Hp → Prop} (g : p → Go T L G) : Go T (pu p :: L) G := fun H t h => by
  obtain ⟨h1, s1, p⟩ := h.head
  exact g p H t h.tail
theorem go_seps {L1 L : List HP} {G : Hp → Prop} (g : Go T (L1 ++ L) G) : Go T (Seps L1 :: L) G := fun H t h => g H t h.paste
theorem codeO_nw {c : Addr} {q : Str} : isWr (LamX.CodeO c q) = false := rfl
theorem Tabs.wr {H : Hp} {a : Addr} {o o' : HO} (t : LamX.Tabs T H) (e : H a = some o) (w : isWr o = true) : LamX.Tabs T (upd H a o') := fun p hp => by
  obtain ⟨ps, h1, h2, h3⟩ := t p hp
  have ne : ∀ b u, H b = some u → isWr u = false → b ≠ a := fun b u q nw z => by
    subst z; rw [e] at q; cases q; rw [w] at nw; cases nw
  refine ⟨ps, by rw [upd_ne (ne _ _ h1 rfl)]; exact h1, h2, fun pos cv hc => ?_⟩
  obtain ⟨c, e1, e2⟩ := h3 pos cv hc
  exact ⟨c, e1, by rw [upd_ne (ne _ _ e2 codeO_nw)]; exact e2⟩
theorem Tabs.new {H : Hp} {a : Addr} {o : HO} (t : LamX.Tabs T H) (e : H a = none) : LamX.Tabs T (upd H a o) := t.ext fun b u q => by rw [upd_ne (ne_of_none q e)]; exact q
/-- a new object -/
theorem go_new {L : List HP} {o : HO} {P : Addr → HP} {Q : Addr → Hp → Prop} (ho : isTbl o = false) (hP : ∀ p (k : Hp), k p = some o → P p k) (g : ∀ p, Go T (P p :: L) (Q p)) : Go T L (fun H => ∀ p, H p = none → Q p (upd H p o)) :=
  fun H t h p hp => g p _ (Tabs.new t hp) (h.new hp ho (hP p))
/-- an object written -/
theorem go_wr {L L1 : List HP} {a : Addr} {o' : HO} {P P' : HP} {Q : Hp → Prop} (pk : Pick L P L1) (ho : isTbl o' = false) (k : ∀ h, P h → ∃ o, h a = some o ∧ isWr o = true ∧ P' (upd h a o')) (g : Go T (P' :: L1) Q) : Go T L (fun H => Q (upd H a o')) :=
  fun H t h => by
    have h' := pk H h
    obtain ⟨h1, s1, p⟩ := h'.head
    obtain ⟨o, e, w, _⟩ := k h1 p
    exact g _ (Tabs.wr t (s1 a o e) w) (h'.wr ho k)
theorem Pick.at {L L1 : List HP} {a : Addr} {o : HO} (pk : Pick L (pt a o) L1) {H : Hp} (h : Seps L H) : H a = some o := by
  obtain ⟨h1, s1, p⟩ := (pk H h).head
  exact s1 a o p
theorem Pick.obj {L L1 : List HP} {a C : Addr} {fs : List (Str × V)} (pk : Pick L (ob a C fs) L1) {H : Hp} (h : Seps L H) : ∃ dx, H a = some (.ins C dx fs) := by
  obtain ⟨h1, s1, dx, p⟩ := (pk H h).head
  exact ⟨dx, s1 a _ p⟩
end
end Dh

/-! The layer Dh, second part: readings whose form hangs on the values at hand; goals over chunks, step by step. -/
namespace Dh
open PySem PySem.Spec PyProof.Rows L2

/-! ### operators by the values at hand -/
section
variable {X : Cx}
def rAddX (K : PySem.W.Frag) : R2 := fun x y H Q => match x, y with
  | .int i, .int j => Q (.int (i + j)) H
  | .str a, .str b => a.length + b.length ≤ sizeLine ∧ Q (.str (a ++ b)) H
  | .int i, .bl k => Q (.int (i + b2i k)) H
  | .ref l, .ref b => (∃ xs zs, H l = some (.lst xs) ∧ H b = some (.lst zs) ∧ xs.length + zs.length ≤ sizeLine ∧ ∀ p, H p = none → Q (.ref p) (upd H p (.lst (xs ++ zs)))) ∨ rCatT K (.ref l) (.ref b) H Q
  | _, _ => False
theorem op_addS : OpR X (binaryOp .Add) (fun x y H Q => ∃ a b, x = .str a ∧ y = .str b ∧ a.length + b.length ≤ sizeLine ∧ Q (.str (a ++ b)) H) := by
  intro pins s σ H x y v u Q I rx ry h
  obtain ⟨a, b, ex, ey, hl, q⟩ := h
  subst ex; subst ey
  obtain ⟨t, rfl⟩ := rx
  obtain ⟨t', rfl⟩ := ry
  exact add_str (fun t' tk => ⟨.str _, H, I.tok _, ⟨_, rfl⟩, q⟩) hl
theorem op_addX : OpR X (binaryOp .Add) (rAddX X.K) := by
  intro pins s σ H x y v u Q I rx ry h
  unfold rAddX at h
  split at h
  · exact op_add pins s σ H _ _ v u Q I rx ry ⟨_, _, rfl, rfl, h⟩
  · exact op_addS pins s σ H _ _ v u Q I rx ry ⟨_, _, rfl, rfl, h.1, h.2⟩
  · exact op_add_ib pins s σ H _ _ v u Q I rx ry ⟨_, _, rfl, rfl, h⟩
  · rcases h with ⟨xs, zs, h1, h2, h3, h4⟩ | h
    · exact op_cat pins s σ H _ _ v u Q I rx ry ⟨_, _, xs, zs, rfl, rfl, h1, h2, h3, h4⟩
    · exact op_catT pins s σ H _ _ v u Q I rx ry h
  · exact h.elim
def rMulX (K : PySem.W.Frag) : R2 := fun x y H Q => match x, y with
  | .int i, .int j => CMul i j ∧ Q (.int (i * j)) H
  | .ref l, .int k => rRep (.ref l) (.int k) H Q
  | _, _ => False
theorem op_mulX : OpR X (binaryOp .Mult) (rMulX X.K) := by
  intro pins s σ H x y v u Q I rx ry h
  unfold rMulX at h
  split at h
  · exact op_mul pins s σ H _ _ v u Q I rx ry ⟨_, _, rfl, rfl, h.1, h.2⟩
  · exact op_rep pins s σ H _ _ v u Q I rx ry h
  · exact h.elim
/-- == of small values by decide, of data by their trees -/
def rEqX (K : PySem.W.Frag) : R2 := fun x y H Q => rEq x y H Q ∨ rEqD K x y H Q
def rNeX (K : PySem.W.Frag) : R2 := fun x y H Q => rNe x y H Q ∨ rNeD K x y H Q
theorem op_eqX (hu : X.A.units + 64 < cLine) : OpR X (compareOp .Eq) (rEqX X.K) := fun pins s σ H x y v u Q I rx ry h =>
  h.elim (op_eq pins s σ H x y v u Q I rx ry) (op_eqD hu pins s σ H x y v u Q I rx ry)
theorem op_neX (hu : X.A.units + 64 < cLine) : OpR X (compareOp .NotEq) (rNeX X.K) := fun pins s σ H x y v u Q I rx ry h =>
  h.elim (op_ne pins s σ H x y v u Q I rx ry) (op_neD hu pins s σ H x y v u Q I rx ry)
def rIxX (K : PySem.W.Frag) : R2 := fun x y H Q => rIxL K x y H Q ∨ rIxT K x y H Q
theorem ix_seq : IxR X (rIxX X.K) := fun ve se pins s σ H x y v u Q I rx ry h hs =>
  h.elim (fun z => ix_list ve se pins s σ H x y v u Q I rx ry z hs) (fun z => ix_tup ve se pins s σ H x y v u Q I rx ry z hs)
def rSlXX (K : PySem.W.Frag) : V → Option Int → Option Int → Hp → VK → Prop := fun x lo hi H Q => rSlL K x lo hi H Q ∨ rSlT K x lo hi H Q
theorem sl_seq : SlR X (rSlXX X.K) := SlR.or sl_list sl_tup
/-- for over a list or a tuple -/
def iSeq (K : PySem.W.Frag) (tl : TE) : TI := fun σ H R => tl σ H fun x H1 => ∃ a, x = .ref a ∧ ((∃ xs, SqL K H1 a xs ∧ R (Itl K a) H1) ∨ ∃ xs, SqT K H1 a xs ∧ R (Itt K a) H1)
theorem pi_seq {tg l : Expr} {tl : TE} (hl : PE X l tl) : PI X tg l (iSeq X.K tl) := by
  refine ⟨fun pins s σ H R I h => ?_⟩
  refine thn (hl.run pins s σ H _ I h) fun v s1 hv => ?_
  obtain ⟨x, H1, I1, r1, a, e, q⟩ := hv
  subst e
  cases r1
  rcases q with ⟨xs, hx, q⟩ | ⟨xs, hx, q⟩
  · obtain ⟨its, rv, p, hz⟩ := I1.list hx
    refine wpAny_pyIter_list p.isList ?_
    exact ⟨s1.heap.objs.size, [s1.heap.objs.size], _, _, H1, rfl, I1.kept (t' := s1.toks) (fun b o e => Heap.get?_push_of_some _ e), turn_list a _, ⟨_, Heap.get?_push_size _ rfl, rfl, rfl⟩,
      fun b hb => (List.mem_singleton.mp hb) ▸ I1.fpOk (Nat.le_refl _) (I1.hok.fresh (Nat.le_refl _)), q⟩
  · obtain ⟨its, rv, p, hz⟩ := I1.tuple hx
    refine wpAny_pyIter_tuple (show s1.heap.IsTuple a _ from p) ?_
    exact ⟨s1.heap.objs.size, [s1.heap.objs.size], _, _, H1, rfl, I1.kept (t' := s1.toks) (fun b o e => Heap.get?_push_of_some _ e), turn_tuple a _, ⟨_, Heap.get?_push_size _ rfl, rfl, rfl⟩,
      fun b hb => (List.mem_singleton.mp hb) ▸ I1.fpOk (Nat.le_refl _) (I1.hok.fresh (Nat.le_refl _)), q⟩
/-- built-ins by values -/
def rIntX : List V → Hp → VK → Prop := fun xs H Q => (∃ i, xs = [.int i] ∧ Q (.int i) H) ∨ ∃ k, xs = [.bl k] ∧ Q (.int (if k then 1 else 0)) H
theorem call_intX : CallR X (.type "int") rIntX := call_int1
def rAbsX : List V → Hp → VK → Prop := fun xs H Q => ∃ i, xs = [.int i] ∧ Q (.int (if i < 0 then -i else i)) H
theorem call_absX : CallR X (.builtin "abs") rAbsX := call_abs
def rMax2X : List V → Hp → VK → Prop := fun xs H Q => ∃ i j, xs = [.int i, .int j] ∧ Q (.int (if j > i then j else i)) H
theorem call_max2X (hc : X.calm = true) : CallR X (.builtin "max") rMax2X := call_max2 hc
def rMin2X : List V → Hp → VK → Prop := fun xs H Q => ∃ i j, xs = [.int i, .int j] ∧ Q (.int (if j < i then j else i)) H
theorem call_min2X (hc : X.calm = true) : CallR X (.builtin "min") rMin2X := call_min2 hc
def rStrI : List V → Hp → VK → Prop := fun xs H Q => ∃ i, xs = [.int i] ∧ i.natAbs.log2 < 1920 ∧ Q (.str (toString i)) H
theorem call_strI : CallR X (.type "str") rStrI := call_str_int
def rLenX (K : PySem.W.Frag) : List V → Hp → VK → Prop := fun xs H Q => ∃ p ys, xs = [.ref p] ∧ (SqL K H p ys ∨ SqT K H p ys) ∧ Q (.int ys.length) H
theorem call_lenX : CallR X (.builtin "len") (rLenX X.K) := call_len_seq
def rLenD : List V → Hp → VK → Prop := fun xs H Q => ∃ a kvs, xs = [V.ref a] ∧ H a = some (.dK kvs) ∧ Q (.int kvs.length) H
theorem call_lenDX : CallR X (.builtin "len") rLenD := call_lenD
def rListX (K : PySem.W.Frag) : List V → Hp → VK → Prop := fun xs H Q => ∃ p ys, xs = [.ref p] ∧ (SqL K H p ys ∨ SqT K H p ys) ∧ ∀ l, H l = none → Q (.ref l) (upd H l (.lst ys))
theorem call_listX : CallR X (.type "list") (rListX X.K) := call_list_of
def rTupX (K : PySem.W.Frag) : List V → Hp → VK → Prop := fun xs H Q => ∃ p ys, xs = [.ref p] ∧ ((SqL K H p ys ∧ ∀ l, H l = none → Q (.ref l) (upd H l (.tup ys))) ∨ (SqT K H p ys ∧ Q (.ref p) H))
theorem call_tupX : CallR X (.type "tuple") (rTupX X.K) := call_tuple_of
/-- is None -/
def rIsNX : R2 := fun x y H Q => y = .non ∧ Q (.bl (decide (x = .non))) H
def rNotNX : R2 := fun x y H Q => y = .non ∧ Q (.bl (!decide (x = .non))) H
theorem op_isNX : OpR X (compareOp .Is) rIsNX := op_isN
theorem op_notNX : OpR X (compareOp .IsNot) rNotNX := op_notN
/-- truth of a value -/
def tTruX (K : PySem.W.Frag) (ta : TE) : TT := fun σ H Q => ta σ H fun x H' => ∃ k, TruV K x H' k ∧ Q k H'
theorem pt_truX {a : Expr} {ta : TE} (ha : PE X a ta) (he : ∀ whole, isTrue a X.env whole = (do let v ← whole; standAt a.pos; holding [v] (truthy v)) := by intro _; rfl) : PT X a (tTruX X.K ta) := pt_truth ha he
/-- an attribute of an instance whose class is known -/
def lFld (C : Addr) (f : Str) (Q : VK) : V → Hp → Prop := fun x H => ∃ a dx fs v, x = .ref a ∧ H a = some (.ins C dx fs) ∧ fs.lookup f = some v ∧ Q v H
def tFldC (C : Addr) (f : Str) (ta : TE) : TE := fun σ H Q => ta σ H (lFld C f Q)
theorem pe_fldC {e : Expr} {f : Str} {pos : Pos} {ta : TE} {C : Addr} (c : Cls X.K C) (n : NoAttr X.K C f) (he : PE X e ta) (hb : attributeBase e f X.env (eval e X.env) = eval e X.env := by rfl) : PE X (.Attribute e f pos) (tFldC C f ta) := by
  refine ⟨fun pins s σ H Q I h => attr_of hb (thn (he.run pins s σ H _ I h) ?_)⟩
  intro u s1 hu
  obtain ⟨x, H1, I1, rx, a, dx, fs, v, ex, ea, l, q⟩ := hu
  subst ex
  have hua : u = Value.ref a := rx
  subst hua
  exact getattr_ok I1 ea c n l fun u' s2 I2 ru => ⟨v, H1, I2, ru, q⟩
def lSFld (C : Addr) (f : Str) (y : V) (N : Hp → Prop) : V → Hp → Prop := fun x H => ∃ a dx fs, x = .ref a ∧ H a = some (.ins C dx fs) ∧ fs.length < 1000 ∧ N (upd H a (.ins C dx (putF f y fs)))
def sFldC (C : Addr) (f : Str) (ta tv : TE) : TS := fun D σ H => tv σ H fun y H1 => ta σ H1 (lSFld C f y (D.nx σ))
theorem ps_fldC {o value : Expr} {f : Str} {pos pos' : Pos} {ta tv : TE} {C : Addr} (c : Cls X.K C) (n : NoAttr X.K C f) (ha : PE X o ta) (hv : PE X value tv) (hs : swapsWith value (some (.Attribute o f pos')) pos.line X.env = pure false := by rfl) :
    PS X (.Assign [.Attribute o f pos'] value pos) (sFldC C f ta tv) := by
  refine ⟨fun pins s σ H D I h => plainObj_wpAny_Assign_Attribute (thn (hv.run pins s σ H _ I h) ?_) hs⟩
  intro u s1 hu
  obtain ⟨y, H1, I1, ry, q⟩ := hu
  refine thn (ha.run pins s1 σ H1 _ I1 q) ?_
  intro ov s2 hov
  obtain ⟨x, H2, I2, rx, a, dx, fs, ex, ea, l, q2⟩ := hov
  subst ex
  have hua : ov = Value.ref a := rx
  subst hua
  exact setattr_ok I2 ea c n l ry fun s3 I3 => ⟨σ, _, I3, q2⟩
def lAugF (C : Addr) (f : Str) (tv : TE) (rd : V → V → Hp → VK → Prop) (σ : L2.St) (N : Hp → Prop) : V → Hp → Prop := fun x H1 => ∃ a dx fs v, x = .ref a ∧ H1 a = some (.ins C dx fs) ∧ fs.lookup f = some v ∧
  tv σ H1 fun y H2 => rd v y H2 fun z H3 => lSFld C f z N (.ref a) H3
def sAugC (C : Addr) (f : Str) (ta tv : TE) (rd : V → V → Hp → VK → Prop) : TS := fun D σ H => ta σ H (lAugF C f tv rd σ (D.nx σ))
theorem ps_augC {o value : Expr} {f : Str} {pos tpos : Pos} {ta tv : TE} {C : Addr} {op : Operator} {rd : V → V → Hp → VK → Prop} (c : Cls X.K C) (n : NoAttr X.K C f) (ha : PE X o ta) (hv : PE X value tv) (hop : InOp X op rd) :
    PS X (.AugAssign (.Attribute o f tpos) op value pos) (sAugC C f ta tv rd) := by
  refine ⟨fun pins s σ H D I h => wpAny_AugAssign_AttributeAny (thn (ha.run pins s σ H _ I h) ?_)⟩
  intro ov s1 hov
  obtain ⟨x, H1, I1, rx, a, dx, fs, v, ex, ea, l, q⟩ := hov
  subst ex
  have hua : ov = Value.ref a := rx
  subst hua
  refine getattr_ok I1 ea c n l fun u s2 I2 ru => thn (hv.run pins s2 σ H1 _ I2 q) ?_
  intro w3 s3 h3
  obtain ⟨y, H2, I3, ry, q3⟩ := h3
  refine thn (hop pins s3 σ H2 v y u w3 _ I3 ru ry q3) ?_
  intro w4 s4 h4
  obtain ⟨z, H3, I4, rz, a', dx', fs', ea0, ea', l', q4⟩ := h4
  cases ea0
  exact setattr_ok I4 ea' c n l' rz fun s5 I5 => ⟨σ, _, I5, q4⟩
/-- x op= e of ints, of texts, of lists made anew -/
def ipAdd : TIp := fun x y H Q => match x, y with
  | .int i, .int j => Q (.int (i + j)) H
  | _, _ => False
end
end Dh

/-! The layer Dh, third part: goals over chunks, one lemma a construct. -/
namespace Dh
open PySem PySem.Spec PyProof.Rows L2
section
variable {T : List (Addr × Str)} {L L1 L2' : List HP} {σ : L2.St} {Q : VK} {K : PySem.W.Frag} {v x y z : V} {i j : Int} {n : Nat} {ta tb tc te td : TE} {t u : TT} {r r' : R2} {N0 : L2.St → Hp → Prop} {R0 : VK} {B0 C0 : L2.St → Hp → Prop} {ts us : TS} {P P' : Hp → Prop} {C a p : Addr} {o o' : HO} {fs : List (Str × V)} {f : Str} {xs ys : List V} {b : Bool}

/-! ### the ends -/
theorem g_and {q : Prop} (hq : q) (k : Go T L P) : Go T L fun H => q ∧ P H := fun H t h => ⟨hq, k H t h⟩
theorem g_pure {q : Prop} (hq : q) : Go T L fun _ => q := fun _ _ _ => hq

theorem ent_imp {P P' : HP} (k : ∀ h, P h → P' h) : Ent (P :: L) (P' :: L) := fun _ h => h.imp k
theorem ent_tail {P : HP} {L' : List HP} (e : Ent L L') : Ent (P :: L) (P :: L') := fun _ h => h.impT e
theorem ent_pick {P P' : HP} {A : List HP} (pk : Pick L P A) (k : ∀ h, P h → P' h) : Pick L P' A := fun H h => (pk H h).imp k
theorem Go.fold {P P' : HP} {G : Hp → Prop} (k : ∀ h, P h → P' h) (g : Go T (P' :: L) G) : Go T (P :: L) G := g.ent (ent_imp k)
theorem g_cut {t1 u1 : TS} {N0 : L2.St → Hp → Prop} {R0 : VK} {B0 C0 : L2.St → Hp → Prop} (I : L2.St → List HP → Prop) (h : Go T L fun H => t1 ⟨fun σ H => ∃ L, I σ L ∧ LamX.Tabs T H ∧ Seps L H, R0, B0, C0⟩ σ H) (k : ∀ σ L, I σ L → Go T L fun H => u1 ⟨N0, R0, B0, C0⟩ σ H) :
    Go T L fun H => Evl.tCut t1 u1 ⟨N0, R0, B0, C0⟩ σ H := fun H t s => ⟨_, h H t s, fun σ' H' ⟨L', i, t', s'⟩ => k σ' L' i H' t' s'⟩

theorem ent_fold {A L R : List HP} {P : HP} (e : Ent L (A ++ R)) (h : ∀ H, Seps A H → P H) : Ent L (P :: R) := fun H x => (Seps.cut (e H x)).imp h
theorem ixN_lt {n k : Nat} (h : k < n) : ixN n (k : Int) = some k := by
  unfold ixN
  rw [if_pos (by omega), if_pos (by omega)]
  rfl
theorem atI_lt {α : Type} {xs : List α} {k : Nat} {v : α} (h : xs[k]? = some v) : atI xs (k : Int) = some v := by
  have hk : k < xs.length := (List.getElem?_eq_some_iff.mp h).1
  unfold atI
  rw [ixN_lt hk]
  exact h

theorem hasM_of {P : HP} {A : List HP} {m : Str} (pk : Pick L P A) (h : ∀ h, P h → ∃ dx fs, h a = some (.ins C dx fs) ∧ fs.lookup m = none) : ∀ H, Seps L H → ∃ dx fs, H a = some (.ins C dx fs) ∧ fs.lookup m = none := fun H s => by
  obtain ⟨h1, s1, p⟩ := (pk H s).head
  obtain ⟨dx, fs, e, n⟩ := h h1 p
  exact ⟨dx, fs, s1 _ _ e, n⟩

theorem Ent.pick {L' A : List HP} {c : HP} (e : Ent L L') (p : Pick L' c A) : Pick L c A := fun H h => p H (e H h)
theorem Ent.has {L' A : List HP} {c : HP} (e : Ent L L') (p : Pick L' c A) : ∃ A, Pick L c A := ⟨A, e.pick p⟩

/-! ### expressions -/
theorem g_var {i : Nat} (h : σ[i]? = some (some v)) (k : Go T L fun H => Q v H) : Go T L fun H => tVar i σ H Q := fun H t s => ⟨v, h, k H t s⟩
theorem g_c (k : Go T L fun H => Q v H) : Go T L fun H => tC v σ H Q := k
theorem g_op (k : Go T L fun H => ta σ H fun x H1 => tb σ H1 fun y H2 => r x y H2 Q) : Go T L fun H => tOp r ta tb σ H Q := k
theorem g_un {ru : V → Hp → VK → Prop} (k : Go T L fun H => ta σ H fun x H1 => ru x H1 Q) : Go T L fun H => tUn ru ta σ H Q := k
theorem g_I0 {g : Int → Int → V} (k : Go T L fun H => Q (g i j) H) : Go T L fun H => rI0 g (.int i) (.int j) H Q := fun H t s => ⟨i, j, rfl, rfl, k H t s⟩
theorem g_I {Cn : Int → Int → Prop} {g : Int → Int → V} (hc : Cn i j) (k : Go T L fun H => Q (g i j) H) : Go T L fun H => rI Cn g (.int i) (.int j) H Q := fun H t s => ⟨i, j, rfl, rfl, hc, k H t s⟩
theorem g_U {g : Int → V} (k : Go T L fun H => Q (g i) H) : Go T L fun H => rU g (.int i) H Q := fun H t s => ⟨i, rfl, k H t s⟩
theorem g_addI (k : Go T L fun H => Q (.int (i + j)) H) : Go T L fun H => rAddX K (.int i) (.int j) H Q := k
theorem g_addB (k : Go T L fun H => Q (.int (i + b2i b)) H) : Go T L fun H => rAddX K (.int i) (.bl b) H Q := k
theorem g_addS {s1 s2 : Str} (hl : s1.length + s2.length ≤ sizeLine) (k : Go T L fun H => Q (.str (s1 ++ s2)) H) : Go T L fun H => rAddX K (.str s1) (.str s2) H Q := fun H t s => ⟨hl, k H t s⟩
theorem g_addL {l q : Addr} {A B : List HP} (p1 : Pick L (pt l (.lst xs)) A) (p2 : Pick L (pt q (.lst ys)) B) (hl : xs.length + ys.length ≤ sizeLine) (k : ∀ p, Go T (pt p (.lst (xs ++ ys)) :: L) fun H => Q (.ref p) H) : Go T L fun H => rAddX K (.ref l) (.ref q) H Q :=
  fun H t s => .inl ⟨xs, ys, p1.at s, p2.at s, hl, (go_new (P := fun p => pt p (.lst (xs ++ ys))) rfl (fun _ _ e => e) k) H t s⟩
theorem g_mulI (hc : CMul i j) (k : Go T L fun H => Q (.int (i * j)) H) : Go T L fun H => rMulX K (.int i) (.int j) H Q := fun H t s => ⟨hc, k H t s⟩
theorem g_eqS (h : scal x y = true) (k : Go T L fun H => Q (.bl (decide (x = y))) H) : Go T L fun H => rEqX K x y H Q := fun H t s => .inl ⟨h, k H t s⟩
theorem g_neS (h : scal x y = true) (k : Go T L fun H => Q (.bl (!decide (x = y))) H) : Go T L fun H => rNeX K x y H Q := fun H t s => .inl ⟨h, k H t s⟩
theorem g_eqD {d e : PyData} (h1 : ∀ H, Seps L H → Dp K H x d) (h2 : ∀ H, Seps L H → Dp K H y e) (s1 : SeqAt.shaped d = true) (s2 : SeqAt.shaped e = true) (k : Go T L fun H => Q (.bl (PyData.eqv d e)) H) : Go T L fun H => rEqX K x y H Q :=
  fun H t s => .inr ⟨d, e, h1 H s, h2 H s, s1, s2, k H t s⟩
theorem g_neD {d e : PyData} (h1 : ∀ H, Seps L H → Dp K H x d) (h2 : ∀ H, Seps L H → Dp K H y e) (s1 : SeqAt.shaped d = true) (s2 : SeqAt.shaped e = true) (k : Go T L fun H => Q (.bl (!PyData.eqv d e)) H) : Go T L fun H => rNeX K x y H Q :=
  fun H t s => .inr ⟨d, e, h1 H s, h2 H s, s1, s2, k H t s⟩
theorem g_isN (k : Go T L fun H => Q (.bl (decide (x = .non))) H) : Go T L fun H => rIsNX x .non H Q := fun H t s => ⟨rfl, k H t s⟩
theorem g_notN (k : Go T L fun H => Q (.bl (!decide (x = .non))) H) : Go T L fun H => rNotNX x .non H Q := fun H t s => ⟨rfl, k H t s⟩
theorem g_ixL {A : List HP} (pk : Pick L (pt a (.lst xs)) A) (h : atI xs i = some v) (k : Go T L fun H => Q v H) : Go T L fun H => rIxX K (.ref a) (.int i) H Q := fun H t s => .inl ⟨a, xs, i, v, rfl, rfl, SqL.of (pk.at s), h, k H t s⟩
theorem g_ixT {A : List HP} (pk : Pick L (pt a (.tup xs)) A) (h : atI xs i = some v) (k : Go T L fun H => Q v H) : Go T L fun H => rIxX K (.ref a) (.int i) H Q := fun H t s => .inr ⟨a, xs, i, v, rfl, rfl, SqT.of (pk.at s), h, k H t s⟩
theorem g_slL {A : List HP} {lo hi : Option Int} (pk : Pick L (pt a (.lst xs)) A) (k : ∀ p, Go T (pt p (.lst (cutV xs lo hi)) :: L) fun H => Q (.ref p) H) : Go T L fun H => rSlXX K (.ref a) lo hi H Q :=
  fun H t s => .inl ⟨a, xs, rfl, SqL.of (pk.at s), (go_new (P := fun p => pt p (.lst (cutV xs lo hi))) rfl (fun _ _ e => e) k) H t s⟩
theorem g_sl {rs : V → Option Int → Option Int → Hp → VK → Prop} {tl th : TO} (k : Go T L fun H => te σ H fun x H1 => tl σ H1 fun l H2 => th σ H2 fun u H3 => rs x l u H3 Q) : Go T L fun H => tSl rs te tl th σ H Q := k
theorem g_noPart {R : Option Int → Hp → Prop} (k : Go T L fun H => R none H) : Go T L fun H => tNoPart σ H R := k
def lPart (R : Option Int → Hp → Prop) (x : V) (H : Hp) : Prop := ∃ i, x = .int i ∧ R (some i) H
theorem g_part {R : Option Int → Hp → Prop} (k : Go T L fun H => te σ H (lPart R)) : Go T L fun H => tPart te σ H R := k
theorem g_isInt {R : Int → Hp → Prop} (k : Go T L fun H => R i H) : Go T L fun H => ∃ i', V.int i = .int i' ∧ R i' H := fun H t s => ⟨i, rfl, k H t s⟩
theorem g_isSomeInt {R : Option Int → Hp → Prop} (k : Go T L fun H => R (some i) H) : Go T L fun H => lPart R (.int i) H := fun H t s => ⟨i, rfl, k H t s⟩
theorem g_fldE (k : Go T L fun H => ta σ H (lFld C f Q)) : Go T L fun H => tFldC C f ta σ H Q := k
theorem g_fld {A : List HP} (pk : Pick L (ob a C fs) A) (h : fs.lookup f = some v) (k : Go T L fun H => Q v H) : Go T L fun H => lFld C f Q (.ref a) H := fun H t s => by
  obtain ⟨dx, e⟩ := pk.obj s
  exact ⟨a, dx, fs, v, rfl, e, h, k H t s⟩
def nTup (Q : VK) (xs : List V) (H : Hp) : Prop := xs.length ≤ sizeLine ∧ ∀ p, H p = none → Q (.ref p) (upd H p (.tup xs))
def nLst (Q : VK) (xs : List V) (H : Hp) : Prop := xs.length ≤ sizeLine ∧ ∀ p, H p = none → Q (.ref p) (upd H p (.lst xs))
theorem g_tup {tr : TA} (k : Go T L fun H => tr σ H (nTup Q)) : Go T L fun H => tTup tr σ H Q := k
theorem g_lst {tr : TA} (k : Go T L fun H => tr σ H (nLst Q)) : Go T L fun H => tLst tr σ H Q := k
theorem g_newT (hl : xs.length ≤ sizeLine) (k : ∀ p, Go T (pt p (.tup xs) :: L) fun H => Q (.ref p) H) : Go T L fun H => nTup Q xs H :=
  fun H t s => ⟨hl, (go_new (P := fun p => pt p (.tup xs)) rfl (fun _ _ e => e) k) H t s⟩
theorem g_newL (hl : xs.length ≤ sizeLine) (k : ∀ p, Go T (pt p (.lst xs) :: L) fun H => Q (.ref p) H) : Go T L fun H => nLst Q xs H :=
  fun H t s => ⟨hl, (go_new (P := fun p => pt p (.lst xs)) rfl (fun _ _ e => e) k) H t s⟩
theorem g_nil {R : List V → Hp → Prop} (k : Go T L fun H => R [] H) : Go T L fun H => tNil σ H R := k
theorem g_cons {tr : TA} {R : List V → Hp → Prop} (k : Go T L fun H => ta σ H fun x H1 => tr σ H1 fun xs H2 => R (x :: xs) H2) : Go T L fun H => tCons ta tr σ H R := k
theorem g_call {sp : Sp} {E : XK} {tr : TA} (k : Go T L fun H => tr σ H fun vs H1 => sp vs H1 Q E) : Go T L fun H => tCall sp [] E tr σ H Q := by
  unfold tCall
  simp only [List.append_nil]
  exact k
/-- a method of an instance that stands in the chunk c -/
def HasM (L : List HP) (a C : Addr) (m : Str) : Prop := ∀ H, Seps L H → ∃ dx fs, H a = some (.ins C dx fs) ∧ fs.lookup m = none
def lMeth (C : Addr) (m : Str) (sp : Sp) (E : XK) (tr : TA) (σ : L2.St) (Q : VK) : V → Hp → Prop := fun x H1 => ∃ a dx fs, x = .ref a ∧ H1 a = some (.ins C dx fs) ∧ fs.lookup m = none ∧ tr σ H1 fun vs H2 => sp (x :: (vs ++ [])) H2 Q E
theorem g_methE {m : Str} {sp : Sp} {E : XK} {tr : TA} (k : Go T L fun H => ta σ H (lMeth C m sp E tr σ Q)) : Go T L fun H => tMeth C m sp [] E ta tr σ H Q := k
theorem g_meth {m : Str} {sp : Sp} {E : XK} {tr : TA} (hm : HasM L a C m) (k : Go T L fun H => tr σ H fun vs H2 => sp (.ref a :: vs) H2 Q E) : Go T L fun H => lMeth C m sp E tr σ Q (.ref a) H := fun H t s => by
  obtain ⟨dx, fs, e, n⟩ := hm H s
  refine ⟨a, dx, fs, rfl, e, n, ?_⟩
  simp only [List.append_nil]
  exact k H t s
theorem hasM_ob {A : List HP} {m : Str} (pk : Pick L (ob a C fs) A) (h : fs.lookup m = none) : HasM L a C m := fun H s => by
  obtain ⟨dx, e⟩ := pk.obj s
  exact ⟨dx, fs, e, h⟩
def nMk (C : Addr) (sp : Sp) (E : XK) (Q : VK) (vs : List V) (H1 : Hp) : Prop := ∀ x dx, H1 x = none → H1 dx = none → dx ≠ x → sp (.ref x :: vs) (upd (upd H1 dx (.own x)) x (.ins C dx [])) (fun v H2 => v = .non ∧ Q (.ref x) H2) E
theorem g_make {sp : Sp} {E : XK} {tr : TA} (k : Go T L fun H => tr σ H (nMk C sp E Q)) : Go T L fun H => tMake C sp [] E tr σ H Q := by
  unfold tMake
  simp only [List.append_nil]
  exact k
theorem g_made {sp : Sp} {E : XK} {vs : List V} (k : ∀ x, Go T (ob x C [] :: L) fun H => sp (.ref x :: vs) H (fun v H2 => v = .non ∧ Q (.ref x) H2) E) : Go T L fun H => nMk C sp E Q vs H := fun H t s x dx nx nd ne => by
  have t1 := Tabs.new (o := .own x) t nd
  have s1 : Seps L (upd H dx (.own x)) := s.sub fun b u e => by rw [upd_ne (ne_of_none e nd)]; exact e
  have n1 : upd H dx (.own x) x = none := by rw [upd_ne (Ne.symm ne)]; exact nx
  exact k x _ (Tabs.new t1 n1) (s1.new n1 rfl fun kk e => ⟨dx, e⟩)
theorem g_cb {rc : List V → Hp → VK → Prop} {tr : TA} (k : Go T L fun H => tr σ H fun vs H1 => rc vs H1 Q) : Go T L fun H => tCB rc tr σ H Q := k
theorem g_int (k : Go T L fun H => Q (.int i) H) : Go T L fun H => rIntX [.int i] H Q := fun H t s => .inl ⟨i, rfl, k H t s⟩
theorem g_intB (k : Go T L fun H => Q (.int (if b then 1 else 0)) H) : Go T L fun H => rIntX [.bl b] H Q := fun H t s => .inr ⟨b, rfl, k H t s⟩
theorem g_abs (k : Go T L fun H => Q (.int (if i < 0 then -i else i)) H) : Go T L fun H => rAbsX [.int i] H Q := fun H t s => ⟨i, rfl, k H t s⟩
theorem g_max2 (k : Go T L fun H => Q (.int (if j > i then j else i)) H) : Go T L fun H => rMax2X [.int i, .int j] H Q := fun H t s => ⟨i, j, rfl, k H t s⟩
theorem g_min2 (k : Go T L fun H => Q (.int (if j < i then j else i)) H) : Go T L fun H => rMin2X [.int i, .int j] H Q := fun H t s => ⟨i, j, rfl, k H t s⟩
theorem g_strI (h : i.natAbs.log2 < 1920) (k : Go T L fun H => Q (.str (toString i)) H) : Go T L fun H => rStrI [.int i] H Q := fun H t s => ⟨i, rfl, h, k H t s⟩
theorem g_lenL {A : List HP} (pk : Pick L (pt a (.lst xs)) A) (k : Go T L fun H => Q (.int xs.length) H) : Go T L fun H => rLenX K [.ref a] H Q := fun H t s => ⟨a, xs, rfl, .inl (SqL.of (pk.at s)), k H t s⟩
theorem g_lenT {A : List HP} (pk : Pick L (pt a (.tup xs)) A) (k : Go T L fun H => Q (.int xs.length) H) : Go T L fun H => rLenX K [.ref a] H Q := fun H t s => ⟨a, xs, rfl, .inr (SqT.of (pk.at s)), k H t s⟩
theorem g_lenD {A : List HP} {kvs : List (Key × V)} (pk : Pick L (pt a (.dK kvs)) A) (k : Go T L fun H => Q (.int kvs.length) H) : Go T L fun H => rLenD [.ref a] H Q := fun H t s => ⟨a, kvs, rfl, pk.at s, k H t s⟩
theorem g_listL {A : List HP} (pk : Pick L (pt a (.lst xs)) A) (k : ∀ p, Go T (pt p (.lst xs) :: L) fun H => Q (.ref p) H) : Go T L fun H => rListX K [.ref a] H Q := fun H t s => ⟨a, xs, rfl, .inl (SqL.of (pk.at s)), (go_new (P := fun p => pt p (.lst xs)) rfl (fun _ _ e => e) k) H t s⟩
theorem g_listT {A : List HP} (pk : Pick L (pt a (.tup xs)) A) (k : ∀ p, Go T (pt p (.lst xs) :: L) fun H => Q (.ref p) H) : Go T L fun H => rListX K [.ref a] H Q := fun H t s => ⟨a, xs, rfl, .inr (SqT.of (pk.at s)), (go_new (P := fun p => pt p (.lst xs)) rfl (fun _ _ e => e) k) H t s⟩
theorem g_tupL {A : List HP} (pk : Pick L (pt a (.lst xs)) A) (k : ∀ p, Go T (pt p (.tup xs) :: L) fun H => Q (.ref p) H) : Go T L fun H => rTupX K [.ref a] H Q := fun H t s => ⟨a, xs, rfl, .inl ⟨SqL.of (pk.at s), (go_new (P := fun p => pt p (.tup xs)) rfl (fun _ _ e => e) k) H t s⟩⟩
theorem g_tupT {A : List HP} (pk : Pick L (pt a (.tup xs)) A) (k : Go T L fun H => Q (.ref a) H) : Go T L fun H => rTupX K [.ref a] H Q := fun H t s => ⟨a, xs, rfl, .inr ⟨SqT.of (pk.at s), k H t s⟩⟩
theorem g_sum {A : List HP} {ns : List Int} (pk : Pick L (pt a (.lst (ns.map V.int))) A) (k : Go T L fun H => Q (.int ns.sum) H) : Go T L fun H => rSum K [.ref a] H Q := fun H t s => ⟨a, ns, rfl, SqL.of (pk.at s), k H t s⟩
/-! ### methods of lists -/
theorem g_bm {rm : V → List V → Hp → VK → Prop} {tr : TA} (k : Go T L fun H => ta σ H fun x H1 => tyV K "list" x H1 ∧ tr σ H1 fun vs H2 => rm x vs H2 Q) : Go T L fun H => tBM K "list" rm ta tr σ H Q := k
theorem g_bm0 {rm : V → List V → Hp → VK → Prop} (k : Go T L fun H => ta σ H fun x H1 => tyV K "list" x H1 ∧ rm x [] H1 Q) : Go T L fun H => tBM0 K "list" rm ta σ H Q := k
theorem g_tyL {A : List HP} (pk : Pick L (pt a (.lst xs)) A) (k : Go T L P) : Go T L fun H => tyV K "list" (.ref a) H ∧ P H := fun H t s => ⟨.inl ⟨rfl, _, SqL.of (pk.at s)⟩, k H t s⟩
theorem go_lst {A : List HP} {G : Hp → Prop} (pk : Pick L (pt a (.lst xs)) A) (k : Go T (pt a (.lst ys) :: A) G) : Go T L fun H => G (upd H a (.lst ys)) := go_wr (P' := pt a (.lst ys)) pk rfl (fun h e => ⟨_, e, rfl, upd_same⟩) k
theorem g_append {A : List HP} (pk : Pick L (pt a (.lst xs)) A) (hl : xs.length < sizeLine) (k : Go T (pt a (.lst (xs ++ [y])) :: A) fun H => Q .non H) : Go T L fun H => rAppend (.ref a) [y] H Q := fun H t s => ⟨a, xs, y, rfl, rfl, pk.at s, hl, (go_lst pk k) H t s⟩
theorem g_pop {A : List HP} (pk : Pick L (pt a (.lst xs)) A) (h : xs[xs.length - 1]? = some y) (k : Go T (pt a (.lst xs.dropLast) :: A) fun H => Q y H) : Go T L fun H => rPop (.ref a) [] H Q := fun H t s => ⟨a, xs, y, rfl, rfl, pk.at s, h, (go_lst pk k) H t s⟩
theorem g_popAt {A : List HP} {m : Nat} (pk : Pick L (pt a (.lst xs)) A) (h1 : -(2 ^ 63) ≤ i) (h2 : i < 2 ^ 63) (h3 : seqIndex? i xs.length = some m) (h : xs[m]? = some y) (k : Go T (pt a (.lst (xs.eraseIdx m)) :: A) fun H => Q y H) : Go T L fun H => rPopAt (.ref a) [.int i] H Q :=
  fun H t s => ⟨a, xs, i, m, y, rfl, rfl, pk.at s, h1, h2, h3, h, (go_lst pk k) H t s⟩
theorem g_rep {A : List HP} (pk : Pick L (pt a (.lst xs)) A) (h1 : -(2 ^ 63) ≤ i) (h2 : i < 2 ^ 63) (h3 : xs.length * i.toNat ≤ sizeLine) (k : ∀ p, Go T (pt p (.lst (List.replicate i.toNat xs).flatten) :: L) fun H => Q (.ref p) H) : Go T L fun H => rMulX K (.ref a) (.int i) H Q :=
  fun H t s => ⟨a, i, xs, rfl, rfl, pk.at s, h1, h2, h3, (go_new (P := fun p => pt p (.lst (List.replicate i.toNat xs).flatten)) rfl (fun _ _ e => e) k) H t s⟩

/-! ### tests -/
theorem g_test {R : Bool → Hp → Prop} (k : Go T L fun H => te σ H fun x H' => ∃ k, x = .bl k ∧ R k H') : Go T L fun H => tTest te σ H R := k
theorem g_B {R : Bool → Hp → Prop} (k : Go T L fun H => te σ H fun x H' => ∃ k, x = .bl k ∧ R k H') : Go T L fun H => tB te σ H R := k
theorem g_isB {R : Bool → Hp → Prop} (k : Go T L fun H => R b H) : Go T L fun H => ∃ k, V.bl b = .bl k ∧ R k H := fun H t s => ⟨b, rfl, k H t s⟩
theorem g_if {A B : Hp → Prop} (h1 : b = true → Go T L A) (h2 : b = false → Go T L B) : Go T L fun H => if b = true then A H else B H := fun H t s => by
  cases b with
  | true => rw [if_pos rfl]; exact h1 rfl H t s
  | false => rw [if_neg (by decide)]; exact h2 rfl H t s
theorem g_ifT {A B : Hp → Prop} (h : b = true) (k : Go T L A) : Go T L fun H => if b = true then A H else B H := g_if (fun _ => k) (fun e => absurd (e.symm.trans h) (by decide))
theorem g_ifF {A B : Hp → Prop} (h : b = false) (k : Go T L B) : Go T L fun H => if b = true then A H else B H := g_if (fun e => absurd (e.symm.trans h) (by decide)) (fun _ => k)
theorem g_ifD {c : Prop} [Decidable c] {A B : Hp → Prop} (h1 : c → Go T L A) (h2 : ¬ c → Go T L B) : Go T L fun H => if decide c = true then A H else B H := g_if (fun e => h1 (of_decide_eq_true e)) (fun e => h2 (of_decide_eq_false e))
theorem g_ifN {c : Prop} [Decidable c] {A B : Hp → Prop} (h1 : c → Go T L B) (h2 : ¬ c → Go T L A) : Go T L fun H => if (!decide c) = true then A H else B H :=
  g_if (fun e => h2 (of_decide_eq_false (by simpa using e))) (fun e => h1 (of_decide_eq_true (by simpa using e)))
theorem g_not {R : Bool → Hp → Prop} (k : Go T L fun H => t σ H fun c H1 => R (!c) H1) : Go T L fun H => tNot t σ H R := k
theorem g_tand {R : Bool → Hp → Prop} (k : Go T L fun H => t σ H fun c H1 => if c = true then u σ H1 R else R false H1) : Go T L fun H => tAnd t u σ H R := k
theorem g_tor {R : Bool → Hp → Prop} (k : Go T L fun H => t σ H fun c H1 => if c = true then R true H1 else u σ H1 R) : Go T L fun H => tOr t u σ H R := k
theorem g_andV (k : Go T L fun H => ta σ H fun x H1 => ∃ c, x = .bl c ∧ if c = true then tb σ H1 Q else Q (.bl false) H1) : Go T L fun H => tAndV ta tb σ H Q := k
theorem g_orV (k : Go T L fun H => ta σ H fun x H1 => ∃ c, x = .bl c ∧ if c = true then Q (.bl true) H1 else tb σ H1 Q) : Go T L fun H => tOrV ta tb σ H Q := k
theorem g_notV (k : Go T L fun H => ta σ H fun x H1 => ∃ c, x = .bl c ∧ Q (.bl (!c)) H1) : Go T L fun H => tNotV ta σ H Q := k
theorem g_ifE (k : Go T L fun H => t σ H fun c H1 => if c = true then ta σ H1 Q else tb σ H1 Q) : Go T L fun H => tIf t ta tb σ H Q := k
theorem g_chain (k : Go T L fun H => ta σ H fun x H1 => tb σ H1 fun y H2 => r x y H2 fun z H3 => ∃ k, z = .bl k ∧ (if k = true then tc σ H3 fun w' H4 => r' y w' H4 Q else Q (.bl false) H3)) : Go T L fun H => tChain r r' ta tb tc σ H Q := k
theorem g_tru {R : Bool → Hp → Prop} (k : Go T L fun H => ta σ H fun x H' => ∃ k, TruV K x H' k ∧ R k H') : Go T L fun H => tTruX K ta σ H R := k
theorem g_truB {R : Bool → Hp → Prop} (k : Go T L fun H => R b H) : Go T L fun H => ∃ k, TruV K (.bl b) H k ∧ R k H := fun H t s => ⟨b, rfl, k H t s⟩
theorem g_truI {R : Bool → Hp → Prop} (k : Go T L fun H => R (i != 0) H) : Go T L fun H => ∃ k, TruV K (.int i) H k ∧ R k H := fun H t s => ⟨_, rfl, k H t s⟩
theorem g_truN {R : Bool → Hp → Prop} (k : Go T L fun H => R false H) : Go T L fun H => ∃ k, TruV K .non H k ∧ R k H := fun H t s => ⟨_, rfl, k H t s⟩
theorem g_truL {A : List HP} {R : Bool → Hp → Prop} (pk : Pick L (pt a (.lst xs)) A) (k : Go T L fun H => R (!xs.isEmpty) H) : Go T L fun H => ∃ k, TruV K (.ref a) H k ∧ R k H := fun H t s => ⟨_, .inl ⟨xs, SqL.of (pk.at s), rfl⟩, k H t s⟩

/-! ### statements -/
theorem g_seq (k : Go T L fun H => ts ⟨us ⟨N0, R0, B0, C0⟩, R0, B0, C0⟩ σ H) : Go T L fun H => tSeq ts us ⟨N0, R0, B0, C0⟩ σ H := k
theorem g_next (k : Go T L fun H => N0 σ H) : Go T L fun H => tNext ⟨N0, R0, B0, C0⟩ σ H := k
theorem g_brk (k : Go T L fun H => B0 σ H) : Go T L fun H => tBreak ⟨N0, R0, B0, C0⟩ σ H := k
theorem g_cont (k : Go T L fun H => C0 σ H) : Go T L fun H => tCont ⟨N0, R0, B0, C0⟩ σ H := k
theorem g_drop (k : Go T L fun H => te σ H fun _ H1 => N0 σ H1) : Go T L fun H => tDrop te ⟨N0, R0, B0, C0⟩ σ H := k
theorem g_ret (k : Go T L fun H => te σ H R0) : Go T L fun H => tRet te ⟨N0, R0, B0, C0⟩ σ H := k
theorem g_retN (k : Go T L fun H => R0 .non H) : Go T L fun H => tRetN ⟨N0, R0, B0, C0⟩ σ H := k
theorem g_ifS (k : Go T L fun H => t σ H fun b H1 => if b = true then ts ⟨N0, R0, B0, C0⟩ σ H1 else us ⟨N0, R0, B0, C0⟩ σ H1) : Go T L fun H => tIfS t ts us ⟨N0, R0, B0, C0⟩ σ H := k
theorem g_asg {g : TG} (k : Go T L fun H => te σ H fun x H1 => g x σ H1 N0) : Go T L fun H => tAsg te g ⟨N0, R0, B0, C0⟩ σ H := k
theorem g_name {m : Nat} {N : L2.St → Hp → Prop} (k : Go T L fun H => N (σ.set m (some v)) H) : Go T L fun H => gName m v σ H N := k
theorem g_gsub {to ti : TE} {tt : TSet} {N : L2.St → Hp → Prop} (k : Go T L fun H => to σ H fun o H1 => ti σ H1 fun i H2 => tt o i v H2 fun H3 => N σ H3) : Go T L fun H => gSub to ti tt v σ H N := k
theorem g_setL {A : List HP} {m : Nat} {N : Hp → Prop} (pk : Pick L (pt a (.lst xs)) A) (h : ixN xs.length i = some m) (k : Go T (pt a (.lst (xs.set m v)) :: A) N) : Go T L fun H => rSetL (.ref a) (.int i) v H N := fun H t s => ⟨a, xs, i, m, rfl, rfl, pk.at s, h, (go_lst pk k) H t s⟩
theorem g_gtup {A : List HP} {m : Nat} {tg : TGs} {N : L2.St → Hp → Prop} (pk : Pick L (pt a (.tup xs)) A) (h : xs.length = m) (k : Go T L fun H => tg xs σ H N) : Go T L fun H => gTup K m tg (.ref a) σ H N := fun H t s => ⟨a, xs, rfl, SqT.of (pk.at s), h, k H t s⟩
theorem g_gnil {N : L2.St → Hp → Prop} (k : Go T L fun H => N σ H) : Go T L fun H => gNil [] σ H N := fun H t s => ⟨rfl, k H t s⟩
theorem g_gcons {g : TG} {tg : TGs} {vs : List V} {N : L2.St → Hp → Prop} (k : Go T L fun H => g v σ H fun σ' H' => tg vs σ' H' N) : Go T L fun H => gCons g tg (v :: vs) σ H N := fun H t s => ⟨v, vs, rfl, k H t s⟩
theorem g_par {m q : Nat} {tr : TA} (k : Go T L fun H => tr σ H fun vs H1 => ∃ v w, vs = [v, w] ∧ N0 ((σ.set m (some v)).set q (some w)) H1) : Go T L fun H => tPar m q tr ⟨N0, R0, B0, C0⟩ σ H := k
theorem g_par2 {F : V → V → Hp → Prop} (k : Go T L fun H => F x y H) : Go T L fun H => ∃ v w, [x, y] = [v, w] ∧ F v w H := fun H t s => ⟨x, y, rfl, k H t s⟩
theorem g_sfldE {tv : TE} (k : Go T L fun H => tv σ H fun y H1 => ta σ H1 (lSFld C f y (N0 σ))) : Go T L fun H => sFldC C f ta tv ⟨N0, R0, B0, C0⟩ σ H := k
theorem g_sfld {A : List HP} {fs' : List (Str × V)} {N : Hp → Prop} (pk : Pick L (ob a C fs) A) (h : putF f y fs = fs') (hl : fs.length < 1000) (k : Go T (ob a C fs' :: A) N) : Go T L fun H => lSFld C f y N (.ref a) H := fun H t s => by
  obtain ⟨dx, e⟩ := pk.obj s
  refine ⟨a, dx, fs, rfl, e, hl, ?_⟩
  rw [h]
  exact (go_wr (P' := ob a C fs') (o' := .ins C dx fs') pk rfl (fun hh ⟨dy, e1⟩ => ⟨_, e1, rfl, dx, upd_same⟩) k) H t s
theorem g_augE {tv : TE} {rd : V → V → Hp → VK → Prop} (k : Go T L fun H => ta σ H (lAugF C f tv rd σ (N0 σ))) : Go T L fun H => sAugC C f ta tv rd ⟨N0, R0, B0, C0⟩ σ H := k
theorem g_augF {A : List HP} {tv : TE} {rd : V → V → Hp → VK → Prop} {N : Hp → Prop} (pk : Pick L (ob a C fs) A) (h : fs.lookup f = some v) (k : Go T L fun H => tv σ H fun y H2 => rd v y H2 fun z H3 => lSFld C f z N (.ref a) H3) : Go T L fun H => lAugF C f tv rd σ N (.ref a) H := fun H t s => by
  obtain ⟨dx, e⟩ := pk.obj s
  exact ⟨a, dx, fs, v, rfl, e, h, k H t s⟩
theorem g_augV {m : Nat} {ti : TIp} (h : σ[m]? = some (some x)) (k : Go T L fun H => te σ H fun y H1 => ti x y H1 fun z H2 => N0 (σ.set m (some z)) H2) : Go T L fun H => tAug m te ti ⟨N0, R0, B0, C0⟩ σ H := fun H t s => ⟨x, h, k H t s⟩
theorem g_ipI {g : Int → Int → Int} (k : Go T L fun H => Q (.int (g i j)) H) : Go T L fun H => ipI g (.int i) (.int j) H Q := fun H t s => ⟨i, j, rfl, rfl, k H t s⟩
theorem g_rAdd (k : Go T L fun H => Q (.int (i + j)) H) : Go T L fun H => rAdd (.int i) (.int j) H Q := fun H t s => ⟨i, j, rfl, rfl, k H t s⟩
theorem g_rSub (k : Go T L fun H => Q (.int (i - j)) H) : Go T L fun H => rSub (.int i) (.int j) H Q := fun H t s => ⟨i, j, rfl, rfl, k H t s⟩

/-! ### loops -/
/-- a state told by slots and chunks -/
abbrev SI := L2.St → List HP → Prop
def SI.at (T : List (Addr × Str)) (I : SI) : L2.St → Hp → Prop := fun σ H => ∃ L, I σ L ∧ LamX.Tabs T H ∧ Seps L H
theorem SI.in {I : SI} (h : I σ L) : Go T L fun H => SI.at T I σ H := fun H t s => ⟨L, h, t, s⟩
theorem SI.out {I : SI} {G : L2.St → Hp → Prop} (k : ∀ σ L, I σ L → Go T L fun H => G σ H) : ∀ σ H, SI.at T I σ H → G σ H := fun σ H ⟨L, h, t, s⟩ => k σ L h H t s
def ForG (J : It) (g : TG) (ts : TS) (N0 : L2.St → Hp → Prop) (R0 : VK) (σ : L2.St) (H1 : Hp) : Prop := ∃ W : Nat → Nat → L2.St → Hp → Prop, (∃ m, W 0 m σ H1) ∧ ∀ i m σ H, W i m σ H →
  (J.stop i H ∧ N0 σ H) ∨ (J.go i H ∧ ∃ N : L2.St → Hp → Prop, (∀ σ' H', N σ' H' → ∃ m', m' < m ∧ W (i + 1) m' σ' H') ∧ ∀ x H', J.yld i H x H' → g x σ H' fun σ2 H2 => ts ⟨N, R0, N0, N⟩ σ2 H2)
theorem g_for {wi : TI} {g : TG} (k : Go T L fun H => wi σ H fun J H1 => ForG J g ts N0 R0 σ H1) : Go T L fun H => tFor wi g ts ⟨N0, R0, B0, C0⟩ σ H := k
def lRng1 (R : It → Hp → Prop) (vs : List V) (H : Hp) : Prop := ∃ j : Int, vs = [.int j] ∧ -(2 ^ 62) ≤ j ∧ j < 2 ^ 62 ∧ R (Itr 0 j.toNat) H
def lRng2 (R : It → Hp → Prop) (vs : List V) (H : Hp) : Prop := ∃ i j : Int, vs = [.int i, .int j] ∧ (-(2 ^ 62) ≤ i ∧ i < 2 ^ 62 ∧ -(2 ^ 62) ≤ j ∧ j < 2 ^ 62) ∧ R (Itr i (j - i).toNat) H
def lSeq (K : PySem.W.Frag) (R : It → Hp → Prop) (x : V) (H : Hp) : Prop := ∃ a, x = .ref a ∧ ((∃ xs, SqL K H a xs ∧ R (Itl K a) H) ∨ ∃ xs, SqT K H a xs ∧ R (Itt K a) H)
theorem g_iRng1 {tr : TA} {R : It → Hp → Prop} (k : Go T L fun H => tr σ H (lRng1 R)) : Go T L fun H => iRng1 tr σ H R := k
theorem g_iRng2 {tr : TA} {R : It → Hp → Prop} (k : Go T L fun H => tr σ H (lRng2 R)) : Go T L fun H => iRng2 tr σ H R := k
theorem g_rng1 {R : It → Hp → Prop} (h1 : -(2 ^ 62) ≤ j) (h2 : j < 2 ^ 62) (k : Go T L fun H => R (Itr 0 j.toNat) H) : Go T L fun H => lRng1 R [.int j] H := fun H t s => ⟨j, rfl, h1, h2, k H t s⟩
theorem g_rng2 {R : It → Hp → Prop} (h : -(2 ^ 62) ≤ i ∧ i < 2 ^ 62 ∧ -(2 ^ 62) ≤ j ∧ j < 2 ^ 62) (k : Go T L fun H => R (Itr i (j - i).toNat) H) : Go T L fun H => lRng2 R [.int i, .int j] H := fun H t s => ⟨i, j, rfl, h, k H t s⟩
/-- for over a range, by an invariant over turns, slots, chunks -/
theorem g_forR {lo : Int} {g : TG} (I : Nat → SI) (h0 : I 0 σ L) (hs : ∀ i σ L, i < n → I i σ L → Go T L fun H => g (.int (lo + i)) σ H fun σ2 H2 => ts ⟨SI.at T (I (i + 1)), R0, N0, SI.at T (I (i + 1))⟩ σ2 H2)
    (hd : ∀ σ L, I n σ L → Go T L fun H => N0 σ H) : Go T L fun H => ForG (Itr lo n) g ts N0 R0 σ H := fun H t s =>
  for_range (D := ⟨N0, R0, fun _ _ => False, fun _ _ => False⟩) (lo := lo) (n := n) (fun i => SI.at T (I i)) ⟨L, h0, t, s⟩ (fun i σ H hi ⟨L, h, t, s⟩ => hs i σ L hi h H t s) (fun σ H ⟨L, h, t, s⟩ => hd σ L h H t s)
/-- for over a list that stands still -/
theorem g_forL {g : TG} (I : Nat → SI) (h0 : I 0 σ L) (hl : ∀ i σ L, I i σ L → ∃ A, Pick L (pt a (.lst xs)) A) (hs : ∀ i x σ L, xs[i]? = some x → I i σ L → Go T L fun H => g x σ H fun σ2 H2 => ts ⟨SI.at T (I (i + 1)), R0, N0, SI.at T (I (i + 1))⟩ σ2 H2)
    (hd : ∀ σ L, I xs.length σ L → Go T L fun H => N0 σ H) : Go T L fun H => ForG (Itl K a) g ts N0 R0 σ H := fun H t s =>
  for_list (D := ⟨N0, R0, fun _ _ => False, fun _ _ => False⟩) (K := K) (xs := xs) (fun i => SI.at T (I i)) ⟨L, h0, t, s⟩ (fun i σ H _ ⟨L, h, t, s⟩ => let ⟨_, pk⟩ := hl i σ L h; SqL.of (pk.at s)) (fun i x σ H hi ⟨L, h, t, s⟩ => hs i x σ L hi h H t s) (fun σ H ⟨L, h, t, s⟩ => hd σ L h H t s)
theorem g_forT {g : TG} (I : Nat → SI) (h0 : I 0 σ L) (hl : ∀ i σ L, I i σ L → ∃ A, Pick L (pt a (.tup xs)) A) (hs : ∀ i x σ L, xs[i]? = some x → I i σ L → Go T L fun H => g x σ H fun σ2 H2 => ts ⟨SI.at T (I (i + 1)), R0, N0, SI.at T (I (i + 1))⟩ σ2 H2)
    (hd : ∀ σ L, I xs.length σ L → Go T L fun H => N0 σ H) : Go T L fun H => ForG (Itt K a) g ts N0 R0 σ H := fun H t s =>
  for_tup (D := ⟨N0, R0, fun _ _ => False, fun _ _ => False⟩) (K := K) (xs := xs) (fun i => SI.at T (I i)) ⟨L, h0, t, s⟩ (fun i σ H _ ⟨L, h, t, s⟩ => let ⟨_, pk⟩ := hl i σ L h; SqT.of (pk.at s)) (fun i x σ H hi ⟨L, h, t, s⟩ => hs i x σ L hi h H t s) (fun σ H ⟨L, h, t, s⟩ => hd σ L h H t s)
theorem g_iSeqE {R : It → Hp → Prop} (k : Go T L fun H => te σ H (lSeq K R)) : Go T L fun H => iSeq K te σ H R := k
theorem g_iSeqL {A : List HP} {R : It → Hp → Prop} (pk : Pick L (pt a (.lst xs)) A) (k : Go T L fun H => R (Itl K a) H) : Go T L fun H => lSeq K R (.ref a) H := fun H t s => ⟨a, rfl, .inl ⟨xs, SqL.of (pk.at s), k H t s⟩⟩
theorem g_iSeqT {A : List HP} {R : It → Hp → Prop} (pk : Pick L (pt a (.tup xs)) A) (k : Go T L fun H => R (Itt K a) H) : Go T L fun H => lSeq K R (.ref a) H := fun H t s => ⟨a, rfl, .inr ⟨xs, SqT.of (pk.at s), k H t s⟩⟩
def wBody (T : List (Addr × Str)) (I : Nat → SI) (m : Nat) (ts : TS) (N0 : L2.St → Hp → Prop) (R0 : VK) (σ : L2.St) (H : Hp) : Prop :=
  ∃ N : L2.St → Hp → Prop, (∀ σ' H', N σ' H' → ∃ m', m' < m ∧ SI.at T (I m') σ' H') ∧ ts ⟨N, R0, N0, N⟩ σ H
theorem g_wbody {I : Nat → SI} {m : Nat} (k : Go T L fun H => ts ⟨SI.at T (fun σ L => ∃ m', m' < m ∧ I m' σ L), R0, N0, SI.at T (fun σ L => ∃ m', m' < m ∧ I m' σ L)⟩ σ H) : Go T L fun H => wBody T I m ts N0 R0 σ H := fun H t s =>
  ⟨_, fun σ' H' ⟨L', ⟨m', lt, h'⟩, t', s'⟩ => ⟨m', lt, L', h', t', s'⟩, k H t s⟩
/-- while, by an invariant over a measure, slots, chunks -/
theorem g_while (I : Nat → SI) (m0 : Nat) (h0 : I m0 σ L) (hs : ∀ m σ L, I m σ L → Go T L fun H => t σ H fun b H1 => if b = true then wBody T I m ts N0 R0 σ H1 else N0 σ H1) : Go T L fun H => tWhile t ts ⟨N0, R0, B0, C0⟩ σ H := fun H tt s =>
  ⟨fun m σ H => SI.at T (I m) σ H, ⟨m0, L, h0, tt, s⟩, fun m σ H ⟨L', h, t1, s1⟩ => hs m σ L' h H t1 s1⟩
theorem cut_take {xs : List V} {m : Nat} : cutV xs none (some (m : Int)) = xs.take m := by
  unfold cutV
  rw [HT.sIx_none, HT.sIx_nat, List.drop_zero, Nat.sub_zero]
  rcases Nat.le_total m xs.length with h | h
  · rw [Nat.min_eq_left h]
  · rw [Nat.min_eq_right h, List.take_length, List.take_of_length_le h]
theorem cut_drop {xs : List V} {m : Nat} : cutV xs (some (m : Int)) none = xs.drop m := by
  unfold cutV
  rw [HT.sIx_none, HT.sIx_nat]
  rcases Nat.le_total m xs.length with h | h
  · rw [Nat.min_eq_left h, List.take_of_length_le (by rw [List.length_drop]; exact Nat.le_refl _)]
  · rw [Nat.min_eq_right h, Nat.sub_self, List.take_zero, List.drop_of_length_le h]
end
/-! ### comprehensions -/
section
variable {T : List (Addr × Str)} {L : List HP} {σ : L2.St} {Q : VK} {K : PySem.W.Frag} {n : Nat} {te : TE} {tt : TT} {g : TG} {vs : List Nat} {a : Addr} {xs : List V}
abbrev CI := Nat → List V → List HP → Prop
def LcPv (T : List (Addr × Str)) (D : Addr) (I : CI) (i : Nat) : Hp → Prop := fun H => ∃ acc L, I i acc L ∧ LamX.Tabs T H ∧ Seps (pt D (.lst acc) :: L) H
def LcAdd (T : List (Addr × Str)) (D : Addr) (I : CI) (i : Nat) (y : V) : Hp → Prop := fun H4 => ∃ acc, H4 D = some (.lst acc) ∧ acc.length < sizeLine ∧ LcPv T D I i (upd H4 D (.lst (acc ++ [y])))
def LcTurn (T : List (Addr × Str)) (D : Addr) (I : CI) (i : Nat) (g : TG) (tt : TT) (te : TE) (vs : List Nat) (σ : L2.St) (x : V) : Hp → Prop := fun H =>
  g x (wipe σ vs) H fun σ2 H2 => wipe σ2 vs = wipe σ vs ∧ tt σ2 H2 fun b H3 => if b = true then te σ2 H3 fun y H4 => LcAdd T D I (i + 1) y H4 else LcPv T D I (i + 1) H3
def LcG (J : It) (g : TG) (tt : TT) (te : TE) (vs : List Nat) (σ : L2.St) (Q : VK) (H1 : Hp) : Prop := ∀ D, H1 D = none → ∃ W : Nat → Nat → Hp → Prop, (∃ m, W 0 m (upd H1 D (.lst []))) ∧ ∀ i m H, W i m H →
  (J.stop i H ∧ Q (.ref D) H) ∨ (J.go i H ∧ ∃ Nx : Hp → Prop, (∀ H', Nx H' → ∃ m', m' < m ∧ W (i + 1) m' H') ∧ ∀ x H', J.yld i H x H' → g x (wipe σ vs) H' fun σ2 H2 => wipe σ2 vs = wipe σ vs ∧ tt σ2 H2 fun b H3 =>
    if b = true then te σ2 H3 fun y H4 => ∃ acc, H4 D = some (.lst acc) ∧ acc.length < sizeLine ∧ Nx (upd H4 D (.lst (acc ++ [y]))) else Nx H3)
theorem g_lcE {wi : TI} (k : Go T L fun H => wi σ H fun J H1 => LcG J g tt te vs σ Q H1) : Go T L fun H => tLc wi g tt te vs σ H Q := k
theorem g_lcR {lo : Int} (I : CI) (h0 : I 0 [] L) (hs : ∀ D i acc L, i < n → I i acc L → Go T (pt D (.lst acc) :: L) (LcTurn T D I i g tt te vs σ (.int (lo + i))))
    (hd : ∀ D acc L, I n acc L → Go T (pt D (.lst acc) :: L) fun H => Q (.ref D) H) : Go T L fun H => LcG (Itr lo n) g tt te vs σ Q H := fun H t s D hD =>
  lc_range (lo := lo) (n := n) (LcPv T D I) ⟨[], L, h0, Tabs.new t hD, s.new hD rfl fun _ e => e⟩ (fun i H hi ⟨acc, L, h, t, s⟩ => hs D i acc L hi h H t s) (fun H ⟨acc, L, h, t, s⟩ => hd D acc L h H t s)
theorem g_lcL (I : CI) (h0 : I 0 [] L) (hl : ∀ i acc L, I i acc L → ∃ A, Pick L (pt a (.lst xs)) A) (hs : ∀ D i x acc L, xs[i]? = some x → I i acc L → Go T (pt D (.lst acc) :: L) (LcTurn T D I i g tt te vs σ x))
    (hd : ∀ D acc L, I xs.length acc L → Go T (pt D (.lst acc) :: L) fun H => Q (.ref D) H) : Go T L fun H => LcG (Itl K a) g tt te vs σ Q H := fun H t s D hD =>
  lc_list (K := K) (xs := xs) (LcPv T D I) ⟨[], L, h0, Tabs.new t hD, s.new hD rfl fun _ e => e⟩ (fun i H _ ⟨acc, L, h, t, s⟩ => let ⟨_, pk⟩ := hl i acc L h; SqL.of (pk.at s.tail)) (fun i x H hi ⟨acc, L, h, t, s⟩ => hs D i x acc L hi h H t s) (fun H ⟨acc, L, h, t, s⟩ => hd D acc L h H t s)
theorem g_lcT (I : CI) (h0 : I 0 [] L) (hl : ∀ i acc L, I i acc L → ∃ A, Pick L (pt a (.tup xs)) A) (hs : ∀ D i x acc L, xs[i]? = some x → I i acc L → Go T (pt D (.lst acc) :: L) (LcTurn T D I i g tt te vs σ x))
    (hd : ∀ D acc L, I xs.length acc L → Go T (pt D (.lst acc) :: L) fun H => Q (.ref D) H) : Go T L fun H => LcG (Itt K a) g tt te vs σ Q H := fun H t s D hD =>
  lc_tup (K := K) (xs := xs) (LcPv T D I) ⟨[], L, h0, Tabs.new t hD, s.new hD rfl fun _ e => e⟩ (fun i H _ ⟨acc, L, h, t, s⟩ => let ⟨_, pk⟩ := hl i acc L h; SqT.of (pk.at s.tail)) (fun i x H hi ⟨acc, L, h, t, s⟩ => hs D i x acc L hi h H t s) (fun H ⟨acc, L, h, t, s⟩ => hd D acc L h H t s)
theorem g_turn {D : Addr} {I : CI} {i : Nat} {x : V} (k : Go T L fun H => g x (wipe σ vs) H fun σ2 H2 => wipe σ2 vs = wipe σ vs ∧ tt σ2 H2 fun b H3 => if b = true then te σ2 H3 fun y H4 => LcAdd T D I (i + 1) y H4 else LcPv T D I (i + 1) H3) : Go T L (LcTurn T D I i g tt te vs σ x) := k
theorem g_tYes {R : Bool → Hp → Prop} (k : Go T L fun H => R true H) : Go T L fun H => tYes σ H R := k
theorem g_lcAdd {D : Addr} {I : CI} {i : Nat} {y : V} {A : List HP} {acc : List V} (pk : Pick L (pt D (.lst acc)) A) (hl : acc.length < sizeLine) (h : I i (acc ++ [y]) A) : Go T L fun H => LcAdd T D I i y H := fun H t s =>
  ⟨acc, pk.at s, hl, (go_lst (G := LcPv T D I i) pk fun H t s => ⟨_, _, h, t, s⟩) H t s⟩
theorem g_lcKeep {D : Addr} {I : CI} {i : Nat} {A : List HP} {acc : List V} (pk : Pick L (pt D (.lst acc)) A) (h : I i acc A) : Go T L fun H => LcPv T D I i H := fun H t s => ⟨acc, A, h, t, pk H s⟩
end
/-! ### promises -/
/-- a promise told over chunks -/
abbrev SG := List V → List HP → VK → XK → Prop
def sOf (T : List (Addr × Str)) (sg : SG) : Sp := fun vs H Q E => ∃ L, LamX.Tabs T H ∧ Seps L H ∧ sg vs L Q E
theorem g_spec {T : List (Addr × Str)} {L : List HP} {sg : SG} {vs : List V} {Q : VK} {E : XK} (h : sg vs L Q E) : Go T L fun H => sOf T sg vs H Q E := fun H t s => ⟨L, t, s, h⟩
end Dh

/-! The layer Dh, fourth part: callees by one fact each, raising, a lambda handed to a def with several clauses. -/
namespace Dh
open PySem PySem.Spec PyProof.Rows L2

/-- a def that may be called by its name -/
structure CalX (P : Program) (w : World) (K : PySem.W.Frag) (mg : Str → Option Value) (base : Heap) (k : Nat) (x : Str) (sp : Sp) : Prop where
  ex : ∃ (f : Addr) (fd : FuncData) (ps : List Str), FnOk P w K mg base (L2.CX P w) k f fd ps sp ∧ mg x = some (.ref f) ∧ PySem.W.keepIn K (.ref f) = true ∧ Binds K fd ps []
structure MetX (P : Program) (w : World) (K : PySem.W.Frag) (mg : Str → Option Value) (base : Heap) (k : Nat) (C : Addr) (m : Str) (sp : Sp) : Prop where
  ex : ∃ (f : Addr) (fd : FuncData) (ps : List Str), Cls K C ∧ Meth K C m f ∧ FnOk P w K mg base (L2.CX P w) k f fd ps sp ∧ Binds K fd ps []
structure MakX (P : Program) (w : World) (K : PySem.W.Frag) (mg : Str → Option Value) (base : Heap) (k : Nat) (x : Str) (C : Addr) (sp : Sp) : Prop where
  ex : ∃ (f : Addr) (fd : FuncData) (ps : List Str), Mk K C f ∧ FnOk P w K mg base (L2.CX P w) k f fd ps sp ∧ mg x = some (.ref C) ∧ Binds K fd ps []
section
variable {X : Cx} {k j : Nat} {C : Addr} {x m : Str} {sp : Sp} {p pos apos : Pos} {e o : Expr} {es : List Expr} {ta : TE} {t : TA} {E : XK}
theorem pe_cal (c : CalX X.prog X.w X.K X.mg X.base k x sp) (hr : Room j X.A) (hk : k ≤ j) (hx : Passes (L2.CX X.prog X.w) X E) (hg : Gl X x) (ha : PA X (e :: es) t)
    (hdb : (x == ("__debug__" : Str)) = false := by decide) (he : starEach (e :: es) X.env = (false, eval e X.env) :: starEach es X.env := by rfl) (hpl : (backTo pos (starEach es X.env)).any (·.1) = false := by rfl) :
    PE X (.Call (.Name x p) (e :: es) [] pos) (tCall sp [] E t) := by
  obtain ⟨f, fd, ps, F, hm, kp, b⟩ := c.ex
  exact pe_call F (hr.mono hk) hg hm kp b .nil hx ha hdb he hpl
theorem pe_cal0 (c : CalX X.prog X.w X.K X.mg X.base k x sp) (hr : Room j X.A) (hk : k ≤ j) (hx : Passes (L2.CX X.prog X.w) X E) (hg : Gl X x) (hdb : (x == ("__debug__" : Str)) = false := by decide) :
    PE X (.Call (.Name x p) [] [] pos) (tCall sp [] E tNil) := by
  obtain ⟨f, fd, ps, F, hm, kp, b⟩ := c.ex
  exact pe_call0 F (hr.mono hk) hg hm kp b .nil hx hdb
theorem pe_mak (c : MakX X.prog X.w X.K X.mg X.base k x C sp) (hr : Room j X.A) (hk : k + 1 ≤ j) (hx : Passes (L2.CX X.prog X.w) X E) (hg : Gl X x) (ha : PA X (e :: es) t)
    (hdb : (x == ("__debug__" : Str)) = false := by decide) (he : starEach (e :: es) X.env = (false, eval e X.env) :: starEach es X.env := by rfl) (hpl : (backTo pos (starEach es X.env)).any (·.1) = false := by rfl) :
    PE X (.Call (.Name x p) (e :: es) [] pos) (tMake C sp [] E t) := by
  obtain ⟨f, fd, ps, M, F, hm, b⟩ := c.ex
  exact pe_make M F (hr.mono hk) hg hm b .nil hx ha hdb he hpl
theorem pe_mak0 (c : MakX X.prog X.w X.K X.mg X.base k x C sp) (hr : Room j X.A) (hk : k + 1 ≤ j) (hx : Passes (L2.CX X.prog X.w) X E) (hg : Gl X x) (hdb : (x == ("__debug__" : Str)) = false := by decide) :
    PE X (.Call (.Name x p) [] [] pos) (tMake C sp [] E tNil) := by
  obtain ⟨f, fd, ps, M, F, hm, b⟩ := c.ex
  exact pe_make0 M F (hr.mono hk) hg hm b .nil hx hdb
theorem pe_met {pl : Sem Bool} (c : MetX X.prog X.w X.K X.mg X.base k C m sp) (hr : Room j X.A) (hk : k ≤ j) (hx : Passes (L2.CX X.prog X.w) X E) (he : PE X o ta) (ha : PA X (e :: es) t)
    (hst : starEach (e :: es) X.env = (false, eval e X.env) :: starEach es X.env := by rfl) (hpl : (backTo pos (starEach es X.env)).any (·.1) = false := by rfl)
    (ht : eval (.Call (.Attribute o m apos) (e :: es) [] pos) X.env = (eval o X.env >>= fun ov => standAt apos.atName >>= fun _ => holding [ov] (getMethod ov m pl) >>= fun ff => callWith pos ff.1 ff.2 (backTo pos (starEach (e :: es) X.env)) (backToKw pos (keywordEach [] X.env))) := by rfl) :
    PE X (.Call (.Attribute o m apos) (e :: es) [] pos) (tMeth C m sp [] E ta t) := by
  obtain ⟨f, fd, ps, hc, hm, F, b⟩ := c.ex
  exact pe_meth (pl := pl) he hc hm F (hr.mono hk) b .nil hx ha hst hpl ht
theorem pe_met0 {pl : Sem Bool} (c : MetX X.prog X.w X.K X.mg X.base k C m sp) (hr : Room j X.A) (hk : k ≤ j) (hx : Passes (L2.CX X.prog X.w) X E) (he : PE X o ta)
    (ht : eval (.Call (.Attribute o m apos) [] [] pos) X.env = (eval o X.env >>= fun ov => standAt apos.atName >>= fun _ => holding [ov] (getMethod ov m pl) >>= fun ff => callWith pos ff.1 ff.2 (backTo pos (starEach [] X.env)) (backToKw pos (keywordEach [] X.env))) := by rfl) :
    PE X (.Call (.Attribute o m apos) [] [] pos) (tMeth C m sp [] E ta tNil) := by
  obtain ⟨f, fd, ps, hc, hm, F, b⟩ := c.ex
  exact pe_meth0 (pl := pl) he hc hm F (hr.mono hk) b .nil hx ht
end
/-! ### raising -/
/-- what the top has written of an exception class without an own __init__ -/
structure ExcX (K : PySem.W.Frag) (mg : Str → Option Value) (x : Str) (C : Addr) : Prop where
  g : mg x = some (.ref C)
  q : PySem.W.excIn K C [.type "ValueError", .type "Exception", .type "BaseException", .type "object"] "ValueError.__new__" = true
  k : PySem.W.keepIn K (.ref C) = true
  b : PySem.W.subIn K (.ref C) (.type "BaseException") = some true
  t : PySem.W.typeIn K (.ref C) = some (.type "type")
def tRs (C : Addr) (W : WX) : TS := fun _ σ H => W (.ref C) none σ H
theorem ps_rs {X : Cx} {W : WX} {x m : Str} {C : Addr} {j : Nat} {p p2 pos pos' : Pos} (hc : X.calm = true) (tk : Takes X W) (ec : ExcX X.K X.mg x C) (hg : Gl X x) (hdb : (x == ("__debug__" : Str)) = false := by decide) :
    PS X (.Raise (some (.Call (.Name x p) [.Constant (.str m) j p2] [] pos)) none pos') (tRs C W) :=
  ps_raise hc tk (pmk_own PySem.F.excBase_ValueError ec.q ec.g ec.k (raises_own ec.b ec.t) hg hdb)
section
variable {T : List (Addr × Str)} {L : List HP} {σ : L2.St} {D : Ends} {C : Addr} {E : XK} {W : WX}
theorem g_rs (k : Go T L fun H => E (.ref C) none H) : Go T L fun H => tRs C (fun cls d _ H => E cls d H) D σ H := k
theorem g_rsW (k : Go T L fun H => W (.ref C) none σ H) : Go T L fun H => tRs C W D σ H := k
end

/-! ### a lambda handed to a def: try: return what() / except X: return '..' / .. -/
/-- what the clauses give back of an exception -/
def toldE (K : PySem.W.Frag) : List (Addr × Str) → VK → XK
  | [], _ => fun _ _ _ => False
  | (C, ret) :: r, Q => fun cls d H => ∃ b, PySem.W.exmOne K cls (.ref C) = some b ∧ (b = true → Q (.str ret) H) ∧ (b = false → toldE K r Q cls d H)
def TTx (K : PySem.W.Frag) (cs : List (Addr × Str)) : (XK → Hp → VK → Prop) → Hp → VK → Prop := fun tl H Q => tl (toldE K cs Q) H Q
/-- the clauses as they stand in the text -/
inductive Clauses (X : Cx) : List ExceptHandler → List (Addr × Str) → Prop
  | nil : Clauses X [] []
  | cons {x ret : Str} {C : Addr} {j : Nat} {p1 p2 p3 p4 : Pos} {hs : List ExceptHandler} {cs : List (Addr × Str)} (hg : X.env.kindOf x = some .globalImplicit) (hm : X.mg x = some (.ref C)) (hd : (x == ("__debug__" : Str)) = false) (r : Clauses X hs cs) :
      Clauses X (.ExceptHandler (some (.Name x p1)) none [.Return (some (.Constant (.str ret) j p2)) p3] p4 :: hs) ((C, ret) :: cs)
def tsOf (cs : List (Addr × Str)) : List (Value × (Addr → Value → Option Addr → TS)) := cs.map fun c => (.ref c.1, fun _ _ _ => tRet (tC (.str c.2)))
theorem Clauses.ok {X : Cx} {hs : List ExceptHandler} {cs : List (Addr × Str)} (c : Clauses X hs cs) : HdsOk X hs (tsOf cs) := by
  induction c with
  | nil => exact .nil
  | cons hg hm hd r ih => exact .cons ⟨hg, hd, .inl hm⟩ (fun _ _ _ _ _ _ _ => pss_one (ps_ret pe_str)) ih
theorem toldE_many {K : PySem.W.Frag} {D : Ends} : ∀ {cs : List (Addr × Str)} {cls : Value} {d : Option Addr} {σ : L2.St} {H : Hp}, toldE K cs D.rt cls d H → wMany K (fun _ _ _ _ => False) D (tsOf cs) cls d σ H
  | [], _, _, _, _, h => h
  | (C, ret) :: r, cls, d, σ, H, ⟨b, h1, h2, h3⟩ => ⟨b, h1, fun e _ _ => h2 e, fun e => toldE_many (h3 e)⟩
theorem told_many {X : Cx} {Ng : List Str} {x a q : Str} {sg : Scope} {g : Addr} {cdg : Value} {h0 : ExceptHandler} {hs : List ExceptHandler} {cs : List (Addr × Str)} {p1 p2 p3 p8 : Pos}
    (hcl : ∀ (f : Addr) (s : Shared) (H : Hp), Clauses (cxOf C8.CX0 X.prog X.w X.K X.mg X.base Ng x sg g cdg X.A X.stack s H C8.E0).nox (h0 :: hs) cs) (hst : ∀ f : Addr, (L2.start Ng [V.ref f])[0]? = some (some (V.ref f))) :
    LamX.GivesTo X Ng x sg g cdg [.Try [.Return (some (.Call (.Name a p1) [] [] p2)) p3] (h0 :: hs) [] [] p8] a q (TTx X.K cs) := by
  intro f c' s H Q tl act hc h
  refine ⟨_, pss_one (ps_try_many (X := (cxOf C8.CX0 X.prog X.w X.K X.mg X.base Ng x sg g cdg X.A X.stack s H C8.E0).nox) (Wout := fun _ _ _ _ => False)
      (tb := fun W D σ H => ∃ Ech : XK, (∀ cls d σ' H', Ech cls d H' → W cls d σ' H') ∧ σ[0]? = some (some (.ref f)) ∧ H c' = some (LamX.CodeO c' q) ∧ tl Ech H D.rt)
      rfl rfl LamX.takes0 (fun W pn xe tk _ => ?_) (hcl f s H).ok), ?_⟩
  · refine ⟨fun pins s' σ H' D I h' => ?_⟩
    obtain ⟨Ech, hW, h1, h2, h3⟩ := h'
    exact (pss_one (ps_ret (pos := p3) (act W pn xe Ech p1 p2 tk hW))).run pins s' σ H' D I ⟨h1, h2, h3⟩
  · exact ⟨toldE X.K cs Q, fun cls d σ' H' z => toldE_many (D := ⟨fun _ H' => Q .non H', Q, fun _ _ => False, fun _ _ => False⟩) z, hst f, hc, h⟩
/-- what the top has written of such a def (told), and how a caller stands -/
structure ToldX (K : PySem.W.Frag) (mg : Str → Option Value) (x : Str) (st : Stmt) (g : Addr) : Prop where
  ex : ∃ (oc : Value) (od : Option Addr) (kV doc pm : Value) (an : Option Addr) (cdv ct : Value) (osl : Array (Option Value)),
    K.lookup g = some ⟨oc, od, .func (PySem.W.fnOf x x (defArgs st) (defBody st) (defScope st) .none kV doc pm an cdv ct), osl⟩ ∧ PySem.W.codeIn K cdv x = true
  m : mg x = some (.ref g)
  k : PySem.W.keepIn K (.ref g) = true
def tTold (T : List (Addr × Str)) (K : PySem.W.Frag) (cs : List (Addr × Str)) (t : XK → TE) : TE := fun σ H Q => LamX.Tabs T H ∧ ∀ H1, LamX.ExtN H H1 → LamX.Tabs T H1 → t (toldE K cs Q) σ H1 Q
theorem g_told {T : List (Addr × Str)} {L : List HP} {σ : L2.St} {Q : VK} {K : PySem.W.Frag} {cs : List (Addr × Str)} {t : XK → TE} (k : Go T L fun H => t (toldE K cs Q) σ H Q) : Go T L fun H => tTold T K cs t σ H Q := fun H tt s =>
  ⟨tt, fun H1 e t1 => k H1 t1 (s.mono fun a o h n => e a o h fun ps z => by rw [z] at n; cases n)⟩
theorem g_toldE {T : List (Addr × Str)} {L : List HP} {Q : VK} {K : PySem.W.Frag} {cs : List (Addr × Str)} {C : Addr} {ret : Str} {cls : Value} {d : Option Addr} {b : Bool} (h : PySem.W.exmOne K cls (.ref C) = some b) (k1 : b = true → Go T L fun H => Q (.str ret) H) (k2 : b = false → Go T L fun H => toldE K cs Q cls d H) :
    Go T L fun H => toldE K ((C, ret) :: cs) Q cls d H := fun H t s => ⟨b, h, fun e => k1 e H t s, fun e => k2 e H t s⟩
def locQ (q : Str) : Str := q ++ ".<locals>."
theorem cx_qual {CX : CXT} {P : Program} {w : World} {K : PySem.W.Frag} {mg : Str → Option Value} {base : Heap} {N : List Str} {qual : Str} {scope : Scope} {f : Addr} {cd : Value} {A : Around} {outer : List Env} {s : Shared} {H : Hp} {E : XK} : (cxOf CX P w K mg base N qual scope f cd A outer s H E).env.qual = locQ qual := rfl
theorem cx_code {CX : CXT} {P : Program} {w : World} {K : PySem.W.Frag} {mg : Str → Option Value} {base : Heap} {N : List Str} {qual : Str} {scope : Scope} {f : Addr} {cd : Value} {A : Around} {outer : List Env} {s : Shared} {H : Hp} {E : XK} : (cxOf CX P w K mg base N qual scope f cd A outer s H E).env.code = cd := rfl
def lamQ (q : Str) : Str := q ++ "<lambda>"
/-- told(lambda: body) -/
theorem pe_told {X : Cx} {T cs : List (Addr × Str)} {x a qn : Str} {g c P : Addr} {k j : Nat} {st : Stmt} {Ng : List Str} {params : Arguments} {body : Expr} {scope : Scope} {t : XK → TE} {p lpos pos : Pos}
    (tx : ToldX X.K X.mg x st g) (hb : ∀ kV doc pm an cdv ct, L2.Binds X.K (PySem.W.fnOf x x (defArgs st) (defBody st) (defScope st) .none kV doc pm an cdv ct) [a] []) (Sg : FnScope Ng [a] (defScope st)) (hNg : Ng[0]? = some a) (hva : Vis (defScope st) a)
    (hG : ∀ cdv q, LamX.GivesTo X Ng x (defScope st) g cdv (defBody st) a q (TTx X.K cs))
    (TB : LamX.TabB X.base X.mg c P) (hcode : X.env.code = .ref c) (hq : X.env.qual = qn) (hmT : (P, lamQ qn) ∈ T) (hu : ∀ p ∈ T, p.1 = P → p.2 = lamQ qn) (hr : Room j X.A) (hk : k + 2 ≤ j) (Ls : LamX.LamS X.env.scope scope) (hdef : defaultsOf params X.env = ([], []))
    (hbind : ∀ (q : Str) (cl : List (Str × Addr)) (pm cv ctv : Value), bindArgs (PySem.W.kla_fn "<lambda>" q params body scope cl pm cv ctv) ⟨[], []⟩ = pure [])
    (hg : Gl X x) (hbody : ∀ (A : Around) (outer : List Env) (s : Shared) (H : Hp) (E : XK) (f c' : Addr), Room k (A.deeper (LamX.lamEnv X scope s.heap.objs.size f c')) → PE (LamX.lamCx X A outer s H E scope f c') body (t E))
    (hdb : (x == ("__debug__" : Str)) = false := by decide) (hd : (a == ("__debug__" : Str)) = false := by decide) (hcd : (a == ("__classdict__" : Str)) = false := by decide) :
    PE X (.Call (.Name x p) [.Lambda params body scope lpos] [] pos) (tTold T X.K cs t) := by
  subst hq
  obtain ⟨oc, od, kV, doc, pm, an, cdv, ct, osl, lk, hcg⟩ := tx.ex
  exact LamX.pe_lamcall (k := k) (T := T) (TT := TTx X.K cs) hg tx.m tx.k lk hcg (hb kV doc pm an cdv ct) Sg hNg hva (hG cdv _) TB hcode hmT hu (hr.mono hk) Ls hdef hbind hbody hdb hd hcd
end Dh

/-! The layer Dh, fifth part: the rules with the written part told apart, and a def's promise. -/
namespace Dh
open PySem PySem.Spec PyProof.Rows L2
section
variable {X : Cx} {K : PySem.W.Frag}
theorem oAdd (hK : X.K = K) : OpR X (binaryOp .Add) (rAddX K) := hK ▸ op_addX
theorem oMul (hK : X.K = K) : OpR X (binaryOp .Mult) (rMulX K) := hK ▸ op_mulX
theorem oEq (hK : X.K = K) (hu : X.A.units + 64 < cLine) : OpR X (compareOp .Eq) (rEqX K) := hK ▸ op_eqX hu
theorem oNe (hK : X.K = K) (hu : X.A.units + 64 < cLine) : OpR X (compareOp .NotEq) (rNeX K) := hK ▸ op_neX hu
theorem oIn (hK : X.K = K) : OpR X (compareOp .In) (rIn K false) := hK ▸ op_in_seq
theorem oNotIn (hK : X.K = K) : OpR X (compareOp .NotIn) (rIn K true) := hK ▸ op_notIn_seq
theorem xSeq (hK : X.K = K) : IxR X (rIxX K) := hK ▸ ix_seq
theorem slSeq (hK : X.K = K) : SlR X (rSlXX K) := hK ▸ sl_seq
theorem piSeq {tg l : Expr} {tl : TE} (hK : X.K = K) (hl : PE X l tl) : PI X tg l (iSeq K tl) := hK ▸ pi_seq hl
theorem cLen (hK : X.K = K) : CallR X (.builtin "len") (rLenX K) := hK ▸ call_lenX
theorem cList (hK : X.K = K) : CallR X (.type "list") (rListX K) := hK ▸ call_listX
theorem cTup (hK : X.K = K) : CallR X (.type "tuple") (rTupX K) := hK ▸ call_tupX
theorem cSum (hK : X.K = K) (hc : X.calm = true) : CallR X (.builtin "sum") (rSum K) := hK ▸ cr_sum hc
theorem cMax (hK : X.K = K) (hc : X.calm = true) : CallR X (.builtin "max") (rMax K) := hK ▸ cr_max hc
theorem cMin (hK : X.K = K) (hc : X.calm = true) : CallR X (.builtin "min") (rMin K) := hK ▸ cr_min hc
theorem ptTru {a : Expr} {ta : TE} (hK : X.K = K) (ha : PE X a ta) (he : ∀ whole, isTrue a X.env whole = (do let v ← whole; standAt a.pos; holding [v] (truthy v)) := by intro _; rfl) : PT X a (tTruX K ta) := hK ▸ pt_truX ha he
theorem pgTup {es : List Expr} {k : Nat} {t : TGs} {n : Nat} {pos : Pos} (hK : X.K = K) (hc : X.calm = true) (h : PGs X es t) (hl : (assignEach es X.env).length = n) (hs : (assignEach es X.env).findIdx? (·.1) = none) : PG X (.Tuple es k pos) (gTup K n t) := hK ▸ pg_tup hc h hl hs
theorem ipMul : PIp X .Mult (fun x y H Q => ∃ i j, x = .int i ∧ y = .int j ∧ CMul i j ∧ Q (.int (i * j)) H) := by
  intro pins s σ H x y v u Q I r1 r2 h
  obtain ⟨i, j, e1, e2, hc, q⟩ := h
  subst e1
  subst e2
  obtain ⟨t, ht⟩ := r1
  obtain ⟨t', ht'⟩ := r2
  subst ht
  subst ht'
  exact PyProof.Rows.imul_int ⟨.int _, H, I.tok _, ⟨_, rfl⟩, q⟩ hc.ok
def ipMulX : TIp := fun x y H Q => ∃ i j, x = .int i ∧ y = .int j ∧ CMul i j ∧ Q (.int (i * j)) H
theorem ipMulR : PIp X .Mult ipMulX := ipMul
theorem g_ipMul {T : List (Addr × Str)} {L : List HP} {i j : Int} {Q : VK} (hc : CMul i j) (k : Go T L fun H => Q (.int (i * j)) H) : Go T L fun H => ipMulX (.int i) (.int j) H Q := fun H t s => ⟨i, j, rfl, rfl, hc, k H t s⟩
theorem piRev {tg e : Expr} {te : TE} {p pos : Pos} (hK : X.K = K) (hg : Gl X "reversed") (hm : X.mg "reversed" = none) (he : PE X e te) (hs : starEach [e] X.env = (false, eval e X.env) :: starEach [] X.env := by rfl) : PI X tg (.Call (.Name "reversed" p) [e] [] pos) (RT.iRevA K te) := hK ▸ RT.pi_revA hg hm he hs
theorem cIsi (hK : X.K = K) : CallR X (.builtin "isinstance") (rIsi K) := hK ▸ call_isi
theorem blt_abs : bootBuiltins "abs" = some (.builtin "abs") := by decide +kernel
theorem blt_any : bootBuiltins "any" = some (.builtin "any") := by decide +kernel
theorem blt_all : bootBuiltins "all" = some (.builtin "all") := by decide +kernel
end
/-- a list that is to be read alone (the script) -/
def sq (K : PySem.W.Frag) (a : Addr) (xs : List V) : HP := fun h => SqL K h a xs
theorem sq_sub {K : PySem.W.Frag} {h H : Hp} {a : Addr} {xs : List V} (s : ∀ b o, h b = some o → isTbl o = false → H b = some o) (e : SqL K h a xs) : SqL K H a xs := by
  rcases e with (e | ⟨o, e⟩) | e
  · exact .inl (.inl (s _ _ e rfl))
  · exact .inl (.inr ⟨o, s _ _ e rfl⟩)
  · exact .inr e
theorem g_slQ {T : List (Addr × Str)} {L A : List HP} {K : PySem.W.Frag} {a : Addr} {xs : List V} {lo hi : Option Int} {Q : VK} (pk : Pick L (sq K a xs) A) (k : ∀ p, Go T (pt p (.lst (cutV xs lo hi)) :: L) fun H => Q (.ref p) H) : Go T L fun H => rSlXX K (.ref a) lo hi H Q := fun H t s => by
  obtain ⟨h1, s1, e⟩ := (pk H s).head
  exact .inl ⟨a, xs, rfl, sq_sub (fun b o q _ => s1 b o q) e, (go_new (P := fun p => pt p (.lst (cutV xs lo hi))) rfl (fun _ _ e => e) k) H t s⟩
theorem seps_sq {K : PySem.W.Frag} {H : Hp} {a : Addr} {xs : List V} (e : SqL K H a xs) : Seps [sq K a xs] H :=
  ⟨ntH H, fun _ => none, fun _ _ _ _ q => (nomatch q), NT.ntH H, fun _ _ q => (nomatch q), Sub.ntH H, fun _ _ q => (nomatch q), sq_sub (fun b o q n => ntH_some.mpr ⟨q, n⟩) e, trivial⟩
theorem tabs_nil {T : List (Addr × Str)} {H : Hp} (h : ∀ p ∈ T, H p.1 = some (.tbl #[])) : LamX.Tabs T H := fun p hp => LamX.TabS.nil (h p hp)
theorem cx_no {P : Program} {w : World} {H : Hp} {s : Shared} {e : Value} {s' : Shared} (h : L2.CX P w [] H s (fun _ _ _ => False) e s') : False := by
  obtain ⟨_, _, _, _, _, _, _, _, _, _, _, _, z⟩ := h
  exact z
theorem exm_mk {K : PySem.W.Frag} {A B : Addr} {b : Bool} (h1 : PySem.W.subIn K (.ref B) (.type "BaseException") = some true) (h2 : PySem.W.isClsIn K B = true) (h3 : PySem.W.typeIn K (.ref B) = some (.type "type")) (h4 : PySem.W.subIn K (.ref A) (.ref B) = some b) : PySem.W.exmOne K (.ref A) (.ref B) = some b := by
  unfold PySem.W.exmOne
  rw [h1, if_pos (by rfl)]
  show (if ((PySem.W.clsIn K B).isSome && PySem.W.typeIn K (.ref B) == some (.type "type")) = true then PySem.W.subIn K (.ref A) (.ref B) else none) = some b
  have e : (PySem.W.clsIn K B).isSome = true := h2
  rw [h3, h4, e]
  rfl
/-! ### a def's promise, its arguments counted -/
def sOfN (T : List (Addr × Str)) (n : Nat) (sg : SG) : Sp := fun vs H Q E => vs.length = n ∧ ∃ L, LamX.Tabs T H ∧ Seps L H ∧ sg vs L Q E
theorem g_sp {T : List (Addr × Str)} {L : List HP} {sg : SG} {vs : List V} {Q : VK} {E : XK} {n : Nat} (hl : vs.length = n) (h : sg vs L Q E) : Go T L fun H => sOfN T n sg vs H Q E := fun H t s => ⟨hl, L, t, s, h⟩
/-- a def whose code object stands at c -/
structure FunC (K : PySem.W.Frag) (x qual : Str) (st : Stmt) (f : Addr) (fd : FuncData) (cdv : Value) : Prop where
  ex : ∃ (oc : Value) (od : Option Addr) (kV doc pm : Value) (an : Option Addr) (ct : Value) (osl : Array (Option Value)),
    fd = PySem.W.fnOf x qual (defArgs st) (defBody st) (defScope st) .none kV doc pm an cdv ct ∧ K.lookup f = some ⟨oc, od, .func fd, osl⟩ ∧ PySem.W.codeIn K cdv qual = true
section
variable {P : Program} {w : World} {K : PySem.W.Frag} {mg : Str → Option Value} {base : Heap} {T : List (Addr × Str)}
theorem fnX {x qual : Str} {st : Stmt} {f : Addr} {fd : FuncData} {cdv : Value} {N ps : List Str} {k n : Nat} {sg : SG} (F : FunC K x qual st f fd cdv) (S : FnScope N ps (defScope st)) (hn : ps.length = n)
    (hbody : ∀ (A : Around) (outer : List Env) (s : Shared) (H0 : Hp) (L : List HP) (vs : List V) (Q : VK) (E : XK), Room k (A.deeper (envOfC qual (defScope st) s.heap.objs.size f cdv)) → vs.length = n → sg vs L Q E →
      ∃ t, PSs (cxOf (L2.CX P w) P w K mg base N qual (defScope st) f cdv A outer s H0 E) (defBody st) t ∧ Go T L fun H => t { nx := fun _ H' => Q .non H', rt := Q } (start N vs) H) :
    FnOk P w K mg base (L2.CX P w) (k + 1) f fd ps (sOfN T n sg) := by
  obtain ⟨oc, od, kV, doc, pm, an, ct, osl, e, lk, hcd⟩ := F.ex
  subst e
  refine fn_of lk hcd S (fun vs H Q E h => h.1.trans hn.symm) fun A outer s H vs Q E hr hsp => ?_
  obtain ⟨hl, L, ht, hs, hg⟩ := hsp
  obtain ⟨t, h, q⟩ := hbody A outer s H L vs Q E hr hl hg
  exact ⟨t, h, q H ht hs⟩
theorem FunC.bnd {x qual : Str} {st : Stmt} {f : Addr} {fd : FuncData} {cdv : Value} {ps : List Str} (F : FunC K x qual st f fd cdv)
    (h : ∀ (kV doc pm : Value) (an : Option Addr) (cdv ct : Value) (us : List Value), us.length = ps.length → bindArgs (PySem.W.fnOf x qual (defArgs st) (defBody st) (defScope st) .none kV doc pm an cdv ct) ⟨us, []⟩ = pure (ps.zip us)) : Binds K fd ps [] := by
  obtain ⟨oc, od, kV, doc, pm, an, ct, osl, e, lk, hcd⟩ := F.ex
  subst e
  exact .all (h kV doc pm an cdv ct)
end
end Dh

/-! The layer Dh, sixth part: dicts, lists of tuples, == of data, ranges made lists. -/
namespace Dh
open PySem PySem.Spec PyProof.Rows L2
section
variable {T : List (Addr × Str)} {L : List HP} {σ : L2.St} {Q : VK} {K : PySem.W.Frag} {v x y z : V} {i j : Int} {n m : Nat} {ta tb tc te td ty tv : TE} {N0 : L2.St → Hp → Prop} {R0 : VK} {B0 C0 : L2.St → Hp → Prop} {a b p : Addr} {xs ys vs ws : List V} {ns ms : List Int} {kvs : List (Key × V)} {A B D : List HP}
theorem g_nonA {P : Hp → Prop} (k : Go T L P) : Go T L fun H => V.non = V.non ∧ P H := fun H t s => ⟨rfl, k H t s⟩
/-! ### dicts -/
def lDIn (Q : VK) (y x : V) (H2 : Hp) : Prop := ∃ a o, x = .ref a ∧ DGet H2 a y o ∧ Q (.bl o.isSome) H2
theorem g_dinE (k : Go T L fun H => ty σ H fun y H1 => td σ H1 (lDIn Q y)) : Go T L fun H => tDIn ty td σ H Q := k
theorem g_dinI (pk : Pick L (pt a (.dK kvs)) A) (k : Go T L fun H => Q (.bl (valV kvs (Sum.inl i)).isSome) H) : Go T L fun H => lDIn Q (.int i) (.ref a) H := fun H t s => ⟨a, _, rfl, DGet.k (k := Sum.inl i) (pk.at s), k H t s⟩
def lDNotIn (Q : VK) (y x : V) (H2 : Hp) : Prop := ∃ a o, x = .ref a ∧ DGet H2 a y o ∧ Q (.bl (!o.isSome)) H2
theorem g_dnotinE (k : Go T L fun H => ty σ H fun y H1 => td σ H1 (lDNotIn Q y)) : Go T L fun H => tDNotIn ty td σ H Q := k
theorem g_dnotinI (pk : Pick L (pt a (.dK kvs)) A) (k : Go T L fun H => Q (.bl (!(valV kvs (Sum.inl i)).isSome)) H) : Go T L fun H => lDNotIn Q (.int i) (.ref a) H := fun H t s => ⟨a, _, rfl, DGet.k (k := Sum.inl i) (pk.at s), k H t s⟩
theorem g_cmpE {tt : TE} {R : Bool → Hp → Prop} (k : Go T L fun H => tt σ H fun z H' => ∃ k, z = .bl k ∧ R k H') : Go T L fun H => tTest tt σ H R := k
def lDGet (Q : VK) (x y : V) (H2 : Hp) : Prop := ∃ a v, x = .ref a ∧ DGet H2 a y (some v) ∧ Q v H2
theorem g_dgetE (k : Go T L fun H => td σ H fun x H1 => ty σ H1 (lDGet Q x)) : Go T L fun H => tDGet td ty σ H Q := k
theorem g_dgetI (pk : Pick L (pt a (.dK kvs)) A) (h : valV kvs (Sum.inl i) = some v) (k : Go T L fun H => Q v H) : Go T L fun H => lDGet Q (.ref a) (.int i) H := fun H t s => ⟨a, v, rfl, h ▸ DGet.k (k := Sum.inl i) (pk.at s), k H t s⟩
def lDPut (N : Hp → Prop) (v x y : V) (H3 : Hp) : Prop := ∃ a H4, x = .ref a ∧ DPut H3 a y v H4 ∧ N H4
theorem g_dputE (k : Go T L fun H => tv σ H fun v H1 => td σ H1 fun x H2 => ty σ H2 (lDPut (N0 σ) v x)) : Go T L fun H => sDPut td ty tv ⟨N0, R0, B0, C0⟩ σ H := k
theorem g_dputI {N : Hp → Prop} (pk : Pick L (pt a (.dK kvs)) A) (hl : kvs.length < sizeLine) (k : Go T (pt a (.dK (putK kvs (Sum.inl i) v)) :: A) N) : Go T L fun H => lDPut N v (.ref a) (.int i) H := fun H t s =>
  ⟨a, _, rfl, DPut.k (k := Sum.inl i) (pk.at s) hl, (go_wr (P' := pt a (.dK (putK kvs (Sum.inl i) v))) pk rfl (fun h e => ⟨_, e, rfl, upd_same⟩) k) H t s⟩
def lDPopA (ty : TE) (σ : L2.St) (Q : VK) (x : V) (H1 : Hp) : Prop := ∃ a, x = .ref a ∧ IsD H1 a ∧ ty σ H1 fun y H2 => ∃ kvs k v, H2 a = some (.dK kvs) ∧ y = kV k ∧ valV kvs k = some v ∧ Q v (upd H2 a (.dK (dropK kvs k)))
def lDPopB (a : Addr) (Q : VK) (y : V) (H2 : Hp) : Prop := ∃ kvs k v, H2 a = some (.dK kvs) ∧ y = kV k ∧ valV kvs k = some v ∧ Q v (upd H2 a (.dK (dropK kvs k)))
theorem g_dpopE (k : Go T L fun H => td σ H (lDPopA ty σ Q)) : Go T L fun H => tDPop1 td ty σ H Q := k
theorem g_dpopA (pk : Pick L (pt a (.dK kvs)) A) (k : Go T L fun H => ty σ H (lDPopB a Q)) : Go T L fun H => lDPopA ty σ Q (.ref a) H := fun H t s => ⟨a, rfl, .inl ⟨_, .inl (pk.at s)⟩, k H t s⟩
theorem g_dpopB (pk : Pick L (pt a (.dK kvs)) A) (h : valV kvs (Sum.inl i) = some v) (k : Go T (pt a (.dK (dropK kvs (Sum.inl i))) :: A) fun H => Q v H) : Go T L fun H => lDPopB a Q (.int i) H := fun H t s =>
  ⟨kvs, Sum.inl i, v, pk.at s, rfl, h, (go_wr (P' := pt a (.dK (dropK kvs (Sum.inl i)))) pk rfl (fun h e => ⟨_, e, rfl, upd_same⟩) k) H t s⟩
theorem g_dnew (k : ∀ p, Go T (pt p (.dK []) :: L) fun H => Q (.ref p) H) : Go T L fun H => tDNewK σ H Q := go_new (P := fun p => pt p (.dK [])) rfl (fun _ _ e => e) k

/-! ### lists of tuples of ints -/
/-- the values vs are tuples of the ints ts -/
inductive F2 (H : Hp) : List V → List (List Int) → Prop
  | nil : F2 H [] []
  | cons {t : Addr} {vs : List V} {ms : List Int} {ts : List (List Int)} : H t = some (.tup (ms.map .int)) → F2 H vs ts → F2 H (.ref t :: vs) (ms :: ts)
def tps (vs : List V) (ts : List (List Int)) : HP := fun h => F2 h vs ts
section
variable {H : Hp} {ts us : List (List Int)}
theorem F2.len : ∀ {vs : List V} {ts : List (List Int)}, F2 H vs ts → vs.length = ts.length
  | _, _, .nil => rfl
  | _, _, .cons _ r => by rw [List.length_cons, List.length_cons, r.len]
theorem F2.app : ∀ {vs ws : List V} {ts us : List (List Int)}, F2 H vs ts → F2 H ws us → F2 H (vs ++ ws) (ts ++ us)
  | _, _, _, _, .nil, r => r
  | _, _, _, _, .cons e q, r => .cons e (q.app r)
theorem F2.take : ∀ {vs : List V} {ts : List (List Int)} (k : Nat), F2 H vs ts → F2 H (vs.take k) (ts.take k)
  | _, _, 0, _ => by rw [List.take_zero, List.take_zero]; exact .nil
  | _, _, _ + 1, .nil => .nil
  | _, _, k + 1, .cons e r => .cons e (r.take k)
theorem F2.drop : ∀ {vs : List V} {ts : List (List Int)} (k : Nat), F2 H vs ts → F2 H (vs.drop k) (ts.drop k)
  | _, _, 0, r => r
  | _, _, _ + 1, .nil => .nil
  | _, _, k + 1, .cons e r => r.drop k
theorem F2.at : ∀ {vs : List V} {ts : List (List Int)} {k : Nat} {ms : List Int}, F2 H vs ts → ts[k]? = some ms → ∃ t, vs[k]? = some (.ref t) ∧ H t = some (.tup (ms.map .int))
  | _, _, _, _, .nil, h => by simp at h
  | _, _, 0, _, .cons e r, h => by
    simp at h
    subst h
    exact ⟨_, rfl, e⟩
  | _, _, k + 1, _, .cons e r, h => by
    obtain ⟨t, h1, h2⟩ := r.at (k := k) (by simpa using h)
    exact ⟨t, by simpa using h1, h2⟩
theorem F2.mono {H' : Hp} (s : ∀ a xs, H a = some (.tup xs) → H' a = some (.tup xs)) : ∀ {vs : List V} {ts : List (List Int)}, F2 H vs ts → F2 H' vs ts
  | _, _, .nil => .nil
  | _, _, .cons e r => .cons (s _ _ e) (r.mono s)
theorem Pick.f2 (pk : Pick L (tps vs ts) A) (s : Seps L H) : F2 H vs ts := by
  obtain ⟨h1, s1, e⟩ := (pk H s).head
  exact e.mono fun a xs q => s1 _ _ q
/-- tuples may be told again -/
theorem ent_tps {R : List HP} (h : ∀ H, Seps L H → F2 H vs ts) (e : Ent L R) : Ent L (tps vs ts :: R) := fun H s => by
  have f := h H s
  refine Seps.impT (fun h q => e h q) (s.more (fun a => match H a with
    | some (.tup xs) => some (.tup xs)
    | _ => none) (fun a o q => ?_) (fun a o q => ?_) (f.mono fun a xs q => by rw [q]))
  · revert q
    dsimp only
    split
    · rename_i ys q1
      intro q2
      rw [q1]
      exact q2
    · intro q; cases q
  · revert q
    split
    · intro q; cases q; rfl
    · intro q; cases q
/-- one of them -/
theorem go_tpsAt {ms : List Int} {k : Nat} {G : Hp → Prop} (pk : Pick L (tps vs ts) A) (hk : ts[k]? = some ms) (hx : ms.map V.int = xs) (g : ∀ t, vs[k]? = some (.ref t) → Go T (pt t (.tup xs) :: L) G) : Go T L G := fun H tt s => by
  subst hx
  obtain ⟨t, h1, h2⟩ := (pk.f2 s).at hk
  refine g t h1 H tt (s.more (upd (fun _ => none) t (.tup (ms.map .int))) (fun a o q => ?_) (fun a o q => ?_) upd_same)
  · by_cases e : a = t
    · subst e; rw [upd_same] at q; cases q; exact h2
    · rw [upd_ne e] at q; cases q
  · by_cases e : a = t
    · subst e; rw [upd_same] at q; cases q; rfl
    · rw [upd_ne e] at q; cases q
theorem go_tpsLen {G : Hp → Prop} (pk : Pick L (tps vs ts) A) (g : vs.length = ts.length → Go T L G) : Go T L G := fun H tt s => g (pk.f2 s).len H tt s
theorem f2_one {t : Addr} (hx : ms.map V.int = xs) (pk : Pick L (pt t (.tup xs)) A) (s : Seps L H) : F2 H [.ref t] [ms] := .cons (by rw [hx]; exact pk.at s) .nil
end

/-! ### == of data -/
def dIs (ns : List Int) : List PyData := ns.map .int
theorem dps_ints {H : Hp} : ∀ ns : List Int, DpAll K H (ns.map .int) (dIs ns)
  | [] => .nil
  | n :: ns => .cons (.int n) (dps_ints ns)
theorem lay_ints : ∀ ns : List Int, PyData.canLayAll0 (dIs ns) = true
  | [] => by simp [dIs, PyData.canLayAll0]
  | n :: ns => by
    have := lay_ints ns
    simp only [dIs] at this
    simp [dIs, PyData.canLayAll0, PyData.canLay0, this]
theorem dep_ints : ∀ ns : List Int, PyData.depthAll (dIs ns) = 0
  | [] => by simp [dIs, PyData.depthAll]
  | n :: ns => by
    have := dep_ints ns
    simp only [dIs] at this
    simp [dIs, PyData.depthAll, PyData.depth, this]
theorem shp_ints (ns : List Int) : SeqAt.shaped (.list (dIs ns)) = true := by
  have h1 := dep_ints ns
  show (PyData.canLay0 (.list (dIs ns)) && decide (PyData.depth (.list (dIs ns)) ≤ 64)) = true
  rw [Bool.and_eq_true]
  exact ⟨by simp only [PyData.canLay0]; exact lay_ints ns, decide_eq_true (by simp only [PyData.depth]; omega)⟩
theorem shp_intsT (ns : List Int) : SeqAt.shaped (.tuple (dIs ns)) = true := by
  have h1 := dep_ints ns
  show (PyData.canLay0 (.tuple (dIs ns)) && decide (PyData.depth (.tuple (dIs ns)) ≤ 64)) = true
  rw [Bool.and_eq_true]
  exact ⟨by simp only [PyData.canLay0]; exact lay_ints ns, decide_eq_true (by simp only [PyData.depth]; omega)⟩
theorem eqv_ints : ∀ ns ms : List Int, PyData.eqvAll (dIs ns) (dIs ms) = decide (ns = ms)
  | [], [] => by simp [dIs, PyData.eqvAll]
  | [], m :: ms => by simp [dIs, PyData.eqvAll]
  | n :: ns, [] => by simp [dIs, PyData.eqvAll]
  | n :: ns, m :: ms => by
    have h := eqv_ints ns ms
    simp only [dIs] at h
    simp only [dIs, List.map_cons, PyData.eqvAll, PyData.eqv, h]
    rw [Bool.eq_iff_iff]
    simp
def dTs (ts : List (List Int)) : List PyData := ts.map fun ms => .tuple (dIs ms)
theorem dps_tups {H : Hp} : ∀ {vs : List V} {ts : List (List Int)}, F2 H vs ts → DpAll K H vs (dTs ts)
  | _, _, .nil => .nil
  | _, _, .cons e r => .cons (.tup (SqT.of e) (dps_ints _)) (dps_tups r)
theorem lay_tups : ∀ ts : List (List Int), PyData.canLayAll0 (dTs ts) = true
  | [] => by simp [dTs, PyData.canLayAll0]
  | t :: ts => by
    have := lay_tups ts
    have h2 := lay_ints t
    simp only [dTs] at this
    simp [dTs, PyData.canLayAll0, PyData.canLay0, this, h2]
theorem dep_tups : ∀ ts : List (List Int), PyData.depthAll (dTs ts) ≤ 1
  | [] => by simp [dTs, PyData.depthAll]
  | t :: ts => by
    have h1 := dep_tups ts
    have h2 := dep_ints t
    simp only [dTs] at h1
    simp only [dTs, List.map_cons, PyData.depthAll, PyData.depth]
    omega
theorem shp_tups (ts : List (List Int)) : SeqAt.shaped (.list (dTs ts)) = true := by
  have h1 := dep_tups ts
  show (PyData.canLay0 (.list (dTs ts)) && decide (PyData.depth (.list (dTs ts)) ≤ 64)) = true
  rw [Bool.and_eq_true]
  exact ⟨by simp only [PyData.canLay0]; exact lay_tups ts, decide_eq_true (by simp only [PyData.depth]; omega)⟩
theorem eqv_tups0 : ∀ ts : List (List Int), PyData.eqvAll (dTs ts) [] = decide (ts = [])
  | [] => by simp [dTs, PyData.eqvAll]
  | t :: ts => by simp [dTs, PyData.eqvAll]
theorem dp_lst {H : Hp} (pk : Pick L (pt a (.lst (ns.map .int))) A) (s : Seps L H) : Dp K H (.ref a) (.list (dIs ns)) := .lst (SqL.of (pk.at s)) (dps_ints ns)
theorem dp_nil {H : Hp} (pk : Pick L (pt a (.lst [])) A) (s : Seps L H) : Dp K H (.ref a) (.list (dIs [])) := .lst (SqL.of (pk.at s)) .nil
theorem dp_tups {H : Hp} {ts : List (List Int)} (pk : Pick L (pt a (.lst vs)) A) (p2 : Pick L (tps vs ts) B) (s : Seps L H) : Dp K H (.ref a) (.list (dTs ts)) := .lst (SqL.of (pk.at s)) (dps_tups (p2.f2 s))
theorem g_eqLL (p1 : Pick L (pt a (.lst (ns.map .int))) A) (p2 : Pick L (pt b (.lst (ms.map .int))) B) (k : Go T L fun H => Q (.bl (decide (ns = ms))) H) : Go T L fun H => rEqX K (.ref a) (.ref b) H Q :=
  g_eqD (fun H s => dp_lst p1 s) (fun H s => dp_lst p2 s) (shp_ints _) (shp_ints _) (by simp only [PyData.eqv, eqv_ints]; exact k)
theorem g_neLL (p1 : Pick L (pt a (.lst (ns.map .int))) A) (p2 : Pick L (pt b (.lst (ms.map .int))) B) (k : Go T L fun H => Q (.bl (!decide (ns = ms))) H) : Go T L fun H => rNeX K (.ref a) (.ref b) H Q :=
  g_neD (fun H s => dp_lst p1 s) (fun H s => dp_lst p2 s) (shp_ints _) (shp_ints _) (by simp only [PyData.eqv, eqv_ints]; exact k)
theorem g_eqL0 (p1 : Pick L (pt a (.lst (ns.map .int))) A) (p2 : Pick L (pt b (.lst [])) B) (k : Go T L fun H => Q (.bl (decide (ns = []))) H) : Go T L fun H => rEqX K (.ref a) (.ref b) H Q :=
  g_eqD (fun H s => dp_lst p1 s) (fun H s => dp_nil p2 s) (shp_ints _) (shp_ints _) (by simp only [PyData.eqv, eqv_ints]; exact k)
theorem g_neL0 (p1 : Pick L (pt a (.lst (ns.map .int))) A) (p2 : Pick L (pt b (.lst [])) B) (k : Go T L fun H => Q (.bl (!decide (ns = []))) H) : Go T L fun H => rNeX K (.ref a) (.ref b) H Q :=
  g_neD (fun H s => dp_lst p1 s) (fun H s => dp_nil p2 s) (shp_ints _) (shp_ints _) (by simp only [PyData.eqv, eqv_ints]; exact k)
theorem g_neT0 {ts : List (List Int)} (p1 : Pick L (pt a (.lst vs)) A) (p3 : Pick L (tps vs ts) D) (p2 : Pick L (pt b (.lst [])) B) (k : Go T L fun H => Q (.bl (!decide (ts = []))) H) : Go T L fun H => rNeX K (.ref a) (.ref b) H Q :=
  g_neD (fun H s => dp_tups p1 p3 s) (fun H s => dp_nil p2 s) (shp_tups _) (shp_ints _) (by
    have e : PyData.eqv (.list (dTs ts)) (.list (dIs [])) = decide (ts = []) := by simp only [PyData.eqv]; exact eqv_tups0 ts
    rw [e]; exact k)
theorem g_neP {i j k l : Int} (p1 : Pick L (pt a (.tup [.int i, .int j])) A) (p2 : Pick L (pt b (.tup [.int k, .int l])) B) (g : Go T L fun H => Q (.bl (!decide ([i, j] = [k, l]))) H) : Go T L fun H => rNeX K (.ref a) (.ref b) H Q :=
  g_neD (d := .tuple (dIs [i, j])) (e := .tuple (dIs [k, l])) (fun H s => .tup (SqT.of (p1.at s)) (dps_ints [i, j])) (fun H s => .tup (SqT.of (p2.at s)) (dps_ints [k, l])) (shp_intsT _) (shp_intsT _) (by simp only [PyData.eqv, eqv_ints]; exact g)
theorem inV_ints (i : Int) (ns : List Int) : inV (.int i) (ns.map .int) = decide (i ∈ ns) := by
  unfold inV
  induction ns with
  | nil => simp
  | cons n ns ih =>
    rw [List.map_cons, List.any_cons, ih]
    show ((n == i) || decide (i ∈ ns)) = decide (i ∈ n :: ns)
    by_cases h : i = n
    · subst h; simp
    · have h' : ¬ n = i := fun e => h e.symm
      simp [h, h']
theorem g_inI (pk : Pick L (pt b (.lst (ns.map .int))) A) (k : Go T L fun H => Q (.bl (decide (i ∈ ns))) H) : Go T L fun H => rIn K false (.int i) (.ref b) H Q := fun H t s =>
  ⟨b, _, rfl, .inl (SqL.of (pk.at s)), rfl, by rw [List.all_map, List.all_eq_true]; exact fun _ _ => rfl, by rw [if_neg (by decide), inV_ints]; exact k H t s⟩

/-! ### slices, sums of mapped lists -/
section
variable {α : Type} {f : α → V} {us ws : List α}
theorem g_slTk (pk : Pick L (pt a (.lst (us.map f))) A) (k : ∀ p, Go T (pt p (.lst ((us.take m).map f)) :: L) fun H => Q (.ref p) H) : Go T L fun H => rSlXX K (.ref a) none (some (m : Int)) H Q :=
  g_slL pk fun p => by rw [cut_take, ← List.map_take]; exact k p
theorem g_slQTk (pk : Pick L (sq K a (us.map f)) A) (k : ∀ p, Go T (pt p (.lst ((us.take m).map f)) :: L) fun H => Q (.ref p) H) : Go T L fun H => rSlXX K (.ref a) none (some (m : Int)) H Q :=
  g_slQ pk fun p => by rw [cut_take, ← List.map_take]; exact k p
theorem g_slDr (pk : Pick L (pt a (.lst (us.map f))) A) (k : ∀ p, Go T (pt p (.lst ((us.drop m).map f)) :: L) fun H => Q (.ref p) H) : Go T L fun H => rSlXX K (.ref a) (some (m : Int)) none H Q :=
  g_slL pk fun p => by rw [cut_drop, ← List.map_drop]; exact k p
theorem g_addM {l q : Addr} (p1 : Pick L (pt l (.lst (us.map f))) A) (p2 : Pick L (pt q (.lst (ws.map f))) B) (hl : us.length + ws.length ≤ sizeLine) (k : ∀ p, Go T (pt p (.lst ((us ++ ws).map f)) :: L) fun H => Q (.ref p) H) : Go T L fun H => rAddX K (.ref l) (.ref q) H Q :=
  g_addL p1 p2 (by rw [List.length_map, List.length_map]; exact hl) fun p => by rw [← List.map_append]; exact k p
end
theorem g_pop0 {α : Type} {f : α → V} {u : α} {us : List α} (pk : Pick L (pt a (.lst ((u :: us).map f))) A) (k : Go T (pt a (.lst (us.map f)) :: A) fun H => Q (f u) H) : Go T L fun H => rPopAt (.ref a) [.int 0] H Q :=
  g_popAt (m := 0) pk (by decide) (by decide) (by simp [seqIndex?]) rfl k
/-! ### chunks of one kind -/
theorem seps_snoc {c : HP} {R : List HP} : Ent (c :: Seps A :: R) (Seps (A ++ [c]) :: R) := fun H s => by
  have h := Seps.paste s.swap
  have e : A ++ c :: R = (A ++ [c]) ++ R := by simp
  rw [e] at h
  exact Seps.cut h
theorem seps_head {c : HP} {R : List HP} : Ent (Seps (c :: A) :: R) (c :: Seps A :: R) := fun H s => by
  have h : Seps ((c :: A) ++ R) H := Seps.paste s
  exact Seps.impT (fun _ z => Seps.cut z) h
theorem ent_seps0 {R : List HP} : Ent R (Seps [] :: R) := fun H s => Seps.cut (L1 := []) s
/-! ### ranges made lists, three at once -/
def lRgL (Q : VK) (a b : Int) (H : Hp) : Prop := RgOk a b ∧ ∀ q, H q = none → Q (.ref q) (upd H q (.lst (rgV a b)))
theorem g_listRg {te : L2.St → Hp → (Int → Int → Hp → Prop) → Prop} (k : Go T L fun H => te σ H (lRgL Q)) : Go T L fun H => tLstRg te σ H Q := k
def lRg1 (R : Int → Int → Hp → Prop) (x : V) (H : Hp) : Prop := ∃ n, x = .int n ∧ R 0 n H
theorem g_rg1E {R : Int → Int → Hp → Prop} (k : Go T L fun H => ta σ H (lRg1 R)) : Go T L fun H => tRg1 ta σ H R := k
theorem g_rg1 {R : Int → Int → Hp → Prop} (k : Go T L fun H => R 0 i H) : Go T L fun H => lRg1 R (.int i) H := fun H t s => ⟨i, rfl, k H t s⟩
def natI (n : Nat) : List Int := (List.range n).map Int.ofNat
theorem rgV_nat {n : Nat} : rgV 0 (n : Int) = (natI n).map V.int := by
  unfold rgV natI
  simp
theorem g_rgN (h : n ≤ 16777216) (k : ∀ p, Go T (pt p (.lst ((natI n).map V.int)) :: L) fun H => Q (.ref p) H) : Go T L fun H => lRgL Q 0 (n : Int) H := fun H t s =>
  ⟨RgOk.of_le (by omega) (by omega) (by omega) (by omega), by rw [rgV_nat]; exact (go_new (P := fun p => pt p (.lst ((natI n).map V.int))) rfl (fun _ _ e => e) k) H t s⟩
theorem g_rgL (h : RgOk i j) (k : ∀ p, Go T (pt p (.lst (rgV i j)) :: L) fun H => Q (.ref p) H) : Go T L fun H => lRgL Q i j H := fun H t s => ⟨h, (go_new (P := fun p => pt p (.lst (rgV i j))) rfl (fun _ _ e => e) k) H t s⟩
theorem g_par3 {m q l : Nat} {tr : TA} (k : Go T L fun H => tr σ H fun vs H1 => ∃ u v w, vs = [u, v, w] ∧ N0 (((σ.set m (some u)).set q (some v)).set l (some w)) H1) : Go T L fun H => tPar3 m q l tr ⟨N0, R0, B0, C0⟩ σ H := k
theorem g_par3b {F : V → V → V → Hp → Prop} (k : Go T L fun H => F x y z H) : Go T L fun H => ∃ u v w, [x, y, z] = [u, v, w] ∧ F u v w H := fun H t s => ⟨x, y, z, rfl, k H t s⟩
end
end Dh

/-! The layer Dh, part G: shorter ways through comprehensions and tests. -/
namespace Dh
open PySem PySem.Spec PyProof.Rows L2
section
variable {T : List (Addr × Str)} {L L0 A : List HP} {σ : L2.St} {Q : VK} {K : PySem.W.Frag} {n : Nat} {te : TE} {tt : TT} {g : TG} {vs : List Nat} {a : Addr} {xs : List V} {x y : V} {b : Bool}
/-- the branch that stays is shown first and may be leant on in the other -/
theorem g_ifDE {c : Prop} [Decidable c] {A B : Hp → Prop} (h2 : Go T L B) (h1 : c → Go T L B → Go T L A) : Go T L fun H => if decide c = true then A H else B H := g_ifD (fun h => h1 h h2) (fun _ => h2)
/-- a comprehension over a range whose turns leave the chunks as they are -/
def IF (f : Nat → V) (L0 : List HP) : CI := fun j acc L => acc = (List.range j).map f ∧ Ent L L0
theorem g_lcRf {lo : Int} (f : Nat → V) (h0 : Ent L L0) (hs : ∀ D i, i < n → Go T (pt D (.lst ((List.range i).map f)) :: L0) (LcTurn T D (IF f L0) i g tt te vs σ (.int (lo + i))))
    (hd : ∀ D, Go T (pt D (.lst ((List.range n).map f)) :: L0) fun H => Q (.ref D) H) : Go T L fun H => LcG (Itr lo n) g tt te vs σ Q H :=
  g_lcR (IF f L0) ⟨rfl, h0⟩ (fun D i acc L hi h => by obtain ⟨rfl, e⟩ := h; exact (hs D i hi).ent (ent_tail e)) (fun D acc L h => by obtain ⟨rfl, e⟩ := h; exact (hd D).ent (ent_tail e))
theorem g_lcPut {f : Nat → V} {D : Addr} {i : Nat} (pk : Pick L (pt D (.lst ((List.range i).map f))) A) (hl : i < sizeLine) (hy : y = f i) (e : Ent A L0) : Go T L fun H => LcAdd T D (IF f L0) (i + 1) y H :=
  g_lcAdd pk (by rw [List.length_map, List.length_range]; exact hl) ⟨by rw [hy, List.range_succ, List.map_append]; rfl, e⟩
/-- .. over a list of mapped things -/
def IM {α : Type} (us : List α) (f : α → V) (L0 : List HP) : CI := fun j acc L => acc = (us.take j).map f ∧ Ent L L0
theorem g_lcMf {α : Type} {us : List α} {gx : α → V} (f : α → V) (h0 : Ent L L0) (pk : Pick L0 (pt a (.lst (us.map gx))) A) (hs : ∀ D i u, us[i]? = some u → Go T (pt D (.lst ((us.take i).map f)) :: L0) (LcTurn T D (IM us f L0) i g tt te vs σ (gx u)))
    (hd : ∀ D, Go T (pt D (.lst (us.map f)) :: L0) fun H => Q (.ref D) H) : Go T L fun H => LcG (Itl K a) g tt te vs σ Q H :=
  g_lcL (IM us f L0) ⟨rfl, h0⟩ (fun i acc L h => h.2.has pk) (fun D i x acc L hx h => by
    obtain ⟨rfl, e⟩ := h
    rw [List.getElem?_map] at hx
    obtain ⟨u, hu, rfl⟩ := Option.map_eq_some_iff.mp hx
    exact (hs D i u hu).ent (ent_tail e)) (fun D acc L h => by
    obtain ⟨rfl, e⟩ := h
    rw [List.length_map, List.take_length]
    exact (hd D).ent (ent_tail e))
theorem g_lcPutM {α : Type} {us : List α} {u : α} {f : α → V} {D : Addr} {i : Nat} (hu : us[i]? = some u) (pk : Pick L (pt D (.lst ((us.take i).map f))) A) (hl : us.length < sizeLine) (hy : y = f u) (e : Ent A L0) : Go T L fun H => LcAdd T D (IM us f L0) (i + 1) y H :=
  g_lcAdd pk (by rw [List.length_map, List.length_take]; omega) ⟨by rw [hy, List.take_add_one, hu, List.map_append]; rfl, e⟩
/-! ### lists of mapped things -/
theorem atI_map {α : Type} {f : α → V} {us : List α} {k : Nat} {u : α} (h : us[k]? = some u) : atI (us.map f) (k : Int) = some (f u) := atI_lt (by rw [List.getElem?_map, h]; rfl)
theorem g_setM {α : Type} {f : α → V} {us : List α} {i : Int} {m : Nat} {u : α} {A : List HP} {N : Hp → Prop} (pk : Pick L (pt a (.lst (us.map f))) A) (h : ixN (us.map f).length i = some m) (k : Go T (pt a (.lst ((us.set m u).map f)) :: A) N) : Go T L fun H => rSetL (.ref a) (.int i) (f u) H N :=
  g_setL pk h (by rw [← List.map_set]; exact k)
/-! ### what a told lambda raised -/
theorem g_toldN {cs : List (Addr × Str)} {C : Addr} {ret : Str} {cls : Value} {d : Option Addr} (h : PySem.W.exmOne K cls (.ref C) = some false) (k : Go T L fun H => toldE K cs Q cls d H) : Go T L fun H => toldE K ((C, ret) :: cs) Q cls d H :=
  g_toldE h (fun e => by cases e) fun _ => k
theorem g_toldY {cs : List (Addr × Str)} {C : Addr} {ret : Str} {cls : Value} {d : Option Addr} (h : PySem.W.exmOne K cls (.ref C) = some true) (k : Go T L fun H => Q (.str ret) H) : Go T L fun H => toldE K ((C, ret) :: cs) Q cls d H :=
  g_toldE h (fun _ => k) fun e => by cases e
end
end Dh

/-! The layer Dh, part I: data that never changes (ints, texts, bools, None, tuples of data), told as trees. -/
namespace Dh
open PySem PySem.Spec PyProof.Rows L2
inductive Dt where
  | non
  | int (i : Int)
  | bl (b : Bool)
  | str (s : Str)
  | tup (ds : List Dt)
mutual
inductive DV (H : Hp) : V → Dt → Prop
  | non : DV H .non .non
  | int {i : Int} : DV H (.int i) (.int i)
  | bl {b : Bool} : DV H (.bl b) (.bl b)
  | str {s : Str} : DV H (.str s) (.str s)
  | tup {t : Addr} {vs : List V} {ds : List Dt} : H t = some (.tup vs) → DVs H vs ds → DV H (.ref t) (.tup ds)
inductive DVs (H : Hp) : List V → List Dt → Prop
  | nil : DVs H [] []
  | cons {v : V} {vs : List V} {d : Dt} {ds : List Dt} : DV H v d → DVs H vs ds → DVs H (v :: vs) (d :: ds)
end
def dv (v : V) (d : Dt) : HP := fun h => DV h v d
def dvs (vs : List V) (ds : List Dt) : HP := fun h => DVs h vs ds
section
variable {T : List (Addr × Str)} {L A B R : List HP} {σ : L2.St} {Q : VK} {K : PySem.W.Frag} {H H' : Hp} {v x y : V} {vs ws xs : List V} {d e : Dt} {ds es : List Dt} {a b t p : Addr} {G : Hp → Prop} {k n : Nat} {i j : Int} {s : Str}
mutual
theorem DV.mono (m : ∀ a xs, H a = some (.tup xs) → H' a = some (.tup xs)) : ∀ {v : V} {d : Dt}, DV H v d → DV H' v d
  | _, _, .non => .non
  | _, _, .int => .int
  | _, _, .bl => .bl
  | _, _, .str => .str
  | _, _, .tup e r => .tup (m _ _ e) (DVs.mono m r)
theorem DVs.mono (m : ∀ a xs, H a = some (.tup xs) → H' a = some (.tup xs)) : ∀ {vs : List V} {ds : List Dt}, DVs H vs ds → DVs H' vs ds
  | _, _, .nil => .nil
  | _, _, .cons e r => .cons (DV.mono m e) (DVs.mono m r)
end
theorem DVs.len : ∀ {vs : List V} {ds : List Dt}, DVs H vs ds → vs.length = ds.length
  | _, _, .nil => rfl
  | _, _, .cons _ r => by rw [List.length_cons, List.length_cons, r.len]
theorem DVs.app : ∀ {vs ws : List V} {ds es : List Dt}, DVs H vs ds → DVs H ws es → DVs H (vs ++ ws) (ds ++ es)
  | _, _, _, _, .nil, r => r
  | _, _, _, _, .cons e q, r => .cons e (q.app r)
theorem DVs.take : ∀ {vs : List V} {ds : List Dt} (k : Nat), DVs H vs ds → DVs H (vs.take k) (ds.take k)
  | _, _, 0, _ => by rw [List.take_zero, List.take_zero]; exact .nil
  | _, _, _ + 1, .nil => .nil
  | _, _, k + 1, .cons e r => .cons e (r.take k)
theorem DVs.drop : ∀ {vs : List V} {ds : List Dt} (k : Nat), DVs H vs ds → DVs H (vs.drop k) (ds.drop k)
  | _, _, 0, r => r
  | _, _, _ + 1, .nil => .nil
  | _, _, k + 1, .cons e r => r.drop k
theorem DVs.at : ∀ {vs : List V} {ds : List Dt} {k : Nat} {d : Dt}, DVs H vs ds → ds[k]? = some d → ∃ v, vs[k]? = some v ∧ DV H v d
  | _, _, _, _, .nil, h => by simp at h
  | _, _, 0, _, .cons e r, h => by
    simp at h
    subst h
    exact ⟨_, rfl, e⟩
  | _, _, k + 1, _, .cons e r, h => by
    obtain ⟨v, h1, h2⟩ := r.at (k := k) (by simpa using h)
    exact ⟨v, by simpa using h1, h2⟩
theorem DVs.set : ∀ {vs : List V} {ds : List Dt} {v : V} {d : Dt} (k : Nat), DVs H vs ds → DV H v d → DVs H (vs.set k v) (ds.set k d)
  | _, _, _, _, _, .nil, _ => .nil
  | _, _, _, _, 0, .cons _ r, h => .cons h r
  | _, _, _, _, k + 1, .cons e r, h => .cons e (r.set k h)
theorem DVs.ints : ∀ ns : List Int, DVs H (ns.map .int) (ns.map .int)
  | [] => .nil
  | n :: ns => .cons .int (DVs.ints ns)
theorem Pick.dv (pk : Pick L (dv v d) A) (s : Seps L H) : DV H v d := by
  obtain ⟨h1, s1, e⟩ := (pk H s).head
  exact e.mono fun a xs q => s1 _ _ q
theorem Pick.dvs (pk : Pick L (dvs vs ds) A) (s : Seps L H) : DVs H vs ds := by
  obtain ⟨h1, s1, e⟩ := (pk H s).head
  exact e.mono fun a xs q => s1 _ _ q
theorem Pick.tup (pk : Pick L (pt t (.tup vs)) A) (s : Seps L H) (h : DVs H vs ds) : DV H (.ref t) (.tup ds) := .tup (pk.at s) h
def tupsOf (H : Hp) : Hp := fun a => match H a with
  | some (.tup xs) => some (.tup xs)
  | _ => none
theorem tupsOf_some {a : Addr} {o : HO} (h : tupsOf H a = some o) : H a = some o ∧ isImm o = true := by
  unfold tupsOf at h
  split at h
  · rename_i xs q
    cases h
    exact ⟨q, rfl⟩
  · cases h
theorem tupsOf_at {a : Addr} {xs : List V} (h : H a = some (.tup xs)) : tupsOf H a = some (.tup xs) := by
  unfold tupsOf
  rw [h]
/-- data may be told again -/
theorem ent_dvs (h : ∀ H, Seps L H → DVs H vs ds) (e : Ent L R) : Ent L (dvs vs ds :: R) := fun H s =>
  Seps.impT (fun h q => e h q) (s.more (tupsOf H) (fun a o q => (tupsOf_some q).1) (fun a o q => (tupsOf_some q).2) ((h H s).mono fun a xs q => tupsOf_at q))
theorem ent_dv (h : ∀ H, Seps L H → DV H v d) (e : Ent L R) : Ent L (dv v d :: R) := fun H s =>
  Seps.impT (fun h q => e h q) (s.more (tupsOf H) (fun a o q => (tupsOf_some q).1) (fun a o q => (tupsOf_some q).2) ((h H s).mono fun a xs q => tupsOf_at q))
theorem go_dvs (h : ∀ H, Seps L H → DVs H vs ds) (g : Go T (dvs vs ds :: L) G) : Go T L G := g.ent (ent_dvs h ent_refl)
theorem go_dv (h : ∀ H, Seps L H → DV H v d) (g : Go T (dv v d :: L) G) : Go T L G := g.ent (ent_dv h ent_refl)
theorem go_dvsLen (pk : Pick L (dvs vs ds) A) (g : vs.length = ds.length → Go T L G) : Go T L G := fun H tt s => g (pk.dvs s).len H tt s
/-- one of a row of data -/
theorem go_dvsAt (pk : Pick L (dvs vs ds) A) (hk : ds[k]? = some d) (g : ∀ v, vs[k]? = some v → Go T (dv v d :: L) G) : Go T L G := fun H tt s => by
  obtain ⟨v, h1, h2⟩ := (pk.dvs s).at hk
  exact g v h1 H tt (ent_dv (fun H s => by
    obtain ⟨w, h3, h4⟩ := (pk.dvs s).at hk
    rw [h1] at h3
    cases h3
    exact h4) ent_refl H s)
/-- a tuple's parts -/
theorem go_dvTup (pk : Pick L (dv v (.tup ds)) A) (g : ∀ t vs, v = .ref t → Go T (pt t (.tup vs) :: dvs vs ds :: L) G) : Go T L G := fun H tt s => by
  have f : ∀ H, Seps L H → ∃ t vs, v = .ref t ∧ H t = some (.tup vs) ∧ DVs H vs ds := fun H s => by
    have q := pk.dv s
    cases q with
    | tup e r => exact ⟨_, _, rfl, e, r⟩
  obtain ⟨t, vs, rfl, e, r⟩ := f H s
  have s1 : Seps (dvs vs ds :: L) H := s.more (tupsOf H) (fun a o q => (tupsOf_some q).1) (fun a o q => (tupsOf_some q).2) (r.mono fun a xs q => tupsOf_at q)
  have s2 : Seps (pt t (.tup vs) :: dvs vs ds :: L) H := s1.more (tupsOf H) (fun a o q => (tupsOf_some q).1) (fun a o q => (tupsOf_some q).2) (tupsOf_at e)
  exact g t vs rfl H tt s2
theorem go_dvInt (pk : Pick L (dv v (.int i)) A) (g : v = .int i → Go T L G) : Go T L G := fun H tt s => g (by cases pk.dv s; rfl) H tt s
theorem go_dvStr (pk : Pick L (dv v (.str s)) A) (g : v = .str s → Go T L G) : Go T L G := fun H tt q => g (by cases pk.dv q; rfl) H tt q
theorem go_dvBl {b : Bool} (pk : Pick L (dv v (.bl b)) A) (g : v = .bl b → Go T L G) : Go T L G := fun H tt q => g (by cases pk.dv q; rfl) H tt q
theorem go_dvNon (pk : Pick L (dv v .non) A) (g : v = .non → Go T L G) : Go T L G := fun H tt q => g (by cases pk.dv q; rfl) H tt q
theorem go_dvsNil (pk : Pick L (dvs vs []) A) (g : vs = [] → Go T L G) : Go T L G := fun H tt q => g (by cases pk.dvs q; rfl) H tt q
theorem go_dvsCons (pk : Pick L (dvs vs (d :: ds)) A) (g : ∀ v ws, vs = v :: ws → Go T (dv v d :: dvs ws ds :: L) G) : Go T L G := fun H tt s => by
  have f : ∀ H, Seps L H → ∃ v ws, vs = v :: ws ∧ DV H v d ∧ DVs H ws ds := fun H s => by
    have q := pk.dvs s
    cases q with
    | cons e r => exact ⟨_, _, rfl, e, r⟩
  obtain ⟨v, ws, rfl, _⟩ := f H s
  refine g v ws rfl H tt (ent_dv (fun H s => ?_) (ent_dvs (fun H s => ?_) ent_refl) H s)
  · obtain ⟨v', ws', e, h1, _⟩ := f H s
    cases e
    exact h1
  · obtain ⟨v', ws', e, _, h1⟩ := f H s
    cases e
    exact h1
/-! rows of tuples of plain things -/
def Dt.at : Dt → V
  | .int i => .int i
  | .bl b => .bl b
  | .str s => .str s
  | _ => .non
def Dt.isAt : Dt → Bool
  | .tup _ => false
  | _ => true
theorem DVs.atoms : ∀ {vs : List V} {ds : List Dt}, DVs H vs ds → ds.all Dt.isAt = true → vs = ds.map Dt.at
  | _, _, .nil, _ => rfl
  | _, _, .cons e r, h => by
    rw [List.all_cons, Bool.and_eq_true] at h
    rw [List.map_cons, ← r.atoms h.2]
    congr 1
    cases e with
    | tup _ _ => cases h.1
    | _ => rfl
theorem go_dvRow {es : List Dt} (pk : Pick L (dvs vs ds) A) (hk : ds[k]? = some (.tup es)) (he : es.all Dt.isAt = true) (hx : es.map Dt.at = xs) (g : ∀ t, vs[k]? = some (.ref t) → Go T (pt t (.tup xs) :: L) G) : Go T L G := fun H tt s => by
  have f : ∀ H, Seps L H → ∃ t, vs[k]? = some (.ref t) ∧ H t = some (.tup xs) := fun H s => by
    obtain ⟨v, h1, h2⟩ := (pk.dvs s).at hk
    cases h2 with
    | tup e r => exact ⟨_, h1, by rw [← hx, ← r.atoms he]; exact e⟩
  obtain ⟨t, h1, h2⟩ := f H s
  exact g t h1 H tt (s.more (tupsOf H) (fun a o q => (tupsOf_some q).1) (fun a o q => (tupsOf_some q).2) (tupsOf_at h2))
/-! ### == of data -/
mutual
def Dt.py : Dt → PyData
  | .non => .none
  | .int i => .int i
  | .bl b => .bool b
  | .str s => .str s
  | .tup ds => .tuple (Dt.pys ds)
def Dt.pys : List Dt → List PyData
  | [] => []
  | d :: ds => d.py :: Dt.pys ds
end
mutual
theorem DV.dp : ∀ {v : V} {d : Dt}, DV H v d → Dp K H v d.py
  | _, _, .non => .non
  | _, _, .int => .int _
  | _, _, .bl => .bl _
  | _, _, .str => .str _
  | _, _, .tup e r => .tup (SqT.of e) (DVs.dp r)
theorem DVs.dp : ∀ {vs : List V} {ds : List Dt}, DVs H vs ds → DpAll K H vs (Dt.pys ds)
  | _, _, .nil => .nil
  | _, _, .cons e r => .cons (DV.dp e) (DVs.dp r)
end
mutual
/-- how deep; no bools within -/
def Dt.dep : Dt → Nat
  | .tup ds => Dt.deps ds + 1
  | _ => 0
def Dt.deps : List Dt → Nat
  | [] => 0
  | d :: ds => max d.dep (Dt.deps ds)
end
mutual
def Dt.nob : Dt → Bool
  | .bl _ => false
  | .tup ds => Dt.nobs ds
  | _ => true
def Dt.nobs : List Dt → Bool
  | [] => true
  | d :: ds => d.nob && Dt.nobs ds
end
mutual
/-- its texts can be laid -/
def Dt.lay : Dt → Bool
  | .str s => PyData.strOk s
  | .tup ds => Dt.lays ds
  | _ => true
def Dt.lays : List Dt → Bool
  | [] => true
  | d :: ds => d.lay && Dt.lays ds
end
mutual
theorem lay_dt : ∀ {d : Dt}, d.lay = true → PyData.canLay0 d.py = true
  | .non, _ => rfl
  | .int _, _ => rfl
  | .bl _, _ => rfl
  | .str _, h => by
    simp only [Dt.py, PyData.canLay0]
    exact h
  | .tup ds, h => by
    simp only [Dt.py, PyData.canLay0]
    exact lay_dts h
theorem lay_dts : ∀ {ds : List Dt}, Dt.lays ds = true → PyData.canLayAll0 (Dt.pys ds) = true
  | [], _ => rfl
  | d :: ds, h => by
    simp only [Dt.lays, Bool.and_eq_true] at h
    simp only [Dt.pys, PyData.canLayAll0, lay_dt h.1, lay_dts h.2, Bool.and_self]
end
mutual
theorem dep_dt : ∀ d : Dt, PyData.depth d.py = d.dep
  | .non => rfl
  | .int _ => rfl
  | .bl _ => rfl
  | .str _ => rfl
  | .tup ds => by
    simp only [Dt.py, PyData.depth, Dt.dep, dep_dts ds]
    try omega
theorem dep_dts : ∀ ds : List Dt, PyData.depthAll (Dt.pys ds) = Dt.deps ds
  | [] => rfl
  | d :: ds => by simp only [Dt.pys, PyData.depthAll, Dt.deps, dep_dt d, dep_dts ds]
end
theorem shp_dt (l : d.lay = true) (h : d.dep ≤ 64) : SeqAt.shaped d.py = true := by
  show (PyData.canLay0 d.py && decide (PyData.depth d.py ≤ 64)) = true
  rw [lay_dt l, dep_dt, decide_eq_true h]
  rfl
theorem shp_dts (l : Dt.lays ds = true) (h : Dt.deps ds ≤ 60) : SeqAt.shaped (.list (Dt.pys ds)) = true := by
  show (PyData.canLay0 (.list (Dt.pys ds)) && decide (PyData.depth (.list (Dt.pys ds)) ≤ 64)) = true
  simp only [PyData.canLay0, PyData.depth, lay_dts l, dep_dts, Bool.true_and, decide_eq_true_eq]
  omega
theorem lays_all : ∀ {ds : List Dt}, (∀ d ∈ ds, d.lay = true) → Dt.lays ds = true
  | [], _ => rfl
  | d :: ds, h => by
    show (d.lay && Dt.lays ds) = true
    rw [h d List.mem_cons_self, lays_all fun e he => h e (List.mem_cons_of_mem _ he)]
    rfl
theorem deps_map {α : Type} {f : α → Dt} {m : Nat} (h : ∀ u, (f u).dep ≤ m) : ∀ us : List α, Dt.deps (us.map f) ≤ m
  | [] => Nat.zero_le _
  | u :: us => Nat.max_le.mpr ⟨h u, deps_map h us⟩
theorem nobs_map {α : Type} {f : α → Dt} (h : ∀ u, (f u).nob = true) : ∀ us : List α, Dt.nobs (us.map f) = true
  | [] => rfl
  | u :: us => by
    show ((f u).nob && Dt.nobs (us.map f)) = true
    rw [h u, nobs_map h us]
    rfl
mutual
theorem eqv_dt : ∀ {d e : Dt}, d.nob = true → e.nob = true → PyData.eqv d.py e.py = true → d = e
  | .non, .non, _, _, _ => rfl
  | .int i, .int j, _, _, h => by
    simp only [Dt.py, PyData.eqv] at h
    have e : i = j := by simpa using h
    rw [e]
  | .str i, .str j, _, _, h => by
    simp only [Dt.py, PyData.eqv] at h
    have e : i = j := by simpa using h
    rw [e]
  | .tup ds, .tup es, h1, h2, h => by
    simp only [Dt.py, PyData.eqv] at h
    rw [eqv_dts h1 h2 h]
  | .bl _, _, h, _, _ => by cases h
  | _, .bl _, _, h, _ => by cases h
  | .non, .int _, _, _, h => by simp [Dt.py, PyData.eqv] at h
  | .non, .str _, _, _, h => by simp [Dt.py, PyData.eqv] at h
  | .non, .tup _, _, _, h => by simp [Dt.py, PyData.eqv] at h
  | .int _, .non, _, _, h => by simp [Dt.py, PyData.eqv] at h
  | .int _, .str _, _, _, h => by simp [Dt.py, PyData.eqv] at h
  | .int _, .tup _, _, _, h => by simp [Dt.py, PyData.eqv] at h
  | .str _, .non, _, _, h => by simp [Dt.py, PyData.eqv] at h
  | .str _, .int _, _, _, h => by simp [Dt.py, PyData.eqv] at h
  | .str _, .tup _, _, _, h => by simp [Dt.py, PyData.eqv] at h
  | .tup _, .non, _, _, h => by simp [Dt.py, PyData.eqv] at h
  | .tup _, .int _, _, _, h => by simp [Dt.py, PyData.eqv] at h
  | .tup _, .str _, _, _, h => by simp [Dt.py, PyData.eqv] at h
theorem eqv_dts : ∀ {ds es : List Dt}, Dt.nobs ds = true → Dt.nobs es = true → PyData.eqvAll (Dt.pys ds) (Dt.pys es) = true → ds = es
  | [], [], _, _, _ => rfl
  | [], e :: es, _, _, h => by simp [Dt.pys, PyData.eqvAll] at h
  | d :: ds, [], _, _, h => by simp [Dt.pys, PyData.eqvAll] at h
  | d :: ds, e :: es, h1, h2, h => by
    simp only [Dt.pys, PyData.eqvAll, Bool.and_eq_true] at h
    simp only [Dt.nobs, Bool.and_eq_true] at h1 h2
    rw [eqv_dt h1.1 h2.1 h.1, eqv_dts h1.2 h2.2 h.2]
end
mutual
theorem eqv_dtR : ∀ d : Dt, PyData.eqv d.py d.py = true
  | .non => by simp [Dt.py, PyData.eqv]
  | .int _ => by simp [Dt.py, PyData.eqv]
  | .bl _ => by simp [Dt.py, PyData.eqv]
  | .str _ => by simp [Dt.py, PyData.eqv]
  | .tup ds => by
    simp only [Dt.py, PyData.eqv]
    exact eqv_dtsR ds
theorem eqv_dtsR : ∀ ds : List Dt, PyData.eqvAll (Dt.pys ds) (Dt.pys ds) = true
  | [] => by simp [Dt.pys, PyData.eqvAll]
  | d :: ds => by simp only [Dt.pys, PyData.eqvAll, eqv_dtR d, eqv_dtsR ds, Bool.and_self]
end
open Classical in
theorem eqv_dtD {d e : Dt} (h1 : d.nob = true) (h2 : e.nob = true) : PyData.eqv d.py e.py = decide (d = e) := by
  by_cases h : d = e
  · subst h
    rw [eqv_dtR, decide_eq_true rfl]
  · rw [decide_eq_false h, Bool.eq_false_iff]
    exact fun z => h (eqv_dt h1 h2 z)
open Classical in
theorem eqv_dtsD {ds es : List Dt} (h1 : Dt.nobs ds = true) (h2 : Dt.nobs es = true) : PyData.eqv (.list (Dt.pys ds)) (.list (Dt.pys es)) = decide (ds = es) := by
  simp only [PyData.eqv]
  by_cases h : ds = es
  · subst h
    rw [eqv_dtsR, decide_eq_true rfl]
  · rw [decide_eq_false h, Bool.eq_false_iff]
    exact fun z => h (eqv_dts h1 h2 z)
/-- == of two lists of data: by a Bool of one's own -/
theorem g_eqDs {r : Bool} (p1 : Pick L (pt a (.lst vs)) A) (q1 : ∀ H, Seps L H → DVs H vs ds) (p2 : Pick L (pt b (.lst ws)) B) (q2 : ∀ H, Seps L H → DVs H ws es) (l1 : Dt.lays ds = true) (l2 : Dt.lays es = true) (b1 : Dt.deps ds ≤ 60) (b2 : Dt.deps es ≤ 60) (h : PyData.eqv (.list (Dt.pys ds)) (.list (Dt.pys es)) = r) (k : Go T L fun H => Q (.bl r) H) :
    Go T L fun H => rEqX K (.ref a) (.ref b) H Q :=
  g_eqD (fun H s => .lst (SqL.of (p1.at s)) (q1 H s).dp) (fun H s => .lst (SqL.of (p2.at s)) (q2 H s).dp) (shp_dts l1 b1) (shp_dts l2 b2) (by rw [h]; exact k)
theorem g_neDs {r : Bool} (p1 : Pick L (pt a (.lst vs)) A) (q1 : ∀ H, Seps L H → DVs H vs ds) (p2 : Pick L (pt b (.lst ws)) B) (q2 : ∀ H, Seps L H → DVs H ws es) (l1 : Dt.lays ds = true) (l2 : Dt.lays es = true) (b1 : Dt.deps ds ≤ 60) (b2 : Dt.deps es ≤ 60) (h : PyData.eqv (.list (Dt.pys ds)) (.list (Dt.pys es)) = r) (k : Go T L fun H => Q (.bl (!r)) H) :
    Go T L fun H => rNeX K (.ref a) (.ref b) H Q :=
  g_neD (fun H s => .lst (SqL.of (p1.at s)) (q1 H s).dp) (fun H s => .lst (SqL.of (p2.at s)) (q2 H s).dp) (shp_dts l1 b1) (shp_dts l2 b2) (by rw [h]; exact k)
/-- == of two tuples (or smaller data) -/
theorem g_eqDt {r : Bool} (q1 : ∀ H, Seps L H → DV H x d) (q2 : ∀ H, Seps L H → DV H y e) (l1 : d.lay = true) (l2 : e.lay = true) (b1 : d.dep ≤ 64) (b2 : e.dep ≤ 64) (h : PyData.eqv d.py e.py = r) (k : Go T L fun H => Q (.bl r) H) : Go T L fun H => rEqX K x y H Q :=
  g_eqD (fun H s => (q1 H s).dp) (fun H s => (q2 H s).dp) (shp_dt l1 b1) (shp_dt l2 b2) (by rw [h]; exact k)
theorem g_neDt {r : Bool} (q1 : ∀ H, Seps L H → DV H x d) (q2 : ∀ H, Seps L H → DV H y e) (l1 : d.lay = true) (l2 : e.lay = true) (b1 : d.dep ≤ 64) (b2 : e.dep ≤ 64) (h : PyData.eqv d.py e.py = r) (k : Go T L fun H => Q (.bl (!r)) H) : Go T L fun H => rNeX K x y H Q :=
  g_neD (fun H s => (q1 H s).dp) (fun H s => (q2 H s).dp) (shp_dt l1 b1) (shp_dt l2 b2) (by rw [h]; exact k)
/-! ### more -/
theorem log2_ok {i : Int} (h : i.natAbs < 4294967296) : i.natAbs.log2 < 1920 := by
  rcases Nat.eq_zero_or_pos i.natAbs with e | e
  · rw [e]; decide
  · rw [Nat.log2_lt (by omega)]
    exact Nat.lt_of_lt_of_le h (Nat.pow_le_pow_right (n := 2) (by decide) (show 32 ≤ 1920 by decide))
theorem g_toNat {r : Int} (h : 0 ≤ r) (k : Go T L fun H => Q (.int ((r.toNat : Nat) : Int)) H) : Go T L fun H => Q (.int r) H := by
  rw [Int.toNat_of_nonneg h] at k
  exact k
theorem g_isiI {c : String} {r : Bool} (h : PySem.W.kitOne K (.type "int") (.type c) = some r) (k : Go T L fun H => Q (.bl r) H) : Go T L fun H => rIsi K [.int i, .ty c] H Q := fun H t s =>
  ⟨_, _, _, _, _, rfl, .ty _, .base (.int _), h, k H t s⟩
theorem g_isiII (k : Go T L fun H => Q (.bl true) H) : Go T L fun H => rIsi K [.int i, .ty "int"] H Q := g_isiI (kit_ty (by decide +kernel)) k
theorem g_isiIB (k : Go T L fun H => Q (.bl false) H) : Go T L fun H => rIsi K [.int i, .ty "bool"] H Q := g_isiI (kit_ty (by decide +kernel)) k
theorem inV_strs (s : Str) (ss : List Str) : inV (.str s) (ss.map .str) = decide (s ∈ ss) := by
  unfold inV
  induction ss with
  | nil => simp
  | cons n ns ih =>
    rw [List.map_cons, List.any_cons, ih]
    show ((n == s) || decide (s ∈ ns)) = decide (s ∈ n :: ns)
    by_cases h : s = n
    · subst h; simp
    · have h' : ¬ n = s := fun e => h e.symm
      simp [h, h']
/-- x in a tuple of texts of the module's own -/
theorem g_inK {ss : List Str} (hq : ∀ H, SqT K H b (ss.map .str)) (k : Go T L fun H => Q (.bl (decide (s ∈ ss))) H) : Go T L fun H => rIn K false (.str s) (.ref b) H Q := fun H t z =>
  ⟨b, _, rfl, .inr (hq H), rfl, by rw [List.all_map, List.all_eq_true]; exact fun _ _ => rfl, by rw [if_neg (by decide), inV_strs]; exact k H t z⟩
theorem g_notInK {ss : List Str} (hq : ∀ H, SqT K H b (ss.map .str)) (k : Go T L fun H => Q (.bl (!decide (s ∈ ss))) H) : Go T L fun H => rIn K true (.str s) (.ref b) H Q := fun H t z =>
  ⟨b, _, rfl, .inr (hq H), rfl, by rw [List.all_map, List.all_eq_true]; exact fun _ _ => rfl, by rw [if_pos rfl, inV_strs]; exact k H t z⟩
/-! ### dicts with keys of texts -/
section
variable {kvs : List (Key × V)}
theorem g_dinS (pk : Pick L (pt a (.dK kvs)) A) (k : Go T L fun H => Q (.bl (valV kvs (Sum.inr s)).isSome) H) : Go T L fun H => lDIn Q (.str s) (.ref a) H := fun H t z => ⟨a, _, rfl, DGet.k (k := Sum.inr s) (pk.at z), k H t z⟩
theorem g_dnotinS (pk : Pick L (pt a (.dK kvs)) A) (k : Go T L fun H => Q (.bl (!(valV kvs (Sum.inr s)).isSome)) H) : Go T L fun H => lDNotIn Q (.str s) (.ref a) H := fun H t z => ⟨a, _, rfl, DGet.k (k := Sum.inr s) (pk.at z), k H t z⟩
theorem g_dgetS (pk : Pick L (pt a (.dK kvs)) A) (h : valV kvs (Sum.inr s) = some v) (k : Go T L fun H => Q v H) : Go T L fun H => lDGet Q (.ref a) (.str s) H := fun H t z => ⟨a, v, rfl, h ▸ DGet.k (k := Sum.inr s) (pk.at z), k H t z⟩
theorem g_dputS {N : Hp → Prop} (pk : Pick L (pt a (.dK kvs)) A) (hl : kvs.length < sizeLine) (k : Go T (pt a (.dK (putK kvs (Sum.inr s) v)) :: A) N) : Go T L fun H => lDPut N v (.ref a) (.str s) H := fun H t z =>
  ⟨a, _, rfl, DPut.k (k := Sum.inr s) (pk.at z) hl, (go_wr (P' := pt a (.dK (putK kvs (Sum.inr s) v))) pk rfl (fun h e => ⟨_, e, rfl, upd_same⟩) k) H t z⟩
theorem g_dpopS (pk : Pick L (pt a (.dK kvs)) A) (h : valV kvs (Sum.inr s) = some v) (k : Go T (pt a (.dK (dropK kvs (Sum.inr s))) :: A) fun H => Q v H) : Go T L fun H => lDPopB a Q (.str s) H := fun H t z =>
  ⟨kvs, Sum.inr s, v, pk.at z, rfl, h, (go_wr (P' := pt a (.dK (dropK kvs (Sum.inr s)))) pk rfl (fun h e => ⟨_, e, rfl, upd_same⟩) k) H t z⟩
end
end
end Dh

/-! The layer Dh, part J: loops and comprehensions over reversed, zip, enumerate; dict comprehensions. -/
namespace Dh
open PySem PySem.Spec PyProof.Rows L2
section
variable {X : Cx} {K : PySem.W.Frag}
theorem piZip {e e2 : Expr} {ta : TA} {p pos tpos : Pos} {elts : List Expr} {kk : Nat} (hK : X.K = K) (hg : Gl X "zip") (hm : X.mg "zip" = none) (ha : PA X [e, e2] ta)
    (hs : starEach [e, e2] X.env = (false, eval e X.env) :: starEach [e2] X.env := by rfl) (hpl : (backTo pos (starEach [e2] X.env)).any (·.1) = false := by rfl) :
    PI X (.Tuple elts kk tpos) (.Call (.Name "zip" p) [e, e2] [] pos) (RZ.iZipA K ta) := hK ▸ RZ.pi_zipA hg hm ha hs hpl
theorem piEnum {e : Expr} {ta : TA} {p pos tpos : Pos} {elts : List Expr} {kk : Nat} (hK : X.K = K) (hg : Gl X "enumerate") (hm : X.mg "enumerate" = none) (ha : PA X [e] ta) (hs : starEach [e] X.env = [(false, eval e X.env)] := by rfl) :
    PI X (.Tuple elts kk tpos) (.Call (.Name "enumerate" p) [e] [] pos) (iEnum K ta) := hK ▸ pi_enum hg hm ha hs
end
section
variable {T : List (Addr × Str)} {L L0 A B : List HP} {σ : L2.St} {Q : VK} {K : PySem.W.Frag} {n : Nat} {te ta : TE} {tt : TT} {tr : TA} {g : TG} {vs : List Nat} {a b p : Addr} {xs ys : List V} {x y : V} {ts : TS} {N0 : L2.St → Hp → Prop} {R0 : VK} {R : It → Hp → Prop} {J : It} {G : Hp → Prop} {Y : Nat → Hp → V → Hp → Prop}
theorem walk_revT : Walk (RT.ItvT K a xs.length) xs.length (fun H => SqT K H a xs) (fun i H x H' => H' = H ∧ xs[xs.length - 1 - i]? = some x) :=
  ⟨fun i _ hi q => ⟨hi, xs, xs[xs.length - 1 - i]'(by omega), q, by simp [show xs.length - 1 - i < xs.length by omega]⟩, fun _ _ => Nat.le_refl _, fun _ _ _ _ _ q y => ⟨y.1, y.2 xs q⟩⟩
theorem walk_zipT (hn : n = min xs.length ys.length) : Walk (RZ.ItzT K a b) n (fun H => SqT K H a xs ∧ SqT K H b ys) (YPair (fun i => xs[i]?) (fun i => ys[i]?)) := by
  subst hn
  refine ⟨fun i _ hi q => ?_, fun _ q => ⟨xs, ys, q.1, q.2, by omega⟩, fun i H v H' _ q y => ?_⟩
  · have h1 : i < xs.length := by omega
    have h2 : i < ys.length := by omega
    exact ⟨xs, ys, xs[i], ys[i], q.1, q.2, by simp [h1], by simp [h2]⟩
  · obtain ⟨T, x, z, h1, h2, h3, h4, h5⟩ := y
    exact ⟨T, x, z, h1, h2, h3, h4 xs q.1, h5 ys q.2⟩
/-- a for over a walk that leaves the heap as it is -/
theorem g_forW {Pm : Nat → V → Prop} (w : Walk J n G Y) (hy : ∀ i H x H', Y i H x H' → H' = H ∧ Pm i x) (I : Nat → SI) (h0 : I 0 σ L) (hG : ∀ i σ L, I i σ L → ∀ H, Seps L H → G H)
    (hs : ∀ i x σ L, i < n → Pm i x → I i σ L → Go T L fun H => g x σ H fun σ2 H2 => ts ⟨SI.at T (I (i + 1)), R0, N0, SI.at T (I (i + 1))⟩ σ2 H2) (hd : ∀ σ L, I n σ L → Go T L fun H => N0 σ H) :
    Go T L fun H => ForG J g ts N0 R0 σ H := fun H t s =>
  for_it w (D := ⟨N0, R0, fun _ _ => False, fun _ _ => False⟩) (fun i => SI.at T (I i)) ⟨L, h0, t, s⟩ (fun i σ H _ ⟨L, h, t, s⟩ => hG i σ L h H s) (fun i x σ H H' hi ⟨L, h, t, s⟩ yy => by
    obtain ⟨e, hx⟩ := hy _ _ _ _ yy
    rw [e]
    exact hs i x σ L hi hx h H t s) (fun σ H ⟨L, h, t, s⟩ => hd σ L h H t s)
/-- a for over a walk that gives pairs -/
theorem g_forP {f h : Nat → Option V} (w : Walk J n G (YPair f h)) (I : Nat → SI) (h0 : I 0 σ L) (hG : ∀ i σ L, I i σ L → ∀ H, Seps L H → G H)
    (hs : ∀ i x y p σ L, i < n → f i = some x → h i = some y → I i σ L → Go T (pt p (.tup [x, y]) :: L) fun H => g (.ref p) σ H fun σ2 H2 => ts ⟨SI.at T (I (i + 1)), R0, N0, SI.at T (I (i + 1))⟩ σ2 H2) (hd : ∀ σ L, I n σ L → Go T L fun H => N0 σ H) :
    Go T L fun H => ForG J g ts N0 R0 σ H := fun H t s =>
  for_it w (D := ⟨N0, R0, fun _ _ => False, fun _ _ => False⟩) (fun i => SI.at T (I i)) ⟨L, h0, t, s⟩ (fun i σ H _ ⟨L, h, t, s⟩ => hG i σ L h H s) (fun i v σ H H' hi ⟨L, hh, t, s⟩ yy => by
    obtain ⟨q, x, y, rfl, e1, rfl, hx, hy⟩ := yy
    exact hs i x y q σ L hi hx hy hh _ (Tabs.new t e1) (s.new e1 rfl fun _ e => e)) (fun σ H ⟨L, h, t, s⟩ => hd σ L h H t s)
theorem g_lcW {Pm : Nat → V → Prop} (w : Walk J n G Y) (hy : ∀ i H x H', Y i H x H' → H' = H ∧ Pm i x) (I : CI) (h0 : I 0 [] L) (hG : ∀ i acc L, I i acc L → ∀ H, Seps L H → G H)
    (hs : ∀ D i x acc L, i < n → Pm i x → I i acc L → Go T (pt D (.lst acc) :: L) (LcTurn T D I i g tt te vs σ x)) (hd : ∀ D acc L, I n acc L → Go T (pt D (.lst acc) :: L) fun H => Q (.ref D) H) :
    Go T L fun H => LcG J g tt te vs σ Q H := fun H t s D hD =>
  lc_it w (LcPv T D I) ⟨[], L, h0, Tabs.new t hD, s.new hD rfl fun _ e => e⟩ (fun i H _ ⟨acc, L, h, t, s⟩ => hG i acc L h H s.tail) (fun i x H H' hi ⟨acc, L, h, t, s⟩ yy => by
    obtain ⟨e, hx⟩ := hy _ _ _ _ yy
    rw [e]
    exact hs D i x acc L hi hx h H t s) (fun H ⟨acc, L, h, t, s⟩ => hd D acc L h H t s)
theorem g_lcP {f h : Nat → Option V} (w : Walk J n G (YPair f h)) (I : CI) (h0 : I 0 [] L) (hG : ∀ i acc L, I i acc L → ∀ H, Seps L H → G H)
    (hs : ∀ D i x y p acc L, i < n → f i = some x → h i = some y → I i acc L → Go T (pt p (.tup [x, y]) :: pt D (.lst acc) :: L) (LcTurn T D I i g tt te vs σ (.ref p))) (hd : ∀ D acc L, I n acc L → Go T (pt D (.lst acc) :: L) fun H => Q (.ref D) H) :
    Go T L fun H => LcG J g tt te vs σ Q H := fun H t s D hD =>
  lc_it w (LcPv T D I) ⟨[], L, h0, Tabs.new t hD, s.new hD rfl fun _ e => e⟩ (fun i H _ ⟨acc, L, h, t, s⟩ => hG i acc L h H s.tail) (fun i v H H' hi ⟨acc, L, hh, t, s⟩ yy => by
    obtain ⟨q, x, y, rfl, e1, rfl, hx, hy⟩ := yy
    exact hs D i x y q acc L hi hx hy hh _ (Tabs.new t e1) (s.new e1 rfl fun _ e => e)) (fun H ⟨acc, L, h, t, s⟩ => hd D acc L h H t s)
/-! ### the readings of what is walked -/
def lRev (K : PySem.W.Frag) (R : It → Hp → Prop) (v : V) (H1 : Hp) : Prop := ∃ (a : Addr) (xs : List V), v = .ref a ∧ ((SqL K H1 a xs ∧ R (Itv K a xs.length) H1) ∨ (SqT K H1 a xs ∧ R (RT.ItvT K a xs.length) H1))
theorem g_iRevE (k : Go T L fun H => te σ H (lRev K R)) : Go T L fun H => RT.iRevA K te σ H R := k
theorem g_iRevL (pk : Pick L (pt a (.lst xs)) A) (k : Go T L fun H => R (Itv K a xs.length) H) : Go T L fun H => lRev K R (.ref a) H := fun H t s => ⟨a, xs, rfl, .inl ⟨SqL.of (pk.at s), k H t s⟩⟩
theorem g_iRevT (pk : Pick L (pt a (.tup xs)) A) (k : Go T L fun H => R (RT.ItvT K a xs.length) H) : Go T L fun H => lRev K R (.ref a) H := fun H t s => ⟨a, xs, rfl, .inr ⟨SqT.of (pk.at s), k H t s⟩⟩
def lZip (K : PySem.W.Frag) (R : It → Hp → Prop) (us : List V) (H1 : Hp) : Prop := ∃ a b xs ys, us = [.ref a, .ref b] ∧ ((SqL K H1 a xs ∧ SqL K H1 b ys ∧ R (Itz K a b) H1) ∨ (SqT K H1 a xs ∧ SqT K H1 b ys ∧ R (RZ.ItzT K a b) H1))
theorem g_iZipE (k : Go T L fun H => tr σ H (lZip K R)) : Go T L fun H => RZ.iZipA K tr σ H R := k
theorem g_iZipL (p1 : Pick L (pt a (.lst xs)) A) (p2 : Pick L (pt b (.lst ys)) B) (k : Go T L fun H => R (Itz K a b) H) : Go T L fun H => lZip K R [.ref a, .ref b] H := fun H t s => ⟨a, b, xs, ys, rfl, .inl ⟨SqL.of (p1.at s), SqL.of (p2.at s), k H t s⟩⟩
theorem g_iZipT (p1 : Pick L (pt a (.tup xs)) A) (p2 : Pick L (pt b (.tup ys)) B) (k : Go T L fun H => R (RZ.ItzT K a b) H) : Go T L fun H => lZip K R [.ref a, .ref b] H := fun H t s => ⟨a, b, xs, ys, rfl, .inr ⟨SqT.of (p1.at s), SqT.of (p2.at s), k H t s⟩⟩
def lEnum (K : PySem.W.Frag) (R : It → Hp → Prop) (us : List V) (H1 : Hp) : Prop := ∃ a xs, us = [.ref a] ∧ SqL K H1 a xs ∧ R (Ite K a) H1
theorem g_iEnumE (k : Go T L fun H => tr σ H (lEnum K R)) : Go T L fun H => iEnum K tr σ H R := k
theorem g_iEnum (pk : Pick L (pt a (.lst xs)) A) (k : Go T L fun H => R (Ite K a) H) : Go T L fun H => lEnum K R [.ref a] H := fun H t s => ⟨a, xs, rfl, SqL.of (pk.at s), k H t s⟩
theorem yAt_ok : ∀ (i : Nat) (H : Hp) (x : V) (H' : Hp), YAt xs i H x H' → H' = H ∧ xs[i]? = some x := fun _ _ _ _ h => h
theorem id_ok {Pm : Nat → V → Prop} : ∀ (i : Nat) (H : Hp) (x : V) (H' : Hp), (H' = H ∧ Pm i x) → H' = H ∧ Pm i x := fun _ _ _ _ h => h
/-- zip of two lists of mapped things, each turn's value by f, the chunks as they were -/
def IZ {α β : Type} (us : List α) (ws : List β) (f : α → β → V) (L0 : List HP) : CI := fun j acc L => acc = ((us.zip ws).take j).map (fun q => f q.1 q.2) ∧ Ent L L0
theorem zip_at {α β : Type} {us : List α} {ws : List β} {gx : α → V} {gy : β → V} {i : Nat} {x y : V} (h1 : (us.map gx)[i]? = some x) (h2 : (ws.map gy)[i]? = some y) : ∃ u w, us[i]? = some u ∧ ws[i]? = some w ∧ x = gx u ∧ y = gy w ∧ (us.zip ws)[i]? = some (u, w) := by
  rw [List.getElem?_map] at h1 h2
  obtain ⟨u, hu, rfl⟩ := Option.map_eq_some_iff.mp h1
  obtain ⟨w, hw, rfl⟩ := Option.map_eq_some_iff.mp h2
  exact ⟨u, w, hu, hw, rfl, rfl, by rw [List.getElem?_zip_eq_some]; exact ⟨hu, hw⟩⟩
theorem g_lcZ {α β : Type} {us : List α} {ws : List β} {gx : α → V} {gy : β → V} (f : α → β → V) (w : Walk J (min us.length ws.length) G (YPair (fun i => (us.map gx)[i]?) (fun i => (ws.map gy)[i]?))) (h0 : Ent L L0) (hG : ∀ H, Seps L0 H → G H)
    (hs : ∀ D i u z p, us[i]? = some u → ws[i]? = some z → (us.zip ws)[i]? = some (u, z) → Go T (pt p (.tup [gx u, gy z]) :: pt D (.lst (((us.zip ws).take i).map (fun q => f q.1 q.2))) :: L0) (LcTurn T D (IZ us ws f L0) i g tt te vs σ (.ref p)))
    (hd : ∀ D, Go T (pt D (.lst ((us.zip ws).map (fun q => f q.1 q.2))) :: L0) fun H => Q (.ref D) H) : Go T L fun H => LcG J g tt te vs σ Q H :=
  g_lcP w (IZ us ws f L0) ⟨rfl, h0⟩ (fun i acc L h H s => hG H (h.2 H s)) (fun D i x y p acc L hi h1 h2 h => by
    obtain ⟨rfl, e⟩ := h
    obtain ⟨u, z, h3, h4, rfl, rfl, h5⟩ := zip_at h1 h2
    exact (hs D i u z p h3 h4 h5).ent (ent_tail (ent_tail e))) (fun D acc L h => by
    obtain ⟨rfl, e⟩ := h
    rw [List.take_of_length_le (by rw [List.length_zip]; exact Nat.le_refl _)]
    exact (hd D).ent (ent_tail e))
theorem g_lcPutZ {α β : Type} {us : List α} {ws : List β} {f : α → β → V} {u : α} {z : β} {D : Addr} {i : Nat} (hu : (us.zip ws)[i]? = some (u, z)) (pk : Pick L (pt D (.lst (((us.zip ws).take i).map (fun q => f q.1 q.2)))) A) (hl : us.length < sizeLine) (hy : y = f u z) (e : Ent A L0) : Go T L fun H => LcAdd T D (IZ us ws f L0) (i + 1) y H :=
  g_lcAdd pk (by rw [List.length_map, List.length_take, List.length_zip]; omega) ⟨by rw [hy, List.take_add_one, hu, List.map_append]; rfl, e⟩
/-- a comprehension over a tuple of mapped things -/
theorem g_lcMt {α : Type} {us : List α} {gx : α → V} (f : α → V) (h0 : Ent L L0) (pk : Pick L0 (pt a (.tup (us.map gx))) A) (hs : ∀ D i u, us[i]? = some u → Go T (pt D (.lst ((us.take i).map f)) :: L0) (LcTurn T D (IM us f L0) i g tt te vs σ (gx u)))
    (hd : ∀ D, Go T (pt D (.lst (us.map f)) :: L0) fun H => Q (.ref D) H) : Go T L fun H => LcG (Itt K a) g tt te vs σ Q H :=
  g_lcT (IM us f L0) ⟨rfl, h0⟩ (fun i acc L h => h.2.has pk) (fun D i x acc L hx h => by
    obtain ⟨rfl, e⟩ := h
    rw [List.getElem?_map] at hx
    obtain ⟨u, hu, rfl⟩ := Option.map_eq_some_iff.mp hx
    exact (hs D i u hu).ent (ent_tail e)) (fun D acc L h => by
    obtain ⟨rfl, e⟩ := h
    rw [List.length_map, List.take_length]
    exact (hd D).ent (ent_tail e))
/-! ### dict comprehensions -/
abbrev DI := Nat → List (Key × V) → List HP → Prop
section
variable {tk tv : TE} {kvs : List (Key × V)} {D : Addr}
def DcPv (T : List (Addr × Str)) (D : Addr) (I : DI) (i : Nat) : Hp → Prop := fun H => ∃ kvs L, I i kvs L ∧ LamX.Tabs T H ∧ Seps (pt D (.dK kvs) :: L) H
def DcPut (T : List (Addr × Str)) (D : Addr) (I : DI) (i : Nat) (y z : V) : Hp → Prop := fun H5 => ∃ kvs k, y = kV k ∧ H5 D = some (.dK kvs) ∧ kvs.length < sizeLine ∧ DcPv T D I i (upd H5 D (.dK (putK kvs k z)))
def DcTurn (T : List (Addr × Str)) (D : Addr) (I : DI) (i : Nat) (g : TG) (tt : TT) (tk tv : TE) (vs : List Nat) (σ : L2.St) (x : V) : Hp → Prop := fun H =>
  g x (wipe σ vs) H fun σ2 H2 => wipe σ2 vs = wipe σ vs ∧ tt σ2 H2 fun b H3 => if b = true then tk σ2 H3 fun y H4 => tv σ2 H4 fun z H5 => DcPut T D I (i + 1) y z H5 else DcPv T D I (i + 1) H3
def DcG (J : It) (g : TG) (tt : TT) (tk tv : TE) (vs : List Nat) (σ : L2.St) (Q : VK) (H1 : Hp) : Prop := ∀ D, H1 D = none → ∃ W : Nat → Nat → Hp → Prop, (∃ m, W 0 m (upd H1 D (.dK []))) ∧ ∀ i m H, W i m H →
  (J.stop i H ∧ Q (.ref D) H) ∨ (J.go i H ∧ ∃ Nx : Hp → Prop, (∀ H', Nx H' → ∃ m', m' < m ∧ W (i + 1) m' H') ∧ ∀ x H', J.yld i H x H' → g x (wipe σ vs) H' fun σ2 H2 => wipe σ2 vs = wipe σ vs ∧ tt σ2 H2 fun b H3 =>
    if b = true then tk σ2 H3 fun y H4 => tv σ2 H4 fun z H5 => ∃ kvs k, y = kV k ∧ H5 D = some (.dK kvs) ∧ kvs.length < sizeLine ∧ Nx (upd H5 D (.dK (putK kvs k z))) else Nx H3)
theorem g_dcE {wi : TI} (k : Go T L fun H => wi σ H fun J H1 => DcG J g tt tk tv vs σ Q H1) : Go T L fun H => tDc wi g tt tk tv vs σ H Q := k
theorem g_dcW {Pm : Nat → V → Prop} (w : Walk J n G Y) (hy : ∀ i H x H', Y i H x H' → H' = H ∧ Pm i x) (I : DI) (h0 : I 0 [] L) (hG : ∀ i kvs L, I i kvs L → ∀ H, Seps L H → G H)
    (hs : ∀ D i x kvs L, i < n → Pm i x → I i kvs L → Go T (pt D (.dK kvs) :: L) (DcTurn T D I i g tt tk tv vs σ x)) (hd : ∀ D kvs L, I n kvs L → Go T (pt D (.dK kvs) :: L) fun H => Q (.ref D) H) :
    Go T L fun H => DcG J g tt tk tv vs σ Q H := fun H t s D hD => by
  refine ⟨fun i m H => m = n - i ∧ i ≤ n ∧ DcPv T D I i H, ⟨n, by simp, Nat.zero_le _, [], L, h0, Tabs.new t hD, s.new hD rfl fun _ e => e⟩, ?_⟩
  rintro i m H ⟨rfl, hi, p⟩
  obtain ⟨kvs, L, h, t, s⟩ := _root_.id p
  have q := hG i kvs L h H s.tail
  by_cases hlt : i < n
  · refine .inr ⟨w.goes i H hlt q, DcPv T D I (i + 1), fun H' p' => ⟨n - (i + 1), by omega, rfl, hlt, p'⟩, fun x H' y => ?_⟩
    obtain ⟨e, hx⟩ := hy _ _ _ _ (w.yields i H x H' hlt q y)
    rw [e]
    exact hs D i x kvs L hlt hx h H t s
  · have e : i = n := by omega
    subst e
    exact .inl ⟨w.stops H q, hd D kvs L h H t s⟩
theorem g_dturn {I : DI} {i : Nat} (k : Go T L fun H => g x (wipe σ vs) H fun σ2 H2 => wipe σ2 vs = wipe σ vs ∧ tt σ2 H2 fun b H3 => if b = true then tk σ2 H3 fun y H4 => tv σ2 H4 fun z H5 => DcPut T D I (i + 1) y z H5 else DcPv T D I (i + 1) H3) : Go T L (DcTurn T D I i g tt tk tv vs σ x) := k
theorem g_dcPut {I : DI} {i : Nat} {k : Key} {z : V} (pk : Pick L (pt D (.dK kvs)) A) (hl : kvs.length < sizeLine) (hk : y = kV k) (h : I i (putK kvs k z) A) : Go T L fun H => DcPut T D I i y z H := fun H t s =>
  ⟨kvs, k, hk, pk.at s, hl, (go_wr (P' := pt D (.dK (putK kvs k z))) (Q := DcPv T D I i) pk rfl (fun h e => ⟨_, e, rfl, upd_same⟩) fun H t s => ⟨_, _, h, t, s⟩) H t s⟩
end
end
end Dh
namespace Dh
open PySem PySem.Spec PyProof.Rows L2
/-! ### dicts that are sets of keys -/
def keyD (ks : List Key) : List (Key × V) := ks.map fun k => (k, .bl true)
def hasK (ks : List Key) (k : Key) : Bool := ks.any fun x => decide (x = k)
theorem hasK_iff {ks : List Key} {k : Key} : hasK ks k = true ↔ k ∈ ks := by simp [hasK]
def addK (ks : List Key) (k : Key) : List Key := if hasK ks k = true then ks else ks ++ [k]
theorem keyD_in (k : Key) : ∀ ks : List Key, (valV (keyD ks) k).isSome = hasK ks k
  | [] => rfl
  | x :: ks => by
    have ih := keyD_in k ks
    rw [keyD] at ih
    by_cases h : x = k
    · subst h
      rw [keyD, List.map_cons, valV_pos rfl]
      simp [hasK]
    · rw [keyD, List.map_cons, valV_neg (by simpa using h), ih]
      simp [hasK, h]
theorem keyD_put {ks : List Key} {k : Key} : putK (keyD ks) k (.bl true) = keyD (addK ks k) := by
  unfold putK addK
  rw [valV_any, keyD_in]
  by_cases h : hasK ks k = true
  · rw [if_pos h, if_pos h]
    unfold keyD
    rw [List.map_map]
    refine List.map_congr_left fun x _ => ?_
    show (if x = k then ((x, V.bl true) : Key × V) else (x, .bl true)) = (x, .bl true)
    split <;> rfl
  · rw [if_neg h, if_neg h]
    unfold keyD
    simp
theorem keyD_len {ks : List Key} : (keyD ks).length = ks.length := List.length_map _
theorem addK_len {ks : List Key} {k : Key} : (addK ks k).length ≤ ks.length + 1 := by
  unfold addK
  split
  · exact Nat.le_succ _
  · rw [List.length_append]; exact Nat.le_refl _
end Dh

/-! The layer Dh, part H: from what the head tells to what the walk takes. -/
namespace Dh
open PySem PySem.Spec PyProof.Rows L2
section
variable {P : Program} {w : World} {K : PySem.W.Frag} {mg : Str → Option Value} {base h : Heap} {x qual m : Str} {st : Stmt} {f C : Addr} {fd : FuncData} {ps : List Str} {k : Nat} {sp : Sp}
abbrev FunX (K : PySem.W.Frag) (x qual : Str) (st : Stmt) (f : Addr) (fd : FuncData) : Prop := FunD K x qual (defArgs st) (defBody st) (defScope st) [] [] f fd
def dd (at_ : Str × Option Str) (x qual : Str) (st : Stmt) : He.DefD := ⟨at_, x, qual, defArgs st, defBody st, defScope st, [], []⟩
theorem FunX.parts (F : FunX K x qual st f fd) : ∃ (oc : Value) (od : Option Addr) (kV doc pm : Value) (an : Option Addr) (cdv ct : Value) (osl : Array (Option Value)),
    fd = PySem.W.fnOf x qual (defArgs st) (defBody st) (defScope st) .none kV doc pm an cdv ct ∧ K.lookup f = some ⟨oc, od, .func fd, osl⟩ ∧ PySem.W.codeIn K cdv qual = true := by
  obtain ⟨oc, od, dV, kV, doc, pm, an, cdv, ct, osl, e, lk, hcd, hD, _⟩ := F.ex
  rcases hD with ⟨_, rfl⟩ | ⟨z, _⟩
  · exact ⟨oc, od, kV, doc, pm, an, cdv, ct, osl, e, lk, hcd⟩
  · exact absurd rfl z
theorem FunX.c (F : FunX K x qual st f fd) : ∃ cdv, FunC K x qual st f fd cdv := by
  obtain ⟨oc, od, kV, doc, pm, an, cdv, ct, osl, e, lk, hcd⟩ := F.parts
  exact ⟨cdv, oc, od, kV, doc, pm, an, ct, osl, e, lk, hcd⟩
theorem FunX.r {p : Str × Option Str} (F : FunX K x qual st (He.fAd K p) fd) : FunC K x qual st (He.fAd K p) fd (.ref (He.cT K p).1) := by
  obtain ⟨oc, od, kV, doc, pm, an, cdv, ct, osl, e, lk, hcd⟩ := F.parts
  obtain ⟨c, rfl⟩ := He.codeIn_ref hcd
  have ec : (He.cT K p).1 = c := He.codeOf_eq lk (by rw [e])
  rw [ec]
  exact ⟨oc, od, kV, doc, pm, an, ct, osl, e, lk, hcd⟩
theorem FunX.told (F : FunX K x x st f fd) (hm : mg x = some (.ref f)) : ToldX K mg x st f := by
  obtain ⟨oc, od, kV, doc, pm, an, cdv, ct, osl, rfl, lk, hcd⟩ := F.parts
  exact ⟨⟨oc, od, kV, doc, pm, an, cdv, ct, osl, lk, hcd⟩, hm, F.kp⟩
theorem cal_of (F : FunX K x x st f fd) (ok : FnOk P w K mg base (L2.CX P w) k f fd ps sp) (hm : mg x = some (.ref f)) (b : Binds K fd ps []) : CalX P w K mg base k x sp := ⟨f, fd, ps, ok, hm, F.kp, b⟩
theorem met_of (ok : FnOk P w K mg base (L2.CX P w) k f fd ps sp) (c : Cls K C) (hm : Meth K C m f) (b : Binds K fd ps []) : MetX P w K mg base k C m sp := ⟨f, fd, ps, c, hm, ok, b⟩
theorem mak_of (ok : FnOk P w K mg base (L2.CX P w) k f fd ps sp) (hk : Mk K C f) (hm : mg x = some (.ref C)) (b : Binds K fd ps []) : MakX P w K mg base k x C sp := ⟨f, fd, ps, hk, ok, hm, b⟩
theorem exc_of (X : K.In h) (G : h.Ns mainGlobals mg) (c : (He.Fa.exc x).ok K = true) (g : (He.Fa.glo x).ok K = true) : ExcX K mg x (He.ga K x) := by
  obtain ⟨h1, h2, h3, h4⟩ := He.exc_ok c
  exact ⟨He.glo_ok X G g, h1, h2, h3, h4⟩
end
/-- the tables of the defs tf, and what their lambdas are called -/
def tabs (K : PySem.W.Frag) (tf : List He.Defn) : List (Addr × Str) := tf.map fun p => ((He.cT K p).2, lamQ (locQ (match p.2 with
  | none => p.1
  | some m => p.1 ++ "." ++ m)))
def apart : List Addr → Bool
  | [] => true
  | a :: r => !r.contains a && apart r
def apartB (tf : List He.Defn) (K : PySem.W.Frag) : Bool := apart (tf.map fun p => (He.cT K p).2)
theorem apart_in {α : Type} {f : α → Addr} {g : α → Str} : ∀ {l : List α}, apart (l.map f) = true → ∀ x ∈ l, ∀ p ∈ l.map fun y => (f y, g y), p.1 = f x → p.2 = g x
  | [], _, x, hx, _, _, _ => by cases hx
  | a :: r, h, x, hx, p, hp, e => by
    rw [List.map_cons, apart, Bool.and_eq_true, Bool.not_eq_true', List.contains_eq_mem, decide_eq_false_iff_not] at h
    rw [List.map_cons] at hp
    rcases List.mem_cons.mp hp with rfl | hp2
    · rcases List.mem_cons.mp hx with rfl | hx2
      · rfl
      · exact absurd (List.mem_map.mpr ⟨x, hx2, e.symm⟩) h.1
    · rcases List.mem_cons.mp hx with rfl | hx2
      · obtain ⟨y, hy, rfl⟩ := List.mem_map.mp hp2
        exact absurd (List.mem_map.mpr ⟨y, hy, e⟩) h.1
      · exact apart_in h.2 x hx2 p hp2 e
theorem tabs_mem {K : PySem.W.Frag} {tf : List He.Defn} {p : He.Defn} (hp : p ∈ tf) : ((He.cT K p).2, lamQ (locQ (match p.2 with
  | none => p.1
  | some m => p.1 ++ "." ++ m))) ∈ tabs K tf := List.mem_map.mpr ⟨p, hp, rfl⟩
theorem tabs_one {K : PySem.W.Frag} {tf : List He.Defn} {p : He.Defn} (h : apartB tf K = true) (hp : p ∈ tf) : ∀ q ∈ tabs K tf, q.1 = (He.cT K p).2 → q.2 = lamQ (locQ (match p.2 with
  | none => p.1
  | some m => p.1 ++ "." ++ m)) := fun q hq e => apart_in (f := fun p => (He.cT K p).2) (g := fun p : He.Defn => lamQ (locQ (match p.2 with
  | none => p.1
  | some m => p.1 ++ "." ++ m))) h p hp q hq e
theorem tabs_empty {K : PySem.W.Frag} {tf : List He.Defn} {H : Hp} (h : ∀ p ∈ tf.map (He.cT K), H p.2 = some (.tbl #[])) : LamX.Tabs (tabs K tf) H := tabs_nil fun q hq => by
  obtain ⟨p, hp, rfl⟩ := List.mem_map.mp hq
  exact h _ (List.mem_map.mpr ⟨p, hp, rfl⟩)
end Dh

section
local macro_rules | `(tactic| walk_at "pk") => `(tactic| (with_reducible first | exact Dh.pick_here | (refine' Dh.pick_there ?p; (case p => walk_at "pk"))))
local macro_rules | `(tactic| walk_at "ent") => `(tactic| first | (with_reducible exact Dh.ent_refl) | (with_reducible exact Dh.ent_nil) | (refine' Dh.ent_cons ?q0 ?k; (case q0 => walk_at "pk"); (case k => walk_at "ent")) | (refine' Dh.ent_drop ?k; (case k => walk_at "ent")))
local macro_rules | `(tactic| walk_at "side") => `(tactic| first | (with_reducible assumption) | omega | decide | (exact Or.inl rfl) | (exact Or.inr rfl) | (exact Dh.log2_ok (by omega)) | (simp only [L2.CMul, L2.CDiv, L2.CDivN]; omega) | (unfold L2.CPow; decide) | (simp only [List.length_cons, List.length_nil, List.length_append, List.length_map, List.length_range, List.length_replicate, List.length_set, List.length_take, List.length_drop, PySem.sizeLine_eq] <;> omega))
local macro_rules | `(tactic| walk_at "dvp") => `(tactic| (with_reducible first | exact Dh.DV.int | exact Dh.DV.str | exact Dh.DV.bl | exact Dh.DV.non | exact Dh.DVs.nil | (refine' Dh.Pick.dvs ?a (by assumption); (case a => walk_at "pk")) | (refine' Dh.Pick.dv ?a (by assumption); (case a => walk_at "pk")) | (refine' Dh.DVs.cons ?a ?b; (case a => walk_at "dvp"); (case b => walk_at "dvp")) | (refine' Dh.DVs.app ?a ?b; (case a => walk_at "dvp"); (case b => walk_at "dvp")) | (refine' Dh.Pick.tup ?a (by assumption) ?b; (case a => walk_at "pk"); (case b => walk_at "dvp")) | (refine' Dh.DVs.take _ ?a; (case a => walk_at "dvp")) | (refine' Dh.DVs.drop _ ?a; (case a => walk_at "dvp")) | (refine' Dh.DVs.set _ ?a ?b; (case a => walk_at "dvp"); (case b => walk_at "dvp"))))
local macro_rules | `(tactic| walk_at "ixs") => `(tactic| first | assumption | omega | (simp only [List.length_set, List.length_map, List.length_cons, List.length_nil, List.length_append, List.length_replicate] <;> first | assumption | omega))
local macro_rules | `(tactic| walk_at "lk") => `(tactic| first | rfl | assumption | (exact Dh.ixN_lt (by walk_at "ixs")) | (exact Dh.atI_lt (by assumption)) | (exact Dh.atI_map (by assumption)) )
local macro_rules | `(tactic| walk_at "kt") => `(tactic| assumption)
local macro_rules | `(tactic| walk_at "pf") => `(tactic| first  | rfl)
local macro_rules | `(tactic| walk_at "ln") => `(tactic| first  | decide | (simp only [List.length_cons, List.length_nil] <;> omega))
local macro_rules | `(tactic| walk_at "hasm") => `(tactic| first | (refine' Dh.hasM_ob ?q0 ?q1; (case q0 => walk_at "pk"); (case q1 => walk_at "lk")))
local macro_rules | `(tactic| walk_at "vcp0") => `(tactic| first | ((with_reducible refine' Dh.g_seq ?k)) | ((with_reducible refine' Dh.g_next ?k)) | ((with_reducible refine' Dh.g_nonA ?k)) | ((with_reducible refine' Dh.g_var ?q0 ?k); (case q0 => rfl)) | ((with_reducible refine' Dh.g_c ?k)) | ((with_reducible refine' Dh.g_op ?k)) | ((with_reducible refine' Dh.g_asg ?k)) | ((with_reducible refine' Dh.g_name ?k)) | ((with_reducible refine' Dh.g_ifS ?k)) | ((with_reducible refine' Dh.g_test ?k)) | ((with_reducible refine' Dh.g_isB ?k)) | ((with_reducible refine' Dh.g_B ?k)) | ((with_reducible refine' Dh.g_ret ?k)) | ((with_reducible refine' Dh.g_retN ?k)) | ((with_reducible refine' Dh.g_drop ?k)) | ((with_reducible refine' Dh.g_brk ?k)) | ((with_reducible refine' Dh.g_cont ?k)) | ((with_reducible refine' Dh.g_un ?k)) | ((with_reducible refine' Dh.g_I0 ?k)) | ((with_reducible refine' Dh.g_addI ?k)) | ((with_reducible refine' Dh.g_addB ?k)) | ((with_reducible refine' Dh.g_addS ?q0 ?k); (case q0 => walk_at "side")) | ((with_reducible refine' Dh.g_addM ?q0 ?q1 ?q2 ?k); (case q0 => walk_at "pk"); (case q1 => walk_at "pk"); (case q2 => walk_at "side"); intro _) | ((with_reducible refine' Dh.g_addL ?q0 ?q1 ?q2 ?k); (case q0 => walk_at "pk"); (case q1 => walk_at "pk"); (case q2 => walk_at "side"); intro _))
local macro_rules | `(tactic| walk_at "vcp1") => `(tactic| first | ((with_reducible refine' Dh.g_I ?q0 ?k); (case q0 => walk_at "side")) | ((with_reducible refine' Dh.g_mulI ?q0 ?k); (case q0 => walk_at "side")) | ((with_reducible refine' Dh.g_U ?k)) | ((with_reducible refine' Dh.g_eqS ?q0 ?k); (case q0 => rfl)) | ((with_reducible refine' Dh.g_neS ?q0 ?k); (case q0 => rfl)) | ((with_reducible refine' Dh.g_eqLL ?q0 ?q1 ?k); (case q0 => walk_at "pk"); (case q1 => walk_at "pk")) | ((with_reducible refine' Dh.g_neLL ?q0 ?q1 ?k); (case q0 => walk_at "pk"); (case q1 => walk_at "pk")) | ((with_reducible refine' Dh.g_eqL0 ?q0 ?q1 ?k); (case q0 => walk_at "pk"); (case q1 => walk_at "pk")) | ((with_reducible refine' Dh.g_neL0 ?q0 ?q1 ?k); (case q0 => walk_at "pk"); (case q1 => walk_at "pk")) | ((with_reducible refine' Dh.g_neT0 ?q0 ?q1 ?q2 ?k); (case q0 => walk_at "pk"); (case q1 => walk_at "pk"); (case q2 => walk_at "pk")) | ((with_reducible refine' Dh.g_neP ?q0 ?q1 ?k); (case q0 => walk_at "pk"); (case q1 => walk_at "pk")) | ((with_reducible refine' Dh.g_inI ?q0 ?k); (case q0 => walk_at "pk")) | ((with_reducible refine' Dh.g_isN ?k)) | ((with_reducible refine' Dh.g_notN ?k)) | ((with_reducible refine' Dh.g_ixL ?q0 ?q1 ?k); (case q0 => walk_at "pk"); (case q1 => walk_at "lk")) | ((with_reducible refine' Dh.g_ixT ?q0 ?q1 ?k); (case q0 => walk_at "pk"); (case q1 => walk_at "lk")) | ((with_reducible refine' Dh.g_sl ?k)) | ((with_reducible refine' Dh.g_noPart ?k)) | ((with_reducible refine' Dh.g_part ?k)) | ((with_reducible refine' Dh.g_isSomeInt ?k)) | ((with_reducible refine' Dh.g_slTk ?q0 ?k); (case q0 => walk_at "pk"); intro _) | ((with_reducible refine' Dh.g_slDr ?q0 ?k); (case q0 => walk_at "pk"); intro _) | ((with_reducible refine' Dh.g_slL ?q0 ?k); (case q0 => walk_at "pk"); intro _) | ((with_reducible refine' Dh.g_slQTk ?q0 ?k); (case q0 => walk_at "pk"); intro _))
local macro_rules | `(tactic| walk_at "vcp2") => `(tactic| first | ((with_reducible refine' Dh.g_slQ ?q0 ?k); (case q0 => walk_at "pk"); intro _) | ((with_reducible refine' Dh.g_fldE ?k)) | ((with_reducible refine' Dh.g_fld ?q0 ?q1 ?k); (case q0 => walk_at "pk"); (case q1 => walk_at "lk")) | ((with_reducible refine' Dh.g_tup ?k)) | ((with_reducible refine' Dh.g_lst ?k)) | ((with_reducible refine' Dh.g_newT ?q0 ?k); (case q0 => walk_at "side"); intro _) | ((with_reducible refine' Dh.g_newL ?q0 ?k); (case q0 => walk_at "side"); intro _) | ((with_reducible refine' Dh.g_nil ?k)) | ((with_reducible refine' Dh.g_cons ?k)) | ((with_reducible refine' Dh.g_call ?k)) | ((with_reducible refine' Dh.g_methE ?k)) | ((with_reducible refine' Dh.g_meth ?q0 ?k); (case q0 => walk_at "hasm")) | ((with_reducible refine' Dh.g_make ?k)) | ((with_reducible refine' Dh.g_made ?k); intro _) | ((with_reducible refine' Dh.g_cb ?k)) | ((with_reducible refine' Dh.g_int ?k)) | ((with_reducible refine' Dh.g_intB ?k)) | ((with_reducible refine' Dh.g_abs ?k)) | ((with_reducible refine' Dh.g_max2 ?k)) | ((with_reducible refine' Dh.g_min2 ?k)) | ((with_reducible refine' Dh.g_strI ?q0 ?k); (case q0 => walk_at "side")) | ((with_reducible refine' Dh.g_lenL ?q0 ?k); (case q0 => walk_at "pk")) | ((with_reducible refine' Dh.g_lenT ?q0 ?k); (case q0 => walk_at "pk")) | ((with_reducible refine' Dh.g_lenD ?q0 ?k); (case q0 => walk_at "pk")))
local macro_rules | `(tactic| walk_at "vcp3") => `(tactic| first | ((with_reducible refine' Dh.g_listL ?q0 ?k); (case q0 => walk_at "pk"); intro _) | ((with_reducible refine' Dh.g_listT ?q0 ?k); (case q0 => walk_at "pk"); intro _) | ((with_reducible refine' Dh.g_tupL ?q0 ?k); (case q0 => walk_at "pk"); intro _) | ((with_reducible refine' Dh.g_tupT ?q0 ?k); (case q0 => walk_at "pk")) | ((with_reducible refine' Dh.g_pop0 ?q0 ?k); (case q0 => walk_at "pk")) | ((with_reducible refine' Dh.g_bm ?k)) | ((with_reducible refine' Dh.g_bm0 ?k)) | ((with_reducible refine' Dh.g_tyL ?q0 ?k); (case q0 => walk_at "pk")) | ((with_reducible refine' Dh.g_append ?q0 ?q1 ?k); (case q0 => walk_at "pk"); (case q1 => walk_at "side")) | ((with_reducible refine' Dh.g_rep ?q0 ?q1 ?q2 ?q3 ?k); (case q0 => walk_at "pk"); (case q1 => walk_at "side"); (case q2 => walk_at "side"); (case q3 => walk_at "side"); intro _) | ((with_reducible refine' Dh.g_not ?k)) | ((with_reducible refine' Dh.g_tand ?k)) | ((with_reducible refine' Dh.g_tor ?k)) | ((with_reducible refine' Dh.g_andV ?k)) | ((with_reducible refine' Dh.g_orV ?k)) | ((with_reducible refine' Dh.g_notV ?k)) | ((with_reducible refine' Dh.g_ifE ?k)) | ((with_reducible refine' Dh.g_chain ?k)) | ((with_reducible refine' Dh.g_tru ?k)) | ((with_reducible refine' Dh.g_truB ?k)) | ((with_reducible refine' Dh.g_truI ?k)) | ((with_reducible refine' Dh.g_truN ?k)) | ((with_reducible refine' Dh.g_truL ?q0 ?k); (case q0 => walk_at "pk")) | ((with_reducible refine' Dh.g_gsub ?k)))
local macro_rules | `(tactic| walk_at "vcp4") => `(tactic| first | ((with_reducible refine' Dh.g_setM ?q0 ?q1 ?k); (case q0 => walk_at "pk"); (case q1 => walk_at "lk")) | ((with_reducible refine' Dh.g_setL ?q0 ?q1 ?k); (case q0 => walk_at "pk"); (case q1 => walk_at "lk")) | ((with_reducible refine' Dh.g_gtup ?q0 ?q1 ?k); (case q0 => walk_at "pk"); (case q1 => rfl)) | ((with_reducible refine' Dh.g_gnil ?k)) | ((with_reducible refine' Dh.g_gcons ?k)) | ((with_reducible refine' Dh.g_par ?k)) | ((with_reducible refine' Dh.g_par2 ?k)) | ((with_reducible refine' Dh.g_par3 ?k)) | ((with_reducible refine' Dh.g_par3b ?k)) | ((with_reducible refine' Dh.g_listRg ?k)) | ((with_reducible refine' Dh.g_rg1E ?k)) | ((with_reducible refine' Dh.g_rg1 ?k)) | ((with_reducible refine' Dh.g_rgN ?q0 ?k); (case q0 => walk_at "side"); intro _) | ((with_reducible refine' Dh.g_rgL ?q0 ?k); (case q0 => walk_at "side"); intro _) | ((with_reducible refine' Dh.g_dinE ?k)) | ((with_reducible refine' Dh.g_dinI ?q0 ?k); (case q0 => walk_at "pk")) | ((with_reducible refine' Dh.g_dnotinE ?k)) | ((with_reducible refine' Dh.g_dnotinI ?q0 ?k); (case q0 => walk_at "pk")) | ((with_reducible refine' Dh.g_dgetE ?k)) | ((with_reducible refine' Dh.g_dgetI ?q0 ?q1 ?k); (case q0 => walk_at "pk"); (case q1 => walk_at "lk")) | ((with_reducible refine' Dh.g_dputE ?k)) | ((with_reducible refine' Dh.g_dputI ?q0 ?q1 ?k); (case q0 => walk_at "pk"); (case q1 => walk_at "side")) | ((with_reducible refine' Dh.g_dpopE ?k)) | ((with_reducible refine' Dh.g_dpopA ?q0 ?k); (case q0 => walk_at "pk")))
local macro_rules | `(tactic| walk_at "vcp5") => `(tactic| first | ((with_reducible refine' Dh.g_dpopB ?q0 ?q1 ?k); (case q0 => walk_at "pk"); (case q1 => walk_at "lk")) | ((with_reducible refine' Dh.g_dnew ?k); intro _) | ((with_reducible refine' Dh.g_ipMul ?q0 ?k); (case q0 => walk_at "side")) | ((with_reducible refine' Dh.g_sfldE ?k)) | ((with_reducible refine' Dh.g_sfld ?q0 ?q1 ?q2 ?k); (case q0 => walk_at "pk"); (case q1 => walk_at "pf"); (case q2 => walk_at "ln")) | ((with_reducible refine' Dh.g_augE ?k)) | ((with_reducible refine' Dh.g_augF ?q0 ?q1 ?k); (case q0 => walk_at "pk"); (case q1 => walk_at "lk")) | ((with_reducible refine' Dh.g_augV ?q0 ?k); (case q0 => rfl)) | ((with_reducible refine' Dh.g_ipI ?k)) | ((with_reducible refine' Dh.g_rAdd ?k)) | ((with_reducible refine' Dh.g_rSub ?k)) | ((with_reducible refine' Dh.g_for ?k)) | ((with_reducible refine' Dh.g_iRng1 ?k)) | ((with_reducible refine' Dh.g_iRng2 ?k)) | ((with_reducible refine' Dh.g_rng1 ?q0 ?q1 ?k); (case q0 => walk_at "side"); (case q1 => walk_at "side")) | ((with_reducible refine' Dh.g_rng2 ?q0 ?k); (case q0 => walk_at "side")) | ((with_reducible refine' Dh.g_iSeqE ?k)) | ((with_reducible refine' Dh.g_iSeqL ?q0 ?k); (case q0 => walk_at "pk")) | ((with_reducible refine' Dh.g_iSeqT ?q0 ?k); (case q0 => walk_at "pk")) | ((with_reducible refine' Dh.g_inK ?q0 ?k); (case q0 => walk_at "kt")) | ((with_reducible refine' Dh.g_notInK ?q0 ?k); (case q0 => walk_at "kt")) | ((with_reducible refine' Dh.g_isiII ?k)) | ((with_reducible refine' Dh.g_isiIB ?k)) | ((with_reducible refine' Dh.g_dinS ?q0 ?k); (case q0 => walk_at "pk")))
local macro_rules | `(tactic| walk_at "vcp6") => `(tactic| first | ((with_reducible refine' Dh.g_dnotinS ?q0 ?k); (case q0 => walk_at "pk")) | ((with_reducible refine' Dh.g_dgetS ?q0 ?q1 ?k); (case q0 => walk_at "pk"); (case q1 => walk_at "lk")) | ((with_reducible refine' Dh.g_dputS ?q0 ?q1 ?k); (case q0 => walk_at "pk"); (case q1 => walk_at "side")) | ((with_reducible refine' Dh.g_dpopS ?q0 ?q1 ?k); (case q0 => walk_at "pk"); (case q1 => walk_at "lk")) | ((with_reducible refine' Dh.g_iRevE ?k)) | ((with_reducible refine' Dh.g_iRevL ?q0 ?k); (case q0 => walk_at "pk")) | ((with_reducible refine' Dh.g_iRevT ?q0 ?k); (case q0 => walk_at "pk")) | ((with_reducible refine' Dh.g_iZipE ?k)) | ((with_reducible refine' Dh.g_iZipL ?q0 ?q1 ?k); (case q0 => walk_at "pk"); (case q1 => walk_at "pk")) | ((with_reducible refine' Dh.g_iZipT ?q0 ?q1 ?k); (case q0 => walk_at "pk"); (case q1 => walk_at "pk")) | ((with_reducible refine' Dh.g_iEnumE ?k)) | ((with_reducible refine' Dh.g_iEnum ?q0 ?k); (case q0 => walk_at "pk")) | ((with_reducible refine' Dh.g_dcE ?k)) | ((with_reducible refine' Dh.g_dturn ?k)) | ((with_reducible refine' Dh.g_sum ?q0 ?k); (case q0 => walk_at "pk")) | ((with_reducible refine' Dh.g_pop ?q0 ?q1 ?k); (case q0 => walk_at "pk"); (case q1 => walk_at "lk")) | ((with_reducible refine' Dh.g_wbody ?k)) | ((with_reducible refine' Dh.g_lcE ?k)) | ((with_reducible refine' Dh.g_turn ?k)) | ((with_reducible refine' Dh.g_tYes ?k)) | ((with_reducible refine' Dh.g_rs ?k)) | ((with_reducible refine' Dh.g_rsW ?k)) | ((with_reducible refine' Dh.g_told ?k)) | ((with_reducible refine' Dh.g_ifT ?q0 ?k); (case q0 => rfl)))
local macro_rules | `(tactic| walk_at "vcp7") => `(tactic| first | ((with_reducible refine' Dh.g_ifF ?q0 ?k); (case q0 => rfl)) | ((with_reducible refine' Dh.g_and ?q0 ?k); (case q0 => rfl)) | ((with_reducible refine' Dh.g_turn ?k)))
local macro_rules | `(tactic| walk_at "vc1") => `(tactic| first | walk_at "vcp0" | walk_at "vcp1" | walk_at "vcp2" | walk_at "vcp3" | walk_at "vcp4" | walk_at "vcp5" | walk_at "vcp6" | walk_at "vcp7" | walk_at "use1" | walk_at "told1")
local macro_rules | `(tactic| walk_at "vc") => `(tactic| repeat walk_at "vc1")
local macro_rules | `(tactic| walk_at "spl") => `(tactic| first | ((with_reducible refine Dh.g_ifD ?_ ?_) <;> intro _) | ((with_reducible refine Dh.g_ifN ?_ ?_) <;> intro _) | ((with_reducible refine Dh.g_if ?_ ?_) <;> intro _))
local macro_rules | `(tactic| walk_at "vcs") => `(tactic| repeat' (first | walk_at "vc1" | walk_at "spl"))
namespace Toy
open PySem L2
section
variable {P : Program} {w : World} {K : PySem.W.Frag} {mg : Str → Option Value} {base : Heap} {T : List (Addr × Str)} {C_Register C_BadWord C_BadPlace C_BadPlan C_NotDue C_Stuck C_BadBits C_BadText C_TooLarge g_told g_RULES : Addr}
def top (i : Nat) : Stmt := PySem.Challenge.pw_drivehall_k01_words_and_registers.main.body.getD i (.Pass ⟨0, 0, 0, 0⟩)
abbrev s_Register___init__ : Stmt := inClass (top 22) 0
abbrev N_Register___init__ : List Str := ["self", "wide", "fields", "used", "name", "low", "many", "rule", "k", "one"]
theorem sc_Register___init__ : FnScope N_Register___init__ ["self", "wide", "fields"] (defScope s_Register___init__) := ⟨rfl, rfl, rfl, by decide +kernel, rfl, by decide +kernel, by decide +kernel⟩
abbrev s_power : Stmt := top 13
abbrev N_power : List Str := ["count", "found", "k"]
theorem sc_power : FnScope N_power ["count"] (defScope s_power) := ⟨rfl, rfl, rfl, by decide +kernel, rfl, by decide +kernel, by decide +kernel⟩
abbrev s_check_word : Stmt := top 12
abbrev N_check_word : List Str := ["word", "wide"]
theorem sc_check_word : FnScope N_check_word ["word", "wide"] (defScope s_check_word) := ⟨rfl, rfl, rfl, by decide +kernel, rfl, by decide +kernel, by decide +kernel⟩
abbrev s_field : Stmt := top 14
abbrev N_field : List Str := ["word", "low", "wide"]
theorem sc_field : FnScope N_field ["word", "low", "wide"] (defScope s_field) := ⟨rfl, rfl, rfl, by decide +kernel, rfl, by decide +kernel, by decide +kernel⟩
abbrev s_with_field : Stmt := top 15
abbrev N_with_field : List Str := ["word", "low", "wide", "much"]
theorem sc_with_field : FnScope N_with_field ["word", "low", "wide", "much"] (defScope s_with_field) := ⟨rfl, rfl, rfl, by decide +kernel, rfl, by decide +kernel, by decide +kernel⟩
abbrev s_bits : Stmt := top 16
abbrev N_bits : List Str := ["word", "wide", "k"]
theorem sc_bits : FnScope N_bits ["word", "wide"] (defScope s_bits) := ⟨rfl, rfl, rfl, by decide +kernel, rfl, by decide +kernel, by decide +kernel⟩
abbrev s_of_bits : Stmt := top 17
abbrev N_of_bits : List Str := ["row", "found", "bit"]
theorem sc_of_bits : FnScope N_of_bits ["row"] (defScope s_of_bits) := ⟨rfl, rfl, rfl, by decide +kernel, rfl, by decide +kernel, by decide +kernel⟩
abbrev s_both : Stmt := top 18
abbrev N_both : List Str := ["one", "other", "wide", "a", "b"]
theorem sc_both : FnScope N_both ["one", "other", "wide"] (defScope s_both) := ⟨rfl, rfl, rfl, by decide +kernel, rfl, by decide +kernel, by decide +kernel⟩
abbrev s_either : Stmt := top 19
abbrev N_either : List Str := ["one", "other", "wide", "a", "b"]
theorem sc_either : FnScope N_either ["one", "other", "wide"] (defScope s_either) := ⟨rfl, rfl, rfl, by decide +kernel, rfl, by decide +kernel, by decide +kernel⟩
abbrev s_without : Stmt := top 20
abbrev N_without : List Str := ["one", "other", "wide", "a", "b"]
theorem sc_without : FnScope N_without ["one", "other", "wide"] (defScope s_without) := ⟨rfl, rfl, rfl, by decide +kernel, rfl, by decide +kernel, by decide +kernel⟩
abbrev s_turned_octets : Stmt := top 21
abbrev N_turned_octets : List Str := ["word", "count", "found", "k"]
theorem sc_turned_octets : FnScope N_turned_octets ["word", "count"] (defScope s_turned_octets) := ⟨rfl, rfl, rfl, by decide +kernel, rfl, by decide +kernel, by decide +kernel⟩
abbrev s_Register_read : Stmt := inClass (top 22) 1
abbrev N_Register_read : List Str := ["self"]
theorem sc_Register_read : FnScope N_Register_read ["self"] (defScope s_Register_read) := ⟨rfl, rfl, rfl, by decide +kernel, rfl, by decide +kernel, by decide +kernel⟩
abbrev s_Register_write : Stmt := inClass (top 22) 2
abbrev N_Register_write : List Str := ["self", "word", "name", "low", "many", "rule", "much", "now"]
theorem sc_Register_write : FnScope N_Register_write ["self", "word"] (defScope s_Register_write) := ⟨rfl, rfl, rfl, by decide +kernel, rfl, by decide +kernel, by decide +kernel⟩
abbrev s_Register_row_of : Stmt := inClass (top 22) 3
abbrev N_Register_row_of : List Str := ["self", "name", "one"]
theorem sc_Register_row_of : FnScope N_Register_row_of ["self", "name"] (defScope s_Register_row_of) := ⟨rfl, rfl, rfl, by decide +kernel, rfl, by decide +kernel, by decide +kernel⟩
abbrev s_Register_get : Stmt := inClass (top 22) 4
abbrev N_Register_get : List Str := ["self", "name", "one"]
theorem sc_Register_get : FnScope N_Register_get ["self", "name"] (defScope s_Register_get) := ⟨rfl, rfl, rfl, by decide +kernel, rfl, by decide +kernel, by decide +kernel⟩
abbrev s_Register_put : Stmt := inClass (top 22) 5
abbrev N_Register_put : List Str := ["self", "name", "much", "one"]
theorem sc_Register_put : FnScope N_Register_put ["self", "name", "much"] (defScope s_Register_put) := ⟨rfl, rfl, rfl, by decide +kernel, rfl, by decide +kernel, by decide +kernel⟩
abbrev s_law_dice : Stmt := top 24
abbrev N_law_dice : List Str := ["cell"]
theorem sc_law_dice : FnScope N_law_dice ["cell"] (defScope s_law_dice) := ⟨rfl, rfl, rfl, by decide +kernel, rfl, by decide +kernel, by decide +kernel⟩
abbrev s_law_roll : Stmt := top 25
abbrev N_law_roll : List Str := ["dice", "many", "found"]
theorem sc_law_roll : FnScope N_law_roll ["dice", "many"] (defScope s_law_roll) := ⟨rfl, rfl, rfl, by decide +kernel, rfl, by decide +kernel, by decide +kernel⟩
abbrev s_law_rounds : Stmt := top 26
abbrev N_law_rounds : List Str := ["script", "most", "cells", "cell"]
theorem sc_law_rounds : FnScope N_law_rounds ["script", "most"] (defScope s_law_rounds) := ⟨rfl, rfl, rfl, by decide +kernel, rfl, by decide +kernel, by decide +kernel⟩
abbrev s_law_told : Stmt := top 27
abbrev N_law_told : List Str := ["what"]
theorem sc_law_told : FnScope N_law_told ["what"] (defScope s_law_told) := ⟨rfl, rfl, rfl, by decide +kernel, rfl, by decide +kernel, by decide +kernel⟩
abbrev s_law_bits : Stmt := top 28
abbrev N_law_bits : List Str := ["word", "found", "k"]
theorem sc_law_bits : FnScope N_law_bits ["word"] (defScope s_law_bits) := ⟨rfl, rfl, rfl, by decide +kernel, rfl, by decide +kernel, by decide +kernel⟩
abbrev s_law_two : Stmt := top 29
abbrev N_law_two : List Str := ["k", "found", "turn"]
theorem sc_law_two : FnScope N_law_two ["k"] (defScope s_law_two) := ⟨rfl, rfl, rfl, by decide +kernel, rfl, by decide +kernel, by decide +kernel⟩
abbrev s_law_register : Stmt := top 30
abbrev N_law_register : List Str := ["dice", "rules", "kept_word", "mine", "written", "pulses", "turn", "word", "k", "j", "part", "n"]
theorem sc_law_register : FnScope N_law_register ["dice"] (defScope s_law_register) := ⟨rfl, rfl, rfl, by decide +kernel, rfl, by decide +kernel, by decide +kernel⟩
abbrev s_law : Stmt := top 31
abbrev N_law : List Str := ["script", "dice", "a", "b", "one", "two", "low", "many", "much", "bad", "kept_word", "x", "y", "k"]
theorem sc_law : FnScope N_law ["script"] (defScope s_law) := ⟨rfl, rfl, rfl, by decide +kernel, rfl, by decide +kernel, by decide +kernel⟩
def fs_Register (v0 v1 v2 v3 v4 : V) : List (Str × V) := [("wide", v0), ("fields", v1), ("word", v2), ("written", v3), ("pulses", v4)]
theorem lk_Register_wide {v0 v1 v2 v3 v4 : V} : (fs_Register v0 v1 v2 v3 v4).lookup ("wide" : Str) = some v0 := by kernel_rfl
theorem pf_Register_wide {v0 v1 v2 v3 v4 y : V} : putF "wide" y (fs_Register v0 v1 v2 v3 v4) = fs_Register y v1 v2 v3 v4 := by kernel_rfl
theorem lk_Register_fields {v0 v1 v2 v3 v4 : V} : (fs_Register v0 v1 v2 v3 v4).lookup ("fields" : Str) = some v1 := by kernel_rfl
theorem pf_Register_fields {v0 v1 v2 v3 v4 y : V} : putF "fields" y (fs_Register v0 v1 v2 v3 v4) = fs_Register v0 y v2 v3 v4 := by kernel_rfl
theorem lk_Register_word {v0 v1 v2 v3 v4 : V} : (fs_Register v0 v1 v2 v3 v4).lookup ("word" : Str) = some v2 := by kernel_rfl
theorem pf_Register_word {v0 v1 v2 v3 v4 y : V} : putF "word" y (fs_Register v0 v1 v2 v3 v4) = fs_Register v0 v1 y v3 v4 := by kernel_rfl
theorem lk_Register_written {v0 v1 v2 v3 v4 : V} : (fs_Register v0 v1 v2 v3 v4).lookup ("written" : Str) = some v3 := by kernel_rfl
theorem pf_Register_written {v0 v1 v2 v3 v4 y : V} : putF "written" y (fs_Register v0 v1 v2 v3 v4) = fs_Register v0 v1 v2 y v4 := by kernel_rfl
theorem lk_Register_pulses {v0 v1 v2 v3 v4 : V} : (fs_Register v0 v1 v2 v3 v4).lookup ("pulses" : Str) = some v4 := by kernel_rfl
theorem pf_Register_pulses {v0 v1 v2 v3 v4 y : V} : putF "pulses" y (fs_Register v0 v1 v2 v3 v4) = fs_Register v0 v1 v2 v3 y := by kernel_rfl
theorem ln_Register {v0 v1 v2 v3 v4 : V} : (fs_Register v0 v1 v2 v3 v4).length < 1000 := by show 5 < 1000; decide
theorem no_Register_init {v0 v1 v2 v3 v4 : V} : (fs_Register v0 v1 v2 v3 v4).lookup ("__init__" : Str) = none := by kernel_rfl
theorem no_Register_read {v0 v1 v2 v3 v4 : V} : (fs_Register v0 v1 v2 v3 v4).lookup ("read" : Str) = none := by kernel_rfl
theorem no_Register_write {v0 v1 v2 v3 v4 : V} : (fs_Register v0 v1 v2 v3 v4).lookup ("write" : Str) = none := by kernel_rfl
theorem no_Register_row_of {v0 v1 v2 v3 v4 : V} : (fs_Register v0 v1 v2 v3 v4).lookup ("row_of" : Str) = none := by kernel_rfl
theorem no_Register_get {v0 v1 v2 v3 v4 : V} : (fs_Register v0 v1 v2 v3 v4).lookup ("get" : Str) = none := by kernel_rfl
theorem no_Register_put {v0 v1 v2 v3 v4 : V} : (fs_Register v0 v1 v2 v3 v4).lookup ("put" : Str) = none := by kernel_rfl
theorem gr_Register_wide {v0 : V} : putF "wide" v0 ([] : List (Str × V)) = [(("wide" : Str), v0)] := by kernel_rfl
theorem gr_Register_fields {v0 v1 : V} : putF "fields" v1 ([(("wide" : Str), v0)] : List (Str × V)) = [(("wide" : Str), v0), (("fields" : Str), v1)] := by kernel_rfl
theorem gr_Register_word {v0 v1 v2 : V} : putF "word" v2 ([(("wide" : Str), v0), (("fields" : Str), v1)] : List (Str × V)) = [(("wide" : Str), v0), (("fields" : Str), v1), (("word" : Str), v2)] := by kernel_rfl
theorem gr_Register_written {v0 v1 v2 v3 : V} : putF "written" v3 ([(("wide" : Str), v0), (("fields" : Str), v1), (("word" : Str), v2)] : List (Str × V)) = [(("wide" : Str), v0), (("fields" : Str), v1), (("word" : Str), v2), (("written" : Str), v3)] := by kernel_rfl
theorem gr_Register_pulses {v0 v1 v2 v3 v4 : V} : putF "pulses" v4 ([(("wide" : Str), v0), (("fields" : Str), v1), (("word" : Str), v2), (("written" : Str), v3)] : List (Str × V)) = fs_Register v0 v1 v2 v3 v4 := by kernel_rfl
structure Txt (K : PySem.W.Frag) (mg : Str → Option Value) (C_Register C_BadWord C_BadPlace C_BadPlan C_NotDue C_Stuck C_BadBits C_BadText C_TooLarge g_told g_RULES : Addr) : Prop where
  c_Register : Cls K C_Register
  n_Register_fields : NoAttr K C_Register "fields"
  n_Register_pulses : NoAttr K C_Register "pulses"
  n_Register_wide : NoAttr K C_Register "wide"
  n_Register_word : NoAttr K C_Register "word"
  n_Register_written : NoAttr K C_Register "written"
  b_abs : mg "abs" = none
  b_bool : mg "bool" = none
  b_int : mg "int" = none
  b_isinstance : mg "isinstance" = none
  b_len : mg "len" = none
  b_list : mg "list" = none
  b_max : mg "max" = none
  b_range : mg "range" = none
  b_reversed : mg "reversed" = none
  b_str : mg "str" = none
  b_sum : mg "sum" = none
  b_tuple : mg "tuple" = none
  b_zip : mg "zip" = none
  e_BadWord : Dh.ExcX K mg "BadWord" C_BadWord
  t_law_told : Dh.ToldX K mg "_law_told" s_law_told g_told
  m_BadWord : mg "BadWord" = some (.ref C_BadWord)
  m_BadPlace : mg "BadPlace" = some (.ref C_BadPlace)
  m_BadPlan : mg "BadPlan" = some (.ref C_BadPlan)
  m_NotDue : mg "NotDue" = some (.ref C_NotDue)
  m_Stuck : mg "Stuck" = some (.ref C_Stuck)
  m_BadBits : mg "BadBits" = some (.ref C_BadBits)
  m_BadText : mg "BadText" = some (.ref C_BadText)
  m_TooLarge : mg "TooLarge" = some (.ref C_TooLarge)
  x_BadWord_BadWord : PySem.W.exmOne K (.ref C_BadWord) (.ref C_BadWord) = some true
  m_RULES : mg "RULES" = some (.ref g_RULES)
  q_RULES : ∀ H, SqT K H g_RULES ((["plain", "read", "clear", "once", "pulse"] : List Str).map V.str)
theorem bnd_law_told {kV doc pm cdv ct : Value} {an : Option Addr} : L2.Binds K (PySem.W.fnOf "_law_told" "_law_told" (defArgs s_law_told) (defBody s_law_told) (defScope s_law_told) .none kV doc pm an cdv ct) ["what"] [] :=
  .all fun us hl => match us, hl with | [_], _ => rfl
theorem told_law_told {X : Cx} {cdv : Value} {q : Str} (Z : Txt X.K X.mg C_Register C_BadWord C_BadPlace C_BadPlan C_NotDue C_Stuck C_BadBits C_BadText C_TooLarge g_told g_RULES) : LamX.GivesTo X N_law_told "_law_told" (defScope s_law_told) g_told cdv (defBody s_law_told) "what" q (Dh.TTx X.K [(C_BadWord, "word"), (C_BadPlace, "place"), (C_BadPlan, "plan"), (C_NotDue, "due"), (C_Stuck, "stuck"), (C_BadBits, "bits"), (C_BadText, "text"), (C_TooLarge, "large")]) :=
  Dh.told_many (fun _ _ _ => (Dh.Clauses.cons (by rfl) Z.m_BadWord (by decide) (Dh.Clauses.cons (by rfl) Z.m_BadPlace (by decide) (Dh.Clauses.cons (by rfl) Z.m_BadPlan (by decide) (Dh.Clauses.cons (by rfl) Z.m_NotDue (by decide) (Dh.Clauses.cons (by rfl) Z.m_Stuck (by decide) (Dh.Clauses.cons (by rfl) Z.m_BadBits (by decide) (Dh.Clauses.cons (by rfl) Z.m_BadText (by decide) (Dh.Clauses.cons (by rfl) Z.m_TooLarge (by decide) Dh.Clauses.nil))))))))) (fun _ => rfl)
end
end Toy
end

section
local macro_rules | `(tactic| walk_at "pk") => `(tactic| (with_reducible first | exact Dh.pick_here | (refine' Dh.pick_there ?p; (case p => walk_at "pk"))))
local macro_rules | `(tactic| walk_at "ent") => `(tactic| first | (with_reducible exact Dh.ent_refl) | (with_reducible exact Dh.ent_nil) | (refine' Dh.ent_cons ?q0 ?k; (case q0 => walk_at "pk"); (case k => walk_at "ent")) | (refine' Dh.ent_drop ?k; (case k => walk_at "ent")))
local macro_rules | `(tactic| walk_at "side") => `(tactic| first | (with_reducible assumption) | omega | decide | (exact Or.inl rfl) | (exact Or.inr rfl) | (exact Dh.log2_ok (by omega)) | (simp only [L2.CMul, L2.CDiv, L2.CDivN]; omega) | (unfold L2.CPow; decide) | (simp only [List.length_cons, List.length_nil, List.length_append, List.length_map, List.length_range, List.length_replicate, List.length_set, List.length_take, List.length_drop, PySem.sizeLine_eq] <;> omega))
local macro_rules | `(tactic| walk_at "dvp") => `(tactic| (with_reducible first | exact Dh.DV.int | exact Dh.DV.str | exact Dh.DV.bl | exact Dh.DV.non | exact Dh.DVs.nil | (refine' Dh.Pick.dvs ?a (by assumption); (case a => walk_at "pk")) | (refine' Dh.Pick.dv ?a (by assumption); (case a => walk_at "pk")) | (refine' Dh.DVs.cons ?a ?b; (case a => walk_at "dvp"); (case b => walk_at "dvp")) | (refine' Dh.DVs.app ?a ?b; (case a => walk_at "dvp"); (case b => walk_at "dvp")) | (refine' Dh.Pick.tup ?a (by assumption) ?b; (case a => walk_at "pk"); (case b => walk_at "dvp")) | (refine' Dh.DVs.take _ ?a; (case a => walk_at "dvp")) | (refine' Dh.DVs.drop _ ?a; (case a => walk_at "dvp")) | (refine' Dh.DVs.set _ ?a ?b; (case a => walk_at "dvp"); (case b => walk_at "dvp"))))
local macro_rules | `(tactic| walk_at "ixs") => `(tactic| first | assumption | omega | (simp only [List.length_set, List.length_map, List.length_cons, List.length_nil, List.length_append, List.length_replicate] <;> first | assumption | omega))
local macro_rules | `(tactic| walk_at "lk") => `(tactic| first | rfl | assumption | (exact Dh.ixN_lt (by walk_at "ixs")) | (exact Dh.atI_lt (by assumption)) | (exact Dh.atI_map (by assumption))  | with_reducible exact Toy.lk_Register_wide | with_reducible exact Toy.lk_Register_fields | with_reducible exact Toy.lk_Register_word | with_reducible exact Toy.lk_Register_written | with_reducible exact Toy.lk_Register_pulses | with_reducible exact Toy.no_Register_init | with_reducible exact Toy.no_Register_read | with_reducible exact Toy.no_Register_write | with_reducible exact Toy.no_Register_row_of | with_reducible exact Toy.no_Register_get | with_reducible exact Toy.no_Register_put)
local macro_rules | `(tactic| walk_at "kt") => `(tactic| assumption)
local macro_rules | `(tactic| walk_at "pf") => `(tactic| first  | with_reducible exact Toy.pf_Register_wide | with_reducible exact Toy.pf_Register_fields | with_reducible exact Toy.pf_Register_word | with_reducible exact Toy.pf_Register_written | with_reducible exact Toy.pf_Register_pulses | with_reducible exact Toy.gr_Register_wide | with_reducible exact Toy.gr_Register_fields | with_reducible exact Toy.gr_Register_word | with_reducible exact Toy.gr_Register_written | with_reducible exact Toy.gr_Register_pulses | rfl)
local macro_rules | `(tactic| walk_at "ln") => `(tactic| first  | with_reducible exact Toy.ln_Register | decide | (simp only [List.length_cons, List.length_nil] <;> omega))
local macro_rules | `(tactic| walk_at "hasm") => `(tactic| first | (refine' Dh.hasM_ob ?q0 ?q1; (case q0 => walk_at "pk"); (case q1 => walk_at "lk")))
local macro_rules | `(tactic| walk_at "vcp0") => `(tactic| first | ((with_reducible refine' Dh.g_seq ?k)) | ((with_reducible refine' Dh.g_next ?k)) | ((with_reducible refine' Dh.g_nonA ?k)) | ((with_reducible refine' Dh.g_var ?q0 ?k); (case q0 => rfl)) | ((with_reducible refine' Dh.g_c ?k)) | ((with_reducible refine' Dh.g_op ?k)) | ((with_reducible refine' Dh.g_asg ?k)) | ((with_reducible refine' Dh.g_name ?k)) | ((with_reducible refine' Dh.g_ifS ?k)) | ((with_reducible refine' Dh.g_test ?k)) | ((with_reducible refine' Dh.g_isB ?k)) | ((with_reducible refine' Dh.g_B ?k)) | ((with_reducible refine' Dh.g_ret ?k)) | ((with_reducible refine' Dh.g_retN ?k)) | ((with_reducible refine' Dh.g_drop ?k)) | ((with_reducible refine' Dh.g_brk ?k)) | ((with_reducible refine' Dh.g_cont ?k)) | ((with_reducible refine' Dh.g_un ?k)) | ((with_reducible refine' Dh.g_I0 ?k)) | ((with_reducible refine' Dh.g_addI ?k)) | ((with_reducible refine' Dh.g_addB ?k)) | ((with_reducible refine' Dh.g_addS ?q0 ?k); (case q0 => walk_at "side")) | ((with_reducible refine' Dh.g_addM ?q0 ?q1 ?q2 ?k); (case q0 => walk_at "pk"); (case q1 => walk_at "pk"); (case q2 => walk_at "side"); intro _) | ((with_reducible refine' Dh.g_addL ?q0 ?q1 ?q2 ?k); (case q0 => walk_at "pk"); (case q1 => walk_at "pk"); (case q2 => walk_at "side"); intro _))
local macro_rules | `(tactic| walk_at "vcp1") => `(tactic| first | ((with_reducible refine' Dh.g_I ?q0 ?k); (case q0 => walk_at "side")) | ((with_reducible refine' Dh.g_mulI ?q0 ?k); (case q0 => walk_at "side")) | ((with_reducible refine' Dh.g_U ?k)) | ((with_reducible refine' Dh.g_eqS ?q0 ?k); (case q0 => rfl)) | ((with_reducible refine' Dh.g_neS ?q0 ?k); (case q0 => rfl)) | ((with_reducible refine' Dh.g_eqLL ?q0 ?q1 ?k); (case q0 => walk_at "pk"); (case q1 => walk_at "pk")) | ((with_reducible refine' Dh.g_neLL ?q0 ?q1 ?k); (case q0 => walk_at "pk"); (case q1 => walk_at "pk")) | ((with_reducible refine' Dh.g_eqL0 ?q0 ?q1 ?k); (case q0 => walk_at "pk"); (case q1 => walk_at "pk")) | ((with_reducible refine' Dh.g_neL0 ?q0 ?q1 ?k); (case q0 => walk_at "pk"); (case q1 => walk_at "pk")) | ((with_reducible refine' Dh.g_neT0 ?q0 ?q1 ?q2 ?k); (case q0 => walk_at "pk"); (case q1 => walk_at "pk"); (case q2 => walk_at "pk")) | ((with_reducible refine' Dh.g_neP ?q0 ?q1 ?k); (case q0 => walk_at "pk"); (case q1 => walk_at "pk")) | ((with_reducible refine' Dh.g_inI ?q0 ?k); (case q0 => walk_at "pk")) | ((with_reducible refine' Dh.g_isN ?k)) | ((with_reducible refine' Dh.g_notN ?k)) | ((with_reducible refine' Dh.g_ixL ?q0 ?q1 ?k); (case q0 => walk_at "pk"); (case q1 => walk_at "lk")) | ((with_reducible refine' Dh.g_ixT ?q0 ?q1 ?k); (case q0 => walk_at "pk"); (case q1 => walk_at "lk")) | ((with_reducible refine' Dh.g_sl ?k)) | ((with_reducible refine' Dh.g_noPart ?k)) | ((with_reducible refine' Dh.g_part ?k)) | ((with_reducible refine' Dh.g_isSomeInt ?k)) | ((with_reducible refine' Dh.g_slTk ?q0 ?k); (case q0 => walk_at "pk"); intro _) | ((with_reducible refine' Dh.g_slDr ?q0 ?k); (case q0 => walk_at "pk"); intro _) | ((with_reducible refine' Dh.g_slL ?q0 ?k); (case q0 => walk_at "pk"); intro _) | ((with_reducible refine' Dh.g_slQTk ?q0 ?k); (case q0 => walk_at "pk"); intro _))
local macro_rules | `(tactic| walk_at "vcp2") => `(tactic| first | ((with_reducible refine' Dh.g_slQ ?q0 ?k); (case q0 => walk_at "pk"); intro _) | ((with_reducible refine' Dh.g_fldE ?k)) | ((with_reducible refine' Dh.g_fld ?q0 ?q1 ?k); (case q0 => walk_at "pk"); (case q1 => walk_at "lk")) | ((with_reducible refine' Dh.g_tup ?k)) | ((with_reducible refine' Dh.g_lst ?k)) | ((with_reducible refine' Dh.g_newT ?q0 ?k); (case q0 => walk_at "side"); intro _) | ((with_reducible refine' Dh.g_newL ?q0 ?k); (case q0 => walk_at "side"); intro _) | ((with_reducible refine' Dh.g_nil ?k)) | ((with_reducible refine' Dh.g_cons ?k)) | ((with_reducible refine' Dh.g_call ?k)) | ((with_reducible refine' Dh.g_methE ?k)) | ((with_reducible refine' Dh.g_meth ?q0 ?k); (case q0 => walk_at "hasm")) | ((with_reducible refine' Dh.g_make ?k)) | ((with_reducible refine' Dh.g_made ?k); intro _) | ((with_reducible refine' Dh.g_cb ?k)) | ((with_reducible refine' Dh.g_int ?k)) | ((with_reducible refine' Dh.g_intB ?k)) | ((with_reducible refine' Dh.g_abs ?k)) | ((with_reducible refine' Dh.g_max2 ?k)) | ((with_reducible refine' Dh.g_min2 ?k)) | ((with_reducible refine' Dh.g_strI ?q0 ?k); (case q0 => walk_at "side")) | ((with_reducible refine' Dh.g_lenL ?q0 ?k); (case q0 => walk_at "pk")) | ((with_reducible refine' Dh.g_lenT ?q0 ?k); (case q0 => walk_at "pk")) | ((with_reducible refine' Dh.g_lenD ?q0 ?k); (case q0 => walk_at "pk")))
local macro_rules | `(tactic| walk_at "vcp3") => `(tactic| first | ((with_reducible refine' Dh.g_listL ?q0 ?k); (case q0 => walk_at "pk"); intro _) | ((with_reducible refine' Dh.g_listT ?q0 ?k); (case q0 => walk_at "pk"); intro _) | ((with_reducible refine' Dh.g_tupL ?q0 ?k); (case q0 => walk_at "pk"); intro _) | ((with_reducible refine' Dh.g_tupT ?q0 ?k); (case q0 => walk_at "pk")) | ((with_reducible refine' Dh.g_pop0 ?q0 ?k); (case q0 => walk_at "pk")) | ((with_reducible refine' Dh.g_bm ?k)) | ((with_reducible refine' Dh.g_bm0 ?k)) | ((with_reducible refine' Dh.g_tyL ?q0 ?k); (case q0 => walk_at "pk")) | ((with_reducible refine' Dh.g_append ?q0 ?q1 ?k); (case q0 => walk_at "pk"); (case q1 => walk_at "side")) | ((with_reducible refine' Dh.g_rep ?q0 ?q1 ?q2 ?q3 ?k); (case q0 => walk_at "pk"); (case q1 => walk_at "side"); (case q2 => walk_at "side"); (case q3 => walk_at "side"); intro _) | ((with_reducible refine' Dh.g_not ?k)) | ((with_reducible refine' Dh.g_tand ?k)) | ((with_reducible refine' Dh.g_tor ?k)) | ((with_reducible refine' Dh.g_andV ?k)) | ((with_reducible refine' Dh.g_orV ?k)) | ((with_reducible refine' Dh.g_notV ?k)) | ((with_reducible refine' Dh.g_ifE ?k)) | ((with_reducible refine' Dh.g_chain ?k)) | ((with_reducible refine' Dh.g_tru ?k)) | ((with_reducible refine' Dh.g_truB ?k)) | ((with_reducible refine' Dh.g_truI ?k)) | ((with_reducible refine' Dh.g_truN ?k)) | ((with_reducible refine' Dh.g_truL ?q0 ?k); (case q0 => walk_at "pk")) | ((with_reducible refine' Dh.g_gsub ?k)))
local macro_rules | `(tactic| walk_at "vcp4") => `(tactic| first | ((with_reducible refine' Dh.g_setM ?q0 ?q1 ?k); (case q0 => walk_at "pk"); (case q1 => walk_at "lk")) | ((with_reducible refine' Dh.g_setL ?q0 ?q1 ?k); (case q0 => walk_at "pk"); (case q1 => walk_at "lk")) | ((with_reducible refine' Dh.g_gtup ?q0 ?q1 ?k); (case q0 => walk_at "pk"); (case q1 => rfl)) | ((with_reducible refine' Dh.g_gnil ?k)) | ((with_reducible refine' Dh.g_gcons ?k)) | ((with_reducible refine' Dh.g_par ?k)) | ((with_reducible refine' Dh.g_par2 ?k)) | ((with_reducible refine' Dh.g_par3 ?k)) | ((with_reducible refine' Dh.g_par3b ?k)) | ((with_reducible refine' Dh.g_listRg ?k)) | ((with_reducible refine' Dh.g_rg1E ?k)) | ((with_reducible refine' Dh.g_rg1 ?k)) | ((with_reducible refine' Dh.g_rgN ?q0 ?k); (case q0 => walk_at "side"); intro _) | ((with_reducible refine' Dh.g_rgL ?q0 ?k); (case q0 => walk_at "side"); intro _) | ((with_reducible refine' Dh.g_dinE ?k)) | ((with_reducible refine' Dh.g_dinI ?q0 ?k); (case q0 => walk_at "pk")) | ((with_reducible refine' Dh.g_dnotinE ?k)) | ((with_reducible refine' Dh.g_dnotinI ?q0 ?k); (case q0 => walk_at "pk")) | ((with_reducible refine' Dh.g_dgetE ?k)) | ((with_reducible refine' Dh.g_dgetI ?q0 ?q1 ?k); (case q0 => walk_at "pk"); (case q1 => walk_at "lk")) | ((with_reducible refine' Dh.g_dputE ?k)) | ((with_reducible refine' Dh.g_dputI ?q0 ?q1 ?k); (case q0 => walk_at "pk"); (case q1 => walk_at "side")) | ((with_reducible refine' Dh.g_dpopE ?k)) | ((with_reducible refine' Dh.g_dpopA ?q0 ?k); (case q0 => walk_at "pk")))
local macro_rules | `(tactic| walk_at "vcp5") => `(tactic| first | ((with_reducible refine' Dh.g_dpopB ?q0 ?q1 ?k); (case q0 => walk_at "pk"); (case q1 => walk_at "lk")) | ((with_reducible refine' Dh.g_dnew ?k); intro _) | ((with_reducible refine' Dh.g_ipMul ?q0 ?k); (case q0 => walk_at "side")) | ((with_reducible refine' Dh.g_sfldE ?k)) | ((with_reducible refine' Dh.g_sfld ?q0 ?q1 ?q2 ?k); (case q0 => walk_at "pk"); (case q1 => walk_at "pf"); (case q2 => walk_at "ln")) | ((with_reducible refine' Dh.g_augE ?k)) | ((with_reducible refine' Dh.g_augF ?q0 ?q1 ?k); (case q0 => walk_at "pk"); (case q1 => walk_at "lk")) | ((with_reducible refine' Dh.g_augV ?q0 ?k); (case q0 => rfl)) | ((with_reducible refine' Dh.g_ipI ?k)) | ((with_reducible refine' Dh.g_rAdd ?k)) | ((with_reducible refine' Dh.g_rSub ?k)) | ((with_reducible refine' Dh.g_for ?k)) | ((with_reducible refine' Dh.g_iRng1 ?k)) | ((with_reducible refine' Dh.g_iRng2 ?k)) | ((with_reducible refine' Dh.g_rng1 ?q0 ?q1 ?k); (case q0 => walk_at "side"); (case q1 => walk_at "side")) | ((with_reducible refine' Dh.g_rng2 ?q0 ?k); (case q0 => walk_at "side")) | ((with_reducible refine' Dh.g_iSeqE ?k)) | ((with_reducible refine' Dh.g_iSeqL ?q0 ?k); (case q0 => walk_at "pk")) | ((with_reducible refine' Dh.g_iSeqT ?q0 ?k); (case q0 => walk_at "pk")) | ((with_reducible refine' Dh.g_inK ?q0 ?k); (case q0 => walk_at "kt")) | ((with_reducible refine' Dh.g_notInK ?q0 ?k); (case q0 => walk_at "kt")) | ((with_reducible refine' Dh.g_isiII ?k)) | ((with_reducible refine' Dh.g_isiIB ?k)) | ((with_reducible refine' Dh.g_dinS ?q0 ?k); (case q0 => walk_at "pk")))
local macro_rules | `(tactic| walk_at "vcp6") => `(tactic| first | ((with_reducible refine' Dh.g_dnotinS ?q0 ?k); (case q0 => walk_at "pk")) | ((with_reducible refine' Dh.g_dgetS ?q0 ?q1 ?k); (case q0 => walk_at "pk"); (case q1 => walk_at "lk")) | ((with_reducible refine' Dh.g_dputS ?q0 ?q1 ?k); (case q0 => walk_at "pk"); (case q1 => walk_at "side")) | ((with_reducible refine' Dh.g_dpopS ?q0 ?q1 ?k); (case q0 => walk_at "pk"); (case q1 => walk_at "lk")) | ((with_reducible refine' Dh.g_iRevE ?k)) | ((with_reducible refine' Dh.g_iRevL ?q0 ?k); (case q0 => walk_at "pk")) | ((with_reducible refine' Dh.g_iRevT ?q0 ?k); (case q0 => walk_at "pk")) | ((with_reducible refine' Dh.g_iZipE ?k)) | ((with_reducible refine' Dh.g_iZipL ?q0 ?q1 ?k); (case q0 => walk_at "pk"); (case q1 => walk_at "pk")) | ((with_reducible refine' Dh.g_iZipT ?q0 ?q1 ?k); (case q0 => walk_at "pk"); (case q1 => walk_at "pk")) | ((with_reducible refine' Dh.g_iEnumE ?k)) | ((with_reducible refine' Dh.g_iEnum ?q0 ?k); (case q0 => walk_at "pk")) | ((with_reducible refine' Dh.g_dcE ?k)) | ((with_reducible refine' Dh.g_dturn ?k)) | ((with_reducible refine' Dh.g_sum ?q0 ?k); (case q0 => walk_at "pk")) | ((with_reducible refine' Dh.g_pop ?q0 ?q1 ?k); (case q0 => walk_at "pk"); (case q1 => walk_at "lk")) | ((with_reducible refine' Dh.g_wbody ?k)) | ((with_reducible refine' Dh.g_lcE ?k)) | ((with_reducible refine' Dh.g_turn ?k)) | ((with_reducible refine' Dh.g_tYes ?k)) | ((with_reducible refine' Dh.g_rs ?k)) | ((with_reducible refine' Dh.g_rsW ?k)) | ((with_reducible refine' Dh.g_told ?k)) | ((with_reducible refine' Dh.g_ifT ?q0 ?k); (case q0 => rfl)))
local macro_rules | `(tactic| walk_at "vcp7") => `(tactic| first | ((with_reducible refine' Dh.g_ifF ?q0 ?k); (case q0 => rfl)) | ((with_reducible refine' Dh.g_and ?q0 ?k); (case q0 => rfl)) | ((with_reducible refine' Dh.g_turn ?k)))
local macro_rules | `(tactic| walk_at "vc1") => `(tactic| first | walk_at "vcp0" | walk_at "vcp1" | walk_at "vcp2" | walk_at "vcp3" | walk_at "vcp4" | walk_at "vcp5" | walk_at "vcp6" | walk_at "vcp7" | walk_at "use1" | walk_at "told1")
local macro_rules | `(tactic| walk_at "vc") => `(tactic| repeat walk_at "vc1")
local macro_rules | `(tactic| walk_at "spl") => `(tactic| first | ((with_reducible refine Dh.g_ifD ?_ ?_) <;> intro _) | ((with_reducible refine Dh.g_ifN ?_ ?_) <;> intro _) | ((with_reducible refine Dh.g_if ?_ ?_) <;> intro _))
local macro_rules | `(tactic| walk_at "vcs") => `(tactic| repeat' (first | walk_at "vc1" | walk_at "spl"))
local macro_rules | `(tactic| walk_at "told1") => `(tactic| first | ((with_reducible refine' Dh.g_toldY (Toy.Txt.x_BadWord_BadWord ?z) ?k); (case z => assumption)))

namespace Toy
open PySem L2
section
variable {P : Program} {w : World} {K : PySem.W.Frag} {mg : Str → Option Value} {base : Heap} {T : List (Addr × Str)} {C_Register C_BadWord C_BadPlace C_BadPlan C_NotDue C_Stuck C_BadBits C_BadText C_TooLarge g_told g_RULES : Addr}
def sg_law_dice (T : List (Addr × Str)) (K : PySem.W.Frag) (C_Register C_BadWord C_BadPlace C_BadPlan C_NotDue C_Stuck C_BadBits C_BadText C_TooLarge g_told g_RULES : Addr) : Dh.SG :=
  fun zs L Q E => ∃ (n : Int) (R : List Dh.HP), zs = [.int n] ∧ Dh.Ent L (R) ∧ (∀ (p : Addr) (a b c : Int), Dh.Go T ((Dh.pt p (.lst [.int a, .int b, .int c])) :: R) fun H => Q (.ref p) H)
theorem use_law_dice {L  : List Dh.HP} {Q : VK} {E : XK} {n : Int}   (k0 : ∀ (p : Addr) (a b c : Int), Dh.Go T ((Dh.pt p (.lst [.int a, .int b, .int c])) :: L) fun H => Q (.ref p) H) : Dh.Go T L fun H => Dh.sOfN T 1 (sg_law_dice T K C_Register C_BadWord C_BadPlace C_BadPlan C_NotDue C_Stuck C_BadBits C_BadText C_TooLarge g_told g_RULES) [.int n] H Q E := Dh.g_sp rfl ⟨n, L, rfl, Dh.ent_refl, k0⟩
local macro_rules | `(tactic| walk_at "use1") => `(tactic| ((with_reducible refine' Toy.use_law_dice (fun _ _ _ _ => ?k0))))
set_option maxHeartbeats 8000000 in
theorem ok_law_dice (Z : Txt K mg C_Register C_BadWord C_BadPlace C_BadPlan C_NotDue C_Stuck C_BadBits C_BadText C_TooLarge g_told g_RULES)  {f : Addr} {fd : FuncData} {cdv : Value} (F : Dh.FunC K "_law_dice" "_law_dice" s_law_dice f fd cdv) :
    FnOk P w K mg base (L2.CX P w) 1 f fd ["cell"] (Dh.sOfN T 1 (sg_law_dice T K C_Register C_BadWord C_BadPlace C_BadPlan C_NotDue C_Stuck C_BadBits C_BadText C_TooLarge g_told g_RULES)) := by
  refine Dh.fnX (k := 0) F sc_law_dice rfl (fun A outer s H0 L vs Q E hr hl h => ?_)
  refine ⟨_, (pss_cons (ps_if (pt_chain op_lt op_lt (pe_op op_sub pe_int pe_int) (pv 0) pe_int)
    (pss_one (ps_ret (pe_lst (pa_cons (pe_callB Dh.call_absX (by rfl) Z.b_abs Dh.blt_abs (pa_cons (pv 0) pa_nil)) (pa_cons pe_int (pa_cons pe_int pa_nil))))))
    pss_nil)
    (pss_one (ps_ret (pe_lst (pa_cons (pv 0) (pa_cons (pe_op (Dh.oAdd (K := K) rfl) pe_int (pe_op op_mod (pe_callTy Dh.call_intX (by rfl) Z.b_int (by first | exact PySem.boot_int | exact PyProof.Rows.boot_int | decide +kernel) (pa_cons (pv 0) pa_nil)) pe_int)) (pa_cons (pe_callTy Dh.call_intX (by rfl) Z.b_int (by first | exact PySem.boot_int | exact PyProof.Rows.boot_int | decide +kernel) (pa_cons (pe_cmpR op_ge (pv 0) (pe_op op_pow pe_int pe_int) (nomark _)) pa_nil)) pa_nil))))))), ?_⟩
  try dsimp only [L2.cxOf, L2.Cx.blk, LamX.lamCx, L2.Cx.tr]
  obtain ⟨n, R, rfl, hE, k0⟩ := h
  refine Dh.Go.ent hE ?_
  walk_at "vcs"
  all_goals exact k0 _ _ _ _
/-- a dice: three ints -/
def DiceAt (p : Addr) : Dh.HP := Dh.ex fun a : Int => Dh.ex fun b : Int => Dh.ex fun c : Int => Dh.pt p (.lst [.int a, .int b, .int c])
def sg_law_roll (T : List (Addr × Str)) (K : PySem.W.Frag) (C_Register C_BadWord C_BadPlace C_BadPlan C_NotDue C_Stuck C_BadBits C_BadText C_TooLarge g_told g_RULES : Addr) : Dh.SG :=
  fun zs L Q E => ∃ (p : Addr) (n : Int) (R : List Dh.HP), zs = [.ref p, .int n] ∧ Dh.Ent L ((DiceAt p) :: R) ∧ (0 < n) ∧ (n < 1073741824) ∧ (∀ (r : Nat), (r : Int) < n → Dh.Go T ((DiceAt p) :: R) fun H => Q (.int (r : Int)) H)
theorem use_law_roll {L A0 : List Dh.HP} {Q : VK} {E : XK} {p : Addr} {n : Int} (q0 : Dh.Pick L (DiceAt p) A0) (h0 : 0 < n) (h1 : n < 1073741824) (k0 : ∀ (r : Nat), (r : Int) < n → Dh.Go T ((DiceAt p) :: A0) fun H => Q (.int (r : Int)) H) : Dh.Go T L fun H => Dh.sOfN T 2 (sg_law_roll T K C_Register C_BadWord C_BadPlace C_BadPlan C_NotDue C_Stuck C_BadBits C_BadText C_TooLarge g_told g_RULES) [.ref p, .int n] H Q E := Dh.g_sp rfl ⟨p, n, A0, rfl, (Dh.ent_cons q0 Dh.ent_refl), h0, h1, k0⟩
local macro_rules | `(tactic| walk_at "use1") => `(tactic| ((with_reducible refine' Toy.use_law_roll ?q0 ?h0 ?h1 (fun _ _ => ?k0)); (case q0 => walk_at "pk"); (case h0 => walk_at "side"); (case h1 => walk_at "side")))
set_option maxHeartbeats 8000000 in
theorem ok_law_roll (Z : Txt K mg C_Register C_BadWord C_BadPlace C_BadPlan C_NotDue C_Stuck C_BadBits C_BadText C_TooLarge g_told g_RULES)  {f : Addr} {fd : FuncData} {cdv : Value} (F : Dh.FunC K "_law_roll" "_law_roll" s_law_roll f fd cdv) :
    FnOk P w K mg base (L2.CX P w) 1 f fd ["dice", "many"] (Dh.sOfN T 2 (sg_law_roll T K C_Register C_BadWord C_BadPlace C_BadPlan C_NotDue C_Stuck C_BadBits C_BadText C_TooLarge g_told g_RULES)) := by
  refine Dh.fnX (k := 0) F sc_law_roll rfl (fun A outer s H0 L vs Q E hr hl h => ?_)
  refine ⟨_, (pss_cons (ps_if (PW.pt (pw_or (pt_cmpR (Dh.oEq (K := K) rfl hr.units) (pe_ix (Dh.xSeq (K := K) rfl) (pv 0) pe_int (fun _ _ => rfl)) pe_int (nomark _)) (pw_or1 (PW.pt (pw_and (pt_cmpR (Dh.oEq (K := K) rfl hr.units) (pe_ix (Dh.xSeq (K := K) rfl) (pv 0) pe_int (fun _ _ => rfl)) pe_int (nomark _)) (pw_and1 (pt_cmpR op_gt (pe_ix (Dh.xSeq (K := K) rfl) (pv 0) pe_int (fun _ _ => rfl)) pe_int (nomark _))))))))
    (pss_cons (ps_set (i := 2) sc_law_roll.nd rfl (by first | exact Or.inl rfl | exact Or.inr rfl) (pe_op op_mod (pe_callTy Dh.call_intX (by rfl) Z.b_int (by first | exact PySem.boot_int | exact PyProof.Rows.boot_int | decide +kernel) (pa_cons (pe_ix (Dh.xSeq (K := K) rfl) (pv 0) pe_int (fun _ _ => rfl)) pa_nil)) (pv 1)))
    (pss_cons (ps_asg (pe_op op_fdiv (pe_ix (Dh.xSeq (K := K) rfl) (pv 0) pe_int (fun _ _ => rfl)) (pv 1)) (pg_sub (pv 0) pe_int set_list))
    (pss_one (ps_ret (pv 2)))))
    pss_nil)
    (pss_cons (ps_asg pe_int (pg_sub (pv 0) pe_int set_list))
    (pss_cons (ps_asg (pe_op op_mod (pe_callTy Dh.call_intX (by rfl) Z.b_int (by first | exact PySem.boot_int | exact PyProof.Rows.boot_int | decide +kernel) (pa_cons (pe_op (Dh.oAdd (K := K) rfl) (pe_op (Dh.oAdd (K := K) rfl) (pe_op (Dh.oMul (K := K) rfl) (pe_ix (Dh.xSeq (K := K) rfl) (pv 0) pe_int (fun _ _ => rfl)) pe_int) (pe_op (Dh.oMul (K := K) rfl) (pe_ix (Dh.xSeq (K := K) rfl) (pv 0) pe_int (fun _ _ => rfl)) pe_int)) pe_int) pa_nil)) pe_int) (pg_sub (pv 0) pe_int set_list))
    (pss_cons (ps_asg (pe_op (Dh.oAdd (K := K) rfl) (pe_ix (Dh.xSeq (K := K) rfl) (pv 0) pe_int (fun _ _ => rfl)) pe_int) (pg_sub (pv 0) pe_int set_list))
    (pss_one (ps_ret (pe_op op_mod (pe_callTy Dh.call_intX (by rfl) Z.b_int (by first | exact PySem.boot_int | exact PyProof.Rows.boot_int | decide +kernel) (pa_cons (pe_op (Dh.oAdd (K := K) rfl) (pe_op op_fdiv (pe_ix (Dh.xSeq (K := K) rfl) (pv 0) pe_int (fun _ _ => rfl)) pe_int) (pe_ix (Dh.xSeq (K := K) rfl) (pv 0) pe_int (fun _ _ => rfl))) pa_nil)) (pv 1)))))))), ?_⟩
  try dsimp only [L2.cxOf, L2.Cx.blk, LamX.lamCx, L2.Cx.tr]
  obtain ⟨p, n, R, rfl, hE, h0, h1, k0⟩ := h
  refine Dh.Go.ent hE ?_
  refine (Dh.go_ex fun a => Dh.go_ex fun b => Dh.go_ex fun c => ?_)
  walk_at "vcs"
  all_goals
    refine Dh.Go.ent (Dh.ent_imp fun h e => ⟨_, _, _, e⟩) (Dh.g_toNat (Int.emod_nonneg _ (by omega)) (k0 _ ?_))
    rw [Int.toNat_of_nonneg (Int.emod_nonneg _ (by omega))]
    exact Int.emod_lt_of_pos _ h0
end
end Toy
end

section
local macro_rules | `(tactic| walk_at "pk") => `(tactic| (with_reducible first | exact Dh.pick_here | (refine' Dh.pick_there ?p; (case p => walk_at "pk"))))
local macro_rules | `(tactic| walk_at "ent") => `(tactic| first | (with_reducible exact Dh.ent_refl) | (with_reducible exact Dh.ent_nil) | (refine' Dh.ent_cons ?q0 ?k; (case q0 => walk_at "pk"); (case k => walk_at "ent")) | (refine' Dh.ent_drop ?k; (case k => walk_at "ent")))
local macro_rules | `(tactic| walk_at "side") => `(tactic| first | (with_reducible assumption) | omega | decide | (exact Or.inl rfl) | (exact Or.inr rfl) | (exact Dh.log2_ok (by omega)) | (simp only [L2.CMul, L2.CDiv, L2.CDivN]; omega) | (unfold L2.CPow; decide) | (simp only [List.length_cons, List.length_nil, List.length_append, List.length_map, List.length_range, List.length_replicate, List.length_set, List.length_take, List.length_drop, PySem.sizeLine_eq] <;> omega))
local macro_rules | `(tactic| walk_at "dvp") => `(tactic| (with_reducible first | exact Dh.DV.int | exact Dh.DV.str | exact Dh.DV.bl | exact Dh.DV.non | exact Dh.DVs.nil | (refine' Dh.Pick.dvs ?a (by assumption); (case a => walk_at "pk")) | (refine' Dh.Pick.dv ?a (by assumption); (case a => walk_at "pk")) | (refine' Dh.DVs.cons ?a ?b; (case a => walk_at "dvp"); (case b => walk_at "dvp")) | (refine' Dh.DVs.app ?a ?b; (case a => walk_at "dvp"); (case b => walk_at "dvp")) | (refine' Dh.Pick.tup ?a (by assumption) ?b; (case a => walk_at "pk"); (case b => walk_at "dvp")) | (refine' Dh.DVs.take _ ?a; (case a => walk_at "dvp")) | (refine' Dh.DVs.drop _ ?a; (case a => walk_at "dvp")) | (refine' Dh.DVs.set _ ?a ?b; (case a => walk_at "dvp"); (case b => walk_at "dvp"))))
local macro_rules | `(tactic| walk_at "ixs") => `(tactic| first | assumption | omega | (simp only [List.length_set, List.length_map, List.length_cons, List.length_nil, List.length_append, List.length_replicate] <;> first | assumption | omega))
local macro_rules | `(tactic| walk_at "lk") => `(tactic| first | rfl | assumption | (exact Dh.ixN_lt (by walk_at "ixs")) | (exact Dh.atI_lt (by assumption)) | (exact Dh.atI_map (by assumption))  | with_reducible exact Toy.lk_Register_wide | with_reducible exact Toy.lk_Register_fields | with_reducible exact Toy.lk_Register_word | with_reducible exact Toy.lk_Register_written | with_reducible exact Toy.lk_Register_pulses | with_reducible exact Toy.no_Register_init | with_reducible exact Toy.no_Register_read | with_reducible exact Toy.no_Register_write | with_reducible exact Toy.no_Register_row_of | with_reducible exact Toy.no_Register_get | with_reducible exact Toy.no_Register_put)
local macro_rules | `(tactic| walk_at "kt") => `(tactic| assumption)
local macro_rules | `(tactic| walk_at "pf") => `(tactic| first  | with_reducible exact Toy.pf_Register_wide | with_reducible exact Toy.pf_Register_fields | with_reducible exact Toy.pf_Register_word | with_reducible exact Toy.pf_Register_written | with_reducible exact Toy.pf_Register_pulses | with_reducible exact Toy.gr_Register_wide | with_reducible exact Toy.gr_Register_fields | with_reducible exact Toy.gr_Register_word | with_reducible exact Toy.gr_Register_written | with_reducible exact Toy.gr_Register_pulses | rfl)
local macro_rules | `(tactic| walk_at "ln") => `(tactic| first  | with_reducible exact Toy.ln_Register | decide | (simp only [List.length_cons, List.length_nil] <;> omega))
local macro_rules | `(tactic| walk_at "hasm") => `(tactic| first | (refine' Dh.hasM_ob ?q0 ?q1; (case q0 => walk_at "pk"); (case q1 => walk_at "lk")))
local macro_rules | `(tactic| walk_at "vcp0") => `(tactic| first | ((with_reducible refine' Dh.g_seq ?k)) | ((with_reducible refine' Dh.g_next ?k)) | ((with_reducible refine' Dh.g_nonA ?k)) | ((with_reducible refine' Dh.g_var ?q0 ?k); (case q0 => rfl)) | ((with_reducible refine' Dh.g_c ?k)) | ((with_reducible refine' Dh.g_op ?k)) | ((with_reducible refine' Dh.g_asg ?k)) | ((with_reducible refine' Dh.g_name ?k)) | ((with_reducible refine' Dh.g_ifS ?k)) | ((with_reducible refine' Dh.g_test ?k)) | ((with_reducible refine' Dh.g_isB ?k)) | ((with_reducible refine' Dh.g_B ?k)) | ((with_reducible refine' Dh.g_ret ?k)) | ((with_reducible refine' Dh.g_retN ?k)) | ((with_reducible refine' Dh.g_drop ?k)) | ((with_reducible refine' Dh.g_brk ?k)) | ((with_reducible refine' Dh.g_cont ?k)) | ((with_reducible refine' Dh.g_un ?k)) | ((with_reducible refine' Dh.g_I0 ?k)) | ((with_reducible refine' Dh.g_addI ?k)) | ((with_reducible refine' Dh.g_addB ?k)) | ((with_reducible refine' Dh.g_addS ?q0 ?k); (case q0 => walk_at "side")) | ((with_reducible refine' Dh.g_addM ?q0 ?q1 ?q2 ?k); (case q0 => walk_at "pk"); (case q1 => walk_at "pk"); (case q2 => walk_at "side"); intro _) | ((with_reducible refine' Dh.g_addL ?q0 ?q1 ?q2 ?k); (case q0 => walk_at "pk"); (case q1 => walk_at "pk"); (case q2 => walk_at "side"); intro _))
local macro_rules | `(tactic| walk_at "vcp1") => `(tactic| first | ((with_reducible refine' Dh.g_I ?q0 ?k); (case q0 => walk_at "side")) | ((with_reducible refine' Dh.g_mulI ?q0 ?k); (case q0 => walk_at "side")) | ((with_reducible refine' Dh.g_U ?k)) | ((with_reducible refine' Dh.g_eqS ?q0 ?k); (case q0 => rfl)) | ((with_reducible refine' Dh.g_neS ?q0 ?k); (case q0 => rfl)) | ((with_reducible refine' Dh.g_eqLL ?q0 ?q1 ?k); (case q0 => walk_at "pk"); (case q1 => walk_at "pk")) | ((with_reducible refine' Dh.g_neLL ?q0 ?q1 ?k); (case q0 => walk_at "pk"); (case q1 => walk_at "pk")) | ((with_reducible refine' Dh.g_eqL0 ?q0 ?q1 ?k); (case q0 => walk_at "pk"); (case q1 => walk_at "pk")) | ((with_reducible refine' Dh.g_neL0 ?q0 ?q1 ?k); (case q0 => walk_at "pk"); (case q1 => walk_at "pk")) | ((with_reducible refine' Dh.g_neT0 ?q0 ?q1 ?q2 ?k); (case q0 => walk_at "pk"); (case q1 => walk_at "pk"); (case q2 => walk_at "pk")) | ((with_reducible refine' Dh.g_neP ?q0 ?q1 ?k); (case q0 => walk_at "pk"); (case q1 => walk_at "pk")) | ((with_reducible refine' Dh.g_inI ?q0 ?k); (case q0 => walk_at "pk")) | ((with_reducible refine' Dh.g_isN ?k)) | ((with_reducible refine' Dh.g_notN ?k)) | ((with_reducible refine' Dh.g_ixL ?q0 ?q1 ?k); (case q0 => walk_at "pk"); (case q1 => walk_at "lk")) | ((with_reducible refine' Dh.g_ixT ?q0 ?q1 ?k); (case q0 => walk_at "pk"); (case q1 => walk_at "lk")) | ((with_reducible refine' Dh.g_sl ?k)) | ((with_reducible refine' Dh.g_noPart ?k)) | ((with_reducible refine' Dh.g_part ?k)) | ((with_reducible refine' Dh.g_isSomeInt ?k)) | ((with_reducible refine' Dh.g_slTk ?q0 ?k); (case q0 => walk_at "pk"); intro _) | ((with_reducible refine' Dh.g_slDr ?q0 ?k); (case q0 => walk_at "pk"); intro _) | ((with_reducible refine' Dh.g_slL ?q0 ?k); (case q0 => walk_at "pk"); intro _) | ((with_reducible refine' Dh.g_slQTk ?q0 ?k); (case q0 => walk_at "pk"); intro _))
local macro_rules | `(tactic| walk_at "vcp2") => `(tactic| first | ((with_reducible refine' Dh.g_slQ ?q0 ?k); (case q0 => walk_at "pk"); intro _) | ((with_reducible refine' Dh.g_fldE ?k)) | ((with_reducible refine' Dh.g_fld ?q0 ?q1 ?k); (case q0 => walk_at "pk"); (case q1 => walk_at "lk")) | ((with_reducible refine' Dh.g_tup ?k)) | ((with_reducible refine' Dh.g_lst ?k)) | ((with_reducible refine' Dh.g_newT ?q0 ?k); (case q0 => walk_at "side"); intro _) | ((with_reducible refine' Dh.g_newL ?q0 ?k); (case q0 => walk_at "side"); intro _) | ((with_reducible refine' Dh.g_nil ?k)) | ((with_reducible refine' Dh.g_cons ?k)) | ((with_reducible refine' Dh.g_call ?k)) | ((with_reducible refine' Dh.g_methE ?k)) | ((with_reducible refine' Dh.g_meth ?q0 ?k); (case q0 => walk_at "hasm")) | ((with_reducible refine' Dh.g_make ?k)) | ((with_reducible refine' Dh.g_made ?k); intro _) | ((with_reducible refine' Dh.g_cb ?k)) | ((with_reducible refine' Dh.g_int ?k)) | ((with_reducible refine' Dh.g_intB ?k)) | ((with_reducible refine' Dh.g_abs ?k)) | ((with_reducible refine' Dh.g_max2 ?k)) | ((with_reducible refine' Dh.g_min2 ?k)) | ((with_reducible refine' Dh.g_strI ?q0 ?k); (case q0 => walk_at "side")) | ((with_reducible refine' Dh.g_lenL ?q0 ?k); (case q0 => walk_at "pk")) | ((with_reducible refine' Dh.g_lenT ?q0 ?k); (case q0 => walk_at "pk")) | ((with_reducible refine' Dh.g_lenD ?q0 ?k); (case q0 => walk_at "pk")))
local macro_rules | `(tactic| walk_at "vcp3") => `(tactic| first | ((with_reducible refine' Dh.g_listL ?q0 ?k); (case q0 => walk_at "pk"); intro _) | ((with_reducible refine' Dh.g_listT ?q0 ?k); (case q0 => walk_at "pk"); intro _) | ((with_reducible refine' Dh.g_tupL ?q0 ?k); (case q0 => walk_at "pk"); intro _) | ((with_reducible refine' Dh.g_tupT ?q0 ?k); (case q0 => walk_at "pk")) | ((with_reducible refine' Dh.g_pop0 ?q0 ?k); (case q0 => walk_at "pk")) | ((with_reducible refine' Dh.g_bm ?k)) | ((with_reducible refine' Dh.g_bm0 ?k)) | ((with_reducible refine' Dh.g_tyL ?q0 ?k); (case q0 => walk_at "pk")) | ((with_reducible refine' Dh.g_append ?q0 ?q1 ?k); (case q0 => walk_at "pk"); (case q1 => walk_at "side")) | ((with_reducible refine' Dh.g_rep ?q0 ?q1 ?q2 ?q3 ?k); (case q0 => walk_at "pk"); (case q1 => walk_at "side"); (case q2 => walk_at "side"); (case q3 => walk_at "side"); intro _) | ((with_reducible refine' Dh.g_not ?k)) | ((with_reducible refine' Dh.g_tand ?k)) | ((with_reducible refine' Dh.g_tor ?k)) | ((with_reducible refine' Dh.g_andV ?k)) | ((with_reducible refine' Dh.g_orV ?k)) | ((with_reducible refine' Dh.g_notV ?k)) | ((with_reducible refine' Dh.g_ifE ?k)) | ((with_reducible refine' Dh.g_chain ?k)) | ((with_reducible refine' Dh.g_tru ?k)) | ((with_reducible refine' Dh.g_truB ?k)) | ((with_reducible refine' Dh.g_truI ?k)) | ((with_reducible refine' Dh.g_truN ?k)) | ((with_reducible refine' Dh.g_truL ?q0 ?k); (case q0 => walk_at "pk")) | ((with_reducible refine' Dh.g_gsub ?k)))
local macro_rules | `(tactic| walk_at "vcp4") => `(tactic| first | ((with_reducible refine' Dh.g_setM ?q0 ?q1 ?k); (case q0 => walk_at "pk"); (case q1 => walk_at "lk")) | ((with_reducible refine' Dh.g_setL ?q0 ?q1 ?k); (case q0 => walk_at "pk"); (case q1 => walk_at "lk")) | ((with_reducible refine' Dh.g_gtup ?q0 ?q1 ?k); (case q0 => walk_at "pk"); (case q1 => rfl)) | ((with_reducible refine' Dh.g_gnil ?k)) | ((with_reducible refine' Dh.g_gcons ?k)) | ((with_reducible refine' Dh.g_par ?k)) | ((with_reducible refine' Dh.g_par2 ?k)) | ((with_reducible refine' Dh.g_par3 ?k)) | ((with_reducible refine' Dh.g_par3b ?k)) | ((with_reducible refine' Dh.g_listRg ?k)) | ((with_reducible refine' Dh.g_rg1E ?k)) | ((with_reducible refine' Dh.g_rg1 ?k)) | ((with_reducible refine' Dh.g_rgN ?q0 ?k); (case q0 => walk_at "side"); intro _) | ((with_reducible refine' Dh.g_rgL ?q0 ?k); (case q0 => walk_at "side"); intro _) | ((with_reducible refine' Dh.g_dinE ?k)) | ((with_reducible refine' Dh.g_dinI ?q0 ?k); (case q0 => walk_at "pk")) | ((with_reducible refine' Dh.g_dnotinE ?k)) | ((with_reducible refine' Dh.g_dnotinI ?q0 ?k); (case q0 => walk_at "pk")) | ((with_reducible refine' Dh.g_dgetE ?k)) | ((with_reducible refine' Dh.g_dgetI ?q0 ?q1 ?k); (case q0 => walk_at "pk"); (case q1 => walk_at "lk")) | ((with_reducible refine' Dh.g_dputE ?k)) | ((with_reducible refine' Dh.g_dputI ?q0 ?q1 ?k); (case q0 => walk_at "pk"); (case q1 => walk_at "side")) | ((with_reducible refine' Dh.g_dpopE ?k)) | ((with_reducible refine' Dh.g_dpopA ?q0 ?k); (case q0 => walk_at "pk")))
local macro_rules | `(tactic| walk_at "vcp5") => `(tactic| first | ((with_reducible refine' Dh.g_dpopB ?q0 ?q1 ?k); (case q0 => walk_at "pk"); (case q1 => walk_at "lk")) | ((with_reducible refine' Dh.g_dnew ?k); intro _) | ((with_reducible refine' Dh.g_ipMul ?q0 ?k); (case q0 => walk_at "side")) | ((with_reducible refine' Dh.g_sfldE ?k)) | ((with_reducible refine' Dh.g_sfld ?q0 ?q1 ?q2 ?k); (case q0 => walk_at "pk"); (case q1 => walk_at "pf"); (case q2 => walk_at "ln")) | ((with_reducible refine' Dh.g_augE ?k)) | ((with_reducible refine' Dh.g_augF ?q0 ?q1 ?k); (case q0 => walk_at "pk"); (case q1 => walk_at "lk")) | ((with_reducible refine' Dh.g_augV ?q0 ?k); (case q0 => rfl)) | ((with_reducible refine' Dh.g_ipI ?k)) | ((with_reducible refine' Dh.g_rAdd ?k)) | ((with_reducible refine' Dh.g_rSub ?k)) | ((with_reducible refine' Dh.g_for ?k)) | ((with_reducible refine' Dh.g_iRng1 ?k)) | ((with_reducible refine' Dh.g_iRng2 ?k)) | ((with_reducible refine' Dh.g_rng1 ?q0 ?q1 ?k); (case q0 => walk_at "side"); (case q1 => walk_at "side")) | ((with_reducible refine' Dh.g_rng2 ?q0 ?k); (case q0 => walk_at "side")) | ((with_reducible refine' Dh.g_iSeqE ?k)) | ((with_reducible refine' Dh.g_iSeqL ?q0 ?k); (case q0 => walk_at "pk")) | ((with_reducible refine' Dh.g_iSeqT ?q0 ?k); (case q0 => walk_at "pk")) | ((with_reducible refine' Dh.g_inK ?q0 ?k); (case q0 => walk_at "kt")) | ((with_reducible refine' Dh.g_notInK ?q0 ?k); (case q0 => walk_at "kt")) | ((with_reducible refine' Dh.g_isiII ?k)) | ((with_reducible refine' Dh.g_isiIB ?k)) | ((with_reducible refine' Dh.g_dinS ?q0 ?k); (case q0 => walk_at "pk")))
local macro_rules | `(tactic| walk_at "vcp6") => `(tactic| first | ((with_reducible refine' Dh.g_dnotinS ?q0 ?k); (case q0 => walk_at "pk")) | ((with_reducible refine' Dh.g_dgetS ?q0 ?q1 ?k); (case q0 => walk_at "pk"); (case q1 => walk_at "lk")) | ((with_reducible refine' Dh.g_dputS ?q0 ?q1 ?k); (case q0 => walk_at "pk"); (case q1 => walk_at "side")) | ((with_reducible refine' Dh.g_dpopS ?q0 ?q1 ?k); (case q0 => walk_at "pk"); (case q1 => walk_at "lk")) | ((with_reducible refine' Dh.g_iRevE ?k)) | ((with_reducible refine' Dh.g_iRevL ?q0 ?k); (case q0 => walk_at "pk")) | ((with_reducible refine' Dh.g_iRevT ?q0 ?k); (case q0 => walk_at "pk")) | ((with_reducible refine' Dh.g_iZipE ?k)) | ((with_reducible refine' Dh.g_iZipL ?q0 ?q1 ?k); (case q0 => walk_at "pk"); (case q1 => walk_at "pk")) | ((with_reducible refine' Dh.g_iZipT ?q0 ?q1 ?k); (case q0 => walk_at "pk"); (case q1 => walk_at "pk")) | ((with_reducible refine' Dh.g_iEnumE ?k)) | ((with_reducible refine' Dh.g_iEnum ?q0 ?k); (case q0 => walk_at "pk")) | ((with_reducible refine' Dh.g_dcE ?k)) | ((with_reducible refine' Dh.g_dturn ?k)) | ((with_reducible refine' Dh.g_sum ?q0 ?k); (case q0 => walk_at "pk")) | ((with_reducible refine' Dh.g_pop ?q0 ?q1 ?k); (case q0 => walk_at "pk"); (case q1 => walk_at "lk")) | ((with_reducible refine' Dh.g_wbody ?k)) | ((with_reducible refine' Dh.g_lcE ?k)) | ((with_reducible refine' Dh.g_turn ?k)) | ((with_reducible refine' Dh.g_tYes ?k)) | ((with_reducible refine' Dh.g_rs ?k)) | ((with_reducible refine' Dh.g_rsW ?k)) | ((with_reducible refine' Dh.g_told ?k)) | ((with_reducible refine' Dh.g_ifT ?q0 ?k); (case q0 => rfl)))
local macro_rules | `(tactic| walk_at "vcp7") => `(tactic| first | ((with_reducible refine' Dh.g_ifF ?q0 ?k); (case q0 => rfl)) | ((with_reducible refine' Dh.g_and ?q0 ?k); (case q0 => rfl)) | ((with_reducible refine' Dh.g_turn ?k)))
local macro_rules | `(tactic| walk_at "vc1") => `(tactic| first | walk_at "vcp0" | walk_at "vcp1" | walk_at "vcp2" | walk_at "vcp3" | walk_at "vcp4" | walk_at "vcp5" | walk_at "vcp6" | walk_at "vcp7" | walk_at "use1" | walk_at "told1")
local macro_rules | `(tactic| walk_at "vc") => `(tactic| repeat walk_at "vc1")
local macro_rules | `(tactic| walk_at "spl") => `(tactic| first | ((with_reducible refine Dh.g_ifD ?_ ?_) <;> intro _) | ((with_reducible refine Dh.g_ifN ?_ ?_) <;> intro _) | ((with_reducible refine Dh.g_if ?_ ?_) <;> intro _))
local macro_rules | `(tactic| walk_at "vcs") => `(tactic| repeat' (first | walk_at "vc1" | walk_at "spl"))
local macro_rules | `(tactic| walk_at "told1") => `(tactic| first | ((with_reducible refine' Dh.g_toldY (Toy.Txt.x_BadWord_BadWord ?z) ?k); (case z => assumption)))
local macro_rules | `(tactic| walk_at "use1") => `(tactic| ((with_reducible refine' Toy.use_law_dice (fun _ _ _ _ => ?k0))))
local macro_rules | `(tactic| walk_at "use1") => `(tactic| ((with_reducible refine' Toy.use_law_roll ?q0 ?h0 ?h1 (fun _ _ => ?k0)); (case q0 => walk_at "pk"); (case h0 => walk_at "side"); (case h1 => walk_at "side")))
namespace Toy
open PySem L2
section
variable {P : Program} {w : World} {K : PySem.W.Frag} {mg : Str → Option Value} {base : Heap} {T : List (Addr × Str)} {C_Register C_BadWord C_BadPlace C_BadPlan C_NotDue C_Stuck C_BadBits C_BadText C_TooLarge g_told g_RULES : Addr}
/-! powers of two, fields, bits -/
def pw (n : Int) : Int := 2 ^ n.toNat
theorem pw_pos (n : Int) : 0 < pw n := Int.pow_pos (by decide)
theorem pw_nat (k : Nat) : pw (k : Int) = 2 ^ k := rfl
theorem pw_succ (k : Nat) : pw ((k + 1 : Nat) : Int) = pw (k : Int) * 2 := by rw [pw_nat, pw_nat, Int.pow_succ]
theorem pw_mono {a b : Nat} (h : a ≤ b) : pw (a : Int) ≤ pw (b : Int) := by
  induction b with
  | zero => rw [Nat.le_zero.mp h]; exact Int.le_refl _
  | succ b ih =>
    rcases Nat.lt_or_ge b a with q | q
    · rw [show a = b + 1 by omega]; exact Int.le_refl _
    · have := ih q
      have := pw_pos (b : Int)
      rw [pw_succ]
      omega
theorem pw_le {n : Int} (h : n ≤ 24) : pw n ≤ 16777216 := by
  have h1 := pw_mono (a := n.toNat) (b := 24) (by omega)
  rw [show pw ((24 : Nat) : Int) = 16777216 from rfl] at h1
  exact h1
def fld (w l n : Int) : Int := w / pw l % pw n
def wf (w l n m : Int) : Int := w + (m - fld w l n) * pw l
def bitsL (w : Int) (n : Nat) : List Int := (List.range n).map fun k : Nat => fld w k 1
def ofB : List Int → Int
  | [] => 0
  | b :: bs => 2 * ofB bs + b
def toct (w : Int) (n : Nat) : Int := (List.range n).foldl (fun (f : Int) (k : Nat) => f * 256 + w / pw (8 * (k : Int)) % 256) 0
theorem bitsL_len {w : Int} {n : Nat} : (bitsL w n).length = n := by simp [bitsL]
def sg_power (T : List (Addr × Str)) (K : PySem.W.Frag) (C_Register C_BadWord C_BadPlace C_BadPlan C_NotDue C_Stuck C_BadBits C_BadText C_TooLarge g_told g_RULES : Addr) : Dh.SG :=
  fun zs L Q E => ∃ (n : Int) (R : List Dh.HP), zs = [.int n] ∧ Dh.Ent L (R) ∧ (0 ≤ n) ∧ (n ≤ 40) ∧ (Dh.Go T (R) fun H => Q (.int (pw n)) H)
theorem use_power {L  : List Dh.HP} {Q : VK} {E : XK} {n : Int}  (h0 : 0 ≤ n) (h1 : n ≤ 40) (k0 : Dh.Go T (L) fun H => Q (.int (pw n)) H) : Dh.Go T L fun H => Dh.sOfN T 1 (sg_power T K C_Register C_BadWord C_BadPlace C_BadPlan C_NotDue C_Stuck C_BadBits C_BadText C_TooLarge g_told g_RULES) [.int n] H Q E := Dh.g_sp rfl ⟨n, L, rfl, Dh.ent_refl, h0, h1, k0⟩
local macro_rules | `(tactic| walk_at "use1") => `(tactic| ((with_reducible refine' Toy.use_power ?h0 ?h1 ?k0); (case h0 => walk_at "side"); (case h1 => walk_at "side")))
set_option maxHeartbeats 8000000 in
theorem ok_power (Z : Txt K mg C_Register C_BadWord C_BadPlace C_BadPlan C_NotDue C_Stuck C_BadBits C_BadText C_TooLarge g_told g_RULES)  {f : Addr} {fd : FuncData} {cdv : Value} (F : Dh.FunC K "power" "power" s_power f fd cdv) :
    FnOk P w K mg base (L2.CX P w) 1 f fd ["count"] (Dh.sOfN T 1 (sg_power T K C_Register C_BadWord C_BadPlace C_BadPlan C_NotDue C_Stuck C_BadBits C_BadText C_TooLarge g_told g_RULES)) := by
  refine Dh.fnX (k := 0) F sc_power rfl (fun A outer s H0 L vs Q E hr hl h => ?_)
  refine ⟨_, (pss_cons (ps_set (i := 1) sc_power.nd rfl (by first | exact Or.inl rfl | exact Or.inr rfl) pe_int)
    (pss_cons (ps_for (passes_of rfl) rfl (pi_range1 rfl Z.b_range (pa_cons (pv 0) pa_nil)) (pg_name (i := 2) sc_power.nd rfl (by first | exact Or.inl rfl | exact Or.inr rfl))
    (pss_one (ps_aug (i := 1) sc_power.nd rfl (by first | exact Or.inl rfl | exact Or.inr rfl) pe_int Dh.ipMulR)))
    (pss_one (ps_ret (pv 1))))), ?_⟩
  try dsimp only [L2.cxOf, L2.Cx.blk, LamX.lamCx, L2.Cx.tr]
  obtain ⟨n, R, rfl, hE, h0, h1, k0⟩ := h
  refine Dh.Go.ent hE ?_
  walk_at "vc"
  refine Dh.g_forR (n := n.toNat) (lo := 0) (fun i σ L => ∃ v, σ = [some (.int n), some (.int (pw (i : Int))), v] ∧ Dh.Ent L R) ⟨_, rfl, Dh.ent_refl⟩ ?_ ?_
  · rintro i σ L hi ⟨v, rfl, hE⟩
    walk_at "vc"
    exact Dh.SI.in ⟨_, by rw [pw_succ]; rfl, hE⟩
  · rintro σ L ⟨v, rfl, hE⟩
    walk_at "vc"
    exact k0.ent hE
def sg_check_word (T : List (Addr × Str)) (K : PySem.W.Frag) (C_Register C_BadWord C_BadPlace C_BadPlan C_NotDue C_Stuck C_BadBits C_BadText C_TooLarge g_told g_RULES : Addr) : Dh.SG :=
  fun zs L Q E => ∃ (w : Int) (n : Int) (R : List Dh.HP), zs = [.int w, .int n] ∧ Dh.Ent L (R) ∧ (0 ≤ n) ∧ (n ≤ 40) ∧ (¬ (0 ≤ w ∧ w < pw n) → Dh.Go T (R) fun H => E (.ref C_BadWord) none H) ∧ (0 ≤ w → w < pw n → Dh.Go T (R) fun H => Q .non H)
theorem use_check_word {L  : List Dh.HP} {Q : VK} {E : XK} {w : Int} {n : Int}  (h0 : 0 ≤ n) (h1 : n ≤ 40) (k0 : ¬ (0 ≤ w ∧ w < pw n) → Dh.Go T (L) fun H => E (.ref C_BadWord) none H) (k1 : 0 ≤ w → w < pw n → Dh.Go T (L) fun H => Q .non H) : Dh.Go T L fun H => Dh.sOfN T 2 (sg_check_word T K C_Register C_BadWord C_BadPlace C_BadPlan C_NotDue C_Stuck C_BadBits C_BadText C_TooLarge g_told g_RULES) [.int w, .int n] H Q E := Dh.g_sp rfl ⟨w, n, L, rfl, Dh.ent_refl, h0, h1, k0, k1⟩
local macro_rules | `(tactic| walk_at "use") => `(tactic| ((with_reducible refine' Toy.use_check_word ?h0 ?h1 (fun _ => ?k0) (fun _ _ => ?k1)); (case h0 => walk_at "side"); (case h1 => walk_at "side")))
set_option maxHeartbeats 8000000 in
theorem ok_check_word (Z : Txt K mg C_Register C_BadWord C_BadPlace C_BadPlan C_NotDue C_Stuck C_BadBits C_BadText C_TooLarge g_told g_RULES) (c_power : Dh.CalX P w K mg base 1 "power" (Dh.sOfN T 1 (sg_power T K C_Register C_BadWord C_BadPlace C_BadPlan C_NotDue C_Stuck C_BadBits C_BadText C_TooLarge g_told g_RULES))) {f : Addr} {fd : FuncData} {cdv : Value} (F : Dh.FunC K "check_word" "check_word" s_check_word f fd cdv) :
    FnOk P w K mg base (L2.CX P w) 2 f fd ["word", "wide"] (Dh.sOfN T 2 (sg_check_word T K C_Register C_BadWord C_BadPlace C_BadPlan C_NotDue C_Stuck C_BadBits C_BadText C_TooLarge g_told g_RULES)) := by
  refine Dh.fnX (k := 1) F sc_check_word rfl (fun A outer s H0 L vs Q E hr hl h => ?_)
  refine ⟨_, (pss_one (ps_if (PW.pt (pw_or (pt_not (Dh.ptTru (K := K) rfl (pe_callB (Dh.cIsi (K := K) rfl) (by rfl) Z.b_isinstance (by first | exact PySem.boot_isinstance | exact PyProof.Rows.boot_isinstance | decide +kernel) (pa_cons (pv 0) (pa_cons (pe_bltn (v := .ty "int") (by rfl) Z.b_int (by first | exact PySem.boot_int | exact PyProof.Rows.boot_int | decide +kernel) rfl) pa_nil))))) (pw_or (Dh.ptTru (K := K) rfl (pe_callB (Dh.cIsi (K := K) rfl) (by rfl) Z.b_isinstance (by first | exact PySem.boot_isinstance | exact PyProof.Rows.boot_isinstance | decide +kernel) (pa_cons (pv 0) (pa_cons (pe_bltn (v := .ty "bool") (by rfl) Z.b_bool (by first | exact PySem.boot_bool | exact PyProof.Rows.boot_bool | decide +kernel) rfl) pa_nil)))) (pw_or1 (pt_not (pt_chain op_le op_lt pe_int (pv 0) (Dh.pe_cal c_power hr (by decide) (passes_call (takes_of rfl rfl rfl rfl) (fun _ _ _ _ h => h)) rfl (pa_cons (pv 1) pa_nil))))))))
    (pss_one (Dh.ps_rs rfl (takes_of rfl rfl rfl rfl) Z.e_BadWord rfl))
    pss_nil)), ?_⟩
  try dsimp only [L2.cxOf, L2.Cx.blk, LamX.lamCx, L2.Cx.tr]
  obtain ⟨w, n, R, rfl, hE, h0, h1, k0, k1⟩ := h
  refine Dh.Go.ent hE ?_
  walk_at "vcs"
  all_goals first | exact k1 (by assumption) (by assumption) | exact k0 (by omega)
def sg_field (T : List (Addr × Str)) (K : PySem.W.Frag) (C_Register C_BadWord C_BadPlace C_BadPlan C_NotDue C_Stuck C_BadBits C_BadText C_TooLarge g_told g_RULES : Addr) : Dh.SG :=
  fun zs L Q E => ∃ (w : Int) (l : Int) (n : Int) (R : List Dh.HP), zs = [.int w, .int l, .int n] ∧ Dh.Ent L (R) ∧ (0 ≤ l) ∧ (l ≤ 24) ∧ (0 ≤ n) ∧ (n ≤ 24) ∧ (Dh.Go T (R) fun H => Q (.int (fld w l n)) H)
theorem use_field {L  : List Dh.HP} {Q : VK} {E : XK} {w : Int} {l : Int} {n : Int}  (h0 : 0 ≤ l) (h1 : l ≤ 24) (h2 : 0 ≤ n) (h3 : n ≤ 24) (k0 : Dh.Go T (L) fun H => Q (.int (fld w l n)) H) : Dh.Go T L fun H => Dh.sOfN T 3 (sg_field T K C_Register C_BadWord C_BadPlace C_BadPlan C_NotDue C_Stuck C_BadBits C_BadText C_TooLarge g_told g_RULES) [.int w, .int l, .int n] H Q E := Dh.g_sp rfl ⟨w, l, n, L, rfl, Dh.ent_refl, h0, h1, h2, h3, k0⟩
local macro_rules | `(tactic| walk_at "use1") => `(tactic| ((with_reducible refine' Toy.use_field ?h0 ?h1 ?h2 ?h3 ?k0); (case h0 => walk_at "side"); (case h1 => walk_at "side"); (case h2 => walk_at "side"); (case h3 => walk_at "side")))
set_option maxHeartbeats 8000000 in
theorem ok_field (Z : Txt K mg C_Register C_BadWord C_BadPlace C_BadPlan C_NotDue C_Stuck C_BadBits C_BadText C_TooLarge g_told g_RULES) (c_power : Dh.CalX P w K mg base 1 "power" (Dh.sOfN T 1 (sg_power T K C_Register C_BadWord C_BadPlace C_BadPlan C_NotDue C_Stuck C_BadBits C_BadText C_TooLarge g_told g_RULES))) {f : Addr} {fd : FuncData} {cdv : Value} (F : Dh.FunC K "field" "field" s_field f fd cdv) :
    FnOk P w K mg base (L2.CX P w) 2 f fd ["word", "low", "wide"] (Dh.sOfN T 3 (sg_field T K C_Register C_BadWord C_BadPlace C_BadPlan C_NotDue C_Stuck C_BadBits C_BadText C_TooLarge g_told g_RULES)) := by
  refine Dh.fnX (k := 1) F sc_field rfl (fun A outer s H0 L vs Q E hr hl h => ?_)
  refine ⟨_, (pss_one (ps_ret (pe_op op_mod (pe_op op_fdiv (pv 0) (Dh.pe_cal c_power hr (by decide) (passes_call (takes_of rfl rfl rfl rfl) (fun _ _ _ _ h => h)) rfl (pa_cons (pv 1) pa_nil))) (Dh.pe_cal c_power hr (by decide) (passes_call (takes_of rfl rfl rfl rfl) (fun _ _ _ _ h => h)) rfl (pa_cons (pv 2) pa_nil))))), ?_⟩
  try dsimp only [L2.cxOf, L2.Cx.blk, LamX.lamCx, L2.Cx.tr]
  obtain ⟨w, l, n, R, rfl, hE, h0, h1, h2, h3, k0⟩ := h
  refine Dh.Go.ent hE ?_
  have hp1 := pw_pos l
  have hp2 := pw_le h1
  have hp3 := pw_pos n
  have hp4 := pw_le h3
  walk_at "vc"
  exact k0
def sg_with_field (T : List (Addr × Str)) (K : PySem.W.Frag) (C_Register C_BadWord C_BadPlace C_BadPlan C_NotDue C_Stuck C_BadBits C_BadText C_TooLarge g_told g_RULES : Addr) : Dh.SG :=
  fun zs L Q E => ∃ (w : Int) (l : Int) (n : Int) (m : Int) (R : List Dh.HP), zs = [.int w, .int l, .int n, .int m] ∧ Dh.Ent L (R) ∧ (0 ≤ l) ∧ (l ≤ 24) ∧ (0 ≤ n) ∧ (n ≤ 24) ∧ (¬ (0 ≤ m ∧ m < pw n) → Dh.Go T (R) fun H => E (.ref C_BadWord) none H) ∧ (0 ≤ m → m < pw n → Dh.Go T (R) fun H => Q (.int (wf w l n m)) H)
theorem use_with_field {L  : List Dh.HP} {Q : VK} {E : XK} {w : Int} {l : Int} {n : Int} {m : Int}  (h0 : 0 ≤ l) (h1 : l ≤ 24) (h2 : 0 ≤ n) (h3 : n ≤ 24) (k0 : ¬ (0 ≤ m ∧ m < pw n) → Dh.Go T (L) fun H => E (.ref C_BadWord) none H) (k1 : 0 ≤ m → m < pw n → Dh.Go T (L) fun H => Q (.int (wf w l n m)) H) : Dh.Go T L fun H => Dh.sOfN T 4 (sg_with_field T K C_Register C_BadWord C_BadPlace C_BadPlan C_NotDue C_Stuck C_BadBits C_BadText C_TooLarge g_told g_RULES) [.int w, .int l, .int n, .int m] H Q E := Dh.g_sp rfl ⟨w, l, n, m, L, rfl, Dh.ent_refl, h0, h1, h2, h3, k0, k1⟩
local macro_rules | `(tactic| walk_at "use") => `(tactic| ((with_reducible refine' Toy.use_with_field ?h0 ?h1 ?h2 ?h3 (fun _ => ?k0) (fun _ _ => ?k1)); (case h0 => walk_at "side"); (case h1 => walk_at "side"); (case h2 => walk_at "side"); (case h3 => walk_at "side")))
set_option maxHeartbeats 8000000 in
theorem ok_with_field (Z : Txt K mg C_Register C_BadWord C_BadPlace C_BadPlan C_NotDue C_Stuck C_BadBits C_BadText C_TooLarge g_told g_RULES) (c_check_word : Dh.CalX P w K mg base 2 "check_word" (Dh.sOfN T 2 (sg_check_word T K C_Register C_BadWord C_BadPlace C_BadPlan C_NotDue C_Stuck C_BadBits C_BadText C_TooLarge g_told g_RULES))) (c_field : Dh.CalX P w K mg base 2 "field" (Dh.sOfN T 3 (sg_field T K C_Register C_BadWord C_BadPlace C_BadPlan C_NotDue C_Stuck C_BadBits C_BadText C_TooLarge g_told g_RULES))) (c_power : Dh.CalX P w K mg base 1 "power" (Dh.sOfN T 1 (sg_power T K C_Register C_BadWord C_BadPlace C_BadPlan C_NotDue C_Stuck C_BadBits C_BadText C_TooLarge g_told g_RULES))) {f : Addr} {fd : FuncData} {cdv : Value} (F : Dh.FunC K "with_field" "with_field" s_with_field f fd cdv) :
    FnOk P w K mg base (L2.CX P w) 3 f fd ["word", "low", "wide", "much"] (Dh.sOfN T 4 (sg_with_field T K C_Register C_BadWord C_BadPlace C_BadPlan C_NotDue C_Stuck C_BadBits C_BadText C_TooLarge g_told g_RULES)) := by
  refine Dh.fnX (k := 2) F sc_with_field rfl (fun A outer s H0 L vs Q E hr hl h => ?_)
  refine ⟨_, (pss_cons (ps_expr (Dh.pe_cal c_check_word hr (by decide) (passes_call (takes_of rfl rfl rfl rfl) (fun _ _ _ _ h => h)) rfl (pa_cons (pv 3) (pa_cons (pv 2) pa_nil))))
    (pss_one (ps_ret (pe_op (Dh.oAdd (K := K) rfl) (pv 0) (pe_op (Dh.oMul (K := K) rfl) (pe_op op_sub (pv 3) (Dh.pe_cal c_field hr (by decide) (passes_call (takes_of rfl rfl rfl rfl) (fun _ _ _ _ h => h)) rfl (pa_cons (pv 0) (pa_cons (pv 1) (pa_cons (pv 2) pa_nil))))) (Dh.pe_cal c_power hr (by decide) (passes_call (takes_of rfl rfl rfl rfl) (fun _ _ _ _ h => h)) rfl (pa_cons (pv 1) pa_nil))))))), ?_⟩
  try dsimp only [L2.cxOf, L2.Cx.blk, LamX.lamCx, L2.Cx.tr]
  obtain ⟨w, l, n, m, R, rfl, hE, h0, h1, h2, h3, k0, k1⟩ := h
  refine Dh.Go.ent hE ?_
  have hp1 := pw_pos l
  have hp2 := pw_le h1
  walk_at "vc"
  walk_at "use"
  · exact k0 (by assumption)
  · walk_at "vc"
    exact k1 (by assumption) (by assumption)
def sg_bits (T : List (Addr × Str)) (K : PySem.W.Frag) (C_Register C_BadWord C_BadPlace C_BadPlan C_NotDue C_Stuck C_BadBits C_BadText C_TooLarge g_told g_RULES : Addr) : Dh.SG :=
  fun zs L Q E => ∃ (w : Int) (n : Int) (R : List Dh.HP), zs = [.int w, .int n] ∧ Dh.Ent L (R) ∧ (0 ≤ n) ∧ (n ≤ 24) ∧ (∀ (t : Addr), Dh.Go T ((Dh.pt t (.tup ((bitsL w n.toNat).map .int))) :: R) fun H => Q (.ref t) H)
theorem use_bits {L  : List Dh.HP} {Q : VK} {E : XK} {w : Int} {n : Int}  (h0 : 0 ≤ n) (h1 : n ≤ 24) (k0 : ∀ (t : Addr), Dh.Go T ((Dh.pt t (.tup ((bitsL w n.toNat).map .int))) :: L) fun H => Q (.ref t) H) : Dh.Go T L fun H => Dh.sOfN T 2 (sg_bits T K C_Register C_BadWord C_BadPlace C_BadPlan C_NotDue C_Stuck C_BadBits C_BadText C_TooLarge g_told g_RULES) [.int w, .int n] H Q E := Dh.g_sp rfl ⟨w, n, L, rfl, Dh.ent_refl, h0, h1, k0⟩
local macro_rules | `(tactic| walk_at "use1") => `(tactic| ((with_reducible refine' Toy.use_bits ?h0 ?h1 (fun _ => ?k0)); (case h0 => walk_at "side"); (case h1 => walk_at "side")))
set_option maxHeartbeats 8000000 in
theorem ok_bits (Z : Txt K mg C_Register C_BadWord C_BadPlace C_BadPlan C_NotDue C_Stuck C_BadBits C_BadText C_TooLarge g_told g_RULES) (c_field : Dh.CalX P w K mg base 2 "field" (Dh.sOfN T 3 (sg_field T K C_Register C_BadWord C_BadPlace C_BadPlan C_NotDue C_Stuck C_BadBits C_BadText C_TooLarge g_told g_RULES))) {f : Addr} {fd : FuncData} {cdv : Value} (F : Dh.FunC K "bits" "bits" s_bits f fd cdv) :
    FnOk P w K mg base (L2.CX P w) 3 f fd ["word", "wide"] (Dh.sOfN T 2 (sg_bits T K C_Register C_BadWord C_BadPlace C_BadPlan C_NotDue C_Stuck C_BadBits C_BadText C_TooLarge g_told g_RULES)) := by
  refine Dh.fnX (k := 2) F sc_bits rfl (fun A outer s H0 L vs Q E hr hl h => ?_)
  refine ⟨_, (pss_one (ps_ret (pe_callTy (Dh.cTup (K := K) rfl) (by rfl) Z.b_tuple (by first | exact PySem.boot_tuple | exact PyProof.Rows.boot_tuple | decide +kernel) (pa_cons (pe_lc (own := [("k", 2)]) (g := (gName 2)) (tt := tYes) rfl sc_bits.nd (pi_range1 rfl Z.b_range (pa_cons (pv 1) pa_nil)) (blkOk_by (own := [("k", 2)]) (N := N_bits) (by kernel_rfl)) (fun _ _ _ _ _ => (pg_name (i := 2) sc_bits.nd rfl (by first | exact Or.inl rfl | exact Or.inr rfl))) (fun _ _ _ _ _ => pts_nil) (fun _ _ _ _ _ => (Dh.pe_cal c_field hr (by decide) passL rfl (pa_cons (pv 0) (pa_cons (pv 2) (pa_cons pe_int pa_nil)))))) pa_nil)))), ?_⟩
  try dsimp only [L2.cxOf, L2.Cx.blk, LamX.lamCx, L2.Cx.tr]
  obtain ⟨w, n, R, rfl, hE, h0, h1, k0⟩ := h
  refine Dh.Go.ent hE ?_
  walk_at "vc"
  refine Dh.g_lcRf (fun k : Nat => V.int (fld w k 1)) Dh.ent_refl (fun D i hi => ?_) (fun D => ?_)
  · refine Dh.g_turn (Dh.g_name (Dh.g_and rfl ?_))
    walk_at "vc"
    refine Dh.g_lcPut Dh.pick_here (by rw [PySem.sizeLine_eq]; omega) (by rw [Int.zero_add]) Dh.ent_refl
  · rw [show (List.range n.toNat).map (fun k : Nat => V.int (fld w k 1)) = (bitsL w n.toNat).map V.int by rw [bitsL, List.map_map]; rfl]
    walk_at "vc"
    exact Dh.Go.ent (Dh.ent_tail (Dh.ent_drop Dh.ent_refl)) (k0 _)
def sg_of_bits (T : List (Addr × Str)) (K : PySem.W.Frag) (C_Register C_BadWord C_BadPlace C_BadPlan C_NotDue C_Stuck C_BadBits C_BadText C_TooLarge g_told g_RULES : Addr) : Dh.SG :=
  fun zs L Q E => ∃ (t : Addr) (o : HO) (bs : List Int) (R : List Dh.HP), zs = [.ref t] ∧ Dh.Ent L ((Dh.pt t o) :: R) ∧ (o = .lst (bs.map .int) ∨ o = .tup (bs.map .int)) ∧ (Dh.Go T ((Dh.pt t o) :: R) fun H => Q (.int (ofB bs)) H)
theorem use_of_bits {L A0 : List Dh.HP} {Q : VK} {E : XK} {t : Addr} {o : HO} {bs : List Int} (q0 : Dh.Pick L (Dh.pt t o) A0) (h0 : o = .lst (bs.map .int) ∨ o = .tup (bs.map .int)) (k0 : Dh.Go T ((Dh.pt t o) :: A0) fun H => Q (.int (ofB bs)) H) : Dh.Go T L fun H => Dh.sOfN T 1 (sg_of_bits T K C_Register C_BadWord C_BadPlace C_BadPlan C_NotDue C_Stuck C_BadBits C_BadText C_TooLarge g_told g_RULES) [.ref t] H Q E := Dh.g_sp rfl ⟨t, o, bs, A0, rfl, (Dh.ent_cons q0 Dh.ent_refl), h0, k0⟩
local macro_rules | `(tactic| walk_at "use1") => `(tactic| ((with_reducible refine' Toy.use_of_bits ?q0 ?h0 ?k0); (case q0 => walk_at "pk"); (case h0 => walk_at "side")))
theorem ofB_step {bs : List Int} {i : Nat} {b : Int} (hb : bs[bs.length - 1 - i]? = some b) (hi : i < bs.length) : ofB (bs.drop (bs.length - (i + 1))) = 2 * ofB (bs.drop (bs.length - i)) + b := by
  have e : bs.drop (bs.length - (i + 1)) = b :: bs.drop (bs.length - i) := by
    rw [List.drop_eq_getElem_cons (by omega)]
    congr 1
    · have h := (List.getElem?_eq_some_iff.mp hb).2
      rw [← h]
      congr 1
      omega
    · congr 1
      omega
  rw [e]
  rfl
set_option maxHeartbeats 8000000 in
theorem ok_of_bits (Z : Txt K mg C_Register C_BadWord C_BadPlace C_BadPlan C_NotDue C_Stuck C_BadBits C_BadText C_TooLarge g_told g_RULES)  {f : Addr} {fd : FuncData} {cdv : Value} (F : Dh.FunC K "of_bits" "of_bits" s_of_bits f fd cdv) :
    FnOk P w K mg base (L2.CX P w) 1 f fd ["row"] (Dh.sOfN T 1 (sg_of_bits T K C_Register C_BadWord C_BadPlace C_BadPlan C_NotDue C_Stuck C_BadBits C_BadText C_TooLarge g_told g_RULES)) := by
  refine Dh.fnX (k := 0) F sc_of_bits rfl (fun A outer s H0 L vs Q E hr hl h => ?_)
  refine ⟨_, (pss_cons (ps_set (i := 1) sc_of_bits.nd rfl (by first | exact Or.inl rfl | exact Or.inr rfl) pe_int)
    (pss_cons (ps_for (passes_of rfl) rfl (Dh.piRev (K := K) rfl (by rfl) Z.b_reversed (pv 0)) (pg_name (i := 2) sc_of_bits.nd rfl (by first | exact Or.inl rfl | exact Or.inr rfl))
    (pss_one (ps_set (i := 1) sc_of_bits.nd rfl (by first | exact Or.inl rfl | exact Or.inr rfl) (pe_op (Dh.oAdd (K := K) rfl) (pe_op (Dh.oMul (K := K) rfl) pe_int (pv 1)) (pv 2)))))
    (pss_one (ps_ret (pv 1))))), ?_⟩
  try dsimp only [L2.cxOf, L2.Cx.blk, LamX.lamCx, L2.Cx.tr]
  obtain ⟨t, o, bs, R, rfl, hE, h0, k0⟩ := h
  refine Dh.Go.ent hE ?_
  rcases h0 with rfl | rfl
  · walk_at "vc"
    refine Dh.g_forW L2.walk_rev Dh.id_ok (fun i σ L => ∃ v, σ = [some (.ref t), some (.int (ofB (bs.drop (bs.length - i)))), v] ∧ Dh.Ent L (Dh.pt t (.lst (bs.map .int)) :: R)) ⟨none, by rw [Nat.sub_zero, List.drop_length]; rfl, Dh.ent_refl⟩ ?_ ?_ ?_
    · rintro i σ L ⟨v, rfl, hE⟩ H s
      exact SqL.of (Dh.Pick.at (hE.pick Dh.pick_here) s)
    · rintro i x σ L hi hx ⟨v, rfl, hE⟩
      rw [List.length_map] at hi hx
      rw [List.getElem?_map] at hx
      obtain ⟨b, hb, rfl⟩ := Option.map_eq_some_iff.mp hx
      walk_at "vc"
      exact Dh.SI.in ⟨_, by rw [ofB_step hb hi]; rfl, hE⟩
    · rintro σ L ⟨v, rfl, hE⟩
      walk_at "vc"
      rw [List.length_map, Nat.sub_self, List.drop_zero]
      exact k0.ent hE
  · walk_at "vc"
    refine Dh.g_forW Dh.walk_revT Dh.id_ok (fun i σ L => ∃ v, σ = [some (.ref t), some (.int (ofB (bs.drop (bs.length - i)))), v] ∧ Dh.Ent L (Dh.pt t (.tup (bs.map .int)) :: R)) ⟨none, by rw [Nat.sub_zero, List.drop_length]; rfl, Dh.ent_refl⟩ ?_ ?_ ?_
    · rintro i σ L ⟨v, rfl, hE⟩ H s
      exact SqT.of (Dh.Pick.at (hE.pick Dh.pick_here) s)
    · rintro i x σ L hi hx ⟨v, rfl, hE⟩
      rw [List.length_map] at hi hx
      rw [List.getElem?_map] at hx
      obtain ⟨b, hb, rfl⟩ := Option.map_eq_some_iff.mp hx
      walk_at "vc"
      exact Dh.SI.in ⟨_, by rw [ofB_step hb hi]; rfl, hE⟩
    · rintro σ L ⟨v, rfl, hE⟩
      walk_at "vc"
      rw [List.length_map, Nat.sub_self, List.drop_zero]
      exact k0.ent hE
end
end Toy
end

section
local macro_rules | `(tactic| walk_at "pk") => `(tactic| (with_reducible first | exact Dh.pick_here | (refine' Dh.pick_there ?p; (case p => walk_at "pk"))))
local macro_rules | `(tactic| walk_at "ent") => `(tactic| first | (with_reducible exact Dh.ent_refl) | (with_reducible exact Dh.ent_nil) | (refine' Dh.ent_cons ?q0 ?k; (case q0 => walk_at "pk"); (case k => walk_at "ent")) | (refine' Dh.ent_drop ?k; (case k => walk_at "ent")))
local macro_rules | `(tactic| walk_at "side") => `(tactic| first | (with_reducible assumption) | omega | decide | (exact Or.inl rfl) | (exact Or.inr rfl) | (exact Dh.log2_ok (by omega)) | (simp only [L2.CMul, L2.CDiv, L2.CDivN]; omega) | (unfold L2.CPow; decide) | (simp only [List.length_cons, List.length_nil, List.length_append, List.length_map, List.length_range, List.length_replicate, List.length_set, List.length_take, List.length_drop, PySem.sizeLine_eq] <;> omega))
local macro_rules | `(tactic| walk_at "dvp") => `(tactic| (with_reducible first | exact Dh.DV.int | exact Dh.DV.str | exact Dh.DV.bl | exact Dh.DV.non | exact Dh.DVs.nil | (refine' Dh.Pick.dvs ?a (by assumption); (case a => walk_at "pk")) | (refine' Dh.Pick.dv ?a (by assumption); (case a => walk_at "pk")) | (refine' Dh.DVs.cons ?a ?b; (case a => walk_at "dvp"); (case b => walk_at "dvp")) | (refine' Dh.DVs.app ?a ?b; (case a => walk_at "dvp"); (case b => walk_at "dvp")) | (refine' Dh.Pick.tup ?a (by assumption) ?b; (case a => walk_at "pk"); (case b => walk_at "dvp")) | (refine' Dh.DVs.take _ ?a; (case a => walk_at "dvp")) | (refine' Dh.DVs.drop _ ?a; (case a => walk_at "dvp")) | (refine' Dh.DVs.set _ ?a ?b; (case a => walk_at "dvp"); (case b => walk_at "dvp"))))
local macro_rules | `(tactic| walk_at "ixs") => `(tactic| first | assumption | omega | (simp only [List.length_set, List.length_map, List.length_cons, List.length_nil, List.length_append, List.length_replicate] <;> first | assumption | omega))
local macro_rules | `(tactic| walk_at "lk") => `(tactic| first | rfl | assumption | (exact Dh.ixN_lt (by walk_at "ixs")) | (exact Dh.atI_lt (by assumption)) | (exact Dh.atI_map (by assumption))  | with_reducible exact Toy.lk_Register_wide | with_reducible exact Toy.lk_Register_fields | with_reducible exact Toy.lk_Register_word | with_reducible exact Toy.lk_Register_written | with_reducible exact Toy.lk_Register_pulses | with_reducible exact Toy.no_Register_init | with_reducible exact Toy.no_Register_read | with_reducible exact Toy.no_Register_write | with_reducible exact Toy.no_Register_row_of | with_reducible exact Toy.no_Register_get | with_reducible exact Toy.no_Register_put)
local macro_rules | `(tactic| walk_at "kt") => `(tactic| assumption)
local macro_rules | `(tactic| walk_at "pf") => `(tactic| first  | with_reducible exact Toy.pf_Register_wide | with_reducible exact Toy.pf_Register_fields | with_reducible exact Toy.pf_Register_word | with_reducible exact Toy.pf_Register_written | with_reducible exact Toy.pf_Register_pulses | with_reducible exact Toy.gr_Register_wide | with_reducible exact Toy.gr_Register_fields | with_reducible exact Toy.gr_Register_word | with_reducible exact Toy.gr_Register_written | with_reducible exact Toy.gr_Register_pulses | rfl)
local macro_rules | `(tactic| walk_at "ln") => `(tactic| first  | with_reducible exact Toy.ln_Register | decide | (simp only [List.length_cons, List.length_nil] <;> omega))
local macro_rules | `(tactic| walk_at "hasm") => `(tactic| first | (refine' Dh.hasM_ob ?q0 ?q1; (case q0 => walk_at "pk"); (case q1 => walk_at "lk")))
local macro_rules | `(tactic| walk_at "vcp0") => `(tactic| first | ((with_reducible refine' Dh.g_seq ?k)) | ((with_reducible refine' Dh.g_next ?k)) | ((with_reducible refine' Dh.g_nonA ?k)) | ((with_reducible refine' Dh.g_var ?q0 ?k); (case q0 => rfl)) | ((with_reducible refine' Dh.g_c ?k)) | ((with_reducible refine' Dh.g_op ?k)) | ((with_reducible refine' Dh.g_asg ?k)) | ((with_reducible refine' Dh.g_name ?k)) | ((with_reducible refine' Dh.g_ifS ?k)) | ((with_reducible refine' Dh.g_test ?k)) | ((with_reducible refine' Dh.g_isB ?k)) | ((with_reducible refine' Dh.g_B ?k)) | ((with_reducible refine' Dh.g_ret ?k)) | ((with_reducible refine' Dh.g_retN ?k)) | ((with_reducible refine' Dh.g_drop ?k)) | ((with_reducible refine' Dh.g_brk ?k)) | ((with_reducible refine' Dh.g_cont ?k)) | ((with_reducible refine' Dh.g_un ?k)) | ((with_reducible refine' Dh.g_I0 ?k)) | ((with_reducible refine' Dh.g_addI ?k)) | ((with_reducible refine' Dh.g_addB ?k)) | ((with_reducible refine' Dh.g_addS ?q0 ?k); (case q0 => walk_at "side")) | ((with_reducible refine' Dh.g_addM ?q0 ?q1 ?q2 ?k); (case q0 => walk_at "pk"); (case q1 => walk_at "pk"); (case q2 => walk_at "side"); intro _) | ((with_reducible refine' Dh.g_addL ?q0 ?q1 ?q2 ?k); (case q0 => walk_at "pk"); (case q1 => walk_at "pk"); (case q2 => walk_at "side"); intro _))
local macro_rules | `(tactic| walk_at "vcp1") => `(tactic| first | ((with_reducible refine' Dh.g_I ?q0 ?k); (case q0 => walk_at "side")) | ((with_reducible refine' Dh.g_mulI ?q0 ?k); (case q0 => walk_at "side")) | ((with_reducible refine' Dh.g_U ?k)) | ((with_reducible refine' Dh.g_eqS ?q0 ?k); (case q0 => rfl)) | ((with_reducible refine' Dh.g_neS ?q0 ?k); (case q0 => rfl)) | ((with_reducible refine' Dh.g_eqLL ?q0 ?q1 ?k); (case q0 => walk_at "pk"); (case q1 => walk_at "pk")) | ((with_reducible refine' Dh.g_neLL ?q0 ?q1 ?k); (case q0 => walk_at "pk"); (case q1 => walk_at "pk")) | ((with_reducible refine' Dh.g_eqL0 ?q0 ?q1 ?k); (case q0 => walk_at "pk"); (case q1 => walk_at "pk")) | ((with_reducible refine' Dh.g_neL0 ?q0 ?q1 ?k); (case q0 => walk_at "pk"); (case q1 => walk_at "pk")) | ((with_reducible refine' Dh.g_neT0 ?q0 ?q1 ?q2 ?k); (case q0 => walk_at "pk"); (case q1 => walk_at "pk"); (case q2 => walk_at "pk")) | ((with_reducible refine' Dh.g_neP ?q0 ?q1 ?k); (case q0 => walk_at "pk"); (case q1 => walk_at "pk")) | ((with_reducible refine' Dh.g_inI ?q0 ?k); (case q0 => walk_at "pk")) | ((with_reducible refine' Dh.g_isN ?k)) | ((with_reducible refine' Dh.g_notN ?k)) | ((with_reducible refine' Dh.g_ixL ?q0 ?q1 ?k); (case q0 => walk_at "pk"); (case q1 => walk_at "lk")) | ((with_reducible refine' Dh.g_ixT ?q0 ?q1 ?k); (case q0 => walk_at "pk"); (case q1 => walk_at "lk")) | ((with_reducible refine' Dh.g_sl ?k)) | ((with_reducible refine' Dh.g_noPart ?k)) | ((with_reducible refine' Dh.g_part ?k)) | ((with_reducible refine' Dh.g_isSomeInt ?k)) | ((with_reducible refine' Dh.g_slTk ?q0 ?k); (case q0 => walk_at "pk"); intro _) | ((with_reducible refine' Dh.g_slDr ?q0 ?k); (case q0 => walk_at "pk"); intro _) | ((with_reducible refine' Dh.g_slL ?q0 ?k); (case q0 => walk_at "pk"); intro _) | ((with_reducible refine' Dh.g_slQTk ?q0 ?k); (case q0 => walk_at "pk"); intro _))
local macro_rules | `(tactic| walk_at "vcp2") => `(tactic| first | ((with_reducible refine' Dh.g_slQ ?q0 ?k); (case q0 => walk_at "pk"); intro _) | ((with_reducible refine' Dh.g_fldE ?k)) | ((with_reducible refine' Dh.g_fld ?q0 ?q1 ?k); (case q0 => walk_at "pk"); (case q1 => walk_at "lk")) | ((with_reducible refine' Dh.g_tup ?k)) | ((with_reducible refine' Dh.g_lst ?k)) | ((with_reducible refine' Dh.g_newT ?q0 ?k); (case q0 => walk_at "side"); intro _) | ((with_reducible refine' Dh.g_newL ?q0 ?k); (case q0 => walk_at "side"); intro _) | ((with_reducible refine' Dh.g_nil ?k)) | ((with_reducible refine' Dh.g_cons ?k)) | ((with_reducible refine' Dh.g_call ?k)) | ((with_reducible refine' Dh.g_methE ?k)) | ((with_reducible refine' Dh.g_meth ?q0 ?k); (case q0 => walk_at "hasm")) | ((with_reducible refine' Dh.g_make ?k)) | ((with_reducible refine' Dh.g_made ?k); intro _) | ((with_reducible refine' Dh.g_cb ?k)) | ((with_reducible refine' Dh.g_int ?k)) | ((with_reducible refine' Dh.g_intB ?k)) | ((with_reducible refine' Dh.g_abs ?k)) | ((with_reducible refine' Dh.g_max2 ?k)) | ((with_reducible refine' Dh.g_min2 ?k)) | ((with_reducible refine' Dh.g_strI ?q0 ?k); (case q0 => walk_at "side")) | ((with_reducible refine' Dh.g_lenL ?q0 ?k); (case q0 => walk_at "pk")) | ((with_reducible refine' Dh.g_lenT ?q0 ?k); (case q0 => walk_at "pk")) | ((with_reducible refine' Dh.g_lenD ?q0 ?k); (case q0 => walk_at "pk")))
local macro_rules | `(tactic| walk_at "vcp3") => `(tactic| first | ((with_reducible refine' Dh.g_listL ?q0 ?k); (case q0 => walk_at "pk"); intro _) | ((with_reducible refine' Dh.g_listT ?q0 ?k); (case q0 => walk_at "pk"); intro _) | ((with_reducible refine' Dh.g_tupL ?q0 ?k); (case q0 => walk_at "pk"); intro _) | ((with_reducible refine' Dh.g_tupT ?q0 ?k); (case q0 => walk_at "pk")) | ((with_reducible refine' Dh.g_pop0 ?q0 ?k); (case q0 => walk_at "pk")) | ((with_reducible refine' Dh.g_bm ?k)) | ((with_reducible refine' Dh.g_bm0 ?k)) | ((with_reducible refine' Dh.g_tyL ?q0 ?k); (case q0 => walk_at "pk")) | ((with_reducible refine' Dh.g_append ?q0 ?q1 ?k); (case q0 => walk_at "pk"); (case q1 => walk_at "side")) | ((with_reducible refine' Dh.g_rep ?q0 ?q1 ?q2 ?q3 ?k); (case q0 => walk_at "pk"); (case q1 => walk_at "side"); (case q2 => walk_at "side"); (case q3 => walk_at "side"); intro _) | ((with_reducible refine' Dh.g_not ?k)) | ((with_reducible refine' Dh.g_tand ?k)) | ((with_reducible refine' Dh.g_tor ?k)) | ((with_reducible refine' Dh.g_andV ?k)) | ((with_reducible refine' Dh.g_orV ?k)) | ((with_reducible refine' Dh.g_notV ?k)) | ((with_reducible refine' Dh.g_ifE ?k)) | ((with_reducible refine' Dh.g_chain ?k)) | ((with_reducible refine' Dh.g_tru ?k)) | ((with_reducible refine' Dh.g_truB ?k)) | ((with_reducible refine' Dh.g_truI ?k)) | ((with_reducible refine' Dh.g_truN ?k)) | ((with_reducible refine' Dh.g_truL ?q0 ?k); (case q0 => walk_at "pk")) | ((with_reducible refine' Dh.g_gsub ?k)))
local macro_rules | `(tactic| walk_at "vcp4") => `(tactic| first | ((with_reducible refine' Dh.g_setM ?q0 ?q1 ?k); (case q0 => walk_at "pk"); (case q1 => walk_at "lk")) | ((with_reducible refine' Dh.g_setL ?q0 ?q1 ?k); (case q0 => walk_at "pk"); (case q1 => walk_at "lk")) | ((with_reducible refine' Dh.g_gtup ?q0 ?q1 ?k); (case q0 => walk_at "pk"); (case q1 => rfl)) | ((with_reducible refine' Dh.g_gnil ?k)) | ((with_reducible refine' Dh.g_gcons ?k)) | ((with_reducible refine' Dh.g_par ?k)) | ((with_reducible refine' Dh.g_par2 ?k)) | ((with_reducible refine' Dh.g_par3 ?k)) | ((with_reducible refine' Dh.g_par3b ?k)) | ((with_reducible refine' Dh.g_listRg ?k)) | ((with_reducible refine' Dh.g_rg1E ?k)) | ((with_reducible refine' Dh.g_rg1 ?k)) | ((with_reducible refine' Dh.g_rgN ?q0 ?k); (case q0 => walk_at "side"); intro _) | ((with_reducible refine' Dh.g_rgL ?q0 ?k); (case q0 => walk_at "side"); intro _) | ((with_reducible refine' Dh.g_dinE ?k)) | ((with_reducible refine' Dh.g_dinI ?q0 ?k); (case q0 => walk_at "pk")) | ((with_reducible refine' Dh.g_dnotinE ?k)) | ((with_reducible refine' Dh.g_dnotinI ?q0 ?k); (case q0 => walk_at "pk")) | ((with_reducible refine' Dh.g_dgetE ?k)) | ((with_reducible refine' Dh.g_dgetI ?q0 ?q1 ?k); (case q0 => walk_at "pk"); (case q1 => walk_at "lk")) | ((with_reducible refine' Dh.g_dputE ?k)) | ((with_reducible refine' Dh.g_dputI ?q0 ?q1 ?k); (case q0 => walk_at "pk"); (case q1 => walk_at "side")) | ((with_reducible refine' Dh.g_dpopE ?k)) | ((with_reducible refine' Dh.g_dpopA ?q0 ?k); (case q0 => walk_at "pk")))
local macro_rules | `(tactic| walk_at "vcp5") => `(tactic| first | ((with_reducible refine' Dh.g_dpopB ?q0 ?q1 ?k); (case q0 => walk_at "pk"); (case q1 => walk_at "lk")) | ((with_reducible refine' Dh.g_dnew ?k); intro _) | ((with_reducible refine' Dh.g_ipMul ?q0 ?k); (case q0 => walk_at "side")) | ((with_reducible refine' Dh.g_sfldE ?k)) | ((with_reducible refine' Dh.g_sfld ?q0 ?q1 ?q2 ?k); (case q0 => walk_at "pk"); (case q1 => walk_at "pf"); (case q2 => walk_at "ln")) | ((with_reducible refine' Dh.g_augE ?k)) | ((with_reducible refine' Dh.g_augF ?q0 ?q1 ?k); (case q0 => walk_at "pk"); (case q1 => walk_at "lk")) | ((with_reducible refine' Dh.g_augV ?q0 ?k); (case q0 => rfl)) | ((with_reducible refine' Dh.g_ipI ?k)) | ((with_reducible refine' Dh.g_rAdd ?k)) | ((with_reducible refine' Dh.g_rSub ?k)) | ((with_reducible refine' Dh.g_for ?k)) | ((with_reducible refine' Dh.g_iRng1 ?k)) | ((with_reducible refine' Dh.g_iRng2 ?k)) | ((with_reducible refine' Dh.g_rng1 ?q0 ?q1 ?k); (case q0 => walk_at "side"); (case q1 => walk_at "side")) | ((with_reducible refine' Dh.g_rng2 ?q0 ?k); (case q0 => walk_at "side")) | ((with_reducible refine' Dh.g_iSeqE ?k)) | ((with_reducible refine' Dh.g_iSeqL ?q0 ?k); (case q0 => walk_at "pk")) | ((with_reducible refine' Dh.g_iSeqT ?q0 ?k); (case q0 => walk_at "pk")) | ((with_reducible refine' Dh.g_inK ?q0 ?k); (case q0 => walk_at "kt")) | ((with_reducible refine' Dh.g_notInK ?q0 ?k); (case q0 => walk_at "kt")) | ((with_reducible refine' Dh.g_isiII ?k)) | ((with_reducible refine' Dh.g_isiIB ?k)) | ((with_reducible refine' Dh.g_dinS ?q0 ?k); (case q0 => walk_at "pk")))
local macro_rules | `(tactic| walk_at "vcp6") => `(tactic| first | ((with_reducible refine' Dh.g_dnotinS ?q0 ?k); (case q0 => walk_at "pk")) | ((with_reducible refine' Dh.g_dgetS ?q0 ?q1 ?k); (case q0 => walk_at "pk"); (case q1 => walk_at "lk")) | ((with_reducible refine' Dh.g_dputS ?q0 ?q1 ?k); (case q0 => walk_at "pk"); (case q1 => walk_at "side")) | ((with_reducible refine' Dh.g_dpopS ?q0 ?q1 ?k); (case q0 => walk_at "pk"); (case q1 => walk_at "lk")) | ((with_reducible refine' Dh.g_iRevE ?k)) | ((with_reducible refine' Dh.g_iRevL ?q0 ?k); (case q0 => walk_at "pk")) | ((with_reducible refine' Dh.g_iRevT ?q0 ?k); (case q0 => walk_at "pk")) | ((with_reducible refine' Dh.g_iZipE ?k)) | ((with_reducible refine' Dh.g_iZipL ?q0 ?q1 ?k); (case q0 => walk_at "pk"); (case q1 => walk_at "pk")) | ((with_reducible refine' Dh.g_iZipT ?q0 ?q1 ?k); (case q0 => walk_at "pk"); (case q1 => walk_at "pk")) | ((with_reducible refine' Dh.g_iEnumE ?k)) | ((with_reducible refine' Dh.g_iEnum ?q0 ?k); (case q0 => walk_at "pk")) | ((with_reducible refine' Dh.g_dcE ?k)) | ((with_reducible refine' Dh.g_dturn ?k)) | ((with_reducible refine' Dh.g_sum ?q0 ?k); (case q0 => walk_at "pk")) | ((with_reducible refine' Dh.g_pop ?q0 ?q1 ?k); (case q0 => walk_at "pk"); (case q1 => walk_at "lk")) | ((with_reducible refine' Dh.g_wbody ?k)) | ((with_reducible refine' Dh.g_lcE ?k)) | ((with_reducible refine' Dh.g_turn ?k)) | ((with_reducible refine' Dh.g_tYes ?k)) | ((with_reducible refine' Dh.g_rs ?k)) | ((with_reducible refine' Dh.g_rsW ?k)) | ((with_reducible refine' Dh.g_told ?k)) | ((with_reducible refine' Dh.g_ifT ?q0 ?k); (case q0 => rfl)))
local macro_rules | `(tactic| walk_at "vcp7") => `(tactic| first | ((with_reducible refine' Dh.g_ifF ?q0 ?k); (case q0 => rfl)) | ((with_reducible refine' Dh.g_and ?q0 ?k); (case q0 => rfl)) | ((with_reducible refine' Dh.g_turn ?k)))
local macro_rules | `(tactic| walk_at "vc1") => `(tactic| first | walk_at "vcp0" | walk_at "vcp1" | walk_at "vcp2" | walk_at "vcp3" | walk_at "vcp4" | walk_at "vcp5" | walk_at "vcp6" | walk_at "vcp7" | walk_at "use1" | walk_at "told1")
local macro_rules | `(tactic| walk_at "vc") => `(tactic| repeat walk_at "vc1")
local macro_rules | `(tactic| walk_at "spl") => `(tactic| first | ((with_reducible refine Dh.g_ifD ?_ ?_) <;> intro _) | ((with_reducible refine Dh.g_ifN ?_ ?_) <;> intro _) | ((with_reducible refine Dh.g_if ?_ ?_) <;> intro _))
local macro_rules | `(tactic| walk_at "vcs") => `(tactic| repeat' (first | walk_at "vc1" | walk_at "spl"))
local macro_rules | `(tactic| walk_at "told1") => `(tactic| first | ((with_reducible refine' Dh.g_toldY (Toy.Txt.x_BadWord_BadWord ?z) ?k); (case z => assumption)))
local macro_rules | `(tactic| walk_at "use1") => `(tactic| ((with_reducible refine' Toy.use_law_dice (fun _ _ _ _ => ?k0))))
local macro_rules | `(tactic| walk_at "use1") => `(tactic| ((with_reducible refine' Toy.use_law_roll ?q0 ?h0 ?h1 (fun _ _ => ?k0)); (case q0 => walk_at "pk"); (case h0 => walk_at "side"); (case h1 => walk_at "side")))
local macro_rules | `(tactic| walk_at "use1") => `(tactic| ((with_reducible refine' Toy.use_power ?h0 ?h1 ?k0); (case h0 => walk_at "side"); (case h1 => walk_at "side")))
local macro_rules | `(tactic| walk_at "use") => `(tactic| ((with_reducible refine' Toy.use_check_word ?h0 ?h1 (fun _ => ?k0) (fun _ _ => ?k1)); (case h0 => walk_at "side"); (case h1 => walk_at "side")))
local macro_rules | `(tactic| walk_at "use1") => `(tactic| ((with_reducible refine' Toy.use_field ?h0 ?h1 ?h2 ?h3 ?k0); (case h0 => walk_at "side"); (case h1 => walk_at "side"); (case h2 => walk_at "side"); (case h3 => walk_at "side")))
local macro_rules | `(tactic| walk_at "use") => `(tactic| ((with_reducible refine' Toy.use_with_field ?h0 ?h1 ?h2 ?h3 (fun _ => ?k0) (fun _ _ => ?k1)); (case h0 => walk_at "side"); (case h1 => walk_at "side"); (case h2 => walk_at "side"); (case h3 => walk_at "side")))
local macro_rules | `(tactic| walk_at "use1") => `(tactic| ((with_reducible refine' Toy.use_bits ?h0 ?h1 (fun _ => ?k0)); (case h0 => walk_at "side"); (case h1 => walk_at "side")))
local macro_rules | `(tactic| walk_at "use1") => `(tactic| ((with_reducible refine' Toy.use_of_bits ?q0 ?h0 ?k0); (case q0 => walk_at "pk"); (case h0 => walk_at "side")))
namespace Toy
open PySem L2
section
variable {P : Program} {w : World} {K : PySem.W.Frag} {mg : Str → Option Value} {base : Heap} {T : List (Addr × Str)} {C_Register C_BadWord C_BadPlace C_BadPlan C_NotDue C_Stuck C_BadBits C_BadText C_TooLarge g_told g_RULES : Addr}
theorem zmap {f : Int → Int → Int} : ∀ {us ws : List Int}, ((us.zip ws).map fun q => V.int (f q.1 q.2)) = (List.zipWith f us ws).map V.int
  | [], _ => rfl
  | _ :: _, [] => rfl
  | u :: us, w :: ws => by
    rw [List.zip_cons_cons, List.map_cons, List.zipWith_cons_cons, List.map_cons, zmap]
theorem bit01 {w u : Int} {n i : Nat} (h : (bitsL w n)[i]? = some u) : 0 ≤ u ∧ u ≤ 1 := by
  unfold bitsL at h
  rw [List.getElem?_map] at h
  obtain ⟨k, _, rfl⟩ := Option.map_eq_some_iff.mp h
  unfold fld
  rw [show pw 1 = 2 from rfl]
  omega
def sg_both (T : List (Addr × Str)) (K : PySem.W.Frag) (C_Register C_BadWord C_BadPlace C_BadPlan C_NotDue C_Stuck C_BadBits C_BadText C_TooLarge g_told g_RULES : Addr) : Dh.SG :=
  fun zs L Q E => ∃ (a : Int) (b : Int) (n : Int) (R : List Dh.HP), zs = [.int a, .int b, .int n] ∧ Dh.Ent L (R) ∧ (0 ≤ n) ∧ (n ≤ 24) ∧ (Dh.Go T (R) fun H => Q (.int (ofB (List.zipWith (fun u z : Int => u * z) (bitsL a n.toNat) (bitsL b n.toNat)))) H)
theorem use_both {L  : List Dh.HP} {Q : VK} {E : XK} {a : Int} {b : Int} {n : Int}  (h0 : 0 ≤ n) (h1 : n ≤ 24) (k0 : Dh.Go T (L) fun H => Q (.int (ofB (List.zipWith (fun u z : Int => u * z) (bitsL a n.toNat) (bitsL b n.toNat)))) H) : Dh.Go T L fun H => Dh.sOfN T 3 (sg_both T K C_Register C_BadWord C_BadPlace C_BadPlan C_NotDue C_Stuck C_BadBits C_BadText C_TooLarge g_told g_RULES) [.int a, .int b, .int n] H Q E := Dh.g_sp rfl ⟨a, b, n, L, rfl, Dh.ent_refl, h0, h1, k0⟩
local macro_rules | `(tactic| walk_at "use1") => `(tactic| ((with_reducible refine' Toy.use_both ?h0 ?h1 ?k0); (case h0 => walk_at "side"); (case h1 => walk_at "side")))
set_option maxHeartbeats 8000000 in
theorem ok_both (Z : Txt K mg C_Register C_BadWord C_BadPlace C_BadPlan C_NotDue C_Stuck C_BadBits C_BadText C_TooLarge g_told g_RULES) (c_bits : Dh.CalX P w K mg base 3 "bits" (Dh.sOfN T 2 (sg_bits T K C_Register C_BadWord C_BadPlace C_BadPlan C_NotDue C_Stuck C_BadBits C_BadText C_TooLarge g_told g_RULES))) (c_of_bits : Dh.CalX P w K mg base 1 "of_bits" (Dh.sOfN T 1 (sg_of_bits T K C_Register C_BadWord C_BadPlace C_BadPlan C_NotDue C_Stuck C_BadBits C_BadText C_TooLarge g_told g_RULES))) {f : Addr} {fd : FuncData} {cdv : Value} (F : Dh.FunC K "both" "both" s_both f fd cdv) :
    FnOk P w K mg base (L2.CX P w) 4 f fd ["one", "other", "wide"] (Dh.sOfN T 3 (sg_both T K C_Register C_BadWord C_BadPlace C_BadPlan C_NotDue C_Stuck C_BadBits C_BadText C_TooLarge g_told g_RULES)) := by
  refine Dh.fnX (k := 3) F sc_both rfl (fun A outer s H0 L vs Q E hr hl h => ?_)
  refine ⟨_, (pss_one (ps_ret (Dh.pe_cal c_of_bits hr (by decide) (passes_call (takes_of rfl rfl rfl rfl) (fun _ _ _ _ h => h)) rfl (pa_cons (pe_lc (own := [("a", 3), ("b", 4)]) (g := (gTup K 2 (gCons (gName 3) (gCons (gName 4) gNil)))) (tt := tYes) rfl sc_both.nd (Dh.piZip (K := K) rfl (by rfl) Z.b_zip (pa_cons (Dh.pe_cal c_bits hr (by decide) (passes_call (takes_of rfl rfl rfl rfl) (fun _ _ _ _ h => h)) rfl (pa_cons (pv 0) (pa_cons (pv 2) pa_nil))) (pa_cons (Dh.pe_cal c_bits hr (by decide) (passes_call (takes_of rfl rfl rfl rfl) (fun _ _ _ _ h => h)) rfl (pa_cons (pv 1) (pa_cons (pv 2) pa_nil))) pa_nil))) (blkOk_by (own := [("a", 3), ("b", 4)]) (N := N_both) (by kernel_rfl)) (fun _ _ _ _ _ => (Dh.pgTup (K := K) rfl rfl (pgs_cons (pg_name (i := 3) sc_both.nd rfl (by first | exact Or.inl rfl | exact Or.inr rfl)) (pgs_cons (pg_name (i := 4) sc_both.nd rfl (by first | exact Or.inl rfl | exact Or.inr rfl)) pgs_nil)) rfl rfl)) (fun _ _ _ _ _ => pts_nil) (fun _ _ _ _ _ => (pe_op (Dh.oMul (K := K) rfl) (pv 3) (pv 4)))) pa_nil)))), ?_⟩
  try dsimp only [L2.cxOf, L2.Cx.blk, LamX.lamCx, L2.Cx.tr]
  obtain ⟨a, b, n, R, rfl, hE, h0, h1, k0⟩ := h
  refine Dh.Go.ent hE ?_
  walk_at "vc"
  rename_i y x
  refine Dh.g_lcZ (us := bitsL a n.toNat) (ws := bitsL b n.toNat) (gx := V.int) (gy := V.int) (fun u z : Int => V.int (u * z)) (Dh.walk_zipT (by simp [bitsL_len])) Dh.ent_refl (fun H s => ⟨SqT.of (Dh.Pick.at (Dh.pick_there Dh.pick_here) s), SqT.of (Dh.Pick.at Dh.pick_here s)⟩) (fun D i u z p hu hz huz => ?_) (fun D => ?_)
  · have h01 := bit01 hu
    walk_at "vc"
    refine Dh.g_lcPutZ huz (by walk_at "pk") (by rw [bitsL_len, PySem.sizeLine_eq]; omega) rfl (by walk_at "ent")
  · rw [zmap (f := fun u z : Int => u * z)]
    walk_at "vc"
    exact Dh.Go.ent (Dh.ent_drop (Dh.ent_drop (Dh.ent_drop Dh.ent_refl))) k0
def sg_either (T : List (Addr × Str)) (K : PySem.W.Frag) (C_Register C_BadWord C_BadPlace C_BadPlan C_NotDue C_Stuck C_BadBits C_BadText C_TooLarge g_told g_RULES : Addr) : Dh.SG :=
  fun zs L Q E => ∃ (a : Int) (b : Int) (n : Int) (R : List Dh.HP), zs = [.int a, .int b, .int n] ∧ Dh.Ent L (R) ∧ (0 ≤ n) ∧ (n ≤ 24) ∧ (Dh.Go T (R) fun H => Q (.int (ofB (List.zipWith (fun u z : Int => if z > u then z else u) (bitsL a n.toNat) (bitsL b n.toNat)))) H)
theorem use_either {L  : List Dh.HP} {Q : VK} {E : XK} {a : Int} {b : Int} {n : Int}  (h0 : 0 ≤ n) (h1 : n ≤ 24) (k0 : Dh.Go T (L) fun H => Q (.int (ofB (List.zipWith (fun u z : Int => if z > u then z else u) (bitsL a n.toNat) (bitsL b n.toNat)))) H) : Dh.Go T L fun H => Dh.sOfN T 3 (sg_either T K C_Register C_BadWord C_BadPlace C_BadPlan C_NotDue C_Stuck C_BadBits C_BadText C_TooLarge g_told g_RULES) [.int a, .int b, .int n] H Q E := Dh.g_sp rfl ⟨a, b, n, L, rfl, Dh.ent_refl, h0, h1, k0⟩
local macro_rules | `(tactic| walk_at "use1") => `(tactic| ((with_reducible refine' Toy.use_either ?h0 ?h1 ?k0); (case h0 => walk_at "side"); (case h1 => walk_at "side")))
set_option maxHeartbeats 8000000 in
theorem ok_either (Z : Txt K mg C_Register C_BadWord C_BadPlace C_BadPlan C_NotDue C_Stuck C_BadBits C_BadText C_TooLarge g_told g_RULES) (c_bits : Dh.CalX P w K mg base 3 "bits" (Dh.sOfN T 2 (sg_bits T K C_Register C_BadWord C_BadPlace C_BadPlan C_NotDue C_Stuck C_BadBits C_BadText C_TooLarge g_told g_RULES))) (c_of_bits : Dh.CalX P w K mg base 1 "of_bits" (Dh.sOfN T 1 (sg_of_bits T K C_Register C_BadWord C_BadPlace C_BadPlan C_NotDue C_Stuck C_BadBits C_BadText C_TooLarge g_told g_RULES))) {f : Addr} {fd : FuncData} {cdv : Value} (F : Dh.FunC K "either" "either" s_either f fd cdv) :
    FnOk P w K mg base (L2.CX P w) 4 f fd ["one", "other", "wide"] (Dh.sOfN T 3 (sg_either T K C_Register C_BadWord C_BadPlace C_BadPlan C_NotDue C_Stuck C_BadBits C_BadText C_TooLarge g_told g_RULES)) := by
  refine Dh.fnX (k := 3) F sc_either rfl (fun A outer s H0 L vs Q E hr hl h => ?_)
  refine ⟨_, (pss_one (ps_ret (Dh.pe_cal c_of_bits hr (by decide) (passes_call (takes_of rfl rfl rfl rfl) (fun _ _ _ _ h => h)) rfl (pa_cons (pe_lc (own := [("a", 3), ("b", 4)]) (g := (gTup K 2 (gCons (gName 3) (gCons (gName 4) gNil)))) (tt := tYes) rfl sc_either.nd (Dh.piZip (K := K) rfl (by rfl) Z.b_zip (pa_cons (Dh.pe_cal c_bits hr (by decide) (passes_call (takes_of rfl rfl rfl rfl) (fun _ _ _ _ h => h)) rfl (pa_cons (pv 0) (pa_cons (pv 2) pa_nil))) (pa_cons (Dh.pe_cal c_bits hr (by decide) (passes_call (takes_of rfl rfl rfl rfl) (fun _ _ _ _ h => h)) rfl (pa_cons (pv 1) (pa_cons (pv 2) pa_nil))) pa_nil))) (blkOk_by (own := [("a", 3), ("b", 4)]) (N := N_either) (by kernel_rfl)) (fun _ _ _ _ _ => (Dh.pgTup (K := K) rfl rfl (pgs_cons (pg_name (i := 3) sc_either.nd rfl (by first | exact Or.inl rfl | exact Or.inr rfl)) (pgs_cons (pg_name (i := 4) sc_either.nd rfl (by first | exact Or.inl rfl | exact Or.inr rfl)) pgs_nil)) rfl rfl)) (fun _ _ _ _ _ => pts_nil) (fun _ _ _ _ _ => (pe_callB (Dh.call_max2X rfl) (by rfl) Z.b_max (by first | exact PySem.boot_max | exact PyProof.Rows.boot_max | decide +kernel) (pa_cons (pv 3) (pa_cons (pv 4) pa_nil))))) pa_nil)))), ?_⟩
  try dsimp only [L2.cxOf, L2.Cx.blk, LamX.lamCx, L2.Cx.tr]
  obtain ⟨a, b, n, R, rfl, hE, h0, h1, k0⟩ := h
  refine Dh.Go.ent hE ?_
  walk_at "vc"
  rename_i y x
  refine Dh.g_lcZ (us := bitsL a n.toNat) (ws := bitsL b n.toNat) (gx := V.int) (gy := V.int) (fun u z : Int => V.int (if z > u then z else u)) (Dh.walk_zipT (by simp [bitsL_len])) Dh.ent_refl (fun H s => ⟨SqT.of (Dh.Pick.at (Dh.pick_there Dh.pick_here) s), SqT.of (Dh.Pick.at Dh.pick_here s)⟩) (fun D i u z p hu hz huz => ?_) (fun D => ?_)
  · have h01 := bit01 hu
    walk_at "vc"
    refine Dh.g_lcPutZ huz (by walk_at "pk") (by rw [bitsL_len, PySem.sizeLine_eq]; omega) rfl (by walk_at "ent")
  · rw [zmap (f := fun u z : Int => if z > u then z else u)]
    walk_at "vc"
    exact Dh.Go.ent (Dh.ent_drop (Dh.ent_drop (Dh.ent_drop Dh.ent_refl))) k0
def sg_without (T : List (Addr × Str)) (K : PySem.W.Frag) (C_Register C_BadWord C_BadPlace C_BadPlan C_NotDue C_Stuck C_BadBits C_BadText C_TooLarge g_told g_RULES : Addr) : Dh.SG :=
  fun zs L Q E => ∃ (a : Int) (b : Int) (n : Int) (R : List Dh.HP), zs = [.int a, .int b, .int n] ∧ Dh.Ent L (R) ∧ (0 ≤ n) ∧ (n ≤ 24) ∧ (Dh.Go T (R) fun H => Q (.int (ofB (List.zipWith (fun u z : Int => u * (1 - z)) (bitsL a n.toNat) (bitsL b n.toNat)))) H)
theorem use_without {L  : List Dh.HP} {Q : VK} {E : XK} {a : Int} {b : Int} {n : Int}  (h0 : 0 ≤ n) (h1 : n ≤ 24) (k0 : Dh.Go T (L) fun H => Q (.int (ofB (List.zipWith (fun u z : Int => u * (1 - z)) (bitsL a n.toNat) (bitsL b n.toNat)))) H) : Dh.Go T L fun H => Dh.sOfN T 3 (sg_without T K C_Register C_BadWord C_BadPlace C_BadPlan C_NotDue C_Stuck C_BadBits C_BadText C_TooLarge g_told g_RULES) [.int a, .int b, .int n] H Q E := Dh.g_sp rfl ⟨a, b, n, L, rfl, Dh.ent_refl, h0, h1, k0⟩
local macro_rules | `(tactic| walk_at "use1") => `(tactic| ((with_reducible refine' Toy.use_without ?h0 ?h1 ?k0); (case h0 => walk_at "side"); (case h1 => walk_at "side")))
set_option maxHeartbeats 8000000 in
theorem ok_without (Z : Txt K mg C_Register C_BadWord C_BadPlace C_BadPlan C_NotDue C_Stuck C_BadBits C_BadText C_TooLarge g_told g_RULES) (c_bits : Dh.CalX P w K mg base 3 "bits" (Dh.sOfN T 2 (sg_bits T K C_Register C_BadWord C_BadPlace C_BadPlan C_NotDue C_Stuck C_BadBits C_BadText C_TooLarge g_told g_RULES))) (c_of_bits : Dh.CalX P w K mg base 1 "of_bits" (Dh.sOfN T 1 (sg_of_bits T K C_Register C_BadWord C_BadPlace C_BadPlan C_NotDue C_Stuck C_BadBits C_BadText C_TooLarge g_told g_RULES))) {f : Addr} {fd : FuncData} {cdv : Value} (F : Dh.FunC K "without" "without" s_without f fd cdv) :
    FnOk P w K mg base (L2.CX P w) 4 f fd ["one", "other", "wide"] (Dh.sOfN T 3 (sg_without T K C_Register C_BadWord C_BadPlace C_BadPlan C_NotDue C_Stuck C_BadBits C_BadText C_TooLarge g_told g_RULES)) := by
  refine Dh.fnX (k := 3) F sc_without rfl (fun A outer s H0 L vs Q E hr hl h => ?_)
  refine ⟨_, (pss_one (ps_ret (Dh.pe_cal c_of_bits hr (by decide) (passes_call (takes_of rfl rfl rfl rfl) (fun _ _ _ _ h => h)) rfl (pa_cons (pe_lc (own := [("a", 3), ("b", 4)]) (g := (gTup K 2 (gCons (gName 3) (gCons (gName 4) gNil)))) (tt := tYes) rfl sc_without.nd (Dh.piZip (K := K) rfl (by rfl) Z.b_zip (pa_cons (Dh.pe_cal c_bits hr (by decide) (passes_call (takes_of rfl rfl rfl rfl) (fun _ _ _ _ h => h)) rfl (pa_cons (pv 0) (pa_cons (pv 2) pa_nil))) (pa_cons (Dh.pe_cal c_bits hr (by decide) (passes_call (takes_of rfl rfl rfl rfl) (fun _ _ _ _ h => h)) rfl (pa_cons (pv 1) (pa_cons (pv 2) pa_nil))) pa_nil))) (blkOk_by (own := [("a", 3), ("b", 4)]) (N := N_without) (by kernel_rfl)) (fun _ _ _ _ _ => (Dh.pgTup (K := K) rfl rfl (pgs_cons (pg_name (i := 3) sc_without.nd rfl (by first | exact Or.inl rfl | exact Or.inr rfl)) (pgs_cons (pg_name (i := 4) sc_without.nd rfl (by first | exact Or.inl rfl | exact Or.inr rfl)) pgs_nil)) rfl rfl)) (fun _ _ _ _ _ => pts_nil) (fun _ _ _ _ _ => (pe_op (Dh.oMul (K := K) rfl) (pv 3) (pe_op op_sub pe_int (pv 4))))) pa_nil)))), ?_⟩
  try dsimp only [L2.cxOf, L2.Cx.blk, LamX.lamCx, L2.Cx.tr]
  obtain ⟨a, b, n, R, rfl, hE, h0, h1, k0⟩ := h
  refine Dh.Go.ent hE ?_
  walk_at "vc"
  rename_i y x
  refine Dh.g_lcZ (us := bitsL a n.toNat) (ws := bitsL b n.toNat) (gx := V.int) (gy := V.int) (fun u z : Int => V.int (u * (1 - z))) (Dh.walk_zipT (by simp [bitsL_len])) Dh.ent_refl (fun H s => ⟨SqT.of (Dh.Pick.at (Dh.pick_there Dh.pick_here) s), SqT.of (Dh.Pick.at Dh.pick_here s)⟩) (fun D i u z p hu hz huz => ?_) (fun D => ?_)
  · have h01 := bit01 hu
    walk_at "vc"
    refine Dh.g_lcPutZ huz (by walk_at "pk") (by rw [bitsL_len, PySem.sizeLine_eq]; omega) rfl (by walk_at "ent")
  · rw [zmap (f := fun u z : Int => u * (1 - z))]
    walk_at "vc"
    exact Dh.Go.ent (Dh.ent_drop (Dh.ent_drop (Dh.ent_drop Dh.ent_refl))) k0
def sg_turned_octets (T : List (Addr × Str)) (K : PySem.W.Frag) (C_Register C_BadWord C_BadPlace C_BadPlan C_NotDue C_Stuck C_BadBits C_BadText C_TooLarge g_told g_RULES : Addr) : Dh.SG :=
  fun zs L Q E => ∃ (w : Int) (n : Int) (R : List Dh.HP), zs = [.int w, .int n] ∧ Dh.Ent L (R) ∧ (0 ≤ n) ∧ (n ≤ 3) ∧ (Dh.Go T (R) fun H => Q (.int (toct w n.toNat)) H)
theorem use_turned_octets {L  : List Dh.HP} {Q : VK} {E : XK} {w : Int} {n : Int}  (h0 : 0 ≤ n) (h1 : n ≤ 3) (k0 : Dh.Go T (L) fun H => Q (.int (toct w n.toNat)) H) : Dh.Go T L fun H => Dh.sOfN T 2 (sg_turned_octets T K C_Register C_BadWord C_BadPlace C_BadPlan C_NotDue C_Stuck C_BadBits C_BadText C_TooLarge g_told g_RULES) [.int w, .int n] H Q E := Dh.g_sp rfl ⟨w, n, L, rfl, Dh.ent_refl, h0, h1, k0⟩
local macro_rules | `(tactic| walk_at "use1") => `(tactic| ((with_reducible refine' Toy.use_turned_octets ?h0 ?h1 ?k0); (case h0 => walk_at "side"); (case h1 => walk_at "side")))
set_option maxHeartbeats 8000000 in
theorem ok_turned_octets (Z : Txt K mg C_Register C_BadWord C_BadPlace C_BadPlan C_NotDue C_Stuck C_BadBits C_BadText C_TooLarge g_told g_RULES) (c_power : Dh.CalX P w K mg base 1 "power" (Dh.sOfN T 1 (sg_power T K C_Register C_BadWord C_BadPlace C_BadPlan C_NotDue C_Stuck C_BadBits C_BadText C_TooLarge g_told g_RULES))) {f : Addr} {fd : FuncData} {cdv : Value} (F : Dh.FunC K "turned_octets" "turned_octets" s_turned_octets f fd cdv) :
    FnOk P w K mg base (L2.CX P w) 2 f fd ["word", "count"] (Dh.sOfN T 2 (sg_turned_octets T K C_Register C_BadWord C_BadPlace C_BadPlan C_NotDue C_Stuck C_BadBits C_BadText C_TooLarge g_told g_RULES)) := by
  refine Dh.fnX (k := 1) F sc_turned_octets rfl (fun A outer s H0 L vs Q E hr hl h => ?_)
  refine ⟨_, (pss_cons (ps_set (i := 2) sc_turned_octets.nd rfl (by first | exact Or.inl rfl | exact Or.inr rfl) pe_int)
    (pss_cons (ps_for (passes_of rfl) rfl (pi_range1 rfl Z.b_range (pa_cons (pv 1) pa_nil)) (pg_name (i := 3) sc_turned_octets.nd rfl (by first | exact Or.inl rfl | exact Or.inr rfl))
    (pss_one (ps_set (i := 2) sc_turned_octets.nd rfl (by first | exact Or.inl rfl | exact Or.inr rfl) (pe_op (Dh.oAdd (K := K) rfl) (pe_op (Dh.oMul (K := K) rfl) (pv 2) pe_int) (pe_op op_mod (pe_op op_fdiv (pv 0) (Dh.pe_cal c_power hr (by decide) (passes_call (takes_of rfl rfl rfl rfl) (fun _ _ _ _ h => h)) rfl (pa_cons (pe_op (Dh.oMul (K := K) rfl) pe_int (pv 3)) pa_nil))) pe_int)))))
    (pss_one (ps_ret (pv 2))))), ?_⟩
  try dsimp only [L2.cxOf, L2.Cx.blk, LamX.lamCx, L2.Cx.tr]
  obtain ⟨w, n, R, rfl, hE, h0, h1, k0⟩ := h
  refine Dh.Go.ent hE ?_
  walk_at "vc"
  refine Dh.g_forR (n := n.toNat) (lo := 0) (fun i σ L => ∃ v, σ = [some (.int w), some (.int n), some (.int (toct w i)), v] ∧ Dh.Ent L R) ⟨none, rfl, Dh.ent_refl⟩ ?_ ?_
  · rintro i σ L hi ⟨v, rfl, hE⟩
    have hp1 := pw_pos (8 * (0 + (i : Int)))
    have hp2 := pw_le (n := 8 * (0 + (i : Int))) (by omega)
    walk_at "vc"
    refine Dh.SI.in ⟨some (.int (0 + (i : Int))), ?_, hE⟩
    rw [Int.zero_add]
    simp [toct, List.range_succ]
  · rintro σ L ⟨v, rfl, hE⟩
    walk_at "vc"
    exact k0.ent hE
end
end Toy
end

section
local macro_rules | `(tactic| walk_at "pk") => `(tactic| (with_reducible first | exact Dh.pick_here | (refine' Dh.pick_there ?p; (case p => walk_at "pk"))))
local macro_rules | `(tactic| walk_at "ent") => `(tactic| first | (with_reducible exact Dh.ent_refl) | (with_reducible exact Dh.ent_nil) | (refine' Dh.ent_cons ?q0 ?k; (case q0 => walk_at "pk"); (case k => walk_at "ent")) | (refine' Dh.ent_drop ?k; (case k => walk_at "ent")))
local macro_rules | `(tactic| walk_at "side") => `(tactic| first | (with_reducible assumption) | omega | decide | (exact Or.inl rfl) | (exact Or.inr rfl) | (exact Dh.log2_ok (by omega)) | (simp only [L2.CMul, L2.CDiv, L2.CDivN]; omega) | (unfold L2.CPow; decide) | (simp only [List.length_cons, List.length_nil, List.length_append, List.length_map, List.length_range, List.length_replicate, List.length_set, List.length_take, List.length_drop, PySem.sizeLine_eq] <;> omega))
local macro_rules | `(tactic| walk_at "dvp") => `(tactic| (with_reducible first | exact Dh.DV.int | exact Dh.DV.str | exact Dh.DV.bl | exact Dh.DV.non | exact Dh.DVs.nil | (refine' Dh.Pick.dvs ?a (by assumption); (case a => walk_at "pk")) | (refine' Dh.Pick.dv ?a (by assumption); (case a => walk_at "pk")) | (refine' Dh.DVs.cons ?a ?b; (case a => walk_at "dvp"); (case b => walk_at "dvp")) | (refine' Dh.DVs.app ?a ?b; (case a => walk_at "dvp"); (case b => walk_at "dvp")) | (refine' Dh.Pick.tup ?a (by assumption) ?b; (case a => walk_at "pk"); (case b => walk_at "dvp")) | (refine' Dh.DVs.take _ ?a; (case a => walk_at "dvp")) | (refine' Dh.DVs.drop _ ?a; (case a => walk_at "dvp")) | (refine' Dh.DVs.set _ ?a ?b; (case a => walk_at "dvp"); (case b => walk_at "dvp"))))
local macro_rules | `(tactic| walk_at "ixs") => `(tactic| first | assumption | omega | (simp only [List.length_set, List.length_map, List.length_cons, List.length_nil, List.length_append, List.length_replicate] <;> first | assumption | omega))
local macro_rules | `(tactic| walk_at "lk") => `(tactic| first | rfl | assumption | (exact Dh.ixN_lt (by walk_at "ixs")) | (exact Dh.atI_lt (by assumption)) | (exact Dh.atI_map (by assumption))  | with_reducible exact Toy.lk_Register_wide | with_reducible exact Toy.lk_Register_fields | with_reducible exact Toy.lk_Register_word | with_reducible exact Toy.lk_Register_written | with_reducible exact Toy.lk_Register_pulses | with_reducible exact Toy.no_Register_init | with_reducible exact Toy.no_Register_read | with_reducible exact Toy.no_Register_write | with_reducible exact Toy.no_Register_row_of | with_reducible exact Toy.no_Register_get | with_reducible exact Toy.no_Register_put)
local macro_rules | `(tactic| walk_at "kt") => `(tactic| assumption)
local macro_rules | `(tactic| walk_at "pf") => `(tactic| first  | with_reducible exact Toy.pf_Register_wide | with_reducible exact Toy.pf_Register_fields | with_reducible exact Toy.pf_Register_word | with_reducible exact Toy.pf_Register_written | with_reducible exact Toy.pf_Register_pulses | with_reducible exact Toy.gr_Register_wide | with_reducible exact Toy.gr_Register_fields | with_reducible exact Toy.gr_Register_word | with_reducible exact Toy.gr_Register_written | with_reducible exact Toy.gr_Register_pulses | rfl)
local macro_rules | `(tactic| walk_at "ln") => `(tactic| first  | with_reducible exact Toy.ln_Register | decide | (simp only [List.length_cons, List.length_nil] <;> omega))
local macro_rules | `(tactic| walk_at "hasm") => `(tactic| first | (refine' Dh.hasM_ob ?q0 ?q1; (case q0 => walk_at "pk"); (case q1 => walk_at "lk")))
local macro_rules | `(tactic| walk_at "vcp0") => `(tactic| first | ((with_reducible refine' Dh.g_seq ?k)) | ((with_reducible refine' Dh.g_next ?k)) | ((with_reducible refine' Dh.g_nonA ?k)) | ((with_reducible refine' Dh.g_var ?q0 ?k); (case q0 => rfl)) | ((with_reducible refine' Dh.g_c ?k)) | ((with_reducible refine' Dh.g_op ?k)) | ((with_reducible refine' Dh.g_asg ?k)) | ((with_reducible refine' Dh.g_name ?k)) | ((with_reducible refine' Dh.g_ifS ?k)) | ((with_reducible refine' Dh.g_test ?k)) | ((with_reducible refine' Dh.g_isB ?k)) | ((with_reducible refine' Dh.g_B ?k)) | ((with_reducible refine' Dh.g_ret ?k)) | ((with_reducible refine' Dh.g_retN ?k)) | ((with_reducible refine' Dh.g_drop ?k)) | ((with_reducible refine' Dh.g_brk ?k)) | ((with_reducible refine' Dh.g_cont ?k)) | ((with_reducible refine' Dh.g_un ?k)) | ((with_reducible refine' Dh.g_I0 ?k)) | ((with_reducible refine' Dh.g_addI ?k)) | ((with_reducible refine' Dh.g_addB ?k)) | ((with_reducible refine' Dh.g_addS ?q0 ?k); (case q0 => walk_at "side")) | ((with_reducible refine' Dh.g_addM ?q0 ?q1 ?q2 ?k); (case q0 => walk_at "pk"); (case q1 => walk_at "pk"); (case q2 => walk_at "side"); intro _) | ((with_reducible refine' Dh.g_addL ?q0 ?q1 ?q2 ?k); (case q0 => walk_at "pk"); (case q1 => walk_at "pk"); (case q2 => walk_at "side"); intro _))
local macro_rules | `(tactic| walk_at "vcp1") => `(tactic| first | ((with_reducible refine' Dh.g_I ?q0 ?k); (case q0 => walk_at "side")) | ((with_reducible refine' Dh.g_mulI ?q0 ?k); (case q0 => walk_at "side")) | ((with_reducible refine' Dh.g_U ?k)) | ((with_reducible refine' Dh.g_eqS ?q0 ?k); (case q0 => rfl)) | ((with_reducible refine' Dh.g_neS ?q0 ?k); (case q0 => rfl)) | ((with_reducible refine' Dh.g_eqLL ?q0 ?q1 ?k); (case q0 => walk_at "pk"); (case q1 => walk_at "pk")) | ((with_reducible refine' Dh.g_neLL ?q0 ?q1 ?k); (case q0 => walk_at "pk"); (case q1 => walk_at "pk")) | ((with_reducible refine' Dh.g_eqL0 ?q0 ?q1 ?k); (case q0 => walk_at "pk"); (case q1 => walk_at "pk")) | ((with_reducible refine' Dh.g_neL0 ?q0 ?q1 ?k); (case q0 => walk_at "pk"); (case q1 => walk_at "pk")) | ((with_reducible refine' Dh.g_neT0 ?q0 ?q1 ?q2 ?k); (case q0 => walk_at "pk"); (case q1 => walk_at "pk"); (case q2 => walk_at "pk")) | ((with_reducible refine' Dh.g_neP ?q0 ?q1 ?k); (case q0 => walk_at "pk"); (case q1 => walk_at "pk")) | ((with_reducible refine' Dh.g_inI ?q0 ?k); (case q0 => walk_at "pk")) | ((with_reducible refine' Dh.g_isN ?k)) | ((with_reducible refine' Dh.g_notN ?k)) | ((with_reducible refine' Dh.g_ixL ?q0 ?q1 ?k); (case q0 => walk_at "pk"); (case q1 => walk_at "lk")) | ((with_reducible refine' Dh.g_ixT ?q0 ?q1 ?k); (case q0 => walk_at "pk"); (case q1 => walk_at "lk")) | ((with_reducible refine' Dh.g_sl ?k)) | ((with_reducible refine' Dh.g_noPart ?k)) | ((with_reducible refine' Dh.g_part ?k)) | ((with_reducible refine' Dh.g_isSomeInt ?k)) | ((with_reducible refine' Dh.g_slTk ?q0 ?k); (case q0 => walk_at "pk"); intro _) | ((with_reducible refine' Dh.g_slDr ?q0 ?k); (case q0 => walk_at "pk"); intro _) | ((with_reducible refine' Dh.g_slL ?q0 ?k); (case q0 => walk_at "pk"); intro _) | ((with_reducible refine' Dh.g_slQTk ?q0 ?k); (case q0 => walk_at "pk"); intro _))
local macro_rules | `(tactic| walk_at "vcp2") => `(tactic| first | ((with_reducible refine' Dh.g_slQ ?q0 ?k); (case q0 => walk_at "pk"); intro _) | ((with_reducible refine' Dh.g_fldE ?k)) | ((with_reducible refine' Dh.g_fld ?q0 ?q1 ?k); (case q0 => walk_at "pk"); (case q1 => walk_at "lk")) | ((with_reducible refine' Dh.g_tup ?k)) | ((with_reducible refine' Dh.g_lst ?k)) | ((with_reducible refine' Dh.g_newT ?q0 ?k); (case q0 => walk_at "side"); intro _) | ((with_reducible refine' Dh.g_newL ?q0 ?k); (case q0 => walk_at "side"); intro _) | ((with_reducible refine' Dh.g_nil ?k)) | ((with_reducible refine' Dh.g_cons ?k)) | ((with_reducible refine' Dh.g_call ?k)) | ((with_reducible refine' Dh.g_methE ?k)) | ((with_reducible refine' Dh.g_meth ?q0 ?k); (case q0 => walk_at "hasm")) | ((with_reducible refine' Dh.g_make ?k)) | ((with_reducible refine' Dh.g_made ?k); intro _) | ((with_reducible refine' Dh.g_cb ?k)) | ((with_reducible refine' Dh.g_int ?k)) | ((with_reducible refine' Dh.g_intB ?k)) | ((with_reducible refine' Dh.g_abs ?k)) | ((with_reducible refine' Dh.g_max2 ?k)) | ((with_reducible refine' Dh.g_min2 ?k)) | ((with_reducible refine' Dh.g_strI ?q0 ?k); (case q0 => walk_at "side")) | ((with_reducible refine' Dh.g_lenL ?q0 ?k); (case q0 => walk_at "pk")) | ((with_reducible refine' Dh.g_lenT ?q0 ?k); (case q0 => walk_at "pk")) | ((with_reducible refine' Dh.g_lenD ?q0 ?k); (case q0 => walk_at "pk")))
local macro_rules | `(tactic| walk_at "vcp3") => `(tactic| first | ((with_reducible refine' Dh.g_listL ?q0 ?k); (case q0 => walk_at "pk"); intro _) | ((with_reducible refine' Dh.g_listT ?q0 ?k); (case q0 => walk_at "pk"); intro _) | ((with_reducible refine' Dh.g_tupL ?q0 ?k); (case q0 => walk_at "pk"); intro _) | ((with_reducible refine' Dh.g_tupT ?q0 ?k); (case q0 => walk_at "pk")) | ((with_reducible refine' Dh.g_pop0 ?q0 ?k); (case q0 => walk_at "pk")) | ((with_reducible refine' Dh.g_bm ?k)) | ((with_reducible refine' Dh.g_bm0 ?k)) | ((with_reducible refine' Dh.g_tyL ?q0 ?k); (case q0 => walk_at "pk")) | ((with_reducible refine' Dh.g_append ?q0 ?q1 ?k); (case q0 => walk_at "pk"); (case q1 => walk_at "side")) | ((with_reducible refine' Dh.g_rep ?q0 ?q1 ?q2 ?q3 ?k); (case q0 => walk_at "pk"); (case q1 => walk_at "side"); (case q2 => walk_at "side"); (case q3 => walk_at "side"); intro _) | ((with_reducible refine' Dh.g_not ?k)) | ((with_reducible refine' Dh.g_tand ?k)) | ((with_reducible refine' Dh.g_tor ?k)) | ((with_reducible refine' Dh.g_andV ?k)) | ((with_reducible refine' Dh.g_orV ?k)) | ((with_reducible refine' Dh.g_notV ?k)) | ((with_reducible refine' Dh.g_ifE ?k)) | ((with_reducible refine' Dh.g_chain ?k)) | ((with_reducible refine' Dh.g_tru ?k)) | ((with_reducible refine' Dh.g_truB ?k)) | ((with_reducible refine' Dh.g_truI ?k)) | ((with_reducible refine' Dh.g_truN ?k)) | ((with_reducible refine' Dh.g_truL ?q0 ?k); (case q0 => walk_at "pk")) | ((with_reducible refine' Dh.g_gsub ?k)))
local macro_rules | `(tactic| walk_at "vcp4") => `(tactic| first | ((with_reducible refine' Dh.g_setM ?q0 ?q1 ?k); (case q0 => walk_at "pk"); (case q1 => walk_at "lk")) | ((with_reducible refine' Dh.g_setL ?q0 ?q1 ?k); (case q0 => walk_at "pk"); (case q1 => walk_at "lk")) | ((with_reducible refine' Dh.g_gtup ?q0 ?q1 ?k); (case q0 => walk_at "pk"); (case q1 => rfl)) | ((with_reducible refine' Dh.g_gnil ?k)) | ((with_reducible refine' Dh.g_gcons ?k)) | ((with_reducible refine' Dh.g_par ?k)) | ((with_reducible refine' Dh.g_par2 ?k)) | ((with_reducible refine' Dh.g_par3 ?k)) | ((with_reducible refine' Dh.g_par3b ?k)) | ((with_reducible refine' Dh.g_listRg ?k)) | ((with_reducible refine' Dh.g_rg1E ?k)) | ((with_reducible refine' Dh.g_rg1 ?k)) | ((with_reducible refine' Dh.g_rgN ?q0 ?k); (case q0 => walk_at "side"); intro _) | ((with_reducible refine' Dh.g_rgL ?q0 ?k); (case q0 => walk_at "side"); intro _) | ((with_reducible refine' Dh.g_dinE ?k)) | ((with_reducible refine' Dh.g_dinI ?q0 ?k); (case q0 => walk_at "pk")) | ((with_reducible refine' Dh.g_dnotinE ?k)) | ((with_reducible refine' Dh.g_dnotinI ?q0 ?k); (case q0 => walk_at "pk")) | ((with_reducible refine' Dh.g_dgetE ?k)) | ((with_reducible refine' Dh.g_dgetI ?q0 ?q1 ?k); (case q0 => walk_at "pk"); (case q1 => walk_at "lk")) | ((with_reducible refine' Dh.g_dputE ?k)) | ((with_reducible refine' Dh.g_dputI ?q0 ?q1 ?k); (case q0 => walk_at "pk"); (case q1 => walk_at "side")) | ((with_reducible refine' Dh.g_dpopE ?k)) | ((with_reducible refine' Dh.g_dpopA ?q0 ?k); (case q0 => walk_at "pk")))
local macro_rules | `(tactic| walk_at "vcp5") => `(tactic| first | ((with_reducible refine' Dh.g_dpopB ?q0 ?q1 ?k); (case q0 => walk_at "pk"); (case q1 => walk_at "lk")) | ((with_reducible refine' Dh.g_dnew ?k); intro _) | ((with_reducible refine' Dh.g_ipMul ?q0 ?k); (case q0 => walk_at "side")) | ((with_reducible refine' Dh.g_sfldE ?k)) | ((with_reducible refine' Dh.g_sfld ?q0 ?q1 ?q2 ?k); (case q0 => walk_at "pk"); (case q1 => walk_at "pf"); (case q2 => walk_at "ln")) | ((with_reducible refine' Dh.g_augE ?k)) | ((with_reducible refine' Dh.g_augF ?q0 ?q1 ?k); (case q0 => walk_at "pk"); (case q1 => walk_at "lk")) | ((with_reducible refine' Dh.g_augV ?q0 ?k); (case q0 => rfl)) | ((with_reducible refine' Dh.g_ipI ?k)) | ((with_reducible refine' Dh.g_rAdd ?k)) | ((with_reducible refine' Dh.g_rSub ?k)) | ((with_reducible refine' Dh.g_for ?k)) | ((with_reducible refine' Dh.g_iRng1 ?k)) | ((with_reducible refine' Dh.g_iRng2 ?k)) | ((with_reducible refine' Dh.g_rng1 ?q0 ?q1 ?k); (case q0 => walk_at "side"); (case q1 => walk_at "side")) | ((with_reducible refine' Dh.g_rng2 ?q0 ?k); (case q0 => walk_at "side")) | ((with_reducible refine' Dh.g_iSeqE ?k)) | ((with_reducible refine' Dh.g_iSeqL ?q0 ?k); (case q0 => walk_at "pk")) | ((with_reducible refine' Dh.g_iSeqT ?q0 ?k); (case q0 => walk_at "pk")) | ((with_reducible refine' Dh.g_inK ?q0 ?k); (case q0 => walk_at "kt")) | ((with_reducible refine' Dh.g_notInK ?q0 ?k); (case q0 => walk_at "kt")) | ((with_reducible refine' Dh.g_isiII ?k)) | ((with_reducible refine' Dh.g_isiIB ?k)) | ((with_reducible refine' Dh.g_dinS ?q0 ?k); (case q0 => walk_at "pk")))
local macro_rules | `(tactic| walk_at "vcp6") => `(tactic| first | ((with_reducible refine' Dh.g_dnotinS ?q0 ?k); (case q0 => walk_at "pk")) | ((with_reducible refine' Dh.g_dgetS ?q0 ?q1 ?k); (case q0 => walk_at "pk"); (case q1 => walk_at "lk")) | ((with_reducible refine' Dh.g_dputS ?q0 ?q1 ?k); (case q0 => walk_at "pk"); (case q1 => walk_at "side")) | ((with_reducible refine' Dh.g_dpopS ?q0 ?q1 ?k); (case q0 => walk_at "pk"); (case q1 => walk_at "lk")) | ((with_reducible refine' Dh.g_iRevE ?k)) | ((with_reducible refine' Dh.g_iRevL ?q0 ?k); (case q0 => walk_at "pk")) | ((with_reducible refine' Dh.g_iRevT ?q0 ?k); (case q0 => walk_at "pk")) | ((with_reducible refine' Dh.g_iZipE ?k)) | ((with_reducible refine' Dh.g_iZipL ?q0 ?q1 ?k); (case q0 => walk_at "pk"); (case q1 => walk_at "pk")) | ((with_reducible refine' Dh.g_iZipT ?q0 ?q1 ?k); (case q0 => walk_at "pk"); (case q1 => walk_at "pk")) | ((with_reducible refine' Dh.g_iEnumE ?k)) | ((with_reducible refine' Dh.g_iEnum ?q0 ?k); (case q0 => walk_at "pk")) | ((with_reducible refine' Dh.g_dcE ?k)) | ((with_reducible refine' Dh.g_dturn ?k)) | ((with_reducible refine' Dh.g_sum ?q0 ?k); (case q0 => walk_at "pk")) | ((with_reducible refine' Dh.g_pop ?q0 ?q1 ?k); (case q0 => walk_at "pk"); (case q1 => walk_at "lk")) | ((with_reducible refine' Dh.g_wbody ?k)) | ((with_reducible refine' Dh.g_lcE ?k)) | ((with_reducible refine' Dh.g_turn ?k)) | ((with_reducible refine' Dh.g_tYes ?k)) | ((with_reducible refine' Dh.g_rs ?k)) | ((with_reducible refine' Dh.g_rsW ?k)) | ((with_reducible refine' Dh.g_told ?k)) | ((with_reducible refine' Dh.g_ifT ?q0 ?k); (case q0 => rfl)))
local macro_rules | `(tactic| walk_at "vcp7") => `(tactic| first | ((with_reducible refine' Dh.g_ifF ?q0 ?k); (case q0 => rfl)) | ((with_reducible refine' Dh.g_and ?q0 ?k); (case q0 => rfl)) | ((with_reducible refine' Dh.g_turn ?k)))
local macro_rules | `(tactic| walk_at "vc1") => `(tactic| first | walk_at "vcp0" | walk_at "vcp1" | walk_at "vcp2" | walk_at "vcp3" | walk_at "vcp4" | walk_at "vcp5" | walk_at "vcp6" | walk_at "vcp7" | walk_at "use1" | walk_at "told1")
local macro_rules | `(tactic| walk_at "vc") => `(tactic| repeat walk_at "vc1")
local macro_rules | `(tactic| walk_at "spl") => `(tactic| first | ((with_reducible refine Dh.g_ifD ?_ ?_) <;> intro _) | ((with_reducible refine Dh.g_ifN ?_ ?_) <;> intro _) | ((with_reducible refine Dh.g_if ?_ ?_) <;> intro _))
local macro_rules | `(tactic| walk_at "vcs") => `(tactic| repeat' (first | walk_at "vc1" | walk_at "spl"))
local macro_rules | `(tactic| walk_at "told1") => `(tactic| first | ((with_reducible refine' Dh.g_toldY (Toy.Txt.x_BadWord_BadWord ?z) ?k); (case z => assumption)))
local macro_rules | `(tactic| walk_at "use1") => `(tactic| ((with_reducible refine' Toy.use_law_dice (fun _ _ _ _ => ?k0))))
local macro_rules | `(tactic| walk_at "use1") => `(tactic| ((with_reducible refine' Toy.use_law_roll ?q0 ?h0 ?h1 (fun _ _ => ?k0)); (case q0 => walk_at "pk"); (case h0 => walk_at "side"); (case h1 => walk_at "side")))
local macro_rules | `(tactic| walk_at "use1") => `(tactic| ((with_reducible refine' Toy.use_power ?h0 ?h1 ?k0); (case h0 => walk_at "side"); (case h1 => walk_at "side")))
local macro_rules | `(tactic| walk_at "use") => `(tactic| ((with_reducible refine' Toy.use_check_word ?h0 ?h1 (fun _ => ?k0) (fun _ _ => ?k1)); (case h0 => walk_at "side"); (case h1 => walk_at "side")))
local macro_rules | `(tactic| walk_at "use1") => `(tactic| ((with_reducible refine' Toy.use_field ?h0 ?h1 ?h2 ?h3 ?k0); (case h0 => walk_at "side"); (case h1 => walk_at "side"); (case h2 => walk_at "side"); (case h3 => walk_at "side")))
local macro_rules | `(tactic| walk_at "use") => `(tactic| ((with_reducible refine' Toy.use_with_field ?h0 ?h1 ?h2 ?h3 (fun _ => ?k0) (fun _ _ => ?k1)); (case h0 => walk_at "side"); (case h1 => walk_at "side"); (case h2 => walk_at "side"); (case h3 => walk_at "side")))
local macro_rules | `(tactic| walk_at "use1") => `(tactic| ((with_reducible refine' Toy.use_bits ?h0 ?h1 (fun _ => ?k0)); (case h0 => walk_at "side"); (case h1 => walk_at "side")))
local macro_rules | `(tactic| walk_at "use1") => `(tactic| ((with_reducible refine' Toy.use_of_bits ?q0 ?h0 ?k0); (case q0 => walk_at "pk"); (case h0 => walk_at "side")))
local macro_rules | `(tactic| walk_at "use1") => `(tactic| ((with_reducible refine' Toy.use_both ?h0 ?h1 ?k0); (case h0 => walk_at "side"); (case h1 => walk_at "side")))
local macro_rules | `(tactic| walk_at "use1") => `(tactic| ((with_reducible refine' Toy.use_either ?h0 ?h1 ?k0); (case h0 => walk_at "side"); (case h1 => walk_at "side")))
local macro_rules | `(tactic| walk_at "use1") => `(tactic| ((with_reducible refine' Toy.use_without ?h0 ?h1 ?k0); (case h0 => walk_at "side"); (case h1 => walk_at "side")))
local macro_rules | `(tactic| walk_at "use1") => `(tactic| ((with_reducible refine' Toy.use_turned_octets ?h0 ?h1 ?k0); (case h0 => walk_at "side"); (case h1 => walk_at "side")))
namespace Toy
open PySem L2
section
variable {P : Program} {w : World} {K : PySem.W.Frag} {mg : Str → Option Value} {base : Heap} {T : List (Addr × Str)} {C_Register C_BadWord C_BadPlace C_BadPlan C_NotDue C_Stuck C_BadBits C_BadText C_TooLarge g_told g_RULES : Addr}
/-! the mathematics of a register -/
structure Fd where
  nm : Str
  lo : Int
  many : Int
  rule : Str
def fdt (f : Fd) : Dh.Dt := .tup [.str f.nm, .int f.lo, .int f.many, .str f.rule]
def pdt (q : Str × Int) : Dh.Dt := .tup [.str q.1, .int q.2]
def rules : List Str := ["plain", "read", "clear", "once", "pulse"]
def marks : List Key → Int → Nat → Option (List Key)
  | us, _, 0 => some us
  | us, lo, m + 1 => if Dh.hasK us (Sum.inl lo) = true then none else marks (Dh.addK us (Sum.inl lo)) (lo + 1) m
theorem marks_app {a b : Nat} : ∀ {us : List Key} {lo : Int}, marks us lo (a + b) = (marks us lo a).bind fun u => marks u (lo + a) b := by
  induction a with
  | zero => intro us lo; simp [marks]
  | succ a ih =>
    intro us lo
    rw [show a + 1 + b = (a + b) + 1 by omega, marks, marks]
    split
    · rfl
    · rw [ih, show lo + 1 + (a : Int) = lo + ((a + 1 : Nat) : Int) by omega]
def fdOk (wide : Int) (f : Fd) : Bool := decide (f.rule ∈ rules) && (decide (1 ≤ f.many) && (decide (0 ≤ f.lo) && decide (f.lo + f.many ≤ wide)))
def regUse (wide : Int) : List Key → List Fd → Option (List Key)
  | us, [] => some us
  | us, f :: fl => if fdOk wide f = true then (marks us f.lo f.many.toNat).bind fun u => regUse wide u fl else none
theorem regUse_app {wide : Int} {B : List Fd} : ∀ {A : List Fd} {us : List Key}, regUse wide us (A ++ B) = (regUse wide us A).bind fun u => regUse wide u B
  | [], us => rfl
  | f :: A, us => by
    rw [List.cons_append, regUse, regUse]
    split
    · cases marks us f.lo f.many.toNat with
      | none => rfl
      | some u => exact regUse_app
    · rfl
def names (fl : List Fd) : List Key := (fl.map fun f => (Sum.inr f.nm : Key)).foldl Dh.addK []
abbrev RSt := Int × List Key × List (Str × Int)
abbrev wo (a b n : Int) : Int := ofB (List.zipWith (fun u z : Int => u * (1 - z)) (bitsL a n.toNat) (bitsL b n.toNat))
def wstep (word : Int) (s : RSt) (f : Fd) : RSt :=
  if f.rule = "plain" ∨ (f.rule = "once" ∧ ¬ Dh.hasK s.2.1 (Sum.inr f.nm) = true) then (wf s.1 f.lo f.many (fld word f.lo f.many), Dh.addK s.2.1 (Sum.inr f.nm), s.2.2)
  else if f.rule = "clear" then (wf s.1 f.lo f.many (wo (fld s.1 f.lo f.many) (fld word f.lo f.many) f.many), s.2.1, s.2.2)
  else if f.rule = "pulse" ∧ fld word f.lo f.many > 0 then (s.1, s.2.1, s.2.2 ++ [(f.nm, fld word f.lo f.many)])
  else s
theorem fld_in {w l n : Int} : 0 ≤ fld w l n ∧ fld w l n < pw n := ⟨Int.emod_nonneg _ (by have := pw_pos n; omega), Int.emod_lt_of_pos _ (pw_pos n)⟩
theorem ofB_in : ∀ {bs : List Int}, (∀ b ∈ bs, 0 ≤ b ∧ b ≤ 1) → 0 ≤ ofB bs ∧ ofB bs < pw (bs.length : Int)
  | [], _ => ⟨Int.le_refl _, by decide⟩
  | b :: bs, h => by
    have h1 := h b List.mem_cons_self
    have h2 := ofB_in fun x hx => h x (List.mem_cons_of_mem _ hx)
    rw [List.length_cons, pw_succ, ofB]
    omega
theorem fd_no {wide : Int} {f : Fd} (h : ¬ f.rule ∈ rules ∨ f.many < 1 ∨ f.lo < 0 ∨ wide < f.lo + f.many) : ¬ fdOk wide f = true := by
  intro e
  simp only [fdOk, Bool.and_eq_true, decide_eq_true_eq] at e
  rcases h with h | h | h | h
  · exact h e.1
  all_goals omega
theorem fd_yes {wide : Int} {f : Fd} (h1 : f.rule ∈ rules) (h2 : ¬ f.many < 1) (h3 : ¬ f.lo < 0) (h4 : ¬ wide < f.lo + f.many) : fdOk wide f = true := by
  simp only [fdOk, Bool.and_eq_true, decide_eq_true_eq]
  exact ⟨h1, by omega, by omega, by omega⟩
theorem regUse_at {wide : Int} {fl : List Fd} {f : Fd} {i : Nat} {us : List Key} (hf : fl[i]? = some f) (h : regUse wide [] (fl.take i) = some us) :
    regUse wide [] fl = if fdOk wide f = true then (marks us f.lo f.many.toNat).bind fun u => regUse wide u (fl.drop (i + 1)) else none := by
  have hi := (List.getElem?_eq_some_iff.mp hf).1
  have e : fl = fl.take i ++ f :: fl.drop (i + 1) := by
    rw [← (List.getElem?_eq_some_iff.mp hf).2, List.getElem_cons_drop, List.take_append_drop]
  conv => lhs; rw [e]
  rw [regUse_app, h]
  rfl
theorem regUse_next {wide : Int} {fl : List Fd} {f : Fd} {i : Nat} {us u : List Key} (hf : fl[i]? = some f) (h : regUse wide [] (fl.take i) = some us) (h1 : fdOk wide f = true) (h2 : marks us f.lo f.many.toNat = some u) : regUse wide [] (fl.take (i + 1)) = some u := by
  rw [List.take_add_one, hf]
  show regUse wide [] (fl.take i ++ [f]) = some u
  rw [regUse_app, h]
  show regUse wide us [f] = some u
  rw [regUse, if_pos h1, h2]
  rfl
theorem marks_bad {us u : List Key} {lo : Int} {j m : Nat} (hj : j < m) (h : marks us lo j = some u) (hk : Dh.hasK u (Sum.inl (lo + j)) = true) : marks us lo m = none := by
  obtain ⟨b, rfl⟩ : ∃ b, m = j + (b + 1) := ⟨m - j - 1, by omega⟩
  rw [marks_app, h]
  show marks u (lo + j) (b + 1) = none
  rw [marks, if_pos hk]
theorem marks_next {us u : List Key} {lo : Int} {j : Nat} (h : marks us lo j = some u) (hk : ¬ Dh.hasK u (Sum.inl (lo + j)) = true) : marks us lo (j + 1) = some (Dh.addK u (Sum.inl (lo + j))) := by
  rw [marks_app, h]
  show marks u (lo + j) 1 = _
  rw [marks, if_neg hk]
  rfl
theorem wo_in {a b n : Int} (hn : 0 ≤ n) : 0 ≤ wo a b n ∧ wo a b n < pw n := by
  have h := ofB_in (bs := List.zipWith (fun u z : Int => u * (1 - z)) (bitsL a n.toNat) (bitsL b n.toNat)) ?_
  · rw [List.length_zipWith, bitsL_len, bitsL_len, Nat.min_self, Int.toNat_of_nonneg hn] at h
    exact h
  · intro x hx
    obtain ⟨i, hi⟩ := List.mem_iff_getElem?.mp hx
    rw [List.getElem?_zipWith] at hi
    cases hu : (bitsL a n.toNat)[i]? with
    | none => rw [hu] at hi; simp at hi
    | some u =>
      cases hz : (bitsL b n.toNat)[i]? with
      | none => rw [hu, hz] at hi; simp at hi
      | some z =>
        rw [hu, hz] at hi
        simp at hi
        have h1 := bit01 hu
        have h2 := bit01 hz
        rcases (show u = 0 ∨ u = 1 by omega) with rfl | rfl
        · omega
        · omega
end
end Toy
end

section
local macro_rules | `(tactic| walk_at "pk") => `(tactic| (with_reducible first | exact Dh.pick_here | (refine' Dh.pick_there ?p; (case p => walk_at "pk"))))
local macro_rules | `(tactic| walk_at "ent") => `(tactic| first | (with_reducible exact Dh.ent_refl) | (with_reducible exact Dh.ent_nil) | (refine' Dh.ent_cons ?q0 ?k; (case q0 => walk_at "pk"); (case k => walk_at "ent")) | (refine' Dh.ent_drop ?k; (case k => walk_at "ent")))
local macro_rules | `(tactic| walk_at "side") => `(tactic| first | (with_reducible assumption) | omega | decide | (exact Or.inl rfl) | (exact Or.inr rfl) | (exact Dh.log2_ok (by omega)) | (simp only [L2.CMul, L2.CDiv, L2.CDivN]; omega) | (unfold L2.CPow; decide) | (simp only [List.length_cons, List.length_nil, List.length_append, List.length_map, List.length_range, List.length_replicate, List.length_set, List.length_take, List.length_drop, PySem.sizeLine_eq] <;> omega))
local macro_rules | `(tactic| walk_at "dvp") => `(tactic| (with_reducible first | exact Dh.DV.int | exact Dh.DV.str | exact Dh.DV.bl | exact Dh.DV.non | exact Dh.DVs.nil | (refine' Dh.Pick.dvs ?a (by assumption); (case a => walk_at "pk")) | (refine' Dh.Pick.dv ?a (by assumption); (case a => walk_at "pk")) | (refine' Dh.DVs.cons ?a ?b; (case a => walk_at "dvp"); (case b => walk_at "dvp")) | (refine' Dh.DVs.app ?a ?b; (case a => walk_at "dvp"); (case b => walk_at "dvp")) | (refine' Dh.Pick.tup ?a (by assumption) ?b; (case a => walk_at "pk"); (case b => walk_at "dvp")) | (refine' Dh.DVs.take _ ?a; (case a => walk_at "dvp")) | (refine' Dh.DVs.drop _ ?a; (case a => walk_at "dvp")) | (refine' Dh.DVs.set _ ?a ?b; (case a => walk_at "dvp"); (case b => walk_at "dvp"))))
local macro_rules | `(tactic| walk_at "ixs") => `(tactic| first | assumption | omega | (simp only [List.length_set, List.length_map, List.length_cons, List.length_nil, List.length_append, List.length_replicate] <;> first | assumption | omega))
local macro_rules | `(tactic| walk_at "lk") => `(tactic| first | rfl | assumption | (exact Dh.ixN_lt (by walk_at "ixs")) | (exact Dh.atI_lt (by assumption)) | (exact Dh.atI_map (by assumption))  | with_reducible exact Toy.lk_Register_wide | with_reducible exact Toy.lk_Register_fields | with_reducible exact Toy.lk_Register_word | with_reducible exact Toy.lk_Register_written | with_reducible exact Toy.lk_Register_pulses | with_reducible exact Toy.no_Register_init | with_reducible exact Toy.no_Register_read | with_reducible exact Toy.no_Register_write | with_reducible exact Toy.no_Register_row_of | with_reducible exact Toy.no_Register_get | with_reducible exact Toy.no_Register_put)
local macro_rules | `(tactic| walk_at "kt") => `(tactic| assumption)
local macro_rules | `(tactic| walk_at "pf") => `(tactic| first  | with_reducible exact Toy.pf_Register_wide | with_reducible exact Toy.pf_Register_fields | with_reducible exact Toy.pf_Register_word | with_reducible exact Toy.pf_Register_written | with_reducible exact Toy.pf_Register_pulses | with_reducible exact Toy.gr_Register_wide | with_reducible exact Toy.gr_Register_fields | with_reducible exact Toy.gr_Register_word | with_reducible exact Toy.gr_Register_written | with_reducible exact Toy.gr_Register_pulses | rfl)
local macro_rules | `(tactic| walk_at "ln") => `(tactic| first  | with_reducible exact Toy.ln_Register | decide | (simp only [List.length_cons, List.length_nil] <;> omega))
local macro_rules | `(tactic| walk_at "hasm") => `(tactic| first | (refine' Dh.hasM_ob ?q0 ?q1; (case q0 => walk_at "pk"); (case q1 => walk_at "lk")))
local macro_rules | `(tactic| walk_at "vcp0") => `(tactic| first | ((with_reducible refine' Dh.g_seq ?k)) | ((with_reducible refine' Dh.g_next ?k)) | ((with_reducible refine' Dh.g_nonA ?k)) | ((with_reducible refine' Dh.g_var ?q0 ?k); (case q0 => rfl)) | ((with_reducible refine' Dh.g_c ?k)) | ((with_reducible refine' Dh.g_op ?k)) | ((with_reducible refine' Dh.g_asg ?k)) | ((with_reducible refine' Dh.g_name ?k)) | ((with_reducible refine' Dh.g_ifS ?k)) | ((with_reducible refine' Dh.g_test ?k)) | ((with_reducible refine' Dh.g_isB ?k)) | ((with_reducible refine' Dh.g_B ?k)) | ((with_reducible refine' Dh.g_ret ?k)) | ((with_reducible refine' Dh.g_retN ?k)) | ((with_reducible refine' Dh.g_drop ?k)) | ((with_reducible refine' Dh.g_brk ?k)) | ((with_reducible refine' Dh.g_cont ?k)) | ((with_reducible refine' Dh.g_un ?k)) | ((with_reducible refine' Dh.g_I0 ?k)) | ((with_reducible refine' Dh.g_addI ?k)) | ((with_reducible refine' Dh.g_addB ?k)) | ((with_reducible refine' Dh.g_addS ?q0 ?k); (case q0 => walk_at "side")) | ((with_reducible refine' Dh.g_addM ?q0 ?q1 ?q2 ?k); (case q0 => walk_at "pk"); (case q1 => walk_at "pk"); (case q2 => walk_at "side"); intro _) | ((with_reducible refine' Dh.g_addL ?q0 ?q1 ?q2 ?k); (case q0 => walk_at "pk"); (case q1 => walk_at "pk"); (case q2 => walk_at "side"); intro _))
local macro_rules | `(tactic| walk_at "vcp1") => `(tactic| first | ((with_reducible refine' Dh.g_I ?q0 ?k); (case q0 => walk_at "side")) | ((with_reducible refine' Dh.g_mulI ?q0 ?k); (case q0 => walk_at "side")) | ((with_reducible refine' Dh.g_U ?k)) | ((with_reducible refine' Dh.g_eqS ?q0 ?k); (case q0 => rfl)) | ((with_reducible refine' Dh.g_neS ?q0 ?k); (case q0 => rfl)) | ((with_reducible refine' Dh.g_eqLL ?q0 ?q1 ?k); (case q0 => walk_at "pk"); (case q1 => walk_at "pk")) | ((with_reducible refine' Dh.g_neLL ?q0 ?q1 ?k); (case q0 => walk_at "pk"); (case q1 => walk_at "pk")) | ((with_reducible refine' Dh.g_eqL0 ?q0 ?q1 ?k); (case q0 => walk_at "pk"); (case q1 => walk_at "pk")) | ((with_reducible refine' Dh.g_neL0 ?q0 ?q1 ?k); (case q0 => walk_at "pk"); (case q1 => walk_at "pk")) | ((with_reducible refine' Dh.g_neT0 ?q0 ?q1 ?q2 ?k); (case q0 => walk_at "pk"); (case q1 => walk_at "pk"); (case q2 => walk_at "pk")) | ((with_reducible refine' Dh.g_neP ?q0 ?q1 ?k); (case q0 => walk_at "pk"); (case q1 => walk_at "pk")) | ((with_reducible refine' Dh.g_inI ?q0 ?k); (case q0 => walk_at "pk")) | ((with_reducible refine' Dh.g_isN ?k)) | ((with_reducible refine' Dh.g_notN ?k)) | ((with_reducible refine' Dh.g_ixL ?q0 ?q1 ?k); (case q0 => walk_at "pk"); (case q1 => walk_at "lk")) | ((with_reducible refine' Dh.g_ixT ?q0 ?q1 ?k); (case q0 => walk_at "pk"); (case q1 => walk_at "lk")) | ((with_reducible refine' Dh.g_sl ?k)) | ((with_reducible refine' Dh.g_noPart ?k)) | ((with_reducible refine' Dh.g_part ?k)) | ((with_reducible refine' Dh.g_isSomeInt ?k)) | ((with_reducible refine' Dh.g_slTk ?q0 ?k); (case q0 => walk_at "pk"); intro _) | ((with_reducible refine' Dh.g_slDr ?q0 ?k); (case q0 => walk_at "pk"); intro _) | ((with_reducible refine' Dh.g_slL ?q0 ?k); (case q0 => walk_at "pk"); intro _) | ((with_reducible refine' Dh.g_slQTk ?q0 ?k); (case q0 => walk_at "pk"); intro _))
local macro_rules | `(tactic| walk_at "vcp2") => `(tactic| first | ((with_reducible refine' Dh.g_slQ ?q0 ?k); (case q0 => walk_at "pk"); intro _) | ((with_reducible refine' Dh.g_fldE ?k)) | ((with_reducible refine' Dh.g_fld ?q0 ?q1 ?k); (case q0 => walk_at "pk"); (case q1 => walk_at "lk")) | ((with_reducible refine' Dh.g_tup ?k)) | ((with_reducible refine' Dh.g_lst ?k)) | ((with_reducible refine' Dh.g_newT ?q0 ?k); (case q0 => walk_at "side"); intro _) | ((with_reducible refine' Dh.g_newL ?q0 ?k); (case q0 => walk_at "side"); intro _) | ((with_reducible refine' Dh.g_nil ?k)) | ((with_reducible refine' Dh.g_cons ?k)) | ((with_reducible refine' Dh.g_call ?k)) | ((with_reducible refine' Dh.g_methE ?k)) | ((with_reducible refine' Dh.g_meth ?q0 ?k); (case q0 => walk_at "hasm")) | ((with_reducible refine' Dh.g_make ?k)) | ((with_reducible refine' Dh.g_made ?k); intro _) | ((with_reducible refine' Dh.g_cb ?k)) | ((with_reducible refine' Dh.g_int ?k)) | ((with_reducible refine' Dh.g_intB ?k)) | ((with_reducible refine' Dh.g_abs ?k)) | ((with_reducible refine' Dh.g_max2 ?k)) | ((with_reducible refine' Dh.g_min2 ?k)) | ((with_reducible refine' Dh.g_strI ?q0 ?k); (case q0 => walk_at "side")) | ((with_reducible refine' Dh.g_lenL ?q0 ?k); (case q0 => walk_at "pk")) | ((with_reducible refine' Dh.g_lenT ?q0 ?k); (case q0 => walk_at "pk")) | ((with_reducible refine' Dh.g_lenD ?q0 ?k); (case q0 => walk_at "pk")))
local macro_rules | `(tactic| walk_at "vcp3") => `(tactic| first | ((with_reducible refine' Dh.g_listL ?q0 ?k); (case q0 => walk_at "pk"); intro _) | ((with_reducible refine' Dh.g_listT ?q0 ?k); (case q0 => walk_at "pk"); intro _) | ((with_reducible refine' Dh.g_tupL ?q0 ?k); (case q0 => walk_at "pk"); intro _) | ((with_reducible refine' Dh.g_tupT ?q0 ?k); (case q0 => walk_at "pk")) | ((with_reducible refine' Dh.g_pop0 ?q0 ?k); (case q0 => walk_at "pk")) | ((with_reducible refine' Dh.g_bm ?k)) | ((with_reducible refine' Dh.g_bm0 ?k)) | ((with_reducible refine' Dh.g_tyL ?q0 ?k); (case q0 => walk_at "pk")) | ((with_reducible refine' Dh.g_append ?q0 ?q1 ?k); (case q0 => walk_at "pk"); (case q1 => walk_at "side")) | ((with_reducible refine' Dh.g_rep ?q0 ?q1 ?q2 ?q3 ?k); (case q0 => walk_at "pk"); (case q1 => walk_at "side"); (case q2 => walk_at "side"); (case q3 => walk_at "side"); intro _) | ((with_reducible refine' Dh.g_not ?k)) | ((with_reducible refine' Dh.g_tand ?k)) | ((with_reducible refine' Dh.g_tor ?k)) | ((with_reducible refine' Dh.g_andV ?k)) | ((with_reducible refine' Dh.g_orV ?k)) | ((with_reducible refine' Dh.g_notV ?k)) | ((with_reducible refine' Dh.g_ifE ?k)) | ((with_reducible refine' Dh.g_chain ?k)) | ((with_reducible refine' Dh.g_tru ?k)) | ((with_reducible refine' Dh.g_truB ?k)) | ((with_reducible refine' Dh.g_truI ?k)) | ((with_reducible refine' Dh.g_truN ?k)) | ((with_reducible refine' Dh.g_truL ?q0 ?k); (case q0 => walk_at "pk")) | ((with_reducible refine' Dh.g_gsub ?k)))
local macro_rules | `(tactic| walk_at "vcp4") => `(tactic| first | ((with_reducible refine' Dh.g_setM ?q0 ?q1 ?k); (case q0 => walk_at "pk"); (case q1 => walk_at "lk")) | ((with_reducible refine' Dh.g_setL ?q0 ?q1 ?k); (case q0 => walk_at "pk"); (case q1 => walk_at "lk")) | ((with_reducible refine' Dh.g_gtup ?q0 ?q1 ?k); (case q0 => walk_at "pk"); (case q1 => rfl)) | ((with_reducible refine' Dh.g_gnil ?k)) | ((with_reducible refine' Dh.g_gcons ?k)) | ((with_reducible refine' Dh.g_par ?k)) | ((with_reducible refine' Dh.g_par2 ?k)) | ((with_reducible refine' Dh.g_par3 ?k)) | ((with_reducible refine' Dh.g_par3b ?k)) | ((with_reducible refine' Dh.g_listRg ?k)) | ((with_reducible refine' Dh.g_rg1E ?k)) | ((with_reducible refine' Dh.g_rg1 ?k)) | ((with_reducible refine' Dh.g_rgN ?q0 ?k); (case q0 => walk_at "side"); intro _) | ((with_reducible refine' Dh.g_rgL ?q0 ?k); (case q0 => walk_at "side"); intro _) | ((with_reducible refine' Dh.g_dinE ?k)) | ((with_reducible refine' Dh.g_dinI ?q0 ?k); (case q0 => walk_at "pk")) | ((with_reducible refine' Dh.g_dnotinE ?k)) | ((with_reducible refine' Dh.g_dnotinI ?q0 ?k); (case q0 => walk_at "pk")) | ((with_reducible refine' Dh.g_dgetE ?k)) | ((with_reducible refine' Dh.g_dgetI ?q0 ?q1 ?k); (case q0 => walk_at "pk"); (case q1 => walk_at "lk")) | ((with_reducible refine' Dh.g_dputE ?k)) | ((with_reducible refine' Dh.g_dputI ?q0 ?q1 ?k); (case q0 => walk_at "pk"); (case q1 => walk_at "side")) | ((with_reducible refine' Dh.g_dpopE ?k)) | ((with_reducible refine' Dh.g_dpopA ?q0 ?k); (case q0 => walk_at "pk")))
local macro_rules | `(tactic| walk_at "vcp5") => `(tactic| first | ((with_reducible refine' Dh.g_dpopB ?q0 ?q1 ?k); (case q0 => walk_at "pk"); (case q1 => walk_at "lk")) | ((with_reducible refine' Dh.g_dnew ?k); intro _) | ((with_reducible refine' Dh.g_ipMul ?q0 ?k); (case q0 => walk_at "side")) | ((with_reducible refine' Dh.g_sfldE ?k)) | ((with_reducible refine' Dh.g_sfld ?q0 ?q1 ?q2 ?k); (case q0 => walk_at "pk"); (case q1 => walk_at "pf"); (case q2 => walk_at "ln")) | ((with_reducible refine' Dh.g_augE ?k)) | ((with_reducible refine' Dh.g_augF ?q0 ?q1 ?k); (case q0 => walk_at "pk"); (case q1 => walk_at "lk")) | ((with_reducible refine' Dh.g_augV ?q0 ?k); (case q0 => rfl)) | ((with_reducible refine' Dh.g_ipI ?k)) | ((with_reducible refine' Dh.g_rAdd ?k)) | ((with_reducible refine' Dh.g_rSub ?k)) | ((with_reducible refine' Dh.g_for ?k)) | ((with_reducible refine' Dh.g_iRng1 ?k)) | ((with_reducible refine' Dh.g_iRng2 ?k)) | ((with_reducible refine' Dh.g_rng1 ?q0 ?q1 ?k); (case q0 => walk_at "side"); (case q1 => walk_at "side")) | ((with_reducible refine' Dh.g_rng2 ?q0 ?k); (case q0 => walk_at "side")) | ((with_reducible refine' Dh.g_iSeqE ?k)) | ((with_reducible refine' Dh.g_iSeqL ?q0 ?k); (case q0 => walk_at "pk")) | ((with_reducible refine' Dh.g_iSeqT ?q0 ?k); (case q0 => walk_at "pk")) | ((with_reducible refine' Dh.g_inK ?q0 ?k); (case q0 => walk_at "kt")) | ((with_reducible refine' Dh.g_notInK ?q0 ?k); (case q0 => walk_at "kt")) | ((with_reducible refine' Dh.g_isiII ?k)) | ((with_reducible refine' Dh.g_isiIB ?k)) | ((with_reducible refine' Dh.g_dinS ?q0 ?k); (case q0 => walk_at "pk")))
local macro_rules | `(tactic| walk_at "vcp6") => `(tactic| first | ((with_reducible refine' Dh.g_dnotinS ?q0 ?k); (case q0 => walk_at "pk")) | ((with_reducible refine' Dh.g_dgetS ?q0 ?q1 ?k); (case q0 => walk_at "pk"); (case q1 => walk_at "lk")) | ((with_reducible refine' Dh.g_dputS ?q0 ?q1 ?k); (case q0 => walk_at "pk"); (case q1 => walk_at "side")) | ((with_reducible refine' Dh.g_dpopS ?q0 ?q1 ?k); (case q0 => walk_at "pk"); (case q1 => walk_at "lk")) | ((with_reducible refine' Dh.g_iRevE ?k)) | ((with_reducible refine' Dh.g_iRevL ?q0 ?k); (case q0 => walk_at "pk")) | ((with_reducible refine' Dh.g_iRevT ?q0 ?k); (case q0 => walk_at "pk")) | ((with_reducible refine' Dh.g_iZipE ?k)) | ((with_reducible refine' Dh.g_iZipL ?q0 ?q1 ?k); (case q0 => walk_at "pk"); (case q1 => walk_at "pk")) | ((with_reducible refine' Dh.g_iZipT ?q0 ?q1 ?k); (case q0 => walk_at "pk"); (case q1 => walk_at "pk")) | ((with_reducible refine' Dh.g_iEnumE ?k)) | ((with_reducible refine' Dh.g_iEnum ?q0 ?k); (case q0 => walk_at "pk")) | ((with_reducible refine' Dh.g_dcE ?k)) | ((with_reducible refine' Dh.g_dturn ?k)) | ((with_reducible refine' Dh.g_sum ?q0 ?k); (case q0 => walk_at "pk")) | ((with_reducible refine' Dh.g_pop ?q0 ?q1 ?k); (case q0 => walk_at "pk"); (case q1 => walk_at "lk")) | ((with_reducible refine' Dh.g_wbody ?k)) | ((with_reducible refine' Dh.g_lcE ?k)) | ((with_reducible refine' Dh.g_turn ?k)) | ((with_reducible refine' Dh.g_tYes ?k)) | ((with_reducible refine' Dh.g_rs ?k)) | ((with_reducible refine' Dh.g_rsW ?k)) | ((with_reducible refine' Dh.g_told ?k)) | ((with_reducible refine' Dh.g_ifT ?q0 ?k); (case q0 => rfl)))
local macro_rules | `(tactic| walk_at "vcp7") => `(tactic| first | ((with_reducible refine' Dh.g_ifF ?q0 ?k); (case q0 => rfl)) | ((with_reducible refine' Dh.g_and ?q0 ?k); (case q0 => rfl)) | ((with_reducible refine' Dh.g_turn ?k)))
local macro_rules | `(tactic| walk_at "vc1") => `(tactic| first | walk_at "vcp0" | walk_at "vcp1" | walk_at "vcp2" | walk_at "vcp3" | walk_at "vcp4" | walk_at "vcp5" | walk_at "vcp6" | walk_at "vcp7" | walk_at "use1" | walk_at "told1")
local macro_rules | `(tactic| walk_at "vc") => `(tactic| repeat walk_at "vc1")
local macro_rules | `(tactic| walk_at "spl") => `(tactic| first | ((with_reducible refine Dh.g_ifD ?_ ?_) <;> intro _) | ((with_reducible refine Dh.g_ifN ?_ ?_) <;> intro _) | ((with_reducible refine Dh.g_if ?_ ?_) <;> intro _))
local macro_rules | `(tactic| walk_at "vcs") => `(tactic| repeat' (first | walk_at "vc1" | walk_at "spl"))
local macro_rules | `(tactic| walk_at "told1") => `(tactic| first | ((with_reducible refine' Dh.g_toldY (Toy.Txt.x_BadWord_BadWord ?z) ?k); (case z => assumption)))
local macro_rules | `(tactic| walk_at "use1") => `(tactic| ((with_reducible refine' Toy.use_law_dice (fun _ _ _ _ => ?k0))))
local macro_rules | `(tactic| walk_at "use1") => `(tactic| ((with_reducible refine' Toy.use_law_roll ?q0 ?h0 ?h1 (fun _ _ => ?k0)); (case q0 => walk_at "pk"); (case h0 => walk_at "side"); (case h1 => walk_at "side")))
local macro_rules | `(tactic| walk_at "use1") => `(tactic| ((with_reducible refine' Toy.use_power ?h0 ?h1 ?k0); (case h0 => walk_at "side"); (case h1 => walk_at "side")))
local macro_rules | `(tactic| walk_at "use") => `(tactic| ((with_reducible refine' Toy.use_check_word ?h0 ?h1 (fun _ => ?k0) (fun _ _ => ?k1)); (case h0 => walk_at "side"); (case h1 => walk_at "side")))
local macro_rules | `(tactic| walk_at "use1") => `(tactic| ((with_reducible refine' Toy.use_field ?h0 ?h1 ?h2 ?h3 ?k0); (case h0 => walk_at "side"); (case h1 => walk_at "side"); (case h2 => walk_at "side"); (case h3 => walk_at "side")))
local macro_rules | `(tactic| walk_at "use") => `(tactic| ((with_reducible refine' Toy.use_with_field ?h0 ?h1 ?h2 ?h3 (fun _ => ?k0) (fun _ _ => ?k1)); (case h0 => walk_at "side"); (case h1 => walk_at "side"); (case h2 => walk_at "side"); (case h3 => walk_at "side")))
local macro_rules | `(tactic| walk_at "use1") => `(tactic| ((with_reducible refine' Toy.use_bits ?h0 ?h1 (fun _ => ?k0)); (case h0 => walk_at "side"); (case h1 => walk_at "side")))
local macro_rules | `(tactic| walk_at "use1") => `(tactic| ((with_reducible refine' Toy.use_of_bits ?q0 ?h0 ?k0); (case q0 => walk_at "pk"); (case h0 => walk_at "side")))
local macro_rules | `(tactic| walk_at "use1") => `(tactic| ((with_reducible refine' Toy.use_both ?h0 ?h1 ?k0); (case h0 => walk_at "side"); (case h1 => walk_at "side")))
local macro_rules | `(tactic| walk_at "use1") => `(tactic| ((with_reducible refine' Toy.use_either ?h0 ?h1 ?k0); (case h0 => walk_at "side"); (case h1 => walk_at "side")))
local macro_rules | `(tactic| walk_at "use1") => `(tactic| ((with_reducible refine' Toy.use_without ?h0 ?h1 ?k0); (case h0 => walk_at "side"); (case h1 => walk_at "side")))
local macro_rules | `(tactic| walk_at "use1") => `(tactic| ((with_reducible refine' Toy.use_turned_octets ?h0 ?h1 ?k0); (case h0 => walk_at "side"); (case h1 => walk_at "side")))
namespace Toy
open PySem L2
section
variable {P : Program} {w : World} {K : PySem.W.Frag} {mg : Str → Option Value} {base : Heap} {T : List (Addr × Str)} {C_Register C_BadWord C_BadPlace C_BadPlan C_NotDue C_Stuck C_BadBits C_BadText C_TooLarge g_told g_RULES : Addr}
def RegAt (C p : Addr) (wide : Int) (fl : List Fd) (w : Int) (wl : List Key) (ps : List (Str × Int)) : Dh.HP := fun H => ∃ (t : Addr) (r : Addr) (d : Addr) (vs : List V) (pv : List V), Dh.Seps [Dh.ob p C (fs_Register (.int wide) (.ref t) (.int w) (.ref r) (.ref d)), Dh.pt t (.tup vs), Dh.dvs vs (fl.map fdt), Dh.pt r (.dK (Dh.keyD wl)), Dh.pt d (.lst pv), Dh.dvs pv (ps.map pdt)] H
theorem go_RegAt {C p : Addr} {wide : Int} {fl : List Fd} {w : Int} {wl : List Key} {ps : List (Str × Int)} {L : List Dh.HP} {G : Hp → Prop} (g : ∀ (t : Addr) (r : Addr) (d : Addr) (vs : List V) (pv : List V), Dh.Go T ((Dh.ob p C (fs_Register (.int wide) (.ref t) (.int w) (.ref r) (.ref d))) :: (Dh.pt t (.tup vs)) :: (Dh.dvs vs (fl.map fdt)) :: (Dh.pt r (.dK (Dh.keyD wl))) :: (Dh.pt d (.lst pv)) :: (Dh.dvs pv (ps.map pdt)) :: L) G) : Dh.Go T (RegAt C p wide fl w wl ps :: L) G := fun H9 t9 s9 => by
  obtain ⟨z1, z2, z3, z4, z5, z6, z7, ⟨t, r, d, vs, pv, z8⟩, z9⟩ := s9
  exact g t r d vs pv  H9 t9 (Dh.Seps.paste (L1 := [_, _, _, _, _, _]) ⟨z1, z2, z3, z4, z5, z6, z7, z8, z9⟩)
theorem ent_RegAt {C p : Addr} {wide : Int} {fl : List Fd} {w : Int} {wl : List Key} {ps : List (Str × Int)} {t : Addr} {r : Addr} {d : Addr} {vs : List V} {pv : List V} {L R : List Dh.HP}  (pe : Dh.Ent L ((Dh.ob p C (fs_Register (.int wide) (.ref t) (.int w) (.ref r) (.ref d))) :: (Dh.pt t (.tup vs)) :: (Dh.dvs vs (fl.map fdt)) :: (Dh.pt r (.dK (Dh.keyD wl))) :: (Dh.pt d (.lst pv)) :: (Dh.dvs pv (ps.map pdt)) :: R)) : Dh.Ent L (RegAt C p wide fl w wl ps :: R) :=
  Dh.ent_fold (A := [_, _, _, _, _, _]) pe fun H h => ⟨t, r, d, vs, pv, h⟩
theorem fold_RegAt {C p : Addr} {wide : Int} {fl : List Fd} {w : Int} {wl : List Key} {ps : List (Str × Int)} {t : Addr} {r : Addr} {d : Addr} {vs : List V} {pv : List V} {L R : List Dh.HP} {G : Hp → Prop}  (pe : Dh.Ent L ((Dh.ob p C (fs_Register (.int wide) (.ref t) (.int w) (.ref r) (.ref d))) :: (Dh.pt t (.tup vs)) :: (Dh.dvs vs (fl.map fdt)) :: (Dh.pt r (.dK (Dh.keyD wl))) :: (Dh.pt d (.lst pv)) :: (Dh.dvs pv (ps.map pdt)) :: R)) (g : Dh.Go T (RegAt C p wide fl w wl ps :: R) G) : Dh.Go T L G := g.ent (ent_RegAt  pe)
theorem hasM_RegAt {C p : Addr} {wide : Int} {fl : List Fd} {w : Int} {wl : List Key} {ps : List (Str × Int)} {L A : List Dh.HP} {m : Str} (pk : Dh.Pick L (RegAt C p wide fl w wl ps) A) (h : ∀ v0 v1 v2 v3 v4, (fs_Register v0 v1 v2 v3 v4).lookup m = none) : Dh.HasM L p C m :=
  Dh.hasM_of pk fun H ⟨t, r, d, vs, pv, ss⟩ => by
    obtain ⟨dx, e⟩ := Dh.Pick.obj Dh.pick_here ss
    exact ⟨dx, _, e, h _ _ _ _ _⟩
def sg_Register___init__ (T : List (Addr × Str)) (K : PySem.W.Frag) (C_Register C_BadWord C_BadPlace C_BadPlan C_NotDue C_Stuck C_BadBits C_BadText C_TooLarge g_told g_RULES : Addr) : Dh.SG :=
  fun zs L Q E => ∃ (p : Addr) (wide : Int) (a : Addr) (vs : List V) (fl : List Fd) (R : List Dh.HP), zs = [.ref p, .int wide, .ref a] ∧ Dh.Ent L ((Dh.ob p C_Register []) :: (Dh.pt a (.lst vs)) :: (Dh.dvs vs (fl.map fdt)) :: R) ∧ (wide ≤ 24) ∧ (fl.length ≤ 100) ∧ (regUse wide [] fl = none ∨ (names fl).length ≠ fl.length → Dh.Go T ((Dh.pt a (.lst vs)) :: (Dh.dvs vs (fl.map fdt)) :: R) fun H => E (.ref C_BadWord) none H) ∧ (regUse wide [] fl ≠ none → (names fl).length = fl.length → Dh.Go T ((RegAt C_Register p wide fl 0 [] []) :: R) fun H => Q .non H)
theorem use_Register___init__ {L A0 A1 A2 : List Dh.HP} {Q : VK} {E : XK} {p : Addr} {wide : Int} {a : Addr} {vs : List V} {fl : List Fd} (q0 : Dh.Pick L (Dh.ob p C_Register []) A0) (q1 : Dh.Pick A0 (Dh.pt a (.lst vs)) A1) (q2 : Dh.Pick A1 (Dh.dvs vs (fl.map fdt)) A2) (h0 : wide ≤ 24) (h1 : fl.length ≤ 100) (k0 : regUse wide [] fl = none ∨ (names fl).length ≠ fl.length → Dh.Go T ((Dh.pt a (.lst vs)) :: (Dh.dvs vs (fl.map fdt)) :: A2) fun H => E (.ref C_BadWord) none H) (k1 : regUse wide [] fl ≠ none → (names fl).length = fl.length → Dh.Go T ((RegAt C_Register p wide fl 0 [] []) :: A2) fun H => Q .non H) : Dh.Go T L fun H => Dh.sOfN T 3 (sg_Register___init__ T K C_Register C_BadWord C_BadPlace C_BadPlan C_NotDue C_Stuck C_BadBits C_BadText C_TooLarge g_told g_RULES) [.ref p, .int wide, .ref a] H Q E := Dh.g_sp rfl ⟨p, wide, a, vs, fl, A2, rfl, (Dh.ent_cons q0 (Dh.ent_cons q1 (Dh.ent_cons q2 Dh.ent_refl))), h0, h1, k0, k1⟩
local macro_rules | `(tactic| walk_at "use") => `(tactic| ((with_reducible refine' Toy.use_Register___init__ ?q0 ?q1 ?q2 ?h0 ?h1 (fun _ => ?k0) (fun _ _ => ?k1)); (case q0 => walk_at "pk"); (case q1 => walk_at "pk"); (case q2 => walk_at "pk"); (case h0 => walk_at "side"); (case h1 => walk_at "side")))
set_option maxHeartbeats 8000000 in
theorem ok_Register___init__ (Z : Txt K mg C_Register C_BadWord C_BadPlace C_BadPlan C_NotDue C_Stuck C_BadBits C_BadText C_TooLarge g_told g_RULES)  {f : Addr} {fd : FuncData} {cdv : Value} (F : Dh.FunC K "__init__" "Register.__init__" s_Register___init__ f fd cdv) :
    FnOk P w K mg base (L2.CX P w) 1 f fd ["self", "wide", "fields"] (Dh.sOfN T 3 (sg_Register___init__ T K C_Register C_BadWord C_BadPlace C_BadPlan C_NotDue C_Stuck C_BadBits C_BadText C_TooLarge g_told g_RULES)) := by
  refine Dh.fnX (k := 0) F sc_Register___init__ rfl (fun A outer s H0 L vs Q E hr hl h => ?_)
  refine ⟨_, (pss_cons (ps_set (i := 3) sc_Register___init__.nd rfl (by first | exact Or.inl rfl | exact Or.inr rfl) pe_dnewK)
    (pss_cons (ps_for (passes_of rfl) rfl (Dh.piSeq (K := K) rfl (pv 2)) (Dh.pgTup (K := K) rfl rfl (pgs_cons (pg_name (i := 4) sc_Register___init__.nd rfl (by first | exact Or.inl rfl | exact Or.inr rfl)) (pgs_cons (pg_name (i := 5) sc_Register___init__.nd rfl (by first | exact Or.inl rfl | exact Or.inr rfl)) (pgs_cons (pg_name (i := 6) sc_Register___init__.nd rfl (by first | exact Or.inl rfl | exact Or.inr rfl)) (pgs_cons (pg_name (i := 7) sc_Register___init__.nd rfl (by first | exact Or.inl rfl | exact Or.inr rfl)) pgs_nil)))) rfl rfl)
    (pss_cons (ps_if (PW.pt (pw_or (pt_cmpR (Dh.oNotIn (K := K) rfl) (pv 7) (pe_glob (v := .ref g_RULES) rfl Z.m_RULES rfl) rfl) (pw_or (pt_cmpR op_lt (pv 6) pe_int (nomark _)) (pw_or (pt_cmpR op_lt (pv 5) pe_int (nomark _)) (pw_or1 (pt_cmpR op_gt (pe_op (Dh.oAdd (K := K) rfl) (pv 5) (pv 6)) (pv 1) (nomark _)))))))
    (pss_one (Dh.ps_rs rfl (takes_of rfl rfl rfl rfl) Z.e_BadWord rfl))
    pss_nil)
    (pss_one (ps_for (passes_of rfl) rfl (pi_range2 rfl Z.b_range (pa_cons (pv 5) (pa_cons (pe_op (Dh.oAdd (K := K) rfl) (pv 5) (pv 6)) pa_nil))) (pg_name (i := 8) sc_Register___init__.nd rfl (by first | exact Or.inl rfl | exact Or.inr rfl))
    (pss_cons (ps_if (pt_cmp (pc_din (hu_of hr) (pv 8) (pv 3)) rfl)
    (pss_one (Dh.ps_rs rfl (takes_of rfl rfl rfl rfl) Z.e_BadWord rfl))
    pss_nil)
    (pss_one (ps_dput (hu_of hr) (pv 3) (pv 8) pe_bl rfl)))))))
    (pss_cons (ps_if (pt_cmpR (Dh.oNe (K := K) rfl hr.units) (pe_callB Dh.call_lenDX (by rfl) Z.b_len (by first | exact PySem.boot_len | exact PyProof.Rows.boot_len | decide +kernel) (pa_cons (pe_dc (own := [("one", 9)]) (g := (gName 9)) (tt := tYes) rfl sc_Register___init__.nd (Dh.piSeq (K := K) rfl (pv 2)) (blkOk_by (own := [("one", 9)]) (N := N_Register___init__) (by kernel_rfl)) (fun _ _ _ _ _ => (pg_name (i := 9) sc_Register___init__.nd rfl (by first | exact Or.inl rfl | exact Or.inr rfl))) (fun _ _ _ _ _ => pts_nil) (fun _ _ _ _ _ => (pe_ix (Dh.xSeq (K := K) rfl) (pv 9) pe_int (fun _ _ => rfl))) (fun _ _ _ _ _ => pe_bl)) pa_nil)) (pe_callB (Dh.cLen (K := K) rfl) (by rfl) Z.b_len (by first | exact PySem.boot_len | exact PyProof.Rows.boot_len | decide +kernel) (pa_cons (pv 2) pa_nil)) (nomark _))
    (pss_one (Dh.ps_rs rfl (takes_of rfl rfl rfl rfl) Z.e_BadWord rfl))
    pss_nil)
    (pss_cons (Dh.ps_fldC Z.c_Register Z.n_Register_wide (pv 0) (pv 1))
    (pss_cons (Dh.ps_fldC Z.c_Register Z.n_Register_fields (pv 0) (pe_callTy (Dh.cTup (K := K) rfl) (by rfl) Z.b_tuple (by first | exact PySem.boot_tuple | exact PyProof.Rows.boot_tuple | decide +kernel) (pa_cons (pv 2) pa_nil)))
    (pss_cons (Dh.ps_fldC Z.c_Register Z.n_Register_word (pv 0) pe_int)
    (pss_cons (Dh.ps_fldC Z.c_Register Z.n_Register_written (pv 0) pe_dnewK)
    (pss_one (Dh.ps_fldC Z.c_Register Z.n_Register_pulses (pv 0) (pe_lst pa_nil)))))))))), ?_⟩
  try dsimp only [L2.cxOf, L2.Cx.blk, LamX.lamCx, L2.Cx.tr]
  obtain ⟨p, wide, a, vs, fl, R, rfl, hE, h0, h1, k0, k1⟩ := h
  refine Dh.Go.ent hE ?_
  refine' Dh.go_dvsLen (vs := vs) (ds := fl.map fdt) ?pkl fun hlen => ?_
  (case pkl => walk_at "pk")
  rw [List.length_map] at hlen
  walk_at "vc"
  rename_i d
  rw [show ([] : List (Key × V)) = Dh.keyD [] from rfl]
  refine Dh.g_forL (xs := vs) (fun i σ L => ∃ (us : List Key) (v4 v5 v6 v7 v8 : Option V), σ = [some (.ref p), some (.int wide), some (.ref a), some (.ref d), v4, v5, v6, v7, v8, none] ∧ regUse wide [] (fl.take i) = some us ∧ us.length ≤ i * 24 ∧
    Dh.Ent L (Dh.pt d (.dK (Dh.keyD us)) :: Dh.ob p C_Register [] :: Dh.pt a (.lst vs) :: Dh.dvs vs (fl.map fdt) :: R)) ⟨[], none, none, none, none, none, rfl, rfl, Nat.zero_le _, Dh.ent_refl⟩ ?_ ?_ ?_
  · rintro i σ L ⟨us, v4, v5, v6, v7, v8, rfl, hu, hul, hE⟩
    exact hE.has (by walk_at "pk")
  · rintro i x σ L hx ⟨us, v4, v5, v6, v7, v8, rfl, hu, hul, hE⟩
    have hi := (List.getElem?_eq_some_iff.mp hx).1
    obtain ⟨f, hf⟩ : ∃ f, fl[i]? = some f := ⟨_, List.getElem?_eq_getElem (by omega)⟩
    have hat := regUse_at (wide := wide) hf hu
    refine Dh.Go.ent hE ?_
    refine' Dh.go_dvRow (vs := vs) (ds := fl.map fdt) (k := i) (es := [.str f.nm, .int f.lo, .int f.many, .str f.rule]) (xs := [.str f.nm, .int f.lo, .int f.many, .str f.rule]) ?pk1 (by rw [List.getElem?_map, hf]; rfl) rfl rfl fun t ht => ?_
    (case pk1 => walk_at "pk")
    obtain rfl : x = .ref t := by rw [hx] at ht; exact Option.some.inj ht
    have hq := Z.q_RULES
    have bad : ¬ fdOk wide f = true → regUse wide [] fl = none := fun h => by rw [hat, if_neg h]
    by_cases h1 : f.rule ∈ rules
    · by_cases h2 : f.many < 1
      · walk_at "vc"
        refine Dh.g_ifF (congrArg Bool.not (decide_eq_true h1)) ?_
        walk_at "vc"
        refine Dh.g_ifT (decide_eq_true h2) ?_
        walk_at "vc"
        refine' Dh.Go.ent ?en1 (k0 (.inl (bad (fd_no (.inr (.inl h2))))))
        (case en1 => walk_at "ent")
      · by_cases h3 : f.lo < 0
        · walk_at "vc"
          refine Dh.g_ifF (congrArg Bool.not (decide_eq_true h1)) ?_
          walk_at "vc"
          refine Dh.g_ifF (decide_eq_false h2) ?_
          walk_at "vc"
          refine Dh.g_ifT (decide_eq_true h3) ?_
          walk_at "vc"
          refine' Dh.Go.ent ?en2 (k0 (.inl (bad (fd_no (.inr (.inr (.inl h3)))))))
          (case en2 => walk_at "ent")
        · by_cases h4 : wide < f.lo + f.many
          · walk_at "vc"
            refine Dh.g_ifF (congrArg Bool.not (decide_eq_true h1)) ?_
            walk_at "vc"
            refine Dh.g_ifF (decide_eq_false h2) ?_
            walk_at "vc"
            refine Dh.g_ifF (decide_eq_false h3) ?_
            walk_at "vc"
            refine Dh.g_ifT (decide_eq_true h4) ?_
            walk_at "vc"
            refine' Dh.Go.ent ?en3 (k0 (.inl (bad (fd_no (.inr (.inr (.inr h4)))))))
            (case en3 => walk_at "ent")
          · have hok := fd_yes h1 h2 h3 h4
            rw [if_pos hok] at hat
            walk_at "vc"
            refine Dh.g_ifF (congrArg Bool.not (decide_eq_true h1)) ?_
            walk_at "vc"
            refine Dh.g_ifF (decide_eq_false h2) ?_
            walk_at "vc"
            refine Dh.g_ifF (decide_eq_false h3) ?_
            walk_at "vc"
            refine Dh.g_ifF (decide_eq_false h4) ?_
            walk_at "vc"
            rw [show f.lo + f.many - f.lo = f.many by omega]
            have hm : f.many.toNat ≤ 24 := by omega
            refine Dh.g_forR (n := f.many.toNat) (lo := f.lo) (fun j σ L => ∃ (u : List Key) (v8 : Option V), σ = [some (.ref p), some (.int wide), some (.ref a), some (.ref d), some (.str f.nm), some (.int f.lo), some (.int f.many), some (.str f.rule), v8, none] ∧ marks us f.lo j = some u ∧ u.length ≤ us.length + j ∧
              Dh.Ent L (Dh.pt d (.dK (Dh.keyD u)) :: Dh.ob p C_Register [] :: Dh.pt a (.lst vs) :: Dh.dvs vs (fl.map fdt) :: R)) ⟨us, v8, rfl, rfl, Nat.le_refl _, ?en4⟩ ?_ ?_
            (case en4 => walk_at "ent")
            · rintro j σ L hj ⟨u, v8, rfl, hmk, hul2, hE⟩
              refine Dh.Go.ent hE ?_
              walk_at "vc"
              rw [Dh.keyD_in]
              by_cases hk : Dh.hasK u (Sum.inl (f.lo + (j : Int))) = true
              · refine Dh.g_ifT hk ?_
                walk_at "vc"
                refine' Dh.Go.ent ?en5 (k0 (.inl (by rw [hat, marks_bad hj hmk hk]; rfl)))
                (case en5 => walk_at "ent")
              · refine Dh.g_ifF (by simpa using hk) ?_
                have hsz : (Dh.keyD u).length < sizeLine := by rw [Dh.keyD_len, PySem.sizeLine_eq]; omega
                walk_at "vc"
                rw [Dh.keyD_put]
                refine Dh.SI.in ⟨_, _, rfl, marks_next hmk hk, ?_, ?_⟩
                · have := Dh.addK_len (ks := u) (k := Sum.inl (f.lo + (j : Int)))
                  omega
                · walk_at "ent"
            · rintro σ L ⟨u, v8, rfl, hmk, hul2, hE⟩
              refine Dh.Go.ent hE ?_
              walk_at "vc"
              refine Dh.SI.in ⟨u, _, _, _, _, _, rfl, regUse_next hf hu hok hmk, by omega, ?_⟩
              walk_at "ent"
    · walk_at "vc"
      refine Dh.g_ifT (congrArg Bool.not (decide_eq_false h1)) ?_
      walk_at "vc"
      refine' Dh.Go.ent ?en6 (k0 (.inl (bad (fd_no (.inl h1)))))
      (case en6 => walk_at "ent")
  · rintro σ L ⟨us, v4, v5, v6, v7, v8, rfl, hu, hul, hE⟩
    rw [hlen, List.take_length] at hu
    refine Dh.Go.ent hE ?_
    walk_at "vc"
    refine Dh.g_dcW (L2.walk_list (xs := vs)) Dh.yAt_ok (fun i kvs L => kvs = Dh.keyD (names (fl.take i)) ∧ (names (fl.take i)).length ≤ i ∧ Dh.Ent L (Dh.pt d (.dK (Dh.keyD us)) :: Dh.ob p C_Register [] :: Dh.pt a (.lst vs) :: Dh.dvs vs (fl.map fdt) :: R)) ⟨rfl, Nat.le_refl _, Dh.ent_refl⟩ (fun i kvs L h H s => SqL.of (Dh.Pick.at (h.2.2.pick (by walk_at "pk")) s)) ?_ ?_
    · rintro D i x kvs L hi hx ⟨rfl, hnl, hE⟩
      obtain ⟨f, hf⟩ : ∃ f, fl[i]? = some f := ⟨_, List.getElem?_eq_getElem (by omega)⟩
      refine Dh.Go.ent (Dh.ent_tail hE) ?_
      refine' Dh.go_dvRow (vs := vs) (ds := fl.map fdt) (k := i) (es := [.str f.nm, .int f.lo, .int f.many, .str f.rule]) (xs := [.str f.nm, .int f.lo, .int f.many, .str f.rule]) ?pk2 (by rw [List.getElem?_map, hf]; rfl) rfl rfl fun t ht => ?_
      (case pk2 => walk_at "pk")
      obtain rfl : x = .ref t := by rw [hx] at ht; exact Option.some.inj ht
      have ha0 : atI [V.str f.nm, .int f.lo, .int f.many, .str f.rule] 0 = some (.str f.nm) := rfl
      walk_at "vc"
      have en : names (fl.take (i + 1)) = Dh.addK (names (fl.take i)) (Sum.inr f.nm) := by
        rw [List.take_add_one, hf]
        simp [names]
      refine Dh.g_dcPut (k := Sum.inr f.nm) (by walk_at "pk") (by rw [Dh.keyD_len, PySem.sizeLine_eq]; omega) rfl ⟨by rw [Dh.keyD_put, en], ?_, by walk_at "ent"⟩
      rw [en]
      have := Dh.addK_len (ks := names (fl.take i)) (k := Sum.inr f.nm)
      omega
    · rintro D kvs L ⟨rfl, hnl, hE⟩
      rw [hlen, List.take_length]
      refine Dh.Go.ent (Dh.ent_tail hE) ?_
      walk_at "vc"
      rw [Dh.keyD_len, hlen]
      by_cases hn : (names fl).length = fl.length
      · refine Dh.g_ifF (by rw [hn]; simp) ?_
        walk_at "vc"
        rw [show ([] : List (Key × V)) = Dh.keyD [] from rfl]
        refine Dh.Go.ent (Dh.ent_dvs (vs := []) (ds := ([] : List (Str × Int)).map pdt) (fun _ _ => .nil) Dh.ent_refl) ?_
        trace_state
        refine' fold_RegAt (wl := []) (ps := []) (vs := vs) (pv := []) (fl := fl) ?en7 (k1 (by rw [hu]; simp) hn)
        (case en7 => walk_at "ent")
      · refine Dh.g_ifT (by rw [Bool.not_eq_true', decide_eq_false_iff_not, V.int.injEq]; omega) ?_
        walk_at "vc"
        refine' Dh.Go.ent ?en8 (k0 (.inr hn))
        (case en8 => walk_at "ent")
end
end Toy
end

section
local macro_rules | `(tactic| walk_at "pk") => `(tactic| (with_reducible first | exact Dh.pick_here | (refine' Dh.pick_there ?p; (case p => walk_at "pk"))))
local macro_rules | `(tactic| walk_at "ent") => `(tactic| first | (with_reducible exact Dh.ent_refl) | (with_reducible exact Dh.ent_nil) | (refine' Dh.ent_cons ?q0 ?k; (case q0 => walk_at "pk"); (case k => walk_at "ent")) | (refine' Dh.ent_drop ?k; (case k => walk_at "ent")))
local macro_rules | `(tactic| walk_at "side") => `(tactic| first | (with_reducible assumption) | omega | decide | (exact Or.inl rfl) | (exact Or.inr rfl) | (exact Dh.log2_ok (by omega)) | (simp only [L2.CMul, L2.CDiv, L2.CDivN]; omega) | (unfold L2.CPow; decide) | (simp only [List.length_cons, List.length_nil, List.length_append, List.length_map, List.length_range, List.length_replicate, List.length_set, List.length_take, List.length_drop, PySem.sizeLine_eq] <;> omega))
local macro_rules | `(tactic| walk_at "dvp") => `(tactic| (with_reducible first | exact Dh.DV.int | exact Dh.DV.str | exact Dh.DV.bl | exact Dh.DV.non | exact Dh.DVs.nil | (refine' Dh.Pick.dvs ?a (by assumption); (case a => walk_at "pk")) | (refine' Dh.Pick.dv ?a (by assumption); (case a => walk_at "pk")) | (refine' Dh.DVs.cons ?a ?b; (case a => walk_at "dvp"); (case b => walk_at "dvp")) | (refine' Dh.DVs.app ?a ?b; (case a => walk_at "dvp"); (case b => walk_at "dvp")) | (refine' Dh.Pick.tup ?a (by assumption) ?b; (case a => walk_at "pk"); (case b => walk_at "dvp")) | (refine' Dh.DVs.take _ ?a; (case a => walk_at "dvp")) | (refine' Dh.DVs.drop _ ?a; (case a => walk_at "dvp")) | (refine' Dh.DVs.set _ ?a ?b; (case a => walk_at "dvp"); (case b => walk_at "dvp"))))
local macro_rules | `(tactic| walk_at "ixs") => `(tactic| first | assumption | omega | (simp only [List.length_set, List.length_map, List.length_cons, List.length_nil, List.length_append, List.length_replicate] <;> first | assumption | omega))
local macro_rules | `(tactic| walk_at "lk") => `(tactic| first | rfl | assumption | (exact Dh.ixN_lt (by walk_at "ixs")) | (exact Dh.atI_lt (by assumption)) | (exact Dh.atI_map (by assumption))  | with_reducible exact Toy.lk_Register_wide | with_reducible exact Toy.lk_Register_fields | with_reducible exact Toy.lk_Register_word | with_reducible exact Toy.lk_Register_written | with_reducible exact Toy.lk_Register_pulses | with_reducible exact Toy.no_Register_init | with_reducible exact Toy.no_Register_read | with_reducible exact Toy.no_Register_write | with_reducible exact Toy.no_Register_row_of | with_reducible exact Toy.no_Register_get | with_reducible exact Toy.no_Register_put)
local macro_rules | `(tactic| walk_at "kt") => `(tactic| assumption)
local macro_rules | `(tactic| walk_at "pf") => `(tactic| first  | with_reducible exact Toy.pf_Register_wide | with_reducible exact Toy.pf_Register_fields | with_reducible exact Toy.pf_Register_word | with_reducible exact Toy.pf_Register_written | with_reducible exact Toy.pf_Register_pulses | with_reducible exact Toy.gr_Register_wide | with_reducible exact Toy.gr_Register_fields | with_reducible exact Toy.gr_Register_word | with_reducible exact Toy.gr_Register_written | with_reducible exact Toy.gr_Register_pulses | rfl)
local macro_rules | `(tactic| walk_at "ln") => `(tactic| first  | with_reducible exact Toy.ln_Register | decide | (simp only [List.length_cons, List.length_nil] <;> omega))
local macro_rules | `(tactic| walk_at "hasm") => `(tactic| first | (refine' Toy.hasM_RegAt ?q0 ?q1; (case q0 => walk_at "pk"); (case q1 => (intros; walk_at "lk"))) | (refine' Dh.hasM_ob ?q0 ?q1; (case q0 => walk_at "pk"); (case q1 => walk_at "lk")))
local macro_rules | `(tactic| walk_at "vcp0") => `(tactic| first | ((with_reducible refine' Dh.g_seq ?k)) | ((with_reducible refine' Dh.g_next ?k)) | ((with_reducible refine' Dh.g_nonA ?k)) | ((with_reducible refine' Dh.g_var ?q0 ?k); (case q0 => rfl)) | ((with_reducible refine' Dh.g_c ?k)) | ((with_reducible refine' Dh.g_op ?k)) | ((with_reducible refine' Dh.g_asg ?k)) | ((with_reducible refine' Dh.g_name ?k)) | ((with_reducible refine' Dh.g_ifS ?k)) | ((with_reducible refine' Dh.g_test ?k)) | ((with_reducible refine' Dh.g_isB ?k)) | ((with_reducible refine' Dh.g_B ?k)) | ((with_reducible refine' Dh.g_ret ?k)) | ((with_reducible refine' Dh.g_retN ?k)) | ((with_reducible refine' Dh.g_drop ?k)) | ((with_reducible refine' Dh.g_brk ?k)) | ((with_reducible refine' Dh.g_cont ?k)) | ((with_reducible refine' Dh.g_un ?k)) | ((with_reducible refine' Dh.g_I0 ?k)) | ((with_reducible refine' Dh.g_addI ?k)) | ((with_reducible refine' Dh.g_addB ?k)) | ((with_reducible refine' Dh.g_addS ?q0 ?k); (case q0 => walk_at "side")) | ((with_reducible refine' Dh.g_addM ?q0 ?q1 ?q2 ?k); (case q0 => walk_at "pk"); (case q1 => walk_at "pk"); (case q2 => walk_at "side"); intro _) | ((with_reducible refine' Dh.g_addL ?q0 ?q1 ?q2 ?k); (case q0 => walk_at "pk"); (case q1 => walk_at "pk"); (case q2 => walk_at "side"); intro _))
local macro_rules | `(tactic| walk_at "vcp1") => `(tactic| first | ((with_reducible refine' Dh.g_I ?q0 ?k); (case q0 => walk_at "side")) | ((with_reducible refine' Dh.g_mulI ?q0 ?k); (case q0 => walk_at "side")) | ((with_reducible refine' Dh.g_U ?k)) | ((with_reducible refine' Dh.g_eqS ?q0 ?k); (case q0 => rfl)) | ((with_reducible refine' Dh.g_neS ?q0 ?k); (case q0 => rfl)) | ((with_reducible refine' Dh.g_eqLL ?q0 ?q1 ?k); (case q0 => walk_at "pk"); (case q1 => walk_at "pk")) | ((with_reducible refine' Dh.g_neLL ?q0 ?q1 ?k); (case q0 => walk_at "pk"); (case q1 => walk_at "pk")) | ((with_reducible refine' Dh.g_eqL0 ?q0 ?q1 ?k); (case q0 => walk_at "pk"); (case q1 => walk_at "pk")) | ((with_reducible refine' Dh.g_neL0 ?q0 ?q1 ?k); (case q0 => walk_at "pk"); (case q1 => walk_at "pk")) | ((with_reducible refine' Dh.g_neT0 ?q0 ?q1 ?q2 ?k); (case q0 => walk_at "pk"); (case q1 => walk_at "pk"); (case q2 => walk_at "pk")) | ((with_reducible refine' Dh.g_neP ?q0 ?q1 ?k); (case q0 => walk_at "pk"); (case q1 => walk_at "pk")) | ((with_reducible refine' Dh.g_inI ?q0 ?k); (case q0 => walk_at "pk")) | ((with_reducible refine' Dh.g_isN ?k)) | ((with_reducible refine' Dh.g_notN ?k)) | ((with_reducible refine' Dh.g_ixL ?q0 ?q1 ?k); (case q0 => walk_at "pk"); (case q1 => walk_at "lk")) | ((with_reducible refine' Dh.g_ixT ?q0 ?q1 ?k); (case q0 => walk_at "pk"); (case q1 => walk_at "lk")) | ((with_reducible refine' Dh.g_sl ?k)) | ((with_reducible refine' Dh.g_noPart ?k)) | ((with_reducible refine' Dh.g_part ?k)) | ((with_reducible refine' Dh.g_isSomeInt ?k)) | ((with_reducible refine' Dh.g_slTk ?q0 ?k); (case q0 => walk_at "pk"); intro _) | ((with_reducible refine' Dh.g_slDr ?q0 ?k); (case q0 => walk_at "pk"); intro _) | ((with_reducible refine' Dh.g_slL ?q0 ?k); (case q0 => walk_at "pk"); intro _) | ((with_reducible refine' Dh.g_slQTk ?q0 ?k); (case q0 => walk_at "pk"); intro _))
local macro_rules | `(tactic| walk_at "vcp2") => `(tactic| first | ((with_reducible refine' Dh.g_slQ ?q0 ?k); (case q0 => walk_at "pk"); intro _) | ((with_reducible refine' Dh.g_fldE ?k)) | ((with_reducible refine' Dh.g_fld ?q0 ?q1 ?k); (case q0 => walk_at "pk"); (case q1 => walk_at "lk")) | ((with_reducible refine' Dh.g_tup ?k)) | ((with_reducible refine' Dh.g_lst ?k)) | ((with_reducible refine' Dh.g_newT ?q0 ?k); (case q0 => walk_at "side"); intro _) | ((with_reducible refine' Dh.g_newL ?q0 ?k); (case q0 => walk_at "side"); intro _) | ((with_reducible refine' Dh.g_nil ?k)) | ((with_reducible refine' Dh.g_cons ?k)) | ((with_reducible refine' Dh.g_call ?k)) | ((with_reducible refine' Dh.g_methE ?k)) | ((with_reducible refine' Dh.g_meth ?q0 ?k); (case q0 => walk_at "hasm")) | ((with_reducible refine' Dh.g_make ?k)) | ((with_reducible refine' Dh.g_made ?k); intro _) | ((with_reducible refine' Dh.g_cb ?k)) | ((with_reducible refine' Dh.g_int ?k)) | ((with_reducible refine' Dh.g_intB ?k)) | ((with_reducible refine' Dh.g_abs ?k)) | ((with_reducible refine' Dh.g_max2 ?k)) | ((with_reducible refine' Dh.g_min2 ?k)) | ((with_reducible refine' Dh.g_strI ?q0 ?k); (case q0 => walk_at "side")) | ((with_reducible refine' Dh.g_lenL ?q0 ?k); (case q0 => walk_at "pk")) | ((with_reducible refine' Dh.g_lenT ?q0 ?k); (case q0 => walk_at "pk")) | ((with_reducible refine' Dh.g_lenD ?q0 ?k); (case q0 => walk_at "pk")))
local macro_rules | `(tactic| walk_at "vcp3") => `(tactic| first | ((with_reducible refine' Dh.g_listL ?q0 ?k); (case q0 => walk_at "pk"); intro _) | ((with_reducible refine' Dh.g_listT ?q0 ?k); (case q0 => walk_at "pk"); intro _) | ((with_reducible refine' Dh.g_tupL ?q0 ?k); (case q0 => walk_at "pk"); intro _) | ((with_reducible refine' Dh.g_tupT ?q0 ?k); (case q0 => walk_at "pk")) | ((with_reducible refine' Dh.g_pop0 ?q0 ?k); (case q0 => walk_at "pk")) | ((with_reducible refine' Dh.g_bm ?k)) | ((with_reducible refine' Dh.g_bm0 ?k)) | ((with_reducible refine' Dh.g_tyL ?q0 ?k); (case q0 => walk_at "pk")) | ((with_reducible refine' Dh.g_append ?q0 ?q1 ?k); (case q0 => walk_at "pk"); (case q1 => walk_at "side")) | ((with_reducible refine' Dh.g_rep ?q0 ?q1 ?q2 ?q3 ?k); (case q0 => walk_at "pk"); (case q1 => walk_at "side"); (case q2 => walk_at "side"); (case q3 => walk_at "side"); intro _) | ((with_reducible refine' Dh.g_not ?k)) | ((with_reducible refine' Dh.g_tand ?k)) | ((with_reducible refine' Dh.g_tor ?k)) | ((with_reducible refine' Dh.g_andV ?k)) | ((with_reducible refine' Dh.g_orV ?k)) | ((with_reducible refine' Dh.g_notV ?k)) | ((with_reducible refine' Dh.g_ifE ?k)) | ((with_reducible refine' Dh.g_chain ?k)) | ((with_reducible refine' Dh.g_tru ?k)) | ((with_reducible refine' Dh.g_truB ?k)) | ((with_reducible refine' Dh.g_truI ?k)) | ((with_reducible refine' Dh.g_truN ?k)) | ((with_reducible refine' Dh.g_truL ?q0 ?k); (case q0 => walk_at "pk")) | ((with_reducible refine' Dh.g_gsub ?k)))
local macro_rules | `(tactic| walk_at "vcp4") => `(tactic| first | ((with_reducible refine' Dh.g_setM ?q0 ?q1 ?k); (case q0 => walk_at "pk"); (case q1 => walk_at "lk")) | ((with_reducible refine' Dh.g_setL ?q0 ?q1 ?k); (case q0 => walk_at "pk"); (case q1 => walk_at "lk")) | ((with_reducible refine' Dh.g_gtup ?q0 ?q1 ?k); (case q0 => walk_at "pk"); (case q1 => rfl)) | ((with_reducible refine' Dh.g_gnil ?k)) | ((with_reducible refine' Dh.g_gcons ?k)) | ((with_reducible refine' Dh.g_par ?k)) | ((with_reducible refine' Dh.g_par2 ?k)) | ((with_reducible refine' Dh.g_par3 ?k)) | ((with_reducible refine' Dh.g_par3b ?k)) | ((with_reducible refine' Dh.g_listRg ?k)) | ((with_reducible refine' Dh.g_rg1E ?k)) | ((with_reducible refine' Dh.g_rg1 ?k)) | ((with_reducible refine' Dh.g_rgN ?q0 ?k); (case q0 => walk_at "side"); intro _) | ((with_reducible refine' Dh.g_rgL ?q0 ?k); (case q0 => walk_at "side"); intro _) | ((with_reducible refine' Dh.g_dinE ?k)) | ((with_reducible refine' Dh.g_dinI ?q0 ?k); (case q0 => walk_at "pk")) | ((with_reducible refine' Dh.g_dnotinE ?k)) | ((with_reducible refine' Dh.g_dnotinI ?q0 ?k); (case q0 => walk_at "pk")) | ((with_reducible refine' Dh.g_dgetE ?k)) | ((with_reducible refine' Dh.g_dgetI ?q0 ?q1 ?k); (case q0 => walk_at "pk"); (case q1 => walk_at "lk")) | ((with_reducible refine' Dh.g_dputE ?k)) | ((with_reducible refine' Dh.g_dputI ?q0 ?q1 ?k); (case q0 => walk_at "pk"); (case q1 => walk_at "side")) | ((with_reducible refine' Dh.g_dpopE ?k)) | ((with_reducible refine' Dh.g_dpopA ?q0 ?k); (case q0 => walk_at "pk")))
local macro_rules | `(tactic| walk_at "vcp5") => `(tactic| first | ((with_reducible refine' Dh.g_dpopB ?q0 ?q1 ?k); (case q0 => walk_at "pk"); (case q1 => walk_at "lk")) | ((with_reducible refine' Dh.g_dnew ?k); intro _) | ((with_reducible refine' Dh.g_ipMul ?q0 ?k); (case q0 => walk_at "side")) | ((with_reducible refine' Dh.g_sfldE ?k)) | ((with_reducible refine' Dh.g_sfld ?q0 ?q1 ?q2 ?k); (case q0 => walk_at "pk"); (case q1 => walk_at "pf"); (case q2 => walk_at "ln")) | ((with_reducible refine' Dh.g_augE ?k)) | ((with_reducible refine' Dh.g_augF ?q0 ?q1 ?k); (case q0 => walk_at "pk"); (case q1 => walk_at "lk")) | ((with_reducible refine' Dh.g_augV ?q0 ?k); (case q0 => rfl)) | ((with_reducible refine' Dh.g_ipI ?k)) | ((with_reducible refine' Dh.g_rAdd ?k)) | ((with_reducible refine' Dh.g_rSub ?k)) | ((with_reducible refine' Dh.g_for ?k)) | ((with_reducible refine' Dh.g_iRng1 ?k)) | ((with_reducible refine' Dh.g_iRng2 ?k)) | ((with_reducible refine' Dh.g_rng1 ?q0 ?q1 ?k); (case q0 => walk_at "side"); (case q1 => walk_at "side")) | ((with_reducible refine' Dh.g_rng2 ?q0 ?k); (case q0 => walk_at "side")) | ((with_reducible refine' Dh.g_iSeqE ?k)) | ((with_reducible refine' Dh.g_iSeqL ?q0 ?k); (case q0 => walk_at "pk")) | ((with_reducible refine' Dh.g_iSeqT ?q0 ?k); (case q0 => walk_at "pk")) | ((with_reducible refine' Dh.g_inK ?q0 ?k); (case q0 => walk_at "kt")) | ((with_reducible refine' Dh.g_notInK ?q0 ?k); (case q0 => walk_at "kt")) | ((with_reducible refine' Dh.g_isiII ?k)) | ((with_reducible refine' Dh.g_isiIB ?k)) | ((with_reducible refine' Dh.g_dinS ?q0 ?k); (case q0 => walk_at "pk")))
local macro_rules | `(tactic| walk_at "vcp6") => `(tactic| first | ((with_reducible refine' Dh.g_dnotinS ?q0 ?k); (case q0 => walk_at "pk")) | ((with_reducible refine' Dh.g_dgetS ?q0 ?q1 ?k); (case q0 => walk_at "pk"); (case q1 => walk_at "lk")) | ((with_reducible refine' Dh.g_dputS ?q0 ?q1 ?k); (case q0 => walk_at "pk"); (case q1 => walk_at "side")) | ((with_reducible refine' Dh.g_dpopS ?q0 ?q1 ?k); (case q0 => walk_at "pk"); (case q1 => walk_at "lk")) | ((with_reducible refine' Dh.g_iRevE ?k)) | ((with_reducible refine' Dh.g_iRevL ?q0 ?k); (case q0 => walk_at "pk")) | ((with_reducible refine' Dh.g_iRevT ?q0 ?k); (case q0 => walk_at "pk")) | ((with_reducible refine' Dh.g_iZipE ?k)) | ((with_reducible refine' Dh.g_iZipL ?q0 ?q1 ?k); (case q0 => walk_at "pk"); (case q1 => walk_at "pk")) | ((with_reducible refine' Dh.g_iZipT ?q0 ?q1 ?k); (case q0 => walk_at "pk"); (case q1 => walk_at "pk")) | ((with_reducible refine' Dh.g_iEnumE ?k)) | ((with_reducible refine' Dh.g_iEnum ?q0 ?k); (case q0 => walk_at "pk")) | ((with_reducible refine' Dh.g_dcE ?k)) | ((with_reducible refine' Dh.g_dturn ?k)) | ((with_reducible refine' Dh.g_sum ?q0 ?k); (case q0 => walk_at "pk")) | ((with_reducible refine' Dh.g_pop ?q0 ?q1 ?k); (case q0 => walk_at "pk"); (case q1 => walk_at "lk")) | ((with_reducible refine' Dh.g_wbody ?k)) | ((with_reducible refine' Dh.g_lcE ?k)) | ((with_reducible refine' Dh.g_turn ?k)) | ((with_reducible refine' Dh.g_tYes ?k)) | ((with_reducible refine' Dh.g_rs ?k)) | ((with_reducible refine' Dh.g_rsW ?k)) | ((with_reducible refine' Dh.g_told ?k)) | ((with_reducible refine' Dh.g_ifT ?q0 ?k); (case q0 => rfl)))
local macro_rules | `(tactic| walk_at "vcp7") => `(tactic| first | ((with_reducible refine' Dh.g_ifF ?q0 ?k); (case q0 => rfl)) | ((with_reducible refine' Dh.g_and ?q0 ?k); (case q0 => rfl)) | ((with_reducible refine' Dh.g_turn ?k)))
local macro_rules | `(tactic| walk_at "vc1") => `(tactic| first | walk_at "vcp0" | walk_at "vcp1" | walk_at "vcp2" | walk_at "vcp3" | walk_at "vcp4" | walk_at "vcp5" | walk_at "vcp6" | walk_at "vcp7" | walk_at "use1" | walk_at "told1")
local macro_rules | `(tactic| walk_at "vc") => `(tactic| repeat walk_at "vc1")
local macro_rules | `(tactic| walk_at "spl") => `(tactic| first | ((with_reducible refine Dh.g_ifD ?_ ?_) <;> intro _) | ((with_reducible refine Dh.g_ifN ?_ ?_) <;> intro _) | ((with_reducible refine Dh.g_if ?_ ?_) <;> intro _))
local macro_rules | `(tactic| walk_at "vcs") => `(tactic| repeat' (first | walk_at "vc1" | walk_at "spl"))
local macro_rules | `(tactic| walk_at "told1") => `(tactic| first | ((with_reducible refine' Dh.g_toldY (Toy.Txt.x_BadWord_BadWord ?z) ?k); (case z => assumption)))
local macro_rules | `(tactic| walk_at "use1") => `(tactic| ((with_reducible refine' Toy.use_law_dice (fun _ _ _ _ => ?k0))))
local macro_rules | `(tactic| walk_at "use1") => `(tactic| ((with_reducible refine' Toy.use_law_roll ?q0 ?h0 ?h1 (fun _ _ => ?k0)); (case q0 => walk_at "pk"); (case h0 => walk_at "side"); (case h1 => walk_at "side")))
local macro_rules | `(tactic| walk_at "use1") => `(tactic| ((with_reducible refine' Toy.use_power ?h0 ?h1 ?k0); (case h0 => walk_at "side"); (case h1 => walk_at "side")))
local macro_rules | `(tactic| walk_at "use") => `(tactic| ((with_reducible refine' Toy.use_check_word ?h0 ?h1 (fun _ => ?k0) (fun _ _ => ?k1)); (case h0 => walk_at "side"); (case h1 => walk_at "side")))
local macro_rules | `(tactic| walk_at "use1") => `(tactic| ((with_reducible refine' Toy.use_field ?h0 ?h1 ?h2 ?h3 ?k0); (case h0 => walk_at "side"); (case h1 => walk_at "side"); (case h2 => walk_at "side"); (case h3 => walk_at "side")))
local macro_rules | `(tactic| walk_at "use") => `(tactic| ((with_reducible refine' Toy.use_with_field ?h0 ?h1 ?h2 ?h3 (fun _ => ?k0) (fun _ _ => ?k1)); (case h0 => walk_at "side"); (case h1 => walk_at "side"); (case h2 => walk_at "side"); (case h3 => walk_at "side")))
local macro_rules | `(tactic| walk_at "use1") => `(tactic| ((with_reducible refine' Toy.use_bits ?h0 ?h1 (fun _ => ?k0)); (case h0 => walk_at "side"); (case h1 => walk_at "side")))
local macro_rules | `(tactic| walk_at "use1") => `(tactic| ((with_reducible refine' Toy.use_of_bits ?q0 ?h0 ?k0); (case q0 => walk_at "pk"); (case h0 => walk_at "side")))
local macro_rules | `(tactic| walk_at "use1") => `(tactic| ((with_reducible refine' Toy.use_both ?h0 ?h1 ?k0); (case h0 => walk_at "side"); (case h1 => walk_at "side")))
local macro_rules | `(tactic| walk_at "use1") => `(tactic| ((with_reducible refine' Toy.use_either ?h0 ?h1 ?k0); (case h0 => walk_at "side"); (case h1 => walk_at "side")))
local macro_rules | `(tactic| walk_at "use1") => `(tactic| ((with_reducible refine' Toy.use_without ?h0 ?h1 ?k0); (case h0 => walk_at "side"); (case h1 => walk_at "side")))
local macro_rules | `(tactic| walk_at "use1") => `(tactic| ((with_reducible refine' Toy.use_turned_octets ?h0 ?h1 ?k0); (case h0 => walk_at "side"); (case h1 => walk_at "side")))
local macro_rules | `(tactic| walk_at "use") => `(tactic| ((with_reducible refine' Toy.use_Register___init__ ?q0 ?q1 ?q2 ?h0 ?h1 (fun _ => ?k0) (fun _ _ => ?k1)); (case q0 => walk_at "pk"); (case q1 => walk_at "pk"); (case q2 => walk_at "pk"); (case h0 => walk_at "side"); (case h1 => walk_at "side")))
namespace Toy
open PySem L2
section
variable {P : Program} {w : World} {K : PySem.W.Frag} {mg : Str → Option Value} {base : Heap} {T : List (Addr × Str)} {C_Register C_BadWord C_BadPlace C_BadPlan C_NotDue C_Stuck C_BadBits C_BadText C_TooLarge g_told g_RULES : Addr}
def sg_Register_read (T : List (Addr × Str)) (K : PySem.W.Frag) (C_Register C_BadWord C_BadPlace C_BadPlan C_NotDue C_Stuck C_BadBits C_BadText C_TooLarge g_told g_RULES : Addr) : Dh.SG :=
  fun zs L Q E => ∃ (p : Addr) (wide : Int) (fl : List Fd) (w : Int) (wl : List Key) (ps : List (Str × Int)) (R : List Dh.HP), zs = [.ref p] ∧ Dh.Ent L ((RegAt C_Register p wide fl w wl ps) :: R) ∧ (Dh.Go T ((RegAt C_Register p wide fl w wl ps) :: R) fun H => Q (.int w) H)
theorem use_Register_read {L A0 : List Dh.HP} {Q : VK} {E : XK} {p : Addr} {wide : Int} {fl : List Fd} {w : Int} {wl : List Key} {ps : List (Str × Int)} (q0 : Dh.Pick L (RegAt C_Register p wide fl w wl ps) A0)  (k0 : Dh.Go T ((RegAt C_Register p wide fl w wl ps) :: A0) fun H => Q (.int w) H) : Dh.Go T L fun H => Dh.sOfN T 1 (sg_Register_read T K C_Register C_BadWord C_BadPlace C_BadPlan C_NotDue C_Stuck C_BadBits C_BadText C_TooLarge g_told g_RULES) [.ref p] H Q E := Dh.g_sp rfl ⟨p, wide, fl, w, wl, ps, A0, rfl, (Dh.ent_cons q0 Dh.ent_refl), k0⟩
local macro_rules | `(tactic| walk_at "use1") => `(tactic| ((with_reducible refine' Toy.use_Register_read ?q0 ?k0); (case q0 => walk_at "pk")))
set_option maxHeartbeats 8000000 in
theorem ok_Register_read (Z : Txt K mg C_Register C_BadWord C_BadPlace C_BadPlan C_NotDue C_Stuck C_BadBits C_BadText C_TooLarge g_told g_RULES)  {f : Addr} {fd : FuncData} {cdv : Value} (F : Dh.FunC K "read" "Register.read" s_Register_read f fd cdv) :
    FnOk P w K mg base (L2.CX P w) 1 f fd ["self"] (Dh.sOfN T 1 (sg_Register_read T K C_Register C_BadWord C_BadPlace C_BadPlan C_NotDue C_Stuck C_BadBits C_BadText C_TooLarge g_told g_RULES)) := by
  refine Dh.fnX (k := 0) F sc_Register_read rfl (fun A outer s H0 L vs Q E hr hl h => ?_)
  refine ⟨_, (pss_one (ps_ret (Dh.pe_fldC Z.c_Register Z.n_Register_word (pv 0)))), ?_⟩
  try dsimp only [L2.cxOf, L2.Cx.blk, LamX.lamCx, L2.Cx.tr]
  obtain ⟨p, wide, fl, w, wl, ps, R, rfl, hE, k0⟩ := h
  refine Dh.Go.ent hE ?_
  refine (go_RegAt fun t r d vs pv => ?_)
  walk_at "vc"
  exact fold_RegAt (by walk_at "ent") k0
theorem n_op : ¬ ("once" : Str) = "plain" := by decide +kernel
theorem n_cp : ¬ ("clear" : Str) = "plain" := by decide +kernel
theorem n_co : ¬ ("clear" : Str) = "once" := by decide +kernel
theorem n_oc : ¬ ("once" : Str) = "clear" := by decide +kernel
theorem n_ou : ¬ ("once" : Str) = "pulse" := by decide +kernel
theorem n_up : ¬ ("pulse" : Str) = "plain" := by decide +kernel
theorem n_uo : ¬ ("pulse" : Str) = "once" := by decide +kernel
theorem n_uc : ¬ ("pulse" : Str) = "clear" := by decide +kernel
section
variable {x : Int} {st : RSt} {f : Fd}
theorem wstep_p (h : f.rule = "plain") : wstep x st f = (wf st.1 f.lo f.many (fld x f.lo f.many), Dh.addK st.2.1 (Sum.inr f.nm), st.2.2) := if_pos (.inl h)
theorem wstep_o (h : f.rule = "once") (hk : ¬ Dh.hasK st.2.1 (Sum.inr f.nm) = true) : wstep x st f = (wf st.1 f.lo f.many (fld x f.lo f.many), Dh.addK st.2.1 (Sum.inr f.nm), st.2.2) := if_pos (.inr ⟨h, hk⟩)
theorem wstep_not (h1 : ¬ f.rule = "plain") (h2 : ¬ (f.rule = "once" ∧ ¬ Dh.hasK st.2.1 (Sum.inr f.nm) = true)) : wstep x st f = if f.rule = "clear" then (wf st.1 f.lo f.many (wo (fld st.1 f.lo f.many) (fld x f.lo f.many) f.many), st.2.1, st.2.2)
  else if f.rule = "pulse" ∧ fld x f.lo f.many > 0 then (st.1, st.2.1, st.2.2 ++ [(f.nm, fld x f.lo f.many)]) else st := if_neg (fun z => z.elim h1 h2)
end
theorem dstr {a b : Str} (h : a = b) : decide (V.str a = V.str b) = true := by rw [h]; exact decide_eq_true rfl
theorem dstr_no {a b : Str} (h : ¬ a = b) : decide (V.str a = V.str b) = false := decide_eq_false fun z => h (V.str.inj z)
def sg_Register_write (T : List (Addr × Str)) (K : PySem.W.Frag) (C_Register C_BadWord C_BadPlace C_BadPlan C_NotDue C_Stuck C_BadBits C_BadText C_TooLarge g_told g_RULES : Addr) : Dh.SG :=
  fun zs L Q E => ∃ (p : Addr) (x : Int) (wide : Int) (fl : List Fd) (w : Int) (wl : List Key) (ps : List (Str × Int)) (R : List Dh.HP), zs = [.ref p, .int x] ∧ Dh.Ent L ((RegAt C_Register p wide fl w wl ps) :: R) ∧ (0 ≤ wide) ∧ (wide ≤ 24) ∧ (fl.length ≤ 100) ∧ (wl.length ≤ 1000) ∧ (ps.length ≤ 1000) ∧ (∀ f ∈ fl, 0 ≤ f.lo ∧ f.lo ≤ 24 ∧ 0 ≤ f.many ∧ f.many ≤ 24) ∧ (¬ (0 ≤ x ∧ x < pw wide) → Dh.Go T ((RegAt C_Register p wide fl w wl ps) :: R) fun H => E (.ref C_BadWord) none H) ∧ (0 ≤ x → x < pw wide → Dh.Go T ((RegAt C_Register p wide fl (fl.foldl (wstep x) (w, wl, ps)).1 (fl.foldl (wstep x) (w, wl, ps)).2.1 (fl.foldl (wstep x) (w, wl, ps)).2.2) :: R) fun H => Q .non H)
theorem use_Register_write {L A0 : List Dh.HP} {Q : VK} {E : XK} {p : Addr} {x : Int} {wide : Int} {fl : List Fd} {w : Int} {wl : List Key} {ps : List (Str × Int)} (q0 : Dh.Pick L (RegAt C_Register p wide fl w wl ps) A0) (h0 : 0 ≤ wide) (h1 : wide ≤ 24) (h2 : fl.length ≤ 100) (h3 : wl.length ≤ 1000) (h4 : ps.length ≤ 1000) (h5 : ∀ f ∈ fl, 0 ≤ f.lo ∧ f.lo ≤ 24 ∧ 0 ≤ f.many ∧ f.many ≤ 24) (k0 : ¬ (0 ≤ x ∧ x < pw wide) → Dh.Go T ((RegAt C_Register p wide fl w wl ps) :: A0) fun H => E (.ref C_BadWord) none H) (k1 : 0 ≤ x → x < pw wide → Dh.Go T ((RegAt C_Register p wide fl (fl.foldl (wstep x) (w, wl, ps)).1 (fl.foldl (wstep x) (w, wl, ps)).2.1 (fl.foldl (wstep x) (w, wl, ps)).2.2) :: A0) fun H => Q .non H) : Dh.Go T L fun H => Dh.sOfN T 2 (sg_Register_write T K C_Register C_BadWord C_BadPlace C_BadPlan C_NotDue C_Stuck C_BadBits C_BadText C_TooLarge g_told g_RULES) [.ref p, .int x] H Q E := Dh.g_sp rfl ⟨p, x, wide, fl, w, wl, ps, A0, rfl, (Dh.ent_cons q0 Dh.ent_refl), h0, h1, h2, h3, h4, h5, k0, k1⟩
local macro_rules | `(tactic| walk_at "use") => `(tactic| ((with_reducible refine' Toy.use_Register_write ?q0 ?h0 ?h1 ?h2 ?h3 ?h4 ?h5 (fun _ => ?k0) (fun _ _ => ?k1)); (case q0 => walk_at "pk"); (case h0 => walk_at "side"); (case h1 => walk_at "side"); (case h2 => walk_at "side"); (case h3 => walk_at "side"); (case h4 => walk_at "side"); (case h5 => walk_at "side")))
set_option maxHeartbeats 8000000 in
theorem ok_Register_write (Z : Txt K mg C_Register C_BadWord C_BadPlace C_BadPlan C_NotDue C_Stuck C_BadBits C_BadText C_TooLarge g_told g_RULES) (c_check_word : Dh.CalX P w K mg base 2 "check_word" (Dh.sOfN T 2 (sg_check_word T K C_Register C_BadWord C_BadPlace C_BadPlan C_NotDue C_Stuck C_BadBits C_BadText C_TooLarge g_told g_RULES))) (c_field : Dh.CalX P w K mg base 2 "field" (Dh.sOfN T 3 (sg_field T K C_Register C_BadWord C_BadPlace C_BadPlan C_NotDue C_Stuck C_BadBits C_BadText C_TooLarge g_told g_RULES))) (c_with_field : Dh.CalX P w K mg base 3 "with_field" (Dh.sOfN T 4 (sg_with_field T K C_Register C_BadWord C_BadPlace C_BadPlan C_NotDue C_Stuck C_BadBits C_BadText C_TooLarge g_told g_RULES))) (c_without : Dh.CalX P w K mg base 4 "without" (Dh.sOfN T 3 (sg_without T K C_Register C_BadWord C_BadPlace C_BadPlan C_NotDue C_Stuck C_BadBits C_BadText C_TooLarge g_told g_RULES))) {f : Addr} {fd : FuncData} {cdv : Value} (F : Dh.FunC K "write" "Register.write" s_Register_write f fd cdv) :
    FnOk P w K mg base (L2.CX P w) 5 f fd ["self", "word"] (Dh.sOfN T 2 (sg_Register_write T K C_Register C_BadWord C_BadPlace C_BadPlan C_NotDue C_Stuck C_BadBits C_BadText C_TooLarge g_told g_RULES)) := by
  refine Dh.fnX (k := 4) F sc_Register_write rfl (fun A outer s H0 L vs Q E hr hl h => ?_)
  refine ⟨_, (pss_cons (ps_expr (Dh.pe_cal c_check_word hr (by decide) (passes_call (takes_of rfl rfl rfl rfl) (fun _ _ _ _ h => h)) rfl (pa_cons (pv 1) (pa_cons (Dh.pe_fldC Z.c_Register Z.n_Register_wide (pv 0)) pa_nil))))
    (pss_one (ps_for (passes_of rfl) rfl (Dh.piSeq (K := K) rfl (Dh.pe_fldC Z.c_Register Z.n_Register_fields (pv 0))) (Dh.pgTup (K := K) rfl rfl (pgs_cons (pg_name (i := 2) sc_Register_write.nd rfl (by first | exact Or.inl rfl | exact Or.inr rfl)) (pgs_cons (pg_name (i := 3) sc_Register_write.nd rfl (by first | exact Or.inl rfl | exact Or.inr rfl)) (pgs_cons (pg_name (i := 4) sc_Register_write.nd rfl (by first | exact Or.inl rfl | exact Or.inr rfl)) (pgs_cons (pg_name (i := 5) sc_Register_write.nd rfl (by first | exact Or.inl rfl | exact Or.inr rfl)) pgs_nil)))) rfl rfl)
    (pss_cons (ps_par (i := 6) (j := 7) (by rfl) sc_Register_write.nd rfl rfl (by decide) rfl rfl (pa_cons (Dh.pe_cal c_field hr (by decide) (passes_call (takes_of rfl rfl rfl rfl) (fun _ _ _ _ h => h)) rfl (pa_cons (pv 1) (pa_cons (pv 3) (pa_cons (pv 4) pa_nil)))) (pa_cons (Dh.pe_cal c_field hr (by decide) (passes_call (takes_of rfl rfl rfl rfl) (fun _ _ _ _ h => h)) rfl (pa_cons (Dh.pe_fldC Z.c_Register Z.n_Register_word (pv 0)) (pa_cons (pv 3) (pa_cons (pv 4) pa_nil)))) pa_nil)) (by rfl))
    (pss_one (ps_if (PW.pt (pw_or (pt_cmpR (Dh.oEq (K := K) rfl hr.units) (pv 5) pe_str (nomark _)) (pw_or1 (PW.pt (pw_and (pt_cmpR (Dh.oEq (K := K) rfl hr.units) (pv 5) pe_str (nomark _)) (pw_and1 (pt_cmp (pc_dnotin (hu_of hr) (pv 2) (Dh.pe_fldC Z.c_Register Z.n_Register_written (pv 0))) rfl)))))))
    (pss_cons (Dh.ps_fldC Z.c_Register Z.n_Register_word (pv 0) (Dh.pe_cal c_with_field hr (by decide) (passes_call (takes_of rfl rfl rfl rfl) (fun _ _ _ _ h => h)) rfl (pa_cons (Dh.pe_fldC Z.c_Register Z.n_Register_word (pv 0)) (pa_cons (pv 3) (pa_cons (pv 4) (pa_cons (pv 6) pa_nil))))))
    (pss_one (ps_dput (hu_of hr) (Dh.pe_fldC Z.c_Register Z.n_Register_written (pv 0)) (pv 2) pe_bl rfl)))
    (pss_one (ps_if (pt_cmpR (Dh.oEq (K := K) rfl hr.units) (pv 5) pe_str (nomark _))
    (pss_one (Dh.ps_fldC Z.c_Register Z.n_Register_word (pv 0) (Dh.pe_cal c_with_field hr (by decide) (passes_call (takes_of rfl rfl rfl rfl) (fun _ _ _ _ h => h)) rfl (pa_cons (Dh.pe_fldC Z.c_Register Z.n_Register_word (pv 0)) (pa_cons (pv 3) (pa_cons (pv 4) (pa_cons (Dh.pe_cal c_without hr (by decide) (passes_call (takes_of rfl rfl rfl rfl) (fun _ _ _ _ h => h)) rfl (pa_cons (pv 7) (pa_cons (pv 6) (pa_cons (pv 4) pa_nil)))) pa_nil)))))))
    (pss_one (ps_if (PW.pt (pw_and (pt_cmpR (Dh.oEq (K := K) rfl hr.units) (pv 5) pe_str (nomark _)) (pw_and1 (pt_cmpR op_gt (pv 6) pe_int (nomark _)))))
    (pss_one (ps_expr (pe_bm PySem.F.plainAttrs_list PySem.F.slot_list_append PySem.F.type_list_append mt_append (Dh.pe_fldC Z.c_Register Z.n_Register_pulses (pv 0)) (pa_cons (pe_tup (pa_cons (pv 2) (pa_cons (pv 6) pa_nil))) pa_nil))))
    pss_nil)))))))))), ?_⟩
  try dsimp only [L2.cxOf, L2.Cx.blk, LamX.lamCx, L2.Cx.tr]
  obtain ⟨p, x, wide, fl, w, wl, ps, R, rfl, hE, h0, h1, h2, h3, h4, h5, k0, k1⟩ := h
  refine Dh.Go.ent hE ?_
  refine (go_RegAt fun t r d vs pv => ?_)
  refine' Dh.go_dvsLen (vs := vs) (ds := fl.map fdt) ?pkl fun hlen => ?_
  (case pkl => walk_at "pk")
  rw [List.length_map] at hlen
  walk_at "vc"
  walk_at "use"
  · exact fold_RegAt (by walk_at "ent") (k0 (by assumption))
  · rename_i hx0 hx1
    walk_at "vc"
    refine Dh.g_forT (xs := vs) (fun i σ L => ∃ (s : RSt) (pv : List V) (v2 v3 v4 v5 v6 v7 : Option V), σ = [some (.ref p), some (.int x), v2, v3, v4, v5, v6, v7] ∧ s = (fl.take i).foldl (wstep x) (w, wl, ps) ∧ s.2.1.length ≤ 1000 + i ∧ s.2.2.length ≤ 1000 + i ∧
      Dh.Ent L (Dh.ob p C_Register (fs_Register (.int wide) (.ref t) (.int s.1) (.ref r) (.ref d)) :: Dh.pt t (.tup vs) :: Dh.dvs vs (fl.map fdt) :: Dh.pt r (.dK (Dh.keyD s.2.1)) :: Dh.pt d (.lst pv) :: Dh.dvs pv (s.2.2.map pdt) :: R)) ⟨(w, wl, ps), pv, none, none, none, none, none, none, rfl, rfl, h3, h4, by walk_at "ent"⟩ ?_ ?_ ?_
    · rintro i σ L ⟨s, pv, v2, v3, v4, v5, v6, v7, rfl, hs, hl1, hl2, hE⟩
      exact hE.has (by walk_at "pk")
    · rintro i y σ L hy ⟨⟨w', wl', ps'⟩, pv, v2, v3, v4, v5, v6, v7, rfl, hs, hl1, hl2, hE⟩
      have hi := (List.getElem?_eq_some_iff.mp hy).1
      obtain ⟨f, hf⟩ : ∃ f, fl[i]? = some f := ⟨_, List.getElem?_eq_getElem (by omega)⟩
      have hfo := h5 f (List.mem_of_getElem? hf)
      have hstep : (fl.take (i + 1)).foldl (wstep x) (w, wl, ps) = wstep x (w', wl', ps') f := by
        rw [List.take_add_one, hf, List.foldl_append, ← hs]
        rfl
      dsimp only at hl1 hl2
      refine Dh.Go.ent hE ?_
      dsimp only
      refine' Dh.go_dvRow (vs := vs) (ds := fl.map fdt) (k := i) (es := [.str f.nm, .int f.lo, .int f.many, .str f.rule]) (xs := [.str f.nm, .int f.lo, .int f.many, .str f.rule]) ?pk2 (by rw [List.getElem?_map, hf]; rfl) rfl rfl fun t1 ht => ?_
      (case pk2 => walk_at "pk")
      obtain rfl : y = .ref t1 := by rw [hy] at ht; exact Option.some.inj ht
      refine' Dh.go_dvsLen (vs := pv) (ds := ps'.map pdt) ?pkp fun hplen => ?_
      (case pkp => walk_at "pk")
      rw [List.length_map] at hplen
      walk_at "vc"
      by_cases hp : f.rule = "plain"
      · refine Dh.g_ifT (dstr hp) ?_
        walk_at "vc"
        walk_at "use"
        · exact absurd fld_in (by assumption)
        · have hsz : (Dh.keyD wl').length < sizeLine := by rw [Dh.keyD_len, PySem.sizeLine_eq]; omega
          walk_at "vc"
          rw [Dh.keyD_put]
          refine Dh.SI.in ⟨(wf w' f.lo f.many (fld x f.lo f.many), Dh.addK wl' (Sum.inr f.nm), ps'), pv, _, _, _, _, _, _, rfl, by rw [hstep, wstep_p hp], ?_, by dsimp only; omega, by walk_at "ent"⟩
          have := Dh.addK_len (ks := wl') (k := Sum.inr f.nm)
          dsimp only
          omega
      refine Dh.g_ifF (dstr_no hp) ?_
      walk_at "vc"
      by_cases ho : f.rule = "once"
      · refine Dh.g_ifT (dstr ho) ?_
        walk_at "vc"
        rw [Dh.keyD_in]
        by_cases hk : Dh.hasK wl' (Sum.inr f.nm) = true
        · refine Dh.g_ifF (by rw [hk]; rfl) ?_
          walk_at "vc"
          refine Dh.g_ifF (dstr_no (by rw [ho]; exact n_oc)) ?_
          walk_at "vc"
          refine Dh.g_ifF (dstr_no (by rw [ho]; exact n_ou)) ?_
          walk_at "vc"
          refine Dh.SI.in ⟨(w', wl', ps'), pv, _, _, _, _, _, _, rfl, ?_, by dsimp only; omega, by dsimp only; omega, by walk_at "ent"⟩
          rw [hstep, wstep_not hp (fun z => z.2 hk), if_neg (by rw [ho]; exact n_oc), if_neg (by rw [ho]; exact fun z => n_ou z.1)]
        · refine Dh.g_ifT (by simpa using hk) ?_
          walk_at "vc"
          walk_at "use"
          · exact absurd fld_in (by assumption)
          · have hsz : (Dh.keyD wl').length < sizeLine := by rw [Dh.keyD_len, PySem.sizeLine_eq]; omega
            walk_at "vc"
            rw [Dh.keyD_put]
            refine Dh.SI.in ⟨(wf w' f.lo f.many (fld x f.lo f.many), Dh.addK wl' (Sum.inr f.nm), ps'), pv, _, _, _, _, _, _, rfl, by rw [hstep, wstep_o ho hk], ?_, by dsimp only; omega, by walk_at "ent"⟩
            have := Dh.addK_len (ks := wl') (k := Sum.inr f.nm)
            dsimp only
            omega
      have hno : ¬ (f.rule = "once" ∧ ¬ Dh.hasK (w', wl', ps').2.1 (Sum.inr f.nm) = true) := fun z => ho z.1
      refine Dh.g_ifF (dstr_no ho) ?_
      walk_at "vc"
      by_cases hc : f.rule = "clear"
      · refine Dh.g_ifT (dstr hc) ?_
        walk_at "vc"
        walk_at "use"
        · exact absurd (wo_in hfo.2.2.1) (by assumption)
        · walk_at "vc"
          refine Dh.SI.in ⟨(wf w' f.lo f.many (wo (fld w' f.lo f.many) (fld x f.lo f.many) f.many), wl', ps'), pv, _, _, _, _, _, _, rfl, ?_, by dsimp only; omega, by dsimp only; omega, by walk_at "ent"⟩
          rw [hstep, wstep_not hp hno, if_pos hc]
      refine Dh.g_ifF (dstr_no hc) ?_
      walk_at "vc"
      by_cases hu : f.rule = "pulse"
      · refine Dh.g_ifT (dstr hu) ?_
        walk_at "vc"
        by_cases hm : fld x f.lo f.many > 0
        · refine Dh.g_ifT (decide_eq_true hm) ?_
          walk_at "vc"
          rename_i t2
          refine Dh.go_dvs (vs := pv ++ [.ref t2]) (ds := (ps' ++ [(f.nm, fld x f.lo f.many)]).map pdt) (fun H s => ?_) ?_
          · rw [List.map_append, List.map_cons, List.map_nil, pdt]
            walk_at "dvp"
          refine Dh.SI.in ⟨(w', wl', ps' ++ [(f.nm, fld x f.lo f.many)]), pv ++ [.ref t2], _, _, _, _, _, _, rfl, ?_, by dsimp only; omega, by dsimp only; rw [List.length_append]; simp only [List.length_cons, List.length_nil]; omega, by walk_at "ent"⟩
          rw [hstep, wstep_not hp hno, if_neg hc, if_pos ⟨hu, hm⟩]
        · refine Dh.g_ifF (decide_eq_false hm) ?_
          walk_at "vc"
          refine Dh.SI.in ⟨(w', wl', ps'), pv, _, _, _, _, _, _, rfl, ?_, by dsimp only; omega, by dsimp only; omega, by walk_at "ent"⟩
          rw [hstep, wstep_not hp hno, if_neg hc, if_neg fun z => hm z.2]
      · refine Dh.g_ifF (dstr_no hu) ?_
        walk_at "vc"
        refine Dh.SI.in ⟨(w', wl', ps'), pv, _, _, _, _, _, _, rfl, ?_, by dsimp only; omega, by dsimp only; omega, by walk_at "ent"⟩
        rw [hstep, wstep_not hp hno, if_neg hc, if_neg fun z => hu z.1]
    · rintro σ L ⟨s, pv, v2, v3, v4, v5, v6, v7, rfl, hs, hl1, hl2, hE⟩
      rw [hlen, List.take_length] at hs
      subst hs
      refine Dh.Go.ent hE ?_
      walk_at "vc"
      exact fold_RegAt (by walk_at "ent") (k1 (by assumption) (by assumption))
end
end Toy
end

section
local macro_rules | `(tactic| walk_at "pk") => `(tactic| (with_reducible first | exact Dh.pick_here | (refine' Dh.pick_there ?p; (case p => walk_at "pk"))))
local macro_rules | `(tactic| walk_at "ent") => `(tactic| first | (with_reducible exact Dh.ent_refl) | (with_reducible exact Dh.ent_nil) | (refine' Dh.ent_cons ?q0 ?k; (case q0 => walk_at "pk"); (case k => walk_at "ent")) | (refine' Dh.ent_drop ?k; (case k => walk_at "ent")))
local macro_rules | `(tactic| walk_at "side") => `(tactic| first | (with_reducible assumption) | omega | decide | (exact Or.inl rfl) | (exact Or.inr rfl) | (exact Dh.log2_ok (by omega)) | (simp only [L2.CMul, L2.CDiv, L2.CDivN]; omega) | (unfold L2.CPow; decide) | (simp only [List.length_cons, List.length_nil, List.length_append, List.length_map, List.length_range, List.length_replicate, List.length_set, List.length_take, List.length_drop, PySem.sizeLine_eq] <;> omega))
local macro_rules | `(tactic| walk_at "dvp") => `(tactic| (with_reducible first | exact Dh.DV.int | exact Dh.DV.str | exact Dh.DV.bl | exact Dh.DV.non | exact Dh.DVs.nil | (refine' Dh.Pick.dvs ?a (by assumption); (case a => walk_at "pk")) | (refine' Dh.Pick.dv ?a (by assumption); (case a => walk_at "pk")) | (refine' Dh.DVs.cons ?a ?b; (case a => walk_at "dvp"); (case b => walk_at "dvp")) | (refine' Dh.DVs.app ?a ?b; (case a => walk_at "dvp"); (case b => walk_at "dvp")) | (refine' Dh.Pick.tup ?a (by assumption) ?b; (case a => walk_at "pk"); (case b => walk_at "dvp")) | (refine' Dh.DVs.take _ ?a; (case a => walk_at "dvp")) | (refine' Dh.DVs.drop _ ?a; (case a => walk_at "dvp")) | (refine' Dh.DVs.set _ ?a ?b; (case a => walk_at "dvp"); (case b => walk_at "dvp"))))
local macro_rules | `(tactic| walk_at "ixs") => `(tactic| first | assumption | omega | (simp only [List.length_set, List.length_map, List.length_cons, List.length_nil, List.length_append, List.length_replicate] <;> first | assumption | omega))
local macro_rules | `(tactic| walk_at "lk") => `(tactic| first | rfl | assumption | (exact Dh.ixN_lt (by walk_at "ixs")) | (exact Dh.atI_lt (by assumption)) | (exact Dh.atI_map (by assumption))  | with_reducible exact Toy.lk_Register_wide | with_reducible exact Toy.lk_Register_fields | with_reducible exact Toy.lk_Register_word | with_reducible exact Toy.lk_Register_written | with_reducible exact Toy.lk_Register_pulses | with_reducible exact Toy.no_Register_init | with_reducible exact Toy.no_Register_read | with_reducible exact Toy.no_Register_write | with_reducible exact Toy.no_Register_row_of | with_reducible exact Toy.no_Register_get | with_reducible exact Toy.no_Register_put)
local macro_rules | `(tactic| walk_at "kt") => `(tactic| assumption)
local macro_rules | `(tactic| walk_at "pf") => `(tactic| first  | with_reducible exact Toy.pf_Register_wide | with_reducible exact Toy.pf_Register_fields | with_reducible exact Toy.pf_Register_word | with_reducible exact Toy.pf_Register_written | with_reducible exact Toy.pf_Register_pulses | with_reducible exact Toy.gr_Register_wide | with_reducible exact Toy.gr_Register_fields | with_reducible exact Toy.gr_Register_word | with_reducible exact Toy.gr_Register_written | with_reducible exact Toy.gr_Register_pulses | rfl)
local macro_rules | `(tactic| walk_at "ln") => `(tactic| first  | with_reducible exact Toy.ln_Register | decide | (simp only [List.length_cons, List.length_nil] <;> omega))
local macro_rules | `(tactic| walk_at "hasm") => `(tactic| first | (refine' Toy.hasM_RegAt ?q0 ?q1; (case q0 => walk_at "pk"); (case q1 => (intros; walk_at "lk"))) | (refine' Dh.hasM_ob ?q0 ?q1; (case q0 => walk_at "pk"); (case q1 => walk_at "lk")))
local macro_rules | `(tactic| walk_at "vcp0") => `(tactic| first | ((with_reducible refine' Dh.g_seq ?k)) | ((with_reducible refine' Dh.g_next ?k)) | ((with_reducible refine' Dh.g_nonA ?k)) | ((with_reducible refine' Dh.g_var ?q0 ?k); (case q0 => rfl)) | ((with_reducible refine' Dh.g_c ?k)) | ((with_reducible refine' Dh.g_op ?k)) | ((with_reducible refine' Dh.g_asg ?k)) | ((with_reducible refine' Dh.g_name ?k)) | ((with_reducible refine' Dh.g_ifS ?k)) | ((with_reducible refine' Dh.g_test ?k)) | ((with_reducible refine' Dh.g_isB ?k)) | ((with_reducible refine' Dh.g_B ?k)) | ((with_reducible refine' Dh.g_ret ?k)) | ((with_reducible refine' Dh.g_retN ?k)) | ((with_reducible refine' Dh.g_drop ?k)) | ((with_reducible refine' Dh.g_brk ?k)) | ((with_reducible refine' Dh.g_cont ?k)) | ((with_reducible refine' Dh.g_un ?k)) | ((with_reducible refine' Dh.g_I0 ?k)) | ((with_reducible refine' Dh.g_addI ?k)) | ((with_reducible refine' Dh.g_addB ?k)) | ((with_reducible refine' Dh.g_addS ?q0 ?k); (case q0 => walk_at "side")) | ((with_reducible refine' Dh.g_addM ?q0 ?q1 ?q2 ?k); (case q0 => walk_at "pk"); (case q1 => walk_at "pk"); (case q2 => walk_at "side"); intro _) | ((with_reducible refine' Dh.g_addL ?q0 ?q1 ?q2 ?k); (case q0 => walk_at "pk"); (case q1 => walk_at "pk"); (case q2 => walk_at "side"); intro _))
local macro_rules | `(tactic| walk_at "vcp1") => `(tactic| first | ((with_reducible refine' Dh.g_I ?q0 ?k); (case q0 => walk_at "side")) | ((with_reducible refine' Dh.g_mulI ?q0 ?k); (case q0 => walk_at "side")) | ((with_reducible refine' Dh.g_U ?k)) | ((with_reducible refine' Dh.g_eqS ?q0 ?k); (case q0 => rfl)) | ((with_reducible refine' Dh.g_neS ?q0 ?k); (case q0 => rfl)) | ((with_reducible refine' Dh.g_eqLL ?q0 ?q1 ?k); (case q0 => walk_at "pk"); (case q1 => walk_at "pk")) | ((with_reducible refine' Dh.g_neLL ?q0 ?q1 ?k); (case q0 => walk_at "pk"); (case q1 => walk_at "pk")) | ((with_reducible refine' Dh.g_eqL0 ?q0 ?q1 ?k); (case q0 => walk_at "pk"); (case q1 => walk_at "pk")) | ((with_reducible refine' Dh.g_neL0 ?q0 ?q1 ?k); (case q0 => walk_at "pk"); (case q1 => walk_at "pk")) | ((with_reducible refine' Dh.g_neT0 ?q0 ?q1 ?q2 ?k); (case q0 => walk_at "pk"); (case q1 => walk_at "pk"); (case q2 => walk_at "pk")) | ((with_reducible refine' Dh.g_neP ?q0 ?q1 ?k); (case q0 => walk_at "pk"); (case q1 => walk_at "pk")) | ((with_reducible refine' Dh.g_inI ?q0 ?k); (case q0 => walk_at "pk")) | ((with_reducible refine' Dh.g_isN ?k)) | ((with_reducible refine' Dh.g_notN ?k)) | ((with_reducible refine' Dh.g_ixL ?q0 ?q1 ?k); (case q0 => walk_at "pk"); (case q1 => walk_at "lk")) | ((with_reducible refine' Dh.g_ixT ?q0 ?q1 ?k); (case q0 => walk_at "pk"); (case q1 => walk_at "lk")) | ((with_reducible refine' Dh.g_sl ?k)) | ((with_reducible refine' Dh.g_noPart ?k)) | ((with_reducible refine' Dh.g_part ?k)) | ((with_reducible refine' Dh.g_isSomeInt ?k)) | ((with_reducible refine' Dh.g_slTk ?q0 ?k); (case q0 => walk_at "pk"); intro _) | ((with_reducible refine' Dh.g_slDr ?q0 ?k); (case q0 => walk_at "pk"); intro _) | ((with_reducible refine' Dh.g_slL ?q0 ?k); (case q0 => walk_at "pk"); intro _) | ((with_reducible refine' Dh.g_slQTk ?q0 ?k); (case q0 => walk_at "pk"); intro _))
local macro_rules | `(tactic| walk_at "vcp2") => `(tactic| first | ((with_reducible refine' Dh.g_slQ ?q0 ?k); (case q0 => walk_at "pk"); intro _) | ((with_reducible refine' Dh.g_fldE ?k)) | ((with_reducible refine' Dh.g_fld ?q0 ?q1 ?k); (case q0 => walk_at "pk"); (case q1 => walk_at "lk")) | ((with_reducible refine' Dh.g_tup ?k)) | ((with_reducible refine' Dh.g_lst ?k)) | ((with_reducible refine' Dh.g_newT ?q0 ?k); (case q0 => walk_at "side"); intro _) | ((with_reducible refine' Dh.g_newL ?q0 ?k); (case q0 => walk_at "side"); intro _) | ((with_reducible refine' Dh.g_nil ?k)) | ((with_reducible refine' Dh.g_cons ?k)) | ((with_reducible refine' Dh.g_call ?k)) | ((with_reducible refine' Dh.g_methE ?k)) | ((with_reducible refine' Dh.g_meth ?q0 ?k); (case q0 => walk_at "hasm")) | ((with_reducible refine' Dh.g_make ?k)) | ((with_reducible refine' Dh.g_made ?k); intro _) | ((with_reducible refine' Dh.g_cb ?k)) | ((with_reducible refine' Dh.g_int ?k)) | ((with_reducible refine' Dh.g_intB ?k)) | ((with_reducible refine' Dh.g_abs ?k)) | ((with_reducible refine' Dh.g_max2 ?k)) | ((with_reducible refine' Dh.g_min2 ?k)) | ((with_reducible refine' Dh.g_strI ?q0 ?k); (case q0 => walk_at "side")) | ((with_reducible refine' Dh.g_lenL ?q0 ?k); (case q0 => walk_at "pk")) | ((with_reducible refine' Dh.g_lenT ?q0 ?k); (case q0 => walk_at "pk")) | ((with_reducible refine' Dh.g_lenD ?q0 ?k); (case q0 => walk_at "pk")))
local macro_rules | `(tactic| walk_at "vcp3") => `(tactic| first | ((with_reducible refine' Dh.g_listL ?q0 ?k); (case q0 => walk_at "pk"); intro _) | ((with_reducible refine' Dh.g_listT ?q0 ?k); (case q0 => walk_at "pk"); intro _) | ((with_reducible refine' Dh.g_tupL ?q0 ?k); (case q0 => walk_at "pk"); intro _) | ((with_reducible refine' Dh.g_tupT ?q0 ?k); (case q0 => walk_at "pk")) | ((with_reducible refine' Dh.g_pop0 ?q0 ?k); (case q0 => walk_at "pk")) | ((with_reducible refine' Dh.g_bm ?k)) | ((with_reducible refine' Dh.g_bm0 ?k)) | ((with_reducible refine' Dh.g_tyL ?q0 ?k); (case q0 => walk_at "pk")) | ((with_reducible refine' Dh.g_append ?q0 ?q1 ?k); (case q0 => walk_at "pk"); (case q1 => walk_at "side")) | ((with_reducible refine' Dh.g_rep ?q0 ?q1 ?q2 ?q3 ?k); (case q0 => walk_at "pk"); (case q1 => walk_at "side"); (case q2 => walk_at "side"); (case q3 => walk_at "side"); intro _) | ((with_reducible refine' Dh.g_not ?k)) | ((with_reducible refine' Dh.g_tand ?k)) | ((with_reducible refine' Dh.g_tor ?k)) | ((with_reducible refine' Dh.g_andV ?k)) | ((with_reducible refine' Dh.g_orV ?k)) | ((with_reducible refine' Dh.g_notV ?k)) | ((with_reducible refine' Dh.g_ifE ?k)) | ((with_reducible refine' Dh.g_chain ?k)) | ((with_reducible refine' Dh.g_tru ?k)) | ((with_reducible refine' Dh.g_truB ?k)) | ((with_reducible refine' Dh.g_truI ?k)) | ((with_reducible refine' Dh.g_truN ?k)) | ((with_reducible refine' Dh.g_truL ?q0 ?k); (case q0 => walk_at "pk")) | ((with_reducible refine' Dh.g_gsub ?k)))
local macro_rules | `(tactic| walk_at "vcp4") => `(tactic| first | ((with_reducible refine' Dh.g_setM ?q0 ?q1 ?k); (case q0 => walk_at "pk"); (case q1 => walk_at "lk")) | ((with_reducible refine' Dh.g_setL ?q0 ?q1 ?k); (case q0 => walk_at "pk"); (case q1 => walk_at "lk")) | ((with_reducible refine' Dh.g_gtup ?q0 ?q1 ?k); (case q0 => walk_at "pk"); (case q1 => rfl)) | ((with_reducible refine' Dh.g_gnil ?k)) | ((with_reducible refine' Dh.g_gcons ?k)) | ((with_reducible refine' Dh.g_par ?k)) | ((with_reducible refine' Dh.g_par2 ?k)) | ((with_reducible refine' Dh.g_par3 ?k)) | ((with_reducible refine' Dh.g_par3b ?k)) | ((with_reducible refine' Dh.g_listRg ?k)) | ((with_reducible refine' Dh.g_rg1E ?k)) | ((with_reducible refine' Dh.g_rg1 ?k)) | ((with_reducible refine' Dh.g_rgN ?q0 ?k); (case q0 => walk_at "side"); intro _) | ((with_reducible refine' Dh.g_rgL ?q0 ?k); (case q0 => walk_at "side"); intro _) | ((with_reducible refine' Dh.g_dinE ?k)) | ((with_reducible refine' Dh.g_dinI ?q0 ?k); (case q0 => walk_at "pk")) | ((with_reducible refine' Dh.g_dnotinE ?k)) | ((with_reducible refine' Dh.g_dnotinI ?q0 ?k); (case q0 => walk_at "pk")) | ((with_reducible refine' Dh.g_dgetE ?k)) | ((with_reducible refine' Dh.g_dgetI ?q0 ?q1 ?k); (case q0 => walk_at "pk"); (case q1 => walk_at "lk")) | ((with_reducible refine' Dh.g_dputE ?k)) | ((with_reducible refine' Dh.g_dputI ?q0 ?q1 ?k); (case q0 => walk_at "pk"); (case q1 => walk_at "side")) | ((with_reducible refine' Dh.g_dpopE ?k)) | ((with_reducible refine' Dh.g_dpopA ?q0 ?k); (case q0 => walk_at "pk")))
local macro_rules | `(tactic| walk_at "vcp5") => `(tactic| first | ((with_reducible refine' Dh.g_dpopB ?q0 ?q1 ?k); (case q0 => walk_at "pk"); (case q1 => walk_at "lk")) | ((with_reducible refine' Dh.g_dnew ?k); intro _) | ((with_reducible refine' Dh.g_ipMul ?q0 ?k); (case q0 => walk_at "side")) | ((with_reducible refine' Dh.g_sfldE ?k)) | ((with_reducible refine' Dh.g_sfld ?q0 ?q1 ?q2 ?k); (case q0 => walk_at "pk"); (case q1 => walk_at "pf"); (case q2 => walk_at "ln")) | ((with_reducible refine' Dh.g_augE ?k)) | ((with_reducible refine' Dh.g_augF ?q0 ?q1 ?k); (case q0 => walk_at "pk"); (case q1 => walk_at "lk")) | ((with_reducible refine' Dh.g_augV ?q0 ?k); (case q0 => rfl)) | ((with_reducible refine' Dh.g_ipI ?k)) | ((with_reducible refine' Dh.g_rAdd ?k)) | ((with_reducible refine' Dh.g_rSub ?k)) | ((with_reducible refine' Dh.g_for ?k)) | ((with_reducible refine' Dh.g_iRng1 ?k)) | ((with_reducible refine' Dh.g_iRng2 ?k)) | ((with_reducible refine' Dh.g_rng1 ?q0 ?q1 ?k); (case q0 => walk_at "side"); (case q1 => walk_at "side")) | ((with_reducible refine' Dh.g_rng2 ?q0 ?k); (case q0 => walk_at "side")) | ((with_reducible refine' Dh.g_iSeqE ?k)) | ((with_reducible refine' Dh.g_iSeqL ?q0 ?k); (case q0 => walk_at "pk")) | ((with_reducible refine' Dh.g_iSeqT ?q0 ?k); (case q0 => walk_at "pk")) | ((with_reducible refine' Dh.g_inK ?q0 ?k); (case q0 => walk_at "kt")) | ((with_reducible refine' Dh.g_notInK ?q0 ?k); (case q0 => walk_at "kt")) | ((with_reducible refine' Dh.g_isiII ?k)) | ((with_reducible refine' Dh.g_isiIB ?k)) | ((with_reducible refine' Dh.g_dinS ?q0 ?k); (case q0 => walk_at "pk")))
local macro_rules | `(tactic| walk_at "vcp6") => `(tactic| first | ((with_reducible refine' Dh.g_dnotinS ?q0 ?k); (case q0 => walk_at "pk")) | ((with_reducible refine' Dh.g_dgetS ?q0 ?q1 ?k); (case q0 => walk_at "pk"); (case q1 => walk_at "lk")) | ((with_reducible refine' Dh.g_dputS ?q0 ?q1 ?k); (case q0 => walk_at "pk"); (case q1 => walk_at "side")) | ((with_reducible refine' Dh.g_dpopS ?q0 ?q1 ?k); (case q0 => walk_at "pk"); (case q1 => walk_at "lk")) | ((with_reducible refine' Dh.g_iRevE ?k)) | ((with_reducible refine' Dh.g_iRevL ?q0 ?k); (case q0 => walk_at "pk")) | ((with_reducible refine' Dh.g_iRevT ?q0 ?k); (case q0 => walk_at "pk")) | ((with_reducible refine' Dh.g_iZipE ?k)) | ((with_reducible refine' Dh.g_iZipL ?q0 ?q1 ?k); (case q0 => walk_at "pk"); (case q1 => walk_at "pk")) | ((with_reducible refine' Dh.g_iZipT ?q0 ?q1 ?k); (case q0 => walk_at "pk"); (case q1 => walk_at "pk")) | ((with_reducible refine' Dh.g_iEnumE ?k)) | ((with_reducible refine' Dh.g_iEnum ?q0 ?k); (case q0 => walk_at "pk")) | ((with_reducible refine' Dh.g_dcE ?k)) | ((with_reducible refine' Dh.g_dturn ?k)) | ((with_reducible refine' Dh.g_sum ?q0 ?k); (case q0 => walk_at "pk")) | ((with_reducible refine' Dh.g_pop ?q0 ?q1 ?k); (case q0 => walk_at "pk"); (case q1 => walk_at "lk")) | ((with_reducible refine' Dh.g_wbody ?k)) | ((with_reducible refine' Dh.g_lcE ?k)) | ((with_reducible refine' Dh.g_turn ?k)) | ((with_reducible refine' Dh.g_tYes ?k)) | ((with_reducible refine' Dh.g_rs ?k)) | ((with_reducible refine' Dh.g_rsW ?k)) | ((with_reducible refine' Dh.g_told ?k)) | ((with_reducible refine' Dh.g_ifT ?q0 ?k); (case q0 => rfl)))
local macro_rules | `(tactic| walk_at "vcp7") => `(tactic| first | ((with_reducible refine' Dh.g_ifF ?q0 ?k); (case q0 => rfl)) | ((with_reducible refine' Dh.g_and ?q0 ?k); (case q0 => rfl)) | ((with_reducible refine' Dh.g_turn ?k)))
local macro_rules | `(tactic| walk_at "vc1") => `(tactic| first | walk_at "vcp0" | walk_at "vcp1" | walk_at "vcp2" | walk_at "vcp3" | walk_at "vcp4" | walk_at "vcp5" | walk_at "vcp6" | walk_at "vcp7" | walk_at "use1" | walk_at "told1")
local macro_rules | `(tactic| walk_at "vc") => `(tactic| repeat walk_at "vc1")
local macro_rules | `(tactic| walk_at "spl") => `(tactic| first | ((with_reducible refine Dh.g_ifD ?_ ?_) <;> intro _) | ((with_reducible refine Dh.g_ifN ?_ ?_) <;> intro _) | ((with_reducible refine Dh.g_if ?_ ?_) <;> intro _))
local macro_rules | `(tactic| walk_at "vcs") => `(tactic| repeat' (first | walk_at "vc1" | walk_at "spl"))
local macro_rules | `(tactic| walk_at "told1") => `(tactic| first | ((with_reducible refine' Dh.g_toldY (Toy.Txt.x_BadWord_BadWord ?z) ?k); (case z => assumption)))
local macro_rules | `(tactic| walk_at "use1") => `(tactic| ((with_reducible refine' Toy.use_law_dice (fun _ _ _ _ => ?k0))))
local macro_rules | `(tactic| walk_at "use1") => `(tactic| ((with_reducible refine' Toy.use_law_roll ?q0 ?h0 ?h1 (fun _ _ => ?k0)); (case q0 => walk_at "pk"); (case h0 => walk_at "side"); (case h1 => walk_at "side")))
local macro_rules | `(tactic| walk_at "use1") => `(tactic| ((with_reducible refine' Toy.use_power ?h0 ?h1 ?k0); (case h0 => walk_at "side"); (case h1 => walk_at "side")))
local macro_rules | `(tactic| walk_at "use") => `(tactic| ((with_reducible refine' Toy.use_check_word ?h0 ?h1 (fun _ => ?k0) (fun _ _ => ?k1)); (case h0 => walk_at "side"); (case h1 => walk_at "side")))
local macro_rules | `(tactic| walk_at "use1") => `(tactic| ((with_reducible refine' Toy.use_field ?h0 ?h1 ?h2 ?h3 ?k0); (case h0 => walk_at "side"); (case h1 => walk_at "side"); (case h2 => walk_at "side"); (case h3 => walk_at "side")))
local macro_rules | `(tactic| walk_at "use") => `(tactic| ((with_reducible refine' Toy.use_with_field ?h0 ?h1 ?h2 ?h3 (fun _ => ?k0) (fun _ _ => ?k1)); (case h0 => walk_at "side"); (case h1 => walk_at "side"); (case h2 => walk_at "side"); (case h3 => walk_at "side")))
local macro_rules | `(tactic| walk_at "use1") => `(tactic| ((with_reducible refine' Toy.use_bits ?h0 ?h1 (fun _ => ?k0)); (case h0 => walk_at "side"); (case h1 => walk_at "side")))
local macro_rules | `(tactic| walk_at "use1") => `(tactic| ((with_reducible refine' Toy.use_of_bits ?q0 ?h0 ?k0); (case q0 => walk_at "pk"); (case h0 => walk_at "side")))
local macro_rules | `(tactic| walk_at "use1") => `(tactic| ((with_reducible refine' Toy.use_both ?h0 ?h1 ?k0); (case h0 => walk_at "side"); (case h1 => walk_at "side")))
local macro_rules | `(tactic| walk_at "use1") => `(tactic| ((with_reducible refine' Toy.use_either ?h0 ?h1 ?k0); (case h0 => walk_at "side"); (case h1 => walk_at "side")))
local macro_rules | `(tactic| walk_at "use1") => `(tactic| ((with_reducible refine' Toy.use_without ?h0 ?h1 ?k0); (case h0 => walk_at "side"); (case h1 => walk_at "side")))
local macro_rules | `(tactic| walk_at "use1") => `(tactic| ((with_reducible refine' Toy.use_turned_octets ?h0 ?h1 ?k0); (case h0 => walk_at "side"); (case h1 => walk_at "side")))
local macro_rules | `(tactic| walk_at "use") => `(tactic| ((with_reducible refine' Toy.use_Register___init__ ?q0 ?q1 ?q2 ?h0 ?h1 (fun _ => ?k0) (fun _ _ => ?k1)); (case q0 => walk_at "pk"); (case q1 => walk_at "pk"); (case q2 => walk_at "pk"); (case h0 => walk_at "side"); (case h1 => walk_at "side")))
local macro_rules | `(tactic| walk_at "use1") => `(tactic| ((with_reducible refine' Toy.use_Register_read ?q0 ?k0); (case q0 => walk_at "pk")))
local macro_rules | `(tactic| walk_at "use") => `(tactic| ((with_reducible refine' Toy.use_Register_write ?q0 ?h0 ?h1 ?h2 ?h3 ?h4 ?h5 (fun _ => ?k0) (fun _ _ => ?k1)); (case q0 => walk_at "pk"); (case h0 => walk_at "side"); (case h1 => walk_at "side"); (case h2 => walk_at "side"); (case h3 => walk_at "side"); (case h4 => walk_at "side"); (case h5 => walk_at "side")))
namespace Toy
open PySem L2
section
variable {P : Program} {w : World} {K : PySem.W.Frag} {mg : Str → Option Value} {base : Heap} {T : List (Addr × Str)} {C_Register C_BadWord C_BadPlace C_BadPlan C_NotDue C_Stuck C_BadBits C_BadText C_TooLarge g_told g_RULES : Addr}
def fdAt (fl : List Fd) (n : Str) : Option Fd := fl.find? fun f => decide (f.nm = n)
def sg_Register_row_of (T : List (Addr × Str)) (K : PySem.W.Frag) (C_Register C_BadWord C_BadPlace C_BadPlan C_NotDue C_Stuck C_BadBits C_BadText C_TooLarge g_told g_RULES : Addr) : Dh.SG :=
  fun zs L Q E => ∃ (p : Addr) (n : Str) (wide : Int) (fl : List Fd) (w : Int) (wl : List Key) (ps : List (Str × Int)) (R : List Dh.HP), zs = [.ref p, .str n] ∧ Dh.Ent L ((RegAt C_Register p wide fl w wl ps) :: R) ∧ (fdAt fl n = none → Dh.Go T ((RegAt C_Register p wide fl w wl ps) :: R) fun H => E (.ref C_BadWord) none H) ∧ (∀ (t : Addr) (f : Fd), fdAt fl n = some f → Dh.Go T ((Dh.pt t (.tup [.str f.nm, .int f.lo, .int f.many, .str f.rule])) :: (RegAt C_Register p wide fl w wl ps) :: R) fun H => Q (.ref t) H)
theorem use_Register_row_of {L A0 : List Dh.HP} {Q : VK} {E : XK} {p : Addr} {n : Str} {wide : Int} {fl : List Fd} {w : Int} {wl : List Key} {ps : List (Str × Int)} (q0 : Dh.Pick L (RegAt C_Register p wide fl w wl ps) A0)  (k0 : fdAt fl n = none → Dh.Go T ((RegAt C_Register p wide fl w wl ps) :: A0) fun H => E (.ref C_BadWord) none H) (k1 : ∀ (t : Addr) (f : Fd), fdAt fl n = some f → Dh.Go T ((Dh.pt t (.tup [.str f.nm, .int f.lo, .int f.many, .str f.rule])) :: (RegAt C_Register p wide fl w wl ps) :: A0) fun H => Q (.ref t) H) : Dh.Go T L fun H => Dh.sOfN T 2 (sg_Register_row_of T K C_Register C_BadWord C_BadPlace C_BadPlan C_NotDue C_Stuck C_BadBits C_BadText C_TooLarge g_told g_RULES) [.ref p, .str n] H Q E := Dh.g_sp rfl ⟨p, n, wide, fl, w, wl, ps, A0, rfl, (Dh.ent_cons q0 Dh.ent_refl), k0, k1⟩
local macro_rules | `(tactic| walk_at "use") => `(tactic| ((with_reducible refine' Toy.use_Register_row_of ?q0 (fun _ => ?k0) (fun _ _ _ => ?k1)); (case q0 => walk_at "pk")))
set_option maxHeartbeats 8000000 in
theorem ok_Register_row_of (Z : Txt K mg C_Register C_BadWord C_BadPlace C_BadPlan C_NotDue C_Stuck C_BadBits C_BadText C_TooLarge g_told g_RULES)  {f : Addr} {fd : FuncData} {cdv : Value} (F : Dh.FunC K "row_of" "Register.row_of" s_Register_row_of f fd cdv) :
    FnOk P w K mg base (L2.CX P w) 1 f fd ["self", "name"] (Dh.sOfN T 2 (sg_Register_row_of T K C_Register C_BadWord C_BadPlace C_BadPlan C_NotDue C_Stuck C_BadBits C_BadText C_TooLarge g_told g_RULES)) := by
  refine Dh.fnX (k := 0) F sc_Register_row_of rfl (fun A outer s H0 L vs Q E hr hl h => ?_)
  refine ⟨_, (pss_cons (ps_for (passes_of rfl) rfl (Dh.piSeq (K := K) rfl (Dh.pe_fldC Z.c_Register Z.n_Register_fields (pv 0))) (pg_name (i := 2) sc_Register_row_of.nd rfl (by first | exact Or.inl rfl | exact Or.inr rfl))
    (pss_one (ps_if (pt_cmpR (Dh.oEq (K := K) rfl hr.units) (pe_ix (Dh.xSeq (K := K) rfl) (pv 2) pe_int (fun _ _ => rfl)) (pv 1) (nomark _))
    (pss_one (ps_ret (pv 2)))
    pss_nil)))
    (pss_one (Dh.ps_rs rfl (takes_of rfl rfl rfl rfl) Z.e_BadWord rfl))), ?_⟩
  try dsimp only [L2.cxOf, L2.Cx.blk, LamX.lamCx, L2.Cx.tr]
  obtain ⟨p, n, wide, fl, w, wl, ps, R, rfl, hE, k0, k1⟩ := h
  refine Dh.Go.ent hE ?_
  refine (go_RegAt fun t r d vs pv => ?_)
  refine' Dh.go_dvsLen (vs := vs) (ds := fl.map fdt) ?pkl fun hlen => ?_
  (case pkl => walk_at "pk")
  rw [List.length_map] at hlen
  walk_at "vc"
  refine Dh.g_forT (xs := vs) (fun i σ L => ∃ (v2 : Option V), σ = [some (.ref p), some (.str n), v2] ∧ fdAt (fl.take i) n = none ∧
    Dh.Ent L (Dh.ob p C_Register (fs_Register (.int wide) (.ref t) (.int w) (.ref r) (.ref d)) :: Dh.pt t (.tup vs) :: Dh.dvs vs (fl.map fdt) :: Dh.pt r (.dK (Dh.keyD wl)) :: Dh.pt d (.lst pv) :: Dh.dvs pv (ps.map pdt) :: R)) ⟨none, rfl, rfl, by walk_at "ent"⟩ ?_ ?_ ?_
  · rintro i σ L ⟨v2, rfl, hs, hE⟩
    exact hE.has (by walk_at "pk")
  · rintro i y σ L hy ⟨v2, rfl, hs, hE⟩
    have hi := (List.getElem?_eq_some_iff.mp hy).1
    obtain ⟨f, hf⟩ : ∃ f, fl[i]? = some f := ⟨_, List.getElem?_eq_getElem (by omega)⟩
    have e : fl = fl.take i ++ f :: fl.drop (i + 1) := by
      rw [← (List.getElem?_eq_some_iff.mp hf).2, List.getElem_cons_drop, List.take_append_drop]
    refine Dh.Go.ent hE ?_
    refine' Dh.go_dvRow (vs := vs) (ds := fl.map fdt) (k := i) (es := [.str f.nm, .int f.lo, .int f.many, .str f.rule]) (xs := [.str f.nm, .int f.lo, .int f.many, .str f.rule]) ?pk2 (by rw [List.getElem?_map, hf]; rfl) rfl rfl fun t1 ht => ?_
    (case pk2 => walk_at "pk")
    obtain rfl : y = .ref t1 := by rw [hy] at ht; exact Option.some.inj ht
    have ha0 : atI [V.str f.nm, .int f.lo, .int f.many, .str f.rule] 0 = some (.str f.nm) := rfl
    walk_at "vc"
    by_cases hn : f.nm = n
    · refine Dh.g_ifT (dstr hn) ?_
      walk_at "vc"
      have hfa : fdAt fl n = some f := by
        rw [e, fdAt, List.find?_append]
        rw [fdAt] at hs
        rw [hs]
        simp [hn]
      refine' Dh.Go.ent ?en0 (fold_RegAt (C := C_Register) (p := p) (wide := wide) (fl := fl) (w := w) (wl := wl) (ps := ps) (t := t) (r := r) (d := d) (vs := vs) (pv := pv) (R := Dh.pt t1 (.tup [.str f.nm, .int f.lo, .int f.many, .str f.rule]) :: R) Dh.ent_refl ?kk)
      (case en0 => walk_at "ent")
      case kk => exact Dh.Go.ent (by walk_at "ent") (k1 t1 f hfa)
    · refine Dh.g_ifF (dstr_no hn) ?_
      walk_at "vc"
      refine Dh.SI.in ⟨_, rfl, ?_, by walk_at "ent"⟩
      rw [List.take_add_one, hf, fdAt, List.find?_append]
      rw [fdAt] at hs
      rw [hs]
      simp [hn]
  · rintro σ L ⟨v2, rfl, hs, hE⟩
    rw [hlen, List.take_length] at hs
    refine Dh.Go.ent hE ?_
    walk_at "vc"
    exact fold_RegAt (by walk_at "ent") (k0 hs)
def sg_Register_get (T : List (Addr × Str)) (K : PySem.W.Frag) (C_Register C_BadWord C_BadPlace C_BadPlan C_NotDue C_Stuck C_BadBits C_BadText C_TooLarge g_told g_RULES : Addr) : Dh.SG :=
  fun zs L Q E => ∃ (p : Addr) (n : Str) (wide : Int) (fl : List Fd) (w : Int) (wl : List Key) (ps : List (Str × Int)) (R : List Dh.HP), zs = [.ref p, .str n] ∧ Dh.Ent L ((RegAt C_Register p wide fl w wl ps) :: R) ∧ (∀ f ∈ fl, 0 ≤ f.lo ∧ f.lo ≤ 24 ∧ 0 ≤ f.many ∧ f.many ≤ 24) ∧ (fdAt fl n = none → Dh.Go T ((RegAt C_Register p wide fl w wl ps) :: R) fun H => E (.ref C_BadWord) none H) ∧ (∀ (f : Fd), fdAt fl n = some f → Dh.Go T ((RegAt C_Register p wide fl w wl ps) :: R) fun H => Q (.int (fld w f.lo f.many)) H)
theorem use_Register_get {L A0 : List Dh.HP} {Q : VK} {E : XK} {p : Addr} {n : Str} {wide : Int} {fl : List Fd} {w : Int} {wl : List Key} {ps : List (Str × Int)} (q0 : Dh.Pick L (RegAt C_Register p wide fl w wl ps) A0) (h0 : ∀ f ∈ fl, 0 ≤ f.lo ∧ f.lo ≤ 24 ∧ 0 ≤ f.many ∧ f.many ≤ 24) (k0 : fdAt fl n = none → Dh.Go T ((RegAt C_Register p wide fl w wl ps) :: A0) fun H => E (.ref C_BadWord) none H) (k1 : ∀ (f : Fd), fdAt fl n = some f → Dh.Go T ((RegAt C_Register p wide fl w wl ps) :: A0) fun H => Q (.int (fld w f.lo f.many)) H) : Dh.Go T L fun H => Dh.sOfN T 2 (sg_Register_get T K C_Register C_BadWord C_BadPlace C_BadPlan C_NotDue C_Stuck C_BadBits C_BadText C_TooLarge g_told g_RULES) [.ref p, .str n] H Q E := Dh.g_sp rfl ⟨p, n, wide, fl, w, wl, ps, A0, rfl, (Dh.ent_cons q0 Dh.ent_refl), h0, k0, k1⟩
local macro_rules | `(tactic| walk_at "use") => `(tactic| ((with_reducible refine' Toy.use_Register_get ?q0 ?h0 (fun _ => ?k0) (fun _ _ => ?k1)); (case q0 => walk_at "pk"); (case h0 => walk_at "side")))
set_option maxHeartbeats 8000000 in
theorem ok_Register_get (Z : Txt K mg C_Register C_BadWord C_BadPlace C_BadPlan C_NotDue C_Stuck C_BadBits C_BadText C_TooLarge g_told g_RULES) (c_Register_row_of : Dh.MetX P w K mg base 1 C_Register "row_of" (Dh.sOfN T 2 (sg_Register_row_of T K C_Register C_BadWord C_BadPlace C_BadPlan C_NotDue C_Stuck C_BadBits C_BadText C_TooLarge g_told g_RULES))) (c_field : Dh.CalX P w K mg base 2 "field" (Dh.sOfN T 3 (sg_field T K C_Register C_BadWord C_BadPlace C_BadPlan C_NotDue C_Stuck C_BadBits C_BadText C_TooLarge g_told g_RULES))) {f : Addr} {fd : FuncData} {cdv : Value} (F : Dh.FunC K "get" "Register.get" s_Register_get f fd cdv) :
    FnOk P w K mg base (L2.CX P w) 3 f fd ["self", "name"] (Dh.sOfN T 2 (sg_Register_get T K C_Register C_BadWord C_BadPlace C_BadPlan C_NotDue C_Stuck C_BadBits C_BadText C_TooLarge g_told g_RULES)) := by
  refine Dh.fnX (k := 2) F sc_Register_get rfl (fun A outer s H0 L vs Q E hr hl h => ?_)
  refine ⟨_, (pss_cons (ps_set (i := 2) sc_Register_get.nd rfl (by first | exact Or.inl rfl | exact Or.inr rfl) (Dh.pe_met c_Register_row_of hr (by decide) (passes_call (takes_of rfl rfl rfl rfl) (fun _ _ _ _ h => h)) (pv 0) (pa_cons (pv 1) pa_nil)))
    (pss_one (ps_ret (Dh.pe_cal c_field hr (by decide) (passes_call (takes_of rfl rfl rfl rfl) (fun _ _ _ _ h => h)) rfl (pa_cons (Dh.pe_fldC Z.c_Register Z.n_Register_word (pv 0)) (pa_cons (pe_ix (Dh.xSeq (K := K) rfl) (pv 2) pe_int (fun _ _ => rfl)) (pa_cons (pe_ix (Dh.xSeq (K := K) rfl) (pv 2) pe_int (fun _ _ => rfl)) pa_nil))))))), ?_⟩
  try dsimp only [L2.cxOf, L2.Cx.blk, LamX.lamCx, L2.Cx.tr]
  obtain ⟨p, n, wide, fl, w, wl, ps, R, rfl, hE, h0, k0, k1⟩ := h
  refine Dh.Go.ent hE ?_
  walk_at "vc"
  walk_at "use"
  · exact Dh.Go.ent (by walk_at "ent") (k0 (by assumption))
  · rename_i t f hf
    have hfo := h0 f (List.mem_of_find?_eq_some hf)
    refine' Dh.Go.ent ?en0 (go_RegAt (C := C_Register) (p := p) (wide := wide) (fl := fl) (w := w) (wl := wl) (ps := ps) fun t0 r d vs pv => ?_)
    (case en0 => walk_at "ent")
    have ha1 : atI [V.str f.nm, .int f.lo, .int f.many, .str f.rule] 1 = some (.int f.lo) := rfl
    have ha2 : atI [V.str f.nm, .int f.lo, .int f.many, .str f.rule] 2 = some (.int f.many) := rfl
    walk_at "vc"
    exact fold_RegAt (by walk_at "ent") (k1 f hf)
def sg_Register_put (T : List (Addr × Str)) (K : PySem.W.Frag) (C_Register C_BadWord C_BadPlace C_BadPlan C_NotDue C_Stuck C_BadBits C_BadText C_TooLarge g_told g_RULES : Addr) : Dh.SG :=
  fun zs L Q E => ∃ (p : Addr) (n : Str) (m : Int) (wide : Int) (fl : List Fd) (w : Int) (wl : List Key) (ps : List (Str × Int)) (f : Fd) (R : List Dh.HP), zs = [.ref p, .str n, .int m] ∧ Dh.Ent L ((RegAt C_Register p wide fl w wl ps) :: R) ∧ (0 ≤ f.lo ∧ f.lo ≤ 24 ∧ 0 ≤ f.many ∧ f.many ≤ 24) ∧ (fdAt fl n = some f) ∧ (0 ≤ m ∧ m < pw f.many) ∧ (Dh.Go T ((RegAt C_Register p wide fl (wf w f.lo f.many m) wl ps) :: R) fun H => Q .non H)
theorem use_Register_put {L A0 : List Dh.HP} {Q : VK} {E : XK} {p : Addr} {n : Str} {m : Int} {wide : Int} {fl : List Fd} {w : Int} {wl : List Key} {ps : List (Str × Int)} {f : Fd} (q0 : Dh.Pick L (RegAt C_Register p wide fl w wl ps) A0) (h0 : 0 ≤ f.lo ∧ f.lo ≤ 24 ∧ 0 ≤ f.many ∧ f.many ≤ 24) (h1 : fdAt fl n = some f) (h2 : 0 ≤ m ∧ m < pw f.many) (k0 : Dh.Go T ((RegAt C_Register p wide fl (wf w f.lo f.many m) wl ps) :: A0) fun H => Q .non H) : Dh.Go T L fun H => Dh.sOfN T 3 (sg_Register_put T K C_Register C_BadWord C_BadPlace C_BadPlan C_NotDue C_Stuck C_BadBits C_BadText C_TooLarge g_told g_RULES) [.ref p, .str n, .int m] H Q E := Dh.g_sp rfl ⟨p, n, m, wide, fl, w, wl, ps, f, A0, rfl, (Dh.ent_cons q0 Dh.ent_refl), h0, h1, h2, k0⟩
local macro_rules | `(tactic| walk_at "use1") => `(tactic| ((with_reducible refine' Toy.use_Register_put ?q0 ?h0 ?h1 ?h2 ?k0); (case q0 => walk_at "pk"); (case h0 => walk_at "side"); (case h1 => walk_at "side"); (case h2 => walk_at "side")))
set_option maxHeartbeats 8000000 in
theorem ok_Register_put (Z : Txt K mg C_Register C_BadWord C_BadPlace C_BadPlan C_NotDue C_Stuck C_BadBits C_BadText C_TooLarge g_told g_RULES) (c_Register_row_of : Dh.MetX P w K mg base 1 C_Register "row_of" (Dh.sOfN T 2 (sg_Register_row_of T K C_Register C_BadWord C_BadPlace C_BadPlan C_NotDue C_Stuck C_BadBits C_BadText C_TooLarge g_told g_RULES))) (c_with_field : Dh.CalX P w K mg base 3 "with_field" (Dh.sOfN T 4 (sg_with_field T K C_Register C_BadWord C_BadPlace C_BadPlan C_NotDue C_Stuck C_BadBits C_BadText C_TooLarge g_told g_RULES))) {f : Addr} {fd : FuncData} {cdv : Value} (F : Dh.FunC K "put" "Register.put" s_Register_put f fd cdv) :
    FnOk P w K mg base (L2.CX P w) 4 f fd ["self", "name", "much"] (Dh.sOfN T 3 (sg_Register_put T K C_Register C_BadWord C_BadPlace C_BadPlan C_NotDue C_Stuck C_BadBits C_BadText C_TooLarge g_told g_RULES)) := by
  refine Dh.fnX (k := 3) F sc_Register_put rfl (fun A outer s H0 L vs Q E hr hl h => ?_)
  refine ⟨_, (pss_cons (ps_set (i := 3) sc_Register_put.nd rfl (by first | exact Or.inl rfl | exact Or.inr rfl) (Dh.pe_met c_Register_row_of hr (by decide) (passes_call (takes_of rfl rfl rfl rfl) (fun _ _ _ _ h => h)) (pv 0) (pa_cons (pv 1) pa_nil)))
    (pss_one (Dh.ps_fldC Z.c_Register Z.n_Register_word (pv 0) (Dh.pe_cal c_with_field hr (by decide) (passes_call (takes_of rfl rfl rfl rfl) (fun _ _ _ _ h => h)) rfl (pa_cons (Dh.pe_fldC Z.c_Register Z.n_Register_word (pv 0)) (pa_cons (pe_ix (Dh.xSeq (K := K) rfl) (pv 3) pe_int (fun _ _ => rfl)) (pa_cons (pe_ix (Dh.xSeq (K := K) rfl) (pv 3) pe_int (fun _ _ => rfl)) (pa_cons (pv 2) pa_nil)))))))), ?_⟩
  try dsimp only [L2.cxOf, L2.Cx.blk, LamX.lamCx, L2.Cx.tr]
  obtain ⟨p, n, m, wide, fl, w, wl, ps, f, R, rfl, hE, h0, h1, h2, k0⟩ := h
  refine Dh.Go.ent hE ?_
  walk_at "vc"
  walk_at "use"
  · rename_i hn
    rw [h1] at hn
    cases hn
  · rename_i t f' hf
    rw [h1] at hf
    cases hf
    refine' Dh.Go.ent ?en0 (go_RegAt (C := C_Register) (p := p) (wide := wide) (fl := fl) (w := w) (wl := wl) (ps := ps) fun t0 r d vs pv => ?_)
    (case en0 => walk_at "ent")
    have ha1 : atI [V.str f.nm, .int f.lo, .int f.many, .str f.rule] 1 = some (.int f.lo) := rfl
    have ha2 : atI [V.str f.nm, .int f.lo, .int f.many, .str f.rule] 2 = some (.int f.many) := rfl
    walk_at "vc"
    walk_at "use"
    · exact absurd h2 (by assumption)
    · walk_at "vc"
      exact fold_RegAt (by walk_at "ent") k0
end
end Toy
end

section
local macro_rules | `(tactic| walk_at "pk") => `(tactic| (with_reducible first | exact Dh.pick_here | (refine' Dh.pick_there ?p; (case p => walk_at "pk"))))
local macro_rules | `(tactic| walk_at "ent") => `(tactic| first | (with_reducible exact Dh.ent_refl) | (with_reducible exact Dh.ent_nil) | (refine' Dh.ent_cons ?q0 ?k; (case q0 => walk_at "pk"); (case k => walk_at "ent")) | (refine' Dh.ent_drop ?k; (case k => walk_at "ent")))
local macro_rules | `(tactic| walk_at "side") => `(tactic| first | (with_reducible assumption) | omega | decide | (exact Or.inl rfl) | (exact Or.inr rfl) | (exact Dh.log2_ok (by omega)) | (simp only [L2.CMul, L2.CDiv, L2.CDivN]; omega) | (unfold L2.CPow; decide) | (simp only [List.length_cons, List.length_nil, List.length_append, List.length_map, List.length_range, List.length_replicate, List.length_set, List.length_take, List.length_drop, PySem.sizeLine_eq] <;> omega))
local macro_rules | `(tactic| walk_at "dvp") => `(tactic| (with_reducible first | exact Dh.DV.int | exact Dh.DV.str | exact Dh.DV.bl | exact Dh.DV.non | exact Dh.DVs.nil | (refine' Dh.Pick.dvs ?a (by assumption); (case a => walk_at "pk")) | (refine' Dh.Pick.dv ?a (by assumption); (case a => walk_at "pk")) | (refine' Dh.DVs.cons ?a ?b; (case a => walk_at "dvp"); (case b => walk_at "dvp")) | (refine' Dh.DVs.app ?a ?b; (case a => walk_at "dvp"); (case b => walk_at "dvp")) | (refine' Dh.Pick.tup ?a (by assumption) ?b; (case a => walk_at "pk"); (case b => walk_at "dvp")) | (refine' Dh.DVs.take _ ?a; (case a => walk_at "dvp")) | (refine' Dh.DVs.drop _ ?a; (case a => walk_at "dvp")) | (refine' Dh.DVs.set _ ?a ?b; (case a => walk_at "dvp"); (case b => walk_at "dvp"))))
local macro_rules | `(tactic| walk_at "ixs") => `(tactic| first | assumption | omega | (simp only [List.length_set, List.length_map, List.length_cons, List.length_nil, List.length_append, List.length_replicate] <;> first | assumption | omega))
local macro_rules | `(tactic| walk_at "lk") => `(tactic| first | rfl | assumption | (exact Dh.ixN_lt (by walk_at "ixs")) | (exact Dh.atI_lt (by assumption)) | (exact Dh.atI_map (by assumption))  | with_reducible exact Toy.lk_Register_wide | with_reducible exact Toy.lk_Register_fields | with_reducible exact Toy.lk_Register_word | with_reducible exact Toy.lk_Register_written | with_reducible exact Toy.lk_Register_pulses | with_reducible exact Toy.no_Register_init | with_reducible exact Toy.no_Register_read | with_reducible exact Toy.no_Register_write | with_reducible exact Toy.no_Register_row_of | with_reducible exact Toy.no_Register_get | with_reducible exact Toy.no_Register_put)
local macro_rules | `(tactic| walk_at "kt") => `(tactic| assumption)
local macro_rules | `(tactic| walk_at "pf") => `(tactic| first  | with_reducible exact Toy.pf_Register_wide | with_reducible exact Toy.pf_Register_fields | with_reducible exact Toy.pf_Register_word | with_reducible exact Toy.pf_Register_written | with_reducible exact Toy.pf_Register_pulses | with_reducible exact Toy.gr_Register_wide | with_reducible exact Toy.gr_Register_fields | with_reducible exact Toy.gr_Register_word | with_reducible exact Toy.gr_Register_written | with_reducible exact Toy.gr_Register_pulses | rfl)
local macro_rules | `(tactic| walk_at "ln") => `(tactic| first  | with_reducible exact Toy.ln_Register | decide | (simp only [List.length_cons, List.length_nil] <;> omega))
local macro_rules | `(tactic| walk_at "hasm") => `(tactic| first | (refine' Toy.hasM_RegAt ?q0 ?q1; (case q0 => walk_at "pk"); (case q1 => (intros; walk_at "lk"))) | (refine' Dh.hasM_ob ?q0 ?q1; (case q0 => walk_at "pk"); (case q1 => walk_at "lk")))
local macro_rules | `(tactic| walk_at "vcp0") => `(tactic| first | ((with_reducible refine' Dh.g_seq ?k)) | ((with_reducible refine' Dh.g_next ?k)) | ((with_reducible refine' Dh.g_nonA ?k)) | ((with_reducible refine' Dh.g_var ?q0 ?k); (case q0 => rfl)) | ((with_reducible refine' Dh.g_c ?k)) | ((with_reducible refine' Dh.g_op ?k)) | ((with_reducible refine' Dh.g_asg ?k)) | ((with_reducible refine' Dh.g_name ?k)) | ((with_reducible refine' Dh.g_ifS ?k)) | ((with_reducible refine' Dh.g_test ?k)) | ((with_reducible refine' Dh.g_isB ?k)) | ((with_reducible refine' Dh.g_B ?k)) | ((with_reducible refine' Dh.g_ret ?k)) | ((with_reducible refine' Dh.g_retN ?k)) | ((with_reducible refine' Dh.g_drop ?k)) | ((with_reducible refine' Dh.g_brk ?k)) | ((with_reducible refine' Dh.g_cont ?k)) | ((with_reducible refine' Dh.g_un ?k)) | ((with_reducible refine' Dh.g_I0 ?k)) | ((with_reducible refine' Dh.g_addI ?k)) | ((with_reducible refine' Dh.g_addB ?k)) | ((with_reducible refine' Dh.g_addS ?q0 ?k); (case q0 => walk_at "side")) | ((with_reducible refine' Dh.g_addM ?q0 ?q1 ?q2 ?k); (case q0 => walk_at "pk"); (case q1 => walk_at "pk"); (case q2 => walk_at "side"); intro _) | ((with_reducible refine' Dh.g_addL ?q0 ?q1 ?q2 ?k); (case q0 => walk_at "pk"); (case q1 => walk_at "pk"); (case q2 => walk_at "side"); intro _))
local macro_rules | `(tactic| walk_at "vcp1") => `(tactic| first | ((with_reducible refine' Dh.g_I ?q0 ?k); (case q0 => walk_at "side")) | ((with_reducible refine' Dh.g_mulI ?q0 ?k); (case q0 => walk_at "side")) | ((with_reducible refine' Dh.g_U ?k)) | ((with_reducible refine' Dh.g_eqS ?q0 ?k); (case q0 => rfl)) | ((with_reducible refine' Dh.g_neS ?q0 ?k); (case q0 => rfl)) | ((with_reducible refine' Dh.g_eqLL ?q0 ?q1 ?k); (case q0 => walk_at "pk"); (case q1 => walk_at "pk")) | ((with_reducible refine' Dh.g_neLL ?q0 ?q1 ?k); (case q0 => walk_at "pk"); (case q1 => walk_at "pk")) | ((with_reducible refine' Dh.g_eqL0 ?q0 ?q1 ?k); (case q0 => walk_at "pk"); (case q1 => walk_at "pk")) | ((with_reducible refine' Dh.g_neL0 ?q0 ?q1 ?k); (case q0 => walk_at "pk"); (case q1 => walk_at "pk")) | ((with_reducible refine' Dh.g_neT0 ?q0 ?q1 ?q2 ?k); (case q0 => walk_at "pk"); (case q1 => walk_at "pk"); (case q2 => walk_at "pk")) | ((with_reducible refine' Dh.g_neP ?q0 ?q1 ?k); (case q0 => walk_at "pk"); (case q1 => walk_at "pk")) | ((with_reducible refine' Dh.g_inI ?q0 ?k); (case q0 => walk_at "pk")) | ((with_reducible refine' Dh.g_isN ?k)) | ((with_reducible refine' Dh.g_notN ?k)) | ((with_reducible refine' Dh.g_ixL ?q0 ?q1 ?k); (case q0 => walk_at "pk"); (case q1 => walk_at "lk")) | ((with_reducible refine' Dh.g_ixT ?q0 ?q1 ?k); (case q0 => walk_at "pk"); (case q1 => walk_at "lk")) | ((with_reducible refine' Dh.g_sl ?k)) | ((with_reducible refine' Dh.g_noPart ?k)) | ((with_reducible refine' Dh.g_part ?k)) | ((with_reducible refine' Dh.g_isSomeInt ?k)) | ((with_reducible refine' Dh.g_slTk ?q0 ?k); (case q0 => walk_at "pk"); intro _) | ((with_reducible refine' Dh.g_slDr ?q0 ?k); (case q0 => walk_at "pk"); intro _) | ((with_reducible refine' Dh.g_slL ?q0 ?k); (case q0 => walk_at "pk"); intro _) | ((with_reducible refine' Dh.g_slQTk ?q0 ?k); (case q0 => walk_at "pk"); intro _))
local macro_rules | `(tactic| walk_at "vcp2") => `(tactic| first | ((with_reducible refine' Dh.g_slQ ?q0 ?k); (case q0 => walk_at "pk"); intro _) | ((with_reducible refine' Dh.g_fldE ?k)) | ((with_reducible refine' Dh.g_fld ?q0 ?q1 ?k); (case q0 => walk_at "pk"); (case q1 => walk_at "lk")) | ((with_reducible refine' Dh.g_tup ?k)) | ((with_reducible refine' Dh.g_lst ?k)) | ((with_reducible refine' Dh.g_newT ?q0 ?k); (case q0 => walk_at "side"); intro _) | ((with_reducible refine' Dh.g_newL ?q0 ?k); (case q0 => walk_at "side"); intro _) | ((with_reducible refine' Dh.g_nil ?k)) | ((with_reducible refine' Dh.g_cons ?k)) | ((with_reducible refine' Dh.g_call ?k)) | ((with_reducible refine' Dh.g_methE ?k)) | ((with_reducible refine' Dh.g_meth ?q0 ?k); (case q0 => walk_at "hasm")) | ((with_reducible refine' Dh.g_make ?k)) | ((with_reducible refine' Dh.g_made ?k); intro _) | ((with_reducible refine' Dh.g_cb ?k)) | ((with_reducible refine' Dh.g_int ?k)) | ((with_reducible refine' Dh.g_intB ?k)) | ((with_reducible refine' Dh.g_abs ?k)) | ((with_reducible refine' Dh.g_max2 ?k)) | ((with_reducible refine' Dh.g_min2 ?k)) | ((with_reducible refine' Dh.g_strI ?q0 ?k); (case q0 => walk_at "side")) | ((with_reducible refine' Dh.g_lenL ?q0 ?k); (case q0 => walk_at "pk")) | ((with_reducible refine' Dh.g_lenT ?q0 ?k); (case q0 => walk_at "pk")) | ((with_reducible refine' Dh.g_lenD ?q0 ?k); (case q0 => walk_at "pk")))
local macro_rules | `(tactic| walk_at "vcp3") => `(tactic| first | ((with_reducible refine' Dh.g_listL ?q0 ?k); (case q0 => walk_at "pk"); intro _) | ((with_reducible refine' Dh.g_listT ?q0 ?k); (case q0 => walk_at "pk"); intro _) | ((with_reducible refine' Dh.g_tupL ?q0 ?k); (case q0 => walk_at "pk"); intro _) | ((with_reducible refine' Dh.g_tupT ?q0 ?k); (case q0 => walk_at "pk")) | ((with_reducible refine' Dh.g_pop0 ?q0 ?k); (case q0 => walk_at "pk")) | ((with_reducible refine' Dh.g_bm ?k)) | ((with_reducible refine' Dh.g_bm0 ?k)) | ((with_reducible refine' Dh.g_tyL ?q0 ?k); (case q0 => walk_at "pk")) | ((with_reducible refine' Dh.g_append ?q0 ?q1 ?k); (case q0 => walk_at "pk"); (case q1 => walk_at "side")) | ((with_reducible refine' Dh.g_rep ?q0 ?q1 ?q2 ?q3 ?k); (case q0 => walk_at "pk"); (case q1 => walk_at "side"); (case q2 => walk_at "side"); (case q3 => walk_at "side"); intro _) | ((with_reducible refine' Dh.g_not ?k)) | ((with_reducible refine' Dh.g_tand ?k)) | ((with_reducible refine' Dh.g_tor ?k)) | ((with_reducible refine' Dh.g_andV ?k)) | ((with_reducible refine' Dh.g_orV ?k)) | ((with_reducible refine' Dh.g_notV ?k)) | ((with_reducible refine' Dh.g_ifE ?k)) | ((with_reducible refine' Dh.g_chain ?k)) | ((with_reducible refine' Dh.g_tru ?k)) | ((with_reducible refine' Dh.g_truB ?k)) | ((with_reducible refine' Dh.g_truI ?k)) | ((with_reducible refine' Dh.g_truN ?k)) | ((with_reducible refine' Dh.g_truL ?q0 ?k); (case q0 => walk_at "pk")) | ((with_reducible refine' Dh.g_gsub ?k)))
local macro_rules | `(tactic| walk_at "vcp4") => `(tactic| first | ((with_reducible refine' Dh.g_setM ?q0 ?q1 ?k); (case q0 => walk_at "pk"); (case q1 => walk_at "lk")) | ((with_reducible refine' Dh.g_setL ?q0 ?q1 ?k); (case q0 => walk_at "pk"); (case q1 => walk_at "lk")) | ((with_reducible refine' Dh.g_gtup ?q0 ?q1 ?k); (case q0 => walk_at "pk"); (case q1 => rfl)) | ((with_reducible refine' Dh.g_gnil ?k)) | ((with_reducible refine' Dh.g_gcons ?k)) | ((with_reducible refine' Dh.g_par ?k)) | ((with_reducible refine' Dh.g_par2 ?k)) | ((with_reducible refine' Dh.g_par3 ?k)) | ((with_reducible refine' Dh.g_par3b ?k)) | ((with_reducible refine' Dh.g_listRg ?k)) | ((with_reducible refine' Dh.g_rg1E ?k)) | ((with_reducible refine' Dh.g_rg1 ?k)) | ((with_reducible refine' Dh.g_rgN ?q0 ?k); (case q0 => walk_at "side"); intro _) | ((with_reducible refine' Dh.g_rgL ?q0 ?k); (case q0 => walk_at "side"); intro _) | ((with_reducible refine' Dh.g_dinE ?k)) | ((with_reducible refine' Dh.g_dinI ?q0 ?k); (case q0 => walk_at "pk")) | ((with_reducible refine' Dh.g_dnotinE ?k)) | ((with_reducible refine' Dh.g_dnotinI ?q0 ?k); (case q0 => walk_at "pk")) | ((with_reducible refine' Dh.g_dgetE ?k)) | ((with_reducible refine' Dh.g_dgetI ?q0 ?q1 ?k); (case q0 => walk_at "pk"); (case q1 => walk_at "lk")) | ((with_reducible refine' Dh.g_dputE ?k)) | ((with_reducible refine' Dh.g_dputI ?q0 ?q1 ?k); (case q0 => walk_at "pk"); (case q1 => walk_at "side")) | ((with_reducible refine' Dh.g_dpopE ?k)) | ((with_reducible refine' Dh.g_dpopA ?q0 ?k); (case q0 => walk_at "pk")))
local macro_rules | `(tactic| walk_at "vcp5") => `(tactic| first | ((with_reducible refine' Dh.g_dpopB ?q0 ?q1 ?k); (case q0 => walk_at "pk"); (case q1 => walk_at "lk")) | ((with_reducible refine' Dh.g_dnew ?k); intro _) | ((with_reducible refine' Dh.g_ipMul ?q0 ?k); (case q0 => walk_at "side")) | ((with_reducible refine' Dh.g_sfldE ?k)) | ((with_reducible refine' Dh.g_sfld ?q0 ?q1 ?q2 ?k); (case q0 => walk_at "pk"); (case q1 => walk_at "pf"); (case q2 => walk_at "ln")) | ((with_reducible refine' Dh.g_augE ?k)) | ((with_reducible refine' Dh.g_augF ?q0 ?q1 ?k); (case q0 => walk_at "pk"); (case q1 => walk_at "lk")) | ((with_reducible refine' Dh.g_augV ?q0 ?k); (case q0 => rfl)) | ((with_reducible refine' Dh.g_ipI ?k)) | ((with_reducible refine' Dh.g_rAdd ?k)) | ((with_reducible refine' Dh.g_rSub ?k)) | ((with_reducible refine' Dh.g_for ?k)) | ((with_reducible refine' Dh.g_iRng1 ?k)) | ((with_reducible refine' Dh.g_iRng2 ?k)) | ((with_reducible refine' Dh.g_rng1 ?q0 ?q1 ?k); (case q0 => walk_at "side"); (case q1 => walk_at "side")) | ((with_reducible refine' Dh.g_rng2 ?q0 ?k); (case q0 => walk_at "side")) | ((with_reducible refine' Dh.g_iSeqE ?k)) | ((with_reducible refine' Dh.g_iSeqL ?q0 ?k); (case q0 => walk_at "pk")) | ((with_reducible refine' Dh.g_iSeqT ?q0 ?k); (case q0 => walk_at "pk")) | ((with_reducible refine' Dh.g_inK ?q0 ?k); (case q0 => walk_at "kt")) | ((with_reducible refine' Dh.g_notInK ?q0 ?k); (case q0 => walk_at "kt")) | ((with_reducible refine' Dh.g_isiII ?k)) | ((with_reducible refine' Dh.g_isiIB ?k)) | ((with_reducible refine' Dh.g_dinS ?q0 ?k); (case q0 => walk_at "pk")))
local macro_rules | `(tactic| walk_at "vcp6") => `(tactic| first | ((with_reducible refine' Dh.g_dnotinS ?q0 ?k); (case q0 => walk_at "pk")) | ((with_reducible refine' Dh.g_dgetS ?q0 ?q1 ?k); (case q0 => walk_at "pk"); (case q1 => walk_at "lk")) | ((with_reducible refine' Dh.g_dputS ?q0 ?q1 ?k); (case q0 => walk_at "pk"); (case q1 => walk_at "side")) | ((with_reducible refine' Dh.g_dpopS ?q0 ?q1 ?k); (case q0 => walk_at "pk"); (case q1 => walk_at "lk")) | ((with_reducible refine' Dh.g_iRevE ?k)) | ((with_reducible refine' Dh.g_iRevL ?q0 ?k); (case q0 => walk_at "pk")) | ((with_reducible refine' Dh.g_iRevT ?q0 ?k); (case q0 => walk_at "pk")) | ((with_reducible refine' Dh.g_iZipE ?k)) | ((with_reducible refine' Dh.g_iZipL ?q0 ?q1 ?k); (case q0 => walk_at "pk"); (case q1 => walk_at "pk")) | ((with_reducible refine' Dh.g_iZipT ?q0 ?q1 ?k); (case q0 => walk_at "pk"); (case q1 => walk_at "pk")) | ((with_reducible refine' Dh.g_iEnumE ?k)) | ((with_reducible refine' Dh.g_iEnum ?q0 ?k); (case q0 => walk_at "pk")) | ((with_reducible refine' Dh.g_dcE ?k)) | ((with_reducible refine' Dh.g_dturn ?k)) | ((with_reducible refine' Dh.g_sum ?q0 ?k); (case q0 => walk_at "pk")) | ((with_reducible refine' Dh.g_pop ?q0 ?q1 ?k); (case q0 => walk_at "pk"); (case q1 => walk_at "lk")) | ((with_reducible refine' Dh.g_wbody ?k)) | ((with_reducible refine' Dh.g_lcE ?k)) | ((with_reducible refine' Dh.g_turn ?k)) | ((with_reducible refine' Dh.g_tYes ?k)) | ((with_reducible refine' Dh.g_rs ?k)) | ((with_reducible refine' Dh.g_rsW ?k)) | ((with_reducible refine' Dh.g_told ?k)) | ((with_reducible refine' Dh.g_ifT ?q0 ?k); (case q0 => rfl)))
local macro_rules | `(tactic| walk_at "vcp7") => `(tactic| first | ((with_reducible refine' Dh.g_ifF ?q0 ?k); (case q0 => rfl)) | ((with_reducible refine' Dh.g_and ?q0 ?k); (case q0 => rfl)) | ((with_reducible refine' Dh.g_turn ?k)))
local macro_rules | `(tactic| walk_at "vc1") => `(tactic| first | walk_at "vcp0" | walk_at "vcp1" | walk_at "vcp2" | walk_at "vcp3" | walk_at "vcp4" | walk_at "vcp5" | walk_at "vcp6" | walk_at "vcp7" | walk_at "use1" | walk_at "told1")
local macro_rules | `(tactic| walk_at "vc") => `(tactic| repeat walk_at "vc1")
local macro_rules | `(tactic| walk_at "spl") => `(tactic| first | ((with_reducible refine Dh.g_ifD ?_ ?_) <;> intro _) | ((with_reducible refine Dh.g_ifN ?_ ?_) <;> intro _) | ((with_reducible refine Dh.g_if ?_ ?_) <;> intro _))
local macro_rules | `(tactic| walk_at "vcs") => `(tactic| repeat' (first | walk_at "vc1" | walk_at "spl"))
local macro_rules | `(tactic| walk_at "told1") => `(tactic| first | ((with_reducible refine' Dh.g_toldY (Toy.Txt.x_BadWord_BadWord ?z) ?k); (case z => assumption)))
local macro_rules | `(tactic| walk_at "use1") => `(tactic| ((with_reducible refine' Toy.use_law_dice (fun _ _ _ _ => ?k0))))
local macro_rules | `(tactic| walk_at "use1") => `(tactic| ((with_reducible refine' Toy.use_law_roll ?q0 ?h0 ?h1 (fun _ _ => ?k0)); (case q0 => walk_at "pk"); (case h0 => walk_at "side"); (case h1 => walk_at "side")))
local macro_rules | `(tactic| walk_at "use1") => `(tactic| ((with_reducible refine' Toy.use_power ?h0 ?h1 ?k0); (case h0 => walk_at "side"); (case h1 => walk_at "side")))
local macro_rules | `(tactic| walk_at "use") => `(tactic| ((with_reducible refine' Toy.use_check_word ?h0 ?h1 (fun _ => ?k0) (fun _ _ => ?k1)); (case h0 => walk_at "side"); (case h1 => walk_at "side")))
local macro_rules | `(tactic| walk_at "use1") => `(tactic| ((with_reducible refine' Toy.use_field ?h0 ?h1 ?h2 ?h3 ?k0); (case h0 => walk_at "side"); (case h1 => walk_at "side"); (case h2 => walk_at "side"); (case h3 => walk_at "side")))
local macro_rules | `(tactic| walk_at "use") => `(tactic| ((with_reducible refine' Toy.use_with_field ?h0 ?h1 ?h2 ?h3 (fun _ => ?k0) (fun _ _ => ?k1)); (case h0 => walk_at "side"); (case h1 => walk_at "side"); (case h2 => walk_at "side"); (case h3 => walk_at "side")))
local macro_rules | `(tactic| walk_at "use1") => `(tactic| ((with_reducible refine' Toy.use_bits ?h0 ?h1 (fun _ => ?k0)); (case h0 => walk_at "side"); (case h1 => walk_at "side")))
local macro_rules | `(tactic| walk_at "use1") => `(tactic| ((with_reducible refine' Toy.use_of_bits ?q0 ?h0 ?k0); (case q0 => walk_at "pk"); (case h0 => walk_at "side")))
local macro_rules | `(tactic| walk_at "use1") => `(tactic| ((with_reducible refine' Toy.use_both ?h0 ?h1 ?k0); (case h0 => walk_at "side"); (case h1 => walk_at "side")))
local macro_rules | `(tactic| walk_at "use1") => `(tactic| ((with_reducible refine' Toy.use_either ?h0 ?h1 ?k0); (case h0 => walk_at "side"); (case h1 => walk_at "side")))
local macro_rules | `(tactic| walk_at "use1") => `(tactic| ((with_reducible refine' Toy.use_without ?h0 ?h1 ?k0); (case h0 => walk_at "side"); (case h1 => walk_at "side")))
local macro_rules | `(tactic| walk_at "use1") => `(tactic| ((with_reducible refine' Toy.use_turned_octets ?h0 ?h1 ?k0); (case h0 => walk_at "side"); (case h1 => walk_at "side")))
local macro_rules | `(tactic| walk_at "use") => `(tactic| ((with_reducible refine' Toy.use_Register___init__ ?q0 ?q1 ?q2 ?h0 ?h1 (fun _ => ?k0) (fun _ _ => ?k1)); (case q0 => walk_at "pk"); (case q1 => walk_at "pk"); (case q2 => walk_at "pk"); (case h0 => walk_at "side"); (case h1 => walk_at "side")))
local macro_rules | `(tactic| walk_at "use1") => `(tactic| ((with_reducible refine' Toy.use_Register_read ?q0 ?k0); (case q0 => walk_at "pk")))
local macro_rules | `(tactic| walk_at "use") => `(tactic| ((with_reducible refine' Toy.use_Register_write ?q0 ?h0 ?h1 ?h2 ?h3 ?h4 ?h5 (fun _ => ?k0) (fun _ _ => ?k1)); (case q0 => walk_at "pk"); (case h0 => walk_at "side"); (case h1 => walk_at "side"); (case h2 => walk_at "side"); (case h3 => walk_at "side"); (case h4 => walk_at "side"); (case h5 => walk_at "side")))
local macro_rules | `(tactic| walk_at "use") => `(tactic| ((with_reducible refine' Toy.use_Register_row_of ?q0 (fun _ => ?k0) (fun _ _ _ => ?k1)); (case q0 => walk_at "pk")))
local macro_rules | `(tactic| walk_at "use") => `(tactic| ((with_reducible refine' Toy.use_Register_get ?q0 ?h0 (fun _ => ?k0) (fun _ _ => ?k1)); (case q0 => walk_at "pk"); (case h0 => walk_at "side")))
local macro_rules | `(tactic| walk_at "use1") => `(tactic| ((with_reducible refine' Toy.use_Register_put ?q0 ?h0 ?h1 ?h2 ?k0); (case q0 => walk_at "pk"); (case h0 => walk_at "side"); (case h1 => walk_at "side"); (case h2 => walk_at "side")))
namespace Toy
open PySem L2
section
variable {P : Program} {w : World} {K : PySem.W.Frag} {mg : Str → Option Value} {base : Heap} {T : List (Addr × Str)} {C_Register C_BadWord C_BadPlace C_BadPlan C_NotDue C_Stuck C_BadBits C_BadText C_TooLarge g_told g_RULES : Addr}
def sg_law_rounds (T : List (Addr × Str)) (K : PySem.W.Frag) (C_Register C_BadWord C_BadPlace C_BadPlan C_NotDue C_Stuck C_BadBits C_BadText C_TooLarge g_told g_RULES : Addr) : Dh.SG :=
  fun zs L Q E => ∃ (a : Addr) (m : Nat) (ns : List Int) (R : List Dh.HP), zs = [.ref a, .int (m : Nat)] ∧ Dh.Ent L ((Dh.sq K a (ns.map .int)) :: R) ∧ (m ≤ 1000) ∧ (∀ (p : Addr) (ps : List Addr), Dh.Go T ((Dh.pt p (.lst (ps.map .ref))) :: (Dh.Seps (ps.map DiceAt)) :: R) fun H => Q (.ref p) H)
theorem use_law_rounds {L A0 : List Dh.HP} {Q : VK} {E : XK} {a : Addr} {m : Nat} {ns : List Int} (q0 : Dh.Pick L (Dh.sq K a (ns.map .int)) A0) (h0 : m ≤ 1000) (k0 : ∀ (p : Addr) (ps : List Addr), Dh.Go T ((Dh.pt p (.lst (ps.map .ref))) :: (Dh.Seps (ps.map DiceAt)) :: A0) fun H => Q (.ref p) H) : Dh.Go T L fun H => Dh.sOfN T 2 (sg_law_rounds T K C_Register C_BadWord C_BadPlace C_BadPlan C_NotDue C_Stuck C_BadBits C_BadText C_TooLarge g_told g_RULES) [.ref a, .int (m : Nat)] H Q E := Dh.g_sp rfl ⟨a, m, ns, A0, rfl, (Dh.ent_cons q0 Dh.ent_refl), h0, k0⟩
local macro_rules | `(tactic| walk_at "use1") => `(tactic| ((with_reducible refine' Toy.use_law_rounds ?q0 ?h0 (fun _ _ => ?k0)); (case q0 => walk_at "pk"); (case h0 => walk_at "side")))
theorem rounds_tail {c : Addr} {v0 v1 v2 : Option V} {xs : List Int} {R : List Dh.HP} {Q : VK} {te : TE} (hx : xs.length ≤ 1000) (k : ∀ (p : Addr) (ps : List Addr), Dh.Go T (Dh.pt p (.lst (ps.map .ref)) :: Dh.Seps (ps.map DiceAt) :: R) fun H => Q (.ref p) H)
    (ht : ∀ (σ : L2.St) (x : Int) (L : List Dh.HP) (Q : VK), σ[3]? = some (some (.int x)) → (∀ p a b c, Dh.Go T (Dh.pt p (.lst [.int a, .int b, .int c]) :: L) fun H => Q (.ref p) H) → Dh.Go T L fun H => te σ H Q) :
    Dh.Go T (Dh.pt c (.lst (xs.map .int)) :: R) fun H => Dh.LcG (Itl K c) (gName 3) tYes te [3] [v0, v1, v2, none] Q H := by
  refine Dh.g_lcL (xs := xs.map .int) (fun i acc L => ∃ ps : List Addr, ps.length = i ∧ acc = ps.map .ref ∧ Dh.Ent L (Dh.pt c (.lst (xs.map .int)) :: Dh.Seps (ps.map DiceAt) :: R)) ⟨[], rfl, rfl, Dh.ent_tail Dh.ent_seps0⟩ ?_ ?_ ?_
  · rintro i acc L ⟨ps, _, rfl, hE⟩
    exact hE.has Dh.pick_here
  · rintro D i x acc L hx' ⟨ps, hl, rfl, hE⟩
    rw [List.getElem?_map] at hx'
    obtain ⟨z, hz, rfl⟩ := Option.map_eq_some_iff.mp hx'
    have hi := (List.getElem?_eq_some_iff.mp hz).1
    refine Dh.g_turn ?_
    refine Dh.g_name ?_
    refine Dh.g_and rfl ?_
    refine Dh.g_tYes ?_
    refine Dh.g_ifT rfl ?_
    refine ht _ z _ _ rfl fun p a b c' => ?_
    refine Dh.g_lcAdd (Dh.pick_there Dh.pick_here) (by rw [List.length_map, PySem.sizeLine_eq]; omega) ⟨ps ++ [p], by rw [List.length_append, hl]; rfl, by rw [List.map_append]; rfl, ?_⟩
    rw [List.map_append]
    refine (Dh.ent_tail hE).trans ?_
    refine (Dh.ent_imp (P' := DiceAt p) fun h e => ⟨_, _, _, e⟩).trans ?_
    exact fun H s => s.swap.impT Dh.seps_snoc
  · rintro D acc L ⟨ps, _, rfl, hE⟩
    exact Dh.Go.ent (Dh.ent_tail (hE.trans (Dh.ent_drop Dh.ent_refl))) (k D ps)
set_option maxHeartbeats 8000000 in
theorem ok_law_rounds (Z : Txt K mg C_Register C_BadWord C_BadPlace C_BadPlan C_NotDue C_Stuck C_BadBits C_BadText C_TooLarge g_told g_RULES) (c_law_dice : Dh.CalX P w K mg base 1 "_law_dice" (Dh.sOfN T 1 (sg_law_dice T K C_Register C_BadWord C_BadPlace C_BadPlan C_NotDue C_Stuck C_BadBits C_BadText C_TooLarge g_told g_RULES))) {f : Addr} {fd : FuncData} {cdv : Value} (F : Dh.FunC K "_law_rounds" "_law_rounds" s_law_rounds f fd cdv) :
    FnOk P w K mg base (L2.CX P w) 2 f fd ["script", "most"] (Dh.sOfN T 2 (sg_law_rounds T K C_Register C_BadWord C_BadPlace C_BadPlan C_NotDue C_Stuck C_BadBits C_BadText C_TooLarge g_told g_RULES)) := by
  refine Dh.fnX (k := 1) F sc_law_rounds rfl (fun A outer s H0 L vs Q E hr hl h => ?_)
  refine ⟨_, (pss_cons (ps_set (i := 2) sc_law_rounds.nd rfl (by first | exact Or.inl rfl | exact Or.inr rfl) (pe_slice (Dh.slSeq (K := K) rfl) (pv 0) po_none (po_some (pv 1))))
    (pss_cons (ps_if (pt_cmpR (Dh.oEq (K := K) rfl hr.units) (pv 2) (pe_lst pa_nil) (nomark _))
    (pss_one (ps_set (i := 2) sc_law_rounds.nd rfl (by first | exact Or.inl rfl | exact Or.inr rfl) (pe_lst (pa_cons pe_int pa_nil))))
    pss_nil)
    (pss_one (ps_ret (pe_lc (own := [("cell", 3)]) (g := (gName 3)) (tt := tYes) rfl sc_law_rounds.nd (Dh.piSeq (K := K) rfl (pv 2)) (blkOk_by (own := [("cell", 3)]) (N := N_law_rounds) (by kernel_rfl)) (fun _ _ _ _ _ => (pg_name (i := 3) sc_law_rounds.nd rfl (by first | exact Or.inl rfl | exact Or.inr rfl))) (fun _ _ _ _ _ => pts_nil) (fun _ _ _ _ _ => (Dh.pe_cal c_law_dice hr (by decide) passL rfl (pa_cons (pv 3) pa_nil)))))))), ?_⟩
  try dsimp only [L2.cxOf, L2.Cx.blk, LamX.lamCx, L2.Cx.tr]
  obtain ⟨a, m, ns, R, rfl, hE, h0, k0⟩ := h
  refine Dh.Go.ent hE ?_
  walk_at "vcs"
  · rename_i c1 c2 hc c3
    rw [show [V.int 0] = [(0 : Int)].map V.int from rfl]
    refine' Dh.Go.ent ?e (rounds_tail (xs := [0]) (c := c3) (by decide) k0 ?ht)
    (case e => walk_at "ent")
    case ht =>
      intro σ x L Q hσ g
      refine Dh.g_call (Dh.g_cons (Dh.g_var hσ (Dh.g_nil ?_)))
      refine use_law_dice ?_
      exact g
  · rename_i c1 c2 hc
    refine' Dh.Go.ent ?e2 (rounds_tail (xs := ns.take m) (c := c1) (by rw [List.length_take]; omega) k0 ?ht2)
    (case e2 => walk_at "ent")
    case ht2 =>
      intro σ x L Q hσ g
      refine Dh.g_call (Dh.g_cons (Dh.g_var hσ (Dh.g_nil ?_)))
      refine use_law_dice ?_
      exact g
end
end Toy
end

section
local macro_rules | `(tactic| walk_at "pk") => `(tactic| (with_reducible first | exact Dh.pick_here | (refine' Dh.pick_there ?p; (case p => walk_at "pk"))))
local macro_rules | `(tactic| walk_at "ent") => `(tactic| first | (with_reducible exact Dh.ent_refl) | (with_reducible exact Dh.ent_nil) | (refine' Dh.ent_cons ?q0 ?k; (case q0 => walk_at "pk"); (case k => walk_at "ent")) | (refine' Dh.ent_drop ?k; (case k => walk_at "ent")))
local macro_rules | `(tactic| walk_at "side") => `(tactic| first | (with_reducible assumption) | omega | decide | (exact Or.inl rfl) | (exact Or.inr rfl) | (exact Dh.log2_ok (by omega)) | (simp only [L2.CMul, L2.CDiv, L2.CDivN]; omega) | (unfold L2.CPow; decide) | (simp only [List.length_cons, List.length_nil, List.length_append, List.length_map, List.length_range, List.length_replicate, List.length_set, List.length_take, List.length_drop, PySem.sizeLine_eq] <;> omega))
local macro_rules | `(tactic| walk_at "dvp") => `(tactic| (with_reducible first | exact Dh.DV.int | exact Dh.DV.str | exact Dh.DV.bl | exact Dh.DV.non | exact Dh.DVs.nil | (refine' Dh.Pick.dvs ?a (by assumption); (case a => walk_at "pk")) | (refine' Dh.Pick.dv ?a (by assumption); (case a => walk_at "pk")) | (refine' Dh.DVs.cons ?a ?b; (case a => walk_at "dvp"); (case b => walk_at "dvp")) | (refine' Dh.DVs.app ?a ?b; (case a => walk_at "dvp"); (case b => walk_at "dvp")) | (refine' Dh.Pick.tup ?a (by assumption) ?b; (case a => walk_at "pk"); (case b => walk_at "dvp")) | (refine' Dh.DVs.take _ ?a; (case a => walk_at "dvp")) | (refine' Dh.DVs.drop _ ?a; (case a => walk_at "dvp")) | (refine' Dh.DVs.set _ ?a ?b; (case a => walk_at "dvp"); (case b => walk_at "dvp"))))
local macro_rules | `(tactic| walk_at "ixs") => `(tactic| first | assumption | omega | (simp only [List.length_set, List.length_map, List.length_cons, List.length_nil, List.length_append, List.length_replicate] <;> first | assumption | omega))
local macro_rules | `(tactic| walk_at "lk") => `(tactic| first | rfl | assumption | (exact Dh.ixN_lt (by walk_at "ixs")) | (exact Dh.atI_lt (by assumption)) | (exact Dh.atI_map (by assumption))  | with_reducible exact Toy.lk_Register_wide | with_reducible exact Toy.lk_Register_fields | with_reducible exact Toy.lk_Register_word | with_reducible exact Toy.lk_Register_written | with_reducible exact Toy.lk_Register_pulses | with_reducible exact Toy.no_Register_init | with_reducible exact Toy.no_Register_read | with_reducible exact Toy.no_Register_write | with_reducible exact Toy.no_Register_row_of | with_reducible exact Toy.no_Register_get | with_reducible exact Toy.no_Register_put)
local macro_rules | `(tactic| walk_at "kt") => `(tactic| assumption)
local macro_rules | `(tactic| walk_at "pf") => `(tactic| first  | with_reducible exact Toy.pf_Register_wide | with_reducible exact Toy.pf_Register_fields | with_reducible exact Toy.pf_Register_word | with_reducible exact Toy.pf_Register_written | with_reducible exact Toy.pf_Register_pulses | with_reducible exact Toy.gr_Register_wide | with_reducible exact Toy.gr_Register_fields | with_reducible exact Toy.gr_Register_word | with_reducible exact Toy.gr_Register_written | with_reducible exact Toy.gr_Register_pulses | rfl)
local macro_rules | `(tactic| walk_at "ln") => `(tactic| first  | with_reducible exact Toy.ln_Register | decide | (simp only [List.length_cons, List.length_nil] <;> omega))
local macro_rules | `(tactic| walk_at "hasm") => `(tactic| first | (refine' Toy.hasM_RegAt ?q0 ?q1; (case q0 => walk_at "pk"); (case q1 => (intros; walk_at "lk"))) | (refine' Dh.hasM_ob ?q0 ?q1; (case q0 => walk_at "pk"); (case q1 => walk_at "lk")))
local macro_rules | `(tactic| walk_at "vcp0") => `(tactic| first | ((with_reducible refine' Dh.g_seq ?k)) | ((with_reducible refine' Dh.g_next ?k)) | ((with_reducible refine' Dh.g_nonA ?k)) | ((with_reducible refine' Dh.g_var ?q0 ?k); (case q0 => rfl)) | ((with_reducible refine' Dh.g_c ?k)) | ((with_reducible refine' Dh.g_op ?k)) | ((with_reducible refine' Dh.g_asg ?k)) | ((with_reducible refine' Dh.g_name ?k)) | ((with_reducible refine' Dh.g_ifS ?k)) | ((with_reducible refine' Dh.g_test ?k)) | ((with_reducible refine' Dh.g_isB ?k)) | ((with_reducible refine' Dh.g_B ?k)) | ((with_reducible refine' Dh.g_ret ?k)) | ((with_reducible refine' Dh.g_retN ?k)) | ((with_reducible refine' Dh.g_drop ?k)) | ((with_reducible refine' Dh.g_brk ?k)) | ((with_reducible refine' Dh.g_cont ?k)) | ((with_reducible refine' Dh.g_un ?k)) | ((with_reducible refine' Dh.g_I0 ?k)) | ((with_reducible refine' Dh.g_addI ?k)) | ((with_reducible refine' Dh.g_addB ?k)) | ((with_reducible refine' Dh.g_addS ?q0 ?k); (case q0 => walk_at "side")) | ((with_reducible refine' Dh.g_addM ?q0 ?q1 ?q2 ?k); (case q0 => walk_at "pk"); (case q1 => walk_at "pk"); (case q2 => walk_at "side"); intro _) | ((with_reducible refine' Dh.g_addL ?q0 ?q1 ?q2 ?k); (case q0 => walk_at "pk"); (case q1 => walk_at "pk"); (case q2 => walk_at "side"); intro _))
local macro_rules | `(tactic| walk_at "vcp1") => `(tactic| first | ((with_reducible refine' Dh.g_I ?q0 ?k); (case q0 => walk_at "side")) | ((with_reducible refine' Dh.g_mulI ?q0 ?k); (case q0 => walk_at "side")) | ((with_reducible refine' Dh.g_U ?k)) | ((with_reducible refine' Dh.g_eqS ?q0 ?k); (case q0 => rfl)) | ((with_reducible refine' Dh.g_neS ?q0 ?k); (case q0 => rfl)) | ((with_reducible refine' Dh.g_eqLL ?q0 ?q1 ?k); (case q0 => walk_at "pk"); (case q1 => walk_at "pk")) | ((with_reducible refine' Dh.g_neLL ?q0 ?q1 ?k); (case q0 => walk_at "pk"); (case q1 => walk_at "pk")) | ((with_reducible refine' Dh.g_eqL0 ?q0 ?q1 ?k); (case q0 => walk_at "pk"); (case q1 => walk_at "pk")) | ((with_reducible refine' Dh.g_neL0 ?q0 ?q1 ?k); (case q0 => walk_at "pk"); (case q1 => walk_at "pk")) | ((with_reducible refine' Dh.g_neT0 ?q0 ?q1 ?q2 ?k); (case q0 => walk_at "pk"); (case q1 => walk_at "pk"); (case q2 => walk_at "pk")) | ((with_reducible refine' Dh.g_neP ?q0 ?q1 ?k); (case q0 => walk_at "pk"); (case q1 => walk_at "pk")) | ((with_reducible refine' Dh.g_inI ?q0 ?k); (case q0 => walk_at "pk")) | ((with_reducible refine' Dh.g_isN ?k)) | ((with_reducible refine' Dh.g_notN ?k)) | ((with_reducible refine' Dh.g_ixL ?q0 ?q1 ?k); (case q0 => walk_at "pk"); (case q1 => walk_at "lk")) | ((with_reducible refine' Dh.g_ixT ?q0 ?q1 ?k); (case q0 => walk_at "pk"); (case q1 => walk_at "lk")) | ((with_reducible refine' Dh.g_sl ?k)) | ((with_reducible refine' Dh.g_noPart ?k)) | ((with_reducible refine' Dh.g_part ?k)) | ((with_reducible refine' Dh.g_isSomeInt ?k)) | ((with_reducible refine' Dh.g_slTk ?q0 ?k); (case q0 => walk_at "pk"); intro _) | ((with_reducible refine' Dh.g_slDr ?q0 ?k); (case q0 => walk_at "pk"); intro _) | ((with_reducible refine' Dh.g_slL ?q0 ?k); (case q0 => walk_at "pk"); intro _) | ((with_reducible refine' Dh.g_slQTk ?q0 ?k); (case q0 => walk_at "pk"); intro _))
local macro_rules | `(tactic| walk_at "vcp2") => `(tactic| first | ((with_reducible refine' Dh.g_slQ ?q0 ?k); (case q0 => walk_at "pk"); intro _) | ((with_reducible refine' Dh.g_fldE ?k)) | ((with_reducible refine' Dh.g_fld ?q0 ?q1 ?k); (case q0 => walk_at "pk"); (case q1 => walk_at "lk")) | ((with_reducible refine' Dh.g_tup ?k)) | ((with_reducible refine' Dh.g_lst ?k)) | ((with_reducible refine' Dh.g_newT ?q0 ?k); (case q0 => walk_at "side"); intro _) | ((with_reducible refine' Dh.g_newL ?q0 ?k); (case q0 => walk_at "side"); intro _) | ((with_reducible refine' Dh.g_nil ?k)) | ((with_reducible refine' Dh.g_cons ?k)) | ((with_reducible refine' Dh.g_call ?k)) | ((with_reducible refine' Dh.g_methE ?k)) | ((with_reducible refine' Dh.g_meth ?q0 ?k); (case q0 => walk_at "hasm")) | ((with_reducible refine' Dh.g_make ?k)) | ((with_reducible refine' Dh.g_made ?k); intro _) | ((with_reducible refine' Dh.g_cb ?k)) | ((with_reducible refine' Dh.g_int ?k)) | ((with_reducible refine' Dh.g_intB ?k)) | ((with_reducible refine' Dh.g_abs ?k)) | ((with_reducible refine' Dh.g_max2 ?k)) | ((with_reducible refine' Dh.g_min2 ?k)) | ((with_reducible refine' Dh.g_strI ?q0 ?k); (case q0 => walk_at "side")) | ((with_reducible refine' Dh.g_lenL ?q0 ?k); (case q0 => walk_at "pk")) | ((with_reducible refine' Dh.g_lenT ?q0 ?k); (case q0 => walk_at "pk")) | ((with_reducible refine' Dh.g_lenD ?q0 ?k); (case q0 => walk_at "pk")))
local macro_rules | `(tactic| walk_at "vcp3") => `(tactic| first | ((with_reducible refine' Dh.g_listL ?q0 ?k); (case q0 => walk_at "pk"); intro _) | ((with_reducible refine' Dh.g_listT ?q0 ?k); (case q0 => walk_at "pk"); intro _) | ((with_reducible refine' Dh.g_tupL ?q0 ?k); (case q0 => walk_at "pk"); intro _) | ((with_reducible refine' Dh.g_tupT ?q0 ?k); (case q0 => walk_at "pk")) | ((with_reducible refine' Dh.g_pop0 ?q0 ?k); (case q0 => walk_at "pk")) | ((with_reducible refine' Dh.g_bm ?k)) | ((with_reducible refine' Dh.g_bm0 ?k)) | ((with_reducible refine' Dh.g_tyL ?q0 ?k); (case q0 => walk_at "pk")) | ((with_reducible refine' Dh.g_append ?q0 ?q1 ?k); (case q0 => walk_at "pk"); (case q1 => walk_at "side")) | ((with_reducible refine' Dh.g_rep ?q0 ?q1 ?q2 ?q3 ?k); (case q0 => walk_at "pk"); (case q1 => walk_at "side"); (case q2 => walk_at "side"); (case q3 => walk_at "side"); intro _) | ((with_reducible refine' Dh.g_not ?k)) | ((with_reducible refine' Dh.g_tand ?k)) | ((with_reducible refine' Dh.g_tor ?k)) | ((with_reducible refine' Dh.g_andV ?k)) | ((with_reducible refine' Dh.g_orV ?k)) | ((with_reducible refine' Dh.g_notV ?k)) | ((with_reducible refine' Dh.g_ifE ?k)) | ((with_reducible refine' Dh.g_chain ?k)) | ((with_reducible refine' Dh.g_tru ?k)) | ((with_reducible refine' Dh.g_truB ?k)) | ((with_reducible refine' Dh.g_truI ?k)) | ((with_reducible refine' Dh.g_truN ?k)) | ((with_reducible refine' Dh.g_truL ?q0 ?k); (case q0 => walk_at "pk")) | ((with_reducible refine' Dh.g_gsub ?k)))
local macro_rules | `(tactic| walk_at "vcp4") => `(tactic| first | ((with_reducible refine' Dh.g_setM ?q0 ?q1 ?k); (case q0 => walk_at "pk"); (case q1 => walk_at "lk")) | ((with_reducible refine' Dh.g_setL ?q0 ?q1 ?k); (case q0 => walk_at "pk"); (case q1 => walk_at "lk")) | ((with_reducible refine' Dh.g_gtup ?q0 ?q1 ?k); (case q0 => walk_at "pk"); (case q1 => rfl)) | ((with_reducible refine' Dh.g_gnil ?k)) | ((with_reducible refine' Dh.g_gcons ?k)) | ((with_reducible refine' Dh.g_par ?k)) | ((with_reducible refine' Dh.g_par2 ?k)) | ((with_reducible refine' Dh.g_par3 ?k)) | ((with_reducible refine' Dh.g_par3b ?k)) | ((with_reducible refine' Dh.g_listRg ?k)) | ((with_reducible refine' Dh.g_rg1E ?k)) | ((with_reducible refine' Dh.g_rg1 ?k)) | ((with_reducible refine' Dh.g_rgN ?q0 ?k); (case q0 => walk_at "side"); intro _) | ((with_reducible refine' Dh.g_rgL ?q0 ?k); (case q0 => walk_at "side"); intro _) | ((with_reducible refine' Dh.g_dinE ?k)) | ((with_reducible refine' Dh.g_dinI ?q0 ?k); (case q0 => walk_at "pk")) | ((with_reducible refine' Dh.g_dnotinE ?k)) | ((with_reducible refine' Dh.g_dnotinI ?q0 ?k); (case q0 => walk_at "pk")) | ((with_reducible refine' Dh.g_dgetE ?k)) | ((with_reducible refine' Dh.g_dgetI ?q0 ?q1 ?k); (case q0 => walk_at "pk"); (case q1 => walk_at "lk")) | ((with_reducible refine' Dh.g_dputE ?k)) | ((with_reducible refine' Dh.g_dputI ?q0 ?q1 ?k); (case q0 => walk_at "pk"); (case q1 => walk_at "side")) | ((with_reducible refine' Dh.g_dpopE ?k)) | ((with_reducible refine' Dh.g_dpopA ?q0 ?k); (case q0 => walk_at "pk")))
local macro_rules | `(tactic| walk_at "vcp5") => `(tactic| first | ((with_reducible refine' Dh.g_dpopB ?q0 ?q1 ?k); (case q0 => walk_at "pk"); (case q1 => walk_at "lk")) | ((with_reducible refine' Dh.g_dnew ?k); intro _) | ((with_reducible refine' Dh.g_ipMul ?q0 ?k); (case q0 => walk_at "side")) | ((with_reducible refine' Dh.g_sfldE ?k)) | ((with_reducible refine' Dh.g_sfld ?q0 ?q1 ?q2 ?k); (case q0 => walk_at "pk"); (case q1 => walk_at "pf"); (case q2 => walk_at "ln")) | ((with_reducible refine' Dh.g_augE ?k)) | ((with_reducible refine' Dh.g_augF ?q0 ?q1 ?k); (case q0 => walk_at "pk"); (case q1 => walk_at "lk")) | ((with_reducible refine' Dh.g_augV ?q0 ?k); (case q0 => rfl)) | ((with_reducible refine' Dh.g_ipI ?k)) | ((with_reducible refine' Dh.g_rAdd ?k)) | ((with_reducible refine' Dh.g_rSub ?k)) | ((with_reducible refine' Dh.g_for ?k)) | ((with_reducible refine' Dh.g_iRng1 ?k)) | ((with_reducible refine' Dh.g_iRng2 ?k)) | ((with_reducible refine' Dh.g_rng1 ?q0 ?q1 ?k); (case q0 => walk_at "side"); (case q1 => walk_at "side")) | ((with_reducible refine' Dh.g_rng2 ?q0 ?k); (case q0 => walk_at "side")) | ((with_reducible refine' Dh.g_iSeqE ?k)) | ((with_reducible refine' Dh.g_iSeqL ?q0 ?k); (case q0 => walk_at "pk")) | ((with_reducible refine' Dh.g_iSeqT ?q0 ?k); (case q0 => walk_at "pk")) | ((with_reducible refine' Dh.g_inK ?q0 ?k); (case q0 => walk_at "kt")) | ((with_reducible refine' Dh.g_notInK ?q0 ?k); (case q0 => walk_at "kt")) | ((with_reducible refine' Dh.g_isiII ?k)) | ((with_reducible refine' Dh.g_isiIB ?k)) | ((with_reducible refine' Dh.g_dinS ?q0 ?k); (case q0 => walk_at "pk")))
local macro_rules | `(tactic| walk_at "vcp6") => `(tactic| first | ((with_reducible refine' Dh.g_dnotinS ?q0 ?k); (case q0 => walk_at "pk")) | ((with_reducible refine' Dh.g_dgetS ?q0 ?q1 ?k); (case q0 => walk_at "pk"); (case q1 => walk_at "lk")) | ((with_reducible refine' Dh.g_dputS ?q0 ?q1 ?k); (case q0 => walk_at "pk"); (case q1 => walk_at "side")) | ((with_reducible refine' Dh.g_dpopS ?q0 ?q1 ?k); (case q0 => walk_at "pk"); (case q1 => walk_at "lk")) | ((with_reducible refine' Dh.g_iRevE ?k)) | ((with_reducible refine' Dh.g_iRevL ?q0 ?k); (case q0 => walk_at "pk")) | ((with_reducible refine' Dh.g_iRevT ?q0 ?k); (case q0 => walk_at "pk")) | ((with_reducible refine' Dh.g_iZipE ?k)) | ((with_reducible refine' Dh.g_iZipL ?q0 ?q1 ?k); (case q0 => walk_at "pk"); (case q1 => walk_at "pk")) | ((with_reducible refine' Dh.g_iZipT ?q0 ?q1 ?k); (case q0 => walk_at "pk"); (case q1 => walk_at "pk")) | ((with_reducible refine' Dh.g_iEnumE ?k)) | ((with_reducible refine' Dh.g_iEnum ?q0 ?k); (case q0 => walk_at "pk")) | ((with_reducible refine' Dh.g_dcE ?k)) | ((with_reducible refine' Dh.g_dturn ?k)) | ((with_reducible refine' Dh.g_sum ?q0 ?k); (case q0 => walk_at "pk")) | ((with_reducible refine' Dh.g_pop ?q0 ?q1 ?k); (case q0 => walk_at "pk"); (case q1 => walk_at "lk")) | ((with_reducible refine' Dh.g_wbody ?k)) | ((with_reducible refine' Dh.g_lcE ?k)) | ((with_reducible refine' Dh.g_turn ?k)) | ((with_reducible refine' Dh.g_tYes ?k)) | ((with_reducible refine' Dh.g_rs ?k)) | ((with_reducible refine' Dh.g_rsW ?k)) | ((with_reducible refine' Dh.g_told ?k)) | ((with_reducible refine' Dh.g_ifT ?q0 ?k); (case q0 => rfl)))
local macro_rules | `(tactic| walk_at "vcp7") => `(tactic| first | ((with_reducible refine' Dh.g_ifF ?q0 ?k); (case q0 => rfl)) | ((with_reducible refine' Dh.g_and ?q0 ?k); (case q0 => rfl)) | ((with_reducible refine' Dh.g_turn ?k)))
local macro_rules | `(tactic| walk_at "vc1") => `(tactic| first | walk_at "vcp0" | walk_at "vcp1" | walk_at "vcp2" | walk_at "vcp3" | walk_at "vcp4" | walk_at "vcp5" | walk_at "vcp6" | walk_at "vcp7" | walk_at "use1" | walk_at "told1")
local macro_rules | `(tactic| walk_at "vc") => `(tactic| repeat walk_at "vc1")
local macro_rules | `(tactic| walk_at "spl") => `(tactic| first | ((with_reducible refine Dh.g_ifD ?_ ?_) <;> intro _) | ((with_reducible refine Dh.g_ifN ?_ ?_) <;> intro _) | ((with_reducible refine Dh.g_if ?_ ?_) <;> intro _))
local macro_rules | `(tactic| walk_at "vcs") => `(tactic| repeat' (first | walk_at "vc1" | walk_at "spl"))
local macro_rules | `(tactic| walk_at "told1") => `(tactic| first | ((with_reducible refine' Dh.g_toldY (Toy.Txt.x_BadWord_BadWord ?z) ?k); (case z => assumption)))
local macro_rules | `(tactic| walk_at "use1") => `(tactic| ((with_reducible refine' Toy.use_law_dice (fun _ _ _ _ => ?k0))))
local macro_rules | `(tactic| walk_at "use1") => `(tactic| ((with_reducible refine' Toy.use_law_roll ?q0 ?h0 ?h1 (fun _ _ => ?k0)); (case q0 => walk_at "pk"); (case h0 => walk_at "side"); (case h1 => walk_at "side")))
local macro_rules | `(tactic| walk_at "use1") => `(tactic| ((with_reducible refine' Toy.use_power ?h0 ?h1 ?k0); (case h0 => walk_at "side"); (case h1 => walk_at "side")))
local macro_rules | `(tactic| walk_at "use") => `(tactic| ((with_reducible refine' Toy.use_check_word ?h0 ?h1 (fun _ => ?k0) (fun _ _ => ?k1)); (case h0 => walk_at "side"); (case h1 => walk_at "side")))
local macro_rules | `(tactic| walk_at "use1") => `(tactic| ((with_reducible refine' Toy.use_field ?h0 ?h1 ?h2 ?h3 ?k0); (case h0 => walk_at "side"); (case h1 => walk_at "side"); (case h2 => walk_at "side"); (case h3 => walk_at "side")))
local macro_rules | `(tactic| walk_at "use") => `(tactic| ((with_reducible refine' Toy.use_with_field ?h0 ?h1 ?h2 ?h3 (fun _ => ?k0) (fun _ _ => ?k1)); (case h0 => walk_at "side"); (case h1 => walk_at "side"); (case h2 => walk_at "side"); (case h3 => walk_at "side")))
local macro_rules | `(tactic| walk_at "use1") => `(tactic| ((with_reducible refine' Toy.use_bits ?h0 ?h1 (fun _ => ?k0)); (case h0 => walk_at "side"); (case h1 => walk_at "side")))
local macro_rules | `(tactic| walk_at "use1") => `(tactic| ((with_reducible refine' Toy.use_of_bits ?q0 ?h0 ?k0); (case q0 => walk_at "pk"); (case h0 => walk_at "side")))
local macro_rules | `(tactic| walk_at "use1") => `(tactic| ((with_reducible refine' Toy.use_both ?h0 ?h1 ?k0); (case h0 => walk_at "side"); (case h1 => walk_at "side")))
local macro_rules | `(tactic| walk_at "use1") => `(tactic| ((with_reducible refine' Toy.use_either ?h0 ?h1 ?k0); (case h0 => walk_at "side"); (case h1 => walk_at "side")))
local macro_rules | `(tactic| walk_at "use1") => `(tactic| ((with_reducible refine' Toy.use_without ?h0 ?h1 ?k0); (case h0 => walk_at "side"); (case h1 => walk_at "side")))
local macro_rules | `(tactic| walk_at "use1") => `(tactic| ((with_reducible refine' Toy.use_turned_octets ?h0 ?h1 ?k0); (case h0 => walk_at "side"); (case h1 => walk_at "side")))
local macro_rules | `(tactic| walk_at "use") => `(tactic| ((with_reducible refine' Toy.use_Register___init__ ?q0 ?q1 ?q2 ?h0 ?h1 (fun _ => ?k0) (fun _ _ => ?k1)); (case q0 => walk_at "pk"); (case q1 => walk_at "pk"); (case q2 => walk_at "pk"); (case h0 => walk_at "side"); (case h1 => walk_at "side")))
local macro_rules | `(tactic| walk_at "use1") => `(tactic| ((with_reducible refine' Toy.use_Register_read ?q0 ?k0); (case q0 => walk_at "pk")))
local macro_rules | `(tactic| walk_at "use") => `(tactic| ((with_reducible refine' Toy.use_Register_write ?q0 ?h0 ?h1 ?h2 ?h3 ?h4 ?h5 (fun _ => ?k0) (fun _ _ => ?k1)); (case q0 => walk_at "pk"); (case h0 => walk_at "side"); (case h1 => walk_at "side"); (case h2 => walk_at "side"); (case h3 => walk_at "side"); (case h4 => walk_at "side"); (case h5 => walk_at "side")))
local macro_rules | `(tactic| walk_at "use") => `(tactic| ((with_reducible refine' Toy.use_Register_row_of ?q0 (fun _ => ?k0) (fun _ _ _ => ?k1)); (case q0 => walk_at "pk")))
local macro_rules | `(tactic| walk_at "use") => `(tactic| ((with_reducible refine' Toy.use_Register_get ?q0 ?h0 (fun _ => ?k0) (fun _ _ => ?k1)); (case q0 => walk_at "pk"); (case h0 => walk_at "side")))
local macro_rules | `(tactic| walk_at "use1") => `(tactic| ((with_reducible refine' Toy.use_Register_put ?q0 ?h0 ?h1 ?h2 ?k0); (case q0 => walk_at "pk"); (case h0 => walk_at "side"); (case h1 => walk_at "side"); (case h2 => walk_at "side")))
local macro_rules | `(tactic| walk_at "use1") => `(tactic| ((with_reducible refine' Toy.use_law_rounds ?q0 ?h0 (fun _ _ => ?k0)); (case q0 => walk_at "pk"); (case h0 => walk_at "side")))
namespace Toy
open PySem L2
section
variable {P : Program} {w : World} {K : PySem.W.Frag} {mg : Str → Option Value} {base : Heap} {T : List (Addr × Str)} {C_Register C_BadWord C_BadPlace C_BadPlan C_NotDue C_Stuck C_BadBits C_BadText C_TooLarge g_told g_RULES : Addr}
theorem bitsL_succ {w : Int} {n : Nat} : bitsL w (n + 1) = bitsL w n ++ [fld w n 1] := by
  unfold bitsL
  rw [List.range_succ, List.map_append]
  rfl
theorem half_pw {w : Int} {i : Nat} : w / pw (i : Int) / 2 = w / pw ((i + 1 : Nat) : Int) := by
  rw [pw_succ, Int.ediv_ediv_of_nonneg (Int.le_of_lt (pw_pos _))]
def sg_law_bits (T : List (Addr × Str)) (K : PySem.W.Frag) (C_Register C_BadWord C_BadPlace C_BadPlan C_NotDue C_Stuck C_BadBits C_BadText C_TooLarge g_told g_RULES : Addr) : Dh.SG :=
  fun zs L Q E => ∃ (w : Int) (R : List Dh.HP), zs = [.int w] ∧ Dh.Ent L (R) ∧ (∀ (p : Addr), Dh.Go T ((Dh.pt p (.lst ((bitsL w 8).map .int))) :: R) fun H => Q (.ref p) H)
theorem use_law_bits {L  : List Dh.HP} {Q : VK} {E : XK} {w : Int}   (k0 : ∀ (p : Addr), Dh.Go T ((Dh.pt p (.lst ((bitsL w 8).map .int))) :: L) fun H => Q (.ref p) H) : Dh.Go T L fun H => Dh.sOfN T 1 (sg_law_bits T K C_Register C_BadWord C_BadPlace C_BadPlan C_NotDue C_Stuck C_BadBits C_BadText C_TooLarge g_told g_RULES) [.int w] H Q E := Dh.g_sp rfl ⟨w, L, rfl, Dh.ent_refl, k0⟩
local macro_rules | `(tactic| walk_at "use1") => `(tactic| ((with_reducible refine' Toy.use_law_bits (fun _ => ?k0))))
set_option maxHeartbeats 8000000 in
theorem ok_law_bits (Z : Txt K mg C_Register C_BadWord C_BadPlace C_BadPlan C_NotDue C_Stuck C_BadBits C_BadText C_TooLarge g_told g_RULES)  {f : Addr} {fd : FuncData} {cdv : Value} (F : Dh.FunC K "_law_bits" "_law_bits" s_law_bits f fd cdv) :
    FnOk P w K mg base (L2.CX P w) 1 f fd ["word"] (Dh.sOfN T 1 (sg_law_bits T K C_Register C_BadWord C_BadPlace C_BadPlan C_NotDue C_Stuck C_BadBits C_BadText C_TooLarge g_told g_RULES)) := by
  refine Dh.fnX (k := 0) F sc_law_bits rfl (fun A outer s H0 L vs Q E hr hl h => ?_)
  refine ⟨_, (pss_cons (ps_set (i := 1) sc_law_bits.nd rfl (by first | exact Or.inl rfl | exact Or.inr rfl) (pe_lst pa_nil))
    (pss_cons (ps_for (passes_of rfl) rfl (pi_range1 rfl Z.b_range (pa_cons pe_int pa_nil)) (pg_name (i := 2) sc_law_bits.nd rfl (by first | exact Or.inl rfl | exact Or.inr rfl))
    (pss_cons (ps_set (i := 1) sc_law_bits.nd rfl (by first | exact Or.inl rfl | exact Or.inr rfl) (pe_op (Dh.oAdd (K := K) rfl) (pv 1) (pe_lst (pa_cons (pe_op op_mod (pv 0) pe_int) pa_nil))))
    (pss_one (ps_set (i := 0) sc_law_bits.nd rfl (by first | exact Or.inl rfl | exact Or.inr rfl) (pe_op op_fdiv (pv 0) pe_int)))))
    (pss_one (ps_ret (pv 1))))), ?_⟩
  try dsimp only [L2.cxOf, L2.Cx.blk, LamX.lamCx, L2.Cx.tr]
  obtain ⟨w, R, rfl, hE, k0⟩ := h
  refine Dh.Go.ent hE ?_
  walk_at "vc"
  rename_i q
  refine Dh.g_forR (n := 8) (lo := 0) (fun i σ L => ∃ (q : Addr) (v : Option V), σ = [some (.int (w / pw (i : Int))), some (.ref q), v] ∧ Dh.Ent L (Dh.pt q (.lst ((bitsL w i).map .int)) :: R)) ⟨q, none, by rw [show pw ((0 : Nat) : Int) = 1 from rfl, Int.ediv_one]; rfl, Dh.ent_refl⟩ ?_ ?_
  · rintro i σ L hi ⟨q, v, rfl, hE⟩
    refine Dh.Go.ent hE ?_
    have hl : (bitsL w i).length = i := bitsL_len
    walk_at "vc"
    rw [half_pw]
    refine Dh.SI.in ⟨_, _, rfl, ?_⟩
    rw [show (bitsL w (i + 1)).map V.int = (bitsL w i).map V.int ++ [V.int (w / pw (i : Int) % 2)] by rw [bitsL_succ, List.map_append]; rfl]
    walk_at "ent"
  · rintro σ L ⟨q, v, rfl, hE⟩
    refine Dh.Go.ent hE ?_
    walk_at "vc"
    exact k0 q
def sg_law_two (T : List (Addr × Str)) (K : PySem.W.Frag) (C_Register C_BadWord C_BadPlace C_BadPlan C_NotDue C_Stuck C_BadBits C_BadText C_TooLarge g_told g_RULES : Addr) : Dh.SG :=
  fun zs L Q E => ∃ (n : Int) (R : List Dh.HP), zs = [.int n] ∧ Dh.Ent L (R) ∧ (0 ≤ n) ∧ (n ≤ 40) ∧ (Dh.Go T (R) fun H => Q (.int (pw n)) H)
theorem use_law_two {L  : List Dh.HP} {Q : VK} {E : XK} {n : Int}  (h0 : 0 ≤ n) (h1 : n ≤ 40) (k0 : Dh.Go T (L) fun H => Q (.int (pw n)) H) : Dh.Go T L fun H => Dh.sOfN T 1 (sg_law_two T K C_Register C_BadWord C_BadPlace C_BadPlan C_NotDue C_Stuck C_BadBits C_BadText C_TooLarge g_told g_RULES) [.int n] H Q E := Dh.g_sp rfl ⟨n, L, rfl, Dh.ent_refl, h0, h1, k0⟩
local macro_rules | `(tactic| walk_at "use1") => `(tactic| ((with_reducible refine' Toy.use_law_two ?h0 ?h1 ?k0); (case h0 => walk_at "side"); (case h1 => walk_at "side")))
set_option maxHeartbeats 8000000 in
theorem ok_law_two (Z : Txt K mg C_Register C_BadWord C_BadPlace C_BadPlan C_NotDue C_Stuck C_BadBits C_BadText C_TooLarge g_told g_RULES)  {f : Addr} {fd : FuncData} {cdv : Value} (F : Dh.FunC K "_law_two" "_law_two" s_law_two f fd cdv) :
    FnOk P w K mg base (L2.CX P w) 1 f fd ["k"] (Dh.sOfN T 1 (sg_law_two T K C_Register C_BadWord C_BadPlace C_BadPlan C_NotDue C_Stuck C_BadBits C_BadText C_TooLarge g_told g_RULES)) := by
  refine Dh.fnX (k := 0) F sc_law_two rfl (fun A outer s H0 L vs Q E hr hl h => ?_)
  refine ⟨_, (pss_cons (ps_set (i := 1) sc_law_two.nd rfl (by first | exact Or.inl rfl | exact Or.inr rfl) pe_int)
    (pss_cons (ps_for (passes_of rfl) rfl (pi_range1 rfl Z.b_range (pa_cons (pv 0) pa_nil)) (pg_name (i := 2) sc_law_two.nd rfl (by first | exact Or.inl rfl | exact Or.inr rfl))
    (pss_one (ps_set (i := 1) sc_law_two.nd rfl (by first | exact Or.inl rfl | exact Or.inr rfl) (pe_op (Dh.oMul (K := K) rfl) (pv 1) pe_int))))
    (pss_one (ps_ret (pv 1))))), ?_⟩
  try dsimp only [L2.cxOf, L2.Cx.blk, LamX.lamCx, L2.Cx.tr]
  obtain ⟨n, R, rfl, hE, h0, h1, k0⟩ := h
  refine Dh.Go.ent hE ?_
  walk_at "vc"
  refine Dh.g_forR (n := n.toNat) (lo := 0) (fun i σ L => ∃ v, σ = [some (.int n), some (.int (pw (i : Int))), v] ∧ Dh.Ent L R) ⟨_, rfl, Dh.ent_refl⟩ ?_ ?_
  · rintro i σ L hi ⟨v, rfl, hE⟩
    walk_at "vc"
    rw [← pw_succ]
    refine Dh.SI.in ⟨some (.int (0 + (i : Int))), rfl, hE⟩
  · rintro σ L ⟨v, rfl, hE⟩
    walk_at "vc"
    exact k0.ent hE
end
end Toy
end

section
local macro_rules | `(tactic| walk_at "pk") => `(tactic| (with_reducible first | exact Dh.pick_here | (refine' Dh.pick_there ?p; (case p => walk_at "pk"))))
local macro_rules | `(tactic| walk_at "ent") => `(tactic| first | (with_reducible exact Dh.ent_refl) | (with_reducible exact Dh.ent_nil) | (refine' Dh.ent_cons ?q0 ?k; (case q0 => walk_at "pk"); (case k => walk_at "ent")) | (refine' Dh.ent_drop ?k; (case k => walk_at "ent")))
local macro_rules | `(tactic| walk_at "side") => `(tactic| first | (with_reducible assumption) | omega | decide | (exact Or.inl rfl) | (exact Or.inr rfl) | (exact Dh.log2_ok (by omega)) | (simp only [L2.CMul, L2.CDiv, L2.CDivN]; omega) | (unfold L2.CPow; decide) | (simp only [List.length_cons, List.length_nil, List.length_append, List.length_map, List.length_range, List.length_replicate, List.length_set, List.length_take, List.length_drop, PySem.sizeLine_eq] <;> omega))
local macro_rules | `(tactic| walk_at "dvp") => `(tactic| (with_reducible first | exact Dh.DV.int | exact Dh.DV.str | exact Dh.DV.bl | exact Dh.DV.non | exact Dh.DVs.nil | (refine' Dh.Pick.dvs ?a (by assumption); (case a => walk_at "pk")) | (refine' Dh.Pick.dv ?a (by assumption); (case a => walk_at "pk")) | (refine' Dh.DVs.cons ?a ?b; (case a => walk_at "dvp"); (case b => walk_at "dvp")) | (refine' Dh.DVs.app ?a ?b; (case a => walk_at "dvp"); (case b => walk_at "dvp")) | (refine' Dh.Pick.tup ?a (by assumption) ?b; (case a => walk_at "pk"); (case b => walk_at "dvp")) | (refine' Dh.DVs.take _ ?a; (case a => walk_at "dvp")) | (refine' Dh.DVs.drop _ ?a; (case a => walk_at "dvp")) | (refine' Dh.DVs.set _ ?a ?b; (case a => walk_at "dvp"); (case b => walk_at "dvp"))))
local macro_rules | `(tactic| walk_at "ixs") => `(tactic| first | assumption | omega | (simp only [List.length_set, List.length_map, List.length_cons, List.length_nil, List.length_append, List.length_replicate] <;> first | assumption | omega))
local macro_rules | `(tactic| walk_at "lk") => `(tactic| first | rfl | assumption | (exact Dh.ixN_lt (by walk_at "ixs")) | (exact Dh.atI_lt (by assumption)) | (exact Dh.atI_map (by assumption))  | with_reducible exact Toy.lk_Register_wide | with_reducible exact Toy.lk_Register_fields | with_reducible exact Toy.lk_Register_word | with_reducible exact Toy.lk_Register_written | with_reducible exact Toy.lk_Register_pulses | with_reducible exact Toy.no_Register_init | with_reducible exact Toy.no_Register_read | with_reducible exact Toy.no_Register_write | with_reducible exact Toy.no_Register_row_of | with_reducible exact Toy.no_Register_get | with_reducible exact Toy.no_Register_put)
local macro_rules | `(tactic| walk_at "kt") => `(tactic| assumption)
local macro_rules | `(tactic| walk_at "pf") => `(tactic| first  | with_reducible exact Toy.pf_Register_wide | with_reducible exact Toy.pf_Register_fields | with_reducible exact Toy.pf_Register_word | with_reducible exact Toy.pf_Register_written | with_reducible exact Toy.pf_Register_pulses | with_reducible exact Toy.gr_Register_wide | with_reducible exact Toy.gr_Register_fields | with_reducible exact Toy.gr_Register_word | with_reducible exact Toy.gr_Register_written | with_reducible exact Toy.gr_Register_pulses | rfl)
local macro_rules | `(tactic| walk_at "ln") => `(tactic| first  | with_reducible exact Toy.ln_Register | decide | (simp only [List.length_cons, List.length_nil] <;> omega))
local macro_rules | `(tactic| walk_at "hasm") => `(tactic| first | (refine' Toy.hasM_RegAt ?q0 ?q1; (case q0 => walk_at "pk"); (case q1 => (intros; walk_at "lk"))) | (refine' Dh.hasM_ob ?q0 ?q1; (case q0 => walk_at "pk"); (case q1 => walk_at "lk")))
local macro_rules | `(tactic| walk_at "vcp0") => `(tactic| first | ((with_reducible refine' Dh.g_seq ?k)) | ((with_reducible refine' Dh.g_next ?k)) | ((with_reducible refine' Dh.g_nonA ?k)) | ((with_reducible refine' Dh.g_var ?q0 ?k); (case q0 => rfl)) | ((with_reducible refine' Dh.g_c ?k)) | ((with_reducible refine' Dh.g_op ?k)) | ((with_reducible refine' Dh.g_asg ?k)) | ((with_reducible refine' Dh.g_name ?k)) | ((with_reducible refine' Dh.g_ifS ?k)) | ((with_reducible refine' Dh.g_test ?k)) | ((with_reducible refine' Dh.g_isB ?k)) | ((with_reducible refine' Dh.g_B ?k)) | ((with_reducible refine' Dh.g_ret ?k)) | ((with_reducible refine' Dh.g_retN ?k)) | ((with_reducible refine' Dh.g_drop ?k)) | ((with_reducible refine' Dh.g_brk ?k)) | ((with_reducible refine' Dh.g_cont ?k)) | ((with_reducible refine' Dh.g_un ?k)) | ((with_reducible refine' Dh.g_I0 ?k)) | ((with_reducible refine' Dh.g_addI ?k)) | ((with_reducible refine' Dh.g_addB ?k)) | ((with_reducible refine' Dh.g_addS ?q0 ?k); (case q0 => walk_at "side")) | ((with_reducible refine' Dh.g_addM ?q0 ?q1 ?q2 ?k); (case q0 => walk_at "pk"); (case q1 => walk_at "pk"); (case q2 => walk_at "side"); intro _) | ((with_reducible refine' Dh.g_addL ?q0 ?q1 ?q2 ?k); (case q0 => walk_at "pk"); (case q1 => walk_at "pk"); (case q2 => walk_at "side"); intro _))
local macro_rules | `(tactic| walk_at "vcp1") => `(tactic| first | ((with_reducible refine' Dh.g_I ?q0 ?k); (case q0 => walk_at "side")) | ((with_reducible refine' Dh.g_mulI ?q0 ?k); (case q0 => walk_at "side")) | ((with_reducible refine' Dh.g_U ?k)) | ((with_reducible refine' Dh.g_eqS ?q0 ?k); (case q0 => rfl)) | ((with_reducible refine' Dh.g_neS ?q0 ?k); (case q0 => rfl)) | ((with_reducible refine' Dh.g_eqLL ?q0 ?q1 ?k); (case q0 => walk_at "pk"); (case q1 => walk_at "pk")) | ((with_reducible refine' Dh.g_neLL ?q0 ?q1 ?k); (case q0 => walk_at "pk"); (case q1 => walk_at "pk")) | ((with_reducible refine' Dh.g_eqL0 ?q0 ?q1 ?k); (case q0 => walk_at "pk"); (case q1 => walk_at "pk")) | ((with_reducible refine' Dh.g_neL0 ?q0 ?q1 ?k); (case q0 => walk_at "pk"); (case q1 => walk_at "pk")) | ((with_reducible refine' Dh.g_neT0 ?q0 ?q1 ?q2 ?k); (case q0 => walk_at "pk"); (case q1 => walk_at "pk"); (case q2 => walk_at "pk")) | ((with_reducible refine' Dh.g_neP ?q0 ?q1 ?k); (case q0 => walk_at "pk"); (case q1 => walk_at "pk")) | ((with_reducible refine' Dh.g_inI ?q0 ?k); (case q0 => walk_at "pk")) | ((with_reducible refine' Dh.g_isN ?k)) | ((with_reducible refine' Dh.g_notN ?k)) | ((with_reducible refine' Dh.g_ixL ?q0 ?q1 ?k); (case q0 => walk_at "pk"); (case q1 => walk_at "lk")) | ((with_reducible refine' Dh.g_ixT ?q0 ?q1 ?k); (case q0 => walk_at "pk"); (case q1 => walk_at "lk")) | ((with_reducible refine' Dh.g_sl ?k)) | ((with_reducible refine' Dh.g_noPart ?k)) | ((with_reducible refine' Dh.g_part ?k)) | ((with_reducible refine' Dh.g_isSomeInt ?k)) | ((with_reducible refine' Dh.g_slTk ?q0 ?k); (case q0 => walk_at "pk"); intro _) | ((with_reducible refine' Dh.g_slDr ?q0 ?k); (case q0 => walk_at "pk"); intro _) | ((with_reducible refine' Dh.g_slL ?q0 ?k); (case q0 => walk_at "pk"); intro _) | ((with_reducible refine' Dh.g_slQTk ?q0 ?k); (case q0 => walk_at "pk"); intro _))
local macro_rules | `(tactic| walk_at "vcp2") => `(tactic| first | ((with_reducible refine' Dh.g_slQ ?q0 ?k); (case q0 => walk_at "pk"); intro _) | ((with_reducible refine' Dh.g_fldE ?k)) | ((with_reducible refine' Dh.g_fld ?q0 ?q1 ?k); (case q0 => walk_at "pk"); (case q1 => walk_at "lk")) | ((with_reducible refine' Dh.g_tup ?k)) | ((with_reducible refine' Dh.g_lst ?k)) | ((with_reducible refine' Dh.g_newT ?q0 ?k); (case q0 => walk_at "side"); intro _) | ((with_reducible refine' Dh.g_newL ?q0 ?k); (case q0 => walk_at "side"); intro _) | ((with_reducible refine' Dh.g_nil ?k)) | ((with_reducible refine' Dh.g_cons ?k)) | ((with_reducible refine' Dh.g_call ?k)) | ((with_reducible refine' Dh.g_methE ?k)) | ((with_reducible refine' Dh.g_meth ?q0 ?k); (case q0 => walk_at "hasm")) | ((with_reducible refine' Dh.g_make ?k)) | ((with_reducible refine' Dh.g_made ?k); intro _) | ((with_reducible refine' Dh.g_cb ?k)) | ((with_reducible refine' Dh.g_int ?k)) | ((with_reducible refine' Dh.g_intB ?k)) | ((with_reducible refine' Dh.g_abs ?k)) | ((with_reducible refine' Dh.g_max2 ?k)) | ((with_reducible refine' Dh.g_min2 ?k)) | ((with_reducible refine' Dh.g_strI ?q0 ?k); (case q0 => walk_at "side")) | ((with_reducible refine' Dh.g_lenL ?q0 ?k); (case q0 => walk_at "pk")) | ((with_reducible refine' Dh.g_lenT ?q0 ?k); (case q0 => walk_at "pk")) | ((with_reducible refine' Dh.g_lenD ?q0 ?k); (case q0 => walk_at "pk")))
local macro_rules | `(tactic| walk_at "vcp3") => `(tactic| first | ((with_reducible refine' Dh.g_listL ?q0 ?k); (case q0 => walk_at "pk"); intro _) | ((with_reducible refine' Dh.g_listT ?q0 ?k); (case q0 => walk_at "pk"); intro _) | ((with_reducible refine' Dh.g_tupL ?q0 ?k); (case q0 => walk_at "pk"); intro _) | ((with_reducible refine' Dh.g_tupT ?q0 ?k); (case q0 => walk_at "pk")) | ((with_reducible refine' Dh.g_pop0 ?q0 ?k); (case q0 => walk_at "pk")) | ((with_reducible refine' Dh.g_bm ?k)) | ((with_reducible refine' Dh.g_bm0 ?k)) | ((with_reducible refine' Dh.g_tyL ?q0 ?k); (case q0 => walk_at "pk")) | ((with_reducible refine' Dh.g_append ?q0 ?q1 ?k); (case q0 => walk_at "pk"); (case q1 => walk_at "side")) | ((with_reducible refine' Dh.g_rep ?q0 ?q1 ?q2 ?q3 ?k); (case q0 => walk_at "pk"); (case q1 => walk_at "side"); (case q2 => walk_at "side"); (case q3 => walk_at "side"); intro _) | ((with_reducible refine' Dh.g_not ?k)) | ((with_reducible refine' Dh.g_tand ?k)) | ((with_reducible refine' Dh.g_tor ?k)) | ((with_reducible refine' Dh.g_andV ?k)) | ((with_reducible refine' Dh.g_orV ?k)) | ((with_reducible refine' Dh.g_notV ?k)) | ((with_reducible refine' Dh.g_ifE ?k)) | ((with_reducible refine' Dh.g_chain ?k)) | ((with_reducible refine' Dh.g_tru ?k)) | ((with_reducible refine' Dh.g_truB ?k)) | ((with_reducible refine' Dh.g_truI ?k)) | ((with_reducible refine' Dh.g_truN ?k)) | ((with_reducible refine' Dh.g_truL ?q0 ?k); (case q0 => walk_at "pk")) | ((with_reducible refine' Dh.g_gsub ?k)))
local macro_rules | `(tactic| walk_at "vcp4") => `(tactic| first | ((with_reducible refine' Dh.g_setM ?q0 ?q1 ?k); (case q0 => walk_at "pk"); (case q1 => walk_at "lk")) | ((with_reducible refine' Dh.g_setL ?q0 ?q1 ?k); (case q0 => walk_at "pk"); (case q1 => walk_at "lk")) | ((with_reducible refine' Dh.g_gtup ?q0 ?q1 ?k); (case q0 => walk_at "pk"); (case q1 => rfl)) | ((with_reducible refine' Dh.g_gnil ?k)) | ((with_reducible refine' Dh.g_gcons ?k)) | ((with_reducible refine' Dh.g_par ?k)) | ((with_reducible refine' Dh.g_par2 ?k)) | ((with_reducible refine' Dh.g_par3 ?k)) | ((with_reducible refine' Dh.g_par3b ?k)) | ((with_reducible refine' Dh.g_listRg ?k)) | ((with_reducible refine' Dh.g_rg1E ?k)) | ((with_reducible refine' Dh.g_rg1 ?k)) | ((with_reducible refine' Dh.g_rgN ?q0 ?k); (case q0 => walk_at "side"); intro _) | ((with_reducible refine' Dh.g_rgL ?q0 ?k); (case q0 => walk_at "side"); intro _) | ((with_reducible refine' Dh.g_dinE ?k)) | ((with_reducible refine' Dh.g_dinI ?q0 ?k); (case q0 => walk_at "pk")) | ((with_reducible refine' Dh.g_dnotinE ?k)) | ((with_reducible refine' Dh.g_dnotinI ?q0 ?k); (case q0 => walk_at "pk")) | ((with_reducible refine' Dh.g_dgetE ?k)) | ((with_reducible refine' Dh.g_dgetI ?q0 ?q1 ?k); (case q0 => walk_at "pk"); (case q1 => walk_at "lk")) | ((with_reducible refine' Dh.g_dputE ?k)) | ((with_reducible refine' Dh.g_dputI ?q0 ?q1 ?k); (case q0 => walk_at "pk"); (case q1 => walk_at "side")) | ((with_reducible refine' Dh.g_dpopE ?k)) | ((with_reducible refine' Dh.g_dpopA ?q0 ?k); (case q0 => walk_at "pk")))
local macro_rules | `(tactic| walk_at "vcp5") => `(tactic| first | ((with_reducible refine' Dh.g_dpopB ?q0 ?q1 ?k); (case q0 => walk_at "pk"); (case q1 => walk_at "lk")) | ((with_reducible refine' Dh.g_dnew ?k); intro _) | ((with_reducible refine' Dh.g_ipMul ?q0 ?k); (case q0 => walk_at "side")) | ((with_reducible refine' Dh.g_sfldE ?k)) | ((with_reducible refine' Dh.g_sfld ?q0 ?q1 ?q2 ?k); (case q0 => walk_at "pk"); (case q1 => walk_at "pf"); (case q2 => walk_at "ln")) | ((with_reducible refine' Dh.g_augE ?k)) | ((with_reducible refine' Dh.g_augF ?q0 ?q1 ?k); (case q0 => walk_at "pk"); (case q1 => walk_at "lk")) | ((with_reducible refine' Dh.g_augV ?q0 ?k); (case q0 => rfl)) | ((with_reducible refine' Dh.g_ipI ?k)) | ((with_reducible refine' Dh.g_rAdd ?k)) | ((with_reducible refine' Dh.g_rSub ?k)) | ((with_reducible refine' Dh.g_for ?k)) | ((with_reducible refine' Dh.g_iRng1 ?k)) | ((with_reducible refine' Dh.g_iRng2 ?k)) | ((with_reducible refine' Dh.g_rng1 ?q0 ?q1 ?k); (case q0 => walk_at "side"); (case q1 => walk_at "side")) | ((with_reducible refine' Dh.g_rng2 ?q0 ?k); (case q0 => walk_at "side")) | ((with_reducible refine' Dh.g_iSeqE ?k)) | ((with_reducible refine' Dh.g_iSeqL ?q0 ?k); (case q0 => walk_at "pk")) | ((with_reducible refine' Dh.g_iSeqT ?q0 ?k); (case q0 => walk_at "pk")) | ((with_reducible refine' Dh.g_inK ?q0 ?k); (case q0 => walk_at "kt")) | ((with_reducible refine' Dh.g_notInK ?q0 ?k); (case q0 => walk_at "kt")) | ((with_reducible refine' Dh.g_isiII ?k)) | ((with_reducible refine' Dh.g_isiIB ?k)) | ((with_reducible refine' Dh.g_dinS ?q0 ?k); (case q0 => walk_at "pk")))
local macro_rules | `(tactic| walk_at "vcp6") => `(tactic| first | ((with_reducible refine' Dh.g_dnotinS ?q0 ?k); (case q0 => walk_at "pk")) | ((with_reducible refine' Dh.g_dgetS ?q0 ?q1 ?k); (case q0 => walk_at "pk"); (case q1 => walk_at "lk")) | ((with_reducible refine' Dh.g_dputS ?q0 ?q1 ?k); (case q0 => walk_at "pk"); (case q1 => walk_at "side")) | ((with_reducible refine' Dh.g_dpopS ?q0 ?q1 ?k); (case q0 => walk_at "pk"); (case q1 => walk_at "lk")) | ((with_reducible refine' Dh.g_iRevE ?k)) | ((with_reducible refine' Dh.g_iRevL ?q0 ?k); (case q0 => walk_at "pk")) | ((with_reducible refine' Dh.g_iRevT ?q0 ?k); (case q0 => walk_at "pk")) | ((with_reducible refine' Dh.g_iZipE ?k)) | ((with_reducible refine' Dh.g_iZipL ?q0 ?q1 ?k); (case q0 => walk_at "pk"); (case q1 => walk_at "pk")) | ((with_reducible refine' Dh.g_iZipT ?q0 ?q1 ?k); (case q0 => walk_at "pk"); (case q1 => walk_at "pk")) | ((with_reducible refine' Dh.g_iEnumE ?k)) | ((with_reducible refine' Dh.g_iEnum ?q0 ?k); (case q0 => walk_at "pk")) | ((with_reducible refine' Dh.g_dcE ?k)) | ((with_reducible refine' Dh.g_dturn ?k)) | ((with_reducible refine' Dh.g_sum ?q0 ?k); (case q0 => walk_at "pk")) | ((with_reducible refine' Dh.g_pop ?q0 ?q1 ?k); (case q0 => walk_at "pk"); (case q1 => walk_at "lk")) | ((with_reducible refine' Dh.g_wbody ?k)) | ((with_reducible refine' Dh.g_lcE ?k)) | ((with_reducible refine' Dh.g_turn ?k)) | ((with_reducible refine' Dh.g_tYes ?k)) | ((with_reducible refine' Dh.g_rs ?k)) | ((with_reducible refine' Dh.g_rsW ?k)) | ((with_reducible refine' Dh.g_told ?k)) | ((with_reducible refine' Dh.g_ifT ?q0 ?k); (case q0 => rfl)))
local macro_rules | `(tactic| walk_at "vcp7") => `(tactic| first | ((with_reducible refine' Dh.g_ifF ?q0 ?k); (case q0 => rfl)) | ((with_reducible refine' Dh.g_and ?q0 ?k); (case q0 => rfl)) | ((with_reducible refine' Dh.g_turn ?k)))
local macro_rules | `(tactic| walk_at "vc1") => `(tactic| first | walk_at "vcp0" | walk_at "vcp1" | walk_at "vcp2" | walk_at "vcp3" | walk_at "vcp4" | walk_at "vcp5" | walk_at "vcp6" | walk_at "vcp7" | walk_at "use1" | walk_at "told1")
local macro_rules | `(tactic| walk_at "vc") => `(tactic| repeat walk_at "vc1")
local macro_rules | `(tactic| walk_at "spl") => `(tactic| first | ((with_reducible refine Dh.g_ifD ?_ ?_) <;> intro _) | ((with_reducible refine Dh.g_ifN ?_ ?_) <;> intro _) | ((with_reducible refine Dh.g_if ?_ ?_) <;> intro _))
local macro_rules | `(tactic| walk_at "vcs") => `(tactic| repeat' (first | walk_at "vc1" | walk_at "spl"))
local macro_rules | `(tactic| walk_at "told1") => `(tactic| first | ((with_reducible refine' Dh.g_toldY (Toy.Txt.x_BadWord_BadWord ?z) ?k); (case z => assumption)))
local macro_rules | `(tactic| walk_at "use1") => `(tactic| ((with_reducible refine' Toy.use_law_dice (fun _ _ _ _ => ?k0))))
local macro_rules | `(tactic| walk_at "use1") => `(tactic| ((with_reducible refine' Toy.use_law_roll ?q0 ?h0 ?h1 (fun _ _ => ?k0)); (case q0 => walk_at "pk"); (case h0 => walk_at "side"); (case h1 => walk_at "side")))
local macro_rules | `(tactic| walk_at "use1") => `(tactic| ((with_reducible refine' Toy.use_power ?h0 ?h1 ?k0); (case h0 => walk_at "side"); (case h1 => walk_at "side")))
local macro_rules | `(tactic| walk_at "use") => `(tactic| ((with_reducible refine' Toy.use_check_word ?h0 ?h1 (fun _ => ?k0) (fun _ _ => ?k1)); (case h0 => walk_at "side"); (case h1 => walk_at "side")))
local macro_rules | `(tactic| walk_at "use1") => `(tactic| ((with_reducible refine' Toy.use_field ?h0 ?h1 ?h2 ?h3 ?k0); (case h0 => walk_at "side"); (case h1 => walk_at "side"); (case h2 => walk_at "side"); (case h3 => walk_at "side")))
local macro_rules | `(tactic| walk_at "use") => `(tactic| ((with_reducible refine' Toy.use_with_field ?h0 ?h1 ?h2 ?h3 (fun _ => ?k0) (fun _ _ => ?k1)); (case h0 => walk_at "side"); (case h1 => walk_at "side"); (case h2 => walk_at "side"); (case h3 => walk_at "side")))
local macro_rules | `(tactic| walk_at "use1") => `(tactic| ((with_reducible refine' Toy.use_bits ?h0 ?h1 (fun _ => ?k0)); (case h0 => walk_at "side"); (case h1 => walk_at "side")))
local macro_rules | `(tactic| walk_at "use1") => `(tactic| ((with_reducible refine' Toy.use_of_bits ?q0 ?h0 ?k0); (case q0 => walk_at "pk"); (case h0 => walk_at "side")))
local macro_rules | `(tactic| walk_at "use1") => `(tactic| ((with_reducible refine' Toy.use_both ?h0 ?h1 ?k0); (case h0 => walk_at "side"); (case h1 => walk_at "side")))
local macro_rules | `(tactic| walk_at "use1") => `(tactic| ((with_reducible refine' Toy.use_either ?h0 ?h1 ?k0); (case h0 => walk_at "side"); (case h1 => walk_at "side")))
local macro_rules | `(tactic| walk_at "use1") => `(tactic| ((with_reducible refine' Toy.use_without ?h0 ?h1 ?k0); (case h0 => walk_at "side"); (case h1 => walk_at "side")))
local macro_rules | `(tactic| walk_at "use1") => `(tactic| ((with_reducible refine' Toy.use_turned_octets ?h0 ?h1 ?k0); (case h0 => walk_at "side"); (case h1 => walk_at "side")))
local macro_rules | `(tactic| walk_at "use") => `(tactic| ((with_reducible refine' Toy.use_Register___init__ ?q0 ?q1 ?q2 ?h0 ?h1 (fun _ => ?k0) (fun _ _ => ?k1)); (case q0 => walk_at "pk"); (case q1 => walk_at "pk"); (case q2 => walk_at "pk"); (case h0 => walk_at "side"); (case h1 => walk_at "side")))
local macro_rules | `(tactic| walk_at "use1") => `(tactic| ((with_reducible refine' Toy.use_Register_read ?q0 ?k0); (case q0 => walk_at "pk")))
local macro_rules | `(tactic| walk_at "use") => `(tactic| ((with_reducible refine' Toy.use_Register_write ?q0 ?h0 ?h1 ?h2 ?h3 ?h4 ?h5 (fun _ => ?k0) (fun _ _ => ?k1)); (case q0 => walk_at "pk"); (case h0 => walk_at "side"); (case h1 => walk_at "side"); (case h2 => walk_at "side"); (case h3 => walk_at "side"); (case h4 => walk_at "side"); (case h5 => walk_at "side")))
local macro_rules | `(tactic| walk_at "use") => `(tactic| ((with_reducible refine' Toy.use_Register_row_of ?q0 (fun _ => ?k0) (fun _ _ _ => ?k1)); (case q0 => walk_at "pk")))
local macro_rules | `(tactic| walk_at "use") => `(tactic| ((with_reducible refine' Toy.use_Register_get ?q0 ?h0 (fun _ => ?k0) (fun _ _ => ?k1)); (case q0 => walk_at "pk"); (case h0 => walk_at "side")))
local macro_rules | `(tactic| walk_at "use1") => `(tactic| ((with_reducible refine' Toy.use_Register_put ?q0 ?h0 ?h1 ?h2 ?k0); (case q0 => walk_at "pk"); (case h0 => walk_at "side"); (case h1 => walk_at "side"); (case h2 => walk_at "side")))
local macro_rules | `(tactic| walk_at "use1") => `(tactic| ((with_reducible refine' Toy.use_law_rounds ?q0 ?h0 (fun _ _ => ?k0)); (case q0 => walk_at "pk"); (case h0 => walk_at "side")))
local macro_rules | `(tactic| walk_at "use1") => `(tactic| ((with_reducible refine' Toy.use_law_bits (fun _ => ?k0))))
local macro_rules | `(tactic| walk_at "use1") => `(tactic| ((with_reducible refine' Toy.use_law_two ?h0 ?h1 ?k0); (case h0 => walk_at "side"); (case h1 => walk_at "side")))
namespace Toy
open PySem L2
section
variable {P : Program} {w : World} {K : PySem.W.Frag} {mg : Str → Option Value} {base : Heap} {T : List (Addr × Str)} {C_Register C_BadWord C_BadPlace C_BadPlan C_NotDue C_Stuck C_BadBits C_BadText C_TooLarge g_told g_RULES : Addr}
abbrev nm (k : Nat) : Str := "f" ++ toString (k : Int)
def fdK (rs : List Str) (k : Nat) : Fd := ⟨nm k, 2 * (k : Int), 2, rs.getD k ""⟩
def fl4 (rs : List Str) : List Fd := (List.range 4).map (fdK rs)
theorem nm_ne : ∀ i j : Nat, i < 4 → j < 4 → nm i = nm j → i = j := by
  intro i j hi hj h
  have key : ∀ a ∈ List.range 4, ∀ b ∈ List.range 4, decide (nm a = nm b) = decide (a = b) := by decide +kernel
  have := key i (List.mem_range.mpr hi) j (List.mem_range.mpr hj)
  rw [decide_eq_true h] at this
  exact of_decide_eq_true this.symm
theorem nm_len {k : Nat} (h : k < 4) : (nm k).length ≤ 10 := by
  have key : ∀ a ∈ List.range 4, (nm a).length ≤ 10 := by decide +kernel
  exact key k (List.mem_range.mpr h)
theorem nm_lay {k : Nat} (h : k < 4) : PyData.strOk (nm k) = true := by
  have key : ∀ a ∈ List.range 4, PyData.strOk (nm a) = true := by decide +kernel
  exact key k (List.mem_range.mpr h)
theorem fl4_at {rs : List Str} {k : Nat} (h : k < 4) : (fl4 rs)[k]? = some (fdK rs k) := by
  unfold fl4
  rw [List.getElem?_map, List.getElem?_range h]
  rfl
theorem fl4_find {rs : List Str} {k : Nat} (h : k < 4) : fdAt (fl4 rs) (nm k) = some (fdK rs k) := by
  unfold fdAt
  rw [List.find?_eq_some_iff_getElem]
  refine ⟨by simp [fdK], k, by simpa [fl4] using h, ?_, fun j hj => ?_⟩
  · simp [fl4]
  · simp only [fl4, List.getElem_map, List.getElem_range, fdK, decide_eq_true_eq, Bool.not_eq_true', decide_eq_false_iff_not]
    intro e
    have := nm_ne j k (by omega) h e
    omega
theorem fl4_ok {rs : List Str} : ∀ f ∈ fl4 rs, 0 ≤ f.lo ∧ f.lo ≤ 24 ∧ 0 ≤ f.many ∧ f.many ≤ 24 := by
  intro f hf
  obtain ⟨k, hk, rfl⟩ := List.mem_map.mp hf
  have := List.mem_range.mp hk
  simp only [fdK]
  omega
theorem rules4 {rs : List Str} (hl : rs.length = 4) (hr : ∀ r ∈ rs, r ∈ rules) : regUse 8 [] (fl4 rs) ≠ none ∧ (names (fl4 rs)).length = (fl4 rs).length := by
  match rs, hl with
  | [a, b, c, d], _ =>
    have ha := hr a (by simp)
    have hb := hr b (by simp)
    have hc := hr c (by simp)
    have hd := hr d (by simp)
    have e : ∀ k < 4, fdOk 8 (fdK [a, b, c, d] k) = true := fun k hk => by
      rcases (show k = 0 ∨ k = 1 ∨ k = 2 ∨ k = 3 by omega) with rfl | rfl | rfl | rfl
      all_goals exact fd_yes (by simpa [fdK]) (by simp [fdK]) (by simp [fdK]) (by simp [fdK])
    constructor
    · show regUse 8 [] [fdK [a, b, c, d] 0, fdK [a, b, c, d] 1, fdK [a, b, c, d] 2, fdK [a, b, c, d] 3] ≠ none
      rw [regUse, if_pos (e 0 (by decide))]
      show regUse 8 [Sum.inl 0, Sum.inl 1] [fdK [a, b, c, d] 1, fdK [a, b, c, d] 2, fdK [a, b, c, d] 3] ≠ none
      rw [regUse, if_pos (e 1 (by decide))]
      show regUse 8 [Sum.inl 0, Sum.inl 1, Sum.inl 2, Sum.inl 3] [fdK [a, b, c, d] 2, fdK [a, b, c, d] 3] ≠ none
      rw [regUse, if_pos (e 2 (by decide))]
      show regUse 8 [Sum.inl 0, Sum.inl 1, Sum.inl 2, Sum.inl 3, Sum.inl 4, Sum.inl 5] [fdK [a, b, c, d] 3] ≠ none
      rw [regUse, if_pos (e 3 (by decide))]
      show regUse 8 [Sum.inl 0, Sum.inl 1, Sum.inl 2, Sum.inl 3, Sum.inl 4, Sum.inl 5, Sum.inl 6, Sum.inl 7] [] ≠ none
      simp [regUse]
    · show (names [fdK [a, b, c, d] 0, fdK [a, b, c, d] 1, fdK [a, b, c, d] 2, fdK [a, b, c, d] 3]).length = 4
      have key : (([nm 0, nm 1, nm 2, nm 3].map fun s => (Sum.inr s : Key)).foldl Dh.addK []).length = 4 := by decide +kernel
      exact key
/-! four twos of bits in a word -/
def val : List Int → Int
  | [] => 0
  | m :: ms => m + 4 * val ms
theorem fld_val {ms : List Int} {j : Nat} {m : Int} (hl : ms.length = 4) (hb : ∀ m ∈ ms, 0 ≤ m ∧ m < 4) (hm : ms[j]? = some m) : fld (val ms) (2 * (j : Int)) 2 = m := by
  match ms, hl with
  | [a, b, c, d], _ =>
    have ha := hb a (by simp)
    have hb' := hb b (by simp)
    have hc := hb c (by simp)
    have hd := hb d (by simp)
    have hj := (List.getElem?_eq_some_iff.mp hm).1
    simp only [List.length_cons, List.length_nil] at hj
    simp only [val, fld, show pw 2 = 4 from rfl]
    rcases (show j = 0 ∨ j = 1 ∨ j = 2 ∨ j = 3 by omega) with rfl | rfl | rfl | rfl
    · rw [show pw (2 * ((0 : Nat) : Int)) = 1 from rfl]
      simp at hm
      omega
    · rw [show pw (2 * ((1 : Nat) : Int)) = 4 from rfl]
      simp at hm
      omega
    · rw [show pw (2 * ((2 : Nat) : Int)) = 16 from rfl]
      simp at hm
      omega
    · rw [show pw (2 * ((3 : Nat) : Int)) = 64 from rfl]
      simp at hm
      omega
theorem wf_val {ms : List Int} {j : Nat} {x : Int} (hl : ms.length = 4) (hb : ∀ m ∈ ms, 0 ≤ m ∧ m < 4) (hj : j < 4) : wf (val ms) (2 * (j : Int)) 2 x = val (ms.set j x) := by
  obtain ⟨m, hm⟩ : ∃ m, ms[j]? = some m := ⟨_, List.getElem?_eq_getElem (by omega)⟩
  rw [wf, fld_val hl hb hm]
  match ms, hl with
  | [a, b, c, d], _ =>
    rcases (show j = 0 ∨ j = 1 ∨ j = 2 ∨ j = 3 by omega) with rfl | rfl | rfl | rfl
    · rw [show pw (2 * ((0 : Nat) : Int)) = 1 from rfl]
      simp at hm
      simp only [List.set, val]
      omega
    · rw [show pw (2 * ((1 : Nat) : Int)) = 4 from rfl]
      simp at hm
      simp only [List.set, val]
      omega
    · rw [show pw (2 * ((2 : Nat) : Int)) = 16 from rfl]
      simp at hm
      simp only [List.set, val]
      omega
    · rw [show pw (2 * ((3 : Nat) : Int)) = 64 from rfl]
      simp at hm
      simp only [List.set, val]
      omega
theorem wo_2 {m q : Int} (hm : 0 ≤ m ∧ m < 4) (hq : 0 ≤ q ∧ q < 4) : wo m q 2 = [pw 0 * (m / pw 0 % 2) * (1 - q / pw 0 % 2), pw 1 * (m / pw 1 % 2) * (1 - q / pw 1 % 2)].sum ∧ 0 ≤ wo m q 2 ∧ wo m q 2 < 4 := by
  rcases (show m = 0 ∨ m = 1 ∨ m = 2 ∨ m = 3 by omega) with rfl | rfl | rfl | rfl <;> rcases (show q = 0 ∨ q = 1 ∨ q = 2 ∨ q = 3 by omega) with rfl | rfl | rfl | rfl <;> decide +kernel
/-- a register's state by the law's own lists -/
structure R4 (s : RSt) (ms : List Int) (ws : List Bool) : Prop where
  l1 : ms.length = 4
  l2 : ws.length = 4
  bm : ∀ m ∈ ms, 0 ≤ m ∧ m < 4
  w : s.1 = val ms
  k : ∀ i, i < 4 → ws[i]? = some (Dh.hasK s.2.1 (Sum.inr (nm i)))
theorem R4.set {s : RSt} {ms : List Int} {ws : List Bool} (R : R4 s ms ws) {j : Nat} {x : Int} (hj : j < 4) (hx : 0 ≤ x ∧ x < 4) {ps : List (Str × Int)} : R4 (wf s.1 (2 * (j : Int)) 2 x, s.2.1, ps) (ms.set j x) ws :=
  ⟨by rw [List.length_set]; exact R.l1, R.l2, fun m hm => (List.mem_or_eq_of_mem_set hm).elim (R.bm m) (fun e => e ▸ hx), by rw [R.w]; exact wf_val R.l1 R.bm hj, R.k⟩
theorem hasK_add {ks : List Key} {a b : Key} : Dh.hasK (Dh.addK ks a) b = (Dh.hasK ks b || decide (a = b)) := by
  unfold Dh.addK
  split
  · rename_i h
    by_cases e : a = b
    · subst e
      rw [h]
      rfl
    · simp [e]
  · simp [Dh.hasK]
theorem R4.mark {s : RSt} {ms : List Int} {ws : List Bool} (R : R4 s ms ws) {j : Nat} (hj : j < 4) {w : Int} (hw : w = s.1) {ps : List (Str × Int)} : R4 (w, Dh.addK s.2.1 (Sum.inr (nm j)), ps) ms (ws.set j true) := by
  refine ⟨R.l1, by rw [List.length_set]; exact R.l2, R.bm, by rw [hw]; exact R.w, fun i hi => ?_⟩
  rw [hasK_add]
  by_cases e : i = j
  · subst e
    rw [List.getElem?_set_self (by rw [R.l2]; exact hi)]
    simp
  · rw [List.getElem?_set_ne (fun z => e z.symm), R.k i hi]
    have : ¬ (Sum.inr (nm j) : Key) = Sum.inr (nm i) := fun z => e (nm_ne i j hi hj (Sum.inr.inj z).symm)
    simp [this]
end
end Toy
end

section
local macro_rules | `(tactic| walk_at "pk") => `(tactic| (with_reducible first | exact Dh.pick_here | (refine' Dh.pick_there ?p; (case p => walk_at "pk"))))
local macro_rules | `(tactic| walk_at "ent") => `(tactic| first | (with_reducible exact Dh.ent_refl) | (with_reducible exact Dh.ent_nil) | (refine' Dh.ent_cons ?q0 ?k; (case q0 => walk_at "pk"); (case k => walk_at "ent")) | (refine' Dh.ent_drop ?k; (case k => walk_at "ent")))
local macro_rules | `(tactic| walk_at "side") => `(tactic| first | (with_reducible assumption) | omega | decide | (exact Or.inl rfl) | (exact Or.inr rfl) | (exact Dh.log2_ok (by omega)) | (simp only [L2.CMul, L2.CDiv, L2.CDivN]; omega) | (unfold L2.CPow; decide) | (simp only [List.length_cons, List.length_nil, List.length_append, List.length_map, List.length_range, List.length_replicate, List.length_set, List.length_take, List.length_drop, PySem.sizeLine_eq] <;> omega))
local macro_rules | `(tactic| walk_at "dvp") => `(tactic| (with_reducible first | exact Dh.DV.int | exact Dh.DV.str | exact Dh.DV.bl | exact Dh.DV.non | exact Dh.DVs.nil | (refine' Dh.Pick.dvs ?a (by assumption); (case a => walk_at "pk")) | (refine' Dh.Pick.dv ?a (by assumption); (case a => walk_at "pk")) | (refine' Dh.DVs.cons ?a ?b; (case a => walk_at "dvp"); (case b => walk_at "dvp")) | (refine' Dh.DVs.app ?a ?b; (case a => walk_at "dvp"); (case b => walk_at "dvp")) | (refine' Dh.Pick.tup ?a (by assumption) ?b; (case a => walk_at "pk"); (case b => walk_at "dvp")) | (refine' Dh.DVs.take _ ?a; (case a => walk_at "dvp")) | (refine' Dh.DVs.drop _ ?a; (case a => walk_at "dvp")) | (refine' Dh.DVs.set _ ?a ?b; (case a => walk_at "dvp"); (case b => walk_at "dvp"))))
local macro_rules | `(tactic| walk_at "ixs") => `(tactic| first | assumption | omega | (simp only [List.length_set, List.length_map, List.length_cons, List.length_nil, List.length_append, List.length_replicate] <;> first | assumption | omega))
local macro_rules | `(tactic| walk_at "lk") => `(tactic| first | rfl | assumption | (exact Dh.ixN_lt (by walk_at "ixs")) | (exact Dh.atI_lt (by assumption)) | (exact Dh.atI_map (by assumption))  | with_reducible exact Toy.lk_Register_wide | with_reducible exact Toy.lk_Register_fields | with_reducible exact Toy.lk_Register_word | with_reducible exact Toy.lk_Register_written | with_reducible exact Toy.lk_Register_pulses | with_reducible exact Toy.no_Register_init | with_reducible exact Toy.no_Register_read | with_reducible exact Toy.no_Register_write | with_reducible exact Toy.no_Register_row_of | with_reducible exact Toy.no_Register_get | with_reducible exact Toy.no_Register_put)
local macro_rules | `(tactic| walk_at "kt") => `(tactic| assumption)
local macro_rules | `(tactic| walk_at "pf") => `(tactic| first  | with_reducible exact Toy.pf_Register_wide | with_reducible exact Toy.pf_Register_fields | with_reducible exact Toy.pf_Register_word | with_reducible exact Toy.pf_Register_written | with_reducible exact Toy.pf_Register_pulses | with_reducible exact Toy.gr_Register_wide | with_reducible exact Toy.gr_Register_fields | with_reducible exact Toy.gr_Register_word | with_reducible exact Toy.gr_Register_written | with_reducible exact Toy.gr_Register_pulses | rfl)
local macro_rules | `(tactic| walk_at "ln") => `(tactic| first  | with_reducible exact Toy.ln_Register | decide | (simp only [List.length_cons, List.length_nil] <;> omega))
local macro_rules | `(tactic| walk_at "hasm") => `(tactic| first | (refine' Toy.hasM_RegAt ?q0 ?q1; (case q0 => walk_at "pk"); (case q1 => (intros; walk_at "lk"))) | (refine' Dh.hasM_ob ?q0 ?q1; (case q0 => walk_at "pk"); (case q1 => walk_at "lk")))
local macro_rules | `(tactic| walk_at "vcp0") => `(tactic| first | ((with_reducible refine' Dh.g_seq ?k)) | ((with_reducible refine' Dh.g_next ?k)) | ((with_reducible refine' Dh.g_nonA ?k)) | ((with_reducible refine' Dh.g_var ?q0 ?k); (case q0 => rfl)) | ((with_reducible refine' Dh.g_c ?k)) | ((with_reducible refine' Dh.g_op ?k)) | ((with_reducible refine' Dh.g_asg ?k)) | ((with_reducible refine' Dh.g_name ?k)) | ((with_reducible refine' Dh.g_ifS ?k)) | ((with_reducible refine' Dh.g_test ?k)) | ((with_reducible refine' Dh.g_isB ?k)) | ((with_reducible refine' Dh.g_B ?k)) | ((with_reducible refine' Dh.g_ret ?k)) | ((with_reducible refine' Dh.g_retN ?k)) | ((with_reducible refine' Dh.g_drop ?k)) | ((with_reducible refine' Dh.g_brk ?k)) | ((with_reducible refine' Dh.g_cont ?k)) | ((with_reducible refine' Dh.g_un ?k)) | ((with_reducible refine' Dh.g_I0 ?k)) | ((with_reducible refine' Dh.g_addI ?k)) | ((with_reducible refine' Dh.g_addB ?k)) | ((with_reducible refine' Dh.g_addS ?q0 ?k); (case q0 => walk_at "side")) | ((with_reducible refine' Dh.g_addM ?q0 ?q1 ?q2 ?k); (case q0 => walk_at "pk"); (case q1 => walk_at "pk"); (case q2 => walk_at "side"); intro _) | ((with_reducible refine' Dh.g_addL ?q0 ?q1 ?q2 ?k); (case q0 => walk_at "pk"); (case q1 => walk_at "pk"); (case q2 => walk_at "side"); intro _))
local macro_rules | `(tactic| walk_at "vcp1") => `(tactic| first | ((with_reducible refine' Dh.g_I ?q0 ?k); (case q0 => walk_at "side")) | ((with_reducible refine' Dh.g_mulI ?q0 ?k); (case q0 => walk_at "side")) | ((with_reducible refine' Dh.g_U ?k)) | ((with_reducible refine' Dh.g_eqS ?q0 ?k); (case q0 => rfl)) | ((with_reducible refine' Dh.g_neS ?q0 ?k); (case q0 => rfl)) | ((with_reducible refine' Dh.g_eqLL ?q0 ?q1 ?k); (case q0 => walk_at "pk"); (case q1 => walk_at "pk")) | ((with_reducible refine' Dh.g_neLL ?q0 ?q1 ?k); (case q0 => walk_at "pk"); (case q1 => walk_at "pk")) | ((with_reducible refine' Dh.g_eqL0 ?q0 ?q1 ?k); (case q0 => walk_at "pk"); (case q1 => walk_at "pk")) | ((with_reducible refine' Dh.g_neL0 ?q0 ?q1 ?k); (case q0 => walk_at "pk"); (case q1 => walk_at "pk")) | ((with_reducible refine' Dh.g_neT0 ?q0 ?q1 ?q2 ?k); (case q0 => walk_at "pk"); (case q1 => walk_at "pk"); (case q2 => walk_at "pk")) | ((with_reducible refine' Dh.g_neP ?q0 ?q1 ?k); (case q0 => walk_at "pk"); (case q1 => walk_at "pk")) | ((with_reducible refine' Dh.g_inI ?q0 ?k); (case q0 => walk_at "pk")) | ((with_reducible refine' Dh.g_isN ?k)) | ((with_reducible refine' Dh.g_notN ?k)) | ((with_reducible refine' Dh.g_ixL ?q0 ?q1 ?k); (case q0 => walk_at "pk"); (case q1 => walk_at "lk")) | ((with_reducible refine' Dh.g_ixT ?q0 ?q1 ?k); (case q0 => walk_at "pk"); (case q1 => walk_at "lk")) | ((with_reducible refine' Dh.g_sl ?k)) | ((with_reducible refine' Dh.g_noPart ?k)) | ((with_reducible refine' Dh.g_part ?k)) | ((with_reducible refine' Dh.g_isSomeInt ?k)) | ((with_reducible refine' Dh.g_slTk ?q0 ?k); (case q0 => walk_at "pk"); intro _) | ((with_reducible refine' Dh.g_slDr ?q0 ?k); (case q0 => walk_at "pk"); intro _) | ((with_reducible refine' Dh.g_slL ?q0 ?k); (case q0 => walk_at "pk"); intro _) | ((with_reducible refine' Dh.g_slQTk ?q0 ?k); (case q0 => walk_at "pk"); intro _))
local macro_rules | `(tactic| walk_at "vcp2") => `(tactic| first | ((with_reducible refine' Dh.g_slQ ?q0 ?k); (case q0 => walk_at "pk"); intro _) | ((with_reducible refine' Dh.g_fldE ?k)) | ((with_reducible refine' Dh.g_fld ?q0 ?q1 ?k); (case q0 => walk_at "pk"); (case q1 => walk_at "lk")) | ((with_reducible refine' Dh.g_tup ?k)) | ((with_reducible refine' Dh.g_lst ?k)) | ((with_reducible refine' Dh.g_newT ?q0 ?k); (case q0 => walk_at "side"); intro _) | ((with_reducible refine' Dh.g_newL ?q0 ?k); (case q0 => walk_at "side"); intro _) | ((with_reducible refine' Dh.g_nil ?k)) | ((with_reducible refine' Dh.g_cons ?k)) | ((with_reducible refine' Dh.g_call ?k)) | ((with_reducible refine' Dh.g_methE ?k)) | ((with_reducible refine' Dh.g_meth ?q0 ?k); (case q0 => walk_at "hasm")) | ((with_reducible refine' Dh.g_make ?k)) | ((with_reducible refine' Dh.g_made ?k); intro _) | ((with_reducible refine' Dh.g_cb ?k)) | ((with_reducible refine' Dh.g_int ?k)) | ((with_reducible refine' Dh.g_intB ?k)) | ((with_reducible refine' Dh.g_abs ?k)) | ((with_reducible refine' Dh.g_max2 ?k)) | ((with_reducible refine' Dh.g_min2 ?k)) | ((with_reducible refine' Dh.g_strI ?q0 ?k); (case q0 => walk_at "side")) | ((with_reducible refine' Dh.g_lenL ?q0 ?k); (case q0 => walk_at "pk")) | ((with_reducible refine' Dh.g_lenT ?q0 ?k); (case q0 => walk_at "pk")) | ((with_reducible refine' Dh.g_lenD ?q0 ?k); (case q0 => walk_at "pk")))
local macro_rules | `(tactic| walk_at "vcp3") => `(tactic| first | ((with_reducible refine' Dh.g_listL ?q0 ?k); (case q0 => walk_at "pk"); intro _) | ((with_reducible refine' Dh.g_listT ?q0 ?k); (case q0 => walk_at "pk"); intro _) | ((with_reducible refine' Dh.g_tupL ?q0 ?k); (case q0 => walk_at "pk"); intro _) | ((with_reducible refine' Dh.g_tupT ?q0 ?k); (case q0 => walk_at "pk")) | ((with_reducible refine' Dh.g_pop0 ?q0 ?k); (case q0 => walk_at "pk")) | ((with_reducible refine' Dh.g_bm ?k)) | ((with_reducible refine' Dh.g_bm0 ?k)) | ((with_reducible refine' Dh.g_tyL ?q0 ?k); (case q0 => walk_at "pk")) | ((with_reducible refine' Dh.g_append ?q0 ?q1 ?k); (case q0 => walk_at "pk"); (case q1 => walk_at "side")) | ((with_reducible refine' Dh.g_rep ?q0 ?q1 ?q2 ?q3 ?k); (case q0 => walk_at "pk"); (case q1 => walk_at "side"); (case q2 => walk_at "side"); (case q3 => walk_at "side"); intro _) | ((with_reducible refine' Dh.g_not ?k)) | ((with_reducible refine' Dh.g_tand ?k)) | ((with_reducible refine' Dh.g_tor ?k)) | ((with_reducible refine' Dh.g_andV ?k)) | ((with_reducible refine' Dh.g_orV ?k)) | ((with_reducible refine' Dh.g_notV ?k)) | ((with_reducible refine' Dh.g_ifE ?k)) | ((with_reducible refine' Dh.g_chain ?k)) | ((with_reducible refine' Dh.g_tru ?k)) | ((with_reducible refine' Dh.g_truB ?k)) | ((with_reducible refine' Dh.g_truI ?k)) | ((with_reducible refine' Dh.g_truN ?k)) | ((with_reducible refine' Dh.g_truL ?q0 ?k); (case q0 => walk_at "pk")) | ((with_reducible refine' Dh.g_gsub ?k)))
local macro_rules | `(tactic| walk_at "vcp4") => `(tactic| first | ((with_reducible refine' Dh.g_setM ?q0 ?q1 ?k); (case q0 => walk_at "pk"); (case q1 => walk_at "lk")) | ((with_reducible refine' Dh.g_setL ?q0 ?q1 ?k); (case q0 => walk_at "pk"); (case q1 => walk_at "lk")) | ((with_reducible refine' Dh.g_gtup ?q0 ?q1 ?k); (case q0 => walk_at "pk"); (case q1 => rfl)) | ((with_reducible refine' Dh.g_gnil ?k)) | ((with_reducible refine' Dh.g_gcons ?k)) | ((with_reducible refine' Dh.g_par ?k)) | ((with_reducible refine' Dh.g_par2 ?k)) | ((with_reducible refine' Dh.g_par3 ?k)) | ((with_reducible refine' Dh.g_par3b ?k)) | ((with_reducible refine' Dh.g_listRg ?k)) | ((with_reducible refine' Dh.g_rg1E ?k)) | ((with_reducible refine' Dh.g_rg1 ?k)) | ((with_reducible refine' Dh.g_rgN ?q0 ?k); (case q0 => walk_at "side"); intro _) | ((with_reducible refine' Dh.g_rgL ?q0 ?k); (case q0 => walk_at "side"); intro _) | ((with_reducible refine' Dh.g_dinE ?k)) | ((with_reducible refine' Dh.g_dinI ?q0 ?k); (case q0 => walk_at "pk")) | ((with_reducible refine' Dh.g_dnotinE ?k)) | ((with_reducible refine' Dh.g_dnotinI ?q0 ?k); (case q0 => walk_at "pk")) | ((with_reducible refine' Dh.g_dgetE ?k)) | ((with_reducible refine' Dh.g_dgetI ?q0 ?q1 ?k); (case q0 => walk_at "pk"); (case q1 => walk_at "lk")) | ((with_reducible refine' Dh.g_dputE ?k)) | ((with_reducible refine' Dh.g_dputI ?q0 ?q1 ?k); (case q0 => walk_at "pk"); (case q1 => walk_at "side")) | ((with_reducible refine' Dh.g_dpopE ?k)) | ((with_reducible refine' Dh.g_dpopA ?q0 ?k); (case q0 => walk_at "pk")))
local macro_rules | `(tactic| walk_at "vcp5") => `(tactic| first | ((with_reducible refine' Dh.g_dpopB ?q0 ?q1 ?k); (case q0 => walk_at "pk"); (case q1 => walk_at "lk")) | ((with_reducible refine' Dh.g_dnew ?k); intro _) | ((with_reducible refine' Dh.g_ipMul ?q0 ?k); (case q0 => walk_at "side")) | ((with_reducible refine' Dh.g_sfldE ?k)) | ((with_reducible refine' Dh.g_sfld ?q0 ?q1 ?q2 ?k); (case q0 => walk_at "pk"); (case q1 => walk_at "pf"); (case q2 => walk_at "ln")) | ((with_reducible refine' Dh.g_augE ?k)) | ((with_reducible refine' Dh.g_augF ?q0 ?q1 ?k); (case q0 => walk_at "pk"); (case q1 => walk_at "lk")) | ((with_reducible refine' Dh.g_augV ?q0 ?k); (case q0 => rfl)) | ((with_reducible refine' Dh.g_ipI ?k)) | ((with_reducible refine' Dh.g_rAdd ?k)) | ((with_reducible refine' Dh.g_rSub ?k)) | ((with_reducible refine' Dh.g_for ?k)) | ((with_reducible refine' Dh.g_iRng1 ?k)) | ((with_reducible refine' Dh.g_iRng2 ?k)) | ((with_reducible refine' Dh.g_rng1 ?q0 ?q1 ?k); (case q0 => walk_at "side"); (case q1 => walk_at "side")) | ((with_reducible refine' Dh.g_rng2 ?q0 ?k); (case q0 => walk_at "side")) | ((with_reducible refine' Dh.g_iSeqE ?k)) | ((with_reducible refine' Dh.g_iSeqL ?q0 ?k); (case q0 => walk_at "pk")) | ((with_reducible refine' Dh.g_iSeqT ?q0 ?k); (case q0 => walk_at "pk")) | ((with_reducible refine' Dh.g_inK ?q0 ?k); (case q0 => walk_at "kt")) | ((with_reducible refine' Dh.g_notInK ?q0 ?k); (case q0 => walk_at "kt")) | ((with_reducible refine' Dh.g_isiII ?k)) | ((with_reducible refine' Dh.g_isiIB ?k)) | ((with_reducible refine' Dh.g_dinS ?q0 ?k); (case q0 => walk_at "pk")))
local macro_rules | `(tactic| walk_at "vcp6") => `(tactic| first | ((with_reducible refine' Dh.g_dnotinS ?q0 ?k); (case q0 => walk_at "pk")) | ((with_reducible refine' Dh.g_dgetS ?q0 ?q1 ?k); (case q0 => walk_at "pk"); (case q1 => walk_at "lk")) | ((with_reducible refine' Dh.g_dputS ?q0 ?q1 ?k); (case q0 => walk_at "pk"); (case q1 => walk_at "side")) | ((with_reducible refine' Dh.g_dpopS ?q0 ?q1 ?k); (case q0 => walk_at "pk"); (case q1 => walk_at "lk")) | ((with_reducible refine' Dh.g_iRevE ?k)) | ((with_reducible refine' Dh.g_iRevL ?q0 ?k); (case q0 => walk_at "pk")) | ((with_reducible refine' Dh.g_iRevT ?q0 ?k); (case q0 => walk_at "pk")) | ((with_reducible refine' Dh.g_iZipE ?k)) | ((with_reducible refine' Dh.g_iZipL ?q0 ?q1 ?k); (case q0 => walk_at "pk"); (case q1 => walk_at "pk")) | ((with_reducible refine' Dh.g_iZipT ?q0 ?q1 ?k); (case q0 => walk_at "pk"); (case q1 => walk_at "pk")) | ((with_reducible refine' Dh.g_iEnumE ?k)) | ((with_reducible refine' Dh.g_iEnum ?q0 ?k); (case q0 => walk_at "pk")) | ((with_reducible refine' Dh.g_dcE ?k)) | ((with_reducible refine' Dh.g_dturn ?k)) | ((with_reducible refine' Dh.g_sum ?q0 ?k); (case q0 => walk_at "pk")) | ((with_reducible refine' Dh.g_pop ?q0 ?q1 ?k); (case q0 => walk_at "pk"); (case q1 => walk_at "lk")) | ((with_reducible refine' Dh.g_wbody ?k)) | ((with_reducible refine' Dh.g_lcE ?k)) | ((with_reducible refine' Dh.g_turn ?k)) | ((with_reducible refine' Dh.g_tYes ?k)) | ((with_reducible refine' Dh.g_rs ?k)) | ((with_reducible refine' Dh.g_rsW ?k)) | ((with_reducible refine' Dh.g_told ?k)) | ((with_reducible refine' Dh.g_ifT ?q0 ?k); (case q0 => rfl)))
local macro_rules | `(tactic| walk_at "vcp7") => `(tactic| first | ((with_reducible refine' Dh.g_ifF ?q0 ?k); (case q0 => rfl)) | ((with_reducible refine' Dh.g_and ?q0 ?k); (case q0 => rfl)) | ((with_reducible refine' Dh.g_turn ?k)))
local macro_rules | `(tactic| walk_at "vc1") => `(tactic| first | walk_at "vcp0" | walk_at "vcp1" | walk_at "vcp2" | walk_at "vcp3" | walk_at "vcp4" | walk_at "vcp5" | walk_at "vcp6" | walk_at "vcp7" | walk_at "use1" | walk_at "told1")
local macro_rules | `(tactic| walk_at "vc") => `(tactic| repeat walk_at "vc1")
local macro_rules | `(tactic| walk_at "spl") => `(tactic| first | ((with_reducible refine Dh.g_ifD ?_ ?_) <;> intro _) | ((with_reducible refine Dh.g_ifN ?_ ?_) <;> intro _) | ((with_reducible refine Dh.g_if ?_ ?_) <;> intro _))
local macro_rules | `(tactic| walk_at "vcs") => `(tactic| repeat' (first | walk_at "vc1" | walk_at "spl"))
local macro_rules | `(tactic| walk_at "told1") => `(tactic| first | ((with_reducible refine' Dh.g_toldY (Toy.Txt.x_BadWord_BadWord ?z) ?k); (case z => assumption)))
local macro_rules | `(tactic| walk_at "use1") => `(tactic| ((with_reducible refine' Toy.use_law_dice (fun _ _ _ _ => ?k0))))
local macro_rules | `(tactic| walk_at "use1") => `(tactic| ((with_reducible refine' Toy.use_law_roll ?q0 ?h0 ?h1 (fun _ _ => ?k0)); (case q0 => walk_at "pk"); (case h0 => walk_at "side"); (case h1 => walk_at "side")))
local macro_rules | `(tactic| walk_at "use1") => `(tactic| ((with_reducible refine' Toy.use_power ?h0 ?h1 ?k0); (case h0 => walk_at "side"); (case h1 => walk_at "side")))
local macro_rules | `(tactic| walk_at "use") => `(tactic| ((with_reducible refine' Toy.use_check_word ?h0 ?h1 (fun _ => ?k0) (fun _ _ => ?k1)); (case h0 => walk_at "side"); (case h1 => walk_at "side")))
local macro_rules | `(tactic| walk_at "use1") => `(tactic| ((with_reducible refine' Toy.use_field ?h0 ?h1 ?h2 ?h3 ?k0); (case h0 => walk_at "side"); (case h1 => walk_at "side"); (case h2 => walk_at "side"); (case h3 => walk_at "side")))
local macro_rules | `(tactic| walk_at "use") => `(tactic| ((with_reducible refine' Toy.use_with_field ?h0 ?h1 ?h2 ?h3 (fun _ => ?k0) (fun _ _ => ?k1)); (case h0 => walk_at "side"); (case h1 => walk_at "side"); (case h2 => walk_at "side"); (case h3 => walk_at "side")))
local macro_rules | `(tactic| walk_at "use1") => `(tactic| ((with_reducible refine' Toy.use_bits ?h0 ?h1 (fun _ => ?k0)); (case h0 => walk_at "side"); (case h1 => walk_at "side")))
local macro_rules | `(tactic| walk_at "use1") => `(tactic| ((with_reducible refine' Toy.use_of_bits ?q0 ?h0 ?k0); (case q0 => walk_at "pk"); (case h0 => walk_at "side")))
local macro_rules | `(tactic| walk_at "use1") => `(tactic| ((with_reducible refine' Toy.use_both ?h0 ?h1 ?k0); (case h0 => walk_at "side"); (case h1 => walk_at "side")))
local macro_rules | `(tactic| walk_at "use1") => `(tactic| ((with_reducible refine' Toy.use_either ?h0 ?h1 ?k0); (case h0 => walk_at "side"); (case h1 => walk_at "side")))
local macro_rules | `(tactic| walk_at "use1") => `(tactic| ((with_reducible refine' Toy.use_without ?h0 ?h1 ?k0); (case h0 => walk_at "side"); (case h1 => walk_at "side")))
local macro_rules | `(tactic| walk_at "use1") => `(tactic| ((with_reducible refine' Toy.use_turned_octets ?h0 ?h1 ?k0); (case h0 => walk_at "side"); (case h1 => walk_at "side")))
local macro_rules | `(tactic| walk_at "use") => `(tactic| ((with_reducible refine' Toy.use_Register___init__ ?q0 ?q1 ?q2 ?h0 ?h1 (fun _ => ?k0) (fun _ _ => ?k1)); (case q0 => walk_at "pk"); (case q1 => walk_at "pk"); (case q2 => walk_at "pk"); (case h0 => walk_at "side"); (case h1 => walk_at "side")))
local macro_rules | `(tactic| walk_at "use1") => `(tactic| ((with_reducible refine' Toy.use_Register_read ?q0 ?k0); (case q0 => walk_at "pk")))
local macro_rules | `(tactic| walk_at "use") => `(tactic| ((with_reducible refine' Toy.use_Register_write ?q0 ?h0 ?h1 ?h2 ?h3 ?h4 ?h5 (fun _ => ?k0) (fun _ _ => ?k1)); (case q0 => walk_at "pk"); (case h0 => walk_at "side"); (case h1 => walk_at "side"); (case h2 => walk_at "side"); (case h3 => walk_at "side"); (case h4 => walk_at "side"); (case h5 => walk_at "side")))
local macro_rules | `(tactic| walk_at "use") => `(tactic| ((with_reducible refine' Toy.use_Register_row_of ?q0 (fun _ => ?k0) (fun _ _ _ => ?k1)); (case q0 => walk_at "pk")))
local macro_rules | `(tactic| walk_at "use") => `(tactic| ((with_reducible refine' Toy.use_Register_get ?q0 ?h0 (fun _ => ?k0) (fun _ _ => ?k1)); (case q0 => walk_at "pk"); (case h0 => walk_at "side")))
local macro_rules | `(tactic| walk_at "use1") => `(tactic| ((with_reducible refine' Toy.use_Register_put ?q0 ?h0 ?h1 ?h2 ?k0); (case q0 => walk_at "pk"); (case h0 => walk_at "side"); (case h1 => walk_at "side"); (case h2 => walk_at "side")))
local macro_rules | `(tactic| walk_at "use1") => `(tactic| ((with_reducible refine' Toy.use_law_rounds ?q0 ?h0 (fun _ _ => ?k0)); (case q0 => walk_at "pk"); (case h0 => walk_at "side")))
local macro_rules | `(tactic| walk_at "use1") => `(tactic| ((with_reducible refine' Toy.use_law_bits (fun _ => ?k0))))
local macro_rules | `(tactic| walk_at "use1") => `(tactic| ((with_reducible refine' Toy.use_law_two ?h0 ?h1 ?k0); (case h0 => walk_at "side"); (case h1 => walk_at "side")))
namespace Toy
open PySem L2
section
variable {P : Program} {w : World} {K : PySem.W.Frag} {mg : Str → Option Value} {base : Heap} {T : List (Addr × Str)} {C_Register C_BadWord C_BadPlace C_BadPlan C_NotDue C_Stuck C_BadBits C_BadText C_TooLarge g_told g_RULES : Addr}
theorem cmul_l {i j : Int} (h1 : -(2 ^ 63) ≤ i) (h2 : i ≤ 2 ^ 63) : L2.CMul i j := by
  simp only [L2.CMul]
  omega
theorem cmul_r {i j : Int} (h1 : -(2 ^ 63) ≤ j) (h2 : j ≤ 2 ^ 63) : L2.CMul i j := by
  simp only [L2.CMul]
  omega
theorem cdiv_l {i j : Int} (h1 : 0 < j) (h2 : j ≤ 16777216) : L2.CDiv i j := by
  simp only [L2.CDiv]
  omega
theorem rule5 {r : Nat} (h : (r : Int) < 5) : ∃ s, atI [V.str "plain", V.str "read", V.str "clear", V.str "once", V.str "pulse"] (r : Int) = some (.str s) ∧ s ∈ rules := by
  rcases (show r = 0 ∨ r = 1 ∨ r = 2 ∨ r = 3 ∨ r = 4 by omega) with rfl | rfl | rfl | rfl | rfl
  all_goals exact ⟨_, rfl, by simp [rules]⟩
theorem nm_len2 {k : Nat} (h : k < 4) : ("f" : Str).length + ((toString (k : Int)) : Str).length ≤ sizeLine := by
  have key : ∀ a ∈ List.range 4, ("f" : Str).length + ((toString (a : Int)) : Str).length ≤ sizeLine := by decide +kernel
  exact key k (List.mem_range.mpr h)
theorem wstep_len {x : Int} {s : RSt} {f : Fd} : (wstep x s f).2.1.length ≤ s.2.1.length + 1 ∧ (wstep x s f).2.2.length ≤ s.2.2.length + 1 := by
  unfold wstep
  split
  · exact ⟨Dh.addK_len, Nat.le_succ _⟩
  · split
    · exact ⟨Nat.le_succ _, Nat.le_succ _⟩
    · split
      · exact ⟨Nat.le_succ _, by simp⟩
      · exact ⟨Nat.le_succ _, Nat.le_succ _⟩
theorem wfold_len {x : Int} : ∀ {fl : List Fd} {s : RSt}, (fl.foldl (wstep x) s).2.1.length ≤ s.2.1.length + fl.length ∧ (fl.foldl (wstep x) s).2.2.length ≤ s.2.2.length + fl.length
  | [], s => ⟨Nat.le_refl _, Nat.le_refl _⟩
  | f :: fl, s => by
    have h1 := wfold_len (x := x) (fl := fl) (s := wstep x s f)
    have h2 := wstep_len (x := x) (s := s) (f := f)
    rw [List.foldl_cons, List.length_cons]
    omega
theorem wstep_ok {x : Int} {s : RSt} {f : Fd} (hf : PyData.strOk f.nm = true) (hs : ∀ q ∈ s.2.2, PyData.strOk q.1 = true) : ∀ q ∈ (wstep x s f).2.2, PyData.strOk q.1 = true := by
  unfold wstep
  split
  · exact hs
  · split
    · exact hs
    · split
      · intro q hq
        rcases List.mem_append.mp hq with h | h
        · exact hs q h
        · rw [List.mem_singleton] at h
          rw [h]
          exact hf
      · exact hs
theorem wfold_ok {x : Int} : ∀ {fl : List Fd} {s : RSt}, (∀ f ∈ fl, PyData.strOk f.nm = true) → (∀ q ∈ s.2.2, PyData.strOk q.1 = true) → ∀ q ∈ (fl.foldl (wstep x) s).2.2, PyData.strOk q.1 = true
  | [], _, _, h => h
  | f :: fl, s, hf, h => wfold_ok (fl := fl) (s := wstep x s f) (fun g hg => hf g (List.mem_cons_of_mem _ hg)) (wstep_ok (hf f List.mem_cons_self) h)
theorem fl4_str {rs : List Str} : ∀ f ∈ fl4 rs, PyData.strOk f.nm = true := fun f hf => by
  obtain ⟨k, hk, rfl⟩ := List.mem_map.mp hf
  exact nm_lay (List.mem_range.mp hk)
theorem sum_val {ms : List Int} (hl : ms.length = 4) : ((List.range 4).map fun j : Nat => ms.getD j 0 * pw (2 * (j : Int))).sum = val ms := by
  match ms, hl with
  | [a, b, c, d], _ =>
    show a * 1 + (b * 4 + (c * 16 + (d * 64 + 0))) = val [a, b, c, d]
    simp only [val]
    omega
theorem get_all {ms : List Int} (hl : ms.length = 4) : ((List.range 4).map fun j : Nat => V.int (ms.getD j 0)) = ms.map V.int := by
  match ms, hl with
  | [a, b, c, d], _ => rfl
theorem lays_ps : ∀ {ps : List (Str × Int)}, (∀ q ∈ ps, PyData.strOk q.1 = true) → Dh.Dt.lays (ps.map pdt) = true
  | [], _ => rfl
  | q :: ps, h => by
    show (((PyData.strOk q.1 && (true && true)) && Dh.Dt.lays (ps.map pdt)) = true)
    rw [h q List.mem_cons_self, lays_ps fun r hr => h r (List.mem_cons_of_mem _ hr)]
    rfl
theorem deps_ps (ps : List (Str × Int)) : Dh.Dt.deps (ps.map pdt) ≤ 60 := Dh.deps_map (m := 60) (fun q => by simp [pdt, Dh.Dt.dep, Dh.Dt.deps]) ps
def RInv (C d pr x : Addr) (rs : List Str) (R : List Dh.HP) : Nat → Dh.SI := fun i σ L => ∃ (am aw ap : Addr) (ms : List Int) (ws : List Bool) (wl : List Key) (ps : List (Str × Int)) (pv : List V) (v6 v7 v8 v9 v10 : Option V),
  σ = [some (.ref d), some (.ref pr), some (.ref x), some (.ref am), some (.ref aw), some (.ref ap), v6, v7, v8, v9, v10, none] ∧ R4 (val ms, wl, ps) ms ws ∧ wl.length ≤ 4 * i ∧ ps.length ≤ 4 * i ∧ (∀ q ∈ ps, PyData.strOk q.1 = true) ∧
  Dh.Ent L (Dh.pt am (.lst (ms.map .int)) :: Dh.pt aw (.lst (ws.map .bl)) :: Dh.pt ap (.lst pv) :: Dh.dvs pv (ps.map pdt) :: Dh.pt pr (.lst (rs.map .str)) :: RegAt C x 8 (fl4 rs) (val ms) wl ps :: DiceAt d :: R)
theorem g_cutS {σ : L2.St} {L : List Dh.HP} {t1 u1 : TS} {N0 : L2.St → Hp → Prop} {R0 : VK} {B0 C0 : L2.St → Hp → Prop} (I : Dh.SI) (h : Dh.Go T L fun H => t1 ⟨Dh.SI.at T I, R0, B0, C0⟩ σ H) (k : ∀ σ L, I σ L → Dh.Go T L fun H => u1 ⟨N0, R0, B0, C0⟩ σ H) :
    Dh.Go T L fun H => Evl.tCut t1 u1 ⟨N0, R0, B0, C0⟩ σ H := Dh.g_cut I h k
def sg_law_register (T : List (Addr × Str)) (K : PySem.W.Frag) (C_Register C_BadWord C_BadPlace C_BadPlan C_NotDue C_Stuck C_BadBits C_BadText C_TooLarge g_told g_RULES : Addr) : Dh.SG :=
  fun zs L Q E => ∃ (d : Addr) (R : List Dh.HP), zs = [.ref d] ∧ Dh.Ent L ((DiceAt d) :: R) ∧ (Dh.Go T ((DiceAt d) :: R) fun H => Q (.bl true) H)
theorem use_law_register {L A0 : List Dh.HP} {Q : VK} {E : XK} {d : Addr} (q0 : Dh.Pick L (DiceAt d) A0)  (k0 : Dh.Go T ((DiceAt d) :: A0) fun H => Q (.bl true) H) : Dh.Go T L fun H => Dh.sOfN T 1 (sg_law_register T K C_Register C_BadWord C_BadPlace C_BadPlan C_NotDue C_Stuck C_BadBits C_BadText C_TooLarge g_told g_RULES) [.ref d] H Q E := Dh.g_sp rfl ⟨d, A0, rfl, (Dh.ent_cons q0 Dh.ent_refl), k0⟩
local macro_rules | `(tactic| walk_at "use1") => `(tactic| ((with_reducible refine' Toy.use_law_register ?q0 ?k0); (case q0 => walk_at "pk")))
set_option maxHeartbeats 8000000 in
theorem ok_law_register (Z : Txt K mg C_Register C_BadWord C_BadPlace C_BadPlan C_NotDue C_Stuck C_BadBits C_BadText C_TooLarge g_told g_RULES) (c_Register : Dh.MakX P w K mg base 1 "Register" C_Register (Dh.sOfN T 3 (sg_Register___init__ T K C_Register C_BadWord C_BadPlace C_BadPlan C_NotDue C_Stuck C_BadBits C_BadText C_TooLarge g_told g_RULES))) (c_Register_get : Dh.MetX P w K mg base 3 C_Register "get" (Dh.sOfN T 2 (sg_Register_get T K C_Register C_BadWord C_BadPlace C_BadPlan C_NotDue C_Stuck C_BadBits C_BadText C_TooLarge g_told g_RULES))) (c_Register_put : Dh.MetX P w K mg base 4 C_Register "put" (Dh.sOfN T 3 (sg_Register_put T K C_Register C_BadWord C_BadPlace C_BadPlan C_NotDue C_Stuck C_BadBits C_BadText C_TooLarge g_told g_RULES))) (c_Register_read : Dh.MetX P w K mg base 1 C_Register "read" (Dh.sOfN T 1 (sg_Register_read T K C_Register C_BadWord C_BadPlace C_BadPlan C_NotDue C_Stuck C_BadBits C_BadText C_TooLarge g_told g_RULES))) (c_Register_write : Dh.MetX P w K mg base 5 C_Register "write" (Dh.sOfN T 2 (sg_Register_write T K C_Register C_BadWord C_BadPlace C_BadPlan C_NotDue C_Stuck C_BadBits C_BadText C_TooLarge g_told g_RULES))) (c_law_roll : Dh.CalX P w K mg base 1 "_law_roll" (Dh.sOfN T 2 (sg_law_roll T K C_Register C_BadWord C_BadPlace C_BadPlan C_NotDue C_Stuck C_BadBits C_BadText C_TooLarge g_told g_RULES))) (c_law_two : Dh.CalX P w K mg base 1 "_law_two" (Dh.sOfN T 1 (sg_law_two T K C_Register C_BadWord C_BadPlace C_BadPlan C_NotDue C_Stuck C_BadBits C_BadText C_TooLarge g_told g_RULES))) {f : Addr} {fd : FuncData} {cdv : Value} (F : Dh.FunC K "_law_register" "_law_register" s_law_register f fd cdv) :
    FnOk P w K mg base (L2.CX P w) 6 f fd ["dice"] (Dh.sOfN T 1 (sg_law_register T K C_Register C_BadWord C_BadPlace C_BadPlan C_NotDue C_Stuck C_BadBits C_BadText C_TooLarge g_told g_RULES)) := by
  refine Dh.fnX (k := 5) F sc_law_register rfl (fun A outer s H0 L vs Q E hr hl h => ?_)
  refine ⟨_, (pss_cons (ps_set (i := 1) sc_law_register.nd rfl (by first | exact Or.inl rfl | exact Or.inr rfl) (pe_lc (own := [("k", 8)]) (g := (gName 8)) (tt := tYes) rfl sc_law_register.nd (pi_range1 rfl Z.b_range (pa_cons pe_int pa_nil)) (blkOk_by (own := [("k", 8)]) (N := N_law_register) (by kernel_rfl)) (fun _ _ _ _ _ => (pg_name (i := 8) sc_law_register.nd rfl (by first | exact Or.inl rfl | exact Or.inr rfl))) (fun _ _ _ _ _ => pts_nil) (fun _ _ _ _ _ => (pe_ix (Dh.xSeq (K := K) rfl) (pe_lst (pa_cons pe_str (pa_cons pe_str (pa_cons pe_str (pa_cons pe_str (pa_cons pe_str pa_nil)))))) (Dh.pe_cal c_law_roll hr (by decide) passL rfl (pa_cons (pv 0) (pa_cons pe_int pa_nil))) (fun _ _ => rfl)))))
    (pss_cons (ps_set (i := 2) sc_law_register.nd rfl (by first | exact Or.inl rfl | exact Or.inr rfl) (Dh.pe_mak c_Register hr (by decide) (passes_call (takes_of rfl rfl rfl rfl) (fun _ _ _ _ h => h)) rfl (pa_cons pe_int (pa_cons (pe_lc (own := [("k", 8)]) (g := (gName 8)) (tt := tYes) rfl sc_law_register.nd (pi_range1 rfl Z.b_range (pa_cons pe_int pa_nil)) (blkOk_by (own := [("k", 8)]) (N := N_law_register) (by kernel_rfl)) (fun _ _ _ _ _ => (pg_name (i := 8) sc_law_register.nd rfl (by first | exact Or.inl rfl | exact Or.inr rfl))) (fun _ _ _ _ _ => pts_nil) (fun _ _ _ _ _ => (pe_tup (pa_cons (pe_op (Dh.oAdd (K := K) rfl) pe_str (pe_callTy Dh.call_strI (by rfl) Z.b_str (by first | exact PySem.boot_str | exact PyProof.Rows.boot_str | decide +kernel) (pa_cons (pv 8) pa_nil))) (pa_cons (pe_op (Dh.oMul (K := K) rfl) pe_int (pv 8)) (pa_cons pe_int (pa_cons (pe_ix (Dh.xSeq (K := K) rfl) (pv 1) (pv 8) (fun _ _ => rfl)) pa_nil))))))) pa_nil))))
    (pss_cons (ps_asg (pe_tup (pa_cons (pe_lst (pa_cons pe_int (pa_cons pe_int (pa_cons pe_int (pa_cons pe_int pa_nil))))) (pa_cons (pe_op (Dh.oMul (K := K) rfl) (pe_lst (pa_cons pe_bl pa_nil)) pe_int) (pa_cons (pe_lst pa_nil) pa_nil)))) (Dh.pgTup (K := K) rfl rfl (pgs_cons (pg_name (i := 3) sc_law_register.nd rfl (by first | exact Or.inl rfl | exact Or.inr rfl)) (pgs_cons (pg_name (i := 4) sc_law_register.nd rfl (by first | exact Or.inl rfl | exact Or.inr rfl)) (pgs_cons (pg_name (i := 5) sc_law_register.nd rfl (by first | exact Or.inl rfl | exact Or.inr rfl)) pgs_nil))) rfl rfl))
    (pss_cons (ps_for (passes_of rfl) rfl (pi_range1 rfl Z.b_range (pa_cons (Dh.pe_cal c_law_roll hr (by decide) (passes_call (takes_of rfl rfl rfl rfl) (fun _ _ _ _ h => h)) rfl (pa_cons (pv 0) (pa_cons pe_int pa_nil))) pa_nil)) (pg_name (i := 6) sc_law_register.nd rfl (by first | exact Or.inl rfl | exact Or.inr rfl))
    (pss_cons (ps_par (i := 7) (j := 8) (by rfl) sc_law_register.nd rfl rfl (by decide) rfl rfl (pa_cons (Dh.pe_cal c_law_roll hr (by decide) (passes_call (takes_of rfl rfl rfl rfl) (fun _ _ _ _ h => h)) rfl (pa_cons (pv 0) (pa_cons pe_int pa_nil))) (pa_cons (Dh.pe_cal c_law_roll hr (by decide) (passes_call (takes_of rfl rfl rfl rfl) (fun _ _ _ _ h => h)) rfl (pa_cons (pv 0) (pa_cons pe_int pa_nil))) pa_nil)) (by rfl))
    (Evl.pss_cut (ps_if (pt_cmpR (Dh.oEq (K := K) rfl hr.units) (Dh.pe_cal c_law_roll hr (by decide) (passes_call (takes_of rfl rfl rfl rfl) (fun _ _ _ _ h => h)) rfl (pa_cons (pv 0) (pa_cons pe_int pa_nil))) pe_int (nomark _))
    (pss_cons (ps_expr (Dh.pe_met c_Register_put hr (by decide) (passes_call (takes_of rfl rfl rfl rfl) (fun _ _ _ _ h => h)) (pv 2) (pa_cons (pe_op (Dh.oAdd (K := K) rfl) pe_str (pe_callTy Dh.call_strI (by rfl) Z.b_str (by first | exact PySem.boot_str | exact PyProof.Rows.boot_str | decide +kernel) (pa_cons (pv 8) pa_nil))) (pa_cons (pe_op op_mod (pv 7) pe_int) pa_nil))))
    (pss_one (ps_asg (pe_op op_mod (pv 7) pe_int) (pg_sub (pv 3) (pv 8) set_list))))
    (pss_cons (ps_expr (Dh.pe_met c_Register_write hr (by decide) (passes_call (takes_of rfl rfl rfl rfl) (fun _ _ _ _ h => h)) (pv 2) (pa_cons (pv 7) pa_nil)))
    (pss_one (ps_for (passes_of rfl) rfl (pi_range1 rfl Z.b_range (pa_cons pe_int pa_nil)) (pg_name (i := 9) sc_law_register.nd rfl (by first | exact Or.inl rfl | exact Or.inr rfl))
    (pss_cons (ps_set (i := 10) sc_law_register.nd rfl (by first | exact Or.inl rfl | exact Or.inr rfl) (pe_op op_mod (pe_op op_fdiv (pv 7) (Dh.pe_cal c_law_two hr (by decide) (passes_call (takes_of rfl rfl rfl rfl) (fun _ _ _ _ h => h)) rfl (pa_cons (pe_op (Dh.oMul (K := K) rfl) pe_int (pv 9)) pa_nil))) pe_int))
    (pss_one (ps_if (PW.pt (pw_or (pt_cmpR (Dh.oEq (K := K) rfl hr.units) (pe_ix (Dh.xSeq (K := K) rfl) (pv 1) (pv 9) (fun _ _ => rfl)) pe_str (nomark _)) (pw_or1 (PW.pt (pw_and (pt_cmpR (Dh.oEq (K := K) rfl hr.units) (pe_ix (Dh.xSeq (K := K) rfl) (pv 1) (pv 9) (fun _ _ => rfl)) pe_str (nomark _)) (pw_and1 (pt_not (Dh.ptTru (K := K) rfl (pe_ix (Dh.xSeq (K := K) rfl) (pv 4) (pv 9) (fun _ _ => rfl))))))))))
    (pss_one (ps_asg (pe_tup (pa_cons (pv 10) (pa_cons pe_bl pa_nil))) (Dh.pgTup (K := K) rfl rfl (pgs_cons (pg_sub (pv 3) (pv 9) set_list) (pgs_cons (pg_sub (pv 4) (pv 9) set_list) pgs_nil)) rfl rfl)))
    (pss_one (ps_if (pt_cmpR (Dh.oEq (K := K) rfl hr.units) (pe_ix (Dh.xSeq (K := K) rfl) (pv 1) (pv 9) (fun _ _ => rfl)) pe_str (nomark _))
    (pss_one (ps_asg (pe_callB (Dh.cSum (K := K) rfl rfl) (by rfl) Z.b_sum (by first | exact PySem.boot_sum | exact PyProof.Rows.boot_sum | decide +kernel) (pa_cons (pe_lc (own := [("n", 11)]) (g := (gName 11)) (tt := tYes) rfl sc_law_register.nd (pi_range1 rfl Z.b_range (pa_cons pe_int pa_nil)) (blkOk_by (own := [("n", 11)]) (N := N_law_register) (by kernel_rfl)) (fun _ _ _ _ _ => (pg_name (i := 11) sc_law_register.nd rfl (by first | exact Or.inl rfl | exact Or.inr rfl))) (fun _ _ _ _ _ => pts_nil) (fun _ _ _ _ _ => (pe_op (Dh.oMul (K := K) rfl) (pe_op (Dh.oMul (K := K) rfl) (Dh.pe_cal c_law_two hr (by decide) passL rfl (pa_cons (pv 11) pa_nil)) (pe_op op_mod (pe_op op_fdiv (pe_ix (Dh.xSeq (K := K) rfl) (pv 3) (pv 9) (fun _ _ => rfl)) (Dh.pe_cal c_law_two hr (by decide) passL rfl (pa_cons (pv 11) pa_nil))) pe_int)) (pe_op op_sub pe_int (pe_op op_mod (pe_op op_fdiv (pv 10) (Dh.pe_cal c_law_two hr (by decide) passL rfl (pa_cons (pv 11) pa_nil))) pe_int))))) pa_nil)) (pg_sub (pv 3) (pv 9) set_list)))
    (pss_one (ps_if (PW.pt (pw_and (pt_cmpR (Dh.oEq (K := K) rfl hr.units) (pe_ix (Dh.xSeq (K := K) rfl) (pv 1) (pv 9) (fun _ _ => rfl)) pe_str (nomark _)) (pw_and1 (pt_cmpR op_gt (pv 10) pe_int (nomark _)))))
    (pss_one (ps_expr (pe_bm PySem.F.plainAttrs_list PySem.F.slot_list_append PySem.F.type_list_append mt_append (pv 5) (pa_cons (pe_tup (pa_cons (pe_op (Dh.oAdd (K := K) rfl) pe_str (pe_callTy Dh.call_strI (by rfl) Z.b_str (by first | exact PySem.boot_str | exact PyProof.Rows.boot_str | decide +kernel) (pa_cons (pv 9) pa_nil))) (pa_cons (pv 10) pa_nil))) pa_nil))))
    pss_nil)))))))))))
    (pss_cons (ps_if (pt_cmpR (Dh.oNe (K := K) rfl hr.units) (Dh.pe_met0 c_Register_read hr (by decide) (passes_call (takes_of rfl rfl rfl rfl) (fun _ _ _ _ h => h)) (pv 2)) (pe_callB (Dh.cSum (K := K) rfl rfl) (by rfl) Z.b_sum (by first | exact PySem.boot_sum | exact PyProof.Rows.boot_sum | decide +kernel) (pa_cons (pe_lc (own := [("j", 9)]) (g := (gName 9)) (tt := tYes) rfl sc_law_register.nd (pi_range1 rfl Z.b_range (pa_cons pe_int pa_nil)) (blkOk_by (own := [("j", 9)]) (N := N_law_register) (by kernel_rfl)) (fun _ _ _ _ _ => (pg_name (i := 9) sc_law_register.nd rfl (by first | exact Or.inl rfl | exact Or.inr rfl))) (fun _ _ _ _ _ => pts_nil) (fun _ _ _ _ _ => (pe_op (Dh.oMul (K := K) rfl) (pe_ix (Dh.xSeq (K := K) rfl) (pv 3) (pv 9) (fun _ _ => rfl)) (Dh.pe_cal c_law_two hr (by decide) passL rfl (pa_cons (pe_op (Dh.oMul (K := K) rfl) pe_int (pv 9)) pa_nil))))) pa_nil)) (nomark _))
    (pss_one (ps_ret pe_bl))
    pss_nil)
    (pss_one (ps_if (PW.pt (pw_or (pt_cmpR (Dh.oNe (K := K) rfl hr.units) (pe_lc (own := [("j", 9)]) (g := (gName 9)) (tt := tYes) rfl sc_law_register.nd (pi_range1 rfl Z.b_range (pa_cons pe_int pa_nil)) (blkOk_by (own := [("j", 9)]) (N := N_law_register) (by kernel_rfl)) (fun _ _ _ _ _ => (pg_name (i := 9) sc_law_register.nd rfl (by first | exact Or.inl rfl | exact Or.inr rfl))) (fun _ _ _ _ _ => pts_nil) (fun _ _ _ _ _ => (Dh.pe_met c_Register_get hr (by decide) passL (pv 2) (pa_cons (pe_op (Dh.oAdd (K := K) rfl) pe_str (pe_callTy Dh.call_strI (by rfl) Z.b_str (by first | exact PySem.boot_str | exact PyProof.Rows.boot_str | decide +kernel) (pa_cons (pv 9) pa_nil))) pa_nil)))) (pv 3) (nomark _)) (pw_or1 (pt_cmpR (Dh.oNe (K := K) rfl hr.units) (Dh.pe_fldC Z.c_Register Z.n_Register_pulses (pv 2)) (pv 5) (nomark _)))))
    (pss_one (ps_ret pe_bl))
    pss_nil))))))
    (pss_one (ps_ret pe_bl)))))), ?_⟩
  try dsimp only [L2.cxOf, L2.Cx.blk, LamX.lamCx, L2.Cx.tr]
  obtain ⟨d, R, rfl, hE, k0⟩ := h
  refine Dh.Go.ent hE ?_
  walk_at "vc"
  refine Dh.g_lcR (n := 4) (lo := 0) (fun i acc L => ∃ rs : List Str, acc = rs.map .str ∧ rs.length = i ∧ (∀ r ∈ rs, r ∈ rules) ∧ Dh.Ent L (DiceAt d :: R)) ⟨[], rfl, rfl, by simp, Dh.ent_refl⟩ ?_ ?_
  · rintro D i acc L hi ⟨rs, rfl, hl, hr, hE⟩
    refine Dh.Go.ent (Dh.ent_tail hE) ?_
    walk_at "vc"
    rename_i r hr5
    obtain ⟨s, hs, hsr⟩ := rule5 hr5
    walk_at "vc"
    refine Dh.g_lcAdd (by walk_at "pk") (by rw [List.length_map, PySem.sizeLine_eq]; omega) ⟨rs ++ [s], by rw [List.map_append]; rfl, by rw [List.length_append, hl]; rfl, ?_, by walk_at "ent"⟩
    intro q hq
    rcases List.mem_append.mp hq with h | h
    · exact hr q h
    · rw [List.mem_singleton] at h
      rw [h]
      exact hsr
  rintro pr acc L ⟨rs, rfl, hl, hr, hE⟩
  refine Dh.Go.ent (Dh.ent_tail hE) ?_
  walk_at "vc"
  refine Dh.g_lcR (n := 4) (lo := 0) (fun i acc L => Dh.Ent L (Dh.dvs acc (((List.range i).map (fdK rs)).map fdt) :: Dh.pt pr (.lst (rs.map .str)) :: DiceAt d :: R) ∧ acc.length = i) ⟨Dh.ent_dvs (fun _ _ => .nil) Dh.ent_refl, rfl⟩ ?_ ?_
  · rintro D i acc L hi ⟨hE, hla⟩
    refine Dh.Go.ent (Dh.ent_tail hE) ?_
    rw [Int.zero_add]
    obtain ⟨sr, hs⟩ : ∃ s, rs[i]? = some s := ⟨_, List.getElem?_eq_getElem (by omega)⟩
    have hn2 := nm_len2 hi
    walk_at "vc"
    rename_i t
    refine Dh.go_dvs (vs := acc ++ [.ref t]) (ds := ((List.range (i + 1)).map (fdK rs)).map fdt) (fun H s => ?_) ?_
    · have e : fdt (fdK rs i) = .tup [.str (nm i), .int (2 * (i : Int)), .int 2, .str sr] := by
        rw [fdt, fdK, List.getD_eq_getElem?_getD, hs]
        rfl
      rw [List.range_succ, List.map_append, List.map_append, List.map_cons, List.map_nil, List.map_cons, List.map_nil, e]
      walk_at "dvp"
    refine Dh.g_lcAdd (by walk_at "pk") (by rw [PySem.sizeLine_eq]; omega) ⟨by walk_at "ent", by rw [List.length_append, hla]; rfl⟩
  rintro D acc L ⟨hE, hla⟩
  refine Dh.Go.ent (Dh.ent_tail hE) ?_
  rw [show (List.range 4).map (fdK rs) = fl4 rs from rfl]
  have h4 : (fl4 rs).length ≤ 100 := by simp [fl4]
  obtain ⟨hg1, hg2⟩ := rules4 hl hr
  walk_at "vc"
  walk_at "use"
  · rename_i h
    exact absurd h (fun z => z.elim hg1 (fun e => e hg2))
  walk_at "vc"
  rename_i x hr1 hr2 am w0 aw ap t3 tt htt
  rw [show [V.int 0, V.int 0, V.int 0, V.int 0] = [(0 : Int), 0, 0, 0].map V.int from rfl, show (List.replicate (Int.toNat 4) [V.bl false]).flatten = [false, false, false, false].map V.bl from rfl,
    show RegAt C_Register x 8 (fl4 rs) 0 [] [] = RegAt C_Register x 8 (fl4 rs) (val [0, 0, 0, 0]) [] [] from rfl]
  refine Dh.g_forR (n := tt) (lo := 0) (RInv C_Register d pr x rs R) ⟨am, aw, ap, [0, 0, 0, 0], [false, false, false, false], [], [], [], none, none, none, none, none, rfl, ⟨rfl, rfl, by simp, rfl, ?i1⟩, Nat.zero_le _, Nat.zero_le _, by simp, ?i2⟩ ?hs ?hd
  case i1 =>
    intro i hi
    rcases (show i = 0 ∨ i = 1 ∨ i = 2 ∨ i = 3 by omega) with rfl | rfl | rfl | rfl <;> rfl
  case i2 =>
    refine (Dh.ent_dvs (vs := []) (ds := ([] : List (Str × Int)).map pdt) (fun _ _ => .nil) Dh.ent_refl).trans ?_
    walk_at "ent"
  case hd =>
    rintro σ L ⟨am, aw, ap, ms, ws, wl, ps, pv, v6, v7, v8, v9, v10, rfl, hR, hwl, hps, hso, hE⟩
    refine Dh.Go.ent hE ?_
    walk_at "vc"
    exact Dh.Go.ent (by walk_at "ent") k0
  case hs =>
    rintro i σ L hi ⟨am, aw, ap, ms, ws, wl, ps, pv, v6, v7, v8, v9, v10, rfl, hR, hwl, hps, hso, hE⟩
    refine Dh.Go.ent hE ?_
    walk_at "vc"
    rename_i wd hwd k hk
    refine g_cutS (RInv C_Register d pr x rs R (i + 1)) ?m1 ?m2
    case m1 =>
      have hk4 : k < 4 := by omega
      have hms := hR.l1
      have hn2 := nm_len2 hk4
      have hf0 := fl4_ok (rs := rs) _ (List.mem_of_getElem? (fl4_at hk4))
      have hf1 := fl4_find (rs := rs) hk4
      have hf2 : 0 ≤ (wd : Int) % 4 ∧ (wd : Int) % 4 < pw (fdK rs k).many := by
        show _ ∧ _ < 4
        omega
      have hfo := fl4_ok (rs := rs)
      have hfl : (fl4 rs).length = 4 := by simp [fl4]
      walk_at "vc"
      refine Dh.g_ifD (fun hc => ?m3) (fun hc => ?m4)
      case m3 =>
        walk_at "vc"
        rw [show wf (val ms) (fdK rs k).lo (fdK rs k).many ((wd : Int) % 4) = val (ms.set k ((wd : Int) % 4)) from wf_val hR.l1 hR.bm hk4]
        have hR2 := hR.set (j := k) (x := (wd : Int) % 4) (ps := ps) hk4 (by omega)
        rw [hR.w, show wf (val ms) (2 * (k : Int)) 2 ((wd : Int) % 4) = val (ms.set k ((wd : Int) % 4)) from wf_val hR.l1 hR.bm hk4] at hR2
        refine Dh.SI.in ⟨am, aw, ap, ms.set k ((wd : Int) % 4), ws, wl, ps, pv, _, _, _, _, _, rfl, hR2, by omega, by omega, hso, by walk_at "ent"⟩
      case m4 =>
        walk_at "vc"
        walk_at "use"
        · rename_i hbad
          exact absurd ⟨by omega, by rw [show pw 8 = 256 from rfl]; exact hwd⟩ hbad
        rename_i hx0 hx1
        walk_at "vc"
        refine Dh.g_forR (n := 4) (lo := 0) (fun j σ L => ∃ (ms' : List Int) (ws' : List Bool) (pv' : List V) (v9 v10 : Option V), σ = [some (.ref d), some (.ref pr), some (.ref x), some (.ref am), some (.ref aw), some (.ref ap), some (.int (0 + (i : Int))), some (.int (wd : Int)), some (.int (k : Int)), v9, v10, none] ∧
          R4 (((fl4 rs).take j).foldl (wstep wd) (val ms, wl, ps)) ms' ws' ∧
          Dh.Ent L (Dh.pt am (.lst (ms'.map .int)) :: Dh.pt aw (.lst (ws'.map .bl)) :: Dh.pt ap (.lst pv') :: Dh.dvs pv' ((((fl4 rs).take j).foldl (wstep wd) (val ms, wl, ps)).2.2.map pdt) :: Dh.pt pr (.lst (rs.map .str)) ::
            RegAt C_Register x 8 (fl4 rs) ((fl4 rs).foldl (wstep wd) (val ms, wl, ps)).1 ((fl4 rs).foldl (wstep wd) (val ms, wl, ps)).2.1 ((fl4 rs).foldl (wstep wd) (val ms, wl, ps)).2.2 :: DiceAt d :: R)) ⟨ms, ws, pv, _, _, rfl, hR, by rw [List.take_zero, List.foldl_nil]; walk_at "ent"⟩ ?w1 ?w2
        case w2 =>
          rintro σ L ⟨ms', ws', pv', v9, v10, rfl, hR', hE⟩
          rw [List.take_of_length_le (by omega)] at hR' hE
          have hlen := wfold_len (x := wd) (fl := fl4 rs) (s := (val ms, wl, ps))
          have hokk := wfold_ok (x := wd) (fl := fl4 rs) (s := (val ms, wl, ps)) fl4_str hso
          rw [hfl] at hlen
          generalize (fl4 rs).foldl (wstep wd) (val ms, wl, ps) = F at hR' hE hlen hokk
          obtain ⟨F1, F2, F3⟩ := F
          dsimp only at hR' hE hlen hokk
          have hw := hR'.w
          dsimp only at hw
          subst hw
          refine Dh.Go.ent hE ?_
          walk_at "vc"
          refine Dh.SI.in ⟨am, aw, ap, ms', ws', F2, F3, pv', _, _, _, _, _, rfl, hR', by omega, by omega, hokk, by walk_at "ent"⟩
        case w1 =>
          rintro j σ L hj ⟨ms', ws', pv', v9, v10, rfl, hR', hE⟩
          have hstep : ((fl4 rs).take (j + 1)).foldl (wstep wd) (val ms, wl, ps) = wstep wd (((fl4 rs).take j).foldl (wstep wd) (val ms, wl, ps)) (fdK rs j) := by
            rw [List.take_add_one, fl4_at hj, List.foldl_append]
            rfl
          have hlen := (wfold_len (x := wd) (fl := (fl4 rs).take j) (s := (val ms, wl, ps))).2
          rw [hstep]
          have htk : ((fl4 rs).take j).length ≤ 4 := by rw [List.length_take]; omega
          generalize ((fl4 rs).take j).foldl (wstep wd) (val ms, wl, ps) = S at hR' hE hlen
          generalize (fl4 rs).foldl (wstep wd) (val ms, wl, ps) = F at hE ⊢
          obtain ⟨S1, S2, S3⟩ := S
          dsimp only at hR' hE hlen
          obtain ⟨m, hm⟩ : ∃ m, ms'[j]? = some m := ⟨_, List.getElem?_eq_getElem (by rw [hR'.l1]; exact hj)⟩
          have hmb := hR'.bm m (List.mem_of_getElem? hm)
          have hwj := hR'.k j hj
          obtain ⟨sr, hs⟩ : ∃ s, rs[j]? = some s := ⟨_, List.getElem?_eq_getElem (by omega)⟩
          have hrule : (fdK rs j).rule = sr := by
            show rs.getD j "" = sr
            rw [List.getD_eq_getElem?_getD, hs]
            rfl
          have hl1 := hR'.l1
          have hl2 := hR'.l2
          have hn2 := nm_len2 hj
          have hq := fld_in (w := wd) (l := 2 * (j : Int)) (n := 2)
          rw [show pw 2 = 4 from rfl] at hq
          have hp1 := pw_pos (2 * (j : Int))
          have hp2 := pw_le (n := 2 * (j : Int)) (by omega)
          refine Dh.Go.ent hE ?_
          rw [Int.zero_add]
          refine' Dh.go_dvsLen (vs := pv') (ds := S3.map pdt) ?pkq fun hplen => ?_
          (case pkq => walk_at "pk")
          rw [List.length_map] at hplen
          walk_at "vc"
          rw [show (wd : Int) / pw (2 * (j : Int)) % 4 = fld wd (2 * (j : Int)) 2 from rfl]
          by_cases hp : sr = "plain"
          · refine Dh.g_ifT (dstr hp) ?_
            walk_at "vc"
            refine Dh.SI.in ⟨ms'.set j (fld wd (2 * (j : Int)) 2), ws'.set j true, pv', _, _, rfl, ?_, ?_⟩
            · rw [wstep_p (hrule.trans hp)]
              exact (hR'.set (ps := S3) hj hq).mark hj rfl
            · rw [wstep_p (hrule.trans hp)]
              walk_at "ent"
          refine Dh.g_ifF (dstr_no hp) ?_
          walk_at "vc"
          by_cases ho : sr = "once"
          · refine Dh.g_ifT (dstr ho) ?_
            walk_at "vc"
            by_cases hk2 : Dh.hasK S2 (Sum.inr (nm j)) = true
            · rw [hk2]
              walk_at "vc"
              refine Dh.g_ifF (dstr_no (by rw [ho]; exact n_oc)) ?_
              walk_at "vc"
              refine Dh.g_ifF (dstr_no (by rw [ho]; exact n_ou)) ?_
              walk_at "vc"
              have e : wstep wd (S1, S2, S3) (fdK rs j) = (S1, S2, S3) := by
                rw [wstep_not (by rw [hrule, ho]; exact n_op) (fun z => z.2 hk2), if_neg (by rw [hrule, ho]; exact n_oc), if_neg (by rw [hrule, ho]; exact fun z => n_ou z.1)]
              rw [e]
              refine Dh.SI.in ⟨ms', ws', pv', _, _, rfl, hR', by walk_at "ent"⟩
            · rw [Bool.eq_false_iff.mpr hk2]
              walk_at "vc"
              refine Dh.SI.in ⟨ms'.set j (fld wd (2 * (j : Int)) 2), ws'.set j true, pv', _, _, rfl, ?_, ?_⟩
              · rw [wstep_o (hrule.trans ho) hk2]
                exact (hR'.set (ps := S3) hj hq).mark hj rfl
              · rw [wstep_o (hrule.trans ho) hk2]
                walk_at "ent"
          refine Dh.g_ifF (dstr_no ho) ?_
          walk_at "vc"
          have hno : ¬ ((fdK rs j).rule = "once" ∧ ¬ Dh.hasK (S1, S2, S3).2.1 (Sum.inr (fdK rs j).nm) = true) := fun z => ho (hrule.symm.trans z.1)
          have hnp : ¬ (fdK rs j).rule = "plain" := fun z => hp (hrule.symm.trans z)
          by_cases hc2 : sr = "clear"
          · refine Dh.g_ifT (dstr hc2) ?_
            walk_at "vc"
            refine Dh.g_lcRf (n := 2) (lo := 0) (fun n : Nat => V.int (pw (n : Int) * (m / pw (n : Int) % 2) * (1 - fld wd (2 * (j : Int)) 2 / pw (n : Int) % 2))) Dh.ent_refl (fun D n hn => ?_) (fun D => ?_)
            · simp only [Int.zero_add]
              have hz1 := pw_pos (n : Int)
              have hz2 := pw_le (n := (n : Int)) (by omega)
              have hc1 : L2.CMul (pw (n : Int)) (m / pw (n : Int) % 2) := cmul_l (by omega) (by omega)
              have hc2 : L2.CMul (pw (n : Int) * (m / pw (n : Int) % 2)) (1 - fld wd (2 * (j : Int)) 2 / pw (n : Int) % 2) := cmul_r (by omega) (by omega)
              have hc3 : L2.CDiv m (pw (n : Int)) := cdiv_l (by omega) (by omega)
              have hc4 : L2.CDiv (fld wd (2 * (j : Int)) 2) (pw (n : Int)) := cdiv_l (by omega) (by omega)
              clear hR hR' hE hms hf0 hf1 hf2 hwl hps hso hwj hlen hq hmb
              walk_at "vc"
              refine Dh.g_lcPut (by walk_at "pk") (by rw [PySem.sizeLine_eq]; omega) rfl (by walk_at "ent")
            obtain ⟨hw1, hw2, hw3⟩ := wo_2 hmb hq
            rw [show (List.range 2).map (fun n : Nat => V.int (pw (n : Int) * (m / pw (n : Int) % 2) * (1 - fld wd (2 * (j : Int)) 2 / pw (n : Int) % 2))) = [pw 0 * (m / pw 0 % 2) * (1 - fld wd (2 * (j : Int)) 2 / pw 0 % 2), pw 1 * (m / pw 1 % 2) * (1 - fld wd (2 * (j : Int)) 2 / pw 1 % 2)].map V.int from rfl]
            walk_at "vc"
            rw [← hw1]
            have hS : S1 = val ms' := hR'.w
            have e : wstep wd (S1, S2, S3) (fdK rs j) = (wf S1 (2 * (j : Int)) 2 (wo m (fld wd (2 * (j : Int)) 2) 2), S2, S3) := by
              rw [wstep_not hnp hno, if_pos (hrule.trans hc2)]
              show (wf S1 (2 * (j : Int)) 2 (wo (fld S1 (2 * (j : Int)) 2) (fld wd (2 * (j : Int)) 2) 2), S2, S3) = _
              rw [show fld S1 (2 * (j : Int)) 2 = m by rw [hS]; exact fld_val hR'.l1 hR'.bm hm]
            rw [e]
            refine Dh.SI.in ⟨ms'.set j (wo m (fld wd (2 * (j : Int)) 2) 2), ws', pv', _, _, rfl, hR'.set hj ⟨hw2, hw3⟩, by walk_at "ent"⟩
          refine Dh.g_ifF (dstr_no hc2) ?_
          walk_at "vc"
          have hnc : ¬ (fdK rs j).rule = "clear" := fun z => hc2 (hrule.symm.trans z)
          by_cases hu : sr = "pulse"
          · refine Dh.g_ifT (dstr hu) ?_
            walk_at "vc"
            by_cases hm0 : fld wd (2 * (j : Int)) 2 > 0
            · refine Dh.g_ifT (decide_eq_true hm0) ?_
              walk_at "vc"
              rename_i t2
              have e : wstep wd (S1, S2, S3) (fdK rs j) = (S1, S2, S3 ++ [(nm j, fld wd (2 * (j : Int)) 2)]) := by
                rw [wstep_not hnp hno, if_neg hnc, if_pos ⟨hrule.trans hu, hm0⟩]
                rfl
              rw [e]
              refine Dh.go_dvs (vs := pv' ++ [.ref t2]) (ds := (S3 ++ [(nm j, fld wd (2 * (j : Int)) 2)]).map pdt) (fun H s => ?_) ?_
              · rw [List.map_append, List.map_cons, List.map_nil, pdt]
                walk_at "dvp"
              refine Dh.SI.in ⟨ms', ws', pv' ++ [.ref t2], _, _, rfl, ⟨hR'.l1, hR'.l2, hR'.bm, hR'.w, hR'.k⟩, by walk_at "ent"⟩
            · refine Dh.g_ifF (decide_eq_false hm0) ?_
              walk_at "vc"
              have e : wstep wd (S1, S2, S3) (fdK rs j) = (S1, S2, S3) := by
                rw [wstep_not hnp hno, if_neg hnc, if_neg fun z => hm0 z.2]
              rw [e]
              refine Dh.SI.in ⟨ms', ws', pv', _, _, rfl, hR', by walk_at "ent"⟩
          · refine Dh.g_ifF (dstr_no hu) ?_
            walk_at "vc"
            have e : wstep wd (S1, S2, S3) (fdK rs j) = (S1, S2, S3) := by
              rw [wstep_not hnp hno, if_neg hnc, if_neg fun z => hu (hrule.symm.trans z.1)]
            rw [e]
            refine Dh.SI.in ⟨ms', ws', pv', _, _, rfl, hR', by walk_at "ent"⟩
    case m2 =>
      rintro σ L ⟨am, aw, ap, ms, ws, wl, ps, pv, v6, v7, v8, v9, v10, rfl, hR, hwl, hps, hso, hE⟩
      refine Dh.Go.ent hE ?_
      have hms := hR.l1
      walk_at "vc"
      refine Dh.g_lcRf (n := 4) (lo := 0) (fun j : Nat => V.int (ms.getD j 0 * pw (2 * (j : Int)))) Dh.ent_refl (fun D j hj => ?_) (fun D => ?_)
      · rw [Int.zero_add]
        obtain ⟨m, hm⟩ : ∃ m, ms[j]? = some m := ⟨_, List.getElem?_eq_getElem (by omega)⟩
        have hmb := hR.bm m (List.mem_of_getElem? hm)
        walk_at "vc"
        refine Dh.g_lcPut (by walk_at "pk") (by rw [PySem.sizeLine_eq]; omega) ?_ (by walk_at "ent")
        rw [List.getD_eq_getElem?_getD, hm]
        rfl
      rw [show (List.range 4).map (fun j : Nat => V.int (ms.getD j 0 * pw (2 * (j : Int)))) = ((List.range 4).map fun j : Nat => ms.getD j 0 * pw (2 * (j : Int))).map V.int by rw [List.map_map]; rfl]
      walk_at "vc"
      rw [sum_val hR.l1]
      refine Dh.g_ifF (by simp) ?_
      walk_at "vc"
      refine Dh.g_lcRf (n := 4) (lo := 0) (fun j : Nat => V.int (ms.getD j 0)) Dh.ent_refl (fun D j hj => ?_) (fun D => ?_)
      · rw [Int.zero_add]
        obtain ⟨m, hm⟩ : ∃ m, ms[j]? = some m := ⟨_, List.getElem?_eq_getElem (by omega)⟩
        have hn2 := nm_len2 hj
        have hfo := fl4_ok (rs := rs)
        have hfi := fl4_find (rs := rs) hj
        walk_at "vc"
        walk_at "use"
        · rename_i hno
          rw [show ("f" : Str) ++ ((toString (j : Int)) : Str) = nm j from rfl, hfi] at hno
          cases hno
        rename_i f hf
        rw [show ("f" : Str) ++ ((toString (j : Int)) : Str) = nm j from rfl, hfi] at hf
        cases hf
        refine Dh.g_lcPut (by walk_at "pk") (by rw [PySem.sizeLine_eq]; omega) ?_ (by walk_at "ent")
        rw [List.getD_eq_getElem?_getD, hm]
        exact congrArg V.int (fld_val hR.l1 hR.bm hm)
      rw [get_all hR.l1]
      walk_at "vc"
      refine Dh.g_ifF (by simp) ?_
      walk_at "vc"
      refine' Dh.Go.ent ?t1 (go_RegAt (C := C_Register) (p := x) (wide := 8) (fl := fl4 rs) (w := val ms) (wl := wl) (ps := ps) fun t0 r0 d0 vs0 pv0 => ?t2)
      (case t1 => walk_at "ent")
      case t2 =>
        walk_at "vc"
        refine Dh.g_neDs (vs := pv0) (ws := pv) (ds := ps.map pdt) (es := ps.map pdt) (r := true) (by walk_at "pk") (fun H s => by walk_at "dvp") (by walk_at "pk") (fun H s => by walk_at "dvp") (lays_ps hso) (lays_ps hso) (deps_ps ps) (deps_ps ps) (by simp only [PyData.eqv]; exact Dh.eqv_dtsR _) ?_
        walk_at "vc"
        refine fold_RegAt (C := C_Register) (p := x) (wide := 8) (fl := fl4 rs) (w := val ms) (wl := wl) (ps := ps) (t := t0) (r := r0) (d := d0) (vs := vs0) (pv := pv0) (R := Dh.pt am (.lst (ms.map .int)) :: Dh.pt aw (.lst (ws.map .bl)) :: Dh.pt ap (.lst pv) :: Dh.dvs pv (ps.map pdt) :: Dh.pt pr (.lst (rs.map .str)) :: DiceAt d :: R) (by walk_at "ent") ?_
        refine Dh.SI.in ⟨am, aw, ap, ms, ws, wl, ps, pv, _, _, _, _, _, rfl, hR, hwl, hps, hso, by walk_at "ent"⟩
end
end Toy
end

section
local macro_rules | `(tactic| walk_at "pk") => `(tactic| (with_reducible first | exact Dh.pick_here | (refine' Dh.pick_there ?p; (case p => walk_at "pk"))))
local macro_rules | `(tactic| walk_at "ent") => `(tactic| first | (with_reducible exact Dh.ent_refl) | (with_reducible exact Dh.ent_nil) | (refine' Dh.ent_cons ?q0 ?k; (case q0 => walk_at "pk"); (case k => walk_at "ent")) | (refine' Dh.ent_drop ?k; (case k => walk_at "ent")))
local macro_rules | `(tactic| walk_at "side") => `(tactic| first | (with_reducible assumption) | omega | decide | (exact Or.inl rfl) | (exact Or.inr rfl) | (exact Dh.log2_ok (by omega)) | (simp only [L2.CMul, L2.CDiv, L2.CDivN]; omega) | (unfold L2.CPow; decide) | (simp only [List.length_cons, List.length_nil, List.length_append, List.length_map, List.length_range, List.length_replicate, List.length_set, List.length_take, List.length_drop, PySem.sizeLine_eq] <;> omega))
local macro_rules | `(tactic| walk_at "dvp") => `(tactic| (with_reducible first | exact Dh.DV.int | exact Dh.DV.str | exact Dh.DV.bl | exact Dh.DV.non | exact Dh.DVs.nil | (refine' Dh.Pick.dvs ?a (by assumption); (case a => walk_at "pk")) | (refine' Dh.Pick.dv ?a (by assumption); (case a => walk_at "pk")) | (refine' Dh.DVs.cons ?a ?b; (case a => walk_at "dvp"); (case b => walk_at "dvp")) | (refine' Dh.DVs.app ?a ?b; (case a => walk_at "dvp"); (case b => walk_at "dvp")) | (refine' Dh.Pick.tup ?a (by assumption) ?b; (case a => walk_at "pk"); (case b => walk_at "dvp")) | (refine' Dh.DVs.take _ ?a; (case a => walk_at "dvp")) | (refine' Dh.DVs.drop _ ?a; (case a => walk_at "dvp")) | (refine' Dh.DVs.set _ ?a ?b; (case a => walk_at "dvp"); (case b => walk_at "dvp"))))
local macro_rules | `(tactic| walk_at "ixs") => `(tactic| first | assumption | omega | (simp only [List.length_set, List.length_map, List.length_cons, List.length_nil, List.length_append, List.length_replicate] <;> first | assumption | omega))
local macro_rules | `(tactic| walk_at "lk") => `(tactic| first | rfl | assumption | (exact Dh.ixN_lt (by walk_at "ixs")) | (exact Dh.atI_lt (by assumption)) | (exact Dh.atI_map (by assumption))  | with_reducible exact Toy.lk_Register_wide | with_reducible exact Toy.lk_Register_fields | with_reducible exact Toy.lk_Register_word | with_reducible exact Toy.lk_Register_written | with_reducible exact Toy.lk_Register_pulses | with_reducible exact Toy.no_Register_init | with_reducible exact Toy.no_Register_read | with_reducible exact Toy.no_Register_write | with_reducible exact Toy.no_Register_row_of | with_reducible exact Toy.no_Register_get | with_reducible exact Toy.no_Register_put)
local macro_rules | `(tactic| walk_at "kt") => `(tactic| assumption)
local macro_rules | `(tactic| walk_at "pf") => `(tactic| first  | with_reducible exact Toy.pf_Register_wide | with_reducible exact Toy.pf_Register_fields | with_reducible exact Toy.pf_Register_word | with_reducible exact Toy.pf_Register_written | with_reducible exact Toy.pf_Register_pulses | with_reducible exact Toy.gr_Register_wide | with_reducible exact Toy.gr_Register_fields | with_reducible exact Toy.gr_Register_word | with_reducible exact Toy.gr_Register_written | with_reducible exact Toy.gr_Register_pulses | rfl)
local macro_rules | `(tactic| walk_at "ln") => `(tactic| first  | with_reducible exact Toy.ln_Register | decide | (simp only [List.length_cons, List.length_nil] <;> omega))
local macro_rules | `(tactic| walk_at "hasm") => `(tactic| first | (refine' Toy.hasM_RegAt ?q0 ?q1; (case q0 => walk_at "pk"); (case q1 => (intros; walk_at "lk"))) | (refine' Dh.hasM_ob ?q0 ?q1; (case q0 => walk_at "pk"); (case q1 => walk_at "lk")))
local macro_rules | `(tactic| walk_at "vcp0") => `(tactic| first | ((with_reducible refine' Dh.g_seq ?k)) | ((with_reducible refine' Dh.g_next ?k)) | ((with_reducible refine' Dh.g_nonA ?k)) | ((with_reducible refine' Dh.g_var ?q0 ?k); (case q0 => rfl)) | ((with_reducible refine' Dh.g_c ?k)) | ((with_reducible refine' Dh.g_op ?k)) | ((with_reducible refine' Dh.g_asg ?k)) | ((with_reducible refine' Dh.g_name ?k)) | ((with_reducible refine' Dh.g_ifS ?k)) | ((with_reducible refine' Dh.g_test ?k)) | ((with_reducible refine' Dh.g_isB ?k)) | ((with_reducible refine' Dh.g_B ?k)) | ((with_reducible refine' Dh.g_ret ?k)) | ((with_reducible refine' Dh.g_retN ?k)) | ((with_reducible refine' Dh.g_drop ?k)) | ((with_reducible refine' Dh.g_brk ?k)) | ((with_reducible refine' Dh.g_cont ?k)) | ((with_reducible refine' Dh.g_un ?k)) | ((with_reducible refine' Dh.g_I0 ?k)) | ((with_reducible refine' Dh.g_addI ?k)) | ((with_reducible refine' Dh.g_addB ?k)) | ((with_reducible refine' Dh.g_addS ?q0 ?k); (case q0 => walk_at "side")) | ((with_reducible refine' Dh.g_addM ?q0 ?q1 ?q2 ?k); (case q0 => walk_at "pk"); (case q1 => walk_at "pk"); (case q2 => walk_at "side"); intro _) | ((with_reducible refine' Dh.g_addL ?q0 ?q1 ?q2 ?k); (case q0 => walk_at "pk"); (case q1 => walk_at "pk"); (case q2 => walk_at "side"); intro _))
local macro_rules | `(tactic| walk_at "vcp1") => `(tactic| first | ((with_reducible refine' Dh.g_I ?q0 ?k); (case q0 => walk_at "side")) | ((with_reducible refine' Dh.g_mulI ?q0 ?k); (case q0 => walk_at "side")) | ((with_reducible refine' Dh.g_U ?k)) | ((with_reducible refine' Dh.g_eqS ?q0 ?k); (case q0 => rfl)) | ((with_reducible refine' Dh.g_neS ?q0 ?k); (case q0 => rfl)) | ((with_reducible refine' Dh.g_eqLL ?q0 ?q1 ?k); (case q0 => walk_at "pk"); (case q1 => walk_at "pk")) | ((with_reducible refine' Dh.g_neLL ?q0 ?q1 ?k); (case q0 => walk_at "pk"); (case q1 => walk_at "pk")) | ((with_reducible refine' Dh.g_eqL0 ?q0 ?q1 ?k); (case q0 => walk_at "pk"); (case q1 => walk_at "pk")) | ((with_reducible refine' Dh.g_neL0 ?q0 ?q1 ?k); (case q0 => walk_at "pk"); (case q1 => walk_at "pk")) | ((with_reducible refine' Dh.g_neT0 ?q0 ?q1 ?q2 ?k); (case q0 => walk_at "pk"); (case q1 => walk_at "pk"); (case q2 => walk_at "pk")) | ((with_reducible refine' Dh.g_neP ?q0 ?q1 ?k); (case q0 => walk_at "pk"); (case q1 => walk_at "pk")) | ((with_reducible refine' Dh.g_inI ?q0 ?k); (case q0 => walk_at "pk")) | ((with_reducible refine' Dh.g_isN ?k)) | ((with_reducible refine' Dh.g_notN ?k)) | ((with_reducible refine' Dh.g_ixL ?q0 ?q1 ?k); (case q0 => walk_at "pk"); (case q1 => walk_at "lk")) | ((with_reducible refine' Dh.g_ixT ?q0 ?q1 ?k); (case q0 => walk_at "pk"); (case q1 => walk_at "lk")) | ((with_reducible refine' Dh.g_sl ?k)) | ((with_reducible refine' Dh.g_noPart ?k)) | ((with_reducible refine' Dh.g_part ?k)) | ((with_reducible refine' Dh.g_isSomeInt ?k)) | ((with_reducible refine' Dh.g_slTk ?q0 ?k); (case q0 => walk_at "pk"); intro _) | ((with_reducible refine' Dh.g_slDr ?q0 ?k); (case q0 => walk_at "pk"); intro _) | ((with_reducible refine' Dh.g_slL ?q0 ?k); (case q0 => walk_at "pk"); intro _) | ((with_reducible refine' Dh.g_slQTk ?q0 ?k); (case q0 => walk_at "pk"); intro _))
local macro_rules | `(tactic| walk_at "vcp2") => `(tactic| first | ((with_reducible refine' Dh.g_slQ ?q0 ?k); (case q0 => walk_at "pk"); intro _) | ((with_reducible refine' Dh.g_fldE ?k)) | ((with_reducible refine' Dh.g_fld ?q0 ?q1 ?k); (case q0 => walk_at "pk"); (case q1 => walk_at "lk")) | ((with_reducible refine' Dh.g_tup ?k)) | ((with_reducible refine' Dh.g_lst ?k)) | ((with_reducible refine' Dh.g_newT ?q0 ?k); (case q0 => walk_at "side"); intro _) | ((with_reducible refine' Dh.g_newL ?q0 ?k); (case q0 => walk_at "side"); intro _) | ((with_reducible refine' Dh.g_nil ?k)) | ((with_reducible refine' Dh.g_cons ?k)) | ((with_reducible refine' Dh.g_call ?k)) | ((with_reducible refine' Dh.g_methE ?k)) | ((with_reducible refine' Dh.g_meth ?q0 ?k); (case q0 => walk_at "hasm")) | ((with_reducible refine' Dh.g_make ?k)) | ((with_reducible refine' Dh.g_made ?k); intro _) | ((with_reducible refine' Dh.g_cb ?k)) | ((with_reducible refine' Dh.g_int ?k)) | ((with_reducible refine' Dh.g_intB ?k)) | ((with_reducible refine' Dh.g_abs ?k)) | ((with_reducible refine' Dh.g_max2 ?k)) | ((with_reducible refine' Dh.g_min2 ?k)) | ((with_reducible refine' Dh.g_strI ?q0 ?k); (case q0 => walk_at "side")) | ((with_reducible refine' Dh.g_lenL ?q0 ?k); (case q0 => walk_at "pk")) | ((with_reducible refine' Dh.g_lenT ?q0 ?k); (case q0 => walk_at "pk")) | ((with_reducible refine' Dh.g_lenD ?q0 ?k); (case q0 => walk_at "pk")))
local macro_rules | `(tactic| walk_at "vcp3") => `(tactic| first | ((with_reducible refine' Dh.g_listL ?q0 ?k); (case q0 => walk_at "pk"); intro _) | ((with_reducible refine' Dh.g_listT ?q0 ?k); (case q0 => walk_at "pk"); intro _) | ((with_reducible refine' Dh.g_tupL ?q0 ?k); (case q0 => walk_at "pk"); intro _) | ((with_reducible refine' Dh.g_tupT ?q0 ?k); (case q0 => walk_at "pk")) | ((with_reducible refine' Dh.g_pop0 ?q0 ?k); (case q0 => walk_at "pk")) | ((with_reducible refine' Dh.g_bm ?k)) | ((with_reducible refine' Dh.g_bm0 ?k)) | ((with_reducible refine' Dh.g_tyL ?q0 ?k); (case q0 => walk_at "pk")) | ((with_reducible refine' Dh.g_append ?q0 ?q1 ?k); (case q0 => walk_at "pk"); (case q1 => walk_at "side")) | ((with_reducible refine' Dh.g_rep ?q0 ?q1 ?q2 ?q3 ?k); (case q0 => walk_at "pk"); (case q1 => walk_at "side"); (case q2 => walk_at "side"); (case q3 => walk_at "side"); intro _) | ((with_reducible refine' Dh.g_not ?k)) | ((with_reducible refine' Dh.g_tand ?k)) | ((with_reducible refine' Dh.g_tor ?k)) | ((with_reducible refine' Dh.g_andV ?k)) | ((with_reducible refine' Dh.g_orV ?k)) | ((with_reducible refine' Dh.g_notV ?k)) | ((with_reducible refine' Dh.g_ifE ?k)) | ((with_reducible refine' Dh.g_chain ?k)) | ((with_reducible refine' Dh.g_tru ?k)) | ((with_reducible refine' Dh.g_truB ?k)) | ((with_reducible refine' Dh.g_truI ?k)) | ((with_reducible refine' Dh.g_truN ?k)) | ((with_reducible refine' Dh.g_truL ?q0 ?k); (case q0 => walk_at "pk")) | ((with_reducible refine' Dh.g_gsub ?k)))
local macro_rules | `(tactic| walk_at "vcp4") => `(tactic| first | ((with_reducible refine' Dh.g_setM ?q0 ?q1 ?k); (case q0 => walk_at "pk"); (case q1 => walk_at "lk")) | ((with_reducible refine' Dh.g_setL ?q0 ?q1 ?k); (case q0 => walk_at "pk"); (case q1 => walk_at "lk")) | ((with_reducible refine' Dh.g_gtup ?q0 ?q1 ?k); (case q0 => walk_at "pk"); (case q1 => rfl)) | ((with_reducible refine' Dh.g_gnil ?k)) | ((with_reducible refine' Dh.g_gcons ?k)) | ((with_reducible refine' Dh.g_par ?k)) | ((with_reducible refine' Dh.g_par2 ?k)) | ((with_reducible refine' Dh.g_par3 ?k)) | ((with_reducible refine' Dh.g_par3b ?k)) | ((with_reducible refine' Dh.g_listRg ?k)) | ((with_reducible refine' Dh.g_rg1E ?k)) | ((with_reducible refine' Dh.g_rg1 ?k)) | ((with_reducible refine' Dh.g_rgN ?q0 ?k); (case q0 => walk_at "side"); intro _) | ((with_reducible refine' Dh.g_rgL ?q0 ?k); (case q0 => walk_at "side"); intro _) | ((with_reducible refine' Dh.g_dinE ?k)) | ((with_reducible refine' Dh.g_dinI ?q0 ?k); (case q0 => walk_at "pk")) | ((with_reducible refine' Dh.g_dnotinE ?k)) | ((with_reducible refine' Dh.g_dnotinI ?q0 ?k); (case q0 => walk_at "pk")) | ((with_reducible refine' Dh.g_dgetE ?k)) | ((with_reducible refine' Dh.g_dgetI ?q0 ?q1 ?k); (case q0 => walk_at "pk"); (case q1 => walk_at "lk")) | ((with_reducible refine' Dh.g_dputE ?k)) | ((with_reducible refine' Dh.g_dputI ?q0 ?q1 ?k); (case q0 => walk_at "pk"); (case q1 => walk_at "side")) | ((with_reducible refine' Dh.g_dpopE ?k)) | ((with_reducible refine' Dh.g_dpopA ?q0 ?k); (case q0 => walk_at "pk")))
local macro_rules | `(tactic| walk_at "vcp5") => `(tactic| first | ((with_reducible refine' Dh.g_dpopB ?q0 ?q1 ?k); (case q0 => walk_at "pk"); (case q1 => walk_at "lk")) | ((with_reducible refine' Dh.g_dnew ?k); intro _) | ((with_reducible refine' Dh.g_ipMul ?q0 ?k); (case q0 => walk_at "side")) | ((with_reducible refine' Dh.g_sfldE ?k)) | ((with_reducible refine' Dh.g_sfld ?q0 ?q1 ?q2 ?k); (case q0 => walk_at "pk"); (case q1 => walk_at "pf"); (case q2 => walk_at "ln")) | ((with_reducible refine' Dh.g_augE ?k)) | ((with_reducible refine' Dh.g_augF ?q0 ?q1 ?k); (case q0 => walk_at "pk"); (case q1 => walk_at "lk")) | ((with_reducible refine' Dh.g_augV ?q0 ?k); (case q0 => rfl)) | ((with_reducible refine' Dh.g_ipI ?k)) | ((with_reducible refine' Dh.g_rAdd ?k)) | ((with_reducible refine' Dh.g_rSub ?k)) | ((with_reducible refine' Dh.g_for ?k)) | ((with_reducible refine' Dh.g_iRng1 ?k)) | ((with_reducible refine' Dh.g_iRng2 ?k)) | ((with_reducible refine' Dh.g_rng1 ?q0 ?q1 ?k); (case q0 => walk_at "side"); (case q1 => walk_at "side")) | ((with_reducible refine' Dh.g_rng2 ?q0 ?k); (case q0 => walk_at "side")) | ((with_reducible refine' Dh.g_iSeqE ?k)) | ((with_reducible refine' Dh.g_iSeqL ?q0 ?k); (case q0 => walk_at "pk")) | ((with_reducible refine' Dh.g_iSeqT ?q0 ?k); (case q0 => walk_at "pk")) | ((with_reducible refine' Dh.g_inK ?q0 ?k); (case q0 => walk_at "kt")) | ((with_reducible refine' Dh.g_notInK ?q0 ?k); (case q0 => walk_at "kt")) | ((with_reducible refine' Dh.g_isiII ?k)) | ((with_reducible refine' Dh.g_isiIB ?k)) | ((with_reducible refine' Dh.g_dinS ?q0 ?k); (case q0 => walk_at "pk")))
local macro_rules | `(tactic| walk_at "vcp6") => `(tactic| first | ((with_reducible refine' Dh.g_dnotinS ?q0 ?k); (case q0 => walk_at "pk")) | ((with_reducible refine' Dh.g_dgetS ?q0 ?q1 ?k); (case q0 => walk_at "pk"); (case q1 => walk_at "lk")) | ((with_reducible refine' Dh.g_dputS ?q0 ?q1 ?k); (case q0 => walk_at "pk"); (case q1 => walk_at "side")) | ((with_reducible refine' Dh.g_dpopS ?q0 ?q1 ?k); (case q0 => walk_at "pk"); (case q1 => walk_at "lk")) | ((with_reducible refine' Dh.g_iRevE ?k)) | ((with_reducible refine' Dh.g_iRevL ?q0 ?k); (case q0 => walk_at "pk")) | ((with_reducible refine' Dh.g_iRevT ?q0 ?k); (case q0 => walk_at "pk")) | ((with_reducible refine' Dh.g_iZipE ?k)) | ((with_reducible refine' Dh.g_iZipL ?q0 ?q1 ?k); (case q0 => walk_at "pk"); (case q1 => walk_at "pk")) | ((with_reducible refine' Dh.g_iZipT ?q0 ?q1 ?k); (case q0 => walk_at "pk"); (case q1 => walk_at "pk")) | ((with_reducible refine' Dh.g_iEnumE ?k)) | ((with_reducible refine' Dh.g_iEnum ?q0 ?k); (case q0 => walk_at "pk")) | ((with_reducible refine' Dh.g_dcE ?k)) | ((with_reducible refine' Dh.g_dturn ?k)) | ((with_reducible refine' Dh.g_sum ?q0 ?k); (case q0 => walk_at "pk")) | ((with_reducible refine' Dh.g_pop ?q0 ?q1 ?k); (case q0 => walk_at "pk"); (case q1 => walk_at "lk")) | ((with_reducible refine' Dh.g_wbody ?k)) | ((with_reducible refine' Dh.g_lcE ?k)) | ((with_reducible refine' Dh.g_turn ?k)) | ((with_reducible refine' Dh.g_tYes ?k)) | ((with_reducible refine' Dh.g_rs ?k)) | ((with_reducible refine' Dh.g_rsW ?k)) | ((with_reducible refine' Dh.g_told ?k)) | ((with_reducible refine' Dh.g_ifT ?q0 ?k); (case q0 => rfl)))
local macro_rules | `(tactic| walk_at "vcp7") => `(tactic| first | ((with_reducible refine' Dh.g_ifF ?q0 ?k); (case q0 => rfl)) | ((with_reducible refine' Dh.g_and ?q0 ?k); (case q0 => rfl)) | ((with_reducible refine' Dh.g_turn ?k)))
local macro_rules | `(tactic| walk_at "vc1") => `(tactic| first | walk_at "vcp0" | walk_at "vcp1" | walk_at "vcp2" | walk_at "vcp3" | walk_at "vcp4" | walk_at "vcp5" | walk_at "vcp6" | walk_at "vcp7" | walk_at "use1" | walk_at "told1")
local macro_rules | `(tactic| walk_at "vc") => `(tactic| repeat walk_at "vc1")
local macro_rules | `(tactic| walk_at "spl") => `(tactic| first | ((with_reducible refine Dh.g_ifD ?_ ?_) <;> intro _) | ((with_reducible refine Dh.g_ifN ?_ ?_) <;> intro _) | ((with_reducible refine Dh.g_if ?_ ?_) <;> intro _))
local macro_rules | `(tactic| walk_at "vcs") => `(tactic| repeat' (first | walk_at "vc1" | walk_at "spl"))
local macro_rules | `(tactic| walk_at "told1") => `(tactic| first | ((with_reducible refine' Dh.g_toldY (Toy.Txt.x_BadWord_BadWord ?z) ?k); (case z => assumption)))
local macro_rules | `(tactic| walk_at "use1") => `(tactic| ((with_reducible refine' Toy.use_law_dice (fun _ _ _ _ => ?k0))))
local macro_rules | `(tactic| walk_at "use1") => `(tactic| ((with_reducible refine' Toy.use_law_roll ?q0 ?h0 ?h1 (fun _ _ => ?k0)); (case q0 => walk_at "pk"); (case h0 => walk_at "side"); (case h1 => walk_at "side")))
local macro_rules | `(tactic| walk_at "use1") => `(tactic| ((with_reducible refine' Toy.use_power ?h0 ?h1 ?k0); (case h0 => walk_at "side"); (case h1 => walk_at "side")))
local macro_rules | `(tactic| walk_at "use") => `(tactic| ((with_reducible refine' Toy.use_check_word ?h0 ?h1 (fun _ => ?k0) (fun _ _ => ?k1)); (case h0 => walk_at "side"); (case h1 => walk_at "side")))
local macro_rules | `(tactic| walk_at "use1") => `(tactic| ((with_reducible refine' Toy.use_field ?h0 ?h1 ?h2 ?h3 ?k0); (case h0 => walk_at "side"); (case h1 => walk_at "side"); (case h2 => walk_at "side"); (case h3 => walk_at "side")))
local macro_rules | `(tactic| walk_at "use") => `(tactic| ((with_reducible refine' Toy.use_with_field ?h0 ?h1 ?h2 ?h3 (fun _ => ?k0) (fun _ _ => ?k1)); (case h0 => walk_at "side"); (case h1 => walk_at "side"); (case h2 => walk_at "side"); (case h3 => walk_at "side")))
local macro_rules | `(tactic| walk_at "use1") => `(tactic| ((with_reducible refine' Toy.use_bits ?h0 ?h1 (fun _ => ?k0)); (case h0 => walk_at "side"); (case h1 => walk_at "side")))
local macro_rules | `(tactic| walk_at "use1") => `(tactic| ((with_reducible refine' Toy.use_of_bits ?q0 ?h0 ?k0); (case q0 => walk_at "pk"); (case h0 => walk_at "side")))
local macro_rules | `(tactic| walk_at "use1") => `(tactic| ((with_reducible refine' Toy.use_both ?h0 ?h1 ?k0); (case h0 => walk_at "side"); (case h1 => walk_at "side")))
local macro_rules | `(tactic| walk_at "use1") => `(tactic| ((with_reducible refine' Toy.use_either ?h0 ?h1 ?k0); (case h0 => walk_at "side"); (case h1 => walk_at "side")))
local macro_rules | `(tactic| walk_at "use1") => `(tactic| ((with_reducible refine' Toy.use_without ?h0 ?h1 ?k0); (case h0 => walk_at "side"); (case h1 => walk_at "side")))
local macro_rules | `(tactic| walk_at "use1") => `(tactic| ((with_reducible refine' Toy.use_turned_octets ?h0 ?h1 ?k0); (case h0 => walk_at "side"); (case h1 => walk_at "side")))
local macro_rules | `(tactic| walk_at "use") => `(tactic| ((with_reducible refine' Toy.use_Register___init__ ?q0 ?q1 ?q2 ?h0 ?h1 (fun _ => ?k0) (fun _ _ => ?k1)); (case q0 => walk_at "pk"); (case q1 => walk_at "pk"); (case q2 => walk_at "pk"); (case h0 => walk_at "side"); (case h1 => walk_at "side")))
local macro_rules | `(tactic| walk_at "use1") => `(tactic| ((with_reducible refine' Toy.use_Register_read ?q0 ?k0); (case q0 => walk_at "pk")))
local macro_rules | `(tactic| walk_at "use") => `(tactic| ((with_reducible refine' Toy.use_Register_write ?q0 ?h0 ?h1 ?h2 ?h3 ?h4 ?h5 (fun _ => ?k0) (fun _ _ => ?k1)); (case q0 => walk_at "pk"); (case h0 => walk_at "side"); (case h1 => walk_at "side"); (case h2 => walk_at "side"); (case h3 => walk_at "side"); (case h4 => walk_at "side"); (case h5 => walk_at "side")))
local macro_rules | `(tactic| walk_at "use") => `(tactic| ((with_reducible refine' Toy.use_Register_row_of ?q0 (fun _ => ?k0) (fun _ _ _ => ?k1)); (case q0 => walk_at "pk")))
local macro_rules | `(tactic| walk_at "use") => `(tactic| ((with_reducible refine' Toy.use_Register_get ?q0 ?h0 (fun _ => ?k0) (fun _ _ => ?k1)); (case q0 => walk_at "pk"); (case h0 => walk_at "side")))
local macro_rules | `(tactic| walk_at "use1") => `(tactic| ((with_reducible refine' Toy.use_Register_put ?q0 ?h0 ?h1 ?h2 ?k0); (case q0 => walk_at "pk"); (case h0 => walk_at "side"); (case h1 => walk_at "side"); (case h2 => walk_at "side")))
local macro_rules | `(tactic| walk_at "use1") => `(tactic| ((with_reducible refine' Toy.use_law_rounds ?q0 ?h0 (fun _ _ => ?k0)); (case q0 => walk_at "pk"); (case h0 => walk_at "side")))
local macro_rules | `(tactic| walk_at "use1") => `(tactic| ((with_reducible refine' Toy.use_law_bits (fun _ => ?k0))))
local macro_rules | `(tactic| walk_at "use1") => `(tactic| ((with_reducible refine' Toy.use_law_two ?h0 ?h1 ?k0); (case h0 => walk_at "side"); (case h1 => walk_at "side")))
local macro_rules | `(tactic| walk_at "use1") => `(tactic| ((with_reducible refine' Toy.use_law_register ?q0 ?k0); (case q0 => walk_at "pk")))
namespace Toy
open PySem L2
section
variable {P : Program} {w : World} {K : PySem.W.Frag} {mg : Str → Option Value} {base : Heap} {T : List (Addr × Str)} {C_Register C_BadWord C_BadPlace C_BadPlan C_NotDue C_Stuck C_BadBits C_BadText C_TooLarge g_told g_RULES : Addr}
/-! bits, fields: the law's own sums -/
theorem fld_zero {w k : Int} : fld w 0 k = w % pw k := by
  rw [fld, show pw 0 = 1 from rfl, Int.ediv_one]
theorem bit_succ {w : Int} {k : Nat} : fld w ((k + 1 : Nat) : Int) 1 = fld (w / 2) (k : Int) 1 := by
  rw [fld, fld, pw_succ, Int.mul_comm, ← Int.ediv_ediv_of_nonneg (by decide)]
theorem bitsL_cons {w : Int} {n : Nat} : bitsL w (n + 1) = w % 2 :: bitsL (w / 2) n := by
  unfold bitsL
  rw [List.range_succ_eq_map, List.map_cons, List.map_map]
  congr 1
  · rw [show ((0 : Nat) : Int) = 0 from rfl, fld_zero]
    rfl
  · refine List.map_congr_left fun k _ => ?_
    exact bit_succ
theorem ofB_bits : ∀ {n : Nat} {w : Int}, ofB (bitsL w n) = w % pw (n : Int)
  | 0, w => by
    rw [show pw ((0 : Nat) : Int) = 1 from rfl, Int.emod_one]
    rfl
  | n + 1, w => by
    rw [bitsL_cons, ofB, ofB_bits, pw_succ]
    have h1 := Int.emod_add_mul_ediv w 2
    have h2 := Int.emod_add_mul_ediv (w / 2) (pw (n : Int))
    have h3 := Int.emod_nonneg (w / 2) (show pw (n : Int) ≠ 0 by have := pw_pos (n : Int); omega)
    have h4 := Int.emod_lt_of_pos (w / 2) (pw_pos (n : Int))
    have h5 := Int.emod_nonneg w (show (2 : Int) ≠ 0 by decide)
    have h6 := Int.emod_lt_of_pos w (show (0 : Int) < 2 by decide)
    generalize (w / 2) % pw (n : Int) = r at *
    generalize (w / 2) / pw (n : Int) = q at *
    generalize hb : w % 2 = b at *
    have e : w = (2 * r + b) + pw (n : Int) * 2 * q := by
      have : pw (n : Int) * 2 * q = 2 * (pw (n : Int) * q) := by rw [Int.mul_comm (pw (n : Int)) 2, Int.mul_assoc]
      omega
    rw [e, Int.add_mul_emod_self_left, Int.emod_eq_of_lt (by omega) (by omega)]
theorem bitsL_app : ∀ {l k : Nat} {lo x : Int}, 0 ≤ lo → lo < pw (l : Int) → bitsL (lo + pw (l : Int) * x) (l + k) = bitsL lo l ++ bitsL x k
  | 0, k, lo, x, h0, h1 => by
    rw [show pw ((0 : Nat) : Int) = 1 from rfl] at *
    rw [show lo = 0 by omega, Int.one_mul, Int.zero_add, Nat.zero_add]
    rfl
  | l + 1, k, lo, x, h0, h1 => by
    rw [pw_succ] at h1 ⊢
    rw [show l + 1 + k = (l + k) + 1 by omega, bitsL_cons, bitsL_cons, List.cons_append]
    have e : lo + pw (l : Int) * 2 * x = lo + 2 * (pw (l : Int) * x) := by rw [Int.mul_comm (pw (l : Int)) 2, Int.mul_assoc]
    rw [e, Int.add_mul_emod_self_left, Int.add_mul_ediv_left _ _ (by decide)]
    rw [bitsL_app (l := l) (k := k) (lo := lo / 2) (x := x) (by omega) (by omega)]
theorem bitsL_ofB : ∀ {bs : List Int}, (∀ b ∈ bs, 0 ≤ b ∧ b ≤ 1) → bitsL (ofB bs) bs.length = bs
  | [], _ => rfl
  | b :: bs, h => by
    have h1 := h b List.mem_cons_self
    rw [List.length_cons, bitsL_cons, ofB]
    rw [show (2 * ofB bs + b) % 2 = b by omega, show (2 * ofB bs + b) / 2 = ofB bs by omega, bitsL_ofB fun x hx => h x (List.mem_cons_of_mem _ hx)]
theorem fld_sum {a : Int} {l : Nat} : ∀ n : Nat, fld a (l : Int) (n : Int) = ((List.range n).map fun k : Nat => fld a ((l + k : Nat) : Int) 1 * pw (k : Int)).sum
  | 0 => by
    rw [fld, show pw ((0 : Nat) : Int) = 1 from rfl, Int.emod_one]
    rfl
  | n + 1 => by
    rw [List.range_succ, List.map_append, List.sum_append, ← fld_sum n]
    show _ = _ + (fld a ((l + n : Nat) : Int) 1 * pw (n : Int) + 0)
    have ep : pw ((l + n : Nat) : Int) = pw (l : Int) * pw (n : Int) := by rw [pw_nat, pw_nat, pw_nat, Int.pow_add]
    rw [Int.add_zero, fld, fld, fld, pw_succ, ep, ← Int.ediv_ediv_of_nonneg (Int.le_of_lt (pw_pos _)), show pw 1 = 2 from rfl]
    generalize a / pw (l : Int) = w
    have h2 := Int.emod_add_mul_ediv w (pw (n : Int))
    have h3 := Int.emod_nonneg w (show pw (n : Int) ≠ 0 by have := pw_pos (n : Int); omega)
    have h4 := Int.emod_lt_of_pos w (pw_pos (n : Int))
    generalize w % pw (n : Int) = r at *
    generalize w / pw (n : Int) = q at *
    have hq := Int.emod_add_mul_ediv q 2
    have hq0 := Int.emod_nonneg q (show (2 : Int) ≠ 0 by decide)
    have hq1 := Int.emod_lt_of_pos q (show (0 : Int) < 2 by decide)
    generalize q % 2 = b at *
    generalize q / 2 = c at *
    have e : w = (r + b * pw (n : Int)) + pw (n : Int) * 2 * c := by
      rw [← h2, ← hq, Int.mul_add, Int.mul_comm (pw (n : Int)) b, Int.mul_assoc]
      omega
    rw [e, Int.add_mul_emod_self_left, Int.emod_eq_of_lt]
    · rcases (show b = 0 ∨ b = 1 by omega) with rfl | rfl <;> omega
    · rcases (show b = 0 ∨ b = 1 by omega) with rfl | rfl <;> omega
theorem bits_small {m : Int} (hm : 0 ≤ m ∧ m ≤ 1) : ∀ {n : Nat}, bitsL m (n + 1) = m :: List.replicate n 0
  | 0 => by rw [bitsL_cons, show m % 2 = m by omega]; rfl
  | n + 1 => by
    rw [bitsL_cons, show m % 2 = m by omega, show m / 2 = 0 by omega]
    congr 1
    have h := bits_small (m := 0) (by decide) (n := n)
    rw [h]
    rfl
theorem wf_bits {a m : Int} {l n k : Nat} (hn : 0 < n) (hm : 0 ≤ m ∧ m ≤ 1) : bitsL (wf a (l : Int) (n : Int) m) (l + (n + k)) = (bitsL a (l + (n + k))).take l ++ ([m] ++ List.replicate (n - 1) 0 ++ (bitsL a (l + (n + k))).drop (l + n)) := by
  have h1 := Int.emod_add_mul_ediv a (pw (l : Int))
  have h2 := Int.emod_nonneg a (show pw (l : Int) ≠ 0 by have := pw_pos (l : Int); omega)
  have h3 := Int.emod_lt_of_pos a (pw_pos (l : Int))
  have h4 := Int.emod_add_mul_ediv (a / pw (l : Int)) (pw (n : Int))
  have h5 := Int.emod_nonneg (a / pw (l : Int)) (show pw (n : Int) ≠ 0 by have := pw_pos (n : Int); omega)
  have h6 := Int.emod_lt_of_pos (a / pw (l : Int)) (pw_pos (n : Int))
  rw [wf, fld]
  generalize a % pw (l : Int) = lo at *
  generalize a / pw (l : Int) = x at *
  generalize x % pw (n : Int) = f at *
  generalize x / pw (n : Int) = hi at *
  have ea : a = lo + pw (l : Int) * (f + pw (n : Int) * hi) := by rw [h4, h1]
  have ew : a + (m - f) * pw (l : Int) = lo + pw (l : Int) * (m + pw (n : Int) * hi) := by
    rw [ea, Int.sub_mul, Int.mul_add, Int.mul_add, Int.mul_comm f, Int.mul_comm m]
    omega
  have hm1 : m < pw (n : Int) := by
    have h := pw_mono (a := 1) (b := n) hn
    rw [show pw ((1 : Nat) : Int) = 2 from rfl] at h
    omega
  rw [ew, bitsL_app h2 h3, bitsL_app hm.1 hm1]
  conv => rhs; rw [ea]
  rw [bitsL_app h2 h3, bitsL_app h5 h6]
  rw [List.take_left' (by rw [bitsL_len]), List.drop_append, bitsL_len, show l + n - l = n by omega, List.drop_of_length_le (by rw [bitsL_len]; omega), List.nil_append, List.drop_left' (by rw [bitsL_len])]
  obtain ⟨n', rfl⟩ : ∃ n', n = n' + 1 := ⟨n - 1, by omega⟩
  rw [bits_small hm, Nat.add_sub_cancel]
  rfl
theorem toct2 {a b : Int} (ha : 0 ≤ a ∧ a < 256) (hb : 0 ≤ b ∧ b < 256) : toct (a * 256 + b) 2 = b * 256 + a := by
  show (0 * 256 + (a * 256 + b) / 1 % 256) * 256 + (a * 256 + b) / 256 % 256 = _
  omega
def fA : Fd := ⟨"a", 0, 2, "plain"⟩
theorem bad1 : regUse 8 [] [fA, ⟨"b", 1, 2, "plain"⟩] = none ∨ (names [fA, ⟨"b", 1, 2, "plain"⟩]).length ≠ 2 := .inl (by decide +kernel)
theorem bad2 : regUse 8 [] [⟨"a", 7, 2, "plain"⟩] = none ∨ (names [⟨"a", 7, 2, "plain"⟩]).length ≠ 1 := .inl (by decide +kernel)
theorem bad3 : regUse 8 [] [⟨"a", 0, 1, "none"⟩] = none ∨ (names [⟨"a", 0, 1, "none"⟩]).length ≠ 1 := .inl (by decide +kernel)
theorem bad4 : regUse 8 [] [⟨"a", 0, 1, "plain"⟩, ⟨"a", 2, 1, "plain"⟩] = none ∨ (names [⟨"a", 0, 1, "plain"⟩, ⟨"a", 2, 1, "plain"⟩]).length ≠ 2 := .inr (by decide +kernel)
theorem good1 : regUse 8 [] [fA] ≠ none ∧ (names [fA]).length = 1 := by decide +kernel
end
end Toy
end

section
local macro_rules | `(tactic| walk_at "pk") => `(tactic| (with_reducible first | exact Dh.pick_here | (refine' Dh.pick_there ?p; (case p => walk_at "pk"))))
local macro_rules | `(tactic| walk_at "ent") => `(tactic| first | (with_reducible exact Dh.ent_refl) | (with_reducible exact Dh.ent_nil) | (refine' Dh.ent_cons ?q0 ?k; (case q0 => walk_at "pk"); (case k => walk_at "ent")) | (refine' Dh.ent_drop ?k; (case k => walk_at "ent")))
local macro_rules | `(tactic| walk_at "side") => `(tactic| first | (with_reducible assumption) | omega | decide | (exact Or.inl rfl) | (exact Or.inr rfl) | (exact Dh.log2_ok (by omega)) | (simp only [L2.CMul, L2.CDiv, L2.CDivN]; omega) | (unfold L2.CPow; decide) | (simp only [List.length_cons, List.length_nil, List.length_append, List.length_map, List.length_range, List.length_replicate, List.length_set, List.length_take, List.length_drop, PySem.sizeLine_eq] <;> omega))
local macro_rules | `(tactic| walk_at "dvp") => `(tactic| (with_reducible first | exact Dh.DV.int | exact Dh.DV.str | exact Dh.DV.bl | exact Dh.DV.non | exact Dh.DVs.nil | (refine' Dh.Pick.dvs ?a (by assumption); (case a => walk_at "pk")) | (refine' Dh.Pick.dv ?a (by assumption); (case a => walk_at "pk")) | (refine' Dh.DVs.cons ?a ?b; (case a => walk_at "dvp"); (case b => walk_at "dvp")) | (refine' Dh.DVs.app ?a ?b; (case a => walk_at "dvp"); (case b => walk_at "dvp")) | (refine' Dh.Pick.tup ?a (by assumption) ?b; (case a => walk_at "pk"); (case b => walk_at "dvp")) | (refine' Dh.DVs.take _ ?a; (case a => walk_at "dvp")) | (refine' Dh.DVs.drop _ ?a; (case a => walk_at "dvp")) | (refine' Dh.DVs.set _ ?a ?b; (case a => walk_at "dvp"); (case b => walk_at "dvp"))))
local macro_rules | `(tactic| walk_at "ixs") => `(tactic| first | assumption | omega | (simp only [List.length_set, List.length_map, List.length_cons, List.length_nil, List.length_append, List.length_replicate] <;> first | assumption | omega))
local macro_rules | `(tactic| walk_at "lk") => `(tactic| first | rfl | assumption | (exact Dh.ixN_lt (by walk_at "ixs")) | (exact Dh.atI_lt (by assumption)) | (exact Dh.atI_map (by assumption))  | with_reducible exact Toy.lk_Register_wide | with_reducible exact Toy.lk_Register_fields | with_reducible exact Toy.lk_Register_word | with_reducible exact Toy.lk_Register_written | with_reducible exact Toy.lk_Register_pulses | with_reducible exact Toy.no_Register_init | with_reducible exact Toy.no_Register_read | with_reducible exact Toy.no_Register_write | with_reducible exact Toy.no_Register_row_of | with_reducible exact Toy.no_Register_get | with_reducible exact Toy.no_Register_put)
local macro_rules | `(tactic| walk_at "kt") => `(tactic| assumption)
local macro_rules | `(tactic| walk_at "pf") => `(tactic| first  | with_reducible exact Toy.pf_Register_wide | with_reducible exact Toy.pf_Register_fields | with_reducible exact Toy.pf_Register_word | with_reducible exact Toy.pf_Register_written | with_reducible exact Toy.pf_Register_pulses | with_reducible exact Toy.gr_Register_wide | with_reducible exact Toy.gr_Register_fields | with_reducible exact Toy.gr_Register_word | with_reducible exact Toy.gr_Register_written | with_reducible exact Toy.gr_Register_pulses | rfl)
local macro_rules | `(tactic| walk_at "ln") => `(tactic| first  | with_reducible exact Toy.ln_Register | decide | (simp only [List.length_cons, List.length_nil] <;> omega))
local macro_rules | `(tactic| walk_at "hasm") => `(tactic| first | (refine' Toy.hasM_RegAt ?q0 ?q1; (case q0 => walk_at "pk"); (case q1 => (intros; walk_at "lk"))) | (refine' Dh.hasM_ob ?q0 ?q1; (case q0 => walk_at "pk"); (case q1 => walk_at "lk")))
local macro_rules | `(tactic| walk_at "vcp0") => `(tactic| first | ((with_reducible refine' Dh.g_seq ?k)) | ((with_reducible refine' Dh.g_next ?k)) | ((with_reducible refine' Dh.g_nonA ?k)) | ((with_reducible refine' Dh.g_var ?q0 ?k); (case q0 => rfl)) | ((with_reducible refine' Dh.g_c ?k)) | ((with_reducible refine' Dh.g_op ?k)) | ((with_reducible refine' Dh.g_asg ?k)) | ((with_reducible refine' Dh.g_name ?k)) | ((with_reducible refine' Dh.g_ifS ?k)) | ((with_reducible refine' Dh.g_test ?k)) | ((with_reducible refine' Dh.g_isB ?k)) | ((with_reducible refine' Dh.g_B ?k)) | ((with_reducible refine' Dh.g_ret ?k)) | ((with_reducible refine' Dh.g_retN ?k)) | ((with_reducible refine' Dh.g_drop ?k)) | ((with_reducible refine' Dh.g_brk ?k)) | ((with_reducible refine' Dh.g_cont ?k)) | ((with_reducible refine' Dh.g_un ?k)) | ((with_reducible refine' Dh.g_I0 ?k)) | ((with_reducible refine' Dh.g_addI ?k)) | ((with_reducible refine' Dh.g_addB ?k)) | ((with_reducible refine' Dh.g_addS ?q0 ?k); (case q0 => walk_at "side")) | ((with_reducible refine' Dh.g_addM ?q0 ?q1 ?q2 ?k); (case q0 => walk_at "pk"); (case q1 => walk_at "pk"); (case q2 => walk_at "side"); intro _) | ((with_reducible refine' Dh.g_addL ?q0 ?q1 ?q2 ?k); (case q0 => walk_at "pk"); (case q1 => walk_at "pk"); (case q2 => walk_at "side"); intro _))
local macro_rules | `(tactic| walk_at "vcp1") => `(tactic| first | ((with_reducible refine' Dh.g_I ?q0 ?k); (case q0 => walk_at "side")) | ((with_reducible refine' Dh.g_mulI ?q0 ?k); (case q0 => walk_at "side")) | ((with_reducible refine' Dh.g_U ?k)) | ((with_reducible refine' Dh.g_eqS ?q0 ?k); (case q0 => rfl)) | ((with_reducible refine' Dh.g_neS ?q0 ?k); (case q0 => rfl)) | ((with_reducible refine' Dh.g_eqLL ?q0 ?q1 ?k); (case q0 => walk_at "pk"); (case q1 => walk_at "pk")) | ((with_reducible refine' Dh.g_neLL ?q0 ?q1 ?k); (case q0 => walk_at "pk"); (case q1 => walk_at "pk")) | ((with_reducible refine' Dh.g_eqL0 ?q0 ?q1 ?k); (case q0 => walk_at "pk"); (case q1 => walk_at "pk")) | ((with_reducible refine' Dh.g_neL0 ?q0 ?q1 ?k); (case q0 => walk_at "pk"); (case q1 => walk_at "pk")) | ((with_reducible refine' Dh.g_neT0 ?q0 ?q1 ?q2 ?k); (case q0 => walk_at "pk"); (case q1 => walk_at "pk"); (case q2 => walk_at "pk")) | ((with_reducible refine' Dh.g_neP ?q0 ?q1 ?k); (case q0 => walk_at "pk"); (case q1 => walk_at "pk")) | ((with_reducible refine' Dh.g_inI ?q0 ?k); (case q0 => walk_at "pk")) | ((with_reducible refine' Dh.g_isN ?k)) | ((with_reducible refine' Dh.g_notN ?k)) | ((with_reducible refine' Dh.g_ixL ?q0 ?q1 ?k); (case q0 => walk_at "pk"); (case q1 => walk_at "lk")) | ((with_reducible refine' Dh.g_ixT ?q0 ?q1 ?k); (case q0 => walk_at "pk"); (case q1 => walk_at "lk")) | ((with_reducible refine' Dh.g_sl ?k)) | ((with_reducible refine' Dh.g_noPart ?k)) | ((with_reducible refine' Dh.g_part ?k)) | ((with_reducible refine' Dh.g_isSomeInt ?k)) | ((with_reducible refine' Dh.g_slTk ?q0 ?k); (case q0 => walk_at "pk"); intro _) | ((with_reducible refine' Dh.g_slDr ?q0 ?k); (case q0 => walk_at "pk"); intro _) | ((with_reducible refine' Dh.g_slL ?q0 ?k); (case q0 => walk_at "pk"); intro _) | ((with_reducible refine' Dh.g_slQTk ?q0 ?k); (case q0 => walk_at "pk"); intro _))
local macro_rules | `(tactic| walk_at "vcp2") => `(tactic| first | ((with_reducible refine' Dh.g_slQ ?q0 ?k); (case q0 => walk_at "pk"); intro _) | ((with_reducible refine' Dh.g_fldE ?k)) | ((with_reducible refine' Dh.g_fld ?q0 ?q1 ?k); (case q0 => walk_at "pk"); (case q1 => walk_at "lk")) | ((with_reducible refine' Dh.g_tup ?k)) | ((with_reducible refine' Dh.g_lst ?k)) | ((with_reducible refine' Dh.g_newT ?q0 ?k); (case q0 => walk_at "side"); intro _) | ((with_reducible refine' Dh.g_newL ?q0 ?k); (case q0 => walk_at "side"); intro _) | ((with_reducible refine' Dh.g_nil ?k)) | ((with_reducible refine' Dh.g_cons ?k)) | ((with_reducible refine' Dh.g_call ?k)) | ((with_reducible refine' Dh.g_methE ?k)) | ((with_reducible refine' Dh.g_meth ?q0 ?k); (case q0 => walk_at "hasm")) | ((with_reducible refine' Dh.g_make ?k)) | ((with_reducible refine' Dh.g_made ?k); intro _) | ((with_reducible refine' Dh.g_cb ?k)) | ((with_reducible refine' Dh.g_int ?k)) | ((with_reducible refine' Dh.g_intB ?k)) | ((with_reducible refine' Dh.g_abs ?k)) | ((with_reducible refine' Dh.g_max2 ?k)) | ((with_reducible refine' Dh.g_min2 ?k)) | ((with_reducible refine' Dh.g_strI ?q0 ?k); (case q0 => walk_at "side")) | ((with_reducible refine' Dh.g_lenL ?q0 ?k); (case q0 => walk_at "pk")) | ((with_reducible refine' Dh.g_lenT ?q0 ?k); (case q0 => walk_at "pk")) | ((with_reducible refine' Dh.g_lenD ?q0 ?k); (case q0 => walk_at "pk")))
local macro_rules | `(tactic| walk_at "vcp3") => `(tactic| first | ((with_reducible refine' Dh.g_listL ?q0 ?k); (case q0 => walk_at "pk"); intro _) | ((with_reducible refine' Dh.g_listT ?q0 ?k); (case q0 => walk_at "pk"); intro _) | ((with_reducible refine' Dh.g_tupL ?q0 ?k); (case q0 => walk_at "pk"); intro _) | ((with_reducible refine' Dh.g_tupT ?q0 ?k); (case q0 => walk_at "pk")) | ((with_reducible refine' Dh.g_pop0 ?q0 ?k); (case q0 => walk_at "pk")) | ((with_reducible refine' Dh.g_bm ?k)) | ((with_reducible refine' Dh.g_bm0 ?k)) | ((with_reducible refine' Dh.g_tyL ?q0 ?k); (case q0 => walk_at "pk")) | ((with_reducible refine' Dh.g_append ?q0 ?q1 ?k); (case q0 => walk_at "pk"); (case q1 => walk_at "side")) | ((with_reducible refine' Dh.g_rep ?q0 ?q1 ?q2 ?q3 ?k); (case q0 => walk_at "pk"); (case q1 => walk_at "side"); (case q2 => walk_at "side"); (case q3 => walk_at "side"); intro _) | ((with_reducible refine' Dh.g_not ?k)) | ((with_reducible refine' Dh.g_tand ?k)) | ((with_reducible refine' Dh.g_tor ?k)) | ((with_reducible refine' Dh.g_andV ?k)) | ((with_reducible refine' Dh.g_orV ?k)) | ((with_reducible refine' Dh.g_notV ?k)) | ((with_reducible refine' Dh.g_ifE ?k)) | ((with_reducible refine' Dh.g_chain ?k)) | ((with_reducible refine' Dh.g_tru ?k)) | ((with_reducible refine' Dh.g_truB ?k)) | ((with_reducible refine' Dh.g_truI ?k)) | ((with_reducible refine' Dh.g_truN ?k)) | ((with_reducible refine' Dh.g_truL ?q0 ?k); (case q0 => walk_at "pk")) | ((with_reducible refine' Dh.g_gsub ?k)))
local macro_rules | `(tactic| walk_at "vcp4") => `(tactic| first | ((with_reducible refine' Dh.g_setM ?q0 ?q1 ?k); (case q0 => walk_at "pk"); (case q1 => walk_at "lk")) | ((with_reducible refine' Dh.g_setL ?q0 ?q1 ?k); (case q0 => walk_at "pk"); (case q1 => walk_at "lk")) | ((with_reducible refine' Dh.g_gtup ?q0 ?q1 ?k); (case q0 => walk_at "pk"); (case q1 => rfl)) | ((with_reducible refine' Dh.g_gnil ?k)) | ((with_reducible refine' Dh.g_gcons ?k)) | ((with_reducible refine' Dh.g_par ?k)) | ((with_reducible refine' Dh.g_par2 ?k)) | ((with_reducible refine' Dh.g_par3 ?k)) | ((with_reducible refine' Dh.g_par3b ?k)) | ((with_reducible refine' Dh.g_listRg ?k)) | ((with_reducible refine' Dh.g_rg1E ?k)) | ((with_reducible refine' Dh.g_rg1 ?k)) | ((with_reducible refine' Dh.g_rgN ?q0 ?k); (case q0 => walk_at "side"); intro _) | ((with_reducible refine' Dh.g_rgL ?q0 ?k); (case q0 => walk_at "side"); intro _) | ((with_reducible refine' Dh.g_dinE ?k)) | ((with_reducible refine' Dh.g_dinI ?q0 ?k); (case q0 => walk_at "pk")) | ((with_reducible refine' Dh.g_dnotinE ?k)) | ((with_reducible refine' Dh.g_dnotinI ?q0 ?k); (case q0 => walk_at "pk")) | ((with_reducible refine' Dh.g_dgetE ?k)) | ((with_reducible refine' Dh.g_dgetI ?q0 ?q1 ?k); (case q0 => walk_at "pk"); (case q1 => walk_at "lk")) | ((with_reducible refine' Dh.g_dputE ?k)) | ((with_reducible refine' Dh.g_dputI ?q0 ?q1 ?k); (case q0 => walk_at "pk"); (case q1 => walk_at "side")) | ((with_reducible refine' Dh.g_dpopE ?k)) | ((with_reducible refine' Dh.g_dpopA ?q0 ?k); (case q0 => walk_at "pk")))
local macro_rules | `(tactic| walk_at "vcp5") => `(tactic| first | ((with_reducible refine' Dh.g_dpopB ?q0 ?q1 ?k); (case q0 => walk_at "pk"); (case q1 => walk_at "lk")) | ((with_reducible refine' Dh.g_dnew ?k); intro _) | ((with_reducible refine' Dh.g_ipMul ?q0 ?k); (case q0 => walk_at "side")) | ((with_reducible refine' Dh.g_sfldE ?k)) | ((with_reducible refine' Dh.g_sfld ?q0 ?q1 ?q2 ?k); (case q0 => walk_at "pk"); (case q1 => walk_at "pf"); (case q2 => walk_at "ln")) | ((with_reducible refine' Dh.g_augE ?k)) | ((with_reducible refine' Dh.g_augF ?q0 ?q1 ?k); (case q0 => walk_at "pk"); (case q1 => walk_at "lk")) | ((with_reducible refine' Dh.g_augV ?q0 ?k); (case q0 => rfl)) | ((with_reducible refine' Dh.g_ipI ?k)) | ((with_reducible refine' Dh.g_rAdd ?k)) | ((with_reducible refine' Dh.g_rSub ?k)) | ((with_reducible refine' Dh.g_for ?k)) | ((with_reducible refine' Dh.g_iRng1 ?k)) | ((with_reducible refine' Dh.g_iRng2 ?k)) | ((with_reducible refine' Dh.g_rng1 ?q0 ?q1 ?k); (case q0 => walk_at "side"); (case q1 => walk_at "side")) | ((with_reducible refine' Dh.g_rng2 ?q0 ?k); (case q0 => walk_at "side")) | ((with_reducible refine' Dh.g_iSeqE ?k)) | ((with_reducible refine' Dh.g_iSeqL ?q0 ?k); (case q0 => walk_at "pk")) | ((with_reducible refine' Dh.g_iSeqT ?q0 ?k); (case q0 => walk_at "pk")) | ((with_reducible refine' Dh.g_inK ?q0 ?k); (case q0 => walk_at "kt")) | ((with_reducible refine' Dh.g_notInK ?q0 ?k); (case q0 => walk_at "kt")) | ((with_reducible refine' Dh.g_isiII ?k)) | ((with_reducible refine' Dh.g_isiIB ?k)) | ((with_reducible refine' Dh.g_dinS ?q0 ?k); (case q0 => walk_at "pk")))
local macro_rules | `(tactic| walk_at "vcp6") => `(tactic| first | ((with_reducible refine' Dh.g_dnotinS ?q0 ?k); (case q0 => walk_at "pk")) | ((with_reducible refine' Dh.g_dgetS ?q0 ?q1 ?k); (case q0 => walk_at "pk"); (case q1 => walk_at "lk")) | ((with_reducible refine' Dh.g_dputS ?q0 ?q1 ?k); (case q0 => walk_at "pk"); (case q1 => walk_at "side")) | ((with_reducible refine' Dh.g_dpopS ?q0 ?q1 ?k); (case q0 => walk_at "pk"); (case q1 => walk_at "lk")) | ((with_reducible refine' Dh.g_iRevE ?k)) | ((with_reducible refine' Dh.g_iRevL ?q0 ?k); (case q0 => walk_at "pk")) | ((with_reducible refine' Dh.g_iRevT ?q0 ?k); (case q0 => walk_at "pk")) | ((with_reducible refine' Dh.g_iZipE ?k)) | ((with_reducible refine' Dh.g_iZipL ?q0 ?q1 ?k); (case q0 => walk_at "pk"); (case q1 => walk_at "pk")) | ((with_reducible refine' Dh.g_iZipT ?q0 ?q1 ?k); (case q0 => walk_at "pk"); (case q1 => walk_at "pk")) | ((with_reducible refine' Dh.g_iEnumE ?k)) | ((with_reducible refine' Dh.g_iEnum ?q0 ?k); (case q0 => walk_at "pk")) | ((with_reducible refine' Dh.g_dcE ?k)) | ((with_reducible refine' Dh.g_dturn ?k)) | ((with_reducible refine' Dh.g_sum ?q0 ?k); (case q0 => walk_at "pk")) | ((with_reducible refine' Dh.g_pop ?q0 ?q1 ?k); (case q0 => walk_at "pk"); (case q1 => walk_at "lk")) | ((with_reducible refine' Dh.g_wbody ?k)) | ((with_reducible refine' Dh.g_lcE ?k)) | ((with_reducible refine' Dh.g_turn ?k)) | ((with_reducible refine' Dh.g_tYes ?k)) | ((with_reducible refine' Dh.g_rs ?k)) | ((with_reducible refine' Dh.g_rsW ?k)) | ((with_reducible refine' Dh.g_told ?k)) | ((with_reducible refine' Dh.g_ifT ?q0 ?k); (case q0 => rfl)))
local macro_rules | `(tactic| walk_at "vcp7") => `(tactic| first | ((with_reducible refine' Dh.g_ifF ?q0 ?k); (case q0 => rfl)) | ((with_reducible refine' Dh.g_and ?q0 ?k); (case q0 => rfl)) | ((with_reducible refine' Dh.g_turn ?k)))
local macro_rules | `(tactic| walk_at "vc1") => `(tactic| first | walk_at "vcp0" | walk_at "vcp1" | walk_at "vcp2" | walk_at "vcp3" | walk_at "vcp4" | walk_at "vcp5" | walk_at "vcp6" | walk_at "vcp7" | walk_at "use1" | walk_at "told1")
local macro_rules | `(tactic| walk_at "vc") => `(tactic| repeat walk_at "vc1")
local macro_rules | `(tactic| walk_at "spl") => `(tactic| first | ((with_reducible refine Dh.g_ifD ?_ ?_) <;> intro _) | ((with_reducible refine Dh.g_ifN ?_ ?_) <;> intro _) | ((with_reducible refine Dh.g_if ?_ ?_) <;> intro _))
local macro_rules | `(tactic| walk_at "vcs") => `(tactic| repeat' (first | walk_at "vc1" | walk_at "spl"))
local macro_rules | `(tactic| walk_at "told1") => `(tactic| first | ((with_reducible refine' Dh.g_toldY (Toy.Txt.x_BadWord_BadWord ?z) ?k); (case z => assumption)))
local macro_rules | `(tactic| walk_at "use1") => `(tactic| ((with_reducible refine' Toy.use_law_dice (fun _ _ _ _ => ?k0))))
local macro_rules | `(tactic| walk_at "use1") => `(tactic| ((with_reducible refine' Toy.use_law_roll ?q0 ?h0 ?h1 (fun _ _ => ?k0)); (case q0 => walk_at "pk"); (case h0 => walk_at "side"); (case h1 => walk_at "side")))
local macro_rules | `(tactic| walk_at "use1") => `(tactic| ((with_reducible refine' Toy.use_power ?h0 ?h1 ?k0); (case h0 => walk_at "side"); (case h1 => walk_at "side")))
local macro_rules | `(tactic| walk_at "use") => `(tactic| ((with_reducible refine' Toy.use_check_word ?h0 ?h1 (fun _ => ?k0) (fun _ _ => ?k1)); (case h0 => walk_at "side"); (case h1 => walk_at "side")))
local macro_rules | `(tactic| walk_at "use1") => `(tactic| ((with_reducible refine' Toy.use_field ?h0 ?h1 ?h2 ?h3 ?k0); (case h0 => walk_at "side"); (case h1 => walk_at "side"); (case h2 => walk_at "side"); (case h3 => walk_at "side")))
local macro_rules | `(tactic| walk_at "use") => `(tactic| ((with_reducible refine' Toy.use_with_field ?h0 ?h1 ?h2 ?h3 (fun _ => ?k0) (fun _ _ => ?k1)); (case h0 => walk_at "side"); (case h1 => walk_at "side"); (case h2 => walk_at "side"); (case h3 => walk_at "side")))
local macro_rules | `(tactic| walk_at "use1") => `(tactic| ((with_reducible refine' Toy.use_bits ?h0 ?h1 (fun _ => ?k0)); (case h0 => walk_at "side"); (case h1 => walk_at "side")))
local macro_rules | `(tactic| walk_at "use1") => `(tactic| ((with_reducible refine' Toy.use_of_bits ?q0 ?h0 ?k0); (case q0 => walk_at "pk"); (case h0 => walk_at "side")))
local macro_rules | `(tactic| walk_at "use1") => `(tactic| ((with_reducible refine' Toy.use_both ?h0 ?h1 ?k0); (case h0 => walk_at "side"); (case h1 => walk_at "side")))
local macro_rules | `(tactic| walk_at "use1") => `(tactic| ((with_reducible refine' Toy.use_either ?h0 ?h1 ?k0); (case h0 => walk_at "side"); (case h1 => walk_at "side")))
local macro_rules | `(tactic| walk_at "use1") => `(tactic| ((with_reducible refine' Toy.use_without ?h0 ?h1 ?k0); (case h0 => walk_at "side"); (case h1 => walk_at "side")))
local macro_rules | `(tactic| walk_at "use1") => `(tactic| ((with_reducible refine' Toy.use_turned_octets ?h0 ?h1 ?k0); (case h0 => walk_at "side"); (case h1 => walk_at "side")))
local macro_rules | `(tactic| walk_at "use") => `(tactic| ((with_reducible refine' Toy.use_Register___init__ ?q0 ?q1 ?q2 ?h0 ?h1 (fun _ => ?k0) (fun _ _ => ?k1)); (case q0 => walk_at "pk"); (case q1 => walk_at "pk"); (case q2 => walk_at "pk"); (case h0 => walk_at "side"); (case h1 => walk_at "side")))
local macro_rules | `(tactic| walk_at "use1") => `(tactic| ((with_reducible refine' Toy.use_Register_read ?q0 ?k0); (case q0 => walk_at "pk")))
local macro_rules | `(tactic| walk_at "use") => `(tactic| ((with_reducible refine' Toy.use_Register_write ?q0 ?h0 ?h1 ?h2 ?h3 ?h4 ?h5 (fun _ => ?k0) (fun _ _ => ?k1)); (case q0 => walk_at "pk"); (case h0 => walk_at "side"); (case h1 => walk_at "side"); (case h2 => walk_at "side"); (case h3 => walk_at "side"); (case h4 => walk_at "side"); (case h5 => walk_at "side")))
local macro_rules | `(tactic| walk_at "use") => `(tactic| ((with_reducible refine' Toy.use_Register_row_of ?q0 (fun _ => ?k0) (fun _ _ _ => ?k1)); (case q0 => walk_at "pk")))
local macro_rules | `(tactic| walk_at "use") => `(tactic| ((with_reducible refine' Toy.use_Register_get ?q0 ?h0 (fun _ => ?k0) (fun _ _ => ?k1)); (case q0 => walk_at "pk"); (case h0 => walk_at "side")))
local macro_rules | `(tactic| walk_at "use1") => `(tactic| ((with_reducible refine' Toy.use_Register_put ?q0 ?h0 ?h1 ?h2 ?k0); (case q0 => walk_at "pk"); (case h0 => walk_at "side"); (case h1 => walk_at "side"); (case h2 => walk_at "side")))
local macro_rules | `(tactic| walk_at "use1") => `(tactic| ((with_reducible refine' Toy.use_law_rounds ?q0 ?h0 (fun _ _ => ?k0)); (case q0 => walk_at "pk"); (case h0 => walk_at "side")))
local macro_rules | `(tactic| walk_at "use1") => `(tactic| ((with_reducible refine' Toy.use_law_bits (fun _ => ?k0))))
local macro_rules | `(tactic| walk_at "use1") => `(tactic| ((with_reducible refine' Toy.use_law_two ?h0 ?h1 ?k0); (case h0 => walk_at "side"); (case h1 => walk_at "side")))
local macro_rules | `(tactic| walk_at "use1") => `(tactic| ((with_reducible refine' Toy.use_law_register ?q0 ?k0); (case q0 => walk_at "pk")))
namespace Toy
open PySem L2
section
variable {P : Program} {w : World} {K : PySem.W.Frag} {mg : Str → Option Value} {base : Heap} {T : List (Addr × Str)} {C_Register C_BadWord C_BadPlace C_BadPlan C_NotDue C_Stuck C_BadBits C_BadText C_TooLarge g_told g_RULES : Addr}
/-! rows of rows of ints -/
inductive Ill (H : Hp) : List V → List (List Int) → Prop
  | nil : Ill H [] []
  | cons {p : Addr} {vs : List V} {xs : List Int} {xss : List (List Int)} : H p = some (.lst (xs.map .int)) → Ill H vs xss → Ill H (.ref p :: vs) (xs :: xss)
def ill (vs : List V) (xss : List (List Int)) : Dh.HP := fun h => Ill h vs xss
theorem Ill.mono {H H' : Hp} (s : Dh.Sub H H') : ∀ {vs : List V} {xss : List (List Int)}, Ill H vs xss → Ill H' vs xss
  | _, _, .nil => .nil
  | _, _, .cons e r => .cons (s _ _ e) (r.mono s)
theorem Ill.snoc {H : Hp} {p : Addr} {xs : List Int} (e : H p = some (.lst (xs.map .int))) : ∀ {vs : List V} {xss : List (List Int)}, Ill H vs xss → Ill H (vs ++ [.ref p]) (xss ++ [xs])
  | _, _, .nil => .cons e .nil
  | _, _, .cons e' r => .cons e' (r.snoc e)
theorem ill_snoc {p : Addr} {xs : List Int} {vs : List V} {xss : List (List Int)} {R : List Dh.HP} : Dh.Ent (Dh.pt p (.lst (xs.map .int)) :: ill vs xss :: R) (ill (vs ++ [.ref p]) (xss ++ [xs]) :: R) :=
  Dh.ent_fold (A := [Dh.pt p (.lst (xs.map .int)), ill vs xss]) Dh.ent_refl fun H h => by
    have h1 := Dh.Pick.at Dh.pick_here h
    obtain ⟨h2, s2, h3⟩ := h.tail.head
    exact (h3.mono s2).snoc h1
theorem ill_nil {R : List Dh.HP} : Dh.Ent R (ill [] [] :: R) := fun H s => Dh.Seps.impT (fun _ z => z) (s.more (fun _ => none) (fun _ _ e => by cases e) (fun _ _ e => by cases e) .nil)
def dRows (xss : List (List Int)) : List PyData := xss.map fun xs => .list (Dh.dIs xs)
theorem Ill.dp {H : Hp} : ∀ {vs : List V} {xss : List (List Int)}, Ill H vs xss → DpAll K H vs (dRows xss)
  | _, _, .nil => .nil
  | _, _, .cons e r => .cons (.lst (SqL.of e) (Dh.dps_ints _)) r.dp
theorem lay_rows : ∀ xss : List (List Int), PyData.canLayAll0 (dRows xss) = true ∧ PyData.depthAll (dRows xss) ≤ 1
  | [] => ⟨rfl, by simp [dRows, PyData.depthAll]⟩
  | xs :: xss => by
    have h := lay_rows xss
    have h1 := Dh.lay_ints xs
    have h2 := Dh.dep_ints xs
    rw [dRows] at h
    constructor
    · simp only [dRows, List.map_cons, PyData.canLayAll0, PyData.canLay0, h1, h.1, Bool.and_self]
    · simp only [dRows, List.map_cons, PyData.depthAll, PyData.depth]
      omega
theorem eqv_rows : ∀ xss : List (List Int), PyData.eqvAll (dRows xss) (dRows xss) = true
  | [] => by simp [dRows, PyData.eqvAll]
  | xs :: xss => by
    have h := eqv_rows xss
    rw [dRows] at h
    simp only [dRows, List.map_cons, PyData.eqvAll, PyData.eqv, Dh.eqv_ints, h, decide_true, Bool.and_self]
theorem g_neRows {a b : Addr} {vs ws : List V} {xss yss : List (List Int)} {L A B C D : List Dh.HP} {Q : VK} (p1 : Dh.Pick L (Dh.pt a (.lst vs)) A) (q1 : Dh.Pick L (ill vs xss) B) (p2 : Dh.Pick L (Dh.pt b (.lst ws)) C) (q2 : Dh.Pick L (ill ws yss) D) (h : xss = yss)
    (k : Dh.Go T L fun H => Q (.bl false) H) : Dh.Go T L fun H => Dh.rNeX K (.ref a) (.ref b) H Q := by
  subst h
  have sh : SeqAt.shaped (.list (dRows xss)) = true := by
    have h := lay_rows xss
    show (PyData.canLay0 (.list (dRows xss)) && decide (PyData.depth (.list (dRows xss)) ≤ 64)) = true
    rw [Bool.and_eq_true]
    exact ⟨by simp only [PyData.canLay0]; exact h.1, decide_eq_true (by simp only [PyData.depth]; omega)⟩
  refine Dh.g_neD (d := .list (dRows xss)) (e := .list (dRows xss)) (fun H s => ?_) (fun H s => ?_) sh sh ?_
  · obtain ⟨h2, s2, h3⟩ := (q1 H s).head
    exact .lst (SqL.of (p1.at s)) (h3.mono s2).dp
  · obtain ⟨h2, s2, h3⟩ := (q2 H s).head
    exact .lst (SqL.of (p2.at s)) (h3.mono s2).dp
  · have e : PyData.eqv (.list (dRows xss)) (.list (dRows xss)) = true := by simp only [PyData.eqv]; exact eqv_rows xss
    rw [e]
    exact k
def IR (us : List Int) (F : Int → List Int) (L0 : List Dh.HP) : Dh.CI := fun j acc L => Dh.Ent L (ill acc ((us.take j).map F) :: L0) ∧ acc.length = j
theorem g_lcRows {us : List Int} {L A : List Dh.HP} {c : Addr} {g : TG} {tt : TT} {te : TE} {vs : List Nat} {σ : L2.St} {Q : VK} (F : Int → List Int) (pk : Dh.Pick L (Dh.pt c (.lst (us.map .int))) A)
    (hs : ∀ D i u acc, us[i]? = some u → acc.length = i → Dh.Go T (Dh.pt D (.lst acc) :: ill acc ((us.take i).map F) :: L) (Dh.LcTurn T D (IR us F L) i g tt te vs σ (.int u)))
    (hd : ∀ D acc, Dh.Go T (Dh.pt D (.lst acc) :: ill acc (us.map F) :: L) fun H => Q (.ref D) H) : Dh.Go T L fun H => Dh.LcG (Itl K c) g tt te vs σ Q H :=
  Dh.g_lcL (IR us F L) ⟨ill_nil, rfl⟩ (fun i acc L' h => h.1.has (Dh.pick_there pk)) (fun D i x acc L' hx h => by
    rw [List.getElem?_map] at hx
    obtain ⟨u, hu, rfl⟩ := Option.map_eq_some_iff.mp hx
    exact (hs D i u acc hu h.2).ent (Dh.ent_tail h.1)) (fun D acc L' h => by
    obtain ⟨e, _⟩ := h
    rw [List.length_map, List.take_length] at e
    exact (hd D acc).ent (Dh.ent_tail e))
theorem g_lcPutR {us : List Int} {u : Int} {F : Int → List Int} {L L0 A : List Dh.HP} {D p : Addr} {i : Nat} {acc : List V} (hu : us[i]? = some u) (pk : Dh.Pick L (Dh.pt D (.lst acc)) A) (hl : acc.length = i) (h8 : i < 1000) (e : Dh.Ent A (Dh.pt p (.lst ((F u).map .int)) :: ill acc ((us.take i).map F) :: L0)) :
    Dh.Go T L fun H => Dh.LcAdd T D (IR us F L0) (i + 1) (.ref p) H :=
  Dh.g_lcAdd pk (by rw [PySem.sizeLine_eq]; omega) ⟨by
    rw [List.take_add_one, hu, List.map_append]
    exact e.trans ill_snoc, by rw [List.length_append, hl]; rfl⟩
theorem ill3 {p1 p2 p3 : Addr} {x1 x2 x3 : List Int} {L R : List Dh.HP} (e : Dh.Ent L (Dh.pt p1 (.lst (x1.map .int)) :: Dh.pt p2 (.lst (x2.map .int)) :: Dh.pt p3 (.lst (x3.map .int)) :: R)) : Dh.Ent L (ill [.ref p1, .ref p2, .ref p3] [x1, x2, x3] :: R) :=
  Dh.ent_fold (A := [_, _, _]) e fun H h => .cons (Dh.Pick.at Dh.pick_here h) (.cons (Dh.Pick.at (Dh.pick_there Dh.pick_here) h) (.cons (Dh.Pick.at (Dh.pick_there (Dh.pick_there Dh.pick_here)) h) .nil))
theorem both_bits {f g : Int → Int → Int} {us ws : List Int} (hf : ∀ u z : Int, 0 ≤ u ∧ u ≤ 1 → 0 ≤ z ∧ z ≤ 1 → 0 ≤ f u z ∧ f u z ≤ 1 ∧ f u z = g u z) (hu : ∀ u ∈ us, 0 ≤ u ∧ u ≤ 1) (hz : ∀ z ∈ ws, 0 ≤ z ∧ z ≤ 1) (h1 : us.length = 8) (h2 : ws.length = 8) :
    bitsL (ofB (List.zipWith f us ws)) 8 = List.zipWith g us ws := by
  have key : ∀ (us ws : List Int), (∀ u ∈ us, 0 ≤ u ∧ u ≤ 1) → (∀ z ∈ ws, 0 ≤ z ∧ z ≤ 1) → List.zipWith f us ws = List.zipWith g us ws ∧ ∀ x ∈ List.zipWith f us ws, 0 ≤ x ∧ x ≤ 1 := by
    intro us
    induction us with
    | nil => intro ws _ _; simp
    | cons u us ih =>
      intro ws hu hz
      cases ws with
      | nil => simp
      | cons z ws =>
        have h := hf u z (hu u List.mem_cons_self) (hz z List.mem_cons_self)
        obtain ⟨e1, e2⟩ := ih ws (fun x hx => hu x (List.mem_cons_of_mem _ hx)) (fun x hx => hz x (List.mem_cons_of_mem _ hx))
        refine ⟨by rw [List.zipWith_cons_cons, List.zipWith_cons_cons, h.2.2, e1], fun x hx => ?_⟩
        rw [List.zipWith_cons_cons] at hx
        rcases List.mem_cons.mp hx with rfl | hx
        · exact ⟨h.1, h.2.1⟩
        · exact e2 x hx
  obtain ⟨e1, e2⟩ := key us ws hu hz
  have h := bitsL_ofB e2
  rw [List.length_zipWith, h1, h2] at h
  rw [← e1]
  exact h
theorem bitsL_at {w : Int} {n k : Nat} (h : k < n) : (bitsL w n)[k]? = some (fld w (k : Int) 1) := by
  unfold bitsL
  rw [List.getElem?_map, List.getElem?_range h]
  rfl
theorem bits_mem {w : Int} {n : Nat} : ∀ u ∈ bitsL w n, 0 ≤ u ∧ u ≤ 1 := fun u hu => by
  obtain ⟨i, hi⟩ := List.mem_iff_getElem?.mp hu
  exact bit01 hi
def sg_law (T : List (Addr × Str)) (K : PySem.W.Frag) (C_Register C_BadWord C_BadPlace C_BadPlan C_NotDue C_Stuck C_BadBits C_BadText C_TooLarge g_told g_RULES : Addr) : Dh.SG :=
  fun zs L Q E => ∃ (a : Addr) (ns : List Int) (R : List Dh.HP), zs = [.ref a] ∧ Dh.Ent L ((Dh.sq K a (ns.map .int)) :: R) ∧ (Dh.Go T (R) fun H => Q (.bl true) H)
theorem use_law {L A0 : List Dh.HP} {Q : VK} {E : XK} {a : Addr} {ns : List Int} (q0 : Dh.Pick L (Dh.sq K a (ns.map .int)) A0)  (k0 : Dh.Go T (A0) fun H => Q (.bl true) H) : Dh.Go T L fun H => Dh.sOfN T 1 (sg_law T K C_Register C_BadWord C_BadPlace C_BadPlan C_NotDue C_Stuck C_BadBits C_BadText C_TooLarge g_told g_RULES) [.ref a] H Q E := Dh.g_sp rfl ⟨a, ns, A0, rfl, (Dh.ent_cons q0 Dh.ent_refl), k0⟩
local macro_rules | `(tactic| walk_at "use1") => `(tactic| ((with_reducible refine' Toy.use_law ?q0 ?k0); (case q0 => walk_at "pk")))
set_option maxHeartbeats 8000000 in
theorem ok_law (Z : Txt K mg C_Register C_BadWord C_BadPlace C_BadPlan C_NotDue C_Stuck C_BadBits C_BadText C_TooLarge g_told g_RULES) (c_Register : Dh.MakX P w K mg base 1 "Register" C_Register (Dh.sOfN T 3 (sg_Register___init__ T K C_Register C_BadWord C_BadPlace C_BadPlan C_NotDue C_Stuck C_BadBits C_BadText C_TooLarge g_told g_RULES))) (c_Register_get : Dh.MetX P w K mg base 3 C_Register "get" (Dh.sOfN T 2 (sg_Register_get T K C_Register C_BadWord C_BadPlace C_BadPlan C_NotDue C_Stuck C_BadBits C_BadText C_TooLarge g_told g_RULES))) (c_Register_write : Dh.MetX P w K mg base 5 C_Register "write" (Dh.sOfN T 2 (sg_Register_write T K C_Register C_BadWord C_BadPlace C_BadPlan C_NotDue C_Stuck C_BadBits C_BadText C_TooLarge g_told g_RULES))) (c_law_bits : Dh.CalX P w K mg base 1 "_law_bits" (Dh.sOfN T 1 (sg_law_bits T K C_Register C_BadWord C_BadPlace C_BadPlan C_NotDue C_Stuck C_BadBits C_BadText C_TooLarge g_told g_RULES))) (c_law_register : Dh.CalX P w K mg base 6 "_law_register" (Dh.sOfN T 1 (sg_law_register T K C_Register C_BadWord C_BadPlace C_BadPlan C_NotDue C_Stuck C_BadBits C_BadText C_TooLarge g_told g_RULES))) (c_law_roll : Dh.CalX P w K mg base 1 "_law_roll" (Dh.sOfN T 2 (sg_law_roll T K C_Register C_BadWord C_BadPlace C_BadPlan C_NotDue C_Stuck C_BadBits C_BadText C_TooLarge g_told g_RULES))) (c_law_rounds : Dh.CalX P w K mg base 2 "_law_rounds" (Dh.sOfN T 2 (sg_law_rounds T K C_Register C_BadWord C_BadPlace C_BadPlan C_NotDue C_Stuck C_BadBits C_BadText C_TooLarge g_told g_RULES))) (c_law_two : Dh.CalX P w K mg base 1 "_law_two" (Dh.sOfN T 1 (sg_law_two T K C_Register C_BadWord C_BadPlace C_BadPlan C_NotDue C_Stuck C_BadBits C_BadText C_TooLarge g_told g_RULES))) (c_bits : Dh.CalX P w K mg base 3 "bits" (Dh.sOfN T 2 (sg_bits T K C_Register C_BadWord C_BadPlace C_BadPlan C_NotDue C_Stuck C_BadBits C_BadText C_TooLarge g_told g_RULES))) (c_both : Dh.CalX P w K mg base 4 "both" (Dh.sOfN T 3 (sg_both T K C_Register C_BadWord C_BadPlace C_BadPlan C_NotDue C_Stuck C_BadBits C_BadText C_TooLarge g_told g_RULES))) (c_either : Dh.CalX P w K mg base 4 "either" (Dh.sOfN T 3 (sg_either T K C_Register C_BadWord C_BadPlace C_BadPlan C_NotDue C_Stuck C_BadBits C_BadText C_TooLarge g_told g_RULES))) (c_field : Dh.CalX P w K mg base 2 "field" (Dh.sOfN T 3 (sg_field T K C_Register C_BadWord C_BadPlace C_BadPlan C_NotDue C_Stuck C_BadBits C_BadText C_TooLarge g_told g_RULES))) (c_of_bits : Dh.CalX P w K mg base 1 "of_bits" (Dh.sOfN T 1 (sg_of_bits T K C_Register C_BadWord C_BadPlace C_BadPlan C_NotDue C_Stuck C_BadBits C_BadText C_TooLarge g_told g_RULES))) (c_power : Dh.CalX P w K mg base 1 "power" (Dh.sOfN T 1 (sg_power T K C_Register C_BadWord C_BadPlace C_BadPlan C_NotDue C_Stuck C_BadBits C_BadText C_TooLarge g_told g_RULES))) (c_turned_octets : Dh.CalX P w K mg base 2 "turned_octets" (Dh.sOfN T 2 (sg_turned_octets T K C_Register C_BadWord C_BadPlace C_BadPlan C_NotDue C_Stuck C_BadBits C_BadText C_TooLarge g_told g_RULES))) (c_with_field : Dh.CalX P w K mg base 3 "with_field" (Dh.sOfN T 4 (sg_with_field T K C_Register C_BadWord C_BadPlace C_BadPlan C_NotDue C_Stuck C_BadBits C_BadText C_TooLarge g_told g_RULES))) (c_without : Dh.CalX P w K mg base 4 "without" (Dh.sOfN T 3 (sg_without T K C_Register C_BadWord C_BadPlace C_BadPlan C_NotDue C_Stuck C_BadBits C_BadText C_TooLarge g_told g_RULES))) {cc PP : Addr} (TB : LamX.TabB base mg cc PP) (hmT : (PP, Dh.lamQ (Dh.locQ "law")) ∈ T) (huT : ∀ p ∈ T, p.1 = PP → p.2 = Dh.lamQ (Dh.locQ "law")) {f : Addr} {fd : FuncData} (F : Dh.FunC K "law" "law" s_law f fd (.ref cc)) :
    FnOk P w K mg base (L2.CX P w) 8 f fd ["script"] (Dh.sOfN T 1 (sg_law T K C_Register C_BadWord C_BadPlace C_BadPlan C_NotDue C_Stuck C_BadBits C_BadText C_TooLarge g_told g_RULES)) := by
  refine Dh.fnX (k := 7) F sc_law rfl (fun A outer s H0 L vs Q E hr hl h => ?_)
  refine ⟨_, (pss_cons (ps_for (passes_of rfl) rfl (Dh.piSeq (K := K) rfl (Dh.pe_cal c_law_rounds hr (by decide) (passes_call (takes_of rfl rfl rfl rfl) (fun _ _ _ _ h => h)) rfl (pa_cons (pv 0) (pa_cons pe_int pa_nil)))) (pg_name (i := 1) sc_law.nd rfl (by first | exact Or.inl rfl | exact Or.inr rfl))
    (pss_cons (ps_asg (pe_tup (pa_cons (Dh.pe_cal c_law_roll hr (by decide) (passes_call (takes_of rfl rfl rfl rfl) (fun _ _ _ _ h => h)) rfl (pa_cons (pv 1) (pa_cons pe_int pa_nil))) (pa_cons (Dh.pe_cal c_law_roll hr (by decide) (passes_call (takes_of rfl rfl rfl rfl) (fun _ _ _ _ h => h)) rfl (pa_cons (pv 1) (pa_cons pe_int pa_nil))) pa_nil))) (Dh.pgTup (K := K) rfl rfl (pgs_cons (pg_name (i := 2) sc_law.nd rfl (by first | exact Or.inl rfl | exact Or.inr rfl)) (pgs_cons (pg_name (i := 3) sc_law.nd rfl (by first | exact Or.inl rfl | exact Or.inr rfl)) pgs_nil)) rfl rfl))
    (pss_cons (ps_asg (pe_tup (pa_cons (Dh.pe_cal c_law_bits hr (by decide) (passes_call (takes_of rfl rfl rfl rfl) (fun _ _ _ _ h => h)) rfl (pa_cons (pv 2) pa_nil)) (pa_cons (Dh.pe_cal c_law_bits hr (by decide) (passes_call (takes_of rfl rfl rfl rfl) (fun _ _ _ _ h => h)) rfl (pa_cons (pv 3) pa_nil)) pa_nil))) (Dh.pgTup (K := K) rfl rfl (pgs_cons (pg_name (i := 4) sc_law.nd rfl (by first | exact Or.inl rfl | exact Or.inr rfl)) (pgs_cons (pg_name (i := 5) sc_law.nd rfl (by first | exact Or.inl rfl | exact Or.inr rfl)) pgs_nil)) rfl rfl))
    (pss_cons (ps_if (PW.pt (pw_or (pt_cmpR (Dh.oNe (K := K) rfl hr.units) (pe_callTy (Dh.cList (K := K) rfl) (by rfl) Z.b_list (by first | exact PySem.boot_list | exact PyProof.Rows.boot_list | decide +kernel) (pa_cons (Dh.pe_cal c_bits hr (by decide) (passes_call (takes_of rfl rfl rfl rfl) (fun _ _ _ _ h => h)) rfl (pa_cons (pv 2) (pa_cons pe_int pa_nil))) pa_nil)) (pv 4) (nomark _)) (pw_or1 (pt_cmpR (Dh.oNe (K := K) rfl hr.units) (Dh.pe_cal c_of_bits hr (by decide) (passes_call (takes_of rfl rfl rfl rfl) (fun _ _ _ _ h => h)) rfl (pa_cons (pe_callTy (Dh.cTup (K := K) rfl) (by rfl) Z.b_tuple (by first | exact PySem.boot_tuple | exact PyProof.Rows.boot_tuple | decide +kernel) (pa_cons (pv 4) pa_nil)) pa_nil)) (pv 2) (nomark _)))))
    (pss_one (ps_ret pe_bl))
    pss_nil)
    (pss_cons (ps_if (pt_cmpR (Dh.oNe (K := K) rfl hr.units) (pe_lc (own := [("x", 11)]) (g := (gName 11)) (tt := tYes) rfl sc_law.nd (Dh.piSeq (K := K) rfl (pe_lst (pa_cons (Dh.pe_cal c_both hr (by decide) (passes_call (takes_of rfl rfl rfl rfl) (fun _ _ _ _ h => h)) rfl (pa_cons (pv 2) (pa_cons (pv 3) (pa_cons pe_int pa_nil)))) (pa_cons (Dh.pe_cal c_either hr (by decide) (passes_call (takes_of rfl rfl rfl rfl) (fun _ _ _ _ h => h)) rfl (pa_cons (pv 2) (pa_cons (pv 3) (pa_cons pe_int pa_nil)))) (pa_cons (Dh.pe_cal c_without hr (by decide) (passes_call (takes_of rfl rfl rfl rfl) (fun _ _ _ _ h => h)) rfl (pa_cons (pv 2) (pa_cons (pv 3) (pa_cons pe_int pa_nil)))) pa_nil))))) (blkOk_by (own := [("x", 11)]) (N := N_law) (by kernel_rfl)) (fun _ _ _ _ _ => (pg_name (i := 11) sc_law.nd rfl (by first | exact Or.inl rfl | exact Or.inr rfl))) (fun _ _ _ _ _ => pts_nil) (fun _ _ _ _ _ => (Dh.pe_cal c_law_bits hr (by decide) passL rfl (pa_cons (pv 11) pa_nil)))) (pe_lst (pa_cons (pe_lc (own := [("x", 11), ("y", 12)]) (g := (gTup K 2 (gCons (gName 11) (gCons (gName 12) gNil)))) (tt := tYes) rfl sc_law.nd (Dh.piZip (K := K) rfl (by rfl) Z.b_zip (pa_cons (pv 4) (pa_cons (pv 5) pa_nil))) (blkOk_by (own := [("x", 11), ("y", 12)]) (N := N_law) (by kernel_rfl)) (fun _ _ _ _ _ => (Dh.pgTup (K := K) rfl rfl (pgs_cons (pg_name (i := 11) sc_law.nd rfl (by first | exact Or.inl rfl | exact Or.inr rfl)) (pgs_cons (pg_name (i := 12) sc_law.nd rfl (by first | exact Or.inl rfl | exact Or.inr rfl)) pgs_nil)) rfl rfl)) (fun _ _ _ _ _ => pts_nil) (fun _ _ _ _ _ => (pe_op (Dh.oMul (K := K) rfl) (pv 11) (pv 12)))) (pa_cons (pe_lc (own := [("x", 11), ("y", 12)]) (g := (gTup K 2 (gCons (gName 11) (gCons (gName 12) gNil)))) (tt := tYes) rfl sc_law.nd (Dh.piZip (K := K) rfl (by rfl) Z.b_zip (pa_cons (pv 4) (pa_cons (pv 5) pa_nil))) (blkOk_by (own := [("x", 11), ("y", 12)]) (N := N_law) (by kernel_rfl)) (fun _ _ _ _ _ => (Dh.pgTup (K := K) rfl rfl (pgs_cons (pg_name (i := 11) sc_law.nd rfl (by first | exact Or.inl rfl | exact Or.inr rfl)) (pgs_cons (pg_name (i := 12) sc_law.nd rfl (by first | exact Or.inl rfl | exact Or.inr rfl)) pgs_nil)) rfl rfl)) (fun _ _ _ _ _ => pts_nil) (fun _ _ _ _ _ => (pe_callTy Dh.call_intX (by rfl) Z.b_int (by first | exact PySem.boot_int | exact PyProof.Rows.boot_int | decide +kernel) (pa_cons (pe_cmpR op_gt (pe_op (Dh.oAdd (K := K) rfl) (pv 11) (pv 12)) pe_int (nomark _)) pa_nil)))) (pa_cons (pe_lc (own := [("x", 11), ("y", 12)]) (g := (gTup K 2 (gCons (gName 11) (gCons (gName 12) gNil)))) (tt := tYes) rfl sc_law.nd (Dh.piZip (K := K) rfl (by rfl) Z.b_zip (pa_cons (pv 4) (pa_cons (pv 5) pa_nil))) (blkOk_by (own := [("x", 11), ("y", 12)]) (N := N_law) (by kernel_rfl)) (fun _ _ _ _ _ => (Dh.pgTup (K := K) rfl rfl (pgs_cons (pg_name (i := 11) sc_law.nd rfl (by first | exact Or.inl rfl | exact Or.inr rfl)) (pgs_cons (pg_name (i := 12) sc_law.nd rfl (by first | exact Or.inl rfl | exact Or.inr rfl)) pgs_nil)) rfl rfl)) (fun _ _ _ _ _ => pts_nil) (fun _ _ _ _ _ => (pe_op (Dh.oMul (K := K) rfl) (pv 11) (pe_op op_sub pe_int (pv 12))))) pa_nil)))) (nomark _))
    (pss_one (ps_ret pe_bl))
    pss_nil)
    (pss_cons (ps_set (i := 6) sc_law.nd rfl (by first | exact Or.inl rfl | exact Or.inr rfl) (Dh.pe_cal c_law_roll hr (by decide) (passes_call (takes_of rfl rfl rfl rfl) (fun _ _ _ _ h => h)) rfl (pa_cons (pv 1) (pa_cons pe_int pa_nil))))
    (pss_cons (ps_set (i := 7) sc_law.nd rfl (by first | exact Or.inl rfl | exact Or.inr rfl) (pe_op (Dh.oAdd (K := K) rfl) pe_int (Dh.pe_cal c_law_roll hr (by decide) (passes_call (takes_of rfl rfl rfl rfl) (fun _ _ _ _ h => h)) rfl (pa_cons (pv 1) (pa_cons (pe_op op_sub pe_int (pv 6)) pa_nil)))))
    (pss_cons (ps_set (i := 8) sc_law.nd rfl (by first | exact Or.inl rfl | exact Or.inr rfl) (Dh.pe_cal c_law_roll hr (by decide) (passes_call (takes_of rfl rfl rfl rfl) (fun _ _ _ _ h => h)) rfl (pa_cons (pv 1) (pa_cons pe_int pa_nil))))
    (pss_cons (ps_if (pt_cmpR (Dh.oNe (K := K) rfl hr.units) (Dh.pe_cal c_field hr (by decide) (passes_call (takes_of rfl rfl rfl rfl) (fun _ _ _ _ h => h)) rfl (pa_cons (pv 2) (pa_cons (pv 6) (pa_cons (pv 7) pa_nil)))) (pe_callB (Dh.cSum (K := K) rfl rfl) (by rfl) Z.b_sum (by first | exact PySem.boot_sum | exact PyProof.Rows.boot_sum | decide +kernel) (pa_cons (pe_lc (own := [("k", 13)]) (g := (gName 13)) (tt := tYes) rfl sc_law.nd (pi_range1 rfl Z.b_range (pa_cons (pv 7) pa_nil)) (blkOk_by (own := [("k", 13)]) (N := N_law) (by kernel_rfl)) (fun _ _ _ _ _ => (pg_name (i := 13) sc_law.nd rfl (by first | exact Or.inl rfl | exact Or.inr rfl))) (fun _ _ _ _ _ => pts_nil) (fun _ _ _ _ _ => (pe_op (Dh.oMul (K := K) rfl) (pe_ix (Dh.xSeq (K := K) rfl) (pv 4) (pe_op (Dh.oAdd (K := K) rfl) (pv 6) (pv 13)) (fun _ _ => rfl)) (Dh.pe_cal c_law_two hr (by decide) passL rfl (pa_cons (pv 13) pa_nil))))) pa_nil)) (nomark _))
    (pss_one (ps_ret pe_bl))
    pss_nil)
    (pss_cons (ps_if (pt_cmpR (Dh.oNe (K := K) rfl hr.units) (Dh.pe_cal c_law_bits hr (by decide) (passes_call (takes_of rfl rfl rfl rfl) (fun _ _ _ _ h => h)) rfl (pa_cons (Dh.pe_cal c_with_field hr (by decide) (passes_call (takes_of rfl rfl rfl rfl) (fun _ _ _ _ h => h)) rfl (pa_cons (pv 2) (pa_cons (pv 6) (pa_cons (pv 7) (pa_cons (pv 8) pa_nil))))) pa_nil)) (pe_op (Dh.oAdd (K := K) rfl) (pe_op (Dh.oAdd (K := K) rfl) (pe_op (Dh.oAdd (K := K) rfl) (pe_slice (Dh.slSeq (K := K) rfl) (pv 4) po_none (po_some (pv 6))) (pe_lst (pa_cons (pv 8) pa_nil))) (pe_op (Dh.oMul (K := K) rfl) (pe_lst (pa_cons pe_int pa_nil)) (pe_op op_sub (pv 7) pe_int))) (pe_slice (Dh.slSeq (K := K) rfl) (pv 4) (po_some (pe_op (Dh.oAdd (K := K) rfl) (pv 6) (pv 7))) po_none)) (nomark _))
    (pss_one (ps_ret pe_bl))
    pss_nil)
    (pss_cons (ps_if (pt_not (Dh.ptTru (K := K) rfl (Dh.pe_cal c_law_register hr (by decide) (passes_call (takes_of rfl rfl rfl rfl) (fun _ _ _ _ h => h)) rfl (pa_cons (pv 1) pa_nil))))
    (pss_one (ps_ret pe_bl))
    pss_nil)
    (pss_cons (ps_if (pt_cmpR (Dh.oNe (K := K) rfl hr.units) (Dh.pe_cal c_turned_octets hr (by decide) (passes_call (takes_of rfl rfl rfl rfl) (fun _ _ _ _ h => h)) rfl (pa_cons (Dh.pe_cal c_turned_octets hr (by decide) (passes_call (takes_of rfl rfl rfl rfl) (fun _ _ _ _ h => h)) rfl (pa_cons (pe_op (Dh.oAdd (K := K) rfl) (pe_op (Dh.oMul (K := K) rfl) (pv 2) pe_int) (pv 3)) (pa_cons pe_int pa_nil))) (pa_cons pe_int pa_nil))) (pe_op (Dh.oAdd (K := K) rfl) (pe_op (Dh.oMul (K := K) rfl) (pv 2) pe_int) (pv 3)) (nomark _))
    (pss_one (ps_ret pe_bl))
    pss_nil)
    (pss_cons (ps_if (PW.pt (pw_or (pt_cmpR (Dh.oNe (K := K) rfl hr.units) (Dh.pe_cal c_turned_octets hr (by decide) (passes_call (takes_of rfl rfl rfl rfl) (fun _ _ _ _ h => h)) rfl (pa_cons (pe_op (Dh.oAdd (K := K) rfl) (pe_op (Dh.oMul (K := K) rfl) (pv 2) pe_int) (pv 3)) (pa_cons pe_int pa_nil))) (pe_op (Dh.oAdd (K := K) rfl) (pe_op (Dh.oMul (K := K) rfl) (pv 3) pe_int) (pv 2)) (nomark _)) (pw_or1 (pt_cmpR (Dh.oNe (K := K) rfl hr.units) (Dh.pe_cal c_power hr (by decide) (passes_call (takes_of rfl rfl rfl rfl) (fun _ _ _ _ h => h)) rfl (pa_cons pe_int pa_nil)) pe_int (nomark _)))))
    (pss_one (ps_ret pe_bl))
    pss_nil)
    (pss_cons (ps_for (passes_of rfl) rfl (Dh.piSeq (K := K) rfl (pe_lst (pa_cons (pe_lst (pa_cons (pe_tup (pa_cons pe_str (pa_cons pe_int (pa_cons pe_int (pa_cons pe_str pa_nil))))) (pa_cons (pe_tup (pa_cons pe_str (pa_cons pe_int (pa_cons pe_int (pa_cons pe_str pa_nil))))) pa_nil))) (pa_cons (pe_lst (pa_cons (pe_tup (pa_cons pe_str (pa_cons pe_int (pa_cons pe_int (pa_cons pe_str pa_nil))))) pa_nil)) (pa_cons (pe_lst (pa_cons (pe_tup (pa_cons pe_str (pa_cons pe_int (pa_cons pe_int (pa_cons pe_str pa_nil))))) pa_nil)) (pa_cons (pe_lst (pa_cons (pe_tup (pa_cons pe_str (pa_cons pe_int (pa_cons pe_int (pa_cons pe_str pa_nil))))) (pa_cons (pe_tup (pa_cons pe_str (pa_cons pe_int (pa_cons pe_int (pa_cons pe_str pa_nil))))) pa_nil))) pa_nil)))))) (pg_name (i := 9) sc_law.nd rfl (by first | exact Or.inl rfl | exact Or.inr rfl))
    (pss_one (ps_if (pt_cmpR (Dh.oNe (K := K) rfl hr.units) (Dh.pe_told (k := 2) (T := T) (cs := [(C_BadWord, "word"), (C_BadPlace, "place"), (C_BadPlan, "plan"), (C_NotDue, "due"), (C_Stuck, "stuck"), (C_BadBits, "bits"), (C_BadText, "text"), (C_TooLarge, "large")]) Z.t_law_told (fun _ _ _ _ _ _ => bnd_law_told) sc_law_told rfl (by first | exact Or.inl rfl | exact Or.inr (Or.inl rfl)) (fun _ _ => told_law_told Z) TB Dh.cx_code Dh.cx_qual hmT huT hr (by decide) (LamX.lamS_by (by kernel_rfl)) rfl (fun _ _ _ _ _ => rfl) rfl (fun A outer s H E f c' hr2 => (Dh.pe_mak c_Register hr2 (by decide) (passes_call (takes_of rfl rfl rfl rfl) (fun _ _ _ _ h => h)) rfl (pa_cons pe_int (pa_cons (pv 9) pa_nil))))) pe_str (nomark _))
    (pss_one (ps_ret pe_bl))
    pss_nil)))
    (pss_cons (ps_set (i := 10) sc_law.nd rfl (by first | exact Or.inl rfl | exact Or.inr rfl) (Dh.pe_mak c_Register hr (by decide) (passes_call (takes_of rfl rfl rfl rfl) (fun _ _ _ _ h => h)) rfl (pa_cons pe_int (pa_cons (pe_lst (pa_cons (pe_tup (pa_cons pe_str (pa_cons pe_int (pa_cons pe_int (pa_cons pe_str pa_nil))))) pa_nil)) pa_nil))))
    (pss_cons (ps_if (pt_cmpR (Dh.oNe (K := K) rfl hr.units) (Dh.pe_told (k := 5) (T := T) (cs := [(C_BadWord, "word"), (C_BadPlace, "place"), (C_BadPlan, "plan"), (C_NotDue, "due"), (C_Stuck, "stuck"), (C_BadBits, "bits"), (C_BadText, "text"), (C_TooLarge, "large")]) Z.t_law_told (fun _ _ _ _ _ _ => bnd_law_told) sc_law_told rfl (by first | exact Or.inl rfl | exact Or.inr (Or.inl rfl)) (fun _ _ => told_law_told Z) TB Dh.cx_code Dh.cx_qual hmT huT hr (by decide) (LamX.lamS_by (by kernel_rfl)) rfl (fun _ _ _ _ _ => rfl) rfl (fun A outer s H E f c' hr2 => (Dh.pe_met c_Register_write hr2 (by decide) (passes_call (takes_of rfl rfl rfl rfl) (fun _ _ _ _ h => h)) (pv 10) (pa_cons pe_int pa_nil)))) pe_str (nomark _))
    (pss_one (ps_ret pe_bl))
    pss_nil)
    (pss_cons (ps_if (pt_cmpR (Dh.oNe (K := K) rfl hr.units) (Dh.pe_told (k := 3) (T := T) (cs := [(C_BadWord, "word"), (C_BadPlace, "place"), (C_BadPlan, "plan"), (C_NotDue, "due"), (C_Stuck, "stuck"), (C_BadBits, "bits"), (C_BadText, "text"), (C_TooLarge, "large")]) Z.t_law_told (fun _ _ _ _ _ _ => bnd_law_told) sc_law_told rfl (by first | exact Or.inl rfl | exact Or.inr (Or.inl rfl)) (fun _ _ => told_law_told Z) TB Dh.cx_code Dh.cx_qual hmT huT hr (by decide) (LamX.lamS_by (by kernel_rfl)) rfl (fun _ _ _ _ _ => rfl) rfl (fun A outer s H E f c' hr2 => (Dh.pe_met c_Register_get hr2 (by decide) (passes_call (takes_of rfl rfl rfl rfl) (fun _ _ _ _ h => h)) (pv 10) (pa_cons pe_str pa_nil)))) pe_str (nomark _))
    (pss_one (ps_ret pe_bl))
    pss_nil)
    (pss_one (ps_if (pt_cmpR (Dh.oNe (K := K) rfl hr.units) (Dh.pe_told (k := 3) (T := T) (cs := [(C_BadWord, "word"), (C_BadPlace, "place"), (C_BadPlan, "plan"), (C_NotDue, "due"), (C_Stuck, "stuck"), (C_BadBits, "bits"), (C_BadText, "text"), (C_TooLarge, "large")]) Z.t_law_told (fun _ _ _ _ _ _ => bnd_law_told) sc_law_told rfl (by first | exact Or.inl rfl | exact Or.inr (Or.inl rfl)) (fun _ _ => told_law_told Z) TB Dh.cx_code Dh.cx_qual hmT huT hr (by decide) (LamX.lamS_by (by kernel_rfl)) rfl (fun _ _ _ _ _ => rfl) rfl (fun A outer s H E f c' hr2 => (Dh.pe_cal c_with_field hr2 (by decide) (passes_call (takes_of rfl rfl rfl rfl) (fun _ _ _ _ h => h)) rfl (pa_cons (pv 2) (pa_cons pe_int (pa_cons pe_int (pa_cons pe_int pa_nil))))))) pe_str (nomark _))
    (pss_one (ps_ret pe_bl))
    pss_nil)))))))))))))))))))
    (pss_one (ps_ret pe_bl))), ?_⟩
  try dsimp only [L2.cxOf, L2.Cx.blk, LamX.lamCx, L2.Cx.tr]
  obtain ⟨a, ns, R, rfl, hE, k0⟩ := h
  refine Dh.Go.ent hE ?_
  walk_at "vc"
  refine' Dh.g_sp rfl ⟨a, 3, ns, _, rfl, ?e1, by decide, fun p ps => ?k1⟩
  (case e1 => walk_at "ent")
  walk_at "vc"
  refine Dh.g_forL (xs := ps.map .ref) (fun i σ L => ∃ v1 v2 v3 v4 v5 v6 v7 v8 v9 v10, σ = [some (.ref a), v1, v2, v3, v4, v5, v6, v7, v8, v9, v10, none, none, none] ∧ Dh.Ent L (Dh.pt p (.lst (ps.map .ref)) :: Dh.Seps ((ps.drop i).map DiceAt) :: R)) ⟨_, _, _, _, _, _, _, _, _, _, rfl, by rw [List.drop_zero]; walk_at "ent"⟩ ?_ ?_ ?_
  · rintro i σ L ⟨v1, v2, v3, v4, v5, v6, v7, v8, v9, v10, rfl, hE⟩
    exact hE.has (by walk_at "pk")
  · rintro i x σ L hx ⟨v1, v2, v3, v4, v5, v6, v7, v8, v9, v10, rfl, hE⟩
    rw [List.getElem?_map] at hx
    obtain ⟨d, hd, rfl⟩ := Option.map_eq_some_iff.mp hx
    have hi := (List.getElem?_eq_some_iff.mp hd).1
    have ed : ps.drop i = d :: ps.drop (i + 1) := by
      rw [List.drop_eq_getElem_cons hi]
      congr 1
      exact (List.getElem?_eq_some_iff.mp hd).2
    rw [ed, List.map_cons] at hE
    refine Dh.Go.ent (hE.trans (Dh.ent_tail Dh.seps_head)) ?_
    walk_at "vc"
    rename_i wa hwa wb hwb t0 q1 q2 t1 q3 q4
    rw [show Int.toNat 8 = 8 from rfl]
    refine Dh.g_ifF (by simp) ?_
    walk_at "vc"
    rw [ofB_bits, show ((wa : Int)) % pw ((8 : Nat) : Int) = wa from Int.emod_eq_of_lt (by omega) hwa]
    refine Dh.g_ifF (by simp) ?_
    walk_at "vc"
    rw [show Int.toNat 8 = 8 from rfl]
    generalize hX : ofB (List.zipWith (fun u z : Int => u * z) (bitsL (wa : Int) 8) (bitsL (wb : Int) 8)) = X
    generalize hY : ofB (List.zipWith (fun u z : Int => if z > u then z else u) (bitsL (wa : Int) 8) (bitsL (wb : Int) 8)) = Y
    generalize hW : ofB (List.zipWith (fun u z : Int => u * (1 - z)) (bitsL (wa : Int) 8) (bitsL (wb : Int) 8)) = W
    rw [show [V.int X, V.int Y, V.int W] = [X, Y, W].map V.int from rfl]
    refine g_lcRows (us := [X, Y, W]) (fun x => bitsL x 8) (by walk_at "pk") (fun D i u acc hu hla => ?_) (fun D acc => ?_)
    · have hi3 := (List.getElem?_eq_some_iff.mp hu).1
      simp only [List.length_cons, List.length_nil] at hi3
      walk_at "vc"
      exact g_lcPutR hu (by walk_at "pk") hla (by omega) (by walk_at "ent")
    walk_at "vc"
    refine Dh.g_lcZ (us := bitsL (wa : Int) 8) (ws := bitsL (wb : Int) 8) (gx := V.int) (gy := V.int) (fun u z : Int => V.int (u * z)) (L2.walk_zip (by simp [bitsL_len])) Dh.ent_refl (fun H s => ⟨SqL.of (Dh.Pick.at (by walk_at "pk") s), SqL.of (Dh.Pick.at (by walk_at "pk") s)⟩) (fun D1 i u z p hu hz huz => ?_) (fun D1 => ?_)
    · have h01 := bit01 hu
      walk_at "vc"
      refine Dh.g_lcPutZ huz (by walk_at "pk") (by rw [bitsL_len, PySem.sizeLine_eq]; omega) rfl (by walk_at "ent")
    rw [zmap (f := fun u z : Int => u * z)]
    walk_at "vc"
    refine Dh.g_lcZ (us := bitsL (wa : Int) 8) (ws := bitsL (wb : Int) 8) (gx := V.int) (gy := V.int) (fun u z : Int => V.int (if decide (0 < u + z) = true then 1 else 0)) (L2.walk_zip (by simp [bitsL_len])) Dh.ent_refl (fun H s => ⟨SqL.of (Dh.Pick.at (by walk_at "pk") s), SqL.of (Dh.Pick.at (by walk_at "pk") s)⟩) (fun D2 i u z p hu hz huz => ?_) (fun D2 => ?_)
    · walk_at "vc"
      refine Dh.g_lcPutZ huz (by walk_at "pk") (by rw [bitsL_len, PySem.sizeLine_eq]; omega) rfl (by walk_at "ent")
    rw [zmap (f := fun u z : Int => if decide (0 < u + z) = true then 1 else 0)]
    walk_at "vc"
    refine Dh.g_lcZ (us := bitsL (wa : Int) 8) (ws := bitsL (wb : Int) 8) (gx := V.int) (gy := V.int) (fun u z : Int => V.int (u * (1 - z))) (L2.walk_zip (by simp [bitsL_len])) Dh.ent_refl (fun H s => ⟨SqL.of (Dh.Pick.at (by walk_at "pk") s), SqL.of (Dh.Pick.at (by walk_at "pk") s)⟩) (fun D3 i u z p hu hz huz => ?_) (fun D3 => ?_)
    · have h01 := bit01 hu
      walk_at "vc"
      refine Dh.g_lcPutZ huz (by walk_at "pk") (by rw [bitsL_len, PySem.sizeLine_eq]; omega) rfl (by walk_at "ent")
    rw [zmap (f := fun u z : Int => u * (1 - z))]
    walk_at "vc"
    refine Dh.Go.ent (ill3 (p1 := D1) (p2 := D2) (p3 := D3) (by walk_at "ent")) ?_
    refine g_neRows (by walk_at "pk") (by walk_at "pk") (by walk_at "pk") (by walk_at "pk") ?_ ?_
    · subst hX hY hW
      show [bitsL _ 8, bitsL _ 8, bitsL _ 8] = _
      rw [both_bits (f := fun u z : Int => u * z) (g := fun u z : Int => u * z) ?_ bits_mem bits_mem bitsL_len bitsL_len, both_bits (f := fun u z : Int => if z > u then z else u) (g := fun u z : Int => if decide (0 < u + z) = true then 1 else 0) ?_ bits_mem bits_mem bitsL_len bitsL_len, both_bits (f := fun u z : Int => u * (1 - z)) (g := fun u z : Int => u * (1 - z)) ?_ bits_mem bits_mem bitsL_len bitsL_len]
      all_goals
        intro u z hu hz
        rcases (show u = 0 ∨ u = 1 by omega) with rfl | rfl <;> rcases (show z = 0 ∨ z = 1 by omega) with rfl | rfl <;> decide
    walk_at "vc"
    rename_i low hlow many hmany much hmuch
    rw [show (1 + (many : Int)) = ((many + 1 : Nat) : Int) by omega]
    refine Dh.Go.ent (L' := DiceAt d :: Dh.pt q1 (.lst ((bitsL (wa : Int) 8).map .int)) :: Dh.pt q2 (.lst ((bitsL (wb : Int) 8).map .int)) :: Dh.pt p (.lst (ps.map .ref)) :: Dh.Seps ((ps.drop (i + 1)).map DiceAt) :: R) (by walk_at "ent") ?_
    rw [Int.toNat_natCast]
    refine Dh.g_lcRf (n := many + 1) (lo := 0) (fun k : Nat => V.int (fld (wa : Int) ((low + k : Nat) : Int) 1 * pw (k : Int))) Dh.ent_refl (fun D4 k hk => ?_) (fun D4 => ?_)
    · simp only [Int.zero_add]
      have hat : atI ((bitsL (wa : Int) 8).map V.int) ((low : Int) + (k : Int)) = some (.int (fld (wa : Int) ((low + k : Nat) : Int) 1)) := by
        rw [← Int.natCast_add]
        exact Dh.atI_map (bitsL_at (by omega))
      have hb01 := bit01 (bitsL_at (w := (wa : Int)) (n := 8) (k := low + k) (by omega))
      walk_at "vc"
      refine Dh.g_lcPut (by walk_at "pk") (by rw [PySem.sizeLine_eq]; omega) rfl (by walk_at "ent")
    rw [show (List.range (many + 1)).map (fun k : Nat => V.int (fld (wa : Int) ((low + k : Nat) : Int) 1 * pw (k : Int))) = ((List.range (many + 1)).map fun k : Nat => fld (wa : Int) ((low + k : Nat) : Int) 1 * pw (k : Int)).map V.int by rw [List.map_map]; rfl]
    walk_at "vc"
    rw [← fld_sum (a := (wa : Int)) (l := low) (many + 1)]
    refine Dh.g_ifF (by simp) ?_
    walk_at "vc"
    walk_at "use"
    · rename_i hbad
      have hp2 := pw_mono (a := 1) (b := many + 1) (by omega)
      rw [show pw ((1 : Nat) : Int) = 2 from rfl] at hp2
      exact absurd ⟨by omega, by omega⟩ hbad
    rename_i hm0 hm1
    have hl8 : (bitsL (wa : Int) 8).length = 8 := bitsL_len
    walk_at "vc"
    rw [show (List.replicate (((many + 1 : Nat) : Int) - 1).toNat [V.int 0]).flatten = (List.replicate many (0 : Int)).map V.int by rw [show ((many + 1 : Nat) : Int) - 1 = (many : Int) by omega, Int.toNat_natCast, List.flatten_replicate_singleton, List.map_replicate],
      show ((bitsL (wa : Int) 8).take low).map V.int ++ [V.int (much : Int)] = ((bitsL (wa : Int) 8).take low ++ [(much : Int)]).map V.int by rw [List.map_append]; rfl]
    walk_at "vc"
    rw [show ((low : Int) + ((many + 1 : Nat) : Int)) = ((low + (many + 1) : Nat) : Int) by omega, Dh.cut_drop, ← List.map_drop]
    walk_at "vc"
    have hwb := wf_bits (a := (wa : Int)) (m := (much : Int)) (l := low) (n := many + 1) (k := 8 - low - (many + 1)) (by omega) (by omega)
    rw [show low + (many + 1 + (8 - low - (many + 1))) = 8 by omega, Nat.add_sub_cancel] at hwb
    rw [hwb]
    refine Dh.g_ifF (by simp) ?_
    walk_at "vc"
    rw [show Int.toNat 2 = 2 from rfl, toct2 (a := (wa : Int)) (b := (wb : Int)) (by omega) (by omega), toct2 (a := (wb : Int)) (b := (wa : Int)) (by omega) (by omega)]
    refine Dh.g_ifF (by simp) ?_
    refine Dh.Go.ent (L' := DiceAt d :: Dh.pt p (.lst (ps.map .ref)) :: Dh.Seps ((ps.drop (i + 1)).map DiceAt) :: R) (by walk_at "ent") ?_
    walk_at "vc"
    refine Dh.g_ifF (by rw [show Int.toNat 2 = 2 from rfl, toct2 (by omega) (by omega)]; simp) ?_
    walk_at "vc"
    rename_i u1 u2 l1 u3 l2 u4 l3 u5 u6 l4 lo
    refine Dh.go_dvs (vs := [.ref u1, .ref u2]) (ds := [fA, ⟨"b", 1, 2, "plain"⟩].map fdt) (fun H s => ?_) ?_
    · show Dh.DVs H [.ref u1, .ref u2] [.tup [.str "a", .int 0, .int 2, .str "plain"], .tup [.str "b", .int 1, .int 2, .str "plain"]]
      walk_at "dvp"
    refine Dh.go_dvs (vs := [.ref u3]) (ds := [(⟨"a", 7, 2, "plain"⟩ : Fd)].map fdt) (fun H s => ?_) ?_
    · show Dh.DVs H [.ref u3] [.tup [.str "a", .int 7, .int 2, .str "plain"]]
      walk_at "dvp"
    refine Dh.go_dvs (vs := [.ref u4]) (ds := [(⟨"a", 0, 1, "none"⟩ : Fd)].map fdt) (fun H s => ?_) ?_
    · show Dh.DVs H [.ref u4] [.tup [.str "a", .int 0, .int 1, .str "none"]]
      walk_at "dvp"
    refine Dh.go_dvs (vs := [.ref u5, .ref u6]) (ds := [(⟨"a", 0, 1, "plain"⟩ : Fd), ⟨"a", 2, 1, "plain"⟩].map fdt) (fun H s => ?_) ?_
    · show Dh.DVs H [.ref u5, .ref u6] [.tup [.str "a", .int 0, .int 1, .str "plain"], .tup [.str "a", .int 2, .int 1, .str "plain"]]
      walk_at "dvp"
    refine Dh.g_forL (xs := [.ref l1, .ref l2, .ref l3, .ref l4]) (fun j σ L => ∃ v9, σ = [some (.ref a), some (.ref d), some (.int (wa : Int)), some (.int (wb : Int)), some (.ref q1), some (.ref q2), some (.int (low : Int)), some (.int ((many + 1 : Nat) : Int)), some (.int (much : Int)), v9, v10, none, none, none] ∧
      Dh.Ent L (Dh.pt lo (.lst [.ref l1, .ref l2, .ref l3, .ref l4]) :: Dh.pt l1 (.lst [.ref u1, .ref u2]) :: Dh.dvs [.ref u1, .ref u2] ([fA, ⟨"b", 1, 2, "plain"⟩].map fdt) :: Dh.pt l2 (.lst [.ref u3]) :: Dh.dvs [.ref u3] ([(⟨"a", 7, 2, "plain"⟩ : Fd)].map fdt) ::
        Dh.pt l3 (.lst [.ref u4]) :: Dh.dvs [.ref u4] ([(⟨"a", 0, 1, "none"⟩ : Fd)].map fdt) :: Dh.pt l4 (.lst [.ref u5, .ref u6]) :: Dh.dvs [.ref u5, .ref u6] ([(⟨"a", 0, 1, "plain"⟩ : Fd), ⟨"a", 2, 1, "plain"⟩].map fdt) ::
        DiceAt d :: Dh.pt p (.lst (ps.map .ref)) :: Dh.Seps ((ps.drop (i + 1)).map DiceAt) :: R)) ⟨_, rfl, by walk_at "ent"⟩ ?_ ?_ ?_
    · rintro j σ L ⟨v9, rfl, hE⟩
      exact hE.has (by walk_at "pk")
    · rintro j x σ L hx ⟨v9, rfl, hE⟩
      refine Dh.Go.ent hE ?_
      rcases (show j = 0 ∨ j = 1 ∨ j = 2 ∨ j = 3 by have := (List.getElem?_eq_some_iff.mp hx).1; simp at this; omega) with rfl | rfl | rfl | rfl
      · obtain rfl : V.ref l1 = x := by simpa using hx
        walk_at "vc"
        walk_at "use"
        · walk_at "vc"
          exact Dh.SI.in ⟨_, rfl, by walk_at "ent"⟩
        · rename_i h1 h2
          exact absurd bad1 (fun z => z.elim h1 (fun e => e h2))
      · obtain rfl : V.ref l2 = x := by simpa using hx
        walk_at "vc"
        walk_at "use"
        · walk_at "vc"
          exact Dh.SI.in ⟨_, rfl, by walk_at "ent"⟩
        · rename_i h1 h2
          exact absurd bad2 (fun z => z.elim h1 (fun e => e h2))
      · obtain rfl : V.ref l3 = x := by simpa using hx
        walk_at "vc"
        walk_at "use"
        · walk_at "vc"
          exact Dh.SI.in ⟨_, rfl, by walk_at "ent"⟩
        · rename_i h1 h2
          exact absurd bad3 (fun z => z.elim h1 (fun e => e h2))
      · obtain rfl : V.ref l4 = x := by simpa using hx
        walk_at "vc"
        walk_at "use"
        · walk_at "vc"
          exact Dh.SI.in ⟨_, rfl, by walk_at "ent"⟩
        · rename_i h1 h2
          exact absurd bad4 (fun z => z.elim h1 (fun e => e h2))
    · rintro σ L ⟨v9, rfl, hE⟩
      refine Dh.Go.ent hE ?_
      walk_at "vc"
      rename_i u7 l5 x0
      have hfA : ∀ f ∈ [fA], 0 ≤ f.lo ∧ f.lo ≤ 24 ∧ 0 ≤ f.many ∧ f.many ≤ 24 := by
        intro f hf
        rw [List.mem_singleton] at hf
        rw [hf]
        decide
      have hno : fdAt [fA] "g" = none := by
        rw [← Option.isNone_iff_eq_none]
        decide +kernel
      refine Dh.go_dvs (vs := [.ref u7]) (ds := [fA].map fdt) (fun H s => ?_) ?_
      · show Dh.DVs H [.ref u7] [.tup [.str "a", .int 0, .int 2, .str "plain"]]
        walk_at "dvp"
      walk_at "use"
      · rename_i h
        exact absurd h (fun z => z.elim good1.1 (fun e => e good1.2))
      walk_at "vc"
      walk_at "use"
      case k1 =>
        rename_i h1 h2
        exact absurd h2 (by rw [show pw 8 = 256 from rfl]; decide)
      walk_at "vc"
      walk_at "use"
      case k1 =>
        rename_i h
        rw [hno] at h
        cases h
      walk_at "vc"
      walk_at "use"
      case k1 =>
        rename_i h1 h2
        exact absurd h2 (by rw [show pw 2 = 4 from rfl]; decide)
      walk_at "vc"
      exact Dh.SI.in ⟨_, _, _, _, _, _, _, _, _, _, rfl, by walk_at "ent"⟩
  · rintro σ L ⟨v1, v2, v3, v4, v5, v6, v7, v8, v9, v10, rfl, hE⟩
    refine Dh.Go.ent hE ?_
    walk_at "vc"
    exact Dh.Go.ent (by walk_at "ent") k0
end
end Toy
end

section
local macro_rules | `(tactic| walk_at "pk") => `(tactic| (with_reducible first | exact Dh.pick_here | (refine' Dh.pick_there ?p; (case p => walk_at "pk"))))
local macro_rules | `(tactic| walk_at "ent") => `(tactic| first | (with_reducible exact Dh.ent_refl) | (with_reducible exact Dh.ent_nil) | (refine' Dh.ent_cons ?q0 ?k; (case q0 => walk_at "pk"); (case k => walk_at "ent")) | (refine' Dh.ent_drop ?k; (case k => walk_at "ent")))
local macro_rules | `(tactic| walk_at "side") => `(tactic| first | (with_reducible assumption) | omega | decide | (exact Or.inl rfl) | (exact Or.inr rfl) | (exact Dh.log2_ok (by omega)) | (simp only [L2.CMul, L2.CDiv, L2.CDivN]; omega) | (unfold L2.CPow; decide) | (simp only [List.length_cons, List.length_nil, List.length_append, List.length_map, List.length_range, List.length_replicate, List.length_set, List.length_take, List.length_drop, PySem.sizeLine_eq] <;> omega))
local macro_rules | `(tactic| walk_at "dvp") => `(tactic| (with_reducible first | exact Dh.DV.int | exact Dh.DV.str | exact Dh.DV.bl | exact Dh.DV.non | exact Dh.DVs.nil | (refine' Dh.Pick.dvs ?a (by assumption); (case a => walk_at "pk")) | (refine' Dh.Pick.dv ?a (by assumption); (case a => walk_at "pk")) | (refine' Dh.DVs.cons ?a ?b; (case a => walk_at "dvp"); (case b => walk_at "dvp")) | (refine' Dh.DVs.app ?a ?b; (case a => walk_at "dvp"); (case b => walk_at "dvp")) | (refine' Dh.Pick.tup ?a (by assumption) ?b; (case a => walk_at "pk"); (case b => walk_at "dvp")) | (refine' Dh.DVs.take _ ?a; (case a => walk_at "dvp")) | (refine' Dh.DVs.drop _ ?a; (case a => walk_at "dvp")) | (refine' Dh.DVs.set _ ?a ?b; (case a => walk_at "dvp"); (case b => walk_at "dvp"))))
local macro_rules | `(tactic| walk_at "ixs") => `(tactic| first | assumption | omega | (simp only [List.length_set, List.length_map, List.length_cons, List.length_nil, List.length_append, List.length_replicate] <;> first | assumption | omega))
local macro_rules | `(tactic| walk_at "lk") => `(tactic| first | rfl | assumption | (exact Dh.ixN_lt (by walk_at "ixs")) | (exact Dh.atI_lt (by assumption)) | (exact Dh.atI_map (by assumption))  | with_reducible exact Toy.lk_Register_wide | with_reducible exact Toy.lk_Register_fields | with_reducible exact Toy.lk_Register_word | with_reducible exact Toy.lk_Register_written | with_reducible exact Toy.lk_Register_pulses | with_reducible exact Toy.no_Register_init | with_reducible exact Toy.no_Register_read | with_reducible exact Toy.no_Register_write | with_reducible exact Toy.no_Register_row_of | with_reducible exact Toy.no_Register_get | with_reducible exact Toy.no_Register_put)
local macro_rules | `(tactic| walk_at "kt") => `(tactic| assumption)
local macro_rules | `(tactic| walk_at "pf") => `(tactic| first  | with_reducible exact Toy.pf_Register_wide | with_reducible exact Toy.pf_Register_fields | with_reducible exact Toy.pf_Register_word | with_reducible exact Toy.pf_Register_written | with_reducible exact Toy.pf_Register_pulses | with_reducible exact Toy.gr_Register_wide | with_reducible exact Toy.gr_Register_fields | with_reducible exact Toy.gr_Register_word | with_reducible exact Toy.gr_Register_written | with_reducible exact Toy.gr_Register_pulses | rfl)
local macro_rules | `(tactic| walk_at "ln") => `(tactic| first  | with_reducible exact Toy.ln_Register | decide | (simp only [List.length_cons, List.length_nil] <;> omega))
local macro_rules | `(tactic| walk_at "hasm") => `(tactic| first | (refine' Toy.hasM_RegAt ?q0 ?q1; (case q0 => walk_at "pk"); (case q1 => (intros; walk_at "lk"))) | (refine' Dh.hasM_ob ?q0 ?q1; (case q0 => walk_at "pk"); (case q1 => walk_at "lk")))
local macro_rules | `(tactic| walk_at "vcp0") => `(tactic| first | ((with_reducible refine' Dh.g_seq ?k)) | ((with_reducible refine' Dh.g_next ?k)) | ((with_reducible refine' Dh.g_nonA ?k)) | ((with_reducible refine' Dh.g_var ?q0 ?k); (case q0 => rfl)) | ((with_reducible refine' Dh.g_c ?k)) | ((with_reducible refine' Dh.g_op ?k)) | ((with_reducible refine' Dh.g_asg ?k)) | ((with_reducible refine' Dh.g_name ?k)) | ((with_reducible refine' Dh.g_ifS ?k)) | ((with_reducible refine' Dh.g_test ?k)) | ((with_reducible refine' Dh.g_isB ?k)) | ((with_reducible refine' Dh.g_B ?k)) | ((with_reducible refine' Dh.g_ret ?k)) | ((with_reducible refine' Dh.g_retN ?k)) | ((with_reducible refine' Dh.g_drop ?k)) | ((with_reducible refine' Dh.g_brk ?k)) | ((with_reducible refine' Dh.g_cont ?k)) | ((with_reducible refine' Dh.g_un ?k)) | ((with_reducible refine' Dh.g_I0 ?k)) | ((with_reducible refine' Dh.g_addI ?k)) | ((with_reducible refine' Dh.g_addB ?k)) | ((with_reducible refine' Dh.g_addS ?q0 ?k); (case q0 => walk_at "side")) | ((with_reducible refine' Dh.g_addM ?q0 ?q1 ?q2 ?k); (case q0 => walk_at "pk"); (case q1 => walk_at "pk"); (case q2 => walk_at "side"); intro _) | ((with_reducible refine' Dh.g_addL ?q0 ?q1 ?q2 ?k); (case q0 => walk_at "pk"); (case q1 => walk_at "pk"); (case q2 => walk_at "side"); intro _))
local macro_rules | `(tactic| walk_at "vcp1") => `(tactic| first | ((with_reducible refine' Dh.g_I ?q0 ?k); (case q0 => walk_at "side")) | ((with_reducible refine' Dh.g_mulI ?q0 ?k); (case q0 => walk_at "side")) | ((with_reducible refine' Dh.g_U ?k)) | ((with_reducible refine' Dh.g_eqS ?q0 ?k); (case q0 => rfl)) | ((with_reducible refine' Dh.g_neS ?q0 ?k); (case q0 => rfl)) | ((with_reducible refine' Dh.g_eqLL ?q0 ?q1 ?k); (case q0 => walk_at "pk"); (case q1 => walk_at "pk")) | ((with_reducible refine' Dh.g_neLL ?q0 ?q1 ?k); (case q0 => walk_at "pk"); (case q1 => walk_at "pk")) | ((with_reducible refine' Dh.g_eqL0 ?q0 ?q1 ?k); (case q0 => walk_at "pk"); (case q1 => walk_at "pk")) | ((with_reducible refine' Dh.g_neL0 ?q0 ?q1 ?k); (case q0 => walk_at "pk"); (case q1 => walk_at "pk")) | ((with_reducible refine' Dh.g_neT0 ?q0 ?q1 ?q2 ?k); (case q0 => walk_at "pk"); (case q1 => walk_at "pk"); (case q2 => walk_at "pk")) | ((with_reducible refine' Dh.g_neP ?q0 ?q1 ?k); (case q0 => walk_at "pk"); (case q1 => walk_at "pk")) | ((with_reducible refine' Dh.g_inI ?q0 ?k); (case q0 => walk_at "pk")) | ((with_reducible refine' Dh.g_isN ?k)) | ((with_reducible refine' Dh.g_notN ?k)) | ((with_reducible refine' Dh.g_ixL ?q0 ?q1 ?k); (case q0 => walk_at "pk"); (case q1 => walk_at "lk")) | ((with_reducible refine' Dh.g_ixT ?q0 ?q1 ?k); (case q0 => walk_at "pk"); (case q1 => walk_at "lk")) | ((with_reducible refine' Dh.g_sl ?k)) | ((with_reducible refine' Dh.g_noPart ?k)) | ((with_reducible refine' Dh.g_part ?k)) | ((with_reducible refine' Dh.g_isSomeInt ?k)) | ((with_reducible refine' Dh.g_slTk ?q0 ?k); (case q0 => walk_at "pk"); intro _) | ((with_reducible refine' Dh.g_slDr ?q0 ?k); (case q0 => walk_at "pk"); intro _) | ((with_reducible refine' Dh.g_slL ?q0 ?k); (case q0 => walk_at "pk"); intro _) | ((with_reducible refine' Dh.g_slQTk ?q0 ?k); (case q0 => walk_at "pk"); intro _))
local macro_rules | `(tactic| walk_at "vcp2") => `(tactic| first | ((with_reducible refine' Dh.g_slQ ?q0 ?k); (case q0 => walk_at "pk"); intro _) | ((with_reducible refine' Dh.g_fldE ?k)) | ((with_reducible refine' Dh.g_fld ?q0 ?q1 ?k); (case q0 => walk_at "pk"); (case q1 => walk_at "lk")) | ((with_reducible refine' Dh.g_tup ?k)) | ((with_reducible refine' Dh.g_lst ?k)) | ((with_reducible refine' Dh.g_newT ?q0 ?k); (case q0 => walk_at "side"); intro _) | ((with_reducible refine' Dh.g_newL ?q0 ?k); (case q0 => walk_at "side"); intro _) | ((with_reducible refine' Dh.g_nil ?k)) | ((with_reducible refine' Dh.g_cons ?k)) | ((with_reducible refine' Dh.g_call ?k)) | ((with_reducible refine' Dh.g_methE ?k)) | ((with_reducible refine' Dh.g_meth ?q0 ?k); (case q0 => walk_at "hasm")) | ((with_reducible refine' Dh.g_make ?k)) | ((with_reducible refine' Dh.g_made ?k); intro _) | ((with_reducible refine' Dh.g_cb ?k)) | ((with_reducible refine' Dh.g_int ?k)) | ((with_reducible refine' Dh.g_intB ?k)) | ((with_reducible refine' Dh.g_abs ?k)) | ((with_reducible refine' Dh.g_max2 ?k)) | ((with_reducible refine' Dh.g_min2 ?k)) | ((with_reducible refine' Dh.g_strI ?q0 ?k); (case q0 => walk_at "side")) | ((with_reducible refine' Dh.g_lenL ?q0 ?k); (case q0 => walk_at "pk")) | ((with_reducible refine' Dh.g_lenT ?q0 ?k); (case q0 => walk_at "pk")) | ((with_reducible refine' Dh.g_lenD ?q0 ?k); (case q0 => walk_at "pk")))
local macro_rules | `(tactic| walk_at "vcp3") => `(tactic| first | ((with_reducible refine' Dh.g_listL ?q0 ?k); (case q0 => walk_at "pk"); intro _) | ((with_reducible refine' Dh.g_listT ?q0 ?k); (case q0 => walk_at "pk"); intro _) | ((with_reducible refine' Dh.g_tupL ?q0 ?k); (case q0 => walk_at "pk"); intro _) | ((with_reducible refine' Dh.g_tupT ?q0 ?k); (case q0 => walk_at "pk")) | ((with_reducible refine' Dh.g_pop0 ?q0 ?k); (case q0 => walk_at "pk")) | ((with_reducible refine' Dh.g_bm ?k)) | ((with_reducible refine' Dh.g_bm0 ?k)) | ((with_reducible refine' Dh.g_tyL ?q0 ?k); (case q0 => walk_at "pk")) | ((with_reducible refine' Dh.g_append ?q0 ?q1 ?k); (case q0 => walk_at "pk"); (case q1 => walk_at "side")) | ((with_reducible refine' Dh.g_rep ?q0 ?q1 ?q2 ?q3 ?k); (case q0 => walk_at "pk"); (case q1 => walk_at "side"); (case q2 => walk_at "side"); (case q3 => walk_at "side"); intro _) | ((with_reducible refine' Dh.g_not ?k)) | ((with_reducible refine' Dh.g_tand ?k)) | ((with_reducible refine' Dh.g_tor ?k)) | ((with_reducible refine' Dh.g_andV ?k)) | ((with_reducible refine' Dh.g_orV ?k)) | ((with_reducible refine' Dh.g_notV ?k)) | ((with_reducible refine' Dh.g_ifE ?k)) | ((with_reducible refine' Dh.g_chain ?k)) | ((with_reducible refine' Dh.g_tru ?k)) | ((with_reducible refine' Dh.g_truB ?k)) | ((with_reducible refine' Dh.g_truI ?k)) | ((with_reducible refine' Dh.g_truN ?k)) | ((with_reducible refine' Dh.g_truL ?q0 ?k); (case q0 => walk_at "pk")) | ((with_reducible refine' Dh.g_gsub ?k)))
local macro_rules | `(tactic| walk_at "vcp4") => `(tactic| first | ((with_reducible refine' Dh.g_setM ?q0 ?q1 ?k); (case q0 => walk_at "pk"); (case q1 => walk_at "lk")) | ((with_reducible refine' Dh.g_setL ?q0 ?q1 ?k); (case q0 => walk_at "pk"); (case q1 => walk_at "lk")) | ((with_reducible refine' Dh.g_gtup ?q0 ?q1 ?k); (case q0 => walk_at "pk"); (case q1 => rfl)) | ((with_reducible refine' Dh.g_gnil ?k)) | ((with_reducible refine' Dh.g_gcons ?k)) | ((with_reducible refine' Dh.g_par ?k)) | ((with_reducible refine' Dh.g_par2 ?k)) | ((with_reducible refine' Dh.g_par3 ?k)) | ((with_reducible refine' Dh.g_par3b ?k)) | ((with_reducible refine' Dh.g_listRg ?k)) | ((with_reducible refine' Dh.g_rg1E ?k)) | ((with_reducible refine' Dh.g_rg1 ?k)) | ((with_reducible refine' Dh.g_rgN ?q0 ?k); (case q0 => walk_at "side"); intro _) | ((with_reducible refine' Dh.g_rgL ?q0 ?k); (case q0 => walk_at "side"); intro _) | ((with_reducible refine' Dh.g_dinE ?k)) | ((with_reducible refine' Dh.g_dinI ?q0 ?k); (case q0 => walk_at "pk")) | ((with_reducible refine' Dh.g_dnotinE ?k)) | ((with_reducible refine' Dh.g_dnotinI ?q0 ?k); (case q0 => walk_at "pk")) | ((with_reducible refine' Dh.g_dgetE ?k)) | ((with_reducible refine' Dh.g_dgetI ?q0 ?q1 ?k); (case q0 => walk_at "pk"); (case q1 => walk_at "lk")) | ((with_reducible refine' Dh.g_dputE ?k)) | ((with_reducible refine' Dh.g_dputI ?q0 ?q1 ?k); (case q0 => walk_at "pk"); (case q1 => walk_at "side")) | ((with_reducible refine' Dh.g_dpopE ?k)) | ((with_reducible refine' Dh.g_dpopA ?q0 ?k); (case q0 => walk_at "pk")))
local macro_rules | `(tactic| walk_at "vcp5") => `(tactic| first | ((with_reducible refine' Dh.g_dpopB ?q0 ?q1 ?k); (case q0 => walk_at "pk"); (case q1 => walk_at "lk")) | ((with_reducible refine' Dh.g_dnew ?k); intro _) | ((with_reducible refine' Dh.g_ipMul ?q0 ?k); (case q0 => walk_at "side")) | ((with_reducible refine' Dh.g_sfldE ?k)) | ((with_reducible refine' Dh.g_sfld ?q0 ?q1 ?q2 ?k); (case q0 => walk_at "pk"); (case q1 => walk_at "pf"); (case q2 => walk_at "ln")) | ((with_reducible refine' Dh.g_augE ?k)) | ((with_reducible refine' Dh.g_augF ?q0 ?q1 ?k); (case q0 => walk_at "pk"); (case q1 => walk_at "lk")) | ((with_reducible refine' Dh.g_augV ?q0 ?k); (case q0 => rfl)) | ((with_reducible refine' Dh.g_ipI ?k)) | ((with_reducible refine' Dh.g_rAdd ?k)) | ((with_reducible refine' Dh.g_rSub ?k)) | ((with_reducible refine' Dh.g_for ?k)) | ((with_reducible refine' Dh.g_iRng1 ?k)) | ((with_reducible refine' Dh.g_iRng2 ?k)) | ((with_reducible refine' Dh.g_rng1 ?q0 ?q1 ?k); (case q0 => walk_at "side"); (case q1 => walk_at "side")) | ((with_reducible refine' Dh.g_rng2 ?q0 ?k); (case q0 => walk_at "side")) | ((with_reducible refine' Dh.g_iSeqE ?k)) | ((with_reducible refine' Dh.g_iSeqL ?q0 ?k); (case q0 => walk_at "pk")) | ((with_reducible refine' Dh.g_iSeqT ?q0 ?k); (case q0 => walk_at "pk")) | ((with_reducible refine' Dh.g_inK ?q0 ?k); (case q0 => walk_at "kt")) | ((with_reducible refine' Dh.g_notInK ?q0 ?k); (case q0 => walk_at "kt")) | ((with_reducible refine' Dh.g_isiII ?k)) | ((with_reducible refine' Dh.g_isiIB ?k)) | ((with_reducible refine' Dh.g_dinS ?q0 ?k); (case q0 => walk_at "pk")))
local macro_rules | `(tactic| walk_at "vcp6") => `(tactic| first | ((with_reducible refine' Dh.g_dnotinS ?q0 ?k); (case q0 => walk_at "pk")) | ((with_reducible refine' Dh.g_dgetS ?q0 ?q1 ?k); (case q0 => walk_at "pk"); (case q1 => walk_at "lk")) | ((with_reducible refine' Dh.g_dputS ?q0 ?q1 ?k); (case q0 => walk_at "pk"); (case q1 => walk_at "side")) | ((with_reducible refine' Dh.g_dpopS ?q0 ?q1 ?k); (case q0 => walk_at "pk"); (case q1 => walk_at "lk")) | ((with_reducible refine' Dh.g_iRevE ?k)) | ((with_reducible refine' Dh.g_iRevL ?q0 ?k); (case q0 => walk_at "pk")) | ((with_reducible refine' Dh.g_iRevT ?q0 ?k); (case q0 => walk_at "pk")) | ((with_reducible refine' Dh.g_iZipE ?k)) | ((with_reducible refine' Dh.g_iZipL ?q0 ?q1 ?k); (case q0 => walk_at "pk"); (case q1 => walk_at "pk")) | ((with_reducible refine' Dh.g_iZipT ?q0 ?q1 ?k); (case q0 => walk_at "pk"); (case q1 => walk_at "pk")) | ((with_reducible refine' Dh.g_iEnumE ?k)) | ((with_reducible refine' Dh.g_iEnum ?q0 ?k); (case q0 => walk_at "pk")) | ((with_reducible refine' Dh.g_dcE ?k)) | ((with_reducible refine' Dh.g_dturn ?k)) | ((with_reducible refine' Dh.g_sum ?q0 ?k); (case q0 => walk_at "pk")) | ((with_reducible refine' Dh.g_pop ?q0 ?q1 ?k); (case q0 => walk_at "pk"); (case q1 => walk_at "lk")) | ((with_reducible refine' Dh.g_wbody ?k)) | ((with_reducible refine' Dh.g_lcE ?k)) | ((with_reducible refine' Dh.g_turn ?k)) | ((with_reducible refine' Dh.g_tYes ?k)) | ((with_reducible refine' Dh.g_rs ?k)) | ((with_reducible refine' Dh.g_rsW ?k)) | ((with_reducible refine' Dh.g_told ?k)) | ((with_reducible refine' Dh.g_ifT ?q0 ?k); (case q0 => rfl)))
local macro_rules | `(tactic| walk_at "vcp7") => `(tactic| first | ((with_reducible refine' Dh.g_ifF ?q0 ?k); (case q0 => rfl)) | ((with_reducible refine' Dh.g_and ?q0 ?k); (case q0 => rfl)) | ((with_reducible refine' Dh.g_turn ?k)))
local macro_rules | `(tactic| walk_at "vc1") => `(tactic| first | walk_at "vcp0" | walk_at "vcp1" | walk_at "vcp2" | walk_at "vcp3" | walk_at "vcp4" | walk_at "vcp5" | walk_at "vcp6" | walk_at "vcp7" | walk_at "use1" | walk_at "told1")
local macro_rules | `(tactic| walk_at "vc") => `(tactic| repeat walk_at "vc1")
local macro_rules | `(tactic| walk_at "spl") => `(tactic| first | ((with_reducible refine Dh.g_ifD ?_ ?_) <;> intro _) | ((with_reducible refine Dh.g_ifN ?_ ?_) <;> intro _) | ((with_reducible refine Dh.g_if ?_ ?_) <;> intro _))
local macro_rules | `(tactic| walk_at "vcs") => `(tactic| repeat' (first | walk_at "vc1" | walk_at "spl"))
local macro_rules | `(tactic| walk_at "told1") => `(tactic| first | ((with_reducible refine' Dh.g_toldY (Toy.Txt.x_BadWord_BadWord ?z) ?k); (case z => assumption)))
local macro_rules | `(tactic| walk_at "use1") => `(tactic| ((with_reducible refine' Toy.use_law_dice (fun _ _ _ _ => ?k0))))
local macro_rules | `(tactic| walk_at "use1") => `(tactic| ((with_reducible refine' Toy.use_law_roll ?q0 ?h0 ?h1 (fun _ _ => ?k0)); (case q0 => walk_at "pk"); (case h0 => walk_at "side"); (case h1 => walk_at "side")))
local macro_rules | `(tactic| walk_at "use1") => `(tactic| ((with_reducible refine' Toy.use_power ?h0 ?h1 ?k0); (case h0 => walk_at "side"); (case h1 => walk_at "side")))
local macro_rules | `(tactic| walk_at "use") => `(tactic| ((with_reducible refine' Toy.use_check_word ?h0 ?h1 (fun _ => ?k0) (fun _ _ => ?k1)); (case h0 => walk_at "side"); (case h1 => walk_at "side")))
local macro_rules | `(tactic| walk_at "use1") => `(tactic| ((with_reducible refine' Toy.use_field ?h0 ?h1 ?h2 ?h3 ?k0); (case h0 => walk_at "side"); (case h1 => walk_at "side"); (case h2 => walk_at "side"); (case h3 => walk_at "side")))
local macro_rules | `(tactic| walk_at "use") => `(tactic| ((with_reducible refine' Toy.use_with_field ?h0 ?h1 ?h2 ?h3 (fun _ => ?k0) (fun _ _ => ?k1)); (case h0 => walk_at "side"); (case h1 => walk_at "side"); (case h2 => walk_at "side"); (case h3 => walk_at "side")))
local macro_rules | `(tactic| walk_at "use1") => `(tactic| ((with_reducible refine' Toy.use_bits ?h0 ?h1 (fun _ => ?k0)); (case h0 => walk_at "side"); (case h1 => walk_at "side")))
local macro_rules | `(tactic| walk_at "use1") => `(tactic| ((with_reducible refine' Toy.use_of_bits ?q0 ?h0 ?k0); (case q0 => walk_at "pk"); (case h0 => walk_at "side")))
local macro_rules | `(tactic| walk_at "use1") => `(tactic| ((with_reducible refine' Toy.use_both ?h0 ?h1 ?k0); (case h0 => walk_at "side"); (case h1 => walk_at "side")))
local macro_rules | `(tactic| walk_at "use1") => `(tactic| ((with_reducible refine' Toy.use_either ?h0 ?h1 ?k0); (case h0 => walk_at "side"); (case h1 => walk_at "side")))
local macro_rules | `(tactic| walk_at "use1") => `(tactic| ((with_reducible refine' Toy.use_without ?h0 ?h1 ?k0); (case h0 => walk_at "side"); (case h1 => walk_at "side")))
local macro_rules | `(tactic| walk_at "use1") => `(tactic| ((with_reducible refine' Toy.use_turned_octets ?h0 ?h1 ?k0); (case h0 => walk_at "side"); (case h1 => walk_at "side")))
local macro_rules | `(tactic| walk_at "use") => `(tactic| ((with_reducible refine' Toy.use_Register___init__ ?q0 ?q1 ?q2 ?h0 ?h1 (fun _ => ?k0) (fun _ _ => ?k1)); (case q0 => walk_at "pk"); (case q1 => walk_at "pk"); (case q2 => walk_at "pk"); (case h0 => walk_at "side"); (case h1 => walk_at "side")))
local macro_rules | `(tactic| walk_at "use1") => `(tactic| ((with_reducible refine' Toy.use_Register_read ?q0 ?k0); (case q0 => walk_at "pk")))
local macro_rules | `(tactic| walk_at "use") => `(tactic| ((with_reducible refine' Toy.use_Register_write ?q0 ?h0 ?h1 ?h2 ?h3 ?h4 ?h5 (fun _ => ?k0) (fun _ _ => ?k1)); (case q0 => walk_at "pk"); (case h0 => walk_at "side"); (case h1 => walk_at "side"); (case h2 => walk_at "side"); (case h3 => walk_at "side"); (case h4 => walk_at "side"); (case h5 => walk_at "side")))
local macro_rules | `(tactic| walk_at "use") => `(tactic| ((with_reducible refine' Toy.use_Register_row_of ?q0 (fun _ => ?k0) (fun _ _ _ => ?k1)); (case q0 => walk_at "pk")))
local macro_rules | `(tactic| walk_at "use") => `(tactic| ((with_reducible refine' Toy.use_Register_get ?q0 ?h0 (fun _ => ?k0) (fun _ _ => ?k1)); (case q0 => walk_at "pk"); (case h0 => walk_at "side")))
local macro_rules | `(tactic| walk_at "use1") => `(tactic| ((with_reducible refine' Toy.use_Register_put ?q0 ?h0 ?h1 ?h2 ?k0); (case q0 => walk_at "pk"); (case h0 => walk_at "side"); (case h1 => walk_at "side"); (case h2 => walk_at "side")))
local macro_rules | `(tactic| walk_at "use1") => `(tactic| ((with_reducible refine' Toy.use_law_rounds ?q0 ?h0 (fun _ _ => ?k0)); (case q0 => walk_at "pk"); (case h0 => walk_at "side")))
local macro_rules | `(tactic| walk_at "use1") => `(tactic| ((with_reducible refine' Toy.use_law_bits (fun _ => ?k0))))
local macro_rules | `(tactic| walk_at "use1") => `(tactic| ((with_reducible refine' Toy.use_law_two ?h0 ?h1 ?k0); (case h0 => walk_at "side"); (case h1 => walk_at "side")))
local macro_rules | `(tactic| walk_at "use1") => `(tactic| ((with_reducible refine' Toy.use_law_register ?q0 ?k0); (case q0 => walk_at "pk")))
local macro_rules | `(tactic| walk_at "use1") => `(tactic| ((with_reducible refine' Toy.use_law ?q0 ?k0); (case q0 => walk_at "pk")))
namespace Toy
open PySem L2
section
variable {P : Program} {w : World} {K : PySem.W.Frag} {mg : Str → Option Value} {base : Heap} {T : List (Addr × Str)} {C_Register C_BadWord C_BadPlace C_BadPlan C_NotDue C_Stuck C_BadBits C_BadText C_TooLarge g_told g_RULES : Addr}
theorem law_sp {a : Addr} {ns : List Int} (hl : ns.length ≤ 63) (hz : ∀ z ∈ ns, Builtin.Int.intBits z ≤ 1048576) : sg_law T K C_Register C_BadWord C_BadPlace C_BadPlan C_NotDue C_Stuck C_BadBits C_BadText C_TooLarge g_told g_RULES [.ref a] [Dh.sq K a (ns.map .int)] (fun v _ => v = .bl true) fun _ _ _ => False :=
  ⟨a, ns, [], rfl, Dh.ent_refl, fun _ _ _ => rfl⟩
def d_Register___init__ : He.DefD := Dh.dd ("Register", some "__init__") "__init__" "Register.__init__" s_Register___init__
def d_power : He.DefD := Dh.dd ("power", none) "power" "power" s_power
def d_check_word : He.DefD := Dh.dd ("check_word", none) "check_word" "check_word" s_check_word
def d_field : He.DefD := Dh.dd ("field", none) "field" "field" s_field
def d_with_field : He.DefD := Dh.dd ("with_field", none) "with_field" "with_field" s_with_field
def d_bits : He.DefD := Dh.dd ("bits", none) "bits" "bits" s_bits
def d_of_bits : He.DefD := Dh.dd ("of_bits", none) "of_bits" "of_bits" s_of_bits
def d_both : He.DefD := Dh.dd ("both", none) "both" "both" s_both
def d_either : He.DefD := Dh.dd ("either", none) "either" "either" s_either
def d_without : He.DefD := Dh.dd ("without", none) "without" "without" s_without
def d_turned_octets : He.DefD := Dh.dd ("turned_octets", none) "turned_octets" "turned_octets" s_turned_octets
def d_Register_read : He.DefD := Dh.dd ("Register", some "read") "read" "Register.read" s_Register_read
def d_Register_write : He.DefD := Dh.dd ("Register", some "write") "write" "Register.write" s_Register_write
def d_Register_row_of : He.DefD := Dh.dd ("Register", some "row_of") "row_of" "Register.row_of" s_Register_row_of
def d_Register_get : He.DefD := Dh.dd ("Register", some "get") "get" "Register.get" s_Register_get
def d_Register_put : He.DefD := Dh.dd ("Register", some "put") "put" "Register.put" s_Register_put
def d_law_dice : He.DefD := Dh.dd ("_law_dice", none) "_law_dice" "_law_dice" s_law_dice
def d_law_roll : He.DefD := Dh.dd ("_law_roll", none) "_law_roll" "_law_roll" s_law_roll
def d_law_rounds : He.DefD := Dh.dd ("_law_rounds", none) "_law_rounds" "_law_rounds" s_law_rounds
def d_law_told : He.DefD := Dh.dd ("_law_told", none) "_law_told" "_law_told" s_law_told
def d_law_bits : He.DefD := Dh.dd ("_law_bits", none) "_law_bits" "_law_bits" s_law_bits
def d_law_two : He.DefD := Dh.dd ("_law_two", none) "_law_two" "_law_two" s_law_two
def d_law_register : He.DefD := Dh.dd ("_law_register", none) "_law_register" "_law_register" s_law_register
def d_law : He.DefD := Dh.dd ("law", none) "law" "law" s_law
def fn : List He.DefD := [d_Register___init__, d_power, d_check_word, d_field, d_with_field, d_bits, d_of_bits, d_both, d_either, d_without, d_turned_octets, d_Register_read, d_Register_write, d_Register_row_of, d_Register_get, d_Register_put, d_law_dice, d_law_roll, d_law_rounds, d_law_told, d_law_bits, d_law_two, d_law_register, d_law]
def fa : List He.Fa := [.glo "power", .glo "check_word", .glo "field", .glo "with_field", .glo "bits", .glo "of_bits", .glo "both", .glo "either", .glo "without", .glo "turned_octets", .glo "_law_dice", .glo "_law_roll", .glo "_law_rounds", .glo "_law_told", .glo "_law_bits", .glo "_law_two", .glo "_law_register", .glo "law", .glo "Register", .glo "BadWord", .glo "BadPlace", .glo "BadPlan", .glo "NotDue", .glo "Stuck", .glo "BadBits", .glo "BadText", .glo "TooLarge", .free "abs", .free "bool", .free "int", .free "isinstance", .free "len", .free "list", .free "max", .free "range", .free "reversed", .free "str", .free "sum", .free "tuple", .free "zip", .cls "Register", .noat "Register" "fields", .noat "Register" "pulses", .noat "Register" "wide", .noat "Register" "word", .noat "Register" "written", .mkr "Register", .meth "Register" "read", .meth "Register" "write", .meth "Register" "row_of", .meth "Register" "get", .meth "Register" "put", .exc "BadWord", .exm "BadWord" "BadWord" true, .glo "RULES"]
def tf : List He.Defn := [("law", none)]
abbrev R : PySem.W.OpenRow := PySem.W.OpenLaw.row PySem.Challenge.rw_drivehall_k01_words_and_registers
def exB (K : PySem.W.Frag) : Bool := Dh.apartB tf K && He.tupB K "RULES" [.str "plain", .str "read", .str "clear", .str "once", .str "pulse"]
abbrev hk : PySem.W.Hook := He.hookX 6 fa fn [] tf exB
def ob (s : PySem.W.SharedT) : He.AlX := He.obsX 6 fa fn [] tf exB (HandSHeadRun.getT s)
theorem ob_eq (s : PySem.W.SharedT) : ob s = hk.obs s.abs := He.obsX_eq (HandSHeadRun.getT_eq s)
def loose : List Str := (["__name__", "DriveFault", "BadWord", "BadPlace", "BadPlan", "NotDue", "Stuck", "BadBits", "BadText", "TooLarge", "RULES", "check_word", "power", "field", "with_field", "bits", "of_bits", "both", "either", "without", "turned_octets", "Register", "_law_dice", "_law_roll", "_law_rounds", "_law_told", "_law_bits", "_law_two", "_law_register"] : List Str)
theorem run (w : World) : HandSHeadRun.RunEq R (PySem.W.view R.prog [31]) hk ob 20000 loose w := by
  intro os
  kernel_rfl
theorem facts {P : Program} {w : World} {K : PySem.W.Frag} {h : Heap} {mg : Str → Option Value} {f : Addr} (X : K.In h) (G : h.Ns mainGlobals mg) (hfa : mg ("law" : Str) = some (.ref f)) (c : He.SaysD fa fn K) (hex : exB K = true) :
    ∃ fd : FuncData, (∀ (s : Shared) (v : Value), BindsTo s fd ⟨[v], []⟩ [("script", v)]) ∧ ∀ base : Heap, (∀ p ∈ tf.map (He.cT K), LamX.TabB base mg p.1 p.2) → FnOk P w K mg base (L2.CX P w) 8 f fd ["script"] (Dh.sOfN (Dh.tabs K tf) 1 (sg_law (Dh.tabs K tf) K (He.ga K "Register") (He.ga K "BadWord") (He.ga K "BadPlace") (He.ga K "BadPlan") (He.ga K "NotDue") (He.ga K "Stuck") (He.ga K "BadBits") (He.ga K "BadText") (He.ga K "TooLarge") (He.fAd K ("_law_told", none)) (He.ga K "RULES"))) := by
  obtain ⟨fd_Register___init__, F_Register___init__⟩ := c.def_ 0 (d := d_Register___init__) rfl
  obtain ⟨fd_power, F_power⟩ := c.def_ 1 (d := d_power) rfl
  obtain ⟨fd_check_word, F_check_word⟩ := c.def_ 2 (d := d_check_word) rfl
  obtain ⟨fd_field, F_field⟩ := c.def_ 3 (d := d_field) rfl
  obtain ⟨fd_with_field, F_with_field⟩ := c.def_ 4 (d := d_with_field) rfl
  obtain ⟨fd_bits, F_bits⟩ := c.def_ 5 (d := d_bits) rfl
  obtain ⟨fd_of_bits, F_of_bits⟩ := c.def_ 6 (d := d_of_bits) rfl
  obtain ⟨fd_both, F_both⟩ := c.def_ 7 (d := d_both) rfl
  obtain ⟨fd_either, F_either⟩ := c.def_ 8 (d := d_either) rfl
  obtain ⟨fd_without, F_without⟩ := c.def_ 9 (d := d_without) rfl
  obtain ⟨fd_turned_octets, F_turned_octets⟩ := c.def_ 10 (d := d_turned_octets) rfl
  obtain ⟨fd_Register_read, F_Register_read⟩ := c.def_ 11 (d := d_Register_read) rfl
  obtain ⟨fd_Register_write, F_Register_write⟩ := c.def_ 12 (d := d_Register_write) rfl
  obtain ⟨fd_Register_row_of, F_Register_row_of⟩ := c.def_ 13 (d := d_Register_row_of) rfl
  obtain ⟨fd_Register_get, F_Register_get⟩ := c.def_ 14 (d := d_Register_get) rfl
  obtain ⟨fd_Register_put, F_Register_put⟩ := c.def_ 15 (d := d_Register_put) rfl
  obtain ⟨fd_law_dice, F_law_dice⟩ := c.def_ 16 (d := d_law_dice) rfl
  obtain ⟨fd_law_roll, F_law_roll⟩ := c.def_ 17 (d := d_law_roll) rfl
  obtain ⟨fd_law_rounds, F_law_rounds⟩ := c.def_ 18 (d := d_law_rounds) rfl
  obtain ⟨fd_law_told, F_law_told⟩ := c.def_ 19 (d := d_law_told) rfl
  obtain ⟨fd_law_bits, F_law_bits⟩ := c.def_ 20 (d := d_law_bits) rfl
  obtain ⟨fd_law_two, F_law_two⟩ := c.def_ 21 (d := d_law_two) rfl
  obtain ⟨fd_law_register, F_law_register⟩ := c.def_ 22 (d := d_law_register) rfl
  obtain ⟨fd_law, F_law⟩ := c.def_ 23 (d := d_law) rfl
  have g_power := He.glo_ok X G (c.fact 0 (f := .glo "power") rfl)
  have g_check_word := He.glo_ok X G (c.fact 1 (f := .glo "check_word") rfl)
  have g_field := He.glo_ok X G (c.fact 2 (f := .glo "field") rfl)
  have g_with_field := He.glo_ok X G (c.fact 3 (f := .glo "with_field") rfl)
  have g_bits := He.glo_ok X G (c.fact 4 (f := .glo "bits") rfl)
  have g_of_bits := He.glo_ok X G (c.fact 5 (f := .glo "of_bits") rfl)
  have g_both := He.glo_ok X G (c.fact 6 (f := .glo "both") rfl)
  have g_either := He.glo_ok X G (c.fact 7 (f := .glo "either") rfl)
  have g_without := He.glo_ok X G (c.fact 8 (f := .glo "without") rfl)
  have g_turned_octets := He.glo_ok X G (c.fact 9 (f := .glo "turned_octets") rfl)
  have g_law_dice := He.glo_ok X G (c.fact 10 (f := .glo "_law_dice") rfl)
  have g_law_roll := He.glo_ok X G (c.fact 11 (f := .glo "_law_roll") rfl)
  have g_law_rounds := He.glo_ok X G (c.fact 12 (f := .glo "_law_rounds") rfl)
  have g_law_told := He.glo_ok X G (c.fact 13 (f := .glo "_law_told") rfl)
  have g_law_bits := He.glo_ok X G (c.fact 14 (f := .glo "_law_bits") rfl)
  have g_law_two := He.glo_ok X G (c.fact 15 (f := .glo "_law_two") rfl)
  have g_law_register := He.glo_ok X G (c.fact 16 (f := .glo "_law_register") rfl)
  have g_law := He.glo_ok X G (c.fact 17 (f := .glo "law") rfl)
  have g_Register := He.glo_ok X G (c.fact 18 (f := .glo "Register") rfl)
  have g_BadWord := He.glo_ok X G (c.fact 19 (f := .glo "BadWord") rfl)
  have g_BadPlace := He.glo_ok X G (c.fact 20 (f := .glo "BadPlace") rfl)
  have g_BadPlan := He.glo_ok X G (c.fact 21 (f := .glo "BadPlan") rfl)
  have g_NotDue := He.glo_ok X G (c.fact 22 (f := .glo "NotDue") rfl)
  have g_Stuck := He.glo_ok X G (c.fact 23 (f := .glo "Stuck") rfl)
  have g_BadBits := He.glo_ok X G (c.fact 24 (f := .glo "BadBits") rfl)
  have g_BadText := He.glo_ok X G (c.fact 25 (f := .glo "BadText") rfl)
  have g_TooLarge := He.glo_ok X G (c.fact 26 (f := .glo "TooLarge") rfl)
  simp only [exB, Bool.and_eq_true] at hex
  obtain ⟨hap, hx0⟩ := hex
  have e := hfa.symm.trans g_law
  cases e
  have Z : Txt K mg (He.ga K "Register") (He.ga K "BadWord") (He.ga K "BadPlace") (He.ga K "BadPlan") (He.ga K "NotDue") (He.ga K "Stuck") (He.ga K "BadBits") (He.ga K "BadText") (He.ga K "TooLarge") (He.fAd K ("_law_told", none)) (He.ga K "RULES") := { c_Register := He.cls_ok (c.fact 40 (f := .cls "Register") rfl), n_Register_fields := He.noat_ok (c.fact 41 (f := .noat "Register" "fields") rfl), n_Register_pulses := He.noat_ok (c.fact 42 (f := .noat "Register" "pulses") rfl), n_Register_wide := He.noat_ok (c.fact 43 (f := .noat "Register" "wide") rfl), n_Register_word := He.noat_ok (c.fact 44 (f := .noat "Register" "word") rfl), n_Register_written := He.noat_ok (c.fact 45 (f := .noat "Register" "written") rfl), b_abs := He.free_ok X G (c.fact 27 (f := .free "abs") rfl), b_bool := He.free_ok X G (c.fact 28 (f := .free "bool") rfl), b_int := He.free_ok X G (c.fact 29 (f := .free "int") rfl), b_isinstance := He.free_ok X G (c.fact 30 (f := .free "isinstance") rfl), b_len := He.free_ok X G (c.fact 31 (f := .free "len") rfl), b_list := He.free_ok X G (c.fact 32 (f := .free "list") rfl), b_max := He.free_ok X G (c.fact 33 (f := .free "max") rfl), b_range := He.free_ok X G (c.fact 34 (f := .free "range") rfl), b_reversed := He.free_ok X G (c.fact 35 (f := .free "reversed") rfl), b_str := He.free_ok X G (c.fact 36 (f := .free "str") rfl), b_sum := He.free_ok X G (c.fact 37 (f := .free "sum") rfl), b_tuple := He.free_ok X G (c.fact 38 (f := .free "tuple") rfl), b_zip := He.free_ok X G (c.fact 39 (f := .free "zip") rfl), e_BadWord := Dh.exc_of X G (c.fact 52 (f := .exc "BadWord") rfl) (c.fact 19 (f := .glo "BadWord") rfl), t_law_told := Dh.FunX.told (x := "_law_told") (st := s_law_told) F_law_told g_law_told, m_BadWord := g_BadWord, m_BadPlace := g_BadPlace, m_BadPlan := g_BadPlan, m_NotDue := g_NotDue, m_Stuck := g_Stuck, m_BadBits := g_BadBits, m_BadText := g_BadText, m_TooLarge := g_TooLarge, x_BadWord_BadWord := He.exm_ok (c.fact 53 (f := .exm "BadWord" "BadWord" true) rfl), m_RULES := He.glo_ok X G (c.fact 54 (f := .glo "RULES") rfl), q_RULES := fun H => He.tupB_ok hx0 H }
  have b_Register___init__ : L2.Binds K fd_Register___init__ ["self", "wide", "fields"] [] := F_Register___init__.bindsN fun _ _ _ _ _ _ us hl => match us, hl with | [_, _, _], _ => rfl
  have b_power : L2.Binds K fd_power ["count"] [] := F_power.bindsN fun _ _ _ _ _ _ us hl => match us, hl with | [_], _ => rfl
  have b_check_word : L2.Binds K fd_check_word ["word", "wide"] [] := F_check_word.bindsN fun _ _ _ _ _ _ us hl => match us, hl with | [_, _], _ => rfl
  have b_field : L2.Binds K fd_field ["word", "low", "wide"] [] := F_field.bindsN fun _ _ _ _ _ _ us hl => match us, hl with | [_, _, _], _ => rfl
  have b_with_field : L2.Binds K fd_with_field ["word", "low", "wide", "much"] [] := F_with_field.bindsN fun _ _ _ _ _ _ us hl => match us, hl with | [_, _, _, _], _ => rfl
  have b_bits : L2.Binds K fd_bits ["word", "wide"] [] := F_bits.bindsN fun _ _ _ _ _ _ us hl => match us, hl with | [_, _], _ => rfl
  have b_of_bits : L2.Binds K fd_of_bits ["row"] [] := F_of_bits.bindsN fun _ _ _ _ _ _ us hl => match us, hl with | [_], _ => rfl
  have b_both : L2.Binds K fd_both ["one", "other", "wide"] [] := F_both.bindsN fun _ _ _ _ _ _ us hl => match us, hl with | [_, _, _], _ => rfl
  have b_either : L2.Binds K fd_either ["one", "other", "wide"] [] := F_either.bindsN fun _ _ _ _ _ _ us hl => match us, hl with | [_, _, _], _ => rfl
  have b_without : L2.Binds K fd_without ["one", "other", "wide"] [] := F_without.bindsN fun _ _ _ _ _ _ us hl => match us, hl with | [_, _, _], _ => rfl
  have b_turned_octets : L2.Binds K fd_turned_octets ["word", "count"] [] := F_turned_octets.bindsN fun _ _ _ _ _ _ us hl => match us, hl with | [_, _], _ => rfl
  have b_Register_read : L2.Binds K fd_Register_read ["self"] [] := F_Register_read.bindsN fun _ _ _ _ _ _ us hl => match us, hl with | [_], _ => rfl
  have b_Register_write : L2.Binds K fd_Register_write ["self", "word"] [] := F_Register_write.bindsN fun _ _ _ _ _ _ us hl => match us, hl with | [_, _], _ => rfl
  have b_Register_row_of : L2.Binds K fd_Register_row_of ["self", "name"] [] := F_Register_row_of.bindsN fun _ _ _ _ _ _ us hl => match us, hl with | [_, _], _ => rfl
  have b_Register_get : L2.Binds K fd_Register_get ["self", "name"] [] := F_Register_get.bindsN fun _ _ _ _ _ _ us hl => match us, hl with | [_, _], _ => rfl
  have b_Register_put : L2.Binds K fd_Register_put ["self", "name", "much"] [] := F_Register_put.bindsN fun _ _ _ _ _ _ us hl => match us, hl with | [_, _, _], _ => rfl
  have b_law_dice : L2.Binds K fd_law_dice ["cell"] [] := F_law_dice.bindsN fun _ _ _ _ _ _ us hl => match us, hl with | [_], _ => rfl
  have b_law_roll : L2.Binds K fd_law_roll ["dice", "many"] [] := F_law_roll.bindsN fun _ _ _ _ _ _ us hl => match us, hl with | [_, _], _ => rfl
  have b_law_rounds : L2.Binds K fd_law_rounds ["script", "most"] [] := F_law_rounds.bindsN fun _ _ _ _ _ _ us hl => match us, hl with | [_, _], _ => rfl
  have b_law_told : L2.Binds K fd_law_told ["what"] [] := F_law_told.bindsN fun _ _ _ _ _ _ us hl => match us, hl with | [_], _ => rfl
  have b_law_bits : L2.Binds K fd_law_bits ["word"] [] := F_law_bits.bindsN fun _ _ _ _ _ _ us hl => match us, hl with | [_], _ => rfl
  have b_law_two : L2.Binds K fd_law_two ["k"] [] := F_law_two.bindsN fun _ _ _ _ _ _ us hl => match us, hl with | [_], _ => rfl
  have b_law_register : L2.Binds K fd_law_register ["dice"] [] := F_law_register.bindsN fun _ _ _ _ _ _ us hl => match us, hl with | [_], _ => rfl
  have b_law : L2.Binds K fd_law ["script"] [] := F_law.bindsN fun _ _ _ _ _ _ us hl => match us, hl with | [_], _ => rfl
  refine ⟨fd_law, fun s v => F_law.bindsA (ps := ["script"]) (fun _ _ _ _ _ _ us hl => match us, hl with | [_], _ => rfl) s [v] rfl, fun base TB => ?_⟩
  obtain ⟨_, FC_Register___init__⟩ := Dh.FunX.c (x := "__init__") (qual := "Register.__init__") (st := s_Register___init__) F_Register___init__
  have o_Register___init__ := ok_Register___init__ (P := P) (w := w) (base := base) (T := Dh.tabs K tf) Z  FC_Register___init__
  have cc_Register___init__ := Dh.mak_of o_Register___init__ (He.mkr_ok (c.fact 46 (f := .mkr "Register") rfl)) g_Register b_Register___init__
  obtain ⟨_, FC_power⟩ := Dh.FunX.c (x := "power") (qual := "power") (st := s_power) F_power
  have o_power := ok_power (P := P) (w := w) (base := base) (T := Dh.tabs K tf) Z  FC_power
  have cc_power := Dh.cal_of (x := "power") (st := s_power) F_power o_power g_power b_power
  obtain ⟨_, FC_check_word⟩ := Dh.FunX.c (x := "check_word") (qual := "check_word") (st := s_check_word) F_check_word
  have o_check_word := ok_check_word (P := P) (w := w) (base := base) (T := Dh.tabs K tf) Z cc_power FC_check_word
  have cc_check_word := Dh.cal_of (x := "check_word") (st := s_check_word) F_check_word o_check_word g_check_word b_check_word
  obtain ⟨_, FC_field⟩ := Dh.FunX.c (x := "field") (qual := "field") (st := s_field) F_field
  have o_field := ok_field (P := P) (w := w) (base := base) (T := Dh.tabs K tf) Z cc_power FC_field
  have cc_field := Dh.cal_of (x := "field") (st := s_field) F_field o_field g_field b_field
  obtain ⟨_, FC_with_field⟩ := Dh.FunX.c (x := "with_field") (qual := "with_field") (st := s_with_field) F_with_field
  have o_with_field := ok_with_field (P := P) (w := w) (base := base) (T := Dh.tabs K tf) Z cc_check_word cc_field cc_power FC_with_field
  have cc_with_field := Dh.cal_of (x := "with_field") (st := s_with_field) F_with_field o_with_field g_with_field b_with_field
  obtain ⟨_, FC_bits⟩ := Dh.FunX.c (x := "bits") (qual := "bits") (st := s_bits) F_bits
  have o_bits := ok_bits (P := P) (w := w) (base := base) (T := Dh.tabs K tf) Z cc_field FC_bits
  have cc_bits := Dh.cal_of (x := "bits") (st := s_bits) F_bits o_bits g_bits b_bits
  obtain ⟨_, FC_of_bits⟩ := Dh.FunX.c (x := "of_bits") (qual := "of_bits") (st := s_of_bits) F_of_bits
  have o_of_bits := ok_of_bits (P := P) (w := w) (base := base) (T := Dh.tabs K tf) Z  FC_of_bits
  have cc_of_bits := Dh.cal_of (x := "of_bits") (st := s_of_bits) F_of_bits o_of_bits g_of_bits b_of_bits
  obtain ⟨_, FC_both⟩ := Dh.FunX.c (x := "both") (qual := "both") (st := s_both) F_both
  have o_both := ok_both (P := P) (w := w) (base := base) (T := Dh.tabs K tf) Z cc_bits cc_of_bits FC_both
  have cc_both := Dh.cal_of (x := "both") (st := s_both) F_both o_both g_both b_both
  obtain ⟨_, FC_either⟩ := Dh.FunX.c (x := "either") (qual := "either") (st := s_either) F_either
  have o_either := ok_either (P := P) (w := w) (base := base) (T := Dh.tabs K tf) Z cc_bits cc_of_bits FC_either
  have cc_either := Dh.cal_of (x := "either") (st := s_either) F_either o_either g_either b_either
  obtain ⟨_, FC_without⟩ := Dh.FunX.c (x := "without") (qual := "without") (st := s_without) F_without
  have o_without := ok_without (P := P) (w := w) (base := base) (T := Dh.tabs K tf) Z cc_bits cc_of_bits FC_without
  have cc_without := Dh.cal_of (x := "without") (st := s_without) F_without o_without g_without b_without
  obtain ⟨_, FC_turned_octets⟩ := Dh.FunX.c (x := "turned_octets") (qual := "turned_octets") (st := s_turned_octets) F_turned_octets
  have o_turned_octets := ok_turned_octets (P := P) (w := w) (base := base) (T := Dh.tabs K tf) Z cc_power FC_turned_octets
  have cc_turned_octets := Dh.cal_of (x := "turned_octets") (st := s_turned_octets) F_turned_octets o_turned_octets g_turned_octets b_turned_octets
  obtain ⟨_, FC_Register_read⟩ := Dh.FunX.c (x := "read") (qual := "Register.read") (st := s_Register_read) F_Register_read
  have o_Register_read := ok_Register_read (P := P) (w := w) (base := base) (T := Dh.tabs K tf) Z  FC_Register_read
  have cc_Register_read := Dh.met_of o_Register_read (He.cls_ok (c.fact 40 (f := .cls "Register") rfl)) (He.meth_ok (c.fact 47 (f := .meth "Register" "read") rfl)) b_Register_read
  obtain ⟨_, FC_Register_write⟩ := Dh.FunX.c (x := "write") (qual := "Register.write") (st := s_Register_write) F_Register_write
  have o_Register_write := ok_Register_write (P := P) (w := w) (base := base) (T := Dh.tabs K tf) Z cc_check_word cc_field cc_with_field cc_without FC_Register_write
  have cc_Register_write := Dh.met_of o_Register_write (He.cls_ok (c.fact 40 (f := .cls "Register") rfl)) (He.meth_ok (c.fact 48 (f := .meth "Register" "write") rfl)) b_Register_write
  obtain ⟨_, FC_Register_row_of⟩ := Dh.FunX.c (x := "row_of") (qual := "Register.row_of") (st := s_Register_row_of) F_Register_row_of
  have o_Register_row_of := ok_Register_row_of (P := P) (w := w) (base := base) (T := Dh.tabs K tf) Z  FC_Register_row_of
  have cc_Register_row_of := Dh.met_of o_Register_row_of (He.cls_ok (c.fact 40 (f := .cls "Register") rfl)) (He.meth_ok (c.fact 49 (f := .meth "Register" "row_of") rfl)) b_Register_row_of
  obtain ⟨_, FC_Register_get⟩ := Dh.FunX.c (x := "get") (qual := "Register.get") (st := s_Register_get) F_Register_get
  have o_Register_get := ok_Register_get (P := P) (w := w) (base := base) (T := Dh.tabs K tf) Z cc_Register_row_of cc_field FC_Register_get
  have cc_Register_get := Dh.met_of o_Register_get (He.cls_ok (c.fact 40 (f := .cls "Register") rfl)) (He.meth_ok (c.fact 50 (f := .meth "Register" "get") rfl)) b_Register_get
  obtain ⟨_, FC_Register_put⟩ := Dh.FunX.c (x := "put") (qual := "Register.put") (st := s_Register_put) F_Register_put
  have o_Register_put := ok_Register_put (P := P) (w := w) (base := base) (T := Dh.tabs K tf) Z cc_Register_row_of cc_with_field FC_Register_put
  have cc_Register_put := Dh.met_of o_Register_put (He.cls_ok (c.fact 40 (f := .cls "Register") rfl)) (He.meth_ok (c.fact 51 (f := .meth "Register" "put") rfl)) b_Register_put
  obtain ⟨_, FC_law_dice⟩ := Dh.FunX.c (x := "_law_dice") (qual := "_law_dice") (st := s_law_dice) F_law_dice
  have o_law_dice := ok_law_dice (P := P) (w := w) (base := base) (T := Dh.tabs K tf) Z  FC_law_dice
  have cc_law_dice := Dh.cal_of (x := "_law_dice") (st := s_law_dice) F_law_dice o_law_dice g_law_dice b_law_dice
  obtain ⟨_, FC_law_roll⟩ := Dh.FunX.c (x := "_law_roll") (qual := "_law_roll") (st := s_law_roll) F_law_roll
  have o_law_roll := ok_law_roll (P := P) (w := w) (base := base) (T := Dh.tabs K tf) Z  FC_law_roll
  have cc_law_roll := Dh.cal_of (x := "_law_roll") (st := s_law_roll) F_law_roll o_law_roll g_law_roll b_law_roll
  obtain ⟨_, FC_law_rounds⟩ := Dh.FunX.c (x := "_law_rounds") (qual := "_law_rounds") (st := s_law_rounds) F_law_rounds
  have o_law_rounds := ok_law_rounds (P := P) (w := w) (base := base) (T := Dh.tabs K tf) Z cc_law_dice FC_law_rounds
  have cc_law_rounds := Dh.cal_of (x := "_law_rounds") (st := s_law_rounds) F_law_rounds o_law_rounds g_law_rounds b_law_rounds
  obtain ⟨_, FC_law_bits⟩ := Dh.FunX.c (x := "_law_bits") (qual := "_law_bits") (st := s_law_bits) F_law_bits
  have o_law_bits := ok_law_bits (P := P) (w := w) (base := base) (T := Dh.tabs K tf) Z  FC_law_bits
  have cc_law_bits := Dh.cal_of (x := "_law_bits") (st := s_law_bits) F_law_bits o_law_bits g_law_bits b_law_bits
  obtain ⟨_, FC_law_two⟩ := Dh.FunX.c (x := "_law_two") (qual := "_law_two") (st := s_law_two) F_law_two
  have o_law_two := ok_law_two (P := P) (w := w) (base := base) (T := Dh.tabs K tf) Z  FC_law_two
  have cc_law_two := Dh.cal_of (x := "_law_two") (st := s_law_two) F_law_two o_law_two g_law_two b_law_two
  obtain ⟨_, FC_law_register⟩ := Dh.FunX.c (x := "_law_register") (qual := "_law_register") (st := s_law_register) F_law_register
  have o_law_register := ok_law_register (P := P) (w := w) (base := base) (T := Dh.tabs K tf) Z cc_Register___init__ cc_Register_get cc_Register_put cc_Register_read cc_Register_write cc_law_roll cc_law_two FC_law_register
  have cc_law_register := Dh.cal_of (x := "_law_register") (st := s_law_register) F_law_register o_law_register g_law_register b_law_register
  have FC_law := Dh.FunX.r (x := "law") (qual := "law") (st := s_law) (p := ("law", none)) F_law
  have o_law := ok_law (P := P) (w := w) (base := base) (T := Dh.tabs K tf) Z cc_Register___init__ cc_Register_get cc_Register_write cc_law_bits cc_law_register cc_law_roll cc_law_rounds cc_law_two cc_bits cc_both cc_either cc_field cc_of_bits cc_power cc_turned_octets cc_with_field cc_without (TB _ (List.mem_map.mpr ⟨("law", none), (by simp [tf]), rfl⟩)) (Dh.tabs_mem (tf := tf) (p := ("law", none)) (by simp [tf])) (Dh.tabs_one (tf := tf) (p := ("law", none)) hap (by simp [tf])) FC_law
  exact o_law
theorem law_walk {q : Program} {XP : (Str → Option Value) → Heap → Prop} : PySem.W.WalkO q loose XP hk.says R.toRowW (HandSHeadRun.topDef R.prog 31) [] (fun f vs => PySem.call f vs) := by
  refine LamX.walk_ofTsE (l := PySem.Challenge.rw_drivehall_k01_words_and_registers) (n := 63) (k := 8) (x := "script") (CX := fun w => L2.CX (PySem.Challenge.rw_drivehall_k01_words_and_registers).prog w) rfl (by decide) (by kernel_rfl) ⟨rfl, by decide, by decide⟩ ?F (fun _ _ _ _ _ => Dh.cx_no)
  intro w mg f h Y G hmg0
  obtain ⟨K, KX, c⟩ := Y
  have hmg : mg ("law" : Str) = some (.ref f) := by
    have e : (HandSHeadRun.topDef R.prog 31).name = ("law" : Str) := by kernel_rfl
    rw [← e]
    exact hmg0
  obtain ⟨fd, hb, hF⟩ := facts (P := (PySem.Challenge.rw_drivehall_k01_words_and_registers).prog) (w := w) KX G hmg c.t.d c.more
  refine ⟨K, KX, fd, tf.map (He.cT K), _, ?_, ?_, ?_, hb, ?_, fun base _ _ TB => hF base TB⟩
  · intro p hp
    obtain ⟨d, hd, rfl⟩ := List.mem_map.mp hp
    exact c.empty d hd
  · intro p hp
    obtain ⟨d, hd, rfl⟩ := List.mem_map.mp hp
    exact c.out d hd
  · intro p hp
    obtain ⟨d, hd, rfl⟩ := List.mem_map.mp hp
    exact PySem.W.codeHd_of_K KX (c.hd d hd)
  · intro H a ns hl hz hT hS
    refine ⟨rfl, [Dh.sq K a (ns.map .int)], Dh.tabs_empty hT, Dh.seps_sq hS, ?_⟩
    exact law_sp hl hz

end
end Toy
end

open PySem PySem.W PySem.Calls PyProof.Rows in
set_option maxHeartbeats 0 in
theorem PySem.Challenge.cw_drivehall_k01_words_and_registers_holds : PySem.Challenge.rw_drivehall_k01_words_and_registers.Holds := by
  w_on; o_law
  refine HandSHeadRun.head_any (r := OpenLaw.row PySem.Challenge.rw_drivehall_k01_words_and_registers) (q := view (OpenLaw.row PySem.Challenge.rw_drivehall_k01_words_and_registers).prog [31]) (H := Toy.hk) (ob := Toy.ob) (M := 20000) (loose := Toy.loose) (d := HandSHeadRun.topDef (OpenLaw.row PySem.Challenge.rw_drivehall_k01_words_and_registers).prog 31) (kwd := []) Toy.ob_eq
    (by kernel_rfl) (fun s => by kernel_rfl) Toy.run (by kernel_rfl) (by kernel_rfl) (by kernel_rfl) (by rfl) (by first | assumption | decide +kernel) (by decide +kernel) ⟨rfl, rfl, rfl, rfl, rfl, by decide +kernel⟩ ?hw ?hc
  case hw => w_witness2
  case hc => exact Toy.law_walk
