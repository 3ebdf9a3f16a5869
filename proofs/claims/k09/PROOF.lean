import PyProof.Rows.All
import Wide.All
import OpenK.AllK
import Wide.FinOn
import HandS.ForMost
import HandS.ForExc
import HandS.SortInts
import HandS.IsInst
import HandS.Conv
import HandS.SetFor
import PySem.Challenge.RW_markpause_k09_nothing_hides
set_option Elab.async false
set_option linter.all false
set_option maxRecDepth 100000
set_option maxHeartbeats 4000000
/-! A small separation layer: what stands in the heap is told by a list of assertions, each over cells of its own; the readings of the hand layer are then read over such lists. -/
namespace Mp
open PySem L2
abbrev Asn := Hp → Prop
abbrev AL := List Asn
def Sub (h H : Hp) : Prop := ∀ a o, h a = some o → H a = some o
def Dj (h k : Hp) : Prop := ∀ a, h a = none ∨ k a = none
def un (h k : Hp) : Hp := fun a => match h a with | some o => some o | none => k a
theorem Sub.refl (h : Hp) : Sub h h := fun _ _ e => e
theorem Sub.trans {a b c : Hp} (x : Sub a b) (y : Sub b c) : Sub a c := fun p o e => y p o (x p o e)
theorem Dj.symm {h k : Hp} (d : Dj h k) : Dj k h := fun a => (d a).symm
theorem Dj.sub {h k h' k' : Hp} (d : Dj h k) (x : Sub h' h) (y : Sub k' k) : Dj h' k' := fun a => by
  cases e : h' a with
  | none => exact .inl rfl
  | some o =>
    cases e2 : k' a with
    | none => exact .inr rfl
    | some u =>
      rcases d a with z | z
      · rw [x a o e] at z; cases z
      · rw [y a u e2] at z; cases z
theorem un_l {h k : Hp} : Sub h (un h k) := fun a o e => by unfold un; rw [e]
theorem un_r {h k : Hp} (d : Dj h k) : Sub k (un h k) := fun a o e => by
  unfold un
  rcases d a with z | z
  · rw [z]; exact e
  · rw [e] at z; cases z
theorem un_sub {h k H : Hp} (x : Sub h H) (y : Sub k H) : Sub (un h k) H := fun a o e => by
  unfold un at e
  cases q : h a with
  | some u => rw [q] at e; cases e; exact x a _ q
  | none => rw [q] at e; exact y a o e
theorem dj_un {h k l : Hp} (x : Dj h k) (y : Dj h l) : Dj h (un k l) := fun a => by
  rcases x a with z | z
  · exact .inl z
  · rcases y a with z2 | z2
    · exact .inl z2
    · right; unfold un; rw [z]; exact z2
def Sep : AL → Hp → Prop
  | [], _ => True
  | A :: L, H => ∃ h k, Sub h H ∧ Sub k H ∧ Dj h k ∧ A h ∧ Sep L k
def pt (a : Addr) (o : HO) : Asn := fun h => h a = some o
def Star (L : AL) : Asn := fun h => Sep L h
def Exi {α : Type} (f : α → Asn) : Asn := fun h => ∃ x, f x h
def Pr (p : Prop) : Asn := fun _ => p
def Ent (L M : AL) : Prop := ∀ H, Sep L H → Sep M H
theorem Sep.mono : ∀ {L : AL} {H H' : Hp}, Sub H H' → Sep L H → Sep L H'
  | [], _, _, _, _ => True.intro
  | _ :: _, _, _, x, ⟨h, k, a, b, d, p, q⟩ => ⟨h, k, a.trans x, b.trans x, d, p, q⟩
theorem Sep.tail {A : Asn} {L : AL} {H : Hp} (s : Sep (A :: L) H) : Sep L H := by
  obtain ⟨h, k, a, b, d, p, q⟩ := s
  exact q.mono b
theorem Ent.refl (L : AL) : Ent L L := fun _ s => s
theorem Ent.trans {L M N : AL} (a : Ent L M) (b : Ent M N) : Ent L N := fun H s => b H (a H s)
theorem Ent.cons {A : Asn} {L M : AL} (e : Ent L M) : Ent (A :: L) (A :: M) := fun _ ⟨h, k, a, b, d, p, q⟩ => ⟨h, k, a, b, d, p, e k q⟩
theorem Ent.drop {A : Asn} {L : AL} : Ent (A :: L) L := fun _ s => s.tail
theorem ent_swap {A B : Asn} {L : AL} : Ent (A :: B :: L) (B :: A :: L) := by
  rintro H ⟨h1, k1, a1, b1, d1, p1, h2, k2, a2, b2, d2, p2, q⟩
  have e1 : Dj h1 h2 := d1.sub (Sub.refl _) a2
  have e2 : Dj h1 k2 := d1.sub (Sub.refl _) b2
  refine ⟨h2, un h1 k2, a2.trans b1, un_sub a1 (b2.trans b1), dj_un e1.symm d2, p2, h1, k2, un_l, un_r e2, e2, p1, q⟩
theorem ent_perm {L M : AL} (p : L.Perm M) : Ent L M := by
  induction p with
  | nil => exact Ent.refl _
  | cons x _ ih => exact ih.cons
  | swap x y l => exact ent_swap
  | trans _ _ a b => exact a.trans b
theorem ent_pick : ∀ {L : AL} (i : Nat) {A : Asn}, L[i]? = some A → Ent L (A :: L.eraseIdx i)
  | [], _, _, h => by simp at h
  | B :: L, 0, A, h => by
    have e : B = A := Option.some.inj h
    subst e
    exact Ent.refl _
  | B :: L, i + 1, A, h => by
    have ih := ent_pick (L := L) i (A := A) h
    exact (Ent.cons ih).trans ent_swap
theorem ent_put : ∀ {L : AL} (i : Nat) {A : Asn}, i ≤ L.length → Ent (A :: L) (L.insertIdx i A)
  | L, 0, A, _ => Ent.refl _
  | [], i + 1, A, h => absurd h (by simp)
  | B :: L, i + 1, A, h => by
    have ih := ent_put (L := L) i (A := A) (Nat.le_of_succ_le_succ h)
    exact ent_swap.trans (Ent.cons ih)
theorem ent_unstar : ∀ {Ls R : AL}, Ent (Star Ls :: R) (Ls ++ R)
  | [], R => Ent.drop
  | A :: Ls, R => by
    rintro H ⟨h, k, a, b, d, ⟨h1, h2, a1, b1, d1, p1, q1⟩, q⟩
    have e1 : Dj h1 k := d.sub a1 (Sub.refl _)
    have e2 : Dj h2 k := d.sub b1 (Sub.refl _)
    refine ⟨h1, un h2 k, a1.trans a, un_sub (b1.trans a) b, dj_un d1 e1, p1, ?_⟩
    exact ent_unstar (Ls := Ls) (R := R) _ ⟨h2, k, un_l, un_r e2, e2, q1, q⟩
theorem ent_star : ∀ {Ls R : AL}, Ent (Ls ++ R) (Star Ls :: R)
  | [], R => fun H s => ⟨fun _ => none, H, (fun _ _ e => nomatch e), Sub.refl _, fun _ => .inl rfl, True.intro, s⟩
  | A :: Ls, R => by
    rintro H ⟨h1, k, a, b, d, p, q⟩
    obtain ⟨h2, k2, a2, b2, d2, p2, q2⟩ := ent_star (Ls := Ls) (R := R) k q
    have e1 : Dj h1 h2 := d.sub (Sub.refl _) a2
    have e2 : Dj h1 k2 := d.sub (Sub.refl _) b2
    refine ⟨un h1 h2, k2, un_sub a (a2.trans b), b2.trans b, (dj_un e2.symm d2.symm).symm, ⟨h1, h2, un_l, un_r e1, e1, p, p2⟩, q2⟩
theorem sep_exi {α : Type} {f : α → Asn} {L : AL} {H : Hp} (s : Sep (Exi f :: L) H) : ∃ x, Sep (f x :: L) H := by
  obtain ⟨h, k, a, b, d, ⟨x, p⟩, q⟩ := s
  exact ⟨x, h, k, a, b, d, p, q⟩
theorem ent_exi {α : Type} {f : α → Asn} {L : AL} (x : α) : Ent (f x :: L) (Exi f :: L) := by
  rintro H ⟨h, k, a, b, d, p, q⟩
  exact ⟨h, k, a, b, d, ⟨x, p⟩, q⟩
theorem sep_pr {p : Prop} {L : AL} {H : Hp} (s : Sep (Pr p :: L) H) : p ∧ Sep L H := by
  obtain ⟨h, k, a, b, d, x, q⟩ := s
  exact ⟨x, q.mono b⟩
theorem ent_pr {p : Prop} {L : AL} (h : p) : Ent L (Pr p :: L) := fun H s => ⟨fun _ => none, H, (fun _ _ e => nomatch e), Sub.refl _, fun _ => .inl rfl, h, s⟩
/-! ### what stands at an address; a store; a new object -/
def Has (L : AL) (a : Addr) (o : HO) : Prop := ∀ H, Sep L H → H a = some o
theorem has_hd {a : Addr} {o : HO} {L : AL} : Has (pt a o :: L) a o := fun _ ⟨_, _, x, _, _, p, _⟩ => x _ _ p
theorem has_tl {a : Addr} {o : HO} {A : Asn} {L : AL} (h : Has L a o) : Has (A :: L) a o := fun _ s => h _ s.tail
theorem Has.ent {L M : AL} {a : Addr} {o : HO} (h : Has M a o) (e : Ent L M) : Has L a o := fun H s => h H (e H s)
def Wr (L : AL) (a : Addr) (o : HO) (M : AL) : Prop := ∀ H, Sep L H → (∃ u, H a = some u) ∧ Sep M (upd H a o)
def one (a : Addr) (o : HO) : Hp := fun b => if b = a then some o else none
theorem one_sub {a : Addr} {o : HO} {H : Hp} : Sub (one a o) (upd H a o) := fun b u e => by
  unfold one at e
  by_cases h : b = a
  · rw [if_pos h] at e; cases e; subst h; exact upd_same
  · rw [if_neg h] at e; cases e
theorem wr_hd {a : Addr} {o u : HO} {L : AL} : Wr (pt a u :: L) a o (pt a o :: L) := by
  rintro H ⟨h, k, x, y, d, p, q⟩
  have hk : k a = none := by
    rcases d a with z | z
    · rw [show h a = some u from p] at z; cases z
    · exact z
  refine ⟨⟨u, x _ _ p⟩, one a o, k, one_sub, fun b w e => ?_, fun b => ?_, by unfold pt one; rw [if_pos rfl], q⟩
  · rw [upd_ne (fun z => by rw [z, hk] at e; cases e)]; exact y b w e
  · by_cases h : b = a
    · right; rw [h]; exact hk
    · left; unfold one; rw [if_neg h]
theorem wr_tl {a : Addr} {o : HO} {A : Asn} {L M : AL} (w : Wr L a o M) : Wr (A :: L) a o (A :: M) := by
  rintro H ⟨h, k, x, y, d, p, q⟩
  obtain ⟨⟨u, hu⟩, s⟩ := w k q
  have ha : h a = none := by
    rcases d a with z | z
    · exact z
    · rw [hu] at z; cases z
  refine ⟨⟨u, y _ _ hu⟩, h, upd k a o, fun b w e => ?_, fun b w e => ?_, fun b => ?_, p, s⟩
  · rw [upd_ne (fun z => by rw [z, ha] at e; cases e)]; exact x b w e
  · by_cases z : b = a
    · subst z; rw [upd_same] at e ⊢; exact e
    · rw [upd_ne z] at e ⊢; exact y b w e
  · by_cases z : b = a
    · left; rw [z]; exact ha
    · rw [upd_ne z]; exact d b
theorem Wr.ent {L L' M : AL} {a : Addr} {o : HO} (w : Wr L' a o M) (e : Ent L L') : Wr L a o M := fun H s => w H (e H s)
theorem Wr.to {L M M' : AL} {a : Addr} {o : HO} (w : Wr L a o M) (e : Ent M M') : Wr L a o M' := fun H s => ⟨(w H s).1, e _ (w H s).2⟩
theorem sep_new {a : Addr} {o : HO} {L : AL} {H : Hp} (s : Sep L H) (n : H a = none) : Sep (pt a o :: L) (upd H a o) :=
  ⟨one a o, H, one_sub, fun b w e => by rw [upd_ne (fun z => by rw [z, n] at e; cases e)]; exact e, fun b => by
    by_cases h : b = a
    · right; rw [h]; exact n
    · left; unfold one; rw [if_neg h], by unfold pt one; rw [if_pos rfl], s⟩
/-! ### readings over lists of assertions -/
def SE (te : TE) (σ : L2.St) (L : AL) (Q : V → AL → Prop) : Prop := ∀ H, Sep L H → ∀ Qh : VK, (∀ v L' H', Sep L' H' → Q v L' → Qh v H') → te σ H Qh
def ST (tt : TT) (σ : L2.St) (L : AL) (Q : Bool → AL → Prop) : Prop := ∀ H, Sep L H → ∀ Qh : Bool → Hp → Prop, (∀ v L' H', Sep L' H' → Q v L' → Qh v H') → tt σ H Qh
def SA (ta : TA) (σ : L2.St) (L : AL) (Q : List V → AL → Prop) : Prop := ∀ H, Sep L H → ∀ Qh : List V → Hp → Prop, (∀ v L' H', Sep L' H' → Q v L' → Qh v H') → ta σ H Qh
def SO (to : TO) (σ : L2.St) (L : AL) (Q : Option Int → AL → Prop) : Prop := ∀ H, Sep L H → ∀ Qh : Option Int → Hp → Prop, (∀ v L' H', Sep L' H' → Q v L' → Qh v H') → to σ H Qh
def RE (r : Hp → VK → Prop) (L : AL) (Q : V → AL → Prop) : Prop := ∀ H, Sep L H → ∀ Qh : VK, (∀ v L' H', Sep L' H' → Q v L' → Qh v H') → r H Qh
def RS (r : Hp → (Hp → Prop) → Prop) (L : AL) (Q : AL → Prop) : Prop := ∀ H, Sep L H → ∀ Qh : Hp → Prop, (∀ L' H', Sep L' H' → Q L' → Qh H') → r H Qh
structure EA where
  nx : L2.St → AL → Prop
  rt : V → AL → Prop
  bk : L2.St → AL → Prop := fun _ _ => False
  ct : L2.St → AL → Prop := fun _ _ => False
structure EA.Le (D : EA) (E : Ends) : Prop where
  nx : ∀ σ L H, Sep L H → D.nx σ L → E.nx σ H
  rt : ∀ v L H, Sep L H → D.rt v L → E.rt v H
  bk : ∀ σ L H, Sep L H → D.bk σ L → E.bk σ H
  ct : ∀ σ L H, Sep L H → D.ct σ L → E.ct σ H
def SS (t : TS) (D : EA) (σ : L2.St) (L : AL) : Prop := ∀ H, Sep L H → ∀ E : Ends, D.Le E → t E σ H
section
variable {K : PySem.W.Frag} {σ : L2.St} {L M : AL} {te ta tb tv : TE} {Q : V → AL → Prop} {t u : TS} {D : EA} {tt tu : TT} {QB : Bool → AL → Prop} {QA : List V → AL → Prop}
theorem e_ent (e : Ent L M) (h : SE te σ M Q) : SE te σ L Q := fun H s Qh k => h H (e H s) Qh k
theorem s_ent (e : Ent L M) (h : SS t D σ M) : SS t D σ L := fun H s Qh k => h H (e H s) Qh k
theorem t_ent (e : Ent L M) (h : ST tt σ M QB) : ST tt σ L QB := fun H s Qh k => h H (e H s) Qh k
theorem r_ent {r : Hp → VK → Prop} (e : Ent L M) (h : RE r M Q) : RE r L Q := fun H s Qh k => h H (e H s) Qh k
theorem e_mono {Q' : V → AL → Prop} (h : SE te σ L Q) (m : ∀ v L', Q v L' → Q' v L') : SE te σ L Q' := fun H s Qh k => h H s Qh fun v L' H' s' q => k v L' H' s' (m v L' q)
theorem t_mono {Q' : Bool → AL → Prop} (h : ST tt σ L QB) (m : ∀ v L', QB v L' → Q' v L') : ST tt σ L Q' := fun H s Qh k => h H s Qh fun v L' H' s' q => k v L' H' s' (m v L' q)
/-- what the list tells may be used -/
theorem s_use {P : Prop} (h : ∀ H, Sep L H → P) (k : P → SS t D σ L) : SS t D σ L := fun H s => k (h H s) H s
theorem e_use {P : Prop} (h : ∀ H, Sep L H → P) (k : P → SE te σ L Q) : SE te σ L Q := fun H s => k (h H s) H s
theorem s_exi {α : Type} {f : α → Asn} {R : AL} (k : ∀ x, SS t D σ (f x :: R)) : SS t D σ (Exi f :: R) := fun H s => by
  obtain ⟨x, s⟩ := sep_exi s
  exact k x H s
theorem e_exi {α : Type} {f : α → Asn} {R : AL} (k : ∀ x, SE te σ (f x :: R) Q) : SE te σ (Exi f :: R) Q := fun H s => by
  obtain ⟨x, s⟩ := sep_exi s
  exact k x H s
theorem s_pr {p : Prop} {R : AL} (k : p → SS t D σ R) : SS t D σ (Pr p :: R) := fun H s => by
  obtain ⟨x, s⟩ := sep_pr s
  exact k x H s
theorem s_mono {D' : EA} (h : SS t D σ L) (m1 : ∀ σ L, D.nx σ L → D'.nx σ L) (m2 : ∀ v L, D.rt v L → D'.rt v L) (m3 : ∀ σ L, D.bk σ L → D'.bk σ L) (m4 : ∀ σ L, D.ct σ L → D'.ct σ L) : SS t D' σ L := fun H s E le =>
  h H s E ⟨fun σ L H s q => le.nx σ L H s (m1 σ L q), fun v L H s q => le.rt v L H s (m2 v L q), fun σ L H s q => le.bk σ L H s (m3 σ L q), fun σ L H s q => le.ct σ L H s (m4 σ L q)⟩
/-! ### expressions -/
theorem e_var {i : Nat} {v : V} (h : σ[i]? = some (some v)) (q : Q v L) : SE (tVar i) σ L Q := fun H s Qh k => ⟨v, h, k _ _ _ s q⟩
theorem e_c {v : V} (q : Q v L) : SE (tC v) σ L Q := fun H s Qh k => k _ _ _ s q
theorem e_op {r : R2} (h : SE ta σ L fun x L1 => SE tb σ L1 fun y L2 => RE (r x y) L2 Q) : SE (tOp r ta tb) σ L Q := fun H s Qh k =>
  h H s _ fun x L1 H1 s1 h1 => h1 H1 s1 _ fun y L2 H2 s2 h2 => h2 H2 s2 Qh k
theorem e_un {r : V → Hp → VK → Prop} (h : SE ta σ L fun x L1 => RE (r x) L1 Q) : SE (tUn r ta) σ L Q := fun H s Qh k =>
  h H s _ fun x L1 H1 s1 h1 => h1 H1 s1 Qh k
def rFld (K : PySem.W.Frag) (f : Str) (x : V) : Hp → VK → Prop := fun H1 Q => ∃ a C dx fs v, x = .ref a ∧ H1 a = some (.ins C dx fs) ∧ Cls K C ∧ NoAttr K C f ∧ fs.lookup f = some v ∧ Q v H1
theorem e_fld {f : Str} (h : SE ta σ L fun x L1 => RE (rFld K f x) L1 Q) : SE (tFld K ta f) σ L Q := fun H s Qh k =>
  h H s _ fun x L1 H1 s1 h1 => h1 H1 s1 Qh k
theorem r_fld {f : Str} {a C dx : Addr} {fs : List (Str × V)} {v : V} (c : Cls K C) (n : NoAttr K C f) (h : Has L a (.ins C dx fs)) (l : fs.lookup f = some v) (q : Q v L) : RE (rFld K f (.ref a)) L Q := fun H s Qh k =>
  ⟨a, C, dx, fs, v, rfl, h H s, c, n, l, k _ _ _ s q⟩
theorem e_chain {r r' : R2} {tc : TE} (h : SE ta σ L fun x L1 => SE tb σ L1 fun y L2 => RE (r x y) L2 fun z L3 => ∃ b, z = .bl b ∧ (b = true → SE tc σ L3 fun w L4 => RE (r' y w) L4 Q) ∧ (b = false → Q (.bl false) L3)) : SE (tChain r r' ta tb tc) σ L Q := fun H s Qh k =>
  h H s _ fun x L1 H1 s1 h1 => h1 H1 s1 _ fun y L2 H2 s2 h2 => h2 H2 s2 _ fun z L3 H3 s3 ⟨b, e, ht, hf⟩ => ⟨b, e, by
    cases b with
    | true => rw [if_pos rfl]; exact ht rfl H3 s3 _ fun w L4 H4 s4 h4 => h4 H4 s4 Qh k
    | false => rw [if_neg Bool.false_ne_true]; exact k _ _ _ s3 (hf rfl)⟩
theorem e_andV (h : SE ta σ L fun x L1 => ∃ b, x = .bl b ∧ (b = true → SE tb σ L1 Q) ∧ (b = false → Q (.bl false) L1)) : SE (tAndV ta tb) σ L Q := fun H s Qh k =>
  h H s _ fun x L1 H1 s1 ⟨b, e, ht, hf⟩ => ⟨b, e, by
    cases b with
    | true => rw [if_pos rfl]; exact ht rfl H1 s1 Qh k
    | false => rw [if_neg Bool.false_ne_true]; exact k _ _ _ s1 (hf rfl)⟩
theorem e_orV (h : SE ta σ L fun x L1 => ∃ b, x = .bl b ∧ (b = true → Q (.bl true) L1) ∧ (b = false → SE tb σ L1 Q)) : SE (tOrV ta tb) σ L Q := fun H s Qh k =>
  h H s _ fun x L1 H1 s1 ⟨b, e, ht, hf⟩ => ⟨b, e, by
    cases b with
    | true => rw [if_pos rfl]; exact k _ _ _ s1 (ht rfl)
    | false => rw [if_neg Bool.false_ne_true]; exact hf rfl H1 s1 Qh k⟩
theorem e_notV (h : SE ta σ L fun x L1 => ∃ b, x = .bl b ∧ Q (.bl (!b)) L1) : SE (tNotV ta) σ L Q := fun H s Qh k =>
  h H s _ fun x L1 H1 s1 ⟨b, e, q⟩ => ⟨b, e, k _ _ _ s1 q⟩
theorem e_if (h : ST tt σ L fun b L1 => (b = true → SE ta σ L1 Q) ∧ (b = false → SE tb σ L1 Q)) : SE (tIf tt ta tb) σ L Q := fun H s Qh k =>
  h H s _ fun b L1 H1 s1 ⟨ht, hf⟩ => by
    cases b with
    | true => rw [if_pos rfl]; exact ht rfl H1 s1 Qh k
    | false => rw [if_neg Bool.false_ne_true]; exact hf rfl H1 s1 Qh k
/-! ### arguments -/
theorem a_nil (q : QA [] L) : SA tNil σ L QA := fun H s Qh k => k _ _ _ s q
theorem a_cons {tr : TA} (h : SE ta σ L fun x L1 => SA tr σ L1 fun xs L2 => QA (x :: xs) L2) : SA (tCons ta tr) σ L QA := fun H s Qh k =>
  h H s _ fun x L1 H1 s1 h1 => h1 H1 s1 _ fun xs L2 H2 s2 q => k _ _ _ s2 q
theorem e_lst {tr : TA} (h : SA tr σ L fun xs L1 => xs.length ≤ sizeLine ∧ ∀ p, Q (.ref p) (pt p (.lst xs) :: L1)) : SE (tLst tr) σ L Q := fun H s Qh k =>
  h H s _ fun xs L1 H1 s1 ⟨z, q⟩ => ⟨z, fun p hp => k _ _ _ (sep_new s1 hp) (q p)⟩
theorem e_tup {tr : TA} (h : SA tr σ L fun xs L1 => xs.length ≤ sizeLine ∧ ∀ p, Q (.ref p) (pt p (.tup xs) :: L1)) : SE (tTup tr) σ L Q := fun H s Qh k =>
  h H s _ fun xs L1 H1 s1 ⟨z, q⟩ => ⟨z, fun p hp => k _ _ _ (sep_new s1 hp) (q p)⟩
theorem e_cb {r : List V → Hp → VK → Prop} {tr : TA} (h : SA tr σ L fun xs L1 => RE (r xs) L1 Q) : SE (tCB r tr) σ L Q := fun H s Qh k =>
  h H s _ fun xs L1 H1 s1 h1 => h1 H1 s1 Qh k
/-! ### operators by values -/
theorem r_I0 {g : Int → Int → V} {i j : Int} (q : Q (g i j) L) : RE (rI0 g (.int i) (.int j)) L Q := fun H s Qh k => ⟨i, j, rfl, rfl, k _ _ _ s q⟩
theorem r_I {C : Int → Int → Prop} {g : Int → Int → V} {i j : Int} (c : C i j) (q : Q (g i j) L) : RE (rI C g (.int i) (.int j)) L Q := fun H s Qh k => ⟨i, j, rfl, rfl, c, k _ _ _ s q⟩
theorem r_eq {x y : V} (c : scal x y = true) (q : Q (.bl (decide (x = y))) L) : RE (rEq x y) L Q := fun H s Qh k => ⟨c, k _ _ _ s q⟩
theorem r_ne {x y : V} (c : scal x y = true) (q : Q (.bl (!decide (x = y))) L) : RE (rNe x y) L Q := fun H s Qh k => ⟨c, k _ _ _ s q⟩
def rIsNo : R2 := fun x y H Q => y = .non ∧ Q (.bl (decide (x = .non))) H
def rNotNo : R2 := fun x y H Q => y = .non ∧ Q (.bl (!decide (x = .non))) H
theorem op_isNo {X : Cx} : OpR X (compareOp .Is) rIsNo := op_isN
theorem op_notNo {X : Cx} : OpR X (compareOp .IsNot) rNotNo := op_notN
theorem r_isNo {x : V} (q : Q (.bl (decide (x = .non))) L) : RE (rIsNo x .non) L Q := fun H s Qh k => ⟨rfl, k _ _ _ s q⟩
theorem r_notNo {x : V} (q : Q (.bl (!decide (x = .non))) L) : RE (rNotNo x .non) L Q := fun H s Qh k => ⟨rfl, k _ _ _ s q⟩
/-- lists that are read -/
def SqA (K : PySem.W.Frag) (L : AL) (a : Addr) (xs : List V) : Prop := ∀ H, Sep L H → SqL K H a xs
def TqA (K : PySem.W.Frag) (L : AL) (a : Addr) (xs : List V) : Prop := ∀ H, Sep L H → SqT K H a xs
theorem Has.sq {a : Addr} {xs : List V} (h : Has L a (.lst xs)) : SqA K L a xs := fun H s => SqL.of (h H s)
theorem Has.fq {a : Addr} {o : Obj} {xs : List V} (h : Has L a (.frz o (.lst xs))) : SqA K L a xs := fun H s => .inl (.inr ⟨o, h H s⟩)
theorem Has.tq {a : Addr} {xs : List V} (h : Has L a (.tup xs)) : TqA K L a xs := fun H s => SqT.of (h H s)
theorem r_ixL {a : Addr} {xs : List V} {i : Int} {v : V} (h : SqA K L a xs) (e : atI xs i = some v) (q : Q v L) : RE (rIxL K (.ref a) (.int i)) L Q := fun H s Qh k => ⟨a, xs, i, v, rfl, rfl, h H s, e, k _ _ _ s q⟩
theorem r_ixT {a : Addr} {xs : List V} {i : Int} {v : V} (h : TqA K L a xs) (e : atI xs i = some v) (q : Q v L) : RE (rIxT K (.ref a) (.int i)) L Q := fun H s Qh k => ⟨a, xs, i, v, rfl, rfl, h H s, e, k _ _ _ s q⟩
theorem r_ixS {z : Str} {i : Int} {c : Nat} (hz : z.length ≤ sizeLine) (e : atI z.cps.toList i = some c) (q : Q (.str ⟨#[c]⟩) L) : RE (rIxS (.str z) (.int i)) L Q := fun H s Qh k => ⟨z, i, c, rfl, rfl, hz, e, k _ _ _ s q⟩
theorem r_inL {neg : Bool} {a : Addr} {x : V} {xs : List V} (h : SqA K L a xs) (hx : flatV x = true) (hs : xs.all flatV = true) (q : Q (.bl (if neg then !inV x xs else inV x xs)) L) : RE (rIn K neg x (.ref a)) L Q :=
  fun H s Qh k => ⟨a, xs, rfl, .inl (h H s), hx, hs, k _ _ _ s q⟩
theorem r_inT {neg : Bool} {a : Addr} {x : V} {xs : List V} (h : TqA K L a xs) (hx : flatV x = true) (hs : xs.all flatV = true) (q : Q (.bl (if neg then !inV x xs else inV x xs)) L) : RE (rIn K neg x (.ref a)) L Q :=
  fun H s Qh k => ⟨a, xs, rfl, .inr (h H s), hx, hs, k _ _ _ s q⟩
theorem r_cat {a b : Addr} {xs ys : List V} (h : Has L a (.lst xs)) (h' : Has L b (.lst ys)) (z : xs.length + ys.length ≤ sizeLine) (q : ∀ p, Q (.ref p) (pt p (.lst (xs ++ ys)) :: L)) : RE (rCat (.ref a) (.ref b)) L Q := fun H s Qh k =>
  ⟨a, b, xs, ys, rfl, rfl, h H s, h' H s, z, fun p hp => k _ _ _ (sep_new s hp) (q p)⟩
theorem r_addS {x y : Str} (z : x.length + y.length ≤ sizeLine) (q : Q (.str (x ++ y)) L) : RE ((fun (x y : V) H Q => ∃ i j, x = .str i ∧ y = .str j ∧ i.length + j.length ≤ sizeLine ∧ Q (.str (i ++ j)) H : R2) (.str x) (.str y)) L Q := fun H s Qh k =>
  ⟨x, y, rfl, rfl, z, k _ _ _ s q⟩
/-! ### built-in functions -/
def rLen (K : PySem.W.Frag) : List V → Hp → VK → Prop := fun xs H Q => ∃ p ys, xs = [.ref p] ∧ (SqL K H p ys ∨ SqT K H p ys) ∧ Q (.int ys.length) H
def rListOf (K : PySem.W.Frag) : List V → Hp → VK → Prop := fun xs H Q => ∃ p ys, xs = [.ref p] ∧ (SqL K H p ys ∨ SqT K H p ys) ∧ ∀ l, H l = none → Q (.ref l) (upd H l (.lst ys))
def rLenS : List V → Hp → VK → Prop := fun xs H Q => ∃ z, xs = [.str z] ∧ z.length ≤ sizeLine ∧ Q (.int z.length) H
def rMax2 : List V → Hp → VK → Prop := fun xs H Q => ∃ i j, xs = [.int i, .int j] ∧ Q (.int (if j > i then j else i)) H
def rMin2 : List V → Hp → VK → Prop := fun xs H Q => ∃ i j, xs = [.int i, .int j] ∧ Q (.int (if j < i then j else i)) H
def rInt1 : List V → Hp → VK → Prop := fun xs H Q => (∃ i, xs = [.int i] ∧ Q (.int i) H) ∨ ∃ k, xs = [.bl k] ∧ Q (.int (if k then 1 else 0)) H
def rStrI : List V → Hp → VK → Prop := fun xs H Q => ∃ i, xs = [.int i] ∧ i.natAbs.log2 < 1920 ∧ Q (.str (toString i)) H
def rLenD : List V → Hp → VK → Prop := fun xs H Q => ∃ d kvs, xs = [.ref d] ∧ H d = some (.dK kvs) ∧ Q (.int (kvs.length : Int)) H
theorem cl_len {X : Cx} : CallR X (.builtin "len") (rLen X.K) := call_len_seq
theorem cl_lenS {X : Cx} : CallR X (.builtin "len") rLenS := call_len_str
theorem cl_list {X : Cx} : CallR X (.type "list") (rListOf X.K) := call_list_of
theorem cl_max2 {X : Cx} (hc : X.calm = true) : CallR X (.builtin "max") rMax2 := call_max2 hc
theorem cl_min2 {X : Cx} (hc : X.calm = true) : CallR X (.builtin "min") rMin2 := call_min2 hc
theorem cl_int1 {X : Cx} : CallR X (.type "int") rInt1 := call_int1
theorem cl_strI {X : Cx} : CallR X (.type "str") rStrI := call_str_int
theorem c_len {a : Addr} {xs : List V} (h : SqA K L a xs) (q : Q (.int xs.length) L) : RE (rLen K [.ref a]) L Q := fun H s Qh k => ⟨a, xs, rfl, .inl (h H s), k _ _ _ s q⟩
theorem c_lenT {a : Addr} {xs : List V} (h : TqA K L a xs) (q : Q (.int xs.length) L) : RE (rLen K [.ref a]) L Q := fun H s Qh k => ⟨a, xs, rfl, .inr (h H s), k _ _ _ s q⟩
theorem c_list {a : Addr} {xs : List V} (h : SqA K L a xs) (q : ∀ p, Q (.ref p) (pt p (.lst xs) :: L)) : RE (rListOf K [.ref a]) L Q := fun H s Qh k => ⟨a, xs, rfl, .inl (h H s), fun p hp => k _ _ _ (sep_new s hp) (q p)⟩
theorem c_listT {a : Addr} {xs : List V} (h : TqA K L a xs) (q : ∀ p, Q (.ref p) (pt p (.lst xs) :: L)) : RE (rListOf K [.ref a]) L Q := fun H s Qh k => ⟨a, xs, rfl, .inr (h H s), fun p hp => k _ _ _ (sep_new s hp) (q p)⟩
theorem c_lenS {z : Str} (hz : z.length ≤ sizeLine) (q : Q (.int z.length) L) : RE (rLenS [.str z]) L Q := fun H s Qh k => ⟨z, rfl, hz, k _ _ _ s q⟩
theorem c_max2 {i j : Int} (q : Q (.int (if j > i then j else i)) L) : RE (rMax2 [.int i, .int j]) L Q := fun H s Qh k => ⟨i, j, rfl, k _ _ _ s q⟩
theorem c_min2 {i j : Int} (q : Q (.int (if j < i then j else i)) L) : RE (rMin2 [.int i, .int j]) L Q := fun H s Qh k => ⟨i, j, rfl, k _ _ _ s q⟩
theorem c_intI {i : Int} (q : Q (.int i) L) : RE (rInt1 [.int i]) L Q := fun H s Qh k => .inl ⟨i, rfl, k _ _ _ s q⟩
theorem c_intB {b : Bool} (q : Q (.int (if b then 1 else 0)) L) : RE (rInt1 [.bl b]) L Q := fun H s Qh k => .inr ⟨b, rfl, k _ _ _ s q⟩
theorem c_strI {i : Int} (h : i.natAbs.log2 < 1920) (q : Q (.str (toString i)) L) : RE (rStrI [.int i]) L Q := fun H s Qh k => ⟨i, rfl, h, k _ _ _ s q⟩
theorem c_sortedI {a : Addr} {ns : List Int} (h : SqA K L a (ns.map V.int)) (q : ∀ (ms : List Int) (p : Addr), ms.Perm ns → ms.Pairwise (· ≤ ·) → Q (.ref p) (pt p (.lst (ms.map V.int)) :: L)) : RE (rSortedI K [.ref a]) L Q := fun H s Qh k =>
  ⟨a, ns, rfl, h H s, fun ms p hp hw hn => k _ _ _ (sep_new s hn) (q ms p hp hw)⟩
/-- isinstance -/
theorem c_isi {x c : V} {tv u : Value} {b : Bool} (hc : ClsV c u) (hx : ∀ H, Sep L H → TyX K H x tv) (e : PySem.W.kitOne K tv u = some b) (q : Q (.bl b) L) : RE (rIsi K [x, c]) L Q := fun H s Qh k => ⟨x, c, tv, u, b, rfl, hc, hx H s, e, k _ _ _ s q⟩
/-! ### tests -/
theorem t_test (h : SE te σ L fun x L1 => ∃ b, x = .bl b ∧ QB b L1) : ST (tTest te) σ L QB := fun H s Qh k =>
  h H s _ fun x L1 H1 s1 ⟨b, e, q⟩ => ⟨b, e, k _ _ _ s1 q⟩
theorem t_B (h : SE te σ L fun x L1 => ∃ b, x = .bl b ∧ QB b L1) : ST (tB te) σ L QB := fun H s Qh k =>
  h H s _ fun x L1 H1 s1 ⟨b, e, q⟩ => ⟨b, e, k _ _ _ s1 q⟩
theorem t_and (h : ST tt σ L fun b L1 => (b = true → ST tu σ L1 QB) ∧ (b = false → QB false L1)) : ST (tAnd tt tu) σ L QB := fun H s Qh k =>
  h H s _ fun b L1 H1 s1 ⟨ht, hf⟩ => by
    cases b with
    | true => rw [if_pos rfl]; exact ht rfl H1 s1 Qh k
    | false => rw [if_neg Bool.false_ne_true]; exact k _ _ _ s1 (hf rfl)
theorem t_or (h : ST tt σ L fun b L1 => (b = true → QB true L1) ∧ (b = false → ST tu σ L1 QB)) : ST (tOr tt tu) σ L QB := fun H s Qh k =>
  h H s _ fun b L1 H1 s1 ⟨ht, hf⟩ => by
    cases b with
    | true => rw [if_pos rfl]; exact k _ _ _ s1 (ht rfl)
    | false => rw [if_neg Bool.false_ne_true]; exact hf rfl H1 s1 Qh k
theorem t_not (h : ST tt σ L fun b L1 => QB (!b) L1) : ST (tNot tt) σ L QB := fun H s Qh k => h H s _ fun b L1 H1 s1 q => k _ _ _ s1 q
def tTruth (K : PySem.W.Frag) (ta : TE) : TT := fun σ H Q => ta σ H fun x H' => ∃ k, TruV K x H' k ∧ Q k H'
theorem t_tru (h : SE ta σ L fun x L1 => ∃ b, (∀ H, Sep L1 H → TruV K x H b) ∧ QB b L1) : ST (tTruth K ta) σ L QB := fun H s Qh k =>
  h H s _ fun x L1 H1 s1 ⟨b, e, q⟩ => ⟨b, e H1 s1, k _ _ _ s1 q⟩
/-! ### dicts -/
def rDGet (x y : V) : Hp → VK → Prop := fun H Q => ∃ a v, x = .ref a ∧ DGet H a y (some v) ∧ Q v H
def rDIn (x y : V) : Hp → VK → Prop := fun H Q => ∃ a o, x = .ref a ∧ DGet H a y o ∧ Q (.bl o.isSome) H
def rDNotIn (x y : V) : Hp → VK → Prop := fun H Q => ∃ a o, x = .ref a ∧ DGet H a y o ∧ Q (.bl (!o.isSome)) H
theorem e_dget {td ty : TE} (h : SE td σ L fun x L1 => SE ty σ L1 fun y L2 => RE (rDGet x y) L2 Q) : SE (tDGet td ty) σ L Q := fun H s Qh k =>
  h H s _ fun x L1 H1 s1 h1 => h1 H1 s1 _ fun y L2 H2 s2 h2 => h2 H2 s2 Qh k
theorem e_din {td ty : TE} (h : SE ty σ L fun y L1 => SE td σ L1 fun x L2 => RE (rDIn x y) L2 Q) : SE (tDIn ty td) σ L Q := fun H s Qh k =>
  h H s _ fun x L1 H1 s1 h1 => h1 H1 s1 _ fun y L2 H2 s2 h2 => h2 H2 s2 Qh k
theorem e_dnotin {td ty : TE} (h : SE ty σ L fun y L1 => SE td σ L1 fun x L2 => RE (rDNotIn x y) L2 Q) : SE (tDNotIn ty td) σ L Q := fun H s Qh k =>
  h H s _ fun x L1 H1 s1 h1 => h1 H1 s1 _ fun y L2 H2 s2 h2 => h2 H2 s2 Qh k
theorem r_dget {a : Addr} {n : Int} {kvs : List (Key × V)} {v : V} (h : Has L a (.dK kvs)) (e : valV kvs (Sum.inl n) = some v) (q : Q v L) : RE (rDGet (.ref a) (.int n)) L Q := fun H s Qh k =>
  ⟨a, v, rfl, by rw [← e]; exact DGet.k (k := Sum.inl n) (h H s), k _ _ _ s q⟩
theorem r_din {a : Addr} {n : Int} {kvs : List (Key × V)} (h : Has L a (.dK kvs)) (q : Q (.bl (valV kvs (Sum.inl n)).isSome) L) : RE (rDIn (.ref a) (.int n)) L Q := fun H s Qh k =>
  ⟨a, _, rfl, DGet.k (k := Sum.inl n) (h H s), k _ _ _ s q⟩
theorem r_dnotin {a : Addr} {n : Int} {kvs : List (Key × V)} (h : Has L a (.dK kvs)) (q : Q (.bl (!(valV kvs (Sum.inl n)).isSome)) L) : RE (rDNotIn (.ref a) (.int n)) L Q := fun H s Qh k =>
  ⟨a, _, rfl, DGet.k (k := Sum.inl n) (h H s), k _ _ _ s q⟩
theorem e_dnew (q : ∀ p, Q (.ref p) (pt p (.dK []) :: L)) : SE tDNewK σ L Q := fun H s Qh k => fun p hp => k _ _ _ (sep_new s hp) (q p)
/-! ### statements -/
theorem s_next (q : D.nx σ L) : SS tNext D σ L := fun H s E le => le.nx _ _ _ s q
theorem s_brk (q : D.bk σ L) : SS tBreak D σ L := fun H s E le => le.bk _ _ _ s q
theorem s_cnt (q : D.ct σ L) : SS tCont D σ L := fun H s E le => le.ct _ _ _ s q
theorem s_seq (h : SS t { D with nx := fun σ L => SS u D σ L } σ L) : SS (tSeq t u) D σ L := fun H s E le =>
  h H s { E with nx := u E } ⟨fun σ L H s q => q H s E le, le.rt, le.bk, le.ct⟩
theorem s_asg {i : Nat} (h : SE te σ L fun v L1 => D.nx (σ.set i (some v)) L1) : SS (tAsg te (gName i)) D σ L := fun H s E le =>
  h H s _ fun v L1 H1 s1 q => le.nx _ _ _ s1 q
theorem s_drop (h : SE te σ L fun _ L1 => D.nx σ L1) : SS (tDrop te) D σ L := fun H s E le => h H s _ fun v L1 H1 s1 q => le.nx _ _ _ s1 q
theorem s_ret (h : SE te σ L D.rt) : SS (tRet te) D σ L := fun H s E le => h H s _ fun v L1 H1 s1 q => le.rt _ _ _ s1 q
theorem s_retN (q : D.rt .non L) : SS tRetN D σ L := fun H s E le => le.rt _ _ _ s q
theorem s_if (h : ST tt σ L fun b L1 => (b = true → SS t D σ L1) ∧ (b = false → SS u D σ L1)) : SS (tIfS tt t u) D σ L := fun H s E le =>
  h H s _ fun b L1 H1 s1 ⟨ht, hf⟩ => by
    cases b with
    | true => rw [if_pos rfl]; exact ht rfl H1 s1 E le
    | false => rw [if_neg Bool.false_ne_true]; exact hf rfl H1 s1 E le
theorem s_setL {to ti : TE} (h : SE te σ L fun v L1 => SE to σ L1 fun o L2 => SE ti σ L2 fun i L3 => RS (rSetL o i v) L3 fun L4 => D.nx σ L4) : SS (tAsg te (gSub to ti rSetL)) D σ L := fun H s E le =>
  h H s _ fun v L1 H1 s1 h1 => h1 H1 s1 _ fun o L2 H2 s2 h2 => h2 H2 s2 _ fun i L3 H3 s3 h3 => h3 H3 s3 _ fun L4 H4 s4 q => le.nx _ _ _ s4 q
theorem r_setL {a : Addr} {xs : List V} {i : Int} {j : Nat} {v : V} {QS : AL → Prop} (h : Has L a (.lst xs)) (e : ixN xs.length i = some j) (w : Wr L a (.lst (xs.set j v)) M) (q : QS M) : RS (rSetL (.ref a) (.int i) v) L QS := fun H s Qh k =>
  ⟨a, xs, i, j, rfl, rfl, h H s, e, k _ _ (w H s).2 q⟩
theorem s_fld {f : Str} (h : SE tv σ L fun y L1 => SE ta σ L1 fun x L2 => ∃ a C dx fs M, x = .ref a ∧ Has L2 a (.ins C dx fs) ∧ Cls K C ∧ NoAttr K C f ∧ fs.length < 1000 ∧ Wr L2 a (.ins C dx (putF f y fs)) M ∧ D.nx σ M) : SS (sFld K ta tv f) D σ L := fun H s E le =>
  h H s _ fun y L1 H1 s1 h1 => h1 H1 s1 _ fun x L2 H2 s2 ⟨a, C, dx, fs, M, e, hh, c, n, z, w, q⟩ => ⟨a, C, dx, fs, e, hh H2 s2, c, n, z, le.nx _ _ _ (w H2 s2).2 q⟩
theorem s_aug {i : Nat} {f : Int → Int → Int} {x : Int} (hx : σ[i]? = some (some (.int x))) (h : SE te σ L fun y L1 => ∃ j, y = .int j ∧ D.nx (σ.set i (some (.int (f x j)))) L1) : SS (tAug i te (ipI f)) D σ L := fun H s E le =>
  ⟨.int x, hx, h H s _ fun y L1 H1 s1 ⟨j, e, q⟩ => ⟨x, j, rfl, e, le.nx _ _ _ s1 q⟩⟩
theorem s_dput {td ty : TE} (h : SE tv σ L fun v L1 => SE td σ L1 fun x L2 => SE ty σ L2 fun y L3 => ∃ a n kvs M, x = .ref a ∧ y = .int n ∧ Has L3 a (.dK kvs) ∧ kvs.length < sizeLine ∧ Wr L3 a (.dK (putK kvs (Sum.inl n) v)) M ∧ D.nx σ M) : SS (sDPut td ty tv) D σ L := fun H s E le =>
  h H s _ fun v L1 H1 s1 h1 => h1 H1 s1 _ fun x L2 H2 s2 h2 => h2 H2 s2 _ fun y L3 H3 s3 ⟨a, n, kvs, M, e, e2, hh, z, w, q⟩ => ⟨a, _, e, by rw [e2]; exact DPut.k (k := Sum.inl n) (hh H3 s3) z, le.nx _ _ _ (w H3 s3).2 q⟩
/-! ### methods of lists -/
theorem e_bm {T : String} {r : V → List V → Hp → VK → Prop} {to : TE} {tr : TA} (h : SE to σ L fun x L1 => (∀ H, Sep L1 H → tyV K T x H) ∧ SA tr σ L1 fun xs L2 => RE (r x xs) L2 Q) : SE (tBM K T r to tr) σ L Q := fun H s Qh k =>
  h H s _ fun x L1 H1 s1 ⟨ty, h1⟩ => ⟨ty H1 s1, h1 H1 s1 _ fun xs L2 H2 s2 h2 => h2 H2 s2 Qh k⟩
theorem e_bm0 {T : String} {r : V → List V → Hp → VK → Prop} {to : TE} (h : SE to σ L fun x L1 => (∀ H, Sep L1 H → tyV K T x H) ∧ RE (r x []) L1 Q) : SE (tBM0 K T r to) σ L Q := fun H s Qh k =>
  h H s _ fun x L1 H1 s1 ⟨ty, h1⟩ => ⟨ty H1 s1, h1 H1 s1 Qh k⟩
theorem ty_list {a : Addr} {xs : List V} (h : SqA K L a xs) : ∀ H, Sep L H → tyV K "list" (.ref a) H := fun H s => Or.inl ⟨rfl, xs, h H s⟩
theorem r_append {a : Addr} {xs : List V} {y : V} (h : Has L a (.lst xs)) (z : xs.length < sizeLine) (w : Wr L a (.lst (xs ++ [y])) M) (q : Q .non M) : RE (rAppend (.ref a) [y]) L Q := fun H s Qh k =>
  ⟨a, xs, y, rfl, rfl, h H s, z, k _ _ _ (w H s).2 q⟩
theorem r_popAt {a : Addr} {xs : List V} {i : Int} {j : Nat} {y : V} (h : Has L a (.lst xs)) (b : -(2 ^ 63) ≤ i ∧ i < 2 ^ 63) (e : seqIndex? i xs.length = some j) (ey : xs[j]? = some y) (w : Wr L a (.lst (xs.eraseIdx j)) M) (q : Q y M) :
    RE (rPopAt (.ref a) [.int i]) L Q := fun H s Qh k => ⟨a, xs, i, j, y, rfl, rfl, h H s, b.1, b.2, e, ey, k _ _ _ (w H s).2 q⟩
theorem r_clear {a : Addr} {xs : List V} (h : Has L a (.lst xs)) (w : Wr L a (.lst []) M) (q : Q .non M) : RE (rClear (.ref a) []) L Q := fun H s Qh k => ⟨a, xs, rfl, rfl, h H s, k _ _ _ (w H s).2 q⟩
/-! ### slices -/
theorem o_none {QO : Option Int → AL → Prop} (q : QO none L) : SO tNoPart σ L QO := fun H s Qh k => k _ _ _ s q
theorem o_some {QO : Option Int → AL → Prop} (h : SE te σ L fun x L1 => ∃ i, x = .int i ∧ QO (some i) L1) : SO (tPart te) σ L QO := fun H s Qh k =>
  h H s _ fun x L1 H1 s1 ⟨i, e, q⟩ => ⟨i, e, k _ _ _ s1 q⟩
theorem e_sl {r : V → Option Int → Option Int → Hp → VK → Prop} {tl th : TO} (h : SE te σ L fun x L1 => SO tl σ L1 fun l L2 => SO th σ L2 fun u L3 => RE (r x l u) L3 Q) : SE (tSl r te tl th) σ L Q := fun H s Qh k =>
  h H s _ fun x L1 H1 s1 h1 => h1 H1 s1 _ fun l L2 H2 s2 h2 => h2 H2 s2 _ fun u L3 H3 s3 h3 => h3 H3 s3 Qh k
theorem r_slL {a : Addr} {xs : List V} {lo hi : Option Int} (h : SqA K L a xs) (q : ∀ p, Q (.ref p) (pt p (.lst (cutV xs lo hi)) :: L)) : RE (rSlL K (.ref a) lo hi) L Q := fun H s Qh k =>
  ⟨a, xs, rfl, h H s, fun p hp => k _ _ _ (sep_new s hp) (q p)⟩
/-! ### loops -/
theorem s_forL {tl : TE} {j : Nat} (h : SE tl σ L fun x L1 => ∃ a xs, x = .ref a ∧ SqA K L1 a xs ∧ ∃ Pv : Nat → L2.St → AL → Prop, Pv 0 σ L1 ∧ (∀ i σ L, i ≤ xs.length → Pv i σ L → SqA K L a xs) ∧
      (∀ i x σ L, xs[i]? = some x → Pv i σ L → SS t { D with nx := Pv (i + 1), ct := Pv (i + 1), bk := D.nx } (σ.set j (some x)) L) ∧ ∀ σ L, Pv xs.length σ L → D.nx σ L) : SS (tFor (iList K tl) (gName j) t) D σ L := fun H s E le =>
  h H s _ fun x L1 H1 s1 ⟨a, xs, e, hq, Pv, h0, hl, hs, hd⟩ => ⟨a, e, ⟨xs, hq H1 s1⟩, for_list (K := K) (a := a) (xs := xs) (fun i σ H => ∃ L, Sep L H ∧ Pv i σ L) ⟨L1, s1, h0⟩ (fun i σ H hi ⟨L, s, p⟩ => hl i σ L hi p H s)
    (fun i x σ H hx ⟨L, s, p⟩ => hs i x σ L hx p H s _ ⟨fun σ L H s q => ⟨L, s, q⟩, le.rt, fun σ L H s q => le.nx σ L H s q, fun σ L H s q => ⟨L, s, q⟩⟩) fun σ H ⟨L, s, p⟩ => le.nx _ _ _ s (hd σ L p)⟩
theorem s_forT {tl : TE} {j : Nat} (h : SE tl σ L fun x L1 => ∃ a xs, x = .ref a ∧ TqA K L1 a xs ∧ ∃ Pv : Nat → L2.St → AL → Prop, Pv 0 σ L1 ∧ (∀ i σ L, i ≤ xs.length → Pv i σ L → TqA K L a xs) ∧
      (∀ i x σ L, xs[i]? = some x → Pv i σ L → SS t { D with nx := Pv (i + 1), ct := Pv (i + 1), bk := D.nx } (σ.set j (some x)) L) ∧ ∀ σ L, Pv xs.length σ L → D.nx σ L) : SS (tFor (iTup K tl) (gName j) t) D σ L := fun H s E le =>
  h H s _ fun x L1 H1 s1 ⟨a, xs, e, hq, Pv, h0, hl, hs, hd⟩ => ⟨a, e, ⟨xs, hq H1 s1⟩, for_tup (K := K) (a := a) (xs := xs) (fun i σ H => ∃ L, Sep L H ∧ Pv i σ L) ⟨L1, s1, h0⟩ (fun i σ H hi ⟨L, s, p⟩ => hl i σ L hi p H s)
    (fun i x σ H hx ⟨L, s, p⟩ => hs i x σ L hx p H s _ ⟨fun σ L H s q => ⟨L, s, q⟩, le.rt, fun σ L H s q => le.nx σ L H s q, fun σ L H s q => ⟨L, s, q⟩⟩) fun σ H ⟨L, s, p⟩ => le.nx _ _ _ s (hd σ L p)⟩
/-- over range(n); hi: the ints of the turns -/
theorem s_forR1 {tr : TA} {j : Nat} (h : SA tr σ L fun vs L1 => ∃ n : Int, vs = [.int n] ∧ -(2 ^ 62) ≤ n ∧ n < 2 ^ 62 ∧ ∃ Pv : Nat → L2.St → AL → Prop, Pv 0 σ L1 ∧
      (∀ (i : Nat) σ L, (i : Int) < n → Pv i σ L → SS t { D with nx := Pv (i + 1), ct := Pv (i + 1), bk := D.nx } (σ.set j (some (.int (i : Int)))) L) ∧ ∀ σ L, Pv n.toNat σ L → D.nx σ L) : SS (tFor (iRng1 tr) (gName j) t) D σ L := fun H s E le =>
  h H s _ fun vs L1 H1 s1 ⟨n, e, b1, b2, Pv, h0, hs, hd⟩ => ⟨n, e, b1, b2, for_range (lo := 0) (n := n.toNat) (fun i σ H => ∃ L, Sep L H ∧ Pv i σ L) ⟨L1, s1, h0⟩
    (fun i σ H hi ⟨L, s, p⟩ => by
      have e0 : (0 : Int) + (i : Int) = (i : Int) := Int.zero_add _
      rw [e0]
      exact hs i σ L (by omega) p H s _ ⟨fun σ L H s q => ⟨L, s, q⟩, le.rt, fun σ L H s q => le.nx σ L H s q, fun σ L H s q => ⟨L, s, q⟩⟩) fun σ H ⟨L, s, p⟩ => le.nx _ _ _ s (hd σ L p)⟩
theorem s_forR2 {tr : TA} {j : Nat} (h : SA tr σ L fun vs L1 => ∃ lo n : Int, vs = [.int lo, .int n] ∧ (-(2 ^ 62) ≤ lo ∧ lo < 2 ^ 62 ∧ -(2 ^ 62) ≤ n ∧ n < 2 ^ 62) ∧ ∃ Pv : Nat → L2.St → AL → Prop, Pv 0 σ L1 ∧
      (∀ (i : Nat) σ L, lo + (i : Int) < n → Pv i σ L → SS t { D with nx := Pv (i + 1), ct := Pv (i + 1), bk := D.nx } (σ.set j (some (.int (lo + (i : Int))))) L) ∧ ∀ σ L, Pv (n - lo).toNat σ L → D.nx σ L) : SS (tFor (iRng2 tr) (gName j) t) D σ L := fun H s E le =>
  h H s _ fun vs L1 H1 s1 ⟨lo, n, e, b, Pv, h0, hs, hd⟩ => ⟨lo, n, e, b, for_range (lo := lo) (n := (n - lo).toNat) (fun i σ H => ∃ L, Sep L H ∧ Pv i σ L) ⟨L1, s1, h0⟩
    (fun i σ H hi ⟨L, s, p⟩ => hs i σ L (by omega) p H s _ ⟨fun σ L H s q => ⟨L, s, q⟩, le.rt, fun σ L H s q => le.nx σ L H s q, fun σ L H s q => ⟨L, s, q⟩⟩) fun σ H ⟨L, s, p⟩ => le.nx _ _ _ s (hd σ L p)⟩
theorem s_forS {ts : TE} {j : Nat} (h : SE ts σ L fun x L1 => ∃ z : Str, x = .str z ∧ ∃ Pv : Nat → L2.St → AL → Prop, Pv 0 σ L1 ∧
      (∀ i c σ L, z.cps[i]? = some c → Pv i σ L → SS t { D with nx := Pv (i + 1), ct := Pv (i + 1), bk := D.nx } (σ.set j (some (.str ⟨#[c]⟩))) L) ∧ ∀ σ L, Pv z.cps.size σ L → D.nx σ L) : SS (tFor (iStr ts) (gName j) t) D σ L := fun H s E le =>
  h H s _ fun x L1 H1 s1 ⟨z, e, Pv, h0, hs, hd⟩ => ⟨z, e, fun i m σ H => m = z.cps.size - i ∧ i ≤ z.cps.size ∧ ∃ L, Sep L H ∧ Pv i σ L, ⟨z.cps.size, rfl, Nat.zero_le _, L1, s1, h0⟩, by
    rintro i m σ H ⟨rfl, hi, L, s, p⟩
    by_cases hlt : i < z.cps.size
    · refine .inr ⟨hlt, fun σ H => ∃ L, Sep L H ∧ Pv (i + 1) σ L, fun σ' H' p' => ⟨z.cps.size - (i + 1), by omega, rfl, hlt, p'⟩, fun x H' y => ?_⟩
      obtain ⟨e1, c, hc, e2⟩ := y
      subst e1 e2
      exact hs i c σ L hc p _ s _ ⟨fun σ L H s q => ⟨L, s, q⟩, le.rt, fun σ L H s q => le.nx σ L H s q, fun σ L H s q => ⟨L, s, q⟩⟩
    · have e : i = z.cps.size := by omega
      subst e
      exact .inl ⟨Nat.le_refl _, le.nx _ _ _ s (hd σ L p)⟩⟩
/-- while, by a word and its measure -/
theorem s_while (W : Nat → L2.St → AL → Prop) (h0 : ∃ m, W m σ L)
    (hs : ∀ m σ L, W m σ L → ST tt σ L fun b L1 => (b = true → SS t { D with nx := fun σ L => ∃ m', m' < m ∧ W m' σ L, ct := fun σ L => ∃ m', m' < m ∧ W m' σ L, bk := D.nx } σ L1) ∧ (b = false → D.nx σ L1)) : SS (tWhile tt t) D σ L := fun H s E le =>
  ⟨fun m σ H => ∃ L, Sep L H ∧ W m σ L, h0.elim fun m w => ⟨m, L, s, w⟩, fun m σ H ⟨L, s, w⟩ => hs m σ L w H s _ fun b L1 H1 s1 ⟨ht, hf⟩ => by
    cases b with
    | true =>
      rw [if_pos rfl]
      exact ⟨fun σ H => ∃ m' L, m' < m ∧ Sep L H ∧ W m' σ L, fun σ' H' ⟨m', L, l, s, w⟩ => ⟨m', l, L, s, w⟩, ht rfl H1 s1 _ ⟨fun σ L H s ⟨m', l, w⟩ => ⟨m', L, l, s, w⟩, le.rt, fun σ L H s q => le.nx σ L H s q, fun σ L H s ⟨m', l, w⟩ => ⟨m', L, l, s, w⟩⟩⟩
    | false => rw [if_neg Bool.false_ne_true]; exact le.nx _ _ _ s1 (hf rfl)⟩
/-- a cut between two statements -/
theorem s_cut {t u : TS} {Mid : L2.St → AL → Prop} (h : SS t { D with nx := Mid } σ L) (k : ∀ σ L, Mid σ L → SS u D σ L) : SS (tSeq t u) D σ L :=
  s_seq (s_mono h (fun σ L q => k σ L q) (fun _ _ q => q) (fun _ _ q => q) fun _ _ q => q)
/-! ### comprehensions: Pv: behind i turns, what the new list holds, and the rest -/
theorem e_lcL {tl : TE} {j : Nat} {vs : List Nat} (h : SE tl σ L fun x L1 => ∃ a xs, x = .ref a ∧ SqA K L1 a xs ∧ (∀ x, wipe ((wipe σ vs).set j (some x)) vs = wipe σ vs) ∧ ∃ Pv : Nat → List V → AL → Prop, Pv 0 [] L1 ∧ (∀ i acc L, i ≤ xs.length → Pv i acc L → SqA K L a xs) ∧
      (∀ i x acc L (d : Addr), xs[i]? = some x → Pv i acc L → ST tt ((wipe σ vs).set j (some x)) (pt d (.lst acc) :: L) fun b L2 =>
        (b = true → SE te ((wipe σ vs).set j (some x)) L2 fun y L3 => ∃ L4, Ent L3 (pt d (.lst acc) :: L4) ∧ acc.length < sizeLine ∧ Pv (i + 1) (acc ++ [y]) L4) ∧ (b = false → ∃ L4, Ent L2 (pt d (.lst acc) :: L4) ∧ Pv (i + 1) acc L4)) ∧
      ∀ acc L d, Pv xs.length acc L → Q (.ref d) (pt d (.lst acc) :: L)) : SE (tLc (iList K tl) (gName j) tt te vs) σ L Q := fun H s Qh k =>
  h H s _ fun x L1 H1 s1 ⟨a, xs, e, hq, hw, Pv, h0, hl, hs, hd⟩ => ⟨a, e, ⟨xs, hq H1 s1⟩, fun d hD => lc_list (K := K) (a := a) (xs := xs) (fun i H => ∃ acc L, Sep (pt d (.lst acc) :: L) H ∧ Pv i acc L) ⟨[], L1, sep_new s1 hD, h0⟩
    (fun i H hi ⟨acc, L, s, p⟩ => hl i acc L hi p H s.tail)
    (fun i x H hx ⟨acc, L, s, p⟩ => ⟨hw x, hs i x acc L d hx p H s _ fun b L2 H2 s2 ⟨ht, hf⟩ => by
      cases b with
      | true =>
        rw [if_pos rfl]
        refine ht rfl H2 s2 _ fun y L3 H3 s3 ⟨L4, en, z, p4⟩ => ?_
        have s4 := en H3 s3
        exact ⟨acc, has_hd H3 s4, z, acc ++ [y], L4, (wr_hd H3 s4).2, p4⟩
      | false =>
        rw [if_neg Bool.false_ne_true]
        obtain ⟨L4, en, p4⟩ := hf rfl
        exact ⟨acc, L4, en H2 s2, p4⟩⟩)
    fun H ⟨acc, L, s, p⟩ => k _ _ _ s (hd acc L d p)⟩
theorem e_lcR1 {tr : TA} {j : Nat} {vs : List Nat} (h : SA tr σ L fun us L1 => ∃ n : Int, us = [.int n] ∧ -(2 ^ 62) ≤ n ∧ n < 2 ^ 62 ∧ (∀ x, wipe ((wipe σ vs).set j (some x)) vs = wipe σ vs) ∧ ∃ Pv : Nat → List V → AL → Prop, Pv 0 [] L1 ∧
      (∀ (i : Nat) acc L (d : Addr), (i : Int) < n → Pv i acc L → ST tt ((wipe σ vs).set j (some (.int (i : Int)))) (pt d (.lst acc) :: L) fun b L2 =>
        (b = true → SE te ((wipe σ vs).set j (some (.int (i : Int)))) L2 fun y L3 => ∃ L4, Ent L3 (pt d (.lst acc) :: L4) ∧ acc.length < sizeLine ∧ Pv (i + 1) (acc ++ [y]) L4) ∧ (b = false → ∃ L4, Ent L2 (pt d (.lst acc) :: L4) ∧ Pv (i + 1) acc L4)) ∧
      ∀ acc L d, Pv n.toNat acc L → Q (.ref d) (pt d (.lst acc) :: L)) : SE (tLc (iRng1 tr) (gName j) tt te vs) σ L Q := fun H s Qh k =>
  h H s _ fun us L1 H1 s1 ⟨n, e, b1, b2, hw, Pv, h0, hs, hd⟩ => ⟨n, e, b1, b2, fun d hD => lc_range (lo := 0) (n := n.toNat) (fun i H => ∃ acc L, Sep (pt d (.lst acc) :: L) H ∧ Pv i acc L) ⟨[], L1, sep_new s1 hD, h0⟩
    (fun i H hi ⟨acc, L, s, p⟩ => by
      have e0 : (0 : Int) + (i : Int) = (i : Int) := Int.zero_add _
      rw [e0]
      exact ⟨hw _, hs i acc L d (by omega) p H s _ fun b L2 H2 s2 ⟨ht, hf⟩ => by
        cases b with
        | true =>
          rw [if_pos rfl]
          refine ht rfl H2 s2 _ fun y L3 H3 s3 ⟨L4, en, z, p4⟩ => ?_
          have s4 := en H3 s3
          exact ⟨acc, has_hd H3 s4, z, acc ++ [y], L4, (wr_hd H3 s4).2, p4⟩
        | false =>
          rw [if_neg Bool.false_ne_true]
          obtain ⟨L4, en, p4⟩ := hf rfl
          exact ⟨acc, L4, en H2 s2, p4⟩⟩)
    fun H ⟨acc, L, s, p⟩ => k _ _ _ s (hd acc L d p)⟩
theorem e_lcR2 {tr : TA} {j : Nat} {vs : List Nat} (h : SA tr σ L fun us L1 => ∃ lo n : Int, us = [.int lo, .int n] ∧ (-(2 ^ 62) ≤ lo ∧ lo < 2 ^ 62 ∧ -(2 ^ 62) ≤ n ∧ n < 2 ^ 62) ∧ (∀ x, wipe ((wipe σ vs).set j (some x)) vs = wipe σ vs) ∧ ∃ Pv : Nat → List V → AL → Prop, Pv 0 [] L1 ∧
      (∀ (i : Nat) acc L (d : Addr), lo + (i : Int) < n → Pv i acc L → ST tt ((wipe σ vs).set j (some (.int (lo + (i : Int))))) (pt d (.lst acc) :: L) fun b L2 =>
        (b = true → SE te ((wipe σ vs).set j (some (.int (lo + (i : Int))))) L2 fun y L3 => ∃ L4, Ent L3 (pt d (.lst acc) :: L4) ∧ acc.length < sizeLine ∧ Pv (i + 1) (acc ++ [y]) L4) ∧ (b = false → ∃ L4, Ent L2 (pt d (.lst acc) :: L4) ∧ Pv (i + 1) acc L4)) ∧
      ∀ acc L d, Pv (n - lo).toNat acc L → Q (.ref d) (pt d (.lst acc) :: L)) : SE (tLc (iRng2 tr) (gName j) tt te vs) σ L Q := fun H s Qh k =>
  h H s _ fun us L1 H1 s1 ⟨lo, n, e, b, hw, Pv, h0, hs, hd⟩ => ⟨lo, n, e, b, fun d hD => lc_range (lo := lo) (n := (n - lo).toNat) (fun i H => ∃ acc L, Sep (pt d (.lst acc) :: L) H ∧ Pv i acc L) ⟨[], L1, sep_new s1 hD, h0⟩
    (fun i H hi ⟨acc, L, s, p⟩ => 
      ⟨hw _, hs i acc L d (by omega) p H s _ fun b L2 H2 s2 ⟨ht, hf⟩ => by
        cases b with
        | true =>
          rw [if_pos rfl]
          refine ht rfl H2 s2 _ fun y L3 H3 s3 ⟨L4, en, z, p4⟩ => ?_
          have s4 := en H3 s3
          exact ⟨acc, has_hd H3 s4, z, acc ++ [y], L4, (wr_hd H3 s4).2, p4⟩
        | false =>
          rw [if_neg Bool.false_ne_true]
          obtain ⟨L4, en, p4⟩ := hf rfl
          exact ⟨acc, L4, en H2 s2, p4⟩⟩)
    fun H ⟨acc, L, s, p⟩ => k _ _ _ s (hd acc L d p)⟩
theorem t_yes (q : QB true L) : ST tYes σ L QB := fun H s Qh k => k _ _ _ s q
end
/-! ### promises -/
abbrev Pm := List V → AL → (V → AL → Prop) → (Value → AL → Prop) → Prop
def lift (P : Pm) : Sp := fun vs H Q E => ∃ L Qa Ea, Sep L H ∧ P vs L Qa Ea ∧ (∀ v L' H', Sep L' H' → Qa v L' → Q v H') ∧ ∀ c L' H', Sep L' H' → Ea c L' → E c none H'
/-- how an exception that is wished for by lists of assertions is wished for -/
def ELe (Ea : Value → AL → Prop) (E : XK) : Prop := ∀ c L H, Sep L H → Ea c L → E c none H
section
variable {K : PySem.W.Frag} {σ : L2.St} {L M : AL} {te ta tb tv : TE} {Q : V → AL → Prop} {P : Pm} {tr : TA} {E : XK} {Ea : Value → AL → Prop}
theorem lift_body {t : TS} {H : Hp} {vs : List V} {Qh : VK} {σ : L2.St} (h : lift P vs H Qh E) (b : ∀ L Qa Ea, ELe Ea E → P vs L Qa Ea → SS t { nx := fun _ L => Qa .non L, rt := Qa } σ L) : t { nx := fun _ H' => Qh .non H', rt := Qh } σ H := by
  obtain ⟨L, Qa, Ea, s, p, kq, ke⟩ := h
  exact b L Qa Ea ke p H s _ ⟨fun σ L H s q => kq _ _ _ s q, fun v L H s q => kq _ _ _ s q, fun _ _ _ _ q => q.elim, fun _ _ _ _ q => q.elim⟩
theorem e_call (h : SA tr σ L fun vs L1 => ∃ L2, Ent L1 L2 ∧ P vs L2 Q fun _ _ => False) : SE (tCall (lift P) [] E0 tr) σ L Q := fun H s Qh k =>
  h H s _ fun vs L1 H1 s1 ⟨L2, en, p⟩ => ⟨L2, Q, fun _ _ => False, en H1 s1, by rw [List.append_nil]; exact p, k, fun _ _ _ _ q => q.elim⟩
theorem e_callE (he : ELe Ea E) (h : SA tr σ L fun vs L1 => ∃ L2, Ent L1 L2 ∧ P vs L2 Q Ea) : SE (tCall (lift P) [] E tr) σ L Q := fun H s Qh k =>
  h H s _ fun vs L1 H1 s1 ⟨L2, en, p⟩ => ⟨L2, Q, Ea, en H1 s1, by rw [List.append_nil]; exact p, k, he⟩
theorem e_meth {C : Addr} {m : Str} (h : SE ta σ L fun x L1 => ∃ a dx fs, x = .ref a ∧ Has L1 a (.ins C dx fs) ∧ fs.lookup m = none ∧ SA tr σ L1 fun vs L2 => ∃ L3, Ent L2 L3 ∧ P (x :: vs) L3 Q fun _ _ => False) : SE (tMeth C m (lift P) [] E0 ta tr) σ L Q := fun H s Qh k =>
  h H s _ fun x L1 H1 s1 ⟨a, dx, fs, e, hh, l, h1⟩ => ⟨a, dx, fs, e, hh H1 s1, l, h1 H1 s1 _ fun vs L2 H2 s2 ⟨L3, en, p⟩ => ⟨L3, Q, fun _ _ => False, en H2 s2, by rw [List.append_nil]; exact p, k, fun _ _ _ _ q => q.elim⟩⟩
theorem e_methE {C : Addr} {m : Str} (he : ELe Ea E) (h : SE ta σ L fun x L1 => ∃ a dx fs, x = .ref a ∧ Has L1 a (.ins C dx fs) ∧ fs.lookup m = none ∧ SA tr σ L1 fun vs L2 => ∃ L3, Ent L2 L3 ∧ P (x :: vs) L3 Q Ea) : SE (tMeth C m (lift P) [] E ta tr) σ L Q := fun H s Qh k =>
  h H s _ fun x L1 H1 s1 ⟨a, dx, fs, e, hh, l, h1⟩ => ⟨a, dx, fs, e, hh H1 s1, l, h1 H1 s1 _ fun vs L2 H2 s2 ⟨L3, en, p⟩ => ⟨L3, Q, Ea, en H2 s2, by rw [List.append_nil]; exact p, k, he⟩⟩
theorem e_make {C : Addr} (he : ELe Ea E) (h : SA tr σ L fun vs L1 => ∀ p dx, ∃ L2, Ent (pt p (.ins C dx []) :: L1) L2 ∧ P (.ref p :: vs) L2 (fun v L3 => v = .non ∧ Q (.ref p) L3) Ea) : SE (tMake C (lift P) [] E tr) σ L Q := fun H s Qh k =>
  h H s _ fun vs L1 H1 s1 h1 => fun x dx hx hdx ne => by
    obtain ⟨L2, en, p⟩ := h1 x dx
    have s2 : Sep (pt x (.ins C dx []) :: L1) (upd (upd H1 dx (.own x)) x (.ins C dx [])) := sep_new ((s1.mono (fun b o e => by rw [upd_ne (ne_of_none e hdx)]; exact e))) (by rw [upd_ne ne.symm]; exact hx)
    exact ⟨L2, fun v L3 => v = .non ∧ Q (.ref x) L3, Ea, en _ s2, by rw [List.append_nil]; exact p, fun v L3 H3 s3 q => ⟨q.1, k _ _ _ s3 q.2⟩, he⟩
def tRaiseC (C : Addr) (E : XK) : TS := fun _ _ H => E (.ref C) none H
theorem s_raise {C : Addr} {D : EA} (he : ELe Ea E) (q : Ea (.ref C) L) : SS (tRaiseC C E) D σ L := fun H s _ _ => he _ _ _ s q
theorem ele0 : ELe (fun _ _ => False) E := fun _ _ _ _ q => q.elim
end
end Mp
/-! What gen.py's text uses: operators by values, promises by the number of arguments, the class Heap, the law's own promise. -/
namespace Mp
open PySem L2 PyProof.Rows
abbrev rAddI : R2 := rI0 fun i j => .int (i + j)
abbrev rSubI : R2 := rI0 fun i j => .int (i - j)
abbrev rMulI : R2 := rI CMul fun i j => .int (i * j)
abbrev rDivI : R2 := rI CDiv fun i j => .int (i / j)
abbrev rModI : R2 := rI (fun _ j => 0 < j) fun i j => .int (i % j)
abbrev rPowI : R2 := rI CPow fun i j => .int (i ^ j.toNat)
abbrev rLtI : R2 := rI0 fun i j => .bl (decide (i < j))
abbrev rLeI : R2 := rI0 fun i j => .bl (decide (i ≤ j))
abbrev rGtI : R2 := rI0 fun i j => .bl (decide (j < i))
abbrev rGeI : R2 := rI0 fun i j => .bl (decide (j ≤ i))
abbrev rNegI : V → Hp → VK → Prop := rU fun i => .int (-i)
abbrev rAddStr : R2 := fun x y H Q => ∃ i j, x = .str i ∧ y = .str j ∧ i.length + j.length ≤ sizeLine ∧ Q (.str (i ++ j)) H
theorem r_neg {L : AL} {Q : V → AL → Prop} {i : Int} (q : Q (.int (-i)) L) : RE (rNegI (.int i)) L Q := fun H s Qh k => ⟨i, rfl, k _ _ _ s q⟩
theorem get_list {X : Cx} : PGet X (rIxL X.K) := by
  intro pins s σ H x y v u Q I rx ry h
  obtain ⟨p, xs, i, z, rfl, rfl, hq, he, q⟩ := h
  cases rx
  obtain ⟨t, rfl⟩ := ry
  obtain ⟨its, r, pl, hz⟩ := I.list hq
  obtain ⟨j, h1, h2, h3, h4, h5⟩ := atI_get he
  obtain ⟨w, ew, rw'⟩ := r.get h2
  have hl := r.length
  have hn := line63
  have fin : EP X pins σ Q w s := ⟨z, H, I, rw', q⟩
  by_cases h0 : 0 ≤ i
  · have hj : i.toNat = j := by
      rw [seqIndex_of h0 h5] at h1
      exact Option.some.inj h1
    exact wpAny_getItem_list pl.isList h0 (by omega) (by rw [hj]; simpa using ew) fin
  · have hj : (i + (its.toArray.size : Int)).toNat = j := by
      rw [seqIndex_neg (by omega) h4] at h1
      rw [List.size_toArray, ← hl]
      exact Option.some.inj h1
    exact wpAny_getItem_list_neg pl.isList (by omega) (by rw [List.size_toArray] <;> omega) (by omega) (by rw [hj]; simpa using ew) fin
section
variable {K : PySem.W.Frag} {σ : L2.St} {L : AL} {Q : V → AL → Prop} {QS : AL → Prop} {ta tv : TE} {D : EA}
theorem s_augL {to ti te : TE} (h : SE to σ L fun o L1 => SE ti σ L1 fun i L2 => ∃ x, RE (rIxL K o i) L2 fun v L3 => v = .int x ∧ SE te σ L3 fun y L4 => ∃ j, y = .int j ∧ RS (rSetL o i (.int (x + j))) L4 fun L5 => D.nx σ L5) :
    SS (tAugS to ti te (rIxL K) (ipI fun i j => i + j) rSetL) D σ L := fun H s E le =>
  h H s _ fun o L1 H1 s1 h1 => h1 H1 s1 _ fun i L2 H2 s2 ⟨x, h2⟩ => h2 H2 s2 _ fun v L3 H3 s3 ⟨e, h3⟩ => h3 H3 s3 _ fun y L4 H4 s4 ⟨j, ej, h4⟩ => ⟨x, j, e, ej, h4 H4 s4 _ fun L5 H5 s5 q => le.nx _ _ _ s5 q⟩
theorem s_fldaug {f : Str} (h : SE ta σ L fun x L1 => ∃ a C dx fs i, x = .ref a ∧ Has L1 a (.ins C dx fs) ∧ Cls K C ∧ NoAttr K C f ∧ fs.lookup f = some (.int i) ∧ SE tv σ L1 fun y L2 => ∃ j dx' fs' M, y = .int j ∧ Has L2 a (.ins C dx' fs') ∧ fs'.length < 1000 ∧ Wr L2 a (.ins C dx' (putF f (.int (i + j)) fs')) M ∧ D.nx σ M) :
    SS (sFldAug K ta tv L2.rAdd f) D σ L := fun H s E le =>
  h H s _ fun x L1 H1 s1 ⟨a, C, dx, fs, i, e, hh, c, n, l, h1⟩ => ⟨a, C, dx, fs, .int i, e, hh H1 s1, c, n, l, h1 H1 s1 _ fun y L2 H2 s2 ⟨j, dx', fs', M, ey, hh2, z, w, q⟩ => ⟨i, j, rfl, ey, dx', fs', hh2 H2 s2, z, le.nx _ _ _ (w H2 s2).2 q⟩⟩
theorem r_listD {a : Addr} {kvs : List (Key × V)} (h : Has L a (.dK kvs)) (q : ∀ p, Q (.ref p) (pt p (.lst (kvs.map fun kv => kV kv.1)) :: L)) : RE (rListD [.ref a]) L Q := fun H s Qh k =>
  ⟨a, kvs, rfl, h H s, fun p hp => k _ _ _ (sep_new s hp) (q p)⟩
theorem c_lenD {a : Addr} {kvs : List (Key × V)} (h : Has L a (.dK kvs)) (q : Q (.int kvs.length) L) : RE (rLenD [.ref a]) L Q := fun H s Qh k => ⟨a, kvs, rfl, h H s, k _ _ _ s q⟩
end
/-! ### promises by the number of arguments -/
def pm1 (B : V → AL → (V → AL → Prop) → (Value → AL → Prop) → Prop) : Pm := fun vs L Q E => ∃ x, vs = [x] ∧ B x L Q E
def pm2 (B : V → V → AL → (V → AL → Prop) → (Value → AL → Prop) → Prop) : Pm := fun vs L Q E => ∃ x y, vs = [x, y] ∧ B x y L Q E
def pm3 (B : V → V → V → AL → (V → AL → Prop) → (Value → AL → Prop) → Prop) : Pm := fun vs L Q E => ∃ x y z, vs = [x, y, z] ∧ B x y z L Q E
def pm4 (B : V → V → V → V → AL → (V → AL → Prop) → (Value → AL → Prop) → Prop) : Pm := fun vs L Q E => ∃ x y z u, vs = [x, y, z, u] ∧ B x y z u L Q E
def pm5 (B : V → V → V → V → V → AL → (V → AL → Prop) → (Value → AL → Prop) → Prop) : Pm := fun vs L Q E => ∃ x y z u v, vs = [x, y, z, u, v] ∧ B x y z u v L Q E
def pm6 (B : V → V → V → V → V → V → AL → (V → AL → Prop) → (Value → AL → Prop) → Prop) : Pm := fun vs L Q E => ∃ x y z u v w, vs = [x, y, z, u, v, w] ∧ B x y z u v w L Q E
theorem pm1_len {B} {vs : List V} {L Q E} (h : pm1 B vs L Q E) : vs.length = 1 := by obtain ⟨_, rfl, _⟩ := h; rfl
theorem pm2_len {B} {vs : List V} {L Q E} (h : pm2 B vs L Q E) : vs.length = 2 := by obtain ⟨_, _, rfl, _⟩ := h; rfl
theorem pm3_len {B} {vs : List V} {L Q E} (h : pm3 B vs L Q E) : vs.length = 3 := by obtain ⟨_, _, _, rfl, _⟩ := h; rfl
theorem pm4_len {B} {vs : List V} {L Q E} (h : pm4 B vs L Q E) : vs.length = 4 := by obtain ⟨_, _, _, _, rfl, _⟩ := h; rfl
theorem pm5_len {B} {vs : List V} {L Q E} (h : pm5 B vs L Q E) : vs.length = 5 := by obtain ⟨_, _, _, _, _, rfl, _⟩ := h; rfl
theorem pm6_len {B} {vs : List V} {L Q E} (h : pm6 B vs L Q E) : vs.length = 6 := by obtain ⟨_, _, _, _, _, _, rfl, _⟩ := h; rfl
theorem lift_len {P : Pm} {n : Nat} (h : ∀ {vs : List V} {L Q E}, P vs L Q E → vs.length = n) : ∀ vs H Q E, lift P vs H Q E → vs.length = n := fun _ _ _ _ ⟨_, _, _, _, p, _⟩ => h p
/-! ### the classes -/
structure Ex where
  Heap : Addr
  HeapError : Addr
  NoHand : Addr
  NoSlot : Addr
  NoRoom : Addr
  NothingHeld : Addr
  NoBox : Addr
  NoWork : Addr
  NoHeap : Addr
  NoDeed : Addr
def Ex0 : Ex := ⟨0, 0, 0, 0, 0, 0, 0, 0, 0, 0⟩
structure HT (K : PySem.W.Frag) (A : Ex) : Prop where
  cl : Cls K A.Heap
  n_hands : NoAttr K A.Heap "hands"
  n_room : NoAttr K A.Heap "room"
  n_slots : NoAttr K A.Heap "slots"
  n_made : NoAttr K A.Heap "made"
  n_ended : NoAttr K A.Heap "ended"
  n_stage : NoAttr K A.Heap "stage"
  n_old : NoAttr K A.Heap "old"
  n_begun : NoAttr K A.Heap "begun"
  n_seen : NoAttr K A.Heap "seen"
  n_row : NoAttr K A.Heap "row"
  n_looked : NoAttr K A.Heap "looked"
  n_swept : NoAttr K A.Heap "swept"
/-! ### the script, and what the law promises -/
def Scr (K : PySem.W.Frag) (a : Addr) (ns : List Int) : Asn := fun h => SqL K h a (ns.map V.int)
theorem sq_sub {K : PySem.W.Frag} {h H : Hp} {a : Addr} {xs : List V} (s : Sub h H) (q : SqL K h a xs) : SqL K H a xs := Same.seq s q
theorem scr_hd {K : PySem.W.Frag} {a : Addr} {ns : List Int} {L : AL} : SqA K (Scr K a ns :: L) a (ns.map V.int) := fun H ⟨_, _, x, _, _, p, _⟩ => sq_sub x p
theorem sq_tl {K : PySem.W.Frag} {a : Addr} {xs : List V} {A : Asn} {L : AL} (h : SqA K L a xs) : SqA K (A :: L) a xs := fun _ s => h _ s.tail
def P_law (K : PySem.W.Frag) (_ : Ex) : Pm := pm1 fun x L Q _ => ∃ a ns, x = .ref a ∧ L = [Scr K a ns] ∧ ns.length ≤ 63 ∧ ∀ L', Q (.bl true) L'
theorem law_start {K : PySem.W.Frag} {H : Hp} {a : Addr} {ns : List Int} (hl : ns.length ≤ 63) (hS : SqL K H a (ns.map V.int)) : lift (P_law K Ex0) [.ref a] H (fun v _ => v = .bl true) fun _ _ _ => False :=
  ⟨[Scr K a ns], fun v _ => v = .bl true, fun _ _ => False, ⟨H, fun _ => none, Sub.refl _, (fun _ _ e => nomatch e), fun _ => .inr rfl, hS, True.intro⟩, ⟨_, rfl, a, ns, rfl, rfl, hl, fun _ => rfl⟩, fun _ _ _ _ q => q, fun _ _ _ _ q => q⟩
/-! ### isinstance of plain values -/
abbrev nV (n : Nat) : V := .int (n : Int)
abbrev oV : Option Nat → V
  | none => .non
  | some n => nV n
theorem isi_int_int {K : PySem.W.Frag} {L : AL} {Q : V → AL → Prop} {i : Int} (q : Q (.bl true) L) : RE (rIsi K [.int i, .ty "int"]) L Q := c_isi (.ty _) (fun _ _ => .base (.int i)) (kit_ty (by decide +kernel)) q
theorem isi_int_bool {K : PySem.W.Frag} {L : AL} {Q : V → AL → Prop} {i : Int} (q : Q (.bl false) L) : RE (rIsi K [.int i, .ty "bool"]) L Q := c_isi (.ty _) (fun _ _ => .base (.int i)) (kit_ty (by decide +kernel)) q
theorem isi_non_int {K : PySem.W.Frag} {L : AL} {Q : V → AL → Prop} (q : Q (.bl false) L) : RE (rIsi K [.non, .ty "int"]) L Q := c_isi (.ty _) (fun _ _ => .base .non) (kit_ty (by decide +kernel)) q
theorem isi_list {K : PySem.W.Frag} {L : AL} {Q : V → AL → Prop} {a : Addr} {xs : List V} (h : Has L a (.lst xs)) (q : Q (.bl true) L) : RE (rIsi K [.ref a, .ty "list"]) L Q := c_isi (.ty _) (fun H s => .base (.lst (h H s))) (kit_ty (by decide +kernel)) q
theorem isi_str {K : PySem.W.Frag} {L : AL} {Q : V → AL → Prop} {z : Str} (q : Q (.bl true) L) : RE (rIsi K [.str z, .ty "str"]) L Q := c_isi (.ty _) (fun _ _ => .base (.str z)) (kit_ty (by decide +kernel)) q
theorem isi_tup {K : PySem.W.Frag} {L : AL} {Q : V → AL → Prop} {a : Addr} {xs : List V} (h : Has L a (.tup xs)) (q : Q (.bl true) L) : RE (rIsi K [.ref a, .ty "tuple"]) L Q := c_isi (.ty _) (fun H s => .base (.tup (h H s))) (kit_ty (by decide +kernel)) q
theorem oV_flat (o : Option Nat) : flatV (oV o) = true := by cases o <;> rfl
theorem nV_inj {a b : Nat} (h : nV a = nV b) : a = b := by
  have e : (a : Int) = (b : Int) := V.int.inj h
  omega
theorem oV_inj {a b : Option Nat} (h : oV a = oV b) : a = b := by
  cases a with
  | none =>
    cases b with
    | none => rfl
    | some y => cases h
  | some x =>
    cases b with
    | none => cases h
    | some y => rw [nV_inj h]
theorem atI_toNat {xs : List V} {i : Int} {v : V} (h0 : 0 ≤ i) (h : xs[i.toNat]? = some v) : atI xs i = some v := by
  have e : i = ((i.toNat : Nat) : Int) := by omega
  rw [e]; exact atI_nat h
theorem ixN_toNat {n : Nat} {i : Int} (h0 : 0 ≤ i) (h : i < n) : ixN n i = some i.toNat := by
  unfold ixN
  rw [if_pos h0, if_pos h]
theorem ixN_nat {n i : Nat} (h : i < n) : ixN n (i : Int) = some i := by
  rw [ixN_toNat (by omega) (by omega)]; simp
theorem map_oV_some (xs : List Nat) : (xs.map some).map oV = xs.map nV := by rw [List.map_map]; rfl
theorem map_nV_int (xs : List Nat) : xs.map nV = (xs.map fun (n : Nat) => (n : Int)).map V.int := by rw [List.map_map]; rfl
theorem map_oV_inj {xs ys : List (Option Nat)} (h : xs.map oV = ys.map oV) : xs = ys := by
  induction xs generalizing ys with
  | nil => cases ys with
    | nil => rfl
    | cons y ys => cases h
  | cons x xs ih => cases ys with
    | nil => cases h
    | cons y ys =>
      rw [List.map_cons, List.map_cons] at h
      injection h with h1 h2
      rw [oV_inj h1, ih h2]
/-- sorted lists with the same items are the same -/
theorem sorted_same : ∀ {xs ys : List Int}, xs.Perm ys → xs.Pairwise (· ≤ ·) → ys.Pairwise (· ≤ ·) → xs = ys
  | [], ys, p, _, _ => by rw [List.nil_perm.mp p]
  | x :: xs, [], p, _, _ => absurd p.length_eq (by simp)
  | x :: xs, y :: ys, p, hx, hy => by
    have e : x = y := by
      have m1 : x ∈ y :: ys := p.subset List.mem_cons_self
      have m2 : y ∈ x :: xs := p.symm.subset List.mem_cons_self
      have l1 : y ≤ x := by
        rcases List.mem_cons.mp m1 with h | h
        · omega
        · exact (List.pairwise_cons.mp hy).1 x h
      have l2 : x ≤ y := by
        rcases List.mem_cons.mp m2 with h | h
        · omega
        · exact (List.pairwise_cons.mp hx).1 y h
      omega
    subst e
    rw [sorted_same (List.perm_cons x |>.mp p) (List.pairwise_cons.mp hx).2 (List.pairwise_cons.mp hy).2]
theorem c_sortedN {K : PySem.W.Frag} {L : AL} {Q : V → AL → Prop} {a : Addr} {ns T : List Nat} (h : SqA K L a (ns.map nV)) (hp : T.Perm ns) (ht : T.Pairwise (· ≤ ·)) (q : ∀ p, Q (.ref p) (pt p (.lst (T.map nV)) :: L)) : RE (rSortedI K [.ref a]) L Q := by
  rw [map_nV_int] at h
  refine c_sortedI h fun ms p hm hw => ?_
  have e : ms = T.map fun (n : Nat) => (n : Int) := sorted_same (hm.trans (hp.map _).symm) hw (List.pairwise_map.mpr (ht.imp fun h => by omega))
  rw [e, ← map_nV_int]
  exact q p
/-- lists of numbers below n without repetition are not longer than n -/
theorem nodup_bound : ∀ (n : Nat) {xs : List Nat}, xs.Nodup → (∀ x ∈ xs, x < n) → xs.length ≤ n
  | 0, xs, _, h => by
    cases xs with
    | nil => exact Nat.le_refl _
    | cons x xs => exact absurd (h x List.mem_cons_self) (Nat.not_lt_zero _)
  | n + 1, xs, hn, h => by
    have h1 : (xs.filter fun x => decide (x ≠ n)).length ≤ n := nodup_bound n (hn.filter _) fun x hx => by
      obtain ⟨a, b⟩ := List.mem_filter.mp hx
      have c := h x a
      have d : x ≠ n := of_decide_eq_true b
      omega
    have h2 : (xs.filter fun x => !decide (x ≠ n)).length ≤ 1 := by
      have hN : (xs.filter fun x => !decide (x ≠ n)).Nodup := hn.filter _
      have hA : ∀ x ∈ (xs.filter fun x => !decide (x ≠ n)), x = n := fun x hx => by
        obtain ⟨_, b⟩ := List.mem_filter.mp hx
        simpa using b
      match (xs.filter fun x => !decide (x ≠ n)), hN, hA with
      | [], _, _ => exact Nat.zero_le _
      | [a], _, _ => exact Nat.le_refl _
      | a :: b :: r, hN, hA =>
        have ea := hA a (by simp)
        have eb := hA b (by simp)
        have := (List.nodup_cons.mp hN).1
        rw [ea, eb] at this
        simp at this
    have e : ∀ l : List Nat, (l.filter fun x => decide (x ≠ n)).length + (l.filter fun x => !decide (x ≠ n)).length = l.length := by
      intro l
      induction l with
      | nil => rfl
      | cons a l ih =>
        by_cases c : a = n
        · rw [List.filter_cons_of_neg (by simp [c]), List.filter_cons_of_pos (by simp [c])]
          simp only [List.length_cons]; omega
        · rw [List.filter_cons_of_pos (by simp [c]), List.filter_cons_of_neg (by simp [c])]
          simp only [List.length_cons]; omega
    have := e xs
    omega
end Mp
namespace Mp
open PySem L2
theorem both_t {P R : Prop} (p : P) : (true = true → P) ∧ (true = false → R) := ⟨fun _ => p, (fun z => nomatch z)⟩
theorem both_f {P R : Prop} (r : R) : (false = true → P) ∧ (false = false → R) := ⟨(fun z => nomatch z), fun _ => r⟩
theorem ex_t {P R : Prop} (p : P) : ∃ b, V.bl true = V.bl b ∧ (b = true → P) ∧ (b = false → R) := ⟨true, rfl, both_t p⟩
theorem ex_f {P R : Prop} (r : R) : ∃ b, V.bl false = V.bl b ∧ (b = true → P) ∧ (b = false → R) := ⟨false, rfl, both_f r⟩
theorem ex_c {c : Prop} [Decidable c] {P R : Prop} (p : c → P) (r : ¬ c → R) : ∃ b, V.bl (decide c) = V.bl b ∧ (b = true → P) ∧ (b = false → R) := ⟨_, rfl, fun h => p (of_decide_eq_true h), fun h => r (of_decide_eq_false h)⟩
theorem ex_n {c : Prop} [Decidable c] {P R : Prop} (p : ¬ c → P) (r : c → R) : ∃ b, V.bl (!decide c) = V.bl b ∧ (b = true → P) ∧ (b = false → R) := by
  refine ⟨_, rfl, fun h => p ?_, fun h => r ?_⟩
  · intro hc; rw [decide_eq_true hc] at h; cases h
  · apply Decidable.byContradiction; intro hc; rw [decide_eq_false hc] at h; cases h
/-- what is left may be told by a weaker list -/
theorem e_post {te : TE} {σ : L2.St} {L : AL} {Q : V → AL → Prop} (h : SE te σ L fun v L1 => ∃ L2, Ent L1 L2 ∧ Q v L2) : SE te σ L Q := fun H s Qh k => h H s Qh fun v L1 H1 s1 ⟨L2, e, q⟩ => k v L2 H1 (e H1 s1) q
theorem r_post {r : Hp → VK → Prop} {L : AL} {Q : V → AL → Prop} (h : RE r L fun v L1 => ∃ L2, Ent L1 L2 ∧ Q v L2) : RE r L Q := fun H s Qh k => h H s Qh fun v L1 H1 s1 ⟨L2, e, q⟩ => k v L2 H1 (e H1 s1) q
theorem s_postR {te : TE} {D : EA} {σ : L2.St} {L : AL} (h : SE te σ L fun v L1 => ∃ L2, Ent L1 L2 ∧ D.rt v L2) : SS (tRet te) D σ L := s_ret (e_post h)
theorem s_post {t : TS} {D : EA} {σ : L2.St} {L : AL} (h : SS t { D with nx := fun σ L1 => ∃ L2, Ent L1 L2 ∧ D.nx σ L2 } σ L) : SS t D σ L := fun H s E le =>
  h H s E ⟨fun σ L1 H1 s1 ⟨L2, e, q⟩ => le.nx σ L2 H1 (e H1 s1) q, le.rt, le.bk, le.ct⟩
end Mp
/-! Families of cells: lists of lists, dicts of lists. -/
namespace Mp
open PySem L2
section
variable {β : Type} {f : β → HO}
def zc (f : β → HO) (as : List Addr) (bs : List β) : AL := List.zipWith (fun a b => pt a (f b)) as bs
theorem has_app {L R : AL} {a : Addr} {o : HO} (h : Has R a o) : Has (L ++ R) a o := by
  induction L with
  | nil => exact h
  | cons A L ih => exact has_tl ih
theorem wr_app {L R M : AL} {a : Addr} {o : HO} (h : Wr R a o M) : Wr (L ++ R) a o (L ++ M) := by
  induction L with
  | nil => exact h
  | cons A L ih => exact wr_tl ih
theorem zc_has : ∀ {as : List Addr} {bs : List β} {i : Nat} {a : Addr} {b : β} {L : AL}, as[i]? = some a → bs[i]? = some b → Has (zc f as bs ++ L) a (f b)
  | [], _, _, _, _, _, h, _ => by simp at h
  | _ :: _, [], _, _, _, _, _, h => by simp at h
  | a0 :: as, b0 :: bs, 0, a, b, L, h1, h2 => by
    have e1 : a0 = a := Option.some.inj h1
    have e2 : b0 = b := Option.some.inj h2
    subst e1; subst e2
    exact has_hd
  | a0 :: as, b0 :: bs, i + 1, a, b, L, h1, h2 => has_tl (zc_has (as := as) (bs := bs) (i := i) h1 h2)
theorem zc_wr : ∀ {as : List Addr} {bs : List β} {i : Nat} {a : Addr} {b b' : β} {L : AL}, as[i]? = some a → bs[i]? = some b → Wr (zc f as bs ++ L) a (f b') (zc f as (bs.set i b') ++ L)
  | [], _, _, _, _, _, _, h, _ => by simp at h
  | _ :: _, [], _, _, _, _, _, _, h => by simp at h
  | a0 :: as, b0 :: bs, 0, a, b, b', L, h1, h2 => by
    have e1 : a0 = a := Option.some.inj h1
    subst e1
    exact wr_hd
  | a0 :: as, b0 :: bs, i + 1, a, b, b', L, h1, h2 => wr_tl (zc_wr (as := as) (bs := bs) (i := i) h1 h2)
theorem zc_snoc : ∀ {as : List Addr} {bs : List β} {a : Addr} {b : β}, as.length = bs.length → zc f (as ++ [a]) (bs ++ [b]) = zc f as bs ++ [pt a (f b)]
  | [], [], _, _, _ => rfl
  | [], _ :: _, _, _, h => by simp at h
  | _ :: _, [], _, _, h => by simp at h
  | a0 :: as, b0 :: bs, a, b, h => by
    have ih := zc_snoc (as := as) (bs := bs) (a := a) (b := b) (by simpa using h)
    show pt a0 (f b0) :: zc f (as ++ [a]) (bs ++ [b]) = pt a0 (f b0) :: (zc f as bs ++ [pt a (f b)])
    rw [ih]
theorem zc_erase : ∀ {as : List Addr} {bs : List β} {i : Nat} {L : AL}, Ent (zc f as bs ++ L) (zc f (as.eraseIdx i) (bs.eraseIdx i) ++ L)
  | [], bs, i, L => by
    have e : ∀ bs : List β, zc f [] bs = [] := fun bs => by cases bs <;> rfl
    rw [e, List.eraseIdx_nil, e]
    exact Ent.refl _
  | a :: as, [], i, L => by
    have e : ∀ as : List Addr, zc f as ([] : List β) = [] := fun as => by cases as <;> rfl
    rw [e, List.eraseIdx_nil, e]
    exact Ent.refl _
  | a :: as, b :: bs, 0, L => Ent.drop
  | a :: as, b :: bs, i + 1, L => Ent.cons (zc_erase (as := as) (bs := bs) (i := i) (L := L))
end
theorem has_star {Ls R : AL} {a : Addr} {o : HO} (h : Has (Ls ++ R) a o) : Has (Star Ls :: R) a o := h.ent ent_unstar
theorem wr_star {Ls Ms R : AL} {a : Addr} {o : HO} (h : Wr (Ls ++ R) a o (Ms ++ R)) : Wr (Star Ls :: R) a o (Star Ms :: R) := (h.ent ent_unstar).to ent_star
/-! ### a list of lists -/
def fL (r : List (Option Nat)) : HO := .lst (r.map oV)
def RowsA (p : Addr) (as : List Addr) (rows : List (List (Option Nat))) : Asn := Star (pt p (.lst (as.map V.ref)) :: zc fL as rows)
section
variable {p a : Addr} {as : List Addr} {rows : List (List (Option Nat))} {r r' : List (Option Nat)} {i : Nat} {L : AL}
theorem rows_p : Has (RowsA p as rows :: L) p (.lst (as.map V.ref)) := has_star has_hd
theorem rows_i (h1 : as[i]? = some a) (h2 : rows[i]? = some r) : Has (RowsA p as rows :: L) a (.lst (r.map oV)) := has_star (has_tl (zc_has (f := fL) h1 h2))
theorem rows_set (h1 : as[i]? = some a) (h2 : rows[i]? = some r) : Wr (RowsA p as rows :: L) a (.lst (r'.map oV)) (RowsA p as (rows.set i r') :: L) := wr_star (wr_tl (zc_wr (f := fL) h1 h2))
theorem rows_new : Ent (pt p (.lst []) :: L) (RowsA p [] [] :: L) := ent_star (Ls := [pt p (.lst [])])
theorem perm_mid {A : Asn} {L R : AL} : (L ++ A :: R).Perm (A :: (L ++ R)) := List.perm_middle
theorem rows_push (hl : as.length = rows.length) : Wr (RowsA p as rows :: pt a (.lst (r.map oV)) :: L) p (.lst (as.map V.ref ++ [V.ref a])) (RowsA p (as ++ [a]) (rows ++ [r]) :: L) := by
  rw [show as.map V.ref ++ [V.ref a] = (as ++ [a]).map V.ref by rw [List.map_append]; rfl]
  have w : Wr (RowsA p as rows :: pt a (.lst (r.map oV)) :: L) p (.lst ((as ++ [a]).map V.ref)) (pt p (.lst ((as ++ [a]).map V.ref)) :: (zc fL as rows ++ pt a (.lst (r.map oV)) :: L)) := Wr.ent (L' := pt p (.lst (as.map V.ref)) :: (zc fL as rows ++ pt a (.lst (r.map oV)) :: L)) wr_hd ent_unstar
  refine w.to ?_
  have e : pt p (.lst ((as ++ [a]).map V.ref)) :: (zc fL as rows ++ pt a (.lst (r.map oV)) :: L) = (pt p (.lst ((as ++ [a]).map V.ref)) :: zc fL (as ++ [a]) (rows ++ [r])) ++ L := by
    rw [zc_snoc hl]
    simp [fL]
  rw [e]
  exact ent_star
end
/-- a dict whose keys are these numbers -/
def kvT (found : List Nat) : List (Key × V) := found.map fun (n : Nat) => ((Sum.inl (n : Int) : Key), V.bl true)
theorem kvT_some (found : List Nat) (m : Nat) : (valV (kvT found) (Sum.inl (m : Int))).isSome = decide (m ∈ found) := by
  induction found with
  | nil => rfl
  | cons a l ih =>
    by_cases c : a = m
    · subst c
      rw [show kvT (a :: l) = ((Sum.inl (a : Int) : Key), V.bl true) :: kvT l from rfl, valV_pos rfl]
      simp
    · rw [show kvT (a :: l) = ((Sum.inl (a : Int) : Key), V.bl true) :: kvT l from rfl, valV_neg (by intro z; have := Sum.inl.inj z; omega), ih]
      have : (m ∈ a :: l) = (m ∈ l) := by
        simp [show m ≠ a from fun z => c z.symm]
      simp only [this]
theorem kvT_put {found : List Nat} {m : Nat} (h : m ∉ found) : putK (kvT found) (Sum.inl (m : Int)) (.bl true) = kvT (found ++ [m]) := by
  have e : valV (kvT found) (Sum.inl (m : Int)) = none := by
    have := kvT_some found m
    rw [decide_eq_false h] at this
    cases q : valV (kvT found) (Sum.inl (m : Int)) with
    | none => rfl
    | some v => rw [q] at this; cases this
  rw [putK_new _ e]
  unfold kvT
  rw [List.map_append]
  rfl
theorem kvT_len (found : List Nat) : (kvT found).length = found.length := List.length_map _
theorem nd_app {l : List Nat} {a : Nat} (h : l.Nodup) (n : a ∉ l) : (l ++ [a]).Nodup := nd_snoc h n
theorem r_dnotT {L : AL} {Q : V → AL → Prop} {a : Addr} {found : List Nat} {m : Nat} (h : Has L a (.dK (kvT found))) (q : Q (.bl (!decide (m ∈ found))) L) : RE (rDNotIn (.ref a) (nV m)) L Q := r_dnotin (n := (m : Int)) h (by rw [kvT_some]; exact q)
theorem r_dinT {L : AL} {Q : V → AL → Prop} {a : Addr} {found : List Nat} {m : Nat} (h : Has L a (.dK (kvT found))) (q : Q (.bl (decide (m ∈ found))) L) : RE (rDIn (.ref a) (nV m)) L Q := r_din (n := (m : Int)) h (by rw [kvT_some]; exact q)
theorem small5 {n : Nat} (h : n ≤ 200000) : n < sizeLine := Nat.lt_of_le_of_lt h (by decide)
theorem small6 {n : Nat} (h : n ≤ 200000) : n ≤ sizeLine := Nat.le_trans h (by decide)
theorem map_get {α β : Type} {f : α → β} {xs : List α} {i : Nat} {y : β} (h : (xs.map f)[i]? = some y) : ∃ x, xs[i]? = some x ∧ f x = y := by
  rw [List.getElem?_map] at h
  cases e : xs[i]? with
  | none => rw [e] at h; cases h
  | some x => rw [e] at h; exact ⟨x, rfl, Option.some.inj h⟩
theorem map_at {α β : Type} (f : α → β) {xs : List α} {i : Nat} {x : α} (h : xs[i]? = some x) : (xs.map f)[i]? = some (f x) := by rw [List.getElem?_map, h]; rfl
theorem take_snoc {α : Type} {xs : List α} {i : Nat} {x : α} (h : xs[i]? = some x) : xs.take (i + 1) = xs.take i ++ [x] := by rw [List.take_add_one, h]; rfl
theorem SqA.ent {K : PySem.W.Frag} {L M : AL} {a : Addr} {xs : List V} (h : SqA K M a xs) (e : Ent L M) : SqA K L a xs := fun H s => h H (e H s)
theorem SqA.app {K : PySem.W.Frag} {L R : AL} {a : Addr} {xs : List V} (h : SqA K R a xs) : SqA K (L ++ R) a xs := by
  induction L with
  | nil => exact h
  | cons A L ih => exact sq_tl ih
theorem ent_app {L R : AL} : Ent (L ++ R) R := by
  induction L with
  | nil => exact Ent.refl _
  | cons A L ih => exact Ent.drop.trans ih
theorem ent_snoc {β : Type} {f : β → HO} {as : List Addr} {bs : List β} {a : Addr} {b : β} {L : AL} (h : as.length = bs.length) : Ent (pt a (f b) :: (zc f as bs ++ L)) (zc f (as ++ [a]) (bs ++ [b]) ++ L) := by
  rw [zc_snoc h, List.append_assoc]
  exact ent_perm List.perm_middle.symm
section
variable {K : PySem.W.Frag} {σ : L2.St} {L : AL} {te : TE} {Q : V → AL → Prop}
/-- a comprehension over range(n) whose items are new lists -/
theorem e_lcRowsR {tr : TA} {j : Nat} {vs : List Nat} (n : Nat) (f : Nat → List (Option Nat)) (hn : n ≤ 100000) (hw : ∀ x, wipe ((wipe σ vs).set j (some x)) vs = wipe σ vs) (h : SA tr σ L fun us L1 => us = [nV n] ∧ L1 = L)
    (hs : ∀ i, i < n → ∀ L', Ent L' L → SE te ((wipe σ vs).set j (some (nV i))) L' fun y L3 => ∃ a, y = .ref a ∧ L3 = pt a (fL (f i)) :: L')
    (hq : ∀ d as, as.length = n → Q (.ref d) (RowsA d as ((List.range n).map f) :: L)) : SE (tLc (iRng1 tr) (gName j) tYes te vs) σ L Q := by
  refine e_post (e_lcR1 (Q := fun v L1 => ∃ L2, Ent L1 L2 ∧ Q v L2) fun H s Qh k => h H s _ fun us L1 H1 s1 ⟨e1, e2⟩ => k _ _ _ s1 ⟨(n : Int), e1, by omega, by omega, hw, ?_⟩)
  subst e2
  refine ⟨fun i acc L' => ∃ as, acc = as.map V.ref ∧ as.length = i ∧ L' = zc fL as ((List.range i).map f) ++ L1, ⟨[], rfl, rfl, rfl⟩, ?_, ?_⟩
  · rintro i acc L' d hi ⟨as, rfl, hl, rfl⟩
    refine t_yes ⟨fun _ => ?_, (fun z => nomatch z)⟩
    refine e_mono (hs i (by omega) _ (Ent.drop.trans ent_app)) ?_
    rintro _ _ ⟨a, rfl, rfl⟩
    refine ⟨zc fL (as ++ [a]) ((List.range (i + 1)).map f) ++ L1, ?_, small5 (by rw [List.length_map]; omega), as ++ [a], by rw [List.map_append]; rfl, by rw [List.length_append, hl]; rfl, rfl⟩
    rw [List.range_succ, List.map_append]
    exact ent_swap.trans (Ent.cons (ent_snoc (by rw [List.length_map, List.length_range]; exact hl)))
  · rintro acc L' d ⟨as, rfl, hl, rfl⟩
    have e : ((n : Int)).toNat = n := by omega
    rw [e] at hl ⊢
    exact ⟨_, ent_star (Ls := pt d (.lst (as.map V.ref)) :: zc fL as ((List.range n).map f)), hq d as hl⟩
/-- a comprehension over a list whose items are new lists -/
theorem e_lcRowsL {tl : TE} {j : Nat} {vs : List Nat} {a0 : Addr} {xs : List V} (rows : List (List (Option Nat))) (hlen : rows.length = xs.length) (hn : xs.length ≤ 100000) (hw : ∀ x, wipe ((wipe σ vs).set j (some x)) vs = wipe σ vs) (h : SE tl σ L fun x L1 => x = .ref a0 ∧ L1 = L) (hsq : SqA K L a0 xs)
    (hs : ∀ (i : Nat) (x : V) (r : List (Option Nat)), xs[i]? = some x → rows[i]? = some r → ∀ L', Ent L' L → SE te ((wipe σ vs).set j (some x)) L' fun y L3 => ∃ a, y = .ref a ∧ L3 = pt a (fL r) :: L')
    (hq : ∀ d as, as.length = rows.length → Q (.ref d) (RowsA d as rows :: L)) : SE (tLc (iList K tl) (gName j) tYes te vs) σ L Q := by
  refine e_post (e_lcL (Q := fun v L1 => ∃ L2, Ent L1 L2 ∧ Q v L2) fun H s Qh k => h H s _ fun us L1 H1 s1 ⟨e1, e2⟩ => k _ _ _ s1 ⟨a0, xs, e1, by rw [e2]; exact hsq, hw, ?_⟩)
  subst e2
  refine ⟨fun i acc L' => ∃ as, acc = as.map V.ref ∧ as.length = i ∧ L' = zc fL as (rows.take i) ++ L1, ⟨[], rfl, rfl, rfl⟩, ?_, ?_, ?_⟩
  · rintro i acc L' _ ⟨as, rfl, hl, rfl⟩
    exact hsq.app
  · rintro i x acc L' d hx ⟨as, rfl, hl, rfl⟩
    have hi : i < xs.length := (List.getElem?_eq_some_iff.mp hx).1
    obtain ⟨r, hr⟩ : ∃ r, rows[i]? = some r := ⟨_, List.getElem?_eq_getElem (by omega)⟩
    refine t_yes ⟨fun _ => ?_, (fun z => nomatch z)⟩
    refine e_mono (hs i x r hx hr _ (Ent.drop.trans ent_app)) ?_
    rintro _ _ ⟨a, rfl, rfl⟩
    refine ⟨zc fL (as ++ [a]) (rows.take (i + 1)) ++ L1, ?_, small5 (by rw [List.length_map]; omega), as ++ [a], by rw [List.map_append]; rfl, by rw [List.length_append, hl]; rfl, rfl⟩
    rw [take_snoc hr]
    exact ent_swap.trans (Ent.cons (ent_snoc (by rw [List.length_take]; omega)))
  · rintro acc L' d ⟨as, rfl, hl, rfl⟩
    rw [← hlen, List.take_length]
    exact ⟨_, ent_star (Ls := pt d (.lst (as.map V.ref)) :: zc fL as rows), hq d as (by omega)⟩
/-- a comprehension over range(n) of plain values, some left out -/
theorem e_lcPlainR {tr : TA} {j : Nat} {vs : List Nat} {tt : TT} (n : Nat) (p : Nat → Bool) (g : Nat → V) (hn : n ≤ 100000) (hw : ∀ x, wipe ((wipe σ vs).set j (some x)) vs = wipe σ vs) (h : SA tr σ L fun us L1 => us = [nV n] ∧ L1 = L)
    (ht : ∀ i, i < n → ∀ L', Ent L' L → ST tt ((wipe σ vs).set j (some (nV i))) L' fun b L2 => b = p i ∧ L2 = L')
    (hs : ∀ i, i < n → p i = true → ∀ L', Ent L' L → SE te ((wipe σ vs).set j (some (nV i))) L' fun y L3 => y = g i ∧ L3 = L')
    (hq : ∀ d, Q (.ref d) (pt d (.lst (((List.range n).filter p).map g)) :: L)) : SE (tLc (iRng1 tr) (gName j) tt te vs) σ L Q := by
  refine e_lcR1 fun H s Qh k => h H s _ fun us L1 H1 s1 ⟨e1, e2⟩ => k _ _ _ s1 ⟨(n : Int), e1, by omega, by omega, hw, ?_⟩
  subst e2
  refine ⟨fun i acc L' => acc = ((List.range i).filter p).map g ∧ L' = L1, ⟨rfl, rfl⟩, ?_, ?_⟩
  · rintro i acc L' d hi ⟨rfl, rfl⟩
    have hl : (((List.range i).filter p).map g).length ≤ i := by
      rw [List.length_map]
      exact Nat.le_trans (List.length_filter_le _ _) (by rw [List.length_range]; exact Nat.le_refl _)
    refine t_mono (ht i (by omega) _ Ent.drop) ?_
    rintro b L2 ⟨rfl, rfl⟩
    refine ⟨fun hb => ?_, fun hb => ?_⟩
    · refine e_mono (hs i (by omega) hb _ Ent.drop) ?_
      rintro _ _ ⟨rfl, rfl⟩
      refine ⟨L', Ent.refl _, small5 (by omega), ?_, rfl⟩
      rw [List.range_succ, List.filter_append, List.map_append, List.filter_cons_of_pos hb]
      rfl
    · refine ⟨L', Ent.refl _, ?_, rfl⟩
      rw [List.range_succ, List.filter_append, List.filter_cons_of_neg (by rw [hb]; exact Bool.false_ne_true)]
      simp
  · rintro acc L' d ⟨rfl, rfl⟩
    have e : ((n : Int)).toNat = n := by omega
    rw [e]
    exact hq d
/-- a comprehension over a list, every item by a plain value -/
theorem e_lcPlainL {tl : TE} {j : Nat} {vs : List Nat} {a0 : Addr} {xs : List V} {tt : TT} (p : V → Bool) (g : V → V) (hn : xs.length ≤ 100000) (hw : ∀ x, wipe ((wipe σ vs).set j (some x)) vs = wipe σ vs) (h : SE tl σ L fun x L1 => x = .ref a0 ∧ L1 = L) (hsq : SqA K L a0 xs)
    (ht : ∀ x, x ∈ xs → ∀ L', Ent L' L → ST tt ((wipe σ vs).set j (some x)) L' fun b L2 => b = p x ∧ L2 = L')
    (hs : ∀ x, x ∈ xs → p x = true → ∀ L', Ent L' L → SE te ((wipe σ vs).set j (some x)) L' fun y L3 => y = g x ∧ L3 = L')
    (hq : ∀ d, Q (.ref d) (pt d (.lst ((xs.filter p).map g)) :: L)) : SE (tLc (iList K tl) (gName j) tt te vs) σ L Q := by
  refine e_lcL fun H s Qh k => h H s _ fun us L1 H1 s1 ⟨e1, e2⟩ => k _ _ _ s1 ⟨a0, xs, e1, by rw [e2]; exact hsq, hw, ?_⟩
  subst e2
  refine ⟨fun i acc L' => acc = ((xs.take i).filter p).map g ∧ L' = L1, ⟨rfl, rfl⟩, ?_, ?_, ?_⟩
  · rintro i acc L' _ ⟨rfl, rfl⟩
    exact hsq
  · rintro i x acc L' d hx ⟨rfl, rfl⟩
    have hi : i < xs.length := (List.getElem?_eq_some_iff.mp hx).1
    have hm : x ∈ xs := List.mem_of_getElem? hx
    have hl : (((xs.take i).filter p).map g).length ≤ i := by
      rw [List.length_map]
      refine Nat.le_trans (List.length_filter_le _ _) ?_
      rw [List.length_take]; omega
    refine t_mono (ht x hm _ Ent.drop) ?_
    rintro b L2 ⟨rfl, rfl⟩
    refine ⟨fun hb => ?_, fun hb => ?_⟩
    · refine e_mono (hs x hm hb _ Ent.drop) ?_
      rintro _ _ ⟨rfl, rfl⟩
      refine ⟨L', Ent.refl _, small5 (by omega), ?_, rfl⟩
      rw [take_snoc hx, List.filter_append, List.map_append, List.filter_cons_of_pos hb]
      rfl
    · refine ⟨L', Ent.refl _, ?_, rfl⟩
      rw [take_snoc hx, List.filter_append, List.filter_cons_of_neg (by rw [hb]; exact Bool.false_ne_true)]
      simp
  · rintro acc L' d ⟨rfl, rfl⟩
    rw [List.take_length]
    exact hq d
end
structure RdRows (K : PySem.W.Frag) (L : AL) (p : Addr) (as : List Addr) (rows : List (List (Option Nat))) : Prop where
  len : as.length = rows.length
  top : SqA K L p (as.map V.ref)
  row : ∀ (i : Nat) (a : Addr) (r : List (Option Nat)), as[i]? = some a → rows[i]? = some r → SqA K L a (r.map oV)
theorem rd_hd {K : PySem.W.Frag} {L : AL} {p : Addr} {as : List Addr} {rows : List (List (Option Nat))} (h : as.length = rows.length) : RdRows K (RowsA p as rows :: L) p as rows := ⟨h, Has.sq rows_p, fun _ _ _ h1 h2 => Has.sq (rows_i h1 h2)⟩
theorem rd_tl {K : PySem.W.Frag} {L : AL} {A : Asn} {p : Addr} {as : List Addr} {rows : List (List (Option Nat))} (h : RdRows K L p as rows) : RdRows K (A :: L) p as rows := ⟨h.len, sq_tl h.top, fun i a r h1 h2 => sq_tl (h.row i a r h1 h2)⟩
theorem nV_toNat {e : Int} (h : 0 ≤ e) : nV e.toNat = V.int e := by
  show V.int ((e.toNat : Nat) : Int) = V.int e
  congr 1
  omega
/-- what holds between two statements -/
theorem s_mid {t : TS} {D : EA} {σ : L2.St} {L : AL} {Mid : L2.St → AL → Prop} (h : SS t { D with nx := fun σ L1 => ∃ L2, Ent L1 L2 ∧ Mid σ L2 } σ L) (k : ∀ σ L, Mid σ L → D.nx σ L) : SS t D σ L :=
  s_post (s_mono h (fun σ L1 ⟨L2, e, m⟩ => ⟨L2, e, k σ L2 m⟩) (fun _ _ q => q) (fun _ _ q => q) fun _ _ q => q)
theorem cut_to {xs : List V} {h : Int} (h0 : 0 ≤ h) : cutV xs none (some h) = xs.take h.toNat := by
  have e : h = ((h.toNat : Nat) : Int) := by omega
  generalize h.toNat = k at e
  subst e
  unfold cutV
  rw [HT.sIx_nat, HT.sIx_none, List.drop_zero, Nat.sub_zero]
  by_cases c : k ≤ xs.length
  · rw [Nat.min_eq_left c]
  · rw [Nat.min_eq_right (by omega), List.take_of_length_le (Nat.le_refl _), List.take_of_length_le (by omega)]
theorem cut_from {xs : List V} {k : Nat} : cutV xs (some (k : Int)) none = xs.drop k := by
  unfold cutV
  rw [HT.sIx_nat, HT.sIx_none]
  by_cases c : k ≤ xs.length
  · rw [Nat.min_eq_left c]
    exact List.take_of_length_le (by rw [List.length_drop]; exact Nat.le_refl _)
  · rw [Nat.min_eq_right (by omega), List.drop_eq_nil_of_le (i := k) (by omega), List.drop_eq_nil_of_le (Nat.le_refl _)]
    exact List.take_nil
/-! ### the script's cells -/
def cell (ns : List Int) (k : Int) : Int := ns.getD k.toNat 0
def P_law_cell_at (K : PySem.W.Frag) (_ : Ex) : Pm := pm2 fun x y L Q _ => ∃ (a : Addr) (ns : List Int) (k : Int), x = .ref a ∧ y = .int k ∧ 0 ≤ k ∧ SqA K L a (ns.map V.int) ∧ Q (.int (cell ns k)) L
section
variable {K : PySem.W.Frag} {A : Ex} {L : AL} {Q : V → AL → Prop} {Ea : Value → AL → Prop}
theorem do_cell {a : Addr} {ns : List Int} {k : Int} (hq : SqA K L a (ns.map V.int)) (hk : 0 ≤ k) (q : Q (.int (cell ns k)) L) : ∃ L2, Ent L L2 ∧ P_law_cell_at K A [.ref a, .int k] L2 Q Ea :=
  ⟨L, Ent.refl _, _, _, rfl, a, ns, k, rfl, rfl, hk, hq, q⟩
end
end Mp
/-! The heap object's attributes: reading and storing. (Printed by a small program.) -/
namespace Mp
open PySem L2 PyProof.Rows
def hN : List Str := ["hands", "room", "slots", "made", "ended", "stage", "old", "begun", "seen", "row", "looked", "swept"]
theorem hN_nd : hN.Nodup := by decide +kernel
theorem zip_lookup : ∀ {ns : List Str} {vs : List V} {i : Nat} {f : Str} {v : V}, ns.Nodup → ns[i]? = some f → vs[i]? = some v → (ns.zip vs).lookup f = some v
  | [], _, _, _, _, _, h, _ => by simp at h
  | _ :: _, [], _, _, _, _, _, h => by simp at h
  | n :: ns, w :: vs, 0, f, v, _, h1, h2 => by
    have e1 : n = f := Option.some.inj h1
    have e2 : w = v := Option.some.inj h2
    subst e1; subst e2
    simp [List.lookup]
  | n :: ns, w :: vs, i + 1, f, v, nd, h1, h2 => by
    have hm : f ∈ ns := List.mem_of_getElem? (show ns[i]? = some f from h1)
    have hne : f ≠ n := fun z => (List.nodup_cons.mp nd).1 (z ▸ hm)
    have ih := zip_lookup (ns := ns) (vs := vs) (i := i) (List.nodup_cons.mp nd).2 h1 h2
    have hb : (f == n) = false := by simpa using hne
    simp only [List.zip_cons_cons, List.lookup, hb]
    exact ih
theorem zip_lookup_none : ∀ {ns : List Str} {vs : List V} {f : Str}, f ∉ ns → (ns.zip vs).lookup f = none
  | [], _, _, _ => rfl
  | _ :: _, [], _, _ => rfl
  | n :: ns, w :: vs, f, h => by
    have hne : f ≠ n := fun z => h (by rw [z]; exact List.mem_cons_self)
    have hb : (f == n) = false := by simpa using hne
    simp only [List.zip_cons_cons, List.lookup, hb]
    exact zip_lookup_none fun z => h (List.mem_cons_of_mem _ z)
theorem zip_putF : ∀ {ns : List Str} {vs : List V} {i : Nat} {f : Str} {y : V}, ns.Nodup → ns[i]? = some f → i < vs.length → putF f y (ns.zip vs) = ns.zip (vs.set i y)
  | [], _, _, _, _, _, h, _ => by simp at h
  | _ :: _, [], _, _, _, _, _, h => by simp at h
  | n :: ns, w :: vs, 0, f, y, _, h1, _ => by
    have e1 : n = f := Option.some.inj h1
    subst e1
    show (if n = n then _ else _) = _
    rw [if_pos rfl]
    rfl
  | n :: ns, w :: vs, i + 1, f, y, nd, h1, h2 => by
    have hm : f ∈ ns := List.mem_of_getElem? (show ns[i]? = some f from h1)
    have hne : ¬ n = f := fun z => (List.nodup_cons.mp nd).1 (z ▸ hm)
    have ih := zip_putF (ns := ns) (vs := vs) (i := i) (y := y) (List.nodup_cons.mp nd).2 h1 (Nat.lt_of_succ_lt_succ h2)
    show (if n = f then _ else (n, w) :: putF f y (ns.zip vs)) = (n, w) :: ns.zip (vs.set i y)
    rw [if_neg hne, ih]
theorem zip_putF_new : ∀ {ns : List Str} {vs : List V} {f : Str} {y : V}, ns.Nodup → ns[vs.length]? = some f → putF f y (ns.zip vs) = ns.zip (vs ++ [y])
  | [], _, _, _, _, h => by simp at h
  | n :: ns, [], f, y, _, h => by
    have e1 : n = f := Option.some.inj h
    subst e1
    show putF n y [] = [(n, y)] ++ ns.zip []
    rw [List.zip_nil_right]
    rfl
  | n :: ns, w :: vs, f, y, nd, h => by
    have hm : f ∈ ns := List.mem_of_getElem? (show ns[vs.length]? = some f from h)
    have hne : ¬ n = f := fun z => (List.nodup_cons.mp nd).1 (z ▸ hm)
    have ih := zip_putF_new (ns := ns) (vs := vs) (y := y) (List.nodup_cons.mp nd).2 h
    show (if n = f then _ else (n, w) :: putF f y (ns.zip vs)) = (n, w) :: ns.zip (vs ++ [y])
    rw [if_neg hne, ih]
/-- the attributes, as far as they are stored -/
def hF (vs : List V) : List (Str × V) := hN.zip vs
theorem hF_len (vs : List V) : (hF vs).length < 1000 := by
  unfold hF
  rw [List.length_zip]
  exact Nat.lt_of_le_of_lt (Nat.min_le_left _ _) (by decide)
theorem hF_no {vs : List V} {m : Str} (h : m ∉ hN) : (hF vs).lookup m = none := zip_lookup_none h
section
variable {K : PySem.W.Frag} {A : Ex} {L M : AL} {Q : V → AL → Prop} {p dx : Addr} {vs : List V} {v : V} {D : EA} {σ : L2.St}
theorem g_hands (T : HT K A) (h : Has L p (.ins A.Heap dx (hF vs))) (e : vs[0]? = some v) (q : Q v L) : RE (rFld K "hands" (.ref p)) L Q := r_fld T.cl T.n_hands h (zip_lookup (i := 0) hN_nd rfl e) q
theorem g_room (T : HT K A) (h : Has L p (.ins A.Heap dx (hF vs))) (e : vs[1]? = some v) (q : Q v L) : RE (rFld K "room" (.ref p)) L Q := r_fld T.cl T.n_room h (zip_lookup (i := 1) hN_nd rfl e) q
theorem g_slots (T : HT K A) (h : Has L p (.ins A.Heap dx (hF vs))) (e : vs[2]? = some v) (q : Q v L) : RE (rFld K "slots" (.ref p)) L Q := r_fld T.cl T.n_slots h (zip_lookup (i := 2) hN_nd rfl e) q
theorem g_made (T : HT K A) (h : Has L p (.ins A.Heap dx (hF vs))) (e : vs[3]? = some v) (q : Q v L) : RE (rFld K "made" (.ref p)) L Q := r_fld T.cl T.n_made h (zip_lookup (i := 3) hN_nd rfl e) q
theorem g_ended (T : HT K A) (h : Has L p (.ins A.Heap dx (hF vs))) (e : vs[4]? = some v) (q : Q v L) : RE (rFld K "ended" (.ref p)) L Q := r_fld T.cl T.n_ended h (zip_lookup (i := 4) hN_nd rfl e) q
theorem g_stage (T : HT K A) (h : Has L p (.ins A.Heap dx (hF vs))) (e : vs[5]? = some v) (q : Q v L) : RE (rFld K "stage" (.ref p)) L Q := r_fld T.cl T.n_stage h (zip_lookup (i := 5) hN_nd rfl e) q
theorem g_old (T : HT K A) (h : Has L p (.ins A.Heap dx (hF vs))) (e : vs[6]? = some v) (q : Q v L) : RE (rFld K "old" (.ref p)) L Q := r_fld T.cl T.n_old h (zip_lookup (i := 6) hN_nd rfl e) q
theorem g_begun (T : HT K A) (h : Has L p (.ins A.Heap dx (hF vs))) (e : vs[7]? = some v) (q : Q v L) : RE (rFld K "begun" (.ref p)) L Q := r_fld T.cl T.n_begun h (zip_lookup (i := 7) hN_nd rfl e) q
theorem g_seen (T : HT K A) (h : Has L p (.ins A.Heap dx (hF vs))) (e : vs[8]? = some v) (q : Q v L) : RE (rFld K "seen" (.ref p)) L Q := r_fld T.cl T.n_seen h (zip_lookup (i := 8) hN_nd rfl e) q
theorem g_row (T : HT K A) (h : Has L p (.ins A.Heap dx (hF vs))) (e : vs[9]? = some v) (q : Q v L) : RE (rFld K "row" (.ref p)) L Q := r_fld T.cl T.n_row h (zip_lookup (i := 9) hN_nd rfl e) q
theorem g_looked (T : HT K A) (h : Has L p (.ins A.Heap dx (hF vs))) (e : vs[10]? = some v) (q : Q v L) : RE (rFld K "looked" (.ref p)) L Q := r_fld T.cl T.n_looked h (zip_lookup (i := 10) hN_nd rfl e) q
theorem g_swept (T : HT K A) (h : Has L p (.ins A.Heap dx (hF vs))) (e : vs[11]? = some v) (q : Q v L) : RE (rFld K "swept" (.ref p)) L Q := r_fld T.cl T.n_swept h (zip_lookup (i := 11) hN_nd rfl e) q
theorem u_hands (T : HT K A) {y : V} (h : Has L p (.ins A.Heap dx (hF vs))) (hl : 0 < vs.length) (w : Wr L p (.ins A.Heap dx (hF (vs.set 0 y))) M) (q : D.nx σ M) :
    ∃ a C dx fs M, V.ref p = .ref a ∧ Has L a (.ins C dx fs) ∧ Cls K C ∧ NoAttr K C "hands" ∧ fs.length < 1000 ∧ Wr L a (.ins C dx (putF "hands" y fs)) M ∧ D.nx σ M := ⟨p, A.Heap, dx, _, M, rfl, h, T.cl, T.n_hands, hF_len _, by unfold hF; rw [zip_putF (i := 0) hN_nd rfl hl]; exact w, q⟩
theorem n_hands (T : HT K A) {y : V} (h : Has L p (.ins A.Heap dx (hF vs))) (hl : vs.length = 0) (w : Wr L p (.ins A.Heap dx (hF (vs ++ [y]))) M) (q : D.nx σ M) :
    ∃ a C dx fs M, V.ref p = .ref a ∧ Has L a (.ins C dx fs) ∧ Cls K C ∧ NoAttr K C "hands" ∧ fs.length < 1000 ∧ Wr L a (.ins C dx (putF "hands" y fs)) M ∧ D.nx σ M := ⟨p, A.Heap, dx, _, M, rfl, h, T.cl, T.n_hands, hF_len _, by unfold hF; rw [zip_putF_new hN_nd (by rw [hl]; rfl)]; exact w, q⟩
theorem u_room (T : HT K A) {y : V} (h : Has L p (.ins A.Heap dx (hF vs))) (hl : 1 < vs.length) (w : Wr L p (.ins A.Heap dx (hF (vs.set 1 y))) M) (q : D.nx σ M) :
    ∃ a C dx fs M, V.ref p = .ref a ∧ Has L a (.ins C dx fs) ∧ Cls K C ∧ NoAttr K C "room" ∧ fs.length < 1000 ∧ Wr L a (.ins C dx (putF "room" y fs)) M ∧ D.nx σ M := ⟨p, A.Heap, dx, _, M, rfl, h, T.cl, T.n_room, hF_len _, by unfold hF; rw [zip_putF (i := 1) hN_nd rfl hl]; exact w, q⟩
theorem n_room (T : HT K A) {y : V} (h : Has L p (.ins A.Heap dx (hF vs))) (hl : vs.length = 1) (w : Wr L p (.ins A.Heap dx (hF (vs ++ [y]))) M) (q : D.nx σ M) :
    ∃ a C dx fs M, V.ref p = .ref a ∧ Has L a (.ins C dx fs) ∧ Cls K C ∧ NoAttr K C "room" ∧ fs.length < 1000 ∧ Wr L a (.ins C dx (putF "room" y fs)) M ∧ D.nx σ M := ⟨p, A.Heap, dx, _, M, rfl, h, T.cl, T.n_room, hF_len _, by unfold hF; rw [zip_putF_new hN_nd (by rw [hl]; rfl)]; exact w, q⟩
theorem u_slots (T : HT K A) {y : V} (h : Has L p (.ins A.Heap dx (hF vs))) (hl : 2 < vs.length) (w : Wr L p (.ins A.Heap dx (hF (vs.set 2 y))) M) (q : D.nx σ M) :
    ∃ a C dx fs M, V.ref p = .ref a ∧ Has L a (.ins C dx fs) ∧ Cls K C ∧ NoAttr K C "slots" ∧ fs.length < 1000 ∧ Wr L a (.ins C dx (putF "slots" y fs)) M ∧ D.nx σ M := ⟨p, A.Heap, dx, _, M, rfl, h, T.cl, T.n_slots, hF_len _, by unfold hF; rw [zip_putF (i := 2) hN_nd rfl hl]; exact w, q⟩
theorem n_slots (T : HT K A) {y : V} (h : Has L p (.ins A.Heap dx (hF vs))) (hl : vs.length = 2) (w : Wr L p (.ins A.Heap dx (hF (vs ++ [y]))) M) (q : D.nx σ M) :
    ∃ a C dx fs M, V.ref p = .ref a ∧ Has L a (.ins C dx fs) ∧ Cls K C ∧ NoAttr K C "slots" ∧ fs.length < 1000 ∧ Wr L a (.ins C dx (putF "slots" y fs)) M ∧ D.nx σ M := ⟨p, A.Heap, dx, _, M, rfl, h, T.cl, T.n_slots, hF_len _, by unfold hF; rw [zip_putF_new hN_nd (by rw [hl]; rfl)]; exact w, q⟩
theorem u_made (T : HT K A) {y : V} (h : Has L p (.ins A.Heap dx (hF vs))) (hl : 3 < vs.length) (w : Wr L p (.ins A.Heap dx (hF (vs.set 3 y))) M) (q : D.nx σ M) :
    ∃ a C dx fs M, V.ref p = .ref a ∧ Has L a (.ins C dx fs) ∧ Cls K C ∧ NoAttr K C "made" ∧ fs.length < 1000 ∧ Wr L a (.ins C dx (putF "made" y fs)) M ∧ D.nx σ M := ⟨p, A.Heap, dx, _, M, rfl, h, T.cl, T.n_made, hF_len _, by unfold hF; rw [zip_putF (i := 3) hN_nd rfl hl]; exact w, q⟩
theorem n_made (T : HT K A) {y : V} (h : Has L p (.ins A.Heap dx (hF vs))) (hl : vs.length = 3) (w : Wr L p (.ins A.Heap dx (hF (vs ++ [y]))) M) (q : D.nx σ M) :
    ∃ a C dx fs M, V.ref p = .ref a ∧ Has L a (.ins C dx fs) ∧ Cls K C ∧ NoAttr K C "made" ∧ fs.length < 1000 ∧ Wr L a (.ins C dx (putF "made" y fs)) M ∧ D.nx σ M := ⟨p, A.Heap, dx, _, M, rfl, h, T.cl, T.n_made, hF_len _, by unfold hF; rw [zip_putF_new hN_nd (by rw [hl]; rfl)]; exact w, q⟩
theorem u_ended (T : HT K A) {y : V} (h : Has L p (.ins A.Heap dx (hF vs))) (hl : 4 < vs.length) (w : Wr L p (.ins A.Heap dx (hF (vs.set 4 y))) M) (q : D.nx σ M) :
    ∃ a C dx fs M, V.ref p = .ref a ∧ Has L a (.ins C dx fs) ∧ Cls K C ∧ NoAttr K C "ended" ∧ fs.length < 1000 ∧ Wr L a (.ins C dx (putF "ended" y fs)) M ∧ D.nx σ M := ⟨p, A.Heap, dx, _, M, rfl, h, T.cl, T.n_ended, hF_len _, by unfold hF; rw [zip_putF (i := 4) hN_nd rfl hl]; exact w, q⟩
theorem n_ended (T : HT K A) {y : V} (h : Has L p (.ins A.Heap dx (hF vs))) (hl : vs.length = 4) (w : Wr L p (.ins A.Heap dx (hF (vs ++ [y]))) M) (q : D.nx σ M) :
    ∃ a C dx fs M, V.ref p = .ref a ∧ Has L a (.ins C dx fs) ∧ Cls K C ∧ NoAttr K C "ended" ∧ fs.length < 1000 ∧ Wr L a (.ins C dx (putF "ended" y fs)) M ∧ D.nx σ M := ⟨p, A.Heap, dx, _, M, rfl, h, T.cl, T.n_ended, hF_len _, by unfold hF; rw [zip_putF_new hN_nd (by rw [hl]; rfl)]; exact w, q⟩
theorem u_stage (T : HT K A) {y : V} (h : Has L p (.ins A.Heap dx (hF vs))) (hl : 5 < vs.length) (w : Wr L p (.ins A.Heap dx (hF (vs.set 5 y))) M) (q : D.nx σ M) :
    ∃ a C dx fs M, V.ref p = .ref a ∧ Has L a (.ins C dx fs) ∧ Cls K C ∧ NoAttr K C "stage" ∧ fs.length < 1000 ∧ Wr L a (.ins C dx (putF "stage" y fs)) M ∧ D.nx σ M := ⟨p, A.Heap, dx, _, M, rfl, h, T.cl, T.n_stage, hF_len _, by unfold hF; rw [zip_putF (i := 5) hN_nd rfl hl]; exact w, q⟩
theorem n_stage (T : HT K A) {y : V} (h : Has L p (.ins A.Heap dx (hF vs))) (hl : vs.length = 5) (w : Wr L p (.ins A.Heap dx (hF (vs ++ [y]))) M) (q : D.nx σ M) :
    ∃ a C dx fs M, V.ref p = .ref a ∧ Has L a (.ins C dx fs) ∧ Cls K C ∧ NoAttr K C "stage" ∧ fs.length < 1000 ∧ Wr L a (.ins C dx (putF "stage" y fs)) M ∧ D.nx σ M := ⟨p, A.Heap, dx, _, M, rfl, h, T.cl, T.n_stage, hF_len _, by unfold hF; rw [zip_putF_new hN_nd (by rw [hl]; rfl)]; exact w, q⟩
theorem u_old (T : HT K A) {y : V} (h : Has L p (.ins A.Heap dx (hF vs))) (hl : 6 < vs.length) (w : Wr L p (.ins A.Heap dx (hF (vs.set 6 y))) M) (q : D.nx σ M) :
    ∃ a C dx fs M, V.ref p = .ref a ∧ Has L a (.ins C dx fs) ∧ Cls K C ∧ NoAttr K C "old" ∧ fs.length < 1000 ∧ Wr L a (.ins C dx (putF "old" y fs)) M ∧ D.nx σ M := ⟨p, A.Heap, dx, _, M, rfl, h, T.cl, T.n_old, hF_len _, by unfold hF; rw [zip_putF (i := 6) hN_nd rfl hl]; exact w, q⟩
theorem n_old (T : HT K A) {y : V} (h : Has L p (.ins A.Heap dx (hF vs))) (hl : vs.length = 6) (w : Wr L p (.ins A.Heap dx (hF (vs ++ [y]))) M) (q : D.nx σ M) :
    ∃ a C dx fs M, V.ref p = .ref a ∧ Has L a (.ins C dx fs) ∧ Cls K C ∧ NoAttr K C "old" ∧ fs.length < 1000 ∧ Wr L a (.ins C dx (putF "old" y fs)) M ∧ D.nx σ M := ⟨p, A.Heap, dx, _, M, rfl, h, T.cl, T.n_old, hF_len _, by unfold hF; rw [zip_putF_new hN_nd (by rw [hl]; rfl)]; exact w, q⟩
theorem u_begun (T : HT K A) {y : V} (h : Has L p (.ins A.Heap dx (hF vs))) (hl : 7 < vs.length) (w : Wr L p (.ins A.Heap dx (hF (vs.set 7 y))) M) (q : D.nx σ M) :
    ∃ a C dx fs M, V.ref p = .ref a ∧ Has L a (.ins C dx fs) ∧ Cls K C ∧ NoAttr K C "begun" ∧ fs.length < 1000 ∧ Wr L a (.ins C dx (putF "begun" y fs)) M ∧ D.nx σ M := ⟨p, A.Heap, dx, _, M, rfl, h, T.cl, T.n_begun, hF_len _, by unfold hF; rw [zip_putF (i := 7) hN_nd rfl hl]; exact w, q⟩
theorem n_begun (T : HT K A) {y : V} (h : Has L p (.ins A.Heap dx (hF vs))) (hl : vs.length = 7) (w : Wr L p (.ins A.Heap dx (hF (vs ++ [y]))) M) (q : D.nx σ M) :
    ∃ a C dx fs M, V.ref p = .ref a ∧ Has L a (.ins C dx fs) ∧ Cls K C ∧ NoAttr K C "begun" ∧ fs.length < 1000 ∧ Wr L a (.ins C dx (putF "begun" y fs)) M ∧ D.nx σ M := ⟨p, A.Heap, dx, _, M, rfl, h, T.cl, T.n_begun, hF_len _, by unfold hF; rw [zip_putF_new hN_nd (by rw [hl]; rfl)]; exact w, q⟩
theorem u_seen (T : HT K A) {y : V} (h : Has L p (.ins A.Heap dx (hF vs))) (hl : 8 < vs.length) (w : Wr L p (.ins A.Heap dx (hF (vs.set 8 y))) M) (q : D.nx σ M) :
    ∃ a C dx fs M, V.ref p = .ref a ∧ Has L a (.ins C dx fs) ∧ Cls K C ∧ NoAttr K C "seen" ∧ fs.length < 1000 ∧ Wr L a (.ins C dx (putF "seen" y fs)) M ∧ D.nx σ M := ⟨p, A.Heap, dx, _, M, rfl, h, T.cl, T.n_seen, hF_len _, by unfold hF; rw [zip_putF (i := 8) hN_nd rfl hl]; exact w, q⟩
theorem n_seen (T : HT K A) {y : V} (h : Has L p (.ins A.Heap dx (hF vs))) (hl : vs.length = 8) (w : Wr L p (.ins A.Heap dx (hF (vs ++ [y]))) M) (q : D.nx σ M) :
    ∃ a C dx fs M, V.ref p = .ref a ∧ Has L a (.ins C dx fs) ∧ Cls K C ∧ NoAttr K C "seen" ∧ fs.length < 1000 ∧ Wr L a (.ins C dx (putF "seen" y fs)) M ∧ D.nx σ M := ⟨p, A.Heap, dx, _, M, rfl, h, T.cl, T.n_seen, hF_len _, by unfold hF; rw [zip_putF_new hN_nd (by rw [hl]; rfl)]; exact w, q⟩
theorem u_row (T : HT K A) {y : V} (h : Has L p (.ins A.Heap dx (hF vs))) (hl : 9 < vs.length) (w : Wr L p (.ins A.Heap dx (hF (vs.set 9 y))) M) (q : D.nx σ M) :
    ∃ a C dx fs M, V.ref p = .ref a ∧ Has L a (.ins C dx fs) ∧ Cls K C ∧ NoAttr K C "row" ∧ fs.length < 1000 ∧ Wr L a (.ins C dx (putF "row" y fs)) M ∧ D.nx σ M := ⟨p, A.Heap, dx, _, M, rfl, h, T.cl, T.n_row, hF_len _, by unfold hF; rw [zip_putF (i := 9) hN_nd rfl hl]; exact w, q⟩
theorem n_row (T : HT K A) {y : V} (h : Has L p (.ins A.Heap dx (hF vs))) (hl : vs.length = 9) (w : Wr L p (.ins A.Heap dx (hF (vs ++ [y]))) M) (q : D.nx σ M) :
    ∃ a C dx fs M, V.ref p = .ref a ∧ Has L a (.ins C dx fs) ∧ Cls K C ∧ NoAttr K C "row" ∧ fs.length < 1000 ∧ Wr L a (.ins C dx (putF "row" y fs)) M ∧ D.nx σ M := ⟨p, A.Heap, dx, _, M, rfl, h, T.cl, T.n_row, hF_len _, by unfold hF; rw [zip_putF_new hN_nd (by rw [hl]; rfl)]; exact w, q⟩
theorem u_looked (T : HT K A) {y : V} (h : Has L p (.ins A.Heap dx (hF vs))) (hl : 10 < vs.length) (w : Wr L p (.ins A.Heap dx (hF (vs.set 10 y))) M) (q : D.nx σ M) :
    ∃ a C dx fs M, V.ref p = .ref a ∧ Has L a (.ins C dx fs) ∧ Cls K C ∧ NoAttr K C "looked" ∧ fs.length < 1000 ∧ Wr L a (.ins C dx (putF "looked" y fs)) M ∧ D.nx σ M := ⟨p, A.Heap, dx, _, M, rfl, h, T.cl, T.n_looked, hF_len _, by unfold hF; rw [zip_putF (i := 10) hN_nd rfl hl]; exact w, q⟩
theorem n_looked (T : HT K A) {y : V} (h : Has L p (.ins A.Heap dx (hF vs))) (hl : vs.length = 10) (w : Wr L p (.ins A.Heap dx (hF (vs ++ [y]))) M) (q : D.nx σ M) :
    ∃ a C dx fs M, V.ref p = .ref a ∧ Has L a (.ins C dx fs) ∧ Cls K C ∧ NoAttr K C "looked" ∧ fs.length < 1000 ∧ Wr L a (.ins C dx (putF "looked" y fs)) M ∧ D.nx σ M := ⟨p, A.Heap, dx, _, M, rfl, h, T.cl, T.n_looked, hF_len _, by unfold hF; rw [zip_putF_new hN_nd (by rw [hl]; rfl)]; exact w, q⟩
theorem u_swept (T : HT K A) {y : V} (h : Has L p (.ins A.Heap dx (hF vs))) (hl : 11 < vs.length) (w : Wr L p (.ins A.Heap dx (hF (vs.set 11 y))) M) (q : D.nx σ M) :
    ∃ a C dx fs M, V.ref p = .ref a ∧ Has L a (.ins C dx fs) ∧ Cls K C ∧ NoAttr K C "swept" ∧ fs.length < 1000 ∧ Wr L a (.ins C dx (putF "swept" y fs)) M ∧ D.nx σ M := ⟨p, A.Heap, dx, _, M, rfl, h, T.cl, T.n_swept, hF_len _, by unfold hF; rw [zip_putF (i := 11) hN_nd rfl hl]; exact w, q⟩
theorem n_swept (T : HT K A) {y : V} (h : Has L p (.ins A.Heap dx (hF vs))) (hl : vs.length = 11) (w : Wr L p (.ins A.Heap dx (hF (vs ++ [y]))) M) (q : D.nx σ M) :
    ∃ a C dx fs M, V.ref p = .ref a ∧ Has L a (.ins C dx fs) ∧ Cls K C ∧ NoAttr K C "swept" ∧ fs.length < 1000 ∧ Wr L a (.ins C dx (putF "swept" y fs)) M ∧ D.nx σ M := ⟨p, A.Heap, dx, _, M, rfl, h, T.cl, T.n_swept, hF_len _, by unfold hF; rw [zip_putF_new hN_nd (by rw [hl]; rfl)]; exact w, q⟩
end
end Mp
/-! The heap object as one assertion; the mirror of its methods; their promises. -/
namespace Mp
open PySem L2 PyProof.Rows
inductive Stg where
  | idle | marking | sweeping
  deriving DecidableEq
def Stg.str : Stg → Str
  | .idle => "idle"
  | .marking => "marking"
  | .sweeping => "sweeping"
/-- the mirror: rows: the slots of all boxes ever made, also of those that were freed; there: those that are there, rising; seen: the marked ones, in the order of marking -/
structure HS where
  hands : List (Option Nat)
  room : Nat
  there : List Nat
  rows : List (List (Option Nat))
  ended : Nat
  stage : Stg
  old : List Nat
  begun : Nat
  seen : List Nat
  looked : Nat
  swept : Nat
structure HAd where
  dx : Addr
  h : Addr
  d : Addr
  o : Addr
  s : Addr
  r : Addr
  rs : List Addr
def HS.rowAt (st : HS) (b : Nat) : List (Option Nat) := st.rows.getD b []
def kvS (bs : List Nat) (as : List Addr) : List (Key × V) := List.zipWith (fun b a => ((Sum.inl ((b : Nat) : Int) : Key), V.ref a)) bs as
def hVals (ad : HAd) (st : HS) : List V := [.ref ad.h, nV st.room, .ref ad.d, nV st.rows.length, nV st.ended, .str st.stage.str, .ref ad.o, nV st.begun, .ref ad.s, .ref ad.r, nV st.looked, nV st.swept]
def HeapIs (C p : Addr) (ad : HAd) (st : HS) : Asn := Star (Pr (ad.rs.length = st.there.length) :: pt p (.ins C ad.dx (hF (hVals ad st))) :: pt ad.h (.lst (st.hands.map oV)) :: pt ad.d (.dK (kvS st.there ad.rs)) :: pt ad.o (.lst (st.old.map nV)) :: pt ad.s (.dK (kvT st.seen)) :: pt ad.r (.lst (st.seen.map nV)) :: zc fL ad.rs (st.there.map st.rowAt))
section
variable {C p : Addr} {ad : HAd} {st : HS} {R M : AL} {D : EA} {t : TS} {σ : L2.St} {te : TE} {Q : V → AL → Prop}
theorem heap_ins : Has (HeapIs C p ad st :: R) p (.ins C ad.dx (hF (hVals ad st))) := has_star (has_tl has_hd)
theorem heap_h : Has (HeapIs C p ad st :: R) ad.h (.lst (st.hands.map oV)) := has_star (has_tl (has_tl has_hd))
theorem heap_d : Has (HeapIs C p ad st :: R) ad.d (.dK (kvS st.there ad.rs)) := has_star (has_tl (has_tl (has_tl has_hd)))
theorem heap_o : Has (HeapIs C p ad st :: R) ad.o (.lst (st.old.map nV)) := has_star (has_tl (has_tl (has_tl (has_tl has_hd))))
theorem heap_s : Has (HeapIs C p ad st :: R) ad.s (.dK (kvT st.seen)) := has_star (has_tl (has_tl (has_tl (has_tl (has_tl has_hd)))))
theorem heap_r : Has (HeapIs C p ad st :: R) ad.r (.lst (st.seen.map nV)) := has_star (has_tl (has_tl (has_tl (has_tl (has_tl (has_tl has_hd))))))
theorem heap_row {j b : Nat} {a : Addr} (h1 : ad.rs[j]? = some a) (h2 : st.there[j]? = some b) : Has (HeapIs C p ad st :: R) a (.lst ((st.rowAt b).map oV)) :=
  has_star (has_tl (has_tl (has_tl (has_tl (has_tl (has_tl (has_tl (zc_has (f := fL) h1 (map_at st.rowAt h2)))))))))
/-- open -/
theorem s_open (k : ad.rs.length = st.there.length → SS t D σ (pt p (.ins C ad.dx (hF (hVals ad st))) :: pt ad.h (.lst (st.hands.map oV)) :: pt ad.d (.dK (kvS st.there ad.rs)) :: pt ad.o (.lst (st.old.map nV)) :: pt ad.s (.dK (kvT st.seen)) :: pt ad.r (.lst (st.seen.map nV)) :: (zc fL ad.rs (st.there.map st.rowAt) ++ R))) :
    SS t D σ (HeapIs C p ad st :: R) := s_ent ent_unstar (s_pr k)
theorem heap_len {H : Hp} (s : Sep (HeapIs C p ad st :: R) H) : ad.rs.length = st.there.length := (sep_pr (ent_unstar H s)).1
/-- close -/
theorem ent_close (h : ad.rs.length = st.there.length) : Ent (pt p (.ins C ad.dx (hF (hVals ad st))) :: pt ad.h (.lst (st.hands.map oV)) :: pt ad.d (.dK (kvS st.there ad.rs)) :: pt ad.o (.lst (st.old.map nV)) :: pt ad.s (.dK (kvT st.seen)) :: pt ad.r (.lst (st.seen.map nV)) :: (zc fL ad.rs (st.there.map st.rowAt) ++ R)) (HeapIs C p ad st :: R) :=
  (ent_pr h).trans (ent_star (Ls := Pr (ad.rs.length = st.there.length) :: pt p (.ins C ad.dx (hF (hVals ad st))) :: pt ad.h (.lst (st.hands.map oV)) :: pt ad.d (.dK (kvS st.there ad.rs)) :: pt ad.o (.lst (st.old.map nV)) :: pt ad.s (.dK (kvT st.seen)) :: pt ad.r (.lst (st.seen.map nV)) :: zc fL ad.rs (st.there.map st.rowAt)))
/-- stores that leave it whole -/
theorem heap_wr_hands {hs : List (Option Nat)} : Wr (HeapIs C p ad st :: R) ad.h (.lst (hs.map oV)) (HeapIs C p ad { st with hands := hs } :: R) :=
  wr_star (Ms := Pr (ad.rs.length = st.there.length) :: pt p (.ins C ad.dx (hF (hVals ad st))) :: pt ad.h (.lst (hs.map oV)) :: _) (wr_tl (wr_tl wr_hd))
end
theorem kvS_get : ∀ {bs : List Nat} {as : List Addr} {j b : Nat} {a : Addr}, bs.Nodup → bs[j]? = some b → as[j]? = some a → valV (kvS bs as) (Sum.inl (b : Int)) = some (.ref a)
  | [], _, _, _, _, _, h, _ => by simp at h
  | _ :: _, [], _, _, _, _, _, h => by simp at h
  | b0 :: bs, a0 :: as, 0, b, a, _, h1, h2 => by
    have e1 : b0 = b := Option.some.inj h1
    have e2 : a0 = a := Option.some.inj h2
    subst e1; subst e2
    exact valV_pos (p := ((Sum.inl (b0 : Int) : Key), V.ref a0)) rfl
  | b0 :: bs, a0 :: as, j + 1, b, a, nd, h1, h2 => by
    have hm : b ∈ bs := List.mem_of_getElem? (show bs[j]? = some b from h1)
    have hne : b0 ≠ b := fun z => (List.nodup_cons.mp nd).1 (z ▸ hm)
    have ih := kvS_get (bs := bs) (as := as) (List.nodup_cons.mp nd).2 h1 h2
    exact (valV_neg (p := ((Sum.inl (b0 : Int) : Key), V.ref a0)) (by intro z; have := Sum.inl.inj z; omega)).trans ih
theorem kvS_none : ∀ {bs : List Nat} {as : List Addr} {n : Int}, (∀ b ∈ bs, (b : Int) ≠ n) → valV (kvS bs as) (Sum.inl n) = none
  | [], _, _, _ => rfl
  | _ :: _, [], _, _ => rfl
  | b0 :: bs, a0 :: as, n, h => by
    have hne := h b0 List.mem_cons_self
    exact (valV_neg (p := ((Sum.inl (b0 : Int) : Key), V.ref a0)) (by intro z; exact hne (Sum.inl.inj z))).trans (kvS_none fun b hb => h b (List.mem_cons_of_mem _ hb))
theorem kvS_snoc : ∀ {bs : List Nat} {as : List Addr} {b : Nat} {a : Addr}, as.length = bs.length → kvS bs as ++ [((Sum.inl (b : Int) : Key), V.ref a)] = kvS (bs ++ [b]) (as ++ [a])
  | [], [], _, _, _ => rfl
  | [], _ :: _, _, _, h => by simp at h
  | _ :: _, [], _, _, h => by simp at h
  | b0 :: bs, a0 :: as, b, a, h => by
    have ih := kvS_snoc (bs := bs) (as := as) (b := b) (a := a) (by simpa using h)
    show ((Sum.inl (b0 : Int) : Key), V.ref a0) :: (kvS bs as ++ [((Sum.inl (b : Int) : Key), V.ref a)]) = ((Sum.inl (b0 : Int) : Key), V.ref a0) :: kvS (bs ++ [b]) (as ++ [a])
    rw [ih]
theorem kvS_keys : ∀ {bs : List Nat} {as : List Addr}, as.length = bs.length → (kvS bs as).map (fun kv => kV kv.1) = bs.map nV
  | [], [], _ => rfl
  | [], _ :: _, h => by simp at h
  | _ :: _, [], h => by simp at h
  | b0 :: bs, a0 :: as, h => by
    have ih := kvS_keys (bs := bs) (as := as) (by simpa using h)
    show nV b0 :: (kvS bs as).map (fun kv => kV kv.1) = nV b0 :: bs.map nV
    rw [ih]
theorem kvS_len : ∀ {bs : List Nat} {as : List Addr}, as.length = bs.length → (kvS bs as).length = bs.length := fun h => by
  unfold kvS
  rw [List.length_zipWith, h, Nat.min_self]
theorem kvS_drop : ∀ {bs : List Nat} {as : List Addr} {j b : Nat}, bs.Nodup → as.length = bs.length → bs[j]? = some b → dropK (kvS bs as) (Sum.inl (b : Int)) = kvS (bs.eraseIdx j) (as.eraseIdx j)
  | [], _, _, _, _, _, h => by simp at h
  | _ :: _, [], _, _, _, h, _ => by simp at h
  | b0 :: bs, a0 :: as, 0, b, nd, hl, h1 => by
    have e1 : b0 = b := Option.some.inj h1
    subst e1
    show dropK (((Sum.inl (b0 : Int) : Key), V.ref a0) :: kvS bs as) (Sum.inl (b0 : Int)) = kvS bs as
    rw [dropK_pos rfl]
    refine dropK_no fun hm => ?_
    obtain ⟨kv, hkv, e⟩ := List.mem_map.mp hm
    have hv := kvS_none (bs := bs) (as := as) (n := (b0 : Int)) fun b hb z => by
      have z' : b = b0 := by omega
      subst z'
      exact (List.nodup_cons.mp nd).1 hb
    exact valV_not hv (List.mem_map.mpr ⟨kv, hkv, e⟩)
  | b0 :: bs, a0 :: as, j + 1, b, nd, hl, h1 => by
    have hm : b ∈ bs := List.mem_of_getElem? (show bs[j]? = some b from h1)
    have hne : b0 ≠ b := fun z => (List.nodup_cons.mp nd).1 (z ▸ hm)
    have ih := kvS_drop (bs := bs) (as := as) (j := j) (b := b) (List.nodup_cons.mp nd).2 (by simpa using hl) h1
    show dropK (((Sum.inl (b0 : Int) : Key), V.ref a0) :: kvS bs as) (Sum.inl (b : Int)) = ((Sum.inl (b0 : Int) : Key), V.ref a0) :: kvS (bs.eraseIdx j) (as.eraseIdx j)
    rw [dropK_neg (by intro z; have := Sum.inl.inj z; omega), ih]
/-! ### the mirror of the methods -/
def HS.new (n room : Nat) : HS := { hands := List.replicate n none, room := room, there := [], rows := [], ended := 0, stage := .idle, old := [], begun := 0, seen := [], looked := 0, swept := 0 }
def HS.rest (st : HS) : HS := { st with stage := .idle, old := [], begun := 0, seen := [], looked := 0, swept := 0 }
def HS.mark (st : HS) (o : Option Nat) : HS := match o with
  | none => st
  | some b => if b < st.begun ∧ b ∉ st.seen then { st with seen := st.seen ++ [b] } else st
def HS.markAll (st : HS) (os : List (Option Nat)) : HS := os.foldl HS.mark st
def HS.make (st : HS) (i n : Nat) : HS := { st with there := st.there ++ [st.rows.length], rows := st.rows ++ [List.replicate n none], hands := st.hands.set i (some st.rows.length) }
def HS.take (st : HS) (i b k : Nat) : HS := { st with hands := st.hands.set i ((st.rowAt b).getD k none) }
def HS.setSlot (st : HS) (b k : Nat) (o : Option Nat) : HS := { st with rows := st.rows.set b ((st.rowAt b).set k o) }
def HS.put (st : HS) (b k : Nat) (o : Option Nat) : HS := (if st.stage = .marking then st.mark ((st.rowAt b).getD k none) else st).setSlot b k o
def HS.share (st : HS) (i j : Nat) : HS := { st with hands := st.hands.set i (st.hands.getD j none) }
def HS.drop (st : HS) (i : Nat) : HS := { st with hands := st.hands.set i none }
def HS.begin_ (st : HS) : HS := HS.markAll { st with old := st.there, begun := st.rows.length, stage := .marking } st.hands
def HS.lookAt (st : HS) : HS := HS.markAll { st with looked := st.looked + 1 } (st.rowAt (st.seen.getD st.looked 0))
def HS.free (st : HS) (b : Nat) : HS := { st with there := st.there.filter fun x => decide (x ≠ b) }
def HS.sweep (st : HS) : HS × Option Nat := if st.old.getD st.swept 0 ∈ st.seen then ({ st with swept := st.swept + 1 }, none) else ({ st with swept := st.swept + 1 }.free (st.old.getD st.swept 0), some (st.old.getD st.swept 0))
def HS.settle1 (st : HS) : HS := if st.stage = .marking ∧ st.looked = st.seen.length then { st with stage := .sweeping } else st
def HS.settle2 (st : HS) : HS := if st.stage = .sweeping ∧ st.swept = st.old.length then { st.rest with ended := st.ended + 1 } else st
def HS.settle (st : HS) : HS := st.settle1.settle2
def HS.piece (st : HS) : HS × Option Nat := match st.stage with
  | .idle => (st.begin_.settle, none)
  | .marking => (st.lookAt.settle, none)
  | .sweeping => (st.sweep.1.settle, st.sweep.2)
def HS.work : Nat → HS → HS × List Nat
  | 0, st => (st, [])
  | n + 1, st => ((HS.work n st).1.piece.1, (HS.work n st).2 ++ (HS.work n st).1.piece.2.toList)
/-- what the methods lean on -/
structure HW (st : HS) : Prop where
  nd : st.there.Pairwise (· < ·)
  lt : ∀ b ∈ st.there, b < st.rows.length
  hands : st.hands.length ≤ 8
  big : st.rows.length ≤ 90000
  rl : ∀ r ∈ st.rows, r.length ≤ 4
  sn : st.seen.Nodup
  sl : ∀ b ∈ st.seen, b < st.begun
  bg : st.begun ≤ st.rows.length
theorem HW.nodup {st : HS} (w : HW st) : st.there.Nodup := w.nd.imp fun h => Nat.ne_of_lt h
theorem HW.tl {st : HS} (w : HW st) : st.there.length ≤ st.rows.length := nodup_bound _ w.nodup w.lt
theorem HW.seenl {st : HS} (w : HW st) : st.seen.length ≤ st.rows.length := Nat.le_trans (nodup_bound _ w.sn w.sl) w.bg
theorem HW.rowl {st : HS} (w : HW st) (b : Nat) : (st.rowAt b).length ≤ 4 := by
  unfold HS.rowAt
  rw [List.getD_eq_getElem?_getD]
  cases e : st.rows[b]? with
  | none => exact Nat.zero_le _
  | some r => exact w.rl r (List.mem_of_getElem? e)
end Mp
/-! The promises of the heap's methods and of the collector's pieces, and their use at a call. -/
namespace Mp
open PySem L2 PyProof.Rows
def P_rest (K : PySem.W.Frag) (A : Ex) : Pm := pm1 fun x L Q _ => ∃ (p dx : Addr) (v0 v1 v2 v3 v4 : V) (tl : List V) (R : AL), x = .ref p ∧ L = pt p (.ins A.Heap dx (hF (v0 :: v1 :: v2 :: v3 :: v4 :: tl))) :: R ∧ (tl = [] ∨ tl.length = 7) ∧
  ∀ o s r, Q .non (pt p (.ins A.Heap dx (hF [v0, v1, v2, v3, v4, .str "idle", .ref o, nV 0, .ref s, .ref r, nV 0, nV 0])) :: pt r (.lst []) :: pt s (.dK []) :: pt o (.lst []) :: R)
def P_init (K : PySem.W.Frag) (A : Ex) : Pm := pm3 fun x y z L Q E => ∃ (p dx : Addr) (R : AL) (hands room : Int), x = .ref p ∧ y = .int hands ∧ z = .int room ∧ L = pt p (.ins A.Heap dx []) :: R ∧
  (((1 ≤ hands ∧ hands ≤ 8) ∧ 1 ≤ room ∧ room ≤ 1000) → ∀ ad, Q .non (HeapIs A.Heap p ad (HS.new hands.toNat room.toNat) :: R)) ∧ (¬ ((1 ≤ hands ∧ hands ≤ 8) ∧ 1 ≤ room ∧ room ≤ 1000) → E (.ref A.NoHeap) R)
def isHand (st : HS) (i : Int) : Prop := 0 ≤ i ∧ i < (st.hands.length : Int)
def P_need_hand (K : PySem.W.Frag) (A : Ex) : Pm := pm2 fun x y L Q E => ∃ (p : Addr) (ad : HAd) (st : HS) (R : AL) (i : Int), x = .ref p ∧ y = .int i ∧ L = HeapIs A.Heap p ad st :: R ∧ (isHand st i → Q .non L) ∧ (¬ isHand st i → E (.ref A.NoHand) L)
/-- what a hand holds -/
def HS.at_ (st : HS) (i : Int) : Option Nat := st.hands.getD i.toNat none
def isSlot (st : HS) (b : Nat) (k : Int) : Prop := 0 ≤ k ∧ k < ((st.rowAt b).length : Int)
def P_row_of (K : PySem.W.Frag) (A : Ex) : Pm := pm3 fun x y z L Q E => ∃ (p : Addr) (ad : HAd) (st : HS) (R : AL) (i k : Int), x = .ref p ∧ y = .int i ∧ z = .int k ∧ L = HeapIs A.Heap p ad st :: R ∧ HW st ∧ isHand st i ∧ (∀ b, st.at_ i = some b → b ∈ st.there) ∧
  (st.at_ i = none → E (.ref A.NothingHeld) L) ∧ (∀ b, st.at_ i = some b → ¬ isSlot st b k → E (.ref A.NoSlot) L) ∧
  ∀ (b j : Nat) (a : Addr), st.at_ i = some b → isSlot st b k → st.there[j]? = some b → ad.rs[j]? = some a → Q (.ref a) L
def P_make (K : PySem.W.Frag) (A : Ex) : Pm := pm3 fun x y z L Q E => ∃ (p : Addr) (ad : HAd) (st : HS) (R : AL) (i k : Int), x = .ref p ∧ y = .int i ∧ z = .int k ∧ L = HeapIs A.Heap p ad st :: R ∧ HW st ∧
  (¬ isHand st i → E (.ref A.NoHand) L) ∧ (isHand st i → ¬ (0 ≤ k ∧ k ≤ 4) → E (.ref A.NoSlot) L) ∧ (isHand st i → (0 ≤ k ∧ k ≤ 4) → st.room ≤ st.there.length → E (.ref A.NoRoom) L) ∧
  (isHand st i → (0 ≤ k ∧ k ≤ 4) → st.there.length < st.room → ∀ ad', Q (nV st.rows.length) (HeapIs A.Heap p ad' (st.make i.toNat k.toNat) :: R))
def P_take (K : PySem.W.Frag) (A : Ex) : Pm := pm4 fun x y z u L Q E => ∃ (p : Addr) (ad : HAd) (st : HS) (R : AL) (i j k : Int), x = .ref p ∧ y = .int i ∧ z = .int j ∧ u = .int k ∧ L = HeapIs A.Heap p ad st :: R ∧ HW st ∧ (∀ b, st.at_ j = some b → b ∈ st.there) ∧
  (¬ (isHand st i ∧ isHand st j) → E (.ref A.NoHand) L) ∧ (isHand st i → isHand st j → st.at_ j = none → E (.ref A.NothingHeld) L) ∧ (∀ b, isHand st i → isHand st j → st.at_ j = some b → ¬ isSlot st b k → E (.ref A.NoSlot) L) ∧
  ∀ b, isHand st i → isHand st j → st.at_ j = some b → isSlot st b k → Q .non (HeapIs A.Heap p ad (st.take i.toNat b k.toNat) :: R)
def P_put (K : PySem.W.Frag) (A : Ex) : Pm := pm4 fun x y z u L Q E => ∃ (p : Addr) (ad : HAd) (st : HS) (R : AL) (i k j : Int), x = .ref p ∧ y = .int i ∧ z = .int k ∧ u = .int j ∧ L = HeapIs A.Heap p ad st :: R ∧ HW st ∧ (∀ b, st.at_ i = some b → b ∈ st.there) ∧
  (¬ (isHand st i ∧ isHand st j) → E (.ref A.NoHand) L) ∧ (isHand st i → isHand st j → st.at_ i = none → E (.ref A.NothingHeld) L) ∧ (∀ b, isHand st i → isHand st j → st.at_ i = some b → ¬ isSlot st b k → E (.ref A.NoSlot) L) ∧
  ∀ b, isHand st i → isHand st j → st.at_ i = some b → isSlot st b k → Q .non (HeapIs A.Heap p ad (st.put b k.toNat (st.at_ j)) :: R)
def P_share (K : PySem.W.Frag) (A : Ex) : Pm := pm3 fun x y z L Q E => ∃ (p : Addr) (ad : HAd) (st : HS) (R : AL) (i j : Int), x = .ref p ∧ y = .int i ∧ z = .int j ∧ L = HeapIs A.Heap p ad st :: R ∧
  (¬ (isHand st i ∧ isHand st j) → E (.ref A.NoHand) L) ∧ (isHand st i → isHand st j → Q .non (HeapIs A.Heap p ad (st.share i.toNat j.toNat) :: R))
def P_drop (K : PySem.W.Frag) (A : Ex) : Pm := pm2 fun x y L Q E => ∃ (p : Addr) (ad : HAd) (st : HS) (R : AL) (i : Int), x = .ref p ∧ y = .int i ∧ L = HeapIs A.Heap p ad st :: R ∧
  (¬ isHand st i → E (.ref A.NoHand) L) ∧ (isHand st i → Q .non (HeapIs A.Heap p ad (st.drop i.toNat) :: R))
def P_held (K : PySem.W.Frag) (A : Ex) : Pm := pm2 fun x y L Q E => ∃ (p : Addr) (ad : HAd) (st : HS) (R : AL) (i : Int), x = .ref p ∧ y = .int i ∧ L = HeapIs A.Heap p ad st :: R ∧
  (¬ isHand st i → E (.ref A.NoHand) L) ∧ (isHand st i → Q (oV (st.at_ i)) L)
def P_look (K : PySem.W.Frag) (A : Ex) : Pm := pm2 fun x y L Q E => ∃ (p : Addr) (ad : HAd) (st : HS) (R : AL) (b : Int), x = .ref p ∧ y = .int b ∧ L = HeapIs A.Heap p ad st :: R ∧ HW st ∧
  ((∀ c ∈ st.there, (c : Int) ≠ b) → E (.ref A.NoBox) L) ∧ (∀ c : Nat, b = (c : Int) → c ∈ st.there → ∀ d, Q (.ref d) (pt d (.lst ((st.rowAt c).map oV)) :: L))
def P_boxes (K : PySem.W.Frag) (A : Ex) : Pm := pm1 fun x L Q _ => ∃ (p : Addr) (ad : HAd) (st : HS) (R : AL), x = .ref p ∧ L = HeapIs A.Heap p ad st :: R ∧ HW st ∧ ∀ d, Q (.ref d) (pt d (.lst (st.there.map nV)) :: L)
def P_phase (K : PySem.W.Frag) (A : Ex) : Pm := pm1 fun x L Q _ => ∃ (p : Addr) (ad : HAd) (st : HS) (R : AL), x = .ref p ∧ L = HeapIs A.Heap p ad st :: R ∧ Q (.str st.stage.str) L
def P_rounds (K : PySem.W.Frag) (A : Ex) : Pm := pm1 fun x L Q _ => ∃ (p : Addr) (ad : HAd) (st : HS) (R : AL), x = .ref p ∧ L = HeapIs A.Heap p ad st :: R ∧ Q (nV st.ended) L
def P_marked (K : PySem.W.Frag) (A : Ex) : Pm := pm1 fun x L Q _ => ∃ (p : Addr) (ad : HAd) (st : HS) (R : AL) (T : List Nat), x = .ref p ∧ L = HeapIs A.Heap p ad st :: R ∧ T.Perm st.seen ∧ T.Pairwise (· ≤ ·) ∧ ∀ d, Q (.ref d) (pt d (.lst (T.map nV)) :: L)
def P_waiting (K : PySem.W.Frag) (A : Ex) : Pm := pm1 fun x L Q _ => ∃ (p : Addr) (ad : HAd) (st : HS) (R : AL), x = .ref p ∧ L = HeapIs A.Heap p ad st :: R ∧ ∀ d, Q (.ref d) (pt d (.lst ((st.seen.drop st.looked).map nV)) :: L)
def P_mark (K : PySem.W.Frag) (A : Ex) : Pm := pm2 fun x y L Q _ => ∃ (p : Addr) (ad : HAd) (st : HS) (R : AL) (o : Option Nat), x = .ref p ∧ y = oV o ∧ L = HeapIs A.Heap p ad st :: R ∧ HW st ∧ Q .non (HeapIs A.Heap p ad (st.mark o) :: R)
def P_begin (K : PySem.W.Frag) (A : Ex) : Pm := pm1 fun x L Q _ => ∃ (p : Addr) (ad : HAd) (st : HS) (R : AL), x = .ref p ∧ L = HeapIs A.Heap p ad st :: R ∧ HW st ∧ ∀ ad', Q .non (HeapIs A.Heap p ad' st.begin_ :: R)
def P_look_at (K : PySem.W.Frag) (A : Ex) : Pm := pm1 fun x L Q _ => ∃ (p : Addr) (ad : HAd) (st : HS) (R : AL) (b : Nat), x = .ref p ∧ L = HeapIs A.Heap p ad st :: R ∧ HW st ∧ st.seen[st.looked]? = some b ∧ b ∈ st.there ∧ Q .non (HeapIs A.Heap p ad st.lookAt :: R)
def P_sweep (K : PySem.W.Frag) (A : Ex) : Pm := pm1 fun x L Q _ => ∃ (p : Addr) (ad : HAd) (st : HS) (R : AL) (b : Nat), x = .ref p ∧ L = HeapIs A.Heap p ad st :: R ∧ HW st ∧ st.old[st.swept]? = some b ∧ (b ∉ st.seen → b ∈ st.there) ∧ ∀ ad', Q (oV st.sweep.2) (HeapIs A.Heap p ad' st.sweep.1 :: R)
def P_settle (K : PySem.W.Frag) (A : Ex) : Pm := pm1 fun x L Q _ => ∃ (p : Addr) (ad : HAd) (st : HS) (R : AL), x = .ref p ∧ L = HeapIs A.Heap p ad st :: R ∧ ∀ ad', Q .non (HeapIs A.Heap p ad' st.settle :: R)
/-- what a piece leans on -/
structure PcW (st : HS) : Prop where
  mrk : st.stage = .marking → ∃ b, st.seen[st.looked]? = some b ∧ b ∈ st.there
  sw : st.stage = .sweeping → ∃ b, st.old[st.swept]? = some b ∧ (b ∉ st.seen → b ∈ st.there)
def P_piece (K : PySem.W.Frag) (A : Ex) : Pm := pm1 fun x L Q _ => ∃ (p : Addr) (ad : HAd) (st : HS) (R : AL), x = .ref p ∧ L = HeapIs A.Heap p ad st :: R ∧ HW st ∧ PcW st ∧ ∀ ad', Q (oV st.piece.2) (HeapIs A.Heap p ad' st.piece.1 :: R)
def P_work (K : PySem.W.Frag) (A : Ex) : Pm := pm2 fun x y L Q E => ∃ (p : Addr) (ad : HAd) (st : HS) (R : AL) (n : Int), x = .ref p ∧ y = .int n ∧ L = HeapIs A.Heap p ad st :: R ∧
  (¬ (0 ≤ n ∧ n ≤ 2500) → E (.ref A.NoWork) L) ∧ ((0 ≤ n ∧ n ≤ 2500) → (∀ k : Nat, (k : Int) < n → HW (HS.work k st).1 ∧ PcW (HS.work k st).1) ∧ ∀ d ad', Q (.ref d) (pt d (.lst ((HS.work n.toNat st).2.map nV)) :: HeapIs A.Heap p ad' (HS.work n.toNat st).1 :: R))
/-! ### at a call -/
section
variable {K : PySem.W.Frag} {A : Ex} {L R : AL} {Q : V → AL → Prop} {Ea : Value → AL → Prop} {p : Addr} {ad : HAd} {st : HS}
theorem hN_m {m : Str} (h : hN.contains m = false) : m ∉ hN := fun z => by
  have : hN.contains m = true := List.contains_iff_mem.mpr z
  rw [h] at this; cases this
theorem s_raiseE {C : Addr} {D : EA} {E : XK} {σ : L2.St} {M : AL} (he : ELe Ea E) (e : Ent L M) (q : Ea (.ref C) M) : SS (tRaiseC C E) D σ L := fun H s _ _ => he _ _ _ (e H s) q
/-- the receiver of a method -/
theorem meth_h {m : Str} {tr : TA} {σ : L2.St} {B : List V → AL → Prop} {dx : Addr} {fv : List V} (h : Has L p (.ins A.Heap dx (hF fv))) (hm : hN.contains m = false) (k : SA tr σ L B) :
    ∃ a dx fs, V.ref p = .ref a ∧ Has L a (.ins A.Heap dx fs) ∧ fs.lookup m = none ∧ SA tr σ L B := ⟨p, dx, _, rfl, h, hF_no (hN_m hm), k⟩
theorem do_mark {o : Option Nat} (e : Ent L (HeapIs A.Heap p ad st :: R)) (w : HW st) (q : Q .non (HeapIs A.Heap p ad (st.mark o) :: R)) : ∃ L2, Ent L L2 ∧ P_mark K A [.ref p, oV o] L2 Q Ea := ⟨_, e, _, _, rfl, p, ad, st, R, o, rfl, rfl, rfl, w, q⟩
theorem do_boxes (e : Ent L (HeapIs A.Heap p ad st :: R)) (w : HW st) (q : ∀ d, Q (.ref d) (pt d (.lst (st.there.map nV)) :: HeapIs A.Heap p ad st :: R)) : ∃ L2, Ent L L2 ∧ P_boxes K A [.ref p] L2 Q Ea := ⟨_, e, _, rfl, p, ad, st, R, rfl, rfl, w, q⟩
theorem do_phase (e : Ent L (HeapIs A.Heap p ad st :: R)) (q : Q (.str st.stage.str) (HeapIs A.Heap p ad st :: R)) : ∃ L2, Ent L L2 ∧ P_phase K A [.ref p] L2 Q Ea := ⟨_, e, _, rfl, p, ad, st, R, rfl, rfl, q⟩
theorem do_rounds (e : Ent L (HeapIs A.Heap p ad st :: R)) (q : Q (nV st.ended) (HeapIs A.Heap p ad st :: R)) : ∃ L2, Ent L L2 ∧ P_rounds K A [.ref p] L2 Q Ea := ⟨_, e, _, rfl, p, ad, st, R, rfl, rfl, q⟩
theorem do_marked {T : List Nat} (e : Ent L (HeapIs A.Heap p ad st :: R)) (hp : T.Perm st.seen) (ht : T.Pairwise (· ≤ ·)) (q : ∀ d, Q (.ref d) (pt d (.lst (T.map nV)) :: HeapIs A.Heap p ad st :: R)) : ∃ L2, Ent L L2 ∧ P_marked K A [.ref p] L2 Q Ea := ⟨_, e, _, rfl, p, ad, st, R, T, rfl, rfl, hp, ht, q⟩
theorem do_waiting (e : Ent L (HeapIs A.Heap p ad st :: R)) (q : ∀ d, Q (.ref d) (pt d (.lst ((st.seen.drop st.looked).map nV)) :: HeapIs A.Heap p ad st :: R)) : ∃ L2, Ent L L2 ∧ P_waiting K A [.ref p] L2 Q Ea := ⟨_, e, _, rfl, p, ad, st, R, rfl, rfl, q⟩
theorem do_begin (e : Ent L (HeapIs A.Heap p ad st :: R)) (w : HW st) (q : ∀ ad', Q .non (HeapIs A.Heap p ad' st.begin_ :: R)) : ∃ L2, Ent L L2 ∧ P_begin K A [.ref p] L2 Q Ea := ⟨_, e, _, rfl, p, ad, st, R, rfl, rfl, w, q⟩
theorem do_look_at {b : Nat} (e : Ent L (HeapIs A.Heap p ad st :: R)) (w : HW st) (h1 : st.seen[st.looked]? = some b) (h2 : b ∈ st.there) (q : Q .non (HeapIs A.Heap p ad st.lookAt :: R)) : ∃ L2, Ent L L2 ∧ P_look_at K A [.ref p] L2 Q Ea := ⟨_, e, _, rfl, p, ad, st, R, b, rfl, rfl, w, h1, h2, q⟩
theorem do_sweep {b : Nat} (e : Ent L (HeapIs A.Heap p ad st :: R)) (w : HW st) (h1 : st.old[st.swept]? = some b) (h2 : b ∉ st.seen → b ∈ st.there) (q : ∀ ad', Q (oV st.sweep.2) (HeapIs A.Heap p ad' st.sweep.1 :: R)) : ∃ L2, Ent L L2 ∧ P_sweep K A [.ref p] L2 Q Ea := ⟨_, e, _, rfl, p, ad, st, R, b, rfl, rfl, w, h1, h2, q⟩
theorem do_settle (e : Ent L (HeapIs A.Heap p ad st :: R)) (q : ∀ ad', Q .non (HeapIs A.Heap p ad' st.settle :: R)) : ∃ L2, Ent L L2 ∧ P_settle K A [.ref p] L2 Q Ea := ⟨_, e, _, rfl, p, ad, st, R, rfl, rfl, q⟩
theorem do_piece (e : Ent L (HeapIs A.Heap p ad st :: R)) (w : HW st) (pw : PcW st) (q : ∀ ad', Q (oV st.piece.2) (HeapIs A.Heap p ad' st.piece.1 :: R)) : ∃ L2, Ent L L2 ∧ P_piece K A [.ref p] L2 Q Ea := ⟨_, e, _, rfl, p, ad, st, R, rfl, rfl, w, pw, q⟩
theorem do_held {i : Nat} (e : Ent L (HeapIs A.Heap p ad st :: R)) (hi : i < st.hands.length) (q : Q (oV (st.hands.getD i none)) (HeapIs A.Heap p ad st :: R)) : ∃ L2, Ent L L2 ∧ P_held K A [.ref p, nV i] L2 Q Ea :=
  ⟨_, e, _, _, rfl, p, ad, st, R, i, rfl, rfl, rfl, fun n => absurd ⟨by omega, by omega⟩ n, fun _ => by unfold HS.at_; rw [Int.toNat_natCast]; exact q⟩
theorem do_look {b : Nat} (e : Ent L (HeapIs A.Heap p ad st :: R)) (w : HW st) (hb : b ∈ st.there) (q : ∀ d, Q (.ref d) (pt d (.lst ((st.rowAt b).map oV)) :: HeapIs A.Heap p ad st :: R)) : ∃ L2, Ent L L2 ∧ P_look K A [.ref p, nV b] L2 Q Ea :=
  ⟨_, e, _, _, rfl, p, ad, st, R, b, rfl, rfl, rfl, w, fun n => absurd rfl (n b hb), fun c hc _ => by
    have : b = c := by omega
    subst this
    exact q⟩
theorem do_make {i k : Nat} (e : Ent L (HeapIs A.Heap p ad st :: R)) (w : HW st) (hi : i < st.hands.length) (hk : k ≤ 4) (hr : st.there.length < st.room) (q : ∀ ad', Q (nV st.rows.length) (HeapIs A.Heap p ad' (st.make i k) :: R)) : ∃ L2, Ent L L2 ∧ P_make K A [.ref p, nV i, nV k] L2 Q Ea :=
  ⟨_, e, _, _, _, rfl, p, ad, st, R, i, k, rfl, rfl, rfl, rfl, w, fun n => absurd ⟨by omega, by omega⟩ n, fun _ n => absurd ⟨by omega, by omega⟩ n, fun _ _ n => absurd n (by omega), fun _ _ _ => by simpa using q⟩
theorem do_take {i j k b : Nat} (e : Ent L (HeapIs A.Heap p ad st :: R)) (w : HW st) (hi : i < st.hands.length) (hj : j < st.hands.length) (hb : st.hands.getD j none = some b) (ht : b ∈ st.there) (hk : k < (st.rowAt b).length) (q : Q .non (HeapIs A.Heap p ad (st.take i b k) :: R)) :
    ∃ L2, Ent L L2 ∧ P_take K A [.ref p, nV i, nV j, nV k] L2 Q Ea := by
  have e1 : st.at_ (j : Int) = some b := by unfold HS.at_; rw [Int.toNat_natCast]; exact hb
  refine ⟨_, e, _, _, _, _, rfl, p, ad, st, R, i, j, k, rfl, rfl, rfl, rfl, rfl, w, fun c hc => ?_, fun n => absurd ⟨⟨by omega, by omega⟩, by omega, by omega⟩ n, fun _ _ n => ?_, fun c _ _ hc n => ?_, fun c _ _ hc _ => ?_⟩
  · rw [e1] at hc; cases hc; exact ht
  · rw [e1] at n; cases n
  · rw [e1] at hc; cases hc; exact absurd ⟨by omega, by omega⟩ n
  · rw [e1] at hc; cases hc; simpa using q
theorem do_put {i j k b : Nat} (e : Ent L (HeapIs A.Heap p ad st :: R)) (w : HW st) (hi : i < st.hands.length) (hj : j < st.hands.length) (hb : st.hands.getD i none = some b) (ht : b ∈ st.there) (hk : k < (st.rowAt b).length) (q : Q .non (HeapIs A.Heap p ad (st.put b k (st.hands.getD j none)) :: R)) :
    ∃ L2, Ent L L2 ∧ P_put K A [.ref p, nV i, nV k, nV j] L2 Q Ea := by
  have e1 : st.at_ (i : Int) = some b := by unfold HS.at_; rw [Int.toNat_natCast]; exact hb
  have e2 : st.at_ (j : Int) = st.hands.getD j none := by unfold HS.at_; rw [Int.toNat_natCast]
  refine ⟨_, e, _, _, _, _, rfl, p, ad, st, R, i, k, j, rfl, rfl, rfl, rfl, rfl, w, fun c hc => ?_, fun n => absurd ⟨⟨by omega, by omega⟩, by omega, by omega⟩ n, fun _ _ n => ?_, fun c _ _ hc n => ?_, fun c _ _ hc _ => ?_⟩
  · rw [e1] at hc; cases hc; exact ht
  · rw [e1] at n; cases n
  · rw [e1] at hc; cases hc; exact absurd ⟨by omega, by omega⟩ n
  · rw [e1] at hc; cases hc; rw [e2]; simpa using q
theorem do_share {i j : Nat} (e : Ent L (HeapIs A.Heap p ad st :: R)) (hi : i < st.hands.length) (hj : j < st.hands.length) (q : Q .non (HeapIs A.Heap p ad (st.share i j) :: R)) : ∃ L2, Ent L L2 ∧ P_share K A [.ref p, nV i, nV j] L2 Q Ea :=
  ⟨_, e, _, _, _, rfl, p, ad, st, R, i, j, rfl, rfl, rfl, rfl, fun n => absurd ⟨⟨by omega, by omega⟩, by omega, by omega⟩ n, fun _ _ => by simpa using q⟩
theorem do_drop {i : Nat} (e : Ent L (HeapIs A.Heap p ad st :: R)) (hi : i < st.hands.length) (q : Q .non (HeapIs A.Heap p ad (st.drop i) :: R)) : ∃ L2, Ent L L2 ∧ P_drop K A [.ref p, nV i] L2 Q Ea :=
  ⟨_, e, _, _, rfl, p, ad, st, R, i, rfl, rfl, rfl, fun n => absurd ⟨by omega, by omega⟩ n, fun _ => by simpa using q⟩
theorem do_work {n : Nat} (e : Ent L (HeapIs A.Heap p ad st :: R)) (hn : n ≤ 2500) (hw : ∀ k, k < n → HW (HS.work k st).1 ∧ PcW (HS.work k st).1) (q : ∀ d ad', Q (.ref d) (pt d (.lst ((HS.work n st).2.map nV)) :: HeapIs A.Heap p ad' (HS.work n st).1 :: R)) : ∃ L2, Ent L L2 ∧ P_work K A [.ref p, nV n] L2 Q Ea :=
  ⟨_, e, _, _, rfl, p, ad, st, R, n, rfl, rfl, rfl, fun m => absurd ⟨by omega, by omega⟩ m, fun _ => ⟨fun k hk => hw k (by omega), by simpa using q⟩⟩
end
/-! ### chains of two comparisons -/
abbrev Vl (te : TE) (σ : L2.St) (L : AL) (v : V) : Prop := ∀ Q : V → AL → Prop, Q v L → SE te σ L Q
section
variable {σ : L2.St} {L : AL} {Q : V → AL → Prop} {ta tb tc : TE} {i j k : Int}
theorem ch_le_lt (ha : Vl ta σ L (.int i)) (hb : Vl tb σ L (.int j)) (hc : Vl tc σ L (.int k)) (q : Q (.bl (decide (i ≤ j ∧ j < k))) L) : SE (tChain rLeI rLtI ta tb tc) σ L Q := by
  refine e_chain (ha _ (hb _ (r_I0 (ex_c (fun c => hc _ (r_I0 ?_)) fun c => ?_))))
  · have e : decide (i ≤ j ∧ j < k) = decide (j < k) := by simp [c]
    rw [← e]; exact q
  · have e : decide (i ≤ j ∧ j < k) = false := by simp [c]
    rw [← e]; exact q
theorem ch_le_le (ha : Vl ta σ L (.int i)) (hb : Vl tb σ L (.int j)) (hc : Vl tc σ L (.int k)) (q : Q (.bl (decide (i ≤ j ∧ j ≤ k))) L) : SE (tChain rLeI rLeI ta tb tc) σ L Q := by
  refine e_chain (ha _ (hb _ (r_I0 (ex_c (fun c => hc _ (r_I0 ?_)) fun c => ?_))))
  · have e : decide (i ≤ j ∧ j ≤ k) = decide (j ≤ k) := by simp [c]
    rw [← e]; exact q
  · have e : decide (i ≤ j ∧ j ≤ k) = false := by simp [c]
    rw [← e]; exact q
end
/-- not a test -/
theorem ex_not {c : Prop} [Decidable c] {P R : Prop} (p : ¬ c → P) (r : c → R) : ∃ b, V.bl (decide c) = V.bl b ∧ ((!b) = true → P) ∧ ((!b) = false → R) := by
  refine ⟨_, rfl, fun h => p ?_, fun h => r ?_⟩
  · intro hc; rw [decide_eq_true hc] at h; cases h
  · apply Decidable.byContradiction; intro hc; rw [decide_eq_false hc] at h; cases h
end Mp
/-! Pure theorems of the laws' small helpers. -/
namespace Mp
open PySem L2 PyProof.Rows
local macro_rules | `(tactic| tm_at "hs") => `(tactic| with_reducible first
  | exact has_hd
  | exact heap_ins
  | exact heap_h
  | exact heap_d
  | exact heap_o
  | exact heap_s
  | exact heap_r
  | exact rows_p
  | assumption
  | (apply has_tl; tm_at "hs"))
local macro_rules | `(tactic| tm_at "wr") => `(tactic| with_reducible first
  | exact wr_hd
  | exact heap_wr_hands
  | (apply wr_tl; tm_at "wr"))
local macro_rules | `(tactic| tm_at "sq") => `(tactic| with_reducible first
  | assumption
  | exact scr_hd
  | exact Has.sq has_hd
  | exact Has.sq heap_h
  | exact Has.sq heap_o
  | exact Has.sq heap_r
  | exact Has.sq rows_p
  | (apply Has.sq; assumption)
  | (apply sq_tl; tm_at "sq"))
local macro_rules | `(tactic| tm_at "w_i") => `(tactic| with_reducible refine s_if ?_)
local macro_rules | `(tactic| tm_at "w_s") => `(tactic| with_reducible first
  | refine s_seq ?_
  | refine s_asg ?_
  | refine s_ret ?_
  | refine s_next ?_
  | refine s_drop ?_
  | refine s_setL ?_
  | refine s_retN ?_
  | refine s_dput ?_
  | refine s_fld ?_
  | refine s_fldaug ?_
  | refine s_brk ?_
  | refine s_cnt ?_)
local macro_rules | `(tactic| tm_at "w_e") => `(tactic| first
  | ((with_reducible apply e_var); exact rfl)
  | with_reducible refine e_c ?_
  | with_reducible refine e_op ?_
  | with_reducible refine e_cb ?_
  | with_reducible refine e_call ?_
  | with_reducible refine e_callE (by assumption) ?_
  | with_reducible refine e_fld ?_
  | with_reducible refine e_bm ?_
  | with_reducible refine e_bm0 ?_
  | with_reducible refine e_meth ?_
  | with_reducible refine e_methE (by assumption) ?_
  | with_reducible refine e_dget ?_
  | with_reducible refine e_din ?_
  | with_reducible refine e_dnotin ?_
  | with_reducible refine e_andV ?_
  | with_reducible refine e_orV ?_
  | with_reducible refine e_notV ?_
  | ((with_reducible show SE (tChain rLeI rLtI _ _ _) _ _ _); refine ch_le_lt (fun _ q => by tm_at "go"; exact q) (fun _ q => by tm_at "go"; exact q) (fun _ q => by tm_at "go"; exact q) ?_)
  | ((with_reducible show SE (tChain rLeI rLeI _ _ _) _ _ _); refine ch_le_le (fun _ q => by tm_at "go"; exact q) (fun _ q => by tm_at "go"; exact q) (fun _ q => by tm_at "go"; exact q) ?_)
  | with_reducible refine e_chain ?_
  | with_reducible refine e_sl ?_
  | with_reducible refine e_lst ?_
  | with_reducible refine e_tup ?_
  | with_reducible refine e_un ?_
  | with_reducible refine e_dnew ?_)
local macro_rules | `(tactic| tm_at "w_t") => `(tactic| with_reducible first
  | refine t_test ?_
  | refine t_B ?_
  | refine t_and ?_
  | refine t_or ?_
  | refine t_not ?_
  | refine t_tru ?_
  | refine t_yes ?_)
local macro_rules | `(tactic| tm_at "w_g") => `(tactic| with_reducible first
  | refine g_hands (by assumption) (by tm_at "hs") (by with_unfolding_all exact rfl) ?_
  | refine g_room (by assumption) (by tm_at "hs") (by with_unfolding_all exact rfl) ?_
  | refine g_slots (by assumption) (by tm_at "hs") (by with_unfolding_all exact rfl) ?_
  | refine g_made (by assumption) (by tm_at "hs") (by with_unfolding_all exact rfl) ?_
  | refine g_ended (by assumption) (by tm_at "hs") (by with_unfolding_all exact rfl) ?_
  | refine g_stage (by assumption) (by tm_at "hs") (by with_unfolding_all exact rfl) ?_
  | refine g_old (by assumption) (by tm_at "hs") (by with_unfolding_all exact rfl) ?_
  | refine g_begun (by assumption) (by tm_at "hs") (by with_unfolding_all exact rfl) ?_
  | refine g_seen (by assumption) (by tm_at "hs") (by with_unfolding_all exact rfl) ?_
  | refine g_row (by assumption) (by tm_at "hs") (by with_unfolding_all exact rfl) ?_
  | refine g_looked (by assumption) (by tm_at "hs") (by with_unfolding_all exact rfl) ?_
  | refine g_swept (by assumption) (by tm_at "hs") (by with_unfolding_all exact rfl) ?_)
local macro_rules | `(tactic| tm_at "w_u") => `(tactic| with_reducible first
  | refine u_hands (by assumption) (by tm_at "hs") (by with_unfolding_all exact Nat.le_of_ble_eq_true rfl) (by tm_at "wr") ?_
  | refine u_room (by assumption) (by tm_at "hs") (by with_unfolding_all exact Nat.le_of_ble_eq_true rfl) (by tm_at "wr") ?_
  | refine u_slots (by assumption) (by tm_at "hs") (by with_unfolding_all exact Nat.le_of_ble_eq_true rfl) (by tm_at "wr") ?_
  | refine u_made (by assumption) (by tm_at "hs") (by with_unfolding_all exact Nat.le_of_ble_eq_true rfl) (by tm_at "wr") ?_
  | refine u_ended (by assumption) (by tm_at "hs") (by with_unfolding_all exact Nat.le_of_ble_eq_true rfl) (by tm_at "wr") ?_
  | refine u_stage (by assumption) (by tm_at "hs") (by with_unfolding_all exact Nat.le_of_ble_eq_true rfl) (by tm_at "wr") ?_
  | refine u_old (by assumption) (by tm_at "hs") (by with_unfolding_all exact Nat.le_of_ble_eq_true rfl) (by tm_at "wr") ?_
  | refine u_begun (by assumption) (by tm_at "hs") (by with_unfolding_all exact Nat.le_of_ble_eq_true rfl) (by tm_at "wr") ?_
  | refine u_seen (by assumption) (by tm_at "hs") (by with_unfolding_all exact Nat.le_of_ble_eq_true rfl) (by tm_at "wr") ?_
  | refine u_row (by assumption) (by tm_at "hs") (by with_unfolding_all exact Nat.le_of_ble_eq_true rfl) (by tm_at "wr") ?_
  | refine u_looked (by assumption) (by tm_at "hs") (by with_unfolding_all exact Nat.le_of_ble_eq_true rfl) (by tm_at "wr") ?_
  | refine u_swept (by assumption) (by tm_at "hs") (by with_unfolding_all exact Nat.le_of_ble_eq_true rfl) (by tm_at "wr") ?_
  | refine n_hands (by assumption) (by tm_at "hs") (by with_unfolding_all exact rfl) (by tm_at "wr") ?_
  | refine n_room (by assumption) (by tm_at "hs") (by with_unfolding_all exact rfl) (by tm_at "wr") ?_
  | refine n_slots (by assumption) (by tm_at "hs") (by with_unfolding_all exact rfl) (by tm_at "wr") ?_
  | refine n_made (by assumption) (by tm_at "hs") (by with_unfolding_all exact rfl) (by tm_at "wr") ?_
  | refine n_ended (by assumption) (by tm_at "hs") (by with_unfolding_all exact rfl) (by tm_at "wr") ?_
  | refine n_stage (by assumption) (by tm_at "hs") (by with_unfolding_all exact rfl) (by tm_at "wr") ?_
  | refine n_old (by assumption) (by tm_at "hs") (by with_unfolding_all exact rfl) (by tm_at "wr") ?_
  | refine n_begun (by assumption) (by tm_at "hs") (by with_unfolding_all exact rfl) (by tm_at "wr") ?_
  | refine n_seen (by assumption) (by tm_at "hs") (by with_unfolding_all exact rfl) (by tm_at "wr") ?_
  | refine n_row (by assumption) (by tm_at "hs") (by with_unfolding_all exact rfl) (by tm_at "wr") ?_
  | refine n_looked (by assumption) (by tm_at "hs") (by with_unfolding_all exact rfl) (by tm_at "wr") ?_
  | refine n_swept (by assumption) (by tm_at "hs") (by with_unfolding_all exact rfl) (by tm_at "wr") ?_)
local macro_rules | `(tactic| tm_at "w_r") => `(tactic| first
  | with_reducible refine r_I0 ?_
  | ((with_reducible refine r_I ?_ ?_); (first | exact ⟨by decide, by decide⟩ | exact ⟨by omega, by omega⟩ | (show (0 : Int) < _; first | decide | omega | assumption)))
  | with_reducible refine r_isNo ?_
  | with_reducible refine r_notNo ?_
  | with_reducible refine r_eq rfl ?_
  | with_reducible refine r_ne rfl ?_
  | ((with_reducible apply c_len); (tm_at "sq"))
  | with_reducible refine isi_int_int ?_
  | with_reducible refine isi_int_bool ?_
  | with_reducible refine isi_non_int ?_
  | with_reducible refine isi_str ?_
  | ((with_reducible apply isi_list); (tm_at "hs"))
  | with_reducible refine c_intB ?_
  | with_reducible refine c_intI ?_
  | with_reducible refine c_max2 ?_
  | with_reducible refine c_min2 ?_
  | (with_reducible refine r_dget (by tm_at "hs") (by assumption) ?_)
  | ((with_reducible apply r_dnotT); (tm_at "hs"))
  | ((with_reducible apply r_dinT); (tm_at "hs"))
  | ((with_reducible apply r_din); (tm_at "hs"))
  | ((with_reducible apply r_dnotin); (tm_at "hs"))
  | tm_at "w_g"
  | ((with_reducible apply c_lenD); (tm_at "hs"))
  | ((with_reducible apply r_listD); (tm_at "hs")))
local macro_rules | `(tactic| tm_at "w1") => `(tactic| first
  | ((with_reducible show SS _ _ _ _); first | tm_at "w_s" | tm_at "w_i")
  | tm_at "w0")
local macro_rules | `(tactic| tm_at "w0") => `(tactic| first
  | ((with_reducible show SE _ _ _ _); tm_at "w_e")
  | ((with_reducible show RE _ _ _); tm_at "w_r")
  | ((with_reducible show ST _ _ _ _); tm_at "w_t")
  | ((with_reducible show SA _ _ _ _); with_reducible first | refine a_cons ?_ | refine a_nil ?_)
  | ((with_reducible show SO _ _ _ _); with_reducible first | refine o_none ?_ | refine o_some ?_)
  | ((with_reducible show And _ _); with_reducible refine And.intro (ty_list (by tm_at "sq")) ?_)
  | ((with_reducible show Exists _); first | with_reducible refine do_cell (by tm_at "sq") (by first | decide | omega) ?_ | (with_reducible refine meth_h (by tm_at "hs") (by decide +kernel) ?_) | tm_at "w_u"))
local macro_rules | `(tactic| tm_at "go") => `(tactic| repeat (tm_at "w1"))
local macro_rules | `(tactic| tm_at "w1n") => `(tactic| first
  | ((with_reducible show SS _ _ _ _); tm_at "w_s")
  | tm_at "w0")
local macro_rules | `(tactic| tm_at "gn") => `(tactic| repeat (tm_at "w1n"))
def N_law_cell_at : List Str := ["_law_script", "_law_k"]
def t_law_cell_at (K : PySem.W.Frag) (A : Ex) (E : XK) : TS :=
    (tSeq (tIfS (tTest (tOp rLtI (tVar 1) (tCB (rLen K) (tCons (tVar 0) tNil)))) (tRet (tOp (rIxL K) (tVar 0) (tVar 1))) tNext)
    (tRet (tC (.int 0))))
def P_law_whole (K : PySem.W.Frag) (_ : Ex) : Pm := pm1 fun x L Q _ => ∃ o : Option Nat, x = oV o ∧ Q (.bl o.isSome) L
def N_law_whole : List Str := ["_law_found"]
def t_law_whole (K : PySem.W.Frag) (A : Ex) (E : XK) : TS :=
    (tRet (tAndV (tCB (rIsi K) (tCons (tVar 0) (tCons (tC (.ty "int")) tNil))) (tNotV (tCB (rIsi K) (tCons (tVar 0) (tCons (tC (.ty "bool")) tNil))))))
def P_law_numbers (K : PySem.W.Frag) (_ : Ex) : Pm := pm2 fun x y L Q _ => ∃ (a b : Addr) (xs ys : List (Option Nat)), x = .ref a ∧ y = .ref b ∧ Has L a (.lst (xs.map oV)) ∧ SqA K L b (ys.map oV) ∧ ys.length ≤ 100000 ∧ Q (.bl (decide (xs = ys))) L
def N_law_numbers : List Str := ["_law_found", "_law_due", "_law_k"]
def t_law_numbers (K : PySem.W.Frag) (A : Ex) (E : XK) : TS :=
    (tSeq (tIfS (tOr (tNot (tB (tCB (rIsi K) (tCons (tVar 0) (tCons (tC (.ty "list")) tNil))))) (tTest (tOp rNe (tCB (rLen K) (tCons (tVar 0) tNil)) (tCB (rLen K) (tCons (tVar 1) tNil))))) (tRet (tC (.bl false))) tNext)
    (tSeq (tFor (iRng1 (tCons (tCB (rLen K) (tCons (tVar 1) tNil)) tNil)) (gName 2)
      (tSeq (tIfS (tAnd (tTest (tOp rIsNo (tOp (rIxL K) (tVar 1) (tVar 2)) (tC .non))) (tTest (tOp rNotNo (tOp (rIxL K) (tVar 0) (tVar 2)) (tC .non)))) (tRet (tC (.bl false))) tNext)
    (tIfS (tAnd (tTest (tOp rNotNo (tOp (rIxL K) (tVar 1) (tVar 2)) (tC .non))) (tOr (tNot (tB (tCall (lift (P_law_whole K A)) [] E0 (tCons (tOp (rIxL K) (tVar 0) (tVar 2)) tNil)))) (tTest (tOp rNe (tOp (rIxL K) (tVar 0) (tVar 2)) (tOp (rIxL K) (tVar 1) (tVar 2)))))) (tRet (tC (.bl false))) tNext)))
    (tRet (tC (.bl true)))))
section
variable {K : PySem.W.Frag} {A : Ex} {E : XK} {vs : List V} {L : AL} {Q : V → AL → Prop} {Ea : Value → AL → Prop}
theorem p_law_cell_at (he : ELe Ea E) (h : P_law_cell_at K A vs L Q Ea) : SS (t_law_cell_at K A E) { nx := fun _ L => Q .non L, rt := Q } (start N_law_cell_at vs) L := by
  obtain ⟨_, _, rfl, a, ns, k, rfl, rfl, hk, hq, q⟩ := h
  unfold t_law_cell_at
  tm_at "go"
  refine ⟨_, rfl, fun hb => ?_, fun hb => ?_⟩
  · have hb := of_decide_eq_true hb
    rw [List.length_map] at hb
    tm_at "go"
    refine r_ixL hq (atI_toNat hk (v := V.int (cell ns k)) ?_) q
    have h2 : k.toNat < ns.length := by omega
    rw [List.getElem?_map, List.getElem?_eq_getElem h2]
    unfold cell
    rw [List.getD_eq_getElem?_getD, List.getElem?_eq_getElem h2]
    rfl
  · have hb := of_decide_eq_false hb
    rw [List.length_map] at hb
    tm_at "go"
    have e : cell ns k = 0 := by
      unfold cell
      rw [List.getD_eq_getElem?_getD, List.getElem?_eq_none (by omega)]
      rfl
    rw [e] at q
    exact q
theorem p_law_whole (he : ELe Ea E) (h : P_law_whole K A vs L Q Ea) : SS (t_law_whole K A E) { nx := fun _ L => Q .non L, rt := Q } (start N_law_whole vs) L := by
  obtain ⟨_, rfl, o, rfl, q⟩ := h
  unfold t_law_whole
  cases o with
  | none =>
    tm_at "go"
    exact ex_f q
  | some n =>
    tm_at "go"
    refine ex_t ?_
    tm_at "go"
    exact ⟨false, rfl, q⟩
theorem p_law_numbers (he : ELe Ea E) (h : P_law_numbers K A vs L Q Ea) : SS (t_law_numbers K A E) { nx := fun _ L => Q .non L, rt := Q } (start N_law_numbers vs) L := by
  obtain ⟨_, _, rfl, a, b, xs, ys, rfl, rfl, ha, hb, hz, q⟩ := h
  unfold t_law_numbers
  tm_at "go"
  refine ⟨_, rfl, both_f ?_⟩
  tm_at "go"
  refine ex_n (fun hn => ?_) fun hn => ?_
  · tm_at "go"
    have e : decide (xs = ys) = false := decide_eq_false fun z => hn (by rw [z])
    rw [e] at q
    exact q
  have hl : xs.length = ys.length := by
    have h1 := V.int.inj hn
    rw [List.length_map, List.length_map] at h1
    omega
  tm_at "go"
  refine s_forR1 ?_
  tm_at "go"
  have hly : (ys.map oV).length = ys.length := List.length_map _
  refine ⟨_, rfl, by omega, by omega, fun i σ L' => L' = L ∧ ∃ v, σ = [some (.ref a), some (.ref b), v] ∧ ∀ j < i, xs[j]? = ys[j]?, ⟨rfl, none, rfl, fun j hj => absurd hj (Nat.not_lt_zero _)⟩, ?_, ?_⟩
  · rintro i σ L' hi ⟨rfl, v, rfl, hj⟩
    have hiy : i < ys.length := by omega
    have hix : i < xs.length := by omega
    have ex : (xs.map oV)[i]? = some (oV xs[i]) := by rw [List.getElem?_map, List.getElem?_eq_getElem hix]; rfl
    have ey : (ys.map oV)[i]? = some (oV ys[i]) := by rw [List.getElem?_map, List.getElem?_eq_getElem hiy]; rfl
    have gx : xs[i]? = some xs[i] := List.getElem?_eq_getElem hix
    have gy : ys[i]? = some ys[i] := List.getElem?_eq_getElem hiy
    have bad : xs[i] ≠ ys[i] → Q (.bl false) L' := fun z => by
      have e : decide (xs = ys) = false := decide_eq_false fun w => z (by subst w; rfl)
      rw [e] at q
      exact q
    have good : xs[i] = ys[i] → ∀ j < i + 1, xs[j]? = ys[j]? := fun z j hj' => by
      by_cases c : j = i
      · subst c; rw [gx, gy, z]
      · exact hj j (by omega)
    generalize xs[i] = x at *
    generalize ys[i] = y at *
    tm_at "go"
    refine r_ixL hb (atI_nat ey) ?_
    tm_at "go"
    refine ex_c (fun c => ?_) fun c => ?_
    · have ey0 : y = none := oV_inj (b := none) c
      subst ey0
      tm_at "go"
      refine r_ixL ha.sq (atI_nat ex) ?_
      tm_at "go"
      refine ex_n (fun c2 => ?_) fun c2 => ?_
      · tm_at "go"
        exact bad fun z => c2 (by rw [z])
      · have ex0 : x = none := oV_inj (b := none) c2
        subst ex0
        tm_at "go"
        refine r_ixL hb (atI_nat ey) ?_
        tm_at "go"
        refine ⟨false, rfl, both_f (both_f ?_)⟩
        tm_at "go"
        exact ⟨rfl, some (nV i), rfl, good rfl⟩
    · obtain ⟨m, rfl⟩ : ∃ m, y = some m := by
        cases y with
        | none => exact absurd rfl c
        | some m => exact ⟨m, rfl⟩
      refine both_f ?_
      tm_at "go"
      refine r_ixL hb (atI_nat ey) ?_
      tm_at "go"
      refine ⟨true, rfl, both_t ?_⟩
      tm_at "go"
      refine r_ixL ha.sq (atI_nat ex) ?_
      tm_at "go"
      refine ⟨L', Ent.refl _, _, rfl, x, rfl, ?_⟩
      cases x with
      | none =>
        refine ⟨_, rfl, both_t (both_t ?_)⟩
        tm_at "go"
        exact bad fun z => nomatch z
      | some n =>
        refine ⟨_, rfl, both_f ?_⟩
        tm_at "go"
        refine r_ixL ha.sq (atI_nat ex) ?_
        tm_at "go"
        refine r_ixL hb (atI_nat ey) ?_
        refine r_ne rfl ?_
        refine ex_n (fun c2 => ?_) fun c2 => ?_
        · tm_at "go"
          exact bad fun z => c2 (by rw [z])
        · tm_at "go"
          exact ⟨rfl, some (nV i), rfl, good (oV_inj c2)⟩
  · rintro σ L' ⟨rfl, v, rfl, hj⟩
    have e : decide (xs = ys) = true := decide_eq_true (List.ext_getElem? fun j => by
      by_cases c : j < ys.length
      · exact hj j (by omega)
      · rw [List.getElem?_eq_none (by omega), List.getElem?_eq_none (by omega)])
    rw [e] at q
    tm_at "go"
    exact q
theorem do_whole {o : Option Nat} (q : Q (.bl o.isSome) L) : ∃ L2, Ent L L2 ∧ P_law_whole K A [oV o] L2 Q Ea := ⟨L, Ent.refl _, _, rfl, o, rfl, q⟩
theorem do_wholeN {n : Nat} (q : Q (.bl true) L) : ∃ L2, Ent L L2 ∧ P_law_whole K A [nV n] L2 Q Ea := ⟨L, Ent.refl _, _, rfl, some n, rfl, q⟩
theorem do_numbers {a b : Addr} {xs ys : List (Option Nat)} (ha : Has L a (.lst (xs.map oV))) (hb : SqA K L b (ys.map oV)) (hz : ys.length ≤ 100000) (q : Q (.bl (decide (xs = ys))) L) : ∃ L2, Ent L L2 ∧ P_law_numbers K A [.ref a, .ref b] L2 Q Ea :=
  ⟨L, Ent.refl _, _, _, rfl, a, b, xs, ys, rfl, rfl, ha, hb, hz, q⟩
theorem do_numbersT {a b : Addr} {xs : List (Option Nat)} (ha : Has L a (.lst (xs.map oV))) (hb : SqA K L b (xs.map oV)) (hz : xs.length ≤ 100000) (q : Q (.bl true) L) : ∃ L2, Ent L L2 ∧ P_law_numbers K A [.ref a, .ref b] L2 Q Ea :=
  do_numbers ha hb hz (by rw [decide_eq_true rfl]; exact q)
theorem do_numbersN {a b : Addr} {xs : List Nat} (ha : Has L a (.lst (xs.map nV))) (hb : SqA K L b (xs.map nV)) (hz : xs.length ≤ 100000) (q : Q (.bl true) L) : ∃ L2, Ent L L2 ∧ P_law_numbers K A [.ref a, .ref b] L2 Q Ea :=
  do_numbersT (xs := xs.map some) (by rw [map_oV_some]; exact ha) (by rw [map_oV_some]; exact hb) (by rw [List.length_map]; exact hz) q
end
/-! The heap's methods, walked. -/
def N_rest : List Str := ["self"]
def t_rest (K : PySem.W.Frag) (A : Ex) (E : XK) : TS :=
    (tSeq (sFld K (tVar 0) (tC (.str "idle")) "stage")
    (tSeq (sFld K (tVar 0) (tLst tNil) "old")
    (tSeq (sFld K (tVar 0) (tC (.int 0)) "begun")
    (tSeq (sFld K (tVar 0) tDNewK "seen")
    (tSeq (sFld K (tVar 0) (tLst tNil) "row")
    (tSeq (sFld K (tVar 0) (tC (.int 0)) "looked")
    (sFld K (tVar 0) (tC (.int 0)) "swept")))))))
def N_init : List Str := ["self", "hands", "room", "k"]
def t_init (K : PySem.W.Frag) (A : Ex) (E : XK) : TS :=
    (tSeq (tIfS (tOr (tNot (tTest (tChain rLeI rLeI (tC (.int 1)) (tVar 1) (tC (.int 8))))) (tNot (tTest (tChain rLeI rLeI (tC (.int 1)) (tVar 2) (tC (.int 1000)))))) (tRaiseC A.NoHeap E) tNext)
    (tSeq (sFld K (tVar 0) (tLc (iRng1 (tCons (tVar 1) tNil)) (gName 3) tYes (tC .non) [3]) "hands")
    (tSeq (sFld K (tVar 0) (tVar 2) "room")
    (tSeq (sFld K (tVar 0) tDNewK "slots")
    (tSeq (sFld K (tVar 0) (tC (.int 0)) "made")
    (tSeq (sFld K (tVar 0) (tC (.int 0)) "ended")
    (tDrop (tMeth A.Heap "rest" (lift (P_rest K A)) [] E0 (tVar 0) tNil))))))))
def N_need_hand : List Str := ["self", "hand"]
def t_need_hand (K : PySem.W.Frag) (A : Ex) (E : XK) : TS :=
    (tIfS (tNot (tTest (tChain rLeI rLtI (tC (.int 0)) (tVar 1) (tCB (rLen K) (tCons (tFld K (tVar 0) "hands") tNil))))) (tRaiseC A.NoHand E) tNext)
def N_row_of : List Str := ["self", "hand", "slot", "box"]
def t_row_of (K : PySem.W.Frag) (A : Ex) (E : XK) : TS :=
    (tSeq (tAsg (tOp (rIxL K) (tFld K (tVar 0) "hands") (tVar 1)) (gName 3))
    (tSeq (tIfS (tTest (tOp rIsNo (tVar 3) (tC .non))) (tRaiseC A.NothingHeld E) tNext)
    (tSeq (tIfS (tNot (tTest (tChain rLeI rLtI (tC (.int 0)) (tVar 2) (tCB (rLen K) (tCons (tDGet (tFld K (tVar 0) "slots") (tVar 3)) tNil))))) (tRaiseC A.NoSlot E) tNext)
    (tRet (tDGet (tFld K (tVar 0) "slots") (tVar 3))))))
section
variable {K : PySem.W.Frag} {A : Ex} {E : XK} {vs : List V} {L : AL} {Q : V → AL → Prop} {Ea : Value → AL → Prop}
theorem p_rest (T : HT K A) (he : ELe Ea E) (h : P_rest K A vs L Q Ea) : SS (t_rest K A E) { nx := fun _ L => Q .non L, rt := Q } (start N_rest vs) L := by
  obtain ⟨_, rfl, p, dx, v0, v1, v2, v3, v4, tl, R, rfl, rfl, ht, q⟩ := h
  unfold t_rest
  refine s_post ?_
  rcases ht with rfl | ht
  · tm_at "go"
    refine ⟨by show 0 ≤ sizeLine; decide, fun o => ?_⟩
    tm_at "go"
    intro s
    tm_at "go"
    refine ⟨by show 0 ≤ sizeLine; decide, fun r => ?_⟩
    tm_at "go"
    exact ⟨_, ent_pick 3 rfl, q o s r⟩
  · match tl, ht with
    | [w0, w1, w2, w3, w4, w5, w6], _ =>
      tm_at "go"
      refine ⟨by show 0 ≤ sizeLine; decide, fun o => ?_⟩
      tm_at "go"
      intro s
      tm_at "go"
      refine ⟨by show 0 ≤ sizeLine; decide, fun r => ?_⟩
      tm_at "go"
      exact ⟨_, ent_pick 3 rfl, q o s r⟩
theorem p_need_hand (T : HT K A) (he : ELe Ea E) (h : P_need_hand K A vs L Q Ea) : SS (t_need_hand K A E) { nx := fun _ L => Q .non L, rt := Q } (start N_need_hand vs) L := by
  obtain ⟨_, _, rfl, p, ad, st, R, i, rfl, rfl, rfl, q1, q2⟩ := h
  unfold t_need_hand
  tm_at "go"
  refine ex_not (fun c => ?_) fun c => ?_
  · rw [List.length_map] at c
    exact s_raise he (q2 c)
  · rw [List.length_map] at c
    tm_at "go"
    exact q1 c
theorem p_init (T : HT K A) (he : ELe Ea E) (h : P_init K A vs L Q Ea) : SS (t_init K A E) { nx := fun _ L => Q .non L, rt := Q } (start N_init vs) L := by
  obtain ⟨_, _, _, rfl, p, dx, R, hands, room, rfl, rfl, rfl, rfl, q1, q2⟩ := h
  unfold t_init
  refine s_post ?_
  refine s_ent (M := pt p (.ins A.Heap dx (hF [])) :: R) (fun _ s => s) ?_
  tm_at "go"
  refine ex_not (fun c => ?_) fun c => ?_
  · refine both_t ?_
    exact s_raiseE he Ent.drop (q2 fun z => c z.1)
  tm_at "go"
  refine ex_not (fun c2 => ?_) fun c2 => ?_
  · exact s_raiseE he Ent.drop (q2 fun z => c2 z.2)
  have q := q1 ⟨c, c2⟩
  have hn : hands = ((hands.toNat : Nat) : Int) := by omega
  have hr : room = ((room.toNat : Nat) : Int) := by omega
  generalize hands.toNat = n at *
  generalize room.toNat = m at *
  subst hn
  subst hr
  tm_at "go"
  refine e_lcPlainR n (fun _ => true) (fun _ => .non) (by omega) (fun _ => rfl) (by tm_at "go"; exact ⟨rfl, rfl⟩) (fun i hi L' en => t_yes ⟨rfl, rfl⟩) (fun i hi _ L' en => e_c ⟨rfl, rfl⟩) fun h => ?_
  have e0 : (((List.range n).filter fun _ => true).map fun _ => V.non) = (List.replicate n (none : Option Nat)).map oV := by
    rw [List.filter_eq_self.mpr (fun _ _ => rfl), List.map_replicate]
    refine List.eq_replicate_iff.mpr ⟨by rw [List.length_map, List.length_range], fun x hx => ?_⟩
    obtain ⟨_, _, e⟩ := List.mem_map.mp hx
    exact e.symm
  rw [e0]
  tm_at "go"
  intro d
  tm_at "go"
  refine ⟨_, ent_pick 2 rfl, _, rfl, p, dx, _, _, _, _, _, [], pt d (.dK []) :: pt h (.lst ((List.replicate n (none : Option Nat)).map oV)) :: R, rfl, rfl, .inl rfl, fun o s r => ?_⟩
  refine ⟨_, ?_, q ⟨dx, h, d, o, s, r, []⟩⟩
  refine Ent.trans (M := pt p (.ins A.Heap dx (hF (hVals ⟨dx, h, d, o, s, r, []⟩ (HS.new n m)))) :: pt h (.lst ((HS.new n m).hands.map oV)) :: pt d (.dK []) :: pt o (.lst []) :: pt s (.dK []) :: pt r (.lst []) :: R) ?_ (ent_close (ad := ⟨dx, h, d, o, s, r, []⟩) (st := HS.new n m) rfl)
  refine Ent.cons ?_
  -- r s o d h
  exact (ent_pick 4 rfl).trans (Ent.cons ((ent_pick 3 rfl).trans (Ent.cons ((ent_pick 2 rfl).trans (Ent.cons ent_swap)))))
theorem at_get {st : HS} {i : Int} (hi : isHand st i) : atI (st.hands.map oV) i = some (oV (st.at_ i)) := by
  have h2 : i.toNat < st.hands.length := by have := hi.1; have := hi.2; omega
  refine atI_toNat hi.1 ?_
  unfold HS.at_
  rw [List.getElem?_map, List.getD_eq_getElem?_getD, List.getElem?_eq_getElem h2]
  rfl
theorem p_row_of (T : HT K A) (he : ELe Ea E) (h : P_row_of K A vs L Q Ea) : SS (t_row_of K A E) { nx := fun _ L => Q .non L, rt := Q } (start N_row_of vs) L := by
  obtain ⟨_, _, _, rfl, p, ad, st, R, i, k, rfl, rfl, rfl, rfl, w, hi, hb, q1, q2, q3⟩ := h
  unfold t_row_of
  refine s_use (fun H s => heap_len s) fun hl => ?_
  tm_at "go"
  refine r_ixL (Has.sq heap_h) (at_get hi) ?_
  cases e : st.at_ i with
  | none =>
    tm_at "go"
    exact ex_t (s_raise he (q1 e))
  | some b =>
    have hm := hb b e
    obtain ⟨j, hj, ej⟩ := List.getElem_of_mem hm
    have ej' : st.there[j]? = some b := by rw [List.getElem?_eq_getElem hj, ej]
    obtain ⟨a, ha⟩ : ∃ a, ad.rs[j]? = some a := ⟨_, List.getElem?_eq_getElem (by omega)⟩
    have hv := kvS_get w.nodup ej' ha
    have hk : (((st.rowAt b).map oV).length : Int) = ((st.rowAt b).length : Int) := by rw [List.length_map]
    have hrow : Has (HeapIs A.Heap p ad st :: R) a (.lst ((st.rowAt b).map oV)) := heap_row ha ej'
    tm_at "go"
    refine ex_f ?_
    tm_at "go"
    rw [hk]
    refine ex_not (fun c => ?_) fun c => ?_
    · exact s_raise he (q2 b e c)
    · tm_at "go"
      exact q3 b j a e c ej' ha
end
/-! The heap's methods, walked: deeds and what is told. -/
def N_mark : List Str := ["heap", "box"]
def t_mark (K : PySem.W.Frag) (A : Ex) (E : XK) : TS :=
    (tIfS (tAnd (tTest (tOp rNotNo (tVar 1) (tC .non))) (tAnd (tTest (tOp rLtI (tVar 1) (tFld K (tVar 0) "begun"))) (tB (tDNotIn (tVar 1) (tFld K (tVar 0) "seen"))))) (tSeq (sDPut (tFld K (tVar 0) "seen") (tVar 1) (tC (.bl true)))
    (tDrop (tBM K "list" rAppend (tFld K (tVar 0) "row") (tCons (tVar 1) tNil)))) tNext)
def N_make : List Str := ["self", "hand", "slots", "box", "k"]
def t_make (K : PySem.W.Frag) (A : Ex) (E : XK) : TS :=
    (tSeq (tDrop (tMeth A.Heap "need_hand" (lift (P_need_hand K A)) [] E (tVar 0) (tCons (tVar 1) tNil)))
    (tSeq (tIfS (tNot (tTest (tChain rLeI rLeI (tC (.int 0)) (tVar 2) (tC (.int 4))))) (tRaiseC A.NoSlot E) tNext)
    (tSeq (tIfS (tTest (tOp rGeI (tCB rLenD (tCons (tFld K (tVar 0) "slots") tNil)) (tFld K (tVar 0) "room"))) (tRaiseC A.NoRoom E) tNext)
    (tSeq (tAsg (tFld K (tVar 0) "made") (gName 3))
    (tSeq (sFld K (tVar 0) (tOp rAddI (tVar 3) (tC (.int 1))) "made")
    (tSeq (sDPut (tFld K (tVar 0) "slots") (tVar 3) (tLc (iRng1 (tCons (tVar 2) tNil)) (gName 4) tYes (tC .non) [4]))
    (tSeq (tAsg (tVar 3) (gSub (tFld K (tVar 0) "hands") (tVar 1) rSetL))
    (tRet (tVar 3)))))))))
def N_take : List Str := ["self", "hand", "other", "slot", "row"]
def t_take (K : PySem.W.Frag) (A : Ex) (E : XK) : TS :=
    (tSeq (tDrop (tMeth A.Heap "need_hand" (lift (P_need_hand K A)) [] E (tVar 0) (tCons (tVar 1) tNil)))
    (tSeq (tDrop (tMeth A.Heap "need_hand" (lift (P_need_hand K A)) [] E (tVar 0) (tCons (tVar 2) tNil)))
    (tSeq (tAsg (tMeth A.Heap "row_of" (lift (P_row_of K A)) [] E (tVar 0) (tCons (tVar 2) (tCons (tVar 3) tNil))) (gName 4))
    (tAsg (tOp (rIxL K) (tVar 4) (tVar 3)) (gSub (tFld K (tVar 0) "hands") (tVar 1) rSetL)))))
def N_put : List Str := ["self", "hand", "slot", "other", "row"]
def t_put (K : PySem.W.Frag) (A : Ex) (E : XK) : TS :=
    (tSeq (tDrop (tMeth A.Heap "need_hand" (lift (P_need_hand K A)) [] E (tVar 0) (tCons (tVar 1) tNil)))
    (tSeq (tDrop (tMeth A.Heap "need_hand" (lift (P_need_hand K A)) [] E (tVar 0) (tCons (tVar 3) tNil)))
    (tSeq (tAsg (tMeth A.Heap "row_of" (lift (P_row_of K A)) [] E (tVar 0) (tCons (tVar 1) (tCons (tVar 2) tNil))) (gName 4))
    (tSeq (tIfS (tTest (tOp rEq (tFld K (tVar 0) "stage") (tC (.str "marking")))) (tDrop (tCall (lift (P_mark K A)) [] E0 (tCons (tVar 0) (tCons (tOp (rIxL K) (tVar 4) (tVar 2)) tNil)))) tNext)
    (tAsg (tOp (rIxL K) (tFld K (tVar 0) "hands") (tVar 3)) (gSub (tVar 4) (tVar 2) rSetL))))))
def N_share : List Str := ["self", "hand", "other"]
def t_share (K : PySem.W.Frag) (A : Ex) (E : XK) : TS :=
    (tSeq (tDrop (tMeth A.Heap "need_hand" (lift (P_need_hand K A)) [] E (tVar 0) (tCons (tVar 1) tNil)))
    (tSeq (tDrop (tMeth A.Heap "need_hand" (lift (P_need_hand K A)) [] E (tVar 0) (tCons (tVar 2) tNil)))
    (tAsg (tOp (rIxL K) (tFld K (tVar 0) "hands") (tVar 2)) (gSub (tFld K (tVar 0) "hands") (tVar 1) rSetL))))
def N_drop : List Str := ["self", "hand"]
def t_drop (K : PySem.W.Frag) (A : Ex) (E : XK) : TS :=
    (tSeq (tDrop (tMeth A.Heap "need_hand" (lift (P_need_hand K A)) [] E (tVar 0) (tCons (tVar 1) tNil)))
    (tAsg (tC .non) (gSub (tFld K (tVar 0) "hands") (tVar 1) rSetL)))
def N_boxes : List Str := ["self"]
def t_boxes (K : PySem.W.Frag) (A : Ex) (E : XK) : TS :=
    (tRet (tCB (rSortedI K) (tCons (tCB rListD (tCons (tFld K (tVar 0) "slots") tNil)) tNil)))
def N_phase : List Str := ["self"]
def t_phase (K : PySem.W.Frag) (A : Ex) (E : XK) : TS :=
    (tRet (tFld K (tVar 0) "stage"))
def N_marked : List Str := ["self"]
def t_marked (K : PySem.W.Frag) (A : Ex) (E : XK) : TS :=
    (tRet (tCB (rSortedI K) (tCons (tCB rListD (tCons (tFld K (tVar 0) "seen") tNil)) tNil)))
def N_waiting : List Str := ["self"]
def t_waiting (K : PySem.W.Frag) (A : Ex) (E : XK) : TS :=
    (tRet (tSl (rSlL K) (tFld K (tVar 0) "row") (tPart (tFld K (tVar 0) "looked")) tNoPart))
def N_rounds : List Str := ["self"]
def t_rounds (K : PySem.W.Frag) (A : Ex) (E : XK) : TS :=
    (tRet (tFld K (tVar 0) "ended"))
def N_held : List Str := ["self", "hand"]
def t_held (K : PySem.W.Frag) (A : Ex) (E : XK) : TS :=
    (tSeq (tDrop (tMeth A.Heap "need_hand" (lift (P_need_hand K A)) [] E (tVar 0) (tCons (tVar 1) tNil)))
    (tRet (tOp (rIxL K) (tFld K (tVar 0) "hands") (tVar 1))))
def N_look : List Str := ["self", "box"]
def t_look (K : PySem.W.Frag) (A : Ex) (E : XK) : TS :=
    (tSeq (tIfS (tB (tDNotIn (tVar 1) (tFld K (tVar 0) "slots"))) (tRaiseC A.NoBox E) tNext)
    (tRet (tCB (rListOf K) (tCons (tDGet (tFld K (tVar 0) "slots") (tVar 1)) tNil))))
section
variable {K : PySem.W.Frag} {A : Ex} {E : XK} {vs : List V} {L : AL} {Q : V → AL → Prop} {Ea : Value → AL → Prop}
theorem do_need_hand {R : AL} {p : Addr} {ad : HAd} {st : HS} {i : Int} (q1 : isHand st i → Q .non (HeapIs A.Heap p ad st :: R)) (q2 : ¬ isHand st i → Ea (.ref A.NoHand) (HeapIs A.Heap p ad st :: R)) : ∃ L2, Ent (HeapIs A.Heap p ad st :: R) L2 ∧ P_need_hand K A [.ref p, .int i] L2 Q Ea :=
  ⟨_, Ent.refl _, _, _, rfl, p, ad, st, R, i, rfl, rfl, rfl, q1, q2⟩
theorem do_row_of {R : AL} {p : Addr} {ad : HAd} {st : HS} {i k : Int} (w : HW st) (hi : isHand st i) (hb : ∀ b, st.at_ i = some b → b ∈ st.there) (q1 : st.at_ i = none → Ea (.ref A.NothingHeld) (HeapIs A.Heap p ad st :: R)) (q2 : ∀ b, st.at_ i = some b → ¬ isSlot st b k → Ea (.ref A.NoSlot) (HeapIs A.Heap p ad st :: R))
    (q3 : ∀ (b j : Nat) (a : Addr), st.at_ i = some b → isSlot st b k → st.there[j]? = some b → ad.rs[j]? = some a → Q (.ref a) (HeapIs A.Heap p ad st :: R)) : ∃ L2, Ent (HeapIs A.Heap p ad st :: R) L2 ∧ P_row_of K A [.ref p, .int i, .int k] L2 Q Ea :=
  ⟨_, Ent.refl _, _, _, _, rfl, p, ad, st, R, i, k, rfl, rfl, rfl, rfl, w, hi, hb, q1, q2, q3⟩
theorem p_mark (T : HT K A) (he : ELe Ea E) (h : P_mark K A vs L Q Ea) : SS (t_mark K A E) { nx := fun _ L => Q .non L, rt := Q } (start N_mark vs) L := by
  obtain ⟨_, _, rfl, p, ad, st, R, o, rfl, rfl, rfl, w, q⟩ := h
  unfold t_mark
  have hs := w.seenl
  have hb := w.big
  cases o with
  | none =>
    tm_at "go"
    refine ⟨_, rfl, both_f (both_f ?_)⟩
    tm_at "go"
    exact q
  | some b =>
    tm_at "go"
    refine ⟨_, rfl, both_t ?_⟩
    tm_at "go"
    refine ex_c (fun c1 => ?_) fun c1 => ?_
    · have c1' : b < st.begun := by omega
      tm_at "go"
      refine ex_n (fun c2 => ?_) fun c2 => ?_
      · have e : st.mark (some b) = { st with seen := st.seen ++ [b] } := by unfold HS.mark; simp only; rw [if_pos ⟨c1', c2⟩]
        rw [e] at q
        refine s_post ?_
        refine s_open fun hl => ?_
        tm_at "go"
        refine ⟨_, _, _, _, rfl, rfl, by tm_at "hs", small5 (by rw [kvT_len]; omega), by tm_at "wr", ?_⟩
        tm_at "go"
        refine r_append (by tm_at "hs") (small5 (by rw [List.length_map]; omega)) (by tm_at "wr") ?_
        refine ⟨_, ?_, q⟩
        rw [kvT_put c2]
        refine Ent.trans ?_ (ent_close (ad := ad) (st := { st with seen := st.seen ++ [b] }) hl)
        show Ent _ (_ :: _ :: _ :: _ :: _ :: pt ad.r (.lst ((st.seen ++ [b]).map nV)) :: _)
        rw [List.map_append]
        exact Ent.refl _
      · have e : st.mark (some b) = st := by unfold HS.mark; simp only; rw [if_neg (fun z => z.2 c2)]
        rw [e] at q
        tm_at "go"
        exact q
    · have e : st.mark (some b) = st := by unfold HS.mark; simp only; rw [if_neg (fun z => c1 (by omega))]
      rw [e] at q
      refine both_f ?_
      tm_at "go"
      exact q
theorem p_phase (T : HT K A) (he : ELe Ea E) (h : P_phase K A vs L Q Ea) : SS (t_phase K A E) { nx := fun _ L => Q .non L, rt := Q } (start N_phase vs) L := by
  obtain ⟨_, rfl, p, ad, st, R, rfl, rfl, q⟩ := h
  unfold t_phase
  tm_at "go"
  exact q
theorem p_rounds (T : HT K A) (he : ELe Ea E) (h : P_rounds K A vs L Q Ea) : SS (t_rounds K A E) { nx := fun _ L => Q .non L, rt := Q } (start N_rounds vs) L := by
  obtain ⟨_, rfl, p, ad, st, R, rfl, rfl, q⟩ := h
  unfold t_rounds
  tm_at "go"
  exact q
theorem p_waiting (T : HT K A) (he : ELe Ea E) (h : P_waiting K A vs L Q Ea) : SS (t_waiting K A E) { nx := fun _ L => Q .non L, rt := Q } (start N_waiting vs) L := by
  obtain ⟨_, rfl, p, ad, st, R, rfl, rfl, q⟩ := h
  unfold t_waiting
  tm_at "go"
  refine ⟨_, rfl, ?_⟩
  tm_at "go"
  refine r_slL (Has.sq heap_r) fun d => ?_
  rw [cut_from, ← List.map_drop]
  exact q d
theorem p_marked (T : HT K A) (he : ELe Ea E) (h : P_marked K A vs L Q Ea) : SS (t_marked K A E) { nx := fun _ L => Q .non L, rt := Q } (start N_marked vs) L := by
  obtain ⟨_, rfl, p, ad, st, R, S, rfl, rfl, hp, hs, q⟩ := h
  unfold t_marked
  have e : (kvT st.seen).map (fun kv => kV kv.1) = st.seen.map nV := by unfold kvT; rw [List.map_map]; rfl
  refine s_postR ?_
  tm_at "go"
  intro l
  rw [e]
  tm_at "go"
  exact c_sortedN (Has.sq has_hd) hp hs fun d => ⟨_, Ent.cons Ent.drop, q d⟩
theorem p_boxes (T : HT K A) (he : ELe Ea E) (h : P_boxes K A vs L Q Ea) : SS (t_boxes K A E) { nx := fun _ L => Q .non L, rt := Q } (start N_boxes vs) L := by
  obtain ⟨_, rfl, p, ad, st, R, rfl, rfl, w, q⟩ := h
  unfold t_boxes
  refine s_postR ?_
  refine e_use (fun H s => heap_len s) fun hl => ?_
  have e := kvS_keys hl
  tm_at "go"
  intro l
  rw [e]
  tm_at "go"
  exact c_sortedN (Has.sq has_hd) (List.Perm.refl _) (w.nd.imp fun h => Nat.le_of_lt h) fun d => ⟨_, Ent.cons Ent.drop, q d⟩
theorem p_held (T : HT K A) (he : ELe Ea E) (h : P_held K A vs L Q Ea) : SS (t_held K A E) { nx := fun _ L => Q .non L, rt := Q } (start N_held vs) L := by
  obtain ⟨_, _, rfl, p, ad, st, R, i, rfl, rfl, rfl, q1, q2⟩ := h
  unfold t_held
  tm_at "go"
  refine do_need_hand (fun hi => ?_) q1
  tm_at "go"
  exact r_ixL (Has.sq heap_h) (at_get hi) (q2 hi)
theorem p_drop (T : HT K A) (he : ELe Ea E) (h : P_drop K A vs L Q Ea) : SS (t_drop K A E) { nx := fun _ L => Q .non L, rt := Q } (start N_drop vs) L := by
  obtain ⟨_, _, rfl, p, ad, st, R, i, rfl, rfl, rfl, q1, q2⟩ := h
  unfold t_drop
  tm_at "go"
  refine do_need_hand (fun hi => ?_) q1
  tm_at "go"
  refine r_setL heap_h (ixN_toNat hi.1 (by rw [List.length_map]; exact hi.2)) ?_ (q2 hi)
  rw [show (st.hands.map oV).set i.toNat .non = (st.hands.set i.toNat none).map oV by rw [List.map_set]]
  exact heap_wr_hands
theorem p_share (T : HT K A) (he : ELe Ea E) (h : P_share K A vs L Q Ea) : SS (t_share K A E) { nx := fun _ L => Q .non L, rt := Q } (start N_share vs) L := by
  obtain ⟨_, _, _, rfl, p, ad, st, R, i, j, rfl, rfl, rfl, rfl, q1, q2⟩ := h
  unfold t_share
  tm_at "go"
  refine do_need_hand (fun hi => ?_) (fun n => q1 fun z => n z.1)
  tm_at "go"
  refine do_need_hand (fun hj => ?_) (fun n => q1 fun z => n z.2)
  tm_at "go"
  refine r_ixL (Has.sq heap_h) (at_get hj) ?_
  tm_at "go"
  refine r_setL heap_h (ixN_toNat hi.1 (by rw [List.length_map]; exact hi.2)) ?_ (q2 hi hj)
  rw [show (st.hands.map oV).set i.toNat (oV (st.at_ j)) = (st.hands.set i.toNat (st.at_ j)).map oV by rw [List.map_set]]
  exact heap_wr_hands
end
/-! The heap's deeds, walked: make, take, put, look. -/
section
variable {K : PySem.W.Frag} {A : Ex} {E : XK} {vs : List V} {L : AL} {Q : V → AL → Prop} {Ea : Value → AL → Prop}
theorem HS.rowAt_app {st : HS} {b : Nat} {r : List (Option Nat)} {hs : List (Option Nat)} {th : List Nat} (h : b < st.rows.length) : ({ st with there := th, rows := st.rows ++ [r], hands := hs } : HS).rowAt b = st.rowAt b := by
  unfold HS.rowAt
  rw [List.getD_eq_getElem?_getD, List.getD_eq_getElem?_getD, List.getElem?_append_left h]
theorem make_rows {st : HS} {i n : Nat} (w : HW st) : (st.make i n).there.map (st.make i n).rowAt = st.there.map st.rowAt ++ [List.replicate n none] := by
  show (st.there ++ [st.rows.length]).map (st.make i n).rowAt = _
  rw [List.map_append]
  congr 1
  · exact List.map_congr_left fun b hb => HS.rowAt_app (w.lt b hb)
  · show [(st.rows ++ [List.replicate n none]).getD st.rows.length []] = _
    rw [List.getD_eq_getElem?_getD, List.getElem?_append_right (Nat.le_refl _), Nat.sub_self]
    rfl
theorem nones (n : Nat) : (((List.range n).filter fun _ => true).map fun _ => V.non) = (List.replicate n (none : Option Nat)).map oV := by
  rw [List.filter_eq_self.mpr (fun _ _ => rfl), List.map_replicate]
  refine List.eq_replicate_iff.mpr ⟨by rw [List.length_map, List.length_range], fun x hx => ?_⟩
  obtain ⟨_, _, e⟩ := List.mem_map.mp hx
  exact e.symm
/-- what is left, in either way, may be told by a weaker list -/
theorem s_postB {t : TS} {D : EA} {σ : L2.St} {L : AL} (h : SS t { D with nx := fun σ L1 => ∃ L2, Ent L1 L2 ∧ D.nx σ L2, rt := fun v L1 => ∃ L2, Ent L1 L2 ∧ D.rt v L2 } σ L) : SS t D σ L := fun H s E le =>
  h H s E ⟨fun σ L1 H1 s1 ⟨L2, e, q⟩ => le.nx σ L2 H1 (e H1 s1) q, fun v L1 H1 s1 ⟨L2, e, q⟩ => le.rt v L2 H1 (e H1 s1) q, le.bk, le.ct⟩
theorem p_make (T : HT K A) (he : ELe Ea E) (h : P_make K A vs L Q Ea) : SS (t_make K A E) { nx := fun _ L => Q .non L, rt := Q } (start N_make vs) L := by
  obtain ⟨_, _, _, rfl, p, ad, st, R, i, k, rfl, rfl, rfl, rfl, w, q1, q2, q3, q4⟩ := h
  unfold t_make
  refine s_use (fun H s => heap_len s) fun hl => ?_
  have hk := kvS_len (bs := st.there) (as := ad.rs) hl
  have htl := w.tl
  have hbig := w.big
  refine s_postB ?_
  tm_at "go"
  refine do_need_hand (fun hi => ?_) fun n => q1 n
  tm_at "go"
  refine ex_not (fun c => s_raise he (q2 hi c)) fun c => ?_
  tm_at "go"
  refine ex_c (fun c2 => s_raise he (q3 hi c (by omega))) fun c2 => ?_
  have q := q4 hi c (by omega)
  have hkn : k = ((k.toNat : Nat) : Int) := by omega
  generalize k.toNat = n at *
  subst hkn
  refine s_next ?_
  refine s_open fun _ => ?_
  tm_at "go"
  refine e_lcPlainR n (fun _ => true) (fun _ => .non) (by omega) (fun _ => rfl) (by tm_at "go"; exact ⟨rfl, rfl⟩) (fun i hi L' en => t_yes ⟨rfl, rfl⟩) (fun i hi _ L' en => e_c ⟨rfl, rfl⟩) fun a => ?_
  rw [nones]
  tm_at "go"
  refine ⟨_, _, _, _, rfl, rfl, by tm_at "hs", small5 (by rw [hk]; omega), by tm_at "wr", ?_⟩
  tm_at "go"
  refine r_setL (by tm_at "hs") (ixN_toNat hi.1 (by rw [List.length_map]; exact hi.2)) (by tm_at "wr") ?_
  tm_at "go"
  have hnone : valV (kvS st.there ad.rs) (Sum.inl (st.rows.length : Int)) = none := kvS_none fun b hb z => by have := w.lt b hb; omega
  rw [putK_new _ hnone, kvS_snoc hl, show (st.hands.map oV).set i.toNat (nV st.rows.length) = (st.hands.set i.toNat (some st.rows.length)).map oV by rw [List.map_set]]
  refine ⟨_, ?_, q { ad with rs := ad.rs ++ [a] }⟩
  refine Ent.trans ?_ (ent_close (ad := { ad with rs := ad.rs ++ [a] }) (st := st.make i.toNat n) (by show (ad.rs ++ [a]).length = (st.there ++ [st.rows.length]).length; rw [List.length_append, List.length_append, hl]; rfl))
  rw [make_rows w]
  have hv : hVals { ad with rs := ad.rs ++ [a] } (st.make i.toNat n) = (hVals ad st).set 3 (.int ((st.rows.length : Int) + 1)) := by
    unfold hVals HS.make
    simp
  rw [hv]
  refine Ent.trans (ent_put 6 (by simp)) ?_
  exact Ent.cons (Ent.cons (Ent.cons (Ent.cons (Ent.cons (Ent.cons (ent_snoc (f := fL) (by rw [List.length_map]; exact hl)))))))
theorem p_take (T : HT K A) (he : ELe Ea E) (h : P_take K A vs L Q Ea) : SS (t_take K A E) { nx := fun _ L => Q .non L, rt := Q } (start N_take vs) L := by
  obtain ⟨_, _, _, _, rfl, p, ad, st, R, i, j, k, rfl, rfl, rfl, rfl, rfl, w, hb, q1, q2, q3, q4⟩ := h
  unfold t_take
  tm_at "go"
  refine do_need_hand (fun hi => ?_) fun n => q1 fun z => n z.1
  tm_at "go"
  refine do_need_hand (fun hj => ?_) fun n => q1 fun z => n z.2
  tm_at "go"
  refine do_row_of w hj hb (fun e => q2 hi hj e) (fun b e n => q3 b hi hj e n) fun b m a e hs ht ha => ?_
  tm_at "go"
  have hg : atI ((st.rowAt b).map oV) k = some (oV ((st.rowAt b).getD k.toNat none)) := by
    have h2 : k.toNat < (st.rowAt b).length := by have := hs.1; have := hs.2; omega
    refine atI_toNat hs.1 ?_
    rw [List.getElem?_map, List.getD_eq_getElem?_getD, List.getElem?_eq_getElem h2]
    rfl
  refine r_ixL (Has.sq (heap_row ha ht)) hg ?_
  tm_at "go"
  refine r_setL heap_h (ixN_toNat hi.1 (by rw [List.length_map]; exact hi.2)) ?_ (q4 b hi hj e hs)
  rw [show (st.hands.map oV).set i.toNat (oV ((st.rowAt b).getD k.toNat none)) = (st.hands.set i.toNat ((st.rowAt b).getD k.toNat none)).map oV by rw [List.map_set]]
  exact heap_wr_hands
theorem HS.mark_hands (st : HS) (o : Option Nat) : (st.mark o).hands = st.hands := by
  unfold HS.mark
  cases o with
  | none => rfl
  | some b => simp only; split <;> rfl
theorem HS.mark_rows (st : HS) (o : Option Nat) : (st.mark o).rows = st.rows := by
  unfold HS.mark
  cases o with
  | none => rfl
  | some b => simp only; split <;> rfl
theorem HS.mark_there (st : HS) (o : Option Nat) : (st.mark o).there = st.there := by
  unfold HS.mark
  cases o with
  | none => rfl
  | some b => simp only; split <;> rfl
theorem HW.mark {st : HS} (w : HW st) (o : Option Nat) : HW (st.mark o) := by
  unfold HS.mark
  cases o with
  | none => exact w
  | some b =>
    simp only
    split
    · rename_i c
      refine ⟨w.nd, w.lt, w.hands, w.big, w.rl, nd_app w.sn c.2, fun x hx => ?_, w.bg⟩
      rcases List.mem_append.mp hx with h | h
      · exact w.sl x h
      · rw [List.mem_singleton.mp h]; exact c.1
    · exact w
/-- a slot is stored -/
theorem heap_wr_slot {C p : Addr} {ad : HAd} {st : HS} {R : AL} {b j k : Nat} {a : Addr} {o : Option Nat} (w : HW st) (h1 : ad.rs[j]? = some a) (h2 : st.there[j]? = some b) :
    Wr (HeapIs C p ad st :: R) a (.lst (((st.rowAt b).map oV).set k (oV o))) (HeapIs C p ad (st.setSlot b k o) :: R) := by
  have e : st.there.map (st.setSlot b k o).rowAt = (st.there.map st.rowAt).set j ((st.rowAt b).set k o) := by
    refine List.ext_getElem? fun m => ?_
    rw [List.getElem?_map, List.getElem?_set, List.length_map]
    have hj : j < st.there.length := (List.getElem?_eq_some_iff.mp h2).1
    by_cases c : j = m
    · subst c
      rw [if_pos rfl, if_pos hj, h2]
      show some (((st.rows.set b ((st.rowAt b).set k o)).getD b [])) = _
      have hb : b < st.rows.length := w.lt b (List.mem_of_getElem? h2)
      rw [List.getD_eq_getElem?_getD, List.getElem?_set_self hb]
      rfl
    · rw [if_neg c, List.getElem?_map]
      cases e2 : st.there[m]? with
      | none => rfl
      | some x =>
        show some (((st.rows.set b ((st.rowAt b).set k o)).getD x [])) = some (st.rowAt x)
        have hne : b ≠ x := by
          rintro rfl
          have hm : m < st.there.length := (List.getElem?_eq_some_iff.mp e2).1
          have e3 := (List.getElem?_eq_some_iff.mp h2).2
          have e4 := (List.getElem?_eq_some_iff.mp e2).2
          exact c ((List.getElem_inj w.nodup).mp (e3.trans e4.symm))
        show some _ = some (st.rows.getD x [])
        rw [List.getD_eq_getElem?_getD, List.getD_eq_getElem?_getD, List.getElem?_set_ne hne]
  have hs : Wr (HeapIs C p ad st :: R) a (.lst (((st.rowAt b).set k o).map oV)) (HeapIs C p ad (st.setSlot b k o) :: R) := by
    unfold HeapIs
    refine wr_star ?_
    have hv : hVals ad (st.setSlot b k o) = hVals ad st := by
      unfold hVals HS.setSlot
      simp
    rw [hv, show (st.setSlot b k o).there = st.there from rfl, e]
    exact wr_tl (wr_tl (wr_tl (wr_tl (wr_tl (wr_tl (wr_tl (zc_wr (f := fL) h1 (map_at st.rowAt h2))))))))
  rw [List.map_set] at hs
  exact hs
theorem HS.rowAt_mark (st : HS) (o : Option Nat) (b : Nat) : (st.mark o).rowAt b = st.rowAt b := by unfold HS.rowAt; rw [HS.mark_rows]
theorem stg_inj {s t : Stg} (h : V.str s.str = V.str t.str) : s = t := by
  cases s <;> cases t <;> first | rfl | exact absurd h (by decide)
theorem p_put (T : HT K A) (he : ELe Ea E) (h : P_put K A vs L Q Ea) : SS (t_put K A E) { nx := fun _ L => Q .non L, rt := Q } (start N_put vs) L := by
  obtain ⟨_, _, _, _, rfl, p, ad, st, R, i, k, j, rfl, rfl, rfl, rfl, rfl, w, hb, q1, q2, q3, q4⟩ := h
  unfold t_put
  tm_at "go"
  refine do_need_hand (fun hi => ?_) fun n => q1 fun z => n z.1
  tm_at "go"
  refine do_need_hand (fun hj => ?_) fun n => q1 fun z => n z.2
  tm_at "go"
  refine do_row_of w hi hb (fun e => q2 hi hj e) (fun b e n => q3 b hi hj e n) fun b m a e hs ht ha => ?_
  have q := q4 b hi hj e hs
  have hg : atI ((st.rowAt b).map oV) k = some (oV ((st.rowAt b).getD k.toNat none)) := by
    have h2 : k.toNat < (st.rowAt b).length := by have := hs.1; have := hs.2; omega
    refine atI_toNat hs.1 ?_
    rw [List.getElem?_map, List.getD_eq_getElem?_getD, List.getElem?_eq_getElem h2]
    rfl
  have fin : ∀ st' : HS, HW st' → st'.hands = st.hands → st'.there = st.there → st'.rowAt b = st.rowAt b → Q .non (HeapIs A.Heap p ad (st'.setSlot b k.toNat (st.at_ j)) :: R) → SS (tAsg (tOp (rIxL K) (tFld K (tVar 0) "hands") (tVar 3)) (gSub (tVar 4) (tVar 2) rSetL)) { nx := fun _ L => Q .non L, rt := Q } [some (.ref p), some (.int i), some (.int k), some (.int j), some (.ref a)] (HeapIs A.Heap p ad st' :: R) := fun st' w' e1 e2 e3 q => by
    tm_at "go"
    have hg2 : atI (st'.hands.map oV) j = some (oV (st.at_ j)) := by rw [e1]; exact at_get hj
    refine r_ixL (Has.sq heap_h) hg2 ?_
    tm_at "go"
    have ht' : st'.there[m]? = some b := by rw [e2]; exact ht
    refine r_setL (heap_row ha ht') (ixN_toNat hs.1 (by rw [List.length_map, e3]; exact hs.2)) (heap_wr_slot w' ha ht') q
  tm_at "go"
  refine ex_c (fun c => ?_) fun c => ?_
  · have c' : st.stage = .marking := stg_inj c
    unfold HS.put at q
    rw [if_pos c'] at q
    tm_at "go"
    refine r_ixL (Has.sq (heap_row ha ht)) hg ?_
    tm_at "go"
    exact do_mark (Ent.refl _) w (fin _ (w.mark _) (HS.mark_hands _ _) (HS.mark_there _ _) (HS.rowAt_mark _ _ _) q)
  · have c' : ¬ st.stage = .marking := fun z => c (by rw [z]; rfl)
    unfold HS.put at q
    rw [if_neg c'] at q
    refine s_next ?_
    exact fin st w rfl rfl rfl q
theorem p_look (T : HT K A) (he : ELe Ea E) (h : P_look K A vs L Q Ea) : SS (t_look K A E) { nx := fun _ L => Q .non L, rt := Q } (start N_look vs) L := by
  obtain ⟨_, _, rfl, p, ad, st, R, b, rfl, rfl, rfl, w, q1, q2⟩ := h
  unfold t_look
  refine s_use (fun H s => heap_len s) fun hl => ?_
  tm_at "gn"
  by_cases c : ∃ c : Nat, b = (c : Int) ∧ c ∈ st.there
  · obtain ⟨c, rfl, hc⟩ := c
    obtain ⟨j, hj, ej⟩ := List.getElem_of_mem hc
    have ej' : st.there[j]? = some c := by rw [List.getElem?_eq_getElem hj, ej]
    obtain ⟨a, ha⟩ : ∃ a, ad.rs[j]? = some a := ⟨_, List.getElem?_eq_getElem (by omega)⟩
    have hv := kvS_get w.nodup ej' ha
    have hd : (valV (kvS st.there ad.rs) (Sum.inl (c : Int))).isSome = true := by rw [hv]; rfl
    have hrow : Has (HeapIs A.Heap p ad st :: R) a (.lst ((st.rowAt c).map oV)) := heap_row ha ej'
    tm_at "go"
    rw [hd]
    refine ex_f ?_
    tm_at "go"
    refine c_list (Has.sq hrow) fun d => ?_
    exact q2 c rfl hc d
  · have hn := kvS_none (bs := st.there) (as := ad.rs) (n := b) fun x hx z => c ⟨x, z.symm, hx⟩
    tm_at "go"
    rw [hn]
    refine ex_t ?_
    exact s_raise he (q1 fun x hx z => c ⟨x, z.symm, hx⟩)
end
/-! The laws' deeds by plain rows. -/
inductive Deed where
  | make (i k : Nat)
  | take (i j k : Nat)
  | put (i k j : Nat)
  | share (i j : Nat)
  | drop (i : Nat)
def Deed.vals : Deed → List V
  | .make i k => [.str "make", nV i, nV k]
  | .take i j k => [.str "take", nV i, nV j, nV k]
  | .put i k j => [.str "put", nV i, nV k, nV j]
  | .share i j => [.str "share", nV i, nV j]
  | .drop i => [.str "drop", nV i]
abbrev Hs := List (Option Nat)
abbrev Rw := List (List (Option Nat))
def boxOf (hs : Hs) (i : Nat) : Nat := (hs.getD i none).getD 0
def rowOf (rw : Rw) (b : Nat) : List (Option Nat) := rw.getD b []
def Deed.hs (hs : Hs) (rw : Rw) : Deed → Hs
  | .make i _ => hs.set i (some rw.length)
  | .take i j k => hs.set i ((rowOf rw (boxOf hs j)).getD k none)
  | .put _ _ _ => hs
  | .share i j => hs.set i (hs.getD j none)
  | .drop i => hs.set i none
def Deed.rw (hs : Hs) (rw : Rw) : Deed → Rw
  | .make _ k => rw ++ [List.replicate k none]
  | .take _ _ _ => rw
  | .put i k j => rw.set (boxOf hs i) ((rowOf rw (boxOf hs i)).set k (hs.getD j none))
  | .share _ _ => rw
  | .drop _ => rw
/-- a hand's box has such a slot -/
def slotOk (hs : Hs) (rw : Rw) (i k : Nat) : Prop := i < hs.length ∧ hs.getD i none = some (boxOf hs i) ∧ boxOf hs i < rw.length ∧ k < (rowOf rw (boxOf hs i)).length
def Deed.ok (hs : Hs) (rw : Rw) : Deed → Prop
  | .make i k => i < hs.length ∧ k ≤ 4
  | .take i j k => i < hs.length ∧ slotOk hs rw j k
  | .put i k j => j < hs.length ∧ slotOk hs rw i k
  | .share i j => i < hs.length ∧ j < hs.length
  | .drop i => i < hs.length
def Deed.Goods : List Deed → Hs → Rw → Prop
  | [], _, _ => True
  | d :: ds, hs, rw => d.ok hs rw ∧ Deed.Goods ds (d.hs hs rw) (d.rw hs rw)
/-- what stands anywhere was made -/
structure PW (hs : Hs) (rw : Rw) : Prop where
  h : ∀ b, some b ∈ hs → b < rw.length
  r : ∀ r ∈ rw, ∀ b, some b ∈ r → b < rw.length
  l : ∀ r ∈ rw, r.length ≤ 4
theorem getD_mem {α : Type} {xs : List α} {i : Nat} {d : α} (h : i < xs.length) : xs.getD i d ∈ xs := by
  rw [List.getD_eq_getElem?_getD, List.getElem?_eq_getElem h]
  exact List.getElem_mem h
theorem PW.at {hs : Hs} {rw : Rw} (w : PW hs rw) {i b : Nat} (e : hs.getD i none = some b) : b < rw.length := by
  by_cases c : i < hs.length
  · exact w.h b (e ▸ getD_mem c)
  · rw [List.getD_eq_getElem?_getD, List.getElem?_eq_none (by omega)] at e; cases e
theorem PW.slot {hs : Hs} {rw : Rw} (w : PW hs rw) {b k c : Nat} (e : (rowOf rw b).getD k none = some c) : c < rw.length := by
  have hb : b < rw.length := by
    apply Decidable.byContradiction
    intro n
    unfold rowOf at e
    rw [List.getD_eq_getElem?_getD (l := rw), List.getElem?_eq_none (by omega)] at e
    cases e
  have hm : rowOf rw b ∈ rw := getD_mem hb
  by_cases hk : k < (rowOf rw b).length
  · exact w.r _ hm c (e ▸ getD_mem hk)
  · rw [List.getD_eq_getElem?_getD, List.getElem?_eq_none (by omega)] at e; cases e
theorem rw_len (hs : Hs) (rw : Rw) (d : Deed) : rw.length ≤ (d.rw hs rw).length := by
  cases d <;> simp [Deed.rw]
theorem hs_len (hs : Hs) (rw : Rw) (d : Deed) : (d.hs hs rw).length = hs.length := by
  cases d <;> simp [Deed.hs]
theorem PW.deed {hs : Hs} {rw : Rw} (w : PW hs rw) {d : Deed} (ok : d.ok hs rw) : PW (d.hs hs rw) (d.rw hs rw) := by
  have hset : ∀ {i : Nat} {o : Option Nat} {n : Nat}, rw.length ≤ n → (∀ b, o = some b → b < n) → ∀ b, some b ∈ hs.set i o → b < n := fun hn ho b hb => by
    rcases List.mem_or_eq_of_mem_set hb with h | h
    · exact Nat.lt_of_lt_of_le (w.h b h) hn
    · exact ho b h.symm
  cases d with
  | make i k =>
    have e : (rw ++ [List.replicate k (none : Option Nat)]).length = rw.length + 1 := by simp
    refine ⟨fun b hb => ?_, fun r hr b hb => ?_, fun r hr => ?_⟩
    · show b < (rw ++ [List.replicate k (none : Option Nat)]).length
      rw [e]
      exact hset (Nat.le_succ _) (fun b h => by cases h; omega) b hb
    · show b < (rw ++ [List.replicate k (none : Option Nat)]).length
      rw [e]
      rcases List.mem_append.mp hr with h | h
      · have := w.r r h b hb; omega
      · rw [List.mem_singleton.mp h] at hb
        have := (List.mem_replicate.mp hb).2
        cases this
    · rcases List.mem_append.mp hr with h | h
      · exact w.l r h
      · rw [List.mem_singleton.mp h, List.length_replicate]; exact ok.2
  | take i j k => exact ⟨hset (Nat.le_refl _) fun b h => w.slot h, w.r, w.l⟩
  | put i k j =>
    have e : (rw.set (boxOf hs i) ((rowOf rw (boxOf hs i)).set k (hs.getD j none))).length = rw.length := by simp
    have hb0 : boxOf hs i < rw.length := ok.2.2.2.1
    refine ⟨fun b hb => ?_, fun r hr b hb => ?_, fun r hr => ?_⟩
    · exact Nat.lt_of_lt_of_eq (w.h b hb) e.symm
    · refine Nat.lt_of_lt_of_eq ?_ e.symm
      rcases List.mem_or_eq_of_mem_set hr with h | h
      · exact w.r r h b hb
      · rw [h] at hb
        rcases List.mem_or_eq_of_mem_set hb with h2 | h2
        · exact w.r _ (getD_mem hb0) b h2
        · exact w.at h2.symm
    · rcases List.mem_or_eq_of_mem_set hr with h | h
      · exact w.l r h
      · rw [h, List.length_set]
        exact w.l _ (getD_mem hb0)
  | share i j => exact ⟨hset (Nat.le_refl _) fun b h => w.at h, w.r, w.l⟩
  | drop i => exact ⟨hset (Nat.le_refl _) fun b h => (by cases h), w.r, w.l⟩
/-! ### a deed at the mirror -/
def HS.deed (st : HS) : Deed → HS
  | .make i k => st.make i k
  | .take i j k => st.take i (boxOf st.hands j) k
  | .put i k j => st.put (boxOf st.hands i) k (st.hands.getD j none)
  | .share i j => st.share i j
  | .drop i => st.drop i
def HS.ret (st : HS) : Deed → V
  | .make _ _ => nV st.rows.length
  | _ => .non
def DeedsA (d : Addr) (as : List Addr) (ds : List Deed) : Asn := Star (pt d (.lst (as.map V.ref)) :: zc (fun d : Deed => .lst d.vals) as ds)
def P_law_mixed_at (K : PySem.W.Frag) (_ : Ex) : Pm := pm2 fun x y L Q _ => ∃ (a : Addr) (ns : List Int) (k : Int), x = .ref a ∧ y = .int k ∧ 0 ≤ k ∧ k < 100000 ∧ SqA K L a (ns.map V.int) ∧ ∀ n : Nat, n < 1000003 → Q (nV n) L
def N_law_mixed_at : List Str := ["_law_script", "_law_k"]
def t_law_mixed_at (K : PySem.W.Frag) (A : Ex) (E : XK) : TS :=
    (tRet (tOp rModI (tOp rAddI (tOp rMulI (tCall (lift (P_law_cell_at K A)) [] E0 (tCons (tVar 0) (tCons (tVar 1) tNil))) (tC (.int 48271))) (tOp rMulI (tC (.int 7919)) (tVar 1))) (tC (.int 1000003))))
def P_law_mixed (K : PySem.W.Frag) (_ : Ex) : Pm := pm2 fun x y L Q _ => ∃ (a : Addr) (ns : List Int) (m : Nat), x = .ref a ∧ y = nV m ∧ ns.length ≤ 63 ∧ SqA K L a (ns.map V.int) ∧ ∀ (d : Addr) (ms : List Nat), ms.length ≤ 63 → ms.length ≤ m → (∀ c ∈ ms, c < 1000003) → Q (.ref d) (pt d (.lst (ms.map nV)) :: L)
def N_law_mixed : List Str := ["_law_script", "_law_most", "_law_k"]
def t_law_mixed (K : PySem.W.Frag) (A : Ex) (E : XK) : TS :=
    (tRet (tLc (iRng2 (tCons (tC (.int 1)) (tCons (tCB rMin2 (tCons (tVar 1) (tCons (tCB (rLen K) (tCons (tVar 0) tNil)) tNil))) tNil))) (gName 2) tYes (tCall (lift (P_law_mixed_at K A)) [] E0 (tCons (tVar 0) (tCons (tVar 2) tNil))) [2]))
def P_law_deeds (K : PySem.W.Frag) (_ : Ex) : Pm := pm3 fun x y z L Q _ => ∃ (h p : Addr) (as : List Addr) (c : Nat) (hs : Hs) (rw : Rw), x = nV c ∧ y = .ref h ∧ z = .ref p ∧ SqA K L h (hs.map oV) ∧ RdRows K L p as rw ∧ 1 ≤ hs.length ∧ hs.length ≤ 8 ∧ PW hs rw ∧
  ∀ (d : Addr) (bs : List Addr) (ds : List Deed), bs.length = ds.length → ds.length ≤ 2 → Deed.Goods ds hs rw → Q (.ref d) (DeedsA d bs ds :: L)
def N_law_deeds : List Str := ["_law_cell", "_law_hands", "_law_rows", "_law_many", "_law_rest", "_law_one", "_law_other", "_law_third", "_law_slot", "_law_box"]
def t_law_deeds (K : PySem.W.Frag) (A : Ex) (E : XK) : TS :=
    (tSeq (tAsg (tCB (rLen K) (tCons (tVar 1) tNil)) (gName 3))
    (tSeq (tAsg (tOp rDivI (tVar 0) (tC (.int 8))) (gName 4))
    (tSeq (tAsg (tOp rModI (tVar 4) (tVar 3)) (gName 5))
    (tSeq (tAsg (tOp rModI (tOp rDivI (tVar 4) (tVar 3)) (tVar 3)) (gName 6))
    (tSeq (tAsg (tOp rModI (tOp rDivI (tOp rDivI (tVar 4) (tVar 3)) (tVar 3)) (tVar 3)) (gName 7))
    (tSeq (tAsg (tOp rDivI (tOp rDivI (tOp rDivI (tVar 4) (tVar 3)) (tVar 3)) (tVar 3)) (gName 8))
    (tSeq (tAsg (tOp (rIxL K) (tVar 1) (tVar 6)) (gName 9))
    (tSeq (tIfS (tAnd (tTest (tOp (rIn K false) (tOp rModI (tVar 0) (tC (.int 8))) (tTup (tCons (tC (.int 1)) (tCons (tC (.int 2)) (tCons (tC (.int 3)) (tCons (tC (.int 4)) (tCons (tC (.int 7)) tNil)))))))) (tAnd (tTest (tOp rNotNo (tVar 9) (tC .non))) (tTest (tOp rGtI (tCB (rLen K) (tCons (tOp (rIxL K) (tVar 2) (tVar 9)) tNil)) (tC (.int 0)))))) (tSeq (tAsg (tOp rModI (tVar 8) (tCB (rLen K) (tCons (tOp (rIxL K) (tVar 2) (tVar 9)) tNil))) (gName 8))
    (tSeq (tIfS (tTest (tOp rEq (tOp rModI (tVar 0) (tC (.int 8))) (tC (.int 2)))) (tRet (tLst (tCons (tLst (tCons (tC (.str "take")) (tCons (tVar 5) (tCons (tVar 6) (tCons (tVar 8) tNil))))) tNil))) tNext)
    (tSeq (tIfS (tAnd (tTest (tOp rEq (tOp rModI (tVar 0) (tC (.int 8))) (tC (.int 7)))) (tTest (tOp rNe (tVar 5) (tVar 6)))) (tRet (tLst (tCons (tLst (tCons (tC (.str "take")) (tCons (tVar 5) (tCons (tVar 6) (tCons (tVar 8) tNil))))) (tCons (tLst (tCons (tC (.str "put")) (tCons (tVar 6) (tCons (tVar 8) (tCons (tVar 7) tNil))))) tNil)))) tNext)
    (tRet (tLst (tCons (tLst (tCons (tC (.str "put")) (tCons (tVar 6) (tCons (tVar 8) (tCons (tVar 5) tNil))))) tNil)))))) tNext)
    (tSeq (tIfS (tTest (tOp rEq (tOp rModI (tVar 0) (tC (.int 8))) (tC (.int 5)))) (tRet (tLst (tCons (tLst (tCons (tC (.str "share")) (tCons (tVar 5) (tCons (tVar 6) tNil)))) tNil))) tNext)
    (tSeq (tIfS (tTest (tOp rEq (tOp rModI (tVar 0) (tC (.int 8))) (tC (.int 6)))) (tRet (tLst (tCons (tLst (tCons (tC (.str "drop")) (tCons (tVar 5) tNil))) tNil))) tNext)
    (tRet (tLst (tCons (tLst (tCons (tC (.str "make")) (tCons (tVar 5) (tCons (tOp (rIxL K) (tLst (tCons (tC (.int 2)) (tCons (tC (.int 4)) (tCons (tC (.int 1)) (tCons (tC (.int 0)) (tCons (tC (.int 3)) (tCons (tC (.int 4)) (tCons (tC (.int 4)) tNil)))))))) (tOp rModI (tVar 8) (tC (.int 7)))) tNil)))) tNil)))))))))))))
section
variable {K : PySem.W.Frag} {A : Ex} {E : XK} {vs : List V} {L : AL} {Q : V → AL → Prop} {Ea : Value → AL → Prop}
theorem do_mixed_at {a : Addr} {ns : List Int} {k : Int} (h0 : 0 ≤ k) (h1 : k < 100000) (hq : SqA K L a (ns.map V.int)) (q : ∀ n : Nat, n < 1000003 → Q (nV n) L) : ∃ L2, Ent L L2 ∧ P_law_mixed_at K A [.ref a, .int k] L2 Q Ea := ⟨L, Ent.refl _, _, _, rfl, a, ns, k, rfl, rfl, h0, h1, hq, q⟩
theorem do_mixed {a : Addr} {ns : List Int} {m : Nat} (hl : ns.length ≤ 63) (hq : SqA K L a (ns.map V.int)) (q : ∀ (d : Addr) (ms : List Nat), ms.length ≤ 63 → ms.length ≤ m → (∀ c ∈ ms, c < 1000003) → Q (.ref d) (pt d (.lst (ms.map nV)) :: L)) : ∃ L2, Ent L L2 ∧ P_law_mixed K A [.ref a, nV m] L2 Q Ea := ⟨L, Ent.refl _, _, _, rfl, a, ns, m, rfl, rfl, hl, hq, q⟩
theorem p_law_mixed_at (he : ELe Ea E) (h : P_law_mixed_at K A vs L Q Ea) : SS (t_law_mixed_at K A E) { nx := fun _ L => Q .non L, rt := Q } (start N_law_mixed_at vs) L := by
  obtain ⟨_, _, rfl, a, ns, k, rfl, rfl, h0, h1, hq, q⟩ := h
  unfold t_law_mixed_at
  tm_at "go"
  refine r_I (.inr ⟨by decide, by decide⟩) ?_
  tm_at "go"
  refine r_I (.inl ⟨by decide, by decide⟩) ?_
  tm_at "go"
  have e1 := Int.emod_nonneg (cell ns k * 48271 + 7919 * k) (show (1000003 : Int) ≠ 0 by decide)
  have e2 := Int.emod_lt_of_pos (cell ns k * 48271 + 7919 * k) (show (0 : Int) < 1000003 by decide)
  have := q ((cell ns k * 48271 + 7919 * k) % 1000003).toNat (by omega)
  rw [nV_toNat e1] at this
  exact this
theorem p_law_mixed (he : ELe Ea E) (h : P_law_mixed K A vs L Q Ea) : SS (t_law_mixed K A E) { nx := fun _ L => Q .non L, rt := Q } (start N_law_mixed vs) L := by
  obtain ⟨_, _, rfl, a, ns, m, rfl, rfl, hl, hq, q⟩ := h
  unfold t_law_mixed
  tm_at "go"
  refine e_lcR2 ?_
  tm_at "go"
  rw [List.length_map]
  have hm : (if (ns.length : Int) < (m : Int) then (ns.length : Int) else (m : Int)) ≤ 63 ∧ (if (ns.length : Int) < (m : Int) then (ns.length : Int) else (m : Int)) ≤ m ∧ 0 ≤ (if (ns.length : Int) < (m : Int) then (ns.length : Int) else (m : Int)) := by split <;> omega
  generalize (if (ns.length : Int) < (m : Int) then (ns.length : Int) else (m : Int)) = u at hm ⊢
  refine ⟨1, u, rfl, ⟨by decide, by decide, by omega, by omega⟩, fun _ => rfl, fun i acc L' => (∃ ms : List Nat, acc = ms.map nV ∧ ms.length = i ∧ ∀ c ∈ ms, c < 1000003) ∧ L' = L, ⟨⟨[], rfl, rfl, fun _ h => nomatch h⟩, rfl⟩, ?_, ?_⟩
  · rintro i acc L' d hi ⟨⟨ms, rfl, hl2, hms⟩, rfl⟩
    refine t_yes ⟨fun _ => ?_, (fun z => nomatch z)⟩
    tm_at "go"
    refine do_mixed_at (by omega) (by omega) (sq_tl hq) fun n hn => ?_
    refine ⟨L', Ent.refl _, small5 (by rw [List.length_map]; omega), ⟨ms ++ [n], by rw [List.map_append]; rfl, by rw [List.length_append, hl2]; rfl, fun c hc => ?_⟩, rfl⟩
    rcases List.mem_append.mp hc with h | h
    · exact hms c h
    · rw [List.mem_singleton.mp h]; exact hn
  · rintro acc L' d ⟨⟨ms, rfl, hl2, hms⟩, rfl⟩
    exact q d ms (by omega) (by omega) hms
end
/-! The laws' deeds: which they are. -/
section
variable {K : PySem.W.Frag} {A : Ex} {E : XK} {vs : List V} {L : AL} {Q : V → AL → Prop} {Ea : Value → AL → Prop}
theorem deeds_one {d a : Addr} {D : Deed} {L M : AL} (e : Ent L M) : Ent (pt d (.lst [.ref a]) :: pt a (.lst D.vals) :: L) (DeedsA d [a] [D] :: M) := (ent_star (Ls := [pt d (.lst [.ref a]), pt a (.lst D.vals)]) (R := L)).trans (Ent.cons e)
theorem deeds_two {d a b : Addr} {D D' : Deed} {L M : AL} (e : Ent L M) : Ent (pt d (.lst [.ref a, .ref b]) :: pt b (.lst D'.vals) :: pt a (.lst D.vals) :: L) (DeedsA d [a, b] [D, D'] :: M) :=
  (Ent.cons ent_swap).trans ((ent_star (Ls := [pt d (.lst [.ref a, .ref b]), pt a (.lst D.vals), pt b (.lst D'.vals)]) (R := L)).trans (Ent.cons e))
theorem p_law_deeds (he : ELe Ea E) (h : P_law_deeds K A vs L Q Ea) : SS (t_law_deeds K A E) { nx := fun _ L => Q .non L, rt := Q } (start N_law_deeds vs) L := by
  obtain ⟨_, _, _, rfl, h, p, as, c, hs, rw, rfl, rfl, rfl, hh, hr, h1, h8, pw, q⟩ := h
  unfold t_law_deeds
  refine s_postB ?_
  have hlen : (hs.map oV).length = hs.length := List.length_map _
  have hH : 0 < (hs.length : Int) ∧ (hs.length : Int) < 1073741824 := by omega
  tm_at "gn"
  rw [hlen]
  tm_at "gn"
  rw [show (c : Int) / 8 / (hs.length : Int) % (hs.length : Int) = ((c / 8 / hs.length % hs.length : Nat) : Int) from rfl, show (c : Int) / 8 % (hs.length : Int) = ((c / 8 % hs.length : Nat) : Int) from rfl, show (c : Int) / 8 / (hs.length : Int) / (hs.length : Int) % (hs.length : Int) = ((c / 8 / hs.length / hs.length % hs.length : Nat) : Int) from rfl, show (c : Int) / 8 / (hs.length : Int) / (hs.length : Int) / (hs.length : Int) = ((c / 8 / hs.length / hs.length / hs.length : Nat) : Int) from rfl]
  have l1 : c / 8 % hs.length < hs.length := Nat.mod_lt _ h1
  have l2 : c / 8 / hs.length % hs.length < hs.length := Nat.mod_lt _ h1
  have l3 : c / 8 / hs.length / hs.length % hs.length < hs.length := Nat.mod_lt _ h1
  generalize c / 8 % hs.length = one at *
  generalize c / 8 / hs.length % hs.length = other at *
  generalize c / 8 / hs.length / hs.length % hs.length = third at *
  generalize c / 8 / hs.length / hs.length / hs.length = slot at *
  have hg : (hs.map oV)[other]? = some (oV (hs.getD other none)) := by
    rw [List.getElem?_map, List.getD_eq_getElem?_getD, List.getElem?_eq_getElem l2]; rfl
  refine r_ixL hh (atI_nat hg) ?_
  tm_at "gn"
  refine s_mid (Mid := fun σ L' => σ = [some (nV c), some (.ref h), some (.ref p), some (nV hs.length), some (.int ((c : Int) / 8)), some (nV one), some (nV other), some (nV third), some (nV slot), some (oV (hs.getD other none))] ∧ L' = L) ?_ ?_
  · tm_at "go"
    refine ⟨by show 5 ≤ sizeLine; decide, fun t => ?_⟩
    refine r_inT (Has.tq has_hd) rfl rfl ?_
    have skip : ∃ L2, Ent (pt t (.tup [.int 1, .int 2, .int 3, .int 4, .int 7]) :: L) L2 ∧ (fun σ L' => σ = [some (nV c), some (.ref h), some (.ref p), some (nV hs.length), some (.int ((c : Int) / 8)), some (nV one), some (nV other), some (nV third), some (nV slot), some (oV (hs.getD other none))] ∧ L' = L) [some (nV c), some (.ref h), some (.ref p), some (nV hs.length), some (.int ((c : Int) / 8)), some (nV one), some (nV other), some (nV third), some (nV slot), some (oV (hs.getD other none))] L2 := ⟨L, Ent.drop, rfl, rfl⟩
    refine ⟨_, rfl, fun _ => ?_, fun _ => both_f (s_next skip)⟩
    cases eb : hs.getD other none with
    | none =>
      rw [eb] at skip
      tm_at "go"
      refine ⟨false, rfl, both_f (both_f (s_next skip))⟩
    | some b =>
      rw [eb] at skip
      have hb : b < rw.length := pw.at eb
      have hbo : boxOf hs other = b := by unfold boxOf; rw [eb]; rfl
      have hba : b < as.length := by rw [hr.len]; exact hb
      have ga : as[b]? = some as[b] := List.getElem?_eq_getElem hba
      have gr : rw[b]? = some (rowOf rw b) := by unfold rowOf; rw [List.getD_eq_getElem?_getD, List.getElem?_eq_getElem hb]; rfl
      have hrow := hr.row b _ _ ga gr
      have hga : (as.map V.ref)[b]? = some (.ref as[b]) := by rw [List.getElem?_map, ga]; rfl
      have hl4 : (rowOf rw b).length ≤ 4 := pw.l _ (List.mem_of_getElem? gr)
      tm_at "go"
      refine ⟨true, rfl, both_t ?_⟩
      tm_at "go"
      refine r_ixL (sq_tl hr.top) (atI_nat hga) ?_
      tm_at "go"
      rw [List.length_map]
      tm_at "go"
      refine ex_c (fun c1 => ?_) fun c1 => s_next skip
      have c1' : 0 < (rowOf rw b).length := by omega
      tm_at "gn"
      refine r_ixL (sq_tl hr.top) (atI_nat hga) ?_
      tm_at "gn"
      rw [List.length_map]
      refine r_I (show (0 : Int) < ((rowOf rw b).length : Int) by omega) ?_
      tm_at "gn"
      rw [show (slot : Int) % ((rowOf rw b).length : Int) = ((slot % (rowOf rw b).length : Nat) : Int) from rfl]
      have l4 : slot % (rowOf rw b).length < (rowOf rw b).length := Nat.mod_lt _ c1'
      generalize slot % (rowOf rw b).length = k at l4 ⊢
      have so : slotOk hs rw other k := ⟨l2, by rw [hbo]; exact eb, by rw [hbo]; exact hb, by rw [hbo]; exact l4⟩
      tm_at "go"
      refine ex_c (fun c2 => ?_) fun c2 => ?_
      · tm_at "go"
        refine ⟨by show 4 ≤ sizeLine; decide, fun a => ?_⟩
        tm_at "go"
        refine ⟨by show 1 ≤ sizeLine; decide, fun d => ?_⟩
        exact ⟨_, deeds_one (D := .take one other k) Ent.drop, q d [a] [.take one other k] rfl (by show 1 ≤ 2; decide) ⟨⟨l1, so⟩, trivial⟩⟩
      tm_at "gn"
      have last : ∀ nx, SS (tRet (tLst (tCons (tLst (tCons (tC (.str "put")) (tCons (tVar 6) (tCons (tVar 8) (tCons (tVar 5) tNil))))) tNil))) { nx := nx, rt := fun v L1 => ∃ L2, Ent L1 L2 ∧ Q v L2 } [some (nV c), some (.ref h), some (.ref p), some (nV hs.length), some (.int ((c : Int) / 8)), some (nV one), some (nV other), some (nV third), some (nV k), some (nV b)] (pt t (.tup [.int 1, .int 2, .int 3, .int 4, .int 7]) :: L) := by
        intro nx
        tm_at "go"
        refine ⟨by show 4 ≤ sizeLine; decide, fun a => ?_⟩
        tm_at "go"
        refine ⟨by show 1 ≤ sizeLine; decide, fun d => ?_⟩
        exact ⟨_, deeds_one (D := .put other k one) Ent.drop, q d [a] [.put other k one] rfl (by show 1 ≤ 2; decide) ⟨⟨l1, so⟩, trivial⟩⟩
      tm_at "go"
      refine ex_c (fun c3 => ?_) fun c3 => both_f ?_
      · tm_at "go"
        refine ex_n (fun c4 => ?_) fun c4 => ?_
        · have hne : one ≠ other := fun z => c4 (by rw [z])
          tm_at "go"
          refine ⟨by show 4 ≤ sizeLine; decide, fun a => ?_⟩
          tm_at "go"
          refine ⟨by show 4 ≤ sizeLine; decide, fun a2 => ?_⟩
          tm_at "go"
          refine ⟨by show 2 ≤ sizeLine; decide, fun d => ?_⟩
          have eo : (hs.set one ((rowOf rw (boxOf hs other)).getD k none)).getD other none = hs.getD other none := by
            rw [List.getD_eq_getElem?_getD, List.getElem?_set_ne hne, ← List.getD_eq_getElem?_getD]
          have ebo : boxOf (hs.set one ((rowOf rw (boxOf hs other)).getD k none)) other = boxOf hs other := by unfold boxOf at eo ⊢; rw [eo]
          exact ⟨_, deeds_two (D := .take one other k) (D' := .put other k third) Ent.drop, q d [a, a2] [.take one other k, .put other k third] rfl (by show 2 ≤ 2; decide) ⟨⟨l1, so⟩, ⟨by show third < (hs.set one _).length; rw [List.length_set]; exact l3, by
            show slotOk (hs.set one ((rowOf rw (boxOf hs other)).getD k none)) rw other k
            refine ⟨by rw [List.length_set]; exact l2, ?_, ?_, ?_⟩
            · rw [eo, ebo]; exact so.2.1
            · rw [ebo]; exact so.2.2.1
            · rw [ebo]; exact so.2.2.2⟩, trivial⟩⟩
        · refine s_next ?_
          exact last _
      · refine s_next ?_
        exact last _
  · rintro σ L' ⟨rfl, rfl⟩
    tm_at "go"
    refine ex_c (fun c2 => ?_) fun c2 => ?_
    · tm_at "go"
      refine ⟨by show 3 ≤ sizeLine; decide, fun a => ?_⟩
      tm_at "go"
      refine ⟨by show 1 ≤ sizeLine; decide, fun d => ?_⟩
      exact ⟨_, deeds_one (D := .share one other) (Ent.refl _), q d [a] [.share one other] rfl (by show 1 ≤ 2; decide) ⟨⟨l1, l2⟩, trivial⟩⟩
    tm_at "go"
    refine ex_c (fun c3 => ?_) fun c3 => ?_
    · tm_at "go"
      refine ⟨by show 2 ≤ sizeLine; decide, fun a => ?_⟩
      tm_at "go"
      refine ⟨by show 1 ≤ sizeLine; decide, fun d => ?_⟩
      exact ⟨_, deeds_one (D := .drop one) (Ent.refl _), q d [a] [.drop one] rfl (by show 1 ≤ 2; decide) ⟨l1, trivial⟩⟩
    tm_at "go"
    refine ⟨by show 7 ≤ sizeLine; decide, fun t => ?_⟩
    tm_at "go"
    have l7 : slot % 7 < 7 := Nat.mod_lt _ (by decide)
    rw [show (slot : Int) % 7 = ((slot % 7 : Nat) : Int) from rfl]
    generalize slot % 7 = s at l7 ⊢
    obtain ⟨k, hk, hk4⟩ : ∃ k : Nat, [V.int 2, .int 4, .int 1, .int 0, .int 3, .int 4, .int 4][s]? = some (nV k) ∧ k ≤ 4 := by
      match s, l7 with
      | 0, _ => exact ⟨2, rfl, by decide⟩
      | 1, _ => exact ⟨4, rfl, by decide⟩
      | 2, _ => exact ⟨1, rfl, by decide⟩
      | 3, _ => exact ⟨0, rfl, by decide⟩
      | 4, _ => exact ⟨3, rfl, by decide⟩
      | 5, _ => exact ⟨4, rfl, by decide⟩
      | 6, _ => exact ⟨4, rfl, by decide⟩
    refine r_ixL (Has.sq has_hd) (atI_nat hk) ?_
    tm_at "go"
    refine ⟨by show 3 ≤ sizeLine; decide, fun a => ?_⟩
    tm_at "go"
    refine ⟨by show 1 ≤ sizeLine; decide, fun d => ?_⟩
    exact ⟨_, deeds_one (D := .make one k) Ent.drop, q d [a] [.make one k] rfl (by show 1 ≤ 2; decide) ⟨⟨l1, hk4⟩, trivial⟩⟩
end
/-! The laws' deeds: done at the plain rows, asked of the heap. -/
def P_law_done (K : PySem.W.Frag) (_ : Ex) : Pm := pm3 fun x y z L Q _ => ∃ (a h p : Addr) (d : Deed) (as : List Addr) (hs : Hs) (rw : Rw) (R : AL), x = .ref a ∧ y = .ref h ∧ z = .ref p ∧ L = pt h (.lst (hs.map oV)) :: RowsA p as rw :: R ∧ SqA K R a d.vals ∧ as.length = rw.length ∧ rw.length ≤ 90000 ∧ d.ok hs rw ∧
  ∀ as', as'.length = (d.rw hs rw).length → Q .non (pt h (.lst ((d.hs hs rw).map oV)) :: RowsA p as' (d.rw hs rw) :: R)
def N_law_done : List Str := ["_law_deed", "_law_hands", "_law_rows", "_law_k"]
def t_law_done (K : PySem.W.Frag) (A : Ex) (E : XK) : TS :=
    (tIfS (tTest (tOp rEq (tOp (rIxL K) (tVar 0) (tC (.int 0))) (tC (.str "make")))) (tSeq (tDrop (tBM K "list" rAppend (tVar 2) (tCons (tLc (iRng1 (tCons (tOp (rIxL K) (tVar 0) (tC (.int 2))) tNil)) (gName 3) tYes (tC .non) [3]) tNil)))
    (tAsg (tOp rSubI (tCB (rLen K) (tCons (tVar 2) tNil)) (tC (.int 1))) (gSub (tVar 1) (tOp (rIxL K) (tVar 0) (tC (.int 1))) rSetL))) (tIfS (tTest (tOp rEq (tOp (rIxL K) (tVar 0) (tC (.int 0))) (tC (.str "take")))) (tAsg (tOp (rIxL K) (tOp (rIxL K) (tVar 2) (tOp (rIxL K) (tVar 1) (tOp (rIxL K) (tVar 0) (tC (.int 2))))) (tOp (rIxL K) (tVar 0) (tC (.int 3)))) (gSub (tVar 1) (tOp (rIxL K) (tVar 0) (tC (.int 1))) rSetL)) (tIfS (tTest (tOp rEq (tOp (rIxL K) (tVar 0) (tC (.int 0))) (tC (.str "put")))) (tAsg (tOp (rIxL K) (tVar 1) (tOp (rIxL K) (tVar 0) (tC (.int 3)))) (gSub (tOp (rIxL K) (tVar 2) (tOp (rIxL K) (tVar 1) (tOp (rIxL K) (tVar 0) (tC (.int 1))))) (tOp (rIxL K) (tVar 0) (tC (.int 2))) rSetL)) (tIfS (tTest (tOp rEq (tOp (rIxL K) (tVar 0) (tC (.int 0))) (tC (.str "share")))) (tAsg (tOp (rIxL K) (tVar 1) (tOp (rIxL K) (tVar 0) (tC (.int 2)))) (gSub (tVar 1) (tOp (rIxL K) (tVar 0) (tC (.int 1))) rSetL)) (tAsg (tC .non) (gSub (tVar 1) (tOp (rIxL K) (tVar 0) (tC (.int 1))) rSetL))))))
def P_law_asked (K : PySem.W.Frag) (A : Ex) : Pm := pm2 fun x y L Q _ => ∃ (p a : Addr) (d : Deed) (ad : HAd) (st : HS) (R : AL), x = .ref p ∧ y = .ref a ∧ L = HeapIs A.Heap p ad st :: R ∧ SqA K R a d.vals ∧ HW st ∧ d.ok st.hands st.rows ∧ (∀ b, some b ∈ st.hands → b ∈ st.there) ∧ st.there.length < st.room ∧
  ∀ ad', Q (st.ret d) (HeapIs A.Heap p ad' (st.deed d) :: R)
def N_law_asked : List Str := ["_law_heap", "_law_deed"]
def t_law_asked (K : PySem.W.Frag) (A : Ex) (E : XK) : TS :=
    (tSeq (tIfS (tTest (tOp rEq (tOp (rIxL K) (tVar 1) (tC (.int 0))) (tC (.str "make")))) (tRet (tMeth A.Heap "make" (lift (P_make K A)) [] E0 (tVar 0) (tCons (tOp (rIxL K) (tVar 1) (tC (.int 1))) (tCons (tOp (rIxL K) (tVar 1) (tC (.int 2))) tNil)))) tNext)
    (tSeq (tIfS (tTest (tOp rEq (tOp (rIxL K) (tVar 1) (tC (.int 0))) (tC (.str "take")))) (tRet (tMeth A.Heap "take" (lift (P_take K A)) [] E0 (tVar 0) (tCons (tOp (rIxL K) (tVar 1) (tC (.int 1))) (tCons (tOp (rIxL K) (tVar 1) (tC (.int 2))) (tCons (tOp (rIxL K) (tVar 1) (tC (.int 3))) tNil))))) tNext)
    (tSeq (tIfS (tTest (tOp rEq (tOp (rIxL K) (tVar 1) (tC (.int 0))) (tC (.str "put")))) (tRet (tMeth A.Heap "put" (lift (P_put K A)) [] E0 (tVar 0) (tCons (tOp (rIxL K) (tVar 1) (tC (.int 1))) (tCons (tOp (rIxL K) (tVar 1) (tC (.int 2))) (tCons (tOp (rIxL K) (tVar 1) (tC (.int 3))) tNil))))) tNext)
    (tSeq (tIfS (tTest (tOp rEq (tOp (rIxL K) (tVar 1) (tC (.int 0))) (tC (.str "share")))) (tRet (tMeth A.Heap "share" (lift (P_share K A)) [] E0 (tVar 0) (tCons (tOp (rIxL K) (tVar 1) (tC (.int 1))) (tCons (tOp (rIxL K) (tVar 1) (tC (.int 2))) tNil)))) tNext)
    (tRet (tMeth A.Heap "drop" (lift (P_drop K A)) [] E0 (tVar 0) (tCons (tOp (rIxL K) (tVar 1) (tC (.int 1))) tNil)))))))
def P_law_cleared (K : PySem.W.Frag) (_ : Ex) : Pm := pm2 fun x y L Q _ => ∃ (a b : Addr) (xs : List (Option Nat)) (R : AL), x = .ref a ∧ y = .ref b ∧ L = pt a (.lst (xs.map oV)) :: R ∧ SqA K R b (xs.map oV) ∧ xs.length ≤ 100000 ∧ Q (.bl true) R
def N_law_cleared : List Str := ["_law_found", "_law_due", "_law_good"]
def t_law_cleared (K : PySem.W.Frag) (A : Ex) (E : XK) : TS :=
    (tSeq (tAsg (tCall (lift (P_law_numbers K A)) [] E0 (tCons (tVar 0) (tCons (tVar 1) tNil))) (gName 2))
    (tSeq (tIfS (tB (tVar 2)) (tDrop (tBM0 K "list" rClear (tVar 0))) tNext)
    (tRet (tVar 2))))
def P_law_holds (K : PySem.W.Frag) (A : Ex) : Pm := pm3 fun x y z L Q _ => ∃ (p h r : Addr) (as : List Addr) (ad : HAd) (st : HS) (R : AL), x = .ref p ∧ y = .ref h ∧ z = .ref r ∧ L = HeapIs A.Heap p ad st :: R ∧ SqA K R h (st.hands.map oV) ∧ RdRows K R r as st.rows ∧ HW st ∧ (∀ b, some b ∈ st.hands → b ∈ st.there) ∧ Q (.bl true) L
def N_law_holds : List Str := ["_law_heap", "_law_hands", "_law_rows", "_law_box", "_law_k"]
def t_law_holds (K : PySem.W.Frag) (A : Ex) (E : XK) : TS :=
    (tSeq (tIfS (tNot (tB (tCall (lift (P_law_numbers K A)) [] E0 (tCons (tLc (iRng1 (tCons (tCB (rLen K) (tCons (tVar 1) tNil)) tNil)) (gName 4) tYes (tMeth A.Heap "held" (lift (P_held K A)) [] E0 (tVar 0) (tCons (tVar 4) tNil)) [4]) (tCons (tVar 1) tNil))))) (tRet (tC (.bl false))) tNext)
    (tSeq (tFor (iList K (tVar 1)) (gName 3)
      (tIfS (tAnd (tTest (tOp rNotNo (tVar 3) (tC .non))) (tNot (tB (tCall (lift (P_law_cleared K A)) [] E0 (tCons (tMeth A.Heap "look" (lift (P_look K A)) [] E0 (tVar 0) (tCons (tVar 3) tNil)) (tCons (tOp (rIxL K) (tVar 2) (tVar 3)) tNil)))))) (tRet (tC (.bl false))) tNext))
    (tRet (tC (.bl true)))))
section
variable {K : PySem.W.Frag} {A : Ex} {E : XK} {vs : List V} {L : AL} {Q : V → AL → Prop} {Ea : Value → AL → Prop}
theorem do_done {a h p : Addr} {d : Deed} {as : List Addr} {hs : Hs} {rw : Rw} {R : AL} (e : Ent L (pt h (.lst (hs.map oV)) :: RowsA p as rw :: R)) (hd : SqA K R a d.vals) (hl : as.length = rw.length) (hz : rw.length ≤ 90000) (ok : d.ok hs rw)
    (q : ∀ as', as'.length = (d.rw hs rw).length → Q .non (pt h (.lst ((d.hs hs rw).map oV)) :: RowsA p as' (d.rw hs rw) :: R)) : ∃ L2, Ent L L2 ∧ P_law_done K A [.ref a, .ref h, .ref p] L2 Q Ea := ⟨_, e, _, _, _, rfl, a, h, p, d, as, hs, rw, R, rfl, rfl, rfl, rfl, hd, hl, hz, ok, q⟩
theorem do_asked {p a : Addr} {d : Deed} {ad : HAd} {st : HS} {R : AL} (e : Ent L (HeapIs A.Heap p ad st :: R)) (hd : SqA K R a d.vals) (w : HW st) (ok : d.ok st.hands st.rows) (hb : ∀ b, some b ∈ st.hands → b ∈ st.there) (hr : st.there.length < st.room)
    (q : ∀ ad', Q (st.ret d) (HeapIs A.Heap p ad' (st.deed d) :: R)) : ∃ L2, Ent L L2 ∧ P_law_asked K A [.ref p, .ref a] L2 Q Ea := ⟨_, e, _, _, rfl, p, a, d, ad, st, R, rfl, rfl, rfl, hd, w, ok, hb, hr, q⟩
theorem do_cleared {a b : Addr} {xs : List (Option Nat)} {R : AL} (e : Ent L (pt a (.lst (xs.map oV)) :: R)) (h : SqA K R b (xs.map oV)) (hz : xs.length ≤ 100000) (q : Q (.bl true) R) : ∃ L2, Ent L L2 ∧ P_law_cleared K A [.ref a, .ref b] L2 Q Ea := ⟨_, e, _, _, rfl, a, b, xs, R, rfl, rfl, rfl, h, hz, q⟩
theorem hs_get {hs : Hs} {i : Nat} (h : i < hs.length) : (hs.map oV)[i]? = some (oV (hs.getD i none)) := by
  rw [List.getElem?_map, List.getD_eq_getElem?_getD, List.getElem?_eq_getElem h]; rfl
theorem rw_get {rw : Rw} {b : Nat} (h : b < rw.length) : rw[b]? = some (rowOf rw b) := by unfold rowOf; rw [List.getD_eq_getElem?_getD, List.getElem?_eq_getElem h]; rfl
theorem as_get {as : List Addr} {b : Nat} {a : Addr} (h : as[b]? = some a) : (as.map V.ref)[b]? = some (.ref a) := by rw [List.getElem?_map, h]; rfl
theorem as_ex {as : List Addr} {b : Nat} (h : b < as.length) : ∃ a, as[b]? = some a := ⟨_, List.getElem?_eq_getElem h⟩
theorem p_law_done (he : ELe Ea E) (h : P_law_done K A vs L Q Ea) : SS (t_law_done K A E) { nx := fun _ L => Q .non L, rt := Q } (start N_law_done vs) L := by
  obtain ⟨_, _, _, rfl, a, h, p, d, as, hs, rw, R, rfl, rfl, rfl, rfl, hd, hl, hz, ok, q⟩ := h
  unfold t_law_done
  have hd2 : ∀ (o o2 : Asn), SqA K (o :: o2 :: R) a d.vals := fun o o2 => sq_tl (sq_tl hd)
  cases d with
  | make i k =>
    tm_at "go"
    refine r_ixL (sq_tl (sq_tl hd)) (atI_nat (j := 0) rfl) ?_
    tm_at "go"
    refine ex_c (fun _ => ?_) fun n => absurd rfl n
    tm_at "go"
    refine e_lcPlainR k (fun _ => true) (fun _ => .non) (by have := ok.2; omega) (fun _ => rfl) ?_ (fun i hi L' en => t_yes ⟨rfl, rfl⟩) (fun i hi _ L' en => e_c ⟨rfl, rfl⟩) fun b => ?_
    · tm_at "go"
      refine r_ixL (sq_tl (sq_tl hd)) (atI_nat (j := 2) rfl) ?_
      tm_at "go"
      exact ⟨rfl, rfl⟩
    rw [nones]
    tm_at "go"
    have wr : Wr (pt b (.lst ((List.replicate k (none : Option Nat)).map oV)) :: pt h (.lst (hs.map oV)) :: RowsA p as rw :: R) p (.lst (as.map V.ref ++ [V.ref b])) (pt h (.lst (hs.map oV)) :: RowsA p (as ++ [b]) (rw ++ [List.replicate k none]) :: R) :=
      Wr.ent (wr_tl (rows_push hl)) (ent_swap.trans (Ent.cons ent_swap))
    refine r_append (by tm_at "hs") (small5 (by rw [List.length_map, hl]; omega)) wr ?_
    tm_at "go"
    refine r_ixL (sq_tl (sq_tl hd)) (atI_nat (j := 1) rfl) ?_
    have el : (((as ++ [b]).map V.ref).length : Int) - 1 = (rw.length : Int) := by rw [List.length_map, List.length_append, hl]; simp
    rw [el]
    refine r_setL has_hd (ixN_nat (by rw [List.length_map]; exact ok.1)) wr_hd ?_
    rw [show (hs.map oV).set i (V.int (rw.length : Int)) = (hs.set i (some rw.length)).map oV by rw [List.map_set]]
    exact q _ (by show (as ++ [b]).length = (rw ++ _).length; rw [List.length_append, List.length_append, hl]; rfl)
  | take i j k =>
    obtain ⟨o1, o2, o3, o4, o5⟩ := ok
    generalize eb : boxOf hs j = b at *
    obtain ⟨c, hc⟩ := as_ex (as := as) (b := b) (by omega)
    have hrow : Has (pt h (.lst (hs.map oV)) :: RowsA p as rw :: R) c (.lst ((rowOf rw b).map oV)) := has_tl (rows_i hc (rw_get o4))
    tm_at "go"
    refine r_ixL (sq_tl (sq_tl hd)) (atI_nat (j := 0) rfl) ?_
    tm_at "go"
    refine ex_c (fun c => absurd c (by decide)) fun _ => ?_
    tm_at "go"
    refine r_ixL (sq_tl (sq_tl hd)) (atI_nat (j := 0) rfl) ?_
    tm_at "go"
    refine ex_c (fun _ => ?_) fun n => absurd rfl n
    tm_at "go"
    refine r_ixL (sq_tl (sq_tl hd)) (atI_nat (j := 2) rfl) ?_
    refine r_ixL (Has.sq has_hd) (atI_nat (hs_get o2)) ?_
    rw [o3]
    refine r_ixL (Has.sq (has_tl rows_p)) (atI_nat (as_get hc)) ?_
    tm_at "go"
    refine r_ixL (sq_tl (sq_tl hd)) (atI_nat (j := 3) rfl) ?_
    refine r_ixL hrow.sq (atI_nat (hs_get o5)) ?_
    tm_at "go"
    refine r_ixL (sq_tl (sq_tl hd)) (atI_nat (j := 1) rfl) ?_
    refine r_setL has_hd (ixN_nat (by rw [List.length_map]; exact o1)) wr_hd ?_
    have e : Q .non (pt h (.lst ((hs.set i ((rowOf rw (boxOf hs j)).getD k none)).map oV)) :: RowsA p as rw :: R) := q as hl
    rw [eb, List.map_set] at e
    exact e
  | put i k j =>
    obtain ⟨o1, o2, o3, o4, o5⟩ := ok
    generalize eb : boxOf hs i = b at *
    obtain ⟨c, hc⟩ := as_ex (as := as) (b := b) (by omega)
    have hrow : Has (pt h (.lst (hs.map oV)) :: RowsA p as rw :: R) c (.lst ((rowOf rw b).map oV)) := has_tl (rows_i hc (rw_get o4))
    tm_at "go"
    refine r_ixL (sq_tl (sq_tl hd)) (atI_nat (j := 0) rfl) ?_
    tm_at "go"
    refine ex_c (fun c => absurd c (by decide)) fun _ => ?_
    tm_at "go"
    refine r_ixL (sq_tl (sq_tl hd)) (atI_nat (j := 0) rfl) ?_
    tm_at "go"
    refine ex_c (fun c => absurd c (by decide)) fun _ => ?_
    tm_at "go"
    refine r_ixL (sq_tl (sq_tl hd)) (atI_nat (j := 0) rfl) ?_
    tm_at "go"
    refine ex_c (fun _ => ?_) fun n => absurd rfl n
    tm_at "go"
    refine r_ixL (sq_tl (sq_tl hd)) (atI_nat (j := 3) rfl) ?_
    refine r_ixL (Has.sq has_hd) (atI_nat (hs_get o1)) ?_
    tm_at "go"
    refine r_ixL (sq_tl (sq_tl hd)) (atI_nat (j := 1) rfl) ?_
    refine r_ixL (Has.sq has_hd) (atI_nat (hs_get o2)) ?_
    rw [o3]
    refine r_ixL (Has.sq (has_tl rows_p)) (atI_nat (as_get hc)) ?_
    tm_at "go"
    refine r_ixL (sq_tl (sq_tl hd)) (atI_nat (j := 2) rfl) ?_
    refine r_setL hrow (ixN_nat (by rw [List.length_map]; exact o5)) (wr_tl ?_) (q as (by show as.length = (rw.set _ _).length; rw [List.length_set]; exact hl))
    show Wr _ _ _ (RowsA p as (rw.set (boxOf hs i) ((rowOf rw (boxOf hs i)).set k (hs.getD j none))) :: R)
    rw [eb, ← List.map_set]
    exact rows_set hc (rw_get o4)
  | share i j =>
    tm_at "go"
    refine r_ixL (sq_tl (sq_tl hd)) (atI_nat (j := 0) rfl) ?_
    tm_at "go"
    refine ex_c (fun c => absurd c (by decide)) fun _ => ?_
    tm_at "go"
    refine r_ixL (sq_tl (sq_tl hd)) (atI_nat (j := 0) rfl) ?_
    tm_at "go"
    refine ex_c (fun c => absurd c (by decide)) fun _ => ?_
    tm_at "go"
    refine r_ixL (sq_tl (sq_tl hd)) (atI_nat (j := 0) rfl) ?_
    tm_at "go"
    refine ex_c (fun c => absurd c (by decide)) fun _ => ?_
    tm_at "go"
    refine r_ixL (sq_tl (sq_tl hd)) (atI_nat (j := 0) rfl) ?_
    tm_at "go"
    refine ex_c (fun _ => ?_) fun n => absurd rfl n
    tm_at "go"
    refine r_ixL (sq_tl (sq_tl hd)) (atI_nat (j := 2) rfl) ?_
    refine r_ixL (Has.sq has_hd) (atI_nat (hs_get ok.2)) ?_
    tm_at "go"
    refine r_ixL (sq_tl (sq_tl hd)) (atI_nat (j := 1) rfl) ?_
    refine r_setL has_hd (ixN_nat (by rw [List.length_map]; exact ok.1)) wr_hd ?_
    have e : Q .non (pt h (.lst ((hs.set i (hs.getD j none)).map oV)) :: RowsA p as rw :: R) := q as hl
    rw [List.map_set] at e
    exact e
  | drop i =>
    tm_at "go"
    refine r_ixL (sq_tl (sq_tl hd)) (atI_nat (j := 0) rfl) ?_
    tm_at "go"
    refine ex_c (fun c => absurd c (by decide)) fun _ => ?_
    tm_at "go"
    refine r_ixL (sq_tl (sq_tl hd)) (atI_nat (j := 0) rfl) ?_
    tm_at "go"
    refine ex_c (fun c => absurd c (by decide)) fun _ => ?_
    tm_at "go"
    refine r_ixL (sq_tl (sq_tl hd)) (atI_nat (j := 0) rfl) ?_
    tm_at "go"
    refine ex_c (fun c => absurd c (by decide)) fun _ => ?_
    tm_at "go"
    refine r_ixL (sq_tl (sq_tl hd)) (atI_nat (j := 0) rfl) ?_
    tm_at "go"
    refine ex_c (fun c => absurd c (by decide)) fun _ => ?_
    tm_at "go"
    refine r_ixL (sq_tl (sq_tl hd)) (atI_nat (j := 1) rfl) ?_
    refine r_setL has_hd (ixN_nat (by rw [List.length_map]; exact ok)) wr_hd ?_
    have e : Q .non (pt h (.lst ((hs.set i none).map oV)) :: RowsA p as rw :: R) := q as hl
    rw [List.map_set] at e
    exact e
end
/-! The laws' deeds: asked of the heap; what is told of it. -/
section
variable {K : PySem.W.Frag} {A : Ex} {E : XK} {vs : List V} {L : AL} {Q : V → AL → Prop} {Ea : Value → AL → Prop}
/-- a comprehension over range(n) of plain values; each item may work at the rest -/
theorem e_lcPlainRF {σ : L2.St} {te : TE} {tr : TA} {j : Nat} {vs : List Nat} (n : Nat) (g : Nat → V) (hn : n ≤ 100000) (hw : ∀ x, wipe ((wipe σ vs).set j (some x)) vs = wipe σ vs) (h : SA tr σ L fun us L1 => us = [nV n] ∧ L1 = L)
    (hs : ∀ i, i < n → ∀ o : Asn, SE te ((wipe σ vs).set j (some (nV i))) (o :: L) fun y L3 => y = g i ∧ Ent L3 (o :: L))
    (hq : ∀ d, Q (.ref d) (pt d (.lst ((List.range n).map g)) :: L)) : SE (tLc (iRng1 tr) (gName j) tYes te vs) σ L Q := by
  refine e_lcR1 fun H s Qh k => h H s _ fun us L1 H1 s1 ⟨e1, e2⟩ => k _ _ _ s1 ⟨(n : Int), e1, by omega, by omega, hw, ?_⟩
  subst e2
  refine ⟨fun i acc L' => acc = (List.range i).map g ∧ L' = L1, ⟨rfl, rfl⟩, ?_, ?_⟩
  · rintro i acc L' d hi ⟨rfl, rfl⟩
    refine t_yes ⟨fun _ => ?_, (fun z => nomatch z)⟩
    refine e_mono (hs i (by omega) _) ?_
    rintro _ L3 ⟨rfl, e3⟩
    refine ⟨L', e3, small5 (by rw [List.length_map, List.length_range]; omega), ?_, rfl⟩
    rw [List.range_succ, List.map_append]
    rfl
  · rintro acc L' d ⟨rfl, rfl⟩
    have e : ((n : Int)).toNat = n := by omega
    rw [e]
    exact hq d
theorem range_getD {hs : Hs} : ((List.range hs.length).map fun i => oV (hs.getD i none)) = hs.map oV := by
  refine List.ext_getElem? fun i => ?_
  by_cases c : i < hs.length
  · rw [hs_get c, List.getElem?_map, List.getElem?_range c]
    rfl
  · rw [List.getElem?_eq_none (by rw [List.length_map, List.length_range]; omega), List.getElem?_eq_none (by rw [List.length_map]; omega)]
theorem p_law_asked (T : HT K A) (he : ELe Ea E) (h : P_law_asked K A vs L Q Ea) : SS (t_law_asked K A E) { nx := fun _ L => Q .non L, rt := Q } (start N_law_asked vs) L := by
  obtain ⟨_, _, rfl, p, a, d, ad, st, R, rfl, rfl, rfl, hd, w, ok, hb, hr, q⟩ := h
  unfold t_law_asked
  have hbx : ∀ {i k : Nat}, slotOk st.hands st.rows i k → boxOf st.hands i ∈ st.there := fun {i k} o => hb _ (o.2.1 ▸ getD_mem o.1)
  cases d with
  | make i k =>
    tm_at "go"
    refine r_ixL (sq_tl hd) (atI_nat (j := 0) rfl) ?_
    tm_at "go"
    refine ex_c (fun _ => ?_) fun n => absurd rfl n
    tm_at "go"
    refine r_ixL (sq_tl hd) (atI_nat (j := 1) rfl) ?_
    tm_at "go"
    refine r_ixL (sq_tl hd) (atI_nat (j := 2) rfl) ?_
    tm_at "go"
    exact do_make (Ent.refl _) w ok.1 ok.2 hr q
  | take i j k =>
    tm_at "go"
    refine r_ixL (sq_tl hd) (atI_nat (j := 0) rfl) ?_
    tm_at "go"
    refine ex_c (fun c => absurd c (by decide)) fun _ => ?_
    tm_at "go"
    refine r_ixL (sq_tl hd) (atI_nat (j := 0) rfl) ?_
    tm_at "go"
    refine ex_c (fun _ => ?_) fun n => absurd rfl n
    tm_at "go"
    refine r_ixL (sq_tl hd) (atI_nat (j := 1) rfl) ?_
    tm_at "go"
    refine r_ixL (sq_tl hd) (atI_nat (j := 2) rfl) ?_
    tm_at "go"
    refine r_ixL (sq_tl hd) (atI_nat (j := 3) rfl) ?_
    tm_at "go"
    exact do_take (Ent.refl _) w ok.1 ok.2.1 ok.2.2.1 (hbx ok.2) ok.2.2.2.2 (q _)
  | put i k j =>
    tm_at "go"
    refine r_ixL (sq_tl hd) (atI_nat (j := 0) rfl) ?_
    tm_at "go"
    refine ex_c (fun c => absurd c (by decide)) fun _ => ?_
    tm_at "go"
    refine r_ixL (sq_tl hd) (atI_nat (j := 0) rfl) ?_
    tm_at "go"
    refine ex_c (fun c => absurd c (by decide)) fun _ => ?_
    tm_at "go"
    refine r_ixL (sq_tl hd) (atI_nat (j := 0) rfl) ?_
    tm_at "go"
    refine ex_c (fun _ => ?_) fun n => absurd rfl n
    tm_at "go"
    refine r_ixL (sq_tl hd) (atI_nat (j := 1) rfl) ?_
    tm_at "go"
    refine r_ixL (sq_tl hd) (atI_nat (j := 2) rfl) ?_
    tm_at "go"
    refine r_ixL (sq_tl hd) (atI_nat (j := 3) rfl) ?_
    tm_at "go"
    exact do_put (Ent.refl _) w ok.2.1 ok.1 ok.2.2.1 (hbx ok.2) ok.2.2.2.2 (q _)
  | share i j =>
    tm_at "go"
    refine r_ixL (sq_tl hd) (atI_nat (j := 0) rfl) ?_
    tm_at "go"
    refine ex_c (fun c => absurd c (by decide)) fun _ => ?_
    tm_at "go"
    refine r_ixL (sq_tl hd) (atI_nat (j := 0) rfl) ?_
    tm_at "go"
    refine ex_c (fun c => absurd c (by decide)) fun _ => ?_
    tm_at "go"
    refine r_ixL (sq_tl hd) (atI_nat (j := 0) rfl) ?_
    tm_at "go"
    refine ex_c (fun c => absurd c (by decide)) fun _ => ?_
    tm_at "go"
    refine r_ixL (sq_tl hd) (atI_nat (j := 0) rfl) ?_
    tm_at "go"
    refine ex_c (fun _ => ?_) fun n => absurd rfl n
    tm_at "go"
    refine r_ixL (sq_tl hd) (atI_nat (j := 1) rfl) ?_
    tm_at "go"
    refine r_ixL (sq_tl hd) (atI_nat (j := 2) rfl) ?_
    tm_at "go"
    exact do_share (Ent.refl _) ok.1 ok.2 (q _)
  | drop i =>
    tm_at "go"
    refine r_ixL (sq_tl hd) (atI_nat (j := 0) rfl) ?_
    tm_at "go"
    refine ex_c (fun c => absurd c (by decide)) fun _ => ?_
    tm_at "go"
    refine r_ixL (sq_tl hd) (atI_nat (j := 0) rfl) ?_
    tm_at "go"
    refine ex_c (fun c => absurd c (by decide)) fun _ => ?_
    tm_at "go"
    refine r_ixL (sq_tl hd) (atI_nat (j := 0) rfl) ?_
    tm_at "go"
    refine ex_c (fun c => absurd c (by decide)) fun _ => ?_
    tm_at "go"
    refine r_ixL (sq_tl hd) (atI_nat (j := 0) rfl) ?_
    tm_at "go"
    refine ex_c (fun c => absurd c (by decide)) fun _ => ?_
    tm_at "go"
    refine r_ixL (sq_tl hd) (atI_nat (j := 1) rfl) ?_
    tm_at "go"
    exact do_drop (Ent.refl _) ok (q _)
theorem p_law_cleared (he : ELe Ea E) (h : P_law_cleared K A vs L Q Ea) : SS (t_law_cleared K A E) { nx := fun _ L => Q .non L, rt := Q } (start N_law_cleared vs) L := by
  obtain ⟨_, _, rfl, a, b, xs, R, rfl, rfl, rfl, hb, hz, q⟩ := h
  unfold t_law_cleared
  refine s_postB ?_
  tm_at "go"
  refine do_numbersT has_hd (sq_tl hb) hz ?_
  tm_at "go"
  refine ex_t ?_
  tm_at "go"
  refine r_clear has_hd wr_hd ?_
  tm_at "go"
  exact ⟨_, Ent.drop, q⟩
theorem do_holds {p h r : Addr} {as : List Addr} {ad : HAd} {st : HS} {R : AL} (e : Ent L (HeapIs A.Heap p ad st :: R)) (hh : SqA K R h (st.hands.map oV)) (hr : RdRows K R r as st.rows) (w : HW st) (hb : ∀ b, some b ∈ st.hands → b ∈ st.there) (q : Q (.bl true) (HeapIs A.Heap p ad st :: R)) :
    ∃ L2, Ent L L2 ∧ P_law_holds K A [.ref p, .ref h, .ref r] L2 Q Ea := ⟨_, e, _, _, _, rfl, p, h, r, as, ad, st, R, rfl, rfl, rfl, rfl, hh, hr, w, hb, q⟩
theorem p_law_holds (T : HT K A) (he : ELe Ea E) (h : P_law_holds K A vs L Q Ea) : SS (t_law_holds K A E) { nx := fun _ L => Q .non L, rt := Q } (start N_law_holds vs) L := by
  obtain ⟨_, _, _, rfl, p, h, r, as, ad, st, R, rfl, rfl, rfl, rfl, hh, hr, w, hb, q⟩ := h
  unfold t_law_holds
  refine s_postB ?_
  have h8 := w.hands
  tm_at "go"
  refine e_lcPlainRF st.hands.length (fun i => oV (st.hands.getD i none)) (by omega) (fun _ => rfl) ?_ (fun i hi o => ?_) fun b => ?_
  · tm_at "go"
    rw [List.length_map]
    exact ⟨rfl, rfl⟩
  · tm_at "go"
    exact do_held ent_swap hi ⟨rfl, ent_swap⟩
  rw [range_getD]
  tm_at "go"
  refine do_numbersT has_hd (sq_tl (sq_tl hh)) (by omega) ?_
  refine ⟨true, rfl, both_f ?_⟩
  tm_at "go"
  refine s_ent Ent.drop ?_
  refine s_forL ?_
  tm_at "go"
  refine ⟨h, st.hands.map oV, rfl, sq_tl hh, fun i σ L' => (∃ v w2, σ = [some (.ref p), some (.ref h), some (.ref r), v, w2]) ∧ L' = HeapIs A.Heap p ad st :: R, ⟨⟨_, _, rfl⟩, rfl⟩, ?_, ?_, ?_⟩
  · rintro i σ L' hi ⟨_, rfl⟩
    exact sq_tl hh
  · rintro i x σ L' hx ⟨⟨v, w2, rfl⟩, rfl⟩
    obtain ⟨o, ho, rfl⟩ := map_get hx
    cases o with
    | none =>
      tm_at "go"
      refine ⟨_, rfl, both_f (both_f ?_)⟩
      tm_at "go"
      exact ⟨⟨_, _, rfl⟩, rfl⟩
    | some b =>
      have hbt := hb b (List.mem_of_getElem? ho)
      have hbl := w.lt b hbt
      obtain ⟨c, hc⟩ := as_ex (as := as) (b := b) (by rw [hr.len]; exact hbl)
      have hrow := hr.row b c _ hc (rw_get hbl)
      have hl4 : (rowOf st.rows b).length ≤ 4 := w.rl _ (List.mem_of_getElem? (rw_get hbl))
      refine s_post ?_
      tm_at "go"
      refine ⟨_, rfl, both_t ?_⟩
      tm_at "go"
      refine do_look (Ent.refl _) w hbt fun d => ?_
      tm_at "go"
      refine r_ixL (sq_tl (sq_tl hr.top)) (atI_nat (as_get hc)) ?_
      tm_at "go"
      refine do_cleared (xs := rowOf st.rows b) (Ent.refl _) (sq_tl hrow) (by omega) ?_
      refine ⟨true, rfl, both_f ?_⟩
      tm_at "go"
      exact ⟨_, Ent.refl _, ⟨_, _, rfl⟩, rfl⟩
  · rintro σ L' ⟨⟨v, w2, rfl⟩, rfl⟩
    tm_at "go"
    exact ⟨_, Ent.refl _, q⟩
end
/-! The mirror under deeds. -/
theorem put_eq (st : HS) (b k : Nat) (o : Option Nat) : (st.put b k o).hands = st.hands ∧ (st.put b k o).rows = st.rows.set b ((rowOf st.rows b).set k o) ∧ (st.put b k o).there = st.there := by
  unfold HS.put
  split
  · refine ⟨HS.mark_hands _ _, ?_, HS.mark_there _ _⟩
    show ((st.mark _).rows.set b (((st.mark _).rowAt b).set k o)) = _
    rw [HS.rowAt_mark, HS.mark_rows]
    rfl
  · exact ⟨rfl, rfl, rfl⟩
theorem deed_hands (st : HS) (d : Deed) : (st.deed d).hands = d.hs st.hands st.rows := by
  cases d with
  | put i k j => exact (put_eq _ _ _ _).1
  | _ => rfl
theorem deed_rows (st : HS) (d : Deed) : (st.deed d).rows = d.rw st.hands st.rows := by
  cases d with
  | put i k j => exact (put_eq _ _ _ _).2.1
  | _ => rfl
def Deed.word : Deed → Str
  | .make _ _ => "make"
  | .take _ _ _ => "take"
  | .put _ _ _ => "put"
  | .share _ _ => "share"
  | .drop _ => "drop"
theorem deed_word (d : Deed) : d.vals[0]? = some (.str d.word) := by cases d <;> rfl
theorem deed_facts (st : HS) (d : Deed) : (V.str d.word = V.str "make" ∧ st.ret d = nV st.rows.length ∧ (st.deed d).rows.length = st.rows.length + 1) ∨ (V.str d.word ≠ V.str "make" ∧ st.ret d = .non) := by
  cases d with
  | make i k => exact .inl ⟨rfl, rfl, by show (st.rows ++ [_]).length = _; simp⟩
  | take => exact .inr ⟨by show V.str "take" ≠ V.str "make"; decide, rfl⟩
  | put => exact .inr ⟨by show V.str "put" ≠ V.str "make"; decide, rfl⟩
  | share => exact .inr ⟨by show V.str "share" ≠ V.str "make"; decide, rfl⟩
  | drop => exact .inr ⟨by show V.str "drop" ≠ V.str "make"; decide, rfl⟩
theorem rw_len1 (hs : Hs) (rw : Rw) (d : Deed) : (d.rw hs rw).length ≤ rw.length + 1 := by
  cases d <;> simp [Deed.rw]
theorem HW.setSlot {st : HS} (w : HW st) {b k : Nat} {o : Option Nat} : HW (st.setSlot b k o) := by
  refine ⟨w.nd, fun x hx => ?_, w.hands, ?_, fun r hr => ?_, w.sn, w.sl, ?_⟩
  · show x < (st.rows.set _ _).length; rw [List.length_set]; exact w.lt x hx
  · show (st.rows.set _ _).length ≤ _; rw [List.length_set]; exact w.big
  · rcases List.mem_or_eq_of_mem_set hr with h | h
    · exact w.rl r h
    · rw [h, List.length_set]; exact w.rowl b
  · show st.begun ≤ (st.rows.set _ _).length; rw [List.length_set]; exact w.bg
theorem HW.deed {st : HS} (w : HW st) {d : Deed} (ok : d.ok st.hands st.rows) (hb : st.rows.length < 90000) : HW (st.deed d) := by
  cases d with
  | make i k =>
    have e : (st.rows ++ [List.replicate k (none : Option Nat)]).length = st.rows.length + 1 := by simp
    refine ⟨?_, fun x hx => ?_, ?_, ?_, fun r hr => ?_, w.sn, w.sl, ?_⟩
    · show (st.there ++ [st.rows.length]).Pairwise _
      rw [List.pairwise_append]
      exact ⟨w.nd, List.pairwise_singleton _ _, fun a ha b hb => by rw [List.mem_singleton.mp hb]; exact w.lt a ha⟩
    · show x < (st.rows ++ [List.replicate k (none : Option Nat)]).length
      rw [e]
      rcases List.mem_append.mp hx with h | h
      · have := w.lt x h; omega
      · rw [List.mem_singleton.mp h]; omega
    · show (st.hands.set _ _).length ≤ 8; rw [List.length_set]; exact w.hands
    · show (st.rows ++ [List.replicate k (none : Option Nat)]).length ≤ _; rw [e]; omega
    · rcases List.mem_append.mp hr with h | h
      · exact w.rl r h
      · rw [List.mem_singleton.mp h, List.length_replicate]; exact ok.2
    · show st.begun ≤ (st.rows ++ [List.replicate k (none : Option Nat)]).length; rw [e]; have := w.bg; omega
  | take i j k => exact ⟨w.nd, w.lt, by show (st.hands.set _ _).length ≤ 8; rw [List.length_set]; exact w.hands, w.big, w.rl, w.sn, w.sl, w.bg⟩
  | put i k j =>
    show HW (st.put _ _ _)
    unfold HS.put
    split
    · exact (w.mark _).setSlot
    · exact w.setSlot
  | share i j => exact ⟨w.nd, w.lt, by show (st.hands.set _ _).length ≤ 8; rw [List.length_set]; exact w.hands, w.big, w.rl, w.sn, w.sl, w.bg⟩
  | drop i => exact ⟨w.nd, w.lt, by show (st.hands.set _ _).length ≤ 8; rw [List.length_set]; exact w.hands, w.big, w.rl, w.sn, w.sl, w.bg⟩
/-- while the collector never works -/
structure I4 (st : HS) (n m : Nat) : Prop where
  w : HW st
  p : PW st.hands st.rows
  th : st.there = List.range st.rows.length
  sg : st.stage = .idle
  en : st.ended = 0
  rm : st.room = 1000
  hl : st.hands.length = n
  ml : st.rows.length ≤ m
  sn : st.seen = []
  lk : st.looked = 0
  sw : st.swept = 0
  od : st.old = []
  bn : st.begun = 0
theorem I4.new {n : Nat} (h : n ≤ 8) : I4 (HS.new n 1000) n 0 := by
  refine ⟨⟨List.Pairwise.nil, (fun _ h => nomatch h), ?_, Nat.zero_le _, (fun _ h => nomatch h), List.nodup_nil, (fun _ h => nomatch h), Nat.le_refl _⟩, ⟨fun b hb => ?_, (fun _ h => nomatch h), (fun _ h => nomatch h)⟩, rfl, rfl, rfl, rfl, ?_, Nat.le_refl _, rfl, rfl, rfl, rfl, rfl⟩
  · show (List.replicate n (none : Option Nat)).length ≤ 8; rw [List.length_replicate]; exact h
  · have := (List.mem_replicate.mp hb).2; cases this
  · show (List.replicate n (none : Option Nat)).length = n; rw [List.length_replicate]
theorem I4.hb {st : HS} {n m : Nat} (i : I4 st n m) : ∀ b, some b ∈ st.hands → b ∈ st.there := fun b h => by rw [i.th]; exact List.mem_range.mpr (i.p.h b h)
theorem I4.tl {st : HS} {n m : Nat} (i : I4 st n m) : st.there.length = st.rows.length := by rw [i.th, List.length_range]
theorem I4.deed {st : HS} {n m : Nat} (i : I4 st n m) {d : Deed} (ok : d.ok st.hands st.rows) (hm : m < 1000) : I4 (st.deed d) n (m + 1) := by
  have hp : PW (st.deed d).hands (st.deed d).rows := by rw [deed_hands, deed_rows]; exact i.p.deed ok
  have hl : (st.deed d).hands.length = n := by rw [deed_hands, hs_len]; exact i.hl
  have hr : (st.deed d).rows.length ≤ m + 1 := by rw [deed_rows]; have := rw_len1 st.hands st.rows d; have := i.ml; omega
  have hw := i.w.deed ok (by have := i.ml; omega)
  cases d with
  | make a k =>
    refine ⟨hw, hp, ?_, i.sg, i.en, i.rm, hl, hr, i.sn, i.lk, i.sw, i.od, i.bn⟩
    show st.there ++ [st.rows.length] = List.range (st.rows ++ [List.replicate k (none : Option Nat)]).length
    rw [List.length_append, List.length_singleton, List.range_succ, i.th]
  | take => exact ⟨hw, hp, i.th, i.sg, i.en, i.rm, hl, hr, i.sn, i.lk, i.sw, i.od, i.bn⟩
  | put a k b =>
    have e : st.deed (.put a k b) = st.setSlot (boxOf st.hands a) k (st.hands.getD b none) := by
      show st.put _ _ _ = _
      unfold HS.put
      rw [if_neg (by rw [i.sg]; decide)]
    rw [e] at hw hp hl hr ⊢
    refine ⟨hw, hp, ?_, i.sg, i.en, i.rm, hl, hr, i.sn, i.lk, i.sw, i.od, i.bn⟩
    show st.there = List.range (st.rows.set _ _).length
    rw [List.length_set]
    exact i.th
  | share => exact ⟨hw, hp, i.th, i.sg, i.en, i.rm, hl, hr, i.sn, i.lk, i.sw, i.od, i.bn⟩
  | drop => exact ⟨hw, hp, i.th, i.sg, i.en, i.rm, hl, hr, i.sn, i.lk, i.sw, i.od, i.bn⟩
theorem goods_at {ds : List Deed} {j : Nat} {d : Deed} {hs : Hs} {rw : Rw} (e : ds[j]? = some d) (g : Deed.Goods (ds.drop j) hs rw) : d.ok hs rw ∧ Deed.Goods (ds.drop (j + 1)) (d.hs hs rw) (d.rw hs rw) := by
  have hj : j < ds.length := (List.getElem?_eq_some_iff.mp e).1
  have e2 := (List.getElem?_eq_some_iff.mp e).2
  rw [List.drop_eq_getElem_cons hj, e2] at g
  exact g
section
variable {K : PySem.W.Frag} {A : Ex} {E : XK} {vs : List V} {L : AL} {Q : V → AL → Prop} {Ea : Value → AL → Prop}
theorem deeds_p {d : Addr} {bs : List Addr} {ds : List Deed} : Has (DeedsA d bs ds :: L) d (.lst (bs.map V.ref)) := has_star has_hd
theorem deeds_i {d b : Addr} {bs : List Addr} {ds : List Deed} {j : Nat} {D : Deed} (h1 : bs[j]? = some b) (h2 : ds[j]? = some D) : Has (DeedsA d bs ds :: L) b (.lst D.vals) := has_star (has_tl (zc_has (f := fun d : Deed => .lst d.vals) h1 h2))
theorem do_init {p dx : Addr} {m : Nat} {R : AL} (h1 : 1 ≤ m) (h2 : m ≤ 8) (q : ∀ ad, Q .non (HeapIs A.Heap p ad (HS.new m 1000) :: R)) : ∃ L2, Ent (pt p (.ins A.Heap dx []) :: R) L2 ∧ P_init K A [.ref p, nV m, .int 1000] L2 Q Ea := by
  refine ⟨_, Ent.refl _, _, _, _, rfl, p, dx, R, (m : Int), 1000, rfl, rfl, rfl, rfl, fun _ ad => ?_, fun n => absurd ⟨⟨by omega, by omega⟩, by decide, by decide⟩ n⟩
  have := q ad
  rw [Int.toNat_natCast]
  exact this
theorem do_deeds {h p : Addr} {as : List Addr} {c : Nat} {hs : Hs} {rw : Rw} (hh : SqA K L h (hs.map oV)) (hr : RdRows K L p as rw) (h1 : 1 ≤ hs.length) (h8 : hs.length ≤ 8) (pw : PW hs rw)
    (q : ∀ (d : Addr) (bs : List Addr) (ds : List Deed), bs.length = ds.length → ds.length ≤ 2 → Deed.Goods ds hs rw → Q (.ref d) (DeedsA d bs ds :: L)) : ∃ L2, Ent L L2 ∧ P_law_deeds K A [nV c, .ref h, .ref p] L2 Q Ea := ⟨L, Ent.refl _, _, _, _, rfl, h, p, as, c, hs, rw, rfl, rfl, rfl, hh, hr, h1, h8, pw, q⟩
end
/-! The collector's pieces, walked. -/
def N_begin : List Str := ["heap", "box"]
def t_begin (K : PySem.W.Frag) (A : Ex) (E : XK) : TS :=
    (tSeq (sFld K (tVar 0) (tCB (rSortedI K) (tCons (tMeth A.Heap "boxes" (lift (P_boxes K A)) [] E0 (tVar 0) tNil) tNil)) "old")
    (tSeq (sFld K (tVar 0) (tFld K (tVar 0) "made") "begun")
    (tSeq (sFld K (tVar 0) (tC (.str "marking")) "stage")
    (tFor (iList K (tFld K (tVar 0) "hands")) (gName 1)
      (tDrop (tCall (lift (P_mark K A)) [] E0 (tCons (tVar 0) (tCons (tVar 1) tNil))))))))
def N_look_at : List Str := ["heap", "box", "inner"]
def t_look_at (K : PySem.W.Frag) (A : Ex) (E : XK) : TS :=
    (tSeq (tAsg (tOp (rIxL K) (tFld K (tVar 0) "row") (tFld K (tVar 0) "looked")) (gName 1))
    (tSeq (sFldAug K (tVar 0) (tC (.int 1)) L2.rAdd "looked")
    (tFor (iList K (tDGet (tFld K (tVar 0) "slots") (tVar 1))) (gName 2)
      (tDrop (tCall (lift (P_mark K A)) [] E0 (tCons (tVar 0) (tCons (tVar 2) tNil)))))))
def N_sweep : List Str := ["heap", "box"]
def t_sweep (K : PySem.W.Frag) (A : Ex) (E : XK) : TS :=
    (tSeq (tAsg (tOp (rIxL K) (tFld K (tVar 0) "old") (tFld K (tVar 0) "swept")) (gName 1))
    (tSeq (sFldAug K (tVar 0) (tC (.int 1)) L2.rAdd "swept")
    (tSeq (tIfS (tB (tDIn (tVar 1) (tFld K (tVar 0) "seen"))) (tRet (tC .non)) tNext)
    (tSeq (tDrop (tDPop1 (tFld K (tVar 0) "slots") (tVar 1)))
    (tRet (tVar 1))))))
def N_settle : List Str := ["heap"]
def t_settle (K : PySem.W.Frag) (A : Ex) (E : XK) : TS :=
    (tSeq (tIfS (tAnd (tTest (tOp rEq (tFld K (tVar 0) "stage") (tC (.str "marking")))) (tTest (tOp rEq (tFld K (tVar 0) "looked") (tCB (rLen K) (tCons (tFld K (tVar 0) "row") tNil))))) (sFld K (tVar 0) (tC (.str "sweeping")) "stage") tNext)
    (tIfS (tAnd (tTest (tOp rEq (tFld K (tVar 0) "stage") (tC (.str "sweeping")))) (tTest (tOp rEq (tFld K (tVar 0) "swept") (tCB (rLen K) (tCons (tFld K (tVar 0) "old") tNil))))) (tSeq (tDrop (tMeth A.Heap "rest" (lift (P_rest K A)) [] E0 (tVar 0) tNil))
    (sFldAug K (tVar 0) (tC (.int 1)) L2.rAdd "ended")) tNext))
def N_piece : List Str := ["heap", "freed"]
def t_piece (K : PySem.W.Frag) (A : Ex) (E : XK) : TS :=
    (tSeq (tAsg (tC .non) (gName 1))
    (tSeq (tIfS (tTest (tOp rEq (tFld K (tVar 0) "stage") (tC (.str "idle")))) (tDrop (tCall (lift (P_begin K A)) [] E0 (tCons (tVar 0) tNil))) (tIfS (tTest (tOp rEq (tFld K (tVar 0) "stage") (tC (.str "marking")))) (tDrop (tCall (lift (P_look_at K A)) [] E0 (tCons (tVar 0) tNil))) (tAsg (tCall (lift (P_sweep K A)) [] E0 (tCons (tVar 0) tNil)) (gName 1))))
    (tSeq (tDrop (tCall (lift (P_settle K A)) [] E0 (tCons (tVar 0) tNil)))
    (tRet (tVar 1)))))
def N_work : List Str := ["self", "pieces", "found", "k", "freed"]
def t_work (K : PySem.W.Frag) (A : Ex) (E : XK) : TS :=
    (tSeq (tIfS (tNot (tTest (tChain rLeI rLeI (tC (.int 0)) (tVar 1) (tC (.int 2500))))) (tRaiseC A.NoWork E) tNext)
    (tSeq (tAsg (tLst tNil) (gName 2))
    (tSeq (tFor (iRng1 (tCons (tVar 1) tNil)) (gName 3)
      (tSeq (tAsg (tCall (lift (P_piece K A)) [] E0 (tCons (tVar 0) tNil)) (gName 4))
    (tIfS (tTest (tOp rNotNo (tVar 4) (tC .non))) (tDrop (tBM K "list" rAppend (tVar 2) (tCons (tVar 4) tNil))) tNext)))
    (tRet (tVar 2)))))
section
variable {K : PySem.W.Frag} {A : Ex} {E : XK} {vs : List V} {L : AL} {Q : V → AL → Prop} {Ea : Value → AL → Prop}
theorem HS.markAll_hands (os : List (Option Nat)) (st : HS) : (st.markAll os).hands = st.hands := by
  unfold HS.markAll
  induction os generalizing st with
  | nil => rfl
  | cons o os ih => rw [List.foldl_cons, ih, HS.mark_hands]
theorem HS.markAll_rows (os : List (Option Nat)) (st : HS) : (st.markAll os).rows = st.rows := by
  unfold HS.markAll
  induction os generalizing st with
  | nil => rfl
  | cons o os ih => rw [List.foldl_cons, ih, HS.mark_rows]
theorem HS.markAll_there (os : List (Option Nat)) (st : HS) : (st.markAll os).there = st.there := by
  unfold HS.markAll
  induction os generalizing st with
  | nil => rfl
  | cons o os ih => rw [List.foldl_cons, ih, HS.mark_there]
theorem HW.markAll {st : HS} (w : HW st) (os : List (Option Nat)) : HW (st.markAll os) := by
  unfold HS.markAll
  induction os generalizing st with
  | nil => exact w
  | cons o os ih => exact ih (w.mark o)
theorem HS.markAll_snoc {os : List (Option Nat)} {st : HS} {i : Nat} {o : Option Nat} (h : os[i]? = some o) : st.markAll (os.take (i + 1)) = (st.markAll (os.take i)).mark o := by
  unfold HS.markAll
  rw [take_snoc h, List.foldl_append]
  rfl
theorem heap_wr_open {C p : Addr} {ad : HAd} {st : HS} {R : AL} {fv : List V} : Wr (HeapIs C p ad st :: R) p (.ins C ad.dx (hF fv)) (pt p (.ins C ad.dx (hF fv)) :: pt ad.h (.lst (st.hands.map oV)) :: pt ad.d (.dK (kvS st.there ad.rs)) :: pt ad.o (.lst (st.old.map nV)) :: pt ad.s (.dK (kvT st.seen)) :: pt ad.r (.lst (st.seen.map nV)) :: (zc fL ad.rs (st.there.map st.rowAt) ++ R)) :=
  Wr.ent (L' := pt p (.ins C ad.dx (hF (hVals ad st))) :: pt ad.h (.lst (st.hands.map oV)) :: pt ad.d (.dK (kvS st.there ad.rs)) :: pt ad.o (.lst (st.old.map nV)) :: pt ad.s (.dK (kvT st.seen)) :: pt ad.r (.lst (st.seen.map nV)) :: (zc fL ad.rs (st.there.map st.rowAt) ++ R)) wr_hd (ent_unstar.trans Ent.drop)
theorem p_begin (T : HT K A) (he : ELe Ea E) (h : P_begin K A vs L Q Ea) : SS (t_begin K A E) { nx := fun _ L => Q .non L, rt := Q } (start N_begin vs) L := by
  obtain ⟨_, rfl, p, ad, st, R, rfl, rfl, w, q⟩ := h
  unfold t_begin
  refine s_use (fun H s => heap_len s) fun hl => ?_
  tm_at "go"
  refine do_boxes (Ent.refl _) w fun d => ?_
  tm_at "go"
  refine c_sortedN (Has.sq has_hd) (List.Perm.refl _) (w.nd.imp fun h => Nat.le_of_lt h) fun d2 => ?_
  tm_at "go"
  refine u_old T (has_tl (has_tl heap_ins)) (by with_unfolding_all exact Nat.le_of_ble_eq_true rfl) (wr_tl (wr_tl heap_wr_open)) ?_
  tm_at "go"
  have ent : Ent (pt d2 (.lst (st.there.map nV)) :: pt d (.lst (st.there.map nV)) :: pt p (.ins A.Heap ad.dx (hF (hVals { ad with o := d2 } { st with old := st.there, begun := st.rows.length, stage := .marking }))) :: pt ad.h (.lst (st.hands.map oV)) :: pt ad.d (.dK (kvS st.there ad.rs)) :: pt ad.o (.lst (st.old.map nV)) :: pt ad.s (.dK (kvT st.seen)) :: pt ad.r (.lst (st.seen.map nV)) :: (zc fL ad.rs (st.there.map st.rowAt) ++ R)) (HeapIs A.Heap p { ad with o := d2 } { st with old := st.there, begun := st.rows.length, stage := .marking } :: R) := by
    refine Ent.trans ?_ (ent_close (ad := { ad with o := d2 }) (st := { st with old := st.there, begun := st.rows.length, stage := .marking }) hl)
    refine (Ent.cons Ent.drop).trans ?_
    refine (ent_put 3 (by simp)).trans ?_
    exact Ent.cons (Ent.cons (Ent.cons (Ent.cons Ent.drop)))
  refine s_ent ent ?_
  have hw2 : HW { st with old := st.there, begun := st.rows.length, stage := .marking } := ⟨w.nd, w.lt, w.hands, w.big, w.rl, w.sn, fun b hb => Nat.lt_of_lt_of_le (w.sl b hb) w.bg, Nat.le_refl _⟩
  have q' := q { ad with o := d2 }
  unfold HS.begin_ at q'
  rw [show st.hands = ({ st with old := st.there, begun := st.rows.length, stage := .marking } : HS).hands from rfl] at q'
  generalize ({ st with old := st.there, begun := st.rows.length, stage := .marking } : HS) = s2 at hw2 q' ⊢
  generalize ({ ad with o := d2 } : HAd) = ad2 at q' ⊢
  refine s_forL ?_
  tm_at "go"
  refine ⟨ad2.h, s2.hands.map oV, rfl, Has.sq heap_h, fun i σ L' => (∃ v, σ = [some (.ref p), v]) ∧ L' = HeapIs A.Heap p ad2 (s2.markAll (s2.hands.take i)) :: R, ⟨⟨_, rfl⟩, rfl⟩, ?_, ?_, ?_⟩
  · rintro i σ L' hi ⟨_, rfl⟩
    have := @heap_h A.Heap p ad2 (s2.markAll (s2.hands.take i)) R
    rw [HS.markAll_hands] at this
    exact this.sq
  · rintro i x σ L' hx ⟨⟨v, rfl⟩, rfl⟩
    obtain ⟨o, ho, rfl⟩ := map_get hx
    tm_at "go"
    refine do_mark (Ent.refl _) (hw2.markAll _) ?_
    exact ⟨⟨_, rfl⟩, by rw [HS.markAll_snoc ho]⟩
  · rintro σ L' ⟨⟨v, rfl⟩, rfl⟩
    rw [List.length_map, List.take_length]
    exact q'
theorem p_look_at (T : HT K A) (he : ELe Ea E) (h : P_look_at K A vs L Q Ea) : SS (t_look_at K A E) { nx := fun _ L => Q .non L, rt := Q } (start N_look_at vs) L := by
  obtain ⟨_, rfl, p, ad, st, R, b, rfl, rfl, w, hs, hb, q⟩ := h
  unfold t_look_at
  refine s_use (fun H s => heap_len s) fun hl => ?_
  obtain ⟨j, hj, ej⟩ := List.getElem_of_mem hb
  have ej' : st.there[j]? = some b := by rw [List.getElem?_eq_getElem hj, ej]
  obtain ⟨a, ha⟩ : ∃ a, ad.rs[j]? = some a := ⟨_, List.getElem?_eq_getElem (by omega)⟩
  have hv := kvS_get w.nodup ej' ha
  have ebd : st.seen.getD st.looked 0 = b := by rw [List.getD_eq_getElem?_getD, hs]; rfl
  unfold HS.lookAt at q
  rw [ebd] at q
  tm_at "go"
  refine r_ixL (Has.sq heap_r) (atI_nat (map_at nV hs)) ?_
  tm_at "go"
  refine ⟨p, A.Heap, ad.dx, _, _, rfl, heap_ins, T.cl, T.n_looked, zip_lookup (i := 10) hN_nd rfl rfl, ?_⟩
  tm_at "go"
  refine ⟨_, ad.dx, _, _, rfl, heap_ins, hF_len _, (by unfold hF; rw [zip_putF (i := 10) hN_nd rfl (by with_unfolding_all exact Nat.le_of_ble_eq_true rfl)]; exact heap_wr_open), ?_⟩
  tm_at "go"
  refine s_ent (ent_close (ad := ad) (st := { st with looked := st.looked + 1 }) hl) ?_
  have hw2 : HW { st with looked := st.looked + 1 } := ⟨w.nd, w.lt, w.hands, w.big, w.rl, w.sn, w.sl, w.bg⟩
  rw [show st.rowAt b = ({ st with looked := st.looked + 1 } : HS).rowAt b from rfl] at q
  rw [show st.there = ({ st with looked := st.looked + 1 } : HS).there from rfl] at ej' hv
  generalize ({ st with looked := st.looked + 1 } : HS) = s2 at hw2 q ej' hv ⊢
  refine s_forL ?_
  tm_at "go"
  refine ⟨a, (s2.rowAt b).map oV, rfl, Has.sq (heap_row ha ej'), fun i σ L' => (∃ v2, σ = [some (.ref p), some (nV b), v2]) ∧ L' = HeapIs A.Heap p ad (s2.markAll ((s2.rowAt b).take i)) :: R, ⟨⟨_, rfl⟩, rfl⟩, ?_, ?_, ?_⟩
  · rintro i σ L' hi ⟨_, rfl⟩
    have := @heap_row A.Heap p ad (s2.markAll ((s2.rowAt b).take i)) R j b a ha (by rw [HS.markAll_there]; exact ej')
    unfold HS.rowAt at this
    rw [HS.markAll_rows] at this
    exact this.sq
  · rintro i x σ L' hx ⟨⟨v, rfl⟩, rfl⟩
    obtain ⟨o, ho, rfl⟩ := map_get hx
    tm_at "go"
    refine do_mark (Ent.refl _) (hw2.markAll _) ?_
    exact ⟨⟨_, rfl⟩, by rw [HS.markAll_snoc ho]⟩
  · rintro σ L' ⟨⟨v, rfl⟩, rfl⟩
    rw [List.length_map, List.take_length]
    exact q
theorem e_dpop1 {σ : L2.St} {td ty : TE} (h : SE td σ L fun x L1 => ∃ a kvs0, x = .ref a ∧ Has L1 a (.dK kvs0) ∧ SE ty σ L1 fun y L2 => ∃ n kvs v M, y = .int n ∧ Has L2 a (.dK kvs) ∧ valV kvs (Sum.inl n) = some v ∧ Wr L2 a (.dK (dropK kvs (Sum.inl n))) M ∧ Q v M) : SE (tDPop1 td ty) σ L Q := fun H s Qh k =>
  h H s _ fun x L1 H1 s1 ⟨a, kvs0, e, hh, h1⟩ => ⟨a, e, .inl ⟨kvs0, .inl (hh H1 s1)⟩, h1 H1 s1 _ fun y L2 H2 s2 ⟨n, kvs, v, M, e2, h2, hv, w, q⟩ => ⟨kvs, Sum.inl n, v, h2 H2 s2, e2, hv, k _ _ _ (w H2 s2).2 q⟩⟩
theorem map_erase {α β : Type} (f : α → β) : ∀ (xs : List α) (j : Nat), (xs.eraseIdx j).map f = (xs.map f).eraseIdx j
  | [], _ => rfl
  | _ :: _, 0 => rfl
  | x :: xs, j + 1 => by
    show f x :: (xs.eraseIdx j).map f = f x :: (xs.map f).eraseIdx j
    rw [map_erase f xs j]
theorem filter_erase : ∀ {xs : List Nat} {j b : Nat}, xs.Nodup → xs[j]? = some b → (xs.filter fun x => decide (x ≠ b)) = xs.eraseIdx j
  | [], _, _, _, h => by simp at h
  | x :: xs, 0, b, nd, h => by
    have e : x = b := Option.some.inj h
    subst e
    rw [List.filter_cons_of_neg (by simp)]
    exact List.filter_eq_self.mpr fun y hy => decide_eq_true fun z => (List.nodup_cons.mp nd).1 (z ▸ hy)
  | x :: xs, j + 1, b, nd, h => by
    have hm : b ∈ xs := List.mem_of_getElem? (show xs[j]? = some b from h)
    have hne : x ≠ b := fun z => (List.nodup_cons.mp nd).1 (z ▸ hm)
    rw [List.filter_cons_of_pos (by simpa using hne), filter_erase (List.nodup_cons.mp nd).2 h]
    rfl
theorem p_sweep (T : HT K A) (he : ELe Ea E) (h : P_sweep K A vs L Q Ea) : SS (t_sweep K A E) { nx := fun _ L => Q .non L, rt := Q } (start N_sweep vs) L := by
  obtain ⟨_, rfl, p, ad, st, R, b, rfl, rfl, w, hs, hb, q⟩ := h
  unfold t_sweep
  refine s_use (fun H s => heap_len s) fun hl => ?_
  have ebd : st.old.getD st.swept 0 = b := by rw [List.getD_eq_getElem?_getD, hs]; rfl
  unfold HS.sweep at q
  rw [ebd] at q
  refine s_postB ?_
  tm_at "go"
  refine r_ixL (Has.sq heap_o) (atI_nat (map_at nV hs)) ?_
  tm_at "go"
  refine ⟨p, A.Heap, ad.dx, _, _, rfl, heap_ins, T.cl, T.n_swept, zip_lookup (i := 11) hN_nd rfl rfl, ?_⟩
  tm_at "go"
  refine ⟨_, ad.dx, _, _, rfl, heap_ins, hF_len _, (by unfold hF; rw [zip_putF (i := 11) hN_nd rfl (by with_unfolding_all exact Nat.le_of_ble_eq_true rfl)]; exact heap_wr_open), ?_⟩
  tm_at "go"
  refine ex_c (fun c => ?_) fun c => ?_
  · rw [if_pos c] at q
    tm_at "go"
    exact ⟨_, ent_close (ad := ad) (st := { st with swept := st.swept + 1 }) hl, q ad⟩
  · rw [if_neg c] at q
    obtain ⟨j, hj, ej⟩ := List.getElem_of_mem (hb c)
    have ej' : st.there[j]? = some b := by rw [List.getElem?_eq_getElem hj, ej]
    obtain ⟨a, ha⟩ : ∃ a, ad.rs[j]? = some a := ⟨_, List.getElem?_eq_getElem (by omega)⟩
    have hv := kvS_get w.nodup ej' ha
    tm_at "go"
    refine e_dpop1 ?_
    tm_at "go"
    refine ⟨_, _, rfl, by tm_at "hs", ?_⟩
    tm_at "go"
    refine ⟨_, _, _, _, rfl, by tm_at "hs", hv, by tm_at "wr", ?_⟩
    rw [kvS_drop w.nodup hl ej']
    tm_at "go"
    refine ⟨_, ?_, q { ad with rs := ad.rs.eraseIdx j }⟩
    have hl2 : (ad.rs.eraseIdx j).length = (st.there.eraseIdx j).length := by
      rw [List.length_eraseIdx, List.length_eraseIdx, hl]
    have ef := filter_erase w.nodup ej'
    refine Ent.trans ?_ (ent_close (ad := { ad with rs := ad.rs.eraseIdx j }) (st := ({ st with swept := st.swept + 1 } : HS).free b) (by show _ = (st.there.filter _).length; rw [ef]; exact hl2))
    have e1 : (({ st with swept := st.swept + 1 } : HS).free b).there = st.there.eraseIdx j := ef
    rw [e1, map_erase]
    exact Ent.cons (Ent.cons (Ent.cons (Ent.cons (Ent.cons (Ent.cons zc_erase)))))
theorem do_rest {p : Addr} {ad : HAd} {st : HS} {R : AL} (hl : ad.rs.length = st.there.length) (q : ∀ ad' : HAd, ad'.rs = ad.rs → Q .non (HeapIs A.Heap p ad' st.rest :: R)) : ∃ L2, Ent (HeapIs A.Heap p ad st :: R) L2 ∧ P_rest K A [.ref p] L2 (fun v L1 => ∃ L2, Ent L1 L2 ∧ Q v L2) Ea := by
  refine ⟨_, ent_unstar.trans Ent.drop, _, rfl, p, ad.dx, .ref ad.h, nV st.room, .ref ad.d, nV st.rows.length, nV st.ended, [.str st.stage.str, .ref ad.o, nV st.begun, .ref ad.s, .ref ad.r, nV st.looked, nV st.swept], _, rfl, rfl, .inr rfl, fun o s r => ?_⟩
  refine ⟨_, ?_, q { ad with o := o, s := s, r := r } rfl⟩
  refine Ent.trans ?_ (ent_close (ad := { ad with o := o, s := s, r := r }) (st := st.rest) hl)
  -- p r s o h d (o) (s) (r) ..
  refine Ent.cons ?_
  refine (ent_pick 3 rfl).trans (Ent.cons ?_)
  refine (ent_pick 3 rfl).trans (Ent.cons ?_)
  refine (ent_pick 2 rfl).trans (Ent.cons ?_)
  refine ent_swap.trans (Ent.cons (Ent.cons ?_))
  exact Ent.drop.trans (Ent.drop.trans Ent.drop)
theorem p_settle (T : HT K A) (he : ELe Ea E) (h : P_settle K A vs L Q Ea) : SS (t_settle K A E) { nx := fun _ L => Q .non L, rt := Q } (start N_settle vs) L := by
  obtain ⟨_, rfl, p, ad, st, R, rfl, rfl, q⟩ := h
  unfold t_settle
  refine s_use (fun H s => heap_len s) fun hl => ?_
  unfold HS.settle at q
  refine s_seq ?_
  refine s_mid (Mid := fun σ L' => σ = [some (.ref p)] ∧ L' = HeapIs A.Heap p ad st.settle1 :: R) ?_ ?_
  · tm_at "go"
    refine ex_c (fun c => ?_) fun c => ?_
    · have c' : st.stage = .marking := stg_inj c
      tm_at "go"
      refine ex_c (fun c2 => ?_) fun c2 => ?_
      · have c2' : st.looked = st.seen.length := by
          have := V.int.inj c2
          rw [List.length_map] at this
          omega
        have e : st.settle1 = { st with stage := .sweeping } := by unfold HS.settle1; rw [if_pos ⟨c', c2'⟩]
        rw [e]
        tm_at "go"
        refine u_stage T heap_ins (by with_unfolding_all exact Nat.le_of_ble_eq_true rfl) heap_wr_open ?_
        exact ⟨_, ent_close (ad := ad) (st := { st with stage := .sweeping }) hl, rfl, rfl⟩
      · have e : st.settle1 = st := by
          unfold HS.settle1
          rw [if_neg fun z => c2 (by rw [z.2, List.length_map])]
        rw [e]
        exact s_next ⟨_, Ent.refl _, rfl, rfl⟩
    · have e : st.settle1 = st := by
        unfold HS.settle1
        rw [if_neg fun z => c (by rw [z.1]; rfl)]
      rw [e]
      exact both_f (s_next ⟨_, Ent.refl _, rfl, rfl⟩)
  · rintro σ L' ⟨rfl, rfl⟩
    have hl2 : ad.rs.length = st.settle1.there.length := by
      unfold HS.settle1
      split <;> exact hl
    generalize st.settle1 = s2 at q hl2 ⊢
    refine s_post ?_
    tm_at "go"
    refine ex_c (fun c => ?_) fun c => ?_
    · have c' : s2.stage = .sweeping := stg_inj c
      tm_at "go"
      refine ex_c (fun c2 => ?_) fun c2 => ?_
      · have c2' : s2.swept = s2.old.length := by
          have := V.int.inj c2
          rw [List.length_map] at this
          omega
        have e : s2.settle2 = { s2.rest with ended := s2.ended + 1 } := by unfold HS.settle2; rw [if_pos ⟨c', c2'⟩]
        rw [e] at q
        refine s_seq (s_drop (e_post ?_))
        tm_at "go"
        refine do_rest hl2 fun ad' had => ?_
        tm_at "go"
        refine ⟨p, A.Heap, ad'.dx, _, _, rfl, heap_ins, T.cl, T.n_ended, zip_lookup (i := 4) hN_nd rfl rfl, ?_⟩
        tm_at "go"
        refine ⟨_, ad'.dx, _, _, rfl, heap_ins, hF_len _, (by unfold hF; rw [zip_putF (i := 4) hN_nd rfl (by with_unfolding_all exact Nat.le_of_ble_eq_true rfl)]; exact heap_wr_open), ?_⟩
        exact ⟨_, ent_close (ad := ad') (st := { s2.rest with ended := s2.ended + 1 }) (by rw [had]; exact hl2), q ad'⟩
      · have e : s2.settle2 = s2 := by
          unfold HS.settle2
          rw [if_neg fun z => c2 (by rw [z.2, List.length_map])]
        rw [e] at q
        exact s_next ⟨_, Ent.refl _, q ad⟩
    · have e : s2.settle2 = s2 := by
        unfold HS.settle2
        rw [if_neg fun z => c (by rw [z.1]; rfl)]
      rw [e] at q
      exact both_f (s_next ⟨_, Ent.refl _, q ad⟩)
end
/-! A piece, and many. -/
section
variable {K : PySem.W.Frag} {A : Ex} {E : XK} {vs : List V} {L : AL} {Q : V → AL → Prop} {Ea : Value → AL → Prop}
theorem p_piece (T : HT K A) (he : ELe Ea E) (h : P_piece K A vs L Q Ea) : SS (t_piece K A E) { nx := fun _ L => Q .non L, rt := Q } (start N_piece vs) L := by
  obtain ⟨_, rfl, p, ad, st, R, rfl, rfl, w, pc, q⟩ := h
  unfold t_piece
  unfold HS.piece at q
  tm_at "go"
  refine ex_c (fun c => ?_) fun c => ?_
  · have c' : st.stage = .idle := stg_inj c
    rw [c'] at q
    tm_at "go"
    refine do_begin (Ent.refl _) w fun ad2 => ?_
    tm_at "go"
    refine do_settle (Ent.refl _) fun ad3 => ?_
    tm_at "go"
    exact q ad3
  · tm_at "go"
    refine ex_c (fun c2 => ?_) fun c2 => ?_
    · have c' : st.stage = .marking := stg_inj c2
      obtain ⟨b, h1, h2⟩ := pc.mrk c'
      rw [c'] at q
      tm_at "go"
      refine do_look_at (Ent.refl _) w h1 h2 ?_
      tm_at "go"
      refine do_settle (Ent.refl _) fun ad3 => ?_
      tm_at "go"
      exact q ad3
    · have c' : st.stage = .sweeping := by
        cases e : st.stage with
        | idle => exact absurd (by rw [e]; rfl) c
        | marking => exact absurd (by rw [e]; rfl) c2
        | sweeping => rfl
      obtain ⟨b, h1, h2⟩ := pc.sw c'
      rw [c'] at q
      tm_at "go"
      refine do_sweep (Ent.refl _) w h1 h2 fun ad2 => ?_
      tm_at "go"
      refine do_settle (Ent.refl _) fun ad3 => ?_
      tm_at "go"
      exact q ad3
theorem work_len (n : Nat) (st : HS) : (HS.work n st).2.length ≤ n := by
  induction n with
  | zero => exact Nat.le_refl _
  | succ n ih =>
    show ((HS.work n st).2 ++ (HS.work n st).1.piece.2.toList).length ≤ n + 1
    rw [List.length_append]
    have : (HS.work n st).1.piece.2.toList.length ≤ 1 := by cases (HS.work n st).1.piece.2 <;> simp
    omega
theorem p_work (T : HT K A) (he : ELe Ea E) (h : P_work K A vs L Q Ea) : SS (t_work K A E) { nx := fun _ L => Q .non L, rt := Q } (start N_work vs) L := by
  obtain ⟨_, _, rfl, p, ad, st, R, n, rfl, rfl, rfl, q1, q2⟩ := h
  unfold t_work
  tm_at "go"
  refine ex_not (fun c => s_raise he (q1 c)) fun c => ?_
  obtain ⟨hw, q⟩ := q2 c
  have hn : n = ((n.toNat : Nat) : Int) := by omega
  generalize n.toNat = m at hn q
  subst hn
  tm_at "go"
  refine ⟨by show 0 ≤ sizeLine; decide, fun d => ?_⟩
  tm_at "go"
  refine s_forR1 ?_
  tm_at "go"
  refine ⟨(m : Int), rfl, by omega, by omega, fun i σ L' => ∃ (ad : HAd) (v3 v4 : Option V), σ = [some (.ref p), some (nV m), some (.ref d), v3, v4] ∧ L' = pt d (.lst ((HS.work i st).2.map nV)) :: HeapIs A.Heap p ad (HS.work i st).1 :: R, ⟨ad, _, _, rfl, rfl⟩, ?_, ?_⟩
  · rintro i σ L' hi ⟨ad, v3, v4, rfl, rfl⟩
    obtain ⟨w, pw⟩ := hw i hi
    have hlen := work_len i st
    refine s_post ?_
    tm_at "go"
    refine do_piece (R := pt d (.lst ((HS.work i st).2.map nV)) :: R) ent_swap w pw fun ad2 => ?_
    have e2 : (HS.work (i + 1) st).2 = (HS.work i st).2 ++ (HS.work i st).1.piece.2.toList := rfl
    cases ep : (HS.work i st).1.piece.2 with
    | none =>
      rw [ep] at e2
      tm_at "go"
      refine ⟨false, rfl, both_f (s_next ?_)⟩
      refine ⟨_, ent_swap, ad2, _, _, rfl, ?_⟩
      show _ = pt d (.lst ((HS.work (i + 1) st).2.map nV)) :: _
      rw [e2, show Option.toList (none : Option Nat) = [] from rfl, List.append_nil]
      rfl
    | some b =>
      rw [ep] at e2
      tm_at "go"
      refine ⟨true, rfl, both_t ?_⟩
      tm_at "go"
      refine r_append (by tm_at "hs") (small5 (by rw [List.length_map]; omega)) (by tm_at "wr") ?_
      refine ⟨_, ent_swap, ad2, _, _, rfl, ?_⟩
      show _ = pt d (.lst ((HS.work (i + 1) st).2.map nV)) :: _
      rw [e2, show Option.toList (some b) = [b] from rfl, List.map_append]
      rfl
  · rintro σ L' ⟨ad, v3, v4, rfl, rfl⟩
    tm_at "go"
    exact q d ad
end
/-! list.remove over numbers. -/
section
variable {L M : AL} {Q : V → AL → Prop}
theorem r_rem {l : Addr} {xs : List Nat} {b : Nat} (nd : xs.Nodup) (hb : b ∈ xs) (h : Has L l (.lst (xs.map nV))) (w : Wr L l (.lst ((xs.filter fun x => decide (x ≠ b)).map nV)) M) (q : Q .non M) : RE (rRemI (.ref l) [nV b]) L Q := fun H s Qh k => by
  obtain ⟨j, hj, ej⟩ := List.getElem_of_mem hb
  have ej' : xs[j]? = some b := by rw [List.getElem?_eq_getElem hj, ej]
  refine ⟨l, xs.map fun (n : Nat) => (n : Int), (b : Int), j, rfl, rfl, ?_, ?_, fun m hm e => ?_, ?_⟩
  · rw [← map_nV_int]; exact h H s
  · rw [List.getElem?_map, ej']; rfl
  · rw [List.getElem?_map] at e
    cases e2 : xs[m]? with
    | none => rw [e2] at e; cases e
    | some c =>
      rw [e2] at e
      have e3 : (c : Int) = (b : Int) := Option.some.inj e
      have e4 : c = b := by omega
      subst e4
      have hml : m < xs.length := (List.getElem?_eq_some_iff.mp e2).1
      have := (List.getElem_inj (h₀ := hml) (h₁ := hj) nd).mp ((List.getElem?_eq_some_iff.mp e2).2.trans ej.symm)
      omega
  · have e : (xs.map fun (n : Nat) => (n : Int)).eraseIdx j = (xs.filter fun x => decide (x ≠ b)).map fun (n : Nat) => (n : Int) := by rw [filter_erase nd ej', map_erase]
    rw [e, ← map_nV_int]
    exact k _ _ _ (w H s).2 q
end
/-! Going through the boxes, first come first. -/
def mk (s : List Nat) : Option Nat → List Nat
  | none => s
  | some b => if b ∈ s then s else s ++ [b]
def mks (s : List Nat) (os : List (Option Nat)) : List Nat := os.foldl mk s
def lev (rw : Rw) (s0 : List Nat) : Nat → List Nat
  | 0 => s0
  | n + 1 => mks (lev rw s0 n) (rowOf rw ((lev rw s0 n).getD n 0))
theorem mks_snoc {s : List Nat} {os : List (Option Nat)} {i : Nat} {o : Option Nat} (h : os[i]? = some o) : mks s (os.take (i + 1)) = mk (mks s (os.take i)) o := by
  unfold mks
  rw [take_snoc h, List.foldl_append]
  rfl
theorem mk_pre (s : List Nat) (o : Option Nat) : s <+: mk s o := by
  cases o with
  | none => exact List.prefix_refl _
  | some b =>
    unfold mk
    simp only
    split
    · exact List.prefix_refl _
    · exact List.prefix_append _ _
theorem mks_pre (s : List Nat) (os : List (Option Nat)) : s <+: mks s os := by
  unfold mks
  induction os generalizing s with
  | nil => exact List.prefix_refl _
  | cons o os ih => exact (mk_pre s o).trans (ih _)
theorem lev_pre (rw : Rw) (s0 : List Nat) (n k : Nat) : lev rw s0 n <+: lev rw s0 (n + k) := by
  induction k with
  | zero => exact List.prefix_refl _
  | succ k ih => exact ih.trans (mks_pre _ _)
theorem mk_nd {s : List Nat} (h : s.Nodup) (o : Option Nat) : (mk s o).Nodup := by
  cases o with
  | none => exact h
  | some b =>
    unfold mk
    simp only
    split
    · exact h
    · exact nd_app h ‹_›
theorem mks_nd {s : List Nat} (h : s.Nodup) (os : List (Option Nat)) : (mks s os).Nodup := by
  unfold mks
  induction os generalizing s with
  | nil => exact h
  | cons o os ih => exact ih (mk_nd h o)
theorem mk_lt {s : List Nat} {m : Nat} (h : ∀ b ∈ s, b < m) {o : Option Nat} (ho : ∀ b, o = some b → b < m) : ∀ b ∈ mk s o, b < m := by
  cases o with
  | none => exact h
  | some c =>
    unfold mk
    simp only
    split
    · exact h
    · intro b hb
      rcases List.mem_append.mp hb with x | x
      · exact h b x
      · rw [List.mem_singleton.mp x]; exact ho c rfl
theorem mks_lt {m : Nat} : ∀ {os : List (Option Nat)} {s : List Nat}, (∀ b ∈ s, b < m) → (∀ b, some b ∈ os → b < m) → ∀ b ∈ mks s os, b < m
  | [], s, h, _ => h
  | o :: os, s, h, ho => by
    show ∀ b ∈ mks (mk s o) os, b < m
    exact mks_lt (mk_lt h fun b e => ho b (e ▸ List.mem_cons_self)) fun b hb => ho b (List.mem_cons_of_mem _ hb)
theorem rowOf_lt {hs : Hs} {rw : Rw} (w : PW hs rw) (c : Nat) : ∀ b, some b ∈ rowOf rw c → b < rw.length := fun b hb => by
  by_cases h : c < rw.length
  · exact w.r _ (getD_mem h) b hb
  · unfold rowOf at hb
    rw [List.getD_eq_getElem?_getD, List.getElem?_eq_none (by omega)] at hb
    cases hb
theorem rowOf_len {hs : Hs} {rw : Rw} (w : PW hs rw) (c : Nat) : (rowOf rw c).length ≤ 4 := by
  by_cases h : c < rw.length
  · exact w.l _ (getD_mem h)
  · unfold rowOf
    rw [List.getD_eq_getElem?_getD, List.getElem?_eq_none (by omega)]
    exact Nat.zero_le _
theorem lev_nd (rw : Rw) {s0 : List Nat} (h : s0.Nodup) (n : Nat) : (lev rw s0 n).Nodup := by
  induction n with
  | zero => exact h
  | succ n ih => exact mks_nd ih _
theorem lev_lt {hs : Hs} {rw : Rw} (w : PW hs rw) {s0 : List Nat} (h : ∀ b ∈ s0, b < rw.length) (n : Nat) : ∀ b ∈ lev rw s0 n, b < rw.length := by
  induction n with
  | zero => exact h
  | succ n ih => exact mks_lt ih (rowOf_lt w _)
/-- what is come to from these hands, behind n looks -/
abbrev cm (hs : Hs) (rw : Rw) (n : Nat) : List Nat := lev rw (mks [] hs) n
theorem cm_nd (hs : Hs) (rw : Rw) (n : Nat) : (cm hs rw n).Nodup := lev_nd rw (mks_nd List.nodup_nil _) n
theorem cm_lt {hs : Hs} {rw : Rw} (w : PW hs rw) (n : Nat) : ∀ b ∈ cm hs rw n, b < rw.length := lev_lt w (mks_lt (fun _ h => absurd h List.not_mem_nil) w.h) n
theorem cm_len {hs : Hs} {rw : Rw} (w : PW hs rw) (n : Nat) : (cm hs rw n).length ≤ rw.length := nodup_bound _ (cm_nd hs rw n) (cm_lt w n)
/-- the row of marks -/
def flags (n : Nat) (s : List Nat) : List V := (List.range n).map fun i => V.bl (decide (i ∈ s))
theorem flags_at {n : Nat} {s : List Nat} {b : Nat} (h : b < n) : (flags n s)[b]? = some (.bl (decide (b ∈ s))) := by
  unfold flags
  rw [List.getElem?_map, List.getElem?_range h]; rfl
theorem flags_set {n : Nat} {s : List Nat} {b : Nat} (h : b < n) : (flags n s).set b (.bl true) = flags n (s ++ [b]) := by
  refine List.ext_getElem? fun i => ?_
  unfold flags
  rw [List.getElem?_set, List.length_map, List.length_range, List.getElem?_map, List.getElem?_map]
  by_cases c : b = i
  · subst c
    rw [if_pos rfl, if_pos h, List.getElem?_range h]
    simp
  · rw [if_neg c]
    cases e : (List.range n)[i]? with
    | none => rfl
    | some x =>
      have hx : x = i := by
        have hi : i < n := by
          have := (List.getElem?_eq_some_iff.mp e).1
          rwa [List.length_range] at this
        rw [List.getElem?_range hi] at e
        exact (Option.some.inj e).symm
      subst hx
      have : (x ∈ s ++ [b]) = (x ∈ s) := by
        simp [show x ≠ b from fun z => c z.symm]
      simp only [Option.map_some, this]
theorem flags_len (n : Nat) (s : List Nat) : (flags n s).length = n := by unfold flags; rw [List.length_map, List.length_range]
def P_law_came (K : PySem.W.Frag) (_ : Ex) : Pm := pm2 fun x y L Q _ => ∃ (h p : Addr) (as : List Addr) (hs : Hs) (rw : Rw), x = .ref h ∧ y = .ref p ∧ SqA K L h (hs.map oV) ∧ RdRows K L p as rw ∧ rw.length ≤ 90000 ∧ PW hs rw ∧
  ∀ (d : Addr) (N : Nat), (∀ n, n < N → n < (cm hs rw n).length) → N = (cm hs rw N).length → Q (.ref d) (pt d (.lst ((cm hs rw N).map nV)) :: L)
def N_law_came : List Str := ["_law_hands", "_law_rows", "_law_came_here", "_law_met", "_law_box", "_law_at", "_law_row"]
def t_law_came (K : PySem.W.Frag) (A : Ex) (E : XK) : TS :=
    (tSeq (tAsg (tLst tNil) (gName 2))
    (tSeq (tAsg (tLc (iList K (tVar 1)) (gName 6) tYes (tC (.bl false)) [6]) (gName 3))
    (tSeq (tFor (iList K (tVar 0)) (gName 4)
      (tIfS (tAnd (tTest (tOp rNotNo (tVar 4) (tC .non))) (tNot (tB (tOp (rIxL K) (tVar 3) (tVar 4))))) (tSeq (tAsg (tC (.bl true)) (gSub (tVar 3) (tVar 4) rSetL))
    (tDrop (tBM K "list" rAppend (tVar 2) (tCons (tVar 4) tNil)))) tNext))
    (tSeq (tAsg (tC (.int 0)) (gName 5))
    (tSeq (tWhile (tTest (tOp rLtI (tVar 5) (tCB (rLen K) (tCons (tVar 2) tNil))))
      (tSeq (tFor (iList K (tOp (rIxL K) (tVar 1) (tOp (rIxL K) (tVar 2) (tVar 5)))) (gName 4)
      (tIfS (tAnd (tTest (tOp rNotNo (tVar 4) (tC .non))) (tNot (tB (tOp (rIxL K) (tVar 3) (tVar 4))))) (tSeq (tAsg (tC (.bl true)) (gSub (tVar 3) (tVar 4) rSetL))
    (tDrop (tBM K "list" rAppend (tVar 2) (tCons (tVar 4) tNil)))) tNext))
    (tAug 5 (tC (.int 1)) (ipI fun i j => i + j))))
    (tRet (tVar 2)))))))
section
variable {K : PySem.W.Frag} {A : Ex} {E : XK} {vs : List V} {L : AL} {Q : V → AL → Prop} {Ea : Value → AL → Prop}
abbrev came1 (K : PySem.W.Frag) : TS := (tIfS (tAnd (tTest (tOp rNotNo (tVar 4) (tC .non))) (tNot (tB (tOp (rIxL K) (tVar 3) (tVar 4))))) (tSeq (tAsg (tC (.bl true)) (gSub (tVar 3) (tVar 4) rSetL))
    (tDrop (tBM K "list" rAppend (tVar 2) (tCons (tVar 4) tNil)))) tNext)
theorem came1_ok {N B C : L2.St → AL → Prop} {QR : V → AL → Prop} {v0 v1 v5 v6 : Option V} {c f : Addr} {R : AL} {m : Nat} {s : List Nat} {o : Option Nat} (hs : s.length ≤ 90000) (ho : ∀ b, o = some b → b < m)
    (hN : N [v0, v1, some (.ref c), some (.ref f), some (oV o), v5, v6] (pt f (.lst (flags m (mk s o))) :: pt c (.lst ((mk s o).map nV)) :: R)) :
    SS (came1 K) { nx := N, rt := QR, bk := B, ct := C } [v0, v1, some (.ref c), some (.ref f), some (oV o), v5, v6] (pt f (.lst (flags m s)) :: pt c (.lst (s.map nV)) :: R) := by
  unfold came1
  cases o with
  | none =>
    tm_at "go"
    refine ⟨false, rfl, both_f (both_f (s_next hN))⟩
  | some b =>
    have hb := ho b rfl
    tm_at "go"
    refine ⟨true, rfl, both_t ?_⟩
    tm_at "go"
    refine r_ixL (Has.sq has_hd) (atI_nat (flags_at hb)) ?_
    by_cases c1 : b ∈ s
    · have e : mk s (some b) = s := if_pos c1
      rw [e] at hN
      rw [decide_eq_true c1]
      exact ⟨true, rfl, both_f (s_next hN)⟩
    · have e : mk s (some b) = s ++ [b] := if_neg c1
      rw [e] at hN
      rw [decide_eq_false c1]
      refine ⟨false, rfl, both_t ?_⟩
      tm_at "go"
      refine r_setL has_hd (ixN_nat (by rw [flags_len]; exact hb)) wr_hd ?_
      rw [flags_set hb]
      tm_at "go"
      refine r_append (by tm_at "hs") (small5 (by rw [List.length_map]; omega)) (by tm_at "wr") ?_
      rw [List.map_append] at hN
      exact hN
theorem p_law_came (he : ELe Ea E) (h : P_law_came K A vs L Q Ea) : SS (t_law_came K A E) { nx := fun _ L => Q .non L, rt := Q } (start N_law_came vs) L := by
  obtain ⟨_, _, rfl, h, p, as, hs, rw, rfl, rfl, hh, hr, hz, pw, q⟩ := h
  unfold t_law_came
  refine s_postB ?_
  have halen := hr.len
  have hal : (as.map V.ref).length = rw.length := by rw [List.length_map]; exact hr.len
  have hsl : ∀ os : List (Option Nat), (∀ b, some b ∈ os → b < rw.length) → ∀ s : List Nat, s.Nodup → (∀ b ∈ s, b < rw.length) → ∀ i, (mks s (os.take i)).length ≤ 90000 := fun os ho s hn hl i => by
    have := nodup_bound _ (mks_nd hn (os.take i)) (mks_lt hl fun b hb => ho b (List.mem_of_mem_take hb))
    omega
  tm_at "gn"
  refine ⟨by show 0 ≤ sizeLine; decide, fun c => ?_⟩
  tm_at "gn"
  refine e_lcPlainL (fun _ => true) (fun _ => .bl false) (a0 := p) (xs := as.map V.ref) (by omega) (fun _ => rfl) (by tm_at "go"; exact ⟨rfl, rfl⟩) (sq_tl hr.top) (fun x hx L' en => t_yes ⟨rfl, rfl⟩) (fun x hx _ L' en => e_c ⟨rfl, rfl⟩) fun f => ?_
  have e0 : (((as.map V.ref).filter fun _ => true).map fun _ => V.bl false) = flags rw.length [] := by
    rw [List.filter_eq_self.mpr (fun _ _ => rfl), ← halen]
    unfold flags
    refine List.ext_getElem? fun i => ?_
    by_cases c : i < as.length
    · rw [List.getElem?_map, List.getElem?_map, List.getElem?_map, List.getElem?_range c, List.getElem?_eq_getElem c]; rfl
    · rw [List.getElem?_eq_none (by simp; omega), List.getElem?_eq_none (by simp; omega)]
  rw [e0]
  tm_at "gn"
  refine s_mid (Mid := fun σ L' => (∃ v4 v5 v6, σ = [some (.ref h), some (.ref p), some (.ref c), some (.ref f), v4, v5, v6]) ∧ L' = pt f (.lst (flags rw.length (cm hs rw 0))) :: pt c (.lst ((cm hs rw 0).map nV)) :: L) ?_ ?_
  · refine s_forL ?_
    tm_at "go"
    refine ⟨h, hs.map oV, rfl, sq_tl (sq_tl hh), fun i σ L' => (∃ v4 v5 v6, σ = [some (.ref h), some (.ref p), some (.ref c), some (.ref f), v4, v5, v6]) ∧ L' = pt f (.lst (flags rw.length (mks [] (hs.take i)))) :: pt c (.lst ((mks [] (hs.take i)).map nV)) :: L, ⟨⟨_, _, _, rfl⟩, rfl⟩, ?_, ?_, ?_⟩
    · rintro i σ L' hi ⟨_, rfl⟩
      exact sq_tl (sq_tl hh)
    · rintro i x σ L' hx ⟨⟨v4, v5, v6, rfl⟩, rfl⟩
      obtain ⟨o, ho, rfl⟩ := map_get hx
      refine came1_ok (hsl hs pw.h [] List.nodup_nil (fun _ h => absurd h List.not_mem_nil) i) (fun b e => pw.h b (e ▸ List.mem_of_getElem? ho)) ?_
      exact ⟨⟨_, _, _, rfl⟩, by rw [mks_snoc ho]⟩
    · rintro σ L' ⟨⟨v4, v5, v6, rfl⟩, rfl⟩
      rw [List.length_map, List.take_length]
      exact ⟨_, Ent.refl _, ⟨_, _, _, rfl⟩, rfl⟩
  · rintro σ L' ⟨⟨v4, v5, v6, rfl⟩, rfl⟩
    tm_at "gn"
    refine s_mid (Mid := fun σ L' => ∃ N, (∀ n, n < N → n < (cm hs rw n).length) ∧ N = (cm hs rw N).length ∧ (∃ v4 v5 v6, σ = [some (.ref h), some (.ref p), some (.ref c), some (.ref f), v4, v5, v6]) ∧ L' = pt c (.lst ((cm hs rw N).map nV)) :: L) ?_ ?_
    · refine s_while (fun k σ L' => ∃ n, n + k = rw.length + 1 ∧ (∀ j, j < n → j < (cm hs rw j).length) ∧ (∃ v4 v6, σ = [some (.ref h), some (.ref p), some (.ref c), some (.ref f), v4, some (nV n), v6]) ∧ L' = pt f (.lst (flags rw.length (cm hs rw n))) :: pt c (.lst ((cm hs rw n).map nV)) :: L) ⟨rw.length + 1, 0, by omega, (fun _ h => absurd h (Nat.not_lt_zero _)), ⟨_, _, rfl⟩, rfl⟩ ?_
      rintro k σ L' ⟨n, hk, hj, ⟨v4, v6, rfl⟩, rfl⟩
      have hcl := cm_len pw n
      tm_at "go"
      rw [List.length_map]
      refine ex_c (fun c1 => ?_) fun c1 => ?_
      · have c1' : n < (cm hs rw n).length := by omega
        obtain ⟨b, hb⟩ : ∃ b, (cm hs rw n)[n]? = some b := ⟨_, List.getElem?_eq_getElem c1'⟩
        have hbl : b < rw.length := cm_lt pw n b (List.mem_of_getElem? hb)
        have hbd : (cm hs rw n).getD n 0 = b := by rw [List.getD_eq_getElem?_getD, hb]; rfl
        obtain ⟨a, ha⟩ := as_ex (as := as) (b := b) (by omega)
        have enext : cm hs rw (n + 1) = mks (cm hs rw n) (rowOf rw b) := by show mks _ (rowOf rw ((cm hs rw n).getD n 0)) = _; rw [hbd]
        refine s_seq ?_
        refine s_forL ?_
        tm_at "go"
        refine r_ixL (Has.sq (has_tl has_hd)) (atI_nat (map_at nV hb)) ?_
        refine r_ixL (sq_tl (sq_tl hr.top)) (atI_nat (as_get ha)) ?_
        refine ⟨a, (rowOf rw b).map oV, rfl, sq_tl (sq_tl (hr.row b a _ ha (rw_get hbl))), fun i σ L' => (∃ v4 v6, σ = [some (.ref h), some (.ref p), some (.ref c), some (.ref f), v4, some (nV n), v6]) ∧ L' = pt f (.lst (flags rw.length (mks (cm hs rw n) ((rowOf rw b).take i)))) :: pt c (.lst ((mks (cm hs rw n) ((rowOf rw b).take i)).map nV)) :: L, ⟨⟨_, _, rfl⟩, rfl⟩, ?_, ?_, ?_⟩
        · rintro i σ L' hi ⟨_, rfl⟩
          exact sq_tl (sq_tl (hr.row b a _ ha (rw_get hbl)))
        · rintro i x σ L' hx ⟨⟨v4, v6, rfl⟩, rfl⟩
          obtain ⟨o, ho, rfl⟩ := map_get hx
          refine came1_ok (hsl _ (rowOf_lt pw b) _ (cm_nd hs rw n) (cm_lt pw n) i) (fun x e => rowOf_lt pw b x (e ▸ List.mem_of_getElem? ho)) ?_
          exact ⟨⟨_, _, rfl⟩, by rw [mks_snoc ho]⟩
        · rintro σ L' ⟨⟨v4, v6, rfl⟩, rfl⟩
          rw [List.length_map, List.take_length, ← enext]
          refine s_aug (x := (n : Int)) rfl ?_
          tm_at "go"
          refine ⟨1, rfl, k - 1, by omega, n + 1, by omega, fun j h => ?_, ⟨_, _, rfl⟩, rfl⟩
          by_cases c : j = n
          · rw [c]; exact c1'
          · exact hj j (by omega)
      · refine ⟨_, Ent.drop, n, hj, ?_, ⟨_, _, _, rfl⟩, rfl⟩
        by_cases c2 : n = 0
        · omega
        · obtain ⟨n', rfl⟩ : ∃ n', n = n' + 1 := ⟨n - 1, by omega⟩
          have h1 := hj n' (by omega)
          have h2 := (lev_pre rw (mks [] hs) n' 1).length_le
          have h3 : ¬ n' + 1 < (cm hs rw (n' + 1)).length := by omega
          show n' + 1 = (cm hs rw (n' + 1)).length
          have h4 : (cm hs rw n').length ≤ (cm hs rw (n' + 1)).length := h2
          omega
    · rintro σ L' ⟨N, h1, h2, ⟨v4, v5, v6, rfl⟩, rfl⟩
      tm_at "go"
      exact ⟨_, Ent.refl _, q c N h1 h2⟩
end
/-! What k07 asks: the chain, the state that is told. -/
theorem dpAll {K : PySem.W.Frag} {H : Hp} : ∀ xs : List Nat, DpAll K H (xs.map nV) (xs.map fun (n : Nat) => .int (n : Int))
  | [] => .nil
  | _ :: xs => .cons (.int _) (dpAll xs)
theorem eqv_nil (xs : List Nat) : PyData.eqv (.list (xs.map fun (n : Nat) => .int (n : Int))) (.list []) = xs.isEmpty := by
  cases xs <;> simp [PyData.eqv, PyData.eqvAll]
theorem lay_nat : ∀ xs : List Nat, PyData.canLayAll0 (xs.map fun (n : Nat) => PyData.int (n : Int)) = true
  | [] => rfl
  | _ :: r => by simp [PyData.canLayAll0, PyData.canLay0, lay_nat r]
theorem depth_nat : ∀ xs : List Nat, PyData.depthAll (xs.map fun (n : Nat) => PyData.int (n : Int)) = 0
  | [] => rfl
  | _ :: r => by simp [PyData.depthAll, PyData.depth, depth_nat r]
theorem shaped_nat (xs : List Nat) : SeqAt.shaped (.list (xs.map fun (n : Nat) => PyData.int (n : Int))) = true := by
  simp [SeqAt.shaped, PyData.canLay0, PyData.depth, lay_nat, depth_nat]
theorem r_neE {K : PySem.W.Frag} {L : AL} {Q : V → AL → Prop} {a b : Addr} {xs : List Nat} (h : SqA K L a (xs.map nV)) (h2 : SqA K L b []) (q : Q (.bl (!xs.isEmpty)) L) : RE (rNeD K (.ref a) (.ref b)) L Q := fun H s Qh k =>
  ⟨.list (xs.map fun (n : Nat) => .int (n : Int)), .list [], .lst (h H s) (dpAll xs), .lst (h2 H s) .nil, shaped_nat xs, shaped_nat [], by rw [eqv_nil]; exact k _ _ _ s q⟩
theorem r_eqE {K : PySem.W.Frag} {L : AL} {Q : V → AL → Prop} {a b : Addr} {xs : List Nat} (h : SqA K L a (xs.map nV)) (h2 : SqA K L b []) (q : Q (.bl xs.isEmpty) L) : RE (rEqD K (.ref a) (.ref b)) L Q := fun H s Qh k =>
  ⟨.list (xs.map fun (n : Nat) => .int (n : Int)), .list [], .lst (h H s) (dpAll xs), .lst (h2 H s) .nil, shaped_nat xs, shaped_nat [], by rw [eqv_nil]; exact k _ _ _ s q⟩
theorem inV_nat (b : Nat) (xs : List Nat) : inV (nV b) (xs.map nV) = decide (b ∈ xs) := by
  unfold inV
  induction xs with
  | nil => simp
  | cons x xs ih =>
    rw [List.map_cons, List.any_cons, ih]
    have : eqV (nV x) (nV b) = decide (b = x) := by
      show ((x : Int) == (b : Int)) = decide (b = x)
      by_cases c : b = x
      · subst c; simp
      · rw [decide_eq_false c]; simp; omega
    rw [this]
    by_cases c : b = x <;> simp [c]
theorem flat_nat (xs : List Nat) : (xs.map nV).all flatV = true := by
  induction xs with
  | nil => rfl
  | cons x xs ih => rw [List.map_cons, List.all_cons, ih]; rfl
theorem r_inN {K : PySem.W.Frag} {L : AL} {Q : V → AL → Prop} {a : Addr} {b : Nat} {xs : List Nat} (h : SqA K L a (xs.map nV)) (q : Q (.bl (decide (b ∈ xs))) L) : RE (rIn K false (nV b) (.ref a)) L Q := r_inL h rfl (flat_nat xs) (by rw [if_neg Bool.false_ne_true, inV_nat]; exact q)
theorem r_notInN {K : PySem.W.Frag} {L : AL} {Q : V → AL → Prop} {a : Addr} {b : Nat} {xs : List Nat} (h : SqA K L a (xs.map nV)) (q : Q (.bl (!decide (b ∈ xs))) L) : RE (rIn K true (nV b) (.ref a)) L Q := r_inL h rfl (flat_nat xs) (by rw [if_pos rfl, inV_nat]; exact q)
def P_law_chain (K : PySem.W.Frag) (A : Ex) : Pm := pm4 fun x y z u L Q _ => ∃ (p h r : Addr) (as : List Addr) (ad : HAd) (st : HS) (R : AL) (m k n : Nat), x = .ref p ∧ y = .ref h ∧ z = .ref r ∧ u = nV n ∧ L = HeapIs A.Heap p ad st :: pt h (.lst (st.hands.map oV)) :: RowsA r as st.rows :: R ∧ as.length = st.rows.length ∧ I4 st m k ∧ 2 ≤ m ∧ k + 3 * n ≤ 900 ∧
  ∀ st2 ad2 as2, I4 st2 m (k + 3 * n) → as2.length = st2.rows.length → Q .non (HeapIs A.Heap p ad2 st2 :: pt h (.lst (st2.hands.map oV)) :: RowsA r as2 st2.rows :: R)
def N_law_chain : List Str := ["_law_heap", "_law_hands", "_law_rows", "_law_size", "_law_k", "_law_deed"]
def t_law_chain (K : PySem.W.Frag) (A : Ex) (E : XK) : TS :=
    (tFor (iRng1 (tCons (tVar 3) tNil)) (gName 4)
      (tFor (iTup K (tTup (tCons (tLst (tCons (tC (.str "make")) (tCons (tC (.int 1)) (tCons (tOp rAddI (tC (.int 1)) (tOp rModI (tVar 4) (tC (.int 4)))) tNil)))) (tCons (tLst (tCons (tC (.str "put")) (tCons (tC (.int 1)) (tCons (tOp rModI (tVar 4) (tC (.int 4))) (tCons (tC (.int 0)) tNil))))) (tCons (tLst (tCons (tC (.str "share")) (tCons (tC (.int 0)) (tCons (tC (.int 1)) tNil)))) tNil))))) (gName 5)
      (tSeq (tDrop (tCall (lift (P_law_asked K A)) [] E0 (tCons (tVar 0) (tCons (tVar 5) tNil))))
    (tDrop (tCall (lift (P_law_done K A)) [] E0 (tCons (tVar 5) (tCons (tVar 1) (tCons (tVar 2) tNil))))))))
def P_law_state (K : PySem.W.Frag) (A : Ex) : Pm := pm6 fun x y z u v w L Q _ => ∃ (p a b c : Addr) (ad : HAd) (st : HS) (R : AL) (T W : List Nat), x = .ref p ∧ y = .str st.stage.str ∧ z = .ref a ∧ u = .ref b ∧ v = .ref c ∧ w = nV st.ended ∧ L = HeapIs A.Heap p ad st :: R ∧ HW st ∧ SqA K R a (T.map nV) ∧ SqA K R b (W.map nV) ∧ SqA K R c (st.there.map nV) ∧
  T.Perm st.seen ∧ T.Pairwise (· ≤ ·) ∧ W = st.seen.drop st.looked ∧ Q (.bl true) L
def N_law_state : List Str := ["_law_heap", "_law_phase", "_law_marked", "_law_waiting", "_law_there", "_law_ended"]
def t_law_state (K : PySem.W.Frag) (A : Ex) (E : XK) : TS :=
    (tSeq (tIfS (tOr (tTest (tOp rNe (tMeth A.Heap "phase" (lift (P_phase K A)) [] E0 (tVar 0) tNil) (tVar 1))) (tOr (tNot (tB (tCall (lift (P_law_whole K A)) [] E0 (tCons (tMeth A.Heap "rounds" (lift (P_rounds K A)) [] E0 (tVar 0) tNil) tNil)))) (tTest (tOp rNe (tMeth A.Heap "rounds" (lift (P_rounds K A)) [] E0 (tVar 0) tNil) (tVar 5))))) (tRet (tC (.bl false))) tNext)
    (tSeq (tIfS (tOr (tNot (tB (tCall (lift (P_law_numbers K A)) [] E0 (tCons (tMeth A.Heap "marked" (lift (P_marked K A)) [] E0 (tVar 0) tNil) (tCons (tVar 2) tNil))))) (tNot (tB (tCall (lift (P_law_numbers K A)) [] E0 (tCons (tMeth A.Heap "waiting" (lift (P_waiting K A)) [] E0 (tVar 0) tNil) (tCons (tVar 3) tNil)))))) (tRet (tC (.bl false))) tNext)
    (tRet (tCall (lift (P_law_numbers K A)) [] E0 (tCons (tMeth A.Heap "boxes" (lift (P_boxes K A)) [] E0 (tVar 0) tNil) (tCons (tVar 4) tNil))))))
section
variable {K : PySem.W.Frag} {A : Ex} {E : XK} {vs : List V} {L : AL} {Q : V → AL → Prop} {Ea : Value → AL → Prop}
theorem do_chain {p h r : Addr} {as : List Addr} {ad : HAd} {st : HS} {R : AL} {m k n : Nat} (e : Ent L (HeapIs A.Heap p ad st :: pt h (.lst (st.hands.map oV)) :: RowsA r as st.rows :: R)) (has : as.length = st.rows.length) (I : I4 st m k) (h2 : 2 ≤ m) (hk : k + 3 * n ≤ 900)
    (q : ∀ st2 ad2 as2, I4 st2 m (k + 3 * n) → as2.length = st2.rows.length → Q .non (HeapIs A.Heap p ad2 st2 :: pt h (.lst (st2.hands.map oV)) :: RowsA r as2 st2.rows :: R)) : ∃ L2, Ent L L2 ∧ P_law_chain K A [.ref p, .ref h, .ref r, nV n] L2 Q Ea := ⟨_, e, _, _, _, _, rfl, p, h, r, as, ad, st, R, m, k, n, rfl, rfl, rfl, rfl, rfl, has, I, h2, hk, q⟩
theorem do_state {p a b c : Addr} {ad : HAd} {st : HS} {R : AL} {T W : List Nat} {ph : Str} {en : Nat} (e : Ent L (HeapIs A.Heap p ad st :: R)) (w : HW st) (h1 : ph = st.stage.str) (h2 : en = st.ended) (ha : SqA K R a (T.map nV)) (hb : SqA K R b (W.map nV)) (hc : SqA K R c (st.there.map nV)) (hp : T.Perm st.seen) (hs : T.Pairwise (· ≤ ·)) (hw : W = st.seen.drop st.looked)
    (q : Q (.bl true) (HeapIs A.Heap p ad st :: R)) : ∃ L2, Ent L L2 ∧ P_law_state K A [.ref p, .str ph, .ref a, .ref b, .ref c, nV en] L2 Q Ea := by
  subst h1 h2
  exact ⟨_, e, _, _, _, _, _, _, rfl, p, a, b, c, ad, st, R, T, W, rfl, rfl, rfl, rfl, rfl, rfl, rfl, w, ha, hb, hc, hp, hs, hw, q⟩
theorem p_law_state (T : HT K A) (he : ELe Ea E) (h : P_law_state K A vs L Q Ea) : SS (t_law_state K A E) { nx := fun _ L => Q .non L, rt := Q } (start N_law_state vs) L := by
  obtain ⟨_, _, _, _, _, _, rfl, p, a, b, c, ad, st, R, T', W, rfl, rfl, rfl, rfl, rfl, rfl, rfl, w, ha, hb, hc, hp, hs, hw, q⟩ := h
  unfold t_law_state
  have hbig := w.big
  have hsl := w.seenl
  have htl := w.tl
  have hpl := hp.length_eq
  refine s_postB ?_
  tm_at "go"
  refine do_phase (Ent.refl _) ?_
  tm_at "go"
  refine ex_n (fun n => absurd rfl n) fun _ => ?_
  tm_at "go"
  refine do_rounds (Ent.refl _) ?_
  tm_at "go"
  refine do_wholeN ?_
  refine ⟨true, rfl, both_f ?_⟩
  tm_at "go"
  refine do_rounds (Ent.refl _) ?_
  tm_at "go"
  refine ex_n (fun n => absurd rfl n) fun _ => ?_
  tm_at "go"
  refine do_marked (Ent.refl _) hp hs fun d => ?_
  tm_at "go"
  refine do_numbersN has_hd (sq_tl (sq_tl ha)) (by omega) ?_
  refine ⟨true, rfl, both_f ?_⟩
  tm_at "go"
  refine do_waiting (R := pt d (.lst (T'.map nV)) :: R) ent_swap fun d2 => ?_
  rw [← hw]
  tm_at "go"
  refine do_numbersN has_hd (sq_tl (sq_tl (sq_tl hb))) (by rw [hw, List.length_drop]; omega) ?_
  refine ⟨true, rfl, both_f ?_⟩
  tm_at "go"
  refine do_boxes (R := pt d2 (.lst (W.map nV)) :: pt d (.lst (T'.map nV)) :: R) ent_swap w fun d3 => ?_
  tm_at "go"
  refine do_numbersN has_hd (sq_tl (sq_tl (sq_tl (sq_tl hc)))) (by omega) ?_
  exact ⟨_, Ent.drop.trans (Ent.cons (Ent.drop.trans Ent.drop)), q⟩
theorem goods_chain {hs : Hs} {rw : Rw} {i : Nat} (h : 2 ≤ hs.length) : Deed.Goods [.make 1 (1 + i % 4), .put 1 (i % 4) 0, .share 0 1] hs rw := by
  have e1 : (hs.set 1 (some rw.length)).getD 1 none = some rw.length := by
    rw [List.getD_eq_getElem?_getD, List.getElem?_set_self (by omega)]; rfl
  have e2 : boxOf (hs.set 1 (some rw.length)) 1 = rw.length := by unfold boxOf; rw [e1]; rfl
  have e3 : rowOf (rw ++ [List.replicate (1 + i % 4) none]) rw.length = List.replicate (1 + i % 4) none := by
    unfold rowOf
    rw [List.getD_eq_getElem?_getD, List.getElem?_append_right (Nat.le_refl _), Nat.sub_self]; rfl
  refine ⟨⟨by omega, by omega⟩, ⟨by show 0 < (hs.set 1 _).length; rw [List.length_set]; omega, ?_⟩, ⟨by show 0 < (hs.set 1 _).length; rw [List.length_set]; omega, by show 1 < (hs.set 1 _).length; rw [List.length_set]; omega⟩, trivial⟩
  show slotOk (hs.set 1 (some rw.length)) (rw ++ [List.replicate (1 + i % 4) none]) 1 (i % 4)
  refine ⟨by rw [List.length_set]; omega, by rw [e2]; exact e1, by rw [e2, List.length_append, List.length_singleton]; omega, ?_⟩
  rw [e2, e3, List.length_replicate]
  omega
theorem p_law_chain (T : HT K A) (he : ELe Ea E) (h : P_law_chain K A vs L Q Ea) : SS (t_law_chain K A E) { nx := fun _ L => Q .non L, rt := Q } (start N_law_chain vs) L := by
  obtain ⟨_, _, _, _, rfl, p, h, r, as, ad, st, R, m, k, n, rfl, rfl, rfl, rfl, rfl, has, I, h2, hk, q⟩ := h
  unfold t_law_chain
  refine s_forR1 ?_
  tm_at "go"
  refine ⟨(n : Int), rfl, by omega, by omega, fun i σ L' => ∃ (st : HS) (ad : HAd) (as : List Addr) (v4 v5 : Option V), σ = [some (.ref p), some (.ref h), some (.ref r), some (nV n), v4, v5] ∧ I4 st m (k + 3 * i) ∧ as.length = st.rows.length ∧ L' = HeapIs A.Heap p ad st :: pt h (.lst (st.hands.map oV)) :: RowsA r as st.rows :: R, ⟨st, ad, as, _, _, rfl, I, has, rfl⟩, ?_, ?_⟩
  · rintro i σ L' hi ⟨st, ad, as, v4, v5, rfl, I, has, rfl⟩
    have hgood := goods_chain (hs := st.hands) (rw := st.rows) (i := i) (by rw [I.hl]; exact h2)
    refine s_post ?_
    refine s_forT (e_post ?_)
    tm_at "go"
    rw [show (1 : Int) + (i : Int) % 4 = ((1 + i % 4 : Nat) : Int) by omega]
    refine ⟨by show 3 ≤ sizeLine; decide, fun a1 => ?_⟩
    tm_at "go"
    rw [show (i : Int) % 4 = ((i % 4 : Nat) : Int) by omega]
    refine ⟨by show 4 ≤ sizeLine; decide, fun a2 => ?_⟩
    tm_at "go"
    refine ⟨by show 3 ≤ sizeLine; decide, fun a3 => ?_⟩
    tm_at "go"
    refine ⟨by show 3 ≤ sizeLine; decide, fun t => ?_⟩
    refine ⟨HeapIs A.Heap p ad st :: pt h (.lst (st.hands.map oV)) :: RowsA r as st.rows :: pt t (.tup [.ref a1, .ref a2, .ref a3]) :: pt a3 (.lst (Deed.share 0 1).vals) :: pt a2 (.lst (Deed.put 1 (i % 4) 0).vals) :: pt a1 (.lst (Deed.make 1 (1 + i % 4)).vals) :: R, ?_, ?_⟩
    · exact (ent_pick 4 rfl).trans (Ent.cons ((ent_pick 4 rfl).trans (Ent.cons (ent_pick 4 rfl))))
    refine ⟨t, [.ref a1, .ref a2, .ref a3], rfl, Has.tq (has_tl (has_tl (has_tl has_hd))), fun j σ L' => ∃ (st : HS) (ad : HAd) (as : List Addr) (v5 : Option V), σ = [some (.ref p), some (.ref h), some (.ref r), some (nV n), some (nV i), v5] ∧ I4 st m (k + 3 * i + j) ∧ as.length = st.rows.length ∧ Deed.Goods (([.make 1 (1 + i % 4), .put 1 (i % 4) 0, .share 0 1] : List Deed).drop j) st.hands st.rows ∧
      L' = HeapIs A.Heap p ad st :: pt h (.lst (st.hands.map oV)) :: RowsA r as st.rows :: pt t (.tup [.ref a1, .ref a2, .ref a3]) :: pt a3 (.lst (Deed.share 0 1).vals) :: pt a2 (.lst (Deed.put 1 (i % 4) 0).vals) :: pt a1 (.lst (Deed.make 1 (1 + i % 4)).vals) :: R, ⟨st, ad, as, _, rfl, I, has, hgood, rfl⟩, ?_, ?_, ?_⟩
    · rintro j σ L' hj ⟨st, ad, as, v5, rfl, I, has, hgood, rfl⟩
      exact Has.tq (has_tl (has_tl (has_tl has_hd)))
    · rintro j x σ L' hx ⟨st, ad, as, v5, rfl, I, has, hgood, rfl⟩
      obtain ⟨D, b, hD, rfl, hb⟩ : ∃ (D : Deed) (b : Addr), [Deed.make 1 (1 + i % 4), .put 1 (i % 4) 0, .share 0 1][j]? = some D ∧ x = .ref b ∧ Has (pt t (.tup [.ref a1, .ref a2, .ref a3]) :: pt a3 (.lst (Deed.share 0 1).vals) :: pt a2 (.lst (Deed.put 1 (i % 4) 0).vals) :: pt a1 (.lst (Deed.make 1 (1 + i % 4)).vals) :: R) b (.lst D.vals) := by
        match j, hx with
        | 0, hx => exact ⟨_, a1, rfl, (Option.some.inj hx).symm, has_tl (has_tl (has_tl has_hd))⟩
        | 1, hx => exact ⟨_, a2, rfl, (Option.some.inj hx).symm, has_tl (has_tl has_hd)⟩
        | 2, hx => exact ⟨_, a3, rfl, (Option.some.inj hx).symm, has_tl has_hd⟩
        | j + 3, hx => simp at hx
      have hj : j < 3 := (List.getElem?_eq_some_iff.mp hD).1
      obtain ⟨ok, hg2⟩ := goods_at hD hgood
      have hml := I.ml
      have htl := I.tl
      generalize (pt t (.tup [.ref a1, .ref a2, .ref a3]) :: pt a3 (.lst (Deed.share 0 1).vals) :: pt a2 (.lst (Deed.put 1 (i % 4) 0).vals) :: pt a1 (.lst (Deed.make 1 (1 + i % 4)).vals) :: R) = R2 at hb ⊢
      refine s_post ?_
      tm_at "gn"
      refine do_asked (d := D) (Ent.refl _) (sq_tl (sq_tl hb.sq)) I.w ok I.hb (by rw [I.rm]; omega) fun ad' => ?_
      tm_at "gn"
      have I2 := I.deed ok (by omega)
      have hdh := deed_hands st D
      have hdr := deed_rows st D
      refine do_done (d := D) (as := as) (hs := st.hands) (rw := st.rows) (R := HeapIs A.Heap p ad' (st.deed D) :: R2) (ent_swap.trans (Ent.cons ent_swap)) (sq_tl hb.sq) has (by omega) ok fun as' has' => ?_
      rw [← hdh, ← hdr] at hg2 ⊢
      rw [← hdr] at has'
      exact ⟨_, ent_pick 2 rfl, st.deed D, ad', as', _, rfl, I2, has', hg2, rfl⟩
    · rintro σ L' ⟨st, ad, as, v5, rfl, I, has, hgood, rfl⟩
      exact ⟨_, Ent.cons (Ent.cons (Ent.cons (Ent.drop.trans (Ent.drop.trans (Ent.drop.trans Ent.drop))))), st, ad, as, _, _, rfl, I, has, rfl⟩
  · rintro σ L' ⟨st, ad, as, v4, v5, rfl, I, has, rfl⟩
    exact q st ad as I has
end
/-! A round alone: the mirror's states. -/
/-- ahead of settling: begun, behind n looks -/
def HS.raw (st : HS) (n : Nat) : HS := { st with old := st.there, begun := st.rows.length, stage := .marking, seen := cm st.hands st.rows n, looked := n }
/-- ahead of settling: behind k sweeps -/
def HS.swp (st : HS) (C : List Nat) (N k : Nat) : HS := { st with old := st.there, begun := st.rows.length, stage := .sweeping, seen := C, looked := N, swept := k, there := st.there.filter fun x => decide (x ∈ C ∨ k ≤ x) }
theorem markAll_eq : ∀ (os : List (Option Nat)) (st : HS), (∀ b, some b ∈ os → b < st.begun) → st.markAll os = { st with seen := mks st.seen os }
  | [], _, _ => rfl
  | o :: os, st, h => by
    have e : st.mark o = { st with seen := mk st.seen o } := by
      cases o with
      | none => rfl
      | some b =>
        unfold HS.mark mk
        simp only
        by_cases c : b ∈ st.seen
        · rw [if_neg (fun z => z.2 c), if_pos c]
        · rw [if_pos ⟨h b List.mem_cons_self, c⟩, if_neg c]
    show (st.mark o).markAll os = _
    have ih := markAll_eq os { st with seen := mk st.seen o } fun b hb => h b (List.mem_cons_of_mem _ hb)
    rw [e, ih]
    rfl
theorem raw_begin {st : HS} {n m : Nat} (I : I4 st n m) : st.begin_ = st.raw 0 := by
  unfold HS.begin_
  rw [markAll_eq _ _ fun b hb => I.p.h b hb]
  unfold HS.raw
  simp only [I.sn, I.lk]
  rfl
theorem raw_look {st : HS} {n : Nat} (w : PW st.hands st.rows) : (st.raw n).lookAt = st.raw (n + 1) := by
  unfold HS.lookAt
  have e := markAll_eq (rowOf st.rows ((cm st.hands st.rows n).getD n 0)) { st.raw n with looked := n + 1 } fun b hb => rowOf_lt w _ b hb
  exact e
theorem settle_mark {st : HS} {n : Nat} (h : n < (cm st.hands st.rows n).length) : (st.raw n).settle = st.raw n := by
  unfold HS.settle HS.settle1
  rw [if_neg (fun z => by have e : n = (cm st.hands st.rows n).length := z.2; omega)]
  unfold HS.settle2
  rw [if_neg (fun z => by have e : Stg.marking = Stg.sweeping := z.1; cases e)]
theorem settle_end {st : HS} {N i m : Nat} (I : I4 st i m) (h : N = (cm st.hands st.rows N).length) : (st.raw N).settle = (st.swp (cm st.hands st.rows N) N 0).settle2 := by
  unfold HS.settle HS.settle1
  rw [if_pos ⟨rfl, h⟩]
  congr 1
  unfold HS.raw HS.swp
  have e : st.there.filter (fun x => decide (x ∈ cm st.hands st.rows N ∨ 0 ≤ x)) = st.there := List.filter_eq_self.mpr fun x _ => by simp
  rw [e, I.sw]
theorem swp_more {st : HS} {C : List Nat} {N k i m : Nat} (I : I4 st i m) (h : k < st.rows.length) : (st.swp C N k).settle2 = st.swp C N k := by
  unfold HS.settle2
  rw [if_neg (fun z => by
    have e : k = st.there.length := z.2
    rw [I.tl] at e
    omega)]
theorem swp_end {st : HS} {C : List Nat} {N i m : Nat} (I : I4 st i m) : (st.swp C N st.rows.length).settle2 = { (st.swp C N st.rows.length).rest with ended := st.ended + 1 } := by
  unfold HS.settle2
  rw [if_pos ⟨rfl, I.tl.symm⟩]
  rfl
theorem swp_old {st : HS} {C : List Nat} {N k i m : Nat} (I : I4 st i m) (h : k < st.rows.length) : (st.swp C N k).old[(st.swp C N k).swept]? = some k := by
  show st.there[k]? = some k
  rw [I.th, List.getElem?_range h]
theorem swp_next {st : HS} {C : List Nat} {N k i m : Nat} (I : I4 st i m) (h : k < st.rows.length) : (st.swp C N k).piece = ((st.swp C N (k + 1)).settle2, if k ∈ C then none else some k) := by
  have e0 : (st.swp C N k).old.getD (st.swp C N k).swept 0 = k := by rw [List.getD_eq_getElem?_getD, swp_old I h]; rfl
  show ((st.swp C N k).sweep.1.settle, (st.swp C N k).sweep.2) = _
  have hs1 : ∀ s : HS, s.stage = .sweeping → s.settle = s.settle2 := fun s hs => by
    unfold HS.settle HS.settle1
    rw [if_neg (fun z => by rw [hs] at z; cases z.1)]
  unfold HS.sweep
  rw [e0]
  by_cases c : k ∈ C
  · have c' : k ∈ (st.swp C N k).seen := c
    rw [if_pos c', if_pos c, hs1 _ rfl]
    have e : ({ st.swp C N k with swept := (st.swp C N k).swept + 1 } : HS) = st.swp C N (k + 1) := by
      unfold HS.swp
      have ef : st.there.filter (fun x => decide (x ∈ C ∨ k ≤ x)) = st.there.filter (fun x => decide (x ∈ C ∨ k + 1 ≤ x)) := List.filter_congr fun x _ => by
        by_cases d : x = k
        · subst d; simp [c]
        · have : (k ≤ x) ↔ (k + 1 ≤ x) := by omega
          simp only [this]
      simp only [ef]
    rw [e]
  · have c' : ¬ k ∈ (st.swp C N k).seen := c
    rw [if_neg c', if_neg c]
    have e : HS.free { st.swp C N k with swept := (st.swp C N k).swept + 1 } k = st.swp C N (k + 1) := by
      unfold HS.free HS.swp
      have ef : (st.there.filter (fun x => decide (x ∈ C ∨ k ≤ x))).filter (fun x => decide (x ≠ k)) = st.there.filter (fun x => decide (x ∈ C ∨ k + 1 ≤ x)) := by
        rw [List.filter_filter]
        refine List.filter_congr fun x _ => ?_
        by_cases d : x = k
        · subst d; simp [c]
        · have : (k ≤ x) ↔ (k + 1 ≤ x) := by omega
          simp only [this, d, ne_eq, not_false_eq_true, decide_true, Bool.true_and, Bool.and_true]
      simp only [ef]
    rw [e, hs1 _ rfl]
theorem raw_hw {st : HS} {n i m : Nat} (I : I4 st i m) : HW (st.raw n) := ⟨I.w.nd, I.w.lt, I.w.hands, I.w.big, I.w.rl, cm_nd _ _ _, cm_lt I.p _, Nat.le_refl _⟩
theorem swp_hw {st : HS} {N k i m : Nat} (I : I4 st i m) : HW (st.swp (cm st.hands st.rows N) N k) :=
  ⟨I.w.nd.filter _, fun b hb => I.w.lt b (List.mem_filter.mp hb).1, I.w.hands, I.w.big, I.w.rl, cm_nd _ _ _, cm_lt I.p _, Nat.le_refl _⟩
theorem raw_pc {st : HS} {n i m : Nat} (I : I4 st i m) (h : n < (cm st.hands st.rows n).length) : PcW (st.raw n) := by
  refine ⟨fun _ => ?_, (fun z => nomatch z)⟩
  refine ⟨(cm st.hands st.rows n)[n], List.getElem?_eq_getElem h, ?_⟩
  show _ ∈ st.there
  rw [I.th]
  exact List.mem_range.mpr (cm_lt I.p n _ (List.getElem_mem h))
theorem swp_pc {st : HS} {N k i m : Nat} (I : I4 st i m) (h : k < st.rows.length) : PcW (st.swp (cm st.hands st.rows N) N k) := by
  refine ⟨(fun z => nomatch z), fun _ => ⟨k, swp_old I h, fun _ => ?_⟩⟩
  show k ∈ st.there.filter _
  rw [List.mem_filter]
  exact ⟨by rw [I.th]; exact List.mem_range.mpr h, by simp⟩
theorem idle_pc {st : HS} {i m : Nat} (I : I4 st i m) : PcW st := ⟨fun z => (by rw [I.sg] at z; cases z), fun z => (by rw [I.sg] at z; cases z)⟩
theorem idle_piece {st : HS} {i m : Nat} (I : I4 st i m) : st.piece = ((st.raw 0).settle, none) := by
  unfold HS.piece
  rw [I.sg]
  simp only
  rw [raw_begin I]
theorem raw_piece {st : HS} {n : Nat} (w : PW st.hands st.rows) : (st.raw n).piece = ((st.raw (n + 1)).settle, none) := by
  show ((st.raw n).lookAt.settle, none) = _
  rw [raw_look w]
/-- the numbers below n that are among these, rising -/
def among (n : Nat) (C : List Nat) : List Nat := (List.range n).filter fun x => decide (x ∈ C)
theorem among_perm {n : Nat} {C : List Nat} (hn : C.Nodup) (hl : ∀ b ∈ C, b < n) : (among n C).Perm C := by
  refine (List.perm_ext_iff_of_nodup (List.nodup_range.filter _) hn).mpr fun x => ?_
  rw [List.mem_filter, List.mem_range]
  exact ⟨fun h => of_decide_eq_true h.2, fun h => ⟨hl x h, decide_eq_true h⟩⟩
theorem among_sorted {n : Nat} {C : List Nat} : (among n C).Pairwise (· ≤ ·) := (List.pairwise_le_range (n := n)).filter _
theorem work1 (st : HS) : HS.work 1 st = (st.piece.1, st.piece.2.toList) := rfl
/-! No box that a hand can come to is freed: what holds between the pieces and the deeds. -/
/-- come to from a waiting box over boxes that are not marked -/
inductive Via (rw : Rw) (seen : List Nat) (lk bg : Nat) : Nat → Prop
  | of {y x : Nat} : y ∈ seen.drop lk → some x ∈ rowOf rw y → x < bg → x ∉ seen → Via rw seen lk bg x
  | st {y x : Nat} : Via rw seen lk bg y → some x ∈ rowOf rw y → x < bg → x ∉ seen → Via rw seen lk bg x
theorem Via.no {rw : Rw} {seen : List Nat} {lk bg x : Nat} (v : Via rw seen lk bg x) : x ∉ seen := by cases v <;> assumption
theorem via_step {rw rw' : Rw} {seen seen' : List Nat} {lk lk' bg : Nat} (hw : ∀ y, y ∈ seen.drop lk → y ∈ seen'.drop lk' ∨ ∀ x, some x ∈ rowOf rw y → x < bg → x ∈ seen') (hn : ∀ y, y ∈ seen' → y ∉ seen → y ∈ seen'.drop lk')
    (he : ∀ y x, some x ∈ rowOf rw y → x < bg → some x ∈ rowOf rw' y ∨ x ∈ seen' ∨ x ∈ seen) (hs : ∀ y, y ∈ seen → y ∈ seen') : ∀ {x}, Via rw seen lk bg x → x ∈ seen' ∨ Via rw' seen' lk' bg x := by
  intro x v
  induction v with
  | @of y x h1 h2 h3 h4 =>
    by_cases c : x ∈ seen'
    · exact .inl c
    · rcases hw y h1 with h | h
      · rcases he y x h2 h3 with e | e | e
        · exact .inr (.of h e h3 c)
        · exact absurd e c
        · exact absurd e h4
      · exact .inl (h x h2 h3)
  | @st y x v h2 h3 h4 ih =>
    by_cases c : x ∈ seen'
    · exact .inl c
    · rcases he y x h2 h3 with e | e | e
      · rcases ih with h | h
        · exact .inr (.of (hn y h v.no) e h3 c)
        · exact .inr (.st h e h3 c)
      · exact absurd e c
      · exact absurd e h4
/-- while it marks -/
structure JM (st : HS) (G : Nat → Prop) : Prop where
  sg : ∀ x ∈ st.seen, G x
  nw : ∀ x, st.begun ≤ x → x < st.rows.length → G x
  via : ∀ x, G x → x < st.begun → x ∈ st.seen ∨ Via st.rows st.seen st.looked st.begun x
  sp : st.swept = 0
  op : st.old.Pairwise (· < ·)
  ol : ∀ x ∈ st.old, x < st.begun ∧ x ∈ st.there
  ot : ∀ x ∈ st.there, x < st.begun → x ∈ st.old
/-- while it sweeps -/
structure JS (st : HS) (G : Nat → Prop) : Prop where
  lk : st.looked = st.seen.length
  sg : ∀ x ∈ st.seen, G x
  nw : ∀ x, st.begun ≤ x → x < st.rows.length → G x
  gs : ∀ x, G x → x < st.begun → x ∈ st.seen
  op : st.old.Pairwise (· < ·)
  ol : ∀ x ∈ st.old.drop st.swept, x < st.begun ∧ x ∈ st.there
structure JC (st : HS) (G : Nat → Prop) : Prop where
  w : HW st
  p : PW st.hands st.rows
  gh : ∀ b, some b ∈ st.hands → G b
  gr : ∀ x, G x → ∀ b, some b ∈ rowOf st.rows x → G b
  gt : ∀ x, G x → x ∈ st.there
  mm : st.stage = .marking → JM st G
  sw : st.stage = .sweeping → JS st G
  idl : st.stage = .idle → st.seen = [] ∧ st.looked = 0 ∧ st.swept = 0 ∧ st.old = [] ∧ st.begun = 0
/-- behind settling -/
structure J (st : HS) (G : Nat → Prop) : Prop extends JC st G where
  lm : st.stage = .marking → st.looked < st.seen.length
  ls : st.stage = .sweeping → st.swept < st.old.length
/-- ahead of settling -/
structure JU (st : HS) (G : Nat → Prop) : Prop extends JC st G where
  lm : st.stage = .marking → st.looked ≤ st.seen.length
  ls : st.stage = .sweeping → st.swept ≤ st.old.length
theorem JC.hb {st : HS} {G : Nat → Prop} (j : JC st G) : ∀ b, some b ∈ st.hands → b ∈ st.there := fun b h => j.gt b (j.gh b h)
theorem J.pc {st : HS} {G : Nat → Prop} (j : J st G) : PcW st := by
  refine ⟨fun h => ?_, fun h => ?_⟩
  · have m := j.mm h
    have l := j.lm h
    exact ⟨_, List.getElem?_eq_getElem l, j.gt _ (m.sg _ (List.getElem_mem l))⟩
  · have m := j.sw h
    have l := j.ls h
    refine ⟨_, List.getElem?_eq_getElem l, fun _ => (m.ol _ ?_).2⟩
    rw [List.drop_eq_getElem_cons l]
    exact List.mem_cons_self
theorem drop_pre {s s' : List Nat} {n : Nat} (h : s <+: s') {y : Nat} (hy : y ∈ s.drop n) : y ∈ s'.drop n := by
  obtain ⟨t, rfl⟩ := h
  by_cases c : n ≤ s.length
  · rw [List.drop_append_of_le_length c]
    exact List.mem_append_left _ hy
  · rw [List.drop_eq_nil_of_le (by omega)] at hy
    cases hy
theorem new_late {s s' : List Nat} {n : Nat} (h : s <+: s') (hn : n ≤ s.length) {y : Nat} (h1 : y ∈ s') (h2 : y ∉ s) : y ∈ s'.drop n := by
  obtain ⟨t, rfl⟩ := h
  rw [List.drop_append_of_le_length hn]
  rcases List.mem_append.mp h1 with e | e
  · exact absurd e h2
  · exact List.mem_append_right _ e
theorem mk_mem {s : List Nat} {o : Option Nat} {x : Nat} (h : x ∈ mk s o) : x ∈ s ∨ o = some x := by
  cases o with
  | none => exact .inl h
  | some b =>
    unfold Mp.mk at h
    simp only at h
    split at h
    · exact .inl h
    · rcases List.mem_append.mp h with e | e
      · exact .inl e
      · rw [List.mem_singleton.mp e]; exact .inr rfl
theorem mem_mk {s : List Nat} {b : Nat} : b ∈ mk s (some b) := by
  unfold Mp.mk
  simp only
  split
  · assumption
  · exact List.mem_append_right _ List.mem_cons_self
theorem mks_mem : ∀ {os : List (Option Nat)} {s : List Nat} {x : Nat}, x ∈ mks s os → x ∈ s ∨ some x ∈ os
  | [], _, _, h => .inl h
  | o :: os, s, x, h => by
    rcases mks_mem (os := os) (s := mk s o) h with e | e
    · rcases mk_mem e with e2 | e2
      · exact .inl e2
      · exact .inr (e2 ▸ List.mem_cons_self)
    · exact .inr (List.mem_cons_of_mem _ e)
theorem mem_mks : ∀ {os : List (Option Nat)} {s : List Nat} {x : Nat}, some x ∈ os → x ∈ mks s os
  | o :: os, s, x, h => by
    rcases List.mem_cons.mp h with e | e
    · subst e
      exact (mks_pre (mk s (some x)) os).subset mem_mk
    · exact mem_mks (os := os) (s := mk s o) e
/-- a mark, where what is marked is there, in the list of those that were there at the beginning, or new -/
theorem mark_eq {st : HS} {o : Option Nat} (h : ∀ b, o = some b → b < st.begun) : st.mark o = { st with seen := mk st.seen o } := by
  have := markAll_eq [o] st fun b hb => h b (List.mem_singleton.mp hb).symm
  exact this
/-- a slot's old value is marked, the slot is stored -/
theorem rowOf_set {rw : Rw} {b k : Nat} {o : Option Nat} (hb : b < rw.length) (y : Nat) : rowOf (rw.set b ((rowOf rw b).set k o)) y = if y = b then (rowOf rw b).set k o else rowOf rw y := by
  unfold rowOf
  by_cases c : y = b
  · subst c
    rw [if_pos rfl, List.getD_eq_getElem?_getD, List.getElem?_set_self hb]
    rfl
  · rw [if_neg c, List.getD_eq_getElem?_getD, List.getElem?_set_ne (fun z => c z.symm), ← List.getD_eq_getElem?_getD]
theorem mem_set_old {xs : List (Option Nat)} {k : Nat} {o : Option Nat} {x : Nat} (h : some x ∈ xs) : some x ∈ xs.set k o ∨ xs.getD k none = some x := by
  obtain ⟨i, hi, e⟩ := List.getElem_of_mem h
  by_cases c : k = i
  · subst c
    right
    rw [List.getD_eq_getElem?_getD, List.getElem?_eq_getElem hi, e]
    rfl
  · left
    refine List.mem_of_getElem? (i := i) ?_
    rw [List.getElem?_set_ne c, List.getElem?_eq_getElem hi, e]
theorem rowOf_app {rw : Rw} {r : List (Option Nat)} {y : Nat} : rowOf (rw ++ [r]) y = if y = rw.length then r else rowOf rw y := by
  unfold rowOf
  by_cases c : y = rw.length
  · subst c
    rw [if_pos rfl, List.getD_eq_getElem?_getD, List.getElem?_append_right (Nat.le_refl _), Nat.sub_self]
    rfl
  · rw [if_neg c, List.getD_eq_getElem?_getD, List.getD_eq_getElem?_getD]
    by_cases d : y < rw.length
    · rw [List.getElem?_append_left d]
    · rw [List.getElem?_append_right (by omega), List.getElem?_eq_none (l := [r]) (by show 1 ≤ _; omega), List.getElem?_eq_none (l := rw) (by omega)]
/-- the hands alone change -/
theorem JC.hands {st : HS} {G : Nat → Prop} (j : JC st G) {hs : Hs} (hl : hs.length = st.hands.length) (hg : ∀ b, some b ∈ hs → G b) : JC { st with hands := hs } G :=
  ⟨⟨j.w.nd, j.w.lt, by show hs.length ≤ 8; rw [hl]; exact j.w.hands, j.w.big, j.w.rl, j.w.sn, j.w.sl, j.w.bg⟩, ⟨fun b h => j.w.lt b (j.gt b (hg b h)), j.p.r, j.p.l⟩, hg, j.gr, j.gt,
    fun h => ⟨(j.mm h).sg, (j.mm h).nw, (j.mm h).via, (j.mm h).sp, (j.mm h).op, (j.mm h).ol, (j.mm h).ot⟩,
    fun h => ⟨(j.sw h).lk, (j.sw h).sg, (j.sw h).nw, (j.sw h).gs, (j.sw h).op, (j.sw h).ol⟩, j.idl⟩
theorem J.handsJ {st : HS} {G : Nat → Prop} (j : J st G) {hs : Hs} (hl : hs.length = st.hands.length) (hg : ∀ b, some b ∈ hs → G b) : J { st with hands := hs } G := ⟨j.toJC.hands hl hg, j.lm, j.ls⟩
theorem J.mark {st : HS} {G : Nat → Prop} (j : J st G) (hs : st.stage = .marking) {o : Option Nat} (ho : ∀ x, o = some x → G x) : J (st.mark o) G := by
  by_cases c : ∀ b, o = some b → b < st.begun
  · have hw := j.w.mark o
    rw [mark_eq c] at hw ⊢
    have m := j.mm hs
    have hp := mk_pre st.seen o
    refine ⟨⟨hw, j.p, j.gh, j.gr, j.gt, fun _ => ⟨fun x hx => ?_, m.nw, fun x gx hx => ?_, m.sp, m.op, m.ol, m.ot⟩, (fun h => by rw [show st.stage = _ from hs] at h; cases h), (fun h => by rw [show st.stage = _ from hs] at h; cases h)⟩, fun h => Nat.lt_of_lt_of_le (j.lm hs) hp.length_le, (fun h => by rw [show st.stage = _ from hs] at h; cases h)⟩
    · rcases mk_mem hx with e | e
      · exact m.sg x e
      · exact ho x e
    · rcases m.via x gx hx with e | e
      · exact .inl (hp.subset e)
      · exact via_step (fun y hy => .inl (drop_pre hp hy)) (fun y h1 h2 => new_late hp (Nat.le_of_lt (j.lm hs)) h1 h2) (fun y x e _ => .inl e) (fun y hy => hp.subset hy) e
  · have e : st.mark o = st := by
      cases o with
      | none => rfl
      | some b =>
        have hb : ¬ b < st.begun := fun z => c fun b' e => by cases e; exact z
        unfold HS.mark
        simp only
        rw [if_neg fun z => hb z.1]
    rw [e]
    exact j
theorem J.setSlot {st : HS} {G : Nat → Prop} (j : J st G) {b k : Nat} {o : Option Nat} (gb : G b) (ho : ∀ x, o = some x → G x) (hv : st.stage = .marking → ∀ x, (rowOf st.rows b).getD k none = some x → x < st.begun → x ∈ st.seen) : J (st.setSlot b k o) G := by
  have hb : b < st.rows.length := j.w.lt b (j.gt b gb)
  have hl : (st.rows.set b ((rowOf st.rows b).set k o)).length = st.rows.length := List.length_set
  have hrow : rowOf st.rows b ∈ st.rows := getD_mem hb
  refine ⟨⟨j.w.setSlot, ⟨fun x hx => ?_, fun r hr x hx => ?_, fun r hr => ?_⟩, j.gh, fun x gx c hc => ?_, j.gt, fun h => ?_, fun h => ?_, j.idl⟩, j.lm, j.ls⟩
  · show x < (st.rows.set b ((rowOf st.rows b).set k o)).length
    rw [hl]; exact j.p.h x hx
  · show x < (st.rows.set b ((rowOf st.rows b).set k o)).length
    rw [hl]
    rcases List.mem_or_eq_of_mem_set hr with h | h
    · exact j.p.r r h x hx
    · have hx' : some x ∈ (rowOf st.rows b).set k o := h ▸ hx
      rcases List.mem_or_eq_of_mem_set hx' with h2 | h2
      · exact j.p.r _ hrow x h2
      · exact j.w.lt x (j.gt x (ho x h2.symm))
  · rcases List.mem_or_eq_of_mem_set hr with h | h
    · exact j.p.l r h
    · have h' : r = (rowOf st.rows b).set k o := h
      rw [h', List.length_set]; exact j.p.l _ hrow
  · have hc' : some c ∈ rowOf (st.rows.set b ((rowOf st.rows b).set k o)) x := hc
    rw [rowOf_set hb] at hc'
    split at hc'
    · rcases List.mem_or_eq_of_mem_set hc' with h2 | h2
      · exact j.gr b gb c h2
      · exact ho c h2.symm
    · exact j.gr x gx c hc'
  · have m := j.mm h
    refine ⟨m.sg, fun x h1 h2 => m.nw x h1 (by have h2' : x < (st.rows.set b ((rowOf st.rows b).set k o)).length := h2; rw [hl] at h2'; exact h2'), fun x gx hx => ?_, m.sp, m.op, m.ol, m.ot⟩
    rcases m.via x gx hx with e | e
    · exact .inl e
    · refine via_step (fun y hy => .inl hy) (fun y h1 h2 => absurd h1 h2) (fun y x e hx => ?_) (fun y hy => hy) e
      show some x ∈ rowOf (st.rows.set b ((rowOf st.rows b).set k o)) y ∨ _
      rw [rowOf_set hb]
      split
      · rename_i c
        subst c
        rcases mem_set_old (k := k) (o := o) e with e2 | e2
        · exact .inl e2
        · exact .inr (.inr (hv h x e2 hx))
      · exact .inl e
  · have m := j.sw h
    exact ⟨m.lk, m.sg, fun x h1 h2 => m.nw x h1 (by have h2' : x < (st.rows.set b ((rowOf st.rows b).set k o)).length := h2; rw [hl] at h2'; exact h2'), m.gs, m.op, m.ol⟩
/-! What holds between the pieces and the deeds, kept by them. -/
theorem J.make {st : HS} {G : Nat → Prop} (j : J st G) {i k : Nat} (ok : (Deed.make i k).ok st.hands st.rows) (hbig : st.rows.length < 90000) : J (st.make i k) fun x => G x ∨ x = st.rows.length := by
  have hw : HW (st.make i k) := j.w.deed ok hbig
  have hp : PW (st.make i k).hands (st.make i k).rows := j.p.deed (d := .make i k) ok
  have hl : (st.rows ++ [List.replicate k (none : Option Nat)]).length = st.rows.length + 1 := by simp
  have hgl : ∀ x, G x → x < st.rows.length := fun x g => j.w.lt x (j.gt x g)
  have bg := j.w.bg
  refine ⟨⟨hw, hp, fun b hb => ?_, fun x gx c hc => ?_, fun x gx => ?_, fun h => ?_, fun h => ?_, j.idl⟩, j.lm, j.ls⟩
  · rcases List.mem_or_eq_of_mem_set hb with h | h
    · exact .inl (j.gh b h)
    · exact .inr (Option.some.inj h)
  · have hc' : some c ∈ rowOf (st.rows ++ [List.replicate k (none : Option Nat)]) x := hc
    rw [rowOf_app] at hc'
    split at hc'
    · have := (List.mem_replicate.mp hc').2
      cases this
    · rcases gx with g | g
      · exact .inl (j.gr x g c hc')
      · contradiction
  · show x ∈ st.there ++ [st.rows.length]
    rcases gx with g | g
    · exact List.mem_append_left _ (j.gt x g)
    · rw [g]; exact List.mem_append_right _ List.mem_cons_self
  · have m := j.mm h
    refine ⟨fun x hx => .inl (m.sg x hx), fun x h1 h2 => ?_, fun x gx hx => ?_, m.sp, m.op, fun x hx => ⟨(m.ol x hx).1, List.mem_append_left _ (m.ol x hx).2⟩, fun x hx h2 => ?_⟩
    · have h2' : x < (st.rows ++ [List.replicate k (none : Option Nat)]).length := h2
      rw [hl] at h2'
      by_cases c : x = st.rows.length
      · exact .inr c
      · exact .inl (m.nw x h1 (by omega))
    · have hx' : x < st.begun := hx
      rcases gx with g | g
      · rcases m.via x g hx with e | e
        · exact .inl e
        · refine via_step (fun y hy => .inl hy) (fun y h1 h2 => absurd h1 h2) (fun y x e hx => ?_) (fun y hy => hy) e
          show some x ∈ rowOf (st.rows ++ [List.replicate k (none : Option Nat)]) y ∨ _
          rw [rowOf_app]
          split
          · rename_i c
            subst c
            unfold rowOf at e
            rw [List.getD_eq_getElem?_getD, List.getElem?_eq_none (Nat.le_refl _)] at e
            cases e
          · exact .inl e
      · omega
    · have hx' : x ∈ st.there ++ [st.rows.length] := hx
      have h2' : x < st.begun := h2
      rcases List.mem_append.mp hx' with e | e
      · exact m.ot x e h2
      · have := List.mem_singleton.mp e
        omega
  · have m := j.sw h
    refine ⟨m.lk, fun x hx => .inl (m.sg x hx), fun x h1 h2 => ?_, fun x gx hx => ?_, m.op, fun x hx => ⟨(m.ol x hx).1, List.mem_append_left _ (m.ol x hx).2⟩⟩
    · have h2' : x < (st.rows ++ [List.replicate k (none : Option Nat)]).length := h2
      rw [hl] at h2'
      by_cases c : x = st.rows.length
      · exact .inr c
      · exact .inl (m.nw x h1 (by omega))
    · have hx' : x < st.begun := hx
      rcases gx with g | g
      · exact m.gs x g hx
      · omega
theorem J.deed2 {st : HS} {G : Nat → Prop} (j : J st G) {d : Deed} (ok : d.ok st.hands st.rows) (hbig : st.rows.length < 90000) : ∃ G', J (st.deed d) G' ∧ ∀ x, x < st.begun → (G' x ↔ G x) := by
  have hgd : ∀ {i c : Nat}, st.hands.getD i none = some c → G c := fun {i c} e => by
    by_cases hi : i < st.hands.length
    · exact j.gh c (e ▸ getD_mem hi)
    · rw [List.getD_eq_getElem?_getD, List.getElem?_eq_none (by omega)] at e; cases e
  have hsl : ∀ {b k c : Nat}, G b → (rowOf st.rows b).getD k none = some c → G c := fun {b k c} gb e => by
    by_cases hk : k < (rowOf st.rows b).length
    · exact j.gr b gb c (e ▸ getD_mem hk)
    · rw [List.getD_eq_getElem?_getD, List.getElem?_eq_none (by omega)] at e; cases e
  have hset : ∀ {i : Nat} {o : Option Nat}, (∀ b, o = some b → G b) → ∀ b, some b ∈ st.hands.set i o → G b := fun ho b hb => by
    rcases List.mem_or_eq_of_mem_set hb with h | h
    · exact j.gh b h
    · exact ho b h.symm
  cases d with
  | make i k => exact ⟨_, j.make ok hbig, fun x hx => ⟨fun h => h.elim id fun e => (by have := j.w.bg; omega), .inl⟩⟩
  | take i jj k => exact ⟨G, j.handsJ (hs := st.hands.set i ((st.rowAt (boxOf st.hands jj)).getD k none)) List.length_set (hset fun b e => hsl (hgd ok.2.2.1) e), fun _ _ => Iff.rfl⟩
  | share i jj => exact ⟨G, j.handsJ (hs := st.hands.set i (st.hands.getD jj none)) List.length_set (hset fun b e => hgd e), fun _ _ => Iff.rfl⟩
  | drop i => exact ⟨G, j.handsJ (hs := st.hands.set i none) List.length_set (hset fun b e => by cases e), fun _ _ => Iff.rfl⟩
  | put i k jj =>
    refine ⟨G, ?_, fun _ _ => Iff.rfl⟩
    have gb : G (boxOf st.hands i) := hgd ok.2.2.1
    show J (st.put (boxOf st.hands i) k (st.hands.getD jj none)) G
    unfold HS.put
    by_cases hs : st.stage = .marking
    · rw [if_pos hs]
      have jm := j.mark hs (o := (st.rowAt (boxOf st.hands i)).getD k none) fun x e => hsl gb e
      refine jm.setSlot gb (fun x e => hgd e) fun _ x e hx => ?_
      have e' : (rowOf st.rows (boxOf st.hands i)).getD k none = some x := by
        rw [← e]
        show _ = (rowOf (st.mark _).rows (boxOf st.hands i)).getD k none
        rw [HS.mark_rows]
      have hx' : x < st.begun := by
        have eb : ∀ o, (st.mark o).begun = st.begun := fun o => by
          unfold HS.mark
          cases o with
          | none => rfl
          | some b => simp only; split <;> rfl
        rw [eb] at hx
        exact hx
      show x ∈ (st.mark ((rowOf st.rows (boxOf st.hands i)).getD k none)).seen
      rw [e', mark_eq fun b e => by cases e; exact hx']
      exact mem_mk
    · rw [if_neg hs]
      exact j.setSlot gb (fun x e => hgd e) fun h => absurd h hs
theorem J.deed {st : HS} {G : Nat → Prop} (j : J st G) {d : Deed} (ok : d.ok st.hands st.rows) (hbig : st.rows.length < 90000) : ∃ G', J (st.deed d) G' := (j.deed2 ok hbig).elim fun G' h => ⟨G', h.1⟩
/-! ### pieces -/
def fil (bg : Nat) (os : List (Option Nat)) : List (Option Nat) := os.filter fun o => match o with
  | none => false
  | some b => decide (b < bg)
theorem mem_fil {bg x : Nat} {os : List (Option Nat)} : some x ∈ fil bg os ↔ some x ∈ os ∧ x < bg := by
  unfold fil
  rw [List.mem_filter]
  simp
theorem markAll_fil : ∀ (os : List (Option Nat)) (st : HS), st.markAll os = { st with seen := mks st.seen (fil st.begun os) }
  | [], _ => rfl
  | o :: os, st => by
    show (st.mark o).markAll os = _
    rw [markAll_fil os]
    cases o with
    | none => rfl
    | some b =>
      by_cases c : b < st.begun
      · rw [mark_eq fun b' e => by cases e; exact c]
        unfold fil
        rw [List.filter_cons_of_pos (by simpa using c)]
        rfl
      · have e : st.mark (some b) = st := by
          unfold HS.mark
          simp only
          rw [if_neg fun z => c z.1]
        rw [e]
        unfold fil
        rw [List.filter_cons_of_neg (by simpa using c)]
/-- what a hand can come to -/
inductive Rch (hs : Hs) (rw : Rw) : Nat → Prop
  | of {x : Nat} : some x ∈ hs → Rch hs rw x
  | st {y x : Nat} : Rch hs rw y → some x ∈ rowOf rw y → Rch hs rw x
theorem J.begin_ {st : HS} {G : Nat → Prop} (j : J st G) (hs : st.stage = .idle) : JU st.begin_ (Rch st.hands st.rows) := by
  obtain ⟨i1, i2, i3, i4, i5⟩ := j.idl hs
  have sub : ∀ x, Rch st.hands st.rows x → G x := fun x r => by
    induction r with
    | of h => exact j.gh _ h
    | st _ h ih => exact j.gr _ ih _ h
  have gl : ∀ x, Rch st.hands st.rows x → x < st.rows.length := fun x r => j.w.lt x (j.gt x (sub x r))
  have e : st.begin_ = { st with old := st.there, begun := st.rows.length, stage := .marking, seen := mks [] (fil st.rows.length st.hands), looked := 0 } := by
    unfold HS.begin_
    rw [markAll_fil]
    simp only [i1, i2]
  rw [e]
  have hsg : ∀ x ∈ mks [] (fil st.rows.length st.hands), some x ∈ st.hands ∧ x < st.rows.length := fun x hx => by
    rcases mks_mem hx with h | h
    · cases h
    · exact mem_fil.mp h
  refine ⟨⟨⟨j.w.nd, j.w.lt, j.w.hands, j.w.big, j.w.rl, mks_nd List.nodup_nil _, fun b hb => (hsg b hb).2, Nat.le_refl _⟩, j.p, fun b h => .of h, fun x r b h => .st r h, fun x r => j.gt x (sub x r), fun _ => ⟨fun x hx => .of (hsg x hx).1, fun x h1 h2 => ?_, fun x r hx => ?_, i3, j.w.nd, fun x hx => ⟨j.w.lt x hx, hx⟩, fun x hx _ => hx⟩, (fun h => by cases h), (fun h => by cases h)⟩, fun _ => Nat.zero_le _, (fun h => by cases h)⟩
  · have h1' : st.rows.length ≤ x := h1
    have h2' : x < st.rows.length := h2
    omega
  · clear hx
    show x ∈ mks [] (fil st.rows.length st.hands) ∨ Via st.rows (mks [] (fil st.rows.length st.hands)) 0 st.rows.length x
    have hx := gl x r
    induction r with
    | of h => exact .inl (mem_mks (mem_fil.mpr ⟨h, hx⟩))
    | @st y x r h ih =>
      by_cases c : x ∈ mks [] (fil st.rows.length st.hands)
      · exact .inl c
      · rcases ih (gl y r) with h1 | h1
        · exact .inr (.of (by rw [List.drop_zero]; exact h1) h hx c)
        · exact .inr (.st h1 h hx c)
theorem J.look {st : HS} {G : Nat → Prop} (j : J st G) (hs : st.stage = .marking) : JU st.lookAt G := by
  have m := j.mm hs
  have l := j.lm hs
  have hg : st.seen.getD st.looked 0 = st.seen[st.looked] := by rw [List.getD_eq_getElem?_getD, List.getElem?_eq_getElem l]; rfl
  have gw : G st.seen[st.looked] := m.sg _ (List.getElem_mem l)
  have e : st.lookAt = { st with looked := st.looked + 1, seen := mks st.seen (fil st.begun (rowOf st.rows st.seen[st.looked])) } := by
    unfold HS.lookAt
    rw [markAll_fil, hg]
    rfl
  have hw : HW st.lookAt := by
    unfold HS.lookAt
    exact (HW.mk j.w.nd j.w.lt j.w.hands j.w.big j.w.rl j.w.sn j.w.sl j.w.bg : HW { st with looked := st.looked + 1 }).markAll _
  rw [e] at hw ⊢
  have hp := mks_pre st.seen (fil st.begun (rowOf st.rows st.seen[st.looked]))
  refine ⟨⟨hw, j.p, j.gh, j.gr, j.gt, fun _ => ⟨fun x hx => ?_, m.nw, fun x gx hx => ?_, m.sp, m.op, m.ol, m.ot⟩, (fun h => by rw [show st.stage = _ from hs] at h; cases h), (fun h => by rw [show st.stage = _ from hs] at h; cases h)⟩, fun _ => Nat.le_trans l hp.length_le, (fun h => by rw [show st.stage = _ from hs] at h; cases h)⟩
  · rcases mks_mem hx with h | h
    · exact m.sg x h
    · exact j.gr _ gw x (mem_fil.mp h).1
  · rcases m.via x gx hx with h | h
    · exact .inl (hp.subset h)
    · refine via_step (fun y hy => ?_) (fun y h1 h2 => new_late hp l h1 h2) (fun y x e _ => .inl e) (fun y hy => hp.subset hy) h
      rw [List.drop_eq_getElem_cons l] at hy
      rcases List.mem_cons.mp hy with h | h
      · subst h
        exact .inr fun x hx hb => mem_mks (mem_fil.mpr ⟨hx, hb⟩)
      · exact .inl (drop_pre hp h)
theorem J.sweep {st : HS} {G : Nat → Prop} (j : J st G) (hs : st.stage = .sweeping) : JU st.sweep.1 G := by
  have m := j.sw hs
  have l := j.ls hs
  have hg : st.old.getD st.swept 0 = st.old[st.swept] := by rw [List.getD_eq_getElem?_getD, List.getElem?_eq_getElem l]; rfl
  have hob := (m.ol st.old[st.swept] (by rw [List.drop_eq_getElem_cons l]; exact List.mem_cons_self)).1
  have hne : ∀ x ∈ st.old.drop (st.swept + 1), st.old[st.swept] < x ∧ x ∈ st.old.drop st.swept := fun x hx => by
    have hpd : (st.old.drop st.swept).Pairwise (· < ·) := m.op.sublist (List.drop_sublist _ _)
    rw [List.drop_eq_getElem_cons l] at hpd ⊢
    exact ⟨(List.pairwise_cons.mp hpd).1 x hx, List.mem_cons_of_mem _ hx⟩
  unfold HS.sweep
  rw [hg]
  by_cases c : st.old[st.swept] ∈ st.seen
  · rw [if_pos c]
    exact ⟨⟨⟨j.w.nd, j.w.lt, j.w.hands, j.w.big, j.w.rl, j.w.sn, j.w.sl, j.w.bg⟩, j.p, j.gh, j.gr, j.gt, (fun h => by rw [show st.stage = _ from hs] at h; cases h), fun _ => ⟨m.lk, m.sg, m.nw, m.gs, m.op, fun x hx => m.ol x (hne x hx).2⟩, (fun h => by rw [show st.stage = _ from hs] at h; cases h)⟩, (fun h => by rw [show st.stage = _ from hs] at h; cases h), fun _ => l⟩
  · rw [if_neg c]
    have hgn : ¬ G st.old[st.swept] := fun g => c (m.gs _ g hob)
    have hmem : ∀ x, x ∈ st.there → x ≠ st.old[st.swept] → x ∈ st.there.filter fun x => decide (x ≠ st.old[st.swept]) := fun x h1 h2 => List.mem_filter.mpr ⟨h1, decide_eq_true h2⟩
    refine ⟨⟨⟨j.w.nd.filter _, fun b hb => j.w.lt b (List.mem_filter.mp hb).1, j.w.hands, j.w.big, j.w.rl, j.w.sn, j.w.sl, j.w.bg⟩, j.p, j.gh, j.gr, fun x gx => hmem x (j.gt x gx) fun z => hgn (z ▸ gx), (fun h => by rw [show st.stage = _ from hs] at h; cases h), fun _ => ⟨m.lk, m.sg, m.nw, m.gs, m.op, fun x hx => ?_⟩, (fun h => by rw [show st.stage = _ from hs] at h; cases h)⟩, (fun h => by rw [show st.stage = _ from hs] at h; cases h), fun _ => l⟩
    obtain ⟨h1, h2⟩ := hne x hx
    exact ⟨(m.ol x h2).1, hmem x (m.ol x h2).2 (by omega)⟩
theorem via_none {rw : Rw} {seen : List Nat} {lk bg x : Nat} (h : seen.drop lk = []) (v : Via rw seen lk bg x) : False := by
  induction v with
  | of h1 => rw [h] at h1; cases h1
  | st _ _ _ _ ih => exact ih
theorem JU.settle1 {st : HS} {G : Nat → Prop} (j : JU st G) : JU st.settle1 G ∧ (st.settle1.stage = .marking → st.settle1.looked < st.settle1.seen.length) := by
  unfold HS.settle1
  by_cases c : st.stage = .marking ∧ st.looked = st.seen.length
  · rw [if_pos c]
    have m := j.mm c.1
    refine ⟨⟨⟨⟨j.w.nd, j.w.lt, j.w.hands, j.w.big, j.w.rl, j.w.sn, j.w.sl, j.w.bg⟩, j.p, j.gh, j.gr, j.gt, (fun h => by cases h), fun _ => ⟨c.2, m.sg, m.nw, fun x gx hx => ?_, m.op, fun x hx => ?_⟩, (fun h => by cases h)⟩, (fun h => by cases h), fun _ => ?_⟩, fun h => by cases h⟩
    · rcases m.via x gx hx with h | h
      · exact h
      · exact (via_none (List.drop_eq_nil_of_le (by omega)) h).elim
    · exact m.ol x (List.mem_of_mem_drop hx)
    · show st.swept ≤ st.old.length
      rw [m.sp]; exact Nat.zero_le _
  · rw [if_neg c]
    refine ⟨j, fun h => ?_⟩
    have := j.lm h
    have : ¬ st.looked = st.seen.length := fun z => c ⟨h, z⟩
    omega
theorem JU.settle {st : HS} {G : Nat → Prop} (j : JU st G) : J st.settle G := by
  obtain ⟨j1, l1⟩ := j.settle1
  unfold HS.settle
  generalize st.settle1 = s at j1 l1 ⊢
  unfold HS.settle2
  by_cases c : s.stage = .sweeping ∧ s.swept = s.old.length
  · rw [if_pos c]
    exact ⟨⟨⟨j1.w.nd, j1.w.lt, j1.w.hands, j1.w.big, j1.w.rl, List.nodup_nil, (fun _ h => absurd h List.not_mem_nil), Nat.zero_le _⟩, j1.p, j1.gh, j1.gr, j1.gt, (fun h => by cases h), (fun h => by cases h), fun _ => ⟨rfl, rfl, rfl, rfl, rfl⟩⟩, (fun h => by cases h), (fun h => by cases h)⟩
  · rw [if_neg c]
    refine ⟨j1.toJC, l1, fun h => ?_⟩
    have := j1.ls h
    have : ¬ s.swept = s.old.length := fun z => c ⟨h, z⟩
    omega
theorem J.piece {st : HS} {G : Nat → Prop} (j : J st G) : ∃ G', J st.piece.1 G' := by
  unfold HS.piece
  cases e : st.stage with
  | idle => exact ⟨_, (j.begin_ e).settle⟩
  | marking => exact ⟨_, (j.look e).settle⟩
  | sweeping => exact ⟨_, (j.sweep e).settle⟩
theorem J.work {st : HS} {G : Nat → Prop} (j : J st G) : ∀ n, ∃ G', J (HS.work n st).1 G'
  | 0 => ⟨G, j⟩
  | n + 1 => by
    obtain ⟨G', h⟩ := J.work j n
    exact h.piece
/-! What a round still has to do: its plan. -/
/-- what is come to, by steps and by going along -/
theorem lev_rch {hs : Hs} {rw : Rw} : ∀ {n : Nat}, (∀ j, j < n → j < (cm hs rw j).length) → ∀ x ∈ cm hs rw n, Rch hs rw x
  | 0, _, x, hx => by
    rcases mks_mem (s := []) hx with h | h
    · cases h
    · exact .of h
  | n + 1, h, x, hx => by
    have ih := lev_rch (hs := hs) (rw := rw) (n := n) fun j hj => h j (by omega)
    rcases mks_mem (s := cm hs rw n) hx with e | e
    · exact ih x e
    · have hn := h n (by omega)
      have e' : some x ∈ rowOf rw ((cm hs rw n).getD n 0) := e
      rw [List.getD_eq_getElem?_getD, List.getElem?_eq_getElem hn] at e'
      exact .st (ih _ (List.getElem_mem hn)) e'
theorem cm_rch {hs : Hs} {rw : Rw} {N : Nat} (h1 : ∀ n, n < N → n < (cm hs rw n).length) (h2 : N = (cm hs rw N).length) (x : Nat) : x ∈ cm hs rw N ↔ Rch hs rw x := by
  refine ⟨lev_rch h1 x, fun r => ?_⟩
  induction r with
  | of h =>
    have hp := lev_pre rw (mks [] hs) 0 N
    rw [Nat.zero_add] at hp
    exact hp.subset (mem_mks h)
  | @st y x r h ih =>
    obtain ⟨i, hi, e⟩ := List.getElem_of_mem ih
    have hiN : i < N := by omega
    have hil := h1 i hiN
    obtain ⟨k, rfl⟩ : ∃ k, N = i + k := ⟨N - i, by omega⟩
    have hp := lev_pre rw (mks [] hs) i k
    have e1 : (cm hs rw i)[i]? = some y := by
      have := hp.getElem hil
      rw [List.getElem?_eq_getElem hil, this]
      exact congrArg some e
    have e2 : (cm hs rw i).getD i 0 = y := by rw [List.getD_eq_getElem?_getD, e1]; rfl
    have hx : x ∈ cm hs rw (i + 1) := by
      show x ∈ mks (cm hs rw i) (rowOf rw ((cm hs rw i).getD i 0))
      rw [e2]
      exact mem_mks h
    obtain ⟨k', rfl⟩ : ∃ k', k = 1 + k' := ⟨k - 1, by omega⟩
    have hp2 := lev_pre rw (mks [] hs) (i + 1) k'
    rw [Nat.add_assoc] at hp2
    exact hp2.subset hx
theorem nodup_sub : ∀ {xs ys : List Nat}, xs.Nodup → (∀ x ∈ xs, x ∈ ys) → xs.length ≤ ys.length
  | [], _, _, _ => Nat.zero_le _
  | x :: xs, ys, nd, h => by
    have hm := h x List.mem_cons_self
    have ih := nodup_sub (xs := xs) (ys := ys.erase x) (List.nodup_cons.mp nd).2 fun y hy => by
      have hne : y ≠ x := fun z => (List.nodup_cons.mp nd).1 (z ▸ hy)
      exact (List.mem_erase_of_ne hne).mpr (h y (List.mem_cons_of_mem _ hy))
    rw [List.length_erase_of_mem hm] at ih
    have : 0 < ys.length := List.length_pos_of_mem hm
    show xs.length + 1 ≤ ys.length
    omega
/-- what comes of a box -/
abbrev Step := Option (Nat × Bool)
def fate (C : List Nat) (b : Nat) : Step := some (b, !decide (b ∈ C))
structure PL (st : HS) (G : Nat → Prop) (C : List Nat) (pl : List Step) : Prop where
  i : st.stage = .idle → pl = []
  nd : C.Nodup
  c : st.stage ≠ .idle → ∀ x, x ∈ C ↔ G x ∧ x < st.begun
  m : st.stage = .marking → pl = List.replicate (C.length - st.looked) none ++ st.old.map (fate C)
  s : st.stage = .sweeping → pl = (st.old.drop st.swept).map (fate C)
theorem JC.seen_sub {st : HS} {G : Nat → Prop} {C : List Nat} {pl : List Step} (j : JC st G) (p : PL st G C pl) (h : st.stage = .marking) : st.seen.length ≤ C.length :=
  nodup_sub j.w.sn fun x hx => (p.c (by rw [h]; decide) x).mpr ⟨(j.mm h).sg x hx, j.w.sl x hx⟩
theorem J.pl_nil {st : HS} {G : Nat → Prop} {C : List Nat} {pl : List Step} (j : J st G) (p : PL st G C pl) : pl = [] ↔ st.stage = .idle := by
  refine ⟨fun h => ?_, p.i⟩
  cases e : st.stage with
  | idle => rfl
  | marking =>
    have h1 := j.lm e
    have h2 := j.toJC.seen_sub p e
    have h3 := congrArg List.length ((p.m e).symm.trans h)
    rw [List.length_append, List.length_replicate] at h3
    simp at h3
    omega
  | sweeping =>
    have h1 := j.ls e
    have h3 := congrArg List.length ((p.s e).symm.trans h)
    simp at h3
    omega
theorem settle_fields (st : HS) : st.settle.hands = st.hands ∧ st.settle.rows = st.rows ∧ st.settle.room = st.room ∧ st.settle.there = st.there := by
  unfold HS.settle HS.settle1 HS.settle2
  split <;> split <;> exact ⟨rfl, rfl, rfl, rfl⟩
theorem JU.pl_settle {st : HS} {G : Nat → Prop} {C : List Nat} {pl : List Step} (j : JU st G) (p : PL st G C pl) (hs : st.stage ≠ .idle) : PL st.settle G C pl ∧ st.settle.ended = st.ended + (if pl = [] then 1 else 0) := by
  have key : ∀ s : HS, s.stage ≠ .idle → PL s G C pl → JU s G → (s.stage = .marking → pl ≠ []) → PL s.settle2 G C pl ∧ s.settle2.ended = s.ended + (if pl = [] then 1 else 0) := fun s h p j hm => by
    unfold HS.settle2
    by_cases c : s.stage = .sweeping ∧ s.swept = s.old.length
    · rw [if_pos c]
      have e : pl = [] := by rw [p.s c.1, c.2, List.drop_length]; rfl
      rw [if_pos e]
      exact ⟨⟨fun _ => e, p.nd, (fun z => absurd rfl z), (fun z => by cases z), (fun z => by cases z)⟩, rfl⟩
    · rw [if_neg c]
      have e : pl ≠ [] := by
        cases e : s.stage with
        | idle => exact absurd e h
        | marking => exact hm e
        | sweeping =>
          intro z
          have h3 := congrArg List.length ((p.s e).symm.trans z)
          have h4 := j.ls e
          simp at h3
          exact c ⟨e, by omega⟩
      rw [if_neg e]
      exact ⟨p, rfl⟩
  unfold HS.settle
  have j1 := j.settle1.1
  have l1 := j.settle1.2
  unfold HS.settle1 at j1 l1 ⊢
  by_cases c : st.stage = .marking ∧ st.looked = st.seen.length
  · rw [if_pos c] at j1 l1 ⊢
    have m := j.mm c.1
    have cl : C.length = st.looked := by
      have h1 := j.toJC.seen_sub p c.1
      have h2 : C.length ≤ st.seen.length := nodup_sub p.nd fun x hx => by
        obtain ⟨g, hb⟩ := (p.c hs x).mp hx
        rcases m.via x g hb with h | h
        · exact h
        · exact (via_none (List.drop_eq_nil_of_le (by omega)) h).elim
      omega
    refine key _ (by show Stg.sweeping ≠ .idle; decide) ⟨(fun z => by cases z), p.nd, fun _ => p.c hs, (fun z => by cases z), fun _ => ?_⟩ j1 (fun z => by cases z)
    show pl = (st.old.drop st.swept).map (fate C)
    rw [p.m c.1, m.sp, cl, Nat.sub_self]
    rfl
  · rw [if_neg c] at j1 l1 ⊢
    refine key st hs p j fun e z => ?_
    have h1 := l1 e
    have h2 := j.toJC.seen_sub p e
    have h3 := congrArg List.length ((p.m e).symm.trans z)
    rw [List.length_append, List.length_replicate] at h3
    simp at h3
    omega
/-- behind a piece -/
theorem J.piece_idle {st : HS} {G : Nat → Prop} (j : J st G) (hs : st.stage = .idle) {C : List Nat} (nd : C.Nodup) (hC : ∀ x, x ∈ C ↔ Rch st.hands st.rows x) :
    J st.piece.1 (Rch st.hands st.rows) ∧ PL st.piece.1 (Rch st.hands st.rows) C (List.replicate C.length none ++ st.there.map (fate C)) ∧ st.piece.1.ended = st.ended + (if List.replicate C.length none ++ st.there.map (fate C) = [] then 1 else 0) ∧ st.piece.2 = none ∧ st.piece.1.there = st.there := by
  have e : st.piece = (st.begin_.settle, none) := by unfold HS.piece; rw [hs]
  have ju := j.begin_ hs
  have gl : ∀ x, Rch st.hands st.rows x → x < st.rows.length := fun x r => by
    have := ju.toJC.w.lt x (ju.gt x r)
    have e2 : st.begin_.rows = st.rows := by unfold HS.begin_; rw [markAll_fil]
    rwa [e2] at this
  have es : st.begin_.stage = .marking ∧ st.begin_.begun = st.rows.length ∧ st.begin_.looked = st.looked ∧ st.begin_.old = st.there ∧ st.begin_.ended = st.ended ∧ st.begin_.there = st.there := by
    unfold HS.begin_; rw [markAll_fil]; exact ⟨rfl, rfl, rfl, rfl, rfl, rfl⟩
  obtain ⟨e1, e2, e3, e4, e5, e6⟩ := es
  obtain ⟨_, lk, _⟩ := j.idl hs
  have p : PL st.begin_ (Rch st.hands st.rows) C (List.replicate C.length none ++ st.there.map (fate C)) := by
    refine ⟨(fun z => by rw [e1] at z; cases z), nd, fun _ x => ?_, fun _ => ?_, (fun z => by rw [e1] at z; cases z)⟩
    · rw [hC, e2]
      exact ⟨fun r => ⟨r, gl x r⟩, fun r => r.1⟩
    · rw [e3, lk, e4, Nat.sub_zero]
  obtain ⟨p2, en⟩ := ju.pl_settle p (by rw [e1]; decide)
  rw [e]
  exact ⟨ju.settle, p2, by rw [en, e5], rfl, by rw [(settle_fields _).2.2.2, e6]⟩
theorem fate_drop {C old : List Nat} {n : Nat} (h : n < old.length) : (old.drop n).map (fate C) = fate C old[n] :: (old.drop (n + 1)).map (fate C) := by rw [List.drop_eq_getElem_cons h]; rfl
/-- what a step frees -/
def Step.freed : Step → Option Nat
  | some (b, true) => some b
  | _ => none
def thereOff (t : List Nat) : Option Nat → List Nat
  | none => t
  | some b => t.filter fun x => decide (x ≠ b)
theorem J.piece_on {st : HS} {G : Nat → Prop} {C : List Nat} {pl : List Step} (j : J st G) (p : PL st G C pl) (hs : st.stage ≠ .idle) :
    ∃ s pl', pl = s :: pl' ∧ J st.piece.1 G ∧ PL st.piece.1 G C pl' ∧ st.piece.1.ended = st.ended + (if pl' = [] then 1 else 0) ∧ st.piece.2 = s.freed ∧ st.piece.1.there = thereOff st.there s.freed := by
  cases e : st.stage with
  | idle => exact absurd e hs
  | marking =>
    have ep : st.piece = (st.lookAt.settle, none) := by unfold HS.piece; rw [e]
    have ju := j.look e
    have h1 := j.lm e
    have h2 := j.toJC.seen_sub p e
    have hm := p.m e
    obtain ⟨k, hk⟩ : ∃ k, C.length - st.looked = k + 1 := ⟨C.length - st.looked - 1, by omega⟩
    rw [hk, List.replicate_succ, List.cons_append] at hm
    have es : st.lookAt.stage = st.stage ∧ st.lookAt.begun = st.begun ∧ st.lookAt.looked = st.looked + 1 ∧ st.lookAt.old = st.old ∧ st.lookAt.ended = st.ended ∧ st.lookAt.there = st.there := by
      unfold HS.lookAt; rw [markAll_fil]; exact ⟨rfl, rfl, rfl, rfl, rfl, rfl⟩
    obtain ⟨e1, e2, e3, e4, e5, e6⟩ := es
    have p2 : PL st.lookAt G C (List.replicate k none ++ st.old.map (fate C)) := by
      refine ⟨(fun z => by rw [e1, e] at z; cases z), p.nd, fun _ => by rw [e2]; exact p.c hs, fun _ => ?_, (fun z => by rw [e1, e] at z; cases z)⟩
      rw [e3, e4]
      congr 2
      omega
    obtain ⟨p3, en⟩ := ju.pl_settle p2 (by rw [e1]; exact hs)
    refine ⟨none, _, hm, ?_⟩
    rw [ep]
    exact ⟨ju.settle, p3, by rw [en, e5], rfl, by rw [(settle_fields _).2.2.2, e6]; rfl⟩
  | sweeping =>
    have ep : st.piece = (st.sweep.1.settle, st.sweep.2) := by unfold HS.piece; rw [e]
    have ju := j.sweep e
    have h1 := j.ls e
    have hg : st.old.getD st.swept 0 = st.old[st.swept] := by rw [List.getD_eq_getElem?_getD, List.getElem?_eq_getElem h1]; rfl
    have m := j.sw e
    have hb := (m.ol st.old[st.swept] (by rw [List.drop_eq_getElem_cons h1]; exact List.mem_cons_self)).1
    have hcs : st.old[st.swept] ∈ C ↔ st.old[st.swept] ∈ st.seen := by
      rw [p.c hs]
      exact ⟨fun g => m.gs _ g.1 hb, fun h => ⟨m.sg _ h, hb⟩⟩
    have hp := p.s e
    rw [fate_drop h1] at hp
    have es : st.sweep.1.stage = st.stage ∧ st.sweep.1.begun = st.begun ∧ st.sweep.1.swept = st.swept + 1 ∧ st.sweep.1.old = st.old ∧ st.sweep.1.ended = st.ended ∧ st.sweep.1.there = thereOff st.there (fate C st.old[st.swept]).freed ∧ st.sweep.2 = (fate C st.old[st.swept]).freed := by
      unfold HS.sweep
      rw [hg]
      by_cases c : st.old[st.swept] ∈ st.seen
      · rw [if_pos c]
        have : (fate C st.old[st.swept]).freed = none := by unfold fate; rw [decide_eq_true (hcs.mpr c)]; rfl
        rw [this]
        exact ⟨rfl, rfl, rfl, rfl, rfl, rfl, rfl⟩
      · rw [if_neg c]
        have : (fate C st.old[st.swept]).freed = some st.old[st.swept] := by unfold fate; rw [decide_eq_false fun z => c (hcs.mp z)]; rfl
        rw [this]
        exact ⟨rfl, rfl, rfl, rfl, rfl, rfl, rfl⟩
    obtain ⟨e1, e2, e3, e4, e5, e6, e7⟩ := es
    have p2 : PL st.sweep.1 G C ((st.old.drop (st.swept + 1)).map (fate C)) := by
      refine ⟨(fun z => by rw [e1, e] at z; cases z), p.nd, fun _ => by rw [e2]; exact p.c hs, (fun z => by rw [e1, e] at z; cases z), fun _ => by rw [e3, e4]⟩
    obtain ⟨p3, en⟩ := ju.pl_settle p2 (by rw [e1]; exact hs)
    refine ⟨_, _, hp, ?_⟩
    rw [ep]
    exact ⟨ju.settle, p3, by rw [en, e5], e7, by rw [(settle_fields _).2.2.2, e6]⟩
/-- under a deed -/
theorem mark_same (st : HS) (o : Option Nat) : (st.mark o).stage = st.stage ∧ (st.mark o).old = st.old ∧ (st.mark o).begun = st.begun ∧ (st.mark o).looked = st.looked ∧ (st.mark o).swept = st.swept ∧ (st.mark o).ended = st.ended ∧ (st.mark o).room = st.room := by
  unfold HS.mark
  cases o with
  | none => exact ⟨rfl, rfl, rfl, rfl, rfl, rfl, rfl⟩
  | some b => simp only; split <;> exact ⟨rfl, rfl, rfl, rfl, rfl, rfl, rfl⟩
theorem deed_same (st : HS) (d : Deed) : (st.deed d).stage = st.stage ∧ (st.deed d).old = st.old ∧ (st.deed d).begun = st.begun ∧ (st.deed d).looked = st.looked ∧ (st.deed d).swept = st.swept ∧ (st.deed d).ended = st.ended ∧ (st.deed d).room = st.room := by
  cases d with
  | put i k j =>
    show (st.put _ _ _).stage = _ ∧ _
    unfold HS.deed HS.put
    split
    · exact mark_same _ _
    · exact ⟨rfl, rfl, rfl, rfl, rfl, rfl, rfl⟩
  | _ => exact ⟨rfl, rfl, rfl, rfl, rfl, rfl, rfl⟩
theorem deed_there (st : HS) (d : Deed) : (st.deed d).there = st.there ++ (if V.str d.word = V.str "make" then [st.rows.length] else []) := by
  cases d with
  | make i k => rfl
  | put i k j => rw [if_neg (by show ¬ V.str "put" = V.str "make"; decide), List.append_nil]; exact (put_eq _ _ _ _).2.2
  | take i j k => rw [if_neg (by show ¬ V.str "take" = V.str "make"; decide), List.append_nil]; rfl
  | share i j => rw [if_neg (by show ¬ V.str "share" = V.str "make"; decide), List.append_nil]; rfl
  | drop i => rw [if_neg (by show ¬ V.str "drop" = V.str "make"; decide), List.append_nil]; rfl
theorem J.pl_deed {st : HS} {G : Nat → Prop} {C : List Nat} {pl : List Step} (j : J st G) (p : PL st G C pl) {d : Deed} (ok : d.ok st.hands st.rows) (hbig : st.rows.length < 90000) : ∃ G', J (st.deed d) G' ∧ PL (st.deed d) G' C pl := by
  obtain ⟨G', j2, h⟩ := j.deed2 ok hbig
  obtain ⟨e1, e2, e3, e4, e5, _⟩ := deed_same st d
  refine ⟨G', j2, ⟨fun z => p.i (e1 ▸ z), p.nd, fun z x => ?_, fun z => ?_, fun z => ?_⟩⟩
  · rw [e1] at z
    rw [p.c z, e3]
    exact ⟨fun ⟨a, b⟩ => ⟨(h x b).mpr a, b⟩, fun ⟨a, b⟩ => ⟨(h x b).mp a, b⟩⟩
  · rw [e1] at z
    rw [e4, e2]; exact p.m z
  · rw [e1] at z
    rw [e5, e2]; exact p.s z
theorem settle_hands (st : HS) : st.settle.hands = st.hands ∧ st.settle.rows = st.rows ∧ st.settle.room = st.room := by
  unfold HS.settle HS.settle1 HS.settle2
  split <;> split <;> exact ⟨rfl, rfl, rfl⟩
theorem markAll_same (os : List (Option Nat)) (st : HS) : (st.markAll os).hands = st.hands ∧ (st.markAll os).rows = st.rows ∧ (st.markAll os).room = st.room := by
  rw [markAll_fil]
  exact ⟨rfl, rfl, rfl⟩
theorem piece_same (st : HS) : st.piece.1.hands = st.hands ∧ st.piece.1.rows = st.rows ∧ st.piece.1.room = st.room := by
  have tr : ∀ s : HS, s.hands = st.hands ∧ s.rows = st.rows ∧ s.room = st.room → s.settle.hands = st.hands ∧ s.settle.rows = st.rows ∧ s.settle.room = st.room := fun s h => by
    obtain ⟨a, b, c⟩ := settle_hands s
    exact ⟨a.trans h.1, b.trans h.2.1, c.trans h.2.2⟩
  unfold HS.piece
  cases st.stage with
  | idle => exact tr _ (markAll_same _ _)
  | marking => exact tr _ (markAll_same _ _)
  | sweeping =>
    refine tr _ ?_
    unfold HS.sweep
    split <;> exact ⟨rfl, rfl, rfl⟩
theorem work_same (st : HS) : ∀ n, (HS.work n st).1.hands = st.hands ∧ (HS.work n st).1.rows = st.rows ∧ (HS.work n st).1.room = st.room
  | 0 => ⟨rfl, rfl, rfl⟩
  | n + 1 => by
    obtain ⟨a, b, c⟩ := work_same st n
    obtain ⟨d, e, f⟩ := piece_same (HS.work n st).1
    exact ⟨d.trans a, e.trans b, f.trans c⟩
/-! k09: going along from the waiting boxes; the counts. -/
def flP (n : Nat) (P : Nat → Bool) : List V := (List.range n).map fun i => V.bl (P i)
theorem flP_at {n b : Nat} {P : Nat → Bool} (h : b < n) : (flP n P)[b]? = some (.bl (P b)) := by
  unfold flP
  rw [List.getElem?_map, List.getElem?_range h]; rfl
theorem flP_len (n : Nat) (P : Nat → Bool) : (flP n P).length = n := by unfold flP; rw [List.length_map, List.length_range]
theorem flP_ext {n : Nat} {P P' : Nat → Bool} (h : ∀ i, i < n → P i = P' i) : flP n P = flP n P' := List.map_congr_left fun i hi => by rw [h i (List.mem_range.mp hi)]
theorem flP_set {n b : Nat} {P : Nat → Bool} {v : Bool} (h : b < n) : (flP n P).set b (.bl v) = flP n fun i => if i = b then v else P i := by
  refine List.ext_getElem? fun i => ?_
  by_cases c : i < n
  · rw [flP_at c]
    by_cases d : b = i
    · subst d; rw [List.getElem?_set_self (by rw [flP_len]; exact c), if_pos rfl]
    · rw [List.getElem?_set_ne d, flP_at c, if_neg (fun z => d z.symm)]
  · rw [List.getElem?_eq_none (by rw [List.length_set, flP_len]; omega), List.getElem?_eq_none (by rw [flP_len]; omega)]
/-- white: come to, not marked, not yet in the row -/
def whi (C T s : List Nat) (b : Nat) : Bool := decide (b ∈ C) && !decide (b ∈ T) && !decide (b ∈ s)
theorem whi_iff {C T s : List Nat} {b : Nat} : whi C T s b = true ↔ b ∈ C ∧ b ∉ T ∧ b ∉ s := by unfold whi; simp [and_assoc]
def mkW (C T s : List Nat) : Option Nat → List Nat
  | none => s
  | some b => if whi C T s b = true then s ++ [b] else s
def mksW (C T s : List Nat) (os : List (Option Nat)) : List Nat := os.foldl (mkW C T) s
def levW (rw : Rw) (C T s0 : List Nat) : Nat → List Nat
  | 0 => s0
  | n + 1 => mksW C T (levW rw C T s0 n) (rowOf rw ((levW rw C T s0 n).getD n 0))
theorem mksW_snoc {C T s : List Nat} {os : List (Option Nat)} {i : Nat} {o : Option Nat} (h : os[i]? = some o) : mksW C T s (os.take (i + 1)) = mkW C T (mksW C T s (os.take i)) o := by
  unfold mksW
  rw [take_snoc h, List.foldl_append]
  rfl
theorem mkW_pre (C T s : List Nat) (o : Option Nat) : s <+: mkW C T s o := by
  cases o with
  | none => exact List.prefix_refl _
  | some b =>
    unfold mkW
    simp only
    split
    · exact List.prefix_append _ _
    · exact List.prefix_refl _
theorem mksW_pre (C T s : List Nat) (os : List (Option Nat)) : s <+: mksW C T s os := by
  unfold mksW
  induction os generalizing s with
  | nil => exact List.prefix_refl _
  | cons o os ih => exact (mkW_pre C T s o).trans (ih _)
theorem levW_pre (rw : Rw) (C T s0 : List Nat) (n k : Nat) : levW rw C T s0 n <+: levW rw C T s0 (n + k) := by
  induction k with
  | zero => exact List.prefix_refl _
  | succ k ih => exact ih.trans (mksW_pre _ _ _ _)
structure OkW (m : Nat) (C s : List Nat) : Prop where
  nd : s.Nodup
  lt : ∀ b ∈ s, b < m
theorem OkW.mkW {m : Nat} {C T s : List Nat} (h : OkW m C s) (hc : ∀ b ∈ C, b < m) (o : Option Nat) : OkW m C (mkW C T s o) := by
  cases o with
  | none => exact h
  | some b =>
    unfold Mp.mkW
    simp only
    split
    · rename_i e
      obtain ⟨e1, e2, e3⟩ := whi_iff.mp e
      exact ⟨nd_app h.nd e3, fun x hx => by
        rcases List.mem_append.mp hx with z | z
        · exact h.lt x z
        · rw [List.mem_singleton.mp z]; exact hc b e1⟩
    · exact h
theorem OkW.mksW {m : Nat} {C T : List Nat} (hc : ∀ b ∈ C, b < m) : ∀ {os : List (Option Nat)} {s : List Nat}, OkW m C s → OkW m C (mksW C T s os)
  | [], _, h => h
  | o :: os, s, h => OkW.mksW hc (os := os) (h.mkW (T := T) hc o)
theorem OkW.levW {m : Nat} {C T s0 : List Nat} {rw : Rw} (hc : ∀ b ∈ C, b < m) (h : OkW m C s0) : ∀ n, OkW m C (levW rw C T s0 n)
  | 0 => h
  | n + 1 => OkW.mksW hc (OkW.levW hc h n)
theorem OkW.len {m : Nat} {C s : List Nat} (h : OkW m C s) : s.length ≤ m := nodup_bound _ h.nd h.lt
/-- how many are left -/
def left (C T s : List Nat) : Nat := (C.filter (whi C T s)).length
theorem filter_drop1 {C : List Nat} {P P' : Nat → Bool} {b : Nat} (nd : C.Nodup) (hb : b ∈ C) (hP : P b = true) (h : ∀ x ∈ C, P' x = (P x && !decide (x = b))) : (C.filter P').length + 1 = (C.filter P).length := by
  induction C with
  | nil => cases hb
  | cons a C ih =>
    have hna := (List.nodup_cons.mp nd).1
    by_cases c : a = b
    · subst c
      have e1 : P' a = false := by rw [h a List.mem_cons_self]; simp
      have e2 : C.filter P' = C.filter P := List.filter_congr fun x hx => by
        rw [h x (List.mem_cons_of_mem _ hx)]
        have : x ≠ a := fun z => hna (z ▸ hx)
        simp [this]
      rw [List.filter_cons_of_neg (by rw [e1]; decide), List.filter_cons_of_pos hP, e2]
      rfl
    · have hb2 : b ∈ C := by
        rcases List.mem_cons.mp hb with z | z
        · exact absurd z.symm c
        · exact z
      have ih2 := ih (List.nodup_cons.mp nd).2 hb2 fun x hx => h x (List.mem_cons_of_mem _ hx)
      have e1 : P' a = P a := by rw [h a List.mem_cons_self]; simp [c]
      by_cases d : P a = true
      · rw [List.filter_cons_of_pos (by rw [e1]; exact d), List.filter_cons_of_pos d]
        show (C.filter P').length + 1 + 1 = (C.filter P).length + 1
        rw [ih2]
      · rw [List.filter_cons_of_neg (by rw [e1]; exact d), List.filter_cons_of_neg d, ih2]
theorem whi_add {C T s : List Nat} {b x : Nat} : whi C T (s ++ [b]) x = (whi C T s x && !decide (x = b)) := by
  unfold whi
  by_cases c : x ∈ s <;> by_cases d : x = b <;> simp [c, d]
theorem left_add {C T s : List Nat} {b : Nat} (nd : C.Nodup) (h : whi C T s b = true) : left C T (s ++ [b]) + 1 = left C T s :=
  filter_drop1 nd (whi_iff.mp h).1 h fun x _ => whi_add
theorem flP_whi {n : Nat} {C T s : List Nat} {b : Nat} : (flP n fun i => if i = b then false else whi C T s i) = flP n (whi C T (s ++ [b])) := flP_ext fun i _ => by
  rw [whi_add]
  by_cases c : i = b
  · rw [if_pos c, c]; simp
  · rw [if_neg c]; simp [c]
/-- come to from these over white ones -/
inductive VW (rw : Rw) (C T W : List Nat) : Nat → Prop
  | of {y x : Nat} : y ∈ W → some x ∈ rowOf rw y → x ∈ C → x ∉ T → VW rw C T W x
  | st {y x : Nat} : VW rw C T W y → some x ∈ rowOf rw y → x ∈ C → x ∉ T → VW rw C T W x
theorem VW.c {rw : Rw} {C T W : List Nat} {x : Nat} (v : VW rw C T W x) : x ∈ C ∧ x ∉ T := by cases v <;> exact ⟨‹_›, ‹_›⟩
theorem mksW_has {C T : List Nat} : ∀ {os : List (Option Nat)} {s : List Nat} {x : Nat}, some x ∈ os → x ∈ C → x ∉ T → x ∈ mksW C T s os
  | o :: os, s, x, h, hc, ht => by
    rcases List.mem_cons.mp h with e | e
    · subst e
      refine (mksW_pre C T (mkW C T s (some x)) os).subset ?_
      unfold mkW
      simp only
      split
      · exact List.mem_append_right _ List.mem_cons_self
      · rename_i n
        apply Decidable.byContradiction
        intro z
        exact n (whi_iff.mpr ⟨hc, ht, z⟩)
    · exact mksW_has (os := os) (s := mkW C T s o) e hc ht
theorem levW_all {rw : Rw} {C T W : List Nat} {N : Nat} (h1 : ∀ n, n < N → n < (levW rw C T W n).length) (h2 : N = (levW rw C T W N).length) {x : Nat} (v : VW rw C T W x) : x ∈ levW rw C T W N := by
  have key : ∀ y ∈ levW rw C T W N, ∀ x, some x ∈ rowOf rw y → x ∈ C → x ∉ T → x ∈ levW rw C T W N := fun y hy x hx hc ht => by
    obtain ⟨i, hi, e⟩ := List.getElem_of_mem hy
    have hiN : i < N := by omega
    have hil := h1 i hiN
    obtain ⟨k, rfl⟩ : ∃ k, N = i + k := ⟨N - i, by omega⟩
    have hp := levW_pre rw C T W i k
    have e1 : (levW rw C T W i)[i]? = some y := by
      have := hp.getElem hil
      rw [List.getElem?_eq_getElem hil, this]
      exact congrArg some e
    have e2 : (levW rw C T W i).getD i 0 = y := by rw [List.getD_eq_getElem?_getD, e1]; rfl
    have hx2 : x ∈ levW rw C T W (i + 1) := by
      show x ∈ mksW C T (levW rw C T W i) (rowOf rw ((levW rw C T W i).getD i 0))
      rw [e2]
      exact mksW_has hx hc ht
    obtain ⟨k', rfl⟩ : ∃ k', k = 1 + k' := ⟨k - 1, by omega⟩
    have hp2 := levW_pre rw C T W (i + 1) k'
    rw [Nat.add_assoc] at hp2
    exact hp2.subset hx2
  induction v with
  | of hy hx hc ht =>
    have hp := levW_pre rw C T W 0 N
    rw [Nat.zero_add] at hp
    exact key _ (hp.subset hy) _ hx hc ht
  | st _ hx hc ht ih => exact key _ ih _ hx hc ht
def P_law_ahead (K : PySem.W.Frag) (_ : Ex) : Pm := pm4 fun x y z u L Q _ => ∃ (r c t w : Addr) (as : List Addr) (hs : Hs) (rw : Rw) (C T W : List Nat), x = .ref r ∧ y = .ref c ∧ z = .ref t ∧ u = .ref w ∧ RdRows K L r as rw ∧ SqA K L c (C.map nV) ∧ SqA K L t (T.map nV) ∧ SqA K L w (W.map nV) ∧
  rw.length ≤ 90000 ∧ PW hs rw ∧ C.Nodup ∧ (∀ b ∈ C, b < rw.length) ∧ T.length ≤ 90000 ∧ (∀ b ∈ T, b < rw.length) ∧ W.Nodup ∧ (∀ b ∈ W, b ∈ T) ∧ (∀ x ∈ C, x ∉ T → VW rw C T W x) ∧ Q (.bl true) L
def N_law_ahead : List Str := ["_law_rows", "_law_came_here", "_law_marked", "_law_waiting", "_law_white", "_law_box", "_law_left", "_law_row", "_law_at"]
def t_law_ahead (K : PySem.W.Frag) (A : Ex) (E : XK) : TS :=
    (tSeq (tAsg (tLc (iList K (tVar 0)) (gName 7) tYes (tC (.bl false)) [7]) (gName 4))
    (tSeq (tFor (iList K (tVar 1)) (gName 5)
      (tAsg (tC (.bl true)) (gSub (tVar 4) (tVar 5) rSetL)))
    (tSeq (tFor (iList K (tVar 2)) (gName 5)
      (tAsg (tC (.bl false)) (gSub (tVar 4) (tVar 5) rSetL)))
    (tSeq (tAsg (tCB (rLen K) (tCons (tLc (iList K (tVar 1)) (gName 5) (tB (tOp (rIxL K) (tVar 4) (tVar 5))) (tVar 5) [5]) tNil)) (gName 6))
    (tSeq (tAsg (tCB (rListOf K) (tCons (tVar 3) tNil)) (gName 7))
    (tSeq (tAsg (tC (.int 0)) (gName 8))
    (tSeq (tWhile (tTest (tOp rLtI (tVar 8) (tCB (rLen K) (tCons (tVar 7) tNil))))
      (tSeq (tFor (iList K (tOp (rIxL K) (tVar 0) (tOp (rIxL K) (tVar 7) (tVar 8)))) (gName 5)
      (tIfS (tAnd (tTest (tOp rNotNo (tVar 5) (tC .non))) (tB (tOp (rIxL K) (tVar 4) (tVar 5)))) (tSeq (tAsg (tC (.bl false)) (gSub (tVar 4) (tVar 5) rSetL))
    (tSeq (tAsg (tOp rSubI (tVar 6) (tC (.int 1))) (gName 6))
    (tDrop (tBM K "list" rAppend (tVar 7) (tCons (tVar 5) tNil))))) tNext))
    (tAug 8 (tC (.int 1)) (ipI fun i j => i + j))))
    (tRet (tOp rEq (tVar 6) (tC (.int 0)))))))))))
section
variable {K : PySem.W.Frag} {A : Ex} {E : XK} {vs : List V} {L : AL} {Q : V → AL → Prop} {Ea : Value → AL → Prop}
abbrev aheadB (K : PySem.W.Frag) : TS := (tIfS (tAnd (tTest (tOp rNotNo (tVar 5) (tC .non))) (tB (tOp (rIxL K) (tVar 4) (tVar 5)))) (tSeq (tAsg (tC (.bl false)) (gSub (tVar 4) (tVar 5) rSetL))
    (tSeq (tAsg (tOp rSubI (tVar 6) (tC (.int 1))) (gName 6))
    (tDrop (tBM K "list" rAppend (tVar 7) (tCons (tVar 5) tNil))))) tNext)
theorem aheadB_ok {N B C0 : L2.St → AL → Prop} {QR : V → AL → Prop} {v0 v1 v2 v3 v8 : Option V} {f g : Addr} {R : AL} {m : Nat} {C T s : List Nat} {o : Option Nat} (nd : C.Nodup) (hs : s.length ≤ 90000) (ho : ∀ b, o = some b → b < m)
    (hN : N [v0, v1, v2, v3, some (.ref f), some (oV o), some (nV (left C T (mkW C T s o))), some (.ref g), v8] (pt g (.lst ((mkW C T s o).map nV)) :: pt f (.lst (flP m (whi C T (mkW C T s o)))) :: R)) :
    SS (aheadB K) { nx := N, rt := QR, bk := B, ct := C0 } [v0, v1, v2, v3, some (.ref f), some (oV o), some (nV (left C T s)), some (.ref g), v8] (pt g (.lst (s.map nV)) :: pt f (.lst (flP m (whi C T s))) :: R) := by
  unfold aheadB
  cases o with
  | none =>
    tm_at "go"
    refine ⟨false, rfl, both_f (both_f (s_next hN))⟩
  | some b =>
    have hb := ho b rfl
    tm_at "go"
    refine ⟨true, rfl, both_t ?_⟩
    tm_at "go"
    refine r_ixL (Has.sq (has_tl has_hd)) (atI_nat (flP_at hb)) ?_
    refine ⟨_, rfl, fun c => ?_, fun c => ?_⟩
    · have e : mkW C T s (some b) = s ++ [b] := if_pos c
      rw [e] at hN
      tm_at "go"
      refine r_setL (has_tl has_hd) (ixN_nat (by rw [flP_len]; exact hb)) (wr_tl wr_hd) ?_
      rw [flP_set hb, flP_whi]
      tm_at "go"
      have hla := left_add (s := s) nd c
      rw [show ((left C T s : Nat) : Int) - 1 = ((left C T (s ++ [b]) : Nat) : Int) by omega]
      tm_at "go"
      refine r_append has_hd (small5 (by rw [List.length_map]; omega)) wr_hd ?_
      rw [List.map_append] at hN
      exact hN
    · have e : mkW C T s (some b) = s := if_neg (by rw [c]; decide)
      rw [e] at hN
      exact s_next hN
theorem p_law_ahead (he : ELe Ea E) (h : P_law_ahead K A vs L Q Ea) : SS (t_law_ahead K A E) { nx := fun _ L => Q .non L, rt := Q } (start N_law_ahead vs) L := by
  obtain ⟨_, _, _, _, rfl, r, c, t, w, as, hs, rw, C, T, W, rfl, rfl, rfl, rfl, hr, hc, ht, hw, hz, pw, hCn, hCl, hTl, hTm, hWn, hWT, hv, q⟩ := h
  unfold t_law_ahead
  refine s_postB ?_
  have halen := hr.len
  have hal : (as.map V.ref).length = rw.length := by rw [List.length_map]; exact hr.len
  have hCl2 := nodup_bound _ hCn hCl
  have okW : OkW rw.length C W := ⟨hWn, fun b hb => hTm b (hWT b hb)⟩
  have hWl := okW.len
  tm_at "gn"
  refine e_lcPlainL (fun _ => true) (fun _ => .bl false) (a0 := r) (xs := as.map V.ref) (by omega) (fun _ => rfl) (by tm_at "go"; exact ⟨rfl, rfl⟩) hr.top (fun x hx L' en => t_yes ⟨rfl, rfl⟩) (fun x hx _ L' en => e_c ⟨rfl, rfl⟩) fun f => ?_
  have e0 : (((as.map V.ref).filter fun _ => true).map fun _ => V.bl false) = flP rw.length fun b => decide (b ∈ C.take 0) := by
    rw [List.filter_eq_self.mpr (fun _ _ => rfl), ← halen]
    unfold flP
    refine List.ext_getElem? fun i => ?_
    by_cases c : i < as.length
    · rw [List.getElem?_map, List.getElem?_map, List.getElem?_map, List.getElem?_range c, List.getElem?_eq_getElem c]; simp
    · rw [List.getElem?_eq_none (by simp; omega), List.getElem?_eq_none (by simp; omega)]
  rw [e0]
  refine s_seq ?_
  refine s_mid (Mid := fun σ L' => (∃ v5 v6 v7 v8, σ = [some (.ref r), some (.ref c), some (.ref t), some (.ref w), some (.ref f), v5, v6, v7, v8]) ∧ L' = pt f (.lst (flP rw.length fun b => decide (b ∈ C) && !decide (b ∈ T.take 0))) :: L) ?_ ?_
  · refine s_forL ?_
    tm_at "go"
    refine ⟨c, C.map nV, rfl, sq_tl hc, fun i σ L' => (∃ v5 v6 v7 v8, σ = [some (.ref r), some (.ref c), some (.ref t), some (.ref w), some (.ref f), v5, v6, v7, v8]) ∧ L' = pt f (.lst (flP rw.length fun b => decide (b ∈ C.take i))) :: L, ⟨⟨_, _, _, _, rfl⟩, rfl⟩, ?_, ?_, ?_⟩
    · rintro i σ L' hi ⟨_, rfl⟩
      exact sq_tl hc
    · rintro i x σ L' hx ⟨⟨v5, v6, v7, v8, rfl⟩, rfl⟩
      obtain ⟨b, hb, rfl⟩ := map_get hx
      have hbl := hCl b (List.mem_of_getElem? hb)
      tm_at "go"
      refine r_setL has_hd (ixN_nat (by rw [flP_len]; exact hbl)) wr_hd ?_
      rw [flP_set hbl]
      refine ⟨⟨_, _, _, _, rfl⟩, ?_⟩
      rw [take_snoc hb]
      congr 3
      refine flP_ext fun i _ => ?_
      by_cases c : i = b <;> simp [c]
    · rintro σ L' ⟨⟨v5, v6, v7, v8, rfl⟩, rfl⟩
      rw [List.length_map, List.take_length]
      refine ⟨_, Ent.refl _, ⟨_, _, _, _, rfl⟩, ?_⟩
      congr 3
      exact flP_ext fun i _ => by simp
  · rintro σ L' ⟨⟨v5, v6, v7, v8, rfl⟩, rfl⟩
    refine s_seq ?_
    refine s_mid (Mid := fun σ L' => (∃ v5 v6 v7 v8, σ = [some (.ref r), some (.ref c), some (.ref t), some (.ref w), some (.ref f), v5, v6, v7, v8]) ∧ L' = pt f (.lst (flP rw.length (whi C T W))) :: L) ?_ ?_
    · refine s_forL ?_
      tm_at "go"
      refine ⟨t, T.map nV, rfl, sq_tl ht, fun i σ L' => (∃ v5 v6 v7 v8, σ = [some (.ref r), some (.ref c), some (.ref t), some (.ref w), some (.ref f), v5, v6, v7, v8]) ∧ L' = pt f (.lst (flP rw.length fun b => decide (b ∈ C) && !decide (b ∈ T.take i))) :: L, ⟨⟨_, _, _, _, rfl⟩, rfl⟩, ?_, ?_, ?_⟩
      · rintro i σ L' hi ⟨_, rfl⟩
        exact sq_tl ht
      · rintro i x σ L' hx ⟨⟨v5, v6, v7, v8, rfl⟩, rfl⟩
        obtain ⟨b, hb, rfl⟩ := map_get hx
        have hbl := hTm b (List.mem_of_getElem? hb)
        tm_at "go"
        refine r_setL has_hd (ixN_nat (by rw [flP_len]; exact hbl)) wr_hd ?_
        rw [flP_set hbl]
        refine ⟨⟨_, _, _, _, rfl⟩, ?_⟩
        rw [take_snoc hb]
        congr 3
        refine flP_ext fun i _ => ?_
        by_cases c : i = b <;> simp [c]
      · rintro σ L' ⟨⟨v5, v6, v7, v8, rfl⟩, rfl⟩
        rw [List.length_map, List.take_length]
        refine ⟨_, Ent.refl _, ⟨_, _, _, _, rfl⟩, ?_⟩
        congr 3
        refine flP_ext fun i _ => ?_
        unfold whi
        by_cases c1 : i ∈ T
        · simp [c1]
        · have : i ∉ W := fun z => c1 (hWT i z)
          simp [c1, this]
    · rintro σ L' ⟨⟨v5, v6, v7, v8, rfl⟩, rfl⟩
      tm_at "gn"
      refine e_lcPlainL (fun v => match v with | .int i => whi C T W i.toNat | _ => false) (fun v => v) (a0 := c) (xs := C.map nV) (by rw [List.length_map]; omega) (fun _ => rfl) (by tm_at "go"; exact ⟨rfl, rfl⟩) (sq_tl hc) (fun x hx L' en => ?_) (fun x hx _ L' en => e_var rfl ⟨rfl, rfl⟩) fun d => ?_
      · obtain ⟨b, hb, rfl⟩ := List.mem_map.mp hx
        refine t_B ?_
        tm_at "go"
        refine r_ixL (Has.sq (has_hd.ent en)) (atI_nat (flP_at (hCl b hb))) ?_
        exact ⟨_, rfl, rfl, rfl⟩
      have e1 : (((C.map nV).filter fun v => match v with | .int i => whi C T W i.toNat | _ => false).map fun v => v) = (C.filter (whi C T W)).map nV := by
        rw [List.map_id', List.filter_map]
        rfl
      rw [e1]
      tm_at "gn"
      rw [List.length_map]
      refine r_ent Ent.drop ?_
      refine c_list (sq_tl hw) fun g => ?_
      tm_at "gn"
      refine s_mid (Mid := fun σ L' => ∃ N, (∀ n, n < N → n < (levW rw C T W n).length) ∧ N = (levW rw C T W N).length ∧ (∃ v5 v8, σ = [some (.ref r), some (.ref c), some (.ref t), some (.ref w), some (.ref f), v5, some (nV (left C T (levW rw C T W N))), some (.ref g), v8]) ∧ L' = L) ?_ ?_
      · refine s_while (fun k σ L' => ∃ n, n + k = rw.length + 1 ∧ (∀ j, j < n → j < (levW rw C T W j).length) ∧ (∃ v5, σ = [some (.ref r), some (.ref c), some (.ref t), some (.ref w), some (.ref f), v5, some (nV (left C T (levW rw C T W n))), some (.ref g), some (nV n)]) ∧ L' = pt g (.lst ((levW rw C T W n).map nV)) :: pt f (.lst (flP rw.length (whi C T (levW rw C T W n)))) :: L) ⟨rw.length + 1, 0, by omega, (fun _ h => absurd h (Nat.not_lt_zero _)), ⟨_, rfl⟩, rfl⟩ ?_
        rintro k σ L' ⟨n, hk, hj, ⟨v5, rfl⟩, rfl⟩
        have okn := OkW.levW (T := T) (rw := rw) hCl okW n
        have hcl := okn.len
        tm_at "go"
        rw [List.length_map]
        refine ex_c (fun c1 => ?_) fun c1 => ?_
        · have c1' : n < (levW rw C T W n).length := by omega
          obtain ⟨b, hb⟩ : ∃ b, (levW rw C T W n)[n]? = some b := ⟨_, List.getElem?_eq_getElem c1'⟩
          have hbl : b < rw.length := okn.lt b (List.mem_of_getElem? hb)
          have hbd : (levW rw C T W n).getD n 0 = b := by rw [List.getD_eq_getElem?_getD, hb]; rfl
          obtain ⟨a, ha⟩ := as_ex (as := as) (b := b) (by omega)
          have enext : levW rw C T W (n + 1) = mksW C T (levW rw C T W n) (rowOf rw b) := by show mksW _ _ _ (rowOf rw ((levW rw C T W n).getD n 0)) = _; rw [hbd]
          refine s_seq ?_
          refine s_forL ?_
          tm_at "go"
          refine r_ixL (Has.sq has_hd) (atI_nat (map_at nV hb)) ?_
          refine r_ixL (sq_tl (sq_tl hr.top)) (atI_nat (as_get ha)) ?_
          refine ⟨a, (rowOf rw b).map oV, rfl, sq_tl (sq_tl (hr.row b a _ ha (rw_get hbl))), fun i σ L' => (∃ v5, σ = [some (.ref r), some (.ref c), some (.ref t), some (.ref w), some (.ref f), v5, some (nV (left C T (mksW C T (levW rw C T W n) ((rowOf rw b).take i)))), some (.ref g), some (nV n)]) ∧ L' = pt g (.lst ((mksW C T (levW rw C T W n) ((rowOf rw b).take i)).map nV)) :: pt f (.lst (flP rw.length (whi C T (mksW C T (levW rw C T W n) ((rowOf rw b).take i))))) :: L, ⟨⟨_, rfl⟩, rfl⟩, ?_, ?_, ?_⟩
          · rintro i σ L' hi ⟨_, rfl⟩
            exact sq_tl (sq_tl (hr.row b a _ ha (rw_get hbl)))
          · rintro i x σ L' hx ⟨⟨v5, rfl⟩, rfl⟩
            obtain ⟨o, ho, rfl⟩ := map_get hx
            have oki := OkW.mksW (T := T) hCl (os := (rowOf rw b).take i) okn
            refine aheadB_ok hCn (by have := oki.len; omega) (fun x e => rowOf_lt pw b x (e ▸ List.mem_of_getElem? ho)) ?_
            rw [← mksW_snoc ho]
            exact ⟨⟨_, rfl⟩, rfl⟩
          · rintro σ L' ⟨⟨v5, rfl⟩, rfl⟩
            rw [List.length_map, List.take_length, ← enext]
            refine s_aug (x := (n : Int)) rfl ?_
            tm_at "go"
            refine ⟨1, rfl, k - 1, by omega, n + 1, by omega, fun j h => ?_, ⟨_, rfl⟩, rfl⟩
            by_cases c : j = n
            · rw [c]; exact c1'
            · exact hj j (by omega)
        · refine ⟨_, Ent.drop.trans Ent.drop, n, hj, ?_, ⟨_, _, rfl⟩, rfl⟩
          by_cases c2 : n = 0
          · omega
          · obtain ⟨n', rfl⟩ : ∃ n', n = n' + 1 := ⟨n - 1, by omega⟩
            have h1 := hj n' (by omega)
            have h2 := (levW_pre rw C T W n' 1).length_le
            have h3 : ¬ n' + 1 < (levW rw C T W (n' + 1)).length := by omega
            have h4 : (levW rw C T W n').length ≤ (levW rw C T W (n' + 1)).length := h2
            omega
      · rintro σ L' ⟨N, h1, h2, ⟨v5, v8, rfl⟩, rfl⟩
        have hl0 : left C T (levW rw C T W N) = 0 := by
          unfold left
          rw [List.length_eq_zero_iff, List.filter_eq_nil_iff]
          intro x hx hw
          obtain ⟨a1, a2, a3⟩ := whi_iff.mp hw
          exact a3 (levW_all h1 h2 (hv x a1 a2))
        rw [hl0]
        tm_at "go"
        exact ⟨_, Ent.refl _, q⟩
end
/-! k09: the counts; what is good. -/
abbrev plN (m : Nat) (prs : List (Nat × Bool)) : List Step := List.replicate m none ++ prs.map some
def trues (prs : List (Nat × Bool)) : Nat := (prs.filter fun x => x.2).length
theorem plN_nil {m : Nat} {prs : List (Nat × Bool)} : plN m prs = [] ↔ m = 0 ∧ prs = [] := by
  cases m with
  | zero => simp [plN]
  | succ m => simp [plN, List.replicate_succ]
theorem plN_fate {C : List Nat} {k : Nat} {t : List Nat} : List.replicate k none ++ t.map (fate C) = plN k (t.map fun b => (b, !decide (b ∈ C))) := by
  unfold plN
  rw [List.map_map]
  rfl
theorem len_filters {p : Nat → Bool} : ∀ xs : List Nat, (xs.filter p).length + (xs.filter fun x => !p x).length = xs.length
  | [] => rfl
  | x :: xs => by
    have ih := len_filters (p := p) xs
    by_cases c : p x = true
    · rw [List.filter_cons_of_pos c, List.filter_cons_of_neg (by simp [c])]
      show (xs.filter p).length + 1 + _ = xs.length + 1
      omega
    · rw [List.filter_cons_of_neg c, List.filter_cons_of_pos (by simp [c])]
      show (xs.filter p).length + ((xs.filter fun x => !p x).length + 1) = xs.length + 1
      omega
theorem trues_fate {C t : List Nat} (nC : C.Nodup) (nt : t.Nodup) (h : ∀ x ∈ C, x ∈ t) : trues (t.map fun b => (b, !decide (b ∈ C))) + C.length = t.length := by
  have e1 : trues (t.map fun b => (b, !decide (b ∈ C))) = (t.filter fun b => !decide (b ∈ C)).length := by
    unfold trues
    rw [List.filter_map, List.length_map]
    rfl
  have e2 : (t.filter fun b => decide (b ∈ C)).length = C.length := by
    refine Nat.le_antisymm (nodup_sub (nt.filter _) fun x hx => of_decide_eq_true (List.mem_filter.mp hx).2) (nodup_sub nC fun x hx => List.mem_filter.mpr ⟨h x hx, decide_eq_true hx⟩)
  have := len_filters (p := fun b => decide (b ∈ C)) t
  omega
/-- a step of a plan told by its two parts -/
theorem J.piece_plN {st : HS} {G : Nat → Prop} {C : List Nat} {m : Nat} {prs : List (Nat × Bool)} (j : J st G) (p : PL st G C (plN m prs)) (hs : plN m prs ≠ []) :
    J st.piece.1 G ∧ ((∃ m', m = m' + 1 ∧ PL st.piece.1 G C (plN m' prs) ∧ st.piece.1.there.length = st.there.length) ∨
      (m = 0 ∧ ∃ y prs', prs = y :: prs' ∧ PL st.piece.1 G C (plN 0 prs') ∧ st.piece.1.there.length + trues prs = st.there.length + trues prs')) := by
  obtain ⟨x, pl', e, j2, p2, en, fr, th⟩ := j.piece_on p fun z => hs (p.i z)
  refine ⟨j2, ?_⟩
  cases m with
  | succ m =>
    obtain ⟨ex, epl⟩ : none = x ∧ plN m prs = pl' := by
      unfold plN at e
      rw [List.replicate_succ, List.cons_append] at e
      exact List.cons.inj e
    subst ex epl
    exact .inl ⟨m, rfl, p2, by rw [th]; rfl⟩
  | zero =>
    right
    match prs, e with
    | y :: prs, e =>
      obtain ⟨ex, epl⟩ : some y = x ∧ plN 0 prs = pl' := List.cons.inj e
      subst ex epl
      refine ⟨rfl, y, prs, rfl, p2, ?_⟩
      obtain ⟨b, f⟩ := y
      cases f with
      | false =>
        rw [th]
        have : trues ((b, false) :: prs) = trues prs := by unfold trues; rw [List.filter_cons_of_neg (by simp)]
        rw [this]
        rfl
      | true =>
        rw [th]
        have e1 : trues ((b, true) :: prs) = trues prs + 1 := by unfold trues; rw [List.filter_cons_of_pos rfl]; rfl
        have hbt : b ∈ st.there := by
          cases es : st.stage with
          | idle => exact absurd (p.i es) hs
          | marking =>
            exfalso
            have hm := p.m es
            have h1 := j.lm es
            have h2 := j.toJC.seen_sub p es
            obtain ⟨k, hk⟩ : ∃ k, C.length - st.looked = k + 1 := ⟨C.length - st.looked - 1, by omega⟩
            rw [hk, List.replicate_succ, List.cons_append] at hm
            have := (List.cons.inj hm).1
            cases this
          | sweeping =>
            have hp := p.s es
            have h1 := j.ls es
            rw [fate_drop h1] at hp
            have hx := (List.cons.inj hp).1
            have hb : b = st.old[st.swept] := congrArg Prod.fst (Option.some.inj hx)
            rw [hb]
            exact ((j.sw es).ol _ (by rw [List.drop_eq_getElem_cons h1]; exact List.mem_cons_self)).2
        show (st.there.filter fun x => decide (x ≠ b)).length + _ = _
        rw [e1]
        have h3 := filter_drop1 (P := fun _ => true) (P' := fun x => decide (x ≠ b)) j.w.nodup hbt rfl fun x _ => by simp
        rw [List.filter_eq_self.mpr (fun _ _ => rfl)] at h3
        omega
/-- the law's counts -/
structure CR (st : HS) (m : Nat) (prs : List (Nat × Bool)) (c0 c1 c2 c3 : Nat) : Prop where
  a : c0 = m + prs.length
  b : c1 = m
  c : plN m prs ≠ [] → c3 + trues prs = st.there.length + c2
  d : plN m prs = [] → c3 = st.there.length
def cnt0 (c0 c3 many : Nat) : Nat := if c0 = 0 then many + c3 else c0 - 1
def cnt1 (c0 c1 many : Nat) : Nat := if c0 = 0 then many else c1 - 1
def cnt2 (c0 c2 c3 many : Nat) : Nat := if c0 = 0 then c3 - many else c2
def cnt3 (c0 c2 c3 many : Nat) : Nat := if cnt0 c0 c3 many = 0 then c3 - cnt2 c0 c2 c3 many else c3
theorem CR.nil {st : HS} {m : Nat} {prs : List (Nat × Bool)} {c0 c1 c2 c3 : Nat} (r : CR st m prs c0 c1 c2 c3) : c0 = 0 ↔ plN m prs = [] := by
  rw [r.a, plN_nil]
  constructor
  · intro h
    exact ⟨by omega, List.eq_nil_of_length_eq_zero (by omega)⟩
  · rintro ⟨rfl, rfl⟩; rfl
/-- a piece, counted -/
theorem CR.idle {st : HS} {G : Nat → Prop} {C0 : List Nat} {m : Nat} {prs : List (Nat × Bool)} {c0 c1 c2 c3 : Nat} (r : CR st m prs c0 c1 c2 c3) (j : J st G) (p : PL st G C0 (plN m prs)) (h : c0 = 0) {C : List Nat} (nd : C.Nodup) (hC : ∀ x, x ∈ C ↔ Rch st.hands st.rows x) :
    ∃ G2 m2 prs2, J st.piece.1 G2 ∧ PL st.piece.1 G2 C (plN m2 prs2) ∧ C.length ≤ c3 ∧ CR st.piece.1 m2 prs2 (cnt0 c0 c3 C.length) (cnt1 c0 c1 C.length) (cnt2 c0 c2 c3 C.length) (cnt3 c0 c2 c3 C.length) := by
  have hn := r.nil.mp h
  have hs := (j.pl_nil p).mp hn
  obtain ⟨j2, p2, en, fr, th⟩ := j.piece_idle hs nd hC
  rw [plN_fate] at p2
  have h3 := r.d hn
  have hsub : ∀ x ∈ C, x ∈ st.there := fun x hx => by
    have rx := (hC x).mp hx
    refine j.gt x ?_
    clear hx
    induction rx with
    | of h => exact j.gh _ h
    | st _ h ih => exact j.gr _ ih _ h
  have hl := nodup_sub nd hsub
  have ht := trues_fate nd j.w.nodup hsub
  refine ⟨_, _, _, j2, p2, by omega, ?_⟩
  unfold cnt3 cnt0 cnt1 cnt2
  rw [if_pos h, if_pos h, if_pos h]
  refine ⟨by rw [List.length_map]; omega, rfl, fun hn => ?_, fun hn => ?_⟩
  · rw [if_neg (fun z => hn (plN_nil.mpr ⟨by omega, by rw [List.eq_nil_of_length_eq_zero (l := st.there) (by omega)]; rfl⟩)), th]
    omega
  · obtain ⟨a1, a2⟩ := plN_nil.mp hn
    have : st.there.length = 0 := by have := congrArg List.length a2; simpa using this
    rw [th]
    split <;> omega
theorem CR.on {st : HS} {G : Nat → Prop} {C : List Nat} {m : Nat} {prs : List (Nat × Bool)} {c0 c1 c2 c3 : Nat} (r : CR st m prs c0 c1 c2 c3) (j : J st G) (p : PL st G C (plN m prs)) (h : c0 ≠ 0) (many : Nat) :
    ∃ m2 prs2, J st.piece.1 G ∧ PL st.piece.1 G C (plN m2 prs2) ∧ CR st.piece.1 m2 prs2 (cnt0 c0 c3 many) (cnt1 c0 c1 many) (cnt2 c0 c2 c3 many) (cnt3 c0 c2 c3 many) := by
  have hn : plN m prs ≠ [] := fun z => h (r.nil.mpr z)
  have h3 := r.c hn
  have ha := r.a
  have hb := r.b
  obtain ⟨j2, ⟨m', e1, p2, e2⟩ | ⟨e1, y, prs', e2, p2, e3⟩⟩ := j.piece_plN p hn
  · refine ⟨m', prs, j2, p2, ?_⟩
    unfold cnt3 cnt0 cnt1 cnt2
    rw [if_neg h, if_neg h, if_neg h]
    refine ⟨by omega, by omega, fun hn2 => ?_, fun hn2 => ?_⟩
    · have : ¬ c0 - 1 = 0 := fun z => hn2 (plN_nil.mpr ⟨by omega, List.eq_nil_of_length_eq_zero (by omega)⟩)
      rw [if_neg this, e2]; exact h3
    · obtain ⟨a1, a2⟩ := plN_nil.mp hn2
      subst a1 a2
      have ht : trues [] = 0 := rfl
      have hl0 : ([] : List (Nat × Bool)).length = 0 := rfl
      rw [if_pos (by omega), e2]
      omega
  · subst e2
    refine ⟨0, prs', j2, p2, ?_⟩
    have hl : (y :: prs').length = prs'.length + 1 := rfl
    unfold cnt3 cnt0 cnt1 cnt2
    rw [if_neg h, if_neg h, if_neg h]
    refine ⟨by omega, by omega, fun hn2 => ?_, fun hn2 => ?_⟩
    · have : ¬ c0 - 1 = 0 := fun z => hn2 (plN_nil.mpr ⟨rfl, List.eq_nil_of_length_eq_zero (by omega)⟩)
      rw [if_neg this]
      omega
    · obtain ⟨a1, a2⟩ := plN_nil.mp hn2
      subst a2
      have ht : trues [] = 0 := rfl
      have hl0 : ([] : List (Nat × Bool)).length = 0 := rfl
      rw [if_pos (by omega)]
      omega
/-- marking, by the counts -/
theorem CR.mark {st : HS} {G : Nat → Prop} {C : List Nat} {m : Nat} {prs : List (Nat × Bool)} {c0 c1 c2 c3 : Nat} (r : CR st m prs c0 c1 c2 c3) (j : J st G) (p : PL st G C (plN m prs)) : st.stage = .marking ↔ 0 < c1 := by
  rw [r.b]
  cases e : st.stage with
  | idle =>
    have h := plN_nil.mp (p.i e)
    exact ⟨(fun z => by cases z), fun z => by omega⟩
  | marking =>
    refine ⟨fun _ => ?_, fun _ => rfl⟩
    have hm := p.m e
    have h1 := j.lm e
    have h2 := j.toJC.seen_sub p e
    obtain ⟨k, hk⟩ : ∃ k, C.length - st.looked = k + 1 := ⟨C.length - st.looked - 1, by omega⟩
    rw [hk, List.replicate_succ, List.cons_append] at hm
    cases m with
    | succ m => omega
    | zero =>
      exfalso
      cases prs with
      | nil => cases hm
      | cons y prs => exact absurd (List.cons.inj hm).1 (by simp)
  | sweeping =>
    refine ⟨(fun z => by cases z), fun z => ?_⟩
    exfalso
    have hp := p.s e
    have h1 := j.ls e
    rw [fate_drop h1] at hp
    obtain ⟨m', rfl⟩ : ∃ m', m = m' + 1 := ⟨m - 1, by omega⟩
    unfold plN at hp
    rw [List.replicate_succ, List.cons_append] at hp
    exact absurd (List.cons.inj hp).1 (by unfold fate; simp)
def P_law_counted (K : PySem.W.Frag) (_ : Ex) : Pm := pm2 fun x y L Q _ => ∃ (q : Addr) (R : AL) (c0 c1 c2 c3 many : Nat), x = .ref q ∧ y = nV many ∧ L = pt q (.lst [nV c0, nV c1, nV c2, nV c3]) :: R ∧ (c0 = 0 → many ≤ c3) ∧ (cnt0 c0 c3 many = 0 → cnt2 c0 c2 c3 many ≤ c3) ∧
  Q .non (pt q (.lst [nV (cnt0 c0 c3 many), nV (cnt1 c0 c1 many), nV (cnt2 c0 c2 c3 many), nV (cnt3 c0 c2 c3 many)]) :: R)
def N_law_counted : List Str := ["_law_counts", "_law_many"]
def t_law_counted (K : PySem.W.Frag) (A : Ex) (E : XK) : TS :=
    (tSeq (tIfS (tTest (tOp rEq (tOp (rIxL K) (tVar 0) (tC (.int 0))) (tC (.int 0)))) (tSeq (tAsg (tOp rAddI (tVar 1) (tOp (rIxL K) (tVar 0) (tC (.int 3)))) (gSub (tVar 0) (tC (.int 0)) rSetL))
    (tSeq (tAsg (tVar 1) (gSub (tVar 0) (tC (.int 1)) rSetL))
    (tAsg (tOp rSubI (tOp (rIxL K) (tVar 0) (tC (.int 3))) (tVar 1)) (gSub (tVar 0) (tC (.int 2)) rSetL)))) (tSeq (tAsg (tOp rSubI (tOp (rIxL K) (tVar 0) (tC (.int 0))) (tC (.int 1))) (gSub (tVar 0) (tC (.int 0)) rSetL))
    (tAsg (tCB rMax2 (tCons (tC (.int 0)) (tCons (tOp rSubI (tOp (rIxL K) (tVar 0) (tC (.int 1))) (tC (.int 1))) tNil))) (gSub (tVar 0) (tC (.int 1)) rSetL))))
    (tIfS (tTest (tOp rEq (tOp (rIxL K) (tVar 0) (tC (.int 0))) (tC (.int 0)))) (tAsg (tOp rSubI (tOp (rIxL K) (tVar 0) (tC (.int 3))) (tOp (rIxL K) (tVar 0) (tC (.int 2)))) (gSub (tVar 0) (tC (.int 3)) rSetL)) tNext))
def P_law_good (K : PySem.W.Frag) (A : Ex) : Pm := pm3 fun x y z L Q _ => ∃ (p r c : Addr) (as : List Addr) (ad : HAd) (st : HS) (R : AL) (G : Nat → Prop) (C : List Nat) (pl : List Step), x = .ref p ∧ y = .ref r ∧ z = .ref c ∧ L = HeapIs A.Heap p ad st :: R ∧ RdRows K R r as st.rows ∧ SqA K R c (C.map nV) ∧ J st G ∧ PL st G C pl ∧ st.stage = .marking ∧ Q (.bl true) L
def N_law_good : List Str := ["_law_heap", "_law_rows", "_law_came_here", "_law_marked", "_law_waiting", "_law_box"]
def t_law_good (K : PySem.W.Frag) (A : Ex) (E : XK) : TS :=
    (tSeq (tAsg (tMeth A.Heap "marked" (lift (P_marked K A)) [] E0 (tVar 0) tNil) (gName 3))
    (tSeq (tAsg (tMeth A.Heap "waiting" (lift (P_waiting K A)) [] E0 (tVar 0) tNil) (gName 4))
    (tSeq (tIfS (tOr (tNot (tB (tCB (rIsi K) (tCons (tVar 3) (tCons (tC (.ty "list")) tNil))))) (tNot (tB (tCB (rIsi K) (tCons (tVar 4) (tCons (tC (.ty "list")) tNil)))))) (tRet (tC (.bl false))) tNext)
    (tSeq (tFor (iList K (tVar 3)) (gName 5)
      (tIfS (tOr (tNot (tB (tCall (lift (P_law_whole K A)) [] E0 (tCons (tVar 5) tNil)))) (tTest (tOp (rIn K true) (tVar 5) (tVar 2)))) (tRet (tC (.bl false))) tNext))
    (tSeq (tFor (iList K (tVar 4)) (gName 5)
      (tIfS (tOr (tNot (tB (tCall (lift (P_law_whole K A)) [] E0 (tCons (tVar 5) tNil)))) (tTest (tOp (rIn K true) (tVar 5) (tVar 3)))) (tRet (tC (.bl false))) tNext))
    (tRet (tCall (lift (P_law_ahead K A)) [] E0 (tCons (tVar 1) (tCons (tVar 2) (tCons (tVar 3) (tCons (tVar 4) tNil)))))))))))
section
variable {K : PySem.W.Frag} {A : Ex} {E : XK} {vs : List V} {L : AL} {Q : V → AL → Prop} {Ea : Value → AL → Prop}
theorem p_law_counted (he : ELe Ea E) (h : P_law_counted K A vs L Q Ea) : SS (t_law_counted K A E) { nx := fun _ L => Q .non L, rt := Q } (start N_law_counted vs) L := by
  obtain ⟨_, _, rfl, q, R, c0, c1, c2, c3, many, rfl, rfl, rfl, h1, h2, k⟩ := h
  unfold t_law_counted
  refine s_seq ?_
  refine s_mid (Mid := fun σ L' => σ = [some (.ref q), some (nV many)] ∧ L' = pt q (.lst [nV (cnt0 c0 c3 many), nV (cnt1 c0 c1 many), nV (cnt2 c0 c2 c3 many), nV c3]) :: R) ?_ ?_
  · refine s_if (t_test ?_)
    tm_at "go"
    refine r_ixL (Has.sq has_hd) (atI_nat (j := 0) rfl) ?_
    tm_at "go"
    refine ex_c (fun c => ?_) fun c => ?_
    · have c' : c0 = 0 := by have := V.int.inj c; omega
      have h1' := h1 c'
      have e0 : cnt0 c0 c3 many = many + c3 := if_pos c'
      have e1 : cnt1 c0 c1 many = many := if_pos c'
      have e2 : cnt2 c0 c2 c3 many = c3 - many := if_pos c'
      rw [e0, e1, e2]
      tm_at "go"
      refine r_ixL (Has.sq has_hd) (atI_nat (j := 3) rfl) ?_
      tm_at "go"
      rw [show (many : Int) + (c3 : Int) = ((many + c3 : Nat) : Int) by omega]
      refine r_setL (j := 0) has_hd rfl wr_hd ?_
      tm_at "go"
      refine r_setL (j := 1) has_hd rfl wr_hd ?_
      tm_at "go"
      refine r_ixL (Has.sq has_hd) (atI_nat (j := 3) rfl) ?_
      tm_at "go"
      rw [show (c3 : Int) - (many : Int) = ((c3 - many : Nat) : Int) by omega]
      refine r_setL (j := 2) has_hd rfl wr_hd ?_
      exact ⟨_, Ent.refl _, rfl, rfl⟩
    · have c' : ¬ c0 = 0 := fun z => c (by rw [z]; rfl)
      have e0 : cnt0 c0 c3 many = c0 - 1 := if_neg c'
      have e1 : cnt1 c0 c1 many = c1 - 1 := if_neg c'
      have e2 : cnt2 c0 c2 c3 many = c2 := if_neg c'
      rw [e0, e1, e2]
      tm_at "go"
      refine r_ixL (Has.sq has_hd) (atI_nat (j := 0) rfl) ?_
      tm_at "go"
      rw [show (c0 : Int) - 1 = ((c0 - 1 : Nat) : Int) by omega]
      refine r_setL (j := 0) has_hd rfl wr_hd ?_
      tm_at "go"
      refine r_ixL (Has.sq has_hd) (atI_nat (j := 1) rfl) ?_
      tm_at "go"
      rw [show (if (c1 : Int) - 1 > 0 then (c1 : Int) - 1 else 0) = ((c1 - 1 : Nat) : Int) by split <;> omega]
      refine r_setL (j := 1) has_hd rfl wr_hd ?_
      exact ⟨_, Ent.refl _, rfl, rfl⟩
  · rintro σ L' ⟨rfl, rfl⟩
    refine s_if (t_test ?_)
    tm_at "go"
    refine r_ixL (Has.sq has_hd) (atI_nat (j := 0) rfl) ?_
    tm_at "go"
    refine ex_c (fun c => ?_) fun c => ?_
    · have c' : cnt0 c0 c3 many = 0 := by have := V.int.inj c; omega
      have h2' := h2 c'
      have e3 : cnt3 c0 c2 c3 many = c3 - cnt2 c0 c2 c3 many := if_pos c'
      rw [e3] at k
      tm_at "go"
      refine r_ixL (Has.sq has_hd) (atI_nat (j := 3) rfl) ?_
      tm_at "go"
      refine r_ixL (Has.sq has_hd) (atI_nat (j := 2) rfl) ?_
      tm_at "go"
      rw [show (c3 : Int) - (cnt2 c0 c2 c3 many : Int) = ((c3 - cnt2 c0 c2 c3 many : Nat) : Int) by omega]
      refine r_setL (j := 3) has_hd rfl wr_hd ?_
      exact k
    · have c' : ¬ cnt0 c0 c3 many = 0 := fun z => c (by rw [z]; rfl)
      have e3 : cnt3 c0 c2 c3 many = c3 := if_neg c'
      rw [e3] at k
      exact s_next k
theorem via_vw {st : HS} {G : Nat → Prop} {C T : List Nat} (g : ∀ x, x ∈ C ↔ G x ∧ x < st.begun) (hT : ∀ x, x ∈ T ↔ x ∈ st.seen) (sg : ∀ x ∈ st.seen, G x) (gr : ∀ x, G x → ∀ b, some b ∈ rowOf st.rows x → G b) {x : Nat} (v : Via st.rows st.seen st.looked st.begun x) : VW st.rows C T (st.seen.drop st.looked) x ∧ G x := by
  induction v with
  | @of y x h1 h2 h3 h4 =>
    have gx := gr y (sg y (List.mem_of_mem_drop h1)) x h2
    exact ⟨.of h1 h2 ((g x).mpr ⟨gx, h3⟩) fun z => h4 ((hT x).mp z), gx⟩
  | @st y x v h2 h3 h4 ih =>
    have gx := gr y ih.2 x h2
    exact ⟨.st ih.1 h2 ((g x).mpr ⟨gx, h3⟩) fun z => h4 ((hT x).mp z), gx⟩
theorem p_law_good (T : HT K A) (he : ELe Ea E) (h : P_law_good K A vs L Q Ea) : SS (t_law_good K A E) { nx := fun _ L => Q .non L, rt := Q } (start N_law_good vs) L := by
  obtain ⟨_, _, _, rfl, p, r, c, as, ad, st, R, G, C, pl, rfl, rfl, rfl, rfl, hr, hc, j, hp, hs, q⟩ := h
  unfold t_law_good
  have hbig := j.w.big
  have hsl := j.w.seenl
  have hgc := hp.c (by rw [hs]; decide)
  have m := j.mm hs
  have hsb : ∀ b ∈ st.seen, b < st.rows.length := fun b hb => Nat.lt_of_lt_of_le (j.w.sl b hb) j.w.bg
  have hperm := among_perm j.w.sn hsb
  have hsort := among_sorted (n := st.rows.length) (C := st.seen)
  generalize among st.rows.length st.seen = T1 at hperm hsort
  have hTl := hperm.length_eq
  have hT1 : ∀ x, x ∈ T1 ↔ x ∈ st.seen := fun x => hperm.mem_iff
  refine s_postB ?_
  tm_at "gn"
  refine do_marked (T := T1) (Ent.refl _) hperm hsort fun d1 => ?_
  tm_at "gn"
  refine do_waiting (R := pt d1 (.lst (T1.map nV)) :: R) ent_swap fun d2 => ?_
  tm_at "gn"
  refine s_if (t_or (t_not (t_B ?_)))
  tm_at "go"
  refine ⟨true, rfl, both_f ?_⟩
  tm_at "go"
  refine ⟨true, rfl, both_f (s_next ?_)⟩
  refine s_seq ?_
  refine s_forL ?_
  tm_at "go"
  refine ⟨d1, T1.map nV, rfl, Has.sq (has_tl (has_tl has_hd)), fun i σ L' => (∃ v5, σ = [some (.ref p), some (.ref r), some (.ref c), some (.ref d1), some (.ref d2), v5]) ∧ L' = pt d2 (.lst ((st.seen.drop st.looked).map nV)) :: HeapIs A.Heap p ad st :: pt d1 (.lst (T1.map nV)) :: R, ⟨⟨_, rfl⟩, rfl⟩, ?_, ?_, ?_⟩
  · rintro i σ L' hi ⟨_, rfl⟩
    exact Has.sq (has_tl (has_tl has_hd))
  · rintro i x σ L' hx ⟨⟨v5, rfl⟩, rfl⟩
    obtain ⟨b, hb, rfl⟩ := map_get hx
    have hbs := (hT1 b).mp (List.mem_of_getElem? hb)
    refine s_if (t_or (t_not (t_B ?_)))
    tm_at "go"
    refine do_wholeN ?_
    refine ⟨true, rfl, both_f ?_⟩
    tm_at "go"
    refine r_notInN (xs := C) (sq_tl (sq_tl (sq_tl hc))) ?_
    rw [decide_eq_true ((hgc b).mpr ⟨m.sg b hbs, j.w.sl b hbs⟩)]
    exact ⟨false, rfl, both_f (s_next ⟨⟨_, rfl⟩, rfl⟩)⟩
  · rintro σ L' ⟨⟨v5, rfl⟩, rfl⟩
    refine s_seq ?_
    refine s_forL ?_
    tm_at "go"
    refine ⟨d2, (st.seen.drop st.looked).map nV, rfl, Has.sq has_hd, fun i σ L' => (∃ v5, σ = [some (.ref p), some (.ref r), some (.ref c), some (.ref d1), some (.ref d2), v5]) ∧ L' = pt d2 (.lst ((st.seen.drop st.looked).map nV)) :: HeapIs A.Heap p ad st :: pt d1 (.lst (T1.map nV)) :: R, ⟨⟨_, rfl⟩, rfl⟩, ?_, ?_, ?_⟩
    · rintro i σ L' hi ⟨_, rfl⟩
      exact Has.sq has_hd
    · rintro i x σ L' hx ⟨⟨v5, rfl⟩, rfl⟩
      obtain ⟨b, hb, rfl⟩ := map_get hx
      have hbs := List.mem_of_mem_drop (List.mem_of_getElem? hb)
      refine s_if (t_or (t_not (t_B ?_)))
      tm_at "go"
      refine do_wholeN ?_
      refine ⟨true, rfl, both_f ?_⟩
      tm_at "go"
      refine r_notInN (xs := T1) (Has.sq (has_tl (has_tl has_hd))) ?_
      rw [decide_eq_true ((hT1 b).mpr hbs)]
      exact ⟨false, rfl, both_f (s_next ⟨⟨_, rfl⟩, rfl⟩)⟩
    · rintro σ L' ⟨⟨v5, rfl⟩, rfl⟩
      tm_at "go"
      refine ⟨_, Ent.refl _, _, _, _, _, rfl, r, c, d1, d2, as, st.hands, st.rows, C, T1, st.seen.drop st.looked, rfl, rfl, rfl, rfl, rd_tl (rd_tl (rd_tl hr)), sq_tl (sq_tl (sq_tl hc)), Has.sq (has_tl (has_tl has_hd)), Has.sq has_hd, hbig, j.p, hp.nd, fun b hb => Nat.lt_of_lt_of_le ((hgc b).mp hb).2 j.w.bg, by omega, fun b hb => hsb b ((hT1 b).mp hb), j.w.sn.sublist (List.drop_sublist _ _), fun b hb => (hT1 b).mpr (List.mem_of_mem_drop hb), fun x hx hn => ?_, ?_⟩
      · obtain ⟨gx, hxb⟩ := (hgc x).mp hx
        rcases m.via x gx hxb with e | e
        · exact absurd ((hT1 x).mpr e) hn
        · exact (via_vw hgc hT1 m.sg j.gr e).1
      · exact ⟨_, Ent.drop.trans (Ent.cons Ent.drop), q⟩
end
/-! law_k09_nothing_hides, walked. -/
def N_law : List Str := ["_law_script", "_law_many", "_law_heap", "_law_hands", "_law_rows", "_law_came_here", "_law_counts", "_law_cell", "_law_k", "_law_deed"]
def t_law (K : PySem.W.Frag) (A : Ex) (E : XK) : TS :=
    (tSeq (tAsg (tOp rAddI (tC (.int 1)) (tOp rModI (tCall (lift (P_law_mixed_at K A)) [] E0 (tCons (tVar 0) (tCons (tC (.int 0)) tNil))) (tC (.int 8)))) (gName 1))
    (tSeq (tAsg (tMake A.Heap (lift (P_init K A)) [] E0 (tCons (tVar 1) (tCons (tC (.int 1000)) tNil))) (gName 2))
    (tSeq (tAsg (tLc (iRng1 (tCons (tVar 1) tNil)) (gName 8) tYes (tC .non) [8]) (gName 3))
    (tSeq (tAsg (tLst tNil) (gName 4))
    (tSeq (tIfS (tAnd (tTest (tOp rGtI (tVar 1) (tC (.int 1)))) (tTest (tOp rEq (tOp rModI (tOp rDivI (tCall (lift (P_law_mixed_at K A)) [] E0 (tCons (tVar 0) (tCons (tC (.int 0)) tNil))) (tC (.int 8))) (tC (.int 3))) (tC (.int 1))))) (tDrop (tCall (lift (P_law_chain K A)) [] E0 (tCons (tVar 2) (tCons (tVar 3) (tCons (tVar 4) (tCons (tOp rModI (tOp rDivI (tCall (lift (P_law_mixed_at K A)) [] E0 (tCons (tVar 0) (tCons (tC (.int 0)) tNil))) (tC (.int 24))) (tC (.int 21))) tNil)))))) tNext)
    (tSeq (tAsg (tLst tNil) (gName 5))
    (tSeq (tAsg (tLst (tCons (tC (.int 0)) (tCons (tC (.int 0)) (tCons (tC (.int 0)) (tCons (tCB (rLen K) (tCons (tVar 4) tNil)) tNil))))) (gName 6))
    (tSeq (tFor (iList K (tCall (lift (P_law_mixed K A)) [] E0 (tCons (tVar 0) (tCons (tC (.int 51)) tNil)))) (gName 7)
      (tSeq (tIfS (tTest (tOp rGtI (tOp rModI (tVar 7) (tC (.int 9))) (tC (.int 6)))) (tFor (iRng1 (tCons (tOp rSubI (tOp rModI (tVar 7) (tC (.int 9))) (tC (.int 6))) tNil)) (gName 8)
      (tSeq (tIfS (tTest (tOp rEq (tOp (rIxL K) (tVar 6) (tC (.int 0))) (tC (.int 0)))) (tAsg (tCall (lift (P_law_came K A)) [] E0 (tCons (tVar 3) (tCons (tVar 4) tNil))) (gName 5)) tNext)
    (tSeq (tDrop (tCall (lift (P_law_counted K A)) [] E0 (tCons (tVar 6) (tCons (tCB (rLen K) (tCons (tVar 5) tNil)) tNil))))
    (tDrop (tMeth A.Heap "work" (lift (P_work K A)) [] E0 (tVar 2) (tCons (tC (.int 1)) tNil)))))) (tFor (iList K (tCall (lift (P_law_deeds K A)) [] E0 (tCons (tOp rAddI (tOp rMulI (tOp rDivI (tVar 7) (tC (.int 9))) (tC (.int 8))) (tOp (rIxL K) (tLst (tCons (tC (.int 0)) (tCons (tC (.int 1)) (tCons (tC (.int 2)) (tCons (tC (.int 3)) (tCons (tC (.int 5)) (tCons (tC (.int 6)) (tCons (tC (.int 7)) tNil)))))))) (tOp rModI (tVar 7) (tC (.int 9))))) (tCons (tVar 3) (tCons (tVar 4) tNil))))) (gName 9)
      (tSeq (tDrop (tCall (lift (P_law_asked K A)) [] E0 (tCons (tVar 2) (tCons (tVar 9) tNil))))
    (tSeq (tDrop (tCall (lift (P_law_done K A)) [] E0 (tCons (tVar 9) (tCons (tVar 3) (tCons (tVar 4) tNil)))))
    (tIfS (tTest (tOp rEq (tOp (rIxL K) (tVar 9) (tC (.int 0))) (tC (.str "make")))) (tAugS (tVar 6) (tC (.int 3)) (tC (.int 1)) (rIxL K) (ipI fun i j => i + j) rSetL) tNext)))))
    (tSeq (tIfS (tTest (tOp rNe (tOp rEq (tMeth A.Heap "phase" (lift (P_phase K A)) [] E0 (tVar 2) tNil) (tC (.str "marking"))) (tOp rGtI (tOp (rIxL K) (tVar 6) (tC (.int 1))) (tC (.int 0))))) (tRet (tC (.bl false))) tNext)
    (tIfS (tAnd (tTest (tOp rGtI (tOp (rIxL K) (tVar 6) (tC (.int 1))) (tC (.int 0)))) (tNot (tB (tCall (lift (P_law_good K A)) [] E0 (tCons (tVar 2) (tCons (tVar 4) (tCons (tVar 5) tNil))))))) (tRet (tC (.bl false))) tNext))))
    (tRet (tC (.bl true)))))))))))
theorem I4.upp {st : HS} {n k l : Nat} (I : I4 st n k) (h : k ≤ l) : I4 st n l := ⟨I.w, I.p, I.th, I.sg, I.en, I.rm, I.hl, Nat.le_trans I.ml h, I.sn, I.lk, I.sw, I.od, I.bn⟩
structure I09 (st : HS) (G : Nat → Prop) (C : List Nat) (m : Nat) (prs : List (Nat × Bool)) (c0 c1 c2 c3 : Nat) (n k : Nat) : Prop where
  j : J st G
  p : PL st G C (plN m prs)
  r : CR st m prs c0 c1 c2 c3
  rm : st.room = 1000
  hl : st.hands.length = n
  ml : st.rows.length ≤ k
theorem I09.more {st : HS} {G : Nat → Prop} {C : List Nat} {m : Nat} {prs : List (Nat × Bool)} {c0 c1 c2 c3 n k l : Nat} (I : I09 st G C m prs c0 c1 c2 c3 n k) (h : k ≤ l) : I09 st G C m prs c0 c1 c2 c3 n l := ⟨I.j, I.p, I.r, I.rm, I.hl, Nat.le_trans I.ml h⟩
theorem I09.of {st : HS} {n k : Nat} (I : I4 st n k) : I09 st (fun x => x ∈ st.there) [] 0 [] 0 0 0 st.rows.length n k := by
  refine ⟨⟨⟨I.w, I.p, I.hb, fun x gx b hb => ?_, fun x h => h, (fun h => by rw [I.sg] at h; cases h), (fun h => by rw [I.sg] at h; cases h), fun _ => ⟨I.sn, I.lk, I.sw, I.od, I.bn⟩⟩, (fun h => by rw [I.sg] at h; cases h), (fun h => by rw [I.sg] at h; cases h)⟩, ⟨fun _ => rfl, List.nodup_nil, (fun h => absurd I.sg h), (fun h => by rw [I.sg] at h; cases h), (fun h => by rw [I.sg] at h; cases h)⟩, ⟨rfl, rfl, fun h => absurd rfl h, fun _ => I.tl.symm⟩, I.rm, I.hl, I.ml⟩
  show b ∈ st.there
  rw [I.th]
  exact List.mem_range.mpr (rowOf_lt I.p x b hb)
abbrev L09 (A p : Addr) (ad : HAd) (st : HS) (h r q c : Addr) (as : List Addr) (c0 c1 c2 c3 : Nat) (C : List Nat) (R : AL) : AL := HeapIs A p ad st :: pt h (.lst (st.hands.map oV)) :: RowsA r as st.rows :: pt q (.lst [nV c0, nV c1, nV c2, nV c3]) :: pt c (.lst (C.map nV)) :: R
section
variable {K : PySem.W.Frag} {A : Ex} {E : XK} {vs : List V} {L : AL} {Q : V → AL → Prop} {Ea : Value → AL → Prop}
abbrev deed09 (K : PySem.W.Frag) (A : Ex) : TS := (tSeq (tDrop (tCall (lift (P_law_asked K A)) [] E0 (tCons (tVar 2) (tCons (tVar 9) tNil))))
    (tSeq (tDrop (tCall (lift (P_law_done K A)) [] E0 (tCons (tVar 9) (tCons (tVar 3) (tCons (tVar 4) tNil)))))
    (tIfS (tTest (tOp rEq (tOp (rIxL K) (tVar 9) (tC (.int 0))) (tC (.str "make")))) (tAugS (tVar 6) (tC (.int 3)) (tC (.int 1)) (rIxL K) (ipI fun i j => i + j) rSetL) tNext)))
theorem deed09_ok {N B C0 : L2.St → AL → Prop} {QR : V → AL → Prop} {v0 v1 v5 v7 v8 : Option V} {p h r q c b : Addr} {R : AL} {st : HS} {ad : HAd} {as : List Addr} {m : Nat} {prs : List (Nat × Bool)} {G : Nat → Prop} {C : List Nat} {D : Deed} {c0 c1 c2 c3 n k : Nat} (T : HT K A) (hDb : SqA K R b D.vals) (I : I09 st G C m prs c0 c1 c2 c3 n k) (hm : k < 999) (has : as.length = st.rows.length) (ok : D.ok st.hands st.rows)
    (hN : ∀ st2 ad2 as2 G2 c3', st2.hands = D.hs st.hands st.rows → st2.rows = D.rw st.hands st.rows → I09 st2 G2 C m prs c0 c1 c2 c3' n (k + 1) → as2.length = st2.rows.length → N [v0, v1, some (.ref p), some (.ref h), some (.ref r), v5, some (.ref q), v7, v8, some (.ref b)] (L09 A.Heap p ad2 st2 h r q c as2 c0 c1 c2 c3' C R)) :
    SS (deed09 K A) { nx := N, rt := QR, bk := B, ct := C0 } [v0, v1, some (.ref p), some (.ref h), some (.ref r), v5, some (.ref q), v7, v8, some (.ref b)] (L09 A.Heap p ad st h r q c as c0 c1 c2 c3 C R) := by
  have hml := I.ml
  have hrm := I.rm
  have htl := I.j.w.tl
  obtain ⟨G2, j2, p2⟩ := I.j.pl_deed I.p ok (by omega)
  have hdh := deed_hands st D
  have hdr := deed_rows st D
  have hth := deed_there st D
  have hf := deed_facts st D
  have hr1 := rw_len1 st.hands st.rows D
  have mkI : ∀ c3', CR (st.deed D) m prs c0 c1 c2 c3' → I09 (st.deed D) G2 C m prs c0 c1 c2 c3' n (k + 1) := fun c3' r => ⟨j2, p2, r, by rw [(deed_same st D).2.2.2.2.2.2]; exact hrm, by rw [hdh, hs_len]; exact I.hl, by rw [hdr]; omega⟩
  unfold deed09
  refine s_post ?_
  tm_at "gn"
  refine do_asked (d := D) (st := st) (ad := ad) (Ent.refl _) (sq_tl (sq_tl (sq_tl (sq_tl hDb)))) I.j.w ok I.j.hb (by omega) fun ad' => ?_
  tm_at "gn"
  refine do_done (d := D) (as := as) (hs := st.hands) (rw := st.rows) (R := HeapIs A.Heap p ad' (st.deed D) :: pt q (.lst [nV c0, nV c1, nV c2, nV c3]) :: pt c (.lst (C.map nV)) :: R) (ent_swap.trans (Ent.cons ent_swap)) (sq_tl (sq_tl (sq_tl hDb))) has (by omega) ok fun as' has' => ?_
  have n1 := fun c3' r => hN (st.deed D) ad' as' G2 c3' hdh hdr (mkI c3' r) (by rw [hdr]; exact has')
  rw [← hdh, ← hdr]
  refine s_ent (M := HeapIs A.Heap p ad' (st.deed D) :: pt h (.lst ((st.deed D).hands.map oV)) :: RowsA r as' (st.deed D).rows :: pt q (.lst [nV c0, nV c1, nV c2, nV c3]) :: pt c (.lst (C.map nV)) :: R) (ent_pick 2 rfl) ?_
  refine s_if (t_test ?_)
  tm_at "go"
  refine r_ixL (sq_tl (sq_tl (sq_tl (sq_tl (sq_tl hDb))))) (atI_nat (j := 0) (deed_word D)) ?_
  tm_at "go"
  rcases hf with ⟨f1, f2, f3⟩ | ⟨f1, f2⟩
  · refine ex_c (fun _ => ?_) fun n => absurd f1 n
    rw [if_pos f1] at hth
    have hl1 : (st.deed D).there.length = st.there.length + 1 := by rw [hth, List.length_append]; rfl
    refine s_augL ?_
    tm_at "go"
    refine ⟨(c3 : Int), ?_⟩
    refine r_ixL (Has.sq (has_tl (has_tl (has_tl has_hd)))) (atI_nat (j := 3) rfl) ⟨rfl, ?_⟩
    tm_at "go"
    refine ⟨1, rfl, ?_⟩
    rw [show (c3 : Int) + 1 = ((c3 + 1 : Nat) : Int) by omega]
    refine r_setL (j := 3) (has_tl (has_tl (has_tl has_hd))) rfl (wr_tl (wr_tl (wr_tl wr_hd))) ?_
    exact ⟨_, Ent.refl _, n1 (c3 + 1) ⟨I.r.a, I.r.b, fun h => by have := I.r.c h; omega, fun h => by have := I.r.d h; omega⟩⟩
  · rw [if_neg f1, List.append_nil] at hth
    refine ex_c (fun n => absurd n f1) fun _ => s_next ⟨_, Ent.refl _, n1 c3 ⟨I.r.a, I.r.b, fun h => by rw [hth]; exact I.r.c h, fun h => by rw [hth]; exact I.r.d h⟩⟩
abbrev deeds09 (K : PySem.W.Frag) (A : Ex) : TS := (tFor (iList K (tCall (lift (P_law_deeds K A)) [] E0 (tCons (tOp rAddI (tOp rMulI (tOp rDivI (tVar 7) (tC (.int 9))) (tC (.int 8))) (tOp (rIxL K) (tLst (tCons (tC (.int 0)) (tCons (tC (.int 1)) (tCons (tC (.int 2)) (tCons (tC (.int 3)) (tCons (tC (.int 5)) (tCons (tC (.int 6)) (tCons (tC (.int 7)) tNil)))))))) (tOp rModI (tVar 7) (tC (.int 9))))) (tCons (tVar 3) (tCons (tVar 4) tNil))))) (gName 9)
      (deed09 K A))
theorem deeds09_ok {N B C0 : L2.St → AL → Prop} {QR : V → AL → Prop} {v0 v1 v5 v8 v9 : Option V} {p h r q c : Addr} {R : AL} {st : HS} {ad : HAd} {as : List Addr} {m : Nat} {prs : List (Nat × Bool)} {G : Nat → Prop} {C : List Nat} {c0 c1 c2 c3 n k x : Nat} (T : HT K A) (h1 : 1 ≤ n) (h8 : n ≤ 8) (I : I09 st G C m prs c0 c1 c2 c3 n k) (hm : k + 2 < 999) (has : as.length = st.rows.length) (hc : x % 9 ≤ 6)
    (hN : ∀ st2 ad2 as2 G2 c3' v9, I09 st2 G2 C m prs c0 c1 c2 c3' n (k + 2) → as2.length = st2.rows.length → N [v0, v1, some (.ref p), some (.ref h), some (.ref r), v5, some (.ref q), some (nV x), v8, v9] (L09 A.Heap p ad2 st2 h r q c as2 c0 c1 c2 c3' C R)) :
    SS (deeds09 K A) { nx := N, rt := QR, bk := B, ct := C0 } [v0, v1, some (.ref p), some (.ref h), some (.ref r), v5, some (.ref q), some (nV x), v8, v9] (L09 A.Heap p ad st h r q c as c0 c1 c2 c3 C R) := by
  unfold deeds09
  refine s_post ?_
  refine s_forL (e_post ?_)
  tm_at "go"
  refine r_I (.inr ⟨by decide, by decide⟩) ?_
  tm_at "go"
  refine ⟨by show 7 ≤ sizeLine; decide, fun l => ?_⟩
  tm_at "go"
  rw [show (x : Int) % 9 = ((x % 9 : Nat) : Int) by omega]
  obtain ⟨e, he⟩ : ∃ e : Nat, [V.int 0, .int 1, .int 2, .int 3, .int 5, .int 6, .int 7][x % 9]? = some (nV e) := by
    match x % 9, hc with
    | 0, _ => exact ⟨0, rfl⟩
    | 1, _ => exact ⟨1, rfl⟩
    | 2, _ => exact ⟨2, rfl⟩
    | 3, _ => exact ⟨3, rfl⟩
    | 4, _ => exact ⟨5, rfl⟩
    | 5, _ => exact ⟨6, rfl⟩
    | 6, _ => exact ⟨7, rfl⟩
  refine r_ixL (Has.sq has_hd) (atI_nat he) ?_
  tm_at "go"
  rw [show (x : Int) / 9 * 8 + (e : Int) = ((x / 9 * 8 + e : Nat) : Int) by omega]
  refine do_deeds (as := as) (hs := st.hands) (rw := st.rows) (Has.sq (has_tl (has_tl has_hd))) (rd_tl (rd_tl (rd_tl (rd_hd has)))) (by rw [I.hl]; exact h1) (by rw [I.hl]; exact h8) I.j.p fun dd bs ds hbs hds hgood => ?_
  refine ⟨L09 A.Heap p ad st h r q c as c0 c1 c2 c3 C (DeedsA dd bs ds :: R), (Ent.cons Ent.drop).trans (ent_put 5 (by simp)), ?_⟩
  refine ⟨dd, bs.map V.ref, rfl, Has.sq (has_tl (has_tl (has_tl (has_tl (has_tl deeds_p))))), fun i σ L' => ∃ (st : HS) (ad : HAd) (as : List Addr) (G : Nat → Prop) (c3 : Nat) (v9 : Option V), σ = [v0, v1, some (.ref p), some (.ref h), some (.ref r), v5, some (.ref q), some (nV x), v8, v9] ∧ I09 st G C m prs c0 c1 c2 c3 n (k + i) ∧ as.length = st.rows.length ∧ Deed.Goods (ds.drop i) st.hands st.rows ∧ L' = L09 A.Heap p ad st h r q c as c0 c1 c2 c3 C (DeedsA dd bs ds :: R), ⟨st, ad, as, G, c3, _, rfl, I, has, hgood, rfl⟩, ?_, ?_, ?_⟩
  · rintro i σ L' hi ⟨st, ad, as, G, c3, v9, rfl, I, has, hgood, rfl⟩
    exact Has.sq (has_tl (has_tl (has_tl (has_tl (has_tl deeds_p)))))
  · rintro i x' σ L' hx ⟨st, ad, as, G, c3, v9, rfl, I, has, hgood, rfl⟩
    obtain ⟨b, hb, rfl⟩ := map_get hx
    have hj : i < ds.length := by rw [← hbs]; exact (List.getElem?_eq_some_iff.mp hb).1
    obtain ⟨D, hD⟩ : ∃ D, ds[i]? = some D := ⟨_, List.getElem?_eq_getElem hj⟩
    obtain ⟨ok, hg2⟩ := goods_at hD hgood
    refine deed09_ok T (Has.sq (deeds_i hb hD)) I (by omega) has ok ?_
    intro st2 ad2 as2 G2 c3' e1 e2 I2 has2
    rw [← e1, ← e2] at hg2
    exact ⟨st2, ad2, as2, G2, c3', _, rfl, I2, has2, hg2, rfl⟩
  · rintro σ L' ⟨st, ad, as, G, c3, v9, rfl, I, has, hgood, rfl⟩
    rw [List.length_map, hbs] at I
    exact ⟨_, Ent.cons (Ent.cons (Ent.cons (Ent.cons (Ent.cons Ent.drop)))), hN st ad as G c3 _ (I.more (by omega)) has⟩
abbrev piece09 (K : PySem.W.Frag) (A : Ex) : TS := (tSeq (tIfS (tTest (tOp rEq (tOp (rIxL K) (tVar 6) (tC (.int 0))) (tC (.int 0)))) (tAsg (tCall (lift (P_law_came K A)) [] E0 (tCons (tVar 3) (tCons (tVar 4) tNil))) (gName 5)) tNext)
    (tSeq (tDrop (tCall (lift (P_law_counted K A)) [] E0 (tCons (tVar 6) (tCons (tCB (rLen K) (tCons (tVar 5) tNil)) tNil))))
    (tDrop (tMeth A.Heap "work" (lift (P_work K A)) [] E0 (tVar 2) (tCons (tC (.int 1)) tNil)))))
theorem piece09_ok {N B C0 : L2.St → AL → Prop} {QR : V → AL → Prop} {v0 v1 v7 v8 v9 : Option V} {p h r q c : Addr} {R : AL} {st : HS} {ad : HAd} {as : List Addr} {m : Nat} {prs : List (Nat × Bool)} {G : Nat → Prop} {C : List Nat} {c0 c1 c2 c3 n k : Nat} (T : HT K A) (I : I09 st G C m prs c0 c1 c2 c3 n k) (has : as.length = st.rows.length)
    (hN : ∀ st2 ad2 c' C' G2 m2 prs2 d0 d1 d2 d3, I09 st2 G2 C' m2 prs2 d0 d1 d2 d3 n k → as.length = st2.rows.length → N [v0, v1, some (.ref p), some (.ref h), some (.ref r), some (.ref c'), some (.ref q), v7, v8, v9] (L09 A.Heap p ad2 st2 h r q c' as d0 d1 d2 d3 C' R)) :
    SS (piece09 K A) { nx := N, rt := QR, bk := B, ct := C0 } [v0, v1, some (.ref p), some (.ref h), some (.ref r), some (.ref c), some (.ref q), v7, v8, v9] (L09 A.Heap p ad st h r q c as c0 c1 c2 c3 C R) := by
  have hbig := I.j.w.big
  unfold piece09
  refine s_post ?_
  refine s_seq ?_
  refine s_mid (Mid := fun σ L' => ∃ (c : Addr) (C1 : List Nat), (∃ m2 prs2 G2, J st.piece.1 G2 ∧ PL st.piece.1 G2 C1 (plN m2 prs2) ∧ CR st.piece.1 m2 prs2 (cnt0 c0 c3 C1.length) (cnt1 c0 c1 C1.length) (cnt2 c0 c2 c3 C1.length) (cnt3 c0 c2 c3 C1.length)) ∧ (c0 = 0 → C1.length ≤ c3) ∧ σ = [v0, v1, some (.ref p), some (.ref h), some (.ref r), some (.ref c), some (.ref q), v7, v8, v9] ∧ L' = L09 A.Heap p ad st h r q c as c0 c1 c2 c3 C1 R) ?_ ?_
  · refine s_if (t_test ?_)
    tm_at "go"
    refine r_ixL (Has.sq (has_tl (has_tl (has_tl has_hd)))) (atI_nat (j := 0) rfl) ?_
    tm_at "go"
    refine ex_c (fun cc => ?_) fun cc => ?_
    · have hc : c0 = 0 := by have := V.int.inj cc; omega
      tm_at "go"
      refine ⟨_, Ent.refl _, _, _, rfl, h, r, as, st.hands, st.rows, rfl, rfl, Has.sq (has_tl has_hd), rd_tl (rd_tl (rd_hd has)), by omega, I.j.p, fun d N1 h1 h2 => ?_⟩
      have hcr := cm_rch h1 h2
      have hnd := cm_nd st.hands st.rows N1
      generalize cm st.hands st.rows N1 = C1 at hcr hnd ⊢
      obtain ⟨G2, m2, prs2, j2, p2, hl, r2⟩ := I.r.idle I.j I.p hc hnd hcr
      refine ⟨_, ?_, d, C1, ⟨m2, prs2, G2, j2, p2, r2⟩, fun _ => hl, rfl, rfl⟩
      exact (Ent.cons ((ent_pick 4 rfl).trans Ent.drop)).trans (ent_put 4 (by simp))
    · have hc : c0 ≠ 0 := fun z => cc (by rw [z]; rfl)
      obtain ⟨m2, prs2, j2, p2, r2⟩ := I.r.on I.j I.p hc C.length
      exact s_next ⟨_, Ent.refl _, c, C, ⟨m2, prs2, G, j2, p2, r2⟩, fun z => absurd z hc, rfl, rfl⟩
  · rintro σ L' ⟨c, C1, ⟨m2, prs2, G2, j2, p2, r2⟩, hle, rfl, rfl⟩
    have hl2 : cnt0 c0 c3 C1.length = 0 → cnt2 c0 c2 c3 C1.length ≤ c3 := fun z => by
      by_cases hc : c0 = 0
      · unfold cnt2; rw [if_pos hc]; omega
      · unfold cnt2; rw [if_neg hc]
        have hn : plN m prs ≠ [] := fun z => hc (I.r.nil.mpr z)
        have h3 := I.r.c hn
        have ha := I.r.a
        unfold cnt0 at z
        rw [if_neg hc] at z
        -- one step is left: the count of those that are there is at least the last one
        have hz : trues prs ≤ st.there.length := by
          obtain ⟨jj, ⟨m', e1, pp, e2⟩ | ⟨e1, y, prs', e2, pp, e3⟩⟩ := I.j.piece_plN I.p hn
          · have : prs = [] := List.eq_nil_of_length_eq_zero (by omega)
            rw [this]; exact Nat.zero_le _
          · have : prs' = [] := List.eq_nil_of_length_eq_zero (by rw [e2] at ha; simp at ha; omega)
            subst this
            have ht : trues [] = 0 := rfl
            omega
        omega
    tm_at "gn"
    rw [List.length_map]
    refine ⟨pt q (.lst [nV c0, nV c1, nV c2, nV c3]) :: HeapIs A.Heap p ad st :: pt h (.lst (st.hands.map oV)) :: RowsA r as st.rows :: pt c (.lst (C1.map nV)) :: R, ent_pick 3 rfl, _, _, rfl, q, _, c0, c1, c2, c3, C1.length, rfl, rfl, rfl, hle, hl2, ?_⟩
    tm_at "gn"
    have hpc : ∀ k, k < 1 → HW (HS.work k st).1 ∧ PcW (HS.work k st).1 := fun k hk => by
      have e : k = 0 := by omega
      subst e
      exact ⟨I.j.w, I.j.pc⟩
    refine do_work (n := 1) (st := st) (ad := ad) (R := pt q (.lst [nV (cnt0 c0 c3 C1.length), nV (cnt1 c0 c1 C1.length), nV (cnt2 c0 c2 c3 C1.length), nV (cnt3 c0 c2 c3 C1.length)]) :: pt h (.lst (st.hands.map oV)) :: RowsA r as st.rows :: pt c (.lst (C1.map nV)) :: R) ent_swap (by decide) hpc fun d ad2 => ?_
    obtain ⟨w1, w2, w3⟩ := piece_same st
    have n1 := hN st.piece.1 ad2 c C1 G2 m2 prs2 _ _ _ _ ⟨j2, p2, r2, by rw [w3]; exact I.rm, by rw [w1]; exact I.hl, by rw [w2]; exact I.ml⟩ (by rw [w2]; exact has)
    unfold L09 at n1
    rw [w1, w2] at n1
    exact ⟨_, Ent.drop.trans (Ent.cons ((ent_put 2 (by simp)))), n1⟩
abbrev told09 (K : PySem.W.Frag) (A : Ex) : TS := (tSeq (tIfS (tTest (tOp rNe (tOp rEq (tMeth A.Heap "phase" (lift (P_phase K A)) [] E0 (tVar 2) tNil) (tC (.str "marking"))) (tOp rGtI (tOp (rIxL K) (tVar 6) (tC (.int 1))) (tC (.int 0))))) (tRet (tC (.bl false))) tNext)
    (tIfS (tAnd (tTest (tOp rGtI (tOp (rIxL K) (tVar 6) (tC (.int 1))) (tC (.int 0)))) (tNot (tB (tCall (lift (P_law_good K A)) [] E0 (tCons (tVar 2) (tCons (tVar 4) (tCons (tVar 5) tNil))))))) (tRet (tC (.bl false))) tNext))
theorem stg_mark {s : Stg} : V.str s.str = V.str "marking" ↔ s = .marking := by
  constructor
  · intro h
    cases s with
    | idle => exact absurd h (by decide)
    | marking => rfl
    | sweeping => exact absurd h (by decide)
  · intro h; rw [h]; rfl
theorem told09_ok {N B C0 : L2.St → AL → Prop} {QR : V → AL → Prop} {v0 v1 v3 v7 v8 v9 : Option V} {p h r q c : Addr} {R : AL} {st : HS} {ad : HAd} {as : List Addr} {m : Nat} {prs : List (Nat × Bool)} {G : Nat → Prop} {C : List Nat} {c0 c1 c2 c3 n k : Nat} (T : HT K A) (I : I09 st G C m prs c0 c1 c2 c3 n k) (has : as.length = st.rows.length)
    (hN : N [v0, v1, some (.ref p), v3, some (.ref r), some (.ref c), some (.ref q), v7, v8, v9] (L09 A.Heap p ad st h r q c as c0 c1 c2 c3 C R)) :
    SS (told09 K A) { nx := N, rt := QR, bk := B, ct := C0 } [v0, v1, some (.ref p), v3, some (.ref r), some (.ref c), some (.ref q), v7, v8, v9] (L09 A.Heap p ad st h r q c as c0 c1 c2 c3 C R) := by
  have hmk := I.r.mark I.j I.p
  unfold told09
  refine s_seq ?_
  refine s_if (t_test ?_)
  tm_at "go"
  refine do_phase (Ent.refl _) ?_
  tm_at "go"
  refine r_ixL (Has.sq (has_tl (has_tl (has_tl has_hd)))) (atI_nat (j := 1) rfl) ?_
  tm_at "go"
  have e : decide (V.str st.stage.str = V.str "marking") = decide ((0 : Int) < (c1 : Int)) := decide_eq_decide.mpr (by rw [stg_mark, hmk]; omega)
  rw [e]
  refine ex_n (fun z => absurd rfl z) fun _ => s_next ?_
  refine s_if (t_and (t_test ?_))
  tm_at "go"
  refine r_ixL (Has.sq (has_tl (has_tl (has_tl has_hd)))) (atI_nat (j := 1) rfl) ?_
  tm_at "go"
  refine ex_c (fun z => ?_) fun _ => both_f (s_next hN)
  have hs : st.stage = .marking := hmk.mpr (by omega)
  tm_at "go"
  refine ⟨_, Ent.refl _, _, _, _, rfl, p, r, c, as, ad, st, _, G, C, _, rfl, rfl, rfl, rfl, rd_tl (rd_hd has), Has.sq (has_tl (has_tl (has_tl has_hd))), I.j, I.p, hs, ?_⟩
  exact ⟨true, rfl, both_f (s_next hN)⟩
abbrev cell09 (K : PySem.W.Frag) (A : Ex) : TS := (tSeq (tIfS (tTest (tOp rGtI (tOp rModI (tVar 7) (tC (.int 9))) (tC (.int 6)))) (tFor (iRng1 (tCons (tOp rSubI (tOp rModI (tVar 7) (tC (.int 9))) (tC (.int 6))) tNil)) (gName 8)
      (piece09 K A)) (deeds09 K A)) (told09 K A))
theorem cell09_ok {N B C0 : L2.St → AL → Prop} {QR : V → AL → Prop} {v0 v1 v8 v9 : Option V} {p h r q c : Addr} {R : AL} {st : HS} {ad : HAd} {as : List Addr} {m : Nat} {prs : List (Nat × Bool)} {G : Nat → Prop} {C : List Nat} {c0 c1 c2 c3 n k x : Nat} (T : HT K A) (h1 : 1 ≤ n) (h8 : n ≤ 8) (I : I09 st G C m prs c0 c1 c2 c3 n k) (hm : k + 2 < 999) (has : as.length = st.rows.length)
    (hN : ∀ st2 ad2 as2 c' C' G2 m2 prs2 d0 d1 d2 d3 v8 v9, I09 st2 G2 C' m2 prs2 d0 d1 d2 d3 n (k + 2) → as2.length = st2.rows.length → N [v0, v1, some (.ref p), some (.ref h), some (.ref r), some (.ref c'), some (.ref q), some (nV x), v8, v9] (L09 A.Heap p ad2 st2 h r q c' as2 d0 d1 d2 d3 C' R)) :
    SS (cell09 K A) { nx := N, rt := QR, bk := B, ct := C0 } [v0, v1, some (.ref p), some (.ref h), some (.ref r), some (.ref c), some (.ref q), some (nV x), v8, v9] (L09 A.Heap p ad st h r q c as c0 c1 c2 c3 C R) := by
  unfold cell09
  refine s_seq ?_
  refine s_if (t_test ?_)
  tm_at "go"
  refine ex_c (fun z => ?_) fun z => ?_
  · refine s_forR1 ?_
    tm_at "go"
    obtain ⟨t, ht, e⟩ : ∃ t : Nat, t ≤ 2 ∧ (x : Int) % 9 - 6 = (t : Int) := ⟨x % 9 - 6, by omega, by omega⟩
    rw [e]
    refine ⟨(t : Int), rfl, by omega, by omega, fun i σ L' => ∃ (st : HS) (ad : HAd) (c : Addr) (C : List Nat) (G : Nat → Prop) (m : Nat) (prs : List (Nat × Bool)) (c0 c1 c2 c3 : Nat) (v8 : Option V), σ = [v0, v1, some (.ref p), some (.ref h), some (.ref r), some (.ref c), some (.ref q), some (nV x), v8, v9] ∧ I09 st G C m prs c0 c1 c2 c3 n k ∧ as.length = st.rows.length ∧ L' = L09 A.Heap p ad st h r q c as c0 c1 c2 c3 C R, ⟨st, ad, c, C, G, m, prs, c0, c1, c2, c3, _, rfl, I, has, rfl⟩, ?_, ?_⟩
    · rintro i σ L' hi ⟨st, ad, c, C, G, m, prs, c0, c1, c2, c3, v8, rfl, I, has, rfl⟩
      refine piece09_ok T I has ?_
      intro st2 ad2 c' C' G2 m2 prs2 d0 d1 d2 d3 I2 has2
      exact ⟨st2, ad2, c', C', G2, m2, prs2, d0, d1, d2, d3, _, rfl, I2, has2, rfl⟩
    · rintro σ L' ⟨st, ad, c, C, G, m, prs, c0, c1, c2, c3, v8, rfl, I, has, rfl⟩
      exact told09_ok T I has (hN st ad as c C G m prs c0 c1 c2 c3 _ _ (I.more (by omega)) has)
  · refine deeds09_ok T h1 h8 I hm has (by omega) ?_
    intro st2 ad2 as2 G2 c3' v9 I2 has2
    exact told09_ok T I2 has2 (hN st2 ad2 as2 c C G2 m prs c0 c1 c2 c3' _ _ I2 has2)
theorem p_law (T : HT K A) (he : ELe Ea E) (h : P_law K A vs L Q Ea) : SS (t_law K A E) { nx := fun _ L => Q .non L, rt := Q } (start N_law vs) L := by
  obtain ⟨_, rfl, a, ns, rfl, rfl, hl, q⟩ := h
  unfold t_law
  tm_at "gn"
  refine do_mixed_at (by decide) (by decide) scr_hd fun n hn => ?_
  tm_at "gn"
  rw [show (1 : Int) + (n : Int) % 8 = ((1 + n % 8 : Nat) : Int) by omega]
  have hm1 : 1 ≤ 1 + n % 8 := by omega
  have hm8 : 1 + n % 8 ≤ 8 := by omega
  generalize 1 + n % 8 = m at hm1 hm8 ⊢
  refine e_make ele0 ?_
  tm_at "gn"
  intro p dx
  refine do_init hm1 hm8 fun ad => ?_
  refine ⟨rfl, ?_⟩
  tm_at "gn"
  refine e_lcPlainR m (fun _ => true) (fun _ => .non) (by omega) (fun _ => rfl) (by tm_at "go"; exact ⟨rfl, rfl⟩) (fun i hi L' en => t_yes ⟨rfl, rfl⟩) (fun i hi _ L' en => e_c ⟨rfl, rfl⟩) fun h => ?_
  rw [nones]
  tm_at "gn"
  refine ⟨by show 0 ≤ sizeLine; decide, fun r => ?_⟩
  tm_at "gn"
  refine s_ent (M := HeapIs A.Heap p ad (HS.new m 1000) :: pt h (.lst ((HS.new m 1000).hands.map oV)) :: RowsA r [] (HS.new m 1000).rows :: [Scr K a ns]) ((ent_pick 2 rfl).trans (Ent.cons (ent_swap.trans (Ent.cons rows_new)))) ?_
  have I0 := I4.new hm8
  generalize HS.new m 1000 = s0 at I0 ⊢
  have hs0 : ([] : List Addr).length = s0.rows.length := by have := I0.ml; show 0 = _; omega
  refine s_mid (Mid := fun σ L' => ∃ (st : HS) (ad : HAd) (as : List Addr) (v5 v6 v7 v8 v9 : Option V), σ = [some (.ref a), some (nV m), some (.ref p), some (.ref h), some (.ref r), v5, v6, v7, v8, v9] ∧ I4 st m 200 ∧ as.length = st.rows.length ∧ L' = HeapIs A.Heap p ad st :: pt h (.lst (st.hands.map oV)) :: RowsA r as st.rows :: [Scr K a ns]) ?_ ?_
  · refine s_if (t_and (t_test ?_))
    tm_at "go"
    refine ex_c (fun c => ?_) fun c => both_f (s_next ?_)
    · have hm2 : 2 ≤ m := by omega
      tm_at "go"
      refine do_mixed_at (by decide) (by decide) (sq_tl (sq_tl (sq_tl scr_hd))) fun n2 hn2 => ?_
      tm_at "go"
      refine ex_c (fun c2 => ?_) fun c2 => s_next ?_
      · tm_at "go"
        refine do_mixed_at (by decide) (by decide) (sq_tl (sq_tl (sq_tl scr_hd))) fun n3 hn3 => ?_
        tm_at "go"
        rw [show (n3 : Int) / 24 % 21 = ((n3 / 24 % 21 : Nat) : Int) by omega]
        have h21 : n3 / 24 % 21 ≤ 20 := by omega
        generalize n3 / 24 % 21 = sz at h21 ⊢
        refine do_chain (n := sz) (Ent.refl _) hs0 I0 hm2 (by omega) fun st2 ad2 as2 I2 has2 => ?_
        exact ⟨_, Ent.refl _, st2, ad2, as2, _, _, _, _, _, rfl, I2.upp (by omega), has2, rfl⟩
      · exact ⟨_, Ent.refl _, s0, ad, ([] : List Addr), _, _, _, _, _, rfl, I0.upp (by omega), hs0, rfl⟩
    · exact ⟨_, Ent.refl _, s0, ad, ([] : List Addr), _, _, _, _, _, rfl, I0.upp (by omega), hs0, rfl⟩
  · rintro σ L' ⟨st, ad, as, v5, v6, v7, v8, v9, rfl, I, has, rfl⟩
    have I2 := I09.of I
    clear I
    tm_at "gn"
    refine ⟨by show 0 ≤ sizeLine; decide, fun c => ?_⟩
    tm_at "gn"
    rw [List.length_map, has]
    refine ⟨by show 4 ≤ sizeLine; decide, fun q1 => ?_⟩
    refine s_ent (M := L09 A.Heap p ad st h r q1 c as 0 0 0 st.rows.length [] [Scr K a ns]) ((ent_pick 2 rfl).trans (Ent.cons ((ent_pick 2 rfl).trans (Ent.cons (ent_pick 2 rfl))))) ?_
    tm_at "gn"
    refine s_mid (Mid := fun σ L' => True) ?_ ?_
    · refine s_forL (e_post ?_)
      tm_at "go"
      refine do_mixed (m := 51) hl (sq_tl (sq_tl (sq_tl (sq_tl (sq_tl scr_hd))))) fun d ms hms hms2 _ => ?_
      refine ⟨L09 A.Heap p ad st h r q1 c as 0 0 0 st.rows.length [] (pt d (.lst (ms.map nV)) :: [Scr K a ns]), ent_put 5 (by simp), ?_⟩
      refine ⟨d, ms.map nV, rfl, Has.sq (has_tl (has_tl (has_tl (has_tl (has_tl has_hd))))), fun i σ L' => ∃ (st : HS) (ad : HAd) (as : List Addr) (c : Addr) (C : List Nat) (G : Nat → Prop) (mm : Nat) (prs : List (Nat × Bool)) (c0 c1 c2 c3 : Nat) (v7 v8 v9 : Option V), σ = [some (.ref a), some (nV m), some (.ref p), some (.ref h), some (.ref r), some (.ref c), some (.ref q1), v7, v8, v9] ∧ I09 st G C mm prs c0 c1 c2 c3 m (200 + 2 * i) ∧ as.length = st.rows.length ∧ L' = L09 A.Heap p ad st h r q1 c as c0 c1 c2 c3 C (pt d (.lst (ms.map nV)) :: [Scr K a ns]), ⟨st, ad, as, c, [], _, 0, [], 0, 0, 0, _, _, _, _, rfl, I2, has, rfl⟩, ?_, ?_, ?_⟩
      · rintro i σ L' hi ⟨st, ad, as, c, C, G, mm, prs, c0, c1, c2, c3, v7, v8, v9, rfl, I, has, rfl⟩
        exact Has.sq (has_tl (has_tl (has_tl (has_tl (has_tl has_hd)))))
      · rintro i x σ L' hx ⟨st, ad, as, c, C, G, mm, prs, c0, c1, c2, c3, v7, v8, v9, rfl, I, has, rfl⟩
        obtain ⟨y, hy, rfl⟩ := map_get hx
        have hi : i < ms.length := (List.getElem?_eq_some_iff.mp hy).1
        refine cell09_ok T hm1 hm8 I (by omega) has ?_
        intro st2 ad2 as2 c' C' G2 m2 prs2 d0 d1 d2 d3 v8 v9 I2 has2
        exact ⟨st2, ad2, as2, c', C', G2, m2, prs2, d0, d1, d2, d3, _, _, _, rfl, I2.more (by omega), has2, rfl⟩
      · rintro σ L' ⟨st, ad, as, c, C, G, mm, prs, c0, c1, c2, c3, v7, v8, v9, rfl, I, has, rfl⟩
        exact ⟨_, Ent.refl _, trivial⟩
    · rintro σ L' _
      tm_at "go"
      exact q _
end
def top (i : Nat) : Stmt := PySem.Challenge.pw_markpause_k09_nothing_hides.main.body.getD i (.Pass ⟨0, 0, 0, 0⟩)
/-- where the top has laid the defs -/
structure Dd where
  f_law_came : Addr
  d_law_came : FuncData
  f_law_cell_at : Addr
  d_law_cell_at : FuncData
  f_law_whole : Addr
  d_law_whole : FuncData
  f_law_ahead : Addr
  d_law_ahead : FuncData
  f_waiting : Addr
  d_waiting : FuncData
  f_marked : Addr
  d_marked : FuncData
  f_phase : Addr
  d_phase : FuncData
  f_law_done : Addr
  d_law_done : FuncData
  f_need_hand : Addr
  d_need_hand : FuncData
  f_mark : Addr
  d_mark : FuncData
  f_row_of : Addr
  d_row_of : FuncData
  f_sweep : Addr
  d_sweep : FuncData
  f_boxes : Addr
  d_boxes : FuncData
  f_rest : Addr
  d_rest : FuncData
  f_law_counted : Addr
  d_law_counted : FuncData
  f_law_deeds : Addr
  d_law_deeds : FuncData
  f_law_mixed_at : Addr
  d_law_mixed_at : FuncData
  f_law_good : Addr
  d_law_good : FuncData
  f_share : Addr
  d_share : FuncData
  f_put : Addr
  d_put : FuncData
  f_take : Addr
  d_take : FuncData
  f_make : Addr
  d_make : FuncData
  f_drop : Addr
  d_drop : FuncData
  f_look_at : Addr
  d_look_at : FuncData
  f_begin : Addr
  d_begin : FuncData
  f_settle : Addr
  d_settle : FuncData
  f_init : Addr
  d_init : FuncData
  f_law_asked : Addr
  d_law_asked : FuncData
  f_piece : Addr
  d_piece : FuncData
  f_law_mixed : Addr
  d_law_mixed : FuncData
  f_work : Addr
  d_work : FuncData
  f_law_chain : Addr
  d_law_chain : FuncData
  f_law : Addr
  d_law : FuncData
/-- what the walk asks of the top -/
structure Txt (K : PySem.W.Frag) (mg : Str → Option Value) (A : Ex) (D : Dd) : Prop where
  H : HT K A
  F_law_came : Fun K "_law_came" "_law_came" (top 31) D.f_law_came D.d_law_came
  b_law_came : Binds K D.d_law_came ["_law_hands", "_law_rows"] []
  m_law_came : mg "_law_came" = some (.ref D.f_law_came)
  k_law_came : PySem.W.keepIn K (.ref D.f_law_came) = true
  F_law_cell_at : Fun K "_law_cell_at" "_law_cell_at" (top 23) D.f_law_cell_at D.d_law_cell_at
  b_law_cell_at : Binds K D.d_law_cell_at ["_law_script", "_law_k"] []
  m_law_cell_at : mg "_law_cell_at" = some (.ref D.f_law_cell_at)
  k_law_cell_at : PySem.W.keepIn K (.ref D.f_law_cell_at) = true
  F_law_whole : Fun K "_law_whole" "_law_whole" (top 26) D.f_law_whole D.d_law_whole
  b_law_whole : Binds K D.d_law_whole ["_law_found"] []
  m_law_whole : mg "_law_whole" = some (.ref D.f_law_whole)
  k_law_whole : PySem.W.keepIn K (.ref D.f_law_whole) = true
  F_law_ahead : Fun K "_law_ahead" "_law_ahead" (top 33) D.f_law_ahead D.d_law_ahead
  b_law_ahead : Binds K D.d_law_ahead ["_law_rows", "_law_came_here", "_law_marked", "_law_waiting"] []
  m_law_ahead : mg "_law_ahead" = some (.ref D.f_law_ahead)
  k_law_ahead : PySem.W.keepIn K (.ref D.f_law_ahead) = true
  F_waiting : Fun K "waiting" "Heap.waiting" (inClass (top 21) 15) D.f_waiting D.d_waiting
  b_waiting : Binds K D.d_waiting ["self"] []
  M_waiting : Meth K A.Heap "waiting" D.f_waiting
  F_marked : Fun K "marked" "Heap.marked" (inClass (top 21) 14) D.f_marked D.d_marked
  b_marked : Binds K D.d_marked ["self"] []
  M_marked : Meth K A.Heap "marked" D.f_marked
  F_phase : Fun K "phase" "Heap.phase" (inClass (top 21) 13) D.f_phase D.d_phase
  b_phase : Binds K D.d_phase ["self"] []
  M_phase : Meth K A.Heap "phase" D.f_phase
  F_law_done : Fun K "_law_done" "_law_done" (top 29) D.f_law_done D.d_law_done
  b_law_done : Binds K D.d_law_done ["_law_deed", "_law_hands", "_law_rows"] []
  m_law_done : mg "_law_done" = some (.ref D.f_law_done)
  k_law_done : PySem.W.keepIn K (.ref D.f_law_done) = true
  F_need_hand : Fun K "need_hand" "Heap.need_hand" (inClass (top 21) 2) D.f_need_hand D.d_need_hand
  b_need_hand : Binds K D.d_need_hand ["self", "hand"] []
  M_need_hand : Meth K A.Heap "need_hand" D.f_need_hand
  F_mark : Fun K "mark" "mark" (top 10) D.f_mark D.d_mark
  b_mark : Binds K D.d_mark ["heap", "box"] []
  m_mark : mg "mark" = some (.ref D.f_mark)
  k_mark : PySem.W.keepIn K (.ref D.f_mark) = true
  F_row_of : Fun K "row_of" "Heap.row_of" (inClass (top 21) 3) D.f_row_of D.d_row_of
  b_row_of : Binds K D.d_row_of ["self", "hand", "slot"] []
  M_row_of : Meth K A.Heap "row_of" D.f_row_of
  F_sweep : Fun K "sweep" "sweep" (top 13) D.f_sweep D.d_sweep
  b_sweep : Binds K D.d_sweep ["heap"] []
  m_sweep : mg "sweep" = some (.ref D.f_sweep)
  k_sweep : PySem.W.keepIn K (.ref D.f_sweep) = true
  F_boxes : Fun K "boxes" "Heap.boxes" (inClass (top 21) 11) D.f_boxes D.d_boxes
  b_boxes : Binds K D.d_boxes ["self"] []
  M_boxes : Meth K A.Heap "boxes" D.f_boxes
  F_rest : Fun K "rest" "Heap.rest" (inClass (top 21) 1) D.f_rest D.d_rest
  b_rest : Binds K D.d_rest ["self"] []
  M_rest : Meth K A.Heap "rest" D.f_rest
  F_law_counted : Fun K "_law_counted" "_law_counted" (top 34) D.f_law_counted D.d_law_counted
  b_law_counted : Binds K D.d_law_counted ["_law_counts", "_law_many"] []
  m_law_counted : mg "_law_counted" = some (.ref D.f_law_counted)
  k_law_counted : PySem.W.keepIn K (.ref D.f_law_counted) = true
  F_law_deeds : Fun K "_law_deeds" "_law_deeds" (top 28) D.f_law_deeds D.d_law_deeds
  b_law_deeds : Binds K D.d_law_deeds ["_law_cell", "_law_hands", "_law_rows"] []
  m_law_deeds : mg "_law_deeds" = some (.ref D.f_law_deeds)
  k_law_deeds : PySem.W.keepIn K (.ref D.f_law_deeds) = true
  F_law_mixed_at : Fun K "_law_mixed_at" "_law_mixed_at" (top 24) D.f_law_mixed_at D.d_law_mixed_at
  b_law_mixed_at : Binds K D.d_law_mixed_at ["_law_script", "_law_k"] []
  m_law_mixed_at : mg "_law_mixed_at" = some (.ref D.f_law_mixed_at)
  k_law_mixed_at : PySem.W.keepIn K (.ref D.f_law_mixed_at) = true
  F_law_good : Fun K "_law_good" "_law_good" (top 35) D.f_law_good D.d_law_good
  b_law_good : Binds K D.d_law_good ["_law_heap", "_law_rows", "_law_came_here"] []
  m_law_good : mg "_law_good" = some (.ref D.f_law_good)
  k_law_good : PySem.W.keepIn K (.ref D.f_law_good) = true
  F_share : Fun K "share" "Heap.share" (inClass (top 21) 7) D.f_share D.d_share
  b_share : Binds K D.d_share ["self", "hand", "other"] []
  M_share : Meth K A.Heap "share" D.f_share
  F_put : Fun K "put" "Heap.put" (inClass (top 21) 6) D.f_put D.d_put
  b_put : Binds K D.d_put ["self", "hand", "slot", "other"] []
  M_put : Meth K A.Heap "put" D.f_put
  F_take : Fun K "take" "Heap.take" (inClass (top 21) 5) D.f_take D.d_take
  b_take : Binds K D.d_take ["self", "hand", "other", "slot"] []
  M_take : Meth K A.Heap "take" D.f_take
  F_make : Fun K "make" "Heap.make" (inClass (top 21) 4) D.f_make D.d_make
  b_make : Binds K D.d_make ["self", "hand", "slots"] []
  M_make : Meth K A.Heap "make" D.f_make
  F_drop : Fun K "drop" "Heap.drop" (inClass (top 21) 8) D.f_drop D.d_drop
  b_drop : Binds K D.d_drop ["self", "hand"] []
  M_drop : Meth K A.Heap "drop" D.f_drop
  F_look_at : Fun K "look_at" "look_at" (top 12) D.f_look_at D.d_look_at
  b_look_at : Binds K D.d_look_at ["heap"] []
  m_look_at : mg "look_at" = some (.ref D.f_look_at)
  k_look_at : PySem.W.keepIn K (.ref D.f_look_at) = true
  F_begin : Fun K "begin" "begin" (top 11) D.f_begin D.d_begin
  b_begin : Binds K D.d_begin ["heap"] []
  m_begin : mg "begin" = some (.ref D.f_begin)
  k_begin : PySem.W.keepIn K (.ref D.f_begin) = true
  F_settle : Fun K "settle" "settle" (top 14) D.f_settle D.d_settle
  b_settle : Binds K D.d_settle ["heap"] []
  m_settle : mg "settle" = some (.ref D.f_settle)
  k_settle : PySem.W.keepIn K (.ref D.f_settle) = true
  F_init : Fun K "__init__" "Heap.__init__" (inClass (top 21) 0) D.f_init D.d_init
  b_init : Binds K D.d_init ["self", "hands", "room"] []
  M_init : Mk K A.Heap D.f_init
  F_law_asked : Fun K "_law_asked" "_law_asked" (top 30) D.f_law_asked D.d_law_asked
  b_law_asked : Binds K D.d_law_asked ["_law_heap", "_law_deed"] []
  m_law_asked : mg "_law_asked" = some (.ref D.f_law_asked)
  k_law_asked : PySem.W.keepIn K (.ref D.f_law_asked) = true
  F_piece : Fun K "piece" "piece" (top 15) D.f_piece D.d_piece
  b_piece : Binds K D.d_piece ["heap"] []
  m_piece : mg "piece" = some (.ref D.f_piece)
  k_piece : PySem.W.keepIn K (.ref D.f_piece) = true
  F_law_mixed : Fun K "_law_mixed" "_law_mixed" (top 25) D.f_law_mixed D.d_law_mixed
  b_law_mixed : Binds K D.d_law_mixed ["_law_script", "_law_most"] []
  m_law_mixed : mg "_law_mixed" = some (.ref D.f_law_mixed)
  k_law_mixed : PySem.W.keepIn K (.ref D.f_law_mixed) = true
  F_work : Fun K "work" "Heap.work" (inClass (top 21) 12) D.f_work D.d_work
  b_work : Binds K D.d_work ["self", "pieces"] []
  M_work : Meth K A.Heap "work" D.f_work
  F_law_chain : Fun K "_law_chain" "_law_chain" (top 32) D.f_law_chain D.d_law_chain
  b_law_chain : Binds K D.d_law_chain ["_law_heap", "_law_hands", "_law_rows", "_law_size"] []
  m_law_chain : mg "_law_chain" = some (.ref D.f_law_chain)
  k_law_chain : PySem.W.keepIn K (.ref D.f_law_chain) = true
  F_law : Fun K "law" "law" (top 36) D.f_law D.d_law
  b_law : Binds K D.d_law ["_law_script"] []
  m_law : mg "law" = some (.ref D.f_law)
  k_law : PySem.W.keepIn K (.ref D.f_law) = true
  g_Heap : mg "Heap" = some (.ref A.Heap)
  g_NoHand : mg "NoHand" = some (.ref A.NoHand)
  g_NoSlot : mg "NoSlot" = some (.ref A.NoSlot)
  g_NoRoom : mg "NoRoom" = some (.ref A.NoRoom)
  g_NothingHeld : mg "NothingHeld" = some (.ref A.NothingHeld)
  g_NoWork : mg "NoWork" = some (.ref A.NoWork)
  g_NoHeap : mg "NoHeap" = some (.ref A.NoHeap)
  x_NoHand : PySem.W.excIn K A.NoHand [.type "ValueError", .type "Exception", .type "BaseException", .type "object"] "ValueError.__new__" = true
  kx_NoHand : PySem.W.keepIn K (.ref A.NoHand) = true
  bx_NoHand : PySem.W.subIn K (.ref A.NoHand) (.type "BaseException") = some true
  tx_NoHand : PySem.W.typeIn K (.ref A.NoHand) = some (.type "type")
  x_NoHeap : PySem.W.excIn K A.NoHeap [.type "ValueError", .type "Exception", .type "BaseException", .type "object"] "ValueError.__new__" = true
  kx_NoHeap : PySem.W.keepIn K (.ref A.NoHeap) = true
  bx_NoHeap : PySem.W.subIn K (.ref A.NoHeap) (.type "BaseException") = some true
  tx_NoHeap : PySem.W.typeIn K (.ref A.NoHeap) = some (.type "type")
  x_NoRoom : PySem.W.excIn K A.NoRoom [.type "ValueError", .type "Exception", .type "BaseException", .type "object"] "ValueError.__new__" = true
  kx_NoRoom : PySem.W.keepIn K (.ref A.NoRoom) = true
  bx_NoRoom : PySem.W.subIn K (.ref A.NoRoom) (.type "BaseException") = some true
  tx_NoRoom : PySem.W.typeIn K (.ref A.NoRoom) = some (.type "type")
  x_NoSlot : PySem.W.excIn K A.NoSlot [.type "ValueError", .type "Exception", .type "BaseException", .type "object"] "ValueError.__new__" = true
  kx_NoSlot : PySem.W.keepIn K (.ref A.NoSlot) = true
  bx_NoSlot : PySem.W.subIn K (.ref A.NoSlot) (.type "BaseException") = some true
  tx_NoSlot : PySem.W.typeIn K (.ref A.NoSlot) = some (.type "type")
  x_NoWork : PySem.W.excIn K A.NoWork [.type "ValueError", .type "Exception", .type "BaseException", .type "object"] "ValueError.__new__" = true
  kx_NoWork : PySem.W.keepIn K (.ref A.NoWork) = true
  bx_NoWork : PySem.W.subIn K (.ref A.NoWork) (.type "BaseException") = some true
  tx_NoWork : PySem.W.typeIn K (.ref A.NoWork) = some (.type "type")
  x_NothingHeld : PySem.W.excIn K A.NothingHeld [.type "ValueError", .type "Exception", .type "BaseException", .type "object"] "ValueError.__new__" = true
  kx_NothingHeld : PySem.W.keepIn K (.ref A.NothingHeld) = true
  bx_NothingHeld : PySem.W.subIn K (.ref A.NothingHeld) (.type "BaseException") = some true
  tx_NothingHeld : PySem.W.typeIn K (.ref A.NothingHeld) = some (.type "type")
  z_bool : mg "bool" = none
  z_int : mg "int" = none
  z_isinstance : mg "isinstance" = none
  z_len : mg "len" = none
  z_list : mg "list" = none
  z_max : mg "max" = none
  z_min : mg "min" = none
  z_range : mg "range" = none
  z_sorted : mg "sorted" = none
  c_MOST_HANDS : ∃ t, mg "MOST_HANDS" = some (.int 8 t)
  c_MOST_PIECES : ∃ t, mg "MOST_PIECES" = some (.int 2500 t)
  c_MOST_ROOM : ∃ t, mg "MOST_ROOM" = some (.int 1000 t)
  c_MOST_SLOTS : ∃ t, mg "MOST_SLOTS" = some (.int 4 t)
section
variable {P : Program} {w : World} {K : PySem.W.Frag} {mg : Str → Option Value} {base : Heap} {A : Ex} {D : Dd}
abbrev sm_law_came : Stmt := (top 31)
theorem sc_law_came : FnScope N_law_came ["_law_hands", "_law_rows"] (defScope sm_law_came) := ⟨rfl, rfl, rfl, by decide +kernel, rfl, by decide +kernel, by decide +kernel⟩
theorem ok_law_came (T : Txt K mg A D) : FnOk P w K mg base (L2.CX P w) 1 D.f_law_came D.d_law_came ["_law_hands", "_law_rows"] (lift (P_law_came K A)) := by
  refine T.F_law_came.okX sc_law_came (lift_len pm2_len) (fun cdv Ar outer s H vs Q E hr h => ?_)
  have hu := hu_of hr
  refine ⟨t_law_came K A E, ?_, lift_body h fun L Qa Ea he p => p_law_came he p⟩
  exact (pss_cons (ps_set (i := 2) sc_law_came.nd rfl (Or.inl rfl) (pe_lst pa_nil))
    (pss_cons (ps_setLc (i := 3) (own := [("_law_row", 6)]) (g := gName 6) (tt := tYes) rfl sc_law_came.nd rfl rfl (sw_true rfl rfl rfl (by decide +kernel)) (pi_list (pv 1)) (blkOk_by (N := N_law_came) (sc := defScope sm_law_came) (by decide +kernel)) (fun _ _ _ _ _ => pg_name (i := 6) sc_law_came.nd rfl (Or.inl rfl)) (fun _ _ _ _ _ => pts_nil) (fun _ _ _ _ _ => pe_bl))
    (pss_cons (ps_for PassesOwn.leaving rfl (pi_list (pv 0)) (pg_name (i := 4) sc_law_came.nd rfl (Or.inl rfl))
      (pss_one (ps_if (PW.pt (pw_and (pt_cmpR op_notNo (pv 4) pe_non (nomark _)) (pw_and1 (pt_not (pt_val (pe_ix ix_list (pv 3) (pv 4) (fun _ _ => rfl))))))) (pss_cons (ps_asg pe_bl (pg_sub (pv 3) (pv 4) set_list))
    (pss_one (ps_expr (pe_bm PySem.F.plainAttrs_list PySem.F.slot_list_append PySem.F.type_list_append mt_append (pv 2) (pa_cons (pv 4) pa_nil))))) pss_nil)))
    (pss_cons (ps_set (i := 5) sc_law_came.nd rfl (Or.inl rfl) pe_int)
    (pss_cons (ps_while PassesOwn.leaving (pt_cmpR op_lt (pv 5) (pe_callB cl_len (by rfl) T.z_len (by decide +kernel) (pa_cons (pv 2) pa_nil)) (nomark _))
      (pss_cons (ps_for PassesOwn.leaving rfl (pi_list (pe_ix ix_list (pv 1) (pe_ix ix_list (pv 2) (pv 5) (fun _ _ => rfl)) (fun _ _ => rfl))) (pg_name (i := 4) sc_law_came.nd rfl (Or.inl rfl))
      (pss_one (ps_if (PW.pt (pw_and (pt_cmpR op_notNo (pv 4) pe_non (nomark _)) (pw_and1 (pt_not (pt_val (pe_ix ix_list (pv 3) (pv 4) (fun _ _ => rfl))))))) (pss_cons (ps_asg pe_bl (pg_sub (pv 3) (pv 4) set_list))
    (pss_one (ps_expr (pe_bm PySem.F.plainAttrs_list PySem.F.slot_list_append PySem.F.type_list_append mt_append (pv 2) (pa_cons (pv 4) pa_nil))))) pss_nil)))
    (pss_one (ps_aug (i := 5) sc_law_came.nd rfl (Or.inl rfl) pe_int ip_add))))
    (pss_one (ps_ret (pv 2))))))))
abbrev sm_law_cell_at : Stmt := (top 23)
theorem sc_law_cell_at : FnScope N_law_cell_at ["_law_script", "_law_k"] (defScope sm_law_cell_at) := ⟨rfl, rfl, rfl, by decide +kernel, rfl, by decide +kernel, by decide +kernel⟩
theorem ok_law_cell_at (T : Txt K mg A D) : FnOk P w K mg base (L2.CX P w) 1 D.f_law_cell_at D.d_law_cell_at ["_law_script", "_law_k"] (lift (P_law_cell_at K A)) := by
  refine T.F_law_cell_at.okX sc_law_cell_at (lift_len pm2_len) (fun cdv Ar outer s H vs Q E hr h => ?_)
  have hu := hu_of hr
  refine ⟨t_law_cell_at K A E, ?_, lift_body h fun L Qa Ea he p => p_law_cell_at he p⟩
  exact (pss_cons (ps_if (pt_cmpR op_lt (pv 1) (pe_callB cl_len (by rfl) T.z_len (by decide +kernel) (pa_cons (pv 0) pa_nil)) (nomark _)) (pss_one (ps_ret (pe_ix ix_list (pv 0) (pv 1) (fun _ _ => rfl)))) pss_nil)
    (pss_one (ps_ret pe_int)))
abbrev sm_law_whole : Stmt := (top 26)
theorem sc_law_whole : FnScope N_law_whole ["_law_found"] (defScope sm_law_whole) := ⟨rfl, rfl, rfl, by decide +kernel, rfl, by decide +kernel, by decide +kernel⟩
theorem ok_law_whole (T : Txt K mg A D) : FnOk P w K mg base (L2.CX P w) 1 D.f_law_whole D.d_law_whole ["_law_found"] (lift (P_law_whole K A)) := by
  refine T.F_law_whole.okX sc_law_whole (lift_len pm1_len) (fun cdv Ar outer s H vs Q E hr h => ?_)
  have hu := hu_of hr
  refine ⟨t_law_whole K A E, ?_, lift_body h fun L Qa Ea he p => p_law_whole he p⟩
  exact (pss_one (ps_ret (pe_and (pe_callB call_isi (by rfl) T.z_isinstance (by decide +kernel) (pa_cons (pv 0) (pa_cons (pe_bltn (v := .ty "int") rfl T.z_int (by decide +kernel) rfl) pa_nil))) (pe_one (pe_not (pe_callB call_isi (by rfl) T.z_isinstance (by decide +kernel) (pa_cons (pv 0) (pa_cons (pe_bltn (v := .ty "bool") rfl T.z_bool (by decide +kernel) rfl) pa_nil))))))))
abbrev sm_law_ahead : Stmt := (top 33)
theorem sc_law_ahead : FnScope N_law_ahead ["_law_rows", "_law_came_here", "_law_marked", "_law_waiting"] (defScope sm_law_ahead) := ⟨rfl, rfl, rfl, by decide +kernel, rfl, by decide +kernel, by decide +kernel⟩
theorem ok_law_ahead (T : Txt K mg A D) : FnOk P w K mg base (L2.CX P w) 1 D.f_law_ahead D.d_law_ahead ["_law_rows", "_law_came_here", "_law_marked", "_law_waiting"] (lift (P_law_ahead K A)) := by
  refine T.F_law_ahead.okX sc_law_ahead (lift_len pm4_len) (fun cdv Ar outer s H vs Q E hr h => ?_)
  have hu := hu_of hr
  refine ⟨t_law_ahead K A E, ?_, lift_body h fun L Qa Ea he p => p_law_ahead he p⟩
  exact (pss_cons (ps_set (i := 4) sc_law_ahead.nd rfl (Or.inr rfl) (pe_lc (own := [("_law_row", 7)]) (g := gName 7) (tt := tYes) rfl sc_law_ahead.nd (pi_list (pv 0)) (blkOk_by (N := N_law_ahead) (sc := defScope sm_law_ahead) (by decide +kernel)) (fun _ _ _ _ _ => pg_name (i := 7) sc_law_ahead.nd rfl (Or.inl rfl)) (fun _ _ _ _ _ => pts_nil) (fun _ _ _ _ _ => pe_bl)))
    (pss_cons (ps_for PassesOwn.leaving rfl (pi_list (pv 1)) (pg_name (i := 5) sc_law_ahead.nd rfl (Or.inl rfl))
      (pss_one (ps_asg pe_bl (pg_sub (pv 4) (pv 5) set_list))))
    (pss_cons (ps_for PassesOwn.leaving rfl (pi_list (pv 2)) (pg_name (i := 5) sc_law_ahead.nd rfl (Or.inl rfl))
      (pss_one (ps_asg pe_bl (pg_sub (pv 4) (pv 5) set_list))))
    (pss_cons (ps_set (i := 6) sc_law_ahead.nd rfl (Or.inl rfl) (pe_callB cl_len (by rfl) T.z_len (by decide +kernel) (pa_cons (pe_lc (own := [("_law_box", 5)]) (g := gName 5) (tt := (tB (tOp (rIxL K) (tVar 4) (tVar 5)))) rfl sc_law_ahead.nd (pi_list (pv 1)) (blkOk_by (N := N_law_ahead) (sc := defScope sm_law_ahead) (by decide +kernel)) (fun _ _ _ _ _ => pg_name (i := 5) sc_law_ahead.nd rfl (Or.inl rfl)) (fun _ _ _ _ _ => (pts_one (pt_val (pe_ix ix_list (pv 4) (pv 5) (fun _ _ => rfl))))) (fun _ _ _ _ _ => (pv 5))) pa_nil)))
    (pss_cons (ps_set (i := 7) sc_law_ahead.nd rfl (Or.inl rfl) (pe_callTy cl_list (by rfl) T.z_list (by decide +kernel) (pa_cons (pv 3) pa_nil)))
    (pss_cons (ps_set (i := 8) sc_law_ahead.nd rfl (Or.inl rfl) pe_int)
    (pss_cons (ps_while PassesOwn.leaving (pt_cmpR op_lt (pv 8) (pe_callB cl_len (by rfl) T.z_len (by decide +kernel) (pa_cons (pv 7) pa_nil)) (nomark _))
      (pss_cons (ps_for PassesOwn.leaving rfl (pi_list (pe_ix ix_list (pv 0) (pe_ix ix_list (pv 7) (pv 8) (fun _ _ => rfl)) (fun _ _ => rfl))) (pg_name (i := 5) sc_law_ahead.nd rfl (Or.inl rfl))
      (pss_one (ps_if (PW.pt (pw_and (pt_cmpR op_notNo (pv 5) pe_non (nomark _)) (pw_and1 (pt_val (pe_ix ix_list (pv 4) (pv 5) (fun _ _ => rfl)))))) (pss_cons (ps_asg pe_bl (pg_sub (pv 4) (pv 5) set_list))
    (pss_cons (ps_set (i := 6) sc_law_ahead.nd rfl (Or.inl rfl) (pe_op op_sub (pv 6) pe_int))
    (pss_one (ps_expr (pe_bm PySem.F.plainAttrs_list PySem.F.slot_list_append PySem.F.type_list_append mt_append (pv 7) (pa_cons (pv 5) pa_nil)))))) pss_nil)))
    (pss_one (ps_aug (i := 8) sc_law_ahead.nd rfl (Or.inl rfl) pe_int ip_add))))
    (pss_one (ps_ret (pe_cmpR op_eq (pv 6) pe_int (nomark _)))))))))))
abbrev sm_waiting : Stmt := (inClass (top 21) 15)
theorem sc_waiting : FnScope N_waiting ["self"] (defScope sm_waiting) := ⟨rfl, rfl, rfl, by decide +kernel, rfl, by decide +kernel, by decide +kernel⟩
theorem ok_waiting (T : Txt K mg A D) : FnOk P w K mg base (L2.CX P w) 1 D.f_waiting D.d_waiting ["self"] (lift (P_waiting K A)) := by
  refine T.F_waiting.okX sc_waiting (lift_len pm1_len) (fun cdv Ar outer s H vs Q E hr h => ?_)
  have hu := hu_of hr
  refine ⟨t_waiting K A E, ?_, lift_body h fun L Qa Ea he p => p_waiting T.H he p⟩
  exact (pss_one (ps_ret (pe_slice sl_list (pe_fld (pv 0) rfl) (po_some (pe_fld (pv 0) rfl)) po_none)))
abbrev sm_marked : Stmt := (inClass (top 21) 14)
theorem sc_marked : FnScope N_marked ["self"] (defScope sm_marked) := ⟨rfl, rfl, rfl, by decide +kernel, rfl, by decide +kernel, by decide +kernel⟩
theorem ok_marked (T : Txt K mg A D) : FnOk P w K mg base (L2.CX P w) 1 D.f_marked D.d_marked ["self"] (lift (P_marked K A)) := by
  refine T.F_marked.okX sc_marked (lift_len pm1_len) (fun cdv Ar outer s H vs Q E hr h => ?_)
  have hu := hu_of hr
  refine ⟨t_marked K A E, ?_, lift_body h fun L Qa Ea he p => p_marked T.H he p⟩
  exact (pss_one (ps_ret (pe_callB cr_sortedI (by rfl) T.z_sorted (by decide +kernel) (pa_cons (pe_callTy (call_list_dK rfl) (by rfl) T.z_list (by decide +kernel) (pa_cons (pe_fld (pv 0) rfl) pa_nil)) pa_nil))))
abbrev sm_phase : Stmt := (inClass (top 21) 13)
theorem sc_phase : FnScope N_phase ["self"] (defScope sm_phase) := ⟨rfl, rfl, rfl, by decide +kernel, rfl, by decide +kernel, by decide +kernel⟩
theorem ok_phase (T : Txt K mg A D) : FnOk P w K mg base (L2.CX P w) 1 D.f_phase D.d_phase ["self"] (lift (P_phase K A)) := by
  refine T.F_phase.okX sc_phase (lift_len pm1_len) (fun cdv Ar outer s H vs Q E hr h => ?_)
  have hu := hu_of hr
  refine ⟨t_phase K A E, ?_, lift_body h fun L Qa Ea he p => p_phase T.H he p⟩
  exact (pss_one (ps_ret (pe_fld (pv 0) rfl)))
abbrev sm_law_done : Stmt := (top 29)
theorem sc_law_done : FnScope N_law_done ["_law_deed", "_law_hands", "_law_rows"] (defScope sm_law_done) := ⟨rfl, rfl, rfl, by decide +kernel, rfl, by decide +kernel, by decide +kernel⟩
theorem ok_law_done (T : Txt K mg A D) : FnOk P w K mg base (L2.CX P w) 1 D.f_law_done D.d_law_done ["_law_deed", "_law_hands", "_law_rows"] (lift (P_law_done K A)) := by
  refine T.F_law_done.okX sc_law_done (lift_len pm3_len) (fun cdv Ar outer s H vs Q E hr h => ?_)
  have hu := hu_of hr
  refine ⟨t_law_done K A E, ?_, lift_body h fun L Qa Ea he p => p_law_done he p⟩
  exact (pss_one (ps_if (pt_cmpR op_eq (pe_ix ix_list (pv 0) pe_int (fun _ _ => rfl)) pe_str (nomark _)) (pss_cons (ps_expr (pe_bm PySem.F.plainAttrs_list PySem.F.slot_list_append PySem.F.type_list_append mt_append (pv 2) (pa_cons (pe_lc (own := [("_law_k", 3)]) (g := gName 3) (tt := tYes) rfl sc_law_done.nd (pi_range1 rfl T.z_range (pa_cons (pe_ix ix_list (pv 0) pe_int (fun _ _ => rfl)) pa_nil)) (blkOk_by (N := N_law_done) (sc := defScope sm_law_done) (by decide +kernel)) (fun _ _ _ _ _ => pg_name (i := 3) sc_law_done.nd rfl (Or.inl rfl)) (fun _ _ _ _ _ => pts_nil) (fun _ _ _ _ _ => pe_non)) pa_nil)))
    (pss_one (ps_asg (pe_op op_sub (pe_callB cl_len (by rfl) T.z_len (by decide +kernel) (pa_cons (pv 2) pa_nil)) pe_int) (pg_sub (pv 1) (pe_ix ix_list (pv 0) pe_int (fun _ _ => rfl)) set_list)))) (pss_one (ps_if (pt_cmpR op_eq (pe_ix ix_list (pv 0) pe_int (fun _ _ => rfl)) pe_str (nomark _)) (pss_one (ps_asg (pe_ix ix_list (pe_ix ix_list (pv 2) (pe_ix ix_list (pv 1) (pe_ix ix_list (pv 0) pe_int (fun _ _ => rfl)) (fun _ _ => rfl)) (fun _ _ => rfl)) (pe_ix ix_list (pv 0) pe_int (fun _ _ => rfl)) (fun _ _ => rfl)) (pg_sub (pv 1) (pe_ix ix_list (pv 0) pe_int (fun _ _ => rfl)) set_list))) (pss_one (ps_if (pt_cmpR op_eq (pe_ix ix_list (pv 0) pe_int (fun _ _ => rfl)) pe_str (nomark _)) (pss_one (ps_asg (pe_ix ix_list (pv 1) (pe_ix ix_list (pv 0) pe_int (fun _ _ => rfl)) (fun _ _ => rfl)) (pg_sub (pe_ix ix_list (pv 2) (pe_ix ix_list (pv 1) (pe_ix ix_list (pv 0) pe_int (fun _ _ => rfl)) (fun _ _ => rfl)) (fun _ _ => rfl)) (pe_ix ix_list (pv 0) pe_int (fun _ _ => rfl)) set_list))) (pss_one (ps_if (pt_cmpR op_eq (pe_ix ix_list (pv 0) pe_int (fun _ _ => rfl)) pe_str (nomark _)) (pss_one (ps_asg (pe_ix ix_list (pv 1) (pe_ix ix_list (pv 0) pe_int (fun _ _ => rfl)) (fun _ _ => rfl)) (pg_sub (pv 1) (pe_ix ix_list (pv 0) pe_int (fun _ _ => rfl)) set_list))) (pss_one (ps_asg pe_non (pg_sub (pv 1) (pe_ix ix_list (pv 0) pe_int (fun _ _ => rfl)) set_list)))))))))))
abbrev sm_need_hand : Stmt := (inClass (top 21) 2)
theorem sc_need_hand : FnScope N_need_hand ["self", "hand"] (defScope sm_need_hand) := ⟨rfl, rfl, rfl, by decide +kernel, rfl, by decide +kernel, by decide +kernel⟩
theorem ok_need_hand (T : Txt K mg A D) : FnOk P w K mg base (L2.CX P w) 1 D.f_need_hand D.d_need_hand ["self", "hand"] (lift (P_need_hand K A)) := by
  refine T.F_need_hand.okX sc_need_hand (lift_len pm2_len) (fun cdv Ar outer s H vs Q E hr h => ?_)
  have hu := hu_of hr
  refine ⟨t_need_hand K A E, ?_, lift_body h fun L Qa Ea he p => p_need_hand T.H he p⟩
  exact (pss_one (ps_if (pt_not (pt_chain op_le op_lt pe_int (pv 1) (pe_callB cl_len (by rfl) T.z_len (by decide +kernel) (pa_cons (pe_fld (pv 0) rfl) pa_nil)))) (pss_one (ps_raise rfl (takes_of rfl rfl rfl rfl) (pmk_own PySem.F.excBase_ValueError T.x_NoHand T.g_NoHand T.kx_NoHand (raises_own T.bx_NoHand T.tx_NoHand) (by exact rfl)))) pss_nil))
abbrev sm_mark : Stmt := (top 10)
theorem sc_mark : FnScope N_mark ["heap", "box"] (defScope sm_mark) := ⟨rfl, rfl, rfl, by decide +kernel, rfl, by decide +kernel, by decide +kernel⟩
theorem ok_mark (T : Txt K mg A D) : FnOk P w K mg base (L2.CX P w) 1 D.f_mark D.d_mark ["heap", "box"] (lift (P_mark K A)) := by
  refine T.F_mark.okX sc_mark (lift_len pm2_len) (fun cdv Ar outer s H vs Q E hr h => ?_)
  have hu := hu_of hr
  refine ⟨t_mark K A E, ?_, lift_body h fun L Qa Ea he p => p_mark T.H he p⟩
  exact (pss_one (ps_if (PW.pt (pw_and (pt_cmpR op_notNo (pv 1) pe_non (nomark _)) (pw_and (pt_cmpR op_lt (pv 1) (pe_fld (pv 0) rfl) (nomark _)) (pw_and1 (pt_cmp (pc_dnotin hu (pv 1) (pe_fld (pv 0) rfl))))))) (pss_cons (ps_dput hu (pe_fld (pv 0) rfl) (pv 1) pe_bl rfl)
    (pss_one (ps_expr (pe_bm PySem.F.plainAttrs_list PySem.F.slot_list_append PySem.F.type_list_append mt_append (pe_fld (pv 0) rfl) (pa_cons (pv 1) pa_nil))))) pss_nil))
abbrev sm_row_of : Stmt := (inClass (top 21) 3)
theorem sc_row_of : FnScope N_row_of ["self", "hand", "slot"] (defScope sm_row_of) := ⟨rfl, rfl, rfl, by decide +kernel, rfl, by decide +kernel, by decide +kernel⟩
theorem ok_row_of (T : Txt K mg A D) : FnOk P w K mg base (L2.CX P w) 1 D.f_row_of D.d_row_of ["self", "hand", "slot"] (lift (P_row_of K A)) := by
  refine T.F_row_of.okX sc_row_of (lift_len pm3_len) (fun cdv Ar outer s H vs Q E hr h => ?_)
  have hu := hu_of hr
  refine ⟨t_row_of K A E, ?_, lift_body h fun L Qa Ea he p => p_row_of T.H he p⟩
  exact (pss_cons (ps_set (i := 3) sc_row_of.nd rfl (Or.inl rfl) (pe_ix ix_list (pe_fld (pv 0) rfl) (pv 1) (fun _ _ => rfl)))
    (pss_cons (ps_if (pt_cmpR op_isNo (pv 3) pe_non (nomark _)) (pss_one (ps_raise rfl (takes_of rfl rfl rfl rfl) (pmk_own PySem.F.excBase_ValueError T.x_NothingHeld T.g_NothingHeld T.kx_NothingHeld (raises_own T.bx_NothingHeld T.tx_NothingHeld) (by exact rfl)))) pss_nil)
    (pss_cons (ps_if (pt_not (pt_chain op_le op_lt pe_int (pv 2) (pe_callB cl_len (by rfl) T.z_len (by decide +kernel) (pa_cons (pe_dget hu (pe_fld (pv 0) rfl) (pv 3) (fun _ _ => rfl)) pa_nil)))) (pss_one (ps_raise rfl (takes_of rfl rfl rfl rfl) (pmk_own PySem.F.excBase_ValueError T.x_NoSlot T.g_NoSlot T.kx_NoSlot (raises_own T.bx_NoSlot T.tx_NoSlot) (by exact rfl)))) pss_nil)
    (pss_one (ps_ret (pe_dget hu (pe_fld (pv 0) rfl) (pv 3) (fun _ _ => rfl)))))))
abbrev sm_sweep : Stmt := (top 13)
theorem sc_sweep : FnScope N_sweep ["heap"] (defScope sm_sweep) := ⟨rfl, rfl, rfl, by decide +kernel, rfl, by decide +kernel, by decide +kernel⟩
theorem ok_sweep (T : Txt K mg A D) : FnOk P w K mg base (L2.CX P w) 1 D.f_sweep D.d_sweep ["heap"] (lift (P_sweep K A)) := by
  refine T.F_sweep.okX sc_sweep (lift_len pm1_len) (fun cdv Ar outer s H vs Q E hr h => ?_)
  have hu := hu_of hr
  refine ⟨t_sweep K A E, ?_, lift_body h fun L Qa Ea he p => p_sweep T.H he p⟩
  exact (pss_cons (ps_set (i := 1) sc_sweep.nd rfl (Or.inl rfl) (pe_ix ix_list (pe_fld (pv 0) rfl) (pe_fld (pv 0) rfl) (fun _ _ => rfl)))
    (pss_cons (ps_fldaug (pv 0) pe_int in_add)
    (pss_cons (ps_if (pt_cmp (pc_din hu (pv 1) (pe_fld (pv 0) rfl))) (pss_one (ps_ret pe_non)) pss_nil)
    (pss_cons (ps_expr (pe_dpop1 (pe_fld (pv 0) rfl) (pv 1) ⟨rfl, rfl, rfl, rfl⟩))
    (pss_one (ps_ret (pv 1)))))))
abbrev sm_boxes : Stmt := (inClass (top 21) 11)
theorem sc_boxes : FnScope N_boxes ["self"] (defScope sm_boxes) := ⟨rfl, rfl, rfl, by decide +kernel, rfl, by decide +kernel, by decide +kernel⟩
theorem ok_boxes (T : Txt K mg A D) : FnOk P w K mg base (L2.CX P w) 1 D.f_boxes D.d_boxes ["self"] (lift (P_boxes K A)) := by
  refine T.F_boxes.okX sc_boxes (lift_len pm1_len) (fun cdv Ar outer s H vs Q E hr h => ?_)
  have hu := hu_of hr
  refine ⟨t_boxes K A E, ?_, lift_body h fun L Qa Ea he p => p_boxes T.H he p⟩
  exact (pss_one (ps_ret (pe_callB cr_sortedI (by rfl) T.z_sorted (by decide +kernel) (pa_cons (pe_callTy (call_list_dK rfl) (by rfl) T.z_list (by decide +kernel) (pa_cons (pe_fld (pv 0) rfl) pa_nil)) pa_nil))))
abbrev sm_rest : Stmt := (inClass (top 21) 1)
theorem sc_rest : FnScope N_rest ["self"] (defScope sm_rest) := ⟨rfl, rfl, rfl, by decide +kernel, rfl, by decide +kernel, by decide +kernel⟩
theorem ok_rest (T : Txt K mg A D) : FnOk P w K mg base (L2.CX P w) 1 D.f_rest D.d_rest ["self"] (lift (P_rest K A)) := by
  refine T.F_rest.okX sc_rest (lift_len pm1_len) (fun cdv Ar outer s H vs Q E hr h => ?_)
  have hu := hu_of hr
  refine ⟨t_rest K A E, ?_, lift_body h fun L Qa Ea he p => p_rest T.H he p⟩
  exact (pss_cons (ps_fld (pv 0) pe_str rfl)
    (pss_cons (ps_fld (pv 0) (pe_lst pa_nil) rfl)
    (pss_cons (ps_fld (pv 0) pe_int rfl)
    (pss_cons (ps_fld (pv 0) pe_dnewK rfl)
    (pss_cons (ps_fld (pv 0) (pe_lst pa_nil) rfl)
    (pss_cons (ps_fld (pv 0) pe_int rfl)
    (pss_one (ps_fld (pv 0) pe_int rfl))))))))
abbrev sm_law_counted : Stmt := (top 34)
theorem sc_law_counted : FnScope N_law_counted ["_law_counts", "_law_many"] (defScope sm_law_counted) := ⟨rfl, rfl, rfl, by decide +kernel, rfl, by decide +kernel, by decide +kernel⟩
theorem ok_law_counted (T : Txt K mg A D) : FnOk P w K mg base (L2.CX P w) 1 D.f_law_counted D.d_law_counted ["_law_counts", "_law_many"] (lift (P_law_counted K A)) := by
  refine T.F_law_counted.okX sc_law_counted (lift_len pm2_len) (fun cdv Ar outer s H vs Q E hr h => ?_)
  have hu := hu_of hr
  refine ⟨t_law_counted K A E, ?_, lift_body h fun L Qa Ea he p => p_law_counted he p⟩
  exact (pss_cons (ps_if (pt_cmpR op_eq (pe_ix ix_list (pv 0) pe_int (fun _ _ => rfl)) pe_int (nomark _)) (pss_cons (ps_asg (pe_op op_add (pv 1) (pe_ix ix_list (pv 0) pe_int (fun _ _ => rfl))) (pg_sub (pv 0) pe_int set_list))
    (pss_cons (ps_asg (pv 1) (pg_sub (pv 0) pe_int set_list))
    (pss_one (ps_asg (pe_op op_sub (pe_ix ix_list (pv 0) pe_int (fun _ _ => rfl)) (pv 1)) (pg_sub (pv 0) pe_int set_list))))) (pss_cons (ps_asg (pe_op op_sub (pe_ix ix_list (pv 0) pe_int (fun _ _ => rfl)) pe_int) (pg_sub (pv 0) pe_int set_list))
    (pss_one (ps_asg (pe_callB (cl_max2 rfl) (by rfl) T.z_max (by decide +kernel) (pa_cons pe_int (pa_cons (pe_op op_sub (pe_ix ix_list (pv 0) pe_int (fun _ _ => rfl)) pe_int) pa_nil))) (pg_sub (pv 0) pe_int set_list)))))
    (pss_one (ps_if (pt_cmpR op_eq (pe_ix ix_list (pv 0) pe_int (fun _ _ => rfl)) pe_int (nomark _)) (pss_one (ps_asg (pe_op op_sub (pe_ix ix_list (pv 0) pe_int (fun _ _ => rfl)) (pe_ix ix_list (pv 0) pe_int (fun _ _ => rfl))) (pg_sub (pv 0) pe_int set_list))) pss_nil)))
abbrev sm_law_deeds : Stmt := (top 28)
theorem sc_law_deeds : FnScope N_law_deeds ["_law_cell", "_law_hands", "_law_rows"] (defScope sm_law_deeds) := ⟨rfl, rfl, rfl, by decide +kernel, rfl, by decide +kernel, by decide +kernel⟩
theorem ok_law_deeds (T : Txt K mg A D) : FnOk P w K mg base (L2.CX P w) 1 D.f_law_deeds D.d_law_deeds ["_law_cell", "_law_hands", "_law_rows"] (lift (P_law_deeds K A)) := by
  refine T.F_law_deeds.okX sc_law_deeds (lift_len pm3_len) (fun cdv Ar outer s H vs Q E hr h => ?_)
  have hu := hu_of hr
  refine ⟨t_law_deeds K A E, ?_, lift_body h fun L Qa Ea he p => p_law_deeds he p⟩
  exact (pss_cons (ps_set (i := 3) sc_law_deeds.nd rfl (Or.inl rfl) (pe_callB cl_len (by rfl) T.z_len (by decide +kernel) (pa_cons (pv 1) pa_nil)))
    (pss_cons (ps_set (i := 4) sc_law_deeds.nd rfl (Or.inl rfl) (pe_op op_fdiv (pv 0) pe_int))
    (pss_cons (ps_set (i := 5) sc_law_deeds.nd rfl (Or.inl rfl) (pe_op op_mod (pv 4) (pv 3)))
    (pss_cons (ps_set (i := 6) sc_law_deeds.nd rfl (Or.inl rfl) (pe_op op_mod (pe_op op_fdiv (pv 4) (pv 3)) (pv 3)))
    (pss_cons (ps_set (i := 7) sc_law_deeds.nd rfl (Or.inl rfl) (pe_op op_mod (pe_op op_fdiv (pe_op op_fdiv (pv 4) (pv 3)) (pv 3)) (pv 3)))
    (pss_cons (ps_set (i := 8) sc_law_deeds.nd rfl (Or.inl rfl) (pe_op op_fdiv (pe_op op_fdiv (pe_op op_fdiv (pv 4) (pv 3)) (pv 3)) (pv 3)))
    (pss_cons (ps_set (i := 9) sc_law_deeds.nd rfl (Or.inl rfl) (pe_ix ix_list (pv 1) (pv 6) (fun _ _ => rfl)))
    (pss_cons (ps_if (PW.pt (pw_and (pt_cmpR op_in_seq (pe_op op_mod (pv 0) pe_int) (pe_tup (pa_cons pe_int (pa_cons pe_int (pa_cons pe_int (pa_cons pe_int (pa_cons pe_int pa_nil)))))) rfl) (pw_and (pt_cmpR op_notNo (pv 9) pe_non (nomark _)) (pw_and1 (pt_cmpR op_gt (pe_callB cl_len (by rfl) T.z_len (by decide +kernel) (pa_cons (pe_ix ix_list (pv 2) (pv 9) (fun _ _ => rfl)) pa_nil)) pe_int (nomark _)))))) (pss_cons (ps_set (i := 8) sc_law_deeds.nd rfl (Or.inl rfl) (pe_op op_mod (pv 8) (pe_callB cl_len (by rfl) T.z_len (by decide +kernel) (pa_cons (pe_ix ix_list (pv 2) (pv 9) (fun _ _ => rfl)) pa_nil))))
    (pss_cons (ps_if (pt_cmpR op_eq (pe_op op_mod (pv 0) pe_int) pe_int (nomark _)) (pss_one (ps_ret (pe_lst (pa_cons (pe_lst (pa_cons pe_str (pa_cons (pv 5) (pa_cons (pv 6) (pa_cons (pv 8) pa_nil))))) pa_nil)))) pss_nil)
    (pss_cons (ps_if (PW.pt (pw_and (pt_cmpR op_eq (pe_op op_mod (pv 0) pe_int) pe_int (nomark _)) (pw_and1 (pt_cmpR op_ne (pv 5) (pv 6) (nomark _))))) (pss_one (ps_ret (pe_lst (pa_cons (pe_lst (pa_cons pe_str (pa_cons (pv 5) (pa_cons (pv 6) (pa_cons (pv 8) pa_nil))))) (pa_cons (pe_lst (pa_cons pe_str (pa_cons (pv 6) (pa_cons (pv 8) (pa_cons (pv 7) pa_nil))))) pa_nil))))) pss_nil)
    (pss_one (ps_ret (pe_lst (pa_cons (pe_lst (pa_cons pe_str (pa_cons (pv 6) (pa_cons (pv 8) (pa_cons (pv 5) pa_nil))))) pa_nil))))))) pss_nil)
    (pss_cons (ps_if (pt_cmpR op_eq (pe_op op_mod (pv 0) pe_int) pe_int (nomark _)) (pss_one (ps_ret (pe_lst (pa_cons (pe_lst (pa_cons pe_str (pa_cons (pv 5) (pa_cons (pv 6) pa_nil)))) pa_nil)))) pss_nil)
    (pss_cons (ps_if (pt_cmpR op_eq (pe_op op_mod (pv 0) pe_int) pe_int (nomark _)) (pss_one (ps_ret (pe_lst (pa_cons (pe_lst (pa_cons pe_str (pa_cons (pv 5) pa_nil))) pa_nil)))) pss_nil)
    (pss_one (ps_ret (pe_lst (pa_cons (pe_lst (pa_cons pe_str (pa_cons (pv 5) (pa_cons (pe_ix ix_list (pe_lst (pa_cons pe_int (pa_cons pe_int (pa_cons pe_int (pa_cons pe_int (pa_cons pe_int (pa_cons pe_int (pa_cons pe_int pa_nil)))))))) (pe_op op_mod (pv 8) pe_int) (fun _ _ => rfl)) pa_nil)))) pa_nil))))))))))))))
abbrev sm_law_mixed_at : Stmt := (top 24)
theorem sc_law_mixed_at : FnScope N_law_mixed_at ["_law_script", "_law_k"] (defScope sm_law_mixed_at) := ⟨rfl, rfl, rfl, by decide +kernel, rfl, by decide +kernel, by decide +kernel⟩
theorem ok_law_mixed_at (T : Txt K mg A D) (G_law_cell_at : FnOk P w K mg base (L2.CX P w) 1 D.f_law_cell_at D.d_law_cell_at ["_law_script", "_law_k"] (lift (P_law_cell_at K A))) : FnOk P w K mg base (L2.CX P w) 2 D.f_law_mixed_at D.d_law_mixed_at ["_law_script", "_law_k"] (lift (P_law_mixed_at K A)) := by
  refine T.F_law_mixed_at.okX sc_law_mixed_at (lift_len pm2_len) (fun cdv Ar outer s H vs Q E hr h => ?_)
  have hu := hu_of hr
  refine ⟨t_law_mixed_at K A E, ?_, lift_body h fun L Qa Ea he p => p_law_mixed_at he p⟩
  exact (pss_one (ps_ret (pe_op op_mod (pe_op op_add (pe_op op_mul (pe_call G_law_cell_at (hr.mono (by decide)) rfl T.m_law_cell_at T.k_law_cell_at T.b_law_cell_at .nil passL (pa_cons (pv 0) (pa_cons (pv 1) pa_nil))) pe_int) (pe_op op_mul pe_int (pv 1))) pe_int)))
abbrev sm_law_good : Stmt := (top 35)
theorem sc_law_good : FnScope N_law_good ["_law_heap", "_law_rows", "_law_came_here"] (defScope sm_law_good) := ⟨rfl, rfl, rfl, by decide +kernel, rfl, by decide +kernel, by decide +kernel⟩
theorem ok_law_good (T : Txt K mg A D) (G_marked : FnOk P w K mg base (L2.CX P w) 1 D.f_marked D.d_marked ["self"] (lift (P_marked K A))) (G_waiting : FnOk P w K mg base (L2.CX P w) 1 D.f_waiting D.d_waiting ["self"] (lift (P_waiting K A))) (G_law_ahead : FnOk P w K mg base (L2.CX P w) 1 D.f_law_ahead D.d_law_ahead ["_law_rows", "_law_came_here", "_law_marked", "_law_waiting"] (lift (P_law_ahead K A))) (G_law_whole : FnOk P w K mg base (L2.CX P w) 1 D.f_law_whole D.d_law_whole ["_law_found"] (lift (P_law_whole K A))) : FnOk P w K mg base (L2.CX P w) 2 D.f_law_good D.d_law_good ["_law_heap", "_law_rows", "_law_came_here"] (lift (P_law_good K A)) := by
  refine T.F_law_good.okX sc_law_good (lift_len pm3_len) (fun cdv Ar outer s H vs Q E hr h => ?_)
  have hu := hu_of hr
  refine ⟨t_law_good K A E, ?_, lift_body h fun L Qa Ea he p => p_law_good T.H he p⟩
  exact (pss_cons (ps_set (i := 3) sc_law_good.nd rfl (Or.inl rfl) (pe_meth0 (pv 0) T.H.cl T.M_marked G_marked (hr.mono (by decide)) T.b_marked .nil passL))
    (pss_cons (ps_set (i := 4) sc_law_good.nd rfl (Or.inl rfl) (pe_meth0 (pv 0) T.H.cl T.M_waiting G_waiting (hr.mono (by decide)) T.b_waiting .nil passL))
    (pss_cons (ps_if (PW.pt (pw_or (pt_not (pt_val (pe_callB call_isi (by rfl) T.z_isinstance (by decide +kernel) (pa_cons (pv 3) (pa_cons (pe_bltn (v := .ty "list") rfl T.z_list (by decide +kernel) rfl) pa_nil))))) (pw_or1 (pt_not (pt_val (pe_callB call_isi (by rfl) T.z_isinstance (by decide +kernel) (pa_cons (pv 4) (pa_cons (pe_bltn (v := .ty "list") rfl T.z_list (by decide +kernel) rfl) pa_nil)))))))) (pss_one (ps_ret pe_bl)) pss_nil)
    (pss_cons (ps_for PassesOwn.leaving rfl (pi_list (pv 3)) (pg_name (i := 5) sc_law_good.nd rfl (Or.inl rfl))
      (pss_one (ps_if (PW.pt (pw_or (pt_not (pt_val (pe_call G_law_whole (hr.mono (by decide)) rfl T.m_law_whole T.k_law_whole T.b_law_whole .nil passL (pa_cons (pv 5) pa_nil)))) (pw_or1 (pt_cmpR op_notIn_seq (pv 5) (pv 2) rfl)))) (pss_one (ps_ret pe_bl)) pss_nil)))
    (pss_cons (ps_for PassesOwn.leaving rfl (pi_list (pv 4)) (pg_name (i := 5) sc_law_good.nd rfl (Or.inl rfl))
      (pss_one (ps_if (PW.pt (pw_or (pt_not (pt_val (pe_call G_law_whole (hr.mono (by decide)) rfl T.m_law_whole T.k_law_whole T.b_law_whole .nil passL (pa_cons (pv 5) pa_nil)))) (pw_or1 (pt_cmpR op_notIn_seq (pv 5) (pv 3) rfl)))) (pss_one (ps_ret pe_bl)) pss_nil)))
    (pss_one (ps_ret (pe_call G_law_ahead (hr.mono (by decide)) rfl T.m_law_ahead T.k_law_ahead T.b_law_ahead .nil passL (pa_cons (pv 1) (pa_cons (pv 2) (pa_cons (pv 3) (pa_cons (pv 4) pa_nil))))))))))))
abbrev sm_share : Stmt := (inClass (top 21) 7)
theorem sc_share : FnScope N_share ["self", "hand", "other"] (defScope sm_share) := ⟨rfl, rfl, rfl, by decide +kernel, rfl, by decide +kernel, by decide +kernel⟩
theorem ok_share (T : Txt K mg A D) (G_need_hand : FnOk P w K mg base (L2.CX P w) 1 D.f_need_hand D.d_need_hand ["self", "hand"] (lift (P_need_hand K A))) : FnOk P w K mg base (L2.CX P w) 2 D.f_share D.d_share ["self", "hand", "other"] (lift (P_share K A)) := by
  refine T.F_share.okX sc_share (lift_len pm3_len) (fun cdv Ar outer s H vs Q E hr h => ?_)
  have hu := hu_of hr
  refine ⟨t_share K A E, ?_, lift_body h fun L Qa Ea he p => p_share T.H he p⟩
  exact (pss_cons (ps_expr (pe_meth (pv 0) T.H.cl T.M_need_hand G_need_hand (hr.mono (by decide)) T.b_need_hand .nil (passes_call (takes_of rfl rfl rfl rfl) (fun _ _ _ _ h => h)) (pa_cons (pv 1) pa_nil)))
    (pss_cons (ps_expr (pe_meth (pv 0) T.H.cl T.M_need_hand G_need_hand (hr.mono (by decide)) T.b_need_hand .nil (passes_call (takes_of rfl rfl rfl rfl) (fun _ _ _ _ h => h)) (pa_cons (pv 2) pa_nil)))
    (pss_one (ps_asg (pe_ix ix_list (pe_fld (pv 0) rfl) (pv 2) (fun _ _ => rfl)) (pg_sub (pe_fld (pv 0) rfl) (pv 1) set_list)))))
abbrev sm_put : Stmt := (inClass (top 21) 6)
theorem sc_put : FnScope N_put ["self", "hand", "slot", "other"] (defScope sm_put) := ⟨rfl, rfl, rfl, by decide +kernel, rfl, by decide +kernel, by decide +kernel⟩
theorem ok_put (T : Txt K mg A D) (G_need_hand : FnOk P w K mg base (L2.CX P w) 1 D.f_need_hand D.d_need_hand ["self", "hand"] (lift (P_need_hand K A))) (G_row_of : FnOk P w K mg base (L2.CX P w) 1 D.f_row_of D.d_row_of ["self", "hand", "slot"] (lift (P_row_of K A))) (G_mark : FnOk P w K mg base (L2.CX P w) 1 D.f_mark D.d_mark ["heap", "box"] (lift (P_mark K A))) : FnOk P w K mg base (L2.CX P w) 2 D.f_put D.d_put ["self", "hand", "slot", "other"] (lift (P_put K A)) := by
  refine T.F_put.okX sc_put (lift_len pm4_len) (fun cdv Ar outer s H vs Q E hr h => ?_)
  have hu := hu_of hr
  refine ⟨t_put K A E, ?_, lift_body h fun L Qa Ea he p => p_put T.H he p⟩
  exact (pss_cons (ps_expr (pe_meth (pv 0) T.H.cl T.M_need_hand G_need_hand (hr.mono (by decide)) T.b_need_hand .nil (passes_call (takes_of rfl rfl rfl rfl) (fun _ _ _ _ h => h)) (pa_cons (pv 1) pa_nil)))
    (pss_cons (ps_expr (pe_meth (pv 0) T.H.cl T.M_need_hand G_need_hand (hr.mono (by decide)) T.b_need_hand .nil (passes_call (takes_of rfl rfl rfl rfl) (fun _ _ _ _ h => h)) (pa_cons (pv 3) pa_nil)))
    (pss_cons (ps_set (i := 4) sc_put.nd rfl (Or.inl rfl) (pe_meth (pv 0) T.H.cl T.M_row_of G_row_of (hr.mono (by decide)) T.b_row_of .nil (passes_call (takes_of rfl rfl rfl rfl) (fun _ _ _ _ h => h)) (pa_cons (pv 1) (pa_cons (pv 2) pa_nil))))
    (pss_cons (ps_if (pt_cmpR op_eq (pe_fld (pv 0) rfl) pe_str (nomark _)) (pss_one (ps_expr (pe_call G_mark (hr.mono (by decide)) rfl T.m_mark T.k_mark T.b_mark .nil passL (pa_cons (pv 0) (pa_cons (pe_ix ix_list (pv 4) (pv 2) (fun _ _ => rfl)) pa_nil))))) pss_nil)
    (pss_one (ps_asg (pe_ix ix_list (pe_fld (pv 0) rfl) (pv 3) (fun _ _ => rfl)) (pg_sub (pv 4) (pv 2) set_list)))))))
abbrev sm_take : Stmt := (inClass (top 21) 5)
theorem sc_take : FnScope N_take ["self", "hand", "other", "slot"] (defScope sm_take) := ⟨rfl, rfl, rfl, by decide +kernel, rfl, by decide +kernel, by decide +kernel⟩
theorem ok_take (T : Txt K mg A D) (G_need_hand : FnOk P w K mg base (L2.CX P w) 1 D.f_need_hand D.d_need_hand ["self", "hand"] (lift (P_need_hand K A))) (G_row_of : FnOk P w K mg base (L2.CX P w) 1 D.f_row_of D.d_row_of ["self", "hand", "slot"] (lift (P_row_of K A))) : FnOk P w K mg base (L2.CX P w) 2 D.f_take D.d_take ["self", "hand", "other", "slot"] (lift (P_take K A)) := by
  refine T.F_take.okX sc_take (lift_len pm4_len) (fun cdv Ar outer s H vs Q E hr h => ?_)
  have hu := hu_of hr
  refine ⟨t_take K A E, ?_, lift_body h fun L Qa Ea he p => p_take T.H he p⟩
  exact (pss_cons (ps_expr (pe_meth (pv 0) T.H.cl T.M_need_hand G_need_hand (hr.mono (by decide)) T.b_need_hand .nil (passes_call (takes_of rfl rfl rfl rfl) (fun _ _ _ _ h => h)) (pa_cons (pv 1) pa_nil)))
    (pss_cons (ps_expr (pe_meth (pv 0) T.H.cl T.M_need_hand G_need_hand (hr.mono (by decide)) T.b_need_hand .nil (passes_call (takes_of rfl rfl rfl rfl) (fun _ _ _ _ h => h)) (pa_cons (pv 2) pa_nil)))
    (pss_cons (ps_set (i := 4) sc_take.nd rfl (Or.inl rfl) (pe_meth (pv 0) T.H.cl T.M_row_of G_row_of (hr.mono (by decide)) T.b_row_of .nil (passes_call (takes_of rfl rfl rfl rfl) (fun _ _ _ _ h => h)) (pa_cons (pv 2) (pa_cons (pv 3) pa_nil))))
    (pss_one (ps_asg (pe_ix ix_list (pv 4) (pv 3) (fun _ _ => rfl)) (pg_sub (pe_fld (pv 0) rfl) (pv 1) set_list))))))
abbrev sm_make : Stmt := (inClass (top 21) 4)
theorem sc_make : FnScope N_make ["self", "hand", "slots"] (defScope sm_make) := ⟨rfl, rfl, rfl, by decide +kernel, rfl, by decide +kernel, by decide +kernel⟩
theorem ok_make (T : Txt K mg A D) (G_need_hand : FnOk P w K mg base (L2.CX P w) 1 D.f_need_hand D.d_need_hand ["self", "hand"] (lift (P_need_hand K A))) : FnOk P w K mg base (L2.CX P w) 2 D.f_make D.d_make ["self", "hand", "slots"] (lift (P_make K A)) := by
  refine T.F_make.okX sc_make (lift_len pm3_len) (fun cdv Ar outer s H vs Q E hr h => ?_)
  have hu := hu_of hr
  refine ⟨t_make K A E, ?_, lift_body h fun L Qa Ea he p => p_make T.H he p⟩
  exact (pss_cons (ps_expr (pe_meth (pv 0) T.H.cl T.M_need_hand G_need_hand (hr.mono (by decide)) T.b_need_hand .nil (passes_call (takes_of rfl rfl rfl rfl) (fun _ _ _ _ h => h)) (pa_cons (pv 1) pa_nil)))
    (pss_cons (ps_if (pt_not (pt_chain op_le op_le pe_int (pv 2) (pe_glob rfl T.c_MOST_SLOTS.choose_spec ⟨_, rfl⟩))) (pss_one (ps_raise rfl (takes_of rfl rfl rfl rfl) (pmk_own PySem.F.excBase_ValueError T.x_NoSlot T.g_NoSlot T.kx_NoSlot (raises_own T.bx_NoSlot T.tx_NoSlot) (by exact rfl)))) pss_nil)
    (pss_cons (ps_if (pt_cmpR op_ge (pe_callB call_lenD (by rfl) T.z_len (by decide +kernel) (pa_cons (pe_fld (pv 0) rfl) pa_nil)) (pe_fld (pv 0) rfl) (nomark _)) (pss_one (ps_raise rfl (takes_of rfl rfl rfl rfl) (pmk_own PySem.F.excBase_ValueError T.x_NoRoom T.g_NoRoom T.kx_NoRoom (raises_own T.bx_NoRoom T.tx_NoRoom) (by exact rfl)))) pss_nil)
    (pss_cons (ps_set (i := 3) sc_make.nd rfl (Or.inl rfl) (pe_fld (pv 0) rfl))
    (pss_cons (ps_fld (pv 0) (pe_op op_add (pv 3) pe_int) rfl)
    (pss_cons (ps_dput hu (pe_fld (pv 0) rfl) (pv 3) (pe_lc (own := [("k", 4)]) (g := gName 4) (tt := tYes) rfl sc_make.nd (pi_range1 rfl T.z_range (pa_cons (pv 2) pa_nil)) (blkOk_by (N := N_make) (sc := defScope sm_make) (by decide +kernel)) (fun _ _ _ _ _ => pg_name (i := 4) sc_make.nd rfl (Or.inl rfl)) (fun _ _ _ _ _ => pts_nil) (fun _ _ _ _ _ => pe_non)) rfl)
    (pss_cons (ps_asg (pv 3) (pg_sub (pe_fld (pv 0) rfl) (pv 1) set_list))
    (pss_one (ps_ret (pv 3))))))))))
abbrev sm_drop : Stmt := (inClass (top 21) 8)
theorem sc_drop : FnScope N_drop ["self", "hand"] (defScope sm_drop) := ⟨rfl, rfl, rfl, by decide +kernel, rfl, by decide +kernel, by decide +kernel⟩
theorem ok_drop (T : Txt K mg A D) (G_need_hand : FnOk P w K mg base (L2.CX P w) 1 D.f_need_hand D.d_need_hand ["self", "hand"] (lift (P_need_hand K A))) : FnOk P w K mg base (L2.CX P w) 2 D.f_drop D.d_drop ["self", "hand"] (lift (P_drop K A)) := by
  refine T.F_drop.okX sc_drop (lift_len pm2_len) (fun cdv Ar outer s H vs Q E hr h => ?_)
  have hu := hu_of hr
  refine ⟨t_drop K A E, ?_, lift_body h fun L Qa Ea he p => p_drop T.H he p⟩
  exact (pss_cons (ps_expr (pe_meth (pv 0) T.H.cl T.M_need_hand G_need_hand (hr.mono (by decide)) T.b_need_hand .nil (passes_call (takes_of rfl rfl rfl rfl) (fun _ _ _ _ h => h)) (pa_cons (pv 1) pa_nil)))
    (pss_one (ps_asg pe_non (pg_sub (pe_fld (pv 0) rfl) (pv 1) set_list))))
abbrev sm_look_at : Stmt := (top 12)
theorem sc_look_at : FnScope N_look_at ["heap"] (defScope sm_look_at) := ⟨rfl, rfl, rfl, by decide +kernel, rfl, by decide +kernel, by decide +kernel⟩
theorem ok_look_at (T : Txt K mg A D) (G_mark : FnOk P w K mg base (L2.CX P w) 1 D.f_mark D.d_mark ["heap", "box"] (lift (P_mark K A))) : FnOk P w K mg base (L2.CX P w) 2 D.f_look_at D.d_look_at ["heap"] (lift (P_look_at K A)) := by
  refine T.F_look_at.okX sc_look_at (lift_len pm1_len) (fun cdv Ar outer s H vs Q E hr h => ?_)
  have hu := hu_of hr
  refine ⟨t_look_at K A E, ?_, lift_body h fun L Qa Ea he p => p_look_at T.H he p⟩
  exact (pss_cons (ps_set (i := 1) sc_look_at.nd rfl (Or.inl rfl) (pe_ix ix_list (pe_fld (pv 0) rfl) (pe_fld (pv 0) rfl) (fun _ _ => rfl)))
    (pss_cons (ps_fldaug (pv 0) pe_int in_add)
    (pss_one (ps_for PassesOwn.leaving rfl (pi_list (pe_dget hu (pe_fld (pv 0) rfl) (pv 1) (fun _ _ => rfl))) (pg_name (i := 2) sc_look_at.nd rfl (Or.inl rfl))
      (pss_one (ps_expr (pe_call G_mark (hr.mono (by decide)) rfl T.m_mark T.k_mark T.b_mark .nil passL (pa_cons (pv 0) (pa_cons (pv 2) pa_nil)))))))))
abbrev sm_begin : Stmt := (top 11)
theorem sc_begin : FnScope N_begin ["heap"] (defScope sm_begin) := ⟨rfl, rfl, rfl, by decide +kernel, rfl, by decide +kernel, by decide +kernel⟩
theorem ok_begin (T : Txt K mg A D) (G_boxes : FnOk P w K mg base (L2.CX P w) 1 D.f_boxes D.d_boxes ["self"] (lift (P_boxes K A))) (G_mark : FnOk P w K mg base (L2.CX P w) 1 D.f_mark D.d_mark ["heap", "box"] (lift (P_mark K A))) : FnOk P w K mg base (L2.CX P w) 2 D.f_begin D.d_begin ["heap"] (lift (P_begin K A)) := by
  refine T.F_begin.okX sc_begin (lift_len pm1_len) (fun cdv Ar outer s H vs Q E hr h => ?_)
  have hu := hu_of hr
  refine ⟨t_begin K A E, ?_, lift_body h fun L Qa Ea he p => p_begin T.H he p⟩
  exact (pss_cons (ps_fld (pv 0) (pe_callB cr_sortedI (by rfl) T.z_sorted (by decide +kernel) (pa_cons (pe_meth0 (pv 0) T.H.cl T.M_boxes G_boxes (hr.mono (by decide)) T.b_boxes .nil passL) pa_nil)) rfl)
    (pss_cons (ps_fld (pv 0) (pe_fld (pv 0) rfl) rfl)
    (pss_cons (ps_fld (pv 0) pe_str rfl)
    (pss_one (ps_for PassesOwn.leaving rfl (pi_list (pe_fld (pv 0) rfl)) (pg_name (i := 1) sc_begin.nd rfl (Or.inl rfl))
      (pss_one (ps_expr (pe_call G_mark (hr.mono (by decide)) rfl T.m_mark T.k_mark T.b_mark .nil passL (pa_cons (pv 0) (pa_cons (pv 1) pa_nil))))))))))
abbrev sm_settle : Stmt := (top 14)
theorem sc_settle : FnScope N_settle ["heap"] (defScope sm_settle) := ⟨rfl, rfl, rfl, by decide +kernel, rfl, by decide +kernel, by decide +kernel⟩
theorem ok_settle (T : Txt K mg A D) (G_rest : FnOk P w K mg base (L2.CX P w) 1 D.f_rest D.d_rest ["self"] (lift (P_rest K A))) : FnOk P w K mg base (L2.CX P w) 2 D.f_settle D.d_settle ["heap"] (lift (P_settle K A)) := by
  refine T.F_settle.okX sc_settle (lift_len pm1_len) (fun cdv Ar outer s H vs Q E hr h => ?_)
  have hu := hu_of hr
  refine ⟨t_settle K A E, ?_, lift_body h fun L Qa Ea he p => p_settle T.H he p⟩
  exact (pss_cons (ps_if (PW.pt (pw_and (pt_cmpR op_eq (pe_fld (pv 0) rfl) pe_str (nomark _)) (pw_and1 (pt_cmpR op_eq (pe_fld (pv 0) rfl) (pe_callB cl_len (by rfl) T.z_len (by decide +kernel) (pa_cons (pe_fld (pv 0) rfl) pa_nil)) (nomark _))))) (pss_one (ps_fld (pv 0) pe_str rfl)) pss_nil)
    (pss_one (ps_if (PW.pt (pw_and (pt_cmpR op_eq (pe_fld (pv 0) rfl) pe_str (nomark _)) (pw_and1 (pt_cmpR op_eq (pe_fld (pv 0) rfl) (pe_callB cl_len (by rfl) T.z_len (by decide +kernel) (pa_cons (pe_fld (pv 0) rfl) pa_nil)) (nomark _))))) (pss_cons (ps_expr (pe_meth0 (pv 0) T.H.cl T.M_rest G_rest (hr.mono (by decide)) T.b_rest .nil passL))
    (pss_one (ps_fldaug (pv 0) pe_int in_add))) pss_nil)))
abbrev sm_init : Stmt := (inClass (top 21) 0)
theorem sc_init : FnScope N_init ["self", "hands", "room"] (defScope sm_init) := ⟨rfl, rfl, rfl, by decide +kernel, rfl, by decide +kernel, by decide +kernel⟩
theorem ok_init (T : Txt K mg A D) (G_rest : FnOk P w K mg base (L2.CX P w) 1 D.f_rest D.d_rest ["self"] (lift (P_rest K A))) : FnOk P w K mg base (L2.CX P w) 2 D.f_init D.d_init ["self", "hands", "room"] (lift (P_init K A)) := by
  refine T.F_init.okX sc_init (lift_len pm3_len) (fun cdv Ar outer s H vs Q E hr h => ?_)
  have hu := hu_of hr
  refine ⟨t_init K A E, ?_, lift_body h fun L Qa Ea he p => p_init T.H he p⟩
  exact (pss_cons (ps_if (PW.pt (pw_or (pt_not (pt_chain op_le op_le pe_int (pv 1) (pe_glob rfl T.c_MOST_HANDS.choose_spec ⟨_, rfl⟩))) (pw_or1 (pt_not (pt_chain op_le op_le pe_int (pv 2) (pe_glob rfl T.c_MOST_ROOM.choose_spec ⟨_, rfl⟩)))))) (pss_one (ps_raise rfl (takes_of rfl rfl rfl rfl) (pmk_own PySem.F.excBase_ValueError T.x_NoHeap T.g_NoHeap T.kx_NoHeap (raises_own T.bx_NoHeap T.tx_NoHeap) (by exact rfl)))) pss_nil)
    (pss_cons (ps_fld (pv 0) (pe_lc (own := [("k", 3)]) (g := gName 3) (tt := tYes) rfl sc_init.nd (pi_range1 rfl T.z_range (pa_cons (pv 1) pa_nil)) (blkOk_by (N := N_init) (sc := defScope sm_init) (by decide +kernel)) (fun _ _ _ _ _ => pg_name (i := 3) sc_init.nd rfl (Or.inl rfl)) (fun _ _ _ _ _ => pts_nil) (fun _ _ _ _ _ => pe_non)) rfl)
    (pss_cons (ps_fld (pv 0) (pv 2) rfl)
    (pss_cons (ps_fld (pv 0) pe_dnewK rfl)
    (pss_cons (ps_fld (pv 0) pe_int rfl)
    (pss_cons (ps_fld (pv 0) pe_int rfl)
    (pss_one (ps_expr (pe_meth0 (pv 0) T.H.cl T.M_rest G_rest (hr.mono (by decide)) T.b_rest .nil passL)))))))))
abbrev sm_law_asked : Stmt := (top 30)
theorem sc_law_asked : FnScope N_law_asked ["_law_heap", "_law_deed"] (defScope sm_law_asked) := ⟨rfl, rfl, rfl, by decide +kernel, rfl, by decide +kernel, by decide +kernel⟩
theorem ok_law_asked (T : Txt K mg A D) (G_drop : FnOk P w K mg base (L2.CX P w) 2 D.f_drop D.d_drop ["self", "hand"] (lift (P_drop K A))) (G_make : FnOk P w K mg base (L2.CX P w) 2 D.f_make D.d_make ["self", "hand", "slots"] (lift (P_make K A))) (G_take : FnOk P w K mg base (L2.CX P w) 2 D.f_take D.d_take ["self", "hand", "other", "slot"] (lift (P_take K A))) (G_put : FnOk P w K mg base (L2.CX P w) 2 D.f_put D.d_put ["self", "hand", "slot", "other"] (lift (P_put K A))) (G_share : FnOk P w K mg base (L2.CX P w) 2 D.f_share D.d_share ["self", "hand", "other"] (lift (P_share K A))) : FnOk P w K mg base (L2.CX P w) 3 D.f_law_asked D.d_law_asked ["_law_heap", "_law_deed"] (lift (P_law_asked K A)) := by
  refine T.F_law_asked.okX sc_law_asked (lift_len pm2_len) (fun cdv Ar outer s H vs Q E hr h => ?_)
  have hu := hu_of hr
  refine ⟨t_law_asked K A E, ?_, lift_body h fun L Qa Ea he p => p_law_asked T.H he p⟩
  exact (pss_cons (ps_if (pt_cmpR op_eq (pe_ix ix_list (pv 1) pe_int (fun _ _ => rfl)) pe_str (nomark _)) (pss_one (ps_ret (pe_meth (pv 0) T.H.cl T.M_make G_make (hr.mono (by decide)) T.b_make .nil passL (pa_cons (pe_ix ix_list (pv 1) pe_int (fun _ _ => rfl)) (pa_cons (pe_ix ix_list (pv 1) pe_int (fun _ _ => rfl)) pa_nil))))) pss_nil)
    (pss_cons (ps_if (pt_cmpR op_eq (pe_ix ix_list (pv 1) pe_int (fun _ _ => rfl)) pe_str (nomark _)) (pss_one (ps_ret (pe_meth (pv 0) T.H.cl T.M_take G_take (hr.mono (by decide)) T.b_take .nil passL (pa_cons (pe_ix ix_list (pv 1) pe_int (fun _ _ => rfl)) (pa_cons (pe_ix ix_list (pv 1) pe_int (fun _ _ => rfl)) (pa_cons (pe_ix ix_list (pv 1) pe_int (fun _ _ => rfl)) pa_nil)))))) pss_nil)
    (pss_cons (ps_if (pt_cmpR op_eq (pe_ix ix_list (pv 1) pe_int (fun _ _ => rfl)) pe_str (nomark _)) (pss_one (ps_ret (pe_meth (pv 0) T.H.cl T.M_put G_put (hr.mono (by decide)) T.b_put .nil passL (pa_cons (pe_ix ix_list (pv 1) pe_int (fun _ _ => rfl)) (pa_cons (pe_ix ix_list (pv 1) pe_int (fun _ _ => rfl)) (pa_cons (pe_ix ix_list (pv 1) pe_int (fun _ _ => rfl)) pa_nil)))))) pss_nil)
    (pss_cons (ps_if (pt_cmpR op_eq (pe_ix ix_list (pv 1) pe_int (fun _ _ => rfl)) pe_str (nomark _)) (pss_one (ps_ret (pe_meth (pv 0) T.H.cl T.M_share G_share (hr.mono (by decide)) T.b_share .nil passL (pa_cons (pe_ix ix_list (pv 1) pe_int (fun _ _ => rfl)) (pa_cons (pe_ix ix_list (pv 1) pe_int (fun _ _ => rfl)) pa_nil))))) pss_nil)
    (pss_one (ps_ret (pe_meth (pv 0) T.H.cl T.M_drop G_drop (hr.mono (by decide)) T.b_drop .nil passL (pa_cons (pe_ix ix_list (pv 1) pe_int (fun _ _ => rfl)) pa_nil))))))))
abbrev sm_piece : Stmt := (top 15)
theorem sc_piece : FnScope N_piece ["heap"] (defScope sm_piece) := ⟨rfl, rfl, rfl, by decide +kernel, rfl, by decide +kernel, by decide +kernel⟩
theorem ok_piece (T : Txt K mg A D) (G_settle : FnOk P w K mg base (L2.CX P w) 2 D.f_settle D.d_settle ["heap"] (lift (P_settle K A))) (G_begin : FnOk P w K mg base (L2.CX P w) 2 D.f_begin D.d_begin ["heap"] (lift (P_begin K A))) (G_look_at : FnOk P w K mg base (L2.CX P w) 2 D.f_look_at D.d_look_at ["heap"] (lift (P_look_at K A))) (G_sweep : FnOk P w K mg base (L2.CX P w) 1 D.f_sweep D.d_sweep ["heap"] (lift (P_sweep K A))) : FnOk P w K mg base (L2.CX P w) 3 D.f_piece D.d_piece ["heap"] (lift (P_piece K A)) := by
  refine T.F_piece.okX sc_piece (lift_len pm1_len) (fun cdv Ar outer s H vs Q E hr h => ?_)
  have hu := hu_of hr
  refine ⟨t_piece K A E, ?_, lift_body h fun L Qa Ea he p => p_piece T.H he p⟩
  exact (pss_cons (ps_set (i := 1) sc_piece.nd rfl (Or.inl rfl) pe_non)
    (pss_cons (ps_if (pt_cmpR op_eq (pe_fld (pv 0) rfl) pe_str (nomark _)) (pss_one (ps_expr (pe_call G_begin (hr.mono (by decide)) rfl T.m_begin T.k_begin T.b_begin .nil passL (pa_cons (pv 0) pa_nil)))) (pss_one (ps_if (pt_cmpR op_eq (pe_fld (pv 0) rfl) pe_str (nomark _)) (pss_one (ps_expr (pe_call G_look_at (hr.mono (by decide)) rfl T.m_look_at T.k_look_at T.b_look_at .nil passL (pa_cons (pv 0) pa_nil)))) (pss_one (ps_set (i := 1) sc_piece.nd rfl (Or.inl rfl) (pe_call G_sweep (hr.mono (by decide)) rfl T.m_sweep T.k_sweep T.b_sweep .nil passL (pa_cons (pv 0) pa_nil)))))))
    (pss_cons (ps_expr (pe_call G_settle (hr.mono (by decide)) rfl T.m_settle T.k_settle T.b_settle .nil passL (pa_cons (pv 0) pa_nil)))
    (pss_one (ps_ret (pv 1))))))
abbrev sm_law_mixed : Stmt := (top 25)
theorem sc_law_mixed : FnScope N_law_mixed ["_law_script", "_law_most"] (defScope sm_law_mixed) := ⟨rfl, rfl, rfl, by decide +kernel, rfl, by decide +kernel, by decide +kernel⟩
theorem ok_law_mixed (T : Txt K mg A D) (G_law_mixed_at : FnOk P w K mg base (L2.CX P w) 2 D.f_law_mixed_at D.d_law_mixed_at ["_law_script", "_law_k"] (lift (P_law_mixed_at K A))) : FnOk P w K mg base (L2.CX P w) 3 D.f_law_mixed D.d_law_mixed ["_law_script", "_law_most"] (lift (P_law_mixed K A)) := by
  refine T.F_law_mixed.okX sc_law_mixed (lift_len pm2_len) (fun cdv Ar outer s H vs Q E hr h => ?_)
  have hu := hu_of hr
  refine ⟨t_law_mixed K A E, ?_, lift_body h fun L Qa Ea he p => p_law_mixed he p⟩
  exact (pss_one (ps_ret (pe_lc (own := [("_law_k", 2)]) (g := gName 2) (tt := tYes) rfl sc_law_mixed.nd (pi_range2 rfl T.z_range (pa_cons pe_int (pa_cons (pe_callB (cl_min2 rfl) (by rfl) T.z_min (by decide +kernel) (pa_cons (pv 1) (pa_cons (pe_callB cl_len (by rfl) T.z_len (by decide +kernel) (pa_cons (pv 0) pa_nil)) pa_nil))) pa_nil))) (blkOk_by (N := N_law_mixed) (sc := defScope sm_law_mixed) (by decide +kernel)) (fun _ _ _ _ _ => pg_name (i := 2) sc_law_mixed.nd rfl (Or.inl rfl)) (fun _ _ _ _ _ => pts_nil) (fun _ _ _ _ _ => (pe_call G_law_mixed_at (hr.mono (by decide)) rfl T.m_law_mixed_at T.k_law_mixed_at T.b_law_mixed_at .nil passL (pa_cons (pv 0) (pa_cons (pv 2) pa_nil)))))))
abbrev sm_work : Stmt := (inClass (top 21) 12)
theorem sc_work : FnScope N_work ["self", "pieces"] (defScope sm_work) := ⟨rfl, rfl, rfl, by decide +kernel, rfl, by decide +kernel, by decide +kernel⟩
theorem ok_work (T : Txt K mg A D) (G_piece : FnOk P w K mg base (L2.CX P w) 3 D.f_piece D.d_piece ["heap"] (lift (P_piece K A))) : FnOk P w K mg base (L2.CX P w) 4 D.f_work D.d_work ["self", "pieces"] (lift (P_work K A)) := by
  refine T.F_work.okX sc_work (lift_len pm2_len) (fun cdv Ar outer s H vs Q E hr h => ?_)
  have hu := hu_of hr
  refine ⟨t_work K A E, ?_, lift_body h fun L Qa Ea he p => p_work T.H he p⟩
  exact (pss_cons (ps_if (pt_not (pt_chain op_le op_le pe_int (pv 1) (pe_glob rfl T.c_MOST_PIECES.choose_spec ⟨_, rfl⟩))) (pss_one (ps_raise rfl (takes_of rfl rfl rfl rfl) (pmk_own PySem.F.excBase_ValueError T.x_NoWork T.g_NoWork T.kx_NoWork (raises_own T.bx_NoWork T.tx_NoWork) (by exact rfl)))) pss_nil)
    (pss_cons (ps_set (i := 2) sc_work.nd rfl (Or.inl rfl) (pe_lst pa_nil))
    (pss_cons (ps_for PassesOwn.leaving rfl (pi_range1 rfl T.z_range (pa_cons (pv 1) pa_nil)) (pg_name (i := 3) sc_work.nd rfl (Or.inl rfl))
      (pss_cons (ps_set (i := 4) sc_work.nd rfl (Or.inl rfl) (pe_call G_piece (hr.mono (by decide)) rfl T.m_piece T.k_piece T.b_piece .nil passL (pa_cons (pv 0) pa_nil)))
    (pss_one (ps_if (pt_cmpR op_notNo (pv 4) pe_non (nomark _)) (pss_one (ps_expr (pe_bm PySem.F.plainAttrs_list PySem.F.slot_list_append PySem.F.type_list_append mt_append (pv 2) (pa_cons (pv 4) pa_nil)))) pss_nil))))
    (pss_one (ps_ret (pv 2))))))
abbrev sm_law_chain : Stmt := (top 32)
theorem sc_law_chain : FnScope N_law_chain ["_law_heap", "_law_hands", "_law_rows", "_law_size"] (defScope sm_law_chain) := ⟨rfl, rfl, rfl, by decide +kernel, rfl, by decide +kernel, by decide +kernel⟩
theorem ok_law_chain (T : Txt K mg A D) (G_law_asked : FnOk P w K mg base (L2.CX P w) 3 D.f_law_asked D.d_law_asked ["_law_heap", "_law_deed"] (lift (P_law_asked K A))) (G_law_done : FnOk P w K mg base (L2.CX P w) 1 D.f_law_done D.d_law_done ["_law_deed", "_law_hands", "_law_rows"] (lift (P_law_done K A))) : FnOk P w K mg base (L2.CX P w) 4 D.f_law_chain D.d_law_chain ["_law_heap", "_law_hands", "_law_rows", "_law_size"] (lift (P_law_chain K A)) := by
  refine T.F_law_chain.okX sc_law_chain (lift_len pm4_len) (fun cdv Ar outer s H vs Q E hr h => ?_)
  have hu := hu_of hr
  refine ⟨t_law_chain K A E, ?_, lift_body h fun L Qa Ea he p => p_law_chain T.H he p⟩
  exact (pss_one (ps_for PassesOwn.leaving rfl (pi_range1 rfl T.z_range (pa_cons (pv 3) pa_nil)) (pg_name (i := 4) sc_law_chain.nd rfl (Or.inl rfl))
      (pss_one (ps_for PassesOwn.leaving rfl (pi_tup (pe_tup (pa_cons (pe_lst (pa_cons pe_str (pa_cons pe_int (pa_cons (pe_op op_add pe_int (pe_op op_mod (pv 4) pe_int)) pa_nil)))) (pa_cons (pe_lst (pa_cons pe_str (pa_cons pe_int (pa_cons (pe_op op_mod (pv 4) pe_int) (pa_cons pe_int pa_nil))))) (pa_cons (pe_lst (pa_cons pe_str (pa_cons pe_int (pa_cons pe_int pa_nil)))) pa_nil))))) (pg_name (i := 5) sc_law_chain.nd rfl (Or.inl rfl))
      (pss_cons (ps_expr (pe_call G_law_asked (hr.mono (by decide)) rfl T.m_law_asked T.k_law_asked T.b_law_asked .nil passL (pa_cons (pv 0) (pa_cons (pv 5) pa_nil))))
    (pss_one (ps_expr (pe_call G_law_done (hr.mono (by decide)) rfl T.m_law_done T.k_law_done T.b_law_done .nil passL (pa_cons (pv 5) (pa_cons (pv 1) (pa_cons (pv 2) pa_nil)))))))))))
abbrev sm_law : Stmt := (top 36)
theorem sc_law : FnScope N_law ["_law_script"] (defScope sm_law) := ⟨rfl, rfl, rfl, by decide +kernel, rfl, by decide +kernel, by decide +kernel⟩
theorem ok_law (T : Txt K mg A D) (G_init : FnOk P w K mg base (L2.CX P w) 2 D.f_init D.d_init ["self", "hands", "room"] (lift (P_init K A))) (G_law_mixed : FnOk P w K mg base (L2.CX P w) 3 D.f_law_mixed D.d_law_mixed ["_law_script", "_law_most"] (lift (P_law_mixed K A))) (G_law_chain : FnOk P w K mg base (L2.CX P w) 4 D.f_law_chain D.d_law_chain ["_law_heap", "_law_hands", "_law_rows", "_law_size"] (lift (P_law_chain K A))) (G_law_mixed_at : FnOk P w K mg base (L2.CX P w) 2 D.f_law_mixed_at D.d_law_mixed_at ["_law_script", "_law_k"] (lift (P_law_mixed_at K A))) (G_law_deeds : FnOk P w K mg base (L2.CX P w) 1 D.f_law_deeds D.d_law_deeds ["_law_cell", "_law_hands", "_law_rows"] (lift (P_law_deeds K A))) (G_law_counted : FnOk P w K mg base (L2.CX P w) 1 D.f_law_counted D.d_law_counted ["_law_counts", "_law_many"] (lift (P_law_counted K A))) (G_work : FnOk P w K mg base (L2.CX P w) 4 D.f_work D.d_work ["self", "pieces"] (lift (P_work K A))) (G_law_asked : FnOk P w K mg base (L2.CX P w) 3 D.f_law_asked D.d_law_asked ["_law_heap", "_law_deed"] (lift (P_law_asked K A))) (G_law_done : FnOk P w K mg base (L2.CX P w) 1 D.f_law_done D.d_law_done ["_law_deed", "_law_hands", "_law_rows"] (lift (P_law_done K A))) (G_phase : FnOk P w K mg base (L2.CX P w) 1 D.f_phase D.d_phase ["self"] (lift (P_phase K A))) (G_law_good : FnOk P w K mg base (L2.CX P w) 2 D.f_law_good D.d_law_good ["_law_heap", "_law_rows", "_law_came_here"] (lift (P_law_good K A))) (G_law_came : FnOk P w K mg base (L2.CX P w) 1 D.f_law_came D.d_law_came ["_law_hands", "_law_rows"] (lift (P_law_came K A))) : FnOk P w K mg base (L2.CX P w) 5 D.f_law D.d_law ["_law_script"] (lift (P_law K A)) := by
  refine T.F_law.okX sc_law (lift_len pm1_len) (fun cdv Ar outer s H vs Q E hr h => ?_)
  have hu := hu_of hr
  refine ⟨t_law K A E, ?_, lift_body h fun L Qa Ea he p => p_law T.H he p⟩
  exact (pss_cons (ps_set (i := 1) sc_law.nd rfl (Or.inl rfl) (pe_op op_add pe_int (pe_op op_mod (pe_call G_law_mixed_at (hr.mono (by decide)) rfl T.m_law_mixed_at T.k_law_mixed_at T.b_law_mixed_at .nil passL (pa_cons (pv 0) (pa_cons pe_int pa_nil))) pe_int)))
    (pss_cons (ps_set (i := 2) sc_law.nd rfl (Or.inl rfl) (pe_make T.M_init G_init (hr.mono (by decide)) rfl T.g_Heap T.b_init .nil passL (pa_cons (pv 1) (pa_cons pe_int pa_nil))))
    (pss_cons (ps_setLc (i := 3) (own := [("_law_k", 8)]) (g := gName 8) (tt := tYes) rfl sc_law.nd rfl rfl (sw_true rfl rfl rfl (by decide +kernel)) (pi_range1 rfl T.z_range (pa_cons (pv 1) pa_nil)) (blkOk_by (N := N_law) (sc := defScope sm_law) (by decide +kernel)) (fun _ _ _ _ _ => pg_name (i := 8) sc_law.nd rfl (Or.inl rfl)) (fun _ _ _ _ _ => pts_nil) (fun _ _ _ _ _ => pe_non))
    (pss_cons (ps_set (i := 4) sc_law.nd rfl (Or.inl rfl) (pe_lst pa_nil))
    (pss_cons (ps_if (PW.pt (pw_and (pt_cmpR op_gt (pv 1) pe_int (nomark _)) (pw_and1 (pt_cmpR op_eq (pe_op op_mod (pe_op op_fdiv (pe_call G_law_mixed_at (hr.mono (by decide)) rfl T.m_law_mixed_at T.k_law_mixed_at T.b_law_mixed_at .nil passL (pa_cons (pv 0) (pa_cons pe_int pa_nil))) pe_int) pe_int) pe_int (nomark _))))) (pss_one (ps_expr (pe_call G_law_chain (hr.mono (by decide)) rfl T.m_law_chain T.k_law_chain T.b_law_chain .nil passL (pa_cons (pv 2) (pa_cons (pv 3) (pa_cons (pv 4) (pa_cons (pe_op op_mod (pe_op op_fdiv (pe_call G_law_mixed_at (hr.mono (by decide)) rfl T.m_law_mixed_at T.k_law_mixed_at T.b_law_mixed_at .nil passL (pa_cons (pv 0) (pa_cons pe_int pa_nil))) pe_int) pe_int) pa_nil))))))) pss_nil)
    (pss_cons (ps_set (i := 5) sc_law.nd rfl (Or.inl rfl) (pe_lst pa_nil))
    (pss_cons (ps_set (i := 6) sc_law.nd rfl (Or.inl rfl) (pe_lst (pa_cons pe_int (pa_cons pe_int (pa_cons pe_int (pa_cons (pe_callB cl_len (by rfl) T.z_len (by decide +kernel) (pa_cons (pv 4) pa_nil)) pa_nil))))))
    (pss_cons (ps_for PassesOwn.leaving rfl (pi_list (pe_call G_law_mixed (hr.mono (by decide)) rfl T.m_law_mixed T.k_law_mixed T.b_law_mixed .nil passL (pa_cons (pv 0) (pa_cons pe_int pa_nil)))) (pg_name (i := 7) sc_law.nd rfl (Or.inl rfl))
      (pss_cons (ps_if (pt_cmpR op_gt (pe_op op_mod (pv 7) pe_int) pe_int (nomark _)) (pss_one (ps_for PassesOwn.leaving rfl (pi_range1 rfl T.z_range (pa_cons (pe_op op_sub (pe_op op_mod (pv 7) pe_int) pe_int) pa_nil)) (pg_name (i := 8) sc_law.nd rfl (Or.inl rfl))
      (pss_cons (ps_if (pt_cmpR op_eq (pe_ix ix_list (pv 6) pe_int (fun _ _ => rfl)) pe_int (nomark _)) (pss_one (ps_set (i := 5) sc_law.nd rfl (Or.inl rfl) (pe_call G_law_came (hr.mono (by decide)) rfl T.m_law_came T.k_law_came T.b_law_came .nil passL (pa_cons (pv 3) (pa_cons (pv 4) pa_nil))))) pss_nil)
    (pss_cons (ps_expr (pe_call G_law_counted (hr.mono (by decide)) rfl T.m_law_counted T.k_law_counted T.b_law_counted .nil passL (pa_cons (pv 6) (pa_cons (pe_callB cl_len (by rfl) T.z_len (by decide +kernel) (pa_cons (pv 5) pa_nil)) pa_nil))))
    (pss_one (ps_expr (pe_meth (pv 2) T.H.cl T.M_work G_work (hr.mono (by decide)) T.b_work .nil passL (pa_cons pe_int pa_nil)))))))) (pss_one (ps_for PassesOwn.leaving rfl (pi_list (pe_call G_law_deeds (hr.mono (by decide)) rfl T.m_law_deeds T.k_law_deeds T.b_law_deeds .nil passL (pa_cons (pe_op op_add (pe_op op_mul (pe_op op_fdiv (pv 7) pe_int) pe_int) (pe_ix ix_list (pe_lst (pa_cons pe_int (pa_cons pe_int (pa_cons pe_int (pa_cons pe_int (pa_cons pe_int (pa_cons pe_int (pa_cons pe_int pa_nil)))))))) (pe_op op_mod (pv 7) pe_int) (fun _ _ => rfl))) (pa_cons (pv 3) (pa_cons (pv 4) pa_nil))))) (pg_name (i := 9) sc_law.nd rfl (Or.inl rfl))
      (pss_cons (ps_expr (pe_call G_law_asked (hr.mono (by decide)) rfl T.m_law_asked T.k_law_asked T.b_law_asked .nil passL (pa_cons (pv 2) (pa_cons (pv 9) pa_nil))))
    (pss_cons (ps_expr (pe_call G_law_done (hr.mono (by decide)) rfl T.m_law_done T.k_law_done T.b_law_done .nil passL (pa_cons (pv 9) (pa_cons (pv 3) (pa_cons (pv 4) pa_nil)))))
    (pss_one (ps_if (pt_cmpR op_eq (pe_ix ix_list (pv 9) pe_int (fun _ _ => rfl)) pe_str (nomark _)) (pss_one (ps_augS (pv 6) pe_int get_list pe_int ip_add set_list)) pss_nil)))))))
    (pss_cons (ps_if (pt_cmpR op_ne (pe_cmpR op_eq (pe_meth0 (pv 2) T.H.cl T.M_phase G_phase (hr.mono (by decide)) T.b_phase .nil passL) pe_str (nomark _)) (pe_cmpR op_gt (pe_ix ix_list (pv 6) pe_int (fun _ _ => rfl)) pe_int (nomark _)) (nomark _)) (pss_one (ps_ret pe_bl)) pss_nil)
    (pss_one (ps_if (PW.pt (pw_and (pt_cmpR op_gt (pe_ix ix_list (pv 6) pe_int (fun _ _ => rfl)) pe_int (nomark _)) (pw_and1 (pt_not (pt_val (pe_call G_law_good (hr.mono (by decide)) rfl T.m_law_good T.k_law_good T.b_law_good .nil passL (pa_cons (pv 2) (pa_cons (pv 4) (pa_cons (pv 5) pa_nil))))))))) (pss_one (ps_ret pe_bl)) pss_nil)))))
    (pss_one (ps_ret pe_bl))))))))))
end
theorem all_mk {l : PySem.W.OpenLaw} {w : World} {K : PySem.W.Frag} {h : Heap} {mg : Str → Option Value} {fa : Addr} {f_law_came f_law_cell_at f_law_whole f_law_ahead f_waiting f_marked f_phase f_law_done f_need_hand f_mark f_row_of f_sweep f_boxes f_rest f_law_counted f_law_deeds f_law_mixed_at f_law_good f_share f_put f_take f_make f_drop f_look_at f_begin f_settle f_init f_law_asked f_piece f_law_mixed f_work f_law_chain f_law cHeap cNoHand cNoSlot cNoRoom cNothingHeld cNoWork cNoHeap : Addr} (X : K.In h) (G : h.Ns mainGlobals mg) (hfa : mg "law" = some (.ref fa))
    {od_law_came an_law_came od_law_cell_at an_law_cell_at od_law_whole an_law_whole od_law_ahead an_law_ahead od_waiting an_waiting od_marked an_marked od_phase an_phase od_law_done an_law_done od_need_hand an_need_hand od_mark an_mark od_row_of an_row_of od_sweep an_sweep od_boxes an_boxes od_rest an_rest od_law_counted an_law_counted od_law_deeds an_law_deeds od_law_mixed_at an_law_mixed_at od_law_good an_law_good od_share an_share od_put an_put od_take an_take od_make an_make od_drop an_drop od_look_at an_look_at od_begin an_begin od_settle an_settle od_init an_init od_law_asked an_law_asked od_piece an_piece od_law_mixed an_law_mixed od_work an_work od_law_chain an_law_chain od_law an_law : Option Addr} {sl_law_came sl_law_cell_at sl_law_whole sl_law_ahead sl_waiting sl_marked sl_phase sl_law_done sl_need_hand sl_mark sl_row_of sl_sweep sl_boxes sl_rest sl_law_counted sl_law_deeds sl_law_mixed_at sl_law_good sl_share sl_put sl_take sl_make sl_drop sl_look_at sl_begin sl_settle sl_init sl_law_asked sl_piece sl_law_mixed sl_work sl_law_chain sl_law : Array (Option Value)} {oc_law_came kV_law_came dc_law_came pm_law_came cd_law_came ct_law_came oc_law_cell_at kV_law_cell_at dc_law_cell_at pm_law_cell_at cd_law_cell_at ct_law_cell_at oc_law_whole kV_law_whole dc_law_whole pm_law_whole cd_law_whole ct_law_whole oc_law_ahead kV_law_ahead dc_law_ahead pm_law_ahead cd_law_ahead ct_law_ahead oc_waiting kV_waiting dc_waiting pm_waiting cd_waiting ct_waiting oc_marked kV_marked dc_marked pm_marked cd_marked ct_marked oc_phase kV_phase dc_phase pm_phase cd_phase ct_phase oc_law_done kV_law_done dc_law_done pm_law_done cd_law_done ct_law_done oc_need_hand kV_need_hand dc_need_hand pm_need_hand cd_need_hand ct_need_hand oc_mark kV_mark dc_mark pm_mark cd_mark ct_mark oc_row_of kV_row_of dc_row_of pm_row_of cd_row_of ct_row_of oc_sweep kV_sweep dc_sweep pm_sweep cd_sweep ct_sweep oc_boxes kV_boxes dc_boxes pm_boxes cd_boxes ct_boxes oc_rest kV_rest dc_rest pm_rest cd_rest ct_rest oc_law_counted kV_law_counted dc_law_counted pm_law_counted cd_law_counted ct_law_counted oc_law_deeds kV_law_deeds dc_law_deeds pm_law_deeds cd_law_deeds ct_law_deeds oc_law_mixed_at kV_law_mixed_at dc_law_mixed_at pm_law_mixed_at cd_law_mixed_at ct_law_mixed_at oc_law_good kV_law_good dc_law_good pm_law_good cd_law_good ct_law_good oc_share kV_share dc_share pm_share cd_share ct_share oc_put kV_put dc_put pm_put cd_put ct_put oc_take kV_take dc_take pm_take cd_take ct_take oc_make kV_make dc_make pm_make cd_make ct_make oc_drop kV_drop dc_drop pm_drop cd_drop ct_drop oc_look_at kV_look_at dc_look_at pm_look_at cd_look_at ct_look_at oc_begin kV_begin dc_begin pm_begin cd_begin ct_begin oc_settle kV_settle dc_settle pm_settle cd_settle ct_settle oc_init kV_init dc_init pm_init cd_init ct_init oc_law_asked kV_law_asked dc_law_asked pm_law_asked cd_law_asked ct_law_asked oc_piece kV_piece dc_piece pm_piece cd_piece ct_piece oc_law_mixed kV_law_mixed dc_law_mixed pm_law_mixed cd_law_mixed ct_law_mixed oc_work kV_work dc_work pm_work cd_work ct_work oc_law_chain kV_law_chain dc_law_chain pm_law_chain cd_law_chain ct_law_chain oc_law kV_law dc_law pm_law cd_law ct_law : Value}
    {tk_MOST_HANDS tk_MOST_PIECES tk_MOST_ROOM tk_MOST_SLOTS : Tok}
    (aHeap : PySem.W.nsIn K mainGlobals "Heap" = some (some (.ref cHeap)))
    (a_law_came : PySem.W.nsIn K mainGlobals "_law_came" = some (some (.ref f_law_came)))
    (l_law_came : K.lookup f_law_came = some ⟨oc_law_came, od_law_came, .func (PySem.W.fnOf "_law_came" "_law_came" (defArgs sm_law_came) (defBody sm_law_came) (defScope sm_law_came) .none kV_law_came dc_law_came pm_law_came an_law_came cd_law_came ct_law_came), sl_law_came⟩)
    (c_law_came : PySem.W.codeIn K cd_law_came "_law_came" = true)
    (k_law_came : PySem.W.keepIn K (.ref f_law_came) = true)
    (a_law_cell_at : PySem.W.nsIn K mainGlobals "_law_cell_at" = some (some (.ref f_law_cell_at)))
    (l_law_cell_at : K.lookup f_law_cell_at = some ⟨oc_law_cell_at, od_law_cell_at, .func (PySem.W.fnOf "_law_cell_at" "_law_cell_at" (defArgs sm_law_cell_at) (defBody sm_law_cell_at) (defScope sm_law_cell_at) .none kV_law_cell_at dc_law_cell_at pm_law_cell_at an_law_cell_at cd_law_cell_at ct_law_cell_at), sl_law_cell_at⟩)
    (c_law_cell_at : PySem.W.codeIn K cd_law_cell_at "_law_cell_at" = true)
    (k_law_cell_at : PySem.W.keepIn K (.ref f_law_cell_at) = true)
    (a_law_whole : PySem.W.nsIn K mainGlobals "_law_whole" = some (some (.ref f_law_whole)))
    (l_law_whole : K.lookup f_law_whole = some ⟨oc_law_whole, od_law_whole, .func (PySem.W.fnOf "_law_whole" "_law_whole" (defArgs sm_law_whole) (defBody sm_law_whole) (defScope sm_law_whole) .none kV_law_whole dc_law_whole pm_law_whole an_law_whole cd_law_whole ct_law_whole), sl_law_whole⟩)
    (c_law_whole : PySem.W.codeIn K cd_law_whole "_law_whole" = true)
    (k_law_whole : PySem.W.keepIn K (.ref f_law_whole) = true)
    (a_law_ahead : PySem.W.nsIn K mainGlobals "_law_ahead" = some (some (.ref f_law_ahead)))
    (l_law_ahead : K.lookup f_law_ahead = some ⟨oc_law_ahead, od_law_ahead, .func (PySem.W.fnOf "_law_ahead" "_law_ahead" (defArgs sm_law_ahead) (defBody sm_law_ahead) (defScope sm_law_ahead) .none kV_law_ahead dc_law_ahead pm_law_ahead an_law_ahead cd_law_ahead ct_law_ahead), sl_law_ahead⟩)
    (c_law_ahead : PySem.W.codeIn K cd_law_ahead "_law_ahead" = true)
    (k_law_ahead : PySem.W.keepIn K (.ref f_law_ahead) = true)
    (a_waiting : PySem.W.findIn K (.ref cHeap) "waiting" = some (some (.ref f_waiting)))
    (i_waiting : PySem.W.isFn K (.ref f_waiting) = true)
    (l_waiting : K.lookup f_waiting = some ⟨oc_waiting, od_waiting, .func (PySem.W.fnOf "waiting" "Heap.waiting" (defArgs sm_waiting) (defBody sm_waiting) (defScope sm_waiting) .none kV_waiting dc_waiting pm_waiting an_waiting cd_waiting ct_waiting), sl_waiting⟩)
    (c_waiting : PySem.W.codeIn K cd_waiting "Heap.waiting" = true)
    (k_waiting : PySem.W.keepIn K (.ref f_waiting) = true)
    (a_marked : PySem.W.findIn K (.ref cHeap) "marked" = some (some (.ref f_marked)))
    (i_marked : PySem.W.isFn K (.ref f_marked) = true)
    (l_marked : K.lookup f_marked = some ⟨oc_marked, od_marked, .func (PySem.W.fnOf "marked" "Heap.marked" (defArgs sm_marked) (defBody sm_marked) (defScope sm_marked) .none kV_marked dc_marked pm_marked an_marked cd_marked ct_marked), sl_marked⟩)
    (c_marked : PySem.W.codeIn K cd_marked "Heap.marked" = true)
    (k_marked : PySem.W.keepIn K (.ref f_marked) = true)
    (a_phase : PySem.W.findIn K (.ref cHeap) "phase" = some (some (.ref f_phase)))
    (i_phase : PySem.W.isFn K (.ref f_phase) = true)
    (l_phase : K.lookup f_phase = some ⟨oc_phase, od_phase, .func (PySem.W.fnOf "phase" "Heap.phase" (defArgs sm_phase) (defBody sm_phase) (defScope sm_phase) .none kV_phase dc_phase pm_phase an_phase cd_phase ct_phase), sl_phase⟩)
    (c_phase : PySem.W.codeIn K cd_phase "Heap.phase" = true)
    (k_phase : PySem.W.keepIn K (.ref f_phase) = true)
    (a_law_done : PySem.W.nsIn K mainGlobals "_law_done" = some (some (.ref f_law_done)))
    (l_law_done : K.lookup f_law_done = some ⟨oc_law_done, od_law_done, .func (PySem.W.fnOf "_law_done" "_law_done" (defArgs sm_law_done) (defBody sm_law_done) (defScope sm_law_done) .none kV_law_done dc_law_done pm_law_done an_law_done cd_law_done ct_law_done), sl_law_done⟩)
    (c_law_done : PySem.W.codeIn K cd_law_done "_law_done" = true)
    (k_law_done : PySem.W.keepIn K (.ref f_law_done) = true)
    (a_need_hand : PySem.W.findIn K (.ref cHeap) "need_hand" = some (some (.ref f_need_hand)))
    (i_need_hand : PySem.W.isFn K (.ref f_need_hand) = true)
    (l_need_hand : K.lookup f_need_hand = some ⟨oc_need_hand, od_need_hand, .func (PySem.W.fnOf "need_hand" "Heap.need_hand" (defArgs sm_need_hand) (defBody sm_need_hand) (defScope sm_need_hand) .none kV_need_hand dc_need_hand pm_need_hand an_need_hand cd_need_hand ct_need_hand), sl_need_hand⟩)
    (c_need_hand : PySem.W.codeIn K cd_need_hand "Heap.need_hand" = true)
    (k_need_hand : PySem.W.keepIn K (.ref f_need_hand) = true)
    (a_mark : PySem.W.nsIn K mainGlobals "mark" = some (some (.ref f_mark)))
    (l_mark : K.lookup f_mark = some ⟨oc_mark, od_mark, .func (PySem.W.fnOf "mark" "mark" (defArgs sm_mark) (defBody sm_mark) (defScope sm_mark) .none kV_mark dc_mark pm_mark an_mark cd_mark ct_mark), sl_mark⟩)
    (c_mark : PySem.W.codeIn K cd_mark "mark" = true)
    (k_mark : PySem.W.keepIn K (.ref f_mark) = true)
    (a_row_of : PySem.W.findIn K (.ref cHeap) "row_of" = some (some (.ref f_row_of)))
    (i_row_of : PySem.W.isFn K (.ref f_row_of) = true)
    (l_row_of : K.lookup f_row_of = some ⟨oc_row_of, od_row_of, .func (PySem.W.fnOf "row_of" "Heap.row_of" (defArgs sm_row_of) (defBody sm_row_of) (defScope sm_row_of) .none kV_row_of dc_row_of pm_row_of an_row_of cd_row_of ct_row_of), sl_row_of⟩)
    (c_row_of : PySem.W.codeIn K cd_row_of "Heap.row_of" = true)
    (k_row_of : PySem.W.keepIn K (.ref f_row_of) = true)
    (a_sweep : PySem.W.nsIn K mainGlobals "sweep" = some (some (.ref f_sweep)))
    (l_sweep : K.lookup f_sweep = some ⟨oc_sweep, od_sweep, .func (PySem.W.fnOf "sweep" "sweep" (defArgs sm_sweep) (defBody sm_sweep) (defScope sm_sweep) .none kV_sweep dc_sweep pm_sweep an_sweep cd_sweep ct_sweep), sl_sweep⟩)
    (c_sweep : PySem.W.codeIn K cd_sweep "sweep" = true)
    (k_sweep : PySem.W.keepIn K (.ref f_sweep) = true)
    (a_boxes : PySem.W.findIn K (.ref cHeap) "boxes" = some (some (.ref f_boxes)))
    (i_boxes : PySem.W.isFn K (.ref f_boxes) = true)
    (l_boxes : K.lookup f_boxes = some ⟨oc_boxes, od_boxes, .func (PySem.W.fnOf "boxes" "Heap.boxes" (defArgs sm_boxes) (defBody sm_boxes) (defScope sm_boxes) .none kV_boxes dc_boxes pm_boxes an_boxes cd_boxes ct_boxes), sl_boxes⟩)
    (c_boxes : PySem.W.codeIn K cd_boxes "Heap.boxes" = true)
    (k_boxes : PySem.W.keepIn K (.ref f_boxes) = true)
    (a_rest : PySem.W.findIn K (.ref cHeap) "rest" = some (some (.ref f_rest)))
    (i_rest : PySem.W.isFn K (.ref f_rest) = true)
    (l_rest : K.lookup f_rest = some ⟨oc_rest, od_rest, .func (PySem.W.fnOf "rest" "Heap.rest" (defArgs sm_rest) (defBody sm_rest) (defScope sm_rest) .none kV_rest dc_rest pm_rest an_rest cd_rest ct_rest), sl_rest⟩)
    (c_rest : PySem.W.codeIn K cd_rest "Heap.rest" = true)
    (k_rest : PySem.W.keepIn K (.ref f_rest) = true)
    (a_law_counted : PySem.W.nsIn K mainGlobals "_law_counted" = some (some (.ref f_law_counted)))
    (l_law_counted : K.lookup f_law_counted = some ⟨oc_law_counted, od_law_counted, .func (PySem.W.fnOf "_law_counted" "_law_counted" (defArgs sm_law_counted) (defBody sm_law_counted) (defScope sm_law_counted) .none kV_law_counted dc_law_counted pm_law_counted an_law_counted cd_law_counted ct_law_counted), sl_law_counted⟩)
    (c_law_counted : PySem.W.codeIn K cd_law_counted "_law_counted" = true)
    (k_law_counted : PySem.W.keepIn K (.ref f_law_counted) = true)
    (a_law_deeds : PySem.W.nsIn K mainGlobals "_law_deeds" = some (some (.ref f_law_deeds)))
    (l_law_deeds : K.lookup f_law_deeds = some ⟨oc_law_deeds, od_law_deeds, .func (PySem.W.fnOf "_law_deeds" "_law_deeds" (defArgs sm_law_deeds) (defBody sm_law_deeds) (defScope sm_law_deeds) .none kV_law_deeds dc_law_deeds pm_law_deeds an_law_deeds cd_law_deeds ct_law_deeds), sl_law_deeds⟩)
    (c_law_deeds : PySem.W.codeIn K cd_law_deeds "_law_deeds" = true)
    (k_law_deeds : PySem.W.keepIn K (.ref f_law_deeds) = true)
    (a_law_mixed_at : PySem.W.nsIn K mainGlobals "_law_mixed_at" = some (some (.ref f_law_mixed_at)))
    (l_law_mixed_at : K.lookup f_law_mixed_at = some ⟨oc_law_mixed_at, od_law_mixed_at, .func (PySem.W.fnOf "_law_mixed_at" "_law_mixed_at" (defArgs sm_law_mixed_at) (defBody sm_law_mixed_at) (defScope sm_law_mixed_at) .none kV_law_mixed_at dc_law_mixed_at pm_law_mixed_at an_law_mixed_at cd_law_mixed_at ct_law_mixed_at), sl_law_mixed_at⟩)
    (c_law_mixed_at : PySem.W.codeIn K cd_law_mixed_at "_law_mixed_at" = true)
    (k_law_mixed_at : PySem.W.keepIn K (.ref f_law_mixed_at) = true)
    (a_law_good : PySem.W.nsIn K mainGlobals "_law_good" = some (some (.ref f_law_good)))
    (l_law_good : K.lookup f_law_good = some ⟨oc_law_good, od_law_good, .func (PySem.W.fnOf "_law_good" "_law_good" (defArgs sm_law_good) (defBody sm_law_good) (defScope sm_law_good) .none kV_law_good dc_law_good pm_law_good an_law_good cd_law_good ct_law_good), sl_law_good⟩)
    (c_law_good : PySem.W.codeIn K cd_law_good "_law_good" = true)
    (k_law_good : PySem.W.keepIn K (.ref f_law_good) = true)
    (a_share : PySem.W.findIn K (.ref cHeap) "share" = some (some (.ref f_share)))
    (i_share : PySem.W.isFn K (.ref f_share) = true)
    (l_share : K.lookup f_share = some ⟨oc_share, od_share, .func (PySem.W.fnOf "share" "Heap.share" (defArgs sm_share) (defBody sm_share) (defScope sm_share) .none kV_share dc_share pm_share an_share cd_share ct_share), sl_share⟩)
    (c_share : PySem.W.codeIn K cd_share "Heap.share" = true)
    (k_share : PySem.W.keepIn K (.ref f_share) = true)
    (a_put : PySem.W.findIn K (.ref cHeap) "put" = some (some (.ref f_put)))
    (i_put : PySem.W.isFn K (.ref f_put) = true)
    (l_put : K.lookup f_put = some ⟨oc_put, od_put, .func (PySem.W.fnOf "put" "Heap.put" (defArgs sm_put) (defBody sm_put) (defScope sm_put) .none kV_put dc_put pm_put an_put cd_put ct_put), sl_put⟩)
    (c_put : PySem.W.codeIn K cd_put "Heap.put" = true)
    (k_put : PySem.W.keepIn K (.ref f_put) = true)
    (a_take : PySem.W.findIn K (.ref cHeap) "take" = some (some (.ref f_take)))
    (i_take : PySem.W.isFn K (.ref f_take) = true)
    (l_take : K.lookup f_take = some ⟨oc_take, od_take, .func (PySem.W.fnOf "take" "Heap.take" (defArgs sm_take) (defBody sm_take) (defScope sm_take) .none kV_take dc_take pm_take an_take cd_take ct_take), sl_take⟩)
    (c_take : PySem.W.codeIn K cd_take "Heap.take" = true)
    (k_take : PySem.W.keepIn K (.ref f_take) = true)
    (a_make : PySem.W.findIn K (.ref cHeap) "make" = some (some (.ref f_make)))
    (i_make : PySem.W.isFn K (.ref f_make) = true)
    (l_make : K.lookup f_make = some ⟨oc_make, od_make, .func (PySem.W.fnOf "make" "Heap.make" (defArgs sm_make) (defBody sm_make) (defScope sm_make) .none kV_make dc_make pm_make an_make cd_make ct_make), sl_make⟩)
    (c_make : PySem.W.codeIn K cd_make "Heap.make" = true)
    (k_make : PySem.W.keepIn K (.ref f_make) = true)
    (a_drop : PySem.W.findIn K (.ref cHeap) "drop" = some (some (.ref f_drop)))
    (i_drop : PySem.W.isFn K (.ref f_drop) = true)
    (l_drop : K.lookup f_drop = some ⟨oc_drop, od_drop, .func (PySem.W.fnOf "drop" "Heap.drop" (defArgs sm_drop) (defBody sm_drop) (defScope sm_drop) .none kV_drop dc_drop pm_drop an_drop cd_drop ct_drop), sl_drop⟩)
    (c_drop : PySem.W.codeIn K cd_drop "Heap.drop" = true)
    (k_drop : PySem.W.keepIn K (.ref f_drop) = true)
    (a_look_at : PySem.W.nsIn K mainGlobals "look_at" = some (some (.ref f_look_at)))
    (l_look_at : K.lookup f_look_at = some ⟨oc_look_at, od_look_at, .func (PySem.W.fnOf "look_at" "look_at" (defArgs sm_look_at) (defBody sm_look_at) (defScope sm_look_at) .none kV_look_at dc_look_at pm_look_at an_look_at cd_look_at ct_look_at), sl_look_at⟩)
    (c_look_at : PySem.W.codeIn K cd_look_at "look_at" = true)
    (k_look_at : PySem.W.keepIn K (.ref f_look_at) = true)
    (a_begin : PySem.W.nsIn K mainGlobals "begin" = some (some (.ref f_begin)))
    (l_begin : K.lookup f_begin = some ⟨oc_begin, od_begin, .func (PySem.W.fnOf "begin" "begin" (defArgs sm_begin) (defBody sm_begin) (defScope sm_begin) .none kV_begin dc_begin pm_begin an_begin cd_begin ct_begin), sl_begin⟩)
    (c_begin : PySem.W.codeIn K cd_begin "begin" = true)
    (k_begin : PySem.W.keepIn K (.ref f_begin) = true)
    (a_settle : PySem.W.nsIn K mainGlobals "settle" = some (some (.ref f_settle)))
    (l_settle : K.lookup f_settle = some ⟨oc_settle, od_settle, .func (PySem.W.fnOf "settle" "settle" (defArgs sm_settle) (defBody sm_settle) (defScope sm_settle) .none kV_settle dc_settle pm_settle an_settle cd_settle ct_settle), sl_settle⟩)
    (c_settle : PySem.W.codeIn K cd_settle "settle" = true)
    (k_settle : PySem.W.keepIn K (.ref f_settle) = true)
    (a_init : PySem.W.findIn K (.ref cHeap) "__init__" = some (some (.ref f_init)))
    (i_init : PySem.W.isFn K (.ref f_init) = true)
    (l_init : K.lookup f_init = some ⟨oc_init, od_init, .func (PySem.W.fnOf "__init__" "Heap.__init__" (defArgs sm_init) (defBody sm_init) (defScope sm_init) .none kV_init dc_init pm_init an_init cd_init ct_init), sl_init⟩)
    (c_init : PySem.W.codeIn K cd_init "Heap.__init__" = true)
    (k_init : PySem.W.keepIn K (.ref f_init) = true)
    (a_law_asked : PySem.W.nsIn K mainGlobals "_law_asked" = some (some (.ref f_law_asked)))
    (l_law_asked : K.lookup f_law_asked = some ⟨oc_law_asked, od_law_asked, .func (PySem.W.fnOf "_law_asked" "_law_asked" (defArgs sm_law_asked) (defBody sm_law_asked) (defScope sm_law_asked) .none kV_law_asked dc_law_asked pm_law_asked an_law_asked cd_law_asked ct_law_asked), sl_law_asked⟩)
    (c_law_asked : PySem.W.codeIn K cd_law_asked "_law_asked" = true)
    (k_law_asked : PySem.W.keepIn K (.ref f_law_asked) = true)
    (a_piece : PySem.W.nsIn K mainGlobals "piece" = some (some (.ref f_piece)))
    (l_piece : K.lookup f_piece = some ⟨oc_piece, od_piece, .func (PySem.W.fnOf "piece" "piece" (defArgs sm_piece) (defBody sm_piece) (defScope sm_piece) .none kV_piece dc_piece pm_piece an_piece cd_piece ct_piece), sl_piece⟩)
    (c_piece : PySem.W.codeIn K cd_piece "piece" = true)
    (k_piece : PySem.W.keepIn K (.ref f_piece) = true)
    (a_law_mixed : PySem.W.nsIn K mainGlobals "_law_mixed" = some (some (.ref f_law_mixed)))
    (l_law_mixed : K.lookup f_law_mixed = some ⟨oc_law_mixed, od_law_mixed, .func (PySem.W.fnOf "_law_mixed" "_law_mixed" (defArgs sm_law_mixed) (defBody sm_law_mixed) (defScope sm_law_mixed) .none kV_law_mixed dc_law_mixed pm_law_mixed an_law_mixed cd_law_mixed ct_law_mixed), sl_law_mixed⟩)
    (c_law_mixed : PySem.W.codeIn K cd_law_mixed "_law_mixed" = true)
    (k_law_mixed : PySem.W.keepIn K (.ref f_law_mixed) = true)
    (a_work : PySem.W.findIn K (.ref cHeap) "work" = some (some (.ref f_work)))
    (i_work : PySem.W.isFn K (.ref f_work) = true)
    (l_work : K.lookup f_work = some ⟨oc_work, od_work, .func (PySem.W.fnOf "work" "Heap.work" (defArgs sm_work) (defBody sm_work) (defScope sm_work) .none kV_work dc_work pm_work an_work cd_work ct_work), sl_work⟩)
    (c_work : PySem.W.codeIn K cd_work "Heap.work" = true)
    (k_work : PySem.W.keepIn K (.ref f_work) = true)
    (a_law_chain : PySem.W.nsIn K mainGlobals "_law_chain" = some (some (.ref f_law_chain)))
    (l_law_chain : K.lookup f_law_chain = some ⟨oc_law_chain, od_law_chain, .func (PySem.W.fnOf "_law_chain" "_law_chain" (defArgs sm_law_chain) (defBody sm_law_chain) (defScope sm_law_chain) .none kV_law_chain dc_law_chain pm_law_chain an_law_chain cd_law_chain ct_law_chain), sl_law_chain⟩)
    (c_law_chain : PySem.W.codeIn K cd_law_chain "_law_chain" = true)
    (k_law_chain : PySem.W.keepIn K (.ref f_law_chain) = true)
    (a_law : PySem.W.nsIn K mainGlobals "law" = some (some (.ref f_law)))
    (l_law : K.lookup f_law = some ⟨oc_law, od_law, .func (PySem.W.fnOf "law" "law" (defArgs sm_law) (defBody sm_law) (defScope sm_law) .none kV_law dc_law pm_law an_law cd_law ct_law), sl_law⟩)
    (c_law : PySem.W.codeIn K cd_law "law" = true)
    (k_law : PySem.W.keepIn K (.ref f_law) = true)
    (pg : PySem.W.plainGet K cHeap Str.empty = true)
    (hd : PySem.W.hasDictIn K cHeap = true)
    (po : PySem.W.plainOver K cHeap = true)
    (sa : PySem.W.findIn K (.ref cHeap) "__setattr__" = some (some (.builtin "object.__setattr__")))
    (mk : PySem.W.makesIn K cHeap = true)
    (kc : PySem.W.keepIn K (.ref cHeap) = true)
    (n_hands : PySem.W.findIn K (.ref cHeap) "hands" = some none)
    (n_room : PySem.W.findIn K (.ref cHeap) "room" = some none)
    (n_slots : PySem.W.findIn K (.ref cHeap) "slots" = some none)
    (n_made : PySem.W.findIn K (.ref cHeap) "made" = some none)
    (n_ended : PySem.W.findIn K (.ref cHeap) "ended" = some none)
    (n_stage : PySem.W.findIn K (.ref cHeap) "stage" = some none)
    (n_old : PySem.W.findIn K (.ref cHeap) "old" = some none)
    (n_begun : PySem.W.findIn K (.ref cHeap) "begun" = some none)
    (n_seen : PySem.W.findIn K (.ref cHeap) "seen" = some none)
    (n_row : PySem.W.findIn K (.ref cHeap) "row" = some none)
    (n_looked : PySem.W.findIn K (.ref cHeap) "looked" = some none)
    (n_swept : PySem.W.findIn K (.ref cHeap) "swept" = some none)
    (g_NoHand : PySem.W.nsIn K mainGlobals "NoHand" = some (some (.ref cNoHand)))
    (g_NoSlot : PySem.W.nsIn K mainGlobals "NoSlot" = some (some (.ref cNoSlot)))
    (g_NoRoom : PySem.W.nsIn K mainGlobals "NoRoom" = some (some (.ref cNoRoom)))
    (g_NothingHeld : PySem.W.nsIn K mainGlobals "NothingHeld" = some (some (.ref cNothingHeld)))
    (g_NoWork : PySem.W.nsIn K mainGlobals "NoWork" = some (some (.ref cNoWork)))
    (g_NoHeap : PySem.W.nsIn K mainGlobals "NoHeap" = some (some (.ref cNoHeap)))
    (x_NoHand : PySem.W.excIn K cNoHand [.type "ValueError", .type "Exception", .type "BaseException", .type "object"] "ValueError.__new__" = true)
    (kx_NoHand : PySem.W.keepIn K (.ref cNoHand) = true)
    (bx_NoHand : PySem.W.subIn K (.ref cNoHand) (.type "BaseException") = some true)
    (tx_NoHand : PySem.W.typeIn K (.ref cNoHand) = some (.type "type"))
    (x_NoHeap : PySem.W.excIn K cNoHeap [.type "ValueError", .type "Exception", .type "BaseException", .type "object"] "ValueError.__new__" = true)
    (kx_NoHeap : PySem.W.keepIn K (.ref cNoHeap) = true)
    (bx_NoHeap : PySem.W.subIn K (.ref cNoHeap) (.type "BaseException") = some true)
    (tx_NoHeap : PySem.W.typeIn K (.ref cNoHeap) = some (.type "type"))
    (x_NoRoom : PySem.W.excIn K cNoRoom [.type "ValueError", .type "Exception", .type "BaseException", .type "object"] "ValueError.__new__" = true)
    (kx_NoRoom : PySem.W.keepIn K (.ref cNoRoom) = true)
    (bx_NoRoom : PySem.W.subIn K (.ref cNoRoom) (.type "BaseException") = some true)
    (tx_NoRoom : PySem.W.typeIn K (.ref cNoRoom) = some (.type "type"))
    (x_NoSlot : PySem.W.excIn K cNoSlot [.type "ValueError", .type "Exception", .type "BaseException", .type "object"] "ValueError.__new__" = true)
    (kx_NoSlot : PySem.W.keepIn K (.ref cNoSlot) = true)
    (bx_NoSlot : PySem.W.subIn K (.ref cNoSlot) (.type "BaseException") = some true)
    (tx_NoSlot : PySem.W.typeIn K (.ref cNoSlot) = some (.type "type"))
    (x_NoWork : PySem.W.excIn K cNoWork [.type "ValueError", .type "Exception", .type "BaseException", .type "object"] "ValueError.__new__" = true)
    (kx_NoWork : PySem.W.keepIn K (.ref cNoWork) = true)
    (bx_NoWork : PySem.W.subIn K (.ref cNoWork) (.type "BaseException") = some true)
    (tx_NoWork : PySem.W.typeIn K (.ref cNoWork) = some (.type "type"))
    (x_NothingHeld : PySem.W.excIn K cNothingHeld [.type "ValueError", .type "Exception", .type "BaseException", .type "object"] "ValueError.__new__" = true)
    (kx_NothingHeld : PySem.W.keepIn K (.ref cNothingHeld) = true)
    (bx_NothingHeld : PySem.W.subIn K (.ref cNothingHeld) (.type "BaseException") = some true)
    (tx_NothingHeld : PySem.W.typeIn K (.ref cNothingHeld) = some (.type "type"))
    (z_bool : PySem.W.nsIn K mainGlobals "bool" = some none)
    (z_int : PySem.W.nsIn K mainGlobals "int" = some none)
    (z_isinstance : PySem.W.nsIn K mainGlobals "isinstance" = some none)
    (z_len : PySem.W.nsIn K mainGlobals "len" = some none)
    (z_list : PySem.W.nsIn K mainGlobals "list" = some none)
    (z_max : PySem.W.nsIn K mainGlobals "max" = some none)
    (z_min : PySem.W.nsIn K mainGlobals "min" = some none)
    (z_range : PySem.W.nsIn K mainGlobals "range" = some none)
    (z_sorted : PySem.W.nsIn K mainGlobals "sorted" = some none)
    (c_MOST_HANDS : PySem.W.nsIn K mainGlobals "MOST_HANDS" = some (some (.int 8 tk_MOST_HANDS)))
    (c_MOST_PIECES : PySem.W.nsIn K mainGlobals "MOST_PIECES" = some (some (.int 2500 tk_MOST_PIECES)))
    (c_MOST_ROOM : PySem.W.nsIn K mainGlobals "MOST_ROOM" = some (some (.int 1000 tk_MOST_ROOM)))
    (c_MOST_SLOTS : PySem.W.nsIn K mainGlobals "MOST_SLOTS" = some (some (.int 4 tk_MOST_SLOTS)))
    : ∃ fd : FuncData, (∀ (s : Shared) (v : Value), BindsTo s fd ⟨[v], []⟩ [("_law_script", v)]) ∧ ∀ base : Heap, K.In base → base.Ns mainGlobals mg → FnOk l.prog w K mg base (L2.CX l.prog w) 5 fa fd ["_law_script"] (lift (P_law K Ex0)) := by
  have e := hfa.symm.trans (PySem.W.mg_of X G a_law)
  cases e
  have F_law_came := fun_mk (st := sm_law_came) l_law_came c_law_came k_law_came
  have F_law_cell_at := fun_mk (st := sm_law_cell_at) l_law_cell_at c_law_cell_at k_law_cell_at
  have F_law_whole := fun_mk (st := sm_law_whole) l_law_whole c_law_whole k_law_whole
  have F_law_ahead := fun_mk (st := sm_law_ahead) l_law_ahead c_law_ahead k_law_ahead
  have F_waiting := fun_mk (st := sm_waiting) l_waiting c_waiting k_waiting
  have F_marked := fun_mk (st := sm_marked) l_marked c_marked k_marked
  have F_phase := fun_mk (st := sm_phase) l_phase c_phase k_phase
  have F_law_done := fun_mk (st := sm_law_done) l_law_done c_law_done k_law_done
  have F_need_hand := fun_mk (st := sm_need_hand) l_need_hand c_need_hand k_need_hand
  have F_mark := fun_mk (st := sm_mark) l_mark c_mark k_mark
  have F_row_of := fun_mk (st := sm_row_of) l_row_of c_row_of k_row_of
  have F_sweep := fun_mk (st := sm_sweep) l_sweep c_sweep k_sweep
  have F_boxes := fun_mk (st := sm_boxes) l_boxes c_boxes k_boxes
  have F_rest := fun_mk (st := sm_rest) l_rest c_rest k_rest
  have F_law_counted := fun_mk (st := sm_law_counted) l_law_counted c_law_counted k_law_counted
  have F_law_deeds := fun_mk (st := sm_law_deeds) l_law_deeds c_law_deeds k_law_deeds
  have F_law_mixed_at := fun_mk (st := sm_law_mixed_at) l_law_mixed_at c_law_mixed_at k_law_mixed_at
  have F_law_good := fun_mk (st := sm_law_good) l_law_good c_law_good k_law_good
  have F_share := fun_mk (st := sm_share) l_share c_share k_share
  have F_put := fun_mk (st := sm_put) l_put c_put k_put
  have F_take := fun_mk (st := sm_take) l_take c_take k_take
  have F_make := fun_mk (st := sm_make) l_make c_make k_make
  have F_drop := fun_mk (st := sm_drop) l_drop c_drop k_drop
  have F_look_at := fun_mk (st := sm_look_at) l_look_at c_look_at k_look_at
  have F_begin := fun_mk (st := sm_begin) l_begin c_begin k_begin
  have F_settle := fun_mk (st := sm_settle) l_settle c_settle k_settle
  have F_init := fun_mk (st := sm_init) l_init c_init k_init
  have F_law_asked := fun_mk (st := sm_law_asked) l_law_asked c_law_asked k_law_asked
  have F_piece := fun_mk (st := sm_piece) l_piece c_piece k_piece
  have F_law_mixed := fun_mk (st := sm_law_mixed) l_law_mixed c_law_mixed k_law_mixed
  have F_work := fun_mk (st := sm_work) l_work c_work k_work
  have F_law_chain := fun_mk (st := sm_law_chain) l_law_chain c_law_chain k_law_chain
  have F_law := fun_mk (st := sm_law) l_law c_law k_law
  have b_law_came := F_law_came.binds (ps := ["_law_hands", "_law_rows"]) fun _ _ _ _ _ _ us hl => match us, hl with | [_, _], _ => rfl
  have b_law_cell_at := F_law_cell_at.binds (ps := ["_law_script", "_law_k"]) fun _ _ _ _ _ _ us hl => match us, hl with | [_, _], _ => rfl
  have b_law_whole := F_law_whole.binds (ps := ["_law_found"]) fun _ _ _ _ _ _ us hl => match us, hl with | [_], _ => rfl
  have b_law_ahead := F_law_ahead.binds (ps := ["_law_rows", "_law_came_here", "_law_marked", "_law_waiting"]) fun _ _ _ _ _ _ us hl => match us, hl with | [_, _, _, _], _ => rfl
  have b_waiting := F_waiting.binds (ps := ["self"]) fun _ _ _ _ _ _ us hl => match us, hl with | [_], _ => rfl
  have b_marked := F_marked.binds (ps := ["self"]) fun _ _ _ _ _ _ us hl => match us, hl with | [_], _ => rfl
  have b_phase := F_phase.binds (ps := ["self"]) fun _ _ _ _ _ _ us hl => match us, hl with | [_], _ => rfl
  have b_law_done := F_law_done.binds (ps := ["_law_deed", "_law_hands", "_law_rows"]) fun _ _ _ _ _ _ us hl => match us, hl with | [_, _, _], _ => rfl
  have b_need_hand := F_need_hand.binds (ps := ["self", "hand"]) fun _ _ _ _ _ _ us hl => match us, hl with | [_, _], _ => rfl
  have b_mark := F_mark.binds (ps := ["heap", "box"]) fun _ _ _ _ _ _ us hl => match us, hl with | [_, _], _ => rfl
  have b_row_of := F_row_of.binds (ps := ["self", "hand", "slot"]) fun _ _ _ _ _ _ us hl => match us, hl with | [_, _, _], _ => rfl
  have b_sweep := F_sweep.binds (ps := ["heap"]) fun _ _ _ _ _ _ us hl => match us, hl with | [_], _ => rfl
  have b_boxes := F_boxes.binds (ps := ["self"]) fun _ _ _ _ _ _ us hl => match us, hl with | [_], _ => rfl
  have b_rest := F_rest.binds (ps := ["self"]) fun _ _ _ _ _ _ us hl => match us, hl with | [_], _ => rfl
  have b_law_counted := F_law_counted.binds (ps := ["_law_counts", "_law_many"]) fun _ _ _ _ _ _ us hl => match us, hl with | [_, _], _ => rfl
  have b_law_deeds := F_law_deeds.binds (ps := ["_law_cell", "_law_hands", "_law_rows"]) fun _ _ _ _ _ _ us hl => match us, hl with | [_, _, _], _ => rfl
  have b_law_mixed_at := F_law_mixed_at.binds (ps := ["_law_script", "_law_k"]) fun _ _ _ _ _ _ us hl => match us, hl with | [_, _], _ => rfl
  have b_law_good := F_law_good.binds (ps := ["_law_heap", "_law_rows", "_law_came_here"]) fun _ _ _ _ _ _ us hl => match us, hl with | [_, _, _], _ => rfl
  have b_share := F_share.binds (ps := ["self", "hand", "other"]) fun _ _ _ _ _ _ us hl => match us, hl with | [_, _, _], _ => rfl
  have b_put := F_put.binds (ps := ["self", "hand", "slot", "other"]) fun _ _ _ _ _ _ us hl => match us, hl with | [_, _, _, _], _ => rfl
  have b_take := F_take.binds (ps := ["self", "hand", "other", "slot"]) fun _ _ _ _ _ _ us hl => match us, hl with | [_, _, _, _], _ => rfl
  have b_make := F_make.binds (ps := ["self", "hand", "slots"]) fun _ _ _ _ _ _ us hl => match us, hl with | [_, _, _], _ => rfl
  have b_drop := F_drop.binds (ps := ["self", "hand"]) fun _ _ _ _ _ _ us hl => match us, hl with | [_, _], _ => rfl
  have b_look_at := F_look_at.binds (ps := ["heap"]) fun _ _ _ _ _ _ us hl => match us, hl with | [_], _ => rfl
  have b_begin := F_begin.binds (ps := ["heap"]) fun _ _ _ _ _ _ us hl => match us, hl with | [_], _ => rfl
  have b_settle := F_settle.binds (ps := ["heap"]) fun _ _ _ _ _ _ us hl => match us, hl with | [_], _ => rfl
  have b_init := F_init.binds (ps := ["self", "hands", "room"]) fun _ _ _ _ _ _ us hl => match us, hl with | [_, _, _], _ => rfl
  have b_law_asked := F_law_asked.binds (ps := ["_law_heap", "_law_deed"]) fun _ _ _ _ _ _ us hl => match us, hl with | [_, _], _ => rfl
  have b_piece := F_piece.binds (ps := ["heap"]) fun _ _ _ _ _ _ us hl => match us, hl with | [_], _ => rfl
  have b_law_mixed := F_law_mixed.binds (ps := ["_law_script", "_law_most"]) fun _ _ _ _ _ _ us hl => match us, hl with | [_, _], _ => rfl
  have b_work := F_work.binds (ps := ["self", "pieces"]) fun _ _ _ _ _ _ us hl => match us, hl with | [_, _], _ => rfl
  have b_law_chain := F_law_chain.binds (ps := ["_law_heap", "_law_hands", "_law_rows", "_law_size"]) fun _ _ _ _ _ _ us hl => match us, hl with | [_, _, _, _], _ => rfl
  have b_law := F_law.binds (ps := ["_law_script"]) fun _ _ _ _ _ _ us hl => match us, hl with | [_], _ => rfl
  let D : Dd := { f_law_came := f_law_came, d_law_came := PySem.W.fnOf "_law_came" "_law_came" (defArgs sm_law_came) (defBody sm_law_came) (defScope sm_law_came) .none kV_law_came dc_law_came pm_law_came an_law_came cd_law_came ct_law_came, f_law_cell_at := f_law_cell_at, d_law_cell_at := PySem.W.fnOf "_law_cell_at" "_law_cell_at" (defArgs sm_law_cell_at) (defBody sm_law_cell_at) (defScope sm_law_cell_at) .none kV_law_cell_at dc_law_cell_at pm_law_cell_at an_law_cell_at cd_law_cell_at ct_law_cell_at, f_law_whole := f_law_whole, d_law_whole := PySem.W.fnOf "_law_whole" "_law_whole" (defArgs sm_law_whole) (defBody sm_law_whole) (defScope sm_law_whole) .none kV_law_whole dc_law_whole pm_law_whole an_law_whole cd_law_whole ct_law_whole, f_law_ahead := f_law_ahead, d_law_ahead := PySem.W.fnOf "_law_ahead" "_law_ahead" (defArgs sm_law_ahead) (defBody sm_law_ahead) (defScope sm_law_ahead) .none kV_law_ahead dc_law_ahead pm_law_ahead an_law_ahead cd_law_ahead ct_law_ahead, f_waiting := f_waiting, d_waiting := PySem.W.fnOf "waiting" "Heap.waiting" (defArgs sm_waiting) (defBody sm_waiting) (defScope sm_waiting) .none kV_waiting dc_waiting pm_waiting an_waiting cd_waiting ct_waiting, f_marked := f_marked, d_marked := PySem.W.fnOf "marked" "Heap.marked" (defArgs sm_marked) (defBody sm_marked) (defScope sm_marked) .none kV_marked dc_marked pm_marked an_marked cd_marked ct_marked, f_phase := f_phase, d_phase := PySem.W.fnOf "phase" "Heap.phase" (defArgs sm_phase) (defBody sm_phase) (defScope sm_phase) .none kV_phase dc_phase pm_phase an_phase cd_phase ct_phase, f_law_done := f_law_done, d_law_done := PySem.W.fnOf "_law_done" "_law_done" (defArgs sm_law_done) (defBody sm_law_done) (defScope sm_law_done) .none kV_law_done dc_law_done pm_law_done an_law_done cd_law_done ct_law_done, f_need_hand := f_need_hand, d_need_hand := PySem.W.fnOf "need_hand" "Heap.need_hand" (defArgs sm_need_hand) (defBody sm_need_hand) (defScope sm_need_hand) .none kV_need_hand dc_need_hand pm_need_hand an_need_hand cd_need_hand ct_need_hand, f_mark := f_mark, d_mark := PySem.W.fnOf "mark" "mark" (defArgs sm_mark) (defBody sm_mark) (defScope sm_mark) .none kV_mark dc_mark pm_mark an_mark cd_mark ct_mark, f_row_of := f_row_of, d_row_of := PySem.W.fnOf "row_of" "Heap.row_of" (defArgs sm_row_of) (defBody sm_row_of) (defScope sm_row_of) .none kV_row_of dc_row_of pm_row_of an_row_of cd_row_of ct_row_of, f_sweep := f_sweep, d_sweep := PySem.W.fnOf "sweep" "sweep" (defArgs sm_sweep) (defBody sm_sweep) (defScope sm_sweep) .none kV_sweep dc_sweep pm_sweep an_sweep cd_sweep ct_sweep, f_boxes := f_boxes, d_boxes := PySem.W.fnOf "boxes" "Heap.boxes" (defArgs sm_boxes) (defBody sm_boxes) (defScope sm_boxes) .none kV_boxes dc_boxes pm_boxes an_boxes cd_boxes ct_boxes, f_rest := f_rest, d_rest := PySem.W.fnOf "rest" "Heap.rest" (defArgs sm_rest) (defBody sm_rest) (defScope sm_rest) .none kV_rest dc_rest pm_rest an_rest cd_rest ct_rest, f_law_counted := f_law_counted, d_law_counted := PySem.W.fnOf "_law_counted" "_law_counted" (defArgs sm_law_counted) (defBody sm_law_counted) (defScope sm_law_counted) .none kV_law_counted dc_law_counted pm_law_counted an_law_counted cd_law_counted ct_law_counted, f_law_deeds := f_law_deeds, d_law_deeds := PySem.W.fnOf "_law_deeds" "_law_deeds" (defArgs sm_law_deeds) (defBody sm_law_deeds) (defScope sm_law_deeds) .none kV_law_deeds dc_law_deeds pm_law_deeds an_law_deeds cd_law_deeds ct_law_deeds, f_law_mixed_at := f_law_mixed_at, d_law_mixed_at := PySem.W.fnOf "_law_mixed_at" "_law_mixed_at" (defArgs sm_law_mixed_at) (defBody sm_law_mixed_at) (defScope sm_law_mixed_at) .none kV_law_mixed_at dc_law_mixed_at pm_law_mixed_at an_law_mixed_at cd_law_mixed_at ct_law_mixed_at, f_law_good := f_law_good, d_law_good := PySem.W.fnOf "_law_good" "_law_good" (defArgs sm_law_good) (defBody sm_law_good) (defScope sm_law_good) .none kV_law_good dc_law_good pm_law_good an_law_good cd_law_good ct_law_good, f_share := f_share, d_share := PySem.W.fnOf "share" "Heap.share" (defArgs sm_share) (defBody sm_share) (defScope sm_share) .none kV_share dc_share pm_share an_share cd_share ct_share, f_put := f_put, d_put := PySem.W.fnOf "put" "Heap.put" (defArgs sm_put) (defBody sm_put) (defScope sm_put) .none kV_put dc_put pm_put an_put cd_put ct_put, f_take := f_take, d_take := PySem.W.fnOf "take" "Heap.take" (defArgs sm_take) (defBody sm_take) (defScope sm_take) .none kV_take dc_take pm_take an_take cd_take ct_take, f_make := f_make, d_make := PySem.W.fnOf "make" "Heap.make" (defArgs sm_make) (defBody sm_make) (defScope sm_make) .none kV_make dc_make pm_make an_make cd_make ct_make, f_drop := f_drop, d_drop := PySem.W.fnOf "drop" "Heap.drop" (defArgs sm_drop) (defBody sm_drop) (defScope sm_drop) .none kV_drop dc_drop pm_drop an_drop cd_drop ct_drop, f_look_at := f_look_at, d_look_at := PySem.W.fnOf "look_at" "look_at" (defArgs sm_look_at) (defBody sm_look_at) (defScope sm_look_at) .none kV_look_at dc_look_at pm_look_at an_look_at cd_look_at ct_look_at, f_begin := f_begin, d_begin := PySem.W.fnOf "begin" "begin" (defArgs sm_begin) (defBody sm_begin) (defScope sm_begin) .none kV_begin dc_begin pm_begin an_begin cd_begin ct_begin, f_settle := f_settle, d_settle := PySem.W.fnOf "settle" "settle" (defArgs sm_settle) (defBody sm_settle) (defScope sm_settle) .none kV_settle dc_settle pm_settle an_settle cd_settle ct_settle, f_init := f_init, d_init := PySem.W.fnOf "__init__" "Heap.__init__" (defArgs sm_init) (defBody sm_init) (defScope sm_init) .none kV_init dc_init pm_init an_init cd_init ct_init, f_law_asked := f_law_asked, d_law_asked := PySem.W.fnOf "_law_asked" "_law_asked" (defArgs sm_law_asked) (defBody sm_law_asked) (defScope sm_law_asked) .none kV_law_asked dc_law_asked pm_law_asked an_law_asked cd_law_asked ct_law_asked, f_piece := f_piece, d_piece := PySem.W.fnOf "piece" "piece" (defArgs sm_piece) (defBody sm_piece) (defScope sm_piece) .none kV_piece dc_piece pm_piece an_piece cd_piece ct_piece, f_law_mixed := f_law_mixed, d_law_mixed := PySem.W.fnOf "_law_mixed" "_law_mixed" (defArgs sm_law_mixed) (defBody sm_law_mixed) (defScope sm_law_mixed) .none kV_law_mixed dc_law_mixed pm_law_mixed an_law_mixed cd_law_mixed ct_law_mixed, f_work := f_work, d_work := PySem.W.fnOf "work" "Heap.work" (defArgs sm_work) (defBody sm_work) (defScope sm_work) .none kV_work dc_work pm_work an_work cd_work ct_work, f_law_chain := f_law_chain, d_law_chain := PySem.W.fnOf "_law_chain" "_law_chain" (defArgs sm_law_chain) (defBody sm_law_chain) (defScope sm_law_chain) .none kV_law_chain dc_law_chain pm_law_chain an_law_chain cd_law_chain ct_law_chain, f_law := fa, d_law := PySem.W.fnOf "law" "law" (defArgs sm_law) (defBody sm_law) (defScope sm_law) .none kV_law dc_law pm_law an_law cd_law ct_law }
  let A : Ex := { Heap := cHeap, HeapError := 0, NoHand := cNoHand, NoSlot := cNoSlot, NoRoom := cNoRoom, NothingHeld := cNothingHeld, NoBox := 0, NoWork := cNoWork, NoHeap := cNoHeap, NoDeed := 0 }
  have T : Txt K mg A D := { H := { cl := ⟨pg, hd, po, sa⟩, n_hands := n_hands, n_room := n_room, n_slots := n_slots, n_made := n_made, n_ended := n_ended, n_stage := n_stage, n_old := n_old, n_begun := n_begun, n_seen := n_seen, n_row := n_row, n_looked := n_looked, n_swept := n_swept }, F_law_came := F_law_came, b_law_came := b_law_came, m_law_came := PySem.W.mg_of X G a_law_came, k_law_came := k_law_came, F_law_cell_at := F_law_cell_at, b_law_cell_at := b_law_cell_at, m_law_cell_at := PySem.W.mg_of X G a_law_cell_at, k_law_cell_at := k_law_cell_at, F_law_whole := F_law_whole, b_law_whole := b_law_whole, m_law_whole := PySem.W.mg_of X G a_law_whole, k_law_whole := k_law_whole, F_law_ahead := F_law_ahead, b_law_ahead := b_law_ahead, m_law_ahead := PySem.W.mg_of X G a_law_ahead, k_law_ahead := k_law_ahead, F_waiting := F_waiting, b_waiting := b_waiting, M_waiting := ⟨a_waiting, i_waiting, k_waiting⟩, F_marked := F_marked, b_marked := b_marked, M_marked := ⟨a_marked, i_marked, k_marked⟩, F_phase := F_phase, b_phase := b_phase, M_phase := ⟨a_phase, i_phase, k_phase⟩, F_law_done := F_law_done, b_law_done := b_law_done, m_law_done := PySem.W.mg_of X G a_law_done, k_law_done := k_law_done, F_need_hand := F_need_hand, b_need_hand := b_need_hand, M_need_hand := ⟨a_need_hand, i_need_hand, k_need_hand⟩, F_mark := F_mark, b_mark := b_mark, m_mark := PySem.W.mg_of X G a_mark, k_mark := k_mark, F_row_of := F_row_of, b_row_of := b_row_of, M_row_of := ⟨a_row_of, i_row_of, k_row_of⟩, F_sweep := F_sweep, b_sweep := b_sweep, m_sweep := PySem.W.mg_of X G a_sweep, k_sweep := k_sweep, F_boxes := F_boxes, b_boxes := b_boxes, M_boxes := ⟨a_boxes, i_boxes, k_boxes⟩, F_rest := F_rest, b_rest := b_rest, M_rest := ⟨a_rest, i_rest, k_rest⟩, F_law_counted := F_law_counted, b_law_counted := b_law_counted, m_law_counted := PySem.W.mg_of X G a_law_counted, k_law_counted := k_law_counted, F_law_deeds := F_law_deeds, b_law_deeds := b_law_deeds, m_law_deeds := PySem.W.mg_of X G a_law_deeds, k_law_deeds := k_law_deeds, F_law_mixed_at := F_law_mixed_at, b_law_mixed_at := b_law_mixed_at, m_law_mixed_at := PySem.W.mg_of X G a_law_mixed_at, k_law_mixed_at := k_law_mixed_at, F_law_good := F_law_good, b_law_good := b_law_good, m_law_good := PySem.W.mg_of X G a_law_good, k_law_good := k_law_good, F_share := F_share, b_share := b_share, M_share := ⟨a_share, i_share, k_share⟩, F_put := F_put, b_put := b_put, M_put := ⟨a_put, i_put, k_put⟩, F_take := F_take, b_take := b_take, M_take := ⟨a_take, i_take, k_take⟩, F_make := F_make, b_make := b_make, M_make := ⟨a_make, i_make, k_make⟩, F_drop := F_drop, b_drop := b_drop, M_drop := ⟨a_drop, i_drop, k_drop⟩, F_look_at := F_look_at, b_look_at := b_look_at, m_look_at := PySem.W.mg_of X G a_look_at, k_look_at := k_look_at, F_begin := F_begin, b_begin := b_begin, m_begin := PySem.W.mg_of X G a_begin, k_begin := k_begin, F_settle := F_settle, b_settle := b_settle, m_settle := PySem.W.mg_of X G a_settle, k_settle := k_settle, F_init := F_init, b_init := b_init, M_init := ⟨mk, a_init, i_init, kc⟩, F_law_asked := F_law_asked, b_law_asked := b_law_asked, m_law_asked := PySem.W.mg_of X G a_law_asked, k_law_asked := k_law_asked, F_piece := F_piece, b_piece := b_piece, m_piece := PySem.W.mg_of X G a_piece, k_piece := k_piece, F_law_mixed := F_law_mixed, b_law_mixed := b_law_mixed, m_law_mixed := PySem.W.mg_of X G a_law_mixed, k_law_mixed := k_law_mixed, F_work := F_work, b_work := b_work, M_work := ⟨a_work, i_work, k_work⟩, F_law_chain := F_law_chain, b_law_chain := b_law_chain, m_law_chain := PySem.W.mg_of X G a_law_chain, k_law_chain := k_law_chain, F_law := F_law, b_law := b_law, m_law := PySem.W.mg_of X G a_law, k_law := k_law, g_Heap := PySem.W.mg_of X G aHeap, g_NoHand := PySem.W.mg_of X G g_NoHand, g_NoSlot := PySem.W.mg_of X G g_NoSlot, g_NoRoom := PySem.W.mg_of X G g_NoRoom, g_NothingHeld := PySem.W.mg_of X G g_NothingHeld, g_NoWork := PySem.W.mg_of X G g_NoWork, g_NoHeap := PySem.W.mg_of X G g_NoHeap, x_NoHand := x_NoHand, kx_NoHand := kx_NoHand, bx_NoHand := bx_NoHand, tx_NoHand := tx_NoHand, x_NoHeap := x_NoHeap, kx_NoHeap := kx_NoHeap, bx_NoHeap := bx_NoHeap, tx_NoHeap := tx_NoHeap, x_NoRoom := x_NoRoom, kx_NoRoom := kx_NoRoom, bx_NoRoom := bx_NoRoom, tx_NoRoom := tx_NoRoom, x_NoSlot := x_NoSlot, kx_NoSlot := kx_NoSlot, bx_NoSlot := bx_NoSlot, tx_NoSlot := tx_NoSlot, x_NoWork := x_NoWork, kx_NoWork := kx_NoWork, bx_NoWork := bx_NoWork, tx_NoWork := tx_NoWork, x_NothingHeld := x_NothingHeld, kx_NothingHeld := kx_NothingHeld, bx_NothingHeld := bx_NothingHeld, tx_NothingHeld := tx_NothingHeld, z_bool := PySem.W.mg_none_of X G z_bool, z_int := PySem.W.mg_none_of X G z_int, z_isinstance := PySem.W.mg_none_of X G z_isinstance, z_len := PySem.W.mg_none_of X G z_len, z_list := PySem.W.mg_none_of X G z_list, z_max := PySem.W.mg_none_of X G z_max, z_min := PySem.W.mg_none_of X G z_min, z_range := PySem.W.mg_none_of X G z_range, z_sorted := PySem.W.mg_none_of X G z_sorted, c_MOST_HANDS := ⟨_, PySem.W.mg_of X G c_MOST_HANDS⟩, c_MOST_PIECES := ⟨_, PySem.W.mg_of X G c_MOST_PIECES⟩, c_MOST_ROOM := ⟨_, PySem.W.mg_of X G c_MOST_ROOM⟩, c_MOST_SLOTS := ⟨_, PySem.W.mg_of X G c_MOST_SLOTS⟩ }
  refine ⟨D.d_law, fun s v => .of_eq rfl, fun base _ _ => ?_⟩
  have G_law_came := ok_law_came (P := l.prog) (w := w) (base := base) T 
  have G_law_cell_at := ok_law_cell_at (P := l.prog) (w := w) (base := base) T 
  have G_law_whole := ok_law_whole (P := l.prog) (w := w) (base := base) T 
  have G_law_ahead := ok_law_ahead (P := l.prog) (w := w) (base := base) T 
  have G_waiting := ok_waiting (P := l.prog) (w := w) (base := base) T 
  have G_marked := ok_marked (P := l.prog) (w := w) (base := base) T 
  have G_phase := ok_phase (P := l.prog) (w := w) (base := base) T 
  have G_law_done := ok_law_done (P := l.prog) (w := w) (base := base) T 
  have G_need_hand := ok_need_hand (P := l.prog) (w := w) (base := base) T 
  have G_mark := ok_mark (P := l.prog) (w := w) (base := base) T 
  have G_row_of := ok_row_of (P := l.prog) (w := w) (base := base) T 
  have G_sweep := ok_sweep (P := l.prog) (w := w) (base := base) T 
  have G_boxes := ok_boxes (P := l.prog) (w := w) (base := base) T 
  have G_rest := ok_rest (P := l.prog) (w := w) (base := base) T 
  have G_law_counted := ok_law_counted (P := l.prog) (w := w) (base := base) T 
  have G_law_deeds := ok_law_deeds (P := l.prog) (w := w) (base := base) T 
  have G_law_mixed_at := ok_law_mixed_at (P := l.prog) (w := w) (base := base) T G_law_cell_at
  have G_law_good := ok_law_good (P := l.prog) (w := w) (base := base) T G_marked G_waiting G_law_ahead G_law_whole
  have G_share := ok_share (P := l.prog) (w := w) (base := base) T G_need_hand
  have G_put := ok_put (P := l.prog) (w := w) (base := base) T G_need_hand G_row_of G_mark
  have G_take := ok_take (P := l.prog) (w := w) (base := base) T G_need_hand G_row_of
  have G_make := ok_make (P := l.prog) (w := w) (base := base) T G_need_hand
  have G_drop := ok_drop (P := l.prog) (w := w) (base := base) T G_need_hand
  have G_look_at := ok_look_at (P := l.prog) (w := w) (base := base) T G_mark
  have G_begin := ok_begin (P := l.prog) (w := w) (base := base) T G_boxes G_mark
  have G_settle := ok_settle (P := l.prog) (w := w) (base := base) T G_rest
  have G_init := ok_init (P := l.prog) (w := w) (base := base) T G_rest
  have G_law_asked := ok_law_asked (P := l.prog) (w := w) (base := base) T G_drop G_make G_take G_put G_share
  have G_piece := ok_piece (P := l.prog) (w := w) (base := base) T G_settle G_begin G_look_at G_sweep
  have G_law_mixed := ok_law_mixed (P := l.prog) (w := w) (base := base) T G_law_mixed_at
  have G_work := ok_work (P := l.prog) (w := w) (base := base) T G_piece
  have G_law_chain := ok_law_chain (P := l.prog) (w := w) (base := base) T G_law_asked G_law_done
  exact ok_law T G_init G_law_mixed G_law_chain G_law_mixed_at G_law_deeds G_law_counted G_work G_law_asked G_law_done G_phase G_law_good G_law_came
theorem walk {l : PySem.W.OpenLaw} {q : Program} {loose : List Str} {XP : (Str → Option Value) → Heap → Prop} {YP : World → Heap → Prop} {d : DefRec} {K : Params → PySem.W.Frag} (hn : l.most = some 63) (hdf : d.params.defaults = [])
    (hY : ∀ (w : World) (h : Heap), YP w h → (K w.params).In h)
    (F : ∀ (w : World) (mg : Str → Option Value) (fa : Addr) (h : Heap), (K w.params).In h → h.Ns mainGlobals mg → mg d.name = some (.ref fa) →
      ∃ fd : FuncData, (∀ (s : Shared) (u : Value), BindsTo s fd ⟨[u], []⟩ [("_law_script", u)]) ∧ ∀ base : Heap, (K w.params).In base → base.Ns mainGlobals mg → FnOk l.prog w (K w.params) mg base (L2.CX l.prog w) 5 fa fd ["_law_script"] (lift (P_law (K w.params) Ex0))) :
    PySem.W.WalkO q loose XP YP l.row.toRowW d [] (fun f vs => PySem.call f vs) :=
  L2.walk_of (n := 63) (k := 5) (x := "_law_script") (CX := fun w => L2.CX l.prog w) (sp := fun w => lift (P_law (K w.params) Ex0)) hn (by decide) hdf ⟨rfl, by decide, by decide⟩ hY F (fun w H a ns hl _ hS => law_start hl hS) fun _ _ _ _ _ z => by
    obtain ⟨_, _, _, _, _, _, _, _, _, _, _, _, z⟩ := z
    exact z
end Mp
open PySem PySem.W PyProof.Rows
set_option maxRecDepth 100000 in
set_option maxHeartbeats 0 in
theorem PySem.Challenge.cw_markpause_k09_nothing_hides_holds : PySem.Challenge.rw_markpause_k09_nothing_hides.Holds := by
  w_on; o_law; k_head; (case hw => w_witness2)
  k_fill
  refine Mp.walk (l := PySem.Challenge.rw_markpause_k09_nothing_hides) rfl rfl (fun w h Y => PySem.W.kIn_of Y) ?F
  case F =>
    intro w mg fa h KX G hmg
    refine' Mp.all_mk KX G hmg ?aHeap ?a_law_came ?l_law_came ?c_law_came ?k_law_came ?a_law_cell_at ?l_law_cell_at ?c_law_cell_at ?k_law_cell_at ?a_law_whole ?l_law_whole ?c_law_whole ?k_law_whole ?a_law_ahead ?l_law_ahead ?c_law_ahead ?k_law_ahead ?a_waiting ?i_waiting ?l_waiting ?c_waiting ?k_waiting ?a_marked ?i_marked ?l_marked ?c_marked ?k_marked ?a_phase ?i_phase ?l_phase ?c_phase ?k_phase ?a_law_done ?l_law_done ?c_law_done ?k_law_done ?a_need_hand ?i_need_hand ?l_need_hand ?c_need_hand ?k_need_hand ?a_mark ?l_mark ?c_mark ?k_mark ?a_row_of ?i_row_of ?l_row_of ?c_row_of ?k_row_of ?a_sweep ?l_sweep ?c_sweep ?k_sweep ?a_boxes ?i_boxes ?l_boxes ?c_boxes ?k_boxes ?a_rest ?i_rest ?l_rest ?c_rest ?k_rest ?a_law_counted ?l_law_counted ?c_law_counted ?k_law_counted ?a_law_deeds ?l_law_deeds ?c_law_deeds ?k_law_deeds ?a_law_mixed_at ?l_law_mixed_at ?c_law_mixed_at ?k_law_mixed_at ?a_law_good ?l_law_good ?c_law_good ?k_law_good ?a_share ?i_share ?l_share ?c_share ?k_share ?a_put ?i_put ?l_put ?c_put ?k_put ?a_take ?i_take ?l_take ?c_take ?k_take ?a_make ?i_make ?l_make ?c_make ?k_make ?a_drop ?i_drop ?l_drop ?c_drop ?k_drop ?a_look_at ?l_look_at ?c_look_at ?k_look_at ?a_begin ?l_begin ?c_begin ?k_begin ?a_settle ?l_settle ?c_settle ?k_settle ?a_init ?i_init ?l_init ?c_init ?k_init ?a_law_asked ?l_law_asked ?c_law_asked ?k_law_asked ?a_piece ?l_piece ?c_piece ?k_piece ?a_law_mixed ?l_law_mixed ?c_law_mixed ?k_law_mixed ?a_work ?i_work ?l_work ?c_work ?k_work ?a_law_chain ?l_law_chain ?c_law_chain ?k_law_chain ?a_law ?l_law ?c_law ?k_law ?pg ?hd ?po ?sa ?mk ?kc ?n_hands ?n_room ?n_slots ?n_made ?n_ended ?n_stage ?n_old ?n_begun ?n_seen ?n_row ?n_looked ?n_swept ?g_NoHand ?g_NoSlot ?g_NoRoom ?g_NothingHeld ?g_NoWork ?g_NoHeap ?x_NoHand ?kx_NoHand ?bx_NoHand ?tx_NoHand ?x_NoHeap ?kx_NoHeap ?bx_NoHeap ?tx_NoHeap ?x_NoRoom ?kx_NoRoom ?bx_NoRoom ?tx_NoRoom ?x_NoSlot ?kx_NoSlot ?bx_NoSlot ?tx_NoSlot ?x_NoWork ?kx_NoWork ?bx_NoWork ?tx_NoWork ?x_NothingHeld ?kx_NothingHeld ?bx_NothingHeld ?tx_NothingHeld ?z_bool ?z_int ?z_isinstance ?z_len ?z_list ?z_max ?z_min ?z_range ?z_sorted ?c_MOST_HANDS ?c_MOST_PIECES ?c_MOST_ROOM ?c_MOST_SLOTS
    (case aHeap => k_is)
    (case a_law_came => k_is)
    (case l_law_came => k_is)
    (case c_law_came => k_is)
    (case k_law_came => k_is)
    (case a_law_cell_at => k_is)
    (case l_law_cell_at => k_is)
    (case c_law_cell_at => k_is)
    (case k_law_cell_at => k_is)
    (case a_law_whole => k_is)
    (case l_law_whole => k_is)
    (case c_law_whole => k_is)
    (case k_law_whole => k_is)
    (case a_law_ahead => k_is)
    (case l_law_ahead => k_is)
    (case c_law_ahead => k_is)
    (case k_law_ahead => k_is)
    (case a_waiting => k_is)
    (case i_waiting => k_is)
    (case l_waiting => k_is)
    (case c_waiting => k_is)
    (case k_waiting => k_is)
    (case a_marked => k_is)
    (case i_marked => k_is)
    (case l_marked => k_is)
    (case c_marked => k_is)
    (case k_marked => k_is)
    (case a_phase => k_is)
    (case i_phase => k_is)
    (case l_phase => k_is)
    (case c_phase => k_is)
    (case k_phase => k_is)
    (case a_law_done => k_is)
    (case l_law_done => k_is)
    (case c_law_done => k_is)
    (case k_law_done => k_is)
    (case a_need_hand => k_is)
    (case i_need_hand => k_is)
    (case l_need_hand => k_is)
    (case c_need_hand => k_is)
    (case k_need_hand => k_is)
    (case a_mark => k_is)
    (case l_mark => k_is)
    (case c_mark => k_is)
    (case k_mark => k_is)
    (case a_row_of => k_is)
    (case i_row_of => k_is)
    (case l_row_of => k_is)
    (case c_row_of => k_is)
    (case k_row_of => k_is)
    (case a_sweep => k_is)
    (case l_sweep => k_is)
    (case c_sweep => k_is)
    (case k_sweep => k_is)
    (case a_boxes => k_is)
    (case i_boxes => k_is)
    (case l_boxes => k_is)
    (case c_boxes => k_is)
    (case k_boxes => k_is)
    (case a_rest => k_is)
    (case i_rest => k_is)
    (case l_rest => k_is)
    (case c_rest => k_is)
    (case k_rest => k_is)
    (case a_law_counted => k_is)
    (case l_law_counted => k_is)
    (case c_law_counted => k_is)
    (case k_law_counted => k_is)
    (case a_law_deeds => k_is)
    (case l_law_deeds => k_is)
    (case c_law_deeds => k_is)
    (case k_law_deeds => k_is)
    (case a_law_mixed_at => k_is)
    (case l_law_mixed_at => k_is)
    (case c_law_mixed_at => k_is)
    (case k_law_mixed_at => k_is)
    (case a_law_good => k_is)
    (case l_law_good => k_is)
    (case c_law_good => k_is)
    (case k_law_good => k_is)
    (case a_share => k_is)
    (case i_share => k_is)
    (case l_share => k_is)
    (case c_share => k_is)
    (case k_share => k_is)
    (case a_put => k_is)
    (case i_put => k_is)
    (case l_put => k_is)
    (case c_put => k_is)
    (case k_put => k_is)
    (case a_take => k_is)
    (case i_take => k_is)
    (case l_take => k_is)
    (case c_take => k_is)
    (case k_take => k_is)
    (case a_make => k_is)
    (case i_make => k_is)
    (case l_make => k_is)
    (case c_make => k_is)
    (case k_make => k_is)
    (case a_drop => k_is)
    (case i_drop => k_is)
    (case l_drop => k_is)
    (case c_drop => k_is)
    (case k_drop => k_is)
    (case a_look_at => k_is)
    (case l_look_at => k_is)
    (case c_look_at => k_is)
    (case k_look_at => k_is)
    (case a_begin => k_is)
    (case l_begin => k_is)
    (case c_begin => k_is)
    (case k_begin => k_is)
    (case a_settle => k_is)
    (case l_settle => k_is)
    (case c_settle => k_is)
    (case k_settle => k_is)
    (case a_init => k_is)
    (case i_init => k_is)
    (case l_init => k_is)
    (case c_init => k_is)
    (case k_init => k_is)
    (case a_law_asked => k_is)
    (case l_law_asked => k_is)
    (case c_law_asked => k_is)
    (case k_law_asked => k_is)
    (case a_piece => k_is)
    (case l_piece => k_is)
    (case c_piece => k_is)
    (case k_piece => k_is)
    (case a_law_mixed => k_is)
    (case l_law_mixed => k_is)
    (case c_law_mixed => k_is)
    (case k_law_mixed => k_is)
    (case a_work => k_is)
    (case i_work => k_is)
    (case l_work => k_is)
    (case c_work => k_is)
    (case k_work => k_is)
    (case a_law_chain => k_is)
    (case l_law_chain => k_is)
    (case c_law_chain => k_is)
    (case k_law_chain => k_is)
    (case a_law => k_is)
    (case l_law => k_is)
    (case c_law => k_is)
    (case k_law => k_is)
    (case pg => k_is)
    (case hd => k_is)
    (case po => k_is)
    (case sa => k_is)
    (case mk => k_is)
    (case kc => k_is)
    (case n_hands => k_is)
    (case n_room => k_is)
    (case n_slots => k_is)
    (case n_made => k_is)
    (case n_ended => k_is)
    (case n_stage => k_is)
    (case n_old => k_is)
    (case n_begun => k_is)
    (case n_seen => k_is)
    (case n_row => k_is)
    (case n_looked => k_is)
    (case n_swept => k_is)
    (case g_NoHand => k_is)
    (case g_NoSlot => k_is)
    (case g_NoRoom => k_is)
    (case g_NothingHeld => k_is)
    (case g_NoWork => k_is)
    (case g_NoHeap => k_is)
    (case x_NoHand => k_exc)
    (case kx_NoHand => k_is)
    (case bx_NoHand => k_is)
    (case tx_NoHand => k_is)
    (case x_NoHeap => k_exc)
    (case kx_NoHeap => k_is)
    (case bx_NoHeap => k_is)
    (case tx_NoHeap => k_is)
    (case x_NoRoom => k_exc)
    (case kx_NoRoom => k_is)
    (case bx_NoRoom => k_is)
    (case tx_NoRoom => k_is)
    (case x_NoSlot => k_exc)
    (case kx_NoSlot => k_is)
    (case bx_NoSlot => k_is)
    (case tx_NoSlot => k_is)
    (case x_NoWork => k_exc)
    (case kx_NoWork => k_is)
    (case bx_NoWork => k_is)
    (case tx_NoWork => k_is)
    (case x_NothingHeld => k_exc)
    (case kx_NothingHeld => k_is)
    (case bx_NothingHeld => k_is)
    (case tx_NothingHeld => k_is)
    (case z_bool => k_is)
    (case z_int => k_is)
    (case z_isinstance => k_is)
    (case z_len => k_is)
    (case z_list => k_is)
    (case z_max => k_is)
    (case z_min => k_is)
    (case z_range => k_is)
    (case z_sorted => k_is)
    (case c_MOST_HANDS => k_is)
    (case c_MOST_PIECES => k_is)
    (case c_MOST_ROOM => k_is)
    (case c_MOST_SLOTS => k_is)

