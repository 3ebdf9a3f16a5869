import PyProof.Rows.All
import Wide.All
import OpenK.AllK
import Wide.FinOn
import HandS.ForMost
import HandS.ForExc
import HandS.SortInts
import HandS.IsInst
import HandS.Conv
import HandS.SetFor
import PySem.Challenge.RW_markpause_k01_reach
set_option Elab.async false
set_option linter.all false
set_option maxRecDepth 100000
set_option maxHeartbeats 4000000
/-! A small separation layer: what stands in the heap is told by a list of assertions, each over cells of its own; the readings of the hand layer are then read over such lists. -/
namespace Mp
open PySem L2
abbrev Asn := Hp → Prop
abbrev AL := List Asn
def Sub (h H : Hp) : Prop := ∀ a o, h a = some o → H a = some o
def Dj (h k : Hp) : Prop := ∀ a, h a = none ∨ k a = none
def un (h k : Hp) : Hp := fun a => match h a with | some o => some o | none => k a
theorem Sub.refl (h : Hp) : Sub h h := fun _ _ e => e
theorem Sub.trans {a b c : Hp} (x : Sub a b) (y : Sub b c) : Sub a c := fun p o e => y p o (x p o e)
theorem Dj.symm {h k : Hp} (d : Dj h k) : Dj k h := fun a => (d a).symm
theorem Dj.sub {h k h' k' : Hp} (d : Dj h k) (x : Sub h' h) (y : Sub k' k) : Dj h' k' := fun a => by
  cases e : h' a with
  | none => exact .inl rfl
  | some o =>
    cases e2 : k' a with
    | none => exact .inr rfl
    | some u =>
      rcases d a with z | z
      · rw [x a o e] at z; cases z
      · rw [y a u e2] at z; cases z
theorem un_l {h k : Hp} : Sub h (un h k) := fun a o e => by unfold un; rw [e]
theorem un_r {h k : Hp} (d : Dj h k) : Sub k (un h k) := fun a o e => by
  unfold un
  rcases d a with z | z
  · rw [z]; exact e
  · rw [e] at z; cases z
theorem un_sub {h k H : Hp} (x : Sub h H) (y : Sub k H) : Sub (un h k) H := fun a o e => by
  unfold un at e
  cases q : h a with
  | some u => rw [q] at e; cases e; exact x a _ q
  | none => rw [q] at e; exact y a o e
theorem dj_un {h k l : Hp} (x : Dj h k) (y : Dj h l) : Dj h (un k l) := fun a => by
  rcases x a with z | z
  · exact .inl z
  · rcases y a with z2 | z2
    · exact .inl z2
    · right; unfold un; rw [z]; exact z2
def Sep : AL → Hp → Prop
  | [], _ => True
  | A :: L, H => ∃ h k, Sub h H ∧ Sub k H ∧ Dj h k ∧ A h ∧ Sep L k
def pt (a : Addr) (o : HO) : Asn := fun h => h a = some o
def Star (L : AL) : Asn := fun h => Sep L h
def Exi {α : Type} (f : α → Asn) : Asn := fun h => ∃ x, f x h
def Pr (p : Prop) : Asn := fun _ => p
def Ent (L M : AL) : Prop := ∀ H, Sep L H → Sep M H
theorem Sep.mono : ∀ {L : AL} {H H' : Hp}, Sub H H' → Sep L H → Sep L H'
  | [], _, _, _, _ => True.intro
  | _ :: _, _, _, x, ⟨h, k, a, b, d, p, q⟩ => ⟨h, k, a.trans x, b.trans x, d, p, q⟩
theorem Sep.tail {A : Asn} {L : AL} {H : Hp} (s : Sep (A :: L) H) : Sep L H := by
  obtain ⟨h, k, a, b, d, p, q⟩ := s
  exact q.mono b
theorem Ent.refl (L : AL) : Ent L L := fun _ s => s
theorem Ent.trans {L M N : AL} (a : Ent L M) (b : Ent M N) : Ent L N := fun H s => b H (a H s)
theorem Ent.cons {A : Asn} {L M : AL} (e : Ent L M) : Ent (A :: L) (A :: M) := fun _ ⟨h, k, a, b, d, p, q⟩ => ⟨h, k, a, b, d, p, e k q⟩
theorem Ent.drop {A : Asn} {L : AL} : Ent (A :: L) L := fun _ s => s.tail
theorem ent_swap {A B : Asn} {L : AL} : Ent (A :: B :: L) (B :: A :: L) := by
  rintro H ⟨h1, k1, a1, b1, d1, p1, h2, k2, a2, b2, d2, p2, q⟩
  have e1 : Dj h1 h2 := d1.sub (Sub.refl _) a2
  have e2 : Dj h1 k2 := d1.sub (Sub.refl _) b2
  refine ⟨h2, un h1 k2, a2.trans b1, un_sub a1 (b2.trans b1), dj_un e1.symm d2, p2, h1, k2, un_l, un_r e2, e2, p1, q⟩
theorem ent_perm {L M : AL} (p : L.Perm M) : Ent L M := by
  induction p with
  | nil => exact Ent.refl _
  | cons x _ ih => exact ih.cons
  | swap x y l => exact ent_swap
  | trans _ _ a b => exact a.trans b
theorem ent_pick : ∀ {L : AL} (i : Nat) {A : Asn}, L[i]? = some A → Ent L (A :: L.eraseIdx i)
  | [], _, _, h => by simp at h
  | B :: L, 0, A, h => by
    have e : B = A := Option.some.inj h
    subst e
    exact Ent.refl _
  | B :: L, i + 1, A, h => by
    have ih := ent_pick (L := L) i (A := A) h
    exact (Ent.cons ih).trans ent_swap
theorem ent_put : ∀ {L : AL} (i : Nat) {A : Asn}, i ≤ L.length → Ent (A :: L) (L.insertIdx i A)
  | L, 0, A, _ => Ent.refl _
  | [], i + 1, A, h => absurd h (by simp)
  | B :: L, i + 1, A, h => by
    have ih := ent_put (L := L) i (A := A) (Nat.le_of_succ_le_succ h)
    exact ent_swap.trans (Ent.cons ih)
theorem ent_unstar : ∀ {Ls R : AL}, Ent (Star Ls :: R) (Ls ++ R)
  | [], R => Ent.drop
  | A :: Ls, R => by
    rintro H ⟨h, k, a, b, d, ⟨h1, h2, a1, b1, d1, p1, q1⟩, q⟩
    have e1 : Dj h1 k := d.sub a1 (Sub.refl _)
    have e2 : Dj h2 k := d.sub b1 (Sub.refl _)
    refine ⟨h1, un h2 k, a1.trans a, un_sub (b1.trans a) b, dj_un d1 e1, p1, ?_⟩
    exact ent_unstar (Ls := Ls) (R := R) _ ⟨h2, k, un_l, un_r e2, e2, q1, q⟩
theorem ent_star : ∀ {Ls R : AL}, Ent (Ls ++ R) (Star Ls :: R)
  | [], R => fun H s => ⟨fun _ => none, H, (fun _ _ e => nomatch e), Sub.refl _, fun _ => .inl rfl, True.intro, s⟩
  | A :: Ls, R => by
    rintro H ⟨h1, k, a, b, d, p, q⟩
    obtain ⟨h2, k2, a2, b2, d2, p2, q2⟩ := ent_star (Ls := Ls) (R := R) k q
    have e1 : Dj h1 h2 := d.sub (Sub.refl _) a2
    have e2 : Dj h1 k2 := d.sub (Sub.refl _) b2
    refine ⟨un h1 h2, k2, un_sub a (a2.trans b), b2.trans b, (dj_un e2.symm d2.symm).symm, ⟨h1, h2, un_l, un_r e1, e1, p, p2⟩, q2⟩
theorem sep_exi {α : Type} {f : α → Asn} {L : AL} {H : Hp} (s : Sep (Exi f :: L) H) : ∃ x, Sep (f x :: L) H := by
  obtain ⟨h, k, a, b, d, ⟨x, p⟩, q⟩ := s
  exact ⟨x, h, k, a, b, d, p, q⟩
theorem ent_exi {α : Type} {f : α → Asn} {L : AL} (x : α) : Ent (f x :: L) (Exi f :: L) := by
  rintro H ⟨h, k, a, b, d, p, q⟩
  exact ⟨h, k, a, b, d, ⟨x, p⟩, q⟩
theorem sep_pr {p : Prop} {L : AL} {H : Hp} (s : Sep (Pr p :: L) H) : p ∧ Sep L H := by
  obtain ⟨h, k, a, b, d, x, q⟩ := s
  exact ⟨x, q.mono b⟩
theorem ent_pr {p : Prop} {L : AL} (h : p) : Ent L (Pr p :: L) := fun H s => ⟨fun _ => none, H, (fun _ _ e => nomatch e), Sub.refl _, fun _ => .inl rfl, h, s⟩
/-! ### what stands at an address; a store; a new object -/
def Has (L : AL) (a : Addr) (o : HO) : Prop := ∀ H, Sep L H → H a = some o
theorem has_hd {a : Addr} {o : HO} {L : AL} : Has (pt a o :: L) a o := fun _ ⟨_, _, x, _, _, p, _⟩ => x _ _ p
theorem has_tl {a : Addr} {o : HO} {A : Asn} {L : AL} (h : Has L a o) : Has (A :: L) a o := fun _ s => h _ s.tail
theorem Has.ent {L M : AL} {a : Addr} {o : HO} (h : Has M a o) (e : Ent L M) : Has L a o := fun H s => h H (e H s)
def Wr (L : AL) (a : Addr) (o : HO) (M : AL) : Prop := ∀ H, Sep L H → (∃ u, H a = some u) ∧ Sep M (upd H a o)
def one (a : Addr) (o : HO) : Hp := fun b => if b = a then some o else none
theorem one_sub {a : Addr} {o : HO} {H : Hp} : Sub (one a o) (upd H a o) := fun b u e => by
  unfold one at e
  by_cases h : b = a
  · rw [if_pos h] at e; cases e; subst h; exact upd_same
  · rw [if_neg h] at e; cases e
theorem wr_hd {a : Addr} {o u : HO} {L : AL} : Wr (pt a u :: L) a o (pt a o :: L) := by
  rintro H ⟨h, k, x, y, d, p, q⟩
  have hk : k a = none := by
    rcases d a with z | z
    · rw [show h a = some u from p] at z; cases z
    · exact z
  refine ⟨⟨u, x _ _ p⟩, one a o, k, one_sub, fun b w e => ?_, fun b => ?_, by unfold pt one; rw [if_pos rfl], q⟩
  · rw [upd_ne (fun z => by rw [z, hk] at e; cases e)]; exact y b w e
  · by_cases h : b = a
    · right; rw [h]; exact hk
    · left; unfold one; rw [if_neg h]
theorem wr_tl {a : Addr} {o : HO} {A : Asn} {L M : AL} (w : Wr L a o M) : Wr (A :: L) a o (A :: M) := by
  rintro H ⟨h, k, x, y, d, p, q⟩
  obtain ⟨⟨u, hu⟩, s⟩ := w k q
  have ha : h a = none := by
    rcases d a with z | z
    · exact z
    · rw [hu] at z; cases z
  refine ⟨⟨u, y _ _ hu⟩, h, upd k a o, fun b w e => ?_, fun b w e => ?_, fun b => ?_, p, s⟩
  · rw [upd_ne (fun z => by rw [z, ha] at e; cases e)]; exact x b w e
  · by_cases z : b = a
    · subst z; rw [upd_same] at e ⊢; exact e
    · rw [upd_ne z] at e ⊢; exact y b w e
  · by_cases z : b = a
    · left; rw [z]; exact ha
    · rw [upd_ne z]; exact d b
theorem Wr.ent {L L' M : AL} {a : Addr} {o : HO} (w : Wr L' a o M) (e : Ent L L') : Wr L a o M := fun H s => w H (e H s)
theorem Wr.to {L M M' : AL} {a : Addr} {o : HO} (w : Wr L a o M) (e : Ent M M') : Wr L a o M' := fun H s => ⟨(w H s).1, e _ (w H s).2⟩
theorem sep_new {a : Addr} {o : HO} {L : AL} {H : Hp} (s : Sep L H) (n : H a = none) : Sep (pt a o :: L) (upd H a o) :=
  ⟨one a o, H, one_sub, fun b w e => by rw [upd_ne (fun z => by rw [z, n] at e; cases e)]; exact e, fun b => by
    by_cases h : b = a
    · right; rw [h]; exact n
    · left; unfold one; rw [if_neg h], by unfold pt one; rw [if_pos rfl], s⟩
/-! ### readings over lists of assertions -/
def SE (te : TE) (σ : L2.St) (L : AL) (Q : V → AL → Prop) : Prop := ∀ H, Sep L H → ∀ Qh : VK, (∀ v L' H', Sep L' H' → Q v L' → Qh v H') → te σ H Qh
def ST (tt : TT) (σ : L2.St) (L : AL) (Q : Bool → AL → Prop) : Prop := ∀ H, Sep L H → ∀ Qh : Bool → Hp → Prop, (∀ v L' H', Sep L' H' → Q v L' → Qh v H') → tt σ H Qh
def SA (ta : TA) (σ : L2.St) (L : AL) (Q : List V → AL → Prop) : Prop := ∀ H, Sep L H → ∀ Qh : List V → Hp → Prop, (∀ v L' H', Sep L' H' → Q v L' → Qh v H') → ta σ H Qh
def SO (to : TO) (σ : L2.St) (L : AL) (Q : Option Int → AL → Prop) : Prop := ∀ H, Sep L H → ∀ Qh : Option Int → Hp → Prop, (∀ v L' H', Sep L' H' → Q v L' → Qh v H') → to σ H Qh
def RE (r : Hp → VK → Prop) (L : AL) (Q : V → AL → Prop) : Prop := ∀ H, Sep L H → ∀ Qh : VK, (∀ v L' H', Sep L' H' → Q v L' → Qh v H') → r H Qh
def RS (r : Hp → (Hp → Prop) → Prop) (L : AL) (Q : AL → Prop) : Prop := ∀ H, Sep L H → ∀ Qh : Hp → Prop, (∀ L' H', Sep L' H' → Q L' → Qh H') → r H Qh
structure EA where
  nx : L2.St → AL → Prop
  rt : V → AL → Prop
  bk : L2.St → AL → Prop := fun _ _ => False
  ct : L2.St → AL → Prop := fun _ _ => False
structure EA.Le (D : EA) (E : Ends) : Prop where
  nx : ∀ σ L H, Sep L H → D.nx σ L → E.nx σ H
  rt : ∀ v L H, Sep L H → D.rt v L → E.rt v H
  bk : ∀ σ L H, Sep L H → D.bk σ L → E.bk σ H
  ct : ∀ σ L H, Sep L H → D.ct σ L → E.ct σ H
def SS (t : TS) (D : EA) (σ : L2.St) (L : AL) : Prop := ∀ H, Sep L H → ∀ E : Ends, D.Le E → t E σ H
section
variable {K : PySem.W.Frag} {σ : L2.St} {L M : AL} {te ta tb tv : TE} {Q : V → AL → Prop} {t u : TS} {D : EA} {tt tu : TT} {QB : Bool → AL → Prop} {QA : List V → AL → Prop}
theorem e_ent (e : Ent L M) (h : SE te σ M Q) : SE te σ L Q := fun H s Qh k => h H (e H s) Qh k
theorem s_ent (e : Ent L M) (h : SS t D σ M) : SS t D σ L := fun H s Qh k => h H (e H s) Qh k
theorem t_ent (e : Ent L M) (h : ST tt σ M QB) : ST tt σ L QB := fun H s Qh k => h H (e H s) Qh k
theorem r_ent {r : Hp → VK → Prop} (e : Ent L M) (h : RE r M Q) : RE r L Q := fun H s Qh k => h H (e H s) Qh k
theorem e_mono {Q' : V → AL → Prop} (h : SE te σ L Q) (m : ∀ v L', Q v L' → Q' v L') : SE te σ L Q' := fun H s Qh k => h H s Qh fun v L' H' s' q => k v L' H' s' (m v L' q)
theorem t_mono {Q' : Bool → AL → Prop} (h : ST tt σ L QB) (m : ∀ v L', QB v L' → Q' v L') : ST tt σ L Q' := fun H s Qh k => h H s Qh fun v L' H' s' q => k v L' H' s' (m v L' q)
/-- what the list tells may be used -/
theorem s_use {P : Prop} (h : ∀ H, Sep L H → P) (k : P → SS t D σ L) : SS t D σ L := fun H s => k (h H s) H s
theorem e_use {P : Prop} (h : ∀ H, Sep L H → P) (k : P → SE te σ L Q) : SE te σ L Q := fun H s => k (h H s) H s
theorem s_exi {α : Type} {f : α → Asn} {R : AL} (k : ∀ x, SS t D σ (f x :: R)) : SS t D σ (Exi f :: R) := fun H s => by
  obtain ⟨x, s⟩ := sep_exi s
  exact k x H s
theorem e_exi {α : Type} {f : α → Asn} {R : AL} (k : ∀ x, SE te σ (f x :: R) Q) : SE te σ (Exi f :: R) Q := fun H s => by
  obtain ⟨x, s⟩ := sep_exi s
  exact k x H s
theorem s_pr {p : Prop} {R : AL} (k : p → SS t D σ R) : SS t D σ (Pr p :: R) := fun H s => by
  obtain ⟨x, s⟩ := sep_pr s
  exact k x H s
theorem s_mono {D' : EA} (h : SS t D σ L) (m1 : ∀ σ L, D.nx σ L → D'.nx σ L) (m2 : ∀ v L, D.rt v L → D'.rt v L) (m3 : ∀ σ L, D.bk σ L → D'.bk σ L) (m4 : ∀ σ L, D.ct σ L → D'.ct σ L) : SS t D' σ L := fun H s E le =>
  h H s E ⟨fun σ L H s q => le.nx σ L H s (m1 σ L q), fun v L H s q => le.rt v L H s (m2 v L q), fun σ L H s q => le.bk σ L H s (m3 σ L q), fun σ L H s q => le.ct σ L H s (m4 σ L q)⟩
/-! ### expressions -/
theorem e_var {i : Nat} {v : V} (h : σ[i]? = some (some v)) (q : Q v L) : SE (tVar i) σ L Q := fun H s Qh k => ⟨v, h, k _ _ _ s q⟩
theorem e_c {v : V} (q : Q v L) : SE (tC v) σ L Q := fun H s Qh k => k _ _ _ s q
theorem e_op {r : R2} (h : SE ta σ L fun x L1 => SE tb σ L1 fun y L2 => RE (r x y) L2 Q) : SE (tOp r ta tb) σ L Q := fun H s Qh k =>
  h H s _ fun x L1 H1 s1 h1 => h1 H1 s1 _ fun y L2 H2 s2 h2 => h2 H2 s2 Qh k
theorem e_un {r : V → Hp → VK → Prop} (h : SE ta σ L fun x L1 => RE (r x) L1 Q) : SE (tUn r ta) σ L Q := fun H s Qh k =>
  h H s _ fun x L1 H1 s1 h1 => h1 H1 s1 Qh k
def rFld (K : PySem.W.Frag) (f : Str) (x : V) : Hp → VK → Prop := fun H1 Q => ∃ a C dx fs v, x = .ref a ∧ H1 a = some (.ins C dx fs) ∧ Cls K C ∧ NoAttr K C f ∧ fs.lookup f = some v ∧ Q v H1
theorem e_fld {f : Str} (h : SE ta σ L fun x L1 => RE (rFld K f x) L1 Q) : SE (tFld K ta f) σ L Q := fun H s Qh k =>
  h H s _ fun x L1 H1 s1 h1 => h1 H1 s1 Qh k
theorem r_fld {f : Str} {a C dx : Addr} {fs : List (Str × V)} {v : V} (c : Cls K C) (n : NoAttr K C f) (h : Has L a (.ins C dx fs)) (l : fs.lookup f = some v) (q : Q v L) : RE (rFld K f (.ref a)) L Q := fun H s Qh k =>
  ⟨a, C, dx, fs, v, rfl, h H s, c, n, l, k _ _ _ s q⟩
theorem e_chain {r r' : R2} {tc : TE} (h : SE ta σ L fun x L1 => SE tb σ L1 fun y L2 => RE (r x y) L2 fun z L3 => ∃ b, z = .bl b ∧ (b = true → SE tc σ L3 fun w L4 => RE (r' y w) L4 Q) ∧ (b = false → Q (.bl false) L3)) : SE (tChain r r' ta tb tc) σ L Q := fun H s Qh k =>
  h H s _ fun x L1 H1 s1 h1 => h1 H1 s1 _ fun y L2 H2 s2 h2 => h2 H2 s2 _ fun z L3 H3 s3 ⟨b, e, ht, hf⟩ => ⟨b, e, by
    cases b with
    | true => rw [if_pos rfl]; exact ht rfl H3 s3 _ fun w L4 H4 s4 h4 => h4 H4 s4 Qh k
    | false => rw [if_neg Bool.false_ne_true]; exact k _ _ _ s3 (hf rfl)⟩
theorem e_andV (h : SE ta σ L fun x L1 => ∃ b, x = .bl b ∧ (b = true → SE tb σ L1 Q) ∧ (b = false → Q (.bl false) L1)) : SE (tAndV ta tb) σ L Q := fun H s Qh k =>
  h H s _ fun x L1 H1 s1 ⟨b, e, ht, hf⟩ => ⟨b, e, by
    cases b with
    | true => rw [if_pos rfl]; exact ht rfl H1 s1 Qh k
    | false => rw [if_neg Bool.false_ne_true]; exact k _ _ _ s1 (hf rfl)⟩
theorem e_orV (h : SE ta σ L fun x L1 => ∃ b, x = .bl b ∧ (b = true → Q (.bl true) L1) ∧ (b = false → SE tb σ L1 Q)) : SE (tOrV ta tb) σ L Q := fun H s Qh k =>
  h H s _ fun x L1 H1 s1 ⟨b, e, ht, hf⟩ => ⟨b, e, by
    cases b with
    | true => rw [if_pos rfl]; exact k _ _ _ s1 (ht rfl)
    | false => rw [if_neg Bool.false_ne_true]; exact hf rfl H1 s1 Qh k⟩
theorem e_notV (h : SE ta σ L fun x L1 => ∃ b, x = .bl b ∧ Q (.bl (!b)) L1) : SE (tNotV ta) σ L Q := fun H s Qh k =>
  h H s _ fun x L1 H1 s1 ⟨b, e, q⟩ => ⟨b, e, k _ _ _ s1 q⟩
theorem e_if (h : ST tt σ L fun b L1 => (b = true → SE ta σ L1 Q) ∧ (b = false → SE tb σ L1 Q)) : SE (tIf tt ta tb) σ L Q := fun H s Qh k =>
  h H s _ fun b L1 H1 s1 ⟨ht, hf⟩ => by
    cases b with
    | true => rw [if_pos rfl]; exact ht rfl H1 s1 Qh k
    | false => rw [if_neg Bool.false_ne_true]; exact hf rfl H1 s1 Qh k
/-! ### arguments -/
theorem a_nil (q : QA [] L) : SA tNil σ L QA := fun H s Qh k => k _ _ _ s q
theorem a_cons {tr : TA} (h : SE ta σ L fun x L1 => SA tr σ L1 fun xs L2 => QA (x :: xs) L2) : SA (tCons ta tr) σ L QA := fun H s Qh k =>
  h H s _ fun x L1 H1 s1 h1 => h1 H1 s1 _ fun xs L2 H2 s2 q => k _ _ _ s2 q
theorem e_lst {tr : TA} (h : SA tr σ L fun xs L1 => xs.length ≤ sizeLine ∧ ∀ p, Q (.ref p) (pt p (.lst xs) :: L1)) : SE (tLst tr) σ L Q := fun H s Qh k =>
  h H s _ fun xs L1 H1 s1 ⟨z, q⟩ => ⟨z, fun p hp => k _ _ _ (sep_new s1 hp) (q p)⟩
theorem e_tup {tr : TA} (h : SA tr σ L fun xs L1 => xs.length ≤ sizeLine ∧ ∀ p, Q (.ref p) (pt p (.tup xs) :: L1)) : SE (tTup tr) σ L Q := fun H s Qh k =>
  h H s _ fun xs L1 H1 s1 ⟨z, q⟩ => ⟨z, fun p hp => k _ _ _ (sep_new s1 hp) (q p)⟩
theorem e_cb {r : List V → Hp → VK → Prop} {tr : TA} (h : SA tr σ L fun xs L1 => RE (r xs) L1 Q) : SE (tCB r tr) σ L Q := fun H s Qh k =>
  h H s _ fun xs L1 H1 s1 h1 => h1 H1 s1 Qh k
/-! ### operators by values -/
theorem r_I0 {g : Int → Int → V} {i j : Int} (q : Q (g i j) L) : RE (rI0 g (.int i) (.int j)) L Q := fun H s Qh k => ⟨i, j, rfl, rfl, k _ _ _ s q⟩
theorem r_I {C : Int → Int → Prop} {g : Int → Int → V} {i j : Int} (c : C i j) (q : Q (g i j) L) : RE (rI C g (.int i) (.int j)) L Q := fun H s Qh k => ⟨i, j, rfl, rfl, c, k _ _ _ s q⟩
theorem r_eq {x y : V} (c : scal x y = true) (q : Q (.bl (decide (x = y))) L) : RE (rEq x y) L Q := fun H s Qh k => ⟨c, k _ _ _ s q⟩
theorem r_ne {x y : V} (c : scal x y = true) (q : Q (.bl (!decide (x = y))) L) : RE (rNe x y) L Q := fun H s Qh k => ⟨c, k _ _ _ s q⟩
def rIsNo : R2 := fun x y H Q => y = .non ∧ Q (.bl (decide (x = .non))) H
def rNotNo : R2 := fun x y H Q => y = .non ∧ Q (.bl (!decide (x = .non))) H
theorem op_isNo {X : Cx} : OpR X (compareOp .Is) rIsNo := op_isN
theorem op_notNo {X : Cx} : OpR X (compareOp .IsNot) rNotNo := op_notN
theorem r_isNo {x : V} (q : Q (.bl (decide (x = .non))) L) : RE (rIsNo x .non) L Q := fun H s Qh k => ⟨rfl, k _ _ _ s q⟩
theorem r_notNo {x : V} (q : Q (.bl (!decide (x = .non))) L) : RE (rNotNo x .non) L Q := fun H s Qh k => ⟨rfl, k _ _ _ s q⟩
/-- lists that are read -/
def SqA (K : PySem.W.Frag) (L : AL) (a : Addr) (xs : List V) : Prop := ∀ H, Sep L H → SqL K H a xs
def TqA (K : PySem.W.Frag) (L : AL) (a : Addr) (xs : List V) : Prop := ∀ H, Sep L H → SqT K H a xs
theorem Has.sq {a : Addr} {xs : List V} (h : Has L a (.lst xs)) : SqA K L a xs := fun H s => SqL.of (h H s)
theorem Has.fq {a : Addr} {o : Obj} {xs : List V} (h : Has L a (.frz o (.lst xs))) : SqA K L a xs := fun H s => .inl (.inr ⟨o, h H s⟩)
theorem Has.tq {a : Addr} {xs : List V} (h : Has L a (.tup xs)) : TqA K L a xs := fun H s => SqT.of (h H s)
theorem r_ixL {a : Addr} {xs : List V} {i : Int} {v : V} (h : SqA K L a xs) (e : atI xs i = some v) (q : Q v L) : RE (rIxL K (.ref a) (.int i)) L Q := fun H s Qh k => ⟨a, xs, i, v, rfl, rfl, h H s, e, k _ _ _ s q⟩
theorem r_ixT {a : Addr} {xs : List V} {i : Int} {v : V} (h : TqA K L a xs) (e : atI xs i = some v) (q : Q v L) : RE (rIxT K (.ref a) (.int i)) L Q := fun H s Qh k => ⟨a, xs, i, v, rfl, rfl, h H s, e, k _ _ _ s q⟩
theorem r_ixS {z : Str} {i : Int} {c : Nat} (hz : z.length ≤ sizeLine) (e : atI z.cps.toList i = some c) (q : Q (.str ⟨#[c]⟩) L) : RE (rIxS (.str z) (.int i)) L Q := fun H s Qh k => ⟨z, i, c, rfl, rfl, hz, e, k _ _ _ s q⟩
theorem r_inL {neg : Bool} {a : Addr} {x : V} {xs : List V} (h : SqA K L a xs) (hx : flatV x = true) (hs : xs.all flatV = true) (q : Q (.bl (if neg then !inV x xs else inV x xs)) L) : RE (rIn K neg x (.ref a)) L Q :=
  fun H s Qh k => ⟨a, xs, rfl, .inl (h H s), hx, hs, k _ _ _ s q⟩
theorem r_inT {neg : Bool} {a : Addr} {x : V} {xs : List V} (h : TqA K L a xs) (hx : flatV x = true) (hs : xs.all flatV = true) (q : Q (.bl (if neg then !inV x xs else inV x xs)) L) : RE (rIn K neg x (.ref a)) L Q :=
  fun H s Qh k => ⟨a, xs, rfl, .inr (h H s), hx, hs, k _ _ _ s q⟩
theorem r_cat {a b : Addr} {xs ys : List V} (h : Has L a (.lst xs)) (h' : Has L b (.lst ys)) (z : xs.length + ys.length ≤ sizeLine) (q : ∀ p, Q (.ref p) (pt p (.lst (xs ++ ys)) :: L)) : RE (rCat (.ref a) (.ref b)) L Q := fun H s Qh k =>
  ⟨a, b, xs, ys, rfl, rfl, h H s, h' H s, z, fun p hp => k _ _ _ (sep_new s hp) (q p)⟩
theorem r_addS {x y : Str} (z : x.length + y.length ≤ sizeLine) (q : Q (.str (x ++ y)) L) : RE ((fun (x y : V) H Q => ∃ i j, x = .str i ∧ y = .str j ∧ i.length + j.length ≤ sizeLine ∧ Q (.str (i ++ j)) H : R2) (.str x) (.str y)) L Q := fun H s Qh k =>
  ⟨x, y, rfl, rfl, z, k _ _ _ s q⟩
/-! ### built-in functions -/
def rLen (K : PySem.W.Frag) : List V → Hp → VK → Prop := fun xs H Q => ∃ p ys, xs = [.ref p] ∧ (SqL K H p ys ∨ SqT K H p ys) ∧ Q (.int ys.length) H
def rListOf (K : PySem.W.Frag) : List V → Hp → VK → Prop := fun xs H Q => ∃ p ys, xs = [.ref p] ∧ (SqL K H p ys ∨ SqT K H p ys) ∧ ∀ l, H l = none → Q (.ref l) (upd H l (.lst ys))
def rLenS : List V → Hp → VK → Prop := fun xs H Q => ∃ z, xs = [.str z] ∧ z.length ≤ sizeLine ∧ Q (.int z.length) H
def rMax2 : List V → Hp → VK → Prop := fun xs H Q => ∃ i j, xs = [.int i, .int j] ∧ Q (.int (if j > i then j else i)) H
def rMin2 : List V → Hp → VK → Prop := fun xs H Q => ∃ i j, xs = [.int i, .int j] ∧ Q (.int (if j < i then j else i)) H
def rInt1 : List V → Hp → VK → Prop := fun xs H Q => (∃ i, xs = [.int i] ∧ Q (.int i) H) ∨ ∃ k, xs = [.bl k] ∧ Q (.int (if k then 1 else 0)) H
def rStrI : List V → Hp → VK → Prop := fun xs H Q => ∃ i, xs = [.int i] ∧ i.natAbs.log2 < 1920 ∧ Q (.str (toString i)) H
def rLenD : List V → Hp → VK → Prop := fun xs H Q => ∃ d kvs, xs = [.ref d] ∧ H d = some (.dK kvs) ∧ Q (.int (kvs.length : Int)) H
theorem cl_len {X : Cx} : CallR X (.builtin "len") (rLen X.K) := call_len_seq
theorem cl_lenS {X : Cx} : CallR X (.builtin "len") rLenS := call_len_str
theorem cl_list {X : Cx} : CallR X (.type "list") (rListOf X.K) := call_list_of
theorem cl_max2 {X : Cx} (hc : X.calm = true) : CallR X (.builtin "max") rMax2 := call_max2 hc
theorem cl_min2 {X : Cx} (hc : X.calm = true) : CallR X (.builtin "min") rMin2 := call_min2 hc
theorem cl_int1 {X : Cx} : CallR X (.type "int") rInt1 := call_int1
theorem cl_strI {X : Cx} : CallR X (.type "str") rStrI := call_str_int
theorem c_len {a : Addr} {xs : List V} (h : SqA K L a xs) (q : Q (.int xs.length) L) : RE (rLen K [.ref a]) L Q := fun H s Qh k => ⟨a, xs, rfl, .inl (h H s), k _ _ _ s q⟩
theorem c_lenT {a : Addr} {xs : List V} (h : TqA K L a xs) (q : Q (.int xs.length) L) : RE (rLen K [.ref a]) L Q := fun H s Qh k => ⟨a, xs, rfl, .inr (h H s), k _ _ _ s q⟩
theorem c_list {a : Addr} {xs : List V} (h : SqA K L a xs) (q : ∀ p, Q (.ref p) (pt p (.lst xs) :: L)) : RE (rListOf K [.ref a]) L Q := fun H s Qh k => ⟨a, xs, rfl, .inl (h H s), fun p hp => k _ _ _ (sep_new s hp) (q p)⟩
theorem c_listT {a : Addr} {xs : List V} (h : TqA K L a xs) (q : ∀ p, Q (.ref p) (pt p (.lst xs) :: L)) : RE (rListOf K [.ref a]) L Q := fun H s Qh k => ⟨a, xs, rfl, .inr (h H s), fun p hp => k _ _ _ (sep_new s hp) (q p)⟩
theorem c_lenS {z : Str} (hz : z.length ≤ sizeLine) (q : Q (.int z.length) L) : RE (rLenS [.str z]) L Q := fun H s Qh k => ⟨z, rfl, hz, k _ _ _ s q⟩
theorem c_max2 {i j : Int} (q : Q (.int (if j > i then j else i)) L) : RE (rMax2 [.int i, .int j]) L Q := fun H s Qh k => ⟨i, j, rfl, k _ _ _ s q⟩
theorem c_min2 {i j : Int} (q : Q (.int (if j < i then j else i)) L) : RE (rMin2 [.int i, .int j]) L Q := fun H s Qh k => ⟨i, j, rfl, k _ _ _ s q⟩
theorem c_intI {i : Int} (q : Q (.int i) L) : RE (rInt1 [.int i]) L Q := fun H s Qh k => .inl ⟨i, rfl, k _ _ _ s q⟩
theorem c_intB {b : Bool} (q : Q (.int (if b then 1 else 0)) L) : RE (rInt1 [.bl b]) L Q := fun H s Qh k => .inr ⟨b, rfl, k _ _ _ s q⟩
theorem c_strI {i : Int} (h : i.natAbs.log2 < 1920) (q : Q (.str (toString i)) L) : RE (rStrI [.int i]) L Q := fun H s Qh k => ⟨i, rfl, h, k _ _ _ s q⟩
theorem c_sortedI {a : Addr} {ns : List Int} (h : SqA K L a (ns.map V.int)) (q : ∀ (ms : List Int) (p : Addr), ms.Perm ns → ms.Pairwise (· ≤ ·) → Q (.ref p) (pt p (.lst (ms.map V.int)) :: L)) : RE (rSortedI K [.ref a]) L Q := fun H s Qh k =>
  ⟨a, ns, rfl, h H s, fun ms p hp hw hn => k _ _ _ (sep_new s hn) (q ms p hp hw)⟩
/-- isinstance -/
theorem c_isi {x c : V} {tv u : Value} {b : Bool} (hc : ClsV c u) (hx : ∀ H, Sep L H → TyX K H x tv) (e : PySem.W.kitOne K tv u = some b) (q : Q (.bl b) L) : RE (rIsi K [x, c]) L Q := fun H s Qh k => ⟨x, c, tv, u, b, rfl, hc, hx H s, e, k _ _ _ s q⟩
/-! ### tests -/
theorem t_test (h : SE te σ L fun x L1 => ∃ b, x = .bl b ∧ QB b L1) : ST (tTest te) σ L QB := fun H s Qh k =>
  h H s _ fun x L1 H1 s1 ⟨b, e, q⟩ => ⟨b, e, k _ _ _ s1 q⟩
theorem t_B (h : SE te σ L fun x L1 => ∃ b, x = .bl b ∧ QB b L1) : ST (tB te) σ L QB := fun H s Qh k =>
  h H s _ fun x L1 H1 s1 ⟨b, e, q⟩ => ⟨b, e, k _ _ _ s1 q⟩
theorem t_and (h : ST tt σ L fun b L1 => (b = true → ST tu σ L1 QB) ∧ (b = false → QB false L1)) : ST (tAnd tt tu) σ L QB := fun H s Qh k =>
  h H s _ fun b L1 H1 s1 ⟨ht, hf⟩ => by
    cases b with
    | true => rw [if_pos rfl]; exact ht rfl H1 s1 Qh k
    | false => rw [if_neg Bool.false_ne_true]; exact k _ _ _ s1 (hf rfl)
theorem t_or (h : ST tt σ L fun b L1 => (b = true → QB true L1) ∧ (b = false → ST tu σ L1 QB)) : ST (tOr tt tu) σ L QB := fun H s Qh k =>
  h H s _ fun b L1 H1 s1 ⟨ht, hf⟩ => by
    cases b with
    | true => rw [if_pos rfl]; exact k _ _ _ s1 (ht rfl)
    | false => rw [if_neg Bool.false_ne_true]; exact hf rfl H1 s1 Qh k
theorem t_not (h : ST tt σ L fun b L1 => QB (!b) L1) : ST (tNot tt) σ L QB := fun H s Qh k => h H s _ fun b L1 H1 s1 q => k _ _ _ s1 q
def tTruth (K : PySem.W.Frag) (ta : TE) : TT := fun σ H Q => ta σ H fun x H' => ∃ k, TruV K x H' k ∧ Q k H'
theorem t_tru (h : SE ta σ L fun x L1 => ∃ b, (∀ H, Sep L1 H → TruV K x H b) ∧ QB b L1) : ST (tTruth K ta) σ L QB := fun H s Qh k =>
  h H s _ fun x L1 H1 s1 ⟨b, e, q⟩ => ⟨b, e H1 s1, k _ _ _ s1 q⟩
/-! ### dicts -/
def rDGet (x y : V) : Hp → VK → Prop := fun H Q => ∃ a v, x = .ref a ∧ DGet H a y (some v) ∧ Q v H
def rDIn (x y : V) : Hp → VK → Prop := fun H Q => ∃ a o, x = .ref a ∧ DGet H a y o ∧ Q (.bl o.isSome) H
def rDNotIn (x y : V) : Hp → VK → Prop := fun H Q => ∃ a o, x = .ref a ∧ DGet H a y o ∧ Q (.bl (!o.isSome)) H
theorem e_dget {td ty : TE} (h : SE td σ L fun x L1 => SE ty σ L1 fun y L2 => RE (rDGet x y) L2 Q) : SE (tDGet td ty) σ L Q := fun H s Qh k =>
  h H s _ fun x L1 H1 s1 h1 => h1 H1 s1 _ fun y L2 H2 s2 h2 => h2 H2 s2 Qh k
theorem e_din {td ty : TE} (h : SE ty σ L fun y L1 => SE td σ L1 fun x L2 => RE (rDIn x y) L2 Q) : SE (tDIn ty td) σ L Q := fun H s Qh k =>
  h H s _ fun x L1 H1 s1 h1 => h1 H1 s1 _ fun y L2 H2 s2 h2 => h2 H2 s2 Qh k
theorem e_dnotin {td ty : TE} (h : SE ty σ L fun y L1 => SE td σ L1 fun x L2 => RE (rDNotIn x y) L2 Q) : SE (tDNotIn ty td) σ L Q := fun H s Qh k =>
  h H s _ fun x L1 H1 s1 h1 => h1 H1 s1 _ fun y L2 H2 s2 h2 => h2 H2 s2 Qh k
theorem r_dget {a : Addr} {n : Int} {kvs : List (Key × V)} {v : V} (h : Has L a (.dK kvs)) (e : valV kvs (Sum.inl n) = some v) (q : Q v L) : RE (rDGet (.ref a) (.int n)) L Q := fun H s Qh k =>
  ⟨a, v, rfl, by rw [← e]; exact DGet.k (k := Sum.inl n) (h H s), k _ _ _ s q⟩
theorem r_din {a : Addr} {n : Int} {kvs : List (Key × V)} (h : Has L a (.dK kvs)) (q : Q (.bl (valV kvs (Sum.inl n)).isSome) L) : RE (rDIn (.ref a) (.int n)) L Q := fun H s Qh k =>
  ⟨a, _, rfl, DGet.k (k := Sum.inl n) (h H s), k _ _ _ s q⟩
theorem r_dnotin {a : Addr} {n : Int} {kvs : List (Key × V)} (h : Has L a (.dK kvs)) (q : Q (.bl (!(valV kvs (Sum.inl n)).isSome)) L) : RE (rDNotIn (.ref a) (.int n)) L Q := fun H s Qh k =>
  ⟨a, _, rfl, DGet.k (k := Sum.inl n) (h H s), k _ _ _ s q⟩
theorem e_dnew (q : ∀ p, Q (.ref p) (pt p (.dK []) :: L)) : SE tDNewK σ L Q := fun H s Qh k => fun p hp => k _ _ _ (sep_new s hp) (q p)
/-! ### statements -/
theorem s_next (q : D.nx σ L) : SS tNext D σ L := fun H s E le => le.nx _ _ _ s q
theorem s_brk (q : D.bk σ L) : SS tBreak D σ L := fun H s E le => le.bk _ _ _ s q
theorem s_cnt (q : D.ct σ L) : SS tCont D σ L := fun H s E le => le.ct _ _ _ s q
theorem s_seq (h : SS t { D with nx := fun σ L => SS u D σ L } σ L) : SS (tSeq t u) D σ L := fun H s E le =>
  h H s { E with nx := u E } ⟨fun σ L H s q => q H s E le, le.rt, le.bk, le.ct⟩
theorem s_asg {i : Nat} (h : SE te σ L fun v L1 => D.nx (σ.set i (some v)) L1) : SS (tAsg te (gName i)) D σ L := fun H s E le =>
  h H s _ fun v L1 H1 s1 q => le.nx _ _ _ s1 q
theorem s_drop (h : SE te σ L fun _ L1 => D.nx σ L1) : SS (tDrop te) D σ L := fun H s E le => h H s _ fun v L1 H1 s1 q => le.nx _ _ _ s1 q
theorem s_ret (h : SE te σ L D.rt) : SS (tRet te) D σ L := fun H s E le => h H s _ fun v L1 H1 s1 q => le.rt _ _ _ s1 q
theorem s_retN (q : D.rt .non L) : SS tRetN D σ L := fun H s E le => le.rt _ _ _ s q
theorem s_if (h : ST tt σ L fun b L1 => (b = true → SS t D σ L1) ∧ (b = false → SS u D σ L1)) : SS (tIfS tt t u) D σ L := fun H s E le =>
  h H s _ fun b L1 H1 s1 ⟨ht, hf⟩ => by
    cases b with
    | true => rw [if_pos rfl]; exact ht rfl H1 s1 E le
    | false => rw [if_neg Bool.false_ne_true]; exact hf rfl H1 s1 E le
theorem s_setL {to ti : TE} (h : SE te σ L fun v L1 => SE to σ L1 fun o L2 => SE ti σ L2 fun i L3 => RS (rSetL o i v) L3 fun L4 => D.nx σ L4) : SS (tAsg te (gSub to ti rSetL)) D σ L := fun H s E le =>
  h H s _ fun v L1 H1 s1 h1 => h1 H1 s1 _ fun o L2 H2 s2 h2 => h2 H2 s2 _ fun i L3 H3 s3 h3 => h3 H3 s3 _ fun L4 H4 s4 q => le.nx _ _ _ s4 q
theorem r_setL {a : Addr} {xs : List V} {i : Int} {j : Nat} {v : V} {QS : AL → Prop} (h : Has L a (.lst xs)) (e : ixN xs.length i = some j) (w : Wr L a (.lst (xs.set j v)) M) (q : QS M) : RS (rSetL (.ref a) (.int i) v) L QS := fun H s Qh k =>
  ⟨a, xs, i, j, rfl, rfl, h H s, e, k _ _ (w H s).2 q⟩
theorem s_fld {f : Str} (h : SE tv σ L fun y L1 => SE ta σ L1 fun x L2 => ∃ a C dx fs M, x = .ref a ∧ Has L2 a (.ins C dx fs) ∧ Cls K C ∧ NoAttr K C f ∧ fs.length < 1000 ∧ Wr L2 a (.ins C dx (putF f y fs)) M ∧ D.nx σ M) : SS (sFld K ta tv f) D σ L := fun H s E le =>
  h H s _ fun y L1 H1 s1 h1 => h1 H1 s1 _ fun x L2 H2 s2 ⟨a, C, dx, fs, M, e, hh, c, n, z, w, q⟩ => ⟨a, C, dx, fs, e, hh H2 s2, c, n, z, le.nx _ _ _ (w H2 s2).2 q⟩
theorem s_aug {i : Nat} {f : Int → Int → Int} {x : Int} (hx : σ[i]? = some (some (.int x))) (h : SE te σ L fun y L1 => ∃ j, y = .int j ∧ D.nx (σ.set i (some (.int (f x j)))) L1) : SS (tAug i te (ipI f)) D σ L := fun H s E le =>
  ⟨.int x, hx, h H s _ fun y L1 H1 s1 ⟨j, e, q⟩ => ⟨x, j, rfl, e, le.nx _ _ _ s1 q⟩⟩
theorem s_dput {td ty : TE} (h : SE tv σ L fun v L1 => SE td σ L1 fun x L2 => SE ty σ L2 fun y L3 => ∃ a n kvs M, x = .ref a ∧ y = .int n ∧ Has L3 a (.dK kvs) ∧ kvs.length < sizeLine ∧ Wr L3 a (.dK (putK kvs (Sum.inl n) v)) M ∧ D.nx σ M) : SS (sDPut td ty tv) D σ L := fun H s E le =>
  h H s _ fun v L1 H1 s1 h1 => h1 H1 s1 _ fun x L2 H2 s2 h2 => h2 H2 s2 _ fun y L3 H3 s3 ⟨a, n, kvs, M, e, e2, hh, z, w, q⟩ => ⟨a, _, e, by rw [e2]; exact DPut.k (k := Sum.inl n) (hh H3 s3) z, le.nx _ _ _ (w H3 s3).2 q⟩
/-! ### methods of lists -/
theorem e_bm {T : String} {r : V → List V → Hp → VK → Prop} {to : TE} {tr : TA} (h : SE to σ L fun x L1 => (∀ H, Sep L1 H → tyV K T x H) ∧ SA tr σ L1 fun xs L2 => RE (r x xs) L2 Q) : SE (tBM K T r to tr) σ L Q := fun H s Qh k =>
  h H s _ fun x L1 H1 s1 ⟨ty, h1⟩ => ⟨ty H1 s1, h1 H1 s1 _ fun xs L2 H2 s2 h2 => h2 H2 s2 Qh k⟩
theorem e_bm0 {T : String} {r : V → List V → Hp → VK → Prop} {to : TE} (h : SE to σ L fun x L1 => (∀ H, Sep L1 H → tyV K T x H) ∧ RE (r x []) L1 Q) : SE (tBM0 K T r to) σ L Q := fun H s Qh k =>
  h H s _ fun x L1 H1 s1 ⟨ty, h1⟩ => ⟨ty H1 s1, h1 H1 s1 Qh k⟩
theorem ty_list {a : Addr} {xs : List V} (h : SqA K L a xs) : ∀ H, Sep L H → tyV K "list" (.ref a) H := fun H s => Or.inl ⟨rfl, xs, h H s⟩
theorem r_append {a : Addr} {xs : List V} {y : V} (h : Has L a (.lst xs)) (z : xs.length < sizeLine) (w : Wr L a (.lst (xs ++ [y])) M) (q : Q .non M) : RE (rAppend (.ref a) [y]) L Q := fun H s Qh k =>
  ⟨a, xs, y, rfl, rfl, h H s, z, k _ _ _ (w H s).2 q⟩
theorem r_popAt {a : Addr} {xs : List V} {i : Int} {j : Nat} {y : V} (h : Has L a (.lst xs)) (b : -(2 ^ 63) ≤ i ∧ i < 2 ^ 63) (e : seqIndex? i xs.length = some j) (ey : xs[j]? = some y) (w : Wr L a (.lst (xs.eraseIdx j)) M) (q : Q y M) :
    RE (rPopAt (.ref a) [.int i]) L Q := fun H s Qh k => ⟨a, xs, i, j, y, rfl, rfl, h H s, b.1, b.2, e, ey, k _ _ _ (w H s).2 q⟩
theorem r_clear {a : Addr} {xs : List V} (h : Has L a (.lst xs)) (w : Wr L a (.lst []) M) (q : Q .non M) : RE (rClear (.ref a) []) L Q := fun H s Qh k => ⟨a, xs, rfl, rfl, h H s, k _ _ _ (w H s).2 q⟩
/-! ### slices -/
theorem o_none {QO : Option Int → AL → Prop} (q : QO none L) : SO tNoPart σ L QO := fun H s Qh k => k _ _ _ s q
theorem o_some {QO : Option Int → AL → Prop} (h : SE te σ L fun x L1 => ∃ i, x = .int i ∧ QO (some i) L1) : SO (tPart te) σ L QO := fun H s Qh k =>
  h H s _ fun x L1 H1 s1 ⟨i, e, q⟩ => ⟨i, e, k _ _ _ s1 q⟩
theorem e_sl {r : V → Option Int → Option Int → Hp → VK → Prop} {tl th : TO} (h : SE te σ L fun x L1 => SO tl σ L1 fun l L2 => SO th σ L2 fun u L3 => RE (r x l u) L3 Q) : SE (tSl r te tl th) σ L Q := fun H s Qh k =>
  h H s _ fun x L1 H1 s1 h1 => h1 H1 s1 _ fun l L2 H2 s2 h2 => h2 H2 s2 _ fun u L3 H3 s3 h3 => h3 H3 s3 Qh k
theorem r_slL {a : Addr} {xs : List V} {lo hi : Option Int} (h : SqA K L a xs) (q : ∀ p, Q (.ref p) (pt p (.lst (cutV xs lo hi)) :: L)) : RE (rSlL K (.ref a) lo hi) L Q := fun H s Qh k =>
  ⟨a, xs, rfl, h H s, fun p hp => k _ _ _ (sep_new s hp) (q p)⟩
/-! ### loops -/
theorem s_forL {tl : TE} {j : Nat} (h : SE tl σ L fun x L1 => ∃ a xs, x = .ref a ∧ SqA K L1 a xs ∧ ∃ Pv : Nat → L2.St → AL → Prop, Pv 0 σ L1 ∧ (∀ i σ L, i ≤ xs.length → Pv i σ L → SqA K L a xs) ∧
      (∀ i x σ L, xs[i]? = some x → Pv i σ L → SS t { D with nx := Pv (i + 1), ct := Pv (i + 1), bk := D.nx } (σ.set j (some x)) L) ∧ ∀ σ L, Pv xs.length σ L → D.nx σ L) : SS (tFor (iList K tl) (gName j) t) D σ L := fun H s E le =>
  h H s _ fun x L1 H1 s1 ⟨a, xs, e, hq, Pv, h0, hl, hs, hd⟩ => ⟨a, e, ⟨xs, hq H1 s1⟩, for_list (K := K) (a := a) (xs := xs) (fun i σ H => ∃ L, Sep L H ∧ Pv i σ L) ⟨L1, s1, h0⟩ (fun i σ H hi ⟨L, s, p⟩ => hl i σ L hi p H s)
    (fun i x σ H hx ⟨L, s, p⟩ => hs i x σ L hx p H s _ ⟨fun σ L H s q => ⟨L, s, q⟩, le.rt, fun σ L H s q => le.nx σ L H s q, fun σ L H s q => ⟨L, s, q⟩⟩) fun σ H ⟨L, s, p⟩ => le.nx _ _ _ s (hd σ L p)⟩
theorem s_forT {tl : TE} {j : Nat} (h : SE tl σ L fun x L1 => ∃ a xs, x = .ref a ∧ TqA K L1 a xs ∧ ∃ Pv : Nat → L2.St → AL → Prop, Pv 0 σ L1 ∧ (∀ i σ L, i ≤ xs.length → Pv i σ L → TqA K L a xs) ∧
      (∀ i x σ L, xs[i]? = some x → Pv i σ L → SS t { D with nx := Pv (i + 1), ct := Pv (i + 1), bk := D.nx } (σ.set j (some x)) L) ∧ ∀ σ L, Pv xs.length σ L → D.nx σ L) : SS (tFor (iTup K tl) (gName j) t) D σ L := fun H s E le =>
  h H s _ fun x L1 H1 s1 ⟨a, xs, e, hq, Pv, h0, hl, hs, hd⟩ => ⟨a, e, ⟨xs, hq H1 s1⟩, for_tup (K := K) (a := a) (xs := xs) (fun i σ H => ∃ L, Sep L H ∧ Pv i σ L) ⟨L1, s1, h0⟩ (fun i σ H hi ⟨L, s, p⟩ => hl i σ L hi p H s)
    (fun i x σ H hx ⟨L, s, p⟩ => hs i x σ L hx p H s _ ⟨fun σ L H s q => ⟨L, s, q⟩, le.rt, fun σ L H s q => le.nx σ L H s q, fun σ L H s q => ⟨L, s, q⟩⟩) fun σ H ⟨L, s, p⟩ => le.nx _ _ _ s (hd σ L p)⟩
/-- over range(n); hi: the ints of the turns -/
theorem s_forR1 {tr : TA} {j : Nat} (h : SA tr σ L fun vs L1 => ∃ n : Int, vs = [.int n] ∧ -(2 ^ 62) ≤ n ∧ n < 2 ^ 62 ∧ ∃ Pv : Nat → L2.St → AL → Prop, Pv 0 σ L1 ∧
      (∀ (i : Nat) σ L, (i : Int) < n → Pv i σ L → SS t { D with nx := Pv (i + 1), ct := Pv (i + 1), bk := D.nx } (σ.set j (some (.int (i : Int)))) L) ∧ ∀ σ L, Pv n.toNat σ L → D.nx σ L) : SS (tFor (iRng1 tr) (gName j) t) D σ L := fun H s E le =>
  h H s _ fun vs L1 H1 s1 ⟨n, e, b1, b2, Pv, h0, hs, hd⟩ => ⟨n, e, b1, b2, for_range (lo := 0) (n := n.toNat) (fun i σ H => ∃ L, Sep L H ∧ Pv i σ L) ⟨L1, s1, h0⟩
    (fun i σ H hi ⟨L, s, p⟩ => by
      have e0 : (0 : Int) + (i : Int) = (i : Int) := Int.zero_add _
      rw [e0]
      exact hs i σ L (by omega) p H s _ ⟨fun σ L H s q => ⟨L, s, q⟩, le.rt, fun σ L H s q => le.nx σ L H s q, fun σ L H s q => ⟨L, s, q⟩⟩) fun σ H ⟨L, s, p⟩ => le.nx _ _ _ s (hd σ L p)⟩
theorem s_forR2 {tr : TA} {j : Nat} (h : SA tr σ L fun vs L1 => ∃ lo n : Int, vs = [.int lo, .int n] ∧ (-(2 ^ 62) ≤ lo ∧ lo < 2 ^ 62 ∧ -(2 ^ 62) ≤ n ∧ n < 2 ^ 62) ∧ ∃ Pv : Nat → L2.St → AL → Prop, Pv 0 σ L1 ∧
      (∀ (i : Nat) σ L, lo + (i : Int) < n → Pv i σ L → SS t { D with nx := Pv (i + 1), ct := Pv (i + 1), bk := D.nx } (σ.set j (some (.int (lo + (i : Int))))) L) ∧ ∀ σ L, Pv (n - lo).toNat σ L → D.nx σ L) : SS (tFor (iRng2 tr) (gName j) t) D σ L := fun H s E le =>
  h H s _ fun vs L1 H1 s1 ⟨lo, n, e, b, Pv, h0, hs, hd⟩ => ⟨lo, n, e, b, for_range (lo := lo) (n := (n - lo).toNat) (fun i σ H => ∃ L, Sep L H ∧ Pv i σ L) ⟨L1, s1, h0⟩
    (fun i σ H hi ⟨L, s, p⟩ => hs i σ L (by omega) p H s _ ⟨fun σ L H s q => ⟨L, s, q⟩, le.rt, fun σ L H s q => le.nx σ L H s q, fun σ L H s q => ⟨L, s, q⟩⟩) fun σ H ⟨L, s, p⟩ => le.nx _ _ _ s (hd σ L p)⟩
theorem s_forS {ts : TE} {j : Nat} (h : SE ts σ L fun x L1 => ∃ z : Str, x = .str z ∧ ∃ Pv : Nat → L2.St → AL → Prop, Pv 0 σ L1 ∧
      (∀ i c σ L, z.cps[i]? = some c → Pv i σ L → SS t { D with nx := Pv (i + 1), ct := Pv (i + 1), bk := D.nx } (σ.set j (some (.str ⟨#[c]⟩))) L) ∧ ∀ σ L, Pv z.cps.size σ L → D.nx σ L) : SS (tFor (iStr ts) (gName j) t) D σ L := fun H s E le =>
  h H s _ fun x L1 H1 s1 ⟨z, e, Pv, h0, hs, hd⟩ => ⟨z, e, fun i m σ H => m = z.cps.size - i ∧ i ≤ z.cps.size ∧ ∃ L, Sep L H ∧ Pv i σ L, ⟨z.cps.size, rfl, Nat.zero_le _, L1, s1, h0⟩, by
    rintro i m σ H ⟨rfl, hi, L, s, p⟩
    by_cases hlt : i < z.cps.size
    · refine .inr ⟨hlt, fun σ H => ∃ L, Sep L H ∧ Pv (i + 1) σ L, fun σ' H' p' => ⟨z.cps.size - (i + 1), by omega, rfl, hlt, p'⟩, fun x H' y => ?_⟩
      obtain ⟨e1, c, hc, e2⟩ := y
      subst e1 e2
      exact hs i c σ L hc p _ s _ ⟨fun σ L H s q => ⟨L, s, q⟩, le.rt, fun σ L H s q => le.nx σ L H s q, fun σ L H s q => ⟨L, s, q⟩⟩
    · have e : i = z.cps.size := by omega
      subst e
      exact .inl ⟨Nat.le_refl _, le.nx _ _ _ s (hd σ L p)⟩⟩
/-- while, by a word and its measure -/
theorem s_while (W : Nat → L2.St → AL → Prop) (h0 : ∃ m, W m σ L)
    (hs : ∀ m σ L, W m σ L → ST tt σ L fun b L1 => (b = true → SS t { D with nx := fun σ L => ∃ m', m' < m ∧ W m' σ L, ct := fun σ L => ∃ m', m' < m ∧ W m' σ L, bk := D.nx } σ L1) ∧ (b = false → D.nx σ L1)) : SS (tWhile tt t) D σ L := fun H s E le =>
  ⟨fun m σ H => ∃ L, Sep L H ∧ W m σ L, h0.elim fun m w => ⟨m, L, s, w⟩, fun m σ H ⟨L, s, w⟩ => hs m σ L w H s _ fun b L1 H1 s1 ⟨ht, hf⟩ => by
    cases b with
    | true =>
      rw [if_pos rfl]
      exact ⟨fun σ H => ∃ m' L, m' < m ∧ Sep L H ∧ W m' σ L, fun σ' H' ⟨m', L, l, s, w⟩ => ⟨m', l, L, s, w⟩, ht rfl H1 s1 _ ⟨fun σ L H s ⟨m', l, w⟩ => ⟨m', L, l, s, w⟩, le.rt, fun σ L H s q => le.nx σ L H s q, fun σ L H s ⟨m', l, w⟩ => ⟨m', L, l, s, w⟩⟩⟩
    | false => rw [if_neg Bool.false_ne_true]; exact le.nx _ _ _ s1 (hf rfl)⟩
/-- a cut between two statements -/
theorem s_cut {t u : TS} {Mid : L2.St → AL → Prop} (h : SS t { D with nx := Mid } σ L) (k : ∀ σ L, Mid σ L → SS u D σ L) : SS (tSeq t u) D σ L :=
  s_seq (s_mono h (fun σ L q => k σ L q) (fun _ _ q => q) (fun _ _ q => q) fun _ _ q => q)
/-! ### comprehensions: Pv: behind i turns, what the new list holds, and the rest -/
theorem e_lcL {tl : TE} {j : Nat} {vs : List Nat} (h : SE tl σ L fun x L1 => ∃ a xs, x = .ref a ∧ SqA K L1 a xs ∧ (∀ x, wipe ((wipe σ vs).set j (some x)) vs = wipe σ vs) ∧ ∃ Pv : Nat → List V → AL → Prop, Pv 0 [] L1 ∧ (∀ i acc L, i ≤ xs.length → Pv i acc L → SqA K L a xs) ∧
      (∀ i x acc L (d : Addr), xs[i]? = some x → Pv i acc L → ST tt ((wipe σ vs).set j (some x)) (pt d (.lst acc) :: L) fun b L2 =>
        (b = true → SE te ((wipe σ vs).set j (some x)) L2 fun y L3 => ∃ L4, Ent L3 (pt d (.lst acc) :: L4) ∧ acc.length < sizeLine ∧ Pv (i + 1) (acc ++ [y]) L4) ∧ (b = false → ∃ L4, Ent L2 (pt d (.lst acc) :: L4) ∧ Pv (i + 1) acc L4)) ∧
      ∀ acc L d, Pv xs.length acc L → Q (.ref d) (pt d (.lst acc) :: L)) : SE (tLc (iList K tl) (gName j) tt te vs) σ L Q := fun H s Qh k =>
  h H s _ fun x L1 H1 s1 ⟨a, xs, e, hq, hw, Pv, h0, hl, hs, hd⟩ => ⟨a, e, ⟨xs, hq H1 s1⟩, fun d hD => lc_list (K := K) (a := a) (xs := xs) (fun i H => ∃ acc L, Sep (pt d (.lst acc) :: L) H ∧ Pv i acc L) ⟨[], L1, sep_new s1 hD, h0⟩
    (fun i H hi ⟨acc, L, s, p⟩ => hl i acc L hi p H s.tail)
    (fun i x H hx ⟨acc, L, s, p⟩ => ⟨hw x, hs i x acc L d hx p H s _ fun b L2 H2 s2 ⟨ht, hf⟩ => by
      cases b with
      | true =>
        rw [if_pos rfl]
        refine ht rfl H2 s2 _ fun y L3 H3 s3 ⟨L4, en, z, p4⟩ => ?_
        have s4 := en H3 s3
        exact ⟨acc, has_hd H3 s4, z, acc ++ [y], L4, (wr_hd H3 s4).2, p4⟩
      | false =>
        rw [if_neg Bool.false_ne_true]
        obtain ⟨L4, en, p4⟩ := hf rfl
        exact ⟨acc, L4, en H2 s2, p4⟩⟩)
    fun H ⟨acc, L, s, p⟩ => k _ _ _ s (hd acc L d p)⟩
theorem e_lcR1 {tr : TA} {j : Nat} {vs : List Nat} (h : SA tr σ L fun us L1 => ∃ n : Int, us = [.int n] ∧ -(2 ^ 62) ≤ n ∧ n < 2 ^ 62 ∧ (∀ x, wipe ((wipe σ vs).set j (some x)) vs = wipe σ vs) ∧ ∃ Pv : Nat → List V → AL → Prop, Pv 0 [] L1 ∧
      (∀ (i : Nat) acc L (d : Addr), (i : Int) < n → Pv i acc L → ST tt ((wipe σ vs).set j (some (.int (i : Int)))) (pt d (.lst acc) :: L) fun b L2 =>
        (b = true → SE te ((wipe σ vs).set j (some (.int (i : Int)))) L2 fun y L3 => ∃ L4, Ent L3 (pt d (.lst acc) :: L4) ∧ acc.length < sizeLine ∧ Pv (i + 1) (acc ++ [y]) L4) ∧ (b = false → ∃ L4, Ent L2 (pt d (.lst acc) :: L4) ∧ Pv (i + 1) acc L4)) ∧
      ∀ acc L d, Pv n.toNat acc L → Q (.ref d) (pt d (.lst acc) :: L)) : SE (tLc (iRng1 tr) (gName j) tt te vs) σ L Q := fun H s Qh k =>
  h H s _ fun us L1 H1 s1 ⟨n, e, b1, b2, hw, Pv, h0, hs, hd⟩ => ⟨n, e, b1, b2, fun d hD => lc_range (lo := 0) (n := n.toNat) (fun i H => ∃ acc L, Sep (pt d (.lst acc) :: L) H ∧ Pv i acc L) ⟨[], L1, sep_new s1 hD, h0⟩
    (fun i H hi ⟨acc, L, s, p⟩ => by
      have e0 : (0 : Int) + (i : Int) = (i : Int) := Int.zero_add _
      rw [e0]
      exact ⟨hw _, hs i acc L d (by omega) p H s _ fun b L2 H2 s2 ⟨ht, hf⟩ => by
        cases b with
        | true =>
          rw [if_pos rfl]
          refine ht rfl H2 s2 _ fun y L3 H3 s3 ⟨L4, en, z, p4⟩ => ?_
          have s4 := en H3 s3
          exact ⟨acc, has_hd H3 s4, z, acc ++ [y], L4, (wr_hd H3 s4).2, p4⟩
        | false =>
          rw [if_neg Bool.false_ne_true]
          obtain ⟨L4, en, p4⟩ := hf rfl
          exact ⟨acc, L4, en H2 s2, p4⟩⟩)
    fun H ⟨acc, L, s, p⟩ => k _ _ _ s (hd acc L d p)⟩
theorem e_lcR2 {tr : TA} {j : Nat} {vs : List Nat} (h : SA tr σ L fun us L1 => ∃ lo n : Int, us = [.int lo, .int n] ∧ (-(2 ^ 62) ≤ lo ∧ lo < 2 ^ 62 ∧ -(2 ^ 62) ≤ n ∧ n < 2 ^ 62) ∧ (∀ x, wipe ((wipe σ vs).set j (some x)) vs = wipe σ vs) ∧ ∃ Pv : Nat → List V → AL → Prop, Pv 0 [] L1 ∧
      (∀ (i : Nat) acc L (d : Addr), lo + (i : Int) < n → Pv i acc L → ST tt ((wipe σ vs).set j (some (.int (lo + (i : Int))))) (pt d (.lst acc) :: L) fun b L2 =>
        (b = true → SE te ((wipe σ vs).set j (some (.int (lo + (i : Int))))) L2 fun y L3 => ∃ L4, Ent L3 (pt d (.lst acc) :: L4) ∧ acc.length < sizeLine ∧ Pv (i + 1) (acc ++ [y]) L4) ∧ (b = false → ∃ L4, Ent L2 (pt d (.lst acc) :: L4) ∧ Pv (i + 1) acc L4)) ∧
      ∀ acc L d, Pv (n - lo).toNat acc L → Q (.ref d) (pt d (.lst acc) :: L)) : SE (tLc (iRng2 tr) (gName j) tt te vs) σ L Q := fun H s Qh k =>
  h H s _ fun us L1 H1 s1 ⟨lo, n, e, b, hw, Pv, h0, hs, hd⟩ => ⟨lo, n, e, b, fun d hD => lc_range (lo := lo) (n := (n - lo).toNat) (fun i H => ∃ acc L, Sep (pt d (.lst acc) :: L) H ∧ Pv i acc L) ⟨[], L1, sep_new s1 hD, h0⟩
    (fun i H hi ⟨acc, L, s, p⟩ => 
      ⟨hw _, hs i acc L d (by omega) p H s _ fun b L2 H2 s2 ⟨ht, hf⟩ => by
        cases b with
        | true =>
          rw [if_pos rfl]
          refine ht rfl H2 s2 _ fun y L3 H3 s3 ⟨L4, en, z, p4⟩ => ?_
          have s4 := en H3 s3
          exact ⟨acc, has_hd H3 s4, z, acc ++ [y], L4, (wr_hd H3 s4).2, p4⟩
        | false =>
          rw [if_neg Bool.false_ne_true]
          obtain ⟨L4, en, p4⟩ := hf rfl
          exact ⟨acc, L4, en H2 s2, p4⟩⟩)
    fun H ⟨acc, L, s, p⟩ => k _ _ _ s (hd acc L d p)⟩
theorem t_yes (q : QB true L) : ST tYes σ L QB := fun H s Qh k => k _ _ _ s q
end
/-! ### promises -/
abbrev Pm := List V → AL → (V → AL → Prop) → (Value → AL → Prop) → Prop
def lift (P : Pm) : Sp := fun vs H Q E => ∃ L Qa Ea, Sep L H ∧ P vs L Qa Ea ∧ (∀ v L' H', Sep L' H' → Qa v L' → Q v H') ∧ ∀ c L' H', Sep L' H' → Ea c L' → E c none H'
/-- how an exception that is wished for by lists of assertions is wished for -/
def ELe (Ea : Value → AL → Prop) (E : XK) : Prop := ∀ c L H, Sep L H → Ea c L → E c none H
section
variable {K : PySem.W.Frag} {σ : L2.St} {L M : AL} {te ta tb tv : TE} {Q : V → AL → Prop} {P : Pm} {tr : TA} {E : XK} {Ea : Value → AL → Prop}
theorem lift_body {t : TS} {H : Hp} {vs : List V} {Qh : VK} {σ : L2.St} (h : lift P vs H Qh E) (b : ∀ L Qa Ea, ELe Ea E → P vs L Qa Ea → SS t { nx := fun _ L => Qa .non L, rt := Qa } σ L) : t { nx := fun _ H' => Qh .non H', rt := Qh } σ H := by
  obtain ⟨L, Qa, Ea, s, p, kq, ke⟩ := h
  exact b L Qa Ea ke p H s _ ⟨fun σ L H s q => kq _ _ _ s q, fun v L H s q => kq _ _ _ s q, fun _ _ _ _ q => q.elim, fun _ _ _ _ q => q.elim⟩
theorem e_call (h : SA tr σ L fun vs L1 => ∃ L2, Ent L1 L2 ∧ P vs L2 Q fun _ _ => False) : SE (tCall (lift P) [] E0 tr) σ L Q := fun H s Qh k =>
  h H s _ fun vs L1 H1 s1 ⟨L2, en, p⟩ => ⟨L2, Q, fun _ _ => False, en H1 s1, by rw [List.append_nil]; exact p, k, fun _ _ _ _ q => q.elim⟩
theorem e_callE (he : ELe Ea E) (h : SA tr σ L fun vs L1 => ∃ L2, Ent L1 L2 ∧ P vs L2 Q Ea) : SE (tCall (lift P) [] E tr) σ L Q := fun H s Qh k =>
  h H s _ fun vs L1 H1 s1 ⟨L2, en, p⟩ => ⟨L2, Q, Ea, en H1 s1, by rw [List.append_nil]; exact p, k, he⟩
theorem e_meth {C : Addr} {m : Str} (h : SE ta σ L fun x L1 => ∃ a dx fs, x = .ref a ∧ Has L1 a (.ins C dx fs) ∧ fs.lookup m = none ∧ SA tr σ L1 fun vs L2 => ∃ L3, Ent L2 L3 ∧ P (x :: vs) L3 Q fun _ _ => False) : SE (tMeth C m (lift P) [] E0 ta tr) σ L Q := fun H s Qh k =>
  h H s _ fun x L1 H1 s1 ⟨a, dx, fs, e, hh, l, h1⟩ => ⟨a, dx, fs, e, hh H1 s1, l, h1 H1 s1 _ fun vs L2 H2 s2 ⟨L3, en, p⟩ => ⟨L3, Q, fun _ _ => False, en H2 s2, by rw [List.append_nil]; exact p, k, fun _ _ _ _ q => q.elim⟩⟩
theorem e_methE {C : Addr} {m : Str} (he : ELe Ea E) (h : SE ta σ L fun x L1 => ∃ a dx fs, x = .ref a ∧ Has L1 a (.ins C dx fs) ∧ fs.lookup m = none ∧ SA tr σ L1 fun vs L2 => ∃ L3, Ent L2 L3 ∧ P (x :: vs) L3 Q Ea) : SE (tMeth C m (lift P) [] E ta tr) σ L Q := fun H s Qh k =>
  h H s _ fun x L1 H1 s1 ⟨a, dx, fs, e, hh, l, h1⟩ => ⟨a, dx, fs, e, hh H1 s1, l, h1 H1 s1 _ fun vs L2 H2 s2 ⟨L3, en, p⟩ => ⟨L3, Q, Ea, en H2 s2, by rw [List.append_nil]; exact p, k, he⟩⟩
theorem e_make {C : Addr} (he : ELe Ea E) (h : SA tr σ L fun vs L1 => ∀ p dx, ∃ L2, Ent (pt p (.ins C dx []) :: L1) L2 ∧ P (.ref p :: vs) L2 (fun v L3 => v = .non ∧ Q (.ref p) L3) Ea) : SE (tMake C (lift P) [] E tr) σ L Q := fun H s Qh k =>
  h H s _ fun vs L1 H1 s1 h1 => fun x dx hx hdx ne => by
    obtain ⟨L2, en, p⟩ := h1 x dx
    have s2 : Sep (pt x (.ins C dx []) :: L1) (upd (upd H1 dx (.own x)) x (.ins C dx [])) := sep_new ((s1.mono (fun b o e => by rw [upd_ne (ne_of_none e hdx)]; exact e))) (by rw [upd_ne ne.symm]; exact hx)
    exact ⟨L2, fun v L3 => v = .non ∧ Q (.ref x) L3, Ea, en _ s2, by rw [List.append_nil]; exact p, fun v L3 H3 s3 q => ⟨q.1, k _ _ _ s3 q.2⟩, he⟩
def tRaiseC (C : Addr) (E : XK) : TS := fun _ _ H => E (.ref C) none H
theorem s_raise {C : Addr} {D : EA} (he : ELe Ea E) (q : Ea (.ref C) L) : SS (tRaiseC C E) D σ L := fun H s _ _ => he _ _ _ s q
theorem ele0 : ELe (fun _ _ => False) E := fun _ _ _ _ q => q.elim
end
end Mp
/-! What gen.py's text uses: operators by values, promises by the number of arguments, the class Heap, the law's own promise. -/
namespace Mp
open PySem L2 PyProof.Rows
abbrev rAddI : R2 := rI0 fun i j => .int (i + j)
abbrev rSubI : R2 := rI0 fun i j => .int (i - j)
abbrev rMulI : R2 := rI CMul fun i j => .int (i * j)
abbrev rDivI : R2 := rI CDiv fun i j => .int (i / j)
abbrev rModI : R2 := rI (fun _ j => 0 < j) fun i j => .int (i % j)
abbrev rPowI : R2 := rI CPow fun i j => .int (i ^ j.toNat)
abbrev rLtI : R2 := rI0 fun i j => .bl (decide (i < j))
abbrev rLeI : R2 := rI0 fun i j => .bl (decide (i ≤ j))
abbrev rGtI : R2 := rI0 fun i j => .bl (decide (j < i))
abbrev rGeI : R2 := rI0 fun i j => .bl (decide (j ≤ i))
abbrev rNegI : V → Hp → VK → Prop := rU fun i => .int (-i)
abbrev rAddStr : R2 := fun x y H Q => ∃ i j, x = .str i ∧ y = .str j ∧ i.length + j.length ≤ sizeLine ∧ Q (.str (i ++ j)) H
theorem r_neg {L : AL} {Q : V → AL → Prop} {i : Int} (q : Q (.int (-i)) L) : RE (rNegI (.int i)) L Q := fun H s Qh k => ⟨i, rfl, k _ _ _ s q⟩
theorem get_list {X : Cx} : PGet X (rIxL X.K) := by
  intro pins s σ H x y v u Q I rx ry h
  obtain ⟨p, xs, i, z, rfl, rfl, hq, he, q⟩ := h
  cases rx
  obtain ⟨t, rfl⟩ := ry
  obtain ⟨its, r, pl, hz⟩ := I.list hq
  obtain ⟨j, h1, h2, h3, h4, h5⟩ := atI_get he
  obtain ⟨w, ew, rw'⟩ := r.get h2
  have hl := r.length
  have hn := line63
  have fin : EP X pins σ Q w s := ⟨z, H, I, rw', q⟩
  by_cases h0 : 0 ≤ i
  · have hj : i.toNat = j := by
      rw [seqIndex_of h0 h5] at h1
      exact Option.some.inj h1
    exact wpAny_getItem_list pl.isList h0 (by omega) (by rw [hj]; simpa using ew) fin
  · have hj : (i + (its.toArray.size : Int)).toNat = j := by
      rw [seqIndex_neg (by omega) h4] at h1
      rw [List.size_toArray, ← hl]
      exact Option.some.inj h1
    exact wpAny_getItem_list_neg pl.isList (by omega) (by rw [List.size_toArray] <;> omega) (by omega) (by rw [hj]; simpa using ew) fin
section
variable {K : PySem.W.Frag} {σ : L2.St} {L : AL} {Q : V → AL → Prop} {QS : AL → Prop} {ta tv : TE} {D : EA}
theorem s_augL {to ti te : TE} (h : SE to σ L fun o L1 => SE ti σ L1 fun i L2 => ∃ x, RE (rIxL K o i) L2 fun v L3 => v = .int x ∧ SE te σ L3 fun y L4 => ∃ j, y = .int j ∧ RS (rSetL o i (.int (x + j))) L4 fun L5 => D.nx σ L5) :
    SS (tAugS to ti te (rIxL K) (ipI fun i j => i + j) rSetL) D σ L := fun H s E le =>
  h H s _ fun o L1 H1 s1 h1 => h1 H1 s1 _ fun i L2 H2 s2 ⟨x, h2⟩ => h2 H2 s2 _ fun v L3 H3 s3 ⟨e, h3⟩ => h3 H3 s3 _ fun y L4 H4 s4 ⟨j, ej, h4⟩ => ⟨x, j, e, ej, h4 H4 s4 _ fun L5 H5 s5 q => le.nx _ _ _ s5 q⟩
theorem s_fldaug {f : Str} (h : SE ta σ L fun x L1 => ∃ a C dx fs i, x = .ref a ∧ Has L1 a (.ins C dx fs) ∧ Cls K C ∧ NoAttr K C f ∧ fs.lookup f = some (.int i) ∧ SE tv σ L1 fun y L2 => ∃ j dx' fs' M, y = .int j ∧ Has L2 a (.ins C dx' fs') ∧ fs'.length < 1000 ∧ Wr L2 a (.ins C dx' (putF f (.int (i + j)) fs')) M ∧ D.nx σ M) :
    SS (sFldAug K ta tv L2.rAdd f) D σ L := fun H s E le =>
  h H s _ fun x L1 H1 s1 ⟨a, C, dx, fs, i, e, hh, c, n, l, h1⟩ => ⟨a, C, dx, fs, .int i, e, hh H1 s1, c, n, l, h1 H1 s1 _ fun y L2 H2 s2 ⟨j, dx', fs', M, ey, hh2, z, w, q⟩ => ⟨i, j, rfl, ey, dx', fs', hh2 H2 s2, z, le.nx _ _ _ (w H2 s2).2 q⟩⟩
theorem r_listD {a : Addr} {kvs : List (Key × V)} (h : Has L a (.dK kvs)) (q : ∀ p, Q (.ref p) (pt p (.lst (kvs.map fun kv => kV kv.1)) :: L)) : RE (rListD [.ref a]) L Q := fun H s Qh k =>
  ⟨a, kvs, rfl, h H s, fun p hp => k _ _ _ (sep_new s hp) (q p)⟩
theorem c_lenD {a : Addr} {kvs : List (Key × V)} (h : Has L a (.dK kvs)) (q : Q (.int kvs.length) L) : RE (rLenD [.ref a]) L Q := fun H s Qh k => ⟨a, kvs, rfl, h H s, k _ _ _ s q⟩
end
/-! ### promises by the number of arguments -/
def pm1 (B : V → AL → (V → AL → Prop) → (Value → AL → Prop) → Prop) : Pm := fun vs L Q E => ∃ x, vs = [x] ∧ B x L Q E
def pm2 (B : V → V → AL → (V → AL → Prop) → (Value → AL → Prop) → Prop) : Pm := fun vs L Q E => ∃ x y, vs = [x, y] ∧ B x y L Q E
def pm3 (B : V → V → V → AL → (V → AL → Prop) → (Value → AL → Prop) → Prop) : Pm := fun vs L Q E => ∃ x y z, vs = [x, y, z] ∧ B x y z L Q E
def pm4 (B : V → V → V → V → AL → (V → AL → Prop) → (Value → AL → Prop) → Prop) : Pm := fun vs L Q E => ∃ x y z u, vs = [x, y, z, u] ∧ B x y z u L Q E
def pm5 (B : V → V → V → V → V → AL → (V → AL → Prop) → (Value → AL → Prop) → Prop) : Pm := fun vs L Q E => ∃ x y z u v, vs = [x, y, z, u, v] ∧ B x y z u v L Q E
def pm6 (B : V → V → V → V → V → V → AL → (V → AL → Prop) → (Value → AL → Prop) → Prop) : Pm := fun vs L Q E => ∃ x y z u v w, vs = [x, y, z, u, v, w] ∧ B x y z u v w L Q E
theorem pm1_len {B} {vs : List V} {L Q E} (h : pm1 B vs L Q E) : vs.length = 1 := by obtain ⟨_, rfl, _⟩ := h; rfl
theorem pm2_len {B} {vs : List V} {L Q E} (h : pm2 B vs L Q E) : vs.length = 2 := by obtain ⟨_, _, rfl, _⟩ := h; rfl
theorem pm3_len {B} {vs : List V} {L Q E} (h : pm3 B vs L Q E) : vs.length = 3 := by obtain ⟨_, _, _, rfl, _⟩ := h; rfl
theorem pm4_len {B} {vs : List V} {L Q E} (h : pm4 B vs L Q E) : vs.length = 4 := by obtain ⟨_, _, _, _, rfl, _⟩ := h; rfl
theorem pm5_len {B} {vs : List V} {L Q E} (h : pm5 B vs L Q E) : vs.length = 5 := by obtain ⟨_, _, _, _, _, rfl, _⟩ := h; rfl
theorem pm6_len {B} {vs : List V} {L Q E} (h : pm6 B vs L Q E) : vs.length = 6 := by obtain ⟨_, _, _, _, _, _, rfl, _⟩ := h; rfl
theorem lift_len {P : Pm} {n : Nat} (h : ∀ {vs : List V} {L Q E}, P vs L Q E → vs.length = n) : ∀ vs H Q E, lift P vs H Q E → vs.length = n := fun _ _ _ _ ⟨_, _, _, _, p, _⟩ => h p
/-! ### the classes -/
structure Ex where
  Heap : Addr
  HeapError : Addr
  NoHand : Addr
  NoSlot : Addr
  NoRoom : Addr
  NothingHeld : Addr
  NoBox : Addr
  NoWork : Addr
  NoHeap : Addr
  NoDeed : Addr
def Ex0 : Ex := ⟨0, 0, 0, 0, 0, 0, 0, 0, 0, 0⟩
structure HT (K : PySem.W.Frag) (A : Ex) : Prop where
  cl : Cls K A.Heap
  n_hands : NoAttr K A.Heap "hands"
  n_room : NoAttr K A.Heap "room"
  n_slots : NoAttr K A.Heap "slots"
  n_made : NoAttr K A.Heap "made"
  n_ended : NoAttr K A.Heap "ended"
  n_stage : NoAttr K A.Heap "stage"
  n_old : NoAttr K A.Heap "old"
  n_begun : NoAttr K A.Heap "begun"
  n_seen : NoAttr K A.Heap "seen"
  n_row : NoAttr K A.Heap "row"
  n_looked : NoAttr K A.Heap "looked"
  n_swept : NoAttr K A.Heap "swept"
/-! ### the script, and what the law promises -/
def Scr (K : PySem.W.Frag) (a : Addr) (ns : List Int) : Asn := fun h => SqL K h a (ns.map V.int)
theorem sq_sub {K : PySem.W.Frag} {h H : Hp} {a : Addr} {xs : List V} (s : Sub h H) (q : SqL K h a xs) : SqL K H a xs := Same.seq s q
theorem scr_hd {K : PySem.W.Frag} {a : Addr} {ns : List Int} {L : AL} : SqA K (Scr K a ns :: L) a (ns.map V.int) := fun H ⟨_, _, x, _, _, p, _⟩ => sq_sub x p
theorem sq_tl {K : PySem.W.Frag} {a : Addr} {xs : List V} {A : Asn} {L : AL} (h : SqA K L a xs) : SqA K (A :: L) a xs := fun _ s => h _ s.tail
def P_law (K : PySem.W.Frag) (_ : Ex) : Pm := pm1 fun x L Q _ => ∃ a ns, x = .ref a ∧ L = [Scr K a ns] ∧ ns.length ≤ 63 ∧ ∀ L', Q (.bl true) L'
theorem law_start {K : PySem.W.Frag} {H : Hp} {a : Addr} {ns : List Int} (hl : ns.length ≤ 63) (hS : SqL K H a (ns.map V.int)) : lift (P_law K Ex0) [.ref a] H (fun v _ => v = .bl true) fun _ _ _ => False :=
  ⟨[Scr K a ns], fun v _ => v = .bl true, fun _ _ => False, ⟨H, fun _ => none, Sub.refl _, (fun _ _ e => nomatch e), fun _ => .inr rfl, hS, True.intro⟩, ⟨_, rfl, a, ns, rfl, rfl, hl, fun _ => rfl⟩, fun _ _ _ _ q => q, fun _ _ _ _ q => q⟩
/-! ### isinstance of plain values -/
abbrev nV (n : Nat) : V := .int (n : Int)
abbrev oV : Option Nat → V
  | none => .non
  | some n => nV n
theorem isi_int_int {K : PySem.W.Frag} {L : AL} {Q : V → AL → Prop} {i : Int} (q : Q (.bl true) L) : RE (rIsi K [.int i, .ty "int"]) L Q := c_isi (.ty _) (fun _ _ => .base (.int i)) (kit_ty (by decide +kernel)) q
theorem isi_int_bool {K : PySem.W.Frag} {L : AL} {Q : V → AL → Prop} {i : Int} (q : Q (.bl false) L) : RE (rIsi K [.int i, .ty "bool"]) L Q := c_isi (.ty _) (fun _ _ => .base (.int i)) (kit_ty (by decide +kernel)) q
theorem isi_non_int {K : PySem.W.Frag} {L : AL} {Q : V → AL → Prop} (q : Q (.bl false) L) : RE (rIsi K [.non, .ty "int"]) L Q := c_isi (.ty _) (fun _ _ => .base .non) (kit_ty (by decide +kernel)) q
theorem isi_list {K : PySem.W.Frag} {L : AL} {Q : V → AL → Prop} {a : Addr} {xs : List V} (h : Has L a (.lst xs)) (q : Q (.bl true) L) : RE (rIsi K [.ref a, .ty "list"]) L Q := c_isi (.ty _) (fun H s => .base (.lst (h H s))) (kit_ty (by decide +kernel)) q
theorem isi_str {K : PySem.W.Frag} {L : AL} {Q : V → AL → Prop} {z : Str} (q : Q (.bl true) L) : RE (rIsi K [.str z, .ty "str"]) L Q := c_isi (.ty _) (fun _ _ => .base (.str z)) (kit_ty (by decide +kernel)) q
theorem isi_tup {K : PySem.W.Frag} {L : AL} {Q : V → AL → Prop} {a : Addr} {xs : List V} (h : Has L a (.tup xs)) (q : Q (.bl true) L) : RE (rIsi K [.ref a, .ty "tuple"]) L Q := c_isi (.ty _) (fun H s => .base (.tup (h H s))) (kit_ty (by decide +kernel)) q
theorem oV_flat (o : Option Nat) : flatV (oV o) = true := by cases o <;> rfl
theorem nV_inj {a b : Nat} (h : nV a = nV b) : a = b := by
  have e : (a : Int) = (b : Int) := V.int.inj h
  omega
theorem oV_inj {a b : Option Nat} (h : oV a = oV b) : a = b := by
  cases a with
  | none =>
    cases b with
    | none => rfl
    | some y => cases h
  | some x =>
    cases b with
    | none => cases h
    | some y => rw [nV_inj h]
theorem atI_toNat {xs : List V} {i : Int} {v : V} (h0 : 0 ≤ i) (h : xs[i.toNat]? = some v) : atI xs i = some v := by
  have e : i = ((i.toNat : Nat) : Int) := by omega
  rw [e]; exact atI_nat h
theorem ixN_toNat {n : Nat} {i : Int} (h0 : 0 ≤ i) (h : i < n) : ixN n i = some i.toNat := by
  unfold ixN
  rw [if_pos h0, if_pos h]
theorem ixN_nat {n i : Nat} (h : i < n) : ixN n (i : Int) = some i := by
  rw [ixN_toNat (by omega) (by omega)]; simp
theorem map_oV_some (xs : List Nat) : (xs.map some).map oV = xs.map nV := by rw [List.map_map]; rfl
theorem map_nV_int (xs : List Nat) : xs.map nV = (xs.map fun (n : Nat) => (n : Int)).map V.int := by rw [List.map_map]; rfl
theorem map_oV_inj {xs ys : List (Option Nat)} (h : xs.map oV = ys.map oV) : xs = ys := by
  induction xs generalizing ys with
  | nil => cases ys with
    | nil => rfl
    | cons y ys => cases h
  | cons x xs ih => cases ys with
    | nil => cases h
    | cons y ys =>
      rw [List.map_cons, List.map_cons] at h
      injection h with h1 h2
      rw [oV_inj h1, ih h2]
/-- sorted lists with the same items are the same -/
theorem sorted_same : ∀ {xs ys : List Int}, xs.Perm ys → xs.Pairwise (· ≤ ·) → ys.Pairwise (· ≤ ·) → xs = ys
  | [], ys, p, _, _ => by rw [List.nil_perm.mp p]
  | x :: xs, [], p, _, _ => absurd p.length_eq (by simp)
  | x :: xs, y :: ys, p, hx, hy => by
    have e : x = y := by
      have m1 : x ∈ y :: ys := p.subset List.mem_cons_self
      have m2 : y ∈ x :: xs := p.symm.subset List.mem_cons_self
      have l1 : y ≤ x := by
        rcases List.mem_cons.mp m1 with h | h
        · omega
        · exact (List.pairwise_cons.mp hy).1 x h
      have l2 : x ≤ y := by
        rcases List.mem_cons.mp m2 with h | h
        · omega
        · exact (List.pairwise_cons.mp hx).1 y h
      omega
    subst e
    rw [sorted_same (List.perm_cons x |>.mp p) (List.pairwise_cons.mp hx).2 (List.pairwise_cons.mp hy).2]
theorem c_sortedN {K : PySem.W.Frag} {L : AL} {Q : V → AL → Prop} {a : Addr} {ns T : List Nat} (h : SqA K L a (ns.map nV)) (hp : T.Perm ns) (ht : T.Pairwise (· ≤ ·)) (q : ∀ p, Q (.ref p) (pt p (.lst (T.map nV)) :: L)) : RE (rSortedI K [.ref a]) L Q := by
  rw [map_nV_int] at h
  refine c_sortedI h fun ms p hm hw => ?_
  have e : ms = T.map fun (n : Nat) => (n : Int) := sorted_same (hm.trans (hp.map _).symm) hw (List.pairwise_map.mpr (ht.imp fun h => by omega))
  rw [e, ← map_nV_int]
  exact q p
/-- lists of numbers below n without repetition are not longer than n -/
theorem nodup_bound : ∀ (n : Nat) {xs : List Nat}, xs.Nodup → (∀ x ∈ xs, x < n) → xs.length ≤ n
  | 0, xs, _, h => by
    cases xs with
    | nil => exact Nat.le_refl _
    | cons x xs => exact absurd (h x List.mem_cons_self) (Nat.not_lt_zero _)
  | n + 1, xs, hn, h => by
    have h1 : (xs.filter fun x => decide (x ≠ n)).length ≤ n := nodup_bound n (hn.filter _) fun x hx => by
      obtain ⟨a, b⟩ := List.mem_filter.mp hx
      have c := h x a
      have d : x ≠ n := of_decide_eq_true b
      omega
    have h2 : (xs.filter fun x => !decide (x ≠ n)).length ≤ 1 := by
      have hN : (xs.filter fun x => !decide (x ≠ n)).Nodup := hn.filter _
      have hA : ∀ x ∈ (xs.filter fun x => !decide (x ≠ n)), x = n := fun x hx => by
        obtain ⟨_, b⟩ := List.mem_filter.mp hx
        simpa using b
      match (xs.filter fun x => !decide (x ≠ n)), hN, hA with
      | [], _, _ => exact Nat.zero_le _
      | [a], _, _ => exact Nat.le_refl _
      | a :: b :: r, hN, hA =>
        have ea := hA a (by simp)
        have eb := hA b (by simp)
        have := (List.nodup_cons.mp hN).1
        rw [ea, eb] at this
        simp at this
    have e : ∀ l : List Nat, (l.filter fun x => decide (x ≠ n)).length + (l.filter fun x => !decide (x ≠ n)).length = l.length := by
      intro l
      induction l with
      | nil => rfl
      | cons a l ih =>
        by_cases c : a = n
        · rw [List.filter_cons_of_neg (by simp [c]), List.filter_cons_of_pos (by simp [c])]
          simp only [List.length_cons]; omega
        · rw [List.filter_cons_of_pos (by simp [c]), List.filter_cons_of_neg (by simp [c])]
          simp only [List.length_cons]; omega
    have := e xs
    omega
end Mp
namespace Mp
open PySem L2
theorem both_t {P R : Prop} (p : P) : (true = true → P) ∧ (true = false → R) := ⟨fun _ => p, (fun z => nomatch z)⟩
theorem both_f {P R : Prop} (r : R) : (false = true → P) ∧ (false = false → R) := ⟨(fun z => nomatch z), fun _ => r⟩
theorem ex_t {P R : Prop} (p : P) : ∃ b, V.bl true = V.bl b ∧ (b = true → P) ∧ (b = false → R) := ⟨true, rfl, both_t p⟩
theorem ex_f {P R : Prop} (r : R) : ∃ b, V.bl false = V.bl b ∧ (b = true → P) ∧ (b = false → R) := ⟨false, rfl, both_f r⟩
theorem ex_c {c : Prop} [Decidable c] {P R : Prop} (p : c → P) (r : ¬ c → R) : ∃ b, V.bl (decide c) = V.bl b ∧ (b = true → P) ∧ (b = false → R) := ⟨_, rfl, fun h => p (of_decide_eq_true h), fun h => r (of_decide_eq_false h)⟩
theorem ex_n {c : Prop} [Decidable c] {P R : Prop} (p : ¬ c → P) (r : c → R) : ∃ b, V.bl (!decide c) = V.bl b ∧ (b = true → P) ∧ (b = false → R) := by
  refine ⟨_, rfl, fun h => p ?_, fun h => r ?_⟩
  · intro hc; rw [decide_eq_true hc] at h; cases h
  · apply Decidable.byContradiction; intro hc; rw [decide_eq_false hc] at h; cases h
/-- what is left may be told by a weaker list -/
theorem e_post {te : TE} {σ : L2.St} {L : AL} {Q : V → AL → Prop} (h : SE te σ L fun v L1 => ∃ L2, Ent L1 L2 ∧ Q v L2) : SE te σ L Q := fun H s Qh k => h H s Qh fun v L1 H1 s1 ⟨L2, e, q⟩ => k v L2 H1 (e H1 s1) q
theorem r_post {r : Hp → VK → Prop} {L : AL} {Q : V → AL → Prop} (h : RE r L fun v L1 => ∃ L2, Ent L1 L2 ∧ Q v L2) : RE r L Q := fun H s Qh k => h H s Qh fun v L1 H1 s1 ⟨L2, e, q⟩ => k v L2 H1 (e H1 s1) q
theorem s_postR {te : TE} {D : EA} {σ : L2.St} {L : AL} (h : SE te σ L fun v L1 => ∃ L2, Ent L1 L2 ∧ D.rt v L2) : SS (tRet te) D σ L := s_ret (e_post h)
theorem s_post {t : TS} {D : EA} {σ : L2.St} {L : AL} (h : SS t { D with nx := fun σ L1 => ∃ L2, Ent L1 L2 ∧ D.nx σ L2 } σ L) : SS t D σ L := fun H s E le =>
  h H s E ⟨fun σ L1 H1 s1 ⟨L2, e, q⟩ => le.nx σ L2 H1 (e H1 s1) q, le.rt, le.bk, le.ct⟩
end Mp
/-! Families of cells: lists of lists, dicts of lists. -/
namespace Mp
open PySem L2
section
variable {β : Type} {f : β → HO}
def zc (f : β → HO) (as : List Addr) (bs : List β) : AL := List.zipWith (fun a b => pt a (f b)) as bs
theorem has_app {L R : AL} {a : Addr} {o : HO} (h : Has R a o) : Has (L ++ R) a o := by
  induction L with
  | nil => exact h
  | cons A L ih => exact has_tl ih
theorem wr_app {L R M : AL} {a : Addr} {o : HO} (h : Wr R a o M) : Wr (L ++ R) a o (L ++ M) := by
  induction L with
  | nil => exact h
  | cons A L ih => exact wr_tl ih
theorem zc_has : ∀ {as : List Addr} {bs : List β} {i : Nat} {a : Addr} {b : β} {L : AL}, as[i]? = some a → bs[i]? = some b → Has (zc f as bs ++ L) a (f b)
  | [], _, _, _, _, _, h, _ => by simp at h
  | _ :: _, [], _, _, _, _, _, h => by simp at h
  | a0 :: as, b0 :: bs, 0, a, b, L, h1, h2 => by
    have e1 : a0 = a := Option.some.inj h1
    have e2 : b0 = b := Option.some.inj h2
    subst e1; subst e2
    exact has_hd
  | a0 :: as, b0 :: bs, i + 1, a, b, L, h1, h2 => has_tl (zc_has (as := as) (bs := bs) (i := i) h1 h2)
theorem zc_wr : ∀ {as : List Addr} {bs : List β} {i : Nat} {a : Addr} {b b' : β} {L : AL}, as[i]? = some a → bs[i]? = some b → Wr (zc f as bs ++ L) a (f b') (zc f as (bs.set i b') ++ L)
  | [], _, _, _, _, _, _, h, _ => by simp at h
  | _ :: _, [], _, _, _, _, _, _, h => by simp at h
  | a0 :: as, b0 :: bs, 0, a, b, b', L, h1, h2 => by
    have e1 : a0 = a := Option.some.inj h1
    subst e1
    exact wr_hd
  | a0 :: as, b0 :: bs, i + 1, a, b, b', L, h1, h2 => wr_tl (zc_wr (as := as) (bs := bs) (i := i) h1 h2)
theorem zc_snoc : ∀ {as : List Addr} {bs : List β} {a : Addr} {b : β}, as.length = bs.length → zc f (as ++ [a]) (bs ++ [b]) = zc f as bs ++ [pt a (f b)]
  | [], [], _, _, _ => rfl
  | [], _ :: _, _, _, h => by simp at h
  | _ :: _, [], _, _, h => by simp at h
  | a0 :: as, b0 :: bs, a, b, h => by
    have ih := zc_snoc (as := as) (bs := bs) (a := a) (b := b) (by simpa using h)
    show pt a0 (f b0) :: zc f (as ++ [a]) (bs ++ [b]) = pt a0 (f b0) :: (zc f as bs ++ [pt a (f b)])
    rw [ih]
theorem zc_erase : ∀ {as : List Addr} {bs : List β} {i : Nat} {L : AL}, Ent (zc f as bs ++ L) (zc f (as.eraseIdx i) (bs.eraseIdx i) ++ L)
  | [], bs, i, L => by
    have e : ∀ bs : List β, zc f [] bs = [] := fun bs => by cases bs <;> rfl
    rw [e, List.eraseIdx_nil, e]
    exact Ent.refl _
  | a :: as, [], i, L => by
    have e : ∀ as : List Addr, zc f as ([] : List β) = [] := fun as => by cases as <;> rfl
    rw [e, List.eraseIdx_nil, e]
    exact Ent.refl _
  | a :: as, b :: bs, 0, L => Ent.drop
  | a :: as, b :: bs, i + 1, L => Ent.cons (zc_erase (as := as) (bs := bs) (i := i) (L := L))
end
theorem has_star {Ls R : AL} {a : Addr} {o : HO} (h : Has (Ls ++ R) a o) : Has (Star Ls :: R) a o := h.ent ent_unstar
theorem wr_star {Ls Ms R : AL} {a : Addr} {o : HO} (h : Wr (Ls ++ R) a o (Ms ++ R)) : Wr (Star Ls :: R) a o (Star Ms :: R) := (h.ent ent_unstar).to ent_star
/-! ### a list of lists -/
def fL (r : List (Option Nat)) : HO := .lst (r.map oV)
def RowsA (p : Addr) (as : List Addr) (rows : List (List (Option Nat))) : Asn := Star (pt p (.lst (as.map V.ref)) :: zc fL as rows)
section
variable {p a : Addr} {as : List Addr} {rows : List (List (Option Nat))} {r r' : List (Option Nat)} {i : Nat} {L : AL}
theorem rows_p : Has (RowsA p as rows :: L) p (.lst (as.map V.ref)) := has_star has_hd
theorem rows_i (h1 : as[i]? = some a) (h2 : rows[i]? = some r) : Has (RowsA p as rows :: L) a (.lst (r.map oV)) := has_star (has_tl (zc_has (f := fL) h1 h2))
theorem rows_set (h1 : as[i]? = some a) (h2 : rows[i]? = some r) : Wr (RowsA p as rows :: L) a (.lst (r'.map oV)) (RowsA p as (rows.set i r') :: L) := wr_star (wr_tl (zc_wr (f := fL) h1 h2))
theorem rows_new : Ent (pt p (.lst []) :: L) (RowsA p [] [] :: L) := ent_star (Ls := [pt p (.lst [])])
theorem perm_mid {A : Asn} {L R : AL} : (L ++ A :: R).Perm (A :: (L ++ R)) := List.perm_middle
theorem rows_push (hl : as.length = rows.length) : Wr (RowsA p as rows :: pt a (.lst (r.map oV)) :: L) p (.lst (as.map V.ref ++ [V.ref a])) (RowsA p (as ++ [a]) (rows ++ [r]) :: L) := by
  rw [show as.map V.ref ++ [V.ref a] = (as ++ [a]).map V.ref by rw [List.map_append]; rfl]
  have w : Wr (RowsA p as rows :: pt a (.lst (r.map oV)) :: L) p (.lst ((as ++ [a]).map V.ref)) (pt p (.lst ((as ++ [a]).map V.ref)) :: (zc fL as rows ++ pt a (.lst (r.map oV)) :: L)) := Wr.ent (L' := pt p (.lst (as.map V.ref)) :: (zc fL as rows ++ pt a (.lst (r.map oV)) :: L)) wr_hd ent_unstar
  refine w.to ?_
  have e : pt p (.lst ((as ++ [a]).map V.ref)) :: (zc fL as rows ++ pt a (.lst (r.map oV)) :: L) = (pt p (.lst ((as ++ [a]).map V.ref)) :: zc fL (as ++ [a]) (rows ++ [r])) ++ L := by
    rw [zc_snoc hl]
    simp [fL]
  rw [e]
  exact ent_star
end
/-- a dict whose keys are these numbers -/
def kvT (found : List Nat) : List (Key × V) := found.map fun (n : Nat) => ((Sum.inl (n : Int) : Key), V.bl true)
theorem kvT_some (found : List Nat) (m : Nat) : (valV (kvT found) (Sum.inl (m : Int))).isSome = decide (m ∈ found) := by
  induction found with
  | nil => rfl
  | cons a l ih =>
    by_cases c : a = m
    · subst c
      rw [show kvT (a :: l) = ((Sum.inl (a : Int) : Key), V.bl true) :: kvT l from rfl, valV_pos rfl]
      simp
    · rw [show kvT (a :: l) = ((Sum.inl (a : Int) : Key), V.bl true) :: kvT l from rfl, valV_neg (by intro z; have := Sum.inl.inj z; omega), ih]
      have : (m ∈ a :: l) = (m ∈ l) := by
        simp [show m ≠ a from fun z => c z.symm]
      simp only [this]
theorem kvT_put {found : List Nat} {m : Nat} (h : m ∉ found) : putK (kvT found) (Sum.inl (m : Int)) (.bl true) = kvT (found ++ [m]) := by
  have e : valV (kvT found) (Sum.inl (m : Int)) = none := by
    have := kvT_some found m
    rw [decide_eq_false h] at this
    cases q : valV (kvT found) (Sum.inl (m : Int)) with
    | none => rfl
    | some v => rw [q] at this; cases this
  rw [putK_new _ e]
  unfold kvT
  rw [List.map_append]
  rfl
theorem kvT_len (found : List Nat) : (kvT found).length = found.length := List.length_map _
theorem nd_app {l : List Nat} {a : Nat} (h : l.Nodup) (n : a ∉ l) : (l ++ [a]).Nodup := nd_snoc h n
theorem r_dnotT {L : AL} {Q : V → AL → Prop} {a : Addr} {found : List Nat} {m : Nat} (h : Has L a (.dK (kvT found))) (q : Q (.bl (!decide (m ∈ found))) L) : RE (rDNotIn (.ref a) (nV m)) L Q := r_dnotin (n := (m : Int)) h (by rw [kvT_some]; exact q)
theorem r_dinT {L : AL} {Q : V → AL → Prop} {a : Addr} {found : List Nat} {m : Nat} (h : Has L a (.dK (kvT found))) (q : Q (.bl (decide (m ∈ found))) L) : RE (rDIn (.ref a) (nV m)) L Q := r_din (n := (m : Int)) h (by rw [kvT_some]; exact q)
theorem small5 {n : Nat} (h : n ≤ 200000) : n < sizeLine := Nat.lt_of_le_of_lt h (by decide)
theorem small6 {n : Nat} (h : n ≤ 200000) : n ≤ sizeLine := Nat.le_trans h (by decide)
theorem map_get {α β : Type} {f : α → β} {xs : List α} {i : Nat} {y : β} (h : (xs.map f)[i]? = some y) : ∃ x, xs[i]? = some x ∧ f x = y := by
  rw [List.getElem?_map] at h
  cases e : xs[i]? with
  | none => rw [e] at h; cases h
  | some x => rw [e] at h; exact ⟨x, rfl, Option.some.inj h⟩
theorem map_at {α β : Type} (f : α → β) {xs : List α} {i : Nat} {x : α} (h : xs[i]? = some x) : (xs.map f)[i]? = some (f x) := by rw [List.getElem?_map, h]; rfl
theorem take_snoc {α : Type} {xs : List α} {i : Nat} {x : α} (h : xs[i]? = some x) : xs.take (i + 1) = xs.take i ++ [x] := by rw [List.take_add_one, h]; rfl
theorem SqA.ent {K : PySem.W.Frag} {L M : AL} {a : Addr} {xs : List V} (h : SqA K M a xs) (e : Ent L M) : SqA K L a xs := fun H s => h H (e H s)
theorem SqA.app {K : PySem.W.Frag} {L R : AL} {a : Addr} {xs : List V} (h : SqA K R a xs) : SqA K (L ++ R) a xs := by
  induction L with
  | nil => exact h
  | cons A L ih => exact sq_tl ih
theorem ent_app {L R : AL} : Ent (L ++ R) R := by
  induction L with
  | nil => exact Ent.refl _
  | cons A L ih => exact Ent.drop.trans ih
theorem ent_snoc {β : Type} {f : β → HO} {as : List Addr} {bs : List β} {a : Addr} {b : β} {L : AL} (h : as.length = bs.length) : Ent (pt a (f b) :: (zc f as bs ++ L)) (zc f (as ++ [a]) (bs ++ [b]) ++ L) := by
  rw [zc_snoc h, List.append_assoc]
  exact ent_perm List.perm_middle.symm
section
variable {K : PySem.W.Frag} {σ : L2.St} {L : AL} {te : TE} {Q : V → AL → Prop}
/-- a comprehension over range(n) whose items are new lists -/
theorem e_lcRowsR {tr : TA} {j : Nat} {vs : List Nat} (n : Nat) (f : Nat → List (Option Nat)) (hn : n ≤ 100000) (hw : ∀ x, wipe ((wipe σ vs).set j (some x)) vs = wipe σ vs) (h : SA tr σ L fun us L1 => us = [nV n] ∧ L1 = L)
    (hs : ∀ i, i < n → ∀ L', Ent L' L → SE te ((wipe σ vs).set j (some (nV i))) L' fun y L3 => ∃ a, y = .ref a ∧ L3 = pt a (fL (f i)) :: L')
    (hq : ∀ d as, as.length = n → Q (.ref d) (RowsA d as ((List.range n).map f) :: L)) : SE (tLc (iRng1 tr) (gName j) tYes te vs) σ L Q := by
  refine e_post (e_lcR1 (Q := fun v L1 => ∃ L2, Ent L1 L2 ∧ Q v L2) fun H s Qh k => h H s _ fun us L1 H1 s1 ⟨e1, e2⟩ => k _ _ _ s1 ⟨(n : Int), e1, by omega, by omega, hw, ?_⟩)
  subst e2
  refine ⟨fun i acc L' => ∃ as, acc = as.map V.ref ∧ as.length = i ∧ L' = zc fL as ((List.range i).map f) ++ L1, ⟨[], rfl, rfl, rfl⟩, ?_, ?_⟩
  · rintro i acc L' d hi ⟨as, rfl, hl, rfl⟩
    refine t_yes ⟨fun _ => ?_, (fun z => nomatch z)⟩
    refine e_mono (hs i (by omega) _ (Ent.drop.trans ent_app)) ?_
    rintro _ _ ⟨a, rfl, rfl⟩
    refine ⟨zc fL (as ++ [a]) ((List.range (i + 1)).map f) ++ L1, ?_, small5 (by rw [List.length_map]; omega), as ++ [a], by rw [List.map_append]; rfl, by rw [List.length_append, hl]; rfl, rfl⟩
    rw [List.range_succ, List.map_append]
    exact ent_swap.trans (Ent.cons (ent_snoc (by rw [List.length_map, List.length_range]; exact hl)))
  · rintro acc L' d ⟨as, rfl, hl, rfl⟩
    have e : ((n : Int)).toNat = n := by omega
    rw [e] at hl ⊢
    exact ⟨_, ent_star (Ls := pt d (.lst (as.map V.ref)) :: zc fL as ((List.range n).map f)), hq d as hl⟩
/-- a comprehension over a list whose items are new lists -/
theorem e_lcRowsL {tl : TE} {j : Nat} {vs : List Nat} {a0 : Addr} {xs : List V} (rows : List (List (Option Nat))) (hlen : rows.length = xs.length) (hn : xs.length ≤ 100000) (hw : ∀ x, wipe ((wipe σ vs).set j (some x)) vs = wipe σ vs) (h : SE tl σ L fun x L1 => x = .ref a0 ∧ L1 = L) (hsq : SqA K L a0 xs)
    (hs : ∀ (i : Nat) (x : V) (r : List (Option Nat)), xs[i]? = some x → rows[i]? = some r → ∀ L', Ent L' L → SE te ((wipe σ vs).set j (some x)) L' fun y L3 => ∃ a, y = .ref a ∧ L3 = pt a (fL r) :: L')
    (hq : ∀ d as, as.length = rows.length → Q (.ref d) (RowsA d as rows :: L)) : SE (tLc (iList K tl) (gName j) tYes te vs) σ L Q := by
  refine e_post (e_lcL (Q := fun v L1 => ∃ L2, Ent L1 L2 ∧ Q v L2) fun H s Qh k => h H s _ fun us L1 H1 s1 ⟨e1, e2⟩ => k _ _ _ s1 ⟨a0, xs, e1, by rw [e2]; exact hsq, hw, ?_⟩)
  subst e2
  refine ⟨fun i acc L' => ∃ as, acc = as.map V.ref ∧ as.length = i ∧ L' = zc fL as (rows.take i) ++ L1, ⟨[], rfl, rfl, rfl⟩, ?_, ?_, ?_⟩
  · rintro i acc L' _ ⟨as, rfl, hl, rfl⟩
    exact hsq.app
  · rintro i x acc L' d hx ⟨as, rfl, hl, rfl⟩
    have hi : i < xs.length := (List.getElem?_eq_some_iff.mp hx).1
    obtain ⟨r, hr⟩ : ∃ r, rows[i]? = some r := ⟨_, List.getElem?_eq_getElem (by omega)⟩
    refine t_yes ⟨fun _ => ?_, (fun z => nomatch z)⟩
    refine e_mono (hs i x r hx hr _ (Ent.drop.trans ent_app)) ?_
    rintro _ _ ⟨a, rfl, rfl⟩
    refine ⟨zc fL (as ++ [a]) (rows.take (i + 1)) ++ L1, ?_, small5 (by rw [List.length_map]; omega), as ++ [a], by rw [List.map_append]; rfl, by rw [List.length_append, hl]; rfl, rfl⟩
    rw [take_snoc hr]
    exact ent_swap.trans (Ent.cons (ent_snoc (by rw [List.length_take]; omega)))
  · rintro acc L' d ⟨as, rfl, hl, rfl⟩
    rw [← hlen, List.take_length]
    exact ⟨_, ent_star (Ls := pt d (.lst (as.map V.ref)) :: zc fL as rows), hq d as (by omega)⟩
/-- a comprehension over range(n) of plain values, some left out -/
theorem e_lcPlainR {tr : TA} {j : Nat} {vs : List Nat} {tt : TT} (n : Nat) (p : Nat → Bool) (g : Nat → V) (hn : n ≤ 100000) (hw : ∀ x, wipe ((wipe σ vs).set j (some x)) vs = wipe σ vs) (h : SA tr σ L fun us L1 => us = [nV n] ∧ L1 = L)
    (ht : ∀ i, i < n → ∀ L', Ent L' L → ST tt ((wipe σ vs).set j (some (nV i))) L' fun b L2 => b = p i ∧ L2 = L')
    (hs : ∀ i, i < n → p i = true → ∀ L', Ent L' L → SE te ((wipe σ vs).set j (some (nV i))) L' fun y L3 => y = g i ∧ L3 = L')
    (hq : ∀ d, Q (.ref d) (pt d (.lst (((List.range n).filter p).map g)) :: L)) : SE (tLc (iRng1 tr) (gName j) tt te vs) σ L Q := by
  refine e_lcR1 fun H s Qh k => h H s _ fun us L1 H1 s1 ⟨e1, e2⟩ => k _ _ _ s1 ⟨(n : Int), e1, by omega, by omega, hw, ?_⟩
  subst e2
  refine ⟨fun i acc L' => acc = ((List.range i).filter p).map g ∧ L' = L1, ⟨rfl, rfl⟩, ?_, ?_⟩
  · rintro i acc L' d hi ⟨rfl, rfl⟩
    have hl : (((List.range i).filter p).map g).length ≤ i := by
      rw [List.length_map]
      exact Nat.le_trans (List.length_filter_le _ _) (by rw [List.length_range]; exact Nat.le_refl _)
    refine t_mono (ht i (by omega) _ Ent.drop) ?_
    rintro b L2 ⟨rfl, rfl⟩
    refine ⟨fun hb => ?_, fun hb => ?_⟩
    · refine e_mono (hs i (by omega) hb _ Ent.drop) ?_
      rintro _ _ ⟨rfl, rfl⟩
      refine ⟨L', Ent.refl _, small5 (by omega), ?_, rfl⟩
      rw [List.range_succ, List.filter_append, List.map_append, List.filter_cons_of_pos hb]
      rfl
    · refine ⟨L', Ent.refl _, ?_, rfl⟩
      rw [List.range_succ, List.filter_append, List.filter_cons_of_neg (by rw [hb]; exact Bool.false_ne_true)]
      simp
  · rintro acc L' d ⟨rfl, rfl⟩
    have e : ((n : Int)).toNat = n := by omega
    rw [e]
    exact hq d
/-- a comprehension over a list, every item by a plain value -/
theorem e_lcPlainL {tl : TE} {j : Nat} {vs : List Nat} {a0 : Addr} {xs : List V} {tt : TT} (p : V → Bool) (g : V → V) (hn : xs.length ≤ 100000) (hw : ∀ x, wipe ((wipe σ vs).set j (some x)) vs = wipe σ vs) (h : SE tl σ L fun x L1 => x = .ref a0 ∧ L1 = L) (hsq : SqA K L a0 xs)
    (ht : ∀ x, x ∈ xs → ∀ L', Ent L' L → ST tt ((wipe σ vs).set j (some x)) L' fun b L2 => b = p x ∧ L2 = L')
    (hs : ∀ x, x ∈ xs → p x = true → ∀ L', Ent L' L → SE te ((wipe σ vs).set j (some x)) L' fun y L3 => y = g x ∧ L3 = L')
    (hq : ∀ d, Q (.ref d) (pt d (.lst ((xs.filter p).map g)) :: L)) : SE (tLc (iList K tl) (gName j) tt te vs) σ L Q := by
  refine e_lcL fun H s Qh k => h H s _ fun us L1 H1 s1 ⟨e1, e2⟩ => k _ _ _ s1 ⟨a0, xs, e1, by rw [e2]; exact hsq, hw, ?_⟩
  subst e2
  refine ⟨fun i acc L' => acc = ((xs.take i).filter p).map g ∧ L' = L1, ⟨rfl, rfl⟩, ?_, ?_, ?_⟩
  · rintro i acc L' _ ⟨rfl, rfl⟩
    exact hsq
  · rintro i x acc L' d hx ⟨rfl, rfl⟩
    have hi : i < xs.length := (List.getElem?_eq_some_iff.mp hx).1
    have hm : x ∈ xs := List.mem_of_getElem? hx
    have hl : (((xs.take i).filter p).map g).length ≤ i := by
      rw [List.length_map]
      refine Nat.le_trans (List.length_filter_le _ _) ?_
      rw [List.length_take]; omega
    refine t_mono (ht x hm _ Ent.drop) ?_
    rintro b L2 ⟨rfl, rfl⟩
    refine ⟨fun hb => ?_, fun hb => ?_⟩
    · refine e_mono (hs x hm hb _ Ent.drop) ?_
      rintro _ _ ⟨rfl, rfl⟩
      refine ⟨L', Ent.refl _, small5 (by omega), ?_, rfl⟩
      rw [take_snoc hx, List.filter_append, List.map_append, List.filter_cons_of_pos hb]
      rfl
    · refine ⟨L', Ent.refl _, ?_, rfl⟩
      rw [take_snoc hx, List.filter_append, List.filter_cons_of_neg (by rw [hb]; exact Bool.false_ne_true)]
      simp
  · rintro acc L' d ⟨rfl, rfl⟩
    rw [List.take_length]
    exact hq d
end
structure RdRows (K : PySem.W.Frag) (L : AL) (p : Addr) (as : List Addr) (rows : List (List (Option Nat))) : Prop where
  len : as.length = rows.length
  top : SqA K L p (as.map V.ref)
  row : ∀ (i : Nat) (a : Addr) (r : List (Option Nat)), as[i]? = some a → rows[i]? = some r → SqA K L a (r.map oV)
theorem rd_hd {K : PySem.W.Frag} {L : AL} {p : Addr} {as : List Addr} {rows : List (List (Option Nat))} (h : as.length = rows.length) : RdRows K (RowsA p as rows :: L) p as rows := ⟨h, Has.sq rows_p, fun _ _ _ h1 h2 => Has.sq (rows_i h1 h2)⟩
theorem rd_tl {K : PySem.W.Frag} {L : AL} {A : Asn} {p : Addr} {as : List Addr} {rows : List (List (Option Nat))} (h : RdRows K L p as rows) : RdRows K (A :: L) p as rows := ⟨h.len, sq_tl h.top, fun i a r h1 h2 => sq_tl (h.row i a r h1 h2)⟩
theorem nV_toNat {e : Int} (h : 0 ≤ e) : nV e.toNat = V.int e := by
  show V.int ((e.toNat : Nat) : Int) = V.int e
  congr 1
  omega
/-- what holds between two statements -/
theorem s_mid {t : TS} {D : EA} {σ : L2.St} {L : AL} {Mid : L2.St → AL → Prop} (h : SS t { D with nx := fun σ L1 => ∃ L2, Ent L1 L2 ∧ Mid σ L2 } σ L) (k : ∀ σ L, Mid σ L → D.nx σ L) : SS t D σ L :=
  s_post (s_mono h (fun σ L1 ⟨L2, e, m⟩ => ⟨L2, e, k σ L2 m⟩) (fun _ _ q => q) (fun _ _ q => q) fun _ _ q => q)
theorem cut_to {xs : List V} {h : Int} (h0 : 0 ≤ h) : cutV xs none (some h) = xs.take h.toNat := by
  have e : h = ((h.toNat : Nat) : Int) := by omega
  generalize h.toNat = k at e
  subst e
  unfold cutV
  rw [HT.sIx_nat, HT.sIx_none, List.drop_zero, Nat.sub_zero]
  by_cases c : k ≤ xs.length
  · rw [Nat.min_eq_left c]
  · rw [Nat.min_eq_right (by omega), List.take_of_length_le (Nat.le_refl _), List.take_of_length_le (by omega)]
theorem cut_from {xs : List V} {k : Nat} : cutV xs (some (k : Int)) none = xs.drop k := by
  unfold cutV
  rw [HT.sIx_nat, HT.sIx_none]
  by_cases c : k ≤ xs.length
  · rw [Nat.min_eq_left c]
    exact List.take_of_length_le (by rw [List.length_drop]; exact Nat.le_refl _)
  · rw [Nat.min_eq_right (by omega), List.drop_eq_nil_of_le (i := k) (by omega), List.drop_eq_nil_of_le (Nat.le_refl _)]
    exact List.take_nil
/-! ### the script's cells -/
def cell (ns : List Int) (k : Int) : Int := ns.getD k.toNat 0
def P_law_cell_at (K : PySem.W.Frag) (_ : Ex) : Pm := pm2 fun x y L Q _ => ∃ (a : Addr) (ns : List Int) (k : Int), x = .ref a ∧ y = .int k ∧ 0 ≤ k ∧ SqA K L a (ns.map V.int) ∧ Q (.int (cell ns k)) L
section
variable {K : PySem.W.Frag} {A : Ex} {L : AL} {Q : V → AL → Prop} {Ea : Value → AL → Prop}
theorem do_cell {a : Addr} {ns : List Int} {k : Int} (hq : SqA K L a (ns.map V.int)) (hk : 0 ≤ k) (q : Q (.int (cell ns k)) L) : ∃ L2, Ent L L2 ∧ P_law_cell_at K A [.ref a, .int k] L2 Q Ea :=
  ⟨L, Ent.refl _, _, _, rfl, a, ns, k, rfl, rfl, hk, hq, q⟩
end
end Mp
/-! Pure theorems of the laws' small helpers. -/
namespace Mp
open PySem L2 PyProof.Rows
local macro_rules | `(tactic| walk_at "has") => `(tactic| with_reducible first
  | exact has_hd
  | assumption
  | (apply has_tl; walk_at "has"))
local macro_rules | `(tactic| walk_at "wr") => `(tactic| with_reducible first
  | exact wr_hd
  | (apply wr_tl; walk_at "wr"))
local macro_rules | `(tactic| walk_at "sq") => `(tactic| with_reducible first
  | assumption
  | exact scr_hd
  | exact Has.sq has_hd
  | (apply Has.sq; assumption)
  | (apply sq_tl; walk_at "sq"))
local macro_rules | `(tactic| walk_at "w_i") => `(tactic| with_reducible refine s_if ?_)
local macro_rules | `(tactic| walk_at "w_s") => `(tactic| with_reducible first
  | refine s_seq ?_
  | refine s_asg ?_
  | refine s_ret ?_
  | refine s_next ?_
  | refine s_drop ?_
  | refine s_setL ?_
  | refine s_retN ?_
  | refine s_dput ?_
  | refine s_fld ?_
  | refine s_fldaug ?_
  | refine s_brk ?_
  | refine s_cnt ?_)
local macro_rules | `(tactic| walk_at "w_e") => `(tactic| first
  | ((with_reducible apply e_var); exact rfl)
  | with_reducible refine e_c ?_
  | with_reducible refine e_op ?_
  | with_reducible refine e_cb ?_
  | with_reducible refine e_call ?_
  | with_reducible refine e_fld ?_
  | with_reducible refine e_bm ?_
  | with_reducible refine e_bm0 ?_
  | with_reducible refine e_meth ?_
  | with_reducible refine e_dget ?_
  | with_reducible refine e_din ?_
  | with_reducible refine e_dnotin ?_
  | with_reducible refine e_andV ?_
  | with_reducible refine e_orV ?_
  | with_reducible refine e_notV ?_
  | with_reducible refine e_chain ?_
  | with_reducible refine e_sl ?_
  | with_reducible refine e_lst ?_
  | with_reducible refine e_tup ?_
  | with_reducible refine e_un ?_
  | with_reducible refine e_dnew ?_)
local macro_rules | `(tactic| walk_at "w_t") => `(tactic| with_reducible first
  | refine t_test ?_
  | refine t_B ?_
  | refine t_and ?_
  | refine t_or ?_
  | refine t_not ?_
  | refine t_tru ?_
  | refine t_yes ?_)
local macro_rules | `(tactic| walk_at "w_r") => `(tactic| first
  | with_reducible refine r_I0 ?_
  | ((with_reducible refine r_I ?_ ?_); (first | exact ⟨by decide, by decide⟩ | exact ⟨by omega, by omega⟩ | (show (0 : Int) < _; first | decide | omega | assumption)))
  | with_reducible refine r_isNo ?_
  | with_reducible refine r_notNo ?_
  | with_reducible refine r_eq rfl ?_
  | with_reducible refine r_ne rfl ?_
  | ((with_reducible apply c_len); (walk_at "sq"))
  | with_reducible refine isi_int_int ?_
  | with_reducible refine isi_int_bool ?_
  | with_reducible refine isi_non_int ?_
  | with_reducible refine isi_str ?_
  | ((with_reducible apply isi_list); (walk_at "has"))
  | with_reducible refine c_intB ?_
  | with_reducible refine c_intI ?_
  | with_reducible refine c_max2 ?_
  | with_reducible refine c_min2 ?_
  | ((with_reducible apply r_dget); (walk_at "has"))
  | ((with_reducible apply r_dnotT); (walk_at "has"))
  | ((with_reducible apply r_dinT); (walk_at "has"))
  | ((with_reducible apply r_din); (walk_at "has"))
  | ((with_reducible apply r_dnotin); (walk_at "has")))
local macro_rules | `(tactic| walk_at "w1") => `(tactic| first
  | ((with_reducible show SS _ _ _ _); first | walk_at "w_s" | walk_at "w_i")
  | walk_at "w0")
local macro_rules | `(tactic| walk_at "w0") => `(tactic| first
  | ((with_reducible show SE _ _ _ _); walk_at "w_e")
  | ((with_reducible show RE _ _ _); walk_at "w_r")
  | ((with_reducible show ST _ _ _ _); walk_at "w_t")
  | ((with_reducible show SA _ _ _ _); with_reducible first | refine a_cons ?_ | refine a_nil ?_)
  | ((with_reducible show SO _ _ _ _); with_reducible first | refine o_none ?_ | refine o_some ?_)
  | ((with_reducible show And _ _); with_reducible refine And.intro (ty_list (by walk_at "sq")) ?_)
  | ((with_reducible show Exists _); with_reducible refine do_cell (by walk_at "sq") (by first | decide | omega) ?_))
local macro_rules | `(tactic| walk_at "go") => `(tactic| repeat (walk_at "w1"))
local macro_rules | `(tactic| walk_at "w1n") => `(tactic| first
  | ((with_reducible show SS _ _ _ _); walk_at "w_s")
  | walk_at "w0")
local macro_rules | `(tactic| walk_at "gn") => `(tactic| repeat (walk_at "w1n"))
def N_law_cell_at : List Str := ["_law_script", "_law_k"]
def t_law_cell_at (K : PySem.W.Frag) (A : Ex) (E : XK) : TS :=
    (tSeq (tIfS (tTest (tOp rLtI (tVar 1) (tCB (rLen K) (tCons (tVar 0) tNil)))) (tRet (tOp (rIxL K) (tVar 0) (tVar 1))) tNext)
    (tRet (tC (.int 0))))
def P_law_whole (K : PySem.W.Frag) (_ : Ex) : Pm := pm1 fun x L Q _ => ∃ o : Option Nat, x = oV o ∧ Q (.bl o.isSome) L
def N_law_whole : List Str := ["_law_found"]
def t_law_whole (K : PySem.W.Frag) (A : Ex) (E : XK) : TS :=
    (tRet (tAndV (tCB (rIsi K) (tCons (tVar 0) (tCons (tC (.ty "int")) tNil))) (tNotV (tCB (rIsi K) (tCons (tVar 0) (tCons (tC (.ty "bool")) tNil))))))
def P_law_numbers (K : PySem.W.Frag) (_ : Ex) : Pm := pm2 fun x y L Q _ => ∃ (a b : Addr) (xs ys : List (Option Nat)), x = .ref a ∧ y = .ref b ∧ Has L a (.lst (xs.map oV)) ∧ SqA K L b (ys.map oV) ∧ ys.length ≤ 100000 ∧ Q (.bl (decide (xs = ys))) L
def N_law_numbers : List Str := ["_law_found", "_law_due", "_law_k"]
def t_law_numbers (K : PySem.W.Frag) (A : Ex) (E : XK) : TS :=
    (tSeq (tIfS (tOr (tNot (tB (tCB (rIsi K) (tCons (tVar 0) (tCons (tC (.ty "list")) tNil))))) (tTest (tOp rNe (tCB (rLen K) (tCons (tVar 0) tNil)) (tCB (rLen K) (tCons (tVar 1) tNil))))) (tRet (tC (.bl false))) tNext)
    (tSeq (tFor (iRng1 (tCons (tCB (rLen K) (tCons (tVar 1) tNil)) tNil)) (gName 2)
      (tSeq (tIfS (tAnd (tTest (tOp rIsNo (tOp (rIxL K) (tVar 1) (tVar 2)) (tC .non))) (tTest (tOp rNotNo (tOp (rIxL K) (tVar 0) (tVar 2)) (tC .non)))) (tRet (tC (.bl false))) tNext)
    (tIfS (tAnd (tTest (tOp rNotNo (tOp (rIxL K) (tVar 1) (tVar 2)) (tC .non))) (tOr (tNot (tB (tCall (lift (P_law_whole K A)) [] E0 (tCons (tOp (rIxL K) (tVar 0) (tVar 2)) tNil)))) (tTest (tOp rNe (tOp (rIxL K) (tVar 0) (tVar 2)) (tOp (rIxL K) (tVar 1) (tVar 2)))))) (tRet (tC (.bl false))) tNext)))
    (tRet (tC (.bl true)))))
section
variable {K : PySem.W.Frag} {A : Ex} {E : XK} {vs : List V} {L : AL} {Q : V → AL → Prop} {Ea : Value → AL → Prop}
theorem p_law_cell_at (he : ELe Ea E) (h : P_law_cell_at K A vs L Q Ea) : SS (t_law_cell_at K A E) { nx := fun _ L => Q .non L, rt := Q } (start N_law_cell_at vs) L := by
  obtain ⟨_, _, rfl, a, ns, k, rfl, rfl, hk, hq, q⟩ := h
  unfold t_law_cell_at
  walk_at "go"
  refine ⟨_, rfl, fun hb => ?_, fun hb => ?_⟩
  · have hb := of_decide_eq_true hb
    rw [List.length_map] at hb
    walk_at "go"
    refine r_ixL hq (atI_toNat hk (v := V.int (cell ns k)) ?_) q
    have h2 : k.toNat < ns.length := by omega
    rw [List.getElem?_map, List.getElem?_eq_getElem h2]
    unfold cell
    rw [List.getD_eq_getElem?_getD, List.getElem?_eq_getElem h2]
    rfl
  · have hb := of_decide_eq_false hb
    rw [List.length_map] at hb
    walk_at "go"
    have e : cell ns k = 0 := by
      unfold cell
      rw [List.getD_eq_getElem?_getD, List.getElem?_eq_none (by omega)]
      rfl
    rw [e] at q
    exact q
theorem p_law_whole (he : ELe Ea E) (h : P_law_whole K A vs L Q Ea) : SS (t_law_whole K A E) { nx := fun _ L => Q .non L, rt := Q } (start N_law_whole vs) L := by
  obtain ⟨_, rfl, o, rfl, q⟩ := h
  unfold t_law_whole
  cases o with
  | none =>
    walk_at "go"
    exact ex_f q
  | some n =>
    walk_at "go"
    refine ex_t ?_
    walk_at "go"
    exact ⟨false, rfl, q⟩
theorem p_law_numbers (he : ELe Ea E) (h : P_law_numbers K A vs L Q Ea) : SS (t_law_numbers K A E) { nx := fun _ L => Q .non L, rt := Q } (start N_law_numbers vs) L := by
  obtain ⟨_, _, rfl, a, b, xs, ys, rfl, rfl, ha, hb, hz, q⟩ := h
  unfold t_law_numbers
  walk_at "go"
  refine ⟨_, rfl, both_f ?_⟩
  walk_at "go"
  refine ex_n (fun hn => ?_) fun hn => ?_
  · walk_at "go"
    have e : decide (xs = ys) = false := decide_eq_false fun z => hn (by rw [z])
    rw [e] at q
    exact q
  have hl : xs.length = ys.length := by
    have h1 := V.int.inj hn
    rw [List.length_map, List.length_map] at h1
    omega
  walk_at "go"
  refine s_forR1 ?_
  walk_at "go"
  have hly : (ys.map oV).length = ys.length := List.length_map _
  refine ⟨_, rfl, by omega, by omega, fun i σ L' => L' = L ∧ ∃ v, σ = [some (.ref a), some (.ref b), v] ∧ ∀ j < i, xs[j]? = ys[j]?, ⟨rfl, none, rfl, fun j hj => absurd hj (Nat.not_lt_zero _)⟩, ?_, ?_⟩
  · rintro i σ L' hi ⟨rfl, v, rfl, hj⟩
    have hiy : i < ys.length := by omega
    have hix : i < xs.length := by omega
    have ex : (xs.map oV)[i]? = some (oV xs[i]) := by rw [List.getElem?_map, List.getElem?_eq_getElem hix]; rfl
    have ey : (ys.map oV)[i]? = some (oV ys[i]) := by rw [List.getElem?_map, List.getElem?_eq_getElem hiy]; rfl
    have gx : xs[i]? = some xs[i] := List.getElem?_eq_getElem hix
    have gy : ys[i]? = some ys[i] := List.getElem?_eq_getElem hiy
    have bad : xs[i] ≠ ys[i] → Q (.bl false) L' := fun z => by
      have e : decide (xs = ys) = false := decide_eq_false fun w => z (by subst w; rfl)
      rw [e] at q
      exact q
    have good : xs[i] = ys[i] → ∀ j < i + 1, xs[j]? = ys[j]? := fun z j hj' => by
      by_cases c : j = i
      · subst c; rw [gx, gy, z]
      · exact hj j (by omega)
    generalize xs[i] = x at *
    generalize ys[i] = y at *
    walk_at "go"
    refine r_ixL hb (atI_nat ey) ?_
    walk_at "go"
    refine ex_c (fun c => ?_) fun c => ?_
    · have ey0 : y = none := oV_inj (b := none) c
      subst ey0
      walk_at "go"
      refine r_ixL ha.sq (atI_nat ex) ?_
      walk_at "go"
      refine ex_n (fun c2 => ?_) fun c2 => ?_
      · walk_at "go"
        exact bad fun z => c2 (by rw [z])
      · have ex0 : x = none := oV_inj (b := none) c2
        subst ex0
        walk_at "go"
        refine r_ixL hb (atI_nat ey) ?_
        walk_at "go"
        refine ⟨false, rfl, both_f (both_f ?_)⟩
        walk_at "go"
        exact ⟨rfl, some (nV i), rfl, good rfl⟩
    · obtain ⟨m, rfl⟩ : ∃ m, y = some m := by
        cases y with
        | none => exact absurd rfl c
        | some m => exact ⟨m, rfl⟩
      refine both_f ?_
      walk_at "go"
      refine r_ixL hb (atI_nat ey) ?_
      walk_at "go"
      refine ⟨true, rfl, both_t ?_⟩
      walk_at "go"
      refine r_ixL ha.sq (atI_nat ex) ?_
      walk_at "go"
      refine ⟨L', Ent.refl _, _, rfl, x, rfl, ?_⟩
      cases x with
      | none =>
        refine ⟨_, rfl, both_t (both_t ?_)⟩
        walk_at "go"
        exact bad fun z => nomatch z
      | some n =>
        refine ⟨_, rfl, both_f ?_⟩
        walk_at "go"
        refine r_ixL ha.sq (atI_nat ex) ?_
        walk_at "go"
        refine r_ixL hb (atI_nat ey) ?_
        refine r_ne rfl ?_
        refine ex_n (fun c2 => ?_) fun c2 => ?_
        · walk_at "go"
          exact bad fun z => c2 (by rw [z])
        · walk_at "go"
          exact ⟨rfl, some (nV i), rfl, good (oV_inj c2)⟩
  · rintro σ L' ⟨rfl, v, rfl, hj⟩
    have e : decide (xs = ys) = true := decide_eq_true (List.ext_getElem? fun j => by
      by_cases c : j < ys.length
      · exact hj j (by omega)
      · rw [List.getElem?_eq_none (by omega), List.getElem?_eq_none (by omega)])
    rw [e] at q
    walk_at "go"
    exact q
theorem do_whole {o : Option Nat} (q : Q (.bl o.isSome) L) : ∃ L2, Ent L L2 ∧ P_law_whole K A [oV o] L2 Q Ea := ⟨L, Ent.refl _, _, rfl, o, rfl, q⟩
theorem do_wholeN {n : Nat} (q : Q (.bl true) L) : ∃ L2, Ent L L2 ∧ P_law_whole K A [nV n] L2 Q Ea := ⟨L, Ent.refl _, _, rfl, some n, rfl, q⟩
theorem do_numbers {a b : Addr} {xs ys : List (Option Nat)} (ha : Has L a (.lst (xs.map oV))) (hb : SqA K L b (ys.map oV)) (hz : ys.length ≤ 100000) (q : Q (.bl (decide (xs = ys))) L) : ∃ L2, Ent L L2 ∧ P_law_numbers K A [.ref a, .ref b] L2 Q Ea :=
  ⟨L, Ent.refl _, _, _, rfl, a, b, xs, ys, rfl, rfl, ha, hb, hz, q⟩
theorem do_numbersT {a b : Addr} {xs : List (Option Nat)} (ha : Has L a (.lst (xs.map oV))) (hb : SqA K L b (xs.map oV)) (hz : xs.length ≤ 100000) (q : Q (.bl true) L) : ∃ L2, Ent L L2 ∧ P_law_numbers K A [.ref a, .ref b] L2 Q Ea :=
  do_numbers ha hb hz (by rw [decide_eq_true rfl]; exact q)
theorem do_numbersN {a b : Addr} {xs : List Nat} (ha : Has L a (.lst (xs.map nV))) (hb : SqA K L b (xs.map nV)) (hz : xs.length ≤ 100000) (q : Q (.bl true) L) : ∃ L2, Ent L L2 ∧ P_law_numbers K A [.ref a, .ref b] L2 Q Ea :=
  do_numbersT (xs := xs.map some) (by rw [map_oV_some]; exact ha) (by rw [map_oV_some]; exact hb) (by rw [List.length_map]; exact hz) q
end
/-! law_k01: what can be come to. -/
inductive Rch (rows : List (List (Option Nat))) (starts : List Nat) : Nat → Prop where
  | st {s : Nat} : s ∈ starts → Rch rows starts s
  | go {k m : Nat} {r : List (Option Nat)} : Rch rows starts k → rows[k]? = some r → some m ∈ r → Rch rows starts m
noncomputable def reachF (rows : List (List (Option Nat))) (starts : List Nat) : List Nat := (List.range rows.length).filter fun k => @decide (Rch rows starts k) (Classical.propDecidable _)
structure Good (rows : List (List (Option Nat))) (starts : List Nat) : Prop where
  st : ∀ s ∈ starts, s < rows.length
  row : ∀ (k m : Nat) (r : List (Option Nat)), rows[k]? = some r → some m ∈ r → m < rows.length
  len : rows.length ≤ 100000
theorem Good.lt {rows starts} (g : Good rows starts) {k : Nat} (h : Rch rows starts k) : k < rows.length := by
  cases h with
  | st h => exact g.st _ h
  | go _ h1 h2 => exact g.row _ _ _ h1 h2
def P_reach (K : PySem.W.Frag) (_ : Ex) : Pm := pm2 fun x y L Q _ => ∃ (p b : Addr) (as : List Addr) (rows : List (List (Option Nat))) (starts : List Nat), x = .ref p ∧ y = .ref b ∧ RdRows K L p as rows ∧ SqA K L b (starts.map nV) ∧ Good rows starts ∧ starts.length ≤ 100000 ∧
  ∀ d, Q (.ref d) (pt d (.lst ((reachF rows starts).map nV)) :: L)
def N_reach : List Str := ["rows", "starts", "met", "found", "start", "at", "place"]
def t_reach (K : PySem.W.Frag) (A : Ex) (E : XK) : TS :=
    (tSeq (tAsg tDNewK (gName 2))
    (tSeq (tAsg (tLst tNil) (gName 3))
    (tSeq (tFor (iList K (tVar 1)) (gName 4)
      (tIfS (tB (tDNotIn (tVar 4) (tVar 2))) (tSeq (sDPut (tVar 2) (tVar 4) (tC (.bl true)))
    (tDrop (tBM K "list" rAppend (tVar 3) (tCons (tVar 4) tNil)))) tNext))
    (tSeq (tAsg (tC (.int 0)) (gName 5))
    (tSeq (tWhile (tTest (tOp rLtI (tVar 5) (tCB (rLen K) (tCons (tVar 3) tNil))))
      (tSeq (tFor (iList K (tOp (rIxL K) (tVar 0) (tOp (rIxL K) (tVar 3) (tVar 5)))) (gName 6)
      (tIfS (tAnd (tTest (tOp rNotNo (tVar 6) (tC .non))) (tB (tDNotIn (tVar 6) (tVar 2)))) (tSeq (sDPut (tVar 2) (tVar 6) (tC (.bl true)))
    (tDrop (tBM K "list" rAppend (tVar 3) (tCons (tVar 6) tNil)))) tNext))
    (tAug 5 (tC (.int 1)) (ipI fun i j => i + j))))
    (tRet (tCB (rSortedI K) (tCons (tVar 3) tNil))))))))
theorem reachF_of {rows starts} (g : Good rows starts) {found : List Nat} (hn : found.Nodup) (hf : ∀ x, x ∈ found ↔ Rch rows starts x) : (reachF rows starts).Perm found := by
  refine (List.perm_ext_iff_of_nodup (List.nodup_range.filter _) hn).mpr fun x => ?_
  rw [hf]
  rw [List.mem_filter]
  constructor
  · rintro ⟨_, h⟩
    exact (@decide_eq_true_iff _ (Classical.propDecidable _)).mp h
  · intro h
    exact ⟨List.mem_range.mpr (g.lt h), (@decide_eq_true_iff _ (Classical.propDecidable _)).mpr h⟩
theorem range_sorted (n : Nat) : (List.range n).Pairwise (· ≤ ·) := (List.pairwise_lt_range (n := n)).imp fun h => Nat.le_of_lt h
theorem reachF_sorted (rows starts) : (reachF rows starts).Pairwise (· ≤ ·) := (range_sorted _).filter _
/-- what the queue knows -/
structure Qu (rows : List (List (Option Nat))) (starts found : List Nat) (at_ : Nat) : Prop where
  nd : found.Nodup
  sub : ∀ s ∈ starts, s ∈ found
  rch : ∀ x ∈ found, Rch rows starts x
  le : at_ ≤ found.length
  done : ∀ j < at_, ∀ x r m, found[j]? = some x → rows[x]? = some r → some m ∈ r → m ∈ found
theorem Qu.size {rows starts found at_} (q : Qu rows starts found at_) (g : Good rows starts) : found.length ≤ rows.length := nodup_bound _ q.nd fun x hx => g.lt (q.rch x hx)
theorem Qu.all {rows starts found} (q : Qu rows starts found found.length) (g : Good rows starts) : ∀ x, x ∈ found ↔ Rch rows starts x := fun x => by
  refine ⟨q.rch x, fun h => ?_⟩
  induction h with
  | st h => exact q.sub _ h
  | @go k m r _ h1 h2 ih =>
    obtain ⟨j, hj, e⟩ := List.getElem_of_mem ih
    exact q.done j hj k r m (by rw [List.getElem?_eq_getElem hj, e]) h1 h2
section
variable {K : PySem.W.Frag} {A : Ex} {E : XK} {vs : List V} {L : AL} {Q : V → AL → Prop} {Ea : Value → AL → Prop}
theorem p_reach (he : ELe Ea E) (h : P_reach K A vs L Q Ea) : SS (t_reach K A E) { nx := fun _ L => Q .non L, rt := Q } (start N_reach vs) L := by
  obtain ⟨_, _, rfl, p, b, as, rows, starts, rfl, rfl, hR, hb, g, hz, q⟩ := h
  unfold t_reach
  walk_at "go"
  intro d
  walk_at "go"
  refine ⟨by decide, fun f => ?_⟩
  walk_at "go"
  refine s_forL ?_
  walk_at "go"
  refine ⟨b, starts.map nV, rfl, by walk_at "sq", fun i σ L' => ∃ v found, σ = [some (.ref p), some (.ref b), some (.ref d), some (.ref f), v, none, none] ∧ L' = pt f (.lst (found.map nV)) :: pt d (.dK (kvT found)) :: L ∧ found.Nodup ∧ (∀ s ∈ starts.take i, s ∈ found) ∧ (∀ x ∈ found, x ∈ starts), ?_, ?_, ?_, ?_⟩
  · exact ⟨none, [], rfl, rfl, List.nodup_nil, by simp, by simp⟩
  · rintro i σ L' _ ⟨v, found, rfl, rfl, _⟩
    walk_at "sq"
  · rintro i x σ L' hx ⟨v, found, rfl, rfl, hn, h1, h2⟩
    obtain ⟨s, hs, rfl⟩ := map_get hx
    have ht := take_snoc hs
    have hm : s ∈ starts := List.mem_of_getElem? hs
    have hl : found.length ≤ rows.length := nodup_bound _ hn fun x hx => g.st x (h2 x hx)
    have hL := g.len
    walk_at "go"
    refine ex_n (fun c => ?_) fun c => ?_
    · walk_at "go"
      refine ⟨_, _, _, _, rfl, rfl, by walk_at "has", small5 (by rw [kvT_len]; omega), by walk_at "wr", ?_⟩
      walk_at "go"
      refine r_append (by walk_at "has") (small5 (by rw [List.length_map]; omega)) (by walk_at "wr") ?_
      refine ⟨some (nV s), found ++ [s], rfl, by rw [kvT_put c, List.map_append]; rfl, nd_app hn c, ?_, ?_⟩
      · intro x hx
        rw [ht] at hx
        rcases List.mem_append.mp hx with h | h
        · exact List.mem_append_left _ (h1 x h)
        · exact List.mem_append_right _ h
      · intro x hx
        rcases List.mem_append.mp hx with h | h
        · exact h2 x h
        · rw [List.mem_singleton.mp h]; exact hm
    · walk_at "go"
      refine ⟨some (nV s), found, rfl, rfl, hn, ?_, h2⟩
      intro x hx
      rw [ht] at hx
      rcases List.mem_append.mp hx with h | h
      · exact h1 x h
      · rw [List.mem_singleton.mp h]; exact c
  rintro σ L' ⟨v, found, rfl, rfl, hn, h1, h2⟩
  rw [List.length_map, List.take_length] at h1
  have q0 : Qu rows starts found 0 := ⟨hn, h1, fun x hx => .st (h2 x hx), Nat.zero_le _, fun j hj => absurd hj (Nat.not_lt_zero _)⟩
  clear hn h1 h2
  walk_at "go"
  refine s_while (fun m σ L' => ∃ at_ found v6, σ = [some (.ref p), some (.ref b), some (.ref d), some (.ref f), v, some (nV at_), v6] ∧ L' = pt f (.lst (found.map nV)) :: pt d (.dK (kvT found)) :: L ∧ Qu rows starts found at_ ∧ m = rows.length - at_) ⟨_, 0, found, none, rfl, rfl, q0, rfl⟩ ?_
  clear q0
  rintro m σ L' ⟨at_, found, v6, rfl, rfl, qu, rfl⟩
  have hL := g.len
  have hs := qu.size g
  walk_at "go"
  refine ex_c (fun c => ?_) fun c => ?_
  · have hlt : at_ < found.length := by
      have c' : (at_ : Int) < ((found.map nV).length : Int) := c
      rw [List.length_map] at c'
      omega
    obtain ⟨x, hx⟩ : ∃ x, found[at_]? = some x := ⟨_, List.getElem?_eq_getElem hlt⟩
    have hxr := qu.rch x (List.mem_of_getElem? hx)
    have hxl := g.lt hxr
    obtain ⟨r, hr⟩ : ∃ r, rows[x]? = some r := ⟨_, List.getElem?_eq_getElem hxl⟩
    obtain ⟨a, ha⟩ : ∃ a, as[x]? = some a := ⟨_, List.getElem?_eq_getElem (by rw [hR.len]; exact hxl)⟩
    have hra := hR.row x a r ha hr
    have htop := hR.top
    walk_at "go"
    refine s_forL ?_
    walk_at "go"
    refine r_ixL (by walk_at "sq") (atI_nat (map_at nV hx)) ?_
    refine r_ixL (by walk_at "sq") (atI_nat (map_at V.ref ha)) ?_
    refine ⟨a, r.map oV, rfl, by walk_at "sq", fun i σ L' => ∃ found v6, σ = [some (.ref p), some (.ref b), some (.ref d), some (.ref f), v, some (nV at_), v6] ∧ L' = pt f (.lst (found.map nV)) :: pt d (.dK (kvT found)) :: L ∧ Qu rows starts found at_ ∧ found[at_]? = some x ∧ ∀ m, some m ∈ r.take i → m ∈ found, ?_, ?_, ?_, ?_⟩
    · exact ⟨found, v6, rfl, rfl, qu, hx, by simp⟩
    · rintro i σ L' _ ⟨found, v6, rfl, rfl, _⟩
      walk_at "sq"
    · clear qu hx hs hlt c
      rintro i z σ L' hz ⟨found, v6, rfl, rfl, qu, hx, hm⟩
      obtain ⟨o, ho, rfl⟩ := map_get hz
      have ht := take_snoc ho
      have hs := qu.size g
      walk_at "go"
      cases o with
      | none =>
        refine ⟨_, rfl, both_f (both_f ?_)⟩
        walk_at "go"
        refine ⟨found, _, rfl, rfl, qu, hx, fun m hmm => hm m ?_⟩
        rw [ht] at hmm
        simpa using hmm
      | some m =>
        refine ⟨_, rfl, both_t ?_⟩
        walk_at "go"
        refine ex_n (fun c => ?_) fun c => ?_
        · walk_at "go"
          refine ⟨_, _, _, _, rfl, rfl, by walk_at "has", small5 (by rw [kvT_len]; omega), by walk_at "wr", ?_⟩
          walk_at "go"
          refine r_append (by walk_at "has") (small5 (by rw [List.length_map]; omega)) (by walk_at "wr") ?_
          have hat : ∀ j, j ≤ at_ → (found ++ [m])[j]? = found[j]? := fun j hj => List.getElem?_append_left (by have := (List.getElem?_eq_some_iff.mp hx).1; omega)
          refine ⟨found ++ [m], some (nV m), rfl, by rw [kvT_put c, List.map_append]; rfl, ⟨nd_app qu.nd c, fun s hs => List.mem_append_left _ (qu.sub s hs), ?_, ?_, ?_⟩, ?_, ?_⟩
          · intro y hy
            rcases List.mem_append.mp hy with h | h
            · exact qu.rch y h
            · rw [List.mem_singleton.mp h]
              exact .go hxr hr (List.mem_of_getElem? ho)
          · have := qu.le
            rw [List.length_append]; omega
          · intro j hj y r' m' e1 e2 e3
            rw [hat j (by omega)] at e1
            exact List.mem_append_left _ (qu.done j hj y r' m' e1 e2 e3)
          · rw [hat at_ (Nat.le_refl _)]; exact hx
          · intro m' hm'
            rw [ht] at hm'
            rcases List.mem_append.mp hm' with h | h
            · exact List.mem_append_left _ (hm m' h)
            · have := Option.some.inj (List.mem_singleton.mp h)
              rw [this]
              exact List.mem_append_right _ (List.mem_singleton.mpr rfl)
        · walk_at "go"
          refine ⟨found, _, rfl, rfl, qu, hx, fun m' hm' => ?_⟩
          rw [ht] at hm'
          rcases List.mem_append.mp hm' with h | h
          · exact hm m' h
          · rw [Option.some.inj (List.mem_singleton.mp h)]; exact c
    · clear qu hx hs hlt c
      rintro σ L' ⟨found, v6, rfl, rfl, qu, hx, hm⟩
      have hlt := (List.getElem?_eq_some_iff.mp hx).1
      have hs := qu.size g
      rw [List.length_map, List.take_length] at hm
      refine s_aug (x := (at_ : Int)) rfl ?_
      walk_at "go"
      refine ⟨1, rfl, rows.length - (at_ + 1), by omega, at_ + 1, found, v6, rfl, rfl, ⟨qu.nd, qu.sub, qu.rch, by omega, ?_⟩, rfl⟩
      intro j hj y r' m' e1 e2 e3
      by_cases c : j = at_
      · subst c
        rw [hx] at e1; cases e1
        rw [hr] at e2; cases e2
        exact hm m' e3
      · exact qu.done j (by omega) y r' m' e1 e2 e3
  · have he : at_ = found.length := by
      have c' : ¬ (at_ : Int) < ((found.map nV).length : Int) := c
      rw [List.length_map] at c'
      have := qu.le
      omega
    subst he
    walk_at "go"
    refine r_post (c_sortedN (by walk_at "sq") (reachF_of g qu.nd (qu.all g)) (reachF_sorted _ _) fun d' => ⟨_, Ent.cons (Ent.drop.trans Ent.drop), q d'⟩)
end
/-! ### the law's own way: all rows again and again -/
def cntF (bs : List Bool) : Nat := bs.count false
theorem cntF_set : ∀ {bs : List Bool} {i : Nat}, bs[i]? = some false → cntF (bs.set i true) + 1 = cntF bs
  | [], i, h => by simp at h
  | b :: bs, 0, h => by
    have e : b = false := Option.some.inj h
    subst e
    simp [cntF, List.count_cons]
  | b :: bs, i + 1, h => by
    have ih := cntF_set (bs := bs) (i := i) h
    unfold cntF at *
    rw [List.set_cons_succ, List.count_cons, List.count_cons]
    omega
def P_law_came (K : PySem.W.Frag) (_ : Ex) : Pm := pm2 fun x y L Q _ => ∃ (p b : Addr) (as : List Addr) (rows : List (List (Option Nat))) (starts : List Nat), x = .ref p ∧ y = .ref b ∧ RdRows K L p as rows ∧ SqA K L b (starts.map nV) ∧ Good rows starts ∧ starts.length ≤ 100000 ∧
  ∀ d L', Ent L' L → Q (.ref d) (pt d (.lst ((reachF rows starts).map nV)) :: L')
def N_law_came : List Str := ["_law_rows_here", "_law_starts", "_law_came_here", "_law_one", "_law_fresh", "_law_k", "_law_row"]
def t_law_came (K : PySem.W.Frag) (A : Ex) (E : XK) : TS :=
    (tSeq (tAsg (tLc (iList K (tVar 0)) (gName 6) tYes (tC (.bl false)) [6]) (gName 2))
    (tSeq (tFor (iList K (tVar 1)) (gName 3)
      (tAsg (tC (.bl true)) (gSub (tVar 2) (tVar 3) rSetL)))
    (tSeq (tAsg (tC (.bl true)) (gName 4))
    (tSeq (tWhile (tB (tVar 4))
      (tSeq (tAsg (tC (.bl false)) (gName 4))
    (tFor (iRng1 (tCons (tCB (rLen K) (tCons (tVar 0) tNil)) tNil)) (gName 5)
      (tFor (iList K (tOp (rIxL K) (tVar 0) (tVar 5))) (gName 3)
      (tIfS (tAnd (tTruth K (tOp (rIxL K) (tVar 2) (tVar 5))) (tAnd (tTest (tOp rNotNo (tVar 3) (tC .non))) (tNot (tTruth K (tOp (rIxL K) (tVar 2) (tVar 3)))))) (tSeq (tAsg (tC (.bl true)) (gSub (tVar 2) (tVar 3) rSetL))
    (tAsg (tC (.bl true)) (gName 4))) tNext)))))
    (tRet (tLc (iRng1 (tCons (tCB (rLen K) (tCons (tVar 0) tNil)) tNil)) (gName 5) (tTruth K (tOp (rIxL K) (tVar 2) (tVar 5))) (tVar 5) [5]))))))
/-- what is known of the row of marks -/
structure Mk1 (rows : List (List (Option Nat))) (starts : List Nat) (bs : List Bool) : Prop where
  len : bs.length = rows.length
  snd : ∀ k : Nat, bs[k]? = some true → Rch rows starts k
theorem Mk1.put {rows starts bs} (m : Mk1 rows starts bs) {k : Nat} (h : Rch rows starts k) : Mk1 rows starts (bs.set k true) := by
  refine ⟨by rw [List.length_set]; exact m.len, fun j hj => ?_⟩
  by_cases c : k = j
  · subst c; exact h
  · rw [List.getElem?_set_ne c] at hj
    exact m.snd j hj
theorem getSet {bs : List Bool} {k j : Nat} (h : bs[j]? = some true) : (bs.set k true)[j]? = some true := by
  have hl := (List.getElem?_eq_some_iff.mp h).1
  by_cases c : k = j
  · subst c; exact List.getElem?_set_self hl
  · rw [List.getElem?_set_ne c]; exact h
def Clo (rows : List (List (Option Nat))) (n : Nat) (bs : List Bool) : Prop := ∀ k m r, k < n → bs[k]? = some true → rows[k]? = some r → some m ∈ r → bs[m]? = some true
theorem came_end {rows starts bs} (g : Good rows starts) (m : Mk1 rows starts bs) (hs : ∀ s ∈ starts, bs[s]? = some true) (hc : Clo rows rows.length bs) :
    (List.range rows.length).filter (fun k => bs.getD k false) = reachF rows starts := by
  have all : ∀ k, Rch rows starts k → bs[k]? = some true := fun k h => by
    induction h with
    | st h => exact hs _ h
    | @go k j r h0 h1 h2 ih => exact hc k j r (g.lt h0) ih h1 h2
  unfold reachF
  refine List.filter_congr fun k hk => ?_
  rw [List.getD_eq_getElem?_getD]
  by_cases c : Rch rows starts k
  · rw [all k c, (@decide_eq_true_iff _ (Classical.propDecidable _)).mpr c]; rfl
  · rw [(@decide_eq_false_iff_not _ (Classical.propDecidable _)).mpr c]
    cases e : bs[k]? with
    | none => rfl
    | some b =>
      cases b with
      | true => exact absurd (m.snd k e) c
      | false => rfl
section
variable {K : PySem.W.Frag} {A : Ex} {E : XK} {vs : List V} {L : AL} {Q : V → AL → Prop} {Ea : Value → AL → Prop}
theorem p_law_came (he : ELe Ea E) (h : P_law_came K A vs L Q Ea) : SS (t_law_came K A E) { nx := fun _ L => Q .non L, rt := Q } (start N_law_came vs) L := by
  obtain ⟨_, _, rfl, p, b, as, rows, starts, rfl, rfl, hR, hb, g, hz, q⟩ := h
  have htop := hR.top
  have hlen := hR.len
  have hn := g.len
  have hal : (as.map V.ref).length = rows.length := by rw [List.length_map]; exact hlen
  unfold t_law_came
  walk_at "go"
  -- [False for ..]
  refine e_lcPlainL (a0 := p) (xs := as.map V.ref) (fun _ => true) (fun _ => .bl false) (by omega) (fun _ => rfl) (by walk_at "go"; exact ⟨rfl, rfl⟩) htop (fun x _ L' _ => t_yes ⟨rfl, rfl⟩) (fun x _ _ L' _ => e_c ⟨rfl, rfl⟩) fun c => ?_
  have e0 : (((as.map V.ref).filter fun _ => true).map fun _ => V.bl false) = (List.replicate rows.length false).map V.bl := by
    rw [List.filter_eq_self.mpr (fun _ _ => rfl), List.map_replicate]
    refine List.eq_replicate_iff.mpr ⟨by rw [List.length_map]; exact hal, fun x hx => ?_⟩
    obtain ⟨_, _, e⟩ := List.mem_map.mp hx
    exact e.symm
  rw [e0]
  walk_at "go"
  -- the starts
  refine s_forL ?_
  walk_at "go"
  refine ⟨b, starts.map nV, rfl, by walk_at "sq", fun i σ L' => ∃ v bs, σ = [some (.ref p), some (.ref b), some (.ref c), v, none, none, none] ∧ L' = pt c (.lst (bs.map V.bl)) :: L ∧ Mk1 rows starts bs ∧ ∀ s ∈ starts.take i, bs[s]? = some true, ?_, ?_, ?_, ?_⟩
  · refine ⟨none, _, rfl, rfl, ⟨List.length_replicate, fun k hk => ?_⟩, by simp⟩
    have hl := (List.getElem?_eq_some_iff.mp hk).1
    rw [List.length_replicate] at hl
    rw [List.getElem?_replicate, if_pos hl] at hk
    cases hk
  · rintro i σ L' _ ⟨v, bs, rfl, rfl, _⟩
    walk_at "sq"
  · rintro i x σ L' hx ⟨v, bs, rfl, rfl, m1, h1⟩
    obtain ⟨s, hs, rfl⟩ := map_get hx
    have ht := take_snoc hs
    have hm : s ∈ starts := List.mem_of_getElem? hs
    have hsl : s < bs.length := by rw [m1.len]; exact g.st s hm
    walk_at "go"
    refine r_setL (by walk_at "has") (ixN_nat (by rw [List.length_map]; exact hsl)) (by walk_at "wr") ?_
    refine ⟨some (nV s), bs.set s true, rfl, by rw [List.map_set], m1.put (.st hm), fun y hy => ?_⟩
    rw [ht] at hy
    rcases List.mem_append.mp hy with h | h
    · exact getSet (h1 y h)
    · rw [List.mem_singleton.mp h]; exact List.getElem?_set_self hsl
  rintro σ L' ⟨v, bs, rfl, rfl, m1, h1⟩
  rw [List.length_map, List.take_length] at h1
  walk_at "go"
  -- again and again
  refine s_while (fun m σ L' => ∃ v fr v5 v6 bs, σ = [some (.ref p), some (.ref b), some (.ref c), v, some (.bl fr), v5, v6] ∧ L' = pt c (.lst (bs.map V.bl)) :: L ∧ Mk1 rows starts bs ∧ (∀ s ∈ starts, bs[s]? = some true) ∧ (fr = false → Clo rows rows.length bs) ∧ m = cntF bs + if fr then 1 else 0)
    ⟨_, v, true, none, none, bs, rfl, rfl, m1, h1, (fun z => nomatch z), rfl⟩ ?_
  clear h1 m1
  rintro m σ L' ⟨v, fr, v5, v6, bs0, rfl, rfl, m0, h0, hc0, rfl⟩
  walk_at "go"
  refine ⟨fr, rfl, fun hfr => ?_, fun hfr => ?_⟩
  · subst hfr
    walk_at "go"
    refine s_forR1 ?_
    walk_at "go"
    refine ⟨_, rfl, by omega, by omega, fun i σ L' => ∃ v fr v5 v6 bs, σ = [some (.ref p), some (.ref b), some (.ref c), v, some (.bl fr), v5, v6] ∧ L' = pt c (.lst (bs.map V.bl)) :: L ∧ Mk1 rows starts bs ∧ (∀ s ∈ starts, bs[s]? = some true) ∧
      (fr = false → Clo rows i bs) ∧ cntF bs ≤ cntF bs0 ∧ (fr = true → cntF bs < cntF bs0), ?_, ?_, ?_⟩
    · exact ⟨v, false, v5, v6, bs0, rfl, rfl, m0, h0, fun _ k _ _ hk => absurd hk (Nat.not_lt_zero _), Nat.le_refl _, (fun z => nomatch z)⟩
    · clear m0 h0 hc0
      rintro i σ L' hi ⟨v, fr, v5, v6, bs, rfl, rfl, m1, h1, hc1, hle, hlt⟩
      have hi' : i < rows.length := by omega
      obtain ⟨r, hr⟩ : ∃ r, rows[i]? = some r := ⟨_, List.getElem?_eq_getElem hi'⟩
      obtain ⟨a, ha⟩ : ∃ a, as[i]? = some a := ⟨_, List.getElem?_eq_getElem (by rw [hlen]; exact hi')⟩
      have hra := hR.row i a r ha hr
      refine s_forL ?_
      walk_at "go"
      refine r_ixL (by walk_at "sq") (atI_nat (map_at V.ref ha)) ?_
      refine ⟨a, r.map oV, rfl, by walk_at "sq", fun j σ L' => ∃ v fr v6 bs, σ = [some (.ref p), some (.ref b), some (.ref c), v, some (.bl fr), some (nV i), v6] ∧ L' = pt c (.lst (bs.map V.bl)) :: L ∧ Mk1 rows starts bs ∧ (∀ s ∈ starts, bs[s]? = some true) ∧
        (fr = false → Clo rows i bs ∧ (bs[i]? = some true → ∀ m, some m ∈ r.take j → bs[m]? = some true)) ∧ cntF bs ≤ cntF bs0 ∧ (fr = true → cntF bs < cntF bs0), ?_, ?_, ?_, ?_⟩
      · exact ⟨v, fr, v6, bs, rfl, rfl, m1, h1, fun z => ⟨hc1 z, fun _ => by simp⟩, hle, hlt⟩
      · rintro j σ L' _ ⟨v, fr, v6, bs, rfl, rfl, _⟩
        walk_at "sq"
      · clear m1 h1 hc1 hle hlt
        rintro j z σ L' hz ⟨v, fr, v6, bs, rfl, rfl, m1, h1, hc1, hle, hlt⟩
        obtain ⟨o, ho, rfl⟩ := map_get hz
        have ht := take_snoc ho
        have hib : i < bs.length := by rw [m1.len]; exact hi'
        obtain ⟨bi, hbi⟩ : ∃ bi, bs[i]? = some bi := ⟨_, List.getElem?_eq_getElem hib⟩
        walk_at "go"
        refine r_ixL (by walk_at "sq") (atI_nat (map_at V.bl hbi)) ?_
        refine ⟨bi, fun _ _ => rfl, fun c => ?_, fun c => ?_⟩
        · subst c
          walk_at "go"
          cases o with
          | none =>
            refine ⟨_, rfl, both_f (both_f ?_)⟩
            walk_at "go"
            refine ⟨_, fr, v6, bs, rfl, rfl, m1, h1, fun z => ⟨(hc1 z).1, fun y m hm => (hc1 z).2 y m ?_⟩, hle, hlt⟩
            rw [ht] at hm
            simpa using hm
          | some m =>
            have hmr : m < rows.length := g.row i m r hr (List.mem_of_getElem? ho)
            obtain ⟨bm, hbm⟩ : ∃ bm, bs[m]? = some bm := ⟨_, List.getElem?_eq_getElem (by rw [m1.len]; exact hmr)⟩
            refine ⟨_, rfl, both_t ?_⟩
            walk_at "go"
            refine r_ixL (by walk_at "sq") (atI_nat (map_at V.bl hbm)) ?_
            refine ⟨bm, fun _ _ => rfl, ?_⟩
            cases bm with
            | false =>
              refine both_t ?_
              walk_at "go"
              refine r_setL (by walk_at "has") (ixN_nat (by rw [List.length_map, m1.len]; exact hmr)) (by walk_at "wr") ?_
              walk_at "go"
              have hcs := cntF_set hbm
              refine ⟨_, true, v6, bs.set m true, rfl, by rw [List.map_set], m1.put (.go (m1.snd i hbi) hr (List.mem_of_getElem? ho)), fun s hs => getSet (h1 s hs), (fun z => nomatch z), by omega, fun _ => by omega⟩
            | true =>
              refine both_f ?_
              walk_at "go"
              refine ⟨_, fr, v6, bs, rfl, rfl, m1, h1, fun z => ⟨(hc1 z).1, fun y m' hm => ?_⟩, hle, hlt⟩
              rw [ht] at hm
              rcases List.mem_append.mp hm with h | h
              · exact (hc1 z).2 y m' h
              · rw [Option.some.inj (List.mem_singleton.mp h)]; exact hbm
        · subst c
          refine both_f ?_
          walk_at "go"
          refine ⟨_, fr, v6, bs, rfl, rfl, m1, h1, fun z => ⟨(hc1 z).1, fun y => ?_⟩, hle, hlt⟩
          rw [hbi] at y
          cases y
      · clear m1 h1 hc1 hle hlt
        rintro σ L' ⟨v, fr, v6, bs, rfl, rfl, m1, h1, hc1, hle, hlt⟩
        rw [List.length_map, List.take_length] at hc1
        refine ⟨v, fr, _, v6, bs, rfl, rfl, m1, h1, fun z k m r' hk hb' hr' hm => ?_, hle, hlt⟩
        by_cases c : k = i
        · subst c
          rw [hr] at hr'; cases hr'
          exact (hc1 z).2 hb' m hm
        · exact (hc1 z).1 k m r' (by omega) hb' hr' hm
    · clear m0 h0 hc0
      rintro σ L' ⟨v, fr, v5, v6, bs, rfl, rfl, m1, h1, hc1, hle, hlt⟩
      have e : ((as.map V.ref).length : Int).toNat = rows.length := by omega
      rw [e] at hc1
      refine ⟨_, ?_, v, fr, v5, v6, bs, rfl, rfl, m1, h1, hc1, rfl⟩
      cases fr with
      | true =>
        have := hlt rfl
        show cntF bs + 1 < cntF bs0 + 1
        omega
      | false =>
        show cntF bs + 0 < cntF bs0 + 1
        omega
  · walk_at "go"
    refine e_lcPlainR rows.length (fun k => bs0.getD k false) nV hn (fun _ => rfl) ?_ ?_ ?_ ?_
    · walk_at "go"
      refine ⟨by rw [hal], rfl⟩
    · intro i hi L' en
      obtain ⟨bi, hbi⟩ : ∃ bi, bs0[i]? = some bi := ⟨_, List.getElem?_eq_getElem (by rw [m0.len]; exact hi)⟩
      have hs : SqA K L' c (bs0.map V.bl) := SqA.ent (Has.sq has_hd) en
      refine t_tru ?_
      walk_at "go"
      refine r_ixL hs (atI_nat (map_at V.bl hbi)) ?_
      exact ⟨bi, fun _ _ => rfl, by rw [List.getD_eq_getElem?_getD, hbi]; rfl, rfl⟩
    · intro i hi _ L' en
      walk_at "go"
      exact ⟨rfl, rfl⟩
    · intro d
      rw [came_end g m0 h0 (hc0 hfr)]
      exact q d _ Ent.drop
end
/-! law_k01: the rows that the law builds, the law. -/
/-! ### the rows that the law builds -/
def f1 (ns : List Int) (n i : Nat) : List (Option Nat) := [some (if (n : Int) - 1 < (i : Int) + 1 + cell ns 1 / 9 % 2 then (n : Int) - 1 else (i : Int) + 1 + cell ns 1 / 9 % 2).toNat]
def f2 (ns : List Int) (n i : Nat) : List (Option Nat) := [some (((i : Int) + 1 + cell ns 1 / 9 % 7) % (n : Int)).toNat]
def rowIt (n : Nat) (c : Int) : Nat → Int × List (Option Nat)
  | 0 => (c, [])
  | t + 1 =>
    let st := rowIt n c t
    let c' := st.1 / ((n : Int) + 1)
    (c', st.2 ++ [if c' % ((n : Int) + 1) = (n : Int) then none else some (c' % ((n : Int) + 1)).toNat])
def f3 (ns : List Int) (n i : Nat) : List (Option Nat) := (rowIt n (cell ns (3 + (i : Int))) (cell ns (3 + (i : Int)) % 5).toNat).2
def rowF (ns : List Int) (n : Nat) : Nat → List (Option Nat) := if cell ns 1 % 9 = 4 then f1 ns n else if cell ns 1 % 3 = 1 then f2 ns n else f3 ns n
def rowsOf (ns : List Int) (n : Nat) : List (List (Option Nat)) := (List.range n).map (rowF ns n)
theorem rowIt_lt {n : Nat} {c : Int} : ∀ {t m : Nat}, some m ∈ (rowIt n c t).2 → m < n
  | 0, m, h => by simp [rowIt] at h
  | t + 1, m, h => by
    have h' : some m ∈ (rowIt n c t).2 ++ [if (rowIt n c t).1 / ((n : Int) + 1) % ((n : Int) + 1) = (n : Int) then none else some ((rowIt n c t).1 / ((n : Int) + 1) % ((n : Int) + 1)).toNat] := h
    rcases List.mem_append.mp h' with h | h
    · exact rowIt_lt h
    · have e := List.mem_singleton.mp h
      have h1 := Int.emod_nonneg ((rowIt n c t).1 / ((n : Int) + 1)) (show ((n : Int) + 1) ≠ 0 by omega)
      have h2 := Int.emod_lt_of_pos ((rowIt n c t).1 / ((n : Int) + 1)) (show 0 < ((n : Int) + 1) by omega)
      by_cases q : (rowIt n c t).1 / ((n : Int) + 1) % ((n : Int) + 1) = (n : Int)
      · rw [if_pos q] at e; cases e
      · rw [if_neg q] at e
        have := Option.some.inj e
        omega
theorem rowIt_len {n : Nat} {c : Int} : ∀ t, (rowIt n c t).2.length = t
  | 0 => rfl
  | t + 1 => by
    show ((rowIt n c t).2 ++ [_]).length = t + 1
    rw [List.length_append, rowIt_len t]
    rfl
theorem rowF_lt {ns : List Int} {n i m : Nat} (hi : i < n) (h : some m ∈ rowF ns n i) : m < n := by
  unfold rowF at h
  by_cases c1 : cell ns 1 % 9 = 4
  · rw [if_pos c1] at h
    unfold f1 at h
    have e := Option.some.inj (List.mem_singleton.mp h)
    have h1 := Int.emod_nonneg (cell ns 1 / 9) (show (2 : Int) ≠ 0 by decide)
    split at e <;> omega
  · rw [if_neg c1] at h
    by_cases c2 : cell ns 1 % 3 = 1
    · rw [if_pos c2] at h
      unfold f2 at h
      have e := Option.some.inj (List.mem_singleton.mp h)
      have h1 := Int.emod_nonneg ((i : Int) + 1 + cell ns 1 / 9 % 7) (show (n : Int) ≠ 0 by omega)
      have h2 := Int.emod_lt_of_pos ((i : Int) + 1 + cell ns 1 / 9 % 7) (show 0 < (n : Int) by omega)
      omega
    · rw [if_neg c2] at h
      exact rowIt_lt h
theorem rowsOf_len (ns : List Int) (n : Nat) : (rowsOf ns n).length = n := by unfold rowsOf; rw [List.length_map, List.length_range]
theorem rowsOf_at {ns : List Int} {n k : Nat} {r : List (Option Nat)} (h : (rowsOf ns n)[k]? = some r) : k < n ∧ r = rowF ns n k := by
  obtain ⟨i, hi, e⟩ := map_get h
  have hl := (List.getElem?_eq_some_iff.mp hi).1
  rw [List.length_range] at hl
  rw [List.getElem?_range hl] at hi
  cases hi
  exact ⟨hl, e.symm⟩
def P_law_rows (K : PySem.W.Frag) (_ : Ex) : Pm := pm2 fun x y L Q _ => ∃ (a : Addr) (ns : List Int) (n : Nat), x = .ref a ∧ y = nV n ∧ SqA K L a (ns.map V.int) ∧ n ≤ 300 ∧ ∀ d as, as.length = n → Q (.ref d) (RowsA d as (rowsOf ns n) :: L)
def N_law_rows : List Str := ["_law_script", "_law_size", "_law_rows_here", "_law_k", "_law_cell", "_law_row", "_law_turn"]
def t_law_rows (K : PySem.W.Frag) (A : Ex) (E : XK) : TS :=
    (tSeq (tIfS (tTest (tOp rEq (tOp rModI (tCall (lift (P_law_cell_at K A)) [] E0 (tCons (tVar 0) (tCons (tC (.int 1)) tNil))) (tC (.int 9))) (tC (.int 4)))) (tRet (tLc (iRng1 (tCons (tVar 1) tNil)) (gName 3) tYes (tLst (tCons (tCB rMin2 (tCons (tOp rAddI (tOp rAddI (tVar 3) (tC (.int 1))) (tOp rModI (tOp rDivI (tCall (lift (P_law_cell_at K A)) [] E0 (tCons (tVar 0) (tCons (tC (.int 1)) tNil))) (tC (.int 9))) (tC (.int 2)))) (tCons (tOp rSubI (tVar 1) (tC (.int 1))) tNil))) tNil)) [3])) tNext)
    (tSeq (tIfS (tTest (tOp rEq (tOp rModI (tCall (lift (P_law_cell_at K A)) [] E0 (tCons (tVar 0) (tCons (tC (.int 1)) tNil))) (tC (.int 3))) (tC (.int 1)))) (tRet (tLc (iRng1 (tCons (tVar 1) tNil)) (gName 3) tYes (tLst (tCons (tOp rModI (tOp rAddI (tOp rAddI (tVar 3) (tC (.int 1))) (tOp rModI (tOp rDivI (tCall (lift (P_law_cell_at K A)) [] E0 (tCons (tVar 0) (tCons (tC (.int 1)) tNil))) (tC (.int 9))) (tC (.int 7)))) (tVar 1)) tNil)) [3])) tNext)
    (tSeq (tAsg (tLst tNil) (gName 2))
    (tSeq (tFor (iRng1 (tCons (tVar 1) tNil)) (gName 3)
      (tSeq (tAsg (tCall (lift (P_law_cell_at K A)) [] E0 (tCons (tVar 0) (tCons (tOp rAddI (tC (.int 3)) (tVar 3)) tNil))) (gName 4))
    (tSeq (tAsg (tLst tNil) (gName 5))
    (tSeq (tFor (iRng1 (tCons (tOp rModI (tVar 4) (tC (.int 5))) tNil)) (gName 6)
      (tSeq (tAsg (tOp rDivI (tVar 4) (tOp rAddI (tVar 1) (tC (.int 1)))) (gName 4))
    (tIfS (tTest (tOp rEq (tOp rModI (tVar 4) (tOp rAddI (tVar 1) (tC (.int 1)))) (tVar 1))) (tDrop (tBM K "list" rAppend (tVar 5) (tCons (tC .non) tNil))) (tDrop (tBM K "list" rAppend (tVar 5) (tCons (tOp rModI (tVar 4) (tOp rAddI (tVar 1) (tC (.int 1)))) tNil))))))
    (tDrop (tBM K "list" rAppend (tVar 2) (tCons (tVar 5) tNil)))))))
    (tRet (tVar 2))))))
def sizeOf (ns : List Int) : Nat := if cell ns 1 % 9 = 4 then (1 + cell ns 0 / 41 % 300).toNat else (cell ns 0 % 41).toNat
theorem sizeOf_le (ns : List Int) : sizeOf ns ≤ 300 := by
  unfold sizeOf
  have h1 := Int.emod_lt_of_pos (cell ns 0 / 41) (show (0 : Int) < 300 by decide)
  have h2 := Int.emod_lt_of_pos (cell ns 0) (show (0 : Int) < 41 by decide)
  split <;> omega
def startsOf (ns : List Int) (n : Nat) : List Nat := if n = 0 then [] else
  ([(cell ns 2 / 4 % (n : Int)).toNat, (cell ns 2 / 4 / (n : Int) % (n : Int)).toNat, (cell ns 2 / 4 % (n : Int)).toNat]).take (cell ns 2 % 4).toNat
theorem startsOf_good (ns : List Int) : Good (rowsOf ns (sizeOf ns)) (startsOf ns (sizeOf ns)) := by
  refine ⟨fun s hs => ?_, fun k m r hr hm => ?_, ?_⟩
  · rw [rowsOf_len]
    unfold startsOf at hs
    split at hs
    · cases hs
    · rename_i hn
      have hm := List.mem_of_mem_take hs
      have p : (0 : Int) < (sizeOf ns : Int) := by omega
      have a1 := Int.emod_lt_of_pos (cell ns 2 / 4) p
      have a2 := Int.emod_lt_of_pos (cell ns 2 / 4 / (sizeOf ns : Int)) p
      have b1 := Int.emod_nonneg (cell ns 2 / 4) (show (sizeOf ns : Int) ≠ 0 by omega)
      have b2 := Int.emod_nonneg (cell ns 2 / 4 / (sizeOf ns : Int)) (show (sizeOf ns : Int) ≠ 0 by omega)
      simp only [List.mem_cons, List.not_mem_nil, or_false] at hm
      rcases hm with h | h | h <;> omega
  · rw [rowsOf_len]
    obtain ⟨hk, rfl⟩ := rowsOf_at hr
    exact rowF_lt hk hm
  · rw [rowsOf_len]
    have := sizeOf_le ns
    omega
def N_law : List Str := ["_law_script", "_law_size", "_law_rows_here", "_law_cell", "_law_starts", "_law_handed", "_law_begun", "_law_found", "_law_k", "_law_row"]
def t_law (K : PySem.W.Frag) (A : Ex) (E : XK) : TS :=
    (tSeq (tAsg (tOp rModI (tCall (lift (P_law_cell_at K A)) [] E0 (tCons (tVar 0) (tCons (tC (.int 0)) tNil))) (tC (.int 41))) (gName 1))
    (tSeq (tIfS (tTest (tOp rEq (tOp rModI (tCall (lift (P_law_cell_at K A)) [] E0 (tCons (tVar 0) (tCons (tC (.int 1)) tNil))) (tC (.int 9))) (tC (.int 4)))) (tAsg (tOp rAddI (tC (.int 1)) (tOp rModI (tOp rDivI (tCall (lift (P_law_cell_at K A)) [] E0 (tCons (tVar 0) (tCons (tC (.int 0)) tNil))) (tC (.int 41))) (tC (.int 300)))) (gName 1)) tNext)
    (tSeq (tAsg (tCall (lift (P_law_rows K A)) [] E0 (tCons (tVar 0) (tCons (tVar 1) tNil))) (gName 2))
    (tSeq (tAsg (tCall (lift (P_law_cell_at K A)) [] E0 (tCons (tVar 0) (tCons (tC (.int 2)) tNil))) (gName 3))
    (tSeq (tAsg (tLst tNil) (gName 4))
    (tSeq (tIfS (tTest (tOp rGtI (tVar 1) (tC (.int 0)))) (tAsg (tSl (rSlL K) (tLst (tCons (tOp rModI (tOp rDivI (tVar 3) (tC (.int 4))) (tVar 1)) (tCons (tOp rModI (tOp rDivI (tOp rDivI (tVar 3) (tC (.int 4))) (tVar 1)) (tVar 1)) (tCons (tOp rModI (tOp rDivI (tVar 3) (tC (.int 4))) (tVar 1)) tNil)))) tNoPart (tPart (tOp rModI (tVar 3) (tC (.int 4))))) (gName 4)) tNext)
    (tSeq (tAsg (tLc (iList K (tVar 2)) (gName 9) tYes (tCB (rListOf K) (tCons (tVar 9) tNil)) [9]) (gName 5))
    (tSeq (tAsg (tCB (rListOf K) (tCons (tVar 4) tNil)) (gName 6))
    (tSeq (tAsg (tCall (lift (P_reach K A)) [] E0 (tCons (tVar 5) (tCons (tVar 6) tNil))) (gName 7))
    (tSeq (tIfS (tNot (tB (tCall (lift (P_law_numbers K A)) [] E0 (tCons (tVar 7) (tCons (tCall (lift (P_law_came K A)) [] E0 (tCons (tVar 2) (tCons (tVar 4) tNil))) tNil))))) (tRet (tC (.bl false))) tNext)
    (tSeq (tIfS (tOr (tTest (tOp rNe (tCB (rLen K) (tCons (tVar 5) tNil)) (tCB (rLen K) (tCons (tVar 2) tNil)))) (tNot (tB (tCall (lift (P_law_numbers K A)) [] E0 (tCons (tVar 6) (tCons (tVar 4) tNil)))))) (tRet (tC (.bl false))) tNext)
    (tSeq (tFor (iRng1 (tCons (tCB (rLen K) (tCons (tVar 2) tNil)) tNil)) (gName 8)
      (tIfS (tNot (tB (tCall (lift (P_law_numbers K A)) [] E0 (tCons (tOp (rIxL K) (tVar 5) (tVar 8)) (tCons (tOp (rIxL K) (tVar 2) (tVar 8)) tNil))))) (tRet (tC (.bl false))) tNext))
    (tRet (tC (.bl true)))))))))))))))
section
variable {K : PySem.W.Frag} {A : Ex} {E : XK} {vs : List V} {L : AL} {Q : V → AL → Prop} {Ea : Value → AL → Prop}
theorem p_law_rows (he : ELe Ea E) (h : P_law_rows K A vs L Q Ea) : SS (t_law_rows K A E) { nx := fun _ L => Q .non L, rt := Q } (start N_law_rows vs) L := by
  obtain ⟨_, _, rfl, a, ns, n, rfl, rfl, hq, hn, q⟩ := h
  unfold t_law_rows
  walk_at "go"
  refine ex_c (fun c => ?_) fun c => ?_
  · have c1 : cell ns 1 % 9 = 4 := V.int.inj c
    walk_at "go"
    refine e_lcRowsR n (f1 ns n) (by omega) (fun _ => rfl) (by walk_at "go"; exact ⟨rfl, rfl⟩) (fun i hi L' en => ?_) fun d as hl => ?_
    · have hq' := hq.ent en
      walk_at "go"
      refine ⟨by show 1 ≤ sizeLine; decide, fun p => ⟨p, rfl, ?_⟩⟩
      have h1 := Int.emod_nonneg (cell ns 1 / 9) (show (2 : Int) ≠ 0 by decide)
      have h2 : 0 ≤ (if (n : Int) - 1 < (i : Int) + 1 + cell ns 1 / 9 % 2 then (n : Int) - 1 else (i : Int) + 1 + cell ns 1 / 9 % 2) := by split <;> omega
      show _ = pt p (.lst [nV _]) :: L'
      rw [nV_toNat h2]
    · have e : rowsOf ns n = (List.range n).map (f1 ns n) := by unfold rowsOf rowF; rw [if_pos c1]
      rw [← e]
      exact q d as hl
  have c1 : ¬ cell ns 1 % 9 = 4 := fun z => c (by rw [z])
  walk_at "go"
  refine ex_c (fun c => ?_) fun c => ?_
  · have c2 : cell ns 1 % 3 = 1 := V.int.inj c
    walk_at "go"
    refine e_lcRowsR n (f2 ns n) (by omega) (fun _ => rfl) (by walk_at "go"; exact ⟨rfl, rfl⟩) (fun i hi L' en => ?_) fun d as hl => ?_
    · have hq' := hq.ent en
      walk_at "go"
      refine ⟨by show 1 ≤ sizeLine; decide, fun p => ⟨p, rfl, ?_⟩⟩
      show _ = pt p (.lst [nV _]) :: L'
      rw [nV_toNat (Int.emod_nonneg _ (by omega))]
    · have e : rowsOf ns n = (List.range n).map (f2 ns n) := by unfold rowsOf rowF; rw [if_neg c1, if_pos c2]
      rw [← e]
      exact q d as hl
  have c2 : ¬ cell ns 1 % 3 = 1 := fun z => c (by rw [z])
  have e : rowsOf ns n = (List.range n).map (f3 ns n) := by unfold rowsOf rowF; rw [if_neg c1, if_neg c2]
  rw [e] at q
  walk_at "go"
  refine ⟨by decide, fun d => ?_⟩
  walk_at "go"
  refine s_ent rows_new ?_
  refine s_forR1 ?_
  walk_at "go"
  refine ⟨_, rfl, by omega, by omega, fun i σ L' => ∃ v3 v4 v5 v6 as, σ = [some (.ref a), some (nV n), some (.ref d), v3, v4, v5, v6] ∧ L' = RowsA d as ((List.range i).map (f3 ns n)) :: L ∧ as.length = i, ?_, ?_, ?_⟩
  · exact ⟨none, none, none, none, [], rfl, rfl, rfl⟩
  · rintro i σ L' hi ⟨v3, v4, v5, v6, as, rfl, rfl, hl⟩
    walk_at "go"
    refine ⟨by decide, fun p => ?_⟩
    walk_at "go"
    have b1 := Int.emod_nonneg (cell ns (3 + (i : Int))) (show (5 : Int) ≠ 0 by decide)
    have b2 := Int.emod_lt_of_pos (cell ns (3 + (i : Int))) (show (0 : Int) < 5 by decide)
    refine s_forR1 ?_
    walk_at "go"
    refine ⟨_, rfl, by omega, by omega, fun t σ L' => ∃ v6, σ = [some (.ref a), some (nV n), some (.ref d), some (nV i), some (.int (rowIt n (cell ns (3 + (i : Int))) t).1), some (.ref p), v6] ∧ L' = pt p (.lst ((rowIt n (cell ns (3 + (i : Int))) t).2.map oV)) :: RowsA d as ((List.range i).map (f3 ns n)) :: L, ?_, ?_, ?_⟩
    · exact ⟨v6, rfl, rfl⟩
    · rintro t σ L' ht ⟨v6, rfl, rfl⟩
      have hz : (rowIt n (cell ns (3 + (i : Int))) t).2.length = t := rowIt_len t
      walk_at "go"
      refine ex_c (fun c => ?_) fun c => ?_
      · have c' := V.int.inj c
        walk_at "go"
        refine r_append (by walk_at "has") (small5 (by rw [List.length_map, hz]; omega)) (by walk_at "wr") ?_
        refine ⟨_, rfl, ?_⟩
        show pt p (.lst ((rowIt n (cell ns (3 + (i : Int))) t).2.map oV ++ [.non])) :: _ = pt p (.lst (((rowIt n (cell ns (3 + (i : Int))) t).2 ++ [if _ then none else _]).map oV)) :: _
        rw [if_pos c', List.map_append]
        rfl
      · have c' : ¬ _ := fun z => c (congrArg V.int z)
        walk_at "go"
        refine r_append (by walk_at "has") (small5 (by rw [List.length_map, hz]; omega)) (by walk_at "wr") ?_
        refine ⟨_, rfl, ?_⟩
        show pt p (.lst ((rowIt n (cell ns (3 + (i : Int))) t).2.map oV ++ [.int _])) :: _ = pt p (.lst (((rowIt n (cell ns (3 + (i : Int))) t).2 ++ [if _ then none else some (Int.toNat _)]).map oV)) :: _
        rw [if_neg c', List.map_append]
        show _ = pt p (.lst (_ ++ [nV (Int.toNat _)])) :: _
        rw [nV_toNat (Int.emod_nonneg _ (by omega))]
    · rintro σ L' ⟨v6, rfl, rfl⟩
      walk_at "go"
      refine ⟨ty_list (sq_tl (Has.sq rows_p)), ?_⟩
      walk_at "go"
      refine r_ent ent_swap ?_
      refine r_append rows_p (small5 (by rw [List.length_map]; omega)) (rows_push (rows := (List.range i).map (f3 ns n)) (by rw [hl, List.length_map, List.length_range])) ?_
      refine ⟨_, _, _, _, as ++ [p], rfl, ?_, by rw [List.length_append, hl]; rfl⟩
      rw [List.range_succ, List.map_append]
      rfl
  · rintro σ L' ⟨v3, v4, v5, v6, as, rfl, rfl, hl⟩
    walk_at "go"
    have e2 : ((n : Int)).toNat = n := by omega
    rw [e2] at hl ⊢
    exact q d as hl
theorem do_rows {a : Addr} {ns : List Int} {n : Nat} (hq : SqA K L a (ns.map V.int)) (hn : n ≤ 300) (q : ∀ d as, as.length = n → Q (.ref d) (RowsA d as (rowsOf ns n) :: L)) : ∃ L2, Ent L L2 ∧ P_law_rows K A [.ref a, nV n] L2 Q Ea :=
  ⟨L, Ent.refl _, _, _, rfl, a, ns, n, rfl, rfl, hq, hn, q⟩
theorem do_reach {p b : Addr} {as : List Addr} {rows : List (List (Option Nat))} {starts : List Nat} (hR : RdRows K L p as rows) (hb : SqA K L b (starts.map nV)) (g : Good rows starts) (hz : starts.length ≤ 100000) (q : ∀ d, Q (.ref d) (pt d (.lst ((reachF rows starts).map nV)) :: L)) :
    ∃ L2, Ent L L2 ∧ P_reach K A [.ref p, .ref b] L2 Q Ea := ⟨L, Ent.refl _, _, _, rfl, p, b, as, rows, starts, rfl, rfl, hR, hb, g, hz, q⟩
theorem do_came {p b : Addr} {as : List Addr} {rows : List (List (Option Nat))} {starts : List Nat} (hR : RdRows K L p as rows) (hb : SqA K L b (starts.map nV)) (g : Good rows starts) (hz : starts.length ≤ 100000) (q : ∀ d L', Ent L' L → Q (.ref d) (pt d (.lst ((reachF rows starts).map nV)) :: L')) :
    ∃ L2, Ent L L2 ∧ P_law_came K A [.ref p, .ref b] L2 Q Ea := ⟨L, Ent.refl _, _, _, rfl, p, b, as, rows, starts, rfl, rfl, hR, hb, g, hz, q⟩
theorem p_law (he : ELe Ea E) (h : P_law K A vs L Q Ea) : SS (t_law K A E) { nx := fun _ L => Q .non L, rt := Q } (start N_law vs) L := by
  obtain ⟨_, rfl, a, ns, rfl, rfl, hl, q⟩ := h
  unfold t_law
  have hsz := sizeOf_le ns
  walk_at "gn"
  refine s_mid (Mid := fun σ L' => σ = [some (.ref a), some (nV (sizeOf ns)), none, none, none, none, none, none, none, none] ∧ L' = [Scr K a ns]) ?_ ?_
  · walk_at "go"
    refine ex_c (fun c => ?_) fun c => ?_
    · have c1 : cell ns 1 % 9 = 4 := V.int.inj c
      walk_at "go"
      refine ⟨_, Ent.refl _, ?_, rfl⟩
      have h1 := Int.emod_nonneg (cell ns 0 / 41) (show (300 : Int) ≠ 0 by decide)
      show [some (V.ref a), some (V.int (1 + cell ns 0 / 41 % 300)), none, none, none, none, none, none, none, none] = _
      unfold sizeOf
      rw [if_pos c1, nV_toNat (by omega)]
    · have c1 : ¬ cell ns 1 % 9 = 4 := fun z => c (by rw [z])
      walk_at "go"
      refine ⟨_, Ent.refl _, ?_, rfl⟩
      have h1 := Int.emod_nonneg (cell ns 0) (show (41 : Int) ≠ 0 by decide)
      show [some (V.ref a), some (V.int (cell ns 0 % 41)), none, none, none, none, none, none, none, none] = _
      unfold sizeOf
      rw [if_neg c1, nV_toNat (by omega)]
  rintro σ L' ⟨rfl, rfl⟩
  have g := startsOf_good ns
  generalize hn : sizeOf ns = n at *
  walk_at "go"
  refine do_rows (by walk_at "sq") hsz fun d as hd => ?_
  have hrl := rowsOf_len ns n
  generalize hrows : rowsOf ns n = rows at *
  walk_at "go"
  refine ⟨by show 0 ≤ sizeLine; decide, fun s0 => ?_⟩
  walk_at "gn"
  refine s_mid (Mid := fun σ L' => ∃ s, σ = [some (.ref a), some (nV n), some (.ref d), some (.int (cell ns 2)), some (.ref s), none, none, none, none, none] ∧ L' = pt s (.lst ((startsOf ns n).map nV)) :: RowsA d as rows :: [Scr K a ns]) ?_ ?_
  · walk_at "go"
    refine ex_c (fun c => ?_) fun c => ?_
    · walk_at "go"
      refine ⟨by show 3 ≤ sizeLine; decide, fun s1 => ?_⟩
      walk_at "go"
      refine ⟨_, rfl, ?_⟩
      refine r_slL (Has.sq has_hd) fun s2 => ?_
      have e1 := Int.emod_nonneg (cell ns 2) (show (4 : Int) ≠ 0 by decide)
      refine ⟨_, Ent.cons (Ent.drop.trans Ent.drop), s2, rfl, ?_⟩
      have hn0 : ¬ n = 0 := by omega
      have b1 := Int.emod_nonneg (cell ns 2 / 4) (show (n : Int) ≠ 0 by omega)
      have b2 := Int.emod_nonneg (cell ns 2 / 4 / (n : Int)) (show (n : Int) ≠ 0 by omega)
      unfold startsOf
      rw [if_neg hn0, cut_to e1, List.map_take, List.map_cons, List.map_cons, List.map_cons, List.map_nil, nV_toNat b1, nV_toNat b2]
    · walk_at "go"
      refine ⟨_, Ent.refl _, s0, rfl, ?_⟩
      have hn0 : n = 0 := by omega
      unfold startsOf
      rw [if_pos hn0]
      rfl
  rintro σ L' ⟨s, rfl, rfl⟩
  have hsl : (startsOf ns n).length ≤ 3 := by
    unfold startsOf
    split
    · exact Nat.zero_le _
    · rw [List.length_take]; exact Nat.min_le_right _ _
  generalize startsOf ns n = starts at *
  walk_at "go"
  have hal : (as.map V.ref).length = n := by rw [List.length_map]; exact hd
  refine e_lcRowsL (a0 := d) (xs := as.map V.ref) rows (by omega) (by omega) (fun _ => rfl) (by walk_at "go"; exact ⟨rfl, rfl⟩) (sq_tl (Has.sq rows_p)) ?_ fun d2 as2 hd2 => ?_
  · intro i x r hx hr L' en
    obtain ⟨ai, hai, rfl⟩ := map_get hx
    have hq : SqA K L' ai (r.map oV) := SqA.ent (sq_tl (Has.sq (rows_i hai hr))) en
    walk_at "go"
    exact c_list hq fun p => ⟨p, rfl, rfl⟩
  walk_at "go"
  refine c_list (sq_tl (Has.sq has_hd)) fun b => ?_
  walk_at "go"
  refine do_reach (rows := rows) (starts := starts) (rd_tl (rd_hd hd2)) (Has.sq has_hd) g (by omega) fun f => ?_
  walk_at "go"
  refine do_came (rows := rows) (starts := starts) (rd_tl (rd_tl (rd_tl (rd_tl (rd_hd (by omega)))))) (by walk_at "sq") g (by omega) fun e L' en => ?_
  have hzr : (reachF rows starts).length ≤ 100000 := by
    have := g.len
    refine Nat.le_trans (List.length_filter_le _ _) ?_
    rw [List.length_range]; omega
  walk_at "go"
  refine do_numbersN (xs := reachF rows starts) (has_tl (Has.ent has_hd en)) (Has.sq has_hd) hzr ?_
  refine ⟨_, rfl, both_f ?_⟩
  refine s_next ?_
  refine s_ent (Ent.drop.trans (en.trans Ent.drop)) ?_
  have hal2 : (as2.map V.ref).length = n := by rw [List.length_map]; omega
  walk_at "go"
  refine c_len (sq_tl (Has.sq rows_p)) ?_
  walk_at "go"
  refine c_len (sq_tl (sq_tl (sq_tl (Has.sq rows_p)))) ?_
  rw [hal, hal2]
  walk_at "go"
  refine ex_n (fun c => absurd rfl c) fun _ => ?_
  walk_at "go"
  refine do_numbersN (xs := starts) has_hd (by walk_at "sq") (by omega) ?_
  refine ⟨_, rfl, both_f ?_⟩
  walk_at "go"
  refine s_forR1 ?_
  walk_at "go"
  refine c_len (sq_tl (sq_tl (sq_tl (Has.sq rows_p)))) ?_
  rw [hal]
  walk_at "go"
  refine ⟨(n : Int), rfl, by omega, by omega, fun i σ L' => ∃ v8, σ = [some (.ref a), some (nV n), some (.ref d), some (.int (cell ns 2)), some (.ref s), some (.ref d2), some (.ref b), some (.ref f), v8, none] ∧ L' = pt b (.lst (starts.map nV)) :: RowsA d2 as2 rows :: pt s (.lst (starts.map nV)) :: RowsA d as rows :: [Scr K a ns], ?_, ?_, ?_⟩
  · exact ⟨none, rfl, rfl⟩
  · rintro i σ L' hi ⟨v8, rfl, rfl⟩
    have hi' : i < n := by omega
    obtain ⟨r, hr⟩ : ∃ r, rows[i]? = some r := ⟨_, List.getElem?_eq_getElem (by omega)⟩
    obtain ⟨a1, ha1⟩ : ∃ a, as[i]? = some a := ⟨_, List.getElem?_eq_getElem (by omega)⟩
    obtain ⟨a2, ha2⟩ : ∃ a, as2[i]? = some a := ⟨_, List.getElem?_eq_getElem (by omega)⟩
    have hrz : r.length ≤ 100000 := by
      rw [← hrows] at hr
      obtain ⟨_, rfl⟩ := rowsOf_at hr
      unfold rowF
      split
      · exact (by show 1 ≤ 100000; decide)
      · split
        · exact (by show 1 ≤ 100000; decide)
        · unfold f3
          rw [rowIt_len]
          have := Int.emod_lt_of_pos (cell ns (3 + (i : Int))) (show (0 : Int) < 5 by decide)
          omega
    walk_at "go"
    refine r_ixL (sq_tl (Has.sq rows_p)) (atI_nat (map_at V.ref ha2)) ?_
    walk_at "go"
    refine r_ixL (sq_tl (sq_tl (sq_tl (Has.sq rows_p)))) (atI_nat (map_at V.ref ha1)) ?_
    walk_at "go"
    refine do_numbersT (xs := r) (has_tl (rows_i ha2 hr)) (sq_tl (sq_tl (sq_tl (Has.sq (rows_i ha1 hr))))) hrz ?_
    refine ⟨_, rfl, both_f ?_⟩
    walk_at "go"
    exact ⟨some (nV i), rfl, rfl⟩
  · rintro σ L' ⟨v8, rfl, rfl⟩
    walk_at "go"
    exact q _
end
def top (i : Nat) : Stmt := PySem.Challenge.pw_markpause_k01_reach.main.body.getD i (.Pass ⟨0, 0, 0, 0⟩)
/-- where the top has laid the defs -/
structure Dd where
  f_law_cell_at : Addr
  d_law_cell_at : FuncData
  f_law_whole : Addr
  d_law_whole : FuncData
  f_law_came : Addr
  d_law_came : FuncData
  f_reach : Addr
  d_reach : FuncData
  f_law_numbers : Addr
  d_law_numbers : FuncData
  f_law_rows : Addr
  d_law_rows : FuncData
  f_law : Addr
  d_law : FuncData
/-- what the walk asks of the top -/
structure Txt (K : PySem.W.Frag) (mg : Str → Option Value) (A : Ex) (D : Dd) : Prop where
  F_law_cell_at : Fun K "_law_cell_at" "_law_cell_at" (top 3) D.f_law_cell_at D.d_law_cell_at
  b_law_cell_at : Binds K D.d_law_cell_at ["_law_script", "_law_k"] []
  m_law_cell_at : mg "_law_cell_at" = some (.ref D.f_law_cell_at)
  k_law_cell_at : PySem.W.keepIn K (.ref D.f_law_cell_at) = true
  F_law_whole : Fun K "_law_whole" "_law_whole" (top 4) D.f_law_whole D.d_law_whole
  b_law_whole : Binds K D.d_law_whole ["_law_found"] []
  m_law_whole : mg "_law_whole" = some (.ref D.f_law_whole)
  k_law_whole : PySem.W.keepIn K (.ref D.f_law_whole) = true
  F_law_came : Fun K "_law_came" "_law_came" (top 7) D.f_law_came D.d_law_came
  b_law_came : Binds K D.d_law_came ["_law_rows_here", "_law_starts"] []
  m_law_came : mg "_law_came" = some (.ref D.f_law_came)
  k_law_came : PySem.W.keepIn K (.ref D.f_law_came) = true
  F_reach : Fun K "reach" "reach" (top 1) D.f_reach D.d_reach
  b_reach : Binds K D.d_reach ["rows", "starts"] []
  m_reach : mg "reach" = some (.ref D.f_reach)
  k_reach : PySem.W.keepIn K (.ref D.f_reach) = true
  F_law_numbers : Fun K "_law_numbers" "_law_numbers" (top 5) D.f_law_numbers D.d_law_numbers
  b_law_numbers : Binds K D.d_law_numbers ["_law_found", "_law_due"] []
  m_law_numbers : mg "_law_numbers" = some (.ref D.f_law_numbers)
  k_law_numbers : PySem.W.keepIn K (.ref D.f_law_numbers) = true
  F_law_rows : Fun K "_law_rows" "_law_rows" (top 6) D.f_law_rows D.d_law_rows
  b_law_rows : Binds K D.d_law_rows ["_law_script", "_law_size"] []
  m_law_rows : mg "_law_rows" = some (.ref D.f_law_rows)
  k_law_rows : PySem.W.keepIn K (.ref D.f_law_rows) = true
  F_law : Fun K "law" "law" (top 8) D.f_law D.d_law
  b_law : Binds K D.d_law ["_law_script"] []
  m_law : mg "law" = some (.ref D.f_law)
  k_law : PySem.W.keepIn K (.ref D.f_law) = true
  z_bool : mg "bool" = none
  z_int : mg "int" = none
  z_isinstance : mg "isinstance" = none
  z_len : mg "len" = none
  z_list : mg "list" = none
  z_min : mg "min" = none
  z_range : mg "range" = none
  z_sorted : mg "sorted" = none
section
variable {P : Program} {w : World} {K : PySem.W.Frag} {mg : Str → Option Value} {base : Heap} {A : Ex} {D : Dd}
abbrev s_law_cell_at : Stmt := (top 3)
theorem sc_law_cell_at : FnScope N_law_cell_at ["_law_script", "_law_k"] (defScope s_law_cell_at) := ⟨rfl, rfl, rfl, by decide +kernel, rfl, by decide +kernel, by decide +kernel⟩
theorem ok_law_cell_at (T : Txt K mg A D) : FnOk P w K mg base (L2.CX P w) 1 D.f_law_cell_at D.d_law_cell_at ["_law_script", "_law_k"] (lift (P_law_cell_at K A)) := by
  refine T.F_law_cell_at.okX sc_law_cell_at (lift_len pm2_len) (fun cdv Ar outer s H vs Q E hr h => ?_)
  have hu := hu_of hr
  refine ⟨t_law_cell_at K A E, ?_, lift_body h fun L Qa Ea he p => p_law_cell_at he p⟩
  exact (pss_cons (ps_if (pt_cmpR op_lt (pv 1) (pe_callB cl_len (by rfl) T.z_len (by decide +kernel) (pa_cons (pv 0) pa_nil)) (nomark _)) (pss_one (ps_ret (pe_ix ix_list (pv 0) (pv 1) (fun _ _ => rfl)))) pss_nil)
    (pss_one (ps_ret pe_int)))
abbrev s_law_whole : Stmt := (top 4)
theorem sc_law_whole : FnScope N_law_whole ["_law_found"] (defScope s_law_whole) := ⟨rfl, rfl, rfl, by decide +kernel, rfl, by decide +kernel, by decide +kernel⟩
theorem ok_law_whole (T : Txt K mg A D) : FnOk P w K mg base (L2.CX P w) 1 D.f_law_whole D.d_law_whole ["_law_found"] (lift (P_law_whole K A)) := by
  refine T.F_law_whole.okX sc_law_whole (lift_len pm1_len) (fun cdv Ar outer s H vs Q E hr h => ?_)
  have hu := hu_of hr
  refine ⟨t_law_whole K A E, ?_, lift_body h fun L Qa Ea he p => p_law_whole he p⟩
  exact (pss_one (ps_ret (pe_and (pe_callB call_isi (by rfl) T.z_isinstance (by decide +kernel) (pa_cons (pv 0) (pa_cons (pe_bltn (v := .ty "int") rfl T.z_int (by decide +kernel) rfl) pa_nil))) (pe_one (pe_not (pe_callB call_isi (by rfl) T.z_isinstance (by decide +kernel) (pa_cons (pv 0) (pa_cons (pe_bltn (v := .ty "bool") rfl T.z_bool (by decide +kernel) rfl) pa_nil))))))))
abbrev s_law_came : Stmt := (top 7)
theorem sc_law_came : FnScope N_law_came ["_law_rows_here", "_law_starts"] (defScope s_law_came) := ⟨rfl, rfl, rfl, by decide +kernel, rfl, by decide +kernel, by decide +kernel⟩
theorem ok_law_came (T : Txt K mg A D) : FnOk P w K mg base (L2.CX P w) 1 D.f_law_came D.d_law_came ["_law_rows_here", "_law_starts"] (lift (P_law_came K A)) := by
  refine T.F_law_came.okX sc_law_came (lift_len pm2_len) (fun cdv Ar outer s H vs Q E hr h => ?_)
  have hu := hu_of hr
  refine ⟨t_law_came K A E, ?_, lift_body h fun L Qa Ea he p => p_law_came he p⟩
  exact (pss_cons (ps_set (i := 2) sc_law_came.nd rfl (Or.inr rfl) (pe_lc (own := [("_law_row", 6)]) (g := gName 6) (tt := tYes) rfl sc_law_came.nd (pi_list (pv 0)) (blkOk_by (N := N_law_came) (sc := defScope s_law_came) (by decide +kernel)) (fun _ _ _ _ _ => pg_name (i := 6) sc_law_came.nd rfl (Or.inl rfl)) (fun _ _ _ _ _ => pts_nil) (fun _ _ _ _ _ => pe_bl)))
    (pss_cons (ps_for PassesOwn.leaving rfl (pi_list (pv 1)) (pg_name (i := 3) sc_law_came.nd rfl (Or.inl rfl))
      (pss_one (ps_asg pe_bl (pg_sub (pv 2) (pv 3) set_list))))
    (pss_cons (ps_set (i := 4) sc_law_came.nd rfl (Or.inl rfl) pe_bl)
    (pss_cons (ps_while PassesOwn.leaving (pt_val (pv 4))
      (pss_cons (ps_set (i := 4) sc_law_came.nd rfl (Or.inl rfl) pe_bl)
    (pss_one (ps_for PassesOwn.leaving rfl (pi_range1 rfl T.z_range (pa_cons (pe_callB cl_len (by rfl) T.z_len (by decide +kernel) (pa_cons (pv 0) pa_nil)) pa_nil)) (pg_name (i := 5) sc_law_came.nd rfl (Or.inl rfl))
      (pss_one (ps_for PassesOwn.leaving rfl (pi_list (pe_ix ix_list (pv 0) (pv 5) (fun _ _ => rfl))) (pg_name (i := 3) sc_law_came.nd rfl (Or.inl rfl))
      (pss_one (ps_if (PW.pt (pw_and (pt_truth (pe_ix ix_list (pv 2) (pv 5) (fun _ _ => rfl)) (by intro _; rfl)) (pw_and (pt_cmpR op_notNo (pv 3) pe_non (nomark _)) (pw_and1 (pt_not (pt_truth (pe_ix ix_list (pv 2) (pv 3) (fun _ _ => rfl)) (by intro _; rfl))))))) (pss_cons (ps_asg pe_bl (pg_sub (pv 2) (pv 3) set_list))
    (pss_one (ps_set (i := 4) sc_law_came.nd rfl (Or.inl rfl) pe_bl))) pss_nil))))))))
    (pss_one (ps_ret (pe_lc (own := [("_law_k", 5)]) (g := gName 5) (tt := (tTruth K (tOp (rIxL K) (tVar 2) (tVar 5)))) rfl sc_law_came.nd (pi_range1 rfl T.z_range (pa_cons (pe_callB cl_len (by rfl) T.z_len (by decide +kernel) (pa_cons (pv 0) pa_nil)) pa_nil)) (blkOk_by (N := N_law_came) (sc := defScope s_law_came) (by decide +kernel)) (fun _ _ _ _ _ => pg_name (i := 5) sc_law_came.nd rfl (Or.inl rfl)) (fun _ _ _ _ _ => (pts_one (pt_truth (pe_ix ix_list (pv 2) (pv 5) (fun _ _ => rfl)) (by intro _; rfl)))) (fun _ _ _ _ _ => (pv 5)))))))))
abbrev s_reach : Stmt := (top 1)
theorem sc_reach : FnScope N_reach ["rows", "starts"] (defScope s_reach) := ⟨rfl, rfl, rfl, by decide +kernel, rfl, by decide +kernel, by decide +kernel⟩
theorem ok_reach (T : Txt K mg A D) : FnOk P w K mg base (L2.CX P w) 1 D.f_reach D.d_reach ["rows", "starts"] (lift (P_reach K A)) := by
  refine T.F_reach.okX sc_reach (lift_len pm2_len) (fun cdv Ar outer s H vs Q E hr h => ?_)
  have hu := hu_of hr
  refine ⟨t_reach K A E, ?_, lift_body h fun L Qa Ea he p => p_reach he p⟩
  exact (pss_cons (ps_set (i := 2) sc_reach.nd rfl (Or.inl rfl) pe_dnewK)
    (pss_cons (ps_set (i := 3) sc_reach.nd rfl (Or.inl rfl) (pe_lst pa_nil))
    (pss_cons (ps_for PassesOwn.leaving rfl (pi_list (pv 1)) (pg_name (i := 4) sc_reach.nd rfl (Or.inl rfl))
      (pss_one (ps_if (pt_cmp (pc_dnotin hu (pv 4) (pv 2))) (pss_cons (ps_dput hu (pv 2) (pv 4) pe_bl rfl)
    (pss_one (ps_expr (pe_bm PySem.F.plainAttrs_list PySem.F.slot_list_append PySem.F.type_list_append mt_append (pv 3) (pa_cons (pv 4) pa_nil))))) pss_nil)))
    (pss_cons (ps_set (i := 5) sc_reach.nd rfl (Or.inl rfl) pe_int)
    (pss_cons (ps_while PassesOwn.leaving (pt_cmpR op_lt (pv 5) (pe_callB cl_len (by rfl) T.z_len (by decide +kernel) (pa_cons (pv 3) pa_nil)) (nomark _))
      (pss_cons (ps_for PassesOwn.leaving rfl (pi_list (pe_ix ix_list (pv 0) (pe_ix ix_list (pv 3) (pv 5) (fun _ _ => rfl)) (fun _ _ => rfl))) (pg_name (i := 6) sc_reach.nd rfl (Or.inl rfl))
      (pss_one (ps_if (PW.pt (pw_and (pt_cmpR op_notNo (pv 6) pe_non (nomark _)) (pw_and1 (pt_cmp (pc_dnotin hu (pv 6) (pv 2)))))) (pss_cons (ps_dput hu (pv 2) (pv 6) pe_bl rfl)
    (pss_one (ps_expr (pe_bm PySem.F.plainAttrs_list PySem.F.slot_list_append PySem.F.type_list_append mt_append (pv 3) (pa_cons (pv 6) pa_nil))))) pss_nil)))
    (pss_one (ps_aug (i := 5) sc_reach.nd rfl (Or.inl rfl) pe_int ip_add))))
    (pss_one (ps_ret (pe_callB cr_sortedI (by rfl) T.z_sorted (by decide +kernel) (pa_cons (pv 3) pa_nil)))))))))
abbrev s_law_numbers : Stmt := (top 5)
theorem sc_law_numbers : FnScope N_law_numbers ["_law_found", "_law_due"] (defScope s_law_numbers) := ⟨rfl, rfl, rfl, by decide +kernel, rfl, by decide +kernel, by decide +kernel⟩
theorem ok_law_numbers (T : Txt K mg A D) (G_law_whole : FnOk P w K mg base (L2.CX P w) 1 D.f_law_whole D.d_law_whole ["_law_found"] (lift (P_law_whole K A))) : FnOk P w K mg base (L2.CX P w) 2 D.f_law_numbers D.d_law_numbers ["_law_found", "_law_due"] (lift (P_law_numbers K A)) := by
  refine T.F_law_numbers.okX sc_law_numbers (lift_len pm2_len) (fun cdv Ar outer s H vs Q E hr h => ?_)
  have hu := hu_of hr
  refine ⟨t_law_numbers K A E, ?_, lift_body h fun L Qa Ea he p => p_law_numbers he p⟩
  exact (pss_cons (ps_if (PW.pt (pw_or (pt_not (pt_val (pe_callB call_isi (by rfl) T.z_isinstance (by decide +kernel) (pa_cons (pv 0) (pa_cons (pe_bltn (v := .ty "list") rfl T.z_list (by decide +kernel) rfl) pa_nil))))) (pw_or1 (pt_cmpR op_ne (pe_callB cl_len (by rfl) T.z_len (by decide +kernel) (pa_cons (pv 0) pa_nil)) (pe_callB cl_len (by rfl) T.z_len (by decide +kernel) (pa_cons (pv 1) pa_nil)) (nomark _))))) (pss_one (ps_ret pe_bl)) pss_nil)
    (pss_cons (ps_for PassesOwn.leaving rfl (pi_range1 rfl T.z_range (pa_cons (pe_callB cl_len (by rfl) T.z_len (by decide +kernel) (pa_cons (pv 1) pa_nil)) pa_nil)) (pg_name (i := 2) sc_law_numbers.nd rfl (Or.inl rfl))
      (pss_cons (ps_if (PW.pt (pw_and (pt_cmpR op_isNo (pe_ix ix_list (pv 1) (pv 2) (fun _ _ => rfl)) pe_non (nomark _)) (pw_and1 (pt_cmpR op_notNo (pe_ix ix_list (pv 0) (pv 2) (fun _ _ => rfl)) pe_non (nomark _))))) (pss_one (ps_ret pe_bl)) pss_nil)
    (pss_one (ps_if (PW.pt (pw_and (pt_cmpR op_notNo (pe_ix ix_list (pv 1) (pv 2) (fun _ _ => rfl)) pe_non (nomark _)) (pw_and1 (PW.pt (pw_or (pt_not (pt_val (pe_call G_law_whole (hr.mono (by decide)) rfl T.m_law_whole T.k_law_whole T.b_law_whole .nil passL (pa_cons (pe_ix ix_list (pv 0) (pv 2) (fun _ _ => rfl)) pa_nil)))) (pw_or1 (pt_cmpR op_ne (pe_ix ix_list (pv 0) (pv 2) (fun _ _ => rfl)) (pe_ix ix_list (pv 1) (pv 2) (fun _ _ => rfl)) (nomark _)))))))) (pss_one (ps_ret pe_bl)) pss_nil))))
    (pss_one (ps_ret pe_bl))))
abbrev s_law_rows : Stmt := (top 6)
theorem sc_law_rows : FnScope N_law_rows ["_law_script", "_law_size"] (defScope s_law_rows) := ⟨rfl, rfl, rfl, by decide +kernel, rfl, by decide +kernel, by decide +kernel⟩
theorem ok_law_rows (T : Txt K mg A D) (G_law_cell_at : FnOk P w K mg base (L2.CX P w) 1 D.f_law_cell_at D.d_law_cell_at ["_law_script", "_law_k"] (lift (P_law_cell_at K A))) : FnOk P w K mg base (L2.CX P w) 2 D.f_law_rows D.d_law_rows ["_law_script", "_law_size"] (lift (P_law_rows K A)) := by
  refine T.F_law_rows.okX sc_law_rows (lift_len pm2_len) (fun cdv Ar outer s H vs Q E hr h => ?_)
  have hu := hu_of hr
  refine ⟨t_law_rows K A E, ?_, lift_body h fun L Qa Ea he p => p_law_rows he p⟩
  exact (pss_cons (ps_if (pt_cmpR op_eq (pe_op op_mod (pe_call G_law_cell_at (hr.mono (by decide)) rfl T.m_law_cell_at T.k_law_cell_at T.b_law_cell_at .nil passL (pa_cons (pv 0) (pa_cons pe_int pa_nil))) pe_int) pe_int (nomark _)) (pss_one (ps_ret (pe_lc (own := [("_law_k", 3)]) (g := gName 3) (tt := tYes) rfl sc_law_rows.nd (pi_range1 rfl T.z_range (pa_cons (pv 1) pa_nil)) (blkOk_by (N := N_law_rows) (sc := defScope s_law_rows) (by decide +kernel)) (fun _ _ _ _ _ => pg_name (i := 3) sc_law_rows.nd rfl (Or.inl rfl)) (fun _ _ _ _ _ => pts_nil) (fun _ _ _ _ _ => (pe_lst (pa_cons (pe_callB (cl_min2 rfl) (by rfl) T.z_min (by decide +kernel) (pa_cons (pe_op op_add (pe_op op_add (pv 3) pe_int) (pe_op op_mod (pe_op op_fdiv (pe_call G_law_cell_at (hr.mono (by decide)) rfl T.m_law_cell_at T.k_law_cell_at T.b_law_cell_at .nil passL (pa_cons (pv 0) (pa_cons pe_int pa_nil))) pe_int) pe_int)) (pa_cons (pe_op op_sub (pv 1) pe_int) pa_nil))) pa_nil)))))) pss_nil)
    (pss_cons (ps_if (pt_cmpR op_eq (pe_op op_mod (pe_call G_law_cell_at (hr.mono (by decide)) rfl T.m_law_cell_at T.k_law_cell_at T.b_law_cell_at .nil passL (pa_cons (pv 0) (pa_cons pe_int pa_nil))) pe_int) pe_int (nomark _)) (pss_one (ps_ret (pe_lc (own := [("_law_k", 3)]) (g := gName 3) (tt := tYes) rfl sc_law_rows.nd (pi_range1 rfl T.z_range (pa_cons (pv 1) pa_nil)) (blkOk_by (N := N_law_rows) (sc := defScope s_law_rows) (by decide +kernel)) (fun _ _ _ _ _ => pg_name (i := 3) sc_law_rows.nd rfl (Or.inl rfl)) (fun _ _ _ _ _ => pts_nil) (fun _ _ _ _ _ => (pe_lst (pa_cons (pe_op op_mod (pe_op op_add (pe_op op_add (pv 3) pe_int) (pe_op op_mod (pe_op op_fdiv (pe_call G_law_cell_at (hr.mono (by decide)) rfl T.m_law_cell_at T.k_law_cell_at T.b_law_cell_at .nil passL (pa_cons (pv 0) (pa_cons pe_int pa_nil))) pe_int) pe_int)) (pv 1)) pa_nil)))))) pss_nil)
    (pss_cons (ps_set (i := 2) sc_law_rows.nd rfl (Or.inl rfl) (pe_lst pa_nil))
    (pss_cons (ps_for PassesOwn.leaving rfl (pi_range1 rfl T.z_range (pa_cons (pv 1) pa_nil)) (pg_name (i := 3) sc_law_rows.nd rfl (Or.inl rfl))
      (pss_cons (ps_set (i := 4) sc_law_rows.nd rfl (Or.inl rfl) (pe_call G_law_cell_at (hr.mono (by decide)) rfl T.m_law_cell_at T.k_law_cell_at T.b_law_cell_at .nil passL (pa_cons (pv 0) (pa_cons (pe_op op_add pe_int (pv 3)) pa_nil))))
    (pss_cons (ps_set (i := 5) sc_law_rows.nd rfl (Or.inl rfl) (pe_lst pa_nil))
    (pss_cons (ps_for PassesOwn.leaving rfl (pi_range1 rfl T.z_range (pa_cons (pe_op op_mod (pv 4) pe_int) pa_nil)) (pg_name (i := 6) sc_law_rows.nd rfl (Or.inl rfl))
      (pss_cons (ps_set (i := 4) sc_law_rows.nd rfl (Or.inl rfl) (pe_op op_fdiv (pv 4) (pe_op op_add (pv 1) pe_int)))
    (pss_one (ps_if (pt_cmpR op_eq (pe_op op_mod (pv 4) (pe_op op_add (pv 1) pe_int)) (pv 1) (nomark _)) (pss_one (ps_expr (pe_bm PySem.F.plainAttrs_list PySem.F.slot_list_append PySem.F.type_list_append mt_append (pv 5) (pa_cons pe_non pa_nil)))) (pss_one (ps_expr (pe_bm PySem.F.plainAttrs_list PySem.F.slot_list_append PySem.F.type_list_append mt_append (pv 5) (pa_cons (pe_op op_mod (pv 4) (pe_op op_add (pv 1) pe_int)) pa_nil))))))))
    (pss_one (ps_expr (pe_bm PySem.F.plainAttrs_list PySem.F.slot_list_append PySem.F.type_list_append mt_append (pv 2) (pa_cons (pv 5) pa_nil))))))))
    (pss_one (ps_ret (pv 2)))))))
abbrev s_law : Stmt := (top 8)
theorem sc_law : FnScope N_law ["_law_script"] (defScope s_law) := ⟨rfl, rfl, rfl, by decide +kernel, rfl, by decide +kernel, by decide +kernel⟩
theorem ok_law (T : Txt K mg A D) (G_law_rows : FnOk P w K mg base (L2.CX P w) 2 D.f_law_rows D.d_law_rows ["_law_script", "_law_size"] (lift (P_law_rows K A))) (G_law_cell_at : FnOk P w K mg base (L2.CX P w) 1 D.f_law_cell_at D.d_law_cell_at ["_law_script", "_law_k"] (lift (P_law_cell_at K A))) (G_reach : FnOk P w K mg base (L2.CX P w) 1 D.f_reach D.d_reach ["rows", "starts"] (lift (P_reach K A))) (G_law_numbers : FnOk P w K mg base (L2.CX P w) 2 D.f_law_numbers D.d_law_numbers ["_law_found", "_law_due"] (lift (P_law_numbers K A))) (G_law_came : FnOk P w K mg base (L2.CX P w) 1 D.f_law_came D.d_law_came ["_law_rows_here", "_law_starts"] (lift (P_law_came K A))) : FnOk P w K mg base (L2.CX P w) 3 D.f_law D.d_law ["_law_script"] (lift (P_law K A)) := by
  refine T.F_law.okX sc_law (lift_len pm1_len) (fun cdv Ar outer s H vs Q E hr h => ?_)
  have hu := hu_of hr
  refine ⟨t_law K A E, ?_, lift_body h fun L Qa Ea he p => p_law he p⟩
  exact (pss_cons (ps_set (i := 1) sc_law.nd rfl (Or.inl rfl) (pe_op op_mod (pe_call G_law_cell_at (hr.mono (by decide)) rfl T.m_law_cell_at T.k_law_cell_at T.b_law_cell_at .nil passL (pa_cons (pv 0) (pa_cons pe_int pa_nil))) pe_int))
    (pss_cons (ps_if (pt_cmpR op_eq (pe_op op_mod (pe_call G_law_cell_at (hr.mono (by decide)) rfl T.m_law_cell_at T.k_law_cell_at T.b_law_cell_at .nil passL (pa_cons (pv 0) (pa_cons pe_int pa_nil))) pe_int) pe_int (nomark _)) (pss_one (ps_set (i := 1) sc_law.nd rfl (Or.inl rfl) (pe_op op_add pe_int (pe_op op_mod (pe_op op_fdiv (pe_call G_law_cell_at (hr.mono (by decide)) rfl T.m_law_cell_at T.k_law_cell_at T.b_law_cell_at .nil passL (pa_cons (pv 0) (pa_cons pe_int pa_nil))) pe_int) pe_int)))) pss_nil)
    (pss_cons (ps_set (i := 2) sc_law.nd rfl (Or.inl rfl) (pe_call G_law_rows (hr.mono (by decide)) rfl T.m_law_rows T.k_law_rows T.b_law_rows .nil passL (pa_cons (pv 0) (pa_cons (pv 1) pa_nil))))
    (pss_cons (ps_set (i := 3) sc_law.nd rfl (Or.inl rfl) (pe_call G_law_cell_at (hr.mono (by decide)) rfl T.m_law_cell_at T.k_law_cell_at T.b_law_cell_at .nil passL (pa_cons (pv 0) (pa_cons pe_int pa_nil))))
    (pss_cons (ps_set (i := 4) sc_law.nd rfl (Or.inl rfl) (pe_lst pa_nil))
    (pss_cons (ps_if (pt_cmpR op_gt (pv 1) pe_int (nomark _)) (pss_one (ps_set (i := 4) sc_law.nd rfl (Or.inl rfl) (pe_slice sl_list (pe_lst (pa_cons (pe_op op_mod (pe_op op_fdiv (pv 3) pe_int) (pv 1)) (pa_cons (pe_op op_mod (pe_op op_fdiv (pe_op op_fdiv (pv 3) pe_int) (pv 1)) (pv 1)) (pa_cons (pe_op op_mod (pe_op op_fdiv (pv 3) pe_int) (pv 1)) pa_nil)))) po_none (po_some (pe_op op_mod (pv 3) pe_int))))) pss_nil)
    (pss_cons (ps_setLc (i := 5) (own := [("_law_row", 9)]) (g := gName 9) (tt := tYes) rfl sc_law.nd rfl rfl (sw_true rfl rfl rfl (by decide +kernel)) (pi_list (pv 2)) (blkOk_by (N := N_law) (sc := defScope s_law) (by decide +kernel)) (fun _ _ _ _ _ => pg_name (i := 9) sc_law.nd rfl (Or.inl rfl)) (fun _ _ _ _ _ => pts_nil) (fun _ _ _ _ _ => (pe_callTy cl_list (by rfl) T.z_list (by decide +kernel) (pa_cons (pv 9) pa_nil))))
    (pss_cons (ps_set (i := 6) sc_law.nd rfl (Or.inl rfl) (pe_callTy cl_list (by rfl) T.z_list (by decide +kernel) (pa_cons (pv 4) pa_nil)))
    (pss_cons (ps_set (i := 7) sc_law.nd rfl (Or.inl rfl) (pe_call G_reach (hr.mono (by decide)) rfl T.m_reach T.k_reach T.b_reach .nil passL (pa_cons (pv 5) (pa_cons (pv 6) pa_nil))))
    (pss_cons (ps_if (pt_not (pt_val (pe_call G_law_numbers (hr.mono (by decide)) rfl T.m_law_numbers T.k_law_numbers T.b_law_numbers .nil passL (pa_cons (pv 7) (pa_cons (pe_call G_law_came (hr.mono (by decide)) rfl T.m_law_came T.k_law_came T.b_law_came .nil passL (pa_cons (pv 2) (pa_cons (pv 4) pa_nil))) pa_nil))))) (pss_one (ps_ret pe_bl)) pss_nil)
    (pss_cons (ps_if (PW.pt (pw_or (pt_cmpR op_ne (pe_callB cl_len (by rfl) T.z_len (by decide +kernel) (pa_cons (pv 5) pa_nil)) (pe_callB cl_len (by rfl) T.z_len (by decide +kernel) (pa_cons (pv 2) pa_nil)) (nomark _)) (pw_or1 (pt_not (pt_val (pe_call G_law_numbers (hr.mono (by decide)) rfl T.m_law_numbers T.k_law_numbers T.b_law_numbers .nil passL (pa_cons (pv 6) (pa_cons (pv 4) pa_nil)))))))) (pss_one (ps_ret pe_bl)) pss_nil)
    (pss_cons (ps_for PassesOwn.leaving rfl (pi_range1 rfl T.z_range (pa_cons (pe_callB cl_len (by rfl) T.z_len (by decide +kernel) (pa_cons (pv 2) pa_nil)) pa_nil)) (pg_name (i := 8) sc_law.nd rfl (Or.inl rfl))
      (pss_one (ps_if (pt_not (pt_val (pe_call G_law_numbers (hr.mono (by decide)) rfl T.m_law_numbers T.k_law_numbers T.b_law_numbers .nil passL (pa_cons (pe_ix ix_list (pv 5) (pv 8) (fun _ _ => rfl)) (pa_cons (pe_ix ix_list (pv 2) (pv 8) (fun _ _ => rfl)) pa_nil))))) (pss_one (ps_ret pe_bl)) pss_nil)))
    (pss_one (ps_ret pe_bl))))))))))))))
end
theorem all_mk {l : PySem.W.OpenLaw} {w : World} {K : PySem.W.Frag} {h : Heap} {mg : Str → Option Value} {fa : Addr} {f_law_cell_at f_law_whole f_law_came f_reach f_law_numbers f_law_rows f_law : Addr} (X : K.In h) (G : h.Ns mainGlobals mg) (hfa : mg "law" = some (.ref fa))
    {od_law_cell_at an_law_cell_at od_law_whole an_law_whole od_law_came an_law_came od_reach an_reach od_law_numbers an_law_numbers od_law_rows an_law_rows od_law an_law : Option Addr} {sl_law_cell_at sl_law_whole sl_law_came sl_reach sl_law_numbers sl_law_rows sl_law : Array (Option Value)} {oc_law_cell_at kV_law_cell_at dc_law_cell_at pm_law_cell_at cd_law_cell_at ct_law_cell_at oc_law_whole kV_law_whole dc_law_whole pm_law_whole cd_law_whole ct_law_whole oc_law_came kV_law_came dc_law_came pm_law_came cd_law_came ct_law_came oc_reach kV_reach dc_reach pm_reach cd_reach ct_reach oc_law_numbers kV_law_numbers dc_law_numbers pm_law_numbers cd_law_numbers ct_law_numbers oc_law_rows kV_law_rows dc_law_rows pm_law_rows cd_law_rows ct_law_rows oc_law kV_law dc_law pm_law cd_law ct_law : Value}
    (a_law_cell_at : PySem.W.nsIn K mainGlobals "_law_cell_at" = some (some (.ref f_law_cell_at)))
    (l_law_cell_at : K.lookup f_law_cell_at = some ⟨oc_law_cell_at, od_law_cell_at, .func (PySem.W.fnOf "_law_cell_at" "_law_cell_at" (defArgs s_law_cell_at) (defBody s_law_cell_at) (defScope s_law_cell_at) .none kV_law_cell_at dc_law_cell_at pm_law_cell_at an_law_cell_at cd_law_cell_at ct_law_cell_at), sl_law_cell_at⟩)
    (c_law_cell_at : PySem.W.codeIn K cd_law_cell_at "_law_cell_at" = true)
    (k_law_cell_at : PySem.W.keepIn K (.ref f_law_cell_at) = true)
    (a_law_whole : PySem.W.nsIn K mainGlobals "_law_whole" = some (some (.ref f_law_whole)))
    (l_law_whole : K.lookup f_law_whole = some ⟨oc_law_whole, od_law_whole, .func (PySem.W.fnOf "_law_whole" "_law_whole" (defArgs s_law_whole) (defBody s_law_whole) (defScope s_law_whole) .none kV_law_whole dc_law_whole pm_law_whole an_law_whole cd_law_whole ct_law_whole), sl_law_whole⟩)
    (c_law_whole : PySem.W.codeIn K cd_law_whole "_law_whole" = true)
    (k_law_whole : PySem.W.keepIn K (.ref f_law_whole) = true)
    (a_law_came : PySem.W.nsIn K mainGlobals "_law_came" = some (some (.ref f_law_came)))
    (l_law_came : K.lookup f_law_came = some ⟨oc_law_came, od_law_came, .func (PySem.W.fnOf "_law_came" "_law_came" (defArgs s_law_came) (defBody s_law_came) (defScope s_law_came) .none kV_law_came dc_law_came pm_law_came an_law_came cd_law_came ct_law_came), sl_law_came⟩)
    (c_law_came : PySem.W.codeIn K cd_law_came "_law_came" = true)
    (k_law_came : PySem.W.keepIn K (.ref f_law_came) = true)
    (a_reach : PySem.W.nsIn K mainGlobals "reach" = some (some (.ref f_reach)))
    (l_reach : K.lookup f_reach = some ⟨oc_reach, od_reach, .func (PySem.W.fnOf "reach" "reach" (defArgs s_reach) (defBody s_reach) (defScope s_reach) .none kV_reach dc_reach pm_reach an_reach cd_reach ct_reach), sl_reach⟩)
    (c_reach : PySem.W.codeIn K cd_reach "reach" = true)
    (k_reach : PySem.W.keepIn K (.ref f_reach) = true)
    (a_law_numbers : PySem.W.nsIn K mainGlobals "_law_numbers" = some (some (.ref f_law_numbers)))
    (l_law_numbers : K.lookup f_law_numbers = some ⟨oc_law_numbers, od_law_numbers, .func (PySem.W.fnOf "_law_numbers" "_law_numbers" (defArgs s_law_numbers) (defBody s_law_numbers) (defScope s_law_numbers) .none kV_law_numbers dc_law_numbers pm_law_numbers an_law_numbers cd_law_numbers ct_law_numbers), sl_law_numbers⟩)
    (c_law_numbers : PySem.W.codeIn K cd_law_numbers "_law_numbers" = true)
    (k_law_numbers : PySem.W.keepIn K (.ref f_law_numbers) = true)
    (a_law_rows : PySem.W.nsIn K mainGlobals "_law_rows" = some (some (.ref f_law_rows)))
    (l_law_rows : K.lookup f_law_rows = some ⟨oc_law_rows, od_law_rows, .func (PySem.W.fnOf "_law_rows" "_law_rows" (defArgs s_law_rows) (defBody s_law_rows) (defScope s_law_rows) .none kV_law_rows dc_law_rows pm_law_rows an_law_rows cd_law_rows ct_law_rows), sl_law_rows⟩)
    (c_law_rows : PySem.W.codeIn K cd_law_rows "_law_rows" = true)
    (k_law_rows : PySem.W.keepIn K (.ref f_law_rows) = true)
    (a_law : PySem.W.nsIn K mainGlobals "law" = some (some (.ref f_law)))
    (l_law : K.lookup f_law = some ⟨oc_law, od_law, .func (PySem.W.fnOf "law" "law" (defArgs s_law) (defBody s_law) (defScope s_law) .none kV_law dc_law pm_law an_law cd_law ct_law), sl_law⟩)
    (c_law : PySem.W.codeIn K cd_law "law" = true)
    (k_law : PySem.W.keepIn K (.ref f_law) = true)
    (z_bool : PySem.W.nsIn K mainGlobals "bool" = some none)
    (z_int : PySem.W.nsIn K mainGlobals "int" = some none)
    (z_isinstance : PySem.W.nsIn K mainGlobals "isinstance" = some none)
    (z_len : PySem.W.nsIn K mainGlobals "len" = some none)
    (z_list : PySem.W.nsIn K mainGlobals "list" = some none)
    (z_min : PySem.W.nsIn K mainGlobals "min" = some none)
    (z_range : PySem.W.nsIn K mainGlobals "range" = some none)
    (z_sorted : PySem.W.nsIn K mainGlobals "sorted" = some none)
    : ∃ fd : FuncData, (∀ (s : Shared) (v : Value), BindsTo s fd ⟨[v], []⟩ [("_law_script", v)]) ∧ ∀ base : Heap, K.In base → base.Ns mainGlobals mg → FnOk l.prog w K mg base (L2.CX l.prog w) 3 fa fd ["_law_script"] (lift (P_law K Ex0)) := by
  have e := hfa.symm.trans (PySem.W.mg_of X G a_law)
  cases e
  have F_law_cell_at := fun_mk (st := s_law_cell_at) l_law_cell_at c_law_cell_at k_law_cell_at
  have F_law_whole := fun_mk (st := s_law_whole) l_law_whole c_law_whole k_law_whole
  have F_law_came := fun_mk (st := s_law_came) l_law_came c_law_came k_law_came
  have F_reach := fun_mk (st := s_reach) l_reach c_reach k_reach
  have F_law_numbers := fun_mk (st := s_law_numbers) l_law_numbers c_law_numbers k_law_numbers
  have F_law_rows := fun_mk (st := s_law_rows) l_law_rows c_law_rows k_law_rows
  have F_law := fun_mk (st := s_law) l_law c_law k_law
  have b_law_cell_at := F_law_cell_at.binds (ps := ["_law_script", "_law_k"]) fun _ _ _ _ _ _ us hl => match us, hl with | [_, _], _ => rfl
  have b_law_whole := F_law_whole.binds (ps := ["_law_found"]) fun _ _ _ _ _ _ us hl => match us, hl with | [_], _ => rfl
  have b_law_came := F_law_came.binds (ps := ["_law_rows_here", "_law_starts"]) fun _ _ _ _ _ _ us hl => match us, hl with | [_, _], _ => rfl
  have b_reach := F_reach.binds (ps := ["rows", "starts"]) fun _ _ _ _ _ _ us hl => match us, hl with | [_, _], _ => rfl
  have b_law_numbers := F_law_numbers.binds (ps := ["_law_found", "_law_due"]) fun _ _ _ _ _ _ us hl => match us, hl with | [_, _], _ => rfl
  have b_law_rows := F_law_rows.binds (ps := ["_law_script", "_law_size"]) fun _ _ _ _ _ _ us hl => match us, hl with | [_, _], _ => rfl
  have b_law := F_law.binds (ps := ["_law_script"]) fun _ _ _ _ _ _ us hl => match us, hl with | [_], _ => rfl
  let D : Dd := { f_law_cell_at := f_law_cell_at, d_law_cell_at := PySem.W.fnOf "_law_cell_at" "_law_cell_at" (defArgs s_law_cell_at) (defBody s_law_cell_at) (defScope s_law_cell_at) .none kV_law_cell_at dc_law_cell_at pm_law_cell_at an_law_cell_at cd_law_cell_at ct_law_cell_at, f_law_whole := f_law_whole, d_law_whole := PySem.W.fnOf "_law_whole" "_law_whole" (defArgs s_law_whole) (defBody s_law_whole) (defScope s_law_whole) .none kV_law_whole dc_law_whole pm_law_whole an_law_whole cd_law_whole ct_law_whole, f_law_came := f_law_came, d_law_came := PySem.W.fnOf "_law_came" "_law_came" (defArgs s_law_came) (defBody s_law_came) (defScope s_law_came) .none kV_law_came dc_law_came pm_law_came an_law_came cd_law_came ct_law_came, f_reach := f_reach, d_reach := PySem.W.fnOf "reach" "reach" (defArgs s_reach) (defBody s_reach) (defScope s_reach) .none kV_reach dc_reach pm_reach an_reach cd_reach ct_reach, f_law_numbers := f_law_numbers, d_law_numbers := PySem.W.fnOf "_law_numbers" "_law_numbers" (defArgs s_law_numbers) (defBody s_law_numbers) (defScope s_law_numbers) .none kV_law_numbers dc_law_numbers pm_law_numbers an_law_numbers cd_law_numbers ct_law_numbers, f_law_rows := f_law_rows, d_law_rows := PySem.W.fnOf "_law_rows" "_law_rows" (defArgs s_law_rows) (defBody s_law_rows) (defScope s_law_rows) .none kV_law_rows dc_law_rows pm_law_rows an_law_rows cd_law_rows ct_law_rows, f_law := fa, d_law := PySem.W.fnOf "law" "law" (defArgs s_law) (defBody s_law) (defScope s_law) .none kV_law dc_law pm_law an_law cd_law ct_law }
  let A : Ex := { Heap := 0, HeapError := 0, NoHand := 0, NoSlot := 0, NoRoom := 0, NothingHeld := 0, NoBox := 0, NoWork := 0, NoHeap := 0, NoDeed := 0 }
  have T : Txt K mg A D := { F_law_cell_at := F_law_cell_at, b_law_cell_at := b_law_cell_at, m_law_cell_at := PySem.W.mg_of X G a_law_cell_at, k_law_cell_at := k_law_cell_at, F_law_whole := F_law_whole, b_law_whole := b_law_whole, m_law_whole := PySem.W.mg_of X G a_law_whole, k_law_whole := k_law_whole, F_law_came := F_law_came, b_law_came := b_law_came, m_law_came := PySem.W.mg_of X G a_law_came, k_law_came := k_law_came, F_reach := F_reach, b_reach := b_reach, m_reach := PySem.W.mg_of X G a_reach, k_reach := k_reach, F_law_numbers := F_law_numbers, b_law_numbers := b_law_numbers, m_law_numbers := PySem.W.mg_of X G a_law_numbers, k_law_numbers := k_law_numbers, F_law_rows := F_law_rows, b_law_rows := b_law_rows, m_law_rows := PySem.W.mg_of X G a_law_rows, k_law_rows := k_law_rows, F_law := F_law, b_law := b_law, m_law := PySem.W.mg_of X G a_law, k_law := k_law, z_bool := PySem.W.mg_none_of X G z_bool, z_int := PySem.W.mg_none_of X G z_int, z_isinstance := PySem.W.mg_none_of X G z_isinstance, z_len := PySem.W.mg_none_of X G z_len, z_list := PySem.W.mg_none_of X G z_list, z_min := PySem.W.mg_none_of X G z_min, z_range := PySem.W.mg_none_of X G z_range, z_sorted := PySem.W.mg_none_of X G z_sorted }
  refine ⟨D.d_law, fun s v => .of_eq rfl, fun base _ _ => ?_⟩
  have G_law_cell_at := ok_law_cell_at (P := l.prog) (w := w) (base := base) T 
  have G_law_whole := ok_law_whole (P := l.prog) (w := w) (base := base) T 
  have G_law_came := ok_law_came (P := l.prog) (w := w) (base := base) T 
  have G_reach := ok_reach (P := l.prog) (w := w) (base := base) T 
  have G_law_numbers := ok_law_numbers (P := l.prog) (w := w) (base := base) T G_law_whole
  have G_law_rows := ok_law_rows (P := l.prog) (w := w) (base := base) T G_law_cell_at
  exact ok_law T G_law_rows G_law_cell_at G_reach G_law_numbers G_law_came
theorem walk {l : PySem.W.OpenLaw} {q : Program} {loose : List Str} {XP : (Str → Option Value) → Heap → Prop} {YP : World → Heap → Prop} {d : DefRec} {K : Params → PySem.W.Frag} (hn : l.most = some 63) (hdf : d.params.defaults = [])
    (hY : ∀ (w : World) (h : Heap), YP w h → (K w.params).In h)
    (F : ∀ (w : World) (mg : Str → Option Value) (fa : Addr) (h : Heap), (K w.params).In h → h.Ns mainGlobals mg → mg d.name = some (.ref fa) →
      ∃ fd : FuncData, (∀ (s : Shared) (u : Value), BindsTo s fd ⟨[u], []⟩ [("_law_script", u)]) ∧ ∀ base : Heap, (K w.params).In base → base.Ns mainGlobals mg → FnOk l.prog w (K w.params) mg base (L2.CX l.prog w) 3 fa fd ["_law_script"] (lift (P_law (K w.params) Ex0))) :
    PySem.W.WalkO q loose XP YP l.row.toRowW d [] (fun f vs => PySem.call f vs) :=
  L2.walk_of (n := 63) (k := 3) (x := "_law_script") (CX := fun w => L2.CX l.prog w) (sp := fun w => lift (P_law (K w.params) Ex0)) hn (by decide) hdf ⟨rfl, by decide, by decide⟩ hY F (fun w H a ns hl _ hS => law_start hl hS) fun _ _ _ _ _ z => by
    obtain ⟨_, _, _, _, _, _, _, _, _, _, _, _, z⟩ := z
    exact z
end Mp
open PySem PySem.W PyProof.Rows
set_option maxRecDepth 100000 in
set_option maxHeartbeats 0 in
theorem PySem.Challenge.cw_markpause_k01_reach_holds : PySem.Challenge.rw_markpause_k01_reach.Holds := by
  w_on; o_law; k_head; (case hw => w_witness2)
  k_fill
  refine Mp.walk (l := PySem.Challenge.rw_markpause_k01_reach) rfl rfl (fun w h Y => PySem.W.kIn_of Y) ?F
  case F =>
    intro w mg fa h KX G hmg
    refine' Mp.all_mk KX G hmg ?a_law_cell_at ?l_law_cell_at ?c_law_cell_at ?k_law_cell_at ?a_law_whole ?l_law_whole ?c_law_whole ?k_law_whole ?a_law_came ?l_law_came ?c_law_came ?k_law_came ?a_reach ?l_reach ?c_reach ?k_reach ?a_law_numbers ?l_law_numbers ?c_law_numbers ?k_law_numbers ?a_law_rows ?l_law_rows ?c_law_rows ?k_law_rows ?a_law ?l_law ?c_law ?k_law ?z_bool ?z_int ?z_isinstance ?z_len ?z_list ?z_min ?z_range ?z_sorted
    (case a_law_cell_at => k_is)
    (case l_law_cell_at => k_is)
    (case c_law_cell_at => k_is)
    (case k_law_cell_at => k_is)
    (case a_law_whole => k_is)
    (case l_law_whole => k_is)
    (case c_law_whole => k_is)
    (case k_law_whole => k_is)
    (case a_law_came => k_is)
    (case l_law_came => k_is)
    (case c_law_came => k_is)
    (case k_law_came => k_is)
    (case a_reach => k_is)
    (case l_reach => k_is)
    (case c_reach => k_is)
    (case k_reach => k_is)
    (case a_law_numbers => k_is)
    (case l_law_numbers => k_is)
    (case c_law_numbers => k_is)
    (case k_law_numbers => k_is)
    (case a_law_rows => k_is)
    (case l_law_rows => k_is)
    (case c_law_rows => k_is)
    (case k_law_rows => k_is)
    (case a_law => k_is)
    (case l_law => k_is)
    (case c_law => k_is)
    (case k_law => k_is)
    (case z_bool => k_is)
    (case z_int => k_is)
    (case z_isinstance => k_is)
    (case z_len => k_is)
    (case z_list => k_is)
    (case z_min => k_is)
    (case z_range => k_is)
    (case z_sorted => k_is)

