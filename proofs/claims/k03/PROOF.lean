import PyProof.Rows.All
import Wide.All
import OpenK.AllK
import Wide.FinOn
import HandS.ForMost
import HandS.Text
import HandS.ForExc
import HandS.SortInts
import HandS.IsInst
import HandS.Conv
import HandS.SetFor
import HandS.ExcIs
import HandS.ExcCtx
import HandS.Hot
import HandS.HotCalls
import PySem.Challenge.RW_markpause_k03_read
set_option Elab.async false
set_option linter.all false
set_option maxRecDepth 100000
set_option maxHeartbeats 4000000
/-! A small separation layer: what stands in the heap is told by a list of assertions, each over cells of its own; the readings of the hand layer are then read over such lists. -/
namespace Mp
open PySem L2
abbrev Asn := Hp → Prop
abbrev AL := List Asn
def Sub (h H : Hp) : Prop := ∀ a o, h a = some o → H a = some o
def Dj (h k : Hp) : Prop := ∀ a, h a = none ∨ k a = none
def un (h k : Hp) : Hp := fun a => match h a with | some o => some o | none => k a
theorem Sub.refl (h : Hp) : Sub h h := fun _ _ e => e
theorem Sub.trans {a b c : Hp} (x : Sub a b) (y : Sub b c) : Sub a c := fun p o e => y p o (x p o e)
theorem Dj.symm {h k : Hp} (d : Dj h k) : Dj k h := fun a => (d a).symm
theorem Dj.sub {h k h' k' : Hp} (d : Dj h k) (x : Sub h' h) (y : Sub k' k) : Dj h' k' := fun a => by
  cases e : h' a with
  | none => exact .inl rfl
  | some o =>
    cases e2 : k' a with
    | none => exact .inr rfl
    | some u =>
      rcases d a with z | z
      · rw [x a o e] at z; cases z
      · rw [y a u e2] at z; cases z
theorem un_l {h k : Hp} : Sub h (un h k) := fun a o e => by unfold un; rw [e]
theorem un_r {h k : Hp} (d : Dj h k) : Sub k (un h k) := fun a o e => by
  unfold un
  rcases d a with z | z
  · rw [z]; exact e
  · rw [e] at z; cases z
theorem un_sub {h k H : Hp} (x : Sub h H) (y : Sub k H) : Sub (un h k) H := fun a o e => by
  unfold un at e
  cases q : h a with
  | some u => rw [q] at e; cases e; exact x a _ q
  | none => rw [q] at e; exact y a o e
theorem dj_un {h k l : Hp} (x : Dj h k) (y : Dj h l) : Dj h (un k l) := fun a => by
  rcases x a with z | z
  · exact .inl z
  · rcases y a with z2 | z2
    · exact .inl z2
    · right; unfold un; rw [z]; exact z2
def Sep : AL → Hp → Prop
  | [], _ => True
  | A :: L, H => ∃ h k, Sub h H ∧ Sub k H ∧ Dj h k ∧ A h ∧ Sep L k
def pt (a : Addr) (o : HO) : Asn := fun h => h a = some o
def Star (L : AL) : Asn := fun h => Sep L h
def Exi {α : Type} (f : α → Asn) : Asn := fun h => ∃ x, f x h
def Pr (p : Prop) : Asn := fun _ => p
def Ent (L M : AL) : Prop := ∀ H, Sep L H → Sep M H
theorem Sep.mono : ∀ {L : AL} {H H' : Hp}, Sub H H' → Sep L H → Sep L H'
  | [], _, _, _, _ => True.intro
  | _ :: _, _, _, x, ⟨h, k, a, b, d, p, q⟩ => ⟨h, k, a.trans x, b.trans x, d, p, q⟩
theorem Sep.tail {A : Asn} {L : AL} {H : Hp} (s : Sep (A :: L) H) : Sep L H := by
  obtain ⟨h, k, a, b, d, p, q⟩ := s
  exact q.mono b
theorem Ent.refl (L : AL) : Ent L L := fun _ s => s
theorem Ent.trans {L M N : AL} (a : Ent L M) (b : Ent M N) : Ent L N := fun H s => b H (a H s)
theorem Ent.cons {A : Asn} {L M : AL} (e : Ent L M) : Ent (A :: L) (A :: M) := fun _ ⟨h, k, a, b, d, p, q⟩ => ⟨h, k, a, b, d, p, e k q⟩
theorem Ent.drop {A : Asn} {L : AL} : Ent (A :: L) L := fun _ s => s.tail
theorem ent_swap {A B : Asn} {L : AL} : Ent (A :: B :: L) (B :: A :: L) := by
  rintro H ⟨h1, k1, a1, b1, d1, p1, h2, k2, a2, b2, d2, p2, q⟩
  have e1 : Dj h1 h2 := d1.sub (Sub.refl _) a2
  have e2 : Dj h1 k2 := d1.sub (Sub.refl _) b2
  refine ⟨h2, un h1 k2, a2.trans b1, un_sub a1 (b2.trans b1), dj_un e1.symm d2, p2, h1, k2, un_l, un_r e2, e2, p1, q⟩
theorem ent_perm {L M : AL} (p : L.Perm M) : Ent L M := by
  induction p with
  | nil => exact Ent.refl _
  | cons x _ ih => exact ih.cons
  | swap x y l => exact ent_swap
  | trans _ _ a b => exact a.trans b
theorem ent_pick : ∀ {L : AL} (i : Nat) {A : Asn}, L[i]? = some A → Ent L (A :: L.eraseIdx i)
  | [], _, _, h => by simp at h
  | B :: L, 0, A, h => by
    have e : B = A := Option.some.inj h
    subst e
    exact Ent.refl _
  | B :: L, i + 1, A, h => by
    have ih := ent_pick (L := L) i (A := A) h
    exact (Ent.cons ih).trans ent_swap
theorem ent_put : ∀ {L : AL} (i : Nat) {A : Asn}, i ≤ L.length → Ent (A :: L) (L.insertIdx i A)
  | L, 0, A, _ => Ent.refl _
  | [], i + 1, A, h => absurd h (by simp)
  | B :: L, i + 1, A, h => by
    have ih := ent_put (L := L) i (A := A) (Nat.le_of_succ_le_succ h)
    exact ent_swap.trans (Ent.cons ih)
theorem ent_unstar : ∀ {Ls R : AL}, Ent (Star Ls :: R) (Ls ++ R)
  | [], R => Ent.drop
  | A :: Ls, R => by
    rintro H ⟨h, k, a, b, d, ⟨h1, h2, a1, b1, d1, p1, q1⟩, q⟩
    have e1 : Dj h1 k := d.sub a1 (Sub.refl _)
    have e2 : Dj h2 k := d.sub b1 (Sub.refl _)
    refine ⟨h1, un h2 k, a1.trans a, un_sub (b1.trans a) b, dj_un d1 e1, p1, ?_⟩
    exact ent_unstar (Ls := Ls) (R := R) _ ⟨h2, k, un_l, un_r e2, e2, q1, q⟩
theorem ent_star : ∀ {Ls R : AL}, Ent (Ls ++ R) (Star Ls :: R)
  | [], R => fun H s => ⟨fun _ => none, H, (fun _ _ e => nomatch e), Sub.refl _, fun _ => .inl rfl, True.intro, s⟩
  | A :: Ls, R => by
    rintro H ⟨h1, k, a, b, d, p, q⟩
    obtain ⟨h2, k2, a2, b2, d2, p2, q2⟩ := ent_star (Ls := Ls) (R := R) k q
    have e1 : Dj h1 h2 := d.sub (Sub.refl _) a2
    have e2 : Dj h1 k2 := d.sub (Sub.refl _) b2
    refine ⟨un h1 h2, k2, un_sub a (a2.trans b), b2.trans b, (dj_un e2.symm d2.symm).symm, ⟨h1, h2, un_l, un_r e1, e1, p, p2⟩, q2⟩
theorem sep_exi {α : Type} {f : α → Asn} {L : AL} {H : Hp} (s : Sep (Exi f :: L) H) : ∃ x, Sep (f x :: L) H := by
  obtain ⟨h, k, a, b, d, ⟨x, p⟩, q⟩ := s
  exact ⟨x, h, k, a, b, d, p, q⟩
theorem ent_exi {α : Type} {f : α → Asn} {L : AL} (x : α) : Ent (f x :: L) (Exi f :: L) := by
  rintro H ⟨h, k, a, b, d, p, q⟩
  exact ⟨h, k, a, b, d, ⟨x, p⟩, q⟩
theorem sep_pr {p : Prop} {L : AL} {H : Hp} (s : Sep (Pr p :: L) H) : p ∧ Sep L H := by
  obtain ⟨h, k, a, b, d, x, q⟩ := s
  exact ⟨x, q.mono b⟩
theorem ent_pr {p : Prop} {L : AL} (h : p) : Ent L (Pr p :: L) := fun H s => ⟨fun _ => none, H, (fun _ _ e => nomatch e), Sub.refl _, fun _ => .inl rfl, h, s⟩
/-! ### what stands at an address; a store; a new object -/
def Has (L : AL) (a : Addr) (o : HO) : Prop := ∀ H, Sep L H → H a = some o
theorem has_hd {a : Addr} {o : HO} {L : AL} : Has (pt a o :: L) a o := fun _ ⟨_, _, x, _, _, p, _⟩ => x _ _ p
theorem has_tl {a : Addr} {o : HO} {A : Asn} {L : AL} (h : Has L a o) : Has (A :: L) a o := fun _ s => h _ s.tail
theorem Has.ent {L M : AL} {a : Addr} {o : HO} (h : Has M a o) (e : Ent L M) : Has L a o := fun H s => h H (e H s)
def Wr (L : AL) (a : Addr) (o : HO) (M : AL) : Prop := ∀ H, Sep L H → (∃ u, H a = some u) ∧ Sep M (upd H a o)
def one (a : Addr) (o : HO) : Hp := fun b => if b = a then some o else none
theorem one_sub {a : Addr} {o : HO} {H : Hp} : Sub (one a o) (upd H a o) := fun b u e => by
  unfold one at e
  by_cases h : b = a
  · rw [if_pos h] at e; cases e; subst h; exact upd_same
  · rw [if_neg h] at e; cases e
theorem wr_hd {a : Addr} {o u : HO} {L : AL} : Wr (pt a u :: L) a o (pt a o :: L) := by
  rintro H ⟨h, k, x, y, d, p, q⟩
  have hk : k a = none := by
    rcases d a with z | z
    · rw [show h a = some u from p] at z; cases z
    · exact z
  refine ⟨⟨u, x _ _ p⟩, one a o, k, one_sub, fun b w e => ?_, fun b => ?_, by unfold pt one; rw [if_pos rfl], q⟩
  · rw [upd_ne (fun z => by rw [z, hk] at e; cases e)]; exact y b w e
  · by_cases h : b = a
    · right; rw [h]; exact hk
    · left; unfold one; rw [if_neg h]
theorem wr_tl {a : Addr} {o : HO} {A : Asn} {L M : AL} (w : Wr L a o M) : Wr (A :: L) a o (A :: M) := by
  rintro H ⟨h, k, x, y, d, p, q⟩
  obtain ⟨⟨u, hu⟩, s⟩ := w k q
  have ha : h a = none := by
    rcases d a with z | z
    · exact z
    · rw [hu] at z; cases z
  refine ⟨⟨u, y _ _ hu⟩, h, upd k a o, fun b w e => ?_, fun b w e => ?_, fun b => ?_, p, s⟩
  · rw [upd_ne (fun z => by rw [z, ha] at e; cases e)]; exact x b w e
  · by_cases z : b = a
    · subst z; rw [upd_same] at e ⊢; exact e
    · rw [upd_ne z] at e ⊢; exact y b w e
  · by_cases z : b = a
    · left; rw [z]; exact ha
    · rw [upd_ne z]; exact d b
theorem Wr.ent {L L' M : AL} {a : Addr} {o : HO} (w : Wr L' a o M) (e : Ent L L') : Wr L a o M := fun H s => w H (e H s)
theorem Wr.to {L M M' : AL} {a : Addr} {o : HO} (w : Wr L a o M) (e : Ent M M') : Wr L a o M' := fun H s => ⟨(w H s).1, e _ (w H s).2⟩
theorem sep_new {a : Addr} {o : HO} {L : AL} {H : Hp} (s : Sep L H) (n : H a = none) : Sep (pt a o :: L) (upd H a o) :=
  ⟨one a o, H, one_sub, fun b w e => by rw [upd_ne (fun z => by rw [z, n] at e; cases e)]; exact e, fun b => by
    by_cases h : b = a
    · right; rw [h]; exact n
    · left; unfold one; rw [if_neg h], by unfold pt one; rw [if_pos rfl], s⟩
/-! ### readings over lists of assertions -/
def SE (te : TE) (σ : L2.St) (L : AL) (Q : V → AL → Prop) : Prop := ∀ H, Sep L H → ∀ Qh : VK, (∀ v L' H', Sep L' H' → Q v L' → Qh v H') → te σ H Qh
def ST (tt : TT) (σ : L2.St) (L : AL) (Q : Bool → AL → Prop) : Prop := ∀ H, Sep L H → ∀ Qh : Bool → Hp → Prop, (∀ v L' H', Sep L' H' → Q v L' → Qh v H') → tt σ H Qh
def SA (ta : TA) (σ : L2.St) (L : AL) (Q : List V → AL → Prop) : Prop := ∀ H, Sep L H → ∀ Qh : List V → Hp → Prop, (∀ v L' H', Sep L' H' → Q v L' → Qh v H') → ta σ H Qh
def SO (to : TO) (σ : L2.St) (L : AL) (Q : Option Int → AL → Prop) : Prop := ∀ H, Sep L H → ∀ Qh : Option Int → Hp → Prop, (∀ v L' H', Sep L' H' → Q v L' → Qh v H') → to σ H Qh
def RE (r : Hp → VK → Prop) (L : AL) (Q : V → AL → Prop) : Prop := ∀ H, Sep L H → ∀ Qh : VK, (∀ v L' H', Sep L' H' → Q v L' → Qh v H') → r H Qh
def RS (r : Hp → (Hp → Prop) → Prop) (L : AL) (Q : AL → Prop) : Prop := ∀ H, Sep L H → ∀ Qh : Hp → Prop, (∀ L' H', Sep L' H' → Q L' → Qh H') → r H Qh
structure EA where
  nx : L2.St → AL → Prop
  rt : V → AL → Prop
  bk : L2.St → AL → Prop := fun _ _ => False
  ct : L2.St → AL → Prop := fun _ _ => False
structure EA.Le (D : EA) (E : Ends) : Prop where
  nx : ∀ σ L H, Sep L H → D.nx σ L → E.nx σ H
  rt : ∀ v L H, Sep L H → D.rt v L → E.rt v H
  bk : ∀ σ L H, Sep L H → D.bk σ L → E.bk σ H
  ct : ∀ σ L H, Sep L H → D.ct σ L → E.ct σ H
def SS (t : TS) (D : EA) (σ : L2.St) (L : AL) : Prop := ∀ H, Sep L H → ∀ E : Ends, D.Le E → t E σ H
section
variable {K : PySem.W.Frag} {σ : L2.St} {L M : AL} {te ta tb tv : TE} {Q : V → AL → Prop} {t u : TS} {D : EA} {tt tu : TT} {QB : Bool → AL → Prop} {QA : List V → AL → Prop}
theorem e_ent (e : Ent L M) (h : SE te σ M Q) : SE te σ L Q := fun H s Qh k => h H (e H s) Qh k
theorem s_ent (e : Ent L M) (h : SS t D σ M) : SS t D σ L := fun H s Qh k => h H (e H s) Qh k
theorem t_ent (e : Ent L M) (h : ST tt σ M QB) : ST tt σ L QB := fun H s Qh k => h H (e H s) Qh k
theorem r_ent {r : Hp → VK → Prop} (e : Ent L M) (h : RE r M Q) : RE r L Q := fun H s Qh k => h H (e H s) Qh k
theorem e_mono {Q' : V → AL → Prop} (h : SE te σ L Q) (m : ∀ v L', Q v L' → Q' v L') : SE te σ L Q' := fun H s Qh k => h H s Qh fun v L' H' s' q => k v L' H' s' (m v L' q)
theorem t_mono {Q' : Bool → AL → Prop} (h : ST tt σ L QB) (m : ∀ v L', QB v L' → Q' v L') : ST tt σ L Q' := fun H s Qh k => h H s Qh fun v L' H' s' q => k v L' H' s' (m v L' q)
/-- what the list tells may be used -/
theorem s_use {P : Prop} (h : ∀ H, Sep L H → P) (k : P → SS t D σ L) : SS t D σ L := fun H s => k (h H s) H s
theorem e_use {P : Prop} (h : ∀ H, Sep L H → P) (k : P → SE te σ L Q) : SE te σ L Q := fun H s => k (h H s) H s
theorem s_exi {α : Type} {f : α → Asn} {R : AL} (k : ∀ x, SS t D σ (f x :: R)) : SS t D σ (Exi f :: R) := fun H s => by
  obtain ⟨x, s⟩ := sep_exi s
  exact k x H s
theorem e_exi {α : Type} {f : α → Asn} {R : AL} (k : ∀ x, SE te σ (f x :: R) Q) : SE te σ (Exi f :: R) Q := fun H s => by
  obtain ⟨x, s⟩ := sep_exi s
  exact k x H s
theorem s_pr {p : Prop} {R : AL} (k : p → SS t D σ R) : SS t D σ (Pr p :: R) := fun H s => by
  obtain ⟨x, s⟩ := sep_pr s
  exact k x H s
theorem s_mono {D' : EA} (h : SS t D σ L) (m1 : ∀ σ L, D.nx σ L → D'.nx σ L) (m2 : ∀ v L, D.rt v L → D'.rt v L) (m3 : ∀ σ L, D.bk σ L → D'.bk σ L) (m4 : ∀ σ L, D.ct σ L → D'.ct σ L) : SS t D' σ L := fun H s E le =>
  h H s E ⟨fun σ L H s q => le.nx σ L H s (m1 σ L q), fun v L H s q => le.rt v L H s (m2 v L q), fun σ L H s q => le.bk σ L H s (m3 σ L q), fun σ L H s q => le.ct σ L H s (m4 σ L q)⟩
/-! ### expressions -/
theorem e_var {i : Nat} {v : V} (h : σ[i]? = some (some v)) (q : Q v L) : SE (tVar i) σ L Q := fun H s Qh k => ⟨v, h, k _ _ _ s q⟩
theorem e_c {v : V} (q : Q v L) : SE (tC v) σ L Q := fun H s Qh k => k _ _ _ s q
theorem e_op {r : R2} (h : SE ta σ L fun x L1 => SE tb σ L1 fun y L2 => RE (r x y) L2 Q) : SE (tOp r ta tb) σ L Q := fun H s Qh k =>
  h H s _ fun x L1 H1 s1 h1 => h1 H1 s1 _ fun y L2 H2 s2 h2 => h2 H2 s2 Qh k
theorem e_un {r : V → Hp → VK → Prop} (h : SE ta σ L fun x L1 => RE (r x) L1 Q) : SE (tUn r ta) σ L Q := fun H s Qh k =>
  h H s _ fun x L1 H1 s1 h1 => h1 H1 s1 Qh k
def rFld (K : PySem.W.Frag) (f : Str) (x : V) : Hp → VK → Prop := fun H1 Q => ∃ a C dx fs v, x = .ref a ∧ H1 a = some (.ins C dx fs) ∧ Cls K C ∧ NoAttr K C f ∧ fs.lookup f = some v ∧ Q v H1
theorem e_fld {f : Str} (h : SE ta σ L fun x L1 => RE (rFld K f x) L1 Q) : SE (tFld K ta f) σ L Q := fun H s Qh k =>
  h H s _ fun x L1 H1 s1 h1 => h1 H1 s1 Qh k
theorem r_fld {f : Str} {a C dx : Addr} {fs : List (Str × V)} {v : V} (c : Cls K C) (n : NoAttr K C f) (h : Has L a (.ins C dx fs)) (l : fs.lookup f = some v) (q : Q v L) : RE (rFld K f (.ref a)) L Q := fun H s Qh k =>
  ⟨a, C, dx, fs, v, rfl, h H s, c, n, l, k _ _ _ s q⟩
theorem e_chain {r r' : R2} {tc : TE} (h : SE ta σ L fun x L1 => SE tb σ L1 fun y L2 => RE (r x y) L2 fun z L3 => ∃ b, z = .bl b ∧ (b = true → SE tc σ L3 fun w L4 => RE (r' y w) L4 Q) ∧ (b = false → Q (.bl false) L3)) : SE (tChain r r' ta tb tc) σ L Q := fun H s Qh k =>
  h H s _ fun x L1 H1 s1 h1 => h1 H1 s1 _ fun y L2 H2 s2 h2 => h2 H2 s2 _ fun z L3 H3 s3 ⟨b, e, ht, hf⟩ => ⟨b, e, by
    cases b with
    | true => rw [if_pos rfl]; exact ht rfl H3 s3 _ fun w L4 H4 s4 h4 => h4 H4 s4 Qh k
    | false => rw [if_neg Bool.false_ne_true]; exact k _ _ _ s3 (hf rfl)⟩
theorem e_andV (h : SE ta σ L fun x L1 => ∃ b, x = .bl b ∧ (b = true → SE tb σ L1 Q) ∧ (b = false → Q (.bl false) L1)) : SE (tAndV ta tb) σ L Q := fun H s Qh k =>
  h H s _ fun x L1 H1 s1 ⟨b, e, ht, hf⟩ => ⟨b, e, by
    cases b with
    | true => rw [if_pos rfl]; exact ht rfl H1 s1 Qh k
    | false => rw [if_neg Bool.false_ne_true]; exact k _ _ _ s1 (hf rfl)⟩
theorem e_orV (h : SE ta σ L fun x L1 => ∃ b, x = .bl b ∧ (b = true → Q (.bl true) L1) ∧ (b = false → SE tb σ L1 Q)) : SE (tOrV ta tb) σ L Q := fun H s Qh k =>
  h H s _ fun x L1 H1 s1 ⟨b, e, ht, hf⟩ => ⟨b, e, by
    cases b with
    | true => rw [if_pos rfl]; exact k _ _ _ s1 (ht rfl)
    | false => rw [if_neg Bool.false_ne_true]; exact hf rfl H1 s1 Qh k⟩
theorem e_notV (h : SE ta σ L fun x L1 => ∃ b, x = .bl b ∧ Q (.bl (!b)) L1) : SE (tNotV ta) σ L Q := fun H s Qh k =>
  h H s _ fun x L1 H1 s1 ⟨b, e, q⟩ => ⟨b, e, k _ _ _ s1 q⟩
theorem e_if (h : ST tt σ L fun b L1 => (b = true → SE ta σ L1 Q) ∧ (b = false → SE tb σ L1 Q)) : SE (tIf tt ta tb) σ L Q := fun H s Qh k =>
  h H s _ fun b L1 H1 s1 ⟨ht, hf⟩ => by
    cases b with
    | true => rw [if_pos rfl]; exact ht rfl H1 s1 Qh k
    | false => rw [if_neg Bool.false_ne_true]; exact hf rfl H1 s1 Qh k
/-! ### arguments -/
theorem a_nil (q : QA [] L) : SA tNil σ L QA := fun H s Qh k => k _ _ _ s q
theorem a_cons {tr : TA} (h : SE ta σ L fun x L1 => SA tr σ L1 fun xs L2 => QA (x :: xs) L2) : SA (tCons ta tr) σ L QA := fun H s Qh k =>
  h H s _ fun x L1 H1 s1 h1 => h1 H1 s1 _ fun xs L2 H2 s2 q => k _ _ _ s2 q
theorem e_lst {tr : TA} (h : SA tr σ L fun xs L1 => xs.length ≤ sizeLine ∧ ∀ p, Q (.ref p) (pt p (.lst xs) :: L1)) : SE (tLst tr) σ L Q := fun H s Qh k =>
  h H s _ fun xs L1 H1 s1 ⟨z, q⟩ => ⟨z, fun p hp => k _ _ _ (sep_new s1 hp) (q p)⟩
theorem e_tup {tr : TA} (h : SA tr σ L fun xs L1 => xs.length ≤ sizeLine ∧ ∀ p, Q (.ref p) (pt p (.tup xs) :: L1)) : SE (tTup tr) σ L Q := fun H s Qh k =>
  h H s _ fun xs L1 H1 s1 ⟨z, q⟩ => ⟨z, fun p hp => k _ _ _ (sep_new s1 hp) (q p)⟩
theorem e_cb {r : List V → Hp → VK → Prop} {tr : TA} (h : SA tr σ L fun xs L1 => RE (r xs) L1 Q) : SE (tCB r tr) σ L Q := fun H s Qh k =>
  h H s _ fun xs L1 H1 s1 h1 => h1 H1 s1 Qh k
/-! ### operators by values -/
theorem r_I0 {g : Int → Int → V} {i j : Int} (q : Q (g i j) L) : RE (rI0 g (.int i) (.int j)) L Q := fun H s Qh k => ⟨i, j, rfl, rfl, k _ _ _ s q⟩
theorem r_I {C : Int → Int → Prop} {g : Int → Int → V} {i j : Int} (c : C i j) (q : Q (g i j) L) : RE (rI C g (.int i) (.int j)) L Q := fun H s Qh k => ⟨i, j, rfl, rfl, c, k _ _ _ s q⟩
theorem r_eq {x y : V} (c : scal x y = true) (q : Q (.bl (decide (x = y))) L) : RE (rEq x y) L Q := fun H s Qh k => ⟨c, k _ _ _ s q⟩
theorem r_ne {x y : V} (c : scal x y = true) (q : Q (.bl (!decide (x = y))) L) : RE (rNe x y) L Q := fun H s Qh k => ⟨c, k _ _ _ s q⟩
def rIsNo : R2 := fun x y H Q => y = .non ∧ Q (.bl (decide (x = .non))) H
def rNotNo : R2 := fun x y H Q => y = .non ∧ Q (.bl (!decide (x = .non))) H
theorem op_isNo {X : Cx} : OpR X (compareOp .Is) rIsNo := op_isN
theorem op_notNo {X : Cx} : OpR X (compareOp .IsNot) rNotNo := op_notN
theorem r_isNo {x : V} (q : Q (.bl (decide (x = .non))) L) : RE (rIsNo x .non) L Q := fun H s Qh k => ⟨rfl, k _ _ _ s q⟩
theorem r_notNo {x : V} (q : Q (.bl (!decide (x = .non))) L) : RE (rNotNo x .non) L Q := fun H s Qh k => ⟨rfl, k _ _ _ s q⟩
/-- lists that are read -/
def SqA (K : PySem.W.Frag) (L : AL) (a : Addr) (xs : List V) : Prop := ∀ H, Sep L H → SqL K H a xs
def TqA (K : PySem.W.Frag) (L : AL) (a : Addr) (xs : List V) : Prop := ∀ H, Sep L H → SqT K H a xs
theorem Has.sq {a : Addr} {xs : List V} (h : Has L a (.lst xs)) : SqA K L a xs := fun H s => SqL.of (h H s)
theorem Has.fq {a : Addr} {o : Obj} {xs : List V} (h : Has L a (.frz o (.lst xs))) : SqA K L a xs := fun H s => .inl (.inr ⟨o, h H s⟩)
theorem Has.tq {a : Addr} {xs : List V} (h : Has L a (.tup xs)) : TqA K L a xs := fun H s => SqT.of (h H s)
theorem r_ixL {a : Addr} {xs : List V} {i : Int} {v : V} (h : SqA K L a xs) (e : atI xs i = some v) (q : Q v L) : RE (rIxL K (.ref a) (.int i)) L Q := fun H s Qh k => ⟨a, xs, i, v, rfl, rfl, h H s, e, k _ _ _ s q⟩
theorem r_ixT {a : Addr} {xs : List V} {i : Int} {v : V} (h : TqA K L a xs) (e : atI xs i = some v) (q : Q v L) : RE (rIxT K (.ref a) (.int i)) L Q := fun H s Qh k => ⟨a, xs, i, v, rfl, rfl, h H s, e, k _ _ _ s q⟩
theorem r_ixS {z : Str} {i : Int} {c : Nat} (hz : z.length ≤ sizeLine) (e : atI z.cps.toList i = some c) (q : Q (.str ⟨#[c]⟩) L) : RE (rIxS (.str z) (.int i)) L Q := fun H s Qh k => ⟨z, i, c, rfl, rfl, hz, e, k _ _ _ s q⟩
theorem r_inL {neg : Bool} {a : Addr} {x : V} {xs : List V} (h : SqA K L a xs) (hx : flatV x = true) (hs : xs.all flatV = true) (q : Q (.bl (if neg then !inV x xs else inV x xs)) L) : RE (rIn K neg x (.ref a)) L Q :=
  fun H s Qh k => ⟨a, xs, rfl, .inl (h H s), hx, hs, k _ _ _ s q⟩
theorem r_inT {neg : Bool} {a : Addr} {x : V} {xs : List V} (h : TqA K L a xs) (hx : flatV x = true) (hs : xs.all flatV = true) (q : Q (.bl (if neg then !inV x xs else inV x xs)) L) : RE (rIn K neg x (.ref a)) L Q :=
  fun H s Qh k => ⟨a, xs, rfl, .inr (h H s), hx, hs, k _ _ _ s q⟩
theorem r_cat {a b : Addr} {xs ys : List V} (h : Has L a (.lst xs)) (h' : Has L b (.lst ys)) (z : xs.length + ys.length ≤ sizeLine) (q : ∀ p, Q (.ref p) (pt p (.lst (xs ++ ys)) :: L)) : RE (rCat (.ref a) (.ref b)) L Q := fun H s Qh k =>
  ⟨a, b, xs, ys, rfl, rfl, h H s, h' H s, z, fun p hp => k _ _ _ (sep_new s hp) (q p)⟩
theorem r_addS {x y : Str} (z : x.length + y.length ≤ sizeLine) (q : Q (.str (x ++ y)) L) : RE ((fun (x y : V) H Q => ∃ i j, x = .str i ∧ y = .str j ∧ i.length + j.length ≤ sizeLine ∧ Q (.str (i ++ j)) H : R2) (.str x) (.str y)) L Q := fun H s Qh k =>
  ⟨x, y, rfl, rfl, z, k _ _ _ s q⟩
/-! ### built-in functions -/
def rLen (K : PySem.W.Frag) : List V → Hp → VK → Prop := fun xs H Q => ∃ p ys, xs = [.ref p] ∧ (SqL K H p ys ∨ SqT K H p ys) ∧ Q (.int ys.length) H
def rListOf (K : PySem.W.Frag) : List V → Hp → VK → Prop := fun xs H Q => ∃ p ys, xs = [.ref p] ∧ (SqL K H p ys ∨ SqT K H p ys) ∧ ∀ l, H l = none → Q (.ref l) (upd H l (.lst ys))
def rLenS : List V → Hp → VK → Prop := fun xs H Q => ∃ z, xs = [.str z] ∧ z.length ≤ sizeLine ∧ Q (.int z.length) H
def rMax2 : List V → Hp → VK → Prop := fun xs H Q => ∃ i j, xs = [.int i, .int j] ∧ Q (.int (if j > i then j else i)) H
def rMin2 : List V → Hp → VK → Prop := fun xs H Q => ∃ i j, xs = [.int i, .int j] ∧ Q (.int (if j < i then j else i)) H
def rInt1 : List V → Hp → VK → Prop := fun xs H Q => (∃ i, xs = [.int i] ∧ Q (.int i) H) ∨ ∃ k, xs = [.bl k] ∧ Q (.int (if k then 1 else 0)) H
def rStrI : List V → Hp → VK → Prop := fun xs H Q => ∃ i, xs = [.int i] ∧ i.natAbs.log2 < 1920 ∧ Q (.str (toString i)) H
def rLenD : List V → Hp → VK → Prop := fun xs H Q => ∃ d kvs, xs = [.ref d] ∧ H d = some (.dK kvs) ∧ Q (.int (kvs.length : Int)) H
theorem cl_len {X : Cx} : CallR X (.builtin "len") (rLen X.K) := call_len_seq
theorem cl_lenS {X : Cx} : CallR X (.builtin "len") rLenS := call_len_str
theorem cl_list {X : Cx} : CallR X (.type "list") (rListOf X.K) := call_list_of
theorem cl_max2 {X : Cx} (hc : X.calm = true) : CallR X (.builtin "max") rMax2 := call_max2 hc
theorem cl_min2 {X : Cx} (hc : X.calm = true) : CallR X (.builtin "min") rMin2 := call_min2 hc
theorem cl_int1 {X : Cx} : CallR X (.type "int") rInt1 := call_int1
theorem cl_strI {X : Cx} : CallR X (.type "str") rStrI := call_str_int
theorem c_len {a : Addr} {xs : List V} (h : SqA K L a xs) (q : Q (.int xs.length) L) : RE (rLen K [.ref a]) L Q := fun H s Qh k => ⟨a, xs, rfl, .inl (h H s), k _ _ _ s q⟩
theorem c_lenT {a : Addr} {xs : List V} (h : TqA K L a xs) (q : Q (.int xs.length) L) : RE (rLen K [.ref a]) L Q := fun H s Qh k => ⟨a, xs, rfl, .inr (h H s), k _ _ _ s q⟩
theorem c_list {a : Addr} {xs : List V} (h : SqA K L a xs) (q : ∀ p, Q (.ref p) (pt p (.lst xs) :: L)) : RE (rListOf K [.ref a]) L Q := fun H s Qh k => ⟨a, xs, rfl, .inl (h H s), fun p hp => k _ _ _ (sep_new s hp) (q p)⟩
theorem c_listT {a : Addr} {xs : List V} (h : TqA K L a xs) (q : ∀ p, Q (.ref p) (pt p (.lst xs) :: L)) : RE (rListOf K [.ref a]) L Q := fun H s Qh k => ⟨a, xs, rfl, .inr (h H s), fun p hp => k _ _ _ (sep_new s hp) (q p)⟩
theorem c_lenS {z : Str} (hz : z.length ≤ sizeLine) (q : Q (.int z.length) L) : RE (rLenS [.str z]) L Q := fun H s Qh k => ⟨z, rfl, hz, k _ _ _ s q⟩
theorem c_max2 {i j : Int} (q : Q (.int (if j > i then j else i)) L) : RE (rMax2 [.int i, .int j]) L Q := fun H s Qh k => ⟨i, j, rfl, k _ _ _ s q⟩
theorem c_min2 {i j : Int} (q : Q (.int (if j < i then j else i)) L) : RE (rMin2 [.int i, .int j]) L Q := fun H s Qh k => ⟨i, j, rfl, k _ _ _ s q⟩
theorem c_intI {i : Int} (q : Q (.int i) L) : RE (rInt1 [.int i]) L Q := fun H s Qh k => .inl ⟨i, rfl, k _ _ _ s q⟩
theorem c_intB {b : Bool} (q : Q (.int (if b then 1 else 0)) L) : RE (rInt1 [.bl b]) L Q := fun H s Qh k => .inr ⟨b, rfl, k _ _ _ s q⟩
theorem c_strI {i : Int} (h : i.natAbs.log2 < 1920) (q : Q (.str (toString i)) L) : RE (rStrI [.int i]) L Q := fun H s Qh k => ⟨i, rfl, h, k _ _ _ s q⟩
theorem c_sortedI {a : Addr} {ns : List Int} (h : SqA K L a (ns.map V.int)) (q : ∀ (ms : List Int) (p : Addr), ms.Perm ns → ms.Pairwise (· ≤ ·) → Q (.ref p) (pt p (.lst (ms.map V.int)) :: L)) : RE (rSortedI K [.ref a]) L Q := fun H s Qh k =>
  ⟨a, ns, rfl, h H s, fun ms p hp hw hn => k _ _ _ (sep_new s hn) (q ms p hp hw)⟩
/-- isinstance -/
theorem c_isi {x c : V} {tv u : Value} {b : Bool} (hc : ClsV c u) (hx : ∀ H, Sep L H → TyX K H x tv) (e : PySem.W.kitOne K tv u = some b) (q : Q (.bl b) L) : RE (rIsi K [x, c]) L Q := fun H s Qh k => ⟨x, c, tv, u, b, rfl, hc, hx H s, e, k _ _ _ s q⟩
/-! ### tests -/
theorem t_test (h : SE te σ L fun x L1 => ∃ b, x = .bl b ∧ QB b L1) : ST (tTest te) σ L QB := fun H s Qh k =>
  h H s _ fun x L1 H1 s1 ⟨b, e, q⟩ => ⟨b, e, k _ _ _ s1 q⟩
theorem t_B (h : SE te σ L fun x L1 => ∃ b, x = .bl b ∧ QB b L1) : ST (tB te) σ L QB := fun H s Qh k =>
  h H s _ fun x L1 H1 s1 ⟨b, e, q⟩ => ⟨b, e, k _ _ _ s1 q⟩
theorem t_and (h : ST tt σ L fun b L1 => (b = true → ST tu σ L1 QB) ∧ (b = false → QB false L1)) : ST (tAnd tt tu) σ L QB := fun H s Qh k =>
  h H s _ fun b L1 H1 s1 ⟨ht, hf⟩ => by
    cases b with
    | true => rw [if_pos rfl]; exact ht rfl H1 s1 Qh k
    | false => rw [if_neg Bool.false_ne_true]; exact k _ _ _ s1 (hf rfl)
theorem t_or (h : ST tt σ L fun b L1 => (b = true → QB true L1) ∧ (b = false → ST tu σ L1 QB)) : ST (tOr tt tu) σ L QB := fun H s Qh k =>
  h H s _ fun b L1 H1 s1 ⟨ht, hf⟩ => by
    cases b with
    | true => rw [if_pos rfl]; exact k _ _ _ s1 (ht rfl)
    | false => rw [if_neg Bool.false_ne_true]; exact hf rfl H1 s1 Qh k
theorem t_not (h : ST tt σ L fun b L1 => QB (!b) L1) : ST (tNot tt) σ L QB := fun H s Qh k => h H s _ fun b L1 H1 s1 q => k _ _ _ s1 q
def tTruth (K : PySem.W.Frag) (ta : TE) : TT := fun σ H Q => ta σ H fun x H' => ∃ k, TruV K x H' k ∧ Q k H'
theorem t_tru (h : SE ta σ L fun x L1 => ∃ b, (∀ H, Sep L1 H → TruV K x H b) ∧ QB b L1) : ST (tTruth K ta) σ L QB := fun H s Qh k =>
  h H s _ fun x L1 H1 s1 ⟨b, e, q⟩ => ⟨b, e H1 s1, k _ _ _ s1 q⟩
/-! ### dicts -/
def rDGet (x y : V) : Hp → VK → Prop := fun H Q => ∃ a v, x = .ref a ∧ DGet H a y (some v) ∧ Q v H
def rDIn (x y : V) : Hp → VK → Prop := fun H Q => ∃ a o, x = .ref a ∧ DGet H a y o ∧ Q (.bl o.isSome) H
def rDNotIn (x y : V) : Hp → VK → Prop := fun H Q => ∃ a o, x = .ref a ∧ DGet H a y o ∧ Q (.bl (!o.isSome)) H
theorem e_dget {td ty : TE} (h : SE td σ L fun x L1 => SE ty σ L1 fun y L2 => RE (rDGet x y) L2 Q) : SE (tDGet td ty) σ L Q := fun H s Qh k =>
  h H s _ fun x L1 H1 s1 h1 => h1 H1 s1 _ fun y L2 H2 s2 h2 => h2 H2 s2 Qh k
theorem e_din {td ty : TE} (h : SE ty σ L fun y L1 => SE td σ L1 fun x L2 => RE (rDIn x y) L2 Q) : SE (tDIn ty td) σ L Q := fun H s Qh k =>
  h H s _ fun x L1 H1 s1 h1 => h1 H1 s1 _ fun y L2 H2 s2 h2 => h2 H2 s2 Qh k
theorem e_dnotin {td ty : TE} (h : SE ty σ L fun y L1 => SE td σ L1 fun x L2 => RE (rDNotIn x y) L2 Q) : SE (tDNotIn ty td) σ L Q := fun H s Qh k =>
  h H s _ fun x L1 H1 s1 h1 => h1 H1 s1 _ fun y L2 H2 s2 h2 => h2 H2 s2 Qh k
theorem r_dget {a : Addr} {n : Int} {kvs : List (Key × V)} {v : V} (h : Has L a (.dK kvs)) (e : valV kvs (Sum.inl n) = some v) (q : Q v L) : RE (rDGet (.ref a) (.int n)) L Q := fun H s Qh k =>
  ⟨a, v, rfl, by rw [← e]; exact DGet.k (k := Sum.inl n) (h H s), k _ _ _ s q⟩
theorem r_din {a : Addr} {n : Int} {kvs : List (Key × V)} (h : Has L a (.dK kvs)) (q : Q (.bl (valV kvs (Sum.inl n)).isSome) L) : RE (rDIn (.ref a) (.int n)) L Q := fun H s Qh k =>
  ⟨a, _, rfl, DGet.k (k := Sum.inl n) (h H s), k _ _ _ s q⟩
theorem r_dnotin {a : Addr} {n : Int} {kvs : List (Key × V)} (h : Has L a (.dK kvs)) (q : Q (.bl (!(valV kvs (Sum.inl n)).isSome)) L) : RE (rDNotIn (.ref a) (.int n)) L Q := fun H s Qh k =>
  ⟨a, _, rfl, DGet.k (k := Sum.inl n) (h H s), k _ _ _ s q⟩
theorem e_dnew (q : ∀ p, Q (.ref p) (pt p (.dK []) :: L)) : SE tDNewK σ L Q := fun H s Qh k => fun p hp => k _ _ _ (sep_new s hp) (q p)
/-! ### statements -/
theorem s_next (q : D.nx σ L) : SS tNext D σ L := fun H s E le => le.nx _ _ _ s q
theorem s_brk (q : D.bk σ L) : SS tBreak D σ L := fun H s E le => le.bk _ _ _ s q
theorem s_cnt (q : D.ct σ L) : SS tCont D σ L := fun H s E le => le.ct _ _ _ s q
theorem s_seq (h : SS t { D with nx := fun σ L => SS u D σ L } σ L) : SS (tSeq t u) D σ L := fun H s E le =>
  h H s { E with nx := u E } ⟨fun σ L H s q => q H s E le, le.rt, le.bk, le.ct⟩
theorem s_asg {i : Nat} (h : SE te σ L fun v L1 => D.nx (σ.set i (some v)) L1) : SS (tAsg te (gName i)) D σ L := fun H s E le =>
  h H s _ fun v L1 H1 s1 q => le.nx _ _ _ s1 q
theorem s_drop (h : SE te σ L fun _ L1 => D.nx σ L1) : SS (tDrop te) D σ L := fun H s E le => h H s _ fun v L1 H1 s1 q => le.nx _ _ _ s1 q
theorem s_ret (h : SE te σ L D.rt) : SS (tRet te) D σ L := fun H s E le => h H s _ fun v L1 H1 s1 q => le.rt _ _ _ s1 q
theorem s_retN (q : D.rt .non L) : SS tRetN D σ L := fun H s E le => le.rt _ _ _ s q
theorem s_if (h : ST tt σ L fun b L1 => (b = true → SS t D σ L1) ∧ (b = false → SS u D σ L1)) : SS (tIfS tt t u) D σ L := fun H s E le =>
  h H s _ fun b L1 H1 s1 ⟨ht, hf⟩ => by
    cases b with
    | true => rw [if_pos rfl]; exact ht rfl H1 s1 E le
    | false => rw [if_neg Bool.false_ne_true]; exact hf rfl H1 s1 E le
theorem s_setL {to ti : TE} (h : SE te σ L fun v L1 => SE to σ L1 fun o L2 => SE ti σ L2 fun i L3 => RS (rSetL o i v) L3 fun L4 => D.nx σ L4) : SS (tAsg te (gSub to ti rSetL)) D σ L := fun H s E le =>
  h H s _ fun v L1 H1 s1 h1 => h1 H1 s1 _ fun o L2 H2 s2 h2 => h2 H2 s2 _ fun i L3 H3 s3 h3 => h3 H3 s3 _ fun L4 H4 s4 q => le.nx _ _ _ s4 q
theorem r_setL {a : Addr} {xs : List V} {i : Int} {j : Nat} {v : V} {QS : AL → Prop} (h : Has L a (.lst xs)) (e : ixN xs.length i = some j) (w : Wr L a (.lst (xs.set j v)) M) (q : QS M) : RS (rSetL (.ref a) (.int i) v) L QS := fun H s Qh k =>
  ⟨a, xs, i, j, rfl, rfl, h H s, e, k _ _ (w H s).2 q⟩
theorem s_fld {f : Str} (h : SE tv σ L fun y L1 => SE ta σ L1 fun x L2 => ∃ a C dx fs M, x = .ref a ∧ Has L2 a (.ins C dx fs) ∧ Cls K C ∧ NoAttr K C f ∧ fs.length < 1000 ∧ Wr L2 a (.ins C dx (putF f y fs)) M ∧ D.nx σ M) : SS (sFld K ta tv f) D σ L := fun H s E le =>
  h H s _ fun y L1 H1 s1 h1 => h1 H1 s1 _ fun x L2 H2 s2 ⟨a, C, dx, fs, M, e, hh, c, n, z, w, q⟩ => ⟨a, C, dx, fs, e, hh H2 s2, c, n, z, le.nx _ _ _ (w H2 s2).2 q⟩
theorem s_aug {i : Nat} {f : Int → Int → Int} {x : Int} (hx : σ[i]? = some (some (.int x))) (h : SE te σ L fun y L1 => ∃ j, y = .int j ∧ D.nx (σ.set i (some (.int (f x j)))) L1) : SS (tAug i te (ipI f)) D σ L := fun H s E le =>
  ⟨.int x, hx, h H s _ fun y L1 H1 s1 ⟨j, e, q⟩ => ⟨x, j, rfl, e, le.nx _ _ _ s1 q⟩⟩
theorem s_dput {td ty : TE} (h : SE tv σ L fun v L1 => SE td σ L1 fun x L2 => SE ty σ L2 fun y L3 => ∃ a n kvs M, x = .ref a ∧ y = .int n ∧ Has L3 a (.dK kvs) ∧ kvs.length < sizeLine ∧ Wr L3 a (.dK (putK kvs (Sum.inl n) v)) M ∧ D.nx σ M) : SS (sDPut td ty tv) D σ L := fun H s E le =>
  h H s _ fun v L1 H1 s1 h1 => h1 H1 s1 _ fun x L2 H2 s2 h2 => h2 H2 s2 _ fun y L3 H3 s3 ⟨a, n, kvs, M, e, e2, hh, z, w, q⟩ => ⟨a, _, e, by rw [e2]; exact DPut.k (k := Sum.inl n) (hh H3 s3) z, le.nx _ _ _ (w H3 s3).2 q⟩
/-! ### methods of lists -/
theorem e_bm {T : String} {r : V → List V → Hp → VK → Prop} {to : TE} {tr : TA} (h : SE to σ L fun x L1 => (∀ H, Sep L1 H → tyV K T x H) ∧ SA tr σ L1 fun xs L2 => RE (r x xs) L2 Q) : SE (tBM K T r to tr) σ L Q := fun H s Qh k =>
  h H s _ fun x L1 H1 s1 ⟨ty, h1⟩ => ⟨ty H1 s1, h1 H1 s1 _ fun xs L2 H2 s2 h2 => h2 H2 s2 Qh k⟩
theorem e_bm0 {T : String} {r : V → List V → Hp → VK → Prop} {to : TE} (h : SE to σ L fun x L1 => (∀ H, Sep L1 H → tyV K T x H) ∧ RE (r x []) L1 Q) : SE (tBM0 K T r to) σ L Q := fun H s Qh k =>
  h H s _ fun x L1 H1 s1 ⟨ty, h1⟩ => ⟨ty H1 s1, h1 H1 s1 Qh k⟩
theorem ty_list {a : Addr} {xs : List V} (h : SqA K L a xs) : ∀ H, Sep L H → tyV K "list" (.ref a) H := fun H s => Or.inl ⟨rfl, xs, h H s⟩
theorem r_append {a : Addr} {xs : List V} {y : V} (h : Has L a (.lst xs)) (z : xs.length < sizeLine) (w : Wr L a (.lst (xs ++ [y])) M) (q : Q .non M) : RE (rAppend (.ref a) [y]) L Q := fun H s Qh k =>
  ⟨a, xs, y, rfl, rfl, h H s, z, k _ _ _ (w H s).2 q⟩
theorem r_popAt {a : Addr} {xs : List V} {i : Int} {j : Nat} {y : V} (h : Has L a (.lst xs)) (b : -(2 ^ 63) ≤ i ∧ i < 2 ^ 63) (e : seqIndex? i xs.length = some j) (ey : xs[j]? = some y) (w : Wr L a (.lst (xs.eraseIdx j)) M) (q : Q y M) :
    RE (rPopAt (.ref a) [.int i]) L Q := fun H s Qh k => ⟨a, xs, i, j, y, rfl, rfl, h H s, b.1, b.2, e, ey, k _ _ _ (w H s).2 q⟩
theorem r_clear {a : Addr} {xs : List V} (h : Has L a (.lst xs)) (w : Wr L a (.lst []) M) (q : Q .non M) : RE (rClear (.ref a) []) L Q := fun H s Qh k => ⟨a, xs, rfl, rfl, h H s, k _ _ _ (w H s).2 q⟩
/-! ### slices -/
theorem o_none {QO : Option Int → AL → Prop} (q : QO none L) : SO tNoPart σ L QO := fun H s Qh k => k _ _ _ s q
theorem o_some {QO : Option Int → AL → Prop} (h : SE te σ L fun x L1 => ∃ i, x = .int i ∧ QO (some i) L1) : SO (tPart te) σ L QO := fun H s Qh k =>
  h H s _ fun x L1 H1 s1 ⟨i, e, q⟩ => ⟨i, e, k _ _ _ s1 q⟩
theorem e_sl {r : V → Option Int → Option Int → Hp → VK → Prop} {tl th : TO} (h : SE te σ L fun x L1 => SO tl σ L1 fun l L2 => SO th σ L2 fun u L3 => RE (r x l u) L3 Q) : SE (tSl r te tl th) σ L Q := fun H s Qh k =>
  h H s _ fun x L1 H1 s1 h1 => h1 H1 s1 _ fun l L2 H2 s2 h2 => h2 H2 s2 _ fun u L3 H3 s3 h3 => h3 H3 s3 Qh k
theorem r_slL {a : Addr} {xs : List V} {lo hi : Option Int} (h : SqA K L a xs) (q : ∀ p, Q (.ref p) (pt p (.lst (cutV xs lo hi)) :: L)) : RE (rSlL K (.ref a) lo hi) L Q := fun H s Qh k =>
  ⟨a, xs, rfl, h H s, fun p hp => k _ _ _ (sep_new s hp) (q p)⟩
/-! ### loops -/
theorem s_forL {tl : TE} {j : Nat} (h : SE tl σ L fun x L1 => ∃ a xs, x = .ref a ∧ SqA K L1 a xs ∧ ∃ Pv : Nat → L2.St → AL → Prop, Pv 0 σ L1 ∧ (∀ i σ L, i ≤ xs.length → Pv i σ L → SqA K L a xs) ∧
      (∀ i x σ L, xs[i]? = some x → Pv i σ L → SS t { D with nx := Pv (i + 1), ct := Pv (i + 1), bk := D.nx } (σ.set j (some x)) L) ∧ ∀ σ L, Pv xs.length σ L → D.nx σ L) : SS (tFor (iList K tl) (gName j) t) D σ L := fun H s E le =>
  h H s _ fun x L1 H1 s1 ⟨a, xs, e, hq, Pv, h0, hl, hs, hd⟩ => ⟨a, e, ⟨xs, hq H1 s1⟩, for_list (K := K) (a := a) (xs := xs) (fun i σ H => ∃ L, Sep L H ∧ Pv i σ L) ⟨L1, s1, h0⟩ (fun i σ H hi ⟨L, s, p⟩ => hl i σ L hi p H s)
    (fun i x σ H hx ⟨L, s, p⟩ => hs i x σ L hx p H s _ ⟨fun σ L H s q => ⟨L, s, q⟩, le.rt, fun σ L H s q => le.nx σ L H s q, fun σ L H s q => ⟨L, s, q⟩⟩) fun σ H ⟨L, s, p⟩ => le.nx _ _ _ s (hd σ L p)⟩
theorem s_forT {tl : TE} {j : Nat} (h : SE tl σ L fun x L1 => ∃ a xs, x = .ref a ∧ TqA K L1 a xs ∧ ∃ Pv : Nat → L2.St → AL → Prop, Pv 0 σ L1 ∧ (∀ i σ L, i ≤ xs.length → Pv i σ L → TqA K L a xs) ∧
      (∀ i x σ L, xs[i]? = some x → Pv i σ L → SS t { D with nx := Pv (i + 1), ct := Pv (i + 1), bk := D.nx } (σ.set j (some x)) L) ∧ ∀ σ L, Pv xs.length σ L → D.nx σ L) : SS (tFor (iTup K tl) (gName j) t) D σ L := fun H s E le =>
  h H s _ fun x L1 H1 s1 ⟨a, xs, e, hq, Pv, h0, hl, hs, hd⟩ => ⟨a, e, ⟨xs, hq H1 s1⟩, for_tup (K := K) (a := a) (xs := xs) (fun i σ H => ∃ L, Sep L H ∧ Pv i σ L) ⟨L1, s1, h0⟩ (fun i σ H hi ⟨L, s, p⟩ => hl i σ L hi p H s)
    (fun i x σ H hx ⟨L, s, p⟩ => hs i x σ L hx p H s _ ⟨fun σ L H s q => ⟨L, s, q⟩, le.rt, fun σ L H s q => le.nx σ L H s q, fun σ L H s q => ⟨L, s, q⟩⟩) fun σ H ⟨L, s, p⟩ => le.nx _ _ _ s (hd σ L p)⟩
/-- over range(n); hi: the ints of the turns -/
theorem s_forR1 {tr : TA} {j : Nat} (h : SA tr σ L fun vs L1 => ∃ n : Int, vs = [.int n] ∧ -(2 ^ 62) ≤ n ∧ n < 2 ^ 62 ∧ ∃ Pv : Nat → L2.St → AL → Prop, Pv 0 σ L1 ∧
      (∀ (i : Nat) σ L, (i : Int) < n → Pv i σ L → SS t { D with nx := Pv (i + 1), ct := Pv (i + 1), bk := D.nx } (σ.set j (some (.int (i : Int)))) L) ∧ ∀ σ L, Pv n.toNat σ L → D.nx σ L) : SS (tFor (iRng1 tr) (gName j) t) D σ L := fun H s E le =>
  h H s _ fun vs L1 H1 s1 ⟨n, e, b1, b2, Pv, h0, hs, hd⟩ => ⟨n, e, b1, b2, for_range (lo := 0) (n := n.toNat) (fun i σ H => ∃ L, Sep L H ∧ Pv i σ L) ⟨L1, s1, h0⟩
    (fun i σ H hi ⟨L, s, p⟩ => by
      have e0 : (0 : Int) + (i : Int) = (i : Int) := Int.zero_add _
      rw [e0]
      exact hs i σ L (by omega) p H s _ ⟨fun σ L H s q => ⟨L, s, q⟩, le.rt, fun σ L H s q => le.nx σ L H s q, fun σ L H s q => ⟨L, s, q⟩⟩) fun σ H ⟨L, s, p⟩ => le.nx _ _ _ s (hd σ L p)⟩
theorem s_forR2 {tr : TA} {j : Nat} (h : SA tr σ L fun vs L1 => ∃ lo n : Int, vs = [.int lo, .int n] ∧ (-(2 ^ 62) ≤ lo ∧ lo < 2 ^ 62 ∧ -(2 ^ 62) ≤ n ∧ n < 2 ^ 62) ∧ ∃ Pv : Nat → L2.St → AL → Prop, Pv 0 σ L1 ∧
      (∀ (i : Nat) σ L, lo + (i : Int) < n → Pv i σ L → SS t { D with nx := Pv (i + 1), ct := Pv (i + 1), bk := D.nx } (σ.set j (some (.int (lo + (i : Int))))) L) ∧ ∀ σ L, Pv (n - lo).toNat σ L → D.nx σ L) : SS (tFor (iRng2 tr) (gName j) t) D σ L := fun H s E le =>
  h H s _ fun vs L1 H1 s1 ⟨lo, n, e, b, Pv, h0, hs, hd⟩ => ⟨lo, n, e, b, for_range (lo := lo) (n := (n - lo).toNat) (fun i σ H => ∃ L, Sep L H ∧ Pv i σ L) ⟨L1, s1, h0⟩
    (fun i σ H hi ⟨L, s, p⟩ => hs i σ L (by omega) p H s _ ⟨fun σ L H s q => ⟨L, s, q⟩, le.rt, fun σ L H s q => le.nx σ L H s q, fun σ L H s q => ⟨L, s, q⟩⟩) fun σ H ⟨L, s, p⟩ => le.nx _ _ _ s (hd σ L p)⟩
theorem s_forS {ts : TE} {j : Nat} (h : SE ts σ L fun x L1 => ∃ z : Str, x = .str z ∧ ∃ Pv : Nat → L2.St → AL → Prop, Pv 0 σ L1 ∧
      (∀ i c σ L, z.cps[i]? = some c → Pv i σ L → SS t { D with nx := Pv (i + 1), ct := Pv (i + 1), bk := D.nx } (σ.set j (some (.str ⟨#[c]⟩))) L) ∧ ∀ σ L, Pv z.cps.size σ L → D.nx σ L) : SS (tFor (iStr ts) (gName j) t) D σ L := fun H s E le =>
  h H s _ fun x L1 H1 s1 ⟨z, e, Pv, h0, hs, hd⟩ => ⟨z, e, fun i m σ H => m = z.cps.size - i ∧ i ≤ z.cps.size ∧ ∃ L, Sep L H ∧ Pv i σ L, ⟨z.cps.size, rfl, Nat.zero_le _, L1, s1, h0⟩, by
    rintro i m σ H ⟨rfl, hi, L, s, p⟩
    by_cases hlt : i < z.cps.size
    · refine .inr ⟨hlt, fun σ H => ∃ L, Sep L H ∧ Pv (i + 1) σ L, fun σ' H' p' => ⟨z.cps.size - (i + 1), by omega, rfl, hlt, p'⟩, fun x H' y => ?_⟩
      obtain ⟨e1, c, hc, e2⟩ := y
      subst e1 e2
      exact hs i c σ L hc p _ s _ ⟨fun σ L H s q => ⟨L, s, q⟩, le.rt, fun σ L H s q => le.nx σ L H s q, fun σ L H s q => ⟨L, s, q⟩⟩
    · have e : i = z.cps.size := by omega
      subst e
      exact .inl ⟨Nat.le_refl _, le.nx _ _ _ s (hd σ L p)⟩⟩
/-- while, by a word and its measure -/
theorem s_while (W : Nat → L2.St → AL → Prop) (h0 : ∃ m, W m σ L)
    (hs : ∀ m σ L, W m σ L → ST tt σ L fun b L1 => (b = true → SS t { D with nx := fun σ L => ∃ m', m' < m ∧ W m' σ L, ct := fun σ L => ∃ m', m' < m ∧ W m' σ L, bk := D.nx } σ L1) ∧ (b = false → D.nx σ L1)) : SS (tWhile tt t) D σ L := fun H s E le =>
  ⟨fun m σ H => ∃ L, Sep L H ∧ W m σ L, h0.elim fun m w => ⟨m, L, s, w⟩, fun m σ H ⟨L, s, w⟩ => hs m σ L w H s _ fun b L1 H1 s1 ⟨ht, hf⟩ => by
    cases b with
    | true =>
      rw [if_pos rfl]
      exact ⟨fun σ H => ∃ m' L, m' < m ∧ Sep L H ∧ W m' σ L, fun σ' H' ⟨m', L, l, s, w⟩ => ⟨m', l, L, s, w⟩, ht rfl H1 s1 _ ⟨fun σ L H s ⟨m', l, w⟩ => ⟨m', L, l, s, w⟩, le.rt, fun σ L H s q => le.nx σ L H s q, fun σ L H s ⟨m', l, w⟩ => ⟨m', L, l, s, w⟩⟩⟩
    | false => rw [if_neg Bool.false_ne_true]; exact le.nx _ _ _ s1 (hf rfl)⟩
/-- a cut between two statements -/
theorem s_cut {t u : TS} {Mid : L2.St → AL → Prop} (h : SS t { D with nx := Mid } σ L) (k : ∀ σ L, Mid σ L → SS u D σ L) : SS (tSeq t u) D σ L :=
  s_seq (s_mono h (fun σ L q => k σ L q) (fun _ _ q => q) (fun _ _ q => q) fun _ _ q => q)
/-! ### comprehensions: Pv: behind i turns, what the new list holds, and the rest -/
theorem e_lcL {tl : TE} {j : Nat} {vs : List Nat} (h : SE tl σ L fun x L1 => ∃ a xs, x = .ref a ∧ SqA K L1 a xs ∧ (∀ x, wipe ((wipe σ vs).set j (some x)) vs = wipe σ vs) ∧ ∃ Pv : Nat → List V → AL → Prop, Pv 0 [] L1 ∧ (∀ i acc L, i ≤ xs.length → Pv i acc L → SqA K L a xs) ∧
      (∀ i x acc L (d : Addr), xs[i]? = some x → Pv i acc L → ST tt ((wipe σ vs).set j (some x)) (pt d (.lst acc) :: L) fun b L2 =>
        (b = true → SE te ((wipe σ vs).set j (some x)) L2 fun y L3 => ∃ L4, Ent L3 (pt d (.lst acc) :: L4) ∧ acc.length < sizeLine ∧ Pv (i + 1) (acc ++ [y]) L4) ∧ (b = false → ∃ L4, Ent L2 (pt d (.lst acc) :: L4) ∧ Pv (i + 1) acc L4)) ∧
      ∀ acc L d, Pv xs.length acc L → Q (.ref d) (pt d (.lst acc) :: L)) : SE (tLc (iList K tl) (gName j) tt te vs) σ L Q := fun H s Qh k =>
  h H s _ fun x L1 H1 s1 ⟨a, xs, e, hq, hw, Pv, h0, hl, hs, hd⟩ => ⟨a, e, ⟨xs, hq H1 s1⟩, fun d hD => lc_list (K := K) (a := a) (xs := xs) (fun i H => ∃ acc L, Sep (pt d (.lst acc) :: L) H ∧ Pv i acc L) ⟨[], L1, sep_new s1 hD, h0⟩
    (fun i H hi ⟨acc, L, s, p⟩ => hl i acc L hi p H s.tail)
    (fun i x H hx ⟨acc, L, s, p⟩ => ⟨hw x, hs i x acc L d hx p H s _ fun b L2 H2 s2 ⟨ht, hf⟩ => by
      cases b with
      | true =>
        rw [if_pos rfl]
        refine ht rfl H2 s2 _ fun y L3 H3 s3 ⟨L4, en, z, p4⟩ => ?_
        have s4 := en H3 s3
        exact ⟨acc, has_hd H3 s4, z, acc ++ [y], L4, (wr_hd H3 s4).2, p4⟩
      | false =>
        rw [if_neg Bool.false_ne_true]
        obtain ⟨L4, en, p4⟩ := hf rfl
        exact ⟨acc, L4, en H2 s2, p4⟩⟩)
    fun H ⟨acc, L, s, p⟩ => k _ _ _ s (hd acc L d p)⟩
theorem e_lcR1 {tr : TA} {j : Nat} {vs : List Nat} (h : SA tr σ L fun us L1 => ∃ n : Int, us = [.int n] ∧ -(2 ^ 62) ≤ n ∧ n < 2 ^ 62 ∧ (∀ x, wipe ((wipe σ vs).set j (some x)) vs = wipe σ vs) ∧ ∃ Pv : Nat → List V → AL → Prop, Pv 0 [] L1 ∧
      (∀ (i : Nat) acc L (d : Addr), (i : Int) < n → Pv i acc L → ST tt ((wipe σ vs).set j (some (.int (i : Int)))) (pt d (.lst acc) :: L) fun b L2 =>
        (b = true → SE te ((wipe σ vs).set j (some (.int (i : Int)))) L2 fun y L3 => ∃ L4, Ent L3 (pt d (.lst acc) :: L4) ∧ acc.length < sizeLine ∧ Pv (i + 1) (acc ++ [y]) L4) ∧ (b = false → ∃ L4, Ent L2 (pt d (.lst acc) :: L4) ∧ Pv (i + 1) acc L4)) ∧
      ∀ acc L d, Pv n.toNat acc L → Q (.ref d) (pt d (.lst acc) :: L)) : SE (tLc (iRng1 tr) (gName j) tt te vs) σ L Q := fun H s Qh k =>
  h H s _ fun us L1 H1 s1 ⟨n, e, b1, b2, hw, Pv, h0, hs, hd⟩ => ⟨n, e, b1, b2, fun d hD => lc_range (lo := 0) (n := n.toNat) (fun i H => ∃ acc L, Sep (pt d (.lst acc) :: L) H ∧ Pv i acc L) ⟨[], L1, sep_new s1 hD, h0⟩
    (fun i H hi ⟨acc, L, s, p⟩ => by
      have e0 : (0 : Int) + (i : Int) = (i : Int) := Int.zero_add _
      rw [e0]
      exact ⟨hw _, hs i acc L d (by omega) p H s _ fun b L2 H2 s2 ⟨ht, hf⟩ => by
        cases b with
        | true =>
          rw [if_pos rfl]
          refine ht rfl H2 s2 _ fun y L3 H3 s3 ⟨L4, en, z, p4⟩ => ?_
          have s4 := en H3 s3
          exact ⟨acc, has_hd H3 s4, z, acc ++ [y], L4, (wr_hd H3 s4).2, p4⟩
        | false =>
          rw [if_neg Bool.false_ne_true]
          obtain ⟨L4, en, p4⟩ := hf rfl
          exact ⟨acc, L4, en H2 s2, p4⟩⟩)
    fun H ⟨acc, L, s, p⟩ => k _ _ _ s (hd acc L d p)⟩
theorem e_lcR2 {tr : TA} {j : Nat} {vs : List Nat} (h : SA tr σ L fun us L1 => ∃ lo n : Int, us = [.int lo, .int n] ∧ (-(2 ^ 62) ≤ lo ∧ lo < 2 ^ 62 ∧ -(2 ^ 62) ≤ n ∧ n < 2 ^ 62) ∧ (∀ x, wipe ((wipe σ vs).set j (some x)) vs = wipe σ vs) ∧ ∃ Pv : Nat → List V → AL → Prop, Pv 0 [] L1 ∧
      (∀ (i : Nat) acc L (d : Addr), lo + (i : Int) < n → Pv i acc L → ST tt ((wipe σ vs).set j (some (.int (lo + (i : Int))))) (pt d (.lst acc) :: L) fun b L2 =>
        (b = true → SE te ((wipe σ vs).set j (some (.int (lo + (i : Int))))) L2 fun y L3 => ∃ L4, Ent L3 (pt d (.lst acc) :: L4) ∧ acc.length < sizeLine ∧ Pv (i + 1) (acc ++ [y]) L4) ∧ (b = false → ∃ L4, Ent L2 (pt d (.lst acc) :: L4) ∧ Pv (i + 1) acc L4)) ∧
      ∀ acc L d, Pv (n - lo).toNat acc L → Q (.ref d) (pt d (.lst acc) :: L)) : SE (tLc (iRng2 tr) (gName j) tt te vs) σ L Q := fun H s Qh k =>
  h H s _ fun us L1 H1 s1 ⟨lo, n, e, b, hw, Pv, h0, hs, hd⟩ => ⟨lo, n, e, b, fun d hD => lc_range (lo := lo) (n := (n - lo).toNat) (fun i H => ∃ acc L, Sep (pt d (.lst acc) :: L) H ∧ Pv i acc L) ⟨[], L1, sep_new s1 hD, h0⟩
    (fun i H hi ⟨acc, L, s, p⟩ => 
      ⟨hw _, hs i acc L d (by omega) p H s _ fun b L2 H2 s2 ⟨ht, hf⟩ => by
        cases b with
        | true =>
          rw [if_pos rfl]
          refine ht rfl H2 s2 _ fun y L3 H3 s3 ⟨L4, en, z, p4⟩ => ?_
          have s4 := en H3 s3
          exact ⟨acc, has_hd H3 s4, z, acc ++ [y], L4, (wr_hd H3 s4).2, p4⟩
        | false =>
          rw [if_neg Bool.false_ne_true]
          obtain ⟨L4, en, p4⟩ := hf rfl
          exact ⟨acc, L4, en H2 s2, p4⟩⟩)
    fun H ⟨acc, L, s, p⟩ => k _ _ _ s (hd acc L d p)⟩
theorem t_yes (q : QB true L) : ST tYes σ L QB := fun H s Qh k => k _ _ _ s q
end
/-! ### promises -/
abbrev Pm := List V → AL → (V → AL → Prop) → (Value → AL → Prop) → Prop
def lift (P : Pm) : Sp := fun vs H Q E => ∃ L Qa Ea, Sep L H ∧ P vs L Qa Ea ∧ (∀ v L' H', Sep L' H' → Qa v L' → Q v H') ∧ ∀ c L' H', Sep L' H' → Ea c L' → E c none H'
/-- how an exception that is wished for by lists of assertions is wished for -/
def ELe (Ea : Value → AL → Prop) (E : XK) : Prop := ∀ c L H, Sep L H → Ea c L → E c none H
section
variable {K : PySem.W.Frag} {σ : L2.St} {L M : AL} {te ta tb tv : TE} {Q : V → AL → Prop} {P : Pm} {tr : TA} {E : XK} {Ea : Value → AL → Prop}
theorem lift_body {t : TS} {H : Hp} {vs : List V} {Qh : VK} {σ : L2.St} (h : lift P vs H Qh E) (b : ∀ L Qa Ea, ELe Ea E → P vs L Qa Ea → SS t { nx := fun _ L => Qa .non L, rt := Qa } σ L) : t { nx := fun _ H' => Qh .non H', rt := Qh } σ H := by
  obtain ⟨L, Qa, Ea, s, p, kq, ke⟩ := h
  exact b L Qa Ea ke p H s _ ⟨fun σ L H s q => kq _ _ _ s q, fun v L H s q => kq _ _ _ s q, fun _ _ _ _ q => q.elim, fun _ _ _ _ q => q.elim⟩
theorem e_call (h : SA tr σ L fun vs L1 => ∃ L2, Ent L1 L2 ∧ P vs L2 Q fun _ _ => False) : SE (tCall (lift P) [] E0 tr) σ L Q := fun H s Qh k =>
  h H s _ fun vs L1 H1 s1 ⟨L2, en, p⟩ => ⟨L2, Q, fun _ _ => False, en H1 s1, by rw [List.append_nil]; exact p, k, fun _ _ _ _ q => q.elim⟩
theorem e_callE (he : ELe Ea E) (h : SA tr σ L fun vs L1 => ∃ L2, Ent L1 L2 ∧ P vs L2 Q Ea) : SE (tCall (lift P) [] E tr) σ L Q := fun H s Qh k =>
  h H s _ fun vs L1 H1 s1 ⟨L2, en, p⟩ => ⟨L2, Q, Ea, en H1 s1, by rw [List.append_nil]; exact p, k, he⟩
theorem e_meth {C : Addr} {m : Str} (h : SE ta σ L fun x L1 => ∃ a dx fs, x = .ref a ∧ Has L1 a (.ins C dx fs) ∧ fs.lookup m = none ∧ SA tr σ L1 fun vs L2 => ∃ L3, Ent L2 L3 ∧ P (x :: vs) L3 Q fun _ _ => False) : SE (tMeth C m (lift P) [] E0 ta tr) σ L Q := fun H s Qh k =>
  h H s _ fun x L1 H1 s1 ⟨a, dx, fs, e, hh, l, h1⟩ => ⟨a, dx, fs, e, hh H1 s1, l, h1 H1 s1 _ fun vs L2 H2 s2 ⟨L3, en, p⟩ => ⟨L3, Q, fun _ _ => False, en H2 s2, by rw [List.append_nil]; exact p, k, fun _ _ _ _ q => q.elim⟩⟩
theorem e_methE {C : Addr} {m : Str} (he : ELe Ea E) (h : SE ta σ L fun x L1 => ∃ a dx fs, x = .ref a ∧ Has L1 a (.ins C dx fs) ∧ fs.lookup m = none ∧ SA tr σ L1 fun vs L2 => ∃ L3, Ent L2 L3 ∧ P (x :: vs) L3 Q Ea) : SE (tMeth C m (lift P) [] E ta tr) σ L Q := fun H s Qh k =>
  h H s _ fun x L1 H1 s1 ⟨a, dx, fs, e, hh, l, h1⟩ => ⟨a, dx, fs, e, hh H1 s1, l, h1 H1 s1 _ fun vs L2 H2 s2 ⟨L3, en, p⟩ => ⟨L3, Q, Ea, en H2 s2, by rw [List.append_nil]; exact p, k, he⟩⟩
theorem e_make {C : Addr} (he : ELe Ea E) (h : SA tr σ L fun vs L1 => ∀ p dx, ∃ L2, Ent (pt p (.ins C dx []) :: L1) L2 ∧ P (.ref p :: vs) L2 (fun v L3 => v = .non ∧ Q (.ref p) L3) Ea) : SE (tMake C (lift P) [] E tr) σ L Q := fun H s Qh k =>
  h H s _ fun vs L1 H1 s1 h1 => fun x dx hx hdx ne => by
    obtain ⟨L2, en, p⟩ := h1 x dx
    have s2 : Sep (pt x (.ins C dx []) :: L1) (upd (upd H1 dx (.own x)) x (.ins C dx [])) := sep_new ((s1.mono (fun b o e => by rw [upd_ne (ne_of_none e hdx)]; exact e))) (by rw [upd_ne ne.symm]; exact hx)
    exact ⟨L2, fun v L3 => v = .non ∧ Q (.ref x) L3, Ea, en _ s2, by rw [List.append_nil]; exact p, fun v L3 H3 s3 q => ⟨q.1, k _ _ _ s3 q.2⟩, he⟩
def tRaiseC (C : Addr) (E : XK) : TS := fun _ _ H => E (.ref C) none H
theorem s_raise {C : Addr} {D : EA} (he : ELe Ea E) (q : Ea (.ref C) L) : SS (tRaiseC C E) D σ L := fun H s _ _ => he _ _ _ s q
theorem ele0 : ELe (fun _ _ => False) E := fun _ _ _ _ q => q.elim
end
end Mp
/-! What gen.py's text uses: operators by values, promises by the number of arguments, the class Heap, the law's own promise. -/
namespace Mp
open PySem L2 PyProof.Rows
abbrev rAddI : R2 := rI0 fun i j => .int (i + j)
abbrev rSubI : R2 := rI0 fun i j => .int (i - j)
abbrev rMulI : R2 := rI CMul fun i j => .int (i * j)
abbrev rDivI : R2 := rI CDiv fun i j => .int (i / j)
abbrev rModI : R2 := rI (fun _ j => 0 < j) fun i j => .int (i % j)
abbrev rPowI : R2 := rI CPow fun i j => .int (i ^ j.toNat)
abbrev rLtI : R2 := rI0 fun i j => .bl (decide (i < j))
abbrev rLeI : R2 := rI0 fun i j => .bl (decide (i ≤ j))
abbrev rGtI : R2 := rI0 fun i j => .bl (decide (j < i))
abbrev rGeI : R2 := rI0 fun i j => .bl (decide (j ≤ i))
abbrev rNegI : V → Hp → VK → Prop := rU fun i => .int (-i)
abbrev rAddStr : R2 := fun x y H Q => ∃ i j, x = .str i ∧ y = .str j ∧ i.length + j.length ≤ sizeLine ∧ Q (.str (i ++ j)) H
theorem r_neg {L : AL} {Q : V → AL → Prop} {i : Int} (q : Q (.int (-i)) L) : RE (rNegI (.int i)) L Q := fun H s Qh k => ⟨i, rfl, k _ _ _ s q⟩
theorem get_list {X : Cx} : PGet X (rIxL X.K) := by
  intro pins s σ H x y v u Q I rx ry h
  obtain ⟨p, xs, i, z, rfl, rfl, hq, he, q⟩ := h
  cases rx
  obtain ⟨t, rfl⟩ := ry
  obtain ⟨its, r, pl, hz⟩ := I.list hq
  obtain ⟨j, h1, h2, h3, h4, h5⟩ := atI_get he
  obtain ⟨w, ew, rw'⟩ := r.get h2
  have hl := r.length
  have hn := line63
  have fin : EP X pins σ Q w s := ⟨z, H, I, rw', q⟩
  by_cases h0 : 0 ≤ i
  · have hj : i.toNat = j := by
      rw [seqIndex_of h0 h5] at h1
      exact Option.some.inj h1
    exact wpAny_getItem_list pl.isList h0 (by omega) (by rw [hj]; simpa using ew) fin
  · have hj : (i + (its.toArray.size : Int)).toNat = j := by
      rw [seqIndex_neg (by omega) h4] at h1
      rw [List.size_toArray, ← hl]
      exact Option.some.inj h1
    exact wpAny_getItem_list_neg pl.isList (by omega) (by rw [List.size_toArray] <;> omega) (by omega) (by rw [hj]; simpa using ew) fin
section
variable {K : PySem.W.Frag} {σ : L2.St} {L : AL} {Q : V → AL → Prop} {QS : AL → Prop} {ta tv : TE} {D : EA}
theorem s_augL {to ti te : TE} (h : SE to σ L fun o L1 => SE ti σ L1 fun i L2 => ∃ x, RE (rIxL K o i) L2 fun v L3 => v = .int x ∧ SE te σ L3 fun y L4 => ∃ j, y = .int j ∧ RS (rSetL o i (.int (x + j))) L4 fun L5 => D.nx σ L5) :
    SS (tAugS to ti te (rIxL K) (ipI fun i j => i + j) rSetL) D σ L := fun H s E le =>
  h H s _ fun o L1 H1 s1 h1 => h1 H1 s1 _ fun i L2 H2 s2 ⟨x, h2⟩ => h2 H2 s2 _ fun v L3 H3 s3 ⟨e, h3⟩ => h3 H3 s3 _ fun y L4 H4 s4 ⟨j, ej, h4⟩ => ⟨x, j, e, ej, h4 H4 s4 _ fun L5 H5 s5 q => le.nx _ _ _ s5 q⟩
theorem s_fldaug {f : Str} (h : SE ta σ L fun x L1 => ∃ a C dx fs i, x = .ref a ∧ Has L1 a (.ins C dx fs) ∧ Cls K C ∧ NoAttr K C f ∧ fs.lookup f = some (.int i) ∧ SE tv σ L1 fun y L2 => ∃ j dx' fs' M, y = .int j ∧ Has L2 a (.ins C dx' fs') ∧ fs'.length < 1000 ∧ Wr L2 a (.ins C dx' (putF f (.int (i + j)) fs')) M ∧ D.nx σ M) :
    SS (sFldAug K ta tv L2.rAdd f) D σ L := fun H s E le =>
  h H s _ fun x L1 H1 s1 ⟨a, C, dx, fs, i, e, hh, c, n, l, h1⟩ => ⟨a, C, dx, fs, .int i, e, hh H1 s1, c, n, l, h1 H1 s1 _ fun y L2 H2 s2 ⟨j, dx', fs', M, ey, hh2, z, w, q⟩ => ⟨i, j, rfl, ey, dx', fs', hh2 H2 s2, z, le.nx _ _ _ (w H2 s2).2 q⟩⟩
theorem r_listD {a : Addr} {kvs : List (Key × V)} (h : Has L a (.dK kvs)) (q : ∀ p, Q (.ref p) (pt p (.lst (kvs.map fun kv => kV kv.1)) :: L)) : RE (rListD [.ref a]) L Q := fun H s Qh k =>
  ⟨a, kvs, rfl, h H s, fun p hp => k _ _ _ (sep_new s hp) (q p)⟩
theorem c_lenD {a : Addr} {kvs : List (Key × V)} (h : Has L a (.dK kvs)) (q : Q (.int kvs.length) L) : RE (rLenD [.ref a]) L Q := fun H s Qh k => ⟨a, kvs, rfl, h H s, k _ _ _ s q⟩
end
/-! ### promises by the number of arguments -/
def pm1 (B : V → AL → (V → AL → Prop) → (Value → AL → Prop) → Prop) : Pm := fun vs L Q E => ∃ x, vs = [x] ∧ B x L Q E
def pm2 (B : V → V → AL → (V → AL → Prop) → (Value → AL → Prop) → Prop) : Pm := fun vs L Q E => ∃ x y, vs = [x, y] ∧ B x y L Q E
def pm3 (B : V → V → V → AL → (V → AL → Prop) → (Value → AL → Prop) → Prop) : Pm := fun vs L Q E => ∃ x y z, vs = [x, y, z] ∧ B x y z L Q E
def pm4 (B : V → V → V → V → AL → (V → AL → Prop) → (Value → AL → Prop) → Prop) : Pm := fun vs L Q E => ∃ x y z u, vs = [x, y, z, u] ∧ B x y z u L Q E
def pm5 (B : V → V → V → V → V → AL → (V → AL → Prop) → (Value → AL → Prop) → Prop) : Pm := fun vs L Q E => ∃ x y z u v, vs = [x, y, z, u, v] ∧ B x y z u v L Q E
def pm6 (B : V → V → V → V → V → V → AL → (V → AL → Prop) → (Value → AL → Prop) → Prop) : Pm := fun vs L Q E => ∃ x y z u v w, vs = [x, y, z, u, v, w] ∧ B x y z u v w L Q E
theorem pm1_len {B} {vs : List V} {L Q E} (h : pm1 B vs L Q E) : vs.length = 1 := by obtain ⟨_, rfl, _⟩ := h; rfl
theorem pm2_len {B} {vs : List V} {L Q E} (h : pm2 B vs L Q E) : vs.length = 2 := by obtain ⟨_, _, rfl, _⟩ := h; rfl
theorem pm3_len {B} {vs : List V} {L Q E} (h : pm3 B vs L Q E) : vs.length = 3 := by obtain ⟨_, _, _, rfl, _⟩ := h; rfl
theorem pm4_len {B} {vs : List V} {L Q E} (h : pm4 B vs L Q E) : vs.length = 4 := by obtain ⟨_, _, _, _, rfl, _⟩ := h; rfl
theorem pm5_len {B} {vs : List V} {L Q E} (h : pm5 B vs L Q E) : vs.length = 5 := by obtain ⟨_, _, _, _, _, rfl, _⟩ := h; rfl
theorem pm6_len {B} {vs : List V} {L Q E} (h : pm6 B vs L Q E) : vs.length = 6 := by obtain ⟨_, _, _, _, _, _, rfl, _⟩ := h; rfl
theorem lift_len {P : Pm} {n : Nat} (h : ∀ {vs : List V} {L Q E}, P vs L Q E → vs.length = n) : ∀ vs H Q E, lift P vs H Q E → vs.length = n := fun _ _ _ _ ⟨_, _, _, _, p, _⟩ => h p
/-! ### the classes -/
structure Ex where
  Heap : Addr
  HeapError : Addr
  NoHand : Addr
  NoSlot : Addr
  NoRoom : Addr
  NothingHeld : Addr
  NoBox : Addr
  NoWork : Addr
  NoHeap : Addr
  NoDeed : Addr
  COUNTS : Addr
def Ex0 : Ex := ⟨0, 0, 0, 0, 0, 0, 0, 0, 0, 0, 0⟩
structure HT (K : PySem.W.Frag) (A : Ex) : Prop where
  cl : Cls K A.Heap
  n_hands : NoAttr K A.Heap "hands"
  n_room : NoAttr K A.Heap "room"
  n_slots : NoAttr K A.Heap "slots"
  n_made : NoAttr K A.Heap "made"
  n_ended : NoAttr K A.Heap "ended"
  n_stage : NoAttr K A.Heap "stage"
  n_old : NoAttr K A.Heap "old"
  n_begun : NoAttr K A.Heap "begun"
  n_seen : NoAttr K A.Heap "seen"
  n_row : NoAttr K A.Heap "row"
  n_looked : NoAttr K A.Heap "looked"
  n_swept : NoAttr K A.Heap "swept"
/-! ### the script, and what the law promises -/
def Scr (K : PySem.W.Frag) (a : Addr) (ns : List Int) : Asn := fun h => SqL K h a (ns.map V.int)
theorem sq_sub {K : PySem.W.Frag} {h H : Hp} {a : Addr} {xs : List V} (s : Sub h H) (q : SqL K h a xs) : SqL K H a xs := Same.seq s q
theorem scr_hd {K : PySem.W.Frag} {a : Addr} {ns : List Int} {L : AL} : SqA K (Scr K a ns :: L) a (ns.map V.int) := fun H ⟨_, _, x, _, _, p, _⟩ => sq_sub x p
theorem sq_tl {K : PySem.W.Frag} {a : Addr} {xs : List V} {A : Asn} {L : AL} (h : SqA K L a xs) : SqA K (A :: L) a xs := fun _ s => h _ s.tail
def P_law (K : PySem.W.Frag) (_ : Ex) : Pm := pm1 fun x L Q _ => ∃ a ns, x = .ref a ∧ L = [Scr K a ns] ∧ ns.length ≤ 63 ∧ ∀ L', Q (.bl true) L'
theorem law_start {K : PySem.W.Frag} {H : Hp} {a : Addr} {ns : List Int} (hl : ns.length ≤ 63) (hS : SqL K H a (ns.map V.int)) : lift (P_law K Ex0) [.ref a] H (fun v _ => v = .bl true) fun _ _ _ => False :=
  ⟨[Scr K a ns], fun v _ => v = .bl true, fun _ _ => False, ⟨H, fun _ => none, Sub.refl _, (fun _ _ e => nomatch e), fun _ => .inr rfl, hS, True.intro⟩, ⟨_, rfl, a, ns, rfl, rfl, hl, fun _ => rfl⟩, fun _ _ _ _ q => q, fun _ _ _ _ q => q⟩
/-! ### isinstance of plain values -/
abbrev nV (n : Nat) : V := .int (n : Int)
abbrev oV : Option Nat → V
  | none => .non
  | some n => nV n
theorem isi_int_int {K : PySem.W.Frag} {L : AL} {Q : V → AL → Prop} {i : Int} (q : Q (.bl true) L) : RE (rIsi K [.int i, .ty "int"]) L Q := c_isi (.ty _) (fun _ _ => .base (.int i)) (kit_ty (by decide +kernel)) q
theorem isi_int_bool {K : PySem.W.Frag} {L : AL} {Q : V → AL → Prop} {i : Int} (q : Q (.bl false) L) : RE (rIsi K [.int i, .ty "bool"]) L Q := c_isi (.ty _) (fun _ _ => .base (.int i)) (kit_ty (by decide +kernel)) q
theorem isi_non_int {K : PySem.W.Frag} {L : AL} {Q : V → AL → Prop} (q : Q (.bl false) L) : RE (rIsi K [.non, .ty "int"]) L Q := c_isi (.ty _) (fun _ _ => .base .non) (kit_ty (by decide +kernel)) q
theorem isi_list {K : PySem.W.Frag} {L : AL} {Q : V → AL → Prop} {a : Addr} {xs : List V} (h : Has L a (.lst xs)) (q : Q (.bl true) L) : RE (rIsi K [.ref a, .ty "list"]) L Q := c_isi (.ty _) (fun H s => .base (.lst (h H s))) (kit_ty (by decide +kernel)) q
theorem isi_str {K : PySem.W.Frag} {L : AL} {Q : V → AL → Prop} {z : Str} (q : Q (.bl true) L) : RE (rIsi K [.str z, .ty "str"]) L Q := c_isi (.ty _) (fun _ _ => .base (.str z)) (kit_ty (by decide +kernel)) q
theorem isi_tup {K : PySem.W.Frag} {L : AL} {Q : V → AL → Prop} {a : Addr} {xs : List V} (h : Has L a (.tup xs)) (q : Q (.bl true) L) : RE (rIsi K [.ref a, .ty "tuple"]) L Q := c_isi (.ty _) (fun H s => .base (.tup (h H s))) (kit_ty (by decide +kernel)) q
theorem oV_flat (o : Option Nat) : flatV (oV o) = true := by cases o <;> rfl
theorem nV_inj {a b : Nat} (h : nV a = nV b) : a = b := by
  have e : (a : Int) = (b : Int) := V.int.inj h
  omega
theorem oV_inj {a b : Option Nat} (h : oV a = oV b) : a = b := by
  cases a with
  | none =>
    cases b with
    | none => rfl
    | some y => cases h
  | some x =>
    cases b with
    | none => cases h
    | some y => rw [nV_inj h]
theorem atI_toNat {xs : List V} {i : Int} {v : V} (h0 : 0 ≤ i) (h : xs[i.toNat]? = some v) : atI xs i = some v := by
  have e : i = ((i.toNat : Nat) : Int) := by omega
  rw [e]; exact atI_nat h
theorem ixN_toNat {n : Nat} {i : Int} (h0 : 0 ≤ i) (h : i < n) : ixN n i = some i.toNat := by
  unfold ixN
  rw [if_pos h0, if_pos h]
theorem ixN_nat {n i : Nat} (h : i < n) : ixN n (i : Int) = some i := by
  rw [ixN_toNat (by omega) (by omega)]; simp
theorem map_oV_some (xs : List Nat) : (xs.map some).map oV = xs.map nV := by rw [List.map_map]; rfl
theorem map_nV_int (xs : List Nat) : xs.map nV = (xs.map fun (n : Nat) => (n : Int)).map V.int := by rw [List.map_map]; rfl
theorem map_oV_inj {xs ys : List (Option Nat)} (h : xs.map oV = ys.map oV) : xs = ys := by
  induction xs generalizing ys with
  | nil => cases ys with
    | nil => rfl
    | cons y ys => cases h
  | cons x xs ih => cases ys with
    | nil => cases h
    | cons y ys =>
      rw [List.map_cons, List.map_cons] at h
      injection h with h1 h2
      rw [oV_inj h1, ih h2]
/-- sorted lists with the same items are the same -/
theorem sorted_same : ∀ {xs ys : List Int}, xs.Perm ys → xs.Pairwise (· ≤ ·) → ys.Pairwise (· ≤ ·) → xs = ys
  | [], ys, p, _, _ => by rw [List.nil_perm.mp p]
  | x :: xs, [], p, _, _ => absurd p.length_eq (by simp)
  | x :: xs, y :: ys, p, hx, hy => by
    have e : x = y := by
      have m1 : x ∈ y :: ys := p.subset List.mem_cons_self
      have m2 : y ∈ x :: xs := p.symm.subset List.mem_cons_self
      have l1 : y ≤ x := by
        rcases List.mem_cons.mp m1 with h | h
        · omega
        · exact (List.pairwise_cons.mp hy).1 x h
      have l2 : x ≤ y := by
        rcases List.mem_cons.mp m2 with h | h
        · omega
        · exact (List.pairwise_cons.mp hx).1 y h
      omega
    subst e
    rw [sorted_same (List.perm_cons x |>.mp p) (List.pairwise_cons.mp hx).2 (List.pairwise_cons.mp hy).2]
theorem c_sortedN {K : PySem.W.Frag} {L : AL} {Q : V → AL → Prop} {a : Addr} {ns T : List Nat} (h : SqA K L a (ns.map nV)) (hp : T.Perm ns) (ht : T.Pairwise (· ≤ ·)) (q : ∀ p, Q (.ref p) (pt p (.lst (T.map nV)) :: L)) : RE (rSortedI K [.ref a]) L Q := by
  rw [map_nV_int] at h
  refine c_sortedI h fun ms p hm hw => ?_
  have e : ms = T.map fun (n : Nat) => (n : Int) := sorted_same (hm.trans (hp.map _).symm) hw (List.pairwise_map.mpr (ht.imp fun h => by omega))
  rw [e, ← map_nV_int]
  exact q p
/-- lists of numbers below n without repetition are not longer than n -/
theorem nodup_bound : ∀ (n : Nat) {xs : List Nat}, xs.Nodup → (∀ x ∈ xs, x < n) → xs.length ≤ n
  | 0, xs, _, h => by
    cases xs with
    | nil => exact Nat.le_refl _
    | cons x xs => exact absurd (h x List.mem_cons_self) (Nat.not_lt_zero _)
  | n + 1, xs, hn, h => by
    have h1 : (xs.filter fun x => decide (x ≠ n)).length ≤ n := nodup_bound n (hn.filter _) fun x hx => by
      obtain ⟨a, b⟩ := List.mem_filter.mp hx
      have c := h x a
      have d : x ≠ n := of_decide_eq_true b
      omega
    have h2 : (xs.filter fun x => !decide (x ≠ n)).length ≤ 1 := by
      have hN : (xs.filter fun x => !decide (x ≠ n)).Nodup := hn.filter _
      have hA : ∀ x ∈ (xs.filter fun x => !decide (x ≠ n)), x = n := fun x hx => by
        obtain ⟨_, b⟩ := List.mem_filter.mp hx
        simpa using b
      match (xs.filter fun x => !decide (x ≠ n)), hN, hA with
      | [], _, _ => exact Nat.zero_le _
      | [a], _, _ => exact Nat.le_refl _
      | a :: b :: r, hN, hA =>
        have ea := hA a (by simp)
        have eb := hA b (by simp)
        have := (List.nodup_cons.mp hN).1
        rw [ea, eb] at this
        simp at this
    have e : ∀ l : List Nat, (l.filter fun x => decide (x ≠ n)).length + (l.filter fun x => !decide (x ≠ n)).length = l.length := by
      intro l
      induction l with
      | nil => rfl
      | cons a l ih =>
        by_cases c : a = n
        · rw [List.filter_cons_of_neg (by simp [c]), List.filter_cons_of_pos (by simp [c])]
          simp only [List.length_cons]; omega
        · rw [List.filter_cons_of_pos (by simp [c]), List.filter_cons_of_neg (by simp [c])]
          simp only [List.length_cons]; omega
    have := e xs
    omega
end Mp
namespace Mp
open PySem L2
theorem both_t {P R : Prop} (p : P) : (true = true → P) ∧ (true = false → R) := ⟨fun _ => p, (fun z => nomatch z)⟩
theorem both_f {P R : Prop} (r : R) : (false = true → P) ∧ (false = false → R) := ⟨(fun z => nomatch z), fun _ => r⟩
theorem ex_t {P R : Prop} (p : P) : ∃ b, V.bl true = V.bl b ∧ (b = true → P) ∧ (b = false → R) := ⟨true, rfl, both_t p⟩
theorem ex_f {P R : Prop} (r : R) : ∃ b, V.bl false = V.bl b ∧ (b = true → P) ∧ (b = false → R) := ⟨false, rfl, both_f r⟩
theorem ex_c {c : Prop} [Decidable c] {P R : Prop} (p : c → P) (r : ¬ c → R) : ∃ b, V.bl (decide c) = V.bl b ∧ (b = true → P) ∧ (b = false → R) := ⟨_, rfl, fun h => p (of_decide_eq_true h), fun h => r (of_decide_eq_false h)⟩
theorem ex_n {c : Prop} [Decidable c] {P R : Prop} (p : ¬ c → P) (r : c → R) : ∃ b, V.bl (!decide c) = V.bl b ∧ (b = true → P) ∧ (b = false → R) := by
  refine ⟨_, rfl, fun h => p ?_, fun h => r ?_⟩
  · intro hc; rw [decide_eq_true hc] at h; cases h
  · apply Decidable.byContradiction; intro hc; rw [decide_eq_false hc] at h; cases h
/-- what is left may be told by a weaker list -/
theorem e_post {te : TE} {σ : L2.St} {L : AL} {Q : V → AL → Prop} (h : SE te σ L fun v L1 => ∃ L2, Ent L1 L2 ∧ Q v L2) : SE te σ L Q := fun H s Qh k => h H s Qh fun v L1 H1 s1 ⟨L2, e, q⟩ => k v L2 H1 (e H1 s1) q
theorem r_post {r : Hp → VK → Prop} {L : AL} {Q : V → AL → Prop} (h : RE r L fun v L1 => ∃ L2, Ent L1 L2 ∧ Q v L2) : RE r L Q := fun H s Qh k => h H s Qh fun v L1 H1 s1 ⟨L2, e, q⟩ => k v L2 H1 (e H1 s1) q
theorem s_postR {te : TE} {D : EA} {σ : L2.St} {L : AL} (h : SE te σ L fun v L1 => ∃ L2, Ent L1 L2 ∧ D.rt v L2) : SS (tRet te) D σ L := s_ret (e_post h)
theorem s_post {t : TS} {D : EA} {σ : L2.St} {L : AL} (h : SS t { D with nx := fun σ L1 => ∃ L2, Ent L1 L2 ∧ D.nx σ L2 } σ L) : SS t D σ L := fun H s E le =>
  h H s E ⟨fun σ L1 H1 s1 ⟨L2, e, q⟩ => le.nx σ L2 H1 (e H1 s1) q, le.rt, le.bk, le.ct⟩
end Mp
/-! Families of cells: lists of lists, dicts of lists. -/
namespace Mp
open PySem L2
section
variable {β : Type} {f : β → HO}
def zc (f : β → HO) (as : List Addr) (bs : List β) : AL := List.zipWith (fun a b => pt a (f b)) as bs
theorem has_app {L R : AL} {a : Addr} {o : HO} (h : Has R a o) : Has (L ++ R) a o := by
  induction L with
  | nil => exact h
  | cons A L ih => exact has_tl ih
theorem wr_app {L R M : AL} {a : Addr} {o : HO} (h : Wr R a o M) : Wr (L ++ R) a o (L ++ M) := by
  induction L with
  | nil => exact h
  | cons A L ih => exact wr_tl ih
theorem zc_has : ∀ {as : List Addr} {bs : List β} {i : Nat} {a : Addr} {b : β} {L : AL}, as[i]? = some a → bs[i]? = some b → Has (zc f as bs ++ L) a (f b)
  | [], _, _, _, _, _, h, _ => by simp at h
  | _ :: _, [], _, _, _, _, _, h => by simp at h
  | a0 :: as, b0 :: bs, 0, a, b, L, h1, h2 => by
    have e1 : a0 = a := Option.some.inj h1
    have e2 : b0 = b := Option.some.inj h2
    subst e1; subst e2
    exact has_hd
  | a0 :: as, b0 :: bs, i + 1, a, b, L, h1, h2 => has_tl (zc_has (as := as) (bs := bs) (i := i) h1 h2)
theorem zc_wr : ∀ {as : List Addr} {bs : List β} {i : Nat} {a : Addr} {b b' : β} {L : AL}, as[i]? = some a → bs[i]? = some b → Wr (zc f as bs ++ L) a (f b') (zc f as (bs.set i b') ++ L)
  | [], _, _, _, _, _, _, h, _ => by simp at h
  | _ :: _, [], _, _, _, _, _, _, h => by simp at h
  | a0 :: as, b0 :: bs, 0, a, b, b', L, h1, h2 => by
    have e1 : a0 = a := Option.some.inj h1
    subst e1
    exact wr_hd
  | a0 :: as, b0 :: bs, i + 1, a, b, b', L, h1, h2 => wr_tl (zc_wr (as := as) (bs := bs) (i := i) h1 h2)
theorem zc_snoc : ∀ {as : List Addr} {bs : List β} {a : Addr} {b : β}, as.length = bs.length → zc f (as ++ [a]) (bs ++ [b]) = zc f as bs ++ [pt a (f b)]
  | [], [], _, _, _ => rfl
  | [], _ :: _, _, _, h => by simp at h
  | _ :: _, [], _, _, h => by simp at h
  | a0 :: as, b0 :: bs, a, b, h => by
    have ih := zc_snoc (as := as) (bs := bs) (a := a) (b := b) (by simpa using h)
    show pt a0 (f b0) :: zc f (as ++ [a]) (bs ++ [b]) = pt a0 (f b0) :: (zc f as bs ++ [pt a (f b)])
    rw [ih]
theorem zc_erase : ∀ {as : List Addr} {bs : List β} {i : Nat} {L : AL}, Ent (zc f as bs ++ L) (zc f (as.eraseIdx i) (bs.eraseIdx i) ++ L)
  | [], bs, i, L => by
    have e : ∀ bs : List β, zc f [] bs = [] := fun bs => by cases bs <;> rfl
    rw [e, List.eraseIdx_nil, e]
    exact Ent.refl _
  | a :: as, [], i, L => by
    have e : ∀ as : List Addr, zc f as ([] : List β) = [] := fun as => by cases as <;> rfl
    rw [e, List.eraseIdx_nil, e]
    exact Ent.refl _
  | a :: as, b :: bs, 0, L => Ent.drop
  | a :: as, b :: bs, i + 1, L => Ent.cons (zc_erase (as := as) (bs := bs) (i := i) (L := L))
end
theorem has_star {Ls R : AL} {a : Addr} {o : HO} (h : Has (Ls ++ R) a o) : Has (Star Ls :: R) a o := h.ent ent_unstar
theorem wr_star {Ls Ms R : AL} {a : Addr} {o : HO} (h : Wr (Ls ++ R) a o (Ms ++ R)) : Wr (Star Ls :: R) a o (Star Ms :: R) := (h.ent ent_unstar).to ent_star
/-! ### a list of lists -/
def fL (r : List (Option Nat)) : HO := .lst (r.map oV)
def RowsA (p : Addr) (as : List Addr) (rows : List (List (Option Nat))) : Asn := Star (pt p (.lst (as.map V.ref)) :: zc fL as rows)
section
variable {p a : Addr} {as : List Addr} {rows : List (List (Option Nat))} {r r' : List (Option Nat)} {i : Nat} {L : AL}
theorem rows_p : Has (RowsA p as rows :: L) p (.lst (as.map V.ref)) := has_star has_hd
theorem rows_i (h1 : as[i]? = some a) (h2 : rows[i]? = some r) : Has (RowsA p as rows :: L) a (.lst (r.map oV)) := has_star (has_tl (zc_has (f := fL) h1 h2))
theorem rows_set (h1 : as[i]? = some a) (h2 : rows[i]? = some r) : Wr (RowsA p as rows :: L) a (.lst (r'.map oV)) (RowsA p as (rows.set i r') :: L) := wr_star (wr_tl (zc_wr (f := fL) h1 h2))
theorem rows_new : Ent (pt p (.lst []) :: L) (RowsA p [] [] :: L) := ent_star (Ls := [pt p (.lst [])])
theorem perm_mid {A : Asn} {L R : AL} : (L ++ A :: R).Perm (A :: (L ++ R)) := List.perm_middle
theorem rows_push (hl : as.length = rows.length) : Wr (RowsA p as rows :: pt a (.lst (r.map oV)) :: L) p (.lst (as.map V.ref ++ [V.ref a])) (RowsA p (as ++ [a]) (rows ++ [r]) :: L) := by
  rw [show as.map V.ref ++ [V.ref a] = (as ++ [a]).map V.ref by rw [List.map_append]; rfl]
  have w : Wr (RowsA p as rows :: pt a (.lst (r.map oV)) :: L) p (.lst ((as ++ [a]).map V.ref)) (pt p (.lst ((as ++ [a]).map V.ref)) :: (zc fL as rows ++ pt a (.lst (r.map oV)) :: L)) := Wr.ent (L' := pt p (.lst (as.map V.ref)) :: (zc fL as rows ++ pt a (.lst (r.map oV)) :: L)) wr_hd ent_unstar
  refine w.to ?_
  have e : pt p (.lst ((as ++ [a]).map V.ref)) :: (zc fL as rows ++ pt a (.lst (r.map oV)) :: L) = (pt p (.lst ((as ++ [a]).map V.ref)) :: zc fL (as ++ [a]) (rows ++ [r])) ++ L := by
    rw [zc_snoc hl]
    simp [fL]
  rw [e]
  exact ent_star
end
/-- a dict whose keys are these numbers -/
def kvT (found : List Nat) : List (Key × V) := found.map fun (n : Nat) => ((Sum.inl (n : Int) : Key), V.bl true)
theorem kvT_some (found : List Nat) (m : Nat) : (valV (kvT found) (Sum.inl (m : Int))).isSome = decide (m ∈ found) := by
  induction found with
  | nil => rfl
  | cons a l ih =>
    by_cases c : a = m
    · subst c
      rw [show kvT (a :: l) = ((Sum.inl (a : Int) : Key), V.bl true) :: kvT l from rfl, valV_pos rfl]
      simp
    · rw [show kvT (a :: l) = ((Sum.inl (a : Int) : Key), V.bl true) :: kvT l from rfl, valV_neg (by intro z; have := Sum.inl.inj z; omega), ih]
      have : (m ∈ a :: l) = (m ∈ l) := by
        simp [show m ≠ a from fun z => c z.symm]
      simp only [this]
theorem kvT_put {found : List Nat} {m : Nat} (h : m ∉ found) : putK (kvT found) (Sum.inl (m : Int)) (.bl true) = kvT (found ++ [m]) := by
  have e : valV (kvT found) (Sum.inl (m : Int)) = none := by
    have := kvT_some found m
    rw [decide_eq_false h] at this
    cases q : valV (kvT found) (Sum.inl (m : Int)) with
    | none => rfl
    | some v => rw [q] at this; cases this
  rw [putK_new _ e]
  unfold kvT
  rw [List.map_append]
  rfl
theorem kvT_len (found : List Nat) : (kvT found).length = found.length := List.length_map _
theorem nd_app {l : List Nat} {a : Nat} (h : l.Nodup) (n : a ∉ l) : (l ++ [a]).Nodup := nd_snoc h n
theorem r_dnotT {L : AL} {Q : V → AL → Prop} {a : Addr} {found : List Nat} {m : Nat} (h : Has L a (.dK (kvT found))) (q : Q (.bl (!decide (m ∈ found))) L) : RE (rDNotIn (.ref a) (nV m)) L Q := r_dnotin (n := (m : Int)) h (by rw [kvT_some]; exact q)
theorem r_dinT {L : AL} {Q : V → AL → Prop} {a : Addr} {found : List Nat} {m : Nat} (h : Has L a (.dK (kvT found))) (q : Q (.bl (decide (m ∈ found))) L) : RE (rDIn (.ref a) (nV m)) L Q := r_din (n := (m : Int)) h (by rw [kvT_some]; exact q)
theorem small5 {n : Nat} (h : n ≤ 200000) : n < sizeLine := Nat.lt_of_le_of_lt h (by decide)
theorem small6 {n : Nat} (h : n ≤ 200000) : n ≤ sizeLine := Nat.le_trans h (by decide)
theorem map_get {α β : Type} {f : α → β} {xs : List α} {i : Nat} {y : β} (h : (xs.map f)[i]? = some y) : ∃ x, xs[i]? = some x ∧ f x = y := by
  rw [List.getElem?_map] at h
  cases e : xs[i]? with
  | none => rw [e] at h; cases h
  | some x => rw [e] at h; exact ⟨x, rfl, Option.some.inj h⟩
theorem map_at {α β : Type} (f : α → β) {xs : List α} {i : Nat} {x : α} (h : xs[i]? = some x) : (xs.map f)[i]? = some (f x) := by rw [List.getElem?_map, h]; rfl
theorem take_snoc {α : Type} {xs : List α} {i : Nat} {x : α} (h : xs[i]? = some x) : xs.take (i + 1) = xs.take i ++ [x] := by rw [List.take_add_one, h]; rfl
theorem SqA.ent {K : PySem.W.Frag} {L M : AL} {a : Addr} {xs : List V} (h : SqA K M a xs) (e : Ent L M) : SqA K L a xs := fun H s => h H (e H s)
theorem SqA.app {K : PySem.W.Frag} {L R : AL} {a : Addr} {xs : List V} (h : SqA K R a xs) : SqA K (L ++ R) a xs := by
  induction L with
  | nil => exact h
  | cons A L ih => exact sq_tl ih
theorem ent_app {L R : AL} : Ent (L ++ R) R := by
  induction L with
  | nil => exact Ent.refl _
  | cons A L ih => exact Ent.drop.trans ih
theorem ent_snoc {β : Type} {f : β → HO} {as : List Addr} {bs : List β} {a : Addr} {b : β} {L : AL} (h : as.length = bs.length) : Ent (pt a (f b) :: (zc f as bs ++ L)) (zc f (as ++ [a]) (bs ++ [b]) ++ L) := by
  rw [zc_snoc h, List.append_assoc]
  exact ent_perm List.perm_middle.symm
section
variable {K : PySem.W.Frag} {σ : L2.St} {L : AL} {te : TE} {Q : V → AL → Prop}
/-- a comprehension over range(n) whose items are new lists -/
theorem e_lcRowsR {tr : TA} {j : Nat} {vs : List Nat} (n : Nat) (f : Nat → List (Option Nat)) (hn : n ≤ 100000) (hw : ∀ x, wipe ((wipe σ vs).set j (some x)) vs = wipe σ vs) (h : SA tr σ L fun us L1 => us = [nV n] ∧ L1 = L)
    (hs : ∀ i, i < n → ∀ L', Ent L' L → SE te ((wipe σ vs).set j (some (nV i))) L' fun y L3 => ∃ a, y = .ref a ∧ L3 = pt a (fL (f i)) :: L')
    (hq : ∀ d as, as.length = n → Q (.ref d) (RowsA d as ((List.range n).map f) :: L)) : SE (tLc (iRng1 tr) (gName j) tYes te vs) σ L Q := by
  refine e_post (e_lcR1 (Q := fun v L1 => ∃ L2, Ent L1 L2 ∧ Q v L2) fun H s Qh k => h H s _ fun us L1 H1 s1 ⟨e1, e2⟩ => k _ _ _ s1 ⟨(n : Int), e1, by omega, by omega, hw, ?_⟩)
  subst e2
  refine ⟨fun i acc L' => ∃ as, acc = as.map V.ref ∧ as.length = i ∧ L' = zc fL as ((List.range i).map f) ++ L1, ⟨[], rfl, rfl, rfl⟩, ?_, ?_⟩
  · rintro i acc L' d hi ⟨as, rfl, hl, rfl⟩
    refine t_yes ⟨fun _ => ?_, (fun z => nomatch z)⟩
    refine e_mono (hs i (by omega) _ (Ent.drop.trans ent_app)) ?_
    rintro _ _ ⟨a, rfl, rfl⟩
    refine ⟨zc fL (as ++ [a]) ((List.range (i + 1)).map f) ++ L1, ?_, small5 (by rw [List.length_map]; omega), as ++ [a], by rw [List.map_append]; rfl, by rw [List.length_append, hl]; rfl, rfl⟩
    rw [List.range_succ, List.map_append]
    exact ent_swap.trans (Ent.cons (ent_snoc (by rw [List.length_map, List.length_range]; exact hl)))
  · rintro acc L' d ⟨as, rfl, hl, rfl⟩
    have e : ((n : Int)).toNat = n := by omega
    rw [e] at hl ⊢
    exact ⟨_, ent_star (Ls := pt d (.lst (as.map V.ref)) :: zc fL as ((List.range n).map f)), hq d as hl⟩
/-- a comprehension over a list whose items are new lists -/
theorem e_lcRowsL {tl : TE} {j : Nat} {vs : List Nat} {a0 : Addr} {xs : List V} (rows : List (List (Option Nat))) (hlen : rows.length = xs.length) (hn : xs.length ≤ 100000) (hw : ∀ x, wipe ((wipe σ vs).set j (some x)) vs = wipe σ vs) (h : SE tl σ L fun x L1 => x = .ref a0 ∧ L1 = L) (hsq : SqA K L a0 xs)
    (hs : ∀ (i : Nat) (x : V) (r : List (Option Nat)), xs[i]? = some x → rows[i]? = some r → ∀ L', Ent L' L → SE te ((wipe σ vs).set j (some x)) L' fun y L3 => ∃ a, y = .ref a ∧ L3 = pt a (fL r) :: L')
    (hq : ∀ d as, as.length = rows.length → Q (.ref d) (RowsA d as rows :: L)) : SE (tLc (iList K tl) (gName j) tYes te vs) σ L Q := by
  refine e_post (e_lcL (Q := fun v L1 => ∃ L2, Ent L1 L2 ∧ Q v L2) fun H s Qh k => h H s _ fun us L1 H1 s1 ⟨e1, e2⟩ => k _ _ _ s1 ⟨a0, xs, e1, by rw [e2]; exact hsq, hw, ?_⟩)
  subst e2
  refine ⟨fun i acc L' => ∃ as, acc = as.map V.ref ∧ as.length = i ∧ L' = zc fL as (rows.take i) ++ L1, ⟨[], rfl, rfl, rfl⟩, ?_, ?_, ?_⟩
  · rintro i acc L' _ ⟨as, rfl, hl, rfl⟩
    exact hsq.app
  · rintro i x acc L' d hx ⟨as, rfl, hl, rfl⟩
    have hi : i < xs.length := (List.getElem?_eq_some_iff.mp hx).1
    obtain ⟨r, hr⟩ : ∃ r, rows[i]? = some r := ⟨_, List.getElem?_eq_getElem (by omega)⟩
    refine t_yes ⟨fun _ => ?_, (fun z => nomatch z)⟩
    refine e_mono (hs i x r hx hr _ (Ent.drop.trans ent_app)) ?_
    rintro _ _ ⟨a, rfl, rfl⟩
    refine ⟨zc fL (as ++ [a]) (rows.take (i + 1)) ++ L1, ?_, small5 (by rw [List.length_map]; omega), as ++ [a], by rw [List.map_append]; rfl, by rw [List.length_append, hl]; rfl, rfl⟩
    rw [take_snoc hr]
    exact ent_swap.trans (Ent.cons (ent_snoc (by rw [List.length_take]; omega)))
  · rintro acc L' d ⟨as, rfl, hl, rfl⟩
    rw [← hlen, List.take_length]
    exact ⟨_, ent_star (Ls := pt d (.lst (as.map V.ref)) :: zc fL as rows), hq d as (by omega)⟩
/-- a comprehension over range(n) of plain values, some left out -/
theorem e_lcPlainR {tr : TA} {j : Nat} {vs : List Nat} {tt : TT} (n : Nat) (p : Nat → Bool) (g : Nat → V) (hn : n ≤ 100000) (hw : ∀ x, wipe ((wipe σ vs).set j (some x)) vs = wipe σ vs) (h : SA tr σ L fun us L1 => us = [nV n] ∧ L1 = L)
    (ht : ∀ i, i < n → ∀ L', Ent L' L → ST tt ((wipe σ vs).set j (some (nV i))) L' fun b L2 => b = p i ∧ L2 = L')
    (hs : ∀ i, i < n → p i = true → ∀ L', Ent L' L → SE te ((wipe σ vs).set j (some (nV i))) L' fun y L3 => y = g i ∧ L3 = L')
    (hq : ∀ d, Q (.ref d) (pt d (.lst (((List.range n).filter p).map g)) :: L)) : SE (tLc (iRng1 tr) (gName j) tt te vs) σ L Q := by
  refine e_lcR1 fun H s Qh k => h H s _ fun us L1 H1 s1 ⟨e1, e2⟩ => k _ _ _ s1 ⟨(n : Int), e1, by omega, by omega, hw, ?_⟩
  subst e2
  refine ⟨fun i acc L' => acc = ((List.range i).filter p).map g ∧ L' = L1, ⟨rfl, rfl⟩, ?_, ?_⟩
  · rintro i acc L' d hi ⟨rfl, rfl⟩
    have hl : (((List.range i).filter p).map g).length ≤ i := by
      rw [List.length_map]
      exact Nat.le_trans (List.length_filter_le _ _) (by rw [List.length_range]; exact Nat.le_refl _)
    refine t_mono (ht i (by omega) _ Ent.drop) ?_
    rintro b L2 ⟨rfl, rfl⟩
    refine ⟨fun hb => ?_, fun hb => ?_⟩
    · refine e_mono (hs i (by omega) hb _ Ent.drop) ?_
      rintro _ _ ⟨rfl, rfl⟩
      refine ⟨L', Ent.refl _, small5 (by omega), ?_, rfl⟩
      rw [List.range_succ, List.filter_append, List.map_append, List.filter_cons_of_pos hb]
      rfl
    · refine ⟨L', Ent.refl _, ?_, rfl⟩
      rw [List.range_succ, List.filter_append, List.filter_cons_of_neg (by rw [hb]; exact Bool.false_ne_true)]
      simp
  · rintro acc L' d ⟨rfl, rfl⟩
    have e : ((n : Int)).toNat = n := by omega
    rw [e]
    exact hq d
/-- a comprehension over a list, every item by a plain value -/
theorem e_lcPlainL {tl : TE} {j : Nat} {vs : List Nat} {a0 : Addr} {xs : List V} {tt : TT} (p : V → Bool) (g : V → V) (hn : xs.length ≤ 100000) (hw : ∀ x, wipe ((wipe σ vs).set j (some x)) vs = wipe σ vs) (h : SE tl σ L fun x L1 => x = .ref a0 ∧ L1 = L) (hsq : SqA K L a0 xs)
    (ht : ∀ x, x ∈ xs → ∀ L', Ent L' L → ST tt ((wipe σ vs).set j (some x)) L' fun b L2 => b = p x ∧ L2 = L')
    (hs : ∀ x, x ∈ xs → p x = true → ∀ L', Ent L' L → SE te ((wipe σ vs).set j (some x)) L' fun y L3 => y = g x ∧ L3 = L')
    (hq : ∀ d, Q (.ref d) (pt d (.lst ((xs.filter p).map g)) :: L)) : SE (tLc (iList K tl) (gName j) tt te vs) σ L Q := by
  refine e_lcL fun H s Qh k => h H s _ fun us L1 H1 s1 ⟨e1, e2⟩ => k _ _ _ s1 ⟨a0, xs, e1, by rw [e2]; exact hsq, hw, ?_⟩
  subst e2
  refine ⟨fun i acc L' => acc = ((xs.take i).filter p).map g ∧ L' = L1, ⟨rfl, rfl⟩, ?_, ?_, ?_⟩
  · rintro i acc L' _ ⟨rfl, rfl⟩
    exact hsq
  · rintro i x acc L' d hx ⟨rfl, rfl⟩
    have hi : i < xs.length := (List.getElem?_eq_some_iff.mp hx).1
    have hm : x ∈ xs := List.mem_of_getElem? hx
    have hl : (((xs.take i).filter p).map g).length ≤ i := by
      rw [List.length_map]
      refine Nat.le_trans (List.length_filter_le _ _) ?_
      rw [List.length_take]; omega
    refine t_mono (ht x hm _ Ent.drop) ?_
    rintro b L2 ⟨rfl, rfl⟩
    refine ⟨fun hb => ?_, fun hb => ?_⟩
    · refine e_mono (hs x hm hb _ Ent.drop) ?_
      rintro _ _ ⟨rfl, rfl⟩
      refine ⟨L', Ent.refl _, small5 (by omega), ?_, rfl⟩
      rw [take_snoc hx, List.filter_append, List.map_append, List.filter_cons_of_pos hb]
      rfl
    · refine ⟨L', Ent.refl _, ?_, rfl⟩
      rw [take_snoc hx, List.filter_append, List.filter_cons_of_neg (by rw [hb]; exact Bool.false_ne_true)]
      simp
  · rintro acc L' d ⟨rfl, rfl⟩
    rw [List.take_length]
    exact hq d
end
structure RdRows (K : PySem.W.Frag) (L : AL) (p : Addr) (as : List Addr) (rows : List (List (Option Nat))) : Prop where
  len : as.length = rows.length
  top : SqA K L p (as.map V.ref)
  row : ∀ (i : Nat) (a : Addr) (r : List (Option Nat)), as[i]? = some a → rows[i]? = some r → SqA K L a (r.map oV)
theorem rd_hd {K : PySem.W.Frag} {L : AL} {p : Addr} {as : List Addr} {rows : List (List (Option Nat))} (h : as.length = rows.length) : RdRows K (RowsA p as rows :: L) p as rows := ⟨h, Has.sq rows_p, fun _ _ _ h1 h2 => Has.sq (rows_i h1 h2)⟩
theorem rd_tl {K : PySem.W.Frag} {L : AL} {A : Asn} {p : Addr} {as : List Addr} {rows : List (List (Option Nat))} (h : RdRows K L p as rows) : RdRows K (A :: L) p as rows := ⟨h.len, sq_tl h.top, fun i a r h1 h2 => sq_tl (h.row i a r h1 h2)⟩
theorem nV_toNat {e : Int} (h : 0 ≤ e) : nV e.toNat = V.int e := by
  show V.int ((e.toNat : Nat) : Int) = V.int e
  congr 1
  omega
/-- what holds between two statements -/
theorem s_mid {t : TS} {D : EA} {σ : L2.St} {L : AL} {Mid : L2.St → AL → Prop} (h : SS t { D with nx := fun σ L1 => ∃ L2, Ent L1 L2 ∧ Mid σ L2 } σ L) (k : ∀ σ L, Mid σ L → D.nx σ L) : SS t D σ L :=
  s_post (s_mono h (fun σ L1 ⟨L2, e, m⟩ => ⟨L2, e, k σ L2 m⟩) (fun _ _ q => q) (fun _ _ q => q) fun _ _ q => q)
theorem cut_to {xs : List V} {h : Int} (h0 : 0 ≤ h) : cutV xs none (some h) = xs.take h.toNat := by
  have e : h = ((h.toNat : Nat) : Int) := by omega
  generalize h.toNat = k at e
  subst e
  unfold cutV
  rw [HT.sIx_nat, HT.sIx_none, List.drop_zero, Nat.sub_zero]
  by_cases c : k ≤ xs.length
  · rw [Nat.min_eq_left c]
  · rw [Nat.min_eq_right (by omega), List.take_of_length_le (Nat.le_refl _), List.take_of_length_le (by omega)]
theorem cut_from {xs : List V} {k : Nat} : cutV xs (some (k : Int)) none = xs.drop k := by
  unfold cutV
  rw [HT.sIx_nat, HT.sIx_none]
  by_cases c : k ≤ xs.length
  · rw [Nat.min_eq_left c]
    exact List.take_of_length_le (by rw [List.length_drop]; exact Nat.le_refl _)
  · rw [Nat.min_eq_right (by omega), List.drop_eq_nil_of_le (i := k) (by omega), List.drop_eq_nil_of_le (Nat.le_refl _)]
    exact List.take_nil
/-! ### the script's cells -/
def cell (ns : List Int) (k : Int) : Int := ns.getD k.toNat 0
def P_law_cell_at (K : PySem.W.Frag) (_ : Ex) : Pm := pm2 fun x y L Q _ => ∃ (a : Addr) (ns : List Int) (k : Int), x = .ref a ∧ y = .int k ∧ 0 ≤ k ∧ SqA K L a (ns.map V.int) ∧ Q (.int (cell ns k)) L
section
variable {K : PySem.W.Frag} {A : Ex} {L : AL} {Q : V → AL → Prop} {Ea : Value → AL → Prop}
theorem do_cell {a : Addr} {ns : List Int} {k : Int} (hq : SqA K L a (ns.map V.int)) (hk : 0 ≤ k) (q : Q (.int (cell ns k)) L) : ∃ L2, Ent L L2 ∧ P_law_cell_at K A [.ref a, .int k] L2 Q Ea :=
  ⟨L, Ent.refl _, _, _, rfl, a, ns, k, rfl, rfl, hk, hq, q⟩
end
end Mp
/-! try .. except, over lists of assertions: calls whose way out is told at the slots. -/
namespace Mp
open PySem L2 PyProof.Rows
section
variable {X : Cx} {CX : CXT} {k : Nat} {f C : Addr} {fd : FuncData} {ps : List Str} {sp : Sp} {E : L2.St → XK} {x m : Str} {p pos apos : Pos} {e o : Expr} {es : List Expr} {ta : TE} {t : TA}
def tMethS (C : Addr) (m : Str) (sp : Sp) (E : L2.St → XK) (ta : TE) (t : TA) : TE := fun σ H Q => ta σ H fun x H1 => ∃ a dx fs, x = .ref a ∧ H1 a = some (.ins C dx fs) ∧ fs.lookup m = none ∧ t σ H1 fun vs H2 => sp (x :: vs) H2 Q (E σ)
theorem mp_methS {pl : Sem Bool} (he : PE X o ta) (c : Cls X.K C) (hm : Meth X.K C m f) (F : FnOk X.prog X.w X.K X.mg X.base CX k f fd ps sp) (hr : Room k X.A) (hb : Binds X.K fd ps []) (hx : ∀ σ, PassesAt CX X σ (E σ)) (ha : PA X (e :: es) t)
    (hst : starEach (e :: es) X.env = (false, eval e X.env) :: starEach es X.env := by rfl) (hpl : (backTo pos (starEach es X.env)).any (·.1) = false := by rfl)
    (ht : eval (.Call (.Attribute o m apos) (e :: es) [] pos) X.env = (do
      let ov ← eval o X.env
      standAt apos.atName
      let (f, first) ← holding [ov] (getMethod ov m pl)
      callWith pos f first (backTo pos (starEach (e :: es) X.env)) (backToKw pos (keywordEach [] X.env))) := by rfl) :
    PE X (.Call (.Attribute o m apos) (e :: es) [] pos) (tMethS C m sp E ta t) := by
  refine ⟨fun pins s σ H Q I h => ?_⟩
  refine PySem.W.methodCall_KW (pl := pl) (thn (he.run pins s σ H _ I h) fun u s1 ⟨x, H1, I1, rx, a, dx, fs, ex, ea, l, q⟩ => ?_) ht
  subst ex
  obtain rfl : u = Value.ref a := rx
  refine getmeth_ok I1 ea c hm l ?_
  refine PySem.W.callWith_K (first := [.ref a]) (h₀ := X.base) I.ok.mod.kin hm.kp (thn (ha.run pos pins s1 σ H1 _ I1 q) fun us s2 ⟨vs, H2, I2, r, q2⟩ => ⟨I2.kIn, ?_⟩) hst hpl
  exact run_fnS (us := .ref a :: us) (vs := .ref a :: vs) F hr hb (hx σ) I2 (.cons rfl r) q2
def tMakeS (C : Addr) (sp : Sp) (E : L2.St → XK) (t : TA) : TE := fun σ H Q => t σ H fun vs H1 => ∀ x dx, H1 x = none → H1 dx = none → dx ≠ x → sp (.ref x :: vs) (upd (upd H1 dx (.own x)) x (.ins C dx [])) (fun v H2 => v = .non ∧ Q (.ref x) H2) (E σ)
theorem run_makeS {E : XK} {pins : List (Addr × Obj)} {σ : L2.St} {H : Hp} {s : Shared} {Q : VK} {us : List Value} {vs : List V} (M : Mk X.K C f) (F : FnOk X.prog X.w X.K X.mg X.base CX k f fd ps sp) (hr : Room (k + 1) X.A) (hb : Binds X.K fd ps [])
    (hx : PassesAt CX X σ E) (I : Inv X pins σ H s) (r : Vals vs us)
    (h : ∀ x dx, H x = none → H dx = none → dx ≠ x → sp (.ref x :: vs) (upd (upd H dx (.own x)) x (.ins C dx [])) (fun v H2 => v = .non ∧ Q (.ref x) H2) E) :
    wpAny (model X.prog X.w) X.A (call (.ref C) us) (EP X pins σ Q) X.xe s := by
  have hq := h (s.heap.objs.size + 1) s.heap.objs.size (I.hok.fresh (Nat.le_succ _)) (I.hok.fresh (Nat.le_refl _)) (Nat.ne_of_lt (Nat.lt_succ_self _))
  have I2 := Inv.made (C := C) I
  have r2 : Vals (V.ref (s.heap.objs.size + 1) :: vs) (Value.ref (s.heap.objs.size + 1) :: us) := .cons rfl r
  have hl : (Value.ref (s.heap.objs.size + 1) :: us ++ []).length = ps.length := by
    have e := r2.length
    rw [F.len _ _ _ _ hq] at e
    rw [List.append_nil]
    exact e.symm
  have hb2 := hb _ (Value.ref (s.heap.objs.size + 1) :: us) I2.kIn hl
  rw [List.append_nil] at hb2
  refine wpAny_call (make_map (f := f) I.kIn M.makes M.init (beq_iff_eq.mp M.fn) (codeAny_mono (F.run _ X.stack _ _ ⟨Value.ref (s.heap.objs.size + 1) :: us, []⟩ (Value.ref (s.heap.objs.size + 1) :: us) _ _ E (hr.make C us [])
    (I2.env0.make C us []) hb2 r2 hq) fun r s' hq' => ?_))
  cases r with
  | error e => exact hx pins _ _ e s' I2 hq'
  | ok fl =>
    cases fl with
    | ret u =>
      obtain ⟨v, H', I3, rv, ev, q3⟩ := I2.after hq'
      subst ev
      exact ⟨rv, ⟨V.ref (s.heap.objs.size + 1), H', I3, rfl, q3⟩⟩
    | next => exact False.elim hq'
    | brk => exact False.elim hq'
    | cont => exact False.elim hq'
theorem mp_makeS (M : Mk X.K C f) (F : FnOk X.prog X.w X.K X.mg X.base CX k f fd ps sp) (hr : Room (k + 1) X.A) (hg : Gl X x) (hm : X.mg x = some (.ref C)) (hb : Binds X.K fd ps []) (hx : ∀ σ, PassesAt CX X σ (E σ))
    (ha : PA X (e :: es) t) (hdb : (x == ("__debug__" : Str)) = false := by decide) (he : starEach (e :: es) X.env = (false, eval e X.env) :: starEach es X.env := by rfl) (hpl : (backTo pos (starEach es X.env)).any (·.1) = false := by rfl) :
    PE X (.Call (.Name x p) (e :: es) [] pos) (tMakeS C sp E t) := by
  refine ⟨fun pins s σ H Q I h => ?_⟩
  refine wpAny_Call_Name_kw (ld_glob I hg hm ?_ hdb)
  refine PySem.W.callWith_K (h₀ := X.base) I.ok.mod.kin M.kp (thn (ha.run pos pins s σ H _ I h) fun us s1 ⟨vs, H1, I1, r, q⟩ => ⟨I1.kIn, ?_⟩) he hpl
  exact run_makeS M F hr hb (hx σ) I1 r q
/-- an expression that is never come to -/
def tNo : TE := fun _ _ _ => False
theorem pe_no {e : Expr} : PE X e tNo := ⟨fun _ _ _ _ _ _ h => h.elim⟩
end
/-- an error of the class at R is (b), is not (¬ b) what «except C» names -/
theorem exm_of {K : PySem.W.Frag} {R C : Addr} {b : Bool} (h1 : PySem.W.subIn K (.ref C) (.type "BaseException") = some true) (h2 : PySem.W.isClsIn K C = true) (h3 : PySem.W.typeIn K (.ref C) = some (.type "type")) (h4 : PySem.W.subIn K (.ref R) (.ref C) = some b) :
    PySem.W.exmOne K (.ref R) (.ref C) = some b := by
  have e1 : (PySem.W.subIn K (.ref C) (.type "BaseException") == some true) = true := by rw [h1] <;> rfl
  have e2 : ((PySem.W.clsIn K C).isSome && PySem.W.typeIn K (.ref C) == some (.type "type")) = true := by
    have h2' : (PySem.W.clsIn K C).isSome = true := h2
    rw [h2', h3] <;> rfl
  show (if (PySem.W.subIn K (.ref C) (.type "BaseException") == some true) = true then (if ((PySem.W.clsIn K C).isSome && PySem.W.typeIn K (.ref C) == some (.type "type")) = true then PySem.W.subIn K (.ref R) (.ref C) else none) else none) = some b
  rw [if_pos e1, if_pos e2]
  exact h4
/-! ### readings -/
def tTryO (K : PySem.W.Frag) (c : Value) (ts : TS) (tb : WX → TS) : TS := fun D σ H => tb (wOnly K c (fun _ _ _ => ts) (fun _ _ _ _ => False) D) D σ H
abbrev WA := Value → L2.St → AL → Prop
def WLe (Wa : WA) (W : WX) : Prop := ∀ cls σ L H, Sep L H → Wa cls σ L → W cls none σ H
/-- what is wished of an exception by one clause without a name -/
def wA (K : PySem.W.Frag) (c : Value) (ts : TS) (D : EA) : WA := fun cls σ L => PySem.W.exmOne K cls c = some true ∧ SS ts D σ L
section
variable {K : PySem.W.Frag} {σ : L2.St} {L : AL} {Q : V → AL → Prop} {P : Pm} {tr : TA} {ta : TE} {ts : TS} {D : EA} {W : WX} {Wa : WA} {c : Value}
theorem s_tryO {tb : WX → TS} (h : ∀ W, WLe (wA K c ts D) W → SS (tb W) D σ L) : SS (tTryO K c ts tb) D σ L := fun H s E le =>
  h (wOnly K c (fun _ _ _ => ts) (fun _ _ _ _ => False) E) (fun cls σ L H s w => ⟨true, w.1, fun _ a _ => w.2 H s E le, fun z => nomatch z⟩) H s E le
theorem e_methW {C : Addr} {m : Str} (hW : WLe Wa W) (h : SE ta σ L fun x L1 => ∃ a dx fs, x = .ref a ∧ Has L1 a (.ins C dx fs) ∧ fs.lookup m = none ∧ SA tr σ L1 fun vs L2 => ∃ L3, Ent L2 L3 ∧ P (x :: vs) L3 Q fun cls L => Wa cls σ L) : SE (tMethS C m (lift P) (WE W) ta tr) σ L Q := fun H s Qh k =>
  h H s _ fun x L1 H1 s1 ⟨a, dx, fs, e, hh, l, h1⟩ => ⟨a, dx, fs, e, hh H1 s1, l, h1 H1 s1 _ fun vs L2 H2 s2 ⟨L3, en, p⟩ => ⟨L3, Q, fun cls L => Wa cls σ L, en H2 s2, p, k, fun cls L H s q => hW cls σ L H s q⟩⟩
theorem e_callW (hW : WLe Wa W) (h : SA tr σ L fun vs L1 => ∃ L2, Ent L1 L2 ∧ P vs L2 Q fun cls L => Wa cls σ L) : SE (tCallS (lift P) (WE W) tr) σ L Q := fun H s Qh k =>
  h H s _ fun vs L1 H1 s1 ⟨L2, en, p⟩ => ⟨L2, Q, fun cls L => Wa cls σ L, en H1 s1, p, k, fun cls L H s q => hW cls σ L H s q⟩
theorem e_makeW {C : Addr} (hW : WLe Wa W) (h : SA tr σ L fun vs L1 => ∀ p dx, ∃ L2, Ent (pt p (.ins C dx []) :: L1) L2 ∧ P (.ref p :: vs) L2 (fun v L3 => v = .non ∧ Q (.ref p) L3) fun cls L => Wa cls σ L) : SE (tMakeS C (lift P) (WE W) tr) σ L Q := fun H s Qh k =>
  h H s _ fun vs L1 H1 s1 h1 => fun x dx hx hdx ne => by
    obtain ⟨L2, en, p⟩ := h1 x dx
    have s2 : Sep (pt x (.ins C dx []) :: L1) (upd (upd H1 dx (.own x)) x (.ins C dx [])) := sep_new ((s1.mono (fun b o e => by rw [upd_ne (ne_of_none e hdx)]; exact e))) (by rw [upd_ne ne.symm]; exact hx)
    exact ⟨L2, fun v L3 => v = .non ∧ Q (.ref x) L3, fun cls L => Wa cls σ L, en _ s2, p, fun v L3 H3 s3 q => ⟨q.1, k _ _ _ s3 q.2⟩, fun cls L H s q => hW cls σ L H s q⟩
end
end Mp
/-! Texts: the rules read over lists of assertions; the written table of words. -/
namespace Mp
open PySem L2 PyProof.Rows
abbrev rSplit : V → List V → Hp → VK → Prop := fun x xs H Q => ∃ a b, x = .str a ∧ xs = [.str b] ∧ (b.length == 0) = false ∧ a.length + 2 ≤ sizeLine ∧ rNewStrs (Txt.split a b) H Q
abbrev rJoin (K : PySem.W.Frag) : V → List V → Hp → VK → Prop := fun x xs H Q => ∃ a p, ∃ ys : List Str, x = .str a ∧ xs = [.ref p] ∧ (SqL K H p (ys.map V.str) ∨ SqT K H p (ys.map V.str)) ∧ (ys.map (·.length)).sum + ys.length * a.length ≤ 16777216 ∧ Q (.str (Txt.join a ys)) H
abbrev rInSg : R2 := fun x y H Q => ∃ (c : Nat) (z : Str), x = .str ⟨#[c]⟩ ∧ y = .str z ∧ Q (.bl (decide (c ∈ z.cps.toList))) H
abbrev rNotInSg : R2 := fun x y H Q => ∃ (c : Nat) (z : Str), x = .str ⟨#[c]⟩ ∧ y = .str z ∧ Q (.bl (!decide (c ∈ z.cps.toList))) H
abbrev rIntS : List V → Hp → VK → Prop := fun xs H Q => ∃ a n, xs = [.str a] ∧ PySem.intText? a = some n ∧ a.length ≤ 640 ∧ Q (.int n) H
abbrev rTupOf (K : PySem.W.Frag) : List V → Hp → VK → Prop := fun xs H Q => ∃ p ys, xs = [.ref p] ∧ ((SqL K H p ys ∧ ∀ l, H l = none → Q (.ref l) (upd H l (.tup ys))) ∨ (SqT K H p ys ∧ Q (.ref p) H))
/-! ### the table of words -/
def wTab : List (Str × Int) := [("make", 2), ("take", 3), ("put", 3), ("share", 2), ("drop", 1), ("work", 1)]
def tabGet (tb : List (Str × Int)) (x : Str) : Option Int := (tb.find? fun p => p.1 == x).map (·.2)
def WDict (K : PySem.W.Frag) (w : World) (a : Addr) : Prop :=
  ∃ es n, K.lookup a = some ⟨.type "dict", none, .dict es n, #[]⟩ ∧ PySem.W.KeysLit w.params es.toList ∧ (a == sysModules) = false ∧ ∀ x, (tabGet wTab x = none → PySem.W.nsIn K a x = some none) ∧ ∀ m, tabGet wTab x = some m → ∃ u, PySem.W.nsIn K a x = some (some (.int m u))
inductive KeyedT : List DictEntry → List (Str × Int) → Prop
  | nil : KeyedT [] []
  | cons {h : Int} {x : Str} {t u : Tok} {m : Int} {l : List DictEntry} {tb : List (Str × Int)} : KeyedT l tb → KeyedT (⟨h, .str x t, .int m u⟩ :: l) ((x, m) :: tb)
theorem keyed_find {l : List DictEntry} {tb : List (Str × Int)} (k : KeyedT l tb) (x : Str) : (tabGet tb x = none → l.find? (·.key.isStr x) = none ∧ l.any (·.refKey) = false) ∧ ∀ m, tabGet tb x = some m → ∃ e u, l.find? (·.key.isStr x) = some e ∧ e.val = .int m u := by
  induction k with
  | nil => exact ⟨fun _ => ⟨rfl, rfl⟩, fun m h => by cases h⟩
  | @cons h y t u m l tb k ih =>
    by_cases c : (y == x) = true
    · have e2 : tabGet ((y, m) :: tb) x = some m := by unfold tabGet; rw [List.find?_cons_of_pos (by exact c)]; rfl
      have e3 : ((⟨h, .str y t, .int m u⟩ : DictEntry) :: l).find? (·.key.isStr x) = some ⟨h, .str y t, .int m u⟩ := List.find?_cons_of_pos (by exact c)
      rw [e2]
      refine ⟨fun z => (by cases z), fun m' hm => ?_⟩
      cases hm
      exact ⟨_, u, e3, rfl⟩
    · have e2 : tabGet ((y, m) :: tb) x = tabGet tb x := by unfold tabGet; rw [List.find?_cons_of_neg (by exact c)]
      have e3 : ((⟨h, .str y t, .int m u⟩ : DictEntry) :: l).find? (·.key.isStr x) = l.find? (·.key.isStr x) := List.find?_cons_of_neg (by exact c)
      rw [e2, e3]
      refine ⟨fun z => ?_, ih.2⟩
      obtain ⟨a, b⟩ := ih.1 z
      refine ⟨a, ?_⟩
      rw [List.any_cons, b]
      rfl
theorem wdict_of {K : PySem.W.Frag} {w : World} {a : Addr} {es : Array DictEntry} {n : Nat} (lk : K.lookup a = some ⟨.type "dict", none, .dict es n, #[]⟩) (kl : PySem.W.KeysLit w.params es.toList) (sm : (a == sysModules) = false) (kt : KeyedT es.toList wTab) : WDict K w a := by
  refine ⟨es, n, lk, kl, sm, fun x => ?_⟩
  obtain ⟨k1, k2⟩ := keyed_find kt x
  refine ⟨fun h => ?_, fun m h => ?_⟩
  · obtain ⟨a1, a2⟩ := k1 h
    unfold PySem.W.nsIn
    rw [lk]
    show (match es.toList.find? (·.key.isStr x) with | some e => some (some e.val) | none => if es.toList.any (·.refKey) then none else some none) = some none
    rw [a1, a2]
    rfl
  · obtain ⟨e, u, a1, a2⟩ := k2 m h
    refine ⟨u, ?_⟩
    unfold PySem.W.nsIn
    rw [lk]
    show (match es.toList.find? (·.key.isStr x) with | some e => some (some e.val) | none => if es.toList.any (·.refKey) then none else some none) = _
    rw [a1]
    show some (some e.val) = _
    rw [a2]
def rNotInW (a : Addr) : R2 := fun x y H Q => ∃ z : Str, x = .str z ∧ y = .ref a ∧ Q (.bl (!(tabGet wTab z).isSome)) H
def rIxW (a : Addr) : R2 := fun x y H Q => ∃ (z : Str) (m : Int), x = .ref a ∧ y = .str z ∧ tabGet wTab z = some m ∧ Q (.int m) H
theorem op_notIn_wd {X : Cx} {a : Addr} (W : WDict X.K X.w a) : OpR X (compareOp .NotIn) (rNotInW a) := by
  intro pins s σ H x y v u Q I rx ry h
  obtain ⟨z, rfl, rfl, q⟩ := h
  obtain ⟨es, n, hl, hk, lo, hx⟩ := W
  obtain rfl : u = Value.ref a := ry
  obtain ⟨t, rfl⟩ := (show ∃ t, v = Value.str z t from rx)
  have hm := PySem.W.mapOf_K (prog := X.prog) (w := X.w) I.kIn hl hk
  refine wpAny_notIn_of (strKind_is X.prog X.w z t) lo hm ?_
  cases e : tabGet wTab z with
  | none =>
    rw [PySem.W.find_K hl ((hx z).1 e)]
    rw [e] at q
    exact ⟨.bl true, H, I.tok _, rfl, q⟩
  | some m =>
    obtain ⟨u, hu⟩ := (hx z).2 m e
    rw [PySem.W.find_K hl hu]
    rw [e] at q
    exact ⟨.bl false, H, I.tok _, rfl, q⟩
theorem ix_wd {X : Cx} {a : Addr} (W : WDict X.K X.w a) : IxR X (rIxW a) := by
  intro value slice pins s σ H x y v u Q I rx ry h hs
  obtain ⟨z, m, rfl, rfl, hm', q⟩ := h
  obtain ⟨es, n, hl, hk, lo, hx⟩ := W
  obtain ⟨u0, hu⟩ := (hx z).2 m hm'
  obtain rfl : v = Value.ref a := rx
  obtain ⟨t, rfl⟩ := (show ∃ t, u = Value.str z t from ry)
  have hm := PySem.W.mapOf_K (prog := X.prog) (w := X.w) I.kIn hl hk
  exact tail_any hm.typeIs slot_dict_getitem.lookup (wpAny_getItem_of (strKind_is X.prog X.w z t) hm (PySem.W.find_K hl hu) ⟨.int m, H, I.tok _, ⟨_, rfl⟩, q⟩) hs
/-! ### readings -/
section
variable {K : PySem.W.Frag} {σ : L2.St} {L M : AL} {Q : V → AL → Prop} {ta tb : TE}
theorem e_m1 {r : V → List V → Hp → VK → Prop} (h : SE ta σ L fun x L1 => (∃ a, x = .str a) ∧ SE tb σ L1 fun y L2 => RE (r x [y]) L2 Q) : SE (tM1 r ta tb) σ L Q := fun H s Qh k =>
  h H s _ fun x L1 H1 s1 ⟨a, h1⟩ => ⟨a, h1 H1 s1 _ fun y L2 H2 s2 h2 => h2 H2 s2 Qh k⟩
theorem r_split {a b : Str} (hb : (b.length == 0) = false) (hz : a.length + 2 ≤ sizeLine) (q : ∀ p, Q (.ref p) (pt p (.lst ((Txt.split a b).map V.str)) :: L)) : RE (rSplit (.str a) [.str b]) L Q := fun H s Qh k =>
  ⟨a, b, rfl, rfl, hb, hz, fun p hp => k _ _ _ (sep_new s hp) (q p)⟩
theorem r_join {a : Str} {p : Addr} {ys : List Str} (h : SqA K L p (ys.map V.str)) (hz : (ys.map (·.length)).sum + ys.length * a.length ≤ 16777216) (q : Q (.str (Txt.join a ys)) L) : RE (rJoin K (.str a) [.ref p]) L Q := fun H s Qh k =>
  ⟨a, p, ys, rfl, rfl, .inl (h H s), hz, k _ _ _ s q⟩
theorem r_inSg {c : Nat} {z : Str} (q : Q (.bl (decide (c ∈ z.cps.toList))) L) : RE (rInSg (.str ⟨#[c]⟩) (.str z)) L Q := fun H s Qh k => ⟨c, z, rfl, rfl, k _ _ _ s q⟩
theorem r_notInSg {c : Nat} {z : Str} (q : Q (.bl (!decide (c ∈ z.cps.toList))) L) : RE (rNotInSg (.str ⟨#[c]⟩) (.str z)) L Q := fun H s Qh k => ⟨c, z, rfl, rfl, k _ _ _ s q⟩
theorem c_intS {a : Str} {n : Int} (h : PySem.intText? a = some n) (hl : a.length ≤ 640) (q : Q (.int n) L) : RE (rIntS [.str a]) L Q := fun H s Qh k => ⟨a, n, rfl, h, hl, k _ _ _ s q⟩
theorem c_tupOf {p : Addr} {xs : List V} (h : SqA K L p xs) (q : ∀ t, Q (.ref t) (pt t (.tup xs) :: L)) : RE (rTupOf K [.ref p]) L Q := fun H s Qh k => ⟨p, xs, rfl, .inl ⟨h H s, fun l hl => k _ _ _ (sep_new s hl) (q l)⟩⟩
theorem r_slT {a : Addr} {xs : List V} {lo hi : Option Int} (h : TqA K L a xs) (hn : ¬ (HT.sIx xs.length 0 lo = 0 ∧ HT.sIx xs.length xs.length hi = xs.length)) (q : ∀ p, Q (.ref p) (pt p (.tup (cutV xs lo hi)) :: L)) : RE (rSlT K (.ref a) lo hi) L Q := fun H s Qh k =>
  ⟨a, xs, rfl, h H s, hn, fun p hp => k _ _ _ (sep_new s hp) (q p)⟩
theorem r_notInW {a : Addr} {z : Str} (q : Q (.bl (!(tabGet wTab z).isSome)) L) : RE (rNotInW a (.str z) (.ref a)) L Q := fun H s Qh k => ⟨z, rfl, rfl, k _ _ _ s q⟩
theorem r_ixW {a : Addr} {z : Str} {m : Int} (h : tabGet wTab z = some m) (q : Q (.int m) L) : RE (rIxW a (.ref a) (.str z)) L Q := fun H s Qh k => ⟨z, m, rfl, rfl, h, k _ _ _ s q⟩
theorem e_lcT {tl : TE} {te : TE} {tt : TT} {j : Nat} {vs : List Nat} (h : SE tl σ L fun x L1 => ∃ a xs, x = .ref a ∧ TqA K L1 a xs ∧ (∀ x, wipe ((wipe σ vs).set j (some x)) vs = wipe σ vs) ∧ ∃ Pv : Nat → List V → AL → Prop, Pv 0 [] L1 ∧ (∀ i acc L, i ≤ xs.length → Pv i acc L → TqA K L a xs) ∧
      (∀ i x acc L (d : Addr), xs[i]? = some x → Pv i acc L → ST tt ((wipe σ vs).set j (some x)) (pt d (.lst acc) :: L) fun b L2 =>
        (b = true → SE te ((wipe σ vs).set j (some x)) L2 fun y L3 => ∃ L4, Ent L3 (pt d (.lst acc) :: L4) ∧ acc.length < sizeLine ∧ Pv (i + 1) (acc ++ [y]) L4) ∧ (b = false → ∃ L4, Ent L2 (pt d (.lst acc) :: L4) ∧ Pv (i + 1) acc L4)) ∧
      ∀ acc L d, Pv xs.length acc L → Q (.ref d) (pt d (.lst acc) :: L)) : SE (tLc (iTup K tl) (gName j) tt te vs) σ L Q := fun H s Qh k =>
  h H s _ fun x L1 H1 s1 ⟨a, xs, e, hq, hw, Pv, h0, hl, hs, hd⟩ => ⟨a, e, ⟨xs, hq H1 s1⟩, fun d hD => lc_tup (K := K) (a := a) (xs := xs) (fun i H => ∃ acc L, Sep (pt d (.lst acc) :: L) H ∧ Pv i acc L) ⟨[], L1, sep_new s1 hD, h0⟩
    (fun i H hi ⟨acc, L, s, p⟩ => hl i acc L hi p H s.tail)
    (fun i x H hx ⟨acc, L, s, p⟩ => ⟨hw x, hs i x acc L d hx p H s _ fun b L2 H2 s2 ⟨ht, hf⟩ => by
      cases b with
      | true =>
        rw [if_pos rfl]
        refine ht rfl H2 s2 _ fun y L3 H3 s3 ⟨L4, en, z, p4⟩ => ?_
        have s4 := en H3 s3
        exact ⟨acc, has_hd H3 s4, z, acc ++ [y], L4, (wr_hd H3 s4).2, p4⟩
      | false =>
        rw [if_neg Bool.false_ne_true]
        obtain ⟨L4, en, p4⟩ := hf rfl
        exact ⟨acc, L4, en H2 s2, p4⟩⟩)
    fun H ⟨acc, L, s, p⟩ => k _ _ _ s (hd acc L d p)⟩
theorem s_raiseT {C : Addr} {D : EA} {E : XK} {Ea : Value → AL → Prop} (he : ELe Ea E) (e : Ent L M) (q : Ea (.ref C) M) : SS (tRaiseC C E) D σ L := fun H s _ _ => he _ _ _ (e H s) q
theorem s_postC {t : TS} {D : EA} (h : SS t { D with nx := fun σ L1 => ∃ L2, Ent L1 L2 ∧ D.nx σ L2, rt := fun v L1 => ∃ L2, Ent L1 L2 ∧ D.rt v L2 } σ L) : SS t D σ L := fun H s E le =>
  h H s E ⟨fun σ L1 H1 s1 ⟨L2, e, q⟩ => le.nx σ L2 H1 (e H1 s1) q, fun v L1 H1 s1 ⟨L2, e, q⟩ => le.rt v L2 H1 (e H1 s1) q, le.bk, le.ct⟩
theorem tq_tl {A : Asn} {a : Addr} {xs : List V} (h : TqA K L a xs) : TqA K (A :: L) a xs := fun _ s => h _ s.tail
end
end Mp
/-! Pure theorems of the laws' small helpers. -/
namespace Mp
open PySem L2 PyProof.Rows
local macro_rules | `(tactic| tm_at "hs") => `(tactic| with_reducible first
  | exact has_hd
  | exact heap_ins
  | exact heap_h
  | exact heap_d
  | exact heap_o
  | exact heap_s
  | exact heap_r
  | exact rows_p
  | assumption
  | (apply has_tl; tm_at "hs"))
local macro_rules | `(tactic| tm_at "wr") => `(tactic| with_reducible first
  | exact wr_hd
  | exact heap_wr_hands
  | (apply wr_tl; tm_at "wr"))
local macro_rules | `(tactic| tm_at "sq") => `(tactic| with_reducible first
  | assumption
  | exact scr_hd
  | exact Has.sq has_hd
  | exact Has.sq heap_h
  | exact Has.sq heap_o
  | exact Has.sq heap_r
  | exact Has.sq rows_p
  | (apply Has.sq; assumption)
  | (apply sq_tl; tm_at "sq"))
local macro_rules | `(tactic| tm_at "w_i") => `(tactic| with_reducible refine s_if ?_)
local macro_rules | `(tactic| tm_at "w_s") => `(tactic| with_reducible first
  | refine s_seq ?_
  | refine s_asg ?_
  | refine s_ret ?_
  | refine s_next ?_
  | refine s_drop ?_
  | refine s_setL ?_
  | refine s_retN ?_
  | refine s_dput ?_
  | refine s_fld ?_
  | refine s_fldaug ?_
  | refine s_brk ?_
  | refine s_cnt ?_)
local macro_rules | `(tactic| tm_at "w_e") => `(tactic| first
  | ((with_reducible apply e_var); exact rfl)
  | with_reducible refine e_c ?_
  | with_reducible refine e_op ?_
  | with_reducible refine e_cb ?_
  | with_reducible refine e_call ?_
  | with_reducible refine e_callE (by assumption) ?_
  | with_reducible refine e_fld ?_
  | with_reducible refine e_bm ?_
  | with_reducible refine e_bm0 ?_
  | with_reducible refine e_meth ?_
  | with_reducible refine e_methE (by assumption) ?_
  | with_reducible refine e_dget ?_
  | with_reducible refine e_din ?_
  | with_reducible refine e_dnotin ?_
  | with_reducible refine e_andV ?_
  | with_reducible refine e_orV ?_
  | with_reducible refine e_notV ?_
  | ((with_reducible show SE (tChain rLeI rLtI _ _ _) _ _ _); refine ch_le_lt (fun _ q => by tm_at "go"; exact q) (fun _ q => by tm_at "go"; exact q) (fun _ q => by tm_at "go"; exact q) ?_)
  | ((with_reducible show SE (tChain rLeI rLeI _ _ _) _ _ _); refine ch_le_le (fun _ q => by tm_at "go"; exact q) (fun _ q => by tm_at "go"; exact q) (fun _ q => by tm_at "go"; exact q) ?_)
  | with_reducible refine e_chain ?_
  | with_reducible refine e_sl ?_
  | with_reducible refine e_lst ?_
  | with_reducible refine e_tup ?_
  | with_reducible refine e_un ?_
  | with_reducible refine e_dnew ?_)
local macro_rules | `(tactic| tm_at "w_t") => `(tactic| with_reducible first
  | refine t_test ?_
  | refine t_B ?_
  | refine t_and ?_
  | refine t_or ?_
  | refine t_not ?_
  | refine t_tru ?_
  | refine t_yes ?_)
local macro_rules | `(tactic| tm_at "w_g") => `(tactic| with_reducible first
  | refine g_hands (by assumption) (by tm_at "hs") (by with_unfolding_all exact rfl) ?_
  | refine g_room (by assumption) (by tm_at "hs") (by with_unfolding_all exact rfl) ?_
  | refine g_slots (by assumption) (by tm_at "hs") (by with_unfolding_all exact rfl) ?_
  | refine g_made (by assumption) (by tm_at "hs") (by with_unfolding_all exact rfl) ?_
  | refine g_ended (by assumption) (by tm_at "hs") (by with_unfolding_all exact rfl) ?_
  | refine g_stage (by assumption) (by tm_at "hs") (by with_unfolding_all exact rfl) ?_
  | refine g_old (by assumption) (by tm_at "hs") (by with_unfolding_all exact rfl) ?_
  | refine g_begun (by assumption) (by tm_at "hs") (by with_unfolding_all exact rfl) ?_
  | refine g_seen (by assumption) (by tm_at "hs") (by with_unfolding_all exact rfl) ?_
  | refine g_row (by assumption) (by tm_at "hs") (by with_unfolding_all exact rfl) ?_
  | refine g_looked (by assumption) (by tm_at "hs") (by with_unfolding_all exact rfl) ?_
  | refine g_swept (by assumption) (by tm_at "hs") (by with_unfolding_all exact rfl) ?_)
local macro_rules | `(tactic| tm_at "w_u") => `(tactic| with_reducible first
  | refine u_hands (by assumption) (by tm_at "hs") (by with_unfolding_all exact Nat.le_of_ble_eq_true rfl) (by tm_at "wr") ?_
  | refine u_room (by assumption) (by tm_at "hs") (by with_unfolding_all exact Nat.le_of_ble_eq_true rfl) (by tm_at "wr") ?_
  | refine u_slots (by assumption) (by tm_at "hs") (by with_unfolding_all exact Nat.le_of_ble_eq_true rfl) (by tm_at "wr") ?_
  | refine u_made (by assumption) (by tm_at "hs") (by with_unfolding_all exact Nat.le_of_ble_eq_true rfl) (by tm_at "wr") ?_
  | refine u_ended (by assumption) (by tm_at "hs") (by with_unfolding_all exact Nat.le_of_ble_eq_true rfl) (by tm_at "wr") ?_
  | refine u_stage (by assumption) (by tm_at "hs") (by with_unfolding_all exact Nat.le_of_ble_eq_true rfl) (by tm_at "wr") ?_
  | refine u_old (by assumption) (by tm_at "hs") (by with_unfolding_all exact Nat.le_of_ble_eq_true rfl) (by tm_at "wr") ?_
  | refine u_begun (by assumption) (by tm_at "hs") (by with_unfolding_all exact Nat.le_of_ble_eq_true rfl) (by tm_at "wr") ?_
  | refine u_seen (by assumption) (by tm_at "hs") (by with_unfolding_all exact Nat.le_of_ble_eq_true rfl) (by tm_at "wr") ?_
  | refine u_row (by assumption) (by tm_at "hs") (by with_unfolding_all exact Nat.le_of_ble_eq_true rfl) (by tm_at "wr") ?_
  | refine u_looked (by assumption) (by tm_at "hs") (by with_unfolding_all exact Nat.le_of_ble_eq_true rfl) (by tm_at "wr") ?_
  | refine u_swept (by assumption) (by tm_at "hs") (by with_unfolding_all exact Nat.le_of_ble_eq_true rfl) (by tm_at "wr") ?_
  | refine n_hands (by assumption) (by tm_at "hs") (by with_unfolding_all exact rfl) (by tm_at "wr") ?_
  | refine n_room (by assumption) (by tm_at "hs") (by with_unfolding_all exact rfl) (by tm_at "wr") ?_
  | refine n_slots (by assumption) (by tm_at "hs") (by with_unfolding_all exact rfl) (by tm_at "wr") ?_
  | refine n_made (by assumption) (by tm_at "hs") (by with_unfolding_all exact rfl) (by tm_at "wr") ?_
  | refine n_ended (by assumption) (by tm_at "hs") (by with_unfolding_all exact rfl) (by tm_at "wr") ?_
  | refine n_stage (by assumption) (by tm_at "hs") (by with_unfolding_all exact rfl) (by tm_at "wr") ?_
  | refine n_old (by assumption) (by tm_at "hs") (by with_unfolding_all exact rfl) (by tm_at "wr") ?_
  | refine n_begun (by assumption) (by tm_at "hs") (by with_unfolding_all exact rfl) (by tm_at "wr") ?_
  | refine n_seen (by assumption) (by tm_at "hs") (by with_unfolding_all exact rfl) (by tm_at "wr") ?_
  | refine n_row (by assumption) (by tm_at "hs") (by with_unfolding_all exact rfl) (by tm_at "wr") ?_
  | refine n_looked (by assumption) (by tm_at "hs") (by with_unfolding_all exact rfl) (by tm_at "wr") ?_
  | refine n_swept (by assumption) (by tm_at "hs") (by with_unfolding_all exact rfl) (by tm_at "wr") ?_)
local macro_rules | `(tactic| tm_at "w_r") => `(tactic| first
  | with_reducible refine r_I0 ?_
  | ((with_reducible refine r_I ?_ ?_); (first | exact ⟨by decide, by decide⟩ | exact ⟨by omega, by omega⟩ | (show (0 : Int) < _; first | decide | omega | assumption)))
  | with_reducible refine r_isNo ?_
  | with_reducible refine r_notNo ?_
  | with_reducible refine r_eq rfl ?_
  | with_reducible refine r_ne rfl ?_
  | ((with_reducible apply c_len); (tm_at "sq"))
  | with_reducible refine isi_int_int ?_
  | with_reducible refine isi_int_bool ?_
  | with_reducible refine isi_non_int ?_
  | with_reducible refine isi_str ?_
  | ((with_reducible apply isi_list); (tm_at "hs"))
  | with_reducible refine c_intB ?_
  | with_reducible refine c_intI ?_
  | with_reducible refine c_max2 ?_
  | with_reducible refine c_min2 ?_
  | (with_reducible refine r_dget (by tm_at "hs") (by assumption) ?_)
  | ((with_reducible apply r_dnotT); (tm_at "hs"))
  | ((with_reducible apply r_dinT); (tm_at "hs"))
  | ((with_reducible apply r_din); (tm_at "hs"))
  | ((with_reducible apply r_dnotin); (tm_at "hs"))
  | tm_at "w_g"
  | ((with_reducible apply c_lenD); (tm_at "hs"))
  | ((with_reducible apply r_listD); (tm_at "hs")))
local macro_rules | `(tactic| tm_at "w1") => `(tactic| first
  | ((with_reducible show SS _ _ _ _); first | tm_at "w_s" | tm_at "w_i")
  | tm_at "w0")
local macro_rules | `(tactic| tm_at "w0") => `(tactic| first
  | ((with_reducible show SE _ _ _ _); tm_at "w_e")
  | ((with_reducible show RE _ _ _); tm_at "w_r")
  | ((with_reducible show ST _ _ _ _); tm_at "w_t")
  | ((with_reducible show SA _ _ _ _); with_reducible first | refine a_cons ?_ | refine a_nil ?_)
  | ((with_reducible show SO _ _ _ _); with_reducible first | refine o_none ?_ | refine o_some ?_)
  | ((with_reducible show And _ _); with_reducible refine And.intro (ty_list (by tm_at "sq")) ?_)
  | ((with_reducible show Exists _); first | with_reducible refine do_cell (by tm_at "sq") (by first | decide | omega) ?_ | (with_reducible refine meth_h (by tm_at "hs") (by decide +kernel) ?_) | tm_at "w_u"))
local macro_rules | `(tactic| tm_at "go") => `(tactic| repeat (tm_at "w1"))
local macro_rules | `(tactic| tm_at "w1n") => `(tactic| first
  | ((with_reducible show SS _ _ _ _); tm_at "w_s")
  | tm_at "w0")
local macro_rules | `(tactic| tm_at "gn") => `(tactic| repeat (tm_at "w1n"))
def N_law_cell_at : List Str := ["_law_script", "_law_k"]
def t_law_cell_at (K : PySem.W.Frag) (A : Ex) (E : XK) : TS :=
    (tSeq (tIfS (tTest (tOp rLtI (tVar 1) (tCB (rLen K) (tCons (tVar 0) tNil)))) (tRet (tOp (rIxL K) (tVar 0) (tVar 1))) tNext)
    (tRet (tC (.int 0))))
def P_law_whole (K : PySem.W.Frag) (_ : Ex) : Pm := pm1 fun x L Q _ => ∃ o : Option Nat, x = oV o ∧ Q (.bl o.isSome) L
def N_law_whole : List Str := ["_law_found"]
def t_law_whole (K : PySem.W.Frag) (A : Ex) (E : XK) : TS :=
    (tRet (tAndV (tCB (rIsi K) (tCons (tVar 0) (tCons (tC (.ty "int")) tNil))) (tNotV (tCB (rIsi K) (tCons (tVar 0) (tCons (tC (.ty "bool")) tNil))))))
def P_law_numbers (K : PySem.W.Frag) (_ : Ex) : Pm := pm2 fun x y L Q _ => ∃ (a b : Addr) (xs ys : List (Option Nat)), x = .ref a ∧ y = .ref b ∧ Has L a (.lst (xs.map oV)) ∧ SqA K L b (ys.map oV) ∧ ys.length ≤ 100000 ∧ Q (.bl (decide (xs = ys))) L
def N_law_numbers : List Str := ["_law_found", "_law_due_here", "_law_k"]
def t_law_numbers (K : PySem.W.Frag) (A : Ex) (E : XK) : TS :=
    (tSeq (tIfS (tOr (tNot (tB (tCB (rIsi K) (tCons (tVar 0) (tCons (tC (.ty "list")) tNil))))) (tTest (tOp rNe (tCB (rLen K) (tCons (tVar 0) tNil)) (tCB (rLen K) (tCons (tVar 1) tNil))))) (tRet (tC (.bl false))) tNext)
    (tSeq (tFor (iRng1 (tCons (tCB (rLen K) (tCons (tVar 1) tNil)) tNil)) (gName 2)
      (tSeq (tIfS (tAnd (tTest (tOp rIsNo (tOp (rIxL K) (tVar 1) (tVar 2)) (tC .non))) (tTest (tOp rNotNo (tOp (rIxL K) (tVar 0) (tVar 2)) (tC .non)))) (tRet (tC (.bl false))) tNext)
    (tIfS (tAnd (tTest (tOp rNotNo (tOp (rIxL K) (tVar 1) (tVar 2)) (tC .non))) (tOr (tNot (tB (tCall (lift (P_law_whole K A)) [] E0 (tCons (tOp (rIxL K) (tVar 0) (tVar 2)) tNil)))) (tTest (tOp rNe (tOp (rIxL K) (tVar 0) (tVar 2)) (tOp (rIxL K) (tVar 1) (tVar 2)))))) (tRet (tC (.bl false))) tNext)))
    (tRet (tC (.bl true)))))
section
variable {K : PySem.W.Frag} {A : Ex} {E : XK} {vs : List V} {L : AL} {Q : V → AL → Prop} {Ea : Value → AL → Prop}
theorem p_law_cell_at (he : ELe Ea E) (h : P_law_cell_at K A vs L Q Ea) : SS (t_law_cell_at K A E) { nx := fun _ L => Q .non L, rt := Q } (start N_law_cell_at vs) L := by
  obtain ⟨_, _, rfl, a, ns, k, rfl, rfl, hk, hq, q⟩ := h
  unfold t_law_cell_at
  tm_at "go"
  refine ⟨_, rfl, fun hb => ?_, fun hb => ?_⟩
  · have hb := of_decide_eq_true hb
    rw [List.length_map] at hb
    tm_at "go"
    refine r_ixL hq (atI_toNat hk (v := V.int (cell ns k)) ?_) q
    have h2 : k.toNat < ns.length := by omega
    rw [List.getElem?_map, List.getElem?_eq_getElem h2]
    unfold cell
    rw [List.getD_eq_getElem?_getD, List.getElem?_eq_getElem h2]
    rfl
  · have hb := of_decide_eq_false hb
    rw [List.length_map] at hb
    tm_at "go"
    have e : cell ns k = 0 := by
      unfold cell
      rw [List.getD_eq_getElem?_getD, List.getElem?_eq_none (by omega)]
      rfl
    rw [e] at q
    exact q
theorem p_law_whole (he : ELe Ea E) (h : P_law_whole K A vs L Q Ea) : SS (t_law_whole K A E) { nx := fun _ L => Q .non L, rt := Q } (start N_law_whole vs) L := by
  obtain ⟨_, rfl, o, rfl, q⟩ := h
  unfold t_law_whole
  cases o with
  | none =>
    tm_at "go"
    exact ex_f q
  | some n =>
    tm_at "go"
    refine ex_t ?_
    tm_at "go"
    exact ⟨false, rfl, q⟩
theorem p_law_numbers (he : ELe Ea E) (h : P_law_numbers K A vs L Q Ea) : SS (t_law_numbers K A E) { nx := fun _ L => Q .non L, rt := Q } (start N_law_numbers vs) L := by
  obtain ⟨_, _, rfl, a, b, xs, ys, rfl, rfl, ha, hb, hz, q⟩ := h
  unfold t_law_numbers
  tm_at "go"
  refine ⟨_, rfl, both_f ?_⟩
  tm_at "go"
  refine ex_n (fun hn => ?_) fun hn => ?_
  · tm_at "go"
    have e : decide (xs = ys) = false := decide_eq_false fun z => hn (by rw [z])
    rw [e] at q
    exact q
  have hl : xs.length = ys.length := by
    have h1 := V.int.inj hn
    rw [List.length_map, List.length_map] at h1
    omega
  tm_at "go"
  refine s_forR1 ?_
  tm_at "go"
  have hly : (ys.map oV).length = ys.length := List.length_map _
  refine ⟨_, rfl, by omega, by omega, fun i σ L' => L' = L ∧ ∃ v, σ = [some (.ref a), some (.ref b), v] ∧ ∀ j < i, xs[j]? = ys[j]?, ⟨rfl, none, rfl, fun j hj => absurd hj (Nat.not_lt_zero _)⟩, ?_, ?_⟩
  · rintro i σ L' hi ⟨rfl, v, rfl, hj⟩
    have hiy : i < ys.length := by omega
    have hix : i < xs.length := by omega
    have ex : (xs.map oV)[i]? = some (oV xs[i]) := by rw [List.getElem?_map, List.getElem?_eq_getElem hix]; rfl
    have ey : (ys.map oV)[i]? = some (oV ys[i]) := by rw [List.getElem?_map, List.getElem?_eq_getElem hiy]; rfl
    have gx : xs[i]? = some xs[i] := List.getElem?_eq_getElem hix
    have gy : ys[i]? = some ys[i] := List.getElem?_eq_getElem hiy
    have bad : xs[i] ≠ ys[i] → Q (.bl false) L' := fun z => by
      have e : decide (xs = ys) = false := decide_eq_false fun w => z (by subst w; rfl)
      rw [e] at q
      exact q
    have good : xs[i] = ys[i] → ∀ j < i + 1, xs[j]? = ys[j]? := fun z j hj' => by
      by_cases c : j = i
      · subst c; rw [gx, gy, z]
      · exact hj j (by omega)
    generalize xs[i] = x at *
    generalize ys[i] = y at *
    tm_at "go"
    refine r_ixL hb (atI_nat ey) ?_
    tm_at "go"
    refine ex_c (fun c => ?_) fun c => ?_
    · have ey0 : y = none := oV_inj (b := none) c
      subst ey0
      tm_at "go"
      refine r_ixL ha.sq (atI_nat ex) ?_
      tm_at "go"
      refine ex_n (fun c2 => ?_) fun c2 => ?_
      · tm_at "go"
        exact bad fun z => c2 (by rw [z])
      · have ex0 : x = none := oV_inj (b := none) c2
        subst ex0
        tm_at "go"
        refine r_ixL hb (atI_nat ey) ?_
        tm_at "go"
        refine ⟨false, rfl, both_f (both_f ?_)⟩
        tm_at "go"
        exact ⟨rfl, some (nV i), rfl, good rfl⟩
    · obtain ⟨m, rfl⟩ : ∃ m, y = some m := by
        cases y with
        | none => exact absurd rfl c
        | some m => exact ⟨m, rfl⟩
      refine both_f ?_
      tm_at "go"
      refine r_ixL hb (atI_nat ey) ?_
      tm_at "go"
      refine ⟨true, rfl, both_t ?_⟩
      tm_at "go"
      refine r_ixL ha.sq (atI_nat ex) ?_
      tm_at "go"
      refine ⟨L', Ent.refl _, _, rfl, x, rfl, ?_⟩
      cases x with
      | none =>
        refine ⟨_, rfl, both_t (both_t ?_)⟩
        tm_at "go"
        exact bad fun z => nomatch z
      | some n =>
        refine ⟨_, rfl, both_f ?_⟩
        tm_at "go"
        refine r_ixL ha.sq (atI_nat ex) ?_
        tm_at "go"
        refine r_ixL hb (atI_nat ey) ?_
        refine r_ne rfl ?_
        refine ex_n (fun c2 => ?_) fun c2 => ?_
        · tm_at "go"
          exact bad fun z => c2 (by rw [z])
        · tm_at "go"
          exact ⟨rfl, some (nV i), rfl, good (oV_inj c2)⟩
  · rintro σ L' ⟨rfl, v, rfl, hj⟩
    have e : decide (xs = ys) = true := decide_eq_true (List.ext_getElem? fun j => by
      by_cases c : j < ys.length
      · exact hj j (by omega)
      · rw [List.getElem?_eq_none (by omega), List.getElem?_eq_none (by omega)])
    rw [e] at q
    tm_at "go"
    exact q
theorem do_whole {o : Option Nat} (q : Q (.bl o.isSome) L) : ∃ L2, Ent L L2 ∧ P_law_whole K A [oV o] L2 Q Ea := ⟨L, Ent.refl _, _, rfl, o, rfl, q⟩
theorem do_wholeN {n : Nat} (q : Q (.bl true) L) : ∃ L2, Ent L L2 ∧ P_law_whole K A [nV n] L2 Q Ea := ⟨L, Ent.refl _, _, rfl, some n, rfl, q⟩
theorem do_numbers {a b : Addr} {xs ys : List (Option Nat)} (ha : Has L a (.lst (xs.map oV))) (hb : SqA K L b (ys.map oV)) (hz : ys.length ≤ 100000) (q : Q (.bl (decide (xs = ys))) L) : ∃ L2, Ent L L2 ∧ P_law_numbers K A [.ref a, .ref b] L2 Q Ea :=
  ⟨L, Ent.refl _, _, _, rfl, a, b, xs, ys, rfl, rfl, ha, hb, hz, q⟩
theorem do_numbersT {a b : Addr} {xs : List (Option Nat)} (ha : Has L a (.lst (xs.map oV))) (hb : SqA K L b (xs.map oV)) (hz : xs.length ≤ 100000) (q : Q (.bl true) L) : ∃ L2, Ent L L2 ∧ P_law_numbers K A [.ref a, .ref b] L2 Q Ea :=
  do_numbers ha hb hz (by rw [decide_eq_true rfl]; exact q)
theorem do_numbersN {a b : Addr} {xs : List Nat} (ha : Has L a (.lst (xs.map nV))) (hb : SqA K L b (xs.map nV)) (hz : xs.length ≤ 100000) (q : Q (.bl true) L) : ∃ L2, Ent L L2 ∧ P_law_numbers K A [.ref a, .ref b] L2 Q Ea :=
  do_numbersT (xs := xs.map some) (by rw [map_oV_some]; exact ha) (by rw [map_oV_some]; exact hb) (by rw [List.length_map]; exact hz) q
end
/-! Deeds written: numbers by figures, texts of deeds. -/
open TL
abbrev nS (n : Nat) : Str := Str.ofString (toString ((n : Nat) : Int))
theorem tl_nS (n : Nat) : tl (nS n) = numL n := tl_num n
def FG : Str := "0123456789"
theorem figs_at : ∀ d : Nat, d < 10 → atI ("0123456789" : Str).cps.toList (d : Int) = some (48 + d) := fun d hd => by
  have e : ∀ d : Fin 10, atI ("0123456789" : Str).cps.toList ((d.val : Nat) : Int) = some (48 + d.val) := by decide +kernel
  exact e ⟨d, hd⟩
theorem figs_mem (c : Nat) : c ∈ ("0123456789" : Str).cps.toList ↔ 48 ≤ c ∧ c ≤ 57 := by
  have e : ("0123456789" : Str).cps.toList = [48, 49, 50, 51, 52, 53, 54, 55, 56, 57] := by decide +kernel
  rw [e]
  simp only [List.mem_cons, List.not_mem_nil, or_false]
  omega
theorem ten60 : (10 : Int) ^ ((60 : Int)).toNat = ((10 ^ 60 : Nat) : Int) := by decide +kernel
theorem nS_len {n : Nat} (h : n < 10 ^ 60) : (nS n).length ≤ 60 := by
  rw [len_tl, tl_nS]
  exact numL_len (by decide) h
/-- a text that writes a number -/
structure IsNum (z : Str) : Prop where
  d : NumText.AllDigits (tl z)
  n : tl z ≠ []
  l : (tl z).length ≤ 60
  f : ¬ ((tl z)[0]? = some 48 ∧ 1 < (tl z).length)
theorem numL_head : ∀ {n : Nat}, 10 ≤ n → (numL n)[0]? ≠ some 48 := fun {n} h => by
  induction n using Nat.strongRecOn with
  | _ n ih =>
    rw [numL_step h]
    by_cases c : 10 ≤ n / 10
    · have hne := numL_ne (n / 10)
      have := ih (n / 10) (by omega) c
      rw [List.getElem?_append_left (by cases e : numL (n / 10) with
        | nil => exact absurd e hne
        | cons a b => simp)]
      exact this
    · rw [numL_lt (by omega)]
      show some (48 + n / 10) ≠ some 48
      intro z
      have := Option.some.inj z
      omega
theorem isNum_nS {n : Nat} (h : n < 10 ^ 60) : IsNum (nS n) := by
  refine ⟨by rw [tl_nS]; exact numL_digits n, by rw [tl_nS]; exact numL_ne n, by rw [← len_tl]; exact nS_len h, ?_⟩
  rw [tl_nS]
  rintro ⟨h1, h2⟩
  by_cases c : 10 ≤ n
  · exact numL_head c h1
  · rw [numL_lt (by omega)] at h2
    simp at h2
def valS (z : Str) : Nat := NumText.digitsVal (tl z)
theorem valS_nS (n : Nat) : valS (nS n) = n := by unfold valS; rw [tl_nS]; exact numL_val n
def dText (w : Str) (ns : List Nat) : Str := Txt.join " " (w :: ns.map nS)
theorem joinL_snoc {S : List Nat} : ∀ {ps : List (List Nat)} {p : List Nat}, ps ≠ [] → joinL S (ps ++ [p]) = joinL S ps ++ (S ++ p)
  | [], _, h => absurd rfl h
  | [a], p, _ => rfl
  | a :: b :: r, p, _ => by
    show a ++ (S ++ joinL S ((b :: r) ++ [p])) = (a ++ (S ++ joinL S (b :: r))) ++ (S ++ p)
    rw [joinL_snoc (ps := b :: r) (by simp)]
    simp only [List.append_assoc]
theorem dText_snoc (w : Str) (ns : List Nat) (n : Nat) : dText w (ns ++ [n]) = dText w ns ++ (" " : Str) ++ nS n := by
  refine ext_tl ?_
  unfold dText
  rw [join_eq, join_eq, tl_append, tl_append, tl_join, tl_join, List.map_append]
  show joinL (tl " ") (((w :: ns.map nS) ++ [nS n]).map tl) = _
  rw [List.map_append, List.map_singleton, joinL_snoc (by simp), List.append_assoc]
theorem dText_nil (w : Str) : dText w [] = w := by
  refine ext_tl ?_
  unfold dText
  rw [join_eq, tl_join]
  rfl
theorem len_app (x y : Str) : (x ++ y).length = x.length + y.length := by rw [len_tl, tl_append, List.length_append, ← len_tl, ← len_tl]
theorem dText_len (w : Str) : ∀ (k : Nat) {ns : List Nat}, ns.length = k → (∀ n ∈ ns, n < 10 ^ 60) → (dText w ns).length ≤ w.length + 61 * ns.length
  | 0, ns, e, _ => by
    rw [List.eq_nil_of_length_eq_zero e, dText_nil]; exact Nat.le_refl _
  | k + 1, ns, e, h => by
    obtain ⟨ns, n, rfl⟩ : ∃ ms n, ns = ms ++ [n] := by
      rcases List.eq_nil_or_concat ns with rfl | ⟨ms, n, rfl⟩
      · cases e
      · exact ⟨ms, n, by first | rfl | rw [List.concat_eq_append]⟩
    have ih := dText_len w k (ns := ns) (by rw [List.length_append] at e; simpa using e)
    rw [dText_snoc, len_app, len_app, List.length_append]
    have h1 := ih fun x hx => h x (List.mem_append_left _ hx)
    have h2 := nS_len (h n (List.mem_append_right _ List.mem_cons_self))
    have h3 : (" " : Str).length = 1 := by decide +kernel
    have h4 : [n].length = 1 := rfl
    omega
theorem dText_split {w : Str} {ns : List Nat} (hw : 32 ∉ tl w) : Txt.split (dText w ns) " " = w :: ns.map nS := by
  refine split_join (s := 32) (S := []) (by decide +kernel) (by decide +kernel) (by simp) fun p hp => ?_
  rcases List.mem_cons.mp hp with h | h
  · rw [h]; exact hw
  · obtain ⟨n, _, rfl⟩ := List.mem_map.mp h
    rw [tl_nS]
    exact numL_free (.inl (by decide))
def P_law_figures (K : PySem.W.Frag) (_ : Ex) : Pm := pm1 fun x L Q _ => ∃ n : Nat, x = nV n ∧ n < 10 ^ 60 ∧ Q (.str (nS n)) L
def N_law_figures : List Str := ["_law_number", "_law_found"]
def t_law_figures (K : PySem.W.Frag) (A : Ex) (E : XK) : TS :=
    (tSeq (tAsg (tOp rIxS (tC (.str "0123456789")) (tOp rModI (tVar 0) (tC (.int 10)))) (gName 1))
    (tSeq (tWhile (tTest (tOp rGtI (tVar 0) (tC (.int 9))))
      (tSeq (tAsg (tOp rDivI (tVar 0) (tC (.int 10))) (gName 0))
    (tAsg (tOp rAddStr (tOp rIxS (tC (.str "0123456789")) (tOp rModI (tVar 0) (tC (.int 10)))) (tVar 1)) (gName 1))))
    (tRet (tVar 1))))
def P_number_of (K : PySem.W.Frag) (A : Ex) : Pm := pm1 fun x L Q E => ∃ z : Str, x = .str z ∧ z.length ≤ 100000 ∧ (IsNum z → Q (nV (valS z)) L) ∧ (¬ IsNum z → E (.ref A.NoDeed) L)
def N_number_of : List Str := ["figures", "sign"]
def t_number_of (K : PySem.W.Frag) (A : Ex) (E : XK) : TS :=
    (tSeq (tFor (iStr (tVar 0)) (gName 1)
      (tIfS (tTest (tOp rNotInSg (tVar 1) (tC (.str "0123456789")))) (tRaiseC A.NoDeed E) tNext))
    (tSeq (tIfS (tOr (tTest (tOp rEq (tVar 0) (tC (.str "")))) (tOr (tTest (tOp rGtI (tCB rLenS (tCons (tVar 0) tNil)) (tC (.int 60)))) (tAnd (tTest (tOp rEq (tOp rIxS (tVar 0) (tC (.int 0))) (tC (.str "0")))) (tTest (tOp rGtI (tCB rLenS (tCons (tVar 0) tNil)) (tC (.int 1))))))) (tRaiseC A.NoDeed E) tNext)
    (tRet (tCB rIntS (tCons (tVar 0) tNil)))))
def P_told (K : PySem.W.Frag) (_ : Ex) : Pm := pm1 fun x L Q _ => ∃ (t : Addr) (w : Str) (ns : List Nat), x = .ref t ∧ TqA K L t (.str w :: ns.map nV) ∧ (∀ n ∈ ns, n < 10 ^ 60) ∧ ns.length ≤ 3 ∧ 1 ≤ ns.length ∧ w.length ≤ 100 ∧ Q (.str (dText w ns)) L
def N_told : List Str := ["deed", "number"]
def t_told (K : PySem.W.Frag) (A : Ex) (E : XK) : TS :=
    (tRet (tM1 (rJoin K) (tC (.str " ")) (tOp rCat (tLst (tCons (tOp (rIxT K) (tVar 0) (tC (.int 0))) tNil)) (tLc (iTup K (tSl (rSlT K) (tVar 0) (tPart (tC (.int 1))) tNoPart)) (gName 1) tYes (tCB rStrI (tCons (tVar 1) tNil)) [1]))))
section
variable {K : PySem.W.Frag} {A : Ex} {E : XK} {vs : List V} {L : AL} {Q : V → AL → Prop} {Ea : Value → AL → Prop}
theorem p_law_figures (he : ELe Ea E) (h : P_law_figures K A vs L Q Ea) : SS (t_law_figures K A E) { nx := fun _ L => Q .non L, rt := Q } (start N_law_figures vs) L := by
  obtain ⟨_, rfl, n, rfl, hn, q⟩ := h
  unfold t_law_figures
  have hlen := numL_len (by decide) hn
  tm_at "gn"
  rw [show (n : Int) % 10 = ((n % 10 : Nat) : Int) by omega]
  refine r_ixS (by decide +kernel) (figs_at (n % 10) (by omega)) ?_
  refine s_seq ?_
  refine s_while (fun k σ L' => ∃ (m : Nat) (z : Str), k = m ∧ m < 10 ^ 60 ∧ numL n = (if 10 ≤ m then numL (m / 10) else []) ++ tl z ∧ σ = [some (nV m), some (.str z)] ∧ L' = L) ⟨n, n, ⟨#[48 + n % 10]⟩, rfl, hn, ?_, rfl, rfl⟩ ?_
  · show numL n = _ ++ [48 + n % 10]
    by_cases c : 10 ≤ n
    · rw [if_pos c]; exact numL_step c
    · rw [if_neg c, numL_lt (by omega), Nat.mod_eq_of_lt (by omega)]; rfl
  · rintro k σ L' ⟨m, z, rfl, hm, hz, rfl, rfl⟩
    have hzl : z.length ≤ 60 := by
      rw [len_tl]
      have := congrArg List.length hz
      rw [List.length_append] at this
      omega
    tm_at "go"
    refine ex_c (fun c => ?_) fun c => ?_
    · have c' : 10 ≤ k := by omega
      rw [if_pos c'] at hz
      tm_at "go"
      rw [show (k : Int) / 10 = ((k / 10 : Nat) : Int) by omega]
      tm_at "go"
      rw [show ((k / 10 : Nat) : Int) % 10 = ((k / 10 % 10 : Nat) : Int) by omega]
      refine r_ixS (by decide +kernel) (figs_at (k / 10 % 10) (by omega)) ?_
      tm_at "go"
      refine r_addS (small6 (by show 1 + z.length ≤ 200000; omega)) ?_
      refine ⟨k / 10, by omega, k / 10, _, rfl, by omega, ?_, rfl, rfl⟩
      rw [tl_append, hz]
      show numL (k / 10) ++ tl z = _ ++ ([48 + k / 10 % 10] ++ tl z)
      rw [← List.append_assoc]
      congr 1
      by_cases c2 : 10 ≤ k / 10
      · rw [if_pos c2]; exact numL_step c2
      · rw [if_neg c2, numL_lt (by omega), Nat.mod_eq_of_lt (by omega)]; rfl
    · rw [if_neg (by omega), List.nil_append] at hz
      have e : z = nS n := ext_tl (by rw [tl_nS]; exact hz.symm)
      subst e
      tm_at "go"
      exact q
theorem p_number_of (he : ELe Ea E) (h : P_number_of K A vs L Q Ea) : SS (t_number_of K A E) { nx := fun _ L => Q .non L, rt := Q } (start N_number_of vs) L := by
  obtain ⟨_, rfl, z, rfl, hz, q1, q2⟩ := h
  unfold t_number_of
  have hzs : z.length ≤ sizeLine := small6 (by omega)
  refine s_seq ?_
  refine s_forS ?_
  tm_at "go"
  refine ⟨z, rfl, fun i σ L' => (∃ v1, σ = [some (.str z), v1]) ∧ L' = L ∧ ∀ c ∈ (tl z).take i, 48 ≤ c ∧ c ≤ 57, ⟨⟨_, rfl⟩, rfl, fun c hc => by cases hc⟩, ?_, ?_⟩
  · rintro i c σ L' hc ⟨⟨v1, rfl⟩, rfl, hd⟩
    have hc2 : (tl z)[i]? = some c := by rw [Array.getElem?_toList]; exact hc
    refine s_if (t_test ?_)
    tm_at "go"
    refine r_notInSg ?_
    refine ex_n (fun c1 => ?_) fun c1 => s_next ⟨⟨_, rfl⟩, rfl, fun d hd2 => ?_⟩
    · refine s_raiseT he (Ent.refl _) (q2 fun w => c1 ?_)
      exact (figs_mem c).mpr (w.d c (List.mem_of_getElem? hc2))
    · rw [take_snoc hc2] at hd2
      rcases List.mem_append.mp hd2 with h | h
      · exact hd d h
      · rw [List.mem_singleton.mp h]; exact (figs_mem c).mp c1
  · rintro σ L' ⟨⟨v1, rfl⟩, rfl, hd⟩
    have hd' : NumText.AllDigits (tl z) := fun c hc => hd c (by rw [show z.cps.size = (tl z).length by simp [tl], List.take_length]; exact hc)
    refine s_seq ?_
    refine s_if (t_or (t_test ?_))
    tm_at "go"
    refine ex_c (fun c => both_t ?_) fun c => ?_
    · refine s_raiseT he (Ent.refl _) (q2 fun w => w.n ?_)
      rw [V.str.inj c]
      decide +kernel
    · have hne : tl z ≠ [] := fun e => c (by rw [ext_tl (x := z) (y := "") (by rw [e]; decide +kernel)])
      refine t_or (t_test ?_)
      tm_at "go"
      refine c_lenS hzs ?_
      tm_at "go"
      refine ex_c (fun c2 => both_t ?_) fun c2 => ?_
      · refine s_raiseT he (Ent.refl _) (q2 fun w => ?_)
        have := w.l
        rw [← len_tl] at this
        omega
      · have h60 : (tl z).length ≤ 60 := by rw [← len_tl]; omega
        obtain ⟨a, ha⟩ : ∃ a, (tl z)[0]? = some a := by
          cases e : tl z with
          | nil => exact absurd e hne
          | cons a r => exact ⟨a, rfl⟩
        refine t_and (t_test ?_)
        tm_at "go"
        refine r_ixS (i := 0) hzs (atI_nat (j := 0) ha) ?_
        tm_at "go"
        have fin : ¬ ((tl z)[0]? = some 48 ∧ 1 < (tl z).length) → SS (tRet (tCB rIntS (tCons (tVar 0) tNil))) { nx := fun _ L => Q .non L, rt := Q } [some (.str z), v1] L' := fun hf => by
          tm_at "go"
          exact c_intS (intText_digits hd' hne (by rw [len_tl]; omega)) (by rw [len_tl]; omega) (q1 ⟨hd', hne, h60, hf⟩)
        refine ex_c (fun c3 => ?_) fun c3 => ?_
        · refine t_test ?_
          tm_at "go"
          refine c_lenS hzs ?_
          tm_at "go"
          have h48 : a = 48 := by
            have e := V.str.inj c3
            have e2 := congrArg tl e
            have e3 : tl (⟨#[a]⟩ : Str) = [a] := rfl
            have e4 : tl ("0" : Str) = [48] := by decide +kernel
            rw [e3, e4] at e2
            exact (List.cons.inj e2).1
          refine ex_c (fun c4 => ?_) fun c4 => s_next (fin fun w => ?_)
          · exact s_raiseT he (Ent.refl _) (q2 fun w => w.f ⟨by rw [ha, h48], by rw [← len_tl]; omega⟩)
          · have := w.2
            rw [← len_tl] at this
            omega
        · refine both_f (s_next (fin fun w => c3 ?_))
          rw [ha] at w
          rw [Option.some.inj w.1]
          decide +kernel
theorem p_told (he : ELe Ea E) (h : P_told K A vs L Q Ea) : SS (t_told K A E) { nx := fun _ L => Q .non L, rt := Q } (start N_told vs) L := by
  obtain ⟨_, rfl, t, w, ns, rfl, ht, hns, hl3, hl1, hw, q⟩ := h
  unfold t_told
  refine s_postR ?_
  refine e_m1 (e_c ⟨⟨_, rfl⟩, ?_⟩)
  refine e_op ?_
  tm_at "go"
  refine r_ixT ht (atI_nat (j := 0) rfl) ?_
  tm_at "go"
  refine ⟨by show 1 ≤ sizeLine; decide, fun d => ?_⟩
  refine e_lcT ?_
  tm_at "go"
  have hll : (V.str w :: ns.map nV).length = ns.length + 1 := by rw [List.length_cons, List.length_map]
  refine ⟨1, rfl, o_none ?_⟩
  refine r_slT (tq_tl ht) (fun z => ?_) fun c => ?_
  · have z1 := z.1
    rw [show (1 : Int) = ((1 : Nat) : Int) from rfl, HT.sIx_nat, hll] at z1
    omega
  have ecut : cutV (V.str w :: ns.map nV) (some 1) none = ns.map nV := cut_from (k := 1)
  rw [ecut]
  refine ⟨c, ns.map nV, rfl, Has.tq has_hd, fun _ => rfl, fun i acc L' => acc = (ns.take i).map (fun n => V.str (nS n)) ∧ L' = pt c (.tup (ns.map nV)) :: pt d (.lst [.str w]) :: L, ⟨rfl, rfl⟩, ?_, ?_, ?_⟩
  · rintro i acc L' hi ⟨rfl, rfl⟩
    exact Has.tq has_hd
  · rintro i x acc L' D hx ⟨rfl, rfl⟩
    obtain ⟨n, hn, rfl⟩ := map_get hx
    have hnl := hns n (List.mem_of_getElem? hn)
    refine t_yes ⟨fun _ => ?_, (fun z => nomatch z)⟩
    tm_at "go"
    refine c_strI ?_ ⟨_, Ent.refl _, small5 (by rw [List.length_map, List.length_take]; omega), ?_, rfl⟩
    · show n.log2 < 1920
      by_cases h0 : n = 0
      · subst h0; decide
      · rw [Nat.log2_lt h0]
        exact Nat.lt_trans hnl (by decide +kernel)
    · rw [take_snoc hn, List.map_append]; rfl
  · rintro acc L' D ⟨rfl, rfl⟩
    rw [List.length_map, List.take_length]
    have hml : ((ns.map fun n => V.str (nS n)) : List V).length = ns.length := List.length_map _
    refine r_cat (has_tl (has_tl has_hd)) has_hd (by rw [hml]; exact small6 (by show 1 + ns.length ≤ 200000; omega)) fun p => ?_
    have e2 : ([V.str w] ++ ns.map fun n => V.str (nS n)) = (w :: ns.map nS).map V.str := by rw [List.map_cons, List.map_map]; rfl
    rw [e2]
    refine r_join (Has.sq has_hd) ?_ ?_
    · have h1 : (" " : Str).length = 1 := by decide +kernel
      have h2 : ((w :: ns.map nS).map (·.length)).sum ≤ 100 + 60 * ns.length := by
        rw [List.map_cons, List.sum_cons, List.map_map]
        have : ∀ l : List Nat, (∀ n ∈ l, n < 10 ^ 60) → (l.map ((·.length) ∘ nS)).sum ≤ 60 * l.length := fun l => by
          induction l with
          | nil => intro _; exact Nat.le_refl _
          | cons a l ih =>
            intro h
            have h3 := ih fun x hx => h x (List.mem_cons_of_mem _ hx)
            have h4 := nS_len (h a List.mem_cons_self)
            rw [List.map_cons, List.sum_cons, List.length_cons]
            show (nS a).length + _ ≤ _
            omega
        have := this ns hns
        omega
      rw [h1, List.length_cons, List.length_map]
      omega
    · exact ⟨_, Ent.drop.trans (Ent.drop.trans (Ent.drop.trans Ent.drop)), q⟩
end
/-! Errors whose context is None; what an except suite does with lists. -/
open PySem L2 PyProof.Rows
section
open PySem.Spec HotX L2H
section
variable {prog : Program} {w : World} {A : Around} {E : Value → Shared → Prop} {s : Shared}
theorem next_list_end_hot {it l x1 : Addr} {i : Nat} {items : Array Value} {Q : Option Value → Shared → Prop} (hot : HotAt A x1 s.heap) (hne : x1 ≠ it)
    (hit : s.heap.IsListIter it l i) (hl : s.heap.IsList l items) (hx : items[i]? = none)
    (hQ : ∀ h', (∀ b o, b ≠ it → s.heap.get? b = some o → h'.get? b = some o) → Q none { s with heap := h' }) : wpAny (model prog w) A (pyNext (.ref it)) Q E s := by
  obtain ⟨o, ho, hc, hd⟩ := id hit
  obtain ⟨ol, hol, _, nl, hdl⟩ := hl
  obtain ⟨hh, o1, vs1, h1, d1, c1⟩ := hot
  unfold pyNext
  refine wpAny_bind (wpAny_attempt (wpAny_callSpecial?_slot (name := Str.ofString "__next__") hit.typeIs slot_listiter_next
    (wpAny_call_entry slot_listiter_next hit.typeIs entry_listiter_next ?_ (args_listiter_next _))))
  show wpAny _ _ (field (.ref it) 0 >>= _) _ _ s
  refine wpAny_bind (wpAny_field ho hd (x := .ref l) rfl ?_)
  show wpAny _ _ (if (Value.ref l == Value.none) = true then _ else _) _ _ s
  rw [if_neg (show ¬ ((Value.ref l == Value.none) = true) from Bool.false_ne_true)]
  show wpAny _ _ (field (.ref it) 1 >>= _) _ _ s
  refine wpAny_bind (wpAny_field ho hd (x := .int i 0) rfl ?_)
  show wpAny _ _ (seqItems? (.ref l) >>= _) _ _ s
  refine wpAny_bind (wpAny_seqItems hol hdl ?_)
  simp only [Int.toNat_natCast, hx]
  refine wpAny_bind (wpAny_rule (wpAny_bind (wpAny_setField ho hd (by simp) ?_)))
  show wpAny _ _ (newExc (.type "StopIteration") [] >>= _) _ _ _
  refine wpAny_bind ?_
  simp only [newExc, newTuple]
  refine wpAny_bind (wpAny_newObj_type ?_ (by size_fits))
  refine wpAny_bind (m := firstArgMember _ _) (wpAny_of_eq (a := Value.none) (by first | rfl | (simp only [firstArgMember]; rfl)) ?_)
  refine wpAny_newObj_type ?_ (by size_fits)
  have h1' := (Heap.get?_update_other s.heap (Obj.mapFields (·.setIfInBounds 0 Value.none)) (Ne.symm hne)).trans h1
  refine raiseNew_hot ⟨hh, o1, vs1, Heap.get?_push_of_some _ (Heap.get?_push_of_some _ h1'), d1, c1⟩ (Nat.ne_of_lt (Heap.lt_size (Heap.get?_push_of_some _ h1'))) (Heap.get?_push_size _ rfl) rfl (by first | (simp; done) | (simp; omega) | (simp only [Array.size_append]; simp; omega)) ?_
  refine wpAny_bind (wpAny_isInstance (T := "StopIteration") (b := true) ⟨_, Heap.get?_update_self _ (Heap.get?_push_size _ rfl) rfl, rfl⟩ isSubtype_stop ?_)
  refine wpAny_pure (hQ _ fun b o hb e => ?_)
  have e' := (Heap.get?_update_other s.heap (Obj.mapFields (·.setIfInBounds 0 Value.none)) (Ne.symm hb)).trans e
  rw [Heap.get?_update_other _ _ (Nat.ne_of_gt (Heap.lt_size (Heap.get?_push_of_some _ e')))]
  exact Heap.get?_push_of_some _ (Heap.get?_push_of_some _ e')
theorem walks_list_hot (I ax x1 : Addr) (hh : A.handled = some (.ref x1)) (hne : ax ≠ I) (hx : x1 ≠ I) (items : Array Value) :
    Walks prog w A I [I, ax, x1] [I] items.size (fun i v => items[i]? = some v)
      (fun i h => h.IsListIter I ax i ∧ h.IsList ax items ∧ ∃ (o : Obj) (vs : Array Value), h.get? x1 = some o ∧ o.data = .fields vs ∧ vs[2]? = some .none) where
  sub := fun b hb => by simp at hb; simp [hb]
  frame := fun _ _ _ st hk => ⟨st.1.at fun o e => hk I (by simp) o e, st.2.1.at fun o e => hk ax (by simp) o e, by
    obtain ⟨o, vs, e, d⟩ := st.2.2
    exact ⟨o, vs, hk x1 (by simp) o e, d⟩⟩
  item := fun i s Q E hi st hQ => by
    refine wpAny_pyNext_list_item st.1 st.2.1 (x := items[i]) (by simp [hi]) fun h' hit' hs' => ?_
    refine hQ _ h' s.toks (by simp [hi]) ⟨hit', st.2.1.extBut hs'.extBut hne, ?_⟩ fun b o hb e => hs'.extBut b o (fun h => hb (by simp [h])) e
    obtain ⟨o, vs, e, d⟩ := st.2.2
    exact ⟨o, vs, hs'.extBut x1 o hx e, d⟩
  done := fun s Q E st hQ => next_list_end_hot ⟨hh, st.2.2⟩ hx st.1 st.2.1 (by simp) fun h' he' => hQ h' s.toks fun b o hb e => he' b o (fun h => hb (by simp [h])) e
  self := fun _ _ _ _ st hQ => wpAny_pyIter_listiter st.1 hQ
end
/-- any(bools) where an exception is handled -/
theorem cr_anyH {X : Cx} (hc : HotC X) : CallR X (.builtin "any") (rAny X.K) := by
  intro pins s σ H vs us Q I r h
  obtain ⟨a, bs, rfl, hs, q⟩ := h
  obtain ⟨its, rv, hl, _⟩ := I.list hs
  rw [Vals.ref1 r]
  have hb := rv.bls
  obtain ⟨x1, hh, o1, vs1, h1, d1, c1⟩ := hc.at I
  refine call_any_walk (iter_any hl.isList fun s₂ e2 st hne => ?_)
  subst e2
  have hx : x1 ≠ s.heap.objs.size := Nat.ne_of_lt (Heap.lt_size h1)
  refine ⟨_, _, _, _, _, _, _, rfl, walks_list_hot (A := X.A.in1) _ a x1 hh hne hx its.toArray, ⟨st.1, st.2, o1, vs1, Heap.get?_push_of_some _ h1, d1, c1⟩, truth_bools hb, fun h' tk hk => ?_⟩
  refine ⟨.bl _, H, I.kept fun b o eo => hk b o (fun hmem => ?_) (Heap.get?_push_of_some _ eo), ?_, q⟩
  · rcases List.mem_cons.mp hmem with e1 | hmem
    · exact absurd (e1 ▸ Heap.lt_size eo) (Nat.lt_irrefl _)
    · cases hmem
  · show Value.bool _ = Value.bool _
    rw [← L2.any_range, hb, List.size_toArray, List.length_map]
/-! ### the context of such errors -/
theorem passN {X : Cx} : Passes (L2N.CX X.prog X.w) X E0 := fun _ _ _ _ _ _ _ h => by
  obtain ⟨_, _, _, _, _, _, _, _, _, _, _, _, z⟩ := h
  exact z.elim
theorem takesN0 {X : Cx} : L2N.Takes X (fun _ _ _ _ => False) := fun _ _ x => by
  obtain ⟨_, _, _, _, _, _, _, _, _, _, _, _, _, _, _, _, z⟩ := x
  exact z.elim
/-- it is one of the others, too -/
theorem traced_imp {h B : Heap} {a : Addr} {Z Z' : Obj → Prop} {fl : Value} (z : ∀ o, Z o → Z' o) (x : HandSPX.TracedZ h B a Z fl) : HandSPX.TracedZ h B a Z' fl := by
  obtain ⟨oe, vs, T, oT, ts, he, hz, r⟩ := x
  exact ⟨oe, vs, T, oT, ts, he, z _ hz, r⟩
theorem sky_zc {B : Heap} {st : List Env} {a L : Addr} {h : Heap} {cls : Value} {d : Option Addr} (x : Sky B st a (L2N.Zn cls d) L h) : Sky B st a (Zc cls d) L h := by
  rcases x with ⟨h1, h2, h3, oe, vs, he, hz, r⟩ | x | x
  · exact .inl ⟨h1, h2, h3, oe, vs, he, hz.zc, r⟩
  · exact .inr (.inl ⟨x.1, x.2.1, x.2.2.1, traced_imp (fun o z => z.zc) x.2.2.2⟩)
  · exact .inr (.inr ⟨x.1, x.2.1, x.2.2.1, traced_imp (fun o z => z.zc) x.2.2.2⟩)
theorem xe_zc {X : Cx} {W : WX} {u : Value} {s' : Shared} (x : L2N.XE X W u s') : L2.XE X W u s' := by
  obtain ⟨a, B, sI, pins, σ, H, cls, d, e, I, nb, up, sky, na, os, ag, w⟩ := x
  exact ⟨a, B, sI, pins, σ, H, cls, d, e, I, nb, up, sky_zc sky, na, os, ag, w⟩
/-- a callee's error, where any is taken -/
theorem passAtN {X : Cx} {W : WX} (tk : L2.Takes X W) (σ : L2.St) : PassesAt (L2N.CX X.prog X.w) X σ (WE W σ) := fun _ _ _ e s' I c => tk e s' (xe_zc (L2N.XE.of_call I (fun _ _ _ h => h) c))
section
variable {P : Program} {w : World} {K : PySem.W.Frag} {mg : Str → Option Value} {base : Heap}
/-- a def that may raise -/
theorem funN {x qual : Str} {st : Stmt} {f : Addr} {fd : FuncData} {N ps : List Str} {k : Nat} {sp : Sp} (F : Fun K x qual st f fd) (S : FnScope N ps (defScope st)) (len : ∀ vs H Q E, sp vs H Q E → vs.length = ps.length)
    (hbody : ∀ (cdv : Value) (A : Around) (outer : List Env) (s : Shared) (H : Hp) (vs : List V) (Q : VK) (E : XK), Room k (A.deeper (envOfC qual (defScope st) s.heap.objs.size f cdv)) → sp vs H Q E →
      ∃ t, PSs (cxOf (L2N.CX P w) P w K mg base N qual (defScope st) f cdv A outer s H E) (defBody st) t ∧ t { nx := fun _ H' => Q .non H', rt := Q } (start N vs) H) : FnOk P w K mg base (L2N.CX P w) (k + 1) f fd ps sp := by
  obtain ⟨oc, od, kV, doc, pm, an, cdv, ct, osl, rfl, lk, hcd⟩ := F.ex
  exact fn_of lk hcd S len fun A outer s H vs Q E hr hsp => hbody cdv A outer s H vs Q E hr hsp
end
/-! ### try: .. except C as e: suite -/
/-- the suite's reading, by the class of the error: one of Ds -/
def sAs (Ds : List Addr) (ts : Addr → Addr → TS) : Addr → Value → Option Addr → TS := fun a cls d => fun D σ H => ∃ C ∈ Ds, cls = .ref C ∧ d = none ∧ ts C a D σ H
def tTryA (K : PySem.W.Frag) (c : Value) (i : Nat) (Ds : List Addr) (ts : Addr → Addr → TS) (tb : WX → TS) : TS := fun D σ H => tb (wAs K c i (sAs Ds ts) (fun _ _ _ _ => False) D) D σ H
theorem pss_as {X : Cx} {body : List Stmt} {Ds : List Addr} {ts : Addr → Addr → TS} {a : Addr} {cls : Value} {d : Option Addr} (h : ∀ C ∈ Ds, cls = .ref C → d = none → PSs X body (ts C a)) : PSs X body (sAs Ds ts a cls d) :=
  ⟨fun pins s σ H D I ⟨C, m, e1, e2, q⟩ => (h C m e1 e2).run pins s σ H D I q⟩
theorem hot_of {X : Cx} {a : Addr} {oe : Obj} {pn : List (Addr × Obj)} {cls : Value} {d : Option Addr} (z : L2N.Zn cls d oe) (f : ∃ vs, oe.data = .fields vs) : HotC (X.suite a ((a, oe) :: pn)) := by
  obtain ⟨vs, e⟩ := f
  exact ⟨(a, oe), ⟨rfl, vs, e, z.2.2 vs e⟩, List.mem_cons_self⟩
/-- the name e holds the error -/
def eSet (D : EA) (i : Nat) : EA := { nx := fun σ L => D.nx (σ.set i none) L, rt := D.rt, bk := fun σ L => D.bk (σ.set i none) L, ct := fun σ L => D.ct (σ.set i none) L }
def wB (K : PySem.W.Frag) (c : Value) (i : Nat) (Ds : List Addr) (ts : Addr → Addr → TS) (D : EA) : WA := fun cls σ L => PySem.W.exmOne K cls c = some true ∧ ∃ C ∈ Ds, cls = .ref C ∧ ∀ a, SS (ts C a) (eSet D i) (σ.set i (some (.ref a))) L
theorem s_tryA {K : PySem.W.Frag} {σ : L2.St} {L : AL} {D : EA} {c : Value} {i : Nat} {Ds : List Addr} {ts : Addr → Addr → TS} {tb : WX → TS} (h : ∀ W, WLe (wB K c i Ds ts D) W → SS (tb W) D σ L) : SS (tTryA K c i Ds ts tb) D σ L := fun H s E le =>
  h (wAs K c i (sAs Ds ts) (fun _ _ _ _ => False) E) (fun cls σ L H s ⟨w, C, m, e, q⟩ => ⟨true, w, fun _ a _ => ⟨C, m, e, rfl, q a H s _ ⟨fun σ' L' H' s' q' => le.nx _ _ _ s' q', fun v L' H' s' q' => le.rt _ _ _ s' q', fun σ' L' H' s' q' => le.bk _ _ _ s' q', fun σ' L' H' s' q' => le.ct _ _ _ s' q'⟩⟩, fun z => nomatch z⟩) H s E le
section
variable {K : PySem.W.Frag} {L : AL} {Q : V → AL → Prop}
/-- isinstance(e, C) -/
theorem c_isE {D a c : Addr} {b : Bool} (h : PySem.W.kitOne K (.ref D) (.ref c) = some b) (q : Q (.bl b) L) : RE (rIsE K D a [.ref a, .ref c]) L Q := fun H s Qh k => ⟨.ref c, .ref c, b, rfl, fun _ r => r, h, k _ _ _ s q⟩
theorem c_isEV {D a : Addr} {n : String} {b : Bool} (h : PySem.W.kitOne K (.ref D) (.type n) = some b) (q : Q (.bl b) L) : RE (rIsE K D a [.ref a, .ty n]) L Q := fun H s Qh k => ⟨.ty n, .type n, b, rfl, fun _ r => r, h, k _ _ _ s q⟩
theorem c_any {p : Addr} {bs : List Bool} (h : SqA K L p (bs.map V.bl)) (q : Q (.bl (bs.any id)) L) : RE (rAny K [.ref p]) L Q := fun H s Qh k => ⟨p, bs, rfl, h H s, k _ _ _ s q⟩
end
theorem kit_self {K : PySem.W.Frag} {t : Value} : PySem.W.kitOne K t t = some true := by
  unfold PySem.W.kitOne
  rw [if_pos (by simp)]
theorem kit_own {K : PySem.W.Frag} {R C : Addr} {b : Bool} (ne : (R == C) = false) (h2 : PySem.W.isClsIn K C = true) (h3 : PySem.W.typeIn K (.ref C) = some (.type "type")) (h4 : PySem.W.subIn K (.ref R) (.ref C) = some b) : PySem.W.kitOne K (.ref R) (.ref C) = some b := by
  have e2 : ((PySem.W.clsIn K C).isSome && PySem.W.typeIn K (.ref C) == some (.type "type")) = true := by
    have h2' : (PySem.W.clsIn K C).isSome = true := h2
    rw [h2', h3] <;> rfl
  unfold PySem.W.kitOne
  rw [if_neg (by simpa using ne)]
  show (if ((PySem.W.clsIn K C).isSome && PySem.W.typeIn K (.ref C) == some (.type "type")) = true then PySem.W.subIn K (.ref R) (.ref C) else none) = some b
  rw [if_pos e2]
  exact h4
theorem kit_val {K : PySem.W.Frag} {R : Addr} (h4 : PySem.W.subIn K (.ref R) (.type "ValueError") = some true) : PySem.W.kitOne K (.ref R) (.type "ValueError") = some true := by
  unfold PySem.W.kitOne
  rw [if_neg (by simp)]
  show (if PySem.W.kitMeta "ValueError" = true then PySem.W.subIn K (.ref R) (.type "ValueError") else none) = some true
  rw [if_pos (by decide +kernel)]
  exact h4
end
/-! A list comprehension whose element may raise. -/
open PySem L2 PyProof.Rows
section
open PySem.Spec HandSPX
theorem noteFrame_frame {e : Value} {env env' : Env} (h : env.frame = env'.frame) : noteFrame e env = noteFrame e env' := by
  unfold noteFrame PySem.frameOf
  rw [h]
theorem ff_base {h B B2 : Heap} (hb : ∀ b, B.get? b = none → B2.get? b = none) : ∀ {l : List Env}, h.FunFrames B l → h.FunFrames B2 l
  | [], _ => trivial
  | _ :: _, ⟨hk, ⟨L', o, hf, hb', ho, hd⟩, hr⟩ => ⟨hk, ⟨L', o, hf, hb _ hb', ho, hd⟩, ff_base hb hr⟩
theorem ff_but {h h' B : Heap} {C : Addr} {m : Str → Option Value} (sb : Heap.SameBut C h h') (hn : h'.Ns C m) : ∀ {l : List Env}, h.FunFrames B l → h'.FunFrames B l
  | [], _ => trivial
  | _ :: _, ⟨hk, ⟨L', o, hf, hb, ho, hd⟩, hr⟩ => by
    refine ⟨hk, ?_, ff_but sb hn hr⟩
    by_cases q : L' = C
    · obtain ⟨o', es, ep, ho', hd', _⟩ := hn
      exact ⟨L', o', hf, hb, by rw [q]; exact ho', fun vs z => by rw [hd'] at z; cases z⟩
    · exact ⟨L', o, hf, hb, (sb.2 L' q).trans ho, hd⟩
/-- behind the block: its value, or its error -/
def compPostE (M : Model) (A : Around) (E : Value → Shared → Prop) (Q : Value → Shared → Prop) (acc : Value) (cenv : Env) (r : Result) (s' : Shared) : Prop :=
  match r with
  | .ok _ => ∃ m, s'.heap.Ns cenv.locals m ∧ ∀ h', Heap.SameBut cenv.locals s'.heap h' → Q acc { s' with heap := h' }
  | .error x => ∃ m, s'.heap.Ns cenv.locals m ∧ ∀ h' m', h'.Ns cenv.locals m' → Heap.SameBut cenv.locals s'.heap h' → wpAny M A (passOn "comprehension.variables-let-go" x cenv : Sem Value) (fun _ _ => False) E { s' with heap := h' }
theorem comp_freeE {M : Model} {A : Around} {E : Value → Shared → Prop} {s : Shared} {env : Env} {e : Expr} {scope : Scope} {pos : Pos} {newAcc first : Sem Value} {g : Comprehension} {gs : List Comprehension} {cl : List (Str × Addr)} {Q : Value → Shared → Prop}
    (hcl : clausesOf e = g :: gs) (hs : ∀ x, foldedSetIterable g.iter env x = pure x) (hclos : closureFor scope env = pure cl)
    (hkind : scope.kind = .function) (hnames : ∀ x ∈ scope.names, x.2 = .local → scope.names.lookup x.1 = some .local)
    (h : wpAny M A first (fun x s₁ => wpAny M A (pyIter x) (fun it s₂ => wpAny M A newAcc (fun acc s₃ =>
      wpAny M A (newFunctionEnv scope env.globals cl [] env.qual none .none (some env)) (fun cenv s₄ =>
        codeAny M A (.compStart e 0 it acc { cenv with scope := relabel scope env }) (compPostE M A E Q acc { cenv with scope := relabel scope env }) s₄) E s₃) E s₂) E s₁) E s) :
    wpAny M A (comprehension e scope env pos newAcc false first none) Q E s := by
  unfold comprehension
  rw [hclos, hcl]
  refine wpAny_bind (wpAny_mono h (fun x s₁ h₁ => wpAny_bind (wpAny_standAt (wpAny_bind (wpAny_of_eq (hs x) (wpAny_bind (wpAny_holding (wpAny_mono h₁ (fun it s₂ h₂ =>
    wpAny_standIf (wpAny_bind (wpAny_mono h₂ (fun acc s₃ h₃ => wpAny_bind (wpAny_pure (wpAny_bind (wpAny_mono h₃ (fun cenv s₄ h₄ => ?_) fun _ _ h' => h')))) fun _ _ h' => h')))
      fun _ _ h' => h'))))))) fun _ _ h' => h')
  dsimp only
  have hv : ∀ x ∈ (scope.names.filter fun x => (x.2 == .local || x.2 == .cell) && x.1 != (".0" : Str)).reverse, x.2 = .local →
      Env.kindOf { cenv with scope := relabel scope env } x.1 = some .local := fun x hx hl => lookup_relabel_local (hnames x (List.mem_filter.mp (List.mem_reverse.mp hx)).1 hl)
  refine wpAny_holding (wpAny_bind (wpAny_attempt (wpAny_holding (wpAny_run (codeAny_mono h₄ fun r s' hr => ?_)))))
  cases r with
  | ok f =>
    obtain ⟨m, hn, hr⟩ := hr
    exact wpAny_bind (wpAny_holding (wpAny_comp_letGo (cenv := { cenv with scope := relabel scope env }) hkind _ s' m hv hn fun h' m' _ hs' => wpAny_pure (hr h' hs')))
  | error x =>
    obtain ⟨m, hn, hr⟩ := hr
    exact wpAny_bind (wpAny_holding (wpAny_comp_letGo (cenv := { cenv with scope := relabel scope env }) hkind _ s' m hv hn fun h' m' hn' hs' => wpAny_mono (hr h' m' hn' hs') (fun _ _ f => f.elim) fun _ _ y => y))
/-- an error of a call made in the block -/
def xeB (E : XK) (Y : Cx) : Value → Shared → Prop := fun u s' => L2N.XE Y (fun cls d _ H => E cls d H) u s' ∧ ∃ (a : Addr) (B : Heap), u = .ref a ∧ FlyingZ B Y.stack a (fun _ => True) s'.heap
theorem passB {Y : Cx} {E : XK} : Passes (L2N.CX Y.prog Y.w) (Y.wish (xeB E Y)) E := fun pins σ H s e s' I c => by
  refine ⟨?_, ?_⟩
  · obtain ⟨a, B, sI, pins', σ', H', cls, d, e1, I', r⟩ := L2N.XE.of_call (X := Y) (W := fun cls d _ H => E cls d H) I.unwish (fun _ _ _ h => h) c
    exact ⟨a, B, sI, pins', σ', H', cls, d, e1, I', r⟩
  · obtain ⟨a, B, H', cls, d, rfl, fl, _⟩ := c
    exact ⟨a, B, rfl, fl.1, fl.2.1, fl.2.2.1, traced_imp (fun _ _ => True.intro) fl.2.2.2⟩
section
variable {X : Cx} {pins : List (Addr × Obj)} {σ : L2.St} {H : Hp} {s s3 : Shared}
/-- an error leaves the block -/
theorem block_err {E : XK} {Q : Value → Shared → Prop} {acc : Value} {scope : Scope} {ce : Env} {fp : List Addr} {H3 : Hp} {u : Value} {s' : Shared} {A0 : Value → Shared → Prop} (hs : X.stack = X.env :: X.outer) (hf : X.env.frame = some X.env.locals) (tk : L2N.Takes X (fun cls d _ H => E cls d H))
    (I3 : Inv X pins σ H3 s3) (f3 : ∀ b ∈ fp, FpOk X pins H3 b) (hce : ce.frame = X.env.frame) (hcl : s3.heap.objs.size ≤ ce.locals) (x : xeB E (X.blk s3 H3 scope ce fp) u s') :
    wpAny (model X.prog X.w) X.A (noteFrame u ce) (fun _ s'' => compPostE (model X.prog X.w) X.A X.xe Q acc ce (.error u) s'') A0 s' := by
  obtain ⟨⟨a, B, sI, pins', σ', H', cls, d, rfl, J, nb, up, sky, na, os, ag, w⟩, a2, B2, e2, fl2⟩ := x
  obtain rfl : a = a2 := Value.ref.inj e2
  have hfr : X.A.frames = some (X.env :: X.outer) := by rw [I3.ok.frames, hs]
  have fl : FlyingZ B X.stack a (L2N.Zn cls d) s'.heap := by
    obtain ⟨_, _, _, oe, vs, T, oT, ts, he, _, hd, h1, _, _, hT, hdT, h3⟩ := fl2
    rcases sky with ⟨_, _, _, oe', vs', he', _, hd', h1'⟩ | fl | ⟨_, _, _, oe', vs', T', oT', ts', he', _, hd', h1', _, _, hT', hdT', h3'⟩
    · rw [he] at he'; cases he'
      rw [hd] at hd'; cases hd'
      rw [h1] at h1'; cases h1'
    · exact fl
    · rw [he] at he'; cases he'
      rw [hd] at hd'; cases hd'
      rw [h1] at h1'; cases h1'
      rw [hT] at hT'; cases hT'
      rw [hdT] at hdT'; cases hdT'
      rw [h3] at h3'; cases h3'
  rw [hs] at fl
  rw [noteFrame_frame hce]
  refine PXN.looks_onZ L2N.Zn.steady hfr hf fl fun h1 hh up1 => ?_
  have upA : sI.heap.UpToSlots h1 := up.trans up1
  have JL : Inv (X.blk s3 H3 scope ce fp) pins' σ' H' { s' with heap := h1 } := J.landed nb hh.1 upA os ag
  obtain ⟨m, hn, _⟩ := JL.loc
  have hn : h1.Ns ce.locals m := hn
  refine ⟨m, hn, fun h' m' hn' sb => ?_⟩
  -- the block's own names' object is none of the error's
  obtain ⟨oC, esC, epC, hoC, hdC, _⟩ := id hn
  obtain ⟨g1, g2, g3, oe, vs, T, oT, ts, he, hz, hd, h1e, hnT, hTe, hT, hdT, h3⟩ := hh
  have naC : a ≠ ce.locals := fun z => by rw [z, hoC] at he; cases he; rw [hdC] at hd; cases hd
  have nTC : T ≠ ce.locals := fun z => by rw [z, hoC] at hT; cases hT; rw [hdC] at hdT; cases hdT
  have nC : H' ce.locals = none := J.free
  -- the ground without it
  have gB : ∀ b o, (PySem.W.hideAll B [ce.locals]).get? b = some o → B.get? b = some o ∧ b ≠ ce.locals := fun b o e => ⟨PySem.W.of_hideAll _ e, fun z => by rw [z, PySem.W.hideAll_none _ List.mem_cons_self] at e; cases e⟩
  have hB' : ∀ b, B.get? b = none → (PySem.W.hideAll B [ce.locals]).get? b = none := fun b e => by
    cases q : (PySem.W.hideAll B [ce.locals]).get? b with
    | none => rfl
    | some o => rw [(gB b o q).1] at e; cases e
  have st' : (PySem.W.hideAll B [ce.locals]).StaysIn h' := fun b o e => (sb.2 b (gB b o e).2).trans (g1 b o (gB b o e).1)
  have ff' : h'.FunFrames (PySem.W.hideAll B [ce.locals]) (X.env :: X.outer) := ff_base hB' (ff_but sb hn' g3)
  have tr' : TracedZ h' (PySem.W.hideAll B [ce.locals]) a (L2N.Zn cls d) (rawInt X.env.locals) := ⟨oe, vs, T, oT, ts, (sb.2 a naC).trans he, hz, hd, h1e, hB' T hnT, hTe, (sb.2 T nTC).trans hT, hdT, h3⟩
  show wpAny _ _ (passOn "comprehension.variables-let-go" (.ref a) ce) _ _ _
  unfold PySem.passOn
  refine wpAny_bind (wpAny_field ((sb.2 a naC).trans he) hd h1e ?_)
  rw [if_neg (show ¬ ((Value.ref T == Value.none) = true) from by simp)]
  have fin : wpAny (model X.prog X.w) X.A (setFlight (.ref a) ce.frame) (fun _ s4 => wpAny (model X.prog X.w) X.A (throw (.ref a) : Sem Value) (fun _ _ => False) X.xe s4) X.xe { s' with heap := h' } := by
    rw [hce, hf]
    refine setFlight_anyZ (fr := some X.env.locals) st' ff' tr' fun h2 k1 k2 k3 k4 => wpAny_throw (tk _ _ ?_)
    -- the state ahead, the block's own names' object hidden
    have gI : ∀ b o, (PySem.W.hideAll sI.heap [ce.locals]).get? b = some o → sI.heap.get? b = some o ∧ b ≠ ce.locals := fun b o e => ⟨PySem.W.of_hideAll _ e, fun z => by rw [z, PySem.W.hideAll_none _ List.mem_cons_self] at e; cases e⟩
    have kI : ∀ b o, b ≠ ce.locals → sI.heap.get? b = some o → (PySem.W.hideAll sI.heap [ce.locals]).get? b = some o := fun b o nb e => PySem.W.hideAll_get _ e fun z => nb (List.mem_singleton.mp z)
    have n3 : ∀ b o, s3.heap.get? b = some o → b ≠ ce.locals := fun b o e => Nat.ne_of_lt (Nat.lt_of_lt_of_le (Heap.lt_size e) hcl)
    have u := J.base
    have J2 : Inv X pins σ H' { sI with heap := PySem.W.hideAll sI.heap [ce.locals] } := by
      refine I3.call' (ch := fp) J.os ⟨fun b o e n hb hx => kI b o (n3 b o e) (u.keep b o e n hb hx), fun b o e n hb hx => ?_, u.free, fun b o e hx => ?_, u.tups, u.frzs, u.tbls⟩ (fun b o q => (J.hok b o q).stay (fun c w hc r => kI c w (fun z => ?_) r) (fun _ r => r) fun _ _ r => r) J.bare fun b hb => ⟨(f3 b hb).2.2.2.1, (f3 b hb).2.1, (f3 b hb).2.2.2.2.1, (f3 b hb).2.2.2.2.2⟩
      · obtain ⟨sl, q⟩ := u.slot b o e n hb hx
        exact ⟨sl, kI b _ (n3 b o e) q⟩
      · obtain ⟨o', q⟩ := u.there b o e hx
        exact ⟨o', kI b _ (n3 b o e) q⟩
      · rcases hc with hc | hc
        · rw [hc] at z; rw [z, nC] at q; cases q
        · rw [z, nC] at hc; cases hc
    refine ⟨a, PySem.W.hideAll B [ce.locals], _, pins, σ, H', cls, d, rfl, J2, fun b o e hb => ?_, fun b o e nf => ?_, .inr (.inr ⟨k1, hB' a g2, by rw [hs]; exact k2, by exact k3⟩), na, os, ag, w⟩
    · exact PySem.W.hideAll_get _ (nb b o (gI b o e).1 hb) fun z => (gI b o e).2 (List.mem_singleton.mp z)
    · obtain ⟨sl, q⟩ := upA b o (gI b o e).1 nf
      obtain ⟨sl2, q2⟩ := k4 b _ ((sb.2 b (gI b o e).2).trans q) nf
      exact ⟨sl2, q2⟩
  first
    | exact wpAny_bind (wpAny_pure (wpAny_bind fin))
    | exact wpAny_bind fin
/-- [elt for tg in iter if ..], elt in a context that takes E -/
theorem pe_lcE {E : XK} {elt tg iter : Expr} {ifs : List Expr} {scope : Scope} {own : List (Str × Nat)} {pos : Pos} {wi : TI} {g : TG} {tt : TT} {te : TE} (hst : X.stack = X.env :: X.outer) (hfe : X.env.frame = some X.env.locals) (tk : L2N.Takes X (fun cls d _ H => E cls d H))
    (hc : X.calm = true) (hN : X.N.Nodup) (hi : PI X tg iter wi) (ok : BlkOk X.N X.env.scope scope own)
    (hg : ∀ (s : Shared) (H : Hp) (C : Addr) (cl : List (Str × Addr)) (fp : List Addr), PG (X.blk s H scope (compEnvC scope cl C X.env) fp) tg g) (ht : ∀ (s : Shared) (H : Hp) (C : Addr) (cl : List (Str × Addr)) (fp : List Addr), PTs (X.blk s H scope (compEnvC scope cl C X.env) fp) ifs tt)
    (he : ∀ (s : Shared) (H : Hp) (C : Addr) (cl : List (Str × Addr)) (fp : List Addr), PE ((X.blk s H scope (compEnvC scope cl C X.env) fp).wish (xeB E (X.blk s H scope (compEnvC scope cl C X.env) fp))) elt te) (hs : ∀ x, foldedSetIterable iter X.env x = pure x := by intro _; rfl) :
    PE X (.ListComp elt [⟨tg, iter, ifs, 0⟩] scope pos) (tLc wi g tt te (own.map (·.2))) := by
  refine ⟨fun pins s σ H Q I h => ?_⟩
  rw [eval_ListComp]
  have hfree : ∀ y ∈ scope.names, y.2 = .free → ∃ c, X.env.cells.lookup y.1 = some c := fun y hy e => by
    rcases ok.free y hy e with k | k
    · exact I.ok.has _ (.inl k)
    · exact I.ok.has _ (.inr k)
  refine comp_freeE rfl hs (closure_ok hfree) ok.kind (fun y hy e => by rw [ok.uniq y hy, e])
    (thn (hi.run pins s σ H _ I h) fun xv s1 hx => thn hx fun itv s2 h2 => ?_)
  obtain ⟨it, fp, tn, J, H2, e, I2, T, st2, f2, q⟩ := h2
  subst e
  refine wpAny_newObj_type (newEnv_comp ?_) (by show 0 ≤ sizeLine; decide)
  generalize hD : s2.heap.objs.size = D
  have hDn : H2 D = none := I2.hok.fresh (Nat.le_of_eq hD)
  obtain ⟨W, ⟨m0, w0⟩, turn⟩ := q D hDn
  generalize hs3 : ({ s2 with heap := s2.heap.push { cls := .type "list", data := .seq ([] : List Value).toArray } } : Shared) = s3
  have I3 : Inv X pins σ (upd H2 D (.lst [])) s3 := by
    rw [← hs3]
    refine I2.laid (t' := s2.toks) (fun b o e => Heap.get?_push_of_some _ e) (Nat.le_of_eq hD) ⟨Nat.zero_le _, [], 0, .nil, ?_⟩
    rw [← hD]
    exact Heap.get?_push_size _ rfl
  have h3 : s3.heap = s2.heap.push { cls := .type "list", data := .seq ([] : List Value).toArray } := by rw [← hs3]
  have sz : ∀ b ∈ fp, b < s2.heap.objs.size := fun b hb => by
    obtain ⟨o, e, _⟩ := T.obj _ _ st2 b hb
    exact Heap.lt_size e
  have f3 : ∀ b ∈ fp, FpOk X pins (upd H2 D (.lst [])) b ∧ b < s3.heap.objs.size := fun b hb => by
    have hlt := sz b hb
    refine ⟨⟨?_, (f2 b hb).2⟩, by rw [h3, Heap.size_push]; exact Nat.lt_succ_of_lt hlt⟩
    rw [upd_ne (by rw [← hD]; exact Nat.ne_of_lt hlt)]
    exact (f2 b hb).1
  have st3 : tn 0 s3.heap := T.keep _ _ _ st2 fun b _ o e => by rw [h3]; exact Heap.get?_push_of_some _ e
  have I4 := block_start I3 ok hN f3
  have pg := hg s3 (upd H2 D (.lst [])) s3.heap.objs.size (cellsFrom (s3.heap.objs.size + 1) scope.names (cloFrom X.env.cells scope.names [])) fp
  have pt := ht s3 (upd H2 D (.lst [])) s3.heap.objs.size (cellsFrom (s3.heap.objs.size + 1) scope.names (cloFrom X.env.cells scope.names [])) fp
  have pe := he s3 (upd H2 D (.lst [])) s3.heap.objs.size (cellsFrom (s3.heap.objs.size + 1) scope.names (cloFrom X.env.cells scope.names [])) fp
  have f3' : ∀ b ∈ fp, FpOk X pins (upd H2 D (.lst [])) b := fun b hb => (f3 b hb).1
  show codeAny _ _ (.compStart (.ListComp elt [⟨tg, iter, ifs, 0⟩] scope pos) 0 (.ref it) (.ref D) (compEnvC scope (cellsFrom (s3.heap.objs.size + 1) scope.names (cloFrom X.env.cells scope.names [])) s3.heap.objs.size X.env))
    (compPostE (model X.prog X.w) X.A X.xe (EP X pins σ Q) (.ref D) (compEnvC scope (cellsFrom (s3.heap.objs.size + 1) scope.names (cloFrom X.env.cells scope.names [])) s3.heap.objs.size X.env)) { s3 with heap := pushCells (s3.heap.push { cls := .type "dict", data := .dict #[] }) scope.names }
  have nfp : ∀ b ∈ fp, (upd H2 D (.lst [])) b = none := fun b hb => (f3 b hb).1.1
  generalize hce : compEnvC scope (cellsFrom (s3.heap.objs.size + 1) scope.names (cloFrom X.env.cells scope.names [])) s3.heap.objs.size X.env = ce at I4 pg pt pe ⊢
  have cL : ce.locals = s3.heap.objs.size := by subst hce; rfl
  have cF : ce.frame = X.env.frame := by subst hce; rfl
  generalize hH3 : upd H2 D (.lst []) = H3 at I3 I4 pg pt pe w0 nfp f3 f3'
  generalize hs4 : ({ s3 with heap := pushCells (s3.heap.push { cls := .type "dict", data := .dict #[] }) scope.names } : Shared) = s4 at I4 ⊢
  have st4 : tn 0 s4.heap := T.keep _ _ _ st3 fun b _ o e => by rw [← hs4]; exact pushCells_keeps _ _ _ _ (Heap.get?_push_of_some _ e)
  have stat : ∀ {σ' : L2.St} {H' : Hp} {s' : Shared}, Inv (X.blk s3 H3 scope ce fp) [] σ' H' s' → (∀ b ∈ fp, H' b = none) → ∀ b ∈ fp, FpOk (X.blk s3 H3 scope ce fp) [] H' b := fun {σ' H' s'} I' hn b hb =>
    ⟨hn b hb, (I'.ok.exf b hb).1, I'.ok.exfs b hb, .inl hb, fun x c e => (I'.ok.exf b hb).2 x c e, fun p hp => absurd (show p ∈ ([] : List (Addr × Obj)) ++ [] from hp) (by simp)⟩
  have loop : codeAny (model X.prog X.w) X.A (.compLoop (.ListComp elt [⟨tg, iter, ifs, 0⟩] scope pos) 0 (.ref it) (.ref D) ce) (compPostE (model X.prog X.w) X.A X.xe (EP X pins σ Q) (.ref D) ce) s4 := by
    refine compLoop_any (fun n s' => ∃ i H', Inv (X.blk s3 H3 scope ce fp) [] (wipe σ (own.map (·.2))) H' s' ∧ tn i s'.heap ∧ (∀ b ∈ fp, H' b = none) ∧ W i n H') ?_ m0 ⟨0, H3, I4, st4, nfp, w0⟩
    rintro n s5 ⟨i, H5, I5, st5, n5, w5⟩
    rcases turn i n H5 w5 with ⟨stop, qq⟩ | ⟨go, Nx, hNx, step⟩
    · have td := T.done (X.blk s3 H3 scope ce fp) rfl rfl rfl hc i [] s5 _ H5 (fun _ _ => False) I5 (stat I5 n5) st5 stop
      refine thnF td fun r s6 ⟨hr, I6⟩ => ?_
      subst hr
      have I7 : Inv X pins σ H5 s6 := I3.call' (ch := fp) I6.os I6.base I6.hok I6.bare fun b hb => ⟨(f3 b hb).1.2.2.2.1, (f3 b hb).1.2.1, (f3 b hb).1.2.2.2.2.1, (f3 b hb).1.2.2.2.2.2⟩
      have nC : H5 s3.heap.objs.size = none := by
        have z : H5 ce.locals = none := I6.free
        rw [cL] at z
        exact z
      obtain ⟨m, hn, _⟩ := I6.loc
      have hn : s6.heap.Ns ce.locals m := hn
      refine ⟨m, hn, fun h'' sb => ?_⟩
      obtain ⟨f0, f1, f2, f3, f4, f5⟩ := (show FpOk X pins H5 s3.heap.objs.size from I3.fpOk (Nat.le_refl _) nC)
      exact ⟨.ref D, H5, I7.turned (it := s3.heap.objs.size) (t' := s6.toks) (fun b o hb e => (sb.2 b (by rw [cL]; exact hb)).trans e) f0 f1 f3 f4 f5, rfl, qq⟩
    · have ti := T.item (X.blk s3 H3 scope ce fp) rfl rfl rfl hc i [] s5 _ H5 (fun _ _ => False) I5 (stat I5 n5) st5 go
      refine thnF ti fun r s6 ⟨u, hr, h6⟩ => ?_
      subst hr
      refine thnF h6 fun _ s7 ⟨x, H7, I7, r7, y7, st7, n7⟩ => ?_
      have I7' := I7.pinned (stat I7 n7) (T.obj _ _ st7)
      refine thnF (pg.run _ s7 _ H7 x u _ I7' r7 (step x H7 y7)) fun _ s8 ⟨σ8, H8, I8, hw8, q8⟩ => ?_
      refine thnF (pt.run _ s8 σ8 H8 _ I8 q8) fun b s9 ⟨H9, I9, q9⟩ => ?_
      have fin : ∀ {s' : Shared} {H' : Hp}, Inv (X.blk s3 H3 scope ce fp) ([] ++ pinsAt fp s7.heap) σ8 H' s' → Nx H' → ∃ m, m < n ∧ ∃ i H', Inv (X.blk s3 H3 scope ce fp) [] (wipe σ (own.map (·.2))) H' s' ∧ tn i s'.heap ∧ (∀ b ∈ fp, H' b = none) ∧ W i m H' := fun {s' H'} I' nx => by
        obtain ⟨m', hm, w'⟩ := hNx H' nx
        have pin' : ∀ b ∈ fp, ∀ o, s7.heap.get? b = some o → s'.heap.get? b = some o ∧ H' b = none := fun b hb o e =>
          let z := I'.pin (b, o) (List.mem_append_right _ (List.mem_append_right _ (mem_pinsAt hb e)))
          ⟨z.1, z.2.1⟩
        have hl : (wipe σ (own.map (·.2))).length = σ8.length := by rw [← hw8, wipe_length]
        refine ⟨m', hm, i + 1, H', (I'.unpinned (pins := [])).weak hl (fun j v e => ?_), T.keep _ _ _ st7 fun b hb o e => (pin' b hb o e).1, fun b hb => ?_, w'⟩
        · rw [← hw8] at e
          exact (wipe_some e).1
        · obtain ⟨o, e, _⟩ := T.obj _ _ st7 b hb
          exact (pin' b hb o e).2
      cases b with
      | false =>
        simp only [Bool.false_eq_true, if_false] at q9 ⊢
        exact fin I9 q9
      | true =>
        simp only [if_true] at q9 ⊢
        refine wpAny_mono (pe.run _ s9 σ8 H9 _ (I9.wish _) q9) (fun z s10 ⟨yv, H10, I10, r10, acc, hD10, hz10, nx⟩ => ?_) fun u s10 x => ?_
        · exact app_ok (X := X.blk s3 H3 scope ce fp) I10.unwish hD10 hz10 r10 fun s11 I11 => fin I11 nx
        · exact block_err hst hfe tk I3 f3' cF (Nat.le_of_eq cL.symm) x
  exact codeAny_compStart_list loop (T.self X.A 0 _ _ _ st4 loop)
end
end
/-! Any text read: its parts between blanks, the table of words, read walked. -/
open TL
/-! ### text times int, find, index -/
def rMulS : R2 := fun x y H Q => ∃ (z : Str) (n : Int), x = .str z ∧ y = .int n ∧ 2 ≤ n ∧ n ≤ 1000 ∧ z.length = 1 ∧ ∀ u : Str, u.length = n.toNat → Q (.str u) H
theorem fold_size : ∀ (n : Nat) (a b : Array Nat), ((List.replicate n a).foldl (· ++ ·) b).size = b.size + n * a.size
  | 0, a, b => by simp
  | n + 1, a, b => by
    rw [List.replicate_succ, List.foldl_cons, fold_size n a (b ++ a), Array.size_append, Nat.succ_mul]
    omega
theorem op_mulS {X : Cx} : OpR X (binaryOp .Mult) rMulS := by
  intro pins s σ H x y v u Q I rx ry h
  obtain ⟨z, n, rfl, rfl, h2, hn, hz, q⟩ := h
  obtain ⟨t, rfl⟩ := rx
  obtain ⟨t', rfl⟩ := ry
  have hsz : (⟨(List.replicate n.toNat z.cps).foldl (· ++ ·) #[]⟩ : Str).length = n.toNat := by
    show ((List.replicate n.toNat z.cps).foldl (· ++ ·) #[]).size = n.toNat
    rw [fold_size]
    have : z.cps.size = 1 := hz
    rw [this]
    simp
  refine PySem.P.mul_str ?_ (fun _ _ => ?_) (fun _ _ => ?_) ?_
  · rw [decide_eq_false (by omega), decide_eq_false (by omega)]; rfl
  · rw [hz]
    have : (1 : Int) ≤ (2 ^ 63 - 1) / n := Int.le_ediv_of_mul_le (by omega) (by omega)
    omega
  · rw [hz]
    unfold Builtin.Str.tooLong
    have : (1000 : Nat) < sizeLine := by decide
    rw [decide_eq_false (by omega)]
  · rw [if_neg (by omega), if_neg (by rw [hz]; simp; omega)]
    refine ⟨?_, ⟨V.str _, H, I.tok _, ⟨_, rfl⟩, q _ hsz⟩⟩
    have : (1000 : Nat) < sizeLine := by decide
    rw [hsz]; omega
abbrev rFind : V → List V → Hp → VK → Prop := fun x xs H Q => ∃ a b, x = .str a ∧ xs = [.str b] ∧ Q (.int (Txt.find a b)) H
theorem find_fig {d : Nat} (h1 : 48 ≤ d) (h2 : d ≤ 57) : Txt.find "0123456789" ⟨#[d]⟩ = ((d - 48 : Nat) : Int) := by
  have e : ∀ d : Fin 10, Txt.find "0123456789" ⟨#[48 + d.val]⟩ = ((d.val : Nat) : Int) := by decide +kernel
  have := e ⟨d - 48, by omega⟩
  rw [show 48 + (⟨d - 48, by omega⟩ : Fin 10).val = d by show 48 + (d - 48) = d; omega] at this
  exact this
theorem find_no {d : Nat} (h : ¬ (48 ≤ d ∧ d ≤ 57)) : Txt.find "0123456789" ⟨#[d]⟩ = -1 := by
  have f := PySem.StrLaws.found_one ("0123456789" : Str) d
  rw [decide_eq_false (fun z => h ((figs_mem d).mp z))] at f
  unfold Txt.find
  split
  · rename_i i r e
    rw [e] at f
    cases f
  · rfl
/-! ### parts -/
theorem spl_len (S : List Nat) : ∀ (l : List Nat) (acc : List Nat), ∀ p ∈ spl [32] 0 acc l, p.length ≤ acc.length + l.length
  | [], acc, p, h => by
    rw [List.mem_singleton.mp (show p ∈ [acc] from h)]
    exact Nat.le_add_right _ _
  | c :: r, acc, p, h => by
    rw [List.length_cons]
    have h : p ∈ (if pre [32] (c :: r) = true then acc :: spl [32] 0 [] r else spl [32] 0 (acc ++ [c]) r) := h
    split at h
    · rcases List.mem_cons.mp h with e | e
      · rw [e]; omega
      · have := spl_len S r [] p e
        rw [List.length_nil] at this
        omega
    · have := spl_len S r (acc ++ [c]) p h
      rw [List.length_append, List.length_singleton] at this
      omega
theorem spl_count : ∀ (l : List Nat) (acc : List Nat), 1 ≤ (spl [32] 0 acc l).length ∧ (spl [32] 0 acc l).length ≤ l.length + 1
  | [], acc => ⟨Nat.le_refl _, Nat.le_refl _⟩
  | c :: r, acc => by
    show 1 ≤ (if pre [32] (c :: r) = true then acc :: spl [32] 0 [] r else spl [32] 0 (acc ++ [c]) r).length ∧ (if pre [32] (c :: r) = true then acc :: spl [32] 0 [] r else spl [32] 0 (acc ++ [c]) r).length ≤ r.length + 1 + 1
    split
    · have := spl_count r []
      rw [List.length_cons]
      omega
    · have := spl_count r (acc ++ [c])
      omega
abbrev parts (z : Str) : List Str := Txt.split z " "
theorem parts_spl (z : Str) : (parts z).map tl = spl [32] 0 [] (tl z) := by
  have e : tl (" " : Str) = [32] := by decide +kernel
  have := split_spl z " " (by rw [e]; simp) (kind_ok (by decide +kernel))
  rw [e] at this
  exact this
theorem parts_len {z p : Str} (h : p ∈ parts z) : p.length ≤ z.length := by
  have : tl p ∈ spl [32] 0 [] (tl z) := by rw [← parts_spl]; exact List.mem_map_of_mem h
  have := spl_len [] _ _ _ this
  rw [len_tl, len_tl]
  simpa using this
theorem parts_count (z : Str) : 1 ≤ (parts z).length ∧ (parts z).length ≤ z.length + 1 := by
  have e : (parts z).length = (spl [32] 0 [] (tl z)).length := by rw [← parts_spl, List.length_map]
  rw [e, len_tl]
  exact spl_count _ _
/-- a word and as many numbers as it has -/
def GoodP (ps : List Str) : Prop := ∃ w rest, ps = w :: rest ∧ tabGet wTab w = some (rest.length : Int) ∧ ∀ p ∈ rest, IsNum p
theorem tab_mem {w : Str} {m : Int} (h : tabGet wTab w = some m) : (w, m) ∈ wTab := by
  unfold tabGet at h
  cases e : wTab.find? fun p => p.1 == w with
  | none => rw [e] at h; cases h
  | some p =>
    rw [e] at h
    obtain ⟨a, b⟩ := p
    have h1 : (a == w) = true := by have := List.find?_some e; exact this
    have h2 := List.mem_of_find?_eq_some e
    cases h
    rw [← eq_of_beq h1]
    exact h2
def wordsV : List V := [.str "make", .str "take", .str "put", .str "share", .str "drop", .str "work"]
def countsV : List V := [.int 2, .int 3, .int 3, .int 2, .int 1, .int 1]
theorem tab_at {w : Str} {m : Int} (h : tabGet wTab w = some m) : w.length ≤ 5 ∧ 1 ≤ m ∧ m ≤ 3 ∧ ∃ j, wordsV[j]? = some (.str w) ∧ countsV[j]? = some (.int m) ∧ ∀ (i : Nat) (z : V), i < j → wordsV[i]? = some z → eqV z (.str w) = false := by
  have key : ∀ (j : Nat) (w' : Str) (m' : Int), wordsV[j]? = some (.str w') → countsV[j]? = some (.int m') → (∀ i, i < j → eqV (wordsV.getD i .non) (.str w') = false) → ∃ j, wordsV[j]? = some (.str w') ∧ countsV[j]? = some (.int m') ∧ ∀ (i : Nat) (z : V), i < j → wordsV[i]? = some z → eqV z (.str w') = false := fun j w' m' h1 h2 h3 =>
    ⟨j, h1, h2, fun i z hi hz => by
      have := h3 i hi
      rw [List.getD_eq_getElem?_getD, hz] at this
      exact this⟩
  have hm := tab_mem h
  simp only [wTab, List.mem_cons, List.not_mem_nil, or_false, Prod.mk.injEq] at hm
  rcases hm with ⟨rfl, rfl⟩ | ⟨rfl, rfl⟩ | ⟨rfl, rfl⟩ | ⟨rfl, rfl⟩ | ⟨rfl, rfl⟩ | ⟨rfl, rfl⟩
  · exact ⟨by decide +kernel, by decide, by decide, key 0 _ _ rfl rfl (by decide +kernel)⟩
  · exact ⟨by decide +kernel, by decide, by decide, key 1 _ _ rfl rfl (by decide +kernel)⟩
  · exact ⟨by decide +kernel, by decide, by decide, key 2 _ _ rfl rfl (by decide +kernel)⟩
  · exact ⟨by decide +kernel, by decide, by decide, key 3 _ _ rfl rfl (by decide +kernel)⟩
  · exact ⟨by decide +kernel, by decide, by decide, key 4 _ _ rfl rfl (by decide +kernel)⟩
  · exact ⟨by decide +kernel, by decide, by decide, key 5 _ _ rfl rfl (by decide +kernel)⟩
theorem words_in (w : Str) : inV (.str w) wordsV = (tabGet wTab w).isSome := by
  have e : ∀ a : Str, eqV (.str a) (.str w) = (a == w) := fun a => rfl
  unfold inV wordsV tabGet wTab
  simp only [List.any_cons, List.any_nil, e, List.find?_cons, List.find?_nil]
  generalize ("make" == w) = b1
  generalize ("take" == w) = b2
  generalize ("put" == w) = b3
  generalize ("share" == w) = b4
  generalize ("drop" == w) = b5
  generalize ("work" == w) = b6
  cases b1 <;> cases b2 <;> cases b3 <;> cases b4 <;> cases b5 <;> cases b6 <;> rfl
def P_read (K : PySem.W.Frag) (A : Ex) : Pm := pm1 fun x L Q E => ∃ z : Str, x = .str z ∧ z.length ≤ 100000 ∧
  (∀ w rest, parts z = w :: rest → tabGet wTab w = some (rest.length : Int) → (∀ p ∈ rest, IsNum p) → ∀ t, Q (.ref t) (pt t (.tup (.str w :: rest.map fun p => nV (valS p))) :: L)) ∧ (¬ GoodP (parts z) → E (.ref A.NoDeed) L)
def N_read : List Str := ["line", "parts", "part"]
def t_read (K : PySem.W.Frag) (A : Ex) (E : XK) : TS :=
    (tSeq (tAsg (tM1 rSplit (tVar 0) (tC (.str " "))) (gName 1))
    (tSeq (tIfS (tOr (tTest (tOp (rNotInW A.COUNTS) (tOp (rIxL K) (tVar 1) (tC (.int 0))) (tC (.ref A.COUNTS)))) (tTest (tOp rNe (tCB (rLen K) (tCons (tVar 1) tNil)) (tOp rAddI (tOp (rIxW A.COUNTS) (tC (.ref A.COUNTS)) (tOp (rIxL K) (tVar 1) (tC (.int 0)))) (tC (.int 1)))))) (tRaiseC A.NoDeed E) tNext)
    (tRet (tCB (rTupOf K) (tCons (tOp rCat (tLst (tCons (tOp (rIxL K) (tVar 1) (tC (.int 0))) tNil)) (tLc (iList K (tSl (rSlL K) (tVar 1) (tPart (tC (.int 1))) tNoPart)) (gName 2) tYes (tCall (lift (P_number_of K A)) [] E (tCons (tVar 2) tNil)) [2])) tNil)))))
section
variable {K : PySem.W.Frag} {A : Ex} {E : XK} {vs : List V} {L : AL} {Q : V → AL → Prop} {Ea : Value → AL → Prop}
theorem r_mulS {z : Str} {n : Int} (h2 : 2 ≤ n) (hn : n ≤ 1000) (hz : z.length = 1) (q : ∀ u : Str, u.length = n.toNat → Q (.str u) L) : RE (rMulS (.str z) (.int n)) L Q := fun H s Qh k => ⟨z, n, rfl, rfl, h2, hn, hz, fun u hu => k _ _ _ s (q u hu)⟩
theorem r_find {a b : Str} (q : Q (.int (Txt.find a b)) L) : RE (rFind (.str a) [.str b]) L Q := fun H s Qh k => ⟨a, b, rfl, rfl, k _ _ _ s q⟩
theorem r_index {a : Addr} {ys : List V} {y z : V} {j : Nat} (h : SqA K L a ys) (fy : flatV y = true) (fys : ys.all flatV = true) (hz : ys[j]? = some z) (e : eqV z y = true) (no : ∀ (m : Nat) (z' : V), m < j → ys[m]? = some z' → eqV z' y = false) (q : Q (nV j) L) : RE (rIndex K (.ref a) [y]) L Q := fun H s Qh k =>
  ⟨a, ys, y, j, z, rfl, rfl, h H s, fy, fys, hz, e, no, k _ _ _ s q⟩
/-- what is told of an error may be forgotten -/
def eEnt (Ea : Value → AL → Prop) : Value → AL → Prop := fun c L => ∃ M, Ent L M ∧ Ea c M
theorem eEnt_le (he : ELe Ea E) : ELe (eEnt Ea) E := fun c L H s ⟨M, e, q⟩ => he c M H (e H s) q
theorem p_read (he : ELe Ea E) (h : P_read K A vs L Q Ea) : SS (t_read K A E) { nx := fun _ L => Q .non L, rt := Q } (start N_read vs) L := by
  obtain ⟨_, rfl, z, rfl, hz, q1, q2⟩ := h
  unfold t_read
  refine s_postC ?_
  have hcnt := parts_count z
  refine s_seq ?_
  refine s_asg (e_m1 ?_)
  refine e_var rfl ⟨⟨_, rfl⟩, e_c ?_⟩
  refine r_split (by decide +kernel) (small6 (by omega)) fun p => ?_
  have hpl : ∀ y ∈ parts z, y.length ≤ 100000 := fun y hy => Nat.le_trans (parts_len hy) hz
  show SS _ _ _ (pt p (.lst ((parts z).map V.str)) :: L)
  generalize parts z = ps at hcnt hpl q1 q2 ⊢
  obtain ⟨w, rest, rfl⟩ : ∃ w rest, ps = w :: rest := by
    cases ps with
    | nil => exact absurd hcnt.1 (by decide)
    | cons w rest => exact ⟨w, rest, rfl⟩
  have hrl : rest.length ≤ 100000 := by have := hcnt.2; rw [List.length_cons] at this; omega
  have hll : ((w :: rest).map V.str).length = rest.length + 1 := by rw [List.length_map, List.length_cons]
  have bad : ∀ {L'}, Ent L' L → ¬ GoodP (w :: rest) → ∃ M, Ent L' M ∧ Ea (.ref A.NoDeed) M := fun e n => ⟨L, e, q2 n⟩
  refine s_seq ?_
  refine s_if (t_or (t_test ?_))
  tm_at "go"
  refine r_ixL (Has.sq has_hd) (atI_nat (j := 0) rfl) ?_
  tm_at "go"
  refine r_notInW ?_
  cases ht : tabGet wTab w with
  | none =>
    refine ⟨true, rfl, both_t (both_t ?_)⟩
    refine s_raiseT he Ent.drop (q2 ?_)
    rintro ⟨w', rest', e, h1, _⟩
    cases e
    rw [ht] at h1; cases h1
  | some m =>
    refine ⟨false, rfl, both_f ?_⟩
    refine t_test ?_
    tm_at "go"
    refine r_ixL (Has.sq has_hd) (atI_nat (j := 0) rfl) ?_
    refine r_ixW ht ?_
    tm_at "go"
    rw [hll]
    refine ex_n (fun c => ?_) fun c => s_next ?_
    · refine s_raiseT he Ent.drop (q2 ?_)
      rintro ⟨w', rest', e, h1, _⟩
      cases e
      rw [ht] at h1
      cases h1
      exact c (by rw [show ((rest.length + 1 : Nat) : Int) = (rest.length : Int) + 1 by omega])
    · have em : m = (rest.length : Int) := by have := V.int.inj c; omega
      subst em
      tm_at "gn"
      refine r_ixL (Has.sq has_hd) (atI_nat (j := 0) rfl) ?_
      tm_at "gn"
      refine ⟨by show 1 ≤ sizeLine; decide, fun d => ?_⟩
      refine e_lcL ?_
      tm_at "go"
      refine ⟨1, rfl, o_none ?_⟩
      refine r_slL (Has.sq (has_tl has_hd)) fun c => ?_
      have ecut : cutV ((w :: rest).map V.str) (some 1) none = rest.map V.str := cut_from (k := 1)
      rw [ecut]
      refine ⟨c, rest.map V.str, rfl, Has.sq has_hd, fun _ => rfl, fun i acc L' => (∀ y ∈ rest.take i, IsNum y) ∧ acc = (rest.take i).map (fun y => nV (valS y)) ∧ L' = pt c (.lst (rest.map V.str)) :: pt d (.lst [.str w]) :: pt p (.lst ((w :: rest).map V.str)) :: L, ⟨fun _ h => absurd h List.not_mem_nil, rfl, rfl⟩, ?_, ?_, ?_⟩
      · rintro i acc L' hi ⟨_, rfl, rfl⟩
        exact Has.sq has_hd
      · rintro i x acc L' D hx ⟨hall, rfl, rfl⟩
        obtain ⟨y, hy, rfl⟩ := map_get hx
        have hym := List.mem_of_getElem? hy
        refine t_yes ⟨fun _ => ?_, (fun z => nomatch z)⟩
        refine e_callE (eEnt_le he) ?_
        tm_at "go"
        refine ⟨_, Ent.refl _, _, rfl, y, rfl, hpl y (List.mem_cons_of_mem _ hym), fun hn => ?_, fun hn => bad (Ent.drop.trans (Ent.drop.trans (Ent.drop.trans Ent.drop))) ?_⟩
        · refine ⟨_, Ent.refl _, small5 (by rw [List.length_map, List.length_take]; omega), fun y' hy' => ?_, by rw [take_snoc hy, List.map_append]; rfl, rfl⟩
          rw [take_snoc hy] at hy'
          rcases List.mem_append.mp hy' with h | h
          · exact hall y' h
          · rw [List.mem_singleton.mp h]; exact hn
        · rintro ⟨w', rest', e, _, h1⟩
          cases e
          exact hn (h1 y hym)
      · rintro acc L' D ⟨hall, rfl, rfl⟩
        rw [List.length_map, List.take_length] at hall ⊢
        refine r_cat (has_tl (has_tl has_hd)) has_hd (by rw [List.length_map]; exact small6 (by show 1 + rest.length ≤ 200000; omega)) fun e => ?_
        tm_at "gn"
        refine c_tupOf (Has.sq has_hd) fun t => ?_
        exact ⟨_, Ent.cons (Ent.drop.trans (Ent.drop.trans (Ent.drop.trans (Ent.drop.trans Ent.drop)))), q1 w rest rfl ht hall t⟩
end
/-! law_k03_read: law_number, law_due walked. -/
open TL
def P_law_number (K : PySem.W.Frag) (A : Ex) : Pm := pm1 fun x L Q _ => ∃ z : Str, x = .str z ∧ z.length ≤ 100000 ∧ (IsNum z → Q (nV (valS z)) L) ∧ (¬ IsNum z → Q .non L)
def N_law_number : List Str := ["_law_part", "_law_number_here", "_law_sign", "_law_place"]
def t_law_number (K : PySem.W.Frag) (A : Ex) (E : XK) : TS :=
    (tSeq (tIfS (tOr (tTest (tOp rEq (tVar 0) (tC (.str "")))) (tOr (tTest (tOp rGtI (tCB rLenS (tCons (tVar 0) tNil)) (tC (.int 60)))) (tAnd (tTest (tOp rEq (tOp rIxS (tVar 0) (tC (.int 0))) (tC (.str "0")))) (tTest (tOp rGtI (tCB rLenS (tCons (tVar 0) tNil)) (tC (.int 1))))))) (tRet (tC .non)) tNext)
    (tSeq (tAsg (tC (.int 0)) (gName 1))
    (tSeq (tFor (iStr (tVar 0)) (gName 2)
      (tSeq (tAsg (tM1 rFind (tC (.str "0123456789")) (tVar 2)) (gName 3))
    (tSeq (tIfS (tTest (tOp rLtI (tVar 3) (tC (.int 0)))) (tRet (tC .non)) tNext)
    (tAsg (tOp rAddI (tOp rMulI (tC (.int 10)) (tVar 1)) (tVar 3)) (gName 1)))))
    (tRet (tVar 1)))))
def P_law_due (K : PySem.W.Frag) (A : Ex) : Pm := pm1 fun x L Q _ => ∃ z : Str, x = .str z ∧ z.length ≤ 100000 ∧
  (∀ w rest, parts z = w :: rest → tabGet wTab w = some (rest.length : Int) → (∀ p ∈ rest, IsNum p) → ∀ t d, Q (.ref t) (pt t (.tup [.str w, .ref d]) :: pt d (.lst (rest.map fun p => nV (valS p))) :: L)) ∧ (¬ GoodP (parts z) → Q .non L)
def N_law_due : List Str := ["_law_line_here", "_law_words", "_law_counts", "_law_parts", "_law_sign", "_law_numbers_here", "_law_part"]
def t_law_due (K : PySem.W.Frag) (A : Ex) (E : XK) : TS :=
    (tSeq (tAsg (tLst (tCons (tC (.str "make")) (tCons (tC (.str "take")) (tCons (tC (.str "put")) (tCons (tC (.str "share")) (tCons (tC (.str "drop")) (tCons (tC (.str "work")) tNil))))))) (gName 1))
    (tSeq (tAsg (tLst (tCons (tC (.int 2)) (tCons (tC (.int 3)) (tCons (tC (.int 3)) (tCons (tC (.int 2)) (tCons (tC (.int 1)) (tCons (tC (.int 1)) tNil))))))) (gName 2))
    (tSeq (tAsg (tLst (tCons (tC (.str "")) tNil)) (gName 3))
    (tSeq (tFor (iStr (tVar 0)) (gName 4)
      (tIfS (tTest (tOp rEq (tVar 4) (tC (.str " ")))) (tDrop (tBM K "list" rAppend (tVar 3) (tCons (tC (.str "")) tNil))) (tAsg (tOp rAddStr (tOp (rIxL K) (tVar 3) (tUn rNegI (tC (.int 1)))) (tVar 4)) (gSub (tVar 3) (tUn rNegI (tC (.int 1))) rSetL))))
    (tSeq (tIfS (tOr (tTest (tOp (rIn K true) (tOp (rIxL K) (tVar 3) (tC (.int 0))) (tVar 1))) (tTest (tOp rNe (tCB (rLen K) (tCons (tVar 3) tNil)) (tOp rAddI (tC (.int 1)) (tOp (rIxL K) (tVar 2) (tBM K "list" (rIndex K) (tVar 1) (tCons (tOp (rIxL K) (tVar 3) (tC (.int 0))) tNil))))))) (tRet (tC .non)) tNext)
    (tSeq (tAsg (tLc (iList K (tSl (rSlL K) (tVar 3) (tPart (tC (.int 1))) tNoPart)) (gName 6) tYes (tCall (lift (P_law_number K A)) [] E0 (tCons (tVar 6) tNil)) [6]) (gName 5))
    (tSeq (tIfS (tTest (tOp (rIn K false) (tC .non) (tVar 5))) (tRet (tC .non)) tNext)
    (tRet (tTup (tCons (tOp (rIxL K) (tVar 3) (tC (.int 0))) (tCons (tVar 5) tNil)))))))))))
open Classical in
noncomputable def numV (y : Str) : V := if IsNum y then nV (valS y) else .non
theorem numV_flat (ys : List Str) : (ys.map numV).all flatV = true := by
  rw [List.all_eq_true]
  intro v hv
  obtain ⟨y, _, rfl⟩ := List.mem_map.mp hv
  unfold numV
  split <;> rfl
theorem numV_all {ys : List Str} (h : ∀ y ∈ ys, IsNum y) : ys.map numV = ys.map fun y => nV (valS y) := List.map_congr_left fun y hy => by unfold numV; rw [if_pos (h y hy)]
theorem numV_in (ys : List Str) : (inV .non (ys.map numV) = true ∧ ∃ y ∈ ys, ¬ IsNum y) ∨ (inV .non (ys.map numV) = false ∧ ∀ y ∈ ys, IsNum y) := by
  by_cases c : ∀ y ∈ ys, IsNum y
  · refine .inr ⟨?_, c⟩
    rw [numV_all c]
    unfold inV
    rw [List.any_eq_false]
    intro v hv
    obtain ⟨y, _, rfl⟩ := List.mem_map.mp hv
    exact Bool.false_ne_true
  · refine .inl ?_
    obtain ⟨y, hy, hn⟩ : ∃ y ∈ ys, ¬ IsNum y := by
      refine Classical.byContradiction fun z => c fun y hy => Classical.byContradiction fun n => z ⟨y, hy, n⟩
    refine ⟨?_, y, hy, hn⟩
    unfold inV
    rw [List.any_eq_true]
    refine ⟨numV y, List.mem_map_of_mem hy, ?_⟩
    unfold numV
    rw [if_neg hn]
    rfl
section
variable {K : PySem.W.Frag} {A : Ex} {E : XK} {vs : List V} {L : AL} {Q : V → AL → Prop} {Ea : Value → AL → Prop}
theorem p_law_number (he : ELe Ea E) (h : P_law_number K A vs L Q Ea) : SS (t_law_number K A E) { nx := fun _ L => Q .non L, rt := Q } (start N_law_number vs) L := by
  obtain ⟨_, rfl, z, rfl, hz, q1, q2⟩ := h
  unfold t_law_number
  have hzs : z.length ≤ sizeLine := small6 (by omega)
  refine s_seq ?_
  -- behind the test
  have main : (tl z ≠ [] ∧ (tl z).length ≤ 60 ∧ ¬ ((tl z)[0]? = some 48 ∧ 1 < (tl z).length)) → SS (tSeq (tAsg (tC (.int 0)) (gName 1))
    (tSeq (tFor (iStr (tVar 0)) (gName 2)
      (tSeq (tAsg (tM1 rFind (tC (.str "0123456789")) (tVar 2)) (gName 3))
    (tSeq (tIfS (tTest (tOp rLtI (tVar 3) (tC (.int 0)))) (tRet (tC .non)) tNext)
    (tAsg (tOp rAddI (tOp rMulI (tC (.int 10)) (tVar 1)) (tVar 3)) (gName 1)))))
    (tRet (tVar 1)))) { nx := fun _ L => Q .non L, rt := Q } (start N_law_number [V.str z]) L := by
    rintro ⟨h1, h2, h3⟩
    tm_at "gn"
    refine s_forS ?_
    tm_at "go"
    refine ⟨z, rfl, fun i σ L' => (∃ v2 v3, σ = [some (.str z), some (nV (NumText.digitsVal ((tl z).take i))), v2, v3]) ∧ L' = L ∧ ∀ c ∈ (tl z).take i, 48 ≤ c ∧ c ≤ 57, ⟨⟨_, _, rfl⟩, rfl, fun c hc => by cases hc⟩, ?_, ?_⟩
    · rintro i c σ L' hc ⟨⟨v2, v3, rfl⟩, rfl, hd⟩
      have hc2 : (tl z)[i]? = some c := by rw [Array.getElem?_toList]; exact hc
      refine s_seq ?_
      refine s_asg (e_m1 (e_c ⟨⟨_, rfl⟩, e_var rfl (r_find ?_)⟩))
      by_cases hf : 48 ≤ c ∧ c ≤ 57
      · rw [find_fig hf.1 hf.2]
        refine s_seq ?_
        refine s_if (t_test ?_)
        tm_at "go"
        refine ex_c (fun c1 => absurd c1 (by omega)) fun _ => s_next ?_
        tm_at "go"
        refine r_I (.inl ⟨by decide, by decide⟩) ?_
        tm_at "go"
        refine ⟨⟨some (.str ⟨#[c]⟩), some (.int ((c - 48 : Nat) : Int)), ?_⟩, rfl, fun d hd2 => ?_⟩
        · rw [take_snoc hc2, NumText.digitsVal_snoc, show (10 : Int) * (NumText.digitsVal ((tl z).take i) : Int) + ((c - 48 : Nat) : Int) = ((NumText.digitsVal ((tl z).take i) * 10 + (c - 48) : Nat) : Int) by omega]
          rfl
        · rw [take_snoc hc2] at hd2
          rcases List.mem_append.mp hd2 with h | h
          · exact hd d h
          · rw [List.mem_singleton.mp h]; exact hf
      · rw [find_no hf]
        refine s_seq ?_
        refine s_if (t_test ?_)
        tm_at "go"
        refine ex_c (fun _ => ?_) fun c1 => absurd (by decide) c1
        exact s_ret (e_c (q2 fun w => hf (w.d c (List.mem_of_getElem? hc2))))
    · rintro σ L' ⟨⟨v2, v3, rfl⟩, rfl, hd⟩
      rw [show z.cps.size = (tl z).length by simp [tl], List.take_length] at hd ⊢
      tm_at "go"
      exact q1 ⟨hd, h1, h2, h3⟩
  refine s_if (t_or (t_test ?_))
  tm_at "go"
  refine ex_c (fun c => both_t ?_) fun c => ?_
  · refine s_ret (e_c (q2 fun w => w.n ?_))
    rw [V.str.inj c]
    decide +kernel
  · have hne : tl z ≠ [] := fun e => c (by rw [ext_tl (x := z) (y := "") (by rw [e]; decide +kernel)])
    refine t_or (t_test ?_)
    tm_at "go"
    refine c_lenS hzs ?_
    tm_at "go"
    refine ex_c (fun c2 => both_t ?_) fun c2 => ?_
    · refine s_ret (e_c (q2 fun w => ?_))
      have := w.l
      rw [← len_tl] at this
      omega
    · have h60 : (tl z).length ≤ 60 := by rw [← len_tl]; omega
      obtain ⟨a, ha⟩ : ∃ a, (tl z)[0]? = some a := by
        cases e : tl z with
        | nil => exact absurd e hne
        | cons a r => exact ⟨a, rfl⟩
      refine t_and (t_test ?_)
      tm_at "go"
      refine r_ixS (i := 0) hzs (atI_nat (j := 0) ha) ?_
      tm_at "go"
      refine ex_c (fun c3 => ?_) fun c3 => ?_
      · refine t_test ?_
        tm_at "go"
        refine c_lenS hzs ?_
        tm_at "go"
        have h48 : a = 48 := by
          have e := V.str.inj c3
          have e2 := congrArg tl e
          have e3 : tl (⟨#[a]⟩ : Str) = [a] := rfl
          have e4 : tl ("0" : Str) = [48] := by decide +kernel
          rw [e3, e4] at e2
          exact (List.cons.inj e2).1
        refine ex_c (fun c4 => ?_) fun c4 => s_next (main ⟨hne, h60, fun w => ?_⟩)
        · exact s_ret (e_c (q2 fun w => w.f ⟨by rw [ha, h48], by rw [← len_tl]; omega⟩))
        · have := w.2
          rw [← len_tl] at this
          omega
      · refine both_f (s_next (main ⟨hne, h60, fun w => c3 ?_⟩))
        rw [ha] at w
        rw [Option.some.inj w.1]
        decide +kernel
theorem p_law_due (he : ELe Ea E) (h : P_law_due K A vs L Q Ea) : SS (t_law_due K A E) { nx := fun _ L => Q .non L, rt := Q } (start N_law_due vs) L := by
  obtain ⟨_, rfl, z, rfl, hz, q1, q2⟩ := h
  unfold t_law_due
  refine s_postC ?_
  tm_at "gn"
  refine ⟨by show 6 ≤ sizeLine; decide, fun dw => ?_⟩
  tm_at "gn"
  refine ⟨by show 6 ≤ sizeLine; decide, fun dc => ?_⟩
  tm_at "gn"
  refine ⟨by show 1 ≤ sizeLine; decide, fun p => ?_⟩
  tm_at "gn"
  have hcnt := parts_count z
  have hpl : ∀ y ∈ parts z, y.length ≤ 100000 := fun y hy => Nat.le_trans (parts_len hy) hz
  have hspl := parts_spl z
  refine s_forS ?_
  tm_at "go"
  refine ⟨z, rfl, fun i σ L' => ∃ (dn : List Str) (a : Str) (v4 : Option V), dn.length ≤ i ∧ a.length ≤ i ∧ spl [32] 0 [] (tl z) = dn.map tl ++ spl [32] 0 (tl a) ((tl z).drop i) ∧ σ = [some (.str z), some (.ref dw), some (.ref dc), some (.ref p), v4, none, none] ∧ L' = pt p (.lst ((dn ++ [a]).map V.str)) :: pt dc (.lst countsV) :: pt dw (.lst wordsV) :: L,
    ⟨[], "", none, Nat.le_refl _, Nat.le_of_eq (by decide +kernel), by rw [show tl ("" : Str) = [] by decide +kernel]; rfl, rfl, rfl⟩, ?_, ?_⟩
  · rintro i c σ L' hc ⟨dn, a, v4, hd, ha, hs, rfl, rfl⟩
    have hc2 : (tl z)[i]? = some c := by rw [Array.getElem?_toList]; exact hc
    have hi : i < (tl z).length := (List.getElem?_eq_some_iff.mp hc2).1
    have hzl : (tl z).length ≤ 100000 := by rw [← len_tl]; exact hz
    have hdrop : (tl z).drop i = c :: (tl z).drop (i + 1) := by
      rw [List.drop_eq_getElem_cons hi]
      congr 1
      exact (List.getElem?_eq_some_iff.mp hc2).2
    have hmap : ((dn ++ [a]).map V.str).length = dn.length + 1 := by rw [List.length_map, List.length_append]; rfl
    rw [hdrop] at hs
    refine s_if (t_test ?_)
    tm_at "go"
    refine ex_c (fun c1 => ?_) fun c1 => ?_
    · have h32 : c = 32 := by
        have e := congrArg tl (V.str.inj c1)
        have e4 : tl (" " : Str) = [32] := by decide +kernel
        rw [e4] at e
        exact (List.cons.inj (show [c] = [32] from e)).1
      subst h32
      tm_at "gn"
      refine r_append has_hd (by rw [hmap]; exact small6 (by omega)) wr_hd ?_
      refine ⟨dn ++ [a], "", some (.str ⟨#[32]⟩), by rw [List.length_append]; show dn.length + 1 ≤ i + 1; omega, Nat.le_trans (Nat.le_of_eq (show ("" : Str).length = 0 by decide +kernel)) (Nat.zero_le _), ?_, rfl, ?_⟩
      · rw [hs, List.map_append, List.append_assoc, show tl ("" : Str) = [] by decide +kernel]
        congr 1
      · rw [List.map_append (l₂ := [("" : Str)])]
        rfl
    · have h32 : c ≠ 32 := fun e => c1 (by rw [e]; exact congrArg V.str (by decide +kernel))
      have emap : (dn ++ [a]).map V.str = dn.map V.str ++ [.str a] := by rw [List.map_append]; rfl
      rw [emap]
      tm_at "gn"
      refine r_neg ?_
      refine r_ixL (Has.sq has_hd) (atI_last (dn.map V.str) (.str a)) ?_
      tm_at "gn"
      refine r_addS (small6 (by show a.length + 1 ≤ 200000; omega)) ?_
      tm_at "gn"
      refine r_neg ?_
      refine r_setL (j := dn.length) has_hd ?_ wr_hd ?_
      · unfold ixN
        rw [if_neg (by decide), List.length_append, List.length_map, if_pos (by show -(((dn.length + 1 : Nat)) : Int) ≤ -1; omega)]
        congr 1
        show (-1 + ((dn.length + 1 : Nat) : Int)).toNat = dn.length
        omega
      refine ⟨dn, a ++ ⟨#[c]⟩, some (.str ⟨#[c]⟩), by omega, by rw [len_app]; show a.length + 1 ≤ i + 1; omega, ?_, rfl, ?_⟩
      · rw [hs, tl_append]
        congr 1
        show (if pre [32] (c :: (tl z).drop (i + 1)) = true then _ else _) = _
        rw [if_neg (by unfold pre; simpa using h32)]
        try rfl
      · rw [List.map_append, List.set_append_right _ _ (by rw [List.length_map]; exact Nat.le_refl _), List.length_map, Nat.sub_self]
        try rfl
  · rintro σ L' ⟨dn, a, v4, hd, ha, hs, rfl, rfl⟩
    have hps : parts z = dn ++ [a] := by
      refine map_tl_inj ?_
      rw [hspl, hs, show z.cps.size = (tl z).length by simp [tl], List.drop_length, List.map_append]
      rfl
    rw [hps] at hcnt hpl q1 q2
    generalize dn ++ [a] = ps at hcnt hpl q1 q2 ⊢
    obtain ⟨w, rest, rfl⟩ : ∃ w rest, ps = w :: rest := by
      cases ps with
      | nil => exact absurd hcnt.1 (by decide)
      | cons w rest => exact ⟨w, rest, rfl⟩
    have hrl : rest.length ≤ 100000 := by have := hcnt.2; rw [List.length_cons] at this; omega
    have hll : ((w :: rest).map V.str).length = rest.length + 1 := by rw [List.length_map, List.length_cons]
    have ent : Ent (pt p (.lst ((w :: rest).map V.str)) :: pt dc (.lst countsV) :: pt dw (.lst wordsV) :: L) L := Ent.drop.trans (Ent.drop.trans Ent.drop)
    refine s_seq ?_
    refine s_if (t_or (t_test ?_))
    tm_at "go"
    refine r_ixL (Has.sq has_hd) (atI_nat (j := 0) rfl) ?_
    tm_at "go"
    refine r_inL (xs := wordsV) (Has.sq (has_tl (has_tl has_hd))) rfl rfl ?_
    rw [if_pos rfl, words_in]
    cases ht : tabGet wTab w with
    | none =>
      refine ⟨true, rfl, both_t (both_t ?_)⟩
      tm_at "go"
      refine ⟨_, ent, q2 ?_⟩
      rintro ⟨w', rest', e, h1, _⟩
      cases e
      rw [ht] at h1; cases h1
    | some m =>
      obtain ⟨hw5, hm1, hm3, j, hj1, hj2, hj3⟩ := tab_at ht
      refine ⟨false, rfl, both_f ?_⟩
      refine t_test ?_
      tm_at "go"
      rw [hll]
      refine r_ixL (Has.sq has_hd) (atI_nat (j := 0) rfl) ?_
      tm_at "go"
      refine r_index (ys := wordsV) (z := .str w) (j := j) (Has.sq (has_tl (has_tl has_hd))) rfl rfl hj1 (by show (w == w) = true; exact beq_self_eq_true w) hj3 ?_
      refine r_ixL (xs := countsV) (Has.sq (has_tl has_hd)) (atI_nat hj2) ?_
      tm_at "go"
      refine ex_n (fun c => ?_) fun c => s_next ?_
      · tm_at "go"
        refine ⟨_, ent, q2 ?_⟩
        rintro ⟨w', rest', e, h1, _⟩
        cases e
        rw [ht] at h1
        cases h1
        exact c (by rw [show ((rest.length + 1 : Nat) : Int) = 1 + (rest.length : Int) by omega])
      · have em : m = (rest.length : Int) := by have := V.int.inj c; omega
        subst em
        refine s_seq ?_
        refine s_asg ?_
        refine e_lcL ?_
        tm_at "go"
        refine ⟨1, rfl, o_none ?_⟩
        refine r_slL (Has.sq has_hd) fun c => ?_
        have ecut : cutV ((w :: rest).map V.str) (some 1) none = rest.map V.str := cut_from (k := 1)
        rw [ecut]
        refine ⟨c, rest.map V.str, rfl, Has.sq has_hd, fun _ => rfl, fun i acc L' => acc = (rest.take i).map numV ∧ L' = pt c (.lst (rest.map V.str)) :: pt p (.lst ((w :: rest).map V.str)) :: pt dc (.lst countsV) :: pt dw (.lst wordsV) :: L, ⟨rfl, rfl⟩, ?_, ?_, ?_⟩
        · rintro i acc L' hi ⟨rfl, rfl⟩
          exact Has.sq has_hd
        · rintro i x acc L' D hx ⟨rfl, rfl⟩
          obtain ⟨y, hy, rfl⟩ := map_get hx
          have hym := List.mem_of_getElem? hy
          refine t_yes ⟨fun _ => ?_, (fun z => nomatch z)⟩
          tm_at "go"
          refine ⟨_, Ent.refl _, _, rfl, y, rfl, hpl y (List.mem_cons_of_mem _ hym), fun hn => ?_, fun hn => ?_⟩
          · exact ⟨_, Ent.refl _, small5 (by rw [List.length_map, List.length_take]; omega), by rw [take_snoc hy, List.map_append, show [y].map numV = [nV (valS y)] by show [numV y] = _; unfold numV; rw [if_pos hn]], rfl⟩
          · exact ⟨_, Ent.refl _, small5 (by rw [List.length_map, List.length_take]; omega), by rw [take_snoc hy, List.map_append, show [y].map numV = [.non] by show [numV y] = _; unfold numV; rw [if_neg hn]], rfl⟩
        · rintro acc L' D ⟨rfl, rfl⟩
          rw [List.length_map, List.take_length]
          refine s_seq ?_
          refine s_if (t_test ?_)
          tm_at "go"
          refine r_inL (xs := rest.map numV) (Has.sq has_hd) rfl (numV_flat rest) ?_
          rw [if_neg Bool.false_ne_true]
          rcases numV_in rest with ⟨e1, y, hy, hn⟩ | ⟨e1, hall⟩
          · rw [e1]
            refine ⟨true, rfl, both_t ?_⟩
            tm_at "go"
            refine ⟨_, Ent.drop.trans (Ent.drop.trans ent), q2 ?_⟩
            rintro ⟨w', rest', e, _, h1⟩
            cases e
            exact hn (h1 y hy)
          · rw [e1]
            refine ⟨false, rfl, both_f (s_next ?_)⟩
            rw [numV_all hall]
            tm_at "go"
            refine r_ixL (Has.sq (has_tl (has_tl has_hd))) (atI_nat (j := 0) rfl) ?_
            tm_at "go"
            refine ⟨by show 2 ≤ sizeLine; decide, fun t => ?_⟩
            exact ⟨_, Ent.cons (Ent.cons (Ent.drop.trans ent)), q1 w rest rfl ht hall t D⟩
end
/-! law_k03_read: the lines that are read. -/
open TL
def P_law_sign_by (K : PySem.W.Frag) (A : Ex) : Pm := pm1 fun x L Q _ => ∃ i : Int, x = .int i ∧ ∀ c : Nat, Q (.str ⟨#[c]⟩) L
def N_law_sign_by : List Str := ["_law_cell", "_law_some"]
def t_law_sign_by (K : PySem.W.Frag) (A : Ex) (E : XK) : TS :=
    (tSeq (tAsg (tC (.str " !\"#$&'()*+,-./0123456789:;<=>?@ABCDEFGHIJKLMNOPQRSTUVWXYZ[\\]^_`")) (gName 1))
    (tSeq (tAsg (tOp rAddStr (tVar 1) (tC (.str "abcdefghijklmnopqrstuvwxyz{|}~\n\t"))) (gName 1))
    (tRet (tOp rIxS (tVar 1) (tOp rModI (tVar 0) (tC (.int 96)))))))
def P_law_odd (K : PySem.W.Frag) (A : Ex) : Pm := pm1 fun x L Q _ => ∃ i : Int, x = .int i ∧ ∀ z : Str, z.length ≤ 100 → Q (.str z) L
def N_law_odd : List Str := ["_law_cell", "_law_odd_here"]
def t_law_odd (K : PySem.W.Frag) (A : Ex) (E : XK) : TS :=
    (tSeq (tAsg (tLst (tCons (tC (.str "")) (tCons (tC (.str " ")) (tCons (tC (.str "make")) (tCons (tC (.str "make 1")) (tCons (tC (.str "make 1 2 3")) (tCons (tC (.str "Make 1 2")) (tCons (tC (.str "make  1 2")) (tCons (tC (.str " drop 1")) (tCons (tC (.str "drop 1 ")) (tCons (tC (.str "drop")) tNil))))))))))) (gName 1))
    (tSeq (tAsg (tOp rCat (tVar 1) (tLst (tCons (tC (.str "drop 01")) (tCons (tC (.str "drop -1")) (tCons (tC (.str "drop +1")) (tCons (tC (.str "drop 1.0")) (tCons (tC (.str "work 1_0")) (tCons (tC (.str "work1")) (tCons (tC (.str "take 1 2")) (tCons (tC (.str "put 0 0")) tNil)))))))))) (gName 1))
    (tSeq (tAsg (tOp rCat (tVar 1) (tLst (tCons (tC (.str "share 0")) (tCons (tC (.str "hold 1")) (tCons (tC (.str "work 00")) (tCons (tC (.str "drop 1 1")) tNil)))))) (gName 1))
    (tRet (tOp (rIxL K) (tVar 1) (tOp rModI (tVar 0) (tCB (rLen K) (tCons (tVar 1) tNil))))))))
def P_law_line (K : PySem.W.Frag) (A : Ex) : Pm := pm1 fun x L Q _ => ∃ (a : Addr) (ns : List Int), x = .ref a ∧ SqA K L a (ns.map V.int) ∧ ∀ z : Str, 1 ≤ z.length → z.length ≤ 300 → Q (.str z) L
def N_law_line : List Str := ["_law_script", "_law_words", "_law_counts", "_law_which", "_law_line_here", "_law_k"]
def t_law_line (K : PySem.W.Frag) (A : Ex) (E : XK) : TS :=
    (tSeq (tAsg (tLst (tCons (tC (.str "make")) (tCons (tC (.str "take")) (tCons (tC (.str "put")) (tCons (tC (.str "share")) (tCons (tC (.str "drop")) (tCons (tC (.str "work")) tNil))))))) (gName 1))
    (tSeq (tAsg (tLst (tCons (tC (.int 2)) (tCons (tC (.int 3)) (tCons (tC (.int 3)) (tCons (tC (.int 2)) (tCons (tC (.int 1)) (tCons (tC (.int 1)) tNil))))))) (gName 2))
    (tSeq (tAsg (tOp rModI (tCall (lift (P_law_cell_at K A)) [] E0 (tCons (tVar 0) (tCons (tC (.int 1)) tNil))) (tC (.int 6))) (gName 3))
    (tSeq (tAsg (tOp (rIxL K) (tVar 1) (tVar 3)) (gName 4))
    (tSeq (tFor (iRng1 (tCons (tOp (rIxL K) (tVar 2) (tVar 3)) tNil)) (gName 5)
      (tAsg (tOp rAddStr (tOp rAddStr (tVar 4) (tC (.str " "))) (tCB rStrI (tCons (tOp rModI (tCall (lift (P_law_cell_at K A)) [] E0 (tCons (tVar 0) (tCons (tOp rAddI (tC (.int 2)) (tVar 5)) tNil))) (tC (.int 1200))) tNil))) (gName 4)))
    (tRet (tVar 4)))))))
def P_law_built (K : PySem.W.Frag) (A : Ex) : Pm := pm1 fun x L Q _ => ∃ (a : Addr) (ns : List Int), x = .ref a ∧ SqA K L a (ns.map V.int) ∧ ∀ z : Str, z.length ≤ 1000 → Q (.str z) L
def N_law_built : List Str := ["_law_script", "_law_kind", "_law_cell", "_law_line_here", "_law_at"]
def t_law_built (K : PySem.W.Frag) (A : Ex) (E : XK) : TS :=
    (tSeq (tAsg (tOp rModI (tCall (lift (P_law_cell_at K A)) [] E0 (tCons (tVar 0) (tCons (tC (.int 0)) tNil))) (tC (.int 5))) (gName 1))
    (tSeq (tAsg (tCall (lift (P_law_cell_at K A)) [] E0 (tCons (tVar 0) (tCons (tC (.int 5)) tNil))) (gName 2))
    (tSeq (tAsg (tCall (lift (P_law_line K A)) [] E0 (tCons (tVar 0) tNil)) (gName 3))
    (tSeq (tIfS (tTest (tOp rEq (tVar 1) (tC (.int 1)))) (tSeq (tAsg (tOp rModI (tVar 2) (tOp rAddI (tCB rLenS (tCons (tVar 3) tNil)) (tC (.int 1)))) (gName 4))
    (tSeq (tIfS (tTest (tOp rEq (tOp rModI (tCall (lift (P_law_cell_at K A)) [] E0 (tCons (tVar 0) (tCons (tC (.int 6)) tNil))) (tC (.int 5))) (tC (.int 0)))) (tRet (tOp rAddStr (tOp rAddStr (tSl rSlS (tVar 3) tNoPart (tPart (tVar 4))) (tOp rIxS (tC (.str "\n\t")) (tOp rModI (tOp rDivI (tCall (lift (P_law_cell_at K A)) [] E0 (tCons (tVar 0) (tCons (tC (.int 6)) tNil))) (tC (.int 5))) (tC (.int 2))))) (tSl rSlS (tVar 3) (tPart (tVar 4)) tNoPart))) tNext)
    (tRet (tOp rAddStr (tOp rAddStr (tSl rSlS (tVar 3) tNoPart (tPart (tVar 4))) (tCall (lift (P_law_sign_by K A)) [] E0 (tCons (tCall (lift (P_law_cell_at K A)) [] E0 (tCons (tVar 0) (tCons (tC (.int 6)) tNil))) tNil))) (tSl rSlS (tVar 3) (tPart (tVar 4)) tNoPart))))) tNext)
    (tSeq (tIfS (tTest (tOp rEq (tVar 1) (tC (.int 2)))) (tSeq (tAsg (tOp rModI (tVar 2) (tCB rLenS (tCons (tVar 3) tNil))) (gName 4))
    (tRet (tOp rAddStr (tSl rSlS (tVar 3) tNoPart (tPart (tVar 4))) (tSl rSlS (tVar 3) (tPart (tOp rAddI (tVar 4) (tC (.int 1)))) tNoPart)))) tNext)
    (tSeq (tIfS (tTest (tOp rEq (tVar 1) (tC (.int 3)))) (tRet (tCall (lift (P_law_odd K A)) [] E0 (tCons (tVar 2) tNil))) tNext)
    (tSeq (tIfS (tTest (tOp rEq (tVar 1) (tC (.int 4)))) (tRet (tOp rAddStr (tOp rAddStr (tC (.str "work ")) (tOp rIxS (tC (.str "123456789")) (tOp rModI (tVar 2) (tC (.int 9))))) (tOp rMulS (tC (.str "7")) (tOp rAddI (tC (.int 58)) (tOp rModI (tCall (lift (P_law_cell_at K A)) [] E0 (tCons (tVar 0) (tCons (tC (.int 6)) tNil))) (tC (.int 4))))))) tNext)
    (tRet (tVar 3)))))))))
section
variable {K : PySem.W.Frag} {A : Ex} {E : XK} {vs : List V} {L : AL} {Q : V → AL → Prop} {Ea : Value → AL → Prop}
theorem r_slS {z : Str} {lo hi : Option Int} (hz : z.length ≤ sizeLine) (q : ∀ u : Str, u.length ≤ z.length → Q (.str u) L) : RE (rSlS (.str z) lo hi) L Q := fun H s Qh k => ⟨z, rfl, hz, k _ _ _ s (q _ (cutS_length z lo hi))⟩
/-- a text of signs at a place -/
theorem at_txt (l : List Nat) (n : Nat) (hn : n ≤ l.length) (h0 : 0 < n) (i : Int) : ∃ c, atI l (i % (n : Int)) = some c := by
  have a := Int.emod_lt_of_pos i (show (0 : Int) < n by omega)
  have b := Int.emod_nonneg i (show (n : Int) ≠ 0 by omega)
  have e : i % (n : Int) = (((i % (n : Int)).toNat : Nat) : Int) := by omega
  rw [e]
  have hlt : (i % (n : Int)).toNat < l.length := by omega
  exact ⟨l[(i % (n : Int)).toNat], atI_nat (List.getElem?_eq_getElem hlt)⟩
def shortV : V → Bool
  | .str z => decide (z.length ≤ 100)
  | _ => false
theorem at_str (xs : List V) (h : xs.all shortV = true) (n : Nat) (hn : xs.length = n) (h0 : 0 < n) (i : Int) : ∃ z, atI xs (i % (n : Int)) = some (.str z) ∧ z.length ≤ 100 := by
  have a := Int.emod_lt_of_pos i (show (0 : Int) < n by omega)
  have b := Int.emod_nonneg i (show (n : Int) ≠ 0 by omega)
  have e : i % (n : Int) = (((i % (n : Int)).toNat : Nat) : Int) := by omega
  rw [e]
  have hlt : (i % (n : Int)).toNat < xs.length := by omega
  have hv := List.all_eq_true.mp h xs[(i % (n : Int)).toNat] (List.getElem_mem hlt)
  have hg := List.getElem?_eq_getElem hlt
  generalize xs[(i % (n : Int)).toNat] = v at hv hg
  cases v with
  | str z => exact ⟨z, atI_nat hg, of_decide_eq_true hv⟩
  | _ => cases hv
theorem six6 : ∀ i : Nat, i < 6 → ∃ (w : Str) (n : Nat), wordsV[i]? = some (.str w) ∧ countsV[i]? = some (nV n) ∧ w.length ≤ 5 ∧ 1 ≤ w.length ∧ n ≤ 3 := fun i hi => by
  match i, hi with
  | 0, _ => exact ⟨"make", 2, rfl, rfl, by decide +kernel, by decide +kernel, by decide⟩
  | 1, _ => exact ⟨"take", 3, rfl, rfl, by decide +kernel, by decide +kernel, by decide⟩
  | 2, _ => exact ⟨"put", 3, rfl, rfl, by decide +kernel, by decide +kernel, by decide⟩
  | 3, _ => exact ⟨"share", 2, rfl, rfl, by decide +kernel, by decide +kernel, by decide⟩
  | 4, _ => exact ⟨"drop", 1, rfl, rfl, by decide +kernel, by decide +kernel, by decide⟩
  | 5, _ => exact ⟨"work", 1, rfl, rfl, by decide +kernel, by decide +kernel, by decide⟩
theorem p_law_sign_by (he : ELe Ea E) (h : P_law_sign_by K A vs L Q Ea) : SS (t_law_sign_by K A E) { nx := fun _ L => Q .non L, rt := Q } (start N_law_sign_by vs) L := by
  obtain ⟨_, rfl, i, rfl, q⟩ := h
  unfold t_law_sign_by
  tm_at "gn"
  refine r_addS (by decide +kernel) ?_
  tm_at "gn"
  obtain ⟨c, hc⟩ := at_txt (Str.cps ((" !\"#$&'()*+,-./0123456789:;<=>?@ABCDEFGHIJKLMNOPQRSTUVWXYZ[\\]^_`" : Str) ++ ("abcdefghijklmnopqrstuvwxyz{|}~\n\t" : Str))).toList 96 (by decide +kernel) (by decide) i
  exact r_ixS (by decide +kernel) hc (q c)
theorem p_law_odd (he : ELe Ea E) (h : P_law_odd K A vs L Q Ea) : SS (t_law_odd K A E) { nx := fun _ L => Q .non L, rt := Q } (start N_law_odd vs) L := by
  obtain ⟨_, rfl, i, rfl, q⟩ := h
  unfold t_law_odd
  refine s_postC ?_
  tm_at "gn"
  refine ⟨by show 10 ≤ sizeLine; decide, fun p1 => ?_⟩
  tm_at "gn"
  refine ⟨by show 8 ≤ sizeLine; decide, fun p2 => ?_⟩
  refine r_cat (has_tl has_hd) has_hd (by show 18 ≤ sizeLine; decide) fun p3 => ?_
  tm_at "gn"
  refine ⟨by show 4 ≤ sizeLine; decide, fun p4 => ?_⟩
  refine r_cat (has_tl has_hd) has_hd (by show 22 ≤ sizeLine; decide) fun p5 => ?_
  tm_at "gn"
  obtain ⟨z, hz, hzl⟩ := at_str _ (by decide +kernel : (([V.str "", .str " ", .str "make", .str "make 1", .str "make 1 2 3", .str "Make 1 2", .str "make  1 2", .str " drop 1", .str "drop 1 ", .str "drop"] ++ [V.str "drop 01", .str "drop -1", .str "drop +1", .str "drop 1.0", .str "work 1_0", .str "work1", .str "take 1 2", .str "put 0 0"]) ++ [V.str "share 0", .str "hold 1", .str "work 00", .str "drop 1 1"]).all shortV = true) 22 rfl (by decide) i
  refine r_ixL (Has.sq has_hd) hz ?_
  exact ⟨_, Ent.drop.trans (Ent.drop.trans (Ent.drop.trans (Ent.drop.trans Ent.drop))), q z hzl⟩
theorem p_law_line (he : ELe Ea E) (h : P_law_line K A vs L Q Ea) : SS (t_law_line K A E) { nx := fun _ L => Q .non L, rt := Q } (start N_law_line vs) L := by
  obtain ⟨_, rfl, a, ns, rfl, ha, q⟩ := h
  unfold t_law_line
  refine s_postC ?_
  tm_at "gn"
  refine ⟨by show 6 ≤ sizeLine; decide, fun dw => ?_⟩
  tm_at "gn"
  refine ⟨by show 6 ≤ sizeLine; decide, fun dc => ?_⟩
  tm_at "gn"
  first | refine do_cell (k := 1) (sq_tl (sq_tl ha)) (by decide) ?_ | skip
  tm_at "gn"
  rw [show cell ns 1 % 6 = ((cell ns 1 % 6).toNat : Int) by omega]
  obtain ⟨w, n, hw, hn, hwl, hw1, hn3⟩ := six6 (cell ns 1 % 6).toNat (by omega)
  generalize (cell ns 1 % 6).toNat = wi at hw hn ⊢
  refine r_ixL (xs := wordsV) (Has.sq (has_tl has_hd)) (atI_nat hw) ?_
  refine s_seq ?_
  refine s_forR1 ?_
  tm_at "go"
  refine r_ixL (xs := countsV) (Has.sq has_hd) (atI_nat hn) ?_
  refine a_nil ?_
  refine ⟨(n : Int), rfl, by omega, by omega, fun i σ L' => ∃ (z : Str) (v5 : Option V), 1 ≤ z.length ∧ z.length ≤ 5 + 70 * i ∧ i ≤ 3 ∧ σ = [some (.ref a), some (.ref dw), some (.ref dc), some (nV wi), some (.str z), v5] ∧ L' = pt dc (.lst countsV) :: pt dw (.lst wordsV) :: L, ⟨w, _, hw1, by omega, by decide, rfl, rfl⟩, ?_, ?_⟩
  · rintro i σ L' hi ⟨z, v5, h1, h2, h3, rfl, rfl⟩
    tm_at "gn"
    refine r_addS (small6 (by have h1 : (" " : Str).length = 1 := by decide +kernel
                              omega)) ?_
    tm_at "gn"
    first | refine do_cell (k := 2 + (i : Int)) (sq_tl (sq_tl ha)) (by omega) ?_ | skip
    tm_at "gn"
    have e1 : cell ns (2 + (i : Int)) % 1200 = ((cell ns (2 + (i : Int)) % 1200).toNat : Int) := by omega
    have e2 : (cell ns (2 + (i : Int)) % 1200).toNat < 1200 := by omega
    rw [e1]
    generalize (cell ns (2 + (i : Int)) % 1200).toNat = y at e2 ⊢
    have hyl := nS_len (n := y) (Nat.lt_trans e2 (by decide +kernel))
    refine c_strI ?_ ?_
    · show y.log2 < 1920
      by_cases h0 : y = 0
      · subst h0; decide
      · rw [Nat.log2_lt h0]
        exact Nat.lt_trans e2 (by decide +kernel)
    have h1s : (" " : Str).length = 1 := by decide +kernel
    have hyl' : (Str.ofString (toString (y : Int))).length ≤ 60 := hyl
    refine r_addS (small6 (by rw [len_app]; show z.length + (" " : Str).length + (Str.ofString (toString (y : Int))).length ≤ 200000; omega)) ?_
    refine ⟨z ++ (" " : Str) ++ nS y, _, ?_, ?_, by omega, rfl, rfl⟩
    · rw [len_app, len_app]; omega
    · rw [len_app, len_app]; omega
  · rintro σ L' ⟨z, v5, h1, h2, h3, rfl, rfl⟩
    tm_at "go"
    exact ⟨_, Ent.drop.trans Ent.drop, q z h1 (by rw [Int.toNat_natCast] at h2; omega)⟩
theorem do_line {a : Addr} {ns : List Int} (ha : SqA K L a (ns.map V.int)) (q : ∀ z : Str, 1 ≤ z.length → z.length ≤ 300 → Q (.str z) L) : ∃ L2, Ent L L2 ∧ P_law_line K A [.ref a] L2 Q Ea := ⟨_, Ent.refl _, _, rfl, a, ns, rfl, ha, q⟩
theorem do_odd {i : Int} (q : ∀ z : Str, z.length ≤ 100 → Q (.str z) L) : ∃ L2, Ent L L2 ∧ P_law_odd K A [.int i] L2 Q Ea := ⟨_, Ent.refl _, _, rfl, i, rfl, q⟩
theorem do_sign {i : Int} (q : ∀ c : Nat, Q (.str ⟨#[c]⟩) L) : ∃ L2, Ent L L2 ∧ P_law_sign_by K A [.int i] L2 Q Ea := ⟨_, Ent.refl _, _, rfl, i, rfl, q⟩
theorem p_law_built (he : ELe Ea E) (h : P_law_built K A vs L Q Ea) : SS (t_law_built K A E) { nx := fun _ L => Q .non L, rt := Q } (start N_law_built vs) L := by
  obtain ⟨_, rfl, a, ns, rfl, ha, q⟩ := h
  have sm : ∀ {n : Nat}, n ≤ 1000 → n ≤ sizeLine := fun h => small6 (by omega)
  unfold t_law_built
  tm_at "gn"
  refine do_line ha fun z h1 h2 => ?_
  tm_at "gn"
  refine s_if (t_test ?_)
  tm_at "go"
  refine ex_c (fun _ => ?_) fun _ => s_next ?_
  · tm_at "gn"
    refine c_lenS (sm (by omega)) ?_
    tm_at "gn"
    refine s_if (t_test ?_)
    tm_at "go"
    refine ex_c (fun _ => ?_) fun _ => s_next ?_
    · tm_at "go"
      refine ⟨_, rfl, ?_⟩
      refine r_slS (z := z) (sm (by omega)) fun u hu => ?_
      tm_at "go"
      obtain ⟨c, hc⟩ := at_txt (Str.cps ("\n\t" : Str)).toList 2 (by decide +kernel) (by decide) (cell ns 6 / 5)
      refine r_ixS (by decide +kernel) hc ?_
      refine r_addS (sm (by show u.length + 1 ≤ 1000; omega)) ?_
      tm_at "go"
      refine ⟨_, rfl, o_none ?_⟩
      refine r_slS (z := z) (sm (by omega)) fun u2 hu2 => ?_
      have e : (u ++ (⟨#[c]⟩ : Str)).length = u.length + 1 := by rw [len_app]; rfl
      refine r_addS (x := u ++ (⟨#[c]⟩ : Str)) (y := u2) (sm (by omega)) ?_
      exact q (u ++ (⟨#[c]⟩ : Str) ++ u2) (by rw [len_app]; omega)
    · tm_at "go"
      refine ⟨_, rfl, ?_⟩
      refine r_slS (z := z) (sm (by omega)) fun u hu => ?_
      tm_at "go"
      refine do_sign fun c => ?_
      refine r_addS (sm (by show u.length + 1 ≤ 1000; omega)) ?_
      tm_at "go"
      refine ⟨_, rfl, o_none ?_⟩
      refine r_slS (z := z) (sm (by omega)) fun u2 hu2 => ?_
      have e : (u ++ (⟨#[c]⟩ : Str)).length = u.length + 1 := by rw [len_app]; rfl
      refine r_addS (x := u ++ (⟨#[c]⟩ : Str)) (y := u2) (sm (by omega)) ?_
      exact q (u ++ (⟨#[c]⟩ : Str) ++ u2) (by rw [len_app]; omega)
  · refine s_seq ?_
    refine s_if (t_test ?_)
    tm_at "go"
    refine ex_c (fun _ => ?_) fun _ => s_next ?_
    · tm_at "gn"
      refine c_lenS (sm (by omega)) ?_
      tm_at "gn"
      refine ⟨_, rfl, ?_⟩
      refine r_slS (z := z) (sm (by omega)) fun u hu => ?_
      tm_at "gn"
      refine ⟨_, rfl, o_none ?_⟩
      refine r_slS (z := z) (sm (by omega)) fun u2 hu2 => ?_
      refine r_addS (x := u) (y := u2) (sm (by omega)) ?_
      exact q (u ++ u2) (by rw [len_app]; omega)
    · refine s_seq ?_
      refine s_if (t_test ?_)
      tm_at "go"
      refine ex_c (fun _ => ?_) fun _ => s_next ?_
      · tm_at "go"
        exact do_odd fun z h => q z (by omega)
      · refine s_seq ?_
        refine s_if (t_test ?_)
        tm_at "go"
        refine ex_c (fun _ => ?_) fun _ => s_next ?_
        · tm_at "go"
          obtain ⟨c, hc⟩ := at_txt (Str.cps ("123456789" : Str)).toList 9 (by decide +kernel) (by decide) (cell ns 5)
          refine r_ixS (by decide +kernel) hc ?_
          have h5 : ("work " : Str).length = 5 := by decide +kernel
          refine r_addS (sm (by rw [h5]; show 5 + 1 ≤ 1000; decide)) ?_
          tm_at "go"
          refine r_mulS (by omega) (by omega) (by decide +kernel) fun u hu => ?_
          have e : (("work " : Str) ++ (⟨#[c]⟩ : Str)).length = 6 := by rw [len_app, h5]; rfl
          have hu2 : u.length ≤ 100 := by rw [hu]; omega
          refine r_addS (x := ("work " : Str) ++ (⟨#[c]⟩ : Str)) (y := u) (sm (by omega)) ?_
          exact q (("work " : Str) ++ (⟨#[c]⟩ : Str) ++ u) (by rw [len_app]; omega)
        · tm_at "go"
          exact q z (by omega)
end
/-! law_k03_read, walked. -/
open TL
def N_law : List Str := ["_law_script", "_law_line_here", "_law_due_here", "e", "_law_found", "_law_others"]
def t_law (K : PySem.W.Frag) (A : Ex) (E : XK) : TS :=
    (tSeq (tAsg (tCall (lift (P_law_built K A)) [] E0 (tCons (tVar 0) tNil)) (gName 1))
    (tSeq (tAsg (tCall (lift (P_law_due K A)) [] E0 (tCons (tVar 1) tNil)) (gName 2))
    (tSeq (tTryA K (.ref A.HeapError) 3 [A.NoDeed] (fun Cx ax => (tSeq (tAsg (tLst (tCons (tCB (rIsE K Cx ax) (tCons (tVar 3) (tCons (tC (.ref A.NoHand)) tNil))) (tCons (tCB (rIsE K Cx ax) (tCons (tVar 3) (tCons (tC (.ref A.NoSlot)) tNil))) (tCons (tCB (rIsE K Cx ax) (tCons (tVar 3) (tCons (tC (.ref A.NoRoom)) tNil))) (tCons (tCB (rIsE K Cx ax) (tCons (tVar 3) (tCons (tC (.ref A.NothingHeld)) tNil))) tNil))))) (gName 5))
    (tSeq (tAsg (tOp rCat (tVar 5) (tLst (tCons (tCB (rIsE K Cx ax) (tCons (tVar 3) (tCons (tC (.ref A.NoBox)) tNil))) (tCons (tCB (rIsE K Cx ax) (tCons (tVar 3) (tCons (tC (.ref A.NoWork)) tNil))) (tCons (tCB (rIsE K Cx ax) (tCons (tVar 3) (tCons (tC (.ref A.NoHeap)) tNil))) tNil))))) (gName 5))
    (tRet (tAndV (tOp rIsNo (tVar 2) (tC .non)) (tAndV (tCB (rIsE K Cx ax) (tCons (tVar 3) (tCons (tC (.ref A.NoDeed)) tNil))) (tAndV (tCB (rIsE K Cx ax) (tCons (tVar 3) (tCons (tC (.ty "ValueError")) tNil))) (tNotV (tCB (rAny K) (tCons (tVar 5) tNil)))))))))) (fun W => (tAsg (tCallS (lift (P_read K A)) (WE W) (tCons (tVar 1) tNil)) (gName 4))))
    (tSeq (tIfS (tOr (tTest (tOp rIsNo (tVar 2) (tC .non))) (tOr (tNot (tB (tCB (rIsi K) (tCons (tVar 4) (tCons (tC (.ty "tuple")) tNil))))) (tTest (tOp rNe (tCB (rLen K) (tCons (tVar 4) tNil)) (tOp rAddI (tC (.int 1)) (tCB (rLen K) (tCons (tOp (rIxT K) (tVar 2) (tC (.int 1))) tNil))))))) (tRet (tC (.bl false))) tNext)
    (tRet (tAndV (tCB (rIsi K) (tCons (tOp (rIxT K) (tVar 4) (tC (.int 0))) (tCons (tC (.ty "str")) tNil))) (tAndV (tOp rEq (tOp (rIxT K) (tVar 4) (tC (.int 0))) (tOp (rIxT K) (tVar 2) (tC (.int 0)))) (tCall (lift (P_law_numbers K A)) [] E0 (tCons (tCB (rListOf K) (tCons (tSl (rSlT K) (tVar 4) (tPart (tC (.int 1))) tNoPart) tNil)) (tCons (tOp (rIxT K) (tVar 2) (tC (.int 1))) tNil))))))))))
section
variable {K : PySem.W.Frag} {A : Ex} {E : XK} {vs : List V} {L : AL} {Q : V → AL → Prop} {Ea : Value → AL → Prop}
abbrev suite3 (K : PySem.W.Frag) (A : Ex) : Addr → Addr → TS := fun Cx ax => (tSeq (tAsg (tLst (tCons (tCB (rIsE K Cx ax) (tCons (tVar 3) (tCons (tC (.ref A.NoHand)) tNil))) (tCons (tCB (rIsE K Cx ax) (tCons (tVar 3) (tCons (tC (.ref A.NoSlot)) tNil))) (tCons (tCB (rIsE K Cx ax) (tCons (tVar 3) (tCons (tC (.ref A.NoRoom)) tNil))) (tCons (tCB (rIsE K Cx ax) (tCons (tVar 3) (tCons (tC (.ref A.NothingHeld)) tNil))) tNil))))) (gName 5))
    (tSeq (tAsg (tOp rCat (tVar 5) (tLst (tCons (tCB (rIsE K Cx ax) (tCons (tVar 3) (tCons (tC (.ref A.NoBox)) tNil))) (tCons (tCB (rIsE K Cx ax) (tCons (tVar 3) (tCons (tC (.ref A.NoWork)) tNil))) (tCons (tCB (rIsE K Cx ax) (tCons (tVar 3) (tCons (tC (.ref A.NoHeap)) tNil))) tNil))))) (gName 5))
    (tRet (tAndV (tOp rIsNo (tVar 2) (tC .non)) (tAndV (tCB (rIsE K Cx ax) (tCons (tVar 3) (tCons (tC (.ref A.NoDeed)) tNil))) (tAndV (tCB (rIsE K Cx ax) (tCons (tVar 3) (tCons (tC (.ty "ValueError")) tNil))) (tNotV (tCB (rAny K) (tCons (tVar 5) tNil)))))))))
theorem suite3_ok {D : EA} {σ : L2.St} {a : Addr} {v0 v1 v4 v5 : Option V} (k1 : PySem.W.kitOne K (.ref A.NoDeed) (.ref A.NoHand) = some false) (k2 : PySem.W.kitOne K (.ref A.NoDeed) (.ref A.NoSlot) = some false) (k3 : PySem.W.kitOne K (.ref A.NoDeed) (.ref A.NoRoom) = some false) (k4 : PySem.W.kitOne K (.ref A.NoDeed) (.ref A.NothingHeld) = some false)
    (k5 : PySem.W.kitOne K (.ref A.NoDeed) (.ref A.NoDeed) = some true) (k6 : PySem.W.kitOne K (.ref A.NoDeed) (.ref A.NoBox) = some false) (k7 : PySem.W.kitOne K (.ref A.NoDeed) (.ref A.NoWork) = some false) (k8 : PySem.W.kitOne K (.ref A.NoDeed) (.ref A.NoHeap) = some false) (k9 : PySem.W.kitOne K (.ref A.NoDeed) (.type "ValueError") = some true)
    (hσ : σ = [v0, v1, some .non, some (.ref a), v4, v5]) (q : ∀ L, D.rt (.bl true) L) : SS (suite3 K A A.NoDeed a) D σ L := by
  subst hσ
  refine s_seq ?_
  refine s_asg ?_
  refine e_lst ?_
  refine a_cons (e_cb (a_cons (e_var rfl (a_cons (e_c (a_nil (c_isE k1 ?_)))))))
  refine a_cons (e_cb (a_cons (e_var rfl (a_cons (e_c (a_nil (c_isE k2 ?_)))))))
  refine a_cons (e_cb (a_cons (e_var rfl (a_cons (e_c (a_nil (c_isE k3 ?_)))))))
  refine a_cons (e_cb (a_cons (e_var rfl (a_cons (e_c (a_nil (c_isE k4 ?_)))))))
  refine a_nil ⟨by show 4 ≤ sizeLine; decide, fun l1 => ?_⟩
  refine s_seq ?_
  refine s_asg ?_
  refine e_op (e_var rfl (e_lst ?_))
  refine a_cons (e_cb (a_cons (e_var rfl (a_cons (e_c (a_nil (c_isE k6 ?_)))))))
  refine a_cons (e_cb (a_cons (e_var rfl (a_cons (e_c (a_nil (c_isE k7 ?_)))))))
  refine a_cons (e_cb (a_cons (e_var rfl (a_cons (e_c (a_nil (c_isE k8 ?_)))))))
  refine a_nil ⟨by show 3 ≤ sizeLine; decide, fun l2 => ?_⟩
  refine r_cat (has_tl has_hd) has_hd (by show 7 ≤ sizeLine; decide) fun l3 => ?_
  refine s_ret ?_
  refine e_andV (e_op (e_var rfl (e_c (r_isNo ⟨true, rfl, both_t ?_⟩))))
  refine e_andV (e_cb (a_cons (e_var rfl (a_cons (e_c (a_nil (c_isE k5 ⟨true, rfl, both_t ?_⟩)))))))
  refine e_andV (e_cb (a_cons (e_var rfl (a_cons (e_c (a_nil (c_isEV k9 ⟨true, rfl, both_t ?_⟩)))))))
  refine e_notV (e_cb (a_cons (e_var rfl (a_nil ?_))))
  refine c_any (bs := [false, false, false, false, false, false, false]) (Has.sq has_hd) ?_
  exact ⟨false, rfl, q _⟩
theorem p_law (em : PySem.W.exmOne K (.ref A.NoDeed) (.ref A.HeapError) = some true)
    (k1 : PySem.W.kitOne K (.ref A.NoDeed) (.ref A.NoHand) = some false) (k2 : PySem.W.kitOne K (.ref A.NoDeed) (.ref A.NoSlot) = some false) (k3 : PySem.W.kitOne K (.ref A.NoDeed) (.ref A.NoRoom) = some false) (k4 : PySem.W.kitOne K (.ref A.NoDeed) (.ref A.NothingHeld) = some false)
    (k5 : PySem.W.kitOne K (.ref A.NoDeed) (.ref A.NoDeed) = some true) (k9 : PySem.W.kitOne K (.ref A.NoDeed) (.type "ValueError") = some true) (k6 : PySem.W.kitOne K (.ref A.NoDeed) (.ref A.NoBox) = some false) (k7 : PySem.W.kitOne K (.ref A.NoDeed) (.ref A.NoWork) = some false) (k8 : PySem.W.kitOne K (.ref A.NoDeed) (.ref A.NoHeap) = some false)
    (he : ELe Ea E) (h : P_law K A vs L Q Ea) : SS (t_law K A E) { nx := fun _ L => Q .non L, rt := Q } (start N_law vs) L := by
  obtain ⟨_, rfl, a, ms, rfl, rfl, hl, q⟩ := h
  unfold t_law
  refine s_seq ?_
  refine s_asg (e_call (a_cons (e_var rfl (a_nil ?_))))
  refine ⟨_, Ent.refl _, _, rfl, a, ms, rfl, scr_hd, fun z hz => ?_⟩
  refine s_seq ?_
  refine s_asg (e_call (a_cons (e_var rfl (a_nil ?_))))
  by_cases g : GoodP (parts z)
  · obtain ⟨w, rest, ep, ht, hall⟩ := g
    have hcnt := parts_count z
    rw [ep, List.length_cons] at hcnt
    refine ⟨_, Ent.refl _, _, rfl, z, rfl, by omega, fun w' rest' ep' _ _ t d => ?_, fun n => absurd ⟨w, rest, ep, ht, hall⟩ n⟩
    rw [ep] at ep'
    cases ep'
    refine s_seq ?_
    refine s_tryA fun W hW => ?_
    refine s_asg (e_callW hW (a_cons (e_var rfl (a_nil ?_))))
    refine ⟨_, Ent.refl _, _, rfl, z, rfl, by omega, fun w' rest' ep' _ _ t2 => ?_, fun n => absurd ⟨w, rest, ep, ht, hall⟩ n⟩
    rw [ep] at ep'
    cases ep'
    have hml : (rest.map fun p => nV (valS p)).length = rest.length := List.length_map _
    have enum : (rest.map fun p => nV (valS p)) = (rest.map valS).map nV := by rw [List.map_map]; rfl
    refine s_seq ?_
    refine s_if (t_or (t_test ?_))
    tm_at "go"
    refine ⟨false, rfl, both_f ?_⟩
    refine t_or (t_not (t_B ?_))
    tm_at "go"
    refine isi_tup has_hd ?_
    refine ⟨true, rfl, both_f ?_⟩
    refine t_test ?_
    tm_at "go"
    refine c_lenT (Has.tq has_hd) ?_
    tm_at "go"
    refine r_ixT (Has.tq (has_tl has_hd)) (atI_nat (j := 1) rfl) ?_
    tm_at "go"
    rw [List.length_cons, hml]
    refine ex_n (fun c => absurd (by rw [show ((rest.length + 1 : Nat) : Int) = 1 + (rest.length : Int) by omega]) c) fun _ => s_next ?_
    tm_at "gn"
    refine r_ixT (Has.tq has_hd) (atI_nat (j := 0) rfl) ?_
    tm_at "gn"
    refine ⟨true, rfl, both_t ?_⟩
    tm_at "gn"
    refine r_ixT (Has.tq has_hd) (atI_nat (j := 0) rfl) ?_
    tm_at "gn"
    refine r_ixT (Has.tq (has_tl has_hd)) (atI_nat (j := 0) rfl) ?_
    tm_at "gn"
    refine ex_c (fun _ => ?_) fun c => absurd rfl c
    tm_at "gn"
    refine ⟨1, rfl, o_none ?_⟩
    refine r_slT (Has.tq has_hd) (fun z => ?_) fun c => ?_
    · have z1 := z.1
      rw [show (1 : Int) = ((1 : Nat) : Int) from rfl, HT.sIx_nat, List.length_cons, hml] at z1
      omega
    have ecut : cutV (V.str w :: rest.map fun p => nV (valS p)) (some 1) none = rest.map fun p => nV (valS p) := cut_from (k := 1)
    rw [ecut]
    tm_at "gn"
    refine c_listT (Has.tq has_hd) fun d2 => ?_
    tm_at "gn"
    refine r_ixT (Has.tq (has_tl (has_tl (has_tl has_hd)))) (atI_nat (j := 1) rfl) ?_
    tm_at "gn"
    rw [enum]
    refine do_numbersN has_hd (Has.sq (has_tl (has_tl (has_tl (has_tl has_hd))))) (by rw [List.length_map]; omega) ?_
    exact q _
  · refine ⟨_, Ent.refl _, _, rfl, z, rfl, by omega, fun w' rest' ep' ht hall => absurd ⟨w', rest', ep', ht, hall⟩ g, fun _ => ?_⟩
    refine s_seq ?_
    refine s_tryA fun W hW => ?_
    refine s_asg (e_callW hW (a_cons (e_var rfl (a_nil ?_))))
    refine ⟨_, Ent.refl _, _, rfl, z, rfl, by omega, fun w' rest' ep' ht hall => absurd ⟨w', rest', ep', ht, hall⟩ g, fun _ => ⟨em, A.NoDeed, List.mem_cons_self, rfl, fun x => ?_⟩⟩
    exact suite3_ok k1 k2 k3 k4 k5 k6 k7 k8 k9 rfl q
end
def top (i : Nat) : Stmt := PySem.Challenge.pw_markpause_k03_read.main.body.getD i (.Pass ⟨0, 0, 0, 0⟩)
/-- where the top has laid the defs -/
structure Dd where
  f_law_whole : Addr
  d_law_whole : FuncData
  f_number_of : Addr
  d_number_of : FuncData
  f_law_number : Addr
  d_law_number : FuncData
  f_law_cell_at : Addr
  d_law_cell_at : FuncData
  f_law_sign_by : Addr
  d_law_sign_by : FuncData
  f_law_odd : Addr
  d_law_odd : FuncData
  f_law_numbers : Addr
  d_law_numbers : FuncData
  f_read : Addr
  d_read : FuncData
  f_law_due : Addr
  d_law_due : FuncData
  f_law_line : Addr
  d_law_line : FuncData
  f_law_built : Addr
  d_law_built : FuncData
  f_law : Addr
  d_law : FuncData
/-- what the walk asks of the top -/
structure Txt (K : PySem.W.Frag) (mg : Str → Option Value) (A : Ex) (D : Dd) (w : World) : Prop where
  F_law_whole : Fun K "_law_whole" "_law_whole" (top 18) D.f_law_whole D.d_law_whole
  b_law_whole : Binds K D.d_law_whole ["_law_found"] []
  m_law_whole : mg "_law_whole" = some (.ref D.f_law_whole)
  k_law_whole : PySem.W.keepIn K (.ref D.f_law_whole) = true
  F_number_of : Fun K "number_of" "number_of" (top 14) D.f_number_of D.d_number_of
  b_number_of : Binds K D.d_number_of ["figures"] []
  m_number_of : mg "number_of" = some (.ref D.f_number_of)
  k_number_of : PySem.W.keepIn K (.ref D.f_number_of) = true
  F_law_number : Fun K "_law_number" "_law_number" (top 24) D.f_law_number D.d_law_number
  b_law_number : Binds K D.d_law_number ["_law_part"] []
  m_law_number : mg "_law_number" = some (.ref D.f_law_number)
  k_law_number : PySem.W.keepIn K (.ref D.f_law_number) = true
  F_law_cell_at : Fun K "_law_cell_at" "_law_cell_at" (top 17) D.f_law_cell_at D.d_law_cell_at
  b_law_cell_at : Binds K D.d_law_cell_at ["_law_script", "_law_k"] []
  m_law_cell_at : mg "_law_cell_at" = some (.ref D.f_law_cell_at)
  k_law_cell_at : PySem.W.keepIn K (.ref D.f_law_cell_at) = true
  F_law_sign_by : Fun K "_law_sign_by" "_law_sign_by" (top 20) D.f_law_sign_by D.d_law_sign_by
  b_law_sign_by : Binds K D.d_law_sign_by ["_law_cell"] []
  m_law_sign_by : mg "_law_sign_by" = some (.ref D.f_law_sign_by)
  k_law_sign_by : PySem.W.keepIn K (.ref D.f_law_sign_by) = true
  F_law_odd : Fun K "_law_odd" "_law_odd" (top 21) D.f_law_odd D.d_law_odd
  b_law_odd : Binds K D.d_law_odd ["_law_cell"] []
  m_law_odd : mg "_law_odd" = some (.ref D.f_law_odd)
  k_law_odd : PySem.W.keepIn K (.ref D.f_law_odd) = true
  F_law_numbers : Fun K "_law_numbers" "_law_numbers" (top 19) D.f_law_numbers D.d_law_numbers
  b_law_numbers : Binds K D.d_law_numbers ["_law_found", "_law_due_here"] []
  m_law_numbers : mg "_law_numbers" = some (.ref D.f_law_numbers)
  k_law_numbers : PySem.W.keepIn K (.ref D.f_law_numbers) = true
  F_read : Fun K "read" "read" (top 15) D.f_read D.d_read
  b_read : Binds K D.d_read ["line"] []
  m_read : mg "read" = some (.ref D.f_read)
  k_read : PySem.W.keepIn K (.ref D.f_read) = true
  F_law_due : Fun K "_law_due" "_law_due" (top 25) D.f_law_due D.d_law_due
  b_law_due : Binds K D.d_law_due ["_law_line_here"] []
  m_law_due : mg "_law_due" = some (.ref D.f_law_due)
  k_law_due : PySem.W.keepIn K (.ref D.f_law_due) = true
  F_law_line : Fun K "_law_line" "_law_line" (top 22) D.f_law_line D.d_law_line
  b_law_line : Binds K D.d_law_line ["_law_script"] []
  m_law_line : mg "_law_line" = some (.ref D.f_law_line)
  k_law_line : PySem.W.keepIn K (.ref D.f_law_line) = true
  F_law_built : Fun K "_law_built" "_law_built" (top 23) D.f_law_built D.d_law_built
  b_law_built : Binds K D.d_law_built ["_law_script"] []
  m_law_built : mg "_law_built" = some (.ref D.f_law_built)
  k_law_built : PySem.W.keepIn K (.ref D.f_law_built) = true
  F_law : Fun K "law" "law" (top 26) D.f_law D.d_law
  b_law : Binds K D.d_law ["_law_script"] []
  m_law : mg "law" = some (.ref D.f_law)
  k_law : PySem.W.keepIn K (.ref D.f_law) = true
  g_HeapError : mg "HeapError" = some (.ref A.HeapError)
  g_NoHand : mg "NoHand" = some (.ref A.NoHand)
  g_NoSlot : mg "NoSlot" = some (.ref A.NoSlot)
  g_NoRoom : mg "NoRoom" = some (.ref A.NoRoom)
  g_NothingHeld : mg "NothingHeld" = some (.ref A.NothingHeld)
  g_NoBox : mg "NoBox" = some (.ref A.NoBox)
  g_NoWork : mg "NoWork" = some (.ref A.NoWork)
  g_NoHeap : mg "NoHeap" = some (.ref A.NoHeap)
  g_NoDeed : mg "NoDeed" = some (.ref A.NoDeed)
  x_NoDeed : PySem.W.excIn K A.NoDeed [.type "ValueError", .type "Exception", .type "BaseException", .type "object"] "ValueError.__new__" = true
  kx_NoDeed : PySem.W.keepIn K (.ref A.NoDeed) = true
  bx_NoDeed : PySem.W.subIn K (.ref A.NoDeed) (.type "BaseException") = some true
  tx_NoDeed : PySem.W.typeIn K (.ref A.NoDeed) = some (.type "type")
  em_NoDeed_HeapError : PySem.W.exmOne K (.ref A.NoDeed) (.ref A.HeapError) = some true
  ki_NoDeed_NoBox : PySem.W.kitOne K (.ref A.NoDeed) (.ref A.NoBox) = some false
  ki_NoDeed_NoDeed : PySem.W.kitOne K (.ref A.NoDeed) (.ref A.NoDeed) = some true
  ki_NoDeed_NoHand : PySem.W.kitOne K (.ref A.NoDeed) (.ref A.NoHand) = some false
  ki_NoDeed_NoHeap : PySem.W.kitOne K (.ref A.NoDeed) (.ref A.NoHeap) = some false
  ki_NoDeed_NoRoom : PySem.W.kitOne K (.ref A.NoDeed) (.ref A.NoRoom) = some false
  ki_NoDeed_NoSlot : PySem.W.kitOne K (.ref A.NoDeed) (.ref A.NoSlot) = some false
  ki_NoDeed_NoWork : PySem.W.kitOne K (.ref A.NoDeed) (.ref A.NoWork) = some false
  ki_NoDeed_NothingHeld : PySem.W.kitOne K (.ref A.NoDeed) (.ref A.NothingHeld) = some false
  ki_NoDeed_ValueError : PySem.W.kitOne K (.ref A.NoDeed) (.type "ValueError") = some true
  ecs_law : ∀ C ∈ [A.NoDeed], ExcC K C
  z_ValueError : mg "ValueError" = none
  z_any : mg "any" = none
  z_bool : mg "bool" = none
  z_int : mg "int" = none
  z_isinstance : mg "isinstance" = none
  z_len : mg "len" = none
  z_list : mg "list" = none
  z_range : mg "range" = none
  z_str : mg "str" = none
  z_tuple : mg "tuple" = none
  c_COUNTS : mg "COUNTS" = some (.ref A.COUNTS)
  W_COUNTS : WDict K w A.COUNTS
  c_FIGURES : ∃ t, mg "FIGURES" = some (.str "0123456789" t)
  c_MOST_FIGURES : ∃ t, mg "MOST_FIGURES" = some (.int 60 t)
section
variable {P : Program} {w : World} {K : PySem.W.Frag} {mg : Str → Option Value} {base : Heap} {A : Ex} {D : Dd}
abbrev sm_law_whole : Stmt := (top 18)
theorem sc_law_whole : FnScope N_law_whole ["_law_found"] (defScope sm_law_whole) := ⟨rfl, rfl, rfl, by decide +kernel, rfl, by decide +kernel, by decide +kernel⟩
theorem ok_law_whole (T : Txt K mg A D w) : FnOk P w K mg base (L2N.CX P w) 1 D.f_law_whole D.d_law_whole ["_law_found"] (lift (P_law_whole K A)) := by
  refine funN T.F_law_whole sc_law_whole (lift_len pm1_len) (fun cdv Ar outer s H vs Q E hr h => ?_)
  have hu := hu_of hr
  refine ⟨t_law_whole K A E, ?_, lift_body h fun L Qa Ea he p => p_law_whole he p⟩
  exact (pss_one (ps_ret (pe_and (pe_callB call_isi (by rfl) T.z_isinstance (by decide +kernel) (pa_cons (pv 0) (pa_cons (pe_bltn (v := .ty "int") rfl T.z_int (by decide +kernel) rfl) pa_nil))) (pe_one (pe_not (pe_callB call_isi (by rfl) T.z_isinstance (by decide +kernel) (pa_cons (pv 0) (pa_cons (pe_bltn (v := .ty "bool") rfl T.z_bool (by decide +kernel) rfl) pa_nil))))))))
abbrev sm_number_of : Stmt := (top 14)
theorem sc_number_of : FnScope N_number_of ["figures"] (defScope sm_number_of) := ⟨rfl, rfl, rfl, by decide +kernel, rfl, by decide +kernel, by decide +kernel⟩
theorem ok_number_of (T : Txt K mg A D w) : FnOk P w K mg base (L2N.CX P w) 1 D.f_number_of D.d_number_of ["figures"] (lift (P_number_of K A)) := by
  refine funN T.F_number_of sc_number_of (lift_len pm1_len) (fun cdv Ar outer s H vs Q E hr h => ?_)
  have hu := hu_of hr
  refine ⟨t_number_of K A E, ?_, lift_body h fun L Qa Ea he p => p_number_of he p⟩
  exact (pss_cons (ps_for PassesOwn.leaving rfl (pi_str (pv 0)) (pg_name (i := 1) sc_number_of.nd rfl (Or.inl rfl))
      (pss_one (ps_if (pt_cmpR op_notIn_sign (pv 1) (pe_glob rfl T.c_FIGURES.choose_spec ⟨_, rfl⟩) rfl) (pss_one (L2N.ps_raise rfl (L2N.takes_of rfl rfl rfl rfl) (L2N.pmk_own PySem.F.excBase_ValueError T.x_NoDeed T.g_NoDeed T.kx_NoDeed (raises_own T.bx_NoDeed T.tx_NoDeed) (by exact rfl)))) pss_nil)))
    (pss_cons (ps_if (PW.pt (pw_or (pt_cmpR op_eq (pv 0) pe_str (nomark _)) (pw_or (pt_cmpR op_gt (pe_callB cl_lenS (by rfl) T.z_len (by decide +kernel) (pa_cons (pv 0) pa_nil)) (pe_glob rfl T.c_MOST_FIGURES.choose_spec ⟨_, rfl⟩) (nomark _)) (pw_or1 (PW.pt (pw_and (pt_cmpR op_eq (pe_ix ix_str (pv 0) pe_int (fun _ _ => rfl)) pe_str (nomark _)) (pw_and1 (pt_cmpR op_gt (pe_callB cl_lenS (by rfl) T.z_len (by decide +kernel) (pa_cons (pv 0) pa_nil)) pe_int (nomark _))))))))) (pss_one (L2N.ps_raise rfl (L2N.takes_of rfl rfl rfl rfl) (L2N.pmk_own PySem.F.excBase_ValueError T.x_NoDeed T.g_NoDeed T.kx_NoDeed (raises_own T.bx_NoDeed T.tx_NoDeed) (by exact rfl)))) pss_nil)
    (pss_one (ps_ret (pe_callTy call_int_str (by rfl) T.z_int (by decide +kernel) (pa_cons (pv 0) pa_nil))))))
abbrev sm_law_number : Stmt := (top 24)
theorem sc_law_number : FnScope N_law_number ["_law_part"] (defScope sm_law_number) := ⟨rfl, rfl, rfl, by decide +kernel, rfl, by decide +kernel, by decide +kernel⟩
theorem ok_law_number (T : Txt K mg A D w) : FnOk P w K mg base (L2N.CX P w) 1 D.f_law_number D.d_law_number ["_law_part"] (lift (P_law_number K A)) := by
  refine funN T.F_law_number sc_law_number (lift_len pm1_len) (fun cdv Ar outer s H vs Q E hr h => ?_)
  have hu := hu_of hr
  refine ⟨t_law_number K A E, ?_, lift_body h fun L Qa Ea he p => p_law_number he p⟩
  exact (pss_cons (ps_if (PW.pt (pw_or (pt_cmpR op_eq (pv 0) pe_str (nomark _)) (pw_or (pt_cmpR op_gt (pe_callB cl_lenS (by rfl) T.z_len (by decide +kernel) (pa_cons (pv 0) pa_nil)) pe_int (nomark _)) (pw_or1 (PW.pt (pw_and (pt_cmpR op_eq (pe_ix ix_str (pv 0) pe_int (fun _ _ => rfl)) pe_str (nomark _)) (pw_and1 (pt_cmpR op_gt (pe_callB cl_lenS (by rfl) T.z_len (by decide +kernel) (pa_cons (pv 0) pa_nil)) pe_int (nomark _))))))))) (pss_one (ps_ret pe_non)) pss_nil)
    (pss_cons (ps_set (i := 1) sc_law_number.nd rfl (Or.inl rfl) pe_int)
    (pss_cons (ps_for PassesOwn.leaving rfl (pi_str (pv 0)) (pg_name (i := 2) sc_law_number.nd rfl (Or.inl rfl))
      (pss_cons (ps_set (i := 3) sc_law_number.nd rfl (Or.inl rfl) (pe_m1 F.slot_str_find F.type_str_find mt_find pe_str (pv 2)))
    (pss_cons (ps_if (pt_cmpR op_lt (pv 3) pe_int (nomark _)) (pss_one (ps_ret pe_non)) pss_nil)
    (pss_one (ps_set (i := 1) sc_law_number.nd rfl (Or.inl rfl) (pe_op op_add (pe_op op_mul pe_int (pv 1)) (pv 3)))))))
    (pss_one (ps_ret (pv 1))))))
abbrev sm_law_cell_at : Stmt := (top 17)
theorem sc_law_cell_at : FnScope N_law_cell_at ["_law_script", "_law_k"] (defScope sm_law_cell_at) := ⟨rfl, rfl, rfl, by decide +kernel, rfl, by decide +kernel, by decide +kernel⟩
theorem ok_law_cell_at (T : Txt K mg A D w) : FnOk P w K mg base (L2N.CX P w) 1 D.f_law_cell_at D.d_law_cell_at ["_law_script", "_law_k"] (lift (P_law_cell_at K A)) := by
  refine funN T.F_law_cell_at sc_law_cell_at (lift_len pm2_len) (fun cdv Ar outer s H vs Q E hr h => ?_)
  have hu := hu_of hr
  refine ⟨t_law_cell_at K A E, ?_, lift_body h fun L Qa Ea he p => p_law_cell_at he p⟩
  exact (pss_cons (ps_if (pt_cmpR op_lt (pv 1) (pe_callB cl_len (by rfl) T.z_len (by decide +kernel) (pa_cons (pv 0) pa_nil)) (nomark _)) (pss_one (ps_ret (pe_ix ix_list (pv 0) (pv 1) (fun _ _ => rfl)))) pss_nil)
    (pss_one (ps_ret pe_int)))
abbrev sm_law_sign_by : Stmt := (top 20)
theorem sc_law_sign_by : FnScope N_law_sign_by ["_law_cell"] (defScope sm_law_sign_by) := ⟨rfl, rfl, rfl, by decide +kernel, rfl, by decide +kernel, by decide +kernel⟩
theorem ok_law_sign_by (T : Txt K mg A D w) : FnOk P w K mg base (L2N.CX P w) 1 D.f_law_sign_by D.d_law_sign_by ["_law_cell"] (lift (P_law_sign_by K A)) := by
  refine funN T.F_law_sign_by sc_law_sign_by (lift_len pm1_len) (fun cdv Ar outer s H vs Q E hr h => ?_)
  have hu := hu_of hr
  refine ⟨t_law_sign_by K A E, ?_, lift_body h fun L Qa Ea he p => p_law_sign_by he p⟩
  exact (pss_cons (ps_set (i := 1) sc_law_sign_by.nd rfl (Or.inl rfl) pe_str)
    (pss_cons (ps_set (i := 1) sc_law_sign_by.nd rfl (Or.inl rfl) (pe_op op_add_str (pv 1) pe_str))
    (pss_one (ps_ret (pe_ix ix_str (pv 1) (pe_op op_mod (pv 0) pe_int) (fun _ _ => rfl))))))
abbrev sm_law_odd : Stmt := (top 21)
theorem sc_law_odd : FnScope N_law_odd ["_law_cell"] (defScope sm_law_odd) := ⟨rfl, rfl, rfl, by decide +kernel, rfl, by decide +kernel, by decide +kernel⟩
theorem ok_law_odd (T : Txt K mg A D w) : FnOk P w K mg base (L2N.CX P w) 1 D.f_law_odd D.d_law_odd ["_law_cell"] (lift (P_law_odd K A)) := by
  refine funN T.F_law_odd sc_law_odd (lift_len pm1_len) (fun cdv Ar outer s H vs Q E hr h => ?_)
  have hu := hu_of hr
  refine ⟨t_law_odd K A E, ?_, lift_body h fun L Qa Ea he p => p_law_odd he p⟩
  exact (pss_cons (ps_set (i := 1) sc_law_odd.nd rfl (Or.inl rfl) (pe_lst (pa_cons pe_str (pa_cons pe_str (pa_cons pe_str (pa_cons pe_str (pa_cons pe_str (pa_cons pe_str (pa_cons pe_str (pa_cons pe_str (pa_cons pe_str (pa_cons pe_str pa_nil))))))))))))
    (pss_cons (ps_set (i := 1) sc_law_odd.nd rfl (Or.inl rfl) (pe_op op_cat (pv 1) (pe_lst (pa_cons pe_str (pa_cons pe_str (pa_cons pe_str (pa_cons pe_str (pa_cons pe_str (pa_cons pe_str (pa_cons pe_str (pa_cons pe_str pa_nil)))))))))))
    (pss_cons (ps_set (i := 1) sc_law_odd.nd rfl (Or.inl rfl) (pe_op op_cat (pv 1) (pe_lst (pa_cons pe_str (pa_cons pe_str (pa_cons pe_str (pa_cons pe_str pa_nil)))))))
    (pss_one (ps_ret (pe_ix ix_list (pv 1) (pe_op op_mod (pv 0) (pe_callB cl_len (by rfl) T.z_len (by decide +kernel) (pa_cons (pv 1) pa_nil))) (fun _ _ => rfl)))))))
abbrev sm_law_numbers : Stmt := (top 19)
theorem sc_law_numbers : FnScope N_law_numbers ["_law_found", "_law_due_here"] (defScope sm_law_numbers) := ⟨rfl, rfl, rfl, by decide +kernel, rfl, by decide +kernel, by decide +kernel⟩
theorem ok_law_numbers (T : Txt K mg A D w) (G_law_whole : FnOk P w K mg base (L2N.CX P w) 1 D.f_law_whole D.d_law_whole ["_law_found"] (lift (P_law_whole K A))) : FnOk P w K mg base (L2N.CX P w) 2 D.f_law_numbers D.d_law_numbers ["_law_found", "_law_due_here"] (lift (P_law_numbers K A)) := by
  refine funN T.F_law_numbers sc_law_numbers (lift_len pm2_len) (fun cdv Ar outer s H vs Q E hr h => ?_)
  have hu := hu_of hr
  refine ⟨t_law_numbers K A E, ?_, lift_body h fun L Qa Ea he p => p_law_numbers he p⟩
  exact (pss_cons (ps_if (PW.pt (pw_or (pt_not (pt_val (pe_callB call_isi (by rfl) T.z_isinstance (by decide +kernel) (pa_cons (pv 0) (pa_cons (pe_bltn (v := .ty "list") rfl T.z_list (by decide +kernel) rfl) pa_nil))))) (pw_or1 (pt_cmpR op_ne (pe_callB cl_len (by rfl) T.z_len (by decide +kernel) (pa_cons (pv 0) pa_nil)) (pe_callB cl_len (by rfl) T.z_len (by decide +kernel) (pa_cons (pv 1) pa_nil)) (nomark _))))) (pss_one (ps_ret pe_bl)) pss_nil)
    (pss_cons (ps_for PassesOwn.leaving rfl (pi_range1 rfl T.z_range (pa_cons (pe_callB cl_len (by rfl) T.z_len (by decide +kernel) (pa_cons (pv 1) pa_nil)) pa_nil)) (pg_name (i := 2) sc_law_numbers.nd rfl (Or.inl rfl))
      (pss_cons (ps_if (PW.pt (pw_and (pt_cmpR op_isNo (pe_ix ix_list (pv 1) (pv 2) (fun _ _ => rfl)) pe_non (nomark _)) (pw_and1 (pt_cmpR op_notNo (pe_ix ix_list (pv 0) (pv 2) (fun _ _ => rfl)) pe_non (nomark _))))) (pss_one (ps_ret pe_bl)) pss_nil)
    (pss_one (ps_if (PW.pt (pw_and (pt_cmpR op_notNo (pe_ix ix_list (pv 1) (pv 2) (fun _ _ => rfl)) pe_non (nomark _)) (pw_and1 (PW.pt (pw_or (pt_not (pt_val (pe_call G_law_whole (hr.mono (by decide)) rfl T.m_law_whole T.k_law_whole T.b_law_whole .nil passN (pa_cons (pe_ix ix_list (pv 0) (pv 2) (fun _ _ => rfl)) pa_nil)))) (pw_or1 (pt_cmpR op_ne (pe_ix ix_list (pv 0) (pv 2) (fun _ _ => rfl)) (pe_ix ix_list (pv 1) (pv 2) (fun _ _ => rfl)) (nomark _)))))))) (pss_one (ps_ret pe_bl)) pss_nil))))
    (pss_one (ps_ret pe_bl))))
abbrev sm_read : Stmt := (top 15)
theorem sc_read : FnScope N_read ["line"] (defScope sm_read) := ⟨rfl, rfl, rfl, by decide +kernel, rfl, by decide +kernel, by decide +kernel⟩
theorem ok_read (T : Txt K mg A D w) (G_number_of : FnOk P w K mg base (L2N.CX P w) 1 D.f_number_of D.d_number_of ["figures"] (lift (P_number_of K A))) : FnOk P w K mg base (L2N.CX P w) 2 D.f_read D.d_read ["line"] (lift (P_read K A)) := by
  refine funN T.F_read sc_read (lift_len pm1_len) (fun cdv Ar outer s H vs Q E hr h => ?_)
  have hu := hu_of hr
  refine ⟨t_read K A E, ?_, lift_body h fun L Qa Ea he p => p_read he p⟩
  exact (pss_cons (ps_set (i := 1) sc_read.nd rfl (Or.inl rfl) (pe_split (pv 0) pe_str))
    (pss_cons (ps_if (PW.pt (pw_or (pt_cmpR (op_notIn_wd T.W_COUNTS) (pe_ix ix_list (pv 1) pe_int (fun _ _ => rfl)) (pe_glob (v := .ref A.COUNTS) rfl T.c_COUNTS rfl) rfl) (pw_or1 (pt_cmpR op_ne (pe_callB cl_len (by rfl) T.z_len (by decide +kernel) (pa_cons (pv 1) pa_nil)) (pe_op op_add (pe_ix (ix_wd T.W_COUNTS) (pe_glob (v := .ref A.COUNTS) rfl T.c_COUNTS rfl) (pe_ix ix_list (pv 1) pe_int (fun _ _ => rfl)) (fun _ _ => rfl)) pe_int) (nomark _))))) (pss_one (L2N.ps_raise rfl (L2N.takes_of rfl rfl rfl rfl) (L2N.pmk_own PySem.F.excBase_ValueError T.x_NoDeed T.g_NoDeed T.kx_NoDeed (raises_own T.bx_NoDeed T.tx_NoDeed) (by exact rfl)))) pss_nil)
    (pss_one (ps_ret (pe_callTy call_tuple_of (by rfl) T.z_tuple (by decide +kernel) (pa_cons (pe_op op_cat (pe_lst (pa_cons (pe_ix ix_list (pv 1) pe_int (fun _ _ => rfl)) pa_nil)) (pe_lcE (own := [("part", 2)]) (g := gName 2) (tt := tYes) rfl rfl (L2N.takes_of rfl rfl rfl rfl) rfl sc_read.nd (pi_list (pe_slice sl_list (pv 1) (po_some pe_int) po_none)) (blkOk_by (N := N_read) (sc := defScope sm_read) (by decide +kernel)) (fun _ _ _ _ _ => pg_name (i := 2) sc_read.nd rfl (Or.inl rfl)) (fun _ _ _ _ _ => pts_nil) (fun _ _ _ _ _ => (pe_call G_number_of (hr.mono (by decide)) rfl T.m_number_of T.k_number_of T.b_number_of .nil passB (pa_cons (pv 2) pa_nil))))) pa_nil))))))
abbrev sm_law_due : Stmt := (top 25)
theorem sc_law_due : FnScope N_law_due ["_law_line_here"] (defScope sm_law_due) := ⟨rfl, rfl, rfl, by decide +kernel, rfl, by decide +kernel, by decide +kernel⟩
theorem ok_law_due (T : Txt K mg A D w) (G_law_number : FnOk P w K mg base (L2N.CX P w) 1 D.f_law_number D.d_law_number ["_law_part"] (lift (P_law_number K A))) : FnOk P w K mg base (L2N.CX P w) 2 D.f_law_due D.d_law_due ["_law_line_here"] (lift (P_law_due K A)) := by
  refine funN T.F_law_due sc_law_due (lift_len pm1_len) (fun cdv Ar outer s H vs Q E hr h => ?_)
  have hu := hu_of hr
  refine ⟨t_law_due K A E, ?_, lift_body h fun L Qa Ea he p => p_law_due he p⟩
  exact (pss_cons (ps_set (i := 1) sc_law_due.nd rfl (Or.inl rfl) (pe_lst (pa_cons pe_str (pa_cons pe_str (pa_cons pe_str (pa_cons pe_str (pa_cons pe_str (pa_cons pe_str pa_nil))))))))
    (pss_cons (ps_set (i := 2) sc_law_due.nd rfl (Or.inl rfl) (pe_lst (pa_cons pe_int (pa_cons pe_int (pa_cons pe_int (pa_cons pe_int (pa_cons pe_int (pa_cons pe_int pa_nil))))))))
    (pss_cons (ps_set (i := 3) sc_law_due.nd rfl (Or.inl rfl) (pe_lst (pa_cons pe_str pa_nil)))
    (pss_cons (ps_for PassesOwn.leaving rfl (pi_str (pv 0)) (pg_name (i := 4) sc_law_due.nd rfl (Or.inl rfl))
      (pss_one (ps_if (pt_cmpR op_eq (pv 4) pe_str (nomark _)) (pss_one (ps_expr (pe_bm PySem.F.plainAttrs_list PySem.F.slot_list_append PySem.F.type_list_append mt_append (pv 3) (pa_cons pe_str pa_nil)))) (pss_one (ps_asg (pe_op op_add_str (pe_ix ix_list (pv 3) (pe_un un_neg pe_int) (fun _ _ => rfl)) (pv 4)) (pg_sub (pv 3) (pe_un un_neg pe_int) set_list))))))
    (pss_cons (ps_if (PW.pt (pw_or (pt_cmpR op_notIn_seq (pe_ix ix_list (pv 3) pe_int (fun _ _ => rfl)) (pv 1) rfl) (pw_or1 (pt_cmpR op_ne (pe_callB cl_len (by rfl) T.z_len (by decide +kernel) (pa_cons (pv 3) pa_nil)) (pe_op op_add pe_int (pe_ix ix_list (pv 2) (pe_bm PySem.F.plainAttrs_list PySem.F.slot_list_index PySem.F.type_list_index mt_index (pv 1) (pa_cons (pe_ix ix_list (pv 3) pe_int (fun _ _ => rfl)) pa_nil)) (fun _ _ => rfl))) (nomark _))))) (pss_one (ps_ret pe_non)) pss_nil)
    (pss_cons (ps_setLc (i := 5) (own := [("_law_part", 6)]) (g := gName 6) (tt := tYes) rfl sc_law_due.nd rfl rfl (sw_true rfl rfl rfl (by decide +kernel)) (pi_list (pe_slice sl_list (pv 3) (po_some pe_int) po_none)) (blkOk_by (N := N_law_due) (sc := defScope sm_law_due) (by decide +kernel)) (fun _ _ _ _ _ => pg_name (i := 6) sc_law_due.nd rfl (Or.inl rfl)) (fun _ _ _ _ _ => pts_nil) (fun _ _ _ _ _ => (pe_call G_law_number (hr.mono (by decide)) rfl T.m_law_number T.k_law_number T.b_law_number .nil passN (pa_cons (pv 6) pa_nil))))
    (pss_cons (ps_if (pt_cmpR op_in_seq pe_non (pv 5) rfl) (pss_one (ps_ret pe_non)) pss_nil)
    (pss_one (ps_ret (pe_tup (pa_cons (pe_ix ix_list (pv 3) pe_int (fun _ _ => rfl)) (pa_cons (pv 5) pa_nil))))))))))))
abbrev sm_law_line : Stmt := (top 22)
theorem sc_law_line : FnScope N_law_line ["_law_script"] (defScope sm_law_line) := ⟨rfl, rfl, rfl, by decide +kernel, rfl, by decide +kernel, by decide +kernel⟩
theorem ok_law_line (T : Txt K mg A D w) (G_law_cell_at : FnOk P w K mg base (L2N.CX P w) 1 D.f_law_cell_at D.d_law_cell_at ["_law_script", "_law_k"] (lift (P_law_cell_at K A))) : FnOk P w K mg base (L2N.CX P w) 2 D.f_law_line D.d_law_line ["_law_script"] (lift (P_law_line K A)) := by
  refine funN T.F_law_line sc_law_line (lift_len pm1_len) (fun cdv Ar outer s H vs Q E hr h => ?_)
  have hu := hu_of hr
  refine ⟨t_law_line K A E, ?_, lift_body h fun L Qa Ea he p => p_law_line he p⟩
  exact (pss_cons (ps_set (i := 1) sc_law_line.nd rfl (Or.inl rfl) (pe_lst (pa_cons pe_str (pa_cons pe_str (pa_cons pe_str (pa_cons pe_str (pa_cons pe_str (pa_cons pe_str pa_nil))))))))
    (pss_cons (ps_set (i := 2) sc_law_line.nd rfl (Or.inl rfl) (pe_lst (pa_cons pe_int (pa_cons pe_int (pa_cons pe_int (pa_cons pe_int (pa_cons pe_int (pa_cons pe_int pa_nil))))))))
    (pss_cons (ps_set (i := 3) sc_law_line.nd rfl (Or.inl rfl) (pe_op op_mod (pe_call G_law_cell_at (hr.mono (by decide)) rfl T.m_law_cell_at T.k_law_cell_at T.b_law_cell_at .nil passN (pa_cons (pv 0) (pa_cons pe_int pa_nil))) pe_int))
    (pss_cons (ps_set (i := 4) sc_law_line.nd rfl (Or.inl rfl) (pe_ix ix_list (pv 1) (pv 3) (fun _ _ => rfl)))
    (pss_cons (ps_for PassesOwn.leaving rfl (pi_range1 rfl T.z_range (pa_cons (pe_ix ix_list (pv 2) (pv 3) (fun _ _ => rfl)) pa_nil)) (pg_name (i := 5) sc_law_line.nd rfl (Or.inl rfl))
      (pss_one (ps_set (i := 4) sc_law_line.nd rfl (Or.inl rfl) (pe_op op_add_str (pe_op op_add_str (pv 4) pe_str) (pe_callTy cl_strI (by rfl) T.z_str (by decide +kernel) (pa_cons (pe_op op_mod (pe_call G_law_cell_at (hr.mono (by decide)) rfl T.m_law_cell_at T.k_law_cell_at T.b_law_cell_at .nil passN (pa_cons (pv 0) (pa_cons (pe_op op_add pe_int (pv 5)) pa_nil))) pe_int) pa_nil))))))
    (pss_one (ps_ret (pv 4))))))))
abbrev sm_law_built : Stmt := (top 23)
theorem sc_law_built : FnScope N_law_built ["_law_script"] (defScope sm_law_built) := ⟨rfl, rfl, rfl, by decide +kernel, rfl, by decide +kernel, by decide +kernel⟩
theorem ok_law_built (T : Txt K mg A D w) (G_law_cell_at : FnOk P w K mg base (L2N.CX P w) 1 D.f_law_cell_at D.d_law_cell_at ["_law_script", "_law_k"] (lift (P_law_cell_at K A))) (G_law_line : FnOk P w K mg base (L2N.CX P w) 2 D.f_law_line D.d_law_line ["_law_script"] (lift (P_law_line K A))) (G_law_odd : FnOk P w K mg base (L2N.CX P w) 1 D.f_law_odd D.d_law_odd ["_law_cell"] (lift (P_law_odd K A))) (G_law_sign_by : FnOk P w K mg base (L2N.CX P w) 1 D.f_law_sign_by D.d_law_sign_by ["_law_cell"] (lift (P_law_sign_by K A))) : FnOk P w K mg base (L2N.CX P w) 3 D.f_law_built D.d_law_built ["_law_script"] (lift (P_law_built K A)) := by
  refine funN T.F_law_built sc_law_built (lift_len pm1_len) (fun cdv Ar outer s H vs Q E hr h => ?_)
  have hu := hu_of hr
  refine ⟨t_law_built K A E, ?_, lift_body h fun L Qa Ea he p => p_law_built he p⟩
  exact (pss_cons (ps_set (i := 1) sc_law_built.nd rfl (Or.inl rfl) (pe_op op_mod (pe_call G_law_cell_at (hr.mono (by decide)) rfl T.m_law_cell_at T.k_law_cell_at T.b_law_cell_at .nil passN (pa_cons (pv 0) (pa_cons pe_int pa_nil))) pe_int))
    (pss_cons (ps_set (i := 2) sc_law_built.nd rfl (Or.inl rfl) (pe_call G_law_cell_at (hr.mono (by decide)) rfl T.m_law_cell_at T.k_law_cell_at T.b_law_cell_at .nil passN (pa_cons (pv 0) (pa_cons pe_int pa_nil))))
    (pss_cons (ps_set (i := 3) sc_law_built.nd rfl (Or.inl rfl) (pe_call G_law_line (hr.mono (by decide)) rfl T.m_law_line T.k_law_line T.b_law_line .nil passN (pa_cons (pv 0) pa_nil)))
    (pss_cons (ps_if (pt_cmpR op_eq (pv 1) pe_int (nomark _)) (pss_cons (ps_set (i := 4) sc_law_built.nd rfl (Or.inl rfl) (pe_op op_mod (pv 2) (pe_op op_add (pe_callB cl_lenS (by rfl) T.z_len (by decide +kernel) (pa_cons (pv 3) pa_nil)) pe_int)))
    (pss_cons (ps_if (pt_cmpR op_eq (pe_op op_mod (pe_call G_law_cell_at (hr.mono (by decide)) rfl T.m_law_cell_at T.k_law_cell_at T.b_law_cell_at .nil passN (pa_cons (pv 0) (pa_cons pe_int pa_nil))) pe_int) pe_int (nomark _)) (pss_one (ps_ret (pe_op op_add_str (pe_op op_add_str (pe_slice sl_str (pv 3) po_none (po_some (pv 4))) (pe_ix ix_str pe_str (pe_op op_mod (pe_op op_fdiv (pe_call G_law_cell_at (hr.mono (by decide)) rfl T.m_law_cell_at T.k_law_cell_at T.b_law_cell_at .nil passN (pa_cons (pv 0) (pa_cons pe_int pa_nil))) pe_int) pe_int) (fun _ _ => rfl))) (pe_slice sl_str (pv 3) (po_some (pv 4)) po_none)))) pss_nil)
    (pss_one (ps_ret (pe_op op_add_str (pe_op op_add_str (pe_slice sl_str (pv 3) po_none (po_some (pv 4))) (pe_call G_law_sign_by (hr.mono (by decide)) rfl T.m_law_sign_by T.k_law_sign_by T.b_law_sign_by .nil passN (pa_cons (pe_call G_law_cell_at (hr.mono (by decide)) rfl T.m_law_cell_at T.k_law_cell_at T.b_law_cell_at .nil passN (pa_cons (pv 0) (pa_cons pe_int pa_nil))) pa_nil))) (pe_slice sl_str (pv 3) (po_some (pv 4)) po_none)))))) pss_nil)
    (pss_cons (ps_if (pt_cmpR op_eq (pv 1) pe_int (nomark _)) (pss_cons (ps_set (i := 4) sc_law_built.nd rfl (Or.inl rfl) (pe_op op_mod (pv 2) (pe_callB cl_lenS (by rfl) T.z_len (by decide +kernel) (pa_cons (pv 3) pa_nil))))
    (pss_one (ps_ret (pe_op op_add_str (pe_slice sl_str (pv 3) po_none (po_some (pv 4))) (pe_slice sl_str (pv 3) (po_some (pe_op op_add (pv 4) pe_int)) po_none))))) pss_nil)
    (pss_cons (ps_if (pt_cmpR op_eq (pv 1) pe_int (nomark _)) (pss_one (ps_ret (pe_call G_law_odd (hr.mono (by decide)) rfl T.m_law_odd T.k_law_odd T.b_law_odd .nil passN (pa_cons (pv 2) pa_nil)))) pss_nil)
    (pss_cons (ps_if (pt_cmpR op_eq (pv 1) pe_int (nomark _)) (pss_one (ps_ret (pe_op op_add_str (pe_op op_add_str pe_str (pe_ix ix_str pe_str (pe_op op_mod (pv 2) pe_int) (fun _ _ => rfl))) (pe_op op_mulS pe_str (pe_op op_add pe_int (pe_op op_mod (pe_call G_law_cell_at (hr.mono (by decide)) rfl T.m_law_cell_at T.k_law_cell_at T.b_law_cell_at .nil passN (pa_cons (pv 0) (pa_cons pe_int pa_nil))) pe_int)))))) pss_nil)
    (pss_one (ps_ret (pv 3))))))))))
abbrev sm_law : Stmt := (top 26)
theorem sc_law : FnScope N_law ["_law_script"] (defScope sm_law) := ⟨rfl, rfl, rfl, by decide +kernel, rfl, by decide +kernel, by decide +kernel⟩
theorem ok_law (T : Txt K mg A D w) (G_law_built : FnOk P w K mg base (L2N.CX P w) 3 D.f_law_built D.d_law_built ["_law_script"] (lift (P_law_built K A))) (G_law_due : FnOk P w K mg base (L2N.CX P w) 2 D.f_law_due D.d_law_due ["_law_line_here"] (lift (P_law_due K A))) (G_read : FnOk P w K mg base (L2N.CX P w) 2 D.f_read D.d_read ["line"] (lift (P_read K A))) (G_law_numbers : FnOk P w K mg base (L2N.CX P w) 2 D.f_law_numbers D.d_law_numbers ["_law_found", "_law_due_here"] (lift (P_law_numbers K A))) : FnOk P w K mg base (L2N.CX P w) 4 D.f_law D.d_law ["_law_script"] (lift (P_law K A)) := by
  refine funN T.F_law sc_law (lift_len pm1_len) (fun cdv Ar outer s H vs Q E hr h => ?_)
  have hu := hu_of hr
  refine ⟨t_law K A E, ?_, lift_body h fun L Qa Ea he p => p_law T.em_NoDeed_HeapError T.ki_NoDeed_NoHand T.ki_NoDeed_NoSlot T.ki_NoDeed_NoRoom T.ki_NoDeed_NothingHeld T.ki_NoDeed_NoDeed T.ki_NoDeed_ValueError T.ki_NoDeed_NoBox T.ki_NoDeed_NoWork T.ki_NoDeed_NoHeap he p⟩
  exact (pss_cons (ps_set (i := 1) sc_law.nd rfl (Or.inl rfl) (pe_call G_law_built (hr.mono (by decide)) rfl T.m_law_built T.k_law_built T.b_law_built .nil passN (pa_cons (pv 0) pa_nil)))
    (pss_cons (ps_set (i := 2) sc_law.nd rfl (Or.inl rfl) (pe_call G_law_due (hr.mono (by decide)) rfl T.m_law_due T.k_law_due T.b_law_due .nil passN (pa_cons (pv 1) pa_nil)))
    (pss_cons (L2N.ps_try_as (i := 3) (tb := fun W => (tAsg (tCallS (lift (P_read K A)) (WE W) (tCons (tVar 1) tNil)) (gName 4))) (ts := sAs [A.NoDeed] (fun Cx ax => (tSeq (tAsg (tLst (tCons (tCB (rIsE K Cx ax) (tCons (tVar 3) (tCons (tC (.ref A.NoHand)) tNil))) (tCons (tCB (rIsE K Cx ax) (tCons (tVar 3) (tCons (tC (.ref A.NoSlot)) tNil))) (tCons (tCB (rIsE K Cx ax) (tCons (tVar 3) (tCons (tC (.ref A.NoRoom)) tNil))) (tCons (tCB (rIsE K Cx ax) (tCons (tVar 3) (tCons (tC (.ref A.NothingHeld)) tNil))) tNil))))) (gName 5))
    (tSeq (tAsg (tOp rCat (tVar 5) (tLst (tCons (tCB (rIsE K Cx ax) (tCons (tVar 3) (tCons (tC (.ref A.NoBox)) tNil))) (tCons (tCB (rIsE K Cx ax) (tCons (tVar 3) (tCons (tC (.ref A.NoWork)) tNil))) (tCons (tCB (rIsE K Cx ax) (tCons (tVar 3) (tCons (tC (.ref A.NoHeap)) tNil))) tNil))))) (gName 5))
    (tRet (tAndV (tOp rIsNo (tVar 2) (tC .non)) (tAndV (tCB (rIsE K Cx ax) (tCons (tVar 3) (tCons (tC (.ref A.NoDeed)) tNil))) (tAndV (tCB (rIsE K Cx ax) (tCons (tVar 3) (tCons (tC (.ty "ValueError")) tNil))) (tNotV (tCB (rAny K) (tCons (tVar 5) tNil))))))))))) (Wout := fun _ _ _ _ => False) rfl rfl sc_law.nd rfl rfl ⟨rfl, by decide, Or.inl T.g_HeapError⟩ takesN0 (fun W pn xe tk _ => (pss_one (ps_set (i := 4) sc_law.nd rfl (Or.inl rfl) (pe_callS G_read (hr.mono (by decide)) rfl T.m_read T.k_read T.b_read (fun σ => L2N.passAt tk σ) (pa_cons (pv 1) pa_nil))))) (fun a oe cls d pn hz hf => pss_as fun Cx mx e1 e2 => by
      subst e1 e2
      exact (pss_cons (ps_set (i := 5) sc_law.nd rfl (Or.inl rfl) (pe_lst (pa_cons (pe_callB (call_isE (T.ecs_law Cx mx) hz.zc hf) (by rfl) T.z_isinstance (by decide +kernel) (pa_cons (pv 3) (pa_cons (pe_glob (v := .ref A.NoHand) rfl T.g_NoHand rfl) pa_nil))) (pa_cons (pe_callB (call_isE (T.ecs_law Cx mx) hz.zc hf) (by rfl) T.z_isinstance (by decide +kernel) (pa_cons (pv 3) (pa_cons (pe_glob (v := .ref A.NoSlot) rfl T.g_NoSlot rfl) pa_nil))) (pa_cons (pe_callB (call_isE (T.ecs_law Cx mx) hz.zc hf) (by rfl) T.z_isinstance (by decide +kernel) (pa_cons (pv 3) (pa_cons (pe_glob (v := .ref A.NoRoom) rfl T.g_NoRoom rfl) pa_nil))) (pa_cons (pe_callB (call_isE (T.ecs_law Cx mx) hz.zc hf) (by rfl) T.z_isinstance (by decide +kernel) (pa_cons (pv 3) (pa_cons (pe_glob (v := .ref A.NothingHeld) rfl T.g_NothingHeld rfl) pa_nil))) pa_nil))))))
    (pss_cons (ps_set (i := 5) sc_law.nd rfl (Or.inl rfl) (pe_op op_cat (pv 5) (pe_lst (pa_cons (pe_callB (call_isE (T.ecs_law Cx mx) hz.zc hf) (by rfl) T.z_isinstance (by decide +kernel) (pa_cons (pv 3) (pa_cons (pe_glob (v := .ref A.NoBox) rfl T.g_NoBox rfl) pa_nil))) (pa_cons (pe_callB (call_isE (T.ecs_law Cx mx) hz.zc hf) (by rfl) T.z_isinstance (by decide +kernel) (pa_cons (pv 3) (pa_cons (pe_glob (v := .ref A.NoWork) rfl T.g_NoWork rfl) pa_nil))) (pa_cons (pe_callB (call_isE (T.ecs_law Cx mx) hz.zc hf) (by rfl) T.z_isinstance (by decide +kernel) (pa_cons (pv 3) (pa_cons (pe_glob (v := .ref A.NoHeap) rfl T.g_NoHeap rfl) pa_nil))) pa_nil))))))
    (pss_one (ps_ret (pe_and (pe_cmpR op_isNo (pv 2) pe_non (nomark _)) (pe_and (pe_callB (call_isE (T.ecs_law Cx mx) hz.zc hf) (by rfl) T.z_isinstance (by decide +kernel) (pa_cons (pv 3) (pa_cons (pe_glob (v := .ref A.NoDeed) rfl T.g_NoDeed rfl) pa_nil))) (pe_and (pe_callB (call_isE (T.ecs_law Cx mx) hz.zc hf) (by rfl) T.z_isinstance (by decide +kernel) (pa_cons (pv 3) (pa_cons (pe_bltn (v := .ty "ValueError") rfl T.z_ValueError (by decide +kernel) rfl) pa_nil))) (pe_one (pe_not (pe_callB (cr_anyH (hot_of hz hf)) (by rfl) T.z_any (by decide +kernel) (pa_cons (pv 5) pa_nil)))))))))))))
    (pss_cons (ps_if (PW.pt (pw_or (pt_cmpR op_isNo (pv 2) pe_non (nomark _)) (pw_or (pt_not (pt_val (pe_callB call_isi (by rfl) T.z_isinstance (by decide +kernel) (pa_cons (pv 4) (pa_cons (pe_bltn (v := .ty "tuple") rfl T.z_tuple (by decide +kernel) rfl) pa_nil))))) (pw_or1 (pt_cmpR op_ne (pe_callB cl_len (by rfl) T.z_len (by decide +kernel) (pa_cons (pv 4) pa_nil)) (pe_op op_add pe_int (pe_callB cl_len (by rfl) T.z_len (by decide +kernel) (pa_cons (pe_ix ix_tup (pv 2) pe_int (fun _ _ => rfl)) pa_nil))) (nomark _)))))) (pss_one (ps_ret pe_bl)) pss_nil)
    (pss_one (ps_ret (pe_and (pe_callB call_isi (by rfl) T.z_isinstance (by decide +kernel) (pa_cons (pe_ix ix_tup (pv 4) pe_int (fun _ _ => rfl)) (pa_cons (pe_bltn (v := .ty "str") rfl T.z_str (by decide +kernel) rfl) pa_nil))) (pe_and (pe_cmpR op_eq (pe_ix ix_tup (pv 4) pe_int (fun _ _ => rfl)) (pe_ix ix_tup (pv 2) pe_int (fun _ _ => rfl)) (nomark _)) (pe_one (pe_call G_law_numbers (hr.mono (by decide)) rfl T.m_law_numbers T.k_law_numbers T.b_law_numbers .nil passN (pa_cons (pe_callTy cl_list (by rfl) T.z_list (by decide +kernel) (pa_cons (pe_slice sl_tup (pv 4) (po_some pe_int) po_none) pa_nil)) (pa_cons (pe_ix ix_tup (pv 2) pe_int (fun _ _ => rfl)) pa_nil))))))))))))
end
theorem all_mk {l : PySem.W.OpenLaw} {w : World} {K : PySem.W.Frag} {h : Heap} {mg : Str → Option Value} {fa : Addr} {f_law_whole f_number_of f_law_number f_law_cell_at f_law_sign_by f_law_odd f_law_numbers f_read f_law_due f_law_line f_law_built f_law cHeapError cNoHand cNoSlot cNoRoom cNothingHeld cNoBox cNoWork cNoHeap cNoDeed : Addr} (X : K.In h) (G : h.Ns mainGlobals mg) (hfa : mg "law" = some (.ref fa))
    {od_law_whole an_law_whole od_number_of an_number_of od_law_number an_law_number od_law_cell_at an_law_cell_at od_law_sign_by an_law_sign_by od_law_odd an_law_odd od_law_numbers an_law_numbers od_read an_read od_law_due an_law_due od_law_line an_law_line od_law_built an_law_built od_law an_law : Option Addr} {sl_law_whole sl_number_of sl_law_number sl_law_cell_at sl_law_sign_by sl_law_odd sl_law_numbers sl_read sl_law_due sl_law_line sl_law_built sl_law : Array (Option Value)} {oc_law_whole kV_law_whole dc_law_whole pm_law_whole cd_law_whole ct_law_whole oc_number_of kV_number_of dc_number_of pm_number_of cd_number_of ct_number_of oc_law_number kV_law_number dc_law_number pm_law_number cd_law_number ct_law_number oc_law_cell_at kV_law_cell_at dc_law_cell_at pm_law_cell_at cd_law_cell_at ct_law_cell_at oc_law_sign_by kV_law_sign_by dc_law_sign_by pm_law_sign_by cd_law_sign_by ct_law_sign_by oc_law_odd kV_law_odd dc_law_odd pm_law_odd cd_law_odd ct_law_odd oc_law_numbers kV_law_numbers dc_law_numbers pm_law_numbers cd_law_numbers ct_law_numbers oc_read kV_read dc_read pm_read cd_read ct_read oc_law_due kV_law_due dc_law_due pm_law_due cd_law_due ct_law_due oc_law_line kV_law_line dc_law_line pm_law_line cd_law_line ct_law_line oc_law_built kV_law_built dc_law_built pm_law_built cd_law_built ct_law_built oc_law kV_law dc_law pm_law cd_law ct_law : Value}
    {cCOUNTS : Addr} {es_COUNTS : Array DictEntry} {nn_COUNTS : Nat}
    {tk_FIGURES tk_MOST_FIGURES : Tok}
    (a_law_whole : PySem.W.nsIn K mainGlobals "_law_whole" = some (some (.ref f_law_whole)))
    (l_law_whole : K.lookup f_law_whole = some ⟨oc_law_whole, od_law_whole, .func (PySem.W.fnOf "_law_whole" "_law_whole" (defArgs sm_law_whole) (defBody sm_law_whole) (defScope sm_law_whole) .none kV_law_whole dc_law_whole pm_law_whole an_law_whole cd_law_whole ct_law_whole), sl_law_whole⟩)
    (c_law_whole : PySem.W.codeIn K cd_law_whole "_law_whole" = true)
    (k_law_whole : PySem.W.keepIn K (.ref f_law_whole) = true)
    (a_number_of : PySem.W.nsIn K mainGlobals "number_of" = some (some (.ref f_number_of)))
    (l_number_of : K.lookup f_number_of = some ⟨oc_number_of, od_number_of, .func (PySem.W.fnOf "number_of" "number_of" (defArgs sm_number_of) (defBody sm_number_of) (defScope sm_number_of) .none kV_number_of dc_number_of pm_number_of an_number_of cd_number_of ct_number_of), sl_number_of⟩)
    (c_number_of : PySem.W.codeIn K cd_number_of "number_of" = true)
    (k_number_of : PySem.W.keepIn K (.ref f_number_of) = true)
    (a_law_number : PySem.W.nsIn K mainGlobals "_law_number" = some (some (.ref f_law_number)))
    (l_law_number : K.lookup f_law_number = some ⟨oc_law_number, od_law_number, .func (PySem.W.fnOf "_law_number" "_law_number" (defArgs sm_law_number) (defBody sm_law_number) (defScope sm_law_number) .none kV_law_number dc_law_number pm_law_number an_law_number cd_law_number ct_law_number), sl_law_number⟩)
    (c_law_number : PySem.W.codeIn K cd_law_number "_law_number" = true)
    (k_law_number : PySem.W.keepIn K (.ref f_law_number) = true)
    (a_law_cell_at : PySem.W.nsIn K mainGlobals "_law_cell_at" = some (some (.ref f_law_cell_at)))
    (l_law_cell_at : K.lookup f_law_cell_at = some ⟨oc_law_cell_at, od_law_cell_at, .func (PySem.W.fnOf "_law_cell_at" "_law_cell_at" (defArgs sm_law_cell_at) (defBody sm_law_cell_at) (defScope sm_law_cell_at) .none kV_law_cell_at dc_law_cell_at pm_law_cell_at an_law_cell_at cd_law_cell_at ct_law_cell_at), sl_law_cell_at⟩)
    (c_law_cell_at : PySem.W.codeIn K cd_law_cell_at "_law_cell_at" = true)
    (k_law_cell_at : PySem.W.keepIn K (.ref f_law_cell_at) = true)
    (a_law_sign_by : PySem.W.nsIn K mainGlobals "_law_sign_by" = some (some (.ref f_law_sign_by)))
    (l_law_sign_by : K.lookup f_law_sign_by = some ⟨oc_law_sign_by, od_law_sign_by, .func (PySem.W.fnOf "_law_sign_by" "_law_sign_by" (defArgs sm_law_sign_by) (defBody sm_law_sign_by) (defScope sm_law_sign_by) .none kV_law_sign_by dc_law_sign_by pm_law_sign_by an_law_sign_by cd_law_sign_by ct_law_sign_by), sl_law_sign_by⟩)
    (c_law_sign_by : PySem.W.codeIn K cd_law_sign_by "_law_sign_by" = true)
    (k_law_sign_by : PySem.W.keepIn K (.ref f_law_sign_by) = true)
    (a_law_odd : PySem.W.nsIn K mainGlobals "_law_odd" = some (some (.ref f_law_odd)))
    (l_law_odd : K.lookup f_law_odd = some ⟨oc_law_odd, od_law_odd, .func (PySem.W.fnOf "_law_odd" "_law_odd" (defArgs sm_law_odd) (defBody sm_law_odd) (defScope sm_law_odd) .none kV_law_odd dc_law_odd pm_law_odd an_law_odd cd_law_odd ct_law_odd), sl_law_odd⟩)
    (c_law_odd : PySem.W.codeIn K cd_law_odd "_law_odd" = true)
    (k_law_odd : PySem.W.keepIn K (.ref f_law_odd) = true)
    (a_law_numbers : PySem.W.nsIn K mainGlobals "_law_numbers" = some (some (.ref f_law_numbers)))
    (l_law_numbers : K.lookup f_law_numbers = some ⟨oc_law_numbers, od_law_numbers, .func (PySem.W.fnOf "_law_numbers" "_law_numbers" (defArgs sm_law_numbers) (defBody sm_law_numbers) (defScope sm_law_numbers) .none kV_law_numbers dc_law_numbers pm_law_numbers an_law_numbers cd_law_numbers ct_law_numbers), sl_law_numbers⟩)
    (c_law_numbers : PySem.W.codeIn K cd_law_numbers "_law_numbers" = true)
    (k_law_numbers : PySem.W.keepIn K (.ref f_law_numbers) = true)
    (a_read : PySem.W.nsIn K mainGlobals "read" = some (some (.ref f_read)))
    (l_read : K.lookup f_read = some ⟨oc_read, od_read, .func (PySem.W.fnOf "read" "read" (defArgs sm_read) (defBody sm_read) (defScope sm_read) .none kV_read dc_read pm_read an_read cd_read ct_read), sl_read⟩)
    (c_read : PySem.W.codeIn K cd_read "read" = true)
    (k_read : PySem.W.keepIn K (.ref f_read) = true)
    (a_law_due : PySem.W.nsIn K mainGlobals "_law_due" = some (some (.ref f_law_due)))
    (l_law_due : K.lookup f_law_due = some ⟨oc_law_due, od_law_due, .func (PySem.W.fnOf "_law_due" "_law_due" (defArgs sm_law_due) (defBody sm_law_due) (defScope sm_law_due) .none kV_law_due dc_law_due pm_law_due an_law_due cd_law_due ct_law_due), sl_law_due⟩)
    (c_law_due : PySem.W.codeIn K cd_law_due "_law_due" = true)
    (k_law_due : PySem.W.keepIn K (.ref f_law_due) = true)
    (a_law_line : PySem.W.nsIn K mainGlobals "_law_line" = some (some (.ref f_law_line)))
    (l_law_line : K.lookup f_law_line = some ⟨oc_law_line, od_law_line, .func (PySem.W.fnOf "_law_line" "_law_line" (defArgs sm_law_line) (defBody sm_law_line) (defScope sm_law_line) .none kV_law_line dc_law_line pm_law_line an_law_line cd_law_line ct_law_line), sl_law_line⟩)
    (c_law_line : PySem.W.codeIn K cd_law_line "_law_line" = true)
    (k_law_line : PySem.W.keepIn K (.ref f_law_line) = true)
    (a_law_built : PySem.W.nsIn K mainGlobals "_law_built" = some (some (.ref f_law_built)))
    (l_law_built : K.lookup f_law_built = some ⟨oc_law_built, od_law_built, .func (PySem.W.fnOf "_law_built" "_law_built" (defArgs sm_law_built) (defBody sm_law_built) (defScope sm_law_built) .none kV_law_built dc_law_built pm_law_built an_law_built cd_law_built ct_law_built), sl_law_built⟩)
    (c_law_built : PySem.W.codeIn K cd_law_built "_law_built" = true)
    (k_law_built : PySem.W.keepIn K (.ref f_law_built) = true)
    (a_law : PySem.W.nsIn K mainGlobals "law" = some (some (.ref f_law)))
    (l_law : K.lookup f_law = some ⟨oc_law, od_law, .func (PySem.W.fnOf "law" "law" (defArgs sm_law) (defBody sm_law) (defScope sm_law) .none kV_law dc_law pm_law an_law cd_law ct_law), sl_law⟩)
    (c_law : PySem.W.codeIn K cd_law "law" = true)
    (k_law : PySem.W.keepIn K (.ref f_law) = true)
    (g_HeapError : PySem.W.nsIn K mainGlobals "HeapError" = some (some (.ref cHeapError)))
    (g_NoHand : PySem.W.nsIn K mainGlobals "NoHand" = some (some (.ref cNoHand)))
    (g_NoSlot : PySem.W.nsIn K mainGlobals "NoSlot" = some (some (.ref cNoSlot)))
    (g_NoRoom : PySem.W.nsIn K mainGlobals "NoRoom" = some (some (.ref cNoRoom)))
    (g_NothingHeld : PySem.W.nsIn K mainGlobals "NothingHeld" = some (some (.ref cNothingHeld)))
    (g_NoBox : PySem.W.nsIn K mainGlobals "NoBox" = some (some (.ref cNoBox)))
    (g_NoWork : PySem.W.nsIn K mainGlobals "NoWork" = some (some (.ref cNoWork)))
    (g_NoHeap : PySem.W.nsIn K mainGlobals "NoHeap" = some (some (.ref cNoHeap)))
    (g_NoDeed : PySem.W.nsIn K mainGlobals "NoDeed" = some (some (.ref cNoDeed)))
    (x_NoDeed : PySem.W.excIn K cNoDeed [.type "ValueError", .type "Exception", .type "BaseException", .type "object"] "ValueError.__new__" = true)
    (kx_NoDeed : PySem.W.keepIn K (.ref cNoDeed) = true)
    (bx_NoDeed : PySem.W.subIn K (.ref cNoDeed) (.type "BaseException") = some true)
    (tx_NoDeed : PySem.W.typeIn K (.ref cNoDeed) = some (.type "type"))
    (bx_HeapError : PySem.W.subIn K (.ref cHeapError) (.type "BaseException") = some true)
    (tx_HeapError : PySem.W.typeIn K (.ref cHeapError) = some (.type "type"))
    (ix_HeapError : PySem.W.isClsIn K cHeapError = true)
    (sb_NoDeed_HeapError : PySem.W.subIn K (.ref cNoDeed) (.ref cHeapError) = some true)
    (ec1_NoDeed : PySem.W.findIn K (.ref cNoDeed) "__getattribute__" = some (some (.builtin "BaseException.__getattribute__")))
    (ec2_NoDeed : PySem.W.findIn K (.ref cNoDeed) "__getattr__" = some none)
    (ec3_NoDeed : PySem.W.hasDictIn K cNoDeed = true)
    (ec4_NoDeed : PySem.W.findIn K (.ref cNoDeed) "__class__" = some (some (.builtin "object.__class__")))
    (ec5_NoDeed : PySem.W.mroIn K cNoDeed (.type "object") = some true)
    (ec6 : PySem.W.specialIn K (.builtin "object.__class__") "__get__" = some (some (.builtin "getset_descriptor.__get__")))
    (ec7 : PySem.W.takesIn K (.builtin "object.__class__") = some true)
    (tx_NoBox : PySem.W.typeIn K (.ref cNoBox) = some (.type "type"))
    (ix_NoBox : PySem.W.isClsIn K cNoBox = true)
    (sb_NoDeed_NoBox : PySem.W.subIn K (.ref cNoDeed) (.ref cNoBox) = some false)
    (ne_NoDeed_NoBox : (cNoDeed == cNoBox) = false)
    (tx_NoHand : PySem.W.typeIn K (.ref cNoHand) = some (.type "type"))
    (ix_NoHand : PySem.W.isClsIn K cNoHand = true)
    (sb_NoDeed_NoHand : PySem.W.subIn K (.ref cNoDeed) (.ref cNoHand) = some false)
    (ne_NoDeed_NoHand : (cNoDeed == cNoHand) = false)
    (tx_NoHeap : PySem.W.typeIn K (.ref cNoHeap) = some (.type "type"))
    (ix_NoHeap : PySem.W.isClsIn K cNoHeap = true)
    (sb_NoDeed_NoHeap : PySem.W.subIn K (.ref cNoDeed) (.ref cNoHeap) = some false)
    (ne_NoDeed_NoHeap : (cNoDeed == cNoHeap) = false)
    (tx_NoRoom : PySem.W.typeIn K (.ref cNoRoom) = some (.type "type"))
    (ix_NoRoom : PySem.W.isClsIn K cNoRoom = true)
    (sb_NoDeed_NoRoom : PySem.W.subIn K (.ref cNoDeed) (.ref cNoRoom) = some false)
    (ne_NoDeed_NoRoom : (cNoDeed == cNoRoom) = false)
    (tx_NoSlot : PySem.W.typeIn K (.ref cNoSlot) = some (.type "type"))
    (ix_NoSlot : PySem.W.isClsIn K cNoSlot = true)
    (sb_NoDeed_NoSlot : PySem.W.subIn K (.ref cNoDeed) (.ref cNoSlot) = some false)
    (ne_NoDeed_NoSlot : (cNoDeed == cNoSlot) = false)
    (tx_NoWork : PySem.W.typeIn K (.ref cNoWork) = some (.type "type"))
    (ix_NoWork : PySem.W.isClsIn K cNoWork = true)
    (sb_NoDeed_NoWork : PySem.W.subIn K (.ref cNoDeed) (.ref cNoWork) = some false)
    (ne_NoDeed_NoWork : (cNoDeed == cNoWork) = false)
    (tx_NothingHeld : PySem.W.typeIn K (.ref cNothingHeld) = some (.type "type"))
    (ix_NothingHeld : PySem.W.isClsIn K cNothingHeld = true)
    (sb_NoDeed_NothingHeld : PySem.W.subIn K (.ref cNoDeed) (.ref cNothingHeld) = some false)
    (ne_NoDeed_NothingHeld : (cNoDeed == cNothingHeld) = false)
    (vb_NoDeed : PySem.W.subIn K (.ref cNoDeed) (.type "ValueError") = some true)
    (z_ValueError : PySem.W.nsIn K mainGlobals "ValueError" = some none)
    (z_any : PySem.W.nsIn K mainGlobals "any" = some none)
    (z_bool : PySem.W.nsIn K mainGlobals "bool" = some none)
    (z_int : PySem.W.nsIn K mainGlobals "int" = some none)
    (z_isinstance : PySem.W.nsIn K mainGlobals "isinstance" = some none)
    (z_len : PySem.W.nsIn K mainGlobals "len" = some none)
    (z_list : PySem.W.nsIn K mainGlobals "list" = some none)
    (z_range : PySem.W.nsIn K mainGlobals "range" = some none)
    (z_str : PySem.W.nsIn K mainGlobals "str" = some none)
    (z_tuple : PySem.W.nsIn K mainGlobals "tuple" = some none)
    (c_COUNTS : PySem.W.nsIn K mainGlobals "COUNTS" = some (some (.ref cCOUNTS)))
    (lk_COUNTS : K.lookup cCOUNTS = some ⟨.type "dict", none, .dict es_COUNTS nn_COUNTS, #[]⟩)
    (kl_COUNTS : PySem.W.KeysLit w.params es_COUNTS.toList)
    (sm_COUNTS : (cCOUNTS == sysModules) = false)
    (kt_COUNTS : KeyedT es_COUNTS.toList wTab)
    (c_FIGURES : PySem.W.nsIn K mainGlobals "FIGURES" = some (some (.str "0123456789" tk_FIGURES)))
    (c_MOST_FIGURES : PySem.W.nsIn K mainGlobals "MOST_FIGURES" = some (some (.int 60 tk_MOST_FIGURES)))
    : ∃ fd : FuncData, (∀ (s : Shared) (v : Value), BindsTo s fd ⟨[v], []⟩ [("_law_script", v)]) ∧ ∀ base : Heap, K.In base → base.Ns mainGlobals mg → FnOk l.prog w K mg base (L2N.CX l.prog w) 4 fa fd ["_law_script"] (lift (P_law K Ex0)) := by
  have e := hfa.symm.trans (PySem.W.mg_of X G a_law)
  cases e
  have F_law_whole := fun_mk (st := sm_law_whole) l_law_whole c_law_whole k_law_whole
  have F_number_of := fun_mk (st := sm_number_of) l_number_of c_number_of k_number_of
  have F_law_number := fun_mk (st := sm_law_number) l_law_number c_law_number k_law_number
  have F_law_cell_at := fun_mk (st := sm_law_cell_at) l_law_cell_at c_law_cell_at k_law_cell_at
  have F_law_sign_by := fun_mk (st := sm_law_sign_by) l_law_sign_by c_law_sign_by k_law_sign_by
  have F_law_odd := fun_mk (st := sm_law_odd) l_law_odd c_law_odd k_law_odd
  have F_law_numbers := fun_mk (st := sm_law_numbers) l_law_numbers c_law_numbers k_law_numbers
  have F_read := fun_mk (st := sm_read) l_read c_read k_read
  have F_law_due := fun_mk (st := sm_law_due) l_law_due c_law_due k_law_due
  have F_law_line := fun_mk (st := sm_law_line) l_law_line c_law_line k_law_line
  have F_law_built := fun_mk (st := sm_law_built) l_law_built c_law_built k_law_built
  have F_law := fun_mk (st := sm_law) l_law c_law k_law
  have b_law_whole := F_law_whole.binds (ps := ["_law_found"]) fun _ _ _ _ _ _ us hl => match us, hl with | [_], _ => rfl
  have b_number_of := F_number_of.binds (ps := ["figures"]) fun _ _ _ _ _ _ us hl => match us, hl with | [_], _ => rfl
  have b_law_number := F_law_number.binds (ps := ["_law_part"]) fun _ _ _ _ _ _ us hl => match us, hl with | [_], _ => rfl
  have b_law_cell_at := F_law_cell_at.binds (ps := ["_law_script", "_law_k"]) fun _ _ _ _ _ _ us hl => match us, hl with | [_, _], _ => rfl
  have b_law_sign_by := F_law_sign_by.binds (ps := ["_law_cell"]) fun _ _ _ _ _ _ us hl => match us, hl with | [_], _ => rfl
  have b_law_odd := F_law_odd.binds (ps := ["_law_cell"]) fun _ _ _ _ _ _ us hl => match us, hl with | [_], _ => rfl
  have b_law_numbers := F_law_numbers.binds (ps := ["_law_found", "_law_due_here"]) fun _ _ _ _ _ _ us hl => match us, hl with | [_, _], _ => rfl
  have b_read := F_read.binds (ps := ["line"]) fun _ _ _ _ _ _ us hl => match us, hl with | [_], _ => rfl
  have b_law_due := F_law_due.binds (ps := ["_law_line_here"]) fun _ _ _ _ _ _ us hl => match us, hl with | [_], _ => rfl
  have b_law_line := F_law_line.binds (ps := ["_law_script"]) fun _ _ _ _ _ _ us hl => match us, hl with | [_], _ => rfl
  have b_law_built := F_law_built.binds (ps := ["_law_script"]) fun _ _ _ _ _ _ us hl => match us, hl with | [_], _ => rfl
  have b_law := F_law.binds (ps := ["_law_script"]) fun _ _ _ _ _ _ us hl => match us, hl with | [_], _ => rfl
  let D : Dd := { f_law_whole := f_law_whole, d_law_whole := PySem.W.fnOf "_law_whole" "_law_whole" (defArgs sm_law_whole) (defBody sm_law_whole) (defScope sm_law_whole) .none kV_law_whole dc_law_whole pm_law_whole an_law_whole cd_law_whole ct_law_whole, f_number_of := f_number_of, d_number_of := PySem.W.fnOf "number_of" "number_of" (defArgs sm_number_of) (defBody sm_number_of) (defScope sm_number_of) .none kV_number_of dc_number_of pm_number_of an_number_of cd_number_of ct_number_of, f_law_number := f_law_number, d_law_number := PySem.W.fnOf "_law_number" "_law_number" (defArgs sm_law_number) (defBody sm_law_number) (defScope sm_law_number) .none kV_law_number dc_law_number pm_law_number an_law_number cd_law_number ct_law_number, f_law_cell_at := f_law_cell_at, d_law_cell_at := PySem.W.fnOf "_law_cell_at" "_law_cell_at" (defArgs sm_law_cell_at) (defBody sm_law_cell_at) (defScope sm_law_cell_at) .none kV_law_cell_at dc_law_cell_at pm_law_cell_at an_law_cell_at cd_law_cell_at ct_law_cell_at, f_law_sign_by := f_law_sign_by, d_law_sign_by := PySem.W.fnOf "_law_sign_by" "_law_sign_by" (defArgs sm_law_sign_by) (defBody sm_law_sign_by) (defScope sm_law_sign_by) .none kV_law_sign_by dc_law_sign_by pm_law_sign_by an_law_sign_by cd_law_sign_by ct_law_sign_by, f_law_odd := f_law_odd, d_law_odd := PySem.W.fnOf "_law_odd" "_law_odd" (defArgs sm_law_odd) (defBody sm_law_odd) (defScope sm_law_odd) .none kV_law_odd dc_law_odd pm_law_odd an_law_odd cd_law_odd ct_law_odd, f_law_numbers := f_law_numbers, d_law_numbers := PySem.W.fnOf "_law_numbers" "_law_numbers" (defArgs sm_law_numbers) (defBody sm_law_numbers) (defScope sm_law_numbers) .none kV_law_numbers dc_law_numbers pm_law_numbers an_law_numbers cd_law_numbers ct_law_numbers, f_read := f_read, d_read := PySem.W.fnOf "read" "read" (defArgs sm_read) (defBody sm_read) (defScope sm_read) .none kV_read dc_read pm_read an_read cd_read ct_read, f_law_due := f_law_due, d_law_due := PySem.W.fnOf "_law_due" "_law_due" (defArgs sm_law_due) (defBody sm_law_due) (defScope sm_law_due) .none kV_law_due dc_law_due pm_law_due an_law_due cd_law_due ct_law_due, f_law_line := f_law_line, d_law_line := PySem.W.fnOf "_law_line" "_law_line" (defArgs sm_law_line) (defBody sm_law_line) (defScope sm_law_line) .none kV_law_line dc_law_line pm_law_line an_law_line cd_law_line ct_law_line, f_law_built := f_law_built, d_law_built := PySem.W.fnOf "_law_built" "_law_built" (defArgs sm_law_built) (defBody sm_law_built) (defScope sm_law_built) .none kV_law_built dc_law_built pm_law_built an_law_built cd_law_built ct_law_built, f_law := fa, d_law := PySem.W.fnOf "law" "law" (defArgs sm_law) (defBody sm_law) (defScope sm_law) .none kV_law dc_law pm_law an_law cd_law ct_law }
  let A : Ex := { Heap := 0, HeapError := cHeapError, NoHand := cNoHand, NoSlot := cNoSlot, NoRoom := cNoRoom, NothingHeld := cNothingHeld, NoBox := cNoBox, NoWork := cNoWork, NoHeap := cNoHeap, NoDeed := cNoDeed, COUNTS := cCOUNTS }
  have T : Txt K mg A D w := { F_law_whole := F_law_whole, b_law_whole := b_law_whole, m_law_whole := PySem.W.mg_of X G a_law_whole, k_law_whole := k_law_whole, F_number_of := F_number_of, b_number_of := b_number_of, m_number_of := PySem.W.mg_of X G a_number_of, k_number_of := k_number_of, F_law_number := F_law_number, b_law_number := b_law_number, m_law_number := PySem.W.mg_of X G a_law_number, k_law_number := k_law_number, F_law_cell_at := F_law_cell_at, b_law_cell_at := b_law_cell_at, m_law_cell_at := PySem.W.mg_of X G a_law_cell_at, k_law_cell_at := k_law_cell_at, F_law_sign_by := F_law_sign_by, b_law_sign_by := b_law_sign_by, m_law_sign_by := PySem.W.mg_of X G a_law_sign_by, k_law_sign_by := k_law_sign_by, F_law_odd := F_law_odd, b_law_odd := b_law_odd, m_law_odd := PySem.W.mg_of X G a_law_odd, k_law_odd := k_law_odd, F_law_numbers := F_law_numbers, b_law_numbers := b_law_numbers, m_law_numbers := PySem.W.mg_of X G a_law_numbers, k_law_numbers := k_law_numbers, F_read := F_read, b_read := b_read, m_read := PySem.W.mg_of X G a_read, k_read := k_read, F_law_due := F_law_due, b_law_due := b_law_due, m_law_due := PySem.W.mg_of X G a_law_due, k_law_due := k_law_due, F_law_line := F_law_line, b_law_line := b_law_line, m_law_line := PySem.W.mg_of X G a_law_line, k_law_line := k_law_line, F_law_built := F_law_built, b_law_built := b_law_built, m_law_built := PySem.W.mg_of X G a_law_built, k_law_built := k_law_built, F_law := F_law, b_law := b_law, m_law := PySem.W.mg_of X G a_law, k_law := k_law, g_HeapError := PySem.W.mg_of X G g_HeapError, g_NoHand := PySem.W.mg_of X G g_NoHand, g_NoSlot := PySem.W.mg_of X G g_NoSlot, g_NoRoom := PySem.W.mg_of X G g_NoRoom, g_NothingHeld := PySem.W.mg_of X G g_NothingHeld, g_NoBox := PySem.W.mg_of X G g_NoBox, g_NoWork := PySem.W.mg_of X G g_NoWork, g_NoHeap := PySem.W.mg_of X G g_NoHeap, g_NoDeed := PySem.W.mg_of X G g_NoDeed, x_NoDeed := x_NoDeed, kx_NoDeed := kx_NoDeed, bx_NoDeed := bx_NoDeed, tx_NoDeed := tx_NoDeed, em_NoDeed_HeapError := exm_of bx_HeapError ix_HeapError tx_HeapError sb_NoDeed_HeapError, ki_NoDeed_NoBox := kit_own ne_NoDeed_NoBox ix_NoBox tx_NoBox sb_NoDeed_NoBox, ki_NoDeed_NoDeed := kit_self, ki_NoDeed_NoHand := kit_own ne_NoDeed_NoHand ix_NoHand tx_NoHand sb_NoDeed_NoHand, ki_NoDeed_NoHeap := kit_own ne_NoDeed_NoHeap ix_NoHeap tx_NoHeap sb_NoDeed_NoHeap, ki_NoDeed_NoRoom := kit_own ne_NoDeed_NoRoom ix_NoRoom tx_NoRoom sb_NoDeed_NoRoom, ki_NoDeed_NoSlot := kit_own ne_NoDeed_NoSlot ix_NoSlot tx_NoSlot sb_NoDeed_NoSlot, ki_NoDeed_NoWork := kit_own ne_NoDeed_NoWork ix_NoWork tx_NoWork sb_NoDeed_NoWork, ki_NoDeed_NothingHeld := kit_own ne_NoDeed_NothingHeld ix_NothingHeld tx_NothingHeld sb_NoDeed_NothingHeld, ki_NoDeed_ValueError := kit_val vb_NoDeed, ecs_law := List.forall_mem_cons.mpr ⟨⟨ec1_NoDeed, ec2_NoDeed, bx_NoDeed, ec3_NoDeed, ec4_NoDeed, ec6, ec7, ec5_NoDeed⟩, List.forall_mem_nil _⟩, z_ValueError := PySem.W.mg_none_of X G z_ValueError, z_any := PySem.W.mg_none_of X G z_any, z_bool := PySem.W.mg_none_of X G z_bool, z_int := PySem.W.mg_none_of X G z_int, z_isinstance := PySem.W.mg_none_of X G z_isinstance, z_len := PySem.W.mg_none_of X G z_len, z_list := PySem.W.mg_none_of X G z_list, z_range := PySem.W.mg_none_of X G z_range, z_str := PySem.W.mg_none_of X G z_str, z_tuple := PySem.W.mg_none_of X G z_tuple, c_COUNTS := PySem.W.mg_of X G c_COUNTS, W_COUNTS := wdict_of lk_COUNTS kl_COUNTS sm_COUNTS kt_COUNTS, c_FIGURES := ⟨_, PySem.W.mg_of X G c_FIGURES⟩, c_MOST_FIGURES := ⟨_, PySem.W.mg_of X G c_MOST_FIGURES⟩ }
  refine ⟨D.d_law, fun s v => .of_eq rfl, fun base _ _ => ?_⟩
  have G_law_whole := ok_law_whole (P := l.prog) (w := w) (base := base) T 
  have G_number_of := ok_number_of (P := l.prog) (w := w) (base := base) T 
  have G_law_number := ok_law_number (P := l.prog) (w := w) (base := base) T 
  have G_law_cell_at := ok_law_cell_at (P := l.prog) (w := w) (base := base) T 
  have G_law_sign_by := ok_law_sign_by (P := l.prog) (w := w) (base := base) T 
  have G_law_odd := ok_law_odd (P := l.prog) (w := w) (base := base) T 
  have G_law_numbers := ok_law_numbers (P := l.prog) (w := w) (base := base) T G_law_whole
  have G_read := ok_read (P := l.prog) (w := w) (base := base) T G_number_of
  have G_law_due := ok_law_due (P := l.prog) (w := w) (base := base) T G_law_number
  have G_law_line := ok_law_line (P := l.prog) (w := w) (base := base) T G_law_cell_at
  have G_law_built := ok_law_built (P := l.prog) (w := w) (base := base) T G_law_cell_at G_law_line G_law_odd G_law_sign_by
  exact ok_law T G_law_built G_law_due G_read G_law_numbers
theorem walk {l : PySem.W.OpenLaw} {q : Program} {loose : List Str} {XP : (Str → Option Value) → Heap → Prop} {YP : World → Heap → Prop} {d : DefRec} {K : Params → PySem.W.Frag} (hn : l.most = some 63) (hdf : d.params.defaults = [])
    (hY : ∀ (w : World) (h : Heap), YP w h → (K w.params).In h)
    (F : ∀ (w : World) (mg : Str → Option Value) (fa : Addr) (h : Heap), (K w.params).In h → h.Ns mainGlobals mg → mg d.name = some (.ref fa) →
      ∃ fd : FuncData, (∀ (s : Shared) (u : Value), BindsTo s fd ⟨[u], []⟩ [("_law_script", u)]) ∧ ∀ base : Heap, (K w.params).In base → base.Ns mainGlobals mg → FnOk l.prog w (K w.params) mg base (L2N.CX l.prog w) 4 fa fd ["_law_script"] (lift (P_law (K w.params) Ex0))) :
    PySem.W.WalkO q loose XP YP l.row.toRowW d [] (fun f vs => PySem.call f vs) :=
  L2.walk_of (n := 63) (k := 4) (x := "_law_script") (CX := fun w => L2N.CX l.prog w) (sp := fun w => lift (P_law (K w.params) Ex0)) hn (by decide) hdf ⟨rfl, by decide, by decide⟩ hY F (fun w H a ns hl _ hS => law_start hl hS) fun _ _ _ _ _ z => by
    obtain ⟨_, _, _, _, _, _, _, _, _, _, _, _, z⟩ := z
    exact z
end Mp
open PySem PySem.W PyProof.Rows
set_option maxRecDepth 100000 in
set_option maxHeartbeats 0 in
theorem PySem.Challenge.cw_markpause_k03_read_holds : PySem.Challenge.rw_markpause_k03_read.Holds := by
  w_on; o_law; k_head; (case hw => w_witness2)
  k_fill
  refine Mp.walk (l := PySem.Challenge.rw_markpause_k03_read) rfl rfl (fun w h Y => PySem.W.kIn_of Y) ?F
  case F =>
    intro w mg fa h KX G hmg
    refine' Mp.all_mk KX G hmg ?a_law_whole ?l_law_whole ?c_law_whole ?k_law_whole ?a_number_of ?l_number_of ?c_number_of ?k_number_of ?a_law_number ?l_law_number ?c_law_number ?k_law_number ?a_law_cell_at ?l_law_cell_at ?c_law_cell_at ?k_law_cell_at ?a_law_sign_by ?l_law_sign_by ?c_law_sign_by ?k_law_sign_by ?a_law_odd ?l_law_odd ?c_law_odd ?k_law_odd ?a_law_numbers ?l_law_numbers ?c_law_numbers ?k_law_numbers ?a_read ?l_read ?c_read ?k_read ?a_law_due ?l_law_due ?c_law_due ?k_law_due ?a_law_line ?l_law_line ?c_law_line ?k_law_line ?a_law_built ?l_law_built ?c_law_built ?k_law_built ?a_law ?l_law ?c_law ?k_law ?g_HeapError ?g_NoHand ?g_NoSlot ?g_NoRoom ?g_NothingHeld ?g_NoBox ?g_NoWork ?g_NoHeap ?g_NoDeed ?x_NoDeed ?kx_NoDeed ?bx_NoDeed ?tx_NoDeed ?bx_HeapError ?tx_HeapError ?ix_HeapError ?sb_NoDeed_HeapError ?ec1_NoDeed ?ec2_NoDeed ?ec3_NoDeed ?ec4_NoDeed ?ec5_NoDeed ?ec6 ?ec7 ?tx_NoBox ?ix_NoBox ?sb_NoDeed_NoBox ?ne_NoDeed_NoBox ?tx_NoHand ?ix_NoHand ?sb_NoDeed_NoHand ?ne_NoDeed_NoHand ?tx_NoHeap ?ix_NoHeap ?sb_NoDeed_NoHeap ?ne_NoDeed_NoHeap ?tx_NoRoom ?ix_NoRoom ?sb_NoDeed_NoRoom ?ne_NoDeed_NoRoom ?tx_NoSlot ?ix_NoSlot ?sb_NoDeed_NoSlot ?ne_NoDeed_NoSlot ?tx_NoWork ?ix_NoWork ?sb_NoDeed_NoWork ?ne_NoDeed_NoWork ?tx_NothingHeld ?ix_NothingHeld ?sb_NoDeed_NothingHeld ?ne_NoDeed_NothingHeld ?vb_NoDeed ?z_ValueError ?z_any ?z_bool ?z_int ?z_isinstance ?z_len ?z_list ?z_range ?z_str ?z_tuple ?c_COUNTS ?lk_COUNTS ?kl_COUNTS ?sm_COUNTS ?kt_COUNTS ?c_FIGURES ?c_MOST_FIGURES
    (case a_law_whole => k_is)
    (case l_law_whole => k_is)
    (case c_law_whole => k_is)
    (case k_law_whole => k_is)
    (case a_number_of => k_is)
    (case l_number_of => k_is)
    (case c_number_of => k_is)
    (case k_number_of => k_is)
    (case a_law_number => k_is)
    (case l_law_number => k_is)
    (case c_law_number => k_is)
    (case k_law_number => k_is)
    (case a_law_cell_at => k_is)
    (case l_law_cell_at => k_is)
    (case c_law_cell_at => k_is)
    (case k_law_cell_at => k_is)
    (case a_law_sign_by => k_is)
    (case l_law_sign_by => k_is)
    (case c_law_sign_by => k_is)
    (case k_law_sign_by => k_is)
    (case a_law_odd => k_is)
    (case l_law_odd => k_is)
    (case c_law_odd => k_is)
    (case k_law_odd => k_is)
    (case a_law_numbers => k_is)
    (case l_law_numbers => k_is)
    (case c_law_numbers => k_is)
    (case k_law_numbers => k_is)
    (case a_read => k_is)
    (case l_read => k_is)
    (case c_read => k_is)
    (case k_read => k_is)
    (case a_law_due => k_is)
    (case l_law_due => k_is)
    (case c_law_due => k_is)
    (case k_law_due => k_is)
    (case a_law_line => k_is)
    (case l_law_line => k_is)
    (case c_law_line => k_is)
    (case k_law_line => k_is)
    (case a_law_built => k_is)
    (case l_law_built => k_is)
    (case c_law_built => k_is)
    (case k_law_built => k_is)
    (case a_law => k_is)
    (case l_law => k_is)
    (case c_law => k_is)
    (case k_law => k_is)
    (case g_HeapError => k_is)
    (case g_NoHand => k_is)
    (case g_NoSlot => k_is)
    (case g_NoRoom => k_is)
    (case g_NothingHeld => k_is)
    (case g_NoBox => k_is)
    (case g_NoWork => k_is)
    (case g_NoHeap => k_is)
    (case g_NoDeed => k_is)
    (case x_NoDeed => k_exc)
    (case kx_NoDeed => k_is)
    (case bx_NoDeed => k_is)
    (case tx_NoDeed => k_is)
    (case bx_HeapError => k_is)
    (case tx_HeapError => k_is)
    (case ix_HeapError => k_is)
    (case sb_NoDeed_HeapError => k_is)
    (case ec1_NoDeed => k_is)
    (case ec2_NoDeed => k_is)
    (case ec3_NoDeed => k_is)
    (case ec4_NoDeed => k_is)
    (case ec5_NoDeed => k_is)
    (case ec6 => k_is)
    (case ec7 => k_is)
    (case tx_NoBox => k_is)
    (case ix_NoBox => k_is)
    (case sb_NoDeed_NoBox => k_is)
    (case ne_NoDeed_NoBox => decide)
    (case tx_NoHand => k_is)
    (case ix_NoHand => k_is)
    (case sb_NoDeed_NoHand => k_is)
    (case ne_NoDeed_NoHand => decide)
    (case tx_NoHeap => k_is)
    (case ix_NoHeap => k_is)
    (case sb_NoDeed_NoHeap => k_is)
    (case ne_NoDeed_NoHeap => decide)
    (case tx_NoRoom => k_is)
    (case ix_NoRoom => k_is)
    (case sb_NoDeed_NoRoom => k_is)
    (case ne_NoDeed_NoRoom => decide)
    (case tx_NoSlot => k_is)
    (case ix_NoSlot => k_is)
    (case sb_NoDeed_NoSlot => k_is)
    (case ne_NoDeed_NoSlot => decide)
    (case tx_NoWork => k_is)
    (case ix_NoWork => k_is)
    (case sb_NoDeed_NoWork => k_is)
    (case ne_NoDeed_NoWork => decide)
    (case tx_NothingHeld => k_is)
    (case ix_NothingHeld => k_is)
    (case sb_NoDeed_NothingHeld => k_is)
    (case ne_NoDeed_NothingHeld => decide)
    (case vb_NoDeed => k_is)
    (case z_ValueError => k_is)
    (case z_any => k_is)
    (case z_bool => k_is)
    (case z_int => k_is)
    (case z_isinstance => k_is)
    (case z_len => k_is)
    (case z_list => k_is)
    (case z_range => k_is)
    (case z_str => k_is)
    (case z_tuple => k_is)
    (case c_COUNTS => k_is)
    (case lk_COUNTS => k_is)
    (case kl_COUNTS => k_keys)
    (case sm_COUNTS => decide)
    (case kt_COUNTS => exact .cons (.cons (.cons (.cons (.cons (.cons .nil))))))
    (case c_FIGURES => k_is)
    (case c_MOST_FIGURES => k_is)

