import PyProof.Rows.All
import Wide.All
import OpenK.AllK
import Wide.FinOn
import HandS.ForMost
import HandS.Text
import HandS.ForExc
import HandS.SortInts
import HandS.IsInst
import HandS.Conv
import HandS.SetFor
import HandS.ExcIs
import HandS.ExcCtx
import HandS.Hot
import HandS.HotCalls
import HandS.RaiseMore
import PySem.Challenge.RW_markpause_k05_refused
set_option Elab.async false
set_option linter.all false
set_option maxRecDepth 100000
set_option maxHeartbeats 4000000
/-! A small separation layer: what stands in the heap is told by a list of assertions, each over cells of its own; the readings of the hand layer are then read over such lists. -/
namespace Mp
open PySem L2
abbrev Asn := Hp → Prop
abbrev AL := List Asn
def Sub (h H : Hp) : Prop := ∀ a o, h a = some o → H a = some o
def Dj (h k : Hp) : Prop := ∀ a, h a = none ∨ k a = none
def un (h k : Hp) : Hp := fun a => match h a with | some o => some o | none => k a
theorem Sub.refl (h : Hp) : Sub h h := fun _ _ e => e
theorem Sub.trans {a b c : Hp} (x : Sub a b) (y : Sub b c) : Sub a c := fun p o e => y p o (x p o e)
theorem Dj.symm {h k : Hp} (d : Dj h k) : Dj k h := fun a => (d a).symm
theorem Dj.sub {h k h' k' : Hp} (d : Dj h k) (x : Sub h' h) (y : Sub k' k) : Dj h' k' := fun a => by
  cases e : h' a with
  | none => exact .inl rfl
  | some o =>
    cases e2 : k' a with
    | none => exact .inr rfl
    | some u =>
      rcases d a with z | z
      · rw [x a o e] at z; cases z
      · rw [y a u e2] at z; cases z
theorem un_l {h k : Hp} : Sub h (un h k) := fun a o e => by unfold un; rw [e]
theorem un_r {h k : Hp} (d : Dj h k) : Sub k (un h k) := fun a o e => by
  unfold un
  rcases d a with z | z
  · rw [z]; exact e
  · rw [e] at z; cases z
theorem un_sub {h k H : Hp} (x : Sub h H) (y : Sub k H) : Sub (un h k) H := fun a o e => by
  unfold un at e
  cases q : h a with
  | some u => rw [q] at e; cases e; exact x a _ q
  | none => rw [q] at e; exact y a o e
theorem dj_un {h k l : Hp} (x : Dj h k) (y : Dj h l) : Dj h (un k l) := fun a => by
  rcases x a with z | z
  · exact .inl z
  · rcases y a with z2 | z2
    · exact .inl z2
    · right; unfold un; rw [z]; exact z2
def Sep : AL → Hp → Prop
  | [], _ => True
  | A :: L, H => ∃ h k, Sub h H ∧ Sub k H ∧ Dj h k ∧ A h ∧ Sep L k
def pt (a : Addr) (o : HO) : Asn := fun h => h a = some o
def Star (L : AL) : Asn := fun h => Sep L h
def Exi {α : Type} (f : α → Asn) : Asn := fun h => ∃ x, f x h
def Pr (p : Prop) : Asn := fun _ => p
def Ent (L M : AL) : Prop := ∀ H, Sep L H → Sep M H
theorem Sep.mono : ∀ {L : AL} {H H' : Hp}, Sub H H' → Sep L H → Sep L H'
  | [], _, _, _, _ => True.intro
  | _ :: _, _, _, x, ⟨h, k, a, b, d, p, q⟩ => ⟨h, k, a.trans x, b.trans x, d, p, q⟩
theorem Sep.tail {A : Asn} {L : AL} {H : Hp} (s : Sep (A :: L) H) : Sep L H := by
  obtain ⟨h, k, a, b, d, p, q⟩ := s
  exact q.mono b
theorem Ent.refl (L : AL) : Ent L L := fun _ s => s
theorem Ent.trans {L M N : AL} (a : Ent L M) (b : Ent M N) : Ent L N := fun H s => b H (a H s)
theorem Ent.cons {A : Asn} {L M : AL} (e : Ent L M) : Ent (A :: L) (A :: M) := fun _ ⟨h, k, a, b, d, p, q⟩ => ⟨h, k, a, b, d, p, e k q⟩
theorem Ent.drop {A : Asn} {L : AL} : Ent (A :: L) L := fun _ s => s.tail
theorem ent_swap {A B : Asn} {L : AL} : Ent (A :: B :: L) (B :: A :: L) := by
  rintro H ⟨h1, k1, a1, b1, d1, p1, h2, k2, a2, b2, d2, p2, q⟩
  have e1 : Dj h1 h2 := d1.sub (Sub.refl _) a2
  have e2 : Dj h1 k2 := d1.sub (Sub.refl _) b2
  refine ⟨h2, un h1 k2, a2.trans b1, un_sub a1 (b2.trans b1), dj_un e1.symm d2, p2, h1, k2, un_l, un_r e2, e2, p1, q⟩
theorem ent_perm {L M : AL} (p : L.Perm M) : Ent L M := by
  induction p with
  | nil => exact Ent.refl _
  | cons x _ ih => exact ih.cons
  | swap x y l => exact ent_swap
  | trans _ _ a b => exact a.trans b
theorem ent_pick : ∀ {L : AL} (i : Nat) {A : Asn}, L[i]? = some A → Ent L (A :: L.eraseIdx i)
  | [], _, _, h => by simp at h
  | B :: L, 0, A, h => by
    have e : B = A := Option.some.inj h
    subst e
    exact Ent.refl _
  | B :: L, i + 1, A, h => by
    have ih := ent_pick (L := L) i (A := A) h
    exact (Ent.cons ih).trans ent_swap
theorem ent_put : ∀ {L : AL} (i : Nat) {A : Asn}, i ≤ L.length → Ent (A :: L) (L.insertIdx i A)
  | L, 0, A, _ => Ent.refl _
  | [], i + 1, A, h => absurd h (by simp)
  | B :: L, i + 1, A, h => by
    have ih := ent_put (L := L) i (A := A) (Nat.le_of_succ_le_succ h)
    exact ent_swap.trans (Ent.cons ih)
theorem ent_unstar : ∀ {Ls R : AL}, Ent (Star Ls :: R) (Ls ++ R)
  | [], R => Ent.drop
  | A :: Ls, R => by
    rintro H ⟨h, k, a, b, d, ⟨h1, h2, a1, b1, d1, p1, q1⟩, q⟩
    have e1 : Dj h1 k := d.sub a1 (Sub.refl _)
    have e2 : Dj h2 k := d.sub b1 (Sub.refl _)
    refine ⟨h1, un h2 k, a1.trans a, un_sub (b1.trans a) b, dj_un d1 e1, p1, ?_⟩
    exact ent_unstar (Ls := Ls) (R := R) _ ⟨h2, k, un_l, un_r e2, e2, q1, q⟩
theorem ent_star : ∀ {Ls R : AL}, Ent (Ls ++ R) (Star Ls :: R)
  | [], R => fun H s => ⟨fun _ => none, H, (fun _ _ e => nomatch e), Sub.refl _, fun _ => .inl rfl, True.intro, s⟩
  | A :: Ls, R => by
    rintro H ⟨h1, k, a, b, d, p, q⟩
    obtain ⟨h2, k2, a2, b2, d2, p2, q2⟩ := ent_star (Ls := Ls) (R := R) k q
    have e1 : Dj h1 h2 := d.sub (Sub.refl _) a2
    have e2 : Dj h1 k2 := d.sub (Sub.refl _) b2
    refine ⟨un h1 h2, k2, un_sub a (a2.trans b), b2.trans b, (dj_un e2.symm d2.symm).symm, ⟨h1, h2, un_l, un_r e1, e1, p, p2⟩, q2⟩
theorem sep_exi {α : Type} {f : α → Asn} {L : AL} {H : Hp} (s : Sep (Exi f :: L) H) : ∃ x, Sep (f x :: L) H := by
  obtain ⟨h, k, a, b, d, ⟨x, p⟩, q⟩ := s
  exact ⟨x, h, k, a, b, d, p, q⟩
theorem ent_exi {α : Type} {f : α → Asn} {L : AL} (x : α) : Ent (f x :: L) (Exi f :: L) := by
  rintro H ⟨h, k, a, b, d, p, q⟩
  exact ⟨h, k, a, b, d, ⟨x, p⟩, q⟩
theorem sep_pr {p : Prop} {L : AL} {H : Hp} (s : Sep (Pr p :: L) H) : p ∧ Sep L H := by
  obtain ⟨h, k, a, b, d, x, q⟩ := s
  exact ⟨x, q.mono b⟩
theorem ent_pr {p : Prop} {L : AL} (h : p) : Ent L (Pr p :: L) := fun H s => ⟨fun _ => none, H, (fun _ _ e => nomatch e), Sub.refl _, fun _ => .inl rfl, h, s⟩
/-! ### what stands at an address; a store; a new object -/
def Has (L : AL) (a : Addr) (o : HO) : Prop := ∀ H, Sep L H → H a = some o
theorem has_hd {a : Addr} {o : HO} {L : AL} : Has (pt a o :: L) a o := fun _ ⟨_, _, x, _, _, p, _⟩ => x _ _ p
theorem has_tl {a : Addr} {o : HO} {A : Asn} {L : AL} (h : Has L a o) : Has (A :: L) a o := fun _ s => h _ s.tail
theorem Has.ent {L M : AL} {a : Addr} {o : HO} (h : Has M a o) (e : Ent L M) : Has L a o := fun H s => h H (e H s)
def Wr (L : AL) (a : Addr) (o : HO) (M : AL) : Prop := ∀ H, Sep L H → (∃ u, H a = some u) ∧ Sep M (upd H a o)
def one (a : Addr) (o : HO) : Hp := fun b => if b = a then some o else none
theorem one_sub {a : Addr} {o : HO} {H : Hp} : Sub (one a o) (upd H a o) := fun b u e => by
  unfold one at e
  by_cases h : b = a
  · rw [if_pos h] at e; cases e; subst h; exact upd_same
  · rw [if_neg h] at e; cases e
theorem wr_hd {a : Addr} {o u : HO} {L : AL} : Wr (pt a u :: L) a o (pt a o :: L) := by
  rintro H ⟨h, k, x, y, d, p, q⟩
  have hk : k a = none := by
    rcases d a with z | z
    · rw [show h a = some u from p] at z; cases z
    · exact z
  refine ⟨⟨u, x _ _ p⟩, one a o, k, one_sub, fun b w e => ?_, fun b => ?_, by unfold pt one; rw [if_pos rfl], q⟩
  · rw [upd_ne (fun z => by rw [z, hk] at e; cases e)]; exact y b w e
  · by_cases h : b = a
    · right; rw [h]; exact hk
    · left; unfold one; rw [if_neg h]
theorem wr_tl {a : Addr} {o : HO} {A : Asn} {L M : AL} (w : Wr L a o M) : Wr (A :: L) a o (A :: M) := by
  rintro H ⟨h, k, x, y, d, p, q⟩
  obtain ⟨⟨u, hu⟩, s⟩ := w k q
  have ha : h a = none := by
    rcases d a with z | z
    · exact z
    · rw [hu] at z; cases z
  refine ⟨⟨u, y _ _ hu⟩, h, upd k a o, fun b w e => ?_, fun b w e => ?_, fun b => ?_, p, s⟩
  · rw [upd_ne (fun z => by rw [z, ha] at e; cases e)]; exact x b w e
  · by_cases z : b = a
    · subst z; rw [upd_same] at e ⊢; exact e
    · rw [upd_ne z] at e ⊢; exact y b w e
  · by_cases z : b = a
    · left; rw [z]; exact ha
    · rw [upd_ne z]; exact d b
theorem Wr.ent {L L' M : AL} {a : Addr} {o : HO} (w : Wr L' a o M) (e : Ent L L') : Wr L a o M := fun H s => w H (e H s)
theorem Wr.to {L M M' : AL} {a : Addr} {o : HO} (w : Wr L a o M) (e : Ent M M') : Wr L a o M' := fun H s => ⟨(w H s).1, e _ (w H s).2⟩
theorem sep_new {a : Addr} {o : HO} {L : AL} {H : Hp} (s : Sep L H) (n : H a = none) : Sep (pt a o :: L) (upd H a o) :=
  ⟨one a o, H, one_sub, fun b w e => by rw [upd_ne (fun z => by rw [z, n] at e; cases e)]; exact e, fun b => by
    by_cases h : b = a
    · right; rw [h]; exact n
    · left; unfold one; rw [if_neg h], by unfold pt one; rw [if_pos rfl], s⟩
/-! ### readings over lists of assertions -/
def SE (te : TE) (σ : L2.St) (L : AL) (Q : V → AL → Prop) : Prop := ∀ H, Sep L H → ∀ Qh : VK, (∀ v L' H', Sep L' H' → Q v L' → Qh v H') → te σ H Qh
def ST (tt : TT) (σ : L2.St) (L : AL) (Q : Bool → AL → Prop) : Prop := ∀ H, Sep L H → ∀ Qh : Bool → Hp → Prop, (∀ v L' H', Sep L' H' → Q v L' → Qh v H') → tt σ H Qh
def SA (ta : TA) (σ : L2.St) (L : AL) (Q : List V → AL → Prop) : Prop := ∀ H, Sep L H → ∀ Qh : List V → Hp → Prop, (∀ v L' H', Sep L' H' → Q v L' → Qh v H') → ta σ H Qh
def SO (to : TO) (σ : L2.St) (L : AL) (Q : Option Int → AL → Prop) : Prop := ∀ H, Sep L H → ∀ Qh : Option Int → Hp → Prop, (∀ v L' H', Sep L' H' → Q v L' → Qh v H') → to σ H Qh
def RE (r : Hp → VK → Prop) (L : AL) (Q : V → AL → Prop) : Prop := ∀ H, Sep L H → ∀ Qh : VK, (∀ v L' H', Sep L' H' → Q v L' → Qh v H') → r H Qh
def RS (r : Hp → (Hp → Prop) → Prop) (L : AL) (Q : AL → Prop) : Prop := ∀ H, Sep L H → ∀ Qh : Hp → Prop, (∀ L' H', Sep L' H' → Q L' → Qh H') → r H Qh
structure EA where
  nx : L2.St → AL → Prop
  rt : V → AL → Prop
  bk : L2.St → AL → Prop := fun _ _ => False
  ct : L2.St → AL → Prop := fun _ _ => False
structure EA.Le (D : EA) (E : Ends) : Prop where
  nx : ∀ σ L H, Sep L H → D.nx σ L → E.nx σ H
  rt : ∀ v L H, Sep L H → D.rt v L → E.rt v H
  bk : ∀ σ L H, Sep L H → D.bk σ L → E.bk σ H
  ct : ∀ σ L H, Sep L H → D.ct σ L → E.ct σ H
def SS (t : TS) (D : EA) (σ : L2.St) (L : AL) : Prop := ∀ H, Sep L H → ∀ E : Ends, D.Le E → t E σ H
section
variable {K : PySem.W.Frag} {σ : L2.St} {L M : AL} {te ta tb tv : TE} {Q : V → AL → Prop} {t u : TS} {D : EA} {tt tu : TT} {QB : Bool → AL → Prop} {QA : List V → AL → Prop}
theorem e_ent (e : Ent L M) (h : SE te σ M Q) : SE te σ L Q := fun H s Qh k => h H (e H s) Qh k
theorem s_ent (e : Ent L M) (h : SS t D σ M) : SS t D σ L := fun H s Qh k => h H (e H s) Qh k
theorem t_ent (e : Ent L M) (h : ST tt σ M QB) : ST tt σ L QB := fun H s Qh k => h H (e H s) Qh k
theorem r_ent {r : Hp → VK → Prop} (e : Ent L M) (h : RE r M Q) : RE r L Q := fun H s Qh k => h H (e H s) Qh k
theorem e_mono {Q' : V → AL → Prop} (h : SE te σ L Q) (m : ∀ v L', Q v L' → Q' v L') : SE te σ L Q' := fun H s Qh k => h H s Qh fun v L' H' s' q => k v L' H' s' (m v L' q)
theorem t_mono {Q' : Bool → AL → Prop} (h : ST tt σ L QB) (m : ∀ v L', QB v L' → Q' v L') : ST tt σ L Q' := fun H s Qh k => h H s Qh fun v L' H' s' q => k v L' H' s' (m v L' q)
/-- what the list tells may be used -/
theorem s_use {P : Prop} (h : ∀ H, Sep L H → P) (k : P → SS t D σ L) : SS t D σ L := fun H s => k (h H s) H s
theorem e_use {P : Prop} (h : ∀ H, Sep L H → P) (k : P → SE te σ L Q) : SE te σ L Q := fun H s => k (h H s) H s
theorem s_exi {α : Type} {f : α → Asn} {R : AL} (k : ∀ x, SS t D σ (f x :: R)) : SS t D σ (Exi f :: R) := fun H s => by
  obtain ⟨x, s⟩ := sep_exi s
  exact k x H s
theorem e_exi {α : Type} {f : α → Asn} {R : AL} (k : ∀ x, SE te σ (f x :: R) Q) : SE te σ (Exi f :: R) Q := fun H s => by
  obtain ⟨x, s⟩ := sep_exi s
  exact k x H s
theorem s_pr {p : Prop} {R : AL} (k : p → SS t D σ R) : SS t D σ (Pr p :: R) := fun H s => by
  obtain ⟨x, s⟩ := sep_pr s
  exact k x H s
theorem s_mono {D' : EA} (h : SS t D σ L) (m1 : ∀ σ L, D.nx σ L → D'.nx σ L) (m2 : ∀ v L, D.rt v L → D'.rt v L) (m3 : ∀ σ L, D.bk σ L → D'.bk σ L) (m4 : ∀ σ L, D.ct σ L → D'.ct σ L) : SS t D' σ L := fun H s E le =>
  h H s E ⟨fun σ L H s q => le.nx σ L H s (m1 σ L q), fun v L H s q => le.rt v L H s (m2 v L q), fun σ L H s q => le.bk σ L H s (m3 σ L q), fun σ L H s q => le.ct σ L H s (m4 σ L q)⟩
/-! ### expressions -/
theorem e_var {i : Nat} {v : V} (h : σ[i]? = some (some v)) (q : Q v L) : SE (tVar i) σ L Q := fun H s Qh k => ⟨v, h, k _ _ _ s q⟩
theorem e_c {v : V} (q : Q v L) : SE (tC v) σ L Q := fun H s Qh k => k _ _ _ s q
theorem e_op {r : R2} (h : SE ta σ L fun x L1 => SE tb σ L1 fun y L2 => RE (r x y) L2 Q) : SE (tOp r ta tb) σ L Q := fun H s Qh k =>
  h H s _ fun x L1 H1 s1 h1 => h1 H1 s1 _ fun y L2 H2 s2 h2 => h2 H2 s2 Qh k
theorem e_un {r : V → Hp → VK → Prop} (h : SE ta σ L fun x L1 => RE (r x) L1 Q) : SE (tUn r ta) σ L Q := fun H s Qh k =>
  h H s _ fun x L1 H1 s1 h1 => h1 H1 s1 Qh k
def rFld (K : PySem.W.Frag) (f : Str) (x : V) : Hp → VK → Prop := fun H1 Q => ∃ a C dx fs v, x = .ref a ∧ H1 a = some (.ins C dx fs) ∧ Cls K C ∧ NoAttr K C f ∧ fs.lookup f = some v ∧ Q v H1
theorem e_fld {f : Str} (h : SE ta σ L fun x L1 => RE (rFld K f x) L1 Q) : SE (tFld K ta f) σ L Q := fun H s Qh k =>
  h H s _ fun x L1 H1 s1 h1 => h1 H1 s1 Qh k
theorem r_fld {f : Str} {a C dx : Addr} {fs : List (Str × V)} {v : V} (c : Cls K C) (n : NoAttr K C f) (h : Has L a (.ins C dx fs)) (l : fs.lookup f = some v) (q : Q v L) : RE (rFld K f (.ref a)) L Q := fun H s Qh k =>
  ⟨a, C, dx, fs, v, rfl, h H s, c, n, l, k _ _ _ s q⟩
theorem e_chain {r r' : R2} {tc : TE} (h : SE ta σ L fun x L1 => SE tb σ L1 fun y L2 => RE (r x y) L2 fun z L3 => ∃ b, z = .bl b ∧ (b = true → SE tc σ L3 fun w L4 => RE (r' y w) L4 Q) ∧ (b = false → Q (.bl false) L3)) : SE (tChain r r' ta tb tc) σ L Q := fun H s Qh k =>
  h H s _ fun x L1 H1 s1 h1 => h1 H1 s1 _ fun y L2 H2 s2 h2 => h2 H2 s2 _ fun z L3 H3 s3 ⟨b, e, ht, hf⟩ => ⟨b, e, by
    cases b with
    | true => rw [if_pos rfl]; exact ht rfl H3 s3 _ fun w L4 H4 s4 h4 => h4 H4 s4 Qh k
    | false => rw [if_neg Bool.false_ne_true]; exact k _ _ _ s3 (hf rfl)⟩
theorem e_andV (h : SE ta σ L fun x L1 => ∃ b, x = .bl b ∧ (b = true → SE tb σ L1 Q) ∧ (b = false → Q (.bl false) L1)) : SE (tAndV ta tb) σ L Q := fun H s Qh k =>
  h H s _ fun x L1 H1 s1 ⟨b, e, ht, hf⟩ => ⟨b, e, by
    cases b with
    | true => rw [if_pos rfl]; exact ht rfl H1 s1 Qh k
    | false => rw [if_neg Bool.false_ne_true]; exact k _ _ _ s1 (hf rfl)⟩
theorem e_orV (h : SE ta σ L fun x L1 => ∃ b, x = .bl b ∧ (b = true → Q (.bl true) L1) ∧ (b = false → SE tb σ L1 Q)) : SE (tOrV ta tb) σ L Q := fun H s Qh k =>
  h H s _ fun x L1 H1 s1 ⟨b, e, ht, hf⟩ => ⟨b, e, by
    cases b with
    | true => rw [if_pos rfl]; exact k _ _ _ s1 (ht rfl)
    | false => rw [if_neg Bool.false_ne_true]; exact hf rfl H1 s1 Qh k⟩
theorem e_notV (h : SE ta σ L fun x L1 => ∃ b, x = .bl b ∧ Q (.bl (!b)) L1) : SE (tNotV ta) σ L Q := fun H s Qh k =>
  h H s _ fun x L1 H1 s1 ⟨b, e, q⟩ => ⟨b, e, k _ _ _ s1 q⟩
theorem e_if (h : ST tt σ L fun b L1 => (b = true → SE ta σ L1 Q) ∧ (b = false → SE tb σ L1 Q)) : SE (tIf tt ta tb) σ L Q := fun H s Qh k =>
  h H s _ fun b L1 H1 s1 ⟨ht, hf⟩ => by
    cases b with
    | true => rw [if_pos rfl]; exact ht rfl H1 s1 Qh k
    | false => rw [if_neg Bool.false_ne_true]; exact hf rfl H1 s1 Qh k
/-! ### arguments -/
theorem a_nil (q : QA [] L) : SA tNil σ L QA := fun H s Qh k => k _ _ _ s q
theorem a_cons {tr : TA} (h : SE ta σ L fun x L1 => SA tr σ L1 fun xs L2 => QA (x :: xs) L2) : SA (tCons ta tr) σ L QA := fun H s Qh k =>
  h H s _ fun x L1 H1 s1 h1 => h1 H1 s1 _ fun xs L2 H2 s2 q => k _ _ _ s2 q
theorem e_lst {tr : TA} (h : SA tr σ L fun xs L1 => xs.length ≤ sizeLine ∧ ∀ p, Q (.ref p) (pt p (.lst xs) :: L1)) : SE (tLst tr) σ L Q := fun H s Qh k =>
  h H s _ fun xs L1 H1 s1 ⟨z, q⟩ => ⟨z, fun p hp => k _ _ _ (sep_new s1 hp) (q p)⟩
theorem e_tup {tr : TA} (h : SA tr σ L fun xs L1 => xs.length ≤ sizeLine ∧ ∀ p, Q (.ref p) (pt p (.tup xs) :: L1)) : SE (tTup tr) σ L Q := fun H s Qh k =>
  h H s _ fun xs L1 H1 s1 ⟨z, q⟩ => ⟨z, fun p hp => k _ _ _ (sep_new s1 hp) (q p)⟩
theorem e_cb {r : List V → Hp → VK → Prop} {tr : TA} (h : SA tr σ L fun xs L1 => RE (r xs) L1 Q) : SE (tCB r tr) σ L Q := fun H s Qh k =>
  h H s _ fun xs L1 H1 s1 h1 => h1 H1 s1 Qh k
/-! ### operators by values -/
theorem r_I0 {g : Int → Int → V} {i j : Int} (q : Q (g i j) L) : RE (rI0 g (.int i) (.int j)) L Q := fun H s Qh k => ⟨i, j, rfl, rfl, k _ _ _ s q⟩
theorem r_I {C : Int → Int → Prop} {g : Int → Int → V} {i j : Int} (c : C i j) (q : Q (g i j) L) : RE (rI C g (.int i) (.int j)) L Q := fun H s Qh k => ⟨i, j, rfl, rfl, c, k _ _ _ s q⟩
theorem r_eq {x y : V} (c : scal x y = true) (q : Q (.bl (decide (x = y))) L) : RE (rEq x y) L Q := fun H s Qh k => ⟨c, k _ _ _ s q⟩
theorem r_ne {x y : V} (c : scal x y = true) (q : Q (.bl (!decide (x = y))) L) : RE (rNe x y) L Q := fun H s Qh k => ⟨c, k _ _ _ s q⟩
def rIsNo : R2 := fun x y H Q => y = .non ∧ Q (.bl (decide (x = .non))) H
def rNotNo : R2 := fun x y H Q => y = .non ∧ Q (.bl (!decide (x = .non))) H
theorem op_isNo {X : Cx} : OpR X (compareOp .Is) rIsNo := op_isN
theorem op_notNo {X : Cx} : OpR X (compareOp .IsNot) rNotNo := op_notN
theorem r_isNo {x : V} (q : Q (.bl (decide (x = .non))) L) : RE (rIsNo x .non) L Q := fun H s Qh k => ⟨rfl, k _ _ _ s q⟩
theorem r_notNo {x : V} (q : Q (.bl (!decide (x = .non))) L) : RE (rNotNo x .non) L Q := fun H s Qh k => ⟨rfl, k _ _ _ s q⟩
/-- lists that are read -/
def SqA (K : PySem.W.Frag) (L : AL) (a : Addr) (xs : List V) : Prop := ∀ H, Sep L H → SqL K H a xs
def TqA (K : PySem.W.Frag) (L : AL) (a : Addr) (xs : List V) : Prop := ∀ H, Sep L H → SqT K H a xs
theorem Has.sq {a : Addr} {xs : List V} (h : Has L a (.lst xs)) : SqA K L a xs := fun H s => SqL.of (h H s)
theorem Has.fq {a : Addr} {o : Obj} {xs : List V} (h : Has L a (.frz o (.lst xs))) : SqA K L a xs := fun H s => .inl (.inr ⟨o, h H s⟩)
theorem Has.tq {a : Addr} {xs : List V} (h : Has L a (.tup xs)) : TqA K L a xs := fun H s => SqT.of (h H s)
theorem r_ixL {a : Addr} {xs : List V} {i : Int} {v : V} (h : SqA K L a xs) (e : atI xs i = some v) (q : Q v L) : RE (rIxL K (.ref a) (.int i)) L Q := fun H s Qh k => ⟨a, xs, i, v, rfl, rfl, h H s, e, k _ _ _ s q⟩
theorem r_ixT {a : Addr} {xs : List V} {i : Int} {v : V} (h : TqA K L a xs) (e : atI xs i = some v) (q : Q v L) : RE (rIxT K (.ref a) (.int i)) L Q := fun H s Qh k => ⟨a, xs, i, v, rfl, rfl, h H s, e, k _ _ _ s q⟩
theorem r_ixS {z : Str} {i : Int} {c : Nat} (hz : z.length ≤ sizeLine) (e : atI z.cps.toList i = some c) (q : Q (.str ⟨#[c]⟩) L) : RE (rIxS (.str z) (.int i)) L Q := fun H s Qh k => ⟨z, i, c, rfl, rfl, hz, e, k _ _ _ s q⟩
theorem r_inL {neg : Bool} {a : Addr} {x : V} {xs : List V} (h : SqA K L a xs) (hx : flatV x = true) (hs : xs.all flatV = true) (q : Q (.bl (if neg then !inV x xs else inV x xs)) L) : RE (rIn K neg x (.ref a)) L Q :=
  fun H s Qh k => ⟨a, xs, rfl, .inl (h H s), hx, hs, k _ _ _ s q⟩
theorem r_inT {neg : Bool} {a : Addr} {x : V} {xs : List V} (h : TqA K L a xs) (hx : flatV x = true) (hs : xs.all flatV = true) (q : Q (.bl (if neg then !inV x xs else inV x xs)) L) : RE (rIn K neg x (.ref a)) L Q :=
  fun H s Qh k => ⟨a, xs, rfl, .inr (h H s), hx, hs, k _ _ _ s q⟩
theorem r_cat {a b : Addr} {xs ys : List V} (h : Has L a (.lst xs)) (h' : Has L b (.lst ys)) (z : xs.length + ys.length ≤ sizeLine) (q : ∀ p, Q (.ref p) (pt p (.lst (xs ++ ys)) :: L)) : RE (rCat (.ref a) (.ref b)) L Q := fun H s Qh k =>
  ⟨a, b, xs, ys, rfl, rfl, h H s, h' H s, z, fun p hp => k _ _ _ (sep_new s hp) (q p)⟩
theorem r_addS {x y : Str} (z : x.length + y.length ≤ sizeLine) (q : Q (.str (x ++ y)) L) : RE ((fun (x y : V) H Q => ∃ i j, x = .str i ∧ y = .str j ∧ i.length + j.length ≤ sizeLine ∧ Q (.str (i ++ j)) H : R2) (.str x) (.str y)) L Q := fun H s Qh k =>
  ⟨x, y, rfl, rfl, z, k _ _ _ s q⟩
/-! ### built-in functions -/
def rLen (K : PySem.W.Frag) : List V → Hp → VK → Prop := fun xs H Q => ∃ p ys, xs = [.ref p] ∧ (SqL K H p ys ∨ SqT K H p ys) ∧ Q (.int ys.length) H
def rListOf (K : PySem.W.Frag) : List V → Hp → VK → Prop := fun xs H Q => ∃ p ys, xs = [.ref p] ∧ (SqL K H p ys ∨ SqT K H p ys) ∧ ∀ l, H l = none → Q (.ref l) (upd H l (.lst ys))
def rLenS : List V → Hp → VK → Prop := fun xs H Q => ∃ z, xs = [.str z] ∧ z.length ≤ sizeLine ∧ Q (.int z.length) H
def rMax2 : List V → Hp → VK → Prop := fun xs H Q => ∃ i j, xs = [.int i, .int j] ∧ Q (.int (if j > i then j else i)) H
def rMin2 : List V → Hp → VK → Prop := fun xs H Q => ∃ i j, xs = [.int i, .int j] ∧ Q (.int (if j < i then j else i)) H
def rInt1 : List V → Hp → VK → Prop := fun xs H Q => (∃ i, xs = [.int i] ∧ Q (.int i) H) ∨ ∃ k, xs = [.bl k] ∧ Q (.int (if k then 1 else 0)) H
def rStrI : List V → Hp → VK → Prop := fun xs H Q => ∃ i, xs = [.int i] ∧ i.natAbs.log2 < 1920 ∧ Q (.str (toString i)) H
def rLenD : List V → Hp → VK → Prop := fun xs H Q => ∃ d kvs, xs = [.ref d] ∧ H d = some (.dK kvs) ∧ Q (.int (kvs.length : Int)) H
theorem cl_len {X : Cx} : CallR X (.builtin "len") (rLen X.K) := call_len_seq
theorem cl_lenS {X : Cx} : CallR X (.builtin "len") rLenS := call_len_str
theorem cl_list {X : Cx} : CallR X (.type "list") (rListOf X.K) := call_list_of
theorem cl_max2 {X : Cx} (hc : X.calm = true) : CallR X (.builtin "max") rMax2 := call_max2 hc
theorem cl_min2 {X : Cx} (hc : X.calm = true) : CallR X (.builtin "min") rMin2 := call_min2 hc
theorem cl_int1 {X : Cx} : CallR X (.type "int") rInt1 := call_int1
theorem cl_strI {X : Cx} : CallR X (.type "str") rStrI := call_str_int
theorem c_len {a : Addr} {xs : List V} (h : SqA K L a xs) (q : Q (.int xs.length) L) : RE (rLen K [.ref a]) L Q := fun H s Qh k => ⟨a, xs, rfl, .inl (h H s), k _ _ _ s q⟩
theorem c_lenT {a : Addr} {xs : List V} (h : TqA K L a xs) (q : Q (.int xs.length) L) : RE (rLen K [.ref a]) L Q := fun H s Qh k => ⟨a, xs, rfl, .inr (h H s), k _ _ _ s q⟩
theorem c_list {a : Addr} {xs : List V} (h : SqA K L a xs) (q : ∀ p, Q (.ref p) (pt p (.lst xs) :: L)) : RE (rListOf K [.ref a]) L Q := fun H s Qh k => ⟨a, xs, rfl, .inl (h H s), fun p hp => k _ _ _ (sep_new s hp) (q p)⟩
theorem c_listT {a : Addr} {xs : List V} (h : TqA K L a xs) (q : ∀ p, Q (.ref p) (pt p (.lst xs) :: L)) : RE (rListOf K [.ref a]) L Q := fun H s Qh k => ⟨a, xs, rfl, .inr (h H s), fun p hp => k _ _ _ (sep_new s hp) (q p)⟩
theorem c_lenS {z : Str} (hz : z.length ≤ sizeLine) (q : Q (.int z.length) L) : RE (rLenS [.str z]) L Q := fun H s Qh k => ⟨z, rfl, hz, k _ _ _ s q⟩
theorem c_max2 {i j : Int} (q : Q (.int (if j > i then j else i)) L) : RE (rMax2 [.int i, .int j]) L Q := fun H s Qh k => ⟨i, j, rfl, k _ _ _ s q⟩
theorem c_min2 {i j : Int} (q : Q (.int (if j < i then j else i)) L) : RE (rMin2 [.int i, .int j]) L Q := fun H s Qh k => ⟨i, j, rfl, k _ _ _ s q⟩
theorem c_intI {i : Int} (q : Q (.int i) L) : RE (rInt1 [.int i]) L Q := fun H s Qh k => .inl ⟨i, rfl, k _ _ _ s q⟩
theorem c_intB {b : Bool} (q : Q (.int (if b then 1 else 0)) L) : RE (rInt1 [.bl b]) L Q := fun H s Qh k => .inr ⟨b, rfl, k _ _ _ s q⟩
theorem c_strI {i : Int} (h : i.natAbs.log2 < 1920) (q : Q (.str (toString i)) L) : RE (rStrI [.int i]) L Q := fun H s Qh k => ⟨i, rfl, h, k _ _ _ s q⟩
theorem c_sortedI {a : Addr} {ns : List Int} (h : SqA K L a (ns.map V.int)) (q : ∀ (ms : List Int) (p : Addr), ms.Perm ns → ms.Pairwise (· ≤ ·) → Q (.ref p) (pt p (.lst (ms.map V.int)) :: L)) : RE (rSortedI K [.ref a]) L Q := fun H s Qh k =>
  ⟨a, ns, rfl, h H s, fun ms p hp hw hn => k _ _ _ (sep_new s hn) (q ms p hp hw)⟩
/-- isinstance -/
theorem c_isi {x c : V} {tv u : Value} {b : Bool} (hc : ClsV c u) (hx : ∀ H, Sep L H → TyX K H x tv) (e : PySem.W.kitOne K tv u = some b) (q : Q (.bl b) L) : RE (rIsi K [x, c]) L Q := fun H s Qh k => ⟨x, c, tv, u, b, rfl, hc, hx H s, e, k _ _ _ s q⟩
/-! ### tests -/
theorem t_test (h : SE te σ L fun x L1 => ∃ b, x = .bl b ∧ QB b L1) : ST (tTest te) σ L QB := fun H s Qh k =>
  h H s _ fun x L1 H1 s1 ⟨b, e, q⟩ => ⟨b, e, k _ _ _ s1 q⟩
theorem t_B (h : SE te σ L fun x L1 => ∃ b, x = .bl b ∧ QB b L1) : ST (tB te) σ L QB := fun H s Qh k =>
  h H s _ fun x L1 H1 s1 ⟨b, e, q⟩ => ⟨b, e, k _ _ _ s1 q⟩
theorem t_and (h : ST tt σ L fun b L1 => (b = true → ST tu σ L1 QB) ∧ (b = false → QB false L1)) : ST (tAnd tt tu) σ L QB := fun H s Qh k =>
  h H s _ fun b L1 H1 s1 ⟨ht, hf⟩ => by
    cases b with
    | true => rw [if_pos rfl]; exact ht rfl H1 s1 Qh k
    | false => rw [if_neg Bool.false_ne_true]; exact k _ _ _ s1 (hf rfl)
theorem t_or (h : ST tt σ L fun b L1 => (b = true → QB true L1) ∧ (b = false → ST tu σ L1 QB)) : ST (tOr tt tu) σ L QB := fun H s Qh k =>
  h H s _ fun b L1 H1 s1 ⟨ht, hf⟩ => by
    cases b with
    | true => rw [if_pos rfl]; exact k _ _ _ s1 (ht rfl)
    | false => rw [if_neg Bool.false_ne_true]; exact hf rfl H1 s1 Qh k
theorem t_not (h : ST tt σ L fun b L1 => QB (!b) L1) : ST (tNot tt) σ L QB := fun H s Qh k => h H s _ fun b L1 H1 s1 q => k _ _ _ s1 q
def tTruth (K : PySem.W.Frag) (ta : TE) : TT := fun σ H Q => ta σ H fun x H' => ∃ k, TruV K x H' k ∧ Q k H'
theorem t_tru (h : SE ta σ L fun x L1 => ∃ b, (∀ H, Sep L1 H → TruV K x H b) ∧ QB b L1) : ST (tTruth K ta) σ L QB := fun H s Qh k =>
  h H s _ fun x L1 H1 s1 ⟨b, e, q⟩ => ⟨b, e H1 s1, k _ _ _ s1 q⟩
/-! ### dicts -/
def rDGet (x y : V) : Hp → VK → Prop := fun H Q => ∃ a v, x = .ref a ∧ DGet H a y (some v) ∧ Q v H
def rDIn (x y : V) : Hp → VK → Prop := fun H Q => ∃ a o, x = .ref a ∧ DGet H a y o ∧ Q (.bl o.isSome) H
def rDNotIn (x y : V) : Hp → VK → Prop := fun H Q => ∃ a o, x = .ref a ∧ DGet H a y o ∧ Q (.bl (!o.isSome)) H
theorem e_dget {td ty : TE} (h : SE td σ L fun x L1 => SE ty σ L1 fun y L2 => RE (rDGet x y) L2 Q) : SE (tDGet td ty) σ L Q := fun H s Qh k =>
  h H s _ fun x L1 H1 s1 h1 => h1 H1 s1 _ fun y L2 H2 s2 h2 => h2 H2 s2 Qh k
theorem e_din {td ty : TE} (h : SE ty σ L fun y L1 => SE td σ L1 fun x L2 => RE (rDIn x y) L2 Q) : SE (tDIn ty td) σ L Q := fun H s Qh k =>
  h H s _ fun x L1 H1 s1 h1 => h1 H1 s1 _ fun y L2 H2 s2 h2 => h2 H2 s2 Qh k
theorem e_dnotin {td ty : TE} (h : SE ty σ L fun y L1 => SE td σ L1 fun x L2 => RE (rDNotIn x y) L2 Q) : SE (tDNotIn ty td) σ L Q := fun H s Qh k =>
  h H s _ fun x L1 H1 s1 h1 => h1 H1 s1 _ fun y L2 H2 s2 h2 => h2 H2 s2 Qh k
theorem r_dget {a : Addr} {n : Int} {kvs : List (Key × V)} {v : V} (h : Has L a (.dK kvs)) (e : valV kvs (Sum.inl n) = some v) (q : Q v L) : RE (rDGet (.ref a) (.int n)) L Q := fun H s Qh k =>
  ⟨a, v, rfl, by rw [← e]; exact DGet.k (k := Sum.inl n) (h H s), k _ _ _ s q⟩
theorem r_din {a : Addr} {n : Int} {kvs : List (Key × V)} (h : Has L a (.dK kvs)) (q : Q (.bl (valV kvs (Sum.inl n)).isSome) L) : RE (rDIn (.ref a) (.int n)) L Q := fun H s Qh k =>
  ⟨a, _, rfl, DGet.k (k := Sum.inl n) (h H s), k _ _ _ s q⟩
theorem r_dnotin {a : Addr} {n : Int} {kvs : List (Key × V)} (h : Has L a (.dK kvs)) (q : Q (.bl (!(valV kvs (Sum.inl n)).isSome)) L) : RE (rDNotIn (.ref a) (.int n)) L Q := fun H s Qh k =>
  ⟨a, _, rfl, DGet.k (k := Sum.inl n) (h H s), k _ _ _ s q⟩
theorem e_dnew (q : ∀ p, Q (.ref p) (pt p (.dK []) :: L)) : SE tDNewK σ L Q := fun H s Qh k => fun p hp => k _ _ _ (sep_new s hp) (q p)
/-! ### statements -/
theorem s_next (q : D.nx σ L) : SS tNext D σ L := fun H s E le => le.nx _ _ _ s q
theorem s_brk (q : D.bk σ L) : SS tBreak D σ L := fun H s E le => le.bk _ _ _ s q
theorem s_cnt (q : D.ct σ L) : SS tCont D σ L := fun H s E le => le.ct _ _ _ s q
theorem s_seq (h : SS t { D with nx := fun σ L => SS u D σ L } σ L) : SS (tSeq t u) D σ L := fun H s E le =>
  h H s { E with nx := u E } ⟨fun σ L H s q => q H s E le, le.rt, le.bk, le.ct⟩
theorem s_asg {i : Nat} (h : SE te σ L fun v L1 => D.nx (σ.set i (some v)) L1) : SS (tAsg te (gName i)) D σ L := fun H s E le =>
  h H s _ fun v L1 H1 s1 q => le.nx _ _ _ s1 q
theorem s_drop (h : SE te σ L fun _ L1 => D.nx σ L1) : SS (tDrop te) D σ L := fun H s E le => h H s _ fun v L1 H1 s1 q => le.nx _ _ _ s1 q
theorem s_ret (h : SE te σ L D.rt) : SS (tRet te) D σ L := fun H s E le => h H s _ fun v L1 H1 s1 q => le.rt _ _ _ s1 q
theorem s_retN (q : D.rt .non L) : SS tRetN D σ L := fun H s E le => le.rt _ _ _ s q
theorem s_if (h : ST tt σ L fun b L1 => (b = true → SS t D σ L1) ∧ (b = false → SS u D σ L1)) : SS (tIfS tt t u) D σ L := fun H s E le =>
  h H s _ fun b L1 H1 s1 ⟨ht, hf⟩ => by
    cases b with
    | true => rw [if_pos rfl]; exact ht rfl H1 s1 E le
    | false => rw [if_neg Bool.false_ne_true]; exact hf rfl H1 s1 E le
theorem s_setL {to ti : TE} (h : SE te σ L fun v L1 => SE to σ L1 fun o L2 => SE ti σ L2 fun i L3 => RS (rSetL o i v) L3 fun L4 => D.nx σ L4) : SS (tAsg te (gSub to ti rSetL)) D σ L := fun H s E le =>
  h H s _ fun v L1 H1 s1 h1 => h1 H1 s1 _ fun o L2 H2 s2 h2 => h2 H2 s2 _ fun i L3 H3 s3 h3 => h3 H3 s3 _ fun L4 H4 s4 q => le.nx _ _ _ s4 q
theorem r_setL {a : Addr} {xs : List V} {i : Int} {j : Nat} {v : V} {QS : AL → Prop} (h : Has L a (.lst xs)) (e : ixN xs.length i = some j) (w : Wr L a (.lst (xs.set j v)) M) (q : QS M) : RS (rSetL (.ref a) (.int i) v) L QS := fun H s Qh k =>
  ⟨a, xs, i, j, rfl, rfl, h H s, e, k _ _ (w H s).2 q⟩
theorem s_fld {f : Str} (h : SE tv σ L fun y L1 => SE ta σ L1 fun x L2 => ∃ a C dx fs M, x = .ref a ∧ Has L2 a (.ins C dx fs) ∧ Cls K C ∧ NoAttr K C f ∧ fs.length < 1000 ∧ Wr L2 a (.ins C dx (putF f y fs)) M ∧ D.nx σ M) : SS (sFld K ta tv f) D σ L := fun H s E le =>
  h H s _ fun y L1 H1 s1 h1 => h1 H1 s1 _ fun x L2 H2 s2 ⟨a, C, dx, fs, M, e, hh, c, n, z, w, q⟩ => ⟨a, C, dx, fs, e, hh H2 s2, c, n, z, le.nx _ _ _ (w H2 s2).2 q⟩
theorem s_aug {i : Nat} {f : Int → Int → Int} {x : Int} (hx : σ[i]? = some (some (.int x))) (h : SE te σ L fun y L1 => ∃ j, y = .int j ∧ D.nx (σ.set i (some (.int (f x j)))) L1) : SS (tAug i te (ipI f)) D σ L := fun H s E le =>
  ⟨.int x, hx, h H s _ fun y L1 H1 s1 ⟨j, e, q⟩ => ⟨x, j, rfl, e, le.nx _ _ _ s1 q⟩⟩
theorem s_dput {td ty : TE} (h : SE tv σ L fun v L1 => SE td σ L1 fun x L2 => SE ty σ L2 fun y L3 => ∃ a n kvs M, x = .ref a ∧ y = .int n ∧ Has L3 a (.dK kvs) ∧ kvs.length < sizeLine ∧ Wr L3 a (.dK (putK kvs (Sum.inl n) v)) M ∧ D.nx σ M) : SS (sDPut td ty tv) D σ L := fun H s E le =>
  h H s _ fun v L1 H1 s1 h1 => h1 H1 s1 _ fun x L2 H2 s2 h2 => h2 H2 s2 _ fun y L3 H3 s3 ⟨a, n, kvs, M, e, e2, hh, z, w, q⟩ => ⟨a, _, e, by rw [e2]; exact DPut.k (k := Sum.inl n) (hh H3 s3) z, le.nx _ _ _ (w H3 s3).2 q⟩
/-! ### methods of lists -/
theorem e_bm {T : String} {r : V → List V → Hp → VK → Prop} {to : TE} {tr : TA} (h : SE to σ L fun x L1 => (∀ H, Sep L1 H → tyV K T x H) ∧ SA tr σ L1 fun xs L2 => RE (r x xs) L2 Q) : SE (tBM K T r to tr) σ L Q := fun H s Qh k =>
  h H s _ fun x L1 H1 s1 ⟨ty, h1⟩ => ⟨ty H1 s1, h1 H1 s1 _ fun xs L2 H2 s2 h2 => h2 H2 s2 Qh k⟩
theorem e_bm0 {T : String} {r : V → List V → Hp → VK → Prop} {to : TE} (h : SE to σ L fun x L1 => (∀ H, Sep L1 H → tyV K T x H) ∧ RE (r x []) L1 Q) : SE (tBM0 K T r to) σ L Q := fun H s Qh k =>
  h H s _ fun x L1 H1 s1 ⟨ty, h1⟩ => ⟨ty H1 s1, h1 H1 s1 Qh k⟩
theorem ty_list {a : Addr} {xs : List V} (h : SqA K L a xs) : ∀ H, Sep L H → tyV K "list" (.ref a) H := fun H s => Or.inl ⟨rfl, xs, h H s⟩
theorem r_append {a : Addr} {xs : List V} {y : V} (h : Has L a (.lst xs)) (z : xs.length < sizeLine) (w : Wr L a (.lst (xs ++ [y])) M) (q : Q .non M) : RE (rAppend (.ref a) [y]) L Q := fun H s Qh k =>
  ⟨a, xs, y, rfl, rfl, h H s, z, k _ _ _ (w H s).2 q⟩
theorem r_popAt {a : Addr} {xs : List V} {i : Int} {j : Nat} {y : V} (h : Has L a (.lst xs)) (b : -(2 ^ 63) ≤ i ∧ i < 2 ^ 63) (e : seqIndex? i xs.length = some j) (ey : xs[j]? = some y) (w : Wr L a (.lst (xs.eraseIdx j)) M) (q : Q y M) :
    RE (rPopAt (.ref a) [.int i]) L Q := fun H s Qh k => ⟨a, xs, i, j, y, rfl, rfl, h H s, b.1, b.2, e, ey, k _ _ _ (w H s).2 q⟩
theorem r_clear {a : Addr} {xs : List V} (h : Has L a (.lst xs)) (w : Wr L a (.lst []) M) (q : Q .non M) : RE (rClear (.ref a) []) L Q := fun H s Qh k => ⟨a, xs, rfl, rfl, h H s, k _ _ _ (w H s).2 q⟩
/-! ### slices -/
theorem o_none {QO : Option Int → AL → Prop} (q : QO none L) : SO tNoPart σ L QO := fun H s Qh k => k _ _ _ s q
theorem o_some {QO : Option Int → AL → Prop} (h : SE te σ L fun x L1 => ∃ i, x = .int i ∧ QO (some i) L1) : SO (tPart te) σ L QO := fun H s Qh k =>
  h H s _ fun x L1 H1 s1 ⟨i, e, q⟩ => ⟨i, e, k _ _ _ s1 q⟩
theorem e_sl {r : V → Option Int → Option Int → Hp → VK → Prop} {tl th : TO} (h : SE te σ L fun x L1 => SO tl σ L1 fun l L2 => SO th σ L2 fun u L3 => RE (r x l u) L3 Q) : SE (tSl r te tl th) σ L Q := fun H s Qh k =>
  h H s _ fun x L1 H1 s1 h1 => h1 H1 s1 _ fun l L2 H2 s2 h2 => h2 H2 s2 _ fun u L3 H3 s3 h3 => h3 H3 s3 Qh k
theorem r_slL {a : Addr} {xs : List V} {lo hi : Option Int} (h : SqA K L a xs) (q : ∀ p, Q (.ref p) (pt p (.lst (cutV xs lo hi)) :: L)) : RE (rSlL K (.ref a) lo hi) L Q := fun H s Qh k =>
  ⟨a, xs, rfl, h H s, fun p hp => k _ _ _ (sep_new s hp) (q p)⟩
/-! ### loops -/
theorem s_forL {tl : TE} {j : Nat} (h : SE tl σ L fun x L1 => ∃ a xs, x = .ref a ∧ SqA K L1 a xs ∧ ∃ Pv : Nat → L2.St → AL → Prop, Pv 0 σ L1 ∧ (∀ i σ L, i ≤ xs.length → Pv i σ L → SqA K L a xs) ∧
      (∀ i x σ L, xs[i]? = some x → Pv i σ L → SS t { D with nx := Pv (i + 1), ct := Pv (i + 1), bk := D.nx } (σ.set j (some x)) L) ∧ ∀ σ L, Pv xs.length σ L → D.nx σ L) : SS (tFor (iList K tl) (gName j) t) D σ L := fun H s E le =>
  h H s _ fun x L1 H1 s1 ⟨a, xs, e, hq, Pv, h0, hl, hs, hd⟩ => ⟨a, e, ⟨xs, hq H1 s1⟩, for_list (K := K) (a := a) (xs := xs) (fun i σ H => ∃ L, Sep L H ∧ Pv i σ L) ⟨L1, s1, h0⟩ (fun i σ H hi ⟨L, s, p⟩ => hl i σ L hi p H s)
    (fun i x σ H hx ⟨L, s, p⟩ => hs i x σ L hx p H s _ ⟨fun σ L H s q => ⟨L, s, q⟩, le.rt, fun σ L H s q => le.nx σ L H s q, fun σ L H s q => ⟨L, s, q⟩⟩) fun σ H ⟨L, s, p⟩ => le.nx _ _ _ s (hd σ L p)⟩
theorem s_forT {tl : TE} {j : Nat} (h : SE tl σ L fun x L1 => ∃ a xs, x = .ref a ∧ TqA K L1 a xs ∧ ∃ Pv : Nat → L2.St → AL → Prop, Pv 0 σ L1 ∧ (∀ i σ L, i ≤ xs.length → Pv i σ L → TqA K L a xs) ∧
      (∀ i x σ L, xs[i]? = some x → Pv i σ L → SS t { D with nx := Pv (i + 1), ct := Pv (i + 1), bk := D.nx } (σ.set j (some x)) L) ∧ ∀ σ L, Pv xs.length σ L → D.nx σ L) : SS (tFor (iTup K tl) (gName j) t) D σ L := fun H s E le =>
  h H s _ fun x L1 H1 s1 ⟨a, xs, e, hq, Pv, h0, hl, hs, hd⟩ => ⟨a, e, ⟨xs, hq H1 s1⟩, for_tup (K := K) (a := a) (xs := xs) (fun i σ H => ∃ L, Sep L H ∧ Pv i σ L) ⟨L1, s1, h0⟩ (fun i σ H hi ⟨L, s, p⟩ => hl i σ L hi p H s)
    (fun i x σ H hx ⟨L, s, p⟩ => hs i x σ L hx p H s _ ⟨fun σ L H s q => ⟨L, s, q⟩, le.rt, fun σ L H s q => le.nx σ L H s q, fun σ L H s q => ⟨L, s, q⟩⟩) fun σ H ⟨L, s, p⟩ => le.nx _ _ _ s (hd σ L p)⟩
/-- over range(n); hi: the ints of the turns -/
theorem s_forR1 {tr : TA} {j : Nat} (h : SA tr σ L fun vs L1 => ∃ n : Int, vs = [.int n] ∧ -(2 ^ 62) ≤ n ∧ n < 2 ^ 62 ∧ ∃ Pv : Nat → L2.St → AL → Prop, Pv 0 σ L1 ∧
      (∀ (i : Nat) σ L, (i : Int) < n → Pv i σ L → SS t { D with nx := Pv (i + 1), ct := Pv (i + 1), bk := D.nx } (σ.set j (some (.int (i : Int)))) L) ∧ ∀ σ L, Pv n.toNat σ L → D.nx σ L) : SS (tFor (iRng1 tr) (gName j) t) D σ L := fun H s E le =>
  h H s _ fun vs L1 H1 s1 ⟨n, e, b1, b2, Pv, h0, hs, hd⟩ => ⟨n, e, b1, b2, for_range (lo := 0) (n := n.toNat) (fun i σ H => ∃ L, Sep L H ∧ Pv i σ L) ⟨L1, s1, h0⟩
    (fun i σ H hi ⟨L, s, p⟩ => by
      have e0 : (0 : Int) + (i : Int) = (i : Int) := Int.zero_add _
      rw [e0]
      exact hs i σ L (by omega) p H s _ ⟨fun σ L H s q => ⟨L, s, q⟩, le.rt, fun σ L H s q => le.nx σ L H s q, fun σ L H s q => ⟨L, s, q⟩⟩) fun σ H ⟨L, s, p⟩ => le.nx _ _ _ s (hd σ L p)⟩
theorem s_forR2 {tr : TA} {j : Nat} (h : SA tr σ L fun vs L1 => ∃ lo n : Int, vs = [.int lo, .int n] ∧ (-(2 ^ 62) ≤ lo ∧ lo < 2 ^ 62 ∧ -(2 ^ 62) ≤ n ∧ n < 2 ^ 62) ∧ ∃ Pv : Nat → L2.St → AL → Prop, Pv 0 σ L1 ∧
      (∀ (i : Nat) σ L, lo + (i : Int) < n → Pv i σ L → SS t { D with nx := Pv (i + 1), ct := Pv (i + 1), bk := D.nx } (σ.set j (some (.int (lo + (i : Int))))) L) ∧ ∀ σ L, Pv (n - lo).toNat σ L → D.nx σ L) : SS (tFor (iRng2 tr) (gName j) t) D σ L := fun H s E le =>
  h H s _ fun vs L1 H1 s1 ⟨lo, n, e, b, Pv, h0, hs, hd⟩ => ⟨lo, n, e, b, for_range (lo := lo) (n := (n - lo).toNat) (fun i σ H => ∃ L, Sep L H ∧ Pv i σ L) ⟨L1, s1, h0⟩
    (fun i σ H hi ⟨L, s, p⟩ => hs i σ L (by omega) p H s _ ⟨fun σ L H s q => ⟨L, s, q⟩, le.rt, fun σ L H s q => le.nx σ L H s q, fun σ L H s q => ⟨L, s, q⟩⟩) fun σ H ⟨L, s, p⟩ => le.nx _ _ _ s (hd σ L p)⟩
theorem s_forS {ts : TE} {j : Nat} (h : SE ts σ L fun x L1 => ∃ z : Str, x = .str z ∧ ∃ Pv : Nat → L2.St → AL → Prop, Pv 0 σ L1 ∧
      (∀ i c σ L, z.cps[i]? = some c → Pv i σ L → SS t { D with nx := Pv (i + 1), ct := Pv (i + 1), bk := D.nx } (σ.set j (some (.str ⟨#[c]⟩))) L) ∧ ∀ σ L, Pv z.cps.size σ L → D.nx σ L) : SS (tFor (iStr ts) (gName j) t) D σ L := fun H s E le =>
  h H s _ fun x L1 H1 s1 ⟨z, e, Pv, h0, hs, hd⟩ => ⟨z, e, fun i m σ H => m = z.cps.size - i ∧ i ≤ z.cps.size ∧ ∃ L, Sep L H ∧ Pv i σ L, ⟨z.cps.size, rfl, Nat.zero_le _, L1, s1, h0⟩, by
    rintro i m σ H ⟨rfl, hi, L, s, p⟩
    by_cases hlt : i < z.cps.size
    · refine .inr ⟨hlt, fun σ H => ∃ L, Sep L H ∧ Pv (i + 1) σ L, fun σ' H' p' => ⟨z.cps.size - (i + 1), by omega, rfl, hlt, p'⟩, fun x H' y => ?_⟩
      obtain ⟨e1, c, hc, e2⟩ := y
      subst e1 e2
      exact hs i c σ L hc p _ s _ ⟨fun σ L H s q => ⟨L, s, q⟩, le.rt, fun σ L H s q => le.nx σ L H s q, fun σ L H s q => ⟨L, s, q⟩⟩
    · have e : i = z.cps.size := by omega
      subst e
      exact .inl ⟨Nat.le_refl _, le.nx _ _ _ s (hd σ L p)⟩⟩
/-- while, by a word and its measure -/
theorem s_while (W : Nat → L2.St → AL → Prop) (h0 : ∃ m, W m σ L)
    (hs : ∀ m σ L, W m σ L → ST tt σ L fun b L1 => (b = true → SS t { D with nx := fun σ L => ∃ m', m' < m ∧ W m' σ L, ct := fun σ L => ∃ m', m' < m ∧ W m' σ L, bk := D.nx } σ L1) ∧ (b = false → D.nx σ L1)) : SS (tWhile tt t) D σ L := fun H s E le =>
  ⟨fun m σ H => ∃ L, Sep L H ∧ W m σ L, h0.elim fun m w => ⟨m, L, s, w⟩, fun m σ H ⟨L, s, w⟩ => hs m σ L w H s _ fun b L1 H1 s1 ⟨ht, hf⟩ => by
    cases b with
    | true =>
      rw [if_pos rfl]
      exact ⟨fun σ H => ∃ m' L, m' < m ∧ Sep L H ∧ W m' σ L, fun σ' H' ⟨m', L, l, s, w⟩ => ⟨m', l, L, s, w⟩, ht rfl H1 s1 _ ⟨fun σ L H s ⟨m', l, w⟩ => ⟨m', L, l, s, w⟩, le.rt, fun σ L H s q => le.nx σ L H s q, fun σ L H s ⟨m', l, w⟩ => ⟨m', L, l, s, w⟩⟩⟩
    | false => rw [if_neg Bool.false_ne_true]; exact le.nx _ _ _ s1 (hf rfl)⟩
/-- a cut between two statements -/
theorem s_cut {t u : TS} {Mid : L2.St → AL → Prop} (h : SS t { D with nx := Mid } σ L) (k : ∀ σ L, Mid σ L → SS u D σ L) : SS (tSeq t u) D σ L :=
  s_seq (s_mono h (fun σ L q => k σ L q) (fun _ _ q => q) (fun _ _ q => q) fun _ _ q => q)
/-! ### comprehensions: Pv: behind i turns, what the new list holds, and the rest -/
theorem e_lcL {tl : TE} {j : Nat} {vs : List Nat} (h : SE tl σ L fun x L1 => ∃ a xs, x = .ref a ∧ SqA K L1 a xs ∧ (∀ x, wipe ((wipe σ vs).set j (some x)) vs = wipe σ vs) ∧ ∃ Pv : Nat → List V → AL → Prop, Pv 0 [] L1 ∧ (∀ i acc L, i ≤ xs.length → Pv i acc L → SqA K L a xs) ∧
      (∀ i x acc L (d : Addr), xs[i]? = some x → Pv i acc L → ST tt ((wipe σ vs).set j (some x)) (pt d (.lst acc) :: L) fun b L2 =>
        (b = true → SE te ((wipe σ vs).set j (some x)) L2 fun y L3 => ∃ L4, Ent L3 (pt d (.lst acc) :: L4) ∧ acc.length < sizeLine ∧ Pv (i + 1) (acc ++ [y]) L4) ∧ (b = false → ∃ L4, Ent L2 (pt d (.lst acc) :: L4) ∧ Pv (i + 1) acc L4)) ∧
      ∀ acc L d, Pv xs.length acc L → Q (.ref d) (pt d (.lst acc) :: L)) : SE (tLc (iList K tl) (gName j) tt te vs) σ L Q := fun H s Qh k =>
  h H s _ fun x L1 H1 s1 ⟨a, xs, e, hq, hw, Pv, h0, hl, hs, hd⟩ => ⟨a, e, ⟨xs, hq H1 s1⟩, fun d hD => lc_list (K := K) (a := a) (xs := xs) (fun i H => ∃ acc L, Sep (pt d (.lst acc) :: L) H ∧ Pv i acc L) ⟨[], L1, sep_new s1 hD, h0⟩
    (fun i H hi ⟨acc, L, s, p⟩ => hl i acc L hi p H s.tail)
    (fun i x H hx ⟨acc, L, s, p⟩ => ⟨hw x, hs i x acc L d hx p H s _ fun b L2 H2 s2 ⟨ht, hf⟩ => by
      cases b with
      | true =>
        rw [if_pos rfl]
        refine ht rfl H2 s2 _ fun y L3 H3 s3 ⟨L4, en, z, p4⟩ => ?_
        have s4 := en H3 s3
        exact ⟨acc, has_hd H3 s4, z, acc ++ [y], L4, (wr_hd H3 s4).2, p4⟩
      | false =>
        rw [if_neg Bool.false_ne_true]
        obtain ⟨L4, en, p4⟩ := hf rfl
        exact ⟨acc, L4, en H2 s2, p4⟩⟩)
    fun H ⟨acc, L, s, p⟩ => k _ _ _ s (hd acc L d p)⟩
theorem e_lcR1 {tr : TA} {j : Nat} {vs : List Nat} (h : SA tr σ L fun us L1 => ∃ n : Int, us = [.int n] ∧ -(2 ^ 62) ≤ n ∧ n < 2 ^ 62 ∧ (∀ x, wipe ((wipe σ vs).set j (some x)) vs = wipe σ vs) ∧ ∃ Pv : Nat → List V → AL → Prop, Pv 0 [] L1 ∧
      (∀ (i : Nat) acc L (d : Addr), (i : Int) < n → Pv i acc L → ST tt ((wipe σ vs).set j (some (.int (i : Int)))) (pt d (.lst acc) :: L) fun b L2 =>
        (b = true → SE te ((wipe σ vs).set j (some (.int (i : Int)))) L2 fun y L3 => ∃ L4, Ent L3 (pt d (.lst acc) :: L4) ∧ acc.length < sizeLine ∧ Pv (i + 1) (acc ++ [y]) L4) ∧ (b = false → ∃ L4, Ent L2 (pt d (.lst acc) :: L4) ∧ Pv (i + 1) acc L4)) ∧
      ∀ acc L d, Pv n.toNat acc L → Q (.ref d) (pt d (.lst acc) :: L)) : SE (tLc (iRng1 tr) (gName j) tt te vs) σ L Q := fun H s Qh k =>
  h H s _ fun us L1 H1 s1 ⟨n, e, b1, b2, hw, Pv, h0, hs, hd⟩ => ⟨n, e, b1, b2, fun d hD => lc_range (lo := 0) (n := n.toNat) (fun i H => ∃ acc L, Sep (pt d (.lst acc) :: L) H ∧ Pv i acc L) ⟨[], L1, sep_new s1 hD, h0⟩
    (fun i H hi ⟨acc, L, s, p⟩ => by
      have e0 : (0 : Int) + (i : Int) = (i : Int) := Int.zero_add _
      rw [e0]
      exact ⟨hw _, hs i acc L d (by omega) p H s _ fun b L2 H2 s2 ⟨ht, hf⟩ => by
        cases b with
        | true =>
          rw [if_pos rfl]
          refine ht rfl H2 s2 _ fun y L3 H3 s3 ⟨L4, en, z, p4⟩ => ?_
          have s4 := en H3 s3
          exact ⟨acc, has_hd H3 s4, z, acc ++ [y], L4, (wr_hd H3 s4).2, p4⟩
        | false =>
          rw [if_neg Bool.false_ne_true]
          obtain ⟨L4, en, p4⟩ := hf rfl
          exact ⟨acc, L4, en H2 s2, p4⟩⟩)
    fun H ⟨acc, L, s, p⟩ => k _ _ _ s (hd acc L d p)⟩
theorem e_lcR2 {tr : TA} {j : Nat} {vs : List Nat} (h : SA tr σ L fun us L1 => ∃ lo n : Int, us = [.int lo, .int n] ∧ (-(2 ^ 62) ≤ lo ∧ lo < 2 ^ 62 ∧ -(2 ^ 62) ≤ n ∧ n < 2 ^ 62) ∧ (∀ x, wipe ((wipe σ vs).set j (some x)) vs = wipe σ vs) ∧ ∃ Pv : Nat → List V → AL → Prop, Pv 0 [] L1 ∧
      (∀ (i : Nat) acc L (d : Addr), lo + (i : Int) < n → Pv i acc L → ST tt ((wipe σ vs).set j (some (.int (lo + (i : Int))))) (pt d (.lst acc) :: L) fun b L2 =>
        (b = true → SE te ((wipe σ vs).set j (some (.int (lo + (i : Int))))) L2 fun y L3 => ∃ L4, Ent L3 (pt d (.lst acc) :: L4) ∧ acc.length < sizeLine ∧ Pv (i + 1) (acc ++ [y]) L4) ∧ (b = false → ∃ L4, Ent L2 (pt d (.lst acc) :: L4) ∧ Pv (i + 1) acc L4)) ∧
      ∀ acc L d, Pv (n - lo).toNat acc L → Q (.ref d) (pt d (.lst acc) :: L)) : SE (tLc (iRng2 tr) (gName j) tt te vs) σ L Q := fun H s Qh k =>
  h H s _ fun us L1 H1 s1 ⟨lo, n, e, b, hw, Pv, h0, hs, hd⟩ => ⟨lo, n, e, b, fun d hD => lc_range (lo := lo) (n := (n - lo).toNat) (fun i H => ∃ acc L, Sep (pt d (.lst acc) :: L) H ∧ Pv i acc L) ⟨[], L1, sep_new s1 hD, h0⟩
    (fun i H hi ⟨acc, L, s, p⟩ => 
      ⟨hw _, hs i acc L d (by omega) p H s _ fun b L2 H2 s2 ⟨ht, hf⟩ => by
        cases b with
        | true =>
          rw [if_pos rfl]
          refine ht rfl H2 s2 _ fun y L3 H3 s3 ⟨L4, en, z, p4⟩ => ?_
          have s4 := en H3 s3
          exact ⟨acc, has_hd H3 s4, z, acc ++ [y], L4, (wr_hd H3 s4).2, p4⟩
        | false =>
          rw [if_neg Bool.false_ne_true]
          obtain ⟨L4, en, p4⟩ := hf rfl
          exact ⟨acc, L4, en H2 s2, p4⟩⟩)
    fun H ⟨acc, L, s, p⟩ => k _ _ _ s (hd acc L d p)⟩
theorem t_yes (q : QB true L) : ST tYes σ L QB := fun H s Qh k => k _ _ _ s q
end
/-! ### promises -/
abbrev Pm := List V → AL → (V → AL → Prop) → (Value → AL → Prop) → Prop
def lift (P : Pm) : Sp := fun vs H Q E => ∃ L Qa Ea, Sep L H ∧ P vs L Qa Ea ∧ (∀ v L' H', Sep L' H' → Qa v L' → Q v H') ∧ ∀ c L' H', Sep L' H' → Ea c L' → E c none H'
/-- how an exception that is wished for by lists of assertions is wished for -/
def ELe (Ea : Value → AL → Prop) (E : XK) : Prop := ∀ c L H, Sep L H → Ea c L → E c none H
section
variable {K : PySem.W.Frag} {σ : L2.St} {L M : AL} {te ta tb tv : TE} {Q : V → AL → Prop} {P : Pm} {tr : TA} {E : XK} {Ea : Value → AL → Prop}
theorem lift_body {t : TS} {H : Hp} {vs : List V} {Qh : VK} {σ : L2.St} (h : lift P vs H Qh E) (b : ∀ L Qa Ea, ELe Ea E → P vs L Qa Ea → SS t { nx := fun _ L => Qa .non L, rt := Qa } σ L) : t { nx := fun _ H' => Qh .non H', rt := Qh } σ H := by
  obtain ⟨L, Qa, Ea, s, p, kq, ke⟩ := h
  exact b L Qa Ea ke p H s _ ⟨fun σ L H s q => kq _ _ _ s q, fun v L H s q => kq _ _ _ s q, fun _ _ _ _ q => q.elim, fun _ _ _ _ q => q.elim⟩
theorem e_call (h : SA tr σ L fun vs L1 => ∃ L2, Ent L1 L2 ∧ P vs L2 Q fun _ _ => False) : SE (tCall (lift P) [] E0 tr) σ L Q := fun H s Qh k =>
  h H s _ fun vs L1 H1 s1 ⟨L2, en, p⟩ => ⟨L2, Q, fun _ _ => False, en H1 s1, by rw [List.append_nil]; exact p, k, fun _ _ _ _ q => q.elim⟩
theorem e_callE (he : ELe Ea E) (h : SA tr σ L fun vs L1 => ∃ L2, Ent L1 L2 ∧ P vs L2 Q Ea) : SE (tCall (lift P) [] E tr) σ L Q := fun H s Qh k =>
  h H s _ fun vs L1 H1 s1 ⟨L2, en, p⟩ => ⟨L2, Q, Ea, en H1 s1, by rw [List.append_nil]; exact p, k, he⟩
theorem e_meth {C : Addr} {m : Str} (h : SE ta σ L fun x L1 => ∃ a dx fs, x = .ref a ∧ Has L1 a (.ins C dx fs) ∧ fs.lookup m = none ∧ SA tr σ L1 fun vs L2 => ∃ L3, Ent L2 L3 ∧ P (x :: vs) L3 Q fun _ _ => False) : SE (tMeth C m (lift P) [] E0 ta tr) σ L Q := fun H s Qh k =>
  h H s _ fun x L1 H1 s1 ⟨a, dx, fs, e, hh, l, h1⟩ => ⟨a, dx, fs, e, hh H1 s1, l, h1 H1 s1 _ fun vs L2 H2 s2 ⟨L3, en, p⟩ => ⟨L3, Q, fun _ _ => False, en H2 s2, by rw [List.append_nil]; exact p, k, fun _ _ _ _ q => q.elim⟩⟩
theorem e_methE {C : Addr} {m : Str} (he : ELe Ea E) (h : SE ta σ L fun x L1 => ∃ a dx fs, x = .ref a ∧ Has L1 a (.ins C dx fs) ∧ fs.lookup m = none ∧ SA tr σ L1 fun vs L2 => ∃ L3, Ent L2 L3 ∧ P (x :: vs) L3 Q Ea) : SE (tMeth C m (lift P) [] E ta tr) σ L Q := fun H s Qh k =>
  h H s _ fun x L1 H1 s1 ⟨a, dx, fs, e, hh, l, h1⟩ => ⟨a, dx, fs, e, hh H1 s1, l, h1 H1 s1 _ fun vs L2 H2 s2 ⟨L3, en, p⟩ => ⟨L3, Q, Ea, en H2 s2, by rw [List.append_nil]; exact p, k, he⟩⟩
theorem e_make {C : Addr} (he : ELe Ea E) (h : SA tr σ L fun vs L1 => ∀ p dx, ∃ L2, Ent (pt p (.ins C dx []) :: L1) L2 ∧ P (.ref p :: vs) L2 (fun v L3 => v = .non ∧ Q (.ref p) L3) Ea) : SE (tMake C (lift P) [] E tr) σ L Q := fun H s Qh k =>
  h H s _ fun vs L1 H1 s1 h1 => fun x dx hx hdx ne => by
    obtain ⟨L2, en, p⟩ := h1 x dx
    have s2 : Sep (pt x (.ins C dx []) :: L1) (upd (upd H1 dx (.own x)) x (.ins C dx [])) := sep_new ((s1.mono (fun b o e => by rw [upd_ne (ne_of_none e hdx)]; exact e))) (by rw [upd_ne ne.symm]; exact hx)
    exact ⟨L2, fun v L3 => v = .non ∧ Q (.ref x) L3, Ea, en _ s2, by rw [List.append_nil]; exact p, fun v L3 H3 s3 q => ⟨q.1, k _ _ _ s3 q.2⟩, he⟩
def tRaiseC (C : Addr) (E : XK) : TS := fun _ _ H => E (.ref C) none H
theorem s_raise {C : Addr} {D : EA} (he : ELe Ea E) (q : Ea (.ref C) L) : SS (tRaiseC C E) D σ L := fun H s _ _ => he _ _ _ s q
theorem ele0 : ELe (fun _ _ => False) E := fun _ _ _ _ q => q.elim
end
end Mp
/-! What gen.py's text uses: operators by values, promises by the number of arguments, the class Heap, the law's own promise. -/
namespace Mp
open PySem L2 PyProof.Rows
abbrev rAddI : R2 := rI0 fun i j => .int (i + j)
abbrev rSubI : R2 := rI0 fun i j => .int (i - j)
abbrev rMulI : R2 := rI CMul fun i j => .int (i * j)
abbrev rDivI : R2 := rI CDiv fun i j => .int (i / j)
abbrev rModI : R2 := rI (fun _ j => 0 < j) fun i j => .int (i % j)
abbrev rPowI : R2 := rI CPow fun i j => .int (i ^ j.toNat)
abbrev rLtI : R2 := rI0 fun i j => .bl (decide (i < j))
abbrev rLeI : R2 := rI0 fun i j => .bl (decide (i ≤ j))
abbrev rGtI : R2 := rI0 fun i j => .bl (decide (j < i))
abbrev rGeI : R2 := rI0 fun i j => .bl (decide (j ≤ i))
abbrev rNegI : V → Hp → VK → Prop := rU fun i => .int (-i)
abbrev rAddStr : R2 := fun x y H Q => ∃ i j, x = .str i ∧ y = .str j ∧ i.length + j.length ≤ sizeLine ∧ Q (.str (i ++ j)) H
theorem r_neg {L : AL} {Q : V → AL → Prop} {i : Int} (q : Q (.int (-i)) L) : RE (rNegI (.int i)) L Q := fun H s Qh k => ⟨i, rfl, k _ _ _ s q⟩
theorem get_list {X : Cx} : PGet X (rIxL X.K) := by
  intro pins s σ H x y v u Q I rx ry h
  obtain ⟨p, xs, i, z, rfl, rfl, hq, he, q⟩ := h
  cases rx
  obtain ⟨t, rfl⟩ := ry
  obtain ⟨its, r, pl, hz⟩ := I.list hq
  obtain ⟨j, h1, h2, h3, h4, h5⟩ := atI_get he
  obtain ⟨w, ew, rw'⟩ := r.get h2
  have hl := r.length
  have hn := line63
  have fin : EP X pins σ Q w s := ⟨z, H, I, rw', q⟩
  by_cases h0 : 0 ≤ i
  · have hj : i.toNat = j := by
      rw [seqIndex_of h0 h5] at h1
      exact Option.some.inj h1
    exact wpAny_getItem_list pl.isList h0 (by omega) (by rw [hj]; simpa using ew) fin
  · have hj : (i + (its.toArray.size : Int)).toNat = j := by
      rw [seqIndex_neg (by omega) h4] at h1
      rw [List.size_toArray, ← hl]
      exact Option.some.inj h1
    exact wpAny_getItem_list_neg pl.isList (by omega) (by rw [List.size_toArray] <;> omega) (by omega) (by rw [hj]; simpa using ew) fin
section
variable {K : PySem.W.Frag} {σ : L2.St} {L : AL} {Q : V → AL → Prop} {QS : AL → Prop} {ta tv : TE} {D : EA}
theorem s_augL {to ti te : TE} (h : SE to σ L fun o L1 => SE ti σ L1 fun i L2 => ∃ x, RE (rIxL K o i) L2 fun v L3 => v = .int x ∧ SE te σ L3 fun y L4 => ∃ j, y = .int j ∧ RS (rSetL o i (.int (x + j))) L4 fun L5 => D.nx σ L5) :
    SS (tAugS to ti te (rIxL K) (ipI fun i j => i + j) rSetL) D σ L := fun H s E le =>
  h H s _ fun o L1 H1 s1 h1 => h1 H1 s1 _ fun i L2 H2 s2 ⟨x, h2⟩ => h2 H2 s2 _ fun v L3 H3 s3 ⟨e, h3⟩ => h3 H3 s3 _ fun y L4 H4 s4 ⟨j, ej, h4⟩ => ⟨x, j, e, ej, h4 H4 s4 _ fun L5 H5 s5 q => le.nx _ _ _ s5 q⟩
theorem s_fldaug {f : Str} (h : SE ta σ L fun x L1 => ∃ a C dx fs i, x = .ref a ∧ Has L1 a (.ins C dx fs) ∧ Cls K C ∧ NoAttr K C f ∧ fs.lookup f = some (.int i) ∧ SE tv σ L1 fun y L2 => ∃ j dx' fs' M, y = .int j ∧ Has L2 a (.ins C dx' fs') ∧ fs'.length < 1000 ∧ Wr L2 a (.ins C dx' (putF f (.int (i + j)) fs')) M ∧ D.nx σ M) :
    SS (sFldAug K ta tv L2.rAdd f) D σ L := fun H s E le =>
  h H s _ fun x L1 H1 s1 ⟨a, C, dx, fs, i, e, hh, c, n, l, h1⟩ => ⟨a, C, dx, fs, .int i, e, hh H1 s1, c, n, l, h1 H1 s1 _ fun y L2 H2 s2 ⟨j, dx', fs', M, ey, hh2, z, w, q⟩ => ⟨i, j, rfl, ey, dx', fs', hh2 H2 s2, z, le.nx _ _ _ (w H2 s2).2 q⟩⟩
theorem r_listD {a : Addr} {kvs : List (Key × V)} (h : Has L a (.dK kvs)) (q : ∀ p, Q (.ref p) (pt p (.lst (kvs.map fun kv => kV kv.1)) :: L)) : RE (rListD [.ref a]) L Q := fun H s Qh k =>
  ⟨a, kvs, rfl, h H s, fun p hp => k _ _ _ (sep_new s hp) (q p)⟩
theorem c_lenD {a : Addr} {kvs : List (Key × V)} (h : Has L a (.dK kvs)) (q : Q (.int kvs.length) L) : RE (rLenD [.ref a]) L Q := fun H s Qh k => ⟨a, kvs, rfl, h H s, k _ _ _ s q⟩
end
/-! ### promises by the number of arguments -/
def pm1 (B : V → AL → (V → AL → Prop) → (Value → AL → Prop) → Prop) : Pm := fun vs L Q E => ∃ x, vs = [x] ∧ B x L Q E
def pm2 (B : V → V → AL → (V → AL → Prop) → (Value → AL → Prop) → Prop) : Pm := fun vs L Q E => ∃ x y, vs = [x, y] ∧ B x y L Q E
def pm3 (B : V → V → V → AL → (V → AL → Prop) → (Value → AL → Prop) → Prop) : Pm := fun vs L Q E => ∃ x y z, vs = [x, y, z] ∧ B x y z L Q E
def pm4 (B : V → V → V → V → AL → (V → AL → Prop) → (Value → AL → Prop) → Prop) : Pm := fun vs L Q E => ∃ x y z u, vs = [x, y, z, u] ∧ B x y z u L Q E
def pm5 (B : V → V → V → V → V → AL → (V → AL → Prop) → (Value → AL → Prop) → Prop) : Pm := fun vs L Q E => ∃ x y z u v, vs = [x, y, z, u, v] ∧ B x y z u v L Q E
def pm6 (B : V → V → V → V → V → V → AL → (V → AL → Prop) → (Value → AL → Prop) → Prop) : Pm := fun vs L Q E => ∃ x y z u v w, vs = [x, y, z, u, v, w] ∧ B x y z u v w L Q E
theorem pm1_len {B} {vs : List V} {L Q E} (h : pm1 B vs L Q E) : vs.length = 1 := by obtain ⟨_, rfl, _⟩ := h; rfl
theorem pm2_len {B} {vs : List V} {L Q E} (h : pm2 B vs L Q E) : vs.length = 2 := by obtain ⟨_, _, rfl, _⟩ := h; rfl
theorem pm3_len {B} {vs : List V} {L Q E} (h : pm3 B vs L Q E) : vs.length = 3 := by obtain ⟨_, _, _, rfl, _⟩ := h; rfl
theorem pm4_len {B} {vs : List V} {L Q E} (h : pm4 B vs L Q E) : vs.length = 4 := by obtain ⟨_, _, _, _, rfl, _⟩ := h; rfl
theorem pm5_len {B} {vs : List V} {L Q E} (h : pm5 B vs L Q E) : vs.length = 5 := by obtain ⟨_, _, _, _, _, rfl, _⟩ := h; rfl
theorem pm6_len {B} {vs : List V} {L Q E} (h : pm6 B vs L Q E) : vs.length = 6 := by obtain ⟨_, _, _, _, _, _, rfl, _⟩ := h; rfl
theorem lift_len {P : Pm} {n : Nat} (h : ∀ {vs : List V} {L Q E}, P vs L Q E → vs.length = n) : ∀ vs H Q E, lift P vs H Q E → vs.length = n := fun _ _ _ _ ⟨_, _, _, _, p, _⟩ => h p
/-! ### the classes -/
structure Ex where
  Heap : Addr
  HeapError : Addr
  NoHand : Addr
  NoSlot : Addr
  NoRoom : Addr
  NothingHeld : Addr
  NoBox : Addr
  NoWork : Addr
  NoHeap : Addr
  NoDeed : Addr
  COUNTS : Addr
def Ex0 : Ex := ⟨0, 0, 0, 0, 0, 0, 0, 0, 0, 0, 0⟩
structure HT (K : PySem.W.Frag) (A : Ex) : Prop where
  cl : Cls K A.Heap
  n_hands : NoAttr K A.Heap "hands"
  n_room : NoAttr K A.Heap "room"
  n_slots : NoAttr K A.Heap "slots"
  n_made : NoAttr K A.Heap "made"
  n_ended : NoAttr K A.Heap "ended"
  n_stage : NoAttr K A.Heap "stage"
  n_old : NoAttr K A.Heap "old"
  n_begun : NoAttr K A.Heap "begun"
  n_seen : NoAttr K A.Heap "seen"
  n_row : NoAttr K A.Heap "row"
  n_looked : NoAttr K A.Heap "looked"
  n_swept : NoAttr K A.Heap "swept"
/-! ### the script, and what the law promises -/
def Scr (K : PySem.W.Frag) (a : Addr) (ns : List Int) : Asn := fun h => SqL K h a (ns.map V.int)
theorem sq_sub {K : PySem.W.Frag} {h H : Hp} {a : Addr} {xs : List V} (s : Sub h H) (q : SqL K h a xs) : SqL K H a xs := Same.seq s q
theorem scr_hd {K : PySem.W.Frag} {a : Addr} {ns : List Int} {L : AL} : SqA K (Scr K a ns :: L) a (ns.map V.int) := fun H ⟨_, _, x, _, _, p, _⟩ => sq_sub x p
theorem sq_tl {K : PySem.W.Frag} {a : Addr} {xs : List V} {A : Asn} {L : AL} (h : SqA K L a xs) : SqA K (A :: L) a xs := fun _ s => h _ s.tail
def P_law (K : PySem.W.Frag) (_ : Ex) : Pm := pm1 fun x L Q _ => ∃ a ns, x = .ref a ∧ L = [Scr K a ns] ∧ ns.length ≤ 63 ∧ ∀ L', Q (.bl true) L'
theorem law_start {K : PySem.W.Frag} {H : Hp} {a : Addr} {ns : List Int} (hl : ns.length ≤ 63) (hS : SqL K H a (ns.map V.int)) : lift (P_law K Ex0) [.ref a] H (fun v _ => v = .bl true) fun _ _ _ => False :=
  ⟨[Scr K a ns], fun v _ => v = .bl true, fun _ _ => False, ⟨H, fun _ => none, Sub.refl _, (fun _ _ e => nomatch e), fun _ => .inr rfl, hS, True.intro⟩, ⟨_, rfl, a, ns, rfl, rfl, hl, fun _ => rfl⟩, fun _ _ _ _ q => q, fun _ _ _ _ q => q⟩
/-! ### isinstance of plain values -/
abbrev nV (n : Nat) : V := .int (n : Int)
abbrev oV : Option Nat → V
  | none => .non
  | some n => nV n
theorem isi_int_int {K : PySem.W.Frag} {L : AL} {Q : V → AL → Prop} {i : Int} (q : Q (.bl true) L) : RE (rIsi K [.int i, .ty "int"]) L Q := c_isi (.ty _) (fun _ _ => .base (.int i)) (kit_ty (by decide +kernel)) q
theorem isi_int_bool {K : PySem.W.Frag} {L : AL} {Q : V → AL → Prop} {i : Int} (q : Q (.bl false) L) : RE (rIsi K [.int i, .ty "bool"]) L Q := c_isi (.ty _) (fun _ _ => .base (.int i)) (kit_ty (by decide +kernel)) q
theorem isi_non_int {K : PySem.W.Frag} {L : AL} {Q : V → AL → Prop} (q : Q (.bl false) L) : RE (rIsi K [.non, .ty "int"]) L Q := c_isi (.ty _) (fun _ _ => .base .non) (kit_ty (by decide +kernel)) q
theorem isi_list {K : PySem.W.Frag} {L : AL} {Q : V → AL → Prop} {a : Addr} {xs : List V} (h : Has L a (.lst xs)) (q : Q (.bl true) L) : RE (rIsi K [.ref a, .ty "list"]) L Q := c_isi (.ty _) (fun H s => .base (.lst (h H s))) (kit_ty (by decide +kernel)) q
theorem isi_str {K : PySem.W.Frag} {L : AL} {Q : V → AL → Prop} {z : Str} (q : Q (.bl true) L) : RE (rIsi K [.str z, .ty "str"]) L Q := c_isi (.ty _) (fun _ _ => .base (.str z)) (kit_ty (by decide +kernel)) q
theorem isi_tup {K : PySem.W.Frag} {L : AL} {Q : V → AL → Prop} {a : Addr} {xs : List V} (h : Has L a (.tup xs)) (q : Q (.bl true) L) : RE (rIsi K [.ref a, .ty "tuple"]) L Q := c_isi (.ty _) (fun H s => .base (.tup (h H s))) (kit_ty (by decide +kernel)) q
theorem oV_flat (o : Option Nat) : flatV (oV o) = true := by cases o <;> rfl
theorem nV_inj {a b : Nat} (h : nV a = nV b) : a = b := by
  have e : (a : Int) = (b : Int) := V.int.inj h
  omega
theorem oV_inj {a b : Option Nat} (h : oV a = oV b) : a = b := by
  cases a with
  | none =>
    cases b with
    | none => rfl
    | some y => cases h
  | some x =>
    cases b with
    | none => cases h
    | some y => rw [nV_inj h]
theorem atI_toNat {xs : List V} {i : Int} {v : V} (h0 : 0 ≤ i) (h : xs[i.toNat]? = some v) : atI xs i = some v := by
  have e : i = ((i.toNat : Nat) : Int) := by omega
  rw [e]; exact atI_nat h
theorem ixN_toNat {n : Nat} {i : Int} (h0 : 0 ≤ i) (h : i < n) : ixN n i = some i.toNat := by
  unfold ixN
  rw [if_pos h0, if_pos h]
theorem ixN_nat {n i : Nat} (h : i < n) : ixN n (i : Int) = some i := by
  rw [ixN_toNat (by omega) (by omega)]; simp
theorem map_oV_some (xs : List Nat) : (xs.map some).map oV = xs.map nV := by rw [List.map_map]; rfl
theorem map_nV_int (xs : List Nat) : xs.map nV = (xs.map fun (n : Nat) => (n : Int)).map V.int := by rw [List.map_map]; rfl
theorem map_oV_inj {xs ys : List (Option Nat)} (h : xs.map oV = ys.map oV) : xs = ys := by
  induction xs generalizing ys with
  | nil => cases ys with
    | nil => rfl
    | cons y ys => cases h
  | cons x xs ih => cases ys with
    | nil => cases h
    | cons y ys =>
      rw [List.map_cons, List.map_cons] at h
      injection h with h1 h2
      rw [oV_inj h1, ih h2]
/-- sorted lists with the same items are the same -/
theorem sorted_same : ∀ {xs ys : List Int}, xs.Perm ys → xs.Pairwise (· ≤ ·) → ys.Pairwise (· ≤ ·) → xs = ys
  | [], ys, p, _, _ => by rw [List.nil_perm.mp p]
  | x :: xs, [], p, _, _ => absurd p.length_eq (by simp)
  | x :: xs, y :: ys, p, hx, hy => by
    have e : x = y := by
      have m1 : x ∈ y :: ys := p.subset List.mem_cons_self
      have m2 : y ∈ x :: xs := p.symm.subset List.mem_cons_self
      have l1 : y ≤ x := by
        rcases List.mem_cons.mp m1 with h | h
        · omega
        · exact (List.pairwise_cons.mp hy).1 x h
      have l2 : x ≤ y := by
        rcases List.mem_cons.mp m2 with h | h
        · omega
        · exact (List.pairwise_cons.mp hx).1 y h
      omega
    subst e
    rw [sorted_same (List.perm_cons x |>.mp p) (List.pairwise_cons.mp hx).2 (List.pairwise_cons.mp hy).2]
theorem c_sortedN {K : PySem.W.Frag} {L : AL} {Q : V → AL → Prop} {a : Addr} {ns T : List Nat} (h : SqA K L a (ns.map nV)) (hp : T.Perm ns) (ht : T.Pairwise (· ≤ ·)) (q : ∀ p, Q (.ref p) (pt p (.lst (T.map nV)) :: L)) : RE (rSortedI K [.ref a]) L Q := by
  rw [map_nV_int] at h
  refine c_sortedI h fun ms p hm hw => ?_
  have e : ms = T.map fun (n : Nat) => (n : Int) := sorted_same (hm.trans (hp.map _).symm) hw (List.pairwise_map.mpr (ht.imp fun h => by omega))
  rw [e, ← map_nV_int]
  exact q p
/-- lists of numbers below n without repetition are not longer than n -/
theorem nodup_bound : ∀ (n : Nat) {xs : List Nat}, xs.Nodup → (∀ x ∈ xs, x < n) → xs.length ≤ n
  | 0, xs, _, h => by
    cases xs with
    | nil => exact Nat.le_refl _
    | cons x xs => exact absurd (h x List.mem_cons_self) (Nat.not_lt_zero _)
  | n + 1, xs, hn, h => by
    have h1 : (xs.filter fun x => decide (x ≠ n)).length ≤ n := nodup_bound n (hn.filter _) fun x hx => by
      obtain ⟨a, b⟩ := List.mem_filter.mp hx
      have c := h x a
      have d : x ≠ n := of_decide_eq_true b
      omega
    have h2 : (xs.filter fun x => !decide (x ≠ n)).length ≤ 1 := by
      have hN : (xs.filter fun x => !decide (x ≠ n)).Nodup := hn.filter _
      have hA : ∀ x ∈ (xs.filter fun x => !decide (x ≠ n)), x = n := fun x hx => by
        obtain ⟨_, b⟩ := List.mem_filter.mp hx
        simpa using b
      match (xs.filter fun x => !decide (x ≠ n)), hN, hA with
      | [], _, _ => exact Nat.zero_le _
      | [a], _, _ => exact Nat.le_refl _
      | a :: b :: r, hN, hA =>
        have ea := hA a (by simp)
        have eb := hA b (by simp)
        have := (List.nodup_cons.mp hN).1
        rw [ea, eb] at this
        simp at this
    have e : ∀ l : List Nat, (l.filter fun x => decide (x ≠ n)).length + (l.filter fun x => !decide (x ≠ n)).length = l.length := by
      intro l
      induction l with
      | nil => rfl
      | cons a l ih =>
        by_cases c : a = n
        · rw [List.filter_cons_of_neg (by simp [c]), List.filter_cons_of_pos (by simp [c])]
          simp only [List.length_cons]; omega
        · rw [List.filter_cons_of_pos (by simp [c]), List.filter_cons_of_neg (by simp [c])]
          simp only [List.length_cons]; omega
    have := e xs
    omega
end Mp
namespace Mp
open PySem L2
theorem both_t {P R : Prop} (p : P) : (true = true → P) ∧ (true = false → R) := ⟨fun _ => p, (fun z => nomatch z)⟩
theorem both_f {P R : Prop} (r : R) : (false = true → P) ∧ (false = false → R) := ⟨(fun z => nomatch z), fun _ => r⟩
theorem ex_t {P R : Prop} (p : P) : ∃ b, V.bl true = V.bl b ∧ (b = true → P) ∧ (b = false → R) := ⟨true, rfl, both_t p⟩
theorem ex_f {P R : Prop} (r : R) : ∃ b, V.bl false = V.bl b ∧ (b = true → P) ∧ (b = false → R) := ⟨false, rfl, both_f r⟩
theorem ex_c {c : Prop} [Decidable c] {P R : Prop} (p : c → P) (r : ¬ c → R) : ∃ b, V.bl (decide c) = V.bl b ∧ (b = true → P) ∧ (b = false → R) := ⟨_, rfl, fun h => p (of_decide_eq_true h), fun h => r (of_decide_eq_false h)⟩
theorem ex_n {c : Prop} [Decidable c] {P R : Prop} (p : ¬ c → P) (r : c → R) : ∃ b, V.bl (!decide c) = V.bl b ∧ (b = true → P) ∧ (b = false → R) := by
  refine ⟨_, rfl, fun h => p ?_, fun h => r ?_⟩
  · intro hc; rw [decide_eq_true hc] at h; cases h
  · apply Decidable.byContradiction; intro hc; rw [decide_eq_false hc] at h; cases h
/-- what is left may be told by a weaker list -/
theorem e_post {te : TE} {σ : L2.St} {L : AL} {Q : V → AL → Prop} (h : SE te σ L fun v L1 => ∃ L2, Ent L1 L2 ∧ Q v L2) : SE te σ L Q := fun H s Qh k => h H s Qh fun v L1 H1 s1 ⟨L2, e, q⟩ => k v L2 H1 (e H1 s1) q
theorem r_post {r : Hp → VK → Prop} {L : AL} {Q : V → AL → Prop} (h : RE r L fun v L1 => ∃ L2, Ent L1 L2 ∧ Q v L2) : RE r L Q := fun H s Qh k => h H s Qh fun v L1 H1 s1 ⟨L2, e, q⟩ => k v L2 H1 (e H1 s1) q
theorem s_postR {te : TE} {D : EA} {σ : L2.St} {L : AL} (h : SE te σ L fun v L1 => ∃ L2, Ent L1 L2 ∧ D.rt v L2) : SS (tRet te) D σ L := s_ret (e_post h)
theorem s_post {t : TS} {D : EA} {σ : L2.St} {L : AL} (h : SS t { D with nx := fun σ L1 => ∃ L2, Ent L1 L2 ∧ D.nx σ L2 } σ L) : SS t D σ L := fun H s E le =>
  h H s E ⟨fun σ L1 H1 s1 ⟨L2, e, q⟩ => le.nx σ L2 H1 (e H1 s1) q, le.rt, le.bk, le.ct⟩
end Mp
/-! Families of cells: lists of lists, dicts of lists. -/
namespace Mp
open PySem L2
section
variable {β : Type} {f : β → HO}
def zc (f : β → HO) (as : List Addr) (bs : List β) : AL := List.zipWith (fun a b => pt a (f b)) as bs
theorem has_app {L R : AL} {a : Addr} {o : HO} (h : Has R a o) : Has (L ++ R) a o := by
  induction L with
  | nil => exact h
  | cons A L ih => exact has_tl ih
theorem wr_app {L R M : AL} {a : Addr} {o : HO} (h : Wr R a o M) : Wr (L ++ R) a o (L ++ M) := by
  induction L with
  | nil => exact h
  | cons A L ih => exact wr_tl ih
theorem zc_has : ∀ {as : List Addr} {bs : List β} {i : Nat} {a : Addr} {b : β} {L : AL}, as[i]? = some a → bs[i]? = some b → Has (zc f as bs ++ L) a (f b)
  | [], _, _, _, _, _, h, _ => by simp at h
  | _ :: _, [], _, _, _, _, _, h => by simp at h
  | a0 :: as, b0 :: bs, 0, a, b, L, h1, h2 => by
    have e1 : a0 = a := Option.some.inj h1
    have e2 : b0 = b := Option.some.inj h2
    subst e1; subst e2
    exact has_hd
  | a0 :: as, b0 :: bs, i + 1, a, b, L, h1, h2 => has_tl (zc_has (as := as) (bs := bs) (i := i) h1 h2)
theorem zc_wr : ∀ {as : List Addr} {bs : List β} {i : Nat} {a : Addr} {b b' : β} {L : AL}, as[i]? = some a → bs[i]? = some b → Wr (zc f as bs ++ L) a (f b') (zc f as (bs.set i b') ++ L)
  | [], _, _, _, _, _, _, h, _ => by simp at h
  | _ :: _, [], _, _, _, _, _, _, h => by simp at h
  | a0 :: as, b0 :: bs, 0, a, b, b', L, h1, h2 => by
    have e1 : a0 = a := Option.some.inj h1
    subst e1
    exact wr_hd
  | a0 :: as, b0 :: bs, i + 1, a, b, b', L, h1, h2 => wr_tl (zc_wr (as := as) (bs := bs) (i := i) h1 h2)
theorem zc_snoc : ∀ {as : List Addr} {bs : List β} {a : Addr} {b : β}, as.length = bs.length → zc f (as ++ [a]) (bs ++ [b]) = zc f as bs ++ [pt a (f b)]
  | [], [], _, _, _ => rfl
  | [], _ :: _, _, _, h => by simp at h
  | _ :: _, [], _, _, h => by simp at h
  | a0 :: as, b0 :: bs, a, b, h => by
    have ih := zc_snoc (as := as) (bs := bs) (a := a) (b := b) (by simpa using h)
    show pt a0 (f b0) :: zc f (as ++ [a]) (bs ++ [b]) = pt a0 (f b0) :: (zc f as bs ++ [pt a (f b)])
    rw [ih]
theorem zc_erase : ∀ {as : List Addr} {bs : List β} {i : Nat} {L : AL}, Ent (zc f as bs ++ L) (zc f (as.eraseIdx i) (bs.eraseIdx i) ++ L)
  | [], bs, i, L => by
    have e : ∀ bs : List β, zc f [] bs = [] := fun bs => by cases bs <;> rfl
    rw [e, List.eraseIdx_nil, e]
    exact Ent.refl _
  | a :: as, [], i, L => by
    have e : ∀ as : List Addr, zc f as ([] : List β) = [] := fun as => by cases as <;> rfl
    rw [e, List.eraseIdx_nil, e]
    exact Ent.refl _
  | a :: as, b :: bs, 0, L => Ent.drop
  | a :: as, b :: bs, i + 1, L => Ent.cons (zc_erase (as := as) (bs := bs) (i := i) (L := L))
end
theorem has_star {Ls R : AL} {a : Addr} {o : HO} (h : Has (Ls ++ R) a o) : Has (Star Ls :: R) a o := h.ent ent_unstar
theorem wr_star {Ls Ms R : AL} {a : Addr} {o : HO} (h : Wr (Ls ++ R) a o (Ms ++ R)) : Wr (Star Ls :: R) a o (Star Ms :: R) := (h.ent ent_unstar).to ent_star
/-! ### a list of lists -/
def fL (r : List (Option Nat)) : HO := .lst (r.map oV)
def RowsA (p : Addr) (as : List Addr) (rows : List (List (Option Nat))) : Asn := Star (pt p (.lst (as.map V.ref)) :: zc fL as rows)
section
variable {p a : Addr} {as : List Addr} {rows : List (List (Option Nat))} {r r' : List (Option Nat)} {i : Nat} {L : AL}
theorem rows_p : Has (RowsA p as rows :: L) p (.lst (as.map V.ref)) := has_star has_hd
theorem rows_i (h1 : as[i]? = some a) (h2 : rows[i]? = some r) : Has (RowsA p as rows :: L) a (.lst (r.map oV)) := has_star (has_tl (zc_has (f := fL) h1 h2))
theorem rows_set (h1 : as[i]? = some a) (h2 : rows[i]? = some r) : Wr (RowsA p as rows :: L) a (.lst (r'.map oV)) (RowsA p as (rows.set i r') :: L) := wr_star (wr_tl (zc_wr (f := fL) h1 h2))
theorem rows_new : Ent (pt p (.lst []) :: L) (RowsA p [] [] :: L) := ent_star (Ls := [pt p (.lst [])])
theorem perm_mid {A : Asn} {L R : AL} : (L ++ A :: R).Perm (A :: (L ++ R)) := List.perm_middle
theorem rows_push (hl : as.length = rows.length) : Wr (RowsA p as rows :: pt a (.lst (r.map oV)) :: L) p (.lst (as.map V.ref ++ [V.ref a])) (RowsA p (as ++ [a]) (rows ++ [r]) :: L) := by
  rw [show as.map V.ref ++ [V.ref a] = (as ++ [a]).map V.ref by rw [List.map_append]; rfl]
  have w : Wr (RowsA p as rows :: pt a (.lst (r.map oV)) :: L) p (.lst ((as ++ [a]).map V.ref)) (pt p (.lst ((as ++ [a]).map V.ref)) :: (zc fL as rows ++ pt a (.lst (r.map oV)) :: L)) := Wr.ent (L' := pt p (.lst (as.map V.ref)) :: (zc fL as rows ++ pt a (.lst (r.map oV)) :: L)) wr_hd ent_unstar
  refine w.to ?_
  have e : pt p (.lst ((as ++ [a]).map V.ref)) :: (zc fL as rows ++ pt a (.lst (r.map oV)) :: L) = (pt p (.lst ((as ++ [a]).map V.ref)) :: zc fL (as ++ [a]) (rows ++ [r])) ++ L := by
    rw [zc_snoc hl]
    simp [fL]
  rw [e]
  exact ent_star
end
/-- a dict whose keys are these numbers -/
def kvT (found : List Nat) : List (Key × V) := found.map fun (n : Nat) => ((Sum.inl (n : Int) : Key), V.bl true)
theorem kvT_some (found : List Nat) (m : Nat) : (valV (kvT found) (Sum.inl (m : Int))).isSome = decide (m ∈ found) := by
  induction found with
  | nil => rfl
  | cons a l ih =>
    by_cases c : a = m
    · subst c
      rw [show kvT (a :: l) = ((Sum.inl (a : Int) : Key), V.bl true) :: kvT l from rfl, valV_pos rfl]
      simp
    · rw [show kvT (a :: l) = ((Sum.inl (a : Int) : Key), V.bl true) :: kvT l from rfl, valV_neg (by intro z; have := Sum.inl.inj z; omega), ih]
      have : (m ∈ a :: l) = (m ∈ l) := by
        simp [show m ≠ a from fun z => c z.symm]
      simp only [this]
theorem kvT_put {found : List Nat} {m : Nat} (h : m ∉ found) : putK (kvT found) (Sum.inl (m : Int)) (.bl true) = kvT (found ++ [m]) := by
  have e : valV (kvT found) (Sum.inl (m : Int)) = none := by
    have := kvT_some found m
    rw [decide_eq_false h] at this
    cases q : valV (kvT found) (Sum.inl (m : Int)) with
    | none => rfl
    | some v => rw [q] at this; cases this
  rw [putK_new _ e]
  unfold kvT
  rw [List.map_append]
  rfl
theorem kvT_len (found : List Nat) : (kvT found).length = found.length := List.length_map _
theorem nd_app {l : List Nat} {a : Nat} (h : l.Nodup) (n : a ∉ l) : (l ++ [a]).Nodup := nd_snoc h n
theorem r_dnotT {L : AL} {Q : V → AL → Prop} {a : Addr} {found : List Nat} {m : Nat} (h : Has L a (.dK (kvT found))) (q : Q (.bl (!decide (m ∈ found))) L) : RE (rDNotIn (.ref a) (nV m)) L Q := r_dnotin (n := (m : Int)) h (by rw [kvT_some]; exact q)
theorem r_dinT {L : AL} {Q : V → AL → Prop} {a : Addr} {found : List Nat} {m : Nat} (h : Has L a (.dK (kvT found))) (q : Q (.bl (decide (m ∈ found))) L) : RE (rDIn (.ref a) (nV m)) L Q := r_din (n := (m : Int)) h (by rw [kvT_some]; exact q)
theorem small5 {n : Nat} (h : n ≤ 200000) : n < sizeLine := Nat.lt_of_le_of_lt h (by decide)
theorem small6 {n : Nat} (h : n ≤ 200000) : n ≤ sizeLine := Nat.le_trans h (by decide)
theorem map_get {α β : Type} {f : α → β} {xs : List α} {i : Nat} {y : β} (h : (xs.map f)[i]? = some y) : ∃ x, xs[i]? = some x ∧ f x = y := by
  rw [List.getElem?_map] at h
  cases e : xs[i]? with
  | none => rw [e] at h; cases h
  | some x => rw [e] at h; exact ⟨x, rfl, Option.some.inj h⟩
theorem map_at {α β : Type} (f : α → β) {xs : List α} {i : Nat} {x : α} (h : xs[i]? = some x) : (xs.map f)[i]? = some (f x) := by rw [List.getElem?_map, h]; rfl
theorem take_snoc {α : Type} {xs : List α} {i : Nat} {x : α} (h : xs[i]? = some x) : xs.take (i + 1) = xs.take i ++ [x] := by rw [List.take_add_one, h]; rfl
theorem SqA.ent {K : PySem.W.Frag} {L M : AL} {a : Addr} {xs : List V} (h : SqA K M a xs) (e : Ent L M) : SqA K L a xs := fun H s => h H (e H s)
theorem SqA.app {K : PySem.W.Frag} {L R : AL} {a : Addr} {xs : List V} (h : SqA K R a xs) : SqA K (L ++ R) a xs := by
  induction L with
  | nil => exact h
  | cons A L ih => exact sq_tl ih
theorem ent_app {L R : AL} : Ent (L ++ R) R := by
  induction L with
  | nil => exact Ent.refl _
  | cons A L ih => exact Ent.drop.trans ih
theorem ent_snoc {β : Type} {f : β → HO} {as : List Addr} {bs : List β} {a : Addr} {b : β} {L : AL} (h : as.length = bs.length) : Ent (pt a (f b) :: (zc f as bs ++ L)) (zc f (as ++ [a]) (bs ++ [b]) ++ L) := by
  rw [zc_snoc h, List.append_assoc]
  exact ent_perm List.perm_middle.symm
section
variable {K : PySem.W.Frag} {σ : L2.St} {L : AL} {te : TE} {Q : V → AL → Prop}
/-- a comprehension over range(n) whose items are new lists -/
theorem e_lcRowsR {tr : TA} {j : Nat} {vs : List Nat} (n : Nat) (f : Nat → List (Option Nat)) (hn : n ≤ 100000) (hw : ∀ x, wipe ((wipe σ vs).set j (some x)) vs = wipe σ vs) (h : SA tr σ L fun us L1 => us = [nV n] ∧ L1 = L)
    (hs : ∀ i, i < n → ∀ L', Ent L' L → SE te ((wipe σ vs).set j (some (nV i))) L' fun y L3 => ∃ a, y = .ref a ∧ L3 = pt a (fL (f i)) :: L')
    (hq : ∀ d as, as.length = n → Q (.ref d) (RowsA d as ((List.range n).map f) :: L)) : SE (tLc (iRng1 tr) (gName j) tYes te vs) σ L Q := by
  refine e_post (e_lcR1 (Q := fun v L1 => ∃ L2, Ent L1 L2 ∧ Q v L2) fun H s Qh k => h H s _ fun us L1 H1 s1 ⟨e1, e2⟩ => k _ _ _ s1 ⟨(n : Int), e1, by omega, by omega, hw, ?_⟩)
  subst e2
  refine ⟨fun i acc L' => ∃ as, acc = as.map V.ref ∧ as.length = i ∧ L' = zc fL as ((List.range i).map f) ++ L1, ⟨[], rfl, rfl, rfl⟩, ?_, ?_⟩
  · rintro i acc L' d hi ⟨as, rfl, hl, rfl⟩
    refine t_yes ⟨fun _ => ?_, (fun z => nomatch z)⟩
    refine e_mono (hs i (by omega) _ (Ent.drop.trans ent_app)) ?_
    rintro _ _ ⟨a, rfl, rfl⟩
    refine ⟨zc fL (as ++ [a]) ((List.range (i + 1)).map f) ++ L1, ?_, small5 (by rw [List.length_map]; omega), as ++ [a], by rw [List.map_append]; rfl, by rw [List.length_append, hl]; rfl, rfl⟩
    rw [List.range_succ, List.map_append]
    exact ent_swap.trans (Ent.cons (ent_snoc (by rw [List.length_map, List.length_range]; exact hl)))
  · rintro acc L' d ⟨as, rfl, hl, rfl⟩
    have e : ((n : Int)).toNat = n := by omega
    rw [e] at hl ⊢
    exact ⟨_, ent_star (Ls := pt d (.lst (as.map V.ref)) :: zc fL as ((List.range n).map f)), hq d as hl⟩
/-- a comprehension over a list whose items are new lists -/
theorem e_lcRowsL {tl : TE} {j : Nat} {vs : List Nat} {a0 : Addr} {xs : List V} (rows : List (List (Option Nat))) (hlen : rows.length = xs.length) (hn : xs.length ≤ 100000) (hw : ∀ x, wipe ((wipe σ vs).set j (some x)) vs = wipe σ vs) (h : SE tl σ L fun x L1 => x = .ref a0 ∧ L1 = L) (hsq : SqA K L a0 xs)
    (hs : ∀ (i : Nat) (x : V) (r : List (Option Nat)), xs[i]? = some x → rows[i]? = some r → ∀ L', Ent L' L → SE te ((wipe σ vs).set j (some x)) L' fun y L3 => ∃ a, y = .ref a ∧ L3 = pt a (fL r) :: L')
    (hq : ∀ d as, as.length = rows.length → Q (.ref d) (RowsA d as rows :: L)) : SE (tLc (iList K tl) (gName j) tYes te vs) σ L Q := by
  refine e_post (e_lcL (Q := fun v L1 => ∃ L2, Ent L1 L2 ∧ Q v L2) fun H s Qh k => h H s _ fun us L1 H1 s1 ⟨e1, e2⟩ => k _ _ _ s1 ⟨a0, xs, e1, by rw [e2]; exact hsq, hw, ?_⟩)
  subst e2
  refine ⟨fun i acc L' => ∃ as, acc = as.map V.ref ∧ as.length = i ∧ L' = zc fL as (rows.take i) ++ L1, ⟨[], rfl, rfl, rfl⟩, ?_, ?_, ?_⟩
  · rintro i acc L' _ ⟨as, rfl, hl, rfl⟩
    exact hsq.app
  · rintro i x acc L' d hx ⟨as, rfl, hl, rfl⟩
    have hi : i < xs.length := (List.getElem?_eq_some_iff.mp hx).1
    obtain ⟨r, hr⟩ : ∃ r, rows[i]? = some r := ⟨_, List.getElem?_eq_getElem (by omega)⟩
    refine t_yes ⟨fun _ => ?_, (fun z => nomatch z)⟩
    refine e_mono (hs i x r hx hr _ (Ent.drop.trans ent_app)) ?_
    rintro _ _ ⟨a, rfl, rfl⟩
    refine ⟨zc fL (as ++ [a]) (rows.take (i + 1)) ++ L1, ?_, small5 (by rw [List.length_map]; omega), as ++ [a], by rw [List.map_append]; rfl, by rw [List.length_append, hl]; rfl, rfl⟩
    rw [take_snoc hr]
    exact ent_swap.trans (Ent.cons (ent_snoc (by rw [List.length_take]; omega)))
  · rintro acc L' d ⟨as, rfl, hl, rfl⟩
    rw [← hlen, List.take_length]
    exact ⟨_, ent_star (Ls := pt d (.lst (as.map V.ref)) :: zc fL as rows), hq d as (by omega)⟩
/-- a comprehension over range(n) of plain values, some left out -/
theorem e_lcPlainR {tr : TA} {j : Nat} {vs : List Nat} {tt : TT} (n : Nat) (p : Nat → Bool) (g : Nat → V) (hn : n ≤ 100000) (hw : ∀ x, wipe ((wipe σ vs).set j (some x)) vs = wipe σ vs) (h : SA tr σ L fun us L1 => us = [nV n] ∧ L1 = L)
    (ht : ∀ i, i < n → ∀ L', Ent L' L → ST tt ((wipe σ vs).set j (some (nV i))) L' fun b L2 => b = p i ∧ L2 = L')
    (hs : ∀ i, i < n → p i = true → ∀ L', Ent L' L → SE te ((wipe σ vs).set j (some (nV i))) L' fun y L3 => y = g i ∧ L3 = L')
    (hq : ∀ d, Q (.ref d) (pt d (.lst (((List.range n).filter p).map g)) :: L)) : SE (tLc (iRng1 tr) (gName j) tt te vs) σ L Q := by
  refine e_lcR1 fun H s Qh k => h H s _ fun us L1 H1 s1 ⟨e1, e2⟩ => k _ _ _ s1 ⟨(n : Int), e1, by omega, by omega, hw, ?_⟩
  subst e2
  refine ⟨fun i acc L' => acc = ((List.range i).filter p).map g ∧ L' = L1, ⟨rfl, rfl⟩, ?_, ?_⟩
  · rintro i acc L' d hi ⟨rfl, rfl⟩
    have hl : (((List.range i).filter p).map g).length ≤ i := by
      rw [List.length_map]
      exact Nat.le_trans (List.length_filter_le _ _) (by rw [List.length_range]; exact Nat.le_refl _)
    refine t_mono (ht i (by omega) _ Ent.drop) ?_
    rintro b L2 ⟨rfl, rfl⟩
    refine ⟨fun hb => ?_, fun hb => ?_⟩
    · refine e_mono (hs i (by omega) hb _ Ent.drop) ?_
      rintro _ _ ⟨rfl, rfl⟩
      refine ⟨L', Ent.refl _, small5 (by omega), ?_, rfl⟩
      rw [List.range_succ, List.filter_append, List.map_append, List.filter_cons_of_pos hb]
      rfl
    · refine ⟨L', Ent.refl _, ?_, rfl⟩
      rw [List.range_succ, List.filter_append, List.filter_cons_of_neg (by rw [hb]; exact Bool.false_ne_true)]
      simp
  · rintro acc L' d ⟨rfl, rfl⟩
    have e : ((n : Int)).toNat = n := by omega
    rw [e]
    exact hq d
/-- a comprehension over a list, every item by a plain value -/
theorem e_lcPlainL {tl : TE} {j : Nat} {vs : List Nat} {a0 : Addr} {xs : List V} {tt : TT} (p : V → Bool) (g : V → V) (hn : xs.length ≤ 100000) (hw : ∀ x, wipe ((wipe σ vs).set j (some x)) vs = wipe σ vs) (h : SE tl σ L fun x L1 => x = .ref a0 ∧ L1 = L) (hsq : SqA K L a0 xs)
    (ht : ∀ x, x ∈ xs → ∀ L', Ent L' L → ST tt ((wipe σ vs).set j (some x)) L' fun b L2 => b = p x ∧ L2 = L')
    (hs : ∀ x, x ∈ xs → p x = true → ∀ L', Ent L' L → SE te ((wipe σ vs).set j (some x)) L' fun y L3 => y = g x ∧ L3 = L')
    (hq : ∀ d, Q (.ref d) (pt d (.lst ((xs.filter p).map g)) :: L)) : SE (tLc (iList K tl) (gName j) tt te vs) σ L Q := by
  refine e_lcL fun H s Qh k => h H s _ fun us L1 H1 s1 ⟨e1, e2⟩ => k _ _ _ s1 ⟨a0, xs, e1, by rw [e2]; exact hsq, hw, ?_⟩
  subst e2
  refine ⟨fun i acc L' => acc = ((xs.take i).filter p).map g ∧ L' = L1, ⟨rfl, rfl⟩, ?_, ?_, ?_⟩
  · rintro i acc L' _ ⟨rfl, rfl⟩
    exact hsq
  · rintro i x acc L' d hx ⟨rfl, rfl⟩
    have hi : i < xs.length := (List.getElem?_eq_some_iff.mp hx).1
    have hm : x ∈ xs := List.mem_of_getElem? hx
    have hl : (((xs.take i).filter p).map g).length ≤ i := by
      rw [List.length_map]
      refine Nat.le_trans (List.length_filter_le _ _) ?_
      rw [List.length_take]; omega
    refine t_mono (ht x hm _ Ent.drop) ?_
    rintro b L2 ⟨rfl, rfl⟩
    refine ⟨fun hb => ?_, fun hb => ?_⟩
    · refine e_mono (hs x hm hb _ Ent.drop) ?_
      rintro _ _ ⟨rfl, rfl⟩
      refine ⟨L', Ent.refl _, small5 (by omega), ?_, rfl⟩
      rw [take_snoc hx, List.filter_append, List.map_append, List.filter_cons_of_pos hb]
      rfl
    · refine ⟨L', Ent.refl _, ?_, rfl⟩
      rw [take_snoc hx, List.filter_append, List.filter_cons_of_neg (by rw [hb]; exact Bool.false_ne_true)]
      simp
  · rintro acc L' d ⟨rfl, rfl⟩
    rw [List.take_length]
    exact hq d
end
structure RdRows (K : PySem.W.Frag) (L : AL) (p : Addr) (as : List Addr) (rows : List (List (Option Nat))) : Prop where
  len : as.length = rows.length
  top : SqA K L p (as.map V.ref)
  row : ∀ (i : Nat) (a : Addr) (r : List (Option Nat)), as[i]? = some a → rows[i]? = some r → SqA K L a (r.map oV)
theorem rd_hd {K : PySem.W.Frag} {L : AL} {p : Addr} {as : List Addr} {rows : List (List (Option Nat))} (h : as.length = rows.length) : RdRows K (RowsA p as rows :: L) p as rows := ⟨h, Has.sq rows_p, fun _ _ _ h1 h2 => Has.sq (rows_i h1 h2)⟩
theorem rd_tl {K : PySem.W.Frag} {L : AL} {A : Asn} {p : Addr} {as : List Addr} {rows : List (List (Option Nat))} (h : RdRows K L p as rows) : RdRows K (A :: L) p as rows := ⟨h.len, sq_tl h.top, fun i a r h1 h2 => sq_tl (h.row i a r h1 h2)⟩
theorem nV_toNat {e : Int} (h : 0 ≤ e) : nV e.toNat = V.int e := by
  show V.int ((e.toNat : Nat) : Int) = V.int e
  congr 1
  omega
/-- what holds between two statements -/
theorem s_mid {t : TS} {D : EA} {σ : L2.St} {L : AL} {Mid : L2.St → AL → Prop} (h : SS t { D with nx := fun σ L1 => ∃ L2, Ent L1 L2 ∧ Mid σ L2 } σ L) (k : ∀ σ L, Mid σ L → D.nx σ L) : SS t D σ L :=
  s_post (s_mono h (fun σ L1 ⟨L2, e, m⟩ => ⟨L2, e, k σ L2 m⟩) (fun _ _ q => q) (fun _ _ q => q) fun _ _ q => q)
theorem cut_to {xs : List V} {h : Int} (h0 : 0 ≤ h) : cutV xs none (some h) = xs.take h.toNat := by
  have e : h = ((h.toNat : Nat) : Int) := by omega
  generalize h.toNat = k at e
  subst e
  unfold cutV
  rw [HT.sIx_nat, HT.sIx_none, List.drop_zero, Nat.sub_zero]
  by_cases c : k ≤ xs.length
  · rw [Nat.min_eq_left c]
  · rw [Nat.min_eq_right (by omega), List.take_of_length_le (Nat.le_refl _), List.take_of_length_le (by omega)]
theorem cut_from {xs : List V} {k : Nat} : cutV xs (some (k : Int)) none = xs.drop k := by
  unfold cutV
  rw [HT.sIx_nat, HT.sIx_none]
  by_cases c : k ≤ xs.length
  · rw [Nat.min_eq_left c]
    exact List.take_of_length_le (by rw [List.length_drop]; exact Nat.le_refl _)
  · rw [Nat.min_eq_right (by omega), List.drop_eq_nil_of_le (i := k) (by omega), List.drop_eq_nil_of_le (Nat.le_refl _)]
    exact List.take_nil
/-! ### the script's cells -/
def cell (ns : List Int) (k : Int) : Int := ns.getD k.toNat 0
def P_law_cell_at (K : PySem.W.Frag) (_ : Ex) : Pm := pm2 fun x y L Q _ => ∃ (a : Addr) (ns : List Int) (k : Int), x = .ref a ∧ y = .int k ∧ 0 ≤ k ∧ SqA K L a (ns.map V.int) ∧ Q (.int (cell ns k)) L
section
variable {K : PySem.W.Frag} {A : Ex} {L : AL} {Q : V → AL → Prop} {Ea : Value → AL → Prop}
theorem do_cell {a : Addr} {ns : List Int} {k : Int} (hq : SqA K L a (ns.map V.int)) (hk : 0 ≤ k) (q : Q (.int (cell ns k)) L) : ∃ L2, Ent L L2 ∧ P_law_cell_at K A [.ref a, .int k] L2 Q Ea :=
  ⟨L, Ent.refl _, _, _, rfl, a, ns, k, rfl, rfl, hk, hq, q⟩
end
end Mp
/-! The heap object's attributes: reading and storing. (Printed by a small program.) -/
namespace Mp
open PySem L2 PyProof.Rows
def hN : List Str := ["hands", "room", "slots", "made", "ended", "stage", "old", "begun", "seen", "row", "looked", "swept"]
theorem hN_nd : hN.Nodup := by decide +kernel
theorem zip_lookup : ∀ {ns : List Str} {vs : List V} {i : Nat} {f : Str} {v : V}, ns.Nodup → ns[i]? = some f → vs[i]? = some v → (ns.zip vs).lookup f = some v
  | [], _, _, _, _, _, h, _ => by simp at h
  | _ :: _, [], _, _, _, _, _, h => by simp at h
  | n :: ns, w :: vs, 0, f, v, _, h1, h2 => by
    have e1 : n = f := Option.some.inj h1
    have e2 : w = v := Option.some.inj h2
    subst e1; subst e2
    simp [List.lookup]
  | n :: ns, w :: vs, i + 1, f, v, nd, h1, h2 => by
    have hm : f ∈ ns := List.mem_of_getElem? (show ns[i]? = some f from h1)
    have hne : f ≠ n := fun z => (List.nodup_cons.mp nd).1 (z ▸ hm)
    have ih := zip_lookup (ns := ns) (vs := vs) (i := i) (List.nodup_cons.mp nd).2 h1 h2
    have hb : (f == n) = false := by simpa using hne
    simp only [List.zip_cons_cons, List.lookup, hb]
    exact ih
theorem zip_lookup_none : ∀ {ns : List Str} {vs : List V} {f : Str}, f ∉ ns → (ns.zip vs).lookup f = none
  | [], _, _, _ => rfl
  | _ :: _, [], _, _ => rfl
  | n :: ns, w :: vs, f, h => by
    have hne : f ≠ n := fun z => h (by rw [z]; exact List.mem_cons_self)
    have hb : (f == n) = false := by simpa using hne
    simp only [List.zip_cons_cons, List.lookup, hb]
    exact zip_lookup_none fun z => h (List.mem_cons_of_mem _ z)
theorem zip_putF : ∀ {ns : List Str} {vs : List V} {i : Nat} {f : Str} {y : V}, ns.Nodup → ns[i]? = some f → i < vs.length → putF f y (ns.zip vs) = ns.zip (vs.set i y)
  | [], _, _, _, _, _, h, _ => by simp at h
  | _ :: _, [], _, _, _, _, _, h => by simp at h
  | n :: ns, w :: vs, 0, f, y, _, h1, _ => by
    have e1 : n = f := Option.some.inj h1
    subst e1
    show (if n = n then _ else _) = _
    rw [if_pos rfl]
    rfl
  | n :: ns, w :: vs, i + 1, f, y, nd, h1, h2 => by
    have hm : f ∈ ns := List.mem_of_getElem? (show ns[i]? = some f from h1)
    have hne : ¬ n = f := fun z => (List.nodup_cons.mp nd).1 (z ▸ hm)
    have ih := zip_putF (ns := ns) (vs := vs) (i := i) (y := y) (List.nodup_cons.mp nd).2 h1 (Nat.lt_of_succ_lt_succ h2)
    show (if n = f then _ else (n, w) :: putF f y (ns.zip vs)) = (n, w) :: ns.zip (vs.set i y)
    rw [if_neg hne, ih]
theorem zip_putF_new : ∀ {ns : List Str} {vs : List V} {f : Str} {y : V}, ns.Nodup → ns[vs.length]? = some f → putF f y (ns.zip vs) = ns.zip (vs ++ [y])
  | [], _, _, _, _, h => by simp at h
  | n :: ns, [], f, y, _, h => by
    have e1 : n = f := Option.some.inj h
    subst e1
    show putF n y [] = [(n, y)] ++ ns.zip []
    rw [List.zip_nil_right]
    rfl
  | n :: ns, w :: vs, f, y, nd, h => by
    have hm : f ∈ ns := List.mem_of_getElem? (show ns[vs.length]? = some f from h)
    have hne : ¬ n = f := fun z => (List.nodup_cons.mp nd).1 (z ▸ hm)
    have ih := zip_putF_new (ns := ns) (vs := vs) (y := y) (List.nodup_cons.mp nd).2 h
    show (if n = f then _ else (n, w) :: putF f y (ns.zip vs)) = (n, w) :: ns.zip (vs ++ [y])
    rw [if_neg hne, ih]
/-- the attributes, as far as they are stored -/
def hF (vs : List V) : List (Str × V) := hN.zip vs
theorem hF_len (vs : List V) : (hF vs).length < 1000 := by
  unfold hF
  rw [List.length_zip]
  exact Nat.lt_of_le_of_lt (Nat.min_le_left _ _) (by decide)
theorem hF_no {vs : List V} {m : Str} (h : m ∉ hN) : (hF vs).lookup m = none := zip_lookup_none h
section
variable {K : PySem.W.Frag} {A : Ex} {L M : AL} {Q : V → AL → Prop} {p dx : Addr} {vs : List V} {v : V} {D : EA} {σ : L2.St}
theorem g_hands (T : HT K A) (h : Has L p (.ins A.Heap dx (hF vs))) (e : vs[0]? = some v) (q : Q v L) : RE (rFld K "hands" (.ref p)) L Q := r_fld T.cl T.n_hands h (zip_lookup (i := 0) hN_nd rfl e) q
theorem g_room (T : HT K A) (h : Has L p (.ins A.Heap dx (hF vs))) (e : vs[1]? = some v) (q : Q v L) : RE (rFld K "room" (.ref p)) L Q := r_fld T.cl T.n_room h (zip_lookup (i := 1) hN_nd rfl e) q
theorem g_slots (T : HT K A) (h : Has L p (.ins A.Heap dx (hF vs))) (e : vs[2]? = some v) (q : Q v L) : RE (rFld K "slots" (.ref p)) L Q := r_fld T.cl T.n_slots h (zip_lookup (i := 2) hN_nd rfl e) q
theorem g_made (T : HT K A) (h : Has L p (.ins A.Heap dx (hF vs))) (e : vs[3]? = some v) (q : Q v L) : RE (rFld K "made" (.ref p)) L Q := r_fld T.cl T.n_made h (zip_lookup (i := 3) hN_nd rfl e) q
theorem g_ended (T : HT K A) (h : Has L p (.ins A.Heap dx (hF vs))) (e : vs[4]? = some v) (q : Q v L) : RE (rFld K "ended" (.ref p)) L Q := r_fld T.cl T.n_ended h (zip_lookup (i := 4) hN_nd rfl e) q
theorem g_stage (T : HT K A) (h : Has L p (.ins A.Heap dx (hF vs))) (e : vs[5]? = some v) (q : Q v L) : RE (rFld K "stage" (.ref p)) L Q := r_fld T.cl T.n_stage h (zip_lookup (i := 5) hN_nd rfl e) q
theorem g_old (T : HT K A) (h : Has L p (.ins A.Heap dx (hF vs))) (e : vs[6]? = some v) (q : Q v L) : RE (rFld K "old" (.ref p)) L Q := r_fld T.cl T.n_old h (zip_lookup (i := 6) hN_nd rfl e) q
theorem g_begun (T : HT K A) (h : Has L p (.ins A.Heap dx (hF vs))) (e : vs[7]? = some v) (q : Q v L) : RE (rFld K "begun" (.ref p)) L Q := r_fld T.cl T.n_begun h (zip_lookup (i := 7) hN_nd rfl e) q
theorem g_seen (T : HT K A) (h : Has L p (.ins A.Heap dx (hF vs))) (e : vs[8]? = some v) (q : Q v L) : RE (rFld K "seen" (.ref p)) L Q := r_fld T.cl T.n_seen h (zip_lookup (i := 8) hN_nd rfl e) q
theorem g_row (T : HT K A) (h : Has L p (.ins A.Heap dx (hF vs))) (e : vs[9]? = some v) (q : Q v L) : RE (rFld K "row" (.ref p)) L Q := r_fld T.cl T.n_row h (zip_lookup (i := 9) hN_nd rfl e) q
theorem g_looked (T : HT K A) (h : Has L p (.ins A.Heap dx (hF vs))) (e : vs[10]? = some v) (q : Q v L) : RE (rFld K "looked" (.ref p)) L Q := r_fld T.cl T.n_looked h (zip_lookup (i := 10) hN_nd rfl e) q
theorem g_swept (T : HT K A) (h : Has L p (.ins A.Heap dx (hF vs))) (e : vs[11]? = some v) (q : Q v L) : RE (rFld K "swept" (.ref p)) L Q := r_fld T.cl T.n_swept h (zip_lookup (i := 11) hN_nd rfl e) q
theorem u_hands (T : HT K A) {y : V} (h : Has L p (.ins A.Heap dx (hF vs))) (hl : 0 < vs.length) (w : Wr L p (.ins A.Heap dx (hF (vs.set 0 y))) M) (q : D.nx σ M) :
    ∃ a C dx fs M, V.ref p = .ref a ∧ Has L a (.ins C dx fs) ∧ Cls K C ∧ NoAttr K C "hands" ∧ fs.length < 1000 ∧ Wr L a (.ins C dx (putF "hands" y fs)) M ∧ D.nx σ M := ⟨p, A.Heap, dx, _, M, rfl, h, T.cl, T.n_hands, hF_len _, by unfold hF; rw [zip_putF (i := 0) hN_nd rfl hl]; exact w, q⟩
theorem n_hands (T : HT K A) {y : V} (h : Has L p (.ins A.Heap dx (hF vs))) (hl : vs.length = 0) (w : Wr L p (.ins A.Heap dx (hF (vs ++ [y]))) M) (q : D.nx σ M) :
    ∃ a C dx fs M, V.ref p = .ref a ∧ Has L a (.ins C dx fs) ∧ Cls K C ∧ NoAttr K C "hands" ∧ fs.length < 1000 ∧ Wr L a (.ins C dx (putF "hands" y fs)) M ∧ D.nx σ M := ⟨p, A.Heap, dx, _, M, rfl, h, T.cl, T.n_hands, hF_len _, by unfold hF; rw [zip_putF_new hN_nd (by rw [hl]; rfl)]; exact w, q⟩
theorem u_room (T : HT K A) {y : V} (h : Has L p (.ins A.Heap dx (hF vs))) (hl : 1 < vs.length) (w : Wr L p (.ins A.Heap dx (hF (vs.set 1 y))) M) (q : D.nx σ M) :
    ∃ a C dx fs M, V.ref p = .ref a ∧ Has L a (.ins C dx fs) ∧ Cls K C ∧ NoAttr K C "room" ∧ fs.length < 1000 ∧ Wr L a (.ins C dx (putF "room" y fs)) M ∧ D.nx σ M := ⟨p, A.Heap, dx, _, M, rfl, h, T.cl, T.n_room, hF_len _, by unfold hF; rw [zip_putF (i := 1) hN_nd rfl hl]; exact w, q⟩
theorem n_room (T : HT K A) {y : V} (h : Has L p (.ins A.Heap dx (hF vs))) (hl : vs.length = 1) (w : Wr L p (.ins A.Heap dx (hF (vs ++ [y]))) M) (q : D.nx σ M) :
    ∃ a C dx fs M, V.ref p = .ref a ∧ Has L a (.ins C dx fs) ∧ Cls K C ∧ NoAttr K C "room" ∧ fs.length < 1000 ∧ Wr L a (.ins C dx (putF "room" y fs)) M ∧ D.nx σ M := ⟨p, A.Heap, dx, _, M, rfl, h, T.cl, T.n_room, hF_len _, by unfold hF; rw [zip_putF_new hN_nd (by rw [hl]; rfl)]; exact w, q⟩
theorem u_slots (T : HT K A) {y : V} (h : Has L p (.ins A.Heap dx (hF vs))) (hl : 2 < vs.length) (w : Wr L p (.ins A.Heap dx (hF (vs.set 2 y))) M) (q : D.nx σ M) :
    ∃ a C dx fs M, V.ref p = .ref a ∧ Has L a (.ins C dx fs) ∧ Cls K C ∧ NoAttr K C "slots" ∧ fs.length < 1000 ∧ Wr L a (.ins C dx (putF "slots" y fs)) M ∧ D.nx σ M := ⟨p, A.Heap, dx, _, M, rfl, h, T.cl, T.n_slots, hF_len _, by unfold hF; rw [zip_putF (i := 2) hN_nd rfl hl]; exact w, q⟩
theorem n_slots (T : HT K A) {y : V} (h : Has L p (.ins A.Heap dx (hF vs))) (hl : vs.length = 2) (w : Wr L p (.ins A.Heap dx (hF (vs ++ [y]))) M) (q : D.nx σ M) :
    ∃ a C dx fs M, V.ref p = .ref a ∧ Has L a (.ins C dx fs) ∧ Cls K C ∧ NoAttr K C "slots" ∧ fs.length < 1000 ∧ Wr L a (.ins C dx (putF "slots" y fs)) M ∧ D.nx σ M := ⟨p, A.Heap, dx, _, M, rfl, h, T.cl, T.n_slots, hF_len _, by unfold hF; rw [zip_putF_new hN_nd (by rw [hl]; rfl)]; exact w, q⟩
theorem u_made (T : HT K A) {y : V} (h : Has L p (.ins A.Heap dx (hF vs))) (hl : 3 < vs.length) (w : Wr L p (.ins A.Heap dx (hF (vs.set 3 y))) M) (q : D.nx σ M) :
    ∃ a C dx fs M, V.ref p = .ref a ∧ Has L a (.ins C dx fs) ∧ Cls K C ∧ NoAttr K C "made" ∧ fs.length < 1000 ∧ Wr L a (.ins C dx (putF "made" y fs)) M ∧ D.nx σ M := ⟨p, A.Heap, dx, _, M, rfl, h, T.cl, T.n_made, hF_len _, by unfold hF; rw [zip_putF (i := 3) hN_nd rfl hl]; exact w, q⟩
theorem n_made (T : HT K A) {y : V} (h : Has L p (.ins A.Heap dx (hF vs))) (hl : vs.length = 3) (w : Wr L p (.ins A.Heap dx (hF (vs ++ [y]))) M) (q : D.nx σ M) :
    ∃ a C dx fs M, V.ref p = .ref a ∧ Has L a (.ins C dx fs) ∧ Cls K C ∧ NoAttr K C "made" ∧ fs.length < 1000 ∧ Wr L a (.ins C dx (putF "made" y fs)) M ∧ D.nx σ M := ⟨p, A.Heap, dx, _, M, rfl, h, T.cl, T.n_made, hF_len _, by unfold hF; rw [zip_putF_new hN_nd (by rw [hl]; rfl)]; exact w, q⟩
theorem u_ended (T : HT K A) {y : V} (h : Has L p (.ins A.Heap dx (hF vs))) (hl : 4 < vs.length) (w : Wr L p (.ins A.Heap dx (hF (vs.set 4 y))) M) (q : D.nx σ M) :
    ∃ a C dx fs M, V.ref p = .ref a ∧ Has L a (.ins C dx fs) ∧ Cls K C ∧ NoAttr K C "ended" ∧ fs.length < 1000 ∧ Wr L a (.ins C dx (putF "ended" y fs)) M ∧ D.nx σ M := ⟨p, A.Heap, dx, _, M, rfl, h, T.cl, T.n_ended, hF_len _, by unfold hF; rw [zip_putF (i := 4) hN_nd rfl hl]; exact w, q⟩
theorem n_ended (T : HT K A) {y : V} (h : Has L p (.ins A.Heap dx (hF vs))) (hl : vs.length = 4) (w : Wr L p (.ins A.Heap dx (hF (vs ++ [y]))) M) (q : D.nx σ M) :
    ∃ a C dx fs M, V.ref p = .ref a ∧ Has L a (.ins C dx fs) ∧ Cls K C ∧ NoAttr K C "ended" ∧ fs.length < 1000 ∧ Wr L a (.ins C dx (putF "ended" y fs)) M ∧ D.nx σ M := ⟨p, A.Heap, dx, _, M, rfl, h, T.cl, T.n_ended, hF_len _, by unfold hF; rw [zip_putF_new hN_nd (by rw [hl]; rfl)]; exact w, q⟩
theorem u_stage (T : HT K A) {y : V} (h : Has L p (.ins A.Heap dx (hF vs))) (hl : 5 < vs.length) (w : Wr L p (.ins A.Heap dx (hF (vs.set 5 y))) M) (q : D.nx σ M) :
    ∃ a C dx fs M, V.ref p = .ref a ∧ Has L a (.ins C dx fs) ∧ Cls K C ∧ NoAttr K C "stage" ∧ fs.length < 1000 ∧ Wr L a (.ins C dx (putF "stage" y fs)) M ∧ D.nx σ M := ⟨p, A.Heap, dx, _, M, rfl, h, T.cl, T.n_stage, hF_len _, by unfold hF; rw [zip_putF (i := 5) hN_nd rfl hl]; exact w, q⟩
theorem n_stage (T : HT K A) {y : V} (h : Has L p (.ins A.Heap dx (hF vs))) (hl : vs.length = 5) (w : Wr L p (.ins A.Heap dx (hF (vs ++ [y]))) M) (q : D.nx σ M) :
    ∃ a C dx fs M, V.ref p = .ref a ∧ Has L a (.ins C dx fs) ∧ Cls K C ∧ NoAttr K C "stage" ∧ fs.length < 1000 ∧ Wr L a (.ins C dx (putF "stage" y fs)) M ∧ D.nx σ M := ⟨p, A.Heap, dx, _, M, rfl, h, T.cl, T.n_stage, hF_len _, by unfold hF; rw [zip_putF_new hN_nd (by rw [hl]; rfl)]; exact w, q⟩
theorem u_old (T : HT K A) {y : V} (h : Has L p (.ins A.Heap dx (hF vs))) (hl : 6 < vs.length) (w : Wr L p (.ins A.Heap dx (hF (vs.set 6 y))) M) (q : D.nx σ M) :
    ∃ a C dx fs M, V.ref p = .ref a ∧ Has L a (.ins C dx fs) ∧ Cls K C ∧ NoAttr K C "old" ∧ fs.length < 1000 ∧ Wr L a (.ins C dx (putF "old" y fs)) M ∧ D.nx σ M := ⟨p, A.Heap, dx, _, M, rfl, h, T.cl, T.n_old, hF_len _, by unfold hF; rw [zip_putF (i := 6) hN_nd rfl hl]; exact w, q⟩
theorem n_old (T : HT K A) {y : V} (h : Has L p (.ins A.Heap dx (hF vs))) (hl : vs.length = 6) (w : Wr L p (.ins A.Heap dx (hF (vs ++ [y]))) M) (q : D.nx σ M) :
    ∃ a C dx fs M, V.ref p = .ref a ∧ Has L a (.ins C dx fs) ∧ Cls K C ∧ NoAttr K C "old" ∧ fs.length < 1000 ∧ Wr L a (.ins C dx (putF "old" y fs)) M ∧ D.nx σ M := ⟨p, A.Heap, dx, _, M, rfl, h, T.cl, T.n_old, hF_len _, by unfold hF; rw [zip_putF_new hN_nd (by rw [hl]; rfl)]; exact w, q⟩
theorem u_begun (T : HT K A) {y : V} (h : Has L p (.ins A.Heap dx (hF vs))) (hl : 7 < vs.length) (w : Wr L p (.ins A.Heap dx (hF (vs.set 7 y))) M) (q : D.nx σ M) :
    ∃ a C dx fs M, V.ref p = .ref a ∧ Has L a (.ins C dx fs) ∧ Cls K C ∧ NoAttr K C "begun" ∧ fs.length < 1000 ∧ Wr L a (.ins C dx (putF "begun" y fs)) M ∧ D.nx σ M := ⟨p, A.Heap, dx, _, M, rfl, h, T.cl, T.n_begun, hF_len _, by unfold hF; rw [zip_putF (i := 7) hN_nd rfl hl]; exact w, q⟩
theorem n_begun (T : HT K A) {y : V} (h : Has L p (.ins A.Heap dx (hF vs))) (hl : vs.length = 7) (w : Wr L p (.ins A.Heap dx (hF (vs ++ [y]))) M) (q : D.nx σ M) :
    ∃ a C dx fs M, V.ref p = .ref a ∧ Has L a (.ins C dx fs) ∧ Cls K C ∧ NoAttr K C "begun" ∧ fs.length < 1000 ∧ Wr L a (.ins C dx (putF "begun" y fs)) M ∧ D.nx σ M := ⟨p, A.Heap, dx, _, M, rfl, h, T.cl, T.n_begun, hF_len _, by unfold hF; rw [zip_putF_new hN_nd (by rw [hl]; rfl)]; exact w, q⟩
theorem u_seen (T : HT K A) {y : V} (h : Has L p (.ins A.Heap dx (hF vs))) (hl : 8 < vs.length) (w : Wr L p (.ins A.Heap dx (hF (vs.set 8 y))) M) (q : D.nx σ M) :
    ∃ a C dx fs M, V.ref p = .ref a ∧ Has L a (.ins C dx fs) ∧ Cls K C ∧ NoAttr K C "seen" ∧ fs.length < 1000 ∧ Wr L a (.ins C dx (putF "seen" y fs)) M ∧ D.nx σ M := ⟨p, A.Heap, dx, _, M, rfl, h, T.cl, T.n_seen, hF_len _, by unfold hF; rw [zip_putF (i := 8) hN_nd rfl hl]; exact w, q⟩
theorem n_seen (T : HT K A) {y : V} (h : Has L p (.ins A.Heap dx (hF vs))) (hl : vs.length = 8) (w : Wr L p (.ins A.Heap dx (hF (vs ++ [y]))) M) (q : D.nx σ M) :
    ∃ a C dx fs M, V.ref p = .ref a ∧ Has L a (.ins C dx fs) ∧ Cls K C ∧ NoAttr K C "seen" ∧ fs.length < 1000 ∧ Wr L a (.ins C dx (putF "seen" y fs)) M ∧ D.nx σ M := ⟨p, A.Heap, dx, _, M, rfl, h, T.cl, T.n_seen, hF_len _, by unfold hF; rw [zip_putF_new hN_nd (by rw [hl]; rfl)]; exact w, q⟩
theorem u_row (T : HT K A) {y : V} (h : Has L p (.ins A.Heap dx (hF vs))) (hl : 9 < vs.length) (w : Wr L p (.ins A.Heap dx (hF (vs.set 9 y))) M) (q : D.nx σ M) :
    ∃ a C dx fs M, V.ref p = .ref a ∧ Has L a (.ins C dx fs) ∧ Cls K C ∧ NoAttr K C "row" ∧ fs.length < 1000 ∧ Wr L a (.ins C dx (putF "row" y fs)) M ∧ D.nx σ M := ⟨p, A.Heap, dx, _, M, rfl, h, T.cl, T.n_row, hF_len _, by unfold hF; rw [zip_putF (i := 9) hN_nd rfl hl]; exact w, q⟩
theorem n_row (T : HT K A) {y : V} (h : Has L p (.ins A.Heap dx (hF vs))) (hl : vs.length = 9) (w : Wr L p (.ins A.Heap dx (hF (vs ++ [y]))) M) (q : D.nx σ M) :
    ∃ a C dx fs M, V.ref p = .ref a ∧ Has L a (.ins C dx fs) ∧ Cls K C ∧ NoAttr K C "row" ∧ fs.length < 1000 ∧ Wr L a (.ins C dx (putF "row" y fs)) M ∧ D.nx σ M := ⟨p, A.Heap, dx, _, M, rfl, h, T.cl, T.n_row, hF_len _, by unfold hF; rw [zip_putF_new hN_nd (by rw [hl]; rfl)]; exact w, q⟩
theorem u_looked (T : HT K A) {y : V} (h : Has L p (.ins A.Heap dx (hF vs))) (hl : 10 < vs.length) (w : Wr L p (.ins A.Heap dx (hF (vs.set 10 y))) M) (q : D.nx σ M) :
    ∃ a C dx fs M, V.ref p = .ref a ∧ Has L a (.ins C dx fs) ∧ Cls K C ∧ NoAttr K C "looked" ∧ fs.length < 1000 ∧ Wr L a (.ins C dx (putF "looked" y fs)) M ∧ D.nx σ M := ⟨p, A.Heap, dx, _, M, rfl, h, T.cl, T.n_looked, hF_len _, by unfold hF; rw [zip_putF (i := 10) hN_nd rfl hl]; exact w, q⟩
theorem n_looked (T : HT K A) {y : V} (h : Has L p (.ins A.Heap dx (hF vs))) (hl : vs.length = 10) (w : Wr L p (.ins A.Heap dx (hF (vs ++ [y]))) M) (q : D.nx σ M) :
    ∃ a C dx fs M, V.ref p = .ref a ∧ Has L a (.ins C dx fs) ∧ Cls K C ∧ NoAttr K C "looked" ∧ fs.length < 1000 ∧ Wr L a (.ins C dx (putF "looked" y fs)) M ∧ D.nx σ M := ⟨p, A.Heap, dx, _, M, rfl, h, T.cl, T.n_looked, hF_len _, by unfold hF; rw [zip_putF_new hN_nd (by rw [hl]; rfl)]; exact w, q⟩
theorem u_swept (T : HT K A) {y : V} (h : Has L p (.ins A.Heap dx (hF vs))) (hl : 11 < vs.length) (w : Wr L p (.ins A.Heap dx (hF (vs.set 11 y))) M) (q : D.nx σ M) :
    ∃ a C dx fs M, V.ref p = .ref a ∧ Has L a (.ins C dx fs) ∧ Cls K C ∧ NoAttr K C "swept" ∧ fs.length < 1000 ∧ Wr L a (.ins C dx (putF "swept" y fs)) M ∧ D.nx σ M := ⟨p, A.Heap, dx, _, M, rfl, h, T.cl, T.n_swept, hF_len _, by unfold hF; rw [zip_putF (i := 11) hN_nd rfl hl]; exact w, q⟩
theorem n_swept (T : HT K A) {y : V} (h : Has L p (.ins A.Heap dx (hF vs))) (hl : vs.length = 11) (w : Wr L p (.ins A.Heap dx (hF (vs ++ [y]))) M) (q : D.nx σ M) :
    ∃ a C dx fs M, V.ref p = .ref a ∧ Has L a (.ins C dx fs) ∧ Cls K C ∧ NoAttr K C "swept" ∧ fs.length < 1000 ∧ Wr L a (.ins C dx (putF "swept" y fs)) M ∧ D.nx σ M := ⟨p, A.Heap, dx, _, M, rfl, h, T.cl, T.n_swept, hF_len _, by unfold hF; rw [zip_putF_new hN_nd (by rw [hl]; rfl)]; exact w, q⟩
end
end Mp
/-! The heap object as one assertion; the mirror of its methods; their promises. -/
namespace Mp
open PySem L2 PyProof.Rows
inductive Stg where
  | idle | marking | sweeping
  deriving DecidableEq
def Stg.str : Stg → Str
  | .idle => "idle"
  | .marking => "marking"
  | .sweeping => "sweeping"
/-- the mirror: rows: the slots of all boxes ever made, also of those that were freed; there: those that are there, rising; seen: the marked ones, in the order of marking -/
structure HS where
  hands : List (Option Nat)
  room : Nat
  there : List Nat
  rows : List (List (Option Nat))
  ended : Nat
  stage : Stg
  old : List Nat
  begun : Nat
  seen : List Nat
  looked : Nat
  swept : Nat
structure HAd where
  dx : Addr
  h : Addr
  d : Addr
  o : Addr
  s : Addr
  r : Addr
  rs : List Addr
def HS.rowAt (st : HS) (b : Nat) : List (Option Nat) := st.rows.getD b []
def kvS (bs : List Nat) (as : List Addr) : List (Key × V) := List.zipWith (fun b a => ((Sum.inl ((b : Nat) : Int) : Key), V.ref a)) bs as
def hVals (ad : HAd) (st : HS) : List V := [.ref ad.h, nV st.room, .ref ad.d, nV st.rows.length, nV st.ended, .str st.stage.str, .ref ad.o, nV st.begun, .ref ad.s, .ref ad.r, nV st.looked, nV st.swept]
def HeapIs (C p : Addr) (ad : HAd) (st : HS) : Asn := Star (Pr (ad.rs.length = st.there.length) :: pt p (.ins C ad.dx (hF (hVals ad st))) :: pt ad.h (.lst (st.hands.map oV)) :: pt ad.d (.dK (kvS st.there ad.rs)) :: pt ad.o (.lst (st.old.map nV)) :: pt ad.s (.dK (kvT st.seen)) :: pt ad.r (.lst (st.seen.map nV)) :: zc fL ad.rs (st.there.map st.rowAt))
section
variable {C p : Addr} {ad : HAd} {st : HS} {R M : AL} {D : EA} {t : TS} {σ : L2.St} {te : TE} {Q : V → AL → Prop}
theorem heap_ins : Has (HeapIs C p ad st :: R) p (.ins C ad.dx (hF (hVals ad st))) := has_star (has_tl has_hd)
theorem heap_h : Has (HeapIs C p ad st :: R) ad.h (.lst (st.hands.map oV)) := has_star (has_tl (has_tl has_hd))
theorem heap_d : Has (HeapIs C p ad st :: R) ad.d (.dK (kvS st.there ad.rs)) := has_star (has_tl (has_tl (has_tl has_hd)))
theorem heap_o : Has (HeapIs C p ad st :: R) ad.o (.lst (st.old.map nV)) := has_star (has_tl (has_tl (has_tl (has_tl has_hd))))
theorem heap_s : Has (HeapIs C p ad st :: R) ad.s (.dK (kvT st.seen)) := has_star (has_tl (has_tl (has_tl (has_tl (has_tl has_hd)))))
theorem heap_r : Has (HeapIs C p ad st :: R) ad.r (.lst (st.seen.map nV)) := has_star (has_tl (has_tl (has_tl (has_tl (has_tl (has_tl has_hd))))))
theorem heap_row {j b : Nat} {a : Addr} (h1 : ad.rs[j]? = some a) (h2 : st.there[j]? = some b) : Has (HeapIs C p ad st :: R) a (.lst ((st.rowAt b).map oV)) :=
  has_star (has_tl (has_tl (has_tl (has_tl (has_tl (has_tl (has_tl (zc_has (f := fL) h1 (map_at st.rowAt h2)))))))))
/-- open -/
theorem s_open (k : ad.rs.length = st.there.length → SS t D σ (pt p (.ins C ad.dx (hF (hVals ad st))) :: pt ad.h (.lst (st.hands.map oV)) :: pt ad.d (.dK (kvS st.there ad.rs)) :: pt ad.o (.lst (st.old.map nV)) :: pt ad.s (.dK (kvT st.seen)) :: pt ad.r (.lst (st.seen.map nV)) :: (zc fL ad.rs (st.there.map st.rowAt) ++ R))) :
    SS t D σ (HeapIs C p ad st :: R) := s_ent ent_unstar (s_pr k)
theorem heap_len {H : Hp} (s : Sep (HeapIs C p ad st :: R) H) : ad.rs.length = st.there.length := (sep_pr (ent_unstar H s)).1
/-- close -/
theorem ent_close (h : ad.rs.length = st.there.length) : Ent (pt p (.ins C ad.dx (hF (hVals ad st))) :: pt ad.h (.lst (st.hands.map oV)) :: pt ad.d (.dK (kvS st.there ad.rs)) :: pt ad.o (.lst (st.old.map nV)) :: pt ad.s (.dK (kvT st.seen)) :: pt ad.r (.lst (st.seen.map nV)) :: (zc fL ad.rs (st.there.map st.rowAt) ++ R)) (HeapIs C p ad st :: R) :=
  (ent_pr h).trans (ent_star (Ls := Pr (ad.rs.length = st.there.length) :: pt p (.ins C ad.dx (hF (hVals ad st))) :: pt ad.h (.lst (st.hands.map oV)) :: pt ad.d (.dK (kvS st.there ad.rs)) :: pt ad.o (.lst (st.old.map nV)) :: pt ad.s (.dK (kvT st.seen)) :: pt ad.r (.lst (st.seen.map nV)) :: zc fL ad.rs (st.there.map st.rowAt)))
/-- stores that leave it whole -/
theorem heap_wr_hands {hs : List (Option Nat)} : Wr (HeapIs C p ad st :: R) ad.h (.lst (hs.map oV)) (HeapIs C p ad { st with hands := hs } :: R) :=
  wr_star (Ms := Pr (ad.rs.length = st.there.length) :: pt p (.ins C ad.dx (hF (hVals ad st))) :: pt ad.h (.lst (hs.map oV)) :: _) (wr_tl (wr_tl wr_hd))
end
theorem kvS_get : ∀ {bs : List Nat} {as : List Addr} {j b : Nat} {a : Addr}, bs.Nodup → bs[j]? = some b → as[j]? = some a → valV (kvS bs as) (Sum.inl (b : Int)) = some (.ref a)
  | [], _, _, _, _, _, h, _ => by simp at h
  | _ :: _, [], _, _, _, _, _, h => by simp at h
  | b0 :: bs, a0 :: as, 0, b, a, _, h1, h2 => by
    have e1 : b0 = b := Option.some.inj h1
    have e2 : a0 = a := Option.some.inj h2
    subst e1; subst e2
    exact valV_pos (p := ((Sum.inl (b0 : Int) : Key), V.ref a0)) rfl
  | b0 :: bs, a0 :: as, j + 1, b, a, nd, h1, h2 => by
    have hm : b ∈ bs := List.mem_of_getElem? (show bs[j]? = some b from h1)
    have hne : b0 ≠ b := fun z => (List.nodup_cons.mp nd).1 (z ▸ hm)
    have ih := kvS_get (bs := bs) (as := as) (List.nodup_cons.mp nd).2 h1 h2
    exact (valV_neg (p := ((Sum.inl (b0 : Int) : Key), V.ref a0)) (by intro z; have := Sum.inl.inj z; omega)).trans ih
theorem kvS_none : ∀ {bs : List Nat} {as : List Addr} {n : Int}, (∀ b ∈ bs, (b : Int) ≠ n) → valV (kvS bs as) (Sum.inl n) = none
  | [], _, _, _ => rfl
  | _ :: _, [], _, _ => rfl
  | b0 :: bs, a0 :: as, n, h => by
    have hne := h b0 List.mem_cons_self
    exact (valV_neg (p := ((Sum.inl (b0 : Int) : Key), V.ref a0)) (by intro z; exact hne (Sum.inl.inj z))).trans (kvS_none fun b hb => h b (List.mem_cons_of_mem _ hb))
theorem kvS_snoc : ∀ {bs : List Nat} {as : List Addr} {b : Nat} {a : Addr}, as.length = bs.length → kvS bs as ++ [((Sum.inl (b : Int) : Key), V.ref a)] = kvS (bs ++ [b]) (as ++ [a])
  | [], [], _, _, _ => rfl
  | [], _ :: _, _, _, h => by simp at h
  | _ :: _, [], _, _, h => by simp at h
  | b0 :: bs, a0 :: as, b, a, h => by
    have ih := kvS_snoc (bs := bs) (as := as) (b := b) (a := a) (by simpa using h)
    show ((Sum.inl (b0 : Int) : Key), V.ref a0) :: (kvS bs as ++ [((Sum.inl (b : Int) : Key), V.ref a)]) = ((Sum.inl (b0 : Int) : Key), V.ref a0) :: kvS (bs ++ [b]) (as ++ [a])
    rw [ih]
theorem kvS_keys : ∀ {bs : List Nat} {as : List Addr}, as.length = bs.length → (kvS bs as).map (fun kv => kV kv.1) = bs.map nV
  | [], [], _ => rfl
  | [], _ :: _, h => by simp at h
  | _ :: _, [], h => by simp at h
  | b0 :: bs, a0 :: as, h => by
    have ih := kvS_keys (bs := bs) (as := as) (by simpa using h)
    show nV b0 :: (kvS bs as).map (fun kv => kV kv.1) = nV b0 :: bs.map nV
    rw [ih]
theorem kvS_len : ∀ {bs : List Nat} {as : List Addr}, as.length = bs.length → (kvS bs as).length = bs.length := fun h => by
  unfold kvS
  rw [List.length_zipWith, h, Nat.min_self]
theorem kvS_drop : ∀ {bs : List Nat} {as : List Addr} {j b : Nat}, bs.Nodup → as.length = bs.length → bs[j]? = some b → dropK (kvS bs as) (Sum.inl (b : Int)) = kvS (bs.eraseIdx j) (as.eraseIdx j)
  | [], _, _, _, _, _, h => by simp at h
  | _ :: _, [], _, _, _, h, _ => by simp at h
  | b0 :: bs, a0 :: as, 0, b, nd, hl, h1 => by
    have e1 : b0 = b := Option.some.inj h1
    subst e1
    show dropK (((Sum.inl (b0 : Int) : Key), V.ref a0) :: kvS bs as) (Sum.inl (b0 : Int)) = kvS bs as
    rw [dropK_pos rfl]
    refine dropK_no fun hm => ?_
    obtain ⟨kv, hkv, e⟩ := List.mem_map.mp hm
    have hv := kvS_none (bs := bs) (as := as) (n := (b0 : Int)) fun b hb z => by
      have z' : b = b0 := by omega
      subst z'
      exact (List.nodup_cons.mp nd).1 hb
    exact valV_not hv (List.mem_map.mpr ⟨kv, hkv, e⟩)
  | b0 :: bs, a0 :: as, j + 1, b, nd, hl, h1 => by
    have hm : b ∈ bs := List.mem_of_getElem? (show bs[j]? = some b from h1)
    have hne : b0 ≠ b := fun z => (List.nodup_cons.mp nd).1 (z ▸ hm)
    have ih := kvS_drop (bs := bs) (as := as) (j := j) (b := b) (List.nodup_cons.mp nd).2 (by simpa using hl) h1
    show dropK (((Sum.inl (b0 : Int) : Key), V.ref a0) :: kvS bs as) (Sum.inl (b : Int)) = ((Sum.inl (b0 : Int) : Key), V.ref a0) :: kvS (bs.eraseIdx j) (as.eraseIdx j)
    rw [dropK_neg (by intro z; have := Sum.inl.inj z; omega), ih]
/-! ### the mirror of the methods -/
def HS.new (n room : Nat) : HS := { hands := List.replicate n none, room := room, there := [], rows := [], ended := 0, stage := .idle, old := [], begun := 0, seen := [], looked := 0, swept := 0 }
def HS.rest (st : HS) : HS := { st with stage := .idle, old := [], begun := 0, seen := [], looked := 0, swept := 0 }
def HS.mark (st : HS) (o : Option Nat) : HS := match o with
  | none => st
  | some b => if b < st.begun ∧ b ∉ st.seen then { st with seen := st.seen ++ [b] } else st
def HS.markAll (st : HS) (os : List (Option Nat)) : HS := os.foldl HS.mark st
def HS.make (st : HS) (i n : Nat) : HS := { st with there := st.there ++ [st.rows.length], rows := st.rows ++ [List.replicate n none], hands := st.hands.set i (some st.rows.length) }
def HS.take (st : HS) (i b k : Nat) : HS := { st with hands := st.hands.set i ((st.rowAt b).getD k none) }
def HS.setSlot (st : HS) (b k : Nat) (o : Option Nat) : HS := { st with rows := st.rows.set b ((st.rowAt b).set k o) }
def HS.put (st : HS) (b k : Nat) (o : Option Nat) : HS := (if st.stage = .marking then st.mark ((st.rowAt b).getD k none) else st).setSlot b k o
def HS.share (st : HS) (i j : Nat) : HS := { st with hands := st.hands.set i (st.hands.getD j none) }
def HS.drop (st : HS) (i : Nat) : HS := { st with hands := st.hands.set i none }
def HS.begin_ (st : HS) : HS := HS.markAll { st with old := st.there, begun := st.rows.length, stage := .marking } st.hands
def HS.lookAt (st : HS) : HS := HS.markAll { st with looked := st.looked + 1 } (st.rowAt (st.seen.getD st.looked 0))
def HS.free (st : HS) (b : Nat) : HS := { st with there := st.there.filter fun x => decide (x ≠ b) }
def HS.sweep (st : HS) : HS × Option Nat := if st.old.getD st.swept 0 ∈ st.seen then ({ st with swept := st.swept + 1 }, none) else ({ st with swept := st.swept + 1 }.free (st.old.getD st.swept 0), some (st.old.getD st.swept 0))
def HS.settle1 (st : HS) : HS := if st.stage = .marking ∧ st.looked = st.seen.length then { st with stage := .sweeping } else st
def HS.settle2 (st : HS) : HS := if st.stage = .sweeping ∧ st.swept = st.old.length then { st.rest with ended := st.ended + 1 } else st
def HS.settle (st : HS) : HS := st.settle1.settle2
def HS.piece (st : HS) : HS × Option Nat := match st.stage with
  | .idle => (st.begin_.settle, none)
  | .marking => (st.lookAt.settle, none)
  | .sweeping => (st.sweep.1.settle, st.sweep.2)
def HS.work : Nat → HS → HS × List Nat
  | 0, st => (st, [])
  | n + 1, st => ((HS.work n st).1.piece.1, (HS.work n st).2 ++ (HS.work n st).1.piece.2.toList)
/-- what the methods lean on -/
structure HW (st : HS) : Prop where
  nd : st.there.Pairwise (· < ·)
  lt : ∀ b ∈ st.there, b < st.rows.length
  hands : st.hands.length ≤ 8
  big : st.rows.length ≤ 90000
  rl : ∀ r ∈ st.rows, r.length ≤ 4
  sn : st.seen.Nodup
  sl : ∀ b ∈ st.seen, b < st.begun
  bg : st.begun ≤ st.rows.length
theorem HW.nodup {st : HS} (w : HW st) : st.there.Nodup := w.nd.imp fun h => Nat.ne_of_lt h
theorem HW.tl {st : HS} (w : HW st) : st.there.length ≤ st.rows.length := nodup_bound _ w.nodup w.lt
theorem HW.seenl {st : HS} (w : HW st) : st.seen.length ≤ st.rows.length := Nat.le_trans (nodup_bound _ w.sn w.sl) w.bg
theorem HW.rowl {st : HS} (w : HW st) (b : Nat) : (st.rowAt b).length ≤ 4 := by
  unfold HS.rowAt
  rw [List.getD_eq_getElem?_getD]
  cases e : st.rows[b]? with
  | none => exact Nat.zero_le _
  | some r => exact w.rl r (List.mem_of_getElem? e)
end Mp
/-! The promises of the heap's methods and of the collector's pieces, and their use at a call. -/
namespace Mp
open PySem L2 PyProof.Rows
def P_rest (K : PySem.W.Frag) (A : Ex) : Pm := pm1 fun x L Q _ => ∃ (p dx : Addr) (v0 v1 v2 v3 v4 : V) (tl : List V) (R : AL), x = .ref p ∧ L = pt p (.ins A.Heap dx (hF (v0 :: v1 :: v2 :: v3 :: v4 :: tl))) :: R ∧ (tl = [] ∨ tl.length = 7) ∧
  ∀ o s r, Q .non (pt p (.ins A.Heap dx (hF [v0, v1, v2, v3, v4, .str "idle", .ref o, nV 0, .ref s, .ref r, nV 0, nV 0])) :: pt r (.lst []) :: pt s (.dK []) :: pt o (.lst []) :: R)
def P_init (K : PySem.W.Frag) (A : Ex) : Pm := pm3 fun x y z L Q E => ∃ (p dx : Addr) (R : AL) (hands room : Int), x = .ref p ∧ y = .int hands ∧ z = .int room ∧ L = pt p (.ins A.Heap dx []) :: R ∧
  (((1 ≤ hands ∧ hands ≤ 8) ∧ 1 ≤ room ∧ room ≤ 1000) → ∀ ad, Q .non (HeapIs A.Heap p ad (HS.new hands.toNat room.toNat) :: R)) ∧ (¬ ((1 ≤ hands ∧ hands ≤ 8) ∧ 1 ≤ room ∧ room ≤ 1000) → E (.ref A.NoHeap) R)
def isHand (st : HS) (i : Int) : Prop := 0 ≤ i ∧ i < (st.hands.length : Int)
def P_need_hand (K : PySem.W.Frag) (A : Ex) : Pm := pm2 fun x y L Q E => ∃ (p : Addr) (ad : HAd) (st : HS) (R : AL) (i : Int), x = .ref p ∧ y = .int i ∧ L = HeapIs A.Heap p ad st :: R ∧ (isHand st i → Q .non L) ∧ (¬ isHand st i → E (.ref A.NoHand) L)
/-- what a hand holds -/
def HS.at_ (st : HS) (i : Int) : Option Nat := st.hands.getD i.toNat none
def isSlot (st : HS) (b : Nat) (k : Int) : Prop := 0 ≤ k ∧ k < ((st.rowAt b).length : Int)
def P_row_of (K : PySem.W.Frag) (A : Ex) : Pm := pm3 fun x y z L Q E => ∃ (p : Addr) (ad : HAd) (st : HS) (R : AL) (i k : Int), x = .ref p ∧ y = .int i ∧ z = .int k ∧ L = HeapIs A.Heap p ad st :: R ∧ HW st ∧ isHand st i ∧ (∀ b, st.at_ i = some b → b ∈ st.there) ∧
  (st.at_ i = none → E (.ref A.NothingHeld) L) ∧ (∀ b, st.at_ i = some b → ¬ isSlot st b k → E (.ref A.NoSlot) L) ∧
  ∀ (b j : Nat) (a : Addr), st.at_ i = some b → isSlot st b k → st.there[j]? = some b → ad.rs[j]? = some a → Q (.ref a) L
def P_make (K : PySem.W.Frag) (A : Ex) : Pm := pm3 fun x y z L Q E => ∃ (p : Addr) (ad : HAd) (st : HS) (R : AL) (i k : Int), x = .ref p ∧ y = .int i ∧ z = .int k ∧ L = HeapIs A.Heap p ad st :: R ∧ HW st ∧
  (¬ isHand st i → E (.ref A.NoHand) L) ∧ (isHand st i → ¬ (0 ≤ k ∧ k ≤ 4) → E (.ref A.NoSlot) L) ∧ (isHand st i → (0 ≤ k ∧ k ≤ 4) → st.room ≤ st.there.length → E (.ref A.NoRoom) L) ∧
  (isHand st i → (0 ≤ k ∧ k ≤ 4) → st.there.length < st.room → ∀ ad', Q (nV st.rows.length) (HeapIs A.Heap p ad' (st.make i.toNat k.toNat) :: R))
def P_take (K : PySem.W.Frag) (A : Ex) : Pm := pm4 fun x y z u L Q E => ∃ (p : Addr) (ad : HAd) (st : HS) (R : AL) (i j k : Int), x = .ref p ∧ y = .int i ∧ z = .int j ∧ u = .int k ∧ L = HeapIs A.Heap p ad st :: R ∧ HW st ∧ (∀ b, st.at_ j = some b → b ∈ st.there) ∧
  (¬ (isHand st i ∧ isHand st j) → E (.ref A.NoHand) L) ∧ (isHand st i → isHand st j → st.at_ j = none → E (.ref A.NothingHeld) L) ∧ (∀ b, isHand st i → isHand st j → st.at_ j = some b → ¬ isSlot st b k → E (.ref A.NoSlot) L) ∧
  ∀ b, isHand st i → isHand st j → st.at_ j = some b → isSlot st b k → Q .non (HeapIs A.Heap p ad (st.take i.toNat b k.toNat) :: R)
def P_put (K : PySem.W.Frag) (A : Ex) : Pm := pm4 fun x y z u L Q E => ∃ (p : Addr) (ad : HAd) (st : HS) (R : AL) (i k j : Int), x = .ref p ∧ y = .int i ∧ z = .int k ∧ u = .int j ∧ L = HeapIs A.Heap p ad st :: R ∧ HW st ∧ (∀ b, st.at_ i = some b → b ∈ st.there) ∧
  (¬ (isHand st i ∧ isHand st j) → E (.ref A.NoHand) L) ∧ (isHand st i → isHand st j → st.at_ i = none → E (.ref A.NothingHeld) L) ∧ (∀ b, isHand st i → isHand st j → st.at_ i = some b → ¬ isSlot st b k → E (.ref A.NoSlot) L) ∧
  ∀ b, isHand st i → isHand st j → st.at_ i = some b → isSlot st b k → Q .non (HeapIs A.Heap p ad (st.put b k.toNat (st.at_ j)) :: R)
def P_share (K : PySem.W.Frag) (A : Ex) : Pm := pm3 fun x y z L Q E => ∃ (p : Addr) (ad : HAd) (st : HS) (R : AL) (i j : Int), x = .ref p ∧ y = .int i ∧ z = .int j ∧ L = HeapIs A.Heap p ad st :: R ∧
  (¬ (isHand st i ∧ isHand st j) → E (.ref A.NoHand) L) ∧ (isHand st i → isHand st j → Q .non (HeapIs A.Heap p ad (st.share i.toNat j.toNat) :: R))
def P_drop (K : PySem.W.Frag) (A : Ex) : Pm := pm2 fun x y L Q E => ∃ (p : Addr) (ad : HAd) (st : HS) (R : AL) (i : Int), x = .ref p ∧ y = .int i ∧ L = HeapIs A.Heap p ad st :: R ∧
  (¬ isHand st i → E (.ref A.NoHand) L) ∧ (isHand st i → Q .non (HeapIs A.Heap p ad (st.drop i.toNat) :: R))
def P_held (K : PySem.W.Frag) (A : Ex) : Pm := pm2 fun x y L Q E => ∃ (p : Addr) (ad : HAd) (st : HS) (R : AL) (i : Int), x = .ref p ∧ y = .int i ∧ L = HeapIs A.Heap p ad st :: R ∧
  (¬ isHand st i → E (.ref A.NoHand) L) ∧ (isHand st i → Q (oV (st.at_ i)) L)
def P_look (K : PySem.W.Frag) (A : Ex) : Pm := pm2 fun x y L Q E => ∃ (p : Addr) (ad : HAd) (st : HS) (R : AL) (b : Int), x = .ref p ∧ y = .int b ∧ L = HeapIs A.Heap p ad st :: R ∧ HW st ∧
  ((∀ c ∈ st.there, (c : Int) ≠ b) → E (.ref A.NoBox) L) ∧ (∀ c : Nat, b = (c : Int) → c ∈ st.there → ∀ d, Q (.ref d) (pt d (.lst ((st.rowAt c).map oV)) :: L))
def P_boxes (K : PySem.W.Frag) (A : Ex) : Pm := pm1 fun x L Q _ => ∃ (p : Addr) (ad : HAd) (st : HS) (R : AL), x = .ref p ∧ L = HeapIs A.Heap p ad st :: R ∧ HW st ∧ ∀ d, Q (.ref d) (pt d (.lst (st.there.map nV)) :: L)
def P_phase (K : PySem.W.Frag) (A : Ex) : Pm := pm1 fun x L Q _ => ∃ (p : Addr) (ad : HAd) (st : HS) (R : AL), x = .ref p ∧ L = HeapIs A.Heap p ad st :: R ∧ Q (.str st.stage.str) L
def P_rounds (K : PySem.W.Frag) (A : Ex) : Pm := pm1 fun x L Q _ => ∃ (p : Addr) (ad : HAd) (st : HS) (R : AL), x = .ref p ∧ L = HeapIs A.Heap p ad st :: R ∧ Q (nV st.ended) L
def P_marked (K : PySem.W.Frag) (A : Ex) : Pm := pm1 fun x L Q _ => ∃ (p : Addr) (ad : HAd) (st : HS) (R : AL) (T : List Nat), x = .ref p ∧ L = HeapIs A.Heap p ad st :: R ∧ T.Perm st.seen ∧ T.Pairwise (· ≤ ·) ∧ ∀ d, Q (.ref d) (pt d (.lst (T.map nV)) :: L)
def P_waiting (K : PySem.W.Frag) (A : Ex) : Pm := pm1 fun x L Q _ => ∃ (p : Addr) (ad : HAd) (st : HS) (R : AL), x = .ref p ∧ L = HeapIs A.Heap p ad st :: R ∧ ∀ d, Q (.ref d) (pt d (.lst ((st.seen.drop st.looked).map nV)) :: L)
def P_mark (K : PySem.W.Frag) (A : Ex) : Pm := pm2 fun x y L Q _ => ∃ (p : Addr) (ad : HAd) (st : HS) (R : AL) (o : Option Nat), x = .ref p ∧ y = oV o ∧ L = HeapIs A.Heap p ad st :: R ∧ HW st ∧ Q .non (HeapIs A.Heap p ad (st.mark o) :: R)
def P_begin (K : PySem.W.Frag) (A : Ex) : Pm := pm1 fun x L Q _ => ∃ (p : Addr) (ad : HAd) (st : HS) (R : AL), x = .ref p ∧ L = HeapIs A.Heap p ad st :: R ∧ HW st ∧ ∀ ad', Q .non (HeapIs A.Heap p ad' st.begin_ :: R)
def P_look_at (K : PySem.W.Frag) (A : Ex) : Pm := pm1 fun x L Q _ => ∃ (p : Addr) (ad : HAd) (st : HS) (R : AL) (b : Nat), x = .ref p ∧ L = HeapIs A.Heap p ad st :: R ∧ HW st ∧ st.seen[st.looked]? = some b ∧ b ∈ st.there ∧ Q .non (HeapIs A.Heap p ad st.lookAt :: R)
def P_sweep (K : PySem.W.Frag) (A : Ex) : Pm := pm1 fun x L Q _ => ∃ (p : Addr) (ad : HAd) (st : HS) (R : AL) (b : Nat), x = .ref p ∧ L = HeapIs A.Heap p ad st :: R ∧ HW st ∧ st.old[st.swept]? = some b ∧ (b ∉ st.seen → b ∈ st.there) ∧ ∀ ad', Q (oV st.sweep.2) (HeapIs A.Heap p ad' st.sweep.1 :: R)
def P_settle (K : PySem.W.Frag) (A : Ex) : Pm := pm1 fun x L Q _ => ∃ (p : Addr) (ad : HAd) (st : HS) (R : AL), x = .ref p ∧ L = HeapIs A.Heap p ad st :: R ∧ ∀ ad', Q .non (HeapIs A.Heap p ad' st.settle :: R)
/-- what a piece leans on -/
structure PcW (st : HS) : Prop where
  mrk : st.stage = .marking → ∃ b, st.seen[st.looked]? = some b ∧ b ∈ st.there
  sw : st.stage = .sweeping → ∃ b, st.old[st.swept]? = some b ∧ (b ∉ st.seen → b ∈ st.there)
def P_piece (K : PySem.W.Frag) (A : Ex) : Pm := pm1 fun x L Q _ => ∃ (p : Addr) (ad : HAd) (st : HS) (R : AL), x = .ref p ∧ L = HeapIs A.Heap p ad st :: R ∧ HW st ∧ PcW st ∧ ∀ ad', Q (oV st.piece.2) (HeapIs A.Heap p ad' st.piece.1 :: R)
def P_work (K : PySem.W.Frag) (A : Ex) : Pm := pm2 fun x y L Q E => ∃ (p : Addr) (ad : HAd) (st : HS) (R : AL) (n : Int), x = .ref p ∧ y = .int n ∧ L = HeapIs A.Heap p ad st :: R ∧
  (¬ (0 ≤ n ∧ n ≤ 2500) → E (.ref A.NoWork) L) ∧ ((0 ≤ n ∧ n ≤ 2500) → (∀ k : Nat, (k : Int) < n → HW (HS.work k st).1 ∧ PcW (HS.work k st).1) ∧ ∀ d ad', Q (.ref d) (pt d (.lst ((HS.work n.toNat st).2.map nV)) :: HeapIs A.Heap p ad' (HS.work n.toNat st).1 :: R))
/-! ### at a call -/
section
variable {K : PySem.W.Frag} {A : Ex} {L R : AL} {Q : V → AL → Prop} {Ea : Value → AL → Prop} {p : Addr} {ad : HAd} {st : HS}
theorem hN_m {m : Str} (h : hN.contains m = false) : m ∉ hN := fun z => by
  have : hN.contains m = true := List.contains_iff_mem.mpr z
  rw [h] at this; cases this
theorem s_raiseE {C : Addr} {D : EA} {E : XK} {σ : L2.St} {M : AL} (he : ELe Ea E) (e : Ent L M) (q : Ea (.ref C) M) : SS (tRaiseC C E) D σ L := fun H s _ _ => he _ _ _ (e H s) q
/-- the receiver of a method -/
theorem meth_h {m : Str} {tr : TA} {σ : L2.St} {B : List V → AL → Prop} {dx : Addr} {fv : List V} (h : Has L p (.ins A.Heap dx (hF fv))) (hm : hN.contains m = false) (k : SA tr σ L B) :
    ∃ a dx fs, V.ref p = .ref a ∧ Has L a (.ins A.Heap dx fs) ∧ fs.lookup m = none ∧ SA tr σ L B := ⟨p, dx, _, rfl, h, hF_no (hN_m hm), k⟩
theorem do_mark {o : Option Nat} (e : Ent L (HeapIs A.Heap p ad st :: R)) (w : HW st) (q : Q .non (HeapIs A.Heap p ad (st.mark o) :: R)) : ∃ L2, Ent L L2 ∧ P_mark K A [.ref p, oV o] L2 Q Ea := ⟨_, e, _, _, rfl, p, ad, st, R, o, rfl, rfl, rfl, w, q⟩
theorem do_boxes (e : Ent L (HeapIs A.Heap p ad st :: R)) (w : HW st) (q : ∀ d, Q (.ref d) (pt d (.lst (st.there.map nV)) :: HeapIs A.Heap p ad st :: R)) : ∃ L2, Ent L L2 ∧ P_boxes K A [.ref p] L2 Q Ea := ⟨_, e, _, rfl, p, ad, st, R, rfl, rfl, w, q⟩
theorem do_phase (e : Ent L (HeapIs A.Heap p ad st :: R)) (q : Q (.str st.stage.str) (HeapIs A.Heap p ad st :: R)) : ∃ L2, Ent L L2 ∧ P_phase K A [.ref p] L2 Q Ea := ⟨_, e, _, rfl, p, ad, st, R, rfl, rfl, q⟩
theorem do_rounds (e : Ent L (HeapIs A.Heap p ad st :: R)) (q : Q (nV st.ended) (HeapIs A.Heap p ad st :: R)) : ∃ L2, Ent L L2 ∧ P_rounds K A [.ref p] L2 Q Ea := ⟨_, e, _, rfl, p, ad, st, R, rfl, rfl, q⟩
theorem do_marked {T : List Nat} (e : Ent L (HeapIs A.Heap p ad st :: R)) (hp : T.Perm st.seen) (ht : T.Pairwise (· ≤ ·)) (q : ∀ d, Q (.ref d) (pt d (.lst (T.map nV)) :: HeapIs A.Heap p ad st :: R)) : ∃ L2, Ent L L2 ∧ P_marked K A [.ref p] L2 Q Ea := ⟨_, e, _, rfl, p, ad, st, R, T, rfl, rfl, hp, ht, q⟩
theorem do_waiting (e : Ent L (HeapIs A.Heap p ad st :: R)) (q : ∀ d, Q (.ref d) (pt d (.lst ((st.seen.drop st.looked).map nV)) :: HeapIs A.Heap p ad st :: R)) : ∃ L2, Ent L L2 ∧ P_waiting K A [.ref p] L2 Q Ea := ⟨_, e, _, rfl, p, ad, st, R, rfl, rfl, q⟩
theorem do_begin (e : Ent L (HeapIs A.Heap p ad st :: R)) (w : HW st) (q : ∀ ad', Q .non (HeapIs A.Heap p ad' st.begin_ :: R)) : ∃ L2, Ent L L2 ∧ P_begin K A [.ref p] L2 Q Ea := ⟨_, e, _, rfl, p, ad, st, R, rfl, rfl, w, q⟩
theorem do_look_at {b : Nat} (e : Ent L (HeapIs A.Heap p ad st :: R)) (w : HW st) (h1 : st.seen[st.looked]? = some b) (h2 : b ∈ st.there) (q : Q .non (HeapIs A.Heap p ad st.lookAt :: R)) : ∃ L2, Ent L L2 ∧ P_look_at K A [.ref p] L2 Q Ea := ⟨_, e, _, rfl, p, ad, st, R, b, rfl, rfl, w, h1, h2, q⟩
theorem do_sweep {b : Nat} (e : Ent L (HeapIs A.Heap p ad st :: R)) (w : HW st) (h1 : st.old[st.swept]? = some b) (h2 : b ∉ st.seen → b ∈ st.there) (q : ∀ ad', Q (oV st.sweep.2) (HeapIs A.Heap p ad' st.sweep.1 :: R)) : ∃ L2, Ent L L2 ∧ P_sweep K A [.ref p] L2 Q Ea := ⟨_, e, _, rfl, p, ad, st, R, b, rfl, rfl, w, h1, h2, q⟩
theorem do_settle (e : Ent L (HeapIs A.Heap p ad st :: R)) (q : ∀ ad', Q .non (HeapIs A.Heap p ad' st.settle :: R)) : ∃ L2, Ent L L2 ∧ P_settle K A [.ref p] L2 Q Ea := ⟨_, e, _, rfl, p, ad, st, R, rfl, rfl, q⟩
theorem do_piece (e : Ent L (HeapIs A.Heap p ad st :: R)) (w : HW st) (pw : PcW st) (q : ∀ ad', Q (oV st.piece.2) (HeapIs A.Heap p ad' st.piece.1 :: R)) : ∃ L2, Ent L L2 ∧ P_piece K A [.ref p] L2 Q Ea := ⟨_, e, _, rfl, p, ad, st, R, rfl, rfl, w, pw, q⟩
theorem do_held {i : Nat} (e : Ent L (HeapIs A.Heap p ad st :: R)) (hi : i < st.hands.length) (q : Q (oV (st.hands.getD i none)) (HeapIs A.Heap p ad st :: R)) : ∃ L2, Ent L L2 ∧ P_held K A [.ref p, nV i] L2 Q Ea :=
  ⟨_, e, _, _, rfl, p, ad, st, R, i, rfl, rfl, rfl, fun n => absurd ⟨by omega, by omega⟩ n, fun _ => by unfold HS.at_; rw [Int.toNat_natCast]; exact q⟩
theorem do_look {b : Nat} (e : Ent L (HeapIs A.Heap p ad st :: R)) (w : HW st) (hb : b ∈ st.there) (q : ∀ d, Q (.ref d) (pt d (.lst ((st.rowAt b).map oV)) :: HeapIs A.Heap p ad st :: R)) : ∃ L2, Ent L L2 ∧ P_look K A [.ref p, nV b] L2 Q Ea :=
  ⟨_, e, _, _, rfl, p, ad, st, R, b, rfl, rfl, rfl, w, fun n => absurd rfl (n b hb), fun c hc _ => by
    have : b = c := by omega
    subst this
    exact q⟩
theorem do_make {i k : Nat} (e : Ent L (HeapIs A.Heap p ad st :: R)) (w : HW st) (hi : i < st.hands.length) (hk : k ≤ 4) (hr : st.there.length < st.room) (q : ∀ ad', Q (nV st.rows.length) (HeapIs A.Heap p ad' (st.make i k) :: R)) : ∃ L2, Ent L L2 ∧ P_make K A [.ref p, nV i, nV k] L2 Q Ea :=
  ⟨_, e, _, _, _, rfl, p, ad, st, R, i, k, rfl, rfl, rfl, rfl, w, fun n => absurd ⟨by omega, by omega⟩ n, fun _ n => absurd ⟨by omega, by omega⟩ n, fun _ _ n => absurd n (by omega), fun _ _ _ => by simpa using q⟩
theorem do_take {i j k b : Nat} (e : Ent L (HeapIs A.Heap p ad st :: R)) (w : HW st) (hi : i < st.hands.length) (hj : j < st.hands.length) (hb : st.hands.getD j none = some b) (ht : b ∈ st.there) (hk : k < (st.rowAt b).length) (q : Q .non (HeapIs A.Heap p ad (st.take i b k) :: R)) :
    ∃ L2, Ent L L2 ∧ P_take K A [.ref p, nV i, nV j, nV k] L2 Q Ea := by
  have e1 : st.at_ (j : Int) = some b := by unfold HS.at_; rw [Int.toNat_natCast]; exact hb
  refine ⟨_, e, _, _, _, _, rfl, p, ad, st, R, i, j, k, rfl, rfl, rfl, rfl, rfl, w, fun c hc => ?_, fun n => absurd ⟨⟨by omega, by omega⟩, by omega, by omega⟩ n, fun _ _ n => ?_, fun c _ _ hc n => ?_, fun c _ _ hc _ => ?_⟩
  · rw [e1] at hc; cases hc; exact ht
  · rw [e1] at n; cases n
  · rw [e1] at hc; cases hc; exact absurd ⟨by omega, by omega⟩ n
  · rw [e1] at hc; cases hc; simpa using q
theorem do_put {i j k b : Nat} (e : Ent L (HeapIs A.Heap p ad st :: R)) (w : HW st) (hi : i < st.hands.length) (hj : j < st.hands.length) (hb : st.hands.getD i none = some b) (ht : b ∈ st.there) (hk : k < (st.rowAt b).length) (q : Q .non (HeapIs A.Heap p ad (st.put b k (st.hands.getD j none)) :: R)) :
    ∃ L2, Ent L L2 ∧ P_put K A [.ref p, nV i, nV k, nV j] L2 Q Ea := by
  have e1 : st.at_ (i : Int) = some b := by unfold HS.at_; rw [Int.toNat_natCast]; exact hb
  have e2 : st.at_ (j : Int) = st.hands.getD j none := by unfold HS.at_; rw [Int.toNat_natCast]
  refine ⟨_, e, _, _, _, _, rfl, p, ad, st, R, i, k, j, rfl, rfl, rfl, rfl, rfl, w, fun c hc => ?_, fun n => absurd ⟨⟨by omega, by omega⟩, by omega, by omega⟩ n, fun _ _ n => ?_, fun c _ _ hc n => ?_, fun c _ _ hc _ => ?_⟩
  · rw [e1] at hc; cases hc; exact ht
  · rw [e1] at n; cases n
  · rw [e1] at hc; cases hc; exact absurd ⟨by omega, by omega⟩ n
  · rw [e1] at hc; cases hc; rw [e2]; simpa using q
theorem do_share {i j : Nat} (e : Ent L (HeapIs A.Heap p ad st :: R)) (hi : i < st.hands.length) (hj : j < st.hands.length) (q : Q .non (HeapIs A.Heap p ad (st.share i j) :: R)) : ∃ L2, Ent L L2 ∧ P_share K A [.ref p, nV i, nV j] L2 Q Ea :=
  ⟨_, e, _, _, _, rfl, p, ad, st, R, i, j, rfl, rfl, rfl, rfl, fun n => absurd ⟨⟨by omega, by omega⟩, by omega, by omega⟩ n, fun _ _ => by simpa using q⟩
theorem do_drop {i : Nat} (e : Ent L (HeapIs A.Heap p ad st :: R)) (hi : i < st.hands.length) (q : Q .non (HeapIs A.Heap p ad (st.drop i) :: R)) : ∃ L2, Ent L L2 ∧ P_drop K A [.ref p, nV i] L2 Q Ea :=
  ⟨_, e, _, _, rfl, p, ad, st, R, i, rfl, rfl, rfl, fun n => absurd ⟨by omega, by omega⟩ n, fun _ => by simpa using q⟩
theorem do_work {n : Nat} (e : Ent L (HeapIs A.Heap p ad st :: R)) (hn : n ≤ 2500) (hw : ∀ k, k < n → HW (HS.work k st).1 ∧ PcW (HS.work k st).1) (q : ∀ d ad', Q (.ref d) (pt d (.lst ((HS.work n st).2.map nV)) :: HeapIs A.Heap p ad' (HS.work n st).1 :: R)) : ∃ L2, Ent L L2 ∧ P_work K A [.ref p, nV n] L2 Q Ea :=
  ⟨_, e, _, _, rfl, p, ad, st, R, n, rfl, rfl, rfl, fun m => absurd ⟨by omega, by omega⟩ m, fun _ => ⟨fun k hk => hw k (by omega), by simpa using q⟩⟩
end
/-! ### chains of two comparisons -/
abbrev Vl (te : TE) (σ : L2.St) (L : AL) (v : V) : Prop := ∀ Q : V → AL → Prop, Q v L → SE te σ L Q
section
variable {σ : L2.St} {L : AL} {Q : V → AL → Prop} {ta tb tc : TE} {i j k : Int}
theorem ch_le_lt (ha : Vl ta σ L (.int i)) (hb : Vl tb σ L (.int j)) (hc : Vl tc σ L (.int k)) (q : Q (.bl (decide (i ≤ j ∧ j < k))) L) : SE (tChain rLeI rLtI ta tb tc) σ L Q := by
  refine e_chain (ha _ (hb _ (r_I0 (ex_c (fun c => hc _ (r_I0 ?_)) fun c => ?_))))
  · have e : decide (i ≤ j ∧ j < k) = decide (j < k) := by simp [c]
    rw [← e]; exact q
  · have e : decide (i ≤ j ∧ j < k) = false := by simp [c]
    rw [← e]; exact q
theorem ch_le_le (ha : Vl ta σ L (.int i)) (hb : Vl tb σ L (.int j)) (hc : Vl tc σ L (.int k)) (q : Q (.bl (decide (i ≤ j ∧ j ≤ k))) L) : SE (tChain rLeI rLeI ta tb tc) σ L Q := by
  refine e_chain (ha _ (hb _ (r_I0 (ex_c (fun c => hc _ (r_I0 ?_)) fun c => ?_))))
  · have e : decide (i ≤ j ∧ j ≤ k) = decide (j ≤ k) := by simp [c]
    rw [← e]; exact q
  · have e : decide (i ≤ j ∧ j ≤ k) = false := by simp [c]
    rw [← e]; exact q
end
/-- not a test -/
theorem ex_not {c : Prop} [Decidable c] {P R : Prop} (p : ¬ c → P) (r : c → R) : ∃ b, V.bl (decide c) = V.bl b ∧ ((!b) = true → P) ∧ ((!b) = false → R) := by
  refine ⟨_, rfl, fun h => p ?_, fun h => r ?_⟩
  · intro hc; rw [decide_eq_true hc] at h; cases h
  · apply Decidable.byContradiction; intro hc; rw [decide_eq_false hc] at h; cases h
end Mp
/-! Pure theorems of the laws' small helpers. -/
namespace Mp
open PySem L2 PyProof.Rows
local macro_rules | `(tactic| tm_at "hs") => `(tactic| with_reducible first
  | exact has_hd
  | exact heap_ins
  | exact heap_h
  | exact heap_d
  | exact heap_o
  | exact heap_s
  | exact heap_r
  | exact rows_p
  | assumption
  | (apply has_tl; tm_at "hs"))
local macro_rules | `(tactic| tm_at "wr") => `(tactic| with_reducible first
  | exact wr_hd
  | exact heap_wr_hands
  | (apply wr_tl; tm_at "wr"))
local macro_rules | `(tactic| tm_at "sq") => `(tactic| with_reducible first
  | assumption
  | exact scr_hd
  | exact Has.sq has_hd
  | exact Has.sq heap_h
  | exact Has.sq heap_o
  | exact Has.sq heap_r
  | exact Has.sq rows_p
  | (apply Has.sq; assumption)
  | (apply sq_tl; tm_at "sq"))
local macro_rules | `(tactic| tm_at "w_i") => `(tactic| with_reducible refine s_if ?_)
local macro_rules | `(tactic| tm_at "w_s") => `(tactic| with_reducible first
  | refine s_seq ?_
  | refine s_asg ?_
  | refine s_ret ?_
  | refine s_next ?_
  | refine s_drop ?_
  | refine s_setL ?_
  | refine s_retN ?_
  | refine s_dput ?_
  | refine s_fld ?_
  | refine s_fldaug ?_
  | refine s_brk ?_
  | refine s_cnt ?_)
local macro_rules | `(tactic| tm_at "w_e") => `(tactic| first
  | ((with_reducible apply e_var); exact rfl)
  | with_reducible refine e_c ?_
  | with_reducible refine e_op ?_
  | with_reducible refine e_cb ?_
  | with_reducible refine e_call ?_
  | with_reducible refine e_callE (by assumption) ?_
  | with_reducible refine e_fld ?_
  | with_reducible refine e_bm ?_
  | with_reducible refine e_bm0 ?_
  | with_reducible refine e_meth ?_
  | with_reducible refine e_methE (by assumption) ?_
  | with_reducible refine e_dget ?_
  | with_reducible refine e_din ?_
  | with_reducible refine e_dnotin ?_
  | with_reducible refine e_andV ?_
  | with_reducible refine e_orV ?_
  | with_reducible refine e_notV ?_
  | ((with_reducible show SE (tChain rLeI rLtI _ _ _) _ _ _); refine ch_le_lt (fun _ q => by tm_at "go"; exact q) (fun _ q => by tm_at "go"; exact q) (fun _ q => by tm_at "go"; exact q) ?_)
  | ((with_reducible show SE (tChain rLeI rLeI _ _ _) _ _ _); refine ch_le_le (fun _ q => by tm_at "go"; exact q) (fun _ q => by tm_at "go"; exact q) (fun _ q => by tm_at "go"; exact q) ?_)
  | with_reducible refine e_chain ?_
  | with_reducible refine e_sl ?_
  | with_reducible refine e_lst ?_
  | with_reducible refine e_tup ?_
  | with_reducible refine e_un ?_
  | with_reducible refine e_dnew ?_)
local macro_rules | `(tactic| tm_at "w_t") => `(tactic| with_reducible first
  | refine t_test ?_
  | refine t_B ?_
  | refine t_and ?_
  | refine t_or ?_
  | refine t_not ?_
  | refine t_tru ?_
  | refine t_yes ?_)
local macro_rules | `(tactic| tm_at "w_g") => `(tactic| with_reducible first
  | refine g_hands (by assumption) (by tm_at "hs") (by with_unfolding_all exact rfl) ?_
  | refine g_room (by assumption) (by tm_at "hs") (by with_unfolding_all exact rfl) ?_
  | refine g_slots (by assumption) (by tm_at "hs") (by with_unfolding_all exact rfl) ?_
  | refine g_made (by assumption) (by tm_at "hs") (by with_unfolding_all exact rfl) ?_
  | refine g_ended (by assumption) (by tm_at "hs") (by with_unfolding_all exact rfl) ?_
  | refine g_stage (by assumption) (by tm_at "hs") (by with_unfolding_all exact rfl) ?_
  | refine g_old (by assumption) (by tm_at "hs") (by with_unfolding_all exact rfl) ?_
  | refine g_begun (by assumption) (by tm_at "hs") (by with_unfolding_all exact rfl) ?_
  | refine g_seen (by assumption) (by tm_at "hs") (by with_unfolding_all exact rfl) ?_
  | refine g_row (by assumption) (by tm_at "hs") (by with_unfolding_all exact rfl) ?_
  | refine g_looked (by assumption) (by tm_at "hs") (by with_unfolding_all exact rfl) ?_
  | refine g_swept (by assumption) (by tm_at "hs") (by with_unfolding_all exact rfl) ?_)
local macro_rules | `(tactic| tm_at "w_u") => `(tactic| with_reducible first
  | refine u_hands (by assumption) (by tm_at "hs") (by with_unfolding_all exact Nat.le_of_ble_eq_true rfl) (by tm_at "wr") ?_
  | refine u_room (by assumption) (by tm_at "hs") (by with_unfolding_all exact Nat.le_of_ble_eq_true rfl) (by tm_at "wr") ?_
  | refine u_slots (by assumption) (by tm_at "hs") (by with_unfolding_all exact Nat.le_of_ble_eq_true rfl) (by tm_at "wr") ?_
  | refine u_made (by assumption) (by tm_at "hs") (by with_unfolding_all exact Nat.le_of_ble_eq_true rfl) (by tm_at "wr") ?_
  | refine u_ended (by assumption) (by tm_at "hs") (by with_unfolding_all exact Nat.le_of_ble_eq_true rfl) (by tm_at "wr") ?_
  | refine u_stage (by assumption) (by tm_at "hs") (by with_unfolding_all exact Nat.le_of_ble_eq_true rfl) (by tm_at "wr") ?_
  | refine u_old (by assumption) (by tm_at "hs") (by with_unfolding_all exact Nat.le_of_ble_eq_true rfl) (by tm_at "wr") ?_
  | refine u_begun (by assumption) (by tm_at "hs") (by with_unfolding_all exact Nat.le_of_ble_eq_true rfl) (by tm_at "wr") ?_
  | refine u_seen (by assumption) (by tm_at "hs") (by with_unfolding_all exact Nat.le_of_ble_eq_true rfl) (by tm_at "wr") ?_
  | refine u_row (by assumption) (by tm_at "hs") (by with_unfolding_all exact Nat.le_of_ble_eq_true rfl) (by tm_at "wr") ?_
  | refine u_looked (by assumption) (by tm_at "hs") (by with_unfolding_all exact Nat.le_of_ble_eq_true rfl) (by tm_at "wr") ?_
  | refine u_swept (by assumption) (by tm_at "hs") (by with_unfolding_all exact Nat.le_of_ble_eq_true rfl) (by tm_at "wr") ?_
  | refine n_hands (by assumption) (by tm_at "hs") (by with_unfolding_all exact rfl) (by tm_at "wr") ?_
  | refine n_room (by assumption) (by tm_at "hs") (by with_unfolding_all exact rfl) (by tm_at "wr") ?_
  | refine n_slots (by assumption) (by tm_at "hs") (by with_unfolding_all exact rfl) (by tm_at "wr") ?_
  | refine n_made (by assumption) (by tm_at "hs") (by with_unfolding_all exact rfl) (by tm_at "wr") ?_
  | refine n_ended (by assumption) (by tm_at "hs") (by with_unfolding_all exact rfl) (by tm_at "wr") ?_
  | refine n_stage (by assumption) (by tm_at "hs") (by with_unfolding_all exact rfl) (by tm_at "wr") ?_
  | refine n_old (by assumption) (by tm_at "hs") (by with_unfolding_all exact rfl) (by tm_at "wr") ?_
  | refine n_begun (by assumption) (by tm_at "hs") (by with_unfolding_all exact rfl) (by tm_at "wr") ?_
  | refine n_seen (by assumption) (by tm_at "hs") (by with_unfolding_all exact rfl) (by tm_at "wr") ?_
  | refine n_row (by assumption) (by tm_at "hs") (by with_unfolding_all exact rfl) (by tm_at "wr") ?_
  | refine n_looked (by assumption) (by tm_at "hs") (by with_unfolding_all exact rfl) (by tm_at "wr") ?_
  | refine n_swept (by assumption) (by tm_at "hs") (by with_unfolding_all exact rfl) (by tm_at "wr") ?_)
local macro_rules | `(tactic| tm_at "w_r") => `(tactic| first
  | with_reducible refine r_I0 ?_
  | ((with_reducible refine r_I ?_ ?_); (first | exact ⟨by decide, by decide⟩ | exact ⟨by omega, by omega⟩ | (show (0 : Int) < _; first | decide | omega | assumption)))
  | with_reducible refine r_isNo ?_
  | with_reducible refine r_notNo ?_
  | with_reducible refine r_eq rfl ?_
  | with_reducible refine r_ne rfl ?_
  | ((with_reducible apply c_len); (tm_at "sq"))
  | with_reducible refine isi_int_int ?_
  | with_reducible refine isi_int_bool ?_
  | with_reducible refine isi_non_int ?_
  | with_reducible refine isi_str ?_
  | ((with_reducible apply isi_list); (tm_at "hs"))
  | with_reducible refine c_intB ?_
  | with_reducible refine c_intI ?_
  | with_reducible refine c_max2 ?_
  | with_reducible refine c_min2 ?_
  | (with_reducible refine r_dget (by tm_at "hs") (by assumption) ?_)
  | ((with_reducible apply r_dnotT); (tm_at "hs"))
  | ((with_reducible apply r_dinT); (tm_at "hs"))
  | ((with_reducible apply r_din); (tm_at "hs"))
  | ((with_reducible apply r_dnotin); (tm_at "hs"))
  | tm_at "w_g"
  | ((with_reducible apply c_lenD); (tm_at "hs"))
  | ((with_reducible apply r_listD); (tm_at "hs")))
local macro_rules | `(tactic| tm_at "w1") => `(tactic| first
  | ((with_reducible show SS _ _ _ _); first | tm_at "w_s" | tm_at "w_i")
  | tm_at "w0")
local macro_rules | `(tactic| tm_at "w0") => `(tactic| first
  | ((with_reducible show SE _ _ _ _); tm_at "w_e")
  | ((with_reducible show RE _ _ _); tm_at "w_r")
  | ((with_reducible show ST _ _ _ _); tm_at "w_t")
  | ((with_reducible show SA _ _ _ _); with_reducible first | refine a_cons ?_ | refine a_nil ?_)
  | ((with_reducible show SO _ _ _ _); with_reducible first | refine o_none ?_ | refine o_some ?_)
  | ((with_reducible show And _ _); with_reducible refine And.intro (ty_list (by tm_at "sq")) ?_)
  | ((with_reducible show Exists _); first | with_reducible refine do_cell (by tm_at "sq") (by first | decide | omega) ?_ | (with_reducible refine meth_h (by tm_at "hs") (by decide +kernel) ?_) | tm_at "w_u"))
local macro_rules | `(tactic| tm_at "go") => `(tactic| repeat (tm_at "w1"))
local macro_rules | `(tactic| tm_at "w1n") => `(tactic| first
  | ((with_reducible show SS _ _ _ _); tm_at "w_s")
  | tm_at "w0")
local macro_rules | `(tactic| tm_at "gn") => `(tactic| repeat (tm_at "w1n"))
def N_law_cell_at : List Str := ["_law_script", "_law_k"]
def t_law_cell_at (K : PySem.W.Frag) (A : Ex) (E : XK) : TS :=
    (tSeq (tIfS (tTest (tOp rLtI (tVar 1) (tCB (rLen K) (tCons (tVar 0) tNil)))) (tRet (tOp (rIxL K) (tVar 0) (tVar 1))) tNext)
    (tRet (tC (.int 0))))
def P_law_whole (K : PySem.W.Frag) (_ : Ex) : Pm := pm1 fun x L Q _ => ∃ o : Option Nat, x = oV o ∧ Q (.bl o.isSome) L
def N_law_whole : List Str := ["_law_found"]
def t_law_whole (K : PySem.W.Frag) (A : Ex) (E : XK) : TS :=
    (tRet (tAndV (tCB (rIsi K) (tCons (tVar 0) (tCons (tC (.ty "int")) tNil))) (tNotV (tCB (rIsi K) (tCons (tVar 0) (tCons (tC (.ty "bool")) tNil))))))
def P_law_numbers (K : PySem.W.Frag) (_ : Ex) : Pm := pm2 fun x y L Q _ => ∃ (a b : Addr) (xs ys : List (Option Nat)), x = .ref a ∧ y = .ref b ∧ Has L a (.lst (xs.map oV)) ∧ SqA K L b (ys.map oV) ∧ ys.length ≤ 100000 ∧ Q (.bl (decide (xs = ys))) L
def N_law_numbers : List Str := ["_law_found", "_law_due_here", "_law_k"]
def t_law_numbers (K : PySem.W.Frag) (A : Ex) (E : XK) : TS :=
    (tSeq (tIfS (tOr (tNot (tB (tCB (rIsi K) (tCons (tVar 0) (tCons (tC (.ty "list")) tNil))))) (tTest (tOp rNe (tCB (rLen K) (tCons (tVar 0) tNil)) (tCB (rLen K) (tCons (tVar 1) tNil))))) (tRet (tC (.bl false))) tNext)
    (tSeq (tFor (iRng1 (tCons (tCB (rLen K) (tCons (tVar 1) tNil)) tNil)) (gName 2)
      (tSeq (tIfS (tAnd (tTest (tOp rIsNo (tOp (rIxL K) (tVar 1) (tVar 2)) (tC .non))) (tTest (tOp rNotNo (tOp (rIxL K) (tVar 0) (tVar 2)) (tC .non)))) (tRet (tC (.bl false))) tNext)
    (tIfS (tAnd (tTest (tOp rNotNo (tOp (rIxL K) (tVar 1) (tVar 2)) (tC .non))) (tOr (tNot (tB (tCall (lift (P_law_whole K A)) [] E0 (tCons (tOp (rIxL K) (tVar 0) (tVar 2)) tNil)))) (tTest (tOp rNe (tOp (rIxL K) (tVar 0) (tVar 2)) (tOp (rIxL K) (tVar 1) (tVar 2)))))) (tRet (tC (.bl false))) tNext)))
    (tRet (tC (.bl true)))))
section
variable {K : PySem.W.Frag} {A : Ex} {E : XK} {vs : List V} {L : AL} {Q : V → AL → Prop} {Ea : Value → AL → Prop}
theorem p_law_cell_at (he : ELe Ea E) (h : P_law_cell_at K A vs L Q Ea) : SS (t_law_cell_at K A E) { nx := fun _ L => Q .non L, rt := Q } (start N_law_cell_at vs) L := by
  obtain ⟨_, _, rfl, a, ns, k, rfl, rfl, hk, hq, q⟩ := h
  unfold t_law_cell_at
  tm_at "go"
  refine ⟨_, rfl, fun hb => ?_, fun hb => ?_⟩
  · have hb := of_decide_eq_true hb
    rw [List.length_map] at hb
    tm_at "go"
    refine r_ixL hq (atI_toNat hk (v := V.int (cell ns k)) ?_) q
    have h2 : k.toNat < ns.length := by omega
    rw [List.getElem?_map, List.getElem?_eq_getElem h2]
    unfold cell
    rw [List.getD_eq_getElem?_getD, List.getElem?_eq_getElem h2]
    rfl
  · have hb := of_decide_eq_false hb
    rw [List.length_map] at hb
    tm_at "go"
    have e : cell ns k = 0 := by
      unfold cell
      rw [List.getD_eq_getElem?_getD, List.getElem?_eq_none (by omega)]
      rfl
    rw [e] at q
    exact q
theorem p_law_whole (he : ELe Ea E) (h : P_law_whole K A vs L Q Ea) : SS (t_law_whole K A E) { nx := fun _ L => Q .non L, rt := Q } (start N_law_whole vs) L := by
  obtain ⟨_, rfl, o, rfl, q⟩ := h
  unfold t_law_whole
  cases o with
  | none =>
    tm_at "go"
    exact ex_f q
  | some n =>
    tm_at "go"
    refine ex_t ?_
    tm_at "go"
    exact ⟨false, rfl, q⟩
theorem p_law_numbers (he : ELe Ea E) (h : P_law_numbers K A vs L Q Ea) : SS (t_law_numbers K A E) { nx := fun _ L => Q .non L, rt := Q } (start N_law_numbers vs) L := by
  obtain ⟨_, _, rfl, a, b, xs, ys, rfl, rfl, ha, hb, hz, q⟩ := h
  unfold t_law_numbers
  tm_at "go"
  refine ⟨_, rfl, both_f ?_⟩
  tm_at "go"
  refine ex_n (fun hn => ?_) fun hn => ?_
  · tm_at "go"
    have e : decide (xs = ys) = false := decide_eq_false fun z => hn (by rw [z])
    rw [e] at q
    exact q
  have hl : xs.length = ys.length := by
    have h1 := V.int.inj hn
    rw [List.length_map, List.length_map] at h1
    omega
  tm_at "go"
  refine s_forR1 ?_
  tm_at "go"
  have hly : (ys.map oV).length = ys.length := List.length_map _
  refine ⟨_, rfl, by omega, by omega, fun i σ L' => L' = L ∧ ∃ v, σ = [some (.ref a), some (.ref b), v] ∧ ∀ j < i, xs[j]? = ys[j]?, ⟨rfl, none, rfl, fun j hj => absurd hj (Nat.not_lt_zero _)⟩, ?_, ?_⟩
  · rintro i σ L' hi ⟨rfl, v, rfl, hj⟩
    have hiy : i < ys.length := by omega
    have hix : i < xs.length := by omega
    have ex : (xs.map oV)[i]? = some (oV xs[i]) := by rw [List.getElem?_map, List.getElem?_eq_getElem hix]; rfl
    have ey : (ys.map oV)[i]? = some (oV ys[i]) := by rw [List.getElem?_map, List.getElem?_eq_getElem hiy]; rfl
    have gx : xs[i]? = some xs[i] := List.getElem?_eq_getElem hix
    have gy : ys[i]? = some ys[i] := List.getElem?_eq_getElem hiy
    have bad : xs[i] ≠ ys[i] → Q (.bl false) L' := fun z => by
      have e : decide (xs = ys) = false := decide_eq_false fun w => z (by subst w; rfl)
      rw [e] at q
      exact q
    have good : xs[i] = ys[i] → ∀ j < i + 1, xs[j]? = ys[j]? := fun z j hj' => by
      by_cases c : j = i
      · subst c; rw [gx, gy, z]
      · exact hj j (by omega)
    generalize xs[i] = x at *
    generalize ys[i] = y at *
    tm_at "go"
    refine r_ixL hb (atI_nat ey) ?_
    tm_at "go"
    refine ex_c (fun c => ?_) fun c => ?_
    · have ey0 : y = none := oV_inj (b := none) c
      subst ey0
      tm_at "go"
      refine r_ixL ha.sq (atI_nat ex) ?_
      tm_at "go"
      refine ex_n (fun c2 => ?_) fun c2 => ?_
      · tm_at "go"
        exact bad fun z => c2 (by rw [z])
      · have ex0 : x = none := oV_inj (b := none) c2
        subst ex0
        tm_at "go"
        refine r_ixL hb (atI_nat ey) ?_
        tm_at "go"
        refine ⟨false, rfl, both_f (both_f ?_)⟩
        tm_at "go"
        exact ⟨rfl, some (nV i), rfl, good rfl⟩
    · obtain ⟨m, rfl⟩ : ∃ m, y = some m := by
        cases y with
        | none => exact absurd rfl c
        | some m => exact ⟨m, rfl⟩
      refine both_f ?_
      tm_at "go"
      refine r_ixL hb (atI_nat ey) ?_
      tm_at "go"
      refine ⟨true, rfl, both_t ?_⟩
      tm_at "go"
      refine r_ixL ha.sq (atI_nat ex) ?_
      tm_at "go"
      refine ⟨L', Ent.refl _, _, rfl, x, rfl, ?_⟩
      cases x with
      | none =>
        refine ⟨_, rfl, both_t (both_t ?_)⟩
        tm_at "go"
        exact bad fun z => nomatch z
      | some n =>
        refine ⟨_, rfl, both_f ?_⟩
        tm_at "go"
        refine r_ixL ha.sq (atI_nat ex) ?_
        tm_at "go"
        refine r_ixL hb (atI_nat ey) ?_
        refine r_ne rfl ?_
        refine ex_n (fun c2 => ?_) fun c2 => ?_
        · tm_at "go"
          exact bad fun z => c2 (by rw [z])
        · tm_at "go"
          exact ⟨rfl, some (nV i), rfl, good (oV_inj c2)⟩
  · rintro σ L' ⟨rfl, v, rfl, hj⟩
    have e : decide (xs = ys) = true := decide_eq_true (List.ext_getElem? fun j => by
      by_cases c : j < ys.length
      · exact hj j (by omega)
      · rw [List.getElem?_eq_none (by omega), List.getElem?_eq_none (by omega)])
    rw [e] at q
    tm_at "go"
    exact q
theorem do_whole {o : Option Nat} (q : Q (.bl o.isSome) L) : ∃ L2, Ent L L2 ∧ P_law_whole K A [oV o] L2 Q Ea := ⟨L, Ent.refl _, _, rfl, o, rfl, q⟩
theorem do_wholeN {n : Nat} (q : Q (.bl true) L) : ∃ L2, Ent L L2 ∧ P_law_whole K A [nV n] L2 Q Ea := ⟨L, Ent.refl _, _, rfl, some n, rfl, q⟩
theorem do_numbers {a b : Addr} {xs ys : List (Option Nat)} (ha : Has L a (.lst (xs.map oV))) (hb : SqA K L b (ys.map oV)) (hz : ys.length ≤ 100000) (q : Q (.bl (decide (xs = ys))) L) : ∃ L2, Ent L L2 ∧ P_law_numbers K A [.ref a, .ref b] L2 Q Ea :=
  ⟨L, Ent.refl _, _, _, rfl, a, b, xs, ys, rfl, rfl, ha, hb, hz, q⟩
theorem do_numbersT {a b : Addr} {xs : List (Option Nat)} (ha : Has L a (.lst (xs.map oV))) (hb : SqA K L b (xs.map oV)) (hz : xs.length ≤ 100000) (q : Q (.bl true) L) : ∃ L2, Ent L L2 ∧ P_law_numbers K A [.ref a, .ref b] L2 Q Ea :=
  do_numbers ha hb hz (by rw [decide_eq_true rfl]; exact q)
theorem do_numbersN {a b : Addr} {xs : List Nat} (ha : Has L a (.lst (xs.map nV))) (hb : SqA K L b (xs.map nV)) (hz : xs.length ≤ 100000) (q : Q (.bl true) L) : ∃ L2, Ent L L2 ∧ P_law_numbers K A [.ref a, .ref b] L2 Q Ea :=
  do_numbersT (xs := xs.map some) (by rw [map_oV_some]; exact ha) (by rw [map_oV_some]; exact hb) (by rw [List.length_map]; exact hz) q
end
/-! The heap's methods, walked. -/
def N_rest : List Str := ["self"]
def t_rest (K : PySem.W.Frag) (A : Ex) (E : XK) : TS :=
    (tSeq (sFld K (tVar 0) (tC (.str "idle")) "stage")
    (tSeq (sFld K (tVar 0) (tLst tNil) "old")
    (tSeq (sFld K (tVar 0) (tC (.int 0)) "begun")
    (tSeq (sFld K (tVar 0) tDNewK "seen")
    (tSeq (sFld K (tVar 0) (tLst tNil) "row")
    (tSeq (sFld K (tVar 0) (tC (.int 0)) "looked")
    (sFld K (tVar 0) (tC (.int 0)) "swept")))))))
def N_init : List Str := ["self", "hands", "room", "k"]
def t_init (K : PySem.W.Frag) (A : Ex) (E : XK) : TS :=
    (tSeq (tIfS (tOr (tNot (tTest (tChain rLeI rLeI (tC (.int 1)) (tVar 1) (tC (.int 8))))) (tNot (tTest (tChain rLeI rLeI (tC (.int 1)) (tVar 2) (tC (.int 1000)))))) (tRaiseC A.NoHeap E) tNext)
    (tSeq (sFld K (tVar 0) (tLc (iRng1 (tCons (tVar 1) tNil)) (gName 3) tYes (tC .non) [3]) "hands")
    (tSeq (sFld K (tVar 0) (tVar 2) "room")
    (tSeq (sFld K (tVar 0) tDNewK "slots")
    (tSeq (sFld K (tVar 0) (tC (.int 0)) "made")
    (tSeq (sFld K (tVar 0) (tC (.int 0)) "ended")
    (tDrop (tMeth A.Heap "rest" (lift (P_rest K A)) [] E0 (tVar 0) tNil))))))))
def N_need_hand : List Str := ["self", "hand"]
def t_need_hand (K : PySem.W.Frag) (A : Ex) (E : XK) : TS :=
    (tIfS (tNot (tTest (tChain rLeI rLtI (tC (.int 0)) (tVar 1) (tCB (rLen K) (tCons (tFld K (tVar 0) "hands") tNil))))) (tRaiseC A.NoHand E) tNext)
def N_row_of : List Str := ["self", "hand", "slot", "box"]
def t_row_of (K : PySem.W.Frag) (A : Ex) (E : XK) : TS :=
    (tSeq (tAsg (tOp (rIxL K) (tFld K (tVar 0) "hands") (tVar 1)) (gName 3))
    (tSeq (tIfS (tTest (tOp rIsNo (tVar 3) (tC .non))) (tRaiseC A.NothingHeld E) tNext)
    (tSeq (tIfS (tNot (tTest (tChain rLeI rLtI (tC (.int 0)) (tVar 2) (tCB (rLen K) (tCons (tDGet (tFld K (tVar 0) "slots") (tVar 3)) tNil))))) (tRaiseC A.NoSlot E) tNext)
    (tRet (tDGet (tFld K (tVar 0) "slots") (tVar 3))))))
section
variable {K : PySem.W.Frag} {A : Ex} {E : XK} {vs : List V} {L : AL} {Q : V → AL → Prop} {Ea : Value → AL → Prop}
theorem p_rest (T : HT K A) (he : ELe Ea E) (h : P_rest K A vs L Q Ea) : SS (t_rest K A E) { nx := fun _ L => Q .non L, rt := Q } (start N_rest vs) L := by
  obtain ⟨_, rfl, p, dx, v0, v1, v2, v3, v4, tl, R, rfl, rfl, ht, q⟩ := h
  unfold t_rest
  refine s_post ?_
  rcases ht with rfl | ht
  · tm_at "go"
    refine ⟨by show 0 ≤ sizeLine; decide, fun o => ?_⟩
    tm_at "go"
    intro s
    tm_at "go"
    refine ⟨by show 0 ≤ sizeLine; decide, fun r => ?_⟩
    tm_at "go"
    exact ⟨_, ent_pick 3 rfl, q o s r⟩
  · match tl, ht with
    | [w0, w1, w2, w3, w4, w5, w6], _ =>
      tm_at "go"
      refine ⟨by show 0 ≤ sizeLine; decide, fun o => ?_⟩
      tm_at "go"
      intro s
      tm_at "go"
      refine ⟨by show 0 ≤ sizeLine; decide, fun r => ?_⟩
      tm_at "go"
      exact ⟨_, ent_pick 3 rfl, q o s r⟩
theorem p_need_hand (T : HT K A) (he : ELe Ea E) (h : P_need_hand K A vs L Q Ea) : SS (t_need_hand K A E) { nx := fun _ L => Q .non L, rt := Q } (start N_need_hand vs) L := by
  obtain ⟨_, _, rfl, p, ad, st, R, i, rfl, rfl, rfl, q1, q2⟩ := h
  unfold t_need_hand
  tm_at "go"
  refine ex_not (fun c => ?_) fun c => ?_
  · rw [List.length_map] at c
    exact s_raise he (q2 c)
  · rw [List.length_map] at c
    tm_at "go"
    exact q1 c
theorem p_init (T : HT K A) (he : ELe Ea E) (h : P_init K A vs L Q Ea) : SS (t_init K A E) { nx := fun _ L => Q .non L, rt := Q } (start N_init vs) L := by
  obtain ⟨_, _, _, rfl, p, dx, R, hands, room, rfl, rfl, rfl, rfl, q1, q2⟩ := h
  unfold t_init
  refine s_post ?_
  refine s_ent (M := pt p (.ins A.Heap dx (hF [])) :: R) (fun _ s => s) ?_
  tm_at "go"
  refine ex_not (fun c => ?_) fun c => ?_
  · refine both_t ?_
    exact s_raiseE he Ent.drop (q2 fun z => c z.1)
  tm_at "go"
  refine ex_not (fun c2 => ?_) fun c2 => ?_
  · exact s_raiseE he Ent.drop (q2 fun z => c2 z.2)
  have q := q1 ⟨c, c2⟩
  have hn : hands = ((hands.toNat : Nat) : Int) := by omega
  have hr : room = ((room.toNat : Nat) : Int) := by omega
  generalize hands.toNat = n at *
  generalize room.toNat = m at *
  subst hn
  subst hr
  tm_at "go"
  refine e_lcPlainR n (fun _ => true) (fun _ => .non) (by omega) (fun _ => rfl) (by tm_at "go"; exact ⟨rfl, rfl⟩) (fun i hi L' en => t_yes ⟨rfl, rfl⟩) (fun i hi _ L' en => e_c ⟨rfl, rfl⟩) fun h => ?_
  have e0 : (((List.range n).filter fun _ => true).map fun _ => V.non) = (List.replicate n (none : Option Nat)).map oV := by
    rw [List.filter_eq_self.mpr (fun _ _ => rfl), List.map_replicate]
    refine List.eq_replicate_iff.mpr ⟨by rw [List.length_map, List.length_range], fun x hx => ?_⟩
    obtain ⟨_, _, e⟩ := List.mem_map.mp hx
    exact e.symm
  rw [e0]
  tm_at "go"
  intro d
  tm_at "go"
  refine ⟨_, ent_pick 2 rfl, _, rfl, p, dx, _, _, _, _, _, [], pt d (.dK []) :: pt h (.lst ((List.replicate n (none : Option Nat)).map oV)) :: R, rfl, rfl, .inl rfl, fun o s r => ?_⟩
  refine ⟨_, ?_, q ⟨dx, h, d, o, s, r, []⟩⟩
  refine Ent.trans (M := pt p (.ins A.Heap dx (hF (hVals ⟨dx, h, d, o, s, r, []⟩ (HS.new n m)))) :: pt h (.lst ((HS.new n m).hands.map oV)) :: pt d (.dK []) :: pt o (.lst []) :: pt s (.dK []) :: pt r (.lst []) :: R) ?_ (ent_close (ad := ⟨dx, h, d, o, s, r, []⟩) (st := HS.new n m) rfl)
  refine Ent.cons ?_
  -- r s o d h
  exact (ent_pick 4 rfl).trans (Ent.cons ((ent_pick 3 rfl).trans (Ent.cons ((ent_pick 2 rfl).trans (Ent.cons ent_swap)))))
theorem at_get {st : HS} {i : Int} (hi : isHand st i) : atI (st.hands.map oV) i = some (oV (st.at_ i)) := by
  have h2 : i.toNat < st.hands.length := by have := hi.1; have := hi.2; omega
  refine atI_toNat hi.1 ?_
  unfold HS.at_
  rw [List.getElem?_map, List.getD_eq_getElem?_getD, List.getElem?_eq_getElem h2]
  rfl
theorem p_row_of (T : HT K A) (he : ELe Ea E) (h : P_row_of K A vs L Q Ea) : SS (t_row_of K A E) { nx := fun _ L => Q .non L, rt := Q } (start N_row_of vs) L := by
  obtain ⟨_, _, _, rfl, p, ad, st, R, i, k, rfl, rfl, rfl, rfl, w, hi, hb, q1, q2, q3⟩ := h
  unfold t_row_of
  refine s_use (fun H s => heap_len s) fun hl => ?_
  tm_at "go"
  refine r_ixL (Has.sq heap_h) (at_get hi) ?_
  cases e : st.at_ i with
  | none =>
    tm_at "go"
    exact ex_t (s_raise he (q1 e))
  | some b =>
    have hm := hb b e
    obtain ⟨j, hj, ej⟩ := List.getElem_of_mem hm
    have ej' : st.there[j]? = some b := by rw [List.getElem?_eq_getElem hj, ej]
    obtain ⟨a, ha⟩ : ∃ a, ad.rs[j]? = some a := ⟨_, List.getElem?_eq_getElem (by omega)⟩
    have hv := kvS_get w.nodup ej' ha
    have hk : (((st.rowAt b).map oV).length : Int) = ((st.rowAt b).length : Int) := by rw [List.length_map]
    have hrow : Has (HeapIs A.Heap p ad st :: R) a (.lst ((st.rowAt b).map oV)) := heap_row ha ej'
    tm_at "go"
    refine ex_f ?_
    tm_at "go"
    rw [hk]
    refine ex_not (fun c => ?_) fun c => ?_
    · exact s_raise he (q2 b e c)
    · tm_at "go"
      exact q3 b j a e c ej' ha
end
/-! The heap's methods, walked: deeds and what is told. -/
def N_mark : List Str := ["heap", "box"]
def t_mark (K : PySem.W.Frag) (A : Ex) (E : XK) : TS :=
    (tIfS (tAnd (tTest (tOp rNotNo (tVar 1) (tC .non))) (tAnd (tTest (tOp rLtI (tVar 1) (tFld K (tVar 0) "begun"))) (tB (tDNotIn (tVar 1) (tFld K (tVar 0) "seen"))))) (tSeq (sDPut (tFld K (tVar 0) "seen") (tVar 1) (tC (.bl true)))
    (tDrop (tBM K "list" rAppend (tFld K (tVar 0) "row") (tCons (tVar 1) tNil)))) tNext)
def N_make : List Str := ["self", "hand", "slots", "box", "k"]
def t_make (K : PySem.W.Frag) (A : Ex) (E : XK) : TS :=
    (tSeq (tDrop (tMeth A.Heap "need_hand" (lift (P_need_hand K A)) [] E (tVar 0) (tCons (tVar 1) tNil)))
    (tSeq (tIfS (tNot (tTest (tChain rLeI rLeI (tC (.int 0)) (tVar 2) (tC (.int 4))))) (tRaiseC A.NoSlot E) tNext)
    (tSeq (tIfS (tTest (tOp rGeI (tCB rLenD (tCons (tFld K (tVar 0) "slots") tNil)) (tFld K (tVar 0) "room"))) (tRaiseC A.NoRoom E) tNext)
    (tSeq (tAsg (tFld K (tVar 0) "made") (gName 3))
    (tSeq (sFld K (tVar 0) (tOp rAddI (tVar 3) (tC (.int 1))) "made")
    (tSeq (sDPut (tFld K (tVar 0) "slots") (tVar 3) (tLc (iRng1 (tCons (tVar 2) tNil)) (gName 4) tYes (tC .non) [4]))
    (tSeq (tAsg (tVar 3) (gSub (tFld K (tVar 0) "hands") (tVar 1) rSetL))
    (tRet (tVar 3)))))))))
def N_take : List Str := ["self", "hand", "other", "slot", "row"]
def t_take (K : PySem.W.Frag) (A : Ex) (E : XK) : TS :=
    (tSeq (tDrop (tMeth A.Heap "need_hand" (lift (P_need_hand K A)) [] E (tVar 0) (tCons (tVar 1) tNil)))
    (tSeq (tDrop (tMeth A.Heap "need_hand" (lift (P_need_hand K A)) [] E (tVar 0) (tCons (tVar 2) tNil)))
    (tSeq (tAsg (tMeth A.Heap "row_of" (lift (P_row_of K A)) [] E (tVar 0) (tCons (tVar 2) (tCons (tVar 3) tNil))) (gName 4))
    (tAsg (tOp (rIxL K) (tVar 4) (tVar 3)) (gSub (tFld K (tVar 0) "hands") (tVar 1) rSetL)))))
def N_put : List Str := ["self", "hand", "slot", "other", "row"]
def t_put (K : PySem.W.Frag) (A : Ex) (E : XK) : TS :=
    (tSeq (tDrop (tMeth A.Heap "need_hand" (lift (P_need_hand K A)) [] E (tVar 0) (tCons (tVar 1) tNil)))
    (tSeq (tDrop (tMeth A.Heap "need_hand" (lift (P_need_hand K A)) [] E (tVar 0) (tCons (tVar 3) tNil)))
    (tSeq (tAsg (tMeth A.Heap "row_of" (lift (P_row_of K A)) [] E (tVar 0) (tCons (tVar 1) (tCons (tVar 2) tNil))) (gName 4))
    (tSeq (tIfS (tTest (tOp rEq (tFld K (tVar 0) "stage") (tC (.str "marking")))) (tDrop (tCall (lift (P_mark K A)) [] E0 (tCons (tVar 0) (tCons (tOp (rIxL K) (tVar 4) (tVar 2)) tNil)))) tNext)
    (tAsg (tOp (rIxL K) (tFld K (tVar 0) "hands") (tVar 3)) (gSub (tVar 4) (tVar 2) rSetL))))))
def N_share : List Str := ["self", "hand", "other"]
def t_share (K : PySem.W.Frag) (A : Ex) (E : XK) : TS :=
    (tSeq (tDrop (tMeth A.Heap "need_hand" (lift (P_need_hand K A)) [] E (tVar 0) (tCons (tVar 1) tNil)))
    (tSeq (tDrop (tMeth A.Heap "need_hand" (lift (P_need_hand K A)) [] E (tVar 0) (tCons (tVar 2) tNil)))
    (tAsg (tOp (rIxL K) (tFld K (tVar 0) "hands") (tVar 2)) (gSub (tFld K (tVar 0) "hands") (tVar 1) rSetL))))
def N_drop : List Str := ["self", "hand"]
def t_drop (K : PySem.W.Frag) (A : Ex) (E : XK) : TS :=
    (tSeq (tDrop (tMeth A.Heap "need_hand" (lift (P_need_hand K A)) [] E (tVar 0) (tCons (tVar 1) tNil)))
    (tAsg (tC .non) (gSub (tFld K (tVar 0) "hands") (tVar 1) rSetL)))
def N_boxes : List Str := ["self"]
def t_boxes (K : PySem.W.Frag) (A : Ex) (E : XK) : TS :=
    (tRet (tCB (rSortedI K) (tCons (tCB rListD (tCons (tFld K (tVar 0) "slots") tNil)) tNil)))
def N_phase : List Str := ["self"]
def t_phase (K : PySem.W.Frag) (A : Ex) (E : XK) : TS :=
    (tRet (tFld K (tVar 0) "stage"))
def N_marked : List Str := ["self"]
def t_marked (K : PySem.W.Frag) (A : Ex) (E : XK) : TS :=
    (tRet (tCB (rSortedI K) (tCons (tCB rListD (tCons (tFld K (tVar 0) "seen") tNil)) tNil)))
def N_waiting : List Str := ["self"]
def t_waiting (K : PySem.W.Frag) (A : Ex) (E : XK) : TS :=
    (tRet (tSl (rSlL K) (tFld K (tVar 0) "row") (tPart (tFld K (tVar 0) "looked")) tNoPart))
def N_rounds : List Str := ["self"]
def t_rounds (K : PySem.W.Frag) (A : Ex) (E : XK) : TS :=
    (tRet (tFld K (tVar 0) "ended"))
def N_held : List Str := ["self", "hand"]
def t_held (K : PySem.W.Frag) (A : Ex) (E : XK) : TS :=
    (tSeq (tDrop (tMeth A.Heap "need_hand" (lift (P_need_hand K A)) [] E (tVar 0) (tCons (tVar 1) tNil)))
    (tRet (tOp (rIxL K) (tFld K (tVar 0) "hands") (tVar 1))))
def N_look : List Str := ["self", "box"]
def t_look (K : PySem.W.Frag) (A : Ex) (E : XK) : TS :=
    (tSeq (tIfS (tB (tDNotIn (tVar 1) (tFld K (tVar 0) "slots"))) (tRaiseC A.NoBox E) tNext)
    (tRet (tCB (rListOf K) (tCons (tDGet (tFld K (tVar 0) "slots") (tVar 1)) tNil))))
section
variable {K : PySem.W.Frag} {A : Ex} {E : XK} {vs : List V} {L : AL} {Q : V → AL → Prop} {Ea : Value → AL → Prop}
theorem do_need_hand {R : AL} {p : Addr} {ad : HAd} {st : HS} {i : Int} (q1 : isHand st i → Q .non (HeapIs A.Heap p ad st :: R)) (q2 : ¬ isHand st i → Ea (.ref A.NoHand) (HeapIs A.Heap p ad st :: R)) : ∃ L2, Ent (HeapIs A.Heap p ad st :: R) L2 ∧ P_need_hand K A [.ref p, .int i] L2 Q Ea :=
  ⟨_, Ent.refl _, _, _, rfl, p, ad, st, R, i, rfl, rfl, rfl, q1, q2⟩
theorem do_row_of {R : AL} {p : Addr} {ad : HAd} {st : HS} {i k : Int} (w : HW st) (hi : isHand st i) (hb : ∀ b, st.at_ i = some b → b ∈ st.there) (q1 : st.at_ i = none → Ea (.ref A.NothingHeld) (HeapIs A.Heap p ad st :: R)) (q2 : ∀ b, st.at_ i = some b → ¬ isSlot st b k → Ea (.ref A.NoSlot) (HeapIs A.Heap p ad st :: R))
    (q3 : ∀ (b j : Nat) (a : Addr), st.at_ i = some b → isSlot st b k → st.there[j]? = some b → ad.rs[j]? = some a → Q (.ref a) (HeapIs A.Heap p ad st :: R)) : ∃ L2, Ent (HeapIs A.Heap p ad st :: R) L2 ∧ P_row_of K A [.ref p, .int i, .int k] L2 Q Ea :=
  ⟨_, Ent.refl _, _, _, _, rfl, p, ad, st, R, i, k, rfl, rfl, rfl, rfl, w, hi, hb, q1, q2, q3⟩
theorem p_mark (T : HT K A) (he : ELe Ea E) (h : P_mark K A vs L Q Ea) : SS (t_mark K A E) { nx := fun _ L => Q .non L, rt := Q } (start N_mark vs) L := by
  obtain ⟨_, _, rfl, p, ad, st, R, o, rfl, rfl, rfl, w, q⟩ := h
  unfold t_mark
  have hs := w.seenl
  have hb := w.big
  cases o with
  | none =>
    tm_at "go"
    refine ⟨_, rfl, both_f (both_f ?_)⟩
    tm_at "go"
    exact q
  | some b =>
    tm_at "go"
    refine ⟨_, rfl, both_t ?_⟩
    tm_at "go"
    refine ex_c (fun c1 => ?_) fun c1 => ?_
    · have c1' : b < st.begun := by omega
      tm_at "go"
      refine ex_n (fun c2 => ?_) fun c2 => ?_
      · have e : st.mark (some b) = { st with seen := st.seen ++ [b] } := by unfold HS.mark; simp only; rw [if_pos ⟨c1', c2⟩]
        rw [e] at q
        refine s_post ?_
        refine s_open fun hl => ?_
        tm_at "go"
        refine ⟨_, _, _, _, rfl, rfl, by tm_at "hs", small5 (by rw [kvT_len]; omega), by tm_at "wr", ?_⟩
        tm_at "go"
        refine r_append (by tm_at "hs") (small5 (by rw [List.length_map]; omega)) (by tm_at "wr") ?_
        refine ⟨_, ?_, q⟩
        rw [kvT_put c2]
        refine Ent.trans ?_ (ent_close (ad := ad) (st := { st with seen := st.seen ++ [b] }) hl)
        show Ent _ (_ :: _ :: _ :: _ :: _ :: pt ad.r (.lst ((st.seen ++ [b]).map nV)) :: _)
        rw [List.map_append]
        exact Ent.refl _
      · have e : st.mark (some b) = st := by unfold HS.mark; simp only; rw [if_neg (fun z => z.2 c2)]
        rw [e] at q
        tm_at "go"
        exact q
    · have e : st.mark (some b) = st := by unfold HS.mark; simp only; rw [if_neg (fun z => c1 (by omega))]
      rw [e] at q
      refine both_f ?_
      tm_at "go"
      exact q
theorem p_phase (T : HT K A) (he : ELe Ea E) (h : P_phase K A vs L Q Ea) : SS (t_phase K A E) { nx := fun _ L => Q .non L, rt := Q } (start N_phase vs) L := by
  obtain ⟨_, rfl, p, ad, st, R, rfl, rfl, q⟩ := h
  unfold t_phase
  tm_at "go"
  exact q
theorem p_rounds (T : HT K A) (he : ELe Ea E) (h : P_rounds K A vs L Q Ea) : SS (t_rounds K A E) { nx := fun _ L => Q .non L, rt := Q } (start N_rounds vs) L := by
  obtain ⟨_, rfl, p, ad, st, R, rfl, rfl, q⟩ := h
  unfold t_rounds
  tm_at "go"
  exact q
theorem p_waiting (T : HT K A) (he : ELe Ea E) (h : P_waiting K A vs L Q Ea) : SS (t_waiting K A E) { nx := fun _ L => Q .non L, rt := Q } (start N_waiting vs) L := by
  obtain ⟨_, rfl, p, ad, st, R, rfl, rfl, q⟩ := h
  unfold t_waiting
  tm_at "go"
  refine ⟨_, rfl, ?_⟩
  tm_at "go"
  refine r_slL (Has.sq heap_r) fun d => ?_
  rw [cut_from, ← List.map_drop]
  exact q d
theorem p_marked (T : HT K A) (he : ELe Ea E) (h : P_marked K A vs L Q Ea) : SS (t_marked K A E) { nx := fun _ L => Q .non L, rt := Q } (start N_marked vs) L := by
  obtain ⟨_, rfl, p, ad, st, R, S, rfl, rfl, hp, hs, q⟩ := h
  unfold t_marked
  have e : (kvT st.seen).map (fun kv => kV kv.1) = st.seen.map nV := by unfold kvT; rw [List.map_map]; rfl
  refine s_postR ?_
  tm_at "go"
  intro l
  rw [e]
  tm_at "go"
  exact c_sortedN (Has.sq has_hd) hp hs fun d => ⟨_, Ent.cons Ent.drop, q d⟩
theorem p_boxes (T : HT K A) (he : ELe Ea E) (h : P_boxes K A vs L Q Ea) : SS (t_boxes K A E) { nx := fun _ L => Q .non L, rt := Q } (start N_boxes vs) L := by
  obtain ⟨_, rfl, p, ad, st, R, rfl, rfl, w, q⟩ := h
  unfold t_boxes
  refine s_postR ?_
  refine e_use (fun H s => heap_len s) fun hl => ?_
  have e := kvS_keys hl
  tm_at "go"
  intro l
  rw [e]
  tm_at "go"
  exact c_sortedN (Has.sq has_hd) (List.Perm.refl _) (w.nd.imp fun h => Nat.le_of_lt h) fun d => ⟨_, Ent.cons Ent.drop, q d⟩
theorem p_held (T : HT K A) (he : ELe Ea E) (h : P_held K A vs L Q Ea) : SS (t_held K A E) { nx := fun _ L => Q .non L, rt := Q } (start N_held vs) L := by
  obtain ⟨_, _, rfl, p, ad, st, R, i, rfl, rfl, rfl, q1, q2⟩ := h
  unfold t_held
  tm_at "go"
  refine do_need_hand (fun hi => ?_) q1
  tm_at "go"
  exact r_ixL (Has.sq heap_h) (at_get hi) (q2 hi)
theorem p_drop (T : HT K A) (he : ELe Ea E) (h : P_drop K A vs L Q Ea) : SS (t_drop K A E) { nx := fun _ L => Q .non L, rt := Q } (start N_drop vs) L := by
  obtain ⟨_, _, rfl, p, ad, st, R, i, rfl, rfl, rfl, q1, q2⟩ := h
  unfold t_drop
  tm_at "go"
  refine do_need_hand (fun hi => ?_) q1
  tm_at "go"
  refine r_setL heap_h (ixN_toNat hi.1 (by rw [List.length_map]; exact hi.2)) ?_ (q2 hi)
  rw [show (st.hands.map oV).set i.toNat .non = (st.hands.set i.toNat none).map oV by rw [List.map_set]]
  exact heap_wr_hands
theorem p_share (T : HT K A) (he : ELe Ea E) (h : P_share K A vs L Q Ea) : SS (t_share K A E) { nx := fun _ L => Q .non L, rt := Q } (start N_share vs) L := by
  obtain ⟨_, _, _, rfl, p, ad, st, R, i, j, rfl, rfl, rfl, rfl, q1, q2⟩ := h
  unfold t_share
  tm_at "go"
  refine do_need_hand (fun hi => ?_) (fun n => q1 fun z => n z.1)
  tm_at "go"
  refine do_need_hand (fun hj => ?_) (fun n => q1 fun z => n z.2)
  tm_at "go"
  refine r_ixL (Has.sq heap_h) (at_get hj) ?_
  tm_at "go"
  refine r_setL heap_h (ixN_toNat hi.1 (by rw [List.length_map]; exact hi.2)) ?_ (q2 hi hj)
  rw [show (st.hands.map oV).set i.toNat (oV (st.at_ j)) = (st.hands.set i.toNat (st.at_ j)).map oV by rw [List.map_set]]
  exact heap_wr_hands
end
/-! The heap's deeds, walked: make, take, put, look. -/
section
variable {K : PySem.W.Frag} {A : Ex} {E : XK} {vs : List V} {L : AL} {Q : V → AL → Prop} {Ea : Value → AL → Prop}
theorem HS.rowAt_app {st : HS} {b : Nat} {r : List (Option Nat)} {hs : List (Option Nat)} {th : List Nat} (h : b < st.rows.length) : ({ st with there := th, rows := st.rows ++ [r], hands := hs } : HS).rowAt b = st.rowAt b := by
  unfold HS.rowAt
  rw [List.getD_eq_getElem?_getD, List.getD_eq_getElem?_getD, List.getElem?_append_left h]
theorem make_rows {st : HS} {i n : Nat} (w : HW st) : (st.make i n).there.map (st.make i n).rowAt = st.there.map st.rowAt ++ [List.replicate n none] := by
  show (st.there ++ [st.rows.length]).map (st.make i n).rowAt = _
  rw [List.map_append]
  congr 1
  · exact List.map_congr_left fun b hb => HS.rowAt_app (w.lt b hb)
  · show [(st.rows ++ [List.replicate n none]).getD st.rows.length []] = _
    rw [List.getD_eq_getElem?_getD, List.getElem?_append_right (Nat.le_refl _), Nat.sub_self]
    rfl
theorem nones (n : Nat) : (((List.range n).filter fun _ => true).map fun _ => V.non) = (List.replicate n (none : Option Nat)).map oV := by
  rw [List.filter_eq_self.mpr (fun _ _ => rfl), List.map_replicate]
  refine List.eq_replicate_iff.mpr ⟨by rw [List.length_map, List.length_range], fun x hx => ?_⟩
  obtain ⟨_, _, e⟩ := List.mem_map.mp hx
  exact e.symm
/-- what is left, in either way, may be told by a weaker list -/
theorem s_postB {t : TS} {D : EA} {σ : L2.St} {L : AL} (h : SS t { D with nx := fun σ L1 => ∃ L2, Ent L1 L2 ∧ D.nx σ L2, rt := fun v L1 => ∃ L2, Ent L1 L2 ∧ D.rt v L2 } σ L) : SS t D σ L := fun H s E le =>
  h H s E ⟨fun σ L1 H1 s1 ⟨L2, e, q⟩ => le.nx σ L2 H1 (e H1 s1) q, fun v L1 H1 s1 ⟨L2, e, q⟩ => le.rt v L2 H1 (e H1 s1) q, le.bk, le.ct⟩
theorem p_make (T : HT K A) (he : ELe Ea E) (h : P_make K A vs L Q Ea) : SS (t_make K A E) { nx := fun _ L => Q .non L, rt := Q } (start N_make vs) L := by
  obtain ⟨_, _, _, rfl, p, ad, st, R, i, k, rfl, rfl, rfl, rfl, w, q1, q2, q3, q4⟩ := h
  unfold t_make
  refine s_use (fun H s => heap_len s) fun hl => ?_
  have hk := kvS_len (bs := st.there) (as := ad.rs) hl
  have htl := w.tl
  have hbig := w.big
  refine s_postB ?_
  tm_at "go"
  refine do_need_hand (fun hi => ?_) fun n => q1 n
  tm_at "go"
  refine ex_not (fun c => s_raise he (q2 hi c)) fun c => ?_
  tm_at "go"
  refine ex_c (fun c2 => s_raise he (q3 hi c (by omega))) fun c2 => ?_
  have q := q4 hi c (by omega)
  have hkn : k = ((k.toNat : Nat) : Int) := by omega
  generalize k.toNat = n at *
  subst hkn
  refine s_next ?_
  refine s_open fun _ => ?_
  tm_at "go"
  refine e_lcPlainR n (fun _ => true) (fun _ => .non) (by omega) (fun _ => rfl) (by tm_at "go"; exact ⟨rfl, rfl⟩) (fun i hi L' en => t_yes ⟨rfl, rfl⟩) (fun i hi _ L' en => e_c ⟨rfl, rfl⟩) fun a => ?_
  rw [nones]
  tm_at "go"
  refine ⟨_, _, _, _, rfl, rfl, by tm_at "hs", small5 (by rw [hk]; omega), by tm_at "wr", ?_⟩
  tm_at "go"
  refine r_setL (by tm_at "hs") (ixN_toNat hi.1 (by rw [List.length_map]; exact hi.2)) (by tm_at "wr") ?_
  tm_at "go"
  have hnone : valV (kvS st.there ad.rs) (Sum.inl (st.rows.length : Int)) = none := kvS_none fun b hb z => by have := w.lt b hb; omega
  rw [putK_new _ hnone, kvS_snoc hl, show (st.hands.map oV).set i.toNat (nV st.rows.length) = (st.hands.set i.toNat (some st.rows.length)).map oV by rw [List.map_set]]
  refine ⟨_, ?_, q { ad with rs := ad.rs ++ [a] }⟩
  refine Ent.trans ?_ (ent_close (ad := { ad with rs := ad.rs ++ [a] }) (st := st.make i.toNat n) (by show (ad.rs ++ [a]).length = (st.there ++ [st.rows.length]).length; rw [List.length_append, List.length_append, hl]; rfl))
  rw [make_rows w]
  have hv : hVals { ad with rs := ad.rs ++ [a] } (st.make i.toNat n) = (hVals ad st).set 3 (.int ((st.rows.length : Int) + 1)) := by
    unfold hVals HS.make
    simp
  rw [hv]
  refine Ent.trans (ent_put 6 (by simp)) ?_
  exact Ent.cons (Ent.cons (Ent.cons (Ent.cons (Ent.cons (Ent.cons (ent_snoc (f := fL) (by rw [List.length_map]; exact hl)))))))
theorem p_take (T : HT K A) (he : ELe Ea E) (h : P_take K A vs L Q Ea) : SS (t_take K A E) { nx := fun _ L => Q .non L, rt := Q } (start N_take vs) L := by
  obtain ⟨_, _, _, _, rfl, p, ad, st, R, i, j, k, rfl, rfl, rfl, rfl, rfl, w, hb, q1, q2, q3, q4⟩ := h
  unfold t_take
  tm_at "go"
  refine do_need_hand (fun hi => ?_) fun n => q1 fun z => n z.1
  tm_at "go"
  refine do_need_hand (fun hj => ?_) fun n => q1 fun z => n z.2
  tm_at "go"
  refine do_row_of w hj hb (fun e => q2 hi hj e) (fun b e n => q3 b hi hj e n) fun b m a e hs ht ha => ?_
  tm_at "go"
  have hg : atI ((st.rowAt b).map oV) k = some (oV ((st.rowAt b).getD k.toNat none)) := by
    have h2 : k.toNat < (st.rowAt b).length := by have := hs.1; have := hs.2; omega
    refine atI_toNat hs.1 ?_
    rw [List.getElem?_map, List.getD_eq_getElem?_getD, List.getElem?_eq_getElem h2]
    rfl
  refine r_ixL (Has.sq (heap_row ha ht)) hg ?_
  tm_at "go"
  refine r_setL heap_h (ixN_toNat hi.1 (by rw [List.length_map]; exact hi.2)) ?_ (q4 b hi hj e hs)
  rw [show (st.hands.map oV).set i.toNat (oV ((st.rowAt b).getD k.toNat none)) = (st.hands.set i.toNat ((st.rowAt b).getD k.toNat none)).map oV by rw [List.map_set]]
  exact heap_wr_hands
theorem HS.mark_hands (st : HS) (o : Option Nat) : (st.mark o).hands = st.hands := by
  unfold HS.mark
  cases o with
  | none => rfl
  | some b => simp only; split <;> rfl
theorem HS.mark_rows (st : HS) (o : Option Nat) : (st.mark o).rows = st.rows := by
  unfold HS.mark
  cases o with
  | none => rfl
  | some b => simp only; split <;> rfl
theorem HS.mark_there (st : HS) (o : Option Nat) : (st.mark o).there = st.there := by
  unfold HS.mark
  cases o with
  | none => rfl
  | some b => simp only; split <;> rfl
theorem HW.mark {st : HS} (w : HW st) (o : Option Nat) : HW (st.mark o) := by
  unfold HS.mark
  cases o with
  | none => exact w
  | some b =>
    simp only
    split
    · rename_i c
      refine ⟨w.nd, w.lt, w.hands, w.big, w.rl, nd_app w.sn c.2, fun x hx => ?_, w.bg⟩
      rcases List.mem_append.mp hx with h | h
      · exact w.sl x h
      · rw [List.mem_singleton.mp h]; exact c.1
    · exact w
/-- a slot is stored -/
theorem heap_wr_slot {C p : Addr} {ad : HAd} {st : HS} {R : AL} {b j k : Nat} {a : Addr} {o : Option Nat} (w : HW st) (h1 : ad.rs[j]? = some a) (h2 : st.there[j]? = some b) :
    Wr (HeapIs C p ad st :: R) a (.lst (((st.rowAt b).map oV).set k (oV o))) (HeapIs C p ad (st.setSlot b k o) :: R) := by
  have e : st.there.map (st.setSlot b k o).rowAt = (st.there.map st.rowAt).set j ((st.rowAt b).set k o) := by
    refine List.ext_getElem? fun m => ?_
    rw [List.getElem?_map, List.getElem?_set, List.length_map]
    have hj : j < st.there.length := (List.getElem?_eq_some_iff.mp h2).1
    by_cases c : j = m
    · subst c
      rw [if_pos rfl, if_pos hj, h2]
      show some (((st.rows.set b ((st.rowAt b).set k o)).getD b [])) = _
      have hb : b < st.rows.length := w.lt b (List.mem_of_getElem? h2)
      rw [List.getD_eq_getElem?_getD, List.getElem?_set_self hb]
      rfl
    · rw [if_neg c, List.getElem?_map]
      cases e2 : st.there[m]? with
      | none => rfl
      | some x =>
        show some (((st.rows.set b ((st.rowAt b).set k o)).getD x [])) = some (st.rowAt x)
        have hne : b ≠ x := by
          rintro rfl
          have hm : m < st.there.length := (List.getElem?_eq_some_iff.mp e2).1
          have e3 := (List.getElem?_eq_some_iff.mp h2).2
          have e4 := (List.getElem?_eq_some_iff.mp e2).2
          exact c ((List.getElem_inj w.nodup).mp (e3.trans e4.symm))
        show some _ = some (st.rows.getD x [])
        rw [List.getD_eq_getElem?_getD, List.getD_eq_getElem?_getD, List.getElem?_set_ne hne]
  have hs : Wr (HeapIs C p ad st :: R) a (.lst (((st.rowAt b).set k o).map oV)) (HeapIs C p ad (st.setSlot b k o) :: R) := by
    unfold HeapIs
    refine wr_star ?_
    have hv : hVals ad (st.setSlot b k o) = hVals ad st := by
      unfold hVals HS.setSlot
      simp
    rw [hv, show (st.setSlot b k o).there = st.there from rfl, e]
    exact wr_tl (wr_tl (wr_tl (wr_tl (wr_tl (wr_tl (wr_tl (zc_wr (f := fL) h1 (map_at st.rowAt h2))))))))
  rw [List.map_set] at hs
  exact hs
theorem HS.rowAt_mark (st : HS) (o : Option Nat) (b : Nat) : (st.mark o).rowAt b = st.rowAt b := by unfold HS.rowAt; rw [HS.mark_rows]
theorem stg_inj {s t : Stg} (h : V.str s.str = V.str t.str) : s = t := by
  cases s <;> cases t <;> first | rfl | exact absurd h (by decide)
theorem p_put (T : HT K A) (he : ELe Ea E) (h : P_put K A vs L Q Ea) : SS (t_put K A E) { nx := fun _ L => Q .non L, rt := Q } (start N_put vs) L := by
  obtain ⟨_, _, _, _, rfl, p, ad, st, R, i, k, j, rfl, rfl, rfl, rfl, rfl, w, hb, q1, q2, q3, q4⟩ := h
  unfold t_put
  tm_at "go"
  refine do_need_hand (fun hi => ?_) fun n => q1 fun z => n z.1
  tm_at "go"
  refine do_need_hand (fun hj => ?_) fun n => q1 fun z => n z.2
  tm_at "go"
  refine do_row_of w hi hb (fun e => q2 hi hj e) (fun b e n => q3 b hi hj e n) fun b m a e hs ht ha => ?_
  have q := q4 b hi hj e hs
  have hg : atI ((st.rowAt b).map oV) k = some (oV ((st.rowAt b).getD k.toNat none)) := by
    have h2 : k.toNat < (st.rowAt b).length := by have := hs.1; have := hs.2; omega
    refine atI_toNat hs.1 ?_
    rw [List.getElem?_map, List.getD_eq_getElem?_getD, List.getElem?_eq_getElem h2]
    rfl
  have fin : ∀ st' : HS, HW st' → st'.hands = st.hands → st'.there = st.there → st'.rowAt b = st.rowAt b → Q .non (HeapIs A.Heap p ad (st'.setSlot b k.toNat (st.at_ j)) :: R) → SS (tAsg (tOp (rIxL K) (tFld K (tVar 0) "hands") (tVar 3)) (gSub (tVar 4) (tVar 2) rSetL)) { nx := fun _ L => Q .non L, rt := Q } [some (.ref p), some (.int i), some (.int k), some (.int j), some (.ref a)] (HeapIs A.Heap p ad st' :: R) := fun st' w' e1 e2 e3 q => by
    tm_at "go"
    have hg2 : atI (st'.hands.map oV) j = some (oV (st.at_ j)) := by rw [e1]; exact at_get hj
    refine r_ixL (Has.sq heap_h) hg2 ?_
    tm_at "go"
    have ht' : st'.there[m]? = some b := by rw [e2]; exact ht
    refine r_setL (heap_row ha ht') (ixN_toNat hs.1 (by rw [List.length_map, e3]; exact hs.2)) (heap_wr_slot w' ha ht') q
  tm_at "go"
  refine ex_c (fun c => ?_) fun c => ?_
  · have c' : st.stage = .marking := stg_inj c
    unfold HS.put at q
    rw [if_pos c'] at q
    tm_at "go"
    refine r_ixL (Has.sq (heap_row ha ht)) hg ?_
    tm_at "go"
    exact do_mark (Ent.refl _) w (fin _ (w.mark _) (HS.mark_hands _ _) (HS.mark_there _ _) (HS.rowAt_mark _ _ _) q)
  · have c' : ¬ st.stage = .marking := fun z => c (by rw [z]; rfl)
    unfold HS.put at q
    rw [if_neg c'] at q
    refine s_next ?_
    exact fin st w rfl rfl rfl q
theorem p_look (T : HT K A) (he : ELe Ea E) (h : P_look K A vs L Q Ea) : SS (t_look K A E) { nx := fun _ L => Q .non L, rt := Q } (start N_look vs) L := by
  obtain ⟨_, _, rfl, p, ad, st, R, b, rfl, rfl, rfl, w, q1, q2⟩ := h
  unfold t_look
  refine s_use (fun H s => heap_len s) fun hl => ?_
  tm_at "gn"
  by_cases c : ∃ c : Nat, b = (c : Int) ∧ c ∈ st.there
  · obtain ⟨c, rfl, hc⟩ := c
    obtain ⟨j, hj, ej⟩ := List.getElem_of_mem hc
    have ej' : st.there[j]? = some c := by rw [List.getElem?_eq_getElem hj, ej]
    obtain ⟨a, ha⟩ : ∃ a, ad.rs[j]? = some a := ⟨_, List.getElem?_eq_getElem (by omega)⟩
    have hv := kvS_get w.nodup ej' ha
    have hd : (valV (kvS st.there ad.rs) (Sum.inl (c : Int))).isSome = true := by rw [hv]; rfl
    have hrow : Has (HeapIs A.Heap p ad st :: R) a (.lst ((st.rowAt c).map oV)) := heap_row ha ej'
    tm_at "go"
    rw [hd]
    refine ex_f ?_
    tm_at "go"
    refine c_list (Has.sq hrow) fun d => ?_
    exact q2 c rfl hc d
  · have hn := kvS_none (bs := st.there) (as := ad.rs) (n := b) fun x hx z => c ⟨x, z.symm, hx⟩
    tm_at "go"
    rw [hn]
    refine ex_t ?_
    exact s_raise he (q1 fun x hx z => c ⟨x, z.symm, hx⟩)
end
/-! The laws' deeds by plain rows. -/
inductive Deed where
  | make (i k : Nat)
  | take (i j k : Nat)
  | put (i k j : Nat)
  | share (i j : Nat)
  | drop (i : Nat)
def Deed.vals : Deed → List V
  | .make i k => [.str "make", nV i, nV k]
  | .take i j k => [.str "take", nV i, nV j, nV k]
  | .put i k j => [.str "put", nV i, nV k, nV j]
  | .share i j => [.str "share", nV i, nV j]
  | .drop i => [.str "drop", nV i]
abbrev Hs := List (Option Nat)
abbrev Rw := List (List (Option Nat))
def boxOf (hs : Hs) (i : Nat) : Nat := (hs.getD i none).getD 0
def rowOf (rw : Rw) (b : Nat) : List (Option Nat) := rw.getD b []
def Deed.hs (hs : Hs) (rw : Rw) : Deed → Hs
  | .make i _ => hs.set i (some rw.length)
  | .take i j k => hs.set i ((rowOf rw (boxOf hs j)).getD k none)
  | .put _ _ _ => hs
  | .share i j => hs.set i (hs.getD j none)
  | .drop i => hs.set i none
def Deed.rw (hs : Hs) (rw : Rw) : Deed → Rw
  | .make _ k => rw ++ [List.replicate k none]
  | .take _ _ _ => rw
  | .put i k j => rw.set (boxOf hs i) ((rowOf rw (boxOf hs i)).set k (hs.getD j none))
  | .share _ _ => rw
  | .drop _ => rw
/-- a hand's box has such a slot -/
def slotOk (hs : Hs) (rw : Rw) (i k : Nat) : Prop := i < hs.length ∧ hs.getD i none = some (boxOf hs i) ∧ boxOf hs i < rw.length ∧ k < (rowOf rw (boxOf hs i)).length
def Deed.ok (hs : Hs) (rw : Rw) : Deed → Prop
  | .make i k => i < hs.length ∧ k ≤ 4
  | .take i j k => i < hs.length ∧ slotOk hs rw j k
  | .put i k j => j < hs.length ∧ slotOk hs rw i k
  | .share i j => i < hs.length ∧ j < hs.length
  | .drop i => i < hs.length
def Deed.Goods : List Deed → Hs → Rw → Prop
  | [], _, _ => True
  | d :: ds, hs, rw => d.ok hs rw ∧ Deed.Goods ds (d.hs hs rw) (d.rw hs rw)
/-- what stands anywhere was made -/
structure PW (hs : Hs) (rw : Rw) : Prop where
  h : ∀ b, some b ∈ hs → b < rw.length
  r : ∀ r ∈ rw, ∀ b, some b ∈ r → b < rw.length
  l : ∀ r ∈ rw, r.length ≤ 4
theorem getD_mem {α : Type} {xs : List α} {i : Nat} {d : α} (h : i < xs.length) : xs.getD i d ∈ xs := by
  rw [List.getD_eq_getElem?_getD, List.getElem?_eq_getElem h]
  exact List.getElem_mem h
theorem PW.at {hs : Hs} {rw : Rw} (w : PW hs rw) {i b : Nat} (e : hs.getD i none = some b) : b < rw.length := by
  by_cases c : i < hs.length
  · exact w.h b (e ▸ getD_mem c)
  · rw [List.getD_eq_getElem?_getD, List.getElem?_eq_none (by omega)] at e; cases e
theorem PW.slot {hs : Hs} {rw : Rw} (w : PW hs rw) {b k c : Nat} (e : (rowOf rw b).getD k none = some c) : c < rw.length := by
  have hb : b < rw.length := by
    apply Decidable.byContradiction
    intro n
    unfold rowOf at e
    rw [List.getD_eq_getElem?_getD (l := rw), List.getElem?_eq_none (by omega)] at e
    cases e
  have hm : rowOf rw b ∈ rw := getD_mem hb
  by_cases hk : k < (rowOf rw b).length
  · exact w.r _ hm c (e ▸ getD_mem hk)
  · rw [List.getD_eq_getElem?_getD, List.getElem?_eq_none (by omega)] at e; cases e
theorem rw_len (hs : Hs) (rw : Rw) (d : Deed) : rw.length ≤ (d.rw hs rw).length := by
  cases d <;> simp [Deed.rw]
theorem hs_len (hs : Hs) (rw : Rw) (d : Deed) : (d.hs hs rw).length = hs.length := by
  cases d <;> simp [Deed.hs]
theorem PW.deed {hs : Hs} {rw : Rw} (w : PW hs rw) {d : Deed} (ok : d.ok hs rw) : PW (d.hs hs rw) (d.rw hs rw) := by
  have hset : ∀ {i : Nat} {o : Option Nat} {n : Nat}, rw.length ≤ n → (∀ b, o = some b → b < n) → ∀ b, some b ∈ hs.set i o → b < n := fun hn ho b hb => by
    rcases List.mem_or_eq_of_mem_set hb with h | h
    · exact Nat.lt_of_lt_of_le (w.h b h) hn
    · exact ho b h.symm
  cases d with
  | make i k =>
    have e : (rw ++ [List.replicate k (none : Option Nat)]).length = rw.length + 1 := by simp
    refine ⟨fun b hb => ?_, fun r hr b hb => ?_, fun r hr => ?_⟩
    · show b < (rw ++ [List.replicate k (none : Option Nat)]).length
      rw [e]
      exact hset (Nat.le_succ _) (fun b h => by cases h; omega) b hb
    · show b < (rw ++ [List.replicate k (none : Option Nat)]).length
      rw [e]
      rcases List.mem_append.mp hr with h | h
      · have := w.r r h b hb; omega
      · rw [List.mem_singleton.mp h] at hb
        have := (List.mem_replicate.mp hb).2
        cases this
    · rcases List.mem_append.mp hr with h | h
      · exact w.l r h
      · rw [List.mem_singleton.mp h, List.length_replicate]; exact ok.2
  | take i j k => exact ⟨hset (Nat.le_refl _) fun b h => w.slot h, w.r, w.l⟩
  | put i k j =>
    have e : (rw.set (boxOf hs i) ((rowOf rw (boxOf hs i)).set k (hs.getD j none))).length = rw.length := by simp
    have hb0 : boxOf hs i < rw.length := ok.2.2.2.1
    refine ⟨fun b hb => ?_, fun r hr b hb => ?_, fun r hr => ?_⟩
    · exact Nat.lt_of_lt_of_eq (w.h b hb) e.symm
    · refine Nat.lt_of_lt_of_eq ?_ e.symm
      rcases List.mem_or_eq_of_mem_set hr with h | h
      · exact w.r r h b hb
      · rw [h] at hb
        rcases List.mem_or_eq_of_mem_set hb with h2 | h2
        · exact w.r _ (getD_mem hb0) b h2
        · exact w.at h2.symm
    · rcases List.mem_or_eq_of_mem_set hr with h | h
      · exact w.l r h
      · rw [h, List.length_set]
        exact w.l _ (getD_mem hb0)
  | share i j => exact ⟨hset (Nat.le_refl _) fun b h => w.at h, w.r, w.l⟩
  | drop i => exact ⟨hset (Nat.le_refl _) fun b h => (by cases h), w.r, w.l⟩
/-! ### a deed at the mirror -/
def HS.deed (st : HS) : Deed → HS
  | .make i k => st.make i k
  | .take i j k => st.take i (boxOf st.hands j) k
  | .put i k j => st.put (boxOf st.hands i) k (st.hands.getD j none)
  | .share i j => st.share i j
  | .drop i => st.drop i
def HS.ret (st : HS) : Deed → V
  | .make _ _ => nV st.rows.length
  | _ => .non
def DeedsA (d : Addr) (as : List Addr) (ds : List Deed) : Asn := Star (pt d (.lst (as.map V.ref)) :: zc (fun d : Deed => .lst d.vals) as ds)
def P_law_mixed_at (K : PySem.W.Frag) (_ : Ex) : Pm := pm2 fun x y L Q _ => ∃ (a : Addr) (ns : List Int) (k : Int), x = .ref a ∧ y = .int k ∧ 0 ≤ k ∧ k < 100000 ∧ SqA K L a (ns.map V.int) ∧ ∀ n : Nat, n < 1000003 → Q (nV n) L
def N_law_mixed_at : List Str := ["_law_script", "_law_k"]
def t_law_mixed_at (K : PySem.W.Frag) (A : Ex) (E : XK) : TS :=
    (tRet (tOp rModI (tOp rAddI (tOp rMulI (tCall (lift (P_law_cell_at K A)) [] E0 (tCons (tVar 0) (tCons (tVar 1) tNil))) (tC (.int 48271))) (tOp rMulI (tC (.int 7919)) (tVar 1))) (tC (.int 1000003))))
def P_law_mixed (K : PySem.W.Frag) (_ : Ex) : Pm := pm2 fun x y L Q _ => ∃ (a : Addr) (ns : List Int) (m : Nat), x = .ref a ∧ y = nV m ∧ ns.length ≤ 63 ∧ SqA K L a (ns.map V.int) ∧ ∀ (d : Addr) (ms : List Nat), ms.length ≤ 63 → ms.length ≤ m → (∀ c ∈ ms, c < 1000003) → Q (.ref d) (pt d (.lst (ms.map nV)) :: L)
def N_law_mixed : List Str := ["_law_script", "_law_most", "_law_k"]
def t_law_mixed (K : PySem.W.Frag) (A : Ex) (E : XK) : TS :=
    (tRet (tLc (iRng2 (tCons (tC (.int 1)) (tCons (tCB rMin2 (tCons (tVar 1) (tCons (tCB (rLen K) (tCons (tVar 0) tNil)) tNil))) tNil))) (gName 2) tYes (tCall (lift (P_law_mixed_at K A)) [] E0 (tCons (tVar 0) (tCons (tVar 2) tNil))) [2]))
def P_law_deeds (K : PySem.W.Frag) (_ : Ex) : Pm := pm3 fun x y z L Q _ => ∃ (h p : Addr) (as : List Addr) (c : Nat) (hs : Hs) (rw : Rw), x = nV c ∧ y = .ref h ∧ z = .ref p ∧ SqA K L h (hs.map oV) ∧ RdRows K L p as rw ∧ 1 ≤ hs.length ∧ hs.length ≤ 8 ∧ PW hs rw ∧
  ∀ (d : Addr) (bs : List Addr) (ds : List Deed), bs.length = ds.length → ds.length ≤ 2 → Deed.Goods ds hs rw → Q (.ref d) (DeedsA d bs ds :: L)
def N_law_deeds : List Str := ["_law_cell", "_law_hands", "_law_rows", "_law_many", "_law_rest", "_law_one", "_law_other", "_law_third", "_law_slot", "_law_box"]
def t_law_deeds (K : PySem.W.Frag) (A : Ex) (E : XK) : TS :=
    (tSeq (tAsg (tCB (rLen K) (tCons (tVar 1) tNil)) (gName 3))
    (tSeq (tAsg (tOp rDivI (tVar 0) (tC (.int 8))) (gName 4))
    (tSeq (tAsg (tOp rModI (tVar 4) (tVar 3)) (gName 5))
    (tSeq (tAsg (tOp rModI (tOp rDivI (tVar 4) (tVar 3)) (tVar 3)) (gName 6))
    (tSeq (tAsg (tOp rModI (tOp rDivI (tOp rDivI (tVar 4) (tVar 3)) (tVar 3)) (tVar 3)) (gName 7))
    (tSeq (tAsg (tOp rDivI (tOp rDivI (tOp rDivI (tVar 4) (tVar 3)) (tVar 3)) (tVar 3)) (gName 8))
    (tSeq (tAsg (tOp (rIxL K) (tVar 1) (tVar 6)) (gName 9))
    (tSeq (tIfS (tAnd (tTest (tOp (rIn K false) (tOp rModI (tVar 0) (tC (.int 8))) (tTup (tCons (tC (.int 1)) (tCons (tC (.int 2)) (tCons (tC (.int 3)) (tCons (tC (.int 4)) (tCons (tC (.int 7)) tNil)))))))) (tAnd (tTest (tOp rNotNo (tVar 9) (tC .non))) (tTest (tOp rGtI (tCB (rLen K) (tCons (tOp (rIxL K) (tVar 2) (tVar 9)) tNil)) (tC (.int 0)))))) (tSeq (tAsg (tOp rModI (tVar 8) (tCB (rLen K) (tCons (tOp (rIxL K) (tVar 2) (tVar 9)) tNil))) (gName 8))
    (tSeq (tIfS (tTest (tOp rEq (tOp rModI (tVar 0) (tC (.int 8))) (tC (.int 2)))) (tRet (tLst (tCons (tLst (tCons (tC (.str "take")) (tCons (tVar 5) (tCons (tVar 6) (tCons (tVar 8) tNil))))) tNil))) tNext)
    (tSeq (tIfS (tAnd (tTest (tOp rEq (tOp rModI (tVar 0) (tC (.int 8))) (tC (.int 7)))) (tTest (tOp rNe (tVar 5) (tVar 6)))) (tRet (tLst (tCons (tLst (tCons (tC (.str "take")) (tCons (tVar 5) (tCons (tVar 6) (tCons (tVar 8) tNil))))) (tCons (tLst (tCons (tC (.str "put")) (tCons (tVar 6) (tCons (tVar 8) (tCons (tVar 7) tNil))))) tNil)))) tNext)
    (tRet (tLst (tCons (tLst (tCons (tC (.str "put")) (tCons (tVar 6) (tCons (tVar 8) (tCons (tVar 5) tNil))))) tNil)))))) tNext)
    (tSeq (tIfS (tTest (tOp rEq (tOp rModI (tVar 0) (tC (.int 8))) (tC (.int 5)))) (tRet (tLst (tCons (tLst (tCons (tC (.str "share")) (tCons (tVar 5) (tCons (tVar 6) tNil)))) tNil))) tNext)
    (tSeq (tIfS (tTest (tOp rEq (tOp rModI (tVar 0) (tC (.int 8))) (tC (.int 6)))) (tRet (tLst (tCons (tLst (tCons (tC (.str "drop")) (tCons (tVar 5) tNil))) tNil))) tNext)
    (tRet (tLst (tCons (tLst (tCons (tC (.str "make")) (tCons (tVar 5) (tCons (tOp (rIxL K) (tLst (tCons (tC (.int 2)) (tCons (tC (.int 4)) (tCons (tC (.int 1)) (tCons (tC (.int 0)) (tCons (tC (.int 3)) (tCons (tC (.int 4)) (tCons (tC (.int 4)) tNil)))))))) (tOp rModI (tVar 8) (tC (.int 7)))) tNil)))) tNil)))))))))))))
section
variable {K : PySem.W.Frag} {A : Ex} {E : XK} {vs : List V} {L : AL} {Q : V → AL → Prop} {Ea : Value → AL → Prop}
theorem do_mixed_at {a : Addr} {ns : List Int} {k : Int} (h0 : 0 ≤ k) (h1 : k < 100000) (hq : SqA K L a (ns.map V.int)) (q : ∀ n : Nat, n < 1000003 → Q (nV n) L) : ∃ L2, Ent L L2 ∧ P_law_mixed_at K A [.ref a, .int k] L2 Q Ea := ⟨L, Ent.refl _, _, _, rfl, a, ns, k, rfl, rfl, h0, h1, hq, q⟩
theorem do_mixed {a : Addr} {ns : List Int} {m : Nat} (hl : ns.length ≤ 63) (hq : SqA K L a (ns.map V.int)) (q : ∀ (d : Addr) (ms : List Nat), ms.length ≤ 63 → ms.length ≤ m → (∀ c ∈ ms, c < 1000003) → Q (.ref d) (pt d (.lst (ms.map nV)) :: L)) : ∃ L2, Ent L L2 ∧ P_law_mixed K A [.ref a, nV m] L2 Q Ea := ⟨L, Ent.refl _, _, _, rfl, a, ns, m, rfl, rfl, hl, hq, q⟩
theorem p_law_mixed_at (he : ELe Ea E) (h : P_law_mixed_at K A vs L Q Ea) : SS (t_law_mixed_at K A E) { nx := fun _ L => Q .non L, rt := Q } (start N_law_mixed_at vs) L := by
  obtain ⟨_, _, rfl, a, ns, k, rfl, rfl, h0, h1, hq, q⟩ := h
  unfold t_law_mixed_at
  tm_at "go"
  refine r_I (.inr ⟨by decide, by decide⟩) ?_
  tm_at "go"
  refine r_I (.inl ⟨by decide, by decide⟩) ?_
  tm_at "go"
  have e1 := Int.emod_nonneg (cell ns k * 48271 + 7919 * k) (show (1000003 : Int) ≠ 0 by decide)
  have e2 := Int.emod_lt_of_pos (cell ns k * 48271 + 7919 * k) (show (0 : Int) < 1000003 by decide)
  have := q ((cell ns k * 48271 + 7919 * k) % 1000003).toNat (by omega)
  rw [nV_toNat e1] at this
  exact this
theorem p_law_mixed (he : ELe Ea E) (h : P_law_mixed K A vs L Q Ea) : SS (t_law_mixed K A E) { nx := fun _ L => Q .non L, rt := Q } (start N_law_mixed vs) L := by
  obtain ⟨_, _, rfl, a, ns, m, rfl, rfl, hl, hq, q⟩ := h
  unfold t_law_mixed
  tm_at "go"
  refine e_lcR2 ?_
  tm_at "go"
  rw [List.length_map]
  have hm : (if (ns.length : Int) < (m : Int) then (ns.length : Int) else (m : Int)) ≤ 63 ∧ (if (ns.length : Int) < (m : Int) then (ns.length : Int) else (m : Int)) ≤ m ∧ 0 ≤ (if (ns.length : Int) < (m : Int) then (ns.length : Int) else (m : Int)) := by split <;> omega
  generalize (if (ns.length : Int) < (m : Int) then (ns.length : Int) else (m : Int)) = u at hm ⊢
  refine ⟨1, u, rfl, ⟨by decide, by decide, by omega, by omega⟩, fun _ => rfl, fun i acc L' => (∃ ms : List Nat, acc = ms.map nV ∧ ms.length = i ∧ ∀ c ∈ ms, c < 1000003) ∧ L' = L, ⟨⟨[], rfl, rfl, fun _ h => nomatch h⟩, rfl⟩, ?_, ?_⟩
  · rintro i acc L' d hi ⟨⟨ms, rfl, hl2, hms⟩, rfl⟩
    refine t_yes ⟨fun _ => ?_, (fun z => nomatch z)⟩
    tm_at "go"
    refine do_mixed_at (by omega) (by omega) (sq_tl hq) fun n hn => ?_
    refine ⟨L', Ent.refl _, small5 (by rw [List.length_map]; omega), ⟨ms ++ [n], by rw [List.map_append]; rfl, by rw [List.length_append, hl2]; rfl, fun c hc => ?_⟩, rfl⟩
    rcases List.mem_append.mp hc with h | h
    · exact hms c h
    · rw [List.mem_singleton.mp h]; exact hn
  · rintro acc L' d ⟨⟨ms, rfl, hl2, hms⟩, rfl⟩
    exact q d ms (by omega) (by omega) hms
end
/-! The laws' deeds: which they are. -/
section
variable {K : PySem.W.Frag} {A : Ex} {E : XK} {vs : List V} {L : AL} {Q : V → AL → Prop} {Ea : Value → AL → Prop}
theorem deeds_one {d a : Addr} {D : Deed} {L M : AL} (e : Ent L M) : Ent (pt d (.lst [.ref a]) :: pt a (.lst D.vals) :: L) (DeedsA d [a] [D] :: M) := (ent_star (Ls := [pt d (.lst [.ref a]), pt a (.lst D.vals)]) (R := L)).trans (Ent.cons e)
theorem deeds_two {d a b : Addr} {D D' : Deed} {L M : AL} (e : Ent L M) : Ent (pt d (.lst [.ref a, .ref b]) :: pt b (.lst D'.vals) :: pt a (.lst D.vals) :: L) (DeedsA d [a, b] [D, D'] :: M) :=
  (Ent.cons ent_swap).trans ((ent_star (Ls := [pt d (.lst [.ref a, .ref b]), pt a (.lst D.vals), pt b (.lst D'.vals)]) (R := L)).trans (Ent.cons e))
theorem p_law_deeds (he : ELe Ea E) (h : P_law_deeds K A vs L Q Ea) : SS (t_law_deeds K A E) { nx := fun _ L => Q .non L, rt := Q } (start N_law_deeds vs) L := by
  obtain ⟨_, _, _, rfl, h, p, as, c, hs, rw, rfl, rfl, rfl, hh, hr, h1, h8, pw, q⟩ := h
  unfold t_law_deeds
  refine s_postB ?_
  have hlen : (hs.map oV).length = hs.length := List.length_map _
  have hH : 0 < (hs.length : Int) ∧ (hs.length : Int) < 1073741824 := by omega
  tm_at "gn"
  rw [hlen]
  tm_at "gn"
  rw [show (c : Int) / 8 / (hs.length : Int) % (hs.length : Int) = ((c / 8 / hs.length % hs.length : Nat) : Int) from rfl, show (c : Int) / 8 % (hs.length : Int) = ((c / 8 % hs.length : Nat) : Int) from rfl, show (c : Int) / 8 / (hs.length : Int) / (hs.length : Int) % (hs.length : Int) = ((c / 8 / hs.length / hs.length % hs.length : Nat) : Int) from rfl, show (c : Int) / 8 / (hs.length : Int) / (hs.length : Int) / (hs.length : Int) = ((c / 8 / hs.length / hs.length / hs.length : Nat) : Int) from rfl]
  have l1 : c / 8 % hs.length < hs.length := Nat.mod_lt _ h1
  have l2 : c / 8 / hs.length % hs.length < hs.length := Nat.mod_lt _ h1
  have l3 : c / 8 / hs.length / hs.length % hs.length < hs.length := Nat.mod_lt _ h1
  generalize c / 8 % hs.length = one at *
  generalize c / 8 / hs.length % hs.length = other at *
  generalize c / 8 / hs.length / hs.length % hs.length = third at *
  generalize c / 8 / hs.length / hs.length / hs.length = slot at *
  have hg : (hs.map oV)[other]? = some (oV (hs.getD other none)) := by
    rw [List.getElem?_map, List.getD_eq_getElem?_getD, List.getElem?_eq_getElem l2]; rfl
  refine r_ixL hh (atI_nat hg) ?_
  tm_at "gn"
  refine s_mid (Mid := fun σ L' => σ = [some (nV c), some (.ref h), some (.ref p), some (nV hs.length), some (.int ((c : Int) / 8)), some (nV one), some (nV other), some (nV third), some (nV slot), some (oV (hs.getD other none))] ∧ L' = L) ?_ ?_
  · tm_at "go"
    refine ⟨by show 5 ≤ sizeLine; decide, fun t => ?_⟩
    refine r_inT (Has.tq has_hd) rfl rfl ?_
    have skip : ∃ L2, Ent (pt t (.tup [.int 1, .int 2, .int 3, .int 4, .int 7]) :: L) L2 ∧ (fun σ L' => σ = [some (nV c), some (.ref h), some (.ref p), some (nV hs.length), some (.int ((c : Int) / 8)), some (nV one), some (nV other), some (nV third), some (nV slot), some (oV (hs.getD other none))] ∧ L' = L) [some (nV c), some (.ref h), some (.ref p), some (nV hs.length), some (.int ((c : Int) / 8)), some (nV one), some (nV other), some (nV third), some (nV slot), some (oV (hs.getD other none))] L2 := ⟨L, Ent.drop, rfl, rfl⟩
    refine ⟨_, rfl, fun _ => ?_, fun _ => both_f (s_next skip)⟩
    cases eb : hs.getD other none with
    | none =>
      rw [eb] at skip
      tm_at "go"
      refine ⟨false, rfl, both_f (both_f (s_next skip))⟩
    | some b =>
      rw [eb] at skip
      have hb : b < rw.length := pw.at eb
      have hbo : boxOf hs other = b := by unfold boxOf; rw [eb]; rfl
      have hba : b < as.length := by rw [hr.len]; exact hb
      have ga : as[b]? = some as[b] := List.getElem?_eq_getElem hba
      have gr : rw[b]? = some (rowOf rw b) := by unfold rowOf; rw [List.getD_eq_getElem?_getD, List.getElem?_eq_getElem hb]; rfl
      have hrow := hr.row b _ _ ga gr
      have hga : (as.map V.ref)[b]? = some (.ref as[b]) := by rw [List.getElem?_map, ga]; rfl
      have hl4 : (rowOf rw b).length ≤ 4 := pw.l _ (List.mem_of_getElem? gr)
      tm_at "go"
      refine ⟨true, rfl, both_t ?_⟩
      tm_at "go"
      refine r_ixL (sq_tl hr.top) (atI_nat hga) ?_
      tm_at "go"
      rw [List.length_map]
      tm_at "go"
      refine ex_c (fun c1 => ?_) fun c1 => s_next skip
      have c1' : 0 < (rowOf rw b).length := by omega
      tm_at "gn"
      refine r_ixL (sq_tl hr.top) (atI_nat hga) ?_
      tm_at "gn"
      rw [List.length_map]
      refine r_I (show (0 : Int) < ((rowOf rw b).length : Int) by omega) ?_
      tm_at "gn"
      rw [show (slot : Int) % ((rowOf rw b).length : Int) = ((slot % (rowOf rw b).length : Nat) : Int) from rfl]
      have l4 : slot % (rowOf rw b).length < (rowOf rw b).length := Nat.mod_lt _ c1'
      generalize slot % (rowOf rw b).length = k at l4 ⊢
      have so : slotOk hs rw other k := ⟨l2, by rw [hbo]; exact eb, by rw [hbo]; exact hb, by rw [hbo]; exact l4⟩
      tm_at "go"
      refine ex_c (fun c2 => ?_) fun c2 => ?_
      · tm_at "go"
        refine ⟨by show 4 ≤ sizeLine; decide, fun a => ?_⟩
        tm_at "go"
        refine ⟨by show 1 ≤ sizeLine; decide, fun d => ?_⟩
        exact ⟨_, deeds_one (D := .take one other k) Ent.drop, q d [a] [.take one other k] rfl (by show 1 ≤ 2; decide) ⟨⟨l1, so⟩, trivial⟩⟩
      tm_at "gn"
      have last : ∀ nx, SS (tRet (tLst (tCons (tLst (tCons (tC (.str "put")) (tCons (tVar 6) (tCons (tVar 8) (tCons (tVar 5) tNil))))) tNil))) { nx := nx, rt := fun v L1 => ∃ L2, Ent L1 L2 ∧ Q v L2 } [some (nV c), some (.ref h), some (.ref p), some (nV hs.length), some (.int ((c : Int) / 8)), some (nV one), some (nV other), some (nV third), some (nV k), some (nV b)] (pt t (.tup [.int 1, .int 2, .int 3, .int 4, .int 7]) :: L) := by
        intro nx
        tm_at "go"
        refine ⟨by show 4 ≤ sizeLine; decide, fun a => ?_⟩
        tm_at "go"
        refine ⟨by show 1 ≤ sizeLine; decide, fun d => ?_⟩
        exact ⟨_, deeds_one (D := .put other k one) Ent.drop, q d [a] [.put other k one] rfl (by show 1 ≤ 2; decide) ⟨⟨l1, so⟩, trivial⟩⟩
      tm_at "go"
      refine ex_c (fun c3 => ?_) fun c3 => both_f ?_
      · tm_at "go"
        refine ex_n (fun c4 => ?_) fun c4 => ?_
        · have hne : one ≠ other := fun z => c4 (by rw [z])
          tm_at "go"
          refine ⟨by show 4 ≤ sizeLine; decide, fun a => ?_⟩
          tm_at "go"
          refine ⟨by show 4 ≤ sizeLine; decide, fun a2 => ?_⟩
          tm_at "go"
          refine ⟨by show 2 ≤ sizeLine; decide, fun d => ?_⟩
          have eo : (hs.set one ((rowOf rw (boxOf hs other)).getD k none)).getD other none = hs.getD other none := by
            rw [List.getD_eq_getElem?_getD, List.getElem?_set_ne hne, ← List.getD_eq_getElem?_getD]
          have ebo : boxOf (hs.set one ((rowOf rw (boxOf hs other)).getD k none)) other = boxOf hs other := by unfold boxOf at eo ⊢; rw [eo]
          exact ⟨_, deeds_two (D := .take one other k) (D' := .put other k third) Ent.drop, q d [a, a2] [.take one other k, .put other k third] rfl (by show 2 ≤ 2; decide) ⟨⟨l1, so⟩, ⟨by show third < (hs.set one _).length; rw [List.length_set]; exact l3, by
            show slotOk (hs.set one ((rowOf rw (boxOf hs other)).getD k none)) rw other k
            refine ⟨by rw [List.length_set]; exact l2, ?_, ?_, ?_⟩
            · rw [eo, ebo]; exact so.2.1
            · rw [ebo]; exact so.2.2.1
            · rw [ebo]; exact so.2.2.2⟩, trivial⟩⟩
        · refine s_next ?_
          exact last _
      · refine s_next ?_
        exact last _
  · rintro σ L' ⟨rfl, rfl⟩
    tm_at "go"
    refine ex_c (fun c2 => ?_) fun c2 => ?_
    · tm_at "go"
      refine ⟨by show 3 ≤ sizeLine; decide, fun a => ?_⟩
      tm_at "go"
      refine ⟨by show 1 ≤ sizeLine; decide, fun d => ?_⟩
      exact ⟨_, deeds_one (D := .share one other) (Ent.refl _), q d [a] [.share one other] rfl (by show 1 ≤ 2; decide) ⟨⟨l1, l2⟩, trivial⟩⟩
    tm_at "go"
    refine ex_c (fun c3 => ?_) fun c3 => ?_
    · tm_at "go"
      refine ⟨by show 2 ≤ sizeLine; decide, fun a => ?_⟩
      tm_at "go"
      refine ⟨by show 1 ≤ sizeLine; decide, fun d => ?_⟩
      exact ⟨_, deeds_one (D := .drop one) (Ent.refl _), q d [a] [.drop one] rfl (by show 1 ≤ 2; decide) ⟨l1, trivial⟩⟩
    tm_at "go"
    refine ⟨by show 7 ≤ sizeLine; decide, fun t => ?_⟩
    tm_at "go"
    have l7 : slot % 7 < 7 := Nat.mod_lt _ (by decide)
    rw [show (slot : Int) % 7 = ((slot % 7 : Nat) : Int) from rfl]
    generalize slot % 7 = s at l7 ⊢
    obtain ⟨k, hk, hk4⟩ : ∃ k : Nat, [V.int 2, .int 4, .int 1, .int 0, .int 3, .int 4, .int 4][s]? = some (nV k) ∧ k ≤ 4 := by
      match s, l7 with
      | 0, _ => exact ⟨2, rfl, by decide⟩
      | 1, _ => exact ⟨4, rfl, by decide⟩
      | 2, _ => exact ⟨1, rfl, by decide⟩
      | 3, _ => exact ⟨0, rfl, by decide⟩
      | 4, _ => exact ⟨3, rfl, by decide⟩
      | 5, _ => exact ⟨4, rfl, by decide⟩
      | 6, _ => exact ⟨4, rfl, by decide⟩
    refine r_ixL (Has.sq has_hd) (atI_nat hk) ?_
    tm_at "go"
    refine ⟨by show 3 ≤ sizeLine; decide, fun a => ?_⟩
    tm_at "go"
    refine ⟨by show 1 ≤ sizeLine; decide, fun d => ?_⟩
    exact ⟨_, deeds_one (D := .make one k) Ent.drop, q d [a] [.make one k] rfl (by show 1 ≤ 2; decide) ⟨⟨l1, hk4⟩, trivial⟩⟩
end
/-! The laws' deeds: done at the plain rows, asked of the heap. -/
def P_law_done (K : PySem.W.Frag) (_ : Ex) : Pm := pm3 fun x y z L Q _ => ∃ (a h p : Addr) (d : Deed) (as : List Addr) (hs : Hs) (rw : Rw) (R : AL), x = .ref a ∧ y = .ref h ∧ z = .ref p ∧ L = pt h (.lst (hs.map oV)) :: RowsA p as rw :: R ∧ SqA K R a d.vals ∧ as.length = rw.length ∧ rw.length ≤ 90000 ∧ d.ok hs rw ∧
  ∀ as', as'.length = (d.rw hs rw).length → Q .non (pt h (.lst ((d.hs hs rw).map oV)) :: RowsA p as' (d.rw hs rw) :: R)
def N_law_done : List Str := ["_law_deed", "_law_hands", "_law_rows", "_law_k"]
def t_law_done (K : PySem.W.Frag) (A : Ex) (E : XK) : TS :=
    (tIfS (tTest (tOp rEq (tOp (rIxL K) (tVar 0) (tC (.int 0))) (tC (.str "make")))) (tSeq (tDrop (tBM K "list" rAppend (tVar 2) (tCons (tLc (iRng1 (tCons (tOp (rIxL K) (tVar 0) (tC (.int 2))) tNil)) (gName 3) tYes (tC .non) [3]) tNil)))
    (tAsg (tOp rSubI (tCB (rLen K) (tCons (tVar 2) tNil)) (tC (.int 1))) (gSub (tVar 1) (tOp (rIxL K) (tVar 0) (tC (.int 1))) rSetL))) (tIfS (tTest (tOp rEq (tOp (rIxL K) (tVar 0) (tC (.int 0))) (tC (.str "take")))) (tAsg (tOp (rIxL K) (tOp (rIxL K) (tVar 2) (tOp (rIxL K) (tVar 1) (tOp (rIxL K) (tVar 0) (tC (.int 2))))) (tOp (rIxL K) (tVar 0) (tC (.int 3)))) (gSub (tVar 1) (tOp (rIxL K) (tVar 0) (tC (.int 1))) rSetL)) (tIfS (tTest (tOp rEq (tOp (rIxL K) (tVar 0) (tC (.int 0))) (tC (.str "put")))) (tAsg (tOp (rIxL K) (tVar 1) (tOp (rIxL K) (tVar 0) (tC (.int 3)))) (gSub (tOp (rIxL K) (tVar 2) (tOp (rIxL K) (tVar 1) (tOp (rIxL K) (tVar 0) (tC (.int 1))))) (tOp (rIxL K) (tVar 0) (tC (.int 2))) rSetL)) (tIfS (tTest (tOp rEq (tOp (rIxL K) (tVar 0) (tC (.int 0))) (tC (.str "share")))) (tAsg (tOp (rIxL K) (tVar 1) (tOp (rIxL K) (tVar 0) (tC (.int 2)))) (gSub (tVar 1) (tOp (rIxL K) (tVar 0) (tC (.int 1))) rSetL)) (tAsg (tC .non) (gSub (tVar 1) (tOp (rIxL K) (tVar 0) (tC (.int 1))) rSetL))))))
def P_law_asked (K : PySem.W.Frag) (A : Ex) : Pm := pm2 fun x y L Q _ => ∃ (p a : Addr) (d : Deed) (ad : HAd) (st : HS) (R : AL), x = .ref p ∧ y = .ref a ∧ L = HeapIs A.Heap p ad st :: R ∧ SqA K R a d.vals ∧ HW st ∧ d.ok st.hands st.rows ∧ (∀ b, some b ∈ st.hands → b ∈ st.there) ∧ st.there.length < st.room ∧
  ∀ ad', Q (st.ret d) (HeapIs A.Heap p ad' (st.deed d) :: R)
def N_law_asked : List Str := ["_law_heap", "_law_deed"]
def t_law_asked (K : PySem.W.Frag) (A : Ex) (E : XK) : TS :=
    (tSeq (tIfS (tTest (tOp rEq (tOp (rIxL K) (tVar 1) (tC (.int 0))) (tC (.str "make")))) (tRet (tMeth A.Heap "make" (lift (P_make K A)) [] E0 (tVar 0) (tCons (tOp (rIxL K) (tVar 1) (tC (.int 1))) (tCons (tOp (rIxL K) (tVar 1) (tC (.int 2))) tNil)))) tNext)
    (tSeq (tIfS (tTest (tOp rEq (tOp (rIxL K) (tVar 1) (tC (.int 0))) (tC (.str "take")))) (tRet (tMeth A.Heap "take" (lift (P_take K A)) [] E0 (tVar 0) (tCons (tOp (rIxL K) (tVar 1) (tC (.int 1))) (tCons (tOp (rIxL K) (tVar 1) (tC (.int 2))) (tCons (tOp (rIxL K) (tVar 1) (tC (.int 3))) tNil))))) tNext)
    (tSeq (tIfS (tTest (tOp rEq (tOp (rIxL K) (tVar 1) (tC (.int 0))) (tC (.str "put")))) (tRet (tMeth A.Heap "put" (lift (P_put K A)) [] E0 (tVar 0) (tCons (tOp (rIxL K) (tVar 1) (tC (.int 1))) (tCons (tOp (rIxL K) (tVar 1) (tC (.int 2))) (tCons (tOp (rIxL K) (tVar 1) (tC (.int 3))) tNil))))) tNext)
    (tSeq (tIfS (tTest (tOp rEq (tOp (rIxL K) (tVar 1) (tC (.int 0))) (tC (.str "share")))) (tRet (tMeth A.Heap "share" (lift (P_share K A)) [] E0 (tVar 0) (tCons (tOp (rIxL K) (tVar 1) (tC (.int 1))) (tCons (tOp (rIxL K) (tVar 1) (tC (.int 2))) tNil)))) tNext)
    (tRet (tMeth A.Heap "drop" (lift (P_drop K A)) [] E0 (tVar 0) (tCons (tOp (rIxL K) (tVar 1) (tC (.int 1))) tNil)))))))
def P_law_cleared (K : PySem.W.Frag) (_ : Ex) : Pm := pm2 fun x y L Q _ => ∃ (a b : Addr) (xs : List (Option Nat)) (R : AL), x = .ref a ∧ y = .ref b ∧ L = pt a (.lst (xs.map oV)) :: R ∧ SqA K R b (xs.map oV) ∧ xs.length ≤ 100000 ∧ Q (.bl true) R
def N_law_cleared : List Str := ["_law_found", "_law_due", "_law_good"]
def t_law_cleared (K : PySem.W.Frag) (A : Ex) (E : XK) : TS :=
    (tSeq (tAsg (tCall (lift (P_law_numbers K A)) [] E0 (tCons (tVar 0) (tCons (tVar 1) tNil))) (gName 2))
    (tSeq (tIfS (tB (tVar 2)) (tDrop (tBM0 K "list" rClear (tVar 0))) tNext)
    (tRet (tVar 2))))
def P_law_holds (K : PySem.W.Frag) (A : Ex) : Pm := pm3 fun x y z L Q _ => ∃ (p h r : Addr) (as : List Addr) (ad : HAd) (st : HS) (R : AL), x = .ref p ∧ y = .ref h ∧ z = .ref r ∧ L = HeapIs A.Heap p ad st :: R ∧ SqA K R h (st.hands.map oV) ∧ RdRows K R r as st.rows ∧ HW st ∧ (∀ b, some b ∈ st.hands → b ∈ st.there) ∧ Q (.bl true) L
def N_law_holds : List Str := ["_law_heap", "_law_hands", "_law_rows", "_law_box", "_law_k"]
def t_law_holds (K : PySem.W.Frag) (A : Ex) (E : XK) : TS :=
    (tSeq (tIfS (tNot (tB (tCall (lift (P_law_numbers K A)) [] E0 (tCons (tLc (iRng1 (tCons (tCB (rLen K) (tCons (tVar 1) tNil)) tNil)) (gName 4) tYes (tMeth A.Heap "held" (lift (P_held K A)) [] E0 (tVar 0) (tCons (tVar 4) tNil)) [4]) (tCons (tVar 1) tNil))))) (tRet (tC (.bl false))) tNext)
    (tSeq (tFor (iList K (tVar 1)) (gName 3)
      (tIfS (tAnd (tTest (tOp rNotNo (tVar 3) (tC .non))) (tNot (tB (tCall (lift (P_law_cleared K A)) [] E0 (tCons (tMeth A.Heap "look" (lift (P_look K A)) [] E0 (tVar 0) (tCons (tVar 3) tNil)) (tCons (tOp (rIxL K) (tVar 2) (tVar 3)) tNil)))))) (tRet (tC (.bl false))) tNext))
    (tRet (tC (.bl true)))))
section
variable {K : PySem.W.Frag} {A : Ex} {E : XK} {vs : List V} {L : AL} {Q : V → AL → Prop} {Ea : Value → AL → Prop}
theorem do_done {a h p : Addr} {d : Deed} {as : List Addr} {hs : Hs} {rw : Rw} {R : AL} (e : Ent L (pt h (.lst (hs.map oV)) :: RowsA p as rw :: R)) (hd : SqA K R a d.vals) (hl : as.length = rw.length) (hz : rw.length ≤ 90000) (ok : d.ok hs rw)
    (q : ∀ as', as'.length = (d.rw hs rw).length → Q .non (pt h (.lst ((d.hs hs rw).map oV)) :: RowsA p as' (d.rw hs rw) :: R)) : ∃ L2, Ent L L2 ∧ P_law_done K A [.ref a, .ref h, .ref p] L2 Q Ea := ⟨_, e, _, _, _, rfl, a, h, p, d, as, hs, rw, R, rfl, rfl, rfl, rfl, hd, hl, hz, ok, q⟩
theorem do_asked {p a : Addr} {d : Deed} {ad : HAd} {st : HS} {R : AL} (e : Ent L (HeapIs A.Heap p ad st :: R)) (hd : SqA K R a d.vals) (w : HW st) (ok : d.ok st.hands st.rows) (hb : ∀ b, some b ∈ st.hands → b ∈ st.there) (hr : st.there.length < st.room)
    (q : ∀ ad', Q (st.ret d) (HeapIs A.Heap p ad' (st.deed d) :: R)) : ∃ L2, Ent L L2 ∧ P_law_asked K A [.ref p, .ref a] L2 Q Ea := ⟨_, e, _, _, rfl, p, a, d, ad, st, R, rfl, rfl, rfl, hd, w, ok, hb, hr, q⟩
theorem do_cleared {a b : Addr} {xs : List (Option Nat)} {R : AL} (e : Ent L (pt a (.lst (xs.map oV)) :: R)) (h : SqA K R b (xs.map oV)) (hz : xs.length ≤ 100000) (q : Q (.bl true) R) : ∃ L2, Ent L L2 ∧ P_law_cleared K A [.ref a, .ref b] L2 Q Ea := ⟨_, e, _, _, rfl, a, b, xs, R, rfl, rfl, rfl, h, hz, q⟩
theorem hs_get {hs : Hs} {i : Nat} (h : i < hs.length) : (hs.map oV)[i]? = some (oV (hs.getD i none)) := by
  rw [List.getElem?_map, List.getD_eq_getElem?_getD, List.getElem?_eq_getElem h]; rfl
theorem rw_get {rw : Rw} {b : Nat} (h : b < rw.length) : rw[b]? = some (rowOf rw b) := by unfold rowOf; rw [List.getD_eq_getElem?_getD, List.getElem?_eq_getElem h]; rfl
theorem as_get {as : List Addr} {b : Nat} {a : Addr} (h : as[b]? = some a) : (as.map V.ref)[b]? = some (.ref a) := by rw [List.getElem?_map, h]; rfl
theorem as_ex {as : List Addr} {b : Nat} (h : b < as.length) : ∃ a, as[b]? = some a := ⟨_, List.getElem?_eq_getElem h⟩
theorem p_law_done (he : ELe Ea E) (h : P_law_done K A vs L Q Ea) : SS (t_law_done K A E) { nx := fun _ L => Q .non L, rt := Q } (start N_law_done vs) L := by
  obtain ⟨_, _, _, rfl, a, h, p, d, as, hs, rw, R, rfl, rfl, rfl, rfl, hd, hl, hz, ok, q⟩ := h
  unfold t_law_done
  have hd2 : ∀ (o o2 : Asn), SqA K (o :: o2 :: R) a d.vals := fun o o2 => sq_tl (sq_tl hd)
  cases d with
  | make i k =>
    tm_at "go"
    refine r_ixL (sq_tl (sq_tl hd)) (atI_nat (j := 0) rfl) ?_
    tm_at "go"
    refine ex_c (fun _ => ?_) fun n => absurd rfl n
    tm_at "go"
    refine e_lcPlainR k (fun _ => true) (fun _ => .non) (by have := ok.2; omega) (fun _ => rfl) ?_ (fun i hi L' en => t_yes ⟨rfl, rfl⟩) (fun i hi _ L' en => e_c ⟨rfl, rfl⟩) fun b => ?_
    · tm_at "go"
      refine r_ixL (sq_tl (sq_tl hd)) (atI_nat (j := 2) rfl) ?_
      tm_at "go"
      exact ⟨rfl, rfl⟩
    rw [nones]
    tm_at "go"
    have wr : Wr (pt b (.lst ((List.replicate k (none : Option Nat)).map oV)) :: pt h (.lst (hs.map oV)) :: RowsA p as rw :: R) p (.lst (as.map V.ref ++ [V.ref b])) (pt h (.lst (hs.map oV)) :: RowsA p (as ++ [b]) (rw ++ [List.replicate k none]) :: R) :=
      Wr.ent (wr_tl (rows_push hl)) (ent_swap.trans (Ent.cons ent_swap))
    refine r_append (by tm_at "hs") (small5 (by rw [List.length_map, hl]; omega)) wr ?_
    tm_at "go"
    refine r_ixL (sq_tl (sq_tl hd)) (atI_nat (j := 1) rfl) ?_
    have el : (((as ++ [b]).map V.ref).length : Int) - 1 = (rw.length : Int) := by rw [List.length_map, List.length_append, hl]; simp
    rw [el]
    refine r_setL has_hd (ixN_nat (by rw [List.length_map]; exact ok.1)) wr_hd ?_
    rw [show (hs.map oV).set i (V.int (rw.length : Int)) = (hs.set i (some rw.length)).map oV by rw [List.map_set]]
    exact q _ (by show (as ++ [b]).length = (rw ++ _).length; rw [List.length_append, List.length_append, hl]; rfl)
  | take i j k =>
    obtain ⟨o1, o2, o3, o4, o5⟩ := ok
    generalize eb : boxOf hs j = b at *
    obtain ⟨c, hc⟩ := as_ex (as := as) (b := b) (by omega)
    have hrow : Has (pt h (.lst (hs.map oV)) :: RowsA p as rw :: R) c (.lst ((rowOf rw b).map oV)) := has_tl (rows_i hc (rw_get o4))
    tm_at "go"
    refine r_ixL (sq_tl (sq_tl hd)) (atI_nat (j := 0) rfl) ?_
    tm_at "go"
    refine ex_c (fun c => absurd c (by decide)) fun _ => ?_
    tm_at "go"
    refine r_ixL (sq_tl (sq_tl hd)) (atI_nat (j := 0) rfl) ?_
    tm_at "go"
    refine ex_c (fun _ => ?_) fun n => absurd rfl n
    tm_at "go"
    refine r_ixL (sq_tl (sq_tl hd)) (atI_nat (j := 2) rfl) ?_
    refine r_ixL (Has.sq has_hd) (atI_nat (hs_get o2)) ?_
    rw [o3]
    refine r_ixL (Has.sq (has_tl rows_p)) (atI_nat (as_get hc)) ?_
    tm_at "go"
    refine r_ixL (sq_tl (sq_tl hd)) (atI_nat (j := 3) rfl) ?_
    refine r_ixL hrow.sq (atI_nat (hs_get o5)) ?_
    tm_at "go"
    refine r_ixL (sq_tl (sq_tl hd)) (atI_nat (j := 1) rfl) ?_
    refine r_setL has_hd (ixN_nat (by rw [List.length_map]; exact o1)) wr_hd ?_
    have e : Q .non (pt h (.lst ((hs.set i ((rowOf rw (boxOf hs j)).getD k none)).map oV)) :: RowsA p as rw :: R) := q as hl
    rw [eb, List.map_set] at e
    exact e
  | put i k j =>
    obtain ⟨o1, o2, o3, o4, o5⟩ := ok
    generalize eb : boxOf hs i = b at *
    obtain ⟨c, hc⟩ := as_ex (as := as) (b := b) (by omega)
    have hrow : Has (pt h (.lst (hs.map oV)) :: RowsA p as rw :: R) c (.lst ((rowOf rw b).map oV)) := has_tl (rows_i hc (rw_get o4))
    tm_at "go"
    refine r_ixL (sq_tl (sq_tl hd)) (atI_nat (j := 0) rfl) ?_
    tm_at "go"
    refine ex_c (fun c => absurd c (by decide)) fun _ => ?_
    tm_at "go"
    refine r_ixL (sq_tl (sq_tl hd)) (atI_nat (j := 0) rfl) ?_
    tm_at "go"
    refine ex_c (fun c => absurd c (by decide)) fun _ => ?_
    tm_at "go"
    refine r_ixL (sq_tl (sq_tl hd)) (atI_nat (j := 0) rfl) ?_
    tm_at "go"
    refine ex_c (fun _ => ?_) fun n => absurd rfl n
    tm_at "go"
    refine r_ixL (sq_tl (sq_tl hd)) (atI_nat (j := 3) rfl) ?_
    refine r_ixL (Has.sq has_hd) (atI_nat (hs_get o1)) ?_
    tm_at "go"
    refine r_ixL (sq_tl (sq_tl hd)) (atI_nat (j := 1) rfl) ?_
    refine r_ixL (Has.sq has_hd) (atI_nat (hs_get o2)) ?_
    rw [o3]
    refine r_ixL (Has.sq (has_tl rows_p)) (atI_nat (as_get hc)) ?_
    tm_at "go"
    refine r_ixL (sq_tl (sq_tl hd)) (atI_nat (j := 2) rfl) ?_
    refine r_setL hrow (ixN_nat (by rw [List.length_map]; exact o5)) (wr_tl ?_) (q as (by show as.length = (rw.set _ _).length; rw [List.length_set]; exact hl))
    show Wr _ _ _ (RowsA p as (rw.set (boxOf hs i) ((rowOf rw (boxOf hs i)).set k (hs.getD j none))) :: R)
    rw [eb, ← List.map_set]
    exact rows_set hc (rw_get o4)
  | share i j =>
    tm_at "go"
    refine r_ixL (sq_tl (sq_tl hd)) (atI_nat (j := 0) rfl) ?_
    tm_at "go"
    refine ex_c (fun c => absurd c (by decide)) fun _ => ?_
    tm_at "go"
    refine r_ixL (sq_tl (sq_tl hd)) (atI_nat (j := 0) rfl) ?_
    tm_at "go"
    refine ex_c (fun c => absurd c (by decide)) fun _ => ?_
    tm_at "go"
    refine r_ixL (sq_tl (sq_tl hd)) (atI_nat (j := 0) rfl) ?_
    tm_at "go"
    refine ex_c (fun c => absurd c (by decide)) fun _ => ?_
    tm_at "go"
    refine r_ixL (sq_tl (sq_tl hd)) (atI_nat (j := 0) rfl) ?_
    tm_at "go"
    refine ex_c (fun _ => ?_) fun n => absurd rfl n
    tm_at "go"
    refine r_ixL (sq_tl (sq_tl hd)) (atI_nat (j := 2) rfl) ?_
    refine r_ixL (Has.sq has_hd) (atI_nat (hs_get ok.2)) ?_
    tm_at "go"
    refine r_ixL (sq_tl (sq_tl hd)) (atI_nat (j := 1) rfl) ?_
    refine r_setL has_hd (ixN_nat (by rw [List.length_map]; exact ok.1)) wr_hd ?_
    have e : Q .non (pt h (.lst ((hs.set i (hs.getD j none)).map oV)) :: RowsA p as rw :: R) := q as hl
    rw [List.map_set] at e
    exact e
  | drop i =>
    tm_at "go"
    refine r_ixL (sq_tl (sq_tl hd)) (atI_nat (j := 0) rfl) ?_
    tm_at "go"
    refine ex_c (fun c => absurd c (by decide)) fun _ => ?_
    tm_at "go"
    refine r_ixL (sq_tl (sq_tl hd)) (atI_nat (j := 0) rfl) ?_
    tm_at "go"
    refine ex_c (fun c => absurd c (by decide)) fun _ => ?_
    tm_at "go"
    refine r_ixL (sq_tl (sq_tl hd)) (atI_nat (j := 0) rfl) ?_
    tm_at "go"
    refine ex_c (fun c => absurd c (by decide)) fun _ => ?_
    tm_at "go"
    refine r_ixL (sq_tl (sq_tl hd)) (atI_nat (j := 0) rfl) ?_
    tm_at "go"
    refine ex_c (fun c => absurd c (by decide)) fun _ => ?_
    tm_at "go"
    refine r_ixL (sq_tl (sq_tl hd)) (atI_nat (j := 1) rfl) ?_
    refine r_setL has_hd (ixN_nat (by rw [List.length_map]; exact ok)) wr_hd ?_
    have e : Q .non (pt h (.lst ((hs.set i none).map oV)) :: RowsA p as rw :: R) := q as hl
    rw [List.map_set] at e
    exact e
end
/-! The laws' deeds: asked of the heap; what is told of it. -/
section
variable {K : PySem.W.Frag} {A : Ex} {E : XK} {vs : List V} {L : AL} {Q : V → AL → Prop} {Ea : Value → AL → Prop}
/-- a comprehension over range(n) of plain values; each item may work at the rest -/
theorem e_lcPlainRF {σ : L2.St} {te : TE} {tr : TA} {j : Nat} {vs : List Nat} (n : Nat) (g : Nat → V) (hn : n ≤ 100000) (hw : ∀ x, wipe ((wipe σ vs).set j (some x)) vs = wipe σ vs) (h : SA tr σ L fun us L1 => us = [nV n] ∧ L1 = L)
    (hs : ∀ i, i < n → ∀ o : Asn, SE te ((wipe σ vs).set j (some (nV i))) (o :: L) fun y L3 => y = g i ∧ Ent L3 (o :: L))
    (hq : ∀ d, Q (.ref d) (pt d (.lst ((List.range n).map g)) :: L)) : SE (tLc (iRng1 tr) (gName j) tYes te vs) σ L Q := by
  refine e_lcR1 fun H s Qh k => h H s _ fun us L1 H1 s1 ⟨e1, e2⟩ => k _ _ _ s1 ⟨(n : Int), e1, by omega, by omega, hw, ?_⟩
  subst e2
  refine ⟨fun i acc L' => acc = (List.range i).map g ∧ L' = L1, ⟨rfl, rfl⟩, ?_, ?_⟩
  · rintro i acc L' d hi ⟨rfl, rfl⟩
    refine t_yes ⟨fun _ => ?_, (fun z => nomatch z)⟩
    refine e_mono (hs i (by omega) _) ?_
    rintro _ L3 ⟨rfl, e3⟩
    refine ⟨L', e3, small5 (by rw [List.length_map, List.length_range]; omega), ?_, rfl⟩
    rw [List.range_succ, List.map_append]
    rfl
  · rintro acc L' d ⟨rfl, rfl⟩
    have e : ((n : Int)).toNat = n := by omega
    rw [e]
    exact hq d
theorem range_getD {hs : Hs} : ((List.range hs.length).map fun i => oV (hs.getD i none)) = hs.map oV := by
  refine List.ext_getElem? fun i => ?_
  by_cases c : i < hs.length
  · rw [hs_get c, List.getElem?_map, List.getElem?_range c]
    rfl
  · rw [List.getElem?_eq_none (by rw [List.length_map, List.length_range]; omega), List.getElem?_eq_none (by rw [List.length_map]; omega)]
theorem p_law_asked (T : HT K A) (he : ELe Ea E) (h : P_law_asked K A vs L Q Ea) : SS (t_law_asked K A E) { nx := fun _ L => Q .non L, rt := Q } (start N_law_asked vs) L := by
  obtain ⟨_, _, rfl, p, a, d, ad, st, R, rfl, rfl, rfl, hd, w, ok, hb, hr, q⟩ := h
  unfold t_law_asked
  have hbx : ∀ {i k : Nat}, slotOk st.hands st.rows i k → boxOf st.hands i ∈ st.there := fun {i k} o => hb _ (o.2.1 ▸ getD_mem o.1)
  cases d with
  | make i k =>
    tm_at "go"
    refine r_ixL (sq_tl hd) (atI_nat (j := 0) rfl) ?_
    tm_at "go"
    refine ex_c (fun _ => ?_) fun n => absurd rfl n
    tm_at "go"
    refine r_ixL (sq_tl hd) (atI_nat (j := 1) rfl) ?_
    tm_at "go"
    refine r_ixL (sq_tl hd) (atI_nat (j := 2) rfl) ?_
    tm_at "go"
    exact do_make (Ent.refl _) w ok.1 ok.2 hr q
  | take i j k =>
    tm_at "go"
    refine r_ixL (sq_tl hd) (atI_nat (j := 0) rfl) ?_
    tm_at "go"
    refine ex_c (fun c => absurd c (by decide)) fun _ => ?_
    tm_at "go"
    refine r_ixL (sq_tl hd) (atI_nat (j := 0) rfl) ?_
    tm_at "go"
    refine ex_c (fun _ => ?_) fun n => absurd rfl n
    tm_at "go"
    refine r_ixL (sq_tl hd) (atI_nat (j := 1) rfl) ?_
    tm_at "go"
    refine r_ixL (sq_tl hd) (atI_nat (j := 2) rfl) ?_
    tm_at "go"
    refine r_ixL (sq_tl hd) (atI_nat (j := 3) rfl) ?_
    tm_at "go"
    exact do_take (Ent.refl _) w ok.1 ok.2.1 ok.2.2.1 (hbx ok.2) ok.2.2.2.2 (q _)
  | put i k j =>
    tm_at "go"
    refine r_ixL (sq_tl hd) (atI_nat (j := 0) rfl) ?_
    tm_at "go"
    refine ex_c (fun c => absurd c (by decide)) fun _ => ?_
    tm_at "go"
    refine r_ixL (sq_tl hd) (atI_nat (j := 0) rfl) ?_
    tm_at "go"
    refine ex_c (fun c => absurd c (by decide)) fun _ => ?_
    tm_at "go"
    refine r_ixL (sq_tl hd) (atI_nat (j := 0) rfl) ?_
    tm_at "go"
    refine ex_c (fun _ => ?_) fun n => absurd rfl n
    tm_at "go"
    refine r_ixL (sq_tl hd) (atI_nat (j := 1) rfl) ?_
    tm_at "go"
    refine r_ixL (sq_tl hd) (atI_nat (j := 2) rfl) ?_
    tm_at "go"
    refine r_ixL (sq_tl hd) (atI_nat (j := 3) rfl) ?_
    tm_at "go"
    exact do_put (Ent.refl _) w ok.2.1 ok.1 ok.2.2.1 (hbx ok.2) ok.2.2.2.2 (q _)
  | share i j =>
    tm_at "go"
    refine r_ixL (sq_tl hd) (atI_nat (j := 0) rfl) ?_
    tm_at "go"
    refine ex_c (fun c => absurd c (by decide)) fun _ => ?_
    tm_at "go"
    refine r_ixL (sq_tl hd) (atI_nat (j := 0) rfl) ?_
    tm_at "go"
    refine ex_c (fun c => absurd c (by decide)) fun _ => ?_
    tm_at "go"
    refine r_ixL (sq_tl hd) (atI_nat (j := 0) rfl) ?_
    tm_at "go"
    refine ex_c (fun c => absurd c (by decide)) fun _ => ?_
    tm_at "go"
    refine r_ixL (sq_tl hd) (atI_nat (j := 0) rfl) ?_
    tm_at "go"
    refine ex_c (fun _ => ?_) fun n => absurd rfl n
    tm_at "go"
    refine r_ixL (sq_tl hd) (atI_nat (j := 1) rfl) ?_
    tm_at "go"
    refine r_ixL (sq_tl hd) (atI_nat (j := 2) rfl) ?_
    tm_at "go"
    exact do_share (Ent.refl _) ok.1 ok.2 (q _)
  | drop i =>
    tm_at "go"
    refine r_ixL (sq_tl hd) (atI_nat (j := 0) rfl) ?_
    tm_at "go"
    refine ex_c (fun c => absurd c (by decide)) fun _ => ?_
    tm_at "go"
    refine r_ixL (sq_tl hd) (atI_nat (j := 0) rfl) ?_
    tm_at "go"
    refine ex_c (fun c => absurd c (by decide)) fun _ => ?_
    tm_at "go"
    refine r_ixL (sq_tl hd) (atI_nat (j := 0) rfl) ?_
    tm_at "go"
    refine ex_c (fun c => absurd c (by decide)) fun _ => ?_
    tm_at "go"
    refine r_ixL (sq_tl hd) (atI_nat (j := 0) rfl) ?_
    tm_at "go"
    refine ex_c (fun c => absurd c (by decide)) fun _ => ?_
    tm_at "go"
    refine r_ixL (sq_tl hd) (atI_nat (j := 1) rfl) ?_
    tm_at "go"
    exact do_drop (Ent.refl _) ok (q _)
theorem p_law_cleared (he : ELe Ea E) (h : P_law_cleared K A vs L Q Ea) : SS (t_law_cleared K A E) { nx := fun _ L => Q .non L, rt := Q } (start N_law_cleared vs) L := by
  obtain ⟨_, _, rfl, a, b, xs, R, rfl, rfl, rfl, hb, hz, q⟩ := h
  unfold t_law_cleared
  refine s_postB ?_
  tm_at "go"
  refine do_numbersT has_hd (sq_tl hb) hz ?_
  tm_at "go"
  refine ex_t ?_
  tm_at "go"
  refine r_clear has_hd wr_hd ?_
  tm_at "go"
  exact ⟨_, Ent.drop, q⟩
theorem do_holds {p h r : Addr} {as : List Addr} {ad : HAd} {st : HS} {R : AL} (e : Ent L (HeapIs A.Heap p ad st :: R)) (hh : SqA K R h (st.hands.map oV)) (hr : RdRows K R r as st.rows) (w : HW st) (hb : ∀ b, some b ∈ st.hands → b ∈ st.there) (q : Q (.bl true) (HeapIs A.Heap p ad st :: R)) :
    ∃ L2, Ent L L2 ∧ P_law_holds K A [.ref p, .ref h, .ref r] L2 Q Ea := ⟨_, e, _, _, _, rfl, p, h, r, as, ad, st, R, rfl, rfl, rfl, rfl, hh, hr, w, hb, q⟩
theorem p_law_holds (T : HT K A) (he : ELe Ea E) (h : P_law_holds K A vs L Q Ea) : SS (t_law_holds K A E) { nx := fun _ L => Q .non L, rt := Q } (start N_law_holds vs) L := by
  obtain ⟨_, _, _, rfl, p, h, r, as, ad, st, R, rfl, rfl, rfl, rfl, hh, hr, w, hb, q⟩ := h
  unfold t_law_holds
  refine s_postB ?_
  have h8 := w.hands
  tm_at "go"
  refine e_lcPlainRF st.hands.length (fun i => oV (st.hands.getD i none)) (by omega) (fun _ => rfl) ?_ (fun i hi o => ?_) fun b => ?_
  · tm_at "go"
    rw [List.length_map]
    exact ⟨rfl, rfl⟩
  · tm_at "go"
    exact do_held ent_swap hi ⟨rfl, ent_swap⟩
  rw [range_getD]
  tm_at "go"
  refine do_numbersT has_hd (sq_tl (sq_tl hh)) (by omega) ?_
  refine ⟨true, rfl, both_f ?_⟩
  tm_at "go"
  refine s_ent Ent.drop ?_
  refine s_forL ?_
  tm_at "go"
  refine ⟨h, st.hands.map oV, rfl, sq_tl hh, fun i σ L' => (∃ v w2, σ = [some (.ref p), some (.ref h), some (.ref r), v, w2]) ∧ L' = HeapIs A.Heap p ad st :: R, ⟨⟨_, _, rfl⟩, rfl⟩, ?_, ?_, ?_⟩
  · rintro i σ L' hi ⟨_, rfl⟩
    exact sq_tl hh
  · rintro i x σ L' hx ⟨⟨v, w2, rfl⟩, rfl⟩
    obtain ⟨o, ho, rfl⟩ := map_get hx
    cases o with
    | none =>
      tm_at "go"
      refine ⟨_, rfl, both_f (both_f ?_)⟩
      tm_at "go"
      exact ⟨⟨_, _, rfl⟩, rfl⟩
    | some b =>
      have hbt := hb b (List.mem_of_getElem? ho)
      have hbl := w.lt b hbt
      obtain ⟨c, hc⟩ := as_ex (as := as) (b := b) (by rw [hr.len]; exact hbl)
      have hrow := hr.row b c _ hc (rw_get hbl)
      have hl4 : (rowOf st.rows b).length ≤ 4 := w.rl _ (List.mem_of_getElem? (rw_get hbl))
      refine s_post ?_
      tm_at "go"
      refine ⟨_, rfl, both_t ?_⟩
      tm_at "go"
      refine do_look (Ent.refl _) w hbt fun d => ?_
      tm_at "go"
      refine r_ixL (sq_tl (sq_tl hr.top)) (atI_nat (as_get hc)) ?_
      tm_at "go"
      refine do_cleared (xs := rowOf st.rows b) (Ent.refl _) (sq_tl hrow) (by omega) ?_
      refine ⟨true, rfl, both_f ?_⟩
      tm_at "go"
      exact ⟨_, Ent.refl _, ⟨_, _, rfl⟩, rfl⟩
  · rintro σ L' ⟨⟨v, w2, rfl⟩, rfl⟩
    tm_at "go"
    exact ⟨_, Ent.refl _, q⟩
end
/-! The mirror under deeds. -/
theorem put_eq (st : HS) (b k : Nat) (o : Option Nat) : (st.put b k o).hands = st.hands ∧ (st.put b k o).rows = st.rows.set b ((rowOf st.rows b).set k o) ∧ (st.put b k o).there = st.there := by
  unfold HS.put
  split
  · refine ⟨HS.mark_hands _ _, ?_, HS.mark_there _ _⟩
    show ((st.mark _).rows.set b (((st.mark _).rowAt b).set k o)) = _
    rw [HS.rowAt_mark, HS.mark_rows]
    rfl
  · exact ⟨rfl, rfl, rfl⟩
theorem deed_hands (st : HS) (d : Deed) : (st.deed d).hands = d.hs st.hands st.rows := by
  cases d with
  | put i k j => exact (put_eq _ _ _ _).1
  | _ => rfl
theorem deed_rows (st : HS) (d : Deed) : (st.deed d).rows = d.rw st.hands st.rows := by
  cases d with
  | put i k j => exact (put_eq _ _ _ _).2.1
  | _ => rfl
def Deed.word : Deed → Str
  | .make _ _ => "make"
  | .take _ _ _ => "take"
  | .put _ _ _ => "put"
  | .share _ _ => "share"
  | .drop _ => "drop"
theorem deed_word (d : Deed) : d.vals[0]? = some (.str d.word) := by cases d <;> rfl
theorem deed_facts (st : HS) (d : Deed) : (V.str d.word = V.str "make" ∧ st.ret d = nV st.rows.length ∧ (st.deed d).rows.length = st.rows.length + 1) ∨ (V.str d.word ≠ V.str "make" ∧ st.ret d = .non) := by
  cases d with
  | make i k => exact .inl ⟨rfl, rfl, by show (st.rows ++ [_]).length = _; simp⟩
  | take => exact .inr ⟨by show V.str "take" ≠ V.str "make"; decide, rfl⟩
  | put => exact .inr ⟨by show V.str "put" ≠ V.str "make"; decide, rfl⟩
  | share => exact .inr ⟨by show V.str "share" ≠ V.str "make"; decide, rfl⟩
  | drop => exact .inr ⟨by show V.str "drop" ≠ V.str "make"; decide, rfl⟩
theorem rw_len1 (hs : Hs) (rw : Rw) (d : Deed) : (d.rw hs rw).length ≤ rw.length + 1 := by
  cases d <;> simp [Deed.rw]
theorem HW.setSlot {st : HS} (w : HW st) {b k : Nat} {o : Option Nat} : HW (st.setSlot b k o) := by
  refine ⟨w.nd, fun x hx => ?_, w.hands, ?_, fun r hr => ?_, w.sn, w.sl, ?_⟩
  · show x < (st.rows.set _ _).length; rw [List.length_set]; exact w.lt x hx
  · show (st.rows.set _ _).length ≤ _; rw [List.length_set]; exact w.big
  · rcases List.mem_or_eq_of_mem_set hr with h | h
    · exact w.rl r h
    · rw [h, List.length_set]; exact w.rowl b
  · show st.begun ≤ (st.rows.set _ _).length; rw [List.length_set]; exact w.bg
theorem HW.deed {st : HS} (w : HW st) {d : Deed} (ok : d.ok st.hands st.rows) (hb : st.rows.length < 90000) : HW (st.deed d) := by
  cases d with
  | make i k =>
    have e : (st.rows ++ [List.replicate k (none : Option Nat)]).length = st.rows.length + 1 := by simp
    refine ⟨?_, fun x hx => ?_, ?_, ?_, fun r hr => ?_, w.sn, w.sl, ?_⟩
    · show (st.there ++ [st.rows.length]).Pairwise _
      rw [List.pairwise_append]
      exact ⟨w.nd, List.pairwise_singleton _ _, fun a ha b hb => by rw [List.mem_singleton.mp hb]; exact w.lt a ha⟩
    · show x < (st.rows ++ [List.replicate k (none : Option Nat)]).length
      rw [e]
      rcases List.mem_append.mp hx with h | h
      · have := w.lt x h; omega
      · rw [List.mem_singleton.mp h]; omega
    · show (st.hands.set _ _).length ≤ 8; rw [List.length_set]; exact w.hands
    · show (st.rows ++ [List.replicate k (none : Option Nat)]).length ≤ _; rw [e]; omega
    · rcases List.mem_append.mp hr with h | h
      · exact w.rl r h
      · rw [List.mem_singleton.mp h, List.length_replicate]; exact ok.2
    · show st.begun ≤ (st.rows ++ [List.replicate k (none : Option Nat)]).length; rw [e]; have := w.bg; omega
  | take i j k => exact ⟨w.nd, w.lt, by show (st.hands.set _ _).length ≤ 8; rw [List.length_set]; exact w.hands, w.big, w.rl, w.sn, w.sl, w.bg⟩
  | put i k j =>
    show HW (st.put _ _ _)
    unfold HS.put
    split
    · exact (w.mark _).setSlot
    · exact w.setSlot
  | share i j => exact ⟨w.nd, w.lt, by show (st.hands.set _ _).length ≤ 8; rw [List.length_set]; exact w.hands, w.big, w.rl, w.sn, w.sl, w.bg⟩
  | drop i => exact ⟨w.nd, w.lt, by show (st.hands.set _ _).length ≤ 8; rw [List.length_set]; exact w.hands, w.big, w.rl, w.sn, w.sl, w.bg⟩
/-- while the collector never works -/
structure I4 (st : HS) (n m : Nat) : Prop where
  w : HW st
  p : PW st.hands st.rows
  th : st.there = List.range st.rows.length
  sg : st.stage = .idle
  en : st.ended = 0
  rm : st.room = 1000
  hl : st.hands.length = n
  ml : st.rows.length ≤ m
  sn : st.seen = []
  lk : st.looked = 0
  sw : st.swept = 0
  od : st.old = []
  bn : st.begun = 0
theorem I4.new {n : Nat} (h : n ≤ 8) : I4 (HS.new n 1000) n 0 := by
  refine ⟨⟨List.Pairwise.nil, (fun _ h => nomatch h), ?_, Nat.zero_le _, (fun _ h => nomatch h), List.nodup_nil, (fun _ h => nomatch h), Nat.le_refl _⟩, ⟨fun b hb => ?_, (fun _ h => nomatch h), (fun _ h => nomatch h)⟩, rfl, rfl, rfl, rfl, ?_, Nat.le_refl _, rfl, rfl, rfl, rfl, rfl⟩
  · show (List.replicate n (none : Option Nat)).length ≤ 8; rw [List.length_replicate]; exact h
  · have := (List.mem_replicate.mp hb).2; cases this
  · show (List.replicate n (none : Option Nat)).length = n; rw [List.length_replicate]
theorem I4.hb {st : HS} {n m : Nat} (i : I4 st n m) : ∀ b, some b ∈ st.hands → b ∈ st.there := fun b h => by rw [i.th]; exact List.mem_range.mpr (i.p.h b h)
theorem I4.tl {st : HS} {n m : Nat} (i : I4 st n m) : st.there.length = st.rows.length := by rw [i.th, List.length_range]
theorem I4.deed {st : HS} {n m : Nat} (i : I4 st n m) {d : Deed} (ok : d.ok st.hands st.rows) (hm : m < 1000) : I4 (st.deed d) n (m + 1) := by
  have hp : PW (st.deed d).hands (st.deed d).rows := by rw [deed_hands, deed_rows]; exact i.p.deed ok
  have hl : (st.deed d).hands.length = n := by rw [deed_hands, hs_len]; exact i.hl
  have hr : (st.deed d).rows.length ≤ m + 1 := by rw [deed_rows]; have := rw_len1 st.hands st.rows d; have := i.ml; omega
  have hw := i.w.deed ok (by have := i.ml; omega)
  cases d with
  | make a k =>
    refine ⟨hw, hp, ?_, i.sg, i.en, i.rm, hl, hr, i.sn, i.lk, i.sw, i.od, i.bn⟩
    show st.there ++ [st.rows.length] = List.range (st.rows ++ [List.replicate k (none : Option Nat)]).length
    rw [List.length_append, List.length_singleton, List.range_succ, i.th]
  | take => exact ⟨hw, hp, i.th, i.sg, i.en, i.rm, hl, hr, i.sn, i.lk, i.sw, i.od, i.bn⟩
  | put a k b =>
    have e : st.deed (.put a k b) = st.setSlot (boxOf st.hands a) k (st.hands.getD b none) := by
      show st.put _ _ _ = _
      unfold HS.put
      rw [if_neg (by rw [i.sg]; decide)]
    rw [e] at hw hp hl hr ⊢
    refine ⟨hw, hp, ?_, i.sg, i.en, i.rm, hl, hr, i.sn, i.lk, i.sw, i.od, i.bn⟩
    show st.there = List.range (st.rows.set _ _).length
    rw [List.length_set]
    exact i.th
  | share => exact ⟨hw, hp, i.th, i.sg, i.en, i.rm, hl, hr, i.sn, i.lk, i.sw, i.od, i.bn⟩
  | drop => exact ⟨hw, hp, i.th, i.sg, i.en, i.rm, hl, hr, i.sn, i.lk, i.sw, i.od, i.bn⟩
theorem goods_at {ds : List Deed} {j : Nat} {d : Deed} {hs : Hs} {rw : Rw} (e : ds[j]? = some d) (g : Deed.Goods (ds.drop j) hs rw) : d.ok hs rw ∧ Deed.Goods (ds.drop (j + 1)) (d.hs hs rw) (d.rw hs rw) := by
  have hj : j < ds.length := (List.getElem?_eq_some_iff.mp e).1
  have e2 := (List.getElem?_eq_some_iff.mp e).2
  rw [List.drop_eq_getElem_cons hj, e2] at g
  exact g
section
variable {K : PySem.W.Frag} {A : Ex} {E : XK} {vs : List V} {L : AL} {Q : V → AL → Prop} {Ea : Value → AL → Prop}
theorem deeds_p {d : Addr} {bs : List Addr} {ds : List Deed} : Has (DeedsA d bs ds :: L) d (.lst (bs.map V.ref)) := has_star has_hd
theorem deeds_i {d b : Addr} {bs : List Addr} {ds : List Deed} {j : Nat} {D : Deed} (h1 : bs[j]? = some b) (h2 : ds[j]? = some D) : Has (DeedsA d bs ds :: L) b (.lst D.vals) := has_star (has_tl (zc_has (f := fun d : Deed => .lst d.vals) h1 h2))
theorem do_init {p dx : Addr} {m : Nat} {R : AL} (h1 : 1 ≤ m) (h2 : m ≤ 8) (q : ∀ ad, Q .non (HeapIs A.Heap p ad (HS.new m 1000) :: R)) : ∃ L2, Ent (pt p (.ins A.Heap dx []) :: R) L2 ∧ P_init K A [.ref p, nV m, .int 1000] L2 Q Ea := by
  refine ⟨_, Ent.refl _, _, _, _, rfl, p, dx, R, (m : Int), 1000, rfl, rfl, rfl, rfl, fun _ ad => ?_, fun n => absurd ⟨⟨by omega, by omega⟩, by decide, by decide⟩ n⟩
  have := q ad
  rw [Int.toNat_natCast]
  exact this
theorem do_deeds {h p : Addr} {as : List Addr} {c : Nat} {hs : Hs} {rw : Rw} (hh : SqA K L h (hs.map oV)) (hr : RdRows K L p as rw) (h1 : 1 ≤ hs.length) (h8 : hs.length ≤ 8) (pw : PW hs rw)
    (q : ∀ (d : Addr) (bs : List Addr) (ds : List Deed), bs.length = ds.length → ds.length ≤ 2 → Deed.Goods ds hs rw → Q (.ref d) (DeedsA d bs ds :: L)) : ∃ L2, Ent L L2 ∧ P_law_deeds K A [nV c, .ref h, .ref p] L2 Q Ea := ⟨L, Ent.refl _, _, _, _, rfl, h, p, as, c, hs, rw, rfl, rfl, rfl, hh, hr, h1, h8, pw, q⟩
end
/-! The collector's pieces, walked. -/
def N_begin : List Str := ["heap", "box"]
def t_begin (K : PySem.W.Frag) (A : Ex) (E : XK) : TS :=
    (tSeq (sFld K (tVar 0) (tCB (rSortedI K) (tCons (tMeth A.Heap "boxes" (lift (P_boxes K A)) [] E0 (tVar 0) tNil) tNil)) "old")
    (tSeq (sFld K (tVar 0) (tFld K (tVar 0) "made") "begun")
    (tSeq (sFld K (tVar 0) (tC (.str "marking")) "stage")
    (tFor (iList K (tFld K (tVar 0) "hands")) (gName 1)
      (tDrop (tCall (lift (P_mark K A)) [] E0 (tCons (tVar 0) (tCons (tVar 1) tNil))))))))
def N_look_at : List Str := ["heap", "box", "inner"]
def t_look_at (K : PySem.W.Frag) (A : Ex) (E : XK) : TS :=
    (tSeq (tAsg (tOp (rIxL K) (tFld K (tVar 0) "row") (tFld K (tVar 0) "looked")) (gName 1))
    (tSeq (sFldAug K (tVar 0) (tC (.int 1)) L2.rAdd "looked")
    (tFor (iList K (tDGet (tFld K (tVar 0) "slots") (tVar 1))) (gName 2)
      (tDrop (tCall (lift (P_mark K A)) [] E0 (tCons (tVar 0) (tCons (tVar 2) tNil)))))))
def N_sweep : List Str := ["heap", "box"]
def t_sweep (K : PySem.W.Frag) (A : Ex) (E : XK) : TS :=
    (tSeq (tAsg (tOp (rIxL K) (tFld K (tVar 0) "old") (tFld K (tVar 0) "swept")) (gName 1))
    (tSeq (sFldAug K (tVar 0) (tC (.int 1)) L2.rAdd "swept")
    (tSeq (tIfS (tB (tDIn (tVar 1) (tFld K (tVar 0) "seen"))) (tRet (tC .non)) tNext)
    (tSeq (tDrop (tDPop1 (tFld K (tVar 0) "slots") (tVar 1)))
    (tRet (tVar 1))))))
def N_settle : List Str := ["heap"]
def t_settle (K : PySem.W.Frag) (A : Ex) (E : XK) : TS :=
    (tSeq (tIfS (tAnd (tTest (tOp rEq (tFld K (tVar 0) "stage") (tC (.str "marking")))) (tTest (tOp rEq (tFld K (tVar 0) "looked") (tCB (rLen K) (tCons (tFld K (tVar 0) "row") tNil))))) (sFld K (tVar 0) (tC (.str "sweeping")) "stage") tNext)
    (tIfS (tAnd (tTest (tOp rEq (tFld K (tVar 0) "stage") (tC (.str "sweeping")))) (tTest (tOp rEq (tFld K (tVar 0) "swept") (tCB (rLen K) (tCons (tFld K (tVar 0) "old") tNil))))) (tSeq (tDrop (tMeth A.Heap "rest" (lift (P_rest K A)) [] E0 (tVar 0) tNil))
    (sFldAug K (tVar 0) (tC (.int 1)) L2.rAdd "ended")) tNext))
def N_piece : List Str := ["heap", "freed"]
def t_piece (K : PySem.W.Frag) (A : Ex) (E : XK) : TS :=
    (tSeq (tAsg (tC .non) (gName 1))
    (tSeq (tIfS (tTest (tOp rEq (tFld K (tVar 0) "stage") (tC (.str "idle")))) (tDrop (tCall (lift (P_begin K A)) [] E0 (tCons (tVar 0) tNil))) (tIfS (tTest (tOp rEq (tFld K (tVar 0) "stage") (tC (.str "marking")))) (tDrop (tCall (lift (P_look_at K A)) [] E0 (tCons (tVar 0) tNil))) (tAsg (tCall (lift (P_sweep K A)) [] E0 (tCons (tVar 0) tNil)) (gName 1))))
    (tSeq (tDrop (tCall (lift (P_settle K A)) [] E0 (tCons (tVar 0) tNil)))
    (tRet (tVar 1)))))
def N_work : List Str := ["self", "pieces", "found", "k", "freed"]
def t_work (K : PySem.W.Frag) (A : Ex) (E : XK) : TS :=
    (tSeq (tIfS (tNot (tTest (tChain rLeI rLeI (tC (.int 0)) (tVar 1) (tC (.int 2500))))) (tRaiseC A.NoWork E) tNext)
    (tSeq (tAsg (tLst tNil) (gName 2))
    (tSeq (tFor (iRng1 (tCons (tVar 1) tNil)) (gName 3)
      (tSeq (tAsg (tCall (lift (P_piece K A)) [] E0 (tCons (tVar 0) tNil)) (gName 4))
    (tIfS (tTest (tOp rNotNo (tVar 4) (tC .non))) (tDrop (tBM K "list" rAppend (tVar 2) (tCons (tVar 4) tNil))) tNext)))
    (tRet (tVar 2)))))
section
variable {K : PySem.W.Frag} {A : Ex} {E : XK} {vs : List V} {L : AL} {Q : V → AL → Prop} {Ea : Value → AL → Prop}
theorem HS.markAll_hands (os : List (Option Nat)) (st : HS) : (st.markAll os).hands = st.hands := by
  unfold HS.markAll
  induction os generalizing st with
  | nil => rfl
  | cons o os ih => rw [List.foldl_cons, ih, HS.mark_hands]
theorem HS.markAll_rows (os : List (Option Nat)) (st : HS) : (st.markAll os).rows = st.rows := by
  unfold HS.markAll
  induction os generalizing st with
  | nil => rfl
  | cons o os ih => rw [List.foldl_cons, ih, HS.mark_rows]
theorem HS.markAll_there (os : List (Option Nat)) (st : HS) : (st.markAll os).there = st.there := by
  unfold HS.markAll
  induction os generalizing st with
  | nil => rfl
  | cons o os ih => rw [List.foldl_cons, ih, HS.mark_there]
theorem HW.markAll {st : HS} (w : HW st) (os : List (Option Nat)) : HW (st.markAll os) := by
  unfold HS.markAll
  induction os generalizing st with
  | nil => exact w
  | cons o os ih => exact ih (w.mark o)
theorem HS.markAll_snoc {os : List (Option Nat)} {st : HS} {i : Nat} {o : Option Nat} (h : os[i]? = some o) : st.markAll (os.take (i + 1)) = (st.markAll (os.take i)).mark o := by
  unfold HS.markAll
  rw [take_snoc h, List.foldl_append]
  rfl
theorem heap_wr_open {C p : Addr} {ad : HAd} {st : HS} {R : AL} {fv : List V} : Wr (HeapIs C p ad st :: R) p (.ins C ad.dx (hF fv)) (pt p (.ins C ad.dx (hF fv)) :: pt ad.h (.lst (st.hands.map oV)) :: pt ad.d (.dK (kvS st.there ad.rs)) :: pt ad.o (.lst (st.old.map nV)) :: pt ad.s (.dK (kvT st.seen)) :: pt ad.r (.lst (st.seen.map nV)) :: (zc fL ad.rs (st.there.map st.rowAt) ++ R)) :=
  Wr.ent (L' := pt p (.ins C ad.dx (hF (hVals ad st))) :: pt ad.h (.lst (st.hands.map oV)) :: pt ad.d (.dK (kvS st.there ad.rs)) :: pt ad.o (.lst (st.old.map nV)) :: pt ad.s (.dK (kvT st.seen)) :: pt ad.r (.lst (st.seen.map nV)) :: (zc fL ad.rs (st.there.map st.rowAt) ++ R)) wr_hd (ent_unstar.trans Ent.drop)
theorem p_begin (T : HT K A) (he : ELe Ea E) (h : P_begin K A vs L Q Ea) : SS (t_begin K A E) { nx := fun _ L => Q .non L, rt := Q } (start N_begin vs) L := by
  obtain ⟨_, rfl, p, ad, st, R, rfl, rfl, w, q⟩ := h
  unfold t_begin
  refine s_use (fun H s => heap_len s) fun hl => ?_
  tm_at "go"
  refine do_boxes (Ent.refl _) w fun d => ?_
  tm_at "go"
  refine c_sortedN (Has.sq has_hd) (List.Perm.refl _) (w.nd.imp fun h => Nat.le_of_lt h) fun d2 => ?_
  tm_at "go"
  refine u_old T (has_tl (has_tl heap_ins)) (by with_unfolding_all exact Nat.le_of_ble_eq_true rfl) (wr_tl (wr_tl heap_wr_open)) ?_
  tm_at "go"
  have ent : Ent (pt d2 (.lst (st.there.map nV)) :: pt d (.lst (st.there.map nV)) :: pt p (.ins A.Heap ad.dx (hF (hVals { ad with o := d2 } { st with old := st.there, begun := st.rows.length, stage := .marking }))) :: pt ad.h (.lst (st.hands.map oV)) :: pt ad.d (.dK (kvS st.there ad.rs)) :: pt ad.o (.lst (st.old.map nV)) :: pt ad.s (.dK (kvT st.seen)) :: pt ad.r (.lst (st.seen.map nV)) :: (zc fL ad.rs (st.there.map st.rowAt) ++ R)) (HeapIs A.Heap p { ad with o := d2 } { st with old := st.there, begun := st.rows.length, stage := .marking } :: R) := by
    refine Ent.trans ?_ (ent_close (ad := { ad with o := d2 }) (st := { st with old := st.there, begun := st.rows.length, stage := .marking }) hl)
    refine (Ent.cons Ent.drop).trans ?_
    refine (ent_put 3 (by simp)).trans ?_
    exact Ent.cons (Ent.cons (Ent.cons (Ent.cons Ent.drop)))
  refine s_ent ent ?_
  have hw2 : HW { st with old := st.there, begun := st.rows.length, stage := .marking } := ⟨w.nd, w.lt, w.hands, w.big, w.rl, w.sn, fun b hb => Nat.lt_of_lt_of_le (w.sl b hb) w.bg, Nat.le_refl _⟩
  have q' := q { ad with o := d2 }
  unfold HS.begin_ at q'
  rw [show st.hands = ({ st with old := st.there, begun := st.rows.length, stage := .marking } : HS).hands from rfl] at q'
  generalize ({ st with old := st.there, begun := st.rows.length, stage := .marking } : HS) = s2 at hw2 q' ⊢
  generalize ({ ad with o := d2 } : HAd) = ad2 at q' ⊢
  refine s_forL ?_
  tm_at "go"
  refine ⟨ad2.h, s2.hands.map oV, rfl, Has.sq heap_h, fun i σ L' => (∃ v, σ = [some (.ref p), v]) ∧ L' = HeapIs A.Heap p ad2 (s2.markAll (s2.hands.take i)) :: R, ⟨⟨_, rfl⟩, rfl⟩, ?_, ?_, ?_⟩
  · rintro i σ L' hi ⟨_, rfl⟩
    have := @heap_h A.Heap p ad2 (s2.markAll (s2.hands.take i)) R
    rw [HS.markAll_hands] at this
    exact this.sq
  · rintro i x σ L' hx ⟨⟨v, rfl⟩, rfl⟩
    obtain ⟨o, ho, rfl⟩ := map_get hx
    tm_at "go"
    refine do_mark (Ent.refl _) (hw2.markAll _) ?_
    exact ⟨⟨_, rfl⟩, by rw [HS.markAll_snoc ho]⟩
  · rintro σ L' ⟨⟨v, rfl⟩, rfl⟩
    rw [List.length_map, List.take_length]
    exact q'
theorem p_look_at (T : HT K A) (he : ELe Ea E) (h : P_look_at K A vs L Q Ea) : SS (t_look_at K A E) { nx := fun _ L => Q .non L, rt := Q } (start N_look_at vs) L := by
  obtain ⟨_, rfl, p, ad, st, R, b, rfl, rfl, w, hs, hb, q⟩ := h
  unfold t_look_at
  refine s_use (fun H s => heap_len s) fun hl => ?_
  obtain ⟨j, hj, ej⟩ := List.getElem_of_mem hb
  have ej' : st.there[j]? = some b := by rw [List.getElem?_eq_getElem hj, ej]
  obtain ⟨a, ha⟩ : ∃ a, ad.rs[j]? = some a := ⟨_, List.getElem?_eq_getElem (by omega)⟩
  have hv := kvS_get w.nodup ej' ha
  have ebd : st.seen.getD st.looked 0 = b := by rw [List.getD_eq_getElem?_getD, hs]; rfl
  unfold HS.lookAt at q
  rw [ebd] at q
  tm_at "go"
  refine r_ixL (Has.sq heap_r) (atI_nat (map_at nV hs)) ?_
  tm_at "go"
  refine ⟨p, A.Heap, ad.dx, _, _, rfl, heap_ins, T.cl, T.n_looked, zip_lookup (i := 10) hN_nd rfl rfl, ?_⟩
  tm_at "go"
  refine ⟨_, ad.dx, _, _, rfl, heap_ins, hF_len _, (by unfold hF; rw [zip_putF (i := 10) hN_nd rfl (by with_unfolding_all exact Nat.le_of_ble_eq_true rfl)]; exact heap_wr_open), ?_⟩
  tm_at "go"
  refine s_ent (ent_close (ad := ad) (st := { st with looked := st.looked + 1 }) hl) ?_
  have hw2 : HW { st with looked := st.looked + 1 } := ⟨w.nd, w.lt, w.hands, w.big, w.rl, w.sn, w.sl, w.bg⟩
  rw [show st.rowAt b = ({ st with looked := st.looked + 1 } : HS).rowAt b from rfl] at q
  rw [show st.there = ({ st with looked := st.looked + 1 } : HS).there from rfl] at ej' hv
  generalize ({ st with looked := st.looked + 1 } : HS) = s2 at hw2 q ej' hv ⊢
  refine s_forL ?_
  tm_at "go"
  refine ⟨a, (s2.rowAt b).map oV, rfl, Has.sq (heap_row ha ej'), fun i σ L' => (∃ v2, σ = [some (.ref p), some (nV b), v2]) ∧ L' = HeapIs A.Heap p ad (s2.markAll ((s2.rowAt b).take i)) :: R, ⟨⟨_, rfl⟩, rfl⟩, ?_, ?_, ?_⟩
  · rintro i σ L' hi ⟨_, rfl⟩
    have := @heap_row A.Heap p ad (s2.markAll ((s2.rowAt b).take i)) R j b a ha (by rw [HS.markAll_there]; exact ej')
    unfold HS.rowAt at this
    rw [HS.markAll_rows] at this
    exact this.sq
  · rintro i x σ L' hx ⟨⟨v, rfl⟩, rfl⟩
    obtain ⟨o, ho, rfl⟩ := map_get hx
    tm_at "go"
    refine do_mark (Ent.refl _) (hw2.markAll _) ?_
    exact ⟨⟨_, rfl⟩, by rw [HS.markAll_snoc ho]⟩
  · rintro σ L' ⟨⟨v, rfl⟩, rfl⟩
    rw [List.length_map, List.take_length]
    exact q
theorem e_dpop1 {σ : L2.St} {td ty : TE} (h : SE td σ L fun x L1 => ∃ a kvs0, x = .ref a ∧ Has L1 a (.dK kvs0) ∧ SE ty σ L1 fun y L2 => ∃ n kvs v M, y = .int n ∧ Has L2 a (.dK kvs) ∧ valV kvs (Sum.inl n) = some v ∧ Wr L2 a (.dK (dropK kvs (Sum.inl n))) M ∧ Q v M) : SE (tDPop1 td ty) σ L Q := fun H s Qh k =>
  h H s _ fun x L1 H1 s1 ⟨a, kvs0, e, hh, h1⟩ => ⟨a, e, .inl ⟨kvs0, .inl (hh H1 s1)⟩, h1 H1 s1 _ fun y L2 H2 s2 ⟨n, kvs, v, M, e2, h2, hv, w, q⟩ => ⟨kvs, Sum.inl n, v, h2 H2 s2, e2, hv, k _ _ _ (w H2 s2).2 q⟩⟩
theorem map_erase {α β : Type} (f : α → β) : ∀ (xs : List α) (j : Nat), (xs.eraseIdx j).map f = (xs.map f).eraseIdx j
  | [], _ => rfl
  | _ :: _, 0 => rfl
  | x :: xs, j + 1 => by
    show f x :: (xs.eraseIdx j).map f = f x :: (xs.map f).eraseIdx j
    rw [map_erase f xs j]
theorem filter_erase : ∀ {xs : List Nat} {j b : Nat}, xs.Nodup → xs[j]? = some b → (xs.filter fun x => decide (x ≠ b)) = xs.eraseIdx j
  | [], _, _, _, h => by simp at h
  | x :: xs, 0, b, nd, h => by
    have e : x = b := Option.some.inj h
    subst e
    rw [List.filter_cons_of_neg (by simp)]
    exact List.filter_eq_self.mpr fun y hy => decide_eq_true fun z => (List.nodup_cons.mp nd).1 (z ▸ hy)
  | x :: xs, j + 1, b, nd, h => by
    have hm : b ∈ xs := List.mem_of_getElem? (show xs[j]? = some b from h)
    have hne : x ≠ b := fun z => (List.nodup_cons.mp nd).1 (z ▸ hm)
    rw [List.filter_cons_of_pos (by simpa using hne), filter_erase (List.nodup_cons.mp nd).2 h]
    rfl
theorem p_sweep (T : HT K A) (he : ELe Ea E) (h : P_sweep K A vs L Q Ea) : SS (t_sweep K A E) { nx := fun _ L => Q .non L, rt := Q } (start N_sweep vs) L := by
  obtain ⟨_, rfl, p, ad, st, R, b, rfl, rfl, w, hs, hb, q⟩ := h
  unfold t_sweep
  refine s_use (fun H s => heap_len s) fun hl => ?_
  have ebd : st.old.getD st.swept 0 = b := by rw [List.getD_eq_getElem?_getD, hs]; rfl
  unfold HS.sweep at q
  rw [ebd] at q
  refine s_postB ?_
  tm_at "go"
  refine r_ixL (Has.sq heap_o) (atI_nat (map_at nV hs)) ?_
  tm_at "go"
  refine ⟨p, A.Heap, ad.dx, _, _, rfl, heap_ins, T.cl, T.n_swept, zip_lookup (i := 11) hN_nd rfl rfl, ?_⟩
  tm_at "go"
  refine ⟨_, ad.dx, _, _, rfl, heap_ins, hF_len _, (by unfold hF; rw [zip_putF (i := 11) hN_nd rfl (by with_unfolding_all exact Nat.le_of_ble_eq_true rfl)]; exact heap_wr_open), ?_⟩
  tm_at "go"
  refine ex_c (fun c => ?_) fun c => ?_
  · rw [if_pos c] at q
    tm_at "go"
    exact ⟨_, ent_close (ad := ad) (st := { st with swept := st.swept + 1 }) hl, q ad⟩
  · rw [if_neg c] at q
    obtain ⟨j, hj, ej⟩ := List.getElem_of_mem (hb c)
    have ej' : st.there[j]? = some b := by rw [List.getElem?_eq_getElem hj, ej]
    obtain ⟨a, ha⟩ : ∃ a, ad.rs[j]? = some a := ⟨_, List.getElem?_eq_getElem (by omega)⟩
    have hv := kvS_get w.nodup ej' ha
    tm_at "go"
    refine e_dpop1 ?_
    tm_at "go"
    refine ⟨_, _, rfl, by tm_at "hs", ?_⟩
    tm_at "go"
    refine ⟨_, _, _, _, rfl, by tm_at "hs", hv, by tm_at "wr", ?_⟩
    rw [kvS_drop w.nodup hl ej']
    tm_at "go"
    refine ⟨_, ?_, q { ad with rs := ad.rs.eraseIdx j }⟩
    have hl2 : (ad.rs.eraseIdx j).length = (st.there.eraseIdx j).length := by
      rw [List.length_eraseIdx, List.length_eraseIdx, hl]
    have ef := filter_erase w.nodup ej'
    refine Ent.trans ?_ (ent_close (ad := { ad with rs := ad.rs.eraseIdx j }) (st := ({ st with swept := st.swept + 1 } : HS).free b) (by show _ = (st.there.filter _).length; rw [ef]; exact hl2))
    have e1 : (({ st with swept := st.swept + 1 } : HS).free b).there = st.there.eraseIdx j := ef
    rw [e1, map_erase]
    exact Ent.cons (Ent.cons (Ent.cons (Ent.cons (Ent.cons (Ent.cons zc_erase)))))
theorem do_rest {p : Addr} {ad : HAd} {st : HS} {R : AL} (hl : ad.rs.length = st.there.length) (q : ∀ ad' : HAd, ad'.rs = ad.rs → Q .non (HeapIs A.Heap p ad' st.rest :: R)) : ∃ L2, Ent (HeapIs A.Heap p ad st :: R) L2 ∧ P_rest K A [.ref p] L2 (fun v L1 => ∃ L2, Ent L1 L2 ∧ Q v L2) Ea := by
  refine ⟨_, ent_unstar.trans Ent.drop, _, rfl, p, ad.dx, .ref ad.h, nV st.room, .ref ad.d, nV st.rows.length, nV st.ended, [.str st.stage.str, .ref ad.o, nV st.begun, .ref ad.s, .ref ad.r, nV st.looked, nV st.swept], _, rfl, rfl, .inr rfl, fun o s r => ?_⟩
  refine ⟨_, ?_, q { ad with o := o, s := s, r := r } rfl⟩
  refine Ent.trans ?_ (ent_close (ad := { ad with o := o, s := s, r := r }) (st := st.rest) hl)
  -- p r s o h d (o) (s) (r) ..
  refine Ent.cons ?_
  refine (ent_pick 3 rfl).trans (Ent.cons ?_)
  refine (ent_pick 3 rfl).trans (Ent.cons ?_)
  refine (ent_pick 2 rfl).trans (Ent.cons ?_)
  refine ent_swap.trans (Ent.cons (Ent.cons ?_))
  exact Ent.drop.trans (Ent.drop.trans Ent.drop)
theorem p_settle (T : HT K A) (he : ELe Ea E) (h : P_settle K A vs L Q Ea) : SS (t_settle K A E) { nx := fun _ L => Q .non L, rt := Q } (start N_settle vs) L := by
  obtain ⟨_, rfl, p, ad, st, R, rfl, rfl, q⟩ := h
  unfold t_settle
  refine s_use (fun H s => heap_len s) fun hl => ?_
  unfold HS.settle at q
  refine s_seq ?_
  refine s_mid (Mid := fun σ L' => σ = [some (.ref p)] ∧ L' = HeapIs A.Heap p ad st.settle1 :: R) ?_ ?_
  · tm_at "go"
    refine ex_c (fun c => ?_) fun c => ?_
    · have c' : st.stage = .marking := stg_inj c
      tm_at "go"
      refine ex_c (fun c2 => ?_) fun c2 => ?_
      · have c2' : st.looked = st.seen.length := by
          have := V.int.inj c2
          rw [List.length_map] at this
          omega
        have e : st.settle1 = { st with stage := .sweeping } := by unfold HS.settle1; rw [if_pos ⟨c', c2'⟩]
        rw [e]
        tm_at "go"
        refine u_stage T heap_ins (by with_unfolding_all exact Nat.le_of_ble_eq_true rfl) heap_wr_open ?_
        exact ⟨_, ent_close (ad := ad) (st := { st with stage := .sweeping }) hl, rfl, rfl⟩
      · have e : st.settle1 = st := by
          unfold HS.settle1
          rw [if_neg fun z => c2 (by rw [z.2, List.length_map])]
        rw [e]
        exact s_next ⟨_, Ent.refl _, rfl, rfl⟩
    · have e : st.settle1 = st := by
        unfold HS.settle1
        rw [if_neg fun z => c (by rw [z.1]; rfl)]
      rw [e]
      exact both_f (s_next ⟨_, Ent.refl _, rfl, rfl⟩)
  · rintro σ L' ⟨rfl, rfl⟩
    have hl2 : ad.rs.length = st.settle1.there.length := by
      unfold HS.settle1
      split <;> exact hl
    generalize st.settle1 = s2 at q hl2 ⊢
    refine s_post ?_
    tm_at "go"
    refine ex_c (fun c => ?_) fun c => ?_
    · have c' : s2.stage = .sweeping := stg_inj c
      tm_at "go"
      refine ex_c (fun c2 => ?_) fun c2 => ?_
      · have c2' : s2.swept = s2.old.length := by
          have := V.int.inj c2
          rw [List.length_map] at this
          omega
        have e : s2.settle2 = { s2.rest with ended := s2.ended + 1 } := by unfold HS.settle2; rw [if_pos ⟨c', c2'⟩]
        rw [e] at q
        refine s_seq (s_drop (e_post ?_))
        tm_at "go"
        refine do_rest hl2 fun ad' had => ?_
        tm_at "go"
        refine ⟨p, A.Heap, ad'.dx, _, _, rfl, heap_ins, T.cl, T.n_ended, zip_lookup (i := 4) hN_nd rfl rfl, ?_⟩
        tm_at "go"
        refine ⟨_, ad'.dx, _, _, rfl, heap_ins, hF_len _, (by unfold hF; rw [zip_putF (i := 4) hN_nd rfl (by with_unfolding_all exact Nat.le_of_ble_eq_true rfl)]; exact heap_wr_open), ?_⟩
        exact ⟨_, ent_close (ad := ad') (st := { s2.rest with ended := s2.ended + 1 }) (by rw [had]; exact hl2), q ad'⟩
      · have e : s2.settle2 = s2 := by
          unfold HS.settle2
          rw [if_neg fun z => c2 (by rw [z.2, List.length_map])]
        rw [e] at q
        exact s_next ⟨_, Ent.refl _, q ad⟩
    · have e : s2.settle2 = s2 := by
        unfold HS.settle2
        rw [if_neg fun z => c (by rw [z.1]; rfl)]
      rw [e] at q
      exact both_f (s_next ⟨_, Ent.refl _, q ad⟩)
end
/-! A piece, and many. -/
section
variable {K : PySem.W.Frag} {A : Ex} {E : XK} {vs : List V} {L : AL} {Q : V → AL → Prop} {Ea : Value → AL → Prop}
theorem p_piece (T : HT K A) (he : ELe Ea E) (h : P_piece K A vs L Q Ea) : SS (t_piece K A E) { nx := fun _ L => Q .non L, rt := Q } (start N_piece vs) L := by
  obtain ⟨_, rfl, p, ad, st, R, rfl, rfl, w, pc, q⟩ := h
  unfold t_piece
  unfold HS.piece at q
  tm_at "go"
  refine ex_c (fun c => ?_) fun c => ?_
  · have c' : st.stage = .idle := stg_inj c
    rw [c'] at q
    tm_at "go"
    refine do_begin (Ent.refl _) w fun ad2 => ?_
    tm_at "go"
    refine do_settle (Ent.refl _) fun ad3 => ?_
    tm_at "go"
    exact q ad3
  · tm_at "go"
    refine ex_c (fun c2 => ?_) fun c2 => ?_
    · have c' : st.stage = .marking := stg_inj c2
      obtain ⟨b, h1, h2⟩ := pc.mrk c'
      rw [c'] at q
      tm_at "go"
      refine do_look_at (Ent.refl _) w h1 h2 ?_
      tm_at "go"
      refine do_settle (Ent.refl _) fun ad3 => ?_
      tm_at "go"
      exact q ad3
    · have c' : st.stage = .sweeping := by
        cases e : st.stage with
        | idle => exact absurd (by rw [e]; rfl) c
        | marking => exact absurd (by rw [e]; rfl) c2
        | sweeping => rfl
      obtain ⟨b, h1, h2⟩ := pc.sw c'
      rw [c'] at q
      tm_at "go"
      refine do_sweep (Ent.refl _) w h1 h2 fun ad2 => ?_
      tm_at "go"
      refine do_settle (Ent.refl _) fun ad3 => ?_
      tm_at "go"
      exact q ad3
theorem work_len (n : Nat) (st : HS) : (HS.work n st).2.length ≤ n := by
  induction n with
  | zero => exact Nat.le_refl _
  | succ n ih =>
    show ((HS.work n st).2 ++ (HS.work n st).1.piece.2.toList).length ≤ n + 1
    rw [List.length_append]
    have : (HS.work n st).1.piece.2.toList.length ≤ 1 := by cases (HS.work n st).1.piece.2 <;> simp
    omega
theorem p_work (T : HT K A) (he : ELe Ea E) (h : P_work K A vs L Q Ea) : SS (t_work K A E) { nx := fun _ L => Q .non L, rt := Q } (start N_work vs) L := by
  obtain ⟨_, _, rfl, p, ad, st, R, n, rfl, rfl, rfl, q1, q2⟩ := h
  unfold t_work
  tm_at "go"
  refine ex_not (fun c => s_raise he (q1 c)) fun c => ?_
  obtain ⟨hw, q⟩ := q2 c
  have hn : n = ((n.toNat : Nat) : Int) := by omega
  generalize n.toNat = m at hn q
  subst hn
  tm_at "go"
  refine ⟨by show 0 ≤ sizeLine; decide, fun d => ?_⟩
  tm_at "go"
  refine s_forR1 ?_
  tm_at "go"
  refine ⟨(m : Int), rfl, by omega, by omega, fun i σ L' => ∃ (ad : HAd) (v3 v4 : Option V), σ = [some (.ref p), some (nV m), some (.ref d), v3, v4] ∧ L' = pt d (.lst ((HS.work i st).2.map nV)) :: HeapIs A.Heap p ad (HS.work i st).1 :: R, ⟨ad, _, _, rfl, rfl⟩, ?_, ?_⟩
  · rintro i σ L' hi ⟨ad, v3, v4, rfl, rfl⟩
    obtain ⟨w, pw⟩ := hw i hi
    have hlen := work_len i st
    refine s_post ?_
    tm_at "go"
    refine do_piece (R := pt d (.lst ((HS.work i st).2.map nV)) :: R) ent_swap w pw fun ad2 => ?_
    have e2 : (HS.work (i + 1) st).2 = (HS.work i st).2 ++ (HS.work i st).1.piece.2.toList := rfl
    cases ep : (HS.work i st).1.piece.2 with
    | none =>
      rw [ep] at e2
      tm_at "go"
      refine ⟨false, rfl, both_f (s_next ?_)⟩
      refine ⟨_, ent_swap, ad2, _, _, rfl, ?_⟩
      show _ = pt d (.lst ((HS.work (i + 1) st).2.map nV)) :: _
      rw [e2, show Option.toList (none : Option Nat) = [] from rfl, List.append_nil]
      rfl
    | some b =>
      rw [ep] at e2
      tm_at "go"
      refine ⟨true, rfl, both_t ?_⟩
      tm_at "go"
      refine r_append (by tm_at "hs") (small5 (by rw [List.length_map]; omega)) (by tm_at "wr") ?_
      refine ⟨_, ent_swap, ad2, _, _, rfl, ?_⟩
      show _ = pt d (.lst ((HS.work (i + 1) st).2.map nV)) :: _
      rw [e2, show Option.toList (some b) = [b] from rfl, List.map_append]
      rfl
  · rintro σ L' ⟨ad, v3, v4, rfl, rfl⟩
    tm_at "go"
    exact q d ad
end
/-! list.remove over numbers. -/
section
variable {L M : AL} {Q : V → AL → Prop}
theorem r_rem {l : Addr} {xs : List Nat} {b : Nat} (nd : xs.Nodup) (hb : b ∈ xs) (h : Has L l (.lst (xs.map nV))) (w : Wr L l (.lst ((xs.filter fun x => decide (x ≠ b)).map nV)) M) (q : Q .non M) : RE (rRemI (.ref l) [nV b]) L Q := fun H s Qh k => by
  obtain ⟨j, hj, ej⟩ := List.getElem_of_mem hb
  have ej' : xs[j]? = some b := by rw [List.getElem?_eq_getElem hj, ej]
  refine ⟨l, xs.map fun (n : Nat) => (n : Int), (b : Int), j, rfl, rfl, ?_, ?_, fun m hm e => ?_, ?_⟩
  · rw [← map_nV_int]; exact h H s
  · rw [List.getElem?_map, ej']; rfl
  · rw [List.getElem?_map] at e
    cases e2 : xs[m]? with
    | none => rw [e2] at e; cases e
    | some c =>
      rw [e2] at e
      have e3 : (c : Int) = (b : Int) := Option.some.inj e
      have e4 : c = b := by omega
      subst e4
      have hml : m < xs.length := (List.getElem?_eq_some_iff.mp e2).1
      have := (List.getElem_inj (h₀ := hml) (h₁ := hj) nd).mp ((List.getElem?_eq_some_iff.mp e2).2.trans ej.symm)
      omega
  · have e : (xs.map fun (n : Nat) => (n : Int)).eraseIdx j = (xs.filter fun x => decide (x ≠ b)).map fun (n : Nat) => (n : Int) := by rw [filter_erase nd ej', map_erase]
    rw [e, ← map_nV_int]
    exact k _ _ _ (w H s).2 q
end
/-! Going through the boxes, first come first. -/
def mk (s : List Nat) : Option Nat → List Nat
  | none => s
  | some b => if b ∈ s then s else s ++ [b]
def mks (s : List Nat) (os : List (Option Nat)) : List Nat := os.foldl mk s
def lev (rw : Rw) (s0 : List Nat) : Nat → List Nat
  | 0 => s0
  | n + 1 => mks (lev rw s0 n) (rowOf rw ((lev rw s0 n).getD n 0))
theorem mks_snoc {s : List Nat} {os : List (Option Nat)} {i : Nat} {o : Option Nat} (h : os[i]? = some o) : mks s (os.take (i + 1)) = mk (mks s (os.take i)) o := by
  unfold mks
  rw [take_snoc h, List.foldl_append]
  rfl
theorem mk_pre (s : List Nat) (o : Option Nat) : s <+: mk s o := by
  cases o with
  | none => exact List.prefix_refl _
  | some b =>
    unfold mk
    simp only
    split
    · exact List.prefix_refl _
    · exact List.prefix_append _ _
theorem mks_pre (s : List Nat) (os : List (Option Nat)) : s <+: mks s os := by
  unfold mks
  induction os generalizing s with
  | nil => exact List.prefix_refl _
  | cons o os ih => exact (mk_pre s o).trans (ih _)
theorem lev_pre (rw : Rw) (s0 : List Nat) (n k : Nat) : lev rw s0 n <+: lev rw s0 (n + k) := by
  induction k with
  | zero => exact List.prefix_refl _
  | succ k ih => exact ih.trans (mks_pre _ _)
theorem mk_nd {s : List Nat} (h : s.Nodup) (o : Option Nat) : (mk s o).Nodup := by
  cases o with
  | none => exact h
  | some b =>
    unfold mk
    simp only
    split
    · exact h
    · exact nd_app h ‹_›
theorem mks_nd {s : List Nat} (h : s.Nodup) (os : List (Option Nat)) : (mks s os).Nodup := by
  unfold mks
  induction os generalizing s with
  | nil => exact h
  | cons o os ih => exact ih (mk_nd h o)
theorem mk_lt {s : List Nat} {m : Nat} (h : ∀ b ∈ s, b < m) {o : Option Nat} (ho : ∀ b, o = some b → b < m) : ∀ b ∈ mk s o, b < m := by
  cases o with
  | none => exact h
  | some c =>
    unfold mk
    simp only
    split
    · exact h
    · intro b hb
      rcases List.mem_append.mp hb with x | x
      · exact h b x
      · rw [List.mem_singleton.mp x]; exact ho c rfl
theorem mks_lt {m : Nat} : ∀ {os : List (Option Nat)} {s : List Nat}, (∀ b ∈ s, b < m) → (∀ b, some b ∈ os → b < m) → ∀ b ∈ mks s os, b < m
  | [], s, h, _ => h
  | o :: os, s, h, ho => by
    show ∀ b ∈ mks (mk s o) os, b < m
    exact mks_lt (mk_lt h fun b e => ho b (e ▸ List.mem_cons_self)) fun b hb => ho b (List.mem_cons_of_mem _ hb)
theorem rowOf_lt {hs : Hs} {rw : Rw} (w : PW hs rw) (c : Nat) : ∀ b, some b ∈ rowOf rw c → b < rw.length := fun b hb => by
  by_cases h : c < rw.length
  · exact w.r _ (getD_mem h) b hb
  · unfold rowOf at hb
    rw [List.getD_eq_getElem?_getD, List.getElem?_eq_none (by omega)] at hb
    cases hb
theorem rowOf_len {hs : Hs} {rw : Rw} (w : PW hs rw) (c : Nat) : (rowOf rw c).length ≤ 4 := by
  by_cases h : c < rw.length
  · exact w.l _ (getD_mem h)
  · unfold rowOf
    rw [List.getD_eq_getElem?_getD, List.getElem?_eq_none (by omega)]
    exact Nat.zero_le _
theorem lev_nd (rw : Rw) {s0 : List Nat} (h : s0.Nodup) (n : Nat) : (lev rw s0 n).Nodup := by
  induction n with
  | zero => exact h
  | succ n ih => exact mks_nd ih _
theorem lev_lt {hs : Hs} {rw : Rw} (w : PW hs rw) {s0 : List Nat} (h : ∀ b ∈ s0, b < rw.length) (n : Nat) : ∀ b ∈ lev rw s0 n, b < rw.length := by
  induction n with
  | zero => exact h
  | succ n ih => exact mks_lt ih (rowOf_lt w _)
/-- what is come to from these hands, behind n looks -/
abbrev cm (hs : Hs) (rw : Rw) (n : Nat) : List Nat := lev rw (mks [] hs) n
theorem cm_nd (hs : Hs) (rw : Rw) (n : Nat) : (cm hs rw n).Nodup := lev_nd rw (mks_nd List.nodup_nil _) n
theorem cm_lt {hs : Hs} {rw : Rw} (w : PW hs rw) (n : Nat) : ∀ b ∈ cm hs rw n, b < rw.length := lev_lt w (mks_lt (fun _ h => absurd h List.not_mem_nil) w.h) n
theorem cm_len {hs : Hs} {rw : Rw} (w : PW hs rw) (n : Nat) : (cm hs rw n).length ≤ rw.length := nodup_bound _ (cm_nd hs rw n) (cm_lt w n)
/-- the row of marks -/
def flags (n : Nat) (s : List Nat) : List V := (List.range n).map fun i => V.bl (decide (i ∈ s))
theorem flags_at {n : Nat} {s : List Nat} {b : Nat} (h : b < n) : (flags n s)[b]? = some (.bl (decide (b ∈ s))) := by
  unfold flags
  rw [List.getElem?_map, List.getElem?_range h]; rfl
theorem flags_set {n : Nat} {s : List Nat} {b : Nat} (h : b < n) : (flags n s).set b (.bl true) = flags n (s ++ [b]) := by
  refine List.ext_getElem? fun i => ?_
  unfold flags
  rw [List.getElem?_set, List.length_map, List.length_range, List.getElem?_map, List.getElem?_map]
  by_cases c : b = i
  · subst c
    rw [if_pos rfl, if_pos h, List.getElem?_range h]
    simp
  · rw [if_neg c]
    cases e : (List.range n)[i]? with
    | none => rfl
    | some x =>
      have hx : x = i := by
        have hi : i < n := by
          have := (List.getElem?_eq_some_iff.mp e).1
          rwa [List.length_range] at this
        rw [List.getElem?_range hi] at e
        exact (Option.some.inj e).symm
      subst hx
      have : (x ∈ s ++ [b]) = (x ∈ s) := by
        simp [show x ≠ b from fun z => c z.symm]
      simp only [Option.map_some, this]
theorem flags_len (n : Nat) (s : List Nat) : (flags n s).length = n := by unfold flags; rw [List.length_map, List.length_range]
def P_law_came (K : PySem.W.Frag) (_ : Ex) : Pm := pm2 fun x y L Q _ => ∃ (h p : Addr) (as : List Addr) (hs : Hs) (rw : Rw), x = .ref h ∧ y = .ref p ∧ SqA K L h (hs.map oV) ∧ RdRows K L p as rw ∧ rw.length ≤ 90000 ∧ PW hs rw ∧
  ∀ (d : Addr) (N : Nat), (∀ n, n < N → n < (cm hs rw n).length) → N = (cm hs rw N).length → Q (.ref d) (pt d (.lst ((cm hs rw N).map nV)) :: L)
def N_law_came : List Str := ["_law_hands", "_law_rows", "_law_came_here", "_law_met", "_law_box", "_law_at", "_law_row"]
def t_law_came (K : PySem.W.Frag) (A : Ex) (E : XK) : TS :=
    (tSeq (tAsg (tLst tNil) (gName 2))
    (tSeq (tAsg (tLc (iList K (tVar 1)) (gName 6) tYes (tC (.bl false)) [6]) (gName 3))
    (tSeq (tFor (iList K (tVar 0)) (gName 4)
      (tIfS (tAnd (tTest (tOp rNotNo (tVar 4) (tC .non))) (tNot (tB (tOp (rIxL K) (tVar 3) (tVar 4))))) (tSeq (tAsg (tC (.bl true)) (gSub (tVar 3) (tVar 4) rSetL))
    (tDrop (tBM K "list" rAppend (tVar 2) (tCons (tVar 4) tNil)))) tNext))
    (tSeq (tAsg (tC (.int 0)) (gName 5))
    (tSeq (tWhile (tTest (tOp rLtI (tVar 5) (tCB (rLen K) (tCons (tVar 2) tNil))))
      (tSeq (tFor (iList K (tOp (rIxL K) (tVar 1) (tOp (rIxL K) (tVar 2) (tVar 5)))) (gName 4)
      (tIfS (tAnd (tTest (tOp rNotNo (tVar 4) (tC .non))) (tNot (tB (tOp (rIxL K) (tVar 3) (tVar 4))))) (tSeq (tAsg (tC (.bl true)) (gSub (tVar 3) (tVar 4) rSetL))
    (tDrop (tBM K "list" rAppend (tVar 2) (tCons (tVar 4) tNil)))) tNext))
    (tAug 5 (tC (.int 1)) (ipI fun i j => i + j))))
    (tRet (tVar 2)))))))
section
variable {K : PySem.W.Frag} {A : Ex} {E : XK} {vs : List V} {L : AL} {Q : V → AL → Prop} {Ea : Value → AL → Prop}
abbrev came1 (K : PySem.W.Frag) : TS := (tIfS (tAnd (tTest (tOp rNotNo (tVar 4) (tC .non))) (tNot (tB (tOp (rIxL K) (tVar 3) (tVar 4))))) (tSeq (tAsg (tC (.bl true)) (gSub (tVar 3) (tVar 4) rSetL))
    (tDrop (tBM K "list" rAppend (tVar 2) (tCons (tVar 4) tNil)))) tNext)
theorem came1_ok {N B C : L2.St → AL → Prop} {QR : V → AL → Prop} {v0 v1 v5 v6 : Option V} {c f : Addr} {R : AL} {m : Nat} {s : List Nat} {o : Option Nat} (hs : s.length ≤ 90000) (ho : ∀ b, o = some b → b < m)
    (hN : N [v0, v1, some (.ref c), some (.ref f), some (oV o), v5, v6] (pt f (.lst (flags m (mk s o))) :: pt c (.lst ((mk s o).map nV)) :: R)) :
    SS (came1 K) { nx := N, rt := QR, bk := B, ct := C } [v0, v1, some (.ref c), some (.ref f), some (oV o), v5, v6] (pt f (.lst (flags m s)) :: pt c (.lst (s.map nV)) :: R) := by
  unfold came1
  cases o with
  | none =>
    tm_at "go"
    refine ⟨false, rfl, both_f (both_f (s_next hN))⟩
  | some b =>
    have hb := ho b rfl
    tm_at "go"
    refine ⟨true, rfl, both_t ?_⟩
    tm_at "go"
    refine r_ixL (Has.sq has_hd) (atI_nat (flags_at hb)) ?_
    by_cases c1 : b ∈ s
    · have e : mk s (some b) = s := if_pos c1
      rw [e] at hN
      rw [decide_eq_true c1]
      exact ⟨true, rfl, both_f (s_next hN)⟩
    · have e : mk s (some b) = s ++ [b] := if_neg c1
      rw [e] at hN
      rw [decide_eq_false c1]
      refine ⟨false, rfl, both_t ?_⟩
      tm_at "go"
      refine r_setL has_hd (ixN_nat (by rw [flags_len]; exact hb)) wr_hd ?_
      rw [flags_set hb]
      tm_at "go"
      refine r_append (by tm_at "hs") (small5 (by rw [List.length_map]; omega)) (by tm_at "wr") ?_
      rw [List.map_append] at hN
      exact hN
theorem p_law_came (he : ELe Ea E) (h : P_law_came K A vs L Q Ea) : SS (t_law_came K A E) { nx := fun _ L => Q .non L, rt := Q } (start N_law_came vs) L := by
  obtain ⟨_, _, rfl, h, p, as, hs, rw, rfl, rfl, hh, hr, hz, pw, q⟩ := h
  unfold t_law_came
  refine s_postB ?_
  have halen := hr.len
  have hal : (as.map V.ref).length = rw.length := by rw [List.length_map]; exact hr.len
  have hsl : ∀ os : List (Option Nat), (∀ b, some b ∈ os → b < rw.length) → ∀ s : List Nat, s.Nodup → (∀ b ∈ s, b < rw.length) → ∀ i, (mks s (os.take i)).length ≤ 90000 := fun os ho s hn hl i => by
    have := nodup_bound _ (mks_nd hn (os.take i)) (mks_lt hl fun b hb => ho b (List.mem_of_mem_take hb))
    omega
  tm_at "gn"
  refine ⟨by show 0 ≤ sizeLine; decide, fun c => ?_⟩
  tm_at "gn"
  refine e_lcPlainL (fun _ => true) (fun _ => .bl false) (a0 := p) (xs := as.map V.ref) (by omega) (fun _ => rfl) (by tm_at "go"; exact ⟨rfl, rfl⟩) (sq_tl hr.top) (fun x hx L' en => t_yes ⟨rfl, rfl⟩) (fun x hx _ L' en => e_c ⟨rfl, rfl⟩) fun f => ?_
  have e0 : (((as.map V.ref).filter fun _ => true).map fun _ => V.bl false) = flags rw.length [] := by
    rw [List.filter_eq_self.mpr (fun _ _ => rfl), ← halen]
    unfold flags
    refine List.ext_getElem? fun i => ?_
    by_cases c : i < as.length
    · rw [List.getElem?_map, List.getElem?_map, List.getElem?_map, List.getElem?_range c, List.getElem?_eq_getElem c]; rfl
    · rw [List.getElem?_eq_none (by simp; omega), List.getElem?_eq_none (by simp; omega)]
  rw [e0]
  tm_at "gn"
  refine s_mid (Mid := fun σ L' => (∃ v4 v5 v6, σ = [some (.ref h), some (.ref p), some (.ref c), some (.ref f), v4, v5, v6]) ∧ L' = pt f (.lst (flags rw.length (cm hs rw 0))) :: pt c (.lst ((cm hs rw 0).map nV)) :: L) ?_ ?_
  · refine s_forL ?_
    tm_at "go"
    refine ⟨h, hs.map oV, rfl, sq_tl (sq_tl hh), fun i σ L' => (∃ v4 v5 v6, σ = [some (.ref h), some (.ref p), some (.ref c), some (.ref f), v4, v5, v6]) ∧ L' = pt f (.lst (flags rw.length (mks [] (hs.take i)))) :: pt c (.lst ((mks [] (hs.take i)).map nV)) :: L, ⟨⟨_, _, _, rfl⟩, rfl⟩, ?_, ?_, ?_⟩
    · rintro i σ L' hi ⟨_, rfl⟩
      exact sq_tl (sq_tl hh)
    · rintro i x σ L' hx ⟨⟨v4, v5, v6, rfl⟩, rfl⟩
      obtain ⟨o, ho, rfl⟩ := map_get hx
      refine came1_ok (hsl hs pw.h [] List.nodup_nil (fun _ h => absurd h List.not_mem_nil) i) (fun b e => pw.h b (e ▸ List.mem_of_getElem? ho)) ?_
      exact ⟨⟨_, _, _, rfl⟩, by rw [mks_snoc ho]⟩
    · rintro σ L' ⟨⟨v4, v5, v6, rfl⟩, rfl⟩
      rw [List.length_map, List.take_length]
      exact ⟨_, Ent.refl _, ⟨_, _, _, rfl⟩, rfl⟩
  · rintro σ L' ⟨⟨v4, v5, v6, rfl⟩, rfl⟩
    tm_at "gn"
    refine s_mid (Mid := fun σ L' => ∃ N, (∀ n, n < N → n < (cm hs rw n).length) ∧ N = (cm hs rw N).length ∧ (∃ v4 v5 v6, σ = [some (.ref h), some (.ref p), some (.ref c), some (.ref f), v4, v5, v6]) ∧ L' = pt c (.lst ((cm hs rw N).map nV)) :: L) ?_ ?_
    · refine s_while (fun k σ L' => ∃ n, n + k = rw.length + 1 ∧ (∀ j, j < n → j < (cm hs rw j).length) ∧ (∃ v4 v6, σ = [some (.ref h), some (.ref p), some (.ref c), some (.ref f), v4, some (nV n), v6]) ∧ L' = pt f (.lst (flags rw.length (cm hs rw n))) :: pt c (.lst ((cm hs rw n).map nV)) :: L) ⟨rw.length + 1, 0, by omega, (fun _ h => absurd h (Nat.not_lt_zero _)), ⟨_, _, rfl⟩, rfl⟩ ?_
      rintro k σ L' ⟨n, hk, hj, ⟨v4, v6, rfl⟩, rfl⟩
      have hcl := cm_len pw n
      tm_at "go"
      rw [List.length_map]
      refine ex_c (fun c1 => ?_) fun c1 => ?_
      · have c1' : n < (cm hs rw n).length := by omega
        obtain ⟨b, hb⟩ : ∃ b, (cm hs rw n)[n]? = some b := ⟨_, List.getElem?_eq_getElem c1'⟩
        have hbl : b < rw.length := cm_lt pw n b (List.mem_of_getElem? hb)
        have hbd : (cm hs rw n).getD n 0 = b := by rw [List.getD_eq_getElem?_getD, hb]; rfl
        obtain ⟨a, ha⟩ := as_ex (as := as) (b := b) (by omega)
        have enext : cm hs rw (n + 1) = mks (cm hs rw n) (rowOf rw b) := by show mks _ (rowOf rw ((cm hs rw n).getD n 0)) = _; rw [hbd]
        refine s_seq ?_
        refine s_forL ?_
        tm_at "go"
        refine r_ixL (Has.sq (has_tl has_hd)) (atI_nat (map_at nV hb)) ?_
        refine r_ixL (sq_tl (sq_tl hr.top)) (atI_nat (as_get ha)) ?_
        refine ⟨a, (rowOf rw b).map oV, rfl, sq_tl (sq_tl (hr.row b a _ ha (rw_get hbl))), fun i σ L' => (∃ v4 v6, σ = [some (.ref h), some (.ref p), some (.ref c), some (.ref f), v4, some (nV n), v6]) ∧ L' = pt f (.lst (flags rw.length (mks (cm hs rw n) ((rowOf rw b).take i)))) :: pt c (.lst ((mks (cm hs rw n) ((rowOf rw b).take i)).map nV)) :: L, ⟨⟨_, _, rfl⟩, rfl⟩, ?_, ?_, ?_⟩
        · rintro i σ L' hi ⟨_, rfl⟩
          exact sq_tl (sq_tl (hr.row b a _ ha (rw_get hbl)))
        · rintro i x σ L' hx ⟨⟨v4, v6, rfl⟩, rfl⟩
          obtain ⟨o, ho, rfl⟩ := map_get hx
          refine came1_ok (hsl _ (rowOf_lt pw b) _ (cm_nd hs rw n) (cm_lt pw n) i) (fun x e => rowOf_lt pw b x (e ▸ List.mem_of_getElem? ho)) ?_
          exact ⟨⟨_, _, rfl⟩, by rw [mks_snoc ho]⟩
        · rintro σ L' ⟨⟨v4, v6, rfl⟩, rfl⟩
          rw [List.length_map, List.take_length, ← enext]
          refine s_aug (x := (n : Int)) rfl ?_
          tm_at "go"
          refine ⟨1, rfl, k - 1, by omega, n + 1, by omega, fun j h => ?_, ⟨_, _, rfl⟩, rfl⟩
          by_cases c : j = n
          · rw [c]; exact c1'
          · exact hj j (by omega)
      · refine ⟨_, Ent.drop, n, hj, ?_, ⟨_, _, _, rfl⟩, rfl⟩
        by_cases c2 : n = 0
        · omega
        · obtain ⟨n', rfl⟩ : ∃ n', n = n' + 1 := ⟨n - 1, by omega⟩
          have h1 := hj n' (by omega)
          have h2 := (lev_pre rw (mks [] hs) n' 1).length_le
          have h3 : ¬ n' + 1 < (cm hs rw (n' + 1)).length := by omega
          show n' + 1 = (cm hs rw (n' + 1)).length
          have h4 : (cm hs rw n').length ≤ (cm hs rw (n' + 1)).length := h2
          omega
    · rintro σ L' ⟨N, h1, h2, ⟨v4, v5, v6, rfl⟩, rfl⟩
      tm_at "go"
      exact ⟨_, Ent.refl _, q c N h1 h2⟩
end
/-! What k07 asks: the chain, the state that is told. -/
theorem dpAll {K : PySem.W.Frag} {H : Hp} : ∀ xs : List Nat, DpAll K H (xs.map nV) (xs.map fun (n : Nat) => .int (n : Int))
  | [] => .nil
  | _ :: xs => .cons (.int _) (dpAll xs)
theorem eqv_nil (xs : List Nat) : PyData.eqv (.list (xs.map fun (n : Nat) => .int (n : Int))) (.list []) = xs.isEmpty := by
  cases xs <;> simp [PyData.eqv, PyData.eqvAll]
theorem lay_nat : ∀ xs : List Nat, PyData.canLayAll0 (xs.map fun (n : Nat) => PyData.int (n : Int)) = true
  | [] => rfl
  | _ :: r => by simp [PyData.canLayAll0, PyData.canLay0, lay_nat r]
theorem depth_nat : ∀ xs : List Nat, PyData.depthAll (xs.map fun (n : Nat) => PyData.int (n : Int)) = 0
  | [] => rfl
  | _ :: r => by simp [PyData.depthAll, PyData.depth, depth_nat r]
theorem shaped_nat (xs : List Nat) : SeqAt.shaped (.list (xs.map fun (n : Nat) => PyData.int (n : Int))) = true := by
  simp [SeqAt.shaped, PyData.canLay0, PyData.depth, lay_nat, depth_nat]
theorem r_neE {K : PySem.W.Frag} {L : AL} {Q : V → AL → Prop} {a b : Addr} {xs : List Nat} (h : SqA K L a (xs.map nV)) (h2 : SqA K L b []) (q : Q (.bl (!xs.isEmpty)) L) : RE (rNeD K (.ref a) (.ref b)) L Q := fun H s Qh k =>
  ⟨.list (xs.map fun (n : Nat) => .int (n : Int)), .list [], .lst (h H s) (dpAll xs), .lst (h2 H s) .nil, shaped_nat xs, shaped_nat [], by rw [eqv_nil]; exact k _ _ _ s q⟩
theorem r_eqE {K : PySem.W.Frag} {L : AL} {Q : V → AL → Prop} {a b : Addr} {xs : List Nat} (h : SqA K L a (xs.map nV)) (h2 : SqA K L b []) (q : Q (.bl xs.isEmpty) L) : RE (rEqD K (.ref a) (.ref b)) L Q := fun H s Qh k =>
  ⟨.list (xs.map fun (n : Nat) => .int (n : Int)), .list [], .lst (h H s) (dpAll xs), .lst (h2 H s) .nil, shaped_nat xs, shaped_nat [], by rw [eqv_nil]; exact k _ _ _ s q⟩
theorem inV_nat (b : Nat) (xs : List Nat) : inV (nV b) (xs.map nV) = decide (b ∈ xs) := by
  unfold inV
  induction xs with
  | nil => simp
  | cons x xs ih =>
    rw [List.map_cons, List.any_cons, ih]
    have : eqV (nV x) (nV b) = decide (b = x) := by
      show ((x : Int) == (b : Int)) = decide (b = x)
      by_cases c : b = x
      · subst c; simp
      · rw [decide_eq_false c]; simp; omega
    rw [this]
    by_cases c : b = x <;> simp [c]
theorem flat_nat (xs : List Nat) : (xs.map nV).all flatV = true := by
  induction xs with
  | nil => rfl
  | cons x xs ih => rw [List.map_cons, List.all_cons, ih]; rfl
theorem r_inN {K : PySem.W.Frag} {L : AL} {Q : V → AL → Prop} {a : Addr} {b : Nat} {xs : List Nat} (h : SqA K L a (xs.map nV)) (q : Q (.bl (decide (b ∈ xs))) L) : RE (rIn K false (nV b) (.ref a)) L Q := r_inL h rfl (flat_nat xs) (by rw [if_neg Bool.false_ne_true, inV_nat]; exact q)
theorem r_notInN {K : PySem.W.Frag} {L : AL} {Q : V → AL → Prop} {a : Addr} {b : Nat} {xs : List Nat} (h : SqA K L a (xs.map nV)) (q : Q (.bl (!decide (b ∈ xs))) L) : RE (rIn K true (nV b) (.ref a)) L Q := r_inL h rfl (flat_nat xs) (by rw [if_pos rfl, inV_nat]; exact q)
def P_law_chain (K : PySem.W.Frag) (A : Ex) : Pm := pm4 fun x y z u L Q _ => ∃ (p h r : Addr) (as : List Addr) (ad : HAd) (st : HS) (R : AL) (m k n : Nat), x = .ref p ∧ y = .ref h ∧ z = .ref r ∧ u = nV n ∧ L = HeapIs A.Heap p ad st :: pt h (.lst (st.hands.map oV)) :: RowsA r as st.rows :: R ∧ as.length = st.rows.length ∧ I4 st m k ∧ 2 ≤ m ∧ k + 3 * n ≤ 900 ∧
  ∀ st2 ad2 as2, I4 st2 m (k + 3 * n) → as2.length = st2.rows.length → Q .non (HeapIs A.Heap p ad2 st2 :: pt h (.lst (st2.hands.map oV)) :: RowsA r as2 st2.rows :: R)
def N_law_chain : List Str := ["_law_heap", "_law_hands", "_law_rows", "_law_size", "_law_k", "_law_deed"]
def t_law_chain (K : PySem.W.Frag) (A : Ex) (E : XK) : TS :=
    (tFor (iRng1 (tCons (tVar 3) tNil)) (gName 4)
      (tFor (iTup K (tTup (tCons (tLst (tCons (tC (.str "make")) (tCons (tC (.int 1)) (tCons (tOp rAddI (tC (.int 1)) (tOp rModI (tVar 4) (tC (.int 4)))) tNil)))) (tCons (tLst (tCons (tC (.str "put")) (tCons (tC (.int 1)) (tCons (tOp rModI (tVar 4) (tC (.int 4))) (tCons (tC (.int 0)) tNil))))) (tCons (tLst (tCons (tC (.str "share")) (tCons (tC (.int 0)) (tCons (tC (.int 1)) tNil)))) tNil))))) (gName 5)
      (tSeq (tDrop (tCall (lift (P_law_asked K A)) [] E0 (tCons (tVar 0) (tCons (tVar 5) tNil))))
    (tDrop (tCall (lift (P_law_done K A)) [] E0 (tCons (tVar 5) (tCons (tVar 1) (tCons (tVar 2) tNil))))))))
def P_law_state (K : PySem.W.Frag) (A : Ex) : Pm := pm6 fun x y z u v w L Q _ => ∃ (p a b c : Addr) (ad : HAd) (st : HS) (R : AL) (T W : List Nat), x = .ref p ∧ y = .str st.stage.str ∧ z = .ref a ∧ u = .ref b ∧ v = .ref c ∧ w = nV st.ended ∧ L = HeapIs A.Heap p ad st :: R ∧ HW st ∧ SqA K R a (T.map nV) ∧ SqA K R b (W.map nV) ∧ SqA K R c (st.there.map nV) ∧
  T.Perm st.seen ∧ T.Pairwise (· ≤ ·) ∧ W = st.seen.drop st.looked ∧ Q (.bl true) L
def N_law_state : List Str := ["_law_heap", "_law_phase", "_law_marked", "_law_waiting", "_law_there", "_law_ended"]
def t_law_state (K : PySem.W.Frag) (A : Ex) (E : XK) : TS :=
    (tSeq (tIfS (tOr (tTest (tOp rNe (tMeth A.Heap "phase" (lift (P_phase K A)) [] E0 (tVar 0) tNil) (tVar 1))) (tOr (tNot (tB (tCall (lift (P_law_whole K A)) [] E0 (tCons (tMeth A.Heap "rounds" (lift (P_rounds K A)) [] E0 (tVar 0) tNil) tNil)))) (tTest (tOp rNe (tMeth A.Heap "rounds" (lift (P_rounds K A)) [] E0 (tVar 0) tNil) (tVar 5))))) (tRet (tC (.bl false))) tNext)
    (tSeq (tIfS (tOr (tNot (tB (tCall (lift (P_law_numbers K A)) [] E0 (tCons (tMeth A.Heap "marked" (lift (P_marked K A)) [] E0 (tVar 0) tNil) (tCons (tVar 2) tNil))))) (tNot (tB (tCall (lift (P_law_numbers K A)) [] E0 (tCons (tMeth A.Heap "waiting" (lift (P_waiting K A)) [] E0 (tVar 0) tNil) (tCons (tVar 3) tNil)))))) (tRet (tC (.bl false))) tNext)
    (tRet (tCall (lift (P_law_numbers K A)) [] E0 (tCons (tMeth A.Heap "boxes" (lift (P_boxes K A)) [] E0 (tVar 0) tNil) (tCons (tVar 4) tNil))))))
section
variable {K : PySem.W.Frag} {A : Ex} {E : XK} {vs : List V} {L : AL} {Q : V → AL → Prop} {Ea : Value → AL → Prop}
theorem do_chain {p h r : Addr} {as : List Addr} {ad : HAd} {st : HS} {R : AL} {m k n : Nat} (e : Ent L (HeapIs A.Heap p ad st :: pt h (.lst (st.hands.map oV)) :: RowsA r as st.rows :: R)) (has : as.length = st.rows.length) (I : I4 st m k) (h2 : 2 ≤ m) (hk : k + 3 * n ≤ 900)
    (q : ∀ st2 ad2 as2, I4 st2 m (k + 3 * n) → as2.length = st2.rows.length → Q .non (HeapIs A.Heap p ad2 st2 :: pt h (.lst (st2.hands.map oV)) :: RowsA r as2 st2.rows :: R)) : ∃ L2, Ent L L2 ∧ P_law_chain K A [.ref p, .ref h, .ref r, nV n] L2 Q Ea := ⟨_, e, _, _, _, _, rfl, p, h, r, as, ad, st, R, m, k, n, rfl, rfl, rfl, rfl, rfl, has, I, h2, hk, q⟩
theorem do_state {p a b c : Addr} {ad : HAd} {st : HS} {R : AL} {T W : List Nat} {ph : Str} {en : Nat} (e : Ent L (HeapIs A.Heap p ad st :: R)) (w : HW st) (h1 : ph = st.stage.str) (h2 : en = st.ended) (ha : SqA K R a (T.map nV)) (hb : SqA K R b (W.map nV)) (hc : SqA K R c (st.there.map nV)) (hp : T.Perm st.seen) (hs : T.Pairwise (· ≤ ·)) (hw : W = st.seen.drop st.looked)
    (q : Q (.bl true) (HeapIs A.Heap p ad st :: R)) : ∃ L2, Ent L L2 ∧ P_law_state K A [.ref p, .str ph, .ref a, .ref b, .ref c, nV en] L2 Q Ea := by
  subst h1 h2
  exact ⟨_, e, _, _, _, _, _, _, rfl, p, a, b, c, ad, st, R, T, W, rfl, rfl, rfl, rfl, rfl, rfl, rfl, w, ha, hb, hc, hp, hs, hw, q⟩
theorem p_law_state (T : HT K A) (he : ELe Ea E) (h : P_law_state K A vs L Q Ea) : SS (t_law_state K A E) { nx := fun _ L => Q .non L, rt := Q } (start N_law_state vs) L := by
  obtain ⟨_, _, _, _, _, _, rfl, p, a, b, c, ad, st, R, T', W, rfl, rfl, rfl, rfl, rfl, rfl, rfl, w, ha, hb, hc, hp, hs, hw, q⟩ := h
  unfold t_law_state
  have hbig := w.big
  have hsl := w.seenl
  have htl := w.tl
  have hpl := hp.length_eq
  refine s_postB ?_
  tm_at "go"
  refine do_phase (Ent.refl _) ?_
  tm_at "go"
  refine ex_n (fun n => absurd rfl n) fun _ => ?_
  tm_at "go"
  refine do_rounds (Ent.refl _) ?_
  tm_at "go"
  refine do_wholeN ?_
  refine ⟨true, rfl, both_f ?_⟩
  tm_at "go"
  refine do_rounds (Ent.refl _) ?_
  tm_at "go"
  refine ex_n (fun n => absurd rfl n) fun _ => ?_
  tm_at "go"
  refine do_marked (Ent.refl _) hp hs fun d => ?_
  tm_at "go"
  refine do_numbersN has_hd (sq_tl (sq_tl ha)) (by omega) ?_
  refine ⟨true, rfl, both_f ?_⟩
  tm_at "go"
  refine do_waiting (R := pt d (.lst (T'.map nV)) :: R) ent_swap fun d2 => ?_
  rw [← hw]
  tm_at "go"
  refine do_numbersN has_hd (sq_tl (sq_tl (sq_tl hb))) (by rw [hw, List.length_drop]; omega) ?_
  refine ⟨true, rfl, both_f ?_⟩
  tm_at "go"
  refine do_boxes (R := pt d2 (.lst (W.map nV)) :: pt d (.lst (T'.map nV)) :: R) ent_swap w fun d3 => ?_
  tm_at "go"
  refine do_numbersN has_hd (sq_tl (sq_tl (sq_tl (sq_tl hc)))) (by omega) ?_
  exact ⟨_, Ent.drop.trans (Ent.cons (Ent.drop.trans Ent.drop)), q⟩
theorem goods_chain {hs : Hs} {rw : Rw} {i : Nat} (h : 2 ≤ hs.length) : Deed.Goods [.make 1 (1 + i % 4), .put 1 (i % 4) 0, .share 0 1] hs rw := by
  have e1 : (hs.set 1 (some rw.length)).getD 1 none = some rw.length := by
    rw [List.getD_eq_getElem?_getD, List.getElem?_set_self (by omega)]; rfl
  have e2 : boxOf (hs.set 1 (some rw.length)) 1 = rw.length := by unfold boxOf; rw [e1]; rfl
  have e3 : rowOf (rw ++ [List.replicate (1 + i % 4) none]) rw.length = List.replicate (1 + i % 4) none := by
    unfold rowOf
    rw [List.getD_eq_getElem?_getD, List.getElem?_append_right (Nat.le_refl _), Nat.sub_self]; rfl
  refine ⟨⟨by omega, by omega⟩, ⟨by show 0 < (hs.set 1 _).length; rw [List.length_set]; omega, ?_⟩, ⟨by show 0 < (hs.set 1 _).length; rw [List.length_set]; omega, by show 1 < (hs.set 1 _).length; rw [List.length_set]; omega⟩, trivial⟩
  show slotOk (hs.set 1 (some rw.length)) (rw ++ [List.replicate (1 + i % 4) none]) 1 (i % 4)
  refine ⟨by rw [List.length_set]; omega, by rw [e2]; exact e1, by rw [e2, List.length_append, List.length_singleton]; omega, ?_⟩
  rw [e2, e3, List.length_replicate]
  omega
theorem p_law_chain (T : HT K A) (he : ELe Ea E) (h : P_law_chain K A vs L Q Ea) : SS (t_law_chain K A E) { nx := fun _ L => Q .non L, rt := Q } (start N_law_chain vs) L := by
  obtain ⟨_, _, _, _, rfl, p, h, r, as, ad, st, R, m, k, n, rfl, rfl, rfl, rfl, rfl, has, I, h2, hk, q⟩ := h
  unfold t_law_chain
  refine s_forR1 ?_
  tm_at "go"
  refine ⟨(n : Int), rfl, by omega, by omega, fun i σ L' => ∃ (st : HS) (ad : HAd) (as : List Addr) (v4 v5 : Option V), σ = [some (.ref p), some (.ref h), some (.ref r), some (nV n), v4, v5] ∧ I4 st m (k + 3 * i) ∧ as.length = st.rows.length ∧ L' = HeapIs A.Heap p ad st :: pt h (.lst (st.hands.map oV)) :: RowsA r as st.rows :: R, ⟨st, ad, as, _, _, rfl, I, has, rfl⟩, ?_, ?_⟩
  · rintro i σ L' hi ⟨st, ad, as, v4, v5, rfl, I, has, rfl⟩
    have hgood := goods_chain (hs := st.hands) (rw := st.rows) (i := i) (by rw [I.hl]; exact h2)
    refine s_post ?_
    refine s_forT (e_post ?_)
    tm_at "go"
    rw [show (1 : Int) + (i : Int) % 4 = ((1 + i % 4 : Nat) : Int) by omega]
    refine ⟨by show 3 ≤ sizeLine; decide, fun a1 => ?_⟩
    tm_at "go"
    rw [show (i : Int) % 4 = ((i % 4 : Nat) : Int) by omega]
    refine ⟨by show 4 ≤ sizeLine; decide, fun a2 => ?_⟩
    tm_at "go"
    refine ⟨by show 3 ≤ sizeLine; decide, fun a3 => ?_⟩
    tm_at "go"
    refine ⟨by show 3 ≤ sizeLine; decide, fun t => ?_⟩
    refine ⟨HeapIs A.Heap p ad st :: pt h (.lst (st.hands.map oV)) :: RowsA r as st.rows :: pt t (.tup [.ref a1, .ref a2, .ref a3]) :: pt a3 (.lst (Deed.share 0 1).vals) :: pt a2 (.lst (Deed.put 1 (i % 4) 0).vals) :: pt a1 (.lst (Deed.make 1 (1 + i % 4)).vals) :: R, ?_, ?_⟩
    · exact (ent_pick 4 rfl).trans (Ent.cons ((ent_pick 4 rfl).trans (Ent.cons (ent_pick 4 rfl))))
    refine ⟨t, [.ref a1, .ref a2, .ref a3], rfl, Has.tq (has_tl (has_tl (has_tl has_hd))), fun j σ L' => ∃ (st : HS) (ad : HAd) (as : List Addr) (v5 : Option V), σ = [some (.ref p), some (.ref h), some (.ref r), some (nV n), some (nV i), v5] ∧ I4 st m (k + 3 * i + j) ∧ as.length = st.rows.length ∧ Deed.Goods (([.make 1 (1 + i % 4), .put 1 (i % 4) 0, .share 0 1] : List Deed).drop j) st.hands st.rows ∧
      L' = HeapIs A.Heap p ad st :: pt h (.lst (st.hands.map oV)) :: RowsA r as st.rows :: pt t (.tup [.ref a1, .ref a2, .ref a3]) :: pt a3 (.lst (Deed.share 0 1).vals) :: pt a2 (.lst (Deed.put 1 (i % 4) 0).vals) :: pt a1 (.lst (Deed.make 1 (1 + i % 4)).vals) :: R, ⟨st, ad, as, _, rfl, I, has, hgood, rfl⟩, ?_, ?_, ?_⟩
    · rintro j σ L' hj ⟨st, ad, as, v5, rfl, I, has, hgood, rfl⟩
      exact Has.tq (has_tl (has_tl (has_tl has_hd)))
    · rintro j x σ L' hx ⟨st, ad, as, v5, rfl, I, has, hgood, rfl⟩
      obtain ⟨D, b, hD, rfl, hb⟩ : ∃ (D : Deed) (b : Addr), [Deed.make 1 (1 + i % 4), .put 1 (i % 4) 0, .share 0 1][j]? = some D ∧ x = .ref b ∧ Has (pt t (.tup [.ref a1, .ref a2, .ref a3]) :: pt a3 (.lst (Deed.share 0 1).vals) :: pt a2 (.lst (Deed.put 1 (i % 4) 0).vals) :: pt a1 (.lst (Deed.make 1 (1 + i % 4)).vals) :: R) b (.lst D.vals) := by
        match j, hx with
        | 0, hx => exact ⟨_, a1, rfl, (Option.some.inj hx).symm, has_tl (has_tl (has_tl has_hd))⟩
        | 1, hx => exact ⟨_, a2, rfl, (Option.some.inj hx).symm, has_tl (has_tl has_hd)⟩
        | 2, hx => exact ⟨_, a3, rfl, (Option.some.inj hx).symm, has_tl has_hd⟩
        | j + 3, hx => simp at hx
      have hj : j < 3 := (List.getElem?_eq_some_iff.mp hD).1
      obtain ⟨ok, hg2⟩ := goods_at hD hgood
      have hml := I.ml
      have htl := I.tl
      generalize (pt t (.tup [.ref a1, .ref a2, .ref a3]) :: pt a3 (.lst (Deed.share 0 1).vals) :: pt a2 (.lst (Deed.put 1 (i % 4) 0).vals) :: pt a1 (.lst (Deed.make 1 (1 + i % 4)).vals) :: R) = R2 at hb ⊢
      refine s_post ?_
      tm_at "gn"
      refine do_asked (d := D) (Ent.refl _) (sq_tl (sq_tl hb.sq)) I.w ok I.hb (by rw [I.rm]; omega) fun ad' => ?_
      tm_at "gn"
      have I2 := I.deed ok (by omega)
      have hdh := deed_hands st D
      have hdr := deed_rows st D
      refine do_done (d := D) (as := as) (hs := st.hands) (rw := st.rows) (R := HeapIs A.Heap p ad' (st.deed D) :: R2) (ent_swap.trans (Ent.cons ent_swap)) (sq_tl hb.sq) has (by omega) ok fun as' has' => ?_
      rw [← hdh, ← hdr] at hg2 ⊢
      rw [← hdr] at has'
      exact ⟨_, ent_pick 2 rfl, st.deed D, ad', as', _, rfl, I2, has', hg2, rfl⟩
    · rintro σ L' ⟨st, ad, as, v5, rfl, I, has, hgood, rfl⟩
      exact ⟨_, Ent.cons (Ent.cons (Ent.cons (Ent.drop.trans (Ent.drop.trans (Ent.drop.trans Ent.drop))))), st, ad, as, _, _, rfl, I, has, rfl⟩
  · rintro σ L' ⟨st, ad, as, v4, v5, rfl, I, has, rfl⟩
    exact q st ad as I has
end
/-! A round alone: the mirror's states. -/
/-- ahead of settling: begun, behind n looks -/
def HS.raw (st : HS) (n : Nat) : HS := { st with old := st.there, begun := st.rows.length, stage := .marking, seen := cm st.hands st.rows n, looked := n }
/-- ahead of settling: behind k sweeps -/
def HS.swp (st : HS) (C : List Nat) (N k : Nat) : HS := { st with old := st.there, begun := st.rows.length, stage := .sweeping, seen := C, looked := N, swept := k, there := st.there.filter fun x => decide (x ∈ C ∨ k ≤ x) }
theorem markAll_eq : ∀ (os : List (Option Nat)) (st : HS), (∀ b, some b ∈ os → b < st.begun) → st.markAll os = { st with seen := mks st.seen os }
  | [], _, _ => rfl
  | o :: os, st, h => by
    have e : st.mark o = { st with seen := mk st.seen o } := by
      cases o with
      | none => rfl
      | some b =>
        unfold HS.mark mk
        simp only
        by_cases c : b ∈ st.seen
        · rw [if_neg (fun z => z.2 c), if_pos c]
        · rw [if_pos ⟨h b List.mem_cons_self, c⟩, if_neg c]
    show (st.mark o).markAll os = _
    have ih := markAll_eq os { st with seen := mk st.seen o } fun b hb => h b (List.mem_cons_of_mem _ hb)
    rw [e, ih]
    rfl
theorem raw_begin {st : HS} {n m : Nat} (I : I4 st n m) : st.begin_ = st.raw 0 := by
  unfold HS.begin_
  rw [markAll_eq _ _ fun b hb => I.p.h b hb]
  unfold HS.raw
  simp only [I.sn, I.lk]
  rfl
theorem raw_look {st : HS} {n : Nat} (w : PW st.hands st.rows) : (st.raw n).lookAt = st.raw (n + 1) := by
  unfold HS.lookAt
  have e := markAll_eq (rowOf st.rows ((cm st.hands st.rows n).getD n 0)) { st.raw n with looked := n + 1 } fun b hb => rowOf_lt w _ b hb
  exact e
theorem settle_mark {st : HS} {n : Nat} (h : n < (cm st.hands st.rows n).length) : (st.raw n).settle = st.raw n := by
  unfold HS.settle HS.settle1
  rw [if_neg (fun z => by have e : n = (cm st.hands st.rows n).length := z.2; omega)]
  unfold HS.settle2
  rw [if_neg (fun z => by have e : Stg.marking = Stg.sweeping := z.1; cases e)]
theorem settle_end {st : HS} {N i m : Nat} (I : I4 st i m) (h : N = (cm st.hands st.rows N).length) : (st.raw N).settle = (st.swp (cm st.hands st.rows N) N 0).settle2 := by
  unfold HS.settle HS.settle1
  rw [if_pos ⟨rfl, h⟩]
  congr 1
  unfold HS.raw HS.swp
  have e : st.there.filter (fun x => decide (x ∈ cm st.hands st.rows N ∨ 0 ≤ x)) = st.there := List.filter_eq_self.mpr fun x _ => by simp
  rw [e, I.sw]
theorem swp_more {st : HS} {C : List Nat} {N k i m : Nat} (I : I4 st i m) (h : k < st.rows.length) : (st.swp C N k).settle2 = st.swp C N k := by
  unfold HS.settle2
  rw [if_neg (fun z => by
    have e : k = st.there.length := z.2
    rw [I.tl] at e
    omega)]
theorem swp_end {st : HS} {C : List Nat} {N i m : Nat} (I : I4 st i m) : (st.swp C N st.rows.length).settle2 = { (st.swp C N st.rows.length).rest with ended := st.ended + 1 } := by
  unfold HS.settle2
  rw [if_pos ⟨rfl, I.tl.symm⟩]
  rfl
theorem swp_old {st : HS} {C : List Nat} {N k i m : Nat} (I : I4 st i m) (h : k < st.rows.length) : (st.swp C N k).old[(st.swp C N k).swept]? = some k := by
  show st.there[k]? = some k
  rw [I.th, List.getElem?_range h]
theorem swp_next {st : HS} {C : List Nat} {N k i m : Nat} (I : I4 st i m) (h : k < st.rows.length) : (st.swp C N k).piece = ((st.swp C N (k + 1)).settle2, if k ∈ C then none else some k) := by
  have e0 : (st.swp C N k).old.getD (st.swp C N k).swept 0 = k := by rw [List.getD_eq_getElem?_getD, swp_old I h]; rfl
  show ((st.swp C N k).sweep.1.settle, (st.swp C N k).sweep.2) = _
  have hs1 : ∀ s : HS, s.stage = .sweeping → s.settle = s.settle2 := fun s hs => by
    unfold HS.settle HS.settle1
    rw [if_neg (fun z => by rw [hs] at z; cases z.1)]
  unfold HS.sweep
  rw [e0]
  by_cases c : k ∈ C
  · have c' : k ∈ (st.swp C N k).seen := c
    rw [if_pos c', if_pos c, hs1 _ rfl]
    have e : ({ st.swp C N k with swept := (st.swp C N k).swept + 1 } : HS) = st.swp C N (k + 1) := by
      unfold HS.swp
      have ef : st.there.filter (fun x => decide (x ∈ C ∨ k ≤ x)) = st.there.filter (fun x => decide (x ∈ C ∨ k + 1 ≤ x)) := List.filter_congr fun x _ => by
        by_cases d : x = k
        · subst d; simp [c]
        · have : (k ≤ x) ↔ (k + 1 ≤ x) := by omega
          simp only [this]
      simp only [ef]
    rw [e]
  · have c' : ¬ k ∈ (st.swp C N k).seen := c
    rw [if_neg c', if_neg c]
    have e : HS.free { st.swp C N k with swept := (st.swp C N k).swept + 1 } k = st.swp C N (k + 1) := by
      unfold HS.free HS.swp
      have ef : (st.there.filter (fun x => decide (x ∈ C ∨ k ≤ x))).filter (fun x => decide (x ≠ k)) = st.there.filter (fun x => decide (x ∈ C ∨ k + 1 ≤ x)) := by
        rw [List.filter_filter]
        refine List.filter_congr fun x _ => ?_
        by_cases d : x = k
        · subst d; simp [c]
        · have : (k ≤ x) ↔ (k + 1 ≤ x) := by omega
          simp only [this, d, ne_eq, not_false_eq_true, decide_true, Bool.true_and, Bool.and_true]
      simp only [ef]
    rw [e, hs1 _ rfl]
theorem raw_hw {st : HS} {n i m : Nat} (I : I4 st i m) : HW (st.raw n) := ⟨I.w.nd, I.w.lt, I.w.hands, I.w.big, I.w.rl, cm_nd _ _ _, cm_lt I.p _, Nat.le_refl _⟩
theorem swp_hw {st : HS} {N k i m : Nat} (I : I4 st i m) : HW (st.swp (cm st.hands st.rows N) N k) :=
  ⟨I.w.nd.filter _, fun b hb => I.w.lt b (List.mem_filter.mp hb).1, I.w.hands, I.w.big, I.w.rl, cm_nd _ _ _, cm_lt I.p _, Nat.le_refl _⟩
theorem raw_pc {st : HS} {n i m : Nat} (I : I4 st i m) (h : n < (cm st.hands st.rows n).length) : PcW (st.raw n) := by
  refine ⟨fun _ => ?_, (fun z => nomatch z)⟩
  refine ⟨(cm st.hands st.rows n)[n], List.getElem?_eq_getElem h, ?_⟩
  show _ ∈ st.there
  rw [I.th]
  exact List.mem_range.mpr (cm_lt I.p n _ (List.getElem_mem h))
theorem swp_pc {st : HS} {N k i m : Nat} (I : I4 st i m) (h : k < st.rows.length) : PcW (st.swp (cm st.hands st.rows N) N k) := by
  refine ⟨(fun z => nomatch z), fun _ => ⟨k, swp_old I h, fun _ => ?_⟩⟩
  show k ∈ st.there.filter _
  rw [List.mem_filter]
  exact ⟨by rw [I.th]; exact List.mem_range.mpr h, by simp⟩
theorem idle_pc {st : HS} {i m : Nat} (I : I4 st i m) : PcW st := ⟨fun z => (by rw [I.sg] at z; cases z), fun z => (by rw [I.sg] at z; cases z)⟩
theorem idle_piece {st : HS} {i m : Nat} (I : I4 st i m) : st.piece = ((st.raw 0).settle, none) := by
  unfold HS.piece
  rw [I.sg]
  simp only
  rw [raw_begin I]
theorem raw_piece {st : HS} {n : Nat} (w : PW st.hands st.rows) : (st.raw n).piece = ((st.raw (n + 1)).settle, none) := by
  show ((st.raw n).lookAt.settle, none) = _
  rw [raw_look w]
/-- the numbers below n that are among these, rising -/
def among (n : Nat) (C : List Nat) : List Nat := (List.range n).filter fun x => decide (x ∈ C)
theorem among_perm {n : Nat} {C : List Nat} (hn : C.Nodup) (hl : ∀ b ∈ C, b < n) : (among n C).Perm C := by
  refine (List.perm_ext_iff_of_nodup (List.nodup_range.filter _) hn).mpr fun x => ?_
  rw [List.mem_filter, List.mem_range]
  exact ⟨fun h => of_decide_eq_true h.2, fun h => ⟨hl x h, decide_eq_true h⟩⟩
theorem among_sorted {n : Nat} {C : List Nat} : (among n C).Pairwise (· ≤ ·) := (List.pairwise_le_range (n := n)).filter _
theorem work1 (st : HS) : HS.work 1 st = (st.piece.1, st.piece.2.toList) := rfl
/-! No box that a hand can come to is freed: what holds between the pieces and the deeds. -/
/-- come to from a waiting box over boxes that are not marked -/
inductive Via (rw : Rw) (seen : List Nat) (lk bg : Nat) : Nat → Prop
  | of {y x : Nat} : y ∈ seen.drop lk → some x ∈ rowOf rw y → x < bg → x ∉ seen → Via rw seen lk bg x
  | st {y x : Nat} : Via rw seen lk bg y → some x ∈ rowOf rw y → x < bg → x ∉ seen → Via rw seen lk bg x
theorem Via.no {rw : Rw} {seen : List Nat} {lk bg x : Nat} (v : Via rw seen lk bg x) : x ∉ seen := by cases v <;> assumption
theorem via_step {rw rw' : Rw} {seen seen' : List Nat} {lk lk' bg : Nat} (hw : ∀ y, y ∈ seen.drop lk → y ∈ seen'.drop lk' ∨ ∀ x, some x ∈ rowOf rw y → x < bg → x ∈ seen') (hn : ∀ y, y ∈ seen' → y ∉ seen → y ∈ seen'.drop lk')
    (he : ∀ y x, some x ∈ rowOf rw y → x < bg → some x ∈ rowOf rw' y ∨ x ∈ seen' ∨ x ∈ seen) (hs : ∀ y, y ∈ seen → y ∈ seen') : ∀ {x}, Via rw seen lk bg x → x ∈ seen' ∨ Via rw' seen' lk' bg x := by
  intro x v
  induction v with
  | @of y x h1 h2 h3 h4 =>
    by_cases c : x ∈ seen'
    · exact .inl c
    · rcases hw y h1 with h | h
      · rcases he y x h2 h3 with e | e | e
        · exact .inr (.of h e h3 c)
        · exact absurd e c
        · exact absurd e h4
      · exact .inl (h x h2 h3)
  | @st y x v h2 h3 h4 ih =>
    by_cases c : x ∈ seen'
    · exact .inl c
    · rcases he y x h2 h3 with e | e | e
      · rcases ih with h | h
        · exact .inr (.of (hn y h v.no) e h3 c)
        · exact .inr (.st h e h3 c)
      · exact absurd e c
      · exact absurd e h4
/-- while it marks -/
structure JM (st : HS) (G : Nat → Prop) : Prop where
  sg : ∀ x ∈ st.seen, G x
  nw : ∀ x, st.begun ≤ x → x < st.rows.length → G x
  via : ∀ x, G x → x < st.begun → x ∈ st.seen ∨ Via st.rows st.seen st.looked st.begun x
  sp : st.swept = 0
  op : st.old.Pairwise (· < ·)
  ol : ∀ x ∈ st.old, x < st.begun ∧ x ∈ st.there
  ot : ∀ x ∈ st.there, x < st.begun → x ∈ st.old
/-- while it sweeps -/
structure JS (st : HS) (G : Nat → Prop) : Prop where
  lk : st.looked = st.seen.length
  sg : ∀ x ∈ st.seen, G x
  nw : ∀ x, st.begun ≤ x → x < st.rows.length → G x
  gs : ∀ x, G x → x < st.begun → x ∈ st.seen
  op : st.old.Pairwise (· < ·)
  ol : ∀ x ∈ st.old.drop st.swept, x < st.begun ∧ x ∈ st.there
structure JC (st : HS) (G : Nat → Prop) : Prop where
  w : HW st
  p : PW st.hands st.rows
  gh : ∀ b, some b ∈ st.hands → G b
  gr : ∀ x, G x → ∀ b, some b ∈ rowOf st.rows x → G b
  gt : ∀ x, G x → x ∈ st.there
  mm : st.stage = .marking → JM st G
  sw : st.stage = .sweeping → JS st G
  idl : st.stage = .idle → st.seen = [] ∧ st.looked = 0 ∧ st.swept = 0 ∧ st.old = [] ∧ st.begun = 0
/-- behind settling -/
structure J (st : HS) (G : Nat → Prop) : Prop extends JC st G where
  lm : st.stage = .marking → st.looked < st.seen.length
  ls : st.stage = .sweeping → st.swept < st.old.length
/-- ahead of settling -/
structure JU (st : HS) (G : Nat → Prop) : Prop extends JC st G where
  lm : st.stage = .marking → st.looked ≤ st.seen.length
  ls : st.stage = .sweeping → st.swept ≤ st.old.length
theorem JC.hb {st : HS} {G : Nat → Prop} (j : JC st G) : ∀ b, some b ∈ st.hands → b ∈ st.there := fun b h => j.gt b (j.gh b h)
theorem J.pc {st : HS} {G : Nat → Prop} (j : J st G) : PcW st := by
  refine ⟨fun h => ?_, fun h => ?_⟩
  · have m := j.mm h
    have l := j.lm h
    exact ⟨_, List.getElem?_eq_getElem l, j.gt _ (m.sg _ (List.getElem_mem l))⟩
  · have m := j.sw h
    have l := j.ls h
    refine ⟨_, List.getElem?_eq_getElem l, fun _ => (m.ol _ ?_).2⟩
    rw [List.drop_eq_getElem_cons l]
    exact List.mem_cons_self
theorem drop_pre {s s' : List Nat} {n : Nat} (h : s <+: s') {y : Nat} (hy : y ∈ s.drop n) : y ∈ s'.drop n := by
  obtain ⟨t, rfl⟩ := h
  by_cases c : n ≤ s.length
  · rw [List.drop_append_of_le_length c]
    exact List.mem_append_left _ hy
  · rw [List.drop_eq_nil_of_le (by omega)] at hy
    cases hy
theorem new_late {s s' : List Nat} {n : Nat} (h : s <+: s') (hn : n ≤ s.length) {y : Nat} (h1 : y ∈ s') (h2 : y ∉ s) : y ∈ s'.drop n := by
  obtain ⟨t, rfl⟩ := h
  rw [List.drop_append_of_le_length hn]
  rcases List.mem_append.mp h1 with e | e
  · exact absurd e h2
  · exact List.mem_append_right _ e
theorem mk_mem {s : List Nat} {o : Option Nat} {x : Nat} (h : x ∈ mk s o) : x ∈ s ∨ o = some x := by
  cases o with
  | none => exact .inl h
  | some b =>
    unfold Mp.mk at h
    simp only at h
    split at h
    · exact .inl h
    · rcases List.mem_append.mp h with e | e
      · exact .inl e
      · rw [List.mem_singleton.mp e]; exact .inr rfl
theorem mem_mk {s : List Nat} {b : Nat} : b ∈ mk s (some b) := by
  unfold Mp.mk
  simp only
  split
  · assumption
  · exact List.mem_append_right _ List.mem_cons_self
theorem mks_mem : ∀ {os : List (Option Nat)} {s : List Nat} {x : Nat}, x ∈ mks s os → x ∈ s ∨ some x ∈ os
  | [], _, _, h => .inl h
  | o :: os, s, x, h => by
    rcases mks_mem (os := os) (s := mk s o) h with e | e
    · rcases mk_mem e with e2 | e2
      · exact .inl e2
      · exact .inr (e2 ▸ List.mem_cons_self)
    · exact .inr (List.mem_cons_of_mem _ e)
theorem mem_mks : ∀ {os : List (Option Nat)} {s : List Nat} {x : Nat}, some x ∈ os → x ∈ mks s os
  | o :: os, s, x, h => by
    rcases List.mem_cons.mp h with e | e
    · subst e
      exact (mks_pre (mk s (some x)) os).subset mem_mk
    · exact mem_mks (os := os) (s := mk s o) e
/-- a mark, where what is marked is there, in the list of those that were there at the beginning, or new -/
theorem mark_eq {st : HS} {o : Option Nat} (h : ∀ b, o = some b → b < st.begun) : st.mark o = { st with seen := mk st.seen o } := by
  have := markAll_eq [o] st fun b hb => h b (List.mem_singleton.mp hb).symm
  exact this
/-- a slot's old value is marked, the slot is stored -/
theorem rowOf_set {rw : Rw} {b k : Nat} {o : Option Nat} (hb : b < rw.length) (y : Nat) : rowOf (rw.set b ((rowOf rw b).set k o)) y = if y = b then (rowOf rw b).set k o else rowOf rw y := by
  unfold rowOf
  by_cases c : y = b
  · subst c
    rw [if_pos rfl, List.getD_eq_getElem?_getD, List.getElem?_set_self hb]
    rfl
  · rw [if_neg c, List.getD_eq_getElem?_getD, List.getElem?_set_ne (fun z => c z.symm), ← List.getD_eq_getElem?_getD]
theorem mem_set_old {xs : List (Option Nat)} {k : Nat} {o : Option Nat} {x : Nat} (h : some x ∈ xs) : some x ∈ xs.set k o ∨ xs.getD k none = some x := by
  obtain ⟨i, hi, e⟩ := List.getElem_of_mem h
  by_cases c : k = i
  · subst c
    right
    rw [List.getD_eq_getElem?_getD, List.getElem?_eq_getElem hi, e]
    rfl
  · left
    refine List.mem_of_getElem? (i := i) ?_
    rw [List.getElem?_set_ne c, List.getElem?_eq_getElem hi, e]
theorem rowOf_app {rw : Rw} {r : List (Option Nat)} {y : Nat} : rowOf (rw ++ [r]) y = if y = rw.length then r else rowOf rw y := by
  unfold rowOf
  by_cases c : y = rw.length
  · subst c
    rw [if_pos rfl, List.getD_eq_getElem?_getD, List.getElem?_append_right (Nat.le_refl _), Nat.sub_self]
    rfl
  · rw [if_neg c, List.getD_eq_getElem?_getD, List.getD_eq_getElem?_getD]
    by_cases d : y < rw.length
    · rw [List.getElem?_append_left d]
    · rw [List.getElem?_append_right (by omega), List.getElem?_eq_none (l := [r]) (by show 1 ≤ _; omega), List.getElem?_eq_none (l := rw) (by omega)]
/-- the hands alone change -/
theorem JC.hands {st : HS} {G : Nat → Prop} (j : JC st G) {hs : Hs} (hl : hs.length = st.hands.length) (hg : ∀ b, some b ∈ hs → G b) : JC { st with hands := hs } G :=
  ⟨⟨j.w.nd, j.w.lt, by show hs.length ≤ 8; rw [hl]; exact j.w.hands, j.w.big, j.w.rl, j.w.sn, j.w.sl, j.w.bg⟩, ⟨fun b h => j.w.lt b (j.gt b (hg b h)), j.p.r, j.p.l⟩, hg, j.gr, j.gt,
    fun h => ⟨(j.mm h).sg, (j.mm h).nw, (j.mm h).via, (j.mm h).sp, (j.mm h).op, (j.mm h).ol, (j.mm h).ot⟩,
    fun h => ⟨(j.sw h).lk, (j.sw h).sg, (j.sw h).nw, (j.sw h).gs, (j.sw h).op, (j.sw h).ol⟩, j.idl⟩
theorem J.handsJ {st : HS} {G : Nat → Prop} (j : J st G) {hs : Hs} (hl : hs.length = st.hands.length) (hg : ∀ b, some b ∈ hs → G b) : J { st with hands := hs } G := ⟨j.toJC.hands hl hg, j.lm, j.ls⟩
theorem J.mark {st : HS} {G : Nat → Prop} (j : J st G) (hs : st.stage = .marking) {o : Option Nat} (ho : ∀ x, o = some x → G x) : J (st.mark o) G := by
  by_cases c : ∀ b, o = some b → b < st.begun
  · have hw := j.w.mark o
    rw [mark_eq c] at hw ⊢
    have m := j.mm hs
    have hp := mk_pre st.seen o
    refine ⟨⟨hw, j.p, j.gh, j.gr, j.gt, fun _ => ⟨fun x hx => ?_, m.nw, fun x gx hx => ?_, m.sp, m.op, m.ol, m.ot⟩, (fun h => by rw [show st.stage = _ from hs] at h; cases h), (fun h => by rw [show st.stage = _ from hs] at h; cases h)⟩, fun h => Nat.lt_of_lt_of_le (j.lm hs) hp.length_le, (fun h => by rw [show st.stage = _ from hs] at h; cases h)⟩
    · rcases mk_mem hx with e | e
      · exact m.sg x e
      · exact ho x e
    · rcases m.via x gx hx with e | e
      · exact .inl (hp.subset e)
      · exact via_step (fun y hy => .inl (drop_pre hp hy)) (fun y h1 h2 => new_late hp (Nat.le_of_lt (j.lm hs)) h1 h2) (fun y x e _ => .inl e) (fun y hy => hp.subset hy) e
  · have e : st.mark o = st := by
      cases o with
      | none => rfl
      | some b =>
        have hb : ¬ b < st.begun := fun z => c fun b' e => by cases e; exact z
        unfold HS.mark
        simp only
        rw [if_neg fun z => hb z.1]
    rw [e]
    exact j
theorem J.setSlot {st : HS} {G : Nat → Prop} (j : J st G) {b k : Nat} {o : Option Nat} (gb : G b) (ho : ∀ x, o = some x → G x) (hv : st.stage = .marking → ∀ x, (rowOf st.rows b).getD k none = some x → x < st.begun → x ∈ st.seen) : J (st.setSlot b k o) G := by
  have hb : b < st.rows.length := j.w.lt b (j.gt b gb)
  have hl : (st.rows.set b ((rowOf st.rows b).set k o)).length = st.rows.length := List.length_set
  have hrow : rowOf st.rows b ∈ st.rows := getD_mem hb
  refine ⟨⟨j.w.setSlot, ⟨fun x hx => ?_, fun r hr x hx => ?_, fun r hr => ?_⟩, j.gh, fun x gx c hc => ?_, j.gt, fun h => ?_, fun h => ?_, j.idl⟩, j.lm, j.ls⟩
  · show x < (st.rows.set b ((rowOf st.rows b).set k o)).length
    rw [hl]; exact j.p.h x hx
  · show x < (st.rows.set b ((rowOf st.rows b).set k o)).length
    rw [hl]
    rcases List.mem_or_eq_of_mem_set hr with h | h
    · exact j.p.r r h x hx
    · have hx' : some x ∈ (rowOf st.rows b).set k o := h ▸ hx
      rcases List.mem_or_eq_of_mem_set hx' with h2 | h2
      · exact j.p.r _ hrow x h2
      · exact j.w.lt x (j.gt x (ho x h2.symm))
  · rcases List.mem_or_eq_of_mem_set hr with h | h
    · exact j.p.l r h
    · have h' : r = (rowOf st.rows b).set k o := h
      rw [h', List.length_set]; exact j.p.l _ hrow
  · have hc' : some c ∈ rowOf (st.rows.set b ((rowOf st.rows b).set k o)) x := hc
    rw [rowOf_set hb] at hc'
    split at hc'
    · rcases List.mem_or_eq_of_mem_set hc' with h2 | h2
      · exact j.gr b gb c h2
      · exact ho c h2.symm
    · exact j.gr x gx c hc'
  · have m := j.mm h
    refine ⟨m.sg, fun x h1 h2 => m.nw x h1 (by have h2' : x < (st.rows.set b ((rowOf st.rows b).set k o)).length := h2; rw [hl] at h2'; exact h2'), fun x gx hx => ?_, m.sp, m.op, m.ol, m.ot⟩
    rcases m.via x gx hx with e | e
    · exact .inl e
    · refine via_step (fun y hy => .inl hy) (fun y h1 h2 => absurd h1 h2) (fun y x e hx => ?_) (fun y hy => hy) e
      show some x ∈ rowOf (st.rows.set b ((rowOf st.rows b).set k o)) y ∨ _
      rw [rowOf_set hb]
      split
      · rename_i c
        subst c
        rcases mem_set_old (k := k) (o := o) e with e2 | e2
        · exact .inl e2
        · exact .inr (.inr (hv h x e2 hx))
      · exact .inl e
  · have m := j.sw h
    exact ⟨m.lk, m.sg, fun x h1 h2 => m.nw x h1 (by have h2' : x < (st.rows.set b ((rowOf st.rows b).set k o)).length := h2; rw [hl] at h2'; exact h2'), m.gs, m.op, m.ol⟩
/-! What holds between the pieces and the deeds, kept by them. -/
theorem J.make {st : HS} {G : Nat → Prop} (j : J st G) {i k : Nat} (ok : (Deed.make i k).ok st.hands st.rows) (hbig : st.rows.length < 90000) : J (st.make i k) fun x => G x ∨ x = st.rows.length := by
  have hw : HW (st.make i k) := j.w.deed ok hbig
  have hp : PW (st.make i k).hands (st.make i k).rows := j.p.deed (d := .make i k) ok
  have hl : (st.rows ++ [List.replicate k (none : Option Nat)]).length = st.rows.length + 1 := by simp
  have hgl : ∀ x, G x → x < st.rows.length := fun x g => j.w.lt x (j.gt x g)
  have bg := j.w.bg
  refine ⟨⟨hw, hp, fun b hb => ?_, fun x gx c hc => ?_, fun x gx => ?_, fun h => ?_, fun h => ?_, j.idl⟩, j.lm, j.ls⟩
  · rcases List.mem_or_eq_of_mem_set hb with h | h
    · exact .inl (j.gh b h)
    · exact .inr (Option.some.inj h)
  · have hc' : some c ∈ rowOf (st.rows ++ [List.replicate k (none : Option Nat)]) x := hc
    rw [rowOf_app] at hc'
    split at hc'
    · have := (List.mem_replicate.mp hc').2
      cases this
    · rcases gx with g | g
      · exact .inl (j.gr x g c hc')
      · contradiction
  · show x ∈ st.there ++ [st.rows.length]
    rcases gx with g | g
    · exact List.mem_append_left _ (j.gt x g)
    · rw [g]; exact List.mem_append_right _ List.mem_cons_self
  · have m := j.mm h
    refine ⟨fun x hx => .inl (m.sg x hx), fun x h1 h2 => ?_, fun x gx hx => ?_, m.sp, m.op, fun x hx => ⟨(m.ol x hx).1, List.mem_append_left _ (m.ol x hx).2⟩, fun x hx h2 => ?_⟩
    · have h2' : x < (st.rows ++ [List.replicate k (none : Option Nat)]).length := h2
      rw [hl] at h2'
      by_cases c : x = st.rows.length
      · exact .inr c
      · exact .inl (m.nw x h1 (by omega))
    · have hx' : x < st.begun := hx
      rcases gx with g | g
      · rcases m.via x g hx with e | e
        · exact .inl e
        · refine via_step (fun y hy => .inl hy) (fun y h1 h2 => absurd h1 h2) (fun y x e hx => ?_) (fun y hy => hy) e
          show some x ∈ rowOf (st.rows ++ [List.replicate k (none : Option Nat)]) y ∨ _
          rw [rowOf_app]
          split
          · rename_i c
            subst c
            unfold rowOf at e
            rw [List.getD_eq_getElem?_getD, List.getElem?_eq_none (Nat.le_refl _)] at e
            cases e
          · exact .inl e
      · omega
    · have hx' : x ∈ st.there ++ [st.rows.length] := hx
      have h2' : x < st.begun := h2
      rcases List.mem_append.mp hx' with e | e
      · exact m.ot x e h2
      · have := List.mem_singleton.mp e
        omega
  · have m := j.sw h
    refine ⟨m.lk, fun x hx => .inl (m.sg x hx), fun x h1 h2 => ?_, fun x gx hx => ?_, m.op, fun x hx => ⟨(m.ol x hx).1, List.mem_append_left _ (m.ol x hx).2⟩⟩
    · have h2' : x < (st.rows ++ [List.replicate k (none : Option Nat)]).length := h2
      rw [hl] at h2'
      by_cases c : x = st.rows.length
      · exact .inr c
      · exact .inl (m.nw x h1 (by omega))
    · have hx' : x < st.begun := hx
      rcases gx with g | g
      · exact m.gs x g hx
      · omega
theorem J.deed2 {st : HS} {G : Nat → Prop} (j : J st G) {d : Deed} (ok : d.ok st.hands st.rows) (hbig : st.rows.length < 90000) : ∃ G', J (st.deed d) G' ∧ ∀ x, x < st.begun → (G' x ↔ G x) := by
  have hgd : ∀ {i c : Nat}, st.hands.getD i none = some c → G c := fun {i c} e => by
    by_cases hi : i < st.hands.length
    · exact j.gh c (e ▸ getD_mem hi)
    · rw [List.getD_eq_getElem?_getD, List.getElem?_eq_none (by omega)] at e; cases e
  have hsl : ∀ {b k c : Nat}, G b → (rowOf st.rows b).getD k none = some c → G c := fun {b k c} gb e => by
    by_cases hk : k < (rowOf st.rows b).length
    · exact j.gr b gb c (e ▸ getD_mem hk)
    · rw [List.getD_eq_getElem?_getD, List.getElem?_eq_none (by omega)] at e; cases e
  have hset : ∀ {i : Nat} {o : Option Nat}, (∀ b, o = some b → G b) → ∀ b, some b ∈ st.hands.set i o → G b := fun ho b hb => by
    rcases List.mem_or_eq_of_mem_set hb with h | h
    · exact j.gh b h
    · exact ho b h.symm
  cases d with
  | make i k => exact ⟨_, j.make ok hbig, fun x hx => ⟨fun h => h.elim id fun e => (by have := j.w.bg; omega), .inl⟩⟩
  | take i jj k => exact ⟨G, j.handsJ (hs := st.hands.set i ((st.rowAt (boxOf st.hands jj)).getD k none)) List.length_set (hset fun b e => hsl (hgd ok.2.2.1) e), fun _ _ => Iff.rfl⟩
  | share i jj => exact ⟨G, j.handsJ (hs := st.hands.set i (st.hands.getD jj none)) List.length_set (hset fun b e => hgd e), fun _ _ => Iff.rfl⟩
  | drop i => exact ⟨G, j.handsJ (hs := st.hands.set i none) List.length_set (hset fun b e => by cases e), fun _ _ => Iff.rfl⟩
  | put i k jj =>
    refine ⟨G, ?_, fun _ _ => Iff.rfl⟩
    have gb : G (boxOf st.hands i) := hgd ok.2.2.1
    show J (st.put (boxOf st.hands i) k (st.hands.getD jj none)) G
    unfold HS.put
    by_cases hs : st.stage = .marking
    · rw [if_pos hs]
      have jm := j.mark hs (o := (st.rowAt (boxOf st.hands i)).getD k none) fun x e => hsl gb e
      refine jm.setSlot gb (fun x e => hgd e) fun _ x e hx => ?_
      have e' : (rowOf st.rows (boxOf st.hands i)).getD k none = some x := by
        rw [← e]
        show _ = (rowOf (st.mark _).rows (boxOf st.hands i)).getD k none
        rw [HS.mark_rows]
      have hx' : x < st.begun := by
        have eb : ∀ o, (st.mark o).begun = st.begun := fun o => by
          unfold HS.mark
          cases o with
          | none => rfl
          | some b => simp only; split <;> rfl
        rw [eb] at hx
        exact hx
      show x ∈ (st.mark ((rowOf st.rows (boxOf st.hands i)).getD k none)).seen
      rw [e', mark_eq fun b e => by cases e; exact hx']
      exact mem_mk
    · rw [if_neg hs]
      exact j.setSlot gb (fun x e => hgd e) fun h => absurd h hs
theorem J.deed {st : HS} {G : Nat → Prop} (j : J st G) {d : Deed} (ok : d.ok st.hands st.rows) (hbig : st.rows.length < 90000) : ∃ G', J (st.deed d) G' := (j.deed2 ok hbig).elim fun G' h => ⟨G', h.1⟩
/-! ### pieces -/
def fil (bg : Nat) (os : List (Option Nat)) : List (Option Nat) := os.filter fun o => match o with
  | none => false
  | some b => decide (b < bg)
theorem mem_fil {bg x : Nat} {os : List (Option Nat)} : some x ∈ fil bg os ↔ some x ∈ os ∧ x < bg := by
  unfold fil
  rw [List.mem_filter]
  simp
theorem markAll_fil : ∀ (os : List (Option Nat)) (st : HS), st.markAll os = { st with seen := mks st.seen (fil st.begun os) }
  | [], _ => rfl
  | o :: os, st => by
    show (st.mark o).markAll os = _
    rw [markAll_fil os]
    cases o with
    | none => rfl
    | some b =>
      by_cases c : b < st.begun
      · rw [mark_eq fun b' e => by cases e; exact c]
        unfold fil
        rw [List.filter_cons_of_pos (by simpa using c)]
        rfl
      · have e : st.mark (some b) = st := by
          unfold HS.mark
          simp only
          rw [if_neg fun z => c z.1]
        rw [e]
        unfold fil
        rw [List.filter_cons_of_neg (by simpa using c)]
/-- what a hand can come to -/
inductive Rch (hs : Hs) (rw : Rw) : Nat → Prop
  | of {x : Nat} : some x ∈ hs → Rch hs rw x
  | st {y x : Nat} : Rch hs rw y → some x ∈ rowOf rw y → Rch hs rw x
theorem J.begin_ {st : HS} {G : Nat → Prop} (j : J st G) (hs : st.stage = .idle) : JU st.begin_ (Rch st.hands st.rows) := by
  obtain ⟨i1, i2, i3, i4, i5⟩ := j.idl hs
  have sub : ∀ x, Rch st.hands st.rows x → G x := fun x r => by
    induction r with
    | of h => exact j.gh _ h
    | st _ h ih => exact j.gr _ ih _ h
  have gl : ∀ x, Rch st.hands st.rows x → x < st.rows.length := fun x r => j.w.lt x (j.gt x (sub x r))
  have e : st.begin_ = { st with old := st.there, begun := st.rows.length, stage := .marking, seen := mks [] (fil st.rows.length st.hands), looked := 0 } := by
    unfold HS.begin_
    rw [markAll_fil]
    simp only [i1, i2]
  rw [e]
  have hsg : ∀ x ∈ mks [] (fil st.rows.length st.hands), some x ∈ st.hands ∧ x < st.rows.length := fun x hx => by
    rcases mks_mem hx with h | h
    · cases h
    · exact mem_fil.mp h
  refine ⟨⟨⟨j.w.nd, j.w.lt, j.w.hands, j.w.big, j.w.rl, mks_nd List.nodup_nil _, fun b hb => (hsg b hb).2, Nat.le_refl _⟩, j.p, fun b h => .of h, fun x r b h => .st r h, fun x r => j.gt x (sub x r), fun _ => ⟨fun x hx => .of (hsg x hx).1, fun x h1 h2 => ?_, fun x r hx => ?_, i3, j.w.nd, fun x hx => ⟨j.w.lt x hx, hx⟩, fun x hx _ => hx⟩, (fun h => by cases h), (fun h => by cases h)⟩, fun _ => Nat.zero_le _, (fun h => by cases h)⟩
  · have h1' : st.rows.length ≤ x := h1
    have h2' : x < st.rows.length := h2
    omega
  · clear hx
    show x ∈ mks [] (fil st.rows.length st.hands) ∨ Via st.rows (mks [] (fil st.rows.length st.hands)) 0 st.rows.length x
    have hx := gl x r
    induction r with
    | of h => exact .inl (mem_mks (mem_fil.mpr ⟨h, hx⟩))
    | @st y x r h ih =>
      by_cases c : x ∈ mks [] (fil st.rows.length st.hands)
      · exact .inl c
      · rcases ih (gl y r) with h1 | h1
        · exact .inr (.of (by rw [List.drop_zero]; exact h1) h hx c)
        · exact .inr (.st h1 h hx c)
theorem J.look {st : HS} {G : Nat → Prop} (j : J st G) (hs : st.stage = .marking) : JU st.lookAt G := by
  have m := j.mm hs
  have l := j.lm hs
  have hg : st.seen.getD st.looked 0 = st.seen[st.looked] := by rw [List.getD_eq_getElem?_getD, List.getElem?_eq_getElem l]; rfl
  have gw : G st.seen[st.looked] := m.sg _ (List.getElem_mem l)
  have e : st.lookAt = { st with looked := st.looked + 1, seen := mks st.seen (fil st.begun (rowOf st.rows st.seen[st.looked])) } := by
    unfold HS.lookAt
    rw [markAll_fil, hg]
    rfl
  have hw : HW st.lookAt := by
    unfold HS.lookAt
    exact (HW.mk j.w.nd j.w.lt j.w.hands j.w.big j.w.rl j.w.sn j.w.sl j.w.bg : HW { st with looked := st.looked + 1 }).markAll _
  rw [e] at hw ⊢
  have hp := mks_pre st.seen (fil st.begun (rowOf st.rows st.seen[st.looked]))
  refine ⟨⟨hw, j.p, j.gh, j.gr, j.gt, fun _ => ⟨fun x hx => ?_, m.nw, fun x gx hx => ?_, m.sp, m.op, m.ol, m.ot⟩, (fun h => by rw [show st.stage = _ from hs] at h; cases h), (fun h => by rw [show st.stage = _ from hs] at h; cases h)⟩, fun _ => Nat.le_trans l hp.length_le, (fun h => by rw [show st.stage = _ from hs] at h; cases h)⟩
  · rcases mks_mem hx with h | h
    · exact m.sg x h
    · exact j.gr _ gw x (mem_fil.mp h).1
  · rcases m.via x gx hx with h | h
    · exact .inl (hp.subset h)
    · refine via_step (fun y hy => ?_) (fun y h1 h2 => new_late hp l h1 h2) (fun y x e _ => .inl e) (fun y hy => hp.subset hy) h
      rw [List.drop_eq_getElem_cons l] at hy
      rcases List.mem_cons.mp hy with h | h
      · subst h
        exact .inr fun x hx hb => mem_mks (mem_fil.mpr ⟨hx, hb⟩)
      · exact .inl (drop_pre hp h)
theorem J.sweep {st : HS} {G : Nat → Prop} (j : J st G) (hs : st.stage = .sweeping) : JU st.sweep.1 G := by
  have m := j.sw hs
  have l := j.ls hs
  have hg : st.old.getD st.swept 0 = st.old[st.swept] := by rw [List.getD_eq_getElem?_getD, List.getElem?_eq_getElem l]; rfl
  have hob := (m.ol st.old[st.swept] (by rw [List.drop_eq_getElem_cons l]; exact List.mem_cons_self)).1
  have hne : ∀ x ∈ st.old.drop (st.swept + 1), st.old[st.swept] < x ∧ x ∈ st.old.drop st.swept := fun x hx => by
    have hpd : (st.old.drop st.swept).Pairwise (· < ·) := m.op.sublist (List.drop_sublist _ _)
    rw [List.drop_eq_getElem_cons l] at hpd ⊢
    exact ⟨(List.pairwise_cons.mp hpd).1 x hx, List.mem_cons_of_mem _ hx⟩
  unfold HS.sweep
  rw [hg]
  by_cases c : st.old[st.swept] ∈ st.seen
  · rw [if_pos c]
    exact ⟨⟨⟨j.w.nd, j.w.lt, j.w.hands, j.w.big, j.w.rl, j.w.sn, j.w.sl, j.w.bg⟩, j.p, j.gh, j.gr, j.gt, (fun h => by rw [show st.stage = _ from hs] at h; cases h), fun _ => ⟨m.lk, m.sg, m.nw, m.gs, m.op, fun x hx => m.ol x (hne x hx).2⟩, (fun h => by rw [show st.stage = _ from hs] at h; cases h)⟩, (fun h => by rw [show st.stage = _ from hs] at h; cases h), fun _ => l⟩
  · rw [if_neg c]
    have hgn : ¬ G st.old[st.swept] := fun g => c (m.gs _ g hob)
    have hmem : ∀ x, x ∈ st.there → x ≠ st.old[st.swept] → x ∈ st.there.filter fun x => decide (x ≠ st.old[st.swept]) := fun x h1 h2 => List.mem_filter.mpr ⟨h1, decide_eq_true h2⟩
    refine ⟨⟨⟨j.w.nd.filter _, fun b hb => j.w.lt b (List.mem_filter.mp hb).1, j.w.hands, j.w.big, j.w.rl, j.w.sn, j.w.sl, j.w.bg⟩, j.p, j.gh, j.gr, fun x gx => hmem x (j.gt x gx) fun z => hgn (z ▸ gx), (fun h => by rw [show st.stage = _ from hs] at h; cases h), fun _ => ⟨m.lk, m.sg, m.nw, m.gs, m.op, fun x hx => ?_⟩, (fun h => by rw [show st.stage = _ from hs] at h; cases h)⟩, (fun h => by rw [show st.stage = _ from hs] at h; cases h), fun _ => l⟩
    obtain ⟨h1, h2⟩ := hne x hx
    exact ⟨(m.ol x h2).1, hmem x (m.ol x h2).2 (by omega)⟩
theorem via_none {rw : Rw} {seen : List Nat} {lk bg x : Nat} (h : seen.drop lk = []) (v : Via rw seen lk bg x) : False := by
  induction v with
  | of h1 => rw [h] at h1; cases h1
  | st _ _ _ _ ih => exact ih
theorem JU.settle1 {st : HS} {G : Nat → Prop} (j : JU st G) : JU st.settle1 G ∧ (st.settle1.stage = .marking → st.settle1.looked < st.settle1.seen.length) := by
  unfold HS.settle1
  by_cases c : st.stage = .marking ∧ st.looked = st.seen.length
  · rw [if_pos c]
    have m := j.mm c.1
    refine ⟨⟨⟨⟨j.w.nd, j.w.lt, j.w.hands, j.w.big, j.w.rl, j.w.sn, j.w.sl, j.w.bg⟩, j.p, j.gh, j.gr, j.gt, (fun h => by cases h), fun _ => ⟨c.2, m.sg, m.nw, fun x gx hx => ?_, m.op, fun x hx => ?_⟩, (fun h => by cases h)⟩, (fun h => by cases h), fun _ => ?_⟩, fun h => by cases h⟩
    · rcases m.via x gx hx with h | h
      · exact h
      · exact (via_none (List.drop_eq_nil_of_le (by omega)) h).elim
    · exact m.ol x (List.mem_of_mem_drop hx)
    · show st.swept ≤ st.old.length
      rw [m.sp]; exact Nat.zero_le _
  · rw [if_neg c]
    refine ⟨j, fun h => ?_⟩
    have := j.lm h
    have : ¬ st.looked = st.seen.length := fun z => c ⟨h, z⟩
    omega
theorem JU.settle {st : HS} {G : Nat → Prop} (j : JU st G) : J st.settle G := by
  obtain ⟨j1, l1⟩ := j.settle1
  unfold HS.settle
  generalize st.settle1 = s at j1 l1 ⊢
  unfold HS.settle2
  by_cases c : s.stage = .sweeping ∧ s.swept = s.old.length
  · rw [if_pos c]
    exact ⟨⟨⟨j1.w.nd, j1.w.lt, j1.w.hands, j1.w.big, j1.w.rl, List.nodup_nil, (fun _ h => absurd h List.not_mem_nil), Nat.zero_le _⟩, j1.p, j1.gh, j1.gr, j1.gt, (fun h => by cases h), (fun h => by cases h), fun _ => ⟨rfl, rfl, rfl, rfl, rfl⟩⟩, (fun h => by cases h), (fun h => by cases h)⟩
  · rw [if_neg c]
    refine ⟨j1.toJC, l1, fun h => ?_⟩
    have := j1.ls h
    have : ¬ s.swept = s.old.length := fun z => c ⟨h, z⟩
    omega
theorem J.piece {st : HS} {G : Nat → Prop} (j : J st G) : ∃ G', J st.piece.1 G' := by
  unfold HS.piece
  cases e : st.stage with
  | idle => exact ⟨_, (j.begin_ e).settle⟩
  | marking => exact ⟨_, (j.look e).settle⟩
  | sweeping => exact ⟨_, (j.sweep e).settle⟩
theorem J.work {st : HS} {G : Nat → Prop} (j : J st G) : ∀ n, ∃ G', J (HS.work n st).1 G'
  | 0 => ⟨G, j⟩
  | n + 1 => by
    obtain ⟨G', h⟩ := J.work j n
    exact h.piece
/-! What a round still has to do: its plan. -/
/-- what is come to, by steps and by going along -/
theorem lev_rch {hs : Hs} {rw : Rw} : ∀ {n : Nat}, (∀ j, j < n → j < (cm hs rw j).length) → ∀ x ∈ cm hs rw n, Rch hs rw x
  | 0, _, x, hx => by
    rcases mks_mem (s := []) hx with h | h
    · cases h
    · exact .of h
  | n + 1, h, x, hx => by
    have ih := lev_rch (hs := hs) (rw := rw) (n := n) fun j hj => h j (by omega)
    rcases mks_mem (s := cm hs rw n) hx with e | e
    · exact ih x e
    · have hn := h n (by omega)
      have e' : some x ∈ rowOf rw ((cm hs rw n).getD n 0) := e
      rw [List.getD_eq_getElem?_getD, List.getElem?_eq_getElem hn] at e'
      exact .st (ih _ (List.getElem_mem hn)) e'
theorem cm_rch {hs : Hs} {rw : Rw} {N : Nat} (h1 : ∀ n, n < N → n < (cm hs rw n).length) (h2 : N = (cm hs rw N).length) (x : Nat) : x ∈ cm hs rw N ↔ Rch hs rw x := by
  refine ⟨lev_rch h1 x, fun r => ?_⟩
  induction r with
  | of h =>
    have hp := lev_pre rw (mks [] hs) 0 N
    rw [Nat.zero_add] at hp
    exact hp.subset (mem_mks h)
  | @st y x r h ih =>
    obtain ⟨i, hi, e⟩ := List.getElem_of_mem ih
    have hiN : i < N := by omega
    have hil := h1 i hiN
    obtain ⟨k, rfl⟩ : ∃ k, N = i + k := ⟨N - i, by omega⟩
    have hp := lev_pre rw (mks [] hs) i k
    have e1 : (cm hs rw i)[i]? = some y := by
      have := hp.getElem hil
      rw [List.getElem?_eq_getElem hil, this]
      exact congrArg some e
    have e2 : (cm hs rw i).getD i 0 = y := by rw [List.getD_eq_getElem?_getD, e1]; rfl
    have hx : x ∈ cm hs rw (i + 1) := by
      show x ∈ mks (cm hs rw i) (rowOf rw ((cm hs rw i).getD i 0))
      rw [e2]
      exact mem_mks h
    obtain ⟨k', rfl⟩ : ∃ k', k = 1 + k' := ⟨k - 1, by omega⟩
    have hp2 := lev_pre rw (mks [] hs) (i + 1) k'
    rw [Nat.add_assoc] at hp2
    exact hp2.subset hx
theorem nodup_sub : ∀ {xs ys : List Nat}, xs.Nodup → (∀ x ∈ xs, x ∈ ys) → xs.length ≤ ys.length
  | [], _, _, _ => Nat.zero_le _
  | x :: xs, ys, nd, h => by
    have hm := h x List.mem_cons_self
    have ih := nodup_sub (xs := xs) (ys := ys.erase x) (List.nodup_cons.mp nd).2 fun y hy => by
      have hne : y ≠ x := fun z => (List.nodup_cons.mp nd).1 (z ▸ hy)
      exact (List.mem_erase_of_ne hne).mpr (h y (List.mem_cons_of_mem _ hy))
    rw [List.length_erase_of_mem hm] at ih
    have : 0 < ys.length := List.length_pos_of_mem hm
    show xs.length + 1 ≤ ys.length
    omega
/-- what comes of a box -/
abbrev Step := Option (Nat × Bool)
def fate (C : List Nat) (b : Nat) : Step := some (b, !decide (b ∈ C))
structure PL (st : HS) (G : Nat → Prop) (C : List Nat) (pl : List Step) : Prop where
  i : st.stage = .idle → pl = []
  nd : C.Nodup
  c : st.stage ≠ .idle → ∀ x, x ∈ C ↔ G x ∧ x < st.begun
  m : st.stage = .marking → pl = List.replicate (C.length - st.looked) none ++ st.old.map (fate C)
  s : st.stage = .sweeping → pl = (st.old.drop st.swept).map (fate C)
theorem JC.seen_sub {st : HS} {G : Nat → Prop} {C : List Nat} {pl : List Step} (j : JC st G) (p : PL st G C pl) (h : st.stage = .marking) : st.seen.length ≤ C.length :=
  nodup_sub j.w.sn fun x hx => (p.c (by rw [h]; decide) x).mpr ⟨(j.mm h).sg x hx, j.w.sl x hx⟩
theorem J.pl_nil {st : HS} {G : Nat → Prop} {C : List Nat} {pl : List Step} (j : J st G) (p : PL st G C pl) : pl = [] ↔ st.stage = .idle := by
  refine ⟨fun h => ?_, p.i⟩
  cases e : st.stage with
  | idle => rfl
  | marking =>
    have h1 := j.lm e
    have h2 := j.toJC.seen_sub p e
    have h3 := congrArg List.length ((p.m e).symm.trans h)
    rw [List.length_append, List.length_replicate] at h3
    simp at h3
    omega
  | sweeping =>
    have h1 := j.ls e
    have h3 := congrArg List.length ((p.s e).symm.trans h)
    simp at h3
    omega
theorem settle_fields (st : HS) : st.settle.hands = st.hands ∧ st.settle.rows = st.rows ∧ st.settle.room = st.room ∧ st.settle.there = st.there := by
  unfold HS.settle HS.settle1 HS.settle2
  split <;> split <;> exact ⟨rfl, rfl, rfl, rfl⟩
theorem JU.pl_settle {st : HS} {G : Nat → Prop} {C : List Nat} {pl : List Step} (j : JU st G) (p : PL st G C pl) (hs : st.stage ≠ .idle) : PL st.settle G C pl ∧ st.settle.ended = st.ended + (if pl = [] then 1 else 0) := by
  have key : ∀ s : HS, s.stage ≠ .idle → PL s G C pl → JU s G → (s.stage = .marking → pl ≠ []) → PL s.settle2 G C pl ∧ s.settle2.ended = s.ended + (if pl = [] then 1 else 0) := fun s h p j hm => by
    unfold HS.settle2
    by_cases c : s.stage = .sweeping ∧ s.swept = s.old.length
    · rw [if_pos c]
      have e : pl = [] := by rw [p.s c.1, c.2, List.drop_length]; rfl
      rw [if_pos e]
      exact ⟨⟨fun _ => e, p.nd, (fun z => absurd rfl z), (fun z => by cases z), (fun z => by cases z)⟩, rfl⟩
    · rw [if_neg c]
      have e : pl ≠ [] := by
        cases e : s.stage with
        | idle => exact absurd e h
        | marking => exact hm e
        | sweeping =>
          intro z
          have h3 := congrArg List.length ((p.s e).symm.trans z)
          have h4 := j.ls e
          simp at h3
          exact c ⟨e, by omega⟩
      rw [if_neg e]
      exact ⟨p, rfl⟩
  unfold HS.settle
  have j1 := j.settle1.1
  have l1 := j.settle1.2
  unfold HS.settle1 at j1 l1 ⊢
  by_cases c : st.stage = .marking ∧ st.looked = st.seen.length
  · rw [if_pos c] at j1 l1 ⊢
    have m := j.mm c.1
    have cl : C.length = st.looked := by
      have h1 := j.toJC.seen_sub p c.1
      have h2 : C.length ≤ st.seen.length := nodup_sub p.nd fun x hx => by
        obtain ⟨g, hb⟩ := (p.c hs x).mp hx
        rcases m.via x g hb with h | h
        · exact h
        · exact (via_none (List.drop_eq_nil_of_le (by omega)) h).elim
      omega
    refine key _ (by show Stg.sweeping ≠ .idle; decide) ⟨(fun z => by cases z), p.nd, fun _ => p.c hs, (fun z => by cases z), fun _ => ?_⟩ j1 (fun z => by cases z)
    show pl = (st.old.drop st.swept).map (fate C)
    rw [p.m c.1, m.sp, cl, Nat.sub_self]
    rfl
  · rw [if_neg c] at j1 l1 ⊢
    refine key st hs p j fun e z => ?_
    have h1 := l1 e
    have h2 := j.toJC.seen_sub p e
    have h3 := congrArg List.length ((p.m e).symm.trans z)
    rw [List.length_append, List.length_replicate] at h3
    simp at h3
    omega
/-- behind a piece -/
theorem J.piece_idle {st : HS} {G : Nat → Prop} (j : J st G) (hs : st.stage = .idle) {C : List Nat} (nd : C.Nodup) (hC : ∀ x, x ∈ C ↔ Rch st.hands st.rows x) :
    J st.piece.1 (Rch st.hands st.rows) ∧ PL st.piece.1 (Rch st.hands st.rows) C (List.replicate C.length none ++ st.there.map (fate C)) ∧ st.piece.1.ended = st.ended + (if List.replicate C.length none ++ st.there.map (fate C) = [] then 1 else 0) ∧ st.piece.2 = none ∧ st.piece.1.there = st.there := by
  have e : st.piece = (st.begin_.settle, none) := by unfold HS.piece; rw [hs]
  have ju := j.begin_ hs
  have gl : ∀ x, Rch st.hands st.rows x → x < st.rows.length := fun x r => by
    have := ju.toJC.w.lt x (ju.gt x r)
    have e2 : st.begin_.rows = st.rows := by unfold HS.begin_; rw [markAll_fil]
    rwa [e2] at this
  have es : st.begin_.stage = .marking ∧ st.begin_.begun = st.rows.length ∧ st.begin_.looked = st.looked ∧ st.begin_.old = st.there ∧ st.begin_.ended = st.ended ∧ st.begin_.there = st.there := by
    unfold HS.begin_; rw [markAll_fil]; exact ⟨rfl, rfl, rfl, rfl, rfl, rfl⟩
  obtain ⟨e1, e2, e3, e4, e5, e6⟩ := es
  obtain ⟨_, lk, _⟩ := j.idl hs
  have p : PL st.begin_ (Rch st.hands st.rows) C (List.replicate C.length none ++ st.there.map (fate C)) := by
    refine ⟨(fun z => by rw [e1] at z; cases z), nd, fun _ x => ?_, fun _ => ?_, (fun z => by rw [e1] at z; cases z)⟩
    · rw [hC, e2]
      exact ⟨fun r => ⟨r, gl x r⟩, fun r => r.1⟩
    · rw [e3, lk, e4, Nat.sub_zero]
  obtain ⟨p2, en⟩ := ju.pl_settle p (by rw [e1]; decide)
  rw [e]
  exact ⟨ju.settle, p2, by rw [en, e5], rfl, by rw [(settle_fields _).2.2.2, e6]⟩
theorem fate_drop {C old : List Nat} {n : Nat} (h : n < old.length) : (old.drop n).map (fate C) = fate C old[n] :: (old.drop (n + 1)).map (fate C) := by rw [List.drop_eq_getElem_cons h]; rfl
/-- what a step frees -/
def Step.freed : Step → Option Nat
  | some (b, true) => some b
  | _ => none
def thereOff (t : List Nat) : Option Nat → List Nat
  | none => t
  | some b => t.filter fun x => decide (x ≠ b)
theorem J.piece_on {st : HS} {G : Nat → Prop} {C : List Nat} {pl : List Step} (j : J st G) (p : PL st G C pl) (hs : st.stage ≠ .idle) :
    ∃ s pl', pl = s :: pl' ∧ J st.piece.1 G ∧ PL st.piece.1 G C pl' ∧ st.piece.1.ended = st.ended + (if pl' = [] then 1 else 0) ∧ st.piece.2 = s.freed ∧ st.piece.1.there = thereOff st.there s.freed := by
  cases e : st.stage with
  | idle => exact absurd e hs
  | marking =>
    have ep : st.piece = (st.lookAt.settle, none) := by unfold HS.piece; rw [e]
    have ju := j.look e
    have h1 := j.lm e
    have h2 := j.toJC.seen_sub p e
    have hm := p.m e
    obtain ⟨k, hk⟩ : ∃ k, C.length - st.looked = k + 1 := ⟨C.length - st.looked - 1, by omega⟩
    rw [hk, List.replicate_succ, List.cons_append] at hm
    have es : st.lookAt.stage = st.stage ∧ st.lookAt.begun = st.begun ∧ st.lookAt.looked = st.looked + 1 ∧ st.lookAt.old = st.old ∧ st.lookAt.ended = st.ended ∧ st.lookAt.there = st.there := by
      unfold HS.lookAt; rw [markAll_fil]; exact ⟨rfl, rfl, rfl, rfl, rfl, rfl⟩
    obtain ⟨e1, e2, e3, e4, e5, e6⟩ := es
    have p2 : PL st.lookAt G C (List.replicate k none ++ st.old.map (fate C)) := by
      refine ⟨(fun z => by rw [e1, e] at z; cases z), p.nd, fun _ => by rw [e2]; exact p.c hs, fun _ => ?_, (fun z => by rw [e1, e] at z; cases z)⟩
      rw [e3, e4]
      congr 2
      omega
    obtain ⟨p3, en⟩ := ju.pl_settle p2 (by rw [e1]; exact hs)
    refine ⟨none, _, hm, ?_⟩
    rw [ep]
    exact ⟨ju.settle, p3, by rw [en, e5], rfl, by rw [(settle_fields _).2.2.2, e6]; rfl⟩
  | sweeping =>
    have ep : st.piece = (st.sweep.1.settle, st.sweep.2) := by unfold HS.piece; rw [e]
    have ju := j.sweep e
    have h1 := j.ls e
    have hg : st.old.getD st.swept 0 = st.old[st.swept] := by rw [List.getD_eq_getElem?_getD, List.getElem?_eq_getElem h1]; rfl
    have m := j.sw e
    have hb := (m.ol st.old[st.swept] (by rw [List.drop_eq_getElem_cons h1]; exact List.mem_cons_self)).1
    have hcs : st.old[st.swept] ∈ C ↔ st.old[st.swept] ∈ st.seen := by
      rw [p.c hs]
      exact ⟨fun g => m.gs _ g.1 hb, fun h => ⟨m.sg _ h, hb⟩⟩
    have hp := p.s e
    rw [fate_drop h1] at hp
    have es : st.sweep.1.stage = st.stage ∧ st.sweep.1.begun = st.begun ∧ st.sweep.1.swept = st.swept + 1 ∧ st.sweep.1.old = st.old ∧ st.sweep.1.ended = st.ended ∧ st.sweep.1.there = thereOff st.there (fate C st.old[st.swept]).freed ∧ st.sweep.2 = (fate C st.old[st.swept]).freed := by
      unfold HS.sweep
      rw [hg]
      by_cases c : st.old[st.swept] ∈ st.seen
      · rw [if_pos c]
        have : (fate C st.old[st.swept]).freed = none := by unfold fate; rw [decide_eq_true (hcs.mpr c)]; rfl
        rw [this]
        exact ⟨rfl, rfl, rfl, rfl, rfl, rfl, rfl⟩
      · rw [if_neg c]
        have : (fate C st.old[st.swept]).freed = some st.old[st.swept] := by unfold fate; rw [decide_eq_false fun z => c (hcs.mp z)]; rfl
        rw [this]
        exact ⟨rfl, rfl, rfl, rfl, rfl, rfl, rfl⟩
    obtain ⟨e1, e2, e3, e4, e5, e6, e7⟩ := es
    have p2 : PL st.sweep.1 G C ((st.old.drop (st.swept + 1)).map (fate C)) := by
      refine ⟨(fun z => by rw [e1, e] at z; cases z), p.nd, fun _ => by rw [e2]; exact p.c hs, (fun z => by rw [e1, e] at z; cases z), fun _ => by rw [e3, e4]⟩
    obtain ⟨p3, en⟩ := ju.pl_settle p2 (by rw [e1]; exact hs)
    refine ⟨_, _, hp, ?_⟩
    rw [ep]
    exact ⟨ju.settle, p3, by rw [en, e5], e7, by rw [(settle_fields _).2.2.2, e6]⟩
/-- under a deed -/
theorem mark_same (st : HS) (o : Option Nat) : (st.mark o).stage = st.stage ∧ (st.mark o).old = st.old ∧ (st.mark o).begun = st.begun ∧ (st.mark o).looked = st.looked ∧ (st.mark o).swept = st.swept ∧ (st.mark o).ended = st.ended ∧ (st.mark o).room = st.room := by
  unfold HS.mark
  cases o with
  | none => exact ⟨rfl, rfl, rfl, rfl, rfl, rfl, rfl⟩
  | some b => simp only; split <;> exact ⟨rfl, rfl, rfl, rfl, rfl, rfl, rfl⟩
theorem deed_same (st : HS) (d : Deed) : (st.deed d).stage = st.stage ∧ (st.deed d).old = st.old ∧ (st.deed d).begun = st.begun ∧ (st.deed d).looked = st.looked ∧ (st.deed d).swept = st.swept ∧ (st.deed d).ended = st.ended ∧ (st.deed d).room = st.room := by
  cases d with
  | put i k j =>
    show (st.put _ _ _).stage = _ ∧ _
    unfold HS.deed HS.put
    split
    · exact mark_same _ _
    · exact ⟨rfl, rfl, rfl, rfl, rfl, rfl, rfl⟩
  | _ => exact ⟨rfl, rfl, rfl, rfl, rfl, rfl, rfl⟩
theorem deed_there (st : HS) (d : Deed) : (st.deed d).there = st.there ++ (if V.str d.word = V.str "make" then [st.rows.length] else []) := by
  cases d with
  | make i k => rfl
  | put i k j => rw [if_neg (by show ¬ V.str "put" = V.str "make"; decide), List.append_nil]; exact (put_eq _ _ _ _).2.2
  | take i j k => rw [if_neg (by show ¬ V.str "take" = V.str "make"; decide), List.append_nil]; rfl
  | share i j => rw [if_neg (by show ¬ V.str "share" = V.str "make"; decide), List.append_nil]; rfl
  | drop i => rw [if_neg (by show ¬ V.str "drop" = V.str "make"; decide), List.append_nil]; rfl
theorem J.pl_deed {st : HS} {G : Nat → Prop} {C : List Nat} {pl : List Step} (j : J st G) (p : PL st G C pl) {d : Deed} (ok : d.ok st.hands st.rows) (hbig : st.rows.length < 90000) : ∃ G', J (st.deed d) G' ∧ PL (st.deed d) G' C pl := by
  obtain ⟨G', j2, h⟩ := j.deed2 ok hbig
  obtain ⟨e1, e2, e3, e4, e5, _⟩ := deed_same st d
  refine ⟨G', j2, ⟨fun z => p.i (e1 ▸ z), p.nd, fun z x => ?_, fun z => ?_, fun z => ?_⟩⟩
  · rw [e1] at z
    rw [p.c z, e3]
    exact ⟨fun ⟨a, b⟩ => ⟨(h x b).mpr a, b⟩, fun ⟨a, b⟩ => ⟨(h x b).mp a, b⟩⟩
  · rw [e1] at z
    rw [e4, e2]; exact p.m z
  · rw [e1] at z
    rw [e5, e2]; exact p.s z
theorem settle_hands (st : HS) : st.settle.hands = st.hands ∧ st.settle.rows = st.rows ∧ st.settle.room = st.room := by
  unfold HS.settle HS.settle1 HS.settle2
  split <;> split <;> exact ⟨rfl, rfl, rfl⟩
theorem markAll_same (os : List (Option Nat)) (st : HS) : (st.markAll os).hands = st.hands ∧ (st.markAll os).rows = st.rows ∧ (st.markAll os).room = st.room := by
  rw [markAll_fil]
  exact ⟨rfl, rfl, rfl⟩
theorem piece_same (st : HS) : st.piece.1.hands = st.hands ∧ st.piece.1.rows = st.rows ∧ st.piece.1.room = st.room := by
  have tr : ∀ s : HS, s.hands = st.hands ∧ s.rows = st.rows ∧ s.room = st.room → s.settle.hands = st.hands ∧ s.settle.rows = st.rows ∧ s.settle.room = st.room := fun s h => by
    obtain ⟨a, b, c⟩ := settle_hands s
    exact ⟨a.trans h.1, b.trans h.2.1, c.trans h.2.2⟩
  unfold HS.piece
  cases st.stage with
  | idle => exact tr _ (markAll_same _ _)
  | marking => exact tr _ (markAll_same _ _)
  | sweeping =>
    refine tr _ ?_
    unfold HS.sweep
    split <;> exact ⟨rfl, rfl, rfl⟩
theorem work_same (st : HS) : ∀ n, (HS.work n st).1.hands = st.hands ∧ (HS.work n st).1.rows = st.rows ∧ (HS.work n st).1.room = st.room
  | 0 => ⟨rfl, rfl, rfl⟩
  | n + 1 => by
    obtain ⟨a, b, c⟩ := work_same st n
    obtain ⟨d, e, f⟩ := piece_same (HS.work n st).1
    exact ⟨d.trans a, e.trans b, f.trans c⟩
/-! A whole round without a deed. -/
theorem work_cons (st : HS) : ∀ n, HS.work (n + 1) st = ((HS.work n st.piece.1).1, st.piece.2.toList ++ (HS.work n st.piece.1).2)
  | 0 => by show (st.piece.1, [] ++ st.piece.2.toList) = (st.piece.1, st.piece.2.toList ++ []); rw [List.append_nil, List.nil_append]
  | n + 1 => by
    have ih := work_cons st n
    show ((HS.work (n + 1) st).1.piece.1, (HS.work (n + 1) st).2 ++ (HS.work (n + 1) st).1.piece.2.toList) = _
    rw [ih]
    show ((HS.work n st.piece.1).1.piece.1, (st.piece.2.toList ++ (HS.work n st.piece.1).2) ++ (HS.work n st.piece.1).1.piece.2.toList) = _
    rw [List.append_assoc]
    rfl
theorem thereOff_filter (t : List Nat) (o : Option Nat) : thereOff t o = t.filter fun x => decide (x ∉ o.toList) := by
  cases o with
  | none => exact (List.filter_eq_self.mpr fun x _ => by simp).symm
  | some b => unfold thereOff; refine List.filter_congr fun x _ => ?_; simp
theorem run_plan : ∀ (pl : List Step) (st : HS) (G : Nat → Prop) (C : List Nat), J st G → PL st G C pl → st.stage ≠ .idle →
    (HS.work pl.length st).1.stage = .idle ∧ (HS.work pl.length st).1.ended = st.ended + 1 ∧ (HS.work pl.length st).2 = pl.filterMap Step.freed ∧ (HS.work pl.length st).1.there = st.there.filter fun x => decide (x ∉ pl.filterMap Step.freed)
  | [], st, G, C, j, p, h => absurd ((j.pl_nil p).mp rfl) h
  | s :: pl, st, G, C, j, p, h => by
    obtain ⟨s', pl', e, j2, p2, en, fr, th⟩ := j.piece_on p h
    cases e
    show (HS.work (pl.length + 1) st).1.stage = .idle ∧ (HS.work (pl.length + 1) st).1.ended = _ ∧ (HS.work (pl.length + 1) st).2 = _ ∧ (HS.work (pl.length + 1) st).1.there = _
    rw [work_cons]
    have ef : (s :: pl).filterMap Step.freed = s.freed.toList ++ pl.filterMap Step.freed := by
      rw [List.filterMap_cons]
      cases s.freed <;> rfl
    by_cases c : st.piece.1.stage = .idle
    · have hp := (j2.pl_nil p2).mpr c
      subst hp
      refine ⟨c, by show st.piece.1.ended = _; rw [en]; rfl, by rw [ef, fr]; rfl, ?_⟩
      show st.piece.1.there = _
      rw [th, ef, thereOff_filter]
      simp
    · obtain ⟨i1, i2, i3, i4⟩ := run_plan pl st.piece.1 G C j2 p2 c
      have hp : pl ≠ [] := fun z => c ((j2.pl_nil p2).mp z)
      rw [if_neg hp] at en
      refine ⟨i1, by rw [i2, en], by rw [i3, fr, ef], ?_⟩
      show (HS.work pl.length st.piece.1).1.there = _
      rw [i4, th, thereOff_filter, ef, List.filter_filter]
      refine List.filter_congr fun x _ => ?_
      by_cases a : x ∈ s.freed.toList <;> by_cases b : x ∈ pl.filterMap Step.freed <;> simp_all
theorem freed_plan (C t : List Nat) (n : Nat) : (List.replicate n none ++ t.map (fate C)).filterMap Step.freed = t.filter fun x => decide (x ∉ C) := by
  rw [List.filterMap_append]
  have e1 : (List.replicate n (none : Step)).filterMap Step.freed = [] := by
    rw [List.filterMap_eq_nil_iff]
    intro a ha
    rw [(List.mem_replicate.mp ha).2]
    rfl
  rw [e1, List.nil_append]
  induction t with
  | nil => rfl
  | cons x t ih =>
    rw [List.map_cons, List.filterMap_cons, ih]
    unfold fate
    by_cases c : x ∈ C
    · rw [decide_eq_true c, List.filter_cons_of_neg (by simpa using c)]
      rfl
    · rw [decide_eq_false c, List.filter_cons_of_pos (by simpa using c)]
      rfl
/-- a round frees just what can't be come to -/
theorem J.round {st : HS} {G : Nat → Prop} (j : J st G) (hs : st.stage = .idle) {C : List Nat} (nd : C.Nodup) (hC : ∀ x, x ∈ C ↔ Rch st.hands st.rows x) {n : Nat} (hn : n = 1 + C.length + st.there.length) :
    (HS.work n st).1.stage = .idle ∧ (HS.work n st).1.ended = st.ended + 1 ∧ (HS.work n st).2 = (st.there.filter fun x => decide (x ∉ C)) ∧ (HS.work n st).1.there = st.there.filter fun x => decide (x ∈ C) := by
  obtain ⟨j1, p1, en, fr, th⟩ := j.piece_idle hs nd hC
  have e : n = (List.replicate C.length (none : Step) ++ st.there.map (fate C)).length + 1 := by
    rw [List.length_append, List.length_replicate, List.length_map]; omega
  rw [e, work_cons, fr]
  have hf := freed_plan C st.there C.length
  by_cases c : st.piece.1.stage = .idle
  · have hp := (j1.pl_nil p1).mpr c
    rw [if_pos hp] at en
    rw [hp] at hf ⊢
    have ht : st.there = [] := by
      have := congrArg List.length hp
      simp at this
      exact this.2
    refine ⟨c, en, hf, ?_⟩
    show st.piece.1.there = _
    rw [th, ht]
    rfl
  · have hp : List.replicate C.length (none : Step) ++ st.there.map (fate C) ≠ [] := fun z => c ((j1.pl_nil p1).mp z)
    rw [if_neg hp] at en
    obtain ⟨i1, i2, i3, i4⟩ := run_plan _ _ _ C j1 p1 c
    refine ⟨i1, by rw [i2, en], by rw [i3, hf]; rfl, ?_⟩
    show (HS.work _ st.piece.1).1.there = _
    rw [i4, hf, th]
    refine List.filter_congr fun x hx => ?_
    refine decide_eq_decide.mpr ?_
    rw [List.mem_filter]
    by_cases d : x ∈ C <;> simp [hx, d]
/-- what stands between two rounds -/
theorem J.rest {st : HS} (w : HW st) (p : PW st.hands st.rows) (gh : ∀ b, some b ∈ st.hands → b ∈ st.there) (gr : ∀ x ∈ st.there, ∀ b, some b ∈ rowOf st.rows x → b ∈ st.there) (hs : st.stage = .idle) (i : st.seen = [] ∧ st.looked = 0 ∧ st.swept = 0 ∧ st.old = [] ∧ st.begun = 0) : J st (fun x => x ∈ st.there) :=
  ⟨⟨w, p, gh, gr, fun _ h => h, (fun h => by rw [hs] at h; cases h), (fun h => by rw [hs] at h; cases h), fun _ => i⟩, (fun h => by rw [hs] at h; cases h), (fun h => by rw [hs] at h; cases h)⟩
theorem J.hands_pc {st : HS} {G : Nat → Prop} (j : J st G) (n : Nat) : ∀ k, k < n → HW (HS.work k st).1 ∧ PcW (HS.work k st).1 := fun k _ => by
  obtain ⟨G', j'⟩ := j.work k
  exact ⟨j'.w, j'.pc⟩
/-! try .. except, over lists of assertions: calls whose way out is told at the slots. -/
open PySem L2 PyProof.Rows
section
variable {X : Cx} {CX : CXT} {k : Nat} {f C : Addr} {fd : FuncData} {ps : List Str} {sp : Sp} {E : L2.St → XK} {x m : Str} {p pos apos : Pos} {e o : Expr} {es : List Expr} {ta : TE} {t : TA}
def tMethS (C : Addr) (m : Str) (sp : Sp) (E : L2.St → XK) (ta : TE) (t : TA) : TE := fun σ H Q => ta σ H fun x H1 => ∃ a dx fs, x = .ref a ∧ H1 a = some (.ins C dx fs) ∧ fs.lookup m = none ∧ t σ H1 fun vs H2 => sp (x :: vs) H2 Q (E σ)
theorem mp_methS {pl : Sem Bool} (he : PE X o ta) (c : Cls X.K C) (hm : Meth X.K C m f) (F : FnOk X.prog X.w X.K X.mg X.base CX k f fd ps sp) (hr : Room k X.A) (hb : Binds X.K fd ps []) (hx : ∀ σ, PassesAt CX X σ (E σ)) (ha : PA X (e :: es) t)
    (hst : starEach (e :: es) X.env = (false, eval e X.env) :: starEach es X.env := by rfl) (hpl : (backTo pos (starEach es X.env)).any (·.1) = false := by rfl)
    (ht : eval (.Call (.Attribute o m apos) (e :: es) [] pos) X.env = (do
      let ov ← eval o X.env
      standAt apos.atName
      let (f, first) ← holding [ov] (getMethod ov m pl)
      callWith pos f first (backTo pos (starEach (e :: es) X.env)) (backToKw pos (keywordEach [] X.env))) := by rfl) :
    PE X (.Call (.Attribute o m apos) (e :: es) [] pos) (tMethS C m sp E ta t) := by
  refine ⟨fun pins s σ H Q I h => ?_⟩
  refine PySem.W.methodCall_KW (pl := pl) (thn (he.run pins s σ H _ I h) fun u s1 ⟨x, H1, I1, rx, a, dx, fs, ex, ea, l, q⟩ => ?_) ht
  subst ex
  obtain rfl : u = Value.ref a := rx
  refine getmeth_ok I1 ea c hm l ?_
  refine PySem.W.callWith_K (first := [.ref a]) (h₀ := X.base) I.ok.mod.kin hm.kp (thn (ha.run pos pins s1 σ H1 _ I1 q) fun us s2 ⟨vs, H2, I2, r, q2⟩ => ⟨I2.kIn, ?_⟩) hst hpl
  exact run_fnS (us := .ref a :: us) (vs := .ref a :: vs) F hr hb (hx σ) I2 (.cons rfl r) q2
def tMakeS (C : Addr) (sp : Sp) (E : L2.St → XK) (t : TA) : TE := fun σ H Q => t σ H fun vs H1 => ∀ x dx, H1 x = none → H1 dx = none → dx ≠ x → sp (.ref x :: vs) (upd (upd H1 dx (.own x)) x (.ins C dx [])) (fun v H2 => v = .non ∧ Q (.ref x) H2) (E σ)
theorem run_makeS {E : XK} {pins : List (Addr × Obj)} {σ : L2.St} {H : Hp} {s : Shared} {Q : VK} {us : List Value} {vs : List V} (M : Mk X.K C f) (F : FnOk X.prog X.w X.K X.mg X.base CX k f fd ps sp) (hr : Room (k + 1) X.A) (hb : Binds X.K fd ps [])
    (hx : PassesAt CX X σ E) (I : Inv X pins σ H s) (r : Vals vs us)
    (h : ∀ x dx, H x = none → H dx = none → dx ≠ x → sp (.ref x :: vs) (upd (upd H dx (.own x)) x (.ins C dx [])) (fun v H2 => v = .non ∧ Q (.ref x) H2) E) :
    wpAny (model X.prog X.w) X.A (call (.ref C) us) (EP X pins σ Q) X.xe s := by
  have hq := h (s.heap.objs.size + 1) s.heap.objs.size (I.hok.fresh (Nat.le_succ _)) (I.hok.fresh (Nat.le_refl _)) (Nat.ne_of_lt (Nat.lt_succ_self _))
  have I2 := Inv.made (C := C) I
  have r2 : Vals (V.ref (s.heap.objs.size + 1) :: vs) (Value.ref (s.heap.objs.size + 1) :: us) := .cons rfl r
  have hl : (Value.ref (s.heap.objs.size + 1) :: us ++ []).length = ps.length := by
    have e := r2.length
    rw [F.len _ _ _ _ hq] at e
    rw [List.append_nil]
    exact e.symm
  have hb2 := hb _ (Value.ref (s.heap.objs.size + 1) :: us) I2.kIn hl
  rw [List.append_nil] at hb2
  refine wpAny_call (make_map (f := f) I.kIn M.makes M.init (beq_iff_eq.mp M.fn) (codeAny_mono (F.run _ X.stack _ _ ⟨Value.ref (s.heap.objs.size + 1) :: us, []⟩ (Value.ref (s.heap.objs.size + 1) :: us) _ _ E (hr.make C us [])
    (I2.env0.make C us []) hb2 r2 hq) fun r s' hq' => ?_))
  cases r with
  | error e => exact hx pins _ _ e s' I2 hq'
  | ok fl =>
    cases fl with
    | ret u =>
      obtain ⟨v, H', I3, rv, ev, q3⟩ := I2.after hq'
      subst ev
      exact ⟨rv, ⟨V.ref (s.heap.objs.size + 1), H', I3, rfl, q3⟩⟩
    | next => exact False.elim hq'
    | brk => exact False.elim hq'
    | cont => exact False.elim hq'
theorem mp_makeS (M : Mk X.K C f) (F : FnOk X.prog X.w X.K X.mg X.base CX k f fd ps sp) (hr : Room (k + 1) X.A) (hg : Gl X x) (hm : X.mg x = some (.ref C)) (hb : Binds X.K fd ps []) (hx : ∀ σ, PassesAt CX X σ (E σ))
    (ha : PA X (e :: es) t) (hdb : (x == ("__debug__" : Str)) = false := by decide) (he : starEach (e :: es) X.env = (false, eval e X.env) :: starEach es X.env := by rfl) (hpl : (backTo pos (starEach es X.env)).any (·.1) = false := by rfl) :
    PE X (.Call (.Name x p) (e :: es) [] pos) (tMakeS C sp E t) := by
  refine ⟨fun pins s σ H Q I h => ?_⟩
  refine wpAny_Call_Name_kw (ld_glob I hg hm ?_ hdb)
  refine PySem.W.callWith_K (h₀ := X.base) I.ok.mod.kin M.kp (thn (ha.run pos pins s σ H _ I h) fun us s1 ⟨vs, H1, I1, r, q⟩ => ⟨I1.kIn, ?_⟩) he hpl
  exact run_makeS M F hr hb (hx σ) I1 r q
/-- an expression that is never come to -/
def tNo : TE := fun _ _ _ => False
theorem pe_no {e : Expr} : PE X e tNo := ⟨fun _ _ _ _ _ _ h => h.elim⟩
end
/-- an error of the class at R is (b), is not (¬ b) what «except C» names -/
theorem exm_of {K : PySem.W.Frag} {R C : Addr} {b : Bool} (h1 : PySem.W.subIn K (.ref C) (.type "BaseException") = some true) (h2 : PySem.W.isClsIn K C = true) (h3 : PySem.W.typeIn K (.ref C) = some (.type "type")) (h4 : PySem.W.subIn K (.ref R) (.ref C) = some b) :
    PySem.W.exmOne K (.ref R) (.ref C) = some b := by
  have e1 : (PySem.W.subIn K (.ref C) (.type "BaseException") == some true) = true := by rw [h1] <;> rfl
  have e2 : ((PySem.W.clsIn K C).isSome && PySem.W.typeIn K (.ref C) == some (.type "type")) = true := by
    have h2' : (PySem.W.clsIn K C).isSome = true := h2
    rw [h2', h3] <;> rfl
  show (if (PySem.W.subIn K (.ref C) (.type "BaseException") == some true) = true then (if ((PySem.W.clsIn K C).isSome && PySem.W.typeIn K (.ref C) == some (.type "type")) = true then PySem.W.subIn K (.ref R) (.ref C) else none) else none) = some b
  rw [if_pos e1, if_pos e2]
  exact h4
/-! ### readings -/
def tTryO (K : PySem.W.Frag) (c : Value) (ts : TS) (tb : WX → TS) : TS := fun D σ H => tb (wOnly K c (fun _ _ _ => ts) (fun _ _ _ _ => False) D) D σ H
abbrev WA := Value → L2.St → AL → Prop
def WLe (Wa : WA) (W : WX) : Prop := ∀ cls σ L H, Sep L H → Wa cls σ L → W cls none σ H
/-- what is wished of an exception by one clause without a name -/
def wA (K : PySem.W.Frag) (c : Value) (ts : TS) (D : EA) : WA := fun cls σ L => PySem.W.exmOne K cls c = some true ∧ SS ts D σ L
section
variable {K : PySem.W.Frag} {σ : L2.St} {L : AL} {Q : V → AL → Prop} {P : Pm} {tr : TA} {ta : TE} {ts : TS} {D : EA} {W : WX} {Wa : WA} {c : Value}
theorem s_tryO {tb : WX → TS} (h : ∀ W, WLe (wA K c ts D) W → SS (tb W) D σ L) : SS (tTryO K c ts tb) D σ L := fun H s E le =>
  h (wOnly K c (fun _ _ _ => ts) (fun _ _ _ _ => False) E) (fun cls σ L H s w => ⟨true, w.1, fun _ a _ => w.2 H s E le, fun z => nomatch z⟩) H s E le
theorem e_methW {C : Addr} {m : Str} (hW : WLe Wa W) (h : SE ta σ L fun x L1 => ∃ a dx fs, x = .ref a ∧ Has L1 a (.ins C dx fs) ∧ fs.lookup m = none ∧ SA tr σ L1 fun vs L2 => ∃ L3, Ent L2 L3 ∧ P (x :: vs) L3 Q fun cls L => Wa cls σ L) : SE (tMethS C m (lift P) (WE W) ta tr) σ L Q := fun H s Qh k =>
  h H s _ fun x L1 H1 s1 ⟨a, dx, fs, e, hh, l, h1⟩ => ⟨a, dx, fs, e, hh H1 s1, l, h1 H1 s1 _ fun vs L2 H2 s2 ⟨L3, en, p⟩ => ⟨L3, Q, fun cls L => Wa cls σ L, en H2 s2, p, k, fun cls L H s q => hW cls σ L H s q⟩⟩
theorem e_callW (hW : WLe Wa W) (h : SA tr σ L fun vs L1 => ∃ L2, Ent L1 L2 ∧ P vs L2 Q fun cls L => Wa cls σ L) : SE (tCallS (lift P) (WE W) tr) σ L Q := fun H s Qh k =>
  h H s _ fun vs L1 H1 s1 ⟨L2, en, p⟩ => ⟨L2, Q, fun cls L => Wa cls σ L, en H1 s1, p, k, fun cls L H s q => hW cls σ L H s q⟩
theorem e_makeW {C : Addr} (hW : WLe Wa W) (h : SA tr σ L fun vs L1 => ∀ p dx, ∃ L2, Ent (pt p (.ins C dx []) :: L1) L2 ∧ P (.ref p :: vs) L2 (fun v L3 => v = .non ∧ Q (.ref p) L3) fun cls L => Wa cls σ L) : SE (tMakeS C (lift P) (WE W) tr) σ L Q := fun H s Qh k =>
  h H s _ fun vs L1 H1 s1 h1 => fun x dx hx hdx ne => by
    obtain ⟨L2, en, p⟩ := h1 x dx
    have s2 : Sep (pt x (.ins C dx []) :: L1) (upd (upd H1 dx (.own x)) x (.ins C dx [])) := sep_new ((s1.mono (fun b o e => by rw [upd_ne (ne_of_none e hdx)]; exact e))) (by rw [upd_ne ne.symm]; exact hx)
    exact ⟨L2, fun v L3 => v = .non ∧ Q (.ref x) L3, fun cls L => Wa cls σ L, en _ s2, p, fun v L3 H3 s3 q => ⟨q.1, k _ _ _ s3 q.2⟩, fun cls L H s q => hW cls σ L H s q⟩
end
/-! Texts: the rules read over lists of assertions; the written table of words. -/
open PySem L2 PyProof.Rows
abbrev rSplit : V → List V → Hp → VK → Prop := fun x xs H Q => ∃ a b, x = .str a ∧ xs = [.str b] ∧ (b.length == 0) = false ∧ a.length + 2 ≤ sizeLine ∧ rNewStrs (Txt.split a b) H Q
abbrev rJoin (K : PySem.W.Frag) : V → List V → Hp → VK → Prop := fun x xs H Q => ∃ a p, ∃ ys : List Str, x = .str a ∧ xs = [.ref p] ∧ (SqL K H p (ys.map V.str) ∨ SqT K H p (ys.map V.str)) ∧ (ys.map (·.length)).sum + ys.length * a.length ≤ 16777216 ∧ Q (.str (Txt.join a ys)) H
abbrev rInSg : R2 := fun x y H Q => ∃ (c : Nat) (z : Str), x = .str ⟨#[c]⟩ ∧ y = .str z ∧ Q (.bl (decide (c ∈ z.cps.toList))) H
abbrev rNotInSg : R2 := fun x y H Q => ∃ (c : Nat) (z : Str), x = .str ⟨#[c]⟩ ∧ y = .str z ∧ Q (.bl (!decide (c ∈ z.cps.toList))) H
abbrev rIntS : List V → Hp → VK → Prop := fun xs H Q => ∃ a n, xs = [.str a] ∧ PySem.intText? a = some n ∧ a.length ≤ 640 ∧ Q (.int n) H
abbrev rTupOf (K : PySem.W.Frag) : List V → Hp → VK → Prop := fun xs H Q => ∃ p ys, xs = [.ref p] ∧ ((SqL K H p ys ∧ ∀ l, H l = none → Q (.ref l) (upd H l (.tup ys))) ∨ (SqT K H p ys ∧ Q (.ref p) H))
/-! ### the table of words -/
def wTab : List (Str × Int) := [("make", 2), ("take", 3), ("put", 3), ("share", 2), ("drop", 1), ("work", 1)]
def tabGet (tb : List (Str × Int)) (x : Str) : Option Int := (tb.find? fun p => p.1 == x).map (·.2)
def WDict (K : PySem.W.Frag) (w : World) (a : Addr) : Prop :=
  ∃ es n, K.lookup a = some ⟨.type "dict", none, .dict es n, #[]⟩ ∧ PySem.W.KeysLit w.params es.toList ∧ (a == sysModules) = false ∧ ∀ x, (tabGet wTab x = none → PySem.W.nsIn K a x = some none) ∧ ∀ m, tabGet wTab x = some m → ∃ u, PySem.W.nsIn K a x = some (some (.int m u))
inductive KeyedT : List DictEntry → List (Str × Int) → Prop
  | nil : KeyedT [] []
  | cons {h : Int} {x : Str} {t u : Tok} {m : Int} {l : List DictEntry} {tb : List (Str × Int)} : KeyedT l tb → KeyedT (⟨h, .str x t, .int m u⟩ :: l) ((x, m) :: tb)
theorem keyed_find {l : List DictEntry} {tb : List (Str × Int)} (k : KeyedT l tb) (x : Str) : (tabGet tb x = none → l.find? (·.key.isStr x) = none ∧ l.any (·.refKey) = false) ∧ ∀ m, tabGet tb x = some m → ∃ e u, l.find? (·.key.isStr x) = some e ∧ e.val = .int m u := by
  induction k with
  | nil => exact ⟨fun _ => ⟨rfl, rfl⟩, fun m h => by cases h⟩
  | @cons h y t u m l tb k ih =>
    by_cases c : (y == x) = true
    · have e2 : tabGet ((y, m) :: tb) x = some m := by unfold tabGet; rw [List.find?_cons_of_pos (by exact c)]; rfl
      have e3 : ((⟨h, .str y t, .int m u⟩ : DictEntry) :: l).find? (·.key.isStr x) = some ⟨h, .str y t, .int m u⟩ := List.find?_cons_of_pos (by exact c)
      rw [e2]
      refine ⟨fun z => (by cases z), fun m' hm => ?_⟩
      cases hm
      exact ⟨_, u, e3, rfl⟩
    · have e2 : tabGet ((y, m) :: tb) x = tabGet tb x := by unfold tabGet; rw [List.find?_cons_of_neg (by exact c)]
      have e3 : ((⟨h, .str y t, .int m u⟩ : DictEntry) :: l).find? (·.key.isStr x) = l.find? (·.key.isStr x) := List.find?_cons_of_neg (by exact c)
      rw [e2, e3]
      refine ⟨fun z => ?_, ih.2⟩
      obtain ⟨a, b⟩ := ih.1 z
      refine ⟨a, ?_⟩
      rw [List.any_cons, b]
      rfl
theorem wdict_of {K : PySem.W.Frag} {w : World} {a : Addr} {es : Array DictEntry} {n : Nat} (lk : K.lookup a = some ⟨.type "dict", none, .dict es n, #[]⟩) (kl : PySem.W.KeysLit w.params es.toList) (sm : (a == sysModules) = false) (kt : KeyedT es.toList wTab) : WDict K w a := by
  refine ⟨es, n, lk, kl, sm, fun x => ?_⟩
  obtain ⟨k1, k2⟩ := keyed_find kt x
  refine ⟨fun h => ?_, fun m h => ?_⟩
  · obtain ⟨a1, a2⟩ := k1 h
    unfold PySem.W.nsIn
    rw [lk]
    show (match es.toList.find? (·.key.isStr x) with | some e => some (some e.val) | none => if es.toList.any (·.refKey) then none else some none) = some none
    rw [a1, a2]
    rfl
  · obtain ⟨e, u, a1, a2⟩ := k2 m h
    refine ⟨u, ?_⟩
    unfold PySem.W.nsIn
    rw [lk]
    show (match es.toList.find? (·.key.isStr x) with | some e => some (some e.val) | none => if es.toList.any (·.refKey) then none else some none) = _
    rw [a1]
    show some (some e.val) = _
    rw [a2]
def rNotInW (a : Addr) : R2 := fun x y H Q => ∃ z : Str, x = .str z ∧ y = .ref a ∧ Q (.bl (!(tabGet wTab z).isSome)) H
def rIxW (a : Addr) : R2 := fun x y H Q => ∃ (z : Str) (m : Int), x = .ref a ∧ y = .str z ∧ tabGet wTab z = some m ∧ Q (.int m) H
theorem op_notIn_wd {X : Cx} {a : Addr} (W : WDict X.K X.w a) : OpR X (compareOp .NotIn) (rNotInW a) := by
  intro pins s σ H x y v u Q I rx ry h
  obtain ⟨z, rfl, rfl, q⟩ := h
  obtain ⟨es, n, hl, hk, lo, hx⟩ := W
  obtain rfl : u = Value.ref a := ry
  obtain ⟨t, rfl⟩ := (show ∃ t, v = Value.str z t from rx)
  have hm := PySem.W.mapOf_K (prog := X.prog) (w := X.w) I.kIn hl hk
  refine wpAny_notIn_of (strKind_is X.prog X.w z t) lo hm ?_
  cases e : tabGet wTab z with
  | none =>
    rw [PySem.W.find_K hl ((hx z).1 e)]
    rw [e] at q
    exact ⟨.bl true, H, I.tok _, rfl, q⟩
  | some m =>
    obtain ⟨u, hu⟩ := (hx z).2 m e
    rw [PySem.W.find_K hl hu]
    rw [e] at q
    exact ⟨.bl false, H, I.tok _, rfl, q⟩
theorem ix_wd {X : Cx} {a : Addr} (W : WDict X.K X.w a) : IxR X (rIxW a) := by
  intro value slice pins s σ H x y v u Q I rx ry h hs
  obtain ⟨z, m, rfl, rfl, hm', q⟩ := h
  obtain ⟨es, n, hl, hk, lo, hx⟩ := W
  obtain ⟨u0, hu⟩ := (hx z).2 m hm'
  obtain rfl : v = Value.ref a := rx
  obtain ⟨t, rfl⟩ := (show ∃ t, u = Value.str z t from ry)
  have hm := PySem.W.mapOf_K (prog := X.prog) (w := X.w) I.kIn hl hk
  exact tail_any hm.typeIs slot_dict_getitem.lookup (wpAny_getItem_of (strKind_is X.prog X.w z t) hm (PySem.W.find_K hl hu) ⟨.int m, H, I.tok _, ⟨_, rfl⟩, q⟩) hs
/-! ### readings -/
section
variable {K : PySem.W.Frag} {σ : L2.St} {L M : AL} {Q : V → AL → Prop} {ta tb : TE}
theorem e_m1 {r : V → List V → Hp → VK → Prop} (h : SE ta σ L fun x L1 => (∃ a, x = .str a) ∧ SE tb σ L1 fun y L2 => RE (r x [y]) L2 Q) : SE (tM1 r ta tb) σ L Q := fun H s Qh k =>
  h H s _ fun x L1 H1 s1 ⟨a, h1⟩ => ⟨a, h1 H1 s1 _ fun y L2 H2 s2 h2 => h2 H2 s2 Qh k⟩
theorem r_split {a b : Str} (hb : (b.length == 0) = false) (hz : a.length + 2 ≤ sizeLine) (q : ∀ p, Q (.ref p) (pt p (.lst ((Txt.split a b).map V.str)) :: L)) : RE (rSplit (.str a) [.str b]) L Q := fun H s Qh k =>
  ⟨a, b, rfl, rfl, hb, hz, fun p hp => k _ _ _ (sep_new s hp) (q p)⟩
theorem r_join {a : Str} {p : Addr} {ys : List Str} (h : SqA K L p (ys.map V.str)) (hz : (ys.map (·.length)).sum + ys.length * a.length ≤ 16777216) (q : Q (.str (Txt.join a ys)) L) : RE (rJoin K (.str a) [.ref p]) L Q := fun H s Qh k =>
  ⟨a, p, ys, rfl, rfl, .inl (h H s), hz, k _ _ _ s q⟩
theorem r_inSg {c : Nat} {z : Str} (q : Q (.bl (decide (c ∈ z.cps.toList))) L) : RE (rInSg (.str ⟨#[c]⟩) (.str z)) L Q := fun H s Qh k => ⟨c, z, rfl, rfl, k _ _ _ s q⟩
theorem r_notInSg {c : Nat} {z : Str} (q : Q (.bl (!decide (c ∈ z.cps.toList))) L) : RE (rNotInSg (.str ⟨#[c]⟩) (.str z)) L Q := fun H s Qh k => ⟨c, z, rfl, rfl, k _ _ _ s q⟩
theorem c_intS {a : Str} {n : Int} (h : PySem.intText? a = some n) (hl : a.length ≤ 640) (q : Q (.int n) L) : RE (rIntS [.str a]) L Q := fun H s Qh k => ⟨a, n, rfl, h, hl, k _ _ _ s q⟩
theorem c_tupOf {p : Addr} {xs : List V} (h : SqA K L p xs) (q : ∀ t, Q (.ref t) (pt t (.tup xs) :: L)) : RE (rTupOf K [.ref p]) L Q := fun H s Qh k => ⟨p, xs, rfl, .inl ⟨h H s, fun l hl => k _ _ _ (sep_new s hl) (q l)⟩⟩
theorem r_slT {a : Addr} {xs : List V} {lo hi : Option Int} (h : TqA K L a xs) (hn : ¬ (HT.sIx xs.length 0 lo = 0 ∧ HT.sIx xs.length xs.length hi = xs.length)) (q : ∀ p, Q (.ref p) (pt p (.tup (cutV xs lo hi)) :: L)) : RE (rSlT K (.ref a) lo hi) L Q := fun H s Qh k =>
  ⟨a, xs, rfl, h H s, hn, fun p hp => k _ _ _ (sep_new s hp) (q p)⟩
theorem r_notInW {a : Addr} {z : Str} (q : Q (.bl (!(tabGet wTab z).isSome)) L) : RE (rNotInW a (.str z) (.ref a)) L Q := fun H s Qh k => ⟨z, rfl, rfl, k _ _ _ s q⟩
theorem r_ixW {a : Addr} {z : Str} {m : Int} (h : tabGet wTab z = some m) (q : Q (.int m) L) : RE (rIxW a (.ref a) (.str z)) L Q := fun H s Qh k => ⟨z, m, rfl, rfl, h, k _ _ _ s q⟩
theorem e_lcT {tl : TE} {te : TE} {tt : TT} {j : Nat} {vs : List Nat} (h : SE tl σ L fun x L1 => ∃ a xs, x = .ref a ∧ TqA K L1 a xs ∧ (∀ x, wipe ((wipe σ vs).set j (some x)) vs = wipe σ vs) ∧ ∃ Pv : Nat → List V → AL → Prop, Pv 0 [] L1 ∧ (∀ i acc L, i ≤ xs.length → Pv i acc L → TqA K L a xs) ∧
      (∀ i x acc L (d : Addr), xs[i]? = some x → Pv i acc L → ST tt ((wipe σ vs).set j (some x)) (pt d (.lst acc) :: L) fun b L2 =>
        (b = true → SE te ((wipe σ vs).set j (some x)) L2 fun y L3 => ∃ L4, Ent L3 (pt d (.lst acc) :: L4) ∧ acc.length < sizeLine ∧ Pv (i + 1) (acc ++ [y]) L4) ∧ (b = false → ∃ L4, Ent L2 (pt d (.lst acc) :: L4) ∧ Pv (i + 1) acc L4)) ∧
      ∀ acc L d, Pv xs.length acc L → Q (.ref d) (pt d (.lst acc) :: L)) : SE (tLc (iTup K tl) (gName j) tt te vs) σ L Q := fun H s Qh k =>
  h H s _ fun x L1 H1 s1 ⟨a, xs, e, hq, hw, Pv, h0, hl, hs, hd⟩ => ⟨a, e, ⟨xs, hq H1 s1⟩, fun d hD => lc_tup (K := K) (a := a) (xs := xs) (fun i H => ∃ acc L, Sep (pt d (.lst acc) :: L) H ∧ Pv i acc L) ⟨[], L1, sep_new s1 hD, h0⟩
    (fun i H hi ⟨acc, L, s, p⟩ => hl i acc L hi p H s.tail)
    (fun i x H hx ⟨acc, L, s, p⟩ => ⟨hw x, hs i x acc L d hx p H s _ fun b L2 H2 s2 ⟨ht, hf⟩ => by
      cases b with
      | true =>
        rw [if_pos rfl]
        refine ht rfl H2 s2 _ fun y L3 H3 s3 ⟨L4, en, z, p4⟩ => ?_
        have s4 := en H3 s3
        exact ⟨acc, has_hd H3 s4, z, acc ++ [y], L4, (wr_hd H3 s4).2, p4⟩
      | false =>
        rw [if_neg Bool.false_ne_true]
        obtain ⟨L4, en, p4⟩ := hf rfl
        exact ⟨acc, L4, en H2 s2, p4⟩⟩)
    fun H ⟨acc, L, s, p⟩ => k _ _ _ s (hd acc L d p)⟩
theorem s_raiseT {C : Addr} {D : EA} {E : XK} {Ea : Value → AL → Prop} (he : ELe Ea E) (e : Ent L M) (q : Ea (.ref C) M) : SS (tRaiseC C E) D σ L := fun H s _ _ => he _ _ _ (e H s) q
theorem s_postC {t : TS} {D : EA} (h : SS t { D with nx := fun σ L1 => ∃ L2, Ent L1 L2 ∧ D.nx σ L2, rt := fun v L1 => ∃ L2, Ent L1 L2 ∧ D.rt v L2 } σ L) : SS t D σ L := fun H s E le =>
  h H s E ⟨fun σ L1 H1 s1 ⟨L2, e, q⟩ => le.nx σ L2 H1 (e H1 s1) q, fun v L1 H1 s1 ⟨L2, e, q⟩ => le.rt v L2 H1 (e H1 s1) q, le.bk, le.ct⟩
theorem tq_tl {A : Asn} {a : Addr} {xs : List V} (h : TqA K L a xs) : TqA K (A :: L) a xs := fun _ s => h _ s.tail
end
/-! Deeds written: numbers by figures, texts of deeds. -/
open TL
abbrev nS (n : Nat) : Str := Str.ofString (toString ((n : Nat) : Int))
theorem tl_nS (n : Nat) : tl (nS n) = numL n := tl_num n
def FG : Str := "0123456789"
theorem figs_at : ∀ d : Nat, d < 10 → atI ("0123456789" : Str).cps.toList (d : Int) = some (48 + d) := fun d hd => by
  have e : ∀ d : Fin 10, atI ("0123456789" : Str).cps.toList ((d.val : Nat) : Int) = some (48 + d.val) := by decide +kernel
  exact e ⟨d, hd⟩
theorem figs_mem (c : Nat) : c ∈ ("0123456789" : Str).cps.toList ↔ 48 ≤ c ∧ c ≤ 57 := by
  have e : ("0123456789" : Str).cps.toList = [48, 49, 50, 51, 52, 53, 54, 55, 56, 57] := by decide +kernel
  rw [e]
  simp only [List.mem_cons, List.not_mem_nil, or_false]
  omega
theorem ten60 : (10 : Int) ^ ((60 : Int)).toNat = ((10 ^ 60 : Nat) : Int) := by decide +kernel
theorem nS_len {n : Nat} (h : n < 10 ^ 60) : (nS n).length ≤ 60 := by
  rw [len_tl, tl_nS]
  exact numL_len (by decide) h
/-- a text that writes a number -/
structure IsNum (z : Str) : Prop where
  d : NumText.AllDigits (tl z)
  n : tl z ≠ []
  l : (tl z).length ≤ 60
  f : ¬ ((tl z)[0]? = some 48 ∧ 1 < (tl z).length)
theorem numL_head : ∀ {n : Nat}, 10 ≤ n → (numL n)[0]? ≠ some 48 := fun {n} h => by
  induction n using Nat.strongRecOn with
  | _ n ih =>
    rw [numL_step h]
    by_cases c : 10 ≤ n / 10
    · have hne := numL_ne (n / 10)
      have := ih (n / 10) (by omega) c
      rw [List.getElem?_append_left (by cases e : numL (n / 10) with
        | nil => exact absurd e hne
        | cons a b => simp)]
      exact this
    · rw [numL_lt (by omega)]
      show some (48 + n / 10) ≠ some 48
      intro z
      have := Option.some.inj z
      omega
theorem isNum_nS {n : Nat} (h : n < 10 ^ 60) : IsNum (nS n) := by
  refine ⟨by rw [tl_nS]; exact numL_digits n, by rw [tl_nS]; exact numL_ne n, by rw [← len_tl]; exact nS_len h, ?_⟩
  rw [tl_nS]
  rintro ⟨h1, h2⟩
  by_cases c : 10 ≤ n
  · exact numL_head c h1
  · rw [numL_lt (by omega)] at h2
    simp at h2
def valS (z : Str) : Nat := NumText.digitsVal (tl z)
theorem valS_nS (n : Nat) : valS (nS n) = n := by unfold valS; rw [tl_nS]; exact numL_val n
def dText (w : Str) (ns : List Nat) : Str := Txt.join " " (w :: ns.map nS)
theorem joinL_snoc {S : List Nat} : ∀ {ps : List (List Nat)} {p : List Nat}, ps ≠ [] → joinL S (ps ++ [p]) = joinL S ps ++ (S ++ p)
  | [], _, h => absurd rfl h
  | [a], p, _ => rfl
  | a :: b :: r, p, _ => by
    show a ++ (S ++ joinL S ((b :: r) ++ [p])) = (a ++ (S ++ joinL S (b :: r))) ++ (S ++ p)
    rw [joinL_snoc (ps := b :: r) (by simp)]
    simp only [List.append_assoc]
theorem dText_snoc (w : Str) (ns : List Nat) (n : Nat) : dText w (ns ++ [n]) = dText w ns ++ (" " : Str) ++ nS n := by
  refine ext_tl ?_
  unfold dText
  rw [join_eq, join_eq, tl_append, tl_append, tl_join, tl_join, List.map_append]
  show joinL (tl " ") (((w :: ns.map nS) ++ [nS n]).map tl) = _
  rw [List.map_append, List.map_singleton, joinL_snoc (by simp), List.append_assoc]
theorem dText_nil (w : Str) : dText w [] = w := by
  refine ext_tl ?_
  unfold dText
  rw [join_eq, tl_join]
  rfl
theorem len_app (x y : Str) : (x ++ y).length = x.length + y.length := by rw [len_tl, tl_append, List.length_append, ← len_tl, ← len_tl]
theorem dText_len (w : Str) : ∀ (k : Nat) {ns : List Nat}, ns.length = k → (∀ n ∈ ns, n < 10 ^ 60) → (dText w ns).length ≤ w.length + 61 * ns.length
  | 0, ns, e, _ => by
    rw [List.eq_nil_of_length_eq_zero e, dText_nil]; exact Nat.le_refl _
  | k + 1, ns, e, h => by
    obtain ⟨ns, n, rfl⟩ : ∃ ms n, ns = ms ++ [n] := by
      rcases List.eq_nil_or_concat ns with rfl | ⟨ms, n, rfl⟩
      · cases e
      · exact ⟨ms, n, by first | rfl | rw [List.concat_eq_append]⟩
    have ih := dText_len w k (ns := ns) (by rw [List.length_append] at e; simpa using e)
    rw [dText_snoc, len_app, len_app, List.length_append]
    have h1 := ih fun x hx => h x (List.mem_append_left _ hx)
    have h2 := nS_len (h n (List.mem_append_right _ List.mem_cons_self))
    have h3 : (" " : Str).length = 1 := by decide +kernel
    have h4 : [n].length = 1 := rfl
    omega
theorem dText_split {w : Str} {ns : List Nat} (hw : 32 ∉ tl w) : Txt.split (dText w ns) " " = w :: ns.map nS := by
  refine split_join (s := 32) (S := []) (by decide +kernel) (by decide +kernel) (by simp) fun p hp => ?_
  rcases List.mem_cons.mp hp with h | h
  · rw [h]; exact hw
  · obtain ⟨n, _, rfl⟩ := List.mem_map.mp h
    rw [tl_nS]
    exact numL_free (.inl (by decide))
def P_law_figures (K : PySem.W.Frag) (_ : Ex) : Pm := pm1 fun x L Q _ => ∃ n : Nat, x = nV n ∧ n < 10 ^ 60 ∧ Q (.str (nS n)) L
def N_law_figures : List Str := ["_law_number", "_law_found"]
def t_law_figures (K : PySem.W.Frag) (A : Ex) (E : XK) : TS :=
    (tSeq (tAsg (tOp rIxS (tC (.str "0123456789")) (tOp rModI (tVar 0) (tC (.int 10)))) (gName 1))
    (tSeq (tWhile (tTest (tOp rGtI (tVar 0) (tC (.int 9))))
      (tSeq (tAsg (tOp rDivI (tVar 0) (tC (.int 10))) (gName 0))
    (tAsg (tOp rAddStr (tOp rIxS (tC (.str "0123456789")) (tOp rModI (tVar 0) (tC (.int 10)))) (tVar 1)) (gName 1))))
    (tRet (tVar 1))))
def P_number_of (K : PySem.W.Frag) (A : Ex) : Pm := pm1 fun x L Q E => ∃ z : Str, x = .str z ∧ z.length ≤ 100000 ∧ (IsNum z → Q (nV (valS z)) L) ∧ (¬ IsNum z → E (.ref A.NoDeed) L)
def N_number_of : List Str := ["figures", "sign"]
def t_number_of (K : PySem.W.Frag) (A : Ex) (E : XK) : TS :=
    (tSeq (tFor (iStr (tVar 0)) (gName 1)
      (tIfS (tTest (tOp rNotInSg (tVar 1) (tC (.str "0123456789")))) (tRaiseC A.NoDeed E) tNext))
    (tSeq (tIfS (tOr (tTest (tOp rEq (tVar 0) (tC (.str "")))) (tOr (tTest (tOp rGtI (tCB rLenS (tCons (tVar 0) tNil)) (tC (.int 60)))) (tAnd (tTest (tOp rEq (tOp rIxS (tVar 0) (tC (.int 0))) (tC (.str "0")))) (tTest (tOp rGtI (tCB rLenS (tCons (tVar 0) tNil)) (tC (.int 1))))))) (tRaiseC A.NoDeed E) tNext)
    (tRet (tCB rIntS (tCons (tVar 0) tNil)))))
def P_told (K : PySem.W.Frag) (_ : Ex) : Pm := pm1 fun x L Q _ => ∃ (t : Addr) (w : Str) (ns : List Nat), x = .ref t ∧ TqA K L t (.str w :: ns.map nV) ∧ (∀ n ∈ ns, n < 10 ^ 60) ∧ ns.length ≤ 3 ∧ 1 ≤ ns.length ∧ w.length ≤ 100 ∧ Q (.str (dText w ns)) L
def N_told : List Str := ["deed", "number"]
def t_told (K : PySem.W.Frag) (A : Ex) (E : XK) : TS :=
    (tRet (tM1 (rJoin K) (tC (.str " ")) (tOp rCat (tLst (tCons (tOp (rIxT K) (tVar 0) (tC (.int 0))) tNil)) (tLc (iTup K (tSl (rSlT K) (tVar 0) (tPart (tC (.int 1))) tNoPart)) (gName 1) tYes (tCB rStrI (tCons (tVar 1) tNil)) [1]))))
section
variable {K : PySem.W.Frag} {A : Ex} {E : XK} {vs : List V} {L : AL} {Q : V → AL → Prop} {Ea : Value → AL → Prop}
theorem p_law_figures (he : ELe Ea E) (h : P_law_figures K A vs L Q Ea) : SS (t_law_figures K A E) { nx := fun _ L => Q .non L, rt := Q } (start N_law_figures vs) L := by
  obtain ⟨_, rfl, n, rfl, hn, q⟩ := h
  unfold t_law_figures
  have hlen := numL_len (by decide) hn
  tm_at "gn"
  rw [show (n : Int) % 10 = ((n % 10 : Nat) : Int) by omega]
  refine r_ixS (by decide +kernel) (figs_at (n % 10) (by omega)) ?_
  refine s_seq ?_
  refine s_while (fun k σ L' => ∃ (m : Nat) (z : Str), k = m ∧ m < 10 ^ 60 ∧ numL n = (if 10 ≤ m then numL (m / 10) else []) ++ tl z ∧ σ = [some (nV m), some (.str z)] ∧ L' = L) ⟨n, n, ⟨#[48 + n % 10]⟩, rfl, hn, ?_, rfl, rfl⟩ ?_
  · show numL n = _ ++ [48 + n % 10]
    by_cases c : 10 ≤ n
    · rw [if_pos c]; exact numL_step c
    · rw [if_neg c, numL_lt (by omega), Nat.mod_eq_of_lt (by omega)]; rfl
  · rintro k σ L' ⟨m, z, rfl, hm, hz, rfl, rfl⟩
    have hzl : z.length ≤ 60 := by
      rw [len_tl]
      have := congrArg List.length hz
      rw [List.length_append] at this
      omega
    tm_at "go"
    refine ex_c (fun c => ?_) fun c => ?_
    · have c' : 10 ≤ k := by omega
      rw [if_pos c'] at hz
      tm_at "go"
      rw [show (k : Int) / 10 = ((k / 10 : Nat) : Int) by omega]
      tm_at "go"
      rw [show ((k / 10 : Nat) : Int) % 10 = ((k / 10 % 10 : Nat) : Int) by omega]
      refine r_ixS (by decide +kernel) (figs_at (k / 10 % 10) (by omega)) ?_
      tm_at "go"
      refine r_addS (small6 (by show 1 + z.length ≤ 200000; omega)) ?_
      refine ⟨k / 10, by omega, k / 10, _, rfl, by omega, ?_, rfl, rfl⟩
      rw [tl_append, hz]
      show numL (k / 10) ++ tl z = _ ++ ([48 + k / 10 % 10] ++ tl z)
      rw [← List.append_assoc]
      congr 1
      by_cases c2 : 10 ≤ k / 10
      · rw [if_pos c2]; exact numL_step c2
      · rw [if_neg c2, numL_lt (by omega), Nat.mod_eq_of_lt (by omega)]; rfl
    · rw [if_neg (by omega), List.nil_append] at hz
      have e : z = nS n := ext_tl (by rw [tl_nS]; exact hz.symm)
      subst e
      tm_at "go"
      exact q
theorem p_number_of (he : ELe Ea E) (h : P_number_of K A vs L Q Ea) : SS (t_number_of K A E) { nx := fun _ L => Q .non L, rt := Q } (start N_number_of vs) L := by
  obtain ⟨_, rfl, z, rfl, hz, q1, q2⟩ := h
  unfold t_number_of
  have hzs : z.length ≤ sizeLine := small6 (by omega)
  refine s_seq ?_
  refine s_forS ?_
  tm_at "go"
  refine ⟨z, rfl, fun i σ L' => (∃ v1, σ = [some (.str z), v1]) ∧ L' = L ∧ ∀ c ∈ (tl z).take i, 48 ≤ c ∧ c ≤ 57, ⟨⟨_, rfl⟩, rfl, fun c hc => by cases hc⟩, ?_, ?_⟩
  · rintro i c σ L' hc ⟨⟨v1, rfl⟩, rfl, hd⟩
    have hc2 : (tl z)[i]? = some c := by rw [Array.getElem?_toList]; exact hc
    refine s_if (t_test ?_)
    tm_at "go"
    refine r_notInSg ?_
    refine ex_n (fun c1 => ?_) fun c1 => s_next ⟨⟨_, rfl⟩, rfl, fun d hd2 => ?_⟩
    · refine s_raiseT he (Ent.refl _) (q2 fun w => c1 ?_)
      exact (figs_mem c).mpr (w.d c (List.mem_of_getElem? hc2))
    · rw [take_snoc hc2] at hd2
      rcases List.mem_append.mp hd2 with h | h
      · exact hd d h
      · rw [List.mem_singleton.mp h]; exact (figs_mem c).mp c1
  · rintro σ L' ⟨⟨v1, rfl⟩, rfl, hd⟩
    have hd' : NumText.AllDigits (tl z) := fun c hc => hd c (by rw [show z.cps.size = (tl z).length by simp [tl], List.take_length]; exact hc)
    refine s_seq ?_
    refine s_if (t_or (t_test ?_))
    tm_at "go"
    refine ex_c (fun c => both_t ?_) fun c => ?_
    · refine s_raiseT he (Ent.refl _) (q2 fun w => w.n ?_)
      rw [V.str.inj c]
      decide +kernel
    · have hne : tl z ≠ [] := fun e => c (by rw [ext_tl (x := z) (y := "") (by rw [e]; decide +kernel)])
      refine t_or (t_test ?_)
      tm_at "go"
      refine c_lenS hzs ?_
      tm_at "go"
      refine ex_c (fun c2 => both_t ?_) fun c2 => ?_
      · refine s_raiseT he (Ent.refl _) (q2 fun w => ?_)
        have := w.l
        rw [← len_tl] at this
        omega
      · have h60 : (tl z).length ≤ 60 := by rw [← len_tl]; omega
        obtain ⟨a, ha⟩ : ∃ a, (tl z)[0]? = some a := by
          cases e : tl z with
          | nil => exact absurd e hne
          | cons a r => exact ⟨a, rfl⟩
        refine t_and (t_test ?_)
        tm_at "go"
        refine r_ixS (i := 0) hzs (atI_nat (j := 0) ha) ?_
        tm_at "go"
        have fin : ¬ ((tl z)[0]? = some 48 ∧ 1 < (tl z).length) → SS (tRet (tCB rIntS (tCons (tVar 0) tNil))) { nx := fun _ L => Q .non L, rt := Q } [some (.str z), v1] L' := fun hf => by
          tm_at "go"
          exact c_intS (intText_digits hd' hne (by rw [len_tl]; omega)) (by rw [len_tl]; omega) (q1 ⟨hd', hne, h60, hf⟩)
        refine ex_c (fun c3 => ?_) fun c3 => ?_
        · refine t_test ?_
          tm_at "go"
          refine c_lenS hzs ?_
          tm_at "go"
          have h48 : a = 48 := by
            have e := V.str.inj c3
            have e2 := congrArg tl e
            have e3 : tl (⟨#[a]⟩ : Str) = [a] := rfl
            have e4 : tl ("0" : Str) = [48] := by decide +kernel
            rw [e3, e4] at e2
            exact (List.cons.inj e2).1
          refine ex_c (fun c4 => ?_) fun c4 => s_next (fin fun w => ?_)
          · exact s_raiseT he (Ent.refl _) (q2 fun w => w.f ⟨by rw [ha, h48], by rw [← len_tl]; omega⟩)
          · have := w.2
            rw [← len_tl] at this
            omega
        · refine both_f (s_next (fin fun w => c3 ?_))
          rw [ha] at w
          rw [Option.some.inj w.1]
          decide +kernel
theorem p_told (he : ELe Ea E) (h : P_told K A vs L Q Ea) : SS (t_told K A E) { nx := fun _ L => Q .non L, rt := Q } (start N_told vs) L := by
  obtain ⟨_, rfl, t, w, ns, rfl, ht, hns, hl3, hl1, hw, q⟩ := h
  unfold t_told
  refine s_postR ?_
  refine e_m1 (e_c ⟨⟨_, rfl⟩, ?_⟩)
  refine e_op ?_
  tm_at "go"
  refine r_ixT ht (atI_nat (j := 0) rfl) ?_
  tm_at "go"
  refine ⟨by show 1 ≤ sizeLine; decide, fun d => ?_⟩
  refine e_lcT ?_
  tm_at "go"
  have hll : (V.str w :: ns.map nV).length = ns.length + 1 := by rw [List.length_cons, List.length_map]
  refine ⟨1, rfl, o_none ?_⟩
  refine r_slT (tq_tl ht) (fun z => ?_) fun c => ?_
  · have z1 := z.1
    rw [show (1 : Int) = ((1 : Nat) : Int) from rfl, HT.sIx_nat, hll] at z1
    omega
  have ecut : cutV (V.str w :: ns.map nV) (some 1) none = ns.map nV := cut_from (k := 1)
  rw [ecut]
  refine ⟨c, ns.map nV, rfl, Has.tq has_hd, fun _ => rfl, fun i acc L' => acc = (ns.take i).map (fun n => V.str (nS n)) ∧ L' = pt c (.tup (ns.map nV)) :: pt d (.lst [.str w]) :: L, ⟨rfl, rfl⟩, ?_, ?_, ?_⟩
  · rintro i acc L' hi ⟨rfl, rfl⟩
    exact Has.tq has_hd
  · rintro i x acc L' D hx ⟨rfl, rfl⟩
    obtain ⟨n, hn, rfl⟩ := map_get hx
    have hnl := hns n (List.mem_of_getElem? hn)
    refine t_yes ⟨fun _ => ?_, (fun z => nomatch z)⟩
    tm_at "go"
    refine c_strI ?_ ⟨_, Ent.refl _, small5 (by rw [List.length_map, List.length_take]; omega), ?_, rfl⟩
    · show n.log2 < 1920
      by_cases h0 : n = 0
      · subst h0; decide
      · rw [Nat.log2_lt h0]
        exact Nat.lt_trans hnl (by decide +kernel)
    · rw [take_snoc hn, List.map_append]; rfl
  · rintro acc L' D ⟨rfl, rfl⟩
    rw [List.length_map, List.take_length]
    have hml : ((ns.map fun n => V.str (nS n)) : List V).length = ns.length := List.length_map _
    refine r_cat (has_tl (has_tl has_hd)) has_hd (by rw [hml]; exact small6 (by show 1 + ns.length ≤ 200000; omega)) fun p => ?_
    have e2 : ([V.str w] ++ ns.map fun n => V.str (nS n)) = (w :: ns.map nS).map V.str := by rw [List.map_cons, List.map_map]; rfl
    rw [e2]
    refine r_join (Has.sq has_hd) ?_ ?_
    · have h1 : (" " : Str).length = 1 := by decide +kernel
      have h2 : ((w :: ns.map nS).map (·.length)).sum ≤ 100 + 60 * ns.length := by
        rw [List.map_cons, List.sum_cons, List.map_map]
        have : ∀ l : List Nat, (∀ n ∈ l, n < 10 ^ 60) → (l.map ((·.length) ∘ nS)).sum ≤ 60 * l.length := fun l => by
          induction l with
          | nil => intro _; exact Nat.le_refl _
          | cons a l ih =>
            intro h
            have h3 := ih fun x hx => h x (List.mem_cons_of_mem _ hx)
            have h4 := nS_len (h a List.mem_cons_self)
            rw [List.map_cons, List.sum_cons, List.length_cons]
            show (nS a).length + _ ≤ _
            omega
        have := this ns hns
        omega
      rw [h1, List.length_cons, List.length_map]
      omega
    · exact ⟨_, Ent.drop.trans (Ent.drop.trans (Ent.drop.trans Ent.drop)), q⟩
end
/-! Errors whose context is None; what an except suite does with lists. -/
open PySem L2 PyProof.Rows
section
open PySem.Spec HotX L2H
section
variable {prog : Program} {w : World} {A : Around} {E : Value → Shared → Prop} {s : Shared}
theorem next_list_end_hot {it l x1 : Addr} {i : Nat} {items : Array Value} {Q : Option Value → Shared → Prop} (hot : HotAt A x1 s.heap) (hne : x1 ≠ it)
    (hit : s.heap.IsListIter it l i) (hl : s.heap.IsList l items) (hx : items[i]? = none)
    (hQ : ∀ h', (∀ b o, b ≠ it → s.heap.get? b = some o → h'.get? b = some o) → Q none { s with heap := h' }) : wpAny (model prog w) A (pyNext (.ref it)) Q E s := by
  obtain ⟨o, ho, hc, hd⟩ := id hit
  obtain ⟨ol, hol, _, nl, hdl⟩ := hl
  obtain ⟨hh, o1, vs1, h1, d1, c1⟩ := hot
  unfold pyNext
  refine wpAny_bind (wpAny_attempt (wpAny_callSpecial?_slot (name := Str.ofString "__next__") hit.typeIs slot_listiter_next
    (wpAny_call_entry slot_listiter_next hit.typeIs entry_listiter_next ?_ (args_listiter_next _))))
  show wpAny _ _ (field (.ref it) 0 >>= _) _ _ s
  refine wpAny_bind (wpAny_field ho hd (x := .ref l) rfl ?_)
  show wpAny _ _ (if (Value.ref l == Value.none) = true then _ else _) _ _ s
  rw [if_neg (show ¬ ((Value.ref l == Value.none) = true) from Bool.false_ne_true)]
  show wpAny _ _ (field (.ref it) 1 >>= _) _ _ s
  refine wpAny_bind (wpAny_field ho hd (x := .int i 0) rfl ?_)
  show wpAny _ _ (seqItems? (.ref l) >>= _) _ _ s
  refine wpAny_bind (wpAny_seqItems hol hdl ?_)
  simp only [Int.toNat_natCast, hx]
  refine wpAny_bind (wpAny_rule (wpAny_bind (wpAny_setField ho hd (by simp) ?_)))
  show wpAny _ _ (newExc (.type "StopIteration") [] >>= _) _ _ _
  refine wpAny_bind ?_
  simp only [newExc, newTuple]
  refine wpAny_bind (wpAny_newObj_type ?_ (by size_fits))
  refine wpAny_bind (m := firstArgMember _ _) (wpAny_of_eq (a := Value.none) (by first | rfl | (simp only [firstArgMember]; rfl)) ?_)
  refine wpAny_newObj_type ?_ (by size_fits)
  have h1' := (Heap.get?_update_other s.heap (Obj.mapFields (·.setIfInBounds 0 Value.none)) (Ne.symm hne)).trans h1
  refine raiseNew_hot ⟨hh, o1, vs1, Heap.get?_push_of_some _ (Heap.get?_push_of_some _ h1'), d1, c1⟩ (Nat.ne_of_lt (Heap.lt_size (Heap.get?_push_of_some _ h1'))) (Heap.get?_push_size _ rfl) rfl (by first | (simp; done) | (simp; omega) | (simp only [Array.size_append]; simp; omega)) ?_
  refine wpAny_bind (wpAny_isInstance (T := "StopIteration") (b := true) ⟨_, Heap.get?_update_self _ (Heap.get?_push_size _ rfl) rfl, rfl⟩ isSubtype_stop ?_)
  refine wpAny_pure (hQ _ fun b o hb e => ?_)
  have e' := (Heap.get?_update_other s.heap (Obj.mapFields (·.setIfInBounds 0 Value.none)) (Ne.symm hb)).trans e
  rw [Heap.get?_update_other _ _ (Nat.ne_of_gt (Heap.lt_size (Heap.get?_push_of_some _ e')))]
  exact Heap.get?_push_of_some _ (Heap.get?_push_of_some _ e')
theorem walks_list_hot (I ax x1 : Addr) (hh : A.handled = some (.ref x1)) (hne : ax ≠ I) (hx : x1 ≠ I) (items : Array Value) :
    Walks prog w A I [I, ax, x1] [I] items.size (fun i v => items[i]? = some v)
      (fun i h => h.IsListIter I ax i ∧ h.IsList ax items ∧ ∃ (o : Obj) (vs : Array Value), h.get? x1 = some o ∧ o.data = .fields vs ∧ vs[2]? = some .none) where
  sub := fun b hb => by simp at hb; simp [hb]
  frame := fun _ _ _ st hk => ⟨st.1.at fun o e => hk I (by simp) o e, st.2.1.at fun o e => hk ax (by simp) o e, by
    obtain ⟨o, vs, e, d⟩ := st.2.2
    exact ⟨o, vs, hk x1 (by simp) o e, d⟩⟩
  item := fun i s Q E hi st hQ => by
    refine wpAny_pyNext_list_item st.1 st.2.1 (x := items[i]) (by simp [hi]) fun h' hit' hs' => ?_
    refine hQ _ h' s.toks (by simp [hi]) ⟨hit', st.2.1.extBut hs'.extBut hne, ?_⟩ fun b o hb e => hs'.extBut b o (fun h => hb (by simp [h])) e
    obtain ⟨o, vs, e, d⟩ := st.2.2
    exact ⟨o, vs, hs'.extBut x1 o hx e, d⟩
  done := fun s Q E st hQ => next_list_end_hot ⟨hh, st.2.2⟩ hx st.1 st.2.1 (by simp) fun h' he' => hQ h' s.toks fun b o hb e => he' b o (fun h => hb (by simp [h])) e
  self := fun _ _ _ _ st hQ => wpAny_pyIter_listiter st.1 hQ
end
/-- any(bools) where an exception is handled -/
theorem cr_anyH {X : Cx} (hc : HotC X) : CallR X (.builtin "any") (rAny X.K) := by
  intro pins s σ H vs us Q I r h
  obtain ⟨a, bs, rfl, hs, q⟩ := h
  obtain ⟨its, rv, hl, _⟩ := I.list hs
  rw [Vals.ref1 r]
  have hb := rv.bls
  obtain ⟨x1, hh, o1, vs1, h1, d1, c1⟩ := hc.at I
  refine call_any_walk (iter_any hl.isList fun s₂ e2 st hne => ?_)
  subst e2
  have hx : x1 ≠ s.heap.objs.size := Nat.ne_of_lt (Heap.lt_size h1)
  refine ⟨_, _, _, _, _, _, _, rfl, walks_list_hot (A := X.A.in1) _ a x1 hh hne hx its.toArray, ⟨st.1, st.2, o1, vs1, Heap.get?_push_of_some _ h1, d1, c1⟩, truth_bools hb, fun h' tk hk => ?_⟩
  refine ⟨.bl _, H, I.kept fun b o eo => hk b o (fun hmem => ?_) (Heap.get?_push_of_some _ eo), ?_, q⟩
  · rcases List.mem_cons.mp hmem with e1 | hmem
    · exact absurd (e1 ▸ Heap.lt_size eo) (Nat.lt_irrefl _)
    · cases hmem
  · show Value.bool _ = Value.bool _
    rw [← L2.any_range, hb, List.size_toArray, List.length_map]
/-! ### the context of such errors -/
theorem passN {X : Cx} : Passes (L2N.CX X.prog X.w) X E0 := fun _ _ _ _ _ _ _ h => by
  obtain ⟨_, _, _, _, _, _, _, _, _, _, _, _, z⟩ := h
  exact z.elim
theorem takesN0 {X : Cx} : L2N.Takes X (fun _ _ _ _ => False) := fun _ _ x => by
  obtain ⟨_, _, _, _, _, _, _, _, _, _, _, _, _, _, _, _, z⟩ := x
  exact z.elim
/-- it is one of the others, too -/
theorem traced_imp {h B : Heap} {a : Addr} {Z Z' : Obj → Prop} {fl : Value} (z : ∀ o, Z o → Z' o) (x : HandSPX.TracedZ h B a Z fl) : HandSPX.TracedZ h B a Z' fl := by
  obtain ⟨oe, vs, T, oT, ts, he, hz, r⟩ := x
  exact ⟨oe, vs, T, oT, ts, he, z _ hz, r⟩
theorem sky_zc {B : Heap} {st : List Env} {a L : Addr} {h : Heap} {cls : Value} {d : Option Addr} (x : Sky B st a (L2N.Zn cls d) L h) : Sky B st a (Zc cls d) L h := by
  rcases x with ⟨h1, h2, h3, oe, vs, he, hz, r⟩ | x | x
  · exact .inl ⟨h1, h2, h3, oe, vs, he, hz.zc, r⟩
  · exact .inr (.inl ⟨x.1, x.2.1, x.2.2.1, traced_imp (fun o z => z.zc) x.2.2.2⟩)
  · exact .inr (.inr ⟨x.1, x.2.1, x.2.2.1, traced_imp (fun o z => z.zc) x.2.2.2⟩)
theorem xe_zc {X : Cx} {W : WX} {u : Value} {s' : Shared} (x : L2N.XE X W u s') : L2.XE X W u s' := by
  obtain ⟨a, B, sI, pins, σ, H, cls, d, e, I, nb, up, sky, na, os, ag, w⟩ := x
  exact ⟨a, B, sI, pins, σ, H, cls, d, e, I, nb, up, sky_zc sky, na, os, ag, w⟩
/-- a callee's error, where any is taken -/
theorem passAtN {X : Cx} {W : WX} (tk : L2.Takes X W) (σ : L2.St) : PassesAt (L2N.CX X.prog X.w) X σ (WE W σ) := fun _ _ _ e s' I c => tk e s' (xe_zc (L2N.XE.of_call I (fun _ _ _ h => h) c))
section
variable {P : Program} {w : World} {K : PySem.W.Frag} {mg : Str → Option Value} {base : Heap}
/-- a def that may raise -/
theorem funN {x qual : Str} {st : Stmt} {f : Addr} {fd : FuncData} {N ps : List Str} {k : Nat} {sp : Sp} (F : Fun K x qual st f fd) (S : FnScope N ps (defScope st)) (len : ∀ vs H Q E, sp vs H Q E → vs.length = ps.length)
    (hbody : ∀ (cdv : Value) (A : Around) (outer : List Env) (s : Shared) (H : Hp) (vs : List V) (Q : VK) (E : XK), Room k (A.deeper (envOfC qual (defScope st) s.heap.objs.size f cdv)) → sp vs H Q E →
      ∃ t, PSs (cxOf (L2N.CX P w) P w K mg base N qual (defScope st) f cdv A outer s H E) (defBody st) t ∧ t { nx := fun _ H' => Q .non H', rt := Q } (start N vs) H) : FnOk P w K mg base (L2N.CX P w) (k + 1) f fd ps sp := by
  obtain ⟨oc, od, kV, doc, pm, an, cdv, ct, osl, rfl, lk, hcd⟩ := F.ex
  exact fn_of lk hcd S len fun A outer s H vs Q E hr hsp => hbody cdv A outer s H vs Q E hr hsp
end
/-! ### try: .. except C as e: suite -/
/-- the suite's reading, by the class of the error: one of Ds -/
def sAs (Ds : List Addr) (ts : Addr → Addr → TS) : Addr → Value → Option Addr → TS := fun a cls d => fun D σ H => ∃ C ∈ Ds, cls = .ref C ∧ d = none ∧ ts C a D σ H
def tTryA (K : PySem.W.Frag) (c : Value) (i : Nat) (Ds : List Addr) (ts : Addr → Addr → TS) (tb : WX → TS) : TS := fun D σ H => tb (wAs K c i (sAs Ds ts) (fun _ _ _ _ => False) D) D σ H
theorem pss_as {X : Cx} {body : List Stmt} {Ds : List Addr} {ts : Addr → Addr → TS} {a : Addr} {cls : Value} {d : Option Addr} (h : ∀ C ∈ Ds, cls = .ref C → d = none → PSs X body (ts C a)) : PSs X body (sAs Ds ts a cls d) :=
  ⟨fun pins s σ H D I ⟨C, m, e1, e2, q⟩ => (h C m e1 e2).run pins s σ H D I q⟩
theorem hot_of {X : Cx} {a : Addr} {oe : Obj} {pn : List (Addr × Obj)} {cls : Value} {d : Option Addr} (z : L2N.Zn cls d oe) (f : ∃ vs, oe.data = .fields vs) : HotC (X.suite a ((a, oe) :: pn)) := by
  obtain ⟨vs, e⟩ := f
  exact ⟨(a, oe), ⟨rfl, vs, e, z.2.2 vs e⟩, List.mem_cons_self⟩
/-- the name e holds the error -/
def eSet (D : EA) (i : Nat) : EA := { nx := fun σ L => D.nx (σ.set i none) L, rt := D.rt, bk := fun σ L => D.bk (σ.set i none) L, ct := fun σ L => D.ct (σ.set i none) L }
def wB (K : PySem.W.Frag) (c : Value) (i : Nat) (Ds : List Addr) (ts : Addr → Addr → TS) (D : EA) : WA := fun cls σ L => PySem.W.exmOne K cls c = some true ∧ ∃ C ∈ Ds, cls = .ref C ∧ ∀ a, SS (ts C a) (eSet D i) (σ.set i (some (.ref a))) L
theorem s_tryA {K : PySem.W.Frag} {σ : L2.St} {L : AL} {D : EA} {c : Value} {i : Nat} {Ds : List Addr} {ts : Addr → Addr → TS} {tb : WX → TS} (h : ∀ W, WLe (wB K c i Ds ts D) W → SS (tb W) D σ L) : SS (tTryA K c i Ds ts tb) D σ L := fun H s E le =>
  h (wAs K c i (sAs Ds ts) (fun _ _ _ _ => False) E) (fun cls σ L H s ⟨w, C, m, e, q⟩ => ⟨true, w, fun _ a _ => ⟨C, m, e, rfl, q a H s _ ⟨fun σ' L' H' s' q' => le.nx _ _ _ s' q', fun v L' H' s' q' => le.rt _ _ _ s' q', fun σ' L' H' s' q' => le.bk _ _ _ s' q', fun σ' L' H' s' q' => le.ct _ _ _ s' q'⟩⟩, fun z => nomatch z⟩) H s E le
section
variable {K : PySem.W.Frag} {L : AL} {Q : V → AL → Prop}
/-- isinstance(e, C) -/
theorem c_isE {D a c : Addr} {b : Bool} (h : PySem.W.kitOne K (.ref D) (.ref c) = some b) (q : Q (.bl b) L) : RE (rIsE K D a [.ref a, .ref c]) L Q := fun H s Qh k => ⟨.ref c, .ref c, b, rfl, fun _ r => r, h, k _ _ _ s q⟩
theorem c_isEV {D a : Addr} {n : String} {b : Bool} (h : PySem.W.kitOne K (.ref D) (.type n) = some b) (q : Q (.bl b) L) : RE (rIsE K D a [.ref a, .ty n]) L Q := fun H s Qh k => ⟨.ty n, .type n, b, rfl, fun _ r => r, h, k _ _ _ s q⟩
theorem c_any {p : Addr} {bs : List Bool} (h : SqA K L p (bs.map V.bl)) (q : Q (.bl (bs.any id)) L) : RE (rAny K [.ref p]) L Q := fun H s Qh k => ⟨p, bs, rfl, h H s, k _ _ _ s q⟩
end
theorem kit_self {K : PySem.W.Frag} {t : Value} : PySem.W.kitOne K t t = some true := by
  unfold PySem.W.kitOne
  rw [if_pos (by simp)]
theorem kit_own {K : PySem.W.Frag} {R C : Addr} {b : Bool} (ne : (R == C) = false) (h2 : PySem.W.isClsIn K C = true) (h3 : PySem.W.typeIn K (.ref C) = some (.type "type")) (h4 : PySem.W.subIn K (.ref R) (.ref C) = some b) : PySem.W.kitOne K (.ref R) (.ref C) = some b := by
  have e2 : ((PySem.W.clsIn K C).isSome && PySem.W.typeIn K (.ref C) == some (.type "type")) = true := by
    have h2' : (PySem.W.clsIn K C).isSome = true := h2
    rw [h2', h3] <;> rfl
  unfold PySem.W.kitOne
  rw [if_neg (by simpa using ne)]
  show (if ((PySem.W.clsIn K C).isSome && PySem.W.typeIn K (.ref C) == some (.type "type")) = true then PySem.W.subIn K (.ref R) (.ref C) else none) = some b
  rw [if_pos e2]
  exact h4
theorem kit_val {K : PySem.W.Frag} {R : Addr} (h4 : PySem.W.subIn K (.ref R) (.type "ValueError") = some true) : PySem.W.kitOne K (.ref R) (.type "ValueError") = some true := by
  unfold PySem.W.kitOne
  rw [if_neg (by simp)]
  show (if PySem.W.kitMeta "ValueError" = true then PySem.W.subIn K (.ref R) (.type "ValueError") else none) = some true
  rw [if_pos (by decide +kernel)]
  exact h4
end
/-! A list comprehension whose element may raise. -/
open PySem L2 PyProof.Rows
section
open PySem.Spec HandSPX
theorem noteFrame_frame {e : Value} {env env' : Env} (h : env.frame = env'.frame) : noteFrame e env = noteFrame e env' := by
  unfold noteFrame PySem.frameOf
  rw [h]
theorem ff_base {h B B2 : Heap} (hb : ∀ b, B.get? b = none → B2.get? b = none) : ∀ {l : List Env}, h.FunFrames B l → h.FunFrames B2 l
  | [], _ => trivial
  | _ :: _, ⟨hk, ⟨L', o, hf, hb', ho, hd⟩, hr⟩ => ⟨hk, ⟨L', o, hf, hb _ hb', ho, hd⟩, ff_base hb hr⟩
theorem ff_but {h h' B : Heap} {C : Addr} {m : Str → Option Value} (sb : Heap.SameBut C h h') (hn : h'.Ns C m) : ∀ {l : List Env}, h.FunFrames B l → h'.FunFrames B l
  | [], _ => trivial
  | _ :: _, ⟨hk, ⟨L', o, hf, hb, ho, hd⟩, hr⟩ => by
    refine ⟨hk, ?_, ff_but sb hn hr⟩
    by_cases q : L' = C
    · obtain ⟨o', es, ep, ho', hd', _⟩ := hn
      exact ⟨L', o', hf, hb, by rw [q]; exact ho', fun vs z => by rw [hd'] at z; cases z⟩
    · exact ⟨L', o, hf, hb, (sb.2 L' q).trans ho, hd⟩
/-- behind the block: its value, or its error -/
def compPostE (M : Model) (A : Around) (E : Value → Shared → Prop) (Q : Value → Shared → Prop) (acc : Value) (cenv : Env) (r : Result) (s' : Shared) : Prop :=
  match r with
  | .ok _ => ∃ m, s'.heap.Ns cenv.locals m ∧ ∀ h', Heap.SameBut cenv.locals s'.heap h' → Q acc { s' with heap := h' }
  | .error x => ∃ m, s'.heap.Ns cenv.locals m ∧ ∀ h' m', h'.Ns cenv.locals m' → Heap.SameBut cenv.locals s'.heap h' → wpAny M A (passOn "comprehension.variables-let-go" x cenv : Sem Value) (fun _ _ => False) E { s' with heap := h' }
theorem comp_freeE {M : Model} {A : Around} {E : Value → Shared → Prop} {s : Shared} {env : Env} {e : Expr} {scope : Scope} {pos : Pos} {newAcc first : Sem Value} {g : Comprehension} {gs : List Comprehension} {cl : List (Str × Addr)} {Q : Value → Shared → Prop}
    (hcl : clausesOf e = g :: gs) (hs : ∀ x, foldedSetIterable g.iter env x = pure x) (hclos : closureFor scope env = pure cl)
    (hkind : scope.kind = .function) (hnames : ∀ x ∈ scope.names, x.2 = .local → scope.names.lookup x.1 = some .local)
    (h : wpAny M A first (fun x s₁ => wpAny M A (pyIter x) (fun it s₂ => wpAny M A newAcc (fun acc s₃ =>
      wpAny M A (newFunctionEnv scope env.globals cl [] env.qual none .none (some env)) (fun cenv s₄ =>
        codeAny M A (.compStart e 0 it acc { cenv with scope := relabel scope env }) (compPostE M A E Q acc { cenv with scope := relabel scope env }) s₄) E s₃) E s₂) E s₁) E s) :
    wpAny M A (comprehension e scope env pos newAcc false first none) Q E s := by
  unfold comprehension
  rw [hclos, hcl]
  refine wpAny_bind (wpAny_mono h (fun x s₁ h₁ => wpAny_bind (wpAny_standAt (wpAny_bind (wpAny_of_eq (hs x) (wpAny_bind (wpAny_holding (wpAny_mono h₁ (fun it s₂ h₂ =>
    wpAny_standIf (wpAny_bind (wpAny_mono h₂ (fun acc s₃ h₃ => wpAny_bind (wpAny_pure (wpAny_bind (wpAny_mono h₃ (fun cenv s₄ h₄ => ?_) fun _ _ h' => h')))) fun _ _ h' => h')))
      fun _ _ h' => h'))))))) fun _ _ h' => h')
  dsimp only
  have hv : ∀ x ∈ (scope.names.filter fun x => (x.2 == .local || x.2 == .cell) && x.1 != (".0" : Str)).reverse, x.2 = .local →
      Env.kindOf { cenv with scope := relabel scope env } x.1 = some .local := fun x hx hl => lookup_relabel_local (hnames x (List.mem_filter.mp (List.mem_reverse.mp hx)).1 hl)
  refine wpAny_holding (wpAny_bind (wpAny_attempt (wpAny_holding (wpAny_run (codeAny_mono h₄ fun r s' hr => ?_)))))
  cases r with
  | ok f =>
    obtain ⟨m, hn, hr⟩ := hr
    exact wpAny_bind (wpAny_holding (wpAny_comp_letGo (cenv := { cenv with scope := relabel scope env }) hkind _ s' m hv hn fun h' m' _ hs' => wpAny_pure (hr h' hs')))
  | error x =>
    obtain ⟨m, hn, hr⟩ := hr
    exact wpAny_bind (wpAny_holding (wpAny_comp_letGo (cenv := { cenv with scope := relabel scope env }) hkind _ s' m hv hn fun h' m' hn' hs' => wpAny_mono (hr h' m' hn' hs') (fun _ _ f => f.elim) fun _ _ y => y))
/-- an error of a call made in the block -/
def xeB (E : XK) (Y : Cx) : Value → Shared → Prop := fun u s' => L2N.XE Y (fun cls d _ H => E cls d H) u s' ∧ ∃ (a : Addr) (B : Heap), u = .ref a ∧ FlyingZ B Y.stack a (fun _ => True) s'.heap
theorem passB {Y : Cx} {E : XK} : Passes (L2N.CX Y.prog Y.w) (Y.wish (xeB E Y)) E := fun pins σ H s e s' I c => by
  refine ⟨?_, ?_⟩
  · obtain ⟨a, B, sI, pins', σ', H', cls, d, e1, I', r⟩ := L2N.XE.of_call (X := Y) (W := fun cls d _ H => E cls d H) I.unwish (fun _ _ _ h => h) c
    exact ⟨a, B, sI, pins', σ', H', cls, d, e1, I', r⟩
  · obtain ⟨a, B, H', cls, d, rfl, fl, _⟩ := c
    exact ⟨a, B, rfl, fl.1, fl.2.1, fl.2.2.1, traced_imp (fun _ _ => True.intro) fl.2.2.2⟩
section
variable {X : Cx} {pins : List (Addr × Obj)} {σ : L2.St} {H : Hp} {s s3 : Shared}
/-- an error leaves the block -/
theorem block_err {E : XK} {Q : Value → Shared → Prop} {acc : Value} {scope : Scope} {ce : Env} {fp : List Addr} {H3 : Hp} {u : Value} {s' : Shared} {A0 : Value → Shared → Prop} (hs : X.stack = X.env :: X.outer) (hf : X.env.frame = some X.env.locals) (tk : L2N.Takes X (fun cls d _ H => E cls d H))
    (I3 : Inv X pins σ H3 s3) (f3 : ∀ b ∈ fp, FpOk X pins H3 b) (hce : ce.frame = X.env.frame) (hcl : s3.heap.objs.size ≤ ce.locals) (x : xeB E (X.blk s3 H3 scope ce fp) u s') :
    wpAny (model X.prog X.w) X.A (noteFrame u ce) (fun _ s'' => compPostE (model X.prog X.w) X.A X.xe Q acc ce (.error u) s'') A0 s' := by
  obtain ⟨⟨a, B, sI, pins', σ', H', cls, d, rfl, J, nb, up, sky, na, os, ag, w⟩, a2, B2, e2, fl2⟩ := x
  obtain rfl : a = a2 := Value.ref.inj e2
  have hfr : X.A.frames = some (X.env :: X.outer) := by rw [I3.ok.frames, hs]
  have fl : FlyingZ B X.stack a (L2N.Zn cls d) s'.heap := by
    obtain ⟨_, _, _, oe, vs, T, oT, ts, he, _, hd, h1, _, _, hT, hdT, h3⟩ := fl2
    rcases sky with ⟨_, _, _, oe', vs', he', _, hd', h1'⟩ | fl | ⟨_, _, _, oe', vs', T', oT', ts', he', _, hd', h1', _, _, hT', hdT', h3'⟩
    · rw [he] at he'; cases he'
      rw [hd] at hd'; cases hd'
      rw [h1] at h1'; cases h1'
    · exact fl
    · rw [he] at he'; cases he'
      rw [hd] at hd'; cases hd'
      rw [h1] at h1'; cases h1'
      rw [hT] at hT'; cases hT'
      rw [hdT] at hdT'; cases hdT'
      rw [h3] at h3'; cases h3'
  rw [hs] at fl
  rw [noteFrame_frame hce]
  refine PXN.looks_onZ L2N.Zn.steady hfr hf fl fun h1 hh up1 => ?_
  have upA : sI.heap.UpToSlots h1 := up.trans up1
  have JL : Inv (X.blk s3 H3 scope ce fp) pins' σ' H' { s' with heap := h1 } := J.landed nb hh.1 upA os ag
  obtain ⟨m, hn, _⟩ := JL.loc
  have hn : h1.Ns ce.locals m := hn
  refine ⟨m, hn, fun h' m' hn' sb => ?_⟩
  -- the block's own names' object is none of the error's
  obtain ⟨oC, esC, epC, hoC, hdC, _⟩ := id hn
  obtain ⟨g1, g2, g3, oe, vs, T, oT, ts, he, hz, hd, h1e, hnT, hTe, hT, hdT, h3⟩ := hh
  have naC : a ≠ ce.locals := fun z => by rw [z, hoC] at he; cases he; rw [hdC] at hd; cases hd
  have nTC : T ≠ ce.locals := fun z => by rw [z, hoC] at hT; cases hT; rw [hdC] at hdT; cases hdT
  have nC : H' ce.locals = none := J.free
  -- the ground without it
  have gB : ∀ b o, (PySem.W.hideAll B [ce.locals]).get? b = some o → B.get? b = some o ∧ b ≠ ce.locals := fun b o e => ⟨PySem.W.of_hideAll _ e, fun z => by rw [z, PySem.W.hideAll_none _ List.mem_cons_self] at e; cases e⟩
  have hB' : ∀ b, B.get? b = none → (PySem.W.hideAll B [ce.locals]).get? b = none := fun b e => by
    cases q : (PySem.W.hideAll B [ce.locals]).get? b with
    | none => rfl
    | some o => rw [(gB b o q).1] at e; cases e
  have st' : (PySem.W.hideAll B [ce.locals]).StaysIn h' := fun b o e => (sb.2 b (gB b o e).2).trans (g1 b o (gB b o e).1)
  have ff' : h'.FunFrames (PySem.W.hideAll B [ce.locals]) (X.env :: X.outer) := ff_base hB' (ff_but sb hn' g3)
  have tr' : TracedZ h' (PySem.W.hideAll B [ce.locals]) a (L2N.Zn cls d) (rawInt X.env.locals) := ⟨oe, vs, T, oT, ts, (sb.2 a naC).trans he, hz, hd, h1e, hB' T hnT, hTe, (sb.2 T nTC).trans hT, hdT, h3⟩
  show wpAny _ _ (passOn "comprehension.variables-let-go" (.ref a) ce) _ _ _
  unfold PySem.passOn
  refine wpAny_bind (wpAny_field ((sb.2 a naC).trans he) hd h1e ?_)
  rw [if_neg (show ¬ ((Value.ref T == Value.none) = true) from by simp)]
  have fin : wpAny (model X.prog X.w) X.A (setFlight (.ref a) ce.frame) (fun _ s4 => wpAny (model X.prog X.w) X.A (throw (.ref a) : Sem Value) (fun _ _ => False) X.xe s4) X.xe { s' with heap := h' } := by
    rw [hce, hf]
    refine setFlight_anyZ (fr := some X.env.locals) st' ff' tr' fun h2 k1 k2 k3 k4 => wpAny_throw (tk _ _ ?_)
    -- the state ahead, the block's own names' object hidden
    have gI : ∀ b o, (PySem.W.hideAll sI.heap [ce.locals]).get? b = some o → sI.heap.get? b = some o ∧ b ≠ ce.locals := fun b o e => ⟨PySem.W.of_hideAll _ e, fun z => by rw [z, PySem.W.hideAll_none _ List.mem_cons_self] at e; cases e⟩
    have kI : ∀ b o, b ≠ ce.locals → sI.heap.get? b = some o → (PySem.W.hideAll sI.heap [ce.locals]).get? b = some o := fun b o nb e => PySem.W.hideAll_get _ e fun z => nb (List.mem_singleton.mp z)
    have n3 : ∀ b o, s3.heap.get? b = some o → b ≠ ce.locals := fun b o e => Nat.ne_of_lt (Nat.lt_of_lt_of_le (Heap.lt_size e) hcl)
    have u := J.base
    have J2 : Inv X pins σ H' { sI with heap := PySem.W.hideAll sI.heap [ce.locals] } := by
      refine I3.call' (ch := fp) J.os ⟨fun b o e n hb hx => kI b o (n3 b o e) (u.keep b o e n hb hx), fun b o e n hb hx => ?_, u.free, fun b o e hx => ?_, u.tups, u.frzs, u.tbls⟩ (fun b o q => (J.hok b o q).stay (fun c w hc r => kI c w (fun z => ?_) r) (fun _ r => r) fun _ _ r => r) J.bare fun b hb => ⟨(f3 b hb).2.2.2.1, (f3 b hb).2.1, (f3 b hb).2.2.2.2.1, (f3 b hb).2.2.2.2.2⟩
      · obtain ⟨sl, q⟩ := u.slot b o e n hb hx
        exact ⟨sl, kI b _ (n3 b o e) q⟩
      · obtain ⟨o', q⟩ := u.there b o e hx
        exact ⟨o', kI b _ (n3 b o e) q⟩
      · rcases hc with hc | hc
        · rw [hc] at z; rw [z, nC] at q; cases q
        · rw [z, nC] at hc; cases hc
    refine ⟨a, PySem.W.hideAll B [ce.locals], _, pins, σ, H', cls, d, rfl, J2, fun b o e hb => ?_, fun b o e nf => ?_, .inr (.inr ⟨k1, hB' a g2, by rw [hs]; exact k2, by exact k3⟩), na, os, ag, w⟩
    · exact PySem.W.hideAll_get _ (nb b o (gI b o e).1 hb) fun z => (gI b o e).2 (List.mem_singleton.mp z)
    · obtain ⟨sl, q⟩ := upA b o (gI b o e).1 nf
      obtain ⟨sl2, q2⟩ := k4 b _ ((sb.2 b (gI b o e).2).trans q) nf
      exact ⟨sl2, q2⟩
  first
    | exact wpAny_bind (wpAny_pure (wpAny_bind fin))
    | exact wpAny_bind fin
/-- [elt for tg in iter if ..], elt in a context that takes E -/
theorem pe_lcE {E : XK} {elt tg iter : Expr} {ifs : List Expr} {scope : Scope} {own : List (Str × Nat)} {pos : Pos} {wi : TI} {g : TG} {tt : TT} {te : TE} (hst : X.stack = X.env :: X.outer) (hfe : X.env.frame = some X.env.locals) (tk : L2N.Takes X (fun cls d _ H => E cls d H))
    (hc : X.calm = true) (hN : X.N.Nodup) (hi : PI X tg iter wi) (ok : BlkOk X.N X.env.scope scope own)
    (hg : ∀ (s : Shared) (H : Hp) (C : Addr) (cl : List (Str × Addr)) (fp : List Addr), PG (X.blk s H scope (compEnvC scope cl C X.env) fp) tg g) (ht : ∀ (s : Shared) (H : Hp) (C : Addr) (cl : List (Str × Addr)) (fp : List Addr), PTs (X.blk s H scope (compEnvC scope cl C X.env) fp) ifs tt)
    (he : ∀ (s : Shared) (H : Hp) (C : Addr) (cl : List (Str × Addr)) (fp : List Addr), PE ((X.blk s H scope (compEnvC scope cl C X.env) fp).wish (xeB E (X.blk s H scope (compEnvC scope cl C X.env) fp))) elt te) (hs : ∀ x, foldedSetIterable iter X.env x = pure x := by intro _; rfl) :
    PE X (.ListComp elt [⟨tg, iter, ifs, 0⟩] scope pos) (tLc wi g tt te (own.map (·.2))) := by
  refine ⟨fun pins s σ H Q I h => ?_⟩
  rw [eval_ListComp]
  have hfree : ∀ y ∈ scope.names, y.2 = .free → ∃ c, X.env.cells.lookup y.1 = some c := fun y hy e => by
    rcases ok.free y hy e with k | k
    · exact I.ok.has _ (.inl k)
    · exact I.ok.has _ (.inr k)
  refine comp_freeE rfl hs (closure_ok hfree) ok.kind (fun y hy e => by rw [ok.uniq y hy, e])
    (thn (hi.run pins s σ H _ I h) fun xv s1 hx => thn hx fun itv s2 h2 => ?_)
  obtain ⟨it, fp, tn, J, H2, e, I2, T, st2, f2, q⟩ := h2
  subst e
  refine wpAny_newObj_type (newEnv_comp ?_) (by show 0 ≤ sizeLine; decide)
  generalize hD : s2.heap.objs.size = D
  have hDn : H2 D = none := I2.hok.fresh (Nat.le_of_eq hD)
  obtain ⟨W, ⟨m0, w0⟩, turn⟩ := q D hDn
  generalize hs3 : ({ s2 with heap := s2.heap.push { cls := .type "list", data := .seq ([] : List Value).toArray } } : Shared) = s3
  have I3 : Inv X pins σ (upd H2 D (.lst [])) s3 := by
    rw [← hs3]
    refine I2.laid (t' := s2.toks) (fun b o e => Heap.get?_push_of_some _ e) (Nat.le_of_eq hD) ⟨Nat.zero_le _, [], 0, .nil, ?_⟩
    rw [← hD]
    exact Heap.get?_push_size _ rfl
  have h3 : s3.heap = s2.heap.push { cls := .type "list", data := .seq ([] : List Value).toArray } := by rw [← hs3]
  have sz : ∀ b ∈ fp, b < s2.heap.objs.size := fun b hb => by
    obtain ⟨o, e, _⟩ := T.obj _ _ st2 b hb
    exact Heap.lt_size e
  have f3 : ∀ b ∈ fp, FpOk X pins (upd H2 D (.lst [])) b ∧ b < s3.heap.objs.size := fun b hb => by
    have hlt := sz b hb
    refine ⟨⟨?_, (f2 b hb).2⟩, by rw [h3, Heap.size_push]; exact Nat.lt_succ_of_lt hlt⟩
    rw [upd_ne (by rw [← hD]; exact Nat.ne_of_lt hlt)]
    exact (f2 b hb).1
  have st3 : tn 0 s3.heap := T.keep _ _ _ st2 fun b _ o e => by rw [h3]; exact Heap.get?_push_of_some _ e
  have I4 := block_start I3 ok hN f3
  have pg := hg s3 (upd H2 D (.lst [])) s3.heap.objs.size (cellsFrom (s3.heap.objs.size + 1) scope.names (cloFrom X.env.cells scope.names [])) fp
  have pt := ht s3 (upd H2 D (.lst [])) s3.heap.objs.size (cellsFrom (s3.heap.objs.size + 1) scope.names (cloFrom X.env.cells scope.names [])) fp
  have pe := he s3 (upd H2 D (.lst [])) s3.heap.objs.size (cellsFrom (s3.heap.objs.size + 1) scope.names (cloFrom X.env.cells scope.names [])) fp
  have f3' : ∀ b ∈ fp, FpOk X pins (upd H2 D (.lst [])) b := fun b hb => (f3 b hb).1
  show codeAny _ _ (.compStart (.ListComp elt [⟨tg, iter, ifs, 0⟩] scope pos) 0 (.ref it) (.ref D) (compEnvC scope (cellsFrom (s3.heap.objs.size + 1) scope.names (cloFrom X.env.cells scope.names [])) s3.heap.objs.size X.env))
    (compPostE (model X.prog X.w) X.A X.xe (EP X pins σ Q) (.ref D) (compEnvC scope (cellsFrom (s3.heap.objs.size + 1) scope.names (cloFrom X.env.cells scope.names [])) s3.heap.objs.size X.env)) { s3 with heap := pushCells (s3.heap.push { cls := .type "dict", data := .dict #[] }) scope.names }
  have nfp : ∀ b ∈ fp, (upd H2 D (.lst [])) b = none := fun b hb => (f3 b hb).1.1
  generalize hce : compEnvC scope (cellsFrom (s3.heap.objs.size + 1) scope.names (cloFrom X.env.cells scope.names [])) s3.heap.objs.size X.env = ce at I4 pg pt pe ⊢
  have cL : ce.locals = s3.heap.objs.size := by subst hce; rfl
  have cF : ce.frame = X.env.frame := by subst hce; rfl
  generalize hH3 : upd H2 D (.lst []) = H3 at I3 I4 pg pt pe w0 nfp f3 f3'
  generalize hs4 : ({ s3 with heap := pushCells (s3.heap.push { cls := .type "dict", data := .dict #[] }) scope.names } : Shared) = s4 at I4 ⊢
  have st4 : tn 0 s4.heap := T.keep _ _ _ st3 fun b _ o e => by rw [← hs4]; exact pushCells_keeps _ _ _ _ (Heap.get?_push_of_some _ e)
  have stat : ∀ {σ' : L2.St} {H' : Hp} {s' : Shared}, Inv (X.blk s3 H3 scope ce fp) [] σ' H' s' → (∀ b ∈ fp, H' b = none) → ∀ b ∈ fp, FpOk (X.blk s3 H3 scope ce fp) [] H' b := fun {σ' H' s'} I' hn b hb =>
    ⟨hn b hb, (I'.ok.exf b hb).1, I'.ok.exfs b hb, .inl hb, fun x c e => (I'.ok.exf b hb).2 x c e, fun p hp => absurd (show p ∈ ([] : List (Addr × Obj)) ++ [] from hp) (by simp)⟩
  have loop : codeAny (model X.prog X.w) X.A (.compLoop (.ListComp elt [⟨tg, iter, ifs, 0⟩] scope pos) 0 (.ref it) (.ref D) ce) (compPostE (model X.prog X.w) X.A X.xe (EP X pins σ Q) (.ref D) ce) s4 := by
    refine compLoop_any (fun n s' => ∃ i H', Inv (X.blk s3 H3 scope ce fp) [] (wipe σ (own.map (·.2))) H' s' ∧ tn i s'.heap ∧ (∀ b ∈ fp, H' b = none) ∧ W i n H') ?_ m0 ⟨0, H3, I4, st4, nfp, w0⟩
    rintro n s5 ⟨i, H5, I5, st5, n5, w5⟩
    rcases turn i n H5 w5 with ⟨stop, qq⟩ | ⟨go, Nx, hNx, step⟩
    · have td := T.done (X.blk s3 H3 scope ce fp) rfl rfl rfl hc i [] s5 _ H5 (fun _ _ => False) I5 (stat I5 n5) st5 stop
      refine thnF td fun r s6 ⟨hr, I6⟩ => ?_
      subst hr
      have I7 : Inv X pins σ H5 s6 := I3.call' (ch := fp) I6.os I6.base I6.hok I6.bare fun b hb => ⟨(f3 b hb).1.2.2.2.1, (f3 b hb).1.2.1, (f3 b hb).1.2.2.2.2.1, (f3 b hb).1.2.2.2.2.2⟩
      have nC : H5 s3.heap.objs.size = none := by
        have z : H5 ce.locals = none := I6.free
        rw [cL] at z
        exact z
      obtain ⟨m, hn, _⟩ := I6.loc
      have hn : s6.heap.Ns ce.locals m := hn
      refine ⟨m, hn, fun h'' sb => ?_⟩
      obtain ⟨f0, f1, f2, f3, f4, f5⟩ := (show FpOk X pins H5 s3.heap.objs.size from I3.fpOk (Nat.le_refl _) nC)
      exact ⟨.ref D, H5, I7.turned (it := s3.heap.objs.size) (t' := s6.toks) (fun b o hb e => (sb.2 b (by rw [cL]; exact hb)).trans e) f0 f1 f3 f4 f5, rfl, qq⟩
    · have ti := T.item (X.blk s3 H3 scope ce fp) rfl rfl rfl hc i [] s5 _ H5 (fun _ _ => False) I5 (stat I5 n5) st5 go
      refine thnF ti fun r s6 ⟨u, hr, h6⟩ => ?_
      subst hr
      refine thnF h6 fun _ s7 ⟨x, H7, I7, r7, y7, st7, n7⟩ => ?_
      have I7' := I7.pinned (stat I7 n7) (T.obj _ _ st7)
      refine thnF (pg.run _ s7 _ H7 x u _ I7' r7 (step x H7 y7)) fun _ s8 ⟨σ8, H8, I8, hw8, q8⟩ => ?_
      refine thnF (pt.run _ s8 σ8 H8 _ I8 q8) fun b s9 ⟨H9, I9, q9⟩ => ?_
      have fin : ∀ {s' : Shared} {H' : Hp}, Inv (X.blk s3 H3 scope ce fp) ([] ++ pinsAt fp s7.heap) σ8 H' s' → Nx H' → ∃ m, m < n ∧ ∃ i H', Inv (X.blk s3 H3 scope ce fp) [] (wipe σ (own.map (·.2))) H' s' ∧ tn i s'.heap ∧ (∀ b ∈ fp, H' b = none) ∧ W i m H' := fun {s' H'} I' nx => by
        obtain ⟨m', hm, w'⟩ := hNx H' nx
        have pin' : ∀ b ∈ fp, ∀ o, s7.heap.get? b = some o → s'.heap.get? b = some o ∧ H' b = none := fun b hb o e =>
          let z := I'.pin (b, o) (List.mem_append_right _ (List.mem_append_right _ (mem_pinsAt hb e)))
          ⟨z.1, z.2.1⟩
        have hl : (wipe σ (own.map (·.2))).length = σ8.length := by rw [← hw8, wipe_length]
        refine ⟨m', hm, i + 1, H', (I'.unpinned (pins := [])).weak hl (fun j v e => ?_), T.keep _ _ _ st7 fun b hb o e => (pin' b hb o e).1, fun b hb => ?_, w'⟩
        · rw [← hw8] at e
          exact (wipe_some e).1
        · obtain ⟨o, e, _⟩ := T.obj _ _ st7 b hb
          exact (pin' b hb o e).2
      cases b with
      | false =>
        simp only [Bool.false_eq_true, if_false] at q9 ⊢
        exact fin I9 q9
      | true =>
        simp only [if_true] at q9 ⊢
        refine wpAny_mono (pe.run _ s9 σ8 H9 _ (I9.wish _) q9) (fun z s10 ⟨yv, H10, I10, r10, acc, hD10, hz10, nx⟩ => ?_) fun u s10 x => ?_
        · exact app_ok (X := X.blk s3 H3 scope ce fp) I10.unwish hD10 hz10 r10 fun s11 I11 => fin I11 nx
        · exact block_err hst hfe tk I3 f3' cF (Nat.le_of_eq cL.symm) x
  exact codeAny_compStart_list loop (T.self X.A 0 _ _ _ st4 loop)
end
end
/-! list(dict) where an exception is handled. -/
open PySem L2 PyProof.Rows
section
open PySem.Spec PySem.Calls HotX L2H PySem.W
/-- the exception that is handled stands there, its context None -/
def HotH (x1 : Addr) (h : Heap) : Prop := ∃ (o : Obj) (vs : Array Value), h.get? x1 = some o ∧ o.data = .fields vs ∧ vs[2]? = some .none
theorem HotH.keep {x1 : Addr} {h h' : Heap} (x : HotH x1 h) (k : ∀ o, h.get? x1 = some o → h'.get? x1 = some o) : HotH x1 h' := by
  obtain ⟨o, vs, e, r⟩ := x
  exact ⟨o, vs, k o e, r⟩
section
variable {prog : Program} {w : World} {Ky : Type} [DecidableEq Ky] {knd : KeyKind prog w Ky} {A : Around} {E : Value → Shared → Prop} {s : Shared}
theorem next_keys_end_hot {it d x1 : Addr} {i ep : Nat} {kvs : List (Ky × Value)} {Q : Option Value → Shared → Prop} (hh : A.handled = some (.ref x1)) (hot : HotH x1 s.heap) (hne : x1 ≠ it) (hit : s.heap.IsKeyIter it d i kvs.length ep)
    (hm : s.heap.DictAt knd d kvs ep) (hx : kvs[i]? = none)
    (hQ : ∀ h', (∀ b o, b ≠ it → s.heap.get? b = some o → h'.get? b = some o) → Q none { s with heap := h' }) : wpAny (model prog w) A (pyNext (.ref it)) Q E s := by
  obtain ⟨o, ho, hc, hd⟩ := id hit
  obtain ⟨od, es, hod, hcd, hdd, hk, hp, hn⟩ := id hm
  obtain ⟨o1, vs1, h1, d1, c1⟩ := hot
  unfold pyNext
  refine wpAny_bind (wpAny_attempt (wpAny_callSpecial?_slot (name := Str.ofString "__next__") hit.typeIs PySem.F.slot_dict_keyiterator_next
    (wpAny_call_entry PySem.F.slot_dict_keyiterator_next hit.typeIs PySem.F.entry_dict_keyiterator_next ?_ (PySem.F.args_dict_keyiterator_next_1 _))))
  refine wpAny_bind (wpAny_pure ?_)
  refine wpAny_bind ?_
  refine wpAny_bind ?_
  first | refine wpAny_bind (wpAny_typeNameOfWhole_keyiter hit.typeIs (wpAny_pure ?_)) | refine wpAny_bind (wpAny_typeNameOf_keyiter hit.typeIs (wpAny_pure ?_))
  refine wpAny_bind (wpAny_fieldsOf ho hd ?_)
  have hown : Builtin.Dict_items.ownsTuple "dict_keyiterator" = false := by decide
  simp only [hown, Bool.false_eq_true, if_false]
  show wpAny _ _ (if (Value.ref d == Value.none) = true then _ else _) _ _ s
  rw [if_neg (show ¬ ((Value.ref d == Value.none) = true) from Bool.false_ne_true)]
  refine wpAny_bind (wpAny_pure ?_)
  refine wpAny_bind (wpAny_dictEntries hod hdd ?_)
  have hsz : es.size = kvs.length := by rw [← hp.length]; simp
  rw [if_neg (by rw [hsz]; simp)]
  refine wpAny_bind (wpAny_pure ?_)
  refine wpAny_bind (wpAny_dictEpoch hod hdd ?_)
  rw [if_neg (by simp)]
  refine wpAny_pure ?_
  have hge : es.size ≤ i := by rw [hsz]; simpa using hx
  simp only [show ¬ ((i : Int) < 0) from by omega, if_false, Int.toNat_natCast, Array.getElem?_eq_none hge]
  refine wpAny_bind ?_
  first | refine wpAny_bind (wpAny_typeNameOfWhole_keyiter hit.typeIs (wpAny_pure ?_)) | refine wpAny_bind (wpAny_typeNameOf_keyiter hit.typeIs (wpAny_pure ?_))
  show wpAny _ _ (setField (.ref it) 0 .none >>= _) _ _ s
  refine wpAny_bind (wpAny_setField ho hd (by simp) ?_)
  show wpAny _ _ (newExc (.type "StopIteration") [] >>= _) _ _ _
  refine wpAny_bind ?_
  simp only [newExc, newTuple]
  refine wpAny_bind (wpAny_newObj_type ?_ (by size_fits))
  refine wpAny_bind (m := firstArgMember _ _) (wpAny_of_eq (a := Value.none) (by first | rfl | (simp only [firstArgMember]; rfl)) ?_)
  refine wpAny_newObj_type ?_ (by size_fits)
  have h1' := (Heap.get?_update_other s.heap (Obj.mapFields (·.setIfInBounds 0 Value.none)) (Ne.symm hne)).trans h1
  refine raiseNew_hot ⟨hh, o1, vs1, Heap.get?_push_of_some _ (Heap.get?_push_of_some _ h1'), d1, c1⟩ (Nat.ne_of_lt (Heap.lt_size (Heap.get?_push_of_some _ h1'))) (Heap.get?_push_size _ rfl) rfl (by first | (simp; done) | (simp; omega) | (simp only [Array.size_append]; simp; omega)) ?_
  refine wpAny_bind (wpAny_isInstance (T := "StopIteration") (b := true) ⟨_, Heap.get?_update_self _ (Heap.get?_push_size _ rfl) rfl, rfl⟩ isSubtype_stop ?_)
  refine wpAny_pure (hQ _ fun b o hb e => ?_)
  have e' := (Heap.get?_update_other s.heap (Obj.mapFields (·.setIfInBounds 0 Value.none)) (Ne.symm hb)).trans e
  rw [Heap.get?_update_other _ _ (Nat.ne_of_gt (Heap.lt_size (Heap.get?_push_of_some _ e')))]
  exact Heap.get?_push_of_some _ (Heap.get?_push_of_some _ e')
theorem walks_keys_hot (I d x1 : Addr) (hh : A.handled = some (.ref x1)) (hne : d ≠ I) (hx : x1 ≠ I) (kvs : List (Ky × Value)) (ep : Nat) :
    Walks prog w A I [I, d, x1] [I] kvs.length (fun i v => ∃ k x, kvs[i]? = some (k, x) ∧ knd.is k v = true) (fun i h => h.IsKeyIter I d i kvs.length ep ∧ h.DictAt knd d kvs ep ∧ HotH x1 h) where
  sub := fun b hb => by simp at hb; simp [hb]
  frame := fun _ _ _ st hk => ⟨st.1.at fun o e => hk I (by simp) o e, st.2.1.at' fun o e => hk d (by simp) o e, st.2.2.keep fun o e => hk x1 (by simp) o e⟩
  item := fun i s Q E hi st hQ => by
    obtain ⟨⟨k, x⟩, hkx⟩ : ∃ p, kvs[i]? = some p := ⟨kvs[i], by simp [hi]⟩
    refine wpAny_pyNext_dict_item st.1 st.2.1 hkx fun key h' hkey hit' hs' => ?_
    exact hQ key h' s.toks ⟨k, x, hkx, hkey⟩ ⟨hit', st.2.1.extBut hs'.extBut hne, st.2.2.keep fun o e => hs'.extBut x1 o hx e⟩ fun b o hb e => hs'.extBut b o (fun h => hb (by simp [h])) e
  done := fun s Q E st hQ => next_keys_end_hot hh st.2.2 hx st.1 st.2.1 (by simp) fun h' he' => hQ h' s.toks fun b o hb e => he' b o (fun h => hb (by simp [h])) e
  self := fun _ _ _ _ st hQ => wpAny_pyIter_keyiter st.1 hQ
end
section
variable {prog : Program} {w : World} {A : Around} {E : Value → Shared → Prop} {s : Shared} {T : String} {r d x1 : Addr} {n : Nat} {P : Nat → Value → Prop} {OK : Heap → Prop}
/-- an iterator, where the exception at x1 is handled -/
def IterH (prog : Program) (w : World) (r d x1 : Addr) (n : Nat) (P : Nat → Value → Prop) (OK : Heap → Prop) : Prop := ∀ (A : Around) (s : Shared), A.handled = some (.ref x1) → OK s.heap → HotH x1 s.heap → ∃ (oI : Obj) (St : Nat → Heap → Prop),
    (∀ (E : Value → Shared → Prop) (Q : Value → Shared → Prop), Q (.ref s.heap.objs.size) { s with heap := s.heap.push oI } → wpAny (model prog w) A (pyIter (.ref r)) Q E s) ∧
    Walks prog w A s.heap.objs.size [s.heap.objs.size, d, x1] [s.heap.objs.size] n P St ∧ St 0 (s.heap.push oI)
theorem extend_hot {R : Result → Shared → Prop} (K : KdlSrc prog w T r d n P OK) (IT : IterH prog w r d x1 n P OK) (hh : A.handled = some (.ref x1)) (hok : OK s.heap) (hot : HotH x1 s.heap) (S : Addr) (hSr : S ≠ r) (hSd : S ≠ d) (hSx : S ≠ x1) (res : Value) (c₀ : Nat) (hS : s.heap.get? S = some { cls := .type "list", data := .seq #[] c₀ })
    (hR : ∀ h' tk acc' c', (∀ b o, b ≠ S → s.heap.get? b = some o → h'.get? b = some o) → h'.get? S = some { cls := .type "list", dict := none, data := .seq acc' c', slots := #[] } → ItemsOf P acc' n → R (.ok (.ret res)) { s with heap := h', toks := tk }) (hn : n ≤ sizeLine) :
    wpAny (model prog w) A.in1 (Builtin.List.listExtendWith (.ref S) (.ref r) res)
      (fun fin s' => match fin with | .done f => R (.ok f) s' | .again c' => c'.quiet = true ∧ codeAny (model prog w) A c' R s') (fun e s' => R (.error e) s') s := by
  have hSI : S ≠ s.heap.objs.size := Nat.ne_of_lt (Heap.lt_size hS)
  have hSf : S ∉ [s.heap.objs.size, d, x1] := by simp only [List.mem_cons, List.not_mem_nil, or_false, not_or]; exact ⟨hSI, hSd, hSx⟩
  obtain ⟨oI, St, hit, W, st⟩ := IT A.in1 s hh hok hot
  have key : ∀ (h : Heap) (c₁ tk : Nat), St 0 h → (∀ b o, b ≠ S → s.heap.get? b = some o → h.get? b = some o) →
      h.get? S = some { cls := .type "list", data := .seq #[] c₁ } → codeAny (model prog w) A (.builtin "list.extend.loop" ⟨[.ref S, .ref s.heap.objs.size, res], []⟩) R { s with heap := h, toks := tk } := by
    intro h c₁ tk hst hk hS₁
    refine codeAny_extend_loopS W.toS hn S hSf res n 0 _ #[] c₁ rfl (Nat.zero_le _) hst hS₁ (ItemsOf.nil _) fun s' acc' c' hm hS' hacc => ?_
    rw [Moved.eq_with hm]
    refine hR s'.heap s'.toks acc' c' (fun b o hb e => hm.heap b o (fun hmem => ?_) (hk b o hb e)) hS' hacc
    rcases List.mem_cons.mp hmem with e' | hmem
    · exact hb e'
    · exact absurd (Heap.lt_size e) (by rw [List.mem_singleton.mp hmem]; exact Nat.lt_irrefl _)
  unfold Builtin.List.listExtendWith
  refine wpAny_bind (wpAny_typeOf (T := T) (K.type s hok) ?_)
  have h1 : Builtin.List.listSameRef (.ref S) (.ref r) = false := by simp [Builtin.List.listSameRef, hSr]
  simp only [h1, K.notList, K.notTuple, Bool.or_false, Bool.false_eq_true, if_false]
  refine wpAny_bind (hit _ _ ?_)
  have hS₁ := Heap.get?_push_of_some oI hS
  refine wpAny_bind (wpAny_holding (K.hint _ _ _ _ (K.keep _ _ hok fun b _ o e => Heap.get?_push_of_some _ e) ?_))
  refine wpAny_ite_split (fun _ => ?_) (fun _ => wpAny_pure ⟨plainId_quiet PySem.F.plain_extend_loop _, key _ c₀ _ st (fun b o _ e => Heap.get?_push_of_some _ e) hS₁⟩)
  refine wpAny_bind (wpAny_rule ?_)
  refine wpAny_bind ?_
  show wpAny _ _ (updateSeq S (·.push .none) >>= fun _ => updateSeq S (·.pop)) _ _ _
  refine wpAny_bind (wpAny_updateSeq hS₁ rfl ?_)
  have hS₂ := Heap.get?_update_self (Obj.mapSeq (·.push Value.none)) hS₁ rfl
  refine wpAny_updateSeq (hz := by seq_fits) hS₂ rfl ?_
  have hS₃ := Heap.get?_update_self (Obj.mapSeq (·.pop)) hS₂ rfl
  refine wpAny_pure ⟨plainId_quiet PySem.F.plain_extend_loop _, key _ _ _ ?_ (fun b o hb e => ?_) hS₃⟩
  · refine W.frame 0 _ _ st fun b hb o e => ?_
    have hbS : b ≠ S := fun h => hSf (h ▸ hb)
    exact (Heap.get?_update_other _ _ (Ne.symm hbS)).trans ((Heap.get?_update_other _ _ (Ne.symm hbS)).trans e)
  · exact (Heap.get?_update_other _ _ (Ne.symm hb)).trans ((Heap.get?_update_other _ _ (Ne.symm hb)).trans (Heap.get?_push_of_some _ e))
theorem init_hot {R : Result → Shared → Prop} (K : KdlSrc prog w T r d n P OK) (IT : IterH prog w r d x1 n P OK) (hh : A.handled = some (.ref x1)) (hok : OK s.heap) (hot : HotH x1 s.heap) (S : Addr) (hSr : S ≠ r) (hSd : S ≠ d) (hSx : S ≠ x1) (hS : s.heap.get? S = some { cls := .type "list", data := .seq #[] })
    (hR : ∀ h' tk acc' c', (∀ b o, b ≠ S → s.heap.get? b = some o → h'.get? b = some o) → h'.get? S = some { cls := .type "list", dict := none, data := .seq acc' c', slots := #[] } → ItemsOf P acc' n → R (.ok (.ret .none)) { s with heap := h', toks := tk }) (hn : n ≤ sizeLine) :
    wpAny (model prog w) A.in1 (Builtin.«list.__init__» ⟨[.ref S, .ref r], []⟩)
      (fun fin s' => match fin with | .done f => R (.ok f) s' | .again c' => c'.quiet = true ∧ codeAny (model prog w) A c' R s') (fun e s' => R (.error e) s') s := by
  show wpAny _ _ (do let old ← Builtin.List.listItems (.ref S); Builtin.List.listUpdate (.ref S) (fun _ => #[]); letGo old.toList.reverse; Builtin.List.listExtendWith (.ref S) (.ref r) .none) _ _ s
  refine wpAny_bind ?_
  unfold Builtin.List.listItems
  refine wpAny_bind (wpAny_seqItems hS rfl (wpAny_pure ?_))
  show wpAny _ _ (updateSeq S (fun _ => #[]) >>= fun _ => letGo (#[] : Array Value).toList.reverse >>= fun _ => Builtin.List.listExtendWith (.ref S) (.ref r) .none) _ _ s
  refine wpAny_bind (wpAny_updateSeq hS rfl ?_)
  have hS₂ := Heap.get?_update_self (Obj.mapSeq (fun _ => (#[] : Array Value))) hS rfl
  have oth : ∀ b o, b ≠ S → s.heap.get? b = some o → (s.heap.update S (Obj.mapSeq (fun _ => (#[] : Array Value)))).get? b = some o :=
    fun b o hb e => (Heap.get?_update_other _ _ (Ne.symm hb)).trans e
  refine wpAny_bind (wpAny_letGo ?_)
  refine extend_hot K IT hh (K.keep _ _ hok fun b hb o e => oth b o (by rcases hb with rfl | rfl; exact hSr.symm; exact hSd.symm) e) (hot.keep fun o e => oth x1 o hSx.symm e) S hSr hSd hSx .none _ hS₂ (fun h' tk acc' c' hk hS' hacc => ?_) hn
  exact hR h' tk acc' c' (fun b o hb e => hk b o hb (oth b o hb e)) hS' hacc
theorem list_hot {Q : Value → Shared → Prop} (K : KdlSrc prog w T r d n P OK) (IT : IterH prog w r d x1 n P OK) (hh : A.handled = some (.ref x1)) (hok : OK s.heap) (hot : HotH x1 s.heap) (hn : n ≤ sizeLine)
    (hQ : ∀ h' tk acc' c', (∀ b o, s.heap.get? b = some o → h'.get? b = some o) → h'.get? s.heap.objs.size = some { cls := .type "list", dict := none, data := .seq acc' c', slots := #[] } → ItemsOf P acc' n → Q (.ref s.heap.objs.size) { s with heap := h', toks := tk }) :
    wpAny (model prog w) A (call (.type "list") [.ref r]) Q E s := by
  refine callType_codes (Q₁ := fun obj s₁ => obj = .ref s.heap.objs.size ∧ s₁ = { s with heap := s.heap.push { cls := .type "list", data := .seq #[] } }) PySem.F.called_list (PySem.F.typeCall_list_1 _) PySem.F.entry_list_init
    (code_list_new _ ⟨rfl, rfl⟩) fun obj s₁ h₁ => ?_
  obtain ⟨rfl, rfl⟩ := h₁
  have hS : (s.heap.push { cls := .type "list", data := .seq #[] }).get? s.heap.objs.size = some { cls := .type "list", data := .seq #[] } := Heap.get?_push_size _ rfl
  have hlt := K.there _ hok
  have hx : x1 < s.heap.objs.size := by obtain ⟨o, vs, e, _⟩ := hot; exact Heap.lt_size e
  refine ⟨⟨_, hS, rfl⟩, PySem.F.args_list_init_2 _ _, init_hot (A := A.in1) K IT hh (K.keep _ _ hok fun b _ o e => Heap.get?_push_of_some _ e) (hot.keep fun o e => Heap.get?_push_of_some _ e) _ (Nat.ne_of_gt hlt.1) (Nat.ne_of_gt hlt.2) (Nat.ne_of_gt hx) hS (fun h' tk acc' c' hk hS' hacc => ?_) hn⟩
  exact ⟨rfl, hQ h' tk acc' c' (fun b o e => hk b o (Nat.ne_of_lt (Heap.lt_size e)) (Heap.get?_push_of_some _ e)) hS' hacc⟩
end
theorem iter_dict_hot {prog : Program} {w : World} {Ky : Type} [DecidableEq Ky] {knd : KeyKind prog w Ky} {d x1 : Addr} {kvs : List (Ky × Value)} {ep : Nat} (lo : (d == sysModules) = false) :
    IterH prog w d d x1 kvs.length (fun i v => ∃ k x, kvs[i]? = some (k, x) ∧ knd.is k v = true) (fun h => h.DictAt knd d kvs ep) := fun A s hh hm hot =>
  ⟨_, _, (fun _ _ hq => wpAny_pyIter_dict lo hm hq), walks_keys_hot _ d x1 hh (Nat.ne_of_lt hm.lt_size) (by obtain ⟨o, vs, e, _⟩ := hot; exact Nat.ne_of_lt (Heap.lt_size e)) kvs ep, ⟨⟨_, Heap.get?_push_size _ rfl, rfl, rfl⟩, hm.push _, hot.keep fun o e => Heap.get?_push_of_some _ e⟩⟩
/-- list(d) -/
theorem call_list_dH {X : Cx} (hc : HotC X) : CallR X (.type "list") rListD := by
  intro pins s σ H xs us Q I r h
  obtain ⟨p, kvs, e, hk, q⟩ := h
  subst e
  obtain ⟨u, eu, rx⟩ := vals1 r
  subst eu
  obtain rfl : u = Value.ref p := rx
  obtain ⟨z, lo, vs, rk, hd⟩ := (show ObjOk X.prog X.w H s.heap p (.dK kvs) from I.hok p _ hk)
  obtain ⟨ep, hat⟩ := hd.dictAt
  have hl : kvs.length = vs.length := Paired.length rk
  obtain ⟨x1, hh, o1, vs1, h1, d1, c1⟩ := hc.at I
  refine list_hot (PySem.W.kdl_dict (knd := mixKind X.prog X.w) (kvs := vs) (ep := ep) lo) (iter_dict_hot lo) hh hat ⟨o1, vs1, h1, d1, c1⟩ (by rw [← hl]; exact z) fun h' tk acc' c' hkeep hS hacc => ?_
  refine ⟨.ref s.heap.objs.size, upd H s.heap.objs.size (.lst (kvs.map fun kv => kV kv.1)), I.laid hkeep (Nat.le_refl _) (show ObjOk X.prog X.w _ _ _ (.lst (kvs.map fun kv => kV kv.1)) from ⟨?_, acc'.toList, c', ?_, ?_⟩), rfl, q _ (I.hok.fresh (Nat.le_refl _))⟩
  · rw [List.length_map]; exact z
  · have el : acc'.toList.length = acc'.size := by simp
    refine vals_of_at (by rw [List.length_map, el, hacc.1, hl]) fun j x w h1 h2 => ?_
    obtain ⟨k, y, hky, hi⟩ := hacc.2 j w (by rw [← Array.getElem?_toList]; exact h2)
    have e1 : (kvs.map (·.1))[j]? = some k := by
      rw [KV.keys rk, List.getElem?_map, hky] <;> rfl
    have e2 : (kvs.map fun kv => kV kv.1)[j]? = some (kV k) := by
      have e3 : (kvs.map fun kv => kV kv.1) = (kvs.map (·.1)).map kV := by rw [List.map_map] <;> rfl
      rw [e3, List.getElem?_map, e1] <;> rfl
    rw [e2] at h1
    cases h1
    exact keyIs_rel hi
  · rw [Array.toArray_toList]; exact hS
end
/-! A list comprehension where an exception is handled. -/
open PySem L2 PyProof.Rows
section
open PySem.Spec HotX L2H
/-- the context of a block, the pins of the def kept -/
abbrev blkH (X : Cx) (s : Shared) (H : Hp) (scope : Scope) (cenv : Env) (fp : List Addr) : Cx := { X.blk s H scope cenv fp with pn := X.pn }
section
variable {X : Cx} {pins : List (Addr × Obj)} {σ : L2.St} {H : Hp} {s s3 : Shared} {H3 : Hp} {scope : Scope} {ce : Env} {fp : List Addr}
theorem okH (ok : (X.blk s3 H3 scope ce fp).Ok) : (blkH X s3 H3 scope ce fp).Ok := ⟨ok.mod, ok.kind, ok.glob, ok.blt, ok.above, ok.inj, ok.has, ok.cab, ok.hd, ok.frames, ok.stk, ok.exf, ok.bs, ok.bsz, ok.noex, ok.exfs, ok.funs, ok.frf⟩
theorem okB (ok : (blkH X s3 H3 scope ce fp).Ok) : (X.blk s3 H3 scope ce fp).Ok := ⟨ok.mod, ok.kind, ok.glob, ok.blt, ok.above, ok.inj, ok.has, ok.cab, ok.hd, ok.frames, ok.stk, ok.exf, ok.bs, ok.bsz, ok.noex, ok.exfs, ok.funs, ok.frf⟩
theorem toH (I : Inv (X.blk s3 H3 scope ce fp) (X.pn ++ pins) σ H s) : Inv (blkH X s3 H3 scope ce fp) pins σ H s := ⟨okH I.ok, I.os, I.bare, I.base, I.loc, I.cell, I.free, I.freeC, I.pin, I.hok, I.len⟩
theorem ofH (I : Inv (blkH X s3 H3 scope ce fp) pins σ H s) : Inv (X.blk s3 H3 scope ce fp) (X.pn ++ pins) σ H s := ⟨okB I.ok, I.os, I.bare, I.base, I.loc, I.cell, I.free, I.freeC, I.pin, I.hok, I.len⟩
theorem pe_lcH {elt tg iter : Expr} {ifs : List Expr} {scope : Scope} {own : List (Str × Nat)} {pos : Pos} {wi : TI} {g : TG} {tt : TT} {te : TE}
    (hc : HotC X) (hN : X.N.Nodup) (hi : PIH X tg iter wi) (ok : BlkOk X.N X.env.scope scope own)
    (hg : ∀ (s : Shared) (H : Hp) (C : Addr) (cl : List (Str × Addr)) (fp : List Addr), PG (blkH X s H scope (compEnvC scope cl C X.env) fp) tg g) (ht : ∀ (s : Shared) (H : Hp) (C : Addr) (cl : List (Str × Addr)) (fp : List Addr), PTs (blkH X s H scope (compEnvC scope cl C X.env) fp) ifs tt)
    (he : ∀ (s : Shared) (H : Hp) (C : Addr) (cl : List (Str × Addr)) (fp : List Addr), PE (blkH X s H scope (compEnvC scope cl C X.env) fp) elt te) (hs : ∀ x, foldedSetIterable iter X.env x = pure x := by intro _; rfl) :
    PE X (.ListComp elt [⟨tg, iter, ifs, 0⟩] scope pos) (tLc wi g tt te (own.map (·.2))) := by
  refine ⟨fun pins s σ H Q I h => ?_⟩
  rw [eval_ListComp]
  have hfree : ∀ y ∈ scope.names, y.2 = .free → ∃ c, X.env.cells.lookup y.1 = some c := fun y hy e => by
    rcases ok.free y hy e with k | k
    · exact I.ok.has _ (.inl k)
    · exact I.ok.has _ (.inr k)
  refine comp_freeE rfl hs (closure_ok hfree) ok.kind (fun y hy e => by rw [ok.uniq y hy, e])
    (thn (hi.run pins s σ H _ I h) fun xv s1 hx => thn hx fun itv s2 h2 => ?_)
  obtain ⟨it, fp, tn, J, H2, e, I2, T, st2, f2, q⟩ := h2
  subst e
  refine wpAny_newObj_type (newEnv_comp ?_) (by show 0 ≤ sizeLine; decide)
  generalize hD : s2.heap.objs.size = D
  have hDn : H2 D = none := I2.hok.fresh (Nat.le_of_eq hD)
  obtain ⟨W, ⟨m0, w0⟩, turn⟩ := q D hDn
  generalize hs3 : ({ s2 with heap := s2.heap.push { cls := .type "list", data := .seq ([] : List Value).toArray } } : Shared) = s3
  have I3 : Inv X pins σ (upd H2 D (.lst [])) s3 := by
    rw [← hs3]
    refine I2.laid (t' := s2.toks) (fun b o e => Heap.get?_push_of_some _ e) (Nat.le_of_eq hD) ⟨Nat.zero_le _, [], 0, .nil, ?_⟩
    rw [← hD]
    exact Heap.get?_push_size _ rfl
  have h3 : s3.heap = s2.heap.push { cls := .type "list", data := .seq ([] : List Value).toArray } := by rw [← hs3]
  have sz : ∀ b ∈ fp, b < s2.heap.objs.size := fun b hb => by
    obtain ⟨o, e, _⟩ := T.obj _ _ st2 b hb
    exact Heap.lt_size e
  have f3 : ∀ b ∈ fp, FpOk X pins (upd H2 D (.lst [])) b ∧ b < s3.heap.objs.size := fun b hb => by
    have hlt := sz b hb
    refine ⟨⟨?_, (f2 b hb).2⟩, by rw [h3, Heap.size_push]; exact Nat.lt_succ_of_lt hlt⟩
    rw [upd_ne (by rw [← hD]; exact Nat.ne_of_lt hlt)]
    exact (f2 b hb).1
  have st3 : tn 0 s3.heap := T.keep _ _ _ st2 fun b _ o e => by rw [h3]; exact Heap.get?_push_of_some _ e
  have I4 := block_start I3 ok hN f3
  have pg := hg s3 (upd H2 D (.lst [])) s3.heap.objs.size (cellsFrom (s3.heap.objs.size + 1) scope.names (cloFrom X.env.cells scope.names [])) fp
  have pt := ht s3 (upd H2 D (.lst [])) s3.heap.objs.size (cellsFrom (s3.heap.objs.size + 1) scope.names (cloFrom X.env.cells scope.names [])) fp
  have pe := he s3 (upd H2 D (.lst [])) s3.heap.objs.size (cellsFrom (s3.heap.objs.size + 1) scope.names (cloFrom X.env.cells scope.names [])) fp
  show codeAny _ _ (.compStart (.ListComp elt [⟨tg, iter, ifs, 0⟩] scope pos) 0 (.ref it) (.ref D) (compEnvC scope (cellsFrom (s3.heap.objs.size + 1) scope.names (cloFrom X.env.cells scope.names [])) s3.heap.objs.size X.env))
    (compPostE (model X.prog X.w) X.A X.xe (EP X pins σ Q) (.ref D) (compEnvC scope (cellsFrom (s3.heap.objs.size + 1) scope.names (cloFrom X.env.cells scope.names [])) s3.heap.objs.size X.env)) { s3 with heap := pushCells (s3.heap.push { cls := .type "dict", data := .dict #[] }) scope.names }
  have nfp : ∀ b ∈ fp, (upd H2 D (.lst [])) b = none := fun b hb => (f3 b hb).1.1
  generalize hce : compEnvC scope (cellsFrom (s3.heap.objs.size + 1) scope.names (cloFrom X.env.cells scope.names [])) s3.heap.objs.size X.env = ce at I4 pg pt pe ⊢
  have cL : ce.locals = s3.heap.objs.size := by subst hce; rfl
  generalize hH3 : upd H2 D (.lst []) = H3 at I3 I4 pg pt pe w0 nfp f3
  generalize hs4 : ({ s3 with heap := pushCells (s3.heap.push { cls := .type "dict", data := .dict #[] }) scope.names } : Shared) = s4 at I4 ⊢
  have st4 : tn 0 s4.heap := T.keep _ _ _ st3 fun b _ o e => by rw [← hs4]; exact pushCells_keeps _ _ _ _ (Heap.get?_push_of_some _ e)
  -- the pins of the def stand in the block, too
  have pin4 : ∀ p ∈ X.pn, s4.heap.get? p.1 = some p.2 ∧ H3 p.1 = none ∧ p.1 ≠ ce.locals ∧ p.1 ∉ frs X.stack ∧ ∀ v, p.2.data ≠ .cell v := fun p hp => by
    obtain ⟨g1, g2, g3, g4, g5⟩ := I3.pin p (List.mem_append_left _ hp)
    refine ⟨by rw [← hs4]; exact pushCells_keeps _ _ _ _ (Heap.get?_push_of_some _ g1), g2, by rw [cL]; exact Nat.ne_of_lt (Heap.lt_size g1), fun hm => (List.mem_cons.mp (I3.stkSub p.1 hm)).elim g3 g4, g5⟩
  have I4H : Inv (blkH X s3 H3 scope ce fp) [] (wipe σ (own.map (·.2))) H3 s4 := toH ⟨I4.ok, I4.os, I4.bare, I4.base, I4.loc, I4.cell, I4.free, I4.freeC, fun p hp => by
    have hp' : p ∈ X.pn := by simpa using hp
    exact pin4 p hp', I4.hok, I4.len⟩
  have hcB : HotC (blkH X s3 H3 scope ce fp) := hc
  have stat : ∀ {σ' : L2.St} {H' : Hp} {s' : Shared}, Inv (blkH X s3 H3 scope ce fp) [] σ' H' s' → (∀ b ∈ fp, H' b = none) → ∀ b ∈ fp, FpOk (blkH X s3 H3 scope ce fp) [] H' b := fun {σ' H' s'} I' hn b hb =>
    ⟨hn b hb, (I'.ok.exf b hb).1, I'.ok.exfs b hb, .inl hb, fun x c e => (I'.ok.exf b hb).2 x c e, fun p hp => (f3 b hb).1.2.2.2.2.2 p (List.mem_append_left _ (by simpa using hp))⟩
  have loop : codeAny (model X.prog X.w) X.A (.compLoop (.ListComp elt [⟨tg, iter, ifs, 0⟩] scope pos) 0 (.ref it) (.ref D) ce) (compPostE (model X.prog X.w) X.A X.xe (EP X pins σ Q) (.ref D) ce) s4 := by
    refine compLoop_any (fun n s' => ∃ i H', Inv (blkH X s3 H3 scope ce fp) [] (wipe σ (own.map (·.2))) H' s' ∧ tn i s'.heap ∧ (∀ b ∈ fp, H' b = none) ∧ W i n H') ?_ m0 ⟨0, H3, I4H, st4, nfp, w0⟩
    rintro n s5 ⟨i, H5, I5, st5, n5, w5⟩
    rcases turn i n H5 w5 with ⟨stop, qq⟩ | ⟨go, Nx, hNx, step⟩
    · have td := T.done (blkH X s3 H3 scope ce fp) rfl rfl rfl hcB i [] s5 _ H5 (fun _ _ => False) I5 (stat I5 n5) st5 stop
      refine thnF td fun r s6 ⟨hr, I6⟩ => ?_
      subst hr
      have I7 : Inv X pins σ H5 s6 := I3.call' (ch := fp) I6.os I6.base I6.hok I6.bare fun b hb => ⟨(f3 b hb).1.2.2.2.1, (f3 b hb).1.2.1, (f3 b hb).1.2.2.2.2.1, (f3 b hb).1.2.2.2.2.2⟩
      have nC : H5 s3.heap.objs.size = none := by
        have z : H5 ce.locals = none := I6.free
        rw [cL] at z
        exact z
      obtain ⟨m, hn, _⟩ := I6.loc
      have hn : s6.heap.Ns ce.locals m := hn
      refine ⟨m, hn, fun h'' sb => ?_⟩
      obtain ⟨f0, f1, f2, f3, f4, f5⟩ := (show FpOk X pins H5 s3.heap.objs.size from I3.fpOk (Nat.le_refl _) nC)
      exact ⟨.ref D, H5, I7.turned (it := s3.heap.objs.size) (t' := s6.toks) (fun b o hb e => (sb.2 b (by rw [cL]; exact hb)).trans e) f0 f1 f3 f4 f5, rfl, qq⟩
    · have ti := T.item (blkH X s3 H3 scope ce fp) rfl rfl rfl hcB i [] s5 _ H5 (fun _ _ => False) I5 (stat I5 n5) st5 go
      refine thnF ti fun r s6 ⟨u, hr, h6⟩ => ?_
      subst hr
      refine thnF h6 fun _ s7 ⟨x, H7, I7, r7, y7, st7, n7⟩ => ?_
      have I7' := I7.pinned (stat I7 n7) (T.obj _ _ st7)
      refine thnF (pg.run _ s7 _ H7 x u _ I7' r7 (step x H7 y7)) fun _ s8 ⟨σ8, H8, I8, hw8, q8⟩ => ?_
      refine thnF (pt.run _ s8 σ8 H8 _ I8 q8) fun b s9 ⟨H9, I9, q9⟩ => ?_
      have fin : ∀ {s' : Shared} {H' : Hp}, Inv (blkH X s3 H3 scope ce fp) ([] ++ pinsAt fp s7.heap) σ8 H' s' → Nx H' → ∃ m, m < n ∧ ∃ i H', Inv (blkH X s3 H3 scope ce fp) [] (wipe σ (own.map (·.2))) H' s' ∧ tn i s'.heap ∧ (∀ b ∈ fp, H' b = none) ∧ W i m H' := fun {s' H'} I' nx => by
        obtain ⟨m', hm, w'⟩ := hNx H' nx
        have pin' : ∀ b ∈ fp, ∀ o, s7.heap.get? b = some o → s'.heap.get? b = some o ∧ H' b = none := fun b hb o e =>
          let z := I'.pin (b, o) (List.mem_append_right _ (List.mem_append_right _ (mem_pinsAt hb e)))
          ⟨z.1, z.2.1⟩
        have hl : (wipe σ (own.map (·.2))).length = σ8.length := by rw [← hw8, wipe_length]
        refine ⟨m', hm, i + 1, H', (I'.unpinned (pins := [])).weak hl (fun j v e => ?_), T.keep _ _ _ st7 fun b hb o e => (pin' b hb o e).1, fun b hb => ?_, w'⟩
        · rw [← hw8] at e
          exact (wipe_some e).1
        · obtain ⟨o, e, _⟩ := T.obj _ _ st7 b hb
          exact (pin' b hb o e).2
      cases b with
      | false =>
        simp only [Bool.false_eq_true, if_false] at q9 ⊢
        exact fin I9 q9
      | true =>
        simp only [if_true] at q9 ⊢
        refine thnF (pe.run _ s9 σ8 H9 _ I9 q9) fun z s10 ⟨yv, H10, I10, r10, acc, hD10, hz10, nx⟩ => ?_
        exact app_ok (X := blkH X s3 H3 scope ce fp) I10 hD10 hz10 r10 fun s11 I11 => fin I11 nx
  exact codeAny_compStart_list loop (T.self X.A 0 _ _ _ st4 loop)
end
end
/-! Defs called where an exception is handled, as they are read elsewhere. -/
open PySem L2 PyProof.Rows
section
open PySem.Spec HotX L2H
abbrev FnHot := @L2H.FnH
/-- the promise of a def that raises nothing -/
def liftN (P : Pm) : Sp := fun vs H Q _ => lift P vs H Q E0
theorem room_mark {k : Nat} {A : Around} {h : Option Value} (r : Room k A) : RoomH k (A.mark h) := ⟨r.dp, r.un⟩
theorem hu_ofH {k : Nat} {A : Around} (r : RoomH k A) : A.units + 1 < cLine := by have := r.un; omega
section
variable {X : Cx} {CX : CXT} {k : Nat} {f C : Addr} {fd : FuncData} {ps : List Str} {sp : Sp} {P : Pm} {x m : Str} {q pos apos : Pos} {e o : Expr} {es : List Expr} {ta : TE} {t : TA}
theorem passH0 {Y : Cx} : ∀ σ : L2.St, PassesAt (L2N.CX Y.prog Y.w) Y σ E0 := fun σ pins H s e s' I h => by
  obtain ⟨_, _, _, _, _, _, _, _, _, _, _, _, z⟩ := h
  exact z.elim
theorem hot_call (F : FnH X.prog X.w X.K X.mg X.base (L2N.CX X.prog X.w) k f fd ps (liftN P)) (hr : RoomH k X.A) (hc : HotC X) (hg : Gl X x) (hm : X.mg x = some (.ref f)) (hk : PySem.W.keepIn X.K (.ref f) = true) (hb : Binds X.K fd ps [])
    (ha : PA X (e :: es) t) (hdb : (x == ("__debug__" : Str)) = false := by decide) (he : starEach (e :: es) X.env = (false, eval e X.env) :: starEach es X.env := by rfl) (hpl : (backTo pos (starEach es X.env)).any (·.1) = false := by rfl) :
    PE X (.Call (.Name x q) (e :: es) [] pos) (tCall (lift P) [] E0 t) := by
  have h := pe_callH (q := q) (pos := pos) (E := fun _ => E0) F hr hc hg hm hk hb passH0 ha hdb he hpl
  refine ⟨fun pins s σ H Q I hq => h.run pins s σ H Q I ?_⟩
  have e1 : (fun (vs : List V) (H1 : Hp) => lift P (vs ++ []) H1 Q E0) = fun vs H1 => lift P vs H1 Q E0 := by funext vs H1; rw [List.append_nil]
  have hq : t σ H (fun vs H1 => lift P (vs ++ []) H1 Q E0) := hq
  rw [e1] at hq
  exact hq
theorem hot_meth {pl : Sem Bool} (he : PE X o ta) (c : Cls X.K C) (hm : Meth X.K C m f) (F : FnH X.prog X.w X.K X.mg X.base (L2N.CX X.prog X.w) k f fd ps (liftN P)) (hr : RoomH k X.A) (hc : HotC X) (hb : Binds X.K fd ps []) (ha : PA X (e :: es) t)
    (hst : starEach (e :: es) X.env = (false, eval e X.env) :: starEach es X.env := by rfl) (hpl : (backTo pos (starEach es X.env)).any (·.1) = false := by rfl)
    (ht : eval (.Call (.Attribute o m apos) (e :: es) [] pos) X.env = (do
      let ov ← eval o X.env
      standAt apos.atName
      let (f, first) ← holding [ov] (getMethod ov m pl)
      callWith pos f first (backTo pos (starEach (e :: es) X.env)) (backToKw pos (keywordEach [] X.env))) := by rfl) :
    PE X (.Call (.Attribute o m apos) (e :: es) [] pos) (tMeth C m (lift P) [] E0 ta t) := by
  have h := pe_methH (E := fun _ => E0) he c hm F hr hc hb passH0 ha hst hpl ht
  refine ⟨fun pins s σ H Q I hq => h.run pins s σ H Q I ?_⟩
  have e1 : ∀ a : Addr, (fun (vs : List V) (H2 : Hp) => lift P (.ref a :: (vs ++ [])) H2 Q E0) = fun vs H2 => lift P (.ref a :: vs) H2 Q E0 := fun a => by funext vs H1; rw [List.append_nil]
  refine (show ∀ (te : TE), te = ta → _ from fun te _ => ?_) ta rfl
  have hq : ta σ H (fun x H1 => ∃ a dx fs, x = .ref a ∧ H1 a = some (.ins C dx fs) ∧ fs.lookup m = none ∧ t σ H1 fun vs H2 => lift P (x :: (vs ++ [])) H2 Q E0) := hq
  have e2 : (fun (x : V) (H1 : Hp) => ∃ a dx fs, x = .ref a ∧ H1 a = some (.ins C dx fs) ∧ fs.lookup m = none ∧ t σ H1 fun vs H2 => lift P (x :: (vs ++ [])) H2 Q E0) =
      fun x H1 => ∃ a dx fs, x = .ref a ∧ H1 a = some (.ins C dx fs) ∧ fs.lookup m = none ∧ t σ H1 fun vs H2 => lift P (x :: vs) H2 Q E0 := by
    funext x H1
    simp only [List.append_nil]
  rw [e2] at hq
  exact hq
theorem hot_meth0 {pl : Sem Bool} (he : PE X o ta) (c : Cls X.K C) (hm : Meth X.K C m f) (F : FnH X.prog X.w X.K X.mg X.base (L2N.CX X.prog X.w) k f fd ps (liftN P)) (hr : RoomH k X.A) (hc : HotC X) (hb : Binds X.K fd ps [])
    (ht : eval (.Call (.Attribute o m apos) [] [] pos) X.env = (do
      let ov ← eval o X.env
      standAt apos.atName
      let (f, first) ← holding [ov] (getMethod ov m pl)
      callWith pos f first (backTo pos (starEach [] X.env)) (backToKw pos (keywordEach [] X.env))) := by rfl) :
    PE X (.Call (.Attribute o m apos) [] [] pos) (tMeth C m (lift P) [] E0 ta tNil) := by
  refine ⟨fun pins s σ H Q I h => ?_⟩
  refine PySem.W.methodCall_KW (pl := pl) (thn (he.run pins s σ H _ I h) fun u s1 ⟨x, H1, I1, rx, a, dx, fs, ex, ea, l, q⟩ => ?_) ht
  subst ex
  obtain rfl : u = Value.ref a := rx
  refine getmeth_ok I1 ea c hm l ?_
  exact PySem.W.callWith_K0 (first := [.ref a]) I1.kIn hm.kp (run_fnH (E := fun _ => E0) (us := [.ref a]) (vs := [.ref a]) F hr hc hb (passH0 σ) I1 (.cons rfl .nil) q)
/-- a raise that is never come to -/
theorem ps_noR {st : Stmt} {C : Addr} : PS X st (tRaiseC C E0) := ⟨fun pins s σ H D I h => h.elim⟩
end
/-- a def, called where an exception is handled -/
theorem funH {P : Program} {w : World} {K : PySem.W.Frag} {mg : Str → Option Value} {base : Heap} {x qual : Str} {st : Stmt} {f : Addr} {fd : FuncData} {N ps : List Str} {k : Nat} {sp : Sp} (F : Fun K x qual st f fd) (S : FnScope N ps (defScope st)) (len : ∀ vs H Q E, sp vs H Q E → vs.length = ps.length)
    (hbody : ∀ (cdv : Value) (A : Around) (outer : List Env) (s : Shared) (H : Hp) (vs : List V) (Q : VK) (E : XK) (p : Addr × Obj), Hot1 A p → RoomH k (A.deeper (envOfC qual (defScope st) s.heap.objs.size f cdv)) → sp vs H Q E →
      ∃ t, PSs (cxH (L2N.CX P w) P w K mg base N qual (defScope st) f cdv A outer s H E p) (defBody st) t ∧ t { nx := fun _ H' => Q .non H', rt := Q } (L2.start N vs) H) : FnH P w K mg base (L2N.CX P w) (k + 1) f fd ps sp := by
  obtain ⟨oc, od, kV, doc, pm, an, cdv, ct, osl, rfl, lk, hcd⟩ := F.ex
  exact fn_ofH lk hcd S len fun A outer s H vs Q E p hot hr hsp => hbody cdv A outer s H vs Q E p hot hr hsp
theorem hot_deep {A : Around} {p : Addr × Obj} {CX : CXT} {P : Program} {w : World} {K : PySem.W.Frag} {mg : Str → Option Value} {base : Heap} {N : List Str} {qual : Str} {scope : Scope} {f : Addr} {cd : Value} {outer : List Env} {s : Shared} {H : Hp} {E : XK}
    (h : Hot1 A p) : HotC (cxH CX P w K mg base N qual scope f cd A outer s H E p) := ⟨p, h, List.mem_cons_self⟩
theorem liftN_len {P : Pm} {n : Nat} (h : ∀ vs H Q E, lift P vs H Q E → vs.length = n) : ∀ vs H Q E, liftN P vs H Q E → vs.length = n := fun vs H Q E q => h vs H Q E0 q
/-! ### a def that asks of the exception what it is -/
structure FnZ (P : Program) (w : World) (K : PySem.W.Frag) (mg : Str → Option Value) (base : Heap) (CX : CXT) (k : Nat) (f : Addr) (fd : FuncData) (ps : List Str) (sp : Addr → Addr → Sp) : Prop where
  len : ∀ a D vs H Q E, sp a D vs H Q E → vs.length = ps.length
  run : ∀ (A : Around) (outer : List Env) (s : Shared) (H : Hp) (args : Args) (us : List Value) (vs : List V) (Q : VK) (E : XK) (p : Addr × Obj) (D : Addr), RoomH k A → Hot1 A p → Zc (.ref D) none p.2 → (∃ vs, p.2.data = .fields vs) → PinOk outer H s p → Env0 P w K mg base A outer s H → BindsTo s fd args (ps.zip us) → Vals vs us → sp p.1 D vs H Q E →
    codeAny (model P w) A (.call (.ref f) args) (CR CX outer P w H s Q E) s
theorem funZ {P : Program} {w : World} {K : PySem.W.Frag} {mg : Str → Option Value} {base : Heap} {x qual : Str} {st : Stmt} {f : Addr} {fd : FuncData} {N ps : List Str} {k : Nat} {sp : Addr → Addr → Sp} (F : Fun K x qual st f fd) (S : FnScope N ps (defScope st)) (len : ∀ a D vs H Q E, sp a D vs H Q E → vs.length = ps.length)
    (hbody : ∀ (cdv : Value) (A : Around) (outer : List Env) (s : Shared) (H : Hp) (vs : List V) (Q : VK) (E : XK) (p : Addr × Obj) (D : Addr), Hot1 A p → Zc (.ref D) none p.2 → (∃ vs, p.2.data = .fields vs) → RoomH k (A.deeper (envOfC qual (defScope st) s.heap.objs.size f cdv)) → sp p.1 D vs H Q E →
      ∃ t, PSs (cxH (L2N.CX P w) P w K mg base N qual (defScope st) f cdv A outer s H E p) (defBody st) t ∧ t { nx := fun _ H' => Q .non H', rt := Q } (L2.start N vs) H) : FnZ P w K mg base (L2N.CX P w) (k + 1) f fd ps sp := by
  obtain ⟨oc, od, kV, doc, pm, an, cdv, ct, osl, rfl, lk, hcd⟩ := F.ex
  refine ⟨len, fun A outer s H args us vs Q E p D hr hot hz hf hpin e0 hb r hsp => ?_⟩
  -- at this exception alone
  have F2 := fn_ofH (CX := L2N.CX P w) (P := P) (w := w) (mg := mg) (base := base) (k := k) (sp := fun vs H Q E => False) lk hcd S (fun _ _ _ _ h => h.elim) (fun _ _ _ _ _ _ _ _ _ _ h => h.elim)
  have hl := len _ _ _ _ _ _ hsp
  have KX : K.In s.heap := e0.mod.kin.keeps fun b o e => (e0.bs b o e).1
  have lim : s.heap.NoLimit := e0.mod.nolimit.keeps fun b o e => (e0.bs b o e).1
  have hkind : ∀ y ∈ ps.zip us, (defScope st).names.lookup y.1 = some .local ∨ ((defScope st).names.lookup y.1 = some .cell ∧ ((cellsFrom (s.heap.objs.size + 1) (defScope st).names []).lookup y.1).isSome = true) := fun ⟨n, v⟩ hy => by
    rcases S.par n (List.of_mem_zip hy).1 with q | q
    · exact .inl q
    · exact .inr ⟨q, PySem.W.cellsFrom_some _ _ _ (.inl q)⟩
  refine codeAny_call_function hr.depth (KX _ _ lk) rfl S.co S.gen rfl (PySem.W.codeRec_of KX hcd) (hb _ _ _ _ ?_)
  refine wpAny_newFunctionEnv_cells S.kind hkind fun env he s1 x => ?_
  subst he
  refine ⟨lim.keeps x.toInCall.keep, codeAny_func ?_⟩
  obtain ⟨t, ht, hq⟩ := hbody cdv A outer s H vs Q E p D hot hz hf (hr.deeper _) hsp
  have I : Inv (cxH (L2N.CX P w) P w K mg base N qual (defScope st) f cdv A outer s H E p) [] (L2.start N vs) H s1 := inv_startH S hpin e0 hl r x
  refine wpAny_mono (ht.run [] s1 (L2.start N vs) H _ I hq) (fun fl s' hs => ?_) fun e s' hs => hs
  have fin : ∀ {σ' : L2.St} {H' : Hp} {v : V} {u : Value}, Inv (cxH (L2N.CX P w) P w K mg base N qual (defScope st) f cdv A outer s H E p) [] σ' H' s' → RelV v u → Q v H' → CE outer P w H s Q u s' :=
    fun {σ' H' v u} J rv q => ⟨v, H', J.os, J.bare, J.base, J.hok, rv, q⟩
  cases fl with
  | ret u =>
    obtain ⟨v, σ', H', J, rv, q⟩ := hs
    exact fin J rv q
  | next =>
    obtain ⟨σ', H', J, q⟩ := hs
    exact fin (v := V.non) (u := Value.none) J rfl q
  | brk =>
    obtain ⟨_, _, _, q⟩ := hs
    exact False.elim q
  | cont =>
    obtain ⟨_, _, _, q⟩ := hs
    exact False.elim q
/-- its call, the exception pinned -/
theorem pe_callZ {X : Cx} {k : Nat} {f D : Addr} {fd : FuncData} {ps : List Str} {sp : Addr → Addr → Sp} {x : Str} {q pos : Pos} {e : Expr} {es : List Expr} {t : TA} {p : Addr × Obj} (F : FnZ X.prog X.w X.K X.mg X.base (L2N.CX X.prog X.w) k f fd ps sp) (hr : RoomH k X.A) (hot : Hot1 X.A p) (hp : p ∈ X.pn) (hz : Zc (.ref D) none p.2) (hf : ∃ vs, p.2.data = .fields vs)
    (hg : Gl X x) (hm : X.mg x = some (.ref f)) (hk : PySem.W.keepIn X.K (.ref f) = true) (hb : Binds X.K fd ps [])
    (ha : PA X (e :: es) t) (hdb : (x == ("__debug__" : Str)) = false := by decide) (he : starEach (e :: es) X.env = (false, eval e X.env) :: starEach es X.env := by rfl) (hpl : (backTo pos (starEach es X.env)).any (·.1) = false := by rfl) :
    PE X (.Call (.Name x q) (e :: es) [] pos) (tCallS (sp p.1 D) (fun _ => E0) t) := by
  refine ⟨fun pins s σ H Q I h => ?_⟩
  refine wpAny_Call_Name_kw (ld_glob I hg hm ?_ hdb)
  refine PySem.W.callWith_K (h₀ := X.base) I.ok.mod.kin hk (thn (ha.run pos pins s σ H _ I h) fun us s1 ⟨vs, H1, I1, r, q⟩ => ⟨I1.kIn, ?_⟩) he hpl
  have hl : us.length = ps.length := by rw [← r.length]; exact F.len _ _ _ _ _ _ q
  have b := hb s1 us I1.kIn (by rw [List.append_nil]; exact hl)
  rw [List.append_nil] at b
  have P1 := I1.pin p (List.mem_append_left _ hp)
  have hpin : PinOk X.stack H1 s1 p := ⟨P1.1, P1.2.1, fun hm => (List.mem_cons.mp (I1.stkSub p.1 hm)).elim P1.2.2.1 P1.2.2.2.1, P1.2.2.2.2⟩
  refine wpAny_call (codeAny_mono (F.run X.A X.stack s1 H1 ⟨us, []⟩ us vs Q E0 p D hr hot hz hf hpin I1.env0 b r q) fun r s' hq => ?_)
  cases r with
  | error e => exact passH0 σ pins H1 s1 e s' I1 hq
  | ok fl =>
    cases fl with
    | ret u => exact I1.after hq
    | next => exact False.elim hq
    | brk => exact False.elim hq
    | cont => exact False.elim hq
/-- isinstance(e, c), e pinned -/
theorem call_isP {X : Cx} {D : Addr} {p : Addr × Obj} (C : ExcC X.K D) (hp : p ∈ X.pn) (hz : Zc (.ref D) none p.2) (hf : ∃ vs, p.2.data = .fields vs) : CallR X (.builtin "isinstance") (rIsE X.K D p.1) := by
  intro pins s σ H xs us Q I r h
  obtain ⟨c, cv, b, rfl, hcv, e, q⟩ := h
  cases r with
  | cons rx rr =>
    cases rr with
    | cons rt rr =>
      cases rr
      cases rx
      have ec := hcv _ rt
      subst ec
      obtain ⟨hget, _⟩ := I.pin p (List.mem_append.mpr (.inl hp))
      obtain ⟨vs, hv⟩ := hf
      have J : PySem.W.InstAt s.heap p.1 p.2 D none := by
        obtain ⟨a, oe⟩ := p
        obtain ⟨oc, od, oda, osl⟩ := oe
        obtain ⟨h1, h2⟩ := hz
        dsimp only at h1 h2 hv hget
        subst h1 h2 hv
        exact ⟨hget, rfl, rfl, trivial⟩
      exact PySem.W.kia_one (PySem.W.handS_kitx_exc C.hg C.hk C.hs C.hd C.ha C.hn C.ht C.hm) I.kIn J e (fun z => nomatch z) fun tk => ⟨.bl b, H, I.kept (t' := tk) fun _ _ z => z, rfl, q⟩
end
/-! law_k05_refused: which class an error has, walked. -/
theorem hu_of64 {k : Nat} {A : Around} (r : L2H.RoomH k A) : A.units + 64 < cLine := by have := r.un; omega
theorem hot1_of {X : Cx} {a : Addr} {oe : Obj} {pn : List (Addr × Obj)} {cls : Value} {d : Option Addr} (z : L2N.Zn cls d oe) (f : ∃ vs, oe.data = .fields vs) : L2H.Hot1 (X.suite a ((a, oe) :: pn)).A (a, oe) := by
  obtain ⟨vs, e⟩ := f
  exact ⟨rfl, vs, e, z.2.2 vs e⟩
theorem e_callS0 {P : Pm} {tr : TA} {σ : L2.St} {L : AL} {Q : V → AL → Prop} (h : SA tr σ L fun vs L1 => ∃ L2, Ent L1 L2 ∧ P vs L2 Q fun _ _ => False) : SE (tCallS (lift P) (fun _ => E0) tr) σ L Q := fun H s Qh k =>
  h H s _ fun vs L1 H1 s1 ⟨L2, en, p⟩ => ⟨L2, Q, fun _ _ => False, en H1 s1, p, k, fun _ _ _ _ q => q.elim⟩
inductive Ref5
  | hand | slot | room | held | box | work
def Ref5.cls (A : Ex) : Ref5 → Addr
  | .hand => A.NoHand
  | .slot => A.NoSlot
  | .room => A.NoRoom
  | .held => A.NothingHeld
  | .box => A.NoBox
  | .work => A.NoWork
def Ref5.num : Ref5 → Nat
  | .hand => 0
  | .slot => 1
  | .room => 2
  | .held => 3
  | .box => 4
  | .work => 5
def P_law_kinds (K : PySem.W.Frag) (A : Ex) (a C : Addr) : Pm := pm1 fun x L Q _ => ∃ r : Ref5, x = .ref a ∧ C = r.cls A ∧ ∀ d, Q (.ref d) (pt d (.lst ([r.num].map nV)) :: L)
theorem cls_mem {A : Ex} (r : Ref5) : r.cls A ∈ [A.NoBox, A.NoHand, A.NoRoom, A.NoSlot, A.NoWork, A.NothingHeld] := by cases r <;> simp [Ref5.cls]
theorem z_law_kinds {K : PySem.W.Frag} {A : Ex} {a C : Addr} {vs : List V} {H : Hp} {Q : VK} {E : XK} (h : lift (P_law_kinds K A a C) vs H Q E) : C ∈ [A.NoBox, A.NoHand, A.NoRoom, A.NoSlot, A.NoWork, A.NothingHeld] := by
  obtain ⟨_, _, _, _, ⟨_, _, r, _, e, _⟩, _⟩ := h
  rw [e]; exact cls_mem r
def N_law_kinds : List Str := ["_law_e", "_law_kinds_here", "_law_k"]
def t_law_kinds (K : PySem.W.Frag) (A : Ex) (ax Cx : Addr) (E : XK) : TS :=
    (tSeq (tAsg (tLst (tCons (tCB (rIsE K Cx ax) (tCons (tVar 0) (tCons (tC (.ref A.NoHand)) tNil))) (tCons (tCB (rIsE K Cx ax) (tCons (tVar 0) (tCons (tC (.ref A.NoSlot)) tNil))) (tCons (tCB (rIsE K Cx ax) (tCons (tVar 0) (tCons (tC (.ref A.NoRoom)) tNil))) (tCons (tCB (rIsE K Cx ax) (tCons (tVar 0) (tCons (tC (.ref A.NothingHeld)) tNil))) tNil))))) (gName 1))
    (tSeq (tAsg (tOp rCat (tVar 1) (tLst (tCons (tCB (rIsE K Cx ax) (tCons (tVar 0) (tCons (tC (.ref A.NoBox)) tNil))) (tCons (tCB (rIsE K Cx ax) (tCons (tVar 0) (tCons (tC (.ref A.NoWork)) tNil))) (tCons (tCB (rIsE K Cx ax) (tCons (tVar 0) (tCons (tC (.ref A.NoHeap)) tNil))) (tCons (tCB (rIsE K Cx ax) (tCons (tVar 0) (tCons (tC (.ref A.NoDeed)) tNil))) tNil)))))) (gName 1))
    (tRet (tLc (iRng1 (tCons (tC (.int 8)) tNil)) (gName 2) (tB (tOp (rIxL K) (tVar 1) (tVar 2))) (tVar 2) [2]))))
section
variable {K : PySem.W.Frag} {A : Ex} {E : XK} {vs : List V} {L R : AL} {Q : V → AL → Prop} {Ea : Value → AL → Prop}
theorem kinds_core {a D : Addr} {b0 b1 b2 b3 b4 b5 b6 b7 : Bool} {n : Nat} (h0 : PySem.W.kitOne K (.ref D) (.ref A.NoHand) = some b0) (h1 : PySem.W.kitOne K (.ref D) (.ref A.NoSlot) = some b1) (h2 : PySem.W.kitOne K (.ref D) (.ref A.NoRoom) = some b2)
    (h3 : PySem.W.kitOne K (.ref D) (.ref A.NothingHeld) = some b3) (h4 : PySem.W.kitOne K (.ref D) (.ref A.NoBox) = some b4) (h5 : PySem.W.kitOne K (.ref D) (.ref A.NoWork) = some b5) (h6 : PySem.W.kitOne K (.ref D) (.ref A.NoHeap) = some b6) (h7 : PySem.W.kitOne K (.ref D) (.ref A.NoDeed) = some b7)
    (hn : ((List.range 8).filter fun i => [b0, b1, b2, b3, b4, b5, b6, b7].getD i false) = [n]) (q : ∀ d, Q (.ref d) (pt d (.lst ([n].map nV)) :: L)) : SS (t_law_kinds K A a D E) { nx := fun _ L => Q .non L, rt := Q } (start N_law_kinds [.ref a]) L := by
  unfold t_law_kinds
  tm_at "gn"
  refine c_isE h0 ?_
  tm_at "gn"
  refine c_isE h1 ?_
  tm_at "gn"
  refine c_isE h2 ?_
  tm_at "gn"
  refine c_isE h3 ?_
  tm_at "gn"
  refine ⟨by show 4 ≤ sizeLine; decide, fun d1 => ?_⟩
  tm_at "gn"
  refine c_isE h4 ?_
  tm_at "gn"
  refine c_isE h5 ?_
  tm_at "gn"
  refine c_isE h6 ?_
  tm_at "gn"
  refine c_isE h7 ?_
  tm_at "gn"
  refine ⟨by show 4 ≤ sizeLine; decide, fun d2 => ?_⟩
  refine r_cat (has_tl has_hd) has_hd (by show 8 ≤ sizeLine; decide) fun d3 => ?_
  tm_at "gn"
  refine e_post ?_
  refine e_lcPlainR 8 (fun i => [b0, b1, b2, b3, b4, b5, b6, b7].getD i false) nV (by omega) (fun _ => rfl) (by tm_at "go"; exact ⟨rfl, rfl⟩) (fun i hi L' en => ?_) (fun i hi _ L' en => e_var rfl ⟨rfl, rfl⟩) fun d4 => ?_
  · refine t_B ?_
    tm_at "go"
    refine r_ixL (v := .bl ([b0, b1, b2, b3, b4, b5, b6, b7].getD i false)) ((Has.sq has_hd).ent en) ?_ ?_
    · match i, hi with
      | 0, _ => rfl
      | 1, _ => rfl
      | 2, _ => rfl
      | 3, _ => rfl
      | 4, _ => rfl
      | 5, _ => rfl
      | 6, _ => rfl
      | 7, _ => rfl
    · exact ⟨_, rfl, rfl, rfl⟩
  · rw [hn]
    exact ⟨_, Ent.cons (Ent.drop.trans (Ent.drop.trans Ent.drop)), q d4⟩
theorem p_law_kinds {a C : Addr} (k_NoBox_NoHand : PySem.W.kitOne K (.ref A.NoBox) (.ref A.NoHand) = some false) (k_NoBox_NoSlot : PySem.W.kitOne K (.ref A.NoBox) (.ref A.NoSlot) = some false) (k_NoBox_NoRoom : PySem.W.kitOne K (.ref A.NoBox) (.ref A.NoRoom) = some false) (k_NoBox_NothingHeld : PySem.W.kitOne K (.ref A.NoBox) (.ref A.NothingHeld) = some false) (k_NoBox_NoBox : PySem.W.kitOne K (.ref A.NoBox) (.ref A.NoBox) = some true) (k_NoBox_NoWork : PySem.W.kitOne K (.ref A.NoBox) (.ref A.NoWork) = some false) (k_NoBox_NoHeap : PySem.W.kitOne K (.ref A.NoBox) (.ref A.NoHeap) = some false) (k_NoBox_NoDeed : PySem.W.kitOne K (.ref A.NoBox) (.ref A.NoDeed) = some false) (k_NoHand_NoHand : PySem.W.kitOne K (.ref A.NoHand) (.ref A.NoHand) = some true) (k_NoHand_NoSlot : PySem.W.kitOne K (.ref A.NoHand) (.ref A.NoSlot) = some false) (k_NoHand_NoRoom : PySem.W.kitOne K (.ref A.NoHand) (.ref A.NoRoom) = some false) (k_NoHand_NothingHeld : PySem.W.kitOne K (.ref A.NoHand) (.ref A.NothingHeld) = some false) (k_NoHand_NoBox : PySem.W.kitOne K (.ref A.NoHand) (.ref A.NoBox) = some false) (k_NoHand_NoWork : PySem.W.kitOne K (.ref A.NoHand) (.ref A.NoWork) = some false) (k_NoHand_NoHeap : PySem.W.kitOne K (.ref A.NoHand) (.ref A.NoHeap) = some false) (k_NoHand_NoDeed : PySem.W.kitOne K (.ref A.NoHand) (.ref A.NoDeed) = some false) (k_NoRoom_NoHand : PySem.W.kitOne K (.ref A.NoRoom) (.ref A.NoHand) = some false) (k_NoRoom_NoSlot : PySem.W.kitOne K (.ref A.NoRoom) (.ref A.NoSlot) = some false) (k_NoRoom_NoRoom : PySem.W.kitOne K (.ref A.NoRoom) (.ref A.NoRoom) = some true) (k_NoRoom_NothingHeld : PySem.W.kitOne K (.ref A.NoRoom) (.ref A.NothingHeld) = some false) (k_NoRoom_NoBox : PySem.W.kitOne K (.ref A.NoRoom) (.ref A.NoBox) = some false) (k_NoRoom_NoWork : PySem.W.kitOne K (.ref A.NoRoom) (.ref A.NoWork) = some false) (k_NoRoom_NoHeap : PySem.W.kitOne K (.ref A.NoRoom) (.ref A.NoHeap) = some false) (k_NoRoom_NoDeed : PySem.W.kitOne K (.ref A.NoRoom) (.ref A.NoDeed) = some false) (k_NoSlot_NoHand : PySem.W.kitOne K (.ref A.NoSlot) (.ref A.NoHand) = some false) (k_NoSlot_NoSlot : PySem.W.kitOne K (.ref A.NoSlot) (.ref A.NoSlot) = some true) (k_NoSlot_NoRoom : PySem.W.kitOne K (.ref A.NoSlot) (.ref A.NoRoom) = some false) (k_NoSlot_NothingHeld : PySem.W.kitOne K (.ref A.NoSlot) (.ref A.NothingHeld) = some false) (k_NoSlot_NoBox : PySem.W.kitOne K (.ref A.NoSlot) (.ref A.NoBox) = some false) (k_NoSlot_NoWork : PySem.W.kitOne K (.ref A.NoSlot) (.ref A.NoWork) = some false) (k_NoSlot_NoHeap : PySem.W.kitOne K (.ref A.NoSlot) (.ref A.NoHeap) = some false) (k_NoSlot_NoDeed : PySem.W.kitOne K (.ref A.NoSlot) (.ref A.NoDeed) = some false) (k_NoWork_NoHand : PySem.W.kitOne K (.ref A.NoWork) (.ref A.NoHand) = some false) (k_NoWork_NoSlot : PySem.W.kitOne K (.ref A.NoWork) (.ref A.NoSlot) = some false) (k_NoWork_NoRoom : PySem.W.kitOne K (.ref A.NoWork) (.ref A.NoRoom) = some false) (k_NoWork_NothingHeld : PySem.W.kitOne K (.ref A.NoWork) (.ref A.NothingHeld) = some false) (k_NoWork_NoBox : PySem.W.kitOne K (.ref A.NoWork) (.ref A.NoBox) = some false) (k_NoWork_NoWork : PySem.W.kitOne K (.ref A.NoWork) (.ref A.NoWork) = some true) (k_NoWork_NoHeap : PySem.W.kitOne K (.ref A.NoWork) (.ref A.NoHeap) = some false) (k_NoWork_NoDeed : PySem.W.kitOne K (.ref A.NoWork) (.ref A.NoDeed) = some false) (k_NothingHeld_NoHand : PySem.W.kitOne K (.ref A.NothingHeld) (.ref A.NoHand) = some false) (k_NothingHeld_NoSlot : PySem.W.kitOne K (.ref A.NothingHeld) (.ref A.NoSlot) = some false) (k_NothingHeld_NoRoom : PySem.W.kitOne K (.ref A.NothingHeld) (.ref A.NoRoom) = some false) (k_NothingHeld_NothingHeld : PySem.W.kitOne K (.ref A.NothingHeld) (.ref A.NothingHeld) = some true) (k_NothingHeld_NoBox : PySem.W.kitOne K (.ref A.NothingHeld) (.ref A.NoBox) = some false) (k_NothingHeld_NoWork : PySem.W.kitOne K (.ref A.NothingHeld) (.ref A.NoWork) = some false) (k_NothingHeld_NoHeap : PySem.W.kitOne K (.ref A.NothingHeld) (.ref A.NoHeap) = some false) (k_NothingHeld_NoDeed : PySem.W.kitOne K (.ref A.NothingHeld) (.ref A.NoDeed) = some false) (he : ELe Ea E) (h : P_law_kinds K A a C vs L Q Ea) : SS (t_law_kinds K A a C E) { nx := fun _ L => Q .non L, rt := Q } (start N_law_kinds vs) L := by
  obtain ⟨_, rfl, r, rfl, rfl, q⟩ := h
  cases r with
  | hand => exact kinds_core (D := A.NoHand) k_NoHand_NoHand k_NoHand_NoSlot k_NoHand_NoRoom k_NoHand_NothingHeld k_NoHand_NoBox k_NoHand_NoWork k_NoHand_NoHeap k_NoHand_NoDeed (by decide) q
  | slot => exact kinds_core (D := A.NoSlot) k_NoSlot_NoHand k_NoSlot_NoSlot k_NoSlot_NoRoom k_NoSlot_NothingHeld k_NoSlot_NoBox k_NoSlot_NoWork k_NoSlot_NoHeap k_NoSlot_NoDeed (by decide) q
  | room => exact kinds_core (D := A.NoRoom) k_NoRoom_NoHand k_NoRoom_NoSlot k_NoRoom_NoRoom k_NoRoom_NothingHeld k_NoRoom_NoBox k_NoRoom_NoWork k_NoRoom_NoHeap k_NoRoom_NoDeed (by decide) q
  | held => exact kinds_core (D := A.NothingHeld) k_NothingHeld_NoHand k_NothingHeld_NoSlot k_NothingHeld_NoRoom k_NothingHeld_NothingHeld k_NothingHeld_NoBox k_NothingHeld_NoWork k_NothingHeld_NoHeap k_NothingHeld_NoDeed (by decide) q
  | box => exact kinds_core (D := A.NoBox) k_NoBox_NoHand k_NoBox_NoSlot k_NoBox_NoRoom k_NoBox_NothingHeld k_NoBox_NoBox k_NoBox_NoWork k_NoBox_NoHeap k_NoBox_NoDeed (by decide) q
  | work => exact kinds_core (D := A.NoWork) k_NoWork_NoHand k_NoWork_NoSlot k_NoWork_NoRoom k_NoWork_NothingHeld k_NoWork_NoBox k_NoWork_NoWork k_NoWork_NoHeap k_NoWork_NoDeed (by decide) q
end
/-! law_k05_refused: deeds of any numbers; what is due; what is told of the heap. -/
inductive Wd5
  | make | take | put | share | drop | held | look | work
  deriving DecidableEq
def Wd5.str : Wd5 → Str
  | .make => "make"
  | .take => "take"
  | .put => "put"
  | .share => "share"
  | .drop => "drop"
  | .held => "held"
  | .look => "look"
  | .work => "work"
/-- what is due: sl: the slots of what the hands hold, n hands, room and boxes that are there -/
def due5 (w : Wd5) (i j k : Int) (sl : List Nat) (n room total : Nat) : Option Ref5 :=
  let hand := fun (i : Int) => 0 ≤ i ∧ i < (n : Int)
  let slot := fun (i : Int) => if (sl.length : Int) ≤ i then some Ref5.held else if 0 ≤ k ∧ k < (sl.getD i.toNat 0 : Int) then none else some Ref5.slot
  match w with
  | .make => if ¬ hand i then some .hand else if ¬ (0 ≤ k ∧ k ≤ 4) then some .slot else if room ≤ total then some .room else none
  | .take => if ¬ (hand i ∧ hand j) then some .hand else slot j
  | .put => if ¬ (hand i ∧ hand j) then some .hand else slot i
  | .share => if ¬ (hand i ∧ hand j) then some .hand else none
  | .drop => if ¬ hand i then some .hand else none
  | .held => if ¬ hand i then some .hand else none
  | .look => if 0 ≤ k ∧ k < (total : Int) then none else some .box
  | .work => if 0 ≤ k ∧ k ≤ 2500 then none else some .work
def dueL : Option Ref5 → List Nat
  | none => []
  | some r => [r.num]
def P_law_due (K : PySem.W.Frag) (_ : Ex) : Pm := pm5 fun x y z u v L Q _ => ∃ (a b : Addr) (w : Wd5) (i j k : Int) (sl : List Nat) (n room total : Nat), x = .ref a ∧ y = .ref b ∧ z = nV n ∧ u = nV room ∧ v = nV total ∧
  SqA K L a [.str w.str, .int i, .int j, .int k] ∧ SqA K L b (sl.map nV) ∧ sl.length ≤ n ∧ ∀ d, Q (.ref d) (pt d (.lst ((dueL (due5 w i j k sl n room total)).map nV)) :: L)
def N_law_due : List Str := ["_law_deed", "_law_slots", "_law_many", "_law_room", "_law_total", "_law_word", "_law_hand"]
def t_law_due (K : PySem.W.Frag) (A : Ex) (E : XK) : TS :=
    (tSeq (tAsg (tOp (rIxL K) (tVar 0) (tC (.int 0))) (gName 5))
    (tSeq (tIfS (tAnd (tTest (tOp (rIn K false) (tVar 5) (tTup (tCons (tC (.str "make")) (tCons (tC (.str "held")) (tCons (tC (.str "drop")) tNil)))))) (tNot (tTest (tChain rLeI rLtI (tC (.int 0)) (tOp (rIxL K) (tVar 0) (tC (.int 1))) (tVar 2))))) (tRet (tLst (tCons (tC (.int 0)) tNil))) tNext)
    (tSeq (tIfS (tAnd (tTest (tOp rEq (tVar 5) (tC (.str "share")))) (tNot (tAnd (tTest (tChain rLeI rLtI (tC (.int 0)) (tOp (rIxL K) (tVar 0) (tC (.int 1))) (tVar 2))) (tTest (tChain rLeI rLtI (tC (.int 0)) (tOp (rIxL K) (tVar 0) (tC (.int 2))) (tVar 2)))))) (tRet (tLst (tCons (tC (.int 0)) tNil))) tNext)
    (tSeq (tIfS (tAnd (tTest (tOp (rIn K false) (tVar 5) (tTup (tCons (tC (.str "take")) (tCons (tC (.str "put")) tNil))))) (tNot (tAnd (tTest (tChain rLeI rLtI (tC (.int 0)) (tOp (rIxL K) (tVar 0) (tC (.int 1))) (tVar 2))) (tTest (tChain rLeI rLtI (tC (.int 0)) (tOp (rIxL K) (tVar 0) (tC (.int 2))) (tVar 2)))))) (tRet (tLst (tCons (tC (.int 0)) tNil))) tNext)
    (tSeq (tIfS (tAnd (tTest (tOp rEq (tVar 5) (tC (.str "make")))) (tNot (tTest (tChain rLeI rLeI (tC (.int 0)) (tOp (rIxL K) (tVar 0) (tC (.int 3))) (tC (.int 4)))))) (tRet (tLst (tCons (tC (.int 1)) tNil))) tNext)
    (tSeq (tIfS (tAnd (tTest (tOp rEq (tVar 5) (tC (.str "make")))) (tTest (tOp rGeI (tVar 4) (tVar 3)))) (tRet (tLst (tCons (tC (.int 2)) tNil))) tNext)
    (tSeq (tIfS (tTest (tOp (rIn K false) (tVar 5) (tTup (tCons (tC (.str "take")) (tCons (tC (.str "put")) tNil))))) (tSeq (tAsg (tOp (rIxL K) (tVar 0) (tC (.int 2))) (gName 6))
    (tSeq (tIfS (tTest (tOp rEq (tVar 5) (tC (.str "put")))) (tAsg (tOp (rIxL K) (tVar 0) (tC (.int 1))) (gName 6)) tNext)
    (tSeq (tIfS (tTest (tOp rGeI (tVar 6) (tCB (rLen K) (tCons (tVar 1) tNil)))) (tRet (tLst (tCons (tC (.int 3)) tNil))) tNext)
    (tIfS (tNot (tTest (tChain rLeI rLtI (tC (.int 0)) (tOp (rIxL K) (tVar 0) (tC (.int 3))) (tOp (rIxL K) (tVar 1) (tVar 6))))) (tRet (tLst (tCons (tC (.int 1)) tNil))) tNext)))) tNext)
    (tSeq (tIfS (tAnd (tTest (tOp rEq (tVar 5) (tC (.str "look")))) (tNot (tTest (tChain rLeI rLtI (tC (.int 0)) (tOp (rIxL K) (tVar 0) (tC (.int 3))) (tVar 4))))) (tRet (tLst (tCons (tC (.int 4)) tNil))) tNext)
    (tSeq (tIfS (tAnd (tTest (tOp rEq (tVar 5) (tC (.str "work")))) (tNot (tTest (tChain rLeI rLeI (tC (.int 0)) (tOp (rIxL K) (tVar 0) (tC (.int 3))) (tC (.int 2500)))))) (tRet (tLst (tCons (tC (.int 5)) tNil))) tNext)
    (tRet (tLst tNil)))))))))))
/-- the state ahead of the deed -/
structure S5 (st : HS) (n room : Nat) (sl : List Nat) (total : Nat) : Prop where
  j : ∃ G, J st G
  hl : st.hands.length = n
  rm : st.room = room
  th : st.there = List.range total
  hd : ∀ k, k < sl.length → ∃ b, st.hands.getD k none = some b ∧ (rowOf st.rows b).length = sl.getD k 0
  hn : ∀ k, sl.length ≤ k → st.hands.getD k none = none
def told5 (st : HS) (T : List Nat) (total : Nat) : List (List (Option Nat)) :=
  [st.hands, st.there.map some, T.map some, (st.seen.drop st.looked).map some, [some st.ended]] ++ (List.range total).map st.rowAt
def P_law_all (K : PySem.W.Frag) (A : Ex) : Pm := pm3 fun x y z L Q _ => ∃ (p : Addr) (ad : HAd) (st : HS) (R : AL) (T : List Nat) (n total : Nat), x = .ref p ∧ y = nV n ∧ z = nV total ∧ L = HeapIs A.Heap p ad st :: R ∧ HW st ∧ T.Perm st.seen ∧ T.Pairwise (· ≤ ·) ∧
  st.hands.length = n ∧ n ≤ 8 ∧ total ≤ 1000 ∧ (∀ b, b < total → b ∈ st.there) ∧ ∀ d as, as.length = (told5 st T total).length → Q (.ref d) (RowsA d as (told5 st T total) :: HeapIs A.Heap p ad st :: R)
def N_law_all : List Str := ["_law_heap", "_law_many", "_law_total", "_law_rows", "_law_k"]
def t_law_all (K : PySem.W.Frag) (A : Ex) (E : XK) : TS :=
    (tSeq (tAsg (tLst (tCons (tLc (iRng1 (tCons (tVar 1) tNil)) (gName 4) tYes (tMeth A.Heap "held" (lift (P_held K A)) [] E0 (tVar 0) (tCons (tVar 4) tNil)) [4]) (tCons (tMeth A.Heap "boxes" (lift (P_boxes K A)) [] E0 (tVar 0) tNil) (tCons (tMeth A.Heap "marked" (lift (P_marked K A)) [] E0 (tVar 0) tNil) (tCons (tMeth A.Heap "waiting" (lift (P_waiting K A)) [] E0 (tVar 0) tNil) (tCons (tLst (tCons (tMeth A.Heap "rounds" (lift (P_rounds K A)) [] E0 (tVar 0) tNil) tNil)) tNil)))))) (gName 3))
    (tRet (tOp rCat (tVar 3) (tLc (iRng1 (tCons (tVar 2) tNil)) (gName 4) tYes (tMeth A.Heap "look" (lift (P_look K A)) [] E0 (tVar 0) (tCons (tVar 4) tNil)) [4]))))
def P_law_askedR (K : PySem.W.Frag) (A : Ex) : Pm := pm2 fun x y L Q E => ∃ (p a : Addr) (ad : HAd) (st : HS) (R : AL) (w : Wd5) (i j k : Int) (sl : List Nat) (n room total : Nat), x = .ref p ∧ y = .ref a ∧ L = HeapIs A.Heap p ad st :: R ∧ S5 st n room sl total ∧ sl.length ≤ n ∧
  SqA K R a [.str w.str, .int i, .int j, .int k] ∧ (∀ r, due5 w i j k sl n room total = some r → E (.ref (r.cls A)) L) ∧ (due5 w i j k sl n room total = none → ∀ ad' st', Q .non (HeapIs A.Heap p ad' st' :: R))
def N_law_askedR : List Str := ["_law_heap", "_law_deed", "_law_word"]
def t_law_askedR (K : PySem.W.Frag) (A : Ex) (E : XK) : TS :=
    (tSeq (tAsg (tOp (rIxL K) (tVar 1) (tC (.int 0))) (gName 2))
    (tIfS (tTest (tOp rEq (tVar 2) (tC (.str "make")))) (tDrop (tMeth A.Heap "make" (lift (P_make K A)) [] E (tVar 0) (tCons (tOp (rIxL K) (tVar 1) (tC (.int 1))) (tCons (tOp (rIxL K) (tVar 1) (tC (.int 3))) tNil)))) (tIfS (tTest (tOp rEq (tVar 2) (tC (.str "take")))) (tDrop (tMeth A.Heap "take" (lift (P_take K A)) [] E (tVar 0) (tCons (tOp (rIxL K) (tVar 1) (tC (.int 1))) (tCons (tOp (rIxL K) (tVar 1) (tC (.int 2))) (tCons (tOp (rIxL K) (tVar 1) (tC (.int 3))) tNil))))) (tIfS (tTest (tOp rEq (tVar 2) (tC (.str "put")))) (tDrop (tMeth A.Heap "put" (lift (P_put K A)) [] E (tVar 0) (tCons (tOp (rIxL K) (tVar 1) (tC (.int 1))) (tCons (tOp (rIxL K) (tVar 1) (tC (.int 3))) (tCons (tOp (rIxL K) (tVar 1) (tC (.int 2))) tNil))))) (tIfS (tTest (tOp rEq (tVar 2) (tC (.str "share")))) (tDrop (tMeth A.Heap "share" (lift (P_share K A)) [] E (tVar 0) (tCons (tOp (rIxL K) (tVar 1) (tC (.int 1))) (tCons (tOp (rIxL K) (tVar 1) (tC (.int 2))) tNil)))) (tIfS (tTest (tOp rEq (tVar 2) (tC (.str "drop")))) (tDrop (tMeth A.Heap "drop" (lift (P_drop K A)) [] E (tVar 0) (tCons (tOp (rIxL K) (tVar 1) (tC (.int 1))) tNil))) (tIfS (tTest (tOp rEq (tVar 2) (tC (.str "held")))) (tDrop (tMeth A.Heap "held" (lift (P_held K A)) [] E (tVar 0) (tCons (tOp (rIxL K) (tVar 1) (tC (.int 1))) tNil))) (tIfS (tTest (tOp rEq (tVar 2) (tC (.str "look")))) (tDrop (tMeth A.Heap "look" (lift (P_look K A)) [] E (tVar 0) (tCons (tOp (rIxL K) (tVar 1) (tC (.int 3))) tNil))) (tDrop (tMeth A.Heap "work" (lift (P_work K A)) [] E (tVar 0) (tCons (tOp (rIxL K) (tVar 1) (tC (.int 3))) tNil)))))))))))
/-! law_k05_refused: what is due, walked. -/
/-- a test that leaves what is told as it is -/
def Tv (c : TT) (σ : L2.St) (L0 : AL) (b : Bool) : Prop := ∀ L, Ent L L0 → ∀ QB : Bool → AL → Prop, (∀ L1, Ent L1 L0 → QB b L1) → ST c σ L QB
section
variable {K : PySem.W.Frag} {σ : L2.St} {L0 : AL} {b1 b2 : Bool} {c1 c2 : TT} {D : EA} {t e : TS}
theorem tv_and (h1 : Tv c1 σ L0 b1) (h2 : Tv c2 σ L0 b2) : Tv (tAnd c1 c2) σ L0 (b1 && b2) := fun L en QB k => t_and (h1 L en _ fun L1 e1 => ⟨fun hb => h2 L1 e1 _ fun L2 e2 => by
  have := k L2 e2
  rwa [hb, Bool.true_and] at this, fun hb => by
  have := k L1 e1
  rwa [hb, Bool.false_and] at this⟩)
theorem tv_not (h1 : Tv c1 σ L0 b1) : Tv (tNot c1) σ L0 (!b1) := fun L en QB k => t_not (h1 L en _ fun L1 e1 => k L1 e1)
theorem tv_if (h : Tv c1 σ L0 b1) (ht : b1 = true → ∀ L, Ent L L0 → SS t D σ L) (hf : b1 = false → ∀ L, Ent L L0 → SS e D σ L) : ∀ L, Ent L L0 → SS (tIfS c1 t e) D σ L := fun L en =>
  s_if (h L en _ fun L1 e1 => ⟨fun hb => ht hb L1 e1, fun hb => hf hb L1 e1⟩)
theorem tv_eq {i : Nat} {z z' : Str} (h : σ[i]? = some (some (.str z))) : Tv (tTest (tOp rEq (tVar i) (tC (.str z')))) σ L0 (decide (z = z')) := fun L en QB k => by
  refine t_test (e_op (e_var h (e_c (r_eq rfl ⟨_, rfl, ?_⟩))))
  have e : decide (V.str z = V.str z') = decide (z = z') := decide_eq_decide.mpr ⟨V.str.inj, congrArg V.str⟩
  rw [e]; exact k L en
theorem tv_in {i : Nat} {z : Str} {xs : List V} {tr : TA} (h : σ[i]? = some (some (.str z))) (hx : xs.all flatV = true) (ha : ∀ L, SA tr σ L fun us L1 => us = xs ∧ L1 = L) (hz : xs.length ≤ sizeLine) : Tv (tTest (tOp (rIn K false) (tVar i) (tTup tr))) σ L0 (inV (.str z) xs) := fun L en QB k =>
  t_test (e_op (e_var h (e_tup fun H s Qh kk => ha L H s Qh fun us L1 H1 s1 ⟨e1, e2⟩ => kk us L1 H1 s1 (by
    subst e1 e2
    exact ⟨hz, fun p => r_inT (xs := us) (Has.tq has_hd) rfl hx ⟨_, rfl, k _ (Ent.drop.trans en)⟩⟩))))
theorem tv_lt {a : Addr} {xs : List V} {m v : Nat} {i n : Int} (h0 : σ[0]? = some (some (.ref a))) (hq : SqA K L0 a xs) (hi : atI xs (m : Int) = some (.int i)) (hv : σ[v]? = some (some (.int n))) : Tv (tTest (tChain rLeI rLtI (tC (.int 0)) (tOp (rIxL K) (tVar 0) (tC (.int (m : Int)))) (tVar v))) σ L0 (decide (0 ≤ i ∧ i < n)) := fun L en QB k =>
  t_test (ch_le_lt (fun _ q => e_c q) (fun _ q => e_op (e_var h0 (e_c (r_ixL (hq.ent en) hi q)))) (fun _ q => e_var hv q) ⟨_, rfl, k L en⟩)
theorem tv_le {a : Addr} {xs : List V} {m : Nat} {i n : Int} (h0 : σ[0]? = some (some (.ref a))) (hq : SqA K L0 a xs) (hi : atI xs (m : Int) = some (.int i)) : Tv (tTest (tChain rLeI rLeI (tC (.int 0)) (tOp (rIxL K) (tVar 0) (tC (.int (m : Int)))) (tC (.int n)))) σ L0 (decide (0 ≤ i ∧ i ≤ n)) := fun L en QB k =>
  t_test (ch_le_le (fun _ q => e_c q) (fun _ q => e_op (e_var h0 (e_c (r_ixL (hq.ent en) hi q)))) (fun _ q => e_c q) ⟨_, rfl, k L en⟩)
theorem tv_ge {u v : Nat} {i n : Int} (h0 : σ[u]? = some (some (.int i))) (hv : σ[v]? = some (some (.int n))) : Tv (tTest (tOp rGeI (tVar u) (tVar v))) σ L0 (decide (n ≤ i)) := fun L en QB k =>
  t_test (e_op (e_var h0 (e_var hv (r_I0 ⟨_, rfl, k L en⟩))))
theorem tv_geLen {u v : Nat} {i : Int} {b : Addr} {xs : List V} (h0 : σ[u]? = some (some (.int i))) (hv : σ[v]? = some (some (.ref b))) (hq : SqA K L0 b xs) : Tv (tTest (tOp rGeI (tVar u) (tCB (rLen K) (tCons (tVar v) tNil)))) σ L0 (decide ((xs.length : Int) ≤ i)) := fun L en QB k =>
  t_test (e_op (e_var h0 (e_cb (a_cons (e_var hv (a_nil (c_len (hq.ent en) (r_I0 ⟨_, rfl, k L en⟩))))))))
theorem tv_ltS {a b : Addr} {xs ys : List V} {m u v : Nat} {i n h : Int} (h0 : σ[0]? = some (some (.ref a))) (hq : SqA K L0 a xs) (hi : atI xs (m : Int) = some (.int i)) (hv : σ[v]? = some (some (.ref b))) (hq2 : SqA K L0 b ys) (hu : σ[u]? = some (some (.int h))) (hn : atI ys h = some (.int n)) :
    Tv (tTest (tChain rLeI rLtI (tC (.int 0)) (tOp (rIxL K) (tVar 0) (tC (.int (m : Int)))) (tOp (rIxL K) (tVar v) (tVar u)))) σ L0 (decide (0 ≤ i ∧ i < n)) := fun L en QB k =>
  t_test (ch_le_lt (fun _ q => e_c q) (fun _ q => e_op (e_var h0 (e_c (r_ixL (hq.ent en) hi q)))) (fun _ q => e_op (e_var hv (e_var hu (r_ixL (hq2.ent en) hn q)))) ⟨_, rfl, k L en⟩)
theorem ret5 {r : Nat} (q : ∀ d, D.rt (.ref d) (pt d (.lst [nV r]) :: L0)) : ∀ L, Ent L L0 → SS (tRet (tLst (tCons (tC (nV r)) tNil))) D σ L := fun L en =>
  s_postR (e_lst (a_cons (e_c (a_nil ⟨by show 1 ≤ sizeLine; decide, fun d => ⟨_, Ent.cons en, q d⟩⟩))))
theorem ret5n (q : ∀ d, D.rt (.ref d) (pt d (.lst []) :: L0)) : ∀ L, Ent L L0 → SS (tRet (tLst tNil)) D σ L := fun L en =>
  s_postR (e_lst (a_nil ⟨by show 0 ≤ sizeLine; decide, fun d => ⟨_, Ent.cons en, q d⟩⟩))
end
theorem wd_eq (w u : Wd5) : decide (w.str = u.str) = decide (w = u) := by cases w <;> cases u <;> decide
theorem wd_in3 (w : Wd5) : inV (.str w.str) [.str "make", .str "held", .str "drop"] = decide (w = .make ∨ w = .held ∨ w = .drop) := by cases w <;> decide
theorem wd_in2 (w : Wd5) : inV (.str w.str) [.str "take", .str "put"] = decide (w = .take ∨ w = .put) := by cases w <;> decide
section
variable {K : PySem.W.Frag} {A : Ex} {E : XK} {vs : List V} {L R : AL} {Q : V → AL → Prop} {Ea : Value → AL → Prop}
theorem tv_wd {σ : L2.St} {L0 : AL} {w : Wd5} (u : Wd5) (h : σ[5]? = some (some (.str w.str))) : Tv (tTest (tOp rEq (tVar 5) (tC (.str u.str)))) σ L0 (decide (w = u)) := by
  rw [← wd_eq]; exact tv_eq h
theorem tv_3 {σ : L2.St} {L0 : AL} {w : Wd5} (h : σ[5]? = some (some (.str w.str))) : Tv (tTest (tOp (rIn K false) (tVar 5) (tTup (tCons (tC (.str "make")) (tCons (tC (.str "held")) (tCons (tC (.str "drop")) tNil)))))) σ L0 (decide (w = .make ∨ w = .held ∨ w = .drop)) := by
  rw [← wd_in3]; exact tv_in h rfl (fun L => a_cons (e_c (a_cons (e_c (a_cons (e_c (a_nil ⟨rfl, rfl⟩))))))) (by show 3 ≤ sizeLine; decide)
theorem tv_2 {σ : L2.St} {L0 : AL} {w : Wd5} (h : σ[5]? = some (some (.str w.str))) : Tv (tTest (tOp (rIn K false) (tVar 5) (tTup (tCons (tC (.str "take")) (tCons (tC (.str "put")) tNil))))) σ L0 (decide (w = .take ∨ w = .put)) := by
  rw [← wd_in2]; exact tv_in h rfl (fun L => a_cons (e_c (a_cons (e_c (a_nil ⟨rfl, rfl⟩))))) (by show 2 ≤ sizeLine; decide)
theorem tv_seq {σ : L2.St} {L0 : AL} {b : Bool} {c : TT} {D : EA} {t rest : TS} (h : Tv c σ L0 b) (ht : b = true → ∀ L, Ent L L0 → SS t { D with nx := fun σ L => SS rest D σ L } σ L) (hr : b = false → ∀ L, Ent L L0 → SS rest D σ L) : ∀ L, Ent L L0 → SS (tSeq (tIfS c t tNext) rest) D σ L := fun L en =>
  s_seq (tv_if h ht (fun hb L1 e1 => s_next (hr hb L1 e1)) L en)
theorem an_t {P R : Prop} [Decidable P] [Decidable R] (h : (decide P && !decide R) = true) : P ∧ ¬ R := by simpa using h
theorem an_f {P R : Prop} [Decidable P] [Decidable R] (h : (decide P && !decide R) = false) : P → R := by simpa using h
theorem an2_t {P R S : Prop} [Decidable P] [Decidable R] [Decidable S] (h : (decide P && !(decide R && decide S)) = true) : P ∧ ¬ (R ∧ S) := by
  simp at h
  exact ⟨h.1, fun ⟨r, s⟩ => h.2.elim (fun z => z r) (fun z => z s)⟩
theorem an2_f {P R S : Prop} [Decidable P] [Decidable R] [Decidable S] (h : (decide P && !(decide R && decide S)) = false) : P → R ∧ S := by simpa using h
theorem ap_t {P R : Prop} [Decidable P] [Decidable R] (h : (decide P && decide R) = true) : P ∧ R := by simpa using h
theorem ap_f {P R : Prop} [Decidable P] [Decidable R] (h : (decide P && decide R) = false) : P → ¬ R := by simpa using h
theorem nt_t {P : Prop} [Decidable P] (h : (!decide P) = true) : ¬ P := by simpa using h
theorem nt_f {P : Prop} [Decidable P] (h : (!decide P) = false) : P := by simpa using h
theorem slot_core {σ : L2.St} {a b : Addr} {w : Wd5} {i j k hd : Int} {sl : List Nat} {D : EA} (ha : SqA K L a [.str w.str, .int i, .int j, .int k]) (hb : SqA K L b (sl.map nV)) (h0 : σ[0]? = some (some (.ref a))) (h1 : σ[1]? = some (some (.ref b))) (h6 : σ[6]? = some (some (.int hd))) (hp : 0 ≤ hd)
    (q3 : (sl.length : Int) ≤ hd → ∀ d, D.rt (.ref d) (pt d (.lst [nV 3]) :: L)) (q1 : ¬ (sl.length : Int) ≤ hd → ¬ (0 ≤ k ∧ k < (sl.getD hd.toNat 0 : Int)) → ∀ d, D.rt (.ref d) (pt d (.lst [nV 1]) :: L))
    (qx : ¬ (sl.length : Int) ≤ hd → (0 ≤ k ∧ k < (sl.getD hd.toNat 0 : Int)) → ∀ L1, Ent L1 L → D.nx σ L1) : ∀ L1, Ent L1 L → SS (tSeq (tIfS (tTest (tOp rGeI (tVar 6) (tCB (rLen K) (tCons (tVar 1) tNil)))) (tRet (tLst (tCons (tC (.int 3)) tNil))) tNext)
    (tIfS (tNot (tTest (tChain rLeI rLtI (tC (.int 0)) (tOp (rIxL K) (tVar 0) (tC (.int 3))) (tOp (rIxL K) (tVar 1) (tVar 6))))) (tRet (tLst (tCons (tC (.int 1)) tNil))) tNext)) D σ L1 := by
  refine tv_seq (tv_geLen h6 h1 hb) (fun c => ret5 (r := 3) (q3 (by have := of_decide_eq_true c; rwa [List.length_map] at this))) fun c => ?_
  have c := of_decide_eq_false c
  rw [List.length_map] at c
  have hl : hd.toNat < sl.length := by omega
  refine tv_if (tv_not (tv_ltS (m := 3) (n := (sl.getD hd.toNat 0 : Int)) h0 ha rfl h1 hb h6 (atI_toNat hp ?_))) (fun c2 => ret5 (r := 1) (q1 c (nt_t c2))) fun c2 L1 e1 => s_next (qx c (nt_f c2) L1 e1)
  rw [List.getElem?_map, List.getElem?_eq_getElem hl, List.getD_eq_getElem?_getD, List.getElem?_eq_getElem hl]; rfl
theorem p_law_due (he : ELe Ea E) (h : P_law_due K A vs L Q Ea) : SS (t_law_due K A E) { nx := fun _ L => Q .non L, rt := Q } (start N_law_due vs) L := by
  obtain ⟨_, _, _, _, _, rfl, a, b, w, i, j, k, sl, n, room, total, rfl, rfl, rfl, rfl, rfl, ha, hb, hsl, q⟩ := h
  have q0 : ∀ (r : Ref5), due5 w i j k sl n room total = some r → ∀ d, Q (.ref d) (pt d (.lst [nV r.num]) :: L) := fun r e d => by
    have := q d
    rwa [e] at this
  have qn : due5 w i j k sl n room total = none → ∀ d, Q (.ref d) (pt d (.lst []) :: L) := fun e d => by
    have := q d
    rwa [e] at this
  clear q
  unfold t_law_due
  refine s_seq (s_asg ?_)
  tm_at "go"
  refine r_ixL (v := .str w.str) ha rfl ?_
  refine tv_seq (tv_and (tv_3 rfl) (tv_not (tv_lt (m := 1) rfl ha rfl rfl))) (fun c => ret5 (r := 0) (q0 .hand ?_)) (fun c1 => ?_) L (Ent.refl L)
  · obtain ⟨c1, c2⟩ := an_t c
    rcases c1 with rfl | rfl | rfl <;> simp only [due5] <;> rw [if_pos c2]
  replace c1 := an_f c1
  refine tv_seq (tv_and (tv_wd .share rfl) (tv_not (tv_and (tv_lt (m := 1) rfl ha rfl rfl) (tv_lt (m := 2) rfl ha rfl rfl)))) (fun c => ret5 (r := 0) (q0 .hand ?_)) (fun c2 => ?_)
  · obtain ⟨rfl, c2⟩ := an2_t c
    simp only [due5]; rw [if_pos c2]
  replace c2 := an2_f c2
  refine tv_seq (tv_and (tv_2 rfl) (tv_not (tv_and (tv_lt (m := 1) rfl ha rfl rfl) (tv_lt (m := 2) rfl ha rfl rfl)))) (fun c => ret5 (r := 0) (q0 .hand ?_)) (fun c3 => ?_)
  · obtain ⟨d1, d2⟩ := an2_t c
    rcases d1 with rfl | rfl <;> simp only [due5] <;> rw [if_pos d2]
  replace c3 := an2_f c3
  refine tv_seq (tv_and (tv_wd .make rfl) (tv_not (tv_le (m := 3) rfl ha rfl))) (fun c => ret5 (r := 1) (q0 .slot ?_)) (fun c4 => ?_)
  · obtain ⟨rfl, d2⟩ := an_t c
    simp only [due5]; rw [if_neg (fun z => z (c1 (.inl rfl))), if_pos d2]
  replace c4 := an_f c4
  refine tv_seq (tv_and (tv_wd .make rfl) (tv_ge (i := (total : Int)) (n := (room : Int)) rfl rfl)) (fun c => ret5 (r := 2) (q0 .room ?_)) (fun c5 => ?_)
  · obtain ⟨rfl, d2⟩ := ap_t c
    simp only [due5]; rw [if_neg (fun z => z (c1 (.inl rfl))), if_neg (fun z => z (c4 rfl)), if_pos (by omega)]
  replace c5 := ap_f c5
  have last : ∀ (v6 : Option V) (fs : (w = .take ∨ w = .put) → due5 w i j k sl n room total = none), ∀ L1, Ent L1 L → SS (tSeq (tIfS (tAnd (tTest (tOp rEq (tVar 5) (tC (.str "look")))) (tNot (tTest (tChain rLeI rLtI (tC (.int 0)) (tOp (rIxL K) (tVar 0) (tC (.int 3))) (tVar 4))))) (tRet (tLst (tCons (tC (.int 4)) tNil))) tNext)
    (tSeq (tIfS (tAnd (tTest (tOp rEq (tVar 5) (tC (.str "work")))) (tNot (tTest (tChain rLeI rLeI (tC (.int 0)) (tOp (rIxL K) (tVar 0) (tC (.int 3))) (tC (.int 2500)))))) (tRet (tLst (tCons (tC (.int 5)) tNil))) tNext)
    (tRet (tLst tNil)))) { nx := fun _ L => Q .non L, rt := Q } [some (.ref a), some (.ref b), some (nV n), some (nV room), some (nV total), some (.str w.str), v6] L1 := fun v6 fs => by
    refine tv_seq (tv_and (tv_wd .look rfl) (tv_not (tv_lt (m := 3) rfl ha rfl rfl))) (fun c => ret5 (r := 4) (q0 .box ?_)) (fun c6 => ?_)
    · obtain ⟨rfl, d2⟩ := an_t c
      simp only [due5]; rw [if_neg d2]
    replace c6 := an_f c6
    refine tv_seq (tv_and (tv_wd .work rfl) (tv_not (tv_le (m := 3) rfl ha rfl))) (fun c => ret5 (r := 5) (q0 .work ?_)) (fun c7 => ?_)
    · obtain ⟨rfl, d2⟩ := an_t c
      simp only [due5]; rw [if_neg d2]
    replace c7 := an_f c7
    refine ret5n (qn ?_)
    cases w with
    | make => simp only [due5]; rw [if_neg (fun z => z (c1 (.inl rfl))), if_neg (fun z => z (c4 rfl)), if_neg (by have := c5 rfl; omega)]
    | take => exact fs (.inl rfl)
    | put => exact fs (.inr rfl)
    | share => simp only [due5]; rw [if_neg (fun z => z (c2 rfl))]
    | drop => simp only [due5]; rw [if_neg (fun z => z (c1 (.inr (.inr rfl))))]
    | held => simp only [due5]; rw [if_neg (fun z => z (c1 (.inr (.inl rfl))))]
    | look => simp only [due5]; rw [if_pos (c6 rfl)]
    | work => simp only [due5]; rw [if_pos (c7 rfl)]
  refine tv_seq (tv_2 rfl) (fun c => ?_) (fun c L1 e1 => last none (fun z => absurd z (of_decide_eq_false c)) L1 e1)
  have c := of_decide_eq_true c
  intro L1 e1
  rcases c with rfl | rfl
  · obtain ⟨ci, cj⟩ := c3 (.inl rfl)
    refine s_seq (s_asg ?_)
    tm_at "go"
    refine r_ixL (v := .int j) (ha.ent e1) rfl ?_
    refine s_seq (s_if (t_test ?_))
    tm_at "go"
    refine ex_c (fun c => absurd c (by decide)) fun _ => s_next ?_
    refine slot_core (hd := j) ha hb rfl rfl rfl cj.1 (fun c => q0 .held ?_) (fun c c' => q0 .slot ?_) (fun c c' => last _ fun _ => ?_) L1 e1
    · simp only [due5]; rw [if_neg (fun z => z ⟨ci, cj⟩), if_pos c]
    · simp only [due5]; rw [if_neg (fun z => z ⟨ci, cj⟩), if_neg c, if_neg c']
    · simp only [due5]; rw [if_neg (fun z => z ⟨ci, cj⟩), if_neg c, if_pos c']
  · obtain ⟨ci, cj⟩ := c3 (.inr rfl)
    refine s_seq (s_asg ?_)
    tm_at "go"
    refine r_ixL (v := .int j) (ha.ent e1) rfl ?_
    refine s_seq (s_if (t_test ?_))
    tm_at "go"
    refine ex_c (fun _ => ?_) fun c => absurd rfl c
    refine s_asg ?_
    tm_at "go"
    refine r_ixL (v := .int i) (ha.ent e1) rfl ?_
    refine slot_core (hd := i) ha hb rfl rfl rfl ci.1 (fun c => q0 .held ?_) (fun c c' => q0 .slot ?_) (fun c c' => last _ fun _ => ?_) L1 e1
    · simp only [due5]; rw [if_neg (fun z => z ⟨ci, cj⟩), if_pos c]
    · simp only [due5]; rw [if_neg (fun z => z ⟨ci, cj⟩), if_neg c, if_neg c']
    · simp only [due5]; rw [if_neg (fun z => z ⟨ci, cj⟩), if_neg c, if_pos c']
end
/-! law_k05_refused: what is asked of the heap, walked. -/
local macro_rules | `(tactic| tm_at "no5") => `(tactic| (refine s_if (t_test ?_); tm_at "go"; refine ex_c (fun c => absurd c (by decide)) fun _ => ?_))
local macro_rules | `(tactic| tm_at "yes5") => `(tactic| (refine s_if (t_test ?_); tm_at "go"; refine ex_c (fun _ => ?_) fun c => absurd rfl c; refine s_drop ?_; tm_at "go"))
theorem S5.hb {st : HS} {n room total : Nat} {sl : List Nat} (I : S5 st n room sl total) : ∀ b, some b ∈ st.hands → b ∈ st.there := by
  obtain ⟨G, j⟩ := I.j
  exact j.hb
theorem S5.w {st : HS} {n room total : Nat} {sl : List Nat} (I : S5 st n room sl total) : HW st := by
  obtain ⟨G, j⟩ := I.j
  exact j.w
theorem S5.at_mem {st : HS} {n room total : Nat} {sl : List Nat} (I : S5 st n room sl total) {j : Int} (b : Nat) (e : st.at_ j = some b) : b ∈ st.there := by
  unfold HS.at_ at e
  by_cases c : j.toNat < st.hands.length
  · exact I.hb b (e ▸ getD_mem c)
  · rw [List.getD_eq_getElem?_getD, List.getElem?_eq_none (by omega)] at e; cases e
theorem S5.no {st : HS} {n room total : Nat} {sl : List Nat} (I : S5 st n room sl total) {j : Int} (h0 : 0 ≤ j) (e : st.at_ j = none) : (sl.length : Int) ≤ j := by
  unfold HS.at_ at e
  by_cases c : (sl.length : Int) ≤ j
  · exact c
  · obtain ⟨b, e2, _⟩ := I.hd j.toNat (by omega)
    rw [e] at e2; cases e2
theorem S5.yes {st : HS} {n room total : Nat} {sl : List Nat} (I : S5 st n room sl total) {j : Int} {b : Nat} (h0 : 0 ≤ j) (e : st.at_ j = some b) : ¬ (sl.length : Int) ≤ j ∧ (st.rowAt b).length = sl.getD j.toNat 0 := by
  unfold HS.at_ at e
  have c : ¬ (sl.length : Int) ≤ j := fun c => by
    have := I.hn j.toNat (by omega)
    rw [e] at this; cases this
  refine ⟨c, ?_⟩
  obtain ⟨b2, e2, e3⟩ := I.hd j.toNat (by omega)
  rw [e] at e2
  cases e2
  exact e3
section
variable {K : PySem.W.Frag} {A : Ex} {E : XK} {vs : List V} {L R : AL} {Q : V → AL → Prop} {Ea : Value → AL → Prop}
theorem p_law_askedR (T : HT K A) (he : ELe Ea E) (h : P_law_askedR K A vs L Q Ea) : SS (t_law_askedR K A E) { nx := fun _ L => Q .non L, rt := Q } (start N_law_askedR vs) L := by
  obtain ⟨_, _, rfl, p, a, ad, st, R, w, i, j, k, sl, n, room, total, rfl, rfl, rfl, I, hsl, ha, hE, q⟩ := h
  have hl := I.hl
  have rm := I.rm
  subst hl rm
  have ht : st.there.length = total := by rw [I.th, List.length_range]
  have hw := I.w
  unfold t_law_askedR
  refine s_seq (s_asg ?_)
  tm_at "go"
  refine r_ixL (v := .str w.str) (sq_tl ha) rfl ?_
  cases w with
  | make =>
    tm_at "yes5"
    refine r_ixL (v := .int i) (sq_tl ha) (atI_nat (j := 1) rfl) ?_
    tm_at "go"
    refine r_ixL (v := .int k) (sq_tl ha) (atI_nat (j := 3) rfl) ?_
    tm_at "go"
    refine ⟨_, Ent.refl _, _, _, _, rfl, p, ad, st, R, i, k, rfl, rfl, rfl, rfl, hw, fun n => hE .hand ?_, fun h n => hE .slot ?_, fun h h2 n => hE .room ?_, fun h h2 n ad' => q ?_ _ _⟩
    · unfold isHand at n; simp only [due5]; rw [if_pos n]
    · unfold isHand at h; simp only [due5]; rw [if_neg (fun z => z h), if_pos n]
    · unfold isHand at h; simp only [due5]; rw [if_neg (fun z => z h), if_neg (fun z => z h2), if_pos (by omega)]
    · unfold isHand at h; simp only [due5]; rw [if_neg (fun z => z h), if_neg (fun z => z h2), if_neg (by omega)]
  | take =>
    tm_at "no5"
    tm_at "yes5"
    refine r_ixL (v := .int i) (sq_tl ha) (atI_nat (j := 1) rfl) ?_
    tm_at "go"
    refine r_ixL (v := .int j) (sq_tl ha) (atI_nat (j := 2) rfl) ?_
    tm_at "go"
    refine r_ixL (v := .int k) (sq_tl ha) (atI_nat (j := 3) rfl) ?_
    tm_at "go"
    refine ⟨_, Ent.refl _, _, _, _, _, rfl, p, ad, st, R, i, j, k, rfl, rfl, rfl, rfl, rfl, hw, fun b e => I.at_mem b e, fun n => hE .hand ?_, fun h h2 n => hE .held ?_, fun b h h2 e n => hE .slot ?_, fun b h h2 e n => q ?_ _ _⟩
    · unfold isHand at n; simp only [due5]; rw [if_pos n]
    · have c := I.no h2.1 n
      unfold isHand at h h2; simp only [due5]; rw [if_neg (fun z => z ⟨h, h2⟩), if_pos c]
    · obtain ⟨c, c2⟩ := I.yes h2.1 e
      unfold isHand at h h2; unfold isSlot at n; rw [c2] at n; simp only [due5]; rw [if_neg (fun z => z ⟨h, h2⟩), if_neg c, if_neg n]
    · obtain ⟨c, c2⟩ := I.yes h2.1 e
      unfold isHand at h h2; unfold isSlot at n; rw [c2] at n; simp only [due5]; rw [if_neg (fun z => z ⟨h, h2⟩), if_neg c, if_pos n]
  | put =>
    tm_at "no5"
    tm_at "no5"
    tm_at "yes5"
    refine r_ixL (v := .int i) (sq_tl ha) (atI_nat (j := 1) rfl) ?_
    tm_at "go"
    refine r_ixL (v := .int k) (sq_tl ha) (atI_nat (j := 3) rfl) ?_
    tm_at "go"
    refine r_ixL (v := .int j) (sq_tl ha) (atI_nat (j := 2) rfl) ?_
    tm_at "go"
    refine ⟨_, Ent.refl _, _, _, _, _, rfl, p, ad, st, R, i, k, j, rfl, rfl, rfl, rfl, rfl, hw, fun b e => I.at_mem b e, fun n => hE .hand ?_, fun h h2 n => hE .held ?_, fun b h h2 e n => hE .slot ?_, fun b h h2 e n => q ?_ _ _⟩
    · unfold isHand at n; simp only [due5]; rw [if_pos n]
    · have c := I.no h.1 n
      unfold isHand at h h2; simp only [due5]; rw [if_neg (fun z => z ⟨h, h2⟩), if_pos c]
    · obtain ⟨c, c2⟩ := I.yes h.1 e
      unfold isHand at h h2; unfold isSlot at n; rw [c2] at n; simp only [due5]; rw [if_neg (fun z => z ⟨h, h2⟩), if_neg c, if_neg n]
    · obtain ⟨c, c2⟩ := I.yes h.1 e
      unfold isHand at h h2; unfold isSlot at n; rw [c2] at n; simp only [due5]; rw [if_neg (fun z => z ⟨h, h2⟩), if_neg c, if_pos n]
  | share =>
    tm_at "no5"
    tm_at "no5"
    tm_at "no5"
    tm_at "yes5"
    refine r_ixL (v := .int i) (sq_tl ha) (atI_nat (j := 1) rfl) ?_
    tm_at "go"
    refine r_ixL (v := .int j) (sq_tl ha) (atI_nat (j := 2) rfl) ?_
    tm_at "go"
    refine ⟨_, Ent.refl _, _, _, _, rfl, p, ad, st, R, i, j, rfl, rfl, rfl, rfl, fun n => hE .hand ?_, fun h h2 => q ?_ _ _⟩
    · unfold isHand at n; simp only [due5]; rw [if_pos n]
    · unfold isHand at h h2; simp only [due5]; rw [if_neg (fun z => z ⟨h, h2⟩)]
  | drop =>
    tm_at "no5"
    tm_at "no5"
    tm_at "no5"
    tm_at "no5"
    tm_at "yes5"
    refine r_ixL (v := .int i) (sq_tl ha) (atI_nat (j := 1) rfl) ?_
    tm_at "go"
    refine ⟨_, Ent.refl _, _, _, rfl, p, ad, st, R, i, rfl, rfl, rfl, fun n => hE .hand ?_, fun h => q ?_ _ _⟩
    · unfold isHand at n; simp only [due5]; rw [if_pos n]
    · unfold isHand at h; simp only [due5]; rw [if_neg (fun z => z h)]
  | held =>
    tm_at "no5"
    tm_at "no5"
    tm_at "no5"
    tm_at "no5"
    tm_at "no5"
    tm_at "yes5"
    refine r_ixL (v := .int i) (sq_tl ha) (atI_nat (j := 1) rfl) ?_
    tm_at "go"
    refine ⟨_, Ent.refl _, _, _, rfl, p, ad, st, R, i, rfl, rfl, rfl, fun n => hE .hand ?_, fun h => q ?_ _ _⟩
    · unfold isHand at n; simp only [due5]; rw [if_pos n]
    · unfold isHand at h; simp only [due5]; rw [if_neg (fun z => z h)]
  | look =>
    tm_at "no5"
    tm_at "no5"
    tm_at "no5"
    tm_at "no5"
    tm_at "no5"
    tm_at "no5"
    refine s_if (t_test ?_); tm_at "go"; refine ex_c (fun _ => ?_) fun c => absurd rfl c
    refine s_post ?_
    refine s_drop ?_; tm_at "go"
    refine r_ixL (v := .int k) (sq_tl ha) (atI_nat (j := 3) rfl) ?_
    tm_at "go"
    refine ⟨_, Ent.refl _, _, _, rfl, p, ad, st, R, k, rfl, rfl, rfl, hw, fun n => hE .box ?_, fun c hc hm d => ⟨_, Ent.drop, q ?_ _ _⟩⟩
    · simp only [due5]; rw [if_neg fun z => n k.toNat (by rw [I.th, List.mem_range]; omega) (by omega)]
    · rw [I.th, List.mem_range] at hm
      simp only [due5]; rw [if_pos (by omega)]
  | work =>
    tm_at "no5"
    tm_at "no5"
    tm_at "no5"
    tm_at "no5"
    tm_at "no5"
    tm_at "no5"
    tm_at "no5"
    refine s_post ?_
    refine s_drop ?_; tm_at "go"
    refine r_ixL (v := .int k) (sq_tl ha) (atI_nat (j := 3) rfl) ?_
    tm_at "go"
    obtain ⟨G, jj⟩ := I.j
    refine ⟨_, Ent.refl _, _, _, rfl, p, ad, st, R, k, rfl, rfl, rfl, fun n => hE .work ?_, fun m => ⟨fun kk hk => jj.hands_pc k.toNat kk (by omega), fun d ad' => ⟨_, Ent.drop, q ?_ _ _⟩⟩⟩
    · simp only [due5]; rw [if_neg n]
    · simp only [due5]; rw [if_pos m]
end
/-! law_k05_refused: all that is told of the heap, walked. -/
section
variable {K : PySem.W.Frag} {A : Ex} {E : XK} {vs : List V} {L R : AL} {Q : V → AL → Prop} {Ea : Value → AL → Prop} {σ : L2.St} {te : TE}
theorem e_lcRowsRF {tr : TA} {j : Nat} {vs : List Nat} (n : Nat) (f : Nat → List (Option Nat)) (hn : n ≤ 100000) (hw : ∀ x, wipe ((wipe σ vs).set j (some x)) vs = wipe σ vs) (h : SA tr σ L fun us L1 => us = [nV n] ∧ L1 = L)
    (hs : ∀ i, i < n → ∀ Z : AL, SE te ((wipe σ vs).set j (some (nV i))) (Z ++ L) fun y L3 => ∃ a, y = .ref a ∧ Ent L3 (pt a (fL (f i)) :: (Z ++ L)))
    (hq : ∀ d as, as.length = n → Q (.ref d) (RowsA d as ((List.range n).map f) :: L)) : SE (tLc (iRng1 tr) (gName j) tYes te vs) σ L Q := by
  refine e_post (e_lcR1 (Q := fun v L1 => ∃ L2, Ent L1 L2 ∧ Q v L2) fun H s Qh k => h H s _ fun us L1 H1 s1 ⟨e1, e2⟩ => k _ _ _ s1 ⟨(n : Int), e1, by omega, by omega, hw, ?_⟩)
  subst e2
  refine ⟨fun i acc L' => ∃ as, acc = as.map V.ref ∧ as.length = i ∧ L' = zc fL as ((List.range i).map f) ++ L1, ⟨[], rfl, rfl, rfl⟩, ?_, ?_⟩
  · rintro i acc L' d hi ⟨as, rfl, hl, rfl⟩
    refine t_yes ⟨fun _ => ?_, (fun z => nomatch z)⟩
    refine e_mono (hs i (by omega) (_ :: zc fL as ((List.range i).map f))) ?_
    rintro _ _ ⟨a, rfl, en⟩
    refine ⟨zc fL (as ++ [a]) ((List.range (i + 1)).map f) ++ L1, en.trans ?_, small5 (by rw [List.length_map]; omega), as ++ [a], by rw [List.map_append]; rfl, by rw [List.length_append, hl]; rfl, rfl⟩
    rw [List.range_succ, List.map_append]
    exact ent_swap.trans (Ent.cons (ent_snoc (by rw [List.length_map, List.length_range]; exact hl)))
  · rintro acc L' d ⟨as, rfl, hl, rfl⟩
    have e : ((n : Int)).toNat = n := by omega
    rw [e] at hl ⊢
    exact ⟨_, ent_star (Ls := pt d (.lst (as.map V.ref)) :: zc fL as ((List.range n).map f)), hq d as hl⟩
theorem p_law_all (T0 : HT K A) (he : ELe Ea E) (h : P_law_all K A vs L Q Ea) : SS (t_law_all K A E) { nx := fun _ L => Q .non L, rt := Q } (start N_law_all vs) L := by
  obtain ⟨_, _, _, rfl, p, ad, st, R, T, n, total, rfl, rfl, rfl, rfl, w, hT, hs, rfl, h8, ht, hm, q⟩ := h
  unfold t_law_all
  refine s_seq (s_asg ?_)
  refine e_lst (a_cons ?_)
  refine e_lcPlainRF st.hands.length (fun i => oV (st.hands.getD i none)) (by omega) (fun _ => rfl) ?_ (fun i hi o => ?_) fun b => ?_
  · tm_at "go"
    exact ⟨rfl, rfl⟩
  · tm_at "go"
    exact do_held ent_swap hi ⟨rfl, ent_swap⟩
  rw [range_getD]
  tm_at "go"
  refine do_boxes ent_swap w fun d2 => ?_
  rw [← map_oV_some]
  tm_at "go"
  refine do_marked ent_swap hT hs fun d3 => ?_
  rw [← map_oV_some T]
  tm_at "go"
  refine do_waiting ent_swap fun d4 => ?_
  rw [← map_oV_some (st.seen.drop st.looked)]
  tm_at "go"
  refine do_rounds ent_swap ?_
  tm_at "go"
  refine ⟨by show 1 ≤ sizeLine; decide, fun d5 => ?_⟩
  tm_at "go"
  refine ⟨by show 5 ≤ sizeLine; decide, fun d6 => ?_⟩
  refine s_ent (ent_pick 2 rfl) ?_
  refine s_postR ?_
  refine e_op ?_
  refine e_var rfl ?_
  refine e_lcRowsRF total st.rowAt (by omega) (fun _ => rfl) ?_ (fun i hi Z => ?_) fun dd as hl => ?_
  · tm_at "go"
    exact ⟨rfl, rfl⟩
  · refine e_meth (e_var rfl (meth_h (has_app heap_ins) (by decide) ?_))
    tm_at "go"
    exact do_look (ent_perm perm_mid) w (hm i hi) fun d => ⟨d, rfl, Ent.cons (ent_perm perm_mid.symm)⟩
  refine r_cat (has_tl (has_tl has_hd)) rows_p (by rw [List.length_map, hl]; show 5 + total ≤ sizeLine; exact Nat.le_trans (by omega : 5 + total ≤ 200000) (by decide)) fun d7 => ?_
  refine ⟨_, ?_, q d7 (b :: d2 :: d3 :: d4 :: d5 :: as) (by unfold told5; simp [hl])⟩
  refine ((ent_pick 3 rfl).trans Ent.drop).trans ?_
  refine (ent_pick 2 rfl).trans ?_
  refine (ent_pick 2 rfl).trans ?_
  refine (ent_pick 3 rfl).trans ?_
  refine (ent_pick 4 rfl).trans ?_
  refine (ent_pick 5 rfl).trans ?_
  refine (ent_pick 6 rfl).trans ?_
  refine (ent_pick 7 rfl).trans ?_
  refine (ent_pick 7 rfl).trans ?_
  refine (Ent.cons (Ent.cons (Ent.cons (Ent.cons (Ent.cons (Ent.cons (ent_unstar.trans Ent.drop))))))).trans ?_
  exact ent_star (Ls := pt d7 (.lst ((b :: d2 :: d3 :: d4 :: d5 :: as).map V.ref)) :: zc fL (b :: d2 :: d3 :: d4 :: d5 :: as) (told5 st T total))
theorem do_all {p : Addr} {ad : HAd} {st : HS} {T : List Nat} {n total : Nat} (e : Ent L (HeapIs A.Heap p ad st :: R)) (w : HW st) (hT : T.Perm st.seen) (hs : T.Pairwise (· ≤ ·)) (hl : st.hands.length = n) (h8 : n ≤ 8) (ht : total ≤ 1000) (hm : ∀ b, b < total → b ∈ st.there)
    (q : ∀ d as, as.length = (told5 st T total).length → Q (.ref d) (RowsA d as (told5 st T total) :: HeapIs A.Heap p ad st :: R)) : ∃ L2, Ent L L2 ∧ P_law_all K A [.ref p, nV n, nV total] L2 Q Ea := ⟨_, e, _, _, _, rfl, p, ad, st, R, T, n, total, rfl, rfl, rfl, rfl, w, hT, hs, hl, h8, ht, hm, q⟩
end
/-! law_k05_refused: the heap as it is laid. -/
theorem gs5_ne {xs : Hs} {i j : Nat} {o : Option Nat} (h : i ≠ j) : (xs.set i o).getD j none = xs.getD j none := by
  rw [List.getD_eq_getElem?_getD, List.getD_eq_getElem?_getD, List.getElem?_set_ne h]
theorem gs5_eq {xs : Hs} {i : Nat} {o : Option Nat} (h : i < xs.length) : (xs.set i o).getD i none = o := by
  rw [List.getD_eq_getElem?_getD, List.getElem?_set_self h]; rfl
structure Ld (st : HS) (n room : Nat) (sl : List Nat) (k : Nat) : Prop where
  j : ∃ G, J st G
  sg : st.stage = .idle
  hl : st.hands.length = n
  rm : st.room = room
  th : st.there = List.range k
  rl : st.rows.length = k
  h0 : st.hands.getD 0 none = some 0
  h1 : ∀ i, 1 ≤ i → i < k → st.hands.getD i none = some i ∧ (rowOf st.rows i).length = sl.getD i 0
  h2 : ∀ i, 1 ≤ i → k ≤ i → st.hands.getD i none = none
theorem new_J {n room : Nat} (h8 : n ≤ 8) : ∃ G, J (HS.new n room) G := by
  refine ⟨_, J.rest (st := HS.new n room) ?_ ?_ ?_ ?_ rfl ⟨rfl, rfl, rfl, rfl, rfl⟩⟩
  · exact ⟨List.Pairwise.nil, fun b hb => absurd hb List.not_mem_nil, by show (List.replicate n none).length ≤ 8; rw [List.length_replicate]; exact h8, by show 0 ≤ 90000; decide, fun r hr => absurd hr List.not_mem_nil, List.nodup_nil, (fun _ h => absurd h List.not_mem_nil), Nat.zero_le _⟩
  · exact ⟨fun b hb => (nomatch (List.mem_replicate.mp hb).2), fun r hr => absurd hr List.not_mem_nil, fun r hr => absurd hr List.not_mem_nil⟩
  · intro b hb
    exact nomatch (List.mem_replicate.mp hb).2
  · intro x hx
    exact absurd hx List.not_mem_nil
theorem new_none {n room i : Nat} : (HS.new n room).hands.getD i none = none := by
  show (List.replicate n none).getD i none = none
  rw [List.getD_eq_getElem?_getD, List.getElem?_replicate]
  split <;> rfl
theorem Ld.first {n room : Nat} {sl : List Nat} (h1 : 1 ≤ n) (h8 : n ≤ 8) : Ld ((HS.new n room).make 0 0) n room sl 1 := by
  obtain ⟨G, j⟩ := new_J (room := room) h8
  have hn : (HS.new n room).hands.length = n := List.length_replicate
  refine ⟨j.deed (d := .make 0 0) ⟨by rw [hn]; exact h1, by decide⟩ (by show 0 < 90000; decide), rfl, by show ((HS.new n room).hands.set 0 _).length = n; rw [List.length_set]; exact hn, rfl, rfl, rfl, ?_, fun i a b => by omega, fun i a b => ?_⟩
  · show ((HS.new n room).hands.set 0 (some 0)).getD 0 none = some 0
    exact gs5_eq (by omega)
  · show ((HS.new n room).hands.set 0 (some 0)).getD i none = none
    rw [gs5_ne (by omega)]; exact new_none
theorem Ld.make {st : HS} {n room k : Nat} {sl : List Nat} (I : Ld st n room sl k) (hk : 1 ≤ k) (hn : k < n) (h8 : n ≤ 8) (h4 : sl.getD k 0 ≤ 4) : Ld (st.make k (sl.getD k 0)) n room sl (k + 1) := by
  obtain ⟨G, j⟩ := I.j
  have hl := I.hl
  have rl := I.rl
  refine ⟨j.deed (d := .make k (sl.getD k 0)) ⟨by omega, h4⟩ (by omega), I.sg, by show (st.hands.set k _).length = n; rw [List.length_set]; exact hl, I.rm, ?_, ?_, ?_, fun i a b => ?_, fun i a b => ?_⟩
  · show st.there ++ [st.rows.length] = _
    rw [I.th, rl, List.range_succ]
  · show (st.rows ++ [_]).length = _
    rw [List.length_append, rl]; rfl
  · show (st.hands.set k _).getD 0 none = _
    rw [gs5_ne (by omega)]; exact I.h0
  · show (st.hands.set k (some st.rows.length)).getD i none = _ ∧ (rowOf (st.rows ++ [List.replicate (sl.getD k 0) none]) i).length = _
    rw [rowOf_app, rl]
    by_cases c : i = k
    · subst c
      rw [if_pos rfl, gs5_eq (by omega), List.length_replicate]
      exact ⟨rfl, rfl⟩
    · rw [if_neg c, gs5_ne (fun z => c z.symm)]
      exact I.h1 i a (by omega)
  · show (st.hands.set k _).getD i none = _
    rw [gs5_ne (by omega)]; exact I.h2 i a (by omega)
theorem Ld.put {st : HS} {n room k s : Nat} {sl : List Nat} (I : Ld st n room sl (k + 1)) (hk : 1 ≤ k) (hn : k < n) (h8 : n ≤ 8) (hs : s < sl.getD k 0) : Ld (st.put k s (some 0)) n room sl (k + 1) := by
  obtain ⟨G, j⟩ := I.j
  have hl := I.hl
  have rl := I.rl
  obtain ⟨a1, a2⟩ := I.h1 k hk (by omega)
  have eb : boxOf st.hands k = k := by unfold boxOf; rw [a1]; rfl
  have jd := j.deed (d := .put k s 0) ⟨by omega, by omega, by rw [eb]; exact a1, by rw [eb]; omega, by rw [eb, a2]; exact hs⟩ (by omega)
  have ed : st.deed (.put k s 0) = st.put k s (some 0) := by
    show st.put (boxOf st.hands k) s (st.hands.getD 0 none) = _
    rw [eb, I.h0]
  rw [ed] at jd
  have ep : st.put k s (some 0) = st.setSlot k s (some 0) := by
    unfold HS.put
    rw [if_neg (by rw [I.sg]; decide)]
  rw [ep] at jd ⊢
  refine ⟨jd, I.sg, hl, I.rm, I.th, ?_, I.h0, fun i a b => ?_, I.h2⟩
  · show (st.rows.set k _).length = _
    rw [List.length_set]; exact rl
  · obtain ⟨b1, b2⟩ := I.h1 i a b
    refine ⟨b1, ?_⟩
    show (rowOf (st.rows.set k ((rowOf st.rows k).set s (some 0))) i).length = _
    rw [rowOf_set (by omega)]
    split
    · rename_i c
      subst c
      rw [List.length_set]; exact b2
    · exact b2
def tot (sl : List Nat) : Nat := sl.length + (if sl = [] then 0 else 1)
theorem Ld.last {st : HS} {n room : Nat} {sl : List Nat} (I : Ld st n room sl sl.length) (h1 : 1 ≤ sl.length) (hn : sl.length ≤ n) (h8 : n ≤ 8) (h4 : sl.getD 0 0 ≤ 4) : S5 (st.make 0 (sl.getD 0 0)) n room sl (tot sl) := by
  obtain ⟨G, j⟩ := I.j
  have hl := I.hl
  have rl := I.rl
  have et : tot sl = sl.length + 1 := by unfold tot; rw [if_neg (fun z => by rw [z] at h1; cases h1)]
  rw [et]
  refine ⟨j.deed (d := .make 0 (sl.getD 0 0)) ⟨by omega, h4⟩ (by omega), by show (st.hands.set 0 _).length = n; rw [List.length_set]; exact hl, I.rm, ?_, fun k hk => ?_, fun k hk => ?_⟩
  · show st.there ++ [st.rows.length] = _
    rw [I.th, rl, List.range_succ]
  · show ∃ b, (st.hands.set 0 (some st.rows.length)).getD k none = some b ∧ (rowOf (st.rows ++ [List.replicate (sl.getD 0 0) none]) b).length = _
    by_cases c : k = 0
    · subst c
      exact ⟨st.rows.length, gs5_eq (by omega), by rw [rowOf_app, if_pos rfl, List.length_replicate]⟩
    · obtain ⟨b1, b2⟩ := I.h1 k (by omega) hk
      exact ⟨k, by rw [gs5_ne (fun z => c z.symm)]; exact b1, by rw [rowOf_app, if_neg (by omega)]; exact b2⟩
  · show (st.hands.set 0 (some st.rows.length)).getD k none = none
    rw [gs5_ne (by omega)]
    exact I.h2 k (by omega) hk
theorem S5.new {n room : Nat} (h8 : n ≤ 8) : S5 (HS.new n room) n room [] (tot []) :=
  ⟨new_J h8, List.length_replicate, rfl, rfl, fun k hk => absurd hk (Nat.not_lt_zero _), fun k _ => new_none⟩
theorem S5.work {st : HS} {n room total : Nat} {sl : List Nat} (I : S5 st n room sl total) (hs : st.stage = .idle) {c : Nat} (hc : c ≤ 1) : S5 (HS.work c st).1 n room sl total := by
  obtain ⟨G, j⟩ := I.j
  obtain ⟨e1, e2, e3⟩ := work_same st c
  have et : (HS.work c st).1.there = st.there := by
    match c, hc with
    | 0, _ => rfl
    | 1, _ =>
      show st.piece.1.there = st.there
      have e : st.piece = (st.begin_.settle, none) := by unfold HS.piece; rw [hs]
      rw [e]
      show st.begin_.settle.there = _
      rw [(settle_fields _).2.2.2]
      unfold HS.begin_
      rw [markAll_fil]
  exact ⟨j.work c, by rw [e1]; exact I.hl, by rw [e3]; exact I.rm, by rw [et]; exact I.th, by rw [e1, e2]; exact I.hd, by rw [e1]; exact I.hn⟩
def P_law_laid (K : PySem.W.Frag) (A : Ex) : Pm := pm3 fun x y z L Q _ => ∃ (p b c : Addr) (ad : HAd) (n room : Nat) (sl : List Nat) (cs : List Int) (R : AL), x = .ref p ∧ y = .ref b ∧ z = .ref c ∧ L = HeapIs A.Heap p ad (HS.new n room) :: R ∧ SqA K R b (sl.map nV) ∧ SqA K R c (cs.map V.int) ∧ cs.length = sl.length ∧ sl.length ≤ n ∧ n ≤ 8 ∧ (∀ s ∈ sl, s ≤ 4) ∧ tot sl ≤ room ∧
  ∀ ad' st', S5 st' n room sl (tot sl) → st'.stage = .idle → Q .non (HeapIs A.Heap p ad' st' :: R)
def N_law_laid : List Str := ["_law_heap", "_law_slots", "_law_cells", "_law_k"]
def t_law_laid (K : PySem.W.Frag) (A : Ex) (E : XK) : TS :=
    (tSeq (tIfS (tTest (tOp (rEqD K) (tVar 1) (tLst tNil))) tRetN tNext)
    (tSeq (tDrop (tMeth A.Heap "make" (lift (P_make K A)) [] E0 (tVar 0) (tCons (tC (.int 0)) (tCons (tC (.int 0)) tNil))))
    (tSeq (tFor (iRng2 (tCons (tC (.int 1)) (tCons (tCB (rLen K) (tCons (tVar 1) tNil)) tNil))) (gName 3)
      (tSeq (tDrop (tMeth A.Heap "make" (lift (P_make K A)) [] E0 (tVar 0) (tCons (tVar 3) (tCons (tOp (rIxL K) (tVar 1) (tVar 3)) tNil))))
    (tIfS (tTest (tOp rGtI (tOp (rIxL K) (tVar 1) (tVar 3)) (tC (.int 0)))) (tDrop (tMeth A.Heap "put" (lift (P_put K A)) [] E0 (tVar 0) (tCons (tVar 3) (tCons (tOp rModI (tOp (rIxL K) (tVar 2) (tVar 3)) (tOp (rIxL K) (tVar 1) (tVar 3))) (tCons (tC (.int 0)) tNil))))) tNext)))
    (tDrop (tMeth A.Heap "make" (lift (P_make K A)) [] E0 (tVar 0) (tCons (tC (.int 0)) (tCons (tOp (rIxL K) (tVar 1) (tC (.int 0))) tNil)))))))
section
variable {K : PySem.W.Frag} {A : Ex} {E : XK} {vs : List V} {L R : AL} {Q : V → AL → Prop} {Ea : Value → AL → Prop}
theorem body5 {σ : L2.St} {D : EA} {p b c : Addr} {ad : HAd} {st : HS} {n room k : Nat} {sl : List Nat} {cs : List Int} (T : HT K A) (I : Ld st n room sl k) (hk : 1 ≤ k) (hn : k < n) (h8 : n ≤ 8) (hks : k < sl.length) (h4 : ∀ s ∈ sl, s ≤ 4) (hr : tot sl ≤ room) (hcs : cs.length = sl.length)
    (hb : SqA K R b (sl.map nV)) (hc : SqA K R c (cs.map V.int)) (h0 : σ[0]? = some (some (.ref p))) (h1 : σ[1]? = some (some (.ref b))) (h2 : σ[2]? = some (some (.ref c))) (h3 : σ[3]? = some (some (nV k))) (q : ∀ ad' st', Ld st' n room sl (k + 1) → D.nx σ (HeapIs A.Heap p ad' st' :: R)) :
    SS (tSeq (tDrop (tMeth A.Heap "make" (lift (P_make K A)) [] E0 (tVar 0) (tCons (tVar 3) (tCons (tOp (rIxL K) (tVar 1) (tVar 3)) tNil))))
    (tIfS (tTest (tOp rGtI (tOp (rIxL K) (tVar 1) (tVar 3)) (tC (.int 0)))) (tDrop (tMeth A.Heap "put" (lift (P_put K A)) [] E0 (tVar 0) (tCons (tVar 3) (tCons (tOp rModI (tOp (rIxL K) (tVar 2) (tVar 3)) (tOp (rIxL K) (tVar 1) (tVar 3))) (tCons (tC (.int 0)) tNil))))) tNext)) D σ (HeapIs A.Heap p ad st :: R) := by
  have eg : sl[k]? = some (sl.getD k 0) := by rw [List.getD_eq_getElem?_getD, List.getElem?_eq_getElem hks]; rfl
  have g4 : sl.getD k 0 ≤ 4 := h4 _ (List.mem_of_getElem? eg)
  have es : (sl.map nV)[k]? = some (nV (sl.getD k 0)) := map_at nV eg
  obtain ⟨cv, ec⟩ : ∃ cv, cs[k]? = some cv := ⟨_, List.getElem?_eq_getElem (by omega)⟩
  have ec : (cs.map V.int)[k]? = some (.int cv) := map_at V.int ec
  obtain ⟨G, j⟩ := I.j
  have ht : st.there.length = k := by rw [I.th, List.length_range]
  have hl := I.hl
  have rm := I.rm
  have I2 := I.make hk hn h8 g4
  have hrk : k < room := by
    have : sl.length ≤ tot sl := Nat.le_add_right _ _
    omega
  refine s_seq (s_drop ?_)
  refine e_meth (e_var h0 (meth_h heap_ins (by decide) ?_))
  refine a_cons (e_var h3 (a_cons (e_op (e_var h1 (e_var h3 (r_ixL (sq_tl hb) (atI_nat es) (a_nil ?_)))))))
  refine do_make (Ent.refl _) j.w (by omega) g4 (by omega) fun ad2 => ?_
  refine s_if (t_test (e_op (e_op (e_var h1 (e_var h3 (r_ixL (sq_tl hb) (atI_nat es) (e_c (r_I0 (ex_c (fun c => ?_) fun c => s_next (q ad2 _ I2))))))))))
  obtain ⟨G2, j2⟩ := I2.j
  obtain ⟨a1, a2⟩ := I2.h1 k hk (by omega)
  have hpos : 0 < sl.getD k 0 := by omega
  refine s_drop ?_
  refine e_meth (e_var h0 (meth_h heap_ins (by decide) ?_))
  refine a_cons (e_var h3 (a_cons (e_op (e_op (e_var h2 (e_var h3 (r_ixL (sq_tl hc) (atI_nat ec) (e_op (e_var h1 (e_var h3 (r_ixL (sq_tl hb) (atI_nat es) (r_I (by omega) (a_cons (e_c (a_nil ?_)))))))))))))))
  have hm0 : 0 ≤ cv % (sl.getD k 0 : Int) := Int.emod_nonneg _ (by omega)
  have hm1 : cv % (sl.getD k 0 : Int) < (sl.getD k 0 : Int) := Int.emod_lt_of_pos _ (by omega)
  have en : V.int (cv % (sl.getD k 0 : Int)) = nV (cv % (sl.getD k 0 : Int)).toNat := (nV_toNat hm0).symm
  show ∃ L2, Ent _ L2 ∧ P_put K A [.ref p, nV k, .int (cv % (sl.getD k 0 : Int)), nV 0] L2 _ _
  rw [en]
  have h5 := I2.put (s := (cv % (sl.getD k 0 : Int)).toNat) hk hn h8 (by omega)
  have e0 := I2.h0
  refine do_put (b := k) (Ent.refl _) j2.w (by rw [I2.hl]; omega) (by rw [I2.hl]; omega) a1 (by rw [I2.th, List.mem_range]; omega) (by show _ < (rowOf _ k).length; rw [a2]; omega) ?_
  rw [e0]
  exact q ad2 _ h5
theorem p_law_laid (T : HT K A) (he : ELe Ea E) (h : P_law_laid K A vs L Q Ea) : SS (t_law_laid K A E) { nx := fun _ L => Q .non L, rt := Q } (start N_law_laid vs) L := by
  obtain ⟨_, _, _, rfl, p, b, c, ad, n, room, sl, cs, R, rfl, rfl, rfl, rfl, hb, hc, hcs, hn, h8, h4, hr, q⟩ := h
  unfold t_law_laid
  refine s_seq (s_if (t_test (e_op (e_var rfl (e_lst (a_nil ⟨by show 0 ≤ sizeLine; decide, fun d => r_eqE (xs := sl) (sq_tl (sq_tl hb)) (Has.sq has_hd) ?_⟩))))))
  by_cases c0 : sl = []
  · subst c0
    refine ⟨true, rfl, both_t (s_ent Ent.drop (s_retN ?_))⟩
    exact q _ _ (S5.new h8) rfl
  have e0 : sl.isEmpty = false := by cases sl with
    | nil => exact absurd rfl c0
    | cons _ _ => rfl
  have hpos : 1 ≤ sl.length := by cases sl with
    | nil => exact absurd rfl c0
    | cons _ _ => exact Nat.succ_le_succ (Nat.zero_le _)
  have g0 : sl[0]? = some (sl.getD 0 0) := by rw [List.getD_eq_getElem?_getD, List.getElem?_eq_getElem (by omega)]; rfl
  have g4 : sl.getD 0 0 ≤ 4 := h4 _ (List.mem_of_getElem? g0)
  have et : tot sl = sl.length + 1 := by unfold tot; rw [if_neg c0]
  rw [e0]
  refine ⟨false, rfl, both_f (s_next (s_ent Ent.drop ?_))⟩
  obtain ⟨G0, j0⟩ := new_J (room := room) h8
  have hn0 : (HS.new n room).hands.length = n := List.length_replicate
  refine s_seq (s_drop ?_)
  refine e_meth (e_var rfl (meth_h heap_ins (by decide) (a_cons (e_c (a_cons (e_c (a_nil ?_)))))))
  refine do_make (i := 0) (k := 0) (Ent.refl _) j0.w (by omega) (by omega) (by show 0 < room; omega) fun ad1 => ?_
  have I1 : Ld ((HS.new n room).make 0 0) n room sl 1 := Ld.first (by omega) h8
  generalize (HS.new n room).make 0 0 = st1 at I1 ⊢
  refine s_seq (s_forR2 ?_)
  refine a_cons (e_c (a_cons (e_cb (a_cons (e_var rfl (a_nil (c_len (sq_tl hb) (a_nil ?_))))))))
  rw [List.length_map]
  refine ⟨1, (sl.length : Int), rfl, ⟨by omega, by omega, by omega, by omega⟩, fun i σ L' => ∃ (ad : HAd) (st : HS) (v3 : Option V), σ = [some (.ref p), some (.ref b), some (.ref c), v3] ∧ Ld st n room sl (1 + i) ∧ L' = HeapIs A.Heap p ad st :: R, ⟨ad1, st1, none, rfl, I1, rfl⟩, ?_, ?_⟩
  · rintro i σ L' hi ⟨ad, st, v3, rfl, I, rfl⟩
    have ei : (1 + (i : Int)) = ((1 + i : Nat) : Int) := by omega
    rw [ei]
    refine body5 T I (by omega) (by omega) h8 (by omega) h4 hr hcs hb hc rfl rfl rfl rfl fun ad' st' I' => ?_
    exact ⟨ad', st', _, rfl, I', rfl⟩
  · rintro σ L' ⟨ad, st, v3, rfl, I, rfl⟩
    have ek : 1 + ((sl.length : Int) - 1).toNat = sl.length := by omega
    rw [ek] at I
    obtain ⟨G, j⟩ := I.j
    have hl := I.hl
    have rm := I.rm
    have ht : st.there.length = sl.length := by rw [I.th, List.length_range]
    refine s_drop ?_
    refine e_meth (e_var rfl (meth_h heap_ins (by decide) (a_cons (e_c (a_cons (e_op (e_var rfl (e_c (r_ixL (sq_tl hb) (atI_nat (j := 0) (map_at nV g0)) (a_nil ?_))))))))))
    refine do_make (i := 0) (k := sl.getD 0 0) (Ent.refl _) j.w (by omega) g4 (by omega) fun ad2 => ?_
    exact q ad2 _ (I.last hpos hn h8 g4) I.sg
theorem do_laid {p b c : Addr} {ad : HAd} {n room : Nat} {sl : List Nat} {cs : List Int} (e : Ent L (HeapIs A.Heap p ad (HS.new n room) :: R)) (hb : SqA K R b (sl.map nV)) (hc : SqA K R c (cs.map V.int)) (hcs : cs.length = sl.length) (hn : sl.length ≤ n) (h8 : n ≤ 8) (h4 : ∀ s ∈ sl, s ≤ 4) (hr : tot sl ≤ room)
    (q : ∀ ad' st', S5 st' n room sl (tot sl) → st'.stage = .idle → Q .non (HeapIs A.Heap p ad' st' :: R)) : ∃ L2, Ent L L2 ∧ P_law_laid K A [.ref p, .ref b, .ref c] L2 Q Ea := ⟨_, e, _, _, _, rfl, p, b, c, ad, n, room, sl, cs, R, rfl, rfl, rfl, rfl, hb, hc, hcs, hn, h8, h4, hr, q⟩
end
/-! law_k05_refused: the law from the deed on. -/
def t_law_19 (K : PySem.W.Frag) (A : Ex) : TS :=
    (tSeq (tTryA K (.ref A.HeapError) 14 [A.NoBox, A.NoHand, A.NoRoom, A.NoSlot, A.NoWork, A.NothingHeld] (fun Cx ax => (tSeq (tAsg (tCall (lift (P_law_all K A)) [] E0 (tCons (tVar 5) (tCons (tVar 1) (tCons (tVar 3) tNil)))) (gName 16))
    (tSeq (tFor (iRng1 (tCons (tCB (rLen K) (tCons (tVar 12) tNil)) tNil)) (gName 15)
      (tIfS (tNot (tB (tCall (lift (P_law_numbers K A)) [] E0 (tCons (tOp (rIxL K) (tVar 16) (tVar 15)) (tCons (tOp (rIxL K) (tVar 12) (tVar 15)) tNil))))) (tRet (tC (.bl false))) tNext))
    (tRet (tAndV (tOp (rNeD K) (tVar 11) (tLst tNil)) (tAndV (tOp (rEqD K) (tCallS (lift (P_law_kinds K A ax Cx)) (fun _ => E0) (tCons (tVar 14) tNil)) (tVar 11)) (tAndV (tCB (rIsE K Cx ax) (tCons (tVar 14) (tCons (tC (.ty "ValueError")) tNil))) (tOp rEq (tMeth A.Heap "phase" (lift (P_phase K A)) [] E0 (tVar 5) tNil) (tVar 13))))))))) (fun W => (tDrop (tCallS (lift (P_law_askedR K A)) (WE W) (tCons (tVar 5) (tCons (tVar 10) tNil))))))
    (tRet (tOp (rEqD K) (tVar 11) (tLst tNil))))
def t_law_15 (K : PySem.W.Frag) (A : Ex) : TS :=
    (tSeq (tAsg (tOp rCat (tLst (tCons (tVar 7) tNil)) (tVar 8)) (gName 10))
    (tSeq (tAsg (tCall (lift (P_law_due K A)) [] E0 (tCons (tVar 10) (tCons (tVar 2) (tCons (tVar 1) (tCons (tVar 4) (tCons (tVar 3) tNil)))))) (gName 11))
    (tSeq (tAsg (tCall (lift (P_law_all K A)) [] E0 (tCons (tVar 5) (tCons (tVar 1) (tCons (tVar 3) tNil)))) (gName 12))
    (tSeq (tAsg (tMeth A.Heap "phase" (lift (P_phase K A)) [] E0 (tVar 5) tNil) (gName 13))
    (tSeq (tTryA K (.ref A.HeapError) 14 [A.NoBox, A.NoHand, A.NoRoom, A.NoSlot, A.NoWork, A.NothingHeld] (fun Cx ax => (tSeq (tAsg (tCall (lift (P_law_all K A)) [] E0 (tCons (tVar 5) (tCons (tVar 1) (tCons (tVar 3) tNil)))) (gName 16))
    (tSeq (tFor (iRng1 (tCons (tCB (rLen K) (tCons (tVar 12) tNil)) tNil)) (gName 15)
      (tIfS (tNot (tB (tCall (lift (P_law_numbers K A)) [] E0 (tCons (tOp (rIxL K) (tVar 16) (tVar 15)) (tCons (tOp (rIxL K) (tVar 12) (tVar 15)) tNil))))) (tRet (tC (.bl false))) tNext))
    (tRet (tAndV (tOp (rNeD K) (tVar 11) (tLst tNil)) (tAndV (tOp (rEqD K) (tCallS (lift (P_law_kinds K A ax Cx)) (fun _ => E0) (tCons (tVar 14) tNil)) (tVar 11)) (tAndV (tCB (rIsE K Cx ax) (tCons (tVar 14) (tCons (tC (.ty "ValueError")) tNil))) (tOp rEq (tMeth A.Heap "phase" (lift (P_phase K A)) [] E0 (tVar 5) tNil) (tVar 13))))))))) (fun W => (tDrop (tCallS (lift (P_law_askedR K A)) (WE W) (tCons (tVar 5) (tCons (tVar 10) tNil))))))
    (tRet (tOp (rEqD K) (tVar 11) (tLst tNil))))))))
structure Fact5 (K : PySem.W.Frag) (A : Ex) : Prop where
  em : ∀ r : Ref5, PySem.W.exmOne K (.ref (r.cls A)) (.ref A.HeapError) = some true
  ki : ∀ r : Ref5, PySem.W.kitOne K (.ref (r.cls A)) (.type "ValueError") = some true
section
variable {K : PySem.W.Frag} {A : Ex} {E : XK} {vs : List V} {L R : AL} {Q : V → AL → Prop} {Ea : Value → AL → Prop}
theorem seen_sorted (xs : List Nat) : ∃ T : List Nat, T.Perm xs ∧ T.Pairwise (· ≤ ·) :=
  ⟨xs.mergeSort (fun a b => decide (a ≤ b)), List.mergeSort_perm _ _, (List.pairwise_mergeSort (le := fun a b => decide (a ≤ b)) (fun a b c h1 h2 => by simp at *; omega) (fun a b => by simp; omega) xs).imp fun h => of_decide_eq_true h⟩
theorem r_eqN1 {a b : Addr} {n : Nat} (h : SqA K L a ([n].map nV)) (h2 : SqA K L b ([n].map nV)) (q : Q (.bl true) L) : RE (rEqD K (.ref a) (.ref b)) L Q := fun H s Qh k =>
  ⟨.list ([n].map fun (n : Nat) => .int (n : Int)), .list ([n].map fun (n : Nat) => .int (n : Int)), .lst (h H s) (dpAll [n]), .lst (h2 H s) (dpAll [n]), shaped_nat [n], shaped_nat [n], by
    have e : PyData.eqv (.list ([n].map fun (n : Nat) => .int (n : Int))) (.list ([n].map fun (n : Nat) => .int (n : Int))) = true := by simp [PyData.eqv, PyData.eqvAll]
    rw [e]; exact k _ _ _ s q⟩
theorem told_len {st : HS} {T2 : List Nat} {total : Nat} (w : HW st) (hT : T2.Perm st.seen) {r : List (Option Nat)} (h : r ∈ told5 st T2 total) : r.length ≤ 100000 := by
  have h1 := w.big
  have h2 := w.hands
  have h3 := w.tl
  have h4 := w.seenl
  have h5 := hT.length_eq
  unfold told5 at h
  rcases List.mem_append.mp h with h | h
  · simp only [List.mem_cons, List.not_mem_nil, or_false] at h
    rcases h with rfl | rfl | rfl | rfl | rfl
    · omega
    · rw [List.length_map]; omega
    · rw [List.length_map]; omega
    · rw [List.length_map, List.length_drop]; omega
    · show 1 ≤ 100000; decide
  · obtain ⟨b, _, rfl⟩ := List.mem_map.mp h
    have := w.rowl b
    omega
theorem law_try {p a d2 dws dn dd db du : Addr} {far x1 x2 x3 : Int} {w : Wd5} {n room : Nat} {sl T2 : List Nat} {as : List Addr} {ad : HAd} {st : HS} (T : HT K A) (ks : Fact5 K A) (I : S5 st n room sl (tot sl)) (n8 : n ≤ 8) (t8 : tot sl ≤ 10) (sn : sl.length ≤ n) (q : ∀ L' : AL, Q (.bl true) L')
    (hd : SqA K R dd [.str w.str, .int x1, .int x2, .int x3]) (hu : SqA K R du ((dueL (due5 w x1 x2 x3 sl n room (tot sl))).map nV)) (hT : T2.Perm st.seen) (hs : T2.Pairwise (· ≤ ·)) (has : as.length = (told5 st T2 (tot sl)).length) :
    SS (t_law_19 K A) { nx := fun _ L => Q .non L, rt := Q } [some (.ref a), some (nV n), some (.ref d2), some (nV (tot sl)), some (nV room), some (.ref p), some (.ref dws), some (.str w.str), some (.ref dn), some (.int far), some (.ref dd), some (.ref du), some (.ref db), some (.str st.stage.str), none, none, none]
      (HeapIs A.Heap p ad st :: RowsA db as (told5 st T2 (tot sl)) :: R) := by
  unfold t_law_19
  refine s_seq (s_tryA fun W hW => ?_)
  refine s_drop ?_
  refine e_callW hW ?_
  tm_at "go"
  refine ⟨_, Ent.refl _, _, _, rfl, p, dd, ad, st, RowsA db as (told5 st T2 (tot sl)) :: R, w, x1, x2, x3, sl, n, room, tot sl, rfl, rfl, rfl, I, sn, sq_tl hd, fun r e => ?_, fun e ad' st' => ?_⟩
  · rw [e] at hu
    refine ⟨ks.em r, r.cls A, cls_mem r, rfl, fun ax => ?_⟩
    refine s_seq (s_asg ?_)
    tm_at "gn"
    refine do_all (T := T2) (Ent.refl _) I.w hT hs I.hl n8 (by omega) (fun b hb => by rw [I.th]; exact List.mem_range.mpr hb) fun db2 as2 has2 => ?_
    tm_at "gn"
    refine s_forR1 (a_cons (e_cb (a_cons (e_var rfl (a_nil (c_len (sq_tl (sq_tl (Has.sq rows_p))) (a_nil ?_)))))))
    rw [List.length_map, has]
    have hN : (told5 st T2 (tot sl)).length = 5 + tot sl := by unfold told5; simp; omega
    refine ⟨((told5 st T2 (tot sl)).length : Int), rfl, by omega, by omega, fun i σ L' => ∃ v, σ = [some (.ref a), some (nV n), some (.ref d2), some (nV (tot sl)), some (nV room), some (.ref p), some (.ref dws), some (.str w.str), some (.ref dn), some (.int far), some (.ref dd), some (.ref du), some (.ref db), some (.str st.stage.str), some (.ref ax), v, some (.ref db2)] ∧ L' = RowsA db2 as2 (told5 st T2 (tot sl)) :: HeapIs A.Heap p ad st :: RowsA db as (told5 st T2 (tot sl)) :: R, ⟨none, rfl, rfl⟩, ?_, ?_⟩
    · rintro i σ L' hi ⟨v, rfl, rfl⟩
      obtain ⟨a1, ea1⟩ : ∃ a1, as[i]? = some a1 := ⟨_, List.getElem?_eq_getElem (by omega)⟩
      obtain ⟨a2, ea2⟩ : ∃ a2, as2[i]? = some a2 := ⟨_, List.getElem?_eq_getElem (by omega)⟩
      obtain ⟨r1, er1⟩ : ∃ r1, (told5 st T2 (tot sl))[i]? = some r1 := ⟨_, List.getElem?_eq_getElem (by omega)⟩
      refine s_if (t_not (t_B ?_))
      tm_at "go"
      refine r_ixL (Has.sq rows_p) (atI_nat (map_at V.ref ea2)) ?_
      tm_at "go"
      refine r_ixL (sq_tl (sq_tl (Has.sq rows_p))) (atI_nat (map_at V.ref ea1)) ?_
      tm_at "go"
      refine do_numbersT (rows_i ea2 er1) (Has.sq (has_tl (has_tl (rows_i ea1 er1)))) ?_ ?_
      · exact told_len I.w hT (List.mem_of_getElem? er1)
      · exact ⟨true, rfl, both_f (s_next ⟨_, rfl, rfl⟩)⟩
    · rintro σ L' ⟨v, rfl, rfl⟩
      have hu' : SqA K R du ([r.num].map nV) := hu
      refine s_ret (e_andV (e_op (e_var rfl (e_lst (a_nil ⟨by show 0 ≤ sizeLine; decide, fun d5 => r_neE (xs := [r.num]) (sq_tl (sq_tl (sq_tl (sq_tl hu')))) (Has.sq has_hd) ⟨true, rfl, both_t ?_⟩⟩)))))
      refine e_andV (e_op (e_callS0 (a_cons (e_var rfl (a_nil ⟨_, Ent.refl _, _, rfl, r, rfl, rfl, fun dk => ?_⟩)))))
      refine e_var rfl ?_
      refine r_eqN1 (Has.sq has_hd) (sq_tl (sq_tl (sq_tl (sq_tl (sq_tl hu'))))) ⟨true, rfl, both_t ?_⟩
      refine e_andV (e_cb ?_)
      tm_at "go"
      refine c_isEV (ks.ki r) ⟨true, rfl, both_t ?_⟩
      refine e_op ?_
      tm_at "go"
      refine do_phase (ent_pick 3 rfl) ?_
      refine e_var rfl (r_eq rfl ?_)
      rw [decide_eq_true rfl]
      exact q _
  · rw [e] at hu
    refine s_ret (e_op (e_var rfl (e_lst (a_nil ⟨by show 0 ≤ sizeLine; decide, fun d => r_eqE (xs := []) (sq_tl (sq_tl (sq_tl hu))) (Has.sq has_hd) ?_⟩))))
    exact q _
theorem law_b {p a d2 dws dn : Addr} {far x1 x2 x3 : Int} {w : Wd5} {n room : Nat} {sl : List Nat} {ns : List Int} {ad2 : HAd} {st : HS} (T : HT K A) (ks : Fact5 K A) (I2 : S5 st n room sl (tot sl)) (n8 : n ≤ 8) (t8 : tot sl ≤ 10) (sn : sl.length ≤ n) (q : ∀ L' : AL, Q (.bl true) L') :
    SS (t_law_15 K A) { nx := fun _ L => Q .non L, rt := Q } [some (.ref a), some (nV n), some (.ref d2), some (nV (tot sl)), some (nV room), some (.ref p), some (.ref dws), some (.str w.str), some (.ref dn), some (.int far), none, none, none, none, none, none, none] (pt dn (.lst [.int x1, .int x2, .int x3]) :: HeapIs A.Heap p ad2 st :: pt d2 (.lst (sl.map nV)) :: [Scr K a ns]) := by
  unfold t_law_15
  tm_at "gn"
  refine ⟨by show 1 ≤ sizeLine; decide, fun d1 => ?_⟩
  tm_at "gn"
  refine r_cat has_hd (has_tl has_hd) (by show 4 ≤ sizeLine; decide) fun dd => ?_
  tm_at "gn"
  refine ⟨_, Ent.refl _, _, _, _, _, _, rfl, dd, d2, w, x1, x2, x3, sl, n, room, tot sl, rfl, rfl, rfl, rfl, rfl, Has.sq has_hd, sq_tl (sq_tl (sq_tl (sq_tl (Has.sq has_hd)))), by omega, fun du => ?_⟩
  tm_at "gn"
  obtain ⟨T2, hT, hs⟩ := seen_sorted st.seen
  refine do_all (T := T2) (ent_pick 4 rfl) I2.w hT hs I2.hl n8 (by omega) (fun b hb => by rw [I2.th]; exact List.mem_range.mpr hb) fun db as has => ?_
  tm_at "gn"
  refine do_phase ent_swap ?_
  refine law_try (as := as) (far := far) (x1 := x1) (x2 := x2) (x3 := x3) (dd := dd) (du := du) T ks I2 n8 t8 sn q (sq_tl (Has.sq has_hd)) (Has.sq has_hd) hT hs has
end
/-! law_k05_refused: the law. -/
def N_law : List Str := ["_law_script", "_law_many", "_law_slots", "_law_total", "_law_room", "_law_heap", "_law_words", "_law_word", "_law_numbers_here", "_law_far", "_law_deed", "_law_due_here", "_law_before", "_law_phase", "_law_e", "_law_k", "_law_after"]
def t_law (K : PySem.W.Frag) (A : Ex) (E : XK) : TS :=
    (tSeq (tAsg (tOp rAddI (tC (.int 1)) (tOp rModI (tCall (lift (P_law_cell_at K A)) [] E0 (tCons (tVar 0) (tCons (tC (.int 0)) tNil))) (tC (.int 8)))) (gName 1))
    (tSeq (tAsg (tLc (iRng1 (tCons (tCB rMin2 (tCons (tVar 1) (tCons (tOp rModI (tCall (lift (P_law_cell_at K A)) [] E0 (tCons (tVar 0) (tCons (tC (.int 1)) tNil))) (tC (.int 6))) tNil))) tNil)) (gName 15) tYes (tOp rModI (tCall (lift (P_law_cell_at K A)) [] E0 (tCons (tVar 0) (tCons (tOp rAddI (tC (.int 3)) (tVar 15)) tNil))) (tC (.int 5))) [15]) (gName 2))
    (tSeq (tAsg (tOp rAddI (tCB (rLen K) (tCons (tVar 2) tNil)) (tCB rInt1 (tCons (tOp (rNeD K) (tVar 2) (tLst tNil)) tNil))) (gName 3))
    (tSeq (tAsg (tCB rMax2 (tCons (tC (.int 1)) (tCons (tOp rAddI (tVar 3) (tOp rModI (tOp rDivI (tCall (lift (P_law_cell_at K A)) [] E0 (tCons (tVar 0) (tCons (tC (.int 1)) tNil))) (tC (.int 6))) (tC (.int 3)))) tNil))) (gName 4))
    (tSeq (tAsg (tMake A.Heap (lift (P_init K A)) [] E0 (tCons (tVar 1) (tCons (tVar 4) tNil))) (gName 5))
    (tSeq (tDrop (tCall (lift (P_law_laid K A)) [] E0 (tCons (tVar 5) (tCons (tVar 2) (tCons (tLc (iRng1 (tCons (tCB (rLen K) (tCons (tVar 2) tNil)) tNil)) (gName 15) tYes (tCall (lift (P_law_cell_at K A)) [] E0 (tCons (tVar 0) (tCons (tOp rAddI (tC (.int 8)) (tVar 15)) tNil))) [15]) tNil)))))
    (tSeq (tDrop (tMeth A.Heap "work" (lift (P_work K A)) [] E0 (tVar 5) (tCons (tOp rModI (tCall (lift (P_law_cell_at K A)) [] E0 (tCons (tVar 0) (tCons (tC (.int 2)) tNil))) (tC (.int 2))) tNil)))
    (tSeq (tAsg (tLst (tCons (tC (.str "make")) (tCons (tC (.str "take")) (tCons (tC (.str "put")) (tCons (tC (.str "share")) (tCons (tC (.str "drop")) (tCons (tC (.str "held")) (tCons (tC (.str "look")) (tCons (tC (.str "work")) tNil))))))))) (gName 6))
    (tSeq (tAsg (tOp (rIxL K) (tVar 6) (tOp rModI (tOp rDivI (tCall (lift (P_law_cell_at K A)) [] E0 (tCons (tVar 0) (tCons (tC (.int 2)) tNil))) (tC (.int 2))) (tC (.int 8)))) (gName 7))
    (tSeq (tAsg (tLst (tCons (tOp rSubI (tOp rModI (tCall (lift (P_law_cell_at K A)) [] E0 (tCons (tVar 0) (tCons (tC (.int 13)) tNil))) (tOp rAddI (tVar 1) (tC (.int 2)))) (tC (.int 1))) (tCons (tOp rSubI (tOp rModI (tCall (lift (P_law_cell_at K A)) [] E0 (tCons (tVar 0) (tCons (tC (.int 14)) tNil))) (tOp rAddI (tVar 1) (tC (.int 2)))) (tC (.int 1))) tNil))) (gName 8))
    (tSeq (tDrop (tBM K "list" rAppend (tVar 8) (tCons (tOp rSubI (tOp rModI (tCall (lift (P_law_cell_at K A)) [] E0 (tCons (tVar 0) (tCons (tC (.int 15)) tNil))) (tC (.int 8))) (tC (.int 2))) tNil)))
    (tSeq (tIfS (tTest (tOp rEq (tVar 7) (tC (.str "look")))) (tAsg (tOp rSubI (tOp rModI (tCall (lift (P_law_cell_at K A)) [] E0 (tCons (tVar 0) (tCons (tC (.int 15)) tNil))) (tOp rAddI (tVar 3) (tC (.int 2)))) (tC (.int 1))) (gSub (tVar 8) (tC (.int 2)) rSetL)) tNext)
    (tSeq (tIfS (tTest (tOp rEq (tVar 7) (tC (.str "work")))) (tAsg (tOp (rIxL K) (tLst (tCons (tC (.int 0)) (tCons (tUn rNegI (tC (.int 1))) (tCons (tC (.int 2501)) (tCons (tOp rAddI (tC (.int 2501)) (tOp rModI (tOp rDivI (tCall (lift (P_law_cell_at K A)) [] E0 (tCons (tVar 0) (tCons (tC (.int 15)) tNil))) (tC (.int 5))) (tC (.int 7500)))) (tCons (tUn rNegI (tC (.int 3))) (tCons (tC (.int 2500)) tNil))))))) (tOp rModI (tCall (lift (P_law_cell_at K A)) [] E0 (tCons (tVar 0) (tCons (tC (.int 15)) tNil))) (tC (.int 6)))) (gSub (tVar 8) (tC (.int 2)) rSetL)) tNext)
    (tSeq (tAsg (tCall (lift (P_law_cell_at K A)) [] E0 (tCons (tVar 0) (tCons (tC (.int 16)) tNil))) (gName 9))
    (tSeq (tIfS (tTest (tOp rEq (tOp rModI (tVar 9) (tC (.int 4))) (tC (.int 1)))) (tAsg (tOp rAddI (tOp (rIxL K) (tLst (tCons (tOp rPowI (tC (.int 10)) (tC (.int 30))) (tCons (tOp rSubI (tC (.int 0)) (tOp rPowI (tC (.int 10)) (tC (.int 30)))) tNil))) (tOp rModI (tOp rDivI (tVar 9) (tC (.int 12))) (tC (.int 2)))) (tOp rModI (tOp rDivI (tVar 9) (tC (.int 24))) (tC (.int 9)))) (gSub (tVar 8) (tOp rModI (tOp rDivI (tVar 9) (tC (.int 4))) (tC (.int 3))) rSetL)) tNext)
    (tSeq (tAsg (tOp rCat (tLst (tCons (tVar 7) tNil)) (tVar 8)) (gName 10))
    (tSeq (tAsg (tCall (lift (P_law_due K A)) [] E0 (tCons (tVar 10) (tCons (tVar 2) (tCons (tVar 1) (tCons (tVar 4) (tCons (tVar 3) tNil)))))) (gName 11))
    (tSeq (tAsg (tCall (lift (P_law_all K A)) [] E0 (tCons (tVar 5) (tCons (tVar 1) (tCons (tVar 3) tNil)))) (gName 12))
    (tSeq (tAsg (tMeth A.Heap "phase" (lift (P_phase K A)) [] E0 (tVar 5) tNil) (gName 13))
    (tSeq (tTryA K (.ref A.HeapError) 14 [A.NoBox, A.NoHand, A.NoRoom, A.NoSlot, A.NoWork, A.NothingHeld] (fun Cx ax => (tSeq (tAsg (tCall (lift (P_law_all K A)) [] E0 (tCons (tVar 5) (tCons (tVar 1) (tCons (tVar 3) tNil)))) (gName 16))
    (tSeq (tFor (iRng1 (tCons (tCB (rLen K) (tCons (tVar 12) tNil)) tNil)) (gName 15)
      (tIfS (tNot (tB (tCall (lift (P_law_numbers K A)) [] E0 (tCons (tOp (rIxL K) (tVar 16) (tVar 15)) (tCons (tOp (rIxL K) (tVar 12) (tVar 15)) tNil))))) (tRet (tC (.bl false))) tNext))
    (tRet (tAndV (tOp (rNeD K) (tVar 11) (tLst tNil)) (tAndV (tOp (rEqD K) (tCallS (lift (P_law_kinds K A ax Cx)) (fun _ => E0) (tCons (tVar 14) tNil)) (tVar 11)) (tAndV (tCB (rIsE K Cx ax) (tCons (tVar 14) (tCons (tC (.ty "ValueError")) tNil))) (tOp rEq (tMeth A.Heap "phase" (lift (P_phase K A)) [] E0 (tVar 5) tNil) (tVar 13))))))))) (fun W => (tDrop (tCallS (lift (P_law_askedR K A)) (WE W) (tCons (tVar 5) (tCons (tVar 10) tNil))))))
    (tRet (tOp (rEqD K) (tVar 11) (tLst tNil)))))))))))))))))))))))
section
variable {K : PySem.W.Frag} {A : Ex} {E : XK} {vs : List V} {L R : AL} {Q : V → AL → Prop} {Ea : Value → AL → Prop}
theorem p_law_probe (T : HT K A) (ks : Fact5 K A) (he : ELe Ea E) (h : P_law K A vs L Q Ea) : SS (t_law K A E) { nx := fun _ L => Q .non L, rt := Q } (start N_law vs) L := by
  obtain ⟨_, rfl, a, ns, rfl, rfl, hl, q⟩ := h
  obtain ⟨n, hn⟩ : ∃ n : Nat, 1 + cell ns 0 % 8 = (n : Int) := ⟨(1 + cell ns 0 % 8).toNat, by omega⟩
  have n1 : 1 ≤ n := by omega
  have n8 : n ≤ 8 := by omega
  unfold t_law
  tm_at "gn"
  rw [hn]
  obtain ⟨m, hm⟩ : ∃ m : Nat, min (n : Int) (cell ns 1 % 6) = (m : Int) := ⟨(min (n : Int) (cell ns 1 % 6)).toNat, by omega⟩
  have mn : m ≤ n := by omega
  have m5 : m ≤ 5 := by omega
  refine e_lcPlainR m (fun _ => true) (fun i => nV (cell ns (3 + (i : Int)) % 5).toNat) (by omega) (fun _ => rfl) ?_ (fun i hi L' en => t_yes ⟨rfl, rfl⟩) (fun i hi _ L' en => ?_) fun d2 => ?_
  · tm_at "go"
    have e : (if cell ns 1 % 6 < (n : Int) then cell ns 1 % 6 else (n : Int)) = (m : Int) := by split <;> omega
    rw [e]
    exact ⟨rfl, rfl⟩
  · tm_at "go"
    refine do_cell (scr_hd.ent en) (by omega) ?_
    tm_at "go"
    exact ⟨congrArg V.int (by omega), rfl⟩
  · rw [List.filter_eq_self.mpr (fun _ _ => rfl)]
    have e2 : ((List.range m).map fun i : Nat => nV (cell ns (3 + (i : Int)) % 5).toNat) = ((List.range m).map fun i : Nat => (cell ns (3 + (i : Int)) % 5).toNat).map nV := by rw [List.map_map]; rfl
    rw [e2]
    have s4 : ∀ s ∈ (List.range m).map (fun i : Nat => (cell ns (3 + (i : Int)) % 5).toNat), s ≤ 4 := fun s hs => by
      obtain ⟨i, _, rfl⟩ := List.mem_map.mp hs
      omega
    have sn : ((List.range m).map (fun i : Nat => (cell ns (3 + (i : Int)) % 5).toNat)).length = m := by rw [List.length_map, List.length_range]
    generalize (List.range m).map (fun i : Nat => (cell ns (3 + (i : Int)) % 5).toNat) = sl at s4 sn ⊢
    tm_at "gn"
    refine ⟨by show 0 ≤ sizeLine; decide, fun d3 => r_neE (xs := sl) (sq_tl (Has.sq has_hd)) (Has.sq has_hd) ?_⟩
    tm_at "gn"
    have et : (((sl.map nV).length : Int) + if (!sl.isEmpty) = true then 1 else 0) = (tot sl : Int) := by
      unfold tot
      rw [List.length_map]
      cases sl with
      | nil => rfl
      | cons _ _ => rfl
    rw [et]
    have t6 : tot sl ≤ sl.length + 1 := by unfold tot; split <;> omega
    obtain ⟨room, hr⟩ : ∃ room : Nat, (if (tot sl : Int) + cell ns 1 / 6 % 3 > 1 then (tot sl : Int) + cell ns 1 / 6 % 3 else 1) = (room : Int) := ⟨(if (tot sl : Int) + cell ns 1 / 6 % 3 > 1 then (tot sl : Int) + cell ns 1 / 6 % 3 else 1).toNat, by split <;> omega⟩
    have r1 : 1 ≤ room := by split at hr <;> omega
    have r2 : room ≤ 10 := by split at hr <;> omega
    have r3 : tot sl ≤ room := by split at hr <;> omega
    rw [hr]
    clear hr et
    refine e_make ele0 ?_
    tm_at "gn"
    intro p dx
    refine ⟨_, Ent.refl _, _, _, _, rfl, p, dx, _, (n : Int), (room : Int), rfl, rfl, rfl, rfl, fun _ ad => ⟨rfl, ?_⟩, fun nn => absurd ⟨⟨by omega, by omega⟩, by omega, by omega⟩ nn⟩
    rw [Int.toNat_natCast, Int.toNat_natCast]
    tm_at "gn"
    refine e_lcPlainR sl.length (fun _ => true) (fun i => .int (cell ns (8 + (i : Int)))) (by omega) (fun _ => rfl) ?_ (fun i hi L' en => t_yes ⟨rfl, rfl⟩) (fun i hi _ L' en => ?_) fun dc => ?_
    · tm_at "go"
      rw [List.length_map]
      exact ⟨rfl, rfl⟩
    · tm_at "go"
      refine do_cell ((sq_tl (sq_tl (sq_tl scr_hd))).ent en) (by omega) ?_
      exact ⟨rfl, rfl⟩
    rw [List.filter_eq_self.mpr (fun _ _ => rfl)]
    have e3 : ((List.range sl.length).map fun i : Nat => V.int (cell ns (8 + (i : Int)))) = ((List.range sl.length).map fun i : Nat => cell ns (8 + (i : Int))).map V.int := by rw [List.map_map]; rfl
    rw [e3]
    have c3 : ((List.range sl.length).map fun i : Nat => cell ns (8 + (i : Int))).length = sl.length := by rw [List.length_map, List.length_range]
    generalize (List.range sl.length).map (fun i : Nat => cell ns (8 + (i : Int))) = cs at c3 ⊢
    tm_at "gn"
    refine do_laid (R := pt dc (.lst (cs.map V.int)) :: pt d3 (.lst []) :: pt d2 (.lst (sl.map nV)) :: [Scr K a ns]) ent_swap (sq_tl (sq_tl (Has.sq has_hd))) (Has.sq has_hd) c3 (by omega) n8 s4 r3 fun ad1 st1 I1 sg => ?_
    tm_at "gn"
    obtain ⟨c, hc⟩ : ∃ c : Nat, cell ns 2 % 2 = (c : Int) := ⟨(cell ns 2 % 2).toNat, by omega⟩
    rw [hc]
    obtain ⟨G, j1⟩ := I1.j
    refine do_work (n := c) (Ent.refl _) (by omega) (j1.hands_pc c) fun dw ad2 => ?_
    have I2 := I1.work sg (c := c) (by omega)
    generalize (HS.work c st1).1 = st at I2 ⊢
    generalize (HS.work c st1).2 = fr
    tm_at "gn"
    refine ⟨by show 8 ≤ sizeLine; decide, fun dws => ?_⟩
    tm_at "gn"
    obtain ⟨w, hw⟩ : ∃ w : Wd5, atI [V.str "make", V.str "take", V.str "put", V.str "share", V.str "drop", V.str "held", V.str "look", V.str "work"] (cell ns 2 / 2 % 8) = some (.str w.str) := by
      have h : cell ns 2 / 2 % 8 = 0 ∨ cell ns 2 / 2 % 8 = 1 ∨ cell ns 2 / 2 % 8 = 2 ∨ cell ns 2 / 2 % 8 = 3 ∨ cell ns 2 / 2 % 8 = 4 ∨ cell ns 2 / 2 % 8 = 5 ∨ cell ns 2 / 2 % 8 = 6 ∨ cell ns 2 / 2 % 8 = 7 := by omega
      rcases h with h | h | h | h | h | h | h | h <;> rw [h]
      · exact ⟨.make, rfl⟩
      · exact ⟨.take, rfl⟩
      · exact ⟨.put, rfl⟩
      · exact ⟨.share, rfl⟩
      · exact ⟨.drop, rfl⟩
      · exact ⟨.held, rfl⟩
      · exact ⟨.look, rfl⟩
      · exact ⟨.work, rfl⟩
    refine r_ixL (Has.sq has_hd) hw ?_
    tm_at "gn"
    refine ⟨by show 2 ≤ sizeLine; decide, fun dn => ?_⟩
    tm_at "gn"
    refine r_append has_hd (by show 2 < sizeLine; decide) wr_hd ?_
    tm_at "gn"
    generalize cell ns 13 % ((n : Int) + 2) - 1 = x1
    generalize cell ns 14 % ((n : Int) + 2) - 1 = x2
    generalize cell ns 15 % 8 - 2 = x3
    refine s_ent (M := pt dn (.lst [.int x1, .int x2, .int x3]) :: HeapIs A.Heap p ad2 st :: pt d2 (.lst (sl.map nV)) :: [Scr K a ns]) (Ent.cons (Ent.drop.trans (Ent.drop.trans (Ent.cons (Ent.drop.trans Ent.drop))))) ?_
    refine s_mid (Mid := fun σ L' => ∃ i j k : Int, σ = [some (.ref a), some (nV n), some (.ref d2), some (nV (tot sl)), some (nV room), some (.ref p), some (.ref dws), some (.str w.str), some (.ref dn), none, none, none, none, none, none, none, none] ∧ L' = pt dn (.lst [.int i, .int j, .int k]) :: HeapIs A.Heap p ad2 st :: pt d2 (.lst (sl.map nV)) :: [Scr K a ns]) ?_ ?_
    · refine s_if (t_test ?_)
      tm_at "go"
      refine ex_c (fun _ => ?_) fun _ => s_next ⟨_, Ent.refl _, _, _, _, rfl, rfl⟩
      refine s_setL ?_
      tm_at "go"
      refine r_setL has_hd (ixN_nat (i := 2) (by show 2 < 3; decide)) wr_hd ?_
      exact ⟨_, Ent.refl _, _, _, _, rfl, rfl⟩
    rintro _ _ ⟨x1, x2, x3, rfl, rfl⟩
    refine s_seq ?_
    refine s_mid (Mid := fun σ L' => ∃ i j k : Int, σ = [some (.ref a), some (nV n), some (.ref d2), some (nV (tot sl)), some (nV room), some (.ref p), some (.ref dws), some (.str w.str), some (.ref dn), none, none, none, none, none, none, none, none] ∧ L' = pt dn (.lst [.int i, .int j, .int k]) :: HeapIs A.Heap p ad2 st :: pt d2 (.lst (sl.map nV)) :: [Scr K a ns]) ?_ ?_
    · refine s_if (t_test ?_)
      tm_at "go"
      refine ex_c (fun _ => ?_) fun _ => s_next ⟨_, Ent.refl _, _, _, _, rfl, rfl⟩
      refine s_setL ?_
      tm_at "go"
      refine r_neg ?_
      tm_at "go"
      refine r_neg ?_
      tm_at "go"
      refine ⟨by show 6 ≤ sizeLine; decide, fun dl => ?_⟩
      tm_at "go"
      obtain ⟨v, hv⟩ : ∃ v : Int, atI [V.int 0, V.int (-1), V.int 2501, V.int (2501 + cell ns 15 / 5 % 7500), V.int (-3), V.int 2500] (cell ns 15 % 6) = some (.int v) := by
        have h : cell ns 15 % 6 = 0 ∨ cell ns 15 % 6 = 1 ∨ cell ns 15 % 6 = 2 ∨ cell ns 15 % 6 = 3 ∨ cell ns 15 % 6 = 4 ∨ cell ns 15 % 6 = 5 := by omega
        rcases h with h | h | h | h | h | h <;> rw [h] <;> exact ⟨_, rfl⟩
      refine r_ixL (Has.sq has_hd) hv ?_
      tm_at "go"
      refine r_setL (has_tl has_hd) (ixN_nat (i := 2) (by show 2 < 3; decide)) (wr_tl wr_hd) ?_
      exact ⟨_, Ent.drop, _, _, _, rfl, rfl⟩
    rintro _ _ ⟨x1, x2, x3, rfl, rfl⟩
    tm_at "gn"
    generalize cell ns 16 = far
    refine s_mid (Mid := fun σ L' => ∃ i j k : Int, σ = [some (.ref a), some (nV n), some (.ref d2), some (nV (tot sl)), some (nV room), some (.ref p), some (.ref dws), some (.str w.str), some (.ref dn), some (.int far), none, none, none, none, none, none, none] ∧ L' = pt dn (.lst [.int i, .int j, .int k]) :: HeapIs A.Heap p ad2 st :: pt d2 (.lst (sl.map nV)) :: [Scr K a ns]) ?_ ?_
    · refine s_if (t_test ?_)
      tm_at "go"
      refine ex_c (fun _ => ?_) fun _ => s_next ⟨_, Ent.refl _, _, _, _, rfl, rfl⟩
      refine s_setL ?_
      tm_at "go"
      generalize (10 : Int) ^ Int.toNat 30 = big
      refine ⟨by show 2 ≤ sizeLine; decide, fun dl => ?_⟩
      tm_at "go"
      obtain ⟨v, hv⟩ : ∃ v : Int, atI [V.int big, V.int (0 - big)] (far / 12 % 2) = some (.int v) := by
        have h : far / 12 % 2 = 0 ∨ far / 12 % 2 = 1 := by omega
        rcases h with h | h <;> rw [h] <;> exact ⟨_, rfl⟩
      refine r_ixL (Has.sq has_hd) hv ?_
      tm_at "go"
      have h : far / 4 % 3 = 0 ∨ far / 4 % 3 = 1 ∨ far / 4 % 3 = 2 := by omega
      rcases h with h | h | h <;> rw [h]
      · exact r_setL (has_tl has_hd) (ixN_nat (i := 0) (by show 0 < 3; decide)) (wr_tl wr_hd) ⟨_, Ent.drop, _, _, _, rfl, rfl⟩
      · exact r_setL (has_tl has_hd) (ixN_nat (i := 1) (by show 1 < 3; decide)) (wr_tl wr_hd) ⟨_, Ent.drop, _, _, _, rfl, rfl⟩
      · exact r_setL (has_tl has_hd) (ixN_nat (i := 2) (by show 2 < 3; decide)) (wr_tl wr_hd) ⟨_, Ent.drop, _, _, _, rfl, rfl⟩
    rintro _ _ ⟨x1, x2, x3, rfl, rfl⟩
    exact law_b T ks I2 n8 (by omega) (by omega) q
theorem p_law (T : HT K A) (e1 : PySem.W.exmOne K (.ref A.NoBox) (.ref A.HeapError) = some true) (e2 : PySem.W.exmOne K (.ref A.NoHand) (.ref A.HeapError) = some true) (e3 : PySem.W.exmOne K (.ref A.NoRoom) (.ref A.HeapError) = some true) (e4 : PySem.W.exmOne K (.ref A.NoSlot) (.ref A.HeapError) = some true) (e5 : PySem.W.exmOne K (.ref A.NoWork) (.ref A.HeapError) = some true) (e6 : PySem.W.exmOne K (.ref A.NothingHeld) (.ref A.HeapError) = some true) (k1 : PySem.W.kitOne K (.ref A.NoBox) (.type "ValueError") = some true) (k2 : PySem.W.kitOne K (.ref A.NoHand) (.type "ValueError") = some true) (k3 : PySem.W.kitOne K (.ref A.NoRoom) (.type "ValueError") = some true) (k4 : PySem.W.kitOne K (.ref A.NoSlot) (.type "ValueError") = some true) (k5 : PySem.W.kitOne K (.ref A.NoWork) (.type "ValueError") = some true) (k6 : PySem.W.kitOne K (.ref A.NothingHeld) (.type "ValueError") = some true) (he : ELe Ea E) (h : P_law K A vs L Q Ea) : SS (t_law K A E) { nx := fun _ L => Q .non L, rt := Q } (start N_law vs) L :=
  p_law_probe T ⟨fun r => match r with | .hand => e2 | .slot => e4 | .room => e3 | .held => e6 | .box => e1 | .work => e5, fun r => match r with | .hand => k2 | .slot => k4 | .room => k3 | .held => k6 | .box => k1 | .work => k5⟩ he h
end
def top (i : Nat) : Stmt := PySem.Challenge.pw_markpause_k05_refused.main.body.getD i (.Pass ⟨0, 0, 0, 0⟩)
/-- where the top has laid the defs -/
structure Dd where
  f_law_cell_at : Addr
  d_law_cell_at : FuncData
  f_phase : Addr
  d_phase : FuncData
  f_law_kinds : Addr
  d_law_kinds : FuncData
  f_law_whole : Addr
  d_law_whole : FuncData
  f_look : Addr
  d_look : FuncData
  f_rounds : Addr
  d_rounds : FuncData
  f_need_hand : Addr
  d_need_hand : FuncData
  f_waiting : Addr
  d_waiting : FuncData
  f_marked : Addr
  d_marked : FuncData
  f_boxes : Addr
  d_boxes : FuncData
  f_sweep : Addr
  d_sweep : FuncData
  f_mark : Addr
  d_mark : FuncData
  f_rest : Addr
  d_rest : FuncData
  f_row_of : Addr
  d_row_of : FuncData
  f_law_due : Addr
  d_law_due : FuncData
  f_law_numbers : Addr
  d_law_numbers : FuncData
  f_held : Addr
  d_held : FuncData
  f_look_at : Addr
  d_look_at : FuncData
  f_begin : Addr
  d_begin : FuncData
  f_settle : Addr
  d_settle : FuncData
  f_drop : Addr
  d_drop : FuncData
  f_share : Addr
  d_share : FuncData
  f_put : Addr
  d_put : FuncData
  f_take : Addr
  d_take : FuncData
  f_make : Addr
  d_make : FuncData
  f_init : Addr
  d_init : FuncData
  f_law_all : Addr
  d_law_all : FuncData
  f_piece : Addr
  d_piece : FuncData
  f_law_laid : Addr
  d_law_laid : FuncData
  f_work : Addr
  d_work : FuncData
  f_law_askedR : Addr
  d_law_askedR : FuncData
  f_law : Addr
  d_law : FuncData
/-- what the walk asks of the top -/
structure Txt (K : PySem.W.Frag) (mg : Str → Option Value) (A : Ex) (D : Dd) (w : World) : Prop where
  H : HT K A
  F_law_cell_at : Fun K "_law_cell_at" "_law_cell_at" (top 24) D.f_law_cell_at D.d_law_cell_at
  b_law_cell_at : Binds K D.d_law_cell_at ["_law_script", "_law_k"] []
  m_law_cell_at : mg "_law_cell_at" = some (.ref D.f_law_cell_at)
  k_law_cell_at : PySem.W.keepIn K (.ref D.f_law_cell_at) = true
  F_phase : Fun K "phase" "Heap.phase" (inClass (top 22) 13) D.f_phase D.d_phase
  b_phase : Binds K D.d_phase ["self"] []
  M_phase : Meth K A.Heap "phase" D.f_phase
  F_law_kinds : Fun K "_law_kinds" "_law_kinds" (top 27) D.f_law_kinds D.d_law_kinds
  b_law_kinds : Binds K D.d_law_kinds ["_law_e"] []
  m_law_kinds : mg "_law_kinds" = some (.ref D.f_law_kinds)
  k_law_kinds : PySem.W.keepIn K (.ref D.f_law_kinds) = true
  F_law_whole : Fun K "_law_whole" "_law_whole" (top 25) D.f_law_whole D.d_law_whole
  b_law_whole : Binds K D.d_law_whole ["_law_found"] []
  m_law_whole : mg "_law_whole" = some (.ref D.f_law_whole)
  k_law_whole : PySem.W.keepIn K (.ref D.f_law_whole) = true
  F_look : Fun K "look" "Heap.look" (inClass (top 22) 10) D.f_look D.d_look
  b_look : Binds K D.d_look ["self", "box"] []
  M_look : Meth K A.Heap "look" D.f_look
  F_rounds : Fun K "rounds" "Heap.rounds" (inClass (top 22) 16) D.f_rounds D.d_rounds
  b_rounds : Binds K D.d_rounds ["self"] []
  M_rounds : Meth K A.Heap "rounds" D.f_rounds
  F_need_hand : Fun K "need_hand" "Heap.need_hand" (inClass (top 22) 2) D.f_need_hand D.d_need_hand
  b_need_hand : Binds K D.d_need_hand ["self", "hand"] []
  M_need_hand : Meth K A.Heap "need_hand" D.f_need_hand
  F_waiting : Fun K "waiting" "Heap.waiting" (inClass (top 22) 15) D.f_waiting D.d_waiting
  b_waiting : Binds K D.d_waiting ["self"] []
  M_waiting : Meth K A.Heap "waiting" D.f_waiting
  F_marked : Fun K "marked" "Heap.marked" (inClass (top 22) 14) D.f_marked D.d_marked
  b_marked : Binds K D.d_marked ["self"] []
  M_marked : Meth K A.Heap "marked" D.f_marked
  F_boxes : Fun K "boxes" "Heap.boxes" (inClass (top 22) 11) D.f_boxes D.d_boxes
  b_boxes : Binds K D.d_boxes ["self"] []
  M_boxes : Meth K A.Heap "boxes" D.f_boxes
  F_sweep : Fun K "sweep" "sweep" (top 14) D.f_sweep D.d_sweep
  b_sweep : Binds K D.d_sweep ["heap"] []
  m_sweep : mg "sweep" = some (.ref D.f_sweep)
  k_sweep : PySem.W.keepIn K (.ref D.f_sweep) = true
  F_mark : Fun K "mark" "mark" (top 11) D.f_mark D.d_mark
  b_mark : Binds K D.d_mark ["heap", "box"] []
  m_mark : mg "mark" = some (.ref D.f_mark)
  k_mark : PySem.W.keepIn K (.ref D.f_mark) = true
  F_rest : Fun K "rest" "Heap.rest" (inClass (top 22) 1) D.f_rest D.d_rest
  b_rest : Binds K D.d_rest ["self"] []
  M_rest : Meth K A.Heap "rest" D.f_rest
  F_row_of : Fun K "row_of" "Heap.row_of" (inClass (top 22) 3) D.f_row_of D.d_row_of
  b_row_of : Binds K D.d_row_of ["self", "hand", "slot"] []
  M_row_of : Meth K A.Heap "row_of" D.f_row_of
  F_law_due : Fun K "_law_due" "_law_due" (top 28) D.f_law_due D.d_law_due
  b_law_due : Binds K D.d_law_due ["_law_deed", "_law_slots", "_law_many", "_law_room", "_law_total"] []
  m_law_due : mg "_law_due" = some (.ref D.f_law_due)
  k_law_due : PySem.W.keepIn K (.ref D.f_law_due) = true
  F_law_numbers : Fun K "_law_numbers" "_law_numbers" (top 26) D.f_law_numbers D.d_law_numbers
  b_law_numbers : Binds K D.d_law_numbers ["_law_found", "_law_due_here"] []
  m_law_numbers : mg "_law_numbers" = some (.ref D.f_law_numbers)
  k_law_numbers : PySem.W.keepIn K (.ref D.f_law_numbers) = true
  F_held : Fun K "held" "Heap.held" (inClass (top 22) 9) D.f_held D.d_held
  b_held : Binds K D.d_held ["self", "hand"] []
  M_held : Meth K A.Heap "held" D.f_held
  F_look_at : Fun K "look_at" "look_at" (top 13) D.f_look_at D.d_look_at
  b_look_at : Binds K D.d_look_at ["heap"] []
  m_look_at : mg "look_at" = some (.ref D.f_look_at)
  k_look_at : PySem.W.keepIn K (.ref D.f_look_at) = true
  F_begin : Fun K "begin" "begin" (top 12) D.f_begin D.d_begin
  b_begin : Binds K D.d_begin ["heap"] []
  m_begin : mg "begin" = some (.ref D.f_begin)
  k_begin : PySem.W.keepIn K (.ref D.f_begin) = true
  F_settle : Fun K "settle" "settle" (top 15) D.f_settle D.d_settle
  b_settle : Binds K D.d_settle ["heap"] []
  m_settle : mg "settle" = some (.ref D.f_settle)
  k_settle : PySem.W.keepIn K (.ref D.f_settle) = true
  F_drop : Fun K "drop" "Heap.drop" (inClass (top 22) 8) D.f_drop D.d_drop
  b_drop : Binds K D.d_drop ["self", "hand"] []
  M_drop : Meth K A.Heap "drop" D.f_drop
  F_share : Fun K "share" "Heap.share" (inClass (top 22) 7) D.f_share D.d_share
  b_share : Binds K D.d_share ["self", "hand", "other"] []
  M_share : Meth K A.Heap "share" D.f_share
  F_put : Fun K "put" "Heap.put" (inClass (top 22) 6) D.f_put D.d_put
  b_put : Binds K D.d_put ["self", "hand", "slot", "other"] []
  M_put : Meth K A.Heap "put" D.f_put
  F_take : Fun K "take" "Heap.take" (inClass (top 22) 5) D.f_take D.d_take
  b_take : Binds K D.d_take ["self", "hand", "other", "slot"] []
  M_take : Meth K A.Heap "take" D.f_take
  F_make : Fun K "make" "Heap.make" (inClass (top 22) 4) D.f_make D.d_make
  b_make : Binds K D.d_make ["self", "hand", "slots"] []
  M_make : Meth K A.Heap "make" D.f_make
  F_init : Fun K "__init__" "Heap.__init__" (inClass (top 22) 0) D.f_init D.d_init
  b_init : Binds K D.d_init ["self", "hands", "room"] []
  M_init : Mk K A.Heap D.f_init
  F_law_all : Fun K "_law_all" "_law_all" (top 31) D.f_law_all D.d_law_all
  b_law_all : Binds K D.d_law_all ["_law_heap", "_law_many", "_law_total"] []
  m_law_all : mg "_law_all" = some (.ref D.f_law_all)
  k_law_all : PySem.W.keepIn K (.ref D.f_law_all) = true
  F_piece : Fun K "piece" "piece" (top 16) D.f_piece D.d_piece
  b_piece : Binds K D.d_piece ["heap"] []
  m_piece : mg "piece" = some (.ref D.f_piece)
  k_piece : PySem.W.keepIn K (.ref D.f_piece) = true
  F_law_laid : Fun K "_law_laid" "_law_laid" (top 30) D.f_law_laid D.d_law_laid
  b_law_laid : Binds K D.d_law_laid ["_law_heap", "_law_slots", "_law_cells"] []
  m_law_laid : mg "_law_laid" = some (.ref D.f_law_laid)
  k_law_laid : PySem.W.keepIn K (.ref D.f_law_laid) = true
  F_work : Fun K "work" "Heap.work" (inClass (top 22) 12) D.f_work D.d_work
  b_work : Binds K D.d_work ["self", "pieces"] []
  M_work : Meth K A.Heap "work" D.f_work
  F_law_askedR : Fun K "_law_asked" "_law_asked" (top 29) D.f_law_askedR D.d_law_askedR
  b_law_askedR : Binds K D.d_law_askedR ["_law_heap", "_law_deed"] []
  m_law_askedR : mg "_law_asked" = some (.ref D.f_law_askedR)
  k_law_askedR : PySem.W.keepIn K (.ref D.f_law_askedR) = true
  F_law : Fun K "law" "law" (top 32) D.f_law D.d_law
  b_law : Binds K D.d_law ["_law_script"] []
  m_law : mg "law" = some (.ref D.f_law)
  k_law : PySem.W.keepIn K (.ref D.f_law) = true
  g_Heap : mg "Heap" = some (.ref A.Heap)
  g_HeapError : mg "HeapError" = some (.ref A.HeapError)
  g_NoHand : mg "NoHand" = some (.ref A.NoHand)
  g_NoSlot : mg "NoSlot" = some (.ref A.NoSlot)
  g_NoRoom : mg "NoRoom" = some (.ref A.NoRoom)
  g_NothingHeld : mg "NothingHeld" = some (.ref A.NothingHeld)
  g_NoBox : mg "NoBox" = some (.ref A.NoBox)
  g_NoWork : mg "NoWork" = some (.ref A.NoWork)
  g_NoHeap : mg "NoHeap" = some (.ref A.NoHeap)
  g_NoDeed : mg "NoDeed" = some (.ref A.NoDeed)
  x_NoBox : PySem.W.excIn K A.NoBox [.type "ValueError", .type "Exception", .type "BaseException", .type "object"] "ValueError.__new__" = true
  kx_NoBox : PySem.W.keepIn K (.ref A.NoBox) = true
  bx_NoBox : PySem.W.subIn K (.ref A.NoBox) (.type "BaseException") = some true
  tx_NoBox : PySem.W.typeIn K (.ref A.NoBox) = some (.type "type")
  x_NoHand : PySem.W.excIn K A.NoHand [.type "ValueError", .type "Exception", .type "BaseException", .type "object"] "ValueError.__new__" = true
  kx_NoHand : PySem.W.keepIn K (.ref A.NoHand) = true
  bx_NoHand : PySem.W.subIn K (.ref A.NoHand) (.type "BaseException") = some true
  tx_NoHand : PySem.W.typeIn K (.ref A.NoHand) = some (.type "type")
  x_NoHeap : PySem.W.excIn K A.NoHeap [.type "ValueError", .type "Exception", .type "BaseException", .type "object"] "ValueError.__new__" = true
  kx_NoHeap : PySem.W.keepIn K (.ref A.NoHeap) = true
  bx_NoHeap : PySem.W.subIn K (.ref A.NoHeap) (.type "BaseException") = some true
  tx_NoHeap : PySem.W.typeIn K (.ref A.NoHeap) = some (.type "type")
  x_NoRoom : PySem.W.excIn K A.NoRoom [.type "ValueError", .type "Exception", .type "BaseException", .type "object"] "ValueError.__new__" = true
  kx_NoRoom : PySem.W.keepIn K (.ref A.NoRoom) = true
  bx_NoRoom : PySem.W.subIn K (.ref A.NoRoom) (.type "BaseException") = some true
  tx_NoRoom : PySem.W.typeIn K (.ref A.NoRoom) = some (.type "type")
  x_NoSlot : PySem.W.excIn K A.NoSlot [.type "ValueError", .type "Exception", .type "BaseException", .type "object"] "ValueError.__new__" = true
  kx_NoSlot : PySem.W.keepIn K (.ref A.NoSlot) = true
  bx_NoSlot : PySem.W.subIn K (.ref A.NoSlot) (.type "BaseException") = some true
  tx_NoSlot : PySem.W.typeIn K (.ref A.NoSlot) = some (.type "type")
  x_NoWork : PySem.W.excIn K A.NoWork [.type "ValueError", .type "Exception", .type "BaseException", .type "object"] "ValueError.__new__" = true
  kx_NoWork : PySem.W.keepIn K (.ref A.NoWork) = true
  bx_NoWork : PySem.W.subIn K (.ref A.NoWork) (.type "BaseException") = some true
  tx_NoWork : PySem.W.typeIn K (.ref A.NoWork) = some (.type "type")
  x_NothingHeld : PySem.W.excIn K A.NothingHeld [.type "ValueError", .type "Exception", .type "BaseException", .type "object"] "ValueError.__new__" = true
  kx_NothingHeld : PySem.W.keepIn K (.ref A.NothingHeld) = true
  bx_NothingHeld : PySem.W.subIn K (.ref A.NothingHeld) (.type "BaseException") = some true
  tx_NothingHeld : PySem.W.typeIn K (.ref A.NothingHeld) = some (.type "type")
  em_NoBox_HeapError : PySem.W.exmOne K (.ref A.NoBox) (.ref A.HeapError) = some true
  em_NoHand_HeapError : PySem.W.exmOne K (.ref A.NoHand) (.ref A.HeapError) = some true
  em_NoRoom_HeapError : PySem.W.exmOne K (.ref A.NoRoom) (.ref A.HeapError) = some true
  em_NoSlot_HeapError : PySem.W.exmOne K (.ref A.NoSlot) (.ref A.HeapError) = some true
  em_NoWork_HeapError : PySem.W.exmOne K (.ref A.NoWork) (.ref A.HeapError) = some true
  em_NothingHeld_HeapError : PySem.W.exmOne K (.ref A.NothingHeld) (.ref A.HeapError) = some true
  ki_NoBox_NoBox : PySem.W.kitOne K (.ref A.NoBox) (.ref A.NoBox) = some true
  ki_NoBox_NoDeed : PySem.W.kitOne K (.ref A.NoBox) (.ref A.NoDeed) = some false
  ki_NoBox_NoHand : PySem.W.kitOne K (.ref A.NoBox) (.ref A.NoHand) = some false
  ki_NoBox_NoHeap : PySem.W.kitOne K (.ref A.NoBox) (.ref A.NoHeap) = some false
  ki_NoBox_NoRoom : PySem.W.kitOne K (.ref A.NoBox) (.ref A.NoRoom) = some false
  ki_NoBox_NoSlot : PySem.W.kitOne K (.ref A.NoBox) (.ref A.NoSlot) = some false
  ki_NoBox_NoWork : PySem.W.kitOne K (.ref A.NoBox) (.ref A.NoWork) = some false
  ki_NoBox_NothingHeld : PySem.W.kitOne K (.ref A.NoBox) (.ref A.NothingHeld) = some false
  ki_NoBox_ValueError : PySem.W.kitOne K (.ref A.NoBox) (.type "ValueError") = some true
  ki_NoHand_NoBox : PySem.W.kitOne K (.ref A.NoHand) (.ref A.NoBox) = some false
  ki_NoHand_NoDeed : PySem.W.kitOne K (.ref A.NoHand) (.ref A.NoDeed) = some false
  ki_NoHand_NoHand : PySem.W.kitOne K (.ref A.NoHand) (.ref A.NoHand) = some true
  ki_NoHand_NoHeap : PySem.W.kitOne K (.ref A.NoHand) (.ref A.NoHeap) = some false
  ki_NoHand_NoRoom : PySem.W.kitOne K (.ref A.NoHand) (.ref A.NoRoom) = some false
  ki_NoHand_NoSlot : PySem.W.kitOne K (.ref A.NoHand) (.ref A.NoSlot) = some false
  ki_NoHand_NoWork : PySem.W.kitOne K (.ref A.NoHand) (.ref A.NoWork) = some false
  ki_NoHand_NothingHeld : PySem.W.kitOne K (.ref A.NoHand) (.ref A.NothingHeld) = some false
  ki_NoHand_ValueError : PySem.W.kitOne K (.ref A.NoHand) (.type "ValueError") = some true
  ki_NoRoom_NoBox : PySem.W.kitOne K (.ref A.NoRoom) (.ref A.NoBox) = some false
  ki_NoRoom_NoDeed : PySem.W.kitOne K (.ref A.NoRoom) (.ref A.NoDeed) = some false
  ki_NoRoom_NoHand : PySem.W.kitOne K (.ref A.NoRoom) (.ref A.NoHand) = some false
  ki_NoRoom_NoHeap : PySem.W.kitOne K (.ref A.NoRoom) (.ref A.NoHeap) = some false
  ki_NoRoom_NoRoom : PySem.W.kitOne K (.ref A.NoRoom) (.ref A.NoRoom) = some true
  ki_NoRoom_NoSlot : PySem.W.kitOne K (.ref A.NoRoom) (.ref A.NoSlot) = some false
  ki_NoRoom_NoWork : PySem.W.kitOne K (.ref A.NoRoom) (.ref A.NoWork) = some false
  ki_NoRoom_NothingHeld : PySem.W.kitOne K (.ref A.NoRoom) (.ref A.NothingHeld) = some false
  ki_NoRoom_ValueError : PySem.W.kitOne K (.ref A.NoRoom) (.type "ValueError") = some true
  ki_NoSlot_NoBox : PySem.W.kitOne K (.ref A.NoSlot) (.ref A.NoBox) = some false
  ki_NoSlot_NoDeed : PySem.W.kitOne K (.ref A.NoSlot) (.ref A.NoDeed) = some false
  ki_NoSlot_NoHand : PySem.W.kitOne K (.ref A.NoSlot) (.ref A.NoHand) = some false
  ki_NoSlot_NoHeap : PySem.W.kitOne K (.ref A.NoSlot) (.ref A.NoHeap) = some false
  ki_NoSlot_NoRoom : PySem.W.kitOne K (.ref A.NoSlot) (.ref A.NoRoom) = some false
  ki_NoSlot_NoSlot : PySem.W.kitOne K (.ref A.NoSlot) (.ref A.NoSlot) = some true
  ki_NoSlot_NoWork : PySem.W.kitOne K (.ref A.NoSlot) (.ref A.NoWork) = some false
  ki_NoSlot_NothingHeld : PySem.W.kitOne K (.ref A.NoSlot) (.ref A.NothingHeld) = some false
  ki_NoSlot_ValueError : PySem.W.kitOne K (.ref A.NoSlot) (.type "ValueError") = some true
  ki_NoWork_NoBox : PySem.W.kitOne K (.ref A.NoWork) (.ref A.NoBox) = some false
  ki_NoWork_NoDeed : PySem.W.kitOne K (.ref A.NoWork) (.ref A.NoDeed) = some false
  ki_NoWork_NoHand : PySem.W.kitOne K (.ref A.NoWork) (.ref A.NoHand) = some false
  ki_NoWork_NoHeap : PySem.W.kitOne K (.ref A.NoWork) (.ref A.NoHeap) = some false
  ki_NoWork_NoRoom : PySem.W.kitOne K (.ref A.NoWork) (.ref A.NoRoom) = some false
  ki_NoWork_NoSlot : PySem.W.kitOne K (.ref A.NoWork) (.ref A.NoSlot) = some false
  ki_NoWork_NoWork : PySem.W.kitOne K (.ref A.NoWork) (.ref A.NoWork) = some true
  ki_NoWork_NothingHeld : PySem.W.kitOne K (.ref A.NoWork) (.ref A.NothingHeld) = some false
  ki_NoWork_ValueError : PySem.W.kitOne K (.ref A.NoWork) (.type "ValueError") = some true
  ki_NothingHeld_NoBox : PySem.W.kitOne K (.ref A.NothingHeld) (.ref A.NoBox) = some false
  ki_NothingHeld_NoDeed : PySem.W.kitOne K (.ref A.NothingHeld) (.ref A.NoDeed) = some false
  ki_NothingHeld_NoHand : PySem.W.kitOne K (.ref A.NothingHeld) (.ref A.NoHand) = some false
  ki_NothingHeld_NoHeap : PySem.W.kitOne K (.ref A.NothingHeld) (.ref A.NoHeap) = some false
  ki_NothingHeld_NoRoom : PySem.W.kitOne K (.ref A.NothingHeld) (.ref A.NoRoom) = some false
  ki_NothingHeld_NoSlot : PySem.W.kitOne K (.ref A.NothingHeld) (.ref A.NoSlot) = some false
  ki_NothingHeld_NoWork : PySem.W.kitOne K (.ref A.NothingHeld) (.ref A.NoWork) = some false
  ki_NothingHeld_NothingHeld : PySem.W.kitOne K (.ref A.NothingHeld) (.ref A.NothingHeld) = some true
  ki_NothingHeld_ValueError : PySem.W.kitOne K (.ref A.NothingHeld) (.type "ValueError") = some true
  ecs_law_kinds : ∀ C ∈ [A.NoBox, A.NoHand, A.NoRoom, A.NoSlot, A.NoWork, A.NothingHeld], ExcC K C
  ecs_law : ∀ C ∈ [A.NoBox, A.NoHand, A.NoRoom, A.NoSlot, A.NoWork, A.NothingHeld], ExcC K C
  z_ValueError : mg "ValueError" = none
  z_bool : mg "bool" = none
  z_int : mg "int" = none
  z_isinstance : mg "isinstance" = none
  z_len : mg "len" = none
  z_list : mg "list" = none
  z_max : mg "max" = none
  z_min : mg "min" = none
  z_range : mg "range" = none
  z_sorted : mg "sorted" = none
  c_MOST_HANDS : ∃ t, mg "MOST_HANDS" = some (.int 8 t)
  c_MOST_PIECES : ∃ t, mg "MOST_PIECES" = some (.int 2500 t)
  c_MOST_ROOM : ∃ t, mg "MOST_ROOM" = some (.int 1000 t)
  c_MOST_SLOTS : ∃ t, mg "MOST_SLOTS" = some (.int 4 t)
section
variable {P : Program} {w : World} {K : PySem.W.Frag} {mg : Str → Option Value} {base : Heap} {A : Ex} {D : Dd}
abbrev sm_law_cell_at : Stmt := (top 24)
theorem sc_law_cell_at : FnScope N_law_cell_at ["_law_script", "_law_k"] (defScope sm_law_cell_at) := ⟨rfl, rfl, rfl, by decide +kernel, rfl, by decide +kernel, by decide +kernel⟩
theorem ok_law_cell_at (T : Txt K mg A D w) : FnOk P w K mg base (L2N.CX P w) 1 D.f_law_cell_at D.d_law_cell_at ["_law_script", "_law_k"] (lift (P_law_cell_at K A)) := by
  refine funN T.F_law_cell_at sc_law_cell_at (lift_len pm2_len) (fun cdv Ar outer s H vs Q E hr h => ?_)
  have hu := hu_of hr
  refine ⟨t_law_cell_at K A E, ?_, lift_body h fun L Qa Ea he p => p_law_cell_at he p⟩
  exact (pss_cons (ps_if (pt_cmpR op_lt (pv 1) (pe_callB cl_len (by rfl) T.z_len (by decide +kernel) (pa_cons (pv 0) pa_nil)) (nomark _)) (pss_one (ps_ret (pe_ix ix_list (pv 0) (pv 1) (fun _ _ => rfl)))) pss_nil)
    (pss_one (ps_ret pe_int)))
abbrev sm_phase : Stmt := (inClass (top 22) 13)
theorem sc_phase : FnScope N_phase ["self"] (defScope sm_phase) := ⟨rfl, rfl, rfl, by decide +kernel, rfl, by decide +kernel, by decide +kernel⟩
theorem ok_phase (T : Txt K mg A D w) : FnOk P w K mg base (L2N.CX P w) 1 D.f_phase D.d_phase ["self"] (lift (P_phase K A)) := by
  refine funN T.F_phase sc_phase (lift_len pm1_len) (fun cdv Ar outer s H vs Q E hr h => ?_)
  have hu := hu_of hr
  refine ⟨t_phase K A E, ?_, lift_body h fun L Qa Ea he p => p_phase T.H he p⟩
  exact (pss_one (ps_ret (pe_fld (pv 0) rfl)))
theorem okH_phase (T : Txt K mg A D w) : FnHot P w K mg base (L2N.CX P w) 1 D.f_phase D.d_phase ["self"] (liftN (P_phase K A)) := by
  refine funH T.F_phase sc_phase (liftN_len (lift_len pm1_len)) (fun cdv Ar outer s H vs Q E p hot hr h => ?_)
  have hc := @hot_deep Ar p (L2N.CX P w) P w K mg base N_phase "Heap.phase" (defScope sm_phase) D.f_phase cdv outer s H E hot
  have hu := hu_ofH hr
  refine ⟨t_phase K A E0, ?_, lift_body h fun L Qa Ea he p => p_phase T.H he p⟩
  exact (pss_one (ps_ret (pe_fld (pv 0) rfl)))
abbrev sm_law_kinds : Stmt := (top 27)
theorem sc_law_kinds : FnScope N_law_kinds ["_law_e"] (defScope sm_law_kinds) := ⟨rfl, rfl, rfl, by decide +kernel, rfl, by decide +kernel, by decide +kernel⟩
theorem okZ_law_kinds (T : Txt K mg A D w) : FnZ P w K mg base (L2N.CX P w) 1 D.f_law_kinds D.d_law_kinds ["_law_e"] (fun a C => lift (P_law_kinds K A a C)) := by
  refine funZ T.F_law_kinds sc_law_kinds (fun a C => lift_len pm1_len) (fun cdv Ar outer s H vs Q E p Cx hot hz hf hr h => ?_)
  obtain ⟨ax, oe⟩ := p
  have hc := @hot_deep Ar (ax, oe) (L2N.CX P w) P w K mg base N_law_kinds "_law_kinds" (defScope sm_law_kinds) D.f_law_kinds cdv outer s H E hot
  have hu := hu_ofH hr
  have hp := List.mem_cons_self (a := (ax, oe)) (l := ([] : List (Addr × Obj)))
  have mx := z_law_kinds h
  refine ⟨t_law_kinds K A ax Cx E, ?_, lift_body h fun L Qa Ea he p => p_law_kinds T.ki_NoBox_NoHand T.ki_NoBox_NoSlot T.ki_NoBox_NoRoom T.ki_NoBox_NothingHeld T.ki_NoBox_NoBox T.ki_NoBox_NoWork T.ki_NoBox_NoHeap T.ki_NoBox_NoDeed T.ki_NoHand_NoHand T.ki_NoHand_NoSlot T.ki_NoHand_NoRoom T.ki_NoHand_NothingHeld T.ki_NoHand_NoBox T.ki_NoHand_NoWork T.ki_NoHand_NoHeap T.ki_NoHand_NoDeed T.ki_NoRoom_NoHand T.ki_NoRoom_NoSlot T.ki_NoRoom_NoRoom T.ki_NoRoom_NothingHeld T.ki_NoRoom_NoBox T.ki_NoRoom_NoWork T.ki_NoRoom_NoHeap T.ki_NoRoom_NoDeed T.ki_NoSlot_NoHand T.ki_NoSlot_NoSlot T.ki_NoSlot_NoRoom T.ki_NoSlot_NothingHeld T.ki_NoSlot_NoBox T.ki_NoSlot_NoWork T.ki_NoSlot_NoHeap T.ki_NoSlot_NoDeed T.ki_NoWork_NoHand T.ki_NoWork_NoSlot T.ki_NoWork_NoRoom T.ki_NoWork_NothingHeld T.ki_NoWork_NoBox T.ki_NoWork_NoWork T.ki_NoWork_NoHeap T.ki_NoWork_NoDeed T.ki_NothingHeld_NoHand T.ki_NothingHeld_NoSlot T.ki_NothingHeld_NoRoom T.ki_NothingHeld_NothingHeld T.ki_NothingHeld_NoBox T.ki_NothingHeld_NoWork T.ki_NothingHeld_NoHeap T.ki_NothingHeld_NoDeed he p⟩
  exact (pss_cons (ps_set (i := 1) sc_law_kinds.nd rfl (Or.inr rfl) (pe_lst (pa_cons (pe_callB (call_isP (T.ecs_law_kinds Cx mx) hp hz hf) (by rfl) T.z_isinstance (by decide +kernel) (pa_cons (pv 0) (pa_cons (pe_glob (v := .ref A.NoHand) rfl T.g_NoHand rfl) pa_nil))) (pa_cons (pe_callB (call_isP (T.ecs_law_kinds Cx mx) hp hz hf) (by rfl) T.z_isinstance (by decide +kernel) (pa_cons (pv 0) (pa_cons (pe_glob (v := .ref A.NoSlot) rfl T.g_NoSlot rfl) pa_nil))) (pa_cons (pe_callB (call_isP (T.ecs_law_kinds Cx mx) hp hz hf) (by rfl) T.z_isinstance (by decide +kernel) (pa_cons (pv 0) (pa_cons (pe_glob (v := .ref A.NoRoom) rfl T.g_NoRoom rfl) pa_nil))) (pa_cons (pe_callB (call_isP (T.ecs_law_kinds Cx mx) hp hz hf) (by rfl) T.z_isinstance (by decide +kernel) (pa_cons (pv 0) (pa_cons (pe_glob (v := .ref A.NothingHeld) rfl T.g_NothingHeld rfl) pa_nil))) pa_nil))))))
    (pss_cons (ps_set (i := 1) sc_law_kinds.nd rfl (Or.inr rfl) (pe_op op_cat (pv 1) (pe_lst (pa_cons (pe_callB (call_isP (T.ecs_law_kinds Cx mx) hp hz hf) (by rfl) T.z_isinstance (by decide +kernel) (pa_cons (pv 0) (pa_cons (pe_glob (v := .ref A.NoBox) rfl T.g_NoBox rfl) pa_nil))) (pa_cons (pe_callB (call_isP (T.ecs_law_kinds Cx mx) hp hz hf) (by rfl) T.z_isinstance (by decide +kernel) (pa_cons (pv 0) (pa_cons (pe_glob (v := .ref A.NoWork) rfl T.g_NoWork rfl) pa_nil))) (pa_cons (pe_callB (call_isP (T.ecs_law_kinds Cx mx) hp hz hf) (by rfl) T.z_isinstance (by decide +kernel) (pa_cons (pv 0) (pa_cons (pe_glob (v := .ref A.NoHeap) rfl T.g_NoHeap rfl) pa_nil))) (pa_cons (pe_callB (call_isP (T.ecs_law_kinds Cx mx) hp hz hf) (by rfl) T.z_isinstance (by decide +kernel) (pa_cons (pv 0) (pa_cons (pe_glob (v := .ref A.NoDeed) rfl T.g_NoDeed rfl) pa_nil))) pa_nil)))))))
    (pss_one (ps_ret (pe_lcH (own := [("_law_k", 2)]) (g := gName 2) (tt := (tB (tOp (rIxL K) (tVar 1) (tVar 2)))) hc sc_law_kinds.nd (L2H.pi_range1H rfl T.z_range (pa_cons pe_int pa_nil)) (blkOk_by (N := N_law_kinds) (sc := defScope sm_law_kinds) (by decide +kernel)) (fun _ _ _ _ _ => pg_name (i := 2) sc_law_kinds.nd rfl (Or.inl rfl)) (fun _ _ _ _ _ => (pts_one (pt_val (pe_ix ix_list (pv 1) (pv 2) (fun _ _ => rfl))))) (fun _ _ _ _ _ => (pv 2)))))))
abbrev sm_law_whole : Stmt := (top 25)
theorem sc_law_whole : FnScope N_law_whole ["_law_found"] (defScope sm_law_whole) := ⟨rfl, rfl, rfl, by decide +kernel, rfl, by decide +kernel, by decide +kernel⟩
theorem okH_law_whole (T : Txt K mg A D w) : FnHot P w K mg base (L2N.CX P w) 1 D.f_law_whole D.d_law_whole ["_law_found"] (liftN (P_law_whole K A)) := by
  refine funH T.F_law_whole sc_law_whole (liftN_len (lift_len pm1_len)) (fun cdv Ar outer s H vs Q E p hot hr h => ?_)
  have hc := @hot_deep Ar p (L2N.CX P w) P w K mg base N_law_whole "_law_whole" (defScope sm_law_whole) D.f_law_whole cdv outer s H E hot
  have hu := hu_ofH hr
  refine ⟨t_law_whole K A E0, ?_, lift_body h fun L Qa Ea he p => p_law_whole he p⟩
  exact (pss_one (ps_ret (pe_and (pe_callB call_isi (by rfl) T.z_isinstance (by decide +kernel) (pa_cons (pv 0) (pa_cons (pe_bltn (v := .ty "int") rfl T.z_int (by decide +kernel) rfl) pa_nil))) (pe_one (pe_not (pe_callB call_isi (by rfl) T.z_isinstance (by decide +kernel) (pa_cons (pv 0) (pa_cons (pe_bltn (v := .ty "bool") rfl T.z_bool (by decide +kernel) rfl) pa_nil))))))))
abbrev sm_look : Stmt := (inClass (top 22) 10)
theorem sc_look : FnScope N_look ["self", "box"] (defScope sm_look) := ⟨rfl, rfl, rfl, by decide +kernel, rfl, by decide +kernel, by decide +kernel⟩
theorem ok_look (T : Txt K mg A D w) : FnOk P w K mg base (L2N.CX P w) 1 D.f_look D.d_look ["self", "box"] (lift (P_look K A)) := by
  refine funN T.F_look sc_look (lift_len pm2_len) (fun cdv Ar outer s H vs Q E hr h => ?_)
  have hu := hu_of hr
  refine ⟨t_look K A E, ?_, lift_body h fun L Qa Ea he p => p_look T.H he p⟩
  exact (pss_cons (ps_if (pt_cmp (pc_dnotin hu (pv 1) (pe_fld (pv 0) rfl))) (pss_one (L2N.ps_raise rfl (L2N.takes_of rfl rfl rfl rfl) (L2N.pmk_own PySem.F.excBase_ValueError T.x_NoBox T.g_NoBox T.kx_NoBox (raises_own T.bx_NoBox T.tx_NoBox) (by exact rfl)))) pss_nil)
    (pss_one (ps_ret (pe_callTy cl_list (by rfl) T.z_list (by decide +kernel) (pa_cons (pe_dget hu (pe_fld (pv 0) rfl) (pv 1) (fun _ _ => rfl)) pa_nil)))))
theorem okH_look (T : Txt K mg A D w) : FnHot P w K mg base (L2N.CX P w) 1 D.f_look D.d_look ["self", "box"] (liftN (P_look K A)) := by
  refine funH T.F_look sc_look (liftN_len (lift_len pm2_len)) (fun cdv Ar outer s H vs Q E p hot hr h => ?_)
  have hc := @hot_deep Ar p (L2N.CX P w) P w K mg base N_look "Heap.look" (defScope sm_look) D.f_look cdv outer s H E hot
  have hu := hu_ofH hr
  refine ⟨t_look K A E0, ?_, lift_body h fun L Qa Ea he p => p_look T.H he p⟩
  exact (pss_cons (ps_if (pt_cmp (pc_dnotin hu (pv 1) (pe_fld (pv 0) rfl))) (pss_one ps_noR) pss_nil)
    (pss_one (ps_ret (pe_callTy cl_list (by rfl) T.z_list (by decide +kernel) (pa_cons (pe_dget hu (pe_fld (pv 0) rfl) (pv 1) (fun _ _ => rfl)) pa_nil)))))
abbrev sm_rounds : Stmt := (inClass (top 22) 16)
theorem sc_rounds : FnScope N_rounds ["self"] (defScope sm_rounds) := ⟨rfl, rfl, rfl, by decide +kernel, rfl, by decide +kernel, by decide +kernel⟩
theorem ok_rounds (T : Txt K mg A D w) : FnOk P w K mg base (L2N.CX P w) 1 D.f_rounds D.d_rounds ["self"] (lift (P_rounds K A)) := by
  refine funN T.F_rounds sc_rounds (lift_len pm1_len) (fun cdv Ar outer s H vs Q E hr h => ?_)
  have hu := hu_of hr
  refine ⟨t_rounds K A E, ?_, lift_body h fun L Qa Ea he p => p_rounds T.H he p⟩
  exact (pss_one (ps_ret (pe_fld (pv 0) rfl)))
theorem okH_rounds (T : Txt K mg A D w) : FnHot P w K mg base (L2N.CX P w) 1 D.f_rounds D.d_rounds ["self"] (liftN (P_rounds K A)) := by
  refine funH T.F_rounds sc_rounds (liftN_len (lift_len pm1_len)) (fun cdv Ar outer s H vs Q E p hot hr h => ?_)
  have hc := @hot_deep Ar p (L2N.CX P w) P w K mg base N_rounds "Heap.rounds" (defScope sm_rounds) D.f_rounds cdv outer s H E hot
  have hu := hu_ofH hr
  refine ⟨t_rounds K A E0, ?_, lift_body h fun L Qa Ea he p => p_rounds T.H he p⟩
  exact (pss_one (ps_ret (pe_fld (pv 0) rfl)))
abbrev sm_need_hand : Stmt := (inClass (top 22) 2)
theorem sc_need_hand : FnScope N_need_hand ["self", "hand"] (defScope sm_need_hand) := ⟨rfl, rfl, rfl, by decide +kernel, rfl, by decide +kernel, by decide +kernel⟩
theorem ok_need_hand (T : Txt K mg A D w) : FnOk P w K mg base (L2N.CX P w) 1 D.f_need_hand D.d_need_hand ["self", "hand"] (lift (P_need_hand K A)) := by
  refine funN T.F_need_hand sc_need_hand (lift_len pm2_len) (fun cdv Ar outer s H vs Q E hr h => ?_)
  have hu := hu_of hr
  refine ⟨t_need_hand K A E, ?_, lift_body h fun L Qa Ea he p => p_need_hand T.H he p⟩
  exact (pss_one (ps_if (pt_not (pt_chain op_le op_lt pe_int (pv 1) (pe_callB cl_len (by rfl) T.z_len (by decide +kernel) (pa_cons (pe_fld (pv 0) rfl) pa_nil)))) (pss_one (L2N.ps_raise rfl (L2N.takes_of rfl rfl rfl rfl) (L2N.pmk_own PySem.F.excBase_ValueError T.x_NoHand T.g_NoHand T.kx_NoHand (raises_own T.bx_NoHand T.tx_NoHand) (by exact rfl)))) pss_nil))
theorem okH_need_hand (T : Txt K mg A D w) : FnHot P w K mg base (L2N.CX P w) 1 D.f_need_hand D.d_need_hand ["self", "hand"] (liftN (P_need_hand K A)) := by
  refine funH T.F_need_hand sc_need_hand (liftN_len (lift_len pm2_len)) (fun cdv Ar outer s H vs Q E p hot hr h => ?_)
  have hc := @hot_deep Ar p (L2N.CX P w) P w K mg base N_need_hand "Heap.need_hand" (defScope sm_need_hand) D.f_need_hand cdv outer s H E hot
  have hu := hu_ofH hr
  refine ⟨t_need_hand K A E0, ?_, lift_body h fun L Qa Ea he p => p_need_hand T.H he p⟩
  exact (pss_one (ps_if (pt_not (pt_chain op_le op_lt pe_int (pv 1) (pe_callB cl_len (by rfl) T.z_len (by decide +kernel) (pa_cons (pe_fld (pv 0) rfl) pa_nil)))) (pss_one ps_noR) pss_nil))
abbrev sm_waiting : Stmt := (inClass (top 22) 15)
theorem sc_waiting : FnScope N_waiting ["self"] (defScope sm_waiting) := ⟨rfl, rfl, rfl, by decide +kernel, rfl, by decide +kernel, by decide +kernel⟩
theorem ok_waiting (T : Txt K mg A D w) : FnOk P w K mg base (L2N.CX P w) 1 D.f_waiting D.d_waiting ["self"] (lift (P_waiting K A)) := by
  refine funN T.F_waiting sc_waiting (lift_len pm1_len) (fun cdv Ar outer s H vs Q E hr h => ?_)
  have hu := hu_of hr
  refine ⟨t_waiting K A E, ?_, lift_body h fun L Qa Ea he p => p_waiting T.H he p⟩
  exact (pss_one (ps_ret (pe_slice sl_list (pe_fld (pv 0) rfl) (po_some (pe_fld (pv 0) rfl)) po_none)))
theorem okH_waiting (T : Txt K mg A D w) : FnHot P w K mg base (L2N.CX P w) 1 D.f_waiting D.d_waiting ["self"] (liftN (P_waiting K A)) := by
  refine funH T.F_waiting sc_waiting (liftN_len (lift_len pm1_len)) (fun cdv Ar outer s H vs Q E p hot hr h => ?_)
  have hc := @hot_deep Ar p (L2N.CX P w) P w K mg base N_waiting "Heap.waiting" (defScope sm_waiting) D.f_waiting cdv outer s H E hot
  have hu := hu_ofH hr
  refine ⟨t_waiting K A E0, ?_, lift_body h fun L Qa Ea he p => p_waiting T.H he p⟩
  exact (pss_one (ps_ret (pe_slice sl_list (pe_fld (pv 0) rfl) (po_some (pe_fld (pv 0) rfl)) po_none)))
abbrev sm_marked : Stmt := (inClass (top 22) 14)
theorem sc_marked : FnScope N_marked ["self"] (defScope sm_marked) := ⟨rfl, rfl, rfl, by decide +kernel, rfl, by decide +kernel, by decide +kernel⟩
theorem ok_marked (T : Txt K mg A D w) : FnOk P w K mg base (L2N.CX P w) 1 D.f_marked D.d_marked ["self"] (lift (P_marked K A)) := by
  refine funN T.F_marked sc_marked (lift_len pm1_len) (fun cdv Ar outer s H vs Q E hr h => ?_)
  have hu := hu_of hr
  refine ⟨t_marked K A E, ?_, lift_body h fun L Qa Ea he p => p_marked T.H he p⟩
  exact (pss_one (ps_ret (pe_callB cr_sortedI (by rfl) T.z_sorted (by decide +kernel) (pa_cons (pe_callTy (call_list_dK rfl) (by rfl) T.z_list (by decide +kernel) (pa_cons (pe_fld (pv 0) rfl) pa_nil)) pa_nil))))
theorem okH_marked (T : Txt K mg A D w) : FnHot P w K mg base (L2N.CX P w) 1 D.f_marked D.d_marked ["self"] (liftN (P_marked K A)) := by
  refine funH T.F_marked sc_marked (liftN_len (lift_len pm1_len)) (fun cdv Ar outer s H vs Q E p hot hr h => ?_)
  have hc := @hot_deep Ar p (L2N.CX P w) P w K mg base N_marked "Heap.marked" (defScope sm_marked) D.f_marked cdv outer s H E hot
  have hu := hu_ofH hr
  refine ⟨t_marked K A E0, ?_, lift_body h fun L Qa Ea he p => p_marked T.H he p⟩
  exact (pss_one (ps_ret (pe_callB cr_sortedI (by rfl) T.z_sorted (by decide +kernel) (pa_cons (pe_callTy (call_list_dH hc) (by rfl) T.z_list (by decide +kernel) (pa_cons (pe_fld (pv 0) rfl) pa_nil)) pa_nil))))
abbrev sm_boxes : Stmt := (inClass (top 22) 11)
theorem sc_boxes : FnScope N_boxes ["self"] (defScope sm_boxes) := ⟨rfl, rfl, rfl, by decide +kernel, rfl, by decide +kernel, by decide +kernel⟩
theorem ok_boxes (T : Txt K mg A D w) : FnOk P w K mg base (L2N.CX P w) 1 D.f_boxes D.d_boxes ["self"] (lift (P_boxes K A)) := by
  refine funN T.F_boxes sc_boxes (lift_len pm1_len) (fun cdv Ar outer s H vs Q E hr h => ?_)
  have hu := hu_of hr
  refine ⟨t_boxes K A E, ?_, lift_body h fun L Qa Ea he p => p_boxes T.H he p⟩
  exact (pss_one (ps_ret (pe_callB cr_sortedI (by rfl) T.z_sorted (by decide +kernel) (pa_cons (pe_callTy (call_list_dK rfl) (by rfl) T.z_list (by decide +kernel) (pa_cons (pe_fld (pv 0) rfl) pa_nil)) pa_nil))))
theorem okH_boxes (T : Txt K mg A D w) : FnHot P w K mg base (L2N.CX P w) 1 D.f_boxes D.d_boxes ["self"] (liftN (P_boxes K A)) := by
  refine funH T.F_boxes sc_boxes (liftN_len (lift_len pm1_len)) (fun cdv Ar outer s H vs Q E p hot hr h => ?_)
  have hc := @hot_deep Ar p (L2N.CX P w) P w K mg base N_boxes "Heap.boxes" (defScope sm_boxes) D.f_boxes cdv outer s H E hot
  have hu := hu_ofH hr
  refine ⟨t_boxes K A E0, ?_, lift_body h fun L Qa Ea he p => p_boxes T.H he p⟩
  exact (pss_one (ps_ret (pe_callB cr_sortedI (by rfl) T.z_sorted (by decide +kernel) (pa_cons (pe_callTy (call_list_dH hc) (by rfl) T.z_list (by decide +kernel) (pa_cons (pe_fld (pv 0) rfl) pa_nil)) pa_nil))))
abbrev sm_sweep : Stmt := (top 14)
theorem sc_sweep : FnScope N_sweep ["heap"] (defScope sm_sweep) := ⟨rfl, rfl, rfl, by decide +kernel, rfl, by decide +kernel, by decide +kernel⟩
theorem ok_sweep (T : Txt K mg A D w) : FnOk P w K mg base (L2N.CX P w) 1 D.f_sweep D.d_sweep ["heap"] (lift (P_sweep K A)) := by
  refine funN T.F_sweep sc_sweep (lift_len pm1_len) (fun cdv Ar outer s H vs Q E hr h => ?_)
  have hu := hu_of hr
  refine ⟨t_sweep K A E, ?_, lift_body h fun L Qa Ea he p => p_sweep T.H he p⟩
  exact (pss_cons (ps_set (i := 1) sc_sweep.nd rfl (Or.inl rfl) (pe_ix ix_list (pe_fld (pv 0) rfl) (pe_fld (pv 0) rfl) (fun _ _ => rfl)))
    (pss_cons (ps_fldaug (pv 0) pe_int in_add)
    (pss_cons (ps_if (pt_cmp (pc_din hu (pv 1) (pe_fld (pv 0) rfl))) (pss_one (ps_ret pe_non)) pss_nil)
    (pss_cons (ps_expr (pe_dpop1 (pe_fld (pv 0) rfl) (pv 1) ⟨rfl, rfl, rfl, rfl⟩))
    (pss_one (ps_ret (pv 1)))))))
abbrev sm_mark : Stmt := (top 11)
theorem sc_mark : FnScope N_mark ["heap", "box"] (defScope sm_mark) := ⟨rfl, rfl, rfl, by decide +kernel, rfl, by decide +kernel, by decide +kernel⟩
theorem ok_mark (T : Txt K mg A D w) : FnOk P w K mg base (L2N.CX P w) 1 D.f_mark D.d_mark ["heap", "box"] (lift (P_mark K A)) := by
  refine funN T.F_mark sc_mark (lift_len pm2_len) (fun cdv Ar outer s H vs Q E hr h => ?_)
  have hu := hu_of hr
  refine ⟨t_mark K A E, ?_, lift_body h fun L Qa Ea he p => p_mark T.H he p⟩
  exact (pss_one (ps_if (PW.pt (pw_and (pt_cmpR op_notNo (pv 1) pe_non (nomark _)) (pw_and (pt_cmpR op_lt (pv 1) (pe_fld (pv 0) rfl) (nomark _)) (pw_and1 (pt_cmp (pc_dnotin hu (pv 1) (pe_fld (pv 0) rfl))))))) (pss_cons (ps_dput hu (pe_fld (pv 0) rfl) (pv 1) pe_bl rfl)
    (pss_one (ps_expr (pe_bm PySem.F.plainAttrs_list PySem.F.slot_list_append PySem.F.type_list_append mt_append (pe_fld (pv 0) rfl) (pa_cons (pv 1) pa_nil))))) pss_nil))
abbrev sm_rest : Stmt := (inClass (top 22) 1)
theorem sc_rest : FnScope N_rest ["self"] (defScope sm_rest) := ⟨rfl, rfl, rfl, by decide +kernel, rfl, by decide +kernel, by decide +kernel⟩
theorem ok_rest (T : Txt K mg A D w) : FnOk P w K mg base (L2N.CX P w) 1 D.f_rest D.d_rest ["self"] (lift (P_rest K A)) := by
  refine funN T.F_rest sc_rest (lift_len pm1_len) (fun cdv Ar outer s H vs Q E hr h => ?_)
  have hu := hu_of hr
  refine ⟨t_rest K A E, ?_, lift_body h fun L Qa Ea he p => p_rest T.H he p⟩
  exact (pss_cons (ps_fld (pv 0) pe_str rfl)
    (pss_cons (ps_fld (pv 0) (pe_lst pa_nil) rfl)
    (pss_cons (ps_fld (pv 0) pe_int rfl)
    (pss_cons (ps_fld (pv 0) pe_dnewK rfl)
    (pss_cons (ps_fld (pv 0) (pe_lst pa_nil) rfl)
    (pss_cons (ps_fld (pv 0) pe_int rfl)
    (pss_one (ps_fld (pv 0) pe_int rfl))))))))
abbrev sm_row_of : Stmt := (inClass (top 22) 3)
theorem sc_row_of : FnScope N_row_of ["self", "hand", "slot"] (defScope sm_row_of) := ⟨rfl, rfl, rfl, by decide +kernel, rfl, by decide +kernel, by decide +kernel⟩
theorem ok_row_of (T : Txt K mg A D w) : FnOk P w K mg base (L2N.CX P w) 1 D.f_row_of D.d_row_of ["self", "hand", "slot"] (lift (P_row_of K A)) := by
  refine funN T.F_row_of sc_row_of (lift_len pm3_len) (fun cdv Ar outer s H vs Q E hr h => ?_)
  have hu := hu_of hr
  refine ⟨t_row_of K A E, ?_, lift_body h fun L Qa Ea he p => p_row_of T.H he p⟩
  exact (pss_cons (ps_set (i := 3) sc_row_of.nd rfl (Or.inl rfl) (pe_ix ix_list (pe_fld (pv 0) rfl) (pv 1) (fun _ _ => rfl)))
    (pss_cons (ps_if (pt_cmpR op_isNo (pv 3) pe_non (nomark _)) (pss_one (L2N.ps_raise rfl (L2N.takes_of rfl rfl rfl rfl) (L2N.pmk_own PySem.F.excBase_ValueError T.x_NothingHeld T.g_NothingHeld T.kx_NothingHeld (raises_own T.bx_NothingHeld T.tx_NothingHeld) (by exact rfl)))) pss_nil)
    (pss_cons (ps_if (pt_not (pt_chain op_le op_lt pe_int (pv 2) (pe_callB cl_len (by rfl) T.z_len (by decide +kernel) (pa_cons (pe_dget hu (pe_fld (pv 0) rfl) (pv 3) (fun _ _ => rfl)) pa_nil)))) (pss_one (L2N.ps_raise rfl (L2N.takes_of rfl rfl rfl rfl) (L2N.pmk_own PySem.F.excBase_ValueError T.x_NoSlot T.g_NoSlot T.kx_NoSlot (raises_own T.bx_NoSlot T.tx_NoSlot) (by exact rfl)))) pss_nil)
    (pss_one (ps_ret (pe_dget hu (pe_fld (pv 0) rfl) (pv 3) (fun _ _ => rfl)))))))
abbrev sm_law_due : Stmt := (top 28)
theorem sc_law_due : FnScope N_law_due ["_law_deed", "_law_slots", "_law_many", "_law_room", "_law_total"] (defScope sm_law_due) := ⟨rfl, rfl, rfl, by decide +kernel, rfl, by decide +kernel, by decide +kernel⟩
theorem ok_law_due (T : Txt K mg A D w) : FnOk P w K mg base (L2N.CX P w) 1 D.f_law_due D.d_law_due ["_law_deed", "_law_slots", "_law_many", "_law_room", "_law_total"] (lift (P_law_due K A)) := by
  refine funN T.F_law_due sc_law_due (lift_len pm5_len) (fun cdv Ar outer s H vs Q E hr h => ?_)
  have hu := hu_of hr
  refine ⟨t_law_due K A E, ?_, lift_body h fun L Qa Ea he p => p_law_due he p⟩
  exact (pss_cons (ps_set (i := 5) sc_law_due.nd rfl (Or.inl rfl) (pe_ix ix_list (pv 0) pe_int (fun _ _ => rfl)))
    (pss_cons (ps_if (PW.pt (pw_and (pt_cmpR op_in_seq (pv 5) (pe_tup (pa_cons pe_str (pa_cons pe_str (pa_cons pe_str pa_nil)))) rfl) (pw_and1 (pt_not (pt_chain op_le op_lt pe_int (pe_ix ix_list (pv 0) pe_int (fun _ _ => rfl)) (pv 2)))))) (pss_one (ps_ret (pe_lst (pa_cons pe_int pa_nil)))) pss_nil)
    (pss_cons (ps_if (PW.pt (pw_and (pt_cmpR op_eq (pv 5) pe_str (nomark _)) (pw_and1 (pt_not (PW.pt (pw_and (pt_chain op_le op_lt pe_int (pe_ix ix_list (pv 0) pe_int (fun _ _ => rfl)) (pv 2)) (pw_and1 (pt_chain op_le op_lt pe_int (pe_ix ix_list (pv 0) pe_int (fun _ _ => rfl)) (pv 2))))))))) (pss_one (ps_ret (pe_lst (pa_cons pe_int pa_nil)))) pss_nil)
    (pss_cons (ps_if (PW.pt (pw_and (pt_cmpR op_in_seq (pv 5) (pe_tup (pa_cons pe_str (pa_cons pe_str pa_nil))) rfl) (pw_and1 (pt_not (PW.pt (pw_and (pt_chain op_le op_lt pe_int (pe_ix ix_list (pv 0) pe_int (fun _ _ => rfl)) (pv 2)) (pw_and1 (pt_chain op_le op_lt pe_int (pe_ix ix_list (pv 0) pe_int (fun _ _ => rfl)) (pv 2))))))))) (pss_one (ps_ret (pe_lst (pa_cons pe_int pa_nil)))) pss_nil)
    (pss_cons (ps_if (PW.pt (pw_and (pt_cmpR op_eq (pv 5) pe_str (nomark _)) (pw_and1 (pt_not (pt_chain op_le op_le pe_int (pe_ix ix_list (pv 0) pe_int (fun _ _ => rfl)) pe_int))))) (pss_one (ps_ret (pe_lst (pa_cons pe_int pa_nil)))) pss_nil)
    (pss_cons (ps_if (PW.pt (pw_and (pt_cmpR op_eq (pv 5) pe_str (nomark _)) (pw_and1 (pt_cmpR op_ge (pv 4) (pv 3) (nomark _))))) (pss_one (ps_ret (pe_lst (pa_cons pe_int pa_nil)))) pss_nil)
    (pss_cons (ps_if (pt_cmpR op_in_seq (pv 5) (pe_tup (pa_cons pe_str (pa_cons pe_str pa_nil))) rfl) (pss_cons (ps_set (i := 6) sc_law_due.nd rfl (Or.inl rfl) (pe_ix ix_list (pv 0) pe_int (fun _ _ => rfl)))
    (pss_cons (ps_if (pt_cmpR op_eq (pv 5) pe_str (nomark _)) (pss_one (ps_set (i := 6) sc_law_due.nd rfl (Or.inl rfl) (pe_ix ix_list (pv 0) pe_int (fun _ _ => rfl)))) pss_nil)
    (pss_cons (ps_if (pt_cmpR op_ge (pv 6) (pe_callB cl_len (by rfl) T.z_len (by decide +kernel) (pa_cons (pv 1) pa_nil)) (nomark _)) (pss_one (ps_ret (pe_lst (pa_cons pe_int pa_nil)))) pss_nil)
    (pss_one (ps_if (pt_not (pt_chain op_le op_lt pe_int (pe_ix ix_list (pv 0) pe_int (fun _ _ => rfl)) (pe_ix ix_list (pv 1) (pv 6) (fun _ _ => rfl)))) (pss_one (ps_ret (pe_lst (pa_cons pe_int pa_nil)))) pss_nil))))) pss_nil)
    (pss_cons (ps_if (PW.pt (pw_and (pt_cmpR op_eq (pv 5) pe_str (nomark _)) (pw_and1 (pt_not (pt_chain op_le op_lt pe_int (pe_ix ix_list (pv 0) pe_int (fun _ _ => rfl)) (pv 4)))))) (pss_one (ps_ret (pe_lst (pa_cons pe_int pa_nil)))) pss_nil)
    (pss_cons (ps_if (PW.pt (pw_and (pt_cmpR op_eq (pv 5) pe_str (nomark _)) (pw_and1 (pt_not (pt_chain op_le op_le pe_int (pe_ix ix_list (pv 0) pe_int (fun _ _ => rfl)) pe_int))))) (pss_one (ps_ret (pe_lst (pa_cons pe_int pa_nil)))) pss_nil)
    (pss_one (ps_ret (pe_lst pa_nil))))))))))))
abbrev sm_law_numbers : Stmt := (top 26)
theorem sc_law_numbers : FnScope N_law_numbers ["_law_found", "_law_due_here"] (defScope sm_law_numbers) := ⟨rfl, rfl, rfl, by decide +kernel, rfl, by decide +kernel, by decide +kernel⟩
theorem okH_law_numbers (T : Txt K mg A D w) (GH_law_whole : FnHot P w K mg base (L2N.CX P w) 1 D.f_law_whole D.d_law_whole ["_law_found"] (liftN (P_law_whole K A))) : FnHot P w K mg base (L2N.CX P w) 2 D.f_law_numbers D.d_law_numbers ["_law_found", "_law_due_here"] (liftN (P_law_numbers K A)) := by
  refine funH T.F_law_numbers sc_law_numbers (liftN_len (lift_len pm2_len)) (fun cdv Ar outer s H vs Q E p hot hr h => ?_)
  have hc := @hot_deep Ar p (L2N.CX P w) P w K mg base N_law_numbers "_law_numbers" (defScope sm_law_numbers) D.f_law_numbers cdv outer s H E hot
  have hu := hu_ofH hr
  refine ⟨t_law_numbers K A E0, ?_, lift_body h fun L Qa Ea he p => p_law_numbers he p⟩
  exact (pss_cons (ps_if (PW.pt (pw_or (pt_not (pt_val (pe_callB call_isi (by rfl) T.z_isinstance (by decide +kernel) (pa_cons (pv 0) (pa_cons (pe_bltn (v := .ty "list") rfl T.z_list (by decide +kernel) rfl) pa_nil))))) (pw_or1 (pt_cmpR op_ne (pe_callB cl_len (by rfl) T.z_len (by decide +kernel) (pa_cons (pv 0) pa_nil)) (pe_callB cl_len (by rfl) T.z_len (by decide +kernel) (pa_cons (pv 1) pa_nil)) (nomark _))))) (pss_one (ps_ret pe_bl)) pss_nil)
    (pss_cons (L2H.ps_forH PassesOwn.leaving hc (L2H.pi_range1H rfl T.z_range (pa_cons (pe_callB cl_len (by rfl) T.z_len (by decide +kernel) (pa_cons (pv 1) pa_nil)) pa_nil)) (pg_name (i := 2) sc_law_numbers.nd rfl (Or.inl rfl))
      (pss_cons (ps_if (PW.pt (pw_and (pt_cmpR op_isNo (pe_ix ix_list (pv 1) (pv 2) (fun _ _ => rfl)) pe_non (nomark _)) (pw_and1 (pt_cmpR op_notNo (pe_ix ix_list (pv 0) (pv 2) (fun _ _ => rfl)) pe_non (nomark _))))) (pss_one (ps_ret pe_bl)) pss_nil)
    (pss_one (ps_if (PW.pt (pw_and (pt_cmpR op_notNo (pe_ix ix_list (pv 1) (pv 2) (fun _ _ => rfl)) pe_non (nomark _)) (pw_and1 (PW.pt (pw_or (pt_not (pt_val (hot_call GH_law_whole (hr.mono (by decide)) hc rfl T.m_law_whole T.k_law_whole T.b_law_whole (pa_cons (pe_ix ix_list (pv 0) (pv 2) (fun _ _ => rfl)) pa_nil)))) (pw_or1 (pt_cmpR op_ne (pe_ix ix_list (pv 0) (pv 2) (fun _ _ => rfl)) (pe_ix ix_list (pv 1) (pv 2) (fun _ _ => rfl)) (nomark _)))))))) (pss_one (ps_ret pe_bl)) pss_nil))))
    (pss_one (ps_ret pe_bl))))
abbrev sm_held : Stmt := (inClass (top 22) 9)
theorem sc_held : FnScope N_held ["self", "hand"] (defScope sm_held) := ⟨rfl, rfl, rfl, by decide +kernel, rfl, by decide +kernel, by decide +kernel⟩
theorem ok_held (T : Txt K mg A D w) (G_need_hand : FnOk P w K mg base (L2N.CX P w) 1 D.f_need_hand D.d_need_hand ["self", "hand"] (lift (P_need_hand K A))) : FnOk P w K mg base (L2N.CX P w) 2 D.f_held D.d_held ["self", "hand"] (lift (P_held K A)) := by
  refine funN T.F_held sc_held (lift_len pm2_len) (fun cdv Ar outer s H vs Q E hr h => ?_)
  have hu := hu_of hr
  refine ⟨t_held K A E, ?_, lift_body h fun L Qa Ea he p => p_held T.H he p⟩
  exact (pss_cons (ps_expr (pe_meth (pv 0) T.H.cl T.M_need_hand G_need_hand (hr.mono (by decide)) T.b_need_hand .nil (L2N.passes_call (L2N.takes_of rfl rfl rfl rfl) (fun _ _ _ _ h => h)) (pa_cons (pv 1) pa_nil)))
    (pss_one (ps_ret (pe_ix ix_list (pe_fld (pv 0) rfl) (pv 1) (fun _ _ => rfl)))))
theorem okH_held (T : Txt K mg A D w) (GH_need_hand : FnHot P w K mg base (L2N.CX P w) 1 D.f_need_hand D.d_need_hand ["self", "hand"] (liftN (P_need_hand K A))) : FnHot P w K mg base (L2N.CX P w) 2 D.f_held D.d_held ["self", "hand"] (liftN (P_held K A)) := by
  refine funH T.F_held sc_held (liftN_len (lift_len pm2_len)) (fun cdv Ar outer s H vs Q E p hot hr h => ?_)
  have hc := @hot_deep Ar p (L2N.CX P w) P w K mg base N_held "Heap.held" (defScope sm_held) D.f_held cdv outer s H E hot
  have hu := hu_ofH hr
  refine ⟨t_held K A E0, ?_, lift_body h fun L Qa Ea he p => p_held T.H he p⟩
  exact (pss_cons (ps_expr (hot_meth (pv 0) T.H.cl T.M_need_hand GH_need_hand (hr.mono (by decide)) hc T.b_need_hand (pa_cons (pv 1) pa_nil)))
    (pss_one (ps_ret (pe_ix ix_list (pe_fld (pv 0) rfl) (pv 1) (fun _ _ => rfl)))))
abbrev sm_look_at : Stmt := (top 13)
theorem sc_look_at : FnScope N_look_at ["heap"] (defScope sm_look_at) := ⟨rfl, rfl, rfl, by decide +kernel, rfl, by decide +kernel, by decide +kernel⟩
theorem ok_look_at (T : Txt K mg A D w) (G_mark : FnOk P w K mg base (L2N.CX P w) 1 D.f_mark D.d_mark ["heap", "box"] (lift (P_mark K A))) : FnOk P w K mg base (L2N.CX P w) 2 D.f_look_at D.d_look_at ["heap"] (lift (P_look_at K A)) := by
  refine funN T.F_look_at sc_look_at (lift_len pm1_len) (fun cdv Ar outer s H vs Q E hr h => ?_)
  have hu := hu_of hr
  refine ⟨t_look_at K A E, ?_, lift_body h fun L Qa Ea he p => p_look_at T.H he p⟩
  exact (pss_cons (ps_set (i := 1) sc_look_at.nd rfl (Or.inl rfl) (pe_ix ix_list (pe_fld (pv 0) rfl) (pe_fld (pv 0) rfl) (fun _ _ => rfl)))
    (pss_cons (ps_fldaug (pv 0) pe_int in_add)
    (pss_one (ps_for PassesOwn.leaving rfl (pi_list (pe_dget hu (pe_fld (pv 0) rfl) (pv 1) (fun _ _ => rfl))) (pg_name (i := 2) sc_look_at.nd rfl (Or.inl rfl))
      (pss_one (ps_expr (pe_call G_mark (hr.mono (by decide)) rfl T.m_mark T.k_mark T.b_mark .nil passN (pa_cons (pv 0) (pa_cons (pv 2) pa_nil)))))))))
abbrev sm_begin : Stmt := (top 12)
theorem sc_begin : FnScope N_begin ["heap"] (defScope sm_begin) := ⟨rfl, rfl, rfl, by decide +kernel, rfl, by decide +kernel, by decide +kernel⟩
theorem ok_begin (T : Txt K mg A D w) (G_boxes : FnOk P w K mg base (L2N.CX P w) 1 D.f_boxes D.d_boxes ["self"] (lift (P_boxes K A))) (G_mark : FnOk P w K mg base (L2N.CX P w) 1 D.f_mark D.d_mark ["heap", "box"] (lift (P_mark K A))) : FnOk P w K mg base (L2N.CX P w) 2 D.f_begin D.d_begin ["heap"] (lift (P_begin K A)) := by
  refine funN T.F_begin sc_begin (lift_len pm1_len) (fun cdv Ar outer s H vs Q E hr h => ?_)
  have hu := hu_of hr
  refine ⟨t_begin K A E, ?_, lift_body h fun L Qa Ea he p => p_begin T.H he p⟩
  exact (pss_cons (ps_fld (pv 0) (pe_callB cr_sortedI (by rfl) T.z_sorted (by decide +kernel) (pa_cons (pe_meth0 (pv 0) T.H.cl T.M_boxes G_boxes (hr.mono (by decide)) T.b_boxes .nil passN) pa_nil)) rfl)
    (pss_cons (ps_fld (pv 0) (pe_fld (pv 0) rfl) rfl)
    (pss_cons (ps_fld (pv 0) pe_str rfl)
    (pss_one (ps_for PassesOwn.leaving rfl (pi_list (pe_fld (pv 0) rfl)) (pg_name (i := 1) sc_begin.nd rfl (Or.inl rfl))
      (pss_one (ps_expr (pe_call G_mark (hr.mono (by decide)) rfl T.m_mark T.k_mark T.b_mark .nil passN (pa_cons (pv 0) (pa_cons (pv 1) pa_nil))))))))))
abbrev sm_settle : Stmt := (top 15)
theorem sc_settle : FnScope N_settle ["heap"] (defScope sm_settle) := ⟨rfl, rfl, rfl, by decide +kernel, rfl, by decide +kernel, by decide +kernel⟩
theorem ok_settle (T : Txt K mg A D w) (G_rest : FnOk P w K mg base (L2N.CX P w) 1 D.f_rest D.d_rest ["self"] (lift (P_rest K A))) : FnOk P w K mg base (L2N.CX P w) 2 D.f_settle D.d_settle ["heap"] (lift (P_settle K A)) := by
  refine funN T.F_settle sc_settle (lift_len pm1_len) (fun cdv Ar outer s H vs Q E hr h => ?_)
  have hu := hu_of hr
  refine ⟨t_settle K A E, ?_, lift_body h fun L Qa Ea he p => p_settle T.H he p⟩
  exact (pss_cons (ps_if (PW.pt (pw_and (pt_cmpR op_eq (pe_fld (pv 0) rfl) pe_str (nomark _)) (pw_and1 (pt_cmpR op_eq (pe_fld (pv 0) rfl) (pe_callB cl_len (by rfl) T.z_len (by decide +kernel) (pa_cons (pe_fld (pv 0) rfl) pa_nil)) (nomark _))))) (pss_one (ps_fld (pv 0) pe_str rfl)) pss_nil)
    (pss_one (ps_if (PW.pt (pw_and (pt_cmpR op_eq (pe_fld (pv 0) rfl) pe_str (nomark _)) (pw_and1 (pt_cmpR op_eq (pe_fld (pv 0) rfl) (pe_callB cl_len (by rfl) T.z_len (by decide +kernel) (pa_cons (pe_fld (pv 0) rfl) pa_nil)) (nomark _))))) (pss_cons (ps_expr (pe_meth0 (pv 0) T.H.cl T.M_rest G_rest (hr.mono (by decide)) T.b_rest .nil passN))
    (pss_one (ps_fldaug (pv 0) pe_int in_add))) pss_nil)))
abbrev sm_drop : Stmt := (inClass (top 22) 8)
theorem sc_drop : FnScope N_drop ["self", "hand"] (defScope sm_drop) := ⟨rfl, rfl, rfl, by decide +kernel, rfl, by decide +kernel, by decide +kernel⟩
theorem ok_drop (T : Txt K mg A D w) (G_need_hand : FnOk P w K mg base (L2N.CX P w) 1 D.f_need_hand D.d_need_hand ["self", "hand"] (lift (P_need_hand K A))) : FnOk P w K mg base (L2N.CX P w) 2 D.f_drop D.d_drop ["self", "hand"] (lift (P_drop K A)) := by
  refine funN T.F_drop sc_drop (lift_len pm2_len) (fun cdv Ar outer s H vs Q E hr h => ?_)
  have hu := hu_of hr
  refine ⟨t_drop K A E, ?_, lift_body h fun L Qa Ea he p => p_drop T.H he p⟩
  exact (pss_cons (ps_expr (pe_meth (pv 0) T.H.cl T.M_need_hand G_need_hand (hr.mono (by decide)) T.b_need_hand .nil (L2N.passes_call (L2N.takes_of rfl rfl rfl rfl) (fun _ _ _ _ h => h)) (pa_cons (pv 1) pa_nil)))
    (pss_one (ps_asg pe_non (pg_sub (pe_fld (pv 0) rfl) (pv 1) set_list))))
abbrev sm_share : Stmt := (inClass (top 22) 7)
theorem sc_share : FnScope N_share ["self", "hand", "other"] (defScope sm_share) := ⟨rfl, rfl, rfl, by decide +kernel, rfl, by decide +kernel, by decide +kernel⟩
theorem ok_share (T : Txt K mg A D w) (G_need_hand : FnOk P w K mg base (L2N.CX P w) 1 D.f_need_hand D.d_need_hand ["self", "hand"] (lift (P_need_hand K A))) : FnOk P w K mg base (L2N.CX P w) 2 D.f_share D.d_share ["self", "hand", "other"] (lift (P_share K A)) := by
  refine funN T.F_share sc_share (lift_len pm3_len) (fun cdv Ar outer s H vs Q E hr h => ?_)
  have hu := hu_of hr
  refine ⟨t_share K A E, ?_, lift_body h fun L Qa Ea he p => p_share T.H he p⟩
  exact (pss_cons (ps_expr (pe_meth (pv 0) T.H.cl T.M_need_hand G_need_hand (hr.mono (by decide)) T.b_need_hand .nil (L2N.passes_call (L2N.takes_of rfl rfl rfl rfl) (fun _ _ _ _ h => h)) (pa_cons (pv 1) pa_nil)))
    (pss_cons (ps_expr (pe_meth (pv 0) T.H.cl T.M_need_hand G_need_hand (hr.mono (by decide)) T.b_need_hand .nil (L2N.passes_call (L2N.takes_of rfl rfl rfl rfl) (fun _ _ _ _ h => h)) (pa_cons (pv 2) pa_nil)))
    (pss_one (ps_asg (pe_ix ix_list (pe_fld (pv 0) rfl) (pv 2) (fun _ _ => rfl)) (pg_sub (pe_fld (pv 0) rfl) (pv 1) set_list)))))
abbrev sm_put : Stmt := (inClass (top 22) 6)
theorem sc_put : FnScope N_put ["self", "hand", "slot", "other"] (defScope sm_put) := ⟨rfl, rfl, rfl, by decide +kernel, rfl, by decide +kernel, by decide +kernel⟩
theorem ok_put (T : Txt K mg A D w) (G_need_hand : FnOk P w K mg base (L2N.CX P w) 1 D.f_need_hand D.d_need_hand ["self", "hand"] (lift (P_need_hand K A))) (G_row_of : FnOk P w K mg base (L2N.CX P w) 1 D.f_row_of D.d_row_of ["self", "hand", "slot"] (lift (P_row_of K A))) (G_mark : FnOk P w K mg base (L2N.CX P w) 1 D.f_mark D.d_mark ["heap", "box"] (lift (P_mark K A))) : FnOk P w K mg base (L2N.CX P w) 2 D.f_put D.d_put ["self", "hand", "slot", "other"] (lift (P_put K A)) := by
  refine funN T.F_put sc_put (lift_len pm4_len) (fun cdv Ar outer s H vs Q E hr h => ?_)
  have hu := hu_of hr
  refine ⟨t_put K A E, ?_, lift_body h fun L Qa Ea he p => p_put T.H he p⟩
  exact (pss_cons (ps_expr (pe_meth (pv 0) T.H.cl T.M_need_hand G_need_hand (hr.mono (by decide)) T.b_need_hand .nil (L2N.passes_call (L2N.takes_of rfl rfl rfl rfl) (fun _ _ _ _ h => h)) (pa_cons (pv 1) pa_nil)))
    (pss_cons (ps_expr (pe_meth (pv 0) T.H.cl T.M_need_hand G_need_hand (hr.mono (by decide)) T.b_need_hand .nil (L2N.passes_call (L2N.takes_of rfl rfl rfl rfl) (fun _ _ _ _ h => h)) (pa_cons (pv 3) pa_nil)))
    (pss_cons (ps_set (i := 4) sc_put.nd rfl (Or.inl rfl) (pe_meth (pv 0) T.H.cl T.M_row_of G_row_of (hr.mono (by decide)) T.b_row_of .nil (L2N.passes_call (L2N.takes_of rfl rfl rfl rfl) (fun _ _ _ _ h => h)) (pa_cons (pv 1) (pa_cons (pv 2) pa_nil))))
    (pss_cons (ps_if (pt_cmpR op_eq (pe_fld (pv 0) rfl) pe_str (nomark _)) (pss_one (ps_expr (pe_call G_mark (hr.mono (by decide)) rfl T.m_mark T.k_mark T.b_mark .nil passN (pa_cons (pv 0) (pa_cons (pe_ix ix_list (pv 4) (pv 2) (fun _ _ => rfl)) pa_nil))))) pss_nil)
    (pss_one (ps_asg (pe_ix ix_list (pe_fld (pv 0) rfl) (pv 3) (fun _ _ => rfl)) (pg_sub (pv 4) (pv 2) set_list)))))))
abbrev sm_take : Stmt := (inClass (top 22) 5)
theorem sc_take : FnScope N_take ["self", "hand", "other", "slot"] (defScope sm_take) := ⟨rfl, rfl, rfl, by decide +kernel, rfl, by decide +kernel, by decide +kernel⟩
theorem ok_take (T : Txt K mg A D w) (G_need_hand : FnOk P w K mg base (L2N.CX P w) 1 D.f_need_hand D.d_need_hand ["self", "hand"] (lift (P_need_hand K A))) (G_row_of : FnOk P w K mg base (L2N.CX P w) 1 D.f_row_of D.d_row_of ["self", "hand", "slot"] (lift (P_row_of K A))) : FnOk P w K mg base (L2N.CX P w) 2 D.f_take D.d_take ["self", "hand", "other", "slot"] (lift (P_take K A)) := by
  refine funN T.F_take sc_take (lift_len pm4_len) (fun cdv Ar outer s H vs Q E hr h => ?_)
  have hu := hu_of hr
  refine ⟨t_take K A E, ?_, lift_body h fun L Qa Ea he p => p_take T.H he p⟩
  exact (pss_cons (ps_expr (pe_meth (pv 0) T.H.cl T.M_need_hand G_need_hand (hr.mono (by decide)) T.b_need_hand .nil (L2N.passes_call (L2N.takes_of rfl rfl rfl rfl) (fun _ _ _ _ h => h)) (pa_cons (pv 1) pa_nil)))
    (pss_cons (ps_expr (pe_meth (pv 0) T.H.cl T.M_need_hand G_need_hand (hr.mono (by decide)) T.b_need_hand .nil (L2N.passes_call (L2N.takes_of rfl rfl rfl rfl) (fun _ _ _ _ h => h)) (pa_cons (pv 2) pa_nil)))
    (pss_cons (ps_set (i := 4) sc_take.nd rfl (Or.inl rfl) (pe_meth (pv 0) T.H.cl T.M_row_of G_row_of (hr.mono (by decide)) T.b_row_of .nil (L2N.passes_call (L2N.takes_of rfl rfl rfl rfl) (fun _ _ _ _ h => h)) (pa_cons (pv 2) (pa_cons (pv 3) pa_nil))))
    (pss_one (ps_asg (pe_ix ix_list (pv 4) (pv 3) (fun _ _ => rfl)) (pg_sub (pe_fld (pv 0) rfl) (pv 1) set_list))))))
abbrev sm_make : Stmt := (inClass (top 22) 4)
theorem sc_make : FnScope N_make ["self", "hand", "slots"] (defScope sm_make) := ⟨rfl, rfl, rfl, by decide +kernel, rfl, by decide +kernel, by decide +kernel⟩
theorem ok_make (T : Txt K mg A D w) (G_need_hand : FnOk P w K mg base (L2N.CX P w) 1 D.f_need_hand D.d_need_hand ["self", "hand"] (lift (P_need_hand K A))) : FnOk P w K mg base (L2N.CX P w) 2 D.f_make D.d_make ["self", "hand", "slots"] (lift (P_make K A)) := by
  refine funN T.F_make sc_make (lift_len pm3_len) (fun cdv Ar outer s H vs Q E hr h => ?_)
  have hu := hu_of hr
  refine ⟨t_make K A E, ?_, lift_body h fun L Qa Ea he p => p_make T.H he p⟩
  exact (pss_cons (ps_expr (pe_meth (pv 0) T.H.cl T.M_need_hand G_need_hand (hr.mono (by decide)) T.b_need_hand .nil (L2N.passes_call (L2N.takes_of rfl rfl rfl rfl) (fun _ _ _ _ h => h)) (pa_cons (pv 1) pa_nil)))
    (pss_cons (ps_if (pt_not (pt_chain op_le op_le pe_int (pv 2) (pe_glob rfl T.c_MOST_SLOTS.choose_spec ⟨_, rfl⟩))) (pss_one (L2N.ps_raise rfl (L2N.takes_of rfl rfl rfl rfl) (L2N.pmk_own PySem.F.excBase_ValueError T.x_NoSlot T.g_NoSlot T.kx_NoSlot (raises_own T.bx_NoSlot T.tx_NoSlot) (by exact rfl)))) pss_nil)
    (pss_cons (ps_if (pt_cmpR op_ge (pe_callB call_lenD (by rfl) T.z_len (by decide +kernel) (pa_cons (pe_fld (pv 0) rfl) pa_nil)) (pe_fld (pv 0) rfl) (nomark _)) (pss_one (L2N.ps_raise rfl (L2N.takes_of rfl rfl rfl rfl) (L2N.pmk_own PySem.F.excBase_ValueError T.x_NoRoom T.g_NoRoom T.kx_NoRoom (raises_own T.bx_NoRoom T.tx_NoRoom) (by exact rfl)))) pss_nil)
    (pss_cons (ps_set (i := 3) sc_make.nd rfl (Or.inl rfl) (pe_fld (pv 0) rfl))
    (pss_cons (ps_fld (pv 0) (pe_op op_add (pv 3) pe_int) rfl)
    (pss_cons (ps_dput hu (pe_fld (pv 0) rfl) (pv 3) (pe_lc (own := [("k", 4)]) (g := gName 4) (tt := tYes) rfl sc_make.nd (pi_range1 rfl T.z_range (pa_cons (pv 2) pa_nil)) (blkOk_by (N := N_make) (sc := defScope sm_make) (by decide +kernel)) (fun _ _ _ _ _ => pg_name (i := 4) sc_make.nd rfl (Or.inl rfl)) (fun _ _ _ _ _ => pts_nil) (fun _ _ _ _ _ => pe_non)) rfl)
    (pss_cons (ps_asg (pv 3) (pg_sub (pe_fld (pv 0) rfl) (pv 1) set_list))
    (pss_one (ps_ret (pv 3))))))))))
abbrev sm_init : Stmt := (inClass (top 22) 0)
theorem sc_init : FnScope N_init ["self", "hands", "room"] (defScope sm_init) := ⟨rfl, rfl, rfl, by decide +kernel, rfl, by decide +kernel, by decide +kernel⟩
theorem ok_init (T : Txt K mg A D w) (G_rest : FnOk P w K mg base (L2N.CX P w) 1 D.f_rest D.d_rest ["self"] (lift (P_rest K A))) : FnOk P w K mg base (L2N.CX P w) 2 D.f_init D.d_init ["self", "hands", "room"] (lift (P_init K A)) := by
  refine funN T.F_init sc_init (lift_len pm3_len) (fun cdv Ar outer s H vs Q E hr h => ?_)
  have hu := hu_of hr
  refine ⟨t_init K A E, ?_, lift_body h fun L Qa Ea he p => p_init T.H he p⟩
  exact (pss_cons (ps_if (PW.pt (pw_or (pt_not (pt_chain op_le op_le pe_int (pv 1) (pe_glob rfl T.c_MOST_HANDS.choose_spec ⟨_, rfl⟩))) (pw_or1 (pt_not (pt_chain op_le op_le pe_int (pv 2) (pe_glob rfl T.c_MOST_ROOM.choose_spec ⟨_, rfl⟩)))))) (pss_one (L2N.ps_raise rfl (L2N.takes_of rfl rfl rfl rfl) (L2N.pmk_own PySem.F.excBase_ValueError T.x_NoHeap T.g_NoHeap T.kx_NoHeap (raises_own T.bx_NoHeap T.tx_NoHeap) (by exact rfl)))) pss_nil)
    (pss_cons (ps_fld (pv 0) (pe_lc (own := [("k", 3)]) (g := gName 3) (tt := tYes) rfl sc_init.nd (pi_range1 rfl T.z_range (pa_cons (pv 1) pa_nil)) (blkOk_by (N := N_init) (sc := defScope sm_init) (by decide +kernel)) (fun _ _ _ _ _ => pg_name (i := 3) sc_init.nd rfl (Or.inl rfl)) (fun _ _ _ _ _ => pts_nil) (fun _ _ _ _ _ => pe_non)) rfl)
    (pss_cons (ps_fld (pv 0) (pv 2) rfl)
    (pss_cons (ps_fld (pv 0) pe_dnewK rfl)
    (pss_cons (ps_fld (pv 0) pe_int rfl)
    (pss_cons (ps_fld (pv 0) pe_int rfl)
    (pss_one (ps_expr (pe_meth0 (pv 0) T.H.cl T.M_rest G_rest (hr.mono (by decide)) T.b_rest .nil passN)))))))))
abbrev sm_law_all : Stmt := (top 31)
theorem sc_law_all : FnScope N_law_all ["_law_heap", "_law_many", "_law_total"] (defScope sm_law_all) := ⟨rfl, rfl, rfl, by decide +kernel, rfl, by decide +kernel, by decide +kernel⟩
theorem ok_law_all (T : Txt K mg A D w) (G_boxes : FnOk P w K mg base (L2N.CX P w) 1 D.f_boxes D.d_boxes ["self"] (lift (P_boxes K A))) (G_marked : FnOk P w K mg base (L2N.CX P w) 1 D.f_marked D.d_marked ["self"] (lift (P_marked K A))) (G_waiting : FnOk P w K mg base (L2N.CX P w) 1 D.f_waiting D.d_waiting ["self"] (lift (P_waiting K A))) (G_held : FnOk P w K mg base (L2N.CX P w) 2 D.f_held D.d_held ["self", "hand"] (lift (P_held K A))) (G_rounds : FnOk P w K mg base (L2N.CX P w) 1 D.f_rounds D.d_rounds ["self"] (lift (P_rounds K A))) (G_look : FnOk P w K mg base (L2N.CX P w) 1 D.f_look D.d_look ["self", "box"] (lift (P_look K A))) : FnOk P w K mg base (L2N.CX P w) 3 D.f_law_all D.d_law_all ["_law_heap", "_law_many", "_law_total"] (lift (P_law_all K A)) := by
  refine funN T.F_law_all sc_law_all (lift_len pm3_len) (fun cdv Ar outer s H vs Q E hr h => ?_)
  have hu := hu_of hr
  refine ⟨t_law_all K A E, ?_, lift_body h fun L Qa Ea he p => p_law_all T.H he p⟩
  exact (pss_cons (ps_set (i := 3) sc_law_all.nd rfl (Or.inl rfl) (pe_lst (pa_cons (pe_lc (own := [("_law_k", 4)]) (g := gName 4) (tt := tYes) rfl sc_law_all.nd (pi_range1 rfl T.z_range (pa_cons (pv 1) pa_nil)) (blkOk_by (N := N_law_all) (sc := defScope sm_law_all) (by decide +kernel)) (fun _ _ _ _ _ => pg_name (i := 4) sc_law_all.nd rfl (Or.inl rfl)) (fun _ _ _ _ _ => pts_nil) (fun _ _ _ _ _ => (pe_meth (pv 0) T.H.cl T.M_held G_held (hr.mono (by decide)) T.b_held .nil passN (pa_cons (pv 4) pa_nil)))) (pa_cons (pe_meth0 (pv 0) T.H.cl T.M_boxes G_boxes (hr.mono (by decide)) T.b_boxes .nil passN) (pa_cons (pe_meth0 (pv 0) T.H.cl T.M_marked G_marked (hr.mono (by decide)) T.b_marked .nil passN) (pa_cons (pe_meth0 (pv 0) T.H.cl T.M_waiting G_waiting (hr.mono (by decide)) T.b_waiting .nil passN) (pa_cons (pe_lst (pa_cons (pe_meth0 (pv 0) T.H.cl T.M_rounds G_rounds (hr.mono (by decide)) T.b_rounds .nil passN) pa_nil)) pa_nil)))))))
    (pss_one (ps_ret (pe_op op_cat (pv 3) (pe_lc (own := [("_law_k", 4)]) (g := gName 4) (tt := tYes) rfl sc_law_all.nd (pi_range1 rfl T.z_range (pa_cons (pv 2) pa_nil)) (blkOk_by (N := N_law_all) (sc := defScope sm_law_all) (by decide +kernel)) (fun _ _ _ _ _ => pg_name (i := 4) sc_law_all.nd rfl (Or.inl rfl)) (fun _ _ _ _ _ => pts_nil) (fun _ _ _ _ _ => (pe_meth (pv 0) T.H.cl T.M_look G_look (hr.mono (by decide)) T.b_look .nil passN (pa_cons (pv 4) pa_nil))))))))
theorem okH_law_all (T : Txt K mg A D w) (GH_boxes : FnHot P w K mg base (L2N.CX P w) 1 D.f_boxes D.d_boxes ["self"] (liftN (P_boxes K A))) (GH_marked : FnHot P w K mg base (L2N.CX P w) 1 D.f_marked D.d_marked ["self"] (liftN (P_marked K A))) (GH_waiting : FnHot P w K mg base (L2N.CX P w) 1 D.f_waiting D.d_waiting ["self"] (liftN (P_waiting K A))) (GH_held : FnHot P w K mg base (L2N.CX P w) 2 D.f_held D.d_held ["self", "hand"] (liftN (P_held K A))) (GH_rounds : FnHot P w K mg base (L2N.CX P w) 1 D.f_rounds D.d_rounds ["self"] (liftN (P_rounds K A))) (GH_look : FnHot P w K mg base (L2N.CX P w) 1 D.f_look D.d_look ["self", "box"] (liftN (P_look K A))) : FnHot P w K mg base (L2N.CX P w) 3 D.f_law_all D.d_law_all ["_law_heap", "_law_many", "_law_total"] (liftN (P_law_all K A)) := by
  refine funH T.F_law_all sc_law_all (liftN_len (lift_len pm3_len)) (fun cdv Ar outer s H vs Q E p hot hr h => ?_)
  have hc := @hot_deep Ar p (L2N.CX P w) P w K mg base N_law_all "_law_all" (defScope sm_law_all) D.f_law_all cdv outer s H E hot
  have hu := hu_ofH hr
  refine ⟨t_law_all K A E0, ?_, lift_body h fun L Qa Ea he p => p_law_all T.H he p⟩
  exact (pss_cons (ps_set (i := 3) sc_law_all.nd rfl (Or.inl rfl) (pe_lst (pa_cons (pe_lcH (own := [("_law_k", 4)]) (g := gName 4) (tt := tYes) hc sc_law_all.nd (L2H.pi_range1H rfl T.z_range (pa_cons (pv 1) pa_nil)) (blkOk_by (N := N_law_all) (sc := defScope sm_law_all) (by decide +kernel)) (fun _ _ _ _ _ => pg_name (i := 4) sc_law_all.nd rfl (Or.inl rfl)) (fun _ _ _ _ _ => pts_nil) (fun _ _ _ _ _ => (hot_meth (pv 0) T.H.cl T.M_held GH_held (hr.mono (by decide)) hc T.b_held (pa_cons (pv 4) pa_nil)))) (pa_cons (hot_meth0 (pv 0) T.H.cl T.M_boxes GH_boxes (hr.mono (by decide)) hc T.b_boxes) (pa_cons (hot_meth0 (pv 0) T.H.cl T.M_marked GH_marked (hr.mono (by decide)) hc T.b_marked) (pa_cons (hot_meth0 (pv 0) T.H.cl T.M_waiting GH_waiting (hr.mono (by decide)) hc T.b_waiting) (pa_cons (pe_lst (pa_cons (hot_meth0 (pv 0) T.H.cl T.M_rounds GH_rounds (hr.mono (by decide)) hc T.b_rounds) pa_nil)) pa_nil)))))))
    (pss_one (ps_ret (pe_op op_cat (pv 3) (pe_lcH (own := [("_law_k", 4)]) (g := gName 4) (tt := tYes) hc sc_law_all.nd (L2H.pi_range1H rfl T.z_range (pa_cons (pv 2) pa_nil)) (blkOk_by (N := N_law_all) (sc := defScope sm_law_all) (by decide +kernel)) (fun _ _ _ _ _ => pg_name (i := 4) sc_law_all.nd rfl (Or.inl rfl)) (fun _ _ _ _ _ => pts_nil) (fun _ _ _ _ _ => (hot_meth (pv 0) T.H.cl T.M_look GH_look (hr.mono (by decide)) hc T.b_look (pa_cons (pv 4) pa_nil))))))))
abbrev sm_piece : Stmt := (top 16)
theorem sc_piece : FnScope N_piece ["heap"] (defScope sm_piece) := ⟨rfl, rfl, rfl, by decide +kernel, rfl, by decide +kernel, by decide +kernel⟩
theorem ok_piece (T : Txt K mg A D w) (G_settle : FnOk P w K mg base (L2N.CX P w) 2 D.f_settle D.d_settle ["heap"] (lift (P_settle K A))) (G_begin : FnOk P w K mg base (L2N.CX P w) 2 D.f_begin D.d_begin ["heap"] (lift (P_begin K A))) (G_look_at : FnOk P w K mg base (L2N.CX P w) 2 D.f_look_at D.d_look_at ["heap"] (lift (P_look_at K A))) (G_sweep : FnOk P w K mg base (L2N.CX P w) 1 D.f_sweep D.d_sweep ["heap"] (lift (P_sweep K A))) : FnOk P w K mg base (L2N.CX P w) 3 D.f_piece D.d_piece ["heap"] (lift (P_piece K A)) := by
  refine funN T.F_piece sc_piece (lift_len pm1_len) (fun cdv Ar outer s H vs Q E hr h => ?_)
  have hu := hu_of hr
  refine ⟨t_piece K A E, ?_, lift_body h fun L Qa Ea he p => p_piece T.H he p⟩
  exact (pss_cons (ps_set (i := 1) sc_piece.nd rfl (Or.inl rfl) pe_non)
    (pss_cons (ps_if (pt_cmpR op_eq (pe_fld (pv 0) rfl) pe_str (nomark _)) (pss_one (ps_expr (pe_call G_begin (hr.mono (by decide)) rfl T.m_begin T.k_begin T.b_begin .nil passN (pa_cons (pv 0) pa_nil)))) (pss_one (ps_if (pt_cmpR op_eq (pe_fld (pv 0) rfl) pe_str (nomark _)) (pss_one (ps_expr (pe_call G_look_at (hr.mono (by decide)) rfl T.m_look_at T.k_look_at T.b_look_at .nil passN (pa_cons (pv 0) pa_nil)))) (pss_one (ps_set (i := 1) sc_piece.nd rfl (Or.inl rfl) (pe_call G_sweep (hr.mono (by decide)) rfl T.m_sweep T.k_sweep T.b_sweep .nil passN (pa_cons (pv 0) pa_nil)))))))
    (pss_cons (ps_expr (pe_call G_settle (hr.mono (by decide)) rfl T.m_settle T.k_settle T.b_settle .nil passN (pa_cons (pv 0) pa_nil)))
    (pss_one (ps_ret (pv 1))))))
abbrev sm_law_laid : Stmt := (top 30)
theorem sc_law_laid : FnScope N_law_laid ["_law_heap", "_law_slots", "_law_cells"] (defScope sm_law_laid) := ⟨rfl, rfl, rfl, by decide +kernel, rfl, by decide +kernel, by decide +kernel⟩
theorem ok_law_laid (T : Txt K mg A D w) (G_make : FnOk P w K mg base (L2N.CX P w) 2 D.f_make D.d_make ["self", "hand", "slots"] (lift (P_make K A))) (G_put : FnOk P w K mg base (L2N.CX P w) 2 D.f_put D.d_put ["self", "hand", "slot", "other"] (lift (P_put K A))) : FnOk P w K mg base (L2N.CX P w) 3 D.f_law_laid D.d_law_laid ["_law_heap", "_law_slots", "_law_cells"] (lift (P_law_laid K A)) := by
  refine funN T.F_law_laid sc_law_laid (lift_len pm3_len) (fun cdv Ar outer s H vs Q E hr h => ?_)
  have hu := hu_of hr
  refine ⟨t_law_laid K A E, ?_, lift_body h fun L Qa Ea he p => p_law_laid T.H he p⟩
  exact (pss_cons (ps_if (pt_cmpR (op_eqD hr.units) (pv 1) (pe_lst pa_nil) (nomark _)) (pss_one ps_retN) pss_nil)
    (pss_cons (ps_expr (pe_meth (pv 0) T.H.cl T.M_make G_make (hr.mono (by decide)) T.b_make .nil passN (pa_cons pe_int (pa_cons pe_int pa_nil))))
    (pss_cons (ps_for PassesOwn.leaving rfl (pi_range2 rfl T.z_range (pa_cons pe_int (pa_cons (pe_callB cl_len (by rfl) T.z_len (by decide +kernel) (pa_cons (pv 1) pa_nil)) pa_nil))) (pg_name (i := 3) sc_law_laid.nd rfl (Or.inl rfl))
      (pss_cons (ps_expr (pe_meth (pv 0) T.H.cl T.M_make G_make (hr.mono (by decide)) T.b_make .nil passN (pa_cons (pv 3) (pa_cons (pe_ix ix_list (pv 1) (pv 3) (fun _ _ => rfl)) pa_nil))))
    (pss_one (ps_if (pt_cmpR op_gt (pe_ix ix_list (pv 1) (pv 3) (fun _ _ => rfl)) pe_int (nomark _)) (pss_one (ps_expr (pe_meth (pv 0) T.H.cl T.M_put G_put (hr.mono (by decide)) T.b_put .nil passN (pa_cons (pv 3) (pa_cons (pe_op op_mod (pe_ix ix_list (pv 2) (pv 3) (fun _ _ => rfl)) (pe_ix ix_list (pv 1) (pv 3) (fun _ _ => rfl))) (pa_cons pe_int pa_nil)))))) pss_nil))))
    (pss_one (ps_expr (pe_meth (pv 0) T.H.cl T.M_make G_make (hr.mono (by decide)) T.b_make .nil passN (pa_cons pe_int (pa_cons (pe_ix ix_list (pv 1) pe_int (fun _ _ => rfl)) pa_nil))))))))
abbrev sm_work : Stmt := (inClass (top 22) 12)
theorem sc_work : FnScope N_work ["self", "pieces"] (defScope sm_work) := ⟨rfl, rfl, rfl, by decide +kernel, rfl, by decide +kernel, by decide +kernel⟩
theorem ok_work (T : Txt K mg A D w) (G_piece : FnOk P w K mg base (L2N.CX P w) 3 D.f_piece D.d_piece ["heap"] (lift (P_piece K A))) : FnOk P w K mg base (L2N.CX P w) 4 D.f_work D.d_work ["self", "pieces"] (lift (P_work K A)) := by
  refine funN T.F_work sc_work (lift_len pm2_len) (fun cdv Ar outer s H vs Q E hr h => ?_)
  have hu := hu_of hr
  refine ⟨t_work K A E, ?_, lift_body h fun L Qa Ea he p => p_work T.H he p⟩
  exact (pss_cons (ps_if (pt_not (pt_chain op_le op_le pe_int (pv 1) (pe_glob rfl T.c_MOST_PIECES.choose_spec ⟨_, rfl⟩))) (pss_one (L2N.ps_raise rfl (L2N.takes_of rfl rfl rfl rfl) (L2N.pmk_own PySem.F.excBase_ValueError T.x_NoWork T.g_NoWork T.kx_NoWork (raises_own T.bx_NoWork T.tx_NoWork) (by exact rfl)))) pss_nil)
    (pss_cons (ps_set (i := 2) sc_work.nd rfl (Or.inl rfl) (pe_lst pa_nil))
    (pss_cons (ps_for PassesOwn.leaving rfl (pi_range1 rfl T.z_range (pa_cons (pv 1) pa_nil)) (pg_name (i := 3) sc_work.nd rfl (Or.inl rfl))
      (pss_cons (ps_set (i := 4) sc_work.nd rfl (Or.inl rfl) (pe_call G_piece (hr.mono (by decide)) rfl T.m_piece T.k_piece T.b_piece .nil passN (pa_cons (pv 0) pa_nil)))
    (pss_one (ps_if (pt_cmpR op_notNo (pv 4) pe_non (nomark _)) (pss_one (ps_expr (pe_bm PySem.F.plainAttrs_list PySem.F.slot_list_append PySem.F.type_list_append mt_append (pv 2) (pa_cons (pv 4) pa_nil)))) pss_nil))))
    (pss_one (ps_ret (pv 2))))))
abbrev sm_law_askedR : Stmt := (top 29)
theorem sc_law_askedR : FnScope N_law_askedR ["_law_heap", "_law_deed"] (defScope sm_law_askedR) := ⟨rfl, rfl, rfl, by decide +kernel, rfl, by decide +kernel, by decide +kernel⟩
theorem ok_law_askedR (T : Txt K mg A D w) (G_make : FnOk P w K mg base (L2N.CX P w) 2 D.f_make D.d_make ["self", "hand", "slots"] (lift (P_make K A))) (G_take : FnOk P w K mg base (L2N.CX P w) 2 D.f_take D.d_take ["self", "hand", "other", "slot"] (lift (P_take K A))) (G_put : FnOk P w K mg base (L2N.CX P w) 2 D.f_put D.d_put ["self", "hand", "slot", "other"] (lift (P_put K A))) (G_share : FnOk P w K mg base (L2N.CX P w) 2 D.f_share D.d_share ["self", "hand", "other"] (lift (P_share K A))) (G_drop : FnOk P w K mg base (L2N.CX P w) 2 D.f_drop D.d_drop ["self", "hand"] (lift (P_drop K A))) (G_held : FnOk P w K mg base (L2N.CX P w) 2 D.f_held D.d_held ["self", "hand"] (lift (P_held K A))) (G_look : FnOk P w K mg base (L2N.CX P w) 1 D.f_look D.d_look ["self", "box"] (lift (P_look K A))) (G_work : FnOk P w K mg base (L2N.CX P w) 4 D.f_work D.d_work ["self", "pieces"] (lift (P_work K A))) : FnOk P w K mg base (L2N.CX P w) 5 D.f_law_askedR D.d_law_askedR ["_law_heap", "_law_deed"] (lift (P_law_askedR K A)) := by
  refine funN T.F_law_askedR sc_law_askedR (lift_len pm2_len) (fun cdv Ar outer s H vs Q E hr h => ?_)
  have hu := hu_of hr
  refine ⟨t_law_askedR K A E, ?_, lift_body h fun L Qa Ea he p => p_law_askedR T.H he p⟩
  exact (pss_cons (ps_set (i := 2) sc_law_askedR.nd rfl (Or.inl rfl) (pe_ix ix_list (pv 1) pe_int (fun _ _ => rfl)))
    (pss_one (ps_if (pt_cmpR op_eq (pv 2) pe_str (nomark _)) (pss_one (ps_expr (pe_meth (pv 0) T.H.cl T.M_make G_make (hr.mono (by decide)) T.b_make .nil (L2N.passes_call (L2N.takes_of rfl rfl rfl rfl) (fun _ _ _ _ h => h)) (pa_cons (pe_ix ix_list (pv 1) pe_int (fun _ _ => rfl)) (pa_cons (pe_ix ix_list (pv 1) pe_int (fun _ _ => rfl)) pa_nil))))) (pss_one (ps_if (pt_cmpR op_eq (pv 2) pe_str (nomark _)) (pss_one (ps_expr (pe_meth (pv 0) T.H.cl T.M_take G_take (hr.mono (by decide)) T.b_take .nil (L2N.passes_call (L2N.takes_of rfl rfl rfl rfl) (fun _ _ _ _ h => h)) (pa_cons (pe_ix ix_list (pv 1) pe_int (fun _ _ => rfl)) (pa_cons (pe_ix ix_list (pv 1) pe_int (fun _ _ => rfl)) (pa_cons (pe_ix ix_list (pv 1) pe_int (fun _ _ => rfl)) pa_nil)))))) (pss_one (ps_if (pt_cmpR op_eq (pv 2) pe_str (nomark _)) (pss_one (ps_expr (pe_meth (pv 0) T.H.cl T.M_put G_put (hr.mono (by decide)) T.b_put .nil (L2N.passes_call (L2N.takes_of rfl rfl rfl rfl) (fun _ _ _ _ h => h)) (pa_cons (pe_ix ix_list (pv 1) pe_int (fun _ _ => rfl)) (pa_cons (pe_ix ix_list (pv 1) pe_int (fun _ _ => rfl)) (pa_cons (pe_ix ix_list (pv 1) pe_int (fun _ _ => rfl)) pa_nil)))))) (pss_one (ps_if (pt_cmpR op_eq (pv 2) pe_str (nomark _)) (pss_one (ps_expr (pe_meth (pv 0) T.H.cl T.M_share G_share (hr.mono (by decide)) T.b_share .nil (L2N.passes_call (L2N.takes_of rfl rfl rfl rfl) (fun _ _ _ _ h => h)) (pa_cons (pe_ix ix_list (pv 1) pe_int (fun _ _ => rfl)) (pa_cons (pe_ix ix_list (pv 1) pe_int (fun _ _ => rfl)) pa_nil))))) (pss_one (ps_if (pt_cmpR op_eq (pv 2) pe_str (nomark _)) (pss_one (ps_expr (pe_meth (pv 0) T.H.cl T.M_drop G_drop (hr.mono (by decide)) T.b_drop .nil (L2N.passes_call (L2N.takes_of rfl rfl rfl rfl) (fun _ _ _ _ h => h)) (pa_cons (pe_ix ix_list (pv 1) pe_int (fun _ _ => rfl)) pa_nil)))) (pss_one (ps_if (pt_cmpR op_eq (pv 2) pe_str (nomark _)) (pss_one (ps_expr (pe_meth (pv 0) T.H.cl T.M_held G_held (hr.mono (by decide)) T.b_held .nil (L2N.passes_call (L2N.takes_of rfl rfl rfl rfl) (fun _ _ _ _ h => h)) (pa_cons (pe_ix ix_list (pv 1) pe_int (fun _ _ => rfl)) pa_nil)))) (pss_one (ps_if (pt_cmpR op_eq (pv 2) pe_str (nomark _)) (pss_one (ps_expr (pe_meth (pv 0) T.H.cl T.M_look G_look (hr.mono (by decide)) T.b_look .nil (L2N.passes_call (L2N.takes_of rfl rfl rfl rfl) (fun _ _ _ _ h => h)) (pa_cons (pe_ix ix_list (pv 1) pe_int (fun _ _ => rfl)) pa_nil)))) (pss_one (ps_expr (pe_meth (pv 0) T.H.cl T.M_work G_work (hr.mono (by decide)) T.b_work .nil (L2N.passes_call (L2N.takes_of rfl rfl rfl rfl) (fun _ _ _ _ h => h)) (pa_cons (pe_ix ix_list (pv 1) pe_int (fun _ _ => rfl)) pa_nil)))))))))))))))))))
abbrev sm_law : Stmt := (top 32)
theorem sc_law : FnScope N_law ["_law_script"] (defScope sm_law) := ⟨rfl, rfl, rfl, by decide +kernel, rfl, by decide +kernel, by decide +kernel⟩
theorem ok_law (T : Txt K mg A D w) (G_init : FnOk P w K mg base (L2N.CX P w) 2 D.f_init D.d_init ["self", "hands", "room"] (lift (P_init K A))) (G_law_laid : FnOk P w K mg base (L2N.CX P w) 3 D.f_law_laid D.d_law_laid ["_law_heap", "_law_slots", "_law_cells"] (lift (P_law_laid K A))) (G_work : FnOk P w K mg base (L2N.CX P w) 4 D.f_work D.d_work ["self", "pieces"] (lift (P_work K A))) (G_law_cell_at : FnOk P w K mg base (L2N.CX P w) 1 D.f_law_cell_at D.d_law_cell_at ["_law_script", "_law_k"] (lift (P_law_cell_at K A))) (G_law_due : FnOk P w K mg base (L2N.CX P w) 1 D.f_law_due D.d_law_due ["_law_deed", "_law_slots", "_law_many", "_law_room", "_law_total"] (lift (P_law_due K A))) (G_law_askedR : FnOk P w K mg base (L2N.CX P w) 5 D.f_law_askedR D.d_law_askedR ["_law_heap", "_law_deed"] (lift (P_law_askedR K A))) (G_law_all : FnOk P w K mg base (L2N.CX P w) 3 D.f_law_all D.d_law_all ["_law_heap", "_law_many", "_law_total"] (lift (P_law_all K A))) (G_phase : FnOk P w K mg base (L2N.CX P w) 1 D.f_phase D.d_phase ["self"] (lift (P_phase K A))) (GH_law_all : FnHot P w K mg base (L2N.CX P w) 3 D.f_law_all D.d_law_all ["_law_heap", "_law_many", "_law_total"] (liftN (P_law_all K A))) (GH_law_numbers : FnHot P w K mg base (L2N.CX P w) 2 D.f_law_numbers D.d_law_numbers ["_law_found", "_law_due_here"] (liftN (P_law_numbers K A))) (GZ_law_kinds : FnZ P w K mg base (L2N.CX P w) 1 D.f_law_kinds D.d_law_kinds ["_law_e"] (fun a C => lift (P_law_kinds K A a C))) (GH_phase : FnHot P w K mg base (L2N.CX P w) 1 D.f_phase D.d_phase ["self"] (liftN (P_phase K A))) : FnOk P w K mg base (L2N.CX P w) 6 D.f_law D.d_law ["_law_script"] (lift (P_law K A)) := by
  refine funN T.F_law sc_law (lift_len pm1_len) (fun cdv Ar outer s H vs Q E hr h => ?_)
  have hu := hu_of hr
  refine ⟨t_law K A E, ?_, lift_body h fun L Qa Ea he p => p_law T.H T.em_NoBox_HeapError T.em_NoHand_HeapError T.em_NoRoom_HeapError T.em_NoSlot_HeapError T.em_NoWork_HeapError T.em_NothingHeld_HeapError T.ki_NoBox_ValueError T.ki_NoHand_ValueError T.ki_NoRoom_ValueError T.ki_NoSlot_ValueError T.ki_NoWork_ValueError T.ki_NothingHeld_ValueError he p⟩
  exact (pss_cons (ps_set (i := 1) sc_law.nd rfl (Or.inl rfl) (pe_op op_add pe_int (pe_op op_mod (pe_call G_law_cell_at (hr.mono (by decide)) rfl T.m_law_cell_at T.k_law_cell_at T.b_law_cell_at .nil passN (pa_cons (pv 0) (pa_cons pe_int pa_nil))) pe_int)))
    (pss_cons (ps_setLc (i := 2) (own := [("_law_k", 15)]) (g := gName 15) (tt := tYes) rfl sc_law.nd rfl rfl (sw_true rfl rfl rfl (by decide +kernel)) (pi_range1 rfl T.z_range (pa_cons (pe_callB (cl_min2 rfl) (by rfl) T.z_min (by decide +kernel) (pa_cons (pv 1) (pa_cons (pe_op op_mod (pe_call G_law_cell_at (hr.mono (by decide)) rfl T.m_law_cell_at T.k_law_cell_at T.b_law_cell_at .nil passN (pa_cons (pv 0) (pa_cons pe_int pa_nil))) pe_int) pa_nil))) pa_nil)) (blkOk_by (N := N_law) (sc := defScope sm_law) (by decide +kernel)) (fun _ _ _ _ _ => pg_name (i := 15) sc_law.nd rfl (Or.inl rfl)) (fun _ _ _ _ _ => pts_nil) (fun _ _ _ _ _ => (pe_op op_mod (pe_call G_law_cell_at (hr.mono (by decide)) rfl T.m_law_cell_at T.k_law_cell_at T.b_law_cell_at .nil passN (pa_cons (pv 0) (pa_cons (pe_op op_add pe_int (pv 15)) pa_nil))) pe_int)))
    (pss_cons (ps_set (i := 3) sc_law.nd rfl (Or.inl rfl) (pe_op op_add (pe_callB cl_len (by rfl) T.z_len (by decide +kernel) (pa_cons (pv 2) pa_nil)) (pe_callTy cl_int1 (by rfl) T.z_int (by decide +kernel) (pa_cons (pe_cmpR (op_neD hr.units) (pv 2) (pe_lst pa_nil) (nomark _)) pa_nil))))
    (pss_cons (ps_set (i := 4) sc_law.nd rfl (Or.inl rfl) (pe_callB (cl_max2 rfl) (by rfl) T.z_max (by decide +kernel) (pa_cons pe_int (pa_cons (pe_op op_add (pv 3) (pe_op op_mod (pe_op op_fdiv (pe_call G_law_cell_at (hr.mono (by decide)) rfl T.m_law_cell_at T.k_law_cell_at T.b_law_cell_at .nil passN (pa_cons (pv 0) (pa_cons pe_int pa_nil))) pe_int) pe_int)) pa_nil))))
    (pss_cons (ps_set (i := 5) sc_law.nd rfl (Or.inl rfl) (pe_make T.M_init G_init (hr.mono (by decide)) rfl T.g_Heap T.b_init .nil passN (pa_cons (pv 1) (pa_cons (pv 4) pa_nil))))
    (pss_cons (ps_expr (pe_call G_law_laid (hr.mono (by decide)) rfl T.m_law_laid T.k_law_laid T.b_law_laid .nil passN (pa_cons (pv 5) (pa_cons (pv 2) (pa_cons (pe_lc (own := [("_law_k", 15)]) (g := gName 15) (tt := tYes) rfl sc_law.nd (pi_range1 rfl T.z_range (pa_cons (pe_callB cl_len (by rfl) T.z_len (by decide +kernel) (pa_cons (pv 2) pa_nil)) pa_nil)) (blkOk_by (N := N_law) (sc := defScope sm_law) (by decide +kernel)) (fun _ _ _ _ _ => pg_name (i := 15) sc_law.nd rfl (Or.inl rfl)) (fun _ _ _ _ _ => pts_nil) (fun _ _ _ _ _ => (pe_call G_law_cell_at (hr.mono (by decide)) rfl T.m_law_cell_at T.k_law_cell_at T.b_law_cell_at .nil passN (pa_cons (pv 0) (pa_cons (pe_op op_add pe_int (pv 15)) pa_nil))))) pa_nil)))))
    (pss_cons (ps_expr (pe_meth (pv 5) T.H.cl T.M_work G_work (hr.mono (by decide)) T.b_work .nil passN (pa_cons (pe_op op_mod (pe_call G_law_cell_at (hr.mono (by decide)) rfl T.m_law_cell_at T.k_law_cell_at T.b_law_cell_at .nil passN (pa_cons (pv 0) (pa_cons pe_int pa_nil))) pe_int) pa_nil)))
    (pss_cons (ps_set (i := 6) sc_law.nd rfl (Or.inl rfl) (pe_lst (pa_cons pe_str (pa_cons pe_str (pa_cons pe_str (pa_cons pe_str (pa_cons pe_str (pa_cons pe_str (pa_cons pe_str (pa_cons pe_str pa_nil))))))))))
    (pss_cons (ps_set (i := 7) sc_law.nd rfl (Or.inl rfl) (pe_ix ix_list (pv 6) (pe_op op_mod (pe_op op_fdiv (pe_call G_law_cell_at (hr.mono (by decide)) rfl T.m_law_cell_at T.k_law_cell_at T.b_law_cell_at .nil passN (pa_cons (pv 0) (pa_cons pe_int pa_nil))) pe_int) pe_int) (fun _ _ => rfl)))
    (pss_cons (ps_set (i := 8) sc_law.nd rfl (Or.inl rfl) (pe_lst (pa_cons (pe_op op_sub (pe_op op_mod (pe_call G_law_cell_at (hr.mono (by decide)) rfl T.m_law_cell_at T.k_law_cell_at T.b_law_cell_at .nil passN (pa_cons (pv 0) (pa_cons pe_int pa_nil))) (pe_op op_add (pv 1) pe_int)) pe_int) (pa_cons (pe_op op_sub (pe_op op_mod (pe_call G_law_cell_at (hr.mono (by decide)) rfl T.m_law_cell_at T.k_law_cell_at T.b_law_cell_at .nil passN (pa_cons (pv 0) (pa_cons pe_int pa_nil))) (pe_op op_add (pv 1) pe_int)) pe_int) pa_nil))))
    (pss_cons (ps_expr (pe_bm PySem.F.plainAttrs_list PySem.F.slot_list_append PySem.F.type_list_append mt_append (pv 8) (pa_cons (pe_op op_sub (pe_op op_mod (pe_call G_law_cell_at (hr.mono (by decide)) rfl T.m_law_cell_at T.k_law_cell_at T.b_law_cell_at .nil passN (pa_cons (pv 0) (pa_cons pe_int pa_nil))) pe_int) pe_int) pa_nil)))
    (pss_cons (ps_if (pt_cmpR op_eq (pv 7) pe_str (nomark _)) (pss_one (ps_asg (pe_op op_sub (pe_op op_mod (pe_call G_law_cell_at (hr.mono (by decide)) rfl T.m_law_cell_at T.k_law_cell_at T.b_law_cell_at .nil passN (pa_cons (pv 0) (pa_cons pe_int pa_nil))) (pe_op op_add (pv 3) pe_int)) pe_int) (pg_sub (pv 8) pe_int set_list))) pss_nil)
    (pss_cons (ps_if (pt_cmpR op_eq (pv 7) pe_str (nomark _)) (pss_one (ps_asg (pe_ix ix_list (pe_lst (pa_cons pe_int (pa_cons (pe_un un_neg pe_int) (pa_cons pe_int (pa_cons (pe_op op_add pe_int (pe_op op_mod (pe_op op_fdiv (pe_call G_law_cell_at (hr.mono (by decide)) rfl T.m_law_cell_at T.k_law_cell_at T.b_law_cell_at .nil passN (pa_cons (pv 0) (pa_cons pe_int pa_nil))) pe_int) pe_int)) (pa_cons (pe_un un_neg pe_int) (pa_cons pe_int pa_nil))))))) (pe_op op_mod (pe_call G_law_cell_at (hr.mono (by decide)) rfl T.m_law_cell_at T.k_law_cell_at T.b_law_cell_at .nil passN (pa_cons (pv 0) (pa_cons pe_int pa_nil))) pe_int) (fun _ _ => rfl)) (pg_sub (pv 8) pe_int set_list))) pss_nil)
    (pss_cons (ps_set (i := 9) sc_law.nd rfl (Or.inl rfl) (pe_call G_law_cell_at (hr.mono (by decide)) rfl T.m_law_cell_at T.k_law_cell_at T.b_law_cell_at .nil passN (pa_cons (pv 0) (pa_cons pe_int pa_nil))))
    (pss_cons (ps_if (pt_cmpR op_eq (pe_op op_mod (pv 9) pe_int) pe_int (nomark _)) (pss_one (ps_asg (pe_op op_add (pe_ix ix_list (pe_lst (pa_cons (pe_op op_pow pe_int pe_int) (pa_cons (pe_op op_sub pe_int (pe_op op_pow pe_int pe_int)) pa_nil))) (pe_op op_mod (pe_op op_fdiv (pv 9) pe_int) pe_int) (fun _ _ => rfl)) (pe_op op_mod (pe_op op_fdiv (pv 9) pe_int) pe_int)) (pg_sub (pv 8) (pe_op op_mod (pe_op op_fdiv (pv 9) pe_int) pe_int) set_list))) pss_nil)
    (pss_cons (ps_set (i := 10) sc_law.nd rfl (Or.inl rfl) (pe_op op_cat (pe_lst (pa_cons (pv 7) pa_nil)) (pv 8)))
    (pss_cons (ps_set (i := 11) sc_law.nd rfl (Or.inl rfl) (pe_call G_law_due (hr.mono (by decide)) rfl T.m_law_due T.k_law_due T.b_law_due .nil passN (pa_cons (pv 10) (pa_cons (pv 2) (pa_cons (pv 1) (pa_cons (pv 4) (pa_cons (pv 3) pa_nil)))))))
    (pss_cons (ps_set (i := 12) sc_law.nd rfl (Or.inl rfl) (pe_call G_law_all (hr.mono (by decide)) rfl T.m_law_all T.k_law_all T.b_law_all .nil passN (pa_cons (pv 5) (pa_cons (pv 1) (pa_cons (pv 3) pa_nil)))))
    (pss_cons (ps_set (i := 13) sc_law.nd rfl (Or.inl rfl) (pe_meth0 (pv 5) T.H.cl T.M_phase G_phase (hr.mono (by decide)) T.b_phase .nil passN))
    (pss_cons (L2N.ps_try_as (i := 14) (tb := fun W => (tDrop (tCallS (lift (P_law_askedR K A)) (WE W) (tCons (tVar 5) (tCons (tVar 10) tNil))))) (ts := sAs [A.NoBox, A.NoHand, A.NoRoom, A.NoSlot, A.NoWork, A.NothingHeld] (fun Cx ax => (tSeq (tAsg (tCall (lift (P_law_all K A)) [] E0 (tCons (tVar 5) (tCons (tVar 1) (tCons (tVar 3) tNil)))) (gName 16))
    (tSeq (tFor (iRng1 (tCons (tCB (rLen K) (tCons (tVar 12) tNil)) tNil)) (gName 15)
      (tIfS (tNot (tB (tCall (lift (P_law_numbers K A)) [] E0 (tCons (tOp (rIxL K) (tVar 16) (tVar 15)) (tCons (tOp (rIxL K) (tVar 12) (tVar 15)) tNil))))) (tRet (tC (.bl false))) tNext))
    (tRet (tAndV (tOp (rNeD K) (tVar 11) (tLst tNil)) (tAndV (tOp (rEqD K) (tCallS (lift (P_law_kinds K A ax Cx)) (fun _ => E0) (tCons (tVar 14) tNil)) (tVar 11)) (tAndV (tCB (rIsE K Cx ax) (tCons (tVar 14) (tCons (tC (.ty "ValueError")) tNil))) (tOp rEq (tMeth A.Heap "phase" (lift (P_phase K A)) [] E0 (tVar 5) tNil) (tVar 13)))))))))) (Wout := fun _ _ _ _ => False) rfl rfl sc_law.nd rfl rfl ⟨rfl, by decide, Or.inl T.g_HeapError⟩ takesN0 (fun W pn xe tk _ => (pss_one (ps_expr (pe_callS G_law_askedR (hr.mono (by decide)) rfl T.m_law_askedR T.k_law_askedR T.b_law_askedR (fun σ => L2N.passAt tk σ) (pa_cons (pv 5) (pa_cons (pv 10) pa_nil)))))) (fun a oe cls d pn hz hf => pss_as fun Cx mx e1 e2 => by
      subst e1 e2
      exact (pss_cons (ps_set (i := 16) sc_law.nd rfl (Or.inl rfl) (hot_call GH_law_all ((room_mark hr).mono (by decide)) (hot_of hz hf) rfl T.m_law_all T.k_law_all T.b_law_all (pa_cons (pv 5) (pa_cons (pv 1) (pa_cons (pv 3) pa_nil)))))
    (pss_cons (L2H.ps_forH PassesOwn.never (hot_of hz hf) (L2H.pi_range1H rfl T.z_range (pa_cons (pe_callB cl_len (by rfl) T.z_len (by decide +kernel) (pa_cons (pv 12) pa_nil)) pa_nil)) (pg_name (i := 15) sc_law.nd rfl (Or.inl rfl))
      (pss_one (ps_if (pt_not (pt_val (hot_call GH_law_numbers ((room_mark hr).mono (by decide)) (hot_of hz hf) rfl T.m_law_numbers T.k_law_numbers T.b_law_numbers (pa_cons (pe_ix ix_list (pv 16) (pv 15) (fun _ _ => rfl)) (pa_cons (pe_ix ix_list (pv 12) (pv 15) (fun _ _ => rfl)) pa_nil))))) (pss_one (ps_ret pe_bl)) pss_nil)))
    (pss_one (ps_ret (pe_and (pe_cmpR (op_neD (hu_of64 (room_mark hr))) (pv 11) (pe_lst pa_nil) (nomark _)) (pe_and (pe_cmpR (op_eqD (hu_of64 (room_mark hr))) (pe_callZ (p := (a, oe)) (sp := fun a C => lift (P_law_kinds K A a C)) GZ_law_kinds ((room_mark hr).mono (by decide)) (hot1_of hz hf) List.mem_cons_self hz.zc hf rfl T.m_law_kinds T.k_law_kinds T.b_law_kinds (pa_cons (pv 14) pa_nil)) (pv 11) (nomark _)) (pe_and (pe_callB (call_isE (T.ecs_law Cx mx) hz.zc hf) (by rfl) T.z_isinstance (by decide +kernel) (pa_cons (pv 14) (pa_cons (pe_bltn (v := .ty "ValueError") rfl T.z_ValueError (by decide +kernel) rfl) pa_nil))) (pe_one (pe_cmpR op_eq (hot_meth0 (pv 5) T.H.cl T.M_phase GH_phase ((room_mark hr).mono (by decide)) (hot_of hz hf) T.b_phase) (pv 13) (nomark _))))))))))))
    (pss_one (ps_ret (pe_cmpR (op_eqD hr.units) (pv 11) (pe_lst pa_nil) (nomark _))))))))))))))))))))))))
end
theorem all_mk {l : PySem.W.OpenLaw} {w : World} {K : PySem.W.Frag} {h : Heap} {mg : Str → Option Value} {fa : Addr} {f_law_cell_at f_phase f_law_kinds f_law_whole f_look f_rounds f_need_hand f_waiting f_marked f_boxes f_sweep f_mark f_rest f_row_of f_law_due f_law_numbers f_held f_look_at f_begin f_settle f_drop f_share f_put f_take f_make f_init f_law_all f_piece f_law_laid f_work f_law_askedR f_law cHeap cHeapError cNoHand cNoSlot cNoRoom cNothingHeld cNoBox cNoWork cNoHeap cNoDeed : Addr} (X : K.In h) (G : h.Ns mainGlobals mg) (hfa : mg "law" = some (.ref fa))
    {od_law_cell_at an_law_cell_at od_phase an_phase od_law_kinds an_law_kinds od_law_whole an_law_whole od_look an_look od_rounds an_rounds od_need_hand an_need_hand od_waiting an_waiting od_marked an_marked od_boxes an_boxes od_sweep an_sweep od_mark an_mark od_rest an_rest od_row_of an_row_of od_law_due an_law_due od_law_numbers an_law_numbers od_held an_held od_look_at an_look_at od_begin an_begin od_settle an_settle od_drop an_drop od_share an_share od_put an_put od_take an_take od_make an_make od_init an_init od_law_all an_law_all od_piece an_piece od_law_laid an_law_laid od_work an_work od_law_askedR an_law_askedR od_law an_law : Option Addr} {sl_law_cell_at sl_phase sl_law_kinds sl_law_whole sl_look sl_rounds sl_need_hand sl_waiting sl_marked sl_boxes sl_sweep sl_mark sl_rest sl_row_of sl_law_due sl_law_numbers sl_held sl_look_at sl_begin sl_settle sl_drop sl_share sl_put sl_take sl_make sl_init sl_law_all sl_piece sl_law_laid sl_work sl_law_askedR sl_law : Array (Option Value)} {oc_law_cell_at kV_law_cell_at dc_law_cell_at pm_law_cell_at cd_law_cell_at ct_law_cell_at oc_phase kV_phase dc_phase pm_phase cd_phase ct_phase oc_law_kinds kV_law_kinds dc_law_kinds pm_law_kinds cd_law_kinds ct_law_kinds oc_law_whole kV_law_whole dc_law_whole pm_law_whole cd_law_whole ct_law_whole oc_look kV_look dc_look pm_look cd_look ct_look oc_rounds kV_rounds dc_rounds pm_rounds cd_rounds ct_rounds oc_need_hand kV_need_hand dc_need_hand pm_need_hand cd_need_hand ct_need_hand oc_waiting kV_waiting dc_waiting pm_waiting cd_waiting ct_waiting oc_marked kV_marked dc_marked pm_marked cd_marked ct_marked oc_boxes kV_boxes dc_boxes pm_boxes cd_boxes ct_boxes oc_sweep kV_sweep dc_sweep pm_sweep cd_sweep ct_sweep oc_mark kV_mark dc_mark pm_mark cd_mark ct_mark oc_rest kV_rest dc_rest pm_rest cd_rest ct_rest oc_row_of kV_row_of dc_row_of pm_row_of cd_row_of ct_row_of oc_law_due kV_law_due dc_law_due pm_law_due cd_law_due ct_law_due oc_law_numbers kV_law_numbers dc_law_numbers pm_law_numbers cd_law_numbers ct_law_numbers oc_held kV_held dc_held pm_held cd_held ct_held oc_look_at kV_look_at dc_look_at pm_look_at cd_look_at ct_look_at oc_begin kV_begin dc_begin pm_begin cd_begin ct_begin oc_settle kV_settle dc_settle pm_settle cd_settle ct_settle oc_drop kV_drop dc_drop pm_drop cd_drop ct_drop oc_share kV_share dc_share pm_share cd_share ct_share oc_put kV_put dc_put pm_put cd_put ct_put oc_take kV_take dc_take pm_take cd_take ct_take oc_make kV_make dc_make pm_make cd_make ct_make oc_init kV_init dc_init pm_init cd_init ct_init oc_law_all kV_law_all dc_law_all pm_law_all cd_law_all ct_law_all oc_piece kV_piece dc_piece pm_piece cd_piece ct_piece oc_law_laid kV_law_laid dc_law_laid pm_law_laid cd_law_laid ct_law_laid oc_work kV_work dc_work pm_work cd_work ct_work oc_law_askedR kV_law_askedR dc_law_askedR pm_law_askedR cd_law_askedR ct_law_askedR oc_law kV_law dc_law pm_law cd_law ct_law : Value}
    {tk_MOST_HANDS tk_MOST_PIECES tk_MOST_ROOM tk_MOST_SLOTS : Tok}
    (aHeap : PySem.W.nsIn K mainGlobals "Heap" = some (some (.ref cHeap)))
    (a_law_cell_at : PySem.W.nsIn K mainGlobals "_law_cell_at" = some (some (.ref f_law_cell_at)))
    (l_law_cell_at : K.lookup f_law_cell_at = some ⟨oc_law_cell_at, od_law_cell_at, .func (PySem.W.fnOf "_law_cell_at" "_law_cell_at" (defArgs sm_law_cell_at) (defBody sm_law_cell_at) (defScope sm_law_cell_at) .none kV_law_cell_at dc_law_cell_at pm_law_cell_at an_law_cell_at cd_law_cell_at ct_law_cell_at), sl_law_cell_at⟩)
    (c_law_cell_at : PySem.W.codeIn K cd_law_cell_at "_law_cell_at" = true)
    (k_law_cell_at : PySem.W.keepIn K (.ref f_law_cell_at) = true)
    (a_phase : PySem.W.findIn K (.ref cHeap) "phase" = some (some (.ref f_phase)))
    (i_phase : PySem.W.isFn K (.ref f_phase) = true)
    (l_phase : K.lookup f_phase = some ⟨oc_phase, od_phase, .func (PySem.W.fnOf "phase" "Heap.phase" (defArgs sm_phase) (defBody sm_phase) (defScope sm_phase) .none kV_phase dc_phase pm_phase an_phase cd_phase ct_phase), sl_phase⟩)
    (c_phase : PySem.W.codeIn K cd_phase "Heap.phase" = true)
    (k_phase : PySem.W.keepIn K (.ref f_phase) = true)
    (a_law_kinds : PySem.W.nsIn K mainGlobals "_law_kinds" = some (some (.ref f_law_kinds)))
    (l_law_kinds : K.lookup f_law_kinds = some ⟨oc_law_kinds, od_law_kinds, .func (PySem.W.fnOf "_law_kinds" "_law_kinds" (defArgs sm_law_kinds) (defBody sm_law_kinds) (defScope sm_law_kinds) .none kV_law_kinds dc_law_kinds pm_law_kinds an_law_kinds cd_law_kinds ct_law_kinds), sl_law_kinds⟩)
    (c_law_kinds : PySem.W.codeIn K cd_law_kinds "_law_kinds" = true)
    (k_law_kinds : PySem.W.keepIn K (.ref f_law_kinds) = true)
    (a_law_whole : PySem.W.nsIn K mainGlobals "_law_whole" = some (some (.ref f_law_whole)))
    (l_law_whole : K.lookup f_law_whole = some ⟨oc_law_whole, od_law_whole, .func (PySem.W.fnOf "_law_whole" "_law_whole" (defArgs sm_law_whole) (defBody sm_law_whole) (defScope sm_law_whole) .none kV_law_whole dc_law_whole pm_law_whole an_law_whole cd_law_whole ct_law_whole), sl_law_whole⟩)
    (c_law_whole : PySem.W.codeIn K cd_law_whole "_law_whole" = true)
    (k_law_whole : PySem.W.keepIn K (.ref f_law_whole) = true)
    (a_look : PySem.W.findIn K (.ref cHeap) "look" = some (some (.ref f_look)))
    (i_look : PySem.W.isFn K (.ref f_look) = true)
    (l_look : K.lookup f_look = some ⟨oc_look, od_look, .func (PySem.W.fnOf "look" "Heap.look" (defArgs sm_look) (defBody sm_look) (defScope sm_look) .none kV_look dc_look pm_look an_look cd_look ct_look), sl_look⟩)
    (c_look : PySem.W.codeIn K cd_look "Heap.look" = true)
    (k_look : PySem.W.keepIn K (.ref f_look) = true)
    (a_rounds : PySem.W.findIn K (.ref cHeap) "rounds" = some (some (.ref f_rounds)))
    (i_rounds : PySem.W.isFn K (.ref f_rounds) = true)
    (l_rounds : K.lookup f_rounds = some ⟨oc_rounds, od_rounds, .func (PySem.W.fnOf "rounds" "Heap.rounds" (defArgs sm_rounds) (defBody sm_rounds) (defScope sm_rounds) .none kV_rounds dc_rounds pm_rounds an_rounds cd_rounds ct_rounds), sl_rounds⟩)
    (c_rounds : PySem.W.codeIn K cd_rounds "Heap.rounds" = true)
    (k_rounds : PySem.W.keepIn K (.ref f_rounds) = true)
    (a_need_hand : PySem.W.findIn K (.ref cHeap) "need_hand" = some (some (.ref f_need_hand)))
    (i_need_hand : PySem.W.isFn K (.ref f_need_hand) = true)
    (l_need_hand : K.lookup f_need_hand = some ⟨oc_need_hand, od_need_hand, .func (PySem.W.fnOf "need_hand" "Heap.need_hand" (defArgs sm_need_hand) (defBody sm_need_hand) (defScope sm_need_hand) .none kV_need_hand dc_need_hand pm_need_hand an_need_hand cd_need_hand ct_need_hand), sl_need_hand⟩)
    (c_need_hand : PySem.W.codeIn K cd_need_hand "Heap.need_hand" = true)
    (k_need_hand : PySem.W.keepIn K (.ref f_need_hand) = true)
    (a_waiting : PySem.W.findIn K (.ref cHeap) "waiting" = some (some (.ref f_waiting)))
    (i_waiting : PySem.W.isFn K (.ref f_waiting) = true)
    (l_waiting : K.lookup f_waiting = some ⟨oc_waiting, od_waiting, .func (PySem.W.fnOf "waiting" "Heap.waiting" (defArgs sm_waiting) (defBody sm_waiting) (defScope sm_waiting) .none kV_waiting dc_waiting pm_waiting an_waiting cd_waiting ct_waiting), sl_waiting⟩)
    (c_waiting : PySem.W.codeIn K cd_waiting "Heap.waiting" = true)
    (k_waiting : PySem.W.keepIn K (.ref f_waiting) = true)
    (a_marked : PySem.W.findIn K (.ref cHeap) "marked" = some (some (.ref f_marked)))
    (i_marked : PySem.W.isFn K (.ref f_marked) = true)
    (l_marked : K.lookup f_marked = some ⟨oc_marked, od_marked, .func (PySem.W.fnOf "marked" "Heap.marked" (defArgs sm_marked) (defBody sm_marked) (defScope sm_marked) .none kV_marked dc_marked pm_marked an_marked cd_marked ct_marked), sl_marked⟩)
    (c_marked : PySem.W.codeIn K cd_marked "Heap.marked" = true)
    (k_marked : PySem.W.keepIn K (.ref f_marked) = true)
    (a_boxes : PySem.W.findIn K (.ref cHeap) "boxes" = some (some (.ref f_boxes)))
    (i_boxes : PySem.W.isFn K (.ref f_boxes) = true)
    (l_boxes : K.lookup f_boxes = some ⟨oc_boxes, od_boxes, .func (PySem.W.fnOf "boxes" "Heap.boxes" (defArgs sm_boxes) (defBody sm_boxes) (defScope sm_boxes) .none kV_boxes dc_boxes pm_boxes an_boxes cd_boxes ct_boxes), sl_boxes⟩)
    (c_boxes : PySem.W.codeIn K cd_boxes "Heap.boxes" = true)
    (k_boxes : PySem.W.keepIn K (.ref f_boxes) = true)
    (a_sweep : PySem.W.nsIn K mainGlobals "sweep" = some (some (.ref f_sweep)))
    (l_sweep : K.lookup f_sweep = some ⟨oc_sweep, od_sweep, .func (PySem.W.fnOf "sweep" "sweep" (defArgs sm_sweep) (defBody sm_sweep) (defScope sm_sweep) .none kV_sweep dc_sweep pm_sweep an_sweep cd_sweep ct_sweep), sl_sweep⟩)
    (c_sweep : PySem.W.codeIn K cd_sweep "sweep" = true)
    (k_sweep : PySem.W.keepIn K (.ref f_sweep) = true)
    (a_mark : PySem.W.nsIn K mainGlobals "mark" = some (some (.ref f_mark)))
    (l_mark : K.lookup f_mark = some ⟨oc_mark, od_mark, .func (PySem.W.fnOf "mark" "mark" (defArgs sm_mark) (defBody sm_mark) (defScope sm_mark) .none kV_mark dc_mark pm_mark an_mark cd_mark ct_mark), sl_mark⟩)
    (c_mark : PySem.W.codeIn K cd_mark "mark" = true)
    (k_mark : PySem.W.keepIn K (.ref f_mark) = true)
    (a_rest : PySem.W.findIn K (.ref cHeap) "rest" = some (some (.ref f_rest)))
    (i_rest : PySem.W.isFn K (.ref f_rest) = true)
    (l_rest : K.lookup f_rest = some ⟨oc_rest, od_rest, .func (PySem.W.fnOf "rest" "Heap.rest" (defArgs sm_rest) (defBody sm_rest) (defScope sm_rest) .none kV_rest dc_rest pm_rest an_rest cd_rest ct_rest), sl_rest⟩)
    (c_rest : PySem.W.codeIn K cd_rest "Heap.rest" = true)
    (k_rest : PySem.W.keepIn K (.ref f_rest) = true)
    (a_row_of : PySem.W.findIn K (.ref cHeap) "row_of" = some (some (.ref f_row_of)))
    (i_row_of : PySem.W.isFn K (.ref f_row_of) = true)
    (l_row_of : K.lookup f_row_of = some ⟨oc_row_of, od_row_of, .func (PySem.W.fnOf "row_of" "Heap.row_of" (defArgs sm_row_of) (defBody sm_row_of) (defScope sm_row_of) .none kV_row_of dc_row_of pm_row_of an_row_of cd_row_of ct_row_of), sl_row_of⟩)
    (c_row_of : PySem.W.codeIn K cd_row_of "Heap.row_of" = true)
    (k_row_of : PySem.W.keepIn K (.ref f_row_of) = true)
    (a_law_due : PySem.W.nsIn K mainGlobals "_law_due" = some (some (.ref f_law_due)))
    (l_law_due : K.lookup f_law_due = some ⟨oc_law_due, od_law_due, .func (PySem.W.fnOf "_law_due" "_law_due" (defArgs sm_law_due) (defBody sm_law_due) (defScope sm_law_due) .none kV_law_due dc_law_due pm_law_due an_law_due cd_law_due ct_law_due), sl_law_due⟩)
    (c_law_due : PySem.W.codeIn K cd_law_due "_law_due" = true)
    (k_law_due : PySem.W.keepIn K (.ref f_law_due) = true)
    (a_law_numbers : PySem.W.nsIn K mainGlobals "_law_numbers" = some (some (.ref f_law_numbers)))
    (l_law_numbers : K.lookup f_law_numbers = some ⟨oc_law_numbers, od_law_numbers, .func (PySem.W.fnOf "_law_numbers" "_law_numbers" (defArgs sm_law_numbers) (defBody sm_law_numbers) (defScope sm_law_numbers) .none kV_law_numbers dc_law_numbers pm_law_numbers an_law_numbers cd_law_numbers ct_law_numbers), sl_law_numbers⟩)
    (c_law_numbers : PySem.W.codeIn K cd_law_numbers "_law_numbers" = true)
    (k_law_numbers : PySem.W.keepIn K (.ref f_law_numbers) = true)
    (a_held : PySem.W.findIn K (.ref cHeap) "held" = some (some (.ref f_held)))
    (i_held : PySem.W.isFn K (.ref f_held) = true)
    (l_held : K.lookup f_held = some ⟨oc_held, od_held, .func (PySem.W.fnOf "held" "Heap.held" (defArgs sm_held) (defBody sm_held) (defScope sm_held) .none kV_held dc_held pm_held an_held cd_held ct_held), sl_held⟩)
    (c_held : PySem.W.codeIn K cd_held "Heap.held" = true)
    (k_held : PySem.W.keepIn K (.ref f_held) = true)
    (a_look_at : PySem.W.nsIn K mainGlobals "look_at" = some (some (.ref f_look_at)))
    (l_look_at : K.lookup f_look_at = some ⟨oc_look_at, od_look_at, .func (PySem.W.fnOf "look_at" "look_at" (defArgs sm_look_at) (defBody sm_look_at) (defScope sm_look_at) .none kV_look_at dc_look_at pm_look_at an_look_at cd_look_at ct_look_at), sl_look_at⟩)
    (c_look_at : PySem.W.codeIn K cd_look_at "look_at" = true)
    (k_look_at : PySem.W.keepIn K (.ref f_look_at) = true)
    (a_begin : PySem.W.nsIn K mainGlobals "begin" = some (some (.ref f_begin)))
    (l_begin : K.lookup f_begin = some ⟨oc_begin, od_begin, .func (PySem.W.fnOf "begin" "begin" (defArgs sm_begin) (defBody sm_begin) (defScope sm_begin) .none kV_begin dc_begin pm_begin an_begin cd_begin ct_begin), sl_begin⟩)
    (c_begin : PySem.W.codeIn K cd_begin "begin" = true)
    (k_begin : PySem.W.keepIn K (.ref f_begin) = true)
    (a_settle : PySem.W.nsIn K mainGlobals "settle" = some (some (.ref f_settle)))
    (l_settle : K.lookup f_settle = some ⟨oc_settle, od_settle, .func (PySem.W.fnOf "settle" "settle" (defArgs sm_settle) (defBody sm_settle) (defScope sm_settle) .none kV_settle dc_settle pm_settle an_settle cd_settle ct_settle), sl_settle⟩)
    (c_settle : PySem.W.codeIn K cd_settle "settle" = true)
    (k_settle : PySem.W.keepIn K (.ref f_settle) = true)
    (a_drop : PySem.W.findIn K (.ref cHeap) "drop" = some (some (.ref f_drop)))
    (i_drop : PySem.W.isFn K (.ref f_drop) = true)
    (l_drop : K.lookup f_drop = some ⟨oc_drop, od_drop, .func (PySem.W.fnOf "drop" "Heap.drop" (defArgs sm_drop) (defBody sm_drop) (defScope sm_drop) .none kV_drop dc_drop pm_drop an_drop cd_drop ct_drop), sl_drop⟩)
    (c_drop : PySem.W.codeIn K cd_drop "Heap.drop" = true)
    (k_drop : PySem.W.keepIn K (.ref f_drop) = true)
    (a_share : PySem.W.findIn K (.ref cHeap) "share" = some (some (.ref f_share)))
    (i_share : PySem.W.isFn K (.ref f_share) = true)
    (l_share : K.lookup f_share = some ⟨oc_share, od_share, .func (PySem.W.fnOf "share" "Heap.share" (defArgs sm_share) (defBody sm_share) (defScope sm_share) .none kV_share dc_share pm_share an_share cd_share ct_share), sl_share⟩)
    (c_share : PySem.W.codeIn K cd_share "Heap.share" = true)
    (k_share : PySem.W.keepIn K (.ref f_share) = true)
    (a_put : PySem.W.findIn K (.ref cHeap) "put" = some (some (.ref f_put)))
    (i_put : PySem.W.isFn K (.ref f_put) = true)
    (l_put : K.lookup f_put = some ⟨oc_put, od_put, .func (PySem.W.fnOf "put" "Heap.put" (defArgs sm_put) (defBody sm_put) (defScope sm_put) .none kV_put dc_put pm_put an_put cd_put ct_put), sl_put⟩)
    (c_put : PySem.W.codeIn K cd_put "Heap.put" = true)
    (k_put : PySem.W.keepIn K (.ref f_put) = true)
    (a_take : PySem.W.findIn K (.ref cHeap) "take" = some (some (.ref f_take)))
    (i_take : PySem.W.isFn K (.ref f_take) = true)
    (l_take : K.lookup f_take = some ⟨oc_take, od_take, .func (PySem.W.fnOf "take" "Heap.take" (defArgs sm_take) (defBody sm_take) (defScope sm_take) .none kV_take dc_take pm_take an_take cd_take ct_take), sl_take⟩)
    (c_take : PySem.W.codeIn K cd_take "Heap.take" = true)
    (k_take : PySem.W.keepIn K (.ref f_take) = true)
    (a_make : PySem.W.findIn K (.ref cHeap) "make" = some (some (.ref f_make)))
    (i_make : PySem.W.isFn K (.ref f_make) = true)
    (l_make : K.lookup f_make = some ⟨oc_make, od_make, .func (PySem.W.fnOf "make" "Heap.make" (defArgs sm_make) (defBody sm_make) (defScope sm_make) .none kV_make dc_make pm_make an_make cd_make ct_make), sl_make⟩)
    (c_make : PySem.W.codeIn K cd_make "Heap.make" = true)
    (k_make : PySem.W.keepIn K (.ref f_make) = true)
    (a_init : PySem.W.findIn K (.ref cHeap) "__init__" = some (some (.ref f_init)))
    (i_init : PySem.W.isFn K (.ref f_init) = true)
    (l_init : K.lookup f_init = some ⟨oc_init, od_init, .func (PySem.W.fnOf "__init__" "Heap.__init__" (defArgs sm_init) (defBody sm_init) (defScope sm_init) .none kV_init dc_init pm_init an_init cd_init ct_init), sl_init⟩)
    (c_init : PySem.W.codeIn K cd_init "Heap.__init__" = true)
    (k_init : PySem.W.keepIn K (.ref f_init) = true)
    (a_law_all : PySem.W.nsIn K mainGlobals "_law_all" = some (some (.ref f_law_all)))
    (l_law_all : K.lookup f_law_all = some ⟨oc_law_all, od_law_all, .func (PySem.W.fnOf "_law_all" "_law_all" (defArgs sm_law_all) (defBody sm_law_all) (defScope sm_law_all) .none kV_law_all dc_law_all pm_law_all an_law_all cd_law_all ct_law_all), sl_law_all⟩)
    (c_law_all : PySem.W.codeIn K cd_law_all "_law_all" = true)
    (k_law_all : PySem.W.keepIn K (.ref f_law_all) = true)
    (a_piece : PySem.W.nsIn K mainGlobals "piece" = some (some (.ref f_piece)))
    (l_piece : K.lookup f_piece = some ⟨oc_piece, od_piece, .func (PySem.W.fnOf "piece" "piece" (defArgs sm_piece) (defBody sm_piece) (defScope sm_piece) .none kV_piece dc_piece pm_piece an_piece cd_piece ct_piece), sl_piece⟩)
    (c_piece : PySem.W.codeIn K cd_piece "piece" = true)
    (k_piece : PySem.W.keepIn K (.ref f_piece) = true)
    (a_law_laid : PySem.W.nsIn K mainGlobals "_law_laid" = some (some (.ref f_law_laid)))
    (l_law_laid : K.lookup f_law_laid = some ⟨oc_law_laid, od_law_laid, .func (PySem.W.fnOf "_law_laid" "_law_laid" (defArgs sm_law_laid) (defBody sm_law_laid) (defScope sm_law_laid) .none kV_law_laid dc_law_laid pm_law_laid an_law_laid cd_law_laid ct_law_laid), sl_law_laid⟩)
    (c_law_laid : PySem.W.codeIn K cd_law_laid "_law_laid" = true)
    (k_law_laid : PySem.W.keepIn K (.ref f_law_laid) = true)
    (a_work : PySem.W.findIn K (.ref cHeap) "work" = some (some (.ref f_work)))
    (i_work : PySem.W.isFn K (.ref f_work) = true)
    (l_work : K.lookup f_work = some ⟨oc_work, od_work, .func (PySem.W.fnOf "work" "Heap.work" (defArgs sm_work) (defBody sm_work) (defScope sm_work) .none kV_work dc_work pm_work an_work cd_work ct_work), sl_work⟩)
    (c_work : PySem.W.codeIn K cd_work "Heap.work" = true)
    (k_work : PySem.W.keepIn K (.ref f_work) = true)
    (a_law_askedR : PySem.W.nsIn K mainGlobals "_law_asked" = some (some (.ref f_law_askedR)))
    (l_law_askedR : K.lookup f_law_askedR = some ⟨oc_law_askedR, od_law_askedR, .func (PySem.W.fnOf "_law_asked" "_law_asked" (defArgs sm_law_askedR) (defBody sm_law_askedR) (defScope sm_law_askedR) .none kV_law_askedR dc_law_askedR pm_law_askedR an_law_askedR cd_law_askedR ct_law_askedR), sl_law_askedR⟩)
    (c_law_askedR : PySem.W.codeIn K cd_law_askedR "_law_asked" = true)
    (k_law_askedR : PySem.W.keepIn K (.ref f_law_askedR) = true)
    (a_law : PySem.W.nsIn K mainGlobals "law" = some (some (.ref f_law)))
    (l_law : K.lookup f_law = some ⟨oc_law, od_law, .func (PySem.W.fnOf "law" "law" (defArgs sm_law) (defBody sm_law) (defScope sm_law) .none kV_law dc_law pm_law an_law cd_law ct_law), sl_law⟩)
    (c_law : PySem.W.codeIn K cd_law "law" = true)
    (k_law : PySem.W.keepIn K (.ref f_law) = true)
    (pg : PySem.W.plainGet K cHeap Str.empty = true)
    (hd : PySem.W.hasDictIn K cHeap = true)
    (po : PySem.W.plainOver K cHeap = true)
    (sa : PySem.W.findIn K (.ref cHeap) "__setattr__" = some (some (.builtin "object.__setattr__")))
    (mk : PySem.W.makesIn K cHeap = true)
    (kc : PySem.W.keepIn K (.ref cHeap) = true)
    (n_hands : PySem.W.findIn K (.ref cHeap) "hands" = some none)
    (n_room : PySem.W.findIn K (.ref cHeap) "room" = some none)
    (n_slots : PySem.W.findIn K (.ref cHeap) "slots" = some none)
    (n_made : PySem.W.findIn K (.ref cHeap) "made" = some none)
    (n_ended : PySem.W.findIn K (.ref cHeap) "ended" = some none)
    (n_stage : PySem.W.findIn K (.ref cHeap) "stage" = some none)
    (n_old : PySem.W.findIn K (.ref cHeap) "old" = some none)
    (n_begun : PySem.W.findIn K (.ref cHeap) "begun" = some none)
    (n_seen : PySem.W.findIn K (.ref cHeap) "seen" = some none)
    (n_row : PySem.W.findIn K (.ref cHeap) "row" = some none)
    (n_looked : PySem.W.findIn K (.ref cHeap) "looked" = some none)
    (n_swept : PySem.W.findIn K (.ref cHeap) "swept" = some none)
    (g_HeapError : PySem.W.nsIn K mainGlobals "HeapError" = some (some (.ref cHeapError)))
    (g_NoHand : PySem.W.nsIn K mainGlobals "NoHand" = some (some (.ref cNoHand)))
    (g_NoSlot : PySem.W.nsIn K mainGlobals "NoSlot" = some (some (.ref cNoSlot)))
    (g_NoRoom : PySem.W.nsIn K mainGlobals "NoRoom" = some (some (.ref cNoRoom)))
    (g_NothingHeld : PySem.W.nsIn K mainGlobals "NothingHeld" = some (some (.ref cNothingHeld)))
    (g_NoBox : PySem.W.nsIn K mainGlobals "NoBox" = some (some (.ref cNoBox)))
    (g_NoWork : PySem.W.nsIn K mainGlobals "NoWork" = some (some (.ref cNoWork)))
    (g_NoHeap : PySem.W.nsIn K mainGlobals "NoHeap" = some (some (.ref cNoHeap)))
    (g_NoDeed : PySem.W.nsIn K mainGlobals "NoDeed" = some (some (.ref cNoDeed)))
    (x_NoBox : PySem.W.excIn K cNoBox [.type "ValueError", .type "Exception", .type "BaseException", .type "object"] "ValueError.__new__" = true)
    (kx_NoBox : PySem.W.keepIn K (.ref cNoBox) = true)
    (bx_NoBox : PySem.W.subIn K (.ref cNoBox) (.type "BaseException") = some true)
    (tx_NoBox : PySem.W.typeIn K (.ref cNoBox) = some (.type "type"))
    (x_NoHand : PySem.W.excIn K cNoHand [.type "ValueError", .type "Exception", .type "BaseException", .type "object"] "ValueError.__new__" = true)
    (kx_NoHand : PySem.W.keepIn K (.ref cNoHand) = true)
    (bx_NoHand : PySem.W.subIn K (.ref cNoHand) (.type "BaseException") = some true)
    (tx_NoHand : PySem.W.typeIn K (.ref cNoHand) = some (.type "type"))
    (x_NoHeap : PySem.W.excIn K cNoHeap [.type "ValueError", .type "Exception", .type "BaseException", .type "object"] "ValueError.__new__" = true)
    (kx_NoHeap : PySem.W.keepIn K (.ref cNoHeap) = true)
    (bx_NoHeap : PySem.W.subIn K (.ref cNoHeap) (.type "BaseException") = some true)
    (tx_NoHeap : PySem.W.typeIn K (.ref cNoHeap) = some (.type "type"))
    (x_NoRoom : PySem.W.excIn K cNoRoom [.type "ValueError", .type "Exception", .type "BaseException", .type "object"] "ValueError.__new__" = true)
    (kx_NoRoom : PySem.W.keepIn K (.ref cNoRoom) = true)
    (bx_NoRoom : PySem.W.subIn K (.ref cNoRoom) (.type "BaseException") = some true)
    (tx_NoRoom : PySem.W.typeIn K (.ref cNoRoom) = some (.type "type"))
    (x_NoSlot : PySem.W.excIn K cNoSlot [.type "ValueError", .type "Exception", .type "BaseException", .type "object"] "ValueError.__new__" = true)
    (kx_NoSlot : PySem.W.keepIn K (.ref cNoSlot) = true)
    (bx_NoSlot : PySem.W.subIn K (.ref cNoSlot) (.type "BaseException") = some true)
    (tx_NoSlot : PySem.W.typeIn K (.ref cNoSlot) = some (.type "type"))
    (x_NoWork : PySem.W.excIn K cNoWork [.type "ValueError", .type "Exception", .type "BaseException", .type "object"] "ValueError.__new__" = true)
    (kx_NoWork : PySem.W.keepIn K (.ref cNoWork) = true)
    (bx_NoWork : PySem.W.subIn K (.ref cNoWork) (.type "BaseException") = some true)
    (tx_NoWork : PySem.W.typeIn K (.ref cNoWork) = some (.type "type"))
    (x_NothingHeld : PySem.W.excIn K cNothingHeld [.type "ValueError", .type "Exception", .type "BaseException", .type "object"] "ValueError.__new__" = true)
    (kx_NothingHeld : PySem.W.keepIn K (.ref cNothingHeld) = true)
    (bx_NothingHeld : PySem.W.subIn K (.ref cNothingHeld) (.type "BaseException") = some true)
    (tx_NothingHeld : PySem.W.typeIn K (.ref cNothingHeld) = some (.type "type"))
    (bx_HeapError : PySem.W.subIn K (.ref cHeapError) (.type "BaseException") = some true)
    (tx_HeapError : PySem.W.typeIn K (.ref cHeapError) = some (.type "type"))
    (ix_HeapError : PySem.W.isClsIn K cHeapError = true)
    (sb_NoBox_HeapError : PySem.W.subIn K (.ref cNoBox) (.ref cHeapError) = some true)
    (sb_NoHand_HeapError : PySem.W.subIn K (.ref cNoHand) (.ref cHeapError) = some true)
    (sb_NoRoom_HeapError : PySem.W.subIn K (.ref cNoRoom) (.ref cHeapError) = some true)
    (sb_NoSlot_HeapError : PySem.W.subIn K (.ref cNoSlot) (.ref cHeapError) = some true)
    (sb_NoWork_HeapError : PySem.W.subIn K (.ref cNoWork) (.ref cHeapError) = some true)
    (sb_NothingHeld_HeapError : PySem.W.subIn K (.ref cNothingHeld) (.ref cHeapError) = some true)
    (ec1_NoBox : PySem.W.findIn K (.ref cNoBox) "__getattribute__" = some (some (.builtin "BaseException.__getattribute__")))
    (ec2_NoBox : PySem.W.findIn K (.ref cNoBox) "__getattr__" = some none)
    (ec3_NoBox : PySem.W.hasDictIn K cNoBox = true)
    (ec4_NoBox : PySem.W.findIn K (.ref cNoBox) "__class__" = some (some (.builtin "object.__class__")))
    (ec5_NoBox : PySem.W.mroIn K cNoBox (.type "object") = some true)
    (ec1_NoHand : PySem.W.findIn K (.ref cNoHand) "__getattribute__" = some (some (.builtin "BaseException.__getattribute__")))
    (ec2_NoHand : PySem.W.findIn K (.ref cNoHand) "__getattr__" = some none)
    (ec3_NoHand : PySem.W.hasDictIn K cNoHand = true)
    (ec4_NoHand : PySem.W.findIn K (.ref cNoHand) "__class__" = some (some (.builtin "object.__class__")))
    (ec5_NoHand : PySem.W.mroIn K cNoHand (.type "object") = some true)
    (ec1_NoRoom : PySem.W.findIn K (.ref cNoRoom) "__getattribute__" = some (some (.builtin "BaseException.__getattribute__")))
    (ec2_NoRoom : PySem.W.findIn K (.ref cNoRoom) "__getattr__" = some none)
    (ec3_NoRoom : PySem.W.hasDictIn K cNoRoom = true)
    (ec4_NoRoom : PySem.W.findIn K (.ref cNoRoom) "__class__" = some (some (.builtin "object.__class__")))
    (ec5_NoRoom : PySem.W.mroIn K cNoRoom (.type "object") = some true)
    (ec1_NoSlot : PySem.W.findIn K (.ref cNoSlot) "__getattribute__" = some (some (.builtin "BaseException.__getattribute__")))
    (ec2_NoSlot : PySem.W.findIn K (.ref cNoSlot) "__getattr__" = some none)
    (ec3_NoSlot : PySem.W.hasDictIn K cNoSlot = true)
    (ec4_NoSlot : PySem.W.findIn K (.ref cNoSlot) "__class__" = some (some (.builtin "object.__class__")))
    (ec5_NoSlot : PySem.W.mroIn K cNoSlot (.type "object") = some true)
    (ec1_NoWork : PySem.W.findIn K (.ref cNoWork) "__getattribute__" = some (some (.builtin "BaseException.__getattribute__")))
    (ec2_NoWork : PySem.W.findIn K (.ref cNoWork) "__getattr__" = some none)
    (ec3_NoWork : PySem.W.hasDictIn K cNoWork = true)
    (ec4_NoWork : PySem.W.findIn K (.ref cNoWork) "__class__" = some (some (.builtin "object.__class__")))
    (ec5_NoWork : PySem.W.mroIn K cNoWork (.type "object") = some true)
    (ec1_NothingHeld : PySem.W.findIn K (.ref cNothingHeld) "__getattribute__" = some (some (.builtin "BaseException.__getattribute__")))
    (ec2_NothingHeld : PySem.W.findIn K (.ref cNothingHeld) "__getattr__" = some none)
    (ec3_NothingHeld : PySem.W.hasDictIn K cNothingHeld = true)
    (ec4_NothingHeld : PySem.W.findIn K (.ref cNothingHeld) "__class__" = some (some (.builtin "object.__class__")))
    (ec5_NothingHeld : PySem.W.mroIn K cNothingHeld (.type "object") = some true)
    (ec6 : PySem.W.specialIn K (.builtin "object.__class__") "__get__" = some (some (.builtin "getset_descriptor.__get__")))
    (ec7 : PySem.W.takesIn K (.builtin "object.__class__") = some true)
    (tx_NoDeed : PySem.W.typeIn K (.ref cNoDeed) = some (.type "type"))
    (ix_NoDeed : PySem.W.isClsIn K cNoDeed = true)
    (sb_NoBox_NoDeed : PySem.W.subIn K (.ref cNoBox) (.ref cNoDeed) = some false)
    (ne_NoBox_NoDeed : (cNoBox == cNoDeed) = false)
    (ix_NoHand : PySem.W.isClsIn K cNoHand = true)
    (sb_NoBox_NoHand : PySem.W.subIn K (.ref cNoBox) (.ref cNoHand) = some false)
    (ne_NoBox_NoHand : (cNoBox == cNoHand) = false)
    (ix_NoHeap : PySem.W.isClsIn K cNoHeap = true)
    (sb_NoBox_NoHeap : PySem.W.subIn K (.ref cNoBox) (.ref cNoHeap) = some false)
    (ne_NoBox_NoHeap : (cNoBox == cNoHeap) = false)
    (ix_NoRoom : PySem.W.isClsIn K cNoRoom = true)
    (sb_NoBox_NoRoom : PySem.W.subIn K (.ref cNoBox) (.ref cNoRoom) = some false)
    (ne_NoBox_NoRoom : (cNoBox == cNoRoom) = false)
    (ix_NoSlot : PySem.W.isClsIn K cNoSlot = true)
    (sb_NoBox_NoSlot : PySem.W.subIn K (.ref cNoBox) (.ref cNoSlot) = some false)
    (ne_NoBox_NoSlot : (cNoBox == cNoSlot) = false)
    (ix_NoWork : PySem.W.isClsIn K cNoWork = true)
    (sb_NoBox_NoWork : PySem.W.subIn K (.ref cNoBox) (.ref cNoWork) = some false)
    (ne_NoBox_NoWork : (cNoBox == cNoWork) = false)
    (ix_NothingHeld : PySem.W.isClsIn K cNothingHeld = true)
    (sb_NoBox_NothingHeld : PySem.W.subIn K (.ref cNoBox) (.ref cNothingHeld) = some false)
    (ne_NoBox_NothingHeld : (cNoBox == cNothingHeld) = false)
    (vb_NoBox : PySem.W.subIn K (.ref cNoBox) (.type "ValueError") = some true)
    (ix_NoBox : PySem.W.isClsIn K cNoBox = true)
    (sb_NoHand_NoBox : PySem.W.subIn K (.ref cNoHand) (.ref cNoBox) = some false)
    (ne_NoHand_NoBox : (cNoHand == cNoBox) = false)
    (sb_NoHand_NoDeed : PySem.W.subIn K (.ref cNoHand) (.ref cNoDeed) = some false)
    (ne_NoHand_NoDeed : (cNoHand == cNoDeed) = false)
    (sb_NoHand_NoHeap : PySem.W.subIn K (.ref cNoHand) (.ref cNoHeap) = some false)
    (ne_NoHand_NoHeap : (cNoHand == cNoHeap) = false)
    (sb_NoHand_NoRoom : PySem.W.subIn K (.ref cNoHand) (.ref cNoRoom) = some false)
    (ne_NoHand_NoRoom : (cNoHand == cNoRoom) = false)
    (sb_NoHand_NoSlot : PySem.W.subIn K (.ref cNoHand) (.ref cNoSlot) = some false)
    (ne_NoHand_NoSlot : (cNoHand == cNoSlot) = false)
    (sb_NoHand_NoWork : PySem.W.subIn K (.ref cNoHand) (.ref cNoWork) = some false)
    (ne_NoHand_NoWork : (cNoHand == cNoWork) = false)
    (sb_NoHand_NothingHeld : PySem.W.subIn K (.ref cNoHand) (.ref cNothingHeld) = some false)
    (ne_NoHand_NothingHeld : (cNoHand == cNothingHeld) = false)
    (vb_NoHand : PySem.W.subIn K (.ref cNoHand) (.type "ValueError") = some true)
    (sb_NoRoom_NoBox : PySem.W.subIn K (.ref cNoRoom) (.ref cNoBox) = some false)
    (ne_NoRoom_NoBox : (cNoRoom == cNoBox) = false)
    (sb_NoRoom_NoDeed : PySem.W.subIn K (.ref cNoRoom) (.ref cNoDeed) = some false)
    (ne_NoRoom_NoDeed : (cNoRoom == cNoDeed) = false)
    (sb_NoRoom_NoHand : PySem.W.subIn K (.ref cNoRoom) (.ref cNoHand) = some false)
    (ne_NoRoom_NoHand : (cNoRoom == cNoHand) = false)
    (sb_NoRoom_NoHeap : PySem.W.subIn K (.ref cNoRoom) (.ref cNoHeap) = some false)
    (ne_NoRoom_NoHeap : (cNoRoom == cNoHeap) = false)
    (sb_NoRoom_NoSlot : PySem.W.subIn K (.ref cNoRoom) (.ref cNoSlot) = some false)
    (ne_NoRoom_NoSlot : (cNoRoom == cNoSlot) = false)
    (sb_NoRoom_NoWork : PySem.W.subIn K (.ref cNoRoom) (.ref cNoWork) = some false)
    (ne_NoRoom_NoWork : (cNoRoom == cNoWork) = false)
    (sb_NoRoom_NothingHeld : PySem.W.subIn K (.ref cNoRoom) (.ref cNothingHeld) = some false)
    (ne_NoRoom_NothingHeld : (cNoRoom == cNothingHeld) = false)
    (vb_NoRoom : PySem.W.subIn K (.ref cNoRoom) (.type "ValueError") = some true)
    (sb_NoSlot_NoBox : PySem.W.subIn K (.ref cNoSlot) (.ref cNoBox) = some false)
    (ne_NoSlot_NoBox : (cNoSlot == cNoBox) = false)
    (sb_NoSlot_NoDeed : PySem.W.subIn K (.ref cNoSlot) (.ref cNoDeed) = some false)
    (ne_NoSlot_NoDeed : (cNoSlot == cNoDeed) = false)
    (sb_NoSlot_NoHand : PySem.W.subIn K (.ref cNoSlot) (.ref cNoHand) = some false)
    (ne_NoSlot_NoHand : (cNoSlot == cNoHand) = false)
    (sb_NoSlot_NoHeap : PySem.W.subIn K (.ref cNoSlot) (.ref cNoHeap) = some false)
    (ne_NoSlot_NoHeap : (cNoSlot == cNoHeap) = false)
    (sb_NoSlot_NoRoom : PySem.W.subIn K (.ref cNoSlot) (.ref cNoRoom) = some false)
    (ne_NoSlot_NoRoom : (cNoSlot == cNoRoom) = false)
    (sb_NoSlot_NoWork : PySem.W.subIn K (.ref cNoSlot) (.ref cNoWork) = some false)
    (ne_NoSlot_NoWork : (cNoSlot == cNoWork) = false)
    (sb_NoSlot_NothingHeld : PySem.W.subIn K (.ref cNoSlot) (.ref cNothingHeld) = some false)
    (ne_NoSlot_NothingHeld : (cNoSlot == cNothingHeld) = false)
    (vb_NoSlot : PySem.W.subIn K (.ref cNoSlot) (.type "ValueError") = some true)
    (sb_NoWork_NoBox : PySem.W.subIn K (.ref cNoWork) (.ref cNoBox) = some false)
    (ne_NoWork_NoBox : (cNoWork == cNoBox) = false)
    (sb_NoWork_NoDeed : PySem.W.subIn K (.ref cNoWork) (.ref cNoDeed) = some false)
    (ne_NoWork_NoDeed : (cNoWork == cNoDeed) = false)
    (sb_NoWork_NoHand : PySem.W.subIn K (.ref cNoWork) (.ref cNoHand) = some false)
    (ne_NoWork_NoHand : (cNoWork == cNoHand) = false)
    (sb_NoWork_NoHeap : PySem.W.subIn K (.ref cNoWork) (.ref cNoHeap) = some false)
    (ne_NoWork_NoHeap : (cNoWork == cNoHeap) = false)
    (sb_NoWork_NoRoom : PySem.W.subIn K (.ref cNoWork) (.ref cNoRoom) = some false)
    (ne_NoWork_NoRoom : (cNoWork == cNoRoom) = false)
    (sb_NoWork_NoSlot : PySem.W.subIn K (.ref cNoWork) (.ref cNoSlot) = some false)
    (ne_NoWork_NoSlot : (cNoWork == cNoSlot) = false)
    (sb_NoWork_NothingHeld : PySem.W.subIn K (.ref cNoWork) (.ref cNothingHeld) = some false)
    (ne_NoWork_NothingHeld : (cNoWork == cNothingHeld) = false)
    (vb_NoWork : PySem.W.subIn K (.ref cNoWork) (.type "ValueError") = some true)
    (sb_NothingHeld_NoBox : PySem.W.subIn K (.ref cNothingHeld) (.ref cNoBox) = some false)
    (ne_NothingHeld_NoBox : (cNothingHeld == cNoBox) = false)
    (sb_NothingHeld_NoDeed : PySem.W.subIn K (.ref cNothingHeld) (.ref cNoDeed) = some false)
    (ne_NothingHeld_NoDeed : (cNothingHeld == cNoDeed) = false)
    (sb_NothingHeld_NoHand : PySem.W.subIn K (.ref cNothingHeld) (.ref cNoHand) = some false)
    (ne_NothingHeld_NoHand : (cNothingHeld == cNoHand) = false)
    (sb_NothingHeld_NoHeap : PySem.W.subIn K (.ref cNothingHeld) (.ref cNoHeap) = some false)
    (ne_NothingHeld_NoHeap : (cNothingHeld == cNoHeap) = false)
    (sb_NothingHeld_NoRoom : PySem.W.subIn K (.ref cNothingHeld) (.ref cNoRoom) = some false)
    (ne_NothingHeld_NoRoom : (cNothingHeld == cNoRoom) = false)
    (sb_NothingHeld_NoSlot : PySem.W.subIn K (.ref cNothingHeld) (.ref cNoSlot) = some false)
    (ne_NothingHeld_NoSlot : (cNothingHeld == cNoSlot) = false)
    (sb_NothingHeld_NoWork : PySem.W.subIn K (.ref cNothingHeld) (.ref cNoWork) = some false)
    (ne_NothingHeld_NoWork : (cNothingHeld == cNoWork) = false)
    (vb_NothingHeld : PySem.W.subIn K (.ref cNothingHeld) (.type "ValueError") = some true)
    (z_ValueError : PySem.W.nsIn K mainGlobals "ValueError" = some none)
    (z_bool : PySem.W.nsIn K mainGlobals "bool" = some none)
    (z_int : PySem.W.nsIn K mainGlobals "int" = some none)
    (z_isinstance : PySem.W.nsIn K mainGlobals "isinstance" = some none)
    (z_len : PySem.W.nsIn K mainGlobals "len" = some none)
    (z_list : PySem.W.nsIn K mainGlobals "list" = some none)
    (z_max : PySem.W.nsIn K mainGlobals "max" = some none)
    (z_min : PySem.W.nsIn K mainGlobals "min" = some none)
    (z_range : PySem.W.nsIn K mainGlobals "range" = some none)
    (z_sorted : PySem.W.nsIn K mainGlobals "sorted" = some none)
    (c_MOST_HANDS : PySem.W.nsIn K mainGlobals "MOST_HANDS" = some (some (.int 8 tk_MOST_HANDS)))
    (c_MOST_PIECES : PySem.W.nsIn K mainGlobals "MOST_PIECES" = some (some (.int 2500 tk_MOST_PIECES)))
    (c_MOST_ROOM : PySem.W.nsIn K mainGlobals "MOST_ROOM" = some (some (.int 1000 tk_MOST_ROOM)))
    (c_MOST_SLOTS : PySem.W.nsIn K mainGlobals "MOST_SLOTS" = some (some (.int 4 tk_MOST_SLOTS)))
    : ∃ fd : FuncData, (∀ (s : Shared) (v : Value), BindsTo s fd ⟨[v], []⟩ [("_law_script", v)]) ∧ ∀ base : Heap, K.In base → base.Ns mainGlobals mg → FnOk l.prog w K mg base (L2N.CX l.prog w) 6 fa fd ["_law_script"] (lift (P_law K Ex0)) := by
  have e := hfa.symm.trans (PySem.W.mg_of X G a_law)
  cases e
  have F_law_cell_at := fun_mk (st := sm_law_cell_at) l_law_cell_at c_law_cell_at k_law_cell_at
  have F_phase := fun_mk (st := sm_phase) l_phase c_phase k_phase
  have F_law_kinds := fun_mk (st := sm_law_kinds) l_law_kinds c_law_kinds k_law_kinds
  have F_law_whole := fun_mk (st := sm_law_whole) l_law_whole c_law_whole k_law_whole
  have F_look := fun_mk (st := sm_look) l_look c_look k_look
  have F_rounds := fun_mk (st := sm_rounds) l_rounds c_rounds k_rounds
  have F_need_hand := fun_mk (st := sm_need_hand) l_need_hand c_need_hand k_need_hand
  have F_waiting := fun_mk (st := sm_waiting) l_waiting c_waiting k_waiting
  have F_marked := fun_mk (st := sm_marked) l_marked c_marked k_marked
  have F_boxes := fun_mk (st := sm_boxes) l_boxes c_boxes k_boxes
  have F_sweep := fun_mk (st := sm_sweep) l_sweep c_sweep k_sweep
  have F_mark := fun_mk (st := sm_mark) l_mark c_mark k_mark
  have F_rest := fun_mk (st := sm_rest) l_rest c_rest k_rest
  have F_row_of := fun_mk (st := sm_row_of) l_row_of c_row_of k_row_of
  have F_law_due := fun_mk (st := sm_law_due) l_law_due c_law_due k_law_due
  have F_law_numbers := fun_mk (st := sm_law_numbers) l_law_numbers c_law_numbers k_law_numbers
  have F_held := fun_mk (st := sm_held) l_held c_held k_held
  have F_look_at := fun_mk (st := sm_look_at) l_look_at c_look_at k_look_at
  have F_begin := fun_mk (st := sm_begin) l_begin c_begin k_begin
  have F_settle := fun_mk (st := sm_settle) l_settle c_settle k_settle
  have F_drop := fun_mk (st := sm_drop) l_drop c_drop k_drop
  have F_share := fun_mk (st := sm_share) l_share c_share k_share
  have F_put := fun_mk (st := sm_put) l_put c_put k_put
  have F_take := fun_mk (st := sm_take) l_take c_take k_take
  have F_make := fun_mk (st := sm_make) l_make c_make k_make
  have F_init := fun_mk (st := sm_init) l_init c_init k_init
  have F_law_all := fun_mk (st := sm_law_all) l_law_all c_law_all k_law_all
  have F_piece := fun_mk (st := sm_piece) l_piece c_piece k_piece
  have F_law_laid := fun_mk (st := sm_law_laid) l_law_laid c_law_laid k_law_laid
  have F_work := fun_mk (st := sm_work) l_work c_work k_work
  have F_law_askedR := fun_mk (st := sm_law_askedR) l_law_askedR c_law_askedR k_law_askedR
  have F_law := fun_mk (st := sm_law) l_law c_law k_law
  have b_law_cell_at := F_law_cell_at.binds (ps := ["_law_script", "_law_k"]) fun _ _ _ _ _ _ us hl => match us, hl with | [_, _], _ => rfl
  have b_phase := F_phase.binds (ps := ["self"]) fun _ _ _ _ _ _ us hl => match us, hl with | [_], _ => rfl
  have b_law_kinds := F_law_kinds.binds (ps := ["_law_e"]) fun _ _ _ _ _ _ us hl => match us, hl with | [_], _ => rfl
  have b_law_whole := F_law_whole.binds (ps := ["_law_found"]) fun _ _ _ _ _ _ us hl => match us, hl with | [_], _ => rfl
  have b_look := F_look.binds (ps := ["self", "box"]) fun _ _ _ _ _ _ us hl => match us, hl with | [_, _], _ => rfl
  have b_rounds := F_rounds.binds (ps := ["self"]) fun _ _ _ _ _ _ us hl => match us, hl with | [_], _ => rfl
  have b_need_hand := F_need_hand.binds (ps := ["self", "hand"]) fun _ _ _ _ _ _ us hl => match us, hl with | [_, _], _ => rfl
  have b_waiting := F_waiting.binds (ps := ["self"]) fun _ _ _ _ _ _ us hl => match us, hl with | [_], _ => rfl
  have b_marked := F_marked.binds (ps := ["self"]) fun _ _ _ _ _ _ us hl => match us, hl with | [_], _ => rfl
  have b_boxes := F_boxes.binds (ps := ["self"]) fun _ _ _ _ _ _ us hl => match us, hl with | [_], _ => rfl
  have b_sweep := F_sweep.binds (ps := ["heap"]) fun _ _ _ _ _ _ us hl => match us, hl with | [_], _ => rfl
  have b_mark := F_mark.binds (ps := ["heap", "box"]) fun _ _ _ _ _ _ us hl => match us, hl with | [_, _], _ => rfl
  have b_rest := F_rest.binds (ps := ["self"]) fun _ _ _ _ _ _ us hl => match us, hl with | [_], _ => rfl
  have b_row_of := F_row_of.binds (ps := ["self", "hand", "slot"]) fun _ _ _ _ _ _ us hl => match us, hl with | [_, _, _], _ => rfl
  have b_law_due := F_law_due.binds (ps := ["_law_deed", "_law_slots", "_law_many", "_law_room", "_law_total"]) fun _ _ _ _ _ _ us hl => match us, hl with | [_, _, _, _, _], _ => rfl
  have b_law_numbers := F_law_numbers.binds (ps := ["_law_found", "_law_due_here"]) fun _ _ _ _ _ _ us hl => match us, hl with | [_, _], _ => rfl
  have b_held := F_held.binds (ps := ["self", "hand"]) fun _ _ _ _ _ _ us hl => match us, hl with | [_, _], _ => rfl
  have b_look_at := F_look_at.binds (ps := ["heap"]) fun _ _ _ _ _ _ us hl => match us, hl with | [_], _ => rfl
  have b_begin := F_begin.binds (ps := ["heap"]) fun _ _ _ _ _ _ us hl => match us, hl with | [_], _ => rfl
  have b_settle := F_settle.binds (ps := ["heap"]) fun _ _ _ _ _ _ us hl => match us, hl with | [_], _ => rfl
  have b_drop := F_drop.binds (ps := ["self", "hand"]) fun _ _ _ _ _ _ us hl => match us, hl with | [_, _], _ => rfl
  have b_share := F_share.binds (ps := ["self", "hand", "other"]) fun _ _ _ _ _ _ us hl => match us, hl with | [_, _, _], _ => rfl
  have b_put := F_put.binds (ps := ["self", "hand", "slot", "other"]) fun _ _ _ _ _ _ us hl => match us, hl with | [_, _, _, _], _ => rfl
  have b_take := F_take.binds (ps := ["self", "hand", "other", "slot"]) fun _ _ _ _ _ _ us hl => match us, hl with | [_, _, _, _], _ => rfl
  have b_make := F_make.binds (ps := ["self", "hand", "slots"]) fun _ _ _ _ _ _ us hl => match us, hl with | [_, _, _], _ => rfl
  have b_init := F_init.binds (ps := ["self", "hands", "room"]) fun _ _ _ _ _ _ us hl => match us, hl with | [_, _, _], _ => rfl
  have b_law_all := F_law_all.binds (ps := ["_law_heap", "_law_many", "_law_total"]) fun _ _ _ _ _ _ us hl => match us, hl with | [_, _, _], _ => rfl
  have b_piece := F_piece.binds (ps := ["heap"]) fun _ _ _ _ _ _ us hl => match us, hl with | [_], _ => rfl
  have b_law_laid := F_law_laid.binds (ps := ["_law_heap", "_law_slots", "_law_cells"]) fun _ _ _ _ _ _ us hl => match us, hl with | [_, _, _], _ => rfl
  have b_work := F_work.binds (ps := ["self", "pieces"]) fun _ _ _ _ _ _ us hl => match us, hl with | [_, _], _ => rfl
  have b_law_askedR := F_law_askedR.binds (ps := ["_law_heap", "_law_deed"]) fun _ _ _ _ _ _ us hl => match us, hl with | [_, _], _ => rfl
  have b_law := F_law.binds (ps := ["_law_script"]) fun _ _ _ _ _ _ us hl => match us, hl with | [_], _ => rfl
  let D : Dd := { f_law_cell_at := f_law_cell_at, d_law_cell_at := PySem.W.fnOf "_law_cell_at" "_law_cell_at" (defArgs sm_law_cell_at) (defBody sm_law_cell_at) (defScope sm_law_cell_at) .none kV_law_cell_at dc_law_cell_at pm_law_cell_at an_law_cell_at cd_law_cell_at ct_law_cell_at, f_phase := f_phase, d_phase := PySem.W.fnOf "phase" "Heap.phase" (defArgs sm_phase) (defBody sm_phase) (defScope sm_phase) .none kV_phase dc_phase pm_phase an_phase cd_phase ct_phase, f_law_kinds := f_law_kinds, d_law_kinds := PySem.W.fnOf "_law_kinds" "_law_kinds" (defArgs sm_law_kinds) (defBody sm_law_kinds) (defScope sm_law_kinds) .none kV_law_kinds dc_law_kinds pm_law_kinds an_law_kinds cd_law_kinds ct_law_kinds, f_law_whole := f_law_whole, d_law_whole := PySem.W.fnOf "_law_whole" "_law_whole" (defArgs sm_law_whole) (defBody sm_law_whole) (defScope sm_law_whole) .none kV_law_whole dc_law_whole pm_law_whole an_law_whole cd_law_whole ct_law_whole, f_look := f_look, d_look := PySem.W.fnOf "look" "Heap.look" (defArgs sm_look) (defBody sm_look) (defScope sm_look) .none kV_look dc_look pm_look an_look cd_look ct_look, f_rounds := f_rounds, d_rounds := PySem.W.fnOf "rounds" "Heap.rounds" (defArgs sm_rounds) (defBody sm_rounds) (defScope sm_rounds) .none kV_rounds dc_rounds pm_rounds an_rounds cd_rounds ct_rounds, f_need_hand := f_need_hand, d_need_hand := PySem.W.fnOf "need_hand" "Heap.need_hand" (defArgs sm_need_hand) (defBody sm_need_hand) (defScope sm_need_hand) .none kV_need_hand dc_need_hand pm_need_hand an_need_hand cd_need_hand ct_need_hand, f_waiting := f_waiting, d_waiting := PySem.W.fnOf "waiting" "Heap.waiting" (defArgs sm_waiting) (defBody sm_waiting) (defScope sm_waiting) .none kV_waiting dc_waiting pm_waiting an_waiting cd_waiting ct_waiting, f_marked := f_marked, d_marked := PySem.W.fnOf "marked" "Heap.marked" (defArgs sm_marked) (defBody sm_marked) (defScope sm_marked) .none kV_marked dc_marked pm_marked an_marked cd_marked ct_marked, f_boxes := f_boxes, d_boxes := PySem.W.fnOf "boxes" "Heap.boxes" (defArgs sm_boxes) (defBody sm_boxes) (defScope sm_boxes) .none kV_boxes dc_boxes pm_boxes an_boxes cd_boxes ct_boxes, f_sweep := f_sweep, d_sweep := PySem.W.fnOf "sweep" "sweep" (defArgs sm_sweep) (defBody sm_sweep) (defScope sm_sweep) .none kV_sweep dc_sweep pm_sweep an_sweep cd_sweep ct_sweep, f_mark := f_mark, d_mark := PySem.W.fnOf "mark" "mark" (defArgs sm_mark) (defBody sm_mark) (defScope sm_mark) .none kV_mark dc_mark pm_mark an_mark cd_mark ct_mark, f_rest := f_rest, d_rest := PySem.W.fnOf "rest" "Heap.rest" (defArgs sm_rest) (defBody sm_rest) (defScope sm_rest) .none kV_rest dc_rest pm_rest an_rest cd_rest ct_rest, f_row_of := f_row_of, d_row_of := PySem.W.fnOf "row_of" "Heap.row_of" (defArgs sm_row_of) (defBody sm_row_of) (defScope sm_row_of) .none kV_row_of dc_row_of pm_row_of an_row_of cd_row_of ct_row_of, f_law_due := f_law_due, d_law_due := PySem.W.fnOf "_law_due" "_law_due" (defArgs sm_law_due) (defBody sm_law_due) (defScope sm_law_due) .none kV_law_due dc_law_due pm_law_due an_law_due cd_law_due ct_law_due, f_law_numbers := f_law_numbers, d_law_numbers := PySem.W.fnOf "_law_numbers" "_law_numbers" (defArgs sm_law_numbers) (defBody sm_law_numbers) (defScope sm_law_numbers) .none kV_law_numbers dc_law_numbers pm_law_numbers an_law_numbers cd_law_numbers ct_law_numbers, f_held := f_held, d_held := PySem.W.fnOf "held" "Heap.held" (defArgs sm_held) (defBody sm_held) (defScope sm_held) .none kV_held dc_held pm_held an_held cd_held ct_held, f_look_at := f_look_at, d_look_at := PySem.W.fnOf "look_at" "look_at" (defArgs sm_look_at) (defBody sm_look_at) (defScope sm_look_at) .none kV_look_at dc_look_at pm_look_at an_look_at cd_look_at ct_look_at, f_begin := f_begin, d_begin := PySem.W.fnOf "begin" "begin" (defArgs sm_begin) (defBody sm_begin) (defScope sm_begin) .none kV_begin dc_begin pm_begin an_begin cd_begin ct_begin, f_settle := f_settle, d_settle := PySem.W.fnOf "settle" "settle" (defArgs sm_settle) (defBody sm_settle) (defScope sm_settle) .none kV_settle dc_settle pm_settle an_settle cd_settle ct_settle, f_drop := f_drop, d_drop := PySem.W.fnOf "drop" "Heap.drop" (defArgs sm_drop) (defBody sm_drop) (defScope sm_drop) .none kV_drop dc_drop pm_drop an_drop cd_drop ct_drop, f_share := f_share, d_share := PySem.W.fnOf "share" "Heap.share" (defArgs sm_share) (defBody sm_share) (defScope sm_share) .none kV_share dc_share pm_share an_share cd_share ct_share, f_put := f_put, d_put := PySem.W.fnOf "put" "Heap.put" (defArgs sm_put) (defBody sm_put) (defScope sm_put) .none kV_put dc_put pm_put an_put cd_put ct_put, f_take := f_take, d_take := PySem.W.fnOf "take" "Heap.take" (defArgs sm_take) (defBody sm_take) (defScope sm_take) .none kV_take dc_take pm_take an_take cd_take ct_take, f_make := f_make, d_make := PySem.W.fnOf "make" "Heap.make" (defArgs sm_make) (defBody sm_make) (defScope sm_make) .none kV_make dc_make pm_make an_make cd_make ct_make, f_init := f_init, d_init := PySem.W.fnOf "__init__" "Heap.__init__" (defArgs sm_init) (defBody sm_init) (defScope sm_init) .none kV_init dc_init pm_init an_init cd_init ct_init, f_law_all := f_law_all, d_law_all := PySem.W.fnOf "_law_all" "_law_all" (defArgs sm_law_all) (defBody sm_law_all) (defScope sm_law_all) .none kV_law_all dc_law_all pm_law_all an_law_all cd_law_all ct_law_all, f_piece := f_piece, d_piece := PySem.W.fnOf "piece" "piece" (defArgs sm_piece) (defBody sm_piece) (defScope sm_piece) .none kV_piece dc_piece pm_piece an_piece cd_piece ct_piece, f_law_laid := f_law_laid, d_law_laid := PySem.W.fnOf "_law_laid" "_law_laid" (defArgs sm_law_laid) (defBody sm_law_laid) (defScope sm_law_laid) .none kV_law_laid dc_law_laid pm_law_laid an_law_laid cd_law_laid ct_law_laid, f_work := f_work, d_work := PySem.W.fnOf "work" "Heap.work" (defArgs sm_work) (defBody sm_work) (defScope sm_work) .none kV_work dc_work pm_work an_work cd_work ct_work, f_law_askedR := f_law_askedR, d_law_askedR := PySem.W.fnOf "_law_asked" "_law_asked" (defArgs sm_law_askedR) (defBody sm_law_askedR) (defScope sm_law_askedR) .none kV_law_askedR dc_law_askedR pm_law_askedR an_law_askedR cd_law_askedR ct_law_askedR, f_law := fa, d_law := PySem.W.fnOf "law" "law" (defArgs sm_law) (defBody sm_law) (defScope sm_law) .none kV_law dc_law pm_law an_law cd_law ct_law }
  let A : Ex := { Heap := cHeap, HeapError := cHeapError, NoHand := cNoHand, NoSlot := cNoSlot, NoRoom := cNoRoom, NothingHeld := cNothingHeld, NoBox := cNoBox, NoWork := cNoWork, NoHeap := cNoHeap, NoDeed := cNoDeed, COUNTS := 0 }
  have T : Txt K mg A D w := { H := { cl := ⟨pg, hd, po, sa⟩, n_hands := n_hands, n_room := n_room, n_slots := n_slots, n_made := n_made, n_ended := n_ended, n_stage := n_stage, n_old := n_old, n_begun := n_begun, n_seen := n_seen, n_row := n_row, n_looked := n_looked, n_swept := n_swept }, F_law_cell_at := F_law_cell_at, b_law_cell_at := b_law_cell_at, m_law_cell_at := PySem.W.mg_of X G a_law_cell_at, k_law_cell_at := k_law_cell_at, F_phase := F_phase, b_phase := b_phase, M_phase := ⟨a_phase, i_phase, k_phase⟩, F_law_kinds := F_law_kinds, b_law_kinds := b_law_kinds, m_law_kinds := PySem.W.mg_of X G a_law_kinds, k_law_kinds := k_law_kinds, F_law_whole := F_law_whole, b_law_whole := b_law_whole, m_law_whole := PySem.W.mg_of X G a_law_whole, k_law_whole := k_law_whole, F_look := F_look, b_look := b_look, M_look := ⟨a_look, i_look, k_look⟩, F_rounds := F_rounds, b_rounds := b_rounds, M_rounds := ⟨a_rounds, i_rounds, k_rounds⟩, F_need_hand := F_need_hand, b_need_hand := b_need_hand, M_need_hand := ⟨a_need_hand, i_need_hand, k_need_hand⟩, F_waiting := F_waiting, b_waiting := b_waiting, M_waiting := ⟨a_waiting, i_waiting, k_waiting⟩, F_marked := F_marked, b_marked := b_marked, M_marked := ⟨a_marked, i_marked, k_marked⟩, F_boxes := F_boxes, b_boxes := b_boxes, M_boxes := ⟨a_boxes, i_boxes, k_boxes⟩, F_sweep := F_sweep, b_sweep := b_sweep, m_sweep := PySem.W.mg_of X G a_sweep, k_sweep := k_sweep, F_mark := F_mark, b_mark := b_mark, m_mark := PySem.W.mg_of X G a_mark, k_mark := k_mark, F_rest := F_rest, b_rest := b_rest, M_rest := ⟨a_rest, i_rest, k_rest⟩, F_row_of := F_row_of, b_row_of := b_row_of, M_row_of := ⟨a_row_of, i_row_of, k_row_of⟩, F_law_due := F_law_due, b_law_due := b_law_due, m_law_due := PySem.W.mg_of X G a_law_due, k_law_due := k_law_due, F_law_numbers := F_law_numbers, b_law_numbers := b_law_numbers, m_law_numbers := PySem.W.mg_of X G a_law_numbers, k_law_numbers := k_law_numbers, F_held := F_held, b_held := b_held, M_held := ⟨a_held, i_held, k_held⟩, F_look_at := F_look_at, b_look_at := b_look_at, m_look_at := PySem.W.mg_of X G a_look_at, k_look_at := k_look_at, F_begin := F_begin, b_begin := b_begin, m_begin := PySem.W.mg_of X G a_begin, k_begin := k_begin, F_settle := F_settle, b_settle := b_settle, m_settle := PySem.W.mg_of X G a_settle, k_settle := k_settle, F_drop := F_drop, b_drop := b_drop, M_drop := ⟨a_drop, i_drop, k_drop⟩, F_share := F_share, b_share := b_share, M_share := ⟨a_share, i_share, k_share⟩, F_put := F_put, b_put := b_put, M_put := ⟨a_put, i_put, k_put⟩, F_take := F_take, b_take := b_take, M_take := ⟨a_take, i_take, k_take⟩, F_make := F_make, b_make := b_make, M_make := ⟨a_make, i_make, k_make⟩, F_init := F_init, b_init := b_init, M_init := ⟨mk, a_init, i_init, kc⟩, F_law_all := F_law_all, b_law_all := b_law_all, m_law_all := PySem.W.mg_of X G a_law_all, k_law_all := k_law_all, F_piece := F_piece, b_piece := b_piece, m_piece := PySem.W.mg_of X G a_piece, k_piece := k_piece, F_law_laid := F_law_laid, b_law_laid := b_law_laid, m_law_laid := PySem.W.mg_of X G a_law_laid, k_law_laid := k_law_laid, F_work := F_work, b_work := b_work, M_work := ⟨a_work, i_work, k_work⟩, F_law_askedR := F_law_askedR, b_law_askedR := b_law_askedR, m_law_askedR := PySem.W.mg_of X G a_law_askedR, k_law_askedR := k_law_askedR, F_law := F_law, b_law := b_law, m_law := PySem.W.mg_of X G a_law, k_law := k_law, g_Heap := PySem.W.mg_of X G aHeap, g_HeapError := PySem.W.mg_of X G g_HeapError, g_NoHand := PySem.W.mg_of X G g_NoHand, g_NoSlot := PySem.W.mg_of X G g_NoSlot, g_NoRoom := PySem.W.mg_of X G g_NoRoom, g_NothingHeld := PySem.W.mg_of X G g_NothingHeld, g_NoBox := PySem.W.mg_of X G g_NoBox, g_NoWork := PySem.W.mg_of X G g_NoWork, g_NoHeap := PySem.W.mg_of X G g_NoHeap, g_NoDeed := PySem.W.mg_of X G g_NoDeed, x_NoBox := x_NoBox, kx_NoBox := kx_NoBox, bx_NoBox := bx_NoBox, tx_NoBox := tx_NoBox, x_NoHand := x_NoHand, kx_NoHand := kx_NoHand, bx_NoHand := bx_NoHand, tx_NoHand := tx_NoHand, x_NoHeap := x_NoHeap, kx_NoHeap := kx_NoHeap, bx_NoHeap := bx_NoHeap, tx_NoHeap := tx_NoHeap, x_NoRoom := x_NoRoom, kx_NoRoom := kx_NoRoom, bx_NoRoom := bx_NoRoom, tx_NoRoom := tx_NoRoom, x_NoSlot := x_NoSlot, kx_NoSlot := kx_NoSlot, bx_NoSlot := bx_NoSlot, tx_NoSlot := tx_NoSlot, x_NoWork := x_NoWork, kx_NoWork := kx_NoWork, bx_NoWork := bx_NoWork, tx_NoWork := tx_NoWork, x_NothingHeld := x_NothingHeld, kx_NothingHeld := kx_NothingHeld, bx_NothingHeld := bx_NothingHeld, tx_NothingHeld := tx_NothingHeld, em_NoBox_HeapError := exm_of bx_HeapError ix_HeapError tx_HeapError sb_NoBox_HeapError, em_NoHand_HeapError := exm_of bx_HeapError ix_HeapError tx_HeapError sb_NoHand_HeapError, em_NoRoom_HeapError := exm_of bx_HeapError ix_HeapError tx_HeapError sb_NoRoom_HeapError, em_NoSlot_HeapError := exm_of bx_HeapError ix_HeapError tx_HeapError sb_NoSlot_HeapError, em_NoWork_HeapError := exm_of bx_HeapError ix_HeapError tx_HeapError sb_NoWork_HeapError, em_NothingHeld_HeapError := exm_of bx_HeapError ix_HeapError tx_HeapError sb_NothingHeld_HeapError, ki_NoBox_NoBox := kit_self, ki_NoBox_NoDeed := kit_own ne_NoBox_NoDeed ix_NoDeed tx_NoDeed sb_NoBox_NoDeed, ki_NoBox_NoHand := kit_own ne_NoBox_NoHand ix_NoHand tx_NoHand sb_NoBox_NoHand, ki_NoBox_NoHeap := kit_own ne_NoBox_NoHeap ix_NoHeap tx_NoHeap sb_NoBox_NoHeap, ki_NoBox_NoRoom := kit_own ne_NoBox_NoRoom ix_NoRoom tx_NoRoom sb_NoBox_NoRoom, ki_NoBox_NoSlot := kit_own ne_NoBox_NoSlot ix_NoSlot tx_NoSlot sb_NoBox_NoSlot, ki_NoBox_NoWork := kit_own ne_NoBox_NoWork ix_NoWork tx_NoWork sb_NoBox_NoWork, ki_NoBox_NothingHeld := kit_own ne_NoBox_NothingHeld ix_NothingHeld tx_NothingHeld sb_NoBox_NothingHeld, ki_NoBox_ValueError := kit_val vb_NoBox, ki_NoHand_NoBox := kit_own ne_NoHand_NoBox ix_NoBox tx_NoBox sb_NoHand_NoBox, ki_NoHand_NoDeed := kit_own ne_NoHand_NoDeed ix_NoDeed tx_NoDeed sb_NoHand_NoDeed, ki_NoHand_NoHand := kit_self, ki_NoHand_NoHeap := kit_own ne_NoHand_NoHeap ix_NoHeap tx_NoHeap sb_NoHand_NoHeap, ki_NoHand_NoRoom := kit_own ne_NoHand_NoRoom ix_NoRoom tx_NoRoom sb_NoHand_NoRoom, ki_NoHand_NoSlot := kit_own ne_NoHand_NoSlot ix_NoSlot tx_NoSlot sb_NoHand_NoSlot, ki_NoHand_NoWork := kit_own ne_NoHand_NoWork ix_NoWork tx_NoWork sb_NoHand_NoWork, ki_NoHand_NothingHeld := kit_own ne_NoHand_NothingHeld ix_NothingHeld tx_NothingHeld sb_NoHand_NothingHeld, ki_NoHand_ValueError := kit_val vb_NoHand, ki_NoRoom_NoBox := kit_own ne_NoRoom_NoBox ix_NoBox tx_NoBox sb_NoRoom_NoBox, ki_NoRoom_NoDeed := kit_own ne_NoRoom_NoDeed ix_NoDeed tx_NoDeed sb_NoRoom_NoDeed, ki_NoRoom_NoHand := kit_own ne_NoRoom_NoHand ix_NoHand tx_NoHand sb_NoRoom_NoHand, ki_NoRoom_NoHeap := kit_own ne_NoRoom_NoHeap ix_NoHeap tx_NoHeap sb_NoRoom_NoHeap, ki_NoRoom_NoRoom := kit_self, ki_NoRoom_NoSlot := kit_own ne_NoRoom_NoSlot ix_NoSlot tx_NoSlot sb_NoRoom_NoSlot, ki_NoRoom_NoWork := kit_own ne_NoRoom_NoWork ix_NoWork tx_NoWork sb_NoRoom_NoWork, ki_NoRoom_NothingHeld := kit_own ne_NoRoom_NothingHeld ix_NothingHeld tx_NothingHeld sb_NoRoom_NothingHeld, ki_NoRoom_ValueError := kit_val vb_NoRoom, ki_NoSlot_NoBox := kit_own ne_NoSlot_NoBox ix_NoBox tx_NoBox sb_NoSlot_NoBox, ki_NoSlot_NoDeed := kit_own ne_NoSlot_NoDeed ix_NoDeed tx_NoDeed sb_NoSlot_NoDeed, ki_NoSlot_NoHand := kit_own ne_NoSlot_NoHand ix_NoHand tx_NoHand sb_NoSlot_NoHand, ki_NoSlot_NoHeap := kit_own ne_NoSlot_NoHeap ix_NoHeap tx_NoHeap sb_NoSlot_NoHeap, ki_NoSlot_NoRoom := kit_own ne_NoSlot_NoRoom ix_NoRoom tx_NoRoom sb_NoSlot_NoRoom, ki_NoSlot_NoSlot := kit_self, ki_NoSlot_NoWork := kit_own ne_NoSlot_NoWork ix_NoWork tx_NoWork sb_NoSlot_NoWork, ki_NoSlot_NothingHeld := kit_own ne_NoSlot_NothingHeld ix_NothingHeld tx_NothingHeld sb_NoSlot_NothingHeld, ki_NoSlot_ValueError := kit_val vb_NoSlot, ki_NoWork_NoBox := kit_own ne_NoWork_NoBox ix_NoBox tx_NoBox sb_NoWork_NoBox, ki_NoWork_NoDeed := kit_own ne_NoWork_NoDeed ix_NoDeed tx_NoDeed sb_NoWork_NoDeed, ki_NoWork_NoHand := kit_own ne_NoWork_NoHand ix_NoHand tx_NoHand sb_NoWork_NoHand, ki_NoWork_NoHeap := kit_own ne_NoWork_NoHeap ix_NoHeap tx_NoHeap sb_NoWork_NoHeap, ki_NoWork_NoRoom := kit_own ne_NoWork_NoRoom ix_NoRoom tx_NoRoom sb_NoWork_NoRoom, ki_NoWork_NoSlot := kit_own ne_NoWork_NoSlot ix_NoSlot tx_NoSlot sb_NoWork_NoSlot, ki_NoWork_NoWork := kit_self, ki_NoWork_NothingHeld := kit_own ne_NoWork_NothingHeld ix_NothingHeld tx_NothingHeld sb_NoWork_NothingHeld, ki_NoWork_ValueError := kit_val vb_NoWork, ki_NothingHeld_NoBox := kit_own ne_NothingHeld_NoBox ix_NoBox tx_NoBox sb_NothingHeld_NoBox, ki_NothingHeld_NoDeed := kit_own ne_NothingHeld_NoDeed ix_NoDeed tx_NoDeed sb_NothingHeld_NoDeed, ki_NothingHeld_NoHand := kit_own ne_NothingHeld_NoHand ix_NoHand tx_NoHand sb_NothingHeld_NoHand, ki_NothingHeld_NoHeap := kit_own ne_NothingHeld_NoHeap ix_NoHeap tx_NoHeap sb_NothingHeld_NoHeap, ki_NothingHeld_NoRoom := kit_own ne_NothingHeld_NoRoom ix_NoRoom tx_NoRoom sb_NothingHeld_NoRoom, ki_NothingHeld_NoSlot := kit_own ne_NothingHeld_NoSlot ix_NoSlot tx_NoSlot sb_NothingHeld_NoSlot, ki_NothingHeld_NoWork := kit_own ne_NothingHeld_NoWork ix_NoWork tx_NoWork sb_NothingHeld_NoWork, ki_NothingHeld_NothingHeld := kit_self, ki_NothingHeld_ValueError := kit_val vb_NothingHeld, ecs_law_kinds := List.forall_mem_cons.mpr ⟨⟨ec1_NoBox, ec2_NoBox, bx_NoBox, ec3_NoBox, ec4_NoBox, ec6, ec7, ec5_NoBox⟩, List.forall_mem_cons.mpr ⟨⟨ec1_NoHand, ec2_NoHand, bx_NoHand, ec3_NoHand, ec4_NoHand, ec6, ec7, ec5_NoHand⟩, List.forall_mem_cons.mpr ⟨⟨ec1_NoRoom, ec2_NoRoom, bx_NoRoom, ec3_NoRoom, ec4_NoRoom, ec6, ec7, ec5_NoRoom⟩, List.forall_mem_cons.mpr ⟨⟨ec1_NoSlot, ec2_NoSlot, bx_NoSlot, ec3_NoSlot, ec4_NoSlot, ec6, ec7, ec5_NoSlot⟩, List.forall_mem_cons.mpr ⟨⟨ec1_NoWork, ec2_NoWork, bx_NoWork, ec3_NoWork, ec4_NoWork, ec6, ec7, ec5_NoWork⟩, List.forall_mem_cons.mpr ⟨⟨ec1_NothingHeld, ec2_NothingHeld, bx_NothingHeld, ec3_NothingHeld, ec4_NothingHeld, ec6, ec7, ec5_NothingHeld⟩, List.forall_mem_nil _⟩⟩⟩⟩⟩⟩, ecs_law := List.forall_mem_cons.mpr ⟨⟨ec1_NoBox, ec2_NoBox, bx_NoBox, ec3_NoBox, ec4_NoBox, ec6, ec7, ec5_NoBox⟩, List.forall_mem_cons.mpr ⟨⟨ec1_NoHand, ec2_NoHand, bx_NoHand, ec3_NoHand, ec4_NoHand, ec6, ec7, ec5_NoHand⟩, List.forall_mem_cons.mpr ⟨⟨ec1_NoRoom, ec2_NoRoom, bx_NoRoom, ec3_NoRoom, ec4_NoRoom, ec6, ec7, ec5_NoRoom⟩, List.forall_mem_cons.mpr ⟨⟨ec1_NoSlot, ec2_NoSlot, bx_NoSlot, ec3_NoSlot, ec4_NoSlot, ec6, ec7, ec5_NoSlot⟩, List.forall_mem_cons.mpr ⟨⟨ec1_NoWork, ec2_NoWork, bx_NoWork, ec3_NoWork, ec4_NoWork, ec6, ec7, ec5_NoWork⟩, List.forall_mem_cons.mpr ⟨⟨ec1_NothingHeld, ec2_NothingHeld, bx_NothingHeld, ec3_NothingHeld, ec4_NothingHeld, ec6, ec7, ec5_NothingHeld⟩, List.forall_mem_nil _⟩⟩⟩⟩⟩⟩, z_ValueError := PySem.W.mg_none_of X G z_ValueError, z_bool := PySem.W.mg_none_of X G z_bool, z_int := PySem.W.mg_none_of X G z_int, z_isinstance := PySem.W.mg_none_of X G z_isinstance, z_len := PySem.W.mg_none_of X G z_len, z_list := PySem.W.mg_none_of X G z_list, z_max := PySem.W.mg_none_of X G z_max, z_min := PySem.W.mg_none_of X G z_min, z_range := PySem.W.mg_none_of X G z_range, z_sorted := PySem.W.mg_none_of X G z_sorted, c_MOST_HANDS := ⟨_, PySem.W.mg_of X G c_MOST_HANDS⟩, c_MOST_PIECES := ⟨_, PySem.W.mg_of X G c_MOST_PIECES⟩, c_MOST_ROOM := ⟨_, PySem.W.mg_of X G c_MOST_ROOM⟩, c_MOST_SLOTS := ⟨_, PySem.W.mg_of X G c_MOST_SLOTS⟩ }
  refine ⟨D.d_law, fun s v => .of_eq rfl, fun base _ _ => ?_⟩
  have G_law_cell_at := ok_law_cell_at (P := l.prog) (w := w) (base := base) T 
  have G_phase := ok_phase (P := l.prog) (w := w) (base := base) T 
  have GH_phase := okH_phase (P := l.prog) (w := w) (base := base) T 
  have GZ_law_kinds := okZ_law_kinds (P := l.prog) (w := w) (base := base) T 
  have GH_law_whole := okH_law_whole (P := l.prog) (w := w) (base := base) T 
  have G_look := ok_look (P := l.prog) (w := w) (base := base) T 
  have GH_look := okH_look (P := l.prog) (w := w) (base := base) T 
  have G_rounds := ok_rounds (P := l.prog) (w := w) (base := base) T 
  have GH_rounds := okH_rounds (P := l.prog) (w := w) (base := base) T 
  have G_need_hand := ok_need_hand (P := l.prog) (w := w) (base := base) T 
  have GH_need_hand := okH_need_hand (P := l.prog) (w := w) (base := base) T 
  have G_waiting := ok_waiting (P := l.prog) (w := w) (base := base) T 
  have GH_waiting := okH_waiting (P := l.prog) (w := w) (base := base) T 
  have G_marked := ok_marked (P := l.prog) (w := w) (base := base) T 
  have GH_marked := okH_marked (P := l.prog) (w := w) (base := base) T 
  have G_boxes := ok_boxes (P := l.prog) (w := w) (base := base) T 
  have GH_boxes := okH_boxes (P := l.prog) (w := w) (base := base) T 
  have G_sweep := ok_sweep (P := l.prog) (w := w) (base := base) T 
  have G_mark := ok_mark (P := l.prog) (w := w) (base := base) T 
  have G_rest := ok_rest (P := l.prog) (w := w) (base := base) T 
  have G_row_of := ok_row_of (P := l.prog) (w := w) (base := base) T 
  have G_law_due := ok_law_due (P := l.prog) (w := w) (base := base) T 
  have GH_law_numbers := okH_law_numbers (P := l.prog) (w := w) (base := base) T GH_law_whole
  have G_held := ok_held (P := l.prog) (w := w) (base := base) T G_need_hand
  have GH_held := okH_held (P := l.prog) (w := w) (base := base) T GH_need_hand
  have G_look_at := ok_look_at (P := l.prog) (w := w) (base := base) T G_mark
  have G_begin := ok_begin (P := l.prog) (w := w) (base := base) T G_boxes G_mark
  have G_settle := ok_settle (P := l.prog) (w := w) (base := base) T G_rest
  have G_drop := ok_drop (P := l.prog) (w := w) (base := base) T G_need_hand
  have G_share := ok_share (P := l.prog) (w := w) (base := base) T G_need_hand
  have G_put := ok_put (P := l.prog) (w := w) (base := base) T G_need_hand G_row_of G_mark
  have G_take := ok_take (P := l.prog) (w := w) (base := base) T G_need_hand G_row_of
  have G_make := ok_make (P := l.prog) (w := w) (base := base) T G_need_hand
  have G_init := ok_init (P := l.prog) (w := w) (base := base) T G_rest
  have G_law_all := ok_law_all (P := l.prog) (w := w) (base := base) T G_boxes G_marked G_waiting G_held G_rounds G_look
  have GH_law_all := okH_law_all (P := l.prog) (w := w) (base := base) T GH_boxes GH_marked GH_waiting GH_held GH_rounds GH_look
  have G_piece := ok_piece (P := l.prog) (w := w) (base := base) T G_settle G_begin G_look_at G_sweep
  have G_law_laid := ok_law_laid (P := l.prog) (w := w) (base := base) T G_make G_put
  have G_work := ok_work (P := l.prog) (w := w) (base := base) T G_piece
  have G_law_askedR := ok_law_askedR (P := l.prog) (w := w) (base := base) T G_make G_take G_put G_share G_drop G_held G_look G_work
  exact ok_law T G_init G_law_laid G_work G_law_cell_at G_law_due G_law_askedR G_law_all G_phase GH_law_all GH_law_numbers GZ_law_kinds GH_phase
theorem walk {l : PySem.W.OpenLaw} {q : Program} {loose : List Str} {XP : (Str → Option Value) → Heap → Prop} {YP : World → Heap → Prop} {d : DefRec} {K : Params → PySem.W.Frag} (hn : l.most = some 63) (hdf : d.params.defaults = [])
    (hY : ∀ (w : World) (h : Heap), YP w h → (K w.params).In h)
    (F : ∀ (w : World) (mg : Str → Option Value) (fa : Addr) (h : Heap), (K w.params).In h → h.Ns mainGlobals mg → mg d.name = some (.ref fa) →
      ∃ fd : FuncData, (∀ (s : Shared) (u : Value), BindsTo s fd ⟨[u], []⟩ [("_law_script", u)]) ∧ ∀ base : Heap, (K w.params).In base → base.Ns mainGlobals mg → FnOk l.prog w (K w.params) mg base (L2N.CX l.prog w) 6 fa fd ["_law_script"] (lift (P_law (K w.params) Ex0))) :
    PySem.W.WalkO q loose XP YP l.row.toRowW d [] (fun f vs => PySem.call f vs) :=
  L2.walk_of (n := 63) (k := 6) (x := "_law_script") (CX := fun w => L2N.CX l.prog w) (sp := fun w => lift (P_law (K w.params) Ex0)) hn (by decide) hdf ⟨rfl, by decide, by decide⟩ hY F (fun w H a ns hl _ hS => law_start hl hS) fun _ _ _ _ _ z => by
    obtain ⟨_, _, _, _, _, _, _, _, _, _, _, _, z⟩ := z
    exact z
end Mp
open PySem PySem.W PyProof.Rows
set_option maxRecDepth 100000 in
set_option maxHeartbeats 0 in
theorem PySem.Challenge.cw_markpause_k05_refused_holds : PySem.Challenge.rw_markpause_k05_refused.Holds := by
  w_on; o_law; k_head; (case hw => w_witness2)
  k_fill
  refine Mp.walk (l := PySem.Challenge.rw_markpause_k05_refused) rfl rfl (fun w h Y => PySem.W.kIn_of Y) ?F
  case F =>
    intro w mg fa h KX G hmg
    refine' Mp.all_mk KX G hmg ?aHeap ?a_law_cell_at ?l_law_cell_at ?c_law_cell_at ?k_law_cell_at ?a_phase ?i_phase ?l_phase ?c_phase ?k_phase ?a_law_kinds ?l_law_kinds ?c_law_kinds ?k_law_kinds ?a_law_whole ?l_law_whole ?c_law_whole ?k_law_whole ?a_look ?i_look ?l_look ?c_look ?k_look ?a_rounds ?i_rounds ?l_rounds ?c_rounds ?k_rounds ?a_need_hand ?i_need_hand ?l_need_hand ?c_need_hand ?k_need_hand ?a_waiting ?i_waiting ?l_waiting ?c_waiting ?k_waiting ?a_marked ?i_marked ?l_marked ?c_marked ?k_marked ?a_boxes ?i_boxes ?l_boxes ?c_boxes ?k_boxes ?a_sweep ?l_sweep ?c_sweep ?k_sweep ?a_mark ?l_mark ?c_mark ?k_mark ?a_rest ?i_rest ?l_rest ?c_rest ?k_rest ?a_row_of ?i_row_of ?l_row_of ?c_row_of ?k_row_of ?a_law_due ?l_law_due ?c_law_due ?k_law_due ?a_law_numbers ?l_law_numbers ?c_law_numbers ?k_law_numbers ?a_held ?i_held ?l_held ?c_held ?k_held ?a_look_at ?l_look_at ?c_look_at ?k_look_at ?a_begin ?l_begin ?c_begin ?k_begin ?a_settle ?l_settle ?c_settle ?k_settle ?a_drop ?i_drop ?l_drop ?c_drop ?k_drop ?a_share ?i_share ?l_share ?c_share ?k_share ?a_put ?i_put ?l_put ?c_put ?k_put ?a_take ?i_take ?l_take ?c_take ?k_take ?a_make ?i_make ?l_make ?c_make ?k_make ?a_init ?i_init ?l_init ?c_init ?k_init ?a_law_all ?l_law_all ?c_law_all ?k_law_all ?a_piece ?l_piece ?c_piece ?k_piece ?a_law_laid ?l_law_laid ?c_law_laid ?k_law_laid ?a_work ?i_work ?l_work ?c_work ?k_work ?a_law_askedR ?l_law_askedR ?c_law_askedR ?k_law_askedR ?a_law ?l_law ?c_law ?k_law ?pg ?hd ?po ?sa ?mk ?kc ?n_hands ?n_room ?n_slots ?n_made ?n_ended ?n_stage ?n_old ?n_begun ?n_seen ?n_row ?n_looked ?n_swept ?g_HeapError ?g_NoHand ?g_NoSlot ?g_NoRoom ?g_NothingHeld ?g_NoBox ?g_NoWork ?g_NoHeap ?g_NoDeed ?x_NoBox ?kx_NoBox ?bx_NoBox ?tx_NoBox ?x_NoHand ?kx_NoHand ?bx_NoHand ?tx_NoHand ?x_NoHeap ?kx_NoHeap ?bx_NoHeap ?tx_NoHeap ?x_NoRoom ?kx_NoRoom ?bx_NoRoom ?tx_NoRoom ?x_NoSlot ?kx_NoSlot ?bx_NoSlot ?tx_NoSlot ?x_NoWork ?kx_NoWork ?bx_NoWork ?tx_NoWork ?x_NothingHeld ?kx_NothingHeld ?bx_NothingHeld ?tx_NothingHeld ?bx_HeapError ?tx_HeapError ?ix_HeapError ?sb_NoBox_HeapError ?sb_NoHand_HeapError ?sb_NoRoom_HeapError ?sb_NoSlot_HeapError ?sb_NoWork_HeapError ?sb_NothingHeld_HeapError ?ec1_NoBox ?ec2_NoBox ?ec3_NoBox ?ec4_NoBox ?ec5_NoBox ?ec1_NoHand ?ec2_NoHand ?ec3_NoHand ?ec4_NoHand ?ec5_NoHand ?ec1_NoRoom ?ec2_NoRoom ?ec3_NoRoom ?ec4_NoRoom ?ec5_NoRoom ?ec1_NoSlot ?ec2_NoSlot ?ec3_NoSlot ?ec4_NoSlot ?ec5_NoSlot ?ec1_NoWork ?ec2_NoWork ?ec3_NoWork ?ec4_NoWork ?ec5_NoWork ?ec1_NothingHeld ?ec2_NothingHeld ?ec3_NothingHeld ?ec4_NothingHeld ?ec5_NothingHeld ?ec6 ?ec7 ?tx_NoDeed ?ix_NoDeed ?sb_NoBox_NoDeed ?ne_NoBox_NoDeed ?ix_NoHand ?sb_NoBox_NoHand ?ne_NoBox_NoHand ?ix_NoHeap ?sb_NoBox_NoHeap ?ne_NoBox_NoHeap ?ix_NoRoom ?sb_NoBox_NoRoom ?ne_NoBox_NoRoom ?ix_NoSlot ?sb_NoBox_NoSlot ?ne_NoBox_NoSlot ?ix_NoWork ?sb_NoBox_NoWork ?ne_NoBox_NoWork ?ix_NothingHeld ?sb_NoBox_NothingHeld ?ne_NoBox_NothingHeld ?vb_NoBox ?ix_NoBox ?sb_NoHand_NoBox ?ne_NoHand_NoBox ?sb_NoHand_NoDeed ?ne_NoHand_NoDeed ?sb_NoHand_NoHeap ?ne_NoHand_NoHeap ?sb_NoHand_NoRoom ?ne_NoHand_NoRoom ?sb_NoHand_NoSlot ?ne_NoHand_NoSlot ?sb_NoHand_NoWork ?ne_NoHand_NoWork ?sb_NoHand_NothingHeld ?ne_NoHand_NothingHeld ?vb_NoHand ?sb_NoRoom_NoBox ?ne_NoRoom_NoBox ?sb_NoRoom_NoDeed ?ne_NoRoom_NoDeed ?sb_NoRoom_NoHand ?ne_NoRoom_NoHand ?sb_NoRoom_NoHeap ?ne_NoRoom_NoHeap ?sb_NoRoom_NoSlot ?ne_NoRoom_NoSlot ?sb_NoRoom_NoWork ?ne_NoRoom_NoWork ?sb_NoRoom_NothingHeld ?ne_NoRoom_NothingHeld ?vb_NoRoom ?sb_NoSlot_NoBox ?ne_NoSlot_NoBox ?sb_NoSlot_NoDeed ?ne_NoSlot_NoDeed ?sb_NoSlot_NoHand ?ne_NoSlot_NoHand ?sb_NoSlot_NoHeap ?ne_NoSlot_NoHeap ?sb_NoSlot_NoRoom ?ne_NoSlot_NoRoom ?sb_NoSlot_NoWork ?ne_NoSlot_NoWork ?sb_NoSlot_NothingHeld ?ne_NoSlot_NothingHeld ?vb_NoSlot ?sb_NoWork_NoBox ?ne_NoWork_NoBox ?sb_NoWork_NoDeed ?ne_NoWork_NoDeed ?sb_NoWork_NoHand ?ne_NoWork_NoHand ?sb_NoWork_NoHeap ?ne_NoWork_NoHeap ?sb_NoWork_NoRoom ?ne_NoWork_NoRoom ?sb_NoWork_NoSlot ?ne_NoWork_NoSlot ?sb_NoWork_NothingHeld ?ne_NoWork_NothingHeld ?vb_NoWork ?sb_NothingHeld_NoBox ?ne_NothingHeld_NoBox ?sb_NothingHeld_NoDeed ?ne_NothingHeld_NoDeed ?sb_NothingHeld_NoHand ?ne_NothingHeld_NoHand ?sb_NothingHeld_NoHeap ?ne_NothingHeld_NoHeap ?sb_NothingHeld_NoRoom ?ne_NothingHeld_NoRoom ?sb_NothingHeld_NoSlot ?ne_NothingHeld_NoSlot ?sb_NothingHeld_NoWork ?ne_NothingHeld_NoWork ?vb_NothingHeld ?z_ValueError ?z_bool ?z_int ?z_isinstance ?z_len ?z_list ?z_max ?z_min ?z_range ?z_sorted ?c_MOST_HANDS ?c_MOST_PIECES ?c_MOST_ROOM ?c_MOST_SLOTS
    (case aHeap => k_is)
    (case a_law_cell_at => k_is)
    (case l_law_cell_at => k_is)
    (case c_law_cell_at => k_is)
    (case k_law_cell_at => k_is)
    (case a_phase => k_is)
    (case i_phase => k_is)
    (case l_phase => k_is)
    (case c_phase => k_is)
    (case k_phase => k_is)
    (case a_law_kinds => k_is)
    (case l_law_kinds => k_is)
    (case c_law_kinds => k_is)
    (case k_law_kinds => k_is)
    (case a_law_whole => k_is)
    (case l_law_whole => k_is)
    (case c_law_whole => k_is)
    (case k_law_whole => k_is)
    (case a_look => k_is)
    (case i_look => k_is)
    (case l_look => k_is)
    (case c_look => k_is)
    (case k_look => k_is)
    (case a_rounds => k_is)
    (case i_rounds => k_is)
    (case l_rounds => k_is)
    (case c_rounds => k_is)
    (case k_rounds => k_is)
    (case a_need_hand => k_is)
    (case i_need_hand => k_is)
    (case l_need_hand => k_is)
    (case c_need_hand => k_is)
    (case k_need_hand => k_is)
    (case a_waiting => k_is)
    (case i_waiting => k_is)
    (case l_waiting => k_is)
    (case c_waiting => k_is)
    (case k_waiting => k_is)
    (case a_marked => k_is)
    (case i_marked => k_is)
    (case l_marked => k_is)
    (case c_marked => k_is)
    (case k_marked => k_is)
    (case a_boxes => k_is)
    (case i_boxes => k_is)
    (case l_boxes => k_is)
    (case c_boxes => k_is)
    (case k_boxes => k_is)
    (case a_sweep => k_is)
    (case l_sweep => k_is)
    (case c_sweep => k_is)
    (case k_sweep => k_is)
    (case a_mark => k_is)
    (case l_mark => k_is)
    (case c_mark => k_is)
    (case k_mark => k_is)
    (case a_rest => k_is)
    (case i_rest => k_is)
    (case l_rest => k_is)
    (case c_rest => k_is)
    (case k_rest => k_is)
    (case a_row_of => k_is)
    (case i_row_of => k_is)
    (case l_row_of => k_is)
    (case c_row_of => k_is)
    (case k_row_of => k_is)
    (case a_law_due => k_is)
    (case l_law_due => k_is)
    (case c_law_due => k_is)
    (case k_law_due => k_is)
    (case a_law_numbers => k_is)
    (case l_law_numbers => k_is)
    (case c_law_numbers => k_is)
    (case k_law_numbers => k_is)
    (case a_held => k_is)
    (case i_held => k_is)
    (case l_held => k_is)
    (case c_held => k_is)
    (case k_held => k_is)
    (case a_look_at => k_is)
    (case l_look_at => k_is)
    (case c_look_at => k_is)
    (case k_look_at => k_is)
    (case a_begin => k_is)
    (case l_begin => k_is)
    (case c_begin => k_is)
    (case k_begin => k_is)
    (case a_settle => k_is)
    (case l_settle => k_is)
    (case c_settle => k_is)
    (case k_settle => k_is)
    (case a_drop => k_is)
    (case i_drop => k_is)
    (case l_drop => k_is)
    (case c_drop => k_is)
    (case k_drop => k_is)
    (case a_share => k_is)
    (case i_share => k_is)
    (case l_share => k_is)
    (case c_share => k_is)
    (case k_share => k_is)
    (case a_put => k_is)
    (case i_put => k_is)
    (case l_put => k_is)
    (case c_put => k_is)
    (case k_put => k_is)
    (case a_take => k_is)
    (case i_take => k_is)
    (case l_take => k_is)
    (case c_take => k_is)
    (case k_take => k_is)
    (case a_make => k_is)
    (case i_make => k_is)
    (case l_make => k_is)
    (case c_make => k_is)
    (case k_make => k_is)
    (case a_init => k_is)
    (case i_init => k_is)
    (case l_init => k_is)
    (case c_init => k_is)
    (case k_init => k_is)
    (case a_law_all => k_is)
    (case l_law_all => k_is)
    (case c_law_all => k_is)
    (case k_law_all => k_is)
    (case a_piece => k_is)
    (case l_piece => k_is)
    (case c_piece => k_is)
    (case k_piece => k_is)
    (case a_law_laid => k_is)
    (case l_law_laid => k_is)
    (case c_law_laid => k_is)
    (case k_law_laid => k_is)
    (case a_work => k_is)
    (case i_work => k_is)
    (case l_work => k_is)
    (case c_work => k_is)
    (case k_work => k_is)
    (case a_law_askedR => k_is)
    (case l_law_askedR => k_is)
    (case c_law_askedR => k_is)
    (case k_law_askedR => k_is)
    (case a_law => k_is)
    (case l_law => k_is)
    (case c_law => k_is)
    (case k_law => k_is)
    (case pg => k_is)
    (case hd => k_is)
    (case po => k_is)
    (case sa => k_is)
    (case mk => k_is)
    (case kc => k_is)
    (case n_hands => k_is)
    (case n_room => k_is)
    (case n_slots => k_is)
    (case n_made => k_is)
    (case n_ended => k_is)
    (case n_stage => k_is)
    (case n_old => k_is)
    (case n_begun => k_is)
    (case n_seen => k_is)
    (case n_row => k_is)
    (case n_looked => k_is)
    (case n_swept => k_is)
    (case g_HeapError => k_is)
    (case g_NoHand => k_is)
    (case g_NoSlot => k_is)
    (case g_NoRoom => k_is)
    (case g_NothingHeld => k_is)
    (case g_NoBox => k_is)
    (case g_NoWork => k_is)
    (case g_NoHeap => k_is)
    (case g_NoDeed => k_is)
    (case x_NoBox => k_exc)
    (case kx_NoBox => k_is)
    (case bx_NoBox => k_is)
    (case tx_NoBox => k_is)
    (case x_NoHand => k_exc)
    (case kx_NoHand => k_is)
    (case bx_NoHand => k_is)
    (case tx_NoHand => k_is)
    (case x_NoHeap => k_exc)
    (case kx_NoHeap => k_is)
    (case bx_NoHeap => k_is)
    (case tx_NoHeap => k_is)
    (case x_NoRoom => k_exc)
    (case kx_NoRoom => k_is)
    (case bx_NoRoom => k_is)
    (case tx_NoRoom => k_is)
    (case x_NoSlot => k_exc)
    (case kx_NoSlot => k_is)
    (case bx_NoSlot => k_is)
    (case tx_NoSlot => k_is)
    (case x_NoWork => k_exc)
    (case kx_NoWork => k_is)
    (case bx_NoWork => k_is)
    (case tx_NoWork => k_is)
    (case x_NothingHeld => k_exc)
    (case kx_NothingHeld => k_is)
    (case bx_NothingHeld => k_is)
    (case tx_NothingHeld => k_is)
    (case bx_HeapError => k_is)
    (case tx_HeapError => k_is)
    (case ix_HeapError => k_is)
    (case sb_NoBox_HeapError => k_is)
    (case sb_NoHand_HeapError => k_is)
    (case sb_NoRoom_HeapError => k_is)
    (case sb_NoSlot_HeapError => k_is)
    (case sb_NoWork_HeapError => k_is)
    (case sb_NothingHeld_HeapError => k_is)
    (case ec1_NoBox => k_is)
    (case ec2_NoBox => k_is)
    (case ec3_NoBox => k_is)
    (case ec4_NoBox => k_is)
    (case ec5_NoBox => k_is)
    (case ec1_NoHand => k_is)
    (case ec2_NoHand => k_is)
    (case ec3_NoHand => k_is)
    (case ec4_NoHand => k_is)
    (case ec5_NoHand => k_is)
    (case ec1_NoRoom => k_is)
    (case ec2_NoRoom => k_is)
    (case ec3_NoRoom => k_is)
    (case ec4_NoRoom => k_is)
    (case ec5_NoRoom => k_is)
    (case ec1_NoSlot => k_is)
    (case ec2_NoSlot => k_is)
    (case ec3_NoSlot => k_is)
    (case ec4_NoSlot => k_is)
    (case ec5_NoSlot => k_is)
    (case ec1_NoWork => k_is)
    (case ec2_NoWork => k_is)
    (case ec3_NoWork => k_is)
    (case ec4_NoWork => k_is)
    (case ec5_NoWork => k_is)
    (case ec1_NothingHeld => k_is)
    (case ec2_NothingHeld => k_is)
    (case ec3_NothingHeld => k_is)
    (case ec4_NothingHeld => k_is)
    (case ec5_NothingHeld => k_is)
    (case ec6 => k_is)
    (case ec7 => k_is)
    (case tx_NoDeed => k_is)
    (case ix_NoDeed => k_is)
    (case sb_NoBox_NoDeed => k_is)
    (case ne_NoBox_NoDeed => decide)
    (case ix_NoHand => k_is)
    (case sb_NoBox_NoHand => k_is)
    (case ne_NoBox_NoHand => decide)
    (case ix_NoHeap => k_is)
    (case sb_NoBox_NoHeap => k_is)
    (case ne_NoBox_NoHeap => decide)
    (case ix_NoRoom => k_is)
    (case sb_NoBox_NoRoom => k_is)
    (case ne_NoBox_NoRoom => decide)
    (case ix_NoSlot => k_is)
    (case sb_NoBox_NoSlot => k_is)
    (case ne_NoBox_NoSlot => decide)
    (case ix_NoWork => k_is)
    (case sb_NoBox_NoWork => k_is)
    (case ne_NoBox_NoWork => decide)
    (case ix_NothingHeld => k_is)
    (case sb_NoBox_NothingHeld => k_is)
    (case ne_NoBox_NothingHeld => decide)
    (case vb_NoBox => k_is)
    (case ix_NoBox => k_is)
    (case sb_NoHand_NoBox => k_is)
    (case ne_NoHand_NoBox => decide)
    (case sb_NoHand_NoDeed => k_is)
    (case ne_NoHand_NoDeed => decide)
    (case sb_NoHand_NoHeap => k_is)
    (case ne_NoHand_NoHeap => decide)
    (case sb_NoHand_NoRoom => k_is)
    (case ne_NoHand_NoRoom => decide)
    (case sb_NoHand_NoSlot => k_is)
    (case ne_NoHand_NoSlot => decide)
    (case sb_NoHand_NoWork => k_is)
    (case ne_NoHand_NoWork => decide)
    (case sb_NoHand_NothingHeld => k_is)
    (case ne_NoHand_NothingHeld => decide)
    (case vb_NoHand => k_is)
    (case sb_NoRoom_NoBox => k_is)
    (case ne_NoRoom_NoBox => decide)
    (case sb_NoRoom_NoDeed => k_is)
    (case ne_NoRoom_NoDeed => decide)
    (case sb_NoRoom_NoHand => k_is)
    (case ne_NoRoom_NoHand => decide)
    (case sb_NoRoom_NoHeap => k_is)
    (case ne_NoRoom_NoHeap => decide)
    (case sb_NoRoom_NoSlot => k_is)
    (case ne_NoRoom_NoSlot => decide)
    (case sb_NoRoom_NoWork => k_is)
    (case ne_NoRoom_NoWork => decide)
    (case sb_NoRoom_NothingHeld => k_is)
    (case ne_NoRoom_NothingHeld => decide)
    (case vb_NoRoom => k_is)
    (case sb_NoSlot_NoBox => k_is)
    (case ne_NoSlot_NoBox => decide)
    (case sb_NoSlot_NoDeed => k_is)
    (case ne_NoSlot_NoDeed => decide)
    (case sb_NoSlot_NoHand => k_is)
    (case ne_NoSlot_NoHand => decide)
    (case sb_NoSlot_NoHeap => k_is)
    (case ne_NoSlot_NoHeap => decide)
    (case sb_NoSlot_NoRoom => k_is)
    (case ne_NoSlot_NoRoom => decide)
    (case sb_NoSlot_NoWork => k_is)
    (case ne_NoSlot_NoWork => decide)
    (case sb_NoSlot_NothingHeld => k_is)
    (case ne_NoSlot_NothingHeld => decide)
    (case vb_NoSlot => k_is)
    (case sb_NoWork_NoBox => k_is)
    (case ne_NoWork_NoBox => decide)
    (case sb_NoWork_NoDeed => k_is)
    (case ne_NoWork_NoDeed => decide)
    (case sb_NoWork_NoHand => k_is)
    (case ne_NoWork_NoHand => decide)
    (case sb_NoWork_NoHeap => k_is)
    (case ne_NoWork_NoHeap => decide)
    (case sb_NoWork_NoRoom => k_is)
    (case ne_NoWork_NoRoom => decide)
    (case sb_NoWork_NoSlot => k_is)
    (case ne_NoWork_NoSlot => decide)
    (case sb_NoWork_NothingHeld => k_is)
    (case ne_NoWork_NothingHeld => decide)
    (case vb_NoWork => k_is)
    (case sb_NothingHeld_NoBox => k_is)
    (case ne_NothingHeld_NoBox => decide)
    (case sb_NothingHeld_NoDeed => k_is)
    (case ne_NothingHeld_NoDeed => decide)
    (case sb_NothingHeld_NoHand => k_is)
    (case ne_NothingHeld_NoHand => decide)
    (case sb_NothingHeld_NoHeap => k_is)
    (case ne_NothingHeld_NoHeap => decide)
    (case sb_NothingHeld_NoRoom => k_is)
    (case ne_NothingHeld_NoRoom => decide)
    (case sb_NothingHeld_NoSlot => k_is)
    (case ne_NothingHeld_NoSlot => decide)
    (case sb_NothingHeld_NoWork => k_is)
    (case ne_NothingHeld_NoWork => decide)
    (case vb_NothingHeld => k_is)
    (case z_ValueError => k_is)
    (case z_bool => k_is)
    (case z_int => k_is)
    (case z_isinstance => k_is)
    (case z_len => k_is)
    (case z_list => k_is)
    (case z_max => k_is)
    (case z_min => k_is)
    (case z_range => k_is)
    (case z_sorted => k_is)
    (case c_MOST_HANDS => k_is)
    (case c_MOST_PIECES => k_is)
    (case c_MOST_ROOM => k_is)
    (case c_MOST_SLOTS => k_is)

