import PyProof.Rows.All
import Wide.All
import OpenK.AllK
import Wide.FinOn
import HandS.ForMost
import HandS.ForExc
import HandS.IsInst
import HandS.Wide
import HandS.CallLocal
import HandS.Conv
import HandS.ExcIs
import HandS.Rev
import HandS.RevRange
import HandS.Deep
import KE.SortData
import HandS.DictComp
import HandS.TupSets
import HandS.SetBool
import HandS.ExcInit
import PySem.Challenge.RW_fleuron_k60_pictures_of_pixels
set_option Elab.async false
set_option linter.all false
set_option maxRecDepth 100000
set_option maxHeartbeats 4000000
namespace Dn
open PySem L2

/-- plain data; o: the node is owned by the one who holds it, and may be changed -/
inductive D where
  | un | non | bl (b : Bool) | int (i : Int) | str (s : Str)
  | fn (n : Str)
  | ty (n : String)
  | tup (ds : List D)
  | lst (o : Bool) (ds : List D)
  | scr (ds : List D)
  | ktp (ds : List D)
  | dK (o : Bool) (ks : List Key) (ds : List D)
  | dT (o : Bool) (ks : List (List Key)) (ds : List D)
  | obj (o : Bool) (c : Str) (ns : List Str) (ds : List D)

abbrev Mg := Str → Option Value

section
variable (K : PySem.W.Frag) (mg : Mg) (F H : Hp)
mutual
/-- d, as it is told by v: the frozen parts stand in F, the owned parts stand in H at the addresses fp -/
def Own : D → List Addr → V → Prop
  | .un, fp, _ => fp = []
  | .non, fp, v => fp = [] ∧ v = .non
  | .bl b, fp, v => fp = [] ∧ v = .bl b
  | .int i, fp, v => fp = [] ∧ v = .int i
  | .str s, fp, v => fp = [] ∧ v = .str s
  | .fn n, fp, v => fp = [] ∧ ∃ a, v = .ref a ∧ mg n = some (.ref a)
  | .ty n, fp, v => fp = [] ∧ v = .ty n
  | .tup ds, fp, v => ∃ a vs, v = .ref a ∧ F a = some (.tup vs) ∧ OwnL ds fp vs
  | .lst o ds, fp, v => ∃ a vs f, v = .ref a ∧ OwnL ds f vs ∧
      ((o = false ∧ fp = [] ∧ f = [] ∧ F a = some (.lst vs)) ∨ (o = true ∧ fp.Perm (a :: f) ∧ H a = some (.lst vs)))
  | .scr ds, fp, v => fp = [] ∧ ∃ a vs, v = .ref a ∧ SqL K F a vs ∧ OwnL ds [] vs
  | .ktp ds, fp, v => fp = [] ∧ ∃ a vs, v = .ref a ∧ SqT K F a vs ∧ OwnL ds [] vs
  | .dK o ks ds, fp, v => ∃ a vs f, v = .ref a ∧ ks.length = vs.length ∧ OwnL ds f vs ∧
      ((o = false ∧ fp = [] ∧ f = [] ∧ F a = some (.dK (ks.zip vs))) ∨ (o = true ∧ fp.Perm (a :: f) ∧ H a = some (.dK (ks.zip vs))))
  | .dT o ks ds, fp, v => ∃ a vs f, v = .ref a ∧ ks.length = vs.length ∧ OwnL ds f vs ∧
      ((o = false ∧ fp = [] ∧ f = [] ∧ F a = some (.dT (ks.zip vs))) ∨ (o = true ∧ fp.Perm (a :: f) ∧ H a = some (.dT (ks.zip vs))))
  | .obj o c ns ds, fp, v => ∃ a vs f C dx, v = .ref a ∧ mg c = some (.ref C) ∧ ns.length = vs.length ∧ OwnL ds f vs ∧
      ((o = false ∧ fp = [] ∧ f = [] ∧ F a = some (.ins C dx (ns.zip vs)) ∧ F dx = some (.own a)) ∨
        (o = true ∧ fp.Perm (a :: dx :: f) ∧ H a = some (.ins C dx (ns.zip vs)) ∧ H dx = some (.own a)))
def OwnL : List D → List Addr → List V → Prop
  | [], fp, vs => fp = [] ∧ vs = []
  | d :: ds, fp, vs => ∃ v vr f1 f2, vs = v :: vr ∧ fp.Perm (f1 ++ f2) ∧ Own d f1 v ∧ OwnL ds f2 vr
end
end

theorem Same.seqT {K : PySem.W.Frag} {H H' : Hp} {a : Addr} {xs : List V} (e : Same H H') (h : SqT K H a xs) : SqT K H' a xs := by
  rcases h with (h | ⟨o, h⟩) | h
  · exact .inl (.inl (e _ _ h))
  · exact .inl (.inr ⟨o, e _ _ h⟩)
  · exact .inr h

section
variable {K : PySem.W.Frag} {mg : Mg} {F F' H H' : Hp}

mutual
theorem Own.perm : ∀ {d : D} {fp fq : List Addr} {v : V}, Own K mg F H d fp v → fp.Perm fq → Own K mg F H d fq v
  | .un, fp, fq, v, h, p => by simp only [Own] at h ⊢; subst h; exact p.nil_eq.symm
  | .non, fp, fq, v, h, p => by simp only [Own] at h ⊢; exact ⟨by rw [h.1] at p; exact p.nil_eq.symm, h.2⟩
  | .bl b, fp, fq, v, h, p => by simp only [Own] at h ⊢; exact ⟨by rw [h.1] at p; exact p.nil_eq.symm, h.2⟩
  | .int b, fp, fq, v, h, p => by simp only [Own] at h ⊢; exact ⟨by rw [h.1] at p; exact p.nil_eq.symm, h.2⟩
  | .str b, fp, fq, v, h, p => by simp only [Own] at h ⊢; exact ⟨by rw [h.1] at p; exact p.nil_eq.symm, h.2⟩
  | .fn b, fp, fq, v, h, p => by simp only [Own] at h ⊢; exact ⟨by rw [h.1] at p; exact p.nil_eq.symm, h.2⟩
  | .ty b, fp, fq, v, h, p => by simp only [Own] at h ⊢; exact ⟨by rw [h.1] at p; exact p.nil_eq.symm, h.2⟩
  | .tup ds, fp, fq, v, h, p => by
    simp only [Own] at h ⊢
    obtain ⟨a, vs, e, q, l⟩ := h
    exact ⟨a, vs, e, q, OwnL.perm l p⟩
  | .lst o ds, fp, fq, v, h, p => by
    simp only [Own] at h ⊢
    obtain ⟨a, vs, f, e, l, q⟩ := h
    refine ⟨a, vs, f, e, l, ?_⟩
    rcases q with ⟨q1, q2, q3⟩ | ⟨q1, q2, q3⟩
    · exact .inl ⟨q1, by rw [q2] at p; exact p.nil_eq.symm, q3⟩
    · exact .inr ⟨q1, p.symm.trans q2, q3⟩
  | .scr ds, fp, fq, v, h, p => by simp only [Own] at h ⊢; exact ⟨by rw [h.1] at p; exact p.nil_eq.symm, h.2⟩
  | .ktp ds, fp, fq, v, h, p => by simp only [Own] at h ⊢; exact ⟨by rw [h.1] at p; exact p.nil_eq.symm, h.2⟩
  | .dK o ks ds, fp, fq, v, h, p => by
    simp only [Own] at h ⊢
    obtain ⟨a, vs, f, e, z, l, q⟩ := h
    refine ⟨a, vs, f, e, z, l, ?_⟩
    rcases q with ⟨q1, q2, q3⟩ | ⟨q1, q2, q3⟩
    · exact .inl ⟨q1, by rw [q2] at p; exact p.nil_eq.symm, q3⟩
    · exact .inr ⟨q1, p.symm.trans q2, q3⟩
  | .dT o ks ds, fp, fq, v, h, p => by
    simp only [Own] at h ⊢
    obtain ⟨a, vs, f, e, z, l, q⟩ := h
    refine ⟨a, vs, f, e, z, l, ?_⟩
    rcases q with ⟨q1, q2, q3⟩ | ⟨q1, q2, q3⟩
    · exact .inl ⟨q1, by rw [q2] at p; exact p.nil_eq.symm, q3⟩
    · exact .inr ⟨q1, p.symm.trans q2, q3⟩
  | .obj o c ns ds, fp, fq, v, h, p => by
    simp only [Own] at h ⊢
    obtain ⟨a, vs, f, C, dx, e, m, z, l, q⟩ := h
    refine ⟨a, vs, f, C, dx, e, m, z, l, ?_⟩
    rcases q with ⟨q1, q2, q3⟩ | ⟨q1, q2, q3⟩
    · exact .inl ⟨q1, by rw [q2] at p; exact p.nil_eq.symm, q3⟩
    · exact .inr ⟨q1, p.symm.trans q2, q3⟩
theorem OwnL.perm : ∀ {ds : List D} {fp fq : List Addr} {vs : List V}, OwnL K mg F H ds fp vs → fp.Perm fq → OwnL K mg F H ds fq vs
  | [], fp, fq, vs, h, p => by simp only [OwnL] at h ⊢; exact ⟨by rw [h.1] at p; exact p.nil_eq.symm, h.2⟩
  | d :: ds, fp, fq, vs, h, p => by
    simp only [OwnL] at h ⊢
    obtain ⟨v, vr, f1, f2, e, q, h1, h2⟩ := h
    exact ⟨v, vr, f1, f2, e, p.symm.trans q, h1, h2⟩
end

mutual
/-- F may grow; what is owned stays as it is -/
theorem Own.mono : ∀ {d : D} {fp : List Addr} {v : V}, Own K mg F H d fp v → Same F F' → (∀ a ∈ fp, H' a = H a) → Own K mg F' H' d fp v
  | .un, fp, v, h, s, k => by simp only [Own] at h ⊢; exact h
  | .non, fp, v, h, s, k => by simp only [Own] at h ⊢; exact h
  | .bl b, fp, v, h, s, k => by simp only [Own] at h ⊢; exact h
  | .int b, fp, v, h, s, k => by simp only [Own] at h ⊢; exact h
  | .str b, fp, v, h, s, k => by simp only [Own] at h ⊢; exact h
  | .fn b, fp, v, h, s, k => by simp only [Own] at h ⊢; exact h
  | .ty b, fp, v, h, s, k => by simp only [Own] at h ⊢; exact h
  | .tup ds, fp, v, h, s, k => by
    simp only [Own] at h ⊢
    obtain ⟨a, vs, e, q, l⟩ := h
    exact ⟨a, vs, e, s _ _ q, OwnL.mono l s k⟩
  | .lst o ds, fp, v, h, s, k => by
    simp only [Own] at h ⊢
    obtain ⟨a, vs, f, e, l, q⟩ := h
    rcases q with ⟨q1, q2, q3, q4⟩ | ⟨q1, q2, q3⟩
    · exact ⟨a, vs, f, e, OwnL.mono l s (fun b hb => by rw [q3] at hb; cases hb), .inl ⟨q1, q2, q3, s _ _ q4⟩⟩
    · exact ⟨a, vs, f, e, OwnL.mono l s (fun b hb => k b (q2.mem_iff.mpr (List.mem_cons_of_mem _ hb))), .inr ⟨q1, q2, by rw [k a (q2.mem_iff.mpr List.mem_cons_self)]; exact q3⟩⟩
  | .scr ds, fp, v, h, s, k => by
    simp only [Own] at h ⊢
    obtain ⟨e0, a, vs, e, q, l⟩ := h
    exact ⟨e0, a, vs, e, s.seq q, OwnL.mono l s (fun _ z => nomatch z)⟩
  | .ktp ds, fp, v, h, s, k => by
    simp only [Own] at h ⊢
    obtain ⟨e0, a, vs, e, q, l⟩ := h
    exact ⟨e0, a, vs, e, Same.seqT s q, OwnL.mono l s (fun _ z => nomatch z)⟩
  | .dK o ks ds, fp, v, h, s, k => by
    simp only [Own] at h ⊢
    obtain ⟨a, vs, f, e, z, l, q⟩ := h
    rcases q with ⟨q1, q2, q3, q4⟩ | ⟨q1, q2, q3⟩
    · exact ⟨a, vs, f, e, z, OwnL.mono l s (fun b hb => by rw [q3] at hb; cases hb), .inl ⟨q1, q2, q3, s _ _ q4⟩⟩
    · exact ⟨a, vs, f, e, z, OwnL.mono l s (fun b hb => k b (q2.mem_iff.mpr (List.mem_cons_of_mem _ hb))), .inr ⟨q1, q2, by rw [k a (q2.mem_iff.mpr List.mem_cons_self)]; exact q3⟩⟩
  | .dT o ks ds, fp, v, h, s, k => by
    simp only [Own] at h ⊢
    obtain ⟨a, vs, f, e, z, l, q⟩ := h
    rcases q with ⟨q1, q2, q3, q4⟩ | ⟨q1, q2, q3⟩
    · exact ⟨a, vs, f, e, z, OwnL.mono l s (fun b hb => by rw [q3] at hb; cases hb), .inl ⟨q1, q2, q3, s _ _ q4⟩⟩
    · exact ⟨a, vs, f, e, z, OwnL.mono l s (fun b hb => k b (q2.mem_iff.mpr (List.mem_cons_of_mem _ hb))), .inr ⟨q1, q2, by rw [k a (q2.mem_iff.mpr List.mem_cons_self)]; exact q3⟩⟩
  | .obj o c ns ds, fp, v, h, s, k => by
    simp only [Own] at h ⊢
    obtain ⟨a, vs, f, C, dx, e, m, z, l, q⟩ := h
    rcases q with ⟨q1, q2, q3, q4, q5⟩ | ⟨q1, q2, q3, q4⟩
    · exact ⟨a, vs, f, C, dx, e, m, z, OwnL.mono l s (fun b hb => by rw [q3] at hb; cases hb), .inl ⟨q1, q2, q3, s _ _ q4, s _ _ q5⟩⟩
    · exact ⟨a, vs, f, C, dx, e, m, z, OwnL.mono l s (fun b hb => k b (q2.mem_iff.mpr (List.mem_cons_of_mem _ (List.mem_cons_of_mem _ hb)))),
        .inr ⟨q1, q2, by rw [k a (q2.mem_iff.mpr List.mem_cons_self)]; exact q3, by rw [k dx (q2.mem_iff.mpr (List.mem_cons_of_mem _ List.mem_cons_self))]; exact q4⟩⟩
theorem OwnL.mono : ∀ {ds : List D} {fp : List Addr} {vs : List V}, OwnL K mg F H ds fp vs → Same F F' → (∀ a ∈ fp, H' a = H a) → OwnL K mg F' H' ds fp vs
  | [], fp, vs, h, s, k => by simp only [OwnL] at h ⊢; exact h
  | d :: ds, fp, vs, h, s, k => by
    simp only [OwnL] at h ⊢
    obtain ⟨v, vr, f1, f2, e, q, h1, h2⟩ := h
    exact ⟨v, vr, f1, f2, e, q, h1.mono s (fun a ha => k a (q.mem_iff.mpr (List.mem_append_left _ ha))), h2.mono s (fun a ha => k a (q.mem_iff.mpr (List.mem_append_right _ ha)))⟩
end

def isTup : HO → Prop | .tup _ => True | _ => False
mutual
/-- an owned address is tracked, and is no tuple -/
theorem Own.dom : ∀ {d : D} {fp : List Addr} {v : V}, Own K mg F H d fp v → ∀ a ∈ fp, ∃ o, H a = some o ∧ ¬ isTup o
  | .un, fp, v, h => by simp only [Own] at h; subst h; intro a ha; cases ha
  | .non, fp, v, h => by simp only [Own] at h; rw [h.1]; intro a ha; cases ha
  | .bl b, fp, v, h => by simp only [Own] at h; rw [h.1]; intro a ha; cases ha
  | .int b, fp, v, h => by simp only [Own] at h; rw [h.1]; intro a ha; cases ha
  | .str b, fp, v, h => by simp only [Own] at h; rw [h.1]; intro a ha; cases ha
  | .fn b, fp, v, h => by simp only [Own] at h; rw [h.1]; intro a ha; cases ha
  | .ty b, fp, v, h => by simp only [Own] at h; rw [h.1]; intro a ha; cases ha
  | .tup ds, fp, v, h => by
    simp only [Own] at h
    obtain ⟨a, vs, e, q, l⟩ := h
    exact OwnL.dom l
  | .lst o ds, fp, v, h => by
    simp only [Own] at h
    obtain ⟨a, vs, f, e, l, q⟩ := h
    rcases q with ⟨q1, q2, q3, q4⟩ | ⟨q1, q2, q3⟩
    · rw [q2]; intro a ha; cases ha
    · intro b hb
      rcases List.mem_cons.mp (q2.mem_iff.mp hb) with rfl | hb
      · exact ⟨_, q3, fun z => z⟩
      · exact OwnL.dom l b hb
  | .scr ds, fp, v, h => by simp only [Own] at h; rw [h.1]; intro a ha; cases ha
  | .ktp ds, fp, v, h => by simp only [Own] at h; rw [h.1]; intro a ha; cases ha
  | .dK o ks ds, fp, v, h => by
    simp only [Own] at h
    obtain ⟨a, vs, f, e, z, l, q⟩ := h
    rcases q with ⟨q1, q2, q3, q4⟩ | ⟨q1, q2, q3⟩
    · rw [q2]; intro a ha; cases ha
    · intro b hb
      rcases List.mem_cons.mp (q2.mem_iff.mp hb) with rfl | hb
      · exact ⟨_, q3, fun z => z⟩
      · exact OwnL.dom l b hb
  | .dT o ks ds, fp, v, h => by
    simp only [Own] at h
    obtain ⟨a, vs, f, e, z, l, q⟩ := h
    rcases q with ⟨q1, q2, q3, q4⟩ | ⟨q1, q2, q3⟩
    · rw [q2]; intro a ha; cases ha
    · intro b hb
      rcases List.mem_cons.mp (q2.mem_iff.mp hb) with rfl | hb
      · exact ⟨_, q3, fun z => z⟩
      · exact OwnL.dom l b hb
  | .obj o c ns ds, fp, v, h => by
    simp only [Own] at h
    obtain ⟨a, vs, f, C, dx, e, m, z, l, q⟩ := h
    rcases q with ⟨q1, q2, q3, q4, q5⟩ | ⟨q1, q2, q3, q4⟩
    · rw [q2]; intro a ha; cases ha
    · intro b hb
      rcases List.mem_cons.mp (q2.mem_iff.mp hb) with rfl | hb
      · exact ⟨_, q3, fun z => z⟩
      · rcases List.mem_cons.mp hb with rfl | hb
        · exact ⟨_, q4, fun z => z⟩
        · exact OwnL.dom l b hb
theorem OwnL.dom : ∀ {ds : List D} {fp : List Addr} {vs : List V}, OwnL K mg F H ds fp vs → ∀ a ∈ fp, ∃ o, H a = some o ∧ ¬ isTup o
  | [], fp, vs, h => by simp only [OwnL] at h; rw [h.1]; intro a ha; cases ha
  | d :: ds, fp, vs, h => by
    simp only [OwnL] at h
    obtain ⟨v, vr, f1, f2, e, q, h1, h2⟩ := h
    intro a ha
    rcases List.mem_append.mp (q.mem_iff.mp ha) with ha | ha
    · exact h1.dom a ha
    · exact h2.dom a ha
end

mutual
/-- nothing in it is owned -/
def pure : D → Bool
  | .tup ds => pureL ds
  | .lst o ds => !o && pureL ds
  | .scr ds => pureL ds
  | .ktp ds => pureL ds
  | .dK o _ ds => !o && pureL ds
  | .dT o _ ds => !o && pureL ds
  | .obj o _ _ ds => !o && pureL ds
  | _ => true
def pureL : List D → Bool
  | [] => true
  | d :: ds => pure d && pureL ds
/-- given out of hand -/
def strip : D → D
  | .tup ds => .tup (stripL ds)
  | .lst _ ds => .lst false (stripL ds)
  | .scr ds => .scr (stripL ds)
  | .ktp ds => .ktp (stripL ds)
  | .dK _ ks ds => .dK false ks (stripL ds)
  | .dT _ ks ds => .dT false ks (stripL ds)
  | .obj _ c ns ds => .obj false c ns (stripL ds)
  | .un => .un | .non => .non | .bl b => .bl b | .int i => .int i | .str s => .str s | .fn n => .fn n | .ty n => .ty n
def stripL : List D → List D
  | [] => []
  | d :: ds => strip d :: stripL ds
end

mutual
theorem Own.pure : ∀ {d : D} {fp : List Addr} {v : V}, Own K mg F H d fp v → Dn.pure d = true → fp = []
  | .un, fp, v, h, p => by simp only [Own] at h; exact h
  | .non, fp, v, h, p => by simp only [Own] at h; exact h.1
  | .bl b, fp, v, h, p => by simp only [Own] at h; exact h.1
  | .int b, fp, v, h, p => by simp only [Own] at h; exact h.1
  | .str b, fp, v, h, p => by simp only [Own] at h; exact h.1
  | .fn b, fp, v, h, p => by simp only [Own] at h; exact h.1
  | .ty b, fp, v, h, p => by simp only [Own] at h; exact h.1
  | .tup ds, fp, v, h, p => by
    simp only [Own] at h
    obtain ⟨a, vs, e, q, l⟩ := h
    simp only [Dn.pure] at p
    exact OwnL.pure l p
  | .lst o ds, fp, v, h, p => by
    simp only [Own] at h
    obtain ⟨a, vs, f, e, l, q⟩ := h
    simp only [Dn.pure, Bool.and_eq_true, Bool.not_eq_true'] at p
    rcases q with ⟨q1, q2, q3, q4⟩ | ⟨q1, q2, q3⟩
    · exact q2
    · rw [q1] at p; cases p.1
  | .scr ds, fp, v, h, p => by simp only [Own] at h; exact h.1
  | .ktp ds, fp, v, h, p => by simp only [Own] at h; exact h.1
  | .dK o ks ds, fp, v, h, p => by
    simp only [Own] at h
    obtain ⟨a, vs, f, e, z, l, q⟩ := h
    simp only [Dn.pure, Bool.and_eq_true, Bool.not_eq_true'] at p
    rcases q with ⟨q1, q2, q3, q4⟩ | ⟨q1, q2, q3⟩
    · exact q2
    · rw [q1] at p; cases p.1
  | .dT o ks ds, fp, v, h, p => by
    simp only [Own] at h
    obtain ⟨a, vs, f, e, z, l, q⟩ := h
    simp only [Dn.pure, Bool.and_eq_true, Bool.not_eq_true'] at p
    rcases q with ⟨q1, q2, q3, q4⟩ | ⟨q1, q2, q3⟩
    · exact q2
    · rw [q1] at p; cases p.1
  | .obj o c ns ds, fp, v, h, p => by
    simp only [Own] at h
    obtain ⟨a, vs, f, C, dx, e, m, z, l, q⟩ := h
    simp only [Dn.pure, Bool.and_eq_true, Bool.not_eq_true'] at p
    rcases q with ⟨q1, q2, q3, q4, q5⟩ | ⟨q1, q2, q3, q4⟩
    · exact q2
    · rw [q1] at p; cases p.1
theorem OwnL.pure : ∀ {ds : List D} {fp : List Addr} {vs : List V}, OwnL K mg F H ds fp vs → Dn.pureL ds = true → fp = []
  | [], fp, vs, h, p => by simp only [OwnL] at h; exact h.1
  | d :: ds, fp, vs, h, p => by
    simp only [OwnL] at h
    obtain ⟨v, vr, f1, f2, e, q, h1, h2⟩ := h
    simp only [Dn.pureL, Bool.and_eq_true] at p
    rw [h1.pure p.1, h2.pure p.2] at q
    exact q.symm.nil_eq.symm
end

/-- what was owned at fp is frozen -/
def frz (F H : Hp) (fp : List Addr) : Hp := fun a => if a ∈ fp then H a else F a
theorem frz_same {fp : List Addr} (h : ∀ a ∈ fp, F a = none) : Same F (frz F H fp) := fun a o e => by
  unfold frz
  rw [if_neg (fun z => by rw [h a z] at e; cases e)]
  exact e
theorem frz_at {fp : List Addr} {a : Addr} (h : a ∈ fp) : frz F H fp a = H a := if_pos h

mutual
theorem Own.frozen : ∀ {d : D} {fp : List Addr} {v : V}, Own K mg F H d fp v → ∀ {G : Hp}, Same F G → (∀ a ∈ fp, G a = H a) → Own K mg G H' (strip d) [] v
  | .un, fp, v, h, G, s, k => by simp only [Own, strip]
  | .non, fp, v, h, G, s, k => by simp only [Own, strip] at h ⊢; exact ⟨trivial, h.2⟩
  | .bl b, fp, v, h, G, s, k => by simp only [Own, strip] at h ⊢; exact ⟨trivial, h.2⟩
  | .int b, fp, v, h, G, s, k => by simp only [Own, strip] at h ⊢; exact ⟨trivial, h.2⟩
  | .str b, fp, v, h, G, s, k => by simp only [Own, strip] at h ⊢; exact ⟨trivial, h.2⟩
  | .fn b, fp, v, h, G, s, k => by simp only [Own, strip] at h ⊢; exact ⟨trivial, h.2⟩
  | .ty b, fp, v, h, G, s, k => by simp only [Own, strip] at h ⊢; exact ⟨trivial, h.2⟩
  | .tup ds, fp, v, h, G, s, k => by
    simp only [Own, strip] at h ⊢
    obtain ⟨a, vs, e, q, l⟩ := h
    exact ⟨a, vs, e, s _ _ q, OwnL.frozen l s k⟩
  | .lst o ds, fp, v, h, G, s, k => by
    simp only [Own, strip] at h ⊢
    obtain ⟨a, vs, f, e, l, q⟩ := h
    rcases q with ⟨q1, q2, q3, q4⟩ | ⟨q1, q2, q3⟩
    · exact ⟨a, vs, [], e, OwnL.frozen l s (fun b hb => by rw [q3] at hb; cases hb), .inl ⟨trivial, trivial, rfl, s _ _ q4⟩⟩
    · exact ⟨a, vs, [], e, OwnL.frozen l s (fun b hb => k b (q2.mem_iff.mpr (List.mem_cons_of_mem _ hb))), .inl ⟨trivial, trivial, rfl, (by rw [k a (q2.mem_iff.mpr List.mem_cons_self)]; exact q3)⟩⟩
  | .scr ds, fp, v, h, G, s, k => by
    simp only [Own, strip] at h ⊢
    obtain ⟨e0, a, vs, e, q, l⟩ := h
    exact ⟨trivial, a, vs, e, s.seq q, OwnL.frozen l s (fun _ z => nomatch z)⟩
  | .ktp ds, fp, v, h, G, s, k => by
    simp only [Own, strip] at h ⊢
    obtain ⟨e0, a, vs, e, q, l⟩ := h
    exact ⟨trivial, a, vs, e, Same.seqT s q, OwnL.frozen l s (fun _ z => nomatch z)⟩
  | .dK o ks ds, fp, v, h, G, s, k => by
    simp only [Own, strip] at h ⊢
    obtain ⟨a, vs, f, e, z, l, q⟩ := h
    rcases q with ⟨q1, q2, q3, q4⟩ | ⟨q1, q2, q3⟩
    · exact ⟨a, vs, [], e, z, OwnL.frozen l s (fun b hb => by rw [q3] at hb; cases hb), .inl ⟨trivial, trivial, rfl, s _ _ q4⟩⟩
    · exact ⟨a, vs, [], e, z, OwnL.frozen l s (fun b hb => k b (q2.mem_iff.mpr (List.mem_cons_of_mem _ hb))), .inl ⟨trivial, trivial, rfl, by rw [k a (q2.mem_iff.mpr List.mem_cons_self)]; exact q3⟩⟩
  | .dT o ks ds, fp, v, h, G, s, k => by
    simp only [Own, strip] at h ⊢
    obtain ⟨a, vs, f, e, z, l, q⟩ := h
    rcases q with ⟨q1, q2, q3, q4⟩ | ⟨q1, q2, q3⟩
    · exact ⟨a, vs, [], e, z, OwnL.frozen l s (fun b hb => by rw [q3] at hb; cases hb), .inl ⟨trivial, trivial, rfl, s _ _ q4⟩⟩
    · exact ⟨a, vs, [], e, z, OwnL.frozen l s (fun b hb => k b (q2.mem_iff.mpr (List.mem_cons_of_mem _ hb))), .inl ⟨trivial, trivial, rfl, by rw [k a (q2.mem_iff.mpr List.mem_cons_self)]; exact q3⟩⟩
  | .obj o c ns ds, fp, v, h, G, s, k => by
    simp only [Own, strip] at h ⊢
    obtain ⟨a, vs, f, C, dx, e, m, z, l, q⟩ := h
    rcases q with ⟨q1, q2, q3, q4, q5⟩ | ⟨q1, q2, q3, q4⟩
    · exact ⟨a, vs, [], C, dx, e, m, z, OwnL.frozen l s (fun b hb => by rw [q3] at hb; cases hb), .inl ⟨trivial, trivial, rfl, s _ _ q4, s _ _ q5⟩⟩
    · exact ⟨a, vs, [], C, dx, e, m, z, OwnL.frozen l s (fun b hb => k b (q2.mem_iff.mpr (List.mem_cons_of_mem _ (List.mem_cons_of_mem _ hb)))),
        .inl ⟨trivial, trivial, rfl, by rw [k a (q2.mem_iff.mpr List.mem_cons_self)]; exact q3, by rw [k dx (q2.mem_iff.mpr (List.mem_cons_of_mem _ List.mem_cons_self))]; exact q4⟩⟩
theorem OwnL.frozen : ∀ {ds : List D} {fp : List Addr} {vs : List V}, OwnL K mg F H ds fp vs → ∀ {G : Hp}, Same F G → (∀ a ∈ fp, G a = H a) → OwnL K mg G H' (stripL ds) [] vs
  | [], fp, vs, h, G, s, k => by simp only [OwnL, stripL] at h ⊢; exact ⟨trivial, h.2⟩
  | d :: ds, fp, vs, h, G, s, k => by
    simp only [OwnL, stripL] at h ⊢
    obtain ⟨v, vr, f1, f2, e, q, h1, h2⟩ := h
    exact ⟨v, vr, [], [], e, List.Perm.refl _, h1.frozen s (fun a ha => k a (q.mem_iff.mpr (List.mem_append_left _ ha))), h2.frozen s (fun a ha => k a (q.mem_iff.mpr (List.mem_append_right _ ha)))⟩
end
mutual
theorem strip_pure : ∀ d : D, Dn.pure d = true → strip d = d
  | .un, _ => rfl | .non, _ => rfl | .bl _, _ => rfl | .int _, _ => rfl | .str _, _ => rfl | .fn _, _ => rfl | .ty _, _ => rfl
  | .tup ds, h => by simp only [Dn.pure] at h; simp only [strip, stripL_pure ds h]
  | .lst o ds, h => by simp only [Dn.pure, Bool.and_eq_true, Bool.not_eq_true'] at h; simp only [strip, stripL_pure ds h.2, h.1]
  | .scr ds, h => by simp only [Dn.pure] at h; simp only [strip, stripL_pure ds h]
  | .ktp ds, h => by simp only [Dn.pure] at h; simp only [strip, stripL_pure ds h]
  | .dK o _ ds, h => by simp only [Dn.pure, Bool.and_eq_true, Bool.not_eq_true'] at h; simp only [strip, stripL_pure ds h.2, h.1]
  | .dT o _ ds, h => by simp only [Dn.pure, Bool.and_eq_true, Bool.not_eq_true'] at h; simp only [strip, stripL_pure ds h.2, h.1]
  | .obj o _ _ ds, h => by simp only [Dn.pure, Bool.and_eq_true, Bool.not_eq_true'] at h; simp only [strip, stripL_pure ds h.2, h.1]
theorem stripL_pure : ∀ ds : List D, Dn.pureL ds = true → stripL ds = ds
  | [], _ => rfl
  | d :: ds, h => by simp only [Dn.pureL, Bool.and_eq_true] at h; simp only [stripL, strip_pure d h.1, stripL_pure ds h.2]
theorem pure_strip : ∀ d : D, Dn.pure (strip d) = true
  | .un => rfl | .non => rfl | .bl _ => rfl | .int _ => rfl | .str _ => rfl | .fn _ => rfl | .ty _ => rfl
  | .tup ds => by simp only [strip, Dn.pure, pureL_strip ds]
  | .lst o ds => by simp only [strip, Dn.pure, pureL_strip ds]; rfl
  | .scr ds => by simp only [strip, Dn.pure, pureL_strip ds]
  | .ktp ds => by simp only [strip, Dn.pure, pureL_strip ds]
  | .dK o _ ds => by simp only [strip, Dn.pure, pureL_strip ds]; rfl
  | .dT o _ ds => by simp only [strip, Dn.pure, pureL_strip ds]; rfl
  | .obj o _ _ ds => by simp only [strip, Dn.pure, pureL_strip ds]; rfl
theorem pureL_strip : ∀ ds : List D, Dn.pureL (stripL ds) = true
  | [] => rfl
  | d :: ds => by simp only [stripL, Dn.pureL, pure_strip d, pureL_strip ds]; rfl
end
theorem OwnL.length : ∀ {ds : List D} {fp : List Addr} {vs : List V}, OwnL K mg F H ds fp vs → vs.length = ds.length
  | [], fp, vs, h => by simp only [OwnL] at h; rw [h.2]; rfl
  | d :: ds, fp, vs, h => by
    simp only [OwnL] at h
    obtain ⟨v, vr, f1, f2, e, q, h1, h2⟩ := h
    rw [e, List.length_cons, List.length_cons, h2.length]
end
end Dn

set_option Elab.async false
set_option linter.all false
set_option maxRecDepth 100000
set_option maxHeartbeats 4000000
namespace Dn
open PySem L2
section
variable {K : PySem.W.Frag} {mg : Mg} {R F F' H H' : Hp}

/-! ### lists of owned things -/
theorem OwnL.nil : OwnL K mg F H [] [] [] := by simp only [OwnL]; exact ⟨trivial, trivial⟩
theorem OwnL.cons {d : D} {ds : List D} {f1 f2 : List Addr} {v : V} {vs : List V} (h1 : Own K mg F H d f1 v) (h2 : OwnL K mg F H ds f2 vs) : OwnL K mg F H (d :: ds) (f1 ++ f2) (v :: vs) := by
  simp only [OwnL]; exact ⟨v, vs, f1, f2, rfl, .refl _, h1, h2⟩
theorem OwnL.uncons {d : D} {ds : List D} {f : List Addr} {v : V} {vs : List V} (h : OwnL K mg F H (d :: ds) f (v :: vs)) : ∃ f1 f2, f.Perm (f1 ++ f2) ∧ Own K mg F H d f1 v ∧ OwnL K mg F H ds f2 vs := by
  simp only [OwnL] at h
  obtain ⟨v', vr, f1, f2, e, q, h1, h2⟩ := h
  cases e
  exact ⟨f1, f2, q, h1, h2⟩
theorem OwnL.app : ∀ {es ds : List D} {f1 f2 : List Addr} {ws vs : List V}, OwnL K mg F H es f1 ws → OwnL K mg F H ds f2 vs → OwnL K mg F H (es ++ ds) (f1 ++ f2) (ws ++ vs)
  | [], ds, f1, f2, ws, vs, h1, h2 => by simp only [OwnL] at h1; rw [h1.1, h1.2]; exact h2
  | e :: es, ds, f1, f2, ws, vs, h1, h2 => by
    simp only [OwnL] at h1
    obtain ⟨v, vr, g1, g2, rfl, q, a, b⟩ := h1
    refine (OwnL.cons a (OwnL.app b h2)).perm ?_
    rw [← List.append_assoc]
    exact (q.append_right f2).symm
theorem OwnL.unapp : ∀ {es ds : List D} {f : List Addr} {ws vs : List V}, ws.length = es.length → OwnL K mg F H (es ++ ds) f (ws ++ vs) → ∃ f1 f2, f.Perm (f1 ++ f2) ∧ OwnL K mg F H es f1 ws ∧ OwnL K mg F H ds f2 vs
  | [], ds, f, [], vs, _, h => ⟨[], f, .refl _, OwnL.nil, h⟩
  | e :: es, ds, f, w :: ws, vs, l, h => by
    obtain ⟨f1, f2, q, a, b⟩ := OwnL.uncons h
    obtain ⟨g1, g2, q2, c, d⟩ := OwnL.unapp (by simpa using l) b
    refine ⟨f1 ++ g1, g2, ?_, OwnL.cons a c, d⟩
    rw [List.append_assoc]
    exact q.trans (q2.append_left f1)
theorem OwnL.len {ds : List D} {f : List Addr} {vs : List V} (h : OwnL K mg F H ds f vs) : vs.length = ds.length := h.length
/-- the i-th one, taken out -/
theorem OwnL.split : ∀ {ds : List D} {f : List Addr} {vs : List V} {i : Nat} {d : D}, OwnL K mg F H ds f vs → ds[i]? = some d →
    ∃ v f1 f2, vs[i]? = some v ∧ f.Perm (f1 ++ f2) ∧ Own K mg F H d f1 v ∧ OwnL K mg F H (ds.set i .un) f2 vs
  | [], _, _, _, _, h, e => by simp at e
  | d :: ds, f, vs, 0, d', h, e => by
    simp only [OwnL] at h
    obtain ⟨v, vr, g1, g2, rfl, q, a, b⟩ := h
    simp at e; subst e
    exact ⟨v, g1, g2, rfl, q, a, OwnL.cons (f1 := []) (by simp only [Own]) b⟩
  | d :: ds, f, vs, i + 1, d', h, e => by
    simp only [OwnL] at h
    obtain ⟨v, vr, g1, g2, rfl, q, a, b⟩ := h
    obtain ⟨w, f1, f2, e1, q2, c, r⟩ := OwnL.split (i := i) b (by simpa using e)
    refine ⟨w, f1, g1 ++ f2, by simpa using e1, ?_, c, OwnL.cons a r⟩
    refine q.trans ((q2.append_left g1).trans ?_)
    rw [← List.append_assoc, ← List.append_assoc]
    exact List.perm_append_comm.append_right f2
theorem OwnL.join : ∀ {ds : List D} {f1 f2 : List Addr} {vs : List V} {i : Nat} {d : D} {v : V}, OwnL K mg F H ds f2 vs → ds[i]? = some .un → Own K mg F H d f1 v → OwnL K mg F H (ds.set i d) (f1 ++ f2) (vs.set i v)
  | [], _, _, _, _, _, _, h, e, _ => by simp at e
  | d :: ds, f1, f2, vs, 0, d', v', h, e, o => by
    simp only [OwnL] at h
    obtain ⟨v, vr, g1, g2, rfl, q, a, b⟩ := h
    simp at e; subst e
    simp only [Own] at a; subst a
    exact (OwnL.cons o b).perm (q.append_left f1).symm
  | d :: ds, f1, f2, vs, i + 1, d', v', h, e, o => by
    simp only [OwnL] at h
    obtain ⟨v, vr, g1, g2, rfl, q, a, b⟩ := h
    have c := OwnL.join (i := i) b (by simpa using e) o
    refine (OwnL.cons a c).perm ?_
    refine List.Perm.trans ?_ (q.append_left f1).symm
    rw [← List.append_assoc, ← List.append_assoc]
    exact List.perm_append_comm.append_right g2

/-! ### slots -/
def OwnS (K : PySem.W.Frag) (mg : Mg) (F H : Hp) (d : D) (fp : List Addr) (ov : Option V) : Prop := (d = .un ∧ fp = []) ∨ ∃ v, ov = some v ∧ Own K mg F H d fp v
def OwnSL (K : PySem.W.Frag) (mg : Mg) (F H : Hp) : List D → List Addr → List (Option V) → Prop
  | [], fp, σ => fp = [] ∧ σ = []
  | d :: ds, fp, σ => ∃ ov r f1 f2, σ = ov :: r ∧ fp.Perm (f1 ++ f2) ∧ OwnS K mg F H d f1 ov ∧ OwnSL K mg F H ds f2 r
theorem OwnS.mono {d : D} {fp : List Addr} {ov : Option V} (h : OwnS K mg F H d fp ov) (s : Same F F') (k : ∀ a ∈ fp, H' a = H a) : OwnS K mg F' H' d fp ov := by
  rcases h with h | ⟨v, e, h⟩
  · exact .inl h
  · exact .inr ⟨v, e, h.mono s k⟩
theorem OwnS.dom {d : D} {fp : List Addr} {ov : Option V} (h : OwnS K mg F H d fp ov) : ∀ a ∈ fp, ∃ o, H a = some o ∧ ¬ isTup o := by
  rcases h with h | ⟨v, e, h⟩
  · rw [h.2]; intro a ha; cases ha
  · exact h.dom
theorem OwnSL.mono : ∀ {ds : List D} {fp : List Addr} {σ : List (Option V)}, OwnSL K mg F H ds fp σ → Same F F' → (∀ a ∈ fp, H' a = H a) → OwnSL K mg F' H' ds fp σ
  | [], _, _, h, _, _ => h
  | d :: ds, fp, σ, ⟨ov, r, f1, f2, e, q, a, b⟩, s, k => ⟨ov, r, f1, f2, e, q, a.mono s (fun x hx => k x (q.mem_iff.mpr (List.mem_append_left _ hx))), b.mono s (fun x hx => k x (q.mem_iff.mpr (List.mem_append_right _ hx)))⟩
theorem OwnSL.dom : ∀ {ds : List D} {fp : List Addr} {σ : List (Option V)}, OwnSL K mg F H ds fp σ → ∀ a ∈ fp, ∃ o, H a = some o ∧ ¬ isTup o
  | [], _, _, h => by rw [h.1]; intro a ha; cases ha
  | d :: ds, fp, σ, ⟨ov, r, f1, f2, e, q, a, b⟩ => fun x hx => (List.mem_append.mp (q.mem_iff.mp hx)).elim (a.dom x) (b.dom x)
theorem OwnSL.perm : ∀ {ds : List D} {fp fq : List Addr} {σ : List (Option V)}, OwnSL K mg F H ds fp σ → fp.Perm fq → OwnSL K mg F H ds fq σ
  | [], _, _, _, h, p => ⟨by rw [h.1] at p; exact p.nil_eq.symm, h.2⟩
  | d :: ds, fp, fq, σ, ⟨ov, r, f1, f2, e, q, a, b⟩, p => ⟨ov, r, f1, f2, e, p.symm.trans q, a, b⟩
theorem OwnSL.length : ∀ {ds : List D} {fp : List Addr} {σ : List (Option V)}, OwnSL K mg F H ds fp σ → σ.length = ds.length
  | [], _, _, h => by rw [h.2]; rfl
  | d :: ds, fp, σ, ⟨ov, r, f1, f2, e, q, a, b⟩ => by rw [e, List.length_cons, List.length_cons, b.length]
theorem OwnSL.split : ∀ {ds : List D} {f : List Addr} {σ : List (Option V)} {i : Nat} {d : D}, OwnSL K mg F H ds f σ → ds[i]? = some d →
    ∃ ov f1 f2, σ[i]? = some ov ∧ f.Perm (f1 ++ f2) ∧ OwnS K mg F H d f1 ov ∧ OwnSL K mg F H (ds.set i .un) f2 σ
  | [], _, _, _, _, h, e => by simp at e
  | d :: ds, f, σ, 0, d', ⟨ov, r, g1, g2, e0, q, a, b⟩, e => by
    subst e0
    simp at e; subst e
    exact ⟨ov, g1, g2, rfl, q, a, ov, r, [], g2, rfl, .refl _, .inl ⟨rfl, rfl⟩, b⟩
  | d :: ds, f, σ, i + 1, d', ⟨ov, r, g1, g2, e0, q, a, b⟩, e => by
    subst e0
    obtain ⟨w, f1, f2, e1, q2, c, s⟩ := OwnSL.split (i := i) b (by simpa using e)
    refine ⟨w, f1, g1 ++ f2, by simpa using e1, ?_, c, ov, r, g1, f2, rfl, .refl _, a, s⟩
    refine q.trans ((q2.append_left g1).trans ?_)
    rw [← List.append_assoc, ← List.append_assoc]
    exact List.perm_append_comm.append_right f2
theorem OwnSL.join : ∀ {ds : List D} {f1 f2 : List Addr} {σ : List (Option V)} {i : Nat} {d : D} {ov : Option V}, OwnSL K mg F H ds f2 σ → ds[i]? = some .un → OwnS K mg F H d f1 ov → OwnSL K mg F H (ds.set i d) (f1 ++ f2) (σ.set i ov)
  | [], _, _, _, _, _, _, h, e, _ => by simp at e
  | d :: ds, f1, f2, σ, 0, d', v', ⟨ov, r, g1, g2, e0, q, a, b⟩, e, o => by
    subst e0
    simp at e; subst e
    have : g1 = [] := by
      rcases a with a | ⟨_, _, a⟩
      · exact a.2
      · simpa only [Own] using a
    subst this
    exact ⟨v', r, f1, g2, rfl, q.append_left f1, o, b⟩
  | d :: ds, f1, f2, σ, i + 1, d', v', ⟨ov, r, g1, g2, e0, q, a, b⟩, e, o => by
    subst e0
    have c := OwnSL.join (i := i) b (by simpa using e) o
    refine ⟨ov, r.set i v', g1, f1 ++ g2, rfl, ?_, a, c⟩
    refine (q.append_left f1).trans ?_
    rw [← List.append_assoc, ← List.append_assoc]
    exact List.perm_append_comm.append_right g2

/-! ### the state -/
/-- R: what must stay; F: what is frozen; the slots, and the values at hand -/
structure Ok (K : PySem.W.Frag) (mg : Mg) (R F H : Hp) (σ : L2.St) (δ : List D) (vs : List V) (ds : List D) : Prop where
  fh : Same F H
  rh : Same R H
  sep : ∀ a o, R a = some o → F a = none ∨ isTup o
  ex : ∃ (fp f1 f2 : List Addr), fp.Nodup ∧ (∀ a ∈ fp, F a = none ∧ R a = none) ∧ fp.Perm (f1 ++ f2) ∧ OwnSL K mg F H δ f1 σ ∧ OwnL K mg F H ds f2 vs
variable {σ : L2.St} {δ : List D} {vs : List V} {ds : List D}

/-- new frozen things: fresh ones, or tuples -/
theorem Ok.ext (I : Ok K mg R F H σ δ vs ds) (s : Same F F') (h1 : Same F' H') (h2 : Same H H') (n : ∀ a o, F' a = some o → F a = some o ∨ H a = none ∨ isTup o) : Ok K mg R F' H' σ δ vs ds := by
  obtain ⟨fh, rh, sep, fp, f1, f2, nd, cl, p, a, b⟩ := I
  have dm : ∀ x ∈ fp, ∃ o, H x = some o ∧ ¬ isTup o := fun x hx => (List.mem_append.mp (p.mem_iff.mp hx)).elim (a.dom x) (b.dom x)
  have kp : ∀ x ∈ fp, H' x = H x := fun x hx => by
    obtain ⟨o, e, _⟩ := dm x hx
    rw [e]; exact h2 _ _ e
  refine ⟨h1, rh.trans h2, fun x o e => ?_, fp, f1, f2, nd, fun x hx => ⟨?_, (cl x hx).2⟩, p, a.mono s (fun x hx => kp x (p.mem_iff.mpr (List.mem_append_left _ hx))), b.mono s (fun x hx => kp x (p.mem_iff.mpr (List.mem_append_right _ hx)))⟩
  · cases q : F' x with
    | none => exact .inl rfl
    | some o' =>
      rcases n x o' q with q' | q' | q'
      · rcases sep x o e with z | z
        · rw [q'] at z; cases z
        · exact .inr z
      · rw [rh _ _ e] at q'; cases q'
      · have e1 := h2 _ _ (rh _ _ e)
        rw [h1 _ _ q] at e1; cases e1
        exact .inr q'
  · cases q : F' x with
    | none => rfl
    | some o' =>
      obtain ⟨o, e, nt⟩ := dm x hx
      rcases n x o' q with q' | q' | q'
      · rw [(cl x hx).1] at q'; cases q'
      · rw [e] at q'; cases q'
      · have e1 := h2 _ _ e
        rw [h1 _ _ q] at e1; cases e1
        exact absurd q' nt
/-- the heap grows, nothing new is told -/
theorem Ok.grow (I : Ok K mg R F H σ δ vs ds) (h2 : Same H H') : Ok K mg R F H' σ δ vs ds := I.ext (Same.refl _) (I.fh.trans h2) h2 fun _ _ e => .inl e
theorem Ok.push {d : D} {v : V} (I : Ok K mg R F H σ δ vs ds) (o : Own K mg F H d [] v) : Ok K mg R F H σ δ (v :: vs) (d :: ds) := by
  obtain ⟨fh, rh, sep, fp, f1, f2, nd, cl, p, a, b⟩ := I
  exact ⟨fh, rh, sep, fp, f1, f2, nd, cl, p, a, OwnL.cons (f1 := []) o b⟩
theorem Ok.pop {d : D} {v : V} (I : Ok K mg R F H σ δ (v :: vs) (d :: ds)) : Ok K mg R F H σ δ vs ds := by
  obtain ⟨fh, rh, sep, fp, f1, f2, nd, cl, p, a, b⟩ := I
  obtain ⟨g1, g2, q, c, e⟩ := b.uncons
  have p' : fp.Perm (g1 ++ (f1 ++ g2)) := by
    refine p.trans ((q.append_left f1).trans ?_)
    rw [← List.append_assoc, ← List.append_assoc]
    exact List.perm_append_comm.append_right g2
  have nd' := (p'.nodup_iff.mp nd)
  exact ⟨fh, rh, sep, f1 ++ g2, f1, g2, (List.nodup_append.mp nd').2.1, fun x hx => cl x (p'.mem_iff.mpr (List.mem_append_right _ hx)), .refl _, a, e⟩
theorem Ok.popN {es : List D} : ∀ {ws : List V}, ws.length = es.length → Ok K mg R F H σ δ (ws ++ vs) (es ++ ds) → Ok K mg R F H σ δ vs ds := by
  induction es with
  | nil => intro ws l I; cases ws with
    | nil => exact I
    | cons _ _ => simp at l
  | cons e es ih => intro ws l I; cases ws with
    | nil => simp at l
    | cons w ws => exact ih (by simpa using l) I.pop
theorem Ok.lens (I : Ok K mg R F H σ δ vs ds) : vs.length = ds.length := by
  obtain ⟨fh, rh, sep, fp, f1, f2, nd, cl, p, a, b⟩ := I
  exact b.len
theorem Ok.lenS (I : Ok K mg R F H σ δ vs ds) : σ.length = δ.length := by
  obtain ⟨fh, rh, sep, fp, f1, f2, nd, cl, p, a, b⟩ := I
  exact a.length
theorem Ok.swap {d e : D} {v u : V} (I : Ok K mg R F H σ δ (v :: u :: vs) (d :: e :: ds)) : Ok K mg R F H σ δ (u :: v :: vs) (e :: d :: ds) := by
  obtain ⟨fh, rh, sep, fp, f1, f2, nd, cl, p, a, b⟩ := I
  obtain ⟨g1, g2, q, c, b⟩ := b.uncons
  obtain ⟨g3, g4, q', c', b⟩ := b.uncons
  refine ⟨fh, rh, sep, fp, f1, f2, nd, cl, p, a, (OwnL.cons c' (OwnL.cons c b)).perm ?_⟩
  refine List.Perm.symm (q.trans ((q'.append_left g1).trans ?_))
  rw [← List.append_assoc, ← List.append_assoc]
  exact List.perm_append_comm.append_right g4
/-- the uppermost one, with the rest as a frame -/
theorem Ok.top {d : D} {v : V} (I : Ok K mg R F H σ δ (v :: vs) (d :: ds)) : ∃ f, Own K mg F H d f v ∧ f.Nodup ∧ (∀ a ∈ f, F a = none ∧ R a = none) := by
  obtain ⟨fh, rh, sep, fp, f1, f2, nd, cl, p, a, b⟩ := I
  obtain ⟨g1, g2, q, c, e⟩ := b.uncons
  have p' : fp.Perm (g1 ++ (f1 ++ g2)) := by
    refine p.trans ((q.append_left f1).trans ?_)
    rw [← List.append_assoc, ← List.append_assoc]
    exact List.perm_append_comm.append_right g2
  exact ⟨g1, c, (List.nodup_append.mp (p'.nodup_iff.mp nd)).1, fun x hx => cl x (p'.mem_iff.mpr (List.mem_append_left _ hx))⟩
/-- the uppermost one, opened: f is what it owns -/
theorem Ok.focus {d : D} {v : V} (I : Ok K mg R F H σ δ (v :: vs) (d :: ds)) : ∃ f, Own K mg F H d f v ∧ f.Nodup ∧ (∀ a ∈ f, F a = none ∧ R a = none) ∧
    (∀ {es : List D} {ws : List V}, OwnL K mg F H es f ws → Ok K mg R F H σ δ (ws ++ vs) (es ++ ds)) ∧
    (∀ {H' : Hp} {es : List D} {f' : List Addr} {ws : List V}, OwnL K mg F H' es f' ws → f'.Nodup → (∀ a ∈ f', a ∈ f ∨ H a = none) → (∀ a o, H a = some o → a ∉ f → H' a = some o) → Ok K mg R F H' σ δ (ws ++ vs) (es ++ ds)) := by
  obtain ⟨fh, rh, sep, fp, f1, f2, nd, cl, p, a, b⟩ := I
  obtain ⟨g1, g2, q, c, e⟩ := b.uncons
  have p' : fp.Perm (g1 ++ (f1 ++ g2)) := by
    refine p.trans ((q.append_left f1).trans ?_)
    rw [← List.append_assoc, ← List.append_assoc]
    exact List.perm_append_comm.append_right g2
  have nd' := List.nodup_append.mp (p'.nodup_iff.mp nd)
  have cl1 : ∀ x ∈ g1, F x = none ∧ R x = none := fun x hx => cl x (p'.mem_iff.mpr (List.mem_append_left _ hx))
  refine ⟨g1, c, nd'.1, cl1, fun {es ws} o => ⟨fh, rh, sep, fp, f1, f2, nd, cl, p, a, (o.app e).perm q.symm⟩, fun {H' es g' ws} o' n' fr kp => ?_⟩
  have dm : ∀ x ∈ f1 ++ g2, ∃ o, H x = some o := fun x hx => (List.mem_append.mp hx).elim (fun z => let ⟨o, e, _⟩ := a.dom x z; ⟨o, e⟩) (fun z => let ⟨o, e, _⟩ := OwnL.dom e x z; ⟨o, e⟩)
  have kr : ∀ x ∈ f1 ++ g2, H' x = H x := fun x hx => by
    obtain ⟨o, e⟩ := dm x hx
    rw [e]
    exact kp x o e fun z => nd'.2.2 x z x hx rfl
  refine ⟨fun x o q => kp x o (fh _ _ q) (fun z => by rw [(cl1 x z).1] at q; cases q), fun x o q => kp x o (rh _ _ q) (fun z => by rw [(cl1 x z).2] at q; cases q), sep, g' ++ (f1 ++ g2), f1, g' ++ g2, ?_, ?_, ?_, a.mono (Same.refl _) (fun x hx => kr x (List.mem_append_left _ hx)), OwnL.app o' (e.mono (Same.refl _) (fun x hx => kr x (List.mem_append_right _ hx)))⟩
  · refine List.nodup_append.mpr ⟨n', nd'.2.1, fun x hx y hy z => ?_⟩
    subst z
    rcases fr x hx with z | z
    · exact nd'.2.2 x z x hy rfl
    · obtain ⟨o, e⟩ := dm x hy
      rw [z] at e; cases e
  · intro x hx
    rcases List.mem_append.mp hx with hx | hx
    · rcases fr x hx with z | z
      · exact cl1 x z
      · constructor
        · cases q : F x with
          | none => rfl
          | some o => rw [fh _ _ q] at z; cases z
        · cases q : R x with
          | none => rfl
          | some o => rw [rh _ _ q] at z; cases z
    · exact cl x (p'.mem_iff.mpr (List.mem_append_right _ hx))
  · rw [← List.append_assoc, ← List.append_assoc]
    exact List.perm_append_comm.append_right g2
theorem OwnL.one {d : D} {f : List Addr} {v : V} (h : Own K mg F H d f v) : OwnL K mg F H [d] f [v] := by
  have := OwnL.cons h (OwnL.nil (K := K) (mg := mg) (F := F) (H := H))
  rwa [List.append_nil] at this
theorem OwnL.two {d e : D} {f g : List Addr} {v u : V} (h : Own K mg F H d f v) (h2 : Own K mg F H e g u) : OwnL K mg F H [d, e] (f ++ g) [v, u] := OwnL.cons h (OwnL.one h2)
/-- several at the top are one thing -/
theorem Ok.fold {es : List D} {ws : List V} {d : D} {v : V} (l : ws.length = es.length) (I : Ok K mg R F H σ δ (ws ++ vs) (es ++ ds)) (w : ∀ f, OwnL K mg F H es f ws → Own K mg F H d f v) : Ok K mg R F H σ δ (v :: vs) (d :: ds) := by
  obtain ⟨fh, rh, sep, fp, f1, f2, nd, cl, p, a, b⟩ := I
  obtain ⟨g1, g2, q, c, e⟩ := OwnL.unapp l b
  exact ⟨fh, rh, sep, fp, f1, f2, nd, cl, p, a, (OwnL.cons (w _ c) e).perm q.symm⟩
theorem Ok.unfold {es : List D} {ws : List V} {d : D} {v : V} (I : Ok K mg R F H σ δ (v :: vs) (d :: ds)) (w : ∀ f, Own K mg F H d f v → OwnL K mg F H es f ws) : Ok K mg R F H σ δ (ws ++ vs) (es ++ ds) := by
  obtain ⟨fh, rh, sep, fp, f1, f2, nd, cl, p, a, b⟩ := I
  obtain ⟨g1, g2, q, c, e⟩ := b.uncons
  exact ⟨fh, rh, sep, fp, f1, f2, nd, cl, p, a, ((w _ c).app e).perm q.symm⟩
theorem Ok.newT {es : List D} {ws : List V} {p : Addr} (l : ws.length = es.length) (I : Ok K mg R F H σ δ (ws ++ vs) (es ++ ds)) (hp : H p = none) : Ok K mg R (upd F p (.tup ws)) (upd H p (.tup ws)) σ δ (.ref p :: vs) (.tup es :: ds) := by
  have fp : F p = none := I.fh.free hp
  have s : Same F (upd F p (.tup ws)) := fun b o e => by rw [upd_ne (ne_of_none e fp)]; exact e
  have s2 : Same H (upd H p (.tup ws)) := fun b o e => by rw [upd_ne (ne_of_none e hp)]; exact e
  refine (I.ext s (fun b o e => ?_) s2 fun b o e => ?_).fold l fun f h => ?_
  · unfold upd at e ⊢
    split at e
    · rename_i h; rw [if_pos h]; exact e
    · rename_i h; rw [if_neg h]; exact I.fh _ _ e
  · unfold upd at e
    split at e
    · rename_i h; subst h; exact .inr (.inl hp)
    · exact .inl e
  · simp only [Own]
    exact ⟨p, ws, rfl, upd_same, h⟩
theorem Ok.newL {es : List D} {ws : List V} {p : Addr} (l : ws.length = es.length) (I : Ok K mg R F H σ δ (ws ++ vs) (es ++ ds)) (hp : H p = none) : Ok K mg R F (upd H p (.lst ws)) σ δ (.ref p :: vs) (.lst true es :: ds) := by
  have s2 : Same H (upd H p (.lst ws)) := fun b o e => by rw [upd_ne (ne_of_none e hp)]; exact e
  have fp : F p = none := I.fh.free hp
  have rp : R p = none := I.rh.free hp
  obtain ⟨fh, rh, sep, fp, f1, f2, nd, cl, pp, a, b⟩ := I
  obtain ⟨g1, g2, q, c, e⟩ := OwnL.unapp l b
  have dm : ∀ x ∈ fp, ∃ o, H x = some o := fun x hx => (List.mem_append.mp (pp.mem_iff.mp hx)).elim (fun z => let ⟨o, e, _⟩ := a.dom x z; ⟨o, e⟩) (fun z => let ⟨o, e, _⟩ := b.dom x z; ⟨o, e⟩)
  have kp : ∀ x ∈ fp, (upd H p (.lst ws)) x = H x := fun x hx => by
    obtain ⟨o, e⟩ := dm x hx
    rw [upd_ne (ne_of_none e hp)]
  have pn : p ∉ fp := fun z => by obtain ⟨o, e⟩ := dm p z; rw [hp] at e; cases e
  refine ⟨fh.trans s2, rh.trans s2, sep, p :: fp, f1, p :: f2, List.nodup_cons.mpr ⟨pn, nd⟩, fun x hx => ?_, (List.perm_middle.trans (pp.symm.cons p)).symm, a.mono (Same.refl _) (fun x hx => kp x (pp.mem_iff.mpr (List.mem_append_left _ hx))), ?_⟩
  · rcases List.mem_cons.mp hx with rfl | hx
    · exact ⟨‹F x = none›, rp⟩
    · exact cl x hx
  · have c' := c.mono (H' := upd H p (.lst ws)) (Same.refl F) (fun x hx => kp x (pp.mem_iff.mpr (List.mem_append_right _ (q.mem_iff.mpr (List.mem_append_left _ hx)))))
    have e' := e.mono (H' := upd H p (.lst ws)) (Same.refl F) (fun x hx => kp x (pp.mem_iff.mpr (List.mem_append_right _ (q.mem_iff.mpr (List.mem_append_right _ hx)))))
    refine (OwnL.cons (d := .lst true es) (f1 := p :: g1) (v := .ref p) ?_ e').perm (q.symm.cons p)
    simp only [Own]
    exact ⟨p, ws, g1, rfl, c', .inr ⟨trivial, .refl _, upd_same⟩⟩
/-- the uppermost is frozen -/
theorem Ok.freeze {d : D} {v : V} (I : Ok K mg R F H σ δ (v :: vs) (d :: ds)) : ∃ F', Same F F' ∧ Ok K mg R F' H σ δ (v :: vs) (strip d :: ds) := by
  obtain ⟨fh, rh, sep, fp, f1, f2, nd, cl, p, a, b⟩ := I
  obtain ⟨g1, g2, q, c, e⟩ := b.uncons
  have p' : fp.Perm (g1 ++ (f1 ++ g2)) := by
    refine p.trans ((q.append_left f1).trans ?_)
    rw [← List.append_assoc, ← List.append_assoc]
    exact List.perm_append_comm.append_right g2
  have nd' := List.nodup_append.mp (p'.nodup_iff.mp nd)
  have cl1 : ∀ x ∈ g1, F x = none ∧ R x = none := fun x hx => cl x (p'.mem_iff.mpr (List.mem_append_left _ hx))
  have s : Same F (frz F H g1) := frz_same fun x hx => (cl1 x hx).1
  refine ⟨frz F H g1, s, fun x o z => ?_, rh, fun x o z => ?_, f1 ++ g2, f1, g2, nd'.2.1, fun x hx => ⟨?_, (cl x (p'.mem_iff.mpr (List.mem_append_right _ hx))).2⟩, .refl _, a.mono s (fun _ _ => rfl), OwnL.cons (f1 := []) (c.frozen s (fun x hx => frz_at hx)) (e.mono s (fun _ _ => rfl))⟩
  · unfold frz at z
    split at z
    · exact z
    · exact fh _ _ z
  · unfold frz
    split
    · rename_i hx; rw [(cl1 x hx).2] at z; cases z
    · exact sep x o z
  · unfold frz
    rw [if_neg (fun z => nd'.2.2 x z x hx rfl)]
    exact (cl x (p'.mem_iff.mpr (List.mem_append_right _ hx))).1

/-! ### slots -/
theorem Ok.lend {i : Nat} {d : D} (I : Ok K mg R F H σ δ vs ds) (hd : δ[i]? = some d) (hn : d ≠ .un) : ∃ v, σ[i]? = some (some v) ∧ Ok K mg R F H σ (δ.set i .un) (v :: vs) (d :: ds) := by
  obtain ⟨fh, rh, sep, fp, f1, f2, nd, cl, p, a, b⟩ := I
  obtain ⟨ov, g1, g2, e, q, c, r⟩ := a.split hd
  rcases c with ⟨z, _⟩ | ⟨v, rfl, c⟩
  · exact absurd z hn
  · refine ⟨v, e, fh, rh, sep, fp, g2, g1 ++ f2, nd, cl, ?_, r, OwnL.cons c b⟩
    refine p.trans ((q.append_right f2).trans ?_)
    rw [← List.append_assoc]
    exact List.perm_append_comm.append_right f2
theorem Ok.unlend {i : Nat} {d : D} {v : V} (I : Ok K mg R F H σ δ (v :: vs) (d :: ds)) (hd : δ[i]? = some .un) (hv : σ[i]? = some (some v)) : Ok K mg R F H σ (δ.set i d) vs ds := by
  obtain ⟨fh, rh, sep, fp, f1, f2, nd, cl, p, a, b⟩ := I
  obtain ⟨g1, g2, q, c, e⟩ := b.uncons
  have j := a.join hd (ov := some v) (.inr ⟨v, rfl, c⟩)
  have e1 : σ.set i (some v) = σ := List.ext_getElem? fun k => by
    by_cases h : i = k
    · subst h
      rw [List.getElem?_set_self (List.getElem?_eq_some_iff.mp hv).1, hv]
    · rw [List.getElem?_set_ne h]
  rw [e1] at j
  refine ⟨fh, rh, sep, fp, g1 ++ f1, g2, nd, cl, ?_, j, e⟩
  refine p.trans ((q.append_left f1).trans ?_)
  rw [← List.append_assoc]
  exact List.perm_append_comm.append_right g2
theorem Ok.forget {i : Nat} (I : Ok K mg R F H σ δ vs ds) : Ok K mg R F H σ (δ.set i .un) vs ds := by
  cases hd : δ[i]? with
  | none => rw [List.set_eq_of_length_le (List.getElem?_eq_none_iff.mp hd)]; exact I
  | some d =>
    by_cases z : d = .un
    · subst z
      have e1 : δ.set i D.un = δ := List.ext_getElem? fun k => by
        by_cases h : i = k
        · subst h
          rw [List.getElem?_set_self (List.getElem?_eq_some_iff.mp hd).1, hd]
        · rw [List.getElem?_set_ne h]
      rw [e1]; exact I
    · obtain ⟨v, _, J⟩ := I.lend hd z
      exact J.pop
theorem set_set {α : Type} (l : List α) (i : Nat) (a b : α) : (l.set i a).set i b = l.set i b := List.set_set ..
theorem Ok.store {i : Nat} {d : D} {v : V} (I : Ok K mg R F H σ δ (v :: vs) (d :: ds)) (hi : i < δ.length) : Ok K mg R F H (σ.set i (some v)) (δ.set i d) vs ds := by
  have J := I.forget (i := i)
  obtain ⟨fh, rh, sep, fp, f1, f2, nd, cl, p, a, b⟩ := J
  obtain ⟨g1, g2, q, c, e⟩ := b.uncons
  have j := a.join (i := i) (by rw [List.getElem?_set_self hi]) (ov := some v) (.inr ⟨v, rfl, c⟩)
  rw [set_set] at j
  refine ⟨fh, rh, sep, fp, g1 ++ f1, g2, nd, cl, ?_, j, e⟩
  refine p.trans ((q.append_left f1).trans ?_)
  rw [← List.append_assoc]
  exact List.perm_append_comm.append_right g2
theorem Ok.dup {i : Nat} {d : D} (I : Ok K mg R F H σ δ vs ds) (hd : δ[i]? = some d) (hn : d ≠ .un) (hp : pure d = true) : ∃ v, σ[i]? = some (some v) ∧ Ok K mg R F H σ δ (v :: vs) (d :: ds) := by
  obtain ⟨fh, rh, sep, fp, f1, f2, nd, cl, p, a, b⟩ := id I
  obtain ⟨ov, g1, g2, e, q, c, r⟩ := a.split hd
  rcases c with ⟨z, _⟩ | ⟨v, rfl, c⟩
  · exact absurd z hn
  · have := c.pure hp
    subst this
    exact ⟨v, e, I.push c⟩
theorem Ok.freezeS {i : Nat} {d : D} (I : Ok K mg R F H σ δ vs ds) (hd : δ[i]? = some d) : ∃ F', Same F F' ∧ Ok K mg R F' H σ (δ.set i (strip d)) vs ds := by
  by_cases hn : d = .un
  · subst hn
    exact ⟨F, Same.refl _, I.forget⟩
  · obtain ⟨v, e, J⟩ := I.lend hd hn
    obtain ⟨F', s, J⟩ := J.freeze
    refine ⟨F', s, ?_⟩
    have := J.unlend (i := i) (by rw [List.getElem?_set_self (List.getElem?_eq_some_iff.mp hd).1]) e
    rwa [set_set] at this

/-! ### calls: what is at hand is handed over, all else is put beside -/
theorem Ok.call {es : List D} {ws : List V} (l : ws.length = es.length) (I : Ok K mg R F H σ δ (ws ++ vs) (es ++ ds)) :
    ∃ R', Ok K mg R' F H [] [] ws es ∧ ∀ {F' H' : Hp} {ws' : List V} {es' : List D}, Same F F' → Ok K mg R' F' H' [] [] ws' es' → Ok K mg R F' H' σ δ (ws' ++ vs) (es' ++ ds) := by
  obtain ⟨fh, rh, sep, fp, f1, f2, nd, cl, p, a, b⟩ := I
  obtain ⟨g1, g2, q, c, e⟩ := OwnL.unapp l b
  have p' : fp.Perm (g1 ++ (f1 ++ g2)) := by
    refine p.trans ((q.append_left f1).trans ?_)
    rw [← List.append_assoc, ← List.append_assoc]
    exact List.perm_append_comm.append_right g2
  have nd' := List.nodup_append.mp (p'.nodup_iff.mp nd)
  have dm : ∀ x ∈ f1 ++ g2, ∃ o, H x = some o ∧ ¬ isTup o := fun x hx => (List.mem_append.mp hx).elim (a.dom x) (e.dom x)
  have clr : ∀ x ∈ f1 ++ g2, F x = none ∧ R x = none := fun x hx => cl x (p'.mem_iff.mpr (List.mem_append_right _ hx))
  refine ⟨fun x => if x ∈ f1 ++ g2 then H x else R x, ⟨fh, fun x o z => ?_, fun x o z => ?_, g1, [], g1, nd'.1, fun x hx => ⟨(cl x (p'.mem_iff.mpr (List.mem_append_left _ hx))).1, ?_⟩, .refl _, ⟨rfl, rfl⟩, c⟩, fun {F' H' ws' es'} s J => ?_⟩
  · try dsimp only at z
    split at z
    · exact z
    · exact rh _ _ z
  · try dsimp only at z
    split at z
    · rename_i hx; exact .inl (clr x hx).1
    · exact sep x o z
  · try dsimp only
    rw [if_neg (fun z => nd'.2.2 x hx x z rfl)]
    exact (cl x (p'.mem_iff.mpr (List.mem_append_left _ hx))).2
  · obtain ⟨fh', rh', sep', fp', h1, h2, nd2, cl2, pp, a2, b2⟩ := J
    have h1n : h1 = [] := a2.1
    subst h1n
    have kr : ∀ x ∈ f1 ++ g2, H' x = H x := fun x hx => by
      obtain ⟨o, e, _⟩ := dm x hx
      rw [e]
      exact rh' x o (by show (if x ∈ f1 ++ g2 then H x else R x) = some o; rw [if_pos hx]; exact e)
    refine ⟨fh', fun x o z => ?_, fun x o z => ?_, fp' ++ (f1 ++ g2), f1, h2 ++ g2, ?_, fun x hx => ?_, ?_, a.mono s (fun x hx => kr x (List.mem_append_left _ hx)), b2.app (e.mono s (fun x hx => kr x (List.mem_append_right _ hx)))⟩
    · refine rh' x o ?_
      try dsimp only
      rw [if_neg (fun hx => by rw [(clr x hx).2] at z; cases z)]
      exact z
    · refine sep' x o ?_
      try dsimp only
      rw [if_neg (fun hx => by rw [(clr x hx).2] at z; cases z)]
      exact z
    · refine List.nodup_append.mpr ⟨nd2, nd'.2.1, fun x hx y hy z => ?_⟩
      subst z
      have r := (cl2 x hx).2
      try dsimp only at r
      rw [if_pos hy] at r
      obtain ⟨o, e, _⟩ := dm x hy
      rw [e] at r; cases r
    · rcases List.mem_append.mp hx with hx | hx
      · refine ⟨(cl2 x hx).1, ?_⟩
        have r := (cl2 x hx).2
        try dsimp only at r
        split at r
        · rename_i hy; exact (clr x hy).2
        · exact r
      · refine ⟨?_, (clr x hx).2⟩
        obtain ⟨o, e, nt⟩ := dm x hx
        rcases sep' x o (by show (if x ∈ f1 ++ g2 then H x else R x) = some o; rw [if_pos hx]; exact e) with z | z
        · exact z
        · exact absurd z nt
    · have pp' : fp'.Perm h2 := pp
      refine (pp'.append_right _).trans ?_
      rw [← List.append_assoc, ← List.append_assoc]
      exact List.perm_append_comm.append_right g2
end
end Dn

set_option Elab.async false
set_option linter.all false
set_option maxRecDepth 100000
set_option maxHeartbeats 4000000
namespace Dn
open PySem L2

/-! ### what a piece of text denotes: a function of the slots -/
inductive Rs (α : Type) where
  | ok (a : α) | er (c : Str) (ns : List Str) (es : List D) | bad
abbrev M (α : Type) := List D → Rs (α × List D)
def mret {α : Type} (a : α) : M α := fun δ => .ok (a, δ)
def mbad {α : Type} : M α := fun _ => .bad
def mbind {α β : Type} (f : M α) (g : α → M β) : M β := fun δ => match f δ with
  | .ok (a, δ') => g a δ'
  | .er c n e => .er c n e
  | .bad => .bad
def mopt {α : Type} : Option α → M α
  | some a => mret a
  | none => mbad
inductive Fl where
  | nx | bk | ct | rt (d : D)

section
variable (K : PySem.W.Frag) (mg : Mg)
def ExcD (F H : Hp) (dx : Option Addr) (ns : List Str) (es : List D) : Prop :=
  (ns = [] ∧ es = [] ∧ dx = none) ∨ ∃ a vs, dx = some a ∧ H a = some (.xd (ns.zip vs)) ∧ ns.length = vs.length ∧ OwnL K mg F H es [] vs
/-- the wish W takes this exception -/
def EW (R F : Hp) (W : WX) (σ : L2.St) (c : Str) (ns : List Str) (es : List D) : Prop :=
  ∀ (F' H' : Hp) (cls : Value) (dx : Option Addr) (σ' : L2.St), Same F F' → σ'.length = σ.length → Ok K mg R F' H' [] [] [] [] → mg c = some cls → ExcD K mg F' H' dx ns es → W cls dx σ' H'
def GoE (W : WX) (pf : Bool) (R F H : Hp) (σ : L2.St) (vs : List V) (ds : List D) (r : Rs (D × List D)) (Q : VK) : Prop := match r with
  | .ok (d, δ') => ∀ (F' H' : Hp) (v : V), Same F F' → (pf = true → Same H H') → Ok K mg R F' H' σ δ' (v :: vs) (d :: ds) → Q v H'
  | .er c ns es => EW K mg R F W σ c ns es
  | .bad => False
def Snd (W : WX) (pf : Bool) (t : TE) (f : M D) : Prop :=
  ∀ (R F H : Hp) (σ : L2.St) (δ : List D) (vs : List V) (ds : List D) (Q : VK), Ok K mg R F H σ δ vs ds → GoE K mg W pf R F H σ vs ds (f δ) Q → t σ H Q
def GoT (W : WX) (pf : Bool) (R F H : Hp) (σ : L2.St) (vs : List V) (ds : List D) (r : Rs (Bool × List D)) (Q : Bool → Hp → Prop) : Prop := match r with
  | .ok (b, δ') => ∀ (F' H' : Hp), Same F F' → (pf = true → Same H H') → Ok K mg R F' H' σ δ' vs ds → Q b H'
  | .er c ns es => EW K mg R F W σ c ns es
  | .bad => False
def SndT (W : WX) (pf : Bool) (t : TT) (f : M Bool) : Prop :=
  ∀ (R F H : Hp) (σ : L2.St) (δ : List D) (vs : List V) (ds : List D) (Q : Bool → Hp → Prop), Ok K mg R F H σ δ vs ds → GoT K mg W pf R F H σ vs ds (f δ) Q → t σ H Q
def GoA (W : WX) (pf : Bool) (R F H : Hp) (σ : L2.St) (vs : List V) (ds : List D) (r : Rs (List D × List D)) (Q : List V → Hp → Prop) : Prop := match r with
  | .ok (es, δ') => ∀ (F' H' : Hp) (ws : List V), Same F F' → (pf = true → Same H H') → ws.length = es.length → Ok K mg R F' H' σ δ' (ws ++ vs) (es ++ ds) → Q ws H'
  | .er c ns es => EW K mg R F W σ c ns es
  | .bad => False
/-- lends: which argument is a slot's own -/
def LendOk (σ : L2.St) (ls : List (Option Nat)) (ws : List V) : Prop := ∀ (j i : Nat), ls[j]? = some (some i) → ∃ v, ws[j]? = some v ∧ σ[i]? = some (some v)
def SndA (W : WX) (pf : Bool) (ls : List (Option Nat)) (t : TA) (f : M (List D)) : Prop :=
  ∀ (R F H : Hp) (σ : L2.St) (δ : List D) (vs : List V) (ds : List D) (Q : List V → Hp → Prop), Ok K mg R F H σ δ vs ds →
    GoA K mg W pf R F H σ vs ds (f δ) (fun ws H' => LendOk σ ls ws → Q ws H') → t σ H Q
def Fx (fx : List Bool) (σ σ' : L2.St) : Prop := σ'.length = σ.length ∧ ∀ i : Nat, fx[i]? = some true → σ'[i]? = σ[i]?
def GoS (W : WX) (fx : List Bool) (R F : Hp) (σ : L2.St) (vs : List V) (ds : List D) (r : Rs (Fl × List D)) (E : Ends) : Prop := match r with
  | .ok (.nx, δ') => ∀ (F' H' : Hp) (σ' : L2.St), Same F F' → Fx fx σ σ' → Ok K mg R F' H' σ' δ' vs ds → E.nx σ' H'
  | .ok (.bk, δ') => ∀ (F' H' : Hp) (σ' : L2.St), Same F F' → Fx fx σ σ' → Ok K mg R F' H' σ' δ' vs ds → E.bk σ' H'
  | .ok (.ct, δ') => ∀ (F' H' : Hp) (σ' : L2.St), Same F F' → Fx fx σ σ' → Ok K mg R F' H' σ' δ' vs ds → E.ct σ' H'
  | .ok (.rt d, δ') => ∀ (F' H' : Hp) (σ' : L2.St) (v : V), Same F F' → Fx fx σ σ' → Ok K mg R F' H' σ' δ' (v :: vs) (d :: ds) → E.rt v H'
  | .er c ns es => EW K mg R F W σ c ns es
  | .bad => False
def SndS (W : WX) (fx : List Bool) (t : TS) (f : M Fl) : Prop :=
  ∀ (R F H : Hp) (σ : L2.St) (δ : List D) (vs : List V) (ds : List D) (E : Ends), Ok K mg R F H σ δ vs ds → GoS K mg W fx R F σ vs ds (f δ) E → t E σ H
/-- what a for walks -/
structure ItOk (J : It) (xs : List D) (hv : List V) (hd : List D) : Prop where
  len : hv.length = hd.length
  go : ∀ (i : Nat) (R F H : Hp) (σ : L2.St) (δ : List D) (vs : List V) (ds : List D), i < xs.length → Ok K mg R F H σ δ (hv ++ vs) (hd ++ ds) → J.go i H
  stop : ∀ (i : Nat) (R F H : Hp) (σ : L2.St) (δ : List D) (vs : List V) (ds : List D), i = xs.length → Ok K mg R F H σ δ (hv ++ vs) (hd ++ ds) → J.stop i H
  yld : ∀ (i : Nat) (d : D) (x : V) (R F H H' : Hp) (σ : L2.St) (δ : List D) (vs : List V) (ds : List D), xs[i]? = some d → Ok K mg R F H σ δ (hv ++ vs) (hd ++ ds) → J.yld i H x H' →
    ∃ F', Same F F' ∧ Ok K mg R F' H' σ δ (x :: (hv ++ vs)) (d :: (hd ++ ds))
def GoI (W : WX) (R F H : Hp) (σ : L2.St) (vs : List V) (ds : List D) (r : Rs (List D × List D)) (Q : It → Hp → Prop) : Prop := match r with
  | .ok (xs, δ') => ∀ (F' H' : Hp) (J : It) (hv : List V) (hd : List D), Same F F' → ItOk K mg J xs hv hd → Ok K mg R F' H' σ δ' (hv ++ vs) (hd ++ ds) → Q J H'
  | .er c ns es => EW K mg R F W σ c ns es
  | .bad => False
def SndI (W : WX) (wi : TI) (f : M (List D)) : Prop :=
  ∀ (R F H : Hp) (σ : L2.St) (δ : List D) (vs : List V) (ds : List D) (Q : It → Hp → Prop), Ok K mg R F H σ δ vs ds → GoI K mg W R F H σ vs ds (f δ) Q → wi σ H Q
/-- a target: gs, the slots that it stores -/
def SndG (gs : List Nat) (tg : TG) (g : D → List D → Option (List D)) : Prop :=
  ∀ (R F H : Hp) (σ : L2.St) (δ δ' : List D) (v : V) (d : D) (vs : List V) (ds : List D) (Q : L2.St → Hp → Prop), Ok K mg R F H σ δ (v :: vs) (d :: ds) → g d δ = some δ' →
    (∀ (σ' : L2.St), σ'.length = σ.length → (∀ i : Nat, i ∉ gs → σ'[i]? = σ[i]?) → Ok K mg R F H σ' δ' vs ds → Q σ' H) → tg v σ H Q
end

structure SE (X : Cx) (W : WX) (pf : Bool) (e : Expr) (t : TE) (f : M D) : Prop where
  pe : PE X e t
  snd : Snd X.K X.mg W pf t f
structure ST (X : Cx) (W : WX) (pf : Bool) (e : Expr) (t : TT) (f : M Bool) : Prop where
  pe : PT X e t
  snd : SndT X.K X.mg W pf t f
structure SW (X : Cx) (W : WX) (pf : Bool) (e : Expr) (t : TT) (f : M Bool) : Prop where
  pe : PW X e t
  snd : SndT X.K X.mg W pf t f
structure SA (X : Cx) (W : WX) (pf : Bool) (ls : List (Option Nat)) (es : List Expr) (t : TA) (f : M (List D)) : Prop where
  pe : PA X es t
  snd : SndA X.K X.mg W pf ls t f
structure SI (X : Cx) (W : WX) (tg e : Expr) (t : TI) (f : M (List D)) : Prop where
  pe : PI X tg e t
  snd : SndI X.K X.mg W t f
structure SG (X : Cx) (gs : List Nat) (e : Expr) (t : TG) (g : D → List D → Option (List D)) : Prop where
  pe : PG X e t
  snd : SndG X.K X.mg gs t g
structure SS (X : Cx) (W : WX) (fx : List Bool) (st : Stmt) (t : TS) (f : M Fl) : Prop where
  pe : PS X st t
  snd : SndS X.K X.mg W fx t f
structure SSs (X : Cx) (W : WX) (fx : List Bool) (st : List Stmt) (t : TS) (f : M Fl) : Prop where
  pe : PSs X st t
  snd : SndS X.K X.mg W fx t f

section
variable {K : PySem.W.Frag} {mg : Mg} {W : WX} {pf pa pb : Bool} {R F F' H H' : Hp} {σ : L2.St} {δ : List D} {vs : List V} {ds : List D}
theorem EW.shift {c ns es} (h : EW K mg R F W σ c ns es) (s : Same F F') : EW K mg R F' W σ c ns es := fun F2 H2 cls dx σ' s2 l o m x => h F2 H2 cls dx σ' (s.trans s2) l o m x
theorem EW.slots {c ns es} {σ' : L2.St} (h : EW K mg R F W σ c ns es) (l : σ'.length = σ.length) : EW K mg R F W σ' c ns es := fun F2 H2 cls dx σ2 s2 l2 o m x => h F2 H2 cls dx σ2 s2 (l2.trans l) o m x
/-- an expression, then something upon its value -/
theorem Snd.then {t : TE} {f : M D} (h : Snd K mg W pa t f) (I : Ok K mg R F H σ δ vs ds) {Q : VK}
    (er : ∀ c ns es, f δ = .er c ns es → EW K mg R F W σ c ns es) (nb : f δ ≠ .bad)
    (k : ∀ d δ' F' H' v, f δ = .ok (d, δ') → Same F F' → (pa = true → Same H H') → Ok K mg R F' H' σ δ' (v :: vs) (d :: ds) → Q v H') : t σ H Q := by
  refine h R F H σ δ vs ds Q I ?_
  cases e : f δ with
  | bad => exact absurd e nb
  | er c ns es => exact er c ns es e
  | ok r => exact fun F' H' v s p J => k r.1 r.2 F' H' v e s p J
theorem SndT.then {t : TT} {f : M Bool} (h : SndT K mg W pa t f) (I : Ok K mg R F H σ δ vs ds) {Q : Bool → Hp → Prop}
    (er : ∀ c ns es, f δ = .er c ns es → EW K mg R F W σ c ns es) (nb : f δ ≠ .bad)
    (k : ∀ b δ' F' H', f δ = .ok (b, δ') → Same F F' → (pa = true → Same H H') → Ok K mg R F' H' σ δ' vs ds → Q b H') : t σ H Q := by
  refine h R F H σ δ vs ds Q I ?_
  cases e : f δ with
  | bad => exact absurd e nb
  | er c ns es => exact er c ns es e
  | ok r => exact fun F' H' s p J => k r.1 r.2 F' H' e s p J
theorem SndA.then {t : TA} {ls : List (Option Nat)} {f : M (List D)} (h : SndA K mg W pa ls t f) (I : Ok K mg R F H σ δ vs ds) {Q : List V → Hp → Prop}
    (er : ∀ c ns es, f δ = .er c ns es → EW K mg R F W σ c ns es) (nb : f δ ≠ .bad)
    (k : ∀ es δ' F' H' ws, f δ = .ok (es, δ') → Same F F' → (pa = true → Same H H') → ws.length = es.length → LendOk σ ls ws → Ok K mg R F' H' σ δ' (ws ++ vs) (es ++ ds) → Q ws H') : t σ H Q := by
  refine h R F H σ δ vs ds Q I ?_
  cases e : f δ with
  | bad => exact absurd e nb
  | er c ns es => exact er c ns es e
  | ok r => exact fun F' H' ws s p l J lo => k r.1 r.2 F' H' ws e s p l lo J
theorem SndI.then {t : TI} {f : M (List D)} (h : SndI K mg W t f) (I : Ok K mg R F H σ δ vs ds) {Q : It → Hp → Prop}
    (er : ∀ c ns es, f δ = .er c ns es → EW K mg R F W σ c ns es) (nb : f δ ≠ .bad)
    (k : ∀ xs δ' F' H' J hv hd, f δ = .ok (xs, δ') → Same F F' → ItOk K mg J xs hv hd → Ok K mg R F' H' σ δ' (hv ++ vs) (hd ++ ds) → Q J H') : t σ H Q := by
  refine h R F H σ δ vs ds Q I ?_
  cases e : f δ with
  | bad => exact absurd e nb
  | er c ns es => exact er c ns es e
  | ok r => exact fun F' H' J hv hd s it J2 => k r.1 r.2 F' H' J hv hd e s it J2
theorem SndS.then {t : TS} {fx : List Bool} {f : M Fl} (h : SndS K mg W fx t f) (I : Ok K mg R F H σ δ vs ds) {E : Ends}
    (er : ∀ c ns es, f δ = .er c ns es → EW K mg R F W σ c ns es) (nb : f δ ≠ .bad)
    (kn : ∀ δ' F' H' σ', f δ = .ok (.nx, δ') → Same F F' → Fx fx σ σ' → Ok K mg R F' H' σ' δ' vs ds → E.nx σ' H')
    (kb : ∀ δ' F' H' σ', f δ = .ok (.bk, δ') → Same F F' → Fx fx σ σ' → Ok K mg R F' H' σ' δ' vs ds → E.bk σ' H')
    (kc : ∀ δ' F' H' σ', f δ = .ok (.ct, δ') → Same F F' → Fx fx σ σ' → Ok K mg R F' H' σ' δ' vs ds → E.ct σ' H')
    (kr : ∀ d δ' F' H' σ' v, f δ = .ok (.rt d, δ') → Same F F' → Fx fx σ σ' → Ok K mg R F' H' σ' δ' (v :: vs) (d :: ds) → E.rt v H') : t E σ H := by
  refine h R F H σ δ vs ds E I ?_
  cases e : f δ with
  | bad => exact absurd e nb
  | er c ns es => exact er c ns es e
  | ok r =>
    obtain ⟨fl, δ'⟩ := r
    cases fl with
    | nx => exact fun F' H' σ' s p J => kn δ' F' H' σ' e s p J
    | bk => exact fun F' H' σ' s p J => kb δ' F' H' σ' e s p J
    | ct => exact fun F' H' σ' s p J => kc δ' F' H' σ' e s p J
    | rt d => exact fun F' H' σ' v s p J => kr d δ' F' H' σ' v e s p J
theorem Fx.refl {fx : List Bool} : Fx fx σ σ := ⟨rfl, fun _ _ => rfl⟩
theorem Fx.trans {fx : List Bool} {σ1 σ2 : L2.St} (a : Fx fx σ σ1) (b : Fx fx σ1 σ2) : Fx fx σ σ2 := ⟨b.1.trans a.1, fun i h => (b.2 i h).trans (a.2 i h)⟩
end

/-! ### the combinators of expressions -/
def eC (d : D) : M D := mret d
/-- a slot, read -/
def eV (i : Nat) : M D := fun δ => match δ[i]? with
  | some .un => .bad
  | some d => if pure d then .ok (d, δ) else .bad
  | none => .bad
/-- a slot, lent -/
def eL (i : Nat) : M D := fun δ => match δ[i]? with
  | some .un => .bad
  | some d => .ok (d, δ.set i .un)
  | none => .bad
def eBin (g : D → D → Option D) (fa fb : M D) : M D := mbind fa fun x => mbind fb fun y => mopt (g x y)
def eUn (g : D → Option D) (fa : M D) : M D := mbind fa fun x => mopt (g x)
def aNil : M (List D) := mret []
def aCons (fa : M D) (fr : M (List D)) : M (List D) := mbind fa fun x => mbind fr fun xs => mret (x :: xs)
def eBI (g : List D → Option D) (fa : M (List D)) : M D := mbind fa fun xs => mopt (g xs)
def asB : D → Option Bool
  | .bl b => some b
  | _ => none
def tV (fa : M D) : M Bool := mbind fa fun x => mopt (asB x)
def tAnd' (fa fb : M Bool) : M Bool := mbind fa fun x => if x = true then fb else mret false
def tOr' (fa fb : M Bool) : M Bool := mbind fa fun x => if x = true then mret true else fb
def tNot' (fa : M Bool) : M Bool := mbind fa fun x => mret (!x)
def eAnd (fa fb : M D) : M D := mbind fa fun x => mbind (mopt (asB x)) fun b => if b = true then fb else mret (.bl false)
def eOr (fa fb : M D) : M D := mbind fa fun x => mbind (mopt (asB x)) fun b => if b = true then mret (.bl true) else fb
def eNot (fa : M D) : M D := mbind fa fun x => mbind (mopt (asB x)) fun b => mret (.bl (!b))
def eIf (c : M Bool) (fa fb : M D) : M D := mbind c fun x => if x = true then fa else fb

section
variable {X : Cx} {W : WX} {pf pa pb pc : Bool} {a b c e : Expr} {ta tb te : TE} {fa fb fe : M D} {pos : Pos}

theorem se_of {t : TE} {f : M D} (pe : PE X e t) (snd : Snd X.K X.mg W pf t f) : SE X W pf e t f := ⟨pe, snd⟩
/-- a constant -/
theorem snd_c {K : PySem.W.Frag} {mg : Mg} {d : D} {v : V} (o : ∀ F H, Own K mg F H d [] v) : Snd K mg W true (tC v) (eC d) := fun R F H σ δ vs ds Q I g =>
  g F H v (Same.refl _) (fun _ => Same.refl _) (I.push (o F H))
theorem se_int {i : Int} {j} : SE X W true (.Constant (.int i) j pos) (tC (.int i)) (eC (.int i)) := ⟨pe_int, snd_c fun F H => by simp only [Own]; exact ⟨trivial, trivial⟩⟩
theorem se_bl {i : Bool} {j} : SE X W true (.Constant (.bool i) j pos) (tC (.bl i)) (eC (.bl i)) := ⟨pe_bl, snd_c fun F H => by simp only [Own]; exact ⟨trivial, trivial⟩⟩
theorem se_non {j} : SE X W true (.Constant .none j pos) (tC .non) (eC .non) := ⟨pe_non, snd_c fun F H => by simp only [Own]; exact ⟨trivial, trivial⟩⟩
theorem se_str {x : Str} {j} : SE X W true (.Constant (.str x) j pos) (tC (.str x)) (eC (.str x)) := ⟨pe_str, snd_c fun F H => by simp only [Own]; exact ⟨trivial, trivial⟩⟩
theorem snd_v {K : PySem.W.Frag} {mg : Mg} {i : Nat} : Snd K mg W true (tVar i) (eV i) := fun R F H σ δ vs ds Q I g => by
  unfold eV at g
  cases e : δ[i]? with
  | none => rw [e] at g; exact g.elim
  | some d =>
    rw [e] at g
    by_cases hn : d = .un
    · subst hn; exact g.elim
    · have g' : GoE K mg W true R F H σ vs ds (if pure d then .ok (d, δ) else .bad) Q := by
        cases d <;> first | exact absurd rfl hn | exact g
      cases hp : pure d with
      | false => rw [hp] at g'; exact g'.elim
      | true =>
        rw [hp] at g'
        obtain ⟨v, e1, J⟩ := I.dup e hn hp
        exact ⟨v, e1, g' F H v (Same.refl _) (fun _ => Same.refl _) J⟩
theorem se_v (i : Nat) {x : Str} (hN : X.N[i]? = some x := by rfl) (hv : Vis X.env.scope x := by first | exact Or.inl rfl | exact Or.inr (Or.inl rfl) | exact Or.inr (Or.inr rfl)) (hd : (x == ("__debug__" : Str)) = false := by decide)
    (hcd : (x == ("__classdict__" : Str)) = false := by decide) : SE X W true (.Name x pos) (tVar i) (eV i) := ⟨pe_var hN hv hd hcd, snd_v⟩
/-- a module's name, as a value -/
theorem se_glob {x : Str} {v : V} {u : Value} {d : D} (hg : Gl X x) (hm : X.mg x = some u) (r : RelV v u) (o : ∀ F H, Own X.K X.mg F H d [] v) (hd : (x == ("__debug__" : Str)) = false := by decide) : SE X W true (.Name x pos) (tC v) (eC d) :=
  ⟨pe_glob hg hm r hd, snd_c o⟩

/-- by values -/
def Op2 (K : PySem.W.Frag) (mg : Mg) (r : R2) (g : D → D → Option D) : Prop :=
  ∀ (R F H : Hp) (σ : L2.St) (δ : List D) (vs : List V) (ds : List D) (x y : V) (dx dy d : D) (Q : VK), Ok K mg R F H σ δ (y :: x :: vs) (dy :: dx :: ds) → g dx dy = some d →
    (∀ (F' H' : Hp) (v : V), Same F F' → Same H H' → Ok K mg R F' H' σ δ (v :: vs) (d :: ds) → Q v H') → r x y H Q
def Op1 (K : PySem.W.Frag) (mg : Mg) (r : V → Hp → VK → Prop) (g : D → Option D) : Prop :=
  ∀ (R F H : Hp) (σ : L2.St) (δ : List D) (vs : List V) (ds : List D) (x : V) (dx d : D) (Q : VK), Ok K mg R F H σ δ (x :: vs) (dx :: ds) → g dx = some d →
    (∀ (F' H' : Hp) (v : V), Same F F' → Same H H' → Ok K mg R F' H' σ δ (v :: vs) (d :: ds) → Q v H') → r x H Q
def OpN (K : PySem.W.Frag) (mg : Mg) (r : List V → Hp → VK → Prop) (g : List D → Option D) : Prop :=
  ∀ (R F H : Hp) (σ : L2.St) (δ : List D) (vs : List V) (ds : List D) (ws : List V) (es : List D) (d : D) (Q : VK), ws.length = es.length → Ok K mg R F H σ δ (ws ++ vs) (es ++ ds) → g es = some d →
    (∀ (F' H' : Hp) (v : V), Same F F' → Same H H' → Ok K mg R F' H' σ δ (v :: vs) (d :: ds) → Q v H') → r ws H Q
theorem snd_op {K : PySem.W.Frag} {mg : Mg} {r : R2} {g : D → D → Option D} (o : Op2 K mg r g) (ha : Snd K mg W pa ta fa) (hb : Snd K mg W pb tb fb) : Snd K mg W (pa && pb) (tOp r ta tb) (eBin g fa fb) := fun R F H σ δ vs ds Q I q => by
  unfold eBin mbind at q
  refine ha.then I (fun c ns es e => by rw [e] at q; exact q) (fun e => by rw [e] at q; exact q) fun d δ1 F1 H1 v e s1 p1 I1 => ?_
  rw [e] at q
  dsimp only at q
  refine hb.then I1 (fun c ns es e => by rw [e] at q; exact q.shift s1) (fun e => by rw [e] at q; exact q) fun d2 δ2 F2 H2 v2 e2 s2 p2 I2 => ?_
  rw [e2] at q
  dsimp only at q
  cases e3 : g d d2 with
  | none => rw [e3] at q; exact q.elim
  | some d3 =>
    rw [e3] at q
    refine o R F2 H2 σ δ2 vs ds v v2 d d2 d3 Q I2 e3 fun F3 H3 v3 s3 k3 I3 => ?_
    refine q F3 H3 v3 (s1.trans (s2.trans s3)) (fun hp => ?_) I3
    rw [Bool.and_eq_true] at hp
    exact (p1 hp.1).trans ((p2 hp.2).trans k3)
theorem se_op {op : Operator} {r : R2} {g : D → D → Option D} (ho : OpR X (binaryOp op) r) (o : Op2 X.K X.mg r g) (ha : SE X W pa a ta fa) (hb : SE X W pb b tb fb) : SE X W (pa && pb) (.BinOp a op b pos) (tOp r ta tb) (eBin g fa fb) :=
  ⟨pe_op ho ha.pe hb.pe, snd_op o ha.snd hb.snd⟩
theorem se_cmp {op : CmpOp} {r : R2} {g : D → D → Option D} (ho : OpR X (compareOp op) r) (o : Op2 X.K X.mg r g) (ha : SE X W pa a ta fa) (hb : SE X W pb b tb fb) (hm : behindInMarks op b = false := by first | exact nomark _ | rfl) : SE X W (pa && pb) (.Compare a [op] [b] pos) (tOp r ta tb) (eBin g fa fb) :=
  ⟨pe_cmpR ho ha.pe hb.pe hm, snd_op o ha.snd hb.snd⟩
theorem snd_un {K : PySem.W.Frag} {mg : Mg} {r : V → Hp → VK → Prop} {g : D → Option D} (o : Op1 K mg r g) (ha : Snd K mg W pa ta fa) : Snd K mg W pa (tUn r ta) (eUn g fa) := fun R F H σ δ vs ds Q I q => by
  unfold eUn mbind at q
  refine ha.then I (fun c ns es e => by rw [e] at q; exact q) (fun e => by rw [e] at q; exact q) fun d δ1 F1 H1 v e s1 p1 I1 => ?_
  rw [e] at q
  dsimp only at q
  cases e3 : g d with
  | none => rw [e3] at q; exact q.elim
  | some d3 =>
    rw [e3] at q
    refine o R F1 H1 σ δ1 vs ds v d d3 Q I1 e3 fun F3 H3 v3 s3 k3 I3 => q F3 H3 v3 (s1.trans s3) (fun hp => (p1 hp).trans k3) I3
theorem se_un {op : UnaryOp} {r : V → Hp → VK → Prop} {g : D → Option D} (ho : UnR X (unaryOp op) r) (o : Op1 X.K X.mg r g) (ha : SE X W pa a ta fa) : SE X W pa (.UnaryOp op a pos) (tUn r ta) (eUn g fa) :=
  ⟨pe_un ho ha.pe, snd_un o ha.snd⟩

/-! ### arguments, displays -/
variable {es : List Expr} {tr : TA} {fr : M (List D)} {ls : List (Option Nat)}
theorem sa_nil : SA X W true [] [] tNil aNil := ⟨pa_nil, fun R F H σ δ vs ds Q I q => q F H [] (Same.refl _) (fun _ => Same.refl _) rfl I (fun j i h => by simp at h)⟩
theorem snd_cons {K : PySem.W.Frag} {mg : Mg} {l0 : Option Nat} (ha : Snd K mg W pa ta fa) (hr : SndA K mg W pb ls tr fr)
    (hl : ∀ i, l0 = some i → ∃ (e : ta = tVar i), True) : SndA K mg W (pa && pb) (l0 :: ls) (tCons ta tr) (aCons fa fr) := fun R F H σ δ vs ds Q I q => by
  unfold aCons mbind at q
  have key : ∀ (Q' : VK), (ta σ H fun x H1 => (∀ i, l0 = some i → σ[i]? = some (some x)) → Q' x H1) → ta σ H Q' := fun Q' h => by
    cases l0 with
    | none =>
      have e1 : (fun (x : V) (H1 : Hp) => (∀ i, (none : Option Nat) = some i → σ[i]? = some (some x)) → Q' x H1) = Q' := by
        funext x H1
        exact propext ⟨fun z => z (fun i e => nomatch e), fun z _ => z⟩
      rw [e1] at h; exact h
    | some i =>
      obtain ⟨e, _⟩ := hl i rfl
      subst e
      obtain ⟨v, e1, h⟩ := h
      exact ⟨v, e1, h fun j z => by cases z; exact e1⟩
  refine key _ ?_
  refine ha.then I (fun c ns es e => by rw [e] at q; exact q) (fun e => by rw [e] at q; exact q) fun d δ1 F1 H1 v e s1 p1 I1 lv => ?_
  rw [e] at q
  dsimp only at q
  refine hr.then I1 (fun c ns es e => by rw [e] at q; exact q.shift s1) (fun e => by rw [e] at q; exact q) fun es2 δ2 F2 H2 ws e2 s2 p2 l2 lo I2 => ?_
  rw [e2] at q
  refine q F2 H2 (v :: ws) (s1.trans s2) (fun hp => ?_) (by simp [l2]) ?_ (fun j i h => ?_)
  · rw [Bool.and_eq_true] at hp
    exact (p1 hp.1).trans (p2 hp.2)
  · -- (ws ++ v :: vs) to (v :: ws ++ vs)
    obtain ⟨fh, rh, sep, fp, f1, f2, nd, cl, p, aa, bb⟩ := I2
    obtain ⟨g1, g2, q1, c1, e1⟩ := OwnL.unapp l2 bb
    obtain ⟨g3, g4, q3, c3, e3⟩ := e1.uncons
    refine ⟨fh, rh, sep, fp, f1, f2, nd, cl, p, aa, ((OwnL.cons c3 c1).app e3).perm ?_⟩
    refine List.Perm.symm (q1.trans ((q3.append_left g1).trans ?_))
    rw [← List.append_assoc]
    exact List.perm_append_comm.append_right g4
  · cases j with
    | zero =>
      simp at h
      exact ⟨v, rfl, lv i h⟩
    | succ j => exact lo j i (by simpa using h)
theorem sa_cons (ha : SE X W pa e te fe) (hr : SA X W pb ls es tr fr) (hs : starEach (e :: es) X.env = (false, eval e X.env) :: starEach es X.env := by rfl) : SA X W (pa && pb) (none :: ls) (e :: es) (tCons te tr) (aCons fe fr) :=
  ⟨pa_cons ha.pe hr.pe hs, snd_cons ha.snd hr.snd (fun i h => nomatch h)⟩
/-- an argument that is lent: a name of an own slot -/
theorem snd_l {K : PySem.W.Frag} {mg : Mg} {i : Nat} : Snd K mg W false (tVar i) (eL i) := fun R F H σ δ vs ds Q I g => by
  unfold eL at g
  cases e : δ[i]? with
  | none => rw [e] at g; exact g.elim
  | some d =>
    rw [e] at g
    by_cases hn : d = .un
    · subst hn; exact g.elim
    · have g' : GoE K mg W false R F H σ vs ds (.ok (d, δ.set i .un)) Q := by
        cases d <;> first | exact absurd rfl hn | exact g
      obtain ⟨v, e1, J⟩ := I.lend e hn
      exact ⟨v, e1, g' F H v (Same.refl _) (fun z => nomatch z) J⟩
theorem sa_lend (i : Nat) {x : Str} (hr : SA X W pb ls es tr fr) (hN : X.N[i]? = some x := by rfl) (hv : Vis X.env.scope x := by first | exact Or.inl rfl | exact Or.inr (Or.inl rfl) | exact Or.inr (Or.inr rfl)) (hd : (x == ("__debug__" : Str)) = false := by decide)
    (hcd : (x == ("__classdict__" : Str)) = false := by decide) (hs : starEach (.Name x pos :: es) X.env = (false, eval (.Name x pos) X.env) :: starEach es X.env := by rfl) :
    SA X W (false && pb) (some i :: ls) (.Name x pos :: es) (tCons (tVar i) tr) (aCons (eL i) fr) :=
  ⟨pa_cons (pe_var hN hv hd hcd) hr.pe hs, snd_cons snd_l hr.snd (fun j h => by cases h; exact ⟨rfl, trivial⟩)⟩
def eTup (fr : M (List D)) : M D := mbind fr fun xs => mopt (if xs.length ≤ 100000 then some (.tup xs) else none)
def eLst (fr : M (List D)) : M D := mbind fr fun xs => mopt (if xs.length ≤ 100000 then some (.lst true xs) else none)
theorem sz_of {n : Nat} (h : n ≤ 100000) : n ≤ sizeLine := Nat.le_trans h (by decide)
theorem sz_lt {n : Nat} (h : n < 100000) : n < sizeLine := Nat.lt_of_lt_of_le h (by decide)
theorem snd_tup {K : PySem.W.Frag} {mg : Mg} (h : SndA K mg W pa ls tr fr) : Snd K mg W pa (tTup tr) (eTup fr) := fun R F H σ δ vs ds Q I q => by
  unfold eTup mbind at q
  refine h.then I (fun c ns es e => by rw [e] at q; exact q) (fun e => by rw [e] at q; exact q) fun es δ1 F1 H1 ws e s1 p1 l lo I1 => ?_
  rw [e] at q
  dsimp only at q
  by_cases z : es.length ≤ 100000
  · rw [if_pos z] at q
    refine ⟨by rw [l]; exact sz_of z, fun p hp => q _ _ _ ?_ (fun z => (p1 z).trans ?_) (I1.newT l hp)⟩
    · exact s1.trans fun b o e => by rw [upd_ne (ne_of_none e (I1.fh.free hp))]; exact e
    · exact fun b o e => by rw [upd_ne (ne_of_none e hp)]; exact e
  · rw [if_neg z] at q; exact q.elim
theorem snd_lst {K : PySem.W.Frag} {mg : Mg} (h : SndA K mg W pa ls tr fr) : Snd K mg W pa (tLst tr) (eLst fr) := fun R F H σ δ vs ds Q I q => by
  unfold eLst mbind at q
  refine h.then I (fun c ns es e => by rw [e] at q; exact q) (fun e => by rw [e] at q; exact q) fun es δ1 F1 H1 ws e s1 p1 l lo I1 => ?_
  rw [e] at q
  dsimp only at q
  by_cases z : es.length ≤ 100000
  · rw [if_pos z] at q
    refine ⟨by rw [l]; exact sz_of z, fun p hp => q _ _ _ s1 (fun z => (p1 z).trans ?_) (I1.newL l hp)⟩
    exact fun b o e => by rw [upd_ne (ne_of_none e hp)]; exact e
  · rw [if_neg z] at q; exact q.elim
theorem se_tup {x1} (h : SA X W pa ls es tr fr) : SE X W pa (.Tuple es x1 pos) (tTup tr) (eTup fr) := ⟨pe_tup h.pe, snd_tup h.snd⟩
theorem se_lst (h : SA X W pa ls es tr fr) : SE X W pa (.List es pos) (tLst tr) (eLst fr) := ⟨pe_lst h.pe, snd_lst h.snd⟩
/-- a built-in function, class, called -/
theorem snd_CB {K : PySem.W.Frag} {mg : Mg} {r : List V → Hp → VK → Prop} {g : List D → Option D} (o : OpN K mg r g) (h : SndA K mg W pa ls tr fr) : Snd K mg W pa (tCB r tr) (eBI g fr) := fun R F H σ δ vs ds Q I q => by
  unfold eBI mbind at q
  refine h.then I (fun c ns es e => by rw [e] at q; exact q) (fun e => by rw [e] at q; exact q) fun es δ1 F1 H1 ws e s1 p1 l lo I1 => ?_
  rw [e] at q
  dsimp only at q
  cases e3 : g es with
  | none => rw [e3] at q; exact q.elim
  | some d3 =>
    rw [e3] at q
    exact o R F1 H1 σ δ1 vs ds ws es d3 Q l I1 e3 fun F3 H3 v3 s3 k3 I3 => q F3 H3 v3 (s1.trans s3) (fun hp => (p1 hp).trans k3) I3
theorem se_callB {x : Str} {p : Pos} {id : String} {r : List V → Hp → VK → Prop} {g : List D → Option D} (hc : CallR X (.builtin id) r) (o : OpN X.K X.mg r g) (hg : Gl X x) (hm : X.mg x = none) (hv : bootBuiltins x = some (.builtin id)) (ha : SA X W pa ls (e :: es) tr fr) (hn : x ≠ "__name__" := by decide) (hdb : (x == ("__debug__" : Str)) = false := by decide)
    (he : starEach (e :: es) X.env = (false, eval e X.env) :: starEach es X.env := by rfl) (hpl : (backTo pos (starEach es X.env)).any (·.1) = false := by rfl) : SE X W pa (.Call (.Name x p) (e :: es) [] pos) (tCB r tr) (eBI g fr) :=
  ⟨pe_callB hc hg hm hv ha.pe hn hdb he hpl, snd_CB o ha.snd⟩
theorem se_callTy {x : Str} {p : Pos} {T : String} {r : List V → Hp → VK → Prop} {g : List D → Option D} (hc : CallR X (.type T) r) (o : OpN X.K X.mg r g) (hg : Gl X x) (hm : X.mg x = none) (hv : bootBuiltins x = some (.type T)) (ha : SA X W pa ls (e :: es) tr fr) (hn : x ≠ "__name__" := by decide) (hdb : (x == ("__debug__" : Str)) = false := by decide)
    (he : starEach (e :: es) X.env = (false, eval e X.env) :: starEach es X.env := by rfl) (hpl : (backTo pos (starEach es X.env)).any (·.1) = false := by rfl) : SE X W pa (.Call (.Name x p) (e :: es) [] pos) (tCB r tr) (eBI g fr) :=
  ⟨pe_callTy hc hg hm hv ha.pe hn hdb he hpl, snd_CB o ha.snd⟩

/-! ### tests -/
variable {t1 t2 : TT} {f1 f2 : M Bool}
theorem snd_tv {K : PySem.W.Frag} {mg : Mg} (ha : Snd K mg W pa ta fa) : SndT K mg W pa (fun σ H Q => ta σ H fun x H1 => ∃ c, x = .bl c ∧ Q c H1) (tV fa) := fun R F H σ δ vs ds Q I q => by
  unfold tV mbind at q
  refine ha.then I (fun c ns es e => by rw [e] at q; exact q) (fun e => by rw [e] at q; exact q) fun d δ1 F1 H1 v e s1 p1 I1 => ?_
  rw [e] at q
  dsimp only at q
  cases d with
  | bl b =>
    obtain ⟨f, o, _⟩ := I1.top
    simp only [Own] at o
    exact ⟨b, o.2, q F1 H1 s1 p1 I1.pop⟩
  | _ => exact q.elim
theorem st_val (ha : SE X W pa e ta fa) (he : ∀ whole, isTrue e X.env whole = (do let v ← whole; standAt e.pos; holding [v] (truthy v)) := by intro _; rfl) : ST X W pa e (tB ta) (tV fa) := ⟨pt_val ha.pe he, snd_tv ha.snd⟩
theorem st_cmp {op : CmpOp} {r : R2} {g : D → D → Option D} (ho : OpR X (compareOp op) r) (o : Op2 X.K X.mg r g) (ha : SE X W pa a ta fa) (hb : SE X W pb b tb fb) (hm : behindInMarks op b = false := by first | exact nomark _ | rfl) : ST X W (pa && pb) (.Compare a [op] [b] pos) (tTest (tOp r ta tb)) (tV (eBin g fa fb)) :=
  ⟨pt_cmpR ho ha.pe hb.pe hm, snd_tv (snd_op o ha.snd hb.snd)⟩
theorem sw_and1 (h : ST X W pa a t1 f1) : SW X W pa (.BoolOp .And [a] pos) t1 f1 := ⟨pw_and1 h.pe, h.snd⟩
theorem sw_or1 (h : ST X W pa a t1 f1) : SW X W pa (.BoolOp .Or [a] pos) t1 f1 := ⟨pw_or1 h.pe, h.snd⟩
theorem sw_and {rest : List Expr} (h : ST X W pa a t1 f1) (h2 : SW X W pb (.BoolOp .And (b :: rest) pos) t2 f2) : SW X W (pa && pb) (.BoolOp .And (a :: b :: rest) pos) (tAnd t1 t2) (tAnd' f1 f2) := ⟨pw_and h.pe h2.pe, fun R F H σ δ vs ds Q I q => by
  unfold tAnd' mbind at q
  refine h.snd.then I (fun c ns es e => by rw [e] at q; exact q) (fun e => by rw [e] at q; exact q) fun d δ1 F1 H1 e s1 p1 I1 => ?_
  rw [e] at q
  dsimp only at q
  cases d with
  | true =>
    show t2 σ H1 Q
    rw [if_pos rfl] at q
    refine h2.snd.then I1 (fun c ns es e => by rw [e] at q; exact q.shift s1) (fun e => by rw [e] at q; exact q) fun d δ2 F2 H2 e s2 p2 I2 => ?_
    rw [e] at q
    exact q F2 H2 (s1.trans s2) (fun hp => by rw [Bool.and_eq_true] at hp; exact (p1 hp.1).trans (p2 hp.2)) I2
  | false => exact q F1 H1 s1 (fun hp => by rw [Bool.and_eq_true] at hp; exact p1 hp.1) I1⟩
theorem sw_or {rest : List Expr} (h : ST X W pa a t1 f1) (h2 : SW X W pb (.BoolOp .Or (b :: rest) pos) t2 f2) : SW X W (pa && pb) (.BoolOp .Or (a :: b :: rest) pos) (tOr t1 t2) (tOr' f1 f2) := ⟨pw_or h.pe h2.pe, fun R F H σ δ vs ds Q I q => by
  unfold tOr' mbind at q
  refine h.snd.then I (fun c ns es e => by rw [e] at q; exact q) (fun e => by rw [e] at q; exact q) fun d δ1 F1 H1 e s1 p1 I1 => ?_
  rw [e] at q
  dsimp only at q
  cases d with
  | false =>
    show t2 σ H1 Q
    rw [if_neg (by decide)] at q
    refine h2.snd.then I1 (fun c ns es e => by rw [e] at q; exact q.shift s1) (fun e => by rw [e] at q; exact q) fun d δ2 F2 H2 e s2 p2 I2 => ?_
    rw [e] at q
    exact q F2 H2 (s1.trans s2) (fun hp => by rw [Bool.and_eq_true] at hp; exact (p1 hp.1).trans (p2 hp.2)) I2
  | true => exact q F1 H1 s1 (fun hp => by rw [Bool.and_eq_true] at hp; exact p1 hp.1) I1⟩
theorem SW.st (h : SW X W pa e t1 f1) : ST X W pa e t1 f1 := ⟨h.pe.pt, h.snd⟩
theorem st_not (h : ST X W pa a t1 f1) : ST X W pa (.UnaryOp .Not a pos) (tNot t1) (tNot' f1) := ⟨pt_not h.pe, fun R F H σ δ vs ds Q I q => by
  unfold tNot' mbind at q
  refine h.snd.then I (fun c ns es e => by rw [e] at q; exact q) (fun e => by rw [e] at q; exact q) fun d δ1 F1 H1 e s1 p1 I1 => ?_
  rw [e] at q
  exact q F1 H1 s1 p1 I1⟩
theorem se_ifExp (hc : ST X W pc c t1 f1) (ha : SE X W pa a ta fa) (hb : SE X W pb b tb fb) : SE X W (pc && (pa && pb)) (.IfExp c a b pos) (tIf t1 ta tb) (eIf f1 fa fb) := ⟨pe_ifExp hc.pe ha.pe hb.pe, fun R F H σ δ vs ds Q I q => by
  unfold eIf mbind at q
  refine hc.snd.then I (fun c ns es e => by rw [e] at q; exact q) (fun e => by rw [e] at q; exact q) fun d δ1 F1 H1 e s1 p1 I1 => ?_
  rw [e] at q
  dsimp only at q
  cases d with
  | true =>
    show ta σ H1 Q
    rw [if_pos rfl] at q
    refine ha.snd.then I1 (fun c ns es e => by rw [e] at q; exact q.shift s1) (fun e => by rw [e] at q; exact q) fun d δ2 F2 H2 v e s2 p2 I2 => ?_
    rw [e] at q
    exact q F2 H2 v (s1.trans s2) (fun hp => by rw [Bool.and_eq_true, Bool.and_eq_true] at hp; exact (p1 hp.1).trans (p2 hp.2.1)) I2
  | false =>
    show tb σ H1 Q
    rw [if_neg (by decide)] at q
    refine hb.snd.then I1 (fun c ns es e => by rw [e] at q; exact q.shift s1) (fun e => by rw [e] at q; exact q) fun d δ2 F2 H2 v e s2 p2 I2 => ?_
    rw [e] at q
    exact q F2 H2 v (s1.trans s2) (fun hp => by rw [Bool.and_eq_true, Bool.and_eq_true] at hp; exact (p1 hp.1).trans (p2 hp.2.2)) I2⟩
theorem own_bl {K : PySem.W.Frag} {mg : Mg} {R F H : Hp} {σ : L2.St} {δ : List D} {vs : List V} {ds : List D} {v : V} {b : Bool} (I : Ok K mg R F H σ δ (v :: vs) (.bl b :: ds)) : v = .bl b := by
  obtain ⟨f, o, _⟩ := I.top
  simp only [Own] at o
  exact o.2
theorem own_int {K : PySem.W.Frag} {mg : Mg} {R F H : Hp} {σ : L2.St} {δ : List D} {vs : List V} {ds : List D} {v : V} {b : Int} (I : Ok K mg R F H σ δ (v :: vs) (.int b :: ds)) : v = .int b := by
  obtain ⟨f, o, _⟩ := I.top
  simp only [Own] at o
  exact o.2
theorem own_str {K : PySem.W.Frag} {mg : Mg} {R F H : Hp} {σ : L2.St} {δ : List D} {vs : List V} {ds : List D} {v : V} {b : Str} (I : Ok K mg R F H σ δ (v :: vs) (.str b :: ds)) : v = .str b := by
  obtain ⟨f, o, _⟩ := I.top
  simp only [Own] at o
  exact o.2
theorem own_non {K : PySem.W.Frag} {mg : Mg} {R F H : Hp} {σ : L2.St} {δ : List D} {vs : List V} {ds : List D} {v : V} (I : Ok K mg R F H σ δ (v :: vs) (.non :: ds)) : v = .non := by
  obtain ⟨f, o, _⟩ := I.top
  simp only [Own] at o
  exact o.2
theorem Ok.pushB {K : PySem.W.Frag} {mg : Mg} {R F H : Hp} {σ : L2.St} {δ : List D} {vs : List V} {ds : List D} (I : Ok K mg R F H σ δ vs ds) (b : Bool) : Ok K mg R F H σ δ (.bl b :: vs) (.bl b :: ds) := I.push (by simp only [Own]; exact ⟨trivial, trivial⟩)
theorem Ok.pushI {K : PySem.W.Frag} {mg : Mg} {R F H : Hp} {σ : L2.St} {δ : List D} {vs : List V} {ds : List D} (I : Ok K mg R F H σ δ vs ds) (b : Int) : Ok K mg R F H σ δ (.int b :: vs) (.int b :: ds) := I.push (by simp only [Own]; exact ⟨trivial, trivial⟩)
theorem Ok.pushS {K : PySem.W.Frag} {mg : Mg} {R F H : Hp} {σ : L2.St} {δ : List D} {vs : List V} {ds : List D} (I : Ok K mg R F H σ δ vs ds) (b : Str) : Ok K mg R F H σ δ (.str b :: vs) (.str b :: ds) := I.push (by simp only [Own]; exact ⟨trivial, trivial⟩)
theorem se_and {rest : List Expr} (ha : SE X W pa a ta fa) (hb : SE X W pb (.BoolOp .And (b :: rest) pos) tb fb) : SE X W (pa && pb) (.BoolOp .And (a :: b :: rest) pos) (tAndV ta tb) (eAnd fa fb) := ⟨pe_and ha.pe hb.pe, fun R F H σ δ vs ds Q I q => by
  unfold eAnd mbind at q
  refine ha.snd.then I (fun c ns es e => by rw [e] at q; exact q) (fun e => by rw [e] at q; exact q) fun d δ1 F1 H1 v e s1 p1 I1 => ?_
  rw [e] at q
  dsimp only at q
  cases d with
  | bl x =>
    refine ⟨x, own_bl I1, ?_⟩
    cases x with
    | true =>
      show tb σ H1 Q
      have q : GoE X.K X.mg W (pa && pb) R F H σ vs ds (fb δ1) Q := q
      refine hb.snd.then I1.pop (fun c ns es e => by rw [e] at q; exact q.shift s1) (fun e => by rw [e] at q; exact q) fun d δ2 F2 H2 v e s2 p2 I2 => ?_
      rw [e] at q
      exact q F2 H2 v (s1.trans s2) (fun hp => by rw [Bool.and_eq_true] at hp; exact (p1 hp.1).trans (p2 hp.2)) I2
    | false => exact q F1 H1 _ s1 (fun hp => by rw [Bool.and_eq_true] at hp; exact p1 hp.1) (I1.pop.pushB false)
  | _ => exact q.elim⟩
theorem se_or {rest : List Expr} (ha : SE X W pa a ta fa) (hb : SE X W pb (.BoolOp .Or (b :: rest) pos) tb fb) : SE X W (pa && pb) (.BoolOp .Or (a :: b :: rest) pos) (tOrV ta tb) (eOr fa fb) := ⟨pe_or ha.pe hb.pe, fun R F H σ δ vs ds Q I q => by
  unfold eOr mbind at q
  refine ha.snd.then I (fun c ns es e => by rw [e] at q; exact q) (fun e => by rw [e] at q; exact q) fun d δ1 F1 H1 v e s1 p1 I1 => ?_
  rw [e] at q
  dsimp only at q
  cases d with
  | bl x =>
    refine ⟨x, own_bl I1, ?_⟩
    cases x with
    | false =>
      show tb σ H1 Q
      have q : GoE X.K X.mg W (pa && pb) R F H σ vs ds (fb δ1) Q := q
      refine hb.snd.then I1.pop (fun c ns es e => by rw [e] at q; exact q.shift s1) (fun e => by rw [e] at q; exact q) fun d δ2 F2 H2 v e s2 p2 I2 => ?_
      rw [e] at q
      exact q F2 H2 v (s1.trans s2) (fun hp => by rw [Bool.and_eq_true] at hp; exact (p1 hp.1).trans (p2 hp.2)) I2
    | true => exact q F1 H1 _ s1 (fun hp => by rw [Bool.and_eq_true] at hp; exact p1 hp.1) (I1.pop.pushB true)
  | _ => exact q.elim⟩
theorem se_one {op} {t : TE} (h : SE X W pa a t fa) : SE X W pa (.BoolOp op [a] pos) t fa := ⟨pe_one h.pe, h.snd⟩
theorem se_not (ha : SE X W pa a ta fa) : SE X W pa (.UnaryOp .Not a pos) (tNotV ta) (eNot fa) := ⟨pe_not ha.pe, fun R F H σ δ vs ds Q I q => by
  unfold eNot mbind at q
  refine ha.snd.then I (fun c ns es e => by rw [e] at q; exact q) (fun e => by rw [e] at q; exact q) fun d δ1 F1 H1 v e s1 p1 I1 => ?_
  rw [e] at q
  dsimp only at q
  cases d with
  | bl x => exact ⟨x, own_bl I1, q F1 H1 _ s1 p1 (I1.pop.pushB _)⟩
  | _ => exact q.elim⟩
end
end Dn

set_option Elab.async false
set_option linter.all false
set_option maxRecDepth 100000
set_option maxHeartbeats 4000000
namespace Dn
open PySem L2

/-! ### statements -/
def sNx : M Fl := mret .nx
def sBk : M Fl := mret .bk
def sCt : M Fl := mret .ct
def sSeq (f g : M Fl) : M Fl := mbind f fun fl => match fl with
  | .nx => g
  | r => mret r
def sIf (c : M Bool) (a b : M Fl) : M Fl := mbind c fun x => if x = true then a else b
def sRet (f : M D) : M Fl := mbind f fun d => mret (.rt d)
def sRetN : M Fl := mret (.rt .non)
def sDrop (f : M D) : M Fl := mbind f fun _ => mret .nx
def gN (i : Nat) (d : D) (δ : List D) : Option (List D) := if i < δ.length then some (δ.set i d) else none
def sAsg (g : D → List D → Option (List D)) (f : M D) : M Fl := mbind f fun d => fun δ => match g d δ with
  | some δ' => .ok (.nx, δ')
  | none => .bad
def sFrz (i : Nat) (f : M Fl) : M Fl := fun δ => match δ[i]? with
  | some d => f (δ.set i (strip d))
  | none => .bad
def loopD (body : D → M Fl) : List D → M Fl
  | [] => mret .nx
  | x :: xs => fun δ => match body x δ with
    | .ok (.nx, δ') => loopD body xs δ'
    | .ok (.ct, δ') => loopD body xs δ'
    | .ok (.bk, δ') => .ok (.nx, δ')
    | .ok (.rt d, δ') => .ok (.rt d, δ')
    | .er c n e => .er c n e
    | .bad => .bad
def forB (g : D → List D → Option (List D)) (fb : M Fl) : D → M Fl := fun x δ => match g x δ with
  | some δ' => fb δ'
  | none => .bad
def sFor (fi : M (List D)) (g : D → List D → Option (List D)) (fb : M Fl) : M Fl := mbind fi fun xs => loopD (forB g fb) xs
def sWhile (c : M Bool) (b : M Fl) : Nat → M Fl
  | 0 => mbad
  | n + 1 => fun δ => match c δ with
    | .ok (true, δ') => (match b δ' with
      | .ok (.nx, δ2) => sWhile c b n δ2
      | .ok (.ct, δ2) => sWhile c b n δ2
      | .ok (.bk, δ2) => .ok (.nx, δ2)
      | .ok (.rt d, δ2) => .ok (.rt d, δ2)
      | .er c n e => .er c n e
      | .bad => .bad)
    | .ok (false, δ') => .ok (.nx, δ')
    | .er c n e => .er c n e
    | .bad => .bad

section
variable {X : Cx} {W : WX} {fx : List Bool} {pf pa pb pc : Bool} {a b c e : Expr} {ta tb te : TE} {fa fb fe : M D} {pos : Pos} {st : Stmt} {sts : List Stmt} {t t1 t2 : TS} {f f1 f2 : M Fl}
theorem sss_nil : SSs X W fx [] tNext sNx := ⟨pss_nil, fun R F H σ δ vs ds E I q => q F H σ (Same.refl _) Fx.refl I⟩
theorem snd_seq {K : PySem.W.Frag} {mg : Mg} (h1 : SndS K mg W fx t1 f1) (h2 : SndS K mg W fx t2 f2) : SndS K mg W fx (tSeq t1 t2) (sSeq f1 f2) := fun R F H σ δ vs ds E I q => by
  unfold sSeq mbind at q
  refine h1.then (E := { E with nx := t2 E }) I (fun c ns es e => by rw [e] at q; exact q) (fun e => by rw [e] at q; exact q) (fun δ1 F1 H1 σ1 e s1 x1 I1 => ?_) (fun δ1 F1 H1 σ1 e s1 x1 I1 => ?_) (fun δ1 F1 H1 σ1 e s1 x1 I1 => ?_) (fun d δ1 F1 H1 σ1 v e s1 x1 I1 => ?_)
  · rw [e] at q
    dsimp only at q
    show t2 E σ1 H1
    exact h2.then I1 (fun c ns es e => by rw [e] at q; exact (EW.shift (EW.slots q x1.1) s1)) (fun e => by rw [e] at q; exact q) (fun δ2 F2 H2 σ2 e s2 x2 I2 => by rw [e] at q; exact q F2 H2 σ2 (s1.trans s2) (x1.trans x2) I2)
      (fun δ2 F2 H2 σ2 e s2 x2 I2 => by rw [e] at q; exact q F2 H2 σ2 (s1.trans s2) (x1.trans x2) I2) (fun δ2 F2 H2 σ2 e s2 x2 I2 => by rw [e] at q; exact q F2 H2 σ2 (s1.trans s2) (x1.trans x2) I2)
      (fun d δ2 F2 H2 σ2 v e s2 x2 I2 => by rw [e] at q; exact q F2 H2 σ2 v (s1.trans s2) (x1.trans x2) I2)
  · rw [e] at q; exact q F1 H1 σ1 s1 x1 I1
  · rw [e] at q; exact q F1 H1 σ1 s1 x1 I1
  · rw [e] at q; exact q F1 H1 σ1 v s1 x1 I1
theorem sss_cons (h1 : SS X W fx st t1 f1) (h2 : SSs X W fx sts t2 f2) : SSs X W fx (st :: sts) (tSeq t1 t2) (sSeq f1 f2) := ⟨pss_cons h1.pe h2.pe, snd_seq h1.snd h2.snd⟩
theorem sss_one (h1 : SS X W fx st t1 f1) : SSs X W fx [st] t1 f1 := ⟨pss_one h1.pe, h1.snd⟩
/-- a slot is frozen, between two statements -/
theorem sss_frz {i : Nat} (h : SSs X W fx sts t f) : SSs X W fx sts t (sFrz i f) := ⟨h.pe, fun R F H σ δ vs ds E I q => by
  unfold sFrz at q
  cases e : δ[i]? with
  | none => rw [e] at q; exact q.elim
  | some d =>
    rw [e] at q
    dsimp only at q
    obtain ⟨F', s, J⟩ := I.freezeS e
    exact h.snd.then J (fun c ns es e => by rw [e] at q; exact q.shift s) (fun e => by rw [e] at q; exact q) (fun δ2 F2 H2 σ2 e s2 x2 I2 => by rw [e] at q; exact q F2 H2 σ2 (s.trans s2) x2 I2)
      (fun δ2 F2 H2 σ2 e s2 x2 I2 => by rw [e] at q; exact q F2 H2 σ2 (s.trans s2) x2 I2) (fun δ2 F2 H2 σ2 e s2 x2 I2 => by rw [e] at q; exact q F2 H2 σ2 (s.trans s2) x2 I2)
      (fun d δ2 F2 H2 σ2 v e s2 x2 I2 => by rw [e] at q; exact q F2 H2 σ2 v (s.trans s2) x2 I2)⟩
theorem ss_pass : SS X W fx (.Pass pos) tNext sNx := ⟨ps_pass, fun R F H σ δ vs ds E I q => q F H σ (Same.refl _) Fx.refl I⟩
theorem ss_break : SS X W fx (.Break pos) tBreak sBk := ⟨ps_break, fun R F H σ δ vs ds E I q => q F H σ (Same.refl _) Fx.refl I⟩
theorem ss_continue : SS X W fx (.Continue pos) tCont sCt := ⟨ps_continue, fun R F H σ δ vs ds E I q => q F H σ (Same.refl _) Fx.refl I⟩
theorem ss_expr (h : SE X W pa e te fe) (hs : swapsWith e none pos.line X.env = Pure.pure false := by rfl) : SS X W fx (.Expr e pos) (tDrop te) (sDrop fe) := ⟨ps_expr h.pe hs, fun R F H σ δ vs ds E I q => by
  unfold sDrop mbind at q
  refine h.snd.then I (fun c ns es e => by rw [e] at q; exact q) (fun e => by rw [e] at q; exact q) fun d δ1 F1 H1 v e s1 p1 I1 => ?_
  rw [e] at q
  exact q F1 H1 σ s1 Fx.refl I1.pop⟩
theorem ss_ret (h : SE X W pa e te fe) : SS X W fx (.Return (some e) pos) (tRet te) (sRet fe) := ⟨ps_ret h.pe, fun R F H σ δ vs ds E I q => by
  unfold sRet mbind at q
  refine h.snd.then I (fun c ns es e => by rw [e] at q; exact q) (fun e => by rw [e] at q; exact q) fun d δ1 F1 H1 v e s1 p1 I1 => ?_
  rw [e] at q
  exact q F1 H1 σ v s1 Fx.refl I1⟩
theorem ss_retN : SS X W fx (.Return none pos) tRetN sRetN := ⟨ps_retN, fun R F H σ δ vs ds E I q => q F H σ .non (Same.refl _) Fx.refl (I.push (by simp only [Own]; exact ⟨trivial, trivial⟩))⟩
theorem snd_if {K : PySem.W.Frag} {mg : Mg} {tc : TT} {fc : M Bool} (hc : SndT K mg W pc tc fc) (h1 : SndS K mg W fx t1 f1) (h2 : SndS K mg W fx t2 f2) : SndS K mg W fx (tIfS tc t1 t2) (sIf fc f1 f2) := fun R F H σ δ vs ds E I q => by
  unfold sIf mbind at q
  refine hc.then I (fun c ns es e => by rw [e] at q; exact q) (fun e => by rw [e] at q; exact q) fun d δ1 F1 H1 e s1 p1 I1 => ?_
  rw [e] at q
  dsimp only at q
  cases d with
  | true =>
    show t1 E σ H1
    rw [if_pos rfl] at q
    exact h1.then I1 (fun c ns es e => by rw [e] at q; exact q.shift s1) (fun e => by rw [e] at q; exact q) (fun δ2 F2 H2 σ2 e s2 x2 I2 => by rw [e] at q; exact q F2 H2 σ2 (s1.trans s2) x2 I2)
      (fun δ2 F2 H2 σ2 e s2 x2 I2 => by rw [e] at q; exact q F2 H2 σ2 (s1.trans s2) x2 I2) (fun δ2 F2 H2 σ2 e s2 x2 I2 => by rw [e] at q; exact q F2 H2 σ2 (s1.trans s2) x2 I2)
      (fun d δ2 F2 H2 σ2 v e s2 x2 I2 => by rw [e] at q; exact q F2 H2 σ2 v (s1.trans s2) x2 I2)
  | false =>
    show t2 E σ H1
    rw [if_neg (by decide)] at q
    exact h2.then I1 (fun c ns es e => by rw [e] at q; exact q.shift s1) (fun e => by rw [e] at q; exact q) (fun δ2 F2 H2 σ2 e s2 x2 I2 => by rw [e] at q; exact q F2 H2 σ2 (s1.trans s2) x2 I2)
      (fun δ2 F2 H2 σ2 e s2 x2 I2 => by rw [e] at q; exact q F2 H2 σ2 (s1.trans s2) x2 I2) (fun δ2 F2 H2 σ2 e s2 x2 I2 => by rw [e] at q; exact q F2 H2 σ2 (s1.trans s2) x2 I2)
      (fun d δ2 F2 H2 σ2 v e s2 x2 I2 => by rw [e] at q; exact q F2 H2 σ2 v (s1.trans s2) x2 I2)
theorem ss_if {tc : TT} {fc : M Bool} {ab bb : List Stmt} (hc : ST X W pc c tc fc) (h1 : SSs X W fx ab t1 f1) (h2 : SSs X W fx bb t2 f2) : SS X W fx (.If c ab bb pos) (tIfS tc t1 t2) (sIf fc f1 f2) := ⟨ps_if hc.pe h1.pe h2.pe, snd_if hc.snd h1.snd h2.snd⟩

/-! ### targets, assignments -/
theorem sg_name (i : Nat) {x : Str} (hN : X.N.Nodup) (hi : X.N[i]? = some x := by rfl) (hx : Loc X.env.scope x := by first | exact Or.inl rfl | exact Or.inr rfl) (hf : X.fn x = true ∨ X.env.scope.names.lookup x = some .local := by first | exact .inl rfl | exact .inr rfl | assumption) : SG X [i] (.Name x pos) (gName i) (gN i) :=
  ⟨pg_name hN hi hx hf, fun R F H σ δ δ' v d vs ds Q I h k => by
    unfold gN at h
    by_cases z : i < δ.length
    · rw [if_pos z] at h
      cases h
      exact k _ (by simp) (fun j hj => List.getElem?_set_ne (fun e => hj (by simp [e]))) (I.store z)
    · rw [if_neg z] at h; cases h⟩
def gTs (gs : List (D → List D → Option (List D))) (ds : List D) (δ : List D) : Option (List D) := match gs, ds with
  | [], [] => some δ
  | g :: gs, d :: ds => (g d δ).bind (gTs gs ds)
  | _, _ => none
def gT (gs : List (D → List D → Option (List D))) (d : D) (δ : List D) : Option (List D) := match d with
  | .tup ds => gTs gs ds δ
  | _ => none
structure SGs (X : Cx) (ix : List Nat) (es : List Expr) (t : TGs) (g : List (D → List D → Option (List D))) : Prop where
  pe : PGs X es t
  snd : ∀ (R F H : Hp) (σ : L2.St) (δ δ' : List D) (ws : List V) (xs : List D) (vs : List V) (ds : List D) (Q : L2.St → Hp → Prop), ws.length = xs.length → Ok X.K X.mg R F H σ δ (ws ++ vs) (xs ++ ds) → gTs g xs δ = some δ' →
    (∀ (σ' : L2.St), σ'.length = σ.length → (∀ i : Nat, i ∉ ix → σ'[i]? = σ[i]?) → Ok X.K X.mg R F H σ' δ' vs ds → Q σ' H) → t ws σ H Q
theorem sgs_nil : SGs X [] [] gNil [] := ⟨pgs_nil, fun R F H σ δ δ' ws xs vs ds Q l I h k => by
  cases xs with
  | nil =>
    cases ws with
    | nil =>
      unfold gTs at h
      cases h
      exact ⟨rfl, k σ rfl (fun _ _ => rfl) I⟩
    | cons _ _ => simp at l
  | cons x xs => unfold gTs at h; cases h⟩
theorem sgs_cons {es : List Expr} {i1 i2 : List Nat} {t : TG} {u : TGs} {g : D → List D → Option (List D)} {gs : List (D → List D → Option (List D))} (h1 : SG X i1 e t g) (h2 : SGs X i2 es u gs)
    (hs : (assignEach (e :: es) X.env).map (·.2) = assign e X.env :: (assignEach es X.env).map (·.2) := by rfl) : SGs X (i1 ++ i2) (e :: es) (gCons t u) (g :: gs) := ⟨pgs_cons h1.pe h2.pe hs, fun R F H σ δ δ' ws xs vs ds Q l I h k => by
  cases xs with
  | nil => unfold gTs at h; cases h
  | cons x xs =>
    cases ws with
    | nil => simp at l
    | cons w ws =>
      unfold gTs at h
      cases e1 : g x δ with
      | none => rw [e1] at h; cases h
      | some δ1 =>
        rw [e1] at h
        refine ⟨w, ws, rfl, h1.snd R F H σ δ δ1 w x _ _ _ I e1 fun σ1 l1 k1 I1 => ?_⟩
        refine h2.snd R F H σ1 δ1 δ' ws xs vs ds Q (by simpa using l) I1 h fun σ2 l2 k2 I2 => ?_
        refine k σ2 (l2.trans l1) (fun i hi => ?_) I2
        rw [List.mem_append, not_or] at hi
        exact (k2 i hi.2).trans (k1 i hi.1)⟩
theorem sg_tup {es : List Expr} {k n : Nat} {t : TGs} {ix : List Nat} {gs : List (D → List D → Option (List D))} (hc : X.calm = true) (h : SGs X ix es t gs) (hg : gs.length = n := by rfl)
    (hn : (assignEach es X.env).length = n := by rfl) (hst : (assignEach es X.env).findIdx? (·.1) = none := by rfl) : SG X ix (.Tuple es k pos) (gTup X.K n t) (gT gs) := ⟨pg_tup hc h.pe hn hst, fun R F H σ δ δ' v d vs ds Q I hh kk => by
  unfold gT at hh
  cases d with
  | tup xs =>
    dsimp only at hh
    obtain ⟨f, o, _, _, back, _⟩ := I.focus
    simp only [Own] at o
    obtain ⟨a, ws, rfl, sq, ol⟩ := o
    have lx : xs.length = gs.length := by
      have : ∀ (gs : List (D → List D → Option (List D))) (xs : List D) (δ δ' : List D), gTs gs xs δ = some δ' → xs.length = gs.length := by
        intro gs
        induction gs with
        | nil => intro xs δ δ' h; cases xs with
          | nil => rfl
          | cons _ _ => unfold gTs at h; cases h
        | cons g gs ih => intro xs δ δ' h; cases xs with
          | nil => unfold gTs at h; cases h
          | cons x xs =>
            unfold gTs at h
            cases e1 : g x δ with
            | none => rw [e1] at h; cases h
            | some δ1 => rw [e1] at h; simp [ih xs δ1 δ' h]
      exact this gs xs δ δ' hh
    refine ⟨a, ws, rfl, SqT.of (I.fh _ _ sq), ?_, ?_⟩
    · rw [ol.len, lx, hg]
    · exact h.snd R F H σ δ δ' ws xs vs ds Q ol.len (back ol) hh kk
  | _ => cases hh⟩
end
end Dn

set_option Elab.async false
set_option linter.all false
set_option maxRecDepth 100000
set_option maxHeartbeats 4000000
namespace Dn
open PySem L2 PyProof.Rows
section
variable {K : PySem.W.Frag} {mg : Mg} {R F F' H H' : Hp} {σ : L2.St} {δ : List D} {vs : List V} {ds : List D}
/-- what lies under the uppermost goes -/
theorem Ok.popMid {d : D} {v : V} {hv : List V} {hd : List D} (l : hv.length = hd.length) (I : Ok K mg R F H σ δ (v :: (hv ++ vs)) (d :: (hd ++ ds))) : Ok K mg R F H σ δ (v :: vs) (d :: ds) := by
  induction hv generalizing hd with
  | nil => cases hd with
    | nil => exact I
    | cons _ _ => simp at l
  | cons w hv ih => cases hd with
    | nil => simp at l
    | cons e hd => exact ih (by simpa using l) I.swap.pop
theorem OwnSL.reslot : ∀ {δ δ' : List D} {f : List Addr} {σ σ' : List (Option V)}, OwnSL K mg F H δ f σ → δ'.length = δ.length → σ'.length = σ.length → (∀ i : Nat, (δ'[i]? = δ[i]? ∧ σ'[i]? = σ[i]?) ∨ δ'[i]? = some .un) →
    ∃ f1 f2, f.Perm (f1 ++ f2) ∧ OwnSL K mg F H δ' f1 σ'
  | [], δ', f, σ, σ', h, l1, l2, k => by
    have : δ' = [] := List.length_eq_zero_iff.mp l1
    subst this
    have e2 := h.2
    subst e2
    have : σ' = [] := List.length_eq_zero_iff.mp l2
    subst this
    exact ⟨[], f, .refl _, rfl, rfl⟩
  | d :: δ, δ', f, σ, σ', ⟨ov, r, g1, g2, e, q, a, b⟩, l1, l2, k => by
    subst e
    cases δ' with
    | nil => simp at l1
    | cons d' δ' =>
      cases σ' with
      | nil => simp at l2
      | cons ov' r' =>
        obtain ⟨h1, h2, p, o⟩ := OwnSL.reslot (δ := δ) (δ' := δ') (σ' := r') b (by simpa using l1) (by simpa using l2) (fun i => by simpa using k (i + 1))
        rcases k 0 with ⟨z1, z2⟩ | z
        · simp at z1 z2
          subst z1 z2
          refine ⟨g1 ++ h1, h2, ?_, ov', r', g1, h1, rfl, .refl _, a, o⟩
          rw [List.append_assoc]
          exact q.trans (p.append_left g1)
        · simp at z
          subst z
          refine ⟨h1, g1 ++ h2, ?_, ov', r', [], h1, rfl, .refl _, .inl ⟨rfl, rfl⟩, o⟩
          refine q.trans ((p.append_left g1).trans ?_)
          rw [← List.append_assoc, ← List.append_assoc]
          exact List.perm_append_comm.append_right h2
theorem Ok.reslot {δ' : List D} {σ' : L2.St} (I : Ok K mg R F H σ δ vs ds) (l1 : δ'.length = δ.length) (l2 : σ'.length = σ.length) (k : ∀ i : Nat, (δ'[i]? = δ[i]? ∧ σ'[i]? = σ[i]?) ∨ δ'[i]? = some .un) : Ok K mg R F H σ' δ' vs ds := by
  obtain ⟨fh, rh, sep, fp, f1, f2, nd, cl, p, a, b⟩ := I
  obtain ⟨g1, g2, q, o⟩ := a.reslot l1 l2 k
  have p' : fp.Perm ((g1 ++ f2) ++ g2) := by
    refine p.trans ((q.append_right f2).trans ?_)
    rw [List.append_assoc, List.append_assoc]
    exact List.perm_append_comm.append_left g1
  exact ⟨fh, rh, sep, g1 ++ f2, g1, f2, (List.nodup_append.mp (p'.nodup_iff.mp nd)).1, fun x hx => cl x (p'.mem_iff.mpr (List.mem_append_left _ hx)), .refl _, o, b⟩
end

/-! ### assignments -/
section
variable {X : Cx} {W : WX} {fx : List Bool} {pf pa pb pc : Bool} {a b c e : Expr} {ta tb te : TE} {fa fb fe : M D} {pos : Pos} {st : Stmt} {sts : List Stmt} {t t1 t2 : TS} {f f1 f2 : M Fl}
def NotFx (fx : List Bool) (gs : List Nat) : Bool := gs.all fun i => !(fx.getD i false)
theorem notFx {fx : List Bool} {gs : List Nat} (h : NotFx fx gs = true) {i : Nat} (hi : fx[i]? = some true) : i ∉ gs := fun z => by
  have := List.all_eq_true.mp h i z
  rw [List.getD_eq_getElem?_getD, hi] at this
  cases this
theorem snd_asg {K : PySem.W.Frag} {mg : Mg} {gs : List Nat} {tg : TG} {g : D → List D → Option (List D)} (h : Snd K mg W pa te fe) (hg : SndG K mg gs tg g) (hfx : NotFx fx gs = true) : SndS K mg W fx (tAsg te tg) (sAsg g fe) := fun R F H σ δ vs ds E I q => by
  unfold sAsg mbind at q
  refine h.then I (fun c ns es e => by rw [e] at q; exact q) (fun e => by rw [e] at q; exact q) fun d δ1 F1 H1 v e s1 p1 I1 => ?_
  rw [e] at q
  dsimp only at q
  cases e2 : g d δ1 with
  | none => rw [e2] at q; exact q.elim
  | some δ2 =>
    rw [e2] at q
    exact hg R F1 H1 σ δ1 δ2 v d vs ds _ I1 e2 fun σ' l k I2 => q F1 H1 σ' s1 ⟨l, fun i hi => k i (notFx hfx hi)⟩ I2
theorem ss_set (i : Nat) {x : Str} {pos' : Pos} (hN : X.N.Nodup) (h : SE X W pa e te fe) (hfx : NotFx fx [i] = true := by rfl) (hi : X.N[i]? = some x := by rfl) (hx : Loc X.env.scope x := by first | exact Or.inl rfl | exact Or.inr rfl)
    (hs : swapsWith e (some (.Name x pos')) pos.line X.env = Pure.pure false := by rfl) (hf : X.fn x = true ∨ X.env.scope.names.lookup x = some .local := by first | exact .inl rfl | exact .inr rfl | assumption) :
    SS X W fx (.Assign [.Name x pos'] e pos) (tAsg te (gName i)) (sAsg (gN i) fe) := ⟨ps_set hN hi hx h.pe hs hf, snd_asg h.snd (sg_name (pos := pos') i hN hi hx hf).snd hfx⟩
theorem ss_asg {tg : Expr} {gs : List Nat} {tt : TG} {g : D → List D → Option (List D)} (h : SE X W pa e te fe) (hg : SG X gs tg tt g) (hfx : NotFx fx gs = true := by rfl) (hs : swapsWithSole [tg] e pos.line X.env = Pure.pure false := by rfl) (hw : swappedStores [tg] e X.env = Pure.pure none := by rfl)
    (h1 : (assignEach [tg] X.env).map (·.2) = [assign tg X.env] := by rfl) : SS X W fx (.Assign [tg] e pos) (tAsg te tt) (sAsg g fe) := ⟨ps_asg h.pe hg.pe hs hw h1, snd_asg h.snd hg.snd hfx⟩
/-- name op= e -/
def sAug (i : Nat) (g : D → D → Option D) (fe : M D) : M Fl := sAsg (gN i) (eBin g (eV i) fe)
theorem ss_aug (i : Nat) {x : Str} {op : Operator} {r : R2} {g : D → D → Option D} {pos' : Pos} (hN : X.N.Nodup) (ho : PIp X op r) (o : Op2 X.K X.mg r g) (h : SE X W pa e te fe) (hfx : NotFx fx [i] = true := by rfl) (hi : X.N[i]? = some x := by rfl) (hx : Loc X.env.scope x := by first | exact Or.inl rfl | exact Or.inr rfl)
    (hf : X.fn x = true ∨ X.env.scope.names.lookup x = some .local := by first | exact .inl rfl | exact .inr rfl | assumption) : SS X W fx (.AugAssign (.Name x pos') op e pos) (tAug i te r) (sAug i g fe) := ⟨ps_aug hN hi hx h.pe ho hf, fun R F H σ δ vs ds E I q => by
  have k := snd_asg (fx := fx) (snd_op o (snd_v (K := X.K) (mg := X.mg) (W := W) (i := i)) h.snd) (sg_name (pos := pos') i hN hi hx hf).snd hfx
  have := k R F H σ δ vs ds E I q
  obtain ⟨v, e1, h2⟩ := this
  exact ⟨v, e1, h2⟩⟩

/-! ### for -/
theorem snd_for {K : PySem.W.Frag} {mg : Mg} {gs : List Nat} {wi : TI} {tg : TG} {tb : TS} {fi : M (List D)} {g : D → List D → Option (List D)} {fb : M Fl} (hi : SndI K mg W wi fi) (hg : SndG K mg gs tg g) (hb : SndS K mg W fx tb fb) (hfx : NotFx fx gs = true) :
    SndS K mg W fx (tFor wi tg tb) (sFor fi g fb) := fun R F H σ δ vs ds E I q => by
  unfold sFor mbind at q
  refine hi.then I (fun c ns es e => by rw [e] at q; exact q) (fun e => by rw [e] at q; exact q) fun xs δ1 F1 H1 J hv hd e s1 it I1 => ?_
  rw [e] at q
  dsimp only at q
  obtain ⟨body, hbody⟩ : ∃ body : D → M Fl, body = forB g fb := ⟨_, rfl⟩
  rw [← hbody] at q
  refine ⟨fun i m σ' H' => m = xs.length - i ∧ i ≤ xs.length ∧ ∃ F' δ', Same F F' ∧ Fx fx σ σ' ∧ Ok K mg R F' H' σ' δ' (hv ++ vs) (hd ++ ds) ∧ GoS K mg W fx R F' σ' vs ds (loopD body (xs.drop i) δ') E,
    ⟨xs.length, by simp, Nat.zero_le _, F1, δ1, s1, Fx.refl, I1, ?_⟩, ?_⟩
  · -- at the start
    rw [List.drop_zero]
    have : ∀ r, GoS K mg W fx R F σ vs ds r E → GoS K mg W fx R F1 σ vs ds r E := fun r h => by
      cases r with
      | bad => exact h
      | er c n e => exact EW.shift h s1
      | ok p =>
        obtain ⟨fl, δ'⟩ := p
        cases fl with
        | nx => exact fun F' H' σ' s => h F' H' σ' (s1.trans s)
        | bk => exact fun F' H' σ' s => h F' H' σ' (s1.trans s)
        | ct => exact fun F' H' σ' s => h F' H' σ' (s1.trans s)
        | rt d => exact fun F' H' σ' v s => h F' H' σ' v (s1.trans s)
    exact this _ q
  · rintro i m σ2 H2 ⟨rfl, hle, F2, δ2, s2, x2, I2, q2⟩
    by_cases hlt : i < xs.length
    · have ed : xs.drop i = xs[i] :: xs.drop (i + 1) := List.drop_eq_getElem_cons hlt
      rw [ed] at q2
      have q2' : GoS K mg W fx R F2 σ2 vs ds (match body xs[i] δ2 with
        | .ok (.nx, δ') => loopD body (xs.drop (i + 1)) δ'
        | .ok (.ct, δ') => loopD body (xs.drop (i + 1)) δ'
        | .ok (.bk, δ') => .ok (.nx, δ')
        | .ok (.rt d, δ') => .ok (.rt d, δ')
        | .er c n e => .er c n e
        | .bad => .bad) E := q2
      refine .inr ⟨it.go i R F2 H2 σ2 δ2 vs ds hlt I2, fun σ' H' => ∃ F' δ', Same F F' ∧ Fx fx σ σ' ∧ Ok K mg R F' H' σ' δ' (hv ++ vs) (hd ++ ds) ∧ GoS K mg W fx R F' σ' vs ds (loopD body (xs.drop (i + 1)) δ') E, fun σ' H' h => ⟨xs.length - (i + 1), by omega, rfl, hlt, h⟩, fun x H3 y => ?_⟩
      obtain ⟨F3, s3, I3⟩ := it.yld i xs[i] x R F2 H2 H3 σ2 δ2 vs ds (List.getElem?_eq_getElem hlt) I2 y
      cases eg : g xs[i] δ2 with
      | none =>
        have : body xs[i] δ2 = .bad := by rw [hbody]; unfold forB; rw [eg]
        rw [this] at q2'; exact q2'.elim
      | some δ3 =>
        have eb : body xs[i] δ2 = fb δ3 := by rw [hbody]; unfold forB; rw [eg]
        rw [eb] at q2'
        refine hg R F3 H3 σ2 δ2 δ3 x xs[i] _ _ _ I3 eg fun σ4 l4 k4 I4 => ?_
        have x4 : Fx fx σ2 σ4 := ⟨l4, fun j hj => k4 j (notFx hfx hj)⟩
        refine hb.then I4 (fun c ns es e => ?_) (fun e => by rw [e] at q2'; exact q2') (fun δ5 F5 H5 σ5 e s5 x5 I5 => ?_) (fun δ5 F5 H5 σ5 e s5 x5 I5 => ?_) (fun δ5 F5 H5 σ5 e s5 x5 I5 => ?_) (fun d δ5 F5 H5 σ5 v e s5 x5 I5 => ?_)
        · rw [e] at q2'
          exact EW.slots (EW.shift q2' s3) l4
        · rw [e] at q2'
          have sft : ∀ r, GoS K mg W fx R F2 σ2 vs ds r E → GoS K mg W fx R F5 σ5 vs ds r E := fun r h => by
            have sx : Same F2 F5 := s3.trans s5
            have xx : Fx fx σ2 σ5 := x4.trans x5
            cases r with
            | bad => exact h
            | er c n e => exact EW.slots (EW.shift h sx) xx.1
            | ok p =>
              obtain ⟨fl, δ'⟩ := p
              cases fl with
              | nx => exact fun F' H' σ' s x => h F' H' σ' (sx.trans s) (xx.trans x)
              | bk => exact fun F' H' σ' s x => h F' H' σ' (sx.trans s) (xx.trans x)
              | ct => exact fun F' H' σ' s x => h F' H' σ' (sx.trans s) (xx.trans x)
              | rt d => exact fun F' H' σ' v s x => h F' H' σ' v (sx.trans s) (xx.trans x)
          exact ⟨F5, δ5, s2.trans (s3.trans s5), x2.trans (x4.trans x5), I5, sft _ q2'⟩
        · rw [e] at q2'
          exact q2' F5 H5 σ5 (s3.trans s5) (x4.trans x5) (I5.popN it.len)
        · rw [e] at q2'
          have sft : ∀ r, GoS K mg W fx R F2 σ2 vs ds r E → GoS K mg W fx R F5 σ5 vs ds r E := fun r h => by
            have sx : Same F2 F5 := s3.trans s5
            have xx : Fx fx σ2 σ5 := x4.trans x5
            cases r with
            | bad => exact h
            | er c n e => exact EW.slots (EW.shift h sx) xx.1
            | ok p =>
              obtain ⟨fl, δ'⟩ := p
              cases fl with
              | nx => exact fun F' H' σ' s x => h F' H' σ' (sx.trans s) (xx.trans x)
              | bk => exact fun F' H' σ' s x => h F' H' σ' (sx.trans s) (xx.trans x)
              | ct => exact fun F' H' σ' s x => h F' H' σ' (sx.trans s) (xx.trans x)
              | rt d => exact fun F' H' σ' v s x => h F' H' σ' v (sx.trans s) (xx.trans x)
          exact ⟨F5, δ5, s2.trans (s3.trans s5), x2.trans (x4.trans x5), I5, sft _ q2'⟩
        · rw [e] at q2'
          exact q2' F5 H5 σ5 v (s3.trans s5) (x4.trans x5) (I5.popMid it.len)
    · have e0 : i = xs.length := by omega
      subst e0
      rw [List.drop_length] at q2
      exact .inl ⟨it.stop _ R F2 H2 σ2 δ2 vs ds rfl I2, q2 F2 H2 σ2 (Same.refl _) Fx.refl (I2.popN it.len)⟩
theorem ss_for {iter tg : Expr} {body : List Stmt} {gs : List Nat} {wi : TI} {tt : TG} {tb : TS} {fi : M (List D)} {g : D → List D → Option (List D)} {fb : M Fl} (hp : PassesOwn (model X.prog X.w) X.A X.env X.xe) (hc : X.calm = true) (hi : SI X W tg iter wi fi) (hg : SG X gs tg tt g) (hb : SSs X W fx body tb fb)
    (hfx : NotFx fx gs = true := by rfl) (hs : ∀ x, foldedSetIterable iter X.env x = Pure.pure x := by intro _; rfl) : SS X W fx (.For tg iter body [] pos) (tFor wi tt tb) (sFor fi g fb) := ⟨ps_for hp hc hi.pe hg.pe hb.pe hs, snd_for hi.snd hg.snd hb.snd hfx⟩

/-! ### while, by a bound of the turns -/
theorem snd_while {K : PySem.W.Frag} {mg : Mg} {tc : TT} {tb : TS} {fc : M Bool} {fb : M Fl} (n : Nat) (hc : SndT K mg W pc tc fc) (hb : SndS K mg W fx tb fb) : SndS K mg W fx (tWhile tc tb) (sWhile fc fb n) := fun R F H σ δ vs ds E I q => by
  refine ⟨fun m σ' H' => ∃ F' δ', Same F F' ∧ Fx fx σ σ' ∧ Ok K mg R F' H' σ' δ' vs ds ∧ GoS K mg W fx R F' σ' vs ds (sWhile fc fb m δ') E, ⟨n, F, δ, Same.refl _, Fx.refl, I, q⟩, ?_⟩
  rintro m σ2 H2 ⟨F2, δ2, s2, x2, I2, q2⟩
  cases m with
  | zero => exact q2.elim
  | succ m =>
    unfold sWhile at q2
    refine hc.then I2 (fun c ns es e => by rw [e] at q2; exact q2) (fun e => by rw [e] at q2; exact q2) fun d δ3 F3 H3 e s3 p3 I3 => ?_
    rw [e] at q2
    cases d with
    | false => exact q2 F3 H3 σ2 s3 Fx.refl I3
    | true =>
      dsimp only at q2
      refine ⟨fun σ' H' => ∃ F' δ', Same F F' ∧ Fx fx σ σ' ∧ Ok K mg R F' H' σ' δ' vs ds ∧ GoS K mg W fx R F' σ' vs ds (sWhile fc fb m δ') E, fun σ' H' h => ⟨m, Nat.lt_succ_self m, h⟩, ?_⟩
      have sft : ∀ {F5 : Hp} {σ5 : L2.St} r, Same F3 F5 → Fx fx σ2 σ5 → GoS K mg W fx R F2 σ2 vs ds r E → GoS K mg W fx R F5 σ5 vs ds r E := fun {F5 σ5} r s5 xx h => by
        have sx : Same F2 F5 := s3.trans s5
        cases r with
        | bad => exact h
        | er c n e => exact EW.slots (EW.shift h sx) xx.1
        | ok p =>
          obtain ⟨fl, δ'⟩ := p
          cases fl with
          | nx => exact fun F' H' σ' s x => h F' H' σ' (sx.trans s) (xx.trans x)
          | bk => exact fun F' H' σ' s x => h F' H' σ' (sx.trans s) (xx.trans x)
          | ct => exact fun F' H' σ' s x => h F' H' σ' (sx.trans s) (xx.trans x)
          | rt d => exact fun F' H' σ' v s x => h F' H' σ' v (sx.trans s) (xx.trans x)
      refine hb.then I3 (fun c ns es e => ?_) (fun e => by rw [e] at q2; exact q2) (fun δ5 F5 H5 σ5 e s5 x5 I5 => ?_) (fun δ5 F5 H5 σ5 e s5 x5 I5 => ?_) (fun δ5 F5 H5 σ5 e s5 x5 I5 => ?_) (fun d δ5 F5 H5 σ5 v e s5 x5 I5 => ?_)
      · rw [e] at q2; exact EW.shift q2 s3
      · rw [e] at q2; exact ⟨F5, δ5, s2.trans (s3.trans s5), x2.trans x5, I5, sft _ s5 x5 q2⟩
      · rw [e] at q2; exact q2 F5 H5 σ5 (s3.trans s5) x5 I5
      · rw [e] at q2; exact ⟨F5, δ5, s2.trans (s3.trans s5), x2.trans x5, I5, sft _ s5 x5 q2⟩
      · rw [e] at q2; exact q2 F5 H5 σ5 v (s3.trans s5) x5 I5
theorem ss_while {body : List Stmt} {tc : TT} {tb : TS} {fc : M Bool} {fb : M Fl} (n : Nat) (hp : PassesOwn (model X.prog X.w) X.A X.env X.xe) (hc : ST X W pc c tc fc) (hb : SSs X W fx body tb fb) : SS X W fx (.While c body [] pos) (tWhile tc tb) (sWhile fc fb n) :=
  ⟨ps_while hp hc.pe hb.pe, snd_while n hc.snd hb.snd⟩
end

/-! ### defs -/
abbrev Fn := List D → Rs (D × List D)
def spOf (K : PySem.W.Frag) (mg : Mg) (n : Nat) (f : Fn) : Sp := fun vs H Q E => ∃ (R F : Hp) (ds : List D), ds.length = n ∧ Ok K mg R F H [] [] vs ds ∧ match f ds with
  | .ok (d, ds') => ∀ (F' H' : Hp) (v : V), Same F F' → Ok K mg R F' H' [] [] (v :: vs) (d :: ds') → Q v H'
  | .er c ns es => ∀ (F' H' : Hp) (cls : Value) (dx : Option Addr), Same F F' → Ok K mg R F' H' [] [] [] [] → mg c = some cls → ExcD K mg F' H' dx ns es → E cls dx H'
  | .bad => False
def keepL : List Bool → List D → List D
  | [], _ => []
  | b :: bs, d :: δ => (if b then d else .un) :: keepL bs δ
  | b :: bs, [] => .un :: keepL bs []
def fnD (N m : Nat) (keep : List Bool) (g : M Fl) : Fn := fun args => if args.length = m then (match g (args ++ List.replicate (N - m) .un) with
  | .ok (.rt d, δ') => .ok (d, keepL keep δ')
  | .ok (.nx, δ') => .ok (.non, keepL keep δ')
  | .ok _ => .bad
  | .er c n e => .er c n e
  | .bad => .bad) else .bad
section
variable {K : PySem.W.Frag} {mg : Mg} {R F F' H H' : Hp}
theorem OwnSL.start : ∀ {ds : List D} {f : List Addr} {vs : List V} (k : Nat), OwnL K mg F H ds f vs → OwnSL K mg F H (ds ++ List.replicate k .un) f (vs.map some ++ List.replicate k none)
  | [], f, vs, k, h => by
    simp only [OwnL] at h
    rw [h.1, h.2]
    show OwnSL K mg F H (List.replicate k .un) [] (List.replicate k none)
    induction k with
    | zero => exact ⟨rfl, rfl⟩
    | succ k ih => exact ⟨none, _, [], [], rfl, .refl _, .inl ⟨rfl, rfl⟩, ih⟩
  | d :: ds, f, vs, k, h => by
    simp only [OwnL] at h
    obtain ⟨v, vr, f1, f2, rfl, q, a, b⟩ := h
    exact ⟨some v, _, f1, f2, rfl, q, .inr ⟨v, rfl, a⟩, OwnSL.start k b⟩
theorem OwnSL.keep : ∀ {keep : List Bool} {δ : List D} {f : List Addr} {σ : List (Option V)} {vs : List V}, OwnSL K mg F H δ f σ → keep.length = vs.length → (∀ i : Nat, keep[i]? = some true → σ[i]? = (vs.map some)[i]?) →
    ∃ f1 f2, f.Perm (f1 ++ f2) ∧ OwnL K mg F H (keepL keep δ) f1 vs
  | [], δ, f, σ, vs, h, l, k => by
    have : vs = [] := List.length_eq_zero_iff.mp l.symm
    subst this
    exact ⟨[], f, .refl _, OwnL.nil⟩
  | b :: bs, [], f, σ, vs, h, l, k => by
    cases vs with
    | nil => simp at l
    | cons v vs =>
      obtain ⟨f1, f2, p, o⟩ := OwnSL.keep (keep := bs) (δ := []) (σ := []) (vs := vs) ⟨h.1, rfl⟩ (by simpa using l) (fun i hi => by
        have := k (i + 1) (by simpa using hi)
        rw [h.2] at this
        simpa using this)
      exact ⟨f1, f2, p, by unfold keepL; exact OwnL.cons (f1 := []) (by simp only [Own]) o⟩
  | b :: bs, d :: δ, f, σ, vs, ⟨ov, r, g1, g2, e, q, a, c⟩, l, k => by
    subst e
    cases vs with
    | nil => simp at l
    | cons v vs =>
      obtain ⟨f1, f2, p, o⟩ := OwnSL.keep (keep := bs) (δ := δ) (vs := vs) c (by simpa using l) (fun i hi => by simpa using k (i + 1) (by simpa using hi))
      cases b with
      | false =>
        refine ⟨f1, g1 ++ f2, ?_, by unfold keepL; exact OwnL.cons (f1 := []) (by rw [if_neg (by decide)]; simp only [Own]) o⟩
        refine q.trans ((p.append_left g1).trans ?_)
        rw [← List.append_assoc, ← List.append_assoc]
        exact List.perm_append_comm.append_right f2
      | true =>
        have e1 := k 0 rfl
        simp at e1
        subst e1
        rcases a with ⟨z1, z2⟩ | ⟨w, e2, a⟩
        · refine ⟨f1, g1 ++ f2, ?_, by unfold keepL; exact OwnL.cons (f1 := []) (by rw [z1]; simp only [if_true, Own]) o⟩
          refine q.trans ((p.append_left g1).trans ?_)
          rw [← List.append_assoc, ← List.append_assoc]
          exact List.perm_append_comm.append_right f2
        · cases e2
          refine ⟨g1 ++ f1, f2, ?_, by unfold keepL; exact OwnL.cons a o⟩
          rw [List.append_assoc]
          exact q.trans (p.append_left g1)
theorem Ok.enter {vs : List V} {ds : List D} (k : Nat) (I : Ok K mg R F H [] [] vs ds) : Ok K mg R F H (vs.map some ++ List.replicate k none) (ds ++ List.replicate k .un) [] [] := by
  obtain ⟨fh, rh, sep, fp, f1, f2, nd, cl, p, a, b⟩ := I
  have e := a.1
  subst e
  exact ⟨fh, rh, sep, fp, f2, [], nd, cl, by rw [List.append_nil]; exact p, OwnSL.start k b, OwnL.nil⟩
theorem Ok.leave {σ : L2.St} {δ : List D} {vs : List V} {v : V} {d : D} {keep : List Bool} (I : Ok K mg R F H σ δ [v] [d]) (l : keep.length = vs.length) (k : ∀ i : Nat, keep[i]? = some true → σ[i]? = (vs.map some)[i]?) : Ok K mg R F H [] [] (v :: vs) (d :: keepL keep δ) := by
  obtain ⟨fh, rh, sep, fp, f1, f2, nd, cl, p, a, b⟩ := I
  obtain ⟨g1, g2, q, o⟩ := a.keep l k
  obtain ⟨h1, h2, q2, c, e⟩ := b.uncons
  have e0 : h2 = [] := by simp only [OwnL] at e; exact e.1
  subst e0
  have p' : fp.Perm ((h1 ++ g1) ++ g2) := by
    refine p.trans ((q.append_right f2).trans ?_)
    refine (q2.append_left (g1 ++ g2)).trans ?_
    rw [List.append_nil]
    refine List.perm_append_comm.trans ?_
    rw [List.append_assoc]
  exact ⟨fh, rh, sep, h1 ++ g1, [], h1 ++ g1, (List.nodup_append.mp (p'.nodup_iff.mp nd)).1, fun x hx => cl x (p'.mem_iff.mpr (List.mem_append_left _ hx)), .refl _, ⟨rfl, rfl⟩, OwnL.cons c o⟩
theorem Ok.reset {σ : L2.St} {δ : List D} {vs : List V} {ds : List D} (I : Ok K mg R F H σ δ vs ds) : Ok K mg R F H [] [] [] [] :=
  ⟨I.fh, I.rh, I.sep, [], [], [], List.nodup_nil, (fun _ z => nomatch z), .refl _, ⟨rfl, rfl⟩, OwnL.nil⟩
theorem Ok.bare {σ : L2.St} {δ : List D} {vs : List V} {ds : List D} (I : Ok K mg R F H σ δ vs ds) : Ok K mg R F H [] [] [] [] :=
  ⟨I.fh, I.rh, I.sep, [], [], [], List.nodup_nil, (fun _ z => nomatch z), .refl _, ⟨rfl, rfl⟩, OwnL.nil⟩
end
section
variable {P : Program} {w : World} {K : PySem.W.Frag} {mg : Mg} {base : Heap}
/-- a def keeps the promise of what its body denotes -/
theorem def_ok {x qual : Str} {st : Stmt} {f : Addr} {fd : FuncData} {N ps : List Str} {k : Nat} {keep : List Bool} {g : M Fl} (FN : Fun K x qual st f fd) (S : FnScope N ps (defScope st)) (hk : keep.length = ps.length) (hn : ps.length ≤ N.length)
    (hbody : ∀ (cdv : Value) (A : Around) (outer : List Env) (s : Shared) (H : Hp) (E : XK), Room k (A.deeper (envOfC qual (defScope st) s.heap.objs.size f cdv)) →
      ∃ t, SSs (cxOf (L2.CX P w) P w K mg base N qual (defScope st) f cdv A outer s H E) (fun cls d _ H => E cls d H) keep (defBody st) t g) : FnOk P w K mg base (L2.CX P w) (k + 1) f fd ps (spOf K mg ps.length (fnD N.length ps.length keep g)) := by
  refine FN.okX S (fun vs H Q E h => ?_) (fun cdv A outer s H vs Q E hr h => ?_)
  · obtain ⟨R, F, ds, l, I, _⟩ := h
    rw [I.lens, l]
  · obtain ⟨R, F, ds, l, I, q⟩ := h
    obtain ⟨t, ht⟩ := hbody cdv A outer s H E hr
    refine ⟨t, ht.pe, ?_⟩
    have lv : vs.length = ps.length := by rw [I.lens, l]
    unfold fnD at q
    rw [if_pos l] at q
    have I0 := I.enter (N.length - ps.length)
    have e0 : L2.start N vs = vs.map some ++ List.replicate (N.length - ps.length) Option.none := by unfold L2.start; rw [lv]
    rw [e0]
    have key : ∀ {σ' : L2.St}, Fx keep (vs.map some ++ List.replicate (N.length - ps.length) Option.none) σ' → ∀ i : Nat, keep[i]? = some true → σ'[i]? = (vs.map some)[i]? := fun {σ'} x i hi => by
      rw [x.2 i hi, List.getElem?_append_left]
      rw [List.length_map, lv, ← hk]
      exact (List.getElem?_eq_some_iff.mp hi).1
    refine ht.snd R F H _ _ [] [] _ I0 ?_
    revert q
    generalize (g (ds ++ List.replicate (N.length - ps.length) D.un)) = r
    intro q
    cases r with
    | bad => exact q
    | er c ns es => exact fun F' H' cls dx σ' s _ o m xd => q F' H' cls dx s o m xd
    | ok p =>
      obtain ⟨fl, δ'⟩ := p
      cases fl with
      | nx => exact fun F' H' σ' s xx J => q F' H' .non s ((J.push (d := .non) (by simp only [Own]; exact ⟨trivial, trivial⟩)).leave (hk.trans lv.symm) (key xx))
      | bk => exact q.elim
      | ct => exact q.elim
      | rt d => exact fun F' H' σ' v s xx J => q F' H' v s (J.leave (hk.trans lv.symm) (key xx))
theorem bad_ok {f : Addr} {fd : FuncData} {ps : List Str} {k : Nat} {CX : CXT} {n : Nat} : FnOk P w K mg base CX k f fd ps (spOf K mg n fun _ => .bad) :=
  ⟨fun vs H Q E ⟨_, _, _, _, _, z⟩ => z.elim, fun A outer s H args us vs Q E _ _ _ _ ⟨_, _, _, _, _, z⟩ => z.elim⟩
end

/-! ### calls -/
def giveB : List (Option Nat) → List D → List D → Option (List D)
  | [], _, δ => some δ
  | _ :: _, [], δ => none
  | none :: ls, _ :: es, δ => giveB ls es δ
  | some i :: ls, e :: es, δ => match δ[i]? with
    | some .un => giveB ls es (δ.set i e)
    | _ => none
def eCall (f : Fn) (ls : List (Option Nat)) (fa : M (List D)) : M D := mbind fa fun es => fun δ => match f es with
  | .ok (d, es') => (match giveB ls es' δ with
    | some δ' => .ok (d, δ')
    | none => .bad)
  | .er c n e => .er c n e
  | .bad => .bad
section
variable {K : PySem.W.Frag} {mg : Mg} {R F F' H H' : Hp} {σ : L2.St} {vs : List V} {ds : List D}
theorem giveB_ok : ∀ {ls : List (Option Nat)} {es δ δ' : List D} {ws : List V} {v : V} {d : D}, ws.length = es.length → LendOk σ ls ws → giveB ls es δ = some δ' → Ok K mg R F H σ δ (v :: (ws ++ vs)) (d :: (es ++ ds)) → Ok K mg R F H σ δ' (v :: vs) (d :: ds)
  | [], es, δ, δ', ws, v, d, l, lo, h, I => by
    unfold giveB at h
    cases h
    exact I.popMid l
  | o :: ls, [], δ, δ', ws, v, d, l, lo, h, I => by
    unfold giveB at h
    cases h
  | none :: ls, e :: es, δ, δ', ws, v, d, l, lo, h, I => by
    unfold giveB at h
    cases ws with
    | nil => simp at l
    | cons w ws => exact giveB_ok (ls := ls) (by simpa using l) (fun j i hj => by simpa using lo (j + 1) i (by simpa using hj)) h I.swap.pop
  | some i :: ls, e :: es, δ, δ', ws, v, d, l, lo, h, I => by
    unfold giveB at h
    cases ws with
    | nil => simp at l
    | cons w ws =>
      cases e1 : δ[i]? with
      | none => rw [e1] at h; cases h
      | some d1 =>
        rw [e1] at h
        by_cases hn : d1 = .un
        · subst hn
          dsimp only at h
          obtain ⟨u, e2, e3⟩ := lo 0 i rfl
          cases e2
          exact giveB_ok (ls := ls) (by simpa using l) (fun j i hj => by simpa using lo (j + 1) i (by simpa using hj)) h (I.swap.unlend e1 e3)
        · cases d1 <;> first | exact absurd rfl hn | cases h
end
section
variable {X : Cx} {W : WX} {pa : Bool} {ls : List (Option Nat)} {e : Expr} {es : List Expr} {tr : TA} {fr : M (List D)} {pos p : Pos} {x : Str} {k n : Nat} {f : Addr} {fd : FuncData} {ps : List Str} {G : Fn}
theorem snd_call {K : PySem.W.Frag} {mg : Mg} (h : SndA K mg W pa ls tr fr) (hn : ∀ es δ δ', fr δ = .ok (es, δ') → es.length = n) : Snd K mg W false (tCallS (spOf K mg n G) (WE W) tr) (eCall G ls fr) := fun R F H σ δ vs ds Q I q => by
  unfold eCall mbind at q
  refine h.then I (fun c ns es e => by rw [e] at q; exact q) (fun e => by rw [e] at q; exact q) fun es δ1 F1 H1 ws e s1 p1 l lo I1 => ?_
  rw [e] at q
  dsimp only at q
  obtain ⟨R', IC, back⟩ := I1.call l
  refine ⟨R', F1, es, hn es δ δ1 e, IC, ?_⟩
  revert q
  cases eG : G es with
  | bad => exact fun q => q
  | er c ns es => exact fun q F' H' cls dx s J m xd => q F' H' cls dx σ (s1.trans s) rfl (back s J).bare m xd
  | ok r =>
    obtain ⟨d, es'⟩ := r
    intro q F' H' v s J
    dsimp only at q
    have B := back s J
    cases e2 : giveB ls es' δ1 with
    | none => rw [e2] at q; exact q.elim
    | some δ2 =>
      rw [e2] at q
      have l' : ws.length = es'.length := by
        have := J.lens
        simpa using this
      exact q F' H' v (s1.trans s) (fun z => nomatch z) (giveB_ok l' lo e2 B)
theorem aNil_len {es δ δ' : List D} (h : aNil δ = .ok (es, δ')) : es.length = 0 := by cases h; rfl
theorem aCons_len {fa : M D} {fr : M (List D)} {n : Nat} (hr : ∀ es δ δ', fr δ = .ok (es, δ') → es.length = n) : ∀ es δ δ', aCons fa fr δ = .ok (es, δ') → es.length = n + 1 := fun es δ δ' h => by
  unfold aCons mbind at h
  cases e : fa δ with
  | bad => rw [e] at h; cases h
  | er c n e2 => rw [e] at h; cases h
  | ok r =>
    rw [e] at h
    dsimp only at h
    cases e2 : fr r.2 with
    | bad => rw [e2] at h; cases h
    | er c n e2 => rw [e2] at h; cases h
    | ok r2 =>
      rw [e2] at h
      cases h
      simp [hr r2.1 r.2 r2.2 e2]
theorem se_call (FO : FnOk X.prog X.w X.K X.mg X.base (L2.CX X.prog X.w) k f fd ps (spOf X.K X.mg n G)) (hr : Room k X.A) (hg : Gl X x) (hm : X.mg x = some (.ref f)) (hk : PySem.W.keepIn X.K (.ref f) = true) (hb : Binds X.K fd ps []) (tk : Takes X W) (ha : SA X W pa ls (e :: es) tr fr)
    (hn : ∀ es δ δ', fr δ = .ok (es, δ') → es.length = n) (hdb : (x == ("__debug__" : Str)) = false := by decide)
    (he : starEach (e :: es) X.env = (false, eval e X.env) :: starEach es X.env := by rfl) (hpl : (backTo pos (starEach es X.env)).any (·.1) = false := by rfl) : SE X W false (.Call (.Name x p) (e :: es) [] pos) (tCallS (spOf X.K X.mg n G) (WE W) tr) (eCall G ls fr) :=
  ⟨pe_callS FO hr hg hm hk hb (fun σ => passAt tk σ) ha.pe hdb he hpl, snd_call ha.snd hn⟩
end
end Dn

set_option Elab.async false
set_option linter.all false
set_option maxRecDepth 100000
set_option maxHeartbeats 4000000
namespace Dn
open PySem L2 PyProof.Rows
section
variable {K : PySem.W.Frag} {mg : Mg} {R F F' H H' : Hp} {σ : L2.St} {δ : List D} {vs : List V} {ds : List D}
/-- several uppermost ones, opened -/
theorem Ok.focusL {es0 : List D} {ws0 : List V} (l : ws0.length = es0.length) (I : Ok K mg R F H σ δ (ws0 ++ vs) (es0 ++ ds)) : ∃ f, OwnL K mg F H es0 f ws0 ∧ f.Nodup ∧ (∀ a ∈ f, F a = none ∧ R a = none) ∧
    (∀ {es : List D} {ws : List V}, OwnL K mg F H es f ws → Ok K mg R F H σ δ (ws ++ vs) (es ++ ds)) ∧
    (∀ {H' : Hp} {es : List D} {f' : List Addr} {ws : List V}, OwnL K mg F H' es f' ws → f'.Nodup → (∀ a ∈ f', a ∈ f ∨ H a = none) → (∀ a o, H a = some o → a ∉ f → H' a = some o) → Ok K mg R F H' σ δ (ws ++ vs) (es ++ ds)) := by
  obtain ⟨fh, rh, sep, fp, f1, f2, nd, cl, p, a, b⟩ := I
  obtain ⟨g1, g2, q, c, e⟩ := OwnL.unapp l b
  have p' : fp.Perm (g1 ++ (f1 ++ g2)) := by
    refine p.trans ((q.append_left f1).trans ?_)
    rw [← List.append_assoc, ← List.append_assoc]
    exact List.perm_append_comm.append_right g2
  have nd' := List.nodup_append.mp (p'.nodup_iff.mp nd)
  have cl1 : ∀ x ∈ g1, F x = none ∧ R x = none := fun x hx => cl x (p'.mem_iff.mpr (List.mem_append_left _ hx))
  refine ⟨g1, c, nd'.1, cl1, fun {es ws} o => ⟨fh, rh, sep, fp, f1, f2, nd, cl, p, a, (o.app e).perm q.symm⟩, fun {H' es g' ws} o' n' fr kp => ?_⟩
  have dm : ∀ x ∈ f1 ++ g2, ∃ o, H x = some o := fun x hx => (List.mem_append.mp hx).elim (fun z => let ⟨o, e, _⟩ := a.dom x z; ⟨o, e⟩) (fun z => let ⟨o, e, _⟩ := OwnL.dom e x z; ⟨o, e⟩)
  have kr : ∀ x ∈ f1 ++ g2, H' x = H x := fun x hx => by
    obtain ⟨o, e⟩ := dm x hx
    rw [e]
    exact kp x o e fun z => nd'.2.2 x z x hx rfl
  refine ⟨fun x o q => kp x o (fh _ _ q) (fun z => by rw [(cl1 x z).1] at q; cases q), fun x o q => kp x o (rh _ _ q) (fun z => by rw [(cl1 x z).2] at q; cases q), sep, g' ++ (f1 ++ g2), f1, g' ++ g2, ?_, ?_, ?_, a.mono (Same.refl _) (fun x hx => kr x (List.mem_append_left _ hx)), OwnL.app o' (e.mono (Same.refl _) (fun x hx => kr x (List.mem_append_right _ hx)))⟩
  · refine List.nodup_append.mpr ⟨n', nd'.2.1, fun x hx y hy z => ?_⟩
    subst z
    rcases fr x hx with z | z
    · exact nd'.2.2 x z x hy rfl
    · obtain ⟨o, e⟩ := dm x hy
      rw [z] at e; cases e
  · intro x hx
    rcases List.mem_append.mp hx with hx | hx
    · rcases fr x hx with z | z
      · exact cl1 x z
      · constructor
        · cases q : F x with
          | none => rfl
          | some o => rw [fh _ _ q] at z; cases z
        · cases q : R x with
          | none => rfl
          | some o => rw [rh _ _ q] at z; cases z
    · exact cl x (p'.mem_iff.mpr (List.mem_append_right _ hx))
  · rw [← List.append_assoc, ← List.append_assoc]
    exact List.perm_append_comm.append_right g2
/-- the uppermost goes under hv, and back -/
theorem Ok.sink {v : V} {d : D} {hv : List V} {hd : List D} (l : hv.length = hd.length) (I : Ok K mg R F H σ δ (v :: (hv ++ vs)) (d :: (hd ++ ds))) : Ok K mg R F H σ δ (hv ++ v :: vs) (hd ++ d :: ds) := by
  obtain ⟨fh, rh, sep, fp, f1, f2, nd, cl, p, a, b⟩ := I
  obtain ⟨g1, g2, q, c, e⟩ := b.uncons
  obtain ⟨g3, g4, q2, c2, e2⟩ := OwnL.unapp l e
  refine ⟨fh, rh, sep, fp, f1, f2, nd, cl, p, a, (c2.app (OwnL.cons c e2)).perm ?_⟩
  refine List.Perm.symm (q.trans ((q2.append_left g1).trans ?_))
  rw [← List.append_assoc, ← List.append_assoc]
  exact List.perm_append_comm.append_right g4
theorem Ok.raise {v : V} {d : D} {hv : List V} {hd : List D} (l : hv.length = hd.length) (I : Ok K mg R F H σ δ (hv ++ v :: vs) (hd ++ d :: ds)) : Ok K mg R F H σ δ (v :: (hv ++ vs)) (d :: (hd ++ ds)) := by
  obtain ⟨fh, rh, sep, fp, f1, f2, nd, cl, p, a, b⟩ := I
  obtain ⟨g1, g2, q, c, e⟩ := OwnL.unapp l b
  obtain ⟨g3, g4, q2, c2, e2⟩ := e.uncons
  refine ⟨fh, rh, sep, fp, f1, f2, nd, cl, p, a, (OwnL.cons c2 (c.app e2)).perm ?_⟩
  refine List.Perm.symm (q.trans ((q2.append_left g1).trans ?_))
  rw [← List.append_assoc, ← List.append_assoc]
  exact List.perm_append_comm.append_right g4
theorem Ok.raise2 {v u : V} {d e : D} {hv : List V} {hd : List D} (l : hv.length = hd.length) (I : Ok K mg R F H σ δ (u :: (hv ++ v :: vs)) (e :: (hd ++ d :: ds))) : Ok K mg R F H σ δ (u :: v :: (hv ++ vs)) (e :: d :: (hd ++ ds)) :=
  (Ok.raise (hv := u :: hv) (hd := e :: hd) (by simp [l]) I).swap
/-- a value is put behind an own list -/
theorem Ok.append {x r : V} {dx : D} {xs : List D} (I : Ok K mg R F H σ δ (x :: r :: vs) (dx :: .lst true xs :: ds)) :
    ∃ (a : Addr) (ws : List V), r = .ref a ∧ H a = some (.lst ws) ∧ ws.length = xs.length ∧ Ok K mg R F (upd H a (.lst (ws ++ [x]))) σ δ (r :: vs) (.lst true (xs ++ [dx]) :: ds) := by
  obtain ⟨f, o, nd, cl, _, back⟩ := I.focusL (ws0 := [x, r]) (es0 := [dx, .lst true xs]) rfl
  obtain ⟨f1, f2, p, o1, o2⟩ := o.uncons
  obtain ⟨f3, f4, p2, o3, o4⟩ := o2.uncons
  have e4 : f4 = [] := by simp only [OwnL] at o4; exact o4.1
  subst e4
  simp only [Own] at o3
  obtain ⟨a, ws, g, rfl, ol, q⟩ := o3
  rcases q with ⟨z, _⟩ | ⟨_, p3, hH⟩
  · cases z
  · have pf : f.Perm (a :: (g ++ f1)) := by
      refine p.trans ((p2.append_left f1).trans ?_)
      rw [List.append_nil]
      exact (p3.append_left f1).trans (List.perm_append_comm.trans (.refl _))
    have na := (List.nodup_cons.mp (pf.nodup_iff.mp nd)).1
    have kp : ∀ b, b ≠ a → (upd H a (.lst (ws ++ [x]))) b = H b := fun b hb => upd_ne hb
    refine ⟨a, ws, rfl, hH, ol.len, back (es := [.lst true (xs ++ [dx])]) (ws := [.ref a]) (f' := a :: (g ++ f1)) (OwnL.one ?_) (pf.nodup_iff.mp nd) (fun b hb => .inl (pf.mem_iff.mpr hb)) (fun b o e hb => ?_)⟩
    · simp only [Own]
      refine ⟨a, ws ++ [x], g ++ f1, rfl, ?_, .inr ⟨trivial, .refl _, upd_same⟩⟩
      refine OwnL.app (ol.mono (Same.refl _) fun b hb => kp b fun z => na (z ▸ List.mem_append_left _ hb)) (OwnL.one (o1.mono (Same.refl _) fun b hb => kp b fun z => na (z ▸ List.mem_append_right _ hb)))
    · rw [kp b (fun z => hb (pf.mem_iff.mpr (z ▸ List.mem_cons_self)))]
      exact e
end

/-! ### list comprehensions, one clause -/
def wipeD (δ : List D) : List Nat → List D
  | [] => δ
  | v :: vs => (wipeD δ vs).set v .un
def lcL (own : List Nat) (g : D → List D → Option (List D)) (ft : M Bool) (fe : M D) : List D → M (List D)
  | [] => mret []
  | x :: xs => fun δ => match g x δ with
    | none => .bad
    | some δ1 => (match ft δ1 with
      | .ok (true, δ2) => (match fe δ2 with
        | .ok (y, δ3) => (match lcL own g ft fe xs (wipeD δ3 own) with
          | .ok (ys, δ4) => .ok (y :: ys, δ4)
          | _ => .bad)
        | _ => .bad)
      | .ok (false, δ2) => lcL own g ft fe xs (wipeD δ2 own)
      | _ => .bad)
def eLc (own : List Nat) (fi : M (List D)) (g : D → List D → Option (List D)) (ft : M Bool) (fe : M D) : M D := mbind fi fun xs => fun δ => if xs.length ≤ 100000 then (match lcL own g ft fe xs (wipeD δ own) with
  | .ok (ys, δ') => .ok (.lst true ys, wipeD δ' own)
  | _ => .bad) else .bad
abbrev W0 : WX := fun _ _ _ _ => False
theorem wipeD_length (δ : List D) : ∀ own : List Nat, (wipeD δ own).length = δ.length
  | [] => rfl
  | v :: vs => by unfold wipeD; rw [List.length_set, wipeD_length δ vs]
theorem wipeD_out {δ : List D} {i : Nat} : ∀ {own : List Nat}, i ∉ own → (wipeD δ own)[i]? = δ[i]?
  | [], _ => rfl
  | v :: vs, h => by
    unfold wipeD
    rw [List.mem_cons, not_or] at h
    rw [List.getElem?_set_ne (Ne.symm h.1)]
    exact wipeD_out h.2
theorem wipeD_in {δ : List D} {i : Nat} : ∀ {own : List Nat}, i ∈ own → i < δ.length → (wipeD δ own)[i]? = some .un
  | v :: vs, h, hi => by
    unfold wipeD
    by_cases e : v = i
    · subst e
      rw [List.getElem?_set_self (by rw [wipeD_length]; exact hi)]
    · rw [List.getElem?_set_ne e]
      exact wipeD_in ((List.mem_cons.mp h).elim (fun z => absurd z.symm e) id) hi
theorem wipe_in {σ : L2.St} {i : Nat} : ∀ {own : List Nat}, i ∈ own → i < σ.length → (wipe σ own)[i]? = some none
  | v :: vs, h, hi => by
    unfold wipe
    by_cases e : v = i
    · subst e
      rw [List.getElem?_set_self (by rw [wipe_length]; exact hi)]
    · rw [List.getElem?_set_ne e]
      exact wipe_in ((List.mem_cons.mp h).elim (fun z => absurd z.symm e) id) hi
theorem wipe_eq {σ σ2 : L2.St} {own : List Nat} (l : σ2.length = σ.length) (k : ∀ i : Nat, i ∉ own → σ2[i]? = σ[i]?) : wipe σ2 own = wipe σ own := List.ext_getElem? fun i => by
  by_cases h : i ∈ own
  · by_cases hi : i < σ.length
    · rw [wipe_in h hi, wipe_in h (by omega)]
    · rw [List.getElem?_eq_none (by rw [wipe_length]; omega), List.getElem?_eq_none (by rw [wipe_length]; omega)]
  · rw [wipe_out h, wipe_out h, k i h]
section
variable {K : PySem.W.Frag} {mg : Mg} {W : WX} {R F F' H H' : Hp} {σ : L2.St} {δ : List D} {vs : List V} {ds : List D}
theorem Ok.wiped {own : List Nat} (I : Ok K mg R F H σ δ vs ds) : Ok K mg R F H (wipe σ own) (wipeD δ own) vs ds := I.reslot (wipeD_length ..) (wipe_length ..) fun i => by
  by_cases h : i ∈ own
  · by_cases hi : i < δ.length
    · exact .inr (wipeD_in h hi)
    · refine .inl ⟨?_, ?_⟩
      · rw [List.getElem?_eq_none (by rw [wipeD_length]; omega), List.getElem?_eq_none (by omega)]
      · have := I.lenS
        rw [List.getElem?_eq_none (by rw [wipe_length]; omega), List.getElem?_eq_none (by omega)]
  · exact .inl ⟨wipeD_out h, wipe_out h⟩
theorem Ok.unwiped {own : List Nat} {σ2 : L2.St} (I : Ok K mg R F H σ2 δ vs ds) (l : σ2.length = σ.length) (k : ∀ i : Nat, i ∉ own → σ2[i]? = σ[i]?) : Ok K mg R F H σ (wipeD δ own) vs ds := I.reslot (wipeD_length ..) l.symm fun i => by
  by_cases h : i ∈ own
  · by_cases hi : i < δ.length
    · exact .inr (wipeD_in h hi)
    · refine .inl ⟨?_, ?_⟩
      · rw [List.getElem?_eq_none (by rw [wipeD_length]; omega), List.getElem?_eq_none (by omega)]
      · have := I.lenS
        rw [List.getElem?_eq_none (by omega), List.getElem?_eq_none (by omega)]
  · exact .inl ⟨wipeD_out h, (k i h).symm⟩
theorem snd_lc {own gs : List Nat} {wi : TI} {tg : TG} {tt : TT} {te : TE} {pa pb : Bool} {fi : M (List D)} {g : D → List D → Option (List D)} {ft : M Bool} {fe : M D} (hi : SndI K mg W wi fi) (hg : SndG K mg gs tg g) (ht : SndT K mg W0 pa tt ft) (he : Snd K mg W0 pb te fe)
    (hgo : ∀ i ∈ gs, i ∈ own) : Snd K mg W false (tLc wi tg tt te own) (eLc own fi g ft fe) := fun R F H σ δ vs ds Q I q => by
  unfold eLc mbind at q
  refine hi.then I (fun c ns es e => by rw [e] at q; exact q) (fun e => by rw [e] at q; exact q) fun xs δ1 F1 H1 J hv hd e s1 it I1 Dl hD => ?_
  rw [e] at q
  dsimp only at q
  by_cases hz : xs.length ≤ 100000
  · rw [if_pos hz] at q
    cases er : lcL own g ft fe xs (wipeD δ1 own) with
    | bad => rw [er] at q; exact q.elim
    | er c n e => rw [er] at q; exact q.elim
    | ok r =>
      obtain ⟨ysA, δf⟩ := r
      rw [er] at q
      dsimp only at q
      -- the state between two turns
      have St0 : Ok K mg R F1 (upd H1 Dl (.lst [])) (wipe σ own) (wipeD δ1 own) (.ref Dl :: (hv ++ vs)) (.lst true [] :: (hd ++ ds)) := (I1.newL (ws := []) (es := []) rfl hD).wiped
      refine ⟨fun i m H' => m = xs.length - i ∧ i ≤ xs.length ∧ ∃ F' δi acc, Same F1 F' ∧ acc.length ≤ i ∧ Ok K mg R F' H' (wipe σ own) δi (.ref Dl :: (hv ++ vs)) (.lst true acc :: (hd ++ ds)) ∧ ∃ ys, lcL own g ft fe (xs.drop i) δi = .ok (ys, δf) ∧ acc ++ ys = ysA,
        ⟨xs.length, by simp, Nat.zero_le _, F1, wipeD δ1 own, [], Same.refl _, Nat.le_refl _, St0, ysA, by rw [List.drop_zero]; exact er, rfl⟩, ?_⟩
      rintro i m H2 ⟨rfl, hle, F2, δ2, acc, s2, hl, I2, ys, ey, ea⟩
      have put : ∀ {d : D} {v : V} {J2 : List V} {E2 : List D}, True := trivial
      by_cases hlt : i < xs.length
      · have ed : xs.drop i = xs[i] :: xs.drop (i + 1) := List.drop_eq_getElem_cons hlt
        rw [ed] at ey
        unfold lcL at ey
        refine .inr ⟨it.go i R F2 H2 (wipe σ own) δ2 (.ref Dl :: vs) (.lst true acc :: ds) hlt ?_, fun H' => ∃ F' δi acc, Same F1 F' ∧ acc.length ≤ i + 1 ∧ Ok K mg R F' H' (wipe σ own) δi (.ref Dl :: (hv ++ vs)) (.lst true acc :: (hd ++ ds)) ∧ ∃ ys, lcL own g ft fe (xs.drop (i + 1)) δi = .ok (ys, δf) ∧ acc ++ ys = ysA,
          fun H' h => ⟨xs.length - (i + 1), by omega, rfl, hlt, h⟩, fun x H3 y => ?_⟩
        · exact Ok.sink it.len I2
        · cases eg : g xs[i] δ2 with
          | none => rw [eg] at ey; cases ey
          | some δ3 =>
            rw [eg] at ey
            dsimp only at ey
            obtain ⟨F3, s3, I3⟩ := it.yld i xs[i] x R F2 H2 H3 (wipe σ own) δ2 (.ref Dl :: vs) (.lst true acc :: ds) (List.getElem?_eq_getElem hlt) (Ok.sink it.len I2) y
            refine hg R F3 H3 (wipe σ own) δ2 δ3 x xs[i] _ _ _ I3 eg fun σ4 l4 k4 I4 => ?_
            have w4 : wipe σ4 own = wipe σ own := wipe_eq (by rw [l4, wipe_length]) fun j hj => by
              rw [k4 j (fun z => hj (hgo j z)), wipe_out hj]
            have l4' : σ4.length = σ.length := by rw [l4, wipe_length]
            have kk : ∀ j : Nat, j ∉ own → σ4[j]? = (wipe σ own)[j]? := fun j hj => k4 j fun z => hj (hgo j z)
            refine ⟨w4, ht.then I4 (fun c ns es e => ?_) (fun e => ?_) fun b δ5 F5 H5 e5 s5 p5 I5 => ?_⟩
            · rw [e] at ey; cases ey
            · rw [e] at ey; cases ey
            · rw [e5] at ey
              cases b with
              | false =>
                dsimp only at ey
                show ∃ F' δi acc, _
                exact ⟨F5, wipeD δ5 own, acc, s2.trans (s3.trans s5), Nat.le_succ_of_le hl, Ok.raise it.len (I5.unwiped (σ := wipe σ own) l4 kk), ys, ey, ea⟩
              | true =>
                dsimp only at ey
                rw [if_pos rfl]
                refine he.then I5 (fun c ns es e => ?_) (fun e => ?_) fun d δ6 F6 H6 v e6 s6 p6 I6 => ?_
                · rw [e] at ey; cases ey
                · rw [e] at ey; cases ey
                · rw [e6] at ey
                  dsimp only at ey
                  cases e7 : lcL own g ft fe (xs.drop (i + 1)) (wipeD δ6 own) with
                  | bad => rw [e7] at ey; cases ey
                  | er c n e => rw [e7] at ey; cases ey
                  | ok r7 =>
                    obtain ⟨ys7, δ7⟩ := r7
                    rw [e7] at ey
                    cases ey
                    obtain ⟨a, ws, ea2, hH, lw, I7⟩ := (Ok.raise2 it.len I6).append
                    cases ea2
                    refine ⟨ws, hH, by rw [lw]; exact sz_lt (by omega), F6, wipeD δ6 own, acc ++ [d], s2.trans (s3.trans (s5.trans s6)), by simp; omega, I7.unwiped (σ := wipe σ own) l4 kk, ys7, e7, ?_⟩
                    rw [List.append_assoc]; exact ea
      · have e0 : i = xs.length := by omega
        subst e0
        rw [List.drop_length] at ey
        unfold lcL at ey
        cases ey
        rw [List.append_nil] at ea
        subst ea
        refine .inl ⟨it.stop _ R F2 H2 (wipe σ own) δf (.ref Dl :: vs) (.lst true acc :: ds) rfl (Ok.sink it.len I2), ?_⟩
        exact q F2 H2 (.ref Dl) (s1.trans s2) (fun z => nomatch z) ((I2.popMid it.len).unwiped (wipe_length ..) fun j hj => wipe_out hj)
  · rw [if_neg hz] at q; exact q.elim
end
end Dn

set_option Elab.async false
set_option linter.all false
set_option maxRecDepth 100000
set_option maxHeartbeats 4000000
namespace Dn
open PySem L2 PyProof.Rows
section
variable {K : PySem.W.Frag} {mg : Mg} {R F F' H H' : Hp} {σ : L2.St} {δ : List D} {vs : List V} {ds : List D}
def listOf : D → Option (List D)
  | .lst _ xs => some xs
  | .scr xs => some xs
  | _ => none
def seqOf : D → Option (List D)
  | .lst _ xs => some xs
  | .scr xs => some xs
  | .tup xs => some xs
  | .ktp xs => some xs
  | _ => none
def tupOf : D → Option (List D)
  | .tup xs => some xs
  | .ktp xs => some xs
  | _ => none
theorem OwnL.at {ds : List D} {f : List Addr} {ws : List V} {i : Nat} {d : D} (h : OwnL K mg F H ds f ws) (e : ds[i]? = some d) (p : Dn.pure d = true) : ∃ w, ws[i]? = some w ∧ Own K mg F H d [] w := by
  obtain ⟨v, f1, f2, e1, q, a, _⟩ := h.split e
  have := a.pure p
  subst this
  exact ⟨v, e1, a⟩
theorem Ok.asList {d : D} {v : V} {xs : List D} (I : Ok K mg R F H σ δ (v :: vs) (d :: ds)) (e : listOf d = some xs) :
    ∃ (a : Addr) (ws : List V), v = .ref a ∧ SqL K H a ws ∧ ws.length = xs.length ∧ ∀ (i : Nat) (x : D), xs[i]? = some x → pure x = true → ∃ w, ws[i]? = some w ∧ Own K mg F H x [] w := by
  obtain ⟨f, o, _⟩ := I.top
  cases d with
  | lst b ys =>
    cases e
    simp only [Own] at o
    obtain ⟨a, ws, g, rfl, ol, q⟩ := o
    refine ⟨a, ws, rfl, ?_, ol.len, fun i x h p => ol.at h p⟩
    rcases q with ⟨_, _, _, q⟩ | ⟨_, _, q⟩
    · exact SqL.of (I.fh _ _ q)
    · exact SqL.of q
  | scr ys =>
    cases e
    simp only [Own] at o
    obtain ⟨_, a, ws, rfl, q, ol⟩ := o
    exact ⟨a, ws, rfl, I.fh.seq q, ol.len, fun i x h p => ol.at h p⟩
  | _ => cases e
theorem Ok.asTup {d : D} {v : V} {xs : List D} (I : Ok K mg R F H σ δ (v :: vs) (d :: ds)) (e : tupOf d = some xs) :
    ∃ (a : Addr) (ws : List V), v = .ref a ∧ SqT K H a ws ∧ ws.length = xs.length ∧ ∀ (i : Nat) (x : D), xs[i]? = some x → pure x = true → ∃ w, ws[i]? = some w ∧ Own K mg F H x [] w := by
  obtain ⟨f, o, _⟩ := I.top
  cases d with
  | tup ys =>
    cases e
    simp only [Own] at o
    obtain ⟨a, ws, rfl, q, ol⟩ := o
    exact ⟨a, ws, rfl, SqT.of (I.fh _ _ q), ol.len, fun i x h p => ol.at h p⟩
  | ktp ys =>
    cases e
    simp only [Own] at o
    obtain ⟨_, a, ws, rfl, q, ol⟩ := o
    exact ⟨a, ws, rfl, Same.seqT I.fh q, ol.len, fun i x h p => ol.at h p⟩
  | _ => cases e
/-- a list that is tracked -/
theorem Ok.asLst {b : Bool} {v : V} {xs : List D} (I : Ok K mg R F H σ δ (v :: vs) (.lst b xs :: ds)) :
    ∃ (a : Addr) (ws : List V), v = .ref a ∧ H a = some (.lst ws) ∧ ws.length = xs.length ∧ (pureL xs = true → OwnL K mg F H xs [] ws) := by
  obtain ⟨f, o, _⟩ := I.top
  simp only [Own] at o
  obtain ⟨a, ws, g, rfl, ol, q⟩ := o
  refine ⟨a, ws, rfl, ?_, ol.len, fun p => by have := ol.pure p; subst this; exact ol⟩
  rcases q with ⟨_, _, _, q⟩ | ⟨_, _, q⟩
  · exact I.fh _ _ q
  · exact q
theorem pureL_at {xs : List D} {i : Nat} {d : D} (p : pureL xs = true) (e : xs[i]? = some d) : pure d = true := by
  induction xs generalizing i with
  | nil => simp at e
  | cons x xs ih =>
    simp only [pureL, Bool.and_eq_true] at p
    cases i with
    | zero => simp at e; rw [← e]; exact p.1
    | succ i => exact ih p.2 (by simpa using e)
/-! ### what is walked -/
def iL (f : M D) : M (List D) := mbind f fun d => match seqOf d with
  | some xs => if pureL xs then mret xs else mbad
  | none => mbad
theorem itOk_list {a : Addr} {d : D} {xs : List D} (e : listOf d = some xs) (p : pureL xs = true) : ItOk K mg (Itl K a) xs [.ref a] [d] where
  len := rfl
  go := fun i R F H σ δ vs ds hi I => by
    obtain ⟨b, ws, eb, sq, l, _⟩ := I.asList e
    cases eb
    exact ⟨ws, ws[i]'(by omega), sq, by simp [l, hi]⟩
  stop := fun i R F H σ δ vs ds hi I => by
    obtain ⟨b, ws, eb, sq, l, _⟩ := I.asList e
    cases eb
    exact ⟨ws, sq, by omega⟩
  yld := fun i d' x R F H H' σ δ vs ds hx I y => by
    obtain ⟨b, ws, eb, sq, l, at'⟩ := I.asList e
    cases eb
    obtain ⟨e1, y⟩ := y
    subst e1
    obtain ⟨w, e2, o⟩ := at' i d' hx (pureL_at p hx)
    have := y ws sq
    rw [e2] at this
    cases this
    exact ⟨F, Same.refl _, I.push o⟩
theorem itOk_tup {a : Addr} {d : D} {xs : List D} (e : tupOf d = some xs) (p : pureL xs = true) : ItOk K mg (Itt K a) xs [.ref a] [d] where
  len := rfl
  go := fun i R F H σ δ vs ds hi I => by
    obtain ⟨b, ws, eb, sq, l, _⟩ := I.asTup e
    cases eb
    exact ⟨ws, ws[i]'(by omega), sq, by simp [l, hi]⟩
  stop := fun i R F H σ δ vs ds hi I => by
    obtain ⟨b, ws, eb, sq, l, _⟩ := I.asTup e
    cases eb
    exact ⟨ws, sq, by omega⟩
  yld := fun i d' x R F H H' σ δ vs ds hx I y => by
    obtain ⟨b, ws, eb, sq, l, at'⟩ := I.asTup e
    cases eb
    obtain ⟨e1, y⟩ := y
    subst e1
    obtain ⟨w, e2, o⟩ := at' i d' hx (pureL_at p hx)
    have := y ws sq
    rw [e2] at this
    cases this
    exact ⟨F, Same.refl _, I.push o⟩
def rgI (lo : Int) (n : Nat) : List D := (List.range n).map fun i => .int (lo + (i : Nat))
theorem rgI_length (lo : Int) (n : Nat) : (rgI lo n).length = n := by simp [rgI]
theorem itOk_range {lo : Int} {n : Nat} : ItOk K mg (Itr lo n) (rgI lo n) [] [] where
  len := rfl
  go := fun i R F H σ δ vs ds hi I => by rw [rgI_length] at hi; exact hi
  stop := fun i R F H σ δ vs ds hi I => by rw [rgI_length] at hi; show n ≤ i; omega
  yld := fun i d' x R F H H' σ δ vs ds hx I y => by
    obtain ⟨e1, y⟩ := y
    subst e1 y
    have hi : i < n := by
      have := (List.getElem?_eq_some_iff.mp hx).1
      rwa [rgI_length] at this
    unfold rgI at hx
    rw [List.getElem?_map, List.getElem?_range hi] at hx
    cases hx
    exact ⟨F, Same.refl _, I.pushI _⟩
def iR1 (fa : M (List D)) : M (List D) := mbind fa fun es => match es with
  | [.int j] => if -(2 ^ 62) ≤ j ∧ j < 2 ^ 62 then mret (rgI 0 j.toNat) else mbad
  | _ => mbad
def iR2 (fa : M (List D)) : M (List D) := mbind fa fun es => match es with
  | [.int i, .int j] => if -(2 ^ 62) ≤ i ∧ i < 2 ^ 62 ∧ -(2 ^ 62) ≤ j ∧ j < 2 ^ 62 then mret (rgI i (j - i).toNat) else mbad
  | _ => mbad
end
section
variable {X : Cx} {W : WX} {pa pb : Bool} {a b e tg : Expr} {ta tb te : TE} {fa fb fe : M D} {pos p : Pos} {ls : List (Option Nat)} {tr : TA} {fr : M (List D)}
/-- a list that is walked -/
theorem si_list (h : SE X W pa e te fe) : SI X W tg e (iList X.K te) (mbind fe fun d => match listOf d with | some xs => if pureL xs then mret xs else mbad | none => mbad) := ⟨pi_list h.pe, fun R F H σ δ vs ds Q I q => by
  unfold mbind at q
  refine h.snd.then I (fun c ns es e => by rw [e] at q; exact q) (fun e => by rw [e] at q; exact q) fun d δ1 F1 H1 v e s1 p1 I1 => ?_
  rw [e] at q
  dsimp only at q
  cases el : listOf d with
  | none => rw [el] at q; exact q.elim
  | some xs =>
    rw [el] at q
    dsimp only at q
    cases ep : pureL xs with
    | false => rw [ep] at q; exact q.elim
    | true =>
      rw [ep, if_pos rfl] at q
      obtain ⟨a, ws, rfl, sq, l, _⟩ := I1.asList el
      exact ⟨a, rfl, ⟨ws, sq⟩, q F1 H1 _ [.ref a] [d] s1 (itOk_list el ep) I1⟩⟩
theorem si_tup (h : SE X W pa e te fe) : SI X W tg e (iTup X.K te) (mbind fe fun d => match tupOf d with | some xs => if pureL xs then mret xs else mbad | none => mbad) := ⟨pi_tup h.pe, fun R F H σ δ vs ds Q I q => by
  unfold mbind at q
  refine h.snd.then I (fun c ns es e => by rw [e] at q; exact q) (fun e => by rw [e] at q; exact q) fun d δ1 F1 H1 v e s1 p1 I1 => ?_
  rw [e] at q
  dsimp only at q
  cases el : tupOf d with
  | none => rw [el] at q; exact q.elim
  | some xs =>
    rw [el] at q
    dsimp only at q
    cases ep : pureL xs with
    | false => rw [ep] at q; exact q.elim
    | true =>
      rw [ep, if_pos rfl] at q
      obtain ⟨a, ws, rfl, sq, l, _⟩ := I1.asTup el
      exact ⟨a, rfl, ⟨ws, sq⟩, q F1 H1 _ [.ref a] [d] s1 (itOk_tup el ep) I1⟩⟩
theorem own_ints1 {K : PySem.W.Frag} {mg : Mg} {R F H : Hp} {σ : L2.St} {δ : List D} {vs : List V} {ds : List D} {ws : List V} {i : Int} (l : ws.length = 1) (I : Ok K mg R F H σ δ (ws ++ vs) ([.int i] ++ ds)) : ws = [.int i] := by
  match ws, l with
  | [w], _ => rw [own_int (v := w) (ds := ds) (vs := vs) I]
theorem own_ints2 {K : PySem.W.Frag} {mg : Mg} {R F H : Hp} {σ : L2.St} {δ : List D} {vs : List V} {ds : List D} {ws : List V} {i j : Int} (l : ws.length = 2) (I : Ok K mg R F H σ δ (ws ++ vs) ([.int i, .int j] ++ ds)) : ws = [.int i, .int j] := by
  match ws, l with
  | [w, u], _ =>
    have h1 := own_int (v := w) (ds := .int j :: ds) (vs := u :: vs) I
    have h2 := own_int (v := u) (ds := ds) (vs := vs) I.pop
    rw [h1, h2]
theorem si_range1 (hg : Gl X "range") (hm : X.mg "range" = none) (h : SA X W pa ls [a] tr fr) (hs : starEach [a] X.env = [(false, eval a X.env)] := by rfl) : SI X W tg (.Call (.Name "range" p) [a] [] pos) (iRng1 tr) (iR1 fr) := ⟨pi_range1 hg hm h.pe hs, fun R F H σ δ vs ds Q I q => by
  unfold iR1 mbind at q
  refine h.snd.then I (fun c ns es e => by rw [e] at q; exact q) (fun e => by rw [e] at q; exact q) fun es δ1 F1 H1 ws e s1 p1 l lo I1 => ?_
  rw [e] at q
  dsimp only at q
  split at q
  · rename_i j
    split at q
    · rename_i hb
      refine ⟨j, own_ints1 l I1, hb.1, hb.2, ?_⟩
      exact q F1 H1 _ [] [] s1 itOk_range (I1.popN l)
    · exact q.elim
  · exact q.elim⟩
theorem si_range2 (hg : Gl X "range") (hm : X.mg "range" = none) (h : SA X W pa ls [a, b] tr fr) (hs : starEach [a, b] X.env = [(false, eval a X.env), (false, eval b X.env)] := by rfl) (hs2 : starEach [b] X.env = [(false, eval b X.env)] := by rfl) : SI X W tg (.Call (.Name "range" p) [a, b] [] pos) (iRng2 tr) (iR2 fr) := ⟨pi_range2 hg hm h.pe hs hs2, fun R F H σ δ vs ds Q I q => by
  unfold iR2 mbind at q
  refine h.snd.then I (fun c ns es e => by rw [e] at q; exact q) (fun e => by rw [e] at q; exact q) fun es δ1 F1 H1 ws e s1 p1 l lo I1 => ?_
  rw [e] at q
  dsimp only at q
  split at q
  · rename_i i j
    split at q
    · rename_i hb
      exact ⟨i, j, own_ints2 l I1, hb, q F1 H1 _ [] [] s1 itOk_range (I1.popN l)⟩
    · exact q.elim
  · exact q.elim⟩

/-! ### operators -/
theorem mopt_some {α : Type} {x : Option α} : True := trivial
def dAdd : D → D → Option D
  | .int a, .int b => some (.int (a + b))
  | .str a, .str b => if a.length + b.length ≤ 100000 then some (.str (a ++ b)) else none
  | .lst _ a, .lst _ b => if pureL a && pureL b && decide (a.length + b.length ≤ 100000) then some (.lst true (a ++ b)) else none
  | _, _ => none
def dSub : D → D → Option D
  | .int a, .int b => some (.int (a - b))
  | _, _ => none
def dMul : D → D → Option D
  | .int a, .int b => if (-(2 ^ 64) < a ∧ a < 2 ^ 64) ∨ (-(2 ^ 64) < b ∧ b < 2 ^ 64) then some (.int (a * b)) else none
  | _, _ => none
def dDiv : D → D → Option D
  | .int a, .int b => if b ≠ 0 ∧ b.natAbs < 1073741824 then some (.int (a.fdiv b)) else none
  | _, _ => none
def dMod : D → D → Option D
  | .int a, .int b => if b ≠ 0 then some (.int (a.fmod b)) else none
  | _, _ => none
def dPow : D → D → Option D
  | .int a, .int b => if 0 ≤ b ∧ b ≤ 1000000 ∧ a.natAbs < 2 ^ 64 then some (.int (a ^ b.toNat)) else none
  | _, _ => none
def dLt : D → D → Option D
  | .int a, .int b => some (.bl (decide (a < b)))
  | _, _ => none
def dLe : D → D → Option D
  | .int a, .int b => some (.bl (decide (a ≤ b)))
  | _, _ => none
def dGt : D → D → Option D
  | .int a, .int b => some (.bl (decide (b < a)))
  | _, _ => none
def dGe : D → D → Option D
  | .int a, .int b => some (.bl (decide (b ≤ a)))
  | _, _ => none
def dNeg : D → Option D
  | .int a => some (.int (-a))
  | _ => none
def rAddX (r1 r2 r3 : R2) : R2 := fun x y H Q => r1 x y H Q ∨ r2 x y H Q ∨ r3 x y H Q
def rAddS : R2 := fun x y H Q => ∃ i j, x = .str i ∧ y = .str j ∧ i.length + j.length ≤ sizeLine ∧ Q (.str (i ++ j)) H
abbrev rAddA : R2 := rAddX (rI0 fun i j => .int (i + j)) rAddS rCat
theorem op_addA : OpR X (binaryOp .Add) rAddA := fun pins s σ H x y v u Q I rx ry h => by
  rcases h with h | h | h
  · exact op_add pins s σ H x y v u Q I rx ry h
  · exact op_add_str pins s σ H x y v u Q I rx ry h
  · exact op_cat pins s σ H x y v u Q I rx ry h
variable {K : PySem.W.Frag} {mg : Mg}
theorem own2i {R F H : Hp} {σ : L2.St} {δ : List D} {vs : List V} {ds : List D} {x y : V} {i j : Int} (I : Ok K mg R F H σ δ (y :: x :: vs) (.int j :: .int i :: ds)) : x = .int i ∧ y = .int j := ⟨own_int I.pop, own_int I⟩
theorem op2_I0 {g : Int → Int → V} {gd : Int → Int → D} {gg : D → D → Option D} (hg : ∀ dx dy d, gg dx dy = some d → ∃ i j, dx = .int i ∧ dy = .int j ∧ d = gd i j) (ho : ∀ i j F H, Own K mg F H (gd i j) [] (g i j)) : Op2 K mg (rI0 g) gg := fun R F H σ δ vs ds x y dx dy d Q I e k => by
  obtain ⟨i, j, rfl, rfl, rfl⟩ := hg dx dy d e
  obtain ⟨rfl, rfl⟩ := own2i I
  exact ⟨i, j, rfl, rfl, k F H _ (Same.refl _) (Same.refl _) (I.pop.pop.push (ho i j F H))⟩
theorem op2_I {C : Int → Int → Prop} {g : Int → Int → V} {gd : Int → Int → D} {gg : D → D → Option D} (hg : ∀ dx dy d, gg dx dy = some d → ∃ i j, dx = .int i ∧ dy = .int j ∧ d = gd i j ∧ C i j) (ho : ∀ i j F H, Own K mg F H (gd i j) [] (g i j)) : Op2 K mg (rI C g) gg := fun R F H σ δ vs ds x y dx dy d Q I e k => by
  obtain ⟨i, j, rfl, rfl, rfl, c⟩ := hg dx dy d e
  obtain ⟨rfl, rfl⟩ := own2i I
  exact ⟨i, j, rfl, rfl, c, k F H _ (Same.refl _) (Same.refl _) (I.pop.pop.push (ho i j F H))⟩
theorem ownI {F H : Hp} (i : Int) : Own K mg F H (.int i) [] (.int i) := by simp only [Own]; exact ⟨trivial, trivial⟩
theorem ownB {F H : Hp} (i : Bool) : Own K mg F H (.bl i) [] (.bl i) := by simp only [Own]; exact ⟨trivial, trivial⟩
theorem ownS {F H : Hp} (i : Str) : Own K mg F H (.str i) [] (.str i) := by simp only [Own]; exact ⟨trivial, trivial⟩
theorem o_sub : Op2 K mg (rI0 fun i j => .int (i - j)) dSub := op2_I0 (gd := fun i j => .int (i - j)) (fun dx dy d h => by cases dx <;> cases dy <;> first | (cases h; exact ⟨_, _, rfl, rfl, rfl⟩) | cases h) fun _ _ _ _ => ownI _
theorem o_lt : Op2 K mg (rI0 fun i j => .bl (decide (i < j))) dLt := op2_I0 (gd := fun i j => .bl (decide (i < j))) (fun dx dy d h => by cases dx <;> cases dy <;> first | (cases h; exact ⟨_, _, rfl, rfl, rfl⟩) | cases h) fun _ _ _ _ => ownB _
theorem o_le : Op2 K mg (rI0 fun i j => .bl (decide (i ≤ j))) dLe := op2_I0 (gd := fun i j => .bl (decide (i ≤ j))) (fun dx dy d h => by cases dx <;> cases dy <;> first | (cases h; exact ⟨_, _, rfl, rfl, rfl⟩) | cases h) fun _ _ _ _ => ownB _
theorem o_gt : Op2 K mg (rI0 fun i j => .bl (decide (j < i))) dGt := op2_I0 (gd := fun i j => .bl (decide (j < i))) (fun dx dy d h => by cases dx <;> cases dy <;> first | (cases h; exact ⟨_, _, rfl, rfl, rfl⟩) | cases h) fun _ _ _ _ => ownB _
theorem o_ge : Op2 K mg (rI0 fun i j => .bl (decide (j ≤ i))) dGe := op2_I0 (gd := fun i j => .bl (decide (j ≤ i))) (fun dx dy d h => by cases dx <;> cases dy <;> first | (cases h; exact ⟨_, _, rfl, rfl, rfl⟩) | cases h) fun _ _ _ _ => ownB _
theorem dMul_some {dx dy d : D} (h : dMul dx dy = some d) : ∃ i j, dx = .int i ∧ dy = .int j ∧ d = .int (i * j) ∧ CMul i j := by
  unfold dMul at h
  split at h
  · split at h
    · rename_i i j c
      cases h
      exact ⟨i, j, rfl, rfl, rfl, c⟩
    · cases h
  · cases h
theorem o_mul : Op2 K mg (rI CMul fun i j => .int (i * j)) dMul := op2_I (gd := fun i j => .int (i * j)) (fun dx dy d h => dMul_some h) fun _ _ _ _ => ownI _
theorem dDiv_some {dx dy d : D} (h : dDiv dx dy = some d) : ∃ i j, dx = .int i ∧ dy = .int j ∧ d = .int (i.fdiv j) ∧ CDivN i j := by
  unfold dDiv at h
  split at h
  · split at h
    · rename_i i j c
      cases h
      exact ⟨i, j, rfl, rfl, rfl, c⟩
    · cases h
  · cases h
theorem o_div : Op2 K mg (rI CDivN fun i j => .int (i.fdiv j)) dDiv := op2_I (gd := fun i j => .int (i.fdiv j)) (fun dx dy d h => dDiv_some h) fun _ _ _ _ => ownI _
theorem dMod_some {dx dy d : D} (h : dMod dx dy = some d) : ∃ i j, dx = .int i ∧ dy = .int j ∧ d = .int (i.fmod j) ∧ j ≠ 0 := by
  unfold dMod at h
  split at h
  · split at h
    · rename_i i j c
      cases h
      exact ⟨i, j, rfl, rfl, rfl, c⟩
    · cases h
  · cases h
theorem o_mod : Op2 K mg (rI (fun _ j => j ≠ 0) fun i j => .int (i.fmod j)) dMod := op2_I (gd := fun i j => .int (i.fmod j)) (fun dx dy d h => dMod_some h) fun _ _ _ _ => ownI _
theorem dPow_some {dx dy d : D} (h : dPow dx dy = some d) : ∃ i j, dx = .int i ∧ dy = .int j ∧ d = .int (i ^ j.toNat) ∧ CPow i j := by
  unfold dPow at h
  split at h
  · split at h
    · rename_i i j c
      cases h
      exact ⟨i, j, rfl, rfl, rfl, c⟩
    · cases h
  · cases h
theorem o_pow : Op2 K mg (rI CPow fun i j => .int (i ^ j.toNat)) dPow := op2_I (gd := fun i j => .int (i ^ j.toNat)) (fun dx dy d h => dPow_some h) fun _ _ _ _ => ownI _
theorem o_neg : Op1 K mg (rU fun i => .int (-i)) dNeg := fun R F H σ δ vs ds x dx d Q I e k => by
  cases dx <;> first | (cases e; obtain rfl := own_int I; exact ⟨_, rfl, k F H _ (Same.refl _) (Same.refl _) (I.pop.pushI _)⟩) | cases e
/-- a new list of pure things -/
theorem Ok.newPure {R F H : Hp} {σ : L2.St} {δ : List D} {vs : List V} {ds : List D} {xs : List D} {ws : List V} {p : Addr} (I : Ok K mg R F H σ δ vs ds) (o : OwnL K mg F H xs [] ws) (hp : H p = none) : Ok K mg R F (upd H p (.lst ws)) σ δ (.ref p :: vs) (.lst true xs :: ds) := by
  have J : Ok K mg R F H σ δ (ws ++ vs) (xs ++ ds) := by
    obtain ⟨fh, rh, sep, fp, f1, f2, nd, cl, q, a, b⟩ := I
    exact ⟨fh, rh, sep, fp, f1, f2, nd, cl, q, a, (o.app b)⟩
  exact J.newL o.len hp
theorem sameNew {H : Hp} {p : Addr} {o : HO} (hp : H p = none) : Same H (upd H p o) := fun b o e => by rw [upd_ne (ne_of_none e hp)]; exact e
theorem o_add : Op2 K mg rAddA dAdd := fun R F H σ δ vs ds x y dx dy d Q I e k => by
  unfold dAdd at e
  split at e
  · rename_i i j
    cases e
    obtain ⟨rfl, rfl⟩ := own2i I
    exact .inl ⟨i, j, rfl, rfl, k F H _ (Same.refl _) (Same.refl _) (I.pop.pop.pushI _)⟩
  · rename_i a b
    split at e
    · rename_i hz
      cases e
      have h1 := own_str I.pop
      have h2 := own_str I
      subst h1 h2
      exact .inr (.inl ⟨a, b, rfl, rfl, sz_of hz, k F H _ (Same.refl _) (Same.refl _) (I.pop.pop.pushS _)⟩)
    · cases e
  · rename_i o1 a o2 b
    split at e
    · rename_i hz
      cases e
      rw [Bool.and_eq_true, Bool.and_eq_true, decide_eq_true_eq] at hz
      obtain ⟨⟨pa, pb⟩, hz⟩ := hz
      obtain ⟨c, ws, rfl, hc, lc, oc⟩ := I.asLst
      obtain ⟨c2, ws2, rfl, hc2, lc2, oc2⟩ := I.pop.asLst
      refine .inr (.inr ⟨c2, c, ws2, ws, rfl, rfl, hc2, hc, sz_of (by omega), fun p hp => ?_⟩)
      have o := (oc2 pa).app (oc pb)
      exact k F _ _ (Same.refl _) (sameNew hp) (I.pop.pop.newPure o hp)
    · cases e
  · cases e
/-! ### subscripts -/
theorem ixN_lt {n : Nat} {i : Int} {j : Nat} (h : ixN n i = some j) : j < n := (ixN_seq h).2.1
def dIx (d i : D) : Option D := match i with
  | .int i => (match seqOf d with
    | some xs => (match atI xs i with
      | some x => if pure x = true then some x else none
      | none => none)
    | none => none)
  | _ => none
theorem dIx_some {d i x : D} (h : dIx d i = some x) : ∃ j xs, i = .int j ∧ seqOf d = some xs ∧ atI xs j = some x ∧ pure x = true := by
  unfold dIx at h
  split at h
  · split at h
    · split at h
      · split at h
        · rename_i hs _ _ ha hp
          cases h
          exact ⟨_, _, rfl, hs, ha, hp⟩
        · cases h
      · cases h
    · cases h
  · cases h
theorem atI_map {xs : List D} {ws : List V} {i : Int} {x : D} (l : ws.length = xs.length) (e : atI xs i = some x) : ∃ j : Nat, xs[j]? = some x ∧ ∀ w, ws[j]? = some w → atI ws i = some w := by
  unfold atI at e ⊢
  cases h : ixN xs.length i with
  | none => rw [h] at e; cases e
  | some j =>
    rw [h] at e
    exact ⟨j, e, fun w hw => by rw [l, h]; exact hw⟩
theorem o_ix : Op2 K mg (rIx K) dIx := fun R F H σ δ vs ds x y dx dy d Q I e k => by
  obtain ⟨i, xs, rfl, hs, ha, hp⟩ := dIx_some e
  have hy := own_int I
  subst hy
  cases hl : listOf dx with
  | some ys =>
    have : ys = xs := by cases dx <;> first | (cases hl; cases hs; rfl) | cases hl
    subst this
    obtain ⟨a, ws, rfl, sq, l, at'⟩ := I.pop.asList hl
    obtain ⟨j, ej, fj⟩ := atI_map l ha
    obtain ⟨w, ew, o⟩ := at' j d ej hp
    exact .inl ⟨a, ws, i, w, rfl, rfl, sq, fj w ew, k F H w (Same.refl _) (Same.refl _) (I.pop.pop.push o)⟩
  | none =>
    have ht : tupOf dx = some xs := by cases dx <;> first | exact hs | exact (nomatch hl) | exact (nomatch hs)
    · obtain ⟨a, ws, rfl, sq, l, at'⟩ := I.pop.asTup ht
      obtain ⟨j, ej, fj⟩ := atI_map l ha
      obtain ⟨w, ew, o⟩ := at' j d ej hp
      exact .inr (.inl ⟨a, ws, i, w, rfl, rfl, sq, fj w ew, k F H w (Same.refl _) (Same.refl _) (I.pop.pop.push o)⟩)
theorem se_ix (ha : SE X W pa a ta fa) (hb : SE X W pb b tb fb) (hs : PlainIx b := by intro _ _; rfl) : SE X W (pa && pb) (.Subscript a b pos) (tOp (rIx X.K) ta tb) (eBin dIx fa fb) := ⟨pe_ix ix_seq ha.pe hb.pe hs, snd_op o_ix ha.snd hb.snd⟩
/-! ### calls of built-ins -/
def dAbs : List D → Option D
  | [.int i] => some (.int (if i < 0 then -i else i))
  | _ => none
def dInt : List D → Option D
  | [.int i] => some (.int i)
  | [.bl b] => some (.int (if b then 1 else 0))
  | _ => none
def dLen : List D → Option D
  | [.str z] => if z.length ≤ 100000 then some (.int z.length) else none
  | [d] => (seqOf d).map fun xs => .int xs.length
  | _ => none
theorem o_abs : OpN K mg (fun xs H Q => ∃ i, xs = [.int i] ∧ Q (.int (if i < 0 then -i else i)) H) dAbs := fun R F H σ δ vs ds ws es d Q l I e k => by
  unfold dAbs at e
  split at e
  · rename_i i
    cases e
    exact ⟨i, own_ints1 l I, k F H _ (Same.refl _) (Same.refl _) ((I.popN l).pushI _)⟩
  · cases e
theorem o_int : OpN K mg (fun xs H Q => (∃ i, xs = [.int i] ∧ Q (.int i) H) ∨ ∃ k, xs = [.bl k] ∧ Q (.int (if k then 1 else 0)) H) dInt := fun R F H σ δ vs ds ws es d Q l I e k => by
  unfold dInt at e
  split at e
  · rename_i i
    cases e
    exact .inl ⟨i, own_ints1 l I, k F H _ (Same.refl _) (Same.refl _) ((I.popN l).pushI _)⟩
  · rename_i b
    cases e
    match ws, l with
    | [w], _ =>
      have := own_bl (v := w) (vs := vs) (ds := ds) I
      exact .inr ⟨b, by rw [this], k F H _ (Same.refl _) (Same.refl _) ((I.popN (ws := [w]) (es := [.bl b]) rfl).pushI _)⟩
  · cases e
theorem o_len : OpN K mg (fun xs H Q => ∃ x n, xs = [x] ∧ LenV K x H n ∧ Q (.int n) H) dLen := fun R F H σ δ vs ds ws es d Q l I e k => by
  unfold dLen at e
  split at e
  · rename_i z
    split at e
    · rename_i hz
      cases e
      match ws, l with
      | [w], _ =>
        have := own_str (v := w) (vs := vs) (ds := ds) I
        exact ⟨.str z, z.length, by rw [this], ⟨sz_of hz, rfl⟩, k F H _ (Same.refl _) (Same.refl _) ((I.popN (ws := [w]) (es := [.str z]) rfl).pushI _)⟩
    · cases e
  · rename_i x _
    match ws, l with
    | [w], _ =>
      have I' : Ok K mg R F H σ δ (w :: vs) (x :: ds) := I
      cases x with
      | lst o xs =>
        cases e
        obtain ⟨a, us, rfl, sq, l2, _⟩ := I'.asList (xs := xs) rfl
        exact ⟨.ref a, us.length, rfl, .inl ⟨us, sq, rfl⟩, by rw [l2]; exact k F H _ (Same.refl _) (Same.refl _) (I'.pop.pushI _)⟩
      | scr xs =>
        cases e
        obtain ⟨a, us, rfl, sq, l2, _⟩ := I'.asList (xs := xs) rfl
        exact ⟨.ref a, us.length, rfl, .inl ⟨us, sq, rfl⟩, by rw [l2]; exact k F H _ (Same.refl _) (Same.refl _) (I'.pop.pushI _)⟩
      | tup xs =>
        cases e
        obtain ⟨a, us, rfl, sq, l2, _⟩ := I'.asTup (xs := xs) rfl
        exact ⟨.ref a, us.length, rfl, .inr ⟨us, sq, rfl⟩, by rw [l2]; exact k F H _ (Same.refl _) (Same.refl _) (I'.pop.pushI _)⟩
      | ktp xs =>
        cases e
        obtain ⟨a, us, rfl, sq, l2, _⟩ := I'.asTup (xs := xs) rfl
        exact ⟨.ref a, us.length, rfl, .inr ⟨us, sq, rfl⟩, by rw [l2]; exact k F H _ (Same.refl _) (Same.refl _) (I'.pop.pushI _)⟩
      | _ => cases e
  · cases e
end
end Dn

set_option Elab.async false
set_option linter.all false
set_option maxRecDepth 100000
set_option maxHeartbeats 4000000
namespace Dn
open PySem L2 PyProof.Rows
mutual
def toPy : D → Option PyData
  | .non => some .none
  | .bl b => some (.bool b)
  | .int i => some (.int i)
  | .str s => some (.str s)
  | .tup ds => (toPyL ds).map .tuple
  | .ktp ds => (toPyL ds).map .tuple
  | .lst _ ds => (toPyL ds).map .list
  | .scr ds => (toPyL ds).map .list
  | _ => none
def toPyL : List D → Option (List PyData)
  | [] => some []
  | d :: ds => match toPy d, toPyL ds with
    | some p, some ps => some (p :: ps)
    | _, _ => none
end
section
variable {K : PySem.W.Frag} {mg : Mg} {R F F' H H' : Hp} {σ : L2.St} {δ : List D} {vs : List V} {ds : List D}
mutual
theorem Own.dp (s : Same F H) : ∀ {d : D} {f : List Addr} {v : V} {p : PyData}, Own K mg F H d f v → toPy d = some p → Dp K H v p
  | .un, f, v, p, h, e => by simp [toPy] at e
  | .fn _, f, v, p, h, e => by simp [toPy] at e
  | .ty _, f, v, p, h, e => by simp [toPy] at e
  | .dK _ _ _, f, v, p, h, e => by simp [toPy] at e
  | .dT _ _ _, f, v, p, h, e => by simp [toPy] at e
  | .obj _ _ _ _, f, v, p, h, e => by simp [toPy] at e
  | .non, f, v, p, h, e => by simp only [Own] at h; simp [toPy] at e; rw [h.2, ← e]; exact .non
  | .bl _, f, v, p, h, e => by simp only [Own] at h; simp [toPy] at e; rw [h.2, ← e]; exact .bl _
  | .int _, f, v, p, h, e => by simp only [Own] at h; simp [toPy] at e; rw [h.2, ← e]; exact .int _
  | .str _, f, v, p, h, e => by simp only [Own] at h; simp [toPy] at e; rw [h.2, ← e]; exact .str _
  | .tup ds, f, v, p, h, e => by
    simp only [Own] at h
    obtain ⟨a, ws, rfl, q, ol⟩ := h
    simp only [toPy] at e
    cases e2 : toPyL ds with
    | none => rw [e2] at e; cases e
    | some ps => rw [e2] at e; cases e; exact .tup (SqT.of (s _ _ q)) (OwnL.dp s ol e2)
  | .ktp ds, f, v, p, h, e => by
    simp only [Own] at h
    obtain ⟨_, a, ws, rfl, q, ol⟩ := h
    simp only [toPy] at e
    cases e2 : toPyL ds with
    | none => rw [e2] at e; cases e
    | some ps => rw [e2] at e; cases e; exact .tup (Same.seqT s q) (OwnL.dp s ol e2)
  | .scr ds, f, v, p, h, e => by
    simp only [Own] at h
    obtain ⟨_, a, ws, rfl, q, ol⟩ := h
    simp only [toPy] at e
    cases e2 : toPyL ds with
    | none => rw [e2] at e; cases e
    | some ps => rw [e2] at e; cases e; exact .lst (s.seq q) (OwnL.dp s ol e2)
  | .lst o ds, f, v, p, h, e => by
    simp only [Own] at h
    obtain ⟨a, ws, g, rfl, ol, q⟩ := h
    simp only [toPy] at e
    cases e2 : toPyL ds with
    | none => rw [e2] at e; cases e
    | some ps =>
      rw [e2] at e; cases e
      rcases q with ⟨_, _, _, q⟩ | ⟨_, _, q⟩
      · exact .lst (SqL.of (s _ _ q)) (OwnL.dp s ol e2)
      · exact .lst (SqL.of q) (OwnL.dp s ol e2)
theorem OwnL.dp (s : Same F H) : ∀ {ds : List D} {f : List Addr} {ws : List V} {ps : List PyData}, OwnL K mg F H ds f ws → toPyL ds = some ps → DpAll K H ws ps
  | [], f, ws, ps, h, e => by simp only [OwnL] at h; simp [toPyL] at e; obtain ⟨_, rfl⟩ := h; subst e; exact .nil
  | d :: ds, f, ws, ps, h, e => by
    simp only [OwnL] at h
    obtain ⟨v, vr, f1, f2, rfl, q, a, b⟩ := h
    simp only [toPyL] at e
    split at e
    · rename_i p ps' e1 e2
      cases e
      exact .cons (Own.dp s a e1) (OwnL.dp s b e2)
    · cases e
end
end
def dEq (x y : D) : Option D := match toPy x, toPy y with
  | some p, some q => if SeqAt.shaped p && SeqAt.shaped q then some (.bl (PyData.eqv p q)) else none
  | _, _ => none
def dNe (x y : D) : Option D := match toPy x, toPy y with
  | some p, some q => if SeqAt.shaped p && SeqAt.shaped q then some (.bl (!PyData.eqv p q)) else none
  | _, _ => none
section
variable {X : Cx} {W : WX} {fx : List Bool} {pa pb pc : Bool} {a b c e f tg : Expr} {ta tb tc te : TE} {fa fb fc fe : M D} {pos p : Pos} {ls : List (Option Nat)} {tr : TA} {fr : M (List D)} {K : PySem.W.Frag} {mg : Mg}
theorem o_eq : Op2 K mg (rEqD K) dEq := fun R F H σ δ vs ds x y dx dy d Q I e k => by
  unfold dEq at e
  split at e
  · rename_i p q e1 e2
    split at e
    · rename_i hs
      cases e
      rw [Bool.and_eq_true] at hs
      obtain ⟨f, o, _⟩ := I.top
      obtain ⟨f2, o2, _⟩ := I.pop.top
      exact ⟨p, q, Own.dp I.fh o2 e1, Own.dp I.fh o e2, hs.1, hs.2, k F H _ (Same.refl _) (Same.refl _) (I.pop.pop.pushB _)⟩
    · cases e
  · cases e
theorem o_ne : Op2 K mg (rNeD K) dNe := fun R F H σ δ vs ds x y dx dy d Q I e k => by
  unfold dNe at e
  split at e
  · rename_i p q e1 e2
    split at e
    · rename_i hs
      cases e
      rw [Bool.and_eq_true] at hs
      obtain ⟨f, o, _⟩ := I.top
      obtain ⟨f2, o2, _⟩ := I.pop.top
      exact ⟨p, q, Own.dp I.fh o2 e1, Own.dp I.fh o e2, hs.1, hs.2, k F H _ (Same.refl _) (Same.refl _) (I.pop.pop.pushB _)⟩
    · cases e
  · cases e
/-- a < b < c -/
def eChain (g g' : D → D → Option D) (fa fb fc : M D) : M D := mbind fa fun x => mbind fb fun y => if pure y = true then (match g x y with
  | some (.bl true) => mbind fc fun z => mopt (g' y z)
  | some (.bl false) => mret (.bl false)
  | _ => mbad) else mbad
theorem snd_chain {r r' : R2} {g g' : D → D → Option D} (o : Op2 K mg r g) (o' : Op2 K mg r' g') (ha : Snd K mg W pa ta fa) (hb : Snd K mg W pb tb fb) (hc : Snd K mg W pc tc fc) : Snd K mg W false (tChain r r' ta tb tc) (eChain g g' fa fb fc) := fun R F H σ δ vs ds Q I q => by
  unfold eChain mbind at q
  refine ha.then I (fun c ns es e => by rw [e] at q; exact q) (fun e => by rw [e] at q; exact q) fun d δ1 F1 H1 v e s1 p1 I1 => ?_
  rw [e] at q
  dsimp only at q
  refine hb.then I1 (fun c ns es e => by rw [e] at q; exact q.shift s1) (fun e => by rw [e] at q; exact q) fun d2 δ2 F2 H2 v2 e2 s2 p2 I2 => ?_
  rw [e2] at q
  dsimp only at q
  cases hp : pure d2 with
  | false => rw [hp] at q; exact q.elim
  | true =>
    rw [hp, if_pos rfl] at q
    obtain ⟨f, oy, _⟩ := I2.top
    have := oy.pure hp
    subst this
    have J := Ok.sink (hv := [v2, v]) (hd := [d2, d]) rfl (I2.push oy)
    cases eg : g d d2 with
    | none => rw [eg] at q; exact q.elim
    | some z =>
      rw [eg] at q
      cases z with
      | bl b =>
        refine o R F2 H2 σ δ2 (v2 :: vs) (d2 :: ds) v v2 d d2 _ _ J eg fun F3 H3 z s3 k3 I3 => ?_
        have ez := own_bl I3
        refine ⟨b, ez, ?_⟩
        cases b with
        | false =>
          rw [if_neg (by decide)]
          exact q F3 H3 _ (s1.trans (s2.trans s3)) (fun z => nomatch z) (I3.pop.pop.pushB false)
        | true =>
          rw [if_pos rfl]
          dsimp only at q
          refine hc.then I3.pop (fun c ns es e => by rw [e] at q; exact (EW.shift q (s1.trans (s2.trans s3)))) (fun e => by rw [e] at q; exact q) fun d4 δ4 F4 H4 v4 e4 s4 p4 I4 => ?_
          rw [e4] at q
          dsimp only at q
          cases eg2 : g' d2 d4 with
          | none => rw [eg2] at q; exact q.elim
          | some z2 =>
            rw [eg2] at q
            exact o' R F4 H4 σ δ4 vs ds v2 v4 d2 d4 z2 Q I4 eg2 fun F5 H5 v5 s5 k5 I5 => q F5 H5 v5 (s1.trans (s2.trans (s3.trans (s4.trans s5)))) (fun z => nomatch z) I5
      | _ => exact q.elim
theorem se_chain {op op' : CmpOp} {r r' : R2} {g g' : D → D → Option D} (ho : OpR X (compareOp op) r) (ho' : OpR X (compareOp op') r') (o : Op2 X.K X.mg r g) (o' : Op2 X.K X.mg r' g') (ha : SE X W pa a ta fa) (hb : SE X W pb b tb fb) (hc : SE X W pc c tc fc)
    (h : PE X (.Compare a [op, op'] [b, c] pos) (tChain r r' ta tb tc) := by exact pe_chain ‹_› ‹_› ‹_› ‹_› ‹_›) : SE X W false (.Compare a [op, op'] [b, c] pos) (tChain r r' ta tb tc) (eChain g g' fa fb fc) := ⟨h, snd_chain o o' ha.snd hb.snd hc.snd⟩
/-! ### isinstance -/
def tyName : D → Option String
  | .non => some "NoneType" | .bl _ => some "bool" | .int _ => some "int" | .str _ => some "str"
  | .tup _ => some "tuple" | .ktp _ => some "tuple" | .lst _ _ => some "list" | .scr _ => some "list" | .dK _ _ _ => some "dict" | .dT _ _ _ => some "dict"
  | _ => none
def dIsi (T : String) : D → Option D := fun d => match tyName d with
  | some a => (kitB a T).map .bl
  | none => none
theorem Ok.tyX {R F H : Hp} {σ : L2.St} {δ : List D} {vs : List V} {ds : List D} {d : D} {v : V} {T : String} (I : Ok K mg R F H σ δ (v :: vs) (d :: ds)) (e : tyName d = some T) : TyX K H v (.type T) := by
  obtain ⟨f, o, _⟩ := I.top
  cases d with
  | non => cases e; simp only [Own] at o; rw [o.2]; exact .base .non
  | bl b => cases e; simp only [Own] at o; rw [o.2]; exact .base (.bl b)
  | int b => cases e; simp only [Own] at o; rw [o.2]; exact .base (.int b)
  | str b => cases e; simp only [Own] at o; rw [o.2]; exact .base (.str b)
  | tup ds =>
    cases e; simp only [Own] at o
    obtain ⟨a, ws, rfl, q, ol⟩ := o
    exact .base (.tup (I.fh _ _ q))
  | ktp ds =>
    cases e; simp only [Own] at o
    obtain ⟨_, a, ws, rfl, q, ol⟩ := o
    rcases Same.seqT I.fh q with (q | ⟨_, q⟩) | ⟨o, its, n, q1, q2, _⟩
    · exact .base (.tup q)
    · exact .fTuple q
    · exact .kTuple q1 q2
  | scr ds =>
    cases e; simp only [Own] at o
    obtain ⟨_, a, ws, rfl, q, ol⟩ := o
    rcases I.fh.seq q with (q | ⟨_, q⟩) | ⟨o, its, n, q1, q2, _⟩
    · exact .base (.lst q)
    · exact .base (.frz q)
    · exact .kList q1 q2
  | lst b ds =>
    cases e; simp only [Own] at o
    obtain ⟨a, ws, g, rfl, ol, q⟩ := o
    rcases q with ⟨_, _, _, q⟩ | ⟨_, _, q⟩
    · exact .base (.lst (I.fh _ _ q))
    · exact .base (.lst q)
  | dK b ks ds =>
    cases e; simp only [Own] at o
    obtain ⟨a, ws, g, rfl, _, ol, q⟩ := o
    rcases q with ⟨_, _, _, q⟩ | ⟨_, _, q⟩
    · exact .base (.dK (I.fh _ _ q))
    · exact .base (.dK q)
  | dT b ks ds =>
    cases e; simp only [Own] at o
    obtain ⟨a, ws, g, rfl, _, ol, q⟩ := o
    rcases q with ⟨_, _, _, q⟩ | ⟨_, _, q⟩
    · exact .base (.dT (I.fh _ _ q))
    · exact .base (.dT q)
  | _ => cases e
theorem se_isi {T : Str} {Tn : String} {p2 : Pos} (hg : Gl X "isinstance") (hm : X.mg "isinstance" = none) (hg2 : Gl X T) (hm2 : X.mg T = none) (hv2 : bootBuiltins T = some (.type Tn)) (ha : SE X W pa e te fe)
    (hn2 : T ≠ "__name__" := by decide) (hd2 : (T == ("__debug__" : Str)) = false := by decide)
    (he : starEach (e :: [.Name T p2]) X.env = (false, eval e X.env) :: starEach [.Name T p2] X.env := by rfl) (he2 : starEach [.Name T p2] X.env = (false, eval (.Name T p2) X.env) :: starEach [] X.env := by rfl) (hpl : (backTo pos (starEach [.Name T p2] X.env)).any (·.1) = false := by rfl) :
    SE X W pa (.Call (.Name "isinstance" p) [e, .Name T p2] [] pos) (tCB (rIsi X.K) (tCons te (tCons (tC (.ty Tn)) tNil))) (eUn (dIsi Tn) fe) := ⟨pe_callB call_isi hg hm (by decide +kernel) (pa_cons ha.pe (pa_cons (pe_bltn (v := .ty Tn) hg2 hm2 hv2 rfl hn2 hd2) pa_nil he2) he) (by decide) (by decide) he hpl, fun R F H σ δ vs ds Q I q => by
  unfold eUn mbind at q
  refine ha.snd.then I (fun c ns es e => by rw [e] at q; exact q) (fun e => by rw [e] at q; exact q) fun d δ1 F1 H1 v e s1 p1 I1 => ?_
  rw [e] at q
  dsimp only at q
  cases e1 : tyName d with
  | none => unfold dIsi at q; rw [e1] at q; exact q.elim
  | some a =>
    unfold dIsi at q
    rw [e1] at q
    dsimp only at q
    cases e2 : kitB a Tn with
    | none => rw [e2] at q; exact q.elim
    | some b =>
      rw [e2] at q
      exact ⟨v, .ty Tn, .type a, .type Tn, b, rfl, .ty Tn, I1.tyX e1, kit_ty e2, q F1 H1 _ s1 p1 (I1.pop.pushB b)⟩⟩
end
end Dn

set_option Elab.async false
set_option linter.all false
set_option maxRecDepth 100000
set_option maxHeartbeats 4000000
namespace Dn
open PySem L2 PyProof.Rows
/-! ### methods of a list in a slot -/
def isOwnL : Option D → Bool
  | some (.lst true _) => true
  | _ => false
/-- x.append(e), x in slot i -/
def eApp (i : Nat) (fe : M D) : M D := fun δ => if isOwnL δ[i]? = true then (match fe δ with
  | .ok (x, δ') => (match δ'[i]? with
    | some (.lst true xs) => if xs.length < 100000 then .ok (.non, δ'.set i (.lst true (xs ++ [x]))) else .bad
    | _ => .bad)
  | .er c n e => .er c n e
  | .bad => .bad) else .bad
/-- x.pop() -/
def ePop (i : Nat) : M D := fun δ => match δ[i]? with
  | some (.lst true xs) => (match xs[xs.length - 1]? with
    | some x => if pure x = true then .ok (x, δ.set i (.lst true xs.dropLast)) else .bad
    | none => .bad)
  | _ => .bad
/-- x.extend(e) -/
def eExt (i : Nat) (fe : M D) : M D := fun δ => if isOwnL δ[i]? = true then (match fe δ with
  | .ok (.lst _ ys, δ') => (match δ'[i]? with
    | some (.lst true xs) => if pureL ys && decide (xs.length + ys.length ≤ 100000) then .ok (.non, δ'.set i (.lst true (xs ++ ys))) else .bad
    | _ => .bad)
  | .er c n e => .er c n e
  | _ => .bad) else .bad
/-- x[e] = v -/
def sPutL (i : Nat) (fi fv : M D) : M Fl := mbind fv fun v => fun δ => if isOwnL δ[i]? = true then (match fi δ with
  | .ok (.int k, δ') => (match δ'[i]? with
    | some (.lst true xs) => (match ixN xs.length k with
      | some j => .ok (.nx, δ'.set i (.lst true (xs.set j v)))
      | none => .bad)
    | _ => .bad)
  | .er c n e => .er c n e
  | _ => .bad) else .bad
section
variable {K : PySem.W.Frag} {mg : Mg} {R F F' H H' : Hp} {σ : L2.St} {δ : List D} {vs : List V} {ds : List D}
theorem isOwnL_get {o : Option D} (h : isOwnL o = true) : ∃ xs, o = some (.lst true xs) := by
  unfold isOwnL at h
  split at h
  · exact ⟨_, rfl⟩
  · cases h
/-- the list in a slot -/
theorem Ok.slotL {i : Nat} {xs : List D} (I : Ok K mg R F H σ δ vs ds) (e : δ[i]? = some (.lst true xs)) : ∃ (a : Addr) (ws : List V), σ[i]? = some (some (.ref a)) ∧ H a = some (.lst ws) ∧ ws.length = xs.length := by
  obtain ⟨v, ev, J⟩ := I.lend e (fun z => nomatch z)
  obtain ⟨a, ws, rfl, h, l, _⟩ := J.asLst
  exact ⟨a, ws, ev, h, l⟩
theorem Ok.appS {i : Nat} {xs : List D} {x : V} {dx : D} (I : Ok K mg R F H σ δ (x :: vs) (dx :: ds)) (e : δ[i]? = some (.lst true xs)) :
    ∃ (a : Addr) (ws : List V), σ[i]? = some (some (.ref a)) ∧ H a = some (.lst ws) ∧ ws.length = xs.length ∧ Ok K mg R F (upd H a (.lst (ws ++ [x]))) σ (δ.set i (.lst true (xs ++ [dx]))) vs ds := by
  obtain ⟨v, ev, J⟩ := I.lend e (fun z => nomatch z)
  obtain ⟨a, ws, rfl, h, l, J2⟩ := J.swap.append
  have hi := (List.getElem?_eq_some_iff.mp e).1
  have J3 := J2.unlend (i := i) (by rw [List.getElem?_set_self hi]) ev
  rw [set_set] at J3
  exact ⟨a, ws, ev, h, l, J3⟩
/-- a list of one's own is another one, of pure things -/
theorem Ok.rewrite {xs ys : List D} {r : V} (I : Ok K mg R F H σ δ (r :: vs) (.lst true xs :: ds)) : ∃ (a : Addr) (ws : List V) (f : List Addr), r = .ref a ∧ H a = some (.lst ws) ∧ OwnL K mg F H xs f ws ∧ a ∉ f ∧
    (∀ {ys : List D} {us : List V} {g1 g2 : List Addr}, OwnL K mg F H ys g1 us → f.Perm (g1 ++ g2) → Ok K mg R F (upd H a (.lst us)) σ δ (.ref a :: vs) (.lst true ys :: ds)) := by
  obtain ⟨f, o, nd, cl, _, back⟩ := I.focus
  simp only [Own] at o
  obtain ⟨a, ws, g, rfl, ol, q⟩ := o
  rcases q with ⟨z, _⟩ | ⟨_, p3, hH⟩
  · cases z
  · have na := (List.nodup_cons.mp (p3.nodup_iff.mp nd)).1
    refine ⟨a, ws, g, rfl, hH, ol, na, fun {ys us g1 g2} o1 pg => ?_⟩
    have nd1 : (a :: g1).Nodup := by
      have := p3.nodup_iff.mp nd
      have n2 := List.nodup_cons.mp this
      exact List.nodup_cons.mpr ⟨fun z => n2.1 (pg.mem_iff.mpr (List.mem_append_left _ z)), (List.nodup_append.mp (pg.nodup_iff.mp n2.2)).1⟩
    have m1 : ∀ b ∈ g1, b ∈ g := fun b hb => pg.mem_iff.mpr (List.mem_append_left _ hb)
    refine back (es := [.lst true ys]) (ws := [.ref a]) (f' := a :: g1) (OwnL.one ?_) nd1 (fun b hb => .inl (p3.mem_iff.mpr ?_)) (fun b o e hb => ?_)
    · simp only [Own]
      exact ⟨a, us, g1, rfl, o1.mono (Same.refl _) (fun b hb => upd_ne fun z => na (z ▸ m1 b hb)), .inr ⟨trivial, .refl _, upd_same⟩⟩
    · rcases List.mem_cons.mp hb with rfl | hb
      · exact List.mem_cons_self
      · exact List.mem_cons_of_mem _ (m1 b hb)
    · rw [upd_ne (fun z => hb (p3.mem_iff.mpr (by rw [z]; exact List.mem_cons_self)))]
      exact e
theorem OwnL.dropLast : ∀ {xs : List D} {f : List Addr} {ws : List V}, OwnL K mg F H xs f ws → ∃ g1 g2, f.Perm (g1 ++ g2) ∧ OwnL K mg F H xs.dropLast g1 ws.dropLast
  | [], f, ws, h => by
    simp only [OwnL] at h
    obtain ⟨rfl, rfl⟩ := h
    exact ⟨[], [], .refl _, OwnL.nil⟩
  | [d], f, ws, h => by
    simp only [OwnL] at h
    obtain ⟨v, vr, f1, f2, rfl, q, a, rfl, rfl⟩ := h
    exact ⟨[], f1, by simpa using q, OwnL.nil⟩
  | d :: e :: ds, f, ws, h => by
    unfold OwnL at h
    obtain ⟨v, vr, f1, f2, rfl, q, a, b⟩ := h
    obtain ⟨g1, g2, p, o⟩ := OwnL.dropLast b
    have hl := b.len
    cases vr with
    | nil => simp at hl
    | cons w vr =>
      refine ⟨f1 ++ g1, g2, ?_, OwnL.cons a o⟩
      rw [List.append_assoc]
      exact q.trans (p.append_left f1)
end
section
variable {X : Cx} {W : WX} {fx : List Bool} {pa pb pc : Bool} {a b c e f tg : Expr} {ta tb tc te : TE} {fa fb fc fe : M D} {pos p apos cpos : Pos} {ls : List (Option Nat)} {tr : TA} {fr : M (List D)} {K : PySem.W.Frag} {mg : Mg}
theorem snd_app {i : Nat} (h : SndA K mg W pa [none] (tCons te tNil) (aCons fe aNil)) : Snd K mg W false (tBM K "list" rAppend (tVar i) (tCons te tNil)) (eApp i fe) := fun R F H σ δ vs ds Q I q => by
  unfold eApp at q
  cases e0 : isOwnL δ[i]? with
  | false => rw [e0] at q; exact q.elim
  | true =>
    rw [e0, if_pos rfl] at q
    obtain ⟨xs0, ex0⟩ := isOwnL_get e0
    obtain ⟨a0, ws0, es0, h0, l0⟩ := I.slotL ex0
    refine ⟨.ref a0, es0, .inl ⟨rfl, ws0, SqL.of h0⟩, ?_⟩
    refine h.then I (fun c ns es e => ?_) (fun e => ?_) fun es δ1 F1 H1 ws e s1 p1 l lo I1 => ?_
    · unfold aCons mbind at e
      cases e2 : fe δ with
      | bad => rw [e2] at e; cases e
      | er c2 n2 e3 => rw [e2] at e q; cases e; exact q
      | ok r => rw [e2] at e; cases e
    · unfold aCons mbind at e
      cases e2 : fe δ with
      | bad => rw [e2] at q; exact q
      | er c2 n2 e3 => rw [e2] at e; cases e
      | ok r => rw [e2] at e; cases e
    · unfold aCons mbind at e
      cases e2 : fe δ with
      | bad => rw [e2] at e; cases e
      | er c2 n2 e3 => rw [e2] at e; cases e
      | ok r =>
        obtain ⟨x, δx⟩ := r
        rw [e2] at e q
        cases e
        match ws, l with
        | [w], _ =>
          dsimp only at q
          split at q
          · rename_i xs hx
            split at q
            · rename_i hz
              obtain ⟨a, us, ea, hH, lu, J⟩ := Ok.appS (x := w) (dx := x) I1 hx
              rw [es0] at ea
              cases ea
              exact ⟨a0, us, w, rfl, rfl, hH, by rw [lu]; exact sz_lt hz, q F1 _ .non s1 (fun z => nomatch z) (J.push (by simp only [Own]; exact ⟨trivial, trivial⟩))⟩
            · exact q.elim
          · exact q.elim
theorem se_app (i : Nat) {x : Str} {xpos : Pos} (h : SE X W pa e te fe) (hN : X.N[i]? = some x := by rfl) (hv : Vis X.env.scope x := by first | exact Or.inl rfl | exact Or.inr (Or.inl rfl) | exact Or.inr (Or.inr rfl))
    (hb : PE X (.Call (.Attribute (.Name x xpos) "append" apos) [e] [] cpos) (tBM X.K "list" rAppend (tVar i) (tCons te tNil))) : SE X W false (.Call (.Attribute (.Name x xpos) "append" apos) [e] [] cpos) (tBM X.K "list" rAppend (tVar i) (tCons te tNil)) (eApp i fe) :=
  ⟨hb, snd_app (pa := pa && true) (snd_cons h.snd (fun R F H σ δ vs ds Q I q => q F H [] (Same.refl _) (fun _ => Same.refl _) rfl I (fun j i h => by simp at h)) (fun i h => nomatch h))⟩
theorem snd_pop {i : Nat} : Snd K mg W false (tBM0 K "list" rPop (tVar i)) (ePop i) := fun R F H σ δ vs ds Q I q => by
  unfold ePop at q
  split at q
  · rename_i xs hx
    split at q
    · rename_i x hl
      cases hp : pure x with
      | false => rw [hp] at q; exact q.elim
      | true =>
        rw [hp, if_pos rfl] at q
        obtain ⟨v, ev, J⟩ := I.lend hx (fun z => nomatch z)
        obtain ⟨a, ws, f, rfl, hH, ol, na, wr⟩ := Ok.rewrite (ys := []) J
        obtain ⟨y, ey, oy⟩ := ol.at hl hp
        rw [← ol.len] at ey
        obtain ⟨g1, g2, pg, o2⟩ := ol.dropLast
        have J2 := wr o2 pg
        have hi := (List.getElem?_eq_some_iff.mp hx).1
        have J3 := J2.unlend (i := i) (by rw [List.getElem?_set_self hi]) ev
        rw [set_set] at J3
        refine ⟨.ref a, ev, .inl ⟨rfl, ws, SqL.of hH⟩, a, ws, y, rfl, rfl, hH, ey, q F _ y (Same.refl _) (fun z => nomatch z) (J3.push (oy.mono (Same.refl _) (fun _ z => nomatch z)))⟩
    · exact q.elim
  · exact q.elim
theorem se_pop (i : Nat) {x : Str} {xpos : Pos} (hN : X.N[i]? = some x := by rfl) (hv : Vis X.env.scope x := by first | exact Or.inl rfl | exact Or.inr (Or.inl rfl) | exact Or.inr (Or.inr rfl)) (hd : (x == ("__debug__" : Str)) = false := by decide)
    (hcd : (x == ("__classdict__" : Str)) = false := by decide) (hbase : attributeBase (.Name x xpos) "pop" X.env (eval (.Name x xpos) X.env) = eval (.Name x xpos) X.env := by rfl) (hline : (apos.endLine == cpos.line) = true := by rfl) :
    SE X W false (.Call (.Attribute (.Name x xpos) "pop" apos) [] [] cpos) (tBM0 X.K "list" rPop (tVar i)) (ePop i) := ⟨pe_bm0 PySem.F.plainAttrs_list PySem.F.slot_list_pop PySem.F.type_list_pop mt_pop (pe_var hN hv hd hcd) hbase hline, snd_pop⟩
/-! ### list(..) -/
def dList : List D → Option D
  | [d] => match seqOf d with
    | some xs => if pureL xs = true then some (.lst true xs) else none
    | none => none
  | _ => none
theorem OwnL.of_at : ∀ {xs : List D} {ws : List V}, Dn.pureL xs = true → ws.length = xs.length → (∀ (i : Nat) (x : D), xs[i]? = some x → Dn.pure x = true → ∃ w, ws[i]? = some w ∧ Own K mg F H x [] w) → OwnL K mg F H xs [] ws
  | [], [], _, _, _ => OwnL.nil
  | [], _ :: _, _, l, _ => by simp at l
  | _ :: _, [], _, l, _ => by simp at l
  | x :: xs, w :: ws, p, l, h => by
    simp only [pureL, Bool.and_eq_true] at p
    obtain ⟨w', e, o⟩ := h 0 x rfl p.1
    cases e
    exact OwnL.cons (f1 := []) o (OwnL.of_at p.2 (by simpa using l) fun i y hy py => by simpa using h (i + 1) y (by simpa using hy) py)
theorem o_list : OpN K mg (fun xs H Q => ∃ p ys, xs = [.ref p] ∧ (SqL K H p ys ∨ SqT K H p ys) ∧ ∀ l, H l = none → Q (.ref l) (upd H l (.lst ys))) dList := fun R F H σ δ vs ds ws es d Q l I e k => by
  unfold dList at e
  split at e
  · rename_i x
    match ws, l with
    | [w], _ =>
      have I' : Ok K mg R F H σ δ (w :: vs) (x :: ds) := I
      split at e
      · rename_i xs hs
        split at e
        · rename_i hp
          cases e
          cases hl : listOf x with
          | some ys =>
            have : ys = xs := by cases x <;> first | (cases hl; cases hs; rfl) | cases hl
            subst this
            obtain ⟨a, us, rfl, sq, l2, at'⟩ := I'.asList hl
            exact ⟨a, us, rfl, .inl sq, fun p hn => k F _ _ (Same.refl _) (sameNew hn) (I'.pop.newPure (OwnL.of_at hp l2 at') hn)⟩
          | none =>
            have ht : tupOf x = some xs := by cases x <;> first | exact hs | exact (nomatch hl) | exact (nomatch hs)
            obtain ⟨a, us, rfl, sq, l2, at'⟩ := I'.asTup ht
            exact ⟨a, us, rfl, .inr sq, fun p hn => k F _ _ (Same.refl _) (sameNew hn) (I'.pop.newPure (OwnL.of_at hp l2 at') hn)⟩
        · cases e
      · cases e
  · cases e
/-! ### slices -/
structure SO (X : Cx) (W : WX) (e : Option Expr) (t : TO) (f : M (Option Int)) : Prop where
  pe : PO X e t
  snd : ∀ (R F H : Hp) (σ : L2.St) (δ : List D) (vs : List V) (ds : List D) (Q : Option Int → Hp → Prop), Ok X.K X.mg R F H σ δ vs ds →
    (match f δ with
      | .ok (o, δ') => ∀ (F' H' : Hp), Same F F' → Ok X.K X.mg R F' H' σ δ' vs ds → Q o H'
      | .er c ns es => EW X.K X.mg R F W σ c ns es
      | .bad => False) → t σ H Q
def oNone : M (Option Int) := mret none
def oSome (fe : M D) : M (Option Int) := mbind fe fun d => match d with
  | .int i => mret (some i)
  | _ => mbad
theorem so_none : SO X W none tNoPart oNone := ⟨po_none, fun R F H σ δ vs ds Q I q => q F H (Same.refl _) I⟩
theorem so_some (h : SE X W pa e te fe) : SO X W (some e) (tPart te) (oSome fe) := ⟨po_some h.pe, fun R F H σ δ vs ds Q I q => by
  unfold oSome mbind at q
  refine h.snd.then I (fun c ns es e => by rw [e] at q; exact q) (fun e => by rw [e] at q; exact q) fun d δ1 F1 H1 v e s1 p1 I1 => ?_
  rw [e] at q
  dsimp only at q
  cases d with
  | int i =>
    have := own_int I1
    subst this
    exact ⟨i, rfl, q F1 H1 s1 I1.pop⟩
  | _ => exact q.elim⟩
def eSl (fe : M D) (fl fh : M (Option Int)) : M D := mbind fe fun d => mbind fl fun lo => mbind fh fun hi => match listOf d with
  | some xs => if pureL xs = true then mret (.lst true ((xs.drop (HT.sIx xs.length 0 lo)).take (HT.sIx xs.length xs.length hi - HT.sIx xs.length 0 lo))) else mbad
  | none => mbad
theorem pureL_drop : ∀ {xs : List D} (n : Nat), pureL xs = true → pureL (xs.drop n) = true
  | [], n, h => by simp [pureL]
  | x :: xs, 0, h => h
  | x :: xs, n + 1, h => by simp only [pureL, Bool.and_eq_true] at h; exact pureL_drop n h.2
theorem pureL_take : ∀ {xs : List D} (n : Nat), pureL xs = true → pureL (xs.take n) = true
  | [], n, h => by simp [pureL]
  | x :: xs, 0, h => rfl
  | x :: xs, n + 1, h => by simp only [List.take_succ_cons, pureL, Bool.and_eq_true] at h ⊢; exact ⟨h.1, pureL_take n h.2⟩
theorem OwnL.drop0 : ∀ {xs : List D} {ws : List V} (n : Nat), OwnL K mg F H xs [] ws → OwnL K mg F H (xs.drop n) [] (ws.drop n)
  | xs, ws, 0, h => h
  | [], ws, n + 1, h => by simp only [OwnL] at h; rw [h.2]; exact OwnL.nil
  | x :: xs, ws, n + 1, h => by
    simp only [OwnL] at h
    obtain ⟨v, vr, f1, f2, rfl, q, a, b⟩ := h
    have := q.nil_eq
    have e : f1 = [] ∧ f2 = [] := List.append_eq_nil_iff.mp this.symm
    rw [e.2] at b
    exact OwnL.drop0 n b
theorem OwnL.take0 : ∀ {xs : List D} {ws : List V} (n : Nat), OwnL K mg F H xs [] ws → OwnL K mg F H (xs.take n) [] (ws.take n)
  | xs, ws, 0, h => by rw [List.take_zero, List.take_zero]; exact OwnL.nil
  | [], ws, n + 1, h => by simp only [OwnL] at h; rw [h.2]; exact OwnL.nil
  | x :: xs, ws, n + 1, h => by
    simp only [OwnL] at h
    obtain ⟨v, vr, f1, f2, rfl, q, a, b⟩ := h
    have := q.nil_eq
    have e : f1 = [] ∧ f2 = [] := List.append_eq_nil_iff.mp this.symm
    rw [e.2] at b
    rw [e.1] at a
    exact OwnL.cons (f1 := []) a (OwnL.take0 n b)
theorem se_sl {lo hi : Option Expr} {tl th : TO} {fl fh : M (Option Int)} {p2 : Pos} (h : SE X W pa e te fe) (hl : SO X W lo tl fl) (hh : SO X W hi th fh) : SE X W false (.Subscript e (.Slice lo hi none p2) pos) (tSl (rSlL X.K) te tl th) (eSl fe fl fh) := ⟨pe_slice sl_list h.pe hl.pe hh.pe, fun R F H σ δ vs ds Q I q => by
  unfold eSl mbind at q
  refine h.snd.then I (fun c ns es e => by rw [e] at q; exact q) (fun e => by rw [e] at q; exact q) fun d δ1 F1 H1 v e s1 p1 I1 => ?_
  rw [e] at q
  dsimp only at q
  refine hl.snd R F1 H1 σ δ1 _ _ _ I1 ?_
  cases e1 : fl δ1 with
  | bad => rw [e1] at q; exact q
  | er c n z => rw [e1] at q; exact q.shift s1
  | ok r1 =>
    obtain ⟨lo, δ2⟩ := r1
    rw [e1] at q
    dsimp only at q
    intro F2 H2 s2 I2
    refine hh.snd R F2 H2 σ δ2 _ _ _ I2 ?_
    cases e2 : fh δ2 with
    | bad => rw [e2] at q; exact q
    | er c n z => rw [e2] at q; exact EW.shift q (s1.trans s2)
    | ok r2 =>
      obtain ⟨hi, δ3⟩ := r2
      rw [e2] at q
      dsimp only at q
      intro F3 H3 s3 I3
      cases hx : listOf d with
      | none => rw [hx] at q; exact q.elim
      | some xs =>
        rw [hx] at q
        dsimp only at q
        cases hp : pureL xs with
        | false => rw [hp] at q; exact q.elim
        | true =>
          rw [hp, if_pos rfl] at q
          obtain ⟨a, us, rfl, sq, l2, at'⟩ := I3.asList hx
          refine ⟨a, us, rfl, sq, fun p hn => q F3 _ (.ref p) (s1.trans (s2.trans s3)) (fun z => nomatch z) ?_⟩
          refine I3.pop.newPure (ws := cutV us lo hi) ?_ hn
          unfold cutV
          rw [l2]
          exact OwnL.take0 _ (OwnL.drop0 _ (OwnL.of_at hp l2 at'))⟩
/-! ### a def in a slot, called -/
def eCallL (i : Nat) (n : Str) (f : Fn) (fa : M (List D)) : M D := fun δ => match δ[i]? with
  | some (.fn m) => if m = n then eCall f [] fa δ else .bad
  | _ => .bad
end
end Dn

set_option Elab.async false
set_option linter.all false
set_option maxRecDepth 100000
set_option maxHeartbeats 4000000
namespace Dn
open PySem L2 PyProof.Rows
/-! ### dicts -/
section
variable {κ : Type} [DecidableEq κ] {α : Type}
def look : List κ → List α → κ → Option α
  | k' :: ks, d :: ds, k => if k' = k then some d else look ks ds k
  | _, _, _ => none
def rep : List κ → List α → κ → α → List α
  | k' :: ks, x :: xs, k, d => (if k' = k then d else x) :: rep ks xs k d
  | _, _, _, _ => []
def putKs (ks : List κ) (k : κ) : List κ := if k ∈ ks then ks else ks ++ [k]
def putDs (ks : List κ) (ds : List α) (k : κ) (d : α) : List α := if k ∈ ks then rep ks ds k d else ds ++ [d]
theorem rep_length : ∀ {ks : List κ} {ds : List α} {k : κ} {d : α}, ks.length = ds.length → (rep ks ds k d).length = ks.length
  | [], [], _, _, _ => rfl
  | [], _ :: _, _, _, h => by simp at h
  | _ :: _, [], _, _, h => by simp at h
  | k' :: ks, x :: ds, k, d, h => by simp only [rep, List.length_cons]; rw [rep_length (by simpa using h)]
theorem valV_zip : ∀ {ks : List κ} {vs : List V} {k : κ}, valV (ks.zip vs) k = look ks vs k
  | [], _, _ => rfl
  | _ :: _, [], _ => rfl
  | k' :: ks, v :: vs, k => by
    by_cases e : k' = k
    · simp [valV, look, e]
    · have := valV_zip (ks := ks) (vs := vs) (k := k)
      simp only [valV] at this
      simp [valV, look, e, List.find?_cons, this]
theorem any_zip : ∀ {ks : List κ} {vs : List V} {k : κ}, ks.length = vs.length → ((ks.zip vs).any fun kv => decide (kv.1 = k)) = decide (k ∈ ks)
  | [], _, _, _ => by simp
  | _ :: _, [], _, h => by simp at h
  | k' :: ks, v :: vs, k, h => by
    have := any_zip (ks := ks) (vs := vs) (k := k) (by simpa using h)
    rw [List.zip_cons_cons, List.any_cons, this]
    by_cases e : k' = k
    · subst e; simp
    · have e' : ¬ k = k' := fun z => e z.symm
      simp [e, e']
theorem map_zip : ∀ {ks : List κ} {vs : List V} {k : κ} {v : V}, (ks.zip vs).map (fun kv => if kv.1 = k then (kv.1, v) else kv) = ks.zip (rep ks vs k v)
  | [], _, _, _ => by simp
  | _ :: _, [], _, _ => by simp [rep]
  | k' :: ks, x :: vs, k, v => by
    have := map_zip (ks := ks) (vs := vs) (k := k) (v := v)
    by_cases e : k' = k
    · simp [rep, e] at this ⊢; exact this
    · simp [rep, e] at this ⊢; exact this
theorem putK_zip {ks : List κ} {vs : List V} {k : κ} {v : V} (l : ks.length = vs.length) : putK (ks.zip vs) k v = (putKs ks k).zip (putDs ks vs k v) := by
  unfold putK putKs putDs
  rw [any_zip l]
  by_cases h : k ∈ ks
  · simp only [h, decide_true, if_true, map_zip]
  · simp only [h, decide_false, Bool.false_eq_true, if_false]
    rw [List.zip_append l]; rfl
theorem putDs_length {ks : List κ} {ds : List α} {k : κ} {d : α} (l : ks.length = ds.length) : (putKs ks k).length = (putDs ks ds k d).length := by
  unfold putKs putDs
  split
  · rw [rep_length l]
  · simp [l]
variable {K : PySem.W.Frag} {mg : Mg} {F H : Hp}
theorem look_own : ∀ {ks : List κ} {ds : List D} {vs : List V} {f : List Addr}, ks.length = vs.length → OwnL K mg F H ds f vs → ∀ (k : κ), (look ks ds k = none → look ks vs k = none) ∧ (∀ d, look ks ds k = some d → ∃ v, look ks vs k = some v ∧ (pure d = true → Own K mg F H d [] v))
  | [], ds, vs, f, l, o, k => by
    have : vs = [] := List.length_eq_zero_iff.mp l.symm
    subst this
    exact ⟨fun _ => rfl, fun d h => by simp [look] at h⟩
  | k' :: ks, [], vs, f, l, o, k => by
    simp only [OwnL] at o
    rw [o.2] at l; simp at l
  | k' :: ks, d :: ds, vs, f, l, o, k => by
    simp only [OwnL] at o
    obtain ⟨v, vr, f1, f2, rfl, q, a, b⟩ := o
    obtain ⟨h1, h2⟩ := look_own (ks := ks) (by simpa using l) b k
    by_cases e : k' = k
    · refine ⟨fun h => by simp [look, e] at h, fun d' h => ?_⟩
      simp only [look, e, if_true, Option.some.injEq] at h
      subst h
      exact ⟨v, by simp [look, e], fun p => by have := a.pure p; subst this; exact a⟩
    · refine ⟨fun h => ?_, fun d' h => ?_⟩
      · simp only [look, e, if_false] at h ⊢; exact h1 h
      · simp only [look, e, if_false] at h ⊢; exact h2 d' h
theorem rep_own : ∀ {ks : List κ} {ds : List D} {vs : List V}, ks.length = vs.length → OwnL K mg F H ds [] vs → ∀ (k : κ) {d : D} {v : V}, Own K mg F H d [] v → OwnL K mg F H (rep ks ds k d) [] (rep ks vs k v)
  | [], ds, vs, l, o, k, d, v, od => by
    have : vs = [] := List.length_eq_zero_iff.mp l.symm
    subst this
    simp only [rep]
    exact OwnL.nil
  | k' :: ks, [], vs, l, o, k, d, v, od => by
    simp only [OwnL] at o
    rw [o.2] at l; simp at l
  | k' :: ks, x :: ds, vs, l, o, k, d, v, od => by
    simp only [OwnL] at o
    obtain ⟨w, vr, f1, f2, rfl, q, a, b⟩ := o
    have e : f1 = [] ∧ f2 = [] := List.append_eq_nil_iff.mp q.nil_eq.symm
    rw [e.1] at a
    rw [e.2] at b
    have r := rep_own (ks := ks) (by simpa using l) b k od
    by_cases h : k' = k
    · simp only [rep, h, if_true]; exact OwnL.cons (f1 := []) od r
    · simp only [rep, h, if_false]; exact OwnL.cons (f1 := []) a r
theorem putDs_own {ks : List κ} {ds : List D} {vs : List V} {k : κ} {d : D} {v : V} (l : ks.length = vs.length) (o : OwnL K mg F H ds [] vs) (od : Own K mg F H d [] v) : OwnL K mg F H (putDs ks ds k d) [] (putDs ks vs k v) := by
  unfold putDs
  split
  · exact rep_own l o k od
  · exact o.app (OwnL.one od)
end
def keyOf : D → Option Key
  | .int i => some (.inl i)
  | .str s => some (.inr s)
  | _ => none
def keysOf : List D → Option (List Key)
  | [] => some []
  | d :: ds => match keyOf d, keysOf ds with
    | some k, some ks => some (k :: ks)
    | _, _ => none
def dLook : D → D → Option (Option D)
  | .dK _ ks ds, k => (keyOf k).map (look ks ds)
  | .dT _ ks ds, .tup xs => (keysOf xs).map (look ks ds)
  | _, _ => none
def dPutK (ks : List Key) (ds : List D) (k v : D) : Option D := match keyOf k with
  | some k => if pureL ds && pure v && decide (ks.length < 100000) then some (.dK true (putKs ks k) (putDs ks ds k v)) else none
  | none => none
def dPutT (ks : List (List Key)) (ds : List D) (k v : D) : Option D := match k with
  | .tup xs => (match keysOf xs with
    | some k => if pureL ds && pure v && decide (ks.length < 100000) then some (.dT true (putKs ks k) (putDs ks ds k v)) else none
    | none => none)
  | _ => none
def dPut (d k v : D) : Option D := match d with
  | .dK true ks ds => dPutK ks ds k v
  | .dT true ks ds => dPutT ks ds k v
  | _ => none
section
variable {K : PySem.W.Frag} {mg : Mg} {R F F' H H' : Hp} {σ : L2.St} {δ : List D} {vs : List V} {ds : List D}
theorem keyOf_V {k : D} {v : V} {kk : Key} {f : List Addr} (o : Own K mg F H k f v) (e : keyOf k = some kk) : v = kV kk := by
  cases k <;> first | cases e | skip
  · simp only [Own] at o; exact o.2
  · simp only [Own] at o; exact o.2
theorem keysOf_V : ∀ {xs : List D} {ws : List V} {ks : List Key} {f : List Addr}, OwnL K mg F H xs f ws → keysOf xs = some ks → ws = ks.map kV
  | [], ws, ks, f, o, e => by simp only [OwnL] at o; cases e; rw [o.2]; rfl
  | x :: xs, ws, ks, f, o, e => by
    simp only [OwnL] at o
    obtain ⟨v, vr, f1, f2, rfl, q, a, b⟩ := o
    simp only [keysOf] at e
    split at e
    · rename_i k ks' e1 e2
      cases e
      rw [keyOf_V a e1, keysOf_V b e2]; rfl
    · cases e
/-- what is found under a key -/
theorem Own.dget {d k : D} {v y : V} {f g : List Addr} {r : Option D} (s : Same F H) (o : Own K mg F H d f v) (ok : Own K mg F H k g y) (e : dLook d k = some r) :
    ∃ a, v = .ref a ∧ ∃ o', DGet H a y o' ∧ (r = none → o' = none) ∧ (∀ x, r = some x → ∃ w, o' = some w ∧ (Dn.pure x = true → Own K mg F H x [] w)) := by
  unfold dLook at e
  split at e
  · rename_i b ks ds
    simp only [Own] at o
    obtain ⟨a, ws, h, rfl, l, ol, q⟩ := o
    cases ek : keyOf k with
    | none => rw [ek] at e; cases e
    | some kk =>
      rw [ek] at e
      cases e
      have hH : H a = some (.dK (ks.zip ws)) := by
        rcases q with ⟨_, _, _, q⟩ | ⟨_, _, q⟩
        · exact s _ _ q
        · exact q
      have := keyOf_V ok ek
      subst this
      obtain ⟨h1, h2⟩ := look_own l ol kk
      exact ⟨a, rfl, look ks ws kk, by rw [← valV_zip]; exact DGet.k hH, h1, h2⟩
  · rename_i b ks ds xs
    simp only [Own] at o
    obtain ⟨a, ws, h, rfl, l, ol, q⟩ := o
    simp only [Own] at ok
    obtain ⟨c, us, rfl, qc, oc⟩ := ok
    cases ek : keysOf xs with
    | none => rw [ek] at e; cases e
    | some kk =>
      rw [ek] at e
      cases e
      have hH : H a = some (.dT (ks.zip ws)) := by
        rcases q with ⟨_, _, _, q⟩ | ⟨_, _, q⟩
        · exact s _ _ q
        · exact q
      have := keysOf_V oc ek
      subst this
      obtain ⟨h1, h2⟩ := look_own l ol kk
      exact ⟨a, rfl, look ks ws kk, by rw [← valV_zip]; exact DGet.t hH (s _ _ qc), h1, h2⟩
  · cases e
def isDict : Option D → Bool
  | some (.dK _ _ _) => true
  | some (.dT _ _ _) => true
  | _ => false
theorem Own.isD {d : D} {v : V} {f : List Addr} (s : Same F H) (o : Own K mg F H d f v) (e : isDict (some d) = true) : ∃ a, v = .ref a ∧ IsD H a := by
  cases d with
  | dK b ks ds =>
    simp only [Own] at o
    obtain ⟨a, ws, h, rfl, l, ol, q⟩ := o
    rcases q with ⟨_, _, _, q⟩ | ⟨_, _, q⟩
    · exact ⟨a, rfl, .inl ⟨_, .inl (s _ _ q)⟩⟩
    · exact ⟨a, rfl, .inl ⟨_, .inl q⟩⟩
  | dT b ks ds =>
    simp only [Own] at o
    obtain ⟨a, ws, h, rfl, l, ol, q⟩ := o
    rcases q with ⟨_, _, _, q⟩ | ⟨_, _, q⟩
    · exact ⟨a, rfl, .inr ⟨_, .inl (s _ _ q)⟩⟩
    · exact ⟨a, rfl, .inr ⟨_, .inl q⟩⟩
  | _ => cases e
/-- a slot's thing, looked at -/
theorem Ok.slot {i : Nat} {d : D} (I : Ok K mg R F H σ δ vs ds) (e : δ[i]? = some d) (hn : d ≠ .un) : ∃ v f, σ[i]? = some (some v) ∧ Own K mg F H d f v := by
  obtain ⟨v, ev, J⟩ := I.lend e hn
  obtain ⟨f, o, _⟩ := J.top
  exact ⟨v, f, ev, o⟩
end
/-- k in d, d in slot i -/
def eDIn (neg : Bool) (i : Nat) (fk : M D) : M D := mbind fk fun k => fun δ => match δ[i]? with
  | some d => (match dLook d k with
    | some r => .ok (.bl (if neg then !r.isSome else r.isSome), δ)
    | none => .bad)
  | none => .bad
/-- d.get(k, z) -/
def eDGet2 (i : Nat) (fk fz : M D) : M D := fun δ0 => if isDict δ0[i]? = true then mbind fk (fun k => mbind fz fun z => fun δ => match δ[i]? with
  | some d => (match dLook d k with
    | some (some x) => if pure x = true then .ok (x, δ) else .bad
    | some none => .ok (z, δ)
    | none => .bad)
  | none => .bad) δ0 else .bad
/-- d[k] -/
def eDGet (i : Nat) (fk : M D) : M D := fun δ0 => if isDict δ0[i]? = true then mbind fk (fun k => fun δ => match δ[i]? with
  | some d => (match dLook d k with
    | some (some x) => if pure x = true then .ok (x, δ) else .bad
    | _ => .bad)
  | none => .bad) δ0 else .bad
/-- d[k] = v -/
def sDPut' (i : Nat) (fk fv : M D) : M Fl := mbind fv fun v => fun δ0 => if isDict δ0[i]? = true then mbind fk (fun k => fun δ => match δ[i]? with
  | some d => (match dPut d k v with
    | some d' => .ok (.nx, δ.set i d')
    | none => .bad)
  | none => .bad) δ0 else .bad
def eDNew : M D := mret (.dK true [] [])
def eDNewT : M D := mret (.dT true [] [])
section
variable {X : Cx} {W : WX} {fx : List Bool} {pa pb pc : Bool} {a b c e f tg : Expr} {ta tb tc te : TE} {fa fb fc fe : M D} {pos p apos cpos : Pos} {ls : List (Option Nat)} {tr : TA} {fr : M (List D)} {K : PySem.W.Frag} {mg : Mg}
theorem snd_din {i : Nat} {neg : Bool} (h : Snd K mg W pa te fe) : Snd K mg W pa (fun σ H Q => te σ H fun y H1 => tVar i σ H1 fun x H2 => ∃ a o, x = .ref a ∧ DGet H2 a y o ∧ Q (.bl (if neg then !o.isSome else o.isSome)) H2) (eDIn neg i fe) := fun R F H σ δ vs ds Q I q => by
  unfold eDIn mbind at q
  refine h.then I (fun c ns es e => by rw [e] at q; exact q) (fun e => by rw [e] at q; exact q) fun k δ1 F1 H1 y e s1 p1 I1 => ?_
  rw [e] at q
  dsimp only at q
  cases e1 : δ1[i]? with
  | none => rw [e1] at q; exact q.elim
  | some d =>
    rw [e1] at q
    dsimp only at q
    cases e2 : dLook d k with
    | none => rw [e2] at q; exact q.elim
    | some r =>
      rw [e2] at q
      obtain ⟨v, f, ev, o⟩ := I1.slot e1 (fun z => by subst z; simp [dLook] at e2)
      obtain ⟨g, ok, _⟩ := I1.top
      obtain ⟨a, rfl, o', dg, h1, h2⟩ := Own.dget I1.fh o ok e2
      have er : o'.isSome = r.isSome := by
        cases r with
        | none => rw [h1 rfl]; rfl
        | some x => obtain ⟨w, ew, _⟩ := h2 x rfl; rw [ew]; rfl
      refine ⟨.ref a, ev, a, o', rfl, dg, ?_⟩
      rw [er]
      exact q F1 H1 _ s1 p1 (I1.pop.pushB _)
theorem se_din (i : Nat) {x : Str} {xpos : Pos} (hu : X.A.units + 1 < cLine) (h : SE X W pa e te fe) (hN : X.N[i]? = some x := by rfl) (hv : Vis X.env.scope x := by first | exact Or.inl rfl | exact Or.inr (Or.inl rfl) | exact Or.inr (Or.inr rfl)) (hd : (x == ("__debug__" : Str)) = false := by decide)
    (hcd : (x == ("__classdict__" : Str)) = false := by decide) : SE X W pa (.Compare e [.In] [.Name x xpos] pos) (tDIn te (tVar i)) (eDIn false i fe) := ⟨pe_cmp (pc_din hu h.pe (pe_var hN hv hd hcd)) rfl, snd_din (neg := false) h.snd⟩
theorem st_din (i : Nat) {x : Str} {xpos : Pos} (hu : X.A.units + 1 < cLine) (h : SE X W pa e te fe) (hN : X.N[i]? = some x := by rfl) (hv : Vis X.env.scope x := by first | exact Or.inl rfl | exact Or.inr (Or.inl rfl) | exact Or.inr (Or.inr rfl)) (hd : (x == ("__debug__" : Str)) = false := by decide)
    (hcd : (x == ("__classdict__" : Str)) = false := by decide) : ST X W pa (.Compare e [.In] [.Name x xpos] pos) (tB (tDIn te (tVar i))) (tV (eDIn false i fe)) := ⟨pt_cmp (pc_din hu h.pe (pe_var hN hv hd hcd)) rfl, snd_tv (snd_din (neg := false) h.snd)⟩
theorem se_dnotin (i : Nat) {x : Str} {xpos : Pos} (hu : X.A.units + 1 < cLine) (h : SE X W pa e te fe) (hN : X.N[i]? = some x := by rfl) (hv : Vis X.env.scope x := by first | exact Or.inl rfl | exact Or.inr (Or.inl rfl) | exact Or.inr (Or.inr rfl)) (hd : (x == ("__debug__" : Str)) = false := by decide)
    (hcd : (x == ("__classdict__" : Str)) = false := by decide) : SE X W pa (.Compare e [.NotIn] [.Name x xpos] pos) (tDNotIn te (tVar i)) (eDIn true i fe) := ⟨pe_cmp (pc_dnotin hu h.pe (pe_var hN hv hd hcd)) rfl, snd_din (neg := true) h.snd⟩
theorem st_dnotin (i : Nat) {x : Str} {xpos : Pos} (hu : X.A.units + 1 < cLine) (h : SE X W pa e te fe) (hN : X.N[i]? = some x := by rfl) (hv : Vis X.env.scope x := by first | exact Or.inl rfl | exact Or.inr (Or.inl rfl) | exact Or.inr (Or.inr rfl)) (hd : (x == ("__debug__" : Str)) = false := by decide)
    (hcd : (x == ("__classdict__" : Str)) = false := by decide) : ST X W pa (.Compare e [.NotIn] [.Name x xpos] pos) (tB (tDNotIn te (tVar i))) (tV (eDIn true i fe)) := ⟨pt_cmp (pc_dnotin hu h.pe (pe_var hN hv hd hcd)) rfl, snd_tv (snd_din (neg := true) h.snd)⟩
theorem snd_dget2 {i : Nat} {tk tz : TE} {fk fz : M D} (h1 : Snd K mg W pa tk fk) (h2 : Snd K mg W pb tz fz) : Snd K mg W (pa && pb) (tDGet2 (tVar i) tk tz) (eDGet2 i fk fz) := fun R F H σ δ vs ds Q I q => by
  unfold eDGet2 at q
  cases e0 : isDict δ[i]? with
  | false => rw [e0] at q; exact q.elim
  | true =>
    rw [e0, if_pos rfl] at q
    unfold mbind at q
    obtain ⟨d0, ed0⟩ : ∃ d0, δ[i]? = some d0 := by
      cases z : δ[i]? with
      | none => rw [z] at e0; cases e0
      | some d0 => exact ⟨d0, rfl⟩
    rw [ed0] at e0
    obtain ⟨v0, f0, ev0, o0⟩ := I.slot ed0 (fun z => by subst z; cases e0)
    obtain ⟨a0, rfl, isd⟩ := Own.isD I.fh o0 e0
    refine ⟨.ref a0, ev0, a0, rfl, isd, ?_⟩
    refine h1.then I (fun c ns es e => by rw [e] at q; exact q) (fun e => by rw [e] at q; exact q) fun k δ1 F1 H1 y e s1 p1 I1 => ?_
    rw [e] at q
    dsimp only at q
    refine h2.then I1 (fun c ns es e => by rw [e] at q; exact q.shift s1) (fun e => by rw [e] at q; exact q) fun z δ2 F2 H2 zv e2 s2 p2 I2 => ?_
    rw [e2] at q
    dsimp only at q
    have pp : (pa && pb) = true → Same H H2 := fun hp => by rw [Bool.and_eq_true] at hp; exact (p1 hp.1).trans (p2 hp.2)
    cases e3 : δ2[i]? with
    | none => rw [e3] at q; exact q.elim
    | some d =>
      rw [e3] at q
      dsimp only at q
      cases e4 : dLook d k with
      | none => rw [e4] at q; exact q.elim
      | some r =>
        rw [e4] at q
        obtain ⟨v, f, ev, o⟩ := I2.slot e3 (fun z => by subst z; simp [dLook] at e4)
        rw [ev0] at ev
        cases ev
        obtain ⟨g, ok, _⟩ := I2.pop.top
        obtain ⟨a, ea, o', dg, h1', h2'⟩ := Own.dget I2.fh o ok e4
        cases ea
        refine ⟨o', dg, ?_⟩
        cases r with
        | none =>
          rw [h1' rfl]
          exact q F2 H2 zv (s1.trans s2) pp (Ok.popMid (hv := [y]) (hd := [k]) rfl I2)
        | some x =>
          dsimp only at q
          cases hp : pure x with
          | false => rw [hp] at q; exact q.elim
          | true =>
            rw [hp, if_pos rfl] at q
            obtain ⟨w, ew, ow⟩ := h2' x rfl
            rw [ew]
            exact q F2 H2 w (s1.trans s2) pp (I2.pop.pop.push (ow hp))
theorem se_dget2 (i : Nat) {x : Str} {xpos : Pos} (hu : X.A.units + 1 < cLine) (h1 : SE X W pa a ta fa) (h2 : SE X W pb b tb fb) (m : M2 X (.Name x xpos) "get" apos a b cpos := by exact ⟨by rfl, by rfl, by rfl, by rfl⟩) (hN : X.N[i]? = some x := by rfl) (hv : Vis X.env.scope x := by first | exact Or.inl rfl | exact Or.inr (Or.inl rfl) | exact Or.inr (Or.inr rfl)) (hd : (x == ("__debug__" : Str)) = false := by decide)
    (hcd : (x == ("__classdict__" : Str)) = false := by decide) : SE X W (pa && pb) (.Call (.Attribute (.Name x xpos) "get" apos) [a, b] [] cpos) (tDGet2 (tVar i) ta tb) (eDGet2 i fa fb) := ⟨pe_dget2 hu (pe_var hN hv hd hcd) h1.pe h2.pe m, snd_dget2 h1.snd h2.snd⟩
theorem se_dnew : SE X W true (.Dict [] [] pos) tDNewK eDNew := ⟨pe_dnewK, fun R F H σ δ vs ds Q I q p hp => q F _ (.ref p) (Same.refl _) (fun _ => sameNew hp) (by
  obtain ⟨fh, rh, sep, fp, f1, f2, nd, cl, pp, a, b⟩ := I
  have s2 : Same H (upd H p (.dK [])) := sameNew hp
  have dm : ∀ x ∈ fp, ∃ o, H x = some o := fun x hx => (List.mem_append.mp (pp.mem_iff.mp hx)).elim (fun z => let ⟨o, e, _⟩ := a.dom x z; ⟨o, e⟩) (fun z => let ⟨o, e, _⟩ := b.dom x z; ⟨o, e⟩)
  have kp : ∀ x ∈ fp, (upd H p (.dK [])) x = H x := fun x hx => by obtain ⟨o, e⟩ := dm x hx; rw [upd_ne (ne_of_none e hp)]
  have pn : p ∉ fp := fun z => by obtain ⟨o, e⟩ := dm p z; rw [hp] at e; cases e
  refine ⟨fh.trans s2, rh.trans s2, sep, p :: fp, f1, p :: f2, List.nodup_cons.mpr ⟨pn, nd⟩, fun x hx => ?_, (List.perm_middle.trans (pp.symm.cons p)).symm, a.mono (Same.refl _) (fun x hx => kp x (pp.mem_iff.mpr (List.mem_append_left _ hx))), ?_⟩
  · rcases List.mem_cons.mp hx with rfl | hx
    · exact ⟨fh.free hp, rh.free hp⟩
    · exact cl x hx
  · refine OwnL.cons (d := .dK true [] []) (f1 := [p]) (v := .ref p) ?_ (b.mono (Same.refl _) (fun x hx => kp x (pp.mem_iff.mpr (List.mem_append_right _ hx))))
    simp only [Own]
    exact ⟨p, [], [], rfl, rfl, OwnL.nil, .inr ⟨trivial, .refl _, upd_same⟩⟩)⟩
theorem se_dnewT : SE X W true (.Dict [] [] pos) tDNewT eDNewT := ⟨pe_dnewT, fun R F H σ δ vs ds Q I q p hp => q F _ (.ref p) (Same.refl _) (fun _ => sameNew hp) (by
  obtain ⟨fh, rh, sep, fp, f1, f2, nd, cl, pp, a, b⟩ := I
  have s2 : Same H (upd H p (.dT [])) := sameNew hp
  have dm : ∀ x ∈ fp, ∃ o, H x = some o := fun x hx => (List.mem_append.mp (pp.mem_iff.mp hx)).elim (fun z => let ⟨o, e, _⟩ := a.dom x z; ⟨o, e⟩) (fun z => let ⟨o, e, _⟩ := b.dom x z; ⟨o, e⟩)
  have kp : ∀ x ∈ fp, (upd H p (.dT [])) x = H x := fun x hx => by obtain ⟨o, e⟩ := dm x hx; rw [upd_ne (ne_of_none e hp)]
  have pn : p ∉ fp := fun z => by obtain ⟨o, e⟩ := dm p z; rw [hp] at e; cases e
  refine ⟨fh.trans s2, rh.trans s2, sep, p :: fp, f1, p :: f2, List.nodup_cons.mpr ⟨pn, nd⟩, fun x hx => ?_, (List.perm_middle.trans (pp.symm.cons p)).symm, a.mono (Same.refl _) (fun x hx => kp x (pp.mem_iff.mpr (List.mem_append_left _ hx))), ?_⟩
  · rcases List.mem_cons.mp hx with rfl | hx
    · exact ⟨fh.free hp, rh.free hp⟩
    · exact cl x hx
  · refine OwnL.cons (d := .dT true [] []) (f1 := [p]) (v := .ref p) ?_ (b.mono (Same.refl _) (fun x hx => kp x (pp.mem_iff.mpr (List.mem_append_right _ hx))))
    simp only [Own]
    exact ⟨p, [], [], rfl, rfl, OwnL.nil, .inr ⟨trivial, .refl _, upd_same⟩⟩)⟩
end
end Dn

set_option Elab.async false
set_option linter.all false
set_option maxRecDepth 100000
set_option maxHeartbeats 4000000
namespace Dn
open PySem L2 PyProof.Rows
section
variable {K : PySem.W.Frag} {mg : Mg} {R F F' H H' : Hp} {σ : L2.St} {δ : List D} {vs : List V} {ds : List D}
/-- the uppermost is one object of its own; it is written -/
theorem Ok.write1 {d d' : D} {r : V} {a : Addr} {o' : HO} (I : Ok K mg R F H σ δ (r :: vs) (d :: ds)) (hf : ∀ f, Own K mg F H d f r → f.Perm [a]) (hn : ∀ H', H' a = some o' → Own K mg F H' d' [a] r) : Ok K mg R F (upd H a o') σ δ (r :: vs) (d' :: ds) := by
  obtain ⟨f, o, nd, cl, _, back⟩ := I.focus
  have p := hf f o
  refine back (es := [d']) (ws := [r]) (f' := [a]) (OwnL.one (hn _ upd_same)) (by simp) (fun b hb => .inl (p.mem_iff.mpr hb)) (fun b ob e hb => ?_)
  rw [upd_ne (fun z => hb (p.mem_iff.mpr (by rw [z]; exact List.mem_singleton_self a)))]
  exact e
/-- an own list, a value stored at j; the value comes from under it -/
theorem Ok.setAt {x r : V} {dx : D} {xs : List D} {j : Nat} (I : Ok K mg R F H σ δ (r :: x :: vs) (.lst true xs :: dx :: ds)) (hj : j < xs.length) :
    ∃ (a : Addr) (ws : List V) (f1 f2 : List Addr), r = .ref a ∧ H a = some (.lst ws) ∧ ws.length = xs.length ∧ Ok K mg R F (upd H a (.lst (ws.set j x))) σ δ (r :: vs) (.lst true (xs.set j dx) :: ds) := by
  obtain ⟨f, o, nd, cl, _, back⟩ := I.focusL (ws0 := [r, x]) (es0 := [.lst true xs, dx]) rfl
  obtain ⟨f3, f4, p2, o3, o4⟩ := o.uncons
  obtain ⟨f1, f2, p, o1, o2⟩ := o4.uncons
  have e4 : f2 = [] := by simp only [OwnL] at o2; exact o2.1
  subst e4
  rw [List.append_nil] at p
  simp only [Own] at o3
  obtain ⟨a, ws, g, rfl, ol, q⟩ := o3
  rcases q with ⟨z, _⟩ | ⟨_, p3, hH⟩
  · cases z
  · have pf : f.Perm (a :: (g ++ f1)) := p2.trans ((p3.append_right f4).trans ((p.append_left g).cons a))
    have nd' := pf.nodup_iff.mp nd
    have na := (List.nodup_cons.mp nd').1
    obtain ⟨w, g1, g2, _, pg, _, rest⟩ := ol.split (i := j) (List.getElem?_eq_getElem hj)
    have kp : ∀ b, b ≠ a → (upd H a (.lst (ws.set j x))) b = H b := fun b hb => upd_ne hb
    have new := (rest.join (i := j) (by rw [List.getElem?_set_self hj]) o1)
    rw [set_set] at new
    have sub : ∀ b ∈ f1 ++ g2, b ∈ g ++ f1 := fun b hb => (List.mem_append.mp hb).elim (fun z => List.mem_append_right _ z) (fun z => List.mem_append_left _ (pg.mem_iff.mpr (List.mem_append_right _ z)))
    have nds : (f1 ++ g2).Nodup := by
      have n2 := (List.nodup_cons.mp nd').2
      have p4 : (g ++ f1).Perm (g1 ++ (f1 ++ g2)) := by
        refine (pg.append_right f1).trans ?_
        rw [List.append_assoc]
        exact List.perm_append_comm.append_left g1
      exact (List.nodup_append.mp (p4.nodup_iff.mp n2)).2.1
    refine ⟨a, ws, [], [], rfl, hH, ol.len, back (es := [.lst true (xs.set j dx)]) (ws := [.ref a]) (f' := a :: (f1 ++ g2)) (OwnL.one ?_) (List.nodup_cons.mpr ⟨fun z => na (sub _ z), nds⟩) (fun b hb => .inl (pf.mem_iff.mpr ?_)) (fun b o e hb => ?_)⟩
    · simp only [Own]
      exact ⟨a, ws.set j x, f1 ++ g2, rfl, new.mono (Same.refl _) (fun b hb => kp b fun z => na (z ▸ sub b hb)), .inr ⟨trivial, .refl _, upd_same⟩⟩
    · rcases List.mem_cons.mp hb with rfl | hb
      · exact List.mem_cons_self
      · exact List.mem_cons_of_mem _ (sub b hb)
    · rw [kp b (fun z => hb (pf.mem_iff.mpr (z ▸ List.mem_cons_self)))]
      exact e
theorem dput_ok {i : Nat} {d k dv d' : D} {y v : V} (I : Ok K mg R F H σ δ (y :: v :: vs) (k :: dv :: ds)) (e : δ[i]? = some d) (ep : dPut d k dv = some d') :
    ∃ a H4, σ[i]? = some (some (.ref a)) ∧ DPut H a y v H4 ∧ Ok K mg R F H4 σ (δ.set i d') vs ds := by
  have hn : d ≠ .un := fun z => by subst z; simp [dPut] at ep
  obtain ⟨g, ok, _⟩ := I.top
  obtain ⟨g2, ov, _⟩ := I.pop.top
  obtain ⟨r, er, J⟩ := I.pop.pop.lend e hn
  have hi := (List.getElem?_eq_some_iff.mp e).1
  have fin : ∀ {H4 : Hp}, Ok K mg R F H4 σ (δ.set i .un) (r :: vs) (d' :: ds) → Ok K mg R F H4 σ (δ.set i d') vs ds := fun {H4} J2 => by
    have J3 := J2.unlend (i := i) (by rw [List.getElem?_set_self hi]) er
    rwa [set_set] at J3
  obtain ⟨f, o, _⟩ := J.top
  unfold dPut at ep
  split at ep
  · rename_i ks xs
    unfold dPutK at ep
    cases ek : keyOf k with
    | none => rw [ek] at ep; cases ep
    | some kk =>
      rw [ek] at ep
      dsimp only at ep
      split at ep
      · rename_i hp
        cases ep
        rw [Bool.and_eq_true, Bool.and_eq_true, decide_eq_true_eq] at hp
        obtain ⟨⟨h1, h2⟩, h3⟩ := hp
        have := ov.pure h2
        subst this
        have := keyOf_V ok ek
        subst this
        simp only [Own] at o
        obtain ⟨a, ws, h, rfl, l, ol, q⟩ := o
        rcases q with ⟨z, _⟩ | ⟨_, p3, hH⟩
        · cases z
        · have := ol.pure h1
          subst this
          refine ⟨a, _, er, DPut.k (k := kk) hH (by rw [List.length_zip, ← l, Nat.min_self]; exact sz_lt h3), fin (J.write1 (fun f' o2 => ?_) fun H' hh => ?_)⟩
          · simp only [Own] at o2
            obtain ⟨a2, ws2, h2', e2, _, ol2, q2⟩ := o2
            cases e2
            rcases q2 with ⟨z, _⟩ | ⟨_, p4, _⟩
            · cases z
            · have := ol2.pure h1
              subst this
              exact p4
          · simp only [Own]
            refine ⟨a, putDs ks ws kk v, [], rfl, putDs_length l, (putDs_own l (ol.mono (Same.refl _) (fun _ z => nomatch z)) (ov.mono (Same.refl _) (fun _ z => nomatch z))), .inr ⟨trivial, .refl _, ?_⟩⟩
            rw [hh, putK_zip l]
      · cases ep
  · rename_i ks xs
    unfold dPutT at ep
    split at ep
    · rename_i ys
      cases ek : keysOf ys with
      | none => rw [ek] at ep; cases ep
      | some kk =>
        rw [ek] at ep
        dsimp only at ep
        split at ep
        · rename_i hp
          cases ep
          rw [Bool.and_eq_true, Bool.and_eq_true, decide_eq_true_eq] at hp
          obtain ⟨⟨h1, h2⟩, h3⟩ := hp
          have := ov.pure h2
          subst this
          simp only [Own] at ok
          obtain ⟨c, us, rfl, qc, oc⟩ := ok
          have := keysOf_V oc ek
          subst this
          simp only [Own] at o
          obtain ⟨a, ws, h, rfl, l, ol, q⟩ := o
          rcases q with ⟨z, _⟩ | ⟨_, p3, hH⟩
          · cases z
          · have := ol.pure h1
            subst this
            refine ⟨a, _, er, DPut.t (k := kk) hH (I.fh _ _ qc) (by rw [List.length_zip, ← l, Nat.min_self]; exact sz_lt h3), fin (J.write1 (fun f' o2 => ?_) fun H' hh => ?_)⟩
            · simp only [Own] at o2
              obtain ⟨a2, ws2, h2', e2, _, ol2, q2⟩ := o2
              cases e2
              rcases q2 with ⟨z, _⟩ | ⟨_, p4, _⟩
              · cases z
              · have := ol2.pure h1
                subst this
                exact p4
            · simp only [Own]
              refine ⟨a, putDs ks ws kk v, [], rfl, putDs_length l, (putDs_own l (ol.mono (Same.refl _) (fun _ z => nomatch z)) (ov.mono (Same.refl _) (fun _ z => nomatch z))), .inr ⟨trivial, .refl _, ?_⟩⟩
              rw [hh, putK_zip l]
        · cases ep
    · cases ep
  · cases ep
end
section
variable {X : Cx} {W : WX} {fx : List Bool} {pa pb pc : Bool} {a b c e f tg : Expr} {ta tb tc te : TE} {fa fb fc fe : M D} {pos p apos cpos : Pos} {ls : List (Option Nat)} {tr : TA} {fr : M (List D)} {K : PySem.W.Frag} {mg : Mg}
theorem ss_dput (i : Nat) {x : Str} {xpos pos' : Pos} (hu : X.A.units + 1 < cLine) (hk : SE X W pa a ta fa) (hv : SE X W pb b tb fb) (hN : X.N[i]? = some x := by rfl) (hvi : Vis X.env.scope x := by first | exact Or.inl rfl | exact Or.inr (Or.inl rfl) | exact Or.inr (Or.inr rfl)) (hd : (x == ("__debug__" : Str)) = false := by decide)
    (hcd : (x == ("__classdict__" : Str)) = false := by decide) (hs : swapsWith b (some (.Subscript (.Name x xpos) a pos')) pos.line X.env = Pure.pure false := by rfl) : SS X W fx (.Assign [.Subscript (.Name x xpos) a pos'] b pos) (sDPut (tVar i) ta tb) (sDPut' i fa fb) := ⟨ps_dput hu (pe_var hN hvi hd hcd) hk.pe hv.pe hs, fun R F H σ δ vs ds E I q => by
  unfold sDPut' mbind at q
  refine hv.snd.then I (fun c ns es e => by rw [e] at q; exact q) (fun e => by rw [e] at q; exact q) fun dv δ1 F1 H1 v e s1 p1 I1 => ?_
  rw [e] at q
  dsimp only at q
  cases e0 : isDict δ1[i]? with
  | false => rw [e0] at q; exact q.elim
  | true =>
    rw [e0, if_pos rfl] at q
    obtain ⟨d0, ed0⟩ : ∃ d0, δ1[i]? = some d0 := by
      cases z : δ1[i]? with
      | none => rw [z] at e0; cases e0
      | some d0 => exact ⟨d0, rfl⟩
    rw [ed0] at e0
    obtain ⟨v0, f0, ev0, o0⟩ := I1.slot ed0 (fun z => by subst z; cases e0)
    refine ⟨v0, ev0, ?_⟩
    refine hk.snd.then I1 (fun c ns es e => by rw [e] at q; exact q.shift s1) (fun e => by rw [e] at q; exact q) fun dk δ2 F2 H2 y e2 s2 p2 I2 => ?_
    rw [e2] at q
    dsimp only at q
    cases e3 : δ2[i]? with
    | none => rw [e3] at q; exact q.elim
    | some d =>
      rw [e3] at q
      dsimp only at q
      cases e4 : dPut d dk dv with
      | none => rw [e4] at q; exact q.elim
      | some d' =>
        rw [e4] at q
        obtain ⟨a', H4, ea, dp, J⟩ := dput_ok I2 e3 e4
        rw [ev0] at ea
        cases ea
        exact ⟨a', H4, rfl, dp, q F2 H4 σ (s1.trans s2) Fx.refl J⟩⟩
theorem snd_dget {i : Nat} {tk : TE} {fk : M D} (h1 : Snd K mg W pa tk fk) : Snd K mg W pa (tDGet (tVar i) tk) (eDGet i fk) := fun R F H σ δ vs ds Q I q => by
  unfold eDGet at q
  cases e0 : isDict δ[i]? with
  | false => rw [e0] at q; exact q.elim
  | true =>
    rw [e0, if_pos rfl] at q
    unfold mbind at q
    obtain ⟨d0, ed0⟩ : ∃ d0, δ[i]? = some d0 := by
      cases z : δ[i]? with
      | none => rw [z] at e0; cases e0
      | some d0 => exact ⟨d0, rfl⟩
    rw [ed0] at e0
    obtain ⟨v0, f0, ev0, o0⟩ := I.slot ed0 (fun z => by subst z; cases e0)
    refine ⟨v0, ev0, ?_⟩
    refine h1.then I (fun c ns es e => by rw [e] at q; exact q) (fun e => by rw [e] at q; exact q) fun k δ1 F1 H1 y e s1 p1 I1 => ?_
    rw [e] at q
    dsimp only at q
    cases e3 : δ1[i]? with
    | none => rw [e3] at q; exact q.elim
    | some d =>
      rw [e3] at q
      dsimp only at q
      cases e4 : dLook d k with
      | none => rw [e4] at q; exact q.elim
      | some r =>
        rw [e4] at q
        obtain ⟨v, f, ev, o⟩ := I1.slot e3 (fun z => by subst z; simp [dLook] at e4)
        rw [ev0] at ev
        cases ev
        obtain ⟨g, ok, _⟩ := I1.top
        obtain ⟨a, ea, o', dg, h1', h2'⟩ := Own.dget I1.fh o ok e4
        cases r with
        | none => exact q.elim
        | some x =>
          dsimp only at q
          cases hp : pure x with
          | false => rw [hp] at q; exact q.elim
          | true =>
            rw [hp, if_pos rfl] at q
            obtain ⟨w, ew, ow⟩ := h2' x rfl
            subst ew
            exact ⟨a, w, ea, dg, q F1 H1 w s1 p1 (I1.pop.push (ow hp))⟩
theorem se_dget (i : Nat) {x : Str} {xpos : Pos} (hu : X.A.units + 1 < cLine) (hk : SE X W pa a ta fa) (hs : PlainIx a := by intro _ _; rfl) (hN : X.N[i]? = some x := by rfl) (hv : Vis X.env.scope x := by first | exact Or.inl rfl | exact Or.inr (Or.inl rfl) | exact Or.inr (Or.inr rfl)) (hd : (x == ("__debug__" : Str)) = false := by decide)
    (hcd : (x == ("__classdict__" : Str)) = false := by decide) : SE X W pa (.Subscript (.Name x xpos) a pos) (tDGet (tVar i) ta) (eDGet i fa) := ⟨pe_dget hu (pe_var hN hv hd hcd) hk.pe hs, snd_dget hk.snd⟩
/-! ### a list in a slot, written at an index; extended -/
theorem snd_putL {i : Nat} {ti tv : TE} {fi fv : M D} (hv : Snd K mg W pb tv fv) (hi : Snd K mg W pa ti fi) : SndS K mg W fx (tAsg tv (gSub (tVar i) ti rSetL)) (sPutL i fi fv) := fun R F H σ δ vs ds E I q => by
  unfold sPutL mbind at q
  refine hv.then I (fun c ns es e => by rw [e] at q; exact q) (fun e => by rw [e] at q; exact q) fun dv δ1 F1 H1 v e s1 p1 I1 => ?_
  rw [e] at q
  dsimp only at q
  cases e0 : isOwnL δ1[i]? with
  | false => rw [e0] at q; exact q.elim
  | true =>
    rw [e0, if_pos rfl] at q
    obtain ⟨xs0, ex0⟩ := isOwnL_get e0
    obtain ⟨a0, ws0, es0, h0, l0⟩ := I1.slotL ex0
    refine ⟨.ref a0, es0, ?_⟩
    refine hi.then I1 (fun c ns es e => by rw [e] at q; exact q.shift s1) (fun e => by rw [e] at q; exact q) fun dk δ2 F2 H2 y e2 s2 p2 I2 => ?_
    rw [e2] at q
    cases dk with
    | int k =>
      dsimp only at q
      have := own_int I2
      subst this
      split at q
      · rename_i xs hx
        cases hj : ixN xs.length k with
        | none => rw [hj] at q; exact q.elim
        | some j =>
          rw [hj] at q
          dsimp only at q
          obtain ⟨r, er, J⟩ := I2.pop.lend hx (fun z => nomatch z)
          obtain ⟨a, ws, f1, f2, rfl, hH, ol, J2⟩ := Ok.setAt J (ixN_lt hj)
          rw [es0] at er
          cases er
          have hil := (List.getElem?_eq_some_iff.mp hx).1
          have J3 := J2.unlend (i := i) (by rw [List.getElem?_set_self hil]) es0
          rw [set_set] at J3
          exact ⟨a0, ws, k, j, rfl, rfl, hH, by rw [ol]; exact hj, q F2 _ σ (s1.trans s2) Fx.refl J3⟩
      · exact q.elim
    | _ => exact q.elim
end
end Dn

set_option Elab.async false
set_option linter.all false
set_option maxRecDepth 100000
set_option maxHeartbeats 4000000
namespace Dn
open PySem L2 PyProof.Rows
/-! ### comprehensions -/
section
variable {X : Cx} {W : WX} {fx : List Bool} {pa pb pc : Bool} {a b c e f tg : Expr} {ta tb tc te : TE} {fa fb fc fe : M D} {pos p apos cpos spos : Pos} {ls : List (Option Nat)} {tr : TA} {fr : M (List D)} {K : PySem.W.Frag} {mg : Mg}
structure STs (X : Cx) (W : WX) (pf : Bool) (es : List Expr) (t : TT) (f : M Bool) : Prop where
  pe : PTs X es t
  snd : SndT X.K X.mg W pf t f
def tYes' : M Bool := mret true
theorem sts_nil : STs X W true [] tYes tYes' := ⟨pts_nil, fun R F H σ δ vs ds Q I q => q F H (Same.refl _) (fun _ => Same.refl _) I⟩
theorem sts_one {t : TT} {f : M Bool} (h : ST X W pa c t f) : STs X W pa [c] t f := ⟨pts_one h.pe, h.snd⟩
theorem se_lc {elt tg iter : Expr} {ifs : List Expr} {scope : Scope} {own : List (Str × Nat)} {gs : List Nat} {wi : TI} {tgt : TG} {tt : TT} {te : TE} {fi : M (List D)} {g : D → List D → Option (List D)} {ft : M Bool} {fe : M D} (hc : X.calm = true) (hN : X.N.Nodup) (hi : SI X W tg iter wi fi) (ok : BlkOk X.N X.env.scope scope own)
    (hg : ∀ (s : Shared) (H : Hp) (C : Addr) (cl : List (Str × Addr)) (fp : List Addr), SG (X.blk s H scope (compEnvC scope cl C X.env) fp) gs tg tgt g) (ht : ∀ (s : Shared) (H : Hp) (C : Addr) (cl : List (Str × Addr)) (fp : List Addr), STs (X.blk s H scope (compEnvC scope cl C X.env) fp) W0 pa ifs tt ft)
    (he : ∀ (s : Shared) (H : Hp) (C : Addr) (cl : List (Str × Addr)) (fp : List Addr), SE (X.blk s H scope (compEnvC scope cl C X.env) fp) W0 pb elt te fe) (hgo : ∀ i ∈ gs, i ∈ own.map (·.2)) (hs : ∀ x, foldedSetIterable iter X.env x = Pure.pure x := by intro _; rfl) :
    SE X W false (.ListComp elt [⟨tg, iter, ifs, 0⟩] scope pos) (tLc wi tgt tt te (own.map (·.2))) (eLc (own.map (·.2)) fi g ft fe) :=
  ⟨pe_lc hc hN hi.pe ok (fun s H C cl fp => (hg s H C cl fp).pe) (fun s H C cl fp => (ht s H C cl fp).pe) (fun s H C cl fp => (he s H C cl fp).pe) hs,
    snd_lc hi.snd (hg X.s_0 (fun _ => none) 0 [] []).snd (ht X.s_0 (fun _ => none) 0 [] []).snd (he X.s_0 (fun _ => none) 0 [] []).snd hgo⟩
theorem ss_setLc (i : Nat) {y : Str} {py : Pos} {elt tg iter : Expr} {ifs : List Expr} {scope : Scope} {own : List (Str × Nat)} {gs : List Nat} {wi : TI} {tgt : TG} {tt : TT} {te : TE} {fi : M (List D)} {g : D → List D → Option (List D)} {ft : M Bool} {fe : M D} (hc : X.calm = true) (hN : X.N.Nodup) (hsw : swapsWith (.ListComp elt [⟨tg, iter, ifs, 0⟩] scope pos) (some (.Name y py)) spos.line X.env = Pure.pure true) (hi : SI X W tg iter wi fi) (ok : BlkOk X.N X.env.scope scope own)
    (hg : ∀ (s : Shared) (H : Hp) (C : Addr) (cl : List (Str × Addr)) (fp : List Addr), SG (X.blk s H scope (compEnvC scope cl C X.env) fp) gs tg tgt g) (ht : ∀ (s : Shared) (H : Hp) (C : Addr) (cl : List (Str × Addr)) (fp : List Addr), STs (X.blk s H scope (compEnvC scope cl C X.env) fp) W0 pa ifs tt ft)
    (he : ∀ (s : Shared) (H : Hp) (C : Addr) (cl : List (Str × Addr)) (fp : List Addr), SE (X.blk s H scope (compEnvC scope cl C X.env) fp) W0 pb elt te fe) (hgo : ∀ i ∈ gs, i ∈ own.map (·.2)) (hfx : NotFx fx [i] = true := by rfl) (hy : X.N[i]? = some y := by rfl) (hyl : X.env.scope.names.lookup y = some .local := by rfl) (hs : ∀ x, foldedSetIterable iter X.env x = Pure.pure x := by intro _; rfl) :
    SS X W fx (.Assign [.Name y py] (.ListComp elt [⟨tg, iter, ifs, 0⟩] scope pos) spos) (tAsg (tLc wi tgt tt te (own.map (·.2))) (gName i)) (sAsg (gN i) (eLc (own.map (·.2)) fi g ft fe)) :=
  ⟨ps_setLc hc hN hy hyl hsw hi.pe ok (fun s H C cl fp => (hg s H C cl fp).pe) (fun s H C cl fp => (ht s H C cl fp).pe) (fun s H C cl fp => (he s H C cl fp).pe) hs,
    snd_asg (snd_lc hi.snd (hg X.s_0 (fun _ => none) 0 [] []).snd (ht X.s_0 (fun _ => none) 0 [] []).snd (he X.s_0 (fun _ => none) 0 [] []).snd hgo) (sg_name (pos := py) i hN hy (.inl hyl) (.inr hyl)).snd hfx⟩
/-! ### enumerate -/
def enumD (xs : List D) : List D := (List.range xs.length).map fun i => .tup [.int (i : Nat), xs.getD i .un]
theorem enumD_length (xs : List D) : (enumD xs).length = xs.length := by simp [enumD]
def iEn (fa : M (List D)) : M (List D) := mbind fa fun es => match es with
  | [d] => (match listOf d with
    | some xs => if pureL xs = true then mret (enumD xs) else mbad
    | none => mbad)
  | _ => mbad
theorem itOk_enum {a : Addr} {d : D} {xs : List D} (e : listOf d = some xs) (p : pureL xs = true) : ItOk K mg (Ite K a) (enumD xs) [.ref a] [d] where
  len := rfl
  go := fun i R F H σ δ vs ds hi I => by
    rw [enumD_length] at hi
    obtain ⟨b, ws, eb, sq, l, _⟩ := I.asList e
    cases eb
    exact ⟨ws, ws[i]'(by omega), sq, by simp [l, hi]⟩
  stop := fun i R F H σ δ vs ds hi I => by
    rw [enumD_length] at hi
    obtain ⟨b, ws, eb, sq, l, _⟩ := I.asList e
    cases eb
    exact ⟨ws, sq, by omega⟩
  yld := fun i d' x R F H H' σ δ vs ds hx I y => by
    obtain ⟨b, ws, eb, sq, l, at'⟩ := I.asList e
    cases eb
    obtain ⟨T, z, rfl, hT, rfl, y⟩ := y
    have hi : i < xs.length := by
      have := (List.getElem?_eq_some_iff.mp hx).1
      rwa [enumD_length] at this
    have hx2 : xs[i]? = some xs[i] := List.getElem?_eq_getElem hi
    unfold enumD at hx
    rw [List.getElem?_map, List.getElem?_range hi] at hx
    have hx : D.tup [.int (i : Nat), xs.getD i .un] = d' := Option.some.inj hx
    subst hx
    have hgd : xs.getD i .un = xs[i] := by rw [List.getD_eq_getElem?_getD, hx2]; rfl
    rw [hgd]
    obtain ⟨w, e2, o⟩ := at' i xs[i] hx2 (pureL_at p hx2)
    have := y ws sq
    rw [e2] at this
    cases this
    have J : Ok K mg R F H σ δ ([V.int (i : Nat), z] ++ ([.ref a] ++ vs)) ([D.int (i : Nat), xs[i]] ++ ([d] ++ ds)) := (I.push o).pushI _
    exact ⟨_, fun b o e => by rw [upd_ne (ne_of_none e (I.fh.free hT))]; exact e, J.newT rfl hT⟩
theorem si_enum {elts : List Expr} {kk : Nat} {tpos : Pos} (hg : Gl X "enumerate") (hm : X.mg "enumerate" = none) (ha : SA X W pa ls [e] tr fr) (hs : starEach [e] X.env = [(false, eval e X.env)] := by rfl) :
    SI X W (.Tuple elts kk tpos) (.Call (.Name "enumerate" p) [e] [] pos) (iEnum X.K tr) (iEn fr) := ⟨pi_enum hg hm ha.pe hs, fun R F H σ δ vs ds Q I q => by
  unfold iEn mbind at q
  refine ha.snd.then I (fun c ns es e => by rw [e] at q; exact q) (fun e => by rw [e] at q; exact q) fun es δ1 F1 H1 ws e s1 p1 l lo I1 => ?_
  rw [e] at q
  dsimp only at q
  split at q
  · rename_i d
    match ws, l with
    | [w], _ =>
      have I' : Ok X.K X.mg R F1 H1 σ δ1 (w :: vs) (d :: ds) := I1
      cases el : listOf d with
      | none => rw [el] at q; exact q.elim
      | some xs =>
        rw [el] at q
        dsimp only at q
        cases ep : pureL xs with
        | false => rw [ep] at q; exact q.elim
        | true =>
          rw [ep, if_pos rfl] at q
          obtain ⟨a, us, rfl, sq, l2, _⟩ := I'.asList el
          exact ⟨a, us, rfl, sq, q F1 H1 _ [.ref a] [d] s1 (itOk_enum el ep) I'⟩
  · exact q.elim⟩
/-! ### raise -/
def sRaise (c : Str) : M Fl := fun _ => .er c [] []
theorem pmk_own0 {C : Addr} {bmB : List Value} {B newId initId : String} {x : Str} (F : ExcBaseFacts B newId initId bmB) (q : PySem.W.excIn X.K C bmB newId = true) (gC : X.mg x = some (.ref C))
    (kC : PySem.W.keepIn X.K (.ref C) = true) (r : Raises X (.ref C)) (hg : Gl X x) (hdb : (x == ("__debug__" : Str)) = false := by decide) :
    PMk X (.Call (.Name x p) [] [] pos) (fun _ H Q => Q (.ref C) none H) := by
  intro pins s σ H Q I h
  refine wpAny_Call_Name_kw (ld_glob I hg gC ?_ hdb)
  refine PySem.W.callWith_K0 I.kIn kC ?_
  show wpAny _ _ (call (.ref C) []) _ _ _
  obtain ⟨bm, N, nm, qn, bs, hdct, sn, sub, ab, col, dd, k0, k1, k2, k3, k5, mN, hC, hN, hni, T⟩ := exc_obj I.kIn q
  refine wpAny_call_exc_subT F T hC hN hni (fun h' e hm => ?_) (Nat.zero_le _)
  exact mk_of I hm r h (I.hok.gone hm.new)
theorem ss_raise0 {C : Addr} {bmB : List Value} {B newId initId : String} {x : Str} {rpos : Pos} (hc : X.calm = true) (tk : Takes X W) (F : ExcBaseFacts B newId initId bmB) (q : PySem.W.excIn X.K C bmB newId = true) (gC : X.mg x = some (.ref C))
    (kC : PySem.W.keepIn X.K (.ref C) = true) (r : Raises X (.ref C)) (hg : Gl X x) (hdb : (x == ("__debug__" : Str)) = false := by decide) : SS X W fx (.Raise (some (.Call (.Name x p) [] [] pos)) none rpos) (fun _ σ H => W (.ref C) none σ H) (sRaise x) :=
  ⟨ps_raise (t := fun _ H Q => Q (.ref C) none H) hc tk (pmk_own0 F q gC kC r hg hdb), fun R F H σ δ vs ds E I q => q F H (.ref C) none σ (Same.refl _) rfl I.reset gC (.inl ⟨rfl, rfl, rfl⟩)⟩
/-! ### a def in a slot -/
theorem SndA.noLend (h : SndA K mg W pa ls tr fr) : SndA K mg W pa [] tr fr := fun R F H σ δ vs ds Q I q => by
  refine h R F H σ δ vs ds Q I ?_
  cases e : fr δ with
  | bad => rw [e] at q; exact q
  | er c n z => rw [e] at q; exact q
  | ok r => rw [e] at q; exact fun F' H' ws s p l J _ => q F' H' ws s p l J (fun j i h => by simp at h)
theorem se_callL {k n i : Nat} {f : Addr} {fd : FuncData} {ps : List Str} {G : Fn} {x nm : Str} {es : List Expr} {E : XK} (FO : FnOk X.prog X.w X.K X.mg X.base (L2.CX X.prog X.w) k f fd ps (spOf X.K X.mg n G)) (hr : Room k X.A) (hN : X.N[i]? = some x) (hv : Vis X.env.scope x) (hm : X.mg nm = some (.ref f)) (hk : PySem.W.keepIn X.K (.ref f) = true) (hb : Binds X.K fd ps [])
    (tk : Takes X (fun cls d _ H => E cls d H)) (ha : SA X (fun cls d _ H => E cls d H) pa ls (e :: es) tr fr) (hn : ∀ es δ δ', fr δ = .ok (es, δ') → es.length = n) (hdb : (x == ("__debug__" : Str)) = false := by decide) (hcd : (x == ("__classdict__" : Str)) = false := by decide)
    (he : starEach (e :: es) X.env = (false, eval e X.env) :: starEach es X.env := by rfl) (hpl : (backTo pos (starEach es X.env)).any (·.1) = false := by rfl) :
    SE X (fun cls d _ H => E cls d H) false (.Call (.Name x p) (e :: es) [] pos) (tCallL i f (spOf X.K X.mg n G) [] E tr) (eCallL i nm G fr) := ⟨pe_callL FO hr hN hv hk hb .nil (passes_call tk fun _ _ _ _ h => h) ha.pe hdb hcd he hpl, fun R F H σ δ vs ds Q I q => by
  unfold eCallL at q
  split at q
  · rename_i m hm1
    by_cases hmn : m = nm
    · rw [if_pos hmn] at q
      subst hmn
      obtain ⟨v, g, ev, o⟩ := I.slot hm1 (fun z => nomatch z)
      simp only [Own] at o
      obtain ⟨_, a, rfl, ea⟩ := o
      rw [hm] at ea
      cases ea
      refine ⟨ev, ?_⟩
      have := snd_call (n := n) (G := G) (ls := []) (SndA.noLend ha.snd) hn R F H σ δ vs ds Q I q
      unfold tCallS at this
      have e0 : (fun (vs : List V) (H1 : Hp) => spOf X.K X.mg n G (vs ++ []) H1 Q E) = fun vs H1 => spOf X.K X.mg n G vs H1 Q E := by
        funext vs H1
        rw [List.append_nil]
      rw [e0]
      exact this
    · rw [if_neg hmn] at q; exact q.elim
  · exact q.elim⟩
end
end Dn

set_option Elab.async false
set_option linter.all false
set_option maxRecDepth 100000
set_option maxHeartbeats 4000000
namespace Dn
open PySem L2 PyProof.Rows
section
variable {K : PySem.W.Frag} {mg : Mg} {R F F' H H' : Hp} {σ : L2.St} {δ : List D} {vs : List V} {ds : List D}
theorem OwnSL.frozen : ∀ {δ : List D} {f : List Addr} {σ : List (Option V)}, OwnSL K mg F H δ f σ → ∀ {G : Hp}, Same F G → (∀ a ∈ f, G a = H a) → OwnSL K mg G H' (stripL δ) [] σ
  | [], f, σ, h, G, s, k => ⟨rfl, h.2⟩
  | d :: δ, f, σ, ⟨ov, r, f1, f2, e, q, a, b⟩, G, s, k => by
    refine ⟨ov, r, [], [], e, .refl _, ?_, b.frozen s (fun x hx => k x (q.mem_iff.mpr (List.mem_append_right _ hx)))⟩
    rcases a with ⟨rfl, _⟩ | ⟨v, e2, a⟩
    · exact .inl ⟨rfl, rfl⟩
    · exact .inr ⟨v, e2, a.frozen s (fun x hx => k x (q.mem_iff.mpr (List.mem_append_left _ hx)))⟩
/-- all slots frozen: a view, to look at them -/
theorem Ok.view (I : Ok K mg R F H σ δ vs ds) : ∃ F', Same F F' ∧ Ok K mg R F' H σ (stripL δ) vs ds := by
  obtain ⟨fh, rh, sep, fp, f1, f2, nd, cl, p, a, b⟩ := I
  have nd' := List.nodup_append.mp (p.nodup_iff.mp nd)
  have c1 : ∀ x ∈ f1, F x = none ∧ R x = none := fun x hx => cl x (p.mem_iff.mpr (List.mem_append_left _ hx))
  have s : Same F (frz F H f1) := frz_same fun x hx => (c1 x hx).1
  refine ⟨frz F H f1, s, fun x o z => ?_, rh, fun x o z => ?_, f2, [], f2, nd'.2.1, fun x hx => ⟨?_, (cl x (p.mem_iff.mpr (List.mem_append_right _ hx))).2⟩, .refl _, a.frozen s (fun x hx => frz_at hx), b.mono s (fun _ _ => rfl)⟩
  · unfold frz at z
    split at z
    · exact z
    · exact fh _ _ z
  · unfold frz
    split
    · rename_i hx; rw [(c1 x hx).2] at z; cases z
    · exact sep x o z
  · unfold frz
    rw [if_neg (fun z => nd'.2.2 x z x hx rfl)]
    exact (cl x (p.mem_iff.mpr (List.mem_append_right _ hx))).1
end
def flat : D → Bool
  | .non => true | .bl _ => true | .int _ => true | .str _ => true
  | _ => false
theorem Own.flat {K : PySem.W.Frag} {mg : Mg} {F F' H H' : Hp} {d : D} {f : List Addr} {v : V} (o : Own K mg F H d f v) (e : Dn.flat d = true) : Own K mg F' H' d [] v := by
  cases d <;> first | cases e | skip
  all_goals (simp only [Own] at o ⊢; exact ⟨trivial, o.2⟩)
/-- looked at, nothing kept of it -/
def eBor (f : M D) : M D := fun δ => match f (stripL δ) with
  | .ok (d, _) => if flat d = true then .ok (d, δ) else .bad
  | _ => .bad
def aConsF (fa : M D) (fr : M (List D)) : M (List D) := mbind fa fun x => mbind fr fun xs => mret (strip x :: xs)
def sRetF (f : M D) : M Fl := mbind f fun d => mret (.rt (strip d))
/-- a def that may be called by its name -/
structure Cal (P : Program) (w : World) (K : PySem.W.Frag) (mg : Mg) (base : Heap) (k : Nat) (x : Str) (n : Nat) (G : Fn) : Prop where
  ex : ∃ f fd ps, FnOk P w K mg base (L2.CX P w) k f fd ps (spOf K mg n G) ∧ mg x = some (.ref f) ∧ PySem.W.keepIn K (.ref f) = true ∧ Binds K fd ps []
theorem Cal.mono {P : Program} {w : World} {K : PySem.W.Frag} {mg : Mg} {base : Heap} {j k : Nat} {x : Str} {n : Nat} {G : Fn} (C : Cal P w K mg base j x n G) (h : j ≤ k) : Cal P w K mg base k x n G := by
  obtain ⟨f, fd, ps, a, b⟩ := C.ex
  exact ⟨f, fd, ps, a.mono h, b⟩
section
variable {X : Cx} {W : WX} {fx : List Bool} {pa pb pc : Bool} {a b c e f tg : Expr} {ta tb tc te : TE} {fa fb fc fe : M D} {pos p apos cpos spos : Pos} {ls : List (Option Nat)} {es : List Expr} {tr : TA} {fr : M (List D)} {K : PySem.W.Frag} {mg : Mg}
theorem se_bor (h : SE X W0 true e te fe) : SE X W true e te (eBor fe) := ⟨h.pe, fun R F H σ δ vs ds Q I q => by
  unfold eBor at q
  obtain ⟨Fv, sv, Iv⟩ := I.view
  refine h.snd.then Iv (fun c ns es e => by rw [e] at q; exact q.elim) (fun e => by rw [e] at q; exact q) fun d δ1 F1 H1 v e s1 p1 I1 => ?_
  rw [e] at q
  dsimp only at q
  cases hf : flat d with
  | false => rw [hf] at q; exact q.elim
  | true =>
    rw [hf, if_pos rfl] at q
    obtain ⟨f, o, _⟩ := I1.top
    exact q F H1 v (Same.refl _) p1 ((I.grow (p1 rfl)).push (Own.flat o hf))⟩
def tBor (f : M Bool) : M Bool := fun δ => match f (stripL δ) with
  | .ok (b, _) => .ok (b, δ)
  | _ => .bad
theorem st_bor {t : TT} {f : M Bool} (h : ST X W0 true e t f) : ST X W true e t (tBor f) := ⟨h.pe, fun R F H σ δ vs ds Q I q => by
  unfold tBor at q
  obtain ⟨Fv, sv, Iv⟩ := I.view
  refine h.snd.then Iv (fun c ns es e => by rw [e] at q; exact q.elim) (fun e => by rw [e] at q; exact q) fun b δ1 F1 H1 e s1 p1 I1 => ?_
  rw [e] at q
  exact q F H1 (Same.refl _) p1 (I.grow (p1 rfl))⟩
theorem snd_consF {l0 : Option Nat} (ha : Snd K mg W pa ta fa) (hr : SndA K mg W pb ls tr fr) : SndA K mg W (pa && pb) (none :: ls) (tCons ta tr) (aConsF fa fr) := fun R F H σ δ vs ds Q I q => by
  unfold aConsF mbind at q
  refine ha.then I (fun c ns es e => by rw [e] at q; exact q) (fun e => by rw [e] at q; exact q) fun d δ1 F1 H1 v e s1 p1 I1 => ?_
  rw [e] at q
  dsimp only at q
  obtain ⟨F1', s1', I1'⟩ := I1.freeze
  refine hr.then I1' (fun c ns es e => by rw [e] at q; exact q.shift (s1.trans s1')) (fun e => by rw [e] at q; exact q) fun es2 δ2 F2 H2 ws e2 s2 p2 l2 lo I2 => ?_
  rw [e2] at q
  refine q F2 H2 (v :: ws) (s1.trans (s1'.trans s2)) (fun hp => ?_) (by simp [l2]) ?_ (fun j i h => ?_)
  · rw [Bool.and_eq_true] at hp
    exact (p1 hp.1).trans (p2 hp.2)
  · exact Ok.raise (hv := ws) (hd := es2) l2 I2
  · cases j with
    | zero => simp at h
    | succ j => exact lo j i (by simpa using h)
theorem sa_consF (ha : SE X W pa e te fe) (hr : SA X W pb ls es tr fr) (hs : starEach (e :: es) X.env = (false, eval e X.env) :: starEach es X.env := by rfl) : SA X W (pa && pb) (none :: ls) (e :: es) (tCons te tr) (aConsF fe fr) :=
  ⟨pa_cons ha.pe hr.pe hs, snd_consF (l0 := none) ha.snd hr.snd⟩
theorem aConsF_len {fa : M D} {fr : M (List D)} {n : Nat} (hr : ∀ es δ δ', fr δ = .ok (es, δ') → es.length = n) : ∀ es δ δ', aConsF fa fr δ = .ok (es, δ') → es.length = n + 1 := fun es δ δ' h => by
  unfold aConsF mbind at h
  cases e : fa δ with
  | bad => rw [e] at h; cases h
  | er c n e2 => rw [e] at h; cases h
  | ok r =>
    rw [e] at h
    dsimp only at h
    cases e2 : fr r.2 with
    | bad => rw [e2] at h; cases h
    | er c n e2 => rw [e2] at h; cases h
    | ok r2 =>
      rw [e2] at h
      cases h
      simp [hr r2.1 r.2 r2.2 e2]
theorem ss_retF (h : SE X W pa e te fe) : SS X W fx (.Return (some e) pos) (tRet te) (sRetF fe) := ⟨ps_ret h.pe, fun R F H σ δ vs ds E I q => by
  unfold sRetF mbind at q
  refine h.snd.then I (fun c ns es e => by rw [e] at q; exact q) (fun e => by rw [e] at q; exact q) fun d δ1 F1 H1 v e s1 p1 I1 => ?_
  rw [e] at q
  obtain ⟨F1', s1', I1'⟩ := I1.freeze
  exact q F1' H1 σ v (s1.trans s1') Fx.refl I1'⟩
theorem se_callC {k n : Nat} {x : Str} {G : Fn} (C : Cal X.prog X.w X.K X.mg X.base k x n G) (hr : Room k X.A) (hg : Gl X x) (tk : Takes X W) (ha : SA X W pa ls (e :: es) tr fr)
    (hn : ∀ es δ δ', fr δ = .ok (es, δ') → es.length = n) (hdb : (x == ("__debug__" : Str)) = false := by decide)
    (he : starEach (e :: es) X.env = (false, eval e X.env) :: starEach es X.env := by rfl) (hpl : (backTo pos (starEach es X.env)).any (·.1) = false := by rfl) : SE X W false (.Call (.Name x p) (e :: es) [] pos) (tCallS (spOf X.K X.mg n G) (WE W) tr) (eCall G ls fr) := by
  obtain ⟨f, fd, ps, FO, hm, hk, hb⟩ := C.ex
  exact se_call FO hr hg hm hk hb tk ha hn hdb he hpl
end
theorem def_cal {P : Program} {w : World} {K : PySem.W.Frag} {mg : Mg} {base : Heap} {x qual : Str} {st : Stmt} {f : Addr} {fd : FuncData} {N ps : List Str} {k : Nat} {keep : List Bool} {g : M Fl} (FN : Fun K x qual st f fd) (hm : mg x = some (.ref f)) (hb : Binds K fd ps []) (S : FnScope N ps (defScope st)) (hk : keep.length = ps.length) (hn : ps.length ≤ N.length)
    (hbody : ∀ (cdv : Value) (A : Around) (outer : List Env) (s : Shared) (H : Hp) (E : XK), Room k (A.deeper (envOfC qual (defScope st) s.heap.objs.size f cdv)) →
      ∃ t, SSs (cxOf (L2.CX P w) P w K mg base N qual (defScope st) f cdv A outer s H E) (fun cls d _ H => E cls d H) keep (defBody st) t g) : Cal P w K mg base (k + 1) x ps.length (fnD N.length ps.length keep g) :=
  ⟨f, fd, ps, def_ok FN S hk hn hbody, hm, FN.kp, hb⟩
theorem bad_cal {P : Program} {w : World} {K : PySem.W.Frag} {mg : Mg} {base : Heap} {x qual : Str} {st : Stmt} {f : Addr} {fd : FuncData} {ps : List Str} {k n : Nat} (FN : Fun K x qual st f fd) (hm : mg x = some (.ref f)) (hb : Binds K fd ps []) : Cal P w K mg base k x n (fun _ => .bad) :=
  ⟨f, fd, ps, bad_ok, hm, FN.kp, hb⟩
end Dn

set_option Elab.async false
set_option linter.all false
set_option maxRecDepth 100000
set_option maxHeartbeats 4000000
namespace Dn
open PySem L2 PyProof.Rows
/-! ### in, not in, is None -/
def dIn (x y : D) : Option D := match toPy x, toPy y with
  | some p, some (.list qs) => if SeqAt.shaped p && SeqAt.shaped (.list qs) then some (.bl (qs.any fun z => PyData.eqv z p)) else none
  | _, _ => none
def dNotIn (x y : D) : Option D := match toPy x, toPy y with
  | some p, some (.list qs) => if SeqAt.shaped p && SeqAt.shaped (.list qs) then some (.bl (!qs.any fun z => PyData.eqv z p)) else none
  | _, _ => none
def dIsN : D → D → Option D
  | .un, _ => none
  | .non, .non => some (.bl true)
  | _, .non => some (.bl false)
  | _, _ => none
def intsD : List D → Option (List Int)
  | [] => some []
  | .int i :: ds => (intsD ds).map (i :: ·)
  | _ => none
def dMax : List D → Option D
  | [d] => match listOf d with
    | some xs => match intsD xs with
      | some (i :: is) => some (.int (is.foldl max i))
      | _ => none
    | none => none
  | _ => none
def dMin : List D → Option D
  | [d] => match listOf d with
    | some xs => match intsD xs with
      | some (i :: is) => some (.int (is.foldl min i))
      | _ => none
    | none => none
  | _ => none
def strsD : List D → Option (List Str)
  | [] => some []
  | .str i :: ds => (strsD ds).map (i :: ·)
  | _ => none
def dJoin (z : Str) (d : D) : Option D := match listOf d with
  | some xs => match strsD xs with
    | some ys => if (ys.map (·.length)).sum + ys.length * z.length ≤ 16777216 then some (.str (Txt.join z ys)) else none
    | none => none
  | none => none
/-- reversed(range(a, b)) -/
def rgR (hi : Int) (n : Nat) : List D := (List.range n).map fun i => .int (hi - (i : Nat))
def iRR (fa fb : M D) : M (List D) := mbind fa fun x => mbind fb fun y => match x, y with
  | .int i, .int j => if -(2 ^ 62) ≤ i ∧ i < 2 ^ 62 ∧ -(2 ^ 62) ≤ j ∧ j < 2 ^ 62 then mret (rgR (j - 1) (j - i).toNat) else mbad
  | _, _ => mbad
/-- sorted(xs), pairs of ints -/
def pairD : D → Option (Int × Int)
  | .tup [.int x, .int y] => some (x, y)
  | _ => none
def pairsD : List D → Option (List (Int × Int))
  | [] => some []
  | d :: ds => match pairD d, pairsD ds with
    | some p, some ps => some (p :: ps)
    | _, _ => none
def tp (p : Int × Int) : D := .tup [.int p.1, .int p.2]
def leP (p q : Int × Int) : Bool := decide (p.1 < q.1 ∨ (p.1 = q.1 ∧ p.2 ≤ q.2))
def dSorted : List D → Option D
  | [d] => match listOf d with
    | some xs => match pairsD xs with
      | some ps => if ps.length ≤ 100000 then some (.lst true ((ps.mergeSort leP).map tp)) else none
      | none => none
    | none => none
  | _ => none
section
variable {K : PySem.W.Frag} {mg : Mg} {R F F' H H' : Hp} {σ : L2.St} {δ : List D} {vs : List V} {ds : List D}
theorem o_in : Op2 K mg (rInD K) dIn := fun R F H σ δ vs ds x y dx dy d Q I e k => by
  unfold dIn at e
  split at e
  · rename_i p q e1 e2
    split at e
    · rename_i hs
      cases e
      rw [Bool.and_eq_true] at hs
      obtain ⟨f, o, _⟩ := I.top
      obtain ⟨f2, o2, _⟩ := I.pop.top
      exact ⟨p, q, Own.dp I.fh o2 e1, Own.dp I.fh o e2, hs.1, hs.2, k F H _ (Same.refl _) (Same.refl _) (I.pop.pop.pushB _)⟩
    · cases e
  · cases e
theorem o_notin : Op2 K mg (rNotInD K) dNotIn := fun R F H σ δ vs ds x y dx dy d Q I e k => by
  unfold dNotIn at e
  split at e
  · rename_i p q e1 e2
    split at e
    · rename_i hs
      cases e
      rw [Bool.and_eq_true] at hs
      obtain ⟨f, o, _⟩ := I.top
      obtain ⟨f2, o2, _⟩ := I.pop.top
      exact ⟨p, q, Own.dp I.fh o2 e1, Own.dp I.fh o e2, hs.1, hs.2, k F H _ (Same.refl _) (Same.refl _) (I.pop.pop.pushB _)⟩
    · cases e
  · cases e
theorem own_notnon {d : D} {f : List Addr} {v : V} (o : Own K mg F H d f v) (h : d ≠ .un) (h2 : d ≠ .non) : v ≠ .non := fun z => by
  subst z
  cases d <;> simp only [Own] at o <;> first | exact h rfl | exact h2 rfl | skip
  all_goals (obtain ⟨_, o⟩ := o; first | (cases o; done) | (obtain ⟨_, o, _⟩ := o; cases o; done) | (obtain ⟨_, _, o, _⟩ := o; cases o; done) | (obtain ⟨_, o⟩ := o; cases o; done) | skip)
  all_goals first | (obtain ⟨_, o, _⟩ := o; cases o; done) | (obtain ⟨_, _, o, _⟩ := o; cases o; done) | (obtain ⟨_, _, _, o, _⟩ := o; cases o; done) | (obtain ⟨_, _, _, _, o, _⟩ := o; cases o; done)
theorem o_isN : Op2 K mg (fun x y H Q => y = .non ∧ Q (.bl (decide (x = .non))) H) dIsN := fun R F H σ δ vs ds x y dx dy d Q I e k => by
  have hy : dy = .non := by
    cases dx <;> cases dy <;> first | rfl | cases e
  subst hy
  have ey := own_non I
  subst ey
  obtain ⟨f2, o2, _⟩ := I.pop.top
  refine ⟨rfl, ?_⟩
  by_cases hx : dx = .non
  · subst hx
    cases e
    have ex := own_non I.pop
    subst ex
    rw [decide_eq_true rfl]
    exact k F H _ (Same.refl _) (Same.refl _) (I.pop.pop.pushB _)
  · have hu : dx ≠ .un := fun z => by subst z; cases e
    have hv := own_notnon o2 hu hx
    have ed : d = .bl false := by
      cases dx <;> first | (exact absurd rfl hx) | (exact absurd rfl hu) | (cases e; rfl)
    subst ed
    rw [decide_eq_false hv]
    exact k F H _ (Same.refl _) (Same.refl _) (I.pop.pop.pushB _)
theorem intsD_own : ∀ {xs : List D} {is : List Int} {f : List Addr} {ws : List V}, intsD xs = some is → OwnL K mg F H xs f ws → ws = is.map V.int
  | [], is, f, ws, e, o => by simp only [intsD] at e; cases e; simp only [OwnL] at o; exact o.2
  | d :: xs, is, f, ws, e, o => by
    simp only [OwnL] at o
    obtain ⟨v, vr, f1, f2, rfl, q, a, b⟩ := o
    cases d <;> simp only [intsD] at e <;> try cases e
    cases e2 : intsD xs with
    | none => rw [e2] at e; cases e
    | some js =>
      rw [e2] at e; cases e
      simp only [Own] at a
      rw [a.2, intsD_own e2 b]; rfl
theorem strsD_own : ∀ {xs : List D} {is : List Str} {f : List Addr} {ws : List V}, strsD xs = some is → OwnL K mg F H xs f ws → ws = is.map V.str
  | [], is, f, ws, e, o => by simp only [strsD] at e; cases e; simp only [OwnL] at o; exact o.2
  | d :: xs, is, f, ws, e, o => by
    simp only [OwnL] at o
    obtain ⟨v, vr, f1, f2, rfl, q, a, b⟩ := o
    cases d <;> simp only [strsD] at e <;> try cases e
    cases e2 : strsD xs with
    | none => rw [e2] at e; cases e
    | some js =>
      rw [e2] at e; cases e
      simp only [Own] at a
      rw [a.2, strsD_own e2 b]; rfl
/-- a list at hand, its items -/
theorem Ok.asListO {d : D} {v : V} {xs : List D} (I : Ok K mg R F H σ δ (v :: vs) (d :: ds)) (e : listOf d = some xs) :
    ∃ (a : Addr) (ws : List V) (f : List Addr), v = .ref a ∧ SqL K H a ws ∧ OwnL K mg F H xs f ws := by
  obtain ⟨f, o, _⟩ := I.top
  cases d with
  | lst b ys =>
    cases e
    simp only [Own] at o
    obtain ⟨a, ws, g, rfl, ol, q⟩ := o
    refine ⟨a, ws, g, rfl, ?_, ol⟩
    rcases q with ⟨_, _, _, q⟩ | ⟨_, _, q⟩
    · exact SqL.of (I.fh _ _ q)
    · exact SqL.of q
  | scr ys =>
    cases e
    simp only [Own] at o
    obtain ⟨_, a, ws, rfl, q, ol⟩ := o
    exact ⟨a, ws, [], rfl, I.fh.seq q, ol⟩
  | _ => cases e
theorem foldl_max : ∀ (is : List Int) (i m : Int), m ∈ (i :: is) → (∀ y ∈ (i :: is), y ≤ m) → m = is.foldl max i
  | [], i, m, h, _ => by simpa using h
  | j :: is, i, m, h, hy => by
    show m = is.foldl max (max i j)
    refine foldl_max is (max i j) m ?_ ?_
    · have hi := hy i (by simp)
      have hj := hy j (by simp)
      rcases List.mem_cons.mp h with rfl | h
      · rw [Int.max_eq_left hj]; simp
      · rcases List.mem_cons.mp h with rfl | h
        · rw [Int.max_eq_right hi]; simp
        · exact List.mem_cons_of_mem _ h
    · intro y z
      rcases List.mem_cons.mp z with rfl | z
      · have hi := hy i (by simp)
        have hj := hy j (by simp)
        omega
      · exact hy y (by simp [z])
theorem foldl_min : ∀ (is : List Int) (i m : Int), m ∈ (i :: is) → (∀ y ∈ (i :: is), m ≤ y) → m = is.foldl min i
  | [], i, m, h, _ => by simpa using h
  | j :: is, i, m, h, hy => by
    show m = is.foldl min (min i j)
    refine foldl_min is (min i j) m ?_ ?_
    · have hi := hy i (by simp)
      have hj := hy j (by simp)
      rcases List.mem_cons.mp h with rfl | h
      · rw [Int.min_eq_left hj]; simp
      · rcases List.mem_cons.mp h with rfl | h
        · rw [Int.min_eq_right hi]; simp
        · exact List.mem_cons_of_mem _ h
    · intro y z
      rcases List.mem_cons.mp z with rfl | z
      · have hi := hy i (by simp)
        have hj := hy j (by simp)
        omega
      · exact hy y (by simp [z])
theorem o_max : OpN K mg (rMax K) dMax := fun R F H σ δ vs ds ws es d Q l I e k => by
  unfold dMax at e
  split at e
  · rename_i x
    split at e
    · rename_i xs hl
      split at e
      · rename_i i is hi
        cases e
        match ws, l with
        | [w], _ =>
          obtain ⟨a, us, f, rfl, sq, ol⟩ := (show Ok K mg R F H σ δ (w :: vs) (x :: ds) from I).asListO hl
          rw [intsD_own hi ol] at sq
          refine ⟨a, _, rfl, sq, by simp, fun m h1 h2 => ?_⟩
          rw [foldl_max is i m h1 h2]
          exact k F H _ (Same.refl _) (Same.refl _) ((show Ok K mg R F H σ δ (_ :: vs) (x :: ds) from I).pop.pushI _)
      · cases e
    · cases e
  · cases e
theorem o_min : OpN K mg (rMin K) dMin := fun R F H σ δ vs ds ws es d Q l I e k => by
  unfold dMin at e
  split at e
  · rename_i x
    split at e
    · rename_i xs hl
      split at e
      · rename_i i is hi
        cases e
        match ws, l with
        | [w], _ =>
          obtain ⟨a, us, f, rfl, sq, ol⟩ := (show Ok K mg R F H σ δ (w :: vs) (x :: ds) from I).asListO hl
          rw [intsD_own hi ol] at sq
          refine ⟨a, _, rfl, sq, by simp, fun m h1 h2 => ?_⟩
          rw [foldl_min is i m h1 h2]
          exact k F H _ (Same.refl _) (Same.refl _) ((show Ok K mg R F H σ δ (_ :: vs) (x :: ds) from I).pop.pushI _)
      · cases e
    · cases e
  · cases e
theorem itOk_rev {hi : Int} {n : Nat} : ItOk K mg (Itc hi (-1) n) (rgR hi n) [] [] where
  len := rfl
  go := fun i R F H σ δ vs ds h I => by simp [rgR] at h; exact h
  stop := fun i R F H σ δ vs ds h I => by simp [rgR] at h; show n ≤ i; omega
  yld := fun i d' x R F H H' σ δ vs ds hx I y => by
    obtain ⟨e1, y⟩ := y
    subst e1 y
    have h : i < n := by
      have := (List.getElem?_eq_some_iff.mp hx).1
      simpa [rgR] using this
    unfold rgR at hx
    rw [List.getElem?_map, List.getElem?_range h] at hx
    cases hx
    refine ⟨F, Same.refl _, ?_⟩
    have e : hi + (i : Nat) * (-1) = hi - (i : Nat) := by omega
    rw [e]
    exact I.pushI _
end
section
variable {X : Cx} {W : WX} {fx : List Bool} {pa pb pc : Bool} {a b c e f tg : Expr} {ta tb tc te : TE} {fa fb fc fe : M D} {pos p apos cpos spos : Pos} {ls : List (Option Nat)} {es : List Expr} {tr : TA} {fr : M (List D)} {K : PySem.W.Frag} {mg : Mg}
theorem snd_join {z : Str} {to : TE} (ho : to = tC (.str z)) (ha : Snd K mg W pa ta fa) :
    Snd K mg W pa (tBM K "str" (fun x xs H Q => ∃ a p, ∃ ys : List Str, x = .str a ∧ xs = [.ref p] ∧ (SqL K H p (ys.map V.str) ∨ SqT K H p (ys.map V.str)) ∧ (ys.map (·.length)).sum + ys.length * a.length ≤ 16777216 ∧ Q (.str (Txt.join a ys)) H) to (tCons ta tNil)) (eUn (dJoin z) fa) := fun R F H σ δ vs ds Q I q => by
  subst ho
  unfold eUn mbind at q
  refine ⟨rfl, ?_⟩
  show ta σ H _
  refine ha.then I (fun c ns es e => by rw [e] at q; exact q) (fun e => by rw [e] at q; exact q) fun d δ1 F1 H1 v e s1 p1 I1 => ?_
  rw [e] at q
  dsimp only at q
  unfold dJoin at q
  cases hl : listOf d with
  | none => rw [hl] at q; exact q.elim
  | some xs =>
    rw [hl] at q
    dsimp only at q
    cases hs : strsD xs with
    | none => rw [hs] at q; exact q.elim
    | some ys =>
      rw [hs] at q
      dsimp only at q
      by_cases hz : (ys.map (·.length)).sum + ys.length * z.length ≤ 16777216
      · rw [if_pos hz] at q
        obtain ⟨a, us, f, rfl, sq, ol⟩ := I1.asListO hl
        rw [strsD_own hs ol] at sq
        exact ⟨z, a, ys, rfl, rfl, .inl sq, hz, q F1 H1 _ s1 p1 (I1.pop.pushS _)⟩
      · rw [if_neg hz] at q; exact q.elim
theorem se_join {z : Str} {j} {zp : Pos} (ha : SE X W pa e te fe)
    (hbase : attributeBase (.Constant (.str z) j zp) "join" X.env (eval (.Constant (.str z) j zp) X.env) = eval (.Constant (.str z) j zp) X.env := by rfl)
    (hfew : ((backTo cpos (starEach [e] X.env)).all (fun x => !x.1) && (backToKw cpos (keywordEach [] X.env)).all (fun x => x.1.isSome)
      && decide ([e].length + ([] : List Keyword).length + (if ([] : List Keyword).isEmpty then 0 else 1) < 30)) = true := by rfl)
    (hline : (apos.endLine == cpos.line) = true := by rfl) (hs : starEach [e] X.env = (false, eval e X.env) :: starEach [] X.env := by rfl) (hplain : (backTo cpos (starEach [] X.env)).any (·.1) = false := by rfl) :
    SE X W pa (.Call (.Attribute (.Constant (.str z) j zp) "join" apos) [e] [] cpos) (tBM X.K "str" (fun x xs H Q => ∃ a p, ∃ ys : List Str, x = .str a ∧ xs = [.ref p] ∧ (SqL X.K H p (ys.map V.str) ∨ SqT X.K H p (ys.map V.str)) ∧ (ys.map (·.length)).sum + ys.length * a.length ≤ 16777216 ∧ Q (.str (Txt.join a ys)) H) (tC (.str z)) (tCons te tNil)) (eUn (dJoin z) fe) :=
  ⟨pe_bm F.plainAttrs_str F.slot_str_join F.type_str_join mt_join pe_str (pa_cons ha.pe pa_nil hs) hbase hfew hline hs hplain, snd_join rfl ha.snd⟩
theorem si_revr {p2 pos2 : Pos} (hg : Gl X "reversed") (hm : X.mg "reversed" = none) (hg2 : Gl X "range") (hm2 : X.mg "range" = none) (ha : SE X W pa a ta fa) (hb : SE X W pb b tb fb)
    (na : starEach [a, b] X.env = (false, eval a X.env) :: starEach [b] X.env := by rfl) (nb : starEach [b] X.env = (false, eval b X.env) :: starEach [] X.env := by rfl) (hp : (backTo pos2 (starEach [b] X.env)).any (·.1) = false := by rfl)
    (hs : starEach [.Call (.Name "range" p2) [a, b] [] pos2] X.env = (false, eval (.Call (.Name "range" p2) [a, b] [] pos2) X.env) :: starEach [] X.env := by rfl) :
    SI X W tg (.Call (.Name "reversed" p) [.Call (.Name "range" p2) [a, b] [] pos2] [] pos) (iRevR (tRg2 ta tb)) (iRR fa fb) := ⟨pi_revR hg hm (prg_2 hg2 hm2 ha.pe hb.pe na nb hp) hs, fun R F H σ δ vs ds Q I q => by
  unfold iRR mbind at q
  refine ha.snd.then I (fun c ns es e => by rw [e] at q; exact q) (fun e => by rw [e] at q; exact q) fun d δ1 F1 H1 v e s1 p1 I1 => ?_
  rw [e] at q
  dsimp only at q
  refine hb.snd.then I1 (fun c ns es e => by rw [e] at q; exact q.shift s1) (fun e => by rw [e] at q; exact q) fun d2 δ2 F2 H2 v2 e2 s2 p2 I2 => ?_
  rw [e2] at q
  dsimp only at q
  split at q
  · rename_i i j
    have ej := own_int I2
    have ei := own_int I2.pop
    subst ej ei
    split at q
    · rename_i hb
      refine ⟨i, j, rfl, rfl, hb.1, hb.2.1, hb.2.2.1, hb.2.2.2, ?_⟩
      by_cases hij : i ≤ j
      · have e1 : i + (((j - i).toNat : Nat) : Int) - 1 = j - 1 := by omega
        rw [e1]
        exact q F2 H2 _ [] [] (s1.trans s2) itOk_rev I2.pop.pop
      · have e0 : (j - i).toNat = 0 := by omega
        rw [e0] at q ⊢
        exact q F2 H2 _ [] [] (s1.trans s2) (show ItOk X.K X.mg (Itc (i + ((0 : Nat) : Int) - 1) (-1) 0) (rgR (j - 1) 0) [] [] from itOk_rev (hi := i + ((0 : Nat) : Int) - 1) (n := 0)) I2.pop.pop
    · exact q.elim
  · exact q.elim⟩
end
/-! ### sorted(pairs) -/
section
variable {X : Cx} {K : PySem.W.Frag} {mg : Mg} {R F F' H H' : Hp} {σ : L2.St} {δ : List D} {vs : List V} {ds : List D}
def encP (z : V × (Int × Int)) : PyData := .tuple [.int z.2.1, .int z.2.2]
def rSortP (K : PySem.W.Frag) : List V → Hp → VK → Prop := fun ws H Q => ∃ (a : Addr) (zs : List (V × (Int × Int))), ws = [V.ref a] ∧ SqL K H a (zs.map (·.1)) ∧ (∀ z ∈ zs, Dp K H z.1 (encP z)) ∧ zs.length ≤ 100000 ∧
  ∀ p, H p = none → Q (.ref p) (upd H p (.lst ((zs.mergeSort fun u v => leP u.2 v.2).map (·.1))))
theorem dpAll_each {pins : List (Addr × Obj)} {s : Shared} (I : Inv X pins σ H s) : ∀ {zs : List (V × (Int × Int))} {us : List Value}, Vals (zs.map (·.1)) us → (∀ z ∈ zs, Dp X.K H z.1 (encP z)) → PySem.W.EachIs (fun v z => ∃ as, PySem.Reads s.heap v (encP z) as) us zs
  | [], _, .nil, _ => .nil
  | z :: zs, _, .cons r t, h => .cons (Dp.reads I (encP z) z.1 _ (h z (by simp)) r) (dpAll_each I t fun y hy => h y (by simp [hy]))
theorem vals_each : ∀ {zs : List (V × (Int × Int))} {us : List Value}, Vals (zs.map (·.1)) us → PySem.W.EachIs (fun v z => RelV z.1 v) us zs
  | [], _, .nil => .nil
  | z :: zs, _, .cons r t => .cons r (vals_each t)
theorem each_vals : ∀ {zs : List (V × (Int × Int))} {us : List Value}, PySem.W.EachIs (fun v z => RelV z.1 v) us zs → Vals (zs.map (·.1)) us
  | _, _, .nil => .nil
  | _, _, .cons r t => .cons r (each_vals t)
theorem encP_le : PySem.W.dataLe false encP = fun u v => leP u.2 v.2 := by
  unfold leP
  exact PySem.W.dataLe_ii (fun z : V × (Int × Int) => z.2.1) (fun z => z.2.2)
theorem cr_sortP (hu : X.A.units + 64 < cLine) : CallR X (.builtin "sorted") (rSortP X.K) := by
  intro pins s σ H vs us Q I r h
  obtain ⟨a, zs, rfl, hs, hd, hz, q⟩ := h
  obtain ⟨its, rv, hl, hzl⟩ := I.list hs
  rw [Vals.ref1 r]
  have hdep : ∀ z : V × (Int × Int), (encP z).depth ≤ 1 := fun z => by simp [encP, PyData.depth, PyData.depthAll]
  refine PySem.W.sorted_data (R := fun v (z : V × (Int × Int)) => RelV z.1 v) (enc := encP) hl.isList (vals_each rv) (dpAll_each I rv hd) (PySem.W.AllAlike.of fun b b' => by simp [encP, PySem.W.alike, PySem.W.alikeAll]) (PySem.W.Sortable.tuples fun b => ⟨_, _, rfl⟩) (by rw [sizeLine_eq]; omega) (fun b _ => by have := hdep b; omega) fun out hlen he => ?_
  rw [encP_le] at he
  obtain ⟨ep, he'⟩ := PyProof.Rows.sortedAll_at s.heap its (List.toArray out)
  have hv := each_vals he
  refine ⟨.ref (s.heap.objs.size + 1), upd H (s.heap.objs.size + 1) (.lst ((zs.mergeSort fun u v => leP u.2 v.2).map (·.1))), I.laid (t' := s.toks) (fun _ _ => PyProof.Rows.sortedAll_old) (Nat.le_succ _) ⟨by rw [List.length_map, List.length_mergeSort, sizeLine_eq]; omega, out, ep, hv, he'⟩, rfl, q _ (I.hok.fresh (Nat.le_succ _))⟩
theorem pairD_own {d : D} {p : Int × Int} {f : List Addr} {v : V} (e : pairD d = some p) (o : Own K mg F H d f v) : d = tp p ∧ Own K mg F H (tp p) [] v := by
  unfold pairD at e
  split at e
  · cases e
    refine ⟨rfl, ?_⟩
    have := o.pure (by simp [Dn.pure, pureL])
    subst this
    exact o
  · cases e
theorem pairs_own : ∀ {xs : List D} {ps : List (Int × Int)} {f : List Addr} {ws : List V}, pairsD xs = some ps → OwnL K mg F H xs f ws → ∃ zs : List (V × (Int × Int)), zs.map (·.1) = ws ∧ zs.map (·.2) = ps ∧ ∀ z ∈ zs, Own K mg F H (tp z.2) [] z.1
  | [], ps, f, ws, e, o => by simp only [pairsD] at e; cases e; simp only [OwnL] at o; exact ⟨[], o.2.symm, rfl, fun z h => nomatch h⟩
  | d :: xs, ps, f, ws, e, o => by
    simp only [OwnL] at o
    obtain ⟨v, vr, f1, f2, rfl, q, a, b⟩ := o
    simp only [pairsD] at e
    split at e
    · rename_i p ps' e1 e2
      cases e
      obtain ⟨zs, h1, h2, h3⟩ := pairs_own e2 b
      refine ⟨(v, p) :: zs, by simp [h1], by simp [h2], fun z hz => ?_⟩
      rcases List.mem_cons.mp hz with rfl | hz
      · exact (pairD_own e1 a).2
      · exact h3 z hz
    · cases e
theorem own_pairs : ∀ {zs : List (V × (Int × Int))}, (∀ z ∈ zs, Own K mg F H (tp z.2) [] z.1) → OwnL K mg F H (zs.map fun z => tp z.2) [] (zs.map (·.1))
  | [], _ => OwnL.nil
  | z :: zs, h => OwnL.cons (f1 := []) (h z (by simp)) (own_pairs fun y hy => h y (by simp [hy]))
theorem tp_dp (s : Same F H) {p : Int × Int} {v : V} (o : Own K mg F H (tp p) [] v) : Dp K H v (encP (v, p)) := Own.dp s o (by simp [tp, toPy, toPyL, encP])
theorem pure_tp (ps : List (Int × Int)) : pureL (ps.map tp) = true := by
  induction ps with
  | nil => rfl
  | cons p ps ih => simp [pureL, tp, Dn.pure] at ih ⊢; exact ih
theorem o_sortP : OpN K mg (rSortP K) dSorted := fun R F H σ δ vs ds ws es d Q l I e k => by
  unfold dSorted at e
  split at e
  · rename_i x
    split at e
    · rename_i xs hl
      split at e
      · rename_i ps hp
        split at e
        · rename_i hz
          cases e
          match ws, l with
          | [w], _ =>
            have I' : Ok K mg R F H σ δ (w :: vs) (x :: ds) := I
            obtain ⟨a, us, f, rfl, sq, ol⟩ := I'.asListO hl
            obtain ⟨zs, h1, h2, h3⟩ := pairs_own hp ol
            have hm : (zs.mergeSort fun u v => leP u.2 v.2).map (·.2) = ps.mergeSort leP := by
              rw [← h2]
              exact PySem.W.sort_maps _ fun _ _ _ _ => rfl
            refine ⟨a, zs, rfl, by rw [h1]; exact sq, fun z hz => tp_dp I.fh (h3 z hz), by rw [← h2, List.length_map] at hz; exact hz, fun p hpn => ?_⟩
            have o := own_pairs (zs := zs.mergeSort fun u v => leP u.2 v.2) fun z hz => h3 z ((List.mergeSort_perm zs _).mem_iff.mp hz)
            have e2 : (zs.mergeSort fun u v => leP u.2 v.2).map (fun z => tp z.2) = (ps.mergeSort leP).map tp := by rw [← hm, List.map_map]; rfl
            rw [e2] at o
            exact k F _ _ (Same.refl _) (sameNew hpn) (I'.pop.newPure o hpn)
        · cases e
      · cases e
    · cases e
  · cases e
end
end Dn

set_option Elab.async false
set_option linter.all false
set_option maxRecDepth 100000
set_option maxHeartbeats 4000000
/-! dict comprehensions with tuple keys; set comprehensions with two fors, of tuples; sorted of such a set. The comprehension loops follow the kit's proofs for its own comprehensions (L2.dc_core, L2.lc2_core), turned to these. -/
namespace L2
open PySem PySem.Spec PyProof.Rows
section
variable {X : Cx} {pins : List (Addr × Obj)} {σ : St} {H : Hp} {s : Shared}
theorem d_dictSetT {D b : Addr} {kvs : List (List Key × V)} {k : List Key} {v : V} {r : Value} {Q : Unit → Shared → Prop} {E : Value → Shared → Prop} (hu : X.A.units + 1 < cLine) (I : Inv X pins σ H s) (eb : H b = some (.tup (k.map kV))) (hD : H D = some (.dT kvs)) (hz : kvs.length < sizeLine)
    (rv : RelV v r) (h : ∀ s', Inv X pins σ (upd H D (.dT (putK kvs k v))) s' → Q () s') : wpAny (model X.prog X.w) X.A (dictSet D (.ref b) r) Q E s := by
  obtain ⟨z, hd, xs, rel, dd⟩ := dt_of I.hok hD
  have hzx : xs.length ≤ sizeLine := by rw [← Paired.length rel]; exact z
  have hl : (putK kvs k v).length ≤ sizeLine := by have := length_putK kvs k v; omega
  refine wpAny_dictSet_heap (hsz := hzx) (show X.A.units < cLine from Nat.lt_of_succ_lt hu) (key_of I.hok eb) dd fun h' dd' hs => h _ ?_
  obtain ⟨q, es, ep, hq, h2, h3, h4, _, h5⟩ := dd'
  refine d_write I (by rw [hD]; exact True.intro) hs ⟨q, hq⟩ ⟨hl, hd, _, (rel.put k eb rv).keeps fun c ys ec => ?_, q, es, ep, hq, h2, h3, h4, h5⟩
  rw [upd_ne (ne_of ec hD (fun z => nomatch z))]
  exact ec
theorem setT_add {P : Program} {w : World} {A : Around} {E : Value → Shared → Prop} {a : Addr} {L : List (Addr × List Int)} {es : Array (Int × Value)} {ep : Nat} {t : SetTable} {x : Addr} {k : List Int} {Q : Value → Shared → Prop} (R : SetTR P w s.heap a L es ep t) (hx : IsT P w s.heap k x) (hu : A.units + 1 < cLine) (hfew : L.length + 1 < 64)
    (hQ : ∀ h' tk L' es' ep' t', Heap.SameBut a s.heap h' → SetTR P w h' a L' es' ep' t' → (k ∈ L.map (·.2) → L' = L) → (k ∉ L.map (·.2) → L'.Perm ((x, k) :: L)) → Q .none { s with heap := h', toks := tk }) :
    wpAny (model P w) A (call (.builtin "set.add") [.ref a, .ref x]) Q E s := by
  obtain ⟨o, ho, hc, hd⟩ := R.ob
  refine wpAny_call_entry F.slot_set_add ⟨o, ho, hc.1⟩ F.entry_set_add ?_ (F.args_set_add_2 _ _)
  unfold Builtin.«set.add» Builtin.Frozenset.oneOther
  simp only [List.isEmpty_nil, bind_assoc]
  unfold Builtin.Frozenset.addrOf setAdd
  refine wpAny_bind (wpAny_pure ?_)
  try dsimp only
  refine wpAny_bind (wpAny_pure ?_)
  try dsimp only
  refine wpAny_bind ?_
  refine wpAny_holding ?_
  refine wpAny_bind (wpAny_pyHash_tuple (by show A.units + 1 < cLine; exact hu) hx ?_)
  refine add_at (s := { s with toks := s.toks + (k.length + 1) }) R hx (by show A.units + 1 < cLine; exact hu) hfew fun b h' L' es' ep' t' sb R' c1 c2 => ?_
  show wpAny _ _ (ret Value.none) _ _ _
  exact wpAny_pure ⟨_, rfl, hQ h' _ L' es' ep' t' sb R' c1 c2⟩
theorem addT_ok {E : Value → Shared → Prop} {D x : Addr} {k : List Int} {L : List (Addr × List Int)} {Q : Value → Shared → Prop} (hu : X.A.units + 1 < cLine) (I : Inv X pins σ H s) (hx : SqT X.K H x (k.map V.int)) (hL : ∀ p ∈ L, SqT X.K H p.1 (p.2.map V.int)) (hD : H D = some (SetTO X.prog X.w D L)) (room : L.length + 1 < 64)
    (h : ∀ s' L', (k ∈ L.map (·.2) → L' = L) → (k ∉ L.map (·.2) → L'.Perm ((x, k) :: L)) → Inv X pins σ (upd H D (SetTO X.prog X.w D L')) s' → Q .none s') : wpAny (model X.prog X.w) X.A (call (.builtin "set.add") [.ref D, .ref x]) Q E s := by
  have R0 : SetT0 X.prog X.w s.heap D L := (I.hok D _ hD).1
  obtain ⟨es, ep, t, R⟩ := R0.full fun p hp => I.isT (hL p hp)
  refine setT_add R (I.isT hx) hu room fun h' tk L' es' ep' t' sb R' c1 c2 => ?_
  have he : ∃ u, h'.get? D = some u := by
    obtain ⟨o, ho, _⟩ := R'.ob
    exact ⟨o, ho⟩
  exact h _ L' c1 c2 (I.write (x := D) (e := D) (t' := tk) (by rw [hD]; trivial) (.inl rfl) (fun b u hb hu => (sb.2 b hb).trans hu) he (setTO_new R'.t0))
end
section
variable {X : Cx}
/-- {k: v for target in iter if ..}, keys tuples: D the new dict -/
def tDcT (wi : TI) (g : TG) (tt : TT) (tk tv : TE) (vs : List Nat) : TE := fun σ H Q => wi σ H fun J H1 => ∀ D, H1 D = none → ∃ W : Nat → Nat → Hp → Prop, (∃ m, W 0 m (upd H1 D (.dT []))) ∧ ∀ i m H, W i m H →
  (J.stop i H ∧ Q (.ref D) H) ∨ (J.go i H ∧ ∃ Nx : Hp → Prop, (∀ H', Nx H' → ∃ m', m' < m ∧ W (i + 1) m' H') ∧ ∀ x H', J.yld i H x H' → g x (wipe σ vs) H' fun σ2 H2 => wipe σ2 vs = wipe σ vs ∧ tt σ2 H2 fun b H3 =>
    if b = true then tk σ2 H3 fun y H4 => tv σ2 H4 fun z H5 => ∃ (kvs : List (List Key × V)) (k : List Key) (b : Addr), y = .ref b ∧ H5 b = some (.tup (k.map kV)) ∧ H5 D = some (.dT kvs) ∧ kvs.length < sizeLine ∧ Nx (upd H5 D (.dT (putK kvs k z))) else Nx H3)
theorem dcT_core {pins : List (Addr × Obj)} {s : Shared} {σ : St} {H : Hp} {Q : VK} {kx vx tg iter : Expr} {ifs : List Expr} {scope : Scope} {own : List (Str × Nat)} {pos pos' : Pos} {wi : TI} {g : TG} {tt : TT} {tk tv : TE} {use : Option (Value → Sem Unit)} {Qf : Value → Shared → Prop}
    (hu : X.A.units + 1 < cLine) (hc : X.calm = true) (hN : X.N.Nodup) (I : Inv X pins σ H s) (hi : PI X tg iter wi) (ok : BlkOk X.N X.env.scope scope own)
    (hg : ∀ (s : Shared) (H : Hp) (C : Addr) (cl : List (Str × Addr)) (fp : List Addr), PG (X.blk s H scope (compEnvC scope cl C X.env) fp) tg g) (ht : ∀ (s : Shared) (H : Hp) (C : Addr) (cl : List (Str × Addr)) (fp : List Addr), PTs (X.blk s H scope (compEnvC scope cl C X.env) fp) ifs tt)
    (hk : ∀ (s : Shared) (H : Hp) (C : Addr) (cl : List (Str × Addr)) (fp : List Addr), PE (X.blk s H scope (compEnvC scope cl C X.env) fp) kx tk)
    (he : ∀ (s : Shared) (H : Hp) (C : Addr) (cl : List (Str × Addr)) (fp : List Addr), PE (X.blk s H scope (compEnvC scope cl C X.env) fp) vx tv) (hs : ∀ x, foldedSetIterable iter X.env x = pure x)
    (h : tDcT wi g tt tk tv (own.map (·.2)) σ H Q)
    (hRR : ∀ D C s' m H', Inv X pins σ H' s' → Q (.ref D) H' → s'.heap.Ns C m → FpOk X pins H' C → compPost (model X.prog X.w) X.A X.xe use Qf (.ref D) C (.ok .next) s') :
    wpAny (model X.prog X.w) X.A (comprehension (.DictComp kx vx [⟨tg, iter, ifs, 0⟩] scope pos) scope X.env pos' newDict false (eval iter X.env) use) Qf X.xe s := by
  have hfree : ∀ y ∈ scope.names, y.2 = .free → ∃ c, X.env.cells.lookup y.1 = some c := fun y hy e => by
    rcases ok.free y hy e with k | k
    · exact I.ok.has _ (.inl k)
    · exact I.ok.has _ (.inr k)
  refine wpAny_comprehension_free (use := use) rfl hs (closure_ok hfree) ok.kind (fun y hy e => by rw [ok.uniq y hy, e])
    (thn (hi.run pins s σ H _ I h) fun xv s1 hx => thn hx fun itv s2 h2 => ?_)
  obtain ⟨it, fp, tn, J, H2, e, I2, T, st2, f2, q⟩ := h2
  subst e
  refine wpAny_newObj_type (newEnv_comp ?_)
  generalize hD : s2.heap.objs.size = D
  have hDn : H2 D = none := I2.hok.fresh (Nat.le_of_eq hD)
  obtain ⟨W, ⟨m0, w0⟩, turn⟩ := q D hDn
  -- the new list
  generalize hs3 : ({ s2 with heap := s2.heap.push { cls := .type "dict", data := .dict #[] } } : Shared) = s3
  have I3 : Inv X pins σ (upd H2 D (.dT [])) s3 := by
    rw [← hs3]
    refine I2.laid (t' := s2.toks) (fun b o e => Heap.get?_push_of_some _ e) (Nat.le_of_eq hD) ?_
    rw [← hD]
    exact dt_empty s2.heap I2.big
  have h3 : s3.heap = s2.heap.push { cls := .type "dict", data := .dict #[] } := by rw [← hs3]
  have sz : ∀ b ∈ fp, b < s2.heap.objs.size := fun b hb => by
    obtain ⟨o, e, _⟩ := T.obj _ _ st2 b hb
    exact Heap.lt_size e
  have f3 : ∀ b ∈ fp, FpOk X pins (upd H2 D (.dT [])) b ∧ b < s3.heap.objs.size := fun b hb => by
    have hlt := sz b hb
    refine ⟨⟨?_, (f2 b hb).2⟩, by rw [h3, Heap.size_push]; exact Nat.lt_succ_of_lt hlt⟩
    rw [upd_ne (by rw [← hD]; exact Nat.ne_of_lt hlt)]
    exact (f2 b hb).1
  have st3 : tn 0 s3.heap := T.keep _ _ _ st2 fun b _ o e => by rw [h3]; exact Heap.get?_push_of_some _ e
  have I4 := block_start I3 ok hN f3
  have pg := hg s3 (upd H2 D (.dT [])) s3.heap.objs.size (cellsFrom (s3.heap.objs.size + 1) scope.names (cloFrom X.env.cells scope.names [])) fp
  have pt := ht s3 (upd H2 D (.dT [])) s3.heap.objs.size (cellsFrom (s3.heap.objs.size + 1) scope.names (cloFrom X.env.cells scope.names [])) fp
  have pk := hk s3 (upd H2 D (.dT [])) s3.heap.objs.size (cellsFrom (s3.heap.objs.size + 1) scope.names (cloFrom X.env.cells scope.names [])) fp
  have pe := he s3 (upd H2 D (.dT [])) s3.heap.objs.size (cellsFrom (s3.heap.objs.size + 1) scope.names (cloFrom X.env.cells scope.names [])) fp
  show codeAny _ _ (.compStart (.DictComp kx vx [⟨tg, iter, ifs, 0⟩] scope pos) 0 (.ref it) (.ref D) (compEnvC scope (cellsFrom (s3.heap.objs.size + 1) scope.names (cloFrom X.env.cells scope.names [])) s3.heap.objs.size X.env)) (compPost (model X.prog X.w) X.A X.xe use Qf (.ref D) s3.heap.objs.size) { s3 with heap := pushCells (s3.heap.push { cls := .type "dict", data := .dict #[] }) scope.names }
  have nfp : ∀ b ∈ fp, (upd H2 D (.dT [])) b = none := fun b hb => (f3 b hb).1.1
  generalize hce : compEnvC scope (cellsFrom (s3.heap.objs.size + 1) scope.names (cloFrom X.env.cells scope.names [])) s3.heap.objs.size X.env = ce at I4 pg pt pk pe ⊢
  have cL : ce.locals = s3.heap.objs.size := by subst hce; rfl
  generalize hH3 : upd H2 D (.dT []) = H3 at I3 I4 pg pt pk pe w0 nfp f3
  generalize hs4 : ({ s3 with heap := pushCells (s3.heap.push { cls := .type "dict", data := .dict #[] }) scope.names } : Shared) = s4 at I4 ⊢
  have st4 : tn 0 s4.heap := T.keep _ _ _ st3 fun b _ o e => by rw [← hs4]; exact pushCells_keeps _ _ _ _ (Heap.get?_push_of_some _ e)
  have stat : ∀ {σ' : St} {H' : Hp} {s' : Shared}, Inv (X.blk s3 H3 scope ce fp) [] σ' H' s' → (∀ b ∈ fp, H' b = none) → ∀ b ∈ fp, FpOk (X.blk s3 H3 scope ce fp) [] H' b := fun {σ' H' s'} I' hn b hb =>
    ⟨hn b hb, (I'.ok.exf b hb).1, I'.ok.exfs b hb, .inl hb, fun x c e => (I'.ok.exf b hb).2 x c e, fun p hp => absurd (show p ∈ ([] : List (Addr × Obj)) ++ [] from hp) (by simp)⟩
  have loop : codeAny (model X.prog X.w) X.A (.compLoop (.DictComp kx vx [⟨tg, iter, ifs, 0⟩] scope pos) 0 (.ref it) (.ref D) ce) (compPost (model X.prog X.w) X.A X.xe use Qf (.ref D) s3.heap.objs.size) s4 := by
    refine compLoop_anyD (fun n s' => ∃ i H', Inv (X.blk s3 H3 scope ce fp) [] (wipe σ (own.map (·.2))) H' s' ∧ tn i s'.heap ∧ (∀ b ∈ fp, H' b = none) ∧ W i n H') ?_ m0 ⟨0, H3, I4, st4, nfp, w0⟩
    rintro n s5 ⟨i, H5, I5, st5, n5, w5⟩
    rcases turn i n H5 w5 with ⟨stop, qq⟩ | ⟨go, Nx, hNx, step⟩
    · have td := T.done (X.blk s3 H3 scope ce fp) rfl rfl rfl hc i [] s5 _ H5 (fun _ _ => False) I5 (stat I5 n5) st5 stop
      refine thnF td fun r s6 ⟨hr, I6⟩ => ?_
      subst hr
      -- back in the def's context
      have I7 : Inv X pins σ H5 s6 := I3.call' (ch := fp) I6.os I6.base I6.hok I6.bare fun b hb => ⟨(f3 b hb).1.2.2.2.1, (f3 b hb).1.2.1, (f3 b hb).1.2.2.2.2.1, (f3 b hb).1.2.2.2.2.2⟩
      have nC : H5 s3.heap.objs.size = none := by
        have z : H5 ce.locals = none := I6.free
        rw [cL] at z
        exact z
      obtain ⟨m, hn, _⟩ := I6.loc
      have hn : s6.heap.Ns ce.locals m := hn
      rw [cL] at hn
      exact hRR D s3.heap.objs.size s6 m H5 I7 qq hn (I3.fpOk (Nat.le_refl _) nC)
    · have ti := T.item (X.blk s3 H3 scope ce fp) rfl rfl rfl hc i [] s5 _ H5 (fun _ _ => False) I5 (stat I5 n5) st5 go
      refine thnF ti fun r s6 ⟨u, hr, h6⟩ => ?_
      subst hr
      refine thnF h6 fun _ s7 ⟨x, H7, I7, r7, y7, st7, n7⟩ => ?_
      have I7' := I7.pinned (stat I7 n7) (T.obj _ _ st7)
      refine thnF (pg.run _ s7 _ H7 x u _ I7' r7 (step x H7 y7)) fun _ s8 ⟨σ8, H8, I8, hw8, q8⟩ => ?_
      refine thnF (pt.run _ s8 σ8 H8 _ I8 q8) fun b s9 ⟨H9, I9, q9⟩ => ?_
      -- the turn's end
      have fin : ∀ {s' : Shared} {H' : Hp}, Inv (X.blk s3 H3 scope ce fp) ([] ++ pinsAt fp s7.heap) σ8 H' s' → Nx H' → ∃ m, m < n ∧ ∃ i H', Inv (X.blk s3 H3 scope ce fp) [] (wipe σ (own.map (·.2))) H' s' ∧ tn i s'.heap ∧ (∀ b ∈ fp, H' b = none) ∧ W i m H' := fun {s' H'} I' nx => by
        obtain ⟨m', hm, w'⟩ := hNx H' nx
        have pin' : ∀ b ∈ fp, ∀ o, s7.heap.get? b = some o → s'.heap.get? b = some o ∧ H' b = none := fun b hb o e =>
          let z := I'.pin (b, o) (List.mem_append_right _ (List.mem_append_right _ (mem_pinsAt hb e)))
          ⟨z.1, z.2.1⟩
        have hl : (wipe σ (own.map (·.2))).length = σ8.length := by rw [← hw8, wipe_length]
        refine ⟨m', hm, i + 1, H', (I'.unpinned (pins := [])).weak hl (fun j v e => ?_), T.keep _ _ _ st7 fun b hb o e => (pin' b hb o e).1, fun b hb => ?_, w'⟩
        · rw [← hw8] at e
          exact (wipe_some e).1
        · obtain ⟨o, e, _⟩ := T.obj _ _ st7 b hb
          exact (pin' b hb o e).2
      cases b with
      | false =>
        simp only [Bool.false_eq_true, if_false] at q9 ⊢
        exact fin I9 q9
      | true =>
        simp only [if_true] at q9 ⊢
        refine thnF (pk.run _ s9 σ8 H9 _ I9 q9) fun z s10 ⟨yk, H10, I10, r10, q10⟩ => ?_
        refine thnF (pe.run _ s10 σ8 H10 _ I10 q10) fun z2 s11 ⟨yv, H11, I11, r11, kvs, k, b, ek, hb11, hD11, hz11, nx⟩ => ?_
        subst ek
        cases (show z = Value.ref b from r10)
        exact d_dictSetT (X := X.blk s3 H3 scope ce fp) hu I11 hb11 hD11 hz11 r11 fun s12 I12 => fin I12 nx
  exact codeAny_compStart_dict loop (T.self X.A 0 _ _ _ st4 loop)
/-- as a value -/
theorem pe_dcT {kx vx tg iter : Expr} {ifs : List Expr} {scope : Scope} {own : List (Str × Nat)} {pos : Pos} {wi : TI} {g : TG} {tt : TT} {tk tv : TE} (hu : X.A.units + 1 < cLine) (hc : X.calm = true) (hN : X.N.Nodup) (hi : PI X tg iter wi) (ok : BlkOk X.N X.env.scope scope own)
    (hg : ∀ (s : Shared) (H : Hp) (C : Addr) (cl : List (Str × Addr)) (fp : List Addr), PG (X.blk s H scope (compEnvC scope cl C X.env) fp) tg g) (ht : ∀ (s : Shared) (H : Hp) (C : Addr) (cl : List (Str × Addr)) (fp : List Addr), PTs (X.blk s H scope (compEnvC scope cl C X.env) fp) ifs tt)
    (hk : ∀ (s : Shared) (H : Hp) (C : Addr) (cl : List (Str × Addr)) (fp : List Addr), PE (X.blk s H scope (compEnvC scope cl C X.env) fp) kx tk)
    (he : ∀ (s : Shared) (H : Hp) (C : Addr) (cl : List (Str × Addr)) (fp : List Addr), PE (X.blk s H scope (compEnvC scope cl C X.env) fp) vx tv) (hs : ∀ x, foldedSetIterable iter X.env x = pure x := by intro _; rfl) :
    PE X (.DictComp kx vx [⟨tg, iter, ifs, 0⟩] scope pos) (tDcT wi g tt tk tv (own.map (·.2))) := by
  refine ⟨fun pins s σ H Q I h => ?_⟩
  rw [arm_eval_DictComp]
  refine dcT_core hu hc hN I hi ok hg ht hk he hs h fun D C s' m H' I' q hn f => ⟨m, hn, fun h'' sb => ?_⟩
  obtain ⟨f0, f1, f2, f3, f4, f5⟩ := f
  exact ⟨.ref D, H', I'.turned (t' := s'.toks) (fun b o hb e => (sb.2 b hb).trans e) f0 f1 f3 f4 f5, rfl, q⟩
end
theorem compTurn2S_out (elt t0 i0 t1 i1 : Expr) (ifs0 ifs1 : List Expr) (scope : Scope) (pos : Pos) (it acc : Value) (env : Env) :
    compTurn (.SetComp elt [⟨t0, i0, ifs0, 0⟩, ⟨t1, i1, ifs1, 0⟩] scope pos) 0 it acc env = (do
      standAt i0.pos
      match ← pyNext it with
      | none => pure (.done .next)
      | some v =>
        letOwnedTupleGo t0 it v
        assign t0 env v
        let mut ok := true
        for c in ifs0 do
          if ok then ok ← isTrue c env (eval c env)
        if ok then
          let x ← eval i1 env
          standAt i1.pos
          let x ← foldedSetIterable i1 env x
          let _ ← runOwn (.compStart (.SetComp elt [⟨t0, i0, ifs0, 0⟩, ⟨t1, i1, ifs1, 0⟩] scope pos) 1 (← holding [x] (pyIter x)) acc env) env
        again (.compLoop (.SetComp elt [⟨t0, i0, ifs0, 0⟩, ⟨t1, i1, ifs1, 0⟩] scope pos) 0 it acc env)) := by rfl
theorem compTurn2S_in (elt t0 i0 t1 i1 : Expr) (ifs0 ifs1 : List Expr) (scope : Scope) (pos : Pos) (it acc : Value) (env : Env) :
    compTurn (.SetComp elt [⟨t0, i0, ifs0, 0⟩, ⟨t1, i1, ifs1, 0⟩] scope pos) 1 it acc env = (do
      standAt i1.pos
      match ← pyNext it with
      | none => pure (.done .next)
      | some v =>
        letOwnedTupleGo t1 it v
        assign t1 env v
        let mut ok := true
        for c in ifs1 do
          if ok then ok ← isTrue c env (eval c env)
        if ok then
          (do let v ← eval elt env; standAt elt.pos; let _ ← call (.builtin "set.add") [acc, v])
        again (.compLoop (.SetComp elt [⟨t0, i0, ifs0, 0⟩, ⟨t1, i1, ifs1, 0⟩] scope pos) 1 it acc env)) := by rfl

section
variable {prog : Program} {w : World} {A : Around} {R : Result → Shared → Prop} {s : Shared} {elt t0 i0 t1 i1 : Expr} {ifs0 ifs1 : List Expr} {scope : Scope} {pos : Pos} {it acc : Value} {env : Env}
/-- the loop of the first clause -/
theorem compLoop2S_out (hs : ∀ x, foldedSetIterable i1 env x = pure x) (I : Nat → Shared → Prop)
    (turn : ∀ n s, I n s → wpAny (model prog w) A (pyNext it) (fun r s₁ => match r with
      | none => R (.ok .next) s₁
      | some v => wpAny (model prog w) A (letOwnedTupleGo t0 it v) (fun _ s₁' => wpAny (model prog w) A (assign t0 env v) (fun _ s₂ =>
          wpAny (model prog w) A (forIn ifs0 true fun c r => if r = true then do let ok ← isTrue c env (eval c env); pure (ForInStep.yield ok) else pure (ForInStep.yield r)) (fun ok s₃ =>
            if ok = true then wpAny (model prog w) A (eval i1 env) (fun x s₄ => wpAny (model prog w) A (pyIter x) (fun it1 s₅ =>
              codeAny (model prog w) A (.compStart (.SetComp elt [⟨t0, i0, ifs0, 0⟩, ⟨t1, i1, ifs1, 0⟩] scope pos) 1 it1 acc env) (fun r s' => match r with
                | .ok _ => ∃ m, m < n ∧ I m s'
                | .error _ => False) s₅) (notedBy (model prog w) A env fun e s' => R (.error e) s') s₄) (notedBy (model prog w) A env fun e s' => R (.error e) s') s₃
            else ∃ m, m < n ∧ I m s₃) (notedBy (model prog w) A env fun e s' => R (.error e) s') s₂) (notedBy (model prog w) A env fun e s' => R (.error e) s') s₁') (notedBy (model prog w) A env fun e s' => R (.error e) s') s₁) (notedBy (model prog w) A env fun e s' => R (.error e) s') s)
    (n : Nat) (h : I n s) :
    codeAny (model prog w) A (.compLoop (.SetComp elt [⟨t0, i0, ifs0, 0⟩, ⟨t1, i1, ifs1, 0⟩] scope pos) 0 it acc env) R s := by
  refine codeAny_loop rfl I (fun n s hI => ?_) n h
  show wpAny _ A ((compTurn (.SetComp elt [⟨t0, i0, ifs0, 0⟩, ⟨t1, i1, ifs1, 0⟩] scope pos) 0 it acc env).onRaise (fun x => do noteFrame x env; theTreesLotGoes x)) _ _ s
  refine wpAny_noted ?_
  rw [compTurn2S_out]
  refine wpAny_bind (wpAny_standAt (wpAny_bind (wpAny_mono (turn n s hI) (fun r s₁ h₁ => ?_) fun _ _ h' => h')))
  cases r with
  | none => exact wpAny_pure h₁
  | some v =>
    refine wpAny_bind (wpAny_mono h₁ (fun _ s₁' h₁' => ?_) fun _ _ h' => h')
    refine wpAny_bind (wpAny_mono h₁' (fun _ s₂ h₂ => wpAny_bind (wpAny_mono h₂ (fun ok s₃ h₃ => ?_) fun _ _ h' => h')) fun _ _ h' => h')
    cases ok with
    | false => exact wpAny_pure ⟨rfl, h₃⟩
    | true =>
      refine wpAny_bind (wpAny_mono h₃ (fun x s₄ h₄ => ?_) fun _ _ h' => h')
      refine wpAny_bind (wpAny_standAt (wpAny_bind (wpAny_of_eq (hs x) (wpAny_bind (wpAny_holding (wpAny_mono h₄ (fun it1 s₅ h₅ => ?_) fun _ _ h' => h'))))))
      refine wpAny_bind (wpAny_runOwn ?_)
      rw [Around.mark_none]
      refine codeAny_mono h₅ fun r s' hr => ?_
      cases r with
      | ok f =>
        first
          | exact wpAny_pure ⟨rfl, hr⟩
          | exact wpAny_bind (wpAny_pure (wpAny_pure ⟨rfl, hr⟩))
      | error e => exact hr.elim
/-- the loop of the second -/
theorem compLoop2S_in (I : Nat → Shared → Prop)
    (turn : ∀ n s, I n s → wpAny (model prog w) A (pyNext it) (fun r s₁ => match r with
      | none => R (.ok .next) s₁
      | some v => wpAny (model prog w) A (letOwnedTupleGo t1 it v) (fun _ s₁' => wpAny (model prog w) A (assign t1 env v) (fun _ s₂ =>
          wpAny (model prog w) A (forIn ifs1 true fun c r => if r = true then do let ok ← isTrue c env (eval c env); pure (ForInStep.yield ok) else pure (ForInStep.yield r)) (fun ok s₃ =>
            if ok = true then wpAny (model prog w) A (eval elt env) (fun x s₄ =>
              wpAny (model prog w) A (call (.builtin "set.add") [acc, x]) (fun _ s₅ => ∃ m, m < n ∧ I m s₅) (notedBy (model prog w) A env fun e s' => R (.error e) s') s₄) (notedBy (model prog w) A env fun e s' => R (.error e) s') s₃
            else ∃ m, m < n ∧ I m s₃) (notedBy (model prog w) A env fun e s' => R (.error e) s') s₂) (notedBy (model prog w) A env fun e s' => R (.error e) s') s₁') (notedBy (model prog w) A env fun e s' => R (.error e) s') s₁) (notedBy (model prog w) A env fun e s' => R (.error e) s') s)
    (n : Nat) (h : I n s) :
    codeAny (model prog w) A (.compLoop (.SetComp elt [⟨t0, i0, ifs0, 0⟩, ⟨t1, i1, ifs1, 0⟩] scope pos) 1 it acc env) R s := by
  refine codeAny_loop rfl I (fun n s hI => ?_) n h
  show wpAny _ A ((compTurn (.SetComp elt [⟨t0, i0, ifs0, 0⟩, ⟨t1, i1, ifs1, 0⟩] scope pos) 1 it acc env).onRaise (fun x => do noteFrame x env; theTreesLotGoes x)) _ _ s
  refine wpAny_noted ?_
  rw [compTurn2S_in]
  refine wpAny_bind (wpAny_standAt (wpAny_bind (wpAny_mono (turn n s hI) (fun r s₁ h₁ => ?_) fun _ _ h' => h')))
  cases r with
  | none => exact wpAny_pure h₁
  | some v =>
    refine wpAny_bind (wpAny_mono h₁ (fun _ s₁' h₁' => ?_) fun _ _ h' => h')
    refine wpAny_bind (wpAny_mono h₁' (fun _ s₂ h₂ => wpAny_bind (wpAny_mono h₂ (fun ok s₃ h₃ => ?_) fun _ _ h' => h')) fun _ _ h' => h')
    cases ok with
    | false => exact wpAny_pure ⟨rfl, h₃⟩
    | true =>
      exact wpAny_bind (wpAny_bind (wpAny_mono h₃ (fun x s₄ h₄ => wpAny_bind (wpAny_standAt (wpAny_bind (wpAny_mono h₄ (fun _ s₅ h₅ => wpAny_pure (wpAny_pure ⟨rfl, h₅⟩)) fun _ _ h' => h')))) fun _ _ h' => h'))
/-- the second clause's start -/
theorem compStart1S_ok (h0 : codeAny (model prog w) A (.compLoop (.SetComp elt [⟨t0, i0, ifs0, 0⟩, ⟨t1, i1, ifs1, 0⟩] scope pos) 1 it acc env) R s)
    (h : wpAny (model prog w) A (pyIter it) (fun it' s' => codeAny (model prog w) A (.compLoop (.SetComp elt [⟨t0, i0, ifs0, 0⟩, ⟨t1, i1, ifs1, 0⟩] scope pos) 1 it' acc env) R s')
      (notedBy (model prog w) A env fun x s' => R (.error x) s') s) :
    codeAny (model prog w) A (.compStart (.SetComp elt [⟨t0, i0, ifs0, 0⟩, ⟨t1, i1, ifs1, 0⟩] scope pos) 1 it acc env) R s := by
  refine codeAny_of_tree ?_
  show wpAny _ _ ((compStart (.SetComp elt [⟨t0, i0, ifs0, 0⟩, ⟨t1, i1, ifs1, 0⟩] scope pos) 1 it acc env).onRaise (fun x => do noteFrame x env; standAt theWindowsPlace)) _ _ s
  refine wpAny_notedAt ?_
  unfold compStart
  show wpAny _ _ (ask >>= _) _ _ s
  refine wpAny_bind (wpAny_askSetting (wpAny_ite ?_))
  split
  · first
      | exact wpAny_bind (wpAny_pure (wpAny_pure (And.intro rfl h0)))
      | exact wpAny_pure (And.intro rfl h0)
  · first
      | exact wpAny_bind (wpAny_rule (wpAny_bind (wpAny_standAt (wpAny_bind (wpAny_mono h (fun it' s' h' => wpAny_pure (And.intro rfl h')) fun _ _ x => x)))))
      | (refine wpAny_bind (wpAny_rule ?_); show wpAny _ _ (standAt i1.pos >>= _) _ _ s; exact wpAny_bind (wpAny_standAt (wpAny_bind (wpAny_mono h (fun it' s' h' => wpAny_pure (And.intro rfl h')) fun _ _ x => x))))
end

section
variable {X : Cx}
/-- [elt for tg in iter if .. for tg1 in iter1 if ..]: behind the first clause's store and tests the second source's own loop, from which Nx is reached. vs: the block's names; vs1: those of the second target -/
def tSc2 (X : Cx) (wi : TI) (g : TG) (tt : TT) (wi1 : TI) (g1 : TG) (tt1 : TT) (te : TE) (vs vs1 : List Nat) : TE := fun σ H Q => wi σ H fun J H1 => ∀ D, H1 D = none → ∃ W : Nat → Nat → Hp → Prop, (∃ m, W 0 m (upd H1 D (SetTO X.prog X.w D []))) ∧ ∀ i m H, W i m H →
  (J.stop i H ∧ Q (.ref D) H) ∨ (J.go i H ∧ ∃ Nx : Hp → Prop, (∀ H', Nx H' → ∃ m', m' < m ∧ W (i + 1) m' H') ∧ ∀ x H', J.yld i H x H' → g x (wipe σ vs) H' fun σ2 H2 => wipe σ2 vs = wipe σ vs ∧ tt σ2 H2 fun b H3 =>
    if b = true then wi1 σ2 H3 fun J1 H4 => ∃ W1 : Nat → Nat → Hp → Prop, (∃ m, W1 0 m H4) ∧ ∀ j k H, W1 j k H →
      (J1.stop j H ∧ Nx H) ∨ (J1.go j H ∧ ∃ Nx1 : Hp → Prop, (∀ H', Nx1 H' → ∃ k', k' < k ∧ W1 (j + 1) k' H') ∧ ∀ x H', J1.yld j H x H' → g1 x (wipe σ2 vs1) H' fun σ3 H5 => wipe σ3 vs1 = wipe σ2 vs1 ∧ tt1 σ3 H5 fun b H6 =>
        if b = true then te σ3 H6 fun y H7 => ∃ (L : List (Addr × List Int)) (x : Addr) (k : List Int), y = .ref x ∧ SqT X.K H7 x (k.map V.int) ∧ (∀ p ∈ L, SqT X.K H7 p.1 (p.2.map V.int)) ∧ H7 D = some (SetTO X.prog X.w D L) ∧ L.length + 1 < 64 ∧ ∀ L', (k ∈ L.map (·.2) → L' = L) → (k ∉ L.map (·.2) → L'.Perm ((x, k) :: L)) → Nx1 (upd H7 D (SetTO X.prog X.w D L')) else Nx1 H6)
    else Nx H3)
theorem sc2_core {pins : List (Addr × Obj)} {s : Shared} {σ : St} {H : Hp} {Q : VK} {elt tg iter tg1 iter1 : Expr} {ifs ifs1 : List Expr} {scope : Scope} {own : List (Str × Nat)} {vs1 : List Nat} {pos pos' : Pos} {wi wi1 : TI} {g g1 : TG} {tt tt1 : TT} {te : TE} {use : Option (Value → Sem Unit)} {Qf : Value → Shared → Prop}
    (hu : X.A.units + 1 < cLine) (hc : X.calm = true) (hN : X.N.Nodup) (I : Inv X pins σ H s) (hi : PI X tg iter wi) (ok : BlkOk X.N X.env.scope scope own) (hv : ∀ i ∈ vs1, i ∈ own.map (·.2))
    (hg : ∀ (s : Shared) (H : Hp) (C : Addr) (cl : List (Str × Addr)) (fp : List Addr), PG (X.blk s H scope (compEnvC scope cl C X.env) fp) tg g) (ht : ∀ (s : Shared) (H : Hp) (C : Addr) (cl : List (Str × Addr)) (fp : List Addr), PTs (X.blk s H scope (compEnvC scope cl C X.env) fp) ifs tt)
    (he : ∀ (s : Shared) (H : Hp) (C : Addr) (cl : List (Str × Addr)) (fp : List Addr), PE (X.blk s H scope (compEnvC scope cl C X.env) fp) elt te) (hs : ∀ x, foldedSetIterable iter X.env x = pure x)
    (hi1 : ∀ (s : Shared) (H : Hp) (C : Addr) (cl : List (Str × Addr)) (fp : List Addr), PI (X.blk s H scope (compEnvC scope cl C X.env) fp) tg1 iter1 wi1)
    (hg1 : ∀ (s : Shared) (H : Hp) (C : Addr) (cl : List (Str × Addr)) (fp : List Addr), PG (X.blk s H scope (compEnvC scope cl C X.env) fp) tg1 g1)
    (ht1 : ∀ (s : Shared) (H : Hp) (C : Addr) (cl : List (Str × Addr)) (fp : List Addr), PTs (X.blk s H scope (compEnvC scope cl C X.env) fp) ifs1 tt1)
    (hs1 : ∀ env x, foldedSetIterable iter1 env x = pure x)
    (h : tSc2 X wi g tt wi1 g1 tt1 te (own.map (·.2)) vs1 σ H Q)
    (hRR : ∀ D C s' m H', Inv X pins σ H' s' → Q (.ref D) H' → s'.heap.Ns C m → FpOk X pins H' C → compPost (model X.prog X.w) X.A X.xe use Qf (.ref D) C (.ok .next) s') :
    wpAny (model X.prog X.w) X.A (comprehension (.SetComp elt [⟨tg, iter, ifs, 0⟩, ⟨tg1, iter1, ifs1, 0⟩] scope pos) scope X.env pos' (newSet (.type "set")) false (eval iter X.env) use) Qf X.xe s := by
  have hfree : ∀ y ∈ scope.names, y.2 = .free → ∃ c, X.env.cells.lookup y.1 = some c := fun y hy e => by
    rcases ok.free y hy e with k | k
    · exact I.ok.has _ (.inl k)
    · exact I.ok.has _ (.inr k)
  refine wpAny_comprehension_free (use := use) rfl hs (closure_ok hfree) ok.kind (fun y hy e => by rw [ok.uniq y hy, e])
    (thn (hi.run pins s σ H _ I h) fun xv s1 hx => thn hx fun itv s2 h2 => ?_)
  obtain ⟨it, fp, tn, J, H2, e, I2, T, st2, f2, q⟩ := h2
  subst e
  refine PpSet.newSet_ok (newEnv_comp ?_)
  generalize hD : s2.heap.objs.size = D
  have hDn : H2 D = none := I2.hok.fresh (Nat.le_of_eq hD)
  obtain ⟨W, ⟨m0, w0⟩, turn⟩ := q D hDn
  -- the new list
  generalize hs3 : ({ s2 with heap := s2.heap.push { cls := .type "set", dict := none, data := .set #[] 0 (.fresh 0 0 (!X.w.params.followText "set-order")) } } : Shared) = s3
  have I3 : Inv X pins σ (upd H2 D (SetTO X.prog X.w D [])) s3 := by
    rw [← hs3]
    refine I2.laid (t' := s2.toks) (fun b o e => Heap.get?_push_of_some _ e) (Nat.le_of_eq hD) ?_
    rw [← hD]
    exact setTO_new (SetTR.t0 (setTR_fresh (Heap.get?_push_size _ rfl)))
  have h3 : s3.heap = s2.heap.push { cls := .type "set", dict := none, data := .set #[] 0 (.fresh 0 0 (!X.w.params.followText "set-order")) } := by rw [← hs3]
  have sz : ∀ b ∈ fp, b < s2.heap.objs.size := fun b hb => by
    obtain ⟨o, e, _⟩ := T.obj _ _ st2 b hb
    exact Heap.lt_size e
  have f3 : ∀ b ∈ fp, FpOk X pins (upd H2 D (SetTO X.prog X.w D [])) b ∧ b < s3.heap.objs.size := fun b hb => by
    have hlt := sz b hb
    refine ⟨⟨?_, (f2 b hb).2⟩, by rw [h3, Heap.size_push]; exact Nat.lt_succ_of_lt hlt⟩
    rw [upd_ne (by rw [← hD]; exact Nat.ne_of_lt hlt)]
    exact (f2 b hb).1
  have st3 : tn 0 s3.heap := T.keep _ _ _ st2 fun b _ o e => by rw [h3]; exact Heap.get?_push_of_some _ e
  have I4 := block_start I3 ok hN f3
  have pg := hg s3 (upd H2 D (SetTO X.prog X.w D [])) s3.heap.objs.size (cellsFrom (s3.heap.objs.size + 1) scope.names (cloFrom X.env.cells scope.names [])) fp
  have pt := ht s3 (upd H2 D (SetTO X.prog X.w D [])) s3.heap.objs.size (cellsFrom (s3.heap.objs.size + 1) scope.names (cloFrom X.env.cells scope.names [])) fp
  have pe := he s3 (upd H2 D (SetTO X.prog X.w D [])) s3.heap.objs.size (cellsFrom (s3.heap.objs.size + 1) scope.names (cloFrom X.env.cells scope.names [])) fp
  have pi1 := hi1 s3 (upd H2 D (SetTO X.prog X.w D [])) s3.heap.objs.size (cellsFrom (s3.heap.objs.size + 1) scope.names (cloFrom X.env.cells scope.names [])) fp
  have pg1 := hg1 s3 (upd H2 D (SetTO X.prog X.w D [])) s3.heap.objs.size (cellsFrom (s3.heap.objs.size + 1) scope.names (cloFrom X.env.cells scope.names [])) fp
  have pt1 := ht1 s3 (upd H2 D (SetTO X.prog X.w D [])) s3.heap.objs.size (cellsFrom (s3.heap.objs.size + 1) scope.names (cloFrom X.env.cells scope.names [])) fp
  show codeAny _ _ (.compStart (.SetComp elt [⟨tg, iter, ifs, 0⟩, ⟨tg1, iter1, ifs1, 0⟩] scope pos) 0 (.ref it) (.ref D) (compEnvC scope (cellsFrom (s3.heap.objs.size + 1) scope.names (cloFrom X.env.cells scope.names [])) s3.heap.objs.size X.env)) (compPost (model X.prog X.w) X.A X.xe use Qf (.ref D) s3.heap.objs.size) { s3 with heap := pushCells (s3.heap.push { cls := .type "dict", data := .dict #[] }) scope.names }
  have nfp : ∀ b ∈ fp, (upd H2 D (SetTO X.prog X.w D [])) b = none := fun b hb => (f3 b hb).1.1
  generalize hce : compEnvC scope (cellsFrom (s3.heap.objs.size + 1) scope.names (cloFrom X.env.cells scope.names [])) s3.heap.objs.size X.env = ce at I4 pg pt pe pi1 pg1 pt1 ⊢
  have cL : ce.locals = s3.heap.objs.size := by subst hce; rfl
  generalize hH3 : upd H2 D (SetTO X.prog X.w D []) = H3 at I3 I4 pg pt pe pi1 pg1 pt1 w0 nfp f3
  generalize hs4 : ({ s3 with heap := pushCells (s3.heap.push { cls := .type "dict", data := .dict #[] }) scope.names } : Shared) = s4 at I4 ⊢
  have st4 : tn 0 s4.heap := T.keep _ _ _ st3 fun b _ o e => by rw [← hs4]; exact pushCells_keeps _ _ _ _ (Heap.get?_push_of_some _ e)
  have stat : ∀ {σ' : St} {H' : Hp} {s' : Shared}, Inv (X.blk s3 H3 scope ce fp) [] σ' H' s' → (∀ b ∈ fp, H' b = none) → ∀ b ∈ fp, FpOk (X.blk s3 H3 scope ce fp) [] H' b := fun {σ' H' s'} I' hn b hb =>
    ⟨hn b hb, (I'.ok.exf b hb).1, I'.ok.exfs b hb, .inl hb, fun x c e => (I'.ok.exf b hb).2 x c e, fun p hp => absurd (show p ∈ ([] : List (Addr × Obj)) ++ [] from hp) (by simp)⟩
  have loop : codeAny (model X.prog X.w) X.A (.compLoop (.SetComp elt [⟨tg, iter, ifs, 0⟩, ⟨tg1, iter1, ifs1, 0⟩] scope pos) 0 (.ref it) (.ref D) ce) (compPost (model X.prog X.w) X.A X.xe use Qf (.ref D) s3.heap.objs.size) s4 := by
    refine compLoop2S_out (hs1 ce) (fun n s' => ∃ i H', Inv (X.blk s3 H3 scope ce fp) [] (wipe σ (own.map (·.2))) H' s' ∧ tn i s'.heap ∧ (∀ b ∈ fp, H' b = none) ∧ W i n H') ?_ m0 ⟨0, H3, I4, st4, nfp, w0⟩
    rintro n s5 ⟨i, H5, I5, st5, n5, w5⟩
    rcases turn i n H5 w5 with ⟨stop, qq⟩ | ⟨go, Nx, hNx, step⟩
    · have td := T.done (X.blk s3 H3 scope ce fp) rfl rfl rfl hc i [] s5 _ H5 (fun _ _ => False) I5 (stat I5 n5) st5 stop
      refine thnF td fun r s6 ⟨hr, I6⟩ => ?_
      subst hr
      -- back in the def's context
      have I7 : Inv X pins σ H5 s6 := I3.call' (ch := fp) I6.os I6.base I6.hok I6.bare fun b hb => ⟨(f3 b hb).1.2.2.2.1, (f3 b hb).1.2.1, (f3 b hb).1.2.2.2.2.1, (f3 b hb).1.2.2.2.2.2⟩
      have nC : H5 s3.heap.objs.size = none := by
        have z : H5 ce.locals = none := I6.free
        rw [cL] at z
        exact z
      obtain ⟨m, hn, _⟩ := I6.loc
      have hn : s6.heap.Ns ce.locals m := hn
      rw [cL] at hn
      exact hRR D s3.heap.objs.size s6 m H5 I7 qq hn (I3.fpOk (Nat.le_refl _) nC)
    · have ti := T.item (X.blk s3 H3 scope ce fp) rfl rfl rfl hc i [] s5 _ H5 (fun _ _ => False) I5 (stat I5 n5) st5 go
      refine thnF ti fun r s6 ⟨u, hr, h6⟩ => ?_
      subst hr
      refine thnF h6 fun _ s7 ⟨x, H7, I7, r7, y7, st7, n7⟩ => ?_
      have I7' := I7.pinned (stat I7 n7) (T.obj _ _ st7)
      refine thnF (pg.run _ s7 _ H7 x u _ I7' r7 (step x H7 y7)) fun _ s8 ⟨σ8, H8, I8, hw8, q8⟩ => ?_
      refine thnF (pt.run _ s8 σ8 H8 _ I8 q8) fun b s9 ⟨H9, I9, q9⟩ => ?_
      -- the turn's end, from any slots that know what the block knew at its start
      have fin : ∀ {σ9 : St} {s' : Shared} {H' : Hp}, Inv (X.blk s3 H3 scope ce fp) ([] ++ pinsAt fp s7.heap) σ9 H' s' → (wipe σ (own.map (·.2))).length = σ9.length → (∀ (j : Nat) v, (wipe σ (own.map (·.2)))[j]? = some (some v) → σ9[j]? = some (some v)) → Nx H' →
          ∃ m, m < n ∧ ∃ i H', Inv (X.blk s3 H3 scope ce fp) [] (wipe σ (own.map (·.2))) H' s' ∧ tn i s'.heap ∧ (∀ b ∈ fp, H' b = none) ∧ W i m H' := fun {σ9 s' H'} I' hl hk nx => by
        obtain ⟨m', hm, w'⟩ := hNx H' nx
        have pin' : ∀ b ∈ fp, ∀ o, s7.heap.get? b = some o → s'.heap.get? b = some o ∧ H' b = none := fun b hb o e =>
          let z := I'.pin (b, o) (List.mem_append_right _ (List.mem_append_right _ (mem_pinsAt hb e)))
          ⟨z.1, z.2.1⟩
        refine ⟨m', hm, i + 1, H', (I'.unpinned (pins := [])).weak hl hk, T.keep _ _ _ st7 fun b hb o e => (pin' b hb o e).1, fun b hb => ?_, w'⟩
        obtain ⟨o, e, _⟩ := T.obj _ _ st7 b hb
        exact (pin' b hb o e).2
      have hl8 : (wipe σ (own.map (·.2))).length = σ8.length := by rw [← hw8, wipe_length]
      have hk8 : ∀ (j : Nat) v, (wipe σ (own.map (·.2)))[j]? = some (some v) → σ8[j]? = some (some v) := fun j v e => by
        rw [← hw8] at e
        exact (wipe_some e).1
      have hk9 : ∀ (j : Nat) v, (wipe σ (own.map (·.2)))[j]? = some (some v) → (wipe σ8 vs1)[j]? = some (some v) := fun j v e => by
        rw [← hw8] at e
        obtain ⟨e1, e2⟩ := wipe_some e
        rw [wipe_out fun z => e2 (hv j z)]
        exact e1
      cases b with
      | false =>
        simp only [Bool.false_eq_true, if_false] at q9 ⊢
        exact fin I9 hl8 hk8 q9
      | true =>
        simp only [if_true] at q9 ⊢
        refine thnF (pi1.run _ s9 σ8 H9 _ I9 q9) fun xv s10 hx => thnF hx fun itv s11 h11 => ?_
        obtain ⟨it1, fp1, tn1, J1, H11, e1, I11, T1, st11, f11, W1, ⟨m1, w1⟩, turn1⟩ := h11
        subst e1
        -- the inner loop
        have stat1 : ∀ {H' : Hp}, (∀ b ∈ fp1, H' b = none) → ∀ b ∈ fp1, FpOk (X.blk s3 H3 scope ce fp) ([] ++ pinsAt fp s7.heap) H' b := fun hn b hb => ⟨hn b hb, (f11 b hb).2⟩
        have loop1 : codeAny (model X.prog X.w) X.A (.compLoop (.SetComp elt [⟨tg, iter, ifs, 0⟩, ⟨tg1, iter1, ifs1, 0⟩] scope pos) 1 (.ref it1) (.ref D) ce)
            (fun r s' => match r with
              | .ok _ => ∃ m, m < n ∧ ∃ i H', Inv (X.blk s3 H3 scope ce fp) [] (wipe σ (own.map (·.2))) H' s' ∧ tn i s'.heap ∧ (∀ b ∈ fp, H' b = none) ∧ W i m H'
              | .error _ => False) s11 := by
          refine compLoop2S_in (fun k s' => ∃ j H', Inv (X.blk s3 H3 scope ce fp) ([] ++ pinsAt fp s7.heap) (wipe σ8 vs1) H' s' ∧ tn1 j s'.heap ∧ (∀ b ∈ fp1, H' b = none) ∧ W1 j k H') ?_ m1 ⟨0, H11, I11.weak (wipe_length _ _) (fun j v e => (wipe_some e).1), st11, fun b hb => (f11 b hb).1, w1⟩
          rintro k s12 ⟨j, H12, I12, st12, n12, w12⟩
          rcases turn1 j k H12 w12 with ⟨stop1, nx1⟩ | ⟨go1, Nx1, hNx1, step1⟩
          · refine thnF (T1.done (X.blk s3 H3 scope ce fp) rfl rfl rfl hc j _ s12 (wipe σ8 vs1) H12 (fun _ _ => False) I12 (stat1 n12) st12 stop1) fun r s13 ⟨hr, I13⟩ => ?_
            subst hr
            exact fin I13 (hl8.trans (wipe_length σ8 vs1).symm) hk9 nx1
          · refine thnF (T1.item (X.blk s3 H3 scope ce fp) rfl rfl rfl hc j _ s12 (wipe σ8 vs1) H12 (fun _ _ => False) I12 (stat1 n12) st12 go1) fun r s13 ⟨u1, hr, h13⟩ => ?_
            subst hr
            refine thnF h13 fun _ s14 ⟨x1, H14, I14, r14, y14, st14, n14⟩ => ?_
            have I14' := I14.pinned (stat1 n14) (T1.obj _ _ st14)
            refine thnF (pg1.run _ s14 (wipe σ8 vs1) H14 x1 u1 _ I14' r14 (step1 x1 H14 y14)) fun _ s15 ⟨σ15, H15, I15, hw15, q15⟩ => ?_
            refine thnF (pt1.run _ s15 σ15 H15 _ I15 q15) fun b1 s16 ⟨H16, I16, q16⟩ => ?_
            have fin1 : ∀ {s' : Shared} {H' : Hp}, Inv (X.blk s3 H3 scope ce fp) (([] ++ pinsAt fp s7.heap) ++ pinsAt fp1 s14.heap) σ15 H' s' → Nx1 H' → ∃ m, m < k ∧ ∃ j H', Inv (X.blk s3 H3 scope ce fp) ([] ++ pinsAt fp s7.heap) (wipe σ8 vs1) H' s' ∧ tn1 j s'.heap ∧ (∀ b ∈ fp1, H' b = none) ∧ W1 j m H' := fun {s' H'} I' nx => by
              obtain ⟨m', hm, w'⟩ := hNx1 H' nx
              have pin' : ∀ b ∈ fp1, ∀ o, s14.heap.get? b = some o → s'.heap.get? b = some o ∧ H' b = none := fun b hb o e =>
                let z := I'.pin (b, o) (List.mem_append_right _ (List.mem_append_right _ (mem_pinsAt hb e)))
                ⟨z.1, z.2.1⟩
              refine ⟨m', hm, j + 1, H', I'.unpinned.weak (by rw [← hw15, wipe_length]) (fun j v e => by rw [← hw15] at e; exact (wipe_some e).1), T1.keep _ _ _ st14 fun b hb o e => (pin' b hb o e).1, fun b hb => ?_, w'⟩
              obtain ⟨o, e, _⟩ := T1.obj _ _ st14 b hb
              exact (pin' b hb o e).2
            cases b1 with
            | false =>
              simp only [Bool.false_eq_true, if_false] at q16 ⊢
              exact fin1 I16 q16
            | true =>
              simp only [if_true] at q16 ⊢
              refine thnF (pe.run _ s16 σ15 H16 _ I16 q16) fun z s17 ⟨yv, H17, I17, r17, L, x17, k17, ex17, hx17, hL17, hD17, hz17, nx⟩ => ?_
              subst ex17
              cases (show z = Value.ref x17 from r17)
              exact addT_ok (X := X.blk s3 H3 scope ce fp) hu I17 hx17 hL17 hD17 hz17 fun s18 L' c1 c2 I18 => fin1 I18 (nx L' c1 c2)
        exact compStart1S_ok loop1 (T1.self X.A 0 _ _ _ st11 loop1)
  exact PpSet.codeAny_compStart_set loop (T.self X.A 0 _ _ _ st4 loop)
/-- as a value -/
theorem pe_sc2 {elt tg iter tg1 iter1 : Expr} {ifs ifs1 : List Expr} {scope : Scope} {own : List (Str × Nat)} {vs1 : List Nat} {pos : Pos} {wi wi1 : TI} {g g1 : TG} {tt tt1 : TT} {te : TE} (hu : X.A.units + 1 < cLine) (hc : X.calm = true) (hN : X.N.Nodup) (hi : PI X tg iter wi) (ok : BlkOk X.N X.env.scope scope own) (hv : ∀ i ∈ vs1, i ∈ own.map (·.2))
    (hg : ∀ (s : Shared) (H : Hp) (C : Addr) (cl : List (Str × Addr)) (fp : List Addr), PG (X.blk s H scope (compEnvC scope cl C X.env) fp) tg g) (ht : ∀ (s : Shared) (H : Hp) (C : Addr) (cl : List (Str × Addr)) (fp : List Addr), PTs (X.blk s H scope (compEnvC scope cl C X.env) fp) ifs tt)
    (hi1 : ∀ (s : Shared) (H : Hp) (C : Addr) (cl : List (Str × Addr)) (fp : List Addr), PI (X.blk s H scope (compEnvC scope cl C X.env) fp) tg1 iter1 wi1)
    (hg1 : ∀ (s : Shared) (H : Hp) (C : Addr) (cl : List (Str × Addr)) (fp : List Addr), PG (X.blk s H scope (compEnvC scope cl C X.env) fp) tg1 g1) (ht1 : ∀ (s : Shared) (H : Hp) (C : Addr) (cl : List (Str × Addr)) (fp : List Addr), PTs (X.blk s H scope (compEnvC scope cl C X.env) fp) ifs1 tt1)
    (he : ∀ (s : Shared) (H : Hp) (C : Addr) (cl : List (Str × Addr)) (fp : List Addr), PE (X.blk s H scope (compEnvC scope cl C X.env) fp) elt te) (hs : ∀ x, foldedSetIterable iter X.env x = pure x := by intro _; rfl) (hs1 : ∀ env x, foldedSetIterable iter1 env x = pure x := by intro _ _; rfl) :
    PE X (.SetComp elt [⟨tg, iter, ifs, 0⟩, ⟨tg1, iter1, ifs1, 0⟩] scope pos) (tSc2 X wi g tt wi1 g1 tt1 te (own.map (·.2)) vs1) := by
  refine ⟨fun pins s σ H Q I h => ?_⟩
  rw [PpSet.eval_SetComp]
  refine sc2_core hu hc hN I hi ok hv hg ht he hs hi1 hg1 ht1 hs1 h fun D C s' m H' I' q hn f => ⟨m, hn, fun h'' sb => ?_⟩
  obtain ⟨f0, f1, f2, f3, f4, f5⟩ := f
  exact ⟨.ref D, H', I'.turned (t' := s'.toks) (fun b o hb e => (sb.2 b hb).trans e) f0 f1 f3 f4 f5, rfl, q⟩
end
end L2

set_option Elab.async false
set_option linter.all false
set_option maxRecDepth 100000
set_option maxHeartbeats 4000000
namespace L2
open PySem PySem.Spec PyProof.Rows
section
variable {P : Program} {w : World} {A : Around} {E : Value → Shared → Prop} {s : Shared}
def pq (ns : List Int) : Int × Int := (ns.getD 0 0, ns.getD 1 0)
def encS (p : Addr × List Int) : PyData := .tuple [.int (pq p.2).1, .int (pq p.2).2]
theorem encS_le : PySem.W.dataLe false encS = fun u v => Dn.leP (pq u.2) (pq v.2) := by
  unfold Dn.leP
  exact PySem.W.dataLe_ii (fun z : Addr × List Int => (pq z.2).1) (fun z => (pq z.2).2)
theorem readsAll_ints {h : Heap} : ∀ {us : List Value} {ns : List Int}, IntsAre us ns → ReadsAll h us (ns.map .int) []
  | _, _, .nil => .nil
  | _, _, .cons _ _ r => .cons (as := []) (bs := []) (Reads.int _ _) (readsAll_ints r)
theorem each_refs : ∀ (L : List (Addr × List Int)), PySem.W.EachIs (fun v (p : Addr × List Int) => v = Value.ref p.1) (L.map fun q => Value.ref q.1) L
  | [] => .nil
  | p :: L => .cons rfl (each_refs L)
theorem refs_each : ∀ {L : List (Addr × List Int)} {vs : List Value}, PySem.W.EachIs (fun v (p : Addr × List Int) => v = Value.ref p.1) vs L → vs = L.map fun q => Value.ref q.1
  | _, _, .nil => rfl
  | _, _, .cons r t => by rw [r, refs_each t]; rfl
theorem each_reads {h : Heap} {a : Addr} : ∀ {L : List (Addr × List Int)}, (∀ p ∈ L, ∃ as, Reads h (.ref p.1) (encS p) as ∧ a ∉ as) → PySem.W.EachIs (fun v (p : Addr × List Int) => ∃ as, Reads h v (encS p) as ∧ a ∉ as) (L.map fun q => Value.ref q.1) L
  | [], _ => .nil
  | p :: L, h => .cons (h p (by simp)) (each_reads fun q hq => h q (by simp [hq]))
theorem sorted_setP {a : Addr} {L : List (Addr × List Int)} {es : Array (Int × Value)} {ep : Nat} {t : SetTable} {Q : Value → Shared → Prop} (R : SetTR P w s.heap a L es ep t) (hh : A.handled = none) (hu : A.units + 64 < cLine)
    (hB : ∀ p ∈ L, ∃ x y, p.2 = [x, y])
    (hQ : ∀ s' p (out : Array Value) (c : Nat) (L' : List (Addr × List Int)), (∀ b o, s.heap.get? b = some o → s'.heap.get? b = some o) → s'.gens = s.gens → s'.os = s.os → s.heap.objs.size ≤ p →
      s'.heap.get? p = some (seqObj "list" out c) → out.toList = L'.map (fun q => Value.ref q.1) → L'.Perm L → L'.Pairwise (fun u v => Dn.leP (pq u.2) (pq v.2) = true) → Q (.ref p) s') :
    wpAny (model P w) A (call (.builtin "sorted") [.ref a]) Q E s := by
  obtain ⟨o, ho, hex, hd⟩ := R.ob
  have hsz := R.size
  have hfew := R.few
  refine Calls.call_function_entry kind_sorted plain_sorted entry_sorted (args_sorted1 _) ?_
  unfold Builtin.«sorted»
  refine wpAny_bind (m := checkCount "sorted" 1 1 _) (wpAny_pure ?_)
  refine wpAny_bind (collect_set (A := A.in1) hh ⟨o, ho, hex.1, hd⟩ R.fits (by unfold scanBound; omega) R.tab.ris R.led fun s1 vs k1 hz g1 o1 pm => ?_)
  have hes : es.toList.map (·.2) = L.map fun q => Value.ref q.1 := by
    rw [R.rows]
    unfold rowsOf
    rw [List.map_map] <;> rfl
  rw [hes] at pm
  have ord : ∀ vs : List Value, (∀ v ∈ vs, ∃ q ∈ L, v = Value.ref q.1) → ∃ L1 : List (Addr × List Int), vs = L1.map (fun q => Value.ref q.1) ∧ ∀ q ∈ L1, q ∈ L := by
    intro vs
    induction vs with
    | nil => intro _; exact ⟨[], rfl, fun q hq => (by cases hq)⟩
    | cons v vs ih =>
      intro hv
      obtain ⟨q, hq, e⟩ := hv v List.mem_cons_self
      obtain ⟨L1, e1, hs⟩ := ih fun u hu => hv u (List.mem_cons_of_mem _ hu)
      refine ⟨q :: L1, by rw [List.map_cons, e, e1], fun r hr => ?_⟩
      rcases List.mem_cons.mp hr with z | z
      · rw [z]; exact hq
      · exact hs r z
  have one : ∀ q ∈ L, ∀ r ∈ L, q.1 = r.1 → q = r := fun q hq r hr e => by
    have a1 := R.tup q hq
    have a2 := R.tup r hr
    rw [e] at a1
    exact Prod.ext e (a1.inj a2)
  have perm_of : ∀ L1 : List (Addr × List Int), (∀ q ∈ L1, q ∈ L) → (L1.map (fun q => Value.ref q.1)).Perm (L.map fun q => Value.ref q.1) → L1.Perm L := by
    intro L1 hs pm1
    have nL : L.Nodup := nodup_of_map R.nd
    have nref : (L.map fun q => Value.ref q.1).Nodup := by
      refine List.pairwise_map.mpr (List.Pairwise.imp_of_mem (fun {q r} hq hr hne e => ?_) nL)
      injection e with e
      exact hne (one q hq r hr e)
    have n1 : L1.Nodup := nodup_of_map (pm1.nodup_iff.mpr nref)
    refine (List.perm_ext_iff_of_nodup n1 nL).mpr fun q => ⟨hs q, fun hq => ?_⟩
    have hm : Value.ref q.1 ∈ L1.map (fun q => Value.ref q.1) := pm1.mem_iff.mpr (List.mem_map.mpr ⟨q, hq, rfl⟩)
    obtain ⟨r, hr, e⟩ := List.mem_map.mp hm
    injection e with e
    rw [← one r (hs r hr) q hq e]
    exact hr
  have hvl : vs.length < 64 := by rw [pm.length_eq, List.length_map]; exact hfew
  obtain ⟨L1, e1, hs1⟩ := ord vs fun v hv => by
    obtain ⟨q, hq, e⟩ := List.mem_map.mp (pm.mem_iff.mp hv)
    exact ⟨q, hq, e.symm⟩
  have pL1 : L1.Perm L := perm_of L1 hs1 (by rw [← e1]; exact pm)
  have hl1 : L1.length < 64 := by rw [pL1.length_eq]; exact hfew
  refine wpAny_bind (wpAny_newList ?_ (by rw [sizeLine_eq]; omega))
  have hoL : (s1.heap.push (seqObj "list" vs.toArray 0)).get? s1.heap.objs.size = some (seqObj "list" vs.toArray 0) := Heap.get?_push_size _ rfl
  have tk : ∀ q ∈ L, TS.TupInts (s1.heap.push (seqObj "list" vs.toArray 0)) (.ref q.1) q.2 := fun q hq => tupInts_of (P := P) (w := w) (isT_keep (R.tup q hq) fun b u e => Heap.get?_push_of_some _ (k1 b u e))
  have rd : ∀ q ∈ L1, ∃ as, Reads (s1.heap.push (seqObj "list" vs.toArray 0)) (.ref q.1) (encS q) as ∧ s1.heap.objs.size ∉ as := fun q hq => by
    obtain ⟨x, xs, ex, ⟨o2, ho2, hc2, n2, hd2⟩, hi⟩ := tk q (hs1 q hq)
    obtain ⟨a1, a2, e2⟩ := hB q (hs1 q hq)
    refine ⟨[], ?_, by simp⟩
    injection ex with ex
    rw [← ex] at ho2
    have := readsAll_ints (h := s1.heap.push (seqObj "list" vs.toArray 0)) hi
    have ee : encS q = .tuple (q.2.map .int) := by unfold encS pq; rw [e2]; rfl
    rw [ee]
    exact Reads.tuple ho2 hc2 hd2 this
  have hdep : ∀ z : Addr × List Int, (encS z).depth ≤ 1 := fun z => by simp [encS, PyData.depth, PyData.depthAll]
  refine wpAny_bind (wpAny_holding (PySem.W.list_sort_data (s := { s1 with heap := s1.heap.push (seqObj "list" vs.toArray 0) }) (R := fun v (p : Addr × List Int) => v = Value.ref p.1) (enc := encS) (bs := L1) hoL (by rw [e1]; exact each_refs L1) (by rw [e1]; exact each_reads (by rw [← e1]; exact rd))
    (PySem.W.AllAlike.of fun b b' => by simp [encS, PySem.W.alike, PySem.W.alikeAll]) (PySem.W.Sortable.tuples fun b => ⟨_, _, rfl⟩) (by rw [sizeLine_eq]; omega) (fun b _ => by have := hdep b; show A.units + 1 + 1 + _ < cLine; omega) fun out hlen he => ?_))
  rw [encS_le] at he
  obtain ⟨c, hc⟩ := sortedHeap_at (vs := vs) (out := List.toArray out) hoL
  have eo := refs_each he
  have tl : PySem.W.TotalLe (fun (u v : Addr × List Int) => Dn.leP (pq u.2) (pq v.2)) := ⟨fun a b c h1 h2 => by unfold Dn.leP at *; rw [decide_eq_true_eq] at *; omega, fun a b => by unfold Dn.leP; rw [decide_eq_true_eq, decide_eq_true_eq]; omega⟩
  refine wpAny_pure ⟨_, rfl, hQ _ s1.heap.objs.size (List.toArray out) c (L1.mergeSort fun u v => Dn.leP (pq u.2) (pq v.2)) (fun b u e => ?_) g1 o1 hz hc (by rw [List.toList_toArray]; exact eo) ((List.mergeSort_perm _ _).trans pL1) (PySem.W.sort_pairwise tl L1)⟩
  have q := k1 b u e
  have hlt := Heap.lt_size q
  show (sortedHeap (s1.heap.push (seqObj "list" vs.toArray 0)) s1.heap.objs.size vs (List.toArray out)).get? b = some u
  rw [sortedHeap_old (Nat.ne_of_lt hlt) (by rw [size_push']; exact Nat.lt_succ_of_lt hlt)]
  exact Heap.get?_push_of_some _ q
end
section
variable {X : Cx}
def rSortedSP (K : PySem.W.Frag) (P : Program) (w : World) : List V → Hp → VK → Prop := fun vs H Q => ∃ (a : Addr) (L : List (Addr × List Int)), vs = [V.ref a] ∧ H a = some (SetTO P w a L) ∧ (∀ p ∈ L, SqT K H p.1 (p.2.map V.int)) ∧ (∀ p ∈ L, ∃ x y, p.2 = [x, y]) ∧
  ∀ (L' : List (Addr × List Int)) (p : Addr), L'.Perm L → (L'.map (·.2)).Nodup → L'.Pairwise (fun u v => Dn.leP (pq u.2) (pq v.2) = true) → H p = none → Q (.ref p) (upd H p (.lst (L'.map fun q => V.ref q.1)))
theorem cr_sortedSP (hc : X.calm = true) (hu : X.A.units + 64 < cLine) : CallR X (.builtin "sorted") (rSortedSP X.K X.prog X.w) := by
  intro pins s σ H vs us Q I r h
  obtain ⟨a, L, rfl, ha, hk, hB, q⟩ := h
  have R0 : SetT0 X.prog X.w s.heap a L := (I.hok a _ ha).1
  obtain ⟨es, ep, t, R⟩ := R0.full fun p hp => I.isT (hk p hp)
  rw [Vals.ref1 r]
  refine sorted_setP R (I.ok.hd hc) hu hB fun s' p out c L' k g o hp hg hout pm pw => ?_
  have hfew : L'.length < 64 := by rw [pm.length_eq]; exact R.few
  have hlen : (L'.map fun q => V.ref q.1).length ≤ sizeLine := by rw [List.length_map, sizeLine_eq]; omega
  have hn : H p = none := I.hok.fresh hp
  have hv : Vals (L'.map fun q => V.ref q.1) out.toList := by rw [hout]; exact vals_of_refs L'
  have J : Inv X pins σ (upd H p (.lst (L'.map fun q => V.ref q.1))) { s with heap := s'.heap, gens := s'.gens, drawn := s'.drawn, toks := s'.toks } :=
    I.call (ch := []) (Un.laid k hp hn) (I.hok.laid k hp ⟨hlen, out.toList, c, hv, hg⟩) (by rw [g]; exact I.bare) (fun _ z => nomatch z)
  have e : s' = { s with heap := s'.heap, gens := s'.gens, drawn := s'.drawn, toks := s'.toks } := by
    cases s'
    cases s
    cases o
    rfl
  rw [e]
  exact ⟨.ref p, _, J, rfl, q L' p pm ((pm.map (·.2)).nodup_iff.mpr R.nd) pw hn⟩
end
end L2

set_option Elab.async false
set_option linter.all false
set_option maxRecDepth 100000
set_option maxHeartbeats 4000000
namespace Dn
open PySem L2 PyProof.Rows
def dPutT' (acc k v : D) : Option D := match acc with
  | .dT true ks ds => dPutT ks ds k v
  | _ => none
def dcL (own : List Nat) (g : D → List D → Option (List D)) (ft : M Bool) (fk fv : M D) : List D → D → M D
  | [], acc => mret acc
  | x :: xs, acc => fun δ => match g x δ with
    | none => .bad
    | some δ1 => (match ft δ1 with
      | .ok (true, δ2) => (match fk δ2 with
        | .ok (k, δ3) => (match fv δ3 with
          | .ok (v, δ4) => (match dPutT' acc k v with
            | some acc' => dcL own g ft fk fv xs acc' (wipeD δ4 own)
            | none => .bad)
          | _ => .bad)
        | _ => .bad)
      | .ok (false, δ2) => dcL own g ft fk fv xs acc (wipeD δ2 own)
      | _ => .bad)
def eDcT (own : List Nat) (fi : M (List D)) (g : D → List D → Option (List D)) (ft : M Bool) (fk fv : M D) : M D := mbind fi fun xs => fun δ => match dcL own g ft fk fv xs (.dT true [] []) (wipeD δ own) with
  | .ok (acc, δ') => .ok (acc, wipeD δ' own)
  | _ => .bad
section
variable {K : PySem.W.Frag} {mg : Mg} {W : WX} {R F F' H H' : Hp} {σ : L2.St} {δ : List D} {vs : List V} {ds : List D}
theorem dputT_top {ks : List (List Key)} {xs : List D} {k dv d' : D} {y v r : V} (I : Ok K mg R F H σ δ (v :: y :: r :: vs) (dv :: k :: .dT true ks xs :: ds)) (ep : dPutT ks xs k dv = some d') :
    ∃ (a b : Addr) (kk : List Key) (ws : List V), r = .ref a ∧ y = .ref b ∧ H b = some (.tup (kk.map kV)) ∧ H a = some (.dT (ks.zip ws)) ∧ (ks.zip ws).length < sizeLine ∧ Ok K mg R F (upd H a (.dT (putK (ks.zip ws) kk v))) σ δ (r :: vs) (d' :: ds) ∧ ∃ ks2 xs2, d' = .dT true ks2 xs2 := by
  obtain ⟨g2, ov, _⟩ := I.top
  obtain ⟨g, ok, _⟩ := I.pop.top
  have J := I.pop.pop
  obtain ⟨f, o, _⟩ := J.top
  unfold dPutT at ep
  split at ep
  · rename_i ys
    cases ek : keysOf ys with
    | none => rw [ek] at ep; cases ep
    | some kk =>
      rw [ek] at ep
      dsimp only at ep
      split at ep
      · rename_i hp
        cases ep
        rw [Bool.and_eq_true, Bool.and_eq_true, decide_eq_true_eq] at hp
        obtain ⟨⟨h1, h2⟩, h3⟩ := hp
        have := ov.pure h2
        subst this
        simp only [Own] at ok
        obtain ⟨c, us, rfl, qc, oc⟩ := ok
        have := keysOf_V oc ek
        subst this
        simp only [Own] at o
        obtain ⟨a, ws, h, rfl, l, ol, q⟩ := o
        rcases q with ⟨z, _⟩ | ⟨_, p3, hH⟩
        · cases z
        · have := ol.pure h1
          subst this
          refine ⟨a, c, kk, ws, rfl, rfl, I.fh _ _ qc, hH, by rw [List.length_zip, ← l, Nat.min_self]; exact sz_lt h3, J.write1 (fun f' o2 => ?_) fun H' hh => ?_, _, _, rfl⟩
          · simp only [Own] at o2
            obtain ⟨a2, ws2, h2', e2, _, ol2, q2⟩ := o2
            cases e2
            rcases q2 with ⟨z, _⟩ | ⟨_, p4, _⟩
            · cases z
            · have := ol2.pure h1
              subst this
              exact p4
          · simp only [Own]
            refine ⟨a, putDs ks ws kk v, [], rfl, putDs_length l, (putDs_own l (ol.mono (Same.refl _) (fun _ z => nomatch z)) (ov.mono (Same.refl _) (fun _ z => nomatch z))), .inr ⟨trivial, .refl _, ?_⟩⟩
            rw [hh, putK_zip l]
      · cases ep
  · cases ep
theorem Ok.newDT {p : Addr} (I : Ok K mg R F H σ δ vs ds) (hp : H p = none) : Ok K mg R F (upd H p (.dT [])) σ δ (.ref p :: vs) (.dT true [] [] :: ds) := by
  obtain ⟨fh, rh, sep, fp, f1, f2, nd, cl, q, a, b⟩ := id I
  have np : p ∉ fp := fun hm => by
    rcases List.mem_append.mp (q.mem_iff.mp hm) with z | z
    · obtain ⟨o, e, _⟩ := a.dom p z; rw [hp] at e; cases e
    · obtain ⟨o, e, _⟩ := b.dom p z; rw [hp] at e; cases e
  have kp : ∀ x ∈ fp, (upd H p (.dT [])) x = H x := fun x hx => upd_ne fun z => np (z ▸ hx)
  have nF : F p = none := by
    cases e : F p with
    | none => rfl
    | some o => have := fh _ _ e; rw [hp] at this; cases this
  have nR : R p = none := by
    cases e : R p with
    | none => rfl
    | some o => have := rh _ _ e; rw [hp] at this; cases this
  refine ⟨fh.trans (sameNew hp), rh.trans (sameNew hp), sep, p :: fp, f1, p :: f2, List.nodup_cons.mpr ⟨np, nd⟩, fun x hx => ?_, (q.cons p).trans List.perm_middle.symm, a.mono (Same.refl _) fun x hx => kp x (q.mem_iff.mpr (List.mem_append_left _ hx)), ?_⟩
  · rcases List.mem_cons.mp hx with rfl | hx
    · exact ⟨nF, nR⟩
    · exact cl x hx
  · refine OwnL.cons (f1 := [p]) ?_ (b.mono (Same.refl _) fun x hx => kp x (q.mem_iff.mpr (List.mem_append_right _ hx)))
    simp only [Own]
    exact ⟨p, [], [], rfl, rfl, OwnL.nil, .inr ⟨trivial, .refl _, upd_same⟩⟩
theorem Ok.raise3 {v u t : V} {d e b : D} {hv : List V} {hd : List D} (l : hv.length = hd.length) (I : Ok K mg R F H σ δ (t :: u :: (hv ++ v :: vs)) (b :: e :: (hd ++ d :: ds))) : Ok K mg R F H σ δ (t :: u :: v :: (hv ++ vs)) (b :: e :: d :: (hd ++ ds)) := by
  have J := Ok.raise (hv := t :: u :: hv) (hd := b :: e :: hd) (by simp [l]) I
  exact Ok.sink (hv := [t, u]) (hd := [b, e]) rfl J
theorem snd_dcT {own gs : List Nat} {wi : TI} {tg : TG} {tt : TT} {tk tv : TE} {pa pb pc : Bool} {fi : M (List D)} {g : D → List D → Option (List D)} {ft : M Bool} {fk fv : M D} (hi : SndI K mg W wi fi) (hg : SndG K mg gs tg g) (ht : SndT K mg W0 pa tt ft) (hk : Snd K mg W0 pb tk fk) (he : Snd K mg W0 pc tv fv)
    (hgo : ∀ i ∈ gs, i ∈ own) : Snd K mg W false (tDcT wi tg tt tk tv own) (eDcT own fi g ft fk fv) := fun R F H σ δ vs ds Q I q => by
  unfold eDcT mbind at q
  refine hi.then I (fun c ns es e => by rw [e] at q; exact q) (fun e => by rw [e] at q; exact q) fun xs δ1 F1 H1 J hv hd e s1 it I1 Dl hD => ?_
  rw [e] at q
  dsimp only at q
  cases er : dcL own g ft fk fv xs (.dT true [] []) (wipeD δ1 own) with
  | bad => rw [er] at q; exact q.elim
  | er c n e => rw [er] at q; exact q.elim
  | ok r =>
    obtain ⟨accA, δf⟩ := r
    rw [er] at q
    dsimp only at q
    have St0 : Ok K mg R F1 (upd H1 Dl (.dT [])) (wipe σ own) (wipeD δ1 own) (.ref Dl :: (hv ++ vs)) (.dT true [] [] :: (hd ++ ds)) := (I1.newDT hD).wiped
    refine ⟨fun i m H' => m = xs.length - i ∧ i ≤ xs.length ∧ ∃ F' δi ks ys, Same F1 F' ∧ Ok K mg R F' H' (wipe σ own) δi (.ref Dl :: (hv ++ vs)) (.dT true ks ys :: (hd ++ ds)) ∧ dcL own g ft fk fv (xs.drop i) (.dT true ks ys) δi = .ok (accA, δf),
      ⟨xs.length, by simp, Nat.zero_le _, F1, wipeD δ1 own, [], [], Same.refl _, St0, by rw [List.drop_zero]; exact er⟩, ?_⟩
    rintro i m H2 ⟨rfl, hle, F2, δ2, ks, ys, s2, I2, ey⟩
    by_cases hlt : i < xs.length
    · have ed : xs.drop i = xs[i] :: xs.drop (i + 1) := List.drop_eq_getElem_cons hlt
      rw [ed] at ey
      unfold dcL at ey
      refine .inr ⟨it.go i R F2 H2 (wipe σ own) δ2 (.ref Dl :: vs) (.dT true ks ys :: ds) hlt (Ok.sink it.len I2), fun H' => ∃ F' δi ks ys, Same F1 F' ∧ Ok K mg R F' H' (wipe σ own) δi (.ref Dl :: (hv ++ vs)) (.dT true ks ys :: (hd ++ ds)) ∧ dcL own g ft fk fv (xs.drop (i + 1)) (.dT true ks ys) δi = .ok (accA, δf),
        fun H' h => ⟨xs.length - (i + 1), by omega, rfl, hlt, h⟩, fun x H3 y => ?_⟩
      cases eg : g xs[i] δ2 with
      | none => rw [eg] at ey; cases ey
      | some δ3 =>
        rw [eg] at ey
        dsimp only at ey
        obtain ⟨F3, s3, I3⟩ := it.yld i xs[i] x R F2 H2 H3 (wipe σ own) δ2 (.ref Dl :: vs) (.dT true ks ys :: ds) (List.getElem?_eq_getElem hlt) (Ok.sink it.len I2) y
        refine hg R F3 H3 (wipe σ own) δ2 δ3 x xs[i] _ _ _ I3 eg fun σ4 l4 k4 I4 => ?_
        have w4 : wipe σ4 own = wipe σ own := wipe_eq (by rw [l4, wipe_length]) fun j hj => by
          rw [k4 j (fun z => hj (hgo j z)), wipe_out hj]
        have l4' : σ4.length = σ.length := by rw [l4, wipe_length]
        have kk : ∀ j : Nat, j ∉ own → σ4[j]? = (wipe σ own)[j]? := fun j hj => k4 j fun z => hj (hgo j z)
        refine ⟨w4, ht.then I4 (fun c ns es e => ?_) (fun e => ?_) fun b δ5 F5 H5 e5 s5 p5 I5 => ?_⟩
        · rw [e] at ey; cases ey
        · rw [e] at ey; cases ey
        · rw [e5] at ey
          cases b with
          | false =>
            dsimp only at ey
            show ∃ F' δi ks ys, _
            exact ⟨F5, wipeD δ5 own, ks, ys, s2.trans (s3.trans s5), Ok.raise it.len (I5.unwiped (σ := wipe σ own) l4 kk), ey⟩
          | true =>
            dsimp only at ey
            rw [if_pos rfl]
            refine hk.then I5 (fun c ns es e => ?_) (fun e => ?_) fun d δ6 F6 H6 v e6 s6 p6 I6 => ?_
            · rw [e] at ey; cases ey
            · rw [e] at ey; cases ey
            · rw [e6] at ey
              dsimp only at ey
              refine he.then I6 (fun c ns es e => ?_) (fun e => ?_) fun d7 δ7 F7 H7 v7 e7 s7 p7 I7 => ?_
              · rw [e] at ey; cases ey
              · rw [e] at ey; cases ey
              · rw [e7] at ey
                dsimp only at ey
                cases e8 : dPutT' (.dT true ks ys) d d7 with
                | none => rw [e8] at ey; cases ey
                | some acc' =>
                  rw [e8] at ey
                  dsimp only at ey
                  obtain ⟨a, b, kw, ws, ea, eb, hb, ha, hz, I8, ks2, ys2, e9⟩ := dputT_top (Ok.raise3 it.len I7) e8
                  cases ea
                  subst e9
                  exact ⟨_, kw, b, eb, hb, ha, hz, F7, wipeD δ7 own, ks2, ys2, s2.trans (s3.trans (s5.trans (s6.trans s7))), I8.unwiped (σ := wipe σ own) l4 kk, ey⟩
    · have e0 : i = xs.length := by omega
      subst e0
      rw [List.drop_length] at ey
      unfold dcL at ey
      cases ey
      refine .inl ⟨it.stop _ R F2 H2 (wipe σ own) δf (.ref Dl :: vs) (.dT true ks ys :: ds) rfl (Ok.sink it.len I2), ?_⟩
      exact q F2 H2 (.ref Dl) (s1.trans s2) (fun z => nomatch z) ((I2.popMid it.len).unwiped (wipe_length ..) fun j hj => wipe_out hj)
end
end Dn

set_option Elab.async false
set_option linter.all false
set_option maxRecDepth 100000
set_option maxHeartbeats 4000000
namespace Dn
open PySem L2 PyProof.Rows
def Gt (pre L : List (Addr × List Int)) : Prop := (∀ x ∈ L, x ∈ pre) ∧ (∀ x ∈ pre, x.2 ∈ L.map (·.2)) ∧ L.length ≤ pre.length
theorem Gt.same {pre L : List (Addr × List Int)} {x : Addr × List Int} (g : Gt pre L) (h : x.2 ∈ L.map (·.2)) : Gt (pre ++ [x]) L := ⟨fun y hy => List.mem_append_left _ (g.1 y hy), fun y hy => by
  rcases List.mem_append.mp hy with z | z
  · exact g.2.1 y z
  · rw [List.mem_singleton.mp z]; exact h, by rw [List.length_append]; have := g.2.2; omega⟩
theorem Gt.more {pre L L' : List (Addr × List Int)} {x : Addr × List Int} (g : Gt pre L) (p : L'.Perm (x :: L)) : Gt (pre ++ [x]) L' := ⟨fun y hy => by
  rcases List.mem_cons.mp (p.mem_iff.mp hy) with rfl | z
  · exact List.mem_append_right _ (List.mem_singleton.mpr rfl)
  · exact List.mem_append_left _ (g.1 y z), fun y hy => by
  rw [(p.map (·.2)).mem_iff, List.map_cons]
  rcases List.mem_append.mp hy with z | z
  · exact List.mem_cons_of_mem _ (g.2.1 y z)
  · rw [List.mem_singleton.mp z]; exact List.mem_cons_self, by rw [p.length_eq, List.length_append, List.length_cons]; have := g.2.2; simp; omega⟩
theorem yes_go {A C : Hp → Prop} {σ : L2.St} {H : Hp} (h : A H) : tYes σ H (fun b H3 => if b = true then A H3 else C H3) := by unfold tYes; dsimp only; rw [if_pos rfl]; exact h
section
variable {X : Cx}
theorem sc2_walk {σ : L2.St} {H1 : Hp} {a Dl : Addr} {lists : List (Addr × List (Addr × List Int))} {own : List Nat} {p q : Nat} {Q : VK} (hT : SqT X.K H1 a (lists.map fun l => V.ref l.1)) (hl : ∀ l ∈ lists, SqL X.K H1 l.1 (l.2.map fun p => V.ref p.1)) (hk : ∀ l ∈ lists, ∀ p ∈ l.2, SqT X.K H1 p.1 (p.2.map V.int))
    (hz : ((lists.map (·.2)).flatten).length < 64) (hp : p ∈ own) (hq : q ∈ own) (hpl : p < σ.length) (hql : q < σ.length) (hpq : p ≠ q) (hD : H1 Dl = none)
    (hQ : ∀ L, Gt ((lists.map (·.2)).flatten) L → Q (.ref Dl) (upd H1 Dl (SetTO X.prog X.w Dl L))) :
    ∃ W : Nat → Nat → Hp → Prop, (∃ m, W 0 m (upd H1 Dl (SetTO X.prog X.w Dl []))) ∧ ∀ i m H, W i m H →
      ((Itt X.K a).stop i H ∧ Q (.ref Dl) H) ∨ ((Itt X.K a).go i H ∧ ∃ Nx : Hp → Prop, (∀ H', Nx H' → ∃ m', m' < m ∧ W (i + 1) m' H') ∧ ∀ x H', (Itt X.K a).yld i H x H' → gName p x (wipe σ own) H' fun σ2 H2 => wipe σ2 own = wipe σ own ∧ tYes σ2 H2 fun b H3 =>
        if b = true then iList X.K (tVar p) σ2 H3 fun J1 H4 => ∃ W1 : Nat → Nat → Hp → Prop, (∃ m, W1 0 m H4) ∧ ∀ j k H, W1 j k H →
          (J1.stop j H ∧ Nx H) ∨ (J1.go j H ∧ ∃ Nx1 : Hp → Prop, (∀ H', Nx1 H' → ∃ k', k' < k ∧ W1 (j + 1) k' H') ∧ ∀ x H', J1.yld j H x H' → gName q x (wipe σ2 [q]) H' fun σ3 H5 => wipe σ3 [q] = wipe σ2 [q] ∧ tYes σ3 H5 fun b H6 =>
            if b = true then tVar q σ3 H6 fun y H7 => ∃ (L : List (Addr × List Int)) (x : Addr) (k : List Int), y = .ref x ∧ SqT X.K H7 x (k.map V.int) ∧ (∀ p ∈ L, SqT X.K H7 p.1 (p.2.map V.int)) ∧ H7 Dl = some (SetTO X.prog X.w Dl L) ∧ L.length + 1 < 64 ∧ ∀ L', (k ∈ L.map (·.2) → L' = L) → (k ∉ L.map (·.2) → L'.Perm ((x, k) :: L)) → Nx1 (upd H7 Dl (SetTO X.prog X.w Dl L')) else Nx1 H6)
        else Nx H3) := by
  have sm : ∀ o, Same H1 (upd H1 Dl o) := fun o => sameNew hD
  have flat_at : ∀ {i : Nat} (hlt : i < lists.length), ((lists.take (i + 1)).map (·.2)).flatten = ((lists.take i).map (·.2)).flatten ++ lists[i].2 := fun {i} hlt => by
    rw [List.take_succ_eq_append_getElem hlt, List.map_append, List.flatten_append, List.map_singleton, List.flatten_singleton]
  have sub : ∀ i, ∀ x ∈ ((lists.take i).map (·.2)).flatten, SqT X.K H1 x.1 (x.2.map V.int) := fun i x hx => by
    obtain ⟨l, hl', hx'⟩ := List.mem_flatten.mp hx
    obtain ⟨l0, h0, rfl⟩ := List.mem_map.mp hl'
    exact hk l0 (List.mem_of_mem_take h0) x hx'
  have len : ∀ i, (((lists.take i).map (·.2)).flatten).length ≤ ((lists.map (·.2)).flatten).length := fun i => by
    have e : (lists.map (·.2)).flatten = ((lists.take i).map (·.2)).flatten ++ ((lists.drop i).map (·.2)).flatten := by
      rw [← List.flatten_append, ← List.map_append, List.take_append_drop]
    rw [e, List.length_append]; omega
  refine ⟨fun i m H' => m = lists.length - i ∧ i ≤ lists.length ∧ ∃ L, H' = upd H1 Dl (SetTO X.prog X.w Dl L) ∧ Gt ((lists.take i).map (·.2)).flatten L, ⟨lists.length, rfl, Nat.zero_le _, [], rfl, (show Gt [] [] from ⟨fun x h => (nomatch h), fun x h => (nomatch h), Nat.le_refl _⟩)⟩, ?_⟩
  rintro i m H ⟨rfl, hi, L, rfl, g⟩
  by_cases hlt : i < lists.length
  · refine .inr ⟨⟨_, V.ref lists[i].1, Same.seqT (sm _) hT, by rw [List.getElem?_map, List.getElem?_eq_getElem hlt]; rfl⟩, fun H' => ∃ L, H' = upd H1 Dl (SetTO X.prog X.w Dl L) ∧ Gt ((lists.take (i + 1)).map (·.2)).flatten L, fun H' h => ⟨lists.length - (i + 1), by omega, rfl, hlt, h⟩, fun x H' y => ?_⟩
    obtain ⟨rfl, y⟩ := y
    have ex := y _ (Same.seqT (sm _) hT)
    rw [List.getElem?_map, List.getElem?_eq_getElem hlt] at ex
    cases ex
    have hm : lists[i] ∈ lists := List.getElem_mem hlt
    refine ⟨wipe_eq (by rw [List.length_set, wipe_length]) fun j hj => by rw [List.getElem?_set_ne (fun z : p = j => hj (by rw [← z]; exact hp)), wipe_out hj], ?_⟩
    refine yes_go ?_
    generalize hs2 : (wipe σ own).set p (some (V.ref lists[i].1)) = σ2
    have h2l : σ2.length = σ.length := by rw [← hs2, List.length_set, wipe_length]
    have h2p : σ2[p]? = some (some (V.ref lists[i].1)) := by rw [← hs2, List.getElem?_set_self (by rw [wipe_length]; exact hpl)]
    refine ⟨V.ref lists[i].1, h2p, lists[i].1, rfl, ⟨_, (sm _).seq (hl _ hm)⟩, fun j k H' => k = (lists[i].2).length - j ∧ j ≤ (lists[i].2).length ∧ ∃ L, H' = upd H1 Dl (SetTO X.prog X.w Dl L) ∧ Gt (((lists.take i).map (·.2)).flatten ++ (lists[i].2).take j) L, ⟨_, rfl, Nat.zero_le _, L, rfl, by rw [List.take_zero, List.append_nil]; exact g⟩, ?_⟩
    rintro j k H ⟨rfl, hj, L, rfl, g⟩
    by_cases hlt2 : j < (lists[i].2).length
    · refine .inr ⟨⟨_, V.ref (lists[i].2)[j].1, (sm _).seq (hl _ hm), by rw [List.getElem?_map, List.getElem?_eq_getElem hlt2]; rfl⟩, fun H' => ∃ L, H' = upd H1 Dl (SetTO X.prog X.w Dl L) ∧ Gt (((lists.take i).map (·.2)).flatten ++ (lists[i].2).take (j + 1)) L, fun H' h => ⟨(lists[i].2).length - (j + 1), by omega, rfl, hlt2, h⟩, fun x H' y => ?_⟩
      obtain ⟨rfl, y⟩ := y
      have ex := y _ ((sm _).seq (hl _ hm))
      rw [List.getElem?_map, List.getElem?_eq_getElem hlt2] at ex
      cases ex
      have hm2 : (lists[i].2)[j] ∈ lists[i].2 := List.getElem_mem hlt2
      refine ⟨wipe_eq (by rw [List.length_set, wipe_length]) fun j hj => by rw [List.getElem?_set_ne (fun z : q = j => hj (by rw [← z]; exact List.mem_singleton_self _)), wipe_out hj], ?_⟩
      refine yes_go ?_
      have hlen : L.length + 1 < 64 := by
        have h1 := g.2.2
        have h2 := len (i + 1)
        rw [flat_at hlt, List.length_append] at h2
        rw [List.length_append, List.length_take] at h1
        omega
      refine ⟨V.ref (lists[i].2)[j].1, by rw [List.getElem?_set_self (by rw [wipe_length, h2l]; exact hql)], L, (lists[i].2)[j].1, (lists[i].2)[j].2, rfl, Same.seqT (sm _) (hk _ hm _ hm2), fun x hx => ?_, upd_same, hlen, fun L' c1 c2 => ?_⟩
      · rcases List.mem_append.mp (g.1 x hx) with z | z
        · exact Same.seqT (sm _) (sub i x z)
        · exact Same.seqT (sm _) (hk _ hm _ (List.mem_of_mem_take z))
      · have e : (lists[i].2).take (j + 1) = (lists[i].2).take j ++ [(lists[i].2)[j]] := List.take_succ_eq_append_getElem hlt2
        refine ⟨L', by rw [upd_upd], ?_⟩
        rw [e, ← List.append_assoc]
        by_cases c : (lists[i].2)[j].2 ∈ L.map (·.2)
        · rw [c1 c]; exact g.same c
        · exact g.more (c2 c)
    · have e0 : j = (lists[i].2).length := by omega
      subst e0
      rw [List.take_length] at g
      exact .inl ⟨⟨_, (sm _).seq (hl _ hm), by rw [List.length_map]; exact Nat.le_refl _⟩, L, rfl, by rw [flat_at hlt]; exact g⟩
  · have e0 : i = lists.length := by omega
    subst e0
    rw [List.take_length] at g
    exact .inl ⟨⟨_, Same.seqT (sm _) hT, by rw [List.length_map]; exact Nat.le_refl _⟩, hQ L g⟩
end
def pairLists : List D → Option (List (List (Int × Int)))
  | [] => some []
  | d :: ds => match listOf d with
    | some xs => (match pairsD xs, pairLists ds with
      | some ps, some pss => some (ps :: pss)
      | _, _ => none)
    | none => none
def dd : List (Int × Int) → List (Int × Int)
  | [] => []
  | x :: xs => if x ∈ dd xs then dd xs else x :: dd xs
theorem mem_dd {a : Int × Int} : ∀ {xs : List (Int × Int)}, a ∈ dd xs ↔ a ∈ xs
  | [] => Iff.rfl
  | x :: xs => by
    unfold dd
    by_cases h : x ∈ dd xs
    · rw [if_pos h, mem_dd (xs := xs), List.mem_cons]
      constructor
      · exact Or.inr
      · rintro (rfl | z)
        · exact mem_dd.mp h
        · exact z
    · rw [if_neg h, List.mem_cons, List.mem_cons, mem_dd (xs := xs)]
theorem nodup_dd : ∀ xs : List (Int × Int), (dd xs).Nodup
  | [] => List.nodup_nil
  | x :: xs => by
    unfold dd
    by_cases h : x ∈ dd xs
    · rw [if_pos h]; exact nodup_dd xs
    · rw [if_neg h]; exact List.nodup_cons.mpr ⟨h, nodup_dd xs⟩
def sortSet (ps : List (Int × Int)) : List (Int × Int) := (dd ps).mergeSort leP
theorem leP_total : PySem.W.TotalLe leP := ⟨fun a b c h1 h2 => by unfold leP at *; rw [decide_eq_true_eq] at *; omega, fun a b => by unfold leP; rw [decide_eq_true_eq, decide_eq_true_eq]; omega⟩
theorem leP_anti {a b : Int × Int} (h1 : leP a b = true) (h2 : leP b a = true) : a = b := by
  unfold leP at h1 h2
  rw [decide_eq_true_eq] at h1 h2
  exact Prod.ext (by omega) (by omega)
theorem sorted_eq {l m : List (Int × Int)} (hl : l.Nodup) (hm : m.Nodup) (sl : l.Pairwise fun a b => leP a b = true) (sm : m.Pairwise fun a b => leP a b = true) (h : ∀ a, a ∈ l ↔ a ∈ m) : l = m :=
  List.Perm.eq_of_pairwise (fun _ _ _ _ h1 h2 => leP_anti h1 h2) sl sm ((List.perm_ext_iff_of_nodup hl hm).mpr h)
theorem sortSet_sorted (ps : List (Int × Int)) : (sortSet ps).Pairwise fun a b => leP a b = true := PySem.W.sort_pairwise leP_total _
theorem sortSet_nodup (ps : List (Int × Int)) : (sortSet ps).Nodup := ((List.mergeSort_perm (dd ps) leP).nodup_iff).mpr (nodup_dd ps)
theorem mem_sortSet {a : Int × Int} {ps : List (Int × Int)} : a ∈ sortSet ps ↔ a ∈ ps := ((List.mergeSort_perm (dd ps) leP).mem_iff).trans mem_dd
def eSortS (own : List Nat) (p q : Nat) (fe : M D) : M D := mbind fe fun d => fun δ => match tupOf d with
  | some xs => (match pairLists xs with
    | some pss => if pss.flatten.length < 64 ∧ p < δ.length ∧ q < δ.length then .ok (.lst true ((sortSet pss.flatten).map tp), wipeD δ own) else .bad
    | none => .bad)
  | none => .bad
section
variable {K : PySem.W.Frag} {mg : Mg} {R F F' H H' : Hp} {σ : L2.St} {δ : List D} {vs : List V} {ds : List D}
theorem Ok.asTupO {d : D} {v : V} {xs : List D} (I : Ok K mg R F H σ δ (v :: vs) (d :: ds)) (e : tupOf d = some xs) :
    ∃ (a : Addr) (ws : List V) (f : List Addr), v = .ref a ∧ SqT K H a ws ∧ OwnL K mg F H xs f ws := by
  obtain ⟨f, o, _⟩ := I.top
  cases d with
  | tup ys =>
    cases e
    simp only [Own] at o
    obtain ⟨a, ws, rfl, q, ol⟩ := o
    exact ⟨a, ws, f, rfl, SqT.of (I.fh _ _ q), ol⟩
  | ktp ys =>
    cases e
    simp only [Own] at o
    obtain ⟨_, a, ws, rfl, q, ol⟩ := o
    exact ⟨a, ws, [], rfl, Same.seqT I.fh q, ol⟩
  | _ => cases e
def Ent (K : PySem.W.Frag) (mg : Mg) (F H : Hp) (p : Addr × List Int) : Prop := Own K mg F H (tp (L2.pq p.2)) [] (.ref p.1) ∧ ∃ x y, p.2 = [x, y]
theorem Ent.seq (s : Same F H) {p : Addr × List Int} (e : Ent K mg F H p) : SqT K H p.1 (p.2.map V.int) := by
  obtain ⟨o, x, y, e⟩ := e
  rw [e] at o ⊢
  simp only [tp, Own] at o
  obtain ⟨a, ws, ea, q, ol⟩ := o
  cases ea
  have := intsD_own (is := [x, y]) (by simp [intsD, L2.pq]) ol
  rw [this] at q
  exact SqT.of (s _ _ q)
theorem ents_own : ∀ {zs : List (V × (Int × Int))}, (∀ z ∈ zs, Own K mg F H (tp z.2) [] z.1) → ∃ es : List (Addr × List Int), es.map (fun p => V.ref p.1) = zs.map (·.1) ∧ es.map (fun p => L2.pq p.2) = zs.map (·.2) ∧ ∀ p ∈ es, Ent K mg F H p
  | [], _ => ⟨[], rfl, rfl, fun p h => (nomatch h)⟩
  | z :: zs, h => by
    obtain ⟨es, h1, h2, h3⟩ := ents_own (zs := zs) fun y hy => h y (by simp [hy])
    have o := h z (by simp)
    have o2 := o
    simp only [tp, Own] at o
    obtain ⟨a, ws, ea, q, ol⟩ := o
    refine ⟨(a, [z.2.1, z.2.2]) :: es, by simp [h1, ea], by rw [List.map_cons, List.map_cons, h2]; rfl, fun p hp => ?_⟩
    rcases List.mem_cons.mp hp with rfl | hp
    · exact ⟨by rw [ea] at o2; exact o2, _, _, rfl⟩
    · exact h3 p hp
theorem lists_own (s : Same F H) : ∀ {xs : List D} {pss : List (List (Int × Int))} {f : List Addr} {ws : List V}, pairLists xs = some pss → OwnL K mg F H xs f ws →
    ∃ ls : List (Addr × List (Addr × List Int)), ws = ls.map (fun l => V.ref l.1) ∧ (∀ l ∈ ls, SqL K H l.1 (l.2.map fun p => V.ref p.1)) ∧ (∀ l ∈ ls, ∀ p ∈ l.2, Ent K mg F H p) ∧ ls.map (fun l => l.2.map fun p => L2.pq p.2) = pss
  | [], pss, f, ws, e, o => by simp only [pairLists] at e; cases e; simp only [OwnL] at o; exact ⟨[], o.2, fun l h => (nomatch h), fun l h => (nomatch h), rfl⟩
  | d :: xs, pss, f, ws, e, o => by
    simp only [OwnL] at o
    obtain ⟨v, vr, f1, f2, rfl, q, a, b⟩ := o
    simp only [pairLists] at e
    cases hl : listOf d with
    | none => rw [hl] at e; cases e
    | some ys =>
      rw [hl] at e
      dsimp only at e
      cases h1 : pairsD ys with
      | none => rw [h1] at e; cases e
      | some ps =>
        rw [h1] at e
        cases h2 : pairLists xs with
        | none => rw [h2] at e; cases e
        | some pss' =>
          rw [h2] at e
          cases e
          obtain ⟨ls, g1, g2, g3, g4⟩ := lists_own s h2 b
          have ho : ∃ (c : Addr) (us : List V) (g : List Addr), v = .ref c ∧ SqL K H c us ∧ OwnL K mg F H ys g us := by
            cases d with
            | lst b zs =>
              cases hl
              simp only [Own] at a
              obtain ⟨c, us, g, rfl, ol, q⟩ := a
              refine ⟨c, us, g, rfl, ?_, ol⟩
              rcases q with ⟨_, _, _, q⟩ | ⟨_, _, q⟩
              · exact SqL.of (s _ _ q)
              · exact SqL.of q
            | scr zs =>
              cases hl
              simp only [Own] at a
              obtain ⟨_, c, us, rfl, q, ol⟩ := a
              exact ⟨c, us, [], rfl, s.seq q, ol⟩
            | _ => cases hl
          obtain ⟨c, us, g, rfl, sq, ol⟩ := ho
          obtain ⟨zs, z1, z2, z3⟩ := pairs_own h1 ol
          obtain ⟨es, e1, e2, e3⟩ := ents_own z3
          refine ⟨(c, es) :: ls, by simp [g1], fun l hl => ?_, fun l hl => ?_, by simp [g4, e2, z2]⟩
          · rcases List.mem_cons.mp hl with rfl | hl
            · show SqL K H c (es.map fun p => V.ref p.1); rw [e1, z1]; exact sq
            · exact g2 l hl
          · rcases List.mem_cons.mp hl with rfl | hl
            · exact e3
            · exact g3 l hl
theorem own_ents : ∀ {L : List (Addr × List Int)}, (∀ p ∈ L, Ent K mg F H p) → OwnL K mg F H ((L.map fun p => L2.pq p.2).map tp) [] (L.map fun q => V.ref q.1)
  | [], _ => OwnL.nil
  | p :: L, h => OwnL.cons (f1 := []) (h p (by simp)).1 (own_ents fun q hq => h q (by simp [hq]))
end
section
variable {X : Cx} {W : WX} {pa : Bool} {e : Expr} {te : TE} {fe : M D}
theorem snd_sortS {own : List Nat} {p q : Nat} (ha : Snd X.K X.mg W pa te fe) (hp : p ∈ own) (hq : q ∈ own) (hpq : p ≠ q) : Snd X.K X.mg W false (tCB (L2.rSortedSP X.K X.prog X.w) (tCons (tSc2 X (iTup X.K te) (gName p) tYes (iList X.K (tVar p)) (gName q) tYes (tVar q) own [q]) tNil)) (eSortS own p q fe) := fun R F H σ δ vs ds Q I g => by
  unfold eSortS mbind at g
  show te σ H _
  refine ha.then I (fun c ns es e => by rw [e] at g; exact g) (fun e => by rw [e] at g; exact g) fun d δ1 F1 H1 v e s1 p1 I1 => ?_
  rw [e] at g
  dsimp only at g
  cases ht : tupOf d with
  | none => rw [ht] at g; exact g.elim
  | some xs =>
    rw [ht] at g
    dsimp only at g
    cases hps : pairLists xs with
    | none => rw [hps] at g; exact g.elim
    | some pss =>
      rw [hps] at g
      dsimp only at g
      by_cases hz : pss.flatten.length < 64 ∧ p < δ1.length ∧ q < δ1.length
      · rw [if_pos hz] at g
        obtain ⟨hz, lp, lq⟩ := hz
        rw [← I1.lenS] at lp lq
        obtain ⟨a, ws, f, rfl, sq, ol⟩ := I1.asTupO ht
        obtain ⟨ls, w1, w2, w3, w4⟩ := lists_own I1.fh hps ol
        rw [w1] at sq
        have ef : ((ls.map (·.2)).flatten).map (fun p => L2.pq p.2) = pss.flatten := by rw [← w4, List.map_flatten, List.map_map]; rfl
        have hm : ∀ p ∈ (ls.map (·.2)).flatten, Ent X.K X.mg F1 H1 p := fun p hp => by
          obtain ⟨l, h1, h2⟩ := List.mem_flatten.mp hp
          obtain ⟨l0, h0, rfl⟩ := List.mem_map.mp h1
          exact w3 l0 h0 p h2
        refine ⟨a, rfl, ⟨_, sq⟩, fun Dl hD => sc2_walk (Q := fun x H2 => L2.rSortedSP X.K X.prog X.w [x] H2 Q) (lists := ls) sq w2 (fun l hl p hp => (w3 l hl p hp).seq I1.fh) (by rw [← ef, List.length_map] at hz; exact hz) hp hq lp lq hpq hD fun L gt => ?_⟩
        refine ⟨Dl, L, rfl, upd_same, fun p hp => Same.seqT (sameNew hD) ((hm p (gt.1 p hp)).seq I1.fh), fun p hp => (hm p (gt.1 p hp)).2, fun L' r pm nd so hr => ?_⟩
        have hL' : ∀ p ∈ L', Ent X.K X.mg F1 H1 p := fun p hp => hm p (gt.1 p (pm.mem_iff.mp hp))
        have e2 : L'.map (fun p => L2.pq p.2) = sortSet pss.flatten := by
          refine sorted_eq ?_ (sortSet_nodup _) (List.pairwise_map.mpr so) (sortSet_sorted _) fun a => ?_
          · have : (L'.map (·.2)).map L2.pq = L'.map (fun p => L2.pq p.2) := by rw [List.map_map]; rfl
            rw [← this]
            refine List.pairwise_map.mpr (List.Pairwise.imp_of_mem (fun {x y} hx hy ne z => ?_) nd)
            obtain ⟨p, hp, rfl⟩ := List.mem_map.mp hx
            obtain ⟨r, hr, rfl⟩ := List.mem_map.mp hy
            obtain ⟨_, x1, y1, h1⟩ := hL' p hp
            obtain ⟨_, x2, y2, h2⟩ := hL' r hr
            rw [h1, h2] at z ne
            unfold L2.pq at z
            simp only [List.getD_cons_zero, List.getD_cons_succ, Prod.mk.injEq] at z
            exact ne (by rw [z.1, z.2])
          · rw [mem_sortSet, ← ef]
            constructor
            · intro h
              obtain ⟨p, hp, rfl⟩ := List.mem_map.mp h
              exact List.mem_map.mpr ⟨p, gt.1 p (pm.mem_iff.mp hp), rfl⟩
            · intro h
              obtain ⟨p, hp, rfl⟩ := List.mem_map.mp h
              obtain ⟨p', hp', e'⟩ := List.mem_map.mp (gt.2.1 p hp)
              exact List.mem_map.mpr ⟨p', pm.mem_iff.mpr hp', by show L2.pq p'.2 = _; rw [show p'.2 = p.2 from e']⟩
        have o := own_ents hL'
        rw [e2] at o
        have J := ((I1.pop.grow (sameNew (o := SetTO X.prog X.w Dl L) hD)).newPure (o.mono (Same.refl _) (fun _ z => nomatch z)) hr)
        exact g F1 _ _ s1 (fun z => nomatch z) (J.unwiped (own := own) rfl (fun _ _ => rfl))
      · rw [if_neg hz] at g; exact g.elim
/-- sorted({elt for x in (a, ..) for elt in x}) -/
theorem se_sortS (p q : Nat) {sp sc cpos : Pos} {elt tg tg1 iter1 : Expr} {scope : Scope} {own : List (Str × Nat)} (hc : X.calm = true) (hu : X.A.units + 64 < cLine) (hN : X.N.Nodup) (hg : Gl X "sorted") (hm : X.mg "sorted" = none) (h : SE X W pa e te fe) (ok : BlkOk X.N X.env.scope scope own)
    (g0 : ∀ (s : Shared) (H : Hp) (C : Addr) (cl : List (Str × Addr)) (fp : List Addr), SG (X.blk s H scope (compEnvC scope cl C X.env) fp) [p] tg (gName p) (gN p)) (g1 : ∀ (s : Shared) (H : Hp) (C : Addr) (cl : List (Str × Addr)) (fp : List Addr), SG (X.blk s H scope (compEnvC scope cl C X.env) fp) [q] tg1 (gName q) (gN q))
    (hv : ∀ (s : Shared) (H : Hp) (C : Addr) (cl : List (Str × Addr)) (fp : List Addr), SE (X.blk s H scope (compEnvC scope cl C X.env) fp) W0 true iter1 (tVar p) (eV p)) (he : ∀ (s : Shared) (H : Hp) (C : Addr) (cl : List (Str × Addr)) (fp : List Addr), SE (X.blk s H scope (compEnvC scope cl C X.env) fp) W0 true elt (tVar q) (eV q))
    (hp : p ∈ own.map (·.2) := by decide) (hq : q ∈ own.map (·.2) := by decide) (hpq : p ≠ q := by decide) (hs : ∀ x, foldedSetIterable e X.env x = Pure.pure x := by intro _; rfl) (hs1 : ∀ env x, foldedSetIterable iter1 env x = Pure.pure x := by intro _ _; rfl)
    (hst : starEach [.SetComp elt [⟨tg, e, [], 0⟩, ⟨tg1, iter1, [], 0⟩] scope sc] X.env = (false, eval (.SetComp elt [⟨tg, e, [], 0⟩, ⟨tg1, iter1, [], 0⟩] scope sc) X.env) :: starEach [] X.env := by rfl) (hpl : (backTo cpos (starEach [] X.env)).any (·.1) = false := by rfl) :
    SE X W false (.Call (.Name "sorted" sp) [.SetComp elt [⟨tg, e, [], 0⟩, ⟨tg1, iter1, [], 0⟩] scope sc] [] cpos) (tCB (L2.rSortedSP X.K X.prog X.w) (tCons (tSc2 X (iTup X.K te) (gName p) tYes (iList X.K (tVar p)) (gName q) tYes (tVar q) (own.map (·.2)) [q]) tNil)) (eSortS (own.map (·.2)) p q fe) :=
  ⟨pe_callB (L2.cr_sortedSP hc hu) hg hm (by decide +kernel) (pa_cons (L2.pe_sc2 (by omega) hc hN (pi_tup h.pe) ok (fun i hi => by rw [List.mem_singleton.mp hi]; exact hq) (fun s H C cl fp => (g0 s H C cl fp).pe) (fun s H C cl fp => pts_nil) (fun s H C cl fp => pi_list (hv s H C cl fp).pe) (fun s H C cl fp => (g1 s H C cl fp).pe) (fun s H C cl fp => pts_nil) (fun s H C cl fp => (he s H C cl fp).pe) hs hs1) pa_nil hst) (by decide) (by decide) hst hpl,
    snd_sortS h.snd hp hq hpq⟩
theorem se_dcT {pa pb pc : Bool} {kx vx tg iter : Expr} {pos : Pos} {ifs : List Expr} {scope : Scope} {own : List (Str × Nat)} {gs : List Nat} {wi : TI} {tgt : TG} {tt : TT} {tk tv : TE} {fi : M (List D)} {g : D → List D → Option (List D)} {ft : M Bool} {fk fv : M D} (hu : X.A.units + 1 < cLine) (hc : X.calm = true) (hN : X.N.Nodup) (hi : SI X W tg iter wi fi) (ok : BlkOk X.N X.env.scope scope own)
    (hg : ∀ (s : Shared) (H : Hp) (C : Addr) (cl : List (Str × Addr)) (fp : List Addr), SG (X.blk s H scope (compEnvC scope cl C X.env) fp) gs tg tgt g) (ht : ∀ (s : Shared) (H : Hp) (C : Addr) (cl : List (Str × Addr)) (fp : List Addr), STs (X.blk s H scope (compEnvC scope cl C X.env) fp) W0 pa ifs tt ft)
    (hk : ∀ (s : Shared) (H : Hp) (C : Addr) (cl : List (Str × Addr)) (fp : List Addr), SE (X.blk s H scope (compEnvC scope cl C X.env) fp) W0 pb kx tk fk) (he : ∀ (s : Shared) (H : Hp) (C : Addr) (cl : List (Str × Addr)) (fp : List Addr), SE (X.blk s H scope (compEnvC scope cl C X.env) fp) W0 pc vx tv fv) (hgo : ∀ i ∈ gs, i ∈ own.map (·.2)) (hs : ∀ x, foldedSetIterable iter X.env x = Pure.pure x := by intro _; rfl) :
    SE X W false (.DictComp kx vx [⟨tg, iter, ifs, 0⟩] scope pos) (tDcT wi tgt tt tk tv (own.map (·.2))) (eDcT (own.map (·.2)) fi g ft fk fv) :=
  ⟨L2.pe_dcT hu hc hN hi.pe ok (fun s H C cl fp => (hg s H C cl fp).pe) (fun s H C cl fp => (ht s H C cl fp).pe) (fun s H C cl fp => (hk s H C cl fp).pe) (fun s H C cl fp => (he s H C cl fp).pe) hs,
    snd_dcT hi.snd (hg X.s_0 (fun _ => none) 0 [] []).snd (ht X.s_0 (fun _ => none) 0 [] []).snd (hk X.s_0 (fun _ => none) 0 [] []).snd (he X.s_0 (fun _ => none) 0 [] []).snd hgo⟩
end
end Dn

set_option Elab.async false
set_option linter.all false
set_option maxRecDepth 100000
set_option maxHeartbeats 4000000
namespace Dn
open PySem L2 PyProof.Rows
section
variable {K : PySem.W.Frag} {mg : Mg} {R F F' H H' : Hp} {σ : L2.St} {δ : List D} {vs : List V} {ds : List D}
/-- what is at hand is put beside; the slots stay -/
theorem Ok.frameT (I : Ok K mg R F H σ δ vs ds) :
    ∃ R', Ok K mg R' F H σ δ [] [] ∧ ∀ {F' H' : Hp} {σ' : L2.St} {δ' : List D} {ws' : List V} {es' : List D}, Same F F' → Ok K mg R' F' H' σ' δ' ws' es' → Ok K mg R F' H' σ' δ' (ws' ++ vs) (es' ++ ds) := by
  obtain ⟨fh, rh, sep, fp, f1, f2, nd, cl, p, a, b⟩ := I
  have nd' := List.nodup_append.mp (p.nodup_iff.mp nd)
  have dm : ∀ x ∈ f2, ∃ o, H x = some o ∧ ¬ isTup o := b.dom
  have clr : ∀ x ∈ f2, F x = none ∧ R x = none := fun x hx => cl x (p.mem_iff.mpr (List.mem_append_right _ hx))
  refine ⟨fun x => if x ∈ f2 then H x else R x, ⟨fh, fun x o z => ?_, fun x o z => ?_, f1, f1, [], nd'.1, fun x hx => ⟨(cl x (p.mem_iff.mpr (List.mem_append_left _ hx))).1, ?_⟩, by rw [List.append_nil], a, OwnL.nil⟩, fun {F' H' σ' δ' ws' es'} s J => ?_⟩
  · try dsimp only at z
    split at z
    · exact z
    · exact rh _ _ z
  · try dsimp only at z
    split at z
    · rename_i hx; exact .inl (clr x hx).1
    · exact sep x o z
  · try dsimp only
    rw [if_neg (fun z => nd'.2.2 x hx x z rfl)]
    exact (cl x (p.mem_iff.mpr (List.mem_append_left _ hx))).2
  · obtain ⟨fh', rh', sep', fp', h1, h2, nd2, cl2, pp, a2, b2⟩ := J
    have kr : ∀ x ∈ f2, H' x = H x := fun x hx => by
      obtain ⟨o, e, _⟩ := dm x hx
      rw [e]
      exact rh' x o (by show (if x ∈ f2 then H x else R x) = some o; rw [if_pos hx]; exact e)
    refine ⟨fh', fun x o z => ?_, fun x o z => ?_, fp' ++ f2, h1, h2 ++ f2, ?_, fun x hx => ?_, ?_, a2, b2.app (b.mono s (fun x hx => kr x hx))⟩
    · refine rh' x o ?_
      try dsimp only
      rw [if_neg (fun hx => by rw [(clr x hx).2] at z; cases z)]
      exact z
    · refine sep' x o ?_
      try dsimp only
      rw [if_neg (fun hx => by rw [(clr x hx).2] at z; cases z)]
      exact z
    · refine List.nodup_append.mpr ⟨nd2, nd'.2.1, fun x hx y hy z => ?_⟩
      subst z
      have r := (cl2 x hx).2
      try dsimp only at r
      rw [if_pos hy] at r
      obtain ⟨o, e, _⟩ := dm x hy
      rw [e] at r; cases r
    · rcases List.mem_append.mp hx with hx | hx
      · refine ⟨(cl2 x hx).1, ?_⟩
        have r := (cl2 x hx).2
        try dsimp only at r
        split at r
        · rename_i hy; exact (clr x hy).2
        · exact r
      · refine ⟨?_, (clr x hx).2⟩
        obtain ⟨o, e, nt⟩ := dm x hx
        rcases sep' x o (by show (if x ∈ f2 then H x else R x) = some o; rw [if_pos hx]; exact e) with z | z
        · exact z
        · exact absurd z nt
    · refine (pp.append_right _).trans ?_
      rw [List.append_assoc]
theorem OwnSL.unAll : ∀ (σ : List (Option V)), OwnSL K mg F H (σ.map fun _ => D.un) [] σ
  | [] => ⟨rfl, rfl⟩
  | ov :: σ => ⟨ov, σ, [], [], rfl, .refl _, .inl ⟨rfl, rfl⟩, OwnSL.unAll σ⟩
theorem Ok.allUn (I : Ok K mg R F H [] [] [] []) (σ : L2.St) : Ok K mg R F H σ (σ.map fun _ => D.un) [] [] := ⟨I.fh, I.rh, I.sep, [], [], [], List.nodup_nil, fun x h => (nomatch h), .refl _, OwnSL.unAll σ, OwnL.nil⟩
end
/-! ### try: .. except C as e: return b -/
def sTryC (c : Str) (b : Bool) (fb : M Fl) : M Fl := fun δ => match fb δ with
  | .ok r => .ok r
  | .er c' _ _ => if c' = c then .ok (.rt (.bl b), δ.map fun _ => D.un) else .bad
  | .bad => .bad
section
variable {X : Cx} {W : WX} {fx : List Bool} {pa pb pc : Bool} {a b c e f tg : Expr} {ta tb tc te : TE} {fa fb fc fe : M D} {pos p apos cpos spos : Pos} {ls : List (Option Nat)} {es : List Expr} {tr : TA} {fr : M (List D)} {K : PySem.W.Frag} {mg : Mg}
theorem ss_tryC {n x : Str} {C : Addr} {i : Nat} {j} {body : List Stmt} {np pos' rp cp : Pos} {r : Bool} {tb : WX → TS} {fb : M Fl} (hs : X.stack = X.env :: X.outer) (hf : X.env.frame = some X.env.locals) (hN : X.N.Nodup) (hi : X.N[i]? = some n) (hln : X.env.kindOf n = some .local) (hc : Names X x (.ref C)) (hm : X.mg x = some (.ref C)) (tk : Takes X W)
    (hx : PySem.W.exmOne X.K (.ref C) (.ref C) = some true) (hfx : fx.all (fun b => !b) = true)
    (hb : ∀ (W : WX) (pn : List (Addr × Obj)) (xe : Value → Shared → Prop), Takes (X.tr pn xe) W → SSs (X.tr pn xe) W fx body (tb W) fb) :
    SS X W fx (.Try body [.ExceptHandler (some (.Name x np)) (some n) [.Return (some (.Constant (.bool r) j cp)) rp] pos'] [] [] pos) (fun D σ H => tb (wAs X.K (.ref C) i (fun _ _ _ => tRet (tC (.bl r))) W D) D σ H) (sTryC x r fb) :=
  ⟨ps_try_as hs hf hN hi hln hc tk (fun W pn xe t _ => (hb W pn xe t).pe) (fun a oe cls d pn _ _ => pss_one (ps_ret pe_bl)), fun R F H σ δ vs ds E I q => by
  obtain ⟨R', J, back⟩ := I.frameT
  unfold sTryC at q
  have h := (hb (wAs X.K (.ref C) i (fun _ _ _ => tRet (tC (.bl r))) W E) [] (fun _ _ => True) (fun _ _ _ => trivial)).snd R' F H σ δ [] [] E J
  · refine h ?_
    cases er : fb δ with
    | bad => rw [er] at q; exact q.elim
    | ok res =>
      rw [er] at q
      obtain ⟨fl, δ'⟩ := res
      cases fl with
      | nx => exact fun F' H' σ' s x K => q F' H' σ' s x (back s K)
      | bk => exact fun F' H' σ' s x K => q F' H' σ' s x (back s K)
      | ct => exact fun F' H' σ' s x K => q F' H' σ' s x (back s K)
      | rt d => exact fun F' H' σ' v s x K => q F' H' σ' v s x (back s K)
    | er c' ns es =>
      rw [er] at q
      dsimp only at q
      by_cases hcc : c' = x
      · subst hcc
        rw [if_pos rfl] at q
        intro F' H' cls dx σ' s l o m xd
        rw [hm] at m
        cases m
        refine ⟨true, hx, fun _ a ha => ?_, fun z => (nomatch z)⟩
        have l2 : (σ'.set i (some (V.ref a))).length = σ.length := by rw [List.length_set]; exact l
        have J2 := back s ((o.allUn (σ'.set i (some (V.ref a)))))
        have eδ : ((σ'.set i (some (V.ref a))).map fun _ => D.un) = δ.map fun _ => D.un := by
          refine List.ext_getElem? fun k => ?_
          rw [List.getElem?_map, List.getElem?_map]
          have l3 := I.lenS
          by_cases hk : k < σ.length
          · rw [List.getElem?_eq_getElem (by omega), List.getElem?_eq_getElem (by omega)]; rfl
          · rw [List.getElem?_eq_none (by omega), List.getElem?_eq_none (by omega)]; rfl
        rw [eδ] at J2
        exact q F' H' _ (V.bl r) s ⟨l2, fun k hk => by
          have := List.all_eq_true.mp hfx true (List.mem_of_getElem? hk)
          cases this⟩ (J2.pushB r)
      · rw [if_neg hcc] at q; exact q.elim⟩
end
end Dn

set_option Elab.async false
set_option linter.all false
set_option maxRecDepth 100000
set_option maxHeartbeats 4000000
namespace Dn
open PySem L2 PyProof.Rows
/-! ### exceptions whose __init__ stores one field -/
def spI (C : Addr) (f : Str) : Sp := fun vs H Q E => ∃ (a : Addr) (y : V), vs = [.ref a, y] ∧ H a = some (exo a C none) ∧ ∀ dx, H dx = none → dx ≠ a → Q .non (upd (upd H dx (exd dx [(f, y)])) a (exo a C (some dx)))
theorem init_ok {P : Program} {w : World} {K : PySem.W.Frag} {mg : Mg} {base : Heap} {x qual prm fld : Str} {st : Stmt} {fI C : Addr} {fd : FuncData} {k : Nat} (FN : Fun K x qual st fI fd) (S : FnScope ["self", prm] ["self", prm] (defScope st)) (T : OexC K C) (nf : PySem.W.findIn K (.ref C) fld = some none)
    (hb : ∀ (cdv : Value) (A : Around) (outer : List Env) (s : Shared) (H : Hp) (E : XK), PSs (cxOf (L2.CX P w) P w K mg base ["self", prm] qual (defScope st) fI cdv A outer s H E) (defBody st) (tOst K fld (tVar 0) (tVar 1))) : FnOk P w K mg base (L2.CX P w) (k + 1) fI fd ["self", prm] (spI C fld) := by
  refine FN.okX S (fun vs H Q E h => ?_) (fun cdv A outer s H vs Q E hr h => ?_)
  · obtain ⟨a, y, rfl, _⟩ := h; rfl
  · obtain ⟨a, y, rfl, ha, q⟩ := h
    exact ⟨_, hb cdv A outer s H E, y, rfl, .ref a, rfl, a, C, rfl, T, nf, .inl ⟨ha, fun dx h1 h2 => q dx h1 h2⟩⟩
def sRaiseI (c f : Str) (fe : M D) : M Fl := mbind fe fun d => fun _ => .er c [f] [strip d]
section
variable {X : Cx} {W : WX} {fx : List Bool} {pa pb pc : Bool} {a b c e f tg : Expr} {ta tb tc te : TE} {fa fb fc fe : M D} {pos p apos cpos spos : Pos} {ls : List (Option Nat)} {es : List Expr} {tr : TA} {fr : M (List D)} {K : PySem.W.Frag} {mg : Mg}
theorem ss_raiseI {x fld prm : Str} {C fI : Addr} {fd : FuncData} {k : Nat} {rpos : Pos} (hc : X.calm = true) (tk : Takes X W) (T : OexC X.K C) (iC : PySem.W.findIn X.K (.ref C) "__init__" = some (some (.ref fI))) (tI : PySem.W.typeIn X.K (.ref fI) = some (.type "function"))
    (F1 : FnOk X.prog X.w X.K X.mg X.base (L2.CX X.prog X.w) k fI fd ["self", prm] (spI C fld)) (hr : Room (k + 1) X.A) (hb : Binds X.K fd ["self", prm] []) (hg : Gl X x) (hm : X.mg x = some (.ref C)) (ha : SE X W pa e te fe)
    (hdb : (x == ("__debug__" : Str)) = false := by decide) (he : starEach [e] X.env = (false, eval e X.env) :: starEach [] X.env := by rfl) (hpl : (backTo pos (starEach [] X.env)).any (·.1) = false := by rfl) :
    SS X W fx (.Raise (some (.Call (.Name x p) [e] [] pos)) none rpos) (fun _ σ H => tMkO C (spI C fld) [] (tCons te tNil) σ H fun cls d H' => W cls d σ H') (sRaiseI x fld fe) :=
  ⟨ps_raise hc tk (pmk_oex T iC tI F1 hr hb .nil passL hg hm (pa_cons ha.pe pa_nil he) hdb he hpl), fun R F H σ δ vs ds E I q => by
    unfold sRaiseI mbind at q
    show te σ H _
    refine ha.snd.then I (fun c ns es e => by rw [e] at q; exact q) (fun e => by rw [e] at q; exact q) fun d δ1 F1 H1 v e s1 p1 I1 => ?_
    rw [e] at q
    obtain ⟨F2, s2, I2⟩ := I1.freeze
    refine ⟨by show 1 ≤ 1000; decide, fun a hna => ?_⟩
    refine ⟨a, v, rfl, upd_same, fun dx hd hda => ⟨rfl, dx, [(fld, v)], ?_, ?_, ?_, ?_⟩⟩
    · exact upd_same
    · rw [upd_ne hda]; exact upd_same
    · rw [upd_ne hda] at hd; exact hd
    · have hd1 : H1 dx = none := by rw [upd_ne hda] at hd; exact hd
      have eH : upd (del (upd (upd (upd H1 a (exo a C none)) dx (exd dx [(fld, v)])) a (exo a C (some dx))) a) dx (.xd [(fld, v)]) = upd H1 dx (.xd [(fld, v)]) := by
        funext b
        by_cases h1 : b = dx
        · rw [h1, upd_same, upd_same]
        · rw [upd_ne h1, upd_ne h1]
          by_cases h2 : b = a
          · rw [h2, del_same, hna]
          · rw [del_ne h2, upd_ne h2, upd_ne h1, upd_ne h2]
      rw [eH]
      obtain ⟨f, o, _⟩ := I2.top
      have of : f = [] := o.pure (pure_strip d)
      subst of
      refine q F2 _ (.ref C) (some dx) σ (s1.trans s2) rfl (I2.grow (sameNew hd1)).reset hm (.inr ⟨dx, [v], rfl, upd_same, rfl, OwnL.one (o.mono (Same.refl _) (fun _ z => (nomatch z)))⟩)⟩
/-! ### small ones -/
def iLs (f : M D) : M (List D) := mbind f fun d => match listOf d with | some xs => if pureL xs then mret xs else mbad | none => mbad
theorem si_listD (h : SE X W pa e te fe) : SI X W tg e (iList X.K te) (iLs fe) := si_list h
def eFz (f : M D) : M D := mbind f fun d => mret (strip d)
theorem se_fz (h : SE X W pa e te fe) : SE X W pa e te (eFz fe) := ⟨h.pe, fun R F H σ δ vs ds Q I q => by
  unfold eFz mbind at q
  refine h.snd.then I (fun c ns es e => by rw [e] at q; exact q) (fun e => by rw [e] at q; exact q) fun d δ1 F1 H1 v e s1 p1 I1 => ?_
  rw [e] at q
  obtain ⟨F2, s2, I2⟩ := I1.freeze
  exact q F2 H1 v (s1.trans s2) p1 I2⟩
theorem ownFn {n : Str} {v : Value} {F H : Hp} (h : ∃ a, v = .ref a ∧ mg n = some (.ref a)) : True := trivial
theorem se_appF (i : Nat) {x : Str} {xpos : Pos} (h : SE X W pa e te fe) (hN : X.N[i]? = some x := by rfl) (hv : Vis X.env.scope x := by first | exact Or.inl rfl | exact Or.inr (Or.inl rfl) | exact Or.inr (Or.inr rfl))
    (hd : (x == ("__debug__" : Str)) = false := by decide) (hcd : (x == ("__classdict__" : Str)) = false := by decide)
    (hbase : attributeBase (.Name x xpos) "append" X.env (eval (.Name x xpos) X.env) = eval (.Name x xpos) X.env := by rfl)
    (hfew : ((backTo cpos (starEach [e] X.env)).all (fun x => !x.1) && (backToKw cpos (keywordEach [] X.env)).all (fun x => x.1.isSome)
      && decide ([e].length + ([] : List Keyword).length + (if ([] : List Keyword).isEmpty then 0 else 1) < 30)) = true := by rfl)
    (hline : (apos.endLine == cpos.line) = true := by rfl) (hs : starEach [e] X.env = (false, eval e X.env) :: starEach [] X.env := by rfl) (hplain : (backTo cpos (starEach [] X.env)).any (·.1) = false := by rfl) : SE X W false (.Call (.Attribute (.Name x xpos) "append" apos) [e] [] cpos) (tBM X.K "list" rAppend (tVar i) (tCons te tNil)) (eApp i (eFz fe)) :=
  se_app i (se_fz h) hN hv (pe_bm PySem.F.plainAttrs_list PySem.F.slot_list_append PySem.F.type_list_append mt_append (pe_var hN hv hd hcd) (pa_cons h.pe pa_nil hs) hbase hfew hline hs hplain)
theorem ss_putL (i : Nat) {x : Str} {xpos pos' : Pos} (hk : SE X W pa a ta fa) (hv : SE X W pb b tb fb) (hN : X.N[i]? = some x := by rfl) (hvi : Vis X.env.scope x := by first | exact Or.inl rfl | exact Or.inr (Or.inl rfl) | exact Or.inr (Or.inr rfl)) (hd : (x == ("__debug__" : Str)) = false := by decide)
    (hcd : (x == ("__classdict__" : Str)) = false := by decide) (ha : ∀ v, assign (.Subscript (.Name x xpos) a pos') X.env v = (do
      let ov ← holding [v] (eval (.Name x xpos) X.env)
      let iv ← holding [v, ov] (eval a X.env)
      standAt pos'
      holding [v, ov, iv] (setItem ov iv v)
      release [v, ov, iv] []) := by intro _; rfl) (hs : swapsWithSole [.Subscript (.Name x xpos) a pos'] b pos.line X.env = Pure.pure false := by rfl) (hw : swappedStores [.Subscript (.Name x xpos) a pos'] b X.env = Pure.pure none := by rfl)
    (h1 : (assignEach [.Subscript (.Name x xpos) a pos'] X.env).map (·.2) = [assign (.Subscript (.Name x xpos) a pos') X.env] := by rfl) : SS X W fx (.Assign [.Subscript (.Name x xpos) a pos'] b pos) (tAsg tb (gSub (tVar i) ta rSetL)) (sPutL i fa fb) :=
  ⟨ps_asg hv.pe (pg_sub (pe_var hN hvi hd hcd) hk.pe set_list ha) hs hw h1, snd_putL hv.snd hk.snd⟩
end
end Dn
namespace Dn
open PySem L2 PyProof.Rows
def clsStmt (s : Stmt) (i : Nat) : Stmt := match s with
  | .ClassDef _ _ _ body .. => body.getD i (.Pass ⟨0, 0, 0, 0⟩)
  | _ => .Pass ⟨0, 0, 0, 0⟩
structure ExcI (K : PySem.W.Frag) (mg : Mg) (x fld prm qual : Str) (st : Stmt) : Prop where
  ex : ∃ C fI fd, mg x = some (.ref C) ∧ OexC K C ∧ PySem.W.findIn K (.ref C) "__init__" = some (some (.ref fI)) ∧ PySem.W.typeIn K (.ref fI) = some (.type "function") ∧ Fun K "__init__" qual st fI fd ∧ Binds K fd ["self", prm] [] ∧ PySem.W.findIn K (.ref C) fld = some none ∧ PySem.W.exmOne K (.ref C) (.ref C) = some true
theorem _root_.L2.Room.un65 {k : Nat} {A : Around} (r : Room k A) : A.units + 65 < cLine := by have := r.un; omega
end Dn

set_option Elab.async false
set_option linter.all false
set_option maxRecDepth 100000
set_option maxHeartbeats 4000000
/-! the rules whose readings name the fragment, with the fragment told: for use inside comprehensions -/
namespace Dn
open PySem L2 PyProof.Rows
section
variable {X : Cx} {W : WX} {fx : List Bool} {pa pb pc : Bool} {a b c e f tg : Expr} {ta tb tc te : TE} {fa fb fc fe : M D} {pos p apos cpos spos : Pos} {ls : List (Option Nat)} {es : List Expr} {tr : TA} {fr : M (List D)}
theorem sg_tupK (K : PySem.W.Frag) {es : List Expr} {k n : Nat} {t : TGs} {ix : List Nat} {gs : List (D → List D → Option (List D))} (hc : X.calm = true) (h : SGs X ix es t gs) (hg : gs.length = n := by rfl)
    (hn : (assignEach es X.env).length = n := by rfl) (hst : (assignEach es X.env).findIdx? (·.1) = none := by rfl) (hK : X.K = K := by rfl) : SG X ix (.Tuple es k pos) (gTup K n t) (gT gs) := by
  subst hK; exact sg_tup hc h hg hn hst
theorem se_ixK (K : PySem.W.Frag) (ha : SE X W pa a ta fa) (hb : SE X W pb b tb fb) (hs : PlainIx b := by intro _ _; rfl) (hK : X.K = K := by rfl) : SE X W (pa && pb) (.Subscript a b pos) (tOp (rIx K) ta tb) (eBin dIx fa fb) := by
  subst hK; exact se_ix ha hb hs
theorem op_inDK (K : PySem.W.Frag) (hu : X.A.units + 65 < cLine) (hK : X.K = K := by rfl) : OpR X (compareOp .In) (rInD K) := by subst hK; exact op_inD hu
theorem op_notInDK (K : PySem.W.Frag) (hu : X.A.units + 65 < cLine) (hK : X.K = K := by rfl) : OpR X (compareOp .NotIn) (rNotInD K) := by subst hK; exact op_notInD hu
theorem op_eqDK (K : PySem.W.Frag) (hu : X.A.units + 64 < cLine) (hK : X.K = K := by rfl) : OpR X (compareOp .Eq) (rEqD K) := by subst hK; exact op_eqD hu
theorem op_neDK (K : PySem.W.Frag) (hu : X.A.units + 64 < cLine) (hK : X.K = K := by rfl) : OpR X (compareOp .NotEq) (rNeD K) := by subst hK; exact op_neD hu
theorem se_callCK {P : Program} {w : World} {K : PySem.W.Frag} {mg : Mg} {base : Heap} {k n : Nat} {x : Str} {G : Fn} (C : Cal P w K mg base k x n G) (hr : Room k X.A) (hg : Gl X x) (tk : Takes X W) (ha : SA X W pa ls (e :: es) tr fr)
    (hn : ∀ es δ δ', fr δ = .ok (es, δ') → es.length = n) (hdb : (x == ("__debug__" : Str)) = false := by decide)
    (he : starEach (e :: es) X.env = (false, eval e X.env) :: starEach es X.env := by rfl) (hpl : (backTo pos (starEach es X.env)).any (·.1) = false := by rfl)
    (h1 : X.prog = P := by rfl) (h2 : X.w = w := by rfl) (h3 : X.K = K := by rfl) (h4 : X.mg = mg := by rfl) (h5 : X.base = base := by rfl) : SE X W false (.Call (.Name x p) (e :: es) [] pos) (tCallS (spOf K mg n G) (WE W) tr) (eCall G ls fr) := by
  subst h1 h2 h3 h4 h5; exact se_callC C hr hg tk ha hn hdb he hpl
end
end Dn

set_option Elab.async false
set_option linter.all false
set_option maxRecDepth 100000
set_option maxHeartbeats 40000000
namespace Gen
open PySem L2 PyProof.Rows Dn
def top (i : Nat) : Stmt := PySem.Challenge.pw_fleuron_k60_pictures_of_pixels.main.body.getD i (.Pass ⟨0, 0, 0, 0⟩)
-- facts: bool const:MOST_ROWS exi:TooLarge int isinstance len list max min range reversed sorted str tuple
abbrev s_init_TooLarge : Stmt := clsStmt (top 2) 0
theorem sc_init_TooLarge : FnScope ["self", "limit"] ["self", "limit"] (defScope s_init_TooLarge) := ⟨rfl, rfl, rfl, by decide +kernel, rfl, by decide +kernel, by decide +kernel⟩
theorem init_TooLarge {P : Program} {w : World} {K : PySem.W.Frag} {mg : Mg} {base : Heap} {fI C : Addr} {fd : FuncData} {k : Nat} (FN : Fun K "__init__" "TooLarge.__init__" s_init_TooLarge fI fd) (T : OexC K C) (nf : PySem.W.findIn K (.ref C) "limit" = some none) : FnOk P w K mg base (L2.CX P w) (k + 1) fI fd ["self", "limit"] (spI C "limit") :=
  init_ok FN sc_init_TooLarge T nf (fun cdv A outer s H E => pss_one (ps_ost (pe_var (i := 0) rfl (Or.inl rfl) (by decide) (by decide)) (pe_var (i := 1) rfl (Or.inl rfl) (by decide) (by decide))))
structure Txt (K : PySem.W.Frag) (mg : Mg) : Prop where
  n_bool : mg "bool" = none
  c_MOST_ROWS : ∃ t, mg "MOST_ROWS" = some (.int 1000 t)
  x_TooLarge : ExcI K mg "TooLarge" "limit" "limit" "TooLarge.__init__" s_init_TooLarge
  n_int : mg "int" = none
  n_isinstance : mg "isinstance" = none
  n_len : mg "len" = none
  n_list : mg "list" = none
  n_max : mg "max" = none
  n_min : mg "min" = none
  n_range : mg "range" = none
  n_reversed : mg "reversed" = none
  n_sorted : mg "sorted" = none
  n_str : mg "str" = none
  n_tuple : mg "tuple" = none
section
variable {P : Program} {w : World} {K : PySem.W.Frag} {mg : Mg} {base : Heap}
/-! ### moved_pixels -/
abbrev s_moved_pixels : Stmt := top 5
def g_moved_pixels : M Fl := sRetF (eLc [3, 4] (iLs (eV 0)) (gT [gN 3, gN 4]) (tYes') (eFz (eTup (aConsF (eBin dAdd (eV 3) (eV 1)) (aConsF (eBin dAdd (eV 4) (eV 2)) (aNil))))))
def m_moved_pixels : Fn := fnD 5 3 [false, false, false] g_moved_pixels
theorem sc_moved_pixels : FnScope ["pixels", "across", "along", "column", "row"] ["pixels", "across", "along"] (defScope s_moved_pixels) := ⟨rfl, rfl, rfl, by decide +kernel, rfl, by decide +kernel, by decide +kernel⟩
theorem cal_moved_pixels {f : Addr} {fd : FuncData} (FN : Fun K "moved_pixels" "moved_pixels" s_moved_pixels f fd) (hm : mg "moved_pixels" = some (.ref f)) (hb : Binds K fd ["pixels", "across", "along"] []) (T : Txt K mg) : Cal P w K mg base 1 "moved_pixels" 3 m_moved_pixels := by
  exact (def_cal (g := g_moved_pixels) (keep := [false, false, false]) FN hm hb sc_moved_pixels rfl (by decide) (fun cdv A outer s H E hr => ⟨_, by
  have sc := sc_moved_pixels
  have hu := hu_of hr
  exact (sss_one (ss_retF (se_lc (own := [("column", 3), ("row", 4)]) (gs := [3, 4]) rfl sc.nd (si_listD (se_v 0)) (blkOk_by (own := [("column", 3), ("row", 4)]) (N := ["pixels", "across", "along", "column", "row"]) (sc := defScope s_moved_pixels) (by decide +kernel)) (fun _ _ _ _ _ => (sg_tupK K (ix := [3, 4]) rfl (sgs_cons (i1 := [3]) (i2 := [4]) (sg_name 3 sc.nd) (sgs_cons (i1 := [4]) (i2 := []) (sg_name 4 sc.nd) sgs_nil)))) (fun _ _ _ _ _ => sts_nil) (fun _ _ _ _ _ => (se_fz (se_tup (sa_consF (se_op op_addA o_add (se_v 3) (se_v 1)) (sa_consF (se_op op_addA o_add (se_v 4) (se_v 2)) sa_nil))))) (by decide))))⟩))
/-! ### joined -/
abbrev s_joined : Stmt := top 6
def g_joined : M Fl := sRetF (eSortS [2, 3] 2 3 (eTup (aConsF (eV 0) (aConsF (eV 1) (aNil)))))
def m_joined : Fn := fnD 4 2 [false, false] g_joined
theorem sc_joined : FnScope ["first", "second", "pixels", "pixel"] ["first", "second"] (defScope s_joined) := ⟨rfl, rfl, rfl, by decide +kernel, rfl, by decide +kernel, by decide +kernel⟩
theorem cal_joined {f : Addr} {fd : FuncData} (FN : Fun K "joined" "joined" s_joined f fd) (hm : mg "joined" = some (.ref f)) (hb : Binds K fd ["first", "second"] []) (T : Txt K mg) : Cal P w K mg base 1 "joined" 2 m_joined := by
  exact (def_cal (g := g_joined) (keep := [false, false]) FN hm hb sc_joined rfl (by decide) (fun cdv A outer s H E hr => ⟨_, by
  have sc := sc_joined
  have hu := hu_of hr
  exact (sss_one (ss_retF (se_sortS (own := [("pixels", 2), ("pixel", 3)]) 2 3 rfl hr.units sc.nd rfl T.n_sorted (se_tup (sa_consF (se_v 0) (sa_consF (se_v 1) sa_nil))) (blkOk_by (own := [("pixels", 2), ("pixel", 3)]) (N := ["first", "second", "pixels", "pixel"]) (sc := defScope s_joined) (by decide +kernel)) (fun _ _ _ _ _ => (sg_name 2 sc.nd)) (fun _ _ _ _ _ => (sg_name 3 sc.nd)) (fun _ _ _ _ _ => (se_v 2)) (fun _ _ _ _ _ => (se_v 3)))))⟩))
/-! ### _law_deck -/
abbrev s_Ldeck : Stmt := top 9
def g_Ldeck : M Fl := sRet (eLst (aConsF (eBI dList (aCons (eV 0) (aNil))) (aCons (eC (.int 0)) (aCons (eC (.int 0)) (aCons (eC (.int 7)) (aNil))))))
def m_Ldeck : Fn := fnD 1 1 [false] g_Ldeck
theorem sc_Ldeck : FnScope ["_law_script"] ["_law_script"] (defScope s_Ldeck) := ⟨rfl, rfl, rfl, by decide +kernel, rfl, by decide +kernel, by decide +kernel⟩
theorem cal_Ldeck {f : Addr} {fd : FuncData} (FN : Fun K "_law_deck" "_law_deck" s_Ldeck f fd) (hm : mg "_law_deck" = some (.ref f)) (hb : Binds K fd ["_law_script"] []) (T : Txt K mg) : Cal P w K mg base 1 "_law_deck" 1 m_Ldeck := by
  exact (def_cal (g := g_Ldeck) (keep := [false]) FN hm hb sc_Ldeck rfl (by decide) (fun cdv A outer s H E hr => ⟨_, by
  have sc := sc_Ldeck
  have hu := hu_of hr
  exact (sss_one (ss_ret (se_lst (sa_consF (se_callTy call_list_of o_list rfl T.n_list (by decide +kernel) (sa_cons (se_v 0) sa_nil)) (sa_cons se_int (sa_cons se_int (sa_cons se_int sa_nil)))))))⟩))
/-! ### _law_draw -/
abbrev s_Ldraw : Stmt := top 10
def g_Ldraw : M Fl := sSeq (sIf (tBor (tV (eBin dGe (eBin dIx (eV 0) (eC (.int 2))) (eV 1)))) (sSeq (sAsg (gN 2) (eBin dMod (eBor (eBI dInt (aCons (eBin dIx (eV 0) (eC (.int 2))) (aNil)))) (eV 1))) (sSeq (sPutL 0 (eC (.int 2)) (eBin dDiv (eBor (eBin dIx (eV 0) (eC (.int 2)))) (eV 1))) (sRetF (eV 2)))) (sNx)) (sSeq (sAsg (gN 3) (eC (.int 0))) (sSeq (sIf (tBor (tV (eBin dLt (eBin dIx (eV 0) (eC (.int 1))) (eBI dLen (aCons (eBin dIx (eV 0) (eC (.int 0))) (aNil)))))) (sAsg (gN 3) (eBor (eBin dIx (eBin dIx (eV 0) (eC (.int 0))) (eBin dIx (eV 0) (eC (.int 1)))))) (sNx)) (sSeq (sPutL 0 (eC (.int 1)) (eBin dAdd (eBor (eBin dIx (eV 0) (eC (.int 1)))) (eC (.int 1)))) (sSeq (sPutL 0 (eC (.int 2)) (eC (.int 0))) (sSeq (sIf (tV (eBin dGe (eV 3) (eBin dPow (eC (.int 10)) (eC (.int 18))))) (sSeq (sPutL 0 (eC (.int 2)) (eBin dDiv (eV 3) (eV 1))) (sRetF (eBin dMod (eBI dInt (aCons (eV 3) (aNil))) (eV 1)))) (sNx)) (sSeq (sPutL 0 (eC (.int 3)) (eBin dMod (eBI dInt (aCons (eBin dAdd (eBin dAdd (eBin dMul (eBor (eBin dIx (eV 0) (eC (.int 3)))) (eC (.int 48271))) (eBin dMul (eV 3) (eC (.int 69621)))) (eBin dMul (eBor (eBin dIx (eV 0) (eC (.int 1)))) (eC (.int 911)))) (aNil))) (eC (.int 2147483647)))) (sSeq (sPutL 0 (eC (.int 3)) (eBin dMod (eBI dInt (aCons (eBin dAdd (eBin dMul (eBor (eBin dIx (eV 0) (eC (.int 3)))) (eC (.int 48271))) (eC (.int 12345))) (aNil))) (eC (.int 2147483647)))) (sRetF (eBin dMod (eBI dInt (aCons (eBin dDiv (eBor (eBin dIx (eV 0) (eC (.int 3)))) (eC (.int 64))) (aNil))) (eV 1))))))))))
def m_Ldraw : Fn := fnD 4 2 [true, false] g_Ldraw
theorem sc_Ldraw : FnScope ["_law_deck_here", "_law_most", "_law_value", "_law_cell"] ["_law_deck_here", "_law_most"] (defScope s_Ldraw) := ⟨rfl, rfl, rfl, by decide +kernel, rfl, by decide +kernel, by decide +kernel⟩
theorem cal_Ldraw {f : Addr} {fd : FuncData} (FN : Fun K "_law_draw" "_law_draw" s_Ldraw f fd) (hm : mg "_law_draw" = some (.ref f)) (hb : Binds K fd ["_law_deck_here", "_law_most"] []) (T : Txt K mg) : Cal P w K mg base 1 "_law_draw" 2 m_Ldraw := by
  exact (def_cal (g := g_Ldraw) (keep := [true, false]) FN hm hb sc_Ldraw rfl (by decide) (fun cdv A outer s H E hr => ⟨_, by
  have sc := sc_Ldraw
  have hu := hu_of hr
  exact (sss_cons (ss_if (st_bor (st_cmp op_ge o_ge (se_ixK K (se_v 0) se_int) (se_v 1))) (sss_cons (ss_set 2 sc.nd (se_op op_modN o_mod (se_bor (se_callTy call_int1 o_int rfl T.n_int (by decide +kernel) (sa_cons (se_ixK K (se_v 0) se_int) sa_nil))) (se_v 1))) (sss_cons (ss_putL 0 se_int (se_op op_fdivN o_div (se_bor (se_ixK K (se_v 0) se_int)) (se_v 1))) (sss_one (ss_retF (se_v 2))))) sss_nil) (sss_cons (ss_set 3 sc.nd se_int) (sss_cons (ss_if (st_bor (st_cmp op_lt o_lt (se_ixK K (se_v 0) se_int) (se_callB call_len o_len rfl T.n_len (by decide +kernel) (sa_cons (se_ixK K (se_v 0) se_int) sa_nil)))) (sss_one (ss_set 3 sc.nd (se_bor (se_ixK K (se_ixK K (se_v 0) se_int) (se_ixK K (se_v 0) se_int))))) sss_nil) (sss_cons (ss_putL 0 se_int (se_op op_addA o_add (se_bor (se_ixK K (se_v 0) se_int)) se_int)) (sss_cons (ss_putL 0 se_int se_int) (sss_cons (ss_if (st_cmp op_ge o_ge (se_v 3) (se_op op_pow o_pow se_int se_int)) (sss_cons (ss_putL 0 se_int (se_op op_fdivN o_div (se_v 3) (se_v 1))) (sss_one (ss_retF (se_op op_modN o_mod (se_callTy call_int1 o_int rfl T.n_int (by decide +kernel) (sa_cons (se_v 3) sa_nil)) (se_v 1))))) sss_nil) (sss_cons (ss_putL 0 se_int (se_op op_modN o_mod (se_callTy call_int1 o_int rfl T.n_int (by decide +kernel) (sa_cons (se_op op_addA o_add (se_op op_addA o_add (se_op op_mul o_mul (se_bor (se_ixK K (se_v 0) se_int)) se_int) (se_op op_mul o_mul (se_v 3) se_int)) (se_op op_mul o_mul (se_bor (se_ixK K (se_v 0) se_int)) se_int)) sa_nil)) se_int)) (sss_cons (ss_putL 0 se_int (se_op op_modN o_mod (se_callTy call_int1 o_int rfl T.n_int (by decide +kernel) (sa_cons (se_op op_addA o_add (se_op op_mul o_mul (se_bor (se_ixK K (se_v 0) se_int)) se_int) se_int) sa_nil)) se_int)) (sss_one (ss_retF (se_op op_modN o_mod (se_callTy call_int1 o_int rfl T.n_int (by decide +kernel) (sa_cons (se_op op_fdivN o_div (se_bor (se_ixK K (se_v 0) se_int)) se_int) sa_nil)) (se_v 1))))))))))))⟩))
/-! ### _law_pixels -/
abbrev s_Lpixels : Stmt := top 13
def g_Lpixels : M Fl := sSeq (sAsg (gN 1) (eLst (aNil))) (sSeq (sAsg (gN 2) (eBin dSub (eCall m_Ldraw [some 0, none] (aCons (eL 0) (aConsF (eC (.int 40)) (aNil)))) (eC (.int 20)))) (sSeq (sAsg (gN 3) (eBin dSub (eCall m_Ldraw [some 0, none] (aCons (eL 0) (aConsF (eC (.int 40)) (aNil)))) (eC (.int 20)))) (sSeq (sFor (iR1 (aCons (eCall m_Ldraw [some 0, none] (aCons (eL 0) (aConsF (eC (.int 13)) (aNil)))) (aNil))) (gN 4) (sSeq (sAsg (gN 5) (eTup (aConsF (eBin dAdd (eV 2) (eCall m_Ldraw [some 0, none] (aCons (eL 0) (aConsF (eC (.int 7)) (aNil))))) (aConsF (eBin dAdd (eV 3) (eCall m_Ldraw [some 0, none] (aCons (eL 0) (aConsF (eC (.int 7)) (aNil))))) (aNil))))) (sFrz 5 (sIf (tBor (tV (eBin dNotIn (eV 5) (eV 1)))) (sDrop (eApp 1 (eFz (eV 5)))) (sNx))))) (sFrz 1 (sRetF (eBI dSorted (aCons (eV 1) (aNil))))))))
def m_Lpixels : Fn := fnD 6 1 [true] g_Lpixels
theorem sc_Lpixels : FnScope ["_law_deck_here", "_law_found", "_law_x", "_law_y", "_law_k", "_law_pixel"] ["_law_deck_here"] (defScope s_Lpixels) := ⟨rfl, rfl, rfl, by decide +kernel, rfl, by decide +kernel, by decide +kernel⟩
theorem cal_Lpixels {f : Addr} {fd : FuncData} (FN : Fun K "_law_pixels" "_law_pixels" s_Lpixels f fd) (hm : mg "_law_pixels" = some (.ref f)) (hb : Binds K fd ["_law_deck_here"] []) (T : Txt K mg) (C_Ldraw : Cal P w K mg base 1 "_law_draw" 2 m_Ldraw) : Cal P w K mg base 2 "_law_pixels" 1 m_Lpixels := by
  exact (def_cal (g := g_Lpixels) (keep := [true]) FN hm hb sc_Lpixels rfl (by decide) (fun cdv A outer s H E hr => ⟨_, by
  have sc := sc_Lpixels
  have hu := hu_of hr
  exact (sss_cons (ss_set 1 sc.nd (se_lst sa_nil)) (sss_cons (ss_set 2 sc.nd (se_op op_sub o_sub (se_callCK C_Ldraw (hr.mono (by decide)) rfl (takes_of rfl rfl rfl rfl) (sa_lend 0 (sa_consF se_int sa_nil)) (aCons_len (aConsF_len (fun _ _ _ => aNil_len)))) se_int)) (sss_cons (ss_set 3 sc.nd (se_op op_sub o_sub (se_callCK C_Ldraw (hr.mono (by decide)) rfl (takes_of rfl rfl rfl rfl) (sa_lend 0 (sa_consF se_int sa_nil)) (aCons_len (aConsF_len (fun _ _ _ => aNil_len)))) se_int)) (sss_cons (ss_for (passes_of rfl) rfl (si_range1 rfl T.n_range (sa_cons (se_callCK C_Ldraw (hr.mono (by decide)) rfl (takes_of rfl rfl rfl rfl) (sa_lend 0 (sa_consF se_int sa_nil)) (aCons_len (aConsF_len (fun _ _ _ => aNil_len)))) sa_nil)) (sg_name 4 sc.nd) (sss_cons (ss_set 5 sc.nd (se_tup (sa_consF (se_op op_addA o_add (se_v 2) (se_callCK C_Ldraw (hr.mono (by decide)) rfl (takes_of rfl rfl rfl rfl) (sa_lend 0 (sa_consF se_int sa_nil)) (aCons_len (aConsF_len (fun _ _ _ => aNil_len))))) (sa_consF (se_op op_addA o_add (se_v 3) (se_callCK C_Ldraw (hr.mono (by decide)) rfl (takes_of rfl rfl rfl rfl) (sa_lend 0 (sa_consF se_int sa_nil)) (aCons_len (aConsF_len (fun _ _ _ => aNil_len))))) sa_nil)))) (sss_frz (i := 5) (sss_one (ss_if (st_bor (st_cmp (op_notInDK K hr.un65) o_notin (se_v 5) (se_v 1))) (sss_one (ss_expr (se_appF 1 (se_v 5)))) sss_nil))))) (sss_frz (i := 1) (sss_one (ss_retF (se_callB (cr_sortP hr.units) o_sortP rfl T.n_sorted (by decide +kernel) (sa_cons (se_v 1) sa_nil)))))))))⟩))
/-! ### picture -/
abbrev s_picture : Stmt := top 7
def g_picture : M Fl := sSeq (sIf (tV (eBin dEq (eBI dLen (aCons (eV 0) (aNil))) (eC (.int 0)))) (sRetF (eLst (aNil))) (sNx)) (sSeq (sAsg (gN 1) (eBI dMin (aCons (eLc [9] (iLs (eV 0)) (gN 9) (tYes') (eFz (eBin dIx (eV 9) (eC (.int 0))))) (aNil)))) (sSeq (sAsg (gN 2) (eBI dMax (aCons (eLc [9] (iLs (eV 0)) (gN 9) (tYes') (eFz (eBin dIx (eV 9) (eC (.int 0))))) (aNil)))) (sSeq (sAsg (gN 3) (eBI dMin (aCons (eLc [9] (iLs (eV 0)) (gN 9) (tYes') (eFz (eBin dIx (eV 9) (eC (.int 1))))) (aNil)))) (sSeq (sAsg (gN 4) (eBI dMax (aCons (eLc [9] (iLs (eV 0)) (gN 9) (tYes') (eFz (eBin dIx (eV 9) (eC (.int 1))))) (aNil)))) (sSeq (sIf (tOr' (tV (eBin dGe (eBin dSub (eV 2) (eV 1)) (eC (.int 1000)))) (tV (eBin dGe (eBin dSub (eV 4) (eV 3)) (eC (.int 1000))))) (sRaiseI "TooLarge" "limit" (eC (.str "picture"))) (sNx)) (sSeq (sAsg (gN 5) (eDcT [9] (iLs (eV 0)) (gN 9) tYes' (eV 9) (eC (.bl true)))) (sFrz 5 (sSeq (sAsg (gN 6) (eLst (aNil))) (sSeq (sFor (iRR (eV 3) (eBin dAdd (eV 4) (eC (.int 1)))) (gN 7) (sSeq (sAsg (gN 8) (eLc [10] (iR2 (aCons (eV 1) (aCons (eBin dAdd (eV 2) (eC (.int 1))) (aNil)))) (gN 10) (tYes') (eFz (eIf (tV (eDIn false 5 (eTup (aConsF (eV 10) (aConsF (eV 7) (aNil)))))) (eC (.str "#")) (eC (.str ".")))))) (sFrz 8 (sDrop (eApp 6 (eFz (eUn (dJoin "") (eV 8)))))))) (sFrz 6 (sRetF (eV 6))))))))))))
def m_picture : Fn := fnD 11 1 [false] g_picture
theorem sc_picture : FnScope ["pixels", "left", "right", "low", "high", "black", "found", "row", "signs", "pixel", "column"] ["pixels"] (defScope s_picture) := ⟨rfl, rfl, rfl, by decide +kernel, rfl, by decide +kernel, by decide +kernel⟩
theorem cal_picture {f : Addr} {fd : FuncData} (FN : Fun K "picture" "picture" s_picture f fd) (hm : mg "picture" = some (.ref f)) (hb : Binds K fd ["pixels"] []) (T : Txt K mg) : Cal P w K mg base 3 "picture" 1 m_picture := by
  obtain ⟨C_TooLarge, fI_TooLarge, fd_TooLarge, m_TooLarge, O_TooLarge, i_TooLarge, t_TooLarge, FI_TooLarge, b_TooLarge, nf_TooLarge, e_TooLarge⟩ := T.x_TooLarge.ex
  have F_TooLarge := init_TooLarge (P := P) (w := w) (base := base) (mg := mg) (k := 0) FI_TooLarge O_TooLarge nf_TooLarge
  exact (def_cal (g := g_picture) (keep := [false]) FN hm hb sc_picture rfl (by decide) (fun cdv A outer s H E hr => ⟨_, by
  have sc := sc_picture
  have hu := hu_of hr
  exact (sss_cons (ss_if (st_cmp (op_eqDK K hr.units) o_eq (se_callB call_len o_len rfl T.n_len (by decide +kernel) (sa_cons (se_v 0) sa_nil)) se_int) (sss_one (ss_retF (se_lst sa_nil))) sss_nil) (sss_cons (ss_set 1 sc.nd (se_callB (cr_min rfl) o_min rfl T.n_min (by decide +kernel) (sa_cons (se_lc (own := [("pixel", 9)]) (gs := [9]) rfl sc.nd (si_listD (se_v 0)) (blkOk_by (own := [("pixel", 9)]) (N := ["pixels", "left", "right", "low", "high", "black", "found", "row", "signs", "pixel", "column"]) (sc := defScope s_picture) (by decide +kernel)) (fun _ _ _ _ _ => (sg_name 9 sc.nd)) (fun _ _ _ _ _ => sts_nil) (fun _ _ _ _ _ => (se_fz (se_ixK K (se_v 9) se_int))) (by decide)) sa_nil))) (sss_cons (ss_set 2 sc.nd (se_callB (cr_max rfl) o_max rfl T.n_max (by decide +kernel) (sa_cons (se_lc (own := [("pixel", 9)]) (gs := [9]) rfl sc.nd (si_listD (se_v 0)) (blkOk_by (own := [("pixel", 9)]) (N := ["pixels", "left", "right", "low", "high", "black", "found", "row", "signs", "pixel", "column"]) (sc := defScope s_picture) (by decide +kernel)) (fun _ _ _ _ _ => (sg_name 9 sc.nd)) (fun _ _ _ _ _ => sts_nil) (fun _ _ _ _ _ => (se_fz (se_ixK K (se_v 9) se_int))) (by decide)) sa_nil))) (sss_cons (ss_set 3 sc.nd (se_callB (cr_min rfl) o_min rfl T.n_min (by decide +kernel) (sa_cons (se_lc (own := [("pixel", 9)]) (gs := [9]) rfl sc.nd (si_listD (se_v 0)) (blkOk_by (own := [("pixel", 9)]) (N := ["pixels", "left", "right", "low", "high", "black", "found", "row", "signs", "pixel", "column"]) (sc := defScope s_picture) (by decide +kernel)) (fun _ _ _ _ _ => (sg_name 9 sc.nd)) (fun _ _ _ _ _ => sts_nil) (fun _ _ _ _ _ => (se_fz (se_ixK K (se_v 9) se_int))) (by decide)) sa_nil))) (sss_cons (ss_set 4 sc.nd (se_callB (cr_max rfl) o_max rfl T.n_max (by decide +kernel) (sa_cons (se_lc (own := [("pixel", 9)]) (gs := [9]) rfl sc.nd (si_listD (se_v 0)) (blkOk_by (own := [("pixel", 9)]) (N := ["pixels", "left", "right", "low", "high", "black", "found", "row", "signs", "pixel", "column"]) (sc := defScope s_picture) (by decide +kernel)) (fun _ _ _ _ _ => (sg_name 9 sc.nd)) (fun _ _ _ _ _ => sts_nil) (fun _ _ _ _ _ => (se_fz (se_ixK K (se_v 9) se_int))) (by decide)) sa_nil))) (sss_cons (ss_if (SW.st (sw_or (st_cmp op_ge o_ge (se_op op_sub o_sub (se_v 2) (se_v 1)) (se_glob (v := .int 1000) (d := .int 1000) rfl T.c_MOST_ROWS.choose_spec ⟨_, rfl⟩ (fun _ _ => ownI _))) (sw_or1 (st_cmp op_ge o_ge (se_op op_sub o_sub (se_v 4) (se_v 3)) (se_glob (v := .int 1000) (d := .int 1000) rfl T.c_MOST_ROWS.choose_spec ⟨_, rfl⟩ (fun _ _ => ownI _)))))) (sss_one (ss_raiseI (prm := "limit") rfl (takes_of rfl rfl rfl rfl) O_TooLarge i_TooLarge t_TooLarge F_TooLarge (hr.mono (by decide)) b_TooLarge rfl m_TooLarge se_str)) sss_nil) (sss_cons (ss_set 5 sc.nd (se_dcT (own := [("pixel", 9)]) (gs := [9]) hu rfl sc.nd (si_listD (se_v 0)) (blkOk_by (own := [("pixel", 9)]) (N := ["pixels", "left", "right", "low", "high", "black", "found", "row", "signs", "pixel", "column"]) (sc := defScope s_picture) (by decide +kernel)) (fun _ _ _ _ _ => (sg_name 9 sc.nd)) (fun _ _ _ _ _ => sts_nil) (fun _ _ _ _ _ => (se_v 9)) (fun _ _ _ _ _ => se_bl) (by decide))) (sss_frz (i := 5) (sss_cons (ss_set 6 sc.nd (se_lst sa_nil)) (sss_cons (ss_for (passes_of rfl) rfl (si_revr rfl T.n_reversed rfl T.n_range (se_v 3) (se_op op_addA o_add (se_v 4) se_int)) (sg_name 7 sc.nd) (sss_cons (ss_setLc (own := [("column", 10)]) (gs := [10]) 8 rfl sc.nd (sw_true rfl rfl rfl (by decide +kernel)) (si_range2 rfl T.n_range (sa_cons (se_v 1) (sa_cons (se_op op_addA o_add (se_v 2) se_int) sa_nil))) (blkOk_by (own := [("column", 10)]) (N := ["pixels", "left", "right", "low", "high", "black", "found", "row", "signs", "pixel", "column"]) (sc := defScope s_picture) (by decide +kernel)) (fun _ _ _ _ _ => (sg_name 10 sc.nd)) (fun _ _ _ _ _ => sts_nil) (fun _ _ _ _ _ => (se_fz (se_ifExp (st_din 5 hu (se_tup (sa_consF (se_v 10) (sa_consF (se_v 7) sa_nil)))) se_str se_str))) (by decide)) (sss_frz (i := 8) (sss_one (ss_expr (se_appF 6 (se_join (se_v 8)))))))) (sss_frz (i := 6) (sss_one (ss_retF (se_v 6))))))))))))))⟩))
/-! ### _law_same -/
abbrev s_Lsame : Stmt := top 11
def g_Lsame (m : Fn) : M Fl := sSeq (sIf (tV (eUn (dIsi "tuple") (eV 1))) (sSeq (sIf (tOr' (tNot' (tV (eUn (dIsi "tuple") (eV 0)))) (tV (eBin dNe (eBI dLen (aCons (eV 0) (aNil))) (eBI dLen (aCons (eV 1) (aNil)))))) (sRet (eC (.bl false))) (sNx)) (sSeq (sFor (iR1 (aCons (eBI dLen (aCons (eV 1) (aNil))) (aNil))) (gN 2) (sIf (tNot' (tV (eCall (m) [none, none] (aConsF (eBin dIx (eV 0) (eV 2)) (aConsF (eBin dIx (eV 1) (eV 2)) (aNil)))))) (sRet (eC (.bl false))) (sNx))) (sRet (eC (.bl true))))) (sNx)) (sSeq (sIf (tOr' (tV (eUn (dIsi "bool") (eV 1))) (tV (eUn (dIsi "bool") (eV 0)))) (sRetF (eAnd (eUn (dIsi "bool") (eV 1)) (eAnd (eUn (dIsi "bool") (eV 0)) (eBin dEq (eV 1) (eV 0))))) (sNx)) (sSeq (sIf (tV (eUn (dIsi "int") (eV 1))) (sRetF (eAnd (eUn (dIsi "int") (eV 0)) (eBin dEq (eV 0) (eV 1)))) (sNx)) (sSeq (sIf (tV (eUn (dIsi "str") (eV 1))) (sRetF (eAnd (eUn (dIsi "str") (eV 0)) (eBin dEq (eV 0) (eV 1)))) (sNx)) (sRetF (eAnd (eBin dIsN (eV 1) (eC .non)) (eBin dIsN (eV 0) (eC .non)))))))
def m_Lsame : Nat → Fn
  | 0 => fun _ => .bad
  | k + 1 => fnD 3 2 [false, false] (g_Lsame (m_Lsame k))
theorem sc_Lsame : FnScope ["_law_actual", "_law_due", "_law_k"] ["_law_actual", "_law_due"] (defScope s_Lsame) := ⟨rfl, rfl, rfl, by decide +kernel, rfl, by decide +kernel, by decide +kernel⟩
theorem cal_Lsame {f : Addr} {fd : FuncData} (FN : Fun K "_law_same" "_law_same" s_Lsame f fd) (hm : mg "_law_same" = some (.ref f)) (hb : Binds K fd ["_law_actual", "_law_due"] []) (T : Txt K mg) : ∀ k : Nat, Cal P w K mg base (1 + k) "_law_same" 2 (m_Lsame k)
  | 0 => bad_cal FN hm hb
  | k + 1 => by
    have C_Lsame := cal_Lsame FN hm hb T k
    exact (def_cal (g := g_Lsame (m_Lsame k)) (keep := [false, false]) FN hm hb sc_Lsame rfl (by decide) (fun cdv A outer s H E hr => ⟨_, by
  have sc := sc_Lsame
  have hu := hu_of hr
  exact (sss_cons (ss_if (st_val (se_isi (Tn := "tuple") rfl T.n_isinstance rfl T.n_tuple (by decide +kernel) (se_v 1))) (sss_cons (ss_if (SW.st (sw_or (st_not (st_val (se_isi (Tn := "tuple") rfl T.n_isinstance rfl T.n_tuple (by decide +kernel) (se_v 0)))) (sw_or1 (st_cmp (op_neDK K hr.units) o_ne (se_callB call_len o_len rfl T.n_len (by decide +kernel) (sa_cons (se_v 0) sa_nil)) (se_callB call_len o_len rfl T.n_len (by decide +kernel) (sa_cons (se_v 1) sa_nil)))))) (sss_one (ss_ret se_bl)) sss_nil) (sss_cons (ss_for (passes_of rfl) rfl (si_range1 rfl T.n_range (sa_cons (se_callB call_len o_len rfl T.n_len (by decide +kernel) (sa_cons (se_v 1) sa_nil)) sa_nil)) (sg_name 2 sc.nd) (sss_one (ss_if (st_not (st_val (se_callCK C_Lsame (hr.mono (by first | exact Nat.le_refl _ | (simp only [Nat.add_eq]; omega))) rfl (takes_of rfl rfl rfl rfl) (sa_consF (se_ixK K (se_v 0) (se_v 2)) (sa_consF (se_ixK K (se_v 1) (se_v 2)) sa_nil)) (aConsF_len (aConsF_len (fun _ _ _ => aNil_len)))))) (sss_one (ss_ret se_bl)) sss_nil))) (sss_one (ss_ret se_bl)))) sss_nil) (sss_cons (ss_if (SW.st (sw_or (st_val (se_isi (Tn := "bool") rfl T.n_isinstance rfl T.n_bool (by decide +kernel) (se_v 1))) (sw_or1 (st_val (se_isi (Tn := "bool") rfl T.n_isinstance rfl T.n_bool (by decide +kernel) (se_v 0)))))) (sss_one (ss_retF (se_and (se_isi (Tn := "bool") rfl T.n_isinstance rfl T.n_bool (by decide +kernel) (se_v 1)) (se_and (se_isi (Tn := "bool") rfl T.n_isinstance rfl T.n_bool (by decide +kernel) (se_v 0)) (se_one (se_cmp (op_eqDK K hr.units) o_eq (se_v 1) (se_v 0))))))) sss_nil) (sss_cons (ss_if (st_val (se_isi (Tn := "int") rfl T.n_isinstance rfl T.n_int (by decide +kernel) (se_v 1))) (sss_one (ss_retF (se_and (se_isi (Tn := "int") rfl T.n_isinstance rfl T.n_int (by decide +kernel) (se_v 0)) (se_one (se_cmp (op_eqDK K hr.units) o_eq (se_v 0) (se_v 1)))))) sss_nil) (sss_cons (ss_if (st_val (se_isi (Tn := "str") rfl T.n_isinstance rfl T.n_str (by decide +kernel) (se_v 1))) (sss_one (ss_retF (se_and (se_isi (Tn := "str") rfl T.n_isinstance rfl T.n_str (by decide +kernel) (se_v 0)) (se_one (se_cmp (op_eqDK K hr.units) o_eq (se_v 0) (se_v 1)))))) sss_nil) (sss_one (ss_retF (se_and (se_cmp op_isN o_isN (se_v 1) se_non) (se_one (se_cmp op_isN o_isN (se_v 0) se_non)))))))))⟩))
/-! ### _law_same_list -/
abbrev s_Lsame_list : Stmt := top 12
def g_Lsame_list : M Fl := sSeq (sIf (tOr' (tNot' (tV (eUn (dIsi "list") (eV 0)))) (tV (eBin dNe (eBI dLen (aCons (eV 0) (aNil))) (eBI dLen (aCons (eV 1) (aNil)))))) (sRet (eC (.bl false))) (sNx)) (sSeq (sFor (iR1 (aCons (eBI dLen (aCons (eV 1) (aNil))) (aNil))) (gN 2) (sIf (tNot' (tV (eCall (m_Lsame 2) [none, none] (aConsF (eBin dIx (eV 0) (eV 2)) (aConsF (eBin dIx (eV 1) (eV 2)) (aNil)))))) (sRet (eC (.bl false))) (sNx))) (sRet (eC (.bl true))))
def m_Lsame_list : Fn := fnD 3 2 [false, false] g_Lsame_list
theorem sc_Lsame_list : FnScope ["_law_actual", "_law_due", "_law_k"] ["_law_actual", "_law_due"] (defScope s_Lsame_list) := ⟨rfl, rfl, rfl, by decide +kernel, rfl, by decide +kernel, by decide +kernel⟩
theorem cal_Lsame_list {f : Addr} {fd : FuncData} (FN : Fun K "_law_same_list" "_law_same_list" s_Lsame_list f fd) (hm : mg "_law_same_list" = some (.ref f)) (hb : Binds K fd ["_law_actual", "_law_due"] []) (T : Txt K mg) (C_Lsame : Cal P w K mg base 3 "_law_same" 2 (m_Lsame 2)) : Cal P w K mg base 4 "_law_same_list" 2 m_Lsame_list := by
  exact (def_cal (g := g_Lsame_list) (keep := [false, false]) FN hm hb sc_Lsame_list rfl (by decide) (fun cdv A outer s H E hr => ⟨_, by
  have sc := sc_Lsame_list
  have hu := hu_of hr
  exact (sss_cons (ss_if (SW.st (sw_or (st_not (st_val (se_isi (Tn := "list") rfl T.n_isinstance rfl T.n_list (by decide +kernel) (se_v 0)))) (sw_or1 (st_cmp (op_neDK K hr.units) o_ne (se_callB call_len o_len rfl T.n_len (by decide +kernel) (sa_cons (se_v 0) sa_nil)) (se_callB call_len o_len rfl T.n_len (by decide +kernel) (sa_cons (se_v 1) sa_nil)))))) (sss_one (ss_ret se_bl)) sss_nil) (sss_cons (ss_for (passes_of rfl) rfl (si_range1 rfl T.n_range (sa_cons (se_callB call_len o_len rfl T.n_len (by decide +kernel) (sa_cons (se_v 1) sa_nil)) sa_nil)) (sg_name 2 sc.nd) (sss_one (ss_if (st_not (st_val (se_callCK C_Lsame (hr.mono (by decide)) rfl (takes_of rfl rfl rfl rfl) (sa_consF (se_ixK K (se_v 0) (se_v 2)) (sa_consF (se_ixK K (se_v 1) (se_v 2)) sa_nil)) (aConsF_len (aConsF_len (fun _ _ _ => aNil_len)))))) (sss_one (ss_ret se_bl)) sss_nil))) (sss_one (ss_ret se_bl))))⟩))
/-! ### _law_refused -/
abbrev s_Lrefused : Stmt := top 14
def g_Lrefused : M Fl := sSeq (sTryC "TooLarge" true (sDrop (eCall m_picture [none] (aConsF (eV 0) (aNil))))) (sRet (eC (.bl false)))
def m_Lrefused : Fn := fnD 2 1 [false] g_Lrefused
theorem sc_Lrefused : FnScope ["_law_pixels_here", "e"] ["_law_pixels_here"] (defScope s_Lrefused) := ⟨rfl, rfl, rfl, by decide +kernel, rfl, by decide +kernel, by decide +kernel⟩
theorem cal_Lrefused {f : Addr} {fd : FuncData} (FN : Fun K "_law_refused" "_law_refused" s_Lrefused f fd) (hm : mg "_law_refused" = some (.ref f)) (hb : Binds K fd ["_law_pixels_here"] []) (T : Txt K mg) (C_picture : Cal P w K mg base 3 "picture" 1 m_picture) : Cal P w K mg base 4 "_law_refused" 1 m_Lrefused := by
  obtain ⟨C_TooLarge, fI_TooLarge, fd_TooLarge, m_TooLarge, O_TooLarge, i_TooLarge, t_TooLarge, FI_TooLarge, b_TooLarge, nf_TooLarge, e_TooLarge⟩ := T.x_TooLarge.ex
  have F_TooLarge := init_TooLarge (P := P) (w := w) (base := base) (mg := mg) (k := 0) FI_TooLarge O_TooLarge nf_TooLarge
  exact (def_cal (g := g_Lrefused) (keep := [false]) FN hm hb sc_Lrefused rfl (by decide) (fun cdv A outer s H E hr => ⟨_, by
  have sc := sc_Lrefused
  have hu := hu_of hr
  exact (sss_cons (ss_tryC (i := 1) (j := _) rfl rfl sc.nd rfl rfl ⟨rfl, by decide, .inl m_TooLarge⟩ m_TooLarge (takes_of rfl rfl rfl rfl) e_TooLarge rfl (fun W pn xe tk => (sss_one (ss_expr (se_callCK C_picture (hr.mono (by decide)) rfl tk (sa_consF (se_v 0) sa_nil) (aConsF_len (fun _ _ _ => aNil_len))))))) (sss_one (ss_ret se_bl)))⟩))
/-! ### law -/
abbrev s_law : Stmt := top 15
def g_law : M Fl := sSeq (sAsg (gN 1) (eCall m_Ldeck [none] (aConsF (eV 0) (aNil)))) (sSeq (sAsg (gN 2) (eCall m_Lpixels [some 1] (aCons (eL 1) (aNil)))) (sSeq (sAsg (gN 3) (eCall m_Lpixels [some 1] (aCons (eL 1) (aNil)))) (sSeq (sAsg (gN 4) (eLst (aConsF (eBI dList (aCons (eV 2) (aNil))) (aConsF (eBI dList (aCons (eV 3) (aNil))) (aNil))))) (sFrz 4 (sSeq (sAsg (gN 5) (eBin dSub (eCall m_Ldraw [some 1, none] (aCons (eL 1) (aConsF (eC (.int 90)) (aNil)))) (eC (.int 45)))) (sSeq (sAsg (gN 6) (eBin dSub (eCall m_Ldraw [some 1, none] (aCons (eL 1) (aConsF (eC (.int 90)) (aNil)))) (eC (.int 45)))) (sSeq (sIf (tNot' (tV (eCall m_Lsame_list [none, none] (aConsF (eCall m_moved_pixels [none, none, none] (aConsF (eV 2) (aConsF (eV 5) (aConsF (eV 6) (aNil))))) (aConsF (eLc [15] (iLs (eV 2)) (gN 15) (tYes') (eFz (eTup (aConsF (eBin dAdd (eBin dIx (eV 15) (eC (.int 0))) (eV 5)) (aConsF (eBin dAdd (eBin dIx (eV 15) (eC (.int 1))) (eV 6)) (aNil)))))) (aNil)))))) (sRet (eC (.bl false))) (sNx)) (sSeq (sAsg (gN 7) (eBI dSorted (aCons (eBin dAdd (eV 2) (eLc [15] (iLs (eV 3)) (gN 15) (tV (eBin dNotIn (eV 15) (eV 2))) (eFz (eV 15)))) (aNil)))) (sFrz 7 (sSeq (sIf (tNot' (tV (eCall m_Lsame_list [none, none] (aConsF (eCall m_joined [none, none] (aConsF (eV 2) (aConsF (eV 3) (aNil)))) (aConsF (eV 7) (aNil)))))) (sRet (eC (.bl false))) (sNx)) (sSeq (sAsg (gN 8) (eLst (aNil))) (sSeq (sIf (tV (eBin dNe (eV 7) (eLst (aNil)))) (sSeq (sAsg (gN 9) (eLc [15] (iLs (eV 7)) (gN 15) (tYes') (eFz (eBin dIx (eV 15) (eC (.int 0)))))) (sFrz 9 (sSeq (sAsg (gN 10) (eLc [15] (iLs (eV 7)) (gN 15) (tYes') (eFz (eBin dIx (eV 15) (eC (.int 1)))))) (sFrz 10 (sFor (iRR (eBI dMin (aCons (eV 10) (aNil))) (eBin dAdd (eBI dMax (aCons (eV 10) (aNil))) (eC (.int 1)))) (gN 11) (sSeq (sAsg (gN 12) (eC (.str ""))) (sSeq (sFor (iR2 (aCons (eBI dMin (aCons (eV 9) (aNil))) (aCons (eBin dAdd (eBI dMax (aCons (eV 9) (aNil))) (eC (.int 1))) (aNil)))) (gN 13) (sAsg (gN 12) (eBin dAdd (eV 12) (eBin dIx (eLst (aCons (eC (.str ".")) (aCons (eC (.str "#")) (aNil)))) (eBI dInt (aCons (eBin dIn (eTup (aConsF (eV 13) (aConsF (eV 11) (aNil)))) (eV 7)) (aNil))))))) (sDrop (eApp 8 (eFz (eV 12))))))))))) (sNx)) (sFrz 8 (sSeq (sIf (tOr' (tNot' (tV (eCall m_Lsame_list [none, none] (aConsF (eCall m_picture [none] (aConsF (eV 7) (aNil))) (aConsF (eV 8) (aNil)))))) (tV (eBin dNe (eLst (aConsF (eV 2) (aConsF (eV 3) (aNil)))) (eV 4)))) (sRet (eC (.bl false))) (sNx)) (sSeq (sAsg (gN 14) (eCall m_Ldraw [some 1, none] (aCons (eL 1) (aConsF (eC (.int 50)) (aNil))))) (sSeq (sIf (tOr' (tNot' (tV (eCall m_Lrefused [none] (aConsF (eLst (aConsF (eTup (aConsF (eV 14) (aCons (eC (.int 0)) (aNil)))) (aConsF (eTup (aConsF (eBin dAdd (eV 14) (eC (.int 1000))) (aCons (eC (.int 0)) (aNil)))) (aNil)))) (aNil))))) (tNot' (tV (eCall m_Lrefused [none] (aConsF (eLst (aConsF (eTup (aCons (eC (.int 0)) (aConsF (eV 14) (aNil)))) (aConsF (eTup (aCons (eC (.int 0)) (aConsF (eBin dAdd (eV 14) (eC (.int 1000))) (aNil)))) (aNil)))) (aNil)))))) (sRet (eC (.bl false))) (sNx)) (sRetF (eNot (eCall m_Lrefused [none] (aConsF (eLst (aConsF (eTup (aConsF (eV 14) (aCons (eC (.int 0)) (aNil)))) (aConsF (eTup (aConsF (eBin dAdd (eV 14) (eC (.int 999))) (aCons (eC (.int 0)) (aNil)))) (aNil)))) (aNil)))))))))))))))))))))
def m_law : Fn := fnD 16 1 [false] g_law
theorem sc_law : FnScope ["_law_script", "_law_deck_here", "_law_first", "_law_second", "_law_kept", "_law_m", "_law_n", "_law_both", "_law_due", "_law_across", "_law_along", "_law_row", "_law_text", "_law_column", "_law_x", "_law_p"] ["_law_script"] (defScope s_law) := ⟨rfl, rfl, rfl, by decide +kernel, rfl, by decide +kernel, by decide +kernel⟩
theorem cal_law {f : Addr} {fd : FuncData} (FN : Fun K "law" "law" s_law f fd) (T : Txt K mg) (C_Ldeck : Cal P w K mg base 1 "_law_deck" 1 m_Ldeck) (C_Lpixels : Cal P w K mg base 2 "_law_pixels" 1 m_Lpixels) (C_Ldraw : Cal P w K mg base 1 "_law_draw" 2 m_Ldraw) (C_moved_pixels : Cal P w K mg base 1 "moved_pixels" 3 m_moved_pixels) (C_Lsame_list : Cal P w K mg base 4 "_law_same_list" 2 m_Lsame_list) (C_joined : Cal P w K mg base 1 "joined" 2 m_joined) (C_picture : Cal P w K mg base 3 "picture" 1 m_picture) (C_Lrefused : Cal P w K mg base 4 "_law_refused" 1 m_Lrefused) : FnOk P w K mg base (L2.CX P w) 5 f fd ["_law_script"] (spOf K mg 1 m_law) := by
  exact (def_ok (g := g_law) (keep := [false]) FN sc_law rfl (by decide) (fun cdv A outer s H E hr => ⟨_, by
  have sc := sc_law
  have hu := hu_of hr
  exact (sss_cons (ss_set 1 sc.nd (se_callCK C_Ldeck (hr.mono (by decide)) rfl (takes_of rfl rfl rfl rfl) (sa_consF (se_v 0) sa_nil) (aConsF_len (fun _ _ _ => aNil_len)))) (sss_cons (ss_set 2 sc.nd (se_callCK C_Lpixels (hr.mono (by decide)) rfl (takes_of rfl rfl rfl rfl) (sa_lend 1 sa_nil) (aCons_len (fun _ _ _ => aNil_len)))) (sss_cons (ss_set 3 sc.nd (se_callCK C_Lpixels (hr.mono (by decide)) rfl (takes_of rfl rfl rfl rfl) (sa_lend 1 sa_nil) (aCons_len (fun _ _ _ => aNil_len)))) (sss_cons (ss_set 4 sc.nd (se_lst (sa_consF (se_callTy call_list_of o_list rfl T.n_list (by decide +kernel) (sa_cons (se_v 2) sa_nil)) (sa_consF (se_callTy call_list_of o_list rfl T.n_list (by decide +kernel) (sa_cons (se_v 3) sa_nil)) sa_nil)))) (sss_frz (i := 4) (sss_cons (ss_set 5 sc.nd (se_op op_sub o_sub (se_callCK C_Ldraw (hr.mono (by decide)) rfl (takes_of rfl rfl rfl rfl) (sa_lend 1 (sa_consF se_int sa_nil)) (aCons_len (aConsF_len (fun _ _ _ => aNil_len)))) se_int)) (sss_cons (ss_set 6 sc.nd (se_op op_sub o_sub (se_callCK C_Ldraw (hr.mono (by decide)) rfl (takes_of rfl rfl rfl rfl) (sa_lend 1 (sa_consF se_int sa_nil)) (aCons_len (aConsF_len (fun _ _ _ => aNil_len)))) se_int)) (sss_cons (ss_if (st_not (st_val (se_callCK C_Lsame_list (hr.mono (by decide)) rfl (takes_of rfl rfl rfl rfl) (sa_consF (se_callCK C_moved_pixels (hr.mono (by decide)) rfl (takes_of rfl rfl rfl rfl) (sa_consF (se_v 2) (sa_consF (se_v 5) (sa_consF (se_v 6) sa_nil))) (aConsF_len (aConsF_len (aConsF_len (fun _ _ _ => aNil_len))))) (sa_consF (se_lc (own := [("_law_p", 15)]) (gs := [15]) rfl sc.nd (si_listD (se_v 2)) (blkOk_by (own := [("_law_p", 15)]) (N := ["_law_script", "_law_deck_here", "_law_first", "_law_second", "_law_kept", "_law_m", "_law_n", "_law_both", "_law_due", "_law_across", "_law_along", "_law_row", "_law_text", "_law_column", "_law_x", "_law_p"]) (sc := defScope s_law) (by decide +kernel)) (fun _ _ _ _ _ => (sg_name 15 sc.nd)) (fun _ _ _ _ _ => sts_nil) (fun _ _ _ _ _ => (se_fz (se_tup (sa_consF (se_op op_addA o_add (se_ixK K (se_v 15) se_int) (se_v 5)) (sa_consF (se_op op_addA o_add (se_ixK K (se_v 15) se_int) (se_v 6)) sa_nil))))) (by decide)) sa_nil)) (aConsF_len (aConsF_len (fun _ _ _ => aNil_len)))))) (sss_one (ss_ret se_bl)) sss_nil) (sss_cons (ss_set 7 sc.nd (se_callB (cr_sortP hr.units) o_sortP rfl T.n_sorted (by decide +kernel) (sa_cons (se_op op_addA o_add (se_v 2) (se_lc (own := [("_law_p", 15)]) (gs := [15]) rfl sc.nd (si_listD (se_v 3)) (blkOk_by (own := [("_law_p", 15)]) (N := ["_law_script", "_law_deck_here", "_law_first", "_law_second", "_law_kept", "_law_m", "_law_n", "_law_both", "_law_due", "_law_across", "_law_along", "_law_row", "_law_text", "_law_column", "_law_x", "_law_p"]) (sc := defScope s_law) (by decide +kernel)) (fun _ _ _ _ _ => (sg_name 15 sc.nd)) (fun _ _ _ _ _ => (sts_one (st_cmp (op_notInDK K hr.un65) o_notin (se_v 15) (se_v 2)))) (fun _ _ _ _ _ => (se_fz (se_v 15))) (by decide))) sa_nil))) (sss_frz (i := 7) (sss_cons (ss_if (st_not (st_val (se_callCK C_Lsame_list (hr.mono (by decide)) rfl (takes_of rfl rfl rfl rfl) (sa_consF (se_callCK C_joined (hr.mono (by decide)) rfl (takes_of rfl rfl rfl rfl) (sa_consF (se_v 2) (sa_consF (se_v 3) sa_nil)) (aConsF_len (aConsF_len (fun _ _ _ => aNil_len)))) (sa_consF (se_v 7) sa_nil)) (aConsF_len (aConsF_len (fun _ _ _ => aNil_len)))))) (sss_one (ss_ret se_bl)) sss_nil) (sss_cons (ss_set 8 sc.nd (se_lst sa_nil)) (sss_cons (ss_if (st_cmp (op_neDK K hr.units) o_ne (se_v 7) (se_lst sa_nil)) (sss_cons (ss_setLc (own := [("_law_p", 15)]) (gs := [15]) 9 rfl sc.nd (sw_true rfl rfl rfl (by decide +kernel)) (si_listD (se_v 7)) (blkOk_by (own := [("_law_p", 15)]) (N := ["_law_script", "_law_deck_here", "_law_first", "_law_second", "_law_kept", "_law_m", "_law_n", "_law_both", "_law_due", "_law_across", "_law_along", "_law_row", "_law_text", "_law_column", "_law_x", "_law_p"]) (sc := defScope s_law) (by decide +kernel)) (fun _ _ _ _ _ => (sg_name 15 sc.nd)) (fun _ _ _ _ _ => sts_nil) (fun _ _ _ _ _ => (se_fz (se_ixK K (se_v 15) se_int))) (by decide)) (sss_frz (i := 9) (sss_cons (ss_setLc (own := [("_law_p", 15)]) (gs := [15]) 10 rfl sc.nd (sw_true rfl rfl rfl (by decide +kernel)) (si_listD (se_v 7)) (blkOk_by (own := [("_law_p", 15)]) (N := ["_law_script", "_law_deck_here", "_law_first", "_law_second", "_law_kept", "_law_m", "_law_n", "_law_both", "_law_due", "_law_across", "_law_along", "_law_row", "_law_text", "_law_column", "_law_x", "_law_p"]) (sc := defScope s_law) (by decide +kernel)) (fun _ _ _ _ _ => (sg_name 15 sc.nd)) (fun _ _ _ _ _ => sts_nil) (fun _ _ _ _ _ => (se_fz (se_ixK K (se_v 15) se_int))) (by decide)) (sss_frz (i := 10) (sss_one (ss_for (passes_of rfl) rfl (si_revr rfl T.n_reversed rfl T.n_range (se_callB (cr_min rfl) o_min rfl T.n_min (by decide +kernel) (sa_cons (se_v 10) sa_nil)) (se_op op_addA o_add (se_callB (cr_max rfl) o_max rfl T.n_max (by decide +kernel) (sa_cons (se_v 10) sa_nil)) se_int)) (sg_name 11 sc.nd) (sss_cons (ss_set 12 sc.nd se_str) (sss_cons (ss_for (passes_of rfl) rfl (si_range2 rfl T.n_range (sa_cons (se_callB (cr_min rfl) o_min rfl T.n_min (by decide +kernel) (sa_cons (se_v 9) sa_nil)) (sa_cons (se_op op_addA o_add (se_callB (cr_max rfl) o_max rfl T.n_max (by decide +kernel) (sa_cons (se_v 9) sa_nil)) se_int) sa_nil))) (sg_name 13 sc.nd) (sss_one (ss_set 12 sc.nd (se_op op_addA o_add (se_v 12) (se_ixK K (se_lst (sa_cons se_str (sa_cons se_str sa_nil))) (se_callTy call_int1 o_int rfl T.n_int (by decide +kernel) (sa_cons (se_cmp (op_inDK K hr.un65) o_in (se_tup (sa_consF (se_v 13) (sa_consF (se_v 11) sa_nil))) (se_v 7)) sa_nil))))))) (sss_one (ss_expr (se_appF 8 (se_v 12)))))))))))) sss_nil) (sss_frz (i := 8) (sss_cons (ss_if (SW.st (sw_or (st_not (st_val (se_callCK C_Lsame_list (hr.mono (by decide)) rfl (takes_of rfl rfl rfl rfl) (sa_consF (se_callCK C_picture (hr.mono (by decide)) rfl (takes_of rfl rfl rfl rfl) (sa_consF (se_v 7) sa_nil) (aConsF_len (fun _ _ _ => aNil_len))) (sa_consF (se_v 8) sa_nil)) (aConsF_len (aConsF_len (fun _ _ _ => aNil_len)))))) (sw_or1 (st_cmp (op_neDK K hr.units) o_ne (se_lst (sa_consF (se_v 2) (sa_consF (se_v 3) sa_nil))) (se_v 4))))) (sss_one (ss_ret se_bl)) sss_nil) (sss_cons (ss_set 14 sc.nd (se_callCK C_Ldraw (hr.mono (by decide)) rfl (takes_of rfl rfl rfl rfl) (sa_lend 1 (sa_consF se_int sa_nil)) (aCons_len (aConsF_len (fun _ _ _ => aNil_len))))) (sss_cons (ss_if (SW.st (sw_or (st_not (st_val (se_callCK C_Lrefused (hr.mono (by decide)) rfl (takes_of rfl rfl rfl rfl) (sa_consF (se_lst (sa_consF (se_tup (sa_consF (se_v 14) (sa_cons se_int sa_nil))) (sa_consF (se_tup (sa_consF (se_op op_addA o_add (se_v 14) se_int) (sa_cons se_int sa_nil))) sa_nil))) sa_nil) (aConsF_len (fun _ _ _ => aNil_len))))) (sw_or1 (st_not (st_val (se_callCK C_Lrefused (hr.mono (by decide)) rfl (takes_of rfl rfl rfl rfl) (sa_consF (se_lst (sa_consF (se_tup (sa_cons se_int (sa_consF (se_v 14) sa_nil))) (sa_consF (se_tup (sa_cons se_int (sa_consF (se_op op_addA o_add (se_v 14) se_int) sa_nil))) sa_nil))) sa_nil) (aConsF_len (fun _ _ _ => aNil_len)))))))) (sss_one (ss_ret se_bl)) sss_nil) (sss_one (ss_retF (se_not (se_callCK C_Lrefused (hr.mono (by decide)) rfl (takes_of rfl rfl rfl rfl) (sa_consF (se_lst (sa_consF (se_tup (sa_consF (se_v 14) (sa_cons se_int sa_nil))) (sa_consF (se_tup (sa_consF (se_op op_addA o_add (se_v 14) se_int) (sa_cons se_int sa_nil))) sa_nil))) sa_nil) (aConsF_len (fun _ _ _ => aNil_len)))))))))))))))))))))))⟩))
end
end Gen

set_option Elab.async false
set_option linter.all false
set_option maxRecDepth 100000
set_option maxHeartbeats 4000000
namespace Gen
open PySem L2 PyProof.Rows Dn
abbrev deckD (S : List Int) (p r s : Int) : D := .lst true [.lst false (S.map .int), .int p, .int r, .int s]
theorem pureL_int (S : List Int) : pureL (S.map .int) = true := by
  induction S with
  | nil => rfl
  | cons x S ih => simp [pureL, Dn.pure] at ih ⊢; exact ih
theorem stripL_int (S : List Int) : stripL (S.map .int) = S.map .int := by
  induction S with
  | nil => rfl
  | cons x S ih => simp [stripL, Dn.strip] at ih ⊢; exact ih
theorem ev_deck (S : List Int) : m_Ldeck [.scr (S.map .int)] = .ok (deckD S 0 0 7, [.un]) := by
  simp [m_Ldeck, g_Ldeck, deckD, m_Ldraw, fnD, g_Ldraw, sSeq, sIf, sRet, sRetF, sAsg, sPutL, sNx, sDrop, sFrz, tBor, eBor, tV, tNot', tOr', tAnd', tYes', eAnd, eNot, eIf, eUn, eBin, mbind, eLst, eTup, aConsF, aCons, aNil, eBI, eV, eL, eC, mret, mopt, dList, seqOf, Dn.listOf, tupOf, pureL_int, stripL_int, stripL, Dn.strip, keepL, Dn.pure, pureL, dGe, dLt, dIx, dMod, dDiv, dInt, dMul, dAdd, dSub, dPow, dLen, atI, ixN, asB, gN, isOwnL, flat]
theorem ev_draw1 (S : List Int) (p r s m : Int) (h : m ≤ r) (hm : 0 < m) (hm2 : m < 1000000) : m_Ldraw [deckD S p r s, .int m] = .ok (.int (r.fmod m), [deckD S p (r.fdiv m) s, .un]) := by
  have h1 : m ≠ 0 := by omega
  have h2 : m.natAbs < 1073741824 := by omega
  simp [deckD, m_Ldraw, fnD, g_Ldraw, sSeq, sIf, sRet, sRetF, sAsg, sPutL, sNx, sDrop, sFrz, tBor, eBor, tV, tNot', tOr', tAnd', tYes', eAnd, eNot, eIf, eUn, eBin, mbind, eLst, eTup, aConsF, aCons, aNil, eBI, eV, eL, eC, mret, mopt, dList, seqOf, Dn.listOf, tupOf, pureL_int, stripL_int, stripL, Dn.strip, keepL, Dn.pure, pureL, dGe, dLt, dIx, dMod, dDiv, dInt, dMul, dAdd, dSub, dPow, dLen, atI, ixN, asB, gN, isOwnL, flat, h, h1, h2]
/-- the cell at hand -/
def cellAt (S : List Int) (p : Int) : Int := if p < S.length then (S[p.toNat]?).getD 0 else 0
theorem fm_range {x m : Int} (hm : 0 < m) : 0 ≤ x.fmod m ∧ x.fmod m < m := by
  rw [Int.fmod_eq_emod_of_nonneg _ (by omega)]
  exact ⟨Int.emod_nonneg _ (by omega), Int.emod_lt_of_pos _ hm⟩
theorem ev_draw2 (S : List Int) (p r s m : Int) (h : r < m) (hp : 0 ≤ p) (hm : 0 < m) (hm2 : m < 1000000) : ∃ v p' r' s', m_Ldraw [deckD S p r s, .int m] = .ok (.int v, [deckD S p' r' s', .un]) ∧ 0 ≤ p' ∧ 0 ≤ v ∧ v < m := by
  have h1 : m ≠ 0 := by omega
  have h2 : m.natAbs < 1073741824 := by omega
  have h3 : ¬ m ≤ r := by omega
  have hp3 : 0 ≤ p + 1 := by omega
  by_cases hp2 : p < S.length
  · have hi : p.toNat < S.length := by omega
    by_cases hc : (1000000000000000000 : Int) ≤ S[p.toNat]
    · exact ⟨_, _, _, _, by simp [deckD, m_Ldraw, fnD, g_Ldraw, sSeq, sIf, sRet, sRetF, sAsg, sPutL, sNx, sDrop, sFrz, tBor, eBor, tV, tNot', tOr', tAnd', tYes', eAnd, eNot, eIf, eUn, eBin, mbind, eLst, eTup, aConsF, aCons, aNil, eBI, eV, eL, eC, mret, mopt, dList, seqOf, Dn.listOf, tupOf, pureL_int, stripL_int, stripL, Dn.strip, keepL, Dn.pure, pureL, dGe, dLt, dIx, dMod, dDiv, dInt, dMul, dAdd, dSub, dPow, dLen, atI, ixN, asB, gN, isOwnL, flat, h1, h2, h3, hp, hp2, hi, hc]; exact ⟨rfl, rfl, rfl⟩, hp3, fm_range hm⟩
    · exact ⟨_, _, _, _, by simp [deckD, m_Ldraw, fnD, g_Ldraw, sSeq, sIf, sRet, sRetF, sAsg, sPutL, sNx, sDrop, sFrz, tBor, eBor, tV, tNot', tOr', tAnd', tYes', eAnd, eNot, eIf, eUn, eBin, mbind, eLst, eTup, aConsF, aCons, aNil, eBI, eV, eL, eC, mret, mopt, dList, seqOf, Dn.listOf, tupOf, pureL_int, stripL_int, stripL, Dn.strip, keepL, Dn.pure, pureL, dGe, dLt, dIx, dMod, dDiv, dInt, dMul, dAdd, dSub, dPow, dLen, atI, ixN, asB, gN, isOwnL, flat, h1, h2, h3, hp, hp2, hi, hc]; exact ⟨rfl, rfl, rfl⟩, hp3, fm_range hm⟩
  · exact ⟨_, _, _, _, by simp [deckD, m_Ldraw, fnD, g_Ldraw, sSeq, sIf, sRet, sRetF, sAsg, sPutL, sNx, sDrop, sFrz, tBor, eBor, tV, tNot', tOr', tAnd', tYes', eAnd, eNot, eIf, eUn, eBin, mbind, eLst, eTup, aConsF, aCons, aNil, eBI, eV, eL, eC, mret, mopt, dList, seqOf, Dn.listOf, tupOf, pureL_int, stripL_int, stripL, Dn.strip, keepL, Dn.pure, pureL, dGe, dLt, dIx, dMod, dDiv, dInt, dMul, dAdd, dSub, dPow, dLen, atI, ixN, asB, gN, isOwnL, flat, h1, h2, h3, hp, hp2]; exact ⟨rfl, rfl, rfl⟩, hp3, fm_range hm⟩
theorem ev_draw (S : List Int) (p r s m : Int) (hp : 0 ≤ p) (hm : 0 < m) (hm2 : m < 1000000) : ∃ v p' r' s', m_Ldraw [deckD S p r s, .int m] = .ok (.int v, [deckD S p' r' s', .un]) ∧ 0 ≤ p' ∧ 0 ≤ v ∧ v < m := by
  by_cases h : m ≤ r
  · exact ⟨_, p, _, _, ev_draw1 S p r s m h hm hm2, hp, fm_range hm⟩
  · exact ev_draw2 S p r s m (by omega) hp hm hm2
/-! ### lists of pixels -/
theorem pureL_tp (P : List (Int × Int)) : pureL (P.map tp) = true := pure_tp P
theorem strip_tp (p : Int × Int) : Dn.strip (tp p) = tp p := by simp [tp, Dn.strip, stripL]
theorem pure_tp1 (p : Int × Int) : Dn.pure (tp p) = true := by simp [tp, Dn.pure, pureL]
theorem stripL_tp (P : List (Int × Int)) : stripL (P.map tp) = P.map tp := by
  induction P with
  | nil => rfl
  | cons x S ih => simp [stripL, strip_tp] at ih ⊢; exact ih
theorem stripL_tpc {α : Type} (f : α → Int × Int) (P : List α) : stripL (P.map (tp ∘ f)) = P.map (tp ∘ f) := by rw [← List.map_map]; exact stripL_tp _
def pyP (p : Int × Int) : PyData := .tuple [.int p.1, .int p.2]
theorem toPy_tp (p : Int × Int) : toPy (tp p) = some (pyP p) := by simp [tp, toPy, toPyL, pyP]
theorem toPyL_tp (P : List (Int × Int)) : toPyL (P.map tp) = some (P.map pyP) := by
  induction P with
  | nil => rfl
  | cons x S ih => simp [toPyL, toPy_tp, ih]
theorem pairsD_tp (P : List (Int × Int)) : pairsD (P.map tp) = some P := by
  induction P with
  | nil => rfl
  | cons x S ih => simp [pairsD, ih, tp, Dn.pairD]
theorem depthAll_pyP (P : List (Int × Int)) : PyData.depthAll (P.map pyP) ≤ 1 := by
  induction P with
  | nil => simp [PyData.depthAll]
  | cons x S ih => simp [PyData.depthAll, pyP, PyData.depth] at ih ⊢; omega
theorem canLay_pyP (P : List (Int × Int)) : PyData.canLayAll0 (P.map pyP) = true := by
  induction P with
  | nil => simp [PyData.canLayAll0]
  | cons x S ih => simp [PyData.canLayAll0, pyP, PyData.canLay0] at ih ⊢; exact ih
theorem shaped_pyP (p : Int × Int) : SeqAt.shaped (pyP p) = true := by simp [SeqAt.shaped, pyP, PyData.canLay0, PyData.canLayAll0, PyData.depth, PyData.depthAll]
theorem shaped_pyL (P : List (Int × Int)) : SeqAt.shaped (.list (P.map pyP)) = true := by
  have := depthAll_pyP P
  simp [SeqAt.shaped, PyData.canLay0, canLay_pyP, PyData.depth]; omega
theorem eqv_pyP (p q : Int × Int) : PyData.eqv (pyP p) (pyP q) = decide (p = q) := by
  simp [pyP, PyData.eqv, PyData.eqvAll]
  by_cases h : p = q
  · subst h; simp
  · simp [h]
    intro h1 h2
    exact h (Prod.ext h1 h2)
theorem tp_mk (x y : Int) : tp (x, y) = .tup [.int x, .int y] := rfl
theorem any_pyP (p : Int × Int) (P : List (Int × Int)) : ((P.map pyP).any fun z => PyData.eqv z (pyP p)) = decide (p ∈ P) := by
  induction P with
  | nil => simp
  | cons x S ih =>
    simp only [List.map_cons, List.any_cons, ih, eqv_pyP, List.mem_cons]
    by_cases h : x = p
    · subst h; simp
    · have h' : ¬ p = x := fun z => h z.symm
      simp [h, h']
theorem notin_tp (o : Bool) (p : Int × Int) (P : List (Int × Int)) : dNotIn (tp p) (.lst o (P.map tp)) = some (.bl (!decide (p ∈ P))) := by
  simp only [dNotIn, toPy_tp, toPy, toPyL_tp, shaped_pyP, shaped_pyL, any_pyP, Option.map_some, Bool.and_self, if_true]
theorem in_tp (o : Bool) (p : Int × Int) (P : List (Int × Int)) : dIn (tp p) (.lst o (P.map tp)) = some (.bl (decide (p ∈ P))) := by
  simp only [dIn, toPy_tp, toPy, toPyL_tp, shaped_pyP, shaped_pyL, any_pyP, Option.map_some, Bool.and_self, if_true]
theorem notin_tp' (o : Bool) (x y : Int) (P : List (Int × Int)) : dNotIn (.tup [.int x, .int y]) (.lst o (P.map tp)) = some (.bl (!decide ((x, y) ∈ P))) := notin_tp o (x, y) P
theorem in_tp' (o : Bool) (x y : Int) (P : List (Int × Int)) : dIn (.tup [.int x, .int y]) (.lst o (P.map tp)) = some (.bl (decide ((x, y) ∈ P))) := in_tp o (x, y) P
structure Box (a b : Int) (P : List (Int × Int)) : Prop where
  nd : P.Nodup
  x : ∀ q ∈ P, a ≤ q.1 ∧ q.1 ≤ a + 6
  y : ∀ q ∈ P, b ≤ q.2 ∧ q.2 ≤ b + 6
def bodyP : M Fl := (sSeq (sAsg (gN 5) (eTup (aConsF (eBin dAdd (eV 2) (eCall m_Ldraw [some 0, none] (aCons (eL 0) (aConsF (eC (.int 7)) (aNil))))) (aConsF (eBin dAdd (eV 3) (eCall m_Ldraw [some 0, none] (aCons (eL 0) (aConsF (eC (.int 7)) (aNil))))) (aNil))))) (sFrz 5 (sIf (tBor (tV (eBin dNotIn (eV 5) (eV 1)))) (sDrop (eApp 1 (eFz (eV 5)))) (sNx))))
theorem g_Lpixels_eq : g_Lpixels = sSeq (sAsg (gN 1) (eLst (aNil))) (sSeq (sAsg (gN 2) (eBin dSub (eCall m_Ldraw [some 0, none] (aCons (eL 0) (aConsF (eC (.int 40)) (aNil)))) (eC (.int 20)))) (sSeq (sAsg (gN 3) (eBin dSub (eCall m_Ldraw [some 0, none] (aCons (eL 0) (aConsF (eC (.int 40)) (aNil)))) (eC (.int 20)))) (sSeq (sFor (iR1 (aCons (eCall m_Ldraw [some 0, none] (aCons (eL 0) (aConsF (eC (.int 13)) (aNil)))) (aNil))) (gN 4) bodyP) (sFrz 1 (sRetF (eBI dSorted (aCons (eV 1) (aNil)))))))) := rfl
theorem ev_bodyP (S : List Int) (p r s a b : Int) (Q : List (Int × Int)) (d4 d5 k : D) (hp : 0 ≤ p) (B : Box a b Q) (hl : Q.length < 100000) : ∃ p' r' s' Q' d4' d5', forB (gN 4) bodyP k [deckD S p r s, .lst true (Q.map tp), .int a, .int b, d4, d5] = .ok (.nx, [deckD S p' r' s', .lst true (Q'.map tp), .int a, .int b, d4', d5']) ∧ 0 ≤ p' ∧ Box a b Q' ∧ Q'.length ≤ Q.length + 1 := by
  obtain ⟨v, p1, r1, s1, e1, hp1, v1, v2⟩ := ev_draw S p r s 7 hp (by omega) (by omega)
  obtain ⟨w, p2, r2, s2, e2, hp2, w1, w2⟩ := ev_draw S p1 r1 s1 7 hp1 (by omega) (by omega)
  by_cases h : (a + v, b + w) ∈ Q
  · refine ⟨p2, r2, s2, Q, k, tp (a + v, b + w), ?_, hp2, B, by omega⟩
    simp [forB, bodyP, fnD, sSeq, sIf, sRet, sRetF, sAsg, sPutL, sNx, sDrop, sFrz, tBor, eBor, tV, tNot', tOr', tAnd', tYes', eAnd, eNot, eIf, eUn, eBin, mbind, eLst, eTup, aConsF, aCons, aNil, eBI, eV, eL, eC, mret, mopt, dList, seqOf, Dn.listOf, tupOf, pureL_int, stripL_int, stripL, Dn.strip, keepL, Dn.pure, pureL, dGe, dLt, dIx, dMod, dDiv, dInt, dMul, dAdd, dSub, dPow, dLen, atI, ixN, asB, gN, isOwnL, flat, eCall, giveB, e1, e2, tp_mk, stripL_tp, pureL_tp, notin_tp', h]
  · refine ⟨p2, r2, s2, Q ++ [(a + v, b + w)], k, tp (a + v, b + w), ?_, hp2, ⟨?_, fun q hq => ?_, fun q hq => ?_⟩, by simp⟩
    · simp [forB, bodyP, fnD, sSeq, sIf, sRet, sRetF, sAsg, sPutL, sNx, sDrop, sFrz, tBor, eBor, tV, tNot', tOr', tAnd', tYes', eAnd, eNot, eIf, eUn, eBin, mbind, eLst, eTup, aConsF, aCons, aNil, eBI, eV, eL, eC, mret, mopt, dList, seqOf, Dn.listOf, tupOf, pureL_int, stripL_int, stripL, Dn.strip, keepL, Dn.pure, pureL, dGe, dLt, dIx, dMod, dDiv, dInt, dMul, dAdd, dSub, dPow, dLen, atI, ixN, asB, gN, isOwnL, flat, eCall, giveB, e1, e2, tp_mk, stripL_tp, pureL_tp, notin_tp', h, eApp, eFz, hl]
    · exact List.nodup_append.mpr ⟨B.nd, by simp, fun x hx y hy z => by rw [List.mem_singleton.mp hy] at z; exact h (z ▸ hx)⟩
    · rcases List.mem_append.mp hq with z | z
      · exact B.x q z
      · rw [List.mem_singleton.mp z]; simp; omega
    · rcases List.mem_append.mp hq with z | z
      · exact B.y q z
      · rw [List.mem_singleton.mp z]; simp; omega
theorem ev_loopP (S : List Int) (a b : Int) : ∀ (ks : List D) (p r s : Int) (Q : List (Int × Int)) (d4 d5 : D), 0 ≤ p → Box a b Q → Q.length + ks.length < 1000 → ∃ p' r' s' Q' d4' d5', loopD (forB (gN 4) bodyP) ks [deckD S p r s, .lst true (Q.map tp), .int a, .int b, d4, d5] = .ok (.nx, [deckD S p' r' s', .lst true (Q'.map tp), .int a, .int b, d4', d5']) ∧ 0 ≤ p' ∧ Box a b Q' ∧ Q'.length ≤ Q.length + ks.length
  | [], p, r, s, Q, d4, d5, hp, B, hl => ⟨p, r, s, Q, d4, d5, rfl, hp, B, by simp⟩
  | k :: ks, p, r, s, Q, d4, d5, hp, B, hl => by
    rw [List.length_cons] at hl
    obtain ⟨p1, r1, s1, Q1, x4, x5, e1, hp1, B1, l1⟩ := ev_bodyP S p r s a b Q d4 d5 k hp B (by omega)
    obtain ⟨p2, r2, s2, Q2, y4, y5, e2, hp2, B2, l2⟩ := ev_loopP S a b ks p1 r1 s1 Q1 x4 x5 hp1 B1 (by omega)
    refine ⟨p2, r2, s2, Q2, y4, y5, ?_, hp2, B2, by rw [List.length_cons]; omega⟩
    unfold loopD
    rw [e1]
    exact e2
structure Pix (P : List (Int × Int)) : Prop where
  nd : P.Nodup
  so : P.Pairwise fun u v => leP u v = true
  box : ∃ a b : Int, -20 ≤ a ∧ a ≤ 20 ∧ -20 ≤ b ∧ b ≤ 20 ∧ ∀ q ∈ P, a ≤ q.1 ∧ q.1 ≤ a + 6 ∧ b ≤ q.2 ∧ q.2 ≤ b + 6
  len : P.length ≤ 12
theorem ev_pixels (S : List Int) (p r s : Int) (hp : 0 ≤ p) : ∃ p' r' s' P, m_Lpixels [deckD S p r s] = .ok (.lst false (P.map tp), [deckD S p' r' s']) ∧ 0 ≤ p' ∧ Pix P := by
  obtain ⟨a, p1, r1, s1, e1, hp1, a1, a2⟩ := ev_draw S p r s 40 hp (by omega) (by omega)
  obtain ⟨b, p2, r2, s2, e2, hp2, b1, b2⟩ := ev_draw S p1 r1 s1 40 hp1 (by omega) (by omega)
  obtain ⟨n, p3, r3, s3, e3, hp3, n1, n2⟩ := ev_draw S p2 r2 s2 13 hp2 (by omega) (by omega)
  obtain ⟨p4, r4, s4, Q, d4, d5, e4, hp4, B, l4⟩ := ev_loopP S (a - 20) (b - 20) (rgI 0 n.toNat) p3 r3 s3 [] .un .un hp3 ⟨List.nodup_nil, fun q h => (nomatch h), fun q h => (nomatch h)⟩ (by simp [rgI]; omega)
  have hn : (-4611686018427387904 : Int) ≤ n ∧ n < 4611686018427387904 := by constructor <;> omega
  have l5 : Q.length ≤ 12 := by simp [rgI] at l4; omega
  have l6 : Q.length ≤ 100000 := by omega
  refine ⟨p4, r4, s4, Q.mergeSort leP, ?_, hp4, ⟨(List.mergeSort_perm Q leP).nodup_iff.mpr B.nd, PySem.W.sort_pairwise leP_total Q, ⟨a - 20, b - 20, by omega, by omega, by omega, by omega, fun q hq => ?_⟩, by rw [List.length_mergeSort]; exact l5⟩⟩
  · simp at e4
    simp [m_Lpixels, g_Lpixels_eq, fnD, sSeq, sIf, sRet, sRetF, sAsg, sPutL, sNx, sDrop, sFrz, tBor, eBor, tV, tNot', tOr', tAnd', tYes', eAnd, eNot, eIf, eUn, eBin, mbind, eLst, eTup, aConsF, aCons, aNil, eBI, eV, eL, eC, mret, mopt, dList, seqOf, Dn.listOf, tupOf, pureL_int, stripL_int, stripL, Dn.strip, keepL, Dn.pure, pureL, dGe, dLt, dIx, dMod, dDiv, dInt, dMul, dAdd, dSub, dPow, dLen, atI, ixN, asB, gN, isOwnL, flat, eCall, giveB, e1, e2, e3, e4, sFor, iR1, hn, stripL_tp, pureL_tp, dSorted, pairsD_tp, l6]
  · have := (List.mergeSort_perm Q leP).mem_iff.mp hq
    have h1 := B.x q this
    have h2 := B.y q this
    omega
/-! ### comprehensions that leave the slots -/
theorem lcL_map {α : Type} {own : List Nat} {g : D → List D → Option (List D)} {fe : M D} {δ : List D} (h : α → D) (G : α → D) : ∀ (P : List α), (∀ p ∈ P, ∃ δ1, g (h p) δ = some δ1 ∧ wipeD δ1 own = δ ∧ fe δ1 = .ok (G p, δ1)) → lcL own g tYes' fe (P.map h) δ = .ok (P.map G, δ)
  | [], _ => rfl
  | p :: P, H => by
    obtain ⟨δ1, e1, e2, e3⟩ := H p (by simp)
    have ih := lcL_map (own := own) (g := g) (fe := fe) (δ := δ) h G P fun q hq => H q (by simp [hq])
    rw [List.map_cons]; unfold lcL; simp only [e1]; rw [show tYes' δ1 = Rs.ok (true, δ1) from rfl]; simp only [e3, e2, ih]; rfl
theorem lcL_filter {α : Type} {own : List Nat} {g : D → List D → Option (List D)} {ft : M Bool} {fe : M D} {δ : List D} (h : α → D) (G : α → D) (B : α → Bool) : ∀ (P : List α), (∀ p ∈ P, ∃ δ1, g (h p) δ = some δ1 ∧ wipeD δ1 own = δ ∧ ft δ1 = .ok (B p, δ1) ∧ fe δ1 = .ok (G p, δ1)) → lcL own g ft fe (P.map h) δ = .ok ((P.filter B).map G, δ)
  | [], _ => rfl
  | p :: P, H => by
    obtain ⟨δ1, e1, e2, e4, e3⟩ := H p (by simp)
    have ih := lcL_filter (own := own) (g := g) (ft := ft) (fe := fe) (δ := δ) h G B P fun q hq => H q (by simp [hq])
    rw [List.map_cons]
    unfold lcL
    cases hb : B p with
    | true =>
      rw [hb] at e4
      simp only [e1, e4, e3, e2, ih, List.filter_cons, hb, if_true]
      rfl
    | false =>
      rw [hb] at e4
      simp only [e1, e4, e3, e2, ih, List.filter_cons, hb]
      rfl
theorem eLc_map {α : Type} {own : List Nat} {fi : M (List D)} {g : D → List D → Option (List D)} {fe : M D} {δ : List D} (h : α → D) (G : α → D) (P : List α) (hi : fi δ = .ok (P.map h, δ)) (hl : P.length ≤ 100000) (hw : wipeD δ own = δ) (H : ∀ p ∈ P, ∃ δ1, g (h p) δ = some δ1 ∧ wipeD δ1 own = δ ∧ fe δ1 = .ok (G p, δ1)) : eLc own fi g tYes' fe δ = .ok (.lst true (P.map G), δ) := by
  unfold eLc mbind
  rw [hi]
  dsimp only
  rw [if_pos (by rw [List.length_map]; exact hl), hw, lcL_map h G P H]
  dsimp only
  rw [hw]
theorem eLc_filter {α : Type} {own : List Nat} {fi : M (List D)} {g : D → List D → Option (List D)} {ft : M Bool} {fe : M D} {δ : List D} (h : α → D) (G : α → D) (B : α → Bool) (P : List α) (hi : fi δ = .ok (P.map h, δ)) (hl : P.length ≤ 100000) (hw : wipeD δ own = δ) (H : ∀ p ∈ P, ∃ δ1, g (h p) δ = some δ1 ∧ wipeD δ1 own = δ ∧ ft δ1 = .ok (B p, δ1) ∧ fe δ1 = .ok (G p, δ1)) : eLc own fi g ft fe δ = .ok (.lst true ((P.filter B).map G), δ) := by
  unfold eLc mbind
  rw [hi]
  dsimp only
  rw [if_pos (by rw [List.length_map]; exact hl), hw, lcL_filter h G B P H]
  dsimp only
  rw [hw]
abbrev pl (P : List (Int × Int)) : D := .lst false (P.map tp)
def shift (m n : Int) (q : Int × Int) : Int × Int := (q.1 + m, q.2 + n)
def lcM : M D := (eLc [3, 4] (iLs (eV 0)) (gT [gN 3, gN 4]) (tYes') (eFz (eTup (aConsF (eBin dAdd (eV 3) (eV 1)) (aConsF (eBin dAdd (eV 4) (eV 2)) (aNil))))))
theorem g_moved_pixels_eq : g_moved_pixels = sRetF lcM := rfl

theorem ev_moved (P : List (Int × Int)) (m n : Int) (hl : P.length ≤ 100000) : m_moved_pixels [pl P, .int m, .int n] = .ok (pl (P.map (shift m n)), [.un, .un, .un]) := by
  have key : lcM [pl P, .int m, .int n, .un, .un] = .ok (.lst true ((P.map (shift m n)).map tp), [pl P, .int m, .int n, .un, .un]) := by
    have := eLc_map (own := [3, 4]) (fi := iLs (eV 0)) (g := gT [gN 3, gN 4]) (fe := eFz (eTup (aConsF (eBin dAdd (eV 3) (eV 1)) (aConsF (eBin dAdd (eV 4) (eV 2)) (aNil))))) (δ := [pl P, .int m, .int n, .un, .un]) tp (fun q => tp (shift m n q)) P (by simp [iLs, fnD, sSeq, sIf, sRet, sRetF, sAsg, sPutL, sNx, sDrop, sFrz, tBor, eBor, tV, tNot', tOr', tAnd', tYes', eAnd, eNot, eIf, eUn, eBin, mbind, eLst, eTup, aConsF, aCons, aNil, eBI, eV, eL, eC, mret, mopt, dList, seqOf, Dn.listOf, tupOf, pureL_int, stripL_int, stripL, Dn.strip, keepL, Dn.pure, pureL, dGe, dLt, dIx, dMod, dDiv, dInt, dMul, dAdd, dSub, dPow, dLen, atI, ixN, asB, gN, isOwnL, flat, pureL_tp]) hl (by simp [wipeD]) fun q hq => ⟨[pl P, .int m, .int n, .int q.1, .int q.2], by simp [tp, gT, gTs, gN], by simp [wipeD], by simp [fnD, sSeq, sIf, sRet, sRetF, sAsg, sPutL, sNx, sDrop, sFrz, tBor, eBor, tV, tNot', tOr', tAnd', tYes', eAnd, eNot, eIf, eUn, eBin, mbind, eLst, eTup, aConsF, aCons, aNil, eBI, eV, eL, eC, mret, mopt, dList, seqOf, Dn.listOf, tupOf, pureL_int, stripL_int, stripL, Dn.strip, keepL, Dn.pure, pureL, dGe, dLt, dIx, dMod, dDiv, dInt, dMul, dAdd, dSub, dPow, dLen, atI, ixN, asB, gN, isOwnL, flat, eFz, tp, shift]⟩
    rw [List.map_map]
    exact this
  simp [m_moved_pixels, g_moved_pixels_eq, fnD, sSeq, sIf, sRet, sRetF, sAsg, sPutL, sNx, sDrop, sFrz, tBor, eBor, tV, tNot', tOr', tAnd', tYes', eAnd, eNot, eIf, eUn, eBin, mbind, eLst, eTup, aConsF, aCons, aNil, eBI, eV, eL, eC, mret, mopt, dList, seqOf, Dn.listOf, tupOf, pureL_int, stripL_int, stripL, Dn.strip, keepL, Dn.pure, pureL, dGe, dLt, dIx, dMod, dDiv, dInt, dMul, dAdd, dSub, dPow, dLen, atI, ixN, asB, gN, isOwnL, flat, key, stripL_tp, stripL_tpc]
def ssJ : M D := (eSortS [2, 3] 2 3 (eTup (aConsF (eV 0) (aConsF (eV 1) (aNil)))))
theorem g_joined_eq : g_joined = sRetF ssJ := rfl

theorem ev_joined (A B : List (Int × Int)) (hl : (A ++ B).length < 64) : m_joined [pl A, pl B] = .ok (pl (sortSet (A ++ B)), [.un, .un]) := by
  have key : ssJ [pl A, pl B, .un, .un] = .ok (.lst true ((sortSet (A ++ B)).map tp), [pl A, pl B, .un, .un]) := by
    have h2 : A.length + B.length < 64 := by simpa using hl
    unfold ssJ eSortS
    simp [fnD, sSeq, sIf, sRet, sRetF, sAsg, sPutL, sNx, sDrop, sFrz, tBor, eBor, tV, tNot', tOr', tAnd', tYes', eAnd, eNot, eIf, eUn, eBin, mbind, eLst, eTup, aConsF, aCons, aNil, eBI, eV, eL, eC, mret, mopt, dList, seqOf, Dn.listOf, tupOf, pureL_int, stripL_int, stripL, Dn.strip, keepL, Dn.pure, pureL, dGe, dLt, dIx, dMod, dDiv, dInt, dMul, dAdd, dSub, dPow, dLen, atI, ixN, asB, gN, isOwnL, flat, pureL_tp, stripL_tp, pairLists, pairsD_tp, h2, wipeD]
  simp [m_joined, g_joined_eq, fnD, sSeq, sIf, sRet, sRetF, sAsg, sPutL, sNx, sDrop, sFrz, tBor, eBor, tV, tNot', tOr', tAnd', tYes', eAnd, eNot, eIf, eUn, eBin, mbind, eLst, eTup, aConsF, aCons, aNil, eBI, eV, eL, eC, mret, mopt, dList, seqOf, Dn.listOf, tupOf, pureL_int, stripL_int, stripL, Dn.strip, keepL, Dn.pure, pureL, dGe, dLt, dIx, dMod, dDiv, dInt, dMul, dAdd, dSub, dPow, dLen, atI, ixN, asB, gN, isOwnL, flat, key, stripL_tp]
theorem sorted_join {A B : List (Int × Int)} (hA : A.Nodup) (hB : B.Nodup) : (A ++ B.filter fun q => !decide (q ∈ A)).mergeSort leP = sortSet (A ++ B) := by
  have nd : (A ++ B.filter fun q => !decide (q ∈ A)).Nodup := List.nodup_append.mpr ⟨hA, hB.filter _, fun x hx y hy z => by
    subst z
    have := (List.mem_filter.mp hy).2
    simp at this
    exact this hx⟩
  refine sorted_eq ((List.mergeSort_perm _ leP).nodup_iff.mpr nd) (sortSet_nodup _) (PySem.W.sort_pairwise leP_total _) (sortSet_sorted _) fun a => ?_
  rw [(List.mergeSort_perm _ leP).mem_iff, mem_sortSet, List.mem_append, List.mem_append, List.mem_filter]
  by_cases h : a ∈ A
  · simp [h]
  · simp [h]
/-! ### pictures -/
def sgn (P : List (Int × Int)) (c r : Int) : Str := if (c, r) ∈ P then "#" else "."
def rowT (P : List (Int × Int)) (l : Int) (n : Nat) (r : Int) : Str := (List.range n).foldl (fun acc i => acc ++ sgn P (l + (i : Nat)) r) (Str.ofString "")
theorem join_fold0 : ∀ (rest : List Str) (x : Str), (⟨rest.foldl (fun acc p => acc ++ ("" : Str).cps ++ p.cps) x.cps⟩ : Str) = rest.foldl (fun a b => a ++ b) x
  | [], x => rfl
  | y :: rest, x => by
    have ih := join_fold0 rest (x ++ y)
    rw [List.foldl_cons, List.foldl_cons, ← ih]
    have e : x.cps ++ ("" : Str).cps ++ y.cps = (x ++ y).cps := by
      have : ("" : Str).cps = #[] := by decide
      rw [this, Array.append_empty]; rfl
    rw [e]
theorem join_fold (ys : List Str) : Txt.join "" ys = ys.foldl (fun (a b : Str) => a ++ b) (Str.ofString "") := by
  cases ys with
  | nil => decide
  | cons x rest =>
    rw [List.foldl_cons]
    have e : ("" : Str) ++ x = x := by
      have : ("" : Str) = Str.empty := by decide
      rw [this, Str.empty_append]
    rw [e]
    exact join_fold0 rest x
theorem join_row (P : List (Int × Int)) (l : Int) (n : Nat) (r : Int) : Txt.join "" ((List.range n).map fun i => sgn P (l + (i : Nat)) r) = rowT P l n r := by
  rw [join_fold, List.foldl_map]; rfl
theorem sgn_len (P : List (Int × Int)) (c r : Int) : (sgn P c r).length = 1 := by
  unfold sgn
  split <;> decide
theorem strsD_map {α : Type} (f : α → Str) (ys : List α) : strsD (ys.map fun i => D.str (f i)) = some (ys.map f) := by
  induction ys with
  | nil => rfl
  | cons y ys ih => simp [strsD, ih]
theorem pureL_str {α : Type} (f : α → Str) (ys : List α) : pureL (ys.map fun i => D.str (f i)) = true := by
  induction ys with
  | nil => rfl
  | cons x S ih => simp [pureL, Dn.pure] at ih ⊢; exact ih
theorem stripL_str {α : Type} (f : α → Str) (ys : List α) : stripL (ys.map fun i => D.str (f i)) = ys.map fun i => D.str (f i) := by
  induction ys with
  | nil => rfl
  | cons x S ih => simp [stripL, Dn.strip] at ih ⊢; exact ih
theorem stripL_strc {α : Type} (f : α → Str) (ys : List α) : stripL (ys.map (D.str ∘ f)) = ys.map (D.str ∘ f) := stripL_str f ys
theorem pureL_strc {α : Type} (f : α → Str) (ys : List α) : pureL (ys.map (D.str ∘ f)) = true := pureL_str f ys
theorem pureL_int' {α : Type} (f : α → Int) (ys : List α) : pureL (ys.map fun i => D.int (f i)) = true := by
  induction ys with
  | nil => rfl
  | cons x S ih => simp [pureL, Dn.pure] at ih ⊢; exact ih
theorem stripL_int' {α : Type} (f : α → Int) (ys : List α) : stripL (ys.map fun i => D.int (f i)) = ys.map fun i => D.int (f i) := by
  induction ys with
  | nil => rfl
  | cons x S ih => simp [stripL, Dn.strip] at ih ⊢; exact ih
theorem intsD_map {α : Type} (f : α → Int) (ys : List α) : intsD (ys.map fun i => D.int (f i)) = some (ys.map f) := by
  induction ys with
  | nil => rfl
  | cons y ys ih => simp [intsD, ih]
def mnF (f : Int × Int → Int) : List (Int × Int) → Int
  | [] => 0
  | q :: P => (P.map f).foldl min (f q)
def mxF (f : Int × Int → Int) : List (Int × Int) → Int
  | [] => 0
  | q :: P => (P.map f).foldl max (f q)
theorem dMin_pts (o : Bool) (f : Int × Int → Int) {P : List (Int × Int)} (h : P ≠ []) : dMin [.lst o (P.map fun q => D.int (f q))] = some (.int (mnF f P)) := by
  cases P with
  | nil => exact absurd rfl h
  | cons q P =>
    have e := intsD_map f (q :: P)
    rw [List.map_cons] at e
    simp [dMin, Dn.listOf, e, mnF]
theorem dMax_pts (o : Bool) (f : Int × Int → Int) {P : List (Int × Int)} (h : P ≠ []) : dMax [.lst o (P.map fun q => D.int (f q))] = some (.int (mxF f P)) := by
  cases P with
  | nil => exact absurd rfl h
  | cons q P =>
    have e := intsD_map f (q :: P)
    rw [List.map_cons] at e
    simp [dMax, Dn.listOf, e, mxF]
def lcX : M D := (eLc [9] (iLs (eV 0)) (gN 9) (tYes') (eFz (eBin dIx (eV 9) (eC (.int 0)))))
def lcY : M D := (eLc [9] (iLs (eV 0)) (gN 9) (tYes') (eFz (eBin dIx (eV 9) (eC (.int 1)))))
def dcB : M D := (eDcT [9] (iLs (eV 0)) (gN 9) tYes' (eV 9) (eC (.bl true)))
def sgnB : M D := (eLc [10] (iR2 (aCons (eV 1) (aCons (eBin dAdd (eV 2) (eC (.int 1))) (aNil)))) (gN 10) (tYes') (eFz (eIf (tV (eDIn false 5 (eTup (aConsF (eV 10) (aConsF (eV 7) (aNil)))))) (eC (.str "#")) (eC (.str ".")))))
def rowB : M Fl := (sSeq (sAsg (gN 8) sgnB) (sFrz 8 (sDrop (eApp 6 (eFz (eUn (dJoin "") (eV 8)))))))
theorem g_picture_eq : g_picture = sSeq (sIf (tV (eBin dEq (eBI dLen (aCons (eV 0) (aNil))) (eC (.int 0)))) (sRetF (eLst (aNil))) (sNx)) (sSeq (sAsg (gN 1) (eBI dMin (aCons lcX (aNil)))) (sSeq (sAsg (gN 2) (eBI dMax (aCons lcX (aNil)))) (sSeq (sAsg (gN 3) (eBI dMin (aCons lcY (aNil)))) (sSeq (sAsg (gN 4) (eBI dMax (aCons lcY (aNil)))) (sSeq (sIf (tOr' (tV (eBin dGe (eBin dSub (eV 2) (eV 1)) (eC (.int 1000)))) (tV (eBin dGe (eBin dSub (eV 4) (eV 3)) (eC (.int 1000))))) (sRaiseI "TooLarge" "limit" (eC (.str "picture"))) (sNx)) (sSeq (sAsg (gN 5) dcB) (sFrz 5 (sSeq (sAsg (gN 6) (eLst (aNil))) (sSeq (sFor (iRR (eV 3) (eBin dAdd (eV 4) (eC (.int 1)))) (gN 7) rowB) (sFrz 6 (sRetF (eV 6)))))))))))) := rfl

theorem ev_lcX (P : List (Int × Int)) (hl : P.length ≤ 100000) (d1 d2 d3 d4 : D) : lcX [pl P, d1, d2, d3, d4, .un, .un, .un, .un, .un, .un] = .ok (.lst true (P.map fun q => .int q.1), [pl P, d1, d2, d3, d4, .un, .un, .un, .un, .un, .un]) :=
  eLc_map tp (fun q => .int q.1) P (by simp [iLs, fnD, sSeq, sIf, sRet, sRetF, sAsg, sPutL, sNx, sDrop, sFrz, tBor, eBor, tV, tNot', tOr', tAnd', tYes', eAnd, eNot, eIf, eUn, eBin, mbind, eLst, eTup, aConsF, aCons, aNil, eBI, eV, eL, eC, mret, mopt, dList, seqOf, Dn.listOf, tupOf, pureL_int, stripL_int, stripL, Dn.strip, keepL, Dn.pure, pureL, dGe, dLt, dIx, dMod, dDiv, dInt, dMul, dAdd, dSub, dPow, dLen, atI, ixN, asB, gN, isOwnL, flat, pureL_tp]) hl (by simp [wipeD]) fun q hq => ⟨[pl P, d1, d2, d3, d4, .un, .un, .un, .un, tp q, .un], by simp [gN], by simp [wipeD], by simp [fnD, sSeq, sIf, sRet, sRetF, sAsg, sPutL, sNx, sDrop, sFrz, tBor, eBor, tV, tNot', tOr', tAnd', tYes', eAnd, eNot, eIf, eUn, eBin, mbind, eLst, eTup, aConsF, aCons, aNil, eBI, eV, eL, eC, mret, mopt, dList, seqOf, Dn.listOf, tupOf, pureL_int, stripL_int, stripL, Dn.strip, keepL, Dn.pure, pureL, dGe, dLt, dIx, dMod, dDiv, dInt, dMul, dAdd, dSub, dPow, dLen, atI, ixN, asB, gN, isOwnL, flat, eFz, tp]⟩
theorem ev_lcY (P : List (Int × Int)) (hl : P.length ≤ 100000) (d1 d2 d3 d4 : D) : lcY [pl P, d1, d2, d3, d4, .un, .un, .un, .un, .un, .un] = .ok (.lst true (P.map fun q => .int q.2), [pl P, d1, d2, d3, d4, .un, .un, .un, .un, .un, .un]) :=
  eLc_map tp (fun q => .int q.2) P (by simp [iLs, fnD, sSeq, sIf, sRet, sRetF, sAsg, sPutL, sNx, sDrop, sFrz, tBor, eBor, tV, tNot', tOr', tAnd', tYes', eAnd, eNot, eIf, eUn, eBin, mbind, eLst, eTup, aConsF, aCons, aNil, eBI, eV, eL, eC, mret, mopt, dList, seqOf, Dn.listOf, tupOf, pureL_int, stripL_int, stripL, Dn.strip, keepL, Dn.pure, pureL, dGe, dLt, dIx, dMod, dDiv, dInt, dMul, dAdd, dSub, dPow, dLen, atI, ixN, asB, gN, isOwnL, flat, pureL_tp]) hl (by simp [wipeD]) fun q hq => ⟨[pl P, d1, d2, d3, d4, .un, .un, .un, .un, tp q, .un], by simp [gN], by simp [wipeD], by simp [fnD, sSeq, sIf, sRet, sRetF, sAsg, sPutL, sNx, sDrop, sFrz, tBor, eBor, tV, tNot', tOr', tAnd', tYes', eAnd, eNot, eIf, eUn, eBin, mbind, eLst, eTup, aConsF, aCons, aNil, eBI, eV, eL, eC, mret, mopt, dList, seqOf, Dn.listOf, tupOf, pureL_int, stripL_int, stripL, Dn.strip, keepL, Dn.pure, pureL, dGe, dLt, dIx, dMod, dDiv, dInt, dMul, dAdd, dSub, dPow, dLen, atI, ixN, asB, gN, isOwnL, flat, eFz, tp]⟩
def kyP (q : Int × Int) : List Key := [.inl q.1, .inl q.2]
/-- a dict of pixels -/
structure Blk (P : List (Int × Int)) (ks : List (List Key)) (ds : List D) : Prop where
  len : ks.length = ds.length
  pu : pureL ds = true
  mem : ∀ k, k ∈ ks ↔ k ∈ P.map kyP
  le : ks.length ≤ P.length
theorem blk_put {P : List (Int × Int)} {ks : List (List Key)} {ds : List D} (B : Blk P ks ds) (q : Int × Int) (hl : P.length < 100000) : ∃ ks' ds', dPutT' (.dT true ks ds) (tp q) (.bl true) = some (.dT true ks' ds') ∧ Blk (P ++ [q]) ks' ds' := by
  have h1 : ks.length < 100000 := Nat.lt_of_le_of_lt B.le hl
  refine ⟨putKs ks (kyP q), putDs ks ds (kyP q) (.bl true), by simp [dPutT', dPutT, tp, keysOf, Dn.keyOf, B.pu, Dn.pure, h1, kyP], ⟨putDs_length B.len, ?_, fun k => ?_, ?_⟩⟩
  · unfold putDs
    split
    · have : ∀ (ks : List (List Key)) (ds : List D), pureL ds = true → pureL (rep ks ds (kyP q) (.bl true)) = true := by
        intro ks
        induction ks with
        | nil => intro ds _; simp [rep, pureL]
        | cons k ks ih =>
          intro ds h
          cases ds with
          | nil => simp [rep, pureL]
          | cons d ds =>
            simp only [pureL, Bool.and_eq_true] at h
            simp only [rep, pureL, Bool.and_eq_true]
            refine ⟨?_, ih ds h.2⟩
            split
            · rfl
            · exact h.1
      exact this ks ds B.pu
    · have : ∀ (ds : List D), pureL ds = true → pureL (ds ++ [D.bl true]) = true := by
        intro ds
        induction ds with
        | nil => intro _; rfl
        | cons d ds ih =>
          intro h
          simp only [pureL, Bool.and_eq_true, List.cons_append] at h ⊢
          exact ⟨h.1, ih h.2⟩
      exact this ds B.pu
  · unfold putKs
    rw [List.map_append, List.mem_append, ← B.mem k]
    split
    · rename_i h
      constructor
      · exact Or.inl
      · rintro (z | z)
        · exact z
        · rw [List.map_singleton, List.mem_singleton] at z; rw [z]; exact h
    · rw [List.mem_append]; rfl
  · unfold putKs
    split
    · have := B.le; simp; omega
    · have := B.le; simp; omega
theorem look_some {κ α : Type} [DecidableEq κ] : ∀ {ks : List κ} {ds : List α} {k : κ}, ks.length = ds.length → (look ks ds k).isSome = decide (k ∈ ks)
  | [], [], k, _ => by simp [look]
  | [], _ :: _, k, h => by simp at h
  | _ :: _, [], k, h => by simp at h
  | k' :: ks, d :: ds, k, h => by
    have ih := look_some (ks := ks) (ds := ds) (k := k) (by simpa using h)
    by_cases e : k' = k
    · subst e; simp [look]
    · have e' : ¬ k = k' := fun z => e z.symm
      simp [look, e, e', ih]
theorem stripL_len : ∀ ds : List D, (stripL ds).length = ds.length
  | [] => rfl
  | d :: ds => by simp [stripL, stripL_len ds]
theorem ky_mem {P : List (Int × Int)} {c r : Int} : ([Sum.inl c, Sum.inl r] : List Key) ∈ P.map kyP ↔ (c, r) ∈ P := by
  constructor
  · intro h
    obtain ⟨q, hq, e⟩ := List.mem_map.mp h
    simp [kyP] at e
    rw [← e.1, ← e.2]; exact hq
  · intro h
    exact List.mem_map.mpr ⟨(c, r), h, rfl⟩
theorem blk_look {P : List (Int × Int)} {ks : List (List Key)} {ds : List D} (B : Blk P ks ds) (o : Bool) (c r : Int) : ∃ x, dLook (.dT o ks (stripL ds)) (.tup [.int c, .int r]) = some x ∧ x.isSome = decide ((c, r) ∈ P) := by
  refine ⟨look ks (stripL ds) [.inl c, .inl r], by simp [dLook, keysOf, Dn.keyOf], ?_⟩
  rw [look_some (by rw [stripL_len]; exact B.len)]
  congr 1
  exact propext ((B.mem _).trans ky_mem)
theorem ev_dcL (δ : List D) (h9 : δ[9]? = some .un) : ∀ (P Q : List (Int × Int)) (ks : List (List Key)) (ds : List D), Blk Q ks ds → Q.length + P.length < 100000 → ∃ ks' ds', dcL [9] (gN 9) tYes' (eV 9) (eC (.bl true)) (P.map tp) (.dT true ks ds) δ = .ok (.dT true ks' ds', δ) ∧ Blk (Q ++ P) ks' ds'
  | [], Q, ks, ds, B, _ => ⟨ks, ds, rfl, by rw [List.append_nil]; exact B⟩
  | q :: P, Q, ks, ds, B, hl => by
    rw [List.length_cons] at hl
    obtain ⟨k1, x1, e1, B1⟩ := blk_put B q (by omega)
    obtain ⟨k2, x2, e2, B2⟩ := ev_dcL δ h9 P (Q ++ [q]) k1 x1 B1 (by simp; omega)
    refine ⟨k2, x2, ?_, by rw [List.append_assoc] at B2; exact B2⟩
    have hi : 9 < δ.length := (List.getElem?_eq_some_iff.mp h9).1
    have hs : (δ.set 9 (tp q)).set 9 .un = δ := by
      rw [List.set_set]
      refine List.ext_getElem? fun j => ?_
      by_cases hj : 9 = j
      · subst hj; rw [List.getElem?_set_self hi, h9]
      · rw [List.getElem?_set_ne hj]
    rw [List.map_cons]
    unfold dcL
    have g1 : gN 9 (tp q) δ = some (δ.set 9 (tp q)) := by unfold gN; rw [if_pos hi]
    have v1 : eV 9 (δ.set 9 (tp q)) = .ok (tp q, δ.set 9 (tp q)) := by
      unfold eV; rw [List.getElem?_set_self hi]; simp [tp, Dn.pure, pureL]
    simp only [g1]
    rw [show tYes' (δ.set 9 (tp q)) = Rs.ok (true, δ.set 9 (tp q)) from rfl]
    simp only [v1]
    rw [show eC (D.bl true) (δ.set 9 (tp q)) = Rs.ok (D.bl true, δ.set 9 (tp q)) from rfl]
    simp only [e1, wipeD, hs]
    exact e2
theorem ev_dcB (P : List (Int × Int)) (hl : P.length < 100000) (d1 d2 d3 d4 : D) : ∃ ks ds, dcB [pl P, d1, d2, d3, d4, .un, .un, .un, .un, .un, .un] = .ok (.dT true ks ds, [pl P, d1, d2, d3, d4, .un, .un, .un, .un, .un, .un]) ∧ Blk P ks ds := by
  obtain ⟨ks, ds, e, B⟩ := ev_dcL [pl P, d1, d2, d3, d4, .un, .un, .un, .un, .un, .un] rfl P [] [] [] ⟨rfl, rfl, fun k => Iff.rfl, Nat.le_refl _⟩ (by simpa using hl)
  refine ⟨ks, ds, ?_, by simpa using B⟩
  unfold dcB eDcT mbind
  rw [show iLs (eV 0) [pl P, d1, d2, d3, d4, .un, .un, .un, .un, .un, .un] = .ok (P.map tp, [pl P, d1, d2, d3, d4, .un, .un, .un, .un, .un, .un]) by simp [iLs, fnD, sSeq, sIf, sRet, sRetF, sAsg, sPutL, sNx, sDrop, sFrz, tBor, eBor, tV, tNot', tOr', tAnd', tYes', eAnd, eNot, eIf, eUn, eBin, mbind, eLst, eTup, aConsF, aCons, aNil, eBI, eV, eL, eC, mret, mopt, dList, seqOf, Dn.listOf, tupOf, pureL_int, stripL_int, stripL, Dn.strip, keepL, Dn.pure, pureL, dGe, dLt, dIx, dMod, dDiv, dInt, dMul, dAdd, dSub, dPow, dLen, atI, ixN, asB, gN, isOwnL, flat, pureL_tp]]
  dsimp only
  rw [show wipeD [pl P, d1, d2, d3, d4, .un, .un, .un, .un, .un, .un] [9] = [pl P, d1, d2, d3, d4, .un, .un, .un, .un, .un, .un] by simp [wipeD], e]
  simp [wipeD]
abbrev colS (P : List (Int × Int)) (l : Int) (n : Nat) (r : Int) : List D := (List.range n).map fun i => D.str (sgn P (l + (i : Nat)) r)
theorem ev_sgnB (P : List (Int × Int)) (l h lo hi : Int) (ks : List (List Key)) (ds fs : List D) (r : Int) (d8 : D) (B : Blk P ks ds) (b1 : -10000 ≤ l) (b2 : l ≤ 10000) (b3 : -10000 ≤ h) (b4 : h ≤ 10000) :
    sgnB [pl P, .int l, .int h, .int lo, .int hi, .dT false ks (stripL ds), .lst true fs, .int r, d8, .un, .un] = .ok (.lst true (colS P l (h + 1 - l).toNat r), [pl P, .int l, .int h, .int lo, .int hi, .dT false ks (stripL ds), .lst true fs, .int r, d8, .un, .un]) := by
  have hr : -4611686018427387904 ≤ l ∧ l < 4611686018427387904 ∧ -4611686018427387904 ≤ h + 1 ∧ h + 1 < 4611686018427387904 := by omega
  refine eLc_map (fun i : Nat => D.int (l + (i : Nat))) (fun i => D.str (sgn P (l + (i : Nat)) r)) (List.range (h + 1 - l).toNat) (by simp [iR2, fnD, sSeq, sIf, sRet, sRetF, sAsg, sPutL, sNx, sDrop, sFrz, tBor, eBor, tV, tNot', tOr', tAnd', tYes', eAnd, eNot, eIf, eUn, eBin, mbind, eLst, eTup, aConsF, aCons, aNil, eBI, eV, eL, eC, mret, mopt, dList, seqOf, Dn.listOf, tupOf, pureL_int, stripL_int, stripL, Dn.strip, keepL, Dn.pure, pureL, dGe, dLt, dIx, dMod, dDiv, dInt, dMul, dAdd, dSub, dPow, dLen, atI, ixN, asB, gN, isOwnL, flat, hr, rgI]) (by simp; omega) (by simp [wipeD]) fun i _ => ?_
  obtain ⟨x, e1, e2⟩ := blk_look B false (l + (i : Nat)) r
  refine ⟨[pl P, .int l, .int h, .int lo, .int hi, .dT false ks (stripL ds), .lst true fs, .int r, d8, .un, .int (l + (i : Nat))], by simp [gN], by simp [wipeD], ?_⟩
  by_cases hm : (l + (i : Nat), r) ∈ P
  · simp [fnD, sSeq, sIf, sRet, sRetF, sAsg, sPutL, sNx, sDrop, sFrz, tBor, eBor, tV, tNot', tOr', tAnd', tYes', eAnd, eNot, eIf, eUn, eBin, mbind, eLst, eTup, aConsF, aCons, aNil, eBI, eV, eL, eC, mret, mopt, dList, seqOf, Dn.listOf, tupOf, pureL_int, stripL_int, stripL, Dn.strip, keepL, Dn.pure, pureL, dGe, dLt, dIx, dMod, dDiv, dInt, dMul, dAdd, dSub, dPow, dLen, atI, ixN, asB, gN, isOwnL, flat, eFz, eDIn, e1, e2, hm, sgn]
  · simp [fnD, sSeq, sIf, sRet, sRetF, sAsg, sPutL, sNx, sDrop, sFrz, tBor, eBor, tV, tNot', tOr', tAnd', tYes', eAnd, eNot, eIf, eUn, eBin, mbind, eLst, eTup, aConsF, aCons, aNil, eBI, eV, eL, eC, mret, mopt, dList, seqOf, Dn.listOf, tupOf, pureL_int, stripL_int, stripL, Dn.strip, keepL, Dn.pure, pureL, dGe, dLt, dIx, dMod, dDiv, dInt, dMul, dAdd, dSub, dPow, dLen, atI, ixN, asB, gN, isOwnL, flat, eFz, eDIn, e1, e2, hm, sgn]
theorem sum_ones {α : Type} (f : α → Str) (h : ∀ a, (f a).length = 1) (ys : List α) : ((ys.map f).map (·.length)).sum = ys.length := by
  induction ys with
  | nil => rfl
  | cons y ys ih => simp at ih; simp [h, ih]; omega
theorem ev_rowB (P : List (Int × Int)) (l h lo hi : Int) (ks : List (List Key)) (ds : List D) (fs : List D) (r : Int) (d7 d8 : D) (B : Blk P ks ds) (b1 : -10000 ≤ l) (b2 : l ≤ 10000) (b3 : -10000 ≤ h) (b4 : h ≤ 10000) (hf : fs.length < 100000) :
    ∃ d7' d8', forB (gN 7) rowB (.int r) [pl P, .int l, .int h, .int lo, .int hi, .dT false ks (stripL ds), .lst true fs, d7, d8, .un, .un] = .ok (.nx, [pl P, .int l, .int h, .int lo, .int hi, .dT false ks (stripL ds), .lst true (fs ++ [.str (rowT P l (h + 1 - l).toNat r)]), d7', d8', .un, .un]) := by
  have hs := sum_ones (fun i : Nat => sgn P (l + (i : Nat)) r) (fun i => sgn_len _ _ _) (List.range (h + 1 - l).toNat)
  rw [List.length_range] at hs
  have hz : (((List.range (h + 1 - l).toNat).map fun i => sgn P (l + (i : Nat)) r).map (·.length)).sum + ((List.range (h + 1 - l).toNat).map fun i => sgn P (l + (i : Nat)) r).length * ("" : Str).length ≤ 16777216 := by
    rw [hs]
    have : ("" : Str).length = 0 := by decide
    rw [this]; omega
  have e1 := ev_sgnB P l h lo hi ks ds fs r d8 B b1 b2 b3 b4
  have hj : dJoin "" (.lst false (colS P l (h + 1 - l).toNat r)) = some (.str (rowT P l (h + 1 - l).toNat r)) := by
    unfold dJoin
    simp only [Dn.listOf, colS, strsD_map]
    rw [if_pos hz, join_row]
  refine ⟨.int r, .lst false (colS P l (h + 1 - l).toNat r), ?_⟩
  have g0 : forB (gN 7) rowB (.int r) [pl P, .int l, .int h, .int lo, .int hi, .dT false ks (stripL ds), .lst true fs, d7, d8, .un, .un] = rowB [pl P, .int l, .int h, .int lo, .int hi, .dT false ks (stripL ds), .lst true fs, .int r, d8, .un, .un] := by simp [forB, gN]
  rw [g0]
  simp only [rowB, fnD, sSeq, sIf, sRet, sRetF, sAsg, sPutL, sNx, sDrop, sFrz, tBor, eBor, tV, tNot', tOr', tAnd', tYes', eAnd, eNot, eIf, eUn, eBin, mbind, eLst, eTup, aConsF, aCons, aNil, eBI, eV, eL, eC, mret, mopt, dList, seqOf, Dn.listOf, tupOf, pureL_int, stripL_int, stripL, Dn.strip, keepL, Dn.pure, pureL, dGe, dLt, dIx, dMod, dDiv, dInt, dMul, dAdd, dSub, dPow, dLen, atI, ixN, asB, gN, isOwnL, flat, e1]
  simp [fnD, sSeq, sIf, sRet, sRetF, sAsg, sPutL, sNx, sDrop, sFrz, tBor, eBor, tV, tNot', tOr', tAnd', tYes', eAnd, eNot, eIf, eUn, eBin, mbind, eLst, eTup, aConsF, aCons, aNil, eBI, eV, eL, eC, mret, mopt, dList, seqOf, Dn.listOf, tupOf, pureL_int, stripL_int, stripL, Dn.strip, keepL, Dn.pure, pureL, dGe, dLt, dIx, dMod, dDiv, dInt, dMul, dAdd, dSub, dPow, dLen, atI, ixN, asB, gN, isOwnL, flat, stripL_str, pureL_str, eApp, eFz, hf, hj]
theorem ev_rows (P : List (Int × Int)) (l h lo hi : Int) (ks : List (List Key)) (ds : List D) (B : Blk P ks ds) (b1 : -10000 ≤ l) (b2 : l ≤ 10000) (b3 : -10000 ≤ h) (b4 : h ≤ 10000) : ∀ (rs : List Int) (fs : List Str) (d7 d8 : D), fs.length + rs.length < 100000 →
    ∃ d7' d8', loopD (forB (gN 7) rowB) (rs.map .int) [pl P, .int l, .int h, .int lo, .int hi, .dT false ks (stripL ds), .lst true (fs.map .str), d7, d8, .un, .un] = .ok (.nx, [pl P, .int l, .int h, .int lo, .int hi, .dT false ks (stripL ds), .lst true ((fs ++ rs.map (rowT P l (h + 1 - l).toNat)).map .str), d7', d8', .un, .un])
  | [], fs, d7, d8, hl => ⟨d7, d8, by simp [loopD, mret]⟩
  | r :: rs, fs, d7, d8, hl => by
    rw [List.length_cons] at hl
    obtain ⟨x7, x8, e1⟩ := ev_rowB P l h lo hi ks ds (fs.map .str) r d7 d8 B b1 b2 b3 b4 (by simp; omega)
    obtain ⟨y7, y8, e2⟩ := ev_rows P l h lo hi ks ds B b1 b2 b3 b4 rs (fs ++ [rowT P l (h + 1 - l).toNat r]) x7 x8 (by simp; omega)
    refine ⟨y7, y8, ?_⟩
    rw [List.map_cons]
    unfold loopD
    rw [e1]
    dsimp only
    have e3 : fs.map D.str ++ [.str (rowT P l (h + 1 - l).toNat r)] = (fs ++ [rowT P l (h + 1 - l).toNat r]).map D.str := by simp
    rw [e3, e2]
    simp
def rowsR (lo hi : Int) : List Int := (List.range (hi + 1 - lo).toNat).map fun i => hi - (i : Nat)
theorem rgR_eq (lo hi : Int) : rgR hi (hi + 1 - lo).toNat = (rowsR lo hi).map D.int := by simp [rgR, rowsR]
/-- the picture -/
def pic (P : List (Int × Int)) : List Str := (rowsR (mnF (·.2) P) (mxF (·.2) P)).map (rowT P (mnF (·.1) P) (mxF (·.1) P + 1 - mnF (·.1) P).toNat)
structure Fits (P : List (Int × Int)) : Prop where
  ne : P ≠ []
  len : P.length < 1000
  l1 : -10000 ≤ mnF (·.1) P
  l2 : mnF (·.1) P ≤ 10000
  h1 : -10000 ≤ mxF (·.1) P
  h2 : mxF (·.1) P ≤ 10000
  lo1 : -10000 ≤ mnF (·.2) P
  lo2 : mnF (·.2) P ≤ 10000
  hi1 : -10000 ≤ mxF (·.2) P
  hi2 : mxF (·.2) P ≤ 10000
theorem ev_pic0 : m_picture [pl []] = .ok (.lst false [], [.un]) := by
  simp [m_picture, g_picture_eq, fnD, sSeq, sIf, sRet, sRetF, sAsg, sPutL, sNx, sDrop, sFrz, tBor, eBor, tV, tNot', tOr', tAnd', tYes', eAnd, eNot, eIf, eUn, eBin, mbind, eLst, eTup, aConsF, aCons, aNil, eBI, eV, eL, eC, mret, mopt, dList, seqOf, Dn.listOf, tupOf, pureL_int, stripL_int, stripL, Dn.strip, keepL, Dn.pure, pureL, dGe, dLt, dIx, dMod, dDiv, dInt, dMul, dAdd, dSub, dPow, dLen, atI, ixN, asB, gN, isOwnL, flat, dEq, toPy, SeqAt.shaped, PyData.canLay0, PyData.depth, PyData.eqv]
theorem ev_pic1 {P : List (Int × Int)} (F : Fits P) (hx : mxF (·.1) P - mnF (·.1) P < 1000) (hy : mxF (·.2) P - mnF (·.2) P < 1000) : m_picture [pl P] = .ok (.lst false ((pic P).map .str), [.un]) := by
  have hl : P.length ≤ 100000 := by have := F.len; omega
  have hn : P.length ≠ 0 := fun z => F.ne (List.length_eq_zero_iff.mp z)
  have hne : ¬ P = [] := F.ne
  have hb := F.l1; have hb2 := F.l2; have hb3 := F.h1; have hb4 := F.h2; have hb5 := F.lo1; have hb6 := F.lo2; have hb7 := F.hi1; have hb8 := F.hi2
  obtain ⟨ks, ds, ed, B⟩ := ev_dcB P (by have := F.len; omega) (.int (mnF (·.1) P)) (.int (mxF (·.1) P)) (.int (mnF (·.2) P)) (.int (mxF (·.2) P))
  have hrl : ([] : List Str).length + (rowsR (mnF (·.2) P) (mxF (·.2) P)).length < 100000 := by
    have h0 : (rowsR (mnF (·.2) P) (mxF (·.2) P)).length = (mxF (·.2) P + 1 - mnF (·.2) P).toNat := by simp [rowsR]
    rw [h0, List.length_nil]
    omega
  obtain ⟨d7, d8, er⟩ := ev_rows P (mnF (·.1) P) (mxF (·.1) P) (mnF (·.2) P) (mxF (·.2) P) ks ds B F.l1 F.l2 F.h1 F.h2 (rowsR (mnF (·.2) P) (mxF (·.2) P)) [] .un .un hrl
  rw [← rgR_eq] at er
  have c1 : ¬ 1000 ≤ mxF (·.1) P - mnF (·.1) P := by omega
  have c2 : ¬ 1000 ≤ mxF (·.2) P - mnF (·.2) P := by omega
  have hr : -4611686018427387904 ≤ mnF (·.2) P ∧ mnF (·.2) P < 4611686018427387904 ∧ -4611686018427387904 ≤ mxF (·.2) P + 1 ∧ mxF (·.2) P + 1 < 4611686018427387904 := by omega
  have e0 : mxF (·.2) P + 1 - 1 = mxF (·.2) P := by omega
  simp only [List.map_nil, List.nil_append] at er
  simp [m_picture, g_picture_eq, fnD, sSeq, sIf, sRet, sRetF, sAsg, sPutL, sNx, sDrop, sFrz, tBor, eBor, tV, tNot', tOr', tAnd', tYes', eAnd, eNot, eIf, eUn, eBin, mbind, eLst, eTup, aConsF, aCons, aNil, eBI, eV, eL, eC, mret, mopt, dList, seqOf, Dn.listOf, tupOf, pureL_int, stripL_int, stripL, Dn.strip, keepL, Dn.pure, pureL, dGe, dLt, dIx, dMod, dDiv, dInt, dMul, dAdd, dSub, dPow, dLen, atI, ixN, asB, gN, isOwnL, flat, dEq, toPy, SeqAt.shaped, PyData.canLay0, PyData.depth, PyData.eqv, hne, pureL_tp, ev_lcX P hl, ev_lcY P hl, dMin_pts true _ F.ne, dMax_pts true _ F.ne, c1, c2, ed, sFor, iRR, hr, e0, er, pic, stripL_str, stripL_strc, pureL_strc]
theorem ev_pic2 {P : List (Int × Int)} (F : Fits P) (h : 1000 ≤ mxF (·.1) P - mnF (·.1) P ∨ 1000 ≤ mxF (·.2) P - mnF (·.2) P) : m_picture [pl P] = .er "TooLarge" ["limit"] [.str "picture"] := by
  have hl : P.length ≤ 100000 := by have := F.len; omega
  have hne : ¬ P = [] := F.ne
  by_cases c1 : 1000 ≤ mxF (·.1) P - mnF (·.1) P
  · simp [m_picture, g_picture_eq, fnD, sSeq, sIf, sRet, sRetF, sAsg, sPutL, sNx, sDrop, sFrz, tBor, eBor, tV, tNot', tOr', tAnd', tYes', eAnd, eNot, eIf, eUn, eBin, mbind, eLst, eTup, aConsF, aCons, aNil, eBI, eV, eL, eC, mret, mopt, dList, seqOf, Dn.listOf, tupOf, pureL_int, stripL_int, stripL, Dn.strip, keepL, Dn.pure, pureL, dGe, dLt, dIx, dMod, dDiv, dInt, dMul, dAdd, dSub, dPow, dLen, atI, ixN, asB, gN, isOwnL, flat, dEq, toPy, SeqAt.shaped, PyData.canLay0, PyData.depth, PyData.eqv, hne, pureL_tp, ev_lcX P hl, ev_lcY P hl, dMin_pts true _ F.ne, dMax_pts true _ F.ne, c1, sRaiseI]
  · have c2 := h.resolve_left c1
    simp [m_picture, g_picture_eq, fnD, sSeq, sIf, sRet, sRetF, sAsg, sPutL, sNx, sDrop, sFrz, tBor, eBor, tV, tNot', tOr', tAnd', tYes', eAnd, eNot, eIf, eUn, eBin, mbind, eLst, eTup, aConsF, aCons, aNil, eBI, eV, eL, eC, mret, mopt, dList, seqOf, Dn.listOf, tupOf, pureL_int, stripL_int, stripL, Dn.strip, keepL, Dn.pure, pureL, dGe, dLt, dIx, dMod, dDiv, dInt, dMul, dAdd, dSub, dPow, dLen, atI, ixN, asB, gN, isOwnL, flat, dEq, toPy, SeqAt.shaped, PyData.canLay0, PyData.depth, PyData.eqv, hne, pureL_tp, ev_lcX P hl, ev_lcY P hl, dMin_pts true _ F.ne, dMax_pts true _ F.ne, c1, c2, sRaiseI]
theorem ev_refused1 {P : List (Int × Int)} (F : Fits P) (h : 1000 ≤ mxF (·.1) P - mnF (·.1) P ∨ 1000 ≤ mxF (·.2) P - mnF (·.2) P) : m_Lrefused [pl P] = .ok (.bl true, [.un]) := by
  simp [m_Lrefused, g_Lrefused, fnD, sSeq, sIf, sRet, sRetF, sAsg, sPutL, sNx, sDrop, sFrz, tBor, eBor, tV, tNot', tOr', tAnd', tYes', eAnd, eNot, eIf, eUn, eBin, mbind, eLst, eTup, aConsF, aCons, aNil, eBI, eV, eL, eC, mret, mopt, dList, seqOf, Dn.listOf, tupOf, pureL_int, stripL_int, stripL, Dn.strip, keepL, Dn.pure, pureL, dGe, dLt, dIx, dMod, dDiv, dInt, dMul, dAdd, dSub, dPow, dLen, atI, ixN, asB, gN, isOwnL, flat, sTryC, eCall, giveB, stripL_tp, pureL_tp, ev_pic2 F h]
theorem ev_refused2 {P : List (Int × Int)} (F : Fits P) (hx : mxF (·.1) P - mnF (·.1) P < 1000) (hy : mxF (·.2) P - mnF (·.2) P < 1000) : m_Lrefused [pl P] = .ok (.bl false, [.un]) := by
  simp [m_Lrefused, g_Lrefused, fnD, sSeq, sIf, sRet, sRetF, sAsg, sPutL, sNx, sDrop, sFrz, tBor, eBor, tV, tNot', tOr', tAnd', tYes', eAnd, eNot, eIf, eUn, eBin, mbind, eLst, eTup, aConsF, aCons, aNil, eBI, eV, eL, eC, mret, mopt, dList, seqOf, Dn.listOf, tupOf, pureL_int, stripL_int, stripL, Dn.strip, keepL, Dn.pure, pureL, dGe, dLt, dIx, dMod, dDiv, dInt, dMul, dAdd, dSub, dPow, dLen, atI, ixN, asB, gN, isOwnL, flat, sTryC, eCall, giveB, stripL_tp, pureL_tp, ev_pic1 F hx hy]
/-! ### bounds -/
theorem fmin_ge : ∀ (is : List Int) (i a : Int), a ≤ i → (∀ y ∈ is, a ≤ y) → a ≤ is.foldl min i
  | [], i, a, h, _ => h
  | j :: is, i, a, h, hy => fmin_ge is (min i j) a (by have := hy j (by simp); omega) fun y hy' => hy y (by simp [hy'])
theorem fmin_le : ∀ (is : List Int) (i : Int), is.foldl min i ≤ i
  | [], i => Int.le_refl i
  | j :: is, i => Int.le_trans (fmin_le is (min i j)) (Int.min_le_left i j)
theorem fmax_le : ∀ (is : List Int) (i a : Int), i ≤ a → (∀ y ∈ is, y ≤ a) → is.foldl max i ≤ a
  | [], i, a, h, _ => h
  | j :: is, i, a, h, hy => fmax_le is (max i j) a (by have := hy j (by simp); omega) fun y hy' => hy y (by simp [hy'])
theorem fmax_ge : ∀ (is : List Int) (i : Int), i ≤ is.foldl max i
  | [], i => Int.le_refl i
  | j :: is, i => Int.le_trans (Int.le_max_left i j) (fmax_ge is (max i j))
theorem mnmx {f : Int × Int → Int} {P : List (Int × Int)} {a b : Int} (hne : P ≠ []) (h : ∀ q ∈ P, a ≤ f q ∧ f q ≤ b) : a ≤ mnF f P ∧ mnF f P ≤ b ∧ a ≤ mxF f P ∧ mxF f P ≤ b := by
  cases P with
  | nil => exact absurd rfl hne
  | cons q P =>
    have hq := h q (by simp)
    have hr : ∀ y ∈ P.map f, a ≤ y ∧ y ≤ b := fun y hy => by
      obtain ⟨r, hr, rfl⟩ := List.mem_map.mp hy
      exact h r (by simp [hr])
    have h1 := fmin_ge (P.map f) (f q) a hq.1 fun y hy => (hr y hy).1
    have h2 := fmin_le (P.map f) (f q)
    have h3 := fmax_le (P.map f) (f q) b hq.2 fun y hy => (hr y hy).2
    have h4 := fmax_ge (P.map f) (f q)
    simp only [mnF, mxF]
    omega
theorem fits_of {P : List (Int × Int)} {a b : Int} (hne : P ≠ []) (hl : P.length < 1000) (ha : -10000 ≤ a) (hb : b ≤ 10000) (h1 : ∀ q ∈ P, a ≤ q.1 ∧ q.1 ≤ b) (h2 : ∀ q ∈ P, a ≤ q.2 ∧ q.2 ≤ b) : Fits P := by
  have x := mnmx (f := (·.1)) hne h1
  have y := mnmx (f := (·.2)) hne h2
  exact ⟨hne, hl, by omega, by omega, by omega, by omega, by omega, by omega, by omega, by omega⟩
/-! ### the same -/
theorem kb1 : kitB "int" "tuple" = some false := by decide +kernel
theorem kb2 : kitB "int" "bool" = some false := by decide +kernel
theorem kb3 : kitB "int" "int" = some true := by decide +kernel
theorem kb4 : kitB "tuple" "tuple" = some true := by decide +kernel
theorem kb5 : kitB "str" "tuple" = some false := by decide +kernel
theorem kb6 : kitB "str" "bool" = some false := by decide +kernel
theorem kb7 : kitB "str" "int" = some false := by decide +kernel
theorem kb8 : kitB "str" "str" = some true := by decide +kernel
theorem kb9 : kitB "list" "list" = some true := by decide +kernel
theorem ev_same_int (k : Nat) (i : Int) : m_Lsame (k + 1) [.int i, .int i] = .ok (.bl true, [.un, .un]) := by
  simp [m_Lsame, g_Lsame, fnD, sSeq, sIf, sRet, sRetF, sAsg, sPutL, sNx, sDrop, sFrz, tBor, eBor, tV, tNot', tOr', tAnd', tYes', eAnd, eNot, eIf, eUn, eBin, mbind, eLst, eTup, aConsF, aCons, aNil, eBI, eV, eL, eC, mret, mopt, dList, seqOf, Dn.listOf, tupOf, pureL_int, stripL_int, stripL, Dn.strip, keepL, Dn.pure, pureL, dGe, dLt, dIx, dMod, dDiv, dInt, dMul, dAdd, dSub, dPow, dLen, atI, ixN, asB, gN, isOwnL, flat, dIsi, tyName, kb1, kb2, kb3, dEq, toPy, SeqAt.shaped, PyData.canLay0, PyData.depth, PyData.eqv]
theorem ev_same_str (k : Nat) (z : Str) (h : PyData.strOk z = true) : m_Lsame (k + 1) [.str z, .str z] = .ok (.bl true, [.un, .un]) := by
  simp [m_Lsame, g_Lsame, fnD, sSeq, sIf, sRet, sRetF, sAsg, sPutL, sNx, sDrop, sFrz, tBor, eBor, tV, tNot', tOr', tAnd', tYes', eAnd, eNot, eIf, eUn, eBin, mbind, eLst, eTup, aConsF, aCons, aNil, eBI, eV, eL, eC, mret, mopt, dList, seqOf, Dn.listOf, tupOf, pureL_int, stripL_int, stripL, Dn.strip, keepL, Dn.pure, pureL, dGe, dLt, dIx, dMod, dDiv, dInt, dMul, dAdd, dSub, dPow, dLen, atI, ixN, asB, gN, isOwnL, flat, dIsi, tyName, kb5, kb6, kb7, kb8, dEq, toPy, SeqAt.shaped, PyData.canLay0, PyData.depth, PyData.eqv, h]
theorem ev_same_tp (k : Nat) (p : Int × Int) : m_Lsame (k + 2) [tp p, tp p] = .ok (.bl true, [.un, .un]) := by
  have h0 := ev_same_int k p.1
  have h1 := ev_same_int k p.2
  rw [show m_Lsame (k + 2) = fnD 3 2 [false, false] (g_Lsame (m_Lsame (k + 1))) from rfl]
  simp [g_Lsame, tp, fnD, sSeq, sIf, sRet, sRetF, sAsg, sPutL, sNx, sDrop, sFrz, tBor, eBor, tV, tNot', tOr', tAnd', tYes', eAnd, eNot, eIf, eUn, eBin, mbind, eLst, eTup, aConsF, aCons, aNil, eBI, eV, eL, eC, mret, mopt, dList, seqOf, Dn.listOf, tupOf, pureL_int, stripL_int, stripL, Dn.strip, keepL, Dn.pure, pureL, dGe, dLt, dIx, dMod, dDiv, dInt, dMul, dAdd, dSub, dPow, dLen, atI, ixN, asB, gN, isOwnL, flat, dIsi, tyName, kb4, dNe, toPy, SeqAt.shaped, PyData.canLay0, PyData.depth, PyData.eqv, sFor, iR1, rgI, loopD, forB, eCall, giveB, List.range_succ, h0, h1]
def sameB : M Fl := (sIf (tNot' (tV (eCall (m_Lsame 2) [none, none] (aConsF (eBin dIx (eV 0) (eV 2)) (aConsF (eBin dIx (eV 1) (eV 2)) (aNil)))))) (sRet (eC (.bl false))) (sNx))
theorem g_Lsame_list_eq : g_Lsame_list = sSeq (sIf (tOr' (tNot' (tV (eUn (dIsi "list") (eV 0)))) (tV (eBin dNe (eBI dLen (aCons (eV 0) (aNil))) (eBI dLen (aCons (eV 1) (aNil)))))) (sRet (eC (.bl false))) (sNx)) (sSeq (sFor (iR1 (aCons (eBI dLen (aCons (eV 1) (aNil))) (aNil))) (gN 2) sameB) (sRet (eC (.bl true)))) := rfl

theorem ev_sameB {xs : List D} (hp : pureL xs = true) (h : ∀ x ∈ xs, m_Lsame 2 [x, x] = .ok (.bl true, [.un, .un])) (i : Nat) (hi : i < xs.length) (d : D) : forB (gN 2) sameB (.int (i : Nat)) [.lst false xs, .lst false xs, d] = .ok (.nx, [.lst false xs, .lst false xs, .int (i : Nat)]) := by
  have hx := h xs[i] (List.getElem_mem hi)
  have px : Dn.pure xs[i] = true := pureL_at hp (List.getElem?_eq_getElem hi)
  have sx : Dn.strip xs[i] = xs[i] := strip_pure _ px
  simp [forB, sameB, fnD, sSeq, sIf, sRet, sRetF, sAsg, sPutL, sNx, sDrop, sFrz, tBor, eBor, tV, tNot', tOr', tAnd', tYes', eAnd, eNot, eIf, eUn, eBin, mbind, eLst, eTup, aConsF, aCons, aNil, eBI, eV, eL, eC, mret, mopt, dList, seqOf, Dn.listOf, tupOf, pureL_int, stripL_int, stripL, Dn.strip, keepL, Dn.pure, pureL, dGe, dLt, dIx, dMod, dDiv, dInt, dMul, dAdd, dSub, dPow, dLen, atI, ixN, asB, gN, isOwnL, flat, hp, hi, px, sx, eCall, giveB, hx]
theorem ev_sameL {xs : List D} (hp : pureL xs = true) (h : ∀ x ∈ xs, m_Lsame 2 [x, x] = .ok (.bl true, [.un, .un])) : ∀ (is : List Nat), (∀ i ∈ is, i < xs.length) → ∀ d, ∃ d', loopD (forB (gN 2) sameB) (is.map fun i => .int (i : Nat)) [.lst false xs, .lst false xs, d] = .ok (.nx, [.lst false xs, .lst false xs, d'])
  | [], _, d => ⟨d, rfl⟩
  | i :: is, hi, d => by
    obtain ⟨d', e⟩ := ev_sameL hp h is (fun j hj => hi j (by simp [hj])) (.int (i : Nat))
    refine ⟨d', ?_⟩
    rw [List.map_cons]
    unfold loopD
    rw [ev_sameB hp h i (hi i (by simp)) d]
    exact e
theorem ev_same_list {xs : List D} (hp : pureL xs = true) (hl : xs.length ≤ 100000) (h : ∀ x ∈ xs, m_Lsame 2 [x, x] = .ok (.bl true, [.un, .un])) : m_Lsame_list [.lst false xs, .lst false xs] = .ok (.bl true, [.un, .un]) := by
  obtain ⟨d', e⟩ := ev_sameL hp h (List.range xs.length) (fun i hi => List.mem_range.mp hi) .un
  have hr : (-4611686018427387904 : Int) ≤ xs.length ∧ (xs.length : Int) < 4611686018427387904 := by omega
  simp [m_Lsame_list, g_Lsame_list_eq, fnD, sSeq, sIf, sRet, sRetF, sAsg, sPutL, sNx, sDrop, sFrz, tBor, eBor, tV, tNot', tOr', tAnd', tYes', eAnd, eNot, eIf, eUn, eBin, mbind, eLst, eTup, aConsF, aCons, aNil, eBI, eV, eL, eC, mret, mopt, dList, seqOf, Dn.listOf, tupOf, pureL_int, stripL_int, stripL, Dn.strip, keepL, Dn.pure, pureL, dGe, dLt, dIx, dMod, dDiv, dInt, dMul, dAdd, dSub, dPow, dLen, atI, ixN, asB, gN, isOwnL, flat, hp, dIsi, tyName, kb9, dNe, toPy, SeqAt.shaped, PyData.canLay0, PyData.depth, PyData.eqv, sFor, iR1, hr, rgI, e]
theorem strOk_app (a b : Str) (ha : PyData.strOk a = true) (hb : PyData.strOk b = true) : PyData.strOk (a ++ b) = true := by
  unfold PyData.strOk at *
  rw [Str.cps_append, Array.all_append, ha, hb]; rfl
theorem strOk_sgn (P : List (Int × Int)) (c r : Int) : PyData.strOk (sgn P c r) = true := by
  unfold sgn; split <;> decide +kernel
theorem strOk_fold {α : Type} (f : α → Str) (hf : ∀ a, PyData.strOk (f a) = true) : ∀ (is : List α) (t : Str), PyData.strOk t = true → PyData.strOk (is.foldl (fun acc i => acc ++ f i) t) = true
  | [], t, h => h
  | i :: is, t, h => strOk_fold f hf is (t ++ f i) (strOk_app _ _ h (hf i))
theorem strOk_row (P : List (Int × Int)) (l : Int) (n : Nat) (r : Int) : PyData.strOk (rowT P l n r) = true := strOk_fold (fun i : Nat => sgn P (l + (i : Nat)) r) (fun i => strOk_sgn _ _ _) _ _ (by decide +kernel)
/-! ### the law -/
def lcS : M D := (eLc [15] (iLs (eV 2)) (gN 15) (tYes') (eFz (eTup (aConsF (eBin dAdd (eBin dIx (eV 15) (eC (.int 0))) (eV 5)) (aConsF (eBin dAdd (eBin dIx (eV 15) (eC (.int 1))) (eV 6)) (aNil))))))
def lcF : M D := (eLc [15] (iLs (eV 3)) (gN 15) (tV (eBin dNotIn (eV 15) (eV 2))) (eFz (eV 15)))
def lcA : M D := (eLc [15] (iLs (eV 7)) (gN 15) (tYes') (eFz (eBin dIx (eV 15) (eC (.int 0)))))
def lcB : M D := (eLc [15] (iLs (eV 7)) (gN 15) (tYes') (eFz (eBin dIx (eV 15) (eC (.int 1)))))
def colB : M Fl := (sAsg (gN 12) (eBin dAdd (eV 12) (eBin dIx (eLst (aCons (eC (.str ".")) (aCons (eC (.str "#")) (aNil)))) (eBI dInt (aCons (eBin dIn (eTup (aConsF (eV 13) (aConsF (eV 11) (aNil)))) (eV 7)) (aNil))))))
def lrowB : M Fl := (sSeq (sAsg (gN 12) (eC (.str ""))) (sSeq (sFor (iR2 (aCons (eBI dMin (aCons (eV 9) (aNil))) (aCons (eBin dAdd (eBI dMax (aCons (eV 9) (aNil))) (eC (.int 1))) (aNil)))) (gN 13) colB) (sDrop (eApp 8 (eFz (eV 12))))))
def bigIf : M Fl := (sIf (tV (eBin dNe (eV 7) (eLst (aNil)))) (sSeq (sAsg (gN 9) lcA) (sFrz 9 (sSeq (sAsg (gN 10) lcB) (sFrz 10 (sFor (iRR (eBI dMin (aCons (eV 10) (aNil))) (eBin dAdd (eBI dMax (aCons (eV 10) (aNil))) (eC (.int 1)))) (gN 11) lrowB))))) (sNx))
def restL : M Fl := (sSeq (sIf (tOr' (tNot' (tV (eCall m_Lsame_list [none, none] (aConsF (eCall m_picture [none] (aConsF (eV 7) (aNil))) (aConsF (eV 8) (aNil)))))) (tV (eBin dNe (eLst (aConsF (eV 2) (aConsF (eV 3) (aNil)))) (eV 4)))) (sRet (eC (.bl false))) (sNx)) (sSeq (sAsg (gN 14) (eCall m_Ldraw [some 1, none] (aCons (eL 1) (aConsF (eC (.int 50)) (aNil))))) (sSeq (sIf (tOr' (tNot' (tV (eCall m_Lrefused [none] (aConsF (eLst (aConsF (eTup (aConsF (eV 14) (aCons (eC (.int 0)) (aNil)))) (aConsF (eTup (aConsF (eBin dAdd (eV 14) (eC (.int 1000))) (aCons (eC (.int 0)) (aNil)))) (aNil)))) (aNil))))) (tNot' (tV (eCall m_Lrefused [none] (aConsF (eLst (aConsF (eTup (aCons (eC (.int 0)) (aConsF (eV 14) (aNil)))) (aConsF (eTup (aCons (eC (.int 0)) (aConsF (eBin dAdd (eV 14) (eC (.int 1000))) (aNil)))) (aNil)))) (aNil)))))) (sRet (eC (.bl false))) (sNx)) (sRetF (eNot (eCall m_Lrefused [none] (aConsF (eLst (aConsF (eTup (aConsF (eV 14) (aCons (eC (.int 0)) (aNil)))) (aConsF (eTup (aConsF (eBin dAdd (eV 14) (eC (.int 999))) (aCons (eC (.int 0)) (aNil)))) (aNil)))) (aNil))))))))
theorem g_law_eq : g_law = sSeq (sAsg (gN 1) (eCall m_Ldeck [none] (aConsF (eV 0) (aNil)))) (sSeq (sAsg (gN 2) (eCall m_Lpixels [some 1] (aCons (eL 1) (aNil)))) (sSeq (sAsg (gN 3) (eCall m_Lpixels [some 1] (aCons (eL 1) (aNil)))) (sSeq (sAsg (gN 4) (eLst (aConsF (eBI dList (aCons (eV 2) (aNil))) (aConsF (eBI dList (aCons (eV 3) (aNil))) (aNil))))) (sFrz 4 (sSeq (sAsg (gN 5) (eBin dSub (eCall m_Ldraw [some 1, none] (aCons (eL 1) (aConsF (eC (.int 90)) (aNil)))) (eC (.int 45)))) (sSeq (sAsg (gN 6) (eBin dSub (eCall m_Ldraw [some 1, none] (aCons (eL 1) (aConsF (eC (.int 90)) (aNil)))) (eC (.int 45)))) (sSeq (sIf (tNot' (tV (eCall m_Lsame_list [none, none] (aConsF (eCall m_moved_pixels [none, none, none] (aConsF (eV 2) (aConsF (eV 5) (aConsF (eV 6) (aNil))))) (aConsF lcS (aNil)))))) (sRet (eC (.bl false))) (sNx)) (sSeq (sAsg (gN 7) (eBI dSorted (aCons (eBin dAdd (eV 2) lcF) (aNil)))) (sFrz 7 (sSeq (sIf (tNot' (tV (eCall m_Lsame_list [none, none] (aConsF (eCall m_joined [none, none] (aConsF (eV 2) (aConsF (eV 3) (aNil)))) (aConsF (eV 7) (aNil)))))) (sRet (eC (.bl false))) (sNx)) (sSeq (sAsg (gN 8) (eLst (aNil))) (sSeq bigIf (sFrz 8 restL))))))))))))) := rfl

theorem ev_colB (P : List (Int × Int)) (c r : Int) (t : Str) (s0 s1 s2 s3 s4 s5 s6 s8 s9 s10 s13 s14 s15 : D) (ht : t.length + 1 ≤ 100000) :
    forB (gN 13) colB (.int c) [s0, s1, s2, s3, s4, s5, s6, pl P, s8, s9, s10, .int r, .str t, s13, s14, s15] = .ok (.nx, [s0, s1, s2, s3, s4, s5, s6, pl P, s8, s9, s10, .int r, .str (t ++ sgn P c r), .int c, s14, s15]) := by
  have z1 : ("#" : Str).length = 1 := by decide
  have z2 : ("." : Str).length = 1 := by decide
  have hl1 : t.length + ("#" : Str).length ≤ 100000 := by rw [z1]; exact ht
  have hl2 : t.length + ("." : Str).length ≤ 100000 := by rw [z2]; exact ht
  by_cases h : (c, r) ∈ P
  · simp [forB, colB, fnD, sSeq, sIf, sRet, sRetF, sAsg, sPutL, sNx, sDrop, sFrz, tBor, eBor, tV, tNot', tOr', tAnd', tYes', eAnd, eNot, eIf, eUn, eBin, mbind, eLst, eTup, aConsF, aCons, aNil, eBI, eV, eL, eC, mret, mopt, dList, seqOf, Dn.listOf, tupOf, pureL_int, stripL_int, stripL, Dn.strip, keepL, Dn.pure, pureL, dGe, dLt, dIx, dMod, dDiv, dInt, dMul, dAdd, dSub, dPow, dLen, atI, ixN, asB, gN, isOwnL, flat, pureL_tp, stripL_tp, in_tp', h, sgn, hl1]
  · simp [forB, colB, fnD, sSeq, sIf, sRet, sRetF, sAsg, sPutL, sNx, sDrop, sFrz, tBor, eBor, tV, tNot', tOr', tAnd', tYes', eAnd, eNot, eIf, eUn, eBin, mbind, eLst, eTup, aConsF, aCons, aNil, eBI, eV, eL, eC, mret, mopt, dList, seqOf, Dn.listOf, tupOf, pureL_int, stripL_int, stripL, Dn.strip, keepL, Dn.pure, pureL, dGe, dLt, dIx, dMod, dDiv, dInt, dMul, dAdd, dSub, dPow, dLen, atI, ixN, asB, gN, isOwnL, flat, pureL_tp, stripL_tp, in_tp', h, sgn, hl2]
theorem ev_cols (P : List (Int × Int)) (l r : Int) (s0 s1 s2 s3 s4 s5 s6 s8 s9 s10 s14 s15 : D) : ∀ (is : List Nat) (t : Str) (s13 : D), t.length + is.length ≤ 100000 →
    ∃ x13, loopD (forB (gN 13) colB) (is.map fun i => .int (l + (i : Nat))) [s0, s1, s2, s3, s4, s5, s6, pl P, s8, s9, s10, .int r, .str t, s13, s14, s15] = .ok (.nx, [s0, s1, s2, s3, s4, s5, s6, pl P, s8, s9, s10, .int r, .str (is.foldl (fun acc i => acc ++ sgn P (l + (i : Nat)) r) t), x13, s14, s15])
  | [], t, s13, _ => ⟨s13, rfl⟩
  | i :: is, t, s13, hl => by
    rw [List.length_cons] at hl
    have hs := sgn_len P (l + (i : Nat)) r
    obtain ⟨x13, e⟩ := ev_cols P l r s0 s1 s2 s3 s4 s5 s6 s8 s9 s10 s14 s15 is (t ++ sgn P (l + (i : Nat)) r) (.int (l + (i : Nat))) (by rw [Str.length_append, hs]; omega)
    refine ⟨x13, ?_⟩
    rw [List.map_cons]
    unfold loopD
    rw [ev_colB P (l + (i : Nat)) r t s0 s1 s2 s3 s4 s5 s6 s8 s9 s10 s13 s14 s15 (by omega)]
    exact e
theorem ev_lrow (P : List (Int × Int)) (F : Fits P) (r : Int) (fs : List D) (s0 s1 s2 s3 s4 s5 s6 s10 s11 s12 s13 s14 s15 : D) (hf : fs.length < 100000) :
    ∃ x12 x13, forB (gN 11) lrowB (.int r) [s0, s1, s2, s3, s4, s5, s6, pl P, .lst true fs, .lst false (P.map fun q => .int q.1), s10, s11, s12, s13, s14, s15] = .ok (.nx, [s0, s1, s2, s3, s4, s5, s6, pl P, .lst true (fs ++ [.str (rowT P (mnF (·.1) P) (mxF (·.1) P + 1 - mnF (·.1) P).toNat r)]), .lst false (P.map fun q => .int q.1), s10, .int r, x12, x13, s14, s15]) := by
  have hb := F.l1; have hb2 := F.l2; have hb3 := F.h1; have hb4 := F.h2
  have hr : -4611686018427387904 ≤ mnF (·.1) P ∧ mnF (·.1) P < 4611686018427387904 ∧ -4611686018427387904 ≤ mxF (·.1) P + 1 ∧ mxF (·.1) P + 1 < 4611686018427387904 := by omega
  have hz : ("" : Str).length = 0 := by decide
  obtain ⟨x13, e⟩ := ev_cols P (mnF (·.1) P) r s0 s1 s2 s3 s4 s5 s6 (.lst true fs) (.lst false (P.map fun q => .int q.1)) s10 s14 s15 (List.range (mxF (·.1) P + 1 - mnF (·.1) P).toNat) "" s13 (by rw [hz, List.length_range]; omega)
  refine ⟨.str (rowT P (mnF (·.1) P) (mxF (·.1) P + 1 - mnF (·.1) P).toNat r), x13, ?_⟩
  simp [forB, lrowB, fnD, sSeq, sIf, sRet, sRetF, sAsg, sPutL, sNx, sDrop, sFrz, tBor, eBor, tV, tNot', tOr', tAnd', tYes', eAnd, eNot, eIf, eUn, eBin, mbind, eLst, eTup, aConsF, aCons, aNil, eBI, eV, eL, eC, mret, mopt, dList, seqOf, Dn.listOf, tupOf, pureL_int, stripL_int, stripL, Dn.strip, keepL, Dn.pure, pureL, dGe, dLt, dIx, dMod, dDiv, dInt, dMul, dAdd, dSub, dPow, dLen, atI, ixN, asB, gN, isOwnL, flat, pureL_int', dMin_pts false _ F.ne, dMax_pts false _ F.ne, sFor, iR2, hr, rgI, e, eApp, eFz, hf, rowT]
theorem ev_lrows (P : List (Int × Int)) (F : Fits P) (s0 s1 s2 s3 s4 s5 s6 s10 s14 s15 : D) : ∀ (rs : List Int) (fs : List Str) (s11 s12 s13 : D), fs.length + rs.length < 100000 →
    ∃ x11 x12 x13, loopD (forB (gN 11) lrowB) (rs.map .int) [s0, s1, s2, s3, s4, s5, s6, pl P, .lst true (fs.map .str), .lst false (P.map fun q => .int q.1), s10, s11, s12, s13, s14, s15] = .ok (.nx, [s0, s1, s2, s3, s4, s5, s6, pl P, .lst true ((fs ++ rs.map (rowT P (mnF (·.1) P) (mxF (·.1) P + 1 - mnF (·.1) P).toNat)).map .str), .lst false (P.map fun q => .int q.1), s10, x11, x12, x13, s14, s15])
  | [], fs, s11, s12, s13, _ => ⟨s11, s12, s13, by simp [loopD, mret]⟩
  | r :: rs, fs, s11, s12, s13, hl => by
    rw [List.length_cons] at hl
    obtain ⟨x12, x13, e1⟩ := ev_lrow P F r (fs.map .str) s0 s1 s2 s3 s4 s5 s6 s10 s11 s12 s13 s14 s15 (by simp; omega)
    obtain ⟨y11, y12, y13, e2⟩ := ev_lrows P F s0 s1 s2 s3 s4 s5 s6 s10 s14 s15 rs (fs ++ [rowT P (mnF (·.1) P) (mxF (·.1) P + 1 - mnF (·.1) P).toNat r]) (.int r) x12 x13 (by simp; omega)
    refine ⟨y11, y12, y13, ?_⟩
    rw [List.map_cons]
    unfold loopD
    rw [e1]
    dsimp only
    have e3 : fs.map D.str ++ [.str (rowT P (mnF (·.1) P) (mxF (·.1) P + 1 - mnF (·.1) P).toNat r)] = (fs ++ [rowT P (mnF (·.1) P) (mxF (·.1) P + 1 - mnF (·.1) P).toNat r]).map D.str := by simp
    rw [e3, e2]
    simp
theorem ev_lcA (P : List (Int × Int)) (hl : P.length ≤ 100000) (s0 s1 s2 s3 s4 s5 s6 s8 s9 s10 s11 s12 s13 s14 : D) : lcA [s0, s1, s2, s3, s4, s5, s6, pl P, s8, s9, s10, s11, s12, s13, s14, .un] = .ok (.lst true (P.map fun q => .int q.1), [s0, s1, s2, s3, s4, s5, s6, pl P, s8, s9, s10, s11, s12, s13, s14, .un]) :=
  eLc_map tp (fun q => .int q.1) P (by simp [iLs, fnD, sSeq, sIf, sRet, sRetF, sAsg, sPutL, sNx, sDrop, sFrz, tBor, eBor, tV, tNot', tOr', tAnd', tYes', eAnd, eNot, eIf, eUn, eBin, mbind, eLst, eTup, aConsF, aCons, aNil, eBI, eV, eL, eC, mret, mopt, dList, seqOf, Dn.listOf, tupOf, pureL_int, stripL_int, stripL, Dn.strip, keepL, Dn.pure, pureL, dGe, dLt, dIx, dMod, dDiv, dInt, dMul, dAdd, dSub, dPow, dLen, atI, ixN, asB, gN, isOwnL, flat, pureL_tp]) hl (by simp [wipeD]) fun q hq => ⟨[s0, s1, s2, s3, s4, s5, s6, pl P, s8, s9, s10, s11, s12, s13, s14, tp q], by simp [gN], by simp [wipeD], by simp [fnD, sSeq, sIf, sRet, sRetF, sAsg, sPutL, sNx, sDrop, sFrz, tBor, eBor, tV, tNot', tOr', tAnd', tYes', eAnd, eNot, eIf, eUn, eBin, mbind, eLst, eTup, aConsF, aCons, aNil, eBI, eV, eL, eC, mret, mopt, dList, seqOf, Dn.listOf, tupOf, pureL_int, stripL_int, stripL, Dn.strip, keepL, Dn.pure, pureL, dGe, dLt, dIx, dMod, dDiv, dInt, dMul, dAdd, dSub, dPow, dLen, atI, ixN, asB, gN, isOwnL, flat, eFz, tp]⟩
theorem ev_lcB (P : List (Int × Int)) (hl : P.length ≤ 100000) (s0 s1 s2 s3 s4 s5 s6 s8 s9 s10 s11 s12 s13 s14 : D) : lcB [s0, s1, s2, s3, s4, s5, s6, pl P, s8, s9, s10, s11, s12, s13, s14, .un] = .ok (.lst true (P.map fun q => .int q.2), [s0, s1, s2, s3, s4, s5, s6, pl P, s8, s9, s10, s11, s12, s13, s14, .un]) :=
  eLc_map tp (fun q => .int q.2) P (by simp [iLs, fnD, sSeq, sIf, sRet, sRetF, sAsg, sPutL, sNx, sDrop, sFrz, tBor, eBor, tV, tNot', tOr', tAnd', tYes', eAnd, eNot, eIf, eUn, eBin, mbind, eLst, eTup, aConsF, aCons, aNil, eBI, eV, eL, eC, mret, mopt, dList, seqOf, Dn.listOf, tupOf, pureL_int, stripL_int, stripL, Dn.strip, keepL, Dn.pure, pureL, dGe, dLt, dIx, dMod, dDiv, dInt, dMul, dAdd, dSub, dPow, dLen, atI, ixN, asB, gN, isOwnL, flat, pureL_tp]) hl (by simp [wipeD]) fun q hq => ⟨[s0, s1, s2, s3, s4, s5, s6, pl P, s8, s9, s10, s11, s12, s13, s14, tp q], by simp [gN], by simp [wipeD], by simp [fnD, sSeq, sIf, sRet, sRetF, sAsg, sPutL, sNx, sDrop, sFrz, tBor, eBor, tV, tNot', tOr', tAnd', tYes', eAnd, eNot, eIf, eUn, eBin, mbind, eLst, eTup, aConsF, aCons, aNil, eBI, eV, eL, eC, mret, mopt, dList, seqOf, Dn.listOf, tupOf, pureL_int, stripL_int, stripL, Dn.strip, keepL, Dn.pure, pureL, dGe, dLt, dIx, dMod, dDiv, dInt, dMul, dAdd, dSub, dPow, dLen, atI, ixN, asB, gN, isOwnL, flat, eFz, tp]⟩
theorem eqvAll_nil (P : List (Int × Int)) : PyData.eqvAll (P.map pyP) [] = decide (P = []) := by
  cases P <;> simp [PyData.eqvAll]
theorem eqvAll_self (P : List (Int × Int)) : PyData.eqvAll (P.map pyP) (P.map pyP) = true := by
  induction P with
  | nil => simp [PyData.eqvAll]
  | cons q P ih => simp [PyData.eqvAll, ih, eqv_pyP]
def picN (P : List (Int × Int)) : List Str := if P = [] then [] else pic P
theorem ne_nil (o : Bool) (P : List (Int × Int)) : dNe (.lst o (P.map tp)) (.lst true []) = some (.bl (!decide (P = []))) := by
  have h1 := shaped_pyL P
  have h2 : SeqAt.shaped (.list []) = true := by decide
  simp only [dNe, toPy, toPyL_tp, toPyL, Option.map_some, h1, h2, Bool.and_self, if_true, PyData.eqv, eqvAll_nil]
theorem ev_big (P : List (Int × Int)) (F : P ≠ [] → Fits P) (hy : mxF (·.2) P - mnF (·.2) P < 1000) (s0 s1 s2 s3 s4 s5 s6 s14 : D) :
    ∃ x9 x10 x11 x12 x13, bigIf [s0, s1, s2, s3, s4, s5, s6, pl P, .lst true [], .un, .un, .un, .un, .un, s14, .un] = .ok (.nx, [s0, s1, s2, s3, s4, s5, s6, pl P, .lst true ((picN P).map .str), x9, x10, x11, x12, x13, s14, .un]) := by
  by_cases hP : P = []
  · subst hP
    exact ⟨.un, .un, .un, .un, .un, by simp [bigIf, fnD, sSeq, sIf, sRet, sRetF, sAsg, sPutL, sNx, sDrop, sFrz, tBor, eBor, tV, tNot', tOr', tAnd', tYes', eAnd, eNot, eIf, eUn, eBin, mbind, eLst, eTup, aConsF, aCons, aNil, eBI, eV, eL, eC, mret, mopt, dList, seqOf, Dn.listOf, tupOf, pureL_int, stripL_int, stripL, Dn.strip, keepL, Dn.pure, pureL, dGe, dLt, dIx, dMod, dDiv, dInt, dMul, dAdd, dSub, dPow, dLen, atI, ixN, asB, gN, isOwnL, flat, ne_nil true, dNe, toPy, toPyL, SeqAt.shaped, PyData.canLay0, PyData.canLayAll0, PyData.depth, PyData.depthAll, PyData.eqv, PyData.eqvAll, picN]⟩
  · have F := F hP
    have hl : P.length ≤ 100000 := by have := F.len; omega
    have hb5 := F.lo1; have hb6 := F.lo2; have hb7 := F.hi1; have hb8 := F.hi2
    have hr : -4611686018427387904 ≤ mnF (·.2) P ∧ mnF (·.2) P < 4611686018427387904 ∧ -4611686018427387904 ≤ mxF (·.2) P + 1 ∧ mxF (·.2) P + 1 < 4611686018427387904 := by omega
    have e0 : mxF (·.2) P + 1 - 1 = mxF (·.2) P := by omega
    have hrl : ([] : List Str).length + (rowsR (mnF (·.2) P) (mxF (·.2) P)).length < 100000 := by
      have h0 : (rowsR (mnF (·.2) P) (mxF (·.2) P)).length = (mxF (·.2) P + 1 - mnF (·.2) P).toNat := by simp [rowsR]
      rw [h0, List.length_nil]
      omega
    obtain ⟨x11, x12, x13, e⟩ := ev_lrows P F s0 s1 s2 s3 s4 s5 s6 (.lst false (P.map fun q => .int q.2)) s14 .un (rowsR (mnF (·.2) P) (mxF (·.2) P)) [] .un .un .un hrl
    rw [← rgR_eq] at e
    simp only [List.map_nil, List.nil_append] at e
    refine ⟨.lst false (P.map fun q => .int q.1), .lst false (P.map fun q => .int q.2), x11, x12, x13, ?_⟩
    simp [bigIf, fnD, sSeq, sIf, sRet, sRetF, sAsg, sPutL, sNx, sDrop, sFrz, tBor, eBor, tV, tNot', tOr', tAnd', tYes', eAnd, eNot, eIf, eUn, eBin, mbind, eLst, eTup, aConsF, aCons, aNil, eBI, eV, eL, eC, mret, mopt, dList, seqOf, Dn.listOf, tupOf, pureL_int, stripL_int, stripL, Dn.strip, keepL, Dn.pure, pureL, dGe, dLt, dIx, dMod, dDiv, dInt, dMul, dAdd, dSub, dPow, dLen, atI, ixN, asB, gN, isOwnL, flat, pureL_tp, ne_nil false, ne_nil true, hP, ev_lcA P hl, ev_lcB P hl, stripL_int', pureL_int', dMin_pts false _ F.ne, dMax_pts false _ F.ne, sFor, iRR, hr, e0, e, picN, pic]
theorem same_texts (ys : List Str) (hl : ys.length ≤ 100000) (h : ∀ y ∈ ys, PyData.strOk y = true) : m_Lsame_list [.lst false (ys.map .str), .lst false (ys.map .str)] = .ok (.bl true, [.un, .un]) :=
  ev_same_list (pureL_str (fun y => y) ys) (by simpa using hl) fun x hx => by
    obtain ⟨y, hy, rfl⟩ := List.mem_map.mp hx
    exact ev_same_str 1 y (h y hy)
theorem same_pix (P : List (Int × Int)) (hl : P.length ≤ 100000) : m_Lsame_list [pl P, pl P] = .ok (.bl true, [.un, .un]) :=
  ev_same_list (pureL_tp P) (by simpa using hl) fun x hx => by
    obtain ⟨y, hy, rfl⟩ := List.mem_map.mp hx
    exact ev_same_tp 0 y
theorem ev_picN (P : List (Int × Int)) (F : P ≠ [] → Fits P) (hx : mxF (·.1) P - mnF (·.1) P < 1000) (hy : mxF (·.2) P - mnF (·.2) P < 1000) : m_picture [pl P] = .ok (.lst false ((picN P).map .str), [.un]) := by
  by_cases hP : P = []
  · subst hP
    have := ev_pic0
    simpa [picN] using this
  · rw [ev_pic1 (F hP) hx hy]
    unfold picN
    rw [if_neg hP]
theorem picN_ok (P : List (Int × Int)) : ∀ y ∈ picN P, PyData.strOk y = true := fun y hy => by
  unfold picN at hy
  split at hy
  · exact (nomatch hy)
  · obtain ⟨r, _, rfl⟩ := List.mem_map.mp hy
    exact strOk_row _ _ _ _
theorem picN_len (P : List (Int × Int)) (hy : mxF (·.2) P - mnF (·.2) P < 1000) : (picN P).length ≤ 100000 := by
  unfold picN
  split
  · simp
  · simp [pic, rowsR]; omega
theorem ne_two (A B : List (Int × Int)) : dNe (.lst true [pl A, pl B]) (.lst false [pl A, pl B]) = some (.bl false) := by
  have h1 := depthAll_pyP A
  have h2 := depthAll_pyP B
  have h3 : SeqAt.shaped (.list [.list (A.map pyP), .list (B.map pyP)]) = true := by
    simp [SeqAt.shaped, PyData.canLay0, PyData.canLayAll0, canLay_pyP, PyData.depth, PyData.depthAll]; omega
  simp only [dNe, toPy, toPyL, toPyL_tp, Option.map_some, h3, Bool.and_self, if_true, PyData.eqv, PyData.eqvAll, eqvAll_self]
  rfl
theorem two_far {x : Int} (h0 : 0 ≤ x) (h1 : x < 50) : m_Lrefused [.lst false [.tup [.int x, .int 0], .tup [.int (x + 1000), .int 0]]] = .ok (.bl true, [.un]) :=
  ev_refused1 (P := [(x, 0), (x + 1000, 0)]) (fits_of (a := 0) (b := 2000) (by simp) (by simp) (by omega) (by omega) (by simp; omega) (by simp)) (.inl (by simp [mxF, mnF]; omega))
theorem two_far' {x : Int} (h0 : 0 ≤ x) (h1 : x < 50) : m_Lrefused [.lst false [.tup [.int 0, .int x], .tup [.int 0, .int (x + 1000)]]] = .ok (.bl true, [.un]) :=
  ev_refused1 (P := [(0, x), (0, x + 1000)]) (fits_of (a := 0) (b := 2000) (by simp) (by simp) (by omega) (by omega) (by simp) (by simp; omega)) (.inr (by simp [mxF, mnF]; omega))
theorem two_near {x : Int} (h0 : 0 ≤ x) (h1 : x < 50) : m_Lrefused [.lst false [.tup [.int x, .int 0], .tup [.int (x + 999), .int 0]]] = .ok (.bl false, [.un]) :=
  ev_refused2 (P := [(x, 0), (x + 999, 0)]) (fits_of (a := 0) (b := 2000) (by simp) (by simp) (by omega) (by omega) (by simp; omega) (by simp)) (by simp [mxF, mnF]; omega) (by simp [mxF, mnF])
theorem ev_rest (S : List Int) (p r s : Int) (A B P : List (Int × Int)) (hp : 0 ≤ p) (F : P ≠ [] → Fits P) (hx : mxF (·.1) P - mnF (·.1) P < 1000) (hy : mxF (·.2) P - mnF (·.2) P < 1000) (s0 s5 s6 x9 x10 x11 x12 x13 x14 x15 : D) :
    ∃ δ', restL [s0, deckD S p r s, pl A, pl B, .lst false [pl A, pl B], s5, s6, pl P, .lst false ((picN P).map .str), x9, x10, x11, x12, x13, x14, x15] = .ok (.rt (.bl true), δ') := by
  obtain ⟨x, p1, r1, s1, e1, hp1, v1, v2⟩ := ev_draw S p r s 50 hp (by omega) (by omega)
  have h1 := ev_picN P F hx hy
  have h2 := same_texts (picN P) (picN_len P hy) (picN_ok P)
  have h3 := two_far v1 v2
  have h4 := two_far' v1 v2
  have h5 := two_near v1 v2
  have h6 := pureL_str (fun y => y) (picN P)
  have h7 := stripL_str (fun y => y) (picN P)
  exact ⟨_, by simp [restL, fnD, sSeq, sIf, sRet, sRetF, sAsg, sPutL, sNx, sDrop, sFrz, tBor, eBor, tV, tNot', tOr', tAnd', tYes', eAnd, eNot, eIf, eUn, eBin, mbind, eLst, eTup, aConsF, aCons, aNil, eBI, eV, eL, eC, mret, mopt, dList, seqOf, Dn.listOf, tupOf, pureL_int, stripL_int, stripL, Dn.strip, keepL, Dn.pure, pureL, dGe, dLt, dIx, dMod, dDiv, dInt, dMul, dAdd, dSub, dPow, dLen, atI, ixN, asB, gN, isOwnL, flat, eCall, giveB, pureL_tp, stripL_tp, h1, h2, h6, h7, ne_two, e1, h3, h4, h5]; rfl⟩
theorem ev_lcS (A : List (Int × Int)) (m n : Int) (hl : A.length ≤ 100000) (s0 s1 s3 s4 : D) : lcS [s0, s1, pl A, s3, s4, .int m, .int n, .un, .un, .un, .un, .un, .un, .un, .un, .un] = .ok (.lst true ((A.map (shift m n)).map tp), [s0, s1, pl A, s3, s4, .int m, .int n, .un, .un, .un, .un, .un, .un, .un, .un, .un]) := by
  rw [List.map_map]
  exact eLc_map tp (tp ∘ shift m n) A (by simp [iLs, fnD, sSeq, sIf, sRet, sRetF, sAsg, sPutL, sNx, sDrop, sFrz, tBor, eBor, tV, tNot', tOr', tAnd', tYes', eAnd, eNot, eIf, eUn, eBin, mbind, eLst, eTup, aConsF, aCons, aNil, eBI, eV, eL, eC, mret, mopt, dList, seqOf, Dn.listOf, tupOf, pureL_int, stripL_int, stripL, Dn.strip, keepL, Dn.pure, pureL, dGe, dLt, dIx, dMod, dDiv, dInt, dMul, dAdd, dSub, dPow, dLen, atI, ixN, asB, gN, isOwnL, flat, pureL_tp]) hl (by simp [wipeD]) fun q hq => ⟨[s0, s1, pl A, s3, s4, .int m, .int n, .un, .un, .un, .un, .un, .un, .un, .un, tp q], by simp [gN], by simp [wipeD], by simp [fnD, sSeq, sIf, sRet, sRetF, sAsg, sPutL, sNx, sDrop, sFrz, tBor, eBor, tV, tNot', tOr', tAnd', tYes', eAnd, eNot, eIf, eUn, eBin, mbind, eLst, eTup, aConsF, aCons, aNil, eBI, eV, eL, eC, mret, mopt, dList, seqOf, Dn.listOf, tupOf, pureL_int, stripL_int, stripL, Dn.strip, keepL, Dn.pure, pureL, dGe, dLt, dIx, dMod, dDiv, dInt, dMul, dAdd, dSub, dPow, dLen, atI, ixN, asB, gN, isOwnL, flat, eFz, tp, shift]⟩
theorem ev_lcF (A B : List (Int × Int)) (hl : B.length ≤ 100000) (s0 s1 s4 s5 s6 : D) : lcF [s0, s1, pl A, pl B, s4, s5, s6, .un, .un, .un, .un, .un, .un, .un, .un, .un] = .ok (.lst true ((B.filter fun q => !decide (q ∈ A)).map tp), [s0, s1, pl A, pl B, s4, s5, s6, .un, .un, .un, .un, .un, .un, .un, .un, .un]) :=
  eLc_filter tp tp (fun q => !decide (q ∈ A)) B (by simp [iLs, fnD, sSeq, sIf, sRet, sRetF, sAsg, sPutL, sNx, sDrop, sFrz, tBor, eBor, tV, tNot', tOr', tAnd', tYes', eAnd, eNot, eIf, eUn, eBin, mbind, eLst, eTup, aConsF, aCons, aNil, eBI, eV, eL, eC, mret, mopt, dList, seqOf, Dn.listOf, tupOf, pureL_int, stripL_int, stripL, Dn.strip, keepL, Dn.pure, pureL, dGe, dLt, dIx, dMod, dDiv, dInt, dMul, dAdd, dSub, dPow, dLen, atI, ixN, asB, gN, isOwnL, flat, pureL_tp]) hl (by simp [wipeD]) fun q hq => ⟨[s0, s1, pl A, pl B, s4, s5, s6, .un, .un, .un, .un, .un, .un, .un, .un, tp q], by simp [gN], by simp [wipeD], by simp [fnD, sSeq, sIf, sRet, sRetF, sAsg, sPutL, sNx, sDrop, sFrz, tBor, eBor, tV, tNot', tOr', tAnd', tYes', eAnd, eNot, eIf, eUn, eBin, mbind, eLst, eTup, aConsF, aCons, aNil, eBI, eV, eL, eC, mret, mopt, dList, seqOf, Dn.listOf, tupOf, pureL_int, stripL_int, stripL, Dn.strip, keepL, Dn.pure, pureL, dGe, dLt, dIx, dMod, dDiv, dInt, dMul, dAdd, dSub, dPow, dLen, atI, ixN, asB, gN, isOwnL, flat, pureL_tp, tp, notin_tp'], by simp [fnD, sSeq, sIf, sRet, sRetF, sAsg, sPutL, sNx, sDrop, sFrz, tBor, eBor, tV, tNot', tOr', tAnd', tYes', eAnd, eNot, eIf, eUn, eBin, mbind, eLst, eTup, aConsF, aCons, aNil, eBI, eV, eL, eC, mret, mopt, dList, seqOf, Dn.listOf, tupOf, pureL_int, stripL_int, stripL, Dn.strip, keepL, Dn.pure, pureL, dGe, dLt, dIx, dMod, dDiv, dInt, dMul, dAdd, dSub, dPow, dLen, atI, ixN, asB, gN, isOwnL, flat, eFz, tp]⟩
theorem ev_law (S : List Int) (_hS : S.length ≤ 63) : ∃ δ', m_law [.scr (S.map .int)] = .ok (.bl true, δ') := by
  obtain ⟨p1, r1, s1, A, e1, hp1, PA⟩ := ev_pixels S 0 0 7 (by omega)
  obtain ⟨p2, r2, s2, B, e2, hp2, PB⟩ := ev_pixels S p1 r1 s1 hp1
  obtain ⟨m, p3, r3, s3, e3, hp3, m1, m2⟩ := ev_draw S p2 r2 s2 90 hp2 (by omega) (by omega)
  obtain ⟨n, p4, r4, s4, e4, hp4, n1, n2⟩ := ev_draw S p3 r3 s3 90 hp3 (by omega) (by omega)
  have e0 := ev_deck S
  have lA := PA.len
  have lB := PB.len
  have lA5 : A.length ≤ 100000 := by omega
  have lB5 : B.length ≤ 100000 := by omega
  have hAB : (A ++ B).length < 64 := by rw [List.length_append]; omega
  -- all of both
  have bx : ∀ q ∈ sortSet (A ++ B), (-20 ≤ q.1 ∧ q.1 ≤ 26) ∧ (-20 ≤ q.2 ∧ q.2 ≤ 26) := fun q hq => by
    rw [mem_sortSet, List.mem_append] at hq
    obtain ⟨a, b, h1, h2, h3, h4, h5⟩ := PA.box
    obtain ⟨a', b', h1', h2', h3', h4', h5'⟩ := PB.box
    rcases hq with z | z
    · have := h5 q z; omega
    · have := h5' q z; omega
  have lP : (sortSet (A ++ B)).length ≤ 24 := by
    have nd := sortSet_nodup (A ++ B)
    have : (sortSet (A ++ B)).length ≤ (A ++ B).length := by
      unfold sortSet
      rw [List.length_mergeSort]
      have : ∀ xs : List (Int × Int), (dd xs).length ≤ xs.length := by
        intro xs
        induction xs with
        | nil => exact Nat.le_refl _
        | cons x xs ih =>
          unfold dd
          split
          · simp; omega
          · simp; omega
      exact this _
    rw [List.length_append] at this
    omega
  generalize hP : sortSet (A ++ B) = P at bx lP
  have F : P ≠ [] → Fits P := fun hne => fits_of (a := -20) (b := 26) hne (by omega) (by omega) (by omega) (fun q hq => (bx q hq).1) (fun q hq => (bx q hq).2)
  have sp : mxF (·.1) P - mnF (·.1) P < 1000 ∧ mxF (·.2) P - mnF (·.2) P < 1000 := by
    by_cases hne : P = []
    · subst hne; simp [mxF, mnF]
    · have h1 := mnmx (f := (·.1)) hne fun q hq => (bx q hq).1
      have h2 := mnmx (f := (·.2)) hne fun q hq => (bx q hq).2
      constructor <;> omega
  have e5 := ev_moved A (m - 45) (n - 45) lA5
  have e6 := same_pix (A.map (shift (m - 45) (n - 45))) (by simpa using lA5)
  have e7 : dSorted [.lst true (A.map tp ++ (B.filter fun q => !decide (q ∈ A)).map tp)] = some (.lst true (P.map tp)) := by
    rw [← List.map_append]
    have l : (A ++ B.filter fun q => !decide (q ∈ A)).length ≤ 100000 := by
      have := List.length_filter_le (fun q => !decide (q ∈ A)) B
      rw [List.length_append]; omega
    simp only [dSorted, Dn.listOf, pairsD_tp]
    rw [if_pos l, sorted_join PA.nd PB.nd, hP]
  have l7 : A.length + (B.filter fun q => !decide (q ∈ A)).length ≤ 100000 := by
    have := List.length_filter_le (fun q => !decide (q ∈ A)) B
    omega
  have e8 := ev_joined A B hAB
  rw [hP] at e8
  have e9 := same_pix P (by omega)
  obtain ⟨x9, x10, x11, x12, x13, e10⟩ := ev_big P F sp.2 (.scr (S.map .int)) (deckD S p4 r4 s4) (pl A) (pl B) (.lst false [pl A, pl B]) (.int (m - 45)) (.int (n - 45)) .un
  obtain ⟨δ', e11⟩ := ev_rest S p4 r4 s4 A B P hp4 F sp.1 sp.2 (.scr (S.map .int)) (.int (m - 45)) (.int (n - 45)) x9 x10 x11 x12 x13 .un .un
  have h6 := pureL_str (fun y => y) (picN P)
  have h7 := stripL_str (fun y => y) (picN P)
  refine ⟨keepL [false] δ', ?_⟩
  simp only [pl, List.map_map] at e6
  simp [m_law, g_law_eq, fnD, sSeq, sIf, sRet, sRetF, sAsg, sPutL, sNx, sDrop, sFrz, tBor, eBor, tV, tNot', tOr', tAnd', tYes', eAnd, eNot, eIf, eUn, eBin, mbind, eLst, eTup, aConsF, aCons, aNil, eBI, eV, eL, eC, mret, mopt, dList, seqOf, Dn.listOf, tupOf, pureL_int, stripL_int, stripL, Dn.strip, keepL, Dn.pure, pureL, dGe, dLt, dIx, dMod, dDiv, dInt, dMul, dAdd, dSub, dPow, dLen, atI, ixN, asB, gN, isOwnL, flat, eCall, giveB, pureL_tp, stripL_tp, stripL_tpc, e0, e1, e2, e3, e4, e5, ev_lcS A (m - 45) (n - 45) lA5, e6, ev_lcF A B lB5, l7, e7, e8, e9, e10, h6, h7, e11]
end Gen

namespace Gen
open PySem L2 PyProof.Rows Dn
def spLaw (K : PySem.W.Frag) : Sp := fun vs H Q E => ∃ (a : Addr) (ns : List Int), vs = [.ref a] ∧ SqL K H a (ns.map V.int) ∧ ns.length ≤ 63 ∧ ∀ H1, Q (.bl true) H1
theorem own_ints {K : PySem.W.Frag} {mg : Mg} {F H : Hp} : ∀ ns : List Int, OwnL K mg F H (ns.map D.int) [] (ns.map V.int)
  | [] => OwnL.nil
  | n :: ns => OwnL.cons (f1 := []) (ownI n) (own_ints ns)
theorem law_sp {K : PySem.W.Frag} {mg : Mg} {vs : List V} {H : Hp} {Q : VK} {E : XK} (h : spLaw K vs H Q E) : spOf K mg 1 m_law vs H Q E := by
  obtain ⟨a, ns, rfl, hs, hl, q⟩ := h
  obtain ⟨δ, e⟩ := ev_law ns hl
  refine ⟨fun _ => none, H, [.scr (ns.map .int)], rfl, ⟨Same.refl _, fun _ _ z => (nomatch z), fun _ _ z => (nomatch z), [], [], [], List.nodup_nil, fun _ z => (nomatch z), .refl _, ⟨rfl, rfl⟩, OwnL.one ?_⟩, ?_⟩
  · simp only [Dn.Own]
    exact ⟨trivial, a, _, rfl, hs, own_ints ns⟩
  · rw [e]
    intro F1 H1 v s J
    have ev := own_bl J
    subst ev
    exact q H1
theorem all_mk {P : Program} {w : World} {K : PySem.W.Frag} {h : Heap} {mg : Str → Option Value} {fa : Addr} (X : K.In h) (G : h.Ns mainGlobals mg) (hfa : mg "law" = some (.ref fa))
    {C_TooLarge fI_TooLarge : Addr} {nm_TooLarge q_TooLarge : Str} {N_TooLarge : Addr} {bs_TooLarge bm_TooLarge : List Value} {sn_TooLarge : List Str} {sub_TooLarge : List Value} {ab_TooLarge : Bool} {col_TooLarge : Option Bool} {dd_TooLarge : Option Addr} {m0_TooLarge m1_TooLarge m2_TooLarge m3_TooLarge m5_TooLarge : Option Value} {odI_TooLarge anI_TooLarge : Option Addr} {slI_TooLarge : Array (Option Value)} {ocI_TooLarge kVI_TooLarge dcI_TooLarge pmI_TooLarge cdI_TooLarge ctI_TooLarge : Value}
    {f_moved_pixels : Addr} {od_moved_pixels an_moved_pixels : Option Addr} {sl_moved_pixels : Array (Option Value)} {oc_moved_pixels kV_moved_pixels dc_moved_pixels pm_moved_pixels cd_moved_pixels ct_moved_pixels : Value}
    {f_joined : Addr} {od_joined an_joined : Option Addr} {sl_joined : Array (Option Value)} {oc_joined kV_joined dc_joined pm_joined cd_joined ct_joined : Value}
    {f_Ldeck : Addr} {od_Ldeck an_Ldeck : Option Addr} {sl_Ldeck : Array (Option Value)} {oc_Ldeck kV_Ldeck dc_Ldeck pm_Ldeck cd_Ldeck ct_Ldeck : Value}
    {f_Ldraw : Addr} {od_Ldraw an_Ldraw : Option Addr} {sl_Ldraw : Array (Option Value)} {oc_Ldraw kV_Ldraw dc_Ldraw pm_Ldraw cd_Ldraw ct_Ldraw : Value}
    {f_Lpixels : Addr} {od_Lpixels an_Lpixels : Option Addr} {sl_Lpixels : Array (Option Value)} {oc_Lpixels kV_Lpixels dc_Lpixels pm_Lpixels cd_Lpixels ct_Lpixels : Value}
    {f_picture : Addr} {od_picture an_picture : Option Addr} {sl_picture : Array (Option Value)} {oc_picture kV_picture dc_picture pm_picture cd_picture ct_picture : Value}
    {f_Lsame : Addr} {od_Lsame an_Lsame : Option Addr} {sl_Lsame : Array (Option Value)} {oc_Lsame kV_Lsame dc_Lsame pm_Lsame cd_Lsame ct_Lsame : Value}
    {f_Lsame_list : Addr} {od_Lsame_list an_Lsame_list : Option Addr} {sl_Lsame_list : Array (Option Value)} {oc_Lsame_list kV_Lsame_list dc_Lsame_list pm_Lsame_list cd_Lsame_list ct_Lsame_list : Value}
    {f_Lrefused : Addr} {od_Lrefused an_Lrefused : Option Addr} {sl_Lrefused : Array (Option Value)} {oc_Lrefused kV_Lrefused dc_Lrefused pm_Lrefused cd_Lrefused ct_Lrefused : Value}
    {f_law : Addr} {od_law an_law : Option Addr} {sl_law : Array (Option Value)} {oc_law kV_law dc_law pm_law cd_law ct_law : Value}
    {t_MOST_ROWS : Tok}
    (aC_TooLarge : PySem.W.nsIn K mainGlobals "TooLarge" = some (some (.ref C_TooLarge)))
    (xL_TooLarge : K.lookup C_TooLarge = some (excClassObj nm_TooLarge q_TooLarge C_TooLarge N_TooLarge bs_TooLarge bm_TooLarge true sn_TooLarge sub_TooLarge ab_TooLarge col_TooLarge dd_TooLarge m0_TooLarge m1_TooLarge m2_TooLarge m3_TooLarge m5_TooLarge "ValueError.__new__"))
    (hB_TooLarge : PySem.HandSPX.refsVE bm_TooLarge = true)
    (sa_TooLarge : PySem.W.findIn K (.ref C_TooLarge) "__setattr__" = some (some (.builtin "object.__setattr__")))
    (nb_TooLarge : PySem.W.findIn K (.ref C_TooLarge) "limit" = some none)
    (a1_TooLarge : PySem.W.findIn K (.ref C_TooLarge) "__init__" = some (some (.ref fI_TooLarge)))
    (t1_TooLarge : PySem.W.typeIn K (.ref fI_TooLarge) = some (.type "function"))
    (l1_TooLarge : K.lookup fI_TooLarge = some ⟨ocI_TooLarge, odI_TooLarge, .func (PySem.W.fnOf "__init__" "TooLarge.__init__" (defArgs s_init_TooLarge) (defBody s_init_TooLarge) (defScope s_init_TooLarge) .none kVI_TooLarge dcI_TooLarge pmI_TooLarge anI_TooLarge cdI_TooLarge ctI_TooLarge), slI_TooLarge⟩)
    (c1_TooLarge : PySem.W.codeIn K cdI_TooLarge "TooLarge.__init__" = true)
    (k1_TooLarge : PySem.W.keepIn K (.ref fI_TooLarge) = true)
    (kC_TooLarge : PySem.W.keepIn K (.ref C_TooLarge) = true)
    (eC_TooLarge : PySem.W.subIn K (.ref C_TooLarge) (.type "BaseException") = some true)
    (tC_TooLarge : PySem.W.typeIn K (.ref C_TooLarge) = some (.type "type"))
    (hC_TooLarge : PySem.W.hasDictIn K C_TooLarge = true)
    (sC_TooLarge : PySem.W.subIn K (.ref C_TooLarge) (.ref C_TooLarge) = some true)
    (a_moved_pixels : PySem.W.nsIn K mainGlobals "moved_pixels" = some (some (.ref f_moved_pixels)))
    (l_moved_pixels : K.lookup f_moved_pixels = some ⟨oc_moved_pixels, od_moved_pixels, .func (PySem.W.fnOf "moved_pixels" "moved_pixels" (defArgs s_moved_pixels) (defBody s_moved_pixels) (defScope s_moved_pixels) .none kV_moved_pixels dc_moved_pixels pm_moved_pixels an_moved_pixels cd_moved_pixels ct_moved_pixels), sl_moved_pixels⟩)
    (c_moved_pixels : PySem.W.codeIn K cd_moved_pixels "moved_pixels" = true)
    (k_moved_pixels : PySem.W.keepIn K (.ref f_moved_pixels) = true)
    (a_joined : PySem.W.nsIn K mainGlobals "joined" = some (some (.ref f_joined)))
    (l_joined : K.lookup f_joined = some ⟨oc_joined, od_joined, .func (PySem.W.fnOf "joined" "joined" (defArgs s_joined) (defBody s_joined) (defScope s_joined) .none kV_joined dc_joined pm_joined an_joined cd_joined ct_joined), sl_joined⟩)
    (c_joined : PySem.W.codeIn K cd_joined "joined" = true)
    (k_joined : PySem.W.keepIn K (.ref f_joined) = true)
    (a_Ldeck : PySem.W.nsIn K mainGlobals "_law_deck" = some (some (.ref f_Ldeck)))
    (l_Ldeck : K.lookup f_Ldeck = some ⟨oc_Ldeck, od_Ldeck, .func (PySem.W.fnOf "_law_deck" "_law_deck" (defArgs s_Ldeck) (defBody s_Ldeck) (defScope s_Ldeck) .none kV_Ldeck dc_Ldeck pm_Ldeck an_Ldeck cd_Ldeck ct_Ldeck), sl_Ldeck⟩)
    (c_Ldeck : PySem.W.codeIn K cd_Ldeck "_law_deck" = true)
    (k_Ldeck : PySem.W.keepIn K (.ref f_Ldeck) = true)
    (a_Ldraw : PySem.W.nsIn K mainGlobals "_law_draw" = some (some (.ref f_Ldraw)))
    (l_Ldraw : K.lookup f_Ldraw = some ⟨oc_Ldraw, od_Ldraw, .func (PySem.W.fnOf "_law_draw" "_law_draw" (defArgs s_Ldraw) (defBody s_Ldraw) (defScope s_Ldraw) .none kV_Ldraw dc_Ldraw pm_Ldraw an_Ldraw cd_Ldraw ct_Ldraw), sl_Ldraw⟩)
    (c_Ldraw : PySem.W.codeIn K cd_Ldraw "_law_draw" = true)
    (k_Ldraw : PySem.W.keepIn K (.ref f_Ldraw) = true)
    (a_Lpixels : PySem.W.nsIn K mainGlobals "_law_pixels" = some (some (.ref f_Lpixels)))
    (l_Lpixels : K.lookup f_Lpixels = some ⟨oc_Lpixels, od_Lpixels, .func (PySem.W.fnOf "_law_pixels" "_law_pixels" (defArgs s_Lpixels) (defBody s_Lpixels) (defScope s_Lpixels) .none kV_Lpixels dc_Lpixels pm_Lpixels an_Lpixels cd_Lpixels ct_Lpixels), sl_Lpixels⟩)
    (c_Lpixels : PySem.W.codeIn K cd_Lpixels "_law_pixels" = true)
    (k_Lpixels : PySem.W.keepIn K (.ref f_Lpixels) = true)
    (a_picture : PySem.W.nsIn K mainGlobals "picture" = some (some (.ref f_picture)))
    (l_picture : K.lookup f_picture = some ⟨oc_picture, od_picture, .func (PySem.W.fnOf "picture" "picture" (defArgs s_picture) (defBody s_picture) (defScope s_picture) .none kV_picture dc_picture pm_picture an_picture cd_picture ct_picture), sl_picture⟩)
    (c_picture : PySem.W.codeIn K cd_picture "picture" = true)
    (k_picture : PySem.W.keepIn K (.ref f_picture) = true)
    (a_Lsame : PySem.W.nsIn K mainGlobals "_law_same" = some (some (.ref f_Lsame)))
    (l_Lsame : K.lookup f_Lsame = some ⟨oc_Lsame, od_Lsame, .func (PySem.W.fnOf "_law_same" "_law_same" (defArgs s_Lsame) (defBody s_Lsame) (defScope s_Lsame) .none kV_Lsame dc_Lsame pm_Lsame an_Lsame cd_Lsame ct_Lsame), sl_Lsame⟩)
    (c_Lsame : PySem.W.codeIn K cd_Lsame "_law_same" = true)
    (k_Lsame : PySem.W.keepIn K (.ref f_Lsame) = true)
    (a_Lsame_list : PySem.W.nsIn K mainGlobals "_law_same_list" = some (some (.ref f_Lsame_list)))
    (l_Lsame_list : K.lookup f_Lsame_list = some ⟨oc_Lsame_list, od_Lsame_list, .func (PySem.W.fnOf "_law_same_list" "_law_same_list" (defArgs s_Lsame_list) (defBody s_Lsame_list) (defScope s_Lsame_list) .none kV_Lsame_list dc_Lsame_list pm_Lsame_list an_Lsame_list cd_Lsame_list ct_Lsame_list), sl_Lsame_list⟩)
    (c_Lsame_list : PySem.W.codeIn K cd_Lsame_list "_law_same_list" = true)
    (k_Lsame_list : PySem.W.keepIn K (.ref f_Lsame_list) = true)
    (a_Lrefused : PySem.W.nsIn K mainGlobals "_law_refused" = some (some (.ref f_Lrefused)))
    (l_Lrefused : K.lookup f_Lrefused = some ⟨oc_Lrefused, od_Lrefused, .func (PySem.W.fnOf "_law_refused" "_law_refused" (defArgs s_Lrefused) (defBody s_Lrefused) (defScope s_Lrefused) .none kV_Lrefused dc_Lrefused pm_Lrefused an_Lrefused cd_Lrefused ct_Lrefused), sl_Lrefused⟩)
    (c_Lrefused : PySem.W.codeIn K cd_Lrefused "_law_refused" = true)
    (k_Lrefused : PySem.W.keepIn K (.ref f_Lrefused) = true)
    (a_law : PySem.W.nsIn K mainGlobals "law" = some (some (.ref f_law)))
    (l_law : K.lookup f_law = some ⟨oc_law, od_law, .func (PySem.W.fnOf "law" "law" (defArgs s_law) (defBody s_law) (defScope s_law) .none kV_law dc_law pm_law an_law cd_law ct_law), sl_law⟩)
    (c_law : PySem.W.codeIn K cd_law "law" = true)
    (k_law : PySem.W.keepIn K (.ref f_law) = true)
    (n_bool : PySem.W.nsIn K mainGlobals "bool" = some none)
    (v_MOST_ROWS : PySem.W.nsIn K mainGlobals "MOST_ROWS" = some (some (.int 1000 t_MOST_ROWS)))
    (n_int : PySem.W.nsIn K mainGlobals "int" = some none)
    (n_isinstance : PySem.W.nsIn K mainGlobals "isinstance" = some none)
    (n_len : PySem.W.nsIn K mainGlobals "len" = some none)
    (n_list : PySem.W.nsIn K mainGlobals "list" = some none)
    (n_max : PySem.W.nsIn K mainGlobals "max" = some none)
    (n_min : PySem.W.nsIn K mainGlobals "min" = some none)
    (n_range : PySem.W.nsIn K mainGlobals "range" = some none)
    (n_reversed : PySem.W.nsIn K mainGlobals "reversed" = some none)
    (n_sorted : PySem.W.nsIn K mainGlobals "sorted" = some none)
    (n_str : PySem.W.nsIn K mainGlobals "str" = some none)
    (n_tuple : PySem.W.nsIn K mainGlobals "tuple" = some none) :
    ∃ fd : FuncData, (∀ (s : Shared) (v : Value), BindsTo s fd ⟨[v], []⟩ [("_law_script", v)]) ∧ ∀ base : Heap, K.In base → base.Ns mainGlobals mg → FnOk P w K mg base (L2.CX P w) 5 fa fd ["_law_script"] (spLaw K) := by
  have e := hfa.symm.trans (PySem.W.mg_of X G a_law)
  cases e
  have FI_TooLarge := fun_mk (st := s_init_TooLarge) l1_TooLarge c1_TooLarge k1_TooLarge
  have bI_TooLarge := FI_TooLarge.binds (ps := ["self", "limit"]) fun _ _ _ _ _ _ us hl => match us, hl with | [_, _], _ => rfl
  have F_moved_pixels := fun_mk (st := s_moved_pixels) l_moved_pixels c_moved_pixels k_moved_pixels
  have b_moved_pixels := F_moved_pixels.binds (ps := ["pixels", "across", "along"]) fun _ _ _ _ _ _ us hl => match us, hl with | [_, _, _], _ => rfl
  have F_joined := fun_mk (st := s_joined) l_joined c_joined k_joined
  have b_joined := F_joined.binds (ps := ["first", "second"]) fun _ _ _ _ _ _ us hl => match us, hl with | [_, _], _ => rfl
  have F_Ldeck := fun_mk (st := s_Ldeck) l_Ldeck c_Ldeck k_Ldeck
  have b_Ldeck := F_Ldeck.binds (ps := ["_law_script"]) fun _ _ _ _ _ _ us hl => match us, hl with | [_], _ => rfl
  have F_Ldraw := fun_mk (st := s_Ldraw) l_Ldraw c_Ldraw k_Ldraw
  have b_Ldraw := F_Ldraw.binds (ps := ["_law_deck_here", "_law_most"]) fun _ _ _ _ _ _ us hl => match us, hl with | [_, _], _ => rfl
  have F_Lpixels := fun_mk (st := s_Lpixels) l_Lpixels c_Lpixels k_Lpixels
  have b_Lpixels := F_Lpixels.binds (ps := ["_law_deck_here"]) fun _ _ _ _ _ _ us hl => match us, hl with | [_], _ => rfl
  have F_picture := fun_mk (st := s_picture) l_picture c_picture k_picture
  have b_picture := F_picture.binds (ps := ["pixels"]) fun _ _ _ _ _ _ us hl => match us, hl with | [_], _ => rfl
  have F_Lsame := fun_mk (st := s_Lsame) l_Lsame c_Lsame k_Lsame
  have b_Lsame := F_Lsame.binds (ps := ["_law_actual", "_law_due"]) fun _ _ _ _ _ _ us hl => match us, hl with | [_, _], _ => rfl
  have F_Lsame_list := fun_mk (st := s_Lsame_list) l_Lsame_list c_Lsame_list k_Lsame_list
  have b_Lsame_list := F_Lsame_list.binds (ps := ["_law_actual", "_law_due"]) fun _ _ _ _ _ _ us hl => match us, hl with | [_, _], _ => rfl
  have F_Lrefused := fun_mk (st := s_Lrefused) l_Lrefused c_Lrefused k_Lrefused
  have b_Lrefused := F_Lrefused.binds (ps := ["_law_pixels_here"]) fun _ _ _ _ _ _ us hl => match us, hl with | [_], _ => rfl
  have F_law := fun_mk (st := s_law) l_law c_law k_law
  have T : Txt K mg := ⟨PySem.W.mg_none_of X G n_bool, ⟨_, PySem.W.mg_of X G v_MOST_ROWS⟩, ⟨_, _, _, PySem.W.mg_of X G aC_TooLarge, ⟨⟨_, _, _, _, _, _, _, _, _, _, _, _, _, _, _, xL_TooLarge, hB_TooLarge⟩, sa_TooLarge, eC_TooLarge, tC_TooLarge, kC_TooLarge⟩, a1_TooLarge, t1_TooLarge, FI_TooLarge, bI_TooLarge, nb_TooLarge, PySem.W.exm_ref eC_TooLarge hC_TooLarge tC_TooLarge sC_TooLarge⟩, PySem.W.mg_none_of X G n_int, PySem.W.mg_none_of X G n_isinstance, PySem.W.mg_none_of X G n_len, PySem.W.mg_none_of X G n_list, PySem.W.mg_none_of X G n_max, PySem.W.mg_none_of X G n_min, PySem.W.mg_none_of X G n_range, PySem.W.mg_none_of X G n_reversed, PySem.W.mg_none_of X G n_sorted, PySem.W.mg_none_of X G n_str, PySem.W.mg_none_of X G n_tuple⟩
  refine ⟨PySem.W.fnOf "law" "law" (defArgs s_law) (defBody s_law) (defScope s_law) .none kV_law dc_law pm_law an_law cd_law ct_law, fun s v => .of_eq rfl, fun base _ _ => ?_⟩
  have C_moved_pixels := cal_moved_pixels (base := base) (P := P) (w := w) F_moved_pixels (PySem.W.mg_of X G a_moved_pixels) b_moved_pixels T
  have C_joined := cal_joined (base := base) (P := P) (w := w) F_joined (PySem.W.mg_of X G a_joined) b_joined T
  have C_Ldeck := cal_Ldeck (base := base) (P := P) (w := w) F_Ldeck (PySem.W.mg_of X G a_Ldeck) b_Ldeck T
  have C_Ldraw := cal_Ldraw (base := base) (P := P) (w := w) F_Ldraw (PySem.W.mg_of X G a_Ldraw) b_Ldraw T
  have C_Lpixels := cal_Lpixels (base := base) (P := P) (w := w) F_Lpixels (PySem.W.mg_of X G a_Lpixels) b_Lpixels T C_Ldraw
  have C_picture := cal_picture (base := base) (P := P) (w := w) F_picture (PySem.W.mg_of X G a_picture) b_picture T
  have C_Lsame : Cal P w K mg base 3 "_law_same" 2 (m_Lsame 2) := cal_Lsame F_Lsame (PySem.W.mg_of X G a_Lsame) b_Lsame T 2
  have C_Lsame_list := cal_Lsame_list (base := base) (P := P) (w := w) F_Lsame_list (PySem.W.mg_of X G a_Lsame_list) b_Lsame_list T C_Lsame
  have C_Lrefused := cal_Lrefused (base := base) (P := P) (w := w) F_Lrefused (PySem.W.mg_of X G a_Lrefused) b_Lrefused T C_picture
  exact (cal_law (base := base) (P := P) (w := w) F_law T C_Ldeck C_Lpixels C_Ldraw C_moved_pixels C_Lsame_list C_joined C_picture C_Lrefused).imp fun vs H Q E h => law_sp h
theorem walk {l : PySem.W.OpenLaw} {q : Program} {loose : List Str} {XP : (Str → Option Value) → Heap → Prop} {YP : World → Heap → Prop} {d : DefRec} {K : Params → PySem.W.Frag} (hn : l.most = some 63) (hdf : d.params.defaults = [])
    (hY : ∀ (w : World) (h : Heap), YP w h → (K w.params).In h)
    (F : ∀ (w : World) (mg : Str → Option Value) (fa : Addr) (h : Heap), (K w.params).In h → h.Ns mainGlobals mg → mg d.name = some (.ref fa) →
      ∃ fd : FuncData, (∀ (s : Shared) (u : Value), BindsTo s fd ⟨[u], []⟩ [("_law_script", u)]) ∧ ∀ base : Heap, (K w.params).In base → base.Ns mainGlobals mg → FnOk l.prog w (K w.params) mg base (L2.CX l.prog w) 5 fa fd ["_law_script"] (spLaw (K w.params))) :
    PySem.W.WalkO q loose XP YP l.row.toRowW d [] (fun f vs => PySem.call f vs) :=
  L2.walk_of (n := 63) (k := 5) (x := "_law_script") (CX := fun w => L2.CX l.prog w) (sp := fun w => spLaw (K w.params)) hn (by decide) hdf ⟨rfl, by decide, by decide⟩ hY F (fun _ _ a ns hl _ hS => ⟨a, ns, rfl, hS, hl, fun _ => rfl⟩) fun _ _ _ _ _ z => by
    obtain ⟨_, _, _, _, _, _, _, _, _, _, _, _, z⟩ := z
    exact z.elim
end Gen
open PySem PySem.W PyProof.Rows
set_option maxRecDepth 100000 in
set_option maxHeartbeats 0 in
theorem PySem.Challenge.cw_fleuron_k60_pictures_of_pixels_holds : PySem.Challenge.rw_fleuron_k60_pictures_of_pixels.Holds := by
  w_on; o_law; k_head; (case hw => w_witness2)
  k_fill
  refine Gen.walk (l := PySem.Challenge.rw_fleuron_k60_pictures_of_pixels) rfl rfl (fun w h Y => PySem.W.kIn_of Y) ?F
  case F =>
    intro w mg fa h KX G hmg
    refine' Gen.all_mk KX G hmg ?aC_TooLarge ?xL_TooLarge ?hB_TooLarge ?sa_TooLarge ?nb_TooLarge ?a1_TooLarge ?t1_TooLarge ?l1_TooLarge ?c1_TooLarge ?k1_TooLarge ?kC_TooLarge ?eC_TooLarge ?tC_TooLarge ?hC_TooLarge ?sC_TooLarge ?a_moved_pixels ?l_moved_pixels ?c_moved_pixels ?k_moved_pixels ?a_joined ?l_joined ?c_joined ?k_joined ?a_Ldeck ?l_Ldeck ?c_Ldeck ?k_Ldeck ?a_Ldraw ?l_Ldraw ?c_Ldraw ?k_Ldraw ?a_Lpixels ?l_Lpixels ?c_Lpixels ?k_Lpixels ?a_picture ?l_picture ?c_picture ?k_picture ?a_Lsame ?l_Lsame ?c_Lsame ?k_Lsame ?a_Lsame_list ?l_Lsame_list ?c_Lsame_list ?k_Lsame_list ?a_Lrefused ?l_Lrefused ?c_Lrefused ?k_Lrefused ?a_law ?l_law ?c_law ?k_law ?n_bool ?v_MOST_ROWS ?n_int ?n_isinstance ?n_len ?n_list ?n_max ?n_min ?n_range ?n_reversed ?n_sorted ?n_str ?n_tuple
    (case aC_TooLarge => k_is)
    (case xL_TooLarge => k_is)
    (case hB_TooLarge => decide +kernel)
    (case sa_TooLarge => k_is)
    (case nb_TooLarge => k_is)
    (case a1_TooLarge => k_is)
    (case t1_TooLarge => k_is)
    (case l1_TooLarge => k_is)
    (case c1_TooLarge => k_is)
    (case k1_TooLarge => k_is)
    (case kC_TooLarge => k_is)
    (case eC_TooLarge => k_is)
    (case tC_TooLarge => k_is)
    (case hC_TooLarge => k_is)
    (case sC_TooLarge => first | rfl | k_is)
    (case a_moved_pixels => k_is)
    (case l_moved_pixels => k_is)
    (case c_moved_pixels => k_is)
    (case k_moved_pixels => k_is)
    (case a_joined => k_is)
    (case l_joined => k_is)
    (case c_joined => k_is)
    (case k_joined => k_is)
    (case a_Ldeck => k_is)
    (case l_Ldeck => k_is)
    (case c_Ldeck => k_is)
    (case k_Ldeck => k_is)
    (case a_Ldraw => k_is)
    (case l_Ldraw => k_is)
    (case c_Ldraw => k_is)
    (case k_Ldraw => k_is)
    (case a_Lpixels => k_is)
    (case l_Lpixels => k_is)
    (case c_Lpixels => k_is)
    (case k_Lpixels => k_is)
    (case a_picture => k_is)
    (case l_picture => k_is)
    (case c_picture => k_is)
    (case k_picture => k_is)
    (case a_Lsame => k_is)
    (case l_Lsame => k_is)
    (case c_Lsame => k_is)
    (case k_Lsame => k_is)
    (case a_Lsame_list => k_is)
    (case l_Lsame_list => k_is)
    (case c_Lsame_list => k_is)
    (case k_Lsame_list => k_is)
    (case a_Lrefused => k_is)
    (case l_Lrefused => k_is)
    (case c_Lrefused => k_is)
    (case k_Lrefused => k_is)
    (case a_law => k_is)
    (case l_law => k_is)
    (case c_law => k_is)
    (case k_law => k_is)
    (case n_bool => k_is)
    (case v_MOST_ROWS => k_is)
    (case n_int => k_is)
    (case n_isinstance => k_is)
    (case n_len => k_is)
    (case n_list => k_is)
    (case n_max => k_is)
    (case n_min => k_is)
    (case n_range => k_is)
    (case n_reversed => k_is)
    (case n_sorted => k_is)
    (case n_str => k_is)
    (case n_tuple => k_is)
