import PyProof.Rows.All
import Wide.All
import OpenK.AllK
import Wide.FinOn
import HandS.ForMost
import HandS.ForExc
import HandS.CallSlots
import HandS.ExcInit
import HandS.IsInst
import HandS.TupAny
import HandS.Deep
import HandS.ExcField
import HandS.ExcIs
import HandS.TupMul
import HandS.AnyAll
import PyProof.StrOps2
import HandS.Ends
import HandS.More
import KE.KTryMore
import PySem.Challenge.RW_greedycuts_k85_tokens_of_texts
set_option linter.all false
set_option Elab.async false
set_option maxRecDepth 100000
set_option maxHeartbeats 0
namespace Gc
open PySem PySem.Spec PyProof.Rows L2
/-! Data by value, with marks of sole ownership at lists, dicts and instances. -/
inductive D where
  | non | bl (b : Bool) | int (i : Int) | str (s : Str)
  | tup (ds : List D) | lst (o : Bool) (ds : List D) | dct (o : Bool) (ks : List D) (ds : List D)
  | obj (o : Bool) (c : Str) (ns : List Str) (ds : List D)
  /-- the script -/
  | scr (ns : List Int)
  deriving Inhabited
/-- what is fixed through a def: the written part, the module's names, the parameters that are never stored to, the arguments -/
structure Ctx where
  K : PySem.W.Frag
  mg : Str → Option Value
  L : List Nat
  pv : Nat → Option (Option V)
  /-- what stands frozen throughout -/
  B0 : Hp
def keyD : D → Option Key
  | .int i => some (.inl i)
  | .str s => some (.inr s)
  | _ => none
def keysD : List D → Option (List Key)
  | [] => some []
  | d :: r => match keyD d, keysD r with
    | some k, some ks => some (k :: ks)
    | _, _ => none
def keyT : D → Option (List Key)
  | .tup ds => keysD ds
  | _ => none
def IsDct (ks : List D) (vs : List V) (ho : HO) : Prop :=
  (∃ kvs : List (Key × V), ho = .dK kvs ∧ kvs.map (·.2) = vs ∧ ks.map keyD = kvs.map fun p => some p.1) ∨
  (∃ kvs : List (List Key × V), ho = .dT kvs ∧ kvs.map (·.2) = vs ∧ ks.map keyT = kvs.map fun p => some p.1)
def Sub (B H : Hp) : Prop := ∀ a o, B a = some o → H a = some o
theorem Sub.refl (H : Hp) : Sub H H := fun _ _ h => h
theorem Sub.trans {A B C : Hp} (h : Sub A B) (k : Sub B C) : Sub A C := fun a o e => k a o (h a o e)
theorem Sub.ne {B H : Hp} (h : Sub B H) {a : Addr} (n : B a ≠ none) : H a ≠ none := by
  cases e : B a with
  | none => exact absurd e n
  | some o => rw [h a o e]; simp
theorem Sub.rd {B H : Hp} {a : Addr} {u : HO} (e : Sub B H) (h : Rd B a u) : Rd H a u := by
  rcases h with h | ⟨o, h⟩
  · exact .inl (e a _ h)
  · exact .inr ⟨o, e a _ h⟩
theorem Sub.l {K : PySem.W.Frag} {B H : Hp} {a : Addr} {xs : List V} (e : Sub B H) (h : SqL K B a xs) : SqL K H a xs := h.elim (fun h => .inl (e.rd h)) .inr
theorem Sub.t {K : PySem.W.Frag} {B H : Hp} {a : Addr} {xs : List V} (e : Sub B H) (h : SqT K B a xs) : SqT K H a xs := h.elim (fun h => .inl (e.rd h)) .inr

mutual
/-- v stands for d: what is marked is in H at the places F, each once; all else is in B -/
def Rp (C : Ctx) (B H : Hp) : D → V → List Addr → Prop
  | .non, v, F => v = .non ∧ F = []
  | .bl b, v, F => v = .bl b ∧ F = []
  | .int i, v, F => v = .int i ∧ F = []
  | .str s, v, F => v = .str s ∧ F = []
  | .tup ds, v, F => ∃ a vs, v = .ref a ∧ SqT C.K B a vs ∧ RpL C B H ds vs F
  | .lst o ds, v, F => ∃ a vs F', v = .ref a ∧ RpL C B H ds vs F' ∧ ((o = true ∧ H a = some (.lst vs) ∧ F = a :: F') ∨ (o = false ∧ B a = some (.lst vs) ∧ F = F'))
  | .dct o ks ds, v, F => ∃ a vs F' ho, v = .ref a ∧ RpL C B H ds vs F' ∧ IsDct ks vs ho ∧ ((o = true ∧ H a = some ho ∧ F = a :: F') ∨ (o = false ∧ B a = some ho ∧ F = F'))
  | .obj o c ns ds, v, F => ∃ a cl dx vs F', v = .ref a ∧ C.mg c = some (.ref cl) ∧ ns.length = vs.length ∧ RpL C B H ds vs F' ∧ ((o = true ∧ H a = some (.ins cl dx (ns.zip vs)) ∧ F = a :: F') ∨ (o = false ∧ B a = some (.ins cl dx (ns.zip vs)) ∧ F = F'))
  | .scr ns, v, F => ∃ a, v = .ref a ∧ SqL C.K B a (ns.map V.int) ∧ F = []
def RpL (C : Ctx) (B H : Hp) : List D → List V → List Addr → Prop
  | [], vs, F => vs = [] ∧ F = []
  | d :: ds, vs, F => ∃ v vs' F1 F2, vs = v :: vs' ∧ F = F1 ++ F2 ∧ Rp C B H d v F1 ∧ RpL C B H ds vs' F2
end
mutual
def fz : D → D
  | .non => .non
  | .bl b => .bl b
  | .int i => .int i
  | .str s => .str s
  | .tup ds => .tup (fzL ds)
  | .lst _ ds => .lst false (fzL ds)
  | .dct _ ks ds => .dct false ks (fzL ds)
  | .obj _ c ns ds => .obj false c ns (fzL ds)
  | .scr ns => .scr ns
def fzL : List D → List D
  | [] => []
  | d :: r => fz d :: fzL r
end
mutual
def isFz : D → Bool
  | .non => true
  | .bl _ => true
  | .int _ => true
  | .str _ => true
  | .tup ds => isFzL ds
  | .lst o ds => !o && isFzL ds
  | .dct o _ ds => !o && isFzL ds
  | .obj o _ _ ds => !o && isFzL ds
  | .scr _ => true
def isFzL : List D → Bool
  | [] => true
  | d :: r => isFz d && isFzL r
end
section
variable {C : Ctx} {B B' H H' : Hp}
mutual
theorem Rp.frame (hs : Sub B B') : ∀ {d : D} {v : V} {F : List Addr}, (∀ a ∈ F, H' a = H a) → Rp C B H d v F → Rp C B' H' d v F
  | .non, _, _, _, h => h
  | .bl _, _, _, _, h => h
  | .int _, _, _, _, h => h
  | .str _, _, _, _, h => h
  | .tup ds, v, F, k, h => by
    obtain ⟨a, vs, e, s, r⟩ := h
    exact ⟨a, vs, e, hs.t s, RpL.frame hs k r⟩
  | .lst o ds, v, F, k, h => by
    obtain ⟨a, vs, F', e, r, q⟩ := h
    rcases q with ⟨q1, q2, q3⟩ | ⟨q1, q2, q3⟩
    · subst q3
      exact ⟨a, vs, F', e, RpL.frame hs (fun b hb => k b (List.mem_cons_of_mem _ hb)) r, .inl ⟨q1, (k a List.mem_cons_self).trans q2, rfl⟩⟩
    · subst q3
      exact ⟨a, vs, F, e, RpL.frame hs k r, .inr ⟨q1, hs _ _ q2, rfl⟩⟩
  | .dct o ks ds, v, F, k, h => by
    obtain ⟨a, vs, F', ho, e, r, i, q⟩ := h
    rcases q with ⟨q1, q2, q3⟩ | ⟨q1, q2, q3⟩
    · subst q3
      exact ⟨a, vs, F', ho, e, RpL.frame hs (fun b hb => k b (List.mem_cons_of_mem _ hb)) r, i, .inl ⟨q1, (k a List.mem_cons_self).trans q2, rfl⟩⟩
    · subst q3
      exact ⟨a, vs, F, ho, e, RpL.frame hs k r, i, .inr ⟨q1, hs _ _ q2, rfl⟩⟩
  | .obj o c ns ds, v, F, k, h => by
    obtain ⟨a, cl, dx, vs, F', e, m, l, r, q⟩ := h
    rcases q with ⟨q1, q2, q3⟩ | ⟨q1, q2, q3⟩
    · subst q3
      exact ⟨a, cl, dx, vs, F', e, m, l, RpL.frame hs (fun b hb => k b (List.mem_cons_of_mem _ hb)) r, .inl ⟨q1, (k a List.mem_cons_self).trans q2, rfl⟩⟩
    · subst q3
      exact ⟨a, cl, dx, vs, F, e, m, l, RpL.frame hs k r, .inr ⟨q1, hs _ _ q2, rfl⟩⟩
  | .scr ns, v, F, k, h => by
    obtain ⟨a, e, q, f⟩ := h
    exact ⟨a, e, hs.l q, f⟩
theorem RpL.frame (hs : Sub B B') : ∀ {ds : List D} {vs : List V} {F : List Addr}, (∀ a ∈ F, H' a = H a) → RpL C B H ds vs F → RpL C B' H' ds vs F
  | [], _, _, _, h => h
  | d :: ds, vs, F, k, h => by
    obtain ⟨v, vs', F1, F2, e, f, p, q⟩ := h
    subst f
    exact ⟨v, vs', F1, F2, e, rfl, Rp.frame hs (fun a ha => k a (List.mem_append_left _ ha)) p, RpL.frame hs (fun a ha => k a (List.mem_append_right _ ha)) q⟩
end
mutual
theorem Rp.live : ∀ {d : D} {v : V} {F : List Addr}, Rp C B H d v F → ∀ a ∈ F, H a ≠ none
  | .non, _, _, h, a, ha => by rw [h.2] at ha; cases ha
  | .bl _, _, _, h, a, ha => by rw [h.2] at ha; cases ha
  | .int _, _, _, h, a, ha => by rw [h.2] at ha; cases ha
  | .str _, _, _, h, a, ha => by rw [h.2] at ha; cases ha
  | .tup ds, v, F, h, a, ha => by
    obtain ⟨a', vs, e, s, r⟩ := h
    exact RpL.live r a ha
  | .lst o ds, v, F, h, a, ha => by
    obtain ⟨a', vs, F', e, r, q⟩ := h
    rcases q with ⟨q1, q2, q3⟩ | ⟨q1, q2, q3⟩
    · subst q3
      rcases List.mem_cons.mp ha with rfl | ha
      · rw [q2]; simp
      · exact RpL.live r a ha
    · subst q3; exact RpL.live r a ha
  | .dct o ks ds, v, F, h, a, ha => by
    obtain ⟨a', vs, F', ho, e, r, i, q⟩ := h
    rcases q with ⟨q1, q2, q3⟩ | ⟨q1, q2, q3⟩
    · subst q3
      rcases List.mem_cons.mp ha with rfl | ha
      · rw [q2]; simp
      · exact RpL.live r a ha
    · subst q3; exact RpL.live r a ha
  | .obj o c ns ds, v, F, h, a, ha => by
    obtain ⟨a', cl, dx, vs, F', e, m, l, r, q⟩ := h
    rcases q with ⟨q1, q2, q3⟩ | ⟨q1, q2, q3⟩
    · subst q3
      rcases List.mem_cons.mp ha with rfl | ha
      · rw [q2]; simp
      · exact RpL.live r a ha
    · subst q3; exact RpL.live r a ha
  | .scr ns, _, _, h, a, ha => by
    obtain ⟨_, _, _, f⟩ := h
    rw [f] at ha; cases ha
theorem RpL.live : ∀ {ds : List D} {vs : List V} {F : List Addr}, RpL C B H ds vs F → ∀ a ∈ F, H a ≠ none
  | [], _, _, h, a, ha => by rw [h.2] at ha; cases ha
  | d :: ds, vs, F, h, a, ha => by
    obtain ⟨v, vs', F1, F2, e, f, p, q⟩ := h
    subst f
    rcases List.mem_append.mp ha with ha | ha
    · exact Rp.live p a ha
    · exact RpL.live q a ha
end
mutual
theorem Rp.none_of : ∀ {d : D} {v : V} {F : List Addr}, isFz d = true → Rp C B H d v F → F = []
  | .non, _, _, _, h => h.2
  | .bl _, _, _, _, h => h.2
  | .int _, _, _, _, h => h.2
  | .str _, _, _, _, h => h.2
  | .tup ds, v, F, z, h => by
    obtain ⟨a', vs, e, s, r⟩ := h
    exact RpL.none_of (by simpa [isFz] using z) r
  | .lst o ds, v, F, z, h => by
    obtain ⟨a', vs, F', e, r, q⟩ := h
    simp only [isFz, Bool.and_eq_true, Bool.not_eq_true'] at z
    rcases q with ⟨q1, q2, q3⟩ | ⟨q1, q2, q3⟩
    · rw [z.1] at q1; cases q1
    · subst q3; exact RpL.none_of z.2 r
  | .dct o ks ds, v, F, z, h => by
    obtain ⟨a', vs, F', ho, e, r, i, q⟩ := h
    simp only [isFz, Bool.and_eq_true, Bool.not_eq_true'] at z
    rcases q with ⟨q1, q2, q3⟩ | ⟨q1, q2, q3⟩
    · rw [z.1] at q1; cases q1
    · subst q3; exact RpL.none_of z.2 r
  | .obj o c ns ds, v, F, z, h => by
    obtain ⟨a', cl, dx, vs, F', e, m, l, r, q⟩ := h
    simp only [isFz, Bool.and_eq_true, Bool.not_eq_true'] at z
    rcases q with ⟨q1, q2, q3⟩ | ⟨q1, q2, q3⟩
    · rw [z.1] at q1; cases q1
    · subst q3; exact RpL.none_of z.2 r
  | .scr ns, _, _, _, h => by
    obtain ⟨_, _, _, f⟩ := h
    exact f
theorem RpL.none_of : ∀ {ds : List D} {vs : List V} {F : List Addr}, isFzL ds = true → RpL C B H ds vs F → F = []
  | [], _, _, _, h => h.2
  | d :: ds, vs, F, z, h => by
    obtain ⟨v, vs', F1, F2, e, f, p, q⟩ := h
    simp only [isFzL, Bool.and_eq_true] at z
    subst f
    rw [Rp.none_of z.1 p, RpL.none_of z.2 q]
    rfl
end
/-- what bears no mark is in B alone -/
theorem Rp.fixed {d : D} {v : V} {F : List Addr} (z : isFz d = true) (h : Rp C B H d v F) (hs : Sub B B') : Rp C B' H' d v [] := by
  have e := Rp.none_of z h
  subst e
  exact Rp.frame hs (fun a ha => by cases ha) h
theorem RpL.fixed {ds : List D} {vs : List V} {F : List Addr} (z : isFzL ds = true) (h : RpL C B H ds vs F) (hs : Sub B B') : RpL C B' H' ds vs [] := by
  have e := RpL.none_of z h
  subst e
  exact RpL.frame hs (fun a ha => by cases ha) h
mutual
theorem isFz_fz : ∀ d : D, isFz (fz d) = true
  | .non => rfl
  | .bl _ => rfl
  | .int _ => rfl
  | .str _ => rfl
  | .tup ds => by simp only [fz, isFz]; exact isFzL_fzL ds
  | .lst o ds => by simp only [fz, isFz, isFzL_fzL ds]; rfl
  | .dct o ks ds => by simp only [fz, isFz, isFzL_fzL ds]; rfl
  | .obj o c ns ds => by simp only [fz, isFz, isFzL_fzL ds]; rfl
  | .scr _ => rfl
theorem isFzL_fzL : ∀ ds : List D, isFzL (fzL ds) = true
  | [] => rfl
  | d :: r => by simp only [fzL, isFzL, isFz_fz d, isFzL_fzL r]; rfl
end
mutual
theorem fz_of : ∀ d : D, isFz d = true → fz d = d
  | .non, _ => rfl
  | .bl _, _ => rfl
  | .int _, _ => rfl
  | .str _, _ => rfl
  | .tup ds, z => by simp only [isFz] at z; simp only [fz, fzL_of ds z]
  | .lst o ds, z => by simp only [isFz, Bool.and_eq_true, Bool.not_eq_true'] at z; simp only [fz, fzL_of ds z.2, z.1]
  | .dct o ks ds, z => by simp only [isFz, Bool.and_eq_true, Bool.not_eq_true'] at z; simp only [fz, fzL_of ds z.2, z.1]
  | .obj o c ns ds, z => by simp only [isFz, Bool.and_eq_true, Bool.not_eq_true'] at z; simp only [fz, fzL_of ds z.2, z.1]
  | .scr _, _ => rfl
theorem fzL_of : ∀ ds : List D, isFzL ds = true → fzL ds = ds
  | [], _ => rfl
  | d :: r, z => by simp only [isFzL, Bool.and_eq_true] at z; simp only [fzL, fz_of d z.1, fzL_of r z.2]
end
/-- the marked part of H is put into B -/
def frz (B H : Hp) (F : List Addr) : Hp := fun a => if a ∈ F then H a else B a
theorem frz_sub {F : List Addr} (o : ∀ a ∈ F, B a = none) : Sub B (frz B H F) := fun a u e => by
  unfold frz
  by_cases h : a ∈ F
  · rw [o a h] at e; cases e
  · rw [if_neg h]; exact e
theorem frz_in {F : List Addr} (s : Sub B H) : Sub (frz B H F) H := fun a u e => by
  unfold frz at e
  by_cases h : a ∈ F
  · rw [if_pos h] at e; exact e
  · rw [if_neg h] at e; exact s a u e
mutual
theorem Rp.freeze {F0 : List Addr} (o : ∀ a ∈ F0, B a = none) : ∀ {d : D} {v : V} {F : List Addr}, (∀ a ∈ F, a ∈ F0) → Rp C B H d v F → Rp C (frz B H F0) H' (fz d) v []
  | .non, _, _, _, h => ⟨h.1, rfl⟩
  | .bl _, _, _, _, h => ⟨h.1, rfl⟩
  | .int _, _, _, _, h => ⟨h.1, rfl⟩
  | .str _, _, _, _, h => ⟨h.1, rfl⟩
  | .tup ds, v, F, k, h => by
    obtain ⟨a', vs, e, s, r⟩ := h
    exact ⟨a', vs, e, (frz_sub o).t s, RpL.freeze o k r⟩
  | .lst ow ds, v, F, k, h => by
    obtain ⟨a, vs, F', e, r, q⟩ := h
    rcases q with ⟨q1, q2, q3⟩ | ⟨q1, q2, q3⟩
    · subst q3
      refine ⟨a, vs, [], e, RpL.freeze o (fun b hb => k b (List.mem_cons_of_mem _ hb)) r, .inr ⟨rfl, ?_, rfl⟩⟩
      unfold frz
      rw [if_pos (k a List.mem_cons_self)]; exact q2
    · subst q3
      exact ⟨a, vs, [], e, RpL.freeze o k r, .inr ⟨rfl, (frz_sub o) _ _ q2, rfl⟩⟩
  | .dct ow ks ds, v, F, k, h => by
    obtain ⟨a, vs, F', ho, e, r, i, q⟩ := h
    rcases q with ⟨q1, q2, q3⟩ | ⟨q1, q2, q3⟩
    · subst q3
      refine ⟨a, vs, [], ho, e, RpL.freeze o (fun b hb => k b (List.mem_cons_of_mem _ hb)) r, i, .inr ⟨rfl, ?_, rfl⟩⟩
      unfold frz
      rw [if_pos (k a List.mem_cons_self)]; exact q2
    · subst q3
      exact ⟨a, vs, [], ho, e, RpL.freeze o k r, i, .inr ⟨rfl, (frz_sub o) _ _ q2, rfl⟩⟩
  | .obj ow c ns ds, v, F, k, h => by
    obtain ⟨a, cl, dx, vs, F', e, m, l, r, q⟩ := h
    rcases q with ⟨q1, q2, q3⟩ | ⟨q1, q2, q3⟩
    · subst q3
      refine ⟨a, cl, dx, vs, [], e, m, l, RpL.freeze o (fun b hb => k b (List.mem_cons_of_mem _ hb)) r, .inr ⟨rfl, ?_, rfl⟩⟩
      unfold frz
      rw [if_pos (k a List.mem_cons_self)]; exact q2
    · subst q3
      exact ⟨a, cl, dx, vs, [], e, m, l, RpL.freeze o k r, .inr ⟨rfl, (frz_sub o) _ _ q2, rfl⟩⟩
  | .scr ns, v, F, k, h => by
    obtain ⟨a, e, q, f⟩ := h
    exact ⟨a, e, (frz_sub o).l q, rfl⟩
theorem RpL.freeze {F0 : List Addr} (o : ∀ a ∈ F0, B a = none) : ∀ {ds : List D} {vs : List V} {F : List Addr}, (∀ a ∈ F, a ∈ F0) → RpL C B H ds vs F → RpL C (frz B H F0) H' (fzL ds) vs []
  | [], _, _, _, h => ⟨h.1, rfl⟩
  | d :: ds, vs, F, k, h => by
    obtain ⟨v, vs', F1, F2, e, f, p, q⟩ := h
    subst f
    exact ⟨v, vs', [], [], e, rfl, Rp.freeze o (fun a ha => k a (List.mem_append_left _ ha)) p, RpL.freeze o (fun a ha => k a (List.mem_append_right _ ha)) q⟩
end
theorem RpL.len : ∀ {ds : List D} {vs : List V} {F : List Addr}, RpL C B H ds vs F → vs.length = ds.length
  | [], _, _, h => by rw [h.1]; rfl
  | d :: ds, vs, F, h => by
    obtain ⟨v, vs', F1, F2, e, f, p, q⟩ := h
    rw [e, List.length_cons, List.length_cons, RpL.len q]
theorem RpL.get : ∀ {ds : List D} {vs : List V} {F : List Addr} {i : Nat} {d : D}, RpL C B H ds vs F → ds[i]? = some d → ∃ v G, vs[i]? = some v ∧ Rp C B H d v G
  | [], _, _, _, _, _, e => by simp at e
  | d :: ds, vs, F, 0, d', h, e => by
    obtain ⟨v, vs', F1, F2, e1, f, p, q⟩ := h
    subst e1
    simp only [List.getElem?_cons_zero, Option.some.injEq] at e
    subst e
    exact ⟨v, F1, rfl, p⟩
  | d :: ds, vs, F, i + 1, d', h, e => by
    obtain ⟨v, vs', F1, F2, e1, f, p, q⟩ := h
    subst e1
    rw [List.getElem?_cons_succ] at e ⊢
    exact RpL.get q e
theorem RpL.app : ∀ {ds es : List D} {vs ws : List V} {F G : List Addr}, RpL C B H ds vs F → RpL C B H es ws G → RpL C B H (ds ++ es) (vs ++ ws) (F ++ G)
  | [], _, _, _, _, _, h, k => by obtain ⟨rfl, rfl⟩ := h; exact k
  | d :: ds, es, vs, ws, F, G, h, k => by
    obtain ⟨v, vs', F1, F2, rfl, rfl, p, q⟩ := h
    exact ⟨v, vs' ++ ws, F1, F2 ++ G, rfl, by rw [List.append_assoc], p, RpL.app q k⟩
theorem isFzL_app : ∀ (a b : List D), isFzL (a ++ b) = (isFzL a && isFzL b)
  | [], b => by simp [isFzL]
  | d :: r, b => by simp only [List.cons_append, isFzL, isFzL_app r b, Bool.and_assoc]
theorem isFzL_mem : ∀ {a : List D} {d : D}, isFzL a = true → d ∈ a → isFz d = true
  | d :: r, x, h, m => by
    simp only [isFzL, Bool.and_eq_true] at h
    rcases List.mem_cons.mp m with rfl | m
    · exact h.1
    · exact isFzL_mem h.2 m
theorem isFzL_iff {a : List D} : isFzL a = true ↔ ∀ d ∈ a, isFz d = true := by
  constructor
  · exact fun h d m => isFzL_mem h m
  · induction a with
    | nil => intro _; rfl
    | cons d r ih =>
      intro h
      simp only [isFzL, Bool.and_eq_true]
      exact ⟨h d List.mem_cons_self, ih fun x m => h x (List.mem_cons_of_mem _ m)⟩
end

/-! ### slots -/
def RpS (C : Ctx) (B H : Hp) : List (Option D) → List (Option V) → List Addr → Prop
  | [], σ, F => σ = [] ∧ F = []
  | none :: ρ, σ, F => ∃ x σ', σ = x :: σ' ∧ RpS C B H ρ σ' F
  | some d :: ρ, σ, F => ∃ v σ' F1 F2, σ = some v :: σ' ∧ F = F1 ++ F2 ∧ Rp C B H d v F1 ∧ RpS C B H ρ σ' F2
section
variable {C : Ctx} {B B' H H' : Hp}
theorem RpS.frame (hs : Sub B B') : ∀ {ρ : List (Option D)} {σ : List (Option V)} {F : List Addr}, (∀ a ∈ F, H' a = H a) → RpS C B H ρ σ F → RpS C B' H' ρ σ F
  | [], _, _, _, h => h
  | none :: ρ, σ, F, k, h => by
    obtain ⟨x, σ', e, r⟩ := h
    exact ⟨x, σ', e, RpS.frame hs k r⟩
  | some d :: ρ, σ, F, k, h => by
    obtain ⟨v, σ', F1, F2, e, f, p, r⟩ := h
    subst f
    exact ⟨v, σ', F1, F2, e, rfl, Rp.frame hs (fun a ha => k a (List.mem_append_left _ ha)) p, RpS.frame hs (fun a ha => k a (List.mem_append_right _ ha)) r⟩
theorem RpS.live : ∀ {ρ : List (Option D)} {σ : List (Option V)} {F : List Addr}, RpS C B H ρ σ F → ∀ a ∈ F, H a ≠ none
  | [], _, _, h, a, ha => by rw [h.2] at ha; cases ha
  | none :: ρ, σ, F, h, a, ha => by
    obtain ⟨x, σ', e, r⟩ := h
    exact RpS.live r a ha
  | some d :: ρ, σ, F, h, a, ha => by
    obtain ⟨v, σ', F1, F2, e, f, p, r⟩ := h
    subst f
    rcases List.mem_append.mp ha with ha | ha
    · exact Rp.live p a ha
    · exact RpS.live r a ha
theorem RpS.len : ∀ {ρ : List (Option D)} {σ : List (Option V)} {F : List Addr}, RpS C B H ρ σ F → σ.length = ρ.length
  | [], _, _, h => by rw [h.1]; rfl
  | none :: ρ, σ, F, h => by
    obtain ⟨x, σ', e, r⟩ := h
    rw [e, List.length_cons, List.length_cons, RpS.len r]
  | some d :: ρ, σ, F, h => by
    obtain ⟨v, σ', F1, F2, e, f, p, r⟩ := h
    rw [e, List.length_cons, List.length_cons, RpS.len r]
/-- one slot taken out: what stands there, and the rest as a frame -/
theorem RpS.slot : ∀ {ρ : List (Option D)} {σ : List (Option V)} {F : List Addr} {i : Nat} {x : Option D}, RpS C B H ρ σ F → ρ[i]? = some x →
    ∃ G O1 O2, F = O1 ++ (G ++ O2) ∧ (x = none → G = []) ∧ (∀ d, x = some d → ∃ v, σ[i]? = some (some v) ∧ Rp C B H d v G) ∧
      ∀ B' H', Sub B B' → (∀ a ∈ O1 ++ O2, H' a = H a) → (∀ d' v' G', Rp C B' H' d' v' G' → RpS C B' H' (ρ.set i (some d')) (σ.set i (some v')) (O1 ++ (G' ++ O2))) ∧ ∀ y, RpS C B' H' (ρ.set i none) (σ.set i y) (O1 ++ O2)
  | [], _, _, _, _, _, e => by simp at e
  | none :: ρ, σ, F, 0, x, h, e => by
    obtain ⟨y, σ', rfl, r⟩ := h
    simp only [List.getElem?_cons_zero, Option.some.injEq] at e
    subst e
    refine ⟨[], [], F, rfl, fun _ => rfl, fun d z => (by cases z), fun B' H' hs k => ⟨fun d' v' G' p => ?_, fun z => ?_⟩⟩
    · exact ⟨v', σ', G', F, rfl, rfl, p, RpS.frame hs k r⟩
    · exact ⟨z, σ', rfl, RpS.frame hs k r⟩
  | some d :: ρ, σ, F, 0, x, h, e => by
    obtain ⟨v, σ', F1, F2, rfl, rfl, p, r⟩ := h
    simp only [List.getElem?_cons_zero, Option.some.injEq] at e
    subst e
    refine ⟨F1, [], F2, rfl, fun z => (by cases z), fun d' z => (by cases z; exact ⟨v, rfl, p⟩), fun B' H' hs k => ⟨fun d' v' G' p => ?_, fun z => ?_⟩⟩
    · exact ⟨v', σ', G', F2, rfl, rfl, p, RpS.frame hs k r⟩
    · exact ⟨z, σ', rfl, RpS.frame hs k r⟩
  | none :: ρ, σ, F, i + 1, x, h, e => by
    obtain ⟨y, σ', rfl, r⟩ := h
    rw [List.getElem?_cons_succ] at e
    obtain ⟨G, O1, O2, f, n, g, w⟩ := RpS.slot r e
    refine ⟨G, O1, O2, f, n, fun d z => (by rw [List.getElem?_cons_succ]; exact g d z), fun B' H' hs k => ?_⟩
    obtain ⟨w1, w2⟩ := w B' H' hs k
    exact ⟨fun d' v' G' p => ⟨y, _, rfl, w1 d' v' G' p⟩, fun z => ⟨y, _, rfl, w2 z⟩⟩
  | some d :: ρ, σ, F, i + 1, x, h, e => by
    obtain ⟨v, σ', F1, F2, rfl, rfl, p, r⟩ := h
    rw [List.getElem?_cons_succ] at e
    obtain ⟨G, O1, O2, f, n, g, w⟩ := RpS.slot r e
    subst f
    refine ⟨G, F1 ++ O1, O2, by simp only [List.append_assoc], n, fun d z => (by rw [List.getElem?_cons_succ]; exact g d z), fun B' H' hs k => ?_⟩
    have k1 : ∀ a ∈ F1, H' a = H a := fun a ha => k a (by simp [ha])
    have k2 : ∀ a ∈ O1 ++ O2, H' a = H a := fun a ha => k a (by
      rcases List.mem_append.mp ha with ha | ha <;> simp [ha])
    obtain ⟨w1, w2⟩ := w B' H' hs k2
    refine ⟨fun d' v' G' q => ⟨v, _, F1, O1 ++ (G' ++ O2), rfl, by simp only [List.append_assoc], Rp.frame hs k1 p, w1 d' v' G' q⟩, fun z => ⟨v, _, F1, O1 ++ O2, rfl, by simp only [List.append_assoc], Rp.frame hs k1 p, w2 z⟩⟩
end

/-! ### states -/
/-- the slots' marked places are Os, those of what is held beside them F -/
structure Mch (C : Ctx) (σ : L2.St) (H B : Hp) (F Os : List Addr) (ρ : List (Option D)) : Prop where
  slt : RpS C B H ρ σ Os
  nd : (F ++ Os).Nodup
  out : ∀ a ∈ F ++ Os, B a = none
  liv : ∀ a ∈ F ++ Os, H a ≠ none
  sub : Sub B H
  pn : ∀ i, C.L.contains i = true → σ[i]? = C.pv i
  b0 : Sub C.B0 B
/-- a step: what is not in O stays; what is marked or in B behind it was so, or was in O, or is new -/
structure Ext (H B : Hp) (O : List Addr) (H' B' : Hp) (N : List Addr) : Prop where
  keep : ∀ a o, H a = some o → a ∉ O → H' a = some o
  dom : ∀ a, (B' a ≠ none ∨ a ∈ N) → B a ≠ none ∨ a ∈ O ∨ H a = none
  sub : Sub B B'
theorem Ext.refl {H B : Hp} {O : List Addr} : Ext H B O H B O := ⟨fun _ _ h _ => h, fun a h => h.elim .inl fun h => .inr (.inl h), Sub.refl _⟩
theorem Ext.trans {H B H1 B1 H2 B2 : Hp} {O O1 N : List Addr} (e : Ext H B O H1 B1 O1) (o1 : ∀ a ∈ O1, B1 a = none) (f : Ext H1 B1 O1 H2 B2 N) : Ext H B O H2 B2 N := by
  refine ⟨fun a o h n => ?_, fun a h => ?_, e.sub.trans f.sub⟩
  · refine f.keep a o (e.keep a o h n) fun z => ?_
    rcases e.dom a (.inr z) with q | q | q
    · cases eb : B a with
      | none => exact q eb
      | some u => have := e.sub a u eb; rw [o1 a z] at this; cases this
    · exact n q
    · rw [h] at q; cases q
  · rcases f.dom a h with q | q | q
    · exact e.dom a (.inl q)
    · exact e.dom a (.inr q)
    · cases eh : H a with
      | none => exact .inr (.inr rfl)
      | some u =>
        by_cases n : a ∈ O
        · exact .inr (.inl n)
        · rw [e.keep a u eh n] at q; cases q
/-- what is held beside stays beside -/
theorem Ext.beside {H B H' B' : Hp} {O N F : List Addr} (e : Ext H B O H' B' N) : Ext H B (F ++ O) H' B' (F ++ N) := by
  refine ⟨fun a o h n => e.keep a o h fun z => n (List.mem_append_right _ z), fun a h => ?_, e.sub⟩
  have : (B' a ≠ none ∨ a ∈ N) ∨ a ∈ F := by
    rcases h with h | h
    · exact .inl (.inl h)
    · rcases List.mem_append.mp h with h | h
      · exact .inr h
      · exact .inl (.inr h)
  rcases this with h | h
  · rcases e.dom a h with q | q | q
    · exact .inl q
    · exact .inr (.inl (List.mem_append_right _ q))
    · exact .inr (.inr q)
  · exact .inr (.inl (List.mem_append_left _ h))
/-- less is marked behind it -/
theorem Ext.less {H B H' B' : Hp} {O N N' : List Addr} (e : Ext H B O H' B' N) (h : ∀ a ∈ N', a ∈ N) : Ext H B O H' B' N' :=
  ⟨e.keep, fun a q => e.dom a (q.elim .inl fun z => .inr (h a z)), e.sub⟩
section
variable {C : Ctx} {σ : L2.St} {H B H1 B1 H2 B2 : Hp} {F G Os Os1 Os2 : List Addr} {ρ ρ1 ρ2 : List (Option D)}
theorem Mch.drop (m : Mch C σ H B F Os ρ) : Mch C σ H B [] Os ρ :=
  ⟨m.slt, (List.nodup_append.mp m.nd).2.1, fun a h => m.out a (List.mem_append_right _ h), fun a h => m.liv a (List.mem_append_right _ h), m.sub, m.pn, m.b0⟩
theorem Mch.left (m : Mch C σ H B (F ++ G) Os ρ) : Mch C σ H B F Os ρ := by
  have s : (F ++ Os).Sublist ((F ++ G) ++ Os) := (List.sublist_append_left F G).append_right Os
  exact ⟨m.slt, m.nd.sublist s, fun a h => m.out a (s.subset h), fun a h => m.liv a (s.subset h), m.sub, m.pn, m.b0⟩
theorem Mch.right (m : Mch C σ H B (F ++ G) Os ρ) : Mch C σ H B G Os ρ := by
  have s : (G ++ Os).Sublist ((F ++ G) ++ Os) := (List.sublist_append_right F G).append_right Os
  exact ⟨m.slt, m.nd.sublist s, fun a h => m.out a (s.subset h), fun a h => m.liv a (s.subset h), m.sub, m.pn, m.b0⟩
theorem Mch.outF (m : Mch C σ H B F Os ρ) : ∀ a ∈ F, B a = none := fun a h => m.out a (List.mem_append_left _ h)
theorem Mch.outO (m : Mch C σ H B F Os ρ) : ∀ a ∈ Os, B a = none := fun a h => m.out a (List.mem_append_right _ h)
theorem Mch.apart (m : Mch C σ H B F Os ρ) : ∀ a ∈ F, a ∉ Os := fun a h z => (List.nodup_append.mp m.nd).2.2 a h a z rfl
/-- held things are untouched by a step of the slots -/
theorem Mch.held (m : Mch C σ H1 B1 F Os1 ρ1) (e : Ext H1 B1 Os1 H2 B2 (G ++ Os2)) : ∀ a ∈ F, H2 a = H1 a := fun a h => by
  cases q : H1 a with
  | none => exact absurd q (m.liv a (List.mem_append_left _ h))
  | some o => exact e.keep a o q (m.apart a h)
theorem Mch.and (m : Mch C σ H1 B1 F Os1 ρ1) (e : Ext H1 B1 Os1 H2 B2 (G ++ Os2)) (n : Mch C σ H2 B2 G Os2 ρ2) : Mch C σ H2 B2 (F ++ G) Os2 ρ2 := by
  have key : ∀ a ∈ F, (B2 a ≠ none ∨ a ∈ G ++ Os2) → False := fun a h z => by
    rcases e.dom a z with q | q | q
    · exact q (m.outF a h)
    · exact m.apart a h q
    · exact m.liv a (List.mem_append_left _ h) q
  refine ⟨n.slt, ?_, fun a h => ?_, fun a h => ?_, n.sub, n.pn, n.b0⟩
  · rw [List.append_assoc]
    refine List.nodup_append.mpr ⟨(List.nodup_append.mp m.nd).1, n.nd, fun a ha b hb z => ?_⟩
    subst z
    exact key a ha (.inr hb)
  · rw [List.append_assoc] at h
    rcases List.mem_append.mp h with h | h
    · cases q : B2 a with
      | none => rfl
      | some u => exact (key a h (.inl (by rw [q]; simp))).elim
    · exact n.out a h
  · rw [List.append_assoc] at h
    rcases List.mem_append.mp h with h | h
    · rw [m.held e a h]; exact m.liv a (List.mem_append_left _ h)
    · exact n.liv a h
end
end Gc

namespace Gc
open PySem PySem.Spec PyProof.Rows L2
/-! Denotations, and what a reading asks by them. -/
abbrev Ro := List (Option D)
structure Exn where
  c : Str
  ns : List Str
  ds : List D
inductive R (α : Type) where
  | ok (a : α) (ρ : Ro) | exc (x : Exn) (ρ : Ro) | bad
def R.bind {α β : Type} (r : R α) (f : α → Ro → R β) : R β :=
  match r with
  | .ok a ρ => f a ρ
  | .exc x ρ => .exc x ρ
  | .bad => .bad
/-- a value; a slot that owns what it holds; an own field of the instance that a slot owns -/
inductive Op where
  | val (d : D) | plc (i : Nat) | fld (i : Nat) (f : Str)
abbrev M (α : Type) := Ro → R α
/-- an exception's class and own dict -/
def XRep (C : Ctx) (B : Hp) (x : Exn) (cls : Value) (dd : Option Addr) : Prop :=
  ∃ cl a vs, cls = .ref cl ∧ C.mg x.c = some (.ref cl) ∧ dd = some a ∧ B a = some (.xd (x.ns.zip vs)) ∧ x.ns.length = vs.length ∧ RpL C B B x.ds vs [] ∧ isFzL x.ds = true
def RpO (C : Ctx) (σ : L2.St) (B H : Hp) : Op → V → List Addr → Prop
  | .val d, v, F => Rp C B H d v F
  | .plc i, v, F => σ[i]? = some (some v) ∧ F = []
  | .fld i f, v, F => (∃ a cl dx fvs, σ[i]? = some (some (.ref a)) ∧ H a = some (.ins cl dx fvs) ∧ fvs.lookup f = some v) ∧ F = []
def RpOs (C : Ctx) (σ : L2.St) (B H : Hp) : List Op → List V → List Addr → Prop
  | [], vs, F => vs = [] ∧ F = []
  | o :: os, vs, F => ∃ v vs' F1 F2, vs = v :: vs' ∧ F = F1 ++ F2 ∧ RpO C σ B H o v F1 ∧ RpOs C σ B H os vs' F2
/-- what is wanted behind, by what the denotation gave -/
def Kg {α β : Type} (C : Ctx) (W : WX) (σ : L2.St) (q : Bool) (rep : Hp → Hp → α → β → List Addr → Prop) (H B : Hp) (O : List Addr) (r : R α) (Q : β → Hp → Prop) : Prop :=
  match r with
  | .ok o ρ' => ∀ v H' B' F Os', rep B' H' o v F → Mch C σ H' B' F Os' ρ' → Ext H B O H' B' (F ++ Os') → (q = true → ∀ a ∈ O, H' a = H a) → Q v H'
  | .exc x ρ' => ∀ cls dd H' B' Os', XRep C B' x cls dd → Mch C σ H' B' [] Os' ρ' → Ext H B O H' B' Os' → W cls dd σ H'
  | .bad => False
def tG {α β : Type} (C : Ctx) (W : WX) (q : Bool) (rep : L2.St → Hp → Hp → α → β → List Addr → Prop) (m : M α) : L2.St → Hp → (β → Hp → Prop) → Prop :=
  fun σ H Q => ∃ B Os ρ, Mch C σ H B [] Os ρ ∧ Kg C W σ q (rep σ) H B Os (m ρ) Q
abbrev repO (C : Ctx) : L2.St → Hp → Hp → Op → V → List Addr → Prop := fun σ => RpO C σ
abbrev repOs (C : Ctx) : L2.St → Hp → Hp → List Op → List V → List Addr → Prop := fun σ => RpOs C σ
abbrev repB : L2.St → Hp → Hp → Bool → Bool → List Addr → Prop := fun _ _ _ a b F => a = b ∧ F = []
abbrev tM (C : Ctx) (W : WX) (q : Bool) (m : M Op) : TE := tG C W q (repO C) m
abbrev tMs (C : Ctx) (W : WX) (q : Bool) (m : M (List Op)) : TA := tG C W q (repOs C) m
abbrev tMb (C : Ctx) (W : WX) (q : Bool) (m : M Bool) : TT := tG C W q repB m
/-- where one stands -/
structure On (X : Cx) (C : Ctx) (W : WX) : Prop where
  K : X.K = C.K
  mg : X.mg = C.mg
  tk : Takes X W
def SE (X : Cx) (C : Ctx) (W : WX) (q : Bool) (e : Expr) (m : M Op) : Prop := PE X e (tM C W q m)
def SA (X : Cx) (C : Ctx) (W : WX) (q : Bool) (es : List Expr) (m : M (List Op)) : Prop := PA X es (tMs C W q m)
def SB (X : Cx) (C : Ctx) (W : WX) (q : Bool) (e : Expr) (m : M Bool) : Prop := PT X e (tMb C W q m)
theorem PE.le {X : Cx} {e : Expr} {t t' : TE} (h : PE X e t) (k : ∀ σ H Q, t' σ H Q → t σ H Q) : PE X e t' := ⟨fun pins s σ H Q I q => h.run pins s σ H Q I (k _ _ _ q)⟩
theorem PA.le {X : Cx} {es : List Expr} {t t' : TA} (h : PA X es t) (k : ∀ σ H Q, t' σ H Q → t σ H Q) : PA X es t' := ⟨fun pos pins s σ H Q I q => h.run pos pins s σ H Q I (k _ _ _ q)⟩
theorem PT.le {X : Cx} {e : Expr} {t t' : TT} (h : PT X e t) (k : ∀ σ H Q, t' σ H Q → t σ H Q) : PT X e t' := ⟨fun pins s σ H Q I q => h.run pins s σ H Q I (k _ _ _ q)⟩
theorem PW.le {X : Cx} {e : Expr} {t t' : TT} (h : PW X e t) (k : ∀ σ H Q, t' σ H Q → t σ H Q) : PW X e t' := ⟨fun wh pins s σ H Q I q => h.run wh pins s σ H Q I (k _ _ _ q)⟩
section
variable {α β γ δ : Type} {C : Ctx} {W : WX} {σ : L2.St} {q qa qb : Bool} {H B H1 B1 H2 B2 : Hp} {O O1 : List Addr}
theorem Kg.step {rep : Hp → Hp → α → β → List Addr → Prop} {r : R α} {Q : β → Hp → Prop} (e : Ext H B O H1 B1 O1) (o1 : ∀ a ∈ O1, B1 a = none) (qt : q = true → ∀ a ∈ O, H1 a = H a) (lv : ∀ a ∈ O, H a ≠ none)
    (h : Kg C W σ q rep H B O r Q) : Kg C W σ q rep H1 B1 O1 r Q := by
  cases r with
  | ok o ρ' =>
    intro v H' B' F Os' rp m f qf
    refine h v H' B' F Os' rp m (e.trans o1 f) fun hq a ha => ?_
    have e1 := qt hq a ha
    by_cases hm : a ∈ O1
    · exact (qf hq a hm).trans e1
    · cases z : H1 a with
      | none => rw [z] at e1; exact absurd e1.symm (lv a ha)
      | some u => rw [← e1, z]; exact f.keep a u z hm
  | exc x ρ' =>
    intro cls dd H' B' Os' xr m f
    exact h cls dd H' B' Os' xr m (e.trans o1 f)
  | bad => exact h
/-- one part, then the rest -/
theorem un_run {rep : L2.St → Hp → Hp → α → β → List Addr → Prop} {rep' : L2.St → Hp → Hp → γ → δ → List Addr → Prop} {ma : M α} {f : α → Ro → R γ} {Q : δ → Hp → Prop} {r : β → Hp → Prop} (hq : q = true → qa = true)
    (h : tG C W q rep' (fun ρ => (ma ρ).bind f) σ H Q)
    (hk : ∀ o ρ1 v H1 B1 F Os1, rep σ B1 H1 o v F → Mch C σ H1 B1 F Os1 ρ1 → Kg C W σ q (rep' σ) H1 B1 (F ++ Os1) (f o ρ1) Q → r v H1) : tG C W qa rep ma σ H r := by
  obtain ⟨B, Os, ρ, m, k⟩ := h
  refine ⟨B, Os, ρ, m, ?_⟩
  have k : Kg C W σ q (rep' σ) H B Os ((ma ρ).bind f) Q := k
  cases e : ma ρ with
  | ok o ρ1 =>
    rw [e] at k
    intro v H1 B1 F Os1 rp m1 e1 q1
    exact hk o ρ1 v H1 B1 F Os1 rp m1 (Kg.step e1 m1.out (fun z => q1 (hq z)) (fun a ha => m.liv a ha) k)
  | exc x ρ1 =>
    rw [e] at k
    intro cls dd H1 B1 Os1 xr m1 e1
    exact k cls dd H1 B1 Os1 xr m1 e1
  | bad =>
    rw [e] at k
    exact k
/-- an own field stays the field where nothing that is owned changes -/
def okG : Op → Bool → Bool
  | .fld _ _, q => q
  | _, _ => true
theorem RpO.held {o : Op} {v : V} {F Os1 Os2 G : List Addr} {ρ1 : Ro} (h : RpO C σ B1 H1 o v F) (m : Mch C σ H1 B1 F Os1 ρ1) (e : Ext H1 B1 Os1 H2 B2 (G ++ Os2)) (g : okG o q = true) (qt : q = true → ∀ a ∈ Os1, H2 a = H1 a) : RpO C σ B2 H2 o v F := by
  cases o with
  | val d => exact Rp.frame e.sub (m.held e) h
  | plc i => exact h
  | fld i f =>
    obtain ⟨⟨a, cl, dx, fvs, h1, h2, h3⟩, h4⟩ := h
    refine ⟨⟨a, cl, dx, fvs, h1, ?_, h3⟩, h4⟩
    by_cases z : a ∈ Os1
    · rw [qt g a z]; exact h2
    · exact e.keep a _ h2 z
theorem bin_run {rep' : L2.St → Hp → Hp → γ → δ → List Addr → Prop} {ma mb : M Op} {f : Op → Op → Ro → R γ} {Q : δ → Hp → Prop} {r : V → V → Hp → Prop} (hqa : q = true → qa = true) (hqb : q = true → qb = true)
    (h : tG C W q rep' (fun ρ => (ma ρ).bind fun oa ρ1 => if okG oa qb = true then (mb ρ1).bind fun ob ρ2 => f oa ob ρ2 else .bad) σ H Q)
    (hk : ∀ oa ob ρ2 x y H2 B2 Fa Fb Os2, RpO C σ B2 H2 oa x Fa → RpO C σ B2 H2 ob y Fb → Mch C σ H2 B2 (Fa ++ Fb) Os2 ρ2 → Kg C W σ q (rep' σ) H2 B2 ((Fa ++ Fb) ++ Os2) (f oa ob ρ2) Q → r x y H2) :
    tM C W qa ma σ H fun x H1 => tM C W qb mb σ H1 fun y H2 => r x y H2 := by
  refine un_run hqa h fun oa ρ1 x H1 B1 Fa Os1 ra m1 k => ?_
  by_cases g : okG oa qb = true
  · rw [if_pos g] at k
    refine ⟨B1, Os1, ρ1, m1.drop, ?_⟩
    cases e : mb ρ1 with
    | ok ob ρ2 =>
      rw [e] at k
      intro y H2 B2 Fb Os2 rb m2 e2 q2
      have m3 := m1.and e2 m2
      refine hk oa ob ρ2 x y H2 B2 Fa Fb Os2 (ra.held m1 e2 g q2) rb m3 ?_
      refine Kg.step (e := (e2.beside (F := Fa)).less (fun a ha => by rw [← List.append_assoc]; exact ha)) m3.out (fun z a ha => ?_) m1.liv k
      rcases List.mem_append.mp ha with ha | ha
      · exact m1.held e2 a ha
      · exact q2 (hqb z) a ha
    | exc x' ρ2 =>
      rw [e] at k
      intro cls dd H2 B2 Os2 xr m2 e2
      exact k cls dd H2 B2 Os2 xr m2 ((e2.beside (F := Fa)).less fun a ha => List.mem_append_right _ ha)
    | bad =>
      rw [e] at k
      exact k
  · rw [if_neg g] at k
    exact k.elim
end

/-! ### what an operand holds -/
def lookF (f : Str) (ns : List Str) (ds : List D) : Option D := (ns.zip ds).lookup f
def rd : Op → Ro → Option D
  | .val d, _ => some d
  | .plc i, ρ => (ρ[i]?).join
  | .fld i f, ρ => match (ρ[i]?).join with
    | some (.obj _ _ ns ds) => lookF f ns ds
    | _ => none
section
variable {C : Ctx} {B H : Hp}
theorem RpL.look {f : Str} : ∀ {ns : List Str} {ds : List D} {vs : List V} {F : List Addr} {d : D}, RpL C B H ds vs F → lookF f ns ds = some d → ∃ v G, (ns.zip vs).lookup f = some v ∧ Rp C B H d v G ∧ ∀ a ∈ G, a ∈ F
  | [], _, _, _, _, _, e => by simp [lookF] at e
  | _ :: _, [], _, _, _, _, e => by simp [lookF] at e
  | n :: ns, d :: ds, vs, F, d', h, e => by
    obtain ⟨v, vs', F1, F2, e1, f1, p, q⟩ := h
    subst e1
    subst f1
    unfold lookF at e
    rw [List.zip_cons_cons, List.lookup_cons] at e
    rw [List.zip_cons_cons, List.lookup_cons]
    cases hb : f == n with
    | true =>
      rw [hb] at e
      simp only [Option.some.injEq] at e
      subst e
      exact ⟨v, F1, rfl, p, fun a ha => List.mem_append_left _ ha⟩
    | false =>
      rw [hb] at e
      obtain ⟨v', G, h1, h2, h3⟩ := RpL.look q e
      exact ⟨v', G, h1, h2, fun a ha => List.mem_append_right _ (h3 a ha)⟩
theorem rd_rep {σ : L2.St} {o : Op} {v : V} {F G Os : List Addr} {ρ : Ro} {d : D} (h : RpO C σ B H o v F) (m : Mch C σ H B (F ++ G) Os ρ) (e : rd o ρ = some d) : ∃ G, Rp C B H d v G := by
  cases o with
  | val d' =>
    have e' : d' = d := Option.some.inj e
    subst e'
    exact ⟨F, h⟩
  | plc i =>
    have e : (ρ[i]?).join = some d := e
    cases z : ρ[i]? with
    | none => rw [z] at e; cases e
    | some x =>
      rw [z] at e
      have e : x = some d := e
      subst e
      obtain ⟨G', O1, O2, _, _, g, _⟩ := m.slt.slot z
      obtain ⟨v', h1, h2⟩ := g d rfl
      rw [h.1] at h1
      cases h1
      exact ⟨_, h2⟩
  | fld i f =>
    obtain ⟨⟨a, cl, dx, fvs, h1, h2, h3⟩, h4⟩ := h
    have e : (match (ρ[i]?).join with | some (.obj _ _ ns ds) => lookF f ns ds | _ => none) = some d := e
    cases z : ρ[i]? with
    | none => rw [z] at e; cases e
    | some x =>
      rw [z] at e
      cases x with
      | none => cases e
      | some d0 =>
        cases d0 with
        | obj ow c ns ds =>
          have e : lookF f ns ds = some d := e
          obtain ⟨G', O1, O2, _, _, g, _⟩ := m.slt.slot z
          obtain ⟨v', h5, h6⟩ := g _ rfl
          rw [h1] at h5
          cases h5
          obtain ⟨a', cl', dx', vs, F', e1, mm, l, r, qq⟩ := h6
          cases e1
          have hh : H a = some (.ins cl' dx' (ns.zip vs)) := by
            rcases qq with ⟨_, q2, _⟩ | ⟨_, q2, _⟩
            · exact q2
            · exact m.sub _ _ q2
          rw [hh] at h2
          cases h2
          obtain ⟨v2, G2, k1, k2, _⟩ := RpL.look r e
          rw [h3] at k1
          cases k1
          exact ⟨G2, k2⟩
        | _ => cases e
end

/-! ### operations that change nothing that stood -/
structure PX (C : Ctx) (H B : Hp) (d : D) (z : V) (H' B' : Hp) (F : List Addr) : Prop where
  rep : Rp C B' H' d z F
  keep : ∀ a o, H a = some o → H' a = some o
  dom : ∀ a, (B' a ≠ none ∨ a ∈ F) → B a ≠ none ∨ H a = none
  sub : Sub B B'
  subH : Sub B' H'
  nd : F.Nodup
  out : ∀ a ∈ F, B' a = none
def Pu1 (C : Ctx) (r : V → Hp → VK → Prop) (g : D → Option D) : Prop :=
  ∀ (B H : Hp) (x : V) (a d : D) (G : List Addr) (Q : VK), Sub B H → Rp C B H a x G → g a = some d → (∀ z H' B' F, PX C H B d z H' B' F → Q z H') → r x H Q
def Pu2 (C : Ctx) (r : R2) (g : D → D → Option D) : Prop :=
  ∀ (B H : Hp) (x y : V) (a b d : D) (G G' : List Addr) (Q : VK), Sub B H → Rp C B H a x G → Rp C B H b y G' → g a b = some d → (∀ z H' B' F, PX C H B d z H' B' F → Q z H') → r x y H Q
/-- values one by one, whatever they own -/
def RpA (C : Ctx) (B H : Hp) : List D → List V → Prop := Paired fun d v => ∃ G, Rp C B H d v G
def PuL (C : Ctx) (r : List V → Hp → VK → Prop) (g : List D → Option D) : Prop :=
  ∀ (B H : Hp) (xs : List V) (as : List D) (d : D) (Q : VK), Sub B H → RpA C B H as xs → g as = some d → (∀ z H' B' F, PX C H B d z H' B' F → Q z H') → r xs H Q
def pu (o : Option D) (ρ : Ro) : R Op := match o with
  | some d => .ok (.val d) ρ
  | none => .bad
section
variable {C : Ctx} {W : WX} {σ : L2.St} {q : Bool} {H B H' B' : Hp} {d : D} {z : V} {F0 F Os : List Addr} {ρ : Ro}
theorem PX.sc (s : Sub B H) (h : Rp C B H d z []) : PX C H B d z H B [] :=
  ⟨h, fun _ _ e => e, fun a e => .inl (e.elim id fun z => by cases z), Sub.refl _, s, List.nodup_nil, fun a h => by cases h⟩
theorem upd_keep {p : Addr} {o : HO} (n : H p = none) : ∀ a u, H a = some u → upd H p o a = some u := fun a u e => by
  rw [upd_ne (ne_of_none e n)]; exact e
theorem PX.lst {vs : List V} {ds : List D} {p : Addr} (s : Sub B H) (n : H p = none) (h : RpL C B H ds vs []) : PX C H B (.lst true ds) (.ref p) (upd H p (.lst vs)) B [p] := by
  have bp : B p = none := by
    cases e : B p with
    | none => rfl
    | some u => rw [s _ _ e] at n; cases n
  refine ⟨⟨p, vs, [], rfl, RpL.frame (Sub.refl _) (fun a h => by cases h) h, .inl ⟨rfl, upd_same, rfl⟩⟩, upd_keep n, fun a e => ?_, Sub.refl _, fun a u e => upd_keep n a u (s a u e), by simp, fun a h => ?_⟩
  · rcases e with e | e
    · exact .inl e
    · rw [List.mem_singleton.mp e]; exact .inr n
  · rw [List.mem_singleton.mp h]; exact bp
theorem PX.tup {vs : List V} {ds : List D} {p : Addr} (s : Sub B H) (n : H p = none) (h : RpL C B H ds vs []) : PX C H B (.tup ds) (.ref p) (upd H p (.tup vs)) (upd B p (.tup vs)) [] := by
  have bp : B p = none := by
    cases e : B p with
    | none => rfl
    | some u => rw [s _ _ e] at n; cases n
  refine ⟨⟨p, vs, rfl, .inl (.inl upd_same), RpL.frame (upd_keep bp) (fun a h => by cases h) h⟩, upd_keep n, fun a e => ?_, upd_keep bp, fun a u e => ?_, List.nodup_nil, fun a h => by cases h⟩
  · rcases e with e | e
    · by_cases z : a = p
      · rw [z]; exact .inr n
      · rw [upd_ne z] at e; exact .inl e
    · cases e
  · by_cases z : a = p
    · rw [z, upd_same] at e ⊢; exact e
    · rw [upd_ne z] at e ⊢; exact s a u e
theorem PX.fresh (p : PX C H B d z H' B' F) : ∀ a ∈ F, H a = none := fun a h => by
  rcases p.dom a (.inr h) with e | e
  · cases u : B a with
    | none => exact absurd u e
    | some x => have := p.sub _ _ u; rw [p.out a h] at this; cases this
  · exact e
theorem Mch.pure (m : Mch C σ H B F0 Os ρ) (p : PX C H B d z H' B' F) : Mch C σ H' B' F Os ρ ∧ Ext H B (F0 ++ Os) H' B' (F ++ Os) ∧ ∀ a ∈ F0 ++ Os, H' a = H a := by
  have hh : ∀ a ∈ F0 ++ Os, H' a = H a := fun a ha => by
    cases e : H a with
    | none => exact absurd e (m.liv a ha)
    | some u => exact p.keep a u e
  have bo : ∀ a ∈ F0 ++ Os, B' a = none := fun a ha => by
    cases e : B' a with
    | none => rfl
    | some u =>
      rcases p.dom a (.inl (by rw [e]; simp)) with q | q
      · exact absurd (m.out a ha) q
      · exact absurd q (m.liv a ha)
  refine ⟨⟨RpS.frame p.sub (fun a ha => hh a (List.mem_append_right _ ha)) m.slt, ?_, fun a ha => ?_, fun a ha => ?_, p.subH, m.pn, m.b0.trans p.sub⟩, ⟨fun a o e _ => p.keep a o e, fun a e => ?_, p.sub⟩, hh⟩
  · refine List.nodup_append.mpr ⟨p.nd, (List.nodup_append.mp m.nd).2.1, fun a h b k e => ?_⟩
    subst e
    exact m.liv a (List.mem_append_right _ k) (p.fresh a h)
  · rcases List.mem_append.mp ha with h | h
    · exact p.out a h
    · exact bo a (List.mem_append_right _ h)
  · rcases List.mem_append.mp ha with h | h
    · exact Rp.live p.rep a h
    · rw [hh a (List.mem_append_right _ h)]; exact m.liv a (List.mem_append_right _ h)
  · have : (B' a ≠ none ∨ a ∈ F) ∨ a ∈ Os := by
      rcases e with e | e
      · exact .inl (.inl e)
      · rcases List.mem_append.mp e with e | e
        · exact .inl (.inr e)
        · exact .inr e
    rcases this with e | e
    · rcases p.dom a e with q | q
      · exact .inl q
      · exact .inr (.inr q)
    · exact .inr (.inl (List.mem_append_right _ e))
theorem Kg.pure {Q : VK} (m : Mch C σ H B F0 Os ρ) (k : Kg C W σ q (RpO C σ) H B (F0 ++ Os) (.ok (.val d) ρ) Q) (p : PX C H B d z H' B' F) : Q z H' := by
  obtain ⟨m', e, h⟩ := m.pure p
  exact k z H' B' F Os p.rep m' e fun _ => h
end

/-! ### rules -/
def mName (i : Nat) : M Op := fun ρ => match (ρ[i]?).join with
  | some d => if isFz d = true then .ok (.val d) ρ else .ok (.plc i) ρ
  | none => .bad
def mC (d : D) : M Op := fun ρ => .ok (.val d) ρ
def mP1 (g : D → Option D) (ma : M Op) : M Op := fun ρ => (ma ρ).bind fun o ρ1 => pu ((rd o ρ1).bind g) ρ1
def mP2 (qb : Bool) (g : D → D → Option D) (ma mb : M Op) : M Op := fun ρ => (ma ρ).bind fun oa ρ1 => if okG oa qb = true then (mb ρ1).bind fun ob ρ2 => pu ((rd oa ρ2).bind fun a => (rd ob ρ2).bind fun b => g a b) ρ2 else .bad
def mNil : M (List Op) := fun ρ => .ok [] ρ
def mCons (qs : Bool) (ma : M Op) (ms : M (List Op)) : M (List Op) := fun ρ => (ma ρ).bind fun o ρ1 => if okG o qs = true then (ms ρ1).bind fun os ρ2 => .ok (o :: os) ρ2 else .bad
def rdL : List Op → Ro → Option (List D)
  | [], _ => some []
  | o :: os, ρ => match rd o ρ, rdL os ρ with
    | some d, some ds => some (d :: ds)
    | _, _ => none
def mPL (g : List D → Option D) (ms : M (List Op)) : M Op := fun ρ => (ms ρ).bind fun os ρ1 => pu ((rdL os ρ1).bind g) ρ1
section
variable {X : Cx} {C : Ctx} {W : WX} {q qa qb qs : Bool} {a b e : Expr} {es : List Expr} {ma mb : M Op} {ms : M (List Op)} {pos : Pos}
theorem Kg.quiet {α β : Type} {σ : L2.St} {H B : Hp} {O : List Addr} {rep : Hp → Hp → α → β → List Addr → Prop} {r : R α} {Q : β → Hp → Prop} (k : Kg C W σ q rep H B O r Q) : Kg C W σ true rep H B O r fun v H' => Kg C W σ q rep H B O r Q → Q v H' := by
  cases r with
  | ok o ρ => exact fun v H' B' F Os' h1 h2 h3 h4 k' => k' v H' B' F Os' h1 h2 h3 fun _ => h4 rfl
  | exc x ρ => exact k
  | bad => exact k
theorem se_name {i : Nat} {x : Str} (hN : X.N[i]? = some x) (hv : Vis X.env.scope x) (hd : (x == ("__debug__" : Str)) = false := by decide) (hcd : (x == ("__classdict__" : Str)) = false := by decide) : SE X C W true (.Name x pos) (mName i) := by
  refine PE.le (pe_var hN hv hd hcd) fun σ H Q h => ?_
  obtain ⟨B, Os, ρ, m, k⟩ := h
  have k : Kg C W σ true (RpO C σ) H B Os (match (ρ[i]?).join with | some d => if isFz d = true then .ok (.val d) ρ else .ok (.plc i) ρ | none => .bad) Q := k
  cases z : ρ[i]? with
  | none => rw [z] at k; exact k.elim
  | some x =>
    rw [z] at k
    cases x with
    | none => exact k.elim
    | some d =>
      have k : Kg C W σ true (RpO C σ) H B Os (if isFz d = true then .ok (.val d) ρ else .ok (.plc i) ρ) Q := k
      obtain ⟨G, O1, O2, e, _, g, _⟩ := m.slt.slot z
      obtain ⟨v, h1, h2⟩ := g d rfl
      refine ⟨v, h1, ?_⟩
      by_cases f : isFz d = true
      · rw [if_pos f] at k
        exact k v H B [] Os (Rp.fixed f h2 (Sub.refl _)) m Ext.refl fun _ _ _ => rfl
      · rw [if_neg f] at k
        exact k v H B [] Os ⟨h1, rfl⟩ m Ext.refl fun _ _ _ => rfl
theorem se_const {d : D} {v : V} (h : PE X e (tC v)) (hr : ∀ B H, Rp C B H d v []) : SE X C W true e (mC d) := by
  refine PE.le h fun σ H Q h => ?_
  obtain ⟨B, Os, ρ, m, k⟩ := h
  exact k v H B [] Os (hr B H) m Ext.refl fun _ _ _ => rfl
theorem se_int {i j} : SE X C W true (.Constant (.int i) j pos) (mC (.int i)) := se_const pe_int fun _ _ => ⟨rfl, rfl⟩
theorem se_bl {i j} : SE X C W true (.Constant (.bool i) j pos) (mC (.bl i)) := se_const pe_bl fun _ _ => ⟨rfl, rfl⟩
theorem se_non {j} : SE X C W true (.Constant .none j pos) (mC .non) := se_const pe_non fun _ _ => ⟨rfl, rfl⟩
theorem se_str {i j} : SE X C W true (.Constant (.str i) j pos) (mC (.str i)) := se_const pe_str fun _ _ => ⟨rfl, rfl⟩
theorem qL : (qa && qb) = true → qa = true := fun h => (Bool.and_eq_true_iff.mp h).1
theorem qR : (qa && qb) = true → qb = true := fun h => (Bool.and_eq_true_iff.mp h).2
theorem p2_run {r : R2} {g : D → D → Option D} (hp : Pu2 C r g) {σ : L2.St} {H : Hp} {Q : VK} (h : tM C W (qa && qb) (mP2 qb g ma mb) σ H Q) : tM C W qa ma σ H fun x H1 => tM C W qb mb σ H1 fun y H2 => r x y H2 Q := by
  refine bin_run qL qR h fun oa ob ρ2 x y H2 B2 Fa Fb Os2 ra rb m k => ?_
  cases e1 : rd oa ρ2 with
  | none => rw [e1] at k; exact k.elim
  | some da =>
    cases e2 : rd ob ρ2 with
    | none => rw [e1, e2] at k; exact k.elim
    | some db =>
      rw [e1, e2] at k
      have k : Kg C W σ (qa && qb) (RpO C σ) H2 B2 ((Fa ++ Fb) ++ Os2) (pu (g da db) ρ2) Q := k
      cases e3 : g da db with
      | none => rw [e3] at k; exact k.elim
      | some d =>
        rw [e3] at k
        obtain ⟨G1, r1⟩ := rd_rep ra m e1
        obtain ⟨G2, r2⟩ := rd_rep (F := Fb) (G := []) rb (by rw [List.append_nil]; exact m.right) e2
        exact hp B2 H2 x y da db d G1 G2 Q m.sub r1 r2 e3 fun z H' B' F p => Kg.pure m k p
theorem p1_run {r : V → Hp → VK → Prop} {g : D → Option D} (hp : Pu1 C r g) {σ : L2.St} {H : Hp} {Q : VK} (h : tM C W qa (mP1 g ma) σ H Q) : tM C W qa ma σ H fun x H1 => r x H1 Q := by
  refine un_run (rep := repO C) id h fun oa ρ1 x H1 B1 Fa Os1 ra m k => ?_
  cases e1 : rd oa ρ1 with
  | none => rw [e1] at k; exact k.elim
  | some da =>
    rw [e1] at k
    have k : Kg C W σ qa (RpO C σ) H1 B1 (Fa ++ Os1) (pu (g da) ρ1) Q := k
    cases e3 : g da with
    | none => rw [e3] at k; exact k.elim
    | some d =>
      rw [e3] at k
      obtain ⟨G1, r1⟩ := rd_rep (F := Fa) (G := []) ra (by rw [List.append_nil]; exact m) e1
      exact hp B1 H1 x da d G1 Q m.sub r1 e3 fun z H' B' F p => Kg.pure m k p
theorem se_op {op : Operator} {r : R2} {g : D → D → Option D} (ho : OpR X (binaryOp op) r) (hp : Pu2 C r g) (ha : SE X C W qa a ma) (hb : SE X C W qb b mb) : SE X C W (qa && qb) (.BinOp a op b pos) (mP2 qb g ma mb) :=
  PE.le (pe_op ho ha hb) fun _ _ _ h => p2_run hp h
theorem se_un {op : UnaryOp} {r : V → Hp → VK → Prop} {g : D → Option D} (ho : UnR X (unaryOp op) r) (hp : Pu1 C r g) (ha : SE X C W qa a ma) : SE X C W qa (.UnaryOp op a pos) (mP1 g ma) :=
  PE.le (pe_un ho ha) fun _ _ _ h => p1_run hp h
theorem sa_nil : SA X C W true [] mNil := by
  refine PA.le pa_nil fun σ H Q h => ?_
  obtain ⟨B, Os, ρ, m, k⟩ := h
  exact k [] H B [] Os ⟨rfl, rfl⟩ m Ext.refl fun _ _ _ => rfl
theorem sa_cons (ha : SE X C W qa e ma) (hs : SA X C W qs es ms) (hst : starEach (e :: es) X.env = (false, eval e X.env) :: starEach es X.env := by rfl) : SA X C W (qa && qs) (e :: es) (mCons qs ma ms) := by
  refine PA.le (pa_cons ha hs hst) fun σ H Q h => ?_
  refine un_run (rep := repO C) qL h fun oa ρ1 x H1 B1 Fa Os1 ra m1 k => ?_
  by_cases g : okG oa qs = true
  · rw [if_pos g] at k
    refine ⟨B1, Os1, ρ1, m1.drop, ?_⟩
    cases e : ms ρ1 with
    | ok os ρ2 =>
      rw [e] at k
      intro ys H2 B2 Fb Os2 rb m2 e2 q2
      have m3 := m1.and e2 m2
      refine k (x :: ys) H2 B2 (Fa ++ Fb) Os2 ⟨x, ys, Fa, Fb, rfl, rfl, ra.held m1 e2 g q2, rb⟩ m3 ((e2.beside (F := Fa)).less (fun a ha => by rw [← List.append_assoc]; exact ha)) fun z a ha => ?_
      rcases List.mem_append.mp ha with ha | ha
      · exact m1.held e2 a ha
      · exact q2 (qR z) a ha
    | exc x' ρ2 =>
      rw [e] at k
      intro cls dd H2 B2 Os2 xr m2 e2
      exact k cls dd H2 B2 Os2 xr m2 ((e2.beside (F := Fa)).less fun a ha => List.mem_append_right _ ha)
    | bad =>
      rw [e] at k
      exact k
  · rw [if_neg g] at k
    exact k.elim
theorem rdL_rep {σ : L2.St} {B H : Hp} : ∀ {os : List Op} {vs : List V} {F G Os : List Addr} {ρ : Ro} {ds : List D}, RpOs C σ B H os vs F → Mch C σ H B (F ++ G) Os ρ → rdL os ρ = some ds → RpA C B H ds vs
  | [], vs, F, G, Os, ρ, ds, h, m, e => by
    obtain ⟨rfl, rfl⟩ := h
    cases e
    exact .nil
  | o :: os, vs, F, G, Os, ρ, ds, h, m, e => by
    obtain ⟨v, vs', F1, F2, rfl, rfl, r, rs⟩ := h
    unfold rdL at e
    cases e1 : rd o ρ with
    | none => rw [e1] at e; cases e
    | some d =>
      cases e2 : rdL os ρ with
      | none => rw [e1, e2] at e; cases e
      | some ds' =>
        rw [e1, e2] at e
        have e : d :: ds' = ds := Option.some.inj e
        subst e
        have m' : Mch C σ H B (F1 ++ (F2 ++ G)) Os ρ := by rw [← List.append_assoc]; exact m
        exact .cons (rd_rep r m' e1) (rdL_rep rs m'.right e2)
theorem pL_run {r : List V → Hp → VK → Prop} {g : List D → Option D} (hp : PuL C r g) {σ : L2.St} {H : Hp} {Q : VK} (h : tM C W qa (mPL g ms) σ H Q) : tMs C W qa ms σ H fun xs H1 => r xs H1 Q := by
  refine un_run (rep := repOs C) id h fun os ρ1 xs H1 B1 Fa Os1 ra m k => ?_
  cases e1 : rdL os ρ1 with
  | none => rw [e1] at k; exact k.elim
  | some ds =>
    rw [e1] at k
    have k : Kg C W σ qa (RpO C σ) H1 B1 (Fa ++ Os1) (pu (g ds) ρ1) Q := k
    cases e3 : g ds with
    | none => rw [e3] at k; exact k.elim
    | some d =>
      rw [e3] at k
      exact hp B1 H1 xs ds d Q m.sub (rdL_rep (G := []) ra (by rw [List.append_nil]; exact m) e1) e3 fun z H' B' F p => Kg.pure m k p
/-- a built-in function, a built-in class -/
theorem se_callB {x : Str} {id : String} {r : List V → Hp → VK → Prop} {g : List D → Option D} {p : Pos} (hc : CallR X (.builtin id) r) (hp : PuL C r g) (hg : Gl X x) (hm : X.mg x = none) (hv : bootBuiltins x = some (.builtin id)) (ha : SA X C W qs (e :: es) ms)
    (hn : x ≠ "__name__" := by decide) (hdb : (x == ("__debug__" : Str)) = false := by decide) (he : starEach (e :: es) X.env = (false, eval e X.env) :: starEach es X.env := by rfl) (hpl : (backTo pos (starEach es X.env)).any (·.1) = false := by rfl) :
    SE X C W qs (.Call (.Name x p) (e :: es) [] pos) (mPL g ms) :=
  PE.le (pe_callB hc hg hm hv ha hn hdb he hpl) fun _ _ _ h => pL_run hp h
theorem se_callTy {x : Str} {T : String} {r : List V → Hp → VK → Prop} {g : List D → Option D} {p : Pos} (hc : CallR X (.type T) r) (hp : PuL C r g) (hg : Gl X x) (hm : X.mg x = none) (hv : bootBuiltins x = some (.type T)) (ha : SA X C W qs (e :: es) ms)
    (hn : x ≠ "__name__" := by decide) (hdb : (x == ("__debug__" : Str)) = false := by decide) (he : starEach (e :: es) X.env = (false, eval e X.env) :: starEach es X.env := by rfl) (hpl : (backTo pos (starEach es X.env)).any (·.1) = false := by rfl) :
    SE X C W qs (.Call (.Name x p) (e :: es) [] pos) (mPL g ms) :=
  PE.le (pe_callTy hc hg hm hv ha hn hdb he hpl) fun _ _ _ h => pL_run hp h
end
end Gc

namespace Gc
open PySem PySem.Spec PyProof.Rows L2
/-! Tests, statements, defs. -/
def truthD : D → Option Bool
  | .non => some false
  | .bl b => some b
  | .int i => some (i != 0)
  | .str s => if s.length ≤ sizeLine then some ((s.length : Int) != 0) else none
  | .tup ds => some (!ds.isEmpty)
  | .lst _ ds => some (!ds.isEmpty)
  | _ => none
def mTru (ma : M Op) : M Bool := fun ρ => (ma ρ).bind fun o ρ1 => match (rd o ρ1).bind truthD with
  | some b => .ok b ρ1
  | none => .bad
def mNot (m : M Bool) : M Bool := fun ρ => (m ρ).bind fun b ρ1 => .ok (!b) ρ1
def mAnd (m n : M Bool) : M Bool := fun ρ => (m ρ).bind fun b ρ1 => if b = true then n ρ1 else .ok false ρ1
def mOr (m n : M Bool) : M Bool := fun ρ => (m ρ).bind fun b ρ1 => if b = true then .ok true ρ1 else n ρ1
/-- a test as a value -/
def mBv (m : M Bool) : M Op := fun ρ => (m ρ).bind fun b ρ1 => .ok (.val (.bl b)) ρ1
def mIf (m : M Bool) (ma mb : M Op) : M Op := fun ρ => (m ρ).bind fun b ρ1 => if b = true then ma ρ1 else mb ρ1
/-- an operand that must be a bool, else the rest -/
def mAndV (ma mb : M Op) : M Op := fun ρ => (ma ρ).bind fun o ρ1 => match rd o ρ1 with
  | some (.bl b) => if b = true then mb ρ1 else .ok (.val (.bl false)) ρ1
  | _ => .bad
def mOrV (ma mb : M Op) : M Op := fun ρ => (ma ρ).bind fun o ρ1 => match rd o ρ1 with
  | some (.bl b) => if b = true then .ok (.val (.bl true)) ρ1 else mb ρ1
  | _ => .bad
def mNotV (ma : M Op) : M Op := fun ρ => (ma ρ).bind fun o ρ1 => match rd o ρ1 with
  | some (.bl b) => .ok (.val (.bl (!b))) ρ1
  | _ => .bad
def pb (o : Option Bool) (ρ : Ro) : R Bool := match o with
  | some b => .ok b ρ
  | none => .bad
/-- a comparison of two operands -/
def mB2 (qb : Bool) (g : D → D → Option Bool) (ma mb : M Op) : M Bool := fun ρ => (ma ρ).bind fun oa ρ1 => if okG oa qb = true then (mb ρ1).bind fun ob ρ2 => pb ((rd oa ρ2).bind fun a => (rd ob ρ2).bind fun b => g a b) ρ2 else .bad
def Pb2 (C : Ctx) (r : R2) (g : D → D → Option Bool) : Prop :=
  ∀ (B H : Hp) (x y : V) (a b : D) (k : Bool) (G G' : List Addr) (Q : VK), Sub B H → Rp C B H a x G → Rp C B H b y G' → g a b = some k → Q (.bl k) H → r x y H Q
theorem Kg.lq {α β : Type} {C : Ctx} {W : WX} {σ : L2.St} {q qa : Bool} {rep : Hp → Hp → α → β → List Addr → Prop} {H B : Hp} {O : List Addr} {r : R α} {Q : β → Hp → Prop} (k : Kg C W σ q rep H B O r Q) (h : q = true → qa = true) : Kg C W σ qa rep H B O r Q := by
  cases r with
  | ok o ρ => exact fun v H' B' F Os' h1 h2 h3 h4 => k v H' B' F Os' h1 h2 h3 fun z => h4 (h z)
  | exc x ρ => exact k
  | bad => exact k
theorem tru_rep {C : Ctx} {B H : Hp} {d : D} {v : V} {G : List Addr} {b : Bool} (r : Rp C B H d v G) (s : Sub B H) (e : truthD d = some b) : TruV C.K v H b := by
  cases d with
  | non => obtain ⟨rfl, _⟩ := r; cases e; rfl
  | bl x => obtain ⟨rfl, _⟩ := r; cases e; rfl
  | int i => obtain ⟨rfl, _⟩ := r; cases e; rfl
  | str x =>
    obtain ⟨rfl, _⟩ := r
    have e : (if x.length ≤ sizeLine then some ((x.length : Int) != 0) else none) = some b := e
    by_cases h : x.length ≤ sizeLine
    · rw [if_pos h] at e; cases e; exact ⟨h, rfl⟩
    · rw [if_neg h] at e; cases e
  | tup ds =>
    obtain ⟨a, vs, rfl, h, l⟩ := r
    cases e
    refine .inr (.inl ⟨vs, s.t h, ?_⟩)
    have := RpL.len l
    cases vs <;> cases ds <;> first | rfl | (simp at this)
  | lst o ds =>
    obtain ⟨a, vs, F', rfl, l, q⟩ := r
    cases e
    refine .inl ⟨vs, ?_, ?_⟩
    · rcases q with ⟨_, q, _⟩ | ⟨_, q, _⟩
      · exact .of q
      · exact .of (s _ _ q)
    · have := RpL.len l
      cases vs <;> cases ds <;> first | rfl | (simp at this)
  | _ => cases e
section
variable {α β γ δ : Type} {X : Cx} {C : Ctx} {W : WX} {σ : L2.St} {q qa qb : Bool} {a b c : Expr} {ma mb : M Op} {m n : M Bool} {pos : Pos} {rest : List Expr}
/-- a test first, then one of two -/
theorem tb_run {rep' : L2.St → Hp → Hp → γ → δ → List Addr → Prop} {f : Bool → Ro → R γ} {Q : δ → Hp → Prop} {r : Bool → Hp → Prop} {H : Hp} (hq : q = true → qa = true) (h : tG C W q rep' (fun ρ => (m ρ).bind f) σ H Q)
    (hk : ∀ b ρ1 H1 B1 Os1, Mch C σ H1 B1 [] Os1 ρ1 → Kg C W σ q (rep' σ) H1 B1 Os1 (f b ρ1) Q → r b H1) : tMb C W qa m σ H r := by
  refine un_run (rep := repB) hq h fun o ρ1 v H1 B1 F Os1 rp m1 k => ?_
  obtain ⟨e, rfl⟩ := rp
  subst e
  exact hk o ρ1 H1 B1 Os1 m1 k
theorem sb_tru (ha : SE X C W q a ma) (on : On X C W) (he : ∀ whole, isTrue a X.env whole = (do let v ← whole; standAt a.pos; holding [v] (truthy v)) := by intro _; rfl) : SB X C W q a (mTru ma) := by
  refine PT.le (pt_truth ha he) fun σ H Q h => ?_
  refine un_run (rep := repO C) id h fun o ρ1 v H1 B1 F Os1 rp m1 k => ?_
  cases e : rd o ρ1 with
  | none => rw [e] at k; exact k.elim
  | some d =>
    cases e2 : truthD d with
    | none => rw [e] at k; simp only [Option.bind_some, e2] at k; exact k.elim
    | some b =>
      rw [e] at k
      simp only [Option.bind_some, e2] at k
      obtain ⟨G, r⟩ := rd_rep (F := F) (G := []) rp (by rw [List.append_nil]; exact m1) e
      refine ⟨b, by rw [on.K]; exact tru_rep r m1.sub e2, ?_⟩
      exact k b H1 B1 [] Os1 ⟨rfl, rfl⟩ m1.drop (Ext.refl.less fun a ha => List.mem_append_right _ ha) fun _ _ _ => rfl
theorem bv_run {Q : VK} {H : Hp} (h : tM C W q (mBv m) σ H Q) : tMb C W q m σ H fun b H' => Q (.bl b) H' := by
  refine tb_run (rep' := repO C) id h fun b ρ1 H1 B1 Os1 m1 k => ?_
  exact k (.bl b) H1 B1 [] Os1 ⟨rfl, rfl⟩ m1 Ext.refl fun _ _ _ => rfl
theorem k_bool {Q : Bool → Hp → Prop} {H1 B1 : Hp} {F Os1 : List Addr} {ρ1 : Ro} {b : Bool} (m1 : Mch C σ H1 B1 F Os1 ρ1) (k : Kg C W σ q (repB σ) H1 B1 (F ++ Os1) (.ok b ρ1) Q) : Q b H1 :=
  k b H1 B1 [] Os1 ⟨rfl, rfl⟩ m1.drop (Ext.refl.less fun a ha => List.mem_append_right _ ha) fun _ _ _ => rfl
theorem b2_run {r : R2} {g : D → D → Option Bool} {Q : Bool → Hp → Prop} {R' : VK} {H : Hp} (hp : Pb2 C r g) (h : tMb C W (qa && qb) (mB2 qb g ma mb) σ H Q) (hr : ∀ k H', Q k H' → R' (.bl k) H') : tM C W qa ma σ H fun x H1 => tM C W qb mb σ H1 fun y H2 => r x y H2 R' := by
  refine bin_run (rep' := repB) qL qR h fun oa ob ρ2 x y H2 B2 Fa Fb Os2 ra rb m k => ?_
  cases e1 : rd oa ρ2 with
  | none => rw [e1] at k; exact k.elim
  | some da =>
    cases e2 : rd ob ρ2 with
    | none => rw [e1, e2] at k; exact k.elim
    | some db =>
      rw [e1, e2] at k
      have k : Kg C W σ (qa && qb) (repB σ) H2 B2 ((Fa ++ Fb) ++ Os2) (pb (g da db) ρ2) Q := k
      cases e3 : g da db with
      | none => rw [e3] at k; exact k.elim
      | some d =>
        rw [e3] at k
        obtain ⟨G1, r1⟩ := rd_rep ra m e1
        obtain ⟨G2, r2⟩ := rd_rep (F := Fb) (G := []) rb (by rw [List.append_nil]; exact m.right) e2
        exact hp B2 H2 x y da db d G1 G2 R' m.sub r1 r2 e3 (hr d H2 (k_bool m k))
theorem sb_cmp {op : CmpOp} {r : R2} {g : D → D → Option Bool} (ho : OpR X (compareOp op) r) (hp : Pb2 C r g) (ha : SE X C W qa a ma) (hb : SE X C W qb b mb) (hm : behindInMarks op b = false) : SB X C W (qa && qb) (.Compare a [op] [b] pos) (mB2 qb g ma mb) := by
  refine PT.le (pt_cmpR ho ha hb hm) fun σ H Q h => ?_
  exact b2_run hp h fun k H' h => ⟨k, rfl, h⟩
theorem se_cmp {op : CmpOp} {r : R2} {g : D → D → Option Bool} (ho : OpR X (compareOp op) r) (hp : Pb2 C r g) (ha : SE X C W qa a ma) (hb : SE X C W qb b mb) (hm : behindInMarks op b = false) : SE X C W (qa && qb) (.Compare a [op] [b] pos) (mBv (mB2 qb g ma mb)) := by
  refine PE.le (pe_cmpR ho ha hb hm) fun σ H Q h => ?_
  exact b2_run hp (bv_run h) fun k H' h => h
theorem sb_not (ha : SB X C W q a m) : SB X C W q (.UnaryOp .Not a pos) (mNot m) := by
  refine PT.le (pt_not ha) fun σ H Q h => ?_
  refine tb_run id h fun b ρ1 H1 B1 Os1 m1 k => k_bool (F := []) m1 k
theorem sb_and (ha : SB X C W qa a m) (hb : PW X (.BoolOp .And (b :: rest) pos) (tMb C W qb n)) : PW X (.BoolOp .And (a :: b :: rest) pos) (tMb C W (qa && qb) (mAnd m n)) := by
  refine PW.le (pw_and ha hb) fun σ H Q h => ?_
  refine tb_run (rep' := repB) qL h fun b ρ1 H1 B1 Os1 m1 k => ?_
  cases b with
  | true => exact ⟨B1, Os1, ρ1, m1, k.lq qR⟩
  | false => exact k_bool (F := []) m1 k
theorem sb_or (ha : SB X C W qa a m) (hb : PW X (.BoolOp .Or (b :: rest) pos) (tMb C W qb n)) : PW X (.BoolOp .Or (a :: b :: rest) pos) (tMb C W (qa && qb) (mOr m n)) := by
  refine PW.le (pw_or ha hb) fun σ H Q h => ?_
  refine tb_run (rep' := repB) qL h fun b ρ1 H1 B1 Os1 m1 k => ?_
  cases b with
  | true => exact k_bool (F := []) m1 k
  | false => exact ⟨B1, Os1, ρ1, m1, k.lq qR⟩
theorem sb_and1 (ha : SB X C W qa a m) : PW X (.BoolOp .And [a] pos) (tMb C W qa m) := pw_and1 ha
theorem sb_or1 (ha : SB X C W qa a m) : PW X (.BoolOp .Or [a] pos) (tMb C W qa m) := pw_or1 ha
theorem sb_bool {e : Expr} (h : PW X e (tMb C W q m)) : SB X C W q e m := h.pt
theorem se_if (hc : SB X C W q c m) (ha : SE X C W qa a ma) (hb : SE X C W qb b mb) : SE X C W (q && (qa && qb)) (.IfExp c a b pos) (mIf m ma mb) := by
  refine PE.le (pe_ifExp hc ha hb) fun σ H Q h => ?_
  refine tb_run (rep' := repO C) qL h fun b ρ1 H1 B1 Os1 m1 k => ?_
  cases b with
  | true => exact ⟨B1, Os1, ρ1, m1, k.lq fun z => qL (qR z)⟩
  | false => exact ⟨B1, Os1, ρ1, m1, k.lq fun z => qR (qR z)⟩
theorem bl_run {f : Bool → Ro → R Op} {Q : VK} {H : Hp} {r : V → Hp → Prop} (hq : q = true → qa = true)
    (h : tM C W q (fun ρ => (ma ρ).bind fun o ρ1 => match rd o ρ1 with | some (.bl b) => f b ρ1 | _ => .bad) σ H Q)
    (hk : ∀ b ρ1 H1 B1 Os1, Mch C σ H1 B1 [] Os1 ρ1 → Kg C W σ q (RpO C σ) H1 B1 Os1 (f b ρ1) Q → r (.bl b) H1) : tM C W qa ma σ H r := by
  refine un_run (rep := repO C) hq h fun o ρ1 v H1 B1 F Os1 rp m1 k => ?_
  cases e : rd o ρ1 with
  | none => rw [e] at k; exact k.elim
  | some d =>
    rw [e] at k
    cases d with
    | bl b =>
      obtain ⟨G, r1⟩ := rd_rep (F := F) (G := []) rp (by rw [List.append_nil]; exact m1) e
      obtain ⟨rfl, _⟩ := r1
      exact hk b ρ1 H1 B1 Os1 m1.drop (Kg.step (e := (Ext.refl (H := H1) (B := B1) (O := F ++ Os1)).less fun a ha => List.mem_append_right _ ha) m1.outO (fun _ _ _ => rfl) m1.liv k)
    | _ => exact k.elim
theorem se_one {op : PySem.BoolOp} (h : SE X C W q a ma) : SE X C W q (.BoolOp op [a] pos) ma := pe_one h
theorem se_and (ha : SE X C W qa a ma) (hb : SE X C W qb (.BoolOp .And (b :: rest) pos) mb) : SE X C W (qa && qb) (.BoolOp .And (a :: b :: rest) pos) (mAndV ma mb) := by
  refine PE.le (pe_and ha hb) fun σ H Q h => ?_
  refine bl_run qL h fun b ρ1 H1 B1 Os1 m1 k => ⟨b, rfl, ?_⟩
  cases b with
  | true => exact ⟨B1, Os1, ρ1, m1, k.lq qR⟩
  | false => exact k (.bl false) H1 B1 [] Os1 ⟨rfl, rfl⟩ m1 Ext.refl fun _ _ _ => rfl
theorem se_or (ha : SE X C W qa a ma) (hb : SE X C W qb (.BoolOp .Or (b :: rest) pos) mb) : SE X C W (qa && qb) (.BoolOp .Or (a :: b :: rest) pos) (mOrV ma mb) := by
  refine PE.le (pe_or ha hb) fun σ H Q h => ?_
  refine bl_run qL h fun b ρ1 H1 B1 Os1 m1 k => ⟨b, rfl, ?_⟩
  cases b with
  | true => exact k (.bl true) H1 B1 [] Os1 ⟨rfl, rfl⟩ m1 Ext.refl fun _ _ _ => rfl
  | false => exact ⟨B1, Os1, ρ1, m1, k.lq qR⟩
theorem se_not (ha : SE X C W qa a ma) : SE X C W qa (.UnaryOp .Not a pos) (mNotV ma) := by
  refine PE.le (pe_not ha) fun σ H Q h => ?_
  refine bl_run id h fun b ρ1 H1 B1 Os1 m1 k => ⟨b, rfl, ?_⟩
  exact k (.bl (!b)) H1 B1 [] Os1 ⟨rfl, rfl⟩ m1 Ext.refl fun _ _ _ => rfl
end
end Gc

namespace Gc
open PySem PySem.Spec PyProof.Rows L2
/-! Statements and defs. -/
inductive RS where
  | nx (ρ : Ro) | ret (d : D) (ρ : Ro) | bk (ρ : Ro) | ct (ρ : Ro) | exc (x : Exn) (ρ : Ro) | bad
abbrev MS := Ro → RS
def R.toS {α : Type} (r : R α) (f : α → Ro → RS) : RS :=
  match r with
  | .ok a ρ => f a ρ
  | .exc x ρ => .exc x ρ
  | .bad => .bad
def Ks (C : Ctx) (W : WX) (H B : Hp) (O : List Addr) (r : RS) (D' : Ends) : Prop :=
  match r with
  | .nx ρ' => ∀ σ' H' B' Os', Mch C σ' H' B' [] Os' ρ' → Ext H B O H' B' Os' → D'.nx σ' H'
  | .bk ρ' => ∀ σ' H' B' Os', Mch C σ' H' B' [] Os' ρ' → Ext H B O H' B' Os' → D'.bk σ' H'
  | .ct ρ' => ∀ σ' H' B' Os', Mch C σ' H' B' [] Os' ρ' → Ext H B O H' B' Os' → D'.ct σ' H'
  | .ret d ρ' => ∀ v σ' H' B' F Os', Rp C B' H' d v F → Mch C σ' H' B' F Os' ρ' → Ext H B O H' B' (F ++ Os') → D'.rt v H'
  | .exc x ρ' => ∀ cls dd σ' H' B' Os', XRep C B' x cls dd → Mch C σ' H' B' [] Os' ρ' → Ext H B O H' B' Os' → W cls dd σ' H'
  | .bad => False
def tS (C : Ctx) (W : WX) (m : MS) : TS := fun D' σ H => ∃ B Os ρ, Mch C σ H B [] Os ρ ∧ Ks C W H B Os (m ρ) D'
def SS (X : Cx) (C : Ctx) (W : WX) (st : Stmt) (m : MS) : Prop := PS X st (tS C W m)
def SSs (X : Cx) (C : Ctx) (W : WX) (sts : List Stmt) (m : MS) : Prop := PSs X sts (tS C W m)
theorem PS.le {X : Cx} {st : Stmt} {t t' : TS} (h : PS X st t) (k : ∀ D' σ H, t' D' σ H → t D' σ H) : PS X st t' := ⟨fun pins s σ H D' I q => h.run pins s σ H D' I (k _ _ _ q)⟩
theorem PSs.le {X : Cx} {st : List Stmt} {t t' : TS} (h : PSs X st t) (k : ∀ D' σ H, t' D' σ H → t D' σ H) : PSs X st t' := ⟨fun pins s σ H D' I q => h.run pins s σ H D' I (k _ _ _ q)⟩
theorem Ks.step {C : Ctx} {W : WX} {H B H1 B1 : Hp} {O O1 : List Addr} {r : RS} {D' : Ends} (e : Ext H B O H1 B1 O1) (o1 : ∀ a ∈ O1, B1 a = none) (h : Ks C W H B O r D') : Ks C W H1 B1 O1 r D' := by
  cases r with
  | nx ρ => exact fun σ' H' B' Os' m f => h σ' H' B' Os' m (e.trans o1 f)
  | bk ρ => exact fun σ' H' B' Os' m f => h σ' H' B' Os' m (e.trans o1 f)
  | ct ρ => exact fun σ' H' B' Os' m f => h σ' H' B' Os' m (e.trans o1 f)
  | ret d ρ => exact fun v σ' H' B' F Os' rp m f => h v σ' H' B' F Os' rp m (e.trans o1 f)
  | exc x ρ => exact fun cls dd σ' H' B' Os' xr m f => h cls dd σ' H' B' Os' xr m (e.trans o1 f)
  | bad => exact h
theorem Ext.weak {H B : Hp} {F O : List Addr} : Ext H B (F ++ O) H B O := (Ext.refl).less fun a ha => List.mem_append_right _ ha
def setF (f : Str) (d' : D) : List Str → List D → List D
  | n :: ns, d :: ds => if (f == n) = true then d' :: ds else d :: setF f d' ns ds
  | _, ds => ds
section
variable {C : Ctx} {B B' H H' : Hp}
theorem RpL.lookW {f : Str} : ∀ {ns : List Str} {ds : List D} {vs : List V} {F : List Addr} {d : D}, RpL C B H ds vs F → lookF f ns ds = some d → ∃ v F1 G F2, (ns.zip vs).lookup f = some v ∧ Rp C B H d v G ∧ F = F1 ++ (G ++ F2) ∧
      ∀ B' H', Sub B B' → (∀ a ∈ F1 ++ F2, H' a = H a) → ∀ d' G', Rp C B' H' d' v G' → RpL C B' H' (setF f d' ns ds) vs (F1 ++ (G' ++ F2))
  | [], _, _, _, _, _, e => by simp [lookF] at e
  | _ :: _, [], _, _, _, _, e => by simp [lookF] at e
  | n :: ns, d :: ds, vs, F, d0, h, e => by
    obtain ⟨v, vs', F1, F2, rfl, rfl, p, q⟩ := h
    unfold lookF at e
    rw [List.zip_cons_cons, List.lookup_cons] at e
    cases hb : f == n with
    | true =>
      rw [hb] at e
      simp only [Option.some.injEq] at e
      subst e
      refine ⟨v, [], F1, F2, by rw [List.zip_cons_cons, List.lookup_cons, hb], p, rfl, fun B' H' hs k d' G' r => ?_⟩
      show RpL C B' H' (if (f == n) = true then d' :: ds else d :: setF f d' ns ds) _ _
      rw [if_pos hb]
      exact ⟨v, vs', G', F2, rfl, rfl, r, RpL.frame hs (fun a ha => k a ha) q⟩
    | false =>
      rw [hb] at e
      obtain ⟨v', E1, G, E2, h1, h2, h3, w⟩ := RpL.lookW q e
      subst h3
      refine ⟨v', F1 ++ E1, G, E2, by rw [List.zip_cons_cons, List.lookup_cons, hb]; exact h1, h2, by simp only [List.append_assoc], fun B' H' hs k d' G' r => ?_⟩
      show RpL C B' H' (if (f == n) = true then d' :: ds else d :: setF f d' ns ds) _ _
      rw [if_neg (by rw [hb]; exact Bool.false_ne_true)]
      refine ⟨v, vs', F1, E1 ++ (G' ++ E2), rfl, by simp only [List.append_assoc], Rp.frame hs (fun a ha => k a (by simp [ha])) p, w B' H' hs (fun a ha => k a ?_) d' G' r⟩
      rcases List.mem_append.mp ha with ha | ha <;> simp [ha]
end
theorem perm_in {F O1 G O2 : List Addr} : (F ++ (O1 ++ (G ++ O2))).Perm (G ++ (F ++ (O1 ++ O2))) := by
  refine List.Perm.trans (List.Perm.append_left F ?_) ?_ (l₂ := F ++ (G ++ (O1 ++ O2)))
  · rw [← List.append_assoc, ← List.append_assoc]
    exact List.perm_append_comm.append_right O2
  · rw [← List.append_assoc, ← List.append_assoc G]
    exact List.perm_append_comm.append_right _
section
variable {C : Ctx} {W : WX} {σ : L2.St} {H B : Hp} {F Os : List Addr} {ρ : Ro}
/-- an expression, then the rest of a statement -/
theorem s_run {α β : Type} {rep : L2.St → Hp → Hp → α → β → List Addr → Prop} {q : Bool} {ma : M α} {f : α → Ro → RS} {D' : Ends} {r : β → Hp → Prop}
    (h : tS C W (fun ρ => (ma ρ).toS f) D' σ H) (hk : ∀ o ρ1 v H1 B1 F Os1, rep σ B1 H1 o v F → Mch C σ H1 B1 F Os1 ρ1 → Ks C W H1 B1 (F ++ Os1) (f o ρ1) D' → r v H1) : tG C W q rep ma σ H r := by
  obtain ⟨B, Os, ρ, m, k⟩ := h
  refine ⟨B, Os, ρ, m, ?_⟩
  have k : Ks C W H B Os ((ma ρ).toS f) D' := k
  cases e : ma ρ with
  | ok o ρ1 =>
    rw [e] at k
    intro v H1 B1 F Os1 rp m1 e1 q1
    exact hk o ρ1 v H1 B1 F Os1 rp m1 (Ks.step e1 m1.out k)
  | exc x ρ1 =>
    rw [e] at k
    intro cls dd H1 B1 Os1 xr m1 e1
    exact k cls dd σ H1 B1 Os1 xr m1 e1
  | bad =>
    rw [e] at k
    exact k
/-- the held is put into B -/
theorem Mch.freeze {G : List Addr} (m : Mch C σ H B (F ++ G) Os ρ) : Mch C σ H (frz B H F) G Os ρ ∧ Ext H B ((F ++ G) ++ Os) H (frz B H F) (G ++ Os) := by
  have oF : ∀ a ∈ F, B a = none := m.left.outF
  have dis : ∀ a ∈ G ++ Os, a ∉ F := fun a h z => by
    have nd := m.nd
    rw [List.append_assoc] at nd
    exact (List.nodup_append.mp nd).2.2 a z a h rfl
  refine ⟨⟨RpS.frame (frz_sub oF) (fun _ _ => rfl) m.slt, m.right.nd, fun a h => ?_, m.right.liv, frz_in m.sub, m.pn, m.b0.trans (frz_sub oF)⟩, ⟨fun _ _ e _ => e, fun a h => ?_, frz_sub oF⟩⟩
  · show (if a ∈ F then H a else B a) = none
    rw [if_neg (dis a h)]
    exact m.right.out a h
  · rcases h with h | h
    · by_cases z : a ∈ F
      · exact .inr (.inl (by simp [z]))
      · have h : (if a ∈ F then H a else B a) ≠ none := h
        rw [if_neg z] at h
        exact .inl h
    · exact .inr (.inl (by rw [List.append_assoc]; exact List.mem_append_right _ h))
/-- a slot's own is put into B -/
theorem Mch.freezeAt {i : Nat} {d : D} (m : Mch C σ H B F Os ρ) (e : (ρ[i]?).join = some d) : ∃ B' Os' v, σ[i]? = some (some v) ∧ Rp C B' H (fz d) v [] ∧ Mch C σ H B' F Os' (ρ.set i (some (fz d))) ∧ Ext H B (F ++ Os) H B' (F ++ Os') := by
  cases z : ρ[i]? with
  | none => rw [z] at e; cases e
  | some x =>
    rw [z] at e
    have e : x = some d := e
    subst e
    obtain ⟨G, O1, O2, e1, _, g, w⟩ := m.slt.slot z
    subst e1
    obtain ⟨v, h1, h2⟩ := g d rfl
    have oG : ∀ a ∈ G, B a = none := fun a h => m.outO a (by simp [h])
    have r := Rp.freeze (H' := H) oG (fun a h => h) h2
    obtain ⟨w1, _⟩ := w (frz B H G) H (frz_sub oG) (fun _ _ => rfl)
    have w1 := w1 (fz d) v [] r
    have es : σ.set i (some v) = σ := by
      refine List.ext_getElem? fun j => ?_
      rw [List.getElem?_set]
      by_cases hj : i = j
      · subst hj
        obtain ⟨hlt, _⟩ := List.getElem?_eq_some_iff.mp h1
        rw [if_pos rfl, if_pos hlt, h1]
      · rw [if_neg hj]
    rw [es] at w1
    have sl : (F ++ (O1 ++ ([] ++ O2))).Sublist (F ++ (O1 ++ (G ++ O2))) := ((List.nil_sublist G).append_right O2 |>.append_left O1).append_left F
    have nG : ∀ a ∈ F ++ (O1 ++ ([] ++ O2)), a ∉ G := fun a h zz => by
      have nd := m.nd
      have p : (F ++ (O1 ++ (G ++ O2))).Perm (G ++ (F ++ (O1 ++ ([] ++ O2)))) := by
        rw [List.nil_append]
        refine List.Perm.trans (List.Perm.append_left F ?_) ?_ (l₂ := F ++ (G ++ (O1 ++ O2)))
        · rw [← List.append_assoc, ← List.append_assoc]
          exact List.perm_append_comm.append_right O2
        · rw [← List.append_assoc, ← List.append_assoc G]
          exact List.perm_append_comm.append_right _
      have nd := p.nodup_iff.mp nd
      exact (List.nodup_append.mp nd).2.2 a zz a h rfl
    refine ⟨frz B H G, O1 ++ ([] ++ O2), v, h1, r, ⟨w1, m.nd.sublist sl, fun a h => ?_, fun a h => m.liv a (sl.subset h), frz_in m.sub, m.pn, m.b0.trans (frz_sub oG)⟩, ⟨fun _ _ e _ => e, fun a h => ?_, frz_sub oG⟩⟩
    · show (if a ∈ G then H a else B a) = none
      rw [if_neg (nG a h)]
      exact m.out a (sl.subset h)
    · rcases h with h | h
      · by_cases zz : a ∈ G
        · exact .inr (.inl (by simp [zz]))
        · have h : (if a ∈ G then H a else B a) ≠ none := h
          rw [if_neg zz] at h
          exact .inl h
      · exact .inr (.inl (sl.subset h))
theorem Mch.freezeF {i : Nat} {f : Str} {o : Bool} {c : Str} {ns : List Str} {ds : List D} {d : D} {v : V} (m : Mch C σ H B F Os ρ) (e : (ρ[i]?).join = some (.obj o c ns ds)) (l : lookF f ns ds = some d) (r : RpO C σ B H (.fld i f) v []) :
    ∃ B' Os', Rp C B' H (fz d) v [] ∧ Mch C σ H B' F Os' (ρ.set i (some (.obj o c ns (setF f (fz d) ns ds)))) ∧ Ext H B (F ++ Os) H B' (F ++ Os') := by
  cases z : ρ[i]? with
  | none => rw [z] at e; cases e
  | some x =>
    rw [z] at e
    have e : x = some (.obj o c ns ds) := e
    subst e
    obtain ⟨G, O1, O2, e1, _, g, w⟩ := m.slt.slot z
    subst e1
    obtain ⟨u, h1, h2⟩ := g _ rfl
    obtain ⟨⟨a, cl, dx, fvs, k1, k2, k3⟩, _⟩ := r
    rw [k1] at h1
    cases h1
    obtain ⟨a', cl', dx', vs, F', e1, mm, ll, rl, qq⟩ := h2
    cases e1
    have hh : H a = some (.ins cl' dx' (ns.zip vs)) := by
      rcases qq with ⟨_, q2, _⟩ | ⟨_, q2, _⟩
      · exact q2
      · exact m.sub _ _ q2
    rw [hh] at k2
    cases k2
    obtain ⟨v', F1, G1, F2, w1, w2, w3, w4⟩ := RpL.lookW rl l
    rw [k3] at w1
    cases w1
    subst w3
    have inG : ∀ b ∈ G1, b ∈ G := fun b hb => by
      rcases qq with ⟨_, _, q3⟩ | ⟨_, _, q3⟩
      · rw [q3]; simp [hb]
      · rw [q3]; simp [hb]
    have oG : ∀ b ∈ G1, B b = none := fun b hb => m.outO b (by simp [inG b hb])
    have fr := Rp.freeze (H' := H) oG (fun a h => h) w2
    have w5 := w4 (frz B H G1) H (frz_sub oG) (fun _ _ => rfl) (fz d) [] fr
    have fin : ∀ G', G'.Sublist G → (∀ b ∈ G', b ∉ G1) → Rp C (frz B H G1) H (.obj o c ns (setF f (fz d) ns ds)) (.ref a) G' → (∀ b ∈ O1 ++ O2, b ∉ G1) → _ := fun G' sG nG rp nO => by
      obtain ⟨y1, _⟩ := w (frz B H G1) H (frz_sub oG) (fun _ _ => rfl)
      have y1 := y1 _ _ G' rp
      have es : σ.set i (some (.ref a)) = σ := by
        refine List.ext_getElem? fun j => ?_
        rw [List.getElem?_set]
        by_cases hj : i = j
        · subst hj
          obtain ⟨hlt, _⟩ := List.getElem?_eq_some_iff.mp k1
          rw [if_pos rfl, if_pos hlt, k1]
        · rw [if_neg hj]
      rw [es] at y1
      have sl : (F ++ (O1 ++ (G' ++ O2))).Sublist (F ++ (O1 ++ (G ++ O2))) := ((sG.append_right O2).append_left O1).append_left F
      have nF : ∀ b ∈ F, b ∉ G1 := fun b hb zz => m.apart b hb (by simp [inG b zz])
      have nA : ∀ b ∈ F ++ (O1 ++ (G' ++ O2)), b ∉ G1 := fun b hb => by
        rcases List.mem_append.mp hb with hb | hb
        · exact nF b hb
        · rcases List.mem_append.mp hb with hb | hb
          · exact nO b (List.mem_append_left _ hb)
          · rcases List.mem_append.mp hb with hb | hb
            · exact nG b hb
            · exact nO b (List.mem_append_right _ hb)
      exact (⟨frz B H G1, O1 ++ (G' ++ O2), fr, ⟨y1, m.nd.sublist sl, fun b h => by
          show (if b ∈ G1 then H b else B b) = none
          rw [if_neg (nA b h)]
          exact m.out b (sl.subset h), fun b h => m.liv b (sl.subset h), frz_in m.sub, m.pn, m.b0.trans (frz_sub oG)⟩, ⟨fun _ _ e _ => e, fun b h => by
          rcases h with h | h
          · by_cases zz : b ∈ G1
            · exact .inr (.inl (by simp [inG b zz]))
            · have h : (if b ∈ G1 then H b else B b) ≠ none := h
              rw [if_neg zz] at h
              exact .inl h
          · exact .inr (.inl (sl.subset h)), frz_sub oG⟩⟩ : ∃ B' Os', Rp C B' H (fz d) v [] ∧ Mch C σ H B' F Os' (ρ.set i (some (.obj o c ns (setF f (fz d) ns ds)))) ∧ Ext H B (F ++ (O1 ++ (G ++ O2))) H B' (F ++ Os'))
    have nG := perm_in.nodup_iff.mp m.nd
    have nGO : ∀ b ∈ O1 ++ O2, b ∉ G1 := fun b hb zz => (List.nodup_append.mp nG).2.2 b (inG b zz) b (List.mem_append_right _ hb) rfl
    have nG := (List.nodup_append.mp nG).1
    rcases qq with ⟨q1, q2, q3⟩ | ⟨q1, q2, q3⟩
    · subst q3
      have nd2 := perm_in.nodup_iff.mp (show ([a] ++ (F1 ++ (G1 ++ F2))).Nodup from nG)
      refine fin (a :: (F1 ++ ([] ++ F2))) ((((List.nil_sublist G1).append_right F2).append_left F1).cons_cons a) (fun b hb zz => (List.nodup_append.mp nd2).2.2 b zz b ?_ rfl) ⟨a, cl, dx, vs, _, rfl, mm, ll, w5, .inl ⟨q1, q2, rfl⟩⟩ nGO
      simpa using hb
    · subst q3
      have nd2 := perm_in.nodup_iff.mp (show ([] ++ (F1 ++ (G1 ++ F2))).Nodup from nG)
      refine fin (F1 ++ ([] ++ F2)) (((List.nil_sublist G1).append_right F2).append_left F1) (fun b hb zz => (List.nodup_append.mp nd2).2.2 b zz b ?_ rfl) ⟨a, cl, dx, vs, _, rfl, mm, ll, w5, .inr ⟨q1, frz_sub oG _ _ q2, rfl⟩⟩ nGO
      simpa using hb
/-- what an operand holds, to be kept elsewhere: it is no longer owned -/
def frO : Op → Ro → Option (D × Ro)
  | .val d, ρ => some (fz d, ρ)
  | .plc i, ρ => match (ρ[i]?).join with
    | some d => some (fz d, ρ.set i (some (fz d)))
    | none => none
  | .fld i f, ρ => match (ρ[i]?).join with
    | some (.obj o c ns ds) => (match lookF f ns ds with
      | some d => some (fz d, ρ.set i (some (.obj o c ns (setF f (fz d) ns ds))))
      | none => none)
    | _ => none
def frOs : List Op → Ro → Option (List D × Ro)
  | [], ρ => some ([], ρ)
  | o :: os, ρ => match frO o ρ with
    | some (d, ρ1) => match frOs os ρ1 with
      | some (ds, ρ2) => some (d :: ds, ρ2)
      | none => none
    | none => none
theorem frO_ok {o : Op} {v : V} {G : List Addr} {d : D} {ρ' : Ro} (r : RpO C σ B H o v F) (m : Mch C σ H B (F ++ G) Os ρ) (e : frO o ρ = some (d, ρ')) :
    ∃ B' Os', Rp C B' H d v [] ∧ isFz d = true ∧ Mch C σ H B' G Os' ρ' ∧ Ext H B ((F ++ G) ++ Os) H B' (G ++ Os') := by
  cases o with
  | val d0 =>
    cases e
    obtain ⟨m', e'⟩ := m.freeze
    exact ⟨_, Os, Rp.freeze m.left.outF (fun a h => h) r, isFz_fz d0, m', e'⟩
  | plc i =>
    obtain ⟨h1, rfl⟩ := r
    have e : (match (ρ[i]?).join with | some d => some (fz d, ρ.set i (some (fz d))) | none => none) = some (d, ρ') := e
    cases z : (ρ[i]?).join with
    | none => rw [z] at e; cases e
    | some d0 =>
      rw [z] at e
      cases e
      obtain ⟨B', Os', v', h2, r', m', e'⟩ := Mch.freezeAt (F := G) m z
      rw [h1] at h2
      cases h2
      exact ⟨B', Os', r', isFz_fz d0, m', e'⟩
  | fld i f =>
    obtain ⟨h1, rfl⟩ := r
    have e : (match (ρ[i]?).join with
      | some (.obj o c ns ds) => (match lookF f ns ds with
        | some d => some (fz d, ρ.set i (some (.obj o c ns (setF f (fz d) ns ds))))
        | none => none)
      | _ => none) = some (d, ρ') := e
    cases z : (ρ[i]?).join with
    | none => rw [z] at e; cases e
    | some d0 =>
      rw [z] at e
      cases d0 with
      | obj o c ns ds =>
        have e : (match lookF f ns ds with
          | some d => some (fz d, ρ.set i (some (.obj o c ns (setF f (fz d) ns ds))))
          | none => none) = some (d, ρ') := e
        cases zl : lookF f ns ds with
        | none => rw [zl] at e; cases e
        | some d1 =>
          rw [zl] at e
          cases e
          obtain ⟨B', Os', r', m', e'⟩ := Mch.freezeF (F := G) m z zl ⟨h1, rfl⟩
          exact ⟨B', Os', r', isFz_fz d1, m', e'⟩
      | _ => cases e
theorem RpO.up {B' : Hp} {o : Op} {v : V} {F : List Addr} (h : RpO C σ B H o v F) (s : Sub B B') : RpO C σ B' H o v F := by
  cases o with
  | val d => exact Rp.frame s (fun _ _ => rfl) h
  | plc i => exact h
  | fld i f => exact h
theorem RpOs.up {B' : Hp} {os : List Op} : ∀ {vs : List V} {F : List Addr}, Sub B B' → RpOs C σ B H os vs F → RpOs C σ B' H os vs F := by
  induction os with
  | nil => intro vs F _ h; exact h
  | cons o os ih =>
    intro vs F s h
    obtain ⟨v, vs', F1, F2, rfl, rfl, p, r⟩ := h
    exact ⟨v, vs', F1, F2, rfl, rfl, p.up s, ih s r⟩
theorem frOs_ok : ∀ {os : List Op} {vs : List V} {F G Os : List Addr} {B : Hp} {ρ : Ro} {ds : List D} {ρ' : Ro}, RpOs C σ B H os vs F → Mch C σ H B (F ++ G) Os ρ → frOs os ρ = some (ds, ρ') →
    ∃ B' Os', RpL C B' H ds vs [] ∧ isFzL ds = true ∧ Mch C σ H B' G Os' ρ' ∧ Ext H B ((F ++ G) ++ Os) H B' (G ++ Os')
  | [], vs, F, G, Os, B, ρ, ds, ρ', r, m, e => by
    obtain ⟨rfl, rfl⟩ := r
    cases e
    exact ⟨B, Os, ⟨rfl, rfl⟩, rfl, m, Ext.refl⟩
  | o :: os, vs, F, G, Os, B, ρ, ds, ρ', r, m, e => by
    obtain ⟨v, vs', F1, F2, rfl, rfl, p, rs⟩ := r
    unfold frOs at e
    cases z : frO o ρ with
    | none => rw [z] at e; cases e
    | some pp =>
      obtain ⟨d, ρ1⟩ := pp
      rw [z] at e
      cases z2 : frOs os ρ1 with
      | none => simp only [z2] at e; cases e
      | some p2 =>
        obtain ⟨ds', ρ2⟩ := p2
        simp only [z2] at e
        cases e
        have m' : Mch C σ H B (F1 ++ (F2 ++ G)) Os ρ := by rw [← List.append_assoc]; exact m
        obtain ⟨B1, O1, r1, f1, m1, e1⟩ := frO_ok p m' z
        have rs1 := RpOs.up e1.sub rs
        obtain ⟨B2, O2, r2, f2, m2, e2⟩ := frOs_ok rs1 m1 z2
        refine ⟨B2, O2, ⟨v, vs', [], [], rfl, rfl, Rp.fixed f1 r1 e2.sub, r2⟩, by simp only [isFzL, f1, f2]; rfl, m2, ?_⟩
        have e1' : Ext H B (((F1 ++ F2) ++ G) ++ Os) H B1 ((F2 ++ G) ++ O1) := by
          rw [List.append_assoc F1 F2 G]
          exact e1
        exact e1'.trans m1.out e2
end
def mRet (L : List Nat) (ma : M Op) : MS := fun ρ => (ma ρ).toS fun o ρ1 => match o with
  | .val d => .ret d ρ1
  | .plc i => match (ρ1[i]?).join with
    | some d => if L.contains i = true then .ret (fz d) (ρ1.set i (some (fz d))) else .ret d (ρ1.set i none)
    | none => .bad
  | .fld i f => match frO (.fld i f) ρ1 with
    | some (d, ρ2) => .ret d ρ2
    | none => .bad
def mSeq (m n : MS) : MS := fun ρ => match m ρ with
  | .nx ρ1 => n ρ1
  | r => r
def mNx : MS := fun ρ => .nx ρ
def mDrop (ma : M Op) : MS := fun ρ => (ma ρ).toS fun _ ρ1 => .nx ρ1
def mIfS (c : M Bool) (m n : MS) : MS := fun ρ => (c ρ).toS fun b ρ1 => if b = true then m ρ1 else n ρ1
def mSet (i : Nat) (ma : M Op) : MS := fun ρ => (ma ρ).toS fun o ρ1 => match o with
  | .val d => if i < ρ1.length then .nx (ρ1.set i (some d)) else .bad
  | o => match frO o ρ1 with
    | some (d, ρ2) => if i < ρ2.length then .nx (ρ2.set i (some d)) else .bad
    | none => .bad
def mWhile (c : M Bool) (m : MS) : Nat → MS
  | 0, _ => .bad
  | n + 1, ρ => (c ρ).toS fun b ρ1 => if b = true then (match m ρ1 with
    | .nx ρ2 => mWhile c m n ρ2
    | .ct ρ2 => mWhile c m n ρ2
    | .bk ρ2 => .nx ρ2
    | r => r) else .nx ρ1
section
variable {X : Cx} {C : Ctx} {W : WX} {q : Bool} {e : Expr} {ma : M Op} {m n : MS} {pos : Pos} {st : Stmt} {rest : List Stmt} {c : M Bool}
theorem ss_nil : SSs X C W [] mNx := by
  refine PSs.le pss_nil fun D' σ H h => ?_
  obtain ⟨B, Os, ρ, m, k⟩ := h
  exact k σ H B Os m Ext.refl
theorem ss_cons (h1 : SS X C W st m) (h2 : SSs X C W rest n) : SSs X C W (st :: rest) (mSeq m n) := by
  refine PSs.le (pss_cons h1 h2) fun D' σ H h => ?_
  obtain ⟨B, Os, ρ, mm, k⟩ := h
  refine ⟨B, Os, ρ, mm, ?_⟩
  have k : Ks C W H B Os (match m ρ with | .nx ρ1 => n ρ1 | r => r) D' := k
  cases z : m ρ with
  | nx ρ1 =>
    rw [z] at k
    exact fun σ' H' B' Os' m' e' => ⟨B', Os', ρ1, m', Ks.step e' m'.out k⟩
  | bk ρ1 => rw [z] at k; exact k
  | ct ρ1 => rw [z] at k; exact k
  | ret d ρ1 => rw [z] at k; exact k
  | exc x ρ1 => rw [z] at k; exact k
  | bad => rw [z] at k; exact k
theorem ss_one (h1 : SS X C W st m) : SSs X C W [st] m := PSs.le (pss_one h1) fun _ _ _ h => h
theorem ss_pass : SS X C W (.Pass pos) mNx := by
  refine PS.le ps_pass fun D' σ H h => ?_
  obtain ⟨B, Os, ρ, m, k⟩ := h
  exact k σ H B Os m Ext.refl
theorem ss_break : SS X C W (.Break pos) (fun ρ => .bk ρ) := by
  refine PS.le ps_break fun D' σ H h => ?_
  obtain ⟨B, Os, ρ, m, k⟩ := h
  exact k σ H B Os m Ext.refl
theorem ss_continue : SS X C W (.Continue pos) (fun ρ => .ct ρ) := by
  refine PS.le ps_continue fun D' σ H h => ?_
  obtain ⟨B, Os, ρ, m, k⟩ := h
  exact k σ H B Os m Ext.refl
theorem ss_expr (he : SE X C W q e ma) (hs : swapsWith e none pos.line X.env = pure false := by rfl) : SS X C W (.Expr e pos) (mDrop ma) := by
  refine PS.le (ps_expr he hs) fun D' σ H h => ?_
  refine s_run (rep := repO C) h fun o ρ1 v H1 B1 F Os1 rp m1 k => ?_
  exact k σ H1 B1 Os1 m1.drop Ext.weak
theorem ss_if {t : Expr} {a b : List Stmt} (hc : SB X C W q t c) (ha : SSs X C W a m) (hb : SSs X C W b n) : SS X C W (.If t a b pos) (mIfS c m n) := by
  refine PS.le (ps_if hc ha hb) fun D' σ H h => ?_
  refine s_run (rep := repB) h fun o ρ1 v H1 B1 F Os1 rp m1 k => ?_
  obtain ⟨rfl, rfl⟩ := rp
  cases o with
  | true => exact ⟨B1, Os1, ρ1, m1, k⟩
  | false => exact ⟨B1, Os1, ρ1, m1, k⟩
theorem Mch.put {σ : L2.St} {H B : Hp} {F Os : List Addr} {ρ : Ro} {i : Nat} {d : D} {v : V} (m : Mch C σ H B F Os ρ) (r : Rp C B H d v F) (hL : C.L.contains i = false) (hi : i < ρ.length) :
    ∃ Os', Mch C (σ.set i (some v)) H B [] Os' (ρ.set i (some d)) ∧ Ext H B (F ++ Os) H B Os' := by
  obtain ⟨G, O1, O2, e1, _, _, w⟩ := m.slt.slot (List.getElem?_eq_getElem hi)
  subst e1
  obtain ⟨w1, _⟩ := w B H (Sub.refl _) (fun _ _ => rfl)
  have w1 := w1 d v F r
  have p : (F ++ (O1 ++ (G ++ O2))).Perm ((O1 ++ (F ++ O2)) ++ G) := by
    refine List.Perm.trans (l₂ := F ++ ((O1 ++ O2) ++ G)) (List.Perm.append_left F ?_) ?_
    · rw [List.append_assoc]
      exact List.Perm.append_left O1 List.perm_append_comm
    · rw [← List.append_assoc]
      refine List.Perm.append_right G ?_
      rw [← List.append_assoc, ← List.append_assoc O1]
      exact List.perm_append_comm.append_right O2
  have s : ∀ a ∈ O1 ++ (F ++ O2), a ∈ F ++ (O1 ++ (G ++ O2)) := fun a h => p.symm.subset (List.mem_append_left _ h)
  refine ⟨O1 ++ (F ++ O2), ⟨w1, ?_, fun a h => m.out a (s a h), fun a h => m.liv a (s a h), m.sub, fun j hj => ?_, m.b0⟩, Ext.refl.less s⟩
  · exact (List.nodup_append.mp (p.nodup_iff.mp m.nd)).1
  · rw [List.getElem?_set_ne (fun z => by rw [z, hj] at hL; cases hL)]
    exact m.pn j hj
theorem set_run {i : Nat} {D' : Ends} {σ : L2.St} {H : Hp} (hL : C.L.contains i = false) (h : tS C W (mSet i ma) D' σ H) : tM C W q ma σ H fun v H1 => D'.nx (σ.set i (some v)) H1 := by
  refine s_run (rep := repO C) h fun o ρ1 v H1 B1 F Os1 rp m1 k => ?_
  have gen : ∀ {d : D} {ρ2 : Ro}, frO o ρ1 = some (d, ρ2) → Ks C W H1 B1 (F ++ Os1) (if i < ρ2.length then .nx (ρ2.set i (some d)) else .bad) D' → D'.nx (σ.set i (some v)) H1 := by
    intro d ρ2 e k
    obtain ⟨B2, O2, r2, f2, m2, e2⟩ := frO_ok (G := []) rp (by rw [List.append_nil]; exact m1) e
    rw [List.append_nil] at e2
    by_cases hlt : i < ρ2.length
    · rw [if_pos hlt] at k
      obtain ⟨O3, m3, e3⟩ := m2.put r2 hL hlt
      exact k _ H1 B2 O3 m3 (e2.trans m2.out e3)
    · rw [if_neg hlt] at k
      exact k.elim
  cases o with
  | val d =>
    have k : Ks C W H1 B1 (F ++ Os1) (if i < ρ1.length then .nx (ρ1.set i (some d)) else .bad) D' := k
    by_cases hlt : i < ρ1.length
    · rw [if_pos hlt] at k
      obtain ⟨O3, m3, e3⟩ := m1.put rp hL hlt
      exact k _ H1 B1 O3 m3 e3
    · rw [if_neg hlt] at k
      exact k.elim
  | plc j =>
    have k : Ks C W H1 B1 (F ++ Os1) (match frO (.plc j) ρ1 with | some (d, ρ2) => if i < ρ2.length then .nx (ρ2.set i (some d)) else .bad | none => .bad) D' := k
    cases z : frO (.plc j) ρ1 with
    | none => rw [z] at k; exact k.elim
    | some p => rw [z] at k; exact gen z k
  | fld j f =>
    have k : Ks C W H1 B1 (F ++ Os1) (match frO (.fld j f) ρ1 with | some (d, ρ2) => if i < ρ2.length then .nx (ρ2.set i (some d)) else .bad | none => .bad) D' := k
    cases z : frO (.fld j f) ρ1 with
    | none => rw [z] at k; exact k.elim
    | some p => rw [z] at k; exact gen z k
theorem ss_set {i : Nat} {x : Str} {pos' : Pos} (hN : X.N.Nodup) (hi : X.N[i]? = some x) (hx : Loc X.env.scope x) (hL : C.L.contains i = false) (he : SE X C W q e ma) (hs : swapsWith e (some (.Name x pos')) pos.line X.env = pure false := by rfl)
    (hf : X.fn x = true ∨ X.env.scope.names.lookup x = some .local := by first | exact .inl rfl | exact .inr rfl | assumption) : SS X C W (.Assign [.Name x pos'] e pos) (mSet i ma) :=
  PS.le (ps_set hN hi hx he hs hf) fun D' σ H h => set_run hL h
theorem Mch.takeOut {σ : L2.St} {H B : Hp} {F Os : List Addr} {ρ : Ro} {i : Nat} {d : D} (m : Mch C σ H B F Os ρ) (e : (ρ[i]?).join = some d) :
    ∃ v G Os', σ[i]? = some (some v) ∧ Rp C B H d v G ∧ Mch C σ H B (G ++ F) Os' (ρ.set i none) ∧ Ext H B (F ++ Os) H B ((G ++ F) ++ Os') := by
  cases z : ρ[i]? with
  | none => rw [z] at e; cases e
  | some x =>
    rw [z] at e
    have e : x = some d := e
    subst e
    obtain ⟨G, O1, O2, e1, _, g, w⟩ := m.slt.slot z
    subst e1
    obtain ⟨v, h1, h2⟩ := g d rfl
    obtain ⟨_, w2⟩ := w B H (Sub.refl _) (fun _ _ => rfl)
    have w2 := w2 (some v)
    have es : σ.set i (some v) = σ := by
      refine List.ext_getElem? fun j => ?_
      rw [List.getElem?_set]
      by_cases hj : i = j
      · subst hj
        obtain ⟨hlt, _⟩ := List.getElem?_eq_some_iff.mp h1
        rw [if_pos rfl, if_pos hlt, h1]
      · rw [if_neg hj]
    rw [es] at w2
    have p : (F ++ (O1 ++ (G ++ O2))).Perm ((G ++ F) ++ (O1 ++ O2)) := by
      refine List.Perm.trans (l₂ := F ++ (G ++ (O1 ++ O2))) (List.Perm.append_left F ?_) ?_
      · rw [← List.append_assoc, ← List.append_assoc]
        exact List.perm_append_comm.append_right O2
      · rw [← List.append_assoc]
        exact List.perm_append_comm.append_right _
    exact ⟨v, G, O1 ++ O2, h1, h2, ⟨w2, p.nodup_iff.mp m.nd, fun a h => m.out a (p.symm.subset h), fun a h => m.liv a (p.symm.subset h), m.sub, m.pn, m.b0⟩, Ext.refl.less fun a h => p.symm.subset h⟩
theorem ss_ret (he : SE X C W q e ma) : SS X C W (.Return (some e) pos) (mRet C.L ma) := by
  refine PS.le (ps_ret he) fun D' σ H h => ?_
  refine s_run (rep := repO C) h fun o ρ1 v H1 B1 F Os1 rp m1 k => ?_
  cases o with
  | val d => exact k v σ H1 B1 F Os1 rp m1 Ext.refl
  | plc i =>
    have k : Ks C W H1 B1 (F ++ Os1) (match (ρ1[i]?).join with | some d => if C.L.contains i = true then .ret (fz d) (ρ1.set i (some (fz d))) else .ret d (ρ1.set i none) | none => .bad) D' := k
    obtain ⟨h1, rfl⟩ := rp
    cases z : (ρ1[i]?).join with
    | none => rw [z] at k; exact k.elim
    | some d =>
      rw [z] at k
      have k : Ks C W H1 B1 Os1 (if C.L.contains i = true then .ret (fz d) (ρ1.set i (some (fz d))) else .ret d (ρ1.set i none)) D' := k
      by_cases hL : C.L.contains i = true
      · rw [if_pos hL] at k
        obtain ⟨B2, O2, v', h2, r2, m2, e2⟩ := m1.freezeAt z
        rw [h1] at h2
        cases h2
        exact k v σ H1 B2 [] O2 r2 m2 e2
      · rw [if_neg hL] at k
        obtain ⟨v', G, O2, h2, r2, m2, e2⟩ := m1.takeOut z
        rw [h1] at h2
        cases h2
        rw [List.append_nil] at m2 e2
        exact k v σ H1 B1 G O2 r2 m2 e2
  | fld i f =>
    have k : Ks C W H1 B1 (F ++ Os1) (match frO (.fld i f) ρ1 with | some (d, ρ2) => .ret d ρ2 | none => .bad) D' := k
    cases z : frO (.fld i f) ρ1 with
    | none => rw [z] at k; exact k.elim
    | some p =>
      obtain ⟨d, ρ2⟩ := p
      rw [z] at k
      obtain ⟨B2, O2, r2, _, m2, e2⟩ := frO_ok (G := []) rp (by rw [List.append_nil]; exact m1) z
      rw [List.append_nil] at e2
      exact k v σ H1 B2 [] O2 r2 m2 e2
theorem ss_retN : SS X C W (.Return none pos) (fun ρ => .ret .non ρ) := by
  refine PS.le ps_retN fun D' σ H h => ?_
  obtain ⟨B, Os, ρ, m, k⟩ := h
  exact k .non σ H B [] Os ⟨rfl, rfl⟩ m Ext.refl
theorem ss_while {t : Expr} {body : List Stmt} (N : Nat) (hp : PassesOwn (model X.prog X.w) X.A X.env X.xe) (hc : SB X C W q t c) (hb : SSs X C W body m) : SS X C W (.While t body [] pos) (mWhile c m N) := by
  refine PS.le (ps_while hp hc hb) fun D' σ H h => ?_
  obtain ⟨B, Os, ρ, mm, k⟩ := h
  refine ⟨fun j σ' H' => ∃ B' Os' ρ', Mch C σ' H' B' [] Os' ρ' ∧ Ks C W H' B' Os' (mWhile c m j ρ') D', ⟨N, B, Os, ρ, mm, k⟩, ?_⟩
  rintro j σ1 H1 ⟨B1, O1, ρ1, m1, k1⟩
  cases j with
  | zero => exact k1.elim
  | succ j =>
    refine s_run (rep := repB) ⟨B1, O1, ρ1, m1, k1⟩ fun o ρ2 v H2 B2 F O2 rp m2 k2 => ?_
    obtain ⟨rfl, rfl⟩ := rp
    cases o with
    | false => exact k2 σ1 H2 B2 O2 m2 Ext.refl
    | true =>
      have k2 : Ks C W H2 B2 O2 (match m ρ2 with | .nx ρ2 => mWhile c m j ρ2 | .ct ρ2 => mWhile c m j ρ2 | .bk ρ2 => .nx ρ2 | r => r) D' := k2
      refine ⟨fun σ' H' => ∃ B' Os' ρ', Mch C σ' H' B' [] Os' ρ' ∧ Ks C W H' B' Os' (mWhile c m j ρ') D', fun σ' H' n => ⟨j, Nat.lt_succ_self j, n⟩, ⟨B2, O2, ρ2, m2, ?_⟩⟩
      cases z : m ρ2 with
      | nx ρ3 =>
        rw [z] at k2
        exact fun σ' H' B' Os' m' e' => ⟨B', Os', ρ3, m', Ks.step e' m'.out k2⟩
      | ct ρ3 =>
        rw [z] at k2
        exact fun σ' H' B' Os' m' e' => ⟨B', Os', ρ3, m', Ks.step e' m'.out k2⟩
      | bk ρ3 => rw [z] at k2; exact k2
      | ret d ρ3 => rw [z] at k2; exact k2
      | exc x ρ3 => rw [z] at k2; exact k2
      | bad => rw [z] at k2; exact k2
end
end Gc

namespace Gc
open PySem PySem.Spec PyProof.Rows L2
/-! Defs: what one keeps, and calls. -/
abbrev C0 (K : PySem.W.Frag) (mg : Str → Option Value) : Ctx := ⟨K, mg, [], fun _ => none, fun _ => none⟩
mutual
theorem Rp.ctx {K : PySem.W.Frag} {mg : Str → Option Value} {L L' : List Nat} {vs vs' : Nat → Option (Option V)} {b0 b0' B H : Hp} : ∀ {d : D} {v : V} {F : List Addr}, Rp ⟨K, mg, L, vs, b0⟩ B H d v F → Rp ⟨K, mg, L', vs', b0'⟩ B H d v F
  | .non, _, _, h => h
  | .bl _, _, _, h => h
  | .int _, _, _, h => h
  | .str _, _, _, h => h
  | .tup ds, v, F, h => by
    obtain ⟨a, vs, e, s, r⟩ := h
    exact ⟨a, vs, e, s, RpL.ctx r⟩
  | .lst o ds, v, F, h => by
    obtain ⟨a, vs, F', e, r, q⟩ := h
    exact ⟨a, vs, F', e, RpL.ctx r, q⟩
  | .dct o ks ds, v, F, h => by
    obtain ⟨a, vs, F', ho, e, r, i, q⟩ := h
    exact ⟨a, vs, F', ho, e, RpL.ctx r, i, q⟩
  | .obj o c ns ds, v, F, h => by
    obtain ⟨a, cl, dx, vs, F', e, m, l, r, q⟩ := h
    exact ⟨a, cl, dx, vs, F', e, m, l, RpL.ctx r, q⟩
  | .scr ns, v, F, h => h
theorem RpL.ctx {K : PySem.W.Frag} {mg : Str → Option Value} {L L' : List Nat} {vs vs' : Nat → Option (Option V)} {b0 b0' B H : Hp} : ∀ {ds : List D} {us : List V} {F : List Addr}, RpL ⟨K, mg, L, vs, b0⟩ B H ds us F → RpL ⟨K, mg, L', vs', b0'⟩ B H ds us F
  | [], _, _, h => h
  | d :: ds, us, F, h => by
    obtain ⟨v, vs', F1, F2, e, f, p, q⟩ := h
    exact ⟨v, vs', F1, F2, e, f, Rp.ctx p, RpL.ctx q⟩
end
theorem RpS.ctx {K : PySem.W.Frag} {mg : Str → Option Value} {L L' : List Nat} {vs vs' : Nat → Option (Option V)} {b0 b0' B H : Hp} : ∀ {ρ : Ro} {σ : L2.St} {F : List Addr}, RpS ⟨K, mg, L, vs, b0⟩ B H ρ σ F → RpS ⟨K, mg, L', vs', b0'⟩ B H ρ σ F
  | [], _, _, h => h
  | none :: ρ, σ, F, h => by
    obtain ⟨x, σ', e, r⟩ := h
    exact ⟨x, σ', e, RpS.ctx r⟩
  | some d :: ρ, σ, F, h => by
    obtain ⟨v, σ', F1, F2, e, f, p, q⟩ := h
    exact ⟨v, σ', F1, F2, e, f, Rp.ctx p, RpS.ctx q⟩
theorem XRep.ctx {K : PySem.W.Frag} {mg : Str → Option Value} {L L' : List Nat} {vs vs' : Nat → Option (Option V)} {b0 b0' B : Hp} {x : Exn} {cls : Value} {dd : Option Addr} (h : XRep ⟨K, mg, L, vs, b0⟩ B x cls dd) : XRep ⟨K, mg, L', vs', b0'⟩ B x cls dd := by
  obtain ⟨cl, a, us, h1, h2, h3, h4, h5, h6, h7⟩ := h
  exact ⟨cl, a, us, h1, h2, h3, h4, h5, RpL.ctx h6, h7⟩
/-- a def's own -/
abbrev cF (K : PySem.W.Frag) (mg : Str → Option Value) (L : List Nat) (vs : List V) : Ctx := ⟨K, mg, L, fun i => (vs.map some)[i]?, fun _ => none⟩
/-- what a def gives: a value or an exception, and what the parameters hold then -/
inductive FR where
  | ret (d : D) (ps : Ro) | exc (x : Exn) (ps : Ro) | bad
abbrev Fn := List D → FR
/-- the promise: the arguments stand for args -/
def Kf (C : Ctx) (vs : List V) (H B : Hp) (Oa : List Addr) (r : FR) (Q : VK) (E : XK) : Prop :=
  match r with
  | .ret d ps => ∀ v H' B' G Op, Rp C B' H' d v G → RpS C B' H' ps (vs.map some) Op → (G ++ Op).Nodup → (∀ a ∈ G ++ Op, B' a = none) → Sub B' H' → Ext H B Oa H' B' (G ++ Op) → Q v H'
  | .exc x ps => ∀ cls dd H' B' Op, XRep C B' x cls dd → RpS C B' H' ps (vs.map some) Op → Op.Nodup → (∀ a ∈ Op, B' a = none) → Sub B' H' → Ext H B Oa H' B' Op → E cls dd H'
  | .bad => False
def spD (K : PySem.W.Frag) (mg : Str → Option Value) (F : Fn) : Sp := fun vs H Q E =>
  ∃ args B Oa, RpS (C0 K mg) B H (args.map some) (vs.map some) Oa ∧ Oa.Nodup ∧ (∀ a ∈ Oa, B a = none) ∧ Sub B H ∧ Kf (C0 K mg) vs H B Oa (F args) Q E
/-- the parameters that are never stored to -/
def pick : (Nat → Bool) → Nat → Ro → Ro
  | _, 0, _ => []
  | f, n + 1, x :: ρ => (if f 0 = true then x else none) :: pick (fun i => f (i + 1)) n ρ
  | f, n + 1, [] => none :: pick (fun i => f (i + 1)) n []
theorem pick_rep {C : Ctx} {B H : Hp} : ∀ {n : Nat} {f : Nat → Bool} {ρ : Ro} {σ : L2.St} {vs : List V} {Os : List Addr}, RpS C B H ρ σ Os → vs.length = n → (∀ i, f i = true → i < n → σ[i]? = (vs.map some)[i]?) →
    ∃ Op, RpS C B H (pick f n ρ) (vs.map some) Op ∧ Op.Sublist Os
  | 0, f, ρ, σ, vs, Os, h, hl, hp => by
    have e : vs = [] := List.eq_nil_of_length_eq_zero hl
    subst e
    exact ⟨[], ⟨rfl, rfl⟩, List.nil_sublist _⟩
  | n + 1, f, [], σ, [], Os, h, hl, hp => by simp at hl
  | n + 1, f, [], σ, v :: vs, Os, h, hl, hp => by
    have hl' : vs.length = n := by simpa using hl
    obtain ⟨rfl, rfl⟩ := h
    obtain ⟨Op, h1, h2⟩ := pick_rep (C := C) (B := B) (H := H) (f := fun i => f (i + 1)) (ρ := []) (σ := []) (vs := vs) (Os := []) ⟨rfl, rfl⟩ hl' (fun i hi hl => by
        have := hp (i + 1) hi (by omega)
        simpa using this)
    exact ⟨Op, ⟨some v, vs.map some, rfl, h1⟩, h2⟩
  | n + 1, f, x :: ρ, σ, [], Os, h, hl, hp => by simp at hl
  | n + 1, f, x :: ρ, σ, v :: vs, Os, h, hl, hp => by
    have hl' : vs.length = n := by simpa using hl
    cases x with
    | none =>
      obtain ⟨y, σ', rfl, r⟩ := h
      obtain ⟨Op, h1, h2⟩ := pick_rep (f := fun i => f (i + 1)) (vs := vs) r hl' (fun i hi hl => by
        have := hp (i + 1) hi (by omega)
        simpa using this)
      refine ⟨Op, ?_, h2⟩
      show RpS C B H ((if f 0 = true then none else none) :: _) _ _
      have e : (if f 0 = true then (none : Option D) else none) = none := by split <;> rfl
      rw [e]
      exact ⟨some v, vs.map some, rfl, h1⟩
    | some d =>
      obtain ⟨y, σ', F1, F2, rfl, rfl, p, r⟩ := h
      obtain ⟨Op, h1, h2⟩ := pick_rep (f := fun i => f (i + 1)) (vs := vs) r hl' (fun i hi hl => by
        have := hp (i + 1) hi (by omega)
        simpa using this)
      show ∃ Op, RpS C B H ((if f 0 = true then some d else none) :: _) _ _ ∧ _
      by_cases hf : f 0 = true
      · rw [if_pos hf]
        have e0 := hp 0 hf (by omega)
        simp only [List.getElem?_cons_zero, List.map_cons, Option.some.injEq] at e0
        subst e0
        exact ⟨F1 ++ Op, ⟨y, vs.map some, F1, Op, rfl, rfl, p, h1⟩, h2.append_left F1⟩
      · rw [if_neg hf]
        exact ⟨Op, ⟨some v, vs.map some, rfl, h1⟩, h2.trans (List.sublist_append_right _ _)⟩
/-- a def by its body's denotation; N slots in all -/
def runD (L : List Nat) (np N : Nat) (m : MS) : Fn := fun args =>
  if args.length = np then
    match m (args.map some ++ List.replicate (N - np) none) with
    | .nx ρ => .ret .non (pick L.contains np ρ)
    | .ret d ρ => .ret d (pick L.contains np ρ)
    | .exc x ρ => .exc x (pick L.contains np ρ)
    | _ => .bad
  else .bad
/-- F tells what G tells, wherever it tells -/
def Le (F G : Fn) : Prop := ∀ args, F args ≠ .bad → G args = F args
theorem Le.refl (F : Fn) : Le F F := fun _ _ => rfl
section
variable {P : Program} {w : World} {K : PySem.W.Frag} {mg : Str → Option Value} {base : Heap}
theorem spD_le {F G : Fn} (h : Le F G) : ∀ vs H Q E, spD K mg F vs H Q E → spD K mg G vs H Q E := by
  rintro vs H Q E ⟨args, B, Oa, h1, h2, h3, h4, h5⟩
  refine ⟨args, B, Oa, h1, h2, h3, h4, ?_⟩
  rw [h args (fun z => by rw [z] at h5; exact h5)]
  exact h5
theorem RpS.nones {C : Ctx} {B H : Hp} : ∀ n : Nat, RpS C B H (List.replicate n none) (List.replicate n none) []
  | 0 => ⟨rfl, rfl⟩
  | n + 1 => ⟨none, List.replicate n none, rfl, RpS.nones n⟩
theorem RpS.app {C : Ctx} {B H : Hp} : ∀ {ρ ρ' : Ro} {σ σ' : L2.St} {F G : List Addr}, RpS C B H ρ σ F → RpS C B H ρ' σ' G → RpS C B H (ρ ++ ρ') (σ ++ σ') (F ++ G)
  | [], ρ', σ, σ', F, G, h, k => by obtain ⟨rfl, rfl⟩ := h; exact k
  | none :: ρ, ρ', σ, σ', F, G, h, k => by
    obtain ⟨y, σ1, rfl, r⟩ := h
    exact ⟨y, σ1 ++ σ', rfl, RpS.app r k⟩
  | some d :: ρ, ρ', σ, σ', F, G, h, k => by
    obtain ⟨v, σ1, F1, F2, rfl, rfl, p, r⟩ := h
    exact ⟨v, σ1 ++ σ', F1, F2 ++ G, rfl, by rw [List.append_assoc], p, RpS.app r k⟩
theorem spD_len {F : Fn} {np : Nat} (h : ∀ args, F args ≠ .bad → args.length = np) : ∀ vs H Q E, spD K mg F vs H Q E → vs.length = np := by
  rintro vs H Q E ⟨args, B, Oa, h1, h2, h3, h4, h5⟩
  have e := RpS.len h1
  rw [List.length_map, List.length_map] at e
  rw [e]
  exact h args fun z => by rw [z] at h5; exact h5
theorem runD_len {L : List Nat} {np N : Nat} {m : MS} : ∀ args, runD L np N m args ≠ .bad → args.length = np := fun args h => by
  unfold runD at h
  by_cases e : args.length = np
  · exact e
  · rw [if_neg e] at h; exact absurd rfl h
/-- THE RULE for a def -/
theorem fn_run {x qual : Str} {st : Stmt} {f : Addr} {fd : FuncData} {N ps : List Str} {k : Nat} {m : MS} (L : List Nat) (F : Fun K x qual st f fd) (S : FnScope N ps (defScope st)) (hL : L.all (fun i => decide (i < ps.length)) = true)
    (hbody : ∀ (cdv : Value) (A : Around) (outer : List Env) (s : Shared) (H : Hp) (vs : List V) (E : XK), Room k (A.deeper (envOfC qual (defScope st) s.heap.objs.size f cdv)) →
      SSs (cxOf (L2.CX P w) P w K mg base N qual (defScope st) f cdv A outer s H E) (cF K mg L vs) (fun cls d _ H' => E cls d H') (defBody st) m) :
    FnOk P w K mg base (L2.CX P w) (k + 1) f fd ps (spD K mg (runD L ps.length N.length m)) := by
  refine F.okX S (spD_len runD_len) fun cdv A outer s H vs Q E hr h => ⟨_, hbody cdv A outer s H vs E hr, ?_⟩
  obtain ⟨args, B, Oa, h1, h2, h3, h4, h5⟩ := h
  have hn : args.length = ps.length := runD_len args fun z => by rw [z] at h5; exact h5
  have e := RpS.len h1
  rw [List.length_map, List.length_map] at e
  have r0 : RpS (cF K mg L vs) B H (args.map some ++ List.replicate (N.length - ps.length) none) (L2.start N vs) Oa := by
    have z := RpS.app (RpS.ctx (L' := L) (vs' := fun i => (vs.map some)[i]?) h1) (RpS.nones (C := (cF K mg L vs)) (B := B) (H := H) (N.length - ps.length))
    rw [List.append_nil] at z
    unfold L2.start
    rw [e, hn]
    exact z
  have hpl : ps.length ≤ N.length := by
    have := congrArg List.length S.pre
    rw [List.length_take] at this
    omega
  have pn0 : ∀ i, (cF K mg L vs).L.contains i = true → i < ps.length → (L2.start N vs)[i]? = (cF K mg L vs).pv i := fun i _ hi => by
    unfold L2.start
    rw [List.getElem?_append_left (by rw [List.length_map]; omega)]
  have hL' : ∀ i, L.contains i = true → i < ps.length := fun i hi => by
    have z := List.all_eq_true.mp hL i (List.contains_iff_mem.mp hi)
    exact of_decide_eq_true z
  refine ⟨B, Oa, args.map some ++ List.replicate (N.length - ps.length) none, ⟨r0, h2, h3, RpS.live r0, h4, fun i hi => pn0 i hi (hL' i hi), fun _ _ e => by cases e⟩, ?_⟩
  unfold runD at h5
  rw [if_pos hn] at h5
  have fin : ∀ {σ' : L2.St} {H' B' : Hp} {Fr Os' : List Addr} {ρ' : Ro}, Mch (cF K mg L vs) σ' H' B' Fr Os' ρ' → ∃ Op, RpS (C0 K mg) B' H' (pick L.contains ps.length ρ') (vs.map some) Op ∧ Op.Sublist Os' := fun {σ' H' B' Fr Os' ρ'} m' => by
    obtain ⟨Op, p1, p2⟩ := pick_rep (f := L.contains) (vs := vs) (n := ps.length) m'.slt (by omega) (fun i hi _ => m'.pn i hi)
    exact ⟨Op, RpS.ctx p1, p2⟩
  cases z : m (args.map some ++ List.replicate (N.length - ps.length) none) with
  | nx ρ' =>
    rw [z] at h5
    intro σ' H' B' Os' m' e'
    obtain ⟨Op, p1, p2⟩ := fin m'
    exact h5 .non H' B' [] Op ⟨rfl, rfl⟩ p1 (m'.nd.sublist p2) (fun a ha => m'.out a (p2.subset ha)) m'.sub (e'.less fun a ha => p2.subset ha)
  | ret d ρ' =>
    rw [z] at h5
    intro v σ' H' B' G Os' r' m' e'
    obtain ⟨Op, p1, p2⟩ := fin m'
    have p3 := p2.append_left G
    exact h5 v H' B' G Op (Rp.ctx r') p1 (m'.nd.sublist p3) (fun a ha => m'.out a (p3.subset ha)) m'.sub (e'.less fun a ha => p3.subset ha)
  | exc x ρ' =>
    rw [z] at h5
    intro cls dd σ' H' B' Os' xr m' e'
    obtain ⟨Op, p1, p2⟩ := fin m'
    exact h5 cls dd H' B' Op (XRep.ctx xr) p1 (m'.nd.sublist p2) (fun a ha => m'.out a (p2.subset ha)) m'.sub (e'.less fun a ha => p2.subset ha)
  | bk ρ' => rw [z] at h5; exact h5.elim
  | ct ρ' => rw [z] at h5; exact h5.elim
  | bad => rw [z] at h5; exact h5.elim
/-- .. told by G -/
theorem fn_ok {x qual : Str} {st : Stmt} {f : Addr} {fd : FuncData} {N ps : List Str} {k : Nat} {m : MS} {G : Fn} (L : List Nat) (F : Fun K x qual st f fd) (S : FnScope N ps (defScope st)) (hL : L.all (fun i => decide (i < ps.length)) = true) (hG : Le G (runD L ps.length N.length m))
    (hbody : ∀ (cdv : Value) (A : Around) (outer : List Env) (s : Shared) (H : Hp) (vs : List V) (E : XK), Room k (A.deeper (envOfC qual (defScope st) s.heap.objs.size f cdv)) →
      SSs (cxOf (L2.CX P w) P w K mg base N qual (defScope st) f cdv A outer s H E) (cF K mg L vs) (fun cls d _ H' => E cls d H') (defBody st) m) :
    FnOk P w K mg base (L2.CX P w) (k + 1) f fd ps (spD K mg G) := (fn_run L F S hL hbody).imp (spD_le hG)
/-- in a def's body -/
theorem on_fn {N : List Str} {qual : Str} {scope : Scope} {f : Addr} {cd : Value} {A : Around} {outer : List Env} {s : Shared} {H : Hp} {E : XK} {L : List Nat} {vs : List V} :
    On (cxOf (L2.CX P w) P w K mg base N qual scope f cd A outer s H E) (cF K mg L vs) (fun cls d _ H' => E cls d H') := ⟨rfl, rfl, takes_of rfl rfl rfl rfl⟩
end

/-! ### calls -/
/-- the arguments: what a slot owns is lent, what is held goes into B -/
def lend : List Op → Ro → Option (List D × Ro)
  | [], ρ => some ([], ρ)
  | .val d :: os, ρ => match lend os ρ with
    | some (ds, ρ') => some (fz d :: ds, ρ')
    | none => none
  | .plc i :: os, ρ => match (ρ[i]?).join with
    | some d => match lend os (ρ.set i none) with
      | some (ds, ρ') => some (d :: ds, ρ')
      | none => none
    | none => none
  | .fld i f :: os, ρ => match frO (.fld i f) ρ with
    | some (d, ρ1) => (match lend os ρ1 with
      | some (ds, ρ') => some (d :: ds, ρ')
      | none => none)
    | none => none
def back : List Op → Ro → Ro → Option Ro
  | [], _, ρ => some ρ
  | .plc i :: os, p :: ps, ρ => if i < ρ.length then back os ps (ρ.set i p) else none
  | .val _ :: os, _ :: ps, ρ => back os ps ρ
  | .fld _ _ :: os, _ :: ps, ρ => back os ps ρ
  | _, _, _ => none
def callF (F : Fn) (os : List Op) (ρ : Ro) : R Op := match lend os ρ with
  | none => .bad
  | some (args, ρ2) => match F args with
    | .ret d ps => match back os ps ρ2 with
      | some ρ3 => .ok (.val d) ρ3
      | none => .bad
    | .exc x ps => match back os ps ρ2 with
      | some ρ3 => .exc x ρ3
      | none => .bad
    | .bad => .bad
def mCall (F : Fn) (ms : M (List Op)) : M Op := fun ρ => (ms ρ).bind fun os ρ1 => callF F os ρ1
section
variable {C : Ctx} {W : WX} {σ : L2.St} {H B : Hp} {F Os : List Addr} {ρ : Ro}
theorem lend_ok {H : Hp} : ∀ {os : List Op} {vs : List V} {F Os : List Addr} {B : Hp} {ρ : Ro} {args : List D} {ρ' : Ro}, RpOs C σ B H os vs F → Mch C σ H B F Os ρ → lend os ρ = some (args, ρ') →
    ∃ B' Oa Or, RpS C B' H (args.map some) (vs.map some) Oa ∧ Mch C σ H B' Oa Or ρ' ∧ Ext H B (F ++ Os) H B' (Oa ++ Or)
  | [], vs, F, Os, B, ρ, args, ρ', r, m, e => by
    obtain ⟨rfl, rfl⟩ := r
    cases e
    exact ⟨B, [], Os, ⟨rfl, rfl⟩, m, Ext.refl⟩
  | .fld i f :: os, vs, F, Os, B, ρ, args, ρ', r, m, e => by
    obtain ⟨v, vs', F1, F2, rfl, rfl, p, rs⟩ := r
    unfold lend at e
    cases z0 : frO (.fld i f) ρ with
    | none => rw [z0] at e; cases e
    | some q =>
      obtain ⟨d, ρ1⟩ := q
      rw [z0] at e
      cases z : lend os ρ1 with
      | none => simp only [z] at e; cases e
      | some q =>
        obtain ⟨ds, ρ2⟩ := q
        simp only [z] at e
        cases e
        obtain ⟨B1, O1, r1, f1, m1, e1⟩ := frO_ok p m z0
        obtain ⟨B2, Oa, Or, h1, h2, h3⟩ := lend_ok (rs.up e1.sub) m1 z
        exact ⟨B2, Oa, Or, ⟨v, vs'.map some, [], Oa, rfl, rfl, Rp.fixed f1 r1 h3.sub, h1⟩, h2, e1.trans m1.out h3⟩
  | .val d :: os, vs, F, Os, B, ρ, args, ρ', r, m, e => by
    obtain ⟨v, vs', F1, F2, rfl, rfl, p, rs⟩ := r
    unfold lend at e
    cases z : lend os ρ with
    | none => rw [z] at e; cases e
    | some q =>
      obtain ⟨ds, ρ2⟩ := q
      rw [z] at e
      cases e
      obtain ⟨m1, e1⟩ := m.freeze
      have rs1 := rs.up e1.sub
      obtain ⟨B2, Oa, Or, h1, h2, h3⟩ := lend_ok rs1 m1 z
      have r1 : Rp C (frz B H F1) H (fz d) v [] := Rp.freeze m.left.outF (fun a h => h) p
      refine ⟨B2, Oa, Or, ⟨v, vs'.map some, [], Oa, rfl, rfl, Rp.fixed (isFz_fz d) r1 h3.sub, h1⟩, h2, e1.trans m1.out h3⟩
  | .plc i :: os, vs, F, Os, B, ρ, args, ρ', r, m, e => by
    obtain ⟨v, vs', F1, F2, rfl, rfl, ⟨p, rfl⟩, rs⟩ := r
    unfold lend at e
    cases z0 : (ρ[i]?).join with
    | none => rw [z0] at e; cases e
    | some d =>
      rw [z0] at e
      cases z : lend os (ρ.set i none) with
      | none => simp only [z] at e; cases e
      | some q =>
        obtain ⟨ds, ρ2⟩ := q
        simp only [z] at e
        cases e
        obtain ⟨v', G, O2, k1, k2, m1, e1⟩ := m.takeOut z0
        rw [p] at k1
        cases k1
        have rs' : RpOs C σ B H os vs' F2 := rs
        have m1' : Mch C σ H B (G ++ F2) O2 (ρ.set i none) := m1
        obtain ⟨B2, Oa, Or, h1, h2, h3⟩ := lend_ok rs' m1'.right z
        have nG : ∀ a ∈ G, B2 a = none := fun a ha => by
          cases zz : B2 a with
          | none => rfl
          | some u =>
            exfalso
            rcases h3.dom a (.inl (by rw [zz]; simp)) with q | q | q
            · exact q (m1'.outF a (List.mem_append_left _ ha))
            · have nd := m1'.nd
              rw [List.append_assoc] at nd
              exact (List.nodup_append.mp nd).2.2 a ha a q rfl
            · exact m1'.liv a (by simp [ha]) q
        have dis : ∀ a ∈ G, a ∉ Oa ++ Or := fun a ha hb => by
          rcases h3.dom a (.inr hb) with q | q | q
          · exact q (m1'.outF a (List.mem_append_left _ ha))
          · have nd := m1'.nd
            rw [List.append_assoc] at nd
            exact (List.nodup_append.mp nd).2.2 a ha a q rfl
          · exact m1'.liv a (by simp [ha]) q
        have e1' : Ext H B (F2 ++ Os) H B (G ++ (F2 ++ O2)) := by
          rw [← List.append_assoc]
          exact e1
        refine ⟨B2, G ++ Oa, Or, ⟨v, vs'.map some, G, Oa, rfl, rfl, Rp.frame h3.sub (fun _ _ => rfl) k2, h1⟩, ⟨h2.slt, ?_, fun a ha => ?_, fun a ha => ?_, h2.sub, h2.pn, h2.b0⟩, ?_⟩
        · rw [List.append_assoc]
          have ndG : G.Nodup := (List.nodup_append.mp (List.nodup_append.mp m1'.nd).1).1
          exact List.nodup_append.mpr ⟨ndG, h2.nd, fun a ha b hb zz => dis a ha (zz ▸ hb)⟩
        · rw [List.append_assoc] at ha
          rcases List.mem_append.mp ha with ha | ha
          · exact nG a ha
          · exact h2.out a ha
        · rw [List.append_assoc] at ha
          rcases List.mem_append.mp ha with ha | ha
          · exact m1'.liv a (by simp [ha])
          · exact h2.liv a ha
        · have h3' : Ext H B (G ++ (F2 ++ O2)) H B2 (G ++ (Oa ++ Or)) := h3.beside
          rw [show G ++ (Oa ++ Or) = G ++ Oa ++ Or from (List.append_assoc _ _ _).symm] at h3'
          refine e1'.trans (fun a ha => ?_) h3'
          have : a ∈ (G ++ F2) ++ O2 := by rw [List.append_assoc]; exact ha
          exact m1'.out a this
/-- what was lent comes back -/
theorem back_ok {B H : Hp} : ∀ {os : List Op} {vs : List V} {ps ρ ρ' : Ro} {G Op Or : List Addr}, (∀ (j i : Nat), os[j]? = some (Gc.Op.plc i) → σ[i]? = (vs.map some)[j]?) → RpS C B H ps (vs.map some) Op → Mch C σ H B (G ++ Op) Or ρ → back os ps ρ = some ρ' →
    ∃ Os', Mch C σ H B G Os' ρ' ∧ Ext H B ((G ++ Op) ++ Or) H B (G ++ Os')
  | [], vs, ps, ρ, ρ', G, Op, Or, hv, r, m, e => by
    cases e
    exact ⟨Or, m.left, Ext.refl.less fun a ha => by
      rcases List.mem_append.mp ha with h | h <;> simp [h]⟩
  | .fld i f :: os, vs, [], ρ, ρ', G, Op, Or, hv, r, m, e => by cases e
  | .val d :: os, vs, [], ρ, ρ', G, Op, Or, hv, r, m, e => by cases e
  | .plc i :: os, vs, [], ρ, ρ', G, Op, Or, hv, r, m, e => by cases e
  | .val d :: os, vs, none :: ps, ρ, ρ', G, Op, Or, hv, r, m, e => by
    obtain ⟨y, σ', h1, r1⟩ := r
    cases vs with
    | nil => cases h1
    | cons v vs =>
      rw [List.map_cons] at h1
      cases h1
      exact back_ok (vs := vs) (fun j k hj => by have := hv (j + 1) k (by simpa using hj); simpa using this) r1 m e
  | .val d :: os, vs, some p :: ps, ρ, ρ', G, Op, Or, hv, r, m, e => by
    obtain ⟨y, σ', F1, F2, h1, rfl, q, r1⟩ := r
    cases vs with
    | nil => cases h1
    | cons v vs =>
      rw [List.map_cons] at h1
      cases h1
      have s : ((G ++ F2) ++ Or).Sublist ((G ++ (F1 ++ F2)) ++ Or) := ((List.sublist_append_right F1 F2).append_left G).append_right Or
      have m' : Mch C σ H B (G ++ F2) Or ρ := ⟨m.slt, m.nd.sublist s, fun a h => m.out a (s.subset h), fun a h => m.liv a (s.subset h), m.sub, m.pn, m.b0⟩
      obtain ⟨Os', h2, h3⟩ := back_ok (vs := vs) (fun j k hj => by have := hv (j + 1) k (by simpa using hj); simpa using this) r1 m' e
      exact ⟨Os', h2, (Ext.refl.less fun a h => s.subset h).trans m'.out h3⟩
  | .fld fi ff :: os, vs, none :: ps, ρ, ρ', G, Op, Or, hv, r, m, e => by
    obtain ⟨y, σ', h1, r1⟩ := r
    cases vs with
    | nil => cases h1
    | cons v vs =>
      rw [List.map_cons] at h1
      cases h1
      exact back_ok (vs := vs) (fun j k hj => by have := hv (j + 1) k (by simpa using hj); simpa using this) r1 m e
  | .fld fi ff :: os, vs, some p :: ps, ρ, ρ', G, Op, Or, hv, r, m, e => by
    obtain ⟨y, σ', F1, F2, h1, rfl, q, r1⟩ := r
    cases vs with
    | nil => cases h1
    | cons v vs =>
      rw [List.map_cons] at h1
      cases h1
      have s : ((G ++ F2) ++ Or).Sublist ((G ++ (F1 ++ F2)) ++ Or) := ((List.sublist_append_right F1 F2).append_left G).append_right Or
      have m' : Mch C σ H B (G ++ F2) Or ρ := ⟨m.slt, m.nd.sublist s, fun a h => m.out a (s.subset h), fun a h => m.liv a (s.subset h), m.sub, m.pn, m.b0⟩
      obtain ⟨Os', h2, h3⟩ := back_ok (vs := vs) (fun j k hj => by have := hv (j + 1) k (by simpa using hj); simpa using this) r1 m' e
      exact ⟨Os', h2, (Ext.refl.less fun a h => s.subset h).trans m'.out h3⟩
  | .plc i :: os, vs, none :: ps, ρ, ρ', G, Op, Or, hv, r, m, e => by
    obtain ⟨y, σ', h1, r1⟩ := r
    cases vs with
    | nil => cases h1
    | cons v vs =>
      rw [List.map_cons] at h1
      cases h1
      have e : (if i < ρ.length then back os ps (ρ.set i none) else none) = some ρ' := e
      by_cases hlt : i < ρ.length
      · rw [if_pos hlt] at e
        obtain ⟨G', O1, O2, e1, _, _, w⟩ := m.slt.slot (List.getElem?_eq_getElem hlt)
        subst e1
        obtain ⟨_, w2⟩ := w B H (Sub.refl _) (fun _ _ => rfl)
        have hv0 : σ[i]? = some (some v) := by have := hv 0 i (by simp); simpa using this
        have w2 := w2 (some v)
        have es : σ.set i (some v) = σ := by
          refine List.ext_getElem? fun j => ?_
          rw [List.getElem?_set]
          by_cases hj : i = j
          · subst hj
            obtain ⟨hl2, _⟩ := List.getElem?_eq_some_iff.mp hv0
            rw [if_pos rfl, if_pos hl2, hv0]
          · rw [if_neg hj]
        rw [es] at w2
        have s : ((G ++ Op) ++ (O1 ++ O2)).Sublist ((G ++ Op) ++ (O1 ++ (G' ++ O2))) := ((List.sublist_append_right G' O2).append_left O1).append_left _
        have m' : Mch C σ H B (G ++ Op) (O1 ++ O2) (ρ.set i none) := ⟨w2, m.nd.sublist s, fun a h => m.out a (s.subset h), fun a h => m.liv a (s.subset h), m.sub, m.pn, m.b0⟩
        obtain ⟨Os', h2, h3⟩ := back_ok (vs := vs) (fun j k hj => by have := hv (j + 1) k (by simpa using hj); simpa using this) r1 m' e
        exact ⟨Os', h2, (Ext.refl.less fun a h => s.subset h).trans m'.out h3⟩
      · rw [if_neg hlt] at e; cases e
  | .plc i :: os, vs, some p :: ps, ρ, ρ', G, Op, Or, hv, r, m, e => by
    obtain ⟨y, σ', F1, F2, h1, rfl, q, r1⟩ := r
    cases vs with
    | nil => cases h1
    | cons v vs =>
      rw [List.map_cons] at h1
      cases h1
      have e : (if i < ρ.length then back os ps (ρ.set i (some p)) else none) = some ρ' := e
      by_cases hlt : i < ρ.length
      · rw [if_pos hlt] at e
        obtain ⟨G', O1, O2, e1, _, _, w⟩ := m.slt.slot (List.getElem?_eq_getElem hlt)
        subst e1
        obtain ⟨w1, _⟩ := w B H (Sub.refl _) (fun _ _ => rfl)
        have hv0 : σ[i]? = some (some y) := by have := hv 0 i (by simp); simpa using this
        have w1 := w1 p y F1 q
        have es : σ.set i (some y) = σ := by
          refine List.ext_getElem? fun j => ?_
          rw [List.getElem?_set]
          by_cases hj : i = j
          · subst hj
            obtain ⟨hl2, _⟩ := List.getElem?_eq_some_iff.mp hv0
            rw [if_pos rfl, if_pos hl2, hv0]
          · rw [if_neg hj]
        rw [es] at w1
        have pp : ((G ++ (F1 ++ F2)) ++ (O1 ++ (G' ++ O2))).Perm (((G ++ F2) ++ (O1 ++ (F1 ++ O2))) ++ G') := by
          have a1 : ((G ++ (F1 ++ F2)) ++ (O1 ++ (G' ++ O2))).Perm ((G ++ (F2 ++ F1)) ++ ((O1 ++ O2) ++ G')) := by
            refine List.Perm.append (List.Perm.append_left G List.perm_append_comm) ?_
            rw [List.append_assoc]
            exact List.Perm.append_left O1 List.perm_append_comm
          refine a1.trans ?_
          have a2 : ((G ++ (F2 ++ F1)) ++ ((O1 ++ O2) ++ G')) = ((G ++ F2) ++ (F1 ++ (O1 ++ O2))) ++ G' := by simp only [List.append_assoc]
          rw [a2]
          refine List.Perm.append_right G' (List.Perm.append_left _ ?_)
          rw [← List.append_assoc, ← List.append_assoc]
          exact List.perm_append_comm.append_right O2
        have sb : ∀ a ∈ (G ++ F2) ++ (O1 ++ (F1 ++ O2)), a ∈ (G ++ (F1 ++ F2)) ++ (O1 ++ (G' ++ O2)) := fun a h => pp.symm.subset (List.mem_append_left _ h)
        have m' : Mch C σ H B (G ++ F2) (O1 ++ (F1 ++ O2)) (ρ.set i (some p)) := ⟨w1, (List.nodup_append.mp (pp.nodup_iff.mp m.nd)).1, fun a h => m.out a (sb a h), fun a h => m.liv a (sb a h), m.sub, m.pn, m.b0⟩
        obtain ⟨Os', h2, h3⟩ := back_ok (vs := vs) (fun j k hj => by have := hv (j + 1) k (by simpa using hj); simpa using this) r1 m' e
        exact ⟨Os', h2, (Ext.refl.less fun a h => sb a h).trans m'.out h3⟩
      · rw [if_neg hlt] at e; cases e
theorem plc_at {B H : Hp} : ∀ {os : List Op} {vs : List V} {F : List Addr}, RpOs C σ B H os vs F → ∀ (j i : Nat), os[j]? = some (Gc.Op.plc i) → σ[i]? = (vs.map some)[j]?
  | [], vs, F, h, j, i, e => by simp at e
  | o :: os, vs, F, h, 0, i, e => by
    obtain ⟨v, vs', F1, F2, rfl, rfl, p, r⟩ := h
    simp only [List.getElem?_cons_zero, Option.some.injEq] at e
    subst e
    exact p.1
  | o :: os, vs, F, h, j + 1, i, e => by
    obtain ⟨v, vs', F1, F2, rfl, rfl, p, r⟩ := h
    rw [List.getElem?_cons_succ] at e
    have := plc_at r j i e
    simpa using this
/-- a step of what is held, the slots aside -/
theorem Mch.other {H' B' : Hp} {N : List Addr} (m : Mch C σ H B F Os ρ) (e : Ext H B F H' B' N) (nd : N.Nodup) (out : ∀ a ∈ N, B' a = none) (liv : ∀ a ∈ N, H' a ≠ none) (sub : Sub B' H') : Mch C σ H' B' N Os ρ ∧ Ext H B (F ++ Os) H' B' (N ++ Os) := by
  have ap : ∀ a ∈ Os, a ∉ F := fun a h z => m.apart a z h
  have hh : ∀ a ∈ Os, H' a = H a := fun a h => by
    cases u : H a with
    | none => exact absurd u (m.liv a (List.mem_append_right _ h))
    | some o => exact e.keep a o u (ap a h)
  have key : ∀ a ∈ Os, (B' a ≠ none ∨ a ∈ N) → False := fun a h z => by
    rcases e.dom a z with q | q | q
    · exact q (m.outO a h)
    · exact ap a h q
    · exact m.liv a (List.mem_append_right _ h) q
  refine ⟨⟨RpS.frame e.sub hh m.slt, List.nodup_append.mpr ⟨nd, (List.nodup_append.mp m.nd).2.1, fun a h b k z => key b k (.inr (z ▸ h))⟩, fun a h => ?_, fun a h => ?_, sub, m.pn, m.b0.trans e.sub⟩, ⟨fun a o q n => e.keep a o q fun z => n (List.mem_append_left _ z), fun a q => ?_, e.sub⟩⟩
  · rcases List.mem_append.mp h with h | h
    · exact out a h
    · cases u : B' a with
      | none => rfl
      | some o => exact (key a h (.inl (by rw [u]; simp))).elim
  · rcases List.mem_append.mp h with h | h
    · exact liv a h
    · rw [hh a h]; exact m.liv a (List.mem_append_right _ h)
  · have : (B' a ≠ none ∨ a ∈ N) ∨ a ∈ Os := by
      rcases q with q | q
      · exact .inl (.inl q)
      · rcases List.mem_append.mp q with q | q
        · exact .inl (.inr q)
        · exact .inr q
    rcases this with q | q
    · rcases e.dom a q with z | z | z
      · exact .inl z
      · exact .inr (.inl (List.mem_append_left _ z))
      · exact .inr (.inr z)
    · exact .inr (.inl (List.mem_append_right _ q))
end
section
variable {X : Cx} {C : Ctx} {W : WX} {q qs : Bool} {e : Expr} {es : List Expr} {ms : M (List Op)} {pos : Pos} {F : Fn}
/-- where a callee's promise is wanted -/
theorem call_run {σ : L2.St} {H : Hp} {Q : VK} (h : tM C W false (mCall F ms) σ H Q) : tMs C W qs ms σ H fun vs H1 => spD C.K C.mg F vs H1 Q (fun cls d H' => W cls d σ H') := by
  refine un_run (rep := repOs C) (fun z => by cases z) h fun os ρ1 vs H1 B1 Fa Os1 ra m1 k => ?_
  have k : Kg C W σ false (RpO C σ) H1 B1 (Fa ++ Os1) (callF F os ρ1) Q := k
  unfold callF at k
  cases z : lend os ρ1 with
  | none => rw [z] at k; exact k.elim
  | some p =>
    obtain ⟨args, ρ2⟩ := p
    simp only [z] at k
    obtain ⟨B2, Oa, Or, h1, m2, e2⟩ := lend_ok ra m1 z
    refine ⟨args, B2, Oa, RpS.ctx h1, (List.nodup_append.mp m2.nd).1, m2.outF, m2.sub, ?_⟩
    cases zf : F args with
    | bad => simp only [zf] at k; exact k.elim
    | ret d ps =>
      simp only [zf] at k
      cases zb : back os ps ρ2 with
      | none => rw [zb] at k; exact k.elim
      | some ρ3 =>
        rw [zb] at k
        intro v H' B' G Op r1 r2 nd out sub e3
        have liv : ∀ a ∈ G ++ Op, H' a ≠ none := fun a ha => by
          rcases List.mem_append.mp ha with ha | ha
          · exact Rp.live r1 a ha
          · exact RpS.live r2 a ha
        obtain ⟨m3, e4⟩ := m2.other e3 nd out liv sub
        obtain ⟨Os', m4, e5⟩ := back_ok (plc_at ra) (RpS.ctx r2) m3 zb
        exact k v H' B' G Os' (Rp.ctx r1) m4 ((e2.trans m2.out e4).trans m3.out e5) (fun z => by cases z)
    | exc x ps =>
      simp only [zf] at k
      cases zb : back os ps ρ2 with
      | none => rw [zb] at k; exact k.elim
      | some ρ3 =>
        rw [zb] at k
        intro cls dd H' B' Op xr r2 nd out sub e3
        obtain ⟨m3, e4⟩ := m2.other e3 nd out (RpS.live r2) sub
        obtain ⟨Os', m4, e5⟩ := back_ok (G := []) (plc_at ra) (RpS.ctx r2) m3 zb
        exact k cls dd H' B' Os' (XRep.ctx xr) m4 ((e2.trans m2.out e4).trans m3.out e5)
theorem se_call {f : Addr} {fd : FuncData} {ps : List Str} {k : Nat} {x : Str} {p : Pos} (on : On X C W) (G : FnOk X.prog X.w X.K X.mg X.base (L2.CX X.prog X.w) k f fd ps (spD X.K X.mg F)) (hr : Room k X.A) (hg : Gl X x) (hm : X.mg x = some (.ref f)) (hk : PySem.W.keepIn X.K (.ref f) = true)
    (hb : Binds X.K fd ps []) (ha : SA X C W qs (e :: es) ms) (hdb : (x == ("__debug__" : Str)) = false := by decide) (he : starEach (e :: es) X.env = (false, eval e X.env) :: starEach es X.env := by rfl) (hpl : (backTo pos (starEach es X.env)).any (·.1) = false := by rfl) :
    SE X C W false (.Call (.Name x p) (e :: es) [] pos) (mCall F ms) := by
  refine PE.le (pe_callSD (E := fun σ cls d H => W cls d σ H) G hr hg hm hk hb .nil (fun σ => passAt on.tk σ) ha hdb he hpl) fun σ H Q h => ?_
  have h2 := call_run (qs := qs) h
  show tMs C W qs ms σ H fun vs H1 => spD X.K X.mg F (vs ++ []) H1 Q (fun cls d H' => W cls d σ H')
  rw [on.K, on.mg]
  simp only [List.append_nil]
  exact h2
end
end Gc

namespace Gc
open PySem PySem.Spec PyProof.Rows L2
/-! Operations by values. -/
abbrev lim : Nat := 16777216
theorem lim_le {n : Nat} (h : n ≤ lim) : n ≤ sizeLine := by rw [sizeLine_eq]; exact h
section
variable {C : Ctx} {B H : Hp}
theorem Rp.lst_at {o : Bool} {ds : List D} {v : V} {G : List Addr} (h : Rp C B H (.lst o ds) v G) (s : Sub B H) : ∃ a vs F, v = .ref a ∧ H a = some (.lst vs) ∧ RpL C B H ds vs F := by
  obtain ⟨a, vs, F', e, r, q⟩ := h
  refine ⟨a, vs, F', e, ?_, r⟩
  rcases q with ⟨_, q, _⟩ | ⟨_, q, _⟩
  · exact q
  · exact s _ _ q
theorem Rp.tup_at {ds : List D} {v : V} {G : List Addr} (h : Rp C B H (.tup ds) v G) (s : Sub B H) : ∃ a vs, v = .ref a ∧ SqT C.K H a vs ∧ SqT C.K B a vs ∧ RpL C B H ds vs G := by
  obtain ⟨a, vs, e, q, r⟩ := h
  exact ⟨a, vs, e, s.t q, q, r⟩
end
/-- the plain values -/
def tv : D → Option V
  | .non => some .non
  | .bl b => some (.bl b)
  | .int i => some (.int i)
  | .str s => some (.str s)
  | _ => none
def tvs : List D → Option (List V)
  | [] => some []
  | d :: r => match tv d, tvs r with
    | some v, some vs => some (v :: vs)
    | _, _ => none
mutual
def toP : D → Option PyData
  | .non => some .none
  | .bl b => some (.bool b)
  | .int i => some (.int i)
  | .str s => some (.str s)
  | .tup ds => (toPs ds).map .tuple
  | .lst _ ds => (toPs ds).map .list
  | _ => none
def toPs : List D → Option (List PyData)
  | [] => some []
  | d :: r => match toP d, toPs r with
    | some p, some ps => some (p :: ps)
    | _, _ => none
end
section
variable {C : Ctx} {B H : Hp}
theorem tv_rep {d : D} {v x : V} {G : List Addr} (h : Rp C B H d v G) (e : tv d = some x) : v = x := by
  cases d with
  | non => cases e; exact h.1
  | bl b => cases e; exact h.1
  | int i => cases e; exact h.1
  | str s => cases e; exact h.1
  | _ => cases e
theorem tvs_rep : ∀ {ds : List D} {vs xs : List V} {G : List Addr}, RpL C B H ds vs G → tvs ds = some xs → vs = xs
  | [], vs, xs, G, h, e => by cases e; exact h.1
  | d :: ds, vs, xs, G, h, e => by
    obtain ⟨v, vs', F1, F2, rfl, rfl, p, q⟩ := h
    unfold tvs at e
    cases e1 : tv d with
    | none => rw [e1] at e; cases e
    | some x =>
      cases e2 : tvs ds with
      | none => rw [e1, e2] at e; cases e
      | some ys =>
        rw [e1, e2] at e
        cases e
        rw [tv_rep p e1, tvs_rep q e2]
theorem tv_flat {d : D} {x : V} (e : tv d = some x) : flatV x = true := by
  cases d <;> first | (cases e; rfl) | cases e
theorem tvs_flat : ∀ {ds : List D} {xs : List V}, tvs ds = some xs → xs.all flatV = true
  | [], xs, e => by cases e; rfl
  | d :: ds, xs, e => by
    unfold tvs at e
    cases e1 : tv d with
    | none => rw [e1] at e; cases e
    | some x =>
      cases e2 : tvs ds with
      | none => rw [e1, e2] at e; cases e
      | some ys =>
        rw [e1, e2] at e
        cases e
        simp only [List.all_cons, tv_flat e1, tvs_flat e2, Bool.and_self]
mutual
theorem toP_rep (s : Sub B H) : ∀ {d : D} {v : V} {p : PyData} {G : List Addr}, Rp C B H d v G → toP d = some p → Dp C.K H v p
  | .non, v, p, G, h, e => by cases e; rw [h.1]; exact .non
  | .bl b, v, p, G, h, e => by cases e; rw [h.1]; exact .bl b
  | .int i, v, p, G, h, e => by cases e; rw [h.1]; exact .int i
  | .str x, v, p, G, h, e => by cases e; rw [h.1]; exact .str x
  | .tup ds, v, p, G, h, e => by
    obtain ⟨a, vs, rfl, q, _, r⟩ := h.tup_at s
    unfold toP at e
    cases e1 : toPs ds with
    | none => rw [e1] at e; cases e
    | some ps => rw [e1] at e; cases e; exact .tup q (toPs_rep s r e1)
  | .lst o ds, v, p, G, h, e => by
    obtain ⟨a, vs, F, rfl, q, r⟩ := h.lst_at s
    unfold toP at e
    cases e1 : toPs ds with
    | none => rw [e1] at e; cases e
    | some ps => rw [e1] at e; cases e; exact .lst (.of q) (toPs_rep s r e1)
  | .dct o ks ds, v, p, G, h, e => by cases e
  | .obj o c ns ds, v, p, G, h, e => by cases e
  | .scr ns, v, p, G, h, e => by cases e
theorem toPs_rep (s : Sub B H) : ∀ {ds : List D} {vs : List V} {ps : List PyData} {G : List Addr}, RpL C B H ds vs G → toPs ds = some ps → DpAll C.K H vs ps
  | [], vs, ps, G, h, e => by cases e; rw [h.1]; exact .nil
  | d :: ds, vs, ps, G, h, e => by
    obtain ⟨v, vs', F1, F2, rfl, rfl, p, q⟩ := h
    unfold toPs at e
    cases e1 : toP d with
    | none => rw [e1] at e; cases e
    | some x =>
      cases e2 : toPs ds with
      | none => rw [e1, e2] at e; cases e
      | some ys =>
        rw [e1, e2] at e
        cases e
        exact .cons (toP_rep s p e1) (toPs_rep s q e2)
end
end
/-! ### sums, products, comparisons -/
def gAdd : D → D → Option D
  | .int i, .int j => some (.int (i + j))
  | .str x, .str y => if x.length + y.length ≤ lim then some (.str (x ++ y)) else none
  | .lst _ a, .lst _ b => if (isFzL a && isFzL b) = true ∧ a.length + b.length ≤ lim then some (.lst true (a ++ b)) else none
  | .tup a, .tup b => if (isFzL a && isFzL b) = true ∧ a.length + b.length ≤ lim then some (.tup (a ++ b)) else none
  | _, _ => none
def gSub : D → D → Option D
  | .int i, .int j => some (.int (i - j))
  | _, _ => none
def gMul : D → D → Option D
  | .int i, .int j => if (-(2 ^ 64) < i ∧ i < 2 ^ 64) ∨ (-(2 ^ 64) < j ∧ j < 2 ^ 64) then some (.int (i * j)) else none
  | _, _ => none
def gDiv : D → D → Option D
  | .int i, .int j => if j ≠ 0 ∧ j.natAbs < 1073741824 then some (.int (i.fdiv j)) else none
  | _, _ => none
def gMod : D → D → Option D
  | .int i, .int j => if j ≠ 0 then some (.int (i.fmod j)) else none
  | _, _ => none
def gPow : D → D → Option D
  | .int i, .int j => if 0 ≤ j ∧ j ≤ 1000000 ∧ i.natAbs < 2 ^ 64 then some (.int (i ^ j.toNat)) else none
  | _, _ => none
def gNeg : D → Option D
  | .int i => some (.int (-i))
  | _ => none
def gEq (a b : D) : Option Bool :=
  match a, b with
  | .str x, .str y => some (decide (x = y))
  | .int i, .int j => some (decide (i = j))
  | .bl i, .bl j => some (decide (i = j))
  | a, b => match toP a, toP b with
    | some p, some q => if (SeqAt.shaped p && SeqAt.shaped q) = true then some (PyData.eqv p q) else none
    | _, _ => none
def gNe (a b : D) : Option Bool := (gEq a b).map not
def gLt : D → D → Option Bool
  | .int i, .int j => some (decide (i < j))
  | .str x, .str y => some (decide (x.cps.toList < y.cps.toList))
  | _, _ => none
def gLe : D → D → Option Bool
  | .int i, .int j => some (decide (i ≤ j))
  | _, _ => none
def gGt : D → D → Option Bool
  | .int i, .int j => some (decide (j < i))
  | _, _ => none
def gGe : D → D → Option Bool
  | .int i, .int j => some (decide (j ≤ i))
  | _, _ => none
/-- the one text stands in the other -/
def isSub (x y : Str) : Bool := !(Builtin.Str.occurrences y x 0 y.length 1).isEmpty
def gIn : D → D → Option Bool
  | .str x, .str y => some (isSub x y)
  | a, .lst _ ds => match tv a, tvs ds with
    | some x, some xs => some (inV x xs)
    | _, _ => match toP a, toPs ds with
      | some p, some ps => if (SeqAt.shaped p && SeqAt.shaped (.list ps)) = true then some (ps.any fun z => PyData.eqv z p) else none
      | _, _ => none
  | a, .tup ds => match tv a, tvs ds with
    | some x, some xs => some (inV x xs)
    | _, _ => none
  | _, _ => none
def gNin (a b : D) : Option Bool := (gIn a b).map not
def isNonD : D → Bool
  | .non => true
  | _ => false
def gIs : D → D → Option Bool
  | a, .non => some (isNonD a)
  | _, _ => none
def gIsN : D → D → Option Bool
  | a, .non => some (!isNonD a)
  | _, _ => none
section
variable {X : Cx} {C : Ctx} {B H : Hp}
theorem isNon_rep {d : D} {v : V} {G : List Addr} (h : Rp C B H d v G) : decide (v = .non) = isNonD d := by
  cases d with
  | non => rw [h.1]; rfl
  | bl b => rw [h.1]; rfl
  | int i => rw [h.1]; rfl
  | str s => rw [h.1]; rfl
  | tup ds => obtain ⟨a, vs, rfl, _⟩ := h; rfl
  | lst o ds => obtain ⟨a, vs, _, rfl, _⟩ := h; rfl
  | dct o ks ds => obtain ⟨a, vs, _, _, rfl, _⟩ := h; rfl
  | obj o c ns ds => obtain ⟨a, _, _, vs, _, rfl, _⟩ := h; rfl
  | scr ns => obtain ⟨a, rfl, _⟩ := h; rfl
def rAddX (K : PySem.W.Frag) : R2 := fun x y H Q => ((rI0 fun i j => .int (i + j)) x y H Q ∨ (∃ i j, x = .str i ∧ y = .str j ∧ i.length + j.length ≤ sizeLine ∧ Q (.str (i ++ j)) H)) ∨ (rCat x y H Q ∨ rCatA K x y H Q)
theorem op_addX : OpR X (binaryOp .Add) (rAddX X.K) := (op_add.or op_add_str).or (op_cat.or op_catA)
theorem pu_add {K : PySem.W.Frag} (hK : K = C.K) : Pu2 C (rAddX K) gAdd := by
  subst hK
  intro B H x y a b d G G' Q s ra rb e q
  cases a <;> cases b <;> first | (have e' : none = some _ := e; exact nomatch e') | skip
  · obtain ⟨rfl, _⟩ := ra; obtain ⟨rfl, _⟩ := rb; cases e
    exact .inl (.inl ⟨_, _, rfl, rfl, q _ _ _ _ (PX.sc s ⟨rfl, rfl⟩)⟩)
  · rename_i x' y'
    obtain ⟨rfl, _⟩ := ra; obtain ⟨rfl, _⟩ := rb
    have e : (if x'.length + y'.length ≤ lim then some (D.str (x' ++ y')) else none) = some d := e
    by_cases h : x'.length + y'.length ≤ lim
    · rw [if_pos h] at e; cases e
      exact .inl (.inr ⟨_, _, rfl, rfl, lim_le h, q _ _ _ _ (PX.sc s ⟨rfl, rfl⟩)⟩)
    · rw [if_neg h] at e; cases e
  · rename_i as bs
    obtain ⟨p1, vs, rfl, t1, t1b, r1⟩ := ra.tup_at s
    obtain ⟨p2, ws, rfl, t2, t2b, r2⟩ := rb.tup_at s
    have e : (if (isFzL as && isFzL bs) = true ∧ as.length + bs.length ≤ lim then some (D.tup (as ++ bs)) else none) = some d := e
    by_cases h : (isFzL as && isFzL bs) = true ∧ as.length + bs.length ≤ lim
    · rw [if_pos h] at e; cases e
      obtain ⟨h1, h2⟩ := Bool.and_eq_true_iff.mp h.1
      have r1' := RpL.fixed (H' := H) h1 r1 (Sub.refl _)
      have r2' := RpL.fixed (H' := H) h2 r2 (Sub.refl _)
      have l1 := RpL.len r1
      have l2 := RpL.len r2
      refine .inr (.inr ⟨p1, p2, vs, ws, rfl, rfl, t1, t2, lim_le (by rw [l1, l2]; exact h.2), fun z => ?_, fun _ z => ?_, fun _ _ p n => ?_⟩)
      · subst z
        have e0 : as = [] := List.eq_nil_of_length_eq_zero (by rw [← l1]; rfl)
        subst e0
        exact q _ _ _ _ (PX.sc s ⟨p2, ws, rfl, t2b, r2'⟩)
      · subst z
        have e0 : bs = [] := List.eq_nil_of_length_eq_zero (by rw [← l2]; rfl)
        subst e0
        rw [List.append_nil] at q
        exact q _ _ _ _ (PX.sc s ⟨p1, vs, rfl, t1b, r1'⟩)
      · exact q _ _ _ _ (PX.tup s n (RpL.app r1' r2'))
    · rw [if_neg h] at e; cases e
  · rename_i o1 as o2 bs
    obtain ⟨p1, vs, F1, rfl, t1, r1⟩ := ra.lst_at s
    obtain ⟨p2, ws, F2, rfl, t2, r2⟩ := rb.lst_at s
    have e : (if (isFzL as && isFzL bs) = true ∧ as.length + bs.length ≤ lim then some (D.lst true (as ++ bs)) else none) = some d := e
    by_cases h : (isFzL as && isFzL bs) = true ∧ as.length + bs.length ≤ lim
    · rw [if_pos h] at e; cases e
      obtain ⟨h1, h2⟩ := Bool.and_eq_true_iff.mp h.1
      have r1' := RpL.fixed (H' := H) h1 r1 (Sub.refl _)
      have r2' := RpL.fixed (H' := H) h2 r2 (Sub.refl _)
      have l1 := RpL.len r1
      have l2 := RpL.len r2
      refine .inr (.inl ⟨p1, p2, vs, ws, rfl, rfl, t1, t2, lim_le (by rw [l1, l2]; exact h.2), fun p n => ?_⟩)
      exact q _ _ _ _ (PX.lst s n (RpL.app r1' r2'))
    · rw [if_neg h] at e; cases e
theorem pu_sub : Pu2 C (rI0 fun i j => .int (i - j)) gSub := by
  intro B H x y a b d G G' Q s ra rb e q
  cases a <;> cases b <;> first | (have e' : none = some _ := e; exact nomatch e') | skip
  obtain ⟨rfl, _⟩ := ra; obtain ⟨rfl, _⟩ := rb; cases e
  exact ⟨_, _, rfl, rfl, q _ _ _ _ (PX.sc s ⟨rfl, rfl⟩)⟩
theorem pu_I {P : Int → Int → Prop} [∀ i j, Decidable (P i j)] {f : Int → Int → Int} {g : D → D → Option D} (h1 : ∀ i j, g (.int i) (.int j) = if P i j then some (.int (f i j)) else none) (h2 : ∀ a b d, g a b = some d → ∃ i j, a = .int i ∧ b = .int j) :
    Pu2 C (rI P fun i j => .int (f i j)) g := by
  intro B H x y a b d G G' Q s ra rb e q
  obtain ⟨i, j, rfl, rfl⟩ := h2 a b d e
  obtain ⟨rfl, _⟩ := ra; obtain ⟨rfl, _⟩ := rb
  rw [h1] at e
  by_cases h : P i j
  · rw [if_pos h] at e; cases e
    exact ⟨_, _, rfl, rfl, h, q _ _ _ _ (PX.sc s ⟨rfl, rfl⟩)⟩
  · rw [if_neg h] at e; cases e
instance : ∀ i j, Decidable (CMul i j) := fun i j => by unfold CMul; infer_instance
instance : ∀ i j, Decidable (CDivN i j) := fun i j => by unfold CDivN; infer_instance
instance : ∀ i j, Decidable (CPow i j) := fun i j => by unfold CPow; infer_instance
theorem pu_mul : Pu2 C (rI CMul fun i j => .int (i * j)) gMul := pu_I (P := CMul) (f := fun i j => i * j) (fun i j => by
    show (if (-(2 ^ 64) < i ∧ i < 2 ^ 64) ∨ (-(2 ^ 64) < j ∧ j < 2 ^ 64) then some (D.int (i * j)) else none) = _
    by_cases h : CMul i j
    · rw [if_pos (show (-(2 ^ 64) < i ∧ i < 2 ^ 64) ∨ (-(2 ^ 64) < j ∧ j < 2 ^ 64) from h), if_pos h]
    · rw [if_neg (show ¬ ((-(2 ^ 64) < i ∧ i < 2 ^ 64) ∨ (-(2 ^ 64) < j ∧ j < 2 ^ 64)) from h), if_neg h]) fun a b d e => by
  cases a <;> cases b <;> first | exact ⟨_, _, rfl, rfl⟩ | (have e' : none = some _ := e; exact nomatch e')
theorem pu_div : Pu2 C (rI CDivN fun i j => .int (i.fdiv j)) gDiv := pu_I (P := CDivN) (f := fun i j => i.fdiv j) (fun i j => by
    show (if j ≠ 0 ∧ j.natAbs < 1073741824 then some (D.int (i.fdiv j)) else none) = _
    by_cases h : CDivN i j
    · rw [if_pos (show j ≠ 0 ∧ j.natAbs < 1073741824 from h), if_pos h]
    · rw [if_neg (show ¬ (j ≠ 0 ∧ j.natAbs < 1073741824) from h), if_neg h]) fun a b d e => by
  cases a <;> cases b <;> first | exact ⟨_, _, rfl, rfl⟩ | (have e' : none = some _ := e; exact nomatch e')
theorem pu_mod : Pu2 C (rI (fun _ j => j ≠ 0) fun i j => .int (i.fmod j)) gMod := pu_I (P := fun _ j => j ≠ 0) (f := fun i j => i.fmod j) (fun i j => rfl) fun a b d e => by
  cases a <;> cases b <;> first | exact ⟨_, _, rfl, rfl⟩ | (have e' : none = some _ := e; exact nomatch e')
theorem pu_pow : Pu2 C (rI CPow fun i j => .int (i ^ j.toNat)) gPow := pu_I (P := CPow) (f := fun i j => i ^ j.toNat) (fun i j => by
    show (if 0 ≤ j ∧ j ≤ 1000000 ∧ i.natAbs < 2 ^ 64 then some (D.int (i ^ j.toNat)) else none) = _
    by_cases h : CPow i j
    · rw [if_pos (show 0 ≤ j ∧ j ≤ 1000000 ∧ i.natAbs < 2 ^ 64 from h), if_pos h]
    · rw [if_neg (show ¬ (0 ≤ j ∧ j ≤ 1000000 ∧ i.natAbs < 2 ^ 64) from h), if_neg h]) fun a b d e => by
  cases a <;> cases b <;> first | exact ⟨_, _, rfl, rfl⟩ | (have e' : none = some _ := e; exact nomatch e')
theorem pu_neg : Pu1 C (rU fun i => .int (-i)) gNeg := by
  intro B H x a d G Q s ra e q
  cases a <;> first | (have e' : none = some _ := e; exact nomatch e') | skip
  obtain ⟨rfl, _⟩ := ra; cases e
  exact ⟨_, rfl, q _ _ _ _ (PX.sc s ⟨rfl, rfl⟩)⟩
def rEqX (K : PySem.W.Frag) : R2 := fun x y H Q => rEq x y H Q ∨ rEqD K x y H Q
def rNeX (K : PySem.W.Frag) : R2 := fun x y H Q => rNe x y H Q ∨ rNeD K x y H Q
theorem op_eqX (hu : X.A.units + 64 < cLine) : OpR X (compareOp .Eq) (rEqX X.K) := op_eq.or (op_eqD hu)
theorem op_neX (hu : X.A.units + 64 < cLine) : OpR X (compareOp .NotEq) (rNeX X.K) := op_ne.or (op_neD hu)
theorem eq_gen {a b : D} {k : Bool} {x y : V} {G G' : List Addr} (s : Sub B H) (ra : Rp C B H a x G) (rb : Rp C B H b y G') (e : gEq a b = some k) :
    (scal x y = true ∧ k = decide (x = y)) ∨ ∃ p q, Dp C.K H x p ∧ Dp C.K H y q ∧ SeqAt.shaped p = true ∧ SeqAt.shaped q = true ∧ k = PyData.eqv p q := by
  have gen : (match toP a, toP b with | some p, some q => if (SeqAt.shaped p && SeqAt.shaped q) = true then some (PyData.eqv p q) else none | _, _ => none) = some k → ∃ p q, Dp C.K H x p ∧ Dp C.K H y q ∧ SeqAt.shaped p = true ∧ SeqAt.shaped q = true ∧ k = PyData.eqv p q := by
    intro e
    cases e1 : toP a with
    | none => rw [e1] at e; cases e
    | some p =>
      cases e2 : toP b with
      | none => rw [e1, e2] at e; cases e
      | some q =>
        rw [e1, e2] at e
        have e : (if (SeqAt.shaped p && SeqAt.shaped q) = true then some (PyData.eqv p q) else none) = some k := e
        by_cases h : (SeqAt.shaped p && SeqAt.shaped q) = true
        · rw [if_pos h] at e; cases e
          obtain ⟨h1, h2⟩ := Bool.and_eq_true_iff.mp h
          exact ⟨p, q, toP_rep s ra e1, toP_rep s rb e2, h1, h2, rfl⟩
        · rw [if_neg h] at e; cases e
  unfold gEq at e
  split at e
  · obtain ⟨rfl, _⟩ := ra; obtain ⟨rfl, _⟩ := rb; cases e
    exact .inl ⟨rfl, by simp⟩
  · obtain ⟨rfl, _⟩ := ra; obtain ⟨rfl, _⟩ := rb; cases e
    exact .inl ⟨rfl, by simp⟩
  · obtain ⟨rfl, _⟩ := ra; obtain ⟨rfl, _⟩ := rb; cases e
    exact .inl ⟨rfl, by simp⟩
  · exact .inr (gen e)
theorem pb_eq {K : PySem.W.Frag} (hK : K = C.K) : Pb2 C (rEqX K) gEq := by
  subst hK
  intro B H x y a b k G G' Q s ra rb e q
  rcases eq_gen s ra rb e with ⟨h1, h2⟩ | ⟨p1, p2, h1, h2, h3, h4, h5⟩
  · subst h2; exact .inl ⟨h1, q⟩
  · subst h5; exact .inr ⟨p1, p2, h1, h2, h3, h4, q⟩
theorem pb_ne {K : PySem.W.Frag} (hK : K = C.K) : Pb2 C (rNeX K) gNe := by
  subst hK
  intro B H x y a b k G G' Q s ra rb e q
  unfold gNe at e
  cases z : gEq a b with
  | none => rw [z] at e; cases e
  | some k' =>
    rw [z] at e
    cases e
    rcases eq_gen s ra rb z with ⟨h1, h2⟩ | ⟨p1, p2, h1, h2, h3, h4, h5⟩
    · subst h2; exact .inl ⟨h1, q⟩
    · subst h5; exact .inr ⟨p1, p2, h1, h2, h3, h4, q⟩
def rLtX : R2 := fun x y H Q => (rI0 fun i j => .bl (decide (i < j))) x y H Q ∨ (∃ i j, x = .str i ∧ y = .str j ∧ Q (.bl (decide (i.cps.toList < j.cps.toList))) H)
theorem op_ltX : OpR X (compareOp .Lt) rLtX := op_lt.or op_lt_str
theorem pb_lt : Pb2 C rLtX gLt := by
  intro B H x y a b k G G' Q s ra rb e q
  cases a <;> cases b <;> first | (have e' : none = some _ := e; exact nomatch e') | skip
  · obtain ⟨rfl, _⟩ := ra; obtain ⟨rfl, _⟩ := rb; cases e; exact .inl ⟨_, _, rfl, rfl, q⟩
  · obtain ⟨rfl, _⟩ := ra; obtain ⟨rfl, _⟩ := rb; cases e; exact .inr ⟨_, _, rfl, rfl, q⟩
theorem pb_le : Pb2 C (rI0 fun i j => .bl (decide (i ≤ j))) gLe := by
  intro B H x y a b k G G' Q s ra rb e q
  cases a <;> cases b <;> first | (have e' : none = some _ := e; exact nomatch e') | skip
  obtain ⟨rfl, _⟩ := ra; obtain ⟨rfl, _⟩ := rb; cases e; exact ⟨_, _, rfl, rfl, q⟩
theorem pb_gt : Pb2 C (rI0 fun i j => .bl (decide (j < i))) gGt := by
  intro B H x y a b k G G' Q s ra rb e q
  cases a <;> cases b <;> first | (have e' : none = some _ := e; exact nomatch e') | skip
  obtain ⟨rfl, _⟩ := ra; obtain ⟨rfl, _⟩ := rb; cases e; exact ⟨_, _, rfl, rfl, q⟩
theorem pb_ge : Pb2 C (rI0 fun i j => .bl (decide (j ≤ i))) gGe := by
  intro B H x y a b k G G' Q s ra rb e q
  cases a <;> cases b <;> first | (have e' : none = some _ := e; exact nomatch e') | skip
  obtain ⟨rfl, _⟩ := ra; obtain ⟨rfl, _⟩ := rb; cases e; exact ⟨_, _, rfl, rfl, q⟩
def rIs : R2 := fun x y H Q => y = .non ∧ Q (.bl (decide (x = .non))) H
def rIsN : R2 := fun x y H Q => y = .non ∧ Q (.bl (!decide (x = .non))) H
theorem pb_is : Pb2 C rIs gIs := by
  intro B H x y a b k G G' Q s ra rb e q
  cases b <;> first | (have e' : none = some _ := e; exact nomatch e') | skip
  obtain ⟨rfl, _⟩ := rb
  have e : some (isNonD a) = some k := e
  cases e
  exact ⟨rfl, by rw [isNon_rep ra]; exact q⟩
theorem pb_isN : Pb2 C rIsN gIsN := by
  intro B H x y a b k G G' Q s ra rb e q
  cases b <;> first | (have e' : none = some _ := e; exact nomatch e') | skip
  obtain ⟨rfl, _⟩ := rb
  have e : some (!isNonD a) = some k := e
  cases e
  exact ⟨rfl, by rw [isNon_rep ra]; exact q⟩
def rInX (K : PySem.W.Frag) : R2 := fun x y H Q => ((∃ i j, x = .str i ∧ y = .str j ∧ Q (.bl (!(Builtin.Str.occurrences j i 0 j.length 1).isEmpty)) H) ∨ rIn K false x y H Q) ∨ rInD K x y H Q
def rNinX (K : PySem.W.Frag) : R2 := fun x y H Q => ((∃ i j, x = .str i ∧ y = .str j ∧ Q (.bl (!(!(Builtin.Str.occurrences j i 0 j.length 1).isEmpty))) H) ∨ rIn K true x y H Q) ∨ rNotInD K x y H Q
theorem in_gen {a b : D} {k : Bool} {x y : V} {G G' : List Addr} (s : Sub B H) (ra : Rp C B H a x G) (rb : Rp C B H b y G') (e : gIn a b = some k) :
    ((∃ i j, x = .str i ∧ y = .str j ∧ k = !(Builtin.Str.occurrences j i 0 j.length 1).isEmpty) ∨ (∃ p xs, y = .ref p ∧ (SqL C.K H p xs ∨ SqT C.K H p xs) ∧ flatV x = true ∧ xs.all flatV = true ∧ k = inV x xs)) ∨
      ∃ d ds, Dp C.K H x d ∧ Dp C.K H y (.list ds) ∧ SeqAt.shaped d = true ∧ SeqAt.shaped (.list ds) = true ∧ k = ds.any fun z => PyData.eqv z d := by
  unfold gIn at e
  split at e
  · obtain ⟨rfl, _⟩ := ra; obtain ⟨rfl, _⟩ := rb; cases e
    exact .inl (.inl ⟨_, _, rfl, rfl, rfl⟩)
  · rename_i o ds _
    obtain ⟨p, vs, F, rfl, t, r⟩ := rb.lst_at s
    split at e
    · rename_i x0 xs0 e1 e2
      cases e
      have h1 := tv_rep ra e1
      have h2 := tvs_rep r e2
      subst h1 h2
      exact .inl (.inr ⟨p, vs, rfl, .inl (.of t), tv_flat e1, tvs_flat e2, rfl⟩)
    · split at e
      · rename_i p0 ps0 e1 e2
        by_cases h : (SeqAt.shaped p0 && SeqAt.shaped (.list ps0)) = true
        · rw [if_pos h] at e; cases e
          obtain ⟨h1, h2⟩ := Bool.and_eq_true_iff.mp h
          exact .inr ⟨p0, ps0, toP_rep s ra e1, .lst (.of t) (toPs_rep s r e2), h1, h2, rfl⟩
        · rw [if_neg h] at e; cases e
      · cases e
  · rename_i ds _
    obtain ⟨p, vs, rfl, t, _, r⟩ := rb.tup_at s
    split at e
    · rename_i x0 xs0 e1 e2
      cases e
      have h1 := tv_rep ra e1
      have h2 := tvs_rep r e2
      subst h1 h2
      exact .inl (.inr ⟨p, vs, rfl, .inr t, tv_flat e1, tvs_flat e2, rfl⟩)
    · cases e
  · cases e
theorem pb_in {K : PySem.W.Frag} (hK : K = C.K) : Pb2 C (rInX K) gIn := by
  subst hK
  intro B H x y a b k G G' Q s ra rb e q
  rcases in_gen s ra rb e with (⟨i, j, h1, h2, h3⟩ | ⟨p, xs, h1, h2, h3, h4, h5⟩) | ⟨d, ds, h1, h2, h3, h4, h5⟩
  · subst h3; exact .inl (.inl ⟨i, j, h1, h2, q⟩)
  · subst h5; exact .inl (.inr ⟨p, xs, h1, h2, h3, h4, q⟩)
  · subst h5; exact .inr ⟨d, ds, h1, h2, h3, h4, q⟩
theorem pb_nin {K : PySem.W.Frag} (hK : K = C.K) : Pb2 C (rNinX K) gNin := by
  subst hK
  intro B H x y a b k G G' Q s ra rb e q
  unfold gNin at e
  cases z : gIn a b with
  | none => rw [z] at e; cases e
  | some k' =>
    rw [z] at e
    cases e
    rcases in_gen s ra rb z with (⟨i, j, h1, h2, h3⟩ | ⟨p, xs, h1, h2, h3, h4, h5⟩) | ⟨d, ds, h1, h2, h3, h4, h5⟩
    · subst h3; exact .inl (.inl ⟨i, j, h1, h2, q⟩)
    · subst h5; exact .inl (.inr ⟨p, xs, h1, h2, h3, h4, q⟩)
    · subst h5; exact .inr ⟨d, ds, h1, h2, h3, h4, q⟩
end
end Gc

namespace Gc
open PySem PySem.Spec PyProof.Rows L2
/-! Subscripts, displays, methods, built-ins. -/
def chr1 (c : Nat) : D := .str ⟨#[c]⟩
/-- an item by its place, from either end -/
def atD {α : Type} (xs : List α) (i : Int) : Option α := atI xs i
def okz (d : D) : Option D := if isFz d = true then some d else none
def gIx : D → D → Option D
  | .lst _ ds, .int i => (atD ds i).bind okz
  | .tup ds, .int i => (atD ds i).bind okz
  | .str s, .int i => if s.length ≤ lim then (atD s.cps.toList i).map chr1 else none
  | _, _ => none
section
variable {X : Cx} {C : Ctx} {B H : Hp}
theorem RpL.atI {ds : List D} {vs : List V} {F : List Addr} {i : Int} {d : D} (h : RpL C B H ds vs F) (e : L2.atI ds i = some d) : ∃ v G, L2.atI vs i = some v ∧ Rp C B H d v G := by
  unfold L2.atI at e ⊢
  rw [RpL.len h]
  cases z : ixN ds.length i with
  | none => rw [z] at e; cases e
  | some j =>
    rw [z] at e
    obtain ⟨v, G, h1, h2⟩ := h.get (i := j) (d := d) e
    exact ⟨v, G, h1, h2⟩
theorem okz_some {d d' : D} (h : okz d = some d') : d' = d ∧ isFz d = true := by
  unfold okz at h
  by_cases z : isFz d = true
  · rw [if_pos z] at h; cases h; exact ⟨rfl, z⟩
  · rw [if_neg z] at h; cases h
theorem pu_ix {K : PySem.W.Frag} (hK : K = C.K) : Pu2 C (rIx K) gIx := by
  subst hK
  intro B H x y a b d G G' Q s ra rb e q
  cases a <;> cases b <;> first | (have e' : none = some _ := e; exact nomatch e') | skip
  · rename_i z i
    obtain ⟨rfl, _⟩ := ra; obtain ⟨rfl, _⟩ := rb
    have e : (if z.length ≤ lim then (L2.atI z.cps.toList i).map chr1 else none) = some d := e
    by_cases hz : z.length ≤ lim
    · rw [if_pos hz] at e
      cases e1 : L2.atI z.cps.toList i with
      | none => rw [e1] at e; cases e
      | some c =>
        rw [e1] at e; cases e
        exact .inr (.inr ⟨_, _, _, rfl, rfl, lim_le hz, e1, q _ _ _ _ (PX.sc s ⟨rfl, rfl⟩)⟩)
    · rw [if_neg hz] at e; cases e
  · rename_i ds i
    obtain ⟨rfl, _⟩ := rb
    obtain ⟨p, vs, rfl, t, _, r⟩ := ra.tup_at s
    have e : (L2.atI ds i).bind okz = some d := e
    cases e1 : L2.atI ds i with
    | none => rw [e1] at e; cases e
    | some d0 =>
      rw [e1] at e
      obtain ⟨rfl, f⟩ := okz_some e
      obtain ⟨v, G2, h1, h2⟩ := r.atI e1
      exact .inr (.inl ⟨p, vs, i, v, rfl, rfl, t, h1, q _ _ _ _ (PX.sc s (Rp.fixed f h2 (Sub.refl _)))⟩)
  · rename_i o ds i
    obtain ⟨rfl, _⟩ := rb
    obtain ⟨p, vs, F, rfl, t, r⟩ := ra.lst_at s
    have e : (L2.atI ds i).bind okz = some d := e
    cases e1 : L2.atI ds i with
    | none => rw [e1] at e; cases e
    | some d0 =>
      rw [e1] at e
      obtain ⟨rfl, f⟩ := okz_some e
      obtain ⟨v, G2, h1, h2⟩ := r.atI e1
      exact .inl ⟨p, vs, i, v, rfl, rfl, .of t, h1, q _ _ _ _ (PX.sc s (Rp.fixed f h2 (Sub.refl _)))⟩
end
section
variable {X : Cx} {C : Ctx} {W : WX} {q qa qb ql qh qs : Bool} {a b e : Expr} {es : List Expr} {ma mb : M Op} {ms : M (List Op)} {pos : Pos}
theorem se_ix (on : On X C W) (ha : SE X C W qa a ma) (hb : SE X C W qb b mb) (hs : PlainIx b := by exact fun _ _ => rfl) : SE X C W (qa && qb) (.Subscript a b pos) (mP2 qb gIx ma mb) :=
  PE.le (pe_ix ix_seq ha hb hs) fun _ _ _ h => p2_run (pu_ix on.K) h

/-! ### slices -/
def cutD {α : Type} (xs : List α) (lo hi : Option Int) : List α := (xs.drop (HT.sIx xs.length 0 lo)).take (HT.sIx xs.length xs.length hi - HT.sIx xs.length 0 lo)
def gSl (x : D) (lo hi : Option Int) : Option D :=
  match x with
  | .lst _ ds => if isFzL (cutD ds lo hi) = true then some (.lst true (cutD ds lo hi)) else none
  | .tup ds => if isFzL ds = true then some (.tup (cutD ds lo hi)) else none
  | .str s => if s.length ≤ lim then some (.str ⟨(cutD s.cps.toList lo hi).toArray⟩) else none
  | _ => none
/-- an end of a slice -/
def SO (X : Cx) (C : Ctx) (W : WX) (q : Bool) (o : Option Expr) (m : M (Option Int)) : Prop := PO X o (tG C W q (fun _ _ _ a b F => a = b ∧ F = []) m)
theorem PO.le {o : Option Expr} {t t' : TO} (h : PO X o t) (k : ∀ σ H Q, t' σ H Q → t σ H Q) : PO X o t' := ⟨fun pins s σ H Q I q => h.run pins s σ H Q I (k _ _ _ q)⟩
def mNoPart : M (Option Int) := fun ρ => .ok none ρ
def mPart (ma : M Op) : M (Option Int) := fun ρ => (ma ρ).bind fun o ρ1 => match rd o ρ1 with
  | some (.int i) => .ok (some i) ρ1
  | _ => .bad
theorem so_none : SO X C W true none mNoPart := by
  refine PO.le po_none fun σ H Q h => ?_
  obtain ⟨B, Os, ρ, m, k⟩ := h
  exact k none H B [] Os ⟨rfl, rfl⟩ m Ext.refl fun _ _ _ => rfl
theorem so_some (ha : SE X C W q e ma) : SO X C W q (some e) (mPart ma) := by
  refine PO.le (po_some ha) fun σ H Q h => ?_
  refine un_run (rep := repO C) id h fun o ρ1 v H1 B1 F Os1 rp m1 k => ?_
  cases e1 : rd o ρ1 with
  | none => rw [e1] at k; exact k.elim
  | some d =>
    rw [e1] at k
    cases d <;> first | exact k.elim | skip
    rename_i i
    obtain ⟨G, r⟩ := rd_rep (F := F) (G := []) rp (by rw [List.append_nil]; exact m1) e1
    obtain ⟨rfl, _⟩ := r
    exact ⟨i, rfl, k (some i) H1 B1 [] Os1 ⟨rfl, rfl⟩ m1.drop Ext.weak fun _ _ _ => rfl⟩
/-- a subscript by a slice -/
def mSl (ql qh : Bool) (ma : M Op) (ml mh : M (Option Int)) : M Op := fun ρ => (ma ρ).bind fun o ρ1 => if okG o (ql && qh) = true then (ml ρ1).bind fun lo ρ2 => (mh ρ2).bind fun hi ρ3 => pu ((rd o ρ3).bind fun x => gSl x lo hi) ρ3 else .bad
theorem RpL.cut {C : Ctx} {B H : Hp} {ds : List D} {vs : List V} {F : List Addr} (z : isFzL ds = true) (h : RpL C B H ds vs F) (n k : Nat) : RpL C B H ((ds.drop n).take k) ((vs.drop n).take k) [] := by
  have h0 := RpL.fixed (H' := H) z h (Sub.refl _)
  have dr : ∀ (n : Nat) {ds : List D} {vs : List V}, RpL C B H ds vs [] → RpL C B H (ds.drop n) (vs.drop n) [] := by
    intro n
    induction n with
    | zero => intro ds vs h; exact h
    | succ n ih =>
      intro ds vs h
      cases ds with
      | nil => obtain ⟨rfl, _⟩ := h; exact ⟨rfl, rfl⟩
      | cons d ds =>
        obtain ⟨v, vs', F1, F2, rfl, f, p, q⟩ := h
        obtain ⟨rfl, rfl⟩ := List.append_eq_nil_iff.mp f.symm
        exact ih q
  have tk : ∀ (n : Nat) {ds : List D} {vs : List V}, RpL C B H ds vs [] → RpL C B H (ds.take n) (vs.take n) [] := by
    intro n
    induction n with
    | zero => intro ds vs h; exact ⟨rfl, rfl⟩
    | succ n ih =>
      intro ds vs h
      cases ds with
      | nil => obtain ⟨rfl, _⟩ := h; exact ⟨rfl, rfl⟩
      | cons d ds =>
        obtain ⟨v, vs', F1, F2, rfl, f, p, q⟩ := h
        obtain ⟨rfl, rfl⟩ := List.append_eq_nil_iff.mp f.symm
        exact ⟨v, vs'.take n, [], [], rfl, rfl, p, ih q⟩
  exact tk k (dr n h0)
theorem RpL.cut' {C : Ctx} {B H : Hp} {ds : List D} {vs : List V} {F : List Addr} (h : RpL C B H ds vs F) (n k : Nat) : ∃ F', RpL C B H ((ds.drop n).take k) ((vs.drop n).take k) F' := by
  have dr : ∀ (n : Nat) {ds : List D} {vs : List V} {F : List Addr}, RpL C B H ds vs F → ∃ F', RpL C B H (ds.drop n) (vs.drop n) F' := by
    intro n
    induction n with
    | zero => intro ds vs F h; exact ⟨F, h⟩
    | succ n ih =>
      intro ds vs F h
      cases ds with
      | nil => obtain ⟨rfl, _⟩ := h; exact ⟨[], rfl, rfl⟩
      | cons d ds =>
        obtain ⟨v, vs', F1, F2, rfl, f, p, q⟩ := h
        exact ih q
  have tk : ∀ (n : Nat) {ds : List D} {vs : List V} {F : List Addr}, RpL C B H ds vs F → ∃ F', RpL C B H (ds.take n) (vs.take n) F' := by
    intro n
    induction n with
    | zero => intro ds vs F h; exact ⟨[], rfl, rfl⟩
    | succ n ih =>
      intro ds vs F h
      cases ds with
      | nil => obtain ⟨rfl, _⟩ := h; exact ⟨[], rfl, rfl⟩
      | cons d ds =>
        obtain ⟨v, vs', F1, F2, rfl, f, p, q⟩ := h
        obtain ⟨F3, r⟩ := ih q
        exact ⟨F1 ++ F3, v, vs'.take n, F1, F3, rfl, rfl, p, r⟩
  obtain ⟨F1, h1⟩ := dr n h
  exact tk k h1
def rSlX2 (K : PySem.W.Frag) : V → Option Int → Option Int → Hp → VK → Prop := fun x lo hi H Q => (rSlL K x lo hi H Q ∨ rSlA K x lo hi H Q) ∨ rSlS x lo hi H Q
theorem sl_any : SlR X (rSlX2 X.K) := (sl_list.or sl_tupA).or sl_str
theorem se_slice {lo hi : Option Expr} {p2 : Pos} {ml mh : M (Option Int)} (on : On X C W) (ha : SE X C W qa a ma) (hl : SO X C W ql lo ml) (hh : SO X C W qh hi mh) : SE X C W (qa && (ql && qh)) (.Subscript a (.Slice lo hi none p2) pos) (mSl ql qh ma ml mh) := by
  refine PE.le (pe_slice (r := rSlX2 X.K) sl_any ha hl hh) fun σ H Q h => ?_
  refine un_run (rep := repO C) qL h fun o ρ1 x H1 B1 Fa Os1 ra m1 k => ?_
  by_cases g : okG o (ql && qh) = true
  · rw [if_pos g] at k
    refine ⟨B1, Os1, ρ1, m1.drop, ?_⟩
    cases e : ml ρ1 with
    | bad => rw [e] at k; exact k
    | exc x' ρ2 =>
      rw [e] at k
      intro cls dd H2 B2 Os2 xr m2 e2
      exact k cls dd H2 B2 Os2 xr m2 ((e2.beside (F := Fa)).less fun a ha => List.mem_append_right _ ha)
    | ok l ρ2 =>
      rw [e] at k
      intro lv H2 B2 Fb Os2 rb m2 e2 q2
      obtain ⟨rfl, rfl⟩ := rb
      refine ⟨B2, Os2, ρ2, m2, ?_⟩
      have k : Kg C W σ (qa && (ql && qh)) (RpO C σ) H1 B1 (Fa ++ Os1) ((mh ρ2).bind fun hi ρ3 => pu ((rd o ρ3).bind fun x => gSl x l hi) ρ3) Q := k
      cases e' : mh ρ2 with
      | bad => rw [e'] at k; exact k
      | exc x' ρ3 =>
        rw [e'] at k
        intro cls dd H3 B3 Os3 xr m3 e3
        exact k cls dd H3 B3 Os3 xr m3 (((e2.trans m2.out e3).beside (F := Fa)).less fun a ha => List.mem_append_right _ ha)
      | ok u ρ3 =>
        rw [e'] at k
        intro uv H3 B3 Fc Os3 rc m3 e3 q3
        obtain ⟨rfl, rfl⟩ := rc
        have e23 : Ext H1 B1 Os1 H3 B3 ([] ++ Os3) := e2.trans m2.out e3
        have q23 : (ql && qh) = true → ∀ a ∈ Os1, H3 a = H1 a := fun z a ha => by
          have z1 := q2 (qL z) a ha
          by_cases hm : a ∈ Os2
          · exact (q3 (qR z) a hm).trans z1
          · cases y : H2 a with
            | none => rw [y] at z1; exact absurd z1.symm (m1.liv a (List.mem_append_right _ ha))
            | some w => rw [← z1, y]; exact e3.keep a w y hm
        have m13 := m1.and e23 m3
        have r3 := ra.held m1 e23 g q23
        have k : Kg C W σ (qa && (ql && qh)) (RpO C σ) H1 B1 (Fa ++ Os1) (pu ((rd o ρ3).bind fun x => gSl x l u) ρ3) Q := k
        have k' := Kg.step (e := ((e23.beside (F := Fa)).less (fun a ha => by rw [← List.append_assoc]; exact ha) : Ext H1 B1 (Fa ++ Os1) H3 B3 ((Fa ++ []) ++ Os3))) m13.out (fun z a ha => by
          rcases List.mem_append.mp ha with ha | ha
          · exact m1.held e23 a ha
          · exact q23 (qR z) a ha) m1.liv k
        cases y1 : rd o ρ3 with
        | none => rw [y1] at k'; exact k'.elim
        | some d =>
          rw [y1] at k'
          replace k' : Kg C W σ (qa && (ql && qh)) (RpO C σ) H3 B3 ((Fa ++ []) ++ Os3) (pu (gSl d l u) ρ3) Q := k'
          obtain ⟨G, r⟩ := rd_rep r3 m13 y1
          have sB := m13.sub
          show rSlX2 X.K x l u H3 Q
          rw [on.K]
          cases d <;> first | exact k'.elim | skip
          · rename_i z
            obtain ⟨rfl, _⟩ := r
            have k' : Kg C W σ (qa && (ql && qh)) (RpO C σ) H3 B3 ((Fa ++ []) ++ Os3) (pu (if z.length ≤ lim then some (.str ⟨(cutD z.cps.toList l u).toArray⟩) else none) ρ3) Q := k'
            by_cases hz : z.length ≤ lim
            · rw [if_pos hz] at k'
              exact .inr ⟨z, rfl, lim_le hz, Kg.pure m13 k' (PX.sc sB ⟨by
                unfold cutS cutD
                rw [show z.cps.toList.length = z.length from Array.length_toList], rfl⟩)⟩
            · rw [if_neg hz] at k'; exact k'.elim
          · rename_i ds
            obtain ⟨p, vs, rfl, t, tb, rr⟩ := r.tup_at sB
            have k' : Kg C W σ (qa && (ql && qh)) (RpO C σ) H3 B3 ((Fa ++ []) ++ Os3) (pu (if isFzL ds = true then some (.tup (cutD ds l u)) else none) ρ3) Q := k'
            by_cases hz : isFzL ds = true
            · rw [if_pos hz] at k'
              have ln := RpL.len rr
              have r0 := RpL.fixed (H' := H3) hz rr (Sub.refl _)
              have rc := RpL.cut hz rr (HT.sIx ds.length 0 l) (HT.sIx ds.length ds.length u - HT.sIx ds.length 0 l)
              refine .inl (.inr ⟨p, vs, rfl, t, fun w => ?_, fun w pp n => ?_⟩)
              · have e0 : cutD ds l u = ds := by
                  unfold cutD
                  rw [← ln, w.1, w.2, List.drop_zero, ln]
                  exact List.take_length
                rw [e0] at k'
                exact Kg.pure m13 k' (PX.sc sB ⟨p, vs, rfl, tb, r0⟩)
              · have e0 : cutV vs l u = (vs.drop (HT.sIx ds.length 0 l)).take (HT.sIx ds.length ds.length u - HT.sIx ds.length 0 l) := by unfold cutV; rw [ln]
                rw [← e0] at rc
                exact Kg.pure m13 k' (PX.tup sB n rc)
            · rw [if_neg hz] at k'; exact k'.elim
          · rename_i ow ds
            obtain ⟨p, vs, F, rfl, t, rr⟩ := r.lst_at sB
            have k' : Kg C W σ (qa && (ql && qh)) (RpO C σ) H3 B3 ((Fa ++ []) ++ Os3) (pu (if isFzL (cutD ds l u) = true then some (.lst true (cutD ds l u)) else none) ρ3) Q := k'
            by_cases hz : isFzL (cutD ds l u) = true
            · rw [if_pos hz] at k'
              have ln := RpL.len rr
              obtain ⟨F', rc⟩ := RpL.cut' rr (HT.sIx ds.length 0 l) (HT.sIx ds.length ds.length u - HT.sIx ds.length 0 l)
              have rc := RpL.fixed (H' := H3) hz rc (Sub.refl _)
              refine .inl (.inl ⟨p, vs, rfl, .of t, fun pp n => ?_⟩)
              have e0 : cutV vs l u = (vs.drop (HT.sIx ds.length 0 l)).take (HT.sIx ds.length ds.length u - HT.sIx ds.length 0 l) := by unfold cutV; rw [ln]
              rw [← e0] at rc
              exact Kg.pure m13 k' (PX.lst sB n rc)
            · rw [if_neg hz] at k'; exact k'.elim
  · rw [if_neg g] at k
    exact k.elim

/-! ### displays -/
/-- operands, kept: then a value of them -/
def mFr (f : List D → Option D) (ms : M (List Op)) : M Op := fun ρ => (ms ρ).bind fun os ρ1 => match frOs os ρ1 with
  | some (ds, ρ2) => pu (f ds) ρ2
  | none => .bad
theorem fr_run {f : List D → Option D} {σ : L2.St} {H : Hp} {Q : VK} {r : List V → Hp → Prop} (h : tM C W qs (mFr f ms) σ H Q)
    (hk : ∀ ds vs H1 B1 Os1 ρ2 d, RpL C B1 H1 ds vs [] → isFzL ds = true → f ds = some d → Mch C σ H1 B1 [] Os1 ρ2 → Kg C W σ qs (RpO C σ) H1 B1 Os1 (.ok (.val d) ρ2) Q → r vs H1) : tMs C W qs ms σ H r := by
  refine un_run (rep := repOs C) id h fun os ρ1 vs H1 B1 F Os1 ra m1 k => ?_
  cases z : frOs os ρ1 with
  | none => rw [z] at k; exact k.elim
  | some p =>
    obtain ⟨ds, ρ2⟩ := p
    rw [z] at k
    obtain ⟨B2, O2, r2, f2, m2, e2⟩ := frOs_ok (G := []) ra (by rw [List.append_nil]; exact m1) z
    rw [List.append_nil] at e2
    have k : Kg C W σ qs (RpO C σ) H1 B1 (F ++ Os1) (pu (f ds) ρ2) Q := k
    cases z2 : f ds with
    | none => rw [z2] at k; exact k.elim
    | some d =>
      rw [z2] at k
      exact hk ds vs H1 B2 O2 ρ2 d r2 f2 z2 m2 (Kg.step (e := e2) m2.out (fun _ _ _ => rfl) m1.liv k)
def gTup (ds : List D) : Option D := if ds.length ≤ lim then some (.tup ds) else none
def gLst (ds : List D) : Option D := if ds.length ≤ lim then some (.lst true ds) else none
theorem se_tup {x1} (ha : SA X C W qs es ms) : SE X C W qs (.Tuple es x1 pos) (mFr gTup ms) := by
  refine PE.le (pe_tup ha) fun σ H Q h => ?_
  refine fr_run h fun ds vs H1 B1 Os1 ρ2 d r f e m k => ?_
  have ln := RpL.len r
  unfold gTup at e
  by_cases hz : ds.length ≤ lim
  · rw [if_pos hz] at e; cases e
    exact ⟨lim_le (by rw [ln]; exact hz), fun p n => Kg.pure (F0 := []) m k (PX.tup m.sub n r)⟩
  · rw [if_neg hz] at e; cases e
theorem se_lst (ha : SA X C W qs es ms) : SE X C W qs (.List es pos) (mFr gLst ms) := by
  refine PE.le (pe_lst ha) fun σ H Q h => ?_
  refine fr_run h fun ds vs H1 B1 Os1 ρ2 d r f e m k => ?_
  have ln := RpL.len r
  unfold gLst at e
  by_cases hz : ds.length ≤ lim
  · rw [if_pos hz] at e; cases e
    exact ⟨lim_le (by rw [ln]; exact hz), fun p n => Kg.pure (F0 := []) m k (PX.lst m.sub n r)⟩
  · rw [if_neg hz] at e; cases e

/-! ### built-ins -/
def typeD : D → Option String
  | .non => some "NoneType"
  | .bl _ => some "bool"
  | .int _ => some "int"
  | .str _ => some "str"
  | .tup _ => some "tuple"
  | .lst _ _ => some "list"
  | .dct _ _ _ => some "dict"
  | _ => none
def isiB (a b : String) : Bool := a == b || (a == "bool" && b == "int")
def mIsi (T : String) (ma : M Op) : M Op := fun ρ => (ma ρ).bind fun o ρ1 => match (rd o ρ1).bind typeD with
  | some t => .ok (.val (.bl (isiB t T))) ρ1
  | none => .bad
/-- the classes that are asked for -/
def isiT (T : String) : Bool := ["int", "bool", "str", "tuple", "list"].contains T
theorem kit_all : (["NoneType", "bool", "int", "str", "tuple", "list", "dict"].all fun a => ["int", "bool", "str", "tuple", "list"].all fun b => decide (kitB a b = some (isiB a b))) = true := by decide +kernel
theorem kit_in {a b : String} (ha : a ∈ ["NoneType", "bool", "int", "str", "tuple", "list", "dict"]) (hb : isiT b = true) : kitB a b = some (isiB a b) := by
  have h1 := List.all_eq_true.mp kit_all a ha
  have h2 := List.all_eq_true.mp h1 b (List.contains_iff_mem.mp hb)
  exact of_decide_eq_true h2
theorem typeD_mem {d : D} {t : String} (e : typeD d = some t) : t ∈ ["NoneType", "bool", "int", "str", "tuple", "list", "dict"] := by
  cases d <;> first | (cases e; simp) | cases e
theorem ty_rep {C : Ctx} {B H : Hp} {d : D} {v : V} {G : List Addr} {t : String} (s : Sub B H) (r : Rp C B H d v G) (e : typeD d = some t) : TyX C.K H v (.type t) := by
  cases d with
  | non => cases e; rw [r.1]; exact .base .non
  | bl b => cases e; rw [r.1]; exact .base (.bl b)
  | int i => cases e; rw [r.1]; exact .base (.int i)
  | str x => cases e; rw [r.1]; exact .base (.str x)
  | tup ds =>
    cases e
    obtain ⟨a, vs, rfl, q, _, _⟩ := r.tup_at s
    rcases q with (q | ⟨o, q⟩) | ⟨o, its, n, q, c, _⟩
    · exact .base (.tup q)
    · exact .fTuple q
    · exact .kTuple q c
  | lst o ds =>
    cases e
    obtain ⟨a, vs, F, rfl, q, _⟩ := r.lst_at s
    exact .base (.lst q)
  | dct o ks ds =>
    cases e
    obtain ⟨a, vs, F', ho, rfl, _, i, q⟩ := r
    have q : H a = some ho := by
      rcases q with ⟨_, q, _⟩ | ⟨_, q, _⟩
      · exact q
      · exact s _ _ q
    rcases i with ⟨kvs, rfl, _⟩ | ⟨kvs, rfl, _⟩
    · exact .base (.dK q)
    · exact .base (.dT q)
  | obj o c ns ds => cases e
  | scr ns => cases e
theorem se_isi {T : Str} {Tn : String} {p p2 : Pos} (on : On X C W) (ha : SE X C W q e ma) (hg : Gl X "isinstance") (hm : X.mg "isinstance" = none) (hgT : Gl X T) (hmT : X.mg T = none) (hT : bootBuiltins T = some (.type Tn)) (hk : isiT Tn = true)
    (hn : T ≠ "__name__" := by decide) (hd : (T == ("__debug__" : Str)) = false := by decide)
    (hs1 : starEach [e, .Name T p2] X.env = (false, eval e X.env) :: starEach [.Name T p2] X.env := by rfl) (hs2 : starEach [.Name T p2] X.env = (false, eval (.Name T p2) X.env) :: starEach [] X.env := by rfl)
    (hpl : (backTo pos (starEach [.Name T p2] X.env)).any (·.1) = false := by rfl) : SE X C W q (.Call (.Name "isinstance" p) [e, .Name T p2] [] pos) (mIsi Tn ma) := by
  refine PE.le (pe_callB call_isi hg hm (by decide +kernel) (pa_cons ha (pa_cons (pe_bltn (v := .ty Tn) hgT hmT hT rfl hn hd) pa_nil hs2) hs1) (by decide) (by decide) hs1 hpl) fun σ H Q h => ?_
  refine un_run (rep := repO C) id h fun o ρ1 v H1 B1 F Os1 rp m1 k => ?_
  cases e1 : rd o ρ1 with
  | none => rw [e1] at k; exact k.elim
  | some d =>
    cases e2 : typeD d with
    | none => rw [e1] at k; simp only [Option.bind_some, e2] at k; exact k.elim
    | some t =>
      rw [e1] at k
      simp only [Option.bind_some, e2] at k
      obtain ⟨G, r⟩ := rd_rep (F := F) (G := []) rp (by rw [List.append_nil]; exact m1) e1
      refine ⟨v, .ty Tn, .type t, .type Tn, isiB t Tn, rfl, .ty Tn, by rw [on.K]; exact ty_rep m1.sub r e2, kit_ty (kit_in (typeD_mem e2) hk), ?_⟩
      exact k (.bl (isiB t Tn)) H1 B1 [] Os1 ⟨rfl, rfl⟩ m1.drop Ext.weak fun _ _ _ => rfl
def gLen : List D → Option D
  | [.str s] => if s.length ≤ lim then some (.int s.length) else none
  | [.lst _ ds] => some (.int ds.length)
  | [.tup ds] => some (.int ds.length)
  | _ => none
theorem RpA.one {C : Ctx} {B H : Hp} {d : D} {xs : List V} (h : RpA C B H [d] xs) : ∃ v G, xs = [v] ∧ Rp C B H d v G := by
  cases h with
  | cons h1 h2 => cases h2; obtain ⟨G, h1⟩ := h1; exact ⟨_, G, rfl, h1⟩
theorem RpA.two {C : Ctx} {B H : Hp} {d e : D} {xs : List V} (h : RpA C B H [d, e] xs) : ∃ v w G G', xs = [v, w] ∧ Rp C B H d v G ∧ Rp C B H e w G' := by
  cases h with
  | cons h1 h2 =>
    obtain ⟨w, G', rfl, h3⟩ := RpA.one h2
    obtain ⟨G, h1⟩ := h1
    exact ⟨_, w, G, G', rfl, h1, h3⟩
theorem RpA.none {C : Ctx} {B H : Hp} {xs : List V} (h : RpA C B H [] xs) : xs = [] := by cases h; rfl
def rLenX (K : PySem.W.Frag) : List V → Hp → VK → Prop := fun xs H Q => ∃ x n, xs = [x] ∧ LenV K x H n ∧ Q (.int n) H
theorem pl_len {K : PySem.W.Frag} (hK : K = C.K) : PuL C (rLenX K) gLen := by
  subst hK
  intro B H xs as d Q s ra e q
  unfold gLen at e
  split at e
  · rename_i z
    obtain ⟨v, G, rfl, r⟩ := ra.one
    obtain ⟨rfl, _⟩ := r
    by_cases hz : z.length ≤ lim
    · rw [if_pos hz] at e; cases e
      exact ⟨_, _, rfl, ⟨lim_le hz, rfl⟩, q _ _ _ _ (PX.sc s ⟨rfl, rfl⟩)⟩
    · rw [if_neg hz] at e; cases e
  · obtain ⟨v, G, rfl, r⟩ := ra.one
    cases e
    obtain ⟨p, vs, F, rfl, t, rr⟩ := r.lst_at s
    exact ⟨_, _, rfl, .inl ⟨vs, .of t, rfl⟩, q _ _ _ _ (PX.sc s ⟨by rw [RpL.len rr], rfl⟩)⟩
  · obtain ⟨v, G, rfl, r⟩ := ra.one
    cases e
    obtain ⟨p, vs, rfl, t, _, rr⟩ := r.tup_at s
    exact ⟨_, _, rfl, .inr ⟨vs, t, rfl⟩, q _ _ _ _ (PX.sc s ⟨by rw [RpL.len rr], rfl⟩)⟩
  · cases e
def gAbs : List D → Option D
  | [.int i] => some (.int (if i < 0 then -i else i))
  | _ => none
theorem pl_abs : PuL C (fun xs H Q => ∃ i, xs = [.int i] ∧ Q (.int (if i < 0 then -i else i)) H) gAbs := by
  intro B H xs as d Q s ra e q
  unfold gAbs at e
  split at e
  · obtain ⟨v, G, rfl, r⟩ := ra.one
    obtain ⟨rfl, _⟩ := r
    cases e
    exact ⟨_, rfl, q _ _ _ _ (PX.sc s ⟨rfl, rfl⟩)⟩
  · cases e
def gMax2 : List D → Option D
  | [.int i, .int j] => some (.int (if j > i then j else i))
  | _ => none
def gMin2 : List D → Option D
  | [.int i, .int j] => some (.int (if j < i then j else i))
  | _ => none
theorem pl_max2 : PuL C (fun xs H Q => ∃ i j, xs = [.int i, .int j] ∧ Q (.int (if j > i then j else i)) H) gMax2 := by
  intro B H xs as d Q s ra e q
  unfold gMax2 at e
  split at e
  · obtain ⟨v, w, G, G', rfl, r, r'⟩ := ra.two
    obtain ⟨rfl, _⟩ := r
    obtain ⟨rfl, _⟩ := r'
    cases e
    exact ⟨_, _, rfl, q _ _ _ _ (PX.sc s ⟨rfl, rfl⟩)⟩
  · cases e
theorem pl_min2 : PuL C (fun xs H Q => ∃ i j, xs = [.int i, .int j] ∧ Q (.int (if j < i then j else i)) H) gMin2 := by
  intro B H xs as d Q s ra e q
  unfold gMin2 at e
  split at e
  · obtain ⟨v, w, G, G', rfl, r, r'⟩ := ra.two
    obtain ⟨rfl, _⟩ := r
    obtain ⟨rfl, _⟩ := r'
    cases e
    exact ⟨_, _, rfl, q _ _ _ _ (PX.sc s ⟨rfl, rfl⟩)⟩
  · cases e
def gInt : List D → Option D
  | [.int i] => some (.int i)
  | [.bl b] => some (.int (if b = true then 1 else 0))
  | [.str a] => if a.length ≤ 640 then (PySem.intText? a).map .int else none
  | _ => none
def rIntX : List V → Hp → VK → Prop := fun xs H Q => ((∃ i, xs = [.int i] ∧ Q (.int i) H) ∨ ∃ k, xs = [.bl k] ∧ Q (.int (if k then 1 else 0)) H) ∨ ∃ a n, xs = [.str a] ∧ PySem.intText? a = some n ∧ a.length ≤ 640 ∧ Q (.int n) H
theorem call_intX : CallR X (.type "int") rIntX := call_int1.or call_int_str
theorem pl_int : PuL C rIntX gInt := by
  intro B H xs as d Q s ra e q
  unfold gInt at e
  split at e
  · obtain ⟨v, G, rfl, r⟩ := ra.one
    obtain ⟨rfl, _⟩ := r
    cases e
    exact .inl (.inl ⟨_, rfl, q _ _ _ _ (PX.sc s ⟨rfl, rfl⟩)⟩)
  · obtain ⟨v, G, rfl, r⟩ := ra.one
    obtain ⟨rfl, _⟩ := r
    cases e
    exact .inl (.inr ⟨_, rfl, q _ _ _ _ (PX.sc s ⟨rfl, rfl⟩)⟩)
  · rename_i a
    obtain ⟨v, G, rfl, r⟩ := ra.one
    obtain ⟨rfl, _⟩ := r
    by_cases hz : a.length ≤ 640
    · rw [if_pos hz] at e
      cases z : PySem.intText? a with
      | none => rw [z] at e; cases e
      | some n =>
        rw [z] at e; cases e
        exact .inr ⟨_, _, rfl, z, hz, q _ _ _ _ (PX.sc s ⟨rfl, rfl⟩)⟩
    · rw [if_neg hz] at e; cases e
  · cases e
def rSeqX (K : PySem.W.Frag) : List V → Hp → VK → Prop := fun xs H Q => ∃ p ys, xs = [.ref p] ∧ (SqL K H p ys ∨ SqT K H p ys) ∧ ∀ l, H l = none → Q (.ref l) (upd H l (.lst ys))
def gListC : List D → Option D
  | [.lst _ ds] => if isFzL ds = true then some (.lst true ds) else none
  | [.tup ds] => if isFzL ds = true then some (.lst true ds) else none
  | [.scr ns] => some (.lst true (ns.map .int))
  | _ => none
theorem RpL.ints {C : Ctx} {B H : Hp} : ∀ ns : List Int, RpL C B H (ns.map .int) (ns.map V.int) []
  | [] => ⟨rfl, rfl⟩
  | n :: ns => ⟨.int n, ns.map V.int, [], [], rfl, rfl, ⟨rfl, rfl⟩, RpL.ints ns⟩
theorem pl_list {K : PySem.W.Frag} (hK : K = C.K) : PuL C (rSeqX K) gListC := by
  subst hK
  intro B H xs as d Q s ra e q
  unfold gListC at e
  split at e
  · rename_i o ds
    obtain ⟨v, G, rfl, r⟩ := ra.one
    obtain ⟨p, vs, F, rfl, t, rr⟩ := r.lst_at s
    by_cases hz : isFzL ds = true
    · rw [if_pos hz] at e; cases e
      exact ⟨p, vs, rfl, .inl (.of t), fun l n => q _ _ _ _ (PX.lst s n (RpL.fixed hz rr (Sub.refl _)))⟩
    · rw [if_neg hz] at e; cases e
  · rename_i ds
    obtain ⟨v, G, rfl, r⟩ := ra.one
    obtain ⟨p, vs, rfl, t, _, rr⟩ := r.tup_at s
    by_cases hz : isFzL ds = true
    · rw [if_pos hz] at e; cases e
      exact ⟨p, vs, rfl, .inr t, fun l n => q _ _ _ _ (PX.lst s n (RpL.fixed hz rr (Sub.refl _)))⟩
    · rw [if_neg hz] at e; cases e
  · rename_i ns
    obtain ⟨v, G, rfl, r⟩ := ra.one
    obtain ⟨p, rfl, t, _⟩ := r
    cases e
    exact ⟨p, _, rfl, .inl (s.l t), fun l n => q _ _ _ _ (PX.lst s n (RpL.ints ns))⟩
  · cases e
end
end Gc

namespace Gc
open PySem PySem.Spec PyProof.Rows L2
/-! Targets, what is walked, for, list comprehensions. -/
/-! ### targets -/
inductive Tg where
  | nm (i : Nat) | tp (ts : List Tg)
mutual
def Tg.put (L : List Nat) : Tg → D → Ro → Option Ro
  | .nm i, d, ρ => if L.contains i = false ∧ i < ρ.length then some (ρ.set i (some d)) else none
  | .tp ts, d, ρ => match d with
    | .tup ds => Tg.puts L ts ds ρ
    | .lst _ ds => Tg.puts L ts ds ρ
    | _ => none
def Tg.puts (L : List Nat) : List Tg → List D → Ro → Option Ro
  | [], [], ρ => some ρ
  | t :: ts, d :: ds, ρ => match Tg.put L t d ρ with
    | some ρ1 => Tg.puts L ts ds ρ1
    | none => none
  | _, _, _ => none
end
mutual
def Tg.slots : Tg → List Nat
  | .nm i => [i]
  | .tp ts => Tg.slotss ts
def Tg.slotss : List Tg → List Nat
  | [] => []
  | t :: ts => t.slots ++ Tg.slotss ts
end
/-- frozen data for a target -/
def tT (C : Ctx) (t : Tg) : TG := fun v σ H Q => ∃ d B Os ρ ρ', Rp C B H d v [] ∧ isFz d = true ∧ Mch C σ H B [] Os ρ ∧ t.put C.L d ρ = some ρ' ∧
  ∀ σ' Os', Mch C σ' H B [] Os' ρ' → (∀ a ∈ Os', a ∈ Os) → (∀ vs : List Nat, (∀ i ∈ t.slots, i ∈ vs) → wipe σ' vs = wipe σ vs) → Q σ' H
def tTs (C : Ctx) (ts : List Tg) : TGs := fun vs σ H Q => ∃ ds B Os ρ ρ', RpL C B H ds vs [] ∧ isFzL ds = true ∧ Mch C σ H B [] Os ρ ∧ Tg.puts C.L ts ds ρ = some ρ' ∧
  ∀ σ' Os', Mch C σ' H B [] Os' ρ' → (∀ a ∈ Os', a ∈ Os) → (∀ vs : List Nat, (∀ i ∈ Tg.slotss ts, i ∈ vs) → wipe σ' vs = wipe σ vs) → Q σ' H
theorem PG.le {X : Cx} {tg : Expr} {t t' : TG} (h : PG X tg t) (k : ∀ v σ H Q, t' v σ H Q → t v σ H Q) : PG X tg t' := ⟨fun pins s σ H v u Q I r q => h.run pins s σ H v u Q I r (k _ _ _ _ q)⟩
theorem PGs.le {X : Cx} {ts : List Expr} {t t' : TGs} (h : PGs X ts t) (k : ∀ v σ H Q, t' v σ H Q → t v σ H Q) : PGs X ts t' := ⟨fun pins s σ H vs us Q I r q => h.run pins s σ H vs us Q I r (k _ _ _ _ q)⟩
theorem wipe_set {σ : L2.St} {i : Nat} {x : Option V} : ∀ {vs : List Nat}, i ∈ vs → wipe (σ.set i x) vs = wipe σ vs
  | v :: vs, h => by
    unfold wipe
    by_cases hi : i ∈ vs
    · rw [wipe_set hi]
    · have e : i = v := by rcases List.mem_cons.mp h with h | h; exact h; exact absurd h hi
      subst e
      have gen : ∀ (ws : List Nat) (τ : L2.St), i ∉ ws → wipe (τ.set i x) ws = (wipe τ ws).set i x := by
        intro ws
        induction ws with
        | nil => intro τ _; rfl
        | cons w ws ih =>
          intro τ hn
          unfold wipe
          rw [ih τ (fun z => hn (List.mem_cons_of_mem _ z)), List.set_comm _ _ (fun z => hn (by rw [z]; exact List.mem_cons_self))]
      rw [gen vs σ hi, List.set_set]
section
variable {X : Cx} {C : Ctx} {W : WX} {pos : Pos}
theorem sg_name {i : Nat} {x : Str} (hN : X.N.Nodup) (hi : X.N[i]? = some x) (hx : Loc X.env.scope x) (hf : X.fn x = true ∨ X.env.scope.names.lookup x = some .local := by first | exact .inl rfl | exact .inr rfl | assumption) : PG X (.Name x pos) (tT C (.nm i)) := by
  refine PG.le (pg_name hN hi hx hf) fun v σ H Q h => ?_
  obtain ⟨d, B, Os, ρ, ρ', r, f, m, e, k⟩ := h
  have e : (if C.L.contains i = false ∧ i < ρ.length then some (ρ.set i (some d)) else none) = some ρ' := e
  by_cases hc : C.L.contains i = false ∧ i < ρ.length
  · rw [if_pos hc] at e; cases e
    obtain ⟨O3, m3, e3⟩ := m.put r hc.1 hc.2
    refine k _ O3 m3 (fun a ha => ?_) fun vs hv => wipe_set (hv i (by simp [Tg.slots]))
    rcases e3.dom a (.inr ha) with z | z | z
    · exact absurd (m3.out a ha) z
    · exact z
    · exact absurd z (m3.liv a ha)
  · rw [if_neg hc] at e; cases e
theorem sg_nil : PGs X [] (tTs C []) := by
  refine PGs.le pgs_nil fun vs σ H Q h => ?_
  obtain ⟨ds, B, Os, ρ, ρ', r, f, m, e, k⟩ := h
  cases ds with
  | nil => cases e; exact ⟨r.1, k σ Os m (fun _ h => h) fun _ _ => rfl⟩
  | cons d ds => cases e
theorem sg_cons {e : Expr} {es : List Expr} {t : Tg} {ts : List Tg} (h1 : PG X e (tT C t)) (h2 : PGs X es (tTs C ts)) (hs : (assignEach (e :: es) X.env).map (·.2) = assign e X.env :: (assignEach es X.env).map (·.2) := by rfl) : PGs X (e :: es) (tTs C (t :: ts)) := by
  refine PGs.le (pgs_cons h1 h2 hs) fun vs σ H Q h => ?_
  obtain ⟨ds, B, Os, ρ, ρ', r, f, m, e, k⟩ := h
  cases ds with
  | nil => cases e
  | cons d ds =>
    obtain ⟨v, vs', F1, F2, rfl, ee, p, q⟩ := r
    obtain ⟨rfl, rfl⟩ := List.append_eq_nil_iff.mp ee.symm
    simp only [isFzL, Bool.and_eq_true] at f
    have e : (match t.put C.L d ρ with | some ρ1 => Tg.puts C.L ts ds ρ1 | none => none) = some ρ' := e
    cases z : t.put C.L d ρ with
    | none => rw [z] at e; cases e
    | some ρ1 =>
      rw [z] at e
      refine ⟨v, vs', rfl, d, B, Os, ρ, ρ1, p, f.1, m, z, fun σ1 O1 m1 s1 w1 => ?_⟩
      refine ⟨ds, B, O1, ρ1, ρ', q, f.2, m1, e, fun σ2 O2 m2 s2 w2 => ?_⟩
      refine k σ2 O2 m2 (fun a ha => s1 a (s2 a ha)) fun vs hv => ?_
      rw [w2 vs (fun i hi => hv i (by simp [Tg.slotss, hi])), w1 vs (fun i hi => hv i (by simp [Tg.slotss, hi]))]
theorem Tg.puts_len {L : List Nat} : ∀ {ts : List Tg} {ds : List D} {ρ ρ' : Ro}, Tg.puts L ts ds ρ = some ρ' → ds.length = ts.length
  | [], [], _, _, _ => rfl
  | [], _ :: _, _, _, e => by cases e
  | _ :: _, [], _, _, e => by cases e
  | t :: ts, d :: ds, ρ, ρ', e => by
    have e : (match t.put L d ρ with | some ρ1 => Tg.puts L ts ds ρ1 | none => none) = some ρ' := e
    cases z : t.put L d ρ with
    | none => rw [z] at e; cases e
    | some ρ1 =>
      rw [z] at e
      rw [List.length_cons, List.length_cons, Tg.puts_len e]
/-- a tuple or a list is taken apart -/
theorem sg_tup {es : List Expr} {k : Nat} {ts : List Tg} (on : X.K = C.K) (hc : X.calm = true) (h : PGs X es (tTs C ts)) (hn : (assignEach es X.env).length = ts.length := by rfl) (hst : (assignEach es X.env).findIdx? (·.1) = none := by rfl) : PG X (.Tuple es k pos) (tT C (.tp ts)) := by
  refine ⟨fun pins s σ H v u Q I r hw => ?_⟩
  obtain ⟨d, B, Os, ρ, ρ', rd0, f, m, e, kk⟩ := hw
  cases d with
  | tup ds =>
    obtain ⟨a, vs, rfl, t, _, rr⟩ := rd0.tup_at m.sub
    have ln := RpL.len rr
    have e : Tg.puts C.L ts ds ρ = some ρ' := e
    exact (pg_tup hc h hn hst).run pins s σ H _ u Q I r ⟨a, vs, rfl, by rw [on]; exact t, by rw [ln]; exact Tg.puts_len e, ds, B, Os, ρ, ρ', rr, f, m, e, kk⟩
  | lst o ds =>
    obtain ⟨a, vs, F, rfl, t, rr⟩ := rd0.lst_at m.sub
    have ln := RpL.len rr
    have e : Tg.puts C.L ts ds ρ = some ρ' := e
    simp only [isFz, Bool.and_eq_true] at f
    exact (pg_lst hc h hn hst).run pins s σ H _ u Q I r ⟨a, vs, rfl, .of t, by rw [ln]; exact Tg.puts_len e, ds, B, Os, ρ, ρ', RpL.fixed f.2 rr (Sub.refl _), f.2, m, e, kk⟩
  | _ => cases e
/-- targets = e -/
def mPut (L : List Nat) (t : Tg) (ma : M Op) : MS := fun ρ => (ma ρ).toS fun o ρ1 => match frO o ρ1 with
  | some (d, ρ2) => match t.put L d ρ2 with
    | some ρ3 => .nx ρ3
    | none => .bad
  | none => .bad
theorem ss_asg {q : Bool} {tg e : Expr} {t : Tg} {ma : M Op} (he : SE X C W q e ma) (hg : PG X tg (tT C t)) (hs : swapsWithSole [tg] e pos.line X.env = pure false := by rfl) (hw : swappedStores [tg] e X.env = pure none := by rfl)
    (h1 : (assignEach [tg] X.env).map (·.2) = [assign tg X.env] := by rfl) : SS X C W (.Assign [tg] e pos) (mPut C.L t ma) := by
  refine PS.le (ps_asg he hg hs hw h1) fun D' σ H h => ?_
  refine s_run (rep := repO C) h fun o ρ1 v H1 B1 F Os1 rp m1 k => ?_
  cases z : frO o ρ1 with
  | none => rw [z] at k; exact k.elim
  | some p =>
    obtain ⟨d, ρ2⟩ := p
    rw [z] at k
    obtain ⟨B2, O2, r2, f2, m2, e2⟩ := frO_ok (G := []) rp (by rw [List.append_nil]; exact m1) z
    rw [List.append_nil] at e2
    have k : Ks C W H1 B1 (F ++ Os1) (match t.put C.L d ρ2 with | some ρ3 => .nx ρ3 | none => .bad) D' := k
    cases z2 : t.put C.L d ρ2 with
    | none => rw [z2] at k; exact k.elim
    | some ρ3 =>
      rw [z2] at k
      refine ⟨d, B2, O2, ρ2, ρ3, r2, f2, m2, z2, fun σ' O3 m3 s3 _ => ?_⟩
      exact k σ' H1 B2 O3 m3 (e2.less fun a ha => s3 a ha)
end

/-! ### what is walked -/
/-- J hands on ds, one by one, while B0 stands -/
structure ItD (C : Ctx) (J : It) (ds : List D) (B0 : Hp) : Prop where
  item : ∀ (i : Nat) (H B : Hp) (d : D), Sub B0 B → Sub B H → ds[i]? = some d → J.go i H ∧ ∀ x H', J.yld i H x H' → ∃ B', PX C H B d x H' B' []
  stop : ∀ (H B : Hp), Sub B0 B → Sub B H → J.stop ds.length H
abbrev repI (C : Ctx) : L2.St → Hp → Hp → List D → It → List Addr → Prop := fun _ B _ ds J F => ItD C J ds B ∧ isFzL ds = true ∧ F = []
def SI (X : Cx) (C : Ctx) (W : WX) (q : Bool) (tg iter : Expr) (mi : M (List D)) : Prop := PI X tg iter (tG C W q (repI C) mi)
theorem PI.le {X : Cx} {tg e : Expr} {t t' : TI} (h : PI X tg e t) (k : ∀ σ H R, t' σ H R → t σ H R) : PI X tg e t' := ⟨fun pins s σ H R I q => h.run pins s σ H R I (k _ _ _ q)⟩
def itemsD : D → Option (List D)
  | .lst _ ds => some ds
  | .tup ds => some ds
  | .str s => some (s.cps.toList.map chr1)
  | _ => none
def mIter (ma : M Op) : M (List D) := fun ρ => (ma ρ).bind fun o ρ1 => match frO o ρ1 with
  | some (d, ρ2) => match itemsD d with
    | some ds => .ok ds ρ2
    | none => .bad
  | none => .bad
theorem ItD.list {C : Ctx} {K : PySem.W.Frag} {a : Addr} {vs : List V} {ds : List D} {B0 : Hp} (t : B0 a = some (.lst vs)) (r : RpL C B0 B0 ds vs []) (f : isFzL ds = true) : ItD C (Itl K a) ds B0 := by
  refine ⟨fun i H B d s0 s1 e => ?_, fun H B s0 s1 => ?_⟩
  · have tH : SqL K H a vs := .of (s1 _ _ (s0 _ _ t))
    obtain ⟨v, G, h1, h2⟩ := r.get e
    refine ⟨⟨vs, v, tH, h1⟩, fun x H' y => ?_⟩
    obtain ⟨rfl, y⟩ := y
    have := y vs tH
    rw [h1] at this
    cases this
    have fd := isFzL_mem f (List.mem_of_getElem? e)
    exact ⟨B, PX.sc s1 (Rp.fixed fd h2 s0)⟩
  · exact ⟨vs, .of (s1 _ _ (s0 _ _ t)), by rw [RpL.len r]; exact Nat.le_refl _⟩
theorem ItD.tup {C : Ctx} {a : Addr} {vs : List V} {ds : List D} {B0 : Hp} (t : SqT C.K B0 a vs) (r : RpL C B0 B0 ds vs []) (f : isFzL ds = true) : ItD C (Itt C.K a) ds B0 := by
  have uni : ∀ {H : Hp} {xs ys : List V}, SqT C.K H a xs → SqT C.K H a ys → True := fun _ _ => trivial
  refine ⟨fun i H B d s0 s1 e => ?_, fun H B s0 s1 => ?_⟩
  · have tH : SqT C.K H a vs := s1.t (s0.t t)
    obtain ⟨v, G, h1, h2⟩ := r.get e
    refine ⟨⟨vs, v, tH, h1⟩, fun x H' y => ?_⟩
    obtain ⟨rfl, y⟩ := y
    have := y vs tH
    rw [h1] at this
    cases this
    have fd := isFzL_mem f (List.mem_of_getElem? e)
    exact ⟨B, PX.sc s1 (Rp.fixed fd h2 s0)⟩
  · exact ⟨vs, s1.t (s0.t t), by rw [RpL.len r]; exact Nat.le_refl _⟩
theorem ItD.str {C : Ctx} {z : Str} {B0 : Hp} : ItD C (Its z) (z.cps.toList.map chr1) B0 := by
  refine ⟨fun i H B d s0 s1 e => ?_, fun H B s0 s1 => ?_⟩
  · rw [List.getElem?_map, Array.getElem?_toList] at e
    cases h : z.cps[i]? with
    | none => rw [h] at e; cases e
    | some c =>
      rw [h] at e; cases e
      obtain ⟨hlt, _⟩ := Array.getElem?_eq_some_iff.mp h
      refine ⟨hlt, fun x H' y => ?_⟩
      obtain ⟨rfl, c', h', rfl⟩ := y
      rw [h] at h'; cases h'
      exact ⟨B, PX.sc s1 ⟨rfl, rfl⟩⟩
  · show z.cps.size ≤ (z.cps.toList.map chr1).length
    rw [List.length_map, Array.length_toList]; exact Nat.le_refl _
theorem isFzL_chr (cs : List Nat) : isFzL (cs.map chr1) = true := isFzL_iff.mpr fun d h => by
  obtain ⟨c, _, rfl⟩ := List.mem_map.mp h
  rfl
section
variable {X : Cx} {C : Ctx} {W : WX} {q : Bool} {tg e : Expr} {ma : M Op} {pos : Pos}
theorem RpL.base {B H : Hp} {ds : List D} {vs : List V} (f : isFzL ds = true) (r : RpL C B H ds vs []) : RpL C B B ds vs [] := RpL.frame (Sub.refl _) (fun a h => by cases h) r
/-- a value is walked, by what it is -/
theorem si_any (on : On X C W) (he : SE X C W q e ma) : SI X C W q tg e (mIter ma) := by
  refine ⟨fun pins s σ H Rr I h => ?_⟩
  obtain ⟨B, Os, ρ, m, k⟩ := id h
  have k : Kg C W σ q (repI C σ) H B Os ((ma ρ).bind fun o ρ1 => match frO o ρ1 with | some (d, ρ2) => (match itemsD d with | some ds => Gc.R.ok ds ρ2 | none => .bad) | none => .bad) Rr := k
  cases ea : ma ρ with
  | bad => rw [ea] at k; exact k.elim
  | exc x ρ1 =>
    rw [ea] at k
    -- any of the rules serves: nothing is walked
    refine (pi_list (tg := tg) he).run pins s σ H Rr I ⟨B, Os, ρ, m, ?_⟩
    rw [ea]
    exact k
  | ok o ρ1 =>
    rw [ea] at k
    cases ef : frO o ρ1 with
    | none =>
      have k : Kg C W σ q (repI C σ) H B Os (match frO o ρ1 with | some (d, ρ2) => (match itemsD d with | some ds => Gc.R.ok ds ρ2 | none => .bad) | none => .bad) Rr := k
      rw [ef] at k; exact k.elim
    | some p =>
      obtain ⟨d, ρ2⟩ := p
      have k : Kg C W σ q (repI C σ) H B Os (match frO o ρ1 with | some (d, ρ2) => (match itemsD d with | some ds => Gc.R.ok ds ρ2 | none => .bad) | none => .bad) Rr := k
      rw [ef] at k
      have k : Kg C W σ q (repI C σ) H B Os (match itemsD d with | some ds => Gc.R.ok ds ρ2 | none => .bad) Rr := k
      -- what follows the value
      have step : ∀ {v : V} {H1 B1 : Hp} {F Os1 : List Addr}, RpO C σ B1 H1 o v F → Mch C σ H1 B1 F Os1 ρ1 → Ext H B Os H1 B1 (F ++ Os1) → (q = true → ∀ a ∈ Os, H1 a = H a) →
          ∃ B2 O2, Rp C B2 H1 d v [] ∧ isFz d = true ∧ Mch C σ H1 B2 [] O2 ρ2 ∧ Ext H B Os H1 B2 O2 ∧ (q = true → ∀ a ∈ Os, H1 a = H a) := by
        intro v H1 B1 F Os1 rp m1 e1 q1
        obtain ⟨B2, O2, r2, f2, m2, e2⟩ := frO_ok (G := []) rp (by rw [List.append_nil]; exact m1) ef
        rw [List.append_nil] at e2
        exact ⟨B2, O2, r2, f2, m2, e1.trans m1.out e2, q1⟩
      cases d with
      | lst ow ds =>
        refine (pi_list (tg := tg) he).run pins s σ H Rr I ⟨B, Os, ρ, m, ?_⟩
        rw [ea]
        intro v H1 B1 F Os1 rp m1 e1 q1
        obtain ⟨B2, O2, r2, f2, m2, e2, q2⟩ := step rp m1 e1 q1
        simp only [isFz, Bool.and_eq_true, Bool.not_eq_true'] at f2
        obtain ⟨a, vs, F', rfl, rr, qq⟩ := r2
        rcases qq with ⟨q1', _, _⟩ | ⟨_, t, rfl⟩
        · rw [f2.1] at q1'; cases q1'
        · refine ⟨a, rfl, ⟨vs, .of (m2.sub _ _ t)⟩, ?_⟩
          exact k _ H1 B2 [] O2 ⟨by rw [on.K]; exact ItD.list t (RpL.base f2.2 rr) f2.2, f2.2, rfl⟩ m2 e2 q2
      | tup ds =>
        refine (pi_tup (tg := tg) he).run pins s σ H Rr I ⟨B, Os, ρ, m, ?_⟩
        rw [ea]
        intro v H1 B1 F Os1 rp m1 e1 q1
        obtain ⟨B2, O2, r2, f2, m2, e2, q2⟩ := step rp m1 e1 q1
        simp only [isFz] at f2
        obtain ⟨a, vs, rfl, t, tb, rr⟩ := r2.tup_at m2.sub
        refine ⟨a, rfl, ⟨vs, by rw [on.K]; exact t⟩, ?_⟩
        exact k _ H1 B2 [] O2 ⟨by rw [on.K]; exact ItD.tup tb (RpL.base f2 rr) f2, f2, rfl⟩ m2 e2 q2
      | str z =>
        refine (pi_str (tg := tg) he).run pins s σ H Rr I ⟨B, Os, ρ, m, ?_⟩
        rw [ea]
        intro v H1 B1 F Os1 rp m1 e1 q1
        obtain ⟨B2, O2, r2, f2, m2, e2, q2⟩ := step rp m1 e1 q1
        obtain ⟨rfl, _⟩ := r2
        exact ⟨z, rfl, k _ H1 B2 [] O2 ⟨ItD.str, isFzL_chr _, rfl⟩ m2 e2 q2⟩
      | _ => exact k.elim
/-- range -/
def rngD (lo : Int) (n : Nat) : List D := (List.range n).map fun i => .int (lo + (i : Nat))
def mRng1 (ms : M (List Op)) : M (List D) := fun ρ => (ms ρ).bind fun os ρ1 => match rdL os ρ1 with
  | some [.int j] => if -(2 ^ 62) ≤ j ∧ j < 2 ^ 62 then .ok (rngD 0 j.toNat) ρ1 else .bad
  | _ => .bad
def mRng2 (ms : M (List Op)) : M (List D) := fun ρ => (ms ρ).bind fun os ρ1 => match rdL os ρ1 with
  | some [.int i, .int j] => if (-(2 ^ 62) ≤ i ∧ i < 2 ^ 62) ∧ (-(2 ^ 62) ≤ j ∧ j < 2 ^ 62) then .ok (rngD i (j - i).toNat) ρ1 else .bad
  | _ => .bad
theorem ItD.rng {lo : Int} {n : Nat} {B0 : Hp} : ItD C (Itr lo n) (rngD lo n) B0 := by
  refine ⟨fun i H B d s0 s1 e => ?_, fun H B s0 s1 => ?_⟩
  · unfold rngD at e
    rw [List.getElem?_map] at e
    by_cases hi : i < n
    · rw [List.getElem?_range hi] at e
      cases e
      refine ⟨hi, fun x H' y => ?_⟩
      obtain ⟨rfl, rfl⟩ := y
      exact ⟨B, PX.sc s1 ⟨rfl, rfl⟩⟩
    · rw [List.getElem?_eq_none (by rw [List.length_range]; omega)] at e; cases e
  · show n ≤ (rngD lo n).length
    unfold rngD
    rw [List.length_map, List.length_range]; exact Nat.le_refl _
theorem isFzL_rng (lo : Int) (n : Nat) : isFzL (rngD lo n) = true := isFzL_iff.mpr fun d h => by
  obtain ⟨c, _, rfl⟩ := List.mem_map.mp h
  rfl
theorem si_range1 {a : Expr} {ms : M (List Op)} {p : Pos} (hg : Gl X "range") (hm : X.mg "range" = none) (ha : SA X C W q [a] ms) (hs : starEach [a] X.env = [(false, eval a X.env)] := by rfl) : SI X C W q tg (.Call (.Name "range" p) [a] [] pos) (mRng1 ms) := by
  refine PI.le (pi_range1 hg hm ha hs) fun σ H Rr h => ?_
  refine un_run (rep := repOs C) (rep' := repI C) id h fun os ρ1 vs H1 B1 F Os1 rp m1 k => ?_
  have k : Kg C W σ q (repI C σ) H1 B1 (F ++ Os1) (match rdL os ρ1 with | some [.int j] => if -(2 ^ 62) ≤ j ∧ j < 2 ^ 62 then .ok (rngD 0 j.toNat) ρ1 else .bad | _ => .bad) Rr := k
  split at k
  · rename_i j e1
    have ra := rdL_rep (G := []) rp (by rw [List.append_nil]; exact m1) e1
    obtain ⟨v, G, rfl, r⟩ := ra.one
    obtain ⟨rfl, _⟩ := r
    by_cases hb : -(2 ^ 62) ≤ j ∧ j < 2 ^ 62
    · rw [if_pos hb] at k
      exact ⟨j, rfl, hb.1, hb.2, k _ H1 B1 [] Os1 ⟨ItD.rng, isFzL_rng _ _, rfl⟩ m1.drop Ext.weak fun _ _ _ => rfl⟩
    · rw [if_neg hb] at k; exact k.elim
  · exact k.elim
theorem si_range2 {a b : Expr} {ms : M (List Op)} {p : Pos} (hg : Gl X "range") (hm : X.mg "range" = none) (ha : SA X C W q [a, b] ms) (hs : starEach [a, b] X.env = [(false, eval a X.env), (false, eval b X.env)] := by rfl)
    (hs2 : starEach [b] X.env = [(false, eval b X.env)] := by rfl) : SI X C W q tg (.Call (.Name "range" p) [a, b] [] pos) (mRng2 ms) := by
  refine PI.le (pi_range2 hg hm ha hs hs2) fun σ H Rr h => ?_
  refine un_run (rep := repOs C) (rep' := repI C) id h fun os ρ1 vs H1 B1 F Os1 rp m1 k => ?_
  have k : Kg C W σ q (repI C σ) H1 B1 (F ++ Os1) (match rdL os ρ1 with | some [.int i, .int j] => if (-(2 ^ 62) ≤ i ∧ i < 2 ^ 62) ∧ (-(2 ^ 62) ≤ j ∧ j < 2 ^ 62) then .ok (rngD i (j - i).toNat) ρ1 else .bad | _ => .bad) Rr := k
  split at k
  · rename_i i j e1
    have ra := rdL_rep (G := []) rp (by rw [List.append_nil]; exact m1) e1
    obtain ⟨v, w, G, G', rfl, r, r'⟩ := ra.two
    obtain ⟨rfl, _⟩ := r
    obtain ⟨rfl, _⟩ := r'
    by_cases hb : (-(2 ^ 62) ≤ i ∧ i < 2 ^ 62) ∧ (-(2 ^ 62) ≤ j ∧ j < 2 ^ 62)
    · rw [if_pos hb] at k
      exact ⟨i, j, rfl, ⟨hb.1.1, hb.1.2, hb.2.1, hb.2.2⟩, k _ H1 B1 [] Os1 ⟨ItD.rng, isFzL_rng _ _, rfl⟩ m1.drop Ext.weak fun _ _ _ => rfl⟩
    · rw [if_neg hb] at k; exact k.elim
  · exact k.elim
/-- enumerate(list) -/
def enumD (n : Nat) : List D → List D
  | [] => []
  | d :: ds => .tup [.int n, d] :: enumD (n + 1) ds
def mEnum (ms : M (List Op)) : M (List D) := fun ρ => (ms ρ).bind fun os ρ1 => match frOs os ρ1 with
  | some ([.lst _ ds], ρ2) => .ok (enumD 0 ds) ρ2
  | _ => .bad
theorem enumD_len : ∀ (ds : List D) (n : Nat), (enumD n ds).length = ds.length
  | [], n => rfl
  | d :: ds, n => by show (enumD (n + 1) ds).length + 1 = ds.length + 1; rw [enumD_len ds]
theorem enumD_get : ∀ (ds : List D) (n i : Nat) (x : D), (enumD n ds)[i]? = some x → ∃ d, ds[i]? = some d ∧ x = .tup [.int (n + i : Nat), d]
  | [], n, i, x, h => by simp [enumD] at h
  | d :: ds, n, 0, x, h => by
    have h : some (D.tup [.int n, d]) = some x := h
    cases h
    exact ⟨d, rfl, by simp⟩
  | d :: ds, n, i + 1, x, h => by
    have h : (enumD (n + 1) ds)[i]? = some x := h
    obtain ⟨d', h1, h2⟩ := enumD_get ds (n + 1) i x h
    exact ⟨d', h1, by rw [h2, show n + 1 + i = n + (i + 1) by omega]⟩
theorem isFzL_enum : ∀ (ds : List D) (n : Nat), isFzL ds = true → isFzL (enumD n ds) = true
  | [], n, h => rfl
  | d :: ds, n, h => by
    simp only [isFzL, Bool.and_eq_true] at h
    show (isFz (.tup [.int n, d]) && isFzL (enumD (n + 1) ds)) = true
    rw [isFzL_enum ds (n + 1) h.2]
    simp only [isFz, isFzL, h.1]
    rfl
theorem ItD.enum {K : PySem.W.Frag} {a : Addr} {vs : List V} {ds : List D} {B0 : Hp} (t : B0 a = some (.lst vs)) (r : RpL C B0 B0 ds vs []) (f : isFzL ds = true) : ItD C (Ite K a) (enumD 0 ds) B0 := by
  refine ⟨fun i H B d s0 s1 e => ?_, fun H B s0 s1 => ?_⟩
  · have tH : SqL K H a vs := .of (s1 _ _ (s0 _ _ t))
    obtain ⟨d', e', rfl⟩ := enumD_get ds 0 i d e
    obtain ⟨v, G, h1, h2⟩ := r.get e'
    have fd := isFzL_mem f (List.mem_of_getElem? e')
    refine ⟨⟨vs, v, tH, h1⟩, fun x H' y => ?_⟩
    obtain ⟨T, x', rfl, nT, rfl, y⟩ := y
    have := y vs tH
    rw [h1] at this
    cases this
    have h2' : Rp C B H d' v [] := Rp.fixed fd h2 s0
    refine ⟨_, PX.tup s1 nT ⟨_, _, [], [], rfl, rfl, ⟨by rw [Nat.zero_add], rfl⟩, v, [], [], [], rfl, rfl, h2', rfl, rfl⟩⟩
  · exact ⟨vs, .of (s1 _ _ (s0 _ _ t)), by rw [RpL.len r, enumD_len]; exact Nat.le_refl _⟩
theorem si_enum {a : Expr} {ms : M (List Op)} {p tpos : Pos} {elts : List Expr} {kk : Nat} (on : On X C W) (hg : Gl X "enumerate") (hm : X.mg "enumerate" = none) (ha : SA X C W q [a] ms) (hs : starEach [a] X.env = [(false, eval a X.env)] := by rfl) :
    SI X C W q (.Tuple elts kk tpos) (.Call (.Name "enumerate" p) [a] [] pos) (mEnum ms) := by
  refine PI.le (pi_enum hg hm ha hs) fun σ H Rr h => ?_
  refine un_run (rep := repOs C) (rep' := repI C) id h fun os ρ1 vs H1 B1 F Os1 rp m1 k => ?_
  have k : Kg C W σ q (repI C σ) H1 B1 (F ++ Os1) (match frOs os ρ1 with | some ([.lst _ ds], ρ2) => .ok (enumD 0 ds) ρ2 | _ => .bad) Rr := k
  split at k
  · rename_i ow ds ρ2 e1
    obtain ⟨B2, O2, r2, f2, m2, e2⟩ := frOs_ok (G := []) rp (by rw [List.append_nil]; exact m1) e1
    rw [List.append_nil] at e2
    obtain ⟨v, vs', F1, F2, rfl, ee, r3, rr⟩ := r2
    obtain ⟨rfl, rfl⟩ := List.append_eq_nil_iff.mp ee.symm
    obtain ⟨rfl, _⟩ := rr
    simp only [isFzL, isFz, Bool.and_eq_true, Bool.not_eq_true', Bool.and_true] at f2
    obtain ⟨a', vs, F', rfl, rr, qq⟩ := r3
    rcases qq with ⟨q1', _, _⟩ | ⟨_, t, rfl⟩
    · rw [f2.1] at q1'; cases q1'
    · refine ⟨a', vs, rfl, .of (m2.sub _ _ t), ?_⟩
      exact k _ H1 B2 [] O2 ⟨by rw [on.K]; exact ItD.enum t (RpL.base f2.2 rr) f2.2, isFzL_enum _ _ f2.2, rfl⟩ m2 e2 fun _ _ _ => rfl
  · exact k.elim
end

/-! ### for -/
def mLoop (L : List Nat) (t : Tg) (m : MS) : List D → MS
  | [], ρ => .nx ρ
  | d :: ds, ρ => match t.put L d ρ with
    | none => .bad
    | some ρ1 => match m ρ1 with
      | .nx ρ2 => mLoop L t m ds ρ2
      | .ct ρ2 => mLoop L t m ds ρ2
      | .bk ρ2 => .nx ρ2
      | r => r
def mFor (L : List Nat) (t : Tg) (mi : M (List D)) (m : MS) : MS := fun ρ => (mi ρ).toS fun ds ρ1 => mLoop L t m ds ρ1
section
variable {X : Cx} {C : Ctx} {W : WX} {q : Bool} {pos : Pos}
theorem ss_for {tg iter : Expr} {body : List Stmt} {t : Tg} {mi : M (List D)} {m : MS} (hp : PassesOwn (model X.prog X.w) X.A X.env X.xe) (hc : X.calm = true) (hi : SI X C W q tg iter mi) (hg : PG X tg (tT C t)) (hb : SSs X C W body m)
    (hs : ∀ x, foldedSetIterable iter X.env x = pure x := by intro _; rfl) : SS X C W (.For tg iter body [] pos) (mFor C.L t mi m) := by
  refine PS.le (ps_for hp hc hi hg hb hs) fun D' σ H h => ?_
  refine s_run (rep := repI C) h fun ds ρ1 J H1 B1 F Os1 rp m1 k => ?_
  obtain ⟨it, f, rfl⟩ := rp
  refine ⟨fun i j σ' H' => j = ds.length - i ∧ i ≤ ds.length ∧ ∃ B' Os' ρ', Mch C σ' H' B' [] Os' ρ' ∧ Sub B1 B' ∧ Ks C W H' B' Os' (mLoop C.L t m (ds.drop i) ρ') D', ⟨ds.length, by omega, Nat.zero_le _, B1, Os1, ρ1, m1, Sub.refl _, k⟩, ?_⟩
  rintro i j σ2 H2 ⟨rfl, hi2, B2, O2, ρ2, m2, s2, k2⟩
  by_cases hlt : i < ds.length
  · refine .inr ?_
    have eg : ds[i]? = some ds[i] := List.getElem?_eq_getElem hlt
    obtain ⟨go, yl⟩ := it.item i H2 B2 ds[i] s2 m2.sub eg
    refine ⟨go, fun σ' H' => ∃ B' Os' ρ', Mch C σ' H' B' [] Os' ρ' ∧ Sub B1 B' ∧ Ks C W H' B' Os' (mLoop C.L t m (ds.drop (i + 1)) ρ') D', fun σ' H' n => ⟨ds.length - (i + 1), by omega, rfl, hlt, n⟩, fun x H3 y => ?_⟩
    obtain ⟨B3, px⟩ := yl x H3 y
    obtain ⟨m3, e3, _⟩ := m2.pure px
    rw [List.drop_eq_getElem_cons hlt] at k2
    have k2 : Ks C W H2 B2 O2 (match t.put C.L ds[i] ρ2 with | none => .bad | some ρ1 => (match m ρ1 with | .nx ρ2 => mLoop C.L t m (ds.drop (i + 1)) ρ2 | .ct ρ2 => mLoop C.L t m (ds.drop (i + 1)) ρ2 | .bk ρ2 => .nx ρ2 | r => r)) D' := k2
    cases zp : t.put C.L ds[i] ρ2 with
    | none => rw [zp] at k2; exact k2.elim
    | some ρ3 =>
      rw [zp] at k2
      have fd := isFzL_mem f (List.mem_of_getElem? eg)
      have m3 : Mch C σ2 H3 B3 [] O2 ρ2 := m3
      have e3 : Ext H2 B2 O2 H3 B3 O2 := e3
      refine ⟨ds[i], B3, O2, ρ2, ρ3, px.rep, fd, m3, zp, fun σ4 O4 m4 s4 _ => ?_⟩
      have e4 : Ext H2 B2 O2 H3 B3 O4 := e3.less s4
      have k2 : Ks C W H2 B2 O2 (match m ρ3 with | .nx ρ2 => mLoop C.L t m (ds.drop (i + 1)) ρ2 | .ct ρ2 => mLoop C.L t m (ds.drop (i + 1)) ρ2 | .bk ρ2 => .nx ρ2 | r => r) D' := k2
      have k4 := Ks.step e4 m4.out k2
      refine ⟨B3, O4, ρ3, m4, ?_⟩
      cases zm : m ρ3 with
      | nx ρ5 =>
        rw [zm] at k4
        exact fun σ' H' B' Os' m' e' => ⟨B', Os', ρ5, m', (s2.trans px.sub).trans e'.sub, Ks.step e' m'.out k4⟩
      | ct ρ5 =>
        rw [zm] at k4
        exact fun σ' H' B' Os' m' e' => ⟨B', Os', ρ5, m', (s2.trans px.sub).trans e'.sub, Ks.step e' m'.out k4⟩
      | bk ρ5 => rw [zm] at k4; exact k4
      | ret d ρ5 => rw [zm] at k4; exact k4
      | exc x ρ5 => rw [zm] at k4; exact k4
      | bad => rw [zm] at k4; exact k4
  · have e0 : i = ds.length := by omega
    subst e0
    refine .inl ⟨it.stop H2 B2 s2 m2.sub, ?_⟩
    rw [List.drop_length] at k2
    exact k2 σ2 H2 B2 O2 m2 Ext.refl
end
end Gc

namespace Gc
open PySem PySem.Spec PyProof.Rows L2
/-! List comprehensions. -/
abbrev F0 : WX := fun _ _ _ _ => False
def R.nox {α : Type} (r : R α) : R α := match r with
  | .exc _ _ => .bad
  | r => r
def wipeR (ρ : Ro) : List Nat → Ro
  | [] => ρ
  | v :: vs => (wipeR ρ vs).set v none
/-- the slots vs as they were -/
def restR (ρ0 : Ro) : List Nat → Ro → Ro
  | [], ρ => ρ
  | v :: vs, ρ => restR ρ0 vs (ρ.set v (ρ0[v]?).join)
/-- the block's own slots hold nothing that is owned, and are no parameters that are lent -/
def compOk (L : List Nat) (vs : List Nat) (ρ : Ro) : Bool :=
  vs.all (fun i => !L.contains i && (match (ρ[i]?).join with | some d => isFz d | none => true)) && decide vs.Nodup
theorem set_same {α : Type} {l : List α} {i : Nat} {x : α} (h : l[i]? = some x) : l.set i x = l := by
  refine List.ext_getElem? fun j => ?_
  rw [List.getElem?_set]
  by_cases hj : i = j
  · subst hj
    obtain ⟨hlt, _⟩ := List.getElem?_eq_some_iff.mp h
    rw [if_pos rfl, if_pos hlt, h]
  · rw [if_neg hj]
section
variable {C : Ctx} {σ : L2.St} {H B : Hp} {F Os : List Addr} {ρ ρ0 : Ro}
theorem Mch.unset (m : Mch C σ H B F Os ρ) (i : Nat) (hL : C.L.contains i = false) (y : Option V) : ∃ Os', Mch C (σ.set i y) H B F Os' (ρ.set i none) ∧ ∀ a ∈ Os', a ∈ Os := by
  have hp : ∀ j, C.L.contains j = true → (σ.set i y)[j]? = C.pv j := fun j hj => by
    rw [List.getElem?_set_ne (fun z => by rw [z, hj] at hL; cases hL)]
    exact m.pn j hj
  by_cases hi : i < ρ.length
  · obtain ⟨G, O1, O2, e1, _, _, w⟩ := m.slt.slot (List.getElem?_eq_getElem hi)
    subst e1
    obtain ⟨_, w2⟩ := w B H (Sub.refl _) (fun _ _ => rfl)
    have s : (F ++ (O1 ++ O2)).Sublist (F ++ (O1 ++ (G ++ O2))) := ((List.sublist_append_right G O2).append_left O1).append_left F
    exact ⟨O1 ++ O2, ⟨w2 y, m.nd.sublist s, fun a h => m.out a (s.subset h), fun a h => m.liv a (s.subset h), m.sub, hp, m.b0⟩, fun a h => by
      rcases List.mem_append.mp h with h | h <;> simp [h]⟩
  · have l := RpS.len m.slt
    have e1 : ρ.set i none = ρ := List.set_eq_of_length_le (by omega)
    have e2 : σ.set i y = σ := List.set_eq_of_length_le (by omega)
    rw [e1, e2]
    exact ⟨Os, m, fun _ h => h⟩
theorem Mch.wipe (m : Mch C σ H B F Os ρ) : ∀ {vs : List Nat}, (∀ i ∈ vs, C.L.contains i = false) → ∃ Os', Mch C (L2.wipe σ vs) H B F Os' (wipeR ρ vs) ∧ ∀ a ∈ Os', a ∈ Os
  | [], _ => ⟨Os, m, fun _ h => h⟩
  | v :: vs, h => by
    obtain ⟨O1, m1, s1⟩ := m.wipe (vs := vs) fun i hi => h i (List.mem_cons_of_mem _ hi)
    obtain ⟨O2, m2, s2⟩ := m1.unset v (h v List.mem_cons_self) none
    exact ⟨O2, m2, fun a ha => s1 a (s2 a ha)⟩
theorem wipe_out {v : Nat} : ∀ {vs : List Nat}, v ∉ vs → (L2.wipe σ vs)[v]? = σ[v]?
  | [], _ => rfl
  | w :: vs, h => by
    unfold L2.wipe
    rw [List.getElem?_set_ne (fun z => h (by rw [z]; exact List.mem_cons_self))]
    exact wipe_out fun z => h (List.mem_cons_of_mem _ z)
/-- what a slot held that held nothing owned, behind steps -/
def Kept (C : Ctx) (σ : L2.St) (B : Hp) (ρ0 : Ro) (v : Nat) : Prop := ∀ d, (ρ0[v]?).join = some d → ∃ u, σ[v]? = some (some u) ∧ isFz d = true ∧ Rp C B B d u []
theorem Kept.of (m : Mch C σ H B F Os ρ) {v : Nat} (h : (match (ρ[v]?).join with | some d => isFz d | none => true) = true) : Kept C σ B ρ v := fun d e => by
  rw [e] at h
  have h : isFz d = true := h
  cases z : ρ[v]? with
  | none => rw [z] at e; cases e
  | some x =>
    rw [z] at e
    have e : x = some d := e
    subst e
    obtain ⟨G, O1, O2, e1, _, g, w⟩ := m.slt.slot z
    obtain ⟨u, h1, h2⟩ := g d rfl
    exact ⟨u, h1, h, Rp.fixed h h2 (Sub.refl _)⟩
theorem Kept.up {B' : Hp} {v : Nat} (k : Kept C σ B ρ0 v) (s : Sub B B') : Kept C σ B' ρ0 v := fun d e => by
  obtain ⟨u, h1, h2, h3⟩ := k d e
  exact ⟨u, h1, h2, Rp.fixed h2 h3 s⟩
theorem Mch.rest : ∀ {vs : List Nat} {ρ : Ro} {Os : List Addr}, vs.Nodup → (∀ v ∈ vs, C.L.contains v = false) → (∀ v ∈ vs, Kept C σ B ρ0 v) → Mch C (L2.wipe σ vs) H B F Os ρ → ∃ Os', Mch C σ H B F Os' (restR ρ0 vs ρ) ∧ ∀ a ∈ Os', a ∈ Os
  | [], ρ, Os, _, _, _, m => ⟨Os, m, fun _ h => h⟩
  | v :: vs, ρ, Os, nd, hL, hk, m => by
    obtain ⟨n1, n2⟩ := List.nodup_cons.mp nd
    have hv := wipe_out (σ := σ) n1
    have m : Mch C ((L2.wipe σ vs).set v none) H B F Os ρ := m
    have fin : ∃ O1, Mch C (L2.wipe σ vs) H B F O1 (ρ.set v (ρ0[v]?).join) ∧ ∀ a ∈ O1, a ∈ Os := by
      have noslot : ∃ O1, Mch C (L2.wipe σ vs) H B F O1 (ρ.set v none) ∧ ∀ a ∈ O1, a ∈ Os := by
        by_cases hb : v < (L2.wipe σ vs).length
        · obtain ⟨O1, m1, s1⟩ := m.unset v (hL v List.mem_cons_self) (L2.wipe σ vs)[v]
          rw [List.set_set, set_same (List.getElem?_eq_getElem hb)] at m1
          exact ⟨O1, m1, s1⟩
        · have e2 : (L2.wipe σ vs).set v none = L2.wipe σ vs := List.set_eq_of_length_le (by omega)
          obtain ⟨O1, m1, s1⟩ := m.unset v (hL v List.mem_cons_self) none
          rw [e2, e2] at m1
          exact ⟨O1, m1, s1⟩
      cases e : (ρ0[v]?).join with
      | none => exact noslot
      | some d =>
        obtain ⟨u, h1, h2, h3⟩ := hk v List.mem_cons_self d e
        have h3 : Rp C B H d u [] := Rp.frame (Sub.refl _) (fun a h => by cases h) h3
        rw [← hv] at h1
        obtain ⟨hlt, _⟩ := List.getElem?_eq_some_iff.mp h1
        have l := RpS.len m.slt
        rw [List.length_set] at l
        obtain ⟨G, O1, O2, e1, _, _, w⟩ := m.slt.slot (List.getElem?_eq_getElem (show v < ρ.length by omega))
        subst e1
        obtain ⟨w1, _⟩ := w B H (Sub.refl _) (fun _ _ => rfl)
        have w1 := w1 d u [] h3
        rw [List.set_set, set_same h1] at w1
        have s : (F ++ (O1 ++ ([] ++ O2))).Sublist (F ++ (O1 ++ (G ++ O2))) := (((List.nil_sublist G).append_right O2).append_left O1).append_left F
        refine ⟨O1 ++ ([] ++ O2), ⟨w1, m.nd.sublist s, fun a h => m.out a (s.subset h), fun a h => m.liv a (s.subset h), m.sub, fun j hj => ?_, m.b0⟩, fun a h => ?_⟩
        · have := m.pn j hj
          rw [List.getElem?_set_ne (fun z => by rw [z] at hL; rw [hL j List.mem_cons_self] at hj; cases hj)] at this
          exact this
        · rcases List.mem_append.mp h with h | h
          · simp [h]
          · have h : a ∈ O2 := h
            simp [h]
    obtain ⟨O1, m1, s1⟩ := fin
    obtain ⟨O2, m2, s2⟩ := Mch.rest n2 (fun w hw => hL w (List.mem_cons_of_mem _ hw)) (fun w hw => hk w (List.mem_cons_of_mem _ hw)) m1
    exact ⟨O2, m2, fun a ha => s1 a (s2 a ha)⟩
/-- the held is written -/
theorem Mch.updF {p : Addr} {o : HO} (m : Mch C σ H B [p] Os ρ) : Mch C σ (upd H p o) B [p] Os ρ := by
  have np : ∀ a ∈ Os, a ≠ p := fun a h z => m.apart p List.mem_cons_self (z ▸ h)
  have bp : B p = none := m.outF p List.mem_cons_self
  refine ⟨RpS.frame (Sub.refl _) (fun a h => upd_ne (np a h)) m.slt, m.nd, m.out, fun a h => ?_, fun a u e => ?_, m.pn, m.b0⟩
  · by_cases z : a = p
    · rw [z, upd_same]; simp
    · rw [upd_ne z]; exact m.liv a h
  · by_cases z : a = p
    · rw [z, bp] at e; cases e
    · rw [upd_ne z]; exact m.sub a u e
end
theorem wipe_idem (σ : L2.St) (vs : List Nat) : L2.wipe (L2.wipe σ vs) vs = L2.wipe σ vs := by
  refine List.ext_getElem? fun j => ?_
  by_cases hj : j ∈ vs
  · have nn : ∀ {τ : L2.St} (x : V), (L2.wipe τ vs)[j]? ≠ some (some x) := fun {τ} x e => (wipe_some e).2 hj
    have l1 : (L2.wipe (L2.wipe σ vs) vs).length = (L2.wipe σ vs).length := wipe_length _ _
    by_cases hl : j < (L2.wipe σ vs).length
    · have a1 : (L2.wipe (L2.wipe σ vs) vs)[j]? = some none := by
        cases u : (L2.wipe (L2.wipe σ vs) vs)[j]? with
        | none => have := List.getElem?_eq_none_iff.mp u; omega
        | some y =>
          cases y with
          | none => rfl
          | some x => exact absurd u (nn x)
      have a2 : (L2.wipe σ vs)[j]? = some none := by
        cases u : (L2.wipe σ vs)[j]? with
        | none => have := List.getElem?_eq_none_iff.mp u; omega
        | some y =>
          cases y with
          | none => rfl
          | some x => exact absurd u (nn x)
      rw [a1, a2]
    · rw [List.getElem?_eq_none (by omega), List.getElem?_eq_none (by omega)]
  · rw [wipe_out hj]
def mYes : M Bool := fun ρ => .ok true ρ
def mcLoop (L : List Nat) (t : Tg) (mt : M Bool) (me : M Op) (vs : List Nat) : List D → List D → Ro → R (List D)
  | [], acc, ρ => .ok acc ρ
  | d :: ds, acc, ρ => match t.put L d ρ with
    | none => .bad
    | some ρ1 => (mt ρ1).bind fun b ρ2 => if b = true then (me ρ2).bind fun o ρ3 => (match frO o ρ3 with
      | some (x, ρ4) => if acc.length < lim then mcLoop L t mt me vs ds (acc ++ [x]) (wipeR ρ4 vs) else .bad
      | none => .bad) else mcLoop L t mt me vs ds acc (wipeR ρ2 vs)
theorem mcLoop_cons {L : List Nat} {t : Tg} {mt : M Bool} {me : M Op} {vs : List Nat} {d : D} {ds acc : List D} {ρ : Ro} : mcLoop L t mt me vs (d :: ds) acc ρ = (match t.put L d ρ with
    | none => .bad
    | some ρ1 => (mt ρ1).bind fun b ρ2 => if b = true then (me ρ2).bind fun o ρ3 => (match frO o ρ3 with
      | some (x, ρ4) => if acc.length < lim then mcLoop L t mt me vs ds (acc ++ [x]) (wipeR ρ4 vs) else .bad
      | none => .bad) else mcLoop L t mt me vs ds acc (wipeR ρ2 vs)) := rfl
def mComp (L : List Nat) (t : Tg) (mi : M (List D)) (mt : M Bool) (me : M Op) (vs : List Nat) : M Op := fun ρ => (mi ρ).bind fun ds ρ1 =>
  if compOk L vs ρ1 = true then (mcLoop L t mt me vs ds [] (wipeR ρ1 vs)).nox.bind fun out ρ2 => .ok (.val (.lst true out)) (restR ρ1 vs ρ2) else .bad
section
variable {X : Cx} {C : Ctx} {W : WX} {q qi qt qe : Bool} {pos : Pos}
theorem comp_run {t : Tg} {mi : M (List D)} {mt : M Bool} {me : M Op} {vs : List Nat} {σ : L2.St} {H : Hp} {Q : VK} (ht : ∀ i ∈ t.slots, i ∈ vs)
    (h : tM C W (qi && (qt && qe)) (mComp C.L t mi mt me vs) σ H Q) : tLc (tG C W qi (repI C) mi) (tT C t) (tMb C F0 qt mt) (tM C F0 qe me) vs σ H Q := by
  refine un_run (rep := repI C) qL h fun ds ρ1 J H1 B1 F Os1 rp m1 k => ?_
  obtain ⟨it, f, rfl⟩ := rp
  intro Da nD
  by_cases hc : compOk C.L vs ρ1 = true
  · have k : Kg C W σ (qi && (qt && qe)) (RpO C σ) H1 B1 Os1 (if compOk C.L vs ρ1 = true then (mcLoop C.L t mt me vs ds [] (wipeR ρ1 vs)).nox.bind fun out ρ2 => .ok (.val (.lst true out)) (restR ρ1 vs ρ2) else .bad) Q := k
    rw [if_pos hc] at k
    unfold compOk at hc
    obtain ⟨hc1, hc2⟩ := Bool.and_eq_true_iff.mp hc
    have nd : vs.Nodup := of_decide_eq_true hc2
    have hcL : ∀ i ∈ vs, C.L.contains i = false := fun i hi => by
      have z := (Bool.and_eq_true_iff.mp (List.all_eq_true.mp hc1 i hi)).1
      simpa using z
    have hcK : ∀ i ∈ vs, Kept C σ B1 ρ1 i := fun i hi => Kept.of m1 (Bool.and_eq_true_iff.mp (List.all_eq_true.mp hc1 i hi)).2
    have bD : B1 Da = none := by
      cases e : B1 Da with
      | none => rfl
      | some u => rw [m1.sub _ _ e] at nD; cases nD
    -- the start
    obtain ⟨O0, m0, s0⟩ := m1.wipe hcL
    have px : PX C H1 B1 (.lst true []) (.ref Da) (upd H1 Da (.lst [])) B1 [Da] := PX.lst m1.sub nD ⟨rfl, rfl⟩
    obtain ⟨m0', e0', q0'⟩ := m0.pure px
    have e1' : Ext H1 B1 Os1 (upd H1 Da (.lst [])) B1 ([Da] ++ O0) := by
      obtain ⟨_, e, _⟩ := m1.pure px
      exact (show Ext H1 B1 Os1 (upd H1 Da (.lst [])) B1 ([Da] ++ Os1) from e).less fun a ha => by
        rcases List.mem_append.mp ha with ha | ha
        · exact List.mem_append_left _ ha
        · exact List.mem_append_right _ (s0 a ha)
    refine ⟨fun i j H' => j = ds.length - i ∧ i ≤ ds.length ∧ ∃ B Os ρ acc accv, Mch C (L2.wipe σ vs) H' B [Da] Os ρ ∧ H' Da = some (.lst accv) ∧ RpL C B H' acc accv [] ∧ isFzL acc = true ∧
      Ext H1 B1 Os1 H' B ([Da] ++ Os) ∧ ((qi && (qt && qe)) = true → ∀ a ∈ Os1, H' a = H1 a) ∧
      Kg C W σ (qi && (qt && qe)) (RpO C σ) H1 B1 Os1 ((mcLoop C.L t mt me vs (ds.drop i) acc ρ).nox.bind fun out ρ2 => .ok (.val (.lst true out)) (restR ρ1 vs ρ2)) Q,
      ⟨ds.length, by omega, Nat.zero_le _, B1, O0, wipeR ρ1 vs, [], [], m0', upd_same, ⟨rfl, rfl⟩, rfl, e1', fun z a ha => ?_, k⟩, ?_⟩
    · have : a ≠ Da := fun z => m1.liv a ha (by rw [z]; exact nD)
      exact upd_ne this
    rintro i j H2 ⟨rfl, hi2, B2, O2, ρ2, acc, accv, m2, hD2, r2, f2, e2, q2, k2⟩
    by_cases hlt : i < ds.length
    · refine .inr ?_
      have eg : ds[i]? = some ds[i] := List.getElem?_eq_getElem hlt
      have fd := isFzL_mem f (List.mem_of_getElem? eg)
      obtain ⟨go, yl⟩ := it.item i H2 B2 ds[i] e2.sub m2.sub eg
      rw [List.drop_eq_getElem_cons hlt] at k2
      refine ⟨go, fun H' => ∃ B Os ρ acc accv, Mch C (L2.wipe σ vs) H' B [Da] Os ρ ∧ H' Da = some (.lst accv) ∧ RpL C B H' acc accv [] ∧ isFzL acc = true ∧
        Ext H1 B1 Os1 H' B ([Da] ++ Os) ∧ ((qi && (qt && qe)) = true → ∀ a ∈ Os1, H' a = H1 a) ∧
        Kg C W σ (qi && (qt && qe)) (RpO C σ) H1 B1 Os1 ((mcLoop C.L t mt me vs (ds.drop (i + 1)) acc ρ).nox.bind fun out ρ2 => .ok (.val (.lst true out)) (restR ρ1 vs ρ2)) Q, fun H' n => ⟨ds.length - (i + 1), by omega, rfl, hlt, n⟩, fun x H3 y => ?_⟩
      obtain ⟨B3, px3⟩ := yl x H3 y
      -- a step of the slots, D beside
      have adv : ∀ {τ : L2.St} {Ha Ba Hb Bb : Hp} {Oa Ob : List Addr} {ρa ρb : Ro}, Mch C τ Ha Ba [Da] Oa ρa → Ext H1 B1 Os1 Ha Ba ([Da] ++ Oa) → Ext Ha Ba Oa Hb Bb Ob → Mch C τ Hb Bb [] Ob ρb → Mch C τ Hb Bb [Da] Ob ρb ∧ Ext H1 B1 Os1 Hb Bb ([Da] ++ Ob) ∧ Hb Da = Ha Da := by
        intro τ Ha Ba Hb Bb Oa Ob ρa ρb ma ea eb mb
        refine ⟨ma.and eb mb, ea.trans ma.out eb.beside, ma.held (G := []) eb Da List.mem_cons_self⟩
      have qadv : ∀ {Ha Ba Hb Bb : Hp} {Oa Ob : List Addr}, (∀ a ∈ Os1, Ha a = H1 a) → (∀ a ∈ Oa, Hb a = Ha a) → Ext Ha Ba Oa Hb Bb Ob → ∀ a ∈ Os1, Hb a = H1 a := by
        intro Ha Ba Hb Bb Oa Ob h1 h2 e a ha
        by_cases z : a ∈ Oa
        · rw [h2 a z, h1 a ha]
        · cases u : H1 a with
          | none => exact absurd u (m1.liv a ha)
          | some w => exact e.keep a w ((h1 a ha).trans u) z
      have m2d : Mch C (L2.wipe σ vs) H2 B2 [] O2 ρ2 := m2.drop
      obtain ⟨m3, e3, h3⟩ := m2d.pure px3
      have m3 : Mch C (L2.wipe σ vs) H3 B3 [] O2 ρ2 := m3
      have e3 : Ext H2 B2 O2 H3 B3 O2 := e3
      obtain ⟨m3D, e3D, hD3⟩ := adv m2 e2 e3 m3
      have q3 : (qi && (qt && qe)) = true → ∀ a ∈ Os1, H3 a = H1 a := fun z => qadv (q2 z) (fun a ha => h3 a ha) e3
      cases zp : t.put C.L ds[i] ρ2 with
      | none =>
        rw [mcLoop_cons, zp] at k2
        exact k2.elim
      | some ρ3 =>
        rw [mcLoop_cons, zp] at k2
        dsimp only at k2
        refine ⟨ds[i], B3, O2, ρ2, ρ3, px3.rep, fd, m3, zp, fun σ4 O4 m4 s4 w4 => ⟨(w4 vs ht).trans (wipe_idem σ vs), ?_⟩⟩
        have hw4 := (w4 vs ht).trans (wipe_idem σ vs)
        have e4 : Ext H3 B3 O2 H3 B3 O4 := Ext.refl.less s4
        have m4D : Mch C σ4 H3 B3 [Da] O4 ρ3 := ⟨m4.slt, List.nodup_append.mpr ⟨by simp, (List.nodup_append.mp m4.nd).2.1, fun a h b hb z => m3D.apart a h (s4 a (z ▸ hb))⟩, fun a h => (List.mem_append.mp h).elim (fun h => m3D.outF a h) (fun h => m4.out a h), fun a h => (List.mem_append.mp h).elim (fun h => m3D.liv a (List.mem_append_left _ h)) (fun h => m4.liv a h), m4.sub, m4.pn, m4.b0⟩
        have e4D : Ext H1 B1 Os1 H3 B3 ([Da] ++ O4) := e3D.less fun a ha => by
          rcases List.mem_append.mp ha with ha | ha
          · exact List.mem_append_left _ ha
          · exact List.mem_append_right _ (s4 a ha)
        -- behind a turn: the slots wiped
        have back : ∀ {Hb Bb : Hp} {Ob : List Addr} {ρb : Ro} {av : List V} {ac : List D}, Mch C σ4 Hb Bb [Da] Ob ρb → Hb Da = some (.lst av) → RpL C Bb Hb ac av [] → isFzL ac = true → Ext H1 B1 Os1 Hb Bb ([Da] ++ Ob) → ((qi && (qt && qe)) = true → ∀ a ∈ Os1, Hb a = H1 a) →
            Kg C W σ (qi && (qt && qe)) (RpO C σ) H1 B1 Os1 ((mcLoop C.L t mt me vs (ds.drop (i + 1)) ac (wipeR ρb vs)).nox.bind fun out ρ2 => .ok (.val (.lst true out)) (restR ρ1 vs ρ2)) Q →
            ∃ B Os ρ acc accv, Mch C (L2.wipe σ vs) Hb B [Da] Os ρ ∧ Hb Da = some (.lst accv) ∧ RpL C B Hb acc accv [] ∧ isFzL acc = true ∧ Ext H1 B1 Os1 Hb B ([Da] ++ Os) ∧ ((qi && (qt && qe)) = true → ∀ a ∈ Os1, Hb a = H1 a) ∧
              Kg C W σ (qi && (qt && qe)) (RpO C σ) H1 B1 Os1 ((mcLoop C.L t mt me vs (ds.drop (i + 1)) acc ρ).nox.bind fun out ρ2 => .ok (.val (.lst true out)) (restR ρ1 vs ρ2)) Q := by
          intro Hb Bb Ob ρb av ac mb hb rb fb eb qb kb
          obtain ⟨O5, m5, s5⟩ := mb.wipe hcL
          rw [hw4] at m5
          refine ⟨Bb, O5, wipeR ρb vs, ac, av, m5, hb, rb, fb, eb.less fun a ha => ?_, qb, kb⟩
          rcases List.mem_append.mp ha with ha | ha
          · exact List.mem_append_left _ ha
          · exact List.mem_append_right _ (s5 a ha)
        have r3 : RpL C B3 H3 acc accv [] := RpL.fixed f2 r2 e3.sub
        -- the test
        refine ⟨B3, O4, ρ3, m4, ?_⟩
        cases zt : mt ρ3 with
        | bad => rw [zt] at k2; exact k2.elim
        | exc x' ρ5 => rw [zt] at k2; exact k2.elim
        | ok b ρ5 =>
          rw [zt] at k2
          intro bv H5 B5 F5 O5 rb5 m5 e5 q5
          obtain ⟨rfl, rfl⟩ := rb5
          obtain ⟨m5D, e5D, hD5⟩ := adv m4D e4D e5 m5
          have q5' : (qi && (qt && qe)) = true → ∀ a ∈ Os1, H5 a = H1 a := fun z => qadv (q3 z) (fun a ha => q5 (qL (qR z)) a ha) e5
          have r5 : RpL C B5 H5 acc accv [] := RpL.fixed f2 r3 e5.sub
          have hD5' : H5 Da = some (.lst accv) := by rw [hD5, hD3, hD2]
          cases b with
          | false =>
            show ∃ B Os ρ acc accv, _
            exact back m5D hD5' r5 f2 e5D q5' k2
          | true =>
            show tM C F0 qe me σ4 H5 _
            refine ⟨B5, O5, ρ5, m5, ?_⟩
            have k2 : Kg C W σ (qi && (qt && qe)) (RpO C σ) H1 B1 Os1 (((me ρ5).bind fun o ρ3 => (match frO o ρ3 with
              | some (x, ρ4) => if acc.length < lim then mcLoop C.L t mt me vs (ds.drop (i + 1)) (acc ++ [x]) (wipeR ρ4 vs) else .bad
              | none => .bad)).nox.bind fun out ρ2 => .ok (.val (.lst true out)) (restR ρ1 vs ρ2)) Q := k2
            cases ze : me ρ5 with
            | bad => rw [ze] at k2; exact k2.elim
            | exc x' ρ6 => rw [ze] at k2; exact k2.elim
            | ok o ρ6 =>
              rw [ze] at k2
              intro yv H6 B6 F6 O6 rp6 m6 e6 q6
              have k2 : Kg C W σ (qi && (qt && qe)) (RpO C σ) H1 B1 Os1 ((match frO o ρ6 with
                | some (x, ρ4) => if acc.length < lim then mcLoop C.L t mt me vs (ds.drop (i + 1)) (acc ++ [x]) (wipeR ρ4 vs) else .bad
                | none => .bad : R (List D)).nox.bind fun out ρ2 => .ok (.val (.lst true out)) (restR ρ1 vs ρ2)) Q := k2
              cases zf : frO o ρ6 with
              | none => rw [zf] at k2; exact k2.elim
              | some p =>
                obtain ⟨xd, ρ7⟩ := p
                rw [zf] at k2
                have k2 : Kg C W σ (qi && (qt && qe)) (RpO C σ) H1 B1 Os1 ((if acc.length < lim then mcLoop C.L t mt me vs (ds.drop (i + 1)) (acc ++ [xd]) (wipeR ρ7 vs) else .bad : R (List D)).nox.bind fun out ρ2 => .ok (.val (.lst true out)) (restR ρ1 vs ρ2)) Q := k2
                by_cases hz : acc.length < lim
                · rw [if_pos hz] at k2
                  obtain ⟨B7, O7, r7, f7, m7, e7⟩ := frO_ok (G := []) rp6 (by rw [List.append_nil]; exact m6) zf
                  rw [List.append_nil] at e7
                  have e67 : Ext H5 B5 O5 H6 B7 O7 := e6.trans m6.out e7
                  obtain ⟨m7D, e7D, hD7⟩ := adv m5D e5D e67 m7
                  have q7' : (qi && (qt && qe)) = true → ∀ a ∈ Os1, H6 a = H1 a := fun z => qadv (q5' z) (fun a ha => q6 (qR (qR z)) a ha) e67
                  have r7' : RpL C B7 H6 acc accv [] := RpL.fixed f2 r5 e67.sub
                  have hD7' : H6 Da = some (.lst accv) := by rw [hD7, hD5']
                  have ln := RpL.len r7'
                  refine ⟨accv, hD7', by rw [ln, sizeLine_eq]; exact hz, ?_⟩
                  have nDO : ∀ a ∈ Os1, a ≠ Da := fun a ha z => m1.liv a ha (by rw [z]; exact nD)
                  refine back (m7D.updF) upd_same (RpL.frame (Sub.refl _) (fun a h => by cases h) (RpL.app r7' (show RpL C B7 H6 [xd] [yv] [] from ⟨yv, [], [], [], rfl, rfl, r7, rfl, rfl⟩))) (by rw [isFzL_app, f2]; simp only [isFzL, f7]; rfl) ?_ (fun z a ha => by rw [upd_ne (nDO a ha)]; exact q7' z a ha) k2
                  exact ⟨fun a u e n => by rw [upd_ne (fun z => by rw [z, nD] at e; cases e)]; exact e7D.keep a u e n, e7D.dom, e7D.sub⟩
                · rw [if_neg hz] at k2; exact k2.elim
    · have e0 : i = ds.length := by omega
      subst e0
      refine .inl ⟨it.stop H2 B2 e2.sub m2.sub, ?_⟩
      rw [List.drop_length] at k2
      obtain ⟨O5, m5, s5⟩ := Mch.rest (ρ0 := ρ1) nd hcL (fun v hv => (hcK v hv).up e2.sub) m2
      refine k2 (.ref Da) H2 B2 [Da] O5 ⟨Da, accv, [], rfl, RpL.fixed f2 r2 (Sub.refl _), .inl ⟨rfl, hD2, rfl⟩⟩ m5 (e2.less fun a ha => ?_) q2
      rcases List.mem_append.mp ha with ha | ha
      · exact List.mem_append_left _ ha
      · exact List.mem_append_right _ (s5 a ha)
  · have k : Kg C W σ (qi && (qt && qe)) (RpO C σ) H1 B1 Os1 (if compOk C.L vs ρ1 = true then (mcLoop C.L t mt me vs ds [] (wipeR ρ1 vs)).nox.bind fun out ρ2 => .ok (.val (.lst true out)) (restR ρ1 vs ρ2) else .bad) Q := k
    rw [if_neg hc] at k
    exact k.elim
end
end Gc

namespace Gc
open PySem PySem.Spec PyProof.Rows L2
section
variable {X : Cx} {C : Ctx} {W : WX} {q qi qt qe : Bool} {pos : Pos}
theorem On.blk {s : Shared} {H : Hp} {sc : Scope} {ce : Env} {fp : List Addr} (on : On X C W) : On (X.blk s H sc ce fp) C F0 := ⟨on.K, on.mg, takes0⟩
theorem PTs.le {ifs : List Expr} {t t' : TT} (h : PTs X ifs t) (k : ∀ σ H Q, t' σ H Q → t σ H Q) : PTs X ifs t' := ⟨fun pins s σ H Q I q => h.run pins s σ H Q I (k _ _ _ q)⟩
def STs (X : Cx) (C : Ctx) (W : WX) (q : Bool) (ifs : List Expr) (m : M Bool) : Prop := PTs X ifs (tMb C W q m)
theorem st_nil : STs X C W true [] mYes := PTs.le pts_nil fun σ H Q h => by
  obtain ⟨B, Os, ρ, m, k⟩ := h
  exact k_bool (F := []) m k
theorem st_one {c : Expr} {m : M Bool} (h : SB X C W q c m) : STs X C W q [c] m := pts_one h
theorem slots_own {t : Tg} {vs : List Nat} (h : (t.slots.all fun i => vs.contains i) = true) : ∀ i ∈ t.slots, i ∈ vs := fun i hi => by
  have := List.all_eq_true.mp h i hi
  simpa using this
theorem se_lc {elt tg iter : Expr} {ifs : List Expr} {scope : Scope} {own : List (Str × Nat)} {t : Tg} {mi : M (List D)} {mt : M Bool} {me : M Op} (hc : X.calm = true) (hN : X.N.Nodup) (ok : blkC X.N X.env.scope scope own = true) (ht : (t.slots.all fun i => (own.map (·.2)).contains i) = true)
    (hi : SI X C W qi tg iter mi)
    (hg : ∀ (s : Shared) (H : Hp) (A : Addr) (cl : List (Str × Addr)) (fp : List Addr), PG (X.blk s H scope (compEnvC scope cl A X.env) fp) tg (tT C t))
    (htt : ∀ (s : Shared) (H : Hp) (A : Addr) (cl : List (Str × Addr)) (fp : List Addr), STs (X.blk s H scope (compEnvC scope cl A X.env) fp) C F0 qt ifs mt)
    (he : ∀ (s : Shared) (H : Hp) (A : Addr) (cl : List (Str × Addr)) (fp : List Addr), SE (X.blk s H scope (compEnvC scope cl A X.env) fp) C F0 qe elt me)
    (hs : ∀ x, foldedSetIterable iter X.env x = pure x := by intro _; rfl) : SE X C W (qi && (qt && qe)) (.ListComp elt [⟨tg, iter, ifs, 0⟩] scope pos) (mComp C.L t mi mt me (own.map (·.2))) :=
  PE.le (pe_lc hc hN hi (blkOk_by ok) hg htt he hs) fun σ H Q h => comp_run (slots_own ht) h
/-- name = [..] -/
theorem ss_setLc {i : Nat} {y : Str} {py spos : Pos} {elt tg iter : Expr} {ifs : List Expr} {scope : Scope} {own : List (Str × Nat)} {t : Tg} {mi : M (List D)} {mt : M Bool} {me : M Op} (hc : X.calm = true) (hN : X.N.Nodup) (hy : X.N[i]? = some y) (hL : C.L.contains i = false) (hyl : X.env.scope.names.lookup y = some .local) (hk : X.env.scope.kind = .function) (hl : (py.line == pos.line) = true)
    (hna : (scope.names.any fun (n, k) => n == y && (k == .local || k == .cell)) = false) (ok : blkC X.N X.env.scope scope own = true) (ht : (t.slots.all fun i => (own.map (·.2)).contains i) = true)
    (hi : SI X C W qi tg iter mi)
    (hg : ∀ (s : Shared) (H : Hp) (A : Addr) (cl : List (Str × Addr)) (fp : List Addr), PG (X.blk s H scope (compEnvC scope cl A X.env) fp) tg (tT C t))
    (htt : ∀ (s : Shared) (H : Hp) (A : Addr) (cl : List (Str × Addr)) (fp : List Addr), STs (X.blk s H scope (compEnvC scope cl A X.env) fp) C F0 qt ifs mt)
    (he : ∀ (s : Shared) (H : Hp) (A : Addr) (cl : List (Str × Addr)) (fp : List Addr), SE (X.blk s H scope (compEnvC scope cl A X.env) fp) C F0 qe elt me)
    (hs : ∀ x, foldedSetIterable iter X.env x = pure x := by intro _; rfl) : SS X C W (.Assign [.Name y py] (.ListComp elt [⟨tg, iter, ifs, 0⟩] scope pos) spos) (mSet i (mComp C.L t mi mt me (own.map (·.2)))) := by
  refine PS.le (ps_setLc hc hN hy hyl (sw_true hk hyl hl hna) hi (blkOk_by ok) hg htt he hs) fun D' σ H h => ?_
  exact comp_run (slots_own ht) (set_run hL h)
end
end Gc

namespace Gc
open PySem PySem.Spec PyProof.Rows L2
/-! What is owned is written. -/
def mutO (o : Op) (g : D → Option D) (ρ : Ro) : Option Ro := match o with
  | .val _ => none
  | .plc i => match (ρ[i]?).join with
    | some d => (g d).map fun d' => ρ.set i (some d')
    | none => none
  | .fld i f => match (ρ[i]?).join with
    | some (.obj o c ns ds) => (lookF f ns ds).bind fun d => (g d).map fun d' => ρ.set i (some (.obj o c ns (setF f d' ns ds)))
    | _ => none
section
variable {C : Ctx} {B B' H H' : Hp}
variable {σ : L2.St} {F G0 Os : List Addr} {ρ ρ' : Ro}
/-- a place in a slot is written: what else is owned stands -/
theorem Mch.mutA {i : Nat} {d : D} {v : V} (m : Mch C σ H B F Os ρ) (hv : σ[i]? = some (some v)) (e : (ρ[i]?).join = some d) : ∃ G, Rp C B H d v G ∧ (∀ a ∈ G, B a = none) ∧ (∀ a ∈ G, a ∈ Os) ∧ G.Nodup ∧
    ∀ p u d' G', p ∈ G → Rp C B (upd H p u) d' v G' → G'.Sublist G → ∃ Os', Mch C σ (upd H p u) B F Os' (ρ.set i (some d')) ∧ Ext H B (F ++ Os) (upd H p u) B (F ++ Os') := by
  cases z : ρ[i]? with
  | none => rw [z] at e; cases e
  | some x =>
    rw [z] at e
    have e : x = some d := e
    subst e
    obtain ⟨G, O1, O2, e1, _, g, w⟩ := m.slt.slot z
    subst e1
    obtain ⟨v', h1, h2⟩ := g d rfl
    rw [hv] at h1
    cases h1
    refine ⟨G, h2, fun a h => m.outO a (by simp [h]), fun a h => by simp [h], (List.nodup_append.mp (perm_in.nodup_iff.mp m.nd)).1, fun p u d' G' hp r s => ?_⟩
    have nd := perm_in.nodup_iff.mp m.nd
    have np : ∀ a ∈ F ++ (O1 ++ O2), a ≠ p := fun a h zz => (List.nodup_append.mp nd).2.2 p hp a h zz.symm
    have bp : B p = none := m.outO p (by simp [hp])
    have sub : Sub B (upd H p u) := fun a x ex => by
      by_cases zz : a = p
      · rw [zz, bp] at ex; cases ex
      · rw [upd_ne zz]; exact m.sub a x ex
    obtain ⟨w1, _⟩ := w B (upd H p u) (Sub.refl _) (fun a h => upd_ne (np a (List.mem_append_right _ h)))
    have w1 := w1 d' v G' r
    have es : σ.set i (some v) = σ := set_same hv
    rw [es] at w1
    have s2 : (F ++ (O1 ++ (G' ++ O2))).Sublist (F ++ (O1 ++ (G ++ O2))) := ((s.append_right O2).append_left O1).append_left F
    refine ⟨O1 ++ (G' ++ O2), ⟨w1, m.nd.sublist s2, fun a h => m.out a (s2.subset h), fun a h => ?_, sub, m.pn, m.b0⟩, ⟨fun a x ex n => ?_, fun a h => ?_, Sub.refl _⟩⟩
    · by_cases zz : a = p
      · rw [zz, upd_same]; simp
      · rw [upd_ne zz]; exact m.liv a (s2.subset h)
    · have zz : a ≠ p := fun zz => n (by rw [zz]; simp [hp])
      rw [upd_ne zz]; exact ex
    · rcases h with h | h
      · exact .inl h
      · exact .inr (.inl (s2.subset h))
/-- where an operand's own data lies -/
theorem mut_ok {o : Op} {v : V} {g : D → Option D} (r : RpO C σ B H o v F) (m : Mch C σ H B (F ++ G0) Os ρ) (e : mutO o g ρ = some ρ') : F = [] ∧ ∃ d d' G, rd o ρ = some d ∧ g d = some d' ∧ Rp C B H d v G ∧ (∀ a ∈ G, B a = none) ∧ (∀ a ∈ G, a ∈ Os) ∧ G.Nodup ∧
    ∀ p u G', p ∈ G → Rp C B (upd H p u) d' v G' → G'.Sublist G → ∃ Os', Mch C σ (upd H p u) B G0 Os' ρ' ∧ Ext H B (G0 ++ Os) (upd H p u) B (G0 ++ Os') := by
  cases o with
  | val d => cases e
  | plc i =>
    obtain ⟨h1, rfl⟩ := r
    refine ⟨rfl, ?_⟩
    have e : (match (ρ[i]?).join with | some d => (g d).map fun d' => ρ.set i (some d') | none => none) = some ρ' := e
    cases z : (ρ[i]?).join with
    | none => rw [z] at e; cases e
    | some d =>
      rw [z] at e
      have e : ((g d).map fun d' => ρ.set i (some d')) = some ρ' := e
      cases z2 : g d with
      | none => rw [z2] at e; cases e
      | some d' =>
        rw [z2] at e
        cases e
        have m : Mch C σ H B G0 Os ρ := m
        obtain ⟨G, k1, k2, k3, nG, k4⟩ := m.mutA h1 z
        exact ⟨d, d', G, z, z2, k1, k2, k3, nG, fun p u G' => k4 p u d' G'⟩
  | fld i f =>
    obtain ⟨⟨a, cl, dx, fvs, h1, h2, h3⟩, rfl⟩ := r
    refine ⟨rfl, ?_⟩
    have e : (match (ρ[i]?).join with | some (.obj o c ns ds) => (lookF f ns ds).bind fun d => (g d).map fun d' => ρ.set i (some (.obj o c ns (setF f d' ns ds))) | _ => none) = some ρ' := e
    cases z : (ρ[i]?).join with
    | none => rw [z] at e; cases e
    | some d0 =>
      rw [z] at e
      cases d0 with
      | obj o c ns ds =>
        have e : ((lookF f ns ds).bind fun d => (g d).map fun d' => ρ.set i (some (.obj o c ns (setF f d' ns ds)))) = some ρ' := e
        cases z1 : lookF f ns ds with
        | none => rw [z1] at e; cases e
        | some d =>
          rw [z1] at e
          have e : ((g d).map fun d' => ρ.set i (some (.obj o c ns (setF f d' ns ds)))) = some ρ' := e
          cases z2 : g d with
          | none => rw [z2] at e; cases e
          | some d' =>
            rw [z2] at e
            cases e
            have m : Mch C σ H B G0 Os ρ := m
            obtain ⟨G, k1, k2, k3, nG, k4⟩ := m.mutA h1 z
            obtain ⟨a', cl', dx', vs, F', e1, mm, l, rl, qq⟩ := k1
            cases e1
            have hh : H a = some (.ins cl' dx' (ns.zip vs)) := by
              rcases qq with ⟨_, q2, _⟩ | ⟨_, q2, _⟩
              · exact q2
              · exact m.sub _ _ q2
            rw [hh] at h2
            cases h2
            obtain ⟨v', F1, G1, F2, w1, w2, w3, w4⟩ := RpL.lookW rl z1
            rw [h3] at w1
            cases w1
            subst w3
            have inG : ∀ b ∈ G1, b ∈ G := fun b hb => by
              rcases qq with ⟨_, _, q3⟩ | ⟨_, _, q3⟩
              · rw [q3]; simp [hb]
              · rw [q3]; simp [hb]
            have nG1 : G1.Nodup := by
              rcases qq with ⟨_, _, q3⟩ | ⟨_, _, q3⟩
              · rw [q3] at nG
                exact (List.nodup_append.mp (perm_in.nodup_iff.mp (show ([a] ++ (F1 ++ (G1 ++ F2))).Nodup from nG))).1
              · rw [q3] at nG
                exact (List.nodup_append.mp (perm_in.nodup_iff.mp (show ([] ++ (F1 ++ (G1 ++ F2))).Nodup from nG))).1
            refine ⟨d, d', G1, ?_, z2, w2, fun b hb => k2 b (inG b hb), fun b hb => k3 b (inG b hb), nG1, fun p u G' hp rr s => ?_⟩
            · show (match (ρ[i]?).join with | some (.obj _ _ ns ds) => lookF f ns ds | _ => none) = some d
              rw [z]; exact z1
            have hpG := inG p hp
            rcases qq with ⟨q1, q2, q3⟩ | ⟨q1, q2, q3⟩
            · subst q3
              have nd2 := perm_in.nodup_iff.mp (show ([a] ++ (F1 ++ (G1 ++ F2))).Nodup from nG)
              have np : ∀ b ∈ [a] ++ (F1 ++ F2), b ≠ p := fun b h zz => (List.nodup_append.mp nd2).2.2 p hp b h zz.symm
              refine k4 p u (.obj o c ns (setF f d' ns ds)) (a :: (F1 ++ (G' ++ F2))) hpG ⟨a, cl, dx, vs, F1 ++ (G' ++ F2), rfl, mm, l, w4 B _ (Sub.refl _) (fun b hb => upd_ne (np b (by simp only [List.mem_append] at hb ⊢; exact .inr hb))) d' G' rr, .inl ⟨q1, ?_, rfl⟩⟩ ?_
              · rw [upd_ne (np a (by simp))]; exact q2
              · exact (((s.append_right F2).append_left F1)).cons_cons a
            · subst q3
              have nd2 := perm_in.nodup_iff.mp (show ([] ++ (F1 ++ (G1 ++ F2))).Nodup from nG)
              have np : ∀ b ∈ [] ++ (F1 ++ F2), b ≠ p := fun b h zz => (List.nodup_append.mp nd2).2.2 p hp b h zz.symm
              refine k4 p u (.obj o c ns (setF f d' ns ds)) (F1 ++ (G' ++ F2)) hpG ⟨a, cl, dx, vs, F1 ++ (G' ++ F2), rfl, mm, l, w4 B _ (Sub.refl _) (fun b hb => upd_ne (np b (by simp only [List.mem_append] at hb ⊢; exact .inr hb))) d' G' rr, .inr ⟨q1, q2, rfl⟩⟩ ?_
              exact (s.append_right F2).append_left F1
      | _ => cases e
end
end Gc

namespace Gc
open PySem PySem.Spec PyProof.Rows L2
/-! Methods that write their receiver; stores at an index. -/
section
variable {α β γ δ : Type} {C : Ctx} {W : WX} {σ : L2.St} {q qa qb : Bool} {H B H1 B1 H2 B2 : Hp} {O O1 : List Addr}
theorem un_runX {rep : L2.St → Hp → Hp → α → β → List Addr → Prop} {rep' : L2.St → Hp → Hp → γ → δ → List Addr → Prop} {ma : M α} {f : α → Ro → R γ} {Q : δ → Hp → Prop} {r : β → Hp → Prop} {Os : List Addr} {ρ : Ro} (hq : q = true → qa = true)
    (m : Mch C σ H B [] Os ρ) (k : Kg C W σ q (rep' σ) H B Os ((ma ρ).bind f) Q)
    (hk : ∀ o ρ1 v H1 B1 F Os1, rep σ B1 H1 o v F → Mch C σ H1 B1 F Os1 ρ1 → Ext H B Os H1 B1 (F ++ Os1) → Kg C W σ q (rep' σ) H1 B1 (F ++ Os1) (f o ρ1) Q → r v H1) : tG C W qa rep ma σ H r := by
  refine ⟨B, Os, ρ, m, ?_⟩
  cases e : ma ρ with
  | ok o ρ1 =>
    rw [e] at k
    intro v H1 B1 F Os1 rp m1 e1 q1
    exact hk o ρ1 v H1 B1 F Os1 rp m1 e1 (Kg.step e1 m1.out (fun z => q1 (hq z)) (fun a ha => m.liv a ha) k)
  | exc x ρ1 =>
    rw [e] at k
    intro cls dd H1 B1 Os1 xr m1 e1
    exact k cls dd H1 B1 Os1 xr m1 e1
  | bad =>
    rw [e] at k
    exact k
theorem op_runX {rep2 : L2.St → Hp → Hp → α → β → List Addr → Prop} {rep' : L2.St → Hp → Hp → γ → δ → List Addr → Prop} {ma : M Op} {mb : M α} {f : Op → α → Ro → R γ} {Q : δ → Hp → Prop} {r : V → β → Hp → Prop} {ck : D → Bool} {P : V → Hp → Prop} {Os : List Addr} {ρ : Ro} (hqa : q = true → qa = true) (hqb : q = true → qb = true)
    (m : Mch C σ H B [] Os ρ) (k : Kg C W σ q (rep' σ) H B Os ((ma ρ).bind fun oa ρ1 => if okG oa qb = true ∧ ((rd oa ρ1).map ck) = some true then (mb ρ1).bind fun ob ρ2 => f oa ob ρ2 else .bad) Q)
    (hP : ∀ d x H1 B1 G, Sub B1 H1 → Rp C B1 H1 d x G → ck d = true → P x H1)
    (hk : ∀ oa ob ρ2 x y H2 B2 Fa Fb Os2, RpO C σ B2 H2 oa x Fa → rep2 σ B2 H2 ob y Fb → Mch C σ H2 B2 (Fa ++ Fb) Os2 ρ2 → Sub B B2 → Kg C W σ q (rep' σ) H2 B2 ((Fa ++ Fb) ++ Os2) (f oa ob ρ2) Q → r x y H2) :
    tM C W qa ma σ H fun x H1 => P x H1 ∧ tG C W qb rep2 mb σ H1 fun y H2 => r x y H2 := by
  refine un_runX (rep := repO C) hqa m k fun oa ρ1 x H1 B1 Fa Os1 ra m1 e1 k => ?_
  by_cases g0 : okG oa qb = true ∧ ((rd oa ρ1).map ck) = some true
  · obtain ⟨g, gc⟩ := g0
    rw [if_pos ⟨g, gc⟩] at k
    constructor
    · cases e : rd oa ρ1 with
      | none => rw [e] at gc; cases gc
      | some d =>
        rw [e] at gc
        obtain ⟨G, rp⟩ := rd_rep (G := []) ra (by rw [List.append_nil]; exact m1) e
        exact hP d x H1 B1 G m1.sub rp (Option.some.inj gc)
    refine ⟨B1, Os1, ρ1, m1.drop, ?_⟩
    cases e : mb ρ1 with
    | ok ob ρ2 =>
      rw [e] at k
      intro y H2 B2 Fb Os2 rb m2 e2 q2
      have m3 := m1.and e2 m2
      refine hk oa ob ρ2 x y H2 B2 Fa Fb Os2 (ra.held m1 e2 g q2) rb m3 (e1.sub.trans e2.sub) ?_
      refine Kg.step (e := (e2.beside (F := Fa)).less (fun a ha => by rw [← List.append_assoc]; exact ha)) m3.out (fun z a ha => ?_) m1.liv k
      rcases List.mem_append.mp ha with ha | ha
      · exact m1.held e2 a ha
      · exact q2 (hqb z) a ha
    | exc x' ρ2 =>
      rw [e] at k
      intro cls dd H2 B2 Os2 xr m2 e2
      exact k cls dd H2 B2 Os2 xr m2 ((e2.beside (F := Fa)).less fun a ha => List.mem_append_right _ ha)
    | bad =>
      rw [e] at k
      exact k
  · rw [if_neg g0] at k
    exact k.elim
theorem op_run {rep2 : L2.St → Hp → Hp → α → β → List Addr → Prop} {rep' : L2.St → Hp → Hp → γ → δ → List Addr → Prop} {ma : M Op} {mb : M α} {f : Op → α → Ro → R γ} {Q : δ → Hp → Prop} {r : V → β → Hp → Prop} {ck : D → Bool} {P : V → Hp → Prop} (hqa : q = true → qa = true) (hqb : q = true → qb = true)
    (h : tG C W q rep' (fun ρ => (ma ρ).bind fun oa ρ1 => if okG oa qb = true ∧ ((rd oa ρ1).map ck) = some true then (mb ρ1).bind fun ob ρ2 => f oa ob ρ2 else .bad) σ H Q)
    (hP : ∀ d x H1 B1 G, Sub B1 H1 → Rp C B1 H1 d x G → ck d = true → P x H1)
    (hk : ∀ oa ob ρ2 x y H2 B2 Fa Fb Os2, RpO C σ B2 H2 oa x Fa → rep2 σ B2 H2 ob y Fb → Mch C σ H2 B2 (Fa ++ Fb) Os2 ρ2 → Kg C W σ q (rep' σ) H2 B2 ((Fa ++ Fb) ++ Os2) (f oa ob ρ2) Q → r x y H2) :
    tM C W qa ma σ H fun x H1 => P x H1 ∧ tG C W qb rep2 mb σ H1 fun y H2 => r x y H2 := by
  obtain ⟨B, Os, ρ, m, k⟩ := h
  exact op_runX hqa hqb m k hP fun oa ob ρ2 x y H2 B2 Fa Fb Os2 ra rb m2 _ k2 => hk oa ob ρ2 x y H2 B2 Fa Fb Os2 ra rb m2 k2
end
def isPl : Op → Bool
  | .val _ => false
  | _ => true
def mMeth (qs : Bool) (ck : D → Bool) (g : D → List D → Option (D × D)) (mo : M Op) (ms : M (List Op)) : M Op := fun ρ => (mo ρ).bind fun o ρ1 => if okG o qs = true ∧ ((rd o ρ1).map ck) = some true then (ms ρ1).bind fun os ρ2 => (match frOs os ρ2 with
  | some (ds, ρ3) => (match (rd o ρ3).bind fun d => g d ds with
    | some (x, _) => (match mutO o (fun d => (g d ds).map (·.2)) ρ3 with
      | some ρ4 => .ok (.val x) ρ4
      | none => .bad)
    | none => .bad)
  | none => .bad) else .bad
/-- what a method that writes does -/
def Pm (C : Ctx) (r : V → List V → Hp → VK → Prop) (g : D → List D → Option (D × D)) : Prop :=
  ∀ (B H : Hp) (d : D) (v : V) (G : List Addr) (ds : List D) (vs : List V) (x d' : D) (Q : VK), Sub B H → Rp C B H d v G → G.Nodup → (∀ a ∈ G, B a = none) → RpL C B H ds vs [] → isFzL ds = true → g d ds = some (x, d') →
    (∀ z p u G', p ∈ G → Rp C B (upd H p u) d' v G' → G'.Sublist G → Rp C B (upd H p u) x z [] → Q z (upd H p u)) → r v vs H Q
section
variable {X : Cx} {C : Ctx} {W : WX} {q qo qs : Bool} {σ : L2.St} {H : Hp} {Q : VK}
theorem meth_run {r : V → List V → Hp → VK → Prop} {g : D → List D → Option (D × D)} {mo : M Op} {ms : M (List Op)} {ck : D → Bool} {P : V → Hp → Prop} (hp : Pm C r g) (hP : ∀ d x H1 B1 G, Sub B1 H1 → Rp C B1 H1 d x G → ck d = true → P x H1) (h : tM C W false (mMeth qs ck g mo ms) σ H Q) :
    tM C W qo mo σ H fun x H1 => P x H1 ∧ tMs C W qs ms σ H1 fun xs H2 => r x xs H2 Q := by
  refine op_run (rep2 := repOs C) (fun z => by cases z) (fun z => by cases z) h hP fun o os ρ2 v vs H2 B2 Fa Fb Os2 ro rs m k => ?_
  cases z : frOs os ρ2 with
  | none => rw [z] at k; exact k.elim
  | some p =>
    obtain ⟨ds, ρ3⟩ := p
    rw [z] at k
    have k : Kg C W σ false (repO C σ) H2 B2 ((Fa ++ Fb) ++ Os2) (match (rd o ρ3).bind fun d => g d ds with
      | some (x, _) => (match mutO o (fun d => (g d ds).map (·.2)) ρ3 with
        | some ρ4 => .ok (.val x) ρ4
        | none => .bad)
      | none => .bad) Q := k
    cases zg : (rd o ρ3).bind fun d => g d ds with
    | none => rw [zg] at k; exact k.elim
    | some p =>
      obtain ⟨x, d1⟩ := p
      rw [zg] at k
      have k : Kg C W σ false (repO C σ) H2 B2 ((Fa ++ Fb) ++ Os2) (match mutO o (fun d => (g d ds).map (·.2)) ρ3 with
        | some ρ4 => .ok (.val x) ρ4
        | none => .bad) Q := k
      cases zm : mutO o (fun d => (g d ds).map (·.2)) ρ3 with
      | none => rw [zm] at k; exact k.elim
      | some ρ4 =>
        rw [zm] at k
        have fe : Fa = [] := by
          cases o with
          | val d => cases zm
          | plc i => exact ro.2
          | fld i f => exact ro.2
        subst fe
        obtain ⟨B3, O3, rl, fl, m3, e3⟩ := frOs_ok (G := []) rs (show Mch C σ H2 B2 (Fb ++ []) Os2 ρ2 by rw [List.append_nil]; exact m) z
        have e3 : Ext H2 B2 (Fb ++ Os2) H2 B3 O3 := by rw [List.append_nil] at e3; exact e3
        have ro3 := ro.up e3.sub
        obtain ⟨_, d, d', G, g0, g1, g2, g3, g4, gn, g5⟩ := mut_ok (G0 := []) ro3 m3 zm
        rw [g0] at zg
        have zg : g d ds = some (x, d1) := zg
        have g1 : (g d ds).map (·.2) = some d' := g1
        rw [zg] at g1
        have g1 : d1 = d' := Option.some.inj g1
        subst g1
        refine hp B3 H2 d v G ds vs x d1 Q m3.sub g2 gn g3 rl fl zg fun zv p u G' hpG rr s xr => ?_
        obtain ⟨O4, m4, e4⟩ := g5 p u G' hpG rr s
        exact k zv _ B3 [] O4 xr m4 (e3.trans m3.out e4) fun hh => by cases hh
/-! ### lists -/
def isLst : D → Bool
  | .lst _ _ => true
  | _ => false
theorem ty_lst {C : Ctx} {K : PySem.W.Frag} : ∀ d x (H1 B1 : Hp) G, Sub B1 H1 → Rp C B1 H1 d x G → isLst d = true → tyV K "list" x H1 := fun d x H1 B1 G s r e => by
  cases d with
  | lst o ds =>
    obtain ⟨a, vs, F', rfl, rl, q⟩ := r
    refine .inl ⟨rfl, vs, .inl (.inl ?_)⟩
    rcases q with ⟨_, q2, _⟩ | ⟨_, q2, _⟩
    · exact q2
    · exact s _ _ q2
  | _ => cases e
def gApp : D → List D → Option (D × D)
  | .lst true ds, [x] => if ds.length < lim then some (.non, .lst true (ds ++ [x])) else none
  | _, _ => none
theorem RpL.one {C : Ctx} {B H : Hp} {d : D} {vs : List V} (h : RpL C B H [d] vs []) : ∃ v, vs = [v] ∧ Rp C B H d v [] := by
  obtain ⟨v, vs', F1, F2, e1, e2, p, q⟩ := h
  obtain ⟨rfl, rfl⟩ := q
  have e3 : F1 = [] := by
    cases F1 with
    | nil => rfl
    | cons a l => cases e2
  subst e3
  exact ⟨v, e1, p⟩
/-- an owned list: its own place, the rest -/
theorem lst_upd {C : Ctx} {B H : Hp} {a : Addr} {ds : List D} {vs : List V} {F' : List Addr} (u : HO) (nd : (a :: F').Nodup) (r : RpL C B H ds vs F') : RpL C B (upd H a u) ds vs F' :=
  RpL.frame (Sub.refl _) (fun b hb => upd_ne (fun z => (List.nodup_cons.mp nd).1 (z ▸ hb))) r
theorem pm_append {C : Ctx} : Pm C rAppend gApp := fun B H d v G ds vs x d' Q s r nd out rl fl e k => by
  cases d with
  | lst o cs =>
    cases o with
    | false => cases e
    | true =>
      cases ds with
      | nil => cases e
      | cons y r2 =>
        cases r2 with
        | cons _ _ => cases e
        | nil =>
          have e : (if cs.length < lim then some (D.non, D.lst true (cs ++ [y])) else none) = some (x, d') := e
          by_cases hz : cs.length < lim
          · rw [if_pos hz] at e
            cases e
            obtain ⟨yv, rfl, ry⟩ := rl.one
            obtain ⟨a, ws, F', rfl, rc, q⟩ := r
            rcases q with ⟨_, q2, rfl⟩ | ⟨q1, _, _⟩
            · have fy : isFz y = true := by
                have : (isFz y && true) = true := fl
                simpa using this
              refine ⟨a, ws, yv, rfl, rfl, q2, by rw [RpL.len rc, sizeLine_eq]; exact hz, k .non a _ (a :: F') List.mem_cons_self ?_ (List.Sublist.refl _) ⟨rfl, rfl⟩⟩
              refine ⟨a, ws ++ [yv], F' ++ [], rfl, RpL.app (lst_upd _ nd rc) (show RpL C B _ [y] [yv] [] from ⟨yv, [], [], [], rfl, rfl, Rp.frame (Sub.refl _) (fun _ h => by cases h) ry, rfl, rfl⟩), .inl ⟨rfl, upd_same, by rw [List.append_nil]⟩⟩
            · cases q1
          · rw [if_neg hz] at e; cases e
  | _ => cases e
theorem se_append {o e : Expr} {apos pos : Pos} {mo : M Op} {ms : M (List Op)} (ho : SE X C W qo o mo) (ha : SA X C W qs [e] ms)
    (hbase : attributeBase o "append" X.env (eval o X.env) = eval o X.env := by rfl)
    (hfew : ((backTo pos (starEach [e] X.env)).all (fun x => !x.1) && (backToKw pos (keywordEach [] X.env)).all (fun x => x.1.isSome)
      && decide (([e] : List Expr).length + ([] : List Keyword).length + (if ([] : List Keyword).isEmpty then 0 else 1) < 30)) = true := by rfl)
    (hline : (apos.endLine == pos.line) = true := by rfl) (hs : starEach [e] X.env = (false, eval e X.env) :: starEach [] X.env := by rfl) (hplain : (backTo pos (starEach [] X.env)).any (·.1) = false := by rfl) :
    SE X C W false (.Call (.Attribute o "append" apos) [e] [] pos) (mMeth qs isLst gApp mo ms) :=
  PE.le (pe_bm PySem.F.plainAttrs_list PySem.F.slot_list_append PySem.F.type_list_append mt_append ho ha hbase hfew hline hs hplain) fun σ H Q h => meth_run pm_append ty_lst h
/-! ### o[i] = e -/
def anyD : D → Bool := fun _ => true
def mPutAt (qi : Bool) (g : D → D → D → Option D) (me mo mi : M Op) : M Op := fun ρ => (me ρ).bind fun oe ρ1 => match frO oe ρ1 with
  | some (x, ρ2) => (mo ρ2).bind fun oo ρ3 => if okG oo qi = true ∧ ((rd oo ρ3).map anyD) = some true then (mi ρ3).bind fun oi ρ4 => (match rd oi ρ4 with
    | some i => (match mutO oo (fun d => g d i x) ρ4 with
      | some ρ5 => .ok (.val .non) ρ5
      | none => .bad)
    | none => .bad) else .bad
  | none => .bad
/-- what a store at an index does -/
def Pst (C : Ctx) (r : TSet) (g : D → D → D → Option D) : Prop :=
  ∀ (B H : Hp) (d : D) (o : V) (G : List Addr) (i : D) (iv : V) (Gi : List Addr) (x : D) (xv : V) (d' : D) (Q : Hp → Prop), Sub B H → Rp C B H d o G → G.Nodup → (∀ a ∈ G, B a = none) → Rp C B H i iv Gi → Rp C B H x xv [] → isFz x = true → g d i x = some d' →
    (∀ p u G', p ∈ G → Rp C B (upd H p u) d' o G' → G'.Sublist G → Q (upd H p u)) → r o iv xv H Q
theorem putAt_run {r : TSet} {g : D → D → D → Option D} {qe qi : Bool} {me mo mi : M Op} {Q : Hp → Prop} (hp : Pst C r g) (h : tM C W false (mPutAt qi g me mo mi) σ H fun _ => Q) :
    tM C W qe me σ H fun x H1 => tM C W qo mo σ H1 fun o H2 => tM C W qi mi σ H2 fun i H3 => r o i x H3 Q := by
  refine un_run (rep := repO C) (fun z => by cases z) h fun oe ρ1 xv H1 B1 F Os1 re m1 k => ?_
  cases z : frO oe ρ1 with
  | none => rw [z] at k; exact k.elim
  | some pp =>
    obtain ⟨x, ρ2⟩ := pp
    rw [z] at k
    obtain ⟨B2, O2, rx, fx, m2, e2⟩ := frO_ok (G := []) re (by rw [List.append_nil]; exact m1) z
    have e2 : Ext H1 B1 (F ++ Os1) H1 B2 O2 := by rw [List.append_nil] at e2; exact e2
    have k2 := Kg.step e2 m2.out (fun z => by cases z) m1.liv k
    have key := op_runX (rep2 := repO C) (qa := qo) (qb := qi) (P := fun _ _ => True) (r := fun o i H3 => r o i xv H3 Q) (ck := anyD) (mb := mi) (fun z => by cases z) (fun z => by cases z) m2 k2 (fun _ _ _ _ _ _ _ _ => trivial) fun oo oi ρ4 o iv H4 B4 Fa Fb O4 ro ri m4 s4 k4 => ?_
    · obtain ⟨B5, O5, ρ5, m5, k5⟩ := key
      refine ⟨B5, O5, ρ5, m5, ?_⟩
      cases y : mo ρ5 with
      | ok o9 ρ9 =>
        rw [y] at k5
        exact fun v H' B' F Os' rp m e qq => (k5 v H' B' F Os' rp m e qq).2
      | exc x9 ρ9 => rw [y] at k5; exact k5
      | bad => rw [y] at k5; exact k5
    · cases zi : rd oi ρ4 with
      | none => simp only [zi] at k4; exact k4.elim
      | some i =>
        simp only [zi] at k4
        cases zm : mutO oo (fun d => g d i x) ρ4 with
        | none => simp only [zm] at k4; exact k4.elim
        | some ρ6 =>
          simp only [zm] at k4
          have fe : Fa = [] := by
            cases oo with
            | val d => cases zm
            | plc i => exact ro.2
            | fld i f => exact ro.2
          subst fe
          have m4' : Mch C σ H4 B4 (Fb ++ []) O4 ρ4 := by rw [List.append_nil]; exact m4
          obtain ⟨Gi, ri⟩ := rd_rep ri m4' zi
          have m4'' : Mch C σ H4 B4 [] O4 ρ4 := m4.drop
          obtain ⟨_, d, d', G, g0, g1, g2, g3, g4, gn, g5⟩ := mut_ok (G0 := []) ro m4'' zm
          refine hp B4 H4 d o G i iv Gi x xv d' Q m4.sub g2 gn g3 ri (Rp.fixed fx rx s4) fx g1 fun p u G' hpG rr s => ?_
          obtain ⟨O6, m6, e6⟩ := g5 p u G' hpG rr s
          refine k4 .non _ B4 [] O6 ⟨rfl, rfl⟩ m6 ?_ fun z => by cases z
          exact (Ext.refl.less (fun a ha => List.mem_append_right _ ha)).trans m4''.out e6
theorem ss_putAt {r : TSet} {g : D → D → D → Option D} {qe qi : Bool} {o i e : Expr} {tp pos : Pos} {me mo mi : M Op} (hs0 : PSet X r) (hp : Pst C r g) (he : SE X C W qe e me) (ho : SE X C W qo o mo) (hi : SE X C W qi i mi)
    (ha : ∀ v, assign (.Subscript o i tp) X.env v = (do
      let ov ← holding [v] (eval o X.env)
      let iv ← holding [v, ov] (eval i X.env)
      standAt tp
      holding [v, ov, iv] (setItem ov iv v)
      release [v, ov, iv] []) := by intro _; rfl) (hs : swapsWithSole [.Subscript o i tp] e pos.line X.env = pure false := by rfl) (hw : swappedStores [.Subscript o i tp] e X.env = pure none := by rfl)
    (h1 : (assignEach [.Subscript o i tp] X.env).map (·.2) = [assign (.Subscript o i tp) X.env] := by rfl) : SS X C W (.Assign [.Subscript o i tp] e pos) (mDrop (mPutAt qi g me mo mi)) :=
  PS.le (ps_asg he (pg_sub ho hi hs0 ha) hs hw h1) fun D' σ H h => putAt_run hp (s_run (rep := repO C) (q := false) h fun o1 ρ1 v H1 B1 F Os1 rp m1 k => k σ H1 B1 Os1 m1.drop Ext.weak)
def gSetL : D → D → D → Option D
  | .lst true ds, .int k, x => (ixN ds.length k).map fun j => .lst true (ds.set j x)
  | _, _, _ => none
theorem RpL.setz {C : Ctx} {B H : Hp} {x : D} {xv : V} : ∀ {ds : List D} {vs : List V} {F : List Addr} (j : Nat), Rp C B H x xv [] → RpL C B H ds vs F → ∃ F', F'.Sublist F ∧ RpL C B H (ds.set j x) (vs.set j xv) F'
  | [], _, _, j, _, h => by
    obtain ⟨rfl, rfl⟩ := h
    exact ⟨[], List.Sublist.refl _, ⟨rfl, rfl⟩⟩
  | d :: ds, vs, F, 0, rx, h => by
    obtain ⟨v, vs', F1, F2, rfl, rfl, p, q⟩ := h
    exact ⟨F2, List.sublist_append_right _ _, ⟨xv, vs', [], F2, rfl, rfl, rx, q⟩⟩
  | d :: ds, vs, F, j + 1, rx, h => by
    obtain ⟨v, vs', F1, F2, rfl, rfl, p, q⟩ := h
    obtain ⟨F', s, r⟩ := RpL.setz j rx q
    exact ⟨F1 ++ F', s.append_left F1, ⟨v, _, F1, F', rfl, rfl, p, r⟩⟩
theorem pst_list {C : Ctx} : Pst C rSetL gSetL := fun B H d o G i iv Gi x xv d' Q s r nd out ri rx fx e k => by
  cases d with
  | lst ow cs =>
    cases ow with
    | false => cases e
    | true =>
      cases i with
      | int n =>
        obtain ⟨rfl, rfl⟩ := ri
        have e : ((ixN cs.length n).map fun j => D.lst true (cs.set j x)) = some d' := e
        obtain ⟨a, ws, F', rfl, rc, q⟩ := r
        rcases q with ⟨_, q2, rfl⟩ | ⟨q1, _, _⟩
        · cases zj : ixN cs.length n with
          | none => rw [zj] at e; cases e
          | some j =>
            rw [zj] at e
            cases e
            obtain ⟨F2, s2, r2⟩ := RpL.setz (x := x) (xv := xv) j (Rp.frame (Sub.refl _) (fun _ h => by cases h) rx) (lst_upd (.lst (ws.set j xv)) nd rc)
            exact ⟨a, ws, n, j, rfl, rfl, q2, by rw [RpL.len rc]; exact zj, k a _ (a :: F2) List.mem_cons_self ⟨a, _, F2, rfl, r2, .inl ⟨rfl, upd_same, rfl⟩⟩ (s2.cons_cons a)⟩
        · cases q1
      | _ => cases e
  | _ => cases e
end
end Gc

namespace Gc
open PySem PySem.Spec PyProof.Rows L2
/-! Own exceptions: raised, caught. -/
/-- what __init__(self, ..) keeps, that stores its parameters one by one -/
def spI (K : PySem.W.Frag) (C : Addr) : List Str → Sp
  | [f] => fun vs H Q _ => ∃ a y, vs = [.ref a, y] ∧ OexC K C ∧ H a = some (exo a C none) ∧ ∀ dx, H dx = none → dx ≠ a → Q .non (upd (upd H dx (exd dx [(f, y)])) a (exo a C (some dx)))
  | [f, g] => fun vs H Q _ => ∃ a y z, vs = [.ref a, y, z] ∧ OexC K C ∧ H a = some (exo a C none) ∧ ∀ dx, H dx = none → dx ≠ a → Q .non (upd (upd (upd H dx (exd dx [(f, y)])) a (exo a C (some dx))) dx (exd dx [(g, z), (f, y)]))
  | _ => fun _ _ _ _ => False
section
variable {P : Program} {w : World} {K : PySem.W.Frag} {mg : Str → Option Value} {base : Heap}
theorem init1 {x qual : Str} {st : Stmt} {f C : Addr} {fd : FuncData} {k : Nat} {g p1 : Str} {q1 q2 q3 q4 : Pos} (F : Fun K x qual st f fd) (S : FnScope ["self", p1] ["self", p1] (defScope st)) (hs : defBody st = [.Assign [.Attribute (.Name "self" q1) g q2] (.Name p1 q3) q4])
    (hno : PySem.W.findIn K (.ref C) g = some none) (v0 : Vis (defScope st) "self") (v1 : Vis (defScope st) p1) (d1 : (p1 == ("__debug__" : Str)) = false := by decide) (d2 : (p1 == ("__classdict__" : Str)) = false := by decide) :
    FnOk P w K mg base (L2.CX P w) (k + 1) f fd ["self", p1] (spI K C [g]) := by
  refine F.okX S (fun vs H Q E h => ?_) fun cdv A outer s H vs Q E hr h => ?_
  · obtain ⟨a, y, rfl, _⟩ := h
    rfl
  · rw [hs]
    refine ⟨_, pss_one (ps_ost (pe_var (i := 0) rfl v0) (pe_var (i := 1) rfl v1 d1 d2)), ?_⟩
    obtain ⟨a, y, rfl, T, ha, q⟩ := h
    exact ⟨y, rfl, .ref a, rfl, a, C, rfl, T, hno, .inl ⟨ha, fun dx n ne => q dx n ne⟩⟩
theorem init2 {x qual : Str} {st : Stmt} {f C : Addr} {fd : FuncData} {k : Nat} {g1 g2 p1 p2 : Str} {q1 q2 q3 q4 q5 q6 q7 q8 : Pos} (F : Fun K x qual st f fd) (S : FnScope ["self", p1, p2] ["self", p1, p2] (defScope st))
    (hs : defBody st = [.Assign [.Attribute (.Name "self" q1) g1 q2] (.Name p1 q3) q4, .Assign [.Attribute (.Name "self" q5) g2 q6] (.Name p2 q7) q8])
    (hno : PySem.W.findIn K (.ref C) g1 = some none) (hno2 : PySem.W.findIn K (.ref C) g2 = some none) (v0 : Vis (defScope st) "self") (v1 : Vis (defScope st) p1) (v2 : Vis (defScope st) p2) (d1 : (p1 == ("__debug__" : Str)) = false := by decide) (d2 : (p1 == ("__classdict__" : Str)) = false := by decide)
    (d3 : (p2 == ("__debug__" : Str)) = false := by decide) (d4 : (p2 == ("__classdict__" : Str)) = false := by decide) :
    FnOk P w K mg base (L2.CX P w) (k + 1) f fd ["self", p1, p2] (spI K C [g1, g2]) := by
  refine F.okX S (fun vs H Q E h => ?_) fun cdv A outer s H vs Q E hr h => ?_
  · obtain ⟨a, y, z, rfl, _⟩ := h
    rfl
  · rw [hs]
    refine ⟨_, pss_cons (ps_ost (pe_var (i := 0) rfl v0) (pe_var (i := 1) rfl v1 d1 d2)) (pss_one (ps_ost (pe_var (i := 0) rfl v0) (pe_var (i := 2) rfl v2 d3 d4))), ?_⟩
    obtain ⟨a, y, z, rfl, T, ha, q⟩ := h
    refine ⟨y, rfl, .ref a, rfl, a, C, rfl, T, hno, .inl ⟨ha, fun dx n ne => ?_⟩⟩
    refine ⟨z, rfl, .ref a, rfl, a, C, rfl, T, hno2, .inr ⟨dx, [(g1, y)], upd_same, ?_, (by show (1 : Nat) ≤ 900; decide), q dx n ne⟩⟩
    rw [upd_ne ne]
    exact upd_same
end
theorem PX.xd {C : Ctx} {H B : Hp} {p : Addr} {fs : List (Str × V)} (s : Sub B H) (n : H p = none) : PX C H B .non .non (upd H p (.xd fs)) (upd B p (.xd fs)) [] := by
  have bp : B p = none := by
    cases e : B p with
    | none => rfl
    | some u => rw [s _ _ e] at n; cases n
  refine ⟨⟨rfl, rfl⟩, upd_keep n, fun a e => ?_, upd_keep bp, fun a u e => ?_, List.nodup_nil, fun a h => by cases h⟩
  · rcases e with e | e
    · by_cases z : a = p
      · rw [z]; exact .inr n
      · rw [upd_ne z] at e; exact .inl e
    · cases e
  · by_cases z : a = p
    · rw [z, upd_same] at e ⊢; exact e
    · rw [upd_ne z] at e ⊢; exact s a u e
/-- raise c(e, ..), the fields by the parameters -/
def mRaise (c : Str) (ns : List Str) (ms : M (List Op)) : MS := fun ρ => (ms ρ).toS fun os ρ1 => match frOs os ρ1 with
  | some (ds, ρ2) => if ds.length = ns.length then .exc ⟨c, ns.reverse, ds.reverse⟩ ρ2 else .bad
  | none => .bad
section
variable {X : Cx} {C : Ctx} {W : WX} {q qs : Bool} {e : Expr} {es : List Expr} {ms : M (List Op)} {p pos pos' : Pos}
theorem raise_run {A : Addr} {c : Str} {ns : List Str} {D' : Ends} {σ : L2.St} {H : Hp} (hc : C.mg c = some (.ref A)) (hO : OexC C.K A) (hn : ns.length = 1 ∨ ns.length = 2) (h : tS C W (mRaise c ns ms) D' σ H) :
    tMs C W qs ms σ H fun vs H1 => vs.length ≤ 1000 ∧ ∀ a, H1 a = none → spI C.K A ns (.ref a :: (vs ++ [])) (upd H1 a (exo a A none)) (fun v H2 => v = .non ∧ ∃ (d : Addr) (fs : List (Str × V)), H2 a = some (exo a A (some d)) ∧ H2 d = some (exd d fs) ∧ H1 d = none ∧ W (.ref A) (some d) σ (upd (del H2 a) d (.xd fs))) (fun _ _ _ => False) := by
  refine s_run (rep := repOs C) h fun os ρ1 vs H1 B1 F Os1 ra m1 k => ?_
  cases z : frOs os ρ1 with
  | none => rw [z] at k; exact k.elim
  | some pp =>
    obtain ⟨ds, ρ2⟩ := pp
    rw [z] at k
    have k : Ks C W H1 B1 (F ++ Os1) (if ds.length = ns.length then .exc ⟨c, ns.reverse, ds.reverse⟩ ρ2 else .bad) D' := k
    obtain ⟨B2, O2, rl, fl, m2, e2⟩ := frOs_ok (G := []) ra (by rw [List.append_nil]; exact m1) z
    have e2 : Ext H1 B1 (F ++ Os1) H1 B2 O2 := by rw [List.append_nil] at e2; exact e2
    by_cases hl : ds.length = ns.length
    · rw [if_pos hl] at k
      have lv := RpL.len rl
      have fin : ∀ (dx : Addr) (fs : List (Str × V)) (us : List V), H1 dx = none → fs = ns.reverse.zip us → us.length = ns.length → RpL C B2 H1 ds.reverse us [] → W (.ref A) (some dx) σ (upd H1 dx (.xd fs)) := fun dx fs us n ef lu ru => by
        have px : PX C H1 B2 .non .non (upd H1 dx (.xd fs)) (upd B2 dx (.xd fs)) [] := PX.xd m2.sub n
        obtain ⟨m3, e3, _⟩ := m2.pure px
        have fr : isFzL ds.reverse = true := isFzL_iff.mpr fun d hd => isFzL_iff.mp fl d (List.mem_reverse.mp hd)
        refine k (.ref A) (some dx) σ _ _ O2 ⟨A, dx, us, rfl, hc, rfl, by rw [upd_same, ef], by rw [List.length_reverse]; exact lu.symm, RpL.fixed fr ru px.sub, fr⟩ m3 (e2.trans m2.out e3)
      have norm : ∀ {a dx : Addr} {u : HO} {H0 : Hp}, H1 a = none → H0 a = none → (∀ b, b ≠ a → b ≠ dx → H0 b = H1 b) → upd H0 dx u = upd H1 dx u := fun {a dx u H0} na n0 h0 => by
        funext b
        by_cases z : b = dx
        · rw [z, upd_same, upd_same]
        · rw [upd_ne z, upd_ne z]
          by_cases z2 : b = a
          · rw [z2, n0, na]
          · exact h0 b z2 z
      rcases hn with hn | hn
      · match ns, hn with
        | [f], _ =>
          match ds, hl with
          | [d], _ =>
            obtain ⟨y, rfl, ry⟩ := rl.one
            refine ⟨(by show (1 : Nat) ≤ 1000; decide), fun a na => ⟨a, y, rfl, hO, upd_same, fun dx nd ne => ⟨rfl, dx, [(f, y)], upd_same, ?_, ?_, ?_⟩⟩⟩
            · rw [upd_ne ne, upd_same]
            · rw [upd_ne ne] at nd; exact nd
            · have nd' : H1 dx = none := by rw [upd_ne ne] at nd; exact nd
              rw [norm (a := a) na del_same (fun b h1 h2 => by rw [del_ne h1, upd_ne h1, upd_ne h2, upd_ne h1])]
              exact fin dx _ [y] nd' rfl rfl rl
      · match ns, hn with
        | [f, g], _ =>
          match ds, hl with
          | [d1, d2], _ =>
            obtain ⟨y, vs', F1, F2, rfl, ef, ry, rl'⟩ := rl
            have e1 : F1 = [] := (List.append_eq_nil_iff.mp ef.symm).1
            have e2 : F2 = [] := (List.append_eq_nil_iff.mp ef.symm).2
            subst e1
            subst e2
            obtain ⟨z, rfl, rz⟩ := rl'.one
            refine ⟨(by show (2 : Nat) ≤ 1000; decide), fun a na => ⟨a, y, z, rfl, hO, upd_same, fun dx nd ne => ⟨rfl, dx, [(g, z), (f, y)], ?_, upd_same, ?_, ?_⟩⟩⟩
            · rw [upd_ne (Ne.symm ne), upd_same]
            · rw [upd_ne ne] at nd; exact nd
            · have nd' : H1 dx = none := by rw [upd_ne ne] at nd; exact nd
              rw [norm (a := a) na del_same (fun b h1 h2 => by rw [del_ne h1, upd_ne h2, upd_ne h1, upd_ne h2, upd_ne h1])]
              exact fin dx _ [z, y] nd' rfl rfl ⟨z, [y], [], [], rfl, rfl, rz, ⟨y, [], [], [], rfl, rfl, ry, rfl, rfl⟩⟩
    · rw [if_neg hl] at k; exact k.elim
theorem ss_raise {A fI : Addr} {k : Nat} {fd : FuncData} {ps : List Str} {x : Str} {ns : List Str} (hcalm : X.calm = true) (on : On X C W) (T : OexC X.K A) (iC : PySem.W.findIn X.K (.ref A) "__init__" = some (some (.ref fI))) (tI : PySem.W.typeIn X.K (.ref fI) = some (.type "function"))
    (F1 : FnOk X.prog X.w X.K X.mg X.base (L2.CX X.prog X.w) k fI fd ps (spI X.K A ns)) (hr : Room (k + 1) X.A) (hb : Binds X.K fd ps []) (hg : Gl X x) (hm : X.mg x = some (.ref A)) (ha : SA X C W qs (e :: es) ms) (hn : ns.length = 1 ∨ ns.length = 2)
    (hdb : (x == ("__debug__" : Str)) = false := by decide) (he : starEach (e :: es) X.env = (false, eval e X.env) :: starEach es X.env := by rfl) (hpl : (backTo pos (starEach es X.env)).any (·.1) = false := by rfl) :
    SS X C W (.Raise (some (.Call (.Name x p) (e :: es) [] pos)) none pos') (mRaise x ns ms) := by
  refine PS.le (ps_raise hcalm on.tk (pmk_oex T iC tI F1 hr hb .nil (passes_call (E := fun _ _ _ => False) (W := fun _ _ _ _ => False) takes0 fun _ _ _ _ h => h) hg hm ha hdb he hpl)) fun D' σ H h => ?_
  have z := raise_run (qs := qs) (A := A) (by rw [← on.mg]; exact hm) (by rw [← on.K]; exact T) hn h
  rw [← on.K] at z
  exact z
end
end Gc

namespace Gc
open PySem PySem.Spec PyProof.Rows L2
/-! try: several clauses, each with a name. -/
/-- what the clauses wish -/
def wAll (K : PySem.W.Frag) (Wo : WX) (En : Ends) : List (Value × Nat × (Addr → Value → Option Addr → TS)) → WX
  | [] => Wo
  | (c, i, ts) :: r => fun cl dd τ G => ∃ b, PySem.W.exmOne K cl c = some b ∧
      (b = true → ∀ xa, G xa = none → ts xa cl dd { nx := fun τ' G' => En.nx (τ'.set i none) G', rt := En.rt, bk := fun τ' G' => En.bk (τ'.set i none) G', ct := fun τ' G' => En.ct (τ'.set i none) G' } (τ.set i (some (.ref xa))) G) ∧
      (b = false → wAll K Wo En r cl dd τ G)
inductive AsOk (X : Cx) : List ExceptHandler → List (Value × Nat × (Addr → Value → Option Addr → TS)) → Prop
  | nil : AsOk X [] []
  | cons {x n : Str} {c : Value} {i : Nat} {ts : Addr → Value → Option Addr → TS} {b₀ : Stmt} {su : List Stmt} {np hp : Pos} {hr : List ExceptHandler} {l : List (Value × Nat × (Addr → Value → Option Addr → TS))} (nm : Names X x c) (ix : X.N[i]? = some n) (lc : X.env.kindOf n = some .local)
      (ok : ∀ (xa : Addr) (xo : Obj) (cl : Value) (dd : Option Addr) (pn : List (Addr × Obj)), Zc cl dd xo → (∃ vs, xo.data = .fields vs) → PSs (X.suite xa ((xa, xo) :: pn)) (b₀ :: su) (ts xa cl dd)) (more : AsOk X hr l) :
      AsOk X (.ExceptHandler (some (.Name x np)) (some n) (b₀ :: su) hp :: hr) ((c, i, ts) :: l)
section
variable {X : Cx} {body : List Stmt} {h₀ : ExceptHandler} {hr : List ExceptHandler} {l : List (Value × Nat × (Addr → Value → Option Addr → TS))} {pos : Pos} {tb : WX → TS} {Wo : WX}
theorem ps_try_all (hs : X.stack = X.env :: X.outer) (hf : X.env.frame = some X.env.locals) (nd : X.N.Nodup) (tk : Takes X Wo)
    (hb : ∀ (Wb : WX) (pn : List (Addr × Obj)) (xe : Value → Shared → Prop), Takes (X.tr pn xe) Wb → PassesOwn (model X.prog X.w) X.A X.env xe → PSs (X.tr pn xe) body (tb Wb))
    (hh : AsOk X (h₀ :: hr) l) : PS X (.Try body (h₀ :: hr) [] [] pos) (fun En σ H => tb (wAll X.K Wo En l) En σ H) := by
  refine ⟨fun pins s σ H En I h => ?_⟩
  have okX := I.ok
  have fr : X.A.frames = some (X.env :: X.outer) := by rw [okX.frames, hs]
  refine wpAny_Try_except ?_
  have catchIt : ∀ (u : Value) (s2 : Shared), XE (X.tr (X.pn ++ pins) fun e s₁ => wpAny (model X.prog X.w) X.A (noteFrame e X.env) (fun _ s₂ => wpAny (model X.prog X.w) X.A (setFlight e none) (fun _ s₃ =>
      wpAny (model X.prog X.w) X.A (handleBy e X.env (h₀ :: hr)) (SP X pins En) X.xe s₃) X.xe s₂) X.xe s₁) (wAll X.K Wo En l) u s2 →
      wpAny (model X.prog X.w) X.A (noteFrame u X.env) (fun _ s₂ => wpAny (model X.prog X.w) X.A (setFlight u none) (fun _ s₃ => wpAny (model X.prog X.w) X.A (handleBy u X.env (h₀ :: hr)) (SP X pins En) X.xe s₃) X.xe s₂) X.xe s2 := by
    rintro u s2 ⟨xa, Gd, si, pins', τ, G, cl, dd, rfl, Jt, nb, up, sk, na, hos, bare, want⟩
    have Jx : Inv X pins τ G si := Jt.ofTry okX
    have sk2 : Sky Gd (X.env :: X.outer) xa (Zc cl dd) X.env.locals s2.heap := by rw [← hs]; exact sk
    refine Sky.land Zc.steady fr hf sk2 fun ha fa ua => ?_
    have Ja : Inv X pins τ G { s2 with heap := ha } := Jx.landed nb fa.1 (up.trans ua) hos bare
    obtain ⟨xo, fv, hget, hz, hdat⟩ := fa.there
    have off : xa ∉ frs (X.env :: X.outer) := fun hm => by
      obtain ⟨_, o', e', hnf⟩ := fa.2.2.1.mem hm
      have e2 : some xo = some o' := hget.symm.trans e'
      cases e2
      exact hnf _ hdat
    have offL : xa ≠ X.env.locals := fun z => off (List.mem_filterMap.mpr ⟨X.env, List.mem_cons_self, by rw [hf, z]⟩)
    have offF : xa ∉ X.fs := fun hm => by
      obtain ⟨e, he, q⟩ := List.mem_filterMap.mp hm
      exact off (List.mem_filterMap.mpr ⟨e, List.mem_cons_of_mem _ he, q⟩)
    have Sa := Ja.suite hget hdat na offL offF
    have along : ∀ {hr' : List ExceptHandler} {l' : List (Value × Nat × (Addr → Value → Option Addr → TS))}, AsOk X hr' l' → wAll X.K Wo En l' cl dd τ G →
        wpAny (model X.prog X.w) X.A (handleBy (.ref xa) X.env hr') (SP X pins En) X.xe { s2 with heap := ha } := by
      intro hr' l' hk
      induction hk with
      | nil =>
        intro w
        refine wpAny_handleBy_nil ?_
        obtain ⟨_, _, _, oz, fz2, T, _, _, gz, _, dz, z1, _⟩ := id fa
        unfold PySem.passOn
        refine wpAny_bind (wpAny_field gz dz z1 ?_)
        rw [if_neg (show ¬ ((Value.ref T == Value.none) = true) from by simp)]
        have out : wpAny (model X.prog X.w) X.A (setFlight (.ref xa) X.env.frame) (fun _ s4 => wpAny (model X.prog X.w) X.A (throw (.ref xa) : Sem Flow) (SP X pins En) X.xe s4) X.xe { s2 with heap := ha } := by
          rw [hf]
          refine HandSPX.setFlight_upZ fa fun hc hhc uc => wpAny_throw (tk _ _ ?_)
          exact ⟨xa, Gd, si, pins, τ, G, cl, dd, rfl, Jx, nb, (up.trans ua).trans uc, .inr (.inr (by rw [hs]; exact hhc)), na, hos, bare, w⟩
        first
          | exact wpAny_bind (wpAny_pure (wpAny_bind out))
          | exact wpAny_bind out
      | @cons x n c i ts b₀ su np hp hr2 l2 nm ix lc ok more ih =>
        intro w
        obtain ⟨b, eb, yes, no⟩ := w
        refine wpAny_handleBy_cons (codeAny_handlers_test ?_) (by intro q; cases q)
        have tyOf : PySem.W.Looks (model X.prog X.w) ha (typeOf (.ref xa)) cl := fun A Q E s k q => wpAny_typeOf_ref (k _ _ hget) (by rw [hz.1]; exact q)
        have isIt := PySem.W.exm_one (M := model X.prog X.w) (Ja.kIn) tyOf eb
        have nameOf : ∀ {Q : Value → Shared → Prop} {E : Value → Shared → Prop}, Q c { s2 with heap := ha } → wpAny (model X.prog X.w) (X.A.mark (some (.ref xa))) (eval (.Name x np) X.env) Q E { s2 with heap := ha } := fun {Q E} q => by
          obtain ⟨g1, g2, g3 | ⟨g3, g4, g5⟩⟩ := nm
          · exact ld_glob (X := X.suite xa ((xa, xo) :: (X.pn ++ pins))) Sa g1 g3 q g2
          · exact ld_blt (X := X.suite xa ((xa, xo) :: (X.pn ++ pins))) Sa g1 g3 g4 q g5 g2
        refine nameOf (isIt.here ?_)
        cases b with
        | false =>
          show wpAny _ X.A (handleBy (.ref xa) X.env hr2) _ _ _
          exact ih (no rfl)
        | true =>
          refine codeAny_handlers_suite_as ?_
          refine HandSPX.lands_againZ fa fun hd fd ud => ?_
          have Jd : Inv X pins τ G { s2 with heap := hd } := Jx.landed nb fd.1 ((up.trans ua).trans ud) hos bare
          obtain ⟨yo, yv, gy, zy, dy⟩ := fd.there
          have Sd := Jd.suite gy dy na offL offF
          refine store_ok (X := X.suite xa ((xa, yo) :: (X.pn ++ pins))) (v := .ref xa) Sd nd ix (.inl lc) rfl (fun s5 S5 => ?_) (.inr lc)
          refine wpAny_mono ((ok xa yo cl dd (X.pn ++ pins) zy ⟨_, dy⟩).run [] s5 _ G _ S5 (yes rfl xa na)) (fun fl s6 sp => ?_) (fun _ _ z => False.elim z)
          have leave : ∀ {τ6 : L2.St} {G6 : Hp} {Q : Shared → Prop}, Inv (X.suite xa ((xa, yo) :: (X.pn ++ pins))) [] τ6 G6 s6 → (∀ s7, Inv X pins (τ6.set i none) G6 s7 → Q s7) →
              wpAny (model X.prog X.w) X.A (do bindName X.env n .none; unbindBehindTheSuite X.env n hp) (fun _ s7 => Q s7) X.xe s6 := fun {τ6 G6 Q} S6 hq => gone_ok (S6.unsuite okX) nd ix lc hq
          cases fl with
          | ret u =>
            obtain ⟨v6, τ6, G6, S6, r6, q6⟩ := sp
            exact leave S6 fun s7 J7 => ⟨_, _, _, J7, r6, q6⟩
          | next =>
            obtain ⟨τ6, G6, S6, q6⟩ := sp
            exact leave S6 fun s7 J7 => ⟨_, _, J7, q6⟩
          | brk =>
            obtain ⟨τ6, G6, S6, q6⟩ := sp
            exact leave S6 fun s7 J7 => ⟨_, _, J7, q6⟩
          | cont =>
            obtain ⟨τ6, G6, S6, q6⟩ := sp
            exact leave S6 fun s7 J7 => ⟨_, _, J7, q6⟩
    exact along hh want
  refine wpAny_mono ((hb (wAll X.K Wo En l) (X.pn ++ pins) _ (fun u s' xx => catchIt u s' xx) PassesOwn.looking).run [] s σ H En (I.toTry _) h) (fun fl s1 sp => ?_) (fun e s1 he => he)
  cases fl with
  | ret u =>
    obtain ⟨v, τ, G, J, r, q⟩ := sp
    exact ⟨v, τ, G, J.ofTry okX, r, q⟩
  | next =>
    obtain ⟨τ, G, J, q⟩ := sp
    exact wpAny_execs_nil ⟨τ, G, J.ofTry okX, q⟩
  | brk =>
    obtain ⟨τ, G, J, q⟩ := sp
    exact ⟨τ, G, J.ofTry okX, q⟩
  | cont =>
    obtain ⟨τ, G, J, q⟩ := sp
    exact ⟨τ, G, J.ofTry okX, q⟩
end
/-! ### .. by denotation -/
structure Cl where
  /-- the own classes, and whether the clause takes them -/
  cat : List (Str × Bool)
  i : Nat
  su : Exn → MS
def unb (i : Nat) : RS → RS
  | .nx ρ => .nx (ρ.set i none)
  | .bk ρ => .bk (ρ.set i none)
  | .ct ρ => .ct (ρ.set i none)
  | .ret d ρ => .ret d (ρ.set i none)
  | _ => .bad
def hand : List Cl → Exn → MS
  | [], x, ρ => .exc x ρ
  | c :: cs, x, ρ => match c.cat.lookup x.c with
    | some true => if c.i < ρ.length then unb c.i (c.su x (ρ.set c.i none)) else .bad
    | some false => hand cs x ρ
    | none => .bad
def mTry (m : MS) (cs : List Cl) : MS := fun ρ => match m ρ with
  | .exc x ρ1 => hand cs x ρ1
  | r => r
/-- in a suite: slot i is the exception at a; B1 stands -/
abbrev Ctx.sub (C : Ctx) (i : Nat) (a : Addr) (B1 : Hp) : Ctx := ⟨C.K, C.mg, i :: C.L, fun j => if j = i then some (some (.ref a)) else C.pv j, B1⟩
inductive ClsOk (X : Cx) (C : Ctx) : List ExceptHandler → List Cl → Prop
  | nil : ClsOk X C [] []
  | cons {x n : Str} {cv : Value} {i : Nat} {b₀ : Stmt} {su : List Stmt} {np hp : Pos} {hr : List ExceptHandler} {cs : List Cl} {cat : List (Str × Bool)} {ms : Exn → MS} (nm : Names X x cv) (ix : X.N[i]? = some n) (lc : X.env.kindOf n = some .local) (hL : C.L.contains i = false)
      (hcat : ∀ p ∈ cat, ∀ cl, C.mg p.1 = some (.ref cl) → PySem.W.exmOne X.K (.ref cl) cv = some p.2)
      (ok : ∀ (xa : Addr) (xo : Obj) (cl : Value) (dd : Option Addr) (pn : List (Addr × Obj)) (ex : Exn) (B1 : Hp), cat.lookup ex.c = some true → Zc cl dd xo → (∃ vs, xo.data = .fields vs) → XRep C B1 ex cl dd → SSs (X.suite xa ((xa, xo) :: pn)) (C.sub i xa B1) F0 (b₀ :: su) (ms ex)) (more : ClsOk X C hr cs) :
      ClsOk X C (.ExceptHandler (some (.Name x np)) (some n) (b₀ :: su) hp :: hr) (⟨cat, i, ms⟩ :: cs)
section
variable {X : Cx} {C : Ctx} {W : WX} {σ : L2.St} {H B : Hp} {F Os : List Addr} {ρ : Ro}
theorem Mch.toSub {i : Nat} {a : Addr} (m : Mch C σ H B F Os ρ) (hi : σ[i]? = some (some (.ref a))) : Mch (C.sub i a B) σ H B F Os ρ :=
  ⟨RpS.ctx m.slt, m.nd, m.out, m.liv, m.sub, fun j hj => by
    show σ[j]? = if j = i then some (some (.ref a)) else C.pv j
    by_cases z : j = i
    · rw [if_pos z, z, hi]
    · rw [if_neg z]
      refine m.pn j ?_
      have hj : (i :: C.L).contains j = true := hj
      simpa [z] using hj, Sub.refl _⟩
theorem Mch.ofSub {i : Nat} {a : Addr} {B1 : Hp} (b : Sub C.B0 B1) (hL : C.L.contains i = false) (m : Mch (C.sub i a B1) σ H B F Os ρ) : Mch C σ H B F Os ρ :=
  ⟨RpS.ctx m.slt, m.nd, m.out, m.liv, m.sub, fun j hj => by
    have z : j ≠ i := fun z => by rw [z, hL] at hj; cases hj
    have := m.pn j (by
      show (i :: C.L).contains j = true
      have hj' : j ∈ C.L := by simpa using hj
      simp [hj'])
    rw [this]
    show (if j = i then some (some (V.ref a)) else C.pv j) = C.pv j
    rw [if_neg z], b.trans m.b0⟩
/-- what AsOk is told -/
def tSu (C : Ctx) (i : Nat) (cat : List (Str × Bool)) (ms : Exn → MS) : Addr → Value → Option Addr → TS := fun xa cl dd D' σ H => ∃ ex B1, cat.lookup ex.c = some true ∧ XRep C B1 ex cl dd ∧ tS (C.sub i xa B1) F0 (ms ex) D' σ H
def toAs (C : Ctx) : List (Value × Cl) → List (Value × Nat × (Addr → Value → Option Addr → TS)) := List.map fun p => (p.1, p.2.i, tSu C p.2.i p.2.cat p.2.su)
theorem ClsOk.as {hs : List ExceptHandler} {cs : List Cl} (h : ClsOk X C hs cs) : ∃ vs : List Value, vs.length = cs.length ∧ AsOk X hs (toAs C (vs.zip cs)) ∧
    ∀ p ∈ vs.zip cs, C.L.contains p.2.i = false ∧ ∀ q ∈ p.2.cat, ∀ cl, C.mg q.1 = some (.ref cl) → PySem.W.exmOne X.K (.ref cl) p.1 = some q.2 := by
  induction h with
  | nil => exact ⟨[], rfl, .nil, fun p h => by cases h⟩
  | @cons x n cv i b₀ su np hp hr cs cat ms nm ix lc hL hcat ok more ih =>
    obtain ⟨vs, h1, h2, h3⟩ := ih
    refine ⟨cv :: vs, by simp [h1], .cons nm ix lc (fun xa xo cl dd pn hz hf => ⟨fun pins s σ H D' I q => ?_⟩) h2, fun p hp => ?_⟩
    · obtain ⟨ex, B1, hc, xr, q⟩ := q
      exact (ok xa xo cl dd pn ex B1 hc hz hf xr).run pins s σ H D' I q
    · rcases List.mem_cons.mp hp with rfl | hp
      · exact ⟨hL, hcat⟩
      · exact h3 p hp
theorem hand_run {Wo : WX} {En : Ends} : ∀ {vs : List Value} {cs : List Cl} {ex : Exn} {ρ : Ro} {Os : List Addr} {B : Hp} {cl : Value} {dd : Option Addr}, vs.length = cs.length →
    (∀ p ∈ vs.zip cs, C.L.contains p.2.i = false ∧ ∀ q ∈ p.2.cat, ∀ cl, C.mg q.1 = some (.ref cl) → PySem.W.exmOne C.K (.ref cl) p.1 = some q.2) → XRep C B ex cl dd → Mch C σ H B [] Os ρ → Ks C Wo H B Os (hand cs ex ρ) En →
    wAll C.K Wo En (toAs C (vs.zip cs)) cl dd σ H
  | [], [], ex, ρ, Os, B, cl, dd, _, _, xr, m, k => k cl dd σ H B Os xr m Ext.refl
  | [], _ :: _, _, _, _, _, _, _, hl, _, _, _, _ => by cases hl
  | _ :: _, [], _, _, _, _, _, _, hl, _, _, _, _ => by cases hl
  | cv :: vs, c :: cs, ex, ρ, Os, B, cl, dd, hl, hf, xr, m, k => by
    obtain ⟨hL, hcat⟩ := hf (cv, c) (by simp)
    have k : Ks C Wo H B Os (match c.cat.lookup ex.c with
      | some true => if c.i < ρ.length then unb c.i (c.su ex (ρ.set c.i none)) else .bad
      | some false => hand cs ex ρ
      | none => .bad) En := k
    cases z : c.cat.lookup ex.c with
    | none => rw [z] at k; exact k.elim
    | some b =>
      obtain ⟨ca, da, us, e1, e2, xr'⟩ := id xr
      have hb : PySem.W.exmOne C.K cl cv = some b := by
        have mem : (ex.c, b) ∈ c.cat := by
          clear hcat hf k
          revert z
          generalize c.cat = l
          induction l with
          | nil => intro z; cases z
          | cons p l ih =>
            intro z
            obtain ⟨n, b'⟩ := p
            rw [List.lookup_cons] at z
            cases hq : ex.c == n with
            | true =>
              rw [hq] at z
              cases z
              have : ex.c = n := by simpa using hq
              rw [this]
              exact List.mem_cons_self
            | false =>
              rw [hq] at z
              exact List.mem_cons_of_mem _ (ih z)
        rw [e1]
        exact hcat _ mem ca e2
      rw [z] at k
      refine ⟨b, hb, fun eb xa na => ?_, fun eb => ?_⟩
      · subst eb
        have k : Ks C Wo H B Os (if c.i < ρ.length then unb c.i (c.su ex (ρ.set c.i none)) else .bad) En := k
        by_cases hi : c.i < ρ.length
        · rw [if_pos hi] at k
          obtain ⟨O2, m2, s2⟩ := m.unset c.i hL (some (.ref xa))
          have lt : c.i < σ.length := by rw [RpS.len m.slt]; exact hi
          have m3 := m2.toSub (i := c.i) (a := xa) (by rw [List.getElem?_set_self lt])
          have e2 : Ext H B Os H B O2 := Ext.refl.less s2
          have back : ∀ {τ : L2.St} {H' B' : Hp} {G O' : List Addr} {ρ' : Ro} (y : Option V), Mch (C.sub c.i xa B) τ H' B' G O' ρ' → Ext H B O2 H' B' (G ++ O') → ∃ O3, Mch C (τ.set c.i y) H' B' G O3 (ρ'.set c.i none) ∧ Ext H B Os H' B' (G ++ O3) := fun {τ H' B' G O' ρ'} y m4 e4 => by
            obtain ⟨O3, m5, s5⟩ := (m4.ofSub m.b0 hL).unset c.i hL y
            refine ⟨O3, m5, ((e2.trans m2.out e4).less fun a ha => ?_)⟩
            rcases List.mem_append.mp ha with ha | ha
            · exact List.mem_append_left _ ha
            · exact List.mem_append_right _ (s5 a ha)
          refine ⟨ex, B, z, xr, B, O2, ρ.set c.i none, m3, ?_⟩
          cases zr : c.su ex (ρ.set c.i none) with
          | bad => rw [zr] at k; exact k.elim
          | exc x9 ρ9 => rw [zr] at k; exact k.elim
          | nx ρ9 =>
            rw [zr] at k
            intro τ H' B' O' m4 e4
            obtain ⟨O3, m5, e5⟩ := back (G := []) none m4 e4
            exact k _ H' B' O3 m5 e5
          | bk ρ9 =>
            rw [zr] at k
            intro τ H' B' O' m4 e4
            obtain ⟨O3, m5, e5⟩ := back (G := []) none m4 e4
            exact k _ H' B' O3 m5 e5
          | ct ρ9 =>
            rw [zr] at k
            intro τ H' B' O' m4 e4
            obtain ⟨O3, m5, e5⟩ := back (G := []) none m4 e4
            exact k _ H' B' O3 m5 e5
          | ret d ρ9 =>
            rw [zr] at k
            intro v τ H' B' G O' r m4 e4
            obtain ⟨O3, m5, e5⟩ := back none m4 e4
            exact k v _ H' B' G O3 (Rp.ctx r) m5 e5
        · rw [if_neg hi] at k; exact k.elim
      · subst eb
        exact hand_run (by simpa using hl) (fun p hp => hf p (by simp [hp])) xr m k
theorem ss_try {body : List Stmt} {h₀ : ExceptHandler} {hr : List ExceptHandler} {pos : Pos} {m : MS} {cs : List Cl} (on : On X C W) (hs : X.stack = X.env :: X.outer) (hf : X.env.frame = some X.env.locals) (nd : X.N.Nodup)
    (hb : ∀ (Wb : WX) (pn : List (Addr × Obj)) (xe : Value → Shared → Prop), On (X.tr pn xe) C Wb → PassesOwn (model X.prog X.w) X.A X.env xe → SSs (X.tr pn xe) C Wb body m) (hh : ClsOk X C (h₀ :: hr) cs) :
    SS X C W (.Try body (h₀ :: hr) [] [] pos) (mTry m cs) := by
  obtain ⟨vs, h1, h2, h3⟩ := hh.as
  refine PS.le (ps_try_all (tb := fun Wb => tS C Wb m) hs hf nd on.tk (fun Wb pn xe tk po => hb Wb pn xe ⟨on.K, on.mg, tk⟩ po) h2) fun En σ H h => ?_
  obtain ⟨B, Os, ρ, mm, k⟩ := h
  refine ⟨B, Os, ρ, mm, ?_⟩
  have k : Ks C W H B Os (match m ρ with | .exc x ρ1 => hand cs x ρ1 | r => r) En := k
  cases z : m ρ with
  | nx ρ1 => rw [z] at k; exact k
  | bk ρ1 => rw [z] at k; exact k
  | ct ρ1 => rw [z] at k; exact k
  | ret d ρ1 => rw [z] at k; exact k
  | bad => rw [z] at k; exact k
  | exc x ρ1 =>
    rw [z] at k
    intro cls dd σ' H' B' Os' xr m' e'
    rw [on.K] at h3 ⊢
    exact hand_run h1 h3 xr m' (Ks.step e' m'.out k)
end
end Gc

/-! What an except suite asks of its exception. -/
namespace GcW
open PySem PySem.Spec PySem.Calls PyProof.Rows PySem.W
section
variable {prog : Program} {w : World} {Ar : Around} {Ex : Value → Shared → Prop} {st : Shared} {Kf : Frag} {xa Dc : Addr} {xo dob : Obj}
/-- the class of an own exception that has its dict -/
theorem own_class {Qf : Option Value → Shared → Prop} (h1 : findIn Kf (.ref Dc) "__getattribute__" = some (some (.builtin "BaseException.__getattribute__"))) (h2 : findIn Kf (.ref Dc) "__getattr__" = some none)
    (h3 : subIn Kf (.ref Dc) (.type "BaseException") = some true) (h4 : hasDictIn Kf Dc = true) (h5 : findIn Kf (.ref Dc) "__class__" = some (some (.builtin "object.__class__")))
    (h6 : specialIn Kf (.builtin "object.__class__") "__get__" = some (some (.builtin "getset_descriptor.__get__"))) (h7 : takesIn Kf (.builtin "object.__class__") = some true) (h8 : mroIn Kf Dc (.type "object") = some true)
    (inK : Kf.In st.heap) (at_ : InstAt st.heap xa xo Dc (some dob)) (fin : Qf (some (.ref Dc)) { st with toks := st.toks + 1 }) : wpAny (model prog w) Ar (getAttr? (.ref xa) "__class__") Qf Ex st := by
  have fo : findObj Kf Dc (some dob) "__class__" = some (.bind (.builtin "getset_descriptor.__get__") (.builtin "object.__class__")) := findObj_data (by obtain ⟨cd, hc, _⟩ := any_some h4; rw [hc]; rfl) h5 h6 h7
  obtain ⟨hq, gq, dq, tq, oq⟩ := st
  have la := at_.type (M := model prog w)
  have lb := looks_findIn (M := model prog w) inK h1
  have lc := looks_findIn (M := model prog w) inK h2
  have ld := looks_find (M := model prog w) inK at_ fo
  have isB : Looks (model prog w) hq (isInstance (.ref xa) (.type "BaseException")) true := la.andThen (looks_subIn inK h3)
  have z0 : (false && onTheHeap (Value.builtin "BaseException.__getattribute__")) = false := rfl
  have z1 : (onTheHeap (Value.ref Dc) && Value.builtin "BaseException.__getattribute__" == Value.builtin "object.__getattribute__") = false := by
    have z2 : (Value.builtin "BaseException.__getattribute__" == Value.builtin "object.__getattribute__") = false := by decide +kernel
    rw [z2]; rfl
  unfold getAttr? getAttrBy? getAttrBy
  refine wpAny_bind (wpAny_mkText (wpAny_bind (wpAny_attempt (wpAny_holding (wpAny_bind (la.at (wpAny_bind (lb.at ?_))))))))
  show wpAny _ _ (if (onTheHeap (Value.ref Dc) && Value.builtin "BaseException.__getattribute__" == Value.builtin "object.__getattribute__") = true then _ else _) _ _ _
  rw [z1, if_neg Bool.false_ne_true]
  unfold getAttrByItsOwn hookBefore
  refine wpAny_bind ?_
  rw [if_pos (show onTheHeap (Value.ref Dc) = true from rfl)]
  refine lc.at (wpAny_bind (wpAny_attempt (wpAny_holding ?_)))
  unfold callGetattribute
  rw [z0, if_neg Bool.false_ne_true]
  unfold boundAndCalled
  rw [PySem.F.excAttr_ValueError.ga.bind (.ref xa)]
  refine wpAny_bind (wpAny_pure ?_)
  show wpAny _ _ (call (.builtin "BaseException.__getattribute__") [.ref xa, .str "__class__" tq]) _ _ _
  refine wpAny_call (codeAny_call_builtin PySem.F.excAttr_ValueError.ga.plain PySem.F.entry_bexc_ga (@check_slot (model prog w) _ _ ⟨hq, gq, dq, tq + 1, oq⟩ "BaseException.__getattribute__" "BaseException" "__getattribute__" (.ref xa) [.str "__class__" tq] [] _ (by decide +kernel) (by decide +kernel) isB (PySem.F.args_bexc_ga (.ref xa) (.str "__class__" tq)) ?_))
  unfold Builtin.«object.__getattribute__»
  refine wpAny_bind (wpAny_of_eq (a := ((Value.ref xa : Value), [Value.str "__class__" tq])) (by first | rfl | (simp only [slotArgs]; rfl)) (wpAny_bind (wpAny_pure (wpAny_bind (la.at (wpAny_bind (ld.at ?_)))))))
  show wpAny _ _ (holding [Value.builtin "object.__class__"] (call (.builtin "getset_descriptor.__get__") [.builtin "object.__class__", .ref xa, .ref Dc]) >>= ret) _ _ _
  refine wpAny_bind (wpAny_holding (wpAny_call (class_get (s := ⟨hq, gq, dq, tq + 1, oq⟩) (ox := xo) (od := some dob) inK at_ h8 ?_)))
  refine wpAny_pure ?_
  show wpAny _ _ (handedOut (.ref Dc)) _ _ _
  rw [handedOut_of (v := .ref Dc) rfl]
  first
    | exact wpAny_pure (wpAny_pure fin)
    | exact wpAny_pure fin
    | exact wpAny_pure (wpAny_bind (wpAny_pure (wpAny_pure fin)))
theorem kitx_own (h1 : findIn Kf (.ref Dc) "__getattribute__" = some (some (.builtin "BaseException.__getattribute__"))) (h2 : findIn Kf (.ref Dc) "__getattr__" = some none)
    (h3 : subIn Kf (.ref Dc) (.type "BaseException") = some true) (h4 : hasDictIn Kf Dc = true) (h5 : findIn Kf (.ref Dc) "__class__" = some (some (.builtin "object.__class__")))
    (h6 : specialIn Kf (.builtin "object.__class__") "__get__" = some (some (.builtin "getset_descriptor.__get__"))) (h7 : takesIn Kf (.builtin "object.__class__") = some true) (h8 : mroIn Kf Dc (.type "object") = some true) :
    KitX Kf (.ref xa) (.ref Dc) (fun h => InstAt h xa xo Dc (some dob)) where
  ty := fun _ _ _ at_ => at_.type
  it := fun _ _ inK _ => by
    obtain ⟨cdD, hcD, _⟩ := any_some h4
    unfold clsIn at hcD
    split at hcD
    · rename_i c1 d1 cd1 sl1 hget
      intro A1 Q1 E1 s1 keep qq
      unfold isType loadHead
      exact wpAny_bind (wpAny_loadPart (keep _ _ (inK _ _ hget)) (wpAny_pure qq))
    · cases hcD
  ne := fun h tp dd its n sl inK htp => by
    obtain ⟨cdD, hcD, _⟩ := any_some h4
    refine Bool.eq_false_iff.mpr fun qq => ?_
    have same : Dc = tp := Value.ref.inj (beq_iff_eq.mp qq)
    subst same
    unfold clsIn at hcD
    split at hcD
    · rename_i c1 d1 cd1 sl1 hget
      have zz := (inK _ _ hget).symm.trans htp
      cases zz
    · cases hcD
  ca := fun inK at_ k => own_class h1 h2 h3 h4 h5 h6 h7 h8 inK at_ k
end
end GcW
namespace Gc
open PySem PySem.Spec PyProof.Rows L2
/-- a field of the exception -/
def mXf (ex : Exn) (f : Str) : M Op := fun ρ => match lookF f ex.ns ex.ds with
  | some d => .ok (.val d) ρ
  | none => .bad
/-- isinstance(e, T), by the exception's class -/
def mXis (ex : Exn) (t : List (Str × Bool)) : M Bool := fun ρ => match t.lookup ex.c with
  | some b => .ok b ρ
  | none => .bad
theorem lookup_mem {β : Type} {s : Str} {b : β} : ∀ {l : List (Str × β)}, l.lookup s = some b → (s, b) ∈ l
  | [], z => by cases z
  | (n, b') :: l, z => by
    rw [List.lookup_cons] at z
    cases hq : s == n with
    | true =>
      rw [hq] at z
      cases z
      have : s = n := by simpa using hq
      rw [this]
      exact List.mem_cons_self
    | false =>
      rw [hq] at z
      exact List.mem_cons_of_mem _ (lookup_mem z)
section
variable {X : Cx} {C : Ctx} {xa : Addr} {xo : Obj} {cl : Value} {dd : Option Addr} {pn : List (Addr × Obj)} {ex : Exn} {B1 : Hp} {i : Nat} {n : Str}
theorem XRep.at (xr : XRep C B1 ex cl dd) {σ : L2.St} {H B : Hp} {Os : List Addr} {ρ : Ro} (m : Mch (C.sub i xa B1) σ H B [] Os ρ) : σ[i]? = some (some (.ref xa)) ∧ ∃ A a vs, cl = .ref A ∧ C.mg ex.c = some (.ref A) ∧ dd = some a ∧ H a = some (.xd (ex.ns.zip vs)) ∧
    ∀ f d, lookF f ex.ns ex.ds = some d → ∃ v, (ex.ns.zip vs).lookup f = some v ∧ Rp (C.sub i xa B1) B H d v [] := by
  obtain ⟨A, a, vs, h1, h2, h3, h4, h5, h6, h7⟩ := xr
  have hi := m.pn i (by show (i :: C.L).contains i = true; simp)
  have hi : σ[i]? = if i = i then some (some (.ref xa)) else C.pv i := hi
  rw [if_pos rfl] at hi
  refine ⟨hi, A, a, vs, h1, h2, h3, m.sub _ _ (m.b0 _ _ h4), fun f d e => ?_⟩
  obtain ⟨v, G, k1, k2, _⟩ := RpL.look h6 e
  refine ⟨v, k1, Rp.ctx (Rp.fixed ?_ k2 m.b0)⟩
  have mem : d ∈ ex.ds := by
    have := lookup_mem e
    exact (List.of_mem_zip this).2
  exact isFzL_mem h7 mem
theorem se_xf {f : Str} {p pos : Pos} (xr : XRep C B1 ex cl dd) (hz : Zc cl dd xo) (hf : ∃ vs, xo.data = .fields vs) (hN : X.N[i]? = some n) (hv : Vis X.env.scope n) (hT : ∀ A, C.mg ex.c = some (.ref A) → XfC X.K A ∧ PySem.W.findIn X.K (.ref A) f = some none)
    (hd : (n == ("__debug__" : Str)) = false := by decide) (hcd : (n == ("__classdict__" : Str)) = false := by decide) (hb : attributeBase (.Name n p) f X.env (eval (.Name n p) X.env) = eval (.Name n p) X.env := by rfl) :
    SE (X.suite xa ((xa, xo) :: pn)) (C.sub i xa B1) F0 true (.Attribute (.Name n p) f pos) (mXf ex f) := by
  obtain ⟨A, _, _, e1, e2, _⟩ := id xr
  obtain ⟨T, hno⟩ := hT A e2
  refine PE.le (pe_xf (X := X) T hno hz hf (pe_var (X := X.suite xa ((xa, xo) :: pn)) hN hv hd hcd) hb) fun σ H Q h => ?_
  obtain ⟨B, Os, ρ, m, k⟩ := h
  obtain ⟨hi, A', a, vs, g1, g2, g3, g4, g5⟩ := xr.at m
  have k : Kg (C.sub i xa B1) F0 σ true (RpO (C.sub i xa B1) σ) H B Os (match lookF f ex.ns ex.ds with | some d => .ok (.val d) ρ | none => .bad) Q := k
  cases z : lookF f ex.ns ex.ds with
  | none => rw [z] at k; exact k.elim
  | some d =>
    rw [z] at k
    obtain ⟨v, k1, k2⟩ := g5 f d z
    exact ⟨.ref xa, hi, rfl, e1, a, _, v, g3, g4, k1, k v H B [] Os k2 m Ext.refl fun _ _ _ => rfl⟩
/-- what isinstance wants of an own exception class -/
structure XisC (K : PySem.W.Frag) (D : Addr) : Prop where
  h1 : PySem.W.findIn K (.ref D) "__getattribute__" = some (some (.builtin "BaseException.__getattribute__"))
  h2 : PySem.W.findIn K (.ref D) "__getattr__" = some none
  h3 : PySem.W.subIn K (.ref D) (.type "BaseException") = some true
  h4 : PySem.W.hasDictIn K D = true
  h5 : PySem.W.findIn K (.ref D) "__class__" = some (some (.builtin "object.__class__"))
  h6 : PySem.W.specialIn K (.builtin "object.__class__") "__get__" = some (some (.builtin "getset_descriptor.__get__"))
  h7 : PySem.W.takesIn K (.builtin "object.__class__") = some true
  h8 : PySem.W.mroIn K D (.type "object") = some true
theorem call_isX {A a : Addr} (T : XisC X.K A) (hz : Zc (.ref A) (some a) xo) (hf : ∃ vs, xo.data = .fields vs) : CallR (X.suite xa ((xa, xo) :: pn)) (.builtin "isinstance") (fun xs H Q => ∃ (c : V) (cv : Value) (b : Bool) (fs : List (Str × V)), xs = [.ref xa, c] ∧ (∀ u, RelV c u → u = cv) ∧ PySem.W.kitOne X.K (.ref A) cv = some b ∧ H a = some (.xd fs) ∧ Q (.bl b) H) := by
  intro pins s σ H xs us Q I r h
  obtain ⟨c, cv, b, fs, rfl, hcv, e, hx, q⟩ := h
  cases r with
  | cons rx rr =>
    cases rr with
    | cons rt rr =>
      cases rr
      cases rx
      have ec := hcv _ rt
      subst ec
      obtain ⟨hget, _⟩ := I.pin (xa, xo) (List.mem_append.mpr (.inl List.mem_cons_self))
      obtain ⟨vs, hv⟩ := hf
      have hx : ObjOk X.prog X.w H s.heap a (.xd fs) := I.hok a _ hx
      obtain ⟨mA, hns, hr⟩ := hx
      obtain ⟨od, ho, hl⟩ := lookIn_ns hns
      have J : PySem.W.InstAt s.heap xa xo A (some od) := ⟨hget, hz.1, by unfold PySem.W.notCls; rw [hv] <;> rfl, by rw [hz.2]; exact ho⟩
      exact PySem.W.kia_one (GcW.kitx_own T.h1 T.h2 T.h3 T.h4 T.h5 T.h6 T.h7 T.h8) I.kIn J e (fun z => nomatch z) fun tk => ⟨.bl b, H, I.kept (t' := tk) fun _ _ z => z, rfl, q⟩
theorem On.suite {W : WX} (on : On X C W) : On (X.suite xa ((xa, xo) :: pn)) (C.sub i xa B1) F0 := ⟨on.K, on.mg, takes0⟩
theorem se_isx {t : List (Str × Bool)} {T : Str} {p1 p2 p3 pos : Pos} {c : V} {cv : Value} (xr : XRep C B1 ex cl dd) (hz : Zc cl dd xo) (hf : ∃ vs, xo.data = .fields vs) (hN : X.N[i]? = some n) (hv : Vis X.env.scope n) (hg : Gl X "isinstance") (hm : X.mg "isinstance" = none)
    (hT : ∀ A, C.mg ex.c = some (.ref A) → XisC X.K A) (hc : PE (X.suite xa ((xa, xo) :: pn)) (.Name T p3) (tC c)) (hcv : ∀ u, RelV c u → u = cv) (ht : ∀ p ∈ t, ∀ A, C.mg p.1 = some (.ref A) → PySem.W.kitOne X.K (.ref A) cv = some p.2)
    (hd : (n == ("__debug__" : Str)) = false := by decide) (hcd : (n == ("__classdict__" : Str)) = false := by decide)
    (he : starEach [.Name n p2, .Name T p3] X.env = (false, eval (.Name n p2) X.env) :: starEach [.Name T p3] X.env := by rfl) (he2 : starEach [.Name T p3] X.env = (false, eval (.Name T p3) X.env) :: starEach [] X.env := by rfl)
    (hpl : (backTo pos (starEach [.Name T p3] X.env)).any (·.1) = false := by rfl) :
    SE (X.suite xa ((xa, xo) :: pn)) (C.sub i xa B1) F0 true (.Call (.Name "isinstance" p1) [.Name n p2, .Name T p3] [] pos) (mBv (mXis ex t)) := by
  obtain ⟨A, a, _, e1, e2, e3, _⟩ := id xr
  subst e1
  subst e3
  refine PE.le (pe_callB (X := X.suite xa ((xa, xo) :: pn)) (call_isX (hT A e2) hz hf) hg hm rfl (pa_cons (pe_var (X := X.suite xa ((xa, xo) :: pn)) hN hv hd hcd) (pa_cons hc pa_nil he2) he) (by decide) (by decide) he hpl) fun σ H Q h => ?_
  obtain ⟨B, Os, ρ, m, k⟩ := h
  obtain ⟨hi, A', a', vs, g1, g2, g3, g4, g5⟩ := xr.at m
  cases g1
  cases g3
  have k : Kg (C.sub i xa B1) F0 σ true (RpO (C.sub i xa B1) σ) H B Os ((match t.lookup ex.c with | some b => .ok b ρ | none => .bad : R Bool).bind fun b ρ1 => .ok (.val (.bl b)) ρ1) Q := k
  cases z : t.lookup ex.c with
  | none => rw [z] at k; exact k.elim
  | some b =>
    rw [z] at k
    exact ⟨.ref xa, hi, c, cv, b, _, rfl, hcv, ht _ (lookup_mem z) A e2, g4, k (.bl b) H B [] Os ⟨rfl, rfl⟩ m Ext.refl fun _ _ _ => rfl⟩
end
end Gc

namespace Gc
open PySem PySem.Spec PyProof.Rows L2
/-! Texts times numbers; lists times numbers; tests of membership; globals; all, any; a < b < c. -/
def repS (z : Str) (n : Int) : Str := ⟨(List.replicate n.toNat z.cps.toList).flatten.toArray⟩
def rMulS : R2 := fun x y H Q => ∃ (z : Str) (n : Int), x = .str z ∧ y = .int n ∧ -(2 ^ 63) ≤ n ∧ n < 2 ^ 63 ∧ z.length * n.toNat ≤ lim ∧ Q (.str (repS z n)) H
theorem foldl_arr (a : List Nat) : ∀ (k : Nat) (acc : List Nat), (List.replicate k a.toArray).foldl (· ++ ·) acc.toArray = (acc ++ (List.replicate k a).flatten).toArray
  | 0, acc => by simp
  | k + 1, acc => by
    rw [List.replicate_succ, List.foldl_cons, List.replicate_succ, List.flatten_cons]
    have e : acc.toArray ++ a.toArray = (acc ++ a).toArray := by simp
    rw [e, foldl_arr a k (acc ++ a), List.append_assoc]
section
variable {X : Cx}
theorem op_mul_str : OpR X (binaryOp .Mult) rMulS := by
  intro pins s σ H x y v u Q I rx ry h
  obtain ⟨z, n, rfl, rfl, h1, h2, hz, q⟩ := h
  obtain ⟨t, rfl⟩ := rx
  obtain ⟨t', rfl⟩ := ry
  have hn : z.length = z.cps.size := rfl
  have big : (lim : Nat) ≤ (2 ^ 63 - 1) := by decide
  have neg : (decide (n < -(2 ^ 63 : Int)) || decide (n ≥ 2 ^ 63)) = false := by
    rw [decide_eq_false (by omega), decide_eq_false (by omega)]; rfl
  have fin : ∀ (tk : Tok) (s' : Nat), EP X pins σ Q (.str (repS z n) tk) { s with toks := s' } := fun tk s' => ⟨.str (repS z n), H, I.tok _, ⟨_, rfl⟩, q⟩
  refine PySem.P.mul_str neg (fun h3 h4 => ?_) (fun h3 h4 => ?_) ?_
  · rw [Bool.or_eq_false_iff] at h4
    obtain ⟨k, rfl⟩ : ∃ k : Nat, n = (k : Int) := ⟨n.toNat, by omega⟩
    have hz : z.length * k ≤ lim := by simpa using hz
    have : z.length ≤ (2 ^ 63 - 1) / k := (Nat.le_div_iff_mul_le (by omega)).mpr (by omega)
    have h5 : ((z.length : Nat) : Int) ≤ ((2 ^ 63 - 1 : Nat) / k : Nat) := by exact_mod_cast this
    have h6 : (((2 ^ 63 - 1 : Nat) / k : Nat) : Int) = (2 ^ 63 - 1 : Int) / (k : Int) := by
      rw [Int.natCast_ediv]
      rfl
    omega
  · unfold Builtin.Str.tooLong
    exact decide_eq_false (by rw [sizeLine_eq]; have : lim = 16777216 := rfl; omega)
  · by_cases h3 : n < 1
    · rw [if_pos h3]
      have e : repS z n = Str.empty := by
        unfold repS
        rw [show n.toNat = 0 by omega]
        rfl
      rw [← e]
      exact ⟨by rw [e]; decide, fin _ _⟩
    · rw [if_neg h3]
      by_cases h4 : (n == 1 || z.length == 0) = true
      · rw [if_pos h4]
        have e : repS z n = z := by
          unfold repS
          rcases Bool.or_eq_true_iff.mp h4 with h5 | h5
          · have h5 : n = 1 := by simpa using h5
            subst h5
            show Str.mk (List.replicate 1 z.cps.toList).flatten.toArray = z
            simp
          · have h5 : z.cps.size = 0 := beq_iff_eq.mp h5
            have h6 : z.cps = #[] := Array.eq_empty_of_size_eq_zero h5
            obtain ⟨c⟩ := z
            simp only at h6
            subst h6
            simp
        have f := fin t s.toks
        rw [e] at f
        exact f
      · rw [if_neg h4]
        have e : (⟨(List.replicate n.toNat z.cps).foldl (· ++ ·) #[]⟩ : Str) = repS z n := by
          have := foldl_arr z.cps.toList n.toNat []
          rw [List.nil_append] at this
          unfold repS
          rw [← this]
        rw [e]
        refine ⟨?_, fin _ _⟩
        show (List.replicate n.toNat z.cps.toList).flatten.toArray.size ≤ sizeLine
        rw [List.size_toArray, List.length_flatten, List.map_replicate, List.sum_replicate_nat, sizeLine_eq, Array.length_toList]
        have : lim = 16777216 := rfl
        have : n.toNat * z.cps.size = z.length * n.toNat := Nat.mul_comm _ _
        omega
end
def gMulX : D → D → Option D
  | .str z, .int n => if -(2 ^ 63) ≤ n ∧ n < 2 ^ 63 ∧ z.length * n.toNat ≤ lim then some (.str (repS z n)) else none
  | .lst _ ds, .int n => if isFzL ds = true ∧ -(2 ^ 63) ≤ n ∧ n < 2 ^ 63 ∧ ds.length * n.toNat ≤ lim then some (.lst true (List.replicate n.toNat ds).flatten) else none
  | a, b => gMul a b
def rMulX : R2 := fun x y H Q => (rI CMul fun i j => .int (i * j)) x y H Q ∨ rMulS x y H Q ∨ rRep x y H Q
theorem OpR.or3 {X : Cx} {f : Value → Value → Sem Value} {a b c : R2} (ha : OpR X f a) (hb : OpR X f b) (hc : OpR X f c) : OpR X f (fun x y H Q => a x y H Q ∨ b x y H Q ∨ c x y H Q) := fun pins s σ H x y v u Q I rx ry h => by
  rcases h with h | h | h
  · exact ha pins s σ H x y v u Q I rx ry h
  · exact hb pins s σ H x y v u Q I rx ry h
  · exact hc pins s σ H x y v u Q I rx ry h
section
variable {X : Cx} {C : Ctx}
theorem op_mulX : OpR X (binaryOp .Mult) rMulX := OpR.or3 op_mul op_mul_str op_rep
theorem RpL.rep {B H : Hp} {ds : List D} {vs : List V} (h : RpL C B H ds vs []) : ∀ k : Nat, RpL C B H (List.replicate k ds).flatten (List.replicate k vs).flatten []
  | 0 => ⟨rfl, rfl⟩
  | k + 1 => by
    rw [List.replicate_succ, List.replicate_succ, List.flatten_cons, List.flatten_cons]
    exact RpL.app h (RpL.rep h k)
theorem pu_mulX : Pu2 C rMulX gMulX := by
  intro B H x y a b d G G' Q s ra rb e q
  unfold gMulX at e
  split at e
  · rename_i z n
    obtain ⟨rfl, _⟩ := ra; obtain ⟨rfl, _⟩ := rb
    by_cases h : -(2 ^ 63) ≤ n ∧ n < 2 ^ 63 ∧ z.length * n.toNat ≤ lim
    · rw [if_pos h] at e; cases e
      exact .inr (.inl ⟨z, n, rfl, rfl, h.1, h.2.1, h.2.2, q _ _ _ _ (PX.sc s ⟨rfl, rfl⟩)⟩)
    · rw [if_neg h] at e; cases e
  · rename_i o ds n
    obtain ⟨p, vs, F, rfl, t, r⟩ := ra.lst_at s
    obtain ⟨rfl, _⟩ := rb
    by_cases h : isFzL ds = true ∧ -(2 ^ 63) ≤ n ∧ n < 2 ^ 63 ∧ ds.length * n.toNat ≤ lim
    · rw [if_pos h] at e; cases e
      have l := RpL.len r
      have r' := RpL.fixed (H' := H) h.1 r (Sub.refl _)
      exact .inr (.inr ⟨p, n, vs, rfl, rfl, t, h.2.1, h.2.2.1, lim_le (by rw [l]; exact h.2.2.2), fun z nz => q _ _ _ _ (PX.lst s nz (RpL.rep r' _))⟩)
    · rw [if_neg h] at e; cases e
  · exact .inl (pu_mul B H x y a b d G G' Q s ra rb e q)
theorem op_inX (hu : X.A.units + 65 < cLine) : OpR X (compareOp .In) (rInX X.K) := (op_in_str.or op_in_seq).or (op_inD hu)
theorem op_ninX (hu : X.A.units + 65 < cLine) : OpR X (compareOp .NotIn) (rNinX X.K) := (op_notIn_str.or op_notIn_seq).or (op_notInD hu)
theorem isSub_one (c : Nat) (z : Str) : isSub ⟨#[c]⟩ z = decide (c ∈ z.cps.toList) := PySem.StrLaws.found_one z c
end
/-! ### a part is held, another runs -/
section
variable {α β γ δ : Type} {C : Ctx} {W : WX} {σ : L2.St} {q qa qb : Bool} {H1 B1 : Hp}
theorem hold_run {rep2 : L2.St → Hp → Hp → α → β → List Addr → Prop} {rep' : L2.St → Hp → Hp → γ → δ → List Addr → Prop} {mb : M α} {f : α → Ro → R γ} {Q : δ → Hp → Prop} {r : β → Hp → Prop} {oa : Op} {x : V} {Fa Os1 : List Addr} {ρ1 : Ro} (hqb : q = true → qb = true)
    (m1 : Mch C σ H1 B1 Fa Os1 ρ1) (ra : RpO C σ B1 H1 oa x Fa) (g : okG oa qb = true) (k : Kg C W σ q (rep' σ) H1 B1 (Fa ++ Os1) ((mb ρ1).bind fun ob ρ2 => f ob ρ2) Q)
    (hk : ∀ ob ρ2 y H2 B2 Fb Os2, RpO C σ B2 H2 oa x Fa → rep2 σ B2 H2 ob y Fb → Mch C σ H2 B2 (Fa ++ Fb) Os2 ρ2 → Sub B1 B2 → Kg C W σ q (rep' σ) H2 B2 ((Fa ++ Fb) ++ Os2) (f ob ρ2) Q → r y H2) : tG C W qb rep2 mb σ H1 r := by
  refine ⟨B1, Os1, ρ1, m1.drop, ?_⟩
  cases e : mb ρ1 with
  | ok ob ρ2 =>
    rw [e] at k
    intro y H2 B2 Fb Os2 rb m2 e2 q2
    have m3 := m1.and e2 m2
    refine hk ob ρ2 y H2 B2 Fb Os2 (ra.held m1 e2 g q2) rb m3 e2.sub ?_
    refine Kg.step (e := (e2.beside (F := Fa)).less (fun a ha => by rw [← List.append_assoc]; exact ha)) m3.out (fun z a ha => ?_) m1.liv k
    rcases List.mem_append.mp ha with ha | ha
    · exact m1.held e2 a ha
    · exact q2 (hqb z) a ha
  | exc x' ρ2 =>
    rw [e] at k
    intro cls dd H2 B2 Os2 xr m2 e2
    exact k cls dd H2 B2 Os2 xr m2 ((e2.beside (F := Fa)).less fun a ha => List.mem_append_right _ ha)
  | bad =>
    rw [e] at k
    exact k
end
/-- a < b < c -/
def mChain (qb qc : Bool) (g g' : D → D → Option Bool) (ma mb mc : M Op) : M Bool := fun ρ => (ma ρ).bind fun oa ρ1 => if okG oa qb = true then (mb ρ1).bind fun ob ρ2 => (match (rd oa ρ2).bind fun a => (rd ob ρ2).bind fun b => g a b with
  | some true => if okG ob qc = true then (mc ρ2).bind fun oc ρ3 => pb ((rd ob ρ3).bind fun b => (rd oc ρ3).bind fun c => g' b c) ρ3 else .bad
  | some false => .ok false ρ2
  | none => .bad) else .bad
section
variable {X : Cx} {C : Ctx} {W : WX} {q qa qb qc : Bool} {a b c : Expr} {ma mb mc : M Op} {pos : Pos} {σ : L2.St}
theorem chain_run {r r' : R2} {g g' : D → D → Option Bool} {Q : Bool → Hp → Prop} {R' : VK} {H : Hp} (hp : Pb2 C r g) (hp' : Pb2 C r' g') (h : tMb C W (qa && (qb && qc)) (mChain qb qc g g' ma mb mc) σ H Q) (hr : ∀ k H', Q k H' → R' (.bl k) H') :
    tChain r r' (tM C W qa ma) (tM C W qb mb) (tM C W qc mc) σ H R' := by
  show tM C W qa ma σ H fun x H1 => tM C W qb mb σ H1 fun y H2 => r x y H2 fun z H3 => ∃ k, z = .bl k ∧ (if k = true then tM C W qc mc σ H3 fun w' H4 => r' y w' H4 R' else R' (.bl false) H3)
  refine bin_run (rep' := repB) qL (fun z => qL (qR z)) h fun oa ob ρ2 x y H2 B2 Fa Fb Os2 ra rb m k => ?_
  cases e1 : rd oa ρ2 with
  | none => rw [e1] at k; exact k.elim
  | some da =>
    cases e2 : rd ob ρ2 with
    | none => rw [e1, e2] at k; exact k.elim
    | some db =>
      rw [e1, e2] at k
      have k : Kg C W σ (qa && (qb && qc)) (repB σ) H2 B2 ((Fa ++ Fb) ++ Os2) (match g da db with
        | some true => if okG ob qc = true then (mc ρ2).bind fun oc ρ3 => pb ((rd ob ρ3).bind fun b => (rd oc ρ3).bind fun c => g' b c) ρ3 else .bad
        | some false => .ok false ρ2
        | none => .bad) Q := k
      obtain ⟨G1, r1⟩ := rd_rep ra m e1
      obtain ⟨G2, r2⟩ := rd_rep (F := Fb) (G := []) rb (by rw [List.append_nil]; exact m.right) e2
      cases e3 : g da db with
      | none => rw [e3] at k; exact k.elim
      | some d =>
        rw [e3] at k
        refine hp B2 H2 x y da db d G1 G2 _ m.sub r1 r2 e3 ⟨d, rfl, ?_⟩
        cases d with
        | false => exact hr false H2 (k_bool m k)
        | true =>
          have k : Kg C W σ (qa && (qb && qc)) (repB σ) H2 B2 ((Fa ++ Fb) ++ Os2) (if okG ob qc = true then (mc ρ2).bind fun oc ρ3 => pb ((rd ob ρ3).bind fun b => (rd oc ρ3).bind fun c => g' b c) ρ3 else .bad) Q := k
          show tM C W qc mc σ H2 fun w' H4 => r' y w' H4 R'
          by_cases gq : okG ob qc = true
          · rw [if_pos gq] at k
            have k2 : Kg C W σ (qa && (qb && qc)) (repB σ) H2 B2 (Fb ++ Os2) ((mc ρ2).bind fun oc ρ3 => pb ((rd ob ρ3).bind fun b => (rd oc ρ3).bind fun c => g' b c) ρ3) Q :=
              Kg.step (Ext.refl.less fun a ha => by rcases List.mem_append.mp ha with ha | ha <;> simp [ha]) m.right.out (fun _ _ _ => rfl) m.liv k
            refine hold_run (rep2 := repO C) (fun z => qR (qR z)) m.right rb gq k2 fun oc ρ3 w H4 B4 Fc Os4 rb' rc m4 _ k4 => ?_
            cases e4 : rd ob ρ3 with
            | none => rw [e4] at k4; exact k4.elim
            | some db' =>
              cases e5 : rd oc ρ3 with
              | none => rw [e4, e5] at k4; exact k4.elim
              | some dc =>
                rw [e4, e5] at k4
                have k4 : Kg C W σ (qa && (qb && qc)) (repB σ) H4 B4 ((Fb ++ Fc) ++ Os4) (pb (g' db' dc) ρ3) Q := k4
                cases e6 : g' db' dc with
                | none => rw [e6] at k4; exact k4.elim
                | some d2 =>
                  rw [e6] at k4
                  obtain ⟨G3, r3⟩ := rd_rep rb' m4 e4
                  obtain ⟨G4, r4⟩ := rd_rep (F := Fc) (G := []) rc (by rw [List.append_nil]; exact m4.right) e5
                  exact hp' B4 H4 y w db' dc d2 G3 G4 R' m4.sub r3 r4 e6 (hr d2 H4 (k_bool m4 k4))
          · rw [if_neg gq] at k; exact k.elim
theorem sb_chain {op op' : CmpOp} {r r' : R2} {g g' : D → D → Option Bool} (ho : OpR X (compareOp op) r) (hp : Pb2 C r g) (ho' : OpR X (compareOp op') r') (hp' : Pb2 C r' g') (ha : SE X C W qa a ma) (hb : SE X C W qb b mb) (hc : SE X C W qc c mc) (hm : lastMarks [op, op'] [b, c] = false) :
    SB X C W (qa && (qb && qc)) (.Compare a [op, op'] [b, c] pos) (mChain qb qc g g' ma mb mc) :=
  PT.le (pt_chain ho ho' ha hb hc hm) fun σ H Q h => chain_run hp hp' h fun k H' h => ⟨k, rfl, h⟩
theorem se_chain {op op' : CmpOp} {r r' : R2} {g g' : D → D → Option Bool} (ho : OpR X (compareOp op) r) (hp : Pb2 C r g) (ho' : OpR X (compareOp op') r') (hp' : Pb2 C r' g') (ha : SE X C W qa a ma) (hb : SE X C W qb b mb) (hc : SE X C W qc c mc) (hm : lastMarks [op, op'] [b, c] = false) :
    SE X C W (qa && (qb && qc)) (.Compare a [op, op'] [b, c] pos) (mBv (mChain qb qc g g' ma mb mc)) :=
  PE.le (pe_chain ho ho' ha hb hc hm) fun σ H Q h => chain_run hp hp' (bv_run h) fun k H' h => h
/-! ### globals -/
theorem se_gstr {x s : Str} {t : Tok} (hg : Gl X x) (hm : X.mg x = some (.str s t)) (hd : (x == ("__debug__" : Str)) = false := by decide) : SE X C W true (.Name x pos) (mC (.str s)) := se_const (v := .str s) (pe_glob hg hm ⟨t, rfl⟩ hd) fun _ _ => ⟨rfl, rfl⟩
theorem se_gint {x : Str} {i : Int} {t : Tok} (hg : Gl X x) (hm : X.mg x = some (.int i t)) (hd : (x == ("__debug__" : Str)) = false := by decide) : SE X C W true (.Name x pos) (mC (.int i)) := se_const (v := .int i) (pe_glob hg hm ⟨t, rfl⟩ hd) fun _ _ => ⟨rfl, rfl⟩
/-! ### all, any -/
def boolsD : List D → Option (List Bool)
  | [] => some []
  | .bl b :: r => (boolsD r).map (b :: ·)
  | _ => none
def gAll : List D → Option D
  | [.lst _ ds] => (boolsD ds).map fun bs => .bl (bs.all id)
  | _ => none
def gAny : List D → Option D
  | [.lst _ ds] => (boolsD ds).map fun bs => .bl (bs.any id)
  | _ => none
theorem bools_rep {B H : Hp} : ∀ {ds : List D} {vs : List V} {F : List Addr} {bs : List Bool}, RpL C B H ds vs F → boolsD ds = some bs → vs = bs.map V.bl
  | [], vs, F, bs, h, e => by
    obtain ⟨rfl, _⟩ := h
    cases e
    rfl
  | d :: ds, vs, F, bs, h, e => by
    obtain ⟨v, vs', F1, F2, rfl, _, p, r⟩ := h
    cases d with
    | bl b =>
      have e : (boolsD ds).map (b :: ·) = some bs := e
      cases z : boolsD ds with
      | none => rw [z] at e; cases e
      | some bs' =>
        rw [z] at e
        cases e
        obtain ⟨rfl, _⟩ := p
        rw [bools_rep r z]
        rfl
    | _ => cases e
theorem pl_all {K : PySem.W.Frag} (hK : K = C.K) : PuL C (rAll K) gAll := by
  subst hK
  intro B H xs as d Q s ra e q
  unfold gAll at e
  split at e
  · rename_i o ds
    obtain ⟨v, G, rfl, r⟩ := ra.one
    obtain ⟨p, vs, F, rfl, t, rl⟩ := r.lst_at s
    cases z : boolsD ds with
    | none => rw [z] at e; cases e
    | some bs =>
      rw [z] at e
      cases e
      have := bools_rep rl z
      subst this
      exact ⟨p, bs, rfl, .of t, q _ _ _ _ (PX.sc s ⟨rfl, rfl⟩)⟩
  · cases e
theorem pl_any {K : PySem.W.Frag} (hK : K = C.K) : PuL C (rAny K) gAny := by
  subst hK
  intro B H xs as d Q s ra e q
  unfold gAny at e
  split at e
  · rename_i o ds
    obtain ⟨v, G, rfl, r⟩ := ra.one
    obtain ⟨p, vs, F, rfl, t, rl⟩ := r.lst_at s
    cases z : boolsD ds with
    | none => rw [z] at e; cases e
    | some bs =>
      rw [z] at e
      cases e
      have := bools_rep rl z
      subst this
      exact ⟨p, bs, rfl, .of t, q _ _ _ _ (PX.sc s ⟨rfl, rfl⟩)⟩
  · cases e
end
/-! ### in short -/
section
variable {X : Cx} {C : Ctx} {W : WX}
theorem pn (i : Nat) {x : Str} {pos : Pos} (hN : X.N[i]? = some x := by rfl) (hv : Vis X.env.scope x := by first | exact Or.inl rfl | exact Or.inr (Or.inl rfl) | exact Or.inr (Or.inr rfl))
    (hd : (x == ("__debug__" : Str)) = false := by decide) (hcd : (x == ("__classdict__" : Str)) = false := by decide) : SE X C W true (.Name x pos) (mName i) := se_name hN hv hd hcd
theorem hu64 {A : Around} {k : Nat} (r : Room k A) : A.units + 64 < cLine := r.units
theorem hu65 {A : Around} {k : Nat} (r : Room k A) : A.units + 65 < cLine := by have := r.un; omega
end
theorem fn_bad {P : Program} {w : World} {K : PySem.W.Frag} {mg : Str → Option Value} {base : Heap} {k : Nat} {f : Addr} {fd : FuncData} {ps : List Str} : FnOk P w K mg base (L2.CX P w) k f fd ps (spD K mg fun _ => .bad) :=
  ⟨fun _ _ _ _ ⟨_, _, _, _, _, _, _, h⟩ => h.elim, fun _ _ _ _ _ _ _ _ _ _ _ _ _ ⟨_, _, _, _, _, _, _, h⟩ => h.elim⟩
end Gc

namespace Gc
open PySem PySem.Spec PyProof.Rows L2
/-! The ends. -/
/-- what a law's row asks of its def -/
def spEnd (K : PySem.W.Frag) : Sp := fun vs H Q _ => ∃ (a : Addr) (ns : List Int), vs = [.ref a] ∧ SqL K H a (ns.map V.int) ∧ ns.length ≤ 63 ∧ ∀ H', Q (.bl true) H'
theorem law_end {K : PySem.W.Frag} {mg : Str → Option Value} {F : Fn} (h : ∀ ns : List Int, ns.length ≤ 63 → ∃ ps, F [.scr ns] = .ret (.bl true) ps) : ∀ vs H Q E, spEnd K vs H Q E → spD K mg F vs H Q E := fun vs H Q E q => by
  obtain ⟨a, ns, rfl, hS, hl, q⟩ := q
  obtain ⟨ps, e⟩ := h ns hl
  refine ⟨[.scr ns], H, [], ⟨.ref a, [], [], [], rfl, rfl, ⟨a, rfl, hS, rfl⟩, rfl, rfl⟩, List.nodup_nil, (fun b hb => by cases hb), Sub.refl _, ?_⟩
  rw [e]
  intro v H' B' G Op r _ _ _ _ _
  obtain ⟨rfl, _⟩ := r
  exact q H'
theorem same_mg {mg : Str → Option Value} {x : Str} {a b : Addr} (g : mg x = some (.ref a)) (h : mg x = some (.ref b)) : b = a := by
  have e := g.symm.trans h
  cases e
  rfl
theorem kit_own {K : PySem.W.Frag} {A T : Addr} {b : Bool} (i : PySem.W.isClsIn K T = true) (t : PySem.W.typeIn K (.ref T) = some (.type "type")) (s : PySem.W.subIn K (.ref A) (.ref T) = some b) (r : PySem.W.subIn K (.ref T) (.ref T) = some true) : PySem.W.kitOne K (.ref A) (.ref T) = some b := by
  unfold PySem.W.kitOne
  by_cases h : ((Value.ref A) == (Value.ref T)) = true
  · rw [if_pos h]
    have e : Value.ref A = Value.ref T := beq_iff_eq.mp h
    rw [e, r] at s
    exact s
  · rw [if_neg h]
    have e2 : ((PySem.W.clsIn K T).isSome && PySem.W.typeIn K (.ref T) == some (.type "type")) = true := by
      have h2 : (PySem.W.clsIn K T).isSome = true := i
      rw [h2, t] <;> rfl
    show (if ((PySem.W.clsIn K T).isSome && PySem.W.typeIn K (.ref T) == some (.type "type")) = true then PySem.W.subIn K (.ref A) (.ref T) else none) = some b
    rw [if_pos e2]
    exact s
theorem kit_ty {K : PySem.W.Frag} {A : Addr} {T : String} {b : Bool} (m : PySem.W.kitMeta T = true) (s : PySem.W.subIn K (.ref A) (.type T) = some b) : PySem.W.kitOne K (.ref A) (.type T) = some b := by
  unfold PySem.W.kitOne
  have h : ((Value.ref A) == (Value.type T)) = false := rfl
  rw [if_neg (by rw [h]; exact Bool.false_ne_true)]
  show (if PySem.W.kitMeta T = true then PySem.W.subIn K (.ref A) (.type T) else none) = some b
  rw [if_pos m]
  exact s
end Gc

namespace Gc
open PySem PySem.Spec PyProof.Rows L2
/-! What denotations come to. -/
def tx (l : List Nat) : D := .str ⟨l.toArray⟩
theorem tx_def (l : List Nat) : D.str ⟨l.toArray⟩ = tx l := Eq.trans rfl rfl
theorem chr1_tx (c : Nat) : chr1 c = tx [c] := Eq.trans rfl rfl
section
variable {α β : Type} {ρ ρ1 : Ro} {d : D} {x : Exn}
theorem b_ok {a : α} {f : α → Ro → R β} : (R.ok a ρ).bind f = f a ρ := Eq.trans rfl rfl
theorem b_exc {f : α → Ro → R β} : (R.exc x ρ).bind f = .exc x ρ := Eq.trans rfl rfl
theorem s_ok {a : α} {f : α → Ro → RS} : (R.ok a ρ).toS f = f a ρ := Eq.trans rfl rfl
theorem s_exc {f : α → Ro → RS} : (R.exc x ρ : R α).toS f = .exc x ρ := Eq.trans rfl rfl
def RS.thn (r : RS) (n : MS) : RS := match r with
  | .nx ρ1 => n ρ1
  | r => r
theorem e_seq {m n : MS} : mSeq m n ρ = (m ρ).thn n := Eq.trans rfl rfl
theorem t_nx {n : MS} : (RS.nx ρ).thn n = n ρ := Eq.trans rfl rfl
theorem t_ret {n : MS} : (RS.ret d ρ).thn n = .ret d ρ := Eq.trans rfl rfl
theorem t_exc {n : MS} : (RS.exc x ρ).thn n = .exc x ρ := Eq.trans rfl rfl
theorem t_bk {n : MS} : (RS.bk ρ).thn n = .bk ρ := Eq.trans rfl rfl
theorem t_ct {n : MS} : (RS.ct ρ).thn n = .ct ρ := Eq.trans rfl rfl
theorem seq_nx {m n : MS} (h : m ρ = .nx ρ1) : mSeq m n ρ = n ρ1 := by rw [e_seq, h]; rfl
theorem seq_ret {m n : MS} (h : m ρ = .ret d ρ1) : mSeq m n ρ = .ret d ρ1 := by rw [e_seq, h]; rfl
theorem seq_exc {m n : MS} (h : m ρ = .exc x ρ1) : mSeq m n ρ = .exc x ρ1 := by rw [e_seq, h]; rfl
/-- what a name stands for -/
def nmO (i : Nat) (ρ : Ro) : Option D → R Op
  | some d => if isFz d = true then .ok (.val d) ρ else .ok (.plc i) ρ
  | none => .bad
theorem e_name {i : Nat} : mName i ρ = nmO i ρ (ρ[i]?).join := by
  unfold mName nmO
  rfl
theorem nm_fz {i : Nat} (h : isFz d = true) : nmO i ρ (some d) = .ok (.val d) ρ := if_pos h
theorem nm_own {i : Nat} (h : isFz d = false) : nmO i ρ (some d) = .ok (.plc i) ρ := if_neg (by rw [h]; exact Bool.false_ne_true)
theorem o_val {q : Bool} : okG (.val d) q = true := Eq.trans rfl rfl
theorem o_plc {i : Nat} {q : Bool} : okG (.plc i) q = true := Eq.trans rfl rfl
theorem o_tru {o : Op} : okG o true = true := by cases o <;> rfl
theorem r_val : rd (.val d) ρ = some d := Eq.trans rfl rfl
theorem r_plc {i : Nat} : rd (.plc i) ρ = (ρ[i]?).join := Eq.trans rfl rfl
theorem p_some : pu (some d) ρ = .ok (.val d) ρ := Eq.trans rfl rfl
theorem pb_some {b : Bool} : pb (some b) ρ = .ok b ρ := Eq.trans rfl rfl
theorem j_some : (some (some d) : Option (Option D)).join = some d := Eq.trans rfl rfl
theorem j_none : (some (none : Option D)).join = none := Eq.trans rfl rfl
/-- a name is given -/
def setO (i : Nat) (ρ1 : Ro) (o : Op) : RS := match o with
  | .val d => if i < ρ1.length then .nx (ρ1.set i (some d)) else .bad
  | o => match frO o ρ1 with
    | some (d, ρ2) => if i < ρ2.length then .nx (ρ2.set i (some d)) else .bad
    | none => .bad
theorem e_set {i : Nat} {ma : M Op} : mSet i ma ρ = (ma ρ).toS fun o ρ1 => setO i ρ1 o := Eq.trans rfl rfl
theorem set_val {i : Nat} (h : i < ρ.length) : setO i ρ (.val d) = .nx (ρ.set i (some d)) := if_pos h
theorem set_plc {i j : Nat} (e : (ρ[j]?).join = some d) (h : i < ρ.length) : setO i ρ (.plc j) = .nx ((ρ.set j (some (fz d))).set i (some (fz d))) := by
  show (match (match (ρ[j]?).join with | some d => some (fz d, ρ.set j (some (fz d))) | none => none) with
    | some (d, ρ2) => if i < ρ2.length then RS.nx (ρ2.set i (some d)) else .bad
    | none => .bad) = _
  rw [e]
  show (if i < (ρ.set j (some (fz d))).length then RS.nx _ else .bad) = _
  rw [if_pos (by rw [List.length_set]; exact h)]
theorem f_val : frO (.val d) ρ = some (fz d, ρ) := Eq.trans rfl rfl
theorem f_plc {i : Nat} (e : (ρ[i]?).join = some d) : frO (.plc i) ρ = some (fz d, ρ.set i (some (fz d))) := by
  show (match (ρ[i]?).join with | some d => some (fz d, ρ.set i (some (fz d))) | none => none) = _
  rw [e]
theorem fs_nil : frOs [] ρ = some ([], ρ) := Eq.trans rfl rfl
def frC (d : D) : Option (List D × Ro) → Option (List D × Ro)
  | some (ds, ρ2) => some (d :: ds, ρ2)
  | none => none
theorem fs_cons {o : Op} {os : List Op} (e : frO o ρ = some (d, ρ1)) : frOs (o :: os) ρ = frC d (frOs os ρ1) := by
  show (match frO o ρ with | some (d, ρ1) => (match frOs os ρ1 with | some (ds, ρ2) => some (d :: ds, ρ2) | none => none) | none => none) = _
  rw [e]
  rfl
theorem frc_some {ds : List D} : frC d (some (ds, ρ)) = some (d :: ds, ρ) := Eq.trans rfl rfl
theorem fs_val {os : List Op} : frOs (.val d :: os) ρ = frC (fz d) (frOs os ρ) := Eq.trans rfl rfl
theorem fs_plc {i : Nat} {os : List Op} (e : (ρ[i]?).join = some d) : frOs (.plc i :: os) ρ = frC (fz d) (frOs os (ρ.set i (some (fz d)))) := fs_cons (f_plc e)
theorem l_nil : rdL [] ρ = some [] := Eq.trans rfl rfl
def rdC : Option D → Option (List D) → Option (List D)
  | some d, some ds => some (d :: ds)
  | _, _ => none
theorem l_cons {o : Op} {os : List Op} : rdL (o :: os) ρ = rdC (rd o ρ) (rdL os ρ) := by
  show (match rd o ρ, rdL os ρ with | some d, some ds => some (d :: ds) | _, _ => none) = _
  rfl
theorem lc_some {ds : List D} : rdC (some d) (some ds) = some (d :: ds) := Eq.trans rfl rfl
/-- a result -/
def retO (L : List Nat) (ρ1 : Ro) (o : Op) : RS := match o with
  | .val d => .ret d ρ1
  | .plc i => match (ρ1[i]?).join with
    | some d => if L.contains i = true then .ret (fz d) (ρ1.set i (some (fz d))) else .ret d (ρ1.set i none)
    | none => .bad
  | .fld i f => match frO (.fld i f) ρ1 with
    | some (d, ρ2) => .ret d ρ2
    | none => .bad
theorem e_ret {L : List Nat} {ma : M Op} : mRet L ma ρ = (ma ρ).toS fun o ρ1 => retO L ρ1 o := Eq.trans rfl rfl
theorem ret_val {L : List Nat} : retO L ρ (.val d) = .ret d ρ := Eq.trans rfl rfl
theorem ret_plc {L : List Nat} {i : Nat} (e : (ρ[i]?).join = some d) (h : L.contains i = false) : retO L ρ (.plc i) = .ret d (ρ.set i none) := by
  show (match (ρ[i]?).join with | some d => if L.contains i = true then RS.ret (fz d) (ρ.set i (some (fz d))) else .ret d (ρ.set i none) | none => .bad) = _
  rw [e, h]
  rfl
theorem e_ifS {c : M Bool} {m n : MS} : mIfS c m n ρ = (c ρ).toS fun b ρ1 => if b = true then m ρ1 else n ρ1 := Eq.trans rfl rfl
/-- while: one turn -/
def whl (c : M Bool) (m : MS) (n : Nat) : RS → RS
  | .nx ρ2 => mWhile c m n ρ2
  | .ct ρ2 => mWhile c m n ρ2
  | .bk ρ2 => .nx ρ2
  | r => r
theorem e_while {c : M Bool} {m : MS} {n : Nat} : mWhile c m (n + 1) ρ = (c ρ).toS fun b ρ1 => if b = true then whl c m n (m ρ1) else .nx ρ1 := Eq.trans rfl rfl
theorem w_nx {c : M Bool} {m : MS} {n : Nat} : whl c m n (.nx ρ) = mWhile c m n ρ := Eq.trans rfl rfl
theorem w_ret {c : M Bool} {m : MS} {n : Nat} : whl c m n (.ret d ρ) = .ret d ρ := Eq.trans rfl rfl
theorem w_exc {c : M Bool} {m : MS} {n : Nat} : whl c m n (.exc x ρ) = .exc x ρ := Eq.trans rfl rfl
/-- for: one turn -/
def lpO (L : List Nat) (t : Tg) (m : MS) (ds : List D) : RS → RS
  | .nx ρ2 => mLoop L t m ds ρ2
  | .ct ρ2 => mLoop L t m ds ρ2
  | .bk ρ2 => .nx ρ2
  | r => r
theorem e_loop0 {L : List Nat} {t : Tg} {m : MS} : mLoop L t m [] ρ = .nx ρ := Eq.trans rfl rfl
theorem e_loop {L : List Nat} {t : Tg} {m : MS} {ds : List D} (e : t.put L d ρ = some ρ1) : mLoop L t m (d :: ds) ρ = lpO L t m ds (m ρ1) := by
  show (match t.put L d ρ with | none => RS.bad | some ρ1 => lpO L t m ds (m ρ1)) = _
  rw [e]
theorem lp_nx {L : List Nat} {t : Tg} {m : MS} {ds : List D} : lpO L t m ds (.nx ρ) = mLoop L t m ds ρ := Eq.trans rfl rfl
/-- a call: what F gives, given back -/
def bkO (os : List Op) (ρ2 : Ro) : FR → R Op
  | .ret d ps => match back os ps ρ2 with
    | some ρ3 => .ok (.val d) ρ3
    | none => .bad
  | .exc x ps => match back os ps ρ2 with
    | some ρ3 => .exc x ρ3
    | none => .bad
  | .bad => .bad
theorem e_call {F : Fn} {ms : M (List Op)} : mCall F ms ρ = (ms ρ).bind fun os ρ1 => callF F os ρ1 := Eq.trans rfl rfl
theorem e_callF {F : Fn} {os : List Op} {args : List D} (e : lend os ρ = some (args, ρ1)) : callF F os ρ = bkO os ρ1 (F args) := by
  unfold callF
  rw [e]
  rfl
theorem bk_ret {os : List Op} {ps ρ3 : Ro} (e : back os ps ρ = some ρ3) : bkO os ρ (.ret d ps) = .ok (.val d) ρ3 := by
  show (match back os ps ρ with | some ρ3 => R.ok (Op.val d) ρ3 | none => .bad) = _
  rw [e]
theorem bk_exc {os : List Op} {ps ρ3 : Ro} (e : back os ps ρ = some ρ3) : bkO os ρ (.exc x ps) = .exc x ρ3 := by
  show (match back os ps ρ with | some ρ3 => R.exc x ρ3 | none => .bad) = _
  rw [e]
def ldC (d : D) : Option (List D × Ro) → Option (List D × Ro)
  | some (ds, ρ') => some (d :: ds, ρ')
  | none => none
theorem ld_nil : lend [] ρ = some ([], ρ) := Eq.trans rfl rfl
theorem ld_val {os : List Op} : lend (.val d :: os) ρ = ldC (fz d) (lend os ρ) := Eq.trans rfl rfl
theorem ld_plc {i : Nat} {os : List Op} (e : (ρ[i]?).join = some d) : lend (.plc i :: os) ρ = ldC d (lend os (ρ.set i none)) := by
  show (match (ρ[i]?).join with | some d => (match lend os (ρ.set i none) with | some (ds, ρ') => some (d :: ds, ρ') | none => none) | none => none) = _
  rw [e]
  rfl
theorem ldc_some {ds : List D} : ldC d (some (ds, ρ)) = some (d :: ds, ρ) := Eq.trans rfl rfl
theorem bk_nil {ps : Ro} : back [] ps ρ = some ρ := by cases ps <;> rfl
theorem bk_val {os : List Op} {p : Option D} {ps : Ro} : back (.val d :: os) (p :: ps) ρ = back os ps ρ := Eq.trans rfl rfl
theorem bk_plc {i : Nat} {os : List Op} {p : Option D} {ps : Ro} (h : i < ρ.length) : back (.plc i :: os) (p :: ps) ρ = back os ps (ρ.set i p) := if_pos h
/-- a def's result -/
def runO (L : List Nat) (np : Nat) : RS → FR
  | .nx ρ => .ret .non (pick L.contains np ρ)
  | .ret d ρ => .ret d (pick L.contains np ρ)
  | .exc x ρ => .exc x (pick L.contains np ρ)
  | _ => .bad
theorem e_run {L : List Nat} {np N : Nat} {m : MS} {args : List D} (h : args.length = np) : runD L np N m args = runO L np (m (args.map some ++ List.replicate (N - np) none)) := by
  unfold runD
  rw [if_pos h]
  rfl
theorem ro_ret {L : List Nat} {np : Nat} : runO L np (.ret d ρ) = .ret d (pick L.contains np ρ) := Eq.trans rfl rfl
theorem ro_exc {L : List Nat} {np : Nat} : runO L np (.exc x ρ) = .exc x (pick L.contains np ρ) := Eq.trans rfl rfl
theorem ro_nx {L : List Nat} {np : Nat} : runO L np (.nx ρ) = .ret .non (pick L.contains np ρ) := Eq.trans rfl rfl
/-- an item of a row of operands -/
theorem e_mcons {qs : Bool} {ma : M Op} {ms : M (List Op)} : mCons qs ma ms ρ = (ma ρ).bind fun o ρ1 => if okG o qs = true then (ms ρ1).bind fun os ρ2 => .ok (o :: os) ρ2 else .bad := Eq.trans rfl rfl
theorem e_nx : mNx ρ = .nx ρ := Eq.trans rfl rfl
theorem e_nil : mNil ρ = .ok [] ρ := Eq.trans rfl rfl
theorem e_C : mC d ρ = .ok (.val d) ρ := Eq.trans rfl rfl
theorem e_P1 {g : D → Option D} {ma : M Op} : mP1 g ma ρ = (ma ρ).bind fun o ρ1 => pu ((rd o ρ1).bind g) ρ1 := Eq.trans rfl rfl
theorem e_P2 {qb : Bool} {g : D → D → Option D} {ma mb : M Op} : mP2 qb g ma mb ρ = (ma ρ).bind fun oa ρ1 => if okG oa qb = true then (mb ρ1).bind fun ob ρ2 => pu ((rd oa ρ2).bind fun a => (rd ob ρ2).bind fun b => g a b) ρ2 else .bad := Eq.trans rfl rfl
theorem e_B2 {qb : Bool} {g : D → D → Option Bool} {ma mb : M Op} : mB2 qb g ma mb ρ = (ma ρ).bind fun oa ρ1 => if okG oa qb = true then (mb ρ1).bind fun ob ρ2 => pb ((rd oa ρ2).bind fun a => (rd ob ρ2).bind fun b => g a b) ρ2 else .bad := Eq.trans rfl rfl
theorem e_PL {g : List D → Option D} {ms : M (List Op)} : mPL g ms ρ = (ms ρ).bind fun os ρ1 => pu ((rdL os ρ1).bind g) ρ1 := Eq.trans rfl rfl
theorem e_and {m n : M Bool} : mAnd m n ρ = (m ρ).bind fun b ρ1 => if b = true then n ρ1 else .ok false ρ1 := Eq.trans rfl rfl
theorem e_or {m n : M Bool} : mOr m n ρ = (m ρ).bind fun b ρ1 => if b = true then .ok true ρ1 else n ρ1 := Eq.trans rfl rfl
theorem e_not {m : M Bool} : mNot m ρ = (m ρ).bind fun b ρ1 => .ok (!b) ρ1 := Eq.trans rfl rfl
theorem e_bv {m : M Bool} : mBv m ρ = (m ρ).bind fun b ρ1 => .ok (.val (.bl b)) ρ1 := Eq.trans rfl rfl
theorem e_if {m : M Bool} {ma mb : M Op} : mIf m ma mb ρ = (m ρ).bind fun b ρ1 => if b = true then ma ρ1 else mb ρ1 := Eq.trans rfl rfl
def truO (ρ : Ro) : Option Bool → R Bool
  | some b => .ok b ρ
  | none => .bad
theorem e_tru {ma : M Op} : mTru ma ρ = (ma ρ).bind fun o ρ1 => truO ρ1 ((rd o ρ1).bind truthD) := by
  unfold mTru truO
  rfl
theorem tru_some {b : Bool} : truO ρ (some b) = .ok b ρ := Eq.trans rfl rfl
theorem e_drop {ma : M Op} : mDrop ma ρ = (ma ρ).toS fun _ ρ1 => .nx ρ1 := Eq.trans rfl rfl
def frK (f : List D → Option D) : Option (List D × Ro) → R Op
  | some (ds, ρ2) => pu (f ds) ρ2
  | none => .bad
theorem e_fr {f : List D → Option D} {ms : M (List Op)} : mFr f ms ρ = (ms ρ).bind fun os ρ1 => frK f (frOs os ρ1) := by
  unfold mFr frK
  rfl
theorem fk_some {f : List D → Option D} {ds : List D} : frK f (some (ds, ρ)) = pu (f ds) ρ := Eq.trans rfl rfl
def exO (c : Str) (ns : List Str) : Option (List D × Ro) → RS
  | some (ds, ρ2) => if ds.length = ns.length then .exc ⟨c, ns.reverse, ds.reverse⟩ ρ2 else .bad
  | none => .bad
theorem e_raise {c : Str} {ns : List Str} {ms : M (List Op)} : mRaise c ns ms ρ = (ms ρ).toS fun os ρ1 => exO c ns (frOs os ρ1) := by
  unfold mRaise exO
  rfl
theorem ex_some {c : Str} {ns : List Str} {ds : List D} (h : ds.length = ns.length) : exO c ns (some (ds, ρ)) = .exc ⟨c, ns.reverse, ds.reverse⟩ ρ := if_pos h
end
/-! ### on texts, numbers -/
theorem z_tx {l : List Nat} : isFz (tx l) = true := Eq.trans rfl rfl
theorem z_int {i : Int} : isFz (.int i) = true := Eq.trans rfl rfl
theorem z_bl {b : Bool} : isFz (.bl b) = true := Eq.trans rfl rfl
theorem z_non : isFz .non = true := Eq.trans rfl rfl
theorem z_lst {ds : List D} : isFz (.lst true ds) = false := Eq.trans rfl rfl
theorem fz_tx {l : List Nat} : fz (tx l) = tx l := Eq.trans rfl rfl
theorem fz_int {i : Int} : fz (.int i) = .int i := Eq.trans rfl rfl
theorem fz_bl {b : Bool} : fz (.bl b) = .bl b := Eq.trans rfl rfl
theorem fz_non : fz .non = .non := Eq.trans rfl rfl
theorem fz_lst {o : Bool} {ds : List D} (h : isFzL ds = true) : fz (.lst o ds) = .lst false ds := by
  show D.lst false (fzL ds) = _
  rw [fzL_of ds h]
theorem fz_tup {ds : List D} (h : isFzL ds = true) : fz (.tup ds) = .tup ds := by
  show D.tup (fzL ds) = _
  rw [fzL_of ds h]
theorem lim_eq : lim = 16777216 := Eq.trans rfl rfl
theorem g_len {l : List Nat} (h : l.length ≤ lim) : gLen [tx l] = some (.int (l.length : Nat)) := by
  show (if (l.toArray).size ≤ lim then some (D.int ((l.toArray).size : Nat)) else none) = _
  rw [List.size_toArray, if_pos h]
theorem g_lenL {o : Bool} {ds : List D} : gLen [.lst o ds] = some (.int (ds.length : Nat)) := Eq.trans rfl rfl
theorem g_lenT {ds : List D} : gLen [.tup ds] = some (.int (ds.length : Nat)) := Eq.trans rfl rfl
theorem g_lt {i j : Int} : gLt (.int i) (.int j) = some (decide (i < j)) := Eq.trans rfl rfl
theorem g_le {i j : Int} : gLe (.int i) (.int j) = some (decide (i ≤ j)) := Eq.trans rfl rfl
theorem g_gt {i j : Int} : gGt (.int i) (.int j) = some (decide (j < i)) := Eq.trans rfl rfl
theorem g_ge {i j : Int} : gGe (.int i) (.int j) = some (decide (j ≤ i)) := Eq.trans rfl rfl
theorem g_add {i j : Int} : gAdd (.int i) (.int j) = some (.int (i + j)) := Eq.trans rfl rfl
theorem g_sub {i j : Int} : gSub (.int i) (.int j) = some (.int (i - j)) := Eq.trans rfl rfl
theorem tx_inj {a b : List Nat} : tx a = tx b ↔ a = b := ⟨fun h => by
  unfold tx at h
  injection h with h
  injection h with h
  exact Array.toList_inj.mpr h |> fun h => by simpa using h, fun h => by rw [h]⟩
theorem g_cat {a b : List Nat} (h : a.length + b.length ≤ lim) : gAdd (tx a) (tx b) = some (tx (a ++ b)) := by
  show (if (a.toArray).size + (b.toArray).size ≤ lim then some (D.str ((⟨a.toArray⟩ : Str) ++ ⟨b.toArray⟩)) else none) = _
  rw [List.size_toArray, List.size_toArray, if_pos h]
  show some (D.str ⟨a.toArray ++ b.toArray⟩) = some (D.str ⟨(a ++ b).toArray⟩)
  rw [List.append_toArray]
theorem g_eqS {a b : List Nat} : gEq (tx a) (tx b) = some (decide (a = b)) := by
  show some (decide ((⟨a.toArray⟩ : Str) = ⟨b.toArray⟩)) = _
  congr 1
  exact decide_eq_decide.mpr ⟨fun h => by injection h with h; simpa using Array.toList_inj.mpr h, fun h => by rw [h]⟩
theorem g_eqI {i j : Int} : gEq (.int i) (.int j) = some (decide (i = j)) := Eq.trans rfl rfl
theorem g_neS {a b : List Nat} : gNe (tx a) (tx b) = some (!decide (a = b)) := by unfold gNe; rw [g_eqS]; rfl
theorem g_neI {i j : Int} : gNe (.int i) (.int j) = some (!decide (i = j)) := Eq.trans rfl rfl
theorem g_in1 {c : Nat} {l : List Nat} : gIn (tx [c]) (tx l) = some (decide (c ∈ l)) := by
  show some (isSub ⟨#[c]⟩ ⟨l.toArray⟩) = _
  rw [isSub_one]
theorem g_nin1 {c : Nat} {l : List Nat} : gNin (tx [c]) (tx l) = some (!decide (c ∈ l)) := by unfold gNin; rw [g_in1]; rfl
theorem at_nat {α : Type} {l : List α} {k : Nat} : atD l (k : Int) = l[k]? := by
  unfold atD L2.atI ixN
  rw [if_pos (by omega)]
  by_cases h : k < l.length
  · rw [if_pos (by omega)]
    rfl
  · rw [if_neg (by omega), List.getElem?_eq_none (by omega)]
    rfl
theorem g_ixS {l : List Nat} {k : Nat} (hl : l.length ≤ lim) : gIx (tx l) (.int (k : Int)) = (l[k]?).map fun c => tx [c] := by
  show (if (l.toArray).size ≤ lim then (atD l (k : Int)).map chr1 else none) = _
  rw [List.size_toArray, if_pos hl, at_nat]
  rfl
theorem g_ixL {o : Bool} {ds : List D} {k : Nat} : gIx (.lst o ds) (.int (k : Int)) = (ds[k]?).bind okz := by
  show (atD ds (k : Int)).bind okz = _
  rw [at_nat]
theorem g_ixT {ds : List D} {k : Nat} : gIx (.tup ds) (.int (k : Int)) = (ds[k]?).bind okz := by
  show (atD ds (k : Int)).bind okz = _
  rw [at_nat]
theorem k_some {d : D} (h : isFz d = true) : okz d = some d := if_pos h
end Gc

namespace Gc
open PySem PySem.Spec PyProof.Rows L2
section
variable {α β : Type} {ρ ρ1 : Ro} {d : D} {x : Exn}
/-- an end of a slice -/
def partO (ρ1 : Ro) : Option D → R (Option Int)
  | some (.int i) => .ok (some i) ρ1
  | _ => .bad
theorem e_part {ma : M Op} : mPart ma ρ = (ma ρ).bind fun o ρ1 => partO ρ1 (rd o ρ1) := by
  unfold mPart partO
  rfl
theorem e_nopart : mNoPart ρ = .ok none ρ := Eq.trans rfl rfl
theorem part_int {i : Int} : partO ρ (some (.int i)) = .ok (some i) ρ := Eq.trans rfl rfl
theorem e_sl {ql qh : Bool} {ma : M Op} {ml mh : M (Option Int)} : mSl ql qh ma ml mh ρ = (ma ρ).bind fun o ρ1 => if okG o (ql && qh) = true then (ml ρ1).bind fun lo ρ2 => (mh ρ2).bind fun hi ρ3 => pu ((rd o ρ3).bind fun x => gSl x lo hi) ρ3 else .bad := Eq.trans rfl rfl
theorem cut_nn {l : List α} {a b : Nat} : cutD l (some (a : Int)) (some (b : Int)) = (l.drop a).take (b - a) := by
  unfold cutD
  rw [HT.sIx_nat, HT.sIx_nat]
  by_cases h : a ≤ l.length
  · rw [Nat.min_eq_left h]
    by_cases h2 : b ≤ l.length
    · rw [Nat.min_eq_left h2]
    · rw [Nat.min_eq_right (by omega), List.take_of_length_le (by rw [List.length_drop]; omega), List.take_of_length_le (by rw [List.length_drop]; omega)]
  · rw [Nat.min_eq_right (by omega : l.length ≤ a), List.drop_eq_nil_of_le (Nat.le_refl _), List.drop_eq_nil_of_le (by omega)]
    simp
theorem cut_0n {l : List α} {b : Nat} : cutD l none (some (b : Int)) = l.take b := by
  unfold cutD
  rw [HT.sIx_nat, HT.sIx_none, List.drop_zero, Nat.sub_zero]
  by_cases h : b ≤ l.length
  · rw [Nat.min_eq_left h]
  · rw [Nat.min_eq_right (by omega), List.take_of_length_le (by omega), List.take_of_length_le (by omega)]
theorem cut_n0 {l : List α} {a : Nat} : cutD l (some (a : Int)) none = l.drop a := by
  unfold cutD
  rw [HT.sIx_nat, HT.sIx_none]
  by_cases h : a ≤ l.length
  · rw [Nat.min_eq_left h, List.take_of_length_le (by rw [List.length_drop]; omega)]
  · rw [Nat.min_eq_right (by omega : l.length ≤ a), List.drop_eq_nil_of_le (Nat.le_refl _), List.drop_eq_nil_of_le (by omega)]
    simp
theorem cut_00 {l : List α} : cutD l none none = l := by
  unfold cutD
  rw [HT.sIx_none, HT.sIx_none]
  simp
theorem g_slS {l : List Nat} {lo hi : Option Int} (h : l.length ≤ lim) : gSl (tx l) lo hi = some (tx (cutD l lo hi)) := by
  show (if (l.toArray).size ≤ lim then some (D.str ⟨(cutD l lo hi).toArray⟩) else none) = _
  rw [List.size_toArray, if_pos h]
  rfl
theorem cutL {ds : List D} {lo hi : Option Int} (h : isFzL ds = true) : isFzL (cutD ds lo hi) = true := by
  refine isFzL_iff.mpr fun d hd => isFzL_iff.mp h d ?_
  unfold cutD at hd
  exact List.mem_of_mem_drop (List.mem_of_mem_take hd)
theorem g_slL {o : Bool} {ds : List D} {lo hi : Option Int} (h : isFzL ds = true) : gSl (.lst o ds) lo hi = some (.lst true (cutD ds lo hi)) := if_pos (cutL h)
theorem g_slT {ds : List D} {lo hi : Option Int} (h : isFzL ds = true) : gSl (.tup ds) lo hi = some (.tup (cutD ds lo hi)) := if_pos h
theorem g_tup {ds : List D} (h : ds.length ≤ lim) : gTup ds = some (.tup ds) := if_pos h
theorem g_lst {ds : List D} (h : ds.length ≤ lim) : gLst ds = some (.lst true ds) := if_pos h
theorem g_catL {o1 o2 : Bool} {a b : List D} (h : isFzL a = true) (h2 : isFzL b = true) (h3 : a.length + b.length ≤ lim) : gAdd (.lst o1 a) (.lst o2 b) = some (.lst true (a ++ b)) := by
  show (if (isFzL a && isFzL b) = true ∧ a.length + b.length ≤ lim then some (D.lst true (a ++ b)) else none) = _
  rw [if_pos ⟨by rw [h, h2]; rfl, h3⟩]
theorem zl_nil : isFzL [] = true := Eq.trans rfl rfl
theorem zl_cons {d : D} {ds : List D} : isFzL (d :: ds) = (isFz d && isFzL ds) := Eq.trans rfl rfl
theorem z_lstF {ds : List D} : isFz (.lst false ds) = isFzL ds := by
  show (!false && isFzL ds) = _
  simp
theorem z_tup {ds : List D} : isFz (.tup ds) = isFzL ds := Eq.trans rfl rfl
theorem fzl_nil : fzL [] = [] := Eq.trans rfl rfl
theorem fzl_cons {d : D} {ds : List D} : fzL (d :: ds) = fz d :: fzL ds := Eq.trans rfl rfl
theorem fz_lstE {o : Bool} {ds : List D} : fz (.lst o ds) = .lst false (fzL ds) := Eq.trans rfl rfl
theorem fz_tupE {ds : List D} : fz (.tup ds) = .tup (fzL ds) := Eq.trans rfl rfl
/-! ### and, or, not of values -/
def andO (mb : M Op) (ρ1 : Ro) : Option D → R Op
  | some (.bl b) => if b = true then mb ρ1 else .ok (.val (.bl false)) ρ1
  | _ => .bad
def orO (mb : M Op) (ρ1 : Ro) : Option D → R Op
  | some (.bl b) => if b = true then .ok (.val (.bl true)) ρ1 else mb ρ1
  | _ => .bad
def notO (ρ1 : Ro) : Option D → R Op
  | some (.bl b) => .ok (.val (.bl (!b))) ρ1
  | _ => .bad
theorem e_andV {ma mb : M Op} : mAndV ma mb ρ = (ma ρ).bind fun o ρ1 => andO mb ρ1 (rd o ρ1) := by unfold mAndV andO; rfl
theorem e_orV {ma mb : M Op} : mOrV ma mb ρ = (ma ρ).bind fun o ρ1 => orO mb ρ1 (rd o ρ1) := by unfold mOrV orO; rfl
theorem e_notV {ma : M Op} : mNotV ma ρ = (ma ρ).bind fun o ρ1 => notO ρ1 (rd o ρ1) := by unfold mNotV notO; rfl
theorem and_bl {mb : M Op} {b : Bool} : andO mb ρ (some (.bl b)) = if b = true then mb ρ else .ok (.val (.bl false)) ρ := Eq.trans rfl rfl
theorem or_bl {mb : M Op} {b : Bool} : orO mb ρ (some (.bl b)) = if b = true then .ok (.val (.bl true)) ρ else mb ρ := Eq.trans rfl rfl
theorem not_bl {b : Bool} : notO ρ (some (.bl b)) = .ok (.val (.bl (!b))) ρ := Eq.trans rfl rfl
/-! ### isinstance -/
def isiO (T : String) (ρ1 : Ro) : Option String → R Op
  | some t => .ok (.val (.bl (isiB t T))) ρ1
  | none => .bad
theorem e_isi {T : String} {ma : M Op} : mIsi T ma ρ = (ma ρ).bind fun o ρ1 => isiO T ρ1 ((rd o ρ1).bind typeD) := by unfold mIsi isiO; rfl
theorem isi_some {T t : String} : isiO T ρ (some t) = .ok (.val (.bl (isiB t T))) ρ := Eq.trans rfl rfl
theorem td_non : typeD .non = some "NoneType" := Eq.trans rfl rfl
theorem td_bl {b : Bool} : typeD (.bl b) = some "bool" := Eq.trans rfl rfl
theorem td_int {i : Int} : typeD (.int i) = some "int" := Eq.trans rfl rfl
theorem td_tx {l : List Nat} : typeD (tx l) = some "str" := Eq.trans rfl rfl
theorem td_tup {ds : List D} : typeD (.tup ds) = some "tuple" := Eq.trans rfl rfl
theorem td_lst {o : Bool} {ds : List D} : typeD (.lst o ds) = some "list" := Eq.trans rfl rfl
/-! ### a chain -/
def chO (qc : Bool) (g' : D → D → Option Bool) (ob : Op) (mc : M Op) (ρ2 : Ro) : Option Bool → R Bool
  | some true => if okG ob qc = true then (mc ρ2).bind fun oc ρ3 => pb ((rd ob ρ3).bind fun b => (rd oc ρ3).bind fun c => g' b c) ρ3 else .bad
  | some false => .ok false ρ2
  | none => .bad
theorem e_chain {qb qc : Bool} {g g' : D → D → Option Bool} {ma mb mc : M Op} : mChain qb qc g g' ma mb mc ρ = (ma ρ).bind fun oa ρ1 => if okG oa qb = true then (mb ρ1).bind fun ob ρ2 => chO qc g' ob mc ρ2 ((rd oa ρ2).bind fun a => (rd ob ρ2).bind fun b => g a b) else .bad := by unfold mChain chO; rfl
theorem ch_t {qc : Bool} {g' : D → D → Option Bool} {ob : Op} {mc : M Op} : chO qc g' ob mc ρ (some true) = if okG ob qc = true then (mc ρ).bind fun oc ρ3 => pb ((rd ob ρ3).bind fun b => (rd oc ρ3).bind fun c => g' b c) ρ3 else .bad := Eq.trans rfl rfl
theorem ch_f {qc : Bool} {g' : D → D → Option Bool} {ob : Op} {mc : M Op} : chO qc g' ob mc ρ (some false) = .ok false ρ := Eq.trans rfl rfl
/-! ### targets, loops -/
def putK (L : List Nat) (t : Tg) : Option (D × Ro) → RS
  | some (d, ρ2) => (match t.put L d ρ2 with
    | some ρ3 => .nx ρ3
    | none => .bad)
  | none => .bad
theorem e_put {L : List Nat} {t : Tg} {ma : M Op} : mPut L t ma ρ = (ma ρ).toS fun o ρ1 => putK L t (frO o ρ1) := by unfold mPut putK; rfl
theorem put_some {L : List Nat} {t : Tg} {ρ3 : Ro} (e : t.put L d ρ = some ρ3) : putK L t (some (d, ρ)) = .nx ρ3 := by
  show (match t.put L d ρ with | some ρ3 => RS.nx ρ3 | none => .bad) = _
  rw [e]
theorem e_for {L : List Nat} {t : Tg} {mi : M (List D)} {m : MS} : mFor L t mi m ρ = (mi ρ).toS fun ds ρ1 => mLoop L t m ds ρ1 := Eq.trans rfl rfl
def itK : Option (D × Ro) → R (List D)
  | some (d, ρ2) => (match itemsD d with
    | some ds => .ok ds ρ2
    | none => .bad)
  | none => .bad
theorem e_iter {ma : M Op} : mIter ma ρ = (ma ρ).bind fun o ρ1 => itK (frO o ρ1) := by unfold mIter itK; rfl
theorem it_lst {o : Bool} {ds : List D} : itK (some (.lst o ds, ρ)) = .ok ds ρ := Eq.trans rfl rfl
theorem it_tup {ds : List D} : itK (some (.tup ds, ρ)) = .ok ds ρ := Eq.trans rfl rfl
theorem it_tx {l : List Nat} : itK (some (tx l, ρ)) = .ok (l.map fun c => tx [c]) ρ := by
  show R.ok (l.toArray.toList.map chr1) ρ = _
  rw [List.toList_toArray]
  rfl
def rgK (ρ1 : Ro) : Option (List D) → R (List D)
  | some [.int n] => .ok (rngD 0 n.toNat) ρ1
  | _ => .bad
def enK : Option (List D × Ro) → R (List D)
  | some ([.lst _ ds], ρ2) => .ok (enumD 0 ds) ρ2
  | _ => .bad
theorem e_enum {ms : M (List Op)} : mEnum ms ρ = (ms ρ).bind fun os ρ1 => enK (frOs os ρ1) := by unfold mEnum enK; rfl
theorem en_lst {o : Bool} {ds : List D} : enK (some ([.lst o ds], ρ)) = .ok (enumD 0 ds) ρ := Eq.trans rfl rfl
/-! ### comprehensions -/
def cmO (L : List Nat) (t : Tg) (mt : M Bool) (me : M Op) (vs : List Nat) (ds : List D) (ρ1 : Ro) : R Op := if compOk L vs ρ1 = true then (mcLoop L t mt me vs ds [] (wipeR ρ1 vs)).nox.bind fun out ρ2 => .ok (.val (.lst true out)) (restR ρ1 vs ρ2) else .bad
theorem e_comp {L : List Nat} {t : Tg} {mi : M (List D)} {mt : M Bool} {me : M Op} {vs : List Nat} : mComp L t mi mt me vs ρ = (mi ρ).bind fun ds ρ1 => cmO L t mt me vs ds ρ1 := Eq.trans rfl rfl
theorem e_yes : mYes ρ = .ok true ρ := Eq.trans rfl rfl
/-- a comprehension whose elements come one by one, the slots as they were -/
theorem mc_map {L : List Nat} {t : Tg} {me : M Op} {vs : List Nat} {f : D → D} {ρ : Ro} : ∀ {ds acc : List D}, (∀ d ∈ ds, ∃ ρ1 o ρ3 ρ4, t.put L d ρ = some ρ1 ∧ me ρ1 = .ok o ρ3 ∧ frO o ρ3 = some (f d, ρ4) ∧ wipeR ρ4 vs = ρ) → acc.length + ds.length ≤ lim →
    mcLoop L t mYes me vs ds acc ρ = .ok (acc ++ ds.map f) ρ
  | [], acc, _, _ => by rw [List.map_nil, List.append_nil]; rfl
  | d :: ds, acc, h, hl => by
    obtain ⟨ρ1, o, ρ3, ρ4, h1, h2, h3, h4⟩ := h d List.mem_cons_self
    rw [mcLoop_cons, h1]
    show ((me ρ1).bind fun o ρ3 => (match frO o ρ3 with
      | some (x, ρ4) => if acc.length < lim then mcLoop L t mYes me vs ds (acc ++ [x]) (wipeR ρ4 vs) else .bad
      | none => .bad : R (List D))) = _
    rw [h2]
    show (match frO o ρ3 with | some (x, ρ4) => if acc.length < lim then mcLoop L t mYes me vs ds (acc ++ [x]) (wipeR ρ4 vs) else .bad | none => .bad) = _
    rw [h3]
    rw [List.length_cons] at hl
    show (if acc.length < lim then mcLoop L t mYes me vs ds (acc ++ [f d]) (wipeR ρ4 vs) else .bad) = _
    rw [if_pos (by omega), h4, mc_map (fun x hx => h x (List.mem_cons_of_mem _ hx)) (by rw [List.length_append]; simp only [List.length_cons, List.length_nil]; omega), List.map_cons, List.append_assoc]
    rfl
/-! ### writing -/
def mtK (x : D) : Option Ro → R Op
  | some ρ4 => .ok (.val x) ρ4
  | none => .bad
def meK (o : Op) (g : D → List D → Option (D × D)) : Option (List D × Ro) → R Op
  | some (ds, ρ3) => (match (rd o ρ3).bind fun d => g d ds with
    | some (x, _) => mtK x (mutO o (fun d => (g d ds).map Prod.snd) ρ3)
    | none => .bad)
  | none => .bad
theorem e_meth {qs : Bool} {ck : D → Bool} {g : D → List D → Option (D × D)} {mo : M Op} {ms : M (List Op)} : mMeth qs ck g mo ms ρ = (mo ρ).bind fun o ρ1 => if okG o qs = true ∧ ((rd o ρ1).map ck) = some true then (ms ρ1).bind fun os ρ2 => meK o g (frOs os ρ2) else .bad := by unfold mMeth meK mtK; rfl
theorem me_plc {i : Nat} {g : D → List D → Option (D × D)} {ds : List D} {d d' x : D} (e : (ρ[i]?).join = some d) (h : g d ds = some (x, d')) : meK (.plc i) g (some (ds, ρ)) = .ok (.val x) (ρ.set i (some d')) := by
  show (match ((ρ[i]?).join).bind fun d => g d ds with
    | some (x, _) => mtK x (mutO (.plc i) (fun d => (g d ds).map Prod.snd) ρ)
    | none => .bad) = _
  rw [e]
  show (match g d ds with
    | some (x, _) => mtK x (mutO (.plc i) (fun d => (g d ds).map Prod.snd) ρ)
    | none => .bad) = _
  rw [h]
  show mtK x (match (ρ[i]?).join with
    | some d => ((g d ds).map Prod.snd).map fun d' => ρ.set i (some d')
    | none => none) = _
  rw [e]
  show mtK x (((g d ds).map Prod.snd).map fun d' => ρ.set i (some d')) = _
  rw [h]
  rfl
theorem g_app {ds : List D} {x : D} (h : ds.length < lim) : gApp (.lst true ds) [x] = some (.non, .lst true (ds ++ [x])) := if_pos h
theorem ck_lst {o : Bool} {ds : List D} : isLst (.lst o ds) = true := Eq.trans rfl rfl
def puK (mo : M Op) (qi : Bool) (mi : M Op) (g : D → D → D → Option D) : Option (D × Ro) → R Op
  | some (x, ρ2) => (mo ρ2).bind fun oo ρ3 => if okG oo qi = true ∧ ((rd oo ρ3).map anyD) = some true then (mi ρ3).bind fun oi ρ4 => (match rd oi ρ4 with
    | some i => mtK .non (mutO oo (fun d => g d i x) ρ4)
    | none => .bad) else .bad
  | none => .bad
theorem e_putAt {qi : Bool} {g : D → D → D → Option D} {me mo mi : M Op} : mPutAt qi g me mo mi ρ = (me ρ).bind fun oe ρ1 => puK mo qi mi g (frO oe ρ1) := by unfold mPutAt puK mtK; rfl
/-! ### try -/
def tryO (cs : List Cl) : RS → RS
  | .exc x ρ1 => hand cs x ρ1
  | r => r
theorem e_try {m : MS} {cs : List Cl} : mTry m cs ρ = tryO cs (m ρ) := by unfold mTry tryO; rfl
theorem try_ret {cs : List Cl} : tryO cs (.ret d ρ) = .ret d ρ := Eq.trans rfl rfl
theorem try_nx {cs : List Cl} : tryO cs (.nx ρ) = .nx ρ := Eq.trans rfl rfl
theorem try_exc {cs : List Cl} : tryO cs (.exc x ρ) = hand cs x ρ := Eq.trans rfl rfl
theorem hand_t {cat : List (Str × Bool)} {i : Nat} {su : Exn → MS} {cs : List Cl} (e : cat.lookup x.c = some true) (h : i < ρ.length) : hand (⟨cat, i, su⟩ :: cs) x ρ = unb i (su x (ρ.set i none)) := by
  show (match cat.lookup x.c with
    | some true => if i < ρ.length then unb i (su x (ρ.set i none)) else .bad
    | some false => hand cs x ρ
    | none => .bad) = _
  rw [e]
  exact if_pos h
theorem hand_f {cat : List (Str × Bool)} {i : Nat} {su : Exn → MS} {cs : List Cl} (e : cat.lookup x.c = some false) : hand (⟨cat, i, su⟩ :: cs) x ρ = hand cs x ρ := by
  show (match cat.lookup x.c with
    | some true => if i < ρ.length then unb i (su x (ρ.set i none)) else .bad
    | some false => hand cs x ρ
    | none => .bad) = _
  rw [e]
theorem unb_ret {i : Nat} : unb i (.ret d ρ) = .ret d (ρ.set i none) := Eq.trans rfl rfl
def xfO (ρ : Ro) : Option D → R Op
  | some d => .ok (.val d) ρ
  | none => .bad
theorem e_xf {f : Str} : mXf x f ρ = xfO ρ (lookF f x.ns x.ds) := by unfold mXf xfO; rfl
theorem xf_some : xfO ρ (some d) = .ok (.val d) ρ := Eq.trans rfl rfl
def xiO (ρ : Ro) : Option Bool → R Bool
  | some b => .ok b ρ
  | none => .bad
theorem e_xis {t : List (Str × Bool)} : mXis x t ρ = xiO ρ (t.lookup x.c) := by unfold mXis xiO; rfl
theorem xi_some {b : Bool} : xiO ρ (some b) = .ok b ρ := Eq.trans rfl rfl
end
end Gc

namespace Gc
open PySem PySem.Spec PyProof.Rows L2
/-! What the laws share: the stream of digits, the comparison. -/
def m_next : MS := (mSeq (mIfS (mB2 true gEq (mP2 true gIx (mName 0) (mC (.int 1))) (mC (.int 0))) (mSeq (mSet 3 (mP2 true gIx (mName 0) (mC (.int 2)))) (mSeq (mSet 4 (mP2 true gAdd (mC (.int 7)) (mName 3))) (mSeq (mIfS (mB2 true gLt (mName 3) (mPL gLen (mCons true (mP2 true gIx (mName 0) (mC (.int 0))) mNil))) (mSet 4 (mPL gAbs (mCons true (mP2 true gIx (mP2 true gIx (mName 0) (mC (.int 0))) (mName 3)) mNil))) mNx) (mSeq (mIfS (mB2 true gLt (mName 4) (mP2 true gPow (mC (.int 10)) (mC (.int 18)))) (mSeq (mSet 4 (mP2 true gMod (mPL gInt (mCons true (mP2 true gAdd (mP2 true gAdd (mP2 true gMulX (mName 4) (mC (.int 48271))) (mP2 true gMulX (mName 3) (mC (.int 69621)))) (mC (.int 11))) mNil)) (mC (.int 2147483647)))) (mSet 4 (mP2 true gAdd (mP2 true gMulX (mP2 true gMod (mPL gInt (mCons true (mP2 true gAdd (mP2 true gMulX (mName 4) (mC (.int 16807))) (mC (.int 13))) mNil)) (mC (.int 2147483647))) (mC (.int 65537))) (mName 4)))) mNx) (mSeq (mDrop (mPutAt true gSetL (mName 4) (mName 0) (mC (.int 1)))) (mDrop (mPutAt true gSetL (mP2 true gAdd (mName 3) (mC (.int 1))) (mName 0) (mC (.int 2))))))))) mNx) (mSeq (mSet 2 (mP2 true gMod (mPL gInt (mCons true (mP2 true gIx (mName 0) (mC (.int 1))) mNil)) (mName 1))) (mSeq (mDrop (mPutAt true gSetL (mP2 true gDiv (mP2 true gIx (mName 0) (mC (.int 1))) (mName 1)) (mName 0) (mC (.int 1)))) (mRet [0, 1] (mName 2)))))
def F_next : Fn := runD [0, 1] 2 5 m_next
def m_stream : MS := (mRet [0] (mFr gLst (mCons true (mPL gListC (mCons true (mName 0) mNil)) (mCons true (mC (.int 0)) (mCons true (mC (.int 0)) mNil)))))
def F_stream : Fn := runD [0] 1 1 m_stream
def m_isint : MS := (mRet [0] (mAndV (mIsi "int" (mName 0)) (mNotV (mIsi "bool" (mName 0)))))
def F_isint : Fn := runD [0] 1 1 m_isint
def m_pick : MS := (mRet [0, 1] (mP2 false gIx (mName 1) (mCall F_next (mCons true (mName 0) (mCons true (mPL gLen (mCons true (mName 1) mNil)) mNil)))))
def F_pick : Fn := runD [0, 1] 2 2 m_pick
def m_equal (G : Fn) : MS := (mSeq (mIfS (mB2 true gIs (mName 1) (mC .non)) (mRet [0, 1] (mBv (mB2 true gIs (mName 0) (mC .non)))) mNx) (mSeq (mIfS (mTru (mIsi "bool" (mName 1))) (mRet [0, 1] (mAndV (mIsi "bool" (mName 0)) (mBv (mB2 true gEq (mName 0) (mName 1))))) mNx) (mSeq (mIfS (mTru (mIsi "int" (mName 1))) (mRet [0, 1] (mAndV (mCall F_isint (mCons true (mName 0) mNil)) (mBv (mB2 true gEq (mName 0) (mName 1))))) mNx) (mSeq (mIfS (mTru (mIsi "str" (mName 1))) (mRet [0, 1] (mAndV (mIsi "str" (mName 0)) (mBv (mB2 true gEq (mName 0) (mName 1))))) mNx) (mSeq (mIfS (mAnd (mTru (mIsi "tuple" (mName 1))) (mNot (mTru (mIsi "tuple" (mName 0))))) (mRet [0, 1] (mC (.bl false))) mNx) (mSeq (mIfS (mAnd (mTru (mIsi "list" (mName 1))) (mNot (mTru (mIsi "list" (mName 0))))) (mRet [0, 1] (mC (.bl false))) mNx) (mSeq (mIfS (mB2 true gNe (mPL gLen (mCons true (mName 0) mNil)) (mPL gLen (mCons true (mName 1) mNil))) (mRet [0, 1] (mC (.bl false))) mNx) (mRet [0, 1] (mPL gAll (mCons true (mComp [0, 1] (.nm 2) (mRng1 (mCons true (mPL gLen (mCons true (mName 1) mNil)) mNil)) mYes (mCall G (mCons true (mP2 true gIx (mName 0) (mName 2)) (mCons true (mP2 true gIx (mName 1) (mName 2)) mNil))) [2]) mNil))))))))))
def F_equal : Nat → Fn
  | 0 => fun _ => .bad
  | n + 1 => runD [0, 1] 2 3 (m_equal (F_equal n))
/-- the stream -/
def stm (ns : List Int) (c : Int) (k : Nat) : D := .lst true [.lst false (ns.map .int), .int c, .int (k : Int)]
theorem zl_ints (ns : List Int) : isFzL (ns.map .int) = true := isFzL_iff.mpr fun d h => by
  obtain ⟨i, _, rfl⟩ := List.mem_map.mp h
  rfl
theorem g_pow18 : gPow (.int 10) (.int 18) = some (.int (10 ^ 18)) := by
  show (if (0 : Int) ≤ 18 ∧ (18 : Int) ≤ 1000000 ∧ (10 : Int).natAbs < 2 ^ 64 then some (D.int (10 ^ (18 : Int).toNat)) else none) = _
  rw [if_pos (by decide)]
  rfl
theorem g_mulK {i j : Int} (h : -(2 ^ 64) < j ∧ j < 2 ^ 64) : gMulX (.int i) (.int j) = some (.int (i * j)) := by
  show (if (-(2 ^ 64) < i ∧ i < 2 ^ 64) ∨ (-(2 ^ 64) < j ∧ j < 2 ^ 64) then some (D.int (i * j)) else none) = _
  rw [if_pos (.inr h)]
theorem g_mod {i j : Int} (h : j ≠ 0) : gMod (.int i) (.int j) = some (.int (i.fmod j)) := by
  show (if j ≠ 0 then some (D.int (i.fmod j)) else none) = _
  rw [if_pos h]
theorem g_div {i j : Int} (h : j ≠ 0) (h2 : j.natAbs < 1073741824) : gDiv (.int i) (.int j) = some (.int (i.fdiv j)) := by
  show (if j ≠ 0 ∧ j.natAbs < 1073741824 then some (D.int (i.fdiv j)) else none) = _
  rw [if_pos ⟨h, h2⟩]
theorem g_abs {i : Int} : gAbs [.int i] = some (.int (if i < 0 then -i else i)) := Eq.trans rfl rfl
theorem g_int {i : Int} : gInt [.int i] = some (.int i) := Eq.trans rfl rfl
theorem g_intB {b : Bool} : gInt [.bl b] = some (.int (if b = true then 1 else 0)) := Eq.trans rfl rfl
theorem g_max {i j : Int} : gMax2 [.int i, .int j] = some (.int (if j > i then j else i)) := Eq.trans rfl rfl
theorem g_min {i j : Int} : gMin2 [.int i, .int j] = some (.int (if j < i then j else i)) := Eq.trans rfl rfl
theorem fmod_r {i m : Int} (h : 0 < m) : 0 ≤ i.fmod m ∧ i.fmod m < m := ⟨Int.fmod_nonneg_of_pos i h, Int.fmod_lt_of_pos i h⟩
/-- a store at a place of a slot's list -/
theorem pu_plc {ρ : Ro} {i : Nat} {qi : Bool} {mi : M Op} {x : D} {ds : List D} {k : Nat} (e : (ρ[i]?).join = some (.lst true ds)) (h : mi ρ = .ok (.val (.int (k : Int))) ρ) (hk : k < ds.length) : puK (fun ρ => .ok (.plc i) ρ) qi mi gSetL (some (x, ρ)) = .ok (.val .non) (ρ.set i (some (.lst true (ds.set k x)))) := by
  show (if okG (.plc i) qi = true ∧ ((rd (.plc i) ρ).map anyD) = some true then (mi ρ).bind fun oi ρ4 => (match rd oi ρ4 with
    | some i' => mtK .non (mutO (.plc i) (fun d => gSetL d i' x) ρ4)
    | none => .bad) else .bad) = _
  have e' : rd (.plc i) ρ = some (.lst true ds) := e
  rw [e', if_pos ⟨rfl, rfl⟩, h]
  show mtK .non (match (ρ[i]?).join with
    | some d => (gSetL d (.int (k : Int)) x).map fun d' => ρ.set i (some d')
    | none => none) = _
  rw [e]
  show mtK .non (((ixN ds.length (k : Int)).map fun j => D.lst true (ds.set j x)).map fun d' => ρ.set i (some d')) = _
  have hx : ixN ds.length (k : Int) = some k := by
    unfold ixN
    rw [if_pos (by omega), if_pos (by omega)]
    rfl
  rw [hx]
  rfl

theorem e_setAt {ρ : Ro} {i : Nat} {qi : Bool} {me mi : M Op} {x x0 : D} {ds : List D} {k : Nat} (e : (ρ[i]?).join = some (.lst true ds)) (he : me ρ = .ok (.val x0) ρ) (hx : fz x0 = x) (h : mi ρ = .ok (.val (.int (k : Int))) ρ) (hk : k < ds.length) : mPutAt qi gSetL me (mName i) mi ρ = .ok (.val .non) (ρ.set i (some (.lst true (ds.set k x)))) := by
  rw [e_putAt, he]
  show puK (mName i) qi mi gSetL (some (fz x0, ρ)) = _
  rw [hx]
  have q := pu_plc (qi := qi) (mi := mi) (x := x) e h hk
  show (mName i ρ).bind _ = _
  rw [e_name, e, nm_own z_lst]
  exact q
theorem next_st (ns : List Int) (many : Int) (k : Nat) (cell : Int) : (mSeq (mDrop (mPutAt true gSetL (mName 4) (mName 0) (mC (.int 1)))) (mDrop (mPutAt true gSetL (mP2 true gAdd (mName 3) (mC (.int 1))) (mName 0) (mC (.int 2))))) [some (.lst true [.lst false (ns.map .int), .int 0, .int (k : Int)]), some (.int many), none, some (.int (k : Int)), some (.int cell)] = .nx [some (.lst true [.lst false (ns.map .int), .int cell, .int ((k + 1 : Nat) : Int)]), some (.int many), none, some (.int (k : Int)), some (.int cell)] := by
      rw [e_seq, e_drop, e_setAt (mi := mC (.int 1)) (k := 1) (ds := [.lst false (ns.map .int), .int 0, .int (k : Int)]) (x := .int cell) (x0 := .int cell) rfl (by simp only [e_nx, b_ok, b_exc, s_ok, s_exc, e_seq, t_nx, t_ret, t_exc, t_bk, t_ct, e_name, nm_fz, nm_own, o_val, o_plc, o_tru, r_val, r_plc, p_some, pb_some, j_some, j_none, e_set, set_val, f_val, fs_nil, fs_val, frc_some, l_nil, l_cons, lc_some, e_ret, ret_val, e_ifS, w_nx, w_ret, w_exc, lp_nx, e_call, ld_nil, ld_val, ldc_some, bk_nil, bk_val, ro_ret, ro_exc, ro_nx, e_mcons, e_nil, e_C, e_P1, e_P2, e_B2, e_PL, e_and, e_or, e_not, e_bv, e_if, e_tru, tru_some, e_drop, e_fr, fk_some, e_raise, e_try, try_ret, try_nx, try_exc, unb_ret, e_xf, xf_some, e_xis, xi_some, e_part, e_nopart, part_int, e_sl, e_andV, e_orV, e_notV, and_bl, or_bl, not_bl, e_isi, isi_some, td_non, td_bl, td_int, td_tx, td_tup, td_lst, e_chain, ch_t, ch_f, e_put, e_for, e_iter, it_lst, it_tup, it_tx, e_enum, en_lst, e_comp, e_yes, e_meth, ck_lst, zl_nil, zl_cons, z_lstF, z_tup, fzl_nil, fzl_cons, fz_lstE, fz_tupE, cut_nn, cut_0n, cut_n0, cut_00, z_tx, z_int, z_bl, z_non, z_lst, fz_tx, fz_int, fz_bl, fz_non, g_lenL, g_lenT, g_lt, g_le, g_gt, g_ge, g_add, g_sub, g_eqS, g_eqI, g_neS, g_neI, g_in1, g_nin1, Option.bind_some, Option.map_some, List.getElem?_cons_zero, List.getElem?_cons_succ, List.set_cons_zero, List.set_cons_succ, List.length_cons, List.length_nil, if_true, if_false, ite_true, ite_false, decide_eq_true_eq, Bool.not_eq_true', decide_eq_false_iff_not, Bool.false_eq_true, reduceIte, eq_self, Nat.reduceAdd, Nat.reduceLT, Nat.reduceSub, Nat.zero_add, Bool.not_true, Bool.not_false, and_self, and_true, true_and, List.map_cons, List.map_nil, List.replicate_succ, List.replicate_zero, List.cons_append, List.nil_append, Bool.and_true, Bool.true_and, Bool.and_self]) rfl rfl (by show (1 : Nat) < 3; decide)]
      simp only [e_nx, b_ok, b_exc, s_ok, s_exc, e_seq, t_nx, t_ret, t_exc, t_bk, t_ct, e_name, nm_fz, nm_own, o_val, o_plc, o_tru, r_val, r_plc, p_some, pb_some, j_some, j_none, e_set, set_val, f_val, fs_nil, fs_val, frc_some, l_nil, l_cons, lc_some, e_ret, ret_val, e_ifS, w_nx, w_ret, w_exc, lp_nx, e_call, ld_nil, ld_val, ldc_some, bk_nil, bk_val, ro_ret, ro_exc, ro_nx, e_mcons, e_nil, e_C, e_P1, e_P2, e_B2, e_PL, e_and, e_or, e_not, e_bv, e_if, e_tru, tru_some, e_drop, e_fr, fk_some, e_raise, e_try, try_ret, try_nx, try_exc, unb_ret, e_xf, xf_some, e_xis, xi_some, e_part, e_nopart, part_int, e_sl, e_andV, e_orV, e_notV, and_bl, or_bl, not_bl, e_isi, isi_some, td_non, td_bl, td_int, td_tx, td_tup, td_lst, e_chain, ch_t, ch_f, e_put, e_for, e_iter, it_lst, it_tup, it_tx, e_enum, en_lst, e_comp, e_yes, e_meth, ck_lst, zl_nil, zl_cons, z_lstF, z_tup, fzl_nil, fzl_cons, fz_lstE, fz_tupE, cut_nn, cut_0n, cut_n0, cut_00, z_tx, z_int, z_bl, z_non, z_lst, fz_tx, fz_int, fz_bl, fz_non, g_lenL, g_lenT, g_lt, g_le, g_gt, g_ge, g_add, g_sub, g_eqS, g_eqI, g_neS, g_neI, g_in1, g_nin1, Option.bind_some, Option.map_some, List.getElem?_cons_zero, List.getElem?_cons_succ, List.set_cons_zero, List.set_cons_succ, List.length_cons, List.length_nil, if_true, if_false, ite_true, ite_false, decide_eq_true_eq, Bool.not_eq_true', decide_eq_false_iff_not, Bool.false_eq_true, reduceIte, eq_self, Nat.reduceAdd, Nat.reduceLT, Nat.reduceSub, Nat.zero_add, Bool.not_true, Bool.not_false, and_self, and_true, true_and, List.map_cons, List.map_nil, List.replicate_succ, List.replicate_zero, List.cons_append, List.nil_append, Bool.and_true, Bool.true_and, Bool.and_self]
      rw [e_setAt (mi := mC (.int 2)) (k := 2) (ds := [.lst false (ns.map .int), .int cell, .int (k : Int)]) (x := .int ((k : Int) + 1)) (x0 := .int ((k : Int) + 1)) rfl (by simp only [e_nx, b_ok, b_exc, s_ok, s_exc, e_seq, t_nx, t_ret, t_exc, t_bk, t_ct, e_name, nm_fz, nm_own, o_val, o_plc, o_tru, r_val, r_plc, p_some, pb_some, j_some, j_none, e_set, set_val, f_val, fs_nil, fs_val, frc_some, l_nil, l_cons, lc_some, e_ret, ret_val, e_ifS, w_nx, w_ret, w_exc, lp_nx, e_call, ld_nil, ld_val, ldc_some, bk_nil, bk_val, ro_ret, ro_exc, ro_nx, e_mcons, e_nil, e_C, e_P1, e_P2, e_B2, e_PL, e_and, e_or, e_not, e_bv, e_if, e_tru, tru_some, e_drop, e_fr, fk_some, e_raise, e_try, try_ret, try_nx, try_exc, unb_ret, e_xf, xf_some, e_xis, xi_some, e_part, e_nopart, part_int, e_sl, e_andV, e_orV, e_notV, and_bl, or_bl, not_bl, e_isi, isi_some, td_non, td_bl, td_int, td_tx, td_tup, td_lst, e_chain, ch_t, ch_f, e_put, e_for, e_iter, it_lst, it_tup, it_tx, e_enum, en_lst, e_comp, e_yes, e_meth, ck_lst, zl_nil, zl_cons, z_lstF, z_tup, fzl_nil, fzl_cons, fz_lstE, fz_tupE, cut_nn, cut_0n, cut_n0, cut_00, z_tx, z_int, z_bl, z_non, z_lst, fz_tx, fz_int, fz_bl, fz_non, g_lenL, g_lenT, g_lt, g_le, g_gt, g_ge, g_add, g_sub, g_eqS, g_eqI, g_neS, g_neI, g_in1, g_nin1, Option.bind_some, Option.map_some, List.getElem?_cons_zero, List.getElem?_cons_succ, List.set_cons_zero, List.set_cons_succ, List.length_cons, List.length_nil, if_true, if_false, ite_true, ite_false, decide_eq_true_eq, Bool.not_eq_true', decide_eq_false_iff_not, Bool.false_eq_true, reduceIte, eq_self, Nat.reduceAdd, Nat.reduceLT, Nat.reduceSub, Nat.zero_add, Bool.not_true, Bool.not_false, and_self, and_true, true_and, List.map_cons, List.map_nil, List.replicate_succ, List.replicate_zero, List.cons_append, List.nil_append, Bool.and_true, Bool.true_and, Bool.and_self]) rfl rfl (by show (2 : Nat) < 3; decide)]
      simp only [e_nx, b_ok, b_exc, s_ok, s_exc, e_seq, t_nx, t_ret, t_exc, t_bk, t_ct, e_name, nm_fz, nm_own, o_val, o_plc, o_tru, r_val, r_plc, p_some, pb_some, j_some, j_none, e_set, set_val, f_val, fs_nil, fs_val, frc_some, l_nil, l_cons, lc_some, e_ret, ret_val, e_ifS, w_nx, w_ret, w_exc, lp_nx, e_call, ld_nil, ld_val, ldc_some, bk_nil, bk_val, ro_ret, ro_exc, ro_nx, e_mcons, e_nil, e_C, e_P1, e_P2, e_B2, e_PL, e_and, e_or, e_not, e_bv, e_if, e_tru, tru_some, e_drop, e_fr, fk_some, e_raise, e_try, try_ret, try_nx, try_exc, unb_ret, e_xf, xf_some, e_xis, xi_some, e_part, e_nopart, part_int, e_sl, e_andV, e_orV, e_notV, and_bl, or_bl, not_bl, e_isi, isi_some, td_non, td_bl, td_int, td_tx, td_tup, td_lst, e_chain, ch_t, ch_f, e_put, e_for, e_iter, it_lst, it_tup, it_tx, e_enum, en_lst, e_comp, e_yes, e_meth, ck_lst, zl_nil, zl_cons, z_lstF, z_tup, fzl_nil, fzl_cons, fz_lstE, fz_tupE, cut_nn, cut_0n, cut_n0, cut_00, z_tx, z_int, z_bl, z_non, z_lst, fz_tx, fz_int, fz_bl, fz_non, g_lenL, g_lenT, g_lt, g_le, g_gt, g_ge, g_add, g_sub, g_eqS, g_eqI, g_neS, g_neI, g_in1, g_nin1, Option.bind_some, Option.map_some, List.getElem?_cons_zero, List.getElem?_cons_succ, List.set_cons_zero, List.set_cons_succ, List.length_cons, List.length_nil, if_true, if_false, ite_true, ite_false, decide_eq_true_eq, Bool.not_eq_true', decide_eq_false_iff_not, Bool.false_eq_true, reduceIte, eq_self, Nat.reduceAdd, Nat.reduceLT, Nat.reduceSub, Nat.zero_add, Bool.not_true, Bool.not_false, and_self, and_true, true_and, List.map_cons, List.map_nil, List.replicate_succ, List.replicate_zero, List.cons_append, List.nil_append, Bool.and_true, Bool.true_and, Bool.and_self]
      rfl
theorem k1 : -(2 ^ 64) < (48271 : Int) ∧ (48271 : Int) < 2 ^ 64 := by decide
theorem k2 : -(2 ^ 64) < (69621 : Int) ∧ (69621 : Int) < 2 ^ 64 := by decide
theorem k3 : -(2 ^ 64) < (16807 : Int) ∧ (16807 : Int) < 2 ^ 64 := by decide
theorem k4 : -(2 ^ 64) < (65537 : Int) ∧ (65537 : Int) < 2 ^ 64 := by decide
theorem k5 : (2147483647 : Int) ≠ 0 := by decide
theorem next_a (cell k : Int) (x y : Option D) : (mSet 4 (mP2 true gMod (mPL gInt (mCons true (mP2 true gAdd (mP2 true gAdd (mP2 true gMulX (mName 4) (mC (.int 48271))) (mP2 true gMulX (mName 3) (mC (.int 69621)))) (mC (.int 11))) mNil)) (mC (.int 2147483647)))) [x, y, none, some (.int k), some (.int cell)] = .nx [x, y, none, some (.int k), some (.int ((cell * 48271 + k * 69621 + 11).fmod 2147483647))] := by
  simp only [e_nx, b_ok, b_exc, s_ok, s_exc, e_seq, t_nx, t_ret, t_exc, t_bk, t_ct, e_name, nm_fz, nm_own, o_val, o_plc, o_tru, r_val, r_plc, p_some, pb_some, j_some, j_none, e_set, set_val, f_val, fs_nil, fs_val, frc_some, l_nil, l_cons, lc_some, e_ret, ret_val, e_ifS, w_nx, w_ret, w_exc, lp_nx, e_call, ld_nil, ld_val, ldc_some, bk_nil, bk_val, ro_ret, ro_exc, ro_nx, e_mcons, e_nil, e_C, e_P1, e_P2, e_B2, e_PL, e_and, e_or, e_not, e_bv, e_if, e_tru, tru_some, e_drop, e_fr, fk_some, e_raise, e_try, try_ret, try_nx, try_exc, unb_ret, e_xf, xf_some, e_xis, xi_some, e_part, e_nopart, part_int, e_sl, e_andV, e_orV, e_notV, and_bl, or_bl, not_bl, e_isi, isi_some, td_non, td_bl, td_int, td_tx, td_tup, td_lst, e_chain, ch_t, ch_f, e_put, e_for, e_iter, it_lst, it_tup, it_tx, e_enum, en_lst, e_comp, e_yes, e_meth, ck_lst, zl_nil, zl_cons, z_lstF, z_tup, fzl_nil, fzl_cons, fz_lstE, fz_tupE, cut_nn, cut_0n, cut_n0, cut_00, z_tx, z_int, z_bl, z_non, z_lst, fz_tx, fz_int, fz_bl, fz_non, g_lenL, g_lenT, g_lt, g_le, g_gt, g_ge, g_add, g_sub, g_eqS, g_eqI, g_neS, g_neI, g_in1, g_nin1, Option.bind_some, Option.map_some, List.getElem?_cons_zero, List.getElem?_cons_succ, List.set_cons_zero, List.set_cons_succ, List.length_cons, List.length_nil, if_true, if_false, ite_true, ite_false, decide_eq_true_eq, Bool.not_eq_true', decide_eq_false_iff_not, Bool.false_eq_true, reduceIte, eq_self, Nat.reduceAdd, Nat.reduceLT, Nat.reduceSub, Nat.zero_add, Bool.not_true, Bool.not_false, and_self, and_true, true_and, List.map_cons, List.map_nil, List.replicate_succ, List.replicate_zero, List.cons_append, List.nil_append, Bool.and_true, Bool.true_and, Bool.and_self, g_int, g_mulK k1, g_mulK k2, g_mod k5]
theorem next_b (c1 k : Int) (x y : Option D) : (mSet 4 (mP2 true gAdd (mP2 true gMulX (mP2 true gMod (mPL gInt (mCons true (mP2 true gAdd (mP2 true gMulX (mName 4) (mC (.int 16807))) (mC (.int 13))) mNil)) (mC (.int 2147483647))) (mC (.int 65537))) (mName 4))) [x, y, none, some (.int k), some (.int c1)] = .nx [x, y, none, some (.int k), some (.int ((c1 * 16807 + 13).fmod 2147483647 * 65537 + c1))] := by
  simp only [e_nx, b_ok, b_exc, s_ok, s_exc, e_seq, t_nx, t_ret, t_exc, t_bk, t_ct, e_name, nm_fz, nm_own, o_val, o_plc, o_tru, r_val, r_plc, p_some, pb_some, j_some, j_none, e_set, set_val, f_val, fs_nil, fs_val, frc_some, l_nil, l_cons, lc_some, e_ret, ret_val, e_ifS, w_nx, w_ret, w_exc, lp_nx, e_call, ld_nil, ld_val, ldc_some, bk_nil, bk_val, ro_ret, ro_exc, ro_nx, e_mcons, e_nil, e_C, e_P1, e_P2, e_B2, e_PL, e_and, e_or, e_not, e_bv, e_if, e_tru, tru_some, e_drop, e_fr, fk_some, e_raise, e_try, try_ret, try_nx, try_exc, unb_ret, e_xf, xf_some, e_xis, xi_some, e_part, e_nopart, part_int, e_sl, e_andV, e_orV, e_notV, and_bl, or_bl, not_bl, e_isi, isi_some, td_non, td_bl, td_int, td_tx, td_tup, td_lst, e_chain, ch_t, ch_f, e_put, e_for, e_iter, it_lst, it_tup, it_tx, e_enum, en_lst, e_comp, e_yes, e_meth, ck_lst, zl_nil, zl_cons, z_lstF, z_tup, fzl_nil, fzl_cons, fz_lstE, fz_tupE, cut_nn, cut_0n, cut_n0, cut_00, z_tx, z_int, z_bl, z_non, z_lst, fz_tx, fz_int, fz_bl, fz_non, g_lenL, g_lenT, g_lt, g_le, g_gt, g_ge, g_add, g_sub, g_eqS, g_eqI, g_neS, g_neI, g_in1, g_nin1, Option.bind_some, Option.map_some, List.getElem?_cons_zero, List.getElem?_cons_succ, List.set_cons_zero, List.set_cons_succ, List.length_cons, List.length_nil, if_true, if_false, ite_true, ite_false, decide_eq_true_eq, Bool.not_eq_true', decide_eq_false_iff_not, Bool.false_eq_true, reduceIte, eq_self, Nat.reduceAdd, Nat.reduceLT, Nat.reduceSub, Nat.zero_add, Bool.not_true, Bool.not_false, and_self, and_true, true_and, List.map_cons, List.map_nil, List.replicate_succ, List.replicate_zero, List.cons_append, List.nil_append, Bool.and_true, Bool.true_and, Bool.and_self, g_int, g_mulK k3, g_mulK k4, g_mod k5]
theorem next_c (c1 k : Int) (x y : Option D) (b : Bool) (h : decide (c1 < 10 ^ 18) = b) : (mB2 true gLt (mName 4) (mP2 true gPow (mC (.int 10)) (mC (.int 18)))) [x, y, none, some (.int k), some (.int c1)] = .ok b [x, y, none, some (.int k), some (.int c1)] := by
  simp only [e_nx, b_ok, b_exc, s_ok, s_exc, e_seq, t_nx, t_ret, t_exc, t_bk, t_ct, e_name, nm_fz, nm_own, o_val, o_plc, o_tru, r_val, r_plc, p_some, pb_some, j_some, j_none, e_set, set_val, f_val, fs_nil, fs_val, frc_some, l_nil, l_cons, lc_some, e_ret, ret_val, e_ifS, w_nx, w_ret, w_exc, lp_nx, e_call, ld_nil, ld_val, ldc_some, bk_nil, bk_val, ro_ret, ro_exc, ro_nx, e_mcons, e_nil, e_C, e_P1, e_P2, e_B2, e_PL, e_and, e_or, e_not, e_bv, e_if, e_tru, tru_some, e_drop, e_fr, fk_some, e_raise, e_try, try_ret, try_nx, try_exc, unb_ret, e_xf, xf_some, e_xis, xi_some, e_part, e_nopart, part_int, e_sl, e_andV, e_orV, e_notV, and_bl, or_bl, not_bl, e_isi, isi_some, td_non, td_bl, td_int, td_tx, td_tup, td_lst, e_chain, ch_t, ch_f, e_put, e_for, e_iter, it_lst, it_tup, it_tx, e_enum, en_lst, e_comp, e_yes, e_meth, ck_lst, zl_nil, zl_cons, z_lstF, z_tup, fzl_nil, fzl_cons, fz_lstE, fz_tupE, cut_nn, cut_0n, cut_n0, cut_00, z_tx, z_int, z_bl, z_non, z_lst, fz_tx, fz_int, fz_bl, fz_non, g_lenL, g_lenT, g_lt, g_le, g_gt, g_ge, g_add, g_sub, g_eqS, g_eqI, g_neS, g_neI, g_in1, g_nin1, Option.bind_some, Option.map_some, List.getElem?_cons_zero, List.getElem?_cons_succ, List.set_cons_zero, List.set_cons_succ, List.length_cons, List.length_nil, if_true, if_false, ite_true, ite_false, decide_eq_true_eq, Bool.not_eq_true', decide_eq_false_iff_not, Bool.false_eq_true, reduceIte, eq_self, Nat.reduceAdd, Nat.reduceLT, Nat.reduceSub, Nat.zero_add, Bool.not_true, Bool.not_false, and_self, and_true, true_and, List.map_cons, List.map_nil, List.replicate_succ, List.replicate_zero, List.cons_append, List.nil_append, Bool.and_true, Bool.true_and, Bool.and_self, g_pow18, h]
theorem next_mx (ns : List Int) (many : Int) (k : Nat) (cell : Int) : ∃ cell', (mSeq (mIfS (mB2 true gLt (mName 4) (mP2 true gPow (mC (.int 10)) (mC (.int 18)))) (mSeq (mSet 4 (mP2 true gMod (mPL gInt (mCons true (mP2 true gAdd (mP2 true gAdd (mP2 true gMulX (mName 4) (mC (.int 48271))) (mP2 true gMulX (mName 3) (mC (.int 69621)))) (mC (.int 11))) mNil)) (mC (.int 2147483647)))) (mSet 4 (mP2 true gAdd (mP2 true gMulX (mP2 true gMod (mPL gInt (mCons true (mP2 true gAdd (mP2 true gMulX (mName 4) (mC (.int 16807))) (mC (.int 13))) mNil)) (mC (.int 2147483647))) (mC (.int 65537))) (mName 4)))) mNx) (mSeq (mDrop (mPutAt true gSetL (mName 4) (mName 0) (mC (.int 1)))) (mDrop (mPutAt true gSetL (mP2 true gAdd (mName 3) (mC (.int 1))) (mName 0) (mC (.int 2)))))) [some (.lst true [.lst false (ns.map .int), .int 0, .int (k : Int)]), some (.int many), none, some (.int (k : Int)), some (.int cell)] = .nx [some (.lst true [.lst false (ns.map .int), .int cell', .int ((k + 1 : Nat) : Int)]), some (.int many), none, some (.int (k : Int)), some (.int cell')] := by
  by_cases h18 : cell < 10 ^ 18
  · rw [seq_nx (ρ1 := [some (.lst true [.lst false (ns.map .int), .int 0, .int (k : Int)]), some (.int many), none, some (.int (k : Int)), some (.int (((cell * 48271 + (k : Int) * 69621 + 11).fmod 2147483647 * 16807 + 13).fmod 2147483647 * 65537 + (cell * 48271 + (k : Int) * 69621 + 11).fmod 2147483647))]) (by
      rw [e_ifS, next_c _ _ _ _ true (decide_eq_true h18), s_ok, if_pos rfl, seq_nx (next_a _ _ _ _), next_b])]
    exact ⟨_, next_st ns many k _⟩
  · rw [seq_nx (ρ1 := [some (.lst true [.lst false (ns.map .int), .int 0, .int (k : Int)]), some (.int many), none, some (.int (k : Int)), some (.int cell)]) (by
      rw [e_ifS, next_c _ _ _ _ false (decide_eq_false h18), s_ok, if_neg Bool.false_ne_true, e_nx])]
    exact ⟨_, next_st ns many k _⟩
theorem next_rd (ns : List Int) (many : Int) (k : Nat) (i0 : gIx (.lst true [.lst false (ns.map .int), .int 0, .int (k : Int)]) (.int 0) = some (.lst false (ns.map .int))) : ∃ cell', (mSeq (mIfS (mB2 true gLt (mName 3) (mPL gLen (mCons true (mP2 true gIx (mName 0) (mC (.int 0))) mNil))) (mSet 4 (mPL gAbs (mCons true (mP2 true gIx (mP2 true gIx (mName 0) (mC (.int 0))) (mName 3)) mNil))) mNx) (mSeq (mIfS (mB2 true gLt (mName 4) (mP2 true gPow (mC (.int 10)) (mC (.int 18)))) (mSeq (mSet 4 (mP2 true gMod (mPL gInt (mCons true (mP2 true gAdd (mP2 true gAdd (mP2 true gMulX (mName 4) (mC (.int 48271))) (mP2 true gMulX (mName 3) (mC (.int 69621)))) (mC (.int 11))) mNil)) (mC (.int 2147483647)))) (mSet 4 (mP2 true gAdd (mP2 true gMulX (mP2 true gMod (mPL gInt (mCons true (mP2 true gAdd (mP2 true gMulX (mName 4) (mC (.int 16807))) (mC (.int 13))) mNil)) (mC (.int 2147483647))) (mC (.int 65537))) (mName 4)))) mNx) (mSeq (mDrop (mPutAt true gSetL (mName 4) (mName 0) (mC (.int 1)))) (mDrop (mPutAt true gSetL (mP2 true gAdd (mName 3) (mC (.int 1))) (mName 0) (mC (.int 2))))))) [some (.lst true [.lst false (ns.map .int), .int 0, .int (k : Int)]), some (.int many), none, some (.int (k : Int)), some (.int (7 + (k : Int)))] = .nx [some (.lst true [.lst false (ns.map .int), .int cell', .int ((k + 1 : Nat) : Int)]), some (.int many), none, some (.int (k : Int)), some (.int cell')] := by
      by_cases hk : k < ns.length
      · have hlt : decide ((k : Int) < ((ns.map D.int).length : Int)) = true := decide_eq_true (by rw [List.length_map]; omega)
        have gk : gIx (.lst false (ns.map .int)) (.int (k : Int)) = some (.int ns[k]) := by
          rw [g_ixL, List.getElem?_map, List.getElem?_eq_getElem hk]
          rfl
        rw [seq_nx (ρ1 := [some (.lst true [.lst false (ns.map .int), .int 0, .int (k : Int)]), some (.int many), none, some (.int (k : Int)), some (.int (if ns[k] < 0 then -ns[k] else ns[k]))]) (by
          rw [e_ifS]
          simp only [e_nx, b_ok, b_exc, s_ok, s_exc, e_seq, t_nx, t_ret, t_exc, t_bk, t_ct, e_name, nm_fz, nm_own, o_val, o_plc, o_tru, r_val, r_plc, p_some, pb_some, j_some, j_none, e_set, set_val, f_val, fs_nil, fs_val, frc_some, l_nil, l_cons, lc_some, e_ret, ret_val, e_ifS, w_nx, w_ret, w_exc, lp_nx, e_call, ld_nil, ld_val, ldc_some, bk_nil, bk_val, ro_ret, ro_exc, ro_nx, e_mcons, e_nil, e_C, e_P1, e_P2, e_B2, e_PL, e_and, e_or, e_not, e_bv, e_if, e_tru, tru_some, e_drop, e_fr, fk_some, e_raise, e_try, try_ret, try_nx, try_exc, unb_ret, e_xf, xf_some, e_xis, xi_some, e_part, e_nopart, part_int, e_sl, e_andV, e_orV, e_notV, and_bl, or_bl, not_bl, e_isi, isi_some, td_non, td_bl, td_int, td_tx, td_tup, td_lst, e_chain, ch_t, ch_f, e_put, e_for, e_iter, it_lst, it_tup, it_tx, e_enum, en_lst, e_comp, e_yes, e_meth, ck_lst, zl_nil, zl_cons, z_lstF, z_tup, fzl_nil, fzl_cons, fz_lstE, fz_tupE, cut_nn, cut_0n, cut_n0, cut_00, z_tx, z_int, z_bl, z_non, z_lst, fz_tx, fz_int, fz_bl, fz_non, g_lenL, g_lenT, g_lt, g_le, g_gt, g_ge, g_add, g_sub, g_eqS, g_eqI, g_neS, g_neI, g_in1, g_nin1, Option.bind_some, Option.map_some, List.getElem?_cons_zero, List.getElem?_cons_succ, List.set_cons_zero, List.set_cons_succ, List.length_cons, List.length_nil, if_true, if_false, ite_true, ite_false, decide_eq_true_eq, Bool.not_eq_true', decide_eq_false_iff_not, Bool.false_eq_true, reduceIte, eq_self, Nat.reduceAdd, Nat.reduceLT, Nat.reduceSub, Nat.zero_add, Bool.not_true, Bool.not_false, and_self, and_true, true_and, List.map_cons, List.map_nil, List.replicate_succ, List.replicate_zero, List.cons_append, List.nil_append, Bool.and_true, Bool.true_and, Bool.and_self, i0, hlt, gk, g_abs])]
        exact next_mx ns many k _
      · have hlt : decide ((k : Int) < ((ns.map D.int).length : Int)) = false := decide_eq_false (by rw [List.length_map]; omega)
        rw [seq_nx (ρ1 := [some (.lst true [.lst false (ns.map .int), .int 0, .int (k : Int)]), some (.int many), none, some (.int (k : Int)), some (.int (7 + (k : Int)))]) (by
          rw [e_ifS]
          simp only [e_nx, b_ok, b_exc, s_ok, s_exc, e_seq, t_nx, t_ret, t_exc, t_bk, t_ct, e_name, nm_fz, nm_own, o_val, o_plc, o_tru, r_val, r_plc, p_some, pb_some, j_some, j_none, e_set, set_val, f_val, fs_nil, fs_val, frc_some, l_nil, l_cons, lc_some, e_ret, ret_val, e_ifS, w_nx, w_ret, w_exc, lp_nx, e_call, ld_nil, ld_val, ldc_some, bk_nil, bk_val, ro_ret, ro_exc, ro_nx, e_mcons, e_nil, e_C, e_P1, e_P2, e_B2, e_PL, e_and, e_or, e_not, e_bv, e_if, e_tru, tru_some, e_drop, e_fr, fk_some, e_raise, e_try, try_ret, try_nx, try_exc, unb_ret, e_xf, xf_some, e_xis, xi_some, e_part, e_nopart, part_int, e_sl, e_andV, e_orV, e_notV, and_bl, or_bl, not_bl, e_isi, isi_some, td_non, td_bl, td_int, td_tx, td_tup, td_lst, e_chain, ch_t, ch_f, e_put, e_for, e_iter, it_lst, it_tup, it_tx, e_enum, en_lst, e_comp, e_yes, e_meth, ck_lst, zl_nil, zl_cons, z_lstF, z_tup, fzl_nil, fzl_cons, fz_lstE, fz_tupE, cut_nn, cut_0n, cut_n0, cut_00, z_tx, z_int, z_bl, z_non, z_lst, fz_tx, fz_int, fz_bl, fz_non, g_lenL, g_lenT, g_lt, g_le, g_gt, g_ge, g_add, g_sub, g_eqS, g_eqI, g_neS, g_neI, g_in1, g_nin1, Option.bind_some, Option.map_some, List.getElem?_cons_zero, List.getElem?_cons_succ, List.set_cons_zero, List.set_cons_succ, List.length_cons, List.length_nil, if_true, if_false, ite_true, ite_false, decide_eq_true_eq, Bool.not_eq_true', decide_eq_false_iff_not, Bool.false_eq_true, reduceIte, eq_self, Nat.reduceAdd, Nat.reduceLT, Nat.reduceSub, Nat.zero_add, Bool.not_true, Bool.not_false, and_self, and_true, true_and, List.map_cons, List.map_nil, List.replicate_succ, List.replicate_zero, List.cons_append, List.nil_append, Bool.and_true, Bool.true_and, Bool.and_self, i0, hlt])]
        exact next_mx ns many k _
theorem next_ok (ns : List Int) (c : Int) (k : Nat) {many : Int} (h : 0 < many) (h2 : many < 1073741824) : ∃ d c' k', 0 ≤ d ∧ d < many ∧ F_next [stm ns c k, .int many] = .ret (.int d) [some (stm ns c' k'), some (.int many)] := by
  have hm : many ≠ 0 := by omega
  have hmn : many.natAbs < 1073741824 := by omega
  -- behind the stream's number
  have tail : ∀ (c : Int) (k : Nat) (a b : Option D), ∃ d c' k', 0 ≤ d ∧ d < many ∧ runO [0, 1] 2 ((mSeq (mSet 2 (mP2 true gMod (mPL gInt (mCons true (mP2 true gIx (mName 0) (mC (.int 1))) mNil)) (mName 1))) (mSeq (mDrop (mPutAt true gSetL (mP2 true gDiv (mP2 true gIx (mName 0) (mC (.int 1))) (mName 1)) (mName 0) (mC (.int 1)))) (mRet [0, 1] (mName 2))))
      [some (stm ns c k), some (.int many), none, a, b]) = .ret (.int d) [some (stm ns c' k'), some (.int many)] := fun c k a b => by
    refine ⟨c.fmod many, c.fdiv many, k, (fmod_r h).1, (fmod_r h).2, ?_⟩
    unfold stm
    have i1 : gIx (.lst true [.lst false (ns.map .int), .int c, .int (k : Int)]) (.int 1) = some (.int c) := rfl
    simp only [e_nx, b_ok, b_exc, s_ok, s_exc, e_seq, t_nx, t_ret, t_exc, t_bk, t_ct, e_name, nm_fz, nm_own, o_val, o_plc, o_tru, r_val, r_plc, p_some, pb_some, j_some, j_none, e_set, set_val, f_val, fs_nil, fs_val, frc_some, l_nil, l_cons, lc_some, e_ret, ret_val, e_ifS, w_nx, w_ret, w_exc, lp_nx, e_call, ld_nil, ld_val, ldc_some, bk_nil, bk_val, ro_ret, ro_exc, ro_nx, e_mcons, e_nil, e_C, e_P1, e_P2, e_B2, e_PL, e_and, e_or, e_not, e_bv, e_if, e_tru, tru_some, e_drop, e_fr, fk_some, e_raise, e_try, try_ret, try_nx, try_exc, unb_ret, e_xf, xf_some, e_xis, xi_some, e_part, e_nopart, part_int, e_sl, e_andV, e_orV, e_notV, and_bl, or_bl, not_bl, e_isi, isi_some, td_non, td_bl, td_int, td_tx, td_tup, td_lst, e_chain, ch_t, ch_f, e_put, e_for, e_iter, it_lst, it_tup, it_tx, e_enum, en_lst, e_comp, e_yes, e_meth, ck_lst, zl_nil, zl_cons, z_lstF, z_tup, fzl_nil, fzl_cons, fz_lstE, fz_tupE, cut_nn, cut_0n, cut_n0, cut_00, z_tx, z_int, z_bl, z_non, z_lst, fz_tx, fz_int, fz_bl, fz_non, g_lenL, g_lenT, g_lt, g_le, g_gt, g_ge, g_add, g_sub, g_eqS, g_eqI, g_neS, g_neI, g_in1, g_nin1, Option.bind_some, Option.map_some, List.getElem?_cons_zero, List.getElem?_cons_succ, List.set_cons_zero, List.set_cons_succ, List.length_cons, List.length_nil, if_true, if_false, ite_true, ite_false, decide_eq_true_eq, Bool.not_eq_true', decide_eq_false_iff_not, Bool.false_eq_true, reduceIte, eq_self, Nat.reduceAdd, Nat.reduceLT, Nat.reduceSub, Nat.zero_add, Bool.not_true, Bool.not_false, and_self, and_true, true_and, List.map_cons, List.map_nil, List.replicate_succ, List.replicate_zero, List.cons_append, List.nil_append, Bool.and_true, Bool.true_and, Bool.and_self, i1, g_int, g_mod hm]
    rw [e_setAt (mi := mC (.int 1)) (k := 1) (ds := [.lst false (ns.map .int), .int c, .int (k : Int)]) (x := .int (c.fdiv many)) (x0 := .int (c.fdiv many)) rfl (by simp only [e_nx, b_ok, b_exc, s_ok, s_exc, e_seq, t_nx, t_ret, t_exc, t_bk, t_ct, e_name, nm_fz, nm_own, o_val, o_plc, o_tru, r_val, r_plc, p_some, pb_some, j_some, j_none, e_set, set_val, f_val, fs_nil, fs_val, frc_some, l_nil, l_cons, lc_some, e_ret, ret_val, e_ifS, w_nx, w_ret, w_exc, lp_nx, e_call, ld_nil, ld_val, ldc_some, bk_nil, bk_val, ro_ret, ro_exc, ro_nx, e_mcons, e_nil, e_C, e_P1, e_P2, e_B2, e_PL, e_and, e_or, e_not, e_bv, e_if, e_tru, tru_some, e_drop, e_fr, fk_some, e_raise, e_try, try_ret, try_nx, try_exc, unb_ret, e_xf, xf_some, e_xis, xi_some, e_part, e_nopart, part_int, e_sl, e_andV, e_orV, e_notV, and_bl, or_bl, not_bl, e_isi, isi_some, td_non, td_bl, td_int, td_tx, td_tup, td_lst, e_chain, ch_t, ch_f, e_put, e_for, e_iter, it_lst, it_tup, it_tx, e_enum, en_lst, e_comp, e_yes, e_meth, ck_lst, zl_nil, zl_cons, z_lstF, z_tup, fzl_nil, fzl_cons, fz_lstE, fz_tupE, cut_nn, cut_0n, cut_n0, cut_00, z_tx, z_int, z_bl, z_non, z_lst, fz_tx, fz_int, fz_bl, fz_non, g_lenL, g_lenT, g_lt, g_le, g_gt, g_ge, g_add, g_sub, g_eqS, g_eqI, g_neS, g_neI, g_in1, g_nin1, Option.bind_some, Option.map_some, List.getElem?_cons_zero, List.getElem?_cons_succ, List.set_cons_zero, List.set_cons_succ, List.length_cons, List.length_nil, if_true, if_false, ite_true, ite_false, decide_eq_true_eq, Bool.not_eq_true', decide_eq_false_iff_not, Bool.false_eq_true, reduceIte, eq_self, Nat.reduceAdd, Nat.reduceLT, Nat.reduceSub, Nat.zero_add, Bool.not_true, Bool.not_false, and_self, and_true, true_and, List.map_cons, List.map_nil, List.replicate_succ, List.replicate_zero, List.cons_append, List.nil_append, Bool.and_true, Bool.true_and, Bool.and_self, i1, g_div hm hmn]) rfl rfl (by show (1 : Nat) < 3; decide)]
    simp only [e_nx, b_ok, b_exc, s_ok, s_exc, e_seq, t_nx, t_ret, t_exc, t_bk, t_ct, e_name, nm_fz, nm_own, o_val, o_plc, o_tru, r_val, r_plc, p_some, pb_some, j_some, j_none, e_set, set_val, f_val, fs_nil, fs_val, frc_some, l_nil, l_cons, lc_some, e_ret, ret_val, e_ifS, w_nx, w_ret, w_exc, lp_nx, e_call, ld_nil, ld_val, ldc_some, bk_nil, bk_val, ro_ret, ro_exc, ro_nx, e_mcons, e_nil, e_C, e_P1, e_P2, e_B2, e_PL, e_and, e_or, e_not, e_bv, e_if, e_tru, tru_some, e_drop, e_fr, fk_some, e_raise, e_try, try_ret, try_nx, try_exc, unb_ret, e_xf, xf_some, e_xis, xi_some, e_part, e_nopart, part_int, e_sl, e_andV, e_orV, e_notV, and_bl, or_bl, not_bl, e_isi, isi_some, td_non, td_bl, td_int, td_tx, td_tup, td_lst, e_chain, ch_t, ch_f, e_put, e_for, e_iter, it_lst, it_tup, it_tx, e_enum, en_lst, e_comp, e_yes, e_meth, ck_lst, zl_nil, zl_cons, z_lstF, z_tup, fzl_nil, fzl_cons, fz_lstE, fz_tupE, cut_nn, cut_0n, cut_n0, cut_00, z_tx, z_int, z_bl, z_non, z_lst, fz_tx, fz_int, fz_bl, fz_non, g_lenL, g_lenT, g_lt, g_le, g_gt, g_ge, g_add, g_sub, g_eqS, g_eqI, g_neS, g_neI, g_in1, g_nin1, Option.bind_some, Option.map_some, List.getElem?_cons_zero, List.getElem?_cons_succ, List.set_cons_zero, List.set_cons_succ, List.length_cons, List.length_nil, if_true, if_false, ite_true, ite_false, decide_eq_true_eq, Bool.not_eq_true', decide_eq_false_iff_not, Bool.false_eq_true, reduceIte, eq_self, Nat.reduceAdd, Nat.reduceLT, Nat.reduceSub, Nat.zero_add, Bool.not_true, Bool.not_false, and_self, and_true, true_and, List.map_cons, List.map_nil, List.replicate_succ, List.replicate_zero, List.cons_append, List.nil_append, Bool.and_true, Bool.true_and, Bool.and_self]
    rfl
  unfold F_next m_next
  rw [e_run (by rfl)]
  unfold stm at *
  have i1 : gIx (.lst true [.lst false (ns.map .int), .int c, .int (k : Int)]) (.int 1) = some (.int c) := rfl
  have i2 : gIx (.lst true [.lst false (ns.map .int), .int c, .int (k : Int)]) (.int 2) = some (.int k) := rfl
  have i0 : gIx (.lst true [.lst false (ns.map .int), .int c, .int (k : Int)]) (.int 0) = some (.lst false (ns.map .int)) := by
    show okz (.lst false (ns.map .int)) = _
    exact k_some (by rw [z_lstF]; exact zl_ints ns)
  by_cases hc : c = 0
  · subst hc
    obtain ⟨cell', e⟩ := next_rd ns many k i0
    have all : (mIfS (mB2 true gEq (mP2 true gIx (mName 0) (mC (.int 1))) (mC (.int 0))) (mSeq (mSet 3 (mP2 true gIx (mName 0) (mC (.int 2)))) (mSeq (mSet 4 (mP2 true gAdd (mC (.int 7)) (mName 3))) (mSeq (mIfS (mB2 true gLt (mName 3) (mPL gLen (mCons true (mP2 true gIx (mName 0) (mC (.int 0))) mNil))) (mSet 4 (mPL gAbs (mCons true (mP2 true gIx (mP2 true gIx (mName 0) (mC (.int 0))) (mName 3)) mNil))) mNx) (mSeq (mIfS (mB2 true gLt (mName 4) (mP2 true gPow (mC (.int 10)) (mC (.int 18)))) (mSeq (mSet 4 (mP2 true gMod (mPL gInt (mCons true (mP2 true gAdd (mP2 true gAdd (mP2 true gMulX (mName 4) (mC (.int 48271))) (mP2 true gMulX (mName 3) (mC (.int 69621)))) (mC (.int 11))) mNil)) (mC (.int 2147483647)))) (mSet 4 (mP2 true gAdd (mP2 true gMulX (mP2 true gMod (mPL gInt (mCons true (mP2 true gAdd (mP2 true gMulX (mName 4) (mC (.int 16807))) (mC (.int 13))) mNil)) (mC (.int 2147483647))) (mC (.int 65537))) (mName 4)))) mNx) (mSeq (mDrop (mPutAt true gSetL (mName 4) (mName 0) (mC (.int 1)))) (mDrop (mPutAt true gSetL (mP2 true gAdd (mName 3) (mC (.int 1))) (mName 0) (mC (.int 2))))))))) mNx) [some (.lst true [.lst false (ns.map .int), .int 0, .int (k : Int)]), some (.int many), none, none, none] = .nx [some (.lst true [.lst false (ns.map .int), .int cell', .int ((k + 1 : Nat) : Int)]), some (.int many), none, some (.int (k : Int)), some (.int cell')] := by
      rw [← e, e_ifS]
      simp only [e_nx, b_ok, b_exc, s_ok, s_exc, e_seq, t_nx, t_ret, t_exc, t_bk, t_ct, e_name, nm_fz, nm_own, o_val, o_plc, o_tru, r_val, r_plc, p_some, pb_some, j_some, j_none, e_set, set_val, f_val, fs_nil, fs_val, frc_some, l_nil, l_cons, lc_some, e_ret, ret_val, e_ifS, w_nx, w_ret, w_exc, lp_nx, e_call, ld_nil, ld_val, ldc_some, bk_nil, bk_val, ro_ret, ro_exc, ro_nx, e_mcons, e_nil, e_C, e_P1, e_P2, e_B2, e_PL, e_and, e_or, e_not, e_bv, e_if, e_tru, tru_some, e_drop, e_fr, fk_some, e_raise, e_try, try_ret, try_nx, try_exc, unb_ret, e_xf, xf_some, e_xis, xi_some, e_part, e_nopart, part_int, e_sl, e_andV, e_orV, e_notV, and_bl, or_bl, not_bl, e_isi, isi_some, td_non, td_bl, td_int, td_tx, td_tup, td_lst, e_chain, ch_t, ch_f, e_put, e_for, e_iter, it_lst, it_tup, it_tx, e_enum, en_lst, e_comp, e_yes, e_meth, ck_lst, zl_nil, zl_cons, z_lstF, z_tup, fzl_nil, fzl_cons, fz_lstE, fz_tupE, cut_nn, cut_0n, cut_n0, cut_00, z_tx, z_int, z_bl, z_non, z_lst, fz_tx, fz_int, fz_bl, fz_non, g_lenL, g_lenT, g_lt, g_le, g_gt, g_ge, g_add, g_sub, g_eqS, g_eqI, g_neS, g_neI, g_in1, g_nin1, Option.bind_some, Option.map_some, List.getElem?_cons_zero, List.getElem?_cons_succ, List.set_cons_zero, List.set_cons_succ, List.length_cons, List.length_nil, if_true, if_false, ite_true, ite_false, decide_eq_true_eq, Bool.not_eq_true', decide_eq_false_iff_not, Bool.false_eq_true, reduceIte, eq_self, Nat.reduceAdd, Nat.reduceLT, Nat.reduceSub, Nat.zero_add, Bool.not_true, Bool.not_false, and_self, and_true, true_and, List.map_cons, List.map_nil, List.replicate_succ, List.replicate_zero, List.cons_append, List.nil_append, Bool.and_true, Bool.true_and, Bool.and_self, i1, i2, decide_true]
    rw [show (List.map some [D.lst true [.lst false (ns.map .int), .int 0, .int (k : Int)], .int many] ++ List.replicate (5 - 2) none) = [some (.lst true [.lst false (ns.map .int), .int 0, .int (k : Int)]), some (.int many), none, none, none] from rfl, e_seq, all]
    exact tail cell' (k + 1) _ _
  · have hcf : decide (c = 0) = false := decide_eq_false hc
    rw [e_seq, e_ifS]
    have test : (mB2 true gEq (mP2 true gIx (mName 0) (mC (.int 1))) (mC (.int 0))) [some (.lst true [.lst false (ns.map .int), .int c, .int (k : Int)]), some (.int many), none, none, none] = .ok false [some (.lst true [.lst false (ns.map .int), .int c, .int (k : Int)]), some (.int many), none, none, none] := by
      simp only [e_nx, b_ok, b_exc, s_ok, s_exc, e_seq, t_nx, t_ret, t_exc, t_bk, t_ct, e_name, nm_fz, nm_own, o_val, o_plc, o_tru, r_val, r_plc, p_some, pb_some, j_some, j_none, e_set, set_val, f_val, fs_nil, fs_val, frc_some, l_nil, l_cons, lc_some, e_ret, ret_val, e_ifS, w_nx, w_ret, w_exc, lp_nx, e_call, ld_nil, ld_val, ldc_some, bk_nil, bk_val, ro_ret, ro_exc, ro_nx, e_mcons, e_nil, e_C, e_P1, e_P2, e_B2, e_PL, e_and, e_or, e_not, e_bv, e_if, e_tru, tru_some, e_drop, e_fr, fk_some, e_raise, e_try, try_ret, try_nx, try_exc, unb_ret, e_xf, xf_some, e_xis, xi_some, e_part, e_nopart, part_int, e_sl, e_andV, e_orV, e_notV, and_bl, or_bl, not_bl, e_isi, isi_some, td_non, td_bl, td_int, td_tx, td_tup, td_lst, e_chain, ch_t, ch_f, e_put, e_for, e_iter, it_lst, it_tup, it_tx, e_enum, en_lst, e_comp, e_yes, e_meth, ck_lst, zl_nil, zl_cons, z_lstF, z_tup, fzl_nil, fzl_cons, fz_lstE, fz_tupE, cut_nn, cut_0n, cut_n0, cut_00, z_tx, z_int, z_bl, z_non, z_lst, fz_tx, fz_int, fz_bl, fz_non, g_lenL, g_lenT, g_lt, g_le, g_gt, g_ge, g_add, g_sub, g_eqS, g_eqI, g_neS, g_neI, g_in1, g_nin1, Option.bind_some, Option.map_some, List.getElem?_cons_zero, List.getElem?_cons_succ, List.set_cons_zero, List.set_cons_succ, List.length_cons, List.length_nil, if_true, if_false, ite_true, ite_false, decide_eq_true_eq, Bool.not_eq_true', decide_eq_false_iff_not, Bool.false_eq_true, reduceIte, eq_self, Nat.reduceAdd, Nat.reduceLT, Nat.reduceSub, Nat.zero_add, Bool.not_true, Bool.not_false, and_self, and_true, true_and, List.map_cons, List.map_nil, List.replicate_succ, List.replicate_zero, List.cons_append, List.nil_append, Bool.and_true, Bool.true_and, Bool.and_self, i1, hcf]
    show ∃ d c' k', 0 ≤ d ∧ d < many ∧ runO [0, 1] 2 ((((mB2 true gEq (mP2 true gIx (mName 0) (mC (.int 1))) (mC (.int 0))) [some (.lst true [.lst false (ns.map .int), .int c, .int (k : Int)]), some (.int many), none, none, none]).toS fun b ρ1 => if b = true then _ else mNx ρ1).thn _) = _
    rw [test]
    exact tail c k none none
theorem stream_ok (ns : List Int) : F_stream [.scr ns] = .ret (stm ns 0 0) [some (.scr ns)] := by
  unfold F_stream m_stream
  rw [e_run (by rfl)]
  have g : gListC [.scr ns] = some (.lst true (ns.map .int)) := rfl
  have z : isFz (.scr ns) = true := rfl
  have gl : gLst [.lst false (ns.map .int), .int 0, .int 0] = some (stm ns 0 0) := g_lst (by show 3 ≤ lim; decide)
  have fl : fz (.lst true (ns.map .int)) = .lst false (ns.map .int) := fz_lst (zl_ints ns)
  simp only [e_nx, b_ok, b_exc, s_ok, s_exc, e_seq, t_nx, t_ret, t_exc, t_bk, t_ct, e_name, nm_fz, nm_own, o_val, o_plc, o_tru, r_val, r_plc, p_some, pb_some, j_some, j_none, e_set, set_val, f_val, fs_nil, fs_val, frc_some, l_nil, l_cons, lc_some, e_ret, ret_val, e_ifS, w_nx, w_ret, w_exc, lp_nx, e_call, ld_nil, ld_val, ldc_some, bk_nil, bk_val, ro_ret, ro_exc, ro_nx, e_mcons, e_nil, e_C, e_P1, e_P2, e_B2, e_PL, e_and, e_or, e_not, e_bv, e_if, e_tru, tru_some, e_drop, e_fr, fk_some, e_raise, e_try, try_ret, try_nx, try_exc, unb_ret, e_xf, xf_some, e_xis, xi_some, e_part, e_nopart, part_int, e_sl, e_andV, e_orV, e_notV, and_bl, or_bl, not_bl, e_isi, isi_some, td_non, td_bl, td_int, td_tx, td_tup, td_lst, e_chain, ch_t, ch_f, e_put, e_for, e_iter, it_lst, it_tup, it_tx, e_enum, en_lst, e_comp, e_yes, e_meth, ck_lst, zl_nil, zl_cons, z_lstF, z_tup, fzl_nil, fzl_cons, fz_lstE, fz_tupE, cut_nn, cut_0n, cut_n0, cut_00, z_tx, z_int, z_bl, z_non, z_lst, fz_tx, fz_int, fz_bl, fz_non, g_lenL, g_lenT, g_lt, g_le, g_gt, g_ge, g_add, g_sub, g_eqS, g_eqI, g_neS, g_neI, g_in1, g_nin1, Option.bind_some, Option.map_some, List.getElem?_cons_zero, List.getElem?_cons_succ, List.set_cons_zero, List.set_cons_succ, List.length_cons, List.length_nil, if_true, if_false, ite_true, ite_false, decide_eq_true_eq, Bool.not_eq_true', decide_eq_false_iff_not, Bool.false_eq_true, reduceIte, eq_self, Nat.reduceAdd, Nat.reduceLT, Nat.reduceSub, Nat.zero_add, Bool.not_true, Bool.not_false, and_self, and_true, true_and, List.map_cons, List.map_nil, List.replicate_succ, List.replicate_zero, List.cons_append, List.nil_append, Bool.and_true, Bool.true_and, Bool.and_self, g, z, fl, gl]
  rfl
theorem pick_ok (ns : List Int) (c : Int) (k : Nat) {o : Bool} {rows : List D} (hz : isFzL rows = true) (h0 : rows ≠ []) (hl : rows.length < 1073741824) : ∃ d c' k', d ∈ rows ∧ F_pick [stm ns c k, .lst o rows] = .ret d [some (stm ns c' k'), some (.lst o rows)] := by
  have hp : 0 < rows.length := List.length_pos_iff.mpr h0
  obtain ⟨d, c', k', d0, d1, e⟩ := next_ok ns c k (many := (rows.length : Int)) (by omega) (by omega)
  obtain ⟨j, rfl⟩ : ∃ j : Nat, d = (j : Int) := ⟨d.toNat, by omega⟩
  have hj : j < rows.length := by omega
  refine ⟨rows[j], c', k', List.getElem_mem hj, ?_⟩
  have fj := isFzL_mem hz (List.getElem_mem hj)
  have gx : gIx (.lst o rows) (.int (j : Int)) = some rows[j] := by
    rw [g_ixL, List.getElem?_eq_getElem hj]
    exact k_some fj
  unfold F_pick m_pick
  rw [e_run (by rfl)]
  -- the call
  have call : ∀ r1 : Option D, (mCall F_next (mCons true (mName 0) (mCons true (mPL gLen (mCons true (mName 1) mNil)) mNil))) [some (stm ns c k), some (.lst o rows)] = .ok (.val (.int (j : Int))) [some (stm ns c' k'), some (.lst o rows)] := fun _ => by
    unfold stm at *
    cases o with
    | true =>
      simp only [e_nx, b_ok, b_exc, s_ok, s_exc, e_seq, t_nx, t_ret, t_exc, t_bk, t_ct, e_name, nm_fz, nm_own, o_val, o_plc, o_tru, r_val, r_plc, p_some, pb_some, j_some, j_none, e_set, set_val, f_val, fs_nil, fs_val, frc_some, l_nil, l_cons, lc_some, e_ret, ret_val, e_ifS, w_nx, w_ret, w_exc, lp_nx, e_call, ld_nil, ld_val, ldc_some, bk_nil, bk_val, ro_ret, ro_exc, ro_nx, e_mcons, e_nil, e_C, e_P1, e_P2, e_B2, e_PL, e_and, e_or, e_not, e_bv, e_if, e_tru, tru_some, e_drop, e_fr, fk_some, e_raise, e_try, try_ret, try_nx, try_exc, unb_ret, e_xf, xf_some, e_xis, xi_some, e_part, e_nopart, part_int, e_sl, e_andV, e_orV, e_notV, and_bl, or_bl, not_bl, e_isi, isi_some, td_non, td_bl, td_int, td_tx, td_tup, td_lst, e_chain, ch_t, ch_f, e_put, e_for, e_iter, it_lst, it_tup, it_tx, e_enum, en_lst, e_comp, e_yes, e_meth, ck_lst, zl_nil, zl_cons, z_lstF, z_tup, fzl_nil, fzl_cons, fz_lstE, fz_tupE, cut_nn, cut_0n, cut_n0, cut_00, z_tx, z_int, z_bl, z_non, z_lst, fz_tx, fz_int, fz_bl, fz_non, g_lenL, g_lenT, g_lt, g_le, g_gt, g_ge, g_add, g_sub, g_eqS, g_eqI, g_neS, g_neI, g_in1, g_nin1, Option.bind_some, Option.map_some, List.getElem?_cons_zero, List.getElem?_cons_succ, List.set_cons_zero, List.set_cons_succ, List.length_cons, List.length_nil, if_true, if_false, ite_true, ite_false, decide_eq_true_eq, Bool.not_eq_true', decide_eq_false_iff_not, Bool.false_eq_true, reduceIte, eq_self, Nat.reduceAdd, Nat.reduceLT, Nat.reduceSub, Nat.zero_add, Bool.not_true, Bool.not_false, and_self, and_true, true_and, List.map_cons, List.map_nil, List.replicate_succ, List.replicate_zero, List.cons_append, List.nil_append, Bool.and_true, Bool.true_and, Bool.and_self]
      rw [e_callF (args := [.lst true [.lst false (ns.map .int), .int c, .int (k : Int)], .int (rows.length : Int)]) (ρ1 := [none, some (.lst true rows)]) rfl, e]
      exact bk_ret rfl
    | false =>
      simp only [e_nx, b_ok, b_exc, s_ok, s_exc, e_seq, t_nx, t_ret, t_exc, t_bk, t_ct, e_name, nm_fz, nm_own, o_val, o_plc, o_tru, r_val, r_plc, p_some, pb_some, j_some, j_none, e_set, set_val, f_val, fs_nil, fs_val, frc_some, l_nil, l_cons, lc_some, e_ret, ret_val, e_ifS, w_nx, w_ret, w_exc, lp_nx, e_call, ld_nil, ld_val, ldc_some, bk_nil, bk_val, ro_ret, ro_exc, ro_nx, e_mcons, e_nil, e_C, e_P1, e_P2, e_B2, e_PL, e_and, e_or, e_not, e_bv, e_if, e_tru, tru_some, e_drop, e_fr, fk_some, e_raise, e_try, try_ret, try_nx, try_exc, unb_ret, e_xf, xf_some, e_xis, xi_some, e_part, e_nopart, part_int, e_sl, e_andV, e_orV, e_notV, and_bl, or_bl, not_bl, e_isi, isi_some, td_non, td_bl, td_int, td_tx, td_tup, td_lst, e_chain, ch_t, ch_f, e_put, e_for, e_iter, it_lst, it_tup, it_tx, e_enum, en_lst, e_comp, e_yes, e_meth, ck_lst, zl_nil, zl_cons, z_lstF, z_tup, fzl_nil, fzl_cons, fz_lstE, fz_tupE, cut_nn, cut_0n, cut_n0, cut_00, z_tx, z_int, z_bl, z_non, z_lst, fz_tx, fz_int, fz_bl, fz_non, g_lenL, g_lenT, g_lt, g_le, g_gt, g_ge, g_add, g_sub, g_eqS, g_eqI, g_neS, g_neI, g_in1, g_nin1, Option.bind_some, Option.map_some, List.getElem?_cons_zero, List.getElem?_cons_succ, List.set_cons_zero, List.set_cons_succ, List.length_cons, List.length_nil, if_true, if_false, ite_true, ite_false, decide_eq_true_eq, Bool.not_eq_true', decide_eq_false_iff_not, Bool.false_eq_true, reduceIte, eq_self, Nat.reduceAdd, Nat.reduceLT, Nat.reduceSub, Nat.zero_add, Bool.not_true, Bool.not_false, and_self, and_true, true_and, List.map_cons, List.map_nil, List.replicate_succ, List.replicate_zero, List.cons_append, List.nil_append, Bool.and_true, Bool.true_and, Bool.and_self, hz]
      rw [e_callF (args := [.lst true [.lst false (ns.map .int), .int c, .int (k : Int)], .int (rows.length : Int)]) (ρ1 := [none, some (.lst false rows)]) rfl, e]
      exact bk_ret rfl
  cases o with
  | true =>
    rw [e_ret, e_P2]
    simp only [e_name, List.map_cons, List.map_nil, List.cons_append, List.nil_append, Nat.reduceSub, List.replicate_zero, List.getElem?_cons_succ, List.getElem?_cons_zero, j_some, nm_own z_lst, b_ok, o_plc, if_true, call none, r_plc, r_val, Option.bind_some, gx, p_some, s_ok, ret_val]
    rfl
  | false =>
    have hz' : isFz (.lst false rows) = true := by rw [z_lstF]; exact hz
    rw [e_ret, e_P2]
    simp only [e_name, List.map_cons, List.map_nil, List.cons_append, List.nil_append, Nat.reduceSub, List.replicate_zero, List.getElem?_cons_succ, List.getElem?_cons_zero, j_some, nm_fz hz', b_ok, o_val, if_true, call none, r_plc, r_val, Option.bind_some, gx, p_some, s_ok, ret_val]
    rfl
/-! ### the comparison of data that is the same -/
theorem i_bb : isiB "bool" "bool" = true := by decide
theorem i_ib : isiB "int" "bool" = false := by decide
theorem i_ii : isiB "int" "int" = true := by decide
theorem i_sb : isiB "str" "bool" = false := by decide
theorem i_si : isiB "str" "int" = false := by decide
theorem i_ss : isiB "str" "str" = true := by decide
theorem i_st : isiB "str" "tuple" = false := by decide
theorem i_sl : isiB "str" "list" = false := by decide
theorem i_tb : isiB "tuple" "bool" = false := by decide
theorem i_ti : isiB "tuple" "int" = false := by decide
theorem i_ts : isiB "tuple" "str" = false := by decide
theorem i_tt : isiB "tuple" "tuple" = true := by decide
theorem i_tl : isiB "tuple" "list" = false := by decide
theorem i_lb : isiB "list" "bool" = false := by decide
theorem i_li : isiB "list" "int" = false := by decide
theorem i_ls : isiB "list" "str" = false := by decide
theorem i_lt : isiB "list" "tuple" = false := by decide
theorem i_ll : isiB "list" "list" = true := by decide
theorem i_nb : isiB "NoneType" "bool" = false := by decide
theorem i_ni : isiB "NoneType" "int" = false := by decide
theorem i_ns : isiB "NoneType" "str" = false := by decide
theorem i_nt : isiB "NoneType" "tuple" = false := by decide
theorem i_nl : isiB "NoneType" "list" = false := by decide
theorem tr_bl {b : Bool} : truthD (.bl b) = some b := Eq.trans rfl rfl
theorem is_non : gIs .non .non = some true := Eq.trans rfl rfl
theorem is_bl {b : Bool} : gIs (.bl b) .non = some false := Eq.trans rfl rfl
theorem is_int {i : Int} : gIs (.int i) .non = some false := Eq.trans rfl rfl
theorem is_tx {l : List Nat} : gIs (tx l) .non = some false := Eq.trans rfl rfl
theorem is_tup {ds : List D} : gIs (.tup ds) .non = some false := Eq.trans rfl rfl
theorem is_lst {o : Bool} {ds : List D} : gIs (.lst o ds) .non = some false := Eq.trans rfl rfl
theorem g_eqB {a b : Bool} : gEq (.bl a) (.bl b) = some (decide (a = b)) := Eq.trans rfl rfl
theorem call_v {F : Fn} {d r : D} {ps ρ : Ro} (h : F [fz d] = .ret r ps) (l : ps.length = 1) : callF F [.val d] ρ = .ok (.val r) ρ := by
  rw [e_callF (args := [fz d]) (ρ1 := ρ) rfl, h]
  match ps, l with
  | [p], _ => exact bk_ret rfl
theorem call_vv {F : Fn} {d e r : D} {ps ρ : Ro} (h : F [fz d, fz e] = .ret r ps) (l : ps.length = 2) : callF F [.val d, .val e] ρ = .ok (.val r) ρ := by
  rw [e_callF (args := [fz d, fz e]) (ρ1 := ρ) rfl, h]
  match ps, l with
  | [p, q], _ => exact bk_ret rfl
theorem call_vvv {F : Fn} {d e f r : D} {ps ρ : Ro} (h : F [fz d, fz e, fz f] = .ret r ps) (l : ps.length = 3) : callF F [.val d, .val e, .val f] ρ = .ok (.val r) ρ := by
  rw [e_callF (args := [fz d, fz e, fz f]) (ρ1 := ρ) rfl, h]
  match ps, l with
  | [p, q, u], _ => exact bk_ret rfl
theorem call_p {F : Fn} {i : Nat} {d r : D} {p : Option D} {ps ρ : Ro} (e : (ρ[i]?).join = some d) (h : F [d] = .ret r (p :: ps)) : callF F [.plc i] ρ = .ok (.val r) (ρ.set i p) := by
  have hi : i < ρ.length := by
    cases z : ρ[i]? with
    | none => rw [z] at e; cases e
    | some x => exact (List.getElem?_eq_some_iff.mp z).1
  rw [e_callF (args := [d]) (ρ1 := ρ.set i none) (by rw [ld_plc e]; rfl), h]
  refine bk_ret ?_
  rw [bk_plc (by rw [List.length_set]; exact hi), List.set_set, bk_nil]
theorem call_pv {F : Fn} {i : Nat} {d e1 r : D} {p q : Option D} {ps ρ : Ro} (e : (ρ[i]?).join = some d) (h : F [d, fz e1] = .ret r (p :: q :: ps)) : callF F [.plc i, .val e1] ρ = .ok (.val r) (ρ.set i p) := by
  have hi : i < ρ.length := by
    cases z : ρ[i]? with
    | none => rw [z] at e; cases e
    | some x => exact (List.getElem?_eq_some_iff.mp z).1
  rw [e_callF (args := [d, fz e1]) (ρ1 := ρ.set i none) (by rw [ld_plc e]; rfl), h]
  refine bk_ret ?_
  rw [bk_plc (by rw [List.length_set]; exact hi), List.set_set, bk_val, bk_nil]
theorem call_vp {F : Fn} {i : Nat} {d e1 r : D} {p q : Option D} {ps ρ : Ro} (e : (ρ[i]?).join = some d) (h : F [fz e1, d] = .ret r (q :: p :: ps)) : callF F [.val e1, .plc i] ρ = .ok (.val r) (ρ.set i p) := by
  have hi : i < ρ.length := by
    cases z : ρ[i]? with
    | none => rw [z] at e; cases e
    | some x => exact (List.getElem?_eq_some_iff.mp z).1
  rw [e_callF (args := [fz e1, d]) (ρ1 := ρ.set i none) (by rw [ld_val, ld_plc e]; rfl), h]
  refine bk_ret ?_
  rw [bk_val, bk_plc (by rw [List.length_set]; exact hi), List.set_set, bk_nil]
theorem call_pp {F : Fn} {i j : Nat} {d e1 r : D} {p q : Option D} {ps ρ : Ro} (hij : i ≠ j) (e : (ρ[i]?).join = some d) (e2 : (ρ[j]?).join = some e1) (h : F [d, e1] = .ret r (p :: q :: ps)) : callF F [.plc i, .plc j] ρ = .ok (.val r) ((ρ.set i p).set j q) := by
  have hi : i < ρ.length := by
    cases z : ρ[i]? with
    | none => rw [z] at e; cases e
    | some x => exact (List.getElem?_eq_some_iff.mp z).1
  have hj : j < ρ.length := by
    cases z : ρ[j]? with
    | none => rw [z] at e2; cases e2
    | some x => exact (List.getElem?_eq_some_iff.mp z).1
  rw [e_callF (args := [d, e1]) (ρ1 := (ρ.set i none).set j none) (by rw [ld_plc e, ld_plc (by rw [List.getElem?_set_ne hij]; exact e2)]; rfl), h]
  refine bk_ret ?_
  rw [bk_plc (by rw [List.length_set, List.length_set]; exact hi), bk_plc (by rw [List.length_set, List.length_set, List.length_set]; exact hj), bk_nil, List.set_comm _ _ hij.symm, List.set_set, List.set_set]
theorem isint_ok (i : Int) : F_isint [.int i] = .ret (.bl true) [some (.int i)] := by
  unfold F_isint m_isint
  rw [e_run (by rfl)]
  simp only [e_nx, b_ok, b_exc, s_ok, s_exc, e_seq, t_nx, t_ret, t_exc, t_bk, t_ct, e_name, nm_fz, nm_own, o_val, o_plc, o_tru, r_val, r_plc, p_some, pb_some, j_some, j_none, e_set, set_val, f_val, fs_nil, fs_val, frc_some, l_nil, l_cons, lc_some, e_ret, ret_val, e_ifS, w_nx, w_ret, w_exc, lp_nx, e_call, ld_nil, ld_val, ldc_some, bk_nil, bk_val, ro_ret, ro_exc, ro_nx, e_mcons, e_nil, e_C, e_P1, e_P2, e_B2, e_PL, e_and, e_or, e_not, e_bv, e_if, e_tru, tru_some, e_drop, e_fr, fk_some, e_raise, e_try, try_ret, try_nx, try_exc, unb_ret, e_xf, xf_some, e_xis, xi_some, e_part, e_nopart, part_int, e_sl, e_andV, e_orV, e_notV, and_bl, or_bl, not_bl, e_isi, isi_some, td_non, td_bl, td_int, td_tx, td_tup, td_lst, e_chain, ch_t, ch_f, e_put, e_for, e_iter, it_lst, it_tup, it_tx, e_enum, en_lst, e_comp, e_yes, e_meth, ck_lst, zl_nil, zl_cons, z_lstF, z_tup, fzl_nil, fzl_cons, fz_lstE, fz_tupE, cut_nn, cut_0n, cut_n0, cut_00, z_tx, z_int, z_bl, z_non, z_lst, fz_tx, fz_int, fz_bl, fz_non, g_lenL, g_lenT, g_lt, g_le, g_gt, g_ge, g_add, g_sub, g_eqS, g_eqI, g_neS, g_neI, g_in1, g_nin1, Option.bind_some, Option.map_some, List.getElem?_cons_zero, List.getElem?_cons_succ, List.set_cons_zero, List.set_cons_succ, List.length_cons, List.length_nil, if_true, if_false, ite_true, ite_false, decide_eq_true_eq, Bool.not_eq_true', decide_eq_false_iff_not, Bool.false_eq_true, reduceIte, eq_self, Nat.reduceAdd, Nat.reduceLT, Nat.reduceSub, Nat.zero_add, Bool.not_true, Bool.not_false, and_self, and_true, true_and, List.map_cons, List.map_nil, List.replicate_succ, List.replicate_zero, List.cons_append, List.nil_append, Bool.and_true, Bool.true_and, Bool.and_self, i_bb, i_ib, i_ii, i_sb, i_si, i_ss, i_st, i_sl, i_tb, i_ti, i_ts, i_tt, i_tl, i_lb, i_li, i_ls, i_lt, i_ll, i_nb, i_ni, i_ns, i_nt, i_nl, tr_bl, is_non, is_bl, is_int, is_tx, is_tup, is_lst, g_eqB]
  rfl
theorem eq_non {n : Nat} : F_equal (n + 1) [.non, .non] = .ret (.bl true) [some .non, some .non] := by
  show runD [0, 1] 2 3 (m_equal (F_equal n)) [.non, .non] = _
  unfold m_equal
  rw [e_run (by rfl)]
  simp only [e_nx, b_ok, b_exc, s_ok, s_exc, e_seq, t_nx, t_ret, t_exc, t_bk, t_ct, e_name, nm_fz, nm_own, o_val, o_plc, o_tru, r_val, r_plc, p_some, pb_some, j_some, j_none, e_set, set_val, f_val, fs_nil, fs_val, frc_some, l_nil, l_cons, lc_some, e_ret, ret_val, e_ifS, w_nx, w_ret, w_exc, lp_nx, e_call, ld_nil, ld_val, ldc_some, bk_nil, bk_val, ro_ret, ro_exc, ro_nx, e_mcons, e_nil, e_C, e_P1, e_P2, e_B2, e_PL, e_and, e_or, e_not, e_bv, e_if, e_tru, tru_some, e_drop, e_fr, fk_some, e_raise, e_try, try_ret, try_nx, try_exc, unb_ret, e_xf, xf_some, e_xis, xi_some, e_part, e_nopart, part_int, e_sl, e_andV, e_orV, e_notV, and_bl, or_bl, not_bl, e_isi, isi_some, td_non, td_bl, td_int, td_tx, td_tup, td_lst, e_chain, ch_t, ch_f, e_put, e_for, e_iter, it_lst, it_tup, it_tx, e_enum, en_lst, e_comp, e_yes, e_meth, ck_lst, zl_nil, zl_cons, z_lstF, z_tup, fzl_nil, fzl_cons, fz_lstE, fz_tupE, cut_nn, cut_0n, cut_n0, cut_00, z_tx, z_int, z_bl, z_non, z_lst, fz_tx, fz_int, fz_bl, fz_non, g_lenL, g_lenT, g_lt, g_le, g_gt, g_ge, g_add, g_sub, g_eqS, g_eqI, g_neS, g_neI, g_in1, g_nin1, Option.bind_some, Option.map_some, List.getElem?_cons_zero, List.getElem?_cons_succ, List.set_cons_zero, List.set_cons_succ, List.length_cons, List.length_nil, if_true, if_false, ite_true, ite_false, decide_eq_true_eq, Bool.not_eq_true', decide_eq_false_iff_not, Bool.false_eq_true, reduceIte, eq_self, Nat.reduceAdd, Nat.reduceLT, Nat.reduceSub, Nat.zero_add, Bool.not_true, Bool.not_false, and_self, and_true, true_and, List.map_cons, List.map_nil, List.replicate_succ, List.replicate_zero, List.cons_append, List.nil_append, Bool.and_true, Bool.true_and, Bool.and_self, i_bb, i_ib, i_ii, i_sb, i_si, i_ss, i_st, i_sl, i_tb, i_ti, i_ts, i_tt, i_tl, i_lb, i_li, i_ls, i_lt, i_ll, i_nb, i_ni, i_ns, i_nt, i_nl, tr_bl, is_non, is_bl, is_int, is_tx, is_tup, is_lst, g_eqB]
  rfl
theorem eq_bl {n : Nat} {b : Bool} : F_equal (n + 1) [.bl b, .bl b] = .ret (.bl true) [some (.bl b), some (.bl b)] := by
  show runD [0, 1] 2 3 (m_equal (F_equal n)) [.bl b, .bl b] = _
  unfold m_equal
  rw [e_run (by rfl)]
  simp only [e_nx, b_ok, b_exc, s_ok, s_exc, e_seq, t_nx, t_ret, t_exc, t_bk, t_ct, e_name, nm_fz, nm_own, o_val, o_plc, o_tru, r_val, r_plc, p_some, pb_some, j_some, j_none, e_set, set_val, f_val, fs_nil, fs_val, frc_some, l_nil, l_cons, lc_some, e_ret, ret_val, e_ifS, w_nx, w_ret, w_exc, lp_nx, e_call, ld_nil, ld_val, ldc_some, bk_nil, bk_val, ro_ret, ro_exc, ro_nx, e_mcons, e_nil, e_C, e_P1, e_P2, e_B2, e_PL, e_and, e_or, e_not, e_bv, e_if, e_tru, tru_some, e_drop, e_fr, fk_some, e_raise, e_try, try_ret, try_nx, try_exc, unb_ret, e_xf, xf_some, e_xis, xi_some, e_part, e_nopart, part_int, e_sl, e_andV, e_orV, e_notV, and_bl, or_bl, not_bl, e_isi, isi_some, td_non, td_bl, td_int, td_tx, td_tup, td_lst, e_chain, ch_t, ch_f, e_put, e_for, e_iter, it_lst, it_tup, it_tx, e_enum, en_lst, e_comp, e_yes, e_meth, ck_lst, zl_nil, zl_cons, z_lstF, z_tup, fzl_nil, fzl_cons, fz_lstE, fz_tupE, cut_nn, cut_0n, cut_n0, cut_00, z_tx, z_int, z_bl, z_non, z_lst, fz_tx, fz_int, fz_bl, fz_non, g_lenL, g_lenT, g_lt, g_le, g_gt, g_ge, g_add, g_sub, g_eqS, g_eqI, g_neS, g_neI, g_in1, g_nin1, Option.bind_some, Option.map_some, List.getElem?_cons_zero, List.getElem?_cons_succ, List.set_cons_zero, List.set_cons_succ, List.length_cons, List.length_nil, if_true, if_false, ite_true, ite_false, decide_eq_true_eq, Bool.not_eq_true', decide_eq_false_iff_not, Bool.false_eq_true, reduceIte, eq_self, Nat.reduceAdd, Nat.reduceLT, Nat.reduceSub, Nat.zero_add, Bool.not_true, Bool.not_false, and_self, and_true, true_and, List.map_cons, List.map_nil, List.replicate_succ, List.replicate_zero, List.cons_append, List.nil_append, Bool.and_true, Bool.true_and, Bool.and_self, i_bb, i_ib, i_ii, i_sb, i_si, i_ss, i_st, i_sl, i_tb, i_ti, i_ts, i_tt, i_tl, i_lb, i_li, i_ls, i_lt, i_ll, i_nb, i_ni, i_ns, i_nt, i_nl, tr_bl, is_non, is_bl, is_int, is_tx, is_tup, is_lst, g_eqB, decide_true]
  rfl
theorem eq_int {n : Nat} {i : Int} : F_equal (n + 1) [.int i, .int i] = .ret (.bl true) [some (.int i), some (.int i)] := by
  show runD [0, 1] 2 3 (m_equal (F_equal n)) [.int i, .int i] = _
  unfold m_equal
  rw [e_run (by rfl)]
  have c : ∀ ρ, callF F_isint [.val (.int i)] ρ = .ok (.val (.bl true)) ρ := fun ρ => call_v (isint_ok i) rfl
  simp only [c, e_nx, b_ok, b_exc, s_ok, s_exc, e_seq, t_nx, t_ret, t_exc, t_bk, t_ct, e_name, nm_fz, nm_own, o_val, o_plc, o_tru, r_val, r_plc, p_some, pb_some, j_some, j_none, e_set, set_val, f_val, fs_nil, fs_val, frc_some, l_nil, l_cons, lc_some, e_ret, ret_val, e_ifS, w_nx, w_ret, w_exc, lp_nx, e_call, ld_nil, ld_val, ldc_some, bk_nil, bk_val, ro_ret, ro_exc, ro_nx, e_mcons, e_nil, e_C, e_P1, e_P2, e_B2, e_PL, e_and, e_or, e_not, e_bv, e_if, e_tru, tru_some, e_drop, e_fr, fk_some, e_raise, e_try, try_ret, try_nx, try_exc, unb_ret, e_xf, xf_some, e_xis, xi_some, e_part, e_nopart, part_int, e_sl, e_andV, e_orV, e_notV, and_bl, or_bl, not_bl, e_isi, isi_some, td_non, td_bl, td_int, td_tx, td_tup, td_lst, e_chain, ch_t, ch_f, e_put, e_for, e_iter, it_lst, it_tup, it_tx, e_enum, en_lst, e_comp, e_yes, e_meth, ck_lst, zl_nil, zl_cons, z_lstF, z_tup, fzl_nil, fzl_cons, fz_lstE, fz_tupE, cut_nn, cut_0n, cut_n0, cut_00, z_tx, z_int, z_bl, z_non, z_lst, fz_tx, fz_int, fz_bl, fz_non, g_lenL, g_lenT, g_lt, g_le, g_gt, g_ge, g_add, g_sub, g_eqS, g_eqI, g_neS, g_neI, g_in1, g_nin1, Option.bind_some, Option.map_some, List.getElem?_cons_zero, List.getElem?_cons_succ, List.set_cons_zero, List.set_cons_succ, List.length_cons, List.length_nil, if_true, if_false, ite_true, ite_false, decide_eq_true_eq, Bool.not_eq_true', decide_eq_false_iff_not, Bool.false_eq_true, reduceIte, eq_self, Nat.reduceAdd, Nat.reduceLT, Nat.reduceSub, Nat.zero_add, Bool.not_true, Bool.not_false, and_self, and_true, true_and, List.map_cons, List.map_nil, List.replicate_succ, List.replicate_zero, List.cons_append, List.nil_append, Bool.and_true, Bool.true_and, Bool.and_self, i_bb, i_ib, i_ii, i_sb, i_si, i_ss, i_st, i_sl, i_tb, i_ti, i_ts, i_tt, i_tl, i_lb, i_li, i_ls, i_lt, i_ll, i_nb, i_ni, i_ns, i_nt, i_nl, tr_bl, is_non, is_bl, is_int, is_tx, is_tup, is_lst, g_eqB, decide_true]
  rfl
theorem eq_tx {n : Nat} {l : List Nat} : F_equal (n + 1) [tx l, tx l] = .ret (.bl true) [some (tx l), some (tx l)] := by
  show runD [0, 1] 2 3 (m_equal (F_equal n)) [tx l, tx l] = _
  unfold m_equal
  rw [e_run (by rfl)]
  simp only [e_nx, b_ok, b_exc, s_ok, s_exc, e_seq, t_nx, t_ret, t_exc, t_bk, t_ct, e_name, nm_fz, nm_own, o_val, o_plc, o_tru, r_val, r_plc, p_some, pb_some, j_some, j_none, e_set, set_val, f_val, fs_nil, fs_val, frc_some, l_nil, l_cons, lc_some, e_ret, ret_val, e_ifS, w_nx, w_ret, w_exc, lp_nx, e_call, ld_nil, ld_val, ldc_some, bk_nil, bk_val, ro_ret, ro_exc, ro_nx, e_mcons, e_nil, e_C, e_P1, e_P2, e_B2, e_PL, e_and, e_or, e_not, e_bv, e_if, e_tru, tru_some, e_drop, e_fr, fk_some, e_raise, e_try, try_ret, try_nx, try_exc, unb_ret, e_xf, xf_some, e_xis, xi_some, e_part, e_nopart, part_int, e_sl, e_andV, e_orV, e_notV, and_bl, or_bl, not_bl, e_isi, isi_some, td_non, td_bl, td_int, td_tx, td_tup, td_lst, e_chain, ch_t, ch_f, e_put, e_for, e_iter, it_lst, it_tup, it_tx, e_enum, en_lst, e_comp, e_yes, e_meth, ck_lst, zl_nil, zl_cons, z_lstF, z_tup, fzl_nil, fzl_cons, fz_lstE, fz_tupE, cut_nn, cut_0n, cut_n0, cut_00, z_tx, z_int, z_bl, z_non, z_lst, fz_tx, fz_int, fz_bl, fz_non, g_lenL, g_lenT, g_lt, g_le, g_gt, g_ge, g_add, g_sub, g_eqS, g_eqI, g_neS, g_neI, g_in1, g_nin1, Option.bind_some, Option.map_some, List.getElem?_cons_zero, List.getElem?_cons_succ, List.set_cons_zero, List.set_cons_succ, List.length_cons, List.length_nil, if_true, if_false, ite_true, ite_false, decide_eq_true_eq, Bool.not_eq_true', decide_eq_false_iff_not, Bool.false_eq_true, reduceIte, eq_self, Nat.reduceAdd, Nat.reduceLT, Nat.reduceSub, Nat.zero_add, Bool.not_true, Bool.not_false, and_self, and_true, true_and, List.map_cons, List.map_nil, List.replicate_succ, List.replicate_zero, List.cons_append, List.nil_append, Bool.and_true, Bool.true_and, Bool.and_self, i_bb, i_ib, i_ii, i_sb, i_si, i_ss, i_st, i_sl, i_tb, i_ti, i_ts, i_tt, i_tl, i_lb, i_li, i_ls, i_lt, i_ll, i_nb, i_ni, i_ns, i_nt, i_nl, tr_bl, is_non, is_bl, is_int, is_tx, is_tup, is_lst, g_eqB, decide_true]
  rfl
theorem all_true : ∀ ds : List D, boolsD (ds.map fun _ => D.bl true) = some (ds.map fun _ => true)
  | [] => rfl
  | _ :: ds => by
    show (boolsD (ds.map fun _ => D.bl true)).map (true :: ·) = _
    rw [all_true ds]
    rfl
theorem g_all {o : Bool} {ds : List D} : gAll [.lst o (ds.map fun _ => .bl true)] = some (.bl true) := by
  show (boolsD (ds.map fun _ => D.bl true)).map (fun bs => D.bl (bs.all id)) = _
  rw [all_true]
  show some (D.bl ((ds.map fun _ => true).all id)) = _
  have : (ds.map fun _ => true).all id = true := by simp
  rw [this]
def rgO (ρ1 : Ro) : Option (List D) → R (List D)
  | some [.int j] => if -(2 ^ 62) ≤ j ∧ j < 2 ^ 62 then .ok (rngD 0 j.toNat) ρ1 else .bad
  | _ => .bad
theorem e_rng1 {ρ : Ro} {ms : M (List Op)} : mRng1 ms ρ = (ms ρ).bind fun os ρ1 => rgO ρ1 (rdL os ρ1) := by unfold mRng1 rgO; rfl
theorem rg_int {ρ : Ro} {n : Nat} (h : n < 2 ^ 62) : rgO ρ (some [.int (n : Int)]) = .ok ((List.range n).map fun i : Nat => D.int (i : Int)) ρ := by
  unfold rgO
  have e : rngD 0 (n : Int).toNat = (List.range n).map fun i : Nat => D.int (i : Int) := by
    unfold rngD
    simp
  dsimp only
  rw [if_pos ⟨by omega, by omega⟩, e]
/-- the parts of two rows that are the same -/
theorem eq_parts {n : Nat} {a b : D} {xs : List D} {oa ob : Op} (ha : mName 0 = fun ρ => nmO 0 ρ (ρ[0]?).join) (fa : ∀ i : Nat, (h : i < xs.length) → gIx a (.int (i : Int)) = some xs[i]) (fb : ∀ i : Nat, (h : i < xs.length) → gIx b (.int (i : Int)) = some xs[i])
    (na : ∀ x, nmO 0 [some a, some b, x] (some a) = .ok oa [some a, some b, x]) (nb : ∀ x, nmO 1 [some a, some b, x] (some b) = .ok ob [some a, some b, x]) (ra : ∀ x, rd oa [some a, some b, x] = some a) (rb : ∀ x, rd ob [some a, some b, x] = some b)
    (hz : isFzL xs = true) (hl : xs.length ≤ lim) (glb : gLen [b] = some (.int (xs.length : Nat))) (h : ∀ x ∈ xs, ∃ ps : Ro, ps.length = 2 ∧ F_equal n [x, x] = .ret (.bl true) ps) :
    (mComp [0, 1] (.nm 2) (mRng1 (mCons true (mPL gLen (mCons true (mName 1) mNil)) mNil)) mYes (mCall (F_equal n) (mCons true (mP2 true gIx (mName 0) (mName 2)) (mCons true (mP2 true gIx (mName 1) (mName 2)) mNil))) [2]) [some a, some b, none] = .ok (.val (.lst true (xs.map fun _ => .bl true))) [some a, some b, none] := by
  have l62 : xs.length < 2 ^ 62 := Nat.lt_of_le_of_lt hl (by decide)
  have rng : (mRng1 (mCons true (mPL gLen (mCons true (mName 1) mNil)) mNil)) [some a, some b, none] = .ok ((List.range xs.length).map fun i : Nat => D.int (i : Int)) [some a, some b, none] := by
    rw [e_rng1]
    simp only [e_mcons, e_PL, e_nil, e_name, List.getElem?_cons_succ, List.getElem?_cons_zero, j_some, nb, b_ok, o_tru, if_true, l_cons, l_nil, rb, lc_some, Option.bind_some, glb, p_some, r_val, rg_int l62]
  rw [e_comp, rng, b_ok]
  show (if compOk [0, 1] [2] [some a, some b, none] = true then (mcLoop [0, 1] (.nm 2) mYes (mCall (F_equal n) (mCons true (mP2 true gIx (mName 0) (mName 2)) (mCons true (mP2 true gIx (mName 1) (mName 2)) mNil))) [2] ((List.range xs.length).map fun i : Nat => D.int (i : Int)) [] [some a, some b, none]).nox.bind fun out ρ2 => R.ok (Op.val (.lst true out)) (restR [some a, some b, none] [2] ρ2) else .bad) = _
  rw [if_pos (by rfl), mc_map (f := fun _ => .bl true) (fun d hd => ?_) (by rw [List.length_map, List.length_range]; simp only [List.length_nil, Nat.zero_add]; exact hl)]
  · show R.ok (Op.val (.lst true ([] ++ ((List.range xs.length).map fun i : Nat => D.int (i : Int)).map fun _ => .bl true))) [some a, some b, none] = _
    have e : ([] ++ ((List.range xs.length).map fun i : Nat => D.int (i : Int)).map fun _ => D.bl true) = xs.map fun _ => .bl true := by
      rw [List.nil_append, List.map_map]
      refine List.ext_getElem? fun j => ?_
      rw [List.getElem?_map, List.getElem?_map]
      by_cases hj : j < xs.length
      · rw [List.getElem?_eq_getElem hj, List.getElem?_eq_getElem (by simpa using hj)]
        rfl
      · rw [List.getElem?_eq_none (by rw [List.length_range]; omega), List.getElem?_eq_none (by omega)]
        rfl
    rw [e]
  · obtain ⟨j, hj, rfl⟩ := List.mem_map.mp hd
    have hj : j < xs.length := List.mem_range.mp hj
    have mem := List.getElem_mem hj
    have fj := isFzL_mem hz mem
    obtain ⟨ps, l2, e⟩ := h _ mem
    refine ⟨[some a, some b, some (.int (j : Int))], .val (.bl true), [some a, some b, some (.int (j : Int))], [some a, some b, some (.int (j : Int))], rfl, ?_, rfl, rfl⟩
    simp only [e_call, e_mcons, e_P2, e_nil, e_name, List.getElem?_cons_succ, List.getElem?_cons_zero, j_some, na, nb, nm_fz z_int, b_ok, o_tru, o_val, if_true, ra, rb, r_val, Option.bind_some, fa j hj, fb j hj, p_some]
    exact call_vv (by rw [fz_of _ fj]; exact e) l2
theorem eq_lst {n : Nat} {o1 o2 : Bool} {xs : List D} (hz : isFzL xs = true) (hl : xs.length ≤ lim) (h : ∀ x ∈ xs, ∃ ps : Ro, ps.length = 2 ∧ F_equal n [x, x] = .ret (.bl true) ps) : F_equal (n + 1) [.lst o1 xs, .lst o2 xs] = .ret (.bl true) [some (.lst o1 xs), some (.lst o2 xs)] := by
  have gi : ∀ o : Bool, ∀ i : Nat, (h : i < xs.length) → gIx (.lst o xs) (.int (i : Int)) = some xs[i] := fun o i hi => by
    rw [g_ixL, List.getElem?_eq_getElem hi]
    exact k_some (isFzL_mem hz (List.getElem_mem hi))
  have zF : isFz (.lst false xs) = true := by rw [z_lstF]; exact hz
  show runD [0, 1] 2 3 (m_equal (F_equal n)) [.lst o1 xs, .lst o2 xs] = _
  unfold m_equal
  rw [e_run (by rfl)]
  have neL : gNe (.int (xs.length : Nat)) (.int (xs.length : Nat)) = some false := by
    rw [g_neI, decide_eq_true rfl]
    rfl
  cases o1 <;> cases o2
  · have cp := eq_parts (n := n) (a := .lst false xs) (b := .lst false xs) (xs := xs) (funext fun ρ => e_name) (gi _) (gi _) (fun x => nm_fz zF) (fun x => nm_fz zF) (fun x => rfl) (fun x => rfl) hz hl rfl h
    simp only [cp, e_nx, b_ok, b_exc, s_ok, s_exc, e_seq, t_nx, t_ret, t_exc, t_bk, t_ct, e_name, nm_fz, nm_own, o_val, o_plc, o_tru, r_val, r_plc, p_some, pb_some, j_some, j_none, e_set, set_val, f_val, fs_nil, fs_val, frc_some, l_nil, l_cons, lc_some, e_ret, ret_val, e_ifS, w_nx, w_ret, w_exc, lp_nx, e_call, ld_nil, ld_val, ldc_some, bk_nil, bk_val, ro_ret, ro_exc, ro_nx, e_mcons, e_nil, e_C, e_P1, e_P2, e_B2, e_PL, e_and, e_or, e_not, e_bv, e_if, e_tru, tru_some, e_drop, e_fr, fk_some, e_raise, e_try, try_ret, try_nx, try_exc, unb_ret, e_xf, xf_some, e_xis, xi_some, e_part, e_nopart, part_int, e_sl, e_andV, e_orV, e_notV, and_bl, or_bl, not_bl, e_isi, isi_some, td_non, td_bl, td_int, td_tx, td_tup, td_lst, e_chain, ch_t, ch_f, e_put, e_for, e_iter, it_lst, it_tup, it_tx, e_enum, en_lst, e_comp, e_yes, e_meth, ck_lst, zl_nil, zl_cons, z_lstF, z_tup, fzl_nil, fzl_cons, fz_lstE, fz_tupE, cut_nn, cut_0n, cut_n0, cut_00, z_tx, z_int, z_bl, z_non, z_lst, fz_tx, fz_int, fz_bl, fz_non, g_lenL, g_lenT, g_lt, g_le, g_gt, g_ge, g_add, g_sub, g_eqS, g_eqI, g_neS, g_neI, g_in1, g_nin1, Option.bind_some, Option.map_some, List.getElem?_cons_zero, List.getElem?_cons_succ, List.set_cons_zero, List.set_cons_succ, List.length_cons, List.length_nil, if_true, if_false, ite_true, ite_false, decide_eq_true_eq, Bool.not_eq_true', decide_eq_false_iff_not, Bool.false_eq_true, reduceIte, eq_self, Nat.reduceAdd, Nat.reduceLT, Nat.reduceSub, Nat.zero_add, Bool.not_true, Bool.not_false, and_self, and_true, true_and, List.map_cons, List.map_nil, List.replicate_succ, List.replicate_zero, List.cons_append, List.nil_append, Bool.and_true, Bool.true_and, Bool.and_self, i_bb, i_ib, i_ii, i_sb, i_si, i_ss, i_st, i_sl, i_tb, i_ti, i_ts, i_tt, i_tl, i_lb, i_li, i_ls, i_lt, i_ll, i_nb, i_ni, i_ns, i_nt, i_nl, tr_bl, is_non, is_bl, is_int, is_tx, is_tup, is_lst, g_eqB, hz, g_all, neL]
    rfl
  · have cp := eq_parts (n := n) (a := .lst false xs) (b := .lst true xs) (xs := xs) (funext fun ρ => e_name) (gi _) (gi _) (fun x => nm_fz zF) (fun x => nm_own z_lst) (fun x => rfl) (fun x => rfl) hz hl rfl h
    simp only [cp, e_nx, b_ok, b_exc, s_ok, s_exc, e_seq, t_nx, t_ret, t_exc, t_bk, t_ct, e_name, nm_fz, nm_own, o_val, o_plc, o_tru, r_val, r_plc, p_some, pb_some, j_some, j_none, e_set, set_val, f_val, fs_nil, fs_val, frc_some, l_nil, l_cons, lc_some, e_ret, ret_val, e_ifS, w_nx, w_ret, w_exc, lp_nx, e_call, ld_nil, ld_val, ldc_some, bk_nil, bk_val, ro_ret, ro_exc, ro_nx, e_mcons, e_nil, e_C, e_P1, e_P2, e_B2, e_PL, e_and, e_or, e_not, e_bv, e_if, e_tru, tru_some, e_drop, e_fr, fk_some, e_raise, e_try, try_ret, try_nx, try_exc, unb_ret, e_xf, xf_some, e_xis, xi_some, e_part, e_nopart, part_int, e_sl, e_andV, e_orV, e_notV, and_bl, or_bl, not_bl, e_isi, isi_some, td_non, td_bl, td_int, td_tx, td_tup, td_lst, e_chain, ch_t, ch_f, e_put, e_for, e_iter, it_lst, it_tup, it_tx, e_enum, en_lst, e_comp, e_yes, e_meth, ck_lst, zl_nil, zl_cons, z_lstF, z_tup, fzl_nil, fzl_cons, fz_lstE, fz_tupE, cut_nn, cut_0n, cut_n0, cut_00, z_tx, z_int, z_bl, z_non, z_lst, fz_tx, fz_int, fz_bl, fz_non, g_lenL, g_lenT, g_lt, g_le, g_gt, g_ge, g_add, g_sub, g_eqS, g_eqI, g_neS, g_neI, g_in1, g_nin1, Option.bind_some, Option.map_some, List.getElem?_cons_zero, List.getElem?_cons_succ, List.set_cons_zero, List.set_cons_succ, List.length_cons, List.length_nil, if_true, if_false, ite_true, ite_false, decide_eq_true_eq, Bool.not_eq_true', decide_eq_false_iff_not, Bool.false_eq_true, reduceIte, eq_self, Nat.reduceAdd, Nat.reduceLT, Nat.reduceSub, Nat.zero_add, Bool.not_true, Bool.not_false, and_self, and_true, true_and, List.map_cons, List.map_nil, List.replicate_succ, List.replicate_zero, List.cons_append, List.nil_append, Bool.and_true, Bool.true_and, Bool.and_self, i_bb, i_ib, i_ii, i_sb, i_si, i_ss, i_st, i_sl, i_tb, i_ti, i_ts, i_tt, i_tl, i_lb, i_li, i_ls, i_lt, i_ll, i_nb, i_ni, i_ns, i_nt, i_nl, tr_bl, is_non, is_bl, is_int, is_tx, is_tup, is_lst, g_eqB, hz, g_all, neL]
    rfl
  · have cp := eq_parts (n := n) (a := .lst true xs) (b := .lst false xs) (xs := xs) (funext fun ρ => e_name) (gi _) (gi _) (fun x => nm_own z_lst) (fun x => nm_fz zF) (fun x => rfl) (fun x => rfl) hz hl rfl h
    simp only [cp, e_nx, b_ok, b_exc, s_ok, s_exc, e_seq, t_nx, t_ret, t_exc, t_bk, t_ct, e_name, nm_fz, nm_own, o_val, o_plc, o_tru, r_val, r_plc, p_some, pb_some, j_some, j_none, e_set, set_val, f_val, fs_nil, fs_val, frc_some, l_nil, l_cons, lc_some, e_ret, ret_val, e_ifS, w_nx, w_ret, w_exc, lp_nx, e_call, ld_nil, ld_val, ldc_some, bk_nil, bk_val, ro_ret, ro_exc, ro_nx, e_mcons, e_nil, e_C, e_P1, e_P2, e_B2, e_PL, e_and, e_or, e_not, e_bv, e_if, e_tru, tru_some, e_drop, e_fr, fk_some, e_raise, e_try, try_ret, try_nx, try_exc, unb_ret, e_xf, xf_some, e_xis, xi_some, e_part, e_nopart, part_int, e_sl, e_andV, e_orV, e_notV, and_bl, or_bl, not_bl, e_isi, isi_some, td_non, td_bl, td_int, td_tx, td_tup, td_lst, e_chain, ch_t, ch_f, e_put, e_for, e_iter, it_lst, it_tup, it_tx, e_enum, en_lst, e_comp, e_yes, e_meth, ck_lst, zl_nil, zl_cons, z_lstF, z_tup, fzl_nil, fzl_cons, fz_lstE, fz_tupE, cut_nn, cut_0n, cut_n0, cut_00, z_tx, z_int, z_bl, z_non, z_lst, fz_tx, fz_int, fz_bl, fz_non, g_lenL, g_lenT, g_lt, g_le, g_gt, g_ge, g_add, g_sub, g_eqS, g_eqI, g_neS, g_neI, g_in1, g_nin1, Option.bind_some, Option.map_some, List.getElem?_cons_zero, List.getElem?_cons_succ, List.set_cons_zero, List.set_cons_succ, List.length_cons, List.length_nil, if_true, if_false, ite_true, ite_false, decide_eq_true_eq, Bool.not_eq_true', decide_eq_false_iff_not, Bool.false_eq_true, reduceIte, eq_self, Nat.reduceAdd, Nat.reduceLT, Nat.reduceSub, Nat.zero_add, Bool.not_true, Bool.not_false, and_self, and_true, true_and, List.map_cons, List.map_nil, List.replicate_succ, List.replicate_zero, List.cons_append, List.nil_append, Bool.and_true, Bool.true_and, Bool.and_self, i_bb, i_ib, i_ii, i_sb, i_si, i_ss, i_st, i_sl, i_tb, i_ti, i_ts, i_tt, i_tl, i_lb, i_li, i_ls, i_lt, i_ll, i_nb, i_ni, i_ns, i_nt, i_nl, tr_bl, is_non, is_bl, is_int, is_tx, is_tup, is_lst, g_eqB, hz, g_all, neL]
    rfl
  · have cp := eq_parts (n := n) (a := .lst true xs) (b := .lst true xs) (xs := xs) (funext fun ρ => e_name) (gi _) (gi _) (fun x => nm_own z_lst) (fun x => nm_own z_lst) (fun x => rfl) (fun x => rfl) hz hl rfl h
    simp only [cp, e_nx, b_ok, b_exc, s_ok, s_exc, e_seq, t_nx, t_ret, t_exc, t_bk, t_ct, e_name, nm_fz, nm_own, o_val, o_plc, o_tru, r_val, r_plc, p_some, pb_some, j_some, j_none, e_set, set_val, f_val, fs_nil, fs_val, frc_some, l_nil, l_cons, lc_some, e_ret, ret_val, e_ifS, w_nx, w_ret, w_exc, lp_nx, e_call, ld_nil, ld_val, ldc_some, bk_nil, bk_val, ro_ret, ro_exc, ro_nx, e_mcons, e_nil, e_C, e_P1, e_P2, e_B2, e_PL, e_and, e_or, e_not, e_bv, e_if, e_tru, tru_some, e_drop, e_fr, fk_some, e_raise, e_try, try_ret, try_nx, try_exc, unb_ret, e_xf, xf_some, e_xis, xi_some, e_part, e_nopart, part_int, e_sl, e_andV, e_orV, e_notV, and_bl, or_bl, not_bl, e_isi, isi_some, td_non, td_bl, td_int, td_tx, td_tup, td_lst, e_chain, ch_t, ch_f, e_put, e_for, e_iter, it_lst, it_tup, it_tx, e_enum, en_lst, e_comp, e_yes, e_meth, ck_lst, zl_nil, zl_cons, z_lstF, z_tup, fzl_nil, fzl_cons, fz_lstE, fz_tupE, cut_nn, cut_0n, cut_n0, cut_00, z_tx, z_int, z_bl, z_non, z_lst, fz_tx, fz_int, fz_bl, fz_non, g_lenL, g_lenT, g_lt, g_le, g_gt, g_ge, g_add, g_sub, g_eqS, g_eqI, g_neS, g_neI, g_in1, g_nin1, Option.bind_some, Option.map_some, List.getElem?_cons_zero, List.getElem?_cons_succ, List.set_cons_zero, List.set_cons_succ, List.length_cons, List.length_nil, if_true, if_false, ite_true, ite_false, decide_eq_true_eq, Bool.not_eq_true', decide_eq_false_iff_not, Bool.false_eq_true, reduceIte, eq_self, Nat.reduceAdd, Nat.reduceLT, Nat.reduceSub, Nat.zero_add, Bool.not_true, Bool.not_false, and_self, and_true, true_and, List.map_cons, List.map_nil, List.replicate_succ, List.replicate_zero, List.cons_append, List.nil_append, Bool.and_true, Bool.true_and, Bool.and_self, i_bb, i_ib, i_ii, i_sb, i_si, i_ss, i_st, i_sl, i_tb, i_ti, i_ts, i_tt, i_tl, i_lb, i_li, i_ls, i_lt, i_ll, i_nb, i_ni, i_ns, i_nt, i_nl, tr_bl, is_non, is_bl, is_int, is_tx, is_tup, is_lst, g_eqB, hz, g_all, neL]
    rfl
theorem eq_tup {n : Nat} {xs : List D} (hz : isFzL xs = true) (hl : xs.length ≤ lim) (h : ∀ x ∈ xs, ∃ ps : Ro, ps.length = 2 ∧ F_equal n [x, x] = .ret (.bl true) ps) : F_equal (n + 1) [.tup xs, .tup xs] = .ret (.bl true) [some (.tup xs), some (.tup xs)] := by
  have gi : ∀ i : Nat, (h : i < xs.length) → gIx (.tup xs) (.int (i : Int)) = some xs[i] := fun i hi => by
    rw [g_ixT, List.getElem?_eq_getElem hi]
    exact k_some (isFzL_mem hz (List.getElem_mem hi))
  have zF : isFz (.tup xs) = true := by rw [z_tup]; exact hz
  show runD [0, 1] 2 3 (m_equal (F_equal n)) [.tup xs, .tup xs] = _
  unfold m_equal
  rw [e_run (by rfl)]
  have neL : gNe (.int (xs.length : Nat)) (.int (xs.length : Nat)) = some false := by
    rw [g_neI, decide_eq_true rfl]
    rfl
  have cp := eq_parts (n := n) (a := .tup xs) (b := .tup xs) (xs := xs) (funext fun ρ => e_name) gi gi (fun x => nm_fz zF) (fun x => nm_fz zF) (fun x => rfl) (fun x => rfl) hz hl rfl h
  simp only [cp, e_nx, b_ok, b_exc, s_ok, s_exc, e_seq, t_nx, t_ret, t_exc, t_bk, t_ct, e_name, nm_fz, nm_own, o_val, o_plc, o_tru, r_val, r_plc, p_some, pb_some, j_some, j_none, e_set, set_val, f_val, fs_nil, fs_val, frc_some, l_nil, l_cons, lc_some, e_ret, ret_val, e_ifS, w_nx, w_ret, w_exc, lp_nx, e_call, ld_nil, ld_val, ldc_some, bk_nil, bk_val, ro_ret, ro_exc, ro_nx, e_mcons, e_nil, e_C, e_P1, e_P2, e_B2, e_PL, e_and, e_or, e_not, e_bv, e_if, e_tru, tru_some, e_drop, e_fr, fk_some, e_raise, e_try, try_ret, try_nx, try_exc, unb_ret, e_xf, xf_some, e_xis, xi_some, e_part, e_nopart, part_int, e_sl, e_andV, e_orV, e_notV, and_bl, or_bl, not_bl, e_isi, isi_some, td_non, td_bl, td_int, td_tx, td_tup, td_lst, e_chain, ch_t, ch_f, e_put, e_for, e_iter, it_lst, it_tup, it_tx, e_enum, en_lst, e_comp, e_yes, e_meth, ck_lst, zl_nil, zl_cons, z_lstF, z_tup, fzl_nil, fzl_cons, fz_lstE, fz_tupE, cut_nn, cut_0n, cut_n0, cut_00, z_tx, z_int, z_bl, z_non, z_lst, fz_tx, fz_int, fz_bl, fz_non, g_lenL, g_lenT, g_lt, g_le, g_gt, g_ge, g_add, g_sub, g_eqS, g_eqI, g_neS, g_neI, g_in1, g_nin1, Option.bind_some, Option.map_some, List.getElem?_cons_zero, List.getElem?_cons_succ, List.set_cons_zero, List.set_cons_succ, List.length_cons, List.length_nil, if_true, if_false, ite_true, ite_false, decide_eq_true_eq, Bool.not_eq_true', decide_eq_false_iff_not, Bool.false_eq_true, reduceIte, eq_self, Nat.reduceAdd, Nat.reduceLT, Nat.reduceSub, Nat.zero_add, Bool.not_true, Bool.not_false, and_self, and_true, true_and, List.map_cons, List.map_nil, List.replicate_succ, List.replicate_zero, List.cons_append, List.nil_append, Bool.and_true, Bool.true_and, Bool.and_self, i_bb, i_ib, i_ii, i_sb, i_si, i_ss, i_st, i_sl, i_tb, i_ti, i_ts, i_tt, i_tl, i_lb, i_li, i_ls, i_lt, i_ll, i_nb, i_ni, i_ns, i_nt, i_nl, tr_bl, is_non, is_bl, is_int, is_tx, is_tup, is_lst, g_eqB, hz, g_all, neL]
  rfl
end Gc

namespace K85
open PySem PySem.Spec PyProof.Rows L2 Gc
def top (i : Nat) : Stmt := PySem.Challenge.pw_greedycuts_k85_tokens_of_texts.main.body.getD i (.Pass ⟨0, 0, 0, 0⟩)
def inCls (j : Nat) : Stmt → Stmt
  | .ClassDef _ _ _ b _ _ _ _ _ _ _ => b.getD j (.Pass ⟨0, 0, 0, 0⟩)
  | s => s
abbrev st_row_of : Stmt := top 12
theorem sc_row_of : FnScope ["text", "at", "chars", "end"] ["text", "at", "chars"] (defScope st_row_of) := ⟨rfl, rfl, rfl, by decide +kernel, rfl, by decide +kernel, by decide +kernel⟩
abbrev st__law_stream : Stmt := top 16
theorem sc__law_stream : FnScope ["_law_script"] ["_law_script"] (defScope st__law_stream) := ⟨rfl, rfl, rfl, by decide +kernel, rfl, by decide +kernel, by decide +kernel⟩
abbrev st__law_next : Stmt := top 17
theorem sc__law_next : FnScope ["_law_stream_here", "_law_many", "_law_digit", "_law_k", "_law_cell"] ["_law_stream_here", "_law_many"] (defScope st__law_next) := ⟨rfl, rfl, rfl, by decide +kernel, rfl, by decide +kernel, by decide +kernel⟩
abbrev st__law_is_integer : Stmt := top 18
theorem sc__law_is_integer : FnScope ["_law_actual"] ["_law_actual"] (defScope st__law_is_integer) := ⟨rfl, rfl, rfl, by decide +kernel, rfl, by decide +kernel, by decide +kernel⟩
abbrev st__law_parts : Stmt := top 21
theorem sc__law_parts : FnScope ["_law_word"] ["_law_word"] (defScope st__law_parts) := ⟨rfl, rfl, rfl, by decide +kernel, rfl, by decide +kernel, by decide +kernel⟩
abbrev st__law_pick : Stmt := top 20
theorem sc__law_pick : FnScope ["_law_stream_here", "_law_rows"] ["_law_stream_here", "_law_rows"] (defScope st__law_pick) := ⟨rfl, rfl, rfl, by decide +kernel, rfl, by decide +kernel, by decide +kernel⟩
abbrev st__law_laid : Stmt := top 22
theorem sc__law_laid : FnScope ["_law_stream_here", "_law_words", "_law_text", "_law_places", "_law_k", "_law_word", "_law_near"] ["_law_stream_here", "_law_words"] (defScope st__law_laid) := ⟨rfl, rfl, rfl, by decide +kernel, rfl, by decide +kernel, by decide +kernel⟩
abbrev st_check_string : Stmt := top 11
theorem sc_check_string : FnScope ["text"] ["text"] (defScope st_check_string) := ⟨rfl, rfl, rfl, by decide +kernel, rfl, by decide +kernel, by decide +kernel⟩
abbrev st_token_at : Stmt := top 13
theorem sc_token_at : FnScope ["text", "at", "word", "number"] ["text", "at"] (defScope st_token_at) := ⟨rfl, rfl, rfl, by decide +kernel, rfl, by decide +kernel, by decide +kernel⟩
abbrev st_scan : Stmt := top 14
theorem sc_scan : FnScope ["text", "tokens", "at"] ["text"] (defScope st_scan) := ⟨rfl, rfl, rfl, by decide +kernel, rfl, by decide +kernel, by decide +kernel⟩
abbrev st__law_told : Stmt := top 23
theorem sc__law_told : FnScope ["_law_text", "_law_problem"] ["_law_text"] (defScope st__law_told) := ⟨rfl, rfl, rfl, by decide +kernel, rfl, by decide +kernel, by decide +kernel⟩
abbrev st__law_equal : Stmt := top 19
theorem sc__law_equal : FnScope ["_law_actual", "_law_due", "_law_at"] ["_law_actual", "_law_due"] (defScope st__law_equal) := ⟨rfl, rfl, rfl, by decide +kernel, rfl, by decide +kernel, by decide +kernel⟩
abbrev st_law : Stmt := top 24
theorem sc_law : FnScope ["_law_script", "_law_stream_here", "_law_words", "_law_turn", "_law_problem", "_law_text", "_law_places", "_law_due", "_law_spoilt", "_law_blank", "_law_bad", "_law_strange", "_law_at", "_law_word", "_law_k", "_law_sign"] ["_law_script"] (defScope st_law) := ⟨rfl, rfl, rfl, by decide +kernel, rfl, by decide +kernel, by decide +kernel⟩
abbrev st_BadValue : Stmt := inCls 0 (top 2)
theorem sc_BadValue : FnScope ["self", "name"] ["self", "name"] (defScope st_BadValue) := ⟨rfl, rfl, rfl, by decide +kernel, rfl, by decide +kernel, by decide +kernel⟩
abbrev st_TextError : Stmt := inCls 0 (top 3)
theorem sc_TextError : FnScope ["self", "column", "words"] ["self", "column", "words"] (defScope st_TextError) := ⟨rfl, rfl, rfl, by decide +kernel, rfl, by decide +kernel, by decide +kernel⟩
def ca_BadValue : List (Str × Bool) := [("BadValue", true), ("TextError", false)]
def ca_TextError : List (Str × Bool) := [("BadValue", false), ("TextError", true)]
def xt_TextError_CutError : List (Str × Bool) := [("BadValue", true), ("TextError", true)]
/-- what the text gives -/
structure Txt (K : PySem.W.Frag) (mg : Str → Option Value) where
  a_row_of : Addr
  d_row_of : FuncData
  F_row_of : Fun K "row_of" "row_of" st_row_of a_row_of d_row_of
  g_row_of : mg "row_of" = some (.ref a_row_of)
  b_row_of : Binds K d_row_of ["text", "at", "chars"] []
  a__law_stream : Addr
  d__law_stream : FuncData
  F__law_stream : Fun K "_law_stream" "_law_stream" st__law_stream a__law_stream d__law_stream
  g__law_stream : mg "_law_stream" = some (.ref a__law_stream)
  b__law_stream : Binds K d__law_stream ["_law_script"] []
  a__law_next : Addr
  d__law_next : FuncData
  F__law_next : Fun K "_law_next" "_law_next" st__law_next a__law_next d__law_next
  g__law_next : mg "_law_next" = some (.ref a__law_next)
  b__law_next : Binds K d__law_next ["_law_stream_here", "_law_many"] []
  a__law_is_integer : Addr
  d__law_is_integer : FuncData
  F__law_is_integer : Fun K "_law_is_integer" "_law_is_integer" st__law_is_integer a__law_is_integer d__law_is_integer
  g__law_is_integer : mg "_law_is_integer" = some (.ref a__law_is_integer)
  b__law_is_integer : Binds K d__law_is_integer ["_law_actual"] []
  a__law_parts : Addr
  d__law_parts : FuncData
  F__law_parts : Fun K "_law_parts" "_law_parts" st__law_parts a__law_parts d__law_parts
  g__law_parts : mg "_law_parts" = some (.ref a__law_parts)
  b__law_parts : Binds K d__law_parts ["_law_word"] []
  a__law_pick : Addr
  d__law_pick : FuncData
  F__law_pick : Fun K "_law_pick" "_law_pick" st__law_pick a__law_pick d__law_pick
  g__law_pick : mg "_law_pick" = some (.ref a__law_pick)
  b__law_pick : Binds K d__law_pick ["_law_stream_here", "_law_rows"] []
  a__law_laid : Addr
  d__law_laid : FuncData
  F__law_laid : Fun K "_law_laid" "_law_laid" st__law_laid a__law_laid d__law_laid
  g__law_laid : mg "_law_laid" = some (.ref a__law_laid)
  b__law_laid : Binds K d__law_laid ["_law_stream_here", "_law_words"] []
  a_check_string : Addr
  d_check_string : FuncData
  F_check_string : Fun K "check_string" "check_string" st_check_string a_check_string d_check_string
  g_check_string : mg "check_string" = some (.ref a_check_string)
  b_check_string : Binds K d_check_string ["text"] []
  a_token_at : Addr
  d_token_at : FuncData
  F_token_at : Fun K "token_at" "token_at" st_token_at a_token_at d_token_at
  g_token_at : mg "token_at" = some (.ref a_token_at)
  b_token_at : Binds K d_token_at ["text", "at"] []
  a_scan : Addr
  d_scan : FuncData
  F_scan : Fun K "scan" "scan" st_scan a_scan d_scan
  g_scan : mg "scan" = some (.ref a_scan)
  b_scan : Binds K d_scan ["text"] []
  a__law_told : Addr
  d__law_told : FuncData
  F__law_told : Fun K "_law_told" "_law_told" st__law_told a__law_told d__law_told
  g__law_told : mg "_law_told" = some (.ref a__law_told)
  b__law_told : Binds K d__law_told ["_law_text"] []
  a__law_equal : Addr
  d__law_equal : FuncData
  F__law_equal : Fun K "_law_equal" "_law_equal" st__law_equal a__law_equal d__law_equal
  g__law_equal : mg "_law_equal" = some (.ref a__law_equal)
  b__law_equal : Binds K d__law_equal ["_law_actual", "_law_due"] []
  a_law : Addr
  d_law : FuncData
  F_law : Fun K "law" "law" st_law a_law d_law
  g_law : mg "law" = some (.ref a_law)
  b_law : Binds K d_law ["_law_script"] []
  t_ALPHABET : Tok
  c_ALPHABET : mg "ALPHABET" = some (.str "abcdefghijklmnopqrstuvwxyz" t_ALPHABET)
  t_LONGEST : Tok
  c_LONGEST : mg "LONGEST" = some (.int 4 t_LONGEST)
  t_DIGITS : Tok
  c_DIGITS : mg "DIGITS" = some (.str "0123456789" t_DIGITS)
  t_SIGNS : Tok
  c_SIGNS : mg "SIGNS" = some (.str ":|" t_SIGNS)
  t_LONGEST_TEXT : Tok
  c_LONGEST_TEXT : mg "LONGEST_TEXT" = some (.int 200 t_LONGEST_TEXT)
  t_MOST_DIGITS : Tok
  c_MOST_DIGITS : mg "MOST_DIGITS" = some (.int 6 t_MOST_DIGITS)
  z_abs : mg "abs" = none
  z_all : mg "all" = none
  z_bool : mg "bool" = none
  z_enumerate : mg "enumerate" = none
  z_int : mg "int" = none
  z_isinstance : mg "isinstance" = none
  z_len : mg "len" = none
  z_list : mg "list" = none
  z_max : mg "max" = none
  z_range : mg "range" = none
  z_str : mg "str" = none
  z_tuple : mg "tuple" = none
  a_BadValue : Addr
  g_BadValue : mg "BadValue" = some (.ref a_BadValue)
  a_CutError : Addr
  g_CutError : mg "CutError" = some (.ref a_CutError)
  a_TextError : Addr
  g_TextError : mg "TextError" = some (.ref a_TextError)
  x_BadValue : OexC K a_BadValue
  ia_BadValue : Addr
  id_BadValue : FuncData
  i_BadValue : PySem.W.findIn K (.ref a_BadValue) "__init__" = some (some (.ref ia_BadValue))
  j_BadValue : PySem.W.typeIn K (.ref ia_BadValue) = some (.type "function")
  I_BadValue : Fun K "__init__" "BadValue.__init__" st_BadValue ia_BadValue id_BadValue
  b_BadValue : Binds K id_BadValue ["self", "name"] []
  no0_BadValue : PySem.W.findIn K (.ref a_BadValue) "name" = some none
  x_TextError : OexC K a_TextError
  ia_TextError : Addr
  id_TextError : FuncData
  i_TextError : PySem.W.findIn K (.ref a_TextError) "__init__" = some (some (.ref ia_TextError))
  j_TextError : PySem.W.typeIn K (.ref ia_TextError) = some (.type "function")
  I_TextError : Fun K "__init__" "TextError.__init__" st_TextError ia_TextError id_TextError
  b_TextError : Binds K id_TextError ["self", "column", "words"] []
  no0_TextError : PySem.W.findIn K (.ref a_TextError) "column" = some none
  no1_TextError : PySem.W.findIn K (.ref a_TextError) "words" = some none
  ce_BadValue : ∀ p ∈ ca_BadValue, ∀ cl, mg p.1 = some (.ref cl) → PySem.W.exmOne K (.ref cl) (.ref a_BadValue) = some p.2
  ce_TextError : ∀ p ∈ ca_TextError, ∀ cl, mg p.1 = some (.ref cl) → PySem.W.exmOne K (.ref cl) (.ref a_TextError) = some p.2
  xf_BadValue_name : ∀ p ∈ ca_BadValue, p.2 = true → ∀ A, mg p.1 = some (.ref A) → XfC K A ∧ PySem.W.findIn K (.ref A) "name" = some none
  xf_TextError_column : ∀ p ∈ ca_TextError, p.2 = true → ∀ A, mg p.1 = some (.ref A) → XfC K A ∧ PySem.W.findIn K (.ref A) "column" = some none
  xf_TextError_words : ∀ p ∈ ca_TextError, p.2 = true → ∀ A, mg p.1 = some (.ref A) → XfC K A ∧ PySem.W.findIn K (.ref A) "words" = some none
  xis_TextError : ∀ p ∈ ca_TextError, p.2 = true → ∀ A, mg p.1 = some (.ref A) → XisC K A
  xt_TextError_CutError : ∀ p ∈ xt_TextError_CutError, ∀ A, mg p.1 = some (.ref A) → PySem.W.kitOne K (.ref A) (.ref a_CutError) = some p.2
section
variable {P : Program} {w : World} {K : PySem.W.Frag} {mg : Str → Option Value} {base : Heap} {k : Nat}
theorem init_BadValue (T : Txt K mg) : FnOk P w K mg base (L2.CX P w) (k + 1) T.ia_BadValue T.id_BadValue ["self", "name"] (spI K T.a_BadValue ["name"]) := init1 T.I_BadValue sc_BadValue rfl T.no0_BadValue (.inl rfl) (.inl rfl)
theorem init_TextError (T : Txt K mg) : FnOk P w K mg base (L2.CX P w) (k + 1) T.ia_TextError T.id_TextError ["self", "column", "words"] (spI K T.a_TextError ["column", "words"]) := init2 T.I_TextError sc_TextError rfl T.no0_TextError T.no1_TextError (.inl rfl) (.inl rfl) (.inl rfl)
def m_row_of : MS := (mSeq (mSet 3 (mName 1)) (mSeq (mWhile (mAnd (mB2 true gLt (mName 3) (mPL gLen (mCons true (mName 0) mNil))) (mB2 true gIn (mP2 true gIx (mName 0) (mName 3)) (mName 2))) (mSet 3 (mP2 true gAdd (mName 3) (mC (.int 1)))) 4000) (mRet [0, 1, 2] (mSl true true (mName 0) (mPart (mName 1)) (mPart (mName 3))))))
def F_row_of : Fn := runD [0, 1, 2] 3 4 m_row_of
theorem ok_row_of (T : Txt K mg) : FnOk P w K mg base (L2.CX P w) (k + 1) T.a_row_of T.d_row_of ["text", "at", "chars"] (spD K mg F_row_of) := fn_run [0, 1, 2] T.F_row_of sc_row_of (by decide) fun cdv A outer s H vs E hr =>
  (ss_cons (ss_set (i := 3) sc_row_of.nd rfl (by first | exact .inl rfl | exact .inr rfl) (by rfl) (pn 1))
  (ss_cons (ss_while 4000 (passes_of rfl) (sb_bool (sb_and (sb_cmp op_ltX pb_lt (pn 3) (se_callB call_len (pl_len rfl) (by rfl) T.z_len (by rfl) (sa_cons (pn 0) sa_nil)) (by rfl)) (sb_and1 (sb_cmp (op_inX (hu65 hr)) (pb_in rfl) (se_ix on_fn (pn 0) (pn 3)) (pn 2) (by rfl))))) (ss_one (ss_set (i := 3) sc_row_of.nd rfl (by first | exact .inl rfl | exact .inr rfl) (by rfl) (se_op op_addX (pu_add rfl) (pn 3) se_int))))
  (ss_one (ss_ret (se_slice on_fn (pn 0) (so_some (pn 1)) (so_some (pn 3)))))))
def m__law_stream : MS := (mRet [0] (mFr gLst (mCons true (mPL gListC (mCons true (mName 0) mNil)) (mCons true (mC (.int 0)) (mCons true (mC (.int 0)) mNil)))))
def F__law_stream : Fn := runD [0] 1 1 m__law_stream
theorem ok__law_stream (T : Txt K mg) : FnOk P w K mg base (L2.CX P w) (k + 1) T.a__law_stream T.d__law_stream ["_law_script"] (spD K mg F__law_stream) := fn_run [0] T.F__law_stream sc__law_stream (by decide) fun cdv A outer s H vs E hr =>
  (ss_one (ss_ret (se_lst (sa_cons (se_callTy call_list_of (pl_list rfl) (by rfl) T.z_list (by rfl) (sa_cons (pn 0) sa_nil)) (sa_cons se_int (sa_cons se_int sa_nil))))))
def m__law_next : MS := (mSeq (mIfS (mB2 true gEq (mP2 true gIx (mName 0) (mC (.int 1))) (mC (.int 0))) (mSeq (mSet 3 (mP2 true gIx (mName 0) (mC (.int 2)))) (mSeq (mSet 4 (mP2 true gAdd (mC (.int 7)) (mName 3))) (mSeq (mIfS (mB2 true gLt (mName 3) (mPL gLen (mCons true (mP2 true gIx (mName 0) (mC (.int 0))) mNil))) (mSet 4 (mPL gAbs (mCons true (mP2 true gIx (mP2 true gIx (mName 0) (mC (.int 0))) (mName 3)) mNil))) mNx) (mSeq (mIfS (mB2 true gLt (mName 4) (mP2 true gPow (mC (.int 10)) (mC (.int 18)))) (mSeq (mSet 4 (mP2 true gMod (mPL gInt (mCons true (mP2 true gAdd (mP2 true gAdd (mP2 true gMulX (mName 4) (mC (.int 48271))) (mP2 true gMulX (mName 3) (mC (.int 69621)))) (mC (.int 11))) mNil)) (mC (.int 2147483647)))) (mSet 4 (mP2 true gAdd (mP2 true gMulX (mP2 true gMod (mPL gInt (mCons true (mP2 true gAdd (mP2 true gMulX (mName 4) (mC (.int 16807))) (mC (.int 13))) mNil)) (mC (.int 2147483647))) (mC (.int 65537))) (mName 4)))) mNx) (mSeq (mDrop (mPutAt true gSetL (mName 4) (mName 0) (mC (.int 1)))) (mDrop (mPutAt true gSetL (mP2 true gAdd (mName 3) (mC (.int 1))) (mName 0) (mC (.int 2))))))))) mNx) (mSeq (mSet 2 (mP2 true gMod (mPL gInt (mCons true (mP2 true gIx (mName 0) (mC (.int 1))) mNil)) (mName 1))) (mSeq (mDrop (mPutAt true gSetL (mP2 true gDiv (mP2 true gIx (mName 0) (mC (.int 1))) (mName 1)) (mName 0) (mC (.int 1)))) (mRet [0, 1] (mName 2)))))
def F__law_next : Fn := runD [0, 1] 2 5 m__law_next
theorem ok__law_next (T : Txt K mg) : FnOk P w K mg base (L2.CX P w) (k + 1) T.a__law_next T.d__law_next ["_law_stream_here", "_law_many"] (spD K mg F__law_next) := fn_run [0, 1] T.F__law_next sc__law_next (by decide) fun cdv A outer s H vs E hr =>
  (ss_cons (ss_if (sb_cmp (op_eqX (hu64 hr)) (pb_eq rfl) (se_ix on_fn (pn 0) se_int) se_int (by rfl)) (ss_cons (ss_set (i := 3) sc__law_next.nd rfl (by first | exact .inl rfl | exact .inr rfl) (by rfl) (se_ix on_fn (pn 0) se_int))
  (ss_cons (ss_set (i := 4) sc__law_next.nd rfl (by first | exact .inl rfl | exact .inr rfl) (by rfl) (se_op op_addX (pu_add rfl) se_int (pn 3)))
  (ss_cons (ss_if (sb_cmp op_ltX pb_lt (pn 3) (se_callB call_len (pl_len rfl) (by rfl) T.z_len (by rfl) (sa_cons (se_ix on_fn (pn 0) se_int) sa_nil)) (by rfl)) (ss_one (ss_set (i := 4) sc__law_next.nd rfl (by first | exact .inl rfl | exact .inr rfl) (by rfl) (se_callB call_abs pl_abs (by rfl) T.z_abs (by rfl) (sa_cons (se_ix on_fn (se_ix on_fn (pn 0) se_int) (pn 3)) sa_nil)))) ss_nil)
  (ss_cons (ss_if (sb_cmp op_ltX pb_lt (pn 4) (se_op op_pow pu_pow se_int se_int) (by rfl)) (ss_cons (ss_set (i := 4) sc__law_next.nd rfl (by first | exact .inl rfl | exact .inr rfl) (by rfl) (se_op op_modN pu_mod (se_callTy call_intX pl_int (by rfl) T.z_int (by rfl) (sa_cons (se_op op_addX (pu_add rfl) (se_op op_addX (pu_add rfl) (se_op op_mulX pu_mulX (pn 4) se_int) (se_op op_mulX pu_mulX (pn 3) se_int)) se_int) sa_nil)) se_int))
  (ss_one (ss_set (i := 4) sc__law_next.nd rfl (by first | exact .inl rfl | exact .inr rfl) (by rfl) (se_op op_addX (pu_add rfl) (se_op op_mulX pu_mulX (se_op op_modN pu_mod (se_callTy call_intX pl_int (by rfl) T.z_int (by rfl) (sa_cons (se_op op_addX (pu_add rfl) (se_op op_mulX pu_mulX (pn 4) se_int) se_int) sa_nil)) se_int) se_int) (pn 4))))) ss_nil)
  (ss_cons (ss_putAt set_list pst_list (pn 4) (pn 0) se_int)
  (ss_one (ss_putAt set_list pst_list (se_op op_addX (pu_add rfl) (pn 3) se_int) (pn 0) se_int))))))) ss_nil)
  (ss_cons (ss_set (i := 2) sc__law_next.nd rfl (by first | exact .inl rfl | exact .inr rfl) (by rfl) (se_op op_modN pu_mod (se_callTy call_intX pl_int (by rfl) T.z_int (by rfl) (sa_cons (se_ix on_fn (pn 0) se_int) sa_nil)) (pn 1)))
  (ss_cons (ss_putAt set_list pst_list (se_op op_fdivN pu_div (se_ix on_fn (pn 0) se_int) (pn 1)) (pn 0) se_int)
  (ss_one (ss_ret (pn 2))))))
def m__law_is_integer : MS := (mRet [0] (mAndV (mIsi "int" (mName 0)) (mNotV (mIsi "bool" (mName 0)))))
def F__law_is_integer : Fn := runD [0] 1 1 m__law_is_integer
theorem ok__law_is_integer (T : Txt K mg) : FnOk P w K mg base (L2.CX P w) (k + 1) T.a__law_is_integer T.d__law_is_integer ["_law_actual"] (spD K mg F__law_is_integer) := fn_run [0] T.F__law_is_integer sc__law_is_integer (by decide) fun cdv A outer s H vs E hr =>
  (ss_one (ss_ret (se_and (se_isi on_fn (pn 0) (by rfl) T.z_isinstance (by rfl) T.z_int rfl rfl) (se_one (se_not (se_isi on_fn (pn 0) (by rfl) T.z_isinstance (by rfl) T.z_bool rfl rfl))))))
def m__law_parts : MS := (mSeq (mIfS (mOr (mB2 true gEq (mName 0) (mC (.str ""))) (mB2 true gNin (mP2 true gIx (mName 0) (mC (.int 0))) (mC (.str ":|0123456789abcdefghijklmnopqrstuvwxyz")))) (mRet [0] (mC (.str "strange"))) mNx) (mSeq (mIfS (mB2 true gIn (mP2 true gIx (mName 0) (mC (.int 0))) (mC (.str ":|"))) (mRet [0] (mC (.str "sign"))) mNx) (mRet [0] (mIf (mB2 true gIn (mP2 true gIx (mName 0) (mC (.int 0))) (mC (.str "0123456789"))) (mC (.str "number")) (mC (.str "word"))))))
def F__law_parts : Fn := runD [0] 1 1 m__law_parts
theorem ok__law_parts (T : Txt K mg) : FnOk P w K mg base (L2.CX P w) (k + 1) T.a__law_parts T.d__law_parts ["_law_word"] (spD K mg F__law_parts) := fn_run [0] T.F__law_parts sc__law_parts (by decide) fun cdv A outer s H vs E hr =>
  (ss_cons (ss_if (sb_bool (sb_or (sb_cmp (op_eqX (hu64 hr)) (pb_eq rfl) (pn 0) se_str (by rfl)) (sb_or1 (sb_cmp (op_ninX (hu65 hr)) (pb_nin rfl) (se_ix on_fn (pn 0) se_int) se_str (by rfl))))) (ss_one (ss_ret se_str)) ss_nil)
  (ss_cons (ss_if (sb_cmp (op_inX (hu65 hr)) (pb_in rfl) (se_ix on_fn (pn 0) se_int) se_str (by rfl)) (ss_one (ss_ret se_str)) ss_nil)
  (ss_one (ss_ret (se_if (sb_cmp (op_inX (hu65 hr)) (pb_in rfl) (se_ix on_fn (pn 0) se_int) se_str (by rfl)) se_str se_str)))))
def m__law_pick : MS := (mRet [0, 1] (mP2 false gIx (mName 1) (mCall F__law_next (mCons true (mName 0) (mCons true (mPL gLen (mCons true (mName 1) mNil)) mNil)))))
def F__law_pick : Fn := runD [0, 1] 2 2 m__law_pick
theorem ok__law_pick (T : Txt K mg) : FnOk P w K mg base (L2.CX P w) (k + 2) T.a__law_pick T.d__law_pick ["_law_stream_here", "_law_rows"] (spD K mg F__law_pick) := fn_run [0, 1] T.F__law_pick sc__law_pick (by decide) fun cdv A outer s H vs E hr =>
  (ss_one (ss_ret (se_ix on_fn (pn 1) (se_call on_fn (ok__law_next (k := k + 0) T) hr (by rfl) T.g__law_next T.F__law_next.kp T.b__law_next (sa_cons (pn 0) (sa_cons (se_callB call_len (pl_len rfl) (by rfl) T.z_len (by rfl) (sa_cons (pn 1) sa_nil)) sa_nil))))))
def m__law_laid : MS := (mSeq (mSet 2 (mC (.str ""))) (mSeq (mSet 3 (mFr gLst mNil)) (mSeq (mFor [0, 1] (.tp [(.nm 4), (.nm 5)]) (mEnum (mCons true (mName 1) mNil)) (mSeq (mSet 6 (mAndV (mBv (mB2 true gGt (mName 4) (mC (.int 0)))) (mBv (mChain false true gEq gNe (mCall F__law_parts (mCons true (mP2 true gIx (mName 1) (mP2 true gSub (mName 4) (mC (.int 1)))) mNil)) (mCall F__law_parts (mCons true (mName 5) mNil)) (mC (.str "sign")))))) (mSeq (mSet 2 (mP2 false gAdd (mName 2) (mP2 false gIx (mFr gLst (mCons true (mC (.str "")) (mCons true (mC (.str " ")) (mCons true (mC (.str "  ")) (mCons true (mC (.str "   ")) mNil))))) (mPL gMax2 (mCons false (mPL gInt (mCons true (mName 6) mNil)) (mCons true (mCall F__law_next (mCons true (mName 0) (mCons true (mC (.int 4)) mNil))) mNil)))))) (mSeq (mDrop (mMeth true isLst gApp (mName 3) (mCons true (mP2 true gAdd (mPL gLen (mCons true (mName 2) mNil)) (mC (.int 1))) mNil))) (mSet 2 (mP2 true gAdd (mName 2) (mName 5))))))) (mSeq (mSet 2 (mP2 false gAdd (mName 2) (mP2 false gIx (mFr gLst (mCons true (mC (.str "")) (mCons true (mC (.str " ")) (mCons true (mC (.str "  ")) mNil)))) (mCall F__law_next (mCons true (mName 0) (mCons true (mC (.int 3)) mNil)))))) (mRet [0, 1] (mFr gTup (mCons true (mName 2) (mCons true (mP2 true gAdd (mName 3) (mFr gLst (mCons true (mP2 true gAdd (mPL gLen (mCons true (mName 2) mNil)) (mC (.int 1))) mNil))) mNil))))))))
def F__law_laid : Fn := runD [0, 1] 2 7 m__law_laid
theorem ok__law_laid (T : Txt K mg) : FnOk P w K mg base (L2.CX P w) (k + 2) T.a__law_laid T.d__law_laid ["_law_stream_here", "_law_words"] (spD K mg F__law_laid) := fn_run [0, 1] T.F__law_laid sc__law_laid (by decide) fun cdv A outer s H vs E hr =>
  (ss_cons (ss_set (i := 2) sc__law_laid.nd rfl (by first | exact .inl rfl | exact .inr rfl) (by rfl) se_str)
  (ss_cons (ss_set (i := 3) sc__law_laid.nd rfl (by first | exact .inl rfl | exact .inr rfl) (by rfl) (se_lst sa_nil))
  (ss_cons (ss_for (passes_of rfl) rfl (si_enum on_fn (by rfl) T.z_enumerate (sa_cons (pn 1) sa_nil)) (sg_tup rfl rfl (sg_cons (sg_name (i := 4) sc__law_laid.nd rfl (by first | exact .inl rfl | exact .inr rfl)) (sg_cons (sg_name (i := 5) sc__law_laid.nd rfl (by first | exact .inl rfl | exact .inr rfl)) sg_nil))) (ss_cons (ss_set (i := 6) sc__law_laid.nd rfl (by first | exact .inl rfl | exact .inr rfl) (by rfl) (se_and (se_cmp op_gt pb_gt (pn 4) se_int (by rfl)) (se_one (se_chain (op_eqX (hu64 hr)) (pb_eq rfl) (op_neX (hu64 hr)) (pb_ne rfl) (se_call on_fn (ok__law_parts (k := k + 0) T) hr (by rfl) T.g__law_parts T.F__law_parts.kp T.b__law_parts (sa_cons (se_ix on_fn (pn 1) (se_op op_sub pu_sub (pn 4) se_int)) sa_nil)) (se_call on_fn (ok__law_parts (k := k + 0) T) hr (by rfl) T.g__law_parts T.F__law_parts.kp T.b__law_parts (sa_cons (pn 5) sa_nil)) se_str (by rfl)))))
  (ss_cons (ss_set (i := 2) sc__law_laid.nd rfl (by first | exact .inl rfl | exact .inr rfl) (by rfl) (se_op op_addX (pu_add rfl) (pn 2) (se_ix on_fn (se_lst (sa_cons se_str (sa_cons se_str (sa_cons se_str (sa_cons se_str sa_nil))))) (se_callB (call_max2 rfl) pl_max2 (by rfl) T.z_max (by rfl) (sa_cons (se_callTy call_intX pl_int (by rfl) T.z_int (by rfl) (sa_cons (pn 6) sa_nil)) (sa_cons (se_call on_fn (ok__law_next (k := k + 0) T) hr (by rfl) T.g__law_next T.F__law_next.kp T.b__law_next (sa_cons (pn 0) (sa_cons se_int sa_nil))) sa_nil))))))
  (ss_cons (ss_expr (se_append (pn 3) (sa_cons (se_op op_addX (pu_add rfl) (se_callB call_len (pl_len rfl) (by rfl) T.z_len (by rfl) (sa_cons (pn 2) sa_nil)) se_int) sa_nil)))
  (ss_one (ss_set (i := 2) sc__law_laid.nd rfl (by first | exact .inl rfl | exact .inr rfl) (by rfl) (se_op op_addX (pu_add rfl) (pn 2) (pn 5))))))))
  (ss_cons (ss_set (i := 2) sc__law_laid.nd rfl (by first | exact .inl rfl | exact .inr rfl) (by rfl) (se_op op_addX (pu_add rfl) (pn 2) (se_ix on_fn (se_lst (sa_cons se_str (sa_cons se_str (sa_cons se_str sa_nil)))) (se_call on_fn (ok__law_next (k := k + 0) T) hr (by rfl) T.g__law_next T.F__law_next.kp T.b__law_next (sa_cons (pn 0) (sa_cons se_int sa_nil))))))
  (ss_one (ss_ret (se_tup (sa_cons (pn 2) (sa_cons (se_op op_addX (pu_add rfl) (pn 3) (se_lst (sa_cons (se_op op_addX (pu_add rfl) (se_callB call_len (pl_len rfl) (by rfl) T.z_len (by rfl) (sa_cons (pn 2) sa_nil)) se_int) sa_nil))) sa_nil)))))))))
def m_check_string : MS := (mIfS (mOr (mNot (mTru (mIsi "str" (mName 0)))) (mOr (mB2 true gGt (mPL gLen (mCons true (mName 0) mNil)) (mC (.int 200))) (mB2 true gIn (mC (.str "\n")) (mName 0)))) (mRaise "BadValue" ["name"] (mCons true (mC (.str "text")) mNil)) mNx)
def F_check_string : Fn := runD [0] 1 1 m_check_string
theorem ok_check_string (T : Txt K mg) : FnOk P w K mg base (L2.CX P w) (k + 3) T.a_check_string T.d_check_string ["text"] (spD K mg F_check_string) := fn_run [0] T.F_check_string sc_check_string (by decide) fun cdv A outer s H vs E hr =>
  (ss_one (ss_if (sb_bool (sb_or (sb_not (sb_tru (se_isi on_fn (pn 0) (by rfl) T.z_isinstance (by rfl) T.z_str rfl rfl) on_fn)) (sb_or (sb_cmp op_gt pb_gt (se_callB call_len (pl_len rfl) (by rfl) T.z_len (by rfl) (sa_cons (pn 0) sa_nil)) (se_gint (by rfl) T.c_LONGEST_TEXT) (by rfl)) (sb_or1 (sb_cmp (op_inX (hu65 hr)) (pb_in rfl) se_str (pn 0) (by rfl)))))) (ss_one (ss_raise rfl on_fn T.x_BadValue T.i_BadValue T.j_BadValue (init_BadValue (k := k + 0) T) hr T.b_BadValue (by rfl) T.g_BadValue (sa_cons se_str sa_nil) (.inl rfl))) ss_nil))
def m_token_at : MS := (mSeq (mIfS (mB2 true gIn (mP2 true gIx (mName 0) (mName 1)) (mC (.str "abcdefghijklmnopqrstuvwxyz"))) (mSeq (mSet 2 (mCall F_row_of (mCons true (mName 0) (mCons true (mName 1) (mCons true (mC (.str "abcdefghijklmnopqrstuvwxyz")) mNil))))) (mSeq (mIfS (mB2 true gGt (mPL gLen (mCons true (mName 2) mNil)) (mC (.int 4))) (mRaise "TextError" ["column", "words"] (mCons true (mP2 true gAdd (mName 1) (mC (.int 1))) (mCons true (mC (.str "a word has at most 4 letters")) mNil))) mNx) (mRet [0, 1] (mFr gTup (mCons true (mC (.str "word")) (mCons true (mName 2) (mCons true (mP2 true gAdd (mName 1) (mC (.int 1))) mNil))))))) mNx) (mSeq (mIfS (mB2 true gIn (mP2 true gIx (mName 0) (mName 1)) (mC (.str "0123456789"))) (mSeq (mSet 3 (mCall F_row_of (mCons true (mName 0) (mCons true (mName 1) (mCons true (mC (.str "0123456789")) mNil))))) (mSeq (mIfS (mB2 true gGt (mPL gLen (mCons true (mName 3) mNil)) (mC (.int 6))) (mRaise "TextError" ["column", "words"] (mCons true (mP2 true gAdd (mName 1) (mC (.int 1))) (mCons true (mC (.str "a number has at most 6 digits")) mNil))) mNx) (mRet [0, 1] (mFr gTup (mCons true (mC (.str "number")) (mCons true (mName 3) (mCons true (mP2 true gAdd (mName 1) (mC (.int 1))) mNil))))))) mNx) (mSeq (mIfS (mB2 true gNin (mP2 true gIx (mName 0) (mName 1)) (mC (.str ":|"))) (mRaise "TextError" ["column", "words"] (mCons true (mP2 true gAdd (mName 1) (mC (.int 1))) (mCons true (mC (.str "no token begins here")) mNil))) mNx) (mRet [0, 1] (mFr gTup (mCons true (mC (.str "sign")) (mCons true (mP2 true gIx (mName 0) (mName 1)) (mCons true (mP2 true gAdd (mName 1) (mC (.int 1))) mNil))))))))
def F_token_at : Fn := runD [0, 1] 2 4 m_token_at
theorem ok_token_at (T : Txt K mg) : FnOk P w K mg base (L2.CX P w) (k + 3) T.a_token_at T.d_token_at ["text", "at"] (spD K mg F_token_at) := fn_run [0, 1] T.F_token_at sc_token_at (by decide) fun cdv A outer s H vs E hr =>
  (ss_cons (ss_if (sb_cmp (op_inX (hu65 hr)) (pb_in rfl) (se_ix on_fn (pn 0) (pn 1)) (se_gstr (by rfl) T.c_ALPHABET) (by rfl)) (ss_cons (ss_set (i := 2) sc_token_at.nd rfl (by first | exact .inl rfl | exact .inr rfl) (by rfl) (se_call on_fn (ok_row_of (k := k + 1) T) hr (by rfl) T.g_row_of T.F_row_of.kp T.b_row_of (sa_cons (pn 0) (sa_cons (pn 1) (sa_cons (se_gstr (by rfl) T.c_ALPHABET) sa_nil)))))
  (ss_cons (ss_if (sb_cmp op_gt pb_gt (se_callB call_len (pl_len rfl) (by rfl) T.z_len (by rfl) (sa_cons (pn 2) sa_nil)) (se_gint (by rfl) T.c_LONGEST) (by rfl)) (ss_one (ss_raise rfl on_fn T.x_TextError T.i_TextError T.j_TextError (init_TextError (k := k + 0) T) hr T.b_TextError (by rfl) T.g_TextError (sa_cons (se_op op_addX (pu_add rfl) (pn 1) se_int) (sa_cons se_str sa_nil)) (.inr rfl))) ss_nil)
  (ss_one (ss_ret (se_tup (sa_cons se_str (sa_cons (pn 2) (sa_cons (se_op op_addX (pu_add rfl) (pn 1) se_int) sa_nil)))))))) ss_nil)
  (ss_cons (ss_if (sb_cmp (op_inX (hu65 hr)) (pb_in rfl) (se_ix on_fn (pn 0) (pn 1)) (se_gstr (by rfl) T.c_DIGITS) (by rfl)) (ss_cons (ss_set (i := 3) sc_token_at.nd rfl (by first | exact .inl rfl | exact .inr rfl) (by rfl) (se_call on_fn (ok_row_of (k := k + 1) T) hr (by rfl) T.g_row_of T.F_row_of.kp T.b_row_of (sa_cons (pn 0) (sa_cons (pn 1) (sa_cons (se_gstr (by rfl) T.c_DIGITS) sa_nil)))))
  (ss_cons (ss_if (sb_cmp op_gt pb_gt (se_callB call_len (pl_len rfl) (by rfl) T.z_len (by rfl) (sa_cons (pn 3) sa_nil)) (se_gint (by rfl) T.c_MOST_DIGITS) (by rfl)) (ss_one (ss_raise rfl on_fn T.x_TextError T.i_TextError T.j_TextError (init_TextError (k := k + 0) T) hr T.b_TextError (by rfl) T.g_TextError (sa_cons (se_op op_addX (pu_add rfl) (pn 1) se_int) (sa_cons se_str sa_nil)) (.inr rfl))) ss_nil)
  (ss_one (ss_ret (se_tup (sa_cons se_str (sa_cons (pn 3) (sa_cons (se_op op_addX (pu_add rfl) (pn 1) se_int) sa_nil)))))))) ss_nil)
  (ss_cons (ss_if (sb_cmp (op_ninX (hu65 hr)) (pb_nin rfl) (se_ix on_fn (pn 0) (pn 1)) (se_gstr (by rfl) T.c_SIGNS) (by rfl)) (ss_one (ss_raise rfl on_fn T.x_TextError T.i_TextError T.j_TextError (init_TextError (k := k + 0) T) hr T.b_TextError (by rfl) T.g_TextError (sa_cons (se_op op_addX (pu_add rfl) (pn 1) se_int) (sa_cons se_str sa_nil)) (.inr rfl))) ss_nil)
  (ss_one (ss_ret (se_tup (sa_cons se_str (sa_cons (se_ix on_fn (pn 0) (pn 1)) (sa_cons (se_op op_addX (pu_add rfl) (pn 1) se_int) sa_nil)))))))))
def m_scan : MS := (mSeq (mDrop (mCall F_check_string (mCons true (mName 0) mNil))) (mSeq (mSet 1 (mFr gLst mNil)) (mSeq (mSet 2 (mC (.int 0))) (mSeq (mWhile (mB2 true gLt (mName 2) (mPL gLen (mCons true (mName 0) mNil))) (mIfS (mB2 true gEq (mP2 true gIx (mName 0) (mName 2)) (mC (.str " "))) (mSet 2 (mP2 true gAdd (mName 2) (mC (.int 1)))) (mSeq (mDrop (mMeth false isLst gApp (mName 1) (mCons true (mCall F_token_at (mCons true (mName 0) (mCons true (mName 2) mNil))) mNil))) (mSet 2 (mP2 true gAdd (mName 2) (mPL gLen (mCons true (mP2 true gIx (mP2 true gIx (mName 1) (mP1 gNeg (mC (.int 1)))) (mC (.int 1))) mNil)))))) 4000) (mSeq (mDrop (mMeth true isLst gApp (mName 1) (mCons true (mFr gTup (mCons true (mC (.str "end")) (mCons true (mC (.str "")) (mCons true (mP2 true gAdd (mPL gLen (mCons true (mName 0) mNil)) (mC (.int 1))) mNil)))) mNil))) (mRet [0] (mName 1)))))))
def F_scan : Fn := runD [0] 1 3 m_scan
theorem ok_scan (T : Txt K mg) : FnOk P w K mg base (L2.CX P w) (k + 4) T.a_scan T.d_scan ["text"] (spD K mg F_scan) := fn_run [0] T.F_scan sc_scan (by decide) fun cdv A outer s H vs E hr =>
  (ss_cons (ss_expr (se_call on_fn (ok_check_string (k := k + 0) T) hr (by rfl) T.g_check_string T.F_check_string.kp T.b_check_string (sa_cons (pn 0) sa_nil)))
  (ss_cons (ss_set (i := 1) sc_scan.nd rfl (by first | exact .inl rfl | exact .inr rfl) (by rfl) (se_lst sa_nil))
  (ss_cons (ss_set (i := 2) sc_scan.nd rfl (by first | exact .inl rfl | exact .inr rfl) (by rfl) se_int)
  (ss_cons (ss_while 4000 (passes_of rfl) (sb_cmp op_ltX pb_lt (pn 2) (se_callB call_len (pl_len rfl) (by rfl) T.z_len (by rfl) (sa_cons (pn 0) sa_nil)) (by rfl)) (ss_one (ss_if (sb_cmp (op_eqX (hu64 hr)) (pb_eq rfl) (se_ix on_fn (pn 0) (pn 2)) se_str (by rfl)) (ss_one (ss_set (i := 2) sc_scan.nd rfl (by first | exact .inl rfl | exact .inr rfl) (by rfl) (se_op op_addX (pu_add rfl) (pn 2) se_int))) (ss_cons (ss_expr (se_append (pn 1) (sa_cons (se_call on_fn (ok_token_at (k := k + 0) T) hr (by rfl) T.g_token_at T.F_token_at.kp T.b_token_at (sa_cons (pn 0) (sa_cons (pn 2) sa_nil))) sa_nil)))
  (ss_one (ss_set (i := 2) sc_scan.nd rfl (by first | exact .inl rfl | exact .inr rfl) (by rfl) (se_op op_addX (pu_add rfl) (pn 2) (se_callB call_len (pl_len rfl) (by rfl) T.z_len (by rfl) (sa_cons (se_ix on_fn (se_ix on_fn (pn 1) (se_un un_neg pu_neg se_int)) se_int) sa_nil)))))))))
  (ss_cons (ss_expr (se_append (pn 1) (sa_cons (se_tup (sa_cons se_str (sa_cons se_str (sa_cons (se_op op_addX (pu_add rfl) (se_callB call_len (pl_len rfl) (by rfl) T.z_len (by rfl) (sa_cons (pn 0) sa_nil)) se_int) sa_nil)))) sa_nil)))
  (ss_one (ss_ret (pn 1))))))))
def m__law_told : MS := (mTry (mRet [0] (mCall F_scan (mCons true (mName 0) mNil))) [⟨ca_TextError, 1, fun ex => (mRet (1 :: [0]) (mIf (mTru (mBv (mXis ex xt_TextError_CutError))) (mFr gTup (mCons true (mXf ex "column") (mCons true (mXf ex "words") mNil))) (mC .non)))⟩, ⟨ca_BadValue, 1, fun ex => (mRet (1 :: [0]) (mXf ex "name"))⟩])
def F__law_told : Fn := runD [0] 1 2 m__law_told
theorem ok__law_told (T : Txt K mg) : FnOk P w K mg base (L2.CX P w) (k + 5) T.a__law_told T.d__law_told ["_law_text"] (spD K mg F__law_told) := fn_run [0] T.F__law_told sc__law_told (by decide) fun cdv A outer s H vs E hr =>
  (ss_one (ss_try on_fn rfl rfl sc__law_told.nd (fun Wb pns xe on po => (ss_one (ss_ret (se_call on (ok_scan (k := k + 0) T) hr (by rfl) T.g_scan T.F_scan.kp T.b_scan (sa_cons (pn 0) sa_nil))))) (.cons (i := 1) (cat := ca_TextError) ⟨by rfl, by decide, .inl T.g_TextError⟩ rfl rfl rfl T.ce_TextError (fun xa xo cl dd pns ex B1 hcat hz hf xr => (ss_one (ss_ret (se_if (sb_tru (se_isx (i := 1) xr hz hf rfl (.inl rfl) (by rfl) T.z_isinstance (fun A hA => T.xis_TextError _ (lookup_mem hcat) rfl A hA) (pe_glob (v := .ref T.a_CutError) (by rfl) T.g_CutError rfl) (fun _ h => h) T.xt_TextError_CutError) on_fn.suite) (se_tup (sa_cons (se_xf xr hz hf (i := 1) rfl (.inl rfl) (fun A hA => T.xf_TextError_column _ (lookup_mem hcat) rfl A hA)) (sa_cons (se_xf xr hz hf (i := 1) rfl (.inl rfl) (fun A hA => T.xf_TextError_words _ (lookup_mem hcat) rfl A hA)) sa_nil))) se_non)))) (.cons (i := 1) (cat := ca_BadValue) ⟨by rfl, by decide, .inl T.g_BadValue⟩ rfl rfl rfl T.ce_BadValue (fun xa xo cl dd pns ex B1 hcat hz hf xr => (ss_one (ss_ret (se_xf xr hz hf (i := 1) rfl (.inl rfl) (fun A hA => T.xf_BadValue_name _ (lookup_mem hcat) rfl A hA))))) .nil))))
def m__law_equal (G : Fn) : MS := (mSeq (mIfS (mB2 true gIs (mName 1) (mC .non)) (mRet [0, 1] (mBv (mB2 true gIs (mName 0) (mC .non)))) mNx) (mSeq (mIfS (mTru (mIsi "bool" (mName 1))) (mRet [0, 1] (mAndV (mIsi "bool" (mName 0)) (mBv (mB2 true gEq (mName 0) (mName 1))))) mNx) (mSeq (mIfS (mTru (mIsi "int" (mName 1))) (mRet [0, 1] (mAndV (mCall F__law_is_integer (mCons true (mName 0) mNil)) (mBv (mB2 true gEq (mName 0) (mName 1))))) mNx) (mSeq (mIfS (mTru (mIsi "str" (mName 1))) (mRet [0, 1] (mAndV (mIsi "str" (mName 0)) (mBv (mB2 true gEq (mName 0) (mName 1))))) mNx) (mSeq (mIfS (mAnd (mTru (mIsi "tuple" (mName 1))) (mNot (mTru (mIsi "tuple" (mName 0))))) (mRet [0, 1] (mC (.bl false))) mNx) (mSeq (mIfS (mAnd (mTru (mIsi "list" (mName 1))) (mNot (mTru (mIsi "list" (mName 0))))) (mRet [0, 1] (mC (.bl false))) mNx) (mSeq (mIfS (mB2 true gNe (mPL gLen (mCons true (mName 0) mNil)) (mPL gLen (mCons true (mName 1) mNil))) (mRet [0, 1] (mC (.bl false))) mNx) (mRet [0, 1] (mPL gAll (mCons true (mComp [0, 1] (.nm 2) (mRng1 (mCons true (mPL gLen (mCons true (mName 1) mNil)) mNil)) mYes (mCall G (mCons true (mP2 true gIx (mName 0) (mName 2)) (mCons true (mP2 true gIx (mName 1) (mName 2)) mNil))) [2]) mNil))))))))))
def F__law_equal : Nat → Fn
  | 0 => fun _ => .bad
  | n + 1 => runD [0, 1] 2 3 (m__law_equal (F__law_equal n))
theorem ok__law_equal (T : Txt K mg) : ∀ n, FnOk P w K mg base (L2.CX P w) (n + 1) T.a__law_equal T.d__law_equal ["_law_actual", "_law_due"] (spD K mg (F__law_equal n))
  | 0 => fn_bad
  | n + 1 => by
    have hG := ok__law_equal T n
    refine fn_run [0, 1] T.F__law_equal sc__law_equal (by decide) fun cdv A outer s H vs E hr => ?_
    exact (ss_cons (ss_if (sb_cmp op_isN pb_is (pn 1) se_non (by rfl)) (ss_one (ss_ret (se_cmp op_isN pb_is (pn 0) se_non (by rfl)))) ss_nil)
  (ss_cons (ss_if (sb_tru (se_isi on_fn (pn 1) (by rfl) T.z_isinstance (by rfl) T.z_bool rfl rfl) on_fn) (ss_one (ss_ret (se_and (se_isi on_fn (pn 0) (by rfl) T.z_isinstance (by rfl) T.z_bool rfl rfl) (se_one (se_cmp (op_eqX (hu64 hr)) (pb_eq rfl) (pn 0) (pn 1) (by rfl)))))) ss_nil)
  (ss_cons (ss_if (sb_tru (se_isi on_fn (pn 1) (by rfl) T.z_isinstance (by rfl) T.z_int rfl rfl) on_fn) (ss_one (ss_ret (se_and (se_call on_fn (ok__law_is_integer (k := n + 0) T) hr (by rfl) T.g__law_is_integer T.F__law_is_integer.kp T.b__law_is_integer (sa_cons (pn 0) sa_nil)) (se_one (se_cmp (op_eqX (hu64 hr)) (pb_eq rfl) (pn 0) (pn 1) (by rfl)))))) ss_nil)
  (ss_cons (ss_if (sb_tru (se_isi on_fn (pn 1) (by rfl) T.z_isinstance (by rfl) T.z_str rfl rfl) on_fn) (ss_one (ss_ret (se_and (se_isi on_fn (pn 0) (by rfl) T.z_isinstance (by rfl) T.z_str rfl rfl) (se_one (se_cmp (op_eqX (hu64 hr)) (pb_eq rfl) (pn 0) (pn 1) (by rfl)))))) ss_nil)
  (ss_cons (ss_if (sb_bool (sb_and (sb_tru (se_isi on_fn (pn 1) (by rfl) T.z_isinstance (by rfl) T.z_tuple rfl rfl) on_fn) (sb_and1 (sb_not (sb_tru (se_isi on_fn (pn 0) (by rfl) T.z_isinstance (by rfl) T.z_tuple rfl rfl) on_fn))))) (ss_one (ss_ret se_bl)) ss_nil)
  (ss_cons (ss_if (sb_bool (sb_and (sb_tru (se_isi on_fn (pn 1) (by rfl) T.z_isinstance (by rfl) T.z_list rfl rfl) on_fn) (sb_and1 (sb_not (sb_tru (se_isi on_fn (pn 0) (by rfl) T.z_isinstance (by rfl) T.z_list rfl rfl) on_fn))))) (ss_one (ss_ret se_bl)) ss_nil)
  (ss_cons (ss_if (sb_cmp (op_neX (hu64 hr)) (pb_ne rfl) (se_callB call_len (pl_len rfl) (by rfl) T.z_len (by rfl) (sa_cons (pn 0) sa_nil)) (se_callB call_len (pl_len rfl) (by rfl) T.z_len (by rfl) (sa_cons (pn 1) sa_nil)) (by rfl)) (ss_one (ss_ret se_bl)) ss_nil)
  (ss_one (ss_ret (se_callB (cr_all rfl) (pl_all rfl) (by rfl) T.z_all (by rfl) (sa_cons (se_lc (own := [("_law_at", 2)]) rfl sc__law_equal.nd  (by kernel_rfl) (by decide) (si_range1 (by rfl) T.z_range (sa_cons (se_callB call_len (pl_len rfl) (by rfl) T.z_len (by rfl) (sa_cons (pn 1) sa_nil)) sa_nil)) (fun _ _ _ _ _ => (sg_name (i := 2) sc__law_equal.nd rfl (by first | exact .inl rfl | exact .inr rfl))) (fun _ _ _ _ _ => st_nil) (fun _ _ _ _ _ => (se_call on_fn.blk hG hr (by rfl) T.g__law_equal T.F__law_equal.kp T.b__law_equal (sa_cons (se_ix on_fn.blk (pn 0) (pn 2)) (sa_cons (se_ix on_fn.blk (pn 1) (pn 2)) sa_nil))))) sa_nil)))))))))))
def m_law : MS := (mSeq (mSet 1 (mCall F__law_stream (mCons true (mName 0) mNil))) (mSeq (mSet 2 (mFr gLst mNil)) (mSeq (mFor [0] (.nm 3) (mRng1 (mCons true (mCall F__law_next (mCons true (mName 1) (mCons true (mC (.int 17)) mNil))) mNil)) (mDrop (mMeth false isLst gApp (mName 2) (mCons true (mCall F__law_pick (mCons true (mName 1) (mCons true (mFr gLst (mCons true (mC (.str ":")) (mCons true (mC (.str "|")) (mCons true (mC (.str "0")) (mCons true (mC (.str "7")) (mCons true (mC (.str "999999")) (mCons true (mC (.str "000001")) (mCons true (mC (.str "a")) (mCons true (mC (.str "zzzz")) (mCons true (mC (.str "abcd")) (mCons true (mC (.str "q")) (mCons true (mC (.str "xy")) (mCons true (mC (.str "efgh")) (mCons true (mC (.str "ijkl")) (mCons true (mC (.str "mnop")) (mCons true (mC (.str "rstu")) (mCons true (mC (.str "vw")) (mCons true (mC (.str "34568")) mNil)))))))))))))))))) mNil))) mNil)))) (mSeq (mSet 4 (mC .non)) (mSeq (mIfS (mB2 true gEq (mCall F__law_next (mCons true (mName 1) (mCons true (mC (.int 2)) mNil))) (mC (.int 1))) (mSeq (mSet 11 (mFr gLst (mCons true (mFr gTup (mCons true (mC (.str "A")) (mCons true (mC (.str "no token begins here")) mNil))) (mCons true (mFr gTup (mCons true (mC (.str "_")) (mCons true (mC (.str "no token begins here")) mNil))) (mCons true (mFr gTup (mCons true (mC (.str ",")) (mCons true (mC (.str "no token begins here")) mNil))) (mCons true (mFr gTup (mCons true (mC (.str "-")) (mCons true (mC (.str "no token begins here")) mNil))) (mCons true (mFr gTup (mCons true (mC (.str "\t")) (mCons true (mC (.str "no token begins here")) mNil))) (mCons true (mFr gTup (mCons true (mC (.str "abcde")) (mCons true (mC (.str "a word has at most 4 letters")) mNil))) (mCons true (mFr gTup (mCons true (mC (.str "zzzzzzzz")) (mCons true (mC (.str "a word has at most 4 letters")) mNil))) (mCons true (mFr gTup (mCons true (mC (.str "1000000")) (mCons true (mC (.str "a number has at most 6 digits")) mNil))) (mCons true (mFr gTup (mCons true (mC (.str "0000001")) (mCons true (mC (.str "a number has at most 6 digits")) mNil))) mNil))))))))))) (mSeq (mSet 11 (mP2 true gAdd (mName 11) (mComp [0] (.nm 15) (mIter (mFr gLst (mCons true (mC (.str "{")) (mCons true (mC (.str "`")) (mCons true (mC (.str "/")) (mCons true (mC (.str ";")) (mCons true (mC (.str "@")) (mCons true (mC (.str "[")) (mCons true (mC (.str "~")) (mCons true (mC (.str "Z")) (mCons true (mC (.str ".")) mNil))))))))))) mYes (mFr gTup (mCons true (mName 15) (mCons true (mC (.str "no token begins here")) mNil))) [15]))) (mSeq (mSet 12 (mCall F__law_next (mCons true (mName 1) (mCons true (mP2 true gAdd (mPL gLen (mCons true (mName 2) mNil)) (mC (.int 1))) mNil)))) (mSeq (mPut [0] (.tp [(.nm 13), (.nm 4)]) (mCall F__law_pick (mCons true (mName 1) (mCons true (mName 11) mNil)))) (mSeq (mSet 2 (mP2 true gAdd (mP2 true gAdd (mSl true true (mName 2) mNoPart (mPart (mName 12))) (mFr gLst (mCons true (mName 13) mNil))) (mSl true true (mName 2) (mPart (mName 12)) mNoPart))) (mIfS (mB2 true gEq (mCall F__law_next (mCons true (mName 1) (mCons true (mC (.int 2)) mNil))) (mC (.int 1))) (mDrop (mMeth false isLst gApp (mName 2) (mCons true (mP2 true gIx (mCall F__law_pick (mCons true (mName 1) (mCons true (mName 11) mNil))) (mC (.int 0))) mNil))) mNx)))))) mNx) (mSeq (mPut [0] (.tp [(.nm 5), (.nm 6)]) (mCall F__law_laid (mCons true (mName 1) (mCons true (mName 2) mNil)))) (mSeq (mIfS (mB2 true gIsN (mName 4) (mC .non)) (mRet [0] (mCall (F__law_equal 12) (mCons true (mCall F__law_told (mCons true (mName 5) mNil)) (mCons true (mFr gTup (mCons true (mP2 true gIx (mName 6) (mName 12)) (mCons true (mName 4) mNil))) mNil)))) mNx) (mSeq (mSet 7 (mP2 true gAdd (mComp [0] (.tp [(.nm 14), (.nm 13)]) (mEnum (mCons true (mName 2) mNil)) mYes (mFr gTup (mCons true (mCall F__law_parts (mCons true (mName 13) mNil)) (mCons true (mName 13) (mCons true (mP2 true gIx (mName 6) (mName 14)) mNil)))) [14, 13]) (mFr gLst (mCons true (mFr gTup (mCons true (mC (.str "end")) (mCons true (mC (.str "")) (mCons true (mP2 true gIx (mName 6) (mP1 gNeg (mC (.int 1)))) mNil)))) mNil)))) (mSeq (mIfS (mNot (mTru (mCall (F__law_equal 12) (mCons true (mFr gLst (mCons false (mCall F__law_told (mCons true (mName 5) mNil)) (mCons true (mCall F__law_told (mCons true (mName 5) mNil)) mNil))) (mCons true (mFr gLst (mCons true (mName 7) (mCons true (mName 7) mNil))) mNil))))) (mRet [0] (mC (.bl false))) mNx) (mSeq (mSet 8 (mCall F_scan (mCons true (mName 5) mNil))) (mSeq (mDrop (mMeth true isLst gApp (mName 8) (mCons true (mC .non) mNil))) (mSeq (mIfS (mNot (mTru (mCall (F__law_equal 12) (mCons true (mCall F_scan (mCons true (mName 5) mNil)) (mCons true (mName 7) mNil))))) (mRet [0] (mC (.bl false))) mNx) (mSeq (mSet 9 (mP2 true gMulX (mC (.str " ")) (mP2 true gSub (mC (.int 200)) (mPL gLen (mCons true (mName 5) mNil))))) (mSeq (mSet 10 (mCall F__law_pick (mCons true (mName 1) (mCons true (mFr gLst (mCons true (mC .non) (mCons true (mFr gLst (mCons true (mName 5) mNil)) (mCons true (mP2 true gAdd (mName 5) (mC (.str "\n"))) (mCons true (mC (.str "\n")) (mCons true (mP2 true gAdd (mP2 true gAdd (mName 9) (mName 5)) (mC (.str " "))) (mCons true (mC (.int 7)) mNil))))))) mNil)))) (mRet [0] (mAndV (mBv (mB2 true gEq (mCall F__law_told (mCons true (mName 10) mNil)) (mC (.str "text")))) (mIsi "list" (mCall F__law_told (mCons true (mP2 true gAdd (mName 9) (mName 5)) mNil)))))))))))))))))))
def F_law : Fn := runD [0] 1 16 m_law
theorem ok_law (T : Txt K mg) : FnOk P w K mg base (L2.CX P w) (k + 14) T.a_law T.d_law ["_law_script"] (spD K mg F_law) := fn_run [0] T.F_law sc_law (by decide) fun cdv A outer s H vs E hr =>
  (ss_cons (ss_set (i := 1) sc_law.nd rfl (by first | exact .inl rfl | exact .inr rfl) (by rfl) (se_call on_fn (ok__law_stream (k := k + 12) T) hr (by rfl) T.g__law_stream T.F__law_stream.kp T.b__law_stream (sa_cons (pn 0) sa_nil)))
  (ss_cons (ss_set (i := 2) sc_law.nd rfl (by first | exact .inl rfl | exact .inr rfl) (by rfl) (se_lst sa_nil))
  (ss_cons (ss_for (passes_of rfl) rfl (si_range1 (by rfl) T.z_range (sa_cons (se_call on_fn (ok__law_next (k := k + 12) T) hr (by rfl) T.g__law_next T.F__law_next.kp T.b__law_next (sa_cons (pn 1) (sa_cons se_int sa_nil))) sa_nil)) (sg_name (i := 3) sc_law.nd rfl (by first | exact .inl rfl | exact .inr rfl)) (ss_one (ss_expr (se_append (pn 2) (sa_cons (se_call on_fn (ok__law_pick (k := k + 11) T) hr (by rfl) T.g__law_pick T.F__law_pick.kp T.b__law_pick (sa_cons (pn 1) (sa_cons (se_lst (sa_cons se_str (sa_cons se_str (sa_cons se_str (sa_cons se_str (sa_cons se_str (sa_cons se_str (sa_cons se_str (sa_cons se_str (sa_cons se_str (sa_cons se_str (sa_cons se_str (sa_cons se_str (sa_cons se_str (sa_cons se_str (sa_cons se_str (sa_cons se_str (sa_cons se_str sa_nil)))))))))))))))))) sa_nil))) sa_nil)))))
  (ss_cons (ss_set (i := 4) sc_law.nd rfl (by first | exact .inl rfl | exact .inr rfl) (by rfl) se_non)
  (ss_cons (ss_if (sb_cmp (op_eqX (hu64 hr)) (pb_eq rfl) (se_call on_fn (ok__law_next (k := k + 12) T) hr (by rfl) T.g__law_next T.F__law_next.kp T.b__law_next (sa_cons (pn 1) (sa_cons se_int sa_nil))) se_int (by rfl)) (ss_cons (ss_set (i := 11) sc_law.nd rfl (by first | exact .inl rfl | exact .inr rfl) (by rfl) (se_lst (sa_cons (se_tup (sa_cons se_str (sa_cons se_str sa_nil))) (sa_cons (se_tup (sa_cons se_str (sa_cons se_str sa_nil))) (sa_cons (se_tup (sa_cons se_str (sa_cons se_str sa_nil))) (sa_cons (se_tup (sa_cons se_str (sa_cons se_str sa_nil))) (sa_cons (se_tup (sa_cons se_str (sa_cons se_str sa_nil))) (sa_cons (se_tup (sa_cons se_str (sa_cons se_str sa_nil))) (sa_cons (se_tup (sa_cons se_str (sa_cons se_str sa_nil))) (sa_cons (se_tup (sa_cons se_str (sa_cons se_str sa_nil))) (sa_cons (se_tup (sa_cons se_str (sa_cons se_str sa_nil))) sa_nil)))))))))))
  (ss_cons (ss_set (i := 11) sc_law.nd rfl (by first | exact .inl rfl | exact .inr rfl) (by rfl) (se_op op_addX (pu_add rfl) (pn 11) (se_lc (own := [("_law_sign", 15)]) rfl sc_law.nd  (by kernel_rfl) (by decide) (si_any on_fn (se_lst (sa_cons se_str (sa_cons se_str (sa_cons se_str (sa_cons se_str (sa_cons se_str (sa_cons se_str (sa_cons se_str (sa_cons se_str (sa_cons se_str sa_nil))))))))))) (fun _ _ _ _ _ => (sg_name (i := 15) sc_law.nd rfl (by first | exact .inl rfl | exact .inr rfl))) (fun _ _ _ _ _ => st_nil) (fun _ _ _ _ _ => (se_tup (sa_cons (pn 15) (sa_cons se_str sa_nil)))))))
  (ss_cons (ss_set (i := 12) sc_law.nd rfl (by first | exact .inl rfl | exact .inr rfl) (by rfl) (se_call on_fn (ok__law_next (k := k + 12) T) hr (by rfl) T.g__law_next T.F__law_next.kp T.b__law_next (sa_cons (pn 1) (sa_cons (se_op op_addX (pu_add rfl) (se_callB call_len (pl_len rfl) (by rfl) T.z_len (by rfl) (sa_cons (pn 2) sa_nil)) se_int) sa_nil))))
  (ss_cons (ss_asg (se_call on_fn (ok__law_pick (k := k + 11) T) hr (by rfl) T.g__law_pick T.F__law_pick.kp T.b__law_pick (sa_cons (pn 1) (sa_cons (pn 11) sa_nil))) (sg_tup rfl rfl (sg_cons (sg_name (i := 13) sc_law.nd rfl (by first | exact .inl rfl | exact .inr rfl)) (sg_cons (sg_name (i := 4) sc_law.nd rfl (by first | exact .inl rfl | exact .inr rfl)) sg_nil))))
  (ss_cons (ss_set (i := 2) sc_law.nd rfl (by first | exact .inl rfl | exact .inr rfl) (by rfl) (se_op op_addX (pu_add rfl) (se_op op_addX (pu_add rfl) (se_slice on_fn (pn 2) so_none (so_some (pn 12))) (se_lst (sa_cons (pn 13) sa_nil))) (se_slice on_fn (pn 2) (so_some (pn 12)) so_none)))
  (ss_one (ss_if (sb_cmp (op_eqX (hu64 hr)) (pb_eq rfl) (se_call on_fn (ok__law_next (k := k + 12) T) hr (by rfl) T.g__law_next T.F__law_next.kp T.b__law_next (sa_cons (pn 1) (sa_cons se_int sa_nil))) se_int (by rfl)) (ss_one (ss_expr (se_append (pn 2) (sa_cons (se_ix on_fn (se_call on_fn (ok__law_pick (k := k + 11) T) hr (by rfl) T.g__law_pick T.F__law_pick.kp T.b__law_pick (sa_cons (pn 1) (sa_cons (pn 11) sa_nil))) se_int) sa_nil)))) ss_nil))))))) ss_nil)
  (ss_cons (ss_asg (se_call on_fn (ok__law_laid (k := k + 11) T) hr (by rfl) T.g__law_laid T.F__law_laid.kp T.b__law_laid (sa_cons (pn 1) (sa_cons (pn 2) sa_nil))) (sg_tup rfl rfl (sg_cons (sg_name (i := 5) sc_law.nd rfl (by first | exact .inl rfl | exact .inr rfl)) (sg_cons (sg_name (i := 6) sc_law.nd rfl (by first | exact .inl rfl | exact .inr rfl)) sg_nil))))
  (ss_cons (ss_if (sb_cmp op_notN pb_isN (pn 4) se_non (by rfl)) (ss_one (ss_ret (se_call on_fn (ok__law_equal T 12) (hr.mono (by omega)) (by rfl) T.g__law_equal T.F__law_equal.kp T.b__law_equal (sa_cons (se_call on_fn (ok__law_told (k := k + 8) T) hr (by rfl) T.g__law_told T.F__law_told.kp T.b__law_told (sa_cons (pn 5) sa_nil)) (sa_cons (se_tup (sa_cons (se_ix on_fn (pn 6) (pn 12)) (sa_cons (pn 4) sa_nil))) sa_nil))))) ss_nil)
  (ss_cons (ss_set (i := 7) sc_law.nd rfl (by first | exact .inl rfl | exact .inr rfl) (by rfl) (se_op op_addX (pu_add rfl) (se_lc (own := [("_law_k", 14), ("_law_word", 13)]) rfl sc_law.nd  (by kernel_rfl) (by decide) (si_enum on_fn (by rfl) T.z_enumerate (sa_cons (pn 2) sa_nil)) (fun _ _ _ _ _ => (sg_tup rfl rfl (sg_cons (sg_name (i := 14) sc_law.nd rfl (by first | exact .inl rfl | exact .inr rfl)) (sg_cons (sg_name (i := 13) sc_law.nd rfl (by first | exact .inl rfl | exact .inr rfl)) sg_nil)))) (fun _ _ _ _ _ => st_nil) (fun _ _ _ _ _ => (se_tup (sa_cons (se_call on_fn.blk (ok__law_parts (k := k + 12) T) hr (by rfl) T.g__law_parts T.F__law_parts.kp T.b__law_parts (sa_cons (pn 13) sa_nil)) (sa_cons (pn 13) (sa_cons (se_ix on_fn.blk (pn 6) (pn 14)) sa_nil)))))) (se_lst (sa_cons (se_tup (sa_cons se_str (sa_cons se_str (sa_cons (se_ix on_fn (pn 6) (se_un un_neg pu_neg se_int)) sa_nil)))) sa_nil))))
  (ss_cons (ss_if (sb_not (sb_tru (se_call on_fn (ok__law_equal T 12) (hr.mono (by omega)) (by rfl) T.g__law_equal T.F__law_equal.kp T.b__law_equal (sa_cons (se_lst (sa_cons (se_call on_fn (ok__law_told (k := k + 8) T) hr (by rfl) T.g__law_told T.F__law_told.kp T.b__law_told (sa_cons (pn 5) sa_nil)) (sa_cons (se_call on_fn (ok__law_told (k := k + 8) T) hr (by rfl) T.g__law_told T.F__law_told.kp T.b__law_told (sa_cons (pn 5) sa_nil)) sa_nil))) (sa_cons (se_lst (sa_cons (pn 7) (sa_cons (pn 7) sa_nil))) sa_nil))) on_fn)) (ss_one (ss_ret se_bl)) ss_nil)
  (ss_cons (ss_set (i := 8) sc_law.nd rfl (by first | exact .inl rfl | exact .inr rfl) (by rfl) (se_call on_fn (ok_scan (k := k + 9) T) hr (by rfl) T.g_scan T.F_scan.kp T.b_scan (sa_cons (pn 5) sa_nil)))
  (ss_cons (ss_expr (se_append (pn 8) (sa_cons se_non sa_nil)))
  (ss_cons (ss_if (sb_not (sb_tru (se_call on_fn (ok__law_equal T 12) (hr.mono (by omega)) (by rfl) T.g__law_equal T.F__law_equal.kp T.b__law_equal (sa_cons (se_call on_fn (ok_scan (k := k + 9) T) hr (by rfl) T.g_scan T.F_scan.kp T.b_scan (sa_cons (pn 5) sa_nil)) (sa_cons (pn 7) sa_nil))) on_fn)) (ss_one (ss_ret se_bl)) ss_nil)
  (ss_cons (ss_set (i := 9) sc_law.nd rfl (by first | exact .inl rfl | exact .inr rfl) (by rfl) (se_op op_mulX pu_mulX se_str (se_op op_sub pu_sub se_int (se_callB call_len (pl_len rfl) (by rfl) T.z_len (by rfl) (sa_cons (pn 5) sa_nil)))))
  (ss_cons (ss_set (i := 10) sc_law.nd rfl (by first | exact .inl rfl | exact .inr rfl) (by rfl) (se_call on_fn (ok__law_pick (k := k + 11) T) hr (by rfl) T.g__law_pick T.F__law_pick.kp T.b__law_pick (sa_cons (pn 1) (sa_cons (se_lst (sa_cons se_non (sa_cons (se_lst (sa_cons (pn 5) sa_nil)) (sa_cons (se_op op_addX (pu_add rfl) (pn 5) se_str) (sa_cons se_str (sa_cons (se_op op_addX (pu_add rfl) (se_op op_addX (pu_add rfl) (pn 9) (pn 5)) se_str) (sa_cons se_int sa_nil))))))) sa_nil))))
  (ss_one (ss_ret (se_and (se_cmp (op_eqX (hu64 hr)) (pb_eq rfl) (se_call on_fn (ok__law_told (k := k + 8) T) hr (by rfl) T.g__law_told T.F__law_told.kp T.b__law_told (sa_cons (pn 10) sa_nil)) se_str (by rfl)) (se_one (se_isi on_fn (se_call on_fn (ok__law_told (k := k + 8) T) hr (by rfl) T.g__law_told T.F__law_told.kp T.b__law_told (sa_cons (se_op op_addX (pu_add rfl) (pn 9) (pn 5)) sa_nil)) (by rfl) T.z_isinstance (by rfl) T.z_list rfl rfl)))))))))))))))))))
end
theorem cs_0 : D.str (PySem.Str.ofString "   ") = tx [32, 32, 32] := congrArg D.str (by decide +kernel)
theorem cs_1 : D.str (PySem.Str.ofString "  ") = tx [32, 32] := congrArg D.str (by decide +kernel)
theorem cs_2 : D.str (PySem.Str.ofString " ") = tx [32] := congrArg D.str (by decide +kernel)
theorem cs_3 : D.str (PySem.Str.ofString "") = tx [] := congrArg D.str (by decide +kernel)
theorem cs_4 : D.str (PySem.Str.ofString ",") = tx [44] := congrArg D.str (by decide +kernel)
theorem cs_5 : D.str (PySem.Str.ofString "-") = tx [45] := congrArg D.str (by decide +kernel)
theorem cs_6 : D.str (PySem.Str.ofString ".") = tx [46] := congrArg D.str (by decide +kernel)
theorem cs_7 : D.str (PySem.Str.ofString "/") = tx [47] := congrArg D.str (by decide +kernel)
theorem cs_8 : D.str (PySem.Str.ofString "0") = tx [48] := congrArg D.str (by decide +kernel)
theorem cs_9 : D.str (PySem.Str.ofString "0000001") = tx [48, 48, 48, 48, 48, 48, 49] := congrArg D.str (by decide +kernel)
theorem cs_10 : D.str (PySem.Str.ofString "000001") = tx [48, 48, 48, 48, 48, 49] := congrArg D.str (by decide +kernel)
theorem cs_11 : D.str (PySem.Str.ofString "0123456789") = tx [48, 49, 50, 51, 52, 53, 54, 55, 56, 57] := congrArg D.str (by decide +kernel)
theorem cs_12 : D.str (PySem.Str.ofString "1000000") = tx [49, 48, 48, 48, 48, 48, 48] := congrArg D.str (by decide +kernel)
theorem cs_13 : D.str (PySem.Str.ofString "34568") = tx [51, 52, 53, 54, 56] := congrArg D.str (by decide +kernel)
theorem cs_14 : D.str (PySem.Str.ofString "7") = tx [55] := congrArg D.str (by decide +kernel)
theorem cs_15 : D.str (PySem.Str.ofString "999999") = tx [57, 57, 57, 57, 57, 57] := congrArg D.str (by decide +kernel)
theorem cs_16 : D.str (PySem.Str.ofString ":") = tx [58] := congrArg D.str (by decide +kernel)
theorem cs_17 : D.str (PySem.Str.ofString ":|") = tx [58, 124] := congrArg D.str (by decide +kernel)
theorem cs_18 : D.str (PySem.Str.ofString ":|0123456789abcdefghijklmnopqrstuvwxyz") = tx [58, 124, 48, 49, 50, 51, 52, 53, 54, 55, 56, 57, 97, 98, 99, 100, 101, 102, 103, 104, 105, 106, 107, 108, 109, 110, 111, 112, 113, 114, 115, 116, 117, 118, 119, 120, 121, 122] := congrArg D.str (by decide +kernel)
theorem cs_19 : D.str (PySem.Str.ofString ";") = tx [59] := congrArg D.str (by decide +kernel)
theorem cs_20 : D.str (PySem.Str.ofString "@") = tx [64] := congrArg D.str (by decide +kernel)
theorem cs_21 : D.str (PySem.Str.ofString "A") = tx [65] := congrArg D.str (by decide +kernel)
theorem cs_22 : D.str (PySem.Str.ofString "Z") = tx [90] := congrArg D.str (by decide +kernel)
theorem cs_23 : D.str (PySem.Str.ofString "[") = tx [91] := congrArg D.str (by decide +kernel)
theorem cs_24 : D.str (PySem.Str.ofString "_") = tx [95] := congrArg D.str (by decide +kernel)
theorem cs_25 : D.str (PySem.Str.ofString "`") = tx [96] := congrArg D.str (by decide +kernel)
theorem cs_26 : D.str (PySem.Str.ofString "a number has at most 6 digits") = tx [97, 32, 110, 117, 109, 98, 101, 114, 32, 104, 97, 115, 32, 97, 116, 32, 109, 111, 115, 116, 32, 54, 32, 100, 105, 103, 105, 116, 115] := congrArg D.str (by decide +kernel)
theorem cs_27 : D.str (PySem.Str.ofString "a word has at most 4 letters") = tx [97, 32, 119, 111, 114, 100, 32, 104, 97, 115, 32, 97, 116, 32, 109, 111, 115, 116, 32, 52, 32, 108, 101, 116, 116, 101, 114, 115] := congrArg D.str (by decide +kernel)
theorem cs_28 : D.str (PySem.Str.ofString "a") = tx [97] := congrArg D.str (by decide +kernel)
theorem cs_29 : D.str (PySem.Str.ofString "abcd") = tx [97, 98, 99, 100] := congrArg D.str (by decide +kernel)
theorem cs_30 : D.str (PySem.Str.ofString "abcde") = tx [97, 98, 99, 100, 101] := congrArg D.str (by decide +kernel)
theorem cs_31 : D.str (PySem.Str.ofString "abcdefghijklmnopqrstuvwxyz") = tx [97, 98, 99, 100, 101, 102, 103, 104, 105, 106, 107, 108, 109, 110, 111, 112, 113, 114, 115, 116, 117, 118, 119, 120, 121, 122] := congrArg D.str (by decide +kernel)
theorem cs_32 : D.str (PySem.Str.ofString "efgh") = tx [101, 102, 103, 104] := congrArg D.str (by decide +kernel)
theorem cs_33 : D.str (PySem.Str.ofString "end") = tx [101, 110, 100] := congrArg D.str (by decide +kernel)
theorem cs_34 : D.str (PySem.Str.ofString "ijkl") = tx [105, 106, 107, 108] := congrArg D.str (by decide +kernel)
theorem cs_35 : D.str (PySem.Str.ofString "mnop") = tx [109, 110, 111, 112] := congrArg D.str (by decide +kernel)
theorem cs_36 : D.str (PySem.Str.ofString "no token begins here") = tx [110, 111, 32, 116, 111, 107, 101, 110, 32, 98, 101, 103, 105, 110, 115, 32, 104, 101, 114, 101] := congrArg D.str (by decide +kernel)
theorem cs_37 : D.str (PySem.Str.ofString "number") = tx [110, 117, 109, 98, 101, 114] := congrArg D.str (by decide +kernel)
theorem cs_38 : D.str (PySem.Str.ofString "q") = tx [113] := congrArg D.str (by decide +kernel)
theorem cs_39 : D.str (PySem.Str.ofString "rstu") = tx [114, 115, 116, 117] := congrArg D.str (by decide +kernel)
theorem cs_40 : D.str (PySem.Str.ofString "sign") = tx [115, 105, 103, 110] := congrArg D.str (by decide +kernel)
theorem cs_41 : D.str (PySem.Str.ofString "strange") = tx [115, 116, 114, 97, 110, 103, 101] := congrArg D.str (by decide +kernel)
theorem cs_42 : D.str (PySem.Str.ofString "text") = tx [116, 101, 120, 116] := congrArg D.str (by decide +kernel)
theorem cs_43 : D.str (PySem.Str.ofString "vw") = tx [118, 119] := congrArg D.str (by decide +kernel)
theorem cs_44 : D.str (PySem.Str.ofString "word") = tx [119, 111, 114, 100] := congrArg D.str (by decide +kernel)
theorem cs_45 : D.str (PySem.Str.ofString "xy") = tx [120, 121] := congrArg D.str (by decide +kernel)
theorem cs_46 : D.str (PySem.Str.ofString "zzzz") = tx [122, 122, 122, 122] := congrArg D.str (by decide +kernel)
theorem cs_47 : D.str (PySem.Str.ofString "zzzzzzzz") = tx [122, 122, 122, 122, 122, 122, 122, 122] := congrArg D.str (by decide +kernel)
theorem cs_48 : D.str (PySem.Str.ofString "{") = tx [123] := congrArg D.str (by decide +kernel)
theorem cs_49 : D.str (PySem.Str.ofString "|") = tx [124] := congrArg D.str (by decide +kernel)
theorem cs_50 : D.str (PySem.Str.ofString "~") = tx [126] := congrArg D.str (by decide +kernel)
end K85

namespace K85
open PySem PySem.Spec PyProof.Rows L2 Gc
theorem lt_t {a b : Nat} (h : a < b) : decide ((a : Int) < (b : Int)) = true := decide_eq_true (by omega)
theorem lt_f {a b : Nat} (h : ¬ a < b) : decide ((a : Int) < (b : Int)) = false := decide_eq_false (by omega)
theorem row_while (l cs : List Nat) (hl : l.length ≤ lim) : ∀ (n : Nat) (a e : Nat), l.length - e < n → mWhile (mAnd (mB2 true gLt (mName 3) (mPL gLen (mCons true (mName 0) mNil))) (mB2 true gIn (mP2 true gIx (mName 0) (mName 3)) (mName 2))) (mSet 3 (mP2 true gAdd (mName 3) (mC (.int 1)))) n [some (tx l), some (.int a), some (tx cs), some (.int e)] =
    .nx [some (tx l), some (.int a), some (tx cs), some (.int ((e + ((l.drop e).takeWhile fun c => decide (c ∈ cs)).length : Nat)))] := by
  intro n
  induction n with
  | zero => intro a e h; omega
  | succ n ih =>
    intro a e h
    rw [e_while]
    by_cases he : e < l.length
    · have hc : l[e]? = some l[e] := List.getElem?_eq_getElem he
      rw [List.drop_eq_getElem_cons he]
      by_cases hm : l[e] ∈ cs
      · have hd : decide (l[e] ∈ cs) = true := decide_eq_true hm
        simp only [e_nx, b_ok, b_exc, s_ok, s_exc, e_seq, t_nx, t_ret, t_exc, t_bk, t_ct, e_name, nm_fz, nm_own, o_val, o_plc, o_tru, r_val, r_plc, p_some, pb_some, j_some, j_none, e_set, set_val, f_val, fs_nil, fs_val, frc_some, l_nil, l_cons, lc_some, e_ret, ret_val, e_ifS, w_nx, w_ret, w_exc, lp_nx, e_call, ld_nil, ld_val, ldc_some, bk_nil, bk_val, ro_ret, ro_exc, ro_nx, e_mcons, e_nil, e_C, e_P1, e_P2, e_B2, e_PL, e_and, e_or, e_not, e_bv, e_if, e_tru, tru_some, e_drop, e_fr, fk_some, e_raise, e_try, try_ret, try_nx, try_exc, unb_ret, e_xf, xf_some, e_xis, xi_some, e_part, e_nopart, part_int, e_sl, e_andV, e_orV, e_notV, and_bl, or_bl, not_bl, e_isi, isi_some, td_non, td_bl, td_int, td_tx, td_tup, td_lst, e_chain, ch_t, ch_f, e_put, e_for, e_iter, it_lst, it_tup, it_tx, e_enum, en_lst, e_comp, e_yes, e_meth, ck_lst, zl_nil, zl_cons, z_lstF, z_tup, fzl_nil, fzl_cons, fz_lstE, fz_tupE, cut_nn, cut_0n, cut_n0, cut_00, z_tx, z_int, z_bl, z_non, z_lst, fz_tx, fz_int, fz_bl, fz_non, g_lenL, g_lenT, g_lt, g_le, g_gt, g_ge, g_add, g_sub, g_eqS, g_eqI, g_neS, g_neI, g_in1, g_nin1, Option.bind_some, Option.map_some, List.getElem?_cons_zero, List.getElem?_cons_succ, List.set_cons_zero, List.set_cons_succ, List.length_cons, List.length_nil, if_true, if_false, ite_true, ite_false, decide_eq_true_eq, Bool.not_eq_true', decide_eq_false_iff_not, Bool.false_eq_true, reduceIte, eq_self, Nat.reduceAdd, Nat.reduceLT, Nat.reduceSub, Nat.zero_add, Bool.not_true, Bool.not_false, and_self, and_true, true_and, List.map_cons, List.map_nil, List.replicate_succ, List.replicate_zero, List.cons_append, List.nil_append, Bool.and_true, Bool.true_and, Bool.and_self, g_len hl, g_ixS hl, hc, lt_t he, hd, List.takeWhile_cons]
        rw [show ((e : Int) + 1) = ((e + 1 : Nat) : Int) by omega, ih a (e + 1) (by omega), Nat.add_assoc, Nat.add_comm 1]
      · have hd : decide (l[e] ∈ cs) = false := decide_eq_false hm
        simp only [e_nx, b_ok, b_exc, s_ok, s_exc, e_seq, t_nx, t_ret, t_exc, t_bk, t_ct, e_name, nm_fz, nm_own, o_val, o_plc, o_tru, r_val, r_plc, p_some, pb_some, j_some, j_none, e_set, set_val, f_val, fs_nil, fs_val, frc_some, l_nil, l_cons, lc_some, e_ret, ret_val, e_ifS, w_nx, w_ret, w_exc, lp_nx, e_call, ld_nil, ld_val, ldc_some, bk_nil, bk_val, ro_ret, ro_exc, ro_nx, e_mcons, e_nil, e_C, e_P1, e_P2, e_B2, e_PL, e_and, e_or, e_not, e_bv, e_if, e_tru, tru_some, e_drop, e_fr, fk_some, e_raise, e_try, try_ret, try_nx, try_exc, unb_ret, e_xf, xf_some, e_xis, xi_some, e_part, e_nopart, part_int, e_sl, e_andV, e_orV, e_notV, and_bl, or_bl, not_bl, e_isi, isi_some, td_non, td_bl, td_int, td_tx, td_tup, td_lst, e_chain, ch_t, ch_f, e_put, e_for, e_iter, it_lst, it_tup, it_tx, e_enum, en_lst, e_comp, e_yes, e_meth, ck_lst, zl_nil, zl_cons, z_lstF, z_tup, fzl_nil, fzl_cons, fz_lstE, fz_tupE, cut_nn, cut_0n, cut_n0, cut_00, z_tx, z_int, z_bl, z_non, z_lst, fz_tx, fz_int, fz_bl, fz_non, g_lenL, g_lenT, g_lt, g_le, g_gt, g_ge, g_add, g_sub, g_eqS, g_eqI, g_neS, g_neI, g_in1, g_nin1, Option.bind_some, Option.map_some, List.getElem?_cons_zero, List.getElem?_cons_succ, List.set_cons_zero, List.set_cons_succ, List.length_cons, List.length_nil, if_true, if_false, ite_true, ite_false, decide_eq_true_eq, Bool.not_eq_true', decide_eq_false_iff_not, Bool.false_eq_true, reduceIte, eq_self, Nat.reduceAdd, Nat.reduceLT, Nat.reduceSub, Nat.zero_add, Bool.not_true, Bool.not_false, and_self, and_true, true_and, List.map_cons, List.map_nil, List.replicate_succ, List.replicate_zero, List.cons_append, List.nil_append, Bool.and_true, Bool.true_and, Bool.and_self, g_len hl, g_ixS hl, hc, lt_t he, hd, List.takeWhile_cons]
        rfl
    · simp only [e_nx, b_ok, b_exc, s_ok, s_exc, e_seq, t_nx, t_ret, t_exc, t_bk, t_ct, e_name, nm_fz, nm_own, o_val, o_plc, o_tru, r_val, r_plc, p_some, pb_some, j_some, j_none, e_set, set_val, f_val, fs_nil, fs_val, frc_some, l_nil, l_cons, lc_some, e_ret, ret_val, e_ifS, w_nx, w_ret, w_exc, lp_nx, e_call, ld_nil, ld_val, ldc_some, bk_nil, bk_val, ro_ret, ro_exc, ro_nx, e_mcons, e_nil, e_C, e_P1, e_P2, e_B2, e_PL, e_and, e_or, e_not, e_bv, e_if, e_tru, tru_some, e_drop, e_fr, fk_some, e_raise, e_try, try_ret, try_nx, try_exc, unb_ret, e_xf, xf_some, e_xis, xi_some, e_part, e_nopart, part_int, e_sl, e_andV, e_orV, e_notV, and_bl, or_bl, not_bl, e_isi, isi_some, td_non, td_bl, td_int, td_tx, td_tup, td_lst, e_chain, ch_t, ch_f, e_put, e_for, e_iter, it_lst, it_tup, it_tx, e_enum, en_lst, e_comp, e_yes, e_meth, ck_lst, zl_nil, zl_cons, z_lstF, z_tup, fzl_nil, fzl_cons, fz_lstE, fz_tupE, cut_nn, cut_0n, cut_n0, cut_00, z_tx, z_int, z_bl, z_non, z_lst, fz_tx, fz_int, fz_bl, fz_non, g_lenL, g_lenT, g_lt, g_le, g_gt, g_ge, g_add, g_sub, g_eqS, g_eqI, g_neS, g_neI, g_in1, g_nin1, Option.bind_some, Option.map_some, List.getElem?_cons_zero, List.getElem?_cons_succ, List.set_cons_zero, List.set_cons_succ, List.length_cons, List.length_nil, if_true, if_false, ite_true, ite_false, decide_eq_true_eq, Bool.not_eq_true', decide_eq_false_iff_not, Bool.false_eq_true, reduceIte, eq_self, Nat.reduceAdd, Nat.reduceLT, Nat.reduceSub, Nat.zero_add, Bool.not_true, Bool.not_false, and_self, and_true, true_and, List.map_cons, List.map_nil, List.replicate_succ, List.replicate_zero, List.cons_append, List.nil_append, Bool.and_true, Bool.true_and, Bool.and_self, g_len hl, lt_f he]
      rw [List.drop_eq_nil_of_le (by omega)]
      rfl
theorem take_while (l : List Nat) (p : Nat → Bool) : l.take (l.takeWhile p).length = l.takeWhile p := (List.prefix_iff_eq_take.mp (List.takeWhile_prefix p)).symm
theorem row_of {l cs : List Nat} {a : Nat} (hl : l.length ≤ lim) (hn : l.length < 4000) : F_row_of [tx l, .int a, tx cs] = .ret (tx ((l.drop a).takeWhile fun c => decide (c ∈ cs))) [some (tx l), some (.int a), some (tx cs)] := by
  unfold F_row_of m_row_of
  rw [e_run (by rfl)]
  simp only [e_nx, b_ok, b_exc, s_ok, s_exc, e_seq, t_nx, t_ret, t_exc, t_bk, t_ct, e_name, nm_fz, nm_own, o_val, o_plc, o_tru, r_val, r_plc, p_some, pb_some, j_some, j_none, e_set, set_val, f_val, fs_nil, fs_val, frc_some, l_nil, l_cons, lc_some, e_ret, ret_val, e_ifS, w_nx, w_ret, w_exc, lp_nx, e_call, ld_nil, ld_val, ldc_some, bk_nil, bk_val, ro_ret, ro_exc, ro_nx, e_mcons, e_nil, e_C, e_P1, e_P2, e_B2, e_PL, e_and, e_or, e_not, e_bv, e_if, e_tru, tru_some, e_drop, e_fr, fk_some, e_raise, e_try, try_ret, try_nx, try_exc, unb_ret, e_xf, xf_some, e_xis, xi_some, e_part, e_nopart, part_int, e_sl, e_andV, e_orV, e_notV, and_bl, or_bl, not_bl, e_isi, isi_some, td_non, td_bl, td_int, td_tx, td_tup, td_lst, e_chain, ch_t, ch_f, e_put, e_for, e_iter, it_lst, it_tup, it_tx, e_enum, en_lst, e_comp, e_yes, e_meth, ck_lst, zl_nil, zl_cons, z_lstF, z_tup, fzl_nil, fzl_cons, fz_lstE, fz_tupE, cut_nn, cut_0n, cut_n0, cut_00, z_tx, z_int, z_bl, z_non, z_lst, fz_tx, fz_int, fz_bl, fz_non, g_lenL, g_lenT, g_lt, g_le, g_gt, g_ge, g_add, g_sub, g_eqS, g_eqI, g_neS, g_neI, g_in1, g_nin1, Option.bind_some, Option.map_some, List.getElem?_cons_zero, List.getElem?_cons_succ, List.set_cons_zero, List.set_cons_succ, List.length_cons, List.length_nil, if_true, if_false, ite_true, ite_false, decide_eq_true_eq, Bool.not_eq_true', decide_eq_false_iff_not, Bool.false_eq_true, reduceIte, eq_self, Nat.reduceAdd, Nat.reduceLT, Nat.reduceSub, Nat.zero_add, Bool.not_true, Bool.not_false, and_self, and_true, true_and, List.map_cons, List.map_nil, List.replicate_succ, List.replicate_zero, List.cons_append, List.nil_append, Bool.and_true, Bool.true_and, Bool.and_self, row_while l cs hl 4000 a a (by omega), g_slS hl]
  rw [Nat.add_sub_cancel_left, take_while]
  rfl
def AL : List Nat := [97, 98, 99, 100, 101, 102, 103, 104, 105, 106, 107, 108, 109, 110, 111, 112, 113, 114, 115, 116, 117, 118, 119, 120, 121, 122]
def DG : List Nat := [48, 49, 50, 51, 52, 53, 54, 55, 56, 57]
def SG : List Nat := [58, 124]
theorem sAL : D.str (PySem.Str.ofString "abcdefghijklmnopqrstuvwxyz") = tx AL := cs_31
theorem sDG : D.str (PySem.Str.ofString "0123456789") = tx DG := cs_11
theorem sSG : D.str (PySem.Str.ofString ":|") = tx SG := cs_17
/-- the messages -/
def mW : D := .str "a word has at most 4 letters"
def mN : D := .str "a number has at most 6 digits"
def mT : D := .str "no token begins here"
def kW : D := .str "word"
def kN : D := .str "number"
def kS : D := .str "sign"
theorem z_str {x : Str} : isFz (.str x) = true := Eq.trans rfl rfl
theorem fz_str {x : Str} : fz (.str x) = .str x := Eq.trans rfl rfl
/-- the letters of a set from a place on -/
def run (l cs : List Nat) (a : Nat) : List Nat := (l.drop a).takeWhile fun c => decide (c ∈ cs)
theorem run_le (l cs : List Nat) (a : Nat) : (run l cs a).length ≤ l.length := by
  have h1 := (List.takeWhile_prefix (p := fun c => decide (c ∈ cs)) (l := l.drop a)).length_le
  rw [List.length_drop] at h1
  unfold run
  omega
/-- what stands at a place -/
def tokR (l : List Nat) (a : Nat) (c : Nat) : FR :=
  if c ∈ AL then (if 4 < (run l AL a).length then .exc ⟨"TextError", ["words", "column"], [mW, .int ((a : Int) + 1)]⟩ [some (tx l), some (.int a)] else .ret (.tup [kW, tx (run l AL a), .int ((a : Int) + 1)]) [some (tx l), some (.int a)])
  else if c ∈ DG then (if 6 < (run l DG a).length then .exc ⟨"TextError", ["words", "column"], [mN, .int ((a : Int) + 1)]⟩ [some (tx l), some (.int a)] else .ret (.tup [kN, tx (run l DG a), .int ((a : Int) + 1)]) [some (tx l), some (.int a)])
  else if c ∈ SG then .ret (.tup [kS, tx [c], .int ((a : Int) + 1)]) [some (tx l), some (.int a)]
  else .exc ⟨"TextError", ["words", "column"], [mT, .int ((a : Int) + 1)]⟩ [some (tx l), some (.int a)]
theorem token_at {l : List Nat} {a c : Nat} (hl : l.length ≤ lim) (hn : l.length < 4000) (hc : l[a]? = some c) : F_token_at [tx l, .int a] = tokR l a c := by
  unfold F_token_at m_token_at
  rw [e_run (by rfl)]
  have rA := fun ρ => call_vvv (ρ := ρ) (d := tx l) (e := .int a) (f := tx AL) (row_of (cs := AL) (a := a) hl hn) rfl
  have rD := fun ρ => call_vvv (ρ := ρ) (d := tx l) (e := .int a) (f := tx DG) (row_of (cs := DG) (a := a) hl hn) rfl
  have lA : (run l AL a).length ≤ lim := Nat.le_trans (run_le l AL a) hl
  have lD : (run l DG a).length ≤ lim := Nat.le_trans (run_le l DG a) hl
  unfold run at lA lD
  have gt : ∀ ds : List D, ds.length = 3 → Gc.gTup ds = some (D.tup ds) := fun ds h => g_tup (by rw [h]; decide)
  unfold tokR
  by_cases hA : c ∈ AL
  · have dA : decide (c ∈ AL) = true := decide_eq_true hA
    rw [if_pos hA]
    by_cases h4 : 4 < (run l AL a).length
    · rw [if_pos h4]
      have d4 : decide ((4 : Int) < (((l.drop a).takeWhile fun c => decide (c ∈ AL)).length : Int)) = true := decide_eq_true (by unfold run at h4; omega)
      simp only [sAL, sDG, sSG, e_nx, b_ok, b_exc, s_ok, s_exc, e_seq, t_nx, t_ret, t_exc, t_bk, t_ct, e_name, nm_fz, nm_own, o_val, o_plc, o_tru, r_val, r_plc, p_some, pb_some, j_some, j_none, e_set, set_val, f_val, fs_nil, fs_val, frc_some, l_nil, l_cons, lc_some, e_ret, ret_val, e_ifS, w_nx, w_ret, w_exc, lp_nx, e_call, ld_nil, ld_val, ldc_some, bk_nil, bk_val, ro_ret, ro_exc, ro_nx, e_mcons, e_nil, e_C, e_P1, e_P2, e_B2, e_PL, e_and, e_or, e_not, e_bv, e_if, e_tru, tru_some, e_drop, e_fr, fk_some, e_raise, e_try, try_ret, try_nx, try_exc, unb_ret, e_xf, xf_some, e_xis, xi_some, e_part, e_nopart, part_int, e_sl, e_andV, e_orV, e_notV, and_bl, or_bl, not_bl, e_isi, isi_some, td_non, td_bl, td_int, td_tx, td_tup, td_lst, e_chain, ch_t, ch_f, e_put, e_for, e_iter, it_lst, it_tup, it_tx, e_enum, en_lst, e_comp, e_yes, e_meth, ck_lst, zl_nil, zl_cons, z_lstF, z_tup, fzl_nil, fzl_cons, fz_lstE, fz_tupE, cut_nn, cut_0n, cut_n0, cut_00, z_tx, z_int, z_bl, z_non, z_lst, fz_tx, fz_int, fz_bl, fz_non, g_lenL, g_lenT, g_lt, g_le, g_gt, g_ge, g_add, g_sub, g_eqS, g_eqI, g_neS, g_neI, g_in1, g_nin1, Option.bind_some, Option.map_some, List.getElem?_cons_zero, List.getElem?_cons_succ, List.set_cons_zero, List.set_cons_succ, List.length_cons, List.length_nil, if_true, if_false, ite_true, ite_false, decide_eq_true_eq, Bool.not_eq_true', decide_eq_false_iff_not, Bool.false_eq_true, reduceIte, eq_self, Nat.reduceAdd, Nat.reduceLT, Nat.reduceSub, Nat.zero_add, Bool.not_true, Bool.not_false, and_self, and_true, true_and, List.map_cons, List.map_nil, List.replicate_succ, List.replicate_zero, List.cons_append, List.nil_append, Bool.and_true, Bool.true_and, Bool.and_self, g_ixS hl, hc, dA, rA, d4, g_len lA, z_str, fz_str, ex_some]
      rfl
    · rw [if_neg h4]
      have d4 : decide ((4 : Int) < (((l.drop a).takeWhile fun c => decide (c ∈ AL)).length : Int)) = false := decide_eq_false (by unfold run at h4; omega)
      simp only [sAL, sDG, sSG, e_nx, b_ok, b_exc, s_ok, s_exc, e_seq, t_nx, t_ret, t_exc, t_bk, t_ct, e_name, nm_fz, nm_own, o_val, o_plc, o_tru, r_val, r_plc, p_some, pb_some, j_some, j_none, e_set, set_val, f_val, fs_nil, fs_val, frc_some, l_nil, l_cons, lc_some, e_ret, ret_val, e_ifS, w_nx, w_ret, w_exc, lp_nx, e_call, ld_nil, ld_val, ldc_some, bk_nil, bk_val, ro_ret, ro_exc, ro_nx, e_mcons, e_nil, e_C, e_P1, e_P2, e_B2, e_PL, e_and, e_or, e_not, e_bv, e_if, e_tru, tru_some, e_drop, e_fr, fk_some, e_raise, e_try, try_ret, try_nx, try_exc, unb_ret, e_xf, xf_some, e_xis, xi_some, e_part, e_nopart, part_int, e_sl, e_andV, e_orV, e_notV, and_bl, or_bl, not_bl, e_isi, isi_some, td_non, td_bl, td_int, td_tx, td_tup, td_lst, e_chain, ch_t, ch_f, e_put, e_for, e_iter, it_lst, it_tup, it_tx, e_enum, en_lst, e_comp, e_yes, e_meth, ck_lst, zl_nil, zl_cons, z_lstF, z_tup, fzl_nil, fzl_cons, fz_lstE, fz_tupE, cut_nn, cut_0n, cut_n0, cut_00, z_tx, z_int, z_bl, z_non, z_lst, fz_tx, fz_int, fz_bl, fz_non, g_lenL, g_lenT, g_lt, g_le, g_gt, g_ge, g_add, g_sub, g_eqS, g_eqI, g_neS, g_neI, g_in1, g_nin1, Option.bind_some, Option.map_some, List.getElem?_cons_zero, List.getElem?_cons_succ, List.set_cons_zero, List.set_cons_succ, List.length_cons, List.length_nil, if_true, if_false, ite_true, ite_false, decide_eq_true_eq, Bool.not_eq_true', decide_eq_false_iff_not, Bool.false_eq_true, reduceIte, eq_self, Nat.reduceAdd, Nat.reduceLT, Nat.reduceSub, Nat.zero_add, Bool.not_true, Bool.not_false, and_self, and_true, true_and, List.map_cons, List.map_nil, List.replicate_succ, List.replicate_zero, List.cons_append, List.nil_append, Bool.and_true, Bool.true_and, Bool.and_self, g_ixS hl, hc, dA, rA, d4, g_len lA, z_str, fz_str, gt]
      rfl
  · have dA : decide (c ∈ AL) = false := decide_eq_false hA
    rw [if_neg hA]
    by_cases hD : c ∈ DG
    · have dD : decide (c ∈ DG) = true := decide_eq_true hD
      rw [if_pos hD]
      by_cases h4 : 6 < (run l DG a).length
      · rw [if_pos h4]
        have d4 : decide ((6 : Int) < (((l.drop a).takeWhile fun c => decide (c ∈ DG)).length : Int)) = true := decide_eq_true (by unfold run at h4; omega)
        simp only [sAL, sDG, sSG, e_nx, b_ok, b_exc, s_ok, s_exc, e_seq, t_nx, t_ret, t_exc, t_bk, t_ct, e_name, nm_fz, nm_own, o_val, o_plc, o_tru, r_val, r_plc, p_some, pb_some, j_some, j_none, e_set, set_val, f_val, fs_nil, fs_val, frc_some, l_nil, l_cons, lc_some, e_ret, ret_val, e_ifS, w_nx, w_ret, w_exc, lp_nx, e_call, ld_nil, ld_val, ldc_some, bk_nil, bk_val, ro_ret, ro_exc, ro_nx, e_mcons, e_nil, e_C, e_P1, e_P2, e_B2, e_PL, e_and, e_or, e_not, e_bv, e_if, e_tru, tru_some, e_drop, e_fr, fk_some, e_raise, e_try, try_ret, try_nx, try_exc, unb_ret, e_xf, xf_some, e_xis, xi_some, e_part, e_nopart, part_int, e_sl, e_andV, e_orV, e_notV, and_bl, or_bl, not_bl, e_isi, isi_some, td_non, td_bl, td_int, td_tx, td_tup, td_lst, e_chain, ch_t, ch_f, e_put, e_for, e_iter, it_lst, it_tup, it_tx, e_enum, en_lst, e_comp, e_yes, e_meth, ck_lst, zl_nil, zl_cons, z_lstF, z_tup, fzl_nil, fzl_cons, fz_lstE, fz_tupE, cut_nn, cut_0n, cut_n0, cut_00, z_tx, z_int, z_bl, z_non, z_lst, fz_tx, fz_int, fz_bl, fz_non, g_lenL, g_lenT, g_lt, g_le, g_gt, g_ge, g_add, g_sub, g_eqS, g_eqI, g_neS, g_neI, g_in1, g_nin1, Option.bind_some, Option.map_some, List.getElem?_cons_zero, List.getElem?_cons_succ, List.set_cons_zero, List.set_cons_succ, List.length_cons, List.length_nil, if_true, if_false, ite_true, ite_false, decide_eq_true_eq, Bool.not_eq_true', decide_eq_false_iff_not, Bool.false_eq_true, reduceIte, eq_self, Nat.reduceAdd, Nat.reduceLT, Nat.reduceSub, Nat.zero_add, Bool.not_true, Bool.not_false, and_self, and_true, true_and, List.map_cons, List.map_nil, List.replicate_succ, List.replicate_zero, List.cons_append, List.nil_append, Bool.and_true, Bool.true_and, Bool.and_self, g_ixS hl, hc, dA, dD, rD, d4, g_len lD, z_str, fz_str, ex_some]
        rfl
      · rw [if_neg h4]
        have d4 : decide ((6 : Int) < (((l.drop a).takeWhile fun c => decide (c ∈ DG)).length : Int)) = false := decide_eq_false (by unfold run at h4; omega)
        simp only [sAL, sDG, sSG, e_nx, b_ok, b_exc, s_ok, s_exc, e_seq, t_nx, t_ret, t_exc, t_bk, t_ct, e_name, nm_fz, nm_own, o_val, o_plc, o_tru, r_val, r_plc, p_some, pb_some, j_some, j_none, e_set, set_val, f_val, fs_nil, fs_val, frc_some, l_nil, l_cons, lc_some, e_ret, ret_val, e_ifS, w_nx, w_ret, w_exc, lp_nx, e_call, ld_nil, ld_val, ldc_some, bk_nil, bk_val, ro_ret, ro_exc, ro_nx, e_mcons, e_nil, e_C, e_P1, e_P2, e_B2, e_PL, e_and, e_or, e_not, e_bv, e_if, e_tru, tru_some, e_drop, e_fr, fk_some, e_raise, e_try, try_ret, try_nx, try_exc, unb_ret, e_xf, xf_some, e_xis, xi_some, e_part, e_nopart, part_int, e_sl, e_andV, e_orV, e_notV, and_bl, or_bl, not_bl, e_isi, isi_some, td_non, td_bl, td_int, td_tx, td_tup, td_lst, e_chain, ch_t, ch_f, e_put, e_for, e_iter, it_lst, it_tup, it_tx, e_enum, en_lst, e_comp, e_yes, e_meth, ck_lst, zl_nil, zl_cons, z_lstF, z_tup, fzl_nil, fzl_cons, fz_lstE, fz_tupE, cut_nn, cut_0n, cut_n0, cut_00, z_tx, z_int, z_bl, z_non, z_lst, fz_tx, fz_int, fz_bl, fz_non, g_lenL, g_lenT, g_lt, g_le, g_gt, g_ge, g_add, g_sub, g_eqS, g_eqI, g_neS, g_neI, g_in1, g_nin1, Option.bind_some, Option.map_some, List.getElem?_cons_zero, List.getElem?_cons_succ, List.set_cons_zero, List.set_cons_succ, List.length_cons, List.length_nil, if_true, if_false, ite_true, ite_false, decide_eq_true_eq, Bool.not_eq_true', decide_eq_false_iff_not, Bool.false_eq_true, reduceIte, eq_self, Nat.reduceAdd, Nat.reduceLT, Nat.reduceSub, Nat.zero_add, Bool.not_true, Bool.not_false, and_self, and_true, true_and, List.map_cons, List.map_nil, List.replicate_succ, List.replicate_zero, List.cons_append, List.nil_append, Bool.and_true, Bool.true_and, Bool.and_self, g_ixS hl, hc, dA, dD, rD, d4, g_len lD, z_str, fz_str, gt]
        rfl
    · have dD : decide (c ∈ DG) = false := decide_eq_false hD
      rw [if_neg hD]
      by_cases hS : c ∈ SG
      · have dS : decide (c ∈ SG) = true := decide_eq_true hS
        rw [if_pos hS]
        simp only [sAL, sDG, sSG, e_nx, b_ok, b_exc, s_ok, s_exc, e_seq, t_nx, t_ret, t_exc, t_bk, t_ct, e_name, nm_fz, nm_own, o_val, o_plc, o_tru, r_val, r_plc, p_some, pb_some, j_some, j_none, e_set, set_val, f_val, fs_nil, fs_val, frc_some, l_nil, l_cons, lc_some, e_ret, ret_val, e_ifS, w_nx, w_ret, w_exc, lp_nx, e_call, ld_nil, ld_val, ldc_some, bk_nil, bk_val, ro_ret, ro_exc, ro_nx, e_mcons, e_nil, e_C, e_P1, e_P2, e_B2, e_PL, e_and, e_or, e_not, e_bv, e_if, e_tru, tru_some, e_drop, e_fr, fk_some, e_raise, e_try, try_ret, try_nx, try_exc, unb_ret, e_xf, xf_some, e_xis, xi_some, e_part, e_nopart, part_int, e_sl, e_andV, e_orV, e_notV, and_bl, or_bl, not_bl, e_isi, isi_some, td_non, td_bl, td_int, td_tx, td_tup, td_lst, e_chain, ch_t, ch_f, e_put, e_for, e_iter, it_lst, it_tup, it_tx, e_enum, en_lst, e_comp, e_yes, e_meth, ck_lst, zl_nil, zl_cons, z_lstF, z_tup, fzl_nil, fzl_cons, fz_lstE, fz_tupE, cut_nn, cut_0n, cut_n0, cut_00, z_tx, z_int, z_bl, z_non, z_lst, fz_tx, fz_int, fz_bl, fz_non, g_lenL, g_lenT, g_lt, g_le, g_gt, g_ge, g_add, g_sub, g_eqS, g_eqI, g_neS, g_neI, g_in1, g_nin1, Option.bind_some, Option.map_some, List.getElem?_cons_zero, List.getElem?_cons_succ, List.set_cons_zero, List.set_cons_succ, List.length_cons, List.length_nil, if_true, if_false, ite_true, ite_false, decide_eq_true_eq, Bool.not_eq_true', decide_eq_false_iff_not, Bool.false_eq_true, reduceIte, eq_self, Nat.reduceAdd, Nat.reduceLT, Nat.reduceSub, Nat.zero_add, Bool.not_true, Bool.not_false, and_self, and_true, true_and, List.map_cons, List.map_nil, List.replicate_succ, List.replicate_zero, List.cons_append, List.nil_append, Bool.and_true, Bool.true_and, Bool.and_self, g_ixS hl, hc, dA, dD, dS, z_str, fz_str, gt]
        rfl
      · have dS : decide (c ∈ SG) = false := decide_eq_false hS
        rw [if_neg hS]
        simp only [sAL, sDG, sSG, e_nx, b_ok, b_exc, s_ok, s_exc, e_seq, t_nx, t_ret, t_exc, t_bk, t_ct, e_name, nm_fz, nm_own, o_val, o_plc, o_tru, r_val, r_plc, p_some, pb_some, j_some, j_none, e_set, set_val, f_val, fs_nil, fs_val, frc_some, l_nil, l_cons, lc_some, e_ret, ret_val, e_ifS, w_nx, w_ret, w_exc, lp_nx, e_call, ld_nil, ld_val, ldc_some, bk_nil, bk_val, ro_ret, ro_exc, ro_nx, e_mcons, e_nil, e_C, e_P1, e_P2, e_B2, e_PL, e_and, e_or, e_not, e_bv, e_if, e_tru, tru_some, e_drop, e_fr, fk_some, e_raise, e_try, try_ret, try_nx, try_exc, unb_ret, e_xf, xf_some, e_xis, xi_some, e_part, e_nopart, part_int, e_sl, e_andV, e_orV, e_notV, and_bl, or_bl, not_bl, e_isi, isi_some, td_non, td_bl, td_int, td_tx, td_tup, td_lst, e_chain, ch_t, ch_f, e_put, e_for, e_iter, it_lst, it_tup, it_tx, e_enum, en_lst, e_comp, e_yes, e_meth, ck_lst, zl_nil, zl_cons, z_lstF, z_tup, fzl_nil, fzl_cons, fz_lstE, fz_tupE, cut_nn, cut_0n, cut_n0, cut_00, z_tx, z_int, z_bl, z_non, z_lst, fz_tx, fz_int, fz_bl, fz_non, g_lenL, g_lenT, g_lt, g_le, g_gt, g_ge, g_add, g_sub, g_eqS, g_eqI, g_neS, g_neI, g_in1, g_nin1, Option.bind_some, Option.map_some, List.getElem?_cons_zero, List.getElem?_cons_succ, List.set_cons_zero, List.set_cons_succ, List.length_cons, List.length_nil, if_true, if_false, ite_true, ite_false, decide_eq_true_eq, Bool.not_eq_true', decide_eq_false_iff_not, Bool.false_eq_true, reduceIte, eq_self, Nat.reduceAdd, Nat.reduceLT, Nat.reduceSub, Nat.zero_add, Bool.not_true, Bool.not_false, and_self, and_true, true_and, List.map_cons, List.map_nil, List.replicate_succ, List.replicate_zero, List.cons_append, List.nil_append, Bool.and_true, Bool.true_and, Bool.and_self, g_ixS hl, hc, dA, dD, dS, z_str, fz_str, ex_some]
        rfl
/-! ### scan -/
def cnd : M Bool := (mB2 true gLt (mName 2) (mPL gLen (mCons true (mName 0) mNil)))
def bdy : MS := (mIfS (mB2 true gEq (mP2 true gIx (mName 0) (mName 2)) (mC (.str " "))) (mSet 2 (mP2 true gAdd (mName 2) (mC (.int 1)))) (mSeq (mDrop (mMeth false isLst gApp (mName 1) (mCons true (mCall F_token_at (mCons true (mName 0) (mCons true (mName 2) mNil))) mNil))) (mSet 2 (mP2 true gAdd (mName 2) (mPL gLen (mCons true (mP2 true gIx (mP2 true gIx (mName 1) (mP1 gNeg (mC (.int 1)))) (mC (.int 1))) mNil))))))
def W (n : Nat) (l : List Nat) (ts : List D) (a : Nat) : RS := mWhile cnd bdy n [some (tx l), some (.lst true ts), some (.int a)]
theorem cnd_t {l : List Nat} {ts : List D} {a : Nat} (hl : l.length ≤ lim) (h : a < l.length) : cnd [some (tx l), some (.lst true ts), some (.int a)] = .ok true [some (tx l), some (.lst true ts), some (.int a)] := by
  unfold cnd
  simp only [e_nx, b_ok, b_exc, s_ok, s_exc, e_seq, t_nx, t_ret, t_exc, t_bk, t_ct, e_name, nm_fz, nm_own, o_val, o_plc, o_tru, r_val, r_plc, p_some, pb_some, j_some, j_none, e_set, set_val, f_val, fs_nil, fs_val, frc_some, l_nil, l_cons, lc_some, e_ret, ret_val, e_ifS, w_nx, w_ret, w_exc, lp_nx, e_call, ld_nil, ld_val, ldc_some, bk_nil, bk_val, ro_ret, ro_exc, ro_nx, e_mcons, e_nil, e_C, e_P1, e_P2, e_B2, e_PL, e_and, e_or, e_not, e_bv, e_if, e_tru, tru_some, e_drop, e_fr, fk_some, e_raise, e_try, try_ret, try_nx, try_exc, unb_ret, e_xf, xf_some, e_xis, xi_some, e_part, e_nopart, part_int, e_sl, e_andV, e_orV, e_notV, and_bl, or_bl, not_bl, e_isi, isi_some, td_non, td_bl, td_int, td_tx, td_tup, td_lst, e_chain, ch_t, ch_f, e_put, e_for, e_iter, it_lst, it_tup, it_tx, e_enum, en_lst, e_comp, e_yes, e_meth, ck_lst, zl_nil, zl_cons, z_lstF, z_tup, fzl_nil, fzl_cons, fz_lstE, fz_tupE, cut_nn, cut_0n, cut_n0, cut_00, z_tx, z_int, z_bl, z_non, z_lst, fz_tx, fz_int, fz_bl, fz_non, g_lenL, g_lenT, g_lt, g_le, g_gt, g_ge, g_add, g_sub, g_eqS, g_eqI, g_neS, g_neI, g_in1, g_nin1, Option.bind_some, Option.map_some, List.getElem?_cons_zero, List.getElem?_cons_succ, List.set_cons_zero, List.set_cons_succ, List.length_cons, List.length_nil, if_true, if_false, ite_true, ite_false, decide_eq_true_eq, Bool.not_eq_true', decide_eq_false_iff_not, Bool.false_eq_true, reduceIte, eq_self, Nat.reduceAdd, Nat.reduceLT, Nat.reduceSub, Nat.zero_add, Bool.not_true, Bool.not_false, and_self, and_true, true_and, List.map_cons, List.map_nil, List.replicate_succ, List.replicate_zero, List.cons_append, List.nil_append, Bool.and_true, Bool.true_and, Bool.and_self, g_len hl, lt_t h]
theorem cnd_f {l : List Nat} {ts : List D} {a : Nat} (hl : l.length ≤ lim) (h : ¬ a < l.length) : cnd [some (tx l), some (.lst true ts), some (.int a)] = .ok false [some (tx l), some (.lst true ts), some (.int a)] := by
  unfold cnd
  simp only [e_nx, b_ok, b_exc, s_ok, s_exc, e_seq, t_nx, t_ret, t_exc, t_bk, t_ct, e_name, nm_fz, nm_own, o_val, o_plc, o_tru, r_val, r_plc, p_some, pb_some, j_some, j_none, e_set, set_val, f_val, fs_nil, fs_val, frc_some, l_nil, l_cons, lc_some, e_ret, ret_val, e_ifS, w_nx, w_ret, w_exc, lp_nx, e_call, ld_nil, ld_val, ldc_some, bk_nil, bk_val, ro_ret, ro_exc, ro_nx, e_mcons, e_nil, e_C, e_P1, e_P2, e_B2, e_PL, e_and, e_or, e_not, e_bv, e_if, e_tru, tru_some, e_drop, e_fr, fk_some, e_raise, e_try, try_ret, try_nx, try_exc, unb_ret, e_xf, xf_some, e_xis, xi_some, e_part, e_nopart, part_int, e_sl, e_andV, e_orV, e_notV, and_bl, or_bl, not_bl, e_isi, isi_some, td_non, td_bl, td_int, td_tx, td_tup, td_lst, e_chain, ch_t, ch_f, e_put, e_for, e_iter, it_lst, it_tup, it_tx, e_enum, en_lst, e_comp, e_yes, e_meth, ck_lst, zl_nil, zl_cons, z_lstF, z_tup, fzl_nil, fzl_cons, fz_lstE, fz_tupE, cut_nn, cut_0n, cut_n0, cut_00, z_tx, z_int, z_bl, z_non, z_lst, fz_tx, fz_int, fz_bl, fz_non, g_lenL, g_lenT, g_lt, g_le, g_gt, g_ge, g_add, g_sub, g_eqS, g_eqI, g_neS, g_neI, g_in1, g_nin1, Option.bind_some, Option.map_some, List.getElem?_cons_zero, List.getElem?_cons_succ, List.set_cons_zero, List.set_cons_succ, List.length_cons, List.length_nil, if_true, if_false, ite_true, ite_false, decide_eq_true_eq, Bool.not_eq_true', decide_eq_false_iff_not, Bool.false_eq_true, reduceIte, eq_self, Nat.reduceAdd, Nat.reduceLT, Nat.reduceSub, Nat.zero_add, Bool.not_true, Bool.not_false, and_self, and_true, true_and, List.map_cons, List.map_nil, List.replicate_succ, List.replicate_zero, List.cons_append, List.nil_append, Bool.and_true, Bool.true_and, Bool.and_self, g_len hl, lt_f h]
theorem sSP : D.str (PySem.Str.ofString " ") = tx [32] := cs_2
theorem w_sp {n : Nat} {l : List Nat} {ts : List D} {a : Nat} (hl : l.length ≤ lim) (h : l[a]? = some 32) : W (n + 1) l ts a = W n l ts (a + 1) := by
  obtain ⟨hlt, _⟩ := List.getElem?_eq_some_iff.mp h
  unfold W
  rw [e_while, cnd_t hl hlt, s_ok, if_pos rfl]
  have b : bdy [some (tx l), some (.lst true ts), some (.int a)] = .nx [some (tx l), some (.lst true ts), some (.int ((a + 1 : Nat) : Int))] := by
    unfold bdy
    rw [e_ifS]
    simp only [sSP, e_nx, b_ok, b_exc, s_ok, s_exc, e_seq, t_nx, t_ret, t_exc, t_bk, t_ct, e_name, nm_fz, nm_own, o_val, o_plc, o_tru, r_val, r_plc, p_some, pb_some, j_some, j_none, e_set, set_val, f_val, fs_nil, fs_val, frc_some, l_nil, l_cons, lc_some, e_ret, ret_val, e_ifS, w_nx, w_ret, w_exc, lp_nx, e_call, ld_nil, ld_val, ldc_some, bk_nil, bk_val, ro_ret, ro_exc, ro_nx, e_mcons, e_nil, e_C, e_P1, e_P2, e_B2, e_PL, e_and, e_or, e_not, e_bv, e_if, e_tru, tru_some, e_drop, e_fr, fk_some, e_raise, e_try, try_ret, try_nx, try_exc, unb_ret, e_xf, xf_some, e_xis, xi_some, e_part, e_nopart, part_int, e_sl, e_andV, e_orV, e_notV, and_bl, or_bl, not_bl, e_isi, isi_some, td_non, td_bl, td_int, td_tx, td_tup, td_lst, e_chain, ch_t, ch_f, e_put, e_for, e_iter, it_lst, it_tup, it_tx, e_enum, en_lst, e_comp, e_yes, e_meth, ck_lst, zl_nil, zl_cons, z_lstF, z_tup, fzl_nil, fzl_cons, fz_lstE, fz_tupE, cut_nn, cut_0n, cut_n0, cut_00, z_tx, z_int, z_bl, z_non, z_lst, fz_tx, fz_int, fz_bl, fz_non, g_lenL, g_lenT, g_lt, g_le, g_gt, g_ge, g_add, g_sub, g_eqS, g_eqI, g_neS, g_neI, g_in1, g_nin1, Option.bind_some, Option.map_some, List.getElem?_cons_zero, List.getElem?_cons_succ, List.set_cons_zero, List.set_cons_succ, List.length_cons, List.length_nil, if_true, if_false, ite_true, ite_false, decide_eq_true_eq, Bool.not_eq_true', decide_eq_false_iff_not, Bool.false_eq_true, reduceIte, eq_self, Nat.reduceAdd, Nat.reduceLT, Nat.reduceSub, Nat.zero_add, Bool.not_true, Bool.not_false, and_self, and_true, true_and, List.map_cons, List.map_nil, List.replicate_succ, List.replicate_zero, List.cons_append, List.nil_append, Bool.and_true, Bool.true_and, Bool.and_self, g_ixS hl, h, decide_true]
    rfl
  rw [b, w_nx]
theorem g_neg {i : Int} : gNeg (.int i) = some (.int (-i)) := Eq.trans rfl rfl
theorem g_last {o : Bool} {ts : List D} {t : D} (h : isFz t = true) : gIx (.lst o (ts ++ [t])) (.int (-1)) = some t := by
  show (atD (ts ++ [t]) (-1)).bind okz = _
  unfold atD
  rw [L2.atI_last]
  exact k_some h
theorem w_tok {n : Nat} {l : List Nat} {ts : List D} {a c : Nat} {k : D} {w : List Nat} {p : Int} (hl : l.length ≤ lim) (hn : l.length < 4000) (h : l[a]? = some c) (hc : c ≠ 32) (hk : isFz k = true) (hw : w.length ≤ lim) (ht : ts.length < lim)
    (e : tokR l a c = .ret (.tup [k, tx w, .int p]) [some (tx l), some (.int a)]) : W (n + 1) l ts a = W n l (ts ++ [.tup [k, tx w, .int p]]) (a + w.length) := by
  obtain ⟨hlt, _⟩ := List.getElem?_eq_some_iff.mp h
  unfold W
  rw [e_while, cnd_t hl hlt, s_ok, if_pos rfl]
  have zt : isFz (.tup [k, tx w, .int p]) = true := by
    show (isFz k && (isFz (tx w) && (isFz (.int p) && true))) = true
    rw [hk]
    rfl
  have ft : fz (.tup [k, tx w, .int p]) = .tup [k, tx w, .int p] := fz_of _ zt
  have call : ∀ ρ, callF F_token_at [.val (tx l), .val (.int a)] ρ = .ok (.val (.tup [k, tx w, .int p])) ρ := fun ρ => call_vv ((token_at hl hn h).trans e) rfl
  have ds : decide ([c] = [32]) = false := decide_eq_false (by intro z; injection z with z; exact hc z)
  have gx : gIx (.tup [k, tx w, .int p]) (.int 1) = some (tx w) := rfl
  have b : bdy [some (tx l), some (.lst true ts), some (.int a)] = .nx [some (tx l), some (.lst true (ts ++ [.tup [k, tx w, .int p]])), some (.int ((a + w.length : Nat) : Int))] := by
    unfold bdy
    rw [e_ifS]
    have t1 : (mB2 true gEq (mP2 true gIx (mName 0) (mName 2)) (mC (.str " "))) [some (tx l), some (.lst true ts), some (.int a)] = .ok false [some (tx l), some (.lst true ts), some (.int a)] := by
      simp only [sSP, e_nx, b_ok, b_exc, s_ok, s_exc, e_seq, t_nx, t_ret, t_exc, t_bk, t_ct, e_name, nm_fz, nm_own, o_val, o_plc, o_tru, r_val, r_plc, p_some, pb_some, j_some, j_none, e_set, set_val, f_val, fs_nil, fs_val, frc_some, l_nil, l_cons, lc_some, e_ret, ret_val, e_ifS, w_nx, w_ret, w_exc, lp_nx, e_call, ld_nil, ld_val, ldc_some, bk_nil, bk_val, ro_ret, ro_exc, ro_nx, e_mcons, e_nil, e_C, e_P1, e_P2, e_B2, e_PL, e_and, e_or, e_not, e_bv, e_if, e_tru, tru_some, e_drop, e_fr, fk_some, e_raise, e_try, try_ret, try_nx, try_exc, unb_ret, e_xf, xf_some, e_xis, xi_some, e_part, e_nopart, part_int, e_sl, e_andV, e_orV, e_notV, and_bl, or_bl, not_bl, e_isi, isi_some, td_non, td_bl, td_int, td_tx, td_tup, td_lst, e_chain, ch_t, ch_f, e_put, e_for, e_iter, it_lst, it_tup, it_tx, e_enum, en_lst, e_comp, e_yes, e_meth, ck_lst, zl_nil, zl_cons, z_lstF, z_tup, fzl_nil, fzl_cons, fz_lstE, fz_tupE, cut_nn, cut_0n, cut_n0, cut_00, z_tx, z_int, z_bl, z_non, z_lst, fz_tx, fz_int, fz_bl, fz_non, g_lenL, g_lenT, g_lt, g_le, g_gt, g_ge, g_add, g_sub, g_eqS, g_eqI, g_neS, g_neI, g_in1, g_nin1, Option.bind_some, Option.map_some, List.getElem?_cons_zero, List.getElem?_cons_succ, List.set_cons_zero, List.set_cons_succ, List.length_cons, List.length_nil, if_true, if_false, ite_true, ite_false, decide_eq_true_eq, Bool.not_eq_true', decide_eq_false_iff_not, Bool.false_eq_true, reduceIte, eq_self, Nat.reduceAdd, Nat.reduceLT, Nat.reduceSub, Nat.zero_add, Bool.not_true, Bool.not_false, and_self, and_true, true_and, List.map_cons, List.map_nil, List.replicate_succ, List.replicate_zero, List.cons_append, List.nil_append, Bool.and_true, Bool.true_and, Bool.and_self, g_ixS hl, h, ds]
    rw [t1, s_ok, if_neg Bool.false_ne_true, e_seq, e_drop, e_meth]
    have ar : (mCons true (mCall F_token_at (mCons true (mName 0) (mCons true (mName 2) mNil))) mNil) [some (tx l), some (.lst true ts), some (.int a)] = .ok [.val (.tup [k, tx w, .int p])] [some (tx l), some (.lst true ts), some (.int a)] := by
      simp only [e_nx, b_ok, b_exc, s_ok, s_exc, e_seq, t_nx, t_ret, t_exc, t_bk, t_ct, e_name, nm_fz, nm_own, o_val, o_plc, o_tru, r_val, r_plc, p_some, pb_some, j_some, j_none, e_set, set_val, f_val, fs_nil, fs_val, frc_some, l_nil, l_cons, lc_some, e_ret, ret_val, e_ifS, w_nx, w_ret, w_exc, lp_nx, e_call, ld_nil, ld_val, ldc_some, bk_nil, bk_val, ro_ret, ro_exc, ro_nx, e_mcons, e_nil, e_C, e_P1, e_P2, e_B2, e_PL, e_and, e_or, e_not, e_bv, e_if, e_tru, tru_some, e_drop, e_fr, fk_some, e_raise, e_try, try_ret, try_nx, try_exc, unb_ret, e_xf, xf_some, e_xis, xi_some, e_part, e_nopart, part_int, e_sl, e_andV, e_orV, e_notV, and_bl, or_bl, not_bl, e_isi, isi_some, td_non, td_bl, td_int, td_tx, td_tup, td_lst, e_chain, ch_t, ch_f, e_put, e_for, e_iter, it_lst, it_tup, it_tx, e_enum, en_lst, e_comp, e_yes, e_meth, ck_lst, zl_nil, zl_cons, z_lstF, z_tup, fzl_nil, fzl_cons, fz_lstE, fz_tupE, cut_nn, cut_0n, cut_n0, cut_00, z_tx, z_int, z_bl, z_non, z_lst, fz_tx, fz_int, fz_bl, fz_non, g_lenL, g_lenT, g_lt, g_le, g_gt, g_ge, g_add, g_sub, g_eqS, g_eqI, g_neS, g_neI, g_in1, g_nin1, Option.bind_some, Option.map_some, List.getElem?_cons_zero, List.getElem?_cons_succ, List.set_cons_zero, List.set_cons_succ, List.length_cons, List.length_nil, if_true, if_false, ite_true, ite_false, decide_eq_true_eq, Bool.not_eq_true', decide_eq_false_iff_not, Bool.false_eq_true, reduceIte, eq_self, Nat.reduceAdd, Nat.reduceLT, Nat.reduceSub, Nat.zero_add, Bool.not_true, Bool.not_false, and_self, and_true, true_and, List.map_cons, List.map_nil, List.replicate_succ, List.replicate_zero, List.cons_append, List.nil_append, Bool.and_true, Bool.true_and, Bool.and_self, call]
    simp only [e_name, List.getElem?_cons_succ, List.getElem?_cons_zero, j_some, nm_own z_lst, b_ok, o_plc, r_plc, Option.map_some, ck_lst, and_self, if_true, ar, fs_val, fs_nil, frc_some, ft, me_plc (ρ := [some (tx l), some (.lst true ts), some (.int a)]) (i := 1) (d := .lst true ts) rfl (g_app ht), s_ok, t_nx, List.set_cons_succ, List.set_cons_zero]
    simp only [e_nx, b_ok, b_exc, s_ok, s_exc, e_seq, t_nx, t_ret, t_exc, t_bk, t_ct, e_name, nm_fz, nm_own, o_val, o_plc, o_tru, r_val, r_plc, p_some, pb_some, j_some, j_none, e_set, set_val, f_val, fs_nil, fs_val, frc_some, l_nil, l_cons, lc_some, e_ret, ret_val, e_ifS, w_nx, w_ret, w_exc, lp_nx, e_call, ld_nil, ld_val, ldc_some, bk_nil, bk_val, ro_ret, ro_exc, ro_nx, e_mcons, e_nil, e_C, e_P1, e_P2, e_B2, e_PL, e_and, e_or, e_not, e_bv, e_if, e_tru, tru_some, e_drop, e_fr, fk_some, e_raise, e_try, try_ret, try_nx, try_exc, unb_ret, e_xf, xf_some, e_xis, xi_some, e_part, e_nopart, part_int, e_sl, e_andV, e_orV, e_notV, and_bl, or_bl, not_bl, e_isi, isi_some, td_non, td_bl, td_int, td_tx, td_tup, td_lst, e_chain, ch_t, ch_f, e_put, e_for, e_iter, it_lst, it_tup, it_tx, e_enum, en_lst, e_comp, e_yes, e_meth, ck_lst, zl_nil, zl_cons, z_lstF, z_tup, fzl_nil, fzl_cons, fz_lstE, fz_tupE, cut_nn, cut_0n, cut_n0, cut_00, z_tx, z_int, z_bl, z_non, z_lst, fz_tx, fz_int, fz_bl, fz_non, g_lenL, g_lenT, g_lt, g_le, g_gt, g_ge, g_add, g_sub, g_eqS, g_eqI, g_neS, g_neI, g_in1, g_nin1, Option.bind_some, Option.map_some, List.getElem?_cons_zero, List.getElem?_cons_succ, List.set_cons_zero, List.set_cons_succ, List.length_cons, List.length_nil, if_true, if_false, ite_true, ite_false, decide_eq_true_eq, Bool.not_eq_true', decide_eq_false_iff_not, Bool.false_eq_true, reduceIte, eq_self, Nat.reduceAdd, Nat.reduceLT, Nat.reduceSub, Nat.zero_add, Bool.not_true, Bool.not_false, and_self, and_true, true_and, List.map_cons, List.map_nil, List.replicate_succ, List.replicate_zero, List.cons_append, List.nil_append, Bool.and_true, Bool.true_and, Bool.and_self, g_neg, g_last zt, gx, g_len hw]
    rfl
  rw [b, w_nx]
theorem w_exc {n : Nat} {l : List Nat} {ts : List D} {a c : Nat} {x : Exn} {ps : Ro} (hl : l.length ≤ lim) (hn : l.length < 4000) (h : l[a]? = some c) (hc : c ≠ 32) (e : tokR l a c = .exc x ps) (hp : ps.length = 2) : W (n + 1) l ts a = .exc x [some (tx l), some (.lst true ts), some (.int a)] := by
  obtain ⟨hlt, _⟩ := List.getElem?_eq_some_iff.mp h
  unfold W
  rw [e_while, cnd_t hl hlt, s_ok, if_pos rfl]
  have call : ∀ ρ, callF F_token_at [.val (tx l), .val (.int a)] ρ = .exc x ρ := fun ρ => by
    rw [e_callF (args := [tx l, .int a]) (ρ1 := ρ) rfl, token_at hl hn h, e]
    match ps, hp with
    | [p, q], _ => exact bk_exc rfl
  have ds : decide ([c] = [32]) = false := decide_eq_false (by intro z; injection z with z; exact hc z)
  have b : bdy [some (tx l), some (.lst true ts), some (.int a)] = .exc x [some (tx l), some (.lst true ts), some (.int a)] := by
    unfold bdy
    rw [e_ifS]
    have t1 : (mB2 true gEq (mP2 true gIx (mName 0) (mName 2)) (mC (.str " "))) [some (tx l), some (.lst true ts), some (.int a)] = .ok false [some (tx l), some (.lst true ts), some (.int a)] := by
      simp only [sSP, e_nx, b_ok, b_exc, s_ok, s_exc, e_seq, t_nx, t_ret, t_exc, t_bk, t_ct, e_name, nm_fz, nm_own, o_val, o_plc, o_tru, r_val, r_plc, p_some, pb_some, j_some, j_none, e_set, set_val, f_val, fs_nil, fs_val, frc_some, l_nil, l_cons, lc_some, e_ret, ret_val, e_ifS, w_nx, w_ret, w_exc, lp_nx, e_call, ld_nil, ld_val, ldc_some, bk_nil, bk_val, ro_ret, ro_exc, ro_nx, e_mcons, e_nil, e_C, e_P1, e_P2, e_B2, e_PL, e_and, e_or, e_not, e_bv, e_if, e_tru, tru_some, e_drop, e_fr, fk_some, e_raise, e_try, try_ret, try_nx, try_exc, unb_ret, e_xf, xf_some, e_xis, xi_some, e_part, e_nopart, part_int, e_sl, e_andV, e_orV, e_notV, and_bl, or_bl, not_bl, e_isi, isi_some, td_non, td_bl, td_int, td_tx, td_tup, td_lst, e_chain, ch_t, ch_f, e_put, e_for, e_iter, it_lst, it_tup, it_tx, e_enum, en_lst, e_comp, e_yes, e_meth, ck_lst, zl_nil, zl_cons, z_lstF, z_tup, fzl_nil, fzl_cons, fz_lstE, fz_tupE, cut_nn, cut_0n, cut_n0, cut_00, z_tx, z_int, z_bl, z_non, z_lst, fz_tx, fz_int, fz_bl, fz_non, g_lenL, g_lenT, g_lt, g_le, g_gt, g_ge, g_add, g_sub, g_eqS, g_eqI, g_neS, g_neI, g_in1, g_nin1, Option.bind_some, Option.map_some, List.getElem?_cons_zero, List.getElem?_cons_succ, List.set_cons_zero, List.set_cons_succ, List.length_cons, List.length_nil, if_true, if_false, ite_true, ite_false, decide_eq_true_eq, Bool.not_eq_true', decide_eq_false_iff_not, Bool.false_eq_true, reduceIte, eq_self, Nat.reduceAdd, Nat.reduceLT, Nat.reduceSub, Nat.zero_add, Bool.not_true, Bool.not_false, and_self, and_true, true_and, List.map_cons, List.map_nil, List.replicate_succ, List.replicate_zero, List.cons_append, List.nil_append, Bool.and_true, Bool.true_and, Bool.and_self, g_ixS hl, h, ds]
    rw [t1, s_ok, if_neg Bool.false_ne_true, e_seq, e_drop, e_meth]
    have ar : (mCons true (mCall F_token_at (mCons true (mName 0) (mCons true (mName 2) mNil))) mNil) [some (tx l), some (.lst true ts), some (.int a)] = .exc x [some (tx l), some (.lst true ts), some (.int a)] := by
      simp only [e_nx, b_ok, b_exc, s_ok, s_exc, e_seq, t_nx, t_ret, t_exc, t_bk, t_ct, e_name, nm_fz, nm_own, o_val, o_plc, o_tru, r_val, r_plc, p_some, pb_some, j_some, j_none, e_set, set_val, f_val, fs_nil, fs_val, frc_some, l_nil, l_cons, lc_some, e_ret, ret_val, e_ifS, w_nx, w_ret, w_exc, lp_nx, e_call, ld_nil, ld_val, ldc_some, bk_nil, bk_val, ro_ret, ro_exc, ro_nx, e_mcons, e_nil, e_C, e_P1, e_P2, e_B2, e_PL, e_and, e_or, e_not, e_bv, e_if, e_tru, tru_some, e_drop, e_fr, fk_some, e_raise, e_try, try_ret, try_nx, try_exc, unb_ret, e_xf, xf_some, e_xis, xi_some, e_part, e_nopart, part_int, e_sl, e_andV, e_orV, e_notV, and_bl, or_bl, not_bl, e_isi, isi_some, td_non, td_bl, td_int, td_tx, td_tup, td_lst, e_chain, ch_t, ch_f, e_put, e_for, e_iter, it_lst, it_tup, it_tx, e_enum, en_lst, e_comp, e_yes, e_meth, ck_lst, zl_nil, zl_cons, z_lstF, z_tup, fzl_nil, fzl_cons, fz_lstE, fz_tupE, cut_nn, cut_0n, cut_n0, cut_00, z_tx, z_int, z_bl, z_non, z_lst, fz_tx, fz_int, fz_bl, fz_non, g_lenL, g_lenT, g_lt, g_le, g_gt, g_ge, g_add, g_sub, g_eqS, g_eqI, g_neS, g_neI, g_in1, g_nin1, Option.bind_some, Option.map_some, List.getElem?_cons_zero, List.getElem?_cons_succ, List.set_cons_zero, List.set_cons_succ, List.length_cons, List.length_nil, if_true, if_false, ite_true, ite_false, decide_eq_true_eq, Bool.not_eq_true', decide_eq_false_iff_not, Bool.false_eq_true, reduceIte, eq_self, Nat.reduceAdd, Nat.reduceLT, Nat.reduceSub, Nat.zero_add, Bool.not_true, Bool.not_false, and_self, and_true, true_and, List.map_cons, List.map_nil, List.replicate_succ, List.replicate_zero, List.cons_append, List.nil_append, Bool.and_true, Bool.true_and, Bool.and_self, call]
    simp only [e_name, List.getElem?_cons_succ, List.getElem?_cons_zero, j_some, nm_own z_lst, b_ok, o_plc, r_plc, Option.map_some, ck_lst, and_self, if_true, ar, b_exc, s_exc, t_exc]
  rw [b]
  rfl
theorem sNL : D.str (PySem.Str.ofString "\n") = tx [10] := congrArg D.str (by decide +kernel)
def xT : Exn := ⟨"BadValue", ["name"], [.str "text"]⟩
theorem chk_ok {l : List Nat} (h1 : l.length ≤ 200) (h2 : 10 ∉ l) : F_check_string [tx l] = .ret .non [some (tx l)] := by
  have hl : l.length ≤ lim := Nat.le_trans h1 (by decide)
  have d1 : decide ((200 : Int) < (l.length : Int)) = false := decide_eq_false (by omega)
  have d2 : decide (10 ∈ l) = false := decide_eq_false h2
  unfold F_check_string m_check_string
  rw [e_run (by rfl)]
  simp only [sNL, e_nx, b_ok, b_exc, s_ok, s_exc, e_seq, t_nx, t_ret, t_exc, t_bk, t_ct, e_name, nm_fz, nm_own, o_val, o_plc, o_tru, r_val, r_plc, p_some, pb_some, j_some, j_none, e_set, set_val, f_val, fs_nil, fs_val, frc_some, l_nil, l_cons, lc_some, e_ret, ret_val, e_ifS, w_nx, w_ret, w_exc, lp_nx, e_call, ld_nil, ld_val, ldc_some, bk_nil, bk_val, ro_ret, ro_exc, ro_nx, e_mcons, e_nil, e_C, e_P1, e_P2, e_B2, e_PL, e_and, e_or, e_not, e_bv, e_if, e_tru, tru_some, e_drop, e_fr, fk_some, e_raise, e_try, try_ret, try_nx, try_exc, unb_ret, e_xf, xf_some, e_xis, xi_some, e_part, e_nopart, part_int, e_sl, e_andV, e_orV, e_notV, and_bl, or_bl, not_bl, e_isi, isi_some, td_non, td_bl, td_int, td_tx, td_tup, td_lst, e_chain, ch_t, ch_f, e_put, e_for, e_iter, it_lst, it_tup, it_tx, e_enum, en_lst, e_comp, e_yes, e_meth, ck_lst, zl_nil, zl_cons, z_lstF, z_tup, fzl_nil, fzl_cons, fz_lstE, fz_tupE, cut_nn, cut_0n, cut_n0, cut_00, z_tx, z_int, z_bl, z_non, z_lst, fz_tx, fz_int, fz_bl, fz_non, g_lenL, g_lenT, g_lt, g_le, g_gt, g_ge, g_add, g_sub, g_eqS, g_eqI, g_neS, g_neI, g_in1, g_nin1, Option.bind_some, Option.map_some, List.getElem?_cons_zero, List.getElem?_cons_succ, List.set_cons_zero, List.set_cons_succ, List.length_cons, List.length_nil, if_true, if_false, ite_true, ite_false, decide_eq_true_eq, Bool.not_eq_true', decide_eq_false_iff_not, Bool.false_eq_true, reduceIte, eq_self, Nat.reduceAdd, Nat.reduceLT, Nat.reduceSub, Nat.zero_add, Bool.not_true, Bool.not_false, and_self, and_true, true_and, List.map_cons, List.map_nil, List.replicate_succ, List.replicate_zero, List.cons_append, List.nil_append, Bool.and_true, Bool.true_and, Bool.and_self, i_bb, i_ib, i_ii, i_sb, i_si, i_ss, i_st, i_sl, i_tb, i_ti, i_ts, i_tt, i_tl, i_lb, i_li, i_ls, i_lt, i_ll, i_nb, i_ni, i_ns, i_nt, i_nl, tr_bl, is_non, is_bl, is_int, is_tx, is_tup, is_lst, g_eqB, g_len hl, d1, d2]
  rfl
theorem chk_bad {l : List Nat} (hl : l.length ≤ lim) (h : 200 < l.length ∨ 10 ∈ l) : F_check_string [tx l] = .exc xT [some (tx l)] := by
  unfold F_check_string m_check_string
  rw [e_run (by rfl)]
  by_cases h1 : 200 < l.length
  · have d1 : decide ((200 : Int) < (l.length : Int)) = true := decide_eq_true (by omega)
    simp only [sNL, e_nx, b_ok, b_exc, s_ok, s_exc, e_seq, t_nx, t_ret, t_exc, t_bk, t_ct, e_name, nm_fz, nm_own, o_val, o_plc, o_tru, r_val, r_plc, p_some, pb_some, j_some, j_none, e_set, set_val, f_val, fs_nil, fs_val, frc_some, l_nil, l_cons, lc_some, e_ret, ret_val, e_ifS, w_nx, w_ret, w_exc, lp_nx, e_call, ld_nil, ld_val, ldc_some, bk_nil, bk_val, ro_ret, ro_exc, ro_nx, e_mcons, e_nil, e_C, e_P1, e_P2, e_B2, e_PL, e_and, e_or, e_not, e_bv, e_if, e_tru, tru_some, e_drop, e_fr, fk_some, e_raise, e_try, try_ret, try_nx, try_exc, unb_ret, e_xf, xf_some, e_xis, xi_some, e_part, e_nopart, part_int, e_sl, e_andV, e_orV, e_notV, and_bl, or_bl, not_bl, e_isi, isi_some, td_non, td_bl, td_int, td_tx, td_tup, td_lst, e_chain, ch_t, ch_f, e_put, e_for, e_iter, it_lst, it_tup, it_tx, e_enum, en_lst, e_comp, e_yes, e_meth, ck_lst, zl_nil, zl_cons, z_lstF, z_tup, fzl_nil, fzl_cons, fz_lstE, fz_tupE, cut_nn, cut_0n, cut_n0, cut_00, z_tx, z_int, z_bl, z_non, z_lst, fz_tx, fz_int, fz_bl, fz_non, g_lenL, g_lenT, g_lt, g_le, g_gt, g_ge, g_add, g_sub, g_eqS, g_eqI, g_neS, g_neI, g_in1, g_nin1, Option.bind_some, Option.map_some, List.getElem?_cons_zero, List.getElem?_cons_succ, List.set_cons_zero, List.set_cons_succ, List.length_cons, List.length_nil, if_true, if_false, ite_true, ite_false, decide_eq_true_eq, Bool.not_eq_true', decide_eq_false_iff_not, Bool.false_eq_true, reduceIte, eq_self, Nat.reduceAdd, Nat.reduceLT, Nat.reduceSub, Nat.zero_add, Bool.not_true, Bool.not_false, and_self, and_true, true_and, List.map_cons, List.map_nil, List.replicate_succ, List.replicate_zero, List.cons_append, List.nil_append, Bool.and_true, Bool.true_and, Bool.and_self, i_bb, i_ib, i_ii, i_sb, i_si, i_ss, i_st, i_sl, i_tb, i_ti, i_ts, i_tt, i_tl, i_lb, i_li, i_ls, i_lt, i_ll, i_nb, i_ni, i_ns, i_nt, i_nl, tr_bl, is_non, is_bl, is_int, is_tx, is_tup, is_lst, g_eqB, g_len hl, d1, z_str, fz_str, ex_some]
    rfl
  · have d1 : decide ((200 : Int) < (l.length : Int)) = false := decide_eq_false (by omega)
    have d2 : decide (10 ∈ l) = true := decide_eq_true (h.resolve_left h1)
    simp only [sNL, e_nx, b_ok, b_exc, s_ok, s_exc, e_seq, t_nx, t_ret, t_exc, t_bk, t_ct, e_name, nm_fz, nm_own, o_val, o_plc, o_tru, r_val, r_plc, p_some, pb_some, j_some, j_none, e_set, set_val, f_val, fs_nil, fs_val, frc_some, l_nil, l_cons, lc_some, e_ret, ret_val, e_ifS, w_nx, w_ret, w_exc, lp_nx, e_call, ld_nil, ld_val, ldc_some, bk_nil, bk_val, ro_ret, ro_exc, ro_nx, e_mcons, e_nil, e_C, e_P1, e_P2, e_B2, e_PL, e_and, e_or, e_not, e_bv, e_if, e_tru, tru_some, e_drop, e_fr, fk_some, e_raise, e_try, try_ret, try_nx, try_exc, unb_ret, e_xf, xf_some, e_xis, xi_some, e_part, e_nopart, part_int, e_sl, e_andV, e_orV, e_notV, and_bl, or_bl, not_bl, e_isi, isi_some, td_non, td_bl, td_int, td_tx, td_tup, td_lst, e_chain, ch_t, ch_f, e_put, e_for, e_iter, it_lst, it_tup, it_tx, e_enum, en_lst, e_comp, e_yes, e_meth, ck_lst, zl_nil, zl_cons, z_lstF, z_tup, fzl_nil, fzl_cons, fz_lstE, fz_tupE, cut_nn, cut_0n, cut_n0, cut_00, z_tx, z_int, z_bl, z_non, z_lst, fz_tx, fz_int, fz_bl, fz_non, g_lenL, g_lenT, g_lt, g_le, g_gt, g_ge, g_add, g_sub, g_eqS, g_eqI, g_neS, g_neI, g_in1, g_nin1, Option.bind_some, Option.map_some, List.getElem?_cons_zero, List.getElem?_cons_succ, List.set_cons_zero, List.set_cons_succ, List.length_cons, List.length_nil, if_true, if_false, ite_true, ite_false, decide_eq_true_eq, Bool.not_eq_true', decide_eq_false_iff_not, Bool.false_eq_true, reduceIte, eq_self, Nat.reduceAdd, Nat.reduceLT, Nat.reduceSub, Nat.zero_add, Bool.not_true, Bool.not_false, and_self, and_true, true_and, List.map_cons, List.map_nil, List.replicate_succ, List.replicate_zero, List.cons_append, List.nil_append, Bool.and_true, Bool.true_and, Bool.and_self, i_bb, i_ib, i_ii, i_sb, i_si, i_ss, i_st, i_sl, i_tb, i_ti, i_ts, i_tt, i_tl, i_lb, i_li, i_ls, i_lt, i_ll, i_nb, i_ni, i_ns, i_nt, i_nl, tr_bl, is_non, is_bl, is_int, is_tx, is_tup, is_lst, g_eqB, g_len hl, d1, d2, z_str, fz_str, ex_some]
    rfl
theorem chk_non : F_check_string [.non] = .exc xT [some .non] := by
  unfold F_check_string m_check_string
  rw [e_run (by rfl)]
  simp only [e_nx, b_ok, b_exc, s_ok, s_exc, e_seq, t_nx, t_ret, t_exc, t_bk, t_ct, e_name, nm_fz, nm_own, o_val, o_plc, o_tru, r_val, r_plc, p_some, pb_some, j_some, j_none, e_set, set_val, f_val, fs_nil, fs_val, frc_some, l_nil, l_cons, lc_some, e_ret, ret_val, e_ifS, w_nx, w_ret, w_exc, lp_nx, e_call, ld_nil, ld_val, ldc_some, bk_nil, bk_val, ro_ret, ro_exc, ro_nx, e_mcons, e_nil, e_C, e_P1, e_P2, e_B2, e_PL, e_and, e_or, e_not, e_bv, e_if, e_tru, tru_some, e_drop, e_fr, fk_some, e_raise, e_try, try_ret, try_nx, try_exc, unb_ret, e_xf, xf_some, e_xis, xi_some, e_part, e_nopart, part_int, e_sl, e_andV, e_orV, e_notV, and_bl, or_bl, not_bl, e_isi, isi_some, td_non, td_bl, td_int, td_tx, td_tup, td_lst, e_chain, ch_t, ch_f, e_put, e_for, e_iter, it_lst, it_tup, it_tx, e_enum, en_lst, e_comp, e_yes, e_meth, ck_lst, zl_nil, zl_cons, z_lstF, z_tup, fzl_nil, fzl_cons, fz_lstE, fz_tupE, cut_nn, cut_0n, cut_n0, cut_00, z_tx, z_int, z_bl, z_non, z_lst, fz_tx, fz_int, fz_bl, fz_non, g_lenL, g_lenT, g_lt, g_le, g_gt, g_ge, g_add, g_sub, g_eqS, g_eqI, g_neS, g_neI, g_in1, g_nin1, Option.bind_some, Option.map_some, List.getElem?_cons_zero, List.getElem?_cons_succ, List.set_cons_zero, List.set_cons_succ, List.length_cons, List.length_nil, if_true, if_false, ite_true, ite_false, decide_eq_true_eq, Bool.not_eq_true', decide_eq_false_iff_not, Bool.false_eq_true, reduceIte, eq_self, Nat.reduceAdd, Nat.reduceLT, Nat.reduceSub, Nat.zero_add, Bool.not_true, Bool.not_false, and_self, and_true, true_and, List.map_cons, List.map_nil, List.replicate_succ, List.replicate_zero, List.cons_append, List.nil_append, Bool.and_true, Bool.true_and, Bool.and_self, i_bb, i_ib, i_ii, i_sb, i_si, i_ss, i_st, i_sl, i_tb, i_ti, i_ts, i_tt, i_tl, i_lb, i_li, i_ls, i_lt, i_ll, i_nb, i_ni, i_ns, i_nt, i_nl, tr_bl, is_non, is_bl, is_int, is_tx, is_tup, is_lst, g_eqB, z_str, fz_str, ex_some]
  rfl
theorem i_is : isiB "int" "str" = false := by decide
theorem chk_int {i : Int} : F_check_string [.int i] = .exc xT [some (.int i)] := by
  unfold F_check_string m_check_string
  rw [e_run (by rfl)]
  simp only [e_nx, b_ok, b_exc, s_ok, s_exc, e_seq, t_nx, t_ret, t_exc, t_bk, t_ct, e_name, nm_fz, nm_own, o_val, o_plc, o_tru, r_val, r_plc, p_some, pb_some, j_some, j_none, e_set, set_val, f_val, fs_nil, fs_val, frc_some, l_nil, l_cons, lc_some, e_ret, ret_val, e_ifS, w_nx, w_ret, w_exc, lp_nx, e_call, ld_nil, ld_val, ldc_some, bk_nil, bk_val, ro_ret, ro_exc, ro_nx, e_mcons, e_nil, e_C, e_P1, e_P2, e_B2, e_PL, e_and, e_or, e_not, e_bv, e_if, e_tru, tru_some, e_drop, e_fr, fk_some, e_raise, e_try, try_ret, try_nx, try_exc, unb_ret, e_xf, xf_some, e_xis, xi_some, e_part, e_nopart, part_int, e_sl, e_andV, e_orV, e_notV, and_bl, or_bl, not_bl, e_isi, isi_some, td_non, td_bl, td_int, td_tx, td_tup, td_lst, e_chain, ch_t, ch_f, e_put, e_for, e_iter, it_lst, it_tup, it_tx, e_enum, en_lst, e_comp, e_yes, e_meth, ck_lst, zl_nil, zl_cons, z_lstF, z_tup, fzl_nil, fzl_cons, fz_lstE, fz_tupE, cut_nn, cut_0n, cut_n0, cut_00, z_tx, z_int, z_bl, z_non, z_lst, fz_tx, fz_int, fz_bl, fz_non, g_lenL, g_lenT, g_lt, g_le, g_gt, g_ge, g_add, g_sub, g_eqS, g_eqI, g_neS, g_neI, g_in1, g_nin1, Option.bind_some, Option.map_some, List.getElem?_cons_zero, List.getElem?_cons_succ, List.set_cons_zero, List.set_cons_succ, List.length_cons, List.length_nil, if_true, if_false, ite_true, ite_false, decide_eq_true_eq, Bool.not_eq_true', decide_eq_false_iff_not, Bool.false_eq_true, reduceIte, eq_self, Nat.reduceAdd, Nat.reduceLT, Nat.reduceSub, Nat.zero_add, Bool.not_true, Bool.not_false, and_self, and_true, true_and, List.map_cons, List.map_nil, List.replicate_succ, List.replicate_zero, List.cons_append, List.nil_append, Bool.and_true, Bool.true_and, Bool.and_self, i_bb, i_ib, i_ii, i_sb, i_si, i_ss, i_st, i_sl, i_tb, i_ti, i_ts, i_tt, i_tl, i_lb, i_li, i_ls, i_lt, i_ll, i_nb, i_ni, i_ns, i_nt, i_nl, tr_bl, is_non, is_bl, is_int, is_tx, is_tup, is_lst, g_eqB, i_is, z_str, fz_str, ex_some]
  rfl
theorem chk_lst {ds : List D} (h : isFzL ds = true) : F_check_string [.lst false ds] = .exc xT [some (.lst false ds)] := by
  unfold F_check_string m_check_string
  rw [e_run (by rfl)]
  simp only [e_nx, b_ok, b_exc, s_ok, s_exc, e_seq, t_nx, t_ret, t_exc, t_bk, t_ct, e_name, nm_fz, nm_own, o_val, o_plc, o_tru, r_val, r_plc, p_some, pb_some, j_some, j_none, e_set, set_val, f_val, fs_nil, fs_val, frc_some, l_nil, l_cons, lc_some, e_ret, ret_val, e_ifS, w_nx, w_ret, w_exc, lp_nx, e_call, ld_nil, ld_val, ldc_some, bk_nil, bk_val, ro_ret, ro_exc, ro_nx, e_mcons, e_nil, e_C, e_P1, e_P2, e_B2, e_PL, e_and, e_or, e_not, e_bv, e_if, e_tru, tru_some, e_drop, e_fr, fk_some, e_raise, e_try, try_ret, try_nx, try_exc, unb_ret, e_xf, xf_some, e_xis, xi_some, e_part, e_nopart, part_int, e_sl, e_andV, e_orV, e_notV, and_bl, or_bl, not_bl, e_isi, isi_some, td_non, td_bl, td_int, td_tx, td_tup, td_lst, e_chain, ch_t, ch_f, e_put, e_for, e_iter, it_lst, it_tup, it_tx, e_enum, en_lst, e_comp, e_yes, e_meth, ck_lst, zl_nil, zl_cons, z_lstF, z_tup, fzl_nil, fzl_cons, fz_lstE, fz_tupE, cut_nn, cut_0n, cut_n0, cut_00, z_tx, z_int, z_bl, z_non, z_lst, fz_tx, fz_int, fz_bl, fz_non, g_lenL, g_lenT, g_lt, g_le, g_gt, g_ge, g_add, g_sub, g_eqS, g_eqI, g_neS, g_neI, g_in1, g_nin1, Option.bind_some, Option.map_some, List.getElem?_cons_zero, List.getElem?_cons_succ, List.set_cons_zero, List.set_cons_succ, List.length_cons, List.length_nil, if_true, if_false, ite_true, ite_false, decide_eq_true_eq, Bool.not_eq_true', decide_eq_false_iff_not, Bool.false_eq_true, reduceIte, eq_self, Nat.reduceAdd, Nat.reduceLT, Nat.reduceSub, Nat.zero_add, Bool.not_true, Bool.not_false, and_self, and_true, true_and, List.map_cons, List.map_nil, List.replicate_succ, List.replicate_zero, List.cons_append, List.nil_append, Bool.and_true, Bool.true_and, Bool.and_self, i_bb, i_ib, i_ii, i_sb, i_si, i_ss, i_st, i_sl, i_tb, i_ti, i_ts, i_tt, i_tl, i_lb, i_li, i_ls, i_lt, i_ll, i_nb, i_ni, i_ns, i_nt, i_nl, tr_bl, is_non, is_bl, is_int, is_tx, is_tup, is_lst, g_eqB, h, z_str, fz_str, ex_some]
  rfl
def tE (l : List Nat) : D := .tup [.str "end", tx [], .int ((l.length : Int) + 1)]
theorem sE : D.str (PySem.Str.ofString "") = tx [] := cs_3
theorem scan_ok {l : List Nat} {ts : List D} {a : Nat} (h1 : l.length ≤ 200) (h2 : 10 ∉ l) (ht : ts.length < lim) (e : W 4000 l [] 0 = .nx [some (tx l), some (.lst true ts), some (.int a)]) : F_scan [tx l] = .ret (.lst true (ts ++ [tE l])) [some (tx l)] := by
  have hl : l.length ≤ lim := Nat.le_trans h1 (by decide)
  have call : ∀ ρ, callF F_check_string [.val (tx l)] ρ = .ok (.val .non) ρ := fun ρ => call_v (chk_ok h1 h2) rfl
  have g0 : Gc.gLst [] = some (D.lst true []) := g_lst (Nat.zero_le _)
  have gt : ∀ ds : List D, ds.length = 3 → Gc.gTup ds = some (D.tup ds) := fun ds h => g_tup (by rw [h]; decide)
  unfold F_scan m_scan
  rw [e_run (by rfl)]
  have w : (mWhile cnd bdy 4000) [some (tx l), some (.lst true []), some (.int 0)] = .nx [some (tx l), some (.lst true ts), some (.int a)] := e
  unfold cnd bdy at w
  simp only [sE, e_nx, b_ok, b_exc, s_ok, s_exc, e_seq, t_nx, t_ret, t_exc, t_bk, t_ct, e_name, nm_fz, nm_own, o_val, o_plc, o_tru, r_val, r_plc, p_some, pb_some, j_some, j_none, e_set, set_val, f_val, fs_nil, fs_val, frc_some, l_nil, l_cons, lc_some, e_ret, ret_val, e_ifS, w_nx, w_ret, w_exc, lp_nx, e_call, ld_nil, ld_val, ldc_some, bk_nil, bk_val, ro_ret, ro_exc, ro_nx, e_mcons, e_nil, e_C, e_P1, e_P2, e_B2, e_PL, e_and, e_or, e_not, e_bv, e_if, e_tru, tru_some, e_drop, e_fr, fk_some, e_raise, e_try, try_ret, try_nx, try_exc, unb_ret, e_xf, xf_some, e_xis, xi_some, e_part, e_nopart, part_int, e_sl, e_andV, e_orV, e_notV, and_bl, or_bl, not_bl, e_isi, isi_some, td_non, td_bl, td_int, td_tx, td_tup, td_lst, e_chain, ch_t, ch_f, e_put, e_for, e_iter, it_lst, it_tup, it_tx, e_enum, en_lst, e_comp, e_yes, e_meth, ck_lst, zl_nil, zl_cons, z_lstF, z_tup, fzl_nil, fzl_cons, fz_lstE, fz_tupE, cut_nn, cut_0n, cut_n0, cut_00, z_tx, z_int, z_bl, z_non, z_lst, fz_tx, fz_int, fz_bl, fz_non, g_lenL, g_lenT, g_lt, g_le, g_gt, g_ge, g_add, g_sub, g_eqS, g_eqI, g_neS, g_neI, g_in1, g_nin1, Option.bind_some, Option.map_some, List.getElem?_cons_zero, List.getElem?_cons_succ, List.set_cons_zero, List.set_cons_succ, List.length_cons, List.length_nil, if_true, if_false, ite_true, ite_false, decide_eq_true_eq, Bool.not_eq_true', decide_eq_false_iff_not, Bool.false_eq_true, reduceIte, eq_self, Nat.reduceAdd, Nat.reduceLT, Nat.reduceSub, Nat.zero_add, Bool.not_true, Bool.not_false, and_self, and_true, true_and, List.map_cons, List.map_nil, List.replicate_succ, List.replicate_zero, List.cons_append, List.nil_append, Bool.and_true, Bool.true_and, Bool.and_self, call, g0, w, g_len hl, z_str, fz_str, gt, me_plc (ρ := [some (tx l), some (.lst true ts), some (.int a)]) (i := 1) (d := .lst true ts) rfl (g_app ht), o_plc]
  rfl
theorem scan_exc {l : List Nat} {x : Exn} {p q : Option D} (h1 : l.length ≤ 200) (h2 : 10 ∉ l) (e : W 4000 l [] 0 = .exc x [some (tx l), p, q]) : F_scan [tx l] = .exc x [some (tx l)] := by
  have hl : l.length ≤ lim := Nat.le_trans h1 (by decide)
  have call : ∀ ρ, callF F_check_string [.val (tx l)] ρ = .ok (.val .non) ρ := fun ρ => call_v (chk_ok h1 h2) rfl
  have g0 : Gc.gLst [] = some (D.lst true []) := g_lst (Nat.zero_le _)
  unfold F_scan m_scan
  rw [e_run (by rfl)]
  have w : (mWhile cnd bdy 4000) [some (tx l), some (.lst true []), some (.int 0)] = .exc x [some (tx l), p, q] := e
  unfold cnd bdy at w
  simp only [sE, e_nx, b_ok, b_exc, s_ok, s_exc, e_seq, t_nx, t_ret, t_exc, t_bk, t_ct, e_name, nm_fz, nm_own, o_val, o_plc, o_tru, r_val, r_plc, p_some, pb_some, j_some, j_none, e_set, set_val, f_val, fs_nil, fs_val, frc_some, l_nil, l_cons, lc_some, e_ret, ret_val, e_ifS, w_nx, w_ret, w_exc, lp_nx, e_call, ld_nil, ld_val, ldc_some, bk_nil, bk_val, ro_ret, ro_exc, ro_nx, e_mcons, e_nil, e_C, e_P1, e_P2, e_B2, e_PL, e_and, e_or, e_not, e_bv, e_if, e_tru, tru_some, e_drop, e_fr, fk_some, e_raise, e_try, try_ret, try_nx, try_exc, unb_ret, e_xf, xf_some, e_xis, xi_some, e_part, e_nopart, part_int, e_sl, e_andV, e_orV, e_notV, and_bl, or_bl, not_bl, e_isi, isi_some, td_non, td_bl, td_int, td_tx, td_tup, td_lst, e_chain, ch_t, ch_f, e_put, e_for, e_iter, it_lst, it_tup, it_tx, e_enum, en_lst, e_comp, e_yes, e_meth, ck_lst, zl_nil, zl_cons, z_lstF, z_tup, fzl_nil, fzl_cons, fz_lstE, fz_tupE, cut_nn, cut_0n, cut_n0, cut_00, z_tx, z_int, z_bl, z_non, z_lst, fz_tx, fz_int, fz_bl, fz_non, g_lenL, g_lenT, g_lt, g_le, g_gt, g_ge, g_add, g_sub, g_eqS, g_eqI, g_neS, g_neI, g_in1, g_nin1, Option.bind_some, Option.map_some, List.getElem?_cons_zero, List.getElem?_cons_succ, List.set_cons_zero, List.set_cons_succ, List.length_cons, List.length_nil, if_true, if_false, ite_true, ite_false, decide_eq_true_eq, Bool.not_eq_true', decide_eq_false_iff_not, Bool.false_eq_true, reduceIte, eq_self, Nat.reduceAdd, Nat.reduceLT, Nat.reduceSub, Nat.zero_add, Bool.not_true, Bool.not_false, and_self, and_true, true_and, List.map_cons, List.map_nil, List.replicate_succ, List.replicate_zero, List.cons_append, List.nil_append, Bool.and_true, Bool.true_and, Bool.and_self, call, g0, w]
  rfl
theorem scan_bad {d : D} (hz : isFz d = true) (e : F_check_string [d] = .exc xT [some d]) : F_scan [d] = .exc xT [some d] := by
  have call : ∀ ρ, callF F_check_string [.val d] ρ = .exc xT ρ := fun ρ => by
    rw [e_callF (args := [d]) (ρ1 := ρ) (by rw [ld_val, fz_of d hz]; rfl), e]
    exact bk_exc rfl
  unfold F_scan m_scan
  rw [e_run (by rfl)]
  simp only [e_nx, b_ok, b_exc, s_ok, s_exc, e_seq, t_nx, t_ret, t_exc, t_bk, t_ct, e_name, nm_fz, nm_own, o_val, o_plc, o_tru, r_val, r_plc, p_some, pb_some, j_some, j_none, e_set, set_val, f_val, fs_nil, fs_val, frc_some, l_nil, l_cons, lc_some, e_ret, ret_val, e_ifS, w_nx, w_ret, w_exc, lp_nx, e_call, ld_nil, ld_val, ldc_some, bk_nil, bk_val, ro_ret, ro_exc, ro_nx, e_mcons, e_nil, e_C, e_P1, e_P2, e_B2, e_PL, e_and, e_or, e_not, e_bv, e_if, e_tru, tru_some, e_drop, e_fr, fk_some, e_raise, e_try, try_ret, try_nx, try_exc, unb_ret, e_xf, xf_some, e_xis, xi_some, e_part, e_nopart, part_int, e_sl, e_andV, e_orV, e_notV, and_bl, or_bl, not_bl, e_isi, isi_some, td_non, td_bl, td_int, td_tx, td_tup, td_lst, e_chain, ch_t, ch_f, e_put, e_for, e_iter, it_lst, it_tup, it_tx, e_enum, en_lst, e_comp, e_yes, e_meth, ck_lst, zl_nil, zl_cons, z_lstF, z_tup, fzl_nil, fzl_cons, fz_lstE, fz_tupE, cut_nn, cut_0n, cut_n0, cut_00, z_tx, z_int, z_bl, z_non, z_lst, fz_tx, fz_int, fz_bl, fz_non, g_lenL, g_lenT, g_lt, g_le, g_gt, g_ge, g_add, g_sub, g_eqS, g_eqI, g_neS, g_neI, g_in1, g_nin1, Option.bind_some, Option.map_some, List.getElem?_cons_zero, List.getElem?_cons_succ, List.set_cons_zero, List.set_cons_succ, List.length_cons, List.length_nil, if_true, if_false, ite_true, ite_false, decide_eq_true_eq, Bool.not_eq_true', decide_eq_false_iff_not, Bool.false_eq_true, reduceIte, eq_self, Nat.reduceAdd, Nat.reduceLT, Nat.reduceSub, Nat.zero_add, Bool.not_true, Bool.not_false, and_self, and_true, true_and, List.map_cons, List.map_nil, List.replicate_succ, List.replicate_zero, List.cons_append, List.nil_append, Bool.and_true, Bool.true_and, Bool.and_self, hz, call]
  rfl
/-! ### told -/
theorem ltT : ca_TextError.lookup ("TextError" : Str) = some true := by decide +kernel
theorem ltB : ca_TextError.lookup ("BadValue" : Str) = some false := by decide +kernel
theorem lbB : ca_BadValue.lookup ("BadValue" : Str) = some true := by decide +kernel
theorem lxT : xt_TextError_CutError.lookup ("TextError" : Str) = some true := by decide +kernel
theorem told_ok {l : List Nat} {r : D} (e : F_scan [tx l] = .ret r [some (tx l)]) : F__law_told [tx l] = .ret r [some (tx l)] := by
  have call : ∀ ρ, callF F_scan [.val (tx l)] ρ = .ok (.val r) ρ := fun ρ => call_v e rfl
  unfold F__law_told m__law_told
  rw [e_run (by rfl)]
  simp only [e_nx, b_ok, b_exc, s_ok, s_exc, e_seq, t_nx, t_ret, t_exc, t_bk, t_ct, e_name, nm_fz, nm_own, o_val, o_plc, o_tru, r_val, r_plc, p_some, pb_some, j_some, j_none, e_set, set_val, f_val, fs_nil, fs_val, frc_some, l_nil, l_cons, lc_some, e_ret, ret_val, e_ifS, w_nx, w_ret, w_exc, lp_nx, e_call, ld_nil, ld_val, ldc_some, bk_nil, bk_val, ro_ret, ro_exc, ro_nx, e_mcons, e_nil, e_C, e_P1, e_P2, e_B2, e_PL, e_and, e_or, e_not, e_bv, e_if, e_tru, tru_some, e_drop, e_fr, fk_some, e_raise, e_try, try_ret, try_nx, try_exc, unb_ret, e_xf, xf_some, e_xis, xi_some, e_part, e_nopart, part_int, e_sl, e_andV, e_orV, e_notV, and_bl, or_bl, not_bl, e_isi, isi_some, td_non, td_bl, td_int, td_tx, td_tup, td_lst, e_chain, ch_t, ch_f, e_put, e_for, e_iter, it_lst, it_tup, it_tx, e_enum, en_lst, e_comp, e_yes, e_meth, ck_lst, zl_nil, zl_cons, z_lstF, z_tup, fzl_nil, fzl_cons, fz_lstE, fz_tupE, cut_nn, cut_0n, cut_n0, cut_00, z_tx, z_int, z_bl, z_non, z_lst, fz_tx, fz_int, fz_bl, fz_non, g_lenL, g_lenT, g_lt, g_le, g_gt, g_ge, g_add, g_sub, g_eqS, g_eqI, g_neS, g_neI, g_in1, g_nin1, Option.bind_some, Option.map_some, List.getElem?_cons_zero, List.getElem?_cons_succ, List.set_cons_zero, List.set_cons_succ, List.length_cons, List.length_nil, if_true, if_false, ite_true, ite_false, decide_eq_true_eq, Bool.not_eq_true', decide_eq_false_iff_not, Bool.false_eq_true, reduceIte, eq_self, Nat.reduceAdd, Nat.reduceLT, Nat.reduceSub, Nat.zero_add, Bool.not_true, Bool.not_false, and_self, and_true, true_and, List.map_cons, List.map_nil, List.replicate_succ, List.replicate_zero, List.cons_append, List.nil_append, Bool.and_true, Bool.true_and, Bool.and_self, call]
  rfl
theorem told_bad {d : D} (hz : isFz d = true) (e : F_check_string [d] = .exc xT [some d]) : F__law_told [d] = .ret (.str "text") [some d] := by
  have call : ∀ ρ, callF F_scan [.val d] ρ = .exc xT ρ := fun ρ => by
    rw [e_callF (args := [d]) (ρ1 := ρ) (by rw [ld_val, fz_of d hz]; rfl), scan_bad hz e]
    exact bk_exc rfl
  have lk : lookF "name" xT.ns xT.ds = some (.str "text") := by rfl
  unfold F__law_told m__law_told
  rw [e_run (by rfl)]
  simp only [e_nx, b_ok, b_exc, s_ok, s_exc, e_seq, t_nx, t_ret, t_exc, t_bk, t_ct, e_name, nm_fz, nm_own, o_val, o_plc, o_tru, r_val, r_plc, p_some, pb_some, j_some, j_none, e_set, set_val, f_val, fs_nil, fs_val, frc_some, l_nil, l_cons, lc_some, e_ret, ret_val, e_ifS, w_nx, w_ret, w_exc, lp_nx, e_call, ld_nil, ld_val, ldc_some, bk_nil, bk_val, ro_ret, ro_exc, ro_nx, e_mcons, e_nil, e_C, e_P1, e_P2, e_B2, e_PL, e_and, e_or, e_not, e_bv, e_if, e_tru, tru_some, e_drop, e_fr, fk_some, e_raise, e_try, try_ret, try_nx, try_exc, unb_ret, e_xf, xf_some, e_xis, xi_some, e_part, e_nopart, part_int, e_sl, e_andV, e_orV, e_notV, and_bl, or_bl, not_bl, e_isi, isi_some, td_non, td_bl, td_int, td_tx, td_tup, td_lst, e_chain, ch_t, ch_f, e_put, e_for, e_iter, it_lst, it_tup, it_tx, e_enum, en_lst, e_comp, e_yes, e_meth, ck_lst, zl_nil, zl_cons, z_lstF, z_tup, fzl_nil, fzl_cons, fz_lstE, fz_tupE, cut_nn, cut_0n, cut_n0, cut_00, z_tx, z_int, z_bl, z_non, z_lst, fz_tx, fz_int, fz_bl, fz_non, g_lenL, g_lenT, g_lt, g_le, g_gt, g_ge, g_add, g_sub, g_eqS, g_eqI, g_neS, g_neI, g_in1, g_nin1, Option.bind_some, Option.map_some, List.getElem?_cons_zero, List.getElem?_cons_succ, List.set_cons_zero, List.set_cons_succ, List.length_cons, List.length_nil, if_true, if_false, ite_true, ite_false, decide_eq_true_eq, Bool.not_eq_true', decide_eq_false_iff_not, Bool.false_eq_true, reduceIte, eq_self, Nat.reduceAdd, Nat.reduceLT, Nat.reduceSub, Nat.zero_add, Bool.not_true, Bool.not_false, and_self, and_true, true_and, List.map_cons, List.map_nil, List.replicate_succ, List.replicate_zero, List.cons_append, List.nil_append, Bool.and_true, Bool.true_and, Bool.and_self, call, hz]
  rw [hand_f (x := xT) ltB, hand_t (x := xT) lbB (by show (1 : Nat) < 2; decide)]
  simp only [e_nx, b_ok, b_exc, s_ok, s_exc, e_seq, t_nx, t_ret, t_exc, t_bk, t_ct, e_name, nm_fz, nm_own, o_val, o_plc, o_tru, r_val, r_plc, p_some, pb_some, j_some, j_none, e_set, set_val, f_val, fs_nil, fs_val, frc_some, l_nil, l_cons, lc_some, e_ret, ret_val, e_ifS, w_nx, w_ret, w_exc, lp_nx, e_call, ld_nil, ld_val, ldc_some, bk_nil, bk_val, ro_ret, ro_exc, ro_nx, e_mcons, e_nil, e_C, e_P1, e_P2, e_B2, e_PL, e_and, e_or, e_not, e_bv, e_if, e_tru, tru_some, e_drop, e_fr, fk_some, e_raise, e_try, try_ret, try_nx, try_exc, unb_ret, e_xf, xf_some, e_xis, xi_some, e_part, e_nopart, part_int, e_sl, e_andV, e_orV, e_notV, and_bl, or_bl, not_bl, e_isi, isi_some, td_non, td_bl, td_int, td_tx, td_tup, td_lst, e_chain, ch_t, ch_f, e_put, e_for, e_iter, it_lst, it_tup, it_tx, e_enum, en_lst, e_comp, e_yes, e_meth, ck_lst, zl_nil, zl_cons, z_lstF, z_tup, fzl_nil, fzl_cons, fz_lstE, fz_tupE, cut_nn, cut_0n, cut_n0, cut_00, z_tx, z_int, z_bl, z_non, z_lst, fz_tx, fz_int, fz_bl, fz_non, g_lenL, g_lenT, g_lt, g_le, g_gt, g_ge, g_add, g_sub, g_eqS, g_eqI, g_neS, g_neI, g_in1, g_nin1, Option.bind_some, Option.map_some, List.getElem?_cons_zero, List.getElem?_cons_succ, List.set_cons_zero, List.set_cons_succ, List.length_cons, List.length_nil, if_true, if_false, ite_true, ite_false, decide_eq_true_eq, Bool.not_eq_true', decide_eq_false_iff_not, Bool.false_eq_true, reduceIte, eq_self, Nat.reduceAdd, Nat.reduceLT, Nat.reduceSub, Nat.zero_add, Bool.not_true, Bool.not_false, and_self, and_true, true_and, List.map_cons, List.map_nil, List.replicate_succ, List.replicate_zero, List.cons_append, List.nil_append, Bool.and_true, Bool.true_and, Bool.and_self, lk]
  rfl
theorem told_exc {l : List Nat} {m : D} {p : Int} (e : F_scan [tx l] = .exc ⟨"TextError", ["words", "column"], [m, .int p]⟩ [some (tx l)]) (hm : isFz m = true) : F__law_told [tx l] = .ret (.tup [.int p, m]) [some (tx l)] := by
  have call : ∀ ρ, callF F_scan [.val (tx l)] ρ = .exc ⟨"TextError", ["words", "column"], [m, .int p]⟩ ρ := fun ρ => by
    rw [e_callF (args := [tx l]) (ρ1 := ρ) rfl, e]
    exact bk_exc rfl
  have l1 : lookF "column" ["words", "column"] [m, .int p] = some (.int p) := by rfl
  have l2 : lookF "words" ["words", "column"] [m, .int p] = some m := by rfl
  have gt : ∀ ds : List D, ds.length = 2 → Gc.gTup ds = some (D.tup ds) := fun ds h => g_tup (by rw [h]; decide)
  unfold F__law_told m__law_told
  rw [e_run (by rfl)]
  simp only [e_nx, b_ok, b_exc, s_ok, s_exc, e_seq, t_nx, t_ret, t_exc, t_bk, t_ct, e_name, nm_fz, nm_own, o_val, o_plc, o_tru, r_val, r_plc, p_some, pb_some, j_some, j_none, e_set, set_val, f_val, fs_nil, fs_val, frc_some, l_nil, l_cons, lc_some, e_ret, ret_val, e_ifS, w_nx, w_ret, w_exc, lp_nx, e_call, ld_nil, ld_val, ldc_some, bk_nil, bk_val, ro_ret, ro_exc, ro_nx, e_mcons, e_nil, e_C, e_P1, e_P2, e_B2, e_PL, e_and, e_or, e_not, e_bv, e_if, e_tru, tru_some, e_drop, e_fr, fk_some, e_raise, e_try, try_ret, try_nx, try_exc, unb_ret, e_xf, xf_some, e_xis, xi_some, e_part, e_nopart, part_int, e_sl, e_andV, e_orV, e_notV, and_bl, or_bl, not_bl, e_isi, isi_some, td_non, td_bl, td_int, td_tx, td_tup, td_lst, e_chain, ch_t, ch_f, e_put, e_for, e_iter, it_lst, it_tup, it_tx, e_enum, en_lst, e_comp, e_yes, e_meth, ck_lst, zl_nil, zl_cons, z_lstF, z_tup, fzl_nil, fzl_cons, fz_lstE, fz_tupE, cut_nn, cut_0n, cut_n0, cut_00, z_tx, z_int, z_bl, z_non, z_lst, fz_tx, fz_int, fz_bl, fz_non, g_lenL, g_lenT, g_lt, g_le, g_gt, g_ge, g_add, g_sub, g_eqS, g_eqI, g_neS, g_neI, g_in1, g_nin1, Option.bind_some, Option.map_some, List.getElem?_cons_zero, List.getElem?_cons_succ, List.set_cons_zero, List.set_cons_succ, List.length_cons, List.length_nil, if_true, if_false, ite_true, ite_false, decide_eq_true_eq, Bool.not_eq_true', decide_eq_false_iff_not, Bool.false_eq_true, reduceIte, eq_self, Nat.reduceAdd, Nat.reduceLT, Nat.reduceSub, Nat.zero_add, Bool.not_true, Bool.not_false, and_self, and_true, true_and, List.map_cons, List.map_nil, List.replicate_succ, List.replicate_zero, List.cons_append, List.nil_append, Bool.and_true, Bool.true_and, Bool.and_self, call]
  rw [hand_t (x := ⟨"TextError", ["words", "column"], [m, .int p]⟩) ltT (by show (1 : Nat) < 2; decide)]
  simp only [e_nx, b_ok, b_exc, s_ok, s_exc, e_seq, t_nx, t_ret, t_exc, t_bk, t_ct, e_name, nm_fz, nm_own, o_val, o_plc, o_tru, r_val, r_plc, p_some, pb_some, j_some, j_none, e_set, set_val, f_val, fs_nil, fs_val, frc_some, l_nil, l_cons, lc_some, e_ret, ret_val, e_ifS, w_nx, w_ret, w_exc, lp_nx, e_call, ld_nil, ld_val, ldc_some, bk_nil, bk_val, ro_ret, ro_exc, ro_nx, e_mcons, e_nil, e_C, e_P1, e_P2, e_B2, e_PL, e_and, e_or, e_not, e_bv, e_if, e_tru, tru_some, e_drop, e_fr, fk_some, e_raise, e_try, try_ret, try_nx, try_exc, unb_ret, e_xf, xf_some, e_xis, xi_some, e_part, e_nopart, part_int, e_sl, e_andV, e_orV, e_notV, and_bl, or_bl, not_bl, e_isi, isi_some, td_non, td_bl, td_int, td_tx, td_tup, td_lst, e_chain, ch_t, ch_f, e_put, e_for, e_iter, it_lst, it_tup, it_tx, e_enum, en_lst, e_comp, e_yes, e_meth, ck_lst, zl_nil, zl_cons, z_lstF, z_tup, fzl_nil, fzl_cons, fz_lstE, fz_tupE, cut_nn, cut_0n, cut_n0, cut_00, z_tx, z_int, z_bl, z_non, z_lst, fz_tx, fz_int, fz_bl, fz_non, g_lenL, g_lenT, g_lt, g_le, g_gt, g_ge, g_add, g_sub, g_eqS, g_eqI, g_neS, g_neI, g_in1, g_nin1, Option.bind_some, Option.map_some, List.getElem?_cons_zero, List.getElem?_cons_succ, List.set_cons_zero, List.set_cons_succ, List.length_cons, List.length_nil, if_true, if_false, ite_true, ite_false, decide_eq_true_eq, Bool.not_eq_true', decide_eq_false_iff_not, Bool.false_eq_true, reduceIte, eq_self, Nat.reduceAdd, Nat.reduceLT, Nat.reduceSub, Nat.zero_add, Bool.not_true, Bool.not_false, and_self, and_true, true_and, List.map_cons, List.map_nil, List.replicate_succ, List.replicate_zero, List.cons_append, List.nil_append, Bool.and_true, Bool.true_and, Bool.and_self, i_bb, i_ib, i_ii, i_sb, i_si, i_ss, i_st, i_sl, i_tb, i_ti, i_ts, i_tt, i_tl, i_lb, i_li, i_ls, i_lt, i_ll, i_nb, i_ni, i_ns, i_nt, i_nl, tr_bl, is_non, is_bl, is_int, is_tx, is_tup, is_lst, g_eqB, lxT, l1, l2, fz_of m hm, gt]
  rfl
/-! ### the words' kinds, the laying -/
def ALL : List Nat := [58, 124, 48, 49, 50, 51, 52, 53, 54, 55, 56, 57, 97, 98, 99, 100, 101, 102, 103, 104, 105, 106, 107, 108, 109, 110, 111, 112, 113, 114, 115, 116, 117, 118, 119, 120, 121, 122]
theorem sALL : D.str (PySem.Str.ofString ":|0123456789abcdefghijklmnopqrstuvwxyz") = tx ALL := cs_18
def kn : Fin 4 → D
  | 0 => .str "strange"
  | 1 => .str "sign"
  | 2 => .str "number"
  | 3 => .str "word"
def kc : List Nat → Fin 4
  | [] => 0
  | c :: _ => if c ∉ ALL then 0 else if c ∈ SG then 1 else if c ∈ DG then 2 else 3
theorem g_kn : ∀ i j : Fin 4, gEq (kn i) (kn j) = some (decide (i = j)) := by decide +kernel
theorem z_kn (i : Fin 4) : isFz (kn i) = true := by match i with | 0 => rfl | 1 => rfl | 2 => rfl | 3 => rfl
theorem parts_ok {w : List Nat} (hl : w.length ≤ lim) : F__law_parts [tx w] = .ret (kn (kc w)) [some (tx w)] := by
  unfold F__law_parts m__law_parts
  rw [e_run (by rfl)]
  cases w with
  | nil =>
    simp only [sE, sALL, e_nx, b_ok, b_exc, s_ok, s_exc, e_seq, t_nx, t_ret, t_exc, t_bk, t_ct, e_name, nm_fz, nm_own, o_val, o_plc, o_tru, r_val, r_plc, p_some, pb_some, j_some, j_none, e_set, set_val, f_val, fs_nil, fs_val, frc_some, l_nil, l_cons, lc_some, e_ret, ret_val, e_ifS, w_nx, w_ret, w_exc, lp_nx, e_call, ld_nil, ld_val, ldc_some, bk_nil, bk_val, ro_ret, ro_exc, ro_nx, e_mcons, e_nil, e_C, e_P1, e_P2, e_B2, e_PL, e_and, e_or, e_not, e_bv, e_if, e_tru, tru_some, e_drop, e_fr, fk_some, e_raise, e_try, try_ret, try_nx, try_exc, unb_ret, e_xf, xf_some, e_xis, xi_some, e_part, e_nopart, part_int, e_sl, e_andV, e_orV, e_notV, and_bl, or_bl, not_bl, e_isi, isi_some, td_non, td_bl, td_int, td_tx, td_tup, td_lst, e_chain, ch_t, ch_f, e_put, e_for, e_iter, it_lst, it_tup, it_tx, e_enum, en_lst, e_comp, e_yes, e_meth, ck_lst, zl_nil, zl_cons, z_lstF, z_tup, fzl_nil, fzl_cons, fz_lstE, fz_tupE, cut_nn, cut_0n, cut_n0, cut_00, z_tx, z_int, z_bl, z_non, z_lst, fz_tx, fz_int, fz_bl, fz_non, g_lenL, g_lenT, g_lt, g_le, g_gt, g_ge, g_add, g_sub, g_eqS, g_eqI, g_neS, g_neI, g_in1, g_nin1, Option.bind_some, Option.map_some, List.getElem?_cons_zero, List.getElem?_cons_succ, List.set_cons_zero, List.set_cons_succ, List.length_cons, List.length_nil, if_true, if_false, ite_true, ite_false, decide_eq_true_eq, Bool.not_eq_true', decide_eq_false_iff_not, Bool.false_eq_true, reduceIte, eq_self, Nat.reduceAdd, Nat.reduceLT, Nat.reduceSub, Nat.zero_add, Bool.not_true, Bool.not_false, and_self, and_true, true_and, List.map_cons, List.map_nil, List.replicate_succ, List.replicate_zero, List.cons_append, List.nil_append, Bool.and_true, Bool.true_and, Bool.and_self, decide_true]
    rfl
  | cons c r =>
    have gi : gIx (tx (c :: r)) (.int 0) = some (tx [c]) := g_ixS (k := 0) hl
    have de : decide (c :: r = []) = false := decide_eq_false (by simp)
    show _ = FR.ret (kn (if c ∉ ALL then 0 else if c ∈ SG then 1 else if c ∈ DG then 2 else 3)) _
    by_cases hA : c ∈ ALL
    · have dA : decide (c ∈ ALL) = true := decide_eq_true hA
      rw [if_neg (by simpa using hA)]
      by_cases hS : c ∈ SG
      · have dS : decide (c ∈ SG) = true := decide_eq_true hS
        rw [if_pos hS]
        simp only [sE, sALL, sSG, sDG, e_nx, b_ok, b_exc, s_ok, s_exc, e_seq, t_nx, t_ret, t_exc, t_bk, t_ct, e_name, nm_fz, nm_own, o_val, o_plc, o_tru, r_val, r_plc, p_some, pb_some, j_some, j_none, e_set, set_val, f_val, fs_nil, fs_val, frc_some, l_nil, l_cons, lc_some, e_ret, ret_val, e_ifS, w_nx, w_ret, w_exc, lp_nx, e_call, ld_nil, ld_val, ldc_some, bk_nil, bk_val, ro_ret, ro_exc, ro_nx, e_mcons, e_nil, e_C, e_P1, e_P2, e_B2, e_PL, e_and, e_or, e_not, e_bv, e_if, e_tru, tru_some, e_drop, e_fr, fk_some, e_raise, e_try, try_ret, try_nx, try_exc, unb_ret, e_xf, xf_some, e_xis, xi_some, e_part, e_nopart, part_int, e_sl, e_andV, e_orV, e_notV, and_bl, or_bl, not_bl, e_isi, isi_some, td_non, td_bl, td_int, td_tx, td_tup, td_lst, e_chain, ch_t, ch_f, e_put, e_for, e_iter, it_lst, it_tup, it_tx, e_enum, en_lst, e_comp, e_yes, e_meth, ck_lst, zl_nil, zl_cons, z_lstF, z_tup, fzl_nil, fzl_cons, fz_lstE, fz_tupE, cut_nn, cut_0n, cut_n0, cut_00, z_tx, z_int, z_bl, z_non, z_lst, fz_tx, fz_int, fz_bl, fz_non, g_lenL, g_lenT, g_lt, g_le, g_gt, g_ge, g_add, g_sub, g_eqS, g_eqI, g_neS, g_neI, g_in1, g_nin1, Option.bind_some, Option.map_some, List.getElem?_cons_zero, List.getElem?_cons_succ, List.set_cons_zero, List.set_cons_succ, List.length_cons, List.length_nil, if_true, if_false, ite_true, ite_false, decide_eq_true_eq, Bool.not_eq_true', decide_eq_false_iff_not, Bool.false_eq_true, reduceIte, eq_self, Nat.reduceAdd, Nat.reduceLT, Nat.reduceSub, Nat.zero_add, Bool.not_true, Bool.not_false, and_self, and_true, true_and, List.map_cons, List.map_nil, List.replicate_succ, List.replicate_zero, List.cons_append, List.nil_append, Bool.and_true, Bool.true_and, Bool.and_self, gi, de, dA, dS]
        rfl
      · have dS : decide (c ∈ SG) = false := decide_eq_false hS
        rw [if_neg hS]
        by_cases hD : c ∈ DG
        · have dD : decide (c ∈ DG) = true := decide_eq_true hD
          rw [if_pos hD]
          simp only [sE, sALL, sSG, sDG, e_nx, b_ok, b_exc, s_ok, s_exc, e_seq, t_nx, t_ret, t_exc, t_bk, t_ct, e_name, nm_fz, nm_own, o_val, o_plc, o_tru, r_val, r_plc, p_some, pb_some, j_some, j_none, e_set, set_val, f_val, fs_nil, fs_val, frc_some, l_nil, l_cons, lc_some, e_ret, ret_val, e_ifS, w_nx, w_ret, w_exc, lp_nx, e_call, ld_nil, ld_val, ldc_some, bk_nil, bk_val, ro_ret, ro_exc, ro_nx, e_mcons, e_nil, e_C, e_P1, e_P2, e_B2, e_PL, e_and, e_or, e_not, e_bv, e_if, e_tru, tru_some, e_drop, e_fr, fk_some, e_raise, e_try, try_ret, try_nx, try_exc, unb_ret, e_xf, xf_some, e_xis, xi_some, e_part, e_nopart, part_int, e_sl, e_andV, e_orV, e_notV, and_bl, or_bl, not_bl, e_isi, isi_some, td_non, td_bl, td_int, td_tx, td_tup, td_lst, e_chain, ch_t, ch_f, e_put, e_for, e_iter, it_lst, it_tup, it_tx, e_enum, en_lst, e_comp, e_yes, e_meth, ck_lst, zl_nil, zl_cons, z_lstF, z_tup, fzl_nil, fzl_cons, fz_lstE, fz_tupE, cut_nn, cut_0n, cut_n0, cut_00, z_tx, z_int, z_bl, z_non, z_lst, fz_tx, fz_int, fz_bl, fz_non, g_lenL, g_lenT, g_lt, g_le, g_gt, g_ge, g_add, g_sub, g_eqS, g_eqI, g_neS, g_neI, g_in1, g_nin1, Option.bind_some, Option.map_some, List.getElem?_cons_zero, List.getElem?_cons_succ, List.set_cons_zero, List.set_cons_succ, List.length_cons, List.length_nil, if_true, if_false, ite_true, ite_false, decide_eq_true_eq, Bool.not_eq_true', decide_eq_false_iff_not, Bool.false_eq_true, reduceIte, eq_self, Nat.reduceAdd, Nat.reduceLT, Nat.reduceSub, Nat.zero_add, Bool.not_true, Bool.not_false, and_self, and_true, true_and, List.map_cons, List.map_nil, List.replicate_succ, List.replicate_zero, List.cons_append, List.nil_append, Bool.and_true, Bool.true_and, Bool.and_self, gi, de, dA, dS, dD]
          rfl
        · have dD : decide (c ∈ DG) = false := decide_eq_false hD
          rw [if_neg hD]
          simp only [sE, sALL, sSG, sDG, e_nx, b_ok, b_exc, s_ok, s_exc, e_seq, t_nx, t_ret, t_exc, t_bk, t_ct, e_name, nm_fz, nm_own, o_val, o_plc, o_tru, r_val, r_plc, p_some, pb_some, j_some, j_none, e_set, set_val, f_val, fs_nil, fs_val, frc_some, l_nil, l_cons, lc_some, e_ret, ret_val, e_ifS, w_nx, w_ret, w_exc, lp_nx, e_call, ld_nil, ld_val, ldc_some, bk_nil, bk_val, ro_ret, ro_exc, ro_nx, e_mcons, e_nil, e_C, e_P1, e_P2, e_B2, e_PL, e_and, e_or, e_not, e_bv, e_if, e_tru, tru_some, e_drop, e_fr, fk_some, e_raise, e_try, try_ret, try_nx, try_exc, unb_ret, e_xf, xf_some, e_xis, xi_some, e_part, e_nopart, part_int, e_sl, e_andV, e_orV, e_notV, and_bl, or_bl, not_bl, e_isi, isi_some, td_non, td_bl, td_int, td_tx, td_tup, td_lst, e_chain, ch_t, ch_f, e_put, e_for, e_iter, it_lst, it_tup, it_tx, e_enum, en_lst, e_comp, e_yes, e_meth, ck_lst, zl_nil, zl_cons, z_lstF, z_tup, fzl_nil, fzl_cons, fz_lstE, fz_tupE, cut_nn, cut_0n, cut_n0, cut_00, z_tx, z_int, z_bl, z_non, z_lst, fz_tx, fz_int, fz_bl, fz_non, g_lenL, g_lenT, g_lt, g_le, g_gt, g_ge, g_add, g_sub, g_eqS, g_eqI, g_neS, g_neI, g_in1, g_nin1, Option.bind_some, Option.map_some, List.getElem?_cons_zero, List.getElem?_cons_succ, List.set_cons_zero, List.set_cons_succ, List.length_cons, List.length_nil, if_true, if_false, ite_true, ite_false, decide_eq_true_eq, Bool.not_eq_true', decide_eq_false_iff_not, Bool.false_eq_true, reduceIte, eq_self, Nat.reduceAdd, Nat.reduceLT, Nat.reduceSub, Nat.zero_add, Bool.not_true, Bool.not_false, and_self, and_true, true_and, List.map_cons, List.map_nil, List.replicate_succ, List.replicate_zero, List.cons_append, List.nil_append, Bool.and_true, Bool.true_and, Bool.and_self, gi, de, dA, dS, dD]
          rfl
    · have dA : decide (c ∈ ALL) = false := decide_eq_false hA
      rw [if_pos hA]
      simp only [sE, sALL, sSG, sDG, e_nx, b_ok, b_exc, s_ok, s_exc, e_seq, t_nx, t_ret, t_exc, t_bk, t_ct, e_name, nm_fz, nm_own, o_val, o_plc, o_tru, r_val, r_plc, p_some, pb_some, j_some, j_none, e_set, set_val, f_val, fs_nil, fs_val, frc_some, l_nil, l_cons, lc_some, e_ret, ret_val, e_ifS, w_nx, w_ret, w_exc, lp_nx, e_call, ld_nil, ld_val, ldc_some, bk_nil, bk_val, ro_ret, ro_exc, ro_nx, e_mcons, e_nil, e_C, e_P1, e_P2, e_B2, e_PL, e_and, e_or, e_not, e_bv, e_if, e_tru, tru_some, e_drop, e_fr, fk_some, e_raise, e_try, try_ret, try_nx, try_exc, unb_ret, e_xf, xf_some, e_xis, xi_some, e_part, e_nopart, part_int, e_sl, e_andV, e_orV, e_notV, and_bl, or_bl, not_bl, e_isi, isi_some, td_non, td_bl, td_int, td_tx, td_tup, td_lst, e_chain, ch_t, ch_f, e_put, e_for, e_iter, it_lst, it_tup, it_tx, e_enum, en_lst, e_comp, e_yes, e_meth, ck_lst, zl_nil, zl_cons, z_lstF, z_tup, fzl_nil, fzl_cons, fz_lstE, fz_tupE, cut_nn, cut_0n, cut_n0, cut_00, z_tx, z_int, z_bl, z_non, z_lst, fz_tx, fz_int, fz_bl, fz_non, g_lenL, g_lenT, g_lt, g_le, g_gt, g_ge, g_add, g_sub, g_eqS, g_eqI, g_neS, g_neI, g_in1, g_nin1, Option.bind_some, Option.map_some, List.getElem?_cons_zero, List.getElem?_cons_succ, List.set_cons_zero, List.set_cons_succ, List.length_cons, List.length_nil, if_true, if_false, ite_true, ite_false, decide_eq_true_eq, Bool.not_eq_true', decide_eq_false_iff_not, Bool.false_eq_true, reduceIte, eq_self, Nat.reduceAdd, Nat.reduceLT, Nat.reduceSub, Nat.zero_add, Bool.not_true, Bool.not_false, and_self, and_true, true_and, List.map_cons, List.map_nil, List.replicate_succ, List.replicate_zero, List.cons_append, List.nil_append, Bool.and_true, Bool.true_and, Bool.and_self, gi, de, dA]
      rfl
/-- the text that is laid -/
def lay : List (Nat × List Nat) → List Nat
  | [] => []
  | (s, w) :: r => List.replicate s 32 ++ (w ++ lay r)
/-- the places -/
def pls (n : Nat) : List (Nat × List Nat) → List D
  | [] => []
  | (s, w) :: r => .int ((n + s + 1 : Nat) : Int) :: pls (n + s + w.length) r
/-- two of a kind stand apart -/
def Gd : Option (List Nat) → List (Nat × List Nat) → Prop
  | _, [] => True
  | p, (s, w) :: r => s ≤ 3 ∧ (∀ q, p = some q → kc q = kc w → kc w ≠ 1 → 1 ≤ s) ∧ Gd (some w) r
def lbd : MS := (mSeq (mSet 6 (mAndV (mBv (mB2 true gGt (mName 4) (mC (.int 0)))) (mBv (mChain false true gEq gNe (mCall F__law_parts (mCons true (mP2 true gIx (mName 1) (mP2 true gSub (mName 4) (mC (.int 1)))) mNil)) (mCall F__law_parts (mCons true (mName 5) mNil)) (mC (.str "sign")))))) (mSeq (mSet 2 (mP2 false gAdd (mName 2) (mP2 false gIx (mFr gLst (mCons true (mC (.str "")) (mCons true (mC (.str " ")) (mCons true (mC (.str "  ")) (mCons true (mC (.str "   ")) mNil))))) (mPL gMax2 (mCons false (mPL gInt (mCons true (mName 6) mNil)) (mCons true (mCall F__law_next (mCons true (mName 0) (mCons true (mC (.int 4)) mNil))) mNil)))))) (mSeq (mDrop (mMeth true isLst gApp (mName 3) (mCons true (mP2 true gAdd (mPL gLen (mCons true (mName 2) mNil)) (mC (.int 1))) mNil))) (mSet 2 (mP2 true gAdd (mName 2) (mName 5))))))
def wt (w : List Nat) : D := tx w
theorem nexts : F__law_next = F_next := rfl
theorem zl_tx (ws : List (List Nat)) : isFzL (ws.map tx) = true := isFzL_iff.mpr fun d h => by
  obtain ⟨w, _, rfl⟩ := List.mem_map.mp h
  rfl
theorem z_stm {ns : List Int} {c : Int} {k : Nat} : isFz (stm ns c k) = false := rfl
theorem gxW {o : Bool} {ws : List (List Nat)} {j : Nat} {w : List Nat} (h : ws[j]? = some w) : gIx (.lst o (ws.map tx)) (.int (j : Int)) = some (tx w) := by
  rw [g_ixL, List.getElem?_map, h]
  rfl
def lb1 : MS := (mSet 6 (mAndV (mBv (mB2 true gGt (mName 4) (mC (.int 0)))) (mBv (mChain false true gEq gNe (mCall F__law_parts (mCons true (mP2 true gIx (mName 1) (mP2 true gSub (mName 4) (mC (.int 1)))) mNil)) (mCall F__law_parts (mCons true (mName 5) mNil)) (mC (.str "sign"))))))
def lb2 : MS := (mSeq (mSet 2 (mP2 false gAdd (mName 2) (mP2 false gIx (mFr gLst (mCons true (mC (.str "")) (mCons true (mC (.str " ")) (mCons true (mC (.str "  ")) (mCons true (mC (.str "   ")) mNil))))) (mPL gMax2 (mCons false (mPL gInt (mCons true (mName 6) mNil)) (mCons true (mCall F__law_next (mCons true (mName 0) (mCons true (mC (.int 4)) mNil))) mNil)))))) (mSeq (mDrop (mMeth true isLst gApp (mName 3) (mCons true (mP2 true gAdd (mPL gLen (mCons true (mName 2) mNil)) (mC (.int 1))) mNil))) (mSet 2 (mP2 true gAdd (mName 2) (mName 5)))))
theorem lbd_eq : lbd = mSeq lb1 lb2 := rfl
theorem near_0 {x0 x2 x3 x6 : Option D} {ws : List (List Nat)} {w : List Nat} : lb1 [x0, some (.lst false (ws.map tx)), x2, x3, some (.int 0), some (tx w), x6] = .nx [x0, some (.lst false (ws.map tx)), x2, x3, some (.int 0), some (tx w), some (.bl false)] := by
  have d0 : decide ((0 : Int) < 0) = false := rfl
  unfold lb1
  simp only [e_nx, b_ok, b_exc, s_ok, s_exc, e_seq, t_nx, t_ret, t_exc, t_bk, t_ct, e_name, nm_fz, nm_own, o_val, o_plc, o_tru, r_val, r_plc, p_some, pb_some, j_some, j_none, e_set, set_val, f_val, fs_nil, fs_val, frc_some, l_nil, l_cons, lc_some, e_ret, ret_val, e_ifS, w_nx, w_ret, w_exc, lp_nx, e_call, ld_nil, ld_val, ldc_some, bk_nil, bk_val, ro_ret, ro_exc, ro_nx, e_mcons, e_nil, e_C, e_P1, e_P2, e_B2, e_PL, e_and, e_or, e_not, e_bv, e_if, e_tru, tru_some, e_drop, e_fr, fk_some, e_raise, e_try, try_ret, try_nx, try_exc, unb_ret, e_xf, xf_some, e_xis, xi_some, e_part, e_nopart, part_int, e_sl, e_andV, e_orV, e_notV, and_bl, or_bl, not_bl, e_isi, isi_some, td_non, td_bl, td_int, td_tx, td_tup, td_lst, e_chain, ch_t, ch_f, e_put, e_for, e_iter, it_lst, it_tup, it_tx, e_enum, en_lst, e_comp, e_yes, e_meth, ck_lst, zl_nil, zl_cons, z_lstF, z_tup, fzl_nil, fzl_cons, fz_lstE, fz_tupE, cut_nn, cut_0n, cut_n0, cut_00, z_tx, z_int, z_bl, z_non, z_lst, fz_tx, fz_int, fz_bl, fz_non, g_lenL, g_lenT, g_lt, g_le, g_gt, g_ge, g_add, g_sub, g_eqS, g_eqI, g_neS, g_neI, g_in1, g_nin1, Option.bind_some, Option.map_some, List.getElem?_cons_zero, List.getElem?_cons_succ, List.set_cons_zero, List.set_cons_succ, List.length_cons, List.length_nil, if_true, if_false, ite_true, ite_false, decide_eq_true_eq, Bool.not_eq_true', decide_eq_false_iff_not, Bool.false_eq_true, reduceIte, eq_self, Nat.reduceAdd, Nat.reduceLT, Nat.reduceSub, Nat.zero_add, Bool.not_true, Bool.not_false, and_self, and_true, true_and, List.map_cons, List.map_nil, List.replicate_succ, List.replicate_zero, List.cons_append, List.nil_append, Bool.and_true, Bool.true_and, Bool.and_self, d0]
theorem sSig : D.str (PySem.Str.ofString "sign") = kn 1 := rfl
theorem near_s {x0 x2 x3 x6 : Option D} {ws : List (List Nat)} {w q : List Nat} {m : Nat} (hq : ws[m]? = some q) (lw : w.length ≤ lim) (lq : q.length ≤ lim) :
    lb1 [x0, some (.lst false (ws.map tx)), x2, x3, some (.int ((m + 1 : Nat) : Int)), some (tx w), x6] = .nx [x0, some (.lst false (ws.map tx)), x2, x3, some (.int ((m + 1 : Nat) : Int)), some (tx w), some (.bl (decide (kc q = kc w) && !decide (kc w = 1)))] := by
  have d0 : decide ((0 : Int) < ((m + 1 : Nat) : Int)) = true := decide_eq_true (by omega)
  have e1 : (((m + 1 : Nat) : Int) - 1) = (m : Int) := by omega
  have cq : ∀ ρ, callF F__law_parts [.val (tx q)] ρ = .ok (.val (kn (kc q))) ρ := fun ρ => call_v (parts_ok lq) rfl
  have cw : ∀ ρ, callF F__law_parts [.val (tx w)] ρ = .ok (.val (kn (kc w))) ρ := fun ρ => call_v (parts_ok lw) rfl
  have gne : gNe (kn (kc w)) (kn 1) = some (!decide (kc w = 1)) := by
    unfold gNe
    rw [g_kn]
    rfl
  unfold lb1
  by_cases hk : kc q = kc w
  · have dk : decide (kc q = kc w) = true := decide_eq_true hk
    have gk : gEq (kn (kc q)) (kn (kc w)) = some true := by rw [g_kn, dk]
    simp only [sSig, e_nx, b_ok, b_exc, s_ok, s_exc, e_seq, t_nx, t_ret, t_exc, t_bk, t_ct, e_name, nm_fz, nm_own, o_val, o_plc, o_tru, r_val, r_plc, p_some, pb_some, j_some, j_none, e_set, set_val, f_val, fs_nil, fs_val, frc_some, l_nil, l_cons, lc_some, e_ret, ret_val, e_ifS, w_nx, w_ret, w_exc, lp_nx, e_call, ld_nil, ld_val, ldc_some, bk_nil, bk_val, ro_ret, ro_exc, ro_nx, e_mcons, e_nil, e_C, e_P1, e_P2, e_B2, e_PL, e_and, e_or, e_not, e_bv, e_if, e_tru, tru_some, e_drop, e_fr, fk_some, e_raise, e_try, try_ret, try_nx, try_exc, unb_ret, e_xf, xf_some, e_xis, xi_some, e_part, e_nopart, part_int, e_sl, e_andV, e_orV, e_notV, and_bl, or_bl, not_bl, e_isi, isi_some, td_non, td_bl, td_int, td_tx, td_tup, td_lst, e_chain, ch_t, ch_f, e_put, e_for, e_iter, it_lst, it_tup, it_tx, e_enum, en_lst, e_comp, e_yes, e_meth, ck_lst, zl_nil, zl_cons, z_lstF, z_tup, fzl_nil, fzl_cons, fz_lstE, fz_tupE, cut_nn, cut_0n, cut_n0, cut_00, z_tx, z_int, z_bl, z_non, z_lst, fz_tx, fz_int, fz_bl, fz_non, g_lenL, g_lenT, g_lt, g_le, g_gt, g_ge, g_add, g_sub, g_eqS, g_eqI, g_neS, g_neI, g_in1, g_nin1, Option.bind_some, Option.map_some, List.getElem?_cons_zero, List.getElem?_cons_succ, List.set_cons_zero, List.set_cons_succ, List.length_cons, List.length_nil, if_true, if_false, ite_true, ite_false, decide_eq_true_eq, Bool.not_eq_true', decide_eq_false_iff_not, Bool.false_eq_true, reduceIte, eq_self, Nat.reduceAdd, Nat.reduceLT, Nat.reduceSub, Nat.zero_add, Bool.not_true, Bool.not_false, and_self, and_true, true_and, List.map_cons, List.map_nil, List.replicate_succ, List.replicate_zero, List.cons_append, List.nil_append, Bool.and_true, Bool.true_and, Bool.and_self, d0, e1, gxW hq, cq, cw, gk, gne, dk, zl_tx]
  · have dk : decide (kc q = kc w) = false := decide_eq_false hk
    have gk : gEq (kn (kc q)) (kn (kc w)) = some false := by rw [g_kn, dk]
    simp only [sSig, e_nx, b_ok, b_exc, s_ok, s_exc, e_seq, t_nx, t_ret, t_exc, t_bk, t_ct, e_name, nm_fz, nm_own, o_val, o_plc, o_tru, r_val, r_plc, p_some, pb_some, j_some, j_none, e_set, set_val, f_val, fs_nil, fs_val, frc_some, l_nil, l_cons, lc_some, e_ret, ret_val, e_ifS, w_nx, w_ret, w_exc, lp_nx, e_call, ld_nil, ld_val, ldc_some, bk_nil, bk_val, ro_ret, ro_exc, ro_nx, e_mcons, e_nil, e_C, e_P1, e_P2, e_B2, e_PL, e_and, e_or, e_not, e_bv, e_if, e_tru, tru_some, e_drop, e_fr, fk_some, e_raise, e_try, try_ret, try_nx, try_exc, unb_ret, e_xf, xf_some, e_xis, xi_some, e_part, e_nopart, part_int, e_sl, e_andV, e_orV, e_notV, and_bl, or_bl, not_bl, e_isi, isi_some, td_non, td_bl, td_int, td_tx, td_tup, td_lst, e_chain, ch_t, ch_f, e_put, e_for, e_iter, it_lst, it_tup, it_tx, e_enum, en_lst, e_comp, e_yes, e_meth, ck_lst, zl_nil, zl_cons, z_lstF, z_tup, fzl_nil, fzl_cons, fz_lstE, fz_tupE, cut_nn, cut_0n, cut_n0, cut_00, z_tx, z_int, z_bl, z_non, z_lst, fz_tx, fz_int, fz_bl, fz_non, g_lenL, g_lenT, g_lt, g_le, g_gt, g_ge, g_add, g_sub, g_eqS, g_eqI, g_neS, g_neI, g_in1, g_nin1, Option.bind_some, Option.map_some, List.getElem?_cons_zero, List.getElem?_cons_succ, List.set_cons_zero, List.set_cons_succ, List.length_cons, List.length_nil, if_true, if_false, ite_true, ite_false, decide_eq_true_eq, Bool.not_eq_true', decide_eq_false_iff_not, Bool.false_eq_true, reduceIte, eq_self, Nat.reduceAdd, Nat.reduceLT, Nat.reduceSub, Nat.zero_add, Bool.not_true, Bool.not_false, and_self, and_true, true_and, List.map_cons, List.map_nil, List.replicate_succ, List.replicate_zero, List.cons_append, List.nil_append, Bool.and_true, Bool.true_and, Bool.and_self, d0, e1, gxW hq, cq, cw, gk, gne, dk, zl_tx, Bool.false_and]
theorem s3 : D.str (PySem.Str.ofString "   ") = tx [32, 32, 32] := cs_0
theorem s2 : D.str (PySem.Str.ofString "  ") = tx [32, 32] := cs_1
theorem gap4 : ∀ {s : Nat}, s < 4 → gIx (.lst true [tx [], tx [32], tx [32, 32], tx [32, 32, 32]]) (.int (s : Int)) = some (tx (List.replicate s 32))
  | 0, _ => rfl
  | 1, _ => rfl
  | 2, _ => rfl
  | 3, _ => rfl
theorem turn_rest {ns : List Int} {c : Int} {k n : Nat} {ws : List (List Nat)} {t w : List Nat} {ps : List D} {nb : Bool} (lt : t.length ≤ 1000) (lw : w.length ≤ 8) (lp : ps.length ≤ 1000) :
    ∃ c' k' s, s ≤ 3 ∧ (nb = true → 1 ≤ s) ∧ lb2 [some (stm ns c k), some (.lst false (ws.map tx)), some (tx t), some (.lst true ps), some (.int (n : Int)), some (tx w), some (.bl nb)] =
      .nx [some (stm ns c' k'), some (.lst false (ws.map tx)), some (tx ((t ++ List.replicate s 32) ++ w)), some (.lst true (ps ++ [.int ((t.length + s + 1 : Nat) : Int)])), some (.int (n : Int)), some (tx w), some (.bl nb)] := by
  obtain ⟨d, c', k', d0, d1, e⟩ := next_ok ns c k (many := 4) (by decide) (by decide)
  obtain ⟨j, rfl⟩ : ∃ j : Nat, d = (j : Int) := ⟨d.toNat, by omega⟩
  have hj : j < 4 := by omega
  have L : (lim : Nat) = 16777216 := rfl
  have call : ∀ x1 x2 x3 x4 x5 x6, callF F_next [.plc 0, .val (.int 4)] [some (stm ns c k), x1, x2, x3, x4, x5, x6] = .ok (.val (.int (j : Int))) [some (stm ns c' k'), x1, x2, x3, x4, x5, x6] := fun x1 x2 x3 x4 x5 x6 => call_pv (i := 0) rfl e
  have key : ∃ s : Nat, s ≤ 3 ∧ (nb = true → 1 ≤ s) ∧ gMax2 [.int (if nb = true then 1 else 0), .int (j : Int)] = some (.int (s : Int)) := by
    cases nb with
    | false =>
      refine ⟨j, by omega, (fun z => by cases z), ?_⟩
      rw [g_max, if_neg Bool.false_ne_true]
      by_cases h : (j : Int) > 0
      · rw [if_pos h]
      · rw [if_neg h, show j = 0 by omega]
        rfl
    | true =>
      by_cases h : (j : Int) > 1
      · exact ⟨j, by omega, fun _ => by omega, by rw [g_max, if_pos rfl, if_pos h]⟩
      · exact ⟨1, by omega, fun _ => by omega, by rw [g_max, if_pos rfl, if_neg h]; rfl⟩
  obtain ⟨s, s3', s1, em⟩ := key
  refine ⟨c', k', s, s3', s1, ?_⟩
  have gl4 : ∀ ds : List D, ds.length = 4 → Gc.gLst ds = some (D.lst true ds) := fun ds h => g_lst (by rw [h]; decide)
  have lr : (List.replicate s 32).length = s := List.length_replicate
  have c1 : gAdd (tx t) (tx (List.replicate s 32)) = some (tx (t ++ List.replicate s 32)) := g_cat (by rw [lr]; omega)
  have l1 : (t ++ List.replicate s 32).length = t.length + s := by rw [List.length_append, lr]
  have c2 : gAdd (tx (t ++ List.replicate s 32)) (tx w) = some (tx ((t ++ List.replicate s 32) ++ w)) := g_cat (by rw [l1]; omega)
  have gL : gLen [tx (t ++ List.replicate s 32)] = some (.int ((t.length + s : Nat) : Int)) := by rw [g_len (by rw [l1]; omega), l1]
  unfold lb2
  have st1 : (mSet 2 (mP2 false gAdd (mName 2) (mP2 false gIx (mFr gLst (mCons true (mC (.str "")) (mCons true (mC (.str " ")) (mCons true (mC (.str "  ")) (mCons true (mC (.str "   ")) mNil))))) (mPL gMax2 (mCons false (mPL gInt (mCons true (mName 6) mNil)) (mCons true (mCall F__law_next (mCons true (mName 0) (mCons true (mC (.int 4)) mNil))) mNil))))))
      [some (stm ns c k), some (.lst false (ws.map tx)), some (tx t), some (.lst true ps), some (.int (n : Int)), some (tx w), some (.bl nb)] = .nx [some (stm ns c' k'), some (.lst false (ws.map tx)), some (tx (t ++ List.replicate s 32)), some (.lst true ps), some (.int (n : Int)), some (tx w), some (.bl nb)] := by
    simp only [nexts, sE, sSP, s2, s3, e_nx, b_ok, b_exc, s_ok, s_exc, e_seq, t_nx, t_ret, t_exc, t_bk, t_ct, e_name, nm_fz, nm_own, o_val, o_plc, o_tru, r_val, r_plc, p_some, pb_some, j_some, j_none, e_set, set_val, f_val, fs_nil, fs_val, frc_some, l_nil, l_cons, lc_some, e_ret, ret_val, e_ifS, w_nx, w_ret, w_exc, lp_nx, e_call, ld_nil, ld_val, ldc_some, bk_nil, bk_val, ro_ret, ro_exc, ro_nx, e_mcons, e_nil, e_C, e_P1, e_P2, e_B2, e_PL, e_and, e_or, e_not, e_bv, e_if, e_tru, tru_some, e_drop, e_fr, fk_some, e_raise, e_try, try_ret, try_nx, try_exc, unb_ret, e_xf, xf_some, e_xis, xi_some, e_part, e_nopart, part_int, e_sl, e_andV, e_orV, e_notV, and_bl, or_bl, not_bl, e_isi, isi_some, td_non, td_bl, td_int, td_tx, td_tup, td_lst, e_chain, ch_t, ch_f, e_put, e_for, e_iter, it_lst, it_tup, it_tx, e_enum, en_lst, e_comp, e_yes, e_meth, ck_lst, zl_nil, zl_cons, z_lstF, z_tup, fzl_nil, fzl_cons, fz_lstE, fz_tupE, cut_nn, cut_0n, cut_n0, cut_00, z_tx, z_int, z_bl, z_non, z_lst, fz_tx, fz_int, fz_bl, fz_non, g_lenL, g_lenT, g_lt, g_le, g_gt, g_ge, g_add, g_sub, g_eqS, g_eqI, g_neS, g_neI, g_in1, g_nin1, Option.bind_some, Option.map_some, List.getElem?_cons_zero, List.getElem?_cons_succ, List.set_cons_zero, List.set_cons_succ, List.length_cons, List.length_nil, if_true, if_false, ite_true, ite_false, decide_eq_true_eq, Bool.not_eq_true', decide_eq_false_iff_not, Bool.false_eq_true, reduceIte, eq_self, Nat.reduceAdd, Nat.reduceLT, Nat.reduceSub, Nat.zero_add, Bool.not_true, Bool.not_false, and_self, and_true, true_and, List.map_cons, List.map_nil, List.replicate_succ, List.replicate_zero, List.cons_append, List.nil_append, Bool.and_true, Bool.true_and, Bool.and_self, gl4, g_intB, nm_own z_stm, call, em, gap4 (show s < 4 by omega), c1]
  rw [seq_nx st1]
  have st2 : (mDrop (mMeth true isLst gApp (mName 3) (mCons true (mP2 true gAdd (mPL gLen (mCons true (mName 2) mNil)) (mC (.int 1))) mNil))) [some (stm ns c' k'), some (.lst false (ws.map tx)), some (tx (t ++ List.replicate s 32)), some (.lst true ps), some (.int (n : Int)), some (tx w), some (.bl nb)] =
      .nx [some (stm ns c' k'), some (.lst false (ws.map tx)), some (tx (t ++ List.replicate s 32)), some (.lst true (ps ++ [.int ((t.length + s + 1 : Nat) : Int)])), some (.int (n : Int)), some (tx w), some (.bl nb)] := by
    simp only [e_nx, b_ok, b_exc, s_ok, s_exc, e_seq, t_nx, t_ret, t_exc, t_bk, t_ct, e_name, nm_fz, nm_own, o_val, o_plc, o_tru, r_val, r_plc, p_some, pb_some, j_some, j_none, e_set, set_val, f_val, fs_nil, fs_val, frc_some, l_nil, l_cons, lc_some, e_ret, ret_val, e_ifS, w_nx, w_ret, w_exc, lp_nx, e_call, ld_nil, ld_val, ldc_some, bk_nil, bk_val, ro_ret, ro_exc, ro_nx, e_mcons, e_nil, e_C, e_P1, e_P2, e_B2, e_PL, e_and, e_or, e_not, e_bv, e_if, e_tru, tru_some, e_drop, e_fr, fk_some, e_raise, e_try, try_ret, try_nx, try_exc, unb_ret, e_xf, xf_some, e_xis, xi_some, e_part, e_nopart, part_int, e_sl, e_andV, e_orV, e_notV, and_bl, or_bl, not_bl, e_isi, isi_some, td_non, td_bl, td_int, td_tx, td_tup, td_lst, e_chain, ch_t, ch_f, e_put, e_for, e_iter, it_lst, it_tup, it_tx, e_enum, en_lst, e_comp, e_yes, e_meth, ck_lst, zl_nil, zl_cons, z_lstF, z_tup, fzl_nil, fzl_cons, fz_lstE, fz_tupE, cut_nn, cut_0n, cut_n0, cut_00, z_tx, z_int, z_bl, z_non, z_lst, fz_tx, fz_int, fz_bl, fz_non, g_lenL, g_lenT, g_lt, g_le, g_gt, g_ge, g_add, g_sub, g_eqS, g_eqI, g_neS, g_neI, g_in1, g_nin1, Option.bind_some, Option.map_some, List.getElem?_cons_zero, List.getElem?_cons_succ, List.set_cons_zero, List.set_cons_succ, List.length_cons, List.length_nil, if_true, if_false, ite_true, ite_false, decide_eq_true_eq, Bool.not_eq_true', decide_eq_false_iff_not, Bool.false_eq_true, reduceIte, eq_self, Nat.reduceAdd, Nat.reduceLT, Nat.reduceSub, Nat.zero_add, Bool.not_true, Bool.not_false, and_self, and_true, true_and, List.map_cons, List.map_nil, List.replicate_succ, List.replicate_zero, List.cons_append, List.nil_append, Bool.and_true, Bool.true_and, Bool.and_self, gL, me_plc (ρ := [some (stm ns c' k'), some (.lst false (ws.map tx)), some (tx (t ++ List.replicate s 32)), some (.lst true ps), some (.int (n : Int)), some (tx w), some (.bl nb)]) (i := 3) (d := .lst true ps) rfl (g_app (by omega))]
    rfl
  rw [seq_nx st2]
  simp only [e_nx, b_ok, b_exc, s_ok, s_exc, e_seq, t_nx, t_ret, t_exc, t_bk, t_ct, e_name, nm_fz, nm_own, o_val, o_plc, o_tru, r_val, r_plc, p_some, pb_some, j_some, j_none, e_set, set_val, f_val, fs_nil, fs_val, frc_some, l_nil, l_cons, lc_some, e_ret, ret_val, e_ifS, w_nx, w_ret, w_exc, lp_nx, e_call, ld_nil, ld_val, ldc_some, bk_nil, bk_val, ro_ret, ro_exc, ro_nx, e_mcons, e_nil, e_C, e_P1, e_P2, e_B2, e_PL, e_and, e_or, e_not, e_bv, e_if, e_tru, tru_some, e_drop, e_fr, fk_some, e_raise, e_try, try_ret, try_nx, try_exc, unb_ret, e_xf, xf_some, e_xis, xi_some, e_part, e_nopart, part_int, e_sl, e_andV, e_orV, e_notV, and_bl, or_bl, not_bl, e_isi, isi_some, td_non, td_bl, td_int, td_tx, td_tup, td_lst, e_chain, ch_t, ch_f, e_put, e_for, e_iter, it_lst, it_tup, it_tx, e_enum, en_lst, e_comp, e_yes, e_meth, ck_lst, zl_nil, zl_cons, z_lstF, z_tup, fzl_nil, fzl_cons, fz_lstE, fz_tupE, cut_nn, cut_0n, cut_n0, cut_00, z_tx, z_int, z_bl, z_non, z_lst, fz_tx, fz_int, fz_bl, fz_non, g_lenL, g_lenT, g_lt, g_le, g_gt, g_ge, g_add, g_sub, g_eqS, g_eqI, g_neS, g_neI, g_in1, g_nin1, Option.bind_some, Option.map_some, List.getElem?_cons_zero, List.getElem?_cons_succ, List.set_cons_zero, List.set_cons_succ, List.length_cons, List.length_nil, if_true, if_false, ite_true, ite_false, decide_eq_true_eq, Bool.not_eq_true', decide_eq_false_iff_not, Bool.false_eq_true, reduceIte, eq_self, Nat.reduceAdd, Nat.reduceLT, Nat.reduceSub, Nat.zero_add, Bool.not_true, Bool.not_false, and_self, and_true, true_and, List.map_cons, List.map_nil, List.replicate_succ, List.replicate_zero, List.cons_append, List.nil_append, Bool.and_true, Bool.true_and, Bool.and_self, c2]
theorem laid_loop (ns : List Int) (ws : List (List Nat)) (hw : ∀ w ∈ ws, w.length ≤ 8) (hn : ws.length ≤ 18) : ∀ (rest done : List (List Nat)) (t : List Nat) (ps : List D) (c : Int) (k : Nat) (x4 x5 x6 : Option D), ws = done ++ rest → t.length ≤ 11 * done.length → ps.length = done.length →
    ∃ (c' : Int) (k' : Nat) (seps : List Nat) (y4 y5 y6 : Option D), seps.length = rest.length ∧ Gd done.getLast? (seps.zip rest) ∧ (t ++ lay (seps.zip rest)).length ≤ 11 * ws.length ∧
      mLoop [0, 1] (.tp [.nm 4, .nm 5]) lbd (enumD done.length (rest.map tx)) [some (stm ns c k), some (.lst false (ws.map tx)), some (tx t), some (.lst true ps), x4, x5, x6] =
      .nx [some (stm ns c' k'), some (.lst false (ws.map tx)), some (tx (t ++ lay (seps.zip rest))), some (.lst true (ps ++ pls t.length (seps.zip rest))), y4, y5, y6]
  | [], done, t, ps, c, k, x4, x5, x6, e, lt, lp => by
    refine ⟨c, k, [], x4, x5, x6, rfl, trivial, ?_, ?_⟩
    · show (t ++ []).length ≤ _
      rw [List.append_nil, e, List.append_nil]
      exact lt
    · show RS.nx _ = RS.nx [_, _, some (tx (t ++ [])), some (.lst true (ps ++ [])), _, _, _]
      rw [List.append_nil, List.append_nil]
  | w :: rest, done, t, ps, c, k, x4, x5, x6, e, lt, lp => by
    have hl : ws.length = done.length + (rest.length + 1) := by rw [e, List.length_append, List.length_cons]
    have hw8 : w.length ≤ 8 := hw w (by rw [e]; simp)
    have L : (lim : Nat) = 16777216 := rfl
    -- the nearness
    have near : ∃ nb : Bool, lb1 [some (stm ns c k), some (.lst false (ws.map tx)), some (tx t), some (.lst true ps), some (.int (done.length : Int)), some (tx w), x6] = .nx [some (stm ns c k), some (.lst false (ws.map tx)), some (tx t), some (.lst true ps), some (.int (done.length : Int)), some (tx w), some (.bl nb)] ∧
        ∀ q, done.getLast? = some q → kc q = kc w → kc w ≠ 1 → nb = true := by
      cases hd : done.length with
      | zero =>
        have : done = [] := List.eq_nil_of_length_eq_zero hd
        subst this
        exact ⟨false, near_0, fun q z => by cases z⟩
      | succ m =>
        have hm : m < done.length := by omega
        have g : ws[m]? = some done[m] := by rw [e, List.getElem?_append_left hm, List.getElem?_eq_getElem hm]
        have gl : done.getLast? = some done[m] := by
          rw [List.getLast?_eq_getElem?, show done.length - 1 = m by omega, List.getElem?_eq_getElem hm]
        have lq : (done[m]).length ≤ 8 := hw _ (List.mem_of_getElem? g)
        refine ⟨_, near_s g (by omega) (by omega), fun q z h1 h2 => ?_⟩
        rw [gl] at z
        have z := Option.some.inj z
        rw [z, decide_eq_true h1, decide_eq_false h2]
        rfl
    obtain ⟨nb, e1, hnb⟩ := near
    obtain ⟨c1, k1, s, s3', s1, e2⟩ := turn_rest (ns := ns) (c := c) (k := k) (n := done.length) (ws := ws) (t := t) (w := w) (ps := ps) (nb := nb) (by omega) hw8 (by omega)
    have lt' : ((t ++ List.replicate s 32) ++ w).length ≤ 11 * (done ++ [w]).length := by
      rw [List.length_append, List.length_append, List.length_replicate, List.length_append]
      simp only [List.length_cons, List.length_nil]
      omega
    obtain ⟨c', k', seps, y4, y5, y6, h1, h2, h3, h4⟩ := laid_loop ns ws hw hn rest (done ++ [w]) ((t ++ List.replicate s 32) ++ w) (ps ++ [.int ((t.length + s + 1 : Nat) : Int)]) c1 k1 (some (.int (done.length : Int))) (some (tx w)) (some (.bl nb)) (by rw [e]; simp) lt' (by rw [List.length_append, List.length_append, lp]; rfl)
    have tt : ((t ++ List.replicate s 32) ++ w) ++ lay (seps.zip rest) = t ++ lay ((s :: seps).zip (w :: rest)) := by
      show _ = t ++ (List.replicate s 32 ++ (w ++ lay (seps.zip rest)))
      simp only [List.append_assoc]
    have l2 : ((t ++ List.replicate s 32) ++ w).length = t.length + s + w.length := by rw [List.length_append, List.length_append, List.length_replicate]
    refine ⟨c', k', s :: seps, y4, y5, y6, by simp [h1], ⟨s3', fun q z z1 z2 => s1 (hnb q z z1 z2), ?_⟩, ?_, ?_⟩
    · rw [List.getLast?_concat] at h2
      exact h2
    · rw [← tt]; exact h3
    · rw [List.map_cons]
      show mLoop [0, 1] (.tp [.nm 4, .nm 5]) lbd (.tup [.int (done.length : Int), tx w] :: enumD (done.length + 1) (rest.map tx)) _ = _
      rw [e_loop (ρ1 := [some (stm ns c k), some (.lst false (ws.map tx)), some (tx t), some (.lst true ps), some (.int (done.length : Int)), some (tx w), x6]) rfl, lbd_eq, seq_nx e1, e2, lp_nx]
      rw [List.length_append] at h4
      rw [← tt]
      show mLoop [0, 1] (.tp [.nm 4, .nm 5]) lbd (enumD (done.length + 1) (rest.map tx)) _ = _
      have h4 : mLoop [0, 1] (.tp [.nm 4, .nm 5]) lbd (enumD (done.length + 1) (rest.map tx)) _ = _ := h4
      rw [h4, List.append_assoc ps, l2]
      rfl
theorem laid_ok (ns : List Int) (c : Int) (k : Nat) (ws : List (List Nat)) (hw : ∀ w ∈ ws, w.length ≤ 8) (hn : ws.length ≤ 18) : ∃ (c' : Int) (k' : Nat) (seps : List Nat) (z : Nat), seps.length = ws.length ∧ Gd none (seps.zip ws) ∧ z ≤ 2 ∧ (lay (seps.zip ws) ++ List.replicate z 32).length ≤ 200 ∧
    F__law_laid [stm ns c k, .lst true (ws.map tx)] = .ret (.tup [tx (lay (seps.zip ws) ++ List.replicate z 32), .lst false (pls 0 (seps.zip ws) ++ [.int (((lay (seps.zip ws) ++ List.replicate z 32).length + 1 : Nat) : Int)])]) [some (stm ns c' k'), some (.lst false (ws.map tx))] := by
  have L : (lim : Nat) = 16777216 := rfl
  obtain ⟨c1, k1, seps, y4, y5, y6, h1, h2, h3, h4⟩ := laid_loop ns ws hw hn ws [] [] [] c k none none none rfl (Nat.zero_le _) rfl
  obtain ⟨d, c', k', d0, d1, e⟩ := next_ok ns c1 k1 (many := 3) (by decide) (by decide)
  obtain ⟨z, rfl⟩ : ∃ j : Nat, d = (j : Int) := ⟨d.toNat, by omega⟩
  have hz : z < 3 := by omega
  have call : ∀ x1 x2 x3 x4 x5 x6, callF F_next [.plc 0, .val (.int 3)] [some (stm ns c1 k1), x1, x2, x3, x4, x5, x6] = .ok (.val (.int (z : Int))) [some (stm ns c' k'), x1, x2, x3, x4, x5, x6] := fun x1 x2 x3 x4 x5 x6 => call_pv (i := 0) rfl e
  rw [List.nil_append] at h3
  have lr : (List.replicate z 32).length = z := List.length_replicate
  have lT : (lay (seps.zip ws) ++ List.replicate z 32).length = (lay (seps.zip ws)).length + z := by rw [List.length_append, lr]
  refine ⟨c', k', seps, z, h1, h2, by omega, by rw [lT]; omega, ?_⟩
  have gap3 : ∀ {s : Nat}, s < 3 → gIx (.lst true [tx [], tx [32], tx [32, 32]]) (.int (s : Int)) = some (tx (List.replicate s 32)) := fun {s} h => match s, h with
    | 0, _ => rfl
    | 1, _ => rfl
    | 2, _ => rfl
  have gl0 : Gc.gLst [] = some (D.lst true []) := g_lst (Nat.zero_le _)
  have gl1 : ∀ x, Gc.gLst [x] = some (D.lst true [x]) := fun x => g_lst (by show 1 ≤ lim; omega)
  have gl3 : ∀ x y z, Gc.gLst [x, y, z] = some (D.lst true [x, y, z]) := fun x y z => g_lst (by show 3 ≤ lim; omega)
  have gt : ∀ ds : List D, ds.length = 2 → Gc.gTup ds = some (D.tup ds) := fun ds h => g_tup (by rw [h]; decide)
  have cat : gAdd (tx (lay (seps.zip ws))) (tx (List.replicate z 32)) = some (tx (lay (seps.zip ws) ++ List.replicate z 32)) := g_cat (by rw [lr]; omega)
  have gL : gLen [tx (lay (seps.zip ws) ++ List.replicate z 32)] = some (.int ((lay (seps.zip ws) ++ List.replicate z 32).length : Nat)) := g_len (by rw [lT]; omega)
  have plz : ∀ (n : Nat) (r : List (Nat × List Nat)), isFzL (pls n r) = true ∧ (pls n r).length = r.length := fun n r => by
    induction r generalizing n with
    | nil => exact ⟨rfl, rfl⟩
    | cons x r ih =>
      obtain ⟨s, w⟩ := x
      exact ⟨(ih _).1, congrArg (· + 1) (ih _).2⟩
  obtain ⟨pz, pl⟩ := plz 0 (seps.zip ws)
  have zl : (seps.zip ws).length ≤ 18 := by rw [List.length_zip]; omega
  have catL : ∀ x : Int, gAdd (.lst true (pls 0 (seps.zip ws))) (.lst true [.int x]) = some (.lst true (pls 0 (seps.zip ws) ++ [.int x])) := fun x => g_catL pz rfl (by rw [pl]; simp only [List.length_cons, List.length_nil]; omega)
  have fzA : ∀ x : Int, fzL (pls 0 (seps.zip ws) ++ [.int x]) = pls 0 (seps.zip ws) ++ [.int x] := fun x => fzL_of _ (by rw [isFzL_app, pz]; rfl)
  unfold F__law_laid
  rw [show m__law_laid = (mSeq (mSet 2 (mC (.str ""))) (mSeq (mSet 3 (mFr gLst mNil)) (mSeq (mFor [0, 1] (.tp [(.nm 4), (.nm 5)]) (mEnum (mCons true (mName 1) mNil)) lbd) (mSeq (mSet 2 (mP2 false gAdd (mName 2) (mP2 false gIx (mFr gLst (mCons true (mC (.str "")) (mCons true (mC (.str " ")) (mCons true (mC (.str "  ")) mNil)))) (mCall F__law_next (mCons true (mName 0) (mCons true (mC (.int 3)) mNil)))))) (mRet [0, 1] (mFr gTup (mCons true (mName 2) (mCons true (mP2 true gAdd (mName 3) (mFr gLst (mCons true (mP2 true gAdd (mPL gLen (mCons true (mName 2) mNil)) (mC (.int 1))) mNil))) mNil)))))))) from rfl, e_run (by rfl)]
  have h4 : mLoop [0, 1] (.tp [.nm 4, .nm 5]) lbd (enumD 0 (ws.map tx)) [some (stm ns c k), some (.lst false (ws.map tx)), some (tx []), some (.lst true []), none, none, none] = .nx [some (stm ns c1 k1), some (.lst false (ws.map tx)), some (tx (lay (seps.zip ws))), some (.lst true (pls 0 (seps.zip ws))), y4, y5, y6] := h4
  have fw : fzL (ws.map tx) = ws.map tx := fzL_of _ (zl_tx ws)
  have fen : frOs [.plc 1] [some (stm ns c k), some (.lst true (ws.map tx)), some (tx []), some (.lst true []), none, none, none] = some ([.lst false (ws.map tx)], [some (stm ns c k), some (.lst false (ws.map tx)), some (tx []), some (.lst true []), none, none, none]) := by
    rw [fs_plc (d := .lst true (ws.map tx)) rfl, fz_lst (zl_tx ws)]
    rfl
  simp only [nexts, sE, sSP, s2, e_nx, b_ok, b_exc, s_ok, s_exc, e_seq, t_nx, t_ret, t_exc, t_bk, t_ct, e_name, nm_fz, nm_own, o_val, o_plc, o_tru, r_val, r_plc, p_some, pb_some, j_some, j_none, e_set, set_val, f_val, fs_nil, fs_val, frc_some, l_nil, l_cons, lc_some, e_ret, ret_val, e_ifS, w_nx, w_ret, w_exc, lp_nx, e_call, ld_nil, ld_val, ldc_some, bk_nil, bk_val, ro_ret, ro_exc, ro_nx, e_mcons, e_nil, e_C, e_P1, e_P2, e_B2, e_PL, e_and, e_or, e_not, e_bv, e_if, e_tru, tru_some, e_drop, e_fr, fk_some, e_raise, e_try, try_ret, try_nx, try_exc, unb_ret, e_xf, xf_some, e_xis, xi_some, e_part, e_nopart, part_int, e_sl, e_andV, e_orV, e_notV, and_bl, or_bl, not_bl, e_isi, isi_some, td_non, td_bl, td_int, td_tx, td_tup, td_lst, e_chain, ch_t, ch_f, e_put, e_for, e_iter, it_lst, it_tup, it_tx, e_enum, en_lst, e_comp, e_yes, e_meth, ck_lst, zl_nil, zl_cons, z_lstF, z_tup, fzl_nil, fzl_cons, fz_lstE, fz_tupE, cut_nn, cut_0n, cut_n0, cut_00, z_tx, z_int, z_bl, z_non, z_lst, fz_tx, fz_int, fz_bl, fz_non, g_lenL, g_lenT, g_lt, g_le, g_gt, g_ge, g_add, g_sub, g_eqS, g_eqI, g_neS, g_neI, g_in1, g_nin1, Option.bind_some, Option.map_some, List.getElem?_cons_zero, List.getElem?_cons_succ, List.set_cons_zero, List.set_cons_succ, List.length_cons, List.length_nil, if_true, if_false, ite_true, ite_false, decide_eq_true_eq, Bool.not_eq_true', decide_eq_false_iff_not, Bool.false_eq_true, reduceIte, eq_self, Nat.reduceAdd, Nat.reduceLT, Nat.reduceSub, Nat.zero_add, Bool.not_true, Bool.not_false, and_self, and_true, true_and, List.map_cons, List.map_nil, List.replicate_succ, List.replicate_zero, List.cons_append, List.nil_append, Bool.and_true, Bool.true_and, Bool.and_self, gl0, gl1, gl3, fen, h4, nm_own z_stm, call, gap3 hz, cat, gL, catL, fzA, gt]
  rfl
/-! ### the scan of a laid text -/
def toks (n : Nat) : List (Nat × List Nat) → List D
  | [] => []
  | (s, w) :: r => .tup [kn (kc w), tx w, .int ((n + s + 1 : Nat) : Int)] :: toks (n + s + w.length) r
def cls (k : Fin 4) : List Nat := if k = 3 then AL else if k = 2 then DG else []
def V (w : List Nat) : Prop := (kc w = 3 ∧ w.length ≤ 4 ∧ ∀ c ∈ w, c ∈ AL) ∨ (kc w = 2 ∧ w.length ≤ 6 ∧ ∀ c ∈ w, c ∈ DG) ∨ (kc w = 1 ∧ w.length = 1)
instance (w : List Nat) : Decidable (V w) := by unfold V; infer_instance
/-- what comes behind does not go on with w -/
def Sep (w rest : List Nat) : Prop := ∀ c, rest.head? = some c → c ∉ cls (kc w)
theorem take_all {p : Nat → Bool} : ∀ {w rest : List Nat}, (∀ c ∈ w, p c = true) → (∀ c, rest.head? = some c → p c = false) → (w ++ rest).takeWhile p = w
  | [], [], _, _ => rfl
  | [], c :: r, _, h => by rw [List.nil_append, List.takeWhile_cons, h c rfl]; rfl
  | c :: w, rest, h1, h2 => by
    rw [List.cons_append, List.takeWhile_cons, h1 c List.mem_cons_self, if_pos rfl, take_all (fun x hx => h1 x (List.mem_cons_of_mem _ hx)) h2]
theorem kc_cons {c : Nat} {r : List Nat} : kc (c :: r) = if c ∉ ALL then 0 else if c ∈ SG then 1 else if c ∈ DG then 2 else 3 := rfl
theorem sub_all : (∀ c ∈ AL, c ∈ ALL) ∧ (∀ c ∈ DG, c ∈ ALL) ∧ (∀ c ∈ SG, c ∈ ALL) ∧ (∀ c ∈ AL, c ∉ DG) ∧ (∀ c ∈ SG, c ∉ AL) ∧ (∀ c ∈ SG, c ∉ DG) ∧ (∀ c ∈ AL, c ∉ SG) ∧ (∀ c ∈ DG, c ∉ SG) ∧ (∀ c ∈ DG, c ∉ AL) ∧ 32 ∉ AL ∧ 32 ∉ DG ∧ 32 ∉ ALL ∧ ∀ c ∈ ALL, c ∈ SG ∨ c ∈ DG ∨ c ∈ AL := by decide
theorem kc3 {c : Nat} {r : List Nat} (h : kc (c :: r) = 3) : c ∈ AL := by
  rw [kc_cons] at h
  split at h
  · cases h
  · rename_i h1
    split at h
    · cases h
    · rename_i h2
      split at h
      · cases h
      · rename_i h3
        rcases sub_all.2.2.2.2.2.2.2.2.2.2.2.2 c (Classical.not_not.mp h1) with z | z | z
        · exact absurd z h2
        · exact absurd z h3
        · exact z
theorem kc2 {c : Nat} {r : List Nat} (h : kc (c :: r) = 2) : c ∈ DG := by
  rw [kc_cons] at h
  split at h
  · cases h
  · split at h
    · cases h
    · split at h
      · assumption
      · cases h
theorem kc1 {c : Nat} {r : List Nat} (h : kc (c :: r) = 1) : c ∈ SG := by
  rw [kc_cons] at h
  split at h
  · cases h
  · split at h
    · assumption
    · split at h <;> cases h
theorem kc0 {c : Nat} {r : List Nat} (h : kc (c :: r) = 0) : c ∉ ALL := by
  rw [kc_cons] at h
  split at h
  · assumption
  · split at h
    · cases h
    · split at h <;> cases h
theorem kc_of3 {c : Nat} {r : List Nat} (h : c ∈ AL) : kc (c :: r) = 3 := by
  obtain ⟨a1, _, _, a4, _, _, a7, _⟩ := sub_all
  rw [kc_cons, if_neg (by simpa using a1 c h), if_neg (a7 c h), if_neg (a4 c h)]
theorem kc_of2 {c : Nat} {r : List Nat} (h : c ∈ DG) : kc (c :: r) = 2 := by
  obtain ⟨_, a2, _, _, _, _, _, a8, _⟩ := sub_all
  rw [kc_cons, if_neg (by simpa using a2 c h), if_neg (a8 c h), if_pos h]
/-- the next word does not go on with this one -/
theorem sep_word {w v rest : List Nat} (hv : v ≠ []) (h : kc w ≠ kc v ∨ kc v = 1) : Sep w (v ++ rest) := by
  obtain ⟨_, _, _, _, a5, a6, _⟩ := sub_all
  cases v with
  | nil => exact absurd rfl hv
  | cons c r =>
    intro c' hc
    rw [List.cons_append, List.head?_cons] at hc
    cases hc
    unfold cls
    split
    · rename_i h3
      intro z
      have z3 := kc_of3 (r := r) z
      rcases h with h | h
      · exact h (h3.trans z3.symm)
      · rw [z3] at h; cases h
    · split
      · rename_i h2
        intro z
        have z2 := kc_of2 (r := r) z
        rcases h with h | h
        · exact h (h2.trans z2.symm)
        · rw [z2] at h; cases h
      · exact List.not_mem_nil
theorem sep_sp {w rest : List Nat} {s : Nat} (hs : 1 ≤ s) : Sep w (List.replicate s 32 ++ rest) := by
  obtain ⟨s, rfl⟩ : ∃ t, s = t + 1 := ⟨s - 1, by omega⟩
  intro c hc
  rw [List.replicate_succ, List.cons_append, List.head?_cons] at hc
  cases hc
  unfold cls
  split
  · exact sub_all.2.2.2.2.2.2.2.2.2.1
  · split
    · exact sub_all.2.2.2.2.2.2.2.2.2.2.1
    · exact List.not_mem_nil
theorem tok_of {l pre w rest : List Nat} (e : l = pre ++ (w ++ rest)) (hv : V w) (hs : Sep w rest) : ∃ c, l[pre.length]? = some c ∧ c ≠ 32 ∧ tokR l pre.length c = .ret (.tup [kn (kc w), tx w, .int ((pre.length : Int) + 1)]) [some (tx l), some (.int (pre.length : Int))] := by
  obtain ⟨a1, a2, a3, a4, a5, a6, a7, a8, a9, a10, a11, a12, _⟩ := sub_all
  have dr : l.drop pre.length = w ++ rest := by rw [e, List.drop_left]
  cases w with
  | nil =>
    rcases hv with ⟨h, _⟩ | ⟨h, _⟩ | ⟨h, _⟩ <;> cases h
  | cons c r =>
    have hc : l[pre.length]? = some c := by rw [e, List.getElem?_append_right (Nat.le_refl _), Nat.sub_self]; rfl
    refine ⟨c, hc, ?_, ?_⟩
    · intro z
      subst z
      rcases hv with ⟨h, _⟩ | ⟨h, _⟩ | ⟨h, _⟩
      · exact a10 (kc3 h)
      · exact a11 (kc2 h)
      · exact a12 (a3 _ (kc1 h))
    · rcases hv with ⟨h, h4, hA⟩ | ⟨h, h6, hD⟩ | ⟨h, h1⟩
      · have rn : run l AL pre.length = c :: r := by
          unfold run
          rw [dr]
          refine take_all (fun x hx => decide_eq_true (hA x hx)) fun x hx => decide_eq_false ?_
          have := hs x hx
          unfold cls at this
          rw [if_pos h] at this
          exact this
        unfold tokR
        rw [if_pos (kc3 h), rn, if_neg (by omega), h]
        rfl
      · have rn : run l DG pre.length = c :: r := by
          unfold run
          rw [dr]
          refine take_all (fun x hx => decide_eq_true (hD x hx)) fun x hx => decide_eq_false ?_
          have := hs x hx
          unfold cls at this
          rw [if_neg (by rw [h]; decide), if_pos h] at this
          exact this
        unfold tokR
        rw [if_neg (a9 _ (kc2 h)), if_pos (kc2 h), rn, if_neg (by omega), h]
        rfl
      · have hr : r = [] := List.eq_nil_of_length_eq_zero (by simpa using h1)
        subst hr
        unfold tokR
        rw [if_neg (a5 _ (kc1 h)), if_neg (a6 _ (kc1 h)), if_pos (kc1 h), h]
        rfl
theorem w_sps {l : List Nat} {ts : List D} (hl : l.length ≤ lim) : ∀ (s : Nat) (n : Nat) (pre rest : List Nat), l = pre ++ (List.replicate s 32 ++ rest) → W (n + s) l ts pre.length = W n l ts (pre.length + s)
  | 0, n, pre, rest, e => rfl
  | s + 1, n, pre, rest, e => by
    have h : l[pre.length]? = some 32 := by rw [e, List.getElem?_append_right (Nat.le_refl _), Nat.sub_self]; rfl
    rw [show n + (s + 1) = (n + s) + 1 by omega, w_sp hl h]
    have e2 : l = (pre ++ [32]) ++ (List.replicate s 32 ++ rest) := by rw [e, List.replicate_succ]; simp
    have := w_sps (ts := ts) hl s n (pre ++ [32]) rest e2
    rw [List.length_append] at this
    rw [show pre.length + (s + 1) = pre.length + 1 + s by omega]
    exact this
def turns : List (Nat × List Nat) → Nat
  | [] => 0
  | (s, _) :: r => (s + 1) + turns r
/-- each word apart from what comes behind -/
def Apart (tail : List Nat) : List (Nat × List Nat) → Prop
  | [] => True
  | (_, w) :: r => Sep w (lay r ++ tail) ∧ Apart tail r
theorem w_lay {l : List Nat} (hl : l.length ≤ 200) (tail : List Nat) : ∀ (r : List (Nat × List Nat)) (pre : List Nat) (ts : List D) (n : Nat), l = pre ++ (lay r ++ tail) → (∀ x ∈ r, V x.2) → Apart tail r → ts.length + r.length ≤ 1000 →
    W (n + turns r) l ts pre.length = W n l (ts ++ toks pre.length r) (pre.length + (lay r).length)
  | [], pre, ts, n, e, hv, ha, ht => by
    show W n l ts pre.length = W n l (ts ++ []) (pre.length + 0)
    rw [List.append_nil]
    rfl
  | (s, w) :: r, pre, ts, n, e, hv, ha, ht => by
    obtain ⟨h1, h2⟩ := ha
    have hw := hv (s, w) List.mem_cons_self
    have L : (lim : Nat) = 16777216 := rfl
    have e1 : l = pre ++ (List.replicate s 32 ++ (w ++ (lay r ++ tail))) := by
      rw [e]
      show pre ++ ((List.replicate s 32 ++ (w ++ lay r)) ++ tail) = _
      simp only [List.append_assoc]
    have e2 : l = (pre ++ List.replicate s 32) ++ (w ++ (lay r ++ tail)) := by rw [e1]; simp only [List.append_assoc]
    have e3 : l = (pre ++ List.replicate s 32 ++ w) ++ (lay r ++ tail) := by rw [e1]; simp only [List.append_assoc]
    obtain ⟨c, g1, g2, g3⟩ := tok_of e2 hw h1
    have lp : (pre ++ List.replicate s 32).length = pre.length + s := by rw [List.length_append, List.length_replicate]
    have lw : w.length ≤ 200 := by
      have := congrArg List.length e2
      simp only [List.length_append] at this
      omega
    rw [List.length_cons] at ht
    rw [show n + turns ((s, w) :: r) = ((n + turns r) + 1) + s by show n + ((s + 1) + turns r) = _; omega, w_sps (by omega) s _ pre _ e1]
    rw [lp] at g1 g3
    rw [w_tok (by omega) (by omega) g1 g2 (z_kn _) (by omega) (by omega) g3]
    have ih := w_lay hl tail r (pre ++ List.replicate s 32 ++ w) (ts ++ [.tup [kn (kc w), tx w, .int (((pre.length + s : Nat) : Int) + 1)]]) n e3 (fun x hx => hv x (List.mem_cons_of_mem _ hx)) h2 (by rw [List.length_append]; simp only [List.length_cons, List.length_nil]; omega)
    have lp3 : (pre ++ List.replicate s 32 ++ w).length = pre.length + s + w.length := by rw [List.length_append, lp]
    rw [lp3] at ih
    rw [ih]
    have t1 : (ts ++ [.tup [kn (kc w), tx w, .int (((pre.length + s : Nat) : Int) + 1)]]) ++ toks (pre.length + s + w.length) r = ts ++ toks pre.length ((s, w) :: r) := by
      rw [List.append_assoc]
      rfl
    have t2 : pre.length + s + w.length + (lay r).length = pre.length + (lay ((s, w) :: r)).length := by
      show _ = pre.length + (List.replicate s 32 ++ (w ++ lay r)).length
      rw [List.length_append, List.length_append, List.length_replicate]
      omega
    rw [t1, t2]
theorem lay_app : ∀ a b : List (Nat × List Nat), lay (a ++ b) = lay a ++ lay b
  | [], _ => rfl
  | (s, w) :: a, b => by
    show List.replicate s 32 ++ (w ++ lay (a ++ b)) = (List.replicate s 32 ++ (w ++ lay a)) ++ lay b
    rw [lay_app a b]
    simp only [List.append_assoc]
theorem sep_next {w T : List Nat} {r : List (Nat × List Nat)} (g : Gd (some w) r) (hn : ∀ x ∈ r, x.2 ≠ []) (hT : ∀ w, Sep w T) : Sep w (lay r ++ T) := by
  cases r with
  | nil => exact hT w
  | cons x r =>
    obtain ⟨s, v⟩ := x
    obtain ⟨_, g2, _⟩ := g
    have hv : v ≠ [] := hn (s, v) List.mem_cons_self
    have e : lay ((s, v) :: r) ++ T = List.replicate s 32 ++ (v ++ (lay r ++ T)) := by
      show (List.replicate s 32 ++ (v ++ lay r)) ++ T = _
      simp only [List.append_assoc]
    rw [e]
    by_cases hs : 1 ≤ s
    · exact sep_sp hs
    · have : s = 0 := by omega
      subst this
      show Sep w (v ++ (lay r ++ T))
      refine sep_word hv ?_
      by_cases h1 : kc v = 1
      · exact .inr h1
      · exact .inl fun h => hs (g2 w rfl h h1)
theorem apart_gd {T : List Nat} (hT : ∀ w, Sep w T) : ∀ (r1 : List (Nat × List Nat)) (p : Option (List Nat)) (r2 : List (Nat × List Nat)), Gd p (r1 ++ r2) → (∀ x ∈ r1 ++ r2, x.2 ≠ []) → Apart (lay r2 ++ T) r1
  | [], _, _, _, _ => trivial
  | (s, w) :: r1, p, r2, g, hn => by
    obtain ⟨_, _, g3⟩ := g
    have hn' : ∀ x ∈ r1 ++ r2, x.2 ≠ [] := fun x hx => hn x (List.mem_cons_of_mem _ hx)
    refine ⟨?_, apart_gd hT r1 (some w) r2 g3 hn'⟩
    have this : Sep w (lay (r1 ++ r2) ++ T) := sep_next (T := T) g3 hn' hT
    rw [lay_app, List.append_assoc] at this
    exact this
theorem sep_tail (z : Nat) : ∀ w, Sep w (List.replicate z 32) := fun w => by
  cases z with
  | zero => intro c h; cases h
  | succ z =>
    have := sep_sp (w := w) (rest := []) (s := z + 1) (by omega)
    rw [List.append_nil] at this
    exact this
theorem turns_le : ∀ r : List (Nat × List Nat), (∀ x ∈ r, x.2 ≠ []) → turns r ≤ (lay r).length
  | [], _ => Nat.le_refl _
  | (s, w) :: r, h => by
    have ih := turns_le r fun x hx => h x (List.mem_cons_of_mem _ hx)
    have hw : 0 < w.length := List.length_pos_iff.mpr (h (s, w) List.mem_cons_self)
    show (s + 1) + turns r ≤ (List.replicate s 32 ++ (w ++ lay r)).length
    rw [List.length_append, List.length_append, List.length_replicate]
    omega
theorem v_ne {w : List Nat} (h : V w) : w ≠ [] := fun z => by
  subst z
  rcases h with ⟨h, _⟩ | ⟨h, _⟩ | ⟨h, _⟩ <;> cases h
theorem r_len : ∀ r : List (Nat × List Nat), (∀ x ∈ r, x.2 ≠ []) → r.length ≤ (lay r).length
  | [], _ => Nat.le_refl _
  | (s, w) :: r, h => by
    have ih := r_len r fun x hx => h x (List.mem_cons_of_mem _ hx)
    have hw : 0 < w.length := List.length_pos_iff.mpr (h (s, w) List.mem_cons_self)
    show r.length + 1 ≤ (List.replicate s 32 ++ (w ++ lay r)).length
    rw [List.length_append, List.length_append, List.length_replicate]
    omega
theorem toks_len : ∀ (r : List (Nat × List Nat)) (n : Nat), (toks n r).length = r.length
  | [], _ => rfl
  | (s, w) :: r, n => congrArg (· + 1) (toks_len r _)
/-- a text of good words -/
theorem scan_good {r : List (Nat × List Nat)} {z : Nat} (hl : (lay r ++ List.replicate z 32).length ≤ 200) (h10 : 10 ∉ lay r ++ List.replicate z 32) (g : Gd none r) (hv : ∀ x ∈ r, V x.2) :
    F_scan [tx (lay r ++ List.replicate z 32)] = .ret (.lst true (toks 0 r ++ [tE (lay r ++ List.replicate z 32)])) [some (tx (lay r ++ List.replicate z 32))] := by
  have L : (lim : Nat) = 16777216 := rfl
  have hn : ∀ x ∈ r, x.2 ≠ [] := fun x hx => v_ne (hv x hx)
  have ap : Apart (List.replicate z 32) r := apart_gd (T := List.replicate z 32) (sep_tail z) r none [] (by rw [List.append_nil]; exact g) (by rw [List.append_nil]; exact hn)
  have t1 := turns_le r hn
  have t2 := r_len r hn
  have ll : (lay r ++ List.replicate z 32).length = (lay r).length + z := by rw [List.length_append, List.length_replicate]
  have w1 := w_lay hl (List.replicate z 32) r [] [] ((4000 - turns r - z) + z) rfl hv ap (by simp only [List.length_nil]; omega)
  have w2 := w_sps (l := lay r ++ List.replicate z 32) (ts := [] ++ toks 0 r) (by omega) z (4000 - turns r - z) (lay r) [] (by rw [List.append_nil])
  simp only [List.length_nil, Nat.zero_add, List.nil_append] at w1 w2
  rw [show 4000 - turns r - z + z + turns r = 4000 by omega] at w1
  refine scan_ok (a := (lay r).length + z) hl h10 (by rw [toks_len]; omega) ?_
  rw [w1, w2]
  obtain ⟨m, hm⟩ : ∃ m, 4000 - turns r - z = m + 1 := ⟨4000 - turns r - z - 1, by omega⟩
  rw [hm]
  unfold W
  rw [e_while, cnd_f (by omega) (by omega), s_ok, if_neg Bool.false_ne_true]
/-- a word that is none, and what is told of it -/
def Bd (b : List Nat) (m : D) : Prop := (m = mT ∧ kc b = 0 ∧ b.head? ≠ some 32) ∨ (m = mW ∧ 5 ≤ b.length ∧ ∀ c ∈ b, c ∈ AL) ∨ (m = mN ∧ 7 ≤ b.length ∧ ∀ c ∈ b, c ∈ DG)
theorem run_ge {l pre b rest cs : List Nat} (e : l = pre ++ (b ++ rest)) (h : ∀ c ∈ b, c ∈ cs) : b.length ≤ (run l cs pre.length).length := by
  unfold run
  rw [e, List.drop_left, List.takeWhile_append_of_pos (fun c hc => decide_eq_true (h c hc)), List.length_append]
  omega
theorem bad_of {l pre b rest : List Nat} {m : D} (e : l = pre ++ (b ++ rest)) (hb : b ≠ []) (h : Bd b m) : ∃ c, l[pre.length]? = some c ∧ c ≠ 32 ∧ tokR l pre.length c = .exc ⟨"TextError", ["words", "column"], [m, .int ((pre.length : Int) + 1)]⟩ [some (tx l), some (.int (pre.length : Int))] := by
  obtain ⟨a1, a2, a3, a4, a5, a6, a7, a8, a9, a10, a11, a12, _⟩ := sub_all
  cases b with
  | nil => exact absurd rfl hb
  | cons c r =>
    have hc : l[pre.length]? = some c := by rw [e, List.getElem?_append_right (Nat.le_refl _), Nat.sub_self]; rfl
    rcases h with ⟨rfl, h0, h32⟩ | ⟨rfl, h5, hA⟩ | ⟨rfl, h7, hD⟩
    · have n := kc0 h0
      refine ⟨c, hc, fun z => h32 (by rw [z]; rfl), ?_⟩
      unfold tokR
      rw [if_neg fun z => n (a1 c z), if_neg fun z => n (a2 c z), if_neg fun z => n (a3 c z)]
    · have hcA := hA c List.mem_cons_self
      have g := run_ge e hA
      refine ⟨c, hc, fun z => a10 (z ▸ hcA), ?_⟩
      unfold tokR
      rw [if_pos hcA, if_pos (by omega)]
    · have hcD := hD c List.mem_cons_self
      have g := run_ge e hD
      refine ⟨c, hc, fun z => a11 (z ▸ hcD), ?_⟩
      unfold tokR
      rw [if_neg (a9 c hcD), if_pos hcD, if_pos (by omega)]
theorem scan_wrong {r1 r2 : List (Nat × List Nat)} {s z : Nat} {b : List Nat} {m : D} {l : List Nat} (el : l = lay (r1 ++ (s, b) :: r2) ++ List.replicate z 32) (hl : l.length ≤ 200) (h10 : 10 ∉ l) (g : Gd none (r1 ++ (s, b) :: r2)) (hv : ∀ x ∈ r1, V x.2) (hb : Bd b m)
    (hne : ∀ x ∈ r1 ++ (s, b) :: r2, x.2 ≠ []) (hm : isFz m = true) : F__law_told [tx l] = .ret (.tup [.int (((lay r1).length + s + 1 : Nat) : Int), m]) [some (tx l)] := by
  have L : (lim : Nat) = 16777216 := rfl
  have hn : ∀ x ∈ r1, x.2 ≠ [] := fun x hx => v_ne (hv x hx)
  have ap := apart_gd (T := List.replicate z 32) (sep_tail z) r1 none ((s, b) :: r2) g hne
  have t1 := turns_le r1 hn
  have t2 := r_len r1 hn
  have e0 : l = lay r1 ++ (lay ((s, b) :: r2) ++ List.replicate z 32) := by rw [el, lay_app, List.append_assoc]
  have e1 : l = lay r1 ++ (List.replicate s 32 ++ (b ++ (lay r2 ++ List.replicate z 32))) := by
    rw [e0]
    show lay r1 ++ ((List.replicate s 32 ++ (b ++ lay r2)) ++ List.replicate z 32) = _
    simp only [List.append_assoc]
  have e2 : l = (lay r1 ++ List.replicate s 32) ++ (b ++ (lay r2 ++ List.replicate z 32)) := by rw [e1]; simp only [List.append_assoc]
  have hbn : b ≠ [] := hne (s, b) (by simp)
  obtain ⟨c, g1, g2, g3⟩ := bad_of e2 hbn hb
  have lp : (lay r1 ++ List.replicate s 32).length = (lay r1).length + s := by rw [List.length_append, List.length_replicate]
  have ll : (lay r1).length + s ≤ 200 := by
    have := congrArg List.length e2
    rw [List.length_append, lp] at this
    omega
  rw [lp] at g1 g3
  have w1 := w_lay hl _ r1 [] [] ((4000 - turns r1 - s) + s) e0 hv ap (by simp only [List.length_nil]; omega)
  have w2 := w_sps (l := l) (ts := [] ++ toks 0 r1) (by omega) s (4000 - turns r1 - s) (lay r1) _ e1
  simp only [List.length_nil, Nat.zero_add, List.nil_append] at w1 w2
  rw [show 4000 - turns r1 - s + s + turns r1 = 4000 by omega] at w1
  obtain ⟨k, hk⟩ : ∃ k, 4000 - turns r1 - s = k + 1 := ⟨4000 - turns r1 - s - 1, by omega⟩
  rw [hk] at w2
  have w3 : W (k + 1) l (toks 0 r1) ((lay r1).length + s) = _ := w_exc (by omega) (by omega) g1 g2 g3 rfl
  rw [hk, w2, w3] at w1
  exact told_exc (scan_exc hl h10 w1) hm
end K85

namespace K85
open PySem PySem.Spec PyProof.Rows L2 Gc
def GOOD : List (List Nat) := [[58], [124], [48], [55], [57, 57, 57, 57, 57, 57], [48, 48, 48, 48, 48, 49], [97], [122, 122, 122, 122], [97, 98, 99, 100], [113], [120, 121], [101, 102, 103, 104], [105, 106, 107, 108], [109, 110, 111, 112], [114, 115, 116, 117], [118, 119], [51, 52, 53, 54, 56]]
theorem good_ok : ∀ w ∈ GOOD, V w ∧ w.length ≤ 8 ∧ 10 ∉ w := by decide
def rwA : M Op := (mFr gLst (mCons true (mC (.str ":")) (mCons true (mC (.str "|")) (mCons true (mC (.str "0")) (mCons true (mC (.str "7")) (mCons true (mC (.str "999999")) (mCons true (mC (.str "000001")) (mCons true (mC (.str "a")) (mCons true (mC (.str "zzzz")) (mCons true (mC (.str "abcd")) (mCons true (mC (.str "q")) (mCons true (mC (.str "xy")) (mCons true (mC (.str "efgh")) (mCons true (mC (.str "ijkl")) (mCons true (mC (.str "mnop")) (mCons true (mC (.str "rstu")) (mCons true (mC (.str "vw")) (mCons true (mC (.str "34568")) mNil))))))))))))))))))
theorem rwA_ok {ρ : Ro} : rwA ρ = .ok (.val (.lst true (GOOD.map tx))) ρ := by
  have gl : ∀ ds : List D, ds.length = 17 → Gc.gLst ds = some (D.lst true ds) := fun ds h => g_lst (by rw [h]; decide)
  unfold rwA
  simp only [cs_0, cs_1, cs_2, cs_3, cs_4, cs_5, cs_6, cs_7, cs_8, cs_9, cs_10, cs_11, cs_12, cs_13, cs_14, cs_15, cs_16, cs_17, cs_18, cs_19, cs_20, cs_21, cs_22, cs_23, cs_24, cs_25, cs_26, cs_27, cs_28, cs_29, cs_30, cs_31, cs_32, cs_33, cs_34, cs_35, cs_36, cs_37, cs_38, cs_39, cs_40, cs_41, cs_42, cs_43, cs_44, cs_45, cs_46, cs_47, cs_48, cs_49, cs_50, e_nx, b_ok, b_exc, s_ok, s_exc, e_seq, t_nx, t_ret, t_exc, t_bk, t_ct, e_name, nm_fz, nm_own, o_val, o_plc, o_tru, r_val, r_plc, p_some, pb_some, j_some, j_none, e_set, set_val, f_val, fs_nil, fs_val, frc_some, l_nil, l_cons, lc_some, e_ret, ret_val, e_ifS, w_nx, w_ret, w_exc, lp_nx, e_call, ld_nil, ld_val, ldc_some, bk_nil, bk_val, ro_ret, ro_exc, ro_nx, e_mcons, e_nil, e_C, e_P1, e_P2, e_B2, e_PL, e_and, e_or, e_not, e_bv, e_if, e_tru, tru_some, e_drop, e_fr, fk_some, e_raise, e_try, try_ret, try_nx, try_exc, unb_ret, e_xf, xf_some, e_xis, xi_some, e_part, e_nopart, part_int, e_sl, e_andV, e_orV, e_notV, and_bl, or_bl, not_bl, e_isi, isi_some, td_non, td_bl, td_int, td_tx, td_tup, td_lst, e_chain, ch_t, ch_f, e_put, e_for, e_iter, it_lst, it_tup, it_tx, e_enum, en_lst, e_comp, e_yes, e_meth, ck_lst, zl_nil, zl_cons, z_lstF, z_tup, fzl_nil, fzl_cons, fz_lstE, fz_tupE, cut_nn, cut_0n, cut_n0, cut_00, z_tx, z_int, z_bl, z_non, z_lst, fz_tx, fz_int, fz_bl, fz_non, g_lenL, g_lenT, g_lt, g_le, g_gt, g_ge, g_add, g_sub, g_eqS, g_eqI, g_neS, g_neI, g_in1, g_nin1, Option.bind_some, Option.map_some, List.getElem?_cons_zero, List.getElem?_cons_succ, List.set_cons_zero, List.set_cons_succ, List.length_cons, List.length_nil, if_true, if_false, ite_true, ite_false, decide_eq_true_eq, Bool.not_eq_true', decide_eq_false_iff_not, Bool.false_eq_true, reduceIte, eq_self, Nat.reduceAdd, Nat.reduceLT, Nat.reduceSub, Nat.zero_add, Bool.not_true, Bool.not_false, and_self, and_true, true_and, List.map_cons, List.map_nil, List.replicate_succ, List.replicate_zero, List.cons_append, List.nil_append, Bool.and_true, Bool.true_and, Bool.and_self, gl]
  rfl
theorem picks : F__law_pick = F_pick := rfl
theorem streams : F__law_stream = F_stream := rfl
def lbA : MS := (mDrop (mMeth false isLst gApp (mName 2) (mCons true (mCall F__law_pick (mCons true (mName 1) (mCons true (mFr gLst (mCons true (mC (.str ":")) (mCons true (mC (.str "|")) (mCons true (mC (.str "0")) (mCons true (mC (.str "7")) (mCons true (mC (.str "999999")) (mCons true (mC (.str "000001")) (mCons true (mC (.str "a")) (mCons true (mC (.str "zzzz")) (mCons true (mC (.str "abcd")) (mCons true (mC (.str "q")) (mCons true (mC (.str "xy")) (mCons true (mC (.str "efgh")) (mCons true (mC (.str "ijkl")) (mCons true (mC (.str "mnop")) (mCons true (mC (.str "rstu")) (mCons true (mC (.str "vw")) (mCons true (mC (.str "34568")) mNil)))))))))))))))))) mNil))) mNil)))
theorem lbA_eq : lbA = mDrop (mMeth false isLst gApp (mName 2) (mCons true (mCall F_pick (mCons true (mName 1) (mCons true rwA mNil))) mNil)) := rfl
theorem call_pick {ns : List Int} {c : Int} {k : Nat} {rows : List D} {i : Nat} {ρ : Ro} (hz : isFzL rows = true) (h0 : rows ≠ []) (hl : rows.length < 1073741824) (e : (ρ[i]?).join = some (stm ns c k)) : ∃ d c' k', d ∈ rows ∧ callF F_pick [.plc i, .val (.lst true rows)] ρ = .ok (.val d) (ρ.set i (some (stm ns c' k'))) := by
  obtain ⟨d, c', k', h1, h2⟩ := pick_ok ns c k (o := false) hz h0 hl
  exact ⟨d, c', k', h1, call_pv e (by rw [fz_lst hz]; exact h2)⟩
theorem call_next {ns : List Int} {c : Int} {k : Nat} {many : Int} {i : Nat} {ρ : Ro} (h : 0 < many) (h2 : many < 1073741824) (e : (ρ[i]?).join = some (stm ns c k)) : ∃ (d : Nat) (c' : Int) (k' : Nat), (d : Int) < many ∧ callF F_next [.plc i, .val (.int many)] ρ = .ok (.val (.int (d : Int))) (ρ.set i (some (stm ns c' k'))) := by
  obtain ⟨d, c', k', d0, d1, e1⟩ := next_ok ns c k h h2
  obtain ⟨j, rfl⟩ : ∃ j : Nat, d = (j : Int) := ⟨d.toNat, by omega⟩
  exact ⟨j, c', k', d1, call_pv e e1⟩
theorem turnA {ns : List Int} {c : Int} {k : Nat} {ws : List (List Nat)} {x3 x4 x5 x6 x7 x8 x9 x10 x11 x12 x13 x14 x15 : Option D} (hl : ws.length ≤ 1000) : ∃ w c' k', w ∈ GOOD ∧
    lbA [some (.scr ns), some (stm ns c k), some (.lst true (ws.map tx)), x3, x4, x5, x6, x7, x8, x9, x10, x11, x12, x13, x14, x15] = .nx [some (.scr ns), some (stm ns c' k'), some (.lst true ((ws ++ [w]).map tx)), x3, x4, x5, x6, x7, x8, x9, x10, x11, x12, x13, x14, x15] := by
  have L : (lim : Nat) = 16777216 := rfl
  obtain ⟨d, c', k', hd, e⟩ := call_pick (ns := ns) (c := c) (k := k) (i := 1) (ρ := [some (.scr ns), some (stm ns c k), some (.lst true (ws.map tx)), x3, x4, x5, x6, x7, x8, x9, x10, x11, x12, x13, x14, x15]) (zl_tx GOOD) (by decide) (by decide) rfl
  obtain ⟨w, hw, rfl⟩ := List.mem_map.mp hd
  refine ⟨w, c', k', hw, ?_⟩
  rw [lbA_eq]
  simp only [e_nx, b_ok, b_exc, s_ok, s_exc, e_seq, t_nx, t_ret, t_exc, t_bk, t_ct, e_name, nm_fz, nm_own, o_val, o_plc, o_tru, r_val, r_plc, p_some, pb_some, j_some, j_none, e_set, set_val, f_val, fs_nil, fs_val, frc_some, l_nil, l_cons, lc_some, e_ret, ret_val, e_ifS, w_nx, w_ret, w_exc, lp_nx, e_call, ld_nil, ld_val, ldc_some, bk_nil, bk_val, ro_ret, ro_exc, ro_nx, e_mcons, e_nil, e_C, e_P1, e_P2, e_B2, e_PL, e_and, e_or, e_not, e_bv, e_if, e_tru, tru_some, e_drop, e_fr, fk_some, e_raise, e_try, try_ret, try_nx, try_exc, unb_ret, e_xf, xf_some, e_xis, xi_some, e_part, e_nopart, part_int, e_sl, e_andV, e_orV, e_notV, and_bl, or_bl, not_bl, e_isi, isi_some, td_non, td_bl, td_int, td_tx, td_tup, td_lst, e_chain, ch_t, ch_f, e_put, e_for, e_iter, it_lst, it_tup, it_tx, e_enum, en_lst, e_comp, e_yes, e_meth, ck_lst, zl_nil, zl_cons, z_lstF, z_tup, fzl_nil, fzl_cons, fz_lstE, fz_tupE, cut_nn, cut_0n, cut_n0, cut_00, z_tx, z_int, z_bl, z_non, z_lst, fz_tx, fz_int, fz_bl, fz_non, g_lenL, g_lenT, g_lt, g_le, g_gt, g_ge, g_add, g_sub, g_eqS, g_eqI, g_neS, g_neI, g_in1, g_nin1, Option.bind_some, Option.map_some, List.getElem?_cons_zero, List.getElem?_cons_succ, List.set_cons_zero, List.set_cons_succ, List.length_cons, List.length_nil, if_true, if_false, ite_true, ite_false, decide_eq_true_eq, Bool.not_eq_true', decide_eq_false_iff_not, Bool.false_eq_true, reduceIte, eq_self, Nat.reduceAdd, Nat.reduceLT, Nat.reduceSub, Nat.zero_add, Bool.not_true, Bool.not_false, and_self, and_true, true_and, List.map_cons, List.map_nil, List.replicate_succ, List.replicate_zero, List.cons_append, List.nil_append, Bool.and_true, Bool.true_and, Bool.and_self, nm_own z_stm, rwA_ok, e, me_plc (ρ := [some (.scr ns), some (stm ns c' k'), some (.lst true (ws.map tx)), x3, x4, x5, x6, x7, x8, x9, x10, x11, x12, x13, x14, x15]) (i := 2) (d := .lst true (ws.map tx)) rfl (g_app (ds := ws.map tx) (x := tx w) (by rw [List.length_map]; omega)), List.map_append]
theorem loopA {ns : List Int} {x4 x5 x6 x7 x8 x9 x10 x11 x12 x13 x14 x15 : Option D} : ∀ (ds : List D) (ws : List (List Nat)) (c : Int) (k : Nat) (x3 : Option D), ws.length + ds.length ≤ 1000 → ∃ ws' c' k' y3, ws'.length = ds.length ∧ (∀ w ∈ ws', w ∈ GOOD) ∧
    mLoop [0] (.nm 3) lbA ds [some (.scr ns), some (stm ns c k), some (.lst true (ws.map tx)), x3, x4, x5, x6, x7, x8, x9, x10, x11, x12, x13, x14, x15] = .nx [some (.scr ns), some (stm ns c' k'), some (.lst true ((ws ++ ws').map tx)), y3, x4, x5, x6, x7, x8, x9, x10, x11, x12, x13, x14, x15]
  | [], ws, c, k, x3, h => ⟨[], c, k, x3, rfl, (fun w h => by cases h), by rw [List.append_nil]; rfl⟩
  | d :: ds, ws, c, k, x3, h => by
    rw [List.length_cons] at h
    obtain ⟨w, c1, k1, hw, e⟩ := turnA (ns := ns) (c := c) (k := k) (ws := ws) (x3 := some d) (x4 := x4) (x5 := x5) (x6 := x6) (x7 := x7) (x8 := x8) (x9 := x9) (x10 := x10) (x11 := x11) (x12 := x12) (x13 := x13) (x14 := x14) (x15 := x15) (by omega)
    obtain ⟨ws', c', k', y3, h1, h2, h3⟩ := loopA ds (ws ++ [w]) c1 k1 (some d) (by rw [List.length_append]; simp only [List.length_cons, List.length_nil]; omega)
    refine ⟨w :: ws', c', k', y3, by rw [List.length_cons, h1, List.length_cons], fun v hv => ?_, ?_⟩
    · rcases List.mem_cons.mp hv with rfl | hv
      · exact hw
      · exact h2 v hv
    · rw [e_loop (ρ1 := [some (.scr ns), some (stm ns c k), some (.lst true (ws.map tx)), some d, x4, x5, x6, x7, x8, x9, x10, x11, x12, x13, x14, x15]) rfl, e, lp_nx, h3, List.append_assoc]
      rfl
theorem cs_tab : D.str (PySem.Str.ofString "\t") = tx [9] := congrArg D.str (by decide +kernel)
def bT1 : List (List Nat) := [[65], [95], [44], [45], [9]]
def bW : List (List Nat) := [[97, 98, 99, 100, 101], [122, 122, 122, 122, 122, 122, 122, 122]]
def bN : List (List Nat) := [[49, 48, 48, 48, 48, 48, 48], [48, 48, 48, 48, 48, 48, 49]]
def bT2 : List (List Nat) := [[123], [96], [47], [59], [64], [91], [126], [90], [46]]
def pr (m : D) (b : List Nat) : D := .tup [tx b, m]
/-- the words that are none, with what is told of them -/
def BADS : List D := (bT1.map (pr mT) ++ bW.map (pr mW) ++ bN.map (pr mN)) ++ bT2.map (pr mT)
theorem bads_ok : ∀ d ∈ BADS, ∃ b m, d = pr m b ∧ Bd b m ∧ isFz m = true ∧ m ≠ .non ∧ b ≠ [] ∧ b.length ≤ 8 ∧ 10 ∉ b := by
  intro d hd
  have a1 : ∀ b ∈ bT1 ++ bT2, kc b = 0 ∧ b.head? ≠ some 32 ∧ b ≠ [] ∧ b.length ≤ 8 ∧ 10 ∉ b := by decide
  have a2 : ∀ b ∈ bW, 5 ≤ b.length ∧ (∀ c ∈ b, c ∈ AL) ∧ b ≠ [] ∧ b.length ≤ 8 ∧ 10 ∉ b := by decide
  have a3 : ∀ b ∈ bN, 7 ≤ b.length ∧ (∀ c ∈ b, c ∈ DG) ∧ b ≠ [] ∧ b.length ≤ 8 ∧ 10 ∉ b := by decide
  unfold BADS at hd
  rcases List.mem_append.mp hd with hd | hd
  · rcases List.mem_append.mp hd with hd | hd
    · rcases List.mem_append.mp hd with hd | hd
      · obtain ⟨b, hb, rfl⟩ := List.mem_map.mp hd
        obtain ⟨h1, h2, h3, h4, h5⟩ := a1 b (List.mem_append_left _ hb)
        exact ⟨b, mT, rfl, .inl ⟨rfl, h1, h2⟩, rfl, (fun z => by cases z), h3, h4, h5⟩
      · obtain ⟨b, hb, rfl⟩ := List.mem_map.mp hd
        obtain ⟨h1, h2, h3, h4, h5⟩ := a2 b hb
        exact ⟨b, mW, rfl, .inr (.inl ⟨rfl, h1, h2⟩), rfl, (fun z => by cases z), h3, h4, h5⟩
    · obtain ⟨b, hb, rfl⟩ := List.mem_map.mp hd
      obtain ⟨h1, h2, h3, h4, h5⟩ := a3 b hb
      exact ⟨b, mN, rfl, .inr (.inr ⟨rfl, h1, h2⟩), rfl, (fun z => by cases z), h3, h4, h5⟩
  · obtain ⟨b, hb, rfl⟩ := List.mem_map.mp hd
    obtain ⟨h1, h2, h3, h4, h5⟩ := a1 b (List.mem_append_right _ hb)
    exact ⟨b, mT, rfl, .inl ⟨rfl, h1, h2⟩, rfl, (fun z => by cases z), h3, h4, h5⟩
theorem zl_bads : isFzL BADS = true := isFzL_iff.mpr fun d hd => by
  obtain ⟨b, m, rfl, _, hm, _⟩ := bads_ok d hd
  show (isFz (tx b) && (isFz m && true)) = true
  rw [hm]
  rfl
def b1 : M Op := (mFr gLst (mCons true (mFr gTup (mCons true (mC (.str "A")) (mCons true (mC (.str "no token begins here")) mNil))) (mCons true (mFr gTup (mCons true (mC (.str "_")) (mCons true (mC (.str "no token begins here")) mNil))) (mCons true (mFr gTup (mCons true (mC (.str ",")) (mCons true (mC (.str "no token begins here")) mNil))) (mCons true (mFr gTup (mCons true (mC (.str "-")) (mCons true (mC (.str "no token begins here")) mNil))) (mCons true (mFr gTup (mCons true (mC (.str "\t")) (mCons true (mC (.str "no token begins here")) mNil))) (mCons true (mFr gTup (mCons true (mC (.str "abcde")) (mCons true (mC (.str "a word has at most 4 letters")) mNil))) (mCons true (mFr gTup (mCons true (mC (.str "zzzzzzzz")) (mCons true (mC (.str "a word has at most 4 letters")) mNil))) (mCons true (mFr gTup (mCons true (mC (.str "1000000")) (mCons true (mC (.str "a number has at most 6 digits")) mNil))) (mCons true (mFr gTup (mCons true (mC (.str "0000001")) (mCons true (mC (.str "a number has at most 6 digits")) mNil))) mNil))))))))))
theorem b1_ok {ρ : Ro} : b1 ρ = .ok (.val (.lst true (bT1.map (pr mT) ++ bW.map (pr mW) ++ bN.map (pr mN)))) ρ := by
  have gl : ∀ ds : List D, ds.length = 9 → Gc.gLst ds = some (D.lst true ds) := fun ds h => g_lst (by rw [h]; decide)
  have gt : ∀ ds : List D, ds.length = 2 → Gc.gTup ds = some (D.tup ds) := fun ds h => g_tup (by rw [h]; decide)
  unfold b1
  simp only [cs_0, cs_1, cs_2, cs_3, cs_4, cs_5, cs_6, cs_7, cs_8, cs_9, cs_10, cs_11, cs_12, cs_13, cs_14, cs_15, cs_16, cs_17, cs_18, cs_19, cs_20, cs_21, cs_22, cs_23, cs_24, cs_25, cs_28, cs_29, cs_30, cs_31, cs_32, cs_34, cs_35, cs_38, cs_39, cs_43, cs_45, cs_46, cs_47, cs_48, cs_49, cs_50, cs_tab, e_nx, b_ok, b_exc, s_ok, s_exc, e_seq, t_nx, t_ret, t_exc, t_bk, t_ct, e_name, nm_fz, nm_own, o_val, o_plc, o_tru, r_val, r_plc, p_some, pb_some, j_some, j_none, e_set, set_val, f_val, fs_nil, fs_val, frc_some, l_nil, l_cons, lc_some, e_ret, ret_val, e_ifS, w_nx, w_ret, w_exc, lp_nx, e_call, ld_nil, ld_val, ldc_some, bk_nil, bk_val, ro_ret, ro_exc, ro_nx, e_mcons, e_nil, e_C, e_P1, e_P2, e_B2, e_PL, e_and, e_or, e_not, e_bv, e_if, e_tru, tru_some, e_drop, e_fr, fk_some, e_raise, e_try, try_ret, try_nx, try_exc, unb_ret, e_xf, xf_some, e_xis, xi_some, e_part, e_nopart, part_int, e_sl, e_andV, e_orV, e_notV, and_bl, or_bl, not_bl, e_isi, isi_some, td_non, td_bl, td_int, td_tx, td_tup, td_lst, e_chain, ch_t, ch_f, e_put, e_for, e_iter, it_lst, it_tup, it_tx, e_enum, en_lst, e_comp, e_yes, e_meth, ck_lst, zl_nil, zl_cons, z_lstF, z_tup, fzl_nil, fzl_cons, fz_lstE, fz_tupE, cut_nn, cut_0n, cut_n0, cut_00, z_tx, z_int, z_bl, z_non, z_lst, fz_tx, fz_int, fz_bl, fz_non, g_lenL, g_lenT, g_lt, g_le, g_gt, g_ge, g_add, g_sub, g_eqS, g_eqI, g_neS, g_neI, g_in1, g_nin1, Option.bind_some, Option.map_some, List.getElem?_cons_zero, List.getElem?_cons_succ, List.set_cons_zero, List.set_cons_succ, List.length_cons, List.length_nil, if_true, if_false, ite_true, ite_false, decide_eq_true_eq, Bool.not_eq_true', decide_eq_false_iff_not, Bool.false_eq_true, reduceIte, eq_self, Nat.reduceAdd, Nat.reduceLT, Nat.reduceSub, Nat.zero_add, Bool.not_true, Bool.not_false, and_self, and_true, true_and, List.map_cons, List.map_nil, List.replicate_succ, List.replicate_zero, List.cons_append, List.nil_append, Bool.and_true, Bool.true_and, Bool.and_self, gl, gt, z_str, fz_str]
  rfl
def b2i : M (List D) := (mIter (mFr gLst (mCons true (mC (.str "{")) (mCons true (mC (.str "`")) (mCons true (mC (.str "/")) (mCons true (mC (.str ";")) (mCons true (mC (.str "@")) (mCons true (mC (.str "[")) (mCons true (mC (.str "~")) (mCons true (mC (.str "Z")) (mCons true (mC (.str ".")) mNil)))))))))))
theorem b2i_ok {ρ : Ro} : b2i ρ = .ok (bT2.map tx) ρ := by
  have gl : ∀ ds : List D, ds.length = 9 → Gc.gLst ds = some (D.lst true ds) := fun ds h => g_lst (by rw [h]; decide)
  unfold b2i
  simp only [cs_0, cs_1, cs_2, cs_3, cs_4, cs_5, cs_6, cs_7, cs_8, cs_9, cs_10, cs_11, cs_12, cs_13, cs_14, cs_15, cs_16, cs_17, cs_18, cs_19, cs_20, cs_21, cs_22, cs_23, cs_24, cs_25, cs_28, cs_29, cs_30, cs_31, cs_32, cs_34, cs_35, cs_38, cs_39, cs_43, cs_45, cs_46, cs_47, cs_48, cs_49, cs_50, cs_tab, e_nx, b_ok, b_exc, s_ok, s_exc, e_seq, t_nx, t_ret, t_exc, t_bk, t_ct, e_name, nm_fz, nm_own, o_val, o_plc, o_tru, r_val, r_plc, p_some, pb_some, j_some, j_none, e_set, set_val, f_val, fs_nil, fs_val, frc_some, l_nil, l_cons, lc_some, e_ret, ret_val, e_ifS, w_nx, w_ret, w_exc, lp_nx, e_call, ld_nil, ld_val, ldc_some, bk_nil, bk_val, ro_ret, ro_exc, ro_nx, e_mcons, e_nil, e_C, e_P1, e_P2, e_B2, e_PL, e_and, e_or, e_not, e_bv, e_if, e_tru, tru_some, e_drop, e_fr, fk_some, e_raise, e_try, try_ret, try_nx, try_exc, unb_ret, e_xf, xf_some, e_xis, xi_some, e_part, e_nopart, part_int, e_sl, e_andV, e_orV, e_notV, and_bl, or_bl, not_bl, e_isi, isi_some, td_non, td_bl, td_int, td_tx, td_tup, td_lst, e_chain, ch_t, ch_f, e_put, e_for, e_iter, it_lst, it_tup, it_tx, e_enum, en_lst, e_comp, e_yes, e_meth, ck_lst, zl_nil, zl_cons, z_lstF, z_tup, fzl_nil, fzl_cons, fz_lstE, fz_tupE, cut_nn, cut_0n, cut_n0, cut_00, z_tx, z_int, z_bl, z_non, z_lst, fz_tx, fz_int, fz_bl, fz_non, g_lenL, g_lenT, g_lt, g_le, g_gt, g_ge, g_add, g_sub, g_eqS, g_eqI, g_neS, g_neI, g_in1, g_nin1, Option.bind_some, Option.map_some, List.getElem?_cons_zero, List.getElem?_cons_succ, List.set_cons_zero, List.set_cons_succ, List.length_cons, List.length_nil, if_true, if_false, ite_true, ite_false, decide_eq_true_eq, Bool.not_eq_true', decide_eq_false_iff_not, Bool.false_eq_true, reduceIte, eq_self, Nat.reduceAdd, Nat.reduceLT, Nat.reduceSub, Nat.zero_add, Bool.not_true, Bool.not_false, and_self, and_true, true_and, List.map_cons, List.map_nil, List.replicate_succ, List.replicate_zero, List.cons_append, List.nil_append, Bool.and_true, Bool.true_and, Bool.and_self, gl]
  rfl
def b2e : M Op := (mFr gTup (mCons true (mName 15) (mCons true (mC (.str "no token begins here")) mNil)))
theorem b2_ok {ρ : Ro} {x0 x1 x2 x3 x4 x5 x6 x7 x8 x9 x10 x11 x12 x13 x14 : Option D} (hρ : ρ = [x0, x1, x2, x3, x4, x5, x6, x7, x8, x9, x10, x11, x12, x13, x14, none]) : (mComp [0] (.nm 15) b2i mYes b2e [15]) ρ = .ok (.val (.lst true (bT2.map (pr mT)))) ρ := by
  subst hρ
  have gt : ∀ ds : List D, ds.length = 2 → Gc.gTup ds = some (D.tup ds) := fun ds h => g_tup (by rw [h]; decide)
  rw [e_comp, b2i_ok, b_ok]
  show (if compOk [0] [15] [x0, x1, x2, x3, x4, x5, x6, x7, x8, x9, x10, x11, x12, x13, x14, none] = true then (mcLoop [0] (.nm 15) mYes b2e [15] (bT2.map tx) [] [x0, x1, x2, x3, x4, x5, x6, x7, x8, x9, x10, x11, x12, x13, x14, none]).nox.bind fun out ρ2 => R.ok (Op.val (.lst true out)) (restR [x0, x1, x2, x3, x4, x5, x6, x7, x8, x9, x10, x11, x12, x13, x14, none] [15] ρ2) else .bad) = _
  rw [if_pos (by rfl), mc_map (f := fun d => .tup [d, mT]) (fun d hd => ?_) (by decide)]
  · rfl
  · obtain ⟨w, hw, rfl⟩ := List.mem_map.mp hd
    refine ⟨[x0, x1, x2, x3, x4, x5, x6, x7, x8, x9, x10, x11, x12, x13, x14, some (tx w)], .val (.tup [tx w, mT]), [x0, x1, x2, x3, x4, x5, x6, x7, x8, x9, x10, x11, x12, x13, x14, some (tx w)], [x0, x1, x2, x3, x4, x5, x6, x7, x8, x9, x10, x11, x12, x13, x14, some (tx w)], rfl, ?_, rfl, rfl⟩
    unfold b2e
    simp only [e_nx, b_ok, b_exc, s_ok, s_exc, e_seq, t_nx, t_ret, t_exc, t_bk, t_ct, e_name, nm_fz, nm_own, o_val, o_plc, o_tru, r_val, r_plc, p_some, pb_some, j_some, j_none, e_set, set_val, f_val, fs_nil, fs_val, frc_some, l_nil, l_cons, lc_some, e_ret, ret_val, e_ifS, w_nx, w_ret, w_exc, lp_nx, e_call, ld_nil, ld_val, ldc_some, bk_nil, bk_val, ro_ret, ro_exc, ro_nx, e_mcons, e_nil, e_C, e_P1, e_P2, e_B2, e_PL, e_and, e_or, e_not, e_bv, e_if, e_tru, tru_some, e_drop, e_fr, fk_some, e_raise, e_try, try_ret, try_nx, try_exc, unb_ret, e_xf, xf_some, e_xis, xi_some, e_part, e_nopart, part_int, e_sl, e_andV, e_orV, e_notV, and_bl, or_bl, not_bl, e_isi, isi_some, td_non, td_bl, td_int, td_tx, td_tup, td_lst, e_chain, ch_t, ch_f, e_put, e_for, e_iter, it_lst, it_tup, it_tx, e_enum, en_lst, e_comp, e_yes, e_meth, ck_lst, zl_nil, zl_cons, z_lstF, z_tup, fzl_nil, fzl_cons, fz_lstE, fz_tupE, cut_nn, cut_0n, cut_n0, cut_00, z_tx, z_int, z_bl, z_non, z_lst, fz_tx, fz_int, fz_bl, fz_non, g_lenL, g_lenT, g_lt, g_le, g_gt, g_ge, g_add, g_sub, g_eqS, g_eqI, g_neS, g_neI, g_in1, g_nin1, Option.bind_some, Option.map_some, List.getElem?_cons_zero, List.getElem?_cons_succ, List.set_cons_zero, List.set_cons_succ, List.length_cons, List.length_nil, if_true, if_false, ite_true, ite_false, decide_eq_true_eq, Bool.not_eq_true', decide_eq_false_iff_not, Bool.false_eq_true, reduceIte, eq_self, Nat.reduceAdd, Nat.reduceLT, Nat.reduceSub, Nat.zero_add, Bool.not_true, Bool.not_false, and_self, and_true, true_and, List.map_cons, List.map_nil, List.replicate_succ, List.replicate_zero, List.cons_append, List.nil_append, Bool.and_true, Bool.true_and, Bool.and_self, gt, z_str, fz_str]
    rfl
def sB2 : MS := (mSet 12 (mCall F__law_next (mCons true (mName 1) (mCons true (mP2 true gAdd (mPL gLen (mCons true (mName 2) mNil)) (mC (.int 1))) mNil))))
def sB3 : MS := (mPut [0] (.tp [(.nm 13), (.nm 4)]) (mCall F__law_pick (mCons true (mName 1) (mCons true (mName 11) mNil))))
def sB4 : MS := (mSet 2 (mP2 true gAdd (mP2 true gAdd (mSl true true (mName 2) mNoPart (mPart (mName 12))) (mFr gLst (mCons true (mName 13) mNil))) (mSl true true (mName 2) (mPart (mName 12)) mNoPart)))
def sB5 : MS := (mIfS (mB2 true gEq (mCall F__law_next (mCons true (mName 1) (mCons true (mC (.int 2)) mNil))) (mC (.int 1))) (mDrop (mMeth false isLst gApp (mName 2) (mCons true (mP2 true gIx (mCall F__law_pick (mCons true (mName 1) (mCons true (mName 11) mNil))) (mC (.int 0))) mNil))) mNx)
def sgB : MS := mSeq (mSet 11 b1) (mSeq (mSet 11 (mP2 true gAdd (mName 11) (mComp [0] (.nm 15) b2i mYes b2e [15]))) (mSeq sB2 (mSeq sB3 (mSeq sB4 sB5))))
theorem zl_one {b : List Nat} : isFzL [tx b] = true := rfl
theorem call_pick2 {ns : List Int} {c : Int} {k : Nat} {rows : List D} {i j : Nat} {ρ : Ro} (hij : i ≠ j) (hz : isFzL rows = true) (h0 : rows ≠ []) (hl : rows.length < 1073741824) (e : (ρ[i]?).join = some (stm ns c k)) (e2 : (ρ[j]?).join = some (.lst true rows)) :
    ∃ d c' k', d ∈ rows ∧ callF F_pick [.plc i, .plc j] ρ = .ok (.val d) ((ρ.set i (some (stm ns c' k'))).set j (some (.lst true rows))) := by
  obtain ⟨d, c', k', h1, h2⟩ := pick_ok ns c k (o := true) hz h0 hl
  exact ⟨d, c', k', h1, call_pp hij e e2 h2⟩
theorem bads_ne : BADS ≠ [] := by intro z; cases z
theorem bads_len : BADS.length < 1073741824 := by decide
theorem segB {ns : List Int} {c : Int} {k : Nat} {ws : List (List Nat)} {y3 : Option D} (hl : ws.length ≤ 16) : ∃ (c' : Int) (k' at_ : Nat) (b : List Nat) (m : D) (ex : List (List Nat)), at_ ≤ ws.length ∧ Bd b m ∧ isFz m = true ∧ m ≠ .non ∧ b ≠ [] ∧ b.length ≤ 8 ∧ 10 ∉ b ∧ ex.length ≤ 1 ∧ (∀ w ∈ ex, w ≠ [] ∧ w.length ≤ 8 ∧ 10 ∉ w) ∧
    sgB [some (.scr ns), some (stm ns c k), some (.lst true (ws.map tx)), y3, some .non, none, none, none, none, none, none, none, none, none, none, none] = .nx [some (.scr ns), some (stm ns c' k'), some (.lst true ((ws.take at_ ++ [b] ++ ws.drop at_ ++ ex).map tx)), y3, some m, none, none, none, none, none, none, some (.lst true BADS), some (.int (at_ : Int)), some (tx b), none, none] := by
  have L : (lim : Nat) = 16777216 := rfl
  have zw := zl_tx ws
  obtain ⟨at_, c1, k1, ha, e1⟩ := call_next (ns := ns) (c := c) (k := k) (many := ((ws.map tx).length : Int) + 1) (i := 1) (ρ := [some (.scr ns), some (stm ns c k), some (.lst true (ws.map tx)), y3, some .non, none, none, none, none, none, none, some (.lst true BADS), none, none, none, none]) (by omega) (by rw [List.length_map]; omega) rfl
  rw [List.length_map] at ha
  obtain ⟨d, c2, k2, hd, e2⟩ := call_pick2 (ns := ns) (c := c1) (k := k1) (rows := BADS) (i := 1) (j := 11) (ρ := [some (.scr ns), some (stm ns c1 k1), some (.lst true (ws.map tx)), y3, some .non, none, none, none, none, none, none, some (.lst true BADS), some (.int (at_ : Int)), none, none, none]) (by decide) zl_bads bads_ne bads_len rfl rfl
  obtain ⟨b, m, rfl, hb, hm, hm2, h1, h2, h3⟩ := bads_ok d hd
  have zpr : isFz (pr m b) = true := by
    show (isFz (tx b) && (isFz m && true)) = true
    rw [hm]
    rfl
  have catW : gAdd (.lst true ((ws.map tx).take at_)) (.lst true [tx b]) = some (.lst true ((ws.map tx).take at_ ++ [tx b])) := g_catL (isFzL_iff.mpr fun x hx => isFzL_iff.mp zw x (List.mem_of_mem_take hx)) rfl (by rw [List.length_take, List.length_map]; simp only [List.length_cons, List.length_nil]; omega)
  have catV : gAdd (.lst true ((ws.map tx).take at_ ++ [tx b])) (.lst true ((ws.map tx).drop at_)) = some (.lst true (((ws.map tx).take at_ ++ [tx b]) ++ (ws.map tx).drop at_)) := g_catL (by rw [isFzL_app, isFzL_iff.mpr fun x hx => isFzL_iff.mp zw x (List.mem_of_mem_take hx)]; rfl) (isFzL_iff.mpr fun x hx => isFzL_iff.mp zw x (List.mem_of_mem_drop hx)) (by rw [List.length_append, List.length_take, List.length_drop, List.length_map]; simp only [List.length_cons, List.length_nil]; omega)
  have tw : ((ws.map tx).take at_ ++ [tx b]) ++ (ws.map tx).drop at_ = (ws.take at_ ++ [b] ++ ws.drop at_).map tx := by
    rw [List.map_append, List.map_append, List.map_take, List.map_drop]
    rfl
  rw [tw] at catV
  have gl1 : ∀ x, Gc.gLst [x] = some (D.lst true [x]) := fun x => g_lst (by show 1 ≤ lim; omega)
  have q0 : (mSet 11 b1) [some (.scr ns), some (stm ns c k), some (.lst true (ws.map tx)), y3, some .non, none, none, none, none, none, none, none, none, none, none, none] = .nx [some (.scr ns), some (stm ns c k), some (.lst true (ws.map tx)), y3, some .non, none, none, none, none, none, none, some (.lst true (bT1.map (pr mT) ++ bW.map (pr mW) ++ bN.map (pr mN))), none, none, none, none] := by
    rw [e_set, b1_ok, s_ok]
    exact set_val (by show (11 : Nat) < 16; decide)
  have catB : gAdd (.lst true (bT1.map (pr mT) ++ bW.map (pr mW) ++ bN.map (pr mN))) (.lst true (bT2.map (pr mT))) = some (.lst true BADS) := g_catL (isFzL_iff.mpr fun x hx => isFzL_iff.mp zl_bads x (List.mem_append_left _ hx)) (isFzL_iff.mpr fun x hx => isFzL_iff.mp zl_bads x (List.mem_append_right _ hx)) (by show (18 : Nat) ≤ lim; omega)
  have cmp := b2_ok (ρ := [some (.scr ns), some (stm ns c k), some (.lst true (ws.map tx)), y3, some .non, none, none, none, none, none, none, some (.lst true (bT1.map (pr mT) ++ bW.map (pr mW) ++ bN.map (pr mN))), none, none, none, none]) (x0 := some (.scr ns)) (x1 := some (stm ns c k)) (x2 := some (.lst true (ws.map tx))) (x3 := y3) rfl
  have q1 : (mSet 11 (mP2 true gAdd (mName 11) (mComp [0] (.nm 15) b2i mYes b2e [15]))) [some (.scr ns), some (stm ns c k), some (.lst true (ws.map tx)), y3, some .non, none, none, none, none, none, none, some (.lst true (bT1.map (pr mT) ++ bW.map (pr mW) ++ bN.map (pr mN))), none, none, none, none] = .nx [some (.scr ns), some (stm ns c k), some (.lst true (ws.map tx)), y3, some .non, none, none, none, none, none, none, some (.lst true BADS), none, none, none, none] := by
    rw [e_comp, b2i_ok, b_ok] at cmp
    simp only [b2i_ok, cmp, e_nx, b_ok, b_exc, s_ok, s_exc, e_seq, t_nx, t_ret, t_exc, t_bk, t_ct, e_name, nm_fz, nm_own, o_val, o_plc, o_tru, r_val, r_plc, p_some, pb_some, j_some, j_none, e_set, set_val, f_val, fs_nil, fs_val, frc_some, l_nil, l_cons, lc_some, e_ret, ret_val, e_ifS, w_nx, w_ret, w_exc, lp_nx, e_call, ld_nil, ld_val, ldc_some, bk_nil, bk_val, ro_ret, ro_exc, ro_nx, e_mcons, e_nil, e_C, e_P1, e_P2, e_B2, e_PL, e_and, e_or, e_not, e_bv, e_if, e_tru, tru_some, e_drop, e_fr, fk_some, e_raise, e_try, try_ret, try_nx, try_exc, unb_ret, e_xf, xf_some, e_xis, xi_some, e_part, e_nopart, part_int, e_sl, e_andV, e_orV, e_notV, and_bl, or_bl, not_bl, e_isi, isi_some, td_non, td_bl, td_int, td_tx, td_tup, td_lst, e_chain, ch_t, ch_f, e_put, e_for, e_iter, it_lst, it_tup, it_tx, e_enum, en_lst, e_comp, e_yes, e_meth, ck_lst, zl_nil, zl_cons, z_lstF, z_tup, fzl_nil, fzl_cons, fz_lstE, fz_tupE, cut_nn, cut_0n, cut_n0, cut_00, z_tx, z_int, z_bl, z_non, z_lst, fz_tx, fz_int, fz_bl, fz_non, g_lenL, g_lenT, g_lt, g_le, g_gt, g_ge, g_add, g_sub, g_eqS, g_eqI, g_neS, g_neI, g_in1, g_nin1, Option.bind_some, Option.map_some, List.getElem?_cons_zero, List.getElem?_cons_succ, List.set_cons_zero, List.set_cons_succ, List.length_cons, List.length_nil, if_true, if_false, ite_true, ite_false, decide_eq_true_eq, Bool.not_eq_true', decide_eq_false_iff_not, Bool.false_eq_true, reduceIte, eq_self, Nat.reduceAdd, Nat.reduceLT, Nat.reduceSub, Nat.zero_add, Bool.not_true, Bool.not_false, and_self, and_true, true_and, List.map_cons, List.map_nil, List.replicate_succ, List.replicate_zero, List.cons_append, List.nil_append, Bool.and_true, Bool.true_and, Bool.and_self, catB]
  have q2 : sB2 [some (.scr ns), some (stm ns c k), some (.lst true (ws.map tx)), y3, some .non, none, none, none, none, none, none, some (.lst true BADS), none, none, none, none] = .nx [some (.scr ns), some (stm ns c1 k1), some (.lst true (ws.map tx)), y3, some .non, none, none, none, none, none, none, some (.lst true BADS), some (.int (at_ : Int)), none, none, none] := by
    unfold sB2
    simp only [nexts, e_nx, b_ok, b_exc, s_ok, s_exc, e_seq, t_nx, t_ret, t_exc, t_bk, t_ct, e_name, nm_fz, nm_own, o_val, o_plc, o_tru, r_val, r_plc, p_some, pb_some, j_some, j_none, e_set, set_val, f_val, fs_nil, fs_val, frc_some, l_nil, l_cons, lc_some, e_ret, ret_val, e_ifS, w_nx, w_ret, w_exc, lp_nx, e_call, ld_nil, ld_val, ldc_some, bk_nil, bk_val, ro_ret, ro_exc, ro_nx, e_mcons, e_nil, e_C, e_P1, e_P2, e_B2, e_PL, e_and, e_or, e_not, e_bv, e_if, e_tru, tru_some, e_drop, e_fr, fk_some, e_raise, e_try, try_ret, try_nx, try_exc, unb_ret, e_xf, xf_some, e_xis, xi_some, e_part, e_nopart, part_int, e_sl, e_andV, e_orV, e_notV, and_bl, or_bl, not_bl, e_isi, isi_some, td_non, td_bl, td_int, td_tx, td_tup, td_lst, e_chain, ch_t, ch_f, e_put, e_for, e_iter, it_lst, it_tup, it_tx, e_enum, en_lst, e_comp, e_yes, e_meth, ck_lst, zl_nil, zl_cons, z_lstF, z_tup, fzl_nil, fzl_cons, fz_lstE, fz_tupE, cut_nn, cut_0n, cut_n0, cut_00, z_tx, z_int, z_bl, z_non, z_lst, fz_tx, fz_int, fz_bl, fz_non, g_lenL, g_lenT, g_lt, g_le, g_gt, g_ge, g_add, g_sub, g_eqS, g_eqI, g_neS, g_neI, g_in1, g_nin1, Option.bind_some, Option.map_some, List.getElem?_cons_zero, List.getElem?_cons_succ, List.set_cons_zero, List.set_cons_succ, List.length_cons, List.length_nil, if_true, if_false, ite_true, ite_false, decide_eq_true_eq, Bool.not_eq_true', decide_eq_false_iff_not, Bool.false_eq_true, reduceIte, eq_self, Nat.reduceAdd, Nat.reduceLT, Nat.reduceSub, Nat.zero_add, Bool.not_true, Bool.not_false, and_self, and_true, true_and, List.map_cons, List.map_nil, List.replicate_succ, List.replicate_zero, List.cons_append, List.nil_append, Bool.and_true, Bool.true_and, Bool.and_self, nm_own z_stm, e1]
  have q3 : sB3 [some (.scr ns), some (stm ns c1 k1), some (.lst true (ws.map tx)), y3, some .non, none, none, none, none, none, none, some (.lst true BADS), some (.int (at_ : Int)), none, none, none] = .nx [some (.scr ns), some (stm ns c2 k2), some (.lst true (ws.map tx)), y3, some m, none, none, none, none, none, none, some (.lst true BADS), some (.int (at_ : Int)), some (tx b), none, none] := by
    unfold sB3
    simp only [picks, e_nx, b_ok, b_exc, s_ok, s_exc, e_seq, t_nx, t_ret, t_exc, t_bk, t_ct, e_name, nm_fz, nm_own, o_val, o_plc, o_tru, r_val, r_plc, p_some, pb_some, j_some, j_none, e_set, set_val, f_val, fs_nil, fs_val, frc_some, l_nil, l_cons, lc_some, e_ret, ret_val, e_ifS, w_nx, w_ret, w_exc, lp_nx, e_call, ld_nil, ld_val, ldc_some, bk_nil, bk_val, ro_ret, ro_exc, ro_nx, e_mcons, e_nil, e_C, e_P1, e_P2, e_B2, e_PL, e_and, e_or, e_not, e_bv, e_if, e_tru, tru_some, e_drop, e_fr, fk_some, e_raise, e_try, try_ret, try_nx, try_exc, unb_ret, e_xf, xf_some, e_xis, xi_some, e_part, e_nopart, part_int, e_sl, e_andV, e_orV, e_notV, and_bl, or_bl, not_bl, e_isi, isi_some, td_non, td_bl, td_int, td_tx, td_tup, td_lst, e_chain, ch_t, ch_f, e_put, e_for, e_iter, it_lst, it_tup, it_tx, e_enum, en_lst, e_comp, e_yes, e_meth, ck_lst, zl_nil, zl_cons, z_lstF, z_tup, fzl_nil, fzl_cons, fz_lstE, fz_tupE, cut_nn, cut_0n, cut_n0, cut_00, z_tx, z_int, z_bl, z_non, z_lst, fz_tx, fz_int, fz_bl, fz_non, g_lenL, g_lenT, g_lt, g_le, g_gt, g_ge, g_add, g_sub, g_eqS, g_eqI, g_neS, g_neI, g_in1, g_nin1, Option.bind_some, Option.map_some, List.getElem?_cons_zero, List.getElem?_cons_succ, List.set_cons_zero, List.set_cons_succ, List.length_cons, List.length_nil, if_true, if_false, ite_true, ite_false, decide_eq_true_eq, Bool.not_eq_true', decide_eq_false_iff_not, Bool.false_eq_true, reduceIte, eq_self, Nat.reduceAdd, Nat.reduceLT, Nat.reduceSub, Nat.zero_add, Bool.not_true, Bool.not_false, and_self, and_true, true_and, List.map_cons, List.map_nil, List.replicate_succ, List.replicate_zero, List.cons_append, List.nil_append, Bool.and_true, Bool.true_and, Bool.and_self, nm_own z_stm, e2, fz_of _ zpr]
    exact put_some rfl
  have q4 : sB4 [some (.scr ns), some (stm ns c2 k2), some (.lst true (ws.map tx)), y3, some m, none, none, none, none, none, none, some (.lst true BADS), some (.int (at_ : Int)), some (tx b), none, none] = .nx [some (.scr ns), some (stm ns c2 k2), some (.lst true ((ws.take at_ ++ [b] ++ ws.drop at_).map tx)), y3, some m, none, none, none, none, none, none, some (.lst true BADS), some (.int (at_ : Int)), some (tx b), none, none] := by
    unfold sB4
    simp only [e_nx, b_ok, b_exc, s_ok, s_exc, e_seq, t_nx, t_ret, t_exc, t_bk, t_ct, e_name, nm_fz, nm_own, o_val, o_plc, o_tru, r_val, r_plc, p_some, pb_some, j_some, j_none, e_set, set_val, f_val, fs_nil, fs_val, frc_some, l_nil, l_cons, lc_some, e_ret, ret_val, e_ifS, w_nx, w_ret, w_exc, lp_nx, e_call, ld_nil, ld_val, ldc_some, bk_nil, bk_val, ro_ret, ro_exc, ro_nx, e_mcons, e_nil, e_C, e_P1, e_P2, e_B2, e_PL, e_and, e_or, e_not, e_bv, e_if, e_tru, tru_some, e_drop, e_fr, fk_some, e_raise, e_try, try_ret, try_nx, try_exc, unb_ret, e_xf, xf_some, e_xis, xi_some, e_part, e_nopart, part_int, e_sl, e_andV, e_orV, e_notV, and_bl, or_bl, not_bl, e_isi, isi_some, td_non, td_bl, td_int, td_tx, td_tup, td_lst, e_chain, ch_t, ch_f, e_put, e_for, e_iter, it_lst, it_tup, it_tx, e_enum, en_lst, e_comp, e_yes, e_meth, ck_lst, zl_nil, zl_cons, z_lstF, z_tup, fzl_nil, fzl_cons, fz_lstE, fz_tupE, cut_nn, cut_0n, cut_n0, cut_00, z_tx, z_int, z_bl, z_non, z_lst, fz_tx, fz_int, fz_bl, fz_non, g_lenL, g_lenT, g_lt, g_le, g_gt, g_ge, g_add, g_sub, g_eqS, g_eqI, g_neS, g_neI, g_in1, g_nin1, Option.bind_some, Option.map_some, List.getElem?_cons_zero, List.getElem?_cons_succ, List.set_cons_zero, List.set_cons_succ, List.length_cons, List.length_nil, if_true, if_false, ite_true, ite_false, decide_eq_true_eq, Bool.not_eq_true', decide_eq_false_iff_not, Bool.false_eq_true, reduceIte, eq_self, Nat.reduceAdd, Nat.reduceLT, Nat.reduceSub, Nat.zero_add, Bool.not_true, Bool.not_false, and_self, and_true, true_and, List.map_cons, List.map_nil, List.replicate_succ, List.replicate_zero, List.cons_append, List.nil_append, Bool.and_true, Bool.true_and, Bool.and_self, Gc.g_slL zw, gl1, catW, catV]
  rw [sgB, seq_nx q0, seq_nx q1, seq_nx q2, seq_nx q3, seq_nx q4]
  obtain ⟨z, c3, k3, hz, e3⟩ := call_next (ns := ns) (c := c2) (k := k2) (many := 2) (i := 1) (ρ := [some (.scr ns), some (stm ns c2 k2), some (.lst true ((ws.take at_ ++ [b] ++ ws.drop at_).map tx)), y3, some m, none, none, none, none, none, none, some (.lst true BADS), some (.int (at_ : Int)), some (tx b), none, none]) (by decide) (by decide) rfl
  unfold sB5
  by_cases h5 : z = 1
  · obtain ⟨d', c4, k4, hd', e4⟩ := call_pick2 (ns := ns) (c := c3) (k := k3) (rows := BADS) (i := 1) (j := 11) (ρ := [some (.scr ns), some (stm ns c3 k3), some (.lst true ((ws.take at_ ++ [b] ++ ws.drop at_).map tx)), y3, some m, none, none, none, none, none, none, some (.lst true BADS), some (.int (at_ : Int)), some (tx b), none, none]) (by decide) zl_bads bads_ne bads_len rfl rfl
    obtain ⟨b', m', rfl, hb', hm', _, h1', h2', h3'⟩ := bads_ok d' hd'
    have gx0 : gIx (pr m' b') (.int 0) = some (tx b') := rfl
    have dz : decide (((z : Nat) : Int) = 1) = true := decide_eq_true (by omega)
    refine ⟨c4, k4, at_, b, m, [b'], by omega, hb, hm, hm2, h1, h2, h3, Nat.le_refl _, fun w hw => by rw [List.mem_singleton.mp hw]; exact ⟨h1', h2', h3'⟩, ?_⟩
    simp only [nexts, picks, e_nx, b_ok, b_exc, s_ok, s_exc, e_seq, t_nx, t_ret, t_exc, t_bk, t_ct, e_name, nm_fz, nm_own, o_val, o_plc, o_tru, r_val, r_plc, p_some, pb_some, j_some, j_none, e_set, set_val, f_val, fs_nil, fs_val, frc_some, l_nil, l_cons, lc_some, e_ret, ret_val, e_ifS, w_nx, w_ret, w_exc, lp_nx, e_call, ld_nil, ld_val, ldc_some, bk_nil, bk_val, ro_ret, ro_exc, ro_nx, e_mcons, e_nil, e_C, e_P1, e_P2, e_B2, e_PL, e_and, e_or, e_not, e_bv, e_if, e_tru, tru_some, e_drop, e_fr, fk_some, e_raise, e_try, try_ret, try_nx, try_exc, unb_ret, e_xf, xf_some, e_xis, xi_some, e_part, e_nopart, part_int, e_sl, e_andV, e_orV, e_notV, and_bl, or_bl, not_bl, e_isi, isi_some, td_non, td_bl, td_int, td_tx, td_tup, td_lst, e_chain, ch_t, ch_f, e_put, e_for, e_iter, it_lst, it_tup, it_tx, e_enum, en_lst, e_comp, e_yes, e_meth, ck_lst, zl_nil, zl_cons, z_lstF, z_tup, fzl_nil, fzl_cons, fz_lstE, fz_tupE, cut_nn, cut_0n, cut_n0, cut_00, z_tx, z_int, z_bl, z_non, z_lst, fz_tx, fz_int, fz_bl, fz_non, g_lenL, g_lenT, g_lt, g_le, g_gt, g_ge, g_add, g_sub, g_eqS, g_eqI, g_neS, g_neI, g_in1, g_nin1, Option.bind_some, Option.map_some, List.getElem?_cons_zero, List.getElem?_cons_succ, List.set_cons_zero, List.set_cons_succ, List.length_cons, List.length_nil, if_true, if_false, ite_true, ite_false, decide_eq_true_eq, Bool.not_eq_true', decide_eq_false_iff_not, Bool.false_eq_true, reduceIte, eq_self, Nat.reduceAdd, Nat.reduceLT, Nat.reduceSub, Nat.zero_add, Bool.not_true, Bool.not_false, and_self, and_true, true_and, List.map_cons, List.map_nil, List.replicate_succ, List.replicate_zero, List.cons_append, List.nil_append, Bool.and_true, Bool.true_and, Bool.and_self, nm_own z_stm, e3, dz, e4, gx0, me_plc (ρ := [some (.scr ns), some (stm ns c4 k4), some (.lst true ((ws.take at_ ++ [b] ++ ws.drop at_).map tx)), y3, some m, none, none, none, none, none, none, some (.lst true BADS), some (.int (at_ : Int)), some (tx b), none, none]) (i := 2) (d := .lst true ((ws.take at_ ++ [b] ++ ws.drop at_).map tx)) rfl (g_app (ds := (ws.take at_ ++ [b] ++ ws.drop at_).map tx) (x := tx b') (by rw [List.length_map, List.length_append, List.length_append, List.length_take, List.length_drop]; simp only [List.length_cons, List.length_nil]; omega))]
    have mp : (ws.take at_ ++ [b] ++ ws.drop at_ ++ [b']).map tx = (ws.take at_ ++ [b] ++ ws.drop at_).map tx ++ [tx b'] := List.map_append
    rw [mp]
  · have dz : decide (((z : Nat) : Int) = 1) = false := decide_eq_false (by omega)
    refine ⟨c3, k3, at_, b, m, [], by omega, hb, hm, hm2, h1, h2, h3, Nat.zero_le _, (fun w hw => by cases hw), ?_⟩
    simp only [nexts, picks, e_nx, b_ok, b_exc, s_ok, s_exc, e_seq, t_nx, t_ret, t_exc, t_bk, t_ct, e_name, nm_fz, nm_own, o_val, o_plc, o_tru, r_val, r_plc, p_some, pb_some, j_some, j_none, e_set, set_val, f_val, fs_nil, fs_val, frc_some, l_nil, l_cons, lc_some, e_ret, ret_val, e_ifS, w_nx, w_ret, w_exc, lp_nx, e_call, ld_nil, ld_val, ldc_some, bk_nil, bk_val, ro_ret, ro_exc, ro_nx, e_mcons, e_nil, e_C, e_P1, e_P2, e_B2, e_PL, e_and, e_or, e_not, e_bv, e_if, e_tru, tru_some, e_drop, e_fr, fk_some, e_raise, e_try, try_ret, try_nx, try_exc, unb_ret, e_xf, xf_some, e_xis, xi_some, e_part, e_nopart, part_int, e_sl, e_andV, e_orV, e_notV, and_bl, or_bl, not_bl, e_isi, isi_some, td_non, td_bl, td_int, td_tx, td_tup, td_lst, e_chain, ch_t, ch_f, e_put, e_for, e_iter, it_lst, it_tup, it_tx, e_enum, en_lst, e_comp, e_yes, e_meth, ck_lst, zl_nil, zl_cons, z_lstF, z_tup, fzl_nil, fzl_cons, fz_lstE, fz_tupE, cut_nn, cut_0n, cut_n0, cut_00, z_tx, z_int, z_bl, z_non, z_lst, fz_tx, fz_int, fz_bl, fz_non, g_lenL, g_lenT, g_lt, g_le, g_gt, g_ge, g_add, g_sub, g_eqS, g_eqI, g_neS, g_neI, g_in1, g_nin1, Option.bind_some, Option.map_some, List.getElem?_cons_zero, List.getElem?_cons_succ, List.set_cons_zero, List.set_cons_succ, List.length_cons, List.length_nil, if_true, if_false, ite_true, ite_false, decide_eq_true_eq, Bool.not_eq_true', decide_eq_false_iff_not, Bool.false_eq_true, reduceIte, eq_self, Nat.reduceAdd, Nat.reduceLT, Nat.reduceSub, Nat.zero_add, Bool.not_true, Bool.not_false, and_self, and_true, true_and, List.map_cons, List.map_nil, List.replicate_succ, List.replicate_zero, List.cons_append, List.nil_append, Bool.and_true, Bool.true_and, Bool.and_self, nm_own z_stm, e3, dz, List.append_nil]
end K85

namespace K85
open PySem PySem.Spec PyProof.Rows L2 Gc
theorem equals : ∀ n, F__law_equal n = F_equal n
  | 0 => rfl
  | n + 1 => by
    show runD [0, 1] 2 3 (m__law_equal (F__law_equal n)) = runD [0, 1] 2 3 (m_equal (F_equal n))
    rw [equals n]
    rfl
theorem eq_str {n : Nat} {x : Str} : F_equal (n + 1) [.str x, .str x] = .ret (.bl true) [some (.str x), some (.str x)] := by
  obtain ⟨a⟩ := x
  have e : D.str ⟨a⟩ = tx a.toList := by
    unfold tx
    rw [Array.toArray_toList]
  rw [e]
  exact eq_tx
theorem lay_10 {z : Nat} : ∀ {r : List (Nat × List Nat)}, (∀ x ∈ r, 10 ∉ x.2) → 10 ∉ lay r ++ List.replicate z 32
  | [], _ => by
    show 10 ∉ [] ++ List.replicate z 32
    rw [List.nil_append]
    intro h
    have := List.eq_of_mem_replicate h
    omega
  | (s, w) :: r, h => by
    have ih := lay_10 (z := z) (r := r) fun x hx => h x (List.mem_cons_of_mem _ hx)
    intro hm
    have e : lay ((s, w) :: r) ++ List.replicate z 32 = List.replicate s 32 ++ (w ++ (lay r ++ List.replicate z 32)) := by
      show (List.replicate s 32 ++ (w ++ lay r)) ++ List.replicate z 32 = _
      simp only [List.append_assoc]
    rw [e] at hm
    rcases List.mem_append.mp hm with hm | hm
    · have := List.eq_of_mem_replicate hm
      omega
    · rcases List.mem_append.mp hm with hm | hm
      · exact h (s, w) List.mem_cons_self hm
      · exact ih hm
theorem pls_app : ∀ (r1 r2 : List (Nat × List Nat)) (n : Nat), pls n (r1 ++ r2) = pls n r1 ++ pls (n + (lay r1).length) r2
  | [], r2, n => rfl
  | (s, w) :: r1, r2, n => by
    have ih := pls_app r1 r2 (n + s + w.length)
    show D.int ((n + s + 1 : Nat) : Int) :: pls (n + s + w.length) (r1 ++ r2) = D.int ((n + s + 1 : Nat) : Int) :: (pls (n + s + w.length) r1 ++ pls (n + (List.replicate s 32 ++ (w ++ lay r1)).length) r2)
    rw [ih, List.length_append, List.length_append, List.length_replicate]
    rw [show n + s + w.length + (lay r1).length = n + (s + (w.length + (lay r1).length)) by omega]
theorem pls_len : ∀ (r : List (Nat × List Nat)) (n : Nat), (pls n r).length = r.length
  | [], _ => rfl
  | (s, w) :: r, n => congrArg (· + 1) (pls_len r _)
theorem pls_fz : ∀ (r : List (Nat × List Nat)) (n : Nat), isFzL (pls n r) = true
  | [], _ => rfl
  | (s, w) :: r, n => pls_fz r _
theorem zip_split : ∀ {seps : List Nat} {w1 w2 : List (List Nat)} {b : List Nat}, seps.length = (w1 ++ b :: w2).length → ∃ (a : List Nat) (s : Nat) (c : List Nat), a.length = w1.length ∧ c.length = w2.length ∧ seps.zip (w1 ++ b :: w2) = a.zip w1 ++ (s, b) :: c.zip w2
  | [], [], _, _, h => by simp at h
  | s :: seps, [], w2, b, h => ⟨[], s, seps, rfl, by simpa using h, rfl⟩
  | [], _ :: _, _, _, h => by simp at h
  | s :: seps, v :: w1, w2, b, h => by
    obtain ⟨a, t, c, h1, h2, h3⟩ := zip_split (seps := seps) (w1 := w1) (w2 := w2) (b := b) (by simpa using h)
    exact ⟨s :: a, t, c, by simp [h1], h2, by
      show (s, v) :: seps.zip (w1 ++ b :: w2) = (s, v) :: (a.zip w1 ++ (t, b) :: c.zip w2)
      rw [h3]⟩
theorem bd_str {b : List Nat} {m : D} (h : Bd b m) : ∃ x, m = .str x := by
  rcases h with ⟨rfl, _⟩ | ⟨rfl, _⟩ | ⟨rfl, _⟩ <;> exact ⟨_, rfl⟩
def ls5 : MS := (mPut [0] (.tp [(.nm 5), (.nm 6)]) (mCall F__law_laid (mCons true (mName 1) (mCons true (mName 2) mNil))))
def ls6 : MS := (mIfS (mB2 true gIsN (mName 4) (mC .non)) (mRet [0] (mCall (F__law_equal 12) (mCons true (mCall F__law_told (mCons true (mName 5) mNil)) (mCons true (mFr gTup (mCons true (mP2 true gIx (mName 6) (mName 12)) (mCons true (mName 4) mNil))) mNil)))) mNx)
theorem laids : ∀ {ns : List Int} {c : Int} {k : Nat} {W : List (List Nat)} (hw : ∀ w ∈ W, w.length ≤ 8) (hn : W.length ≤ 18) (x0 x3 x4 x5 x6 x7 x8 x9 x10 x11 x12 x13 x14 x15 : Option D), ∃ (c' : Int) (k' : Nat) (seps : List Nat) (z : Nat), seps.length = W.length ∧ Gd none (seps.zip W) ∧ z ≤ 2 ∧ (lay (seps.zip W) ++ List.replicate z 32).length ≤ 200 ∧
    ls5 [x0, some (stm ns c k), some (.lst true (W.map tx)), x3, x4, x5, x6, x7, x8, x9, x10, x11, x12, x13, x14, x15] =
      .nx [x0, some (stm ns c' k'), some (.lst false (W.map tx)), x3, x4, some (tx (lay (seps.zip W) ++ List.replicate z 32)), some (.lst false (pls 0 (seps.zip W) ++ [.int (((lay (seps.zip W) ++ List.replicate z 32).length + 1 : Nat) : Int)])), x7, x8, x9, x10, x11, x12, x13, x14, x15] := fun {ns c k W} hw hn x0 x3 x4 x5 x6 x7 x8 x9 x10 x11 x12 x13 x14 x15 => by
  obtain ⟨c', k', seps, z, h1, h2, h3, h4, h5⟩ := laid_ok ns c k W hw hn
  refine ⟨c', k', seps, z, h1, h2, h3, h4, ?_⟩
  have call := call_pp (i := 1) (j := 2) (ρ := [x0, some (stm ns c k), some (.lst true (W.map tx)), x3, x4, x5, x6, x7, x8, x9, x10, x11, x12, x13, x14, x15]) (by decide) rfl rfl h5
  have fzt : fzL (pls 0 (seps.zip W) ++ [.int (((lay (seps.zip W) ++ List.replicate z 32).length + 1 : Nat) : Int)]) = pls 0 (seps.zip W) ++ [.int (((lay (seps.zip W) ++ List.replicate z 32).length + 1 : Nat) : Int)] := fzL_of _ (by rw [isFzL_app, pls_fz]; rfl)
  unfold ls5
  simp only [e_nx, b_ok, b_exc, s_ok, s_exc, e_seq, t_nx, t_ret, t_exc, t_bk, t_ct, e_name, nm_fz, nm_own, o_val, o_plc, o_tru, r_val, r_plc, p_some, pb_some, j_some, j_none, e_set, set_val, f_val, fs_nil, fs_val, frc_some, l_nil, l_cons, lc_some, e_ret, ret_val, e_ifS, w_nx, w_ret, w_exc, lp_nx, e_call, ld_nil, ld_val, ldc_some, bk_nil, bk_val, ro_ret, ro_exc, ro_nx, e_mcons, e_nil, e_C, e_P1, e_P2, e_B2, e_PL, e_and, e_or, e_not, e_bv, e_if, e_tru, tru_some, e_drop, e_fr, fk_some, e_raise, e_try, try_ret, try_nx, try_exc, unb_ret, e_xf, xf_some, e_xis, xi_some, e_part, e_nopart, part_int, e_sl, e_andV, e_orV, e_notV, and_bl, or_bl, not_bl, e_isi, isi_some, td_non, td_bl, td_int, td_tx, td_tup, td_lst, e_chain, ch_t, ch_f, e_put, e_for, e_iter, it_lst, it_tup, it_tx, e_enum, en_lst, e_comp, e_yes, e_meth, ck_lst, zl_nil, zl_cons, z_lstF, z_tup, fzl_nil, fzl_cons, fz_lstE, fz_tupE, cut_nn, cut_0n, cut_n0, cut_00, z_tx, z_int, z_bl, z_non, z_lst, fz_tx, fz_int, fz_bl, fz_non, g_lenL, g_lenT, g_lt, g_le, g_gt, g_ge, g_add, g_sub, g_eqS, g_eqI, g_neS, g_neI, g_in1, g_nin1, Option.bind_some, Option.map_some, List.getElem?_cons_zero, List.getElem?_cons_succ, List.set_cons_zero, List.set_cons_succ, List.length_cons, List.length_nil, if_true, if_false, ite_true, ite_false, decide_eq_true_eq, Bool.not_eq_true', decide_eq_false_iff_not, Bool.false_eq_true, reduceIte, eq_self, Nat.reduceAdd, Nat.reduceLT, Nat.reduceSub, Nat.zero_add, Bool.not_true, Bool.not_false, and_self, and_true, true_and, List.map_cons, List.map_nil, List.replicate_succ, List.replicate_zero, List.cons_append, List.nil_append, Bool.and_true, Bool.true_and, Bool.and_self, nm_own z_stm, call, fzt]
  exact put_some rfl
/-- a wrong word is told of -/
theorem end_bad {ns : List Int} {c : Int} {k at_ : Nat} {w1 w2 : List (List Nat)} {b : List Nat} {m : D} (x3 x7 x8 x9 x10 x11 x13 x14 x15 : Option D) (rest : MS) (ha : w1.length = at_) (hv : ∀ w ∈ w1, V w) (hb : Bd b m) (hm : isFz m = true) (hm2 : m ≠ .non)
    (hw : ∀ w ∈ w1 ++ b :: w2, w ≠ [] ∧ w.length ≤ 8 ∧ 10 ∉ w) (hn : (w1 ++ b :: w2).length ≤ 18) :
    ∃ ρ, mSeq ls5 (mSeq ls6 rest) [some (.scr ns), some (stm ns c k), some (.lst true ((w1 ++ b :: w2).map tx)), x3, some m, none, none, x7, x8, x9, x10, x11, some (.int (at_ : Int)), x13, x14, x15] = .ret (.bl true) ρ := by
  have L : (lim : Nat) = 16777216 := rfl
  obtain ⟨c', k', seps, z, h1, h2, h3, h4, h5⟩ := laids (ns := ns) (c := c) (k := k) (W := w1 ++ b :: w2) (fun w h => (hw w h).2.1) hn (some (.scr ns)) x3 (some m) none none x7 x8 x9 x10 x11 (some (.int (at_ : Int))) x13 x14 x15
  obtain ⟨a, s, cc, ea, ec, ez⟩ := zip_split h1
  rw [seq_nx h5]
  rw [ez] at h2 h4 ⊢
  have mem : ∀ x ∈ a.zip w1 ++ (s, b) :: cc.zip w2, x.2 ∈ w1 ++ b :: w2 := fun x hx => by
    rw [← ez] at hx
    exact (List.of_mem_zip hx).2
  have told := scan_wrong (r1 := a.zip w1) (r2 := cc.zip w2) (s := s) (z := z) (b := b) (m := m) rfl h4 (lay_10 fun x hx => (hw _ (mem x hx)).2.2) h2 (fun x hx => hv _ (List.of_mem_zip hx).2) hb (fun x hx => (hw _ (mem x hx)).1) hm
  have place : gIx (.lst false (pls 0 (a.zip w1 ++ (s, b) :: cc.zip w2) ++ [.int (((lay (a.zip w1 ++ (s, b) :: cc.zip w2) ++ List.replicate z 32).length + 1 : Nat) : Int)])) (.int (at_ : Int)) = some (.int (((lay (a.zip w1)).length + s + 1 : Nat) : Int)) := by
    have la : (pls 0 (a.zip w1)).length = at_ := by rw [pls_len, List.length_zip, ea]; omega
    rw [g_ixL, pls_app, List.append_assoc, List.getElem?_append_right (by omega), la, Nat.sub_self, Nat.zero_add]
    rfl
  have cT : ∀ ρ, callF F__law_told [.val (tx (lay (a.zip w1 ++ (s, b) :: cc.zip w2) ++ List.replicate z 32))] ρ = .ok (.val (.tup [.int (((lay (a.zip w1)).length + s + 1 : Nat) : Int), m])) ρ := fun ρ => call_v told rfl
  obtain ⟨x, rfl⟩ := bd_str hb
  have cE : ∀ ρ, callF (F_equal 12) [.val (.tup [.int (((lay (a.zip w1)).length + s + 1 : Nat) : Int), .str x]), .val (.tup [.int (((lay (a.zip w1)).length + s + 1 : Nat) : Int), .str x])] ρ = .ok (.val (.bl true)) ρ := fun ρ =>
    call_vv (d := .tup [.int (((lay (a.zip w1)).length + s + 1 : Nat) : Int), .str x]) (e := .tup [.int (((lay (a.zip w1)).length + s + 1 : Nat) : Int), .str x]) (eq_tup (n := 11) (xs := [.int (((lay (a.zip w1)).length + s + 1 : Nat) : Int), .str x]) rfl (by show 2 ≤ lim; omega) fun y hy => by
      rcases List.mem_cons.mp hy with rfl | hy
      · exact ⟨_, rfl, eq_int (n := 10)⟩
      · rw [List.mem_singleton.mp hy]
        exact ⟨_, rfl, eq_str (n := 10)⟩) rfl
  have gn : gIsN (.str x) .non = some true := rfl
  have gt : ∀ ds : List D, ds.length = 2 → Gc.gTup ds = some (D.tup ds) := fun ds h => g_tup (by rw [h]; decide)
  have zp : isFzL (pls 0 (a.zip w1 ++ (s, b) :: cc.zip w2) ++ [.int (((lay (a.zip w1 ++ (s, b) :: cc.zip w2) ++ List.replicate z 32).length + 1 : Nat) : Int)]) = true := by rw [isFzL_app, pls_fz]; rfl
  have q6 : ∃ ρ, ls6 [some (.scr ns), some (stm ns c' k'), some (.lst false ((w1 ++ b :: w2).map tx)), x3, some (.str x), some (tx (lay (a.zip w1 ++ (s, b) :: cc.zip w2) ++ List.replicate z 32)), some (.lst false (pls 0 (a.zip w1 ++ (s, b) :: cc.zip w2) ++ [.int (((lay (a.zip w1 ++ (s, b) :: cc.zip w2) ++ List.replicate z 32).length + 1 : Nat) : Int)])), x7, x8, x9, x10, x11, some (.int (at_ : Int)), x13, x14, x15] = .ret (.bl true) ρ := by
    unfold ls6
    simp only [equals, e_nx, b_ok, b_exc, s_ok, s_exc, e_seq, t_nx, t_ret, t_exc, t_bk, t_ct, e_name, nm_fz, nm_own, o_val, o_plc, o_tru, r_val, r_plc, p_some, pb_some, j_some, j_none, e_set, set_val, f_val, fs_nil, fs_val, frc_some, l_nil, l_cons, lc_some, e_ret, ret_val, e_ifS, w_nx, w_ret, w_exc, lp_nx, e_call, ld_nil, ld_val, ldc_some, bk_nil, bk_val, ro_ret, ro_exc, ro_nx, e_mcons, e_nil, e_C, e_P1, e_P2, e_B2, e_PL, e_and, e_or, e_not, e_bv, e_if, e_tru, tru_some, e_drop, e_fr, fk_some, e_raise, e_try, try_ret, try_nx, try_exc, unb_ret, e_xf, xf_some, e_xis, xi_some, e_part, e_nopart, part_int, e_sl, e_andV, e_orV, e_notV, and_bl, or_bl, not_bl, e_isi, isi_some, td_non, td_bl, td_int, td_tx, td_tup, td_lst, e_chain, ch_t, ch_f, e_put, e_for, e_iter, it_lst, it_tup, it_tx, e_enum, en_lst, e_comp, e_yes, e_meth, ck_lst, zl_nil, zl_cons, z_lstF, z_tup, fzl_nil, fzl_cons, fz_lstE, fz_tupE, cut_nn, cut_0n, cut_n0, cut_00, z_tx, z_int, z_bl, z_non, z_lst, fz_tx, fz_int, fz_bl, fz_non, g_lenL, g_lenT, g_lt, g_le, g_gt, g_ge, g_add, g_sub, g_eqS, g_eqI, g_neS, g_neI, g_in1, g_nin1, Option.bind_some, Option.map_some, List.getElem?_cons_zero, List.getElem?_cons_succ, List.set_cons_zero, List.set_cons_succ, List.length_cons, List.length_nil, if_true, if_false, ite_true, ite_false, decide_eq_true_eq, Bool.not_eq_true', decide_eq_false_iff_not, Bool.false_eq_true, reduceIte, eq_self, Nat.reduceAdd, Nat.reduceLT, Nat.reduceSub, Nat.zero_add, Bool.not_true, Bool.not_false, and_self, and_true, true_and, List.map_cons, List.map_nil, List.replicate_succ, List.replicate_zero, List.cons_append, List.nil_append, Bool.and_true, Bool.true_and, Bool.and_self, z_str, fz_str, gn, cT, zp, place, gt, cE]
    exact ⟨_, rfl⟩
  obtain ⟨ρ, q6⟩ := q6
  exact ⟨ρ, seq_ret q6⟩
end K85

namespace K85
open PySem PySem.Spec PyProof.Rows L2 Gc
theorem scan_blank {r : List (Nat × List Nat)} {z n : Nat} {l : List Nat} (el : l = List.replicate n 32 ++ (lay r ++ List.replicate z 32)) (hl : l.length ≤ 200) (h10 : 10 ∉ l) (g : Gd none r) (hv : ∀ x ∈ r, V x.2) :
    F_scan [tx l] = .ret (.lst true (toks n r ++ [tE l])) [some (tx l)] := by
  have L : (lim : Nat) = 16777216 := rfl
  have hn : ∀ x ∈ r, x.2 ≠ [] := fun x hx => v_ne (hv x hx)
  have ap : Apart (List.replicate z 32) r := apart_gd (T := List.replicate z 32) (sep_tail z) r none [] (by rw [List.append_nil]; exact g) (by rw [List.append_nil]; exact hn)
  have t1 := turns_le r hn
  have t2 := r_len r hn
  have ll : l.length = n + ((lay r).length + z) := by rw [el, List.length_append, List.length_append, List.length_replicate, List.length_replicate]
  have w0 := w_sps (l := l) (ts := []) (by omega) n (4000 - n) [] (lay r ++ List.replicate z 32) (by rw [el]; rfl)
  have w1 := w_lay hl (List.replicate z 32) r (List.replicate n 32) [] ((4000 - n - turns r - z) + z) el hv ap (by simp only [List.length_nil]; omega)
  have w2 := w_sps (l := l) (ts := [] ++ toks n r) (by omega) z (4000 - n - turns r - z) (List.replicate n 32 ++ lay r) [] (by rw [el, List.append_nil, List.append_assoc])
  simp only [List.length_nil, Nat.zero_add, List.nil_append, List.length_replicate, List.length_append] at w0 w1 w2
  rw [show 4000 - n + n = 4000 by omega] at w0
  rw [show 4000 - n - turns r - z + z + turns r = 4000 - n by omega] at w1
  refine scan_ok (a := n + (lay r).length + z) hl h10 (by rw [toks_len]; omega) ?_
  rw [w0, w1, w2]
  obtain ⟨m, hm⟩ : ∃ m, 4000 - n - turns r - z = m + 1 := ⟨4000 - n - turns r - z - 1, by omega⟩
  rw [hm]
  unfold W
  rw [e_while, cnd_f (by omega) (by omega), s_ok, if_neg Bool.false_ne_true]
theorem toks_get : ∀ (r : List (Nat × List Nat)) (n i : Nat) (x : Nat × List Nat), r[i]? = some x → ∃ p : D, (pls n r)[i]? = some p ∧ isFz p = true ∧ (toks n r)[i]? = some (.tup [kn (kc x.2), tx x.2, p])
  | [], _, _, _, h => by simp at h
  | (s, w) :: r, n, 0, x, h => by
    have h : (s, w) = x := Option.some.inj h
    subst h
    exact ⟨_, rfl, rfl, rfl⟩
  | (s, w) :: r, n, i + 1, x, h => by
    rw [List.getElem?_cons_succ] at h
    obtain ⟨p, h1, h2, h3⟩ := toks_get r (n + s + w.length) i x h
    exact ⟨p, h1, h2, h3⟩
theorem toks_fz : ∀ (r : List (Nat × List Nat)) (n : Nat), isFzL (toks n r) = true
  | [], _ => rfl
  | (s, w) :: r, n => by
    show ((isFz (kn (kc w)) && (isFz (tx w) && true)) && isFzL (toks (n + s + w.length) r)) = true
    rw [z_kn, toks_fz r _]
    rfl
theorem kn_str (i : Fin 4) : ∃ x, kn i = .str x := by match i with | 0 => exact ⟨_, rfl⟩ | 1 => exact ⟨_, rfl⟩ | 2 => exact ⟨_, rfl⟩ | 3 => exact ⟨_, rfl⟩
theorem toks_shape : ∀ (r : List (Nat × List Nat)) (n : Nat) (d : D), d ∈ toks n r → ∃ (x : Str) (w : List Nat) (p : Int), d = .tup [.str x, tx w, .int p]
  | [], _, _, h => by cases h
  | (s, w) :: r, n, d, h => by
    rcases List.mem_cons.mp h with rfl | h
    · obtain ⟨x, e⟩ := kn_str (kc w)
      exact ⟨x, w, _, by rw [e]⟩
    · exact toks_shape r _ d h
theorem eq_tok {n : Nat} {x : Str} {w : List Nat} {p : Int} : F_equal (n + 2) [.tup [.str x, tx w, .int p], .tup [.str x, tx w, .int p]] = .ret (.bl true) [some (.tup [.str x, tx w, .int p]), some (.tup [.str x, tx w, .int p])] :=
  eq_tup (n := n + 1) (xs := [.str x, tx w, .int p]) rfl (by show (3 : Nat) ≤ 16777216; decide) fun y hy => by
    rcases List.mem_cons.mp hy with rfl | hy
    · exact ⟨_, rfl, eq_str⟩
    · rcases List.mem_cons.mp hy with rfl | hy
      · exact ⟨_, rfl, eq_tx⟩
      · rw [List.mem_singleton.mp hy]
        exact ⟨_, rfl, eq_int⟩
/-- what is due -/
def due (n : Nat) (r : List (Nat × List Nat)) (l : List Nat) : List D := toks n r ++ [tE l]
theorem due_fz {n : Nat} {r : List (Nat × List Nat)} {l : List Nat} : isFzL (due n r l) = true := by
  unfold due
  rw [isFzL_app, toks_fz]
  rfl
theorem due_shape {n : Nat} {r : List (Nat × List Nat)} {l : List Nat} {d : D} (h : d ∈ due n r l) : ∃ (x : Str) (w : List Nat) (p : Int), d = .tup [.str x, tx w, .int p] := by
  rcases List.mem_append.mp h with h | h
  · exact toks_shape r n d h
  · exact ⟨_, _, _, List.mem_singleton.mp h⟩
theorem eq_due {m n : Nat} {r : List (Nat × List Nat)} {l : List Nat} {o1 o2 : Bool} (hl : (due n r l).length ≤ lim) : F_equal (m + 3) [.lst o1 (due n r l), .lst o2 (due n r l)] = .ret (.bl true) [some (.lst o1 (due n r l)), some (.lst o2 (due n r l))] :=
  eq_lst (n := m + 2) due_fz hl fun x hx => by
    obtain ⟨s, w, p, rfl⟩ := due_shape hx
    exact ⟨_, rfl, eq_tok⟩
def cpi : M (List D) := (mEnum (mCons true (mName 2) mNil))
def cpe : M Op := (mFr gTup (mCons true (mCall F__law_parts (mCons true (mName 13) mNil)) (mCons true (mName 13) (mCons true (mP2 true gIx (mName 6) (mName 14)) mNil))))
theorem enum_get : ∀ (ws : List (List Nat)) (n : Nat) (d : D), d ∈ enumD n (ws.map tx) → ∃ i w, ws[i]? = some w ∧ d = .tup [.int ((n + i : Nat) : Int), tx w]
  | [], _, _, h => by cases h
  | w :: ws, n, d, h => by
    rcases List.mem_cons.mp h with rfl | h
    · exact ⟨0, w, rfl, rfl⟩
    · obtain ⟨i, v, h1, h2⟩ := enum_get ws (n + 1) d h
      exact ⟨i + 1, v, h1, by rw [h2, show n + 1 + i = n + (i + 1) by omega]⟩
/-- the tokens one by one -/
def pk (ts : List D) : D → D
  | .tup [.int i, _] => ts.getD i.toNat .non
  | _ => .non
theorem enum_map : ∀ (ts : List D) (ws : List (List Nat)) (n : Nat) (all : List D), ts.length = ws.length → (∀ i, ts[i]? = all[n + i]?) → (enumD n (ws.map tx)).map (pk all) = ts
  | [], [], _, _, _, _ => rfl
  | _ :: _, [], _, _, h, _ => by cases h
  | [], _ :: _, _, _, h, _ => by cases h
  | t :: ts, w :: ws, n, all, h, g => by
    have g0 := g 0
    rw [Nat.add_zero] at g0
    have e : pk all (.tup [.int (n : Int), tx w]) = t := by
      show all.getD n .non = t
      rw [List.getD_eq_getElem?_getD, ← g0]
      rfl
    show pk all (.tup [.int (n : Int), tx w]) :: (enumD (n + 1) (ws.map tx)).map (pk all) = t :: ts
    rw [e, enum_map ts ws (n + 1) all (by simpa using h) fun i => by
      have := g (i + 1)
      rw [List.getElem?_cons_succ] at this
      rw [this, show n + (i + 1) = n + 1 + i by omega]]
end K85

namespace K85
open PySem PySem.Spec PyProof.Rows L2 Gc
theorem comp_due {ns : List Int} {c : Int} {k : Nat} {ws : List (List Nat)} {seps : List Nat} {r : List (Nat × List Nat)} {l : List Nat} {x3 : Option D} (er : r = seps.zip ws) (hs : seps.length = ws.length) (h8 : ∀ w ∈ ws, w.length ≤ 8) (hn : ws.length ≤ 18) :
    (mComp [0] (.tp [(.nm 14), (.nm 13)]) cpi mYes cpe [14, 13]) [some (.scr ns), some (stm ns c k), some (.lst false (ws.map tx)), x3, some .non, some (tx l), some (.lst false (pls 0 r ++ [.int ((l.length + 1 : Nat) : Int)])), none, none, none, none, none, none, none, none, none] = .ok (.val (.lst true (toks 0 r))) [some (.scr ns), some (stm ns c k), some (.lst false (ws.map tx)), x3, some .non, some (tx l), some (.lst false (pls 0 r ++ [.int ((l.length + 1 : Nat) : Int)])), none, none, none, none, none, none, none, none, none] := by
  have L : (lim : Nat) = 16777216 := rfl
  have rl : r.length = ws.length := by rw [er, List.length_zip, hs, Nat.min_self]
  have it : cpi [some (.scr ns), some (stm ns c k), some (.lst false (ws.map tx)), x3, some .non, some (tx l), some (.lst false (pls 0 r ++ [.int ((l.length + 1 : Nat) : Int)])), none, none, none, none, none, none, none, none, none] = .ok (enumD 0 (ws.map tx)) [some (.scr ns), some (stm ns c k), some (.lst false (ws.map tx)), x3, some .non, some (tx l), some (.lst false (pls 0 r ++ [.int ((l.length + 1 : Nat) : Int)])), none, none, none, none, none, none, none, none, none] := by
    unfold cpi
    simp only [e_nx, b_ok, b_exc, s_ok, s_exc, e_seq, t_nx, t_ret, t_exc, t_bk, t_ct, e_name, nm_fz, nm_own, o_val, o_plc, o_tru, r_val, r_plc, p_some, pb_some, j_some, j_none, e_set, set_val, f_val, fs_nil, fs_val, frc_some, l_nil, l_cons, lc_some, e_ret, ret_val, e_ifS, w_nx, w_ret, w_exc, lp_nx, e_call, ld_nil, ld_val, ldc_some, bk_nil, bk_val, ro_ret, ro_exc, ro_nx, e_mcons, e_nil, e_C, e_P1, e_P2, e_B2, e_PL, e_and, e_or, e_not, e_bv, e_if, e_tru, tru_some, e_drop, e_fr, fk_some, e_raise, e_try, try_ret, try_nx, try_exc, unb_ret, e_xf, xf_some, e_xis, xi_some, e_part, e_nopart, part_int, e_sl, e_andV, e_orV, e_notV, and_bl, or_bl, not_bl, e_isi, isi_some, td_non, td_bl, td_int, td_tx, td_tup, td_lst, e_chain, ch_t, ch_f, e_put, e_for, e_iter, it_lst, it_tup, it_tx, e_enum, en_lst, e_comp, e_yes, e_meth, ck_lst, zl_nil, zl_cons, z_lstF, z_tup, fzl_nil, fzl_cons, fz_lstE, fz_tupE, cut_nn, cut_0n, cut_n0, cut_00, z_tx, z_int, z_bl, z_non, z_lst, fz_tx, fz_int, fz_bl, fz_non, g_lenL, g_lenT, g_lt, g_le, g_gt, g_ge, g_add, g_sub, g_eqS, g_eqI, g_neS, g_neI, g_in1, g_nin1, Option.bind_some, Option.map_some, List.getElem?_cons_zero, List.getElem?_cons_succ, List.set_cons_zero, List.set_cons_succ, List.length_cons, List.length_nil, if_true, if_false, ite_true, ite_false, decide_eq_true_eq, Bool.not_eq_true', decide_eq_false_iff_not, Bool.false_eq_true, reduceIte, eq_self, Nat.reduceAdd, Nat.reduceLT, Nat.reduceSub, Nat.zero_add, Bool.not_true, Bool.not_false, and_self, and_true, true_and, List.map_cons, List.map_nil, List.replicate_succ, List.replicate_zero, List.cons_append, List.nil_append, Bool.and_true, Bool.true_and, Bool.and_self, zl_tx]
    rw [show fzL (ws.map tx) = ws.map tx from fzL_of _ (zl_tx ws)]
  have gt : ∀ ds : List D, ds.length = 3 → Gc.gTup ds = some (D.tup ds) := fun ds h => g_tup (by rw [h]; decide)
  rw [e_comp, it, b_ok]
  show (if compOk [0] [14, 13] [some (.scr ns), some (stm ns c k), some (.lst false (ws.map tx)), x3, some .non, some (tx l), some (.lst false (pls 0 r ++ [.int ((l.length + 1 : Nat) : Int)])), none, none, none, none, none, none, none, none, none] = true then (mcLoop [0] (.tp [(.nm 14), (.nm 13)]) mYes cpe [14, 13] (enumD 0 (ws.map tx)) [] [some (.scr ns), some (stm ns c k), some (.lst false (ws.map tx)), x3, some .non, some (tx l), some (.lst false (pls 0 r ++ [.int ((l.length + 1 : Nat) : Int)])), none, none, none, none, none, none, none, none, none]).nox.bind fun out ρ2 => R.ok (Op.val (.lst true out)) (restR [some (.scr ns), some (stm ns c k), some (.lst false (ws.map tx)), x3, some .non, some (tx l), some (.lst false (pls 0 r ++ [.int ((l.length + 1 : Nat) : Int)])), none, none, none, none, none, none, none, none, none] [14, 13] ρ2) else .bad) = _
  rw [if_pos (by rfl), mc_map (f := pk (toks 0 r)) (fun d hd => ?_) (by rw [enumD_len, List.length_map]; simp only [List.length_nil]; omega)]
  · rw [List.nil_append, enum_map (toks 0 r) ws 0 (toks 0 r) (by rw [toks_len, rl]) (fun i => by rw [Nat.zero_add])]
    rfl
  · obtain ⟨i, w, h1, rfl⟩ := enum_get ws 0 d hd
    rw [Nat.zero_add]
    have hi : i < ws.length := (List.getElem?_eq_some_iff.mp h1).1
    obtain ⟨si, hsi⟩ : ∃ si, seps[i]? = some si := ⟨seps[i], List.getElem?_eq_getElem (by omega)⟩
    have g : r[i]? = some (si, w) := by
      rw [er, List.getElem?_zip_eq_some]
      exact ⟨hsi, h1⟩
    obtain ⟨p, p1, p2, p3⟩ := toks_get r 0 i _ g
    have lw : w.length ≤ 8 := h8 w (List.mem_of_getElem? h1)
    have pe : pk (toks 0 r) (.tup [.int (i : Int), tx w]) = .tup [kn (kc w), tx w, p] := by
      show (toks 0 r).getD i .non = _
      rw [List.getD_eq_getElem?_getD, p3]
      rfl
    have gp : gIx (.lst false (pls 0 r ++ [.int ((l.length + 1 : Nat) : Int)])) (.int (i : Int)) = some p := by
      rw [g_ixL, List.getElem?_append_left (by rw [pls_len, rl]; exact hi), p1]
      exact k_some p2
    have zp : isFzL (pls 0 r ++ [.int ((l.length + 1 : Nat) : Int)]) = true := by rw [isFzL_app, pls_fz]; rfl
    have cq : ∀ ρ, callF F__law_parts [.val (tx w)] ρ = .ok (.val (kn (kc w))) ρ := fun ρ => call_v (parts_ok (by omega)) rfl
    have fk : fz (kn (kc w)) = kn (kc w) := fz_of _ (z_kn _)
    have fp : fz p = p := fz_of _ p2
    refine ⟨[some (.scr ns), some (stm ns c k), some (.lst false (ws.map tx)), x3, some .non, some (tx l), some (.lst false (pls 0 r ++ [.int ((l.length + 1 : Nat) : Int)])), none, none, none, none, none, none, some (tx w), some (.int (i : Int)), none], .val (.tup [kn (kc w), tx w, p]), [some (.scr ns), some (stm ns c k), some (.lst false (ws.map tx)), x3, some .non, some (tx l), some (.lst false (pls 0 r ++ [.int ((l.length + 1 : Nat) : Int)])), none, none, none, none, none, none, some (tx w), some (.int (i : Int)), none], [some (.scr ns), some (stm ns c k), some (.lst false (ws.map tx)), x3, some .non, some (tx l), some (.lst false (pls 0 r ++ [.int ((l.length + 1 : Nat) : Int)])), none, none, none, none, none, none, some (tx w), some (.int (i : Int)), none], rfl, ?_, ?_, rfl⟩
    · unfold cpe
      simp only [e_nx, b_ok, b_exc, s_ok, s_exc, e_seq, t_nx, t_ret, t_exc, t_bk, t_ct, e_name, nm_fz, nm_own, o_val, o_plc, o_tru, r_val, r_plc, p_some, pb_some, j_some, j_none, e_set, set_val, f_val, fs_nil, fs_val, frc_some, l_nil, l_cons, lc_some, e_ret, ret_val, e_ifS, w_nx, w_ret, w_exc, lp_nx, e_call, ld_nil, ld_val, ldc_some, bk_nil, bk_val, ro_ret, ro_exc, ro_nx, e_mcons, e_nil, e_C, e_P1, e_P2, e_B2, e_PL, e_and, e_or, e_not, e_bv, e_if, e_tru, tru_some, e_drop, e_fr, fk_some, e_raise, e_try, try_ret, try_nx, try_exc, unb_ret, e_xf, xf_some, e_xis, xi_some, e_part, e_nopart, part_int, e_sl, e_andV, e_orV, e_notV, and_bl, or_bl, not_bl, e_isi, isi_some, td_non, td_bl, td_int, td_tx, td_tup, td_lst, e_chain, ch_t, ch_f, e_put, e_for, e_iter, it_lst, it_tup, it_tx, e_enum, en_lst, e_comp, e_yes, e_meth, ck_lst, zl_nil, zl_cons, z_lstF, z_tup, fzl_nil, fzl_cons, fz_lstE, fz_tupE, cut_nn, cut_0n, cut_n0, cut_00, z_tx, z_int, z_bl, z_non, z_lst, fz_tx, fz_int, fz_bl, fz_non, g_lenL, g_lenT, g_lt, g_le, g_gt, g_ge, g_add, g_sub, g_eqS, g_eqI, g_neS, g_neI, g_in1, g_nin1, Option.bind_some, Option.map_some, List.getElem?_cons_zero, List.getElem?_cons_succ, List.set_cons_zero, List.set_cons_succ, List.length_cons, List.length_nil, if_true, if_false, ite_true, ite_false, decide_eq_true_eq, Bool.not_eq_true', decide_eq_false_iff_not, Bool.false_eq_true, reduceIte, eq_self, Nat.reduceAdd, Nat.reduceLT, Nat.reduceSub, Nat.zero_add, Bool.not_true, Bool.not_false, and_self, and_true, true_and, List.map_cons, List.map_nil, List.replicate_succ, List.replicate_zero, List.cons_append, List.nil_append, Bool.and_true, Bool.true_and, Bool.and_self, cq, zp, gp, fk, fp, gt]
    · rw [pe]
      show some (D.tup [fz (kn (kc w)), fz (tx w), fz p], _) = _
      rw [fk, fp]
      rfl
def ls7 : MS := (mSet 7 (mP2 true gAdd (mComp [0] (.tp [(.nm 14), (.nm 13)]) cpi mYes cpe [14, 13]) (mFr gLst (mCons true (mFr gTup (mCons true (mC (.str "end")) (mCons true (mC (.str "")) (mCons true (mP2 true gIx (mName 6) (mP1 gNeg (mC (.int 1)))) mNil)))) mNil))))
def ls8 : MS := (mIfS (mNot (mTru (mCall (F__law_equal 12) (mCons true (mFr gLst (mCons false (mCall F__law_told (mCons true (mName 5) mNil)) (mCons true (mCall F__law_told (mCons true (mName 5) mNil)) mNil))) (mCons true (mFr gLst (mCons true (mName 7) (mCons true (mName 7) mNil))) mNil))))) (mRet [0] (mC (.bl false))) mNx)
def ls9 : MS := (mSet 8 (mCall F_scan (mCons true (mName 5) mNil)))
def ls10 : MS := (mDrop (mMeth true isLst gApp (mName 8) (mCons true (mC .non) mNil)))
def ls11 : MS := (mIfS (mNot (mTru (mCall (F__law_equal 12) (mCons true (mCall F_scan (mCons true (mName 5) mNil)) (mCons true (mName 7) mNil))))) (mRet [0] (mC (.bl false))) mNx)
def ls12 : MS := (mSet 9 (mP2 true gMulX (mC (.str " ")) (mP2 true gSub (mC (.int 200)) (mPL gLen (mCons true (mName 5) mNil)))))
def ls13 : MS := (mSet 10 (mCall F__law_pick (mCons true (mName 1) (mCons true (mFr gLst (mCons true (mC .non) (mCons true (mFr gLst (mCons true (mName 5) mNil)) (mCons true (mP2 true gAdd (mName 5) (mC (.str "\n"))) (mCons true (mC (.str "\n")) (mCons true (mP2 true gAdd (mP2 true gAdd (mName 9) (mName 5)) (mC (.str " "))) (mCons true (mC (.int 7)) mNil))))))) mNil))))
def ls14 : MS := (mRet [0] (mAndV (mBv (mB2 true gEq (mCall F__law_told (mCons true (mName 10) mNil)) (mC (.str "text")))) (mIsi "list" (mCall F__law_told (mCons true (mP2 true gAdd (mName 9) (mName 5)) mNil)))))
theorem q7 {ns : List Int} {c : Int} {k : Nat} {ws : List (List Nat)} {seps : List Nat} {r : List (Nat × List Nat)} {l : List Nat} {x3 : Option D} (er : r = seps.zip ws) (hs : seps.length = ws.length) (h8 : ∀ w ∈ ws, w.length ≤ 8) (hn : ws.length ≤ 18) : ls7 [some (.scr ns), some (stm ns c k), some (.lst false (ws.map tx)), x3, some .non, some (tx l), some (.lst false (pls 0 r ++ [.int ((l.length + 1 : Nat) : Int)])), none, none, none, none, none, none, none, none, none] = .nx [some (.scr ns), some (stm ns c k), some (.lst false (ws.map tx)), x3, some .non, some (tx l), some (.lst false (pls 0 r ++ [.int ((l.length + 1 : Nat) : Int)])), some (.lst true (due 0 r l)), none, none, none, none, none, none, none, none] := by
  have L : (lim : Nat) = 16777216 := rfl
  have rl : r.length = ws.length := by rw [er, List.length_zip, hs, Nat.min_self]
  have cd := comp_due (ns := ns) (c := c) (k := k) (l := l) (x3 := x3) er hs h8 hn
  rw [e_comp] at cd
  have zp : isFzL (pls 0 r ++ [.int ((l.length + 1 : Nat) : Int)]) = true := by rw [isFzL_app, pls_fz]; rfl
  have gt : ∀ ds : List D, ds.length = 3 → Gc.gTup ds = some (D.tup ds) := fun ds h => g_tup (by rw [h]; decide)
  have gl1 : ∀ x, Gc.gLst [x] = some (D.lst true [x]) := fun x => g_lst (by show 1 ≤ lim; omega)
  have gx : gIx (.lst false (pls 0 r ++ [.int ((l.length + 1 : Nat) : Int)])) (.int (-1)) = some (.int ((l.length : Int) + 1)) := g_last rfl
  have cat : gAdd (.lst true (toks 0 r)) (.lst true [tE l]) = some (.lst true (due 0 r l)) := g_catL (toks_fz r 0) rfl (by rw [toks_len, rl]; simp only [List.length_cons, List.length_nil]; omega)
  have te : D.tup [.str "end", tx [], .int ((l.length : Int) + 1)] = tE l := rfl
  have ft : fz (tE l) = tE l := rfl
  unfold ls7
  rw [e_set, e_P2, e_comp, cd, b_ok, if_pos o_val]
  simp only [sE, e_nx, b_ok, b_exc, s_ok, s_exc, e_seq, t_nx, t_ret, t_exc, t_bk, t_ct, e_name, nm_fz, nm_own, o_val, o_plc, o_tru, r_val, r_plc, p_some, pb_some, j_some, j_none, e_set, set_val, f_val, fs_nil, fs_val, frc_some, l_nil, l_cons, lc_some, e_ret, ret_val, e_ifS, w_nx, w_ret, w_exc, lp_nx, e_call, ld_nil, ld_val, ldc_some, bk_nil, bk_val, ro_ret, ro_exc, ro_nx, e_mcons, e_nil, e_C, e_P1, e_P2, e_B2, e_PL, e_and, e_or, e_not, e_bv, e_if, e_tru, tru_some, e_drop, e_fr, fk_some, e_raise, e_try, try_ret, try_nx, try_exc, unb_ret, e_xf, xf_some, e_xis, xi_some, e_part, e_nopart, part_int, e_sl, e_andV, e_orV, e_notV, and_bl, or_bl, not_bl, e_isi, isi_some, td_non, td_bl, td_int, td_tx, td_tup, td_lst, e_chain, ch_t, ch_f, e_put, e_for, e_iter, it_lst, it_tup, it_tx, e_enum, en_lst, e_comp, e_yes, e_meth, ck_lst, zl_nil, zl_cons, z_lstF, z_tup, fzl_nil, fzl_cons, fz_lstE, fz_tupE, cut_nn, cut_0n, cut_n0, cut_00, z_tx, z_int, z_bl, z_non, z_lst, fz_tx, fz_int, fz_bl, fz_non, g_lenL, g_lenT, g_lt, g_le, g_gt, g_ge, g_add, g_sub, g_eqS, g_eqI, g_neS, g_neI, g_in1, g_nin1, Option.bind_some, Option.map_some, List.getElem?_cons_zero, List.getElem?_cons_succ, List.set_cons_zero, List.set_cons_succ, List.length_cons, List.length_nil, if_true, if_false, ite_true, ite_false, decide_eq_true_eq, Bool.not_eq_true', decide_eq_false_iff_not, Bool.false_eq_true, reduceIte, eq_self, Nat.reduceAdd, Nat.reduceLT, Nat.reduceSub, Nat.zero_add, Bool.not_true, Bool.not_false, and_self, and_true, true_and, List.map_cons, List.map_nil, List.replicate_succ, List.replicate_zero, List.cons_append, List.nil_append, Bool.and_true, Bool.true_and, Bool.and_self, zp, g_neg, gx, z_str, fz_str, gt]
  rw [te, gl1]
  simp only [e_nx, b_ok, b_exc, s_ok, s_exc, e_seq, t_nx, t_ret, t_exc, t_bk, t_ct, e_name, nm_fz, nm_own, o_val, o_plc, o_tru, r_val, r_plc, p_some, pb_some, j_some, j_none, e_set, set_val, f_val, fs_nil, fs_val, frc_some, l_nil, l_cons, lc_some, e_ret, ret_val, e_ifS, w_nx, w_ret, w_exc, lp_nx, e_call, ld_nil, ld_val, ldc_some, bk_nil, bk_val, ro_ret, ro_exc, ro_nx, e_mcons, e_nil, e_C, e_P1, e_P2, e_B2, e_PL, e_and, e_or, e_not, e_bv, e_if, e_tru, tru_some, e_drop, e_fr, fk_some, e_raise, e_try, try_ret, try_nx, try_exc, unb_ret, e_xf, xf_some, e_xis, xi_some, e_part, e_nopart, part_int, e_sl, e_andV, e_orV, e_notV, and_bl, or_bl, not_bl, e_isi, isi_some, td_non, td_bl, td_int, td_tx, td_tup, td_lst, e_chain, ch_t, ch_f, e_put, e_for, e_iter, it_lst, it_tup, it_tx, e_enum, en_lst, e_comp, e_yes, e_meth, ck_lst, zl_nil, zl_cons, z_lstF, z_tup, fzl_nil, fzl_cons, fz_lstE, fz_tupE, cut_nn, cut_0n, cut_n0, cut_00, z_tx, z_int, z_bl, z_non, z_lst, fz_tx, fz_int, fz_bl, fz_non, g_lenL, g_lenT, g_lt, g_le, g_gt, g_ge, g_add, g_sub, g_eqS, g_eqI, g_neS, g_neI, g_in1, g_nin1, Option.bind_some, Option.map_some, List.getElem?_cons_zero, List.getElem?_cons_succ, List.set_cons_zero, List.set_cons_succ, List.length_cons, List.length_nil, if_true, if_false, ite_true, ite_false, decide_eq_true_eq, Bool.not_eq_true', decide_eq_false_iff_not, Bool.false_eq_true, reduceIte, eq_self, Nat.reduceAdd, Nat.reduceLT, Nat.reduceSub, Nat.zero_add, Bool.not_true, Bool.not_false, and_self, and_true, true_and, List.map_cons, List.map_nil, List.replicate_succ, List.replicate_zero, List.cons_append, List.nil_append, Bool.and_true, Bool.true_and, Bool.and_self, cat]
section
variable {ns : List Int} {c : Int} {k : Nat} {ws : List (List Nat)} {r : List (Nat × List Nat)} {l : List Nat} {x3 : Option D}
theorem fdue : fzL (due 0 r l) = due 0 r l := fzL_of _ due_fz
theorem q8 (hd : (due 0 r l).length ≤ 100) (told : F__law_told [tx l] = .ret (.lst true (due 0 r l)) [some (tx l)]) : ls8 [some (.scr ns), some (stm ns c k), some (.lst false (ws.map tx)), x3, some .non, some (tx l), some (.lst false (pls 0 r ++ [.int ((l.length + 1 : Nat) : Int)])), some (.lst true (due 0 r l)), none, none, none, none, none, none, none, none] = .nx [some (.scr ns), some (stm ns c k), some (.lst false (ws.map tx)), x3, some .non, some (tx l), some (.lst false (pls 0 r ++ [.int ((l.length + 1 : Nat) : Int)])), some (.lst false (due 0 r l)), none, none, none, none, none, none, none, none] := by
  have L : (lim : Nat) = 16777216 := rfl
  have cT : ∀ ρ, callF F__law_told [.val (tx l)] ρ = .ok (.val (.lst true (due 0 r l))) ρ := fun ρ => call_v told rfl
  have gl2 : ∀ x y, Gc.gLst [x, y] = some (D.lst true [x, y]) := fun x y => g_lst (by show 2 ≤ lim; omega)
  have ff : frOs [.plc 7, .plc 7] [some (.scr ns), some (stm ns c k), some (.lst false (ws.map tx)), x3, some .non, some (tx l), some (.lst false (pls 0 r ++ [.int ((l.length + 1 : Nat) : Int)])), some (.lst true (due 0 r l)), none, none, none, none, none, none, none, none] = some ([.lst false (due 0 r l), .lst false (due 0 r l)], [some (.scr ns), some (stm ns c k), some (.lst false (ws.map tx)), x3, some .non, some (tx l), some (.lst false (pls 0 r ++ [.int ((l.length + 1 : Nat) : Int)])), some (.lst false (due 0 r l)), none, none, none, none, none, none, none, none]) := by
    rw [fs_plc (d := .lst true (due 0 r l)) rfl, fz_lst due_fz]
    show frC _ (frOs [.plc 7] [some (.scr ns), some (stm ns c k), some (.lst false (ws.map tx)), x3, some .non, some (tx l), some (.lst false (pls 0 r ++ [.int ((l.length + 1 : Nat) : Int)])), some (.lst false (due 0 r l)), none, none, none, none, none, none, none, none]) = _
    rw [fs_plc (d := .lst false (due 0 r l)) rfl, fz_lst due_fz]
    rfl
  have z2 : isFzL [.lst false (due 0 r l), .lst false (due 0 r l)] = true := by rw [zl_cons, zl_cons, z_lstF, due_fz]; rfl
  have cE : ∀ ρ, callF (F_equal 12) [.val (.lst true [.lst false (due 0 r l), .lst false (due 0 r l)]), .val (.lst true [.lst false (due 0 r l), .lst false (due 0 r l)])] ρ = .ok (.val (.bl true)) ρ := fun ρ => by
    refine call_vv (ps := [some (.lst false [.lst false (due 0 r l), .lst false (due 0 r l)]), some (.lst false [.lst false (due 0 r l), .lst false (due 0 r l)])]) ?_ rfl
    rw [fz_lst z2]
    refine eq_lst (n := 11) z2 (by show 2 ≤ lim; omega) fun x hx => ?_
    have e : x = .lst false (due 0 r l) := by
      rcases List.mem_cons.mp hx with h | h
      · exact h
      · exact List.mem_singleton.mp h
    rw [e]
    exact ⟨_, rfl, eq_due (m := 8) (by omega)⟩
  unfold ls8
  simp only [equals, e_nx, b_ok, b_exc, s_ok, s_exc, e_seq, t_nx, t_ret, t_exc, t_bk, t_ct, e_name, nm_fz, nm_own, o_val, o_plc, o_tru, r_val, r_plc, p_some, pb_some, j_some, j_none, e_set, set_val, f_val, fs_nil, fs_val, frc_some, l_nil, l_cons, lc_some, e_ret, ret_val, e_ifS, w_nx, w_ret, w_exc, lp_nx, e_call, ld_nil, ld_val, ldc_some, bk_nil, bk_val, ro_ret, ro_exc, ro_nx, e_mcons, e_nil, e_C, e_P1, e_P2, e_B2, e_PL, e_and, e_or, e_not, e_bv, e_if, e_tru, tru_some, e_drop, e_fr, fk_some, e_raise, e_try, try_ret, try_nx, try_exc, unb_ret, e_xf, xf_some, e_xis, xi_some, e_part, e_nopart, part_int, e_sl, e_andV, e_orV, e_notV, and_bl, or_bl, not_bl, e_isi, isi_some, td_non, td_bl, td_int, td_tx, td_tup, td_lst, e_chain, ch_t, ch_f, e_put, e_for, e_iter, it_lst, it_tup, it_tx, e_enum, en_lst, e_comp, e_yes, e_meth, ck_lst, zl_nil, zl_cons, z_lstF, z_tup, fzl_nil, fzl_cons, fz_lstE, fz_tupE, cut_nn, cut_0n, cut_n0, cut_00, z_tx, z_int, z_bl, z_non, z_lst, fz_tx, fz_int, fz_bl, fz_non, g_lenL, g_lenT, g_lt, g_le, g_gt, g_ge, g_add, g_sub, g_eqS, g_eqI, g_neS, g_neI, g_in1, g_nin1, Option.bind_some, Option.map_some, List.getElem?_cons_zero, List.getElem?_cons_succ, List.set_cons_zero, List.set_cons_succ, List.length_cons, List.length_nil, if_true, if_false, ite_true, ite_false, decide_eq_true_eq, Bool.not_eq_true', decide_eq_false_iff_not, Bool.false_eq_true, reduceIte, eq_self, Nat.reduceAdd, Nat.reduceLT, Nat.reduceSub, Nat.zero_add, Bool.not_true, Bool.not_false, and_self, and_true, true_and, List.map_cons, List.map_nil, List.replicate_succ, List.replicate_zero, List.cons_append, List.nil_append, Bool.and_true, Bool.true_and, Bool.and_self, i_bb, i_ib, i_ii, i_sb, i_si, i_ss, i_st, i_sl, i_tb, i_ti, i_ts, i_tt, i_tl, i_lb, i_li, i_ls, i_lt, i_ll, i_nb, i_ni, i_ns, i_nt, i_nl, tr_bl, is_non, is_bl, is_int, is_tx, is_tup, is_lst, g_eqB, cT, fdue, gl2, ff, cE]
theorem q9 (sc : F_scan [tx l] = .ret (.lst true (due 0 r l)) [some (tx l)]) : ls9 [some (.scr ns), some (stm ns c k), some (.lst false (ws.map tx)), x3, some .non, some (tx l), some (.lst false (pls 0 r ++ [.int ((l.length + 1 : Nat) : Int)])), some (.lst false (due 0 r l)), none, none, none, none, none, none, none, none] = .nx [some (.scr ns), some (stm ns c k), some (.lst false (ws.map tx)), x3, some .non, some (tx l), some (.lst false (pls 0 r ++ [.int ((l.length + 1 : Nat) : Int)])), some (.lst false (due 0 r l)), some (.lst true (due 0 r l)), none, none, none, none, none, none, none] := by
  have cS : ∀ ρ, callF F_scan [.val (tx l)] ρ = .ok (.val (.lst true (due 0 r l))) ρ := fun ρ => call_v sc rfl
  have zd : isFzL (due 0 r l) = true := due_fz
  unfold ls9
  simp only [e_nx, b_ok, b_exc, s_ok, s_exc, e_seq, t_nx, t_ret, t_exc, t_bk, t_ct, e_name, nm_fz, nm_own, o_val, o_plc, o_tru, r_val, r_plc, p_some, pb_some, j_some, j_none, e_set, set_val, f_val, fs_nil, fs_val, frc_some, l_nil, l_cons, lc_some, e_ret, ret_val, e_ifS, w_nx, w_ret, w_exc, lp_nx, e_call, ld_nil, ld_val, ldc_some, bk_nil, bk_val, ro_ret, ro_exc, ro_nx, e_mcons, e_nil, e_C, e_P1, e_P2, e_B2, e_PL, e_and, e_or, e_not, e_bv, e_if, e_tru, tru_some, e_drop, e_fr, fk_some, e_raise, e_try, try_ret, try_nx, try_exc, unb_ret, e_xf, xf_some, e_xis, xi_some, e_part, e_nopart, part_int, e_sl, e_andV, e_orV, e_notV, and_bl, or_bl, not_bl, e_isi, isi_some, td_non, td_bl, td_int, td_tx, td_tup, td_lst, e_chain, ch_t, ch_f, e_put, e_for, e_iter, it_lst, it_tup, it_tx, e_enum, en_lst, e_comp, e_yes, e_meth, ck_lst, zl_nil, zl_cons, z_lstF, z_tup, fzl_nil, fzl_cons, fz_lstE, fz_tupE, cut_nn, cut_0n, cut_n0, cut_00, z_tx, z_int, z_bl, z_non, z_lst, fz_tx, fz_int, fz_bl, fz_non, g_lenL, g_lenT, g_lt, g_le, g_gt, g_ge, g_add, g_sub, g_eqS, g_eqI, g_neS, g_neI, g_in1, g_nin1, Option.bind_some, Option.map_some, List.getElem?_cons_zero, List.getElem?_cons_succ, List.set_cons_zero, List.set_cons_succ, List.length_cons, List.length_nil, if_true, if_false, ite_true, ite_false, decide_eq_true_eq, Bool.not_eq_true', decide_eq_false_iff_not, Bool.false_eq_true, reduceIte, eq_self, Nat.reduceAdd, Nat.reduceLT, Nat.reduceSub, Nat.zero_add, Bool.not_true, Bool.not_false, and_self, and_true, true_and, List.map_cons, List.map_nil, List.replicate_succ, List.replicate_zero, List.cons_append, List.nil_append, Bool.and_true, Bool.true_and, Bool.and_self, cS]
theorem q10 (hd : (due 0 r l).length ≤ 100) : ls10 [some (.scr ns), some (stm ns c k), some (.lst false (ws.map tx)), x3, some .non, some (tx l), some (.lst false (pls 0 r ++ [.int ((l.length + 1 : Nat) : Int)])), some (.lst false (due 0 r l)), some (.lst true (due 0 r l)), none, none, none, none, none, none, none] = .nx [some (.scr ns), some (stm ns c k), some (.lst false (ws.map tx)), x3, some .non, some (tx l), some (.lst false (pls 0 r ++ [.int ((l.length + 1 : Nat) : Int)])), some (.lst false (due 0 r l)), some (.lst true (due 0 r l ++ [.non])), none, none, none, none, none, none, none] := by
  have L : (lim : Nat) = 16777216 := rfl
  unfold ls10
  simp only [e_nx, b_ok, b_exc, s_ok, s_exc, e_seq, t_nx, t_ret, t_exc, t_bk, t_ct, e_name, nm_fz, nm_own, o_val, o_plc, o_tru, r_val, r_plc, p_some, pb_some, j_some, j_none, e_set, set_val, f_val, fs_nil, fs_val, frc_some, l_nil, l_cons, lc_some, e_ret, ret_val, e_ifS, w_nx, w_ret, w_exc, lp_nx, e_call, ld_nil, ld_val, ldc_some, bk_nil, bk_val, ro_ret, ro_exc, ro_nx, e_mcons, e_nil, e_C, e_P1, e_P2, e_B2, e_PL, e_and, e_or, e_not, e_bv, e_if, e_tru, tru_some, e_drop, e_fr, fk_some, e_raise, e_try, try_ret, try_nx, try_exc, unb_ret, e_xf, xf_some, e_xis, xi_some, e_part, e_nopart, part_int, e_sl, e_andV, e_orV, e_notV, and_bl, or_bl, not_bl, e_isi, isi_some, td_non, td_bl, td_int, td_tx, td_tup, td_lst, e_chain, ch_t, ch_f, e_put, e_for, e_iter, it_lst, it_tup, it_tx, e_enum, en_lst, e_comp, e_yes, e_meth, ck_lst, zl_nil, zl_cons, z_lstF, z_tup, fzl_nil, fzl_cons, fz_lstE, fz_tupE, cut_nn, cut_0n, cut_n0, cut_00, z_tx, z_int, z_bl, z_non, z_lst, fz_tx, fz_int, fz_bl, fz_non, g_lenL, g_lenT, g_lt, g_le, g_gt, g_ge, g_add, g_sub, g_eqS, g_eqI, g_neS, g_neI, g_in1, g_nin1, Option.bind_some, Option.map_some, List.getElem?_cons_zero, List.getElem?_cons_succ, List.set_cons_zero, List.set_cons_succ, List.length_cons, List.length_nil, if_true, if_false, ite_true, ite_false, decide_eq_true_eq, Bool.not_eq_true', decide_eq_false_iff_not, Bool.false_eq_true, reduceIte, eq_self, Nat.reduceAdd, Nat.reduceLT, Nat.reduceSub, Nat.zero_add, Bool.not_true, Bool.not_false, and_self, and_true, true_and, List.map_cons, List.map_nil, List.replicate_succ, List.replicate_zero, List.cons_append, List.nil_append, Bool.and_true, Bool.true_and, Bool.and_self, me_plc (ρ := [some (.scr ns), some (stm ns c k), some (.lst false (ws.map tx)), x3, some .non, some (tx l), some (.lst false (pls 0 r ++ [.int ((l.length + 1 : Nat) : Int)])), some (.lst false (due 0 r l)), some (.lst true (due 0 r l)), none, none, none, none, none, none, none]) (i := 8) (d := .lst true (due 0 r l)) rfl (g_app (by omega))]
theorem q11 (hd : (due 0 r l).length ≤ 100) (sc : F_scan [tx l] = .ret (.lst true (due 0 r l)) [some (tx l)]) : ls11 [some (.scr ns), some (stm ns c k), some (.lst false (ws.map tx)), x3, some .non, some (tx l), some (.lst false (pls 0 r ++ [.int ((l.length + 1 : Nat) : Int)])), some (.lst false (due 0 r l)), some (.lst true (due 0 r l ++ [.non])), none, none, none, none, none, none, none] = .nx [some (.scr ns), some (stm ns c k), some (.lst false (ws.map tx)), x3, some .non, some (tx l), some (.lst false (pls 0 r ++ [.int ((l.length + 1 : Nat) : Int)])), some (.lst false (due 0 r l)), some (.lst true (due 0 r l ++ [.non])), none, none, none, none, none, none, none] := by
  have L : (lim : Nat) = 16777216 := rfl
  have cS : ∀ ρ, callF F_scan [.val (tx l)] ρ = .ok (.val (.lst true (due 0 r l))) ρ := fun ρ => call_v sc rfl
  have zd : isFzL (due 0 r l) = true := due_fz
  have cE : ∀ ρ, callF (F_equal 12) [.val (.lst true (due 0 r l)), .val (.lst false (due 0 r l))] ρ = .ok (.val (.bl true)) ρ := fun ρ => by
    refine call_vv (ps := [some (.lst false (due 0 r l)), some (.lst false (due 0 r l))]) ?_ rfl
    rw [fz_lst due_fz, fz_lst due_fz]
    exact eq_due (m := 9) (by omega)
  unfold ls11
  simp only [equals, e_nx, b_ok, b_exc, s_ok, s_exc, e_seq, t_nx, t_ret, t_exc, t_bk, t_ct, e_name, nm_fz, nm_own, o_val, o_plc, o_tru, r_val, r_plc, p_some, pb_some, j_some, j_none, e_set, set_val, f_val, fs_nil, fs_val, frc_some, l_nil, l_cons, lc_some, e_ret, ret_val, e_ifS, w_nx, w_ret, w_exc, lp_nx, e_call, ld_nil, ld_val, ldc_some, bk_nil, bk_val, ro_ret, ro_exc, ro_nx, e_mcons, e_nil, e_C, e_P1, e_P2, e_B2, e_PL, e_and, e_or, e_not, e_bv, e_if, e_tru, tru_some, e_drop, e_fr, fk_some, e_raise, e_try, try_ret, try_nx, try_exc, unb_ret, e_xf, xf_some, e_xis, xi_some, e_part, e_nopart, part_int, e_sl, e_andV, e_orV, e_notV, and_bl, or_bl, not_bl, e_isi, isi_some, td_non, td_bl, td_int, td_tx, td_tup, td_lst, e_chain, ch_t, ch_f, e_put, e_for, e_iter, it_lst, it_tup, it_tx, e_enum, en_lst, e_comp, e_yes, e_meth, ck_lst, zl_nil, zl_cons, z_lstF, z_tup, fzl_nil, fzl_cons, fz_lstE, fz_tupE, cut_nn, cut_0n, cut_n0, cut_00, z_tx, z_int, z_bl, z_non, z_lst, fz_tx, fz_int, fz_bl, fz_non, g_lenL, g_lenT, g_lt, g_le, g_gt, g_ge, g_add, g_sub, g_eqS, g_eqI, g_neS, g_neI, g_in1, g_nin1, Option.bind_some, Option.map_some, List.getElem?_cons_zero, List.getElem?_cons_succ, List.set_cons_zero, List.set_cons_succ, List.length_cons, List.length_nil, if_true, if_false, ite_true, ite_false, decide_eq_true_eq, Bool.not_eq_true', decide_eq_false_iff_not, Bool.false_eq_true, reduceIte, eq_self, Nat.reduceAdd, Nat.reduceLT, Nat.reduceSub, Nat.zero_add, Bool.not_true, Bool.not_false, and_self, and_true, true_and, List.map_cons, List.map_nil, List.replicate_succ, List.replicate_zero, List.cons_append, List.nil_append, Bool.and_true, Bool.true_and, Bool.and_self, i_bb, i_ib, i_ii, i_sb, i_si, i_ss, i_st, i_sl, i_tb, i_ti, i_ts, i_tt, i_tl, i_lb, i_li, i_ls, i_lt, i_ll, i_nb, i_ni, i_ns, i_nt, i_nl, tr_bl, is_non, is_bl, is_int, is_tx, is_tup, is_lst, g_eqB, cS, zd, cE]
theorem g_sp {n : Nat} (h : n ≤ 1000) : gMulX (tx [32]) (.int (n : Int)) = some (tx (List.replicate n 32)) := by
  have L : (lim : Nat) = 16777216 := rfl
  have e : repS ⟨[32].toArray⟩ n = ⟨(List.replicate n 32).toArray⟩ := by
    unfold repS
    rw [Int.toNat_natCast]
    congr 1
    congr 1
    show (List.replicate n [32]).flatten = _
    induction n with
    | zero => rfl
    | succ n ih => rw [List.replicate_succ, List.flatten_cons, ih (by omega), List.replicate_succ]; rfl
  have l1 : (⟨[32].toArray⟩ : Str).length = 1 := rfl
  have g : gMulX (.str ⟨[32].toArray⟩) (.int (n : Int)) = some (.str (repS ⟨[32].toArray⟩ n)) := by
    unfold gMulX
    dsimp only
    rw [if_pos ⟨by omega, by omega, by rw [l1, Int.toNat_natCast]; omega⟩]
  rw [e] at g
  exact g
theorem q12 (hl : l.length ≤ 200) : ls12 [some (.scr ns), some (stm ns c k), some (.lst false (ws.map tx)), x3, some .non, some (tx l), some (.lst false (pls 0 r ++ [.int ((l.length + 1 : Nat) : Int)])), some (.lst false (due 0 r l)), some (.lst true (due 0 r l ++ [.non])), none, none, none, none, none, none, none] = .nx [some (.scr ns), some (stm ns c k), some (.lst false (ws.map tx)), x3, some .non, some (tx l), some (.lst false (pls 0 r ++ [.int ((l.length + 1 : Nat) : Int)])), some (.lst false (due 0 r l)), some (.lst true (due 0 r l ++ [.non])), some (tx (List.replicate (200 - l.length) 32)), none, none, none, none, none, none] := by
  have L : (lim : Nat) = 16777216 := rfl
  have e : ((200 : Int) - (l.length : Int)) = ((200 - l.length : Nat) : Int) := by omega
  have hlm : l.length ≤ lim := by omega
  have h1000 : 200 - l.length ≤ 1000 := by omega
  have gL := g_len hlm
  have gM := g_sp h1000
  have gS : gSub (.int 200) (.int (l.length : Int)) = some (.int ((200 - l.length : Nat) : Int)) := by rw [← e]; rfl
  have eB : (mPL gLen (mCons true (mName 5) mNil)) [some (.scr ns), some (stm ns c k), some (.lst false (ws.map tx)), x3, some .non, some (tx l), some (.lst false (pls 0 r ++ [.int ((l.length + 1 : Nat) : Int)])), some (.lst false (due 0 r l)), some (.lst true (due 0 r l ++ [.non])), none, none, none, none, none, none, none] = .ok (.val (.int (l.length : Nat))) [some (.scr ns), some (stm ns c k), some (.lst false (ws.map tx)), x3, some .non, some (tx l), some (.lst false (pls 0 r ++ [.int ((l.length + 1 : Nat) : Int)])), some (.lst false (due 0 r l)), some (.lst true (due 0 r l ++ [.non])), none, none, none, none, none, none, none] := by
    simp only [e_nx, b_ok, b_exc, s_ok, s_exc, e_seq, t_nx, t_ret, t_exc, t_bk, t_ct, e_name, nm_fz, nm_own, o_val, o_plc, o_tru, r_val, r_plc, p_some, pb_some, j_some, j_none, e_set, set_val, f_val, fs_nil, fs_val, frc_some, l_nil, l_cons, lc_some, e_ret, ret_val, e_ifS, w_nx, w_ret, w_exc, lp_nx, e_call, ld_nil, ld_val, ldc_some, bk_nil, bk_val, ro_ret, ro_exc, ro_nx, e_mcons, e_nil, e_C, e_P1, e_P2, e_B2, e_PL, e_and, e_or, e_not, e_bv, e_if, e_tru, tru_some, e_drop, e_fr, fk_some, e_raise, e_try, try_ret, try_nx, try_exc, unb_ret, e_xf, xf_some, e_xis, xi_some, e_part, e_nopart, part_int, e_sl, e_andV, e_orV, e_notV, and_bl, or_bl, not_bl, e_isi, isi_some, td_non, td_bl, td_int, td_tx, td_tup, td_lst, e_chain, ch_t, ch_f, e_put, e_for, e_iter, it_lst, it_tup, it_tx, e_enum, en_lst, e_comp, e_yes, e_meth, ck_lst, zl_nil, zl_cons, z_lstF, z_tup, fzl_nil, fzl_cons, fz_lstE, fz_tupE, cut_nn, cut_0n, cut_n0, cut_00, z_tx, z_int, z_bl, z_non, z_lst, fz_tx, fz_int, fz_bl, fz_non, g_lenL, g_lenT, g_lt, g_le, g_gt, g_ge, g_add, g_sub, g_eqS, g_eqI, g_neS, g_neI, g_in1, g_nin1, Option.bind_some, Option.map_some, List.getElem?_cons_zero, List.getElem?_cons_succ, List.set_cons_zero, List.set_cons_succ, List.length_cons, List.length_nil, if_true, if_false, ite_true, ite_false, decide_eq_true_eq, Bool.not_eq_true', decide_eq_false_iff_not, Bool.false_eq_true, reduceIte, eq_self, Nat.reduceAdd, Nat.reduceLT, Nat.reduceSub, Nat.zero_add, Bool.not_true, Bool.not_false, and_self, and_true, true_and, List.map_cons, List.map_nil, List.replicate_succ, List.replicate_zero, List.cons_append, List.nil_append, Bool.and_true, Bool.true_and, Bool.and_self, gL]
  have eA : (mP2 true gSub (mC (.int 200)) (mPL gLen (mCons true (mName 5) mNil))) [some (.scr ns), some (stm ns c k), some (.lst false (ws.map tx)), x3, some .non, some (tx l), some (.lst false (pls 0 r ++ [.int ((l.length + 1 : Nat) : Int)])), some (.lst false (due 0 r l)), some (.lst true (due 0 r l ++ [.non])), none, none, none, none, none, none, none] = .ok (.val (.int ((200 - l.length : Nat) : Int))) [some (.scr ns), some (stm ns c k), some (.lst false (ws.map tx)), x3, some .non, some (tx l), some (.lst false (pls 0 r ++ [.int ((l.length + 1 : Nat) : Int)])), some (.lst false (due 0 r l)), some (.lst true (due 0 r l ++ [.non])), none, none, none, none, none, none, none] := by
    rw [e_P2, e_C, b_ok, if_pos o_val, eB, b_ok]
    show pu (Gc.gSub (.int 200) (.int (l.length : Int))) _ = _
    rw [gS]
    rfl
  unfold ls12
  rw [e_set, e_P2, e_C, b_ok, if_pos o_val, eA, b_ok]
  rw [r_val, r_val, Option.bind_some, Option.bind_some, sSP, gM, p_some, s_ok]
  exact set_val (by show (9 : Nat) < 16; decide)
def rows13 (l : List Nat) : List D := [.non, .lst false [tx l], tx (l ++ [10]), tx [10], tx ((List.replicate (200 - l.length) 32 ++ l) ++ [32]), .int 7]
theorem rows13_fz : isFzL (rows13 l) = true := rfl
theorem q13 (hl : l.length ≤ 200) : ∃ d c' k', d ∈ rows13 l ∧ ls13 [some (.scr ns), some (stm ns c k), some (.lst false (ws.map tx)), x3, some .non, some (tx l), some (.lst false (pls 0 r ++ [.int ((l.length + 1 : Nat) : Int)])), some (.lst false (due 0 r l)), some (.lst true (due 0 r l ++ [.non])), some (tx (List.replicate (200 - l.length) 32)), none, none, none, none, none, none] = .nx [some (.scr ns), some (stm ns c' k'), some (.lst false (ws.map tx)), x3, some .non, some (tx l), some (.lst false (pls 0 r ++ [.int ((l.length + 1 : Nat) : Int)])), some (.lst false (due 0 r l)), some (.lst true (due 0 r l ++ [.non])), some (tx (List.replicate (200 - l.length) 32)), some d, none, none, none, none, none] := by
  have L : (lim : Nat) = 16777216 := rfl
  obtain ⟨d, c', k', hd, e⟩ := call_pick (ns := ns) (c := c) (k := k) (rows := rows13 l) (i := 1) (ρ := [some (.scr ns), some (stm ns c k), some (.lst false (ws.map tx)), x3, some .non, some (tx l), some (.lst false (pls 0 r ++ [.int ((l.length + 1 : Nat) : Int)])), some (.lst false (due 0 r l)), some (.lst true (due 0 r l ++ [.non])), some (tx (List.replicate (200 - l.length) 32)), none, none, none, none, none, none]) rows13_fz (by intro z; cases z) (by show (6 : Nat) < _; decide) rfl
  refine ⟨d, c', k', hd, ?_⟩
  have gl1 : ∀ x, Gc.gLst [x] = some (D.lst true [x]) := fun x => g_lst (by show 1 ≤ lim; omega)
  have gl6 : Gc.gLst [.non, .lst false [tx l], tx (l ++ [10]), tx [10], tx ((List.replicate (200 - l.length) 32 ++ l) ++ [32]), .int 7] = some (.lst true (rows13 l)) := g_lst (by show 6 ≤ lim; omega)
  have lr : (List.replicate (200 - l.length) 32).length = 200 - l.length := List.length_replicate
  have a1 : gAdd (tx l) (tx [10]) = some (tx (l ++ [10])) := g_cat (by simp only [List.length_cons, List.length_nil]; omega)
  have a2 : gAdd (tx (List.replicate (200 - l.length) 32)) (tx l) = some (tx (List.replicate (200 - l.length) 32 ++ l)) := g_cat (by rw [lr]; omega)
  have a3 : gAdd (tx (List.replicate (200 - l.length) 32 ++ l)) (tx [32]) = some (tx ((List.replicate (200 - l.length) 32 ++ l) ++ [32])) := g_cat (by rw [List.length_append, lr]; simp only [List.length_cons, List.length_nil]; omega)
  unfold ls13
  simp only [picks, sSP, sNL, e_nx, b_ok, b_exc, s_ok, s_exc, e_seq, t_nx, t_ret, t_exc, t_bk, t_ct, e_name, nm_fz, nm_own, o_val, o_plc, o_tru, r_val, r_plc, p_some, pb_some, j_some, j_none, e_set, set_val, f_val, fs_nil, fs_val, frc_some, l_nil, l_cons, lc_some, e_ret, ret_val, e_ifS, w_nx, w_ret, w_exc, lp_nx, e_call, ld_nil, ld_val, ldc_some, bk_nil, bk_val, ro_ret, ro_exc, ro_nx, e_mcons, e_nil, e_C, e_P1, e_P2, e_B2, e_PL, e_and, e_or, e_not, e_bv, e_if, e_tru, tru_some, e_drop, e_fr, fk_some, e_raise, e_try, try_ret, try_nx, try_exc, unb_ret, e_xf, xf_some, e_xis, xi_some, e_part, e_nopart, part_int, e_sl, e_andV, e_orV, e_notV, and_bl, or_bl, not_bl, e_isi, isi_some, td_non, td_bl, td_int, td_tx, td_tup, td_lst, e_chain, ch_t, ch_f, e_put, e_for, e_iter, it_lst, it_tup, it_tx, e_enum, en_lst, e_comp, e_yes, e_meth, ck_lst, zl_nil, zl_cons, z_lstF, z_tup, fzl_nil, fzl_cons, fz_lstE, fz_tupE, cut_nn, cut_0n, cut_n0, cut_00, z_tx, z_int, z_bl, z_non, z_lst, fz_tx, fz_int, fz_bl, fz_non, g_lenL, g_lenT, g_lt, g_le, g_gt, g_ge, g_add, g_sub, g_eqS, g_eqI, g_neS, g_neI, g_in1, g_nin1, Option.bind_some, Option.map_some, List.getElem?_cons_zero, List.getElem?_cons_succ, List.set_cons_zero, List.set_cons_succ, List.length_cons, List.length_nil, if_true, if_false, ite_true, ite_false, decide_eq_true_eq, Bool.not_eq_true', decide_eq_false_iff_not, Bool.false_eq_true, reduceIte, eq_self, Nat.reduceAdd, Nat.reduceLT, Nat.reduceSub, Nat.zero_add, Bool.not_true, Bool.not_false, and_self, and_true, true_and, List.map_cons, List.map_nil, List.replicate_succ, List.replicate_zero, List.cons_append, List.nil_append, Bool.and_true, Bool.true_and, Bool.and_self, nm_own z_stm, gl1, a1, a2, a3, gl6, e]
theorem rows_bad (hl : l.length ≤ 200) {d : D} (hd : d ∈ rows13 l) : isFz d = true ∧ F_check_string [d] = .exc xT [some d] := by
  have L : (lim : Nat) = 16777216 := rfl
  refine ⟨isFzL_mem rows13_fz hd, ?_⟩
  have lr : (List.replicate (200 - l.length) 32).length = 200 - l.length := List.length_replicate
  unfold rows13 at hd
  rcases List.mem_cons.mp hd with rfl | hd
  · exact chk_non
  rcases List.mem_cons.mp hd with rfl | hd
  · exact chk_lst rfl
  rcases List.mem_cons.mp hd with rfl | hd
  · exact chk_bad (by rw [List.length_append]; simp only [List.length_cons, List.length_nil]; omega) (.inr (by simp))
  rcases List.mem_cons.mp hd with rfl | hd
  · exact chk_bad (by simp only [List.length_cons, List.length_nil]; omega) (.inr (by simp))
  rcases List.mem_cons.mp hd with rfl | hd
  · exact chk_bad (by rw [List.length_append, List.length_append, lr]; simp only [List.length_cons, List.length_nil]; omega) (.inl (by rw [List.length_append, List.length_append, lr]; simp only [List.length_cons, List.length_nil]; omega))
  · rw [List.mem_singleton.mp hd]
    exact chk_int
theorem q14 {d : D} {ts : List D} (hl : l.length ≤ 200) (hz : isFz d = true) (hb : F_check_string [d] = .exc xT [some d]) (hs : F_scan [tx (List.replicate (200 - l.length) 32 ++ l)] = .ret (.lst true ts) [some (tx (List.replicate (200 - l.length) 32 ++ l))]) : ∃ ρ, ls14 [some (.scr ns), some (stm ns c k), some (.lst false (ws.map tx)), x3, some .non, some (tx l), some (.lst false (pls 0 r ++ [.int ((l.length + 1 : Nat) : Int)])), some (.lst false (due 0 r l)), some (.lst true (due 0 r l ++ [.non])), some (tx (List.replicate (200 - l.length) 32)), some d, none, none, none, none, none] = .ret (.bl true) ρ := by
  have L : (lim : Nat) = 16777216 := rfl
  have lr : (List.replicate (200 - l.length) 32).length = 200 - l.length := List.length_replicate
  have cB : ∀ ρ, callF F__law_told [.val d] ρ = .ok (.val (.str "text")) ρ := fun ρ => call_v (ps := [some d]) (by rw [fz_of d hz]; exact told_bad hz hb) rfl
  have cG : ∀ ρ, callF F__law_told [.val (tx (List.replicate (200 - l.length) 32 ++ l))] ρ = .ok (.val (.lst true ts)) ρ := fun ρ => call_v (told_ok hs) rfl
  have a2 : gAdd (tx (List.replicate (200 - l.length) 32)) (tx l) = some (tx (List.replicate (200 - l.length) 32 ++ l)) := g_cat (by rw [lr]; omega)
  have ge : gEq (.str "text") (.str "text") = some true := rfl
  unfold ls14
  simp only [e_nx, b_ok, b_exc, s_ok, s_exc, e_seq, t_nx, t_ret, t_exc, t_bk, t_ct, e_name, nm_fz, nm_own, o_val, o_plc, o_tru, r_val, r_plc, p_some, pb_some, j_some, j_none, e_set, set_val, f_val, fs_nil, fs_val, frc_some, l_nil, l_cons, lc_some, e_ret, ret_val, e_ifS, w_nx, w_ret, w_exc, lp_nx, e_call, ld_nil, ld_val, ldc_some, bk_nil, bk_val, ro_ret, ro_exc, ro_nx, e_mcons, e_nil, e_C, e_P1, e_P2, e_B2, e_PL, e_and, e_or, e_not, e_bv, e_if, e_tru, tru_some, e_drop, e_fr, fk_some, e_raise, e_try, try_ret, try_nx, try_exc, unb_ret, e_xf, xf_some, e_xis, xi_some, e_part, e_nopart, part_int, e_sl, e_andV, e_orV, e_notV, and_bl, or_bl, not_bl, e_isi, isi_some, td_non, td_bl, td_int, td_tx, td_tup, td_lst, e_chain, ch_t, ch_f, e_put, e_for, e_iter, it_lst, it_tup, it_tx, e_enum, en_lst, e_comp, e_yes, e_meth, ck_lst, zl_nil, zl_cons, z_lstF, z_tup, fzl_nil, fzl_cons, fz_lstE, fz_tupE, cut_nn, cut_0n, cut_n0, cut_00, z_tx, z_int, z_bl, z_non, z_lst, fz_tx, fz_int, fz_bl, fz_non, g_lenL, g_lenT, g_lt, g_le, g_gt, g_ge, g_add, g_sub, g_eqS, g_eqI, g_neS, g_neI, g_in1, g_nin1, Option.bind_some, Option.map_some, List.getElem?_cons_zero, List.getElem?_cons_succ, List.set_cons_zero, List.set_cons_succ, List.length_cons, List.length_nil, if_true, if_false, ite_true, ite_false, decide_eq_true_eq, Bool.not_eq_true', decide_eq_false_iff_not, Bool.false_eq_true, reduceIte, eq_self, Nat.reduceAdd, Nat.reduceLT, Nat.reduceSub, Nat.zero_add, Bool.not_true, Bool.not_false, and_self, and_true, true_and, List.map_cons, List.map_nil, List.replicate_succ, List.replicate_zero, List.cons_append, List.nil_append, Bool.and_true, Bool.true_and, Bool.and_self, i_bb, i_ib, i_ii, i_sb, i_si, i_ss, i_st, i_sl, i_tb, i_ti, i_ts, i_tt, i_tl, i_lb, i_li, i_ls, i_lt, i_ll, i_nb, i_ni, i_ns, i_nt, i_nl, tr_bl, is_non, is_bl, is_int, is_tx, is_tup, is_lst, g_eqB, hz, cB, cG, a2, ge]
  exact ⟨_, rfl⟩
end
end K85

namespace K85
open PySem PySem.Spec PyProof.Rows L2 Gc
def ls0 : MS := (mSet 1 (mCall F__law_stream (mCons true (mName 0) mNil)))
def ls1 : MS := (mSet 2 (mFr gLst mNil))
def rng2 : M (List D) := (mRng1 (mCons true (mCall F__law_next (mCons true (mName 1) (mCons true (mC (.int 17)) mNil))) mNil))
def ls2 : MS := mFor [0] (.nm 3) rng2 lbA
def ls3 : MS := (mSet 4 (mC .non))
def tst4 : M Bool := (mB2 true gEq (mCall F__law_next (mCons true (mName 1) (mCons true (mC (.int 2)) mNil))) (mC (.int 1)))
def ls4 : MS := mIfS tst4 sgB mNx
theorem law_split : m_law = mSeq ls0 (mSeq ls1 (mSeq ls2 (mSeq ls3 (mSeq ls4 (mSeq ls5 (mSeq ls6 (mSeq ls7 (mSeq ls8 (mSeq ls9 (mSeq ls10 (mSeq ls11 (mSeq ls12 (mSeq ls13 ls14))))))))))))) := rfl
theorem q0 (ns : List Int) : ls0 [some (.scr ns), none, none, none, none, none, none, none, none, none, none, none, none, none, none, none] = .nx [some (.scr ns), some (stm ns 0 0), none, none, none, none, none, none, none, none, none, none, none, none, none, none] := by
  have cS : ∀ ρ, callF F_stream [.val (.scr ns)] ρ = .ok (.val (stm ns 0 0)) ρ := fun ρ => call_v (d := .scr ns) (stream_ok ns) rfl
  have z : isFz (.scr ns) = true := Eq.trans rfl rfl
  unfold ls0
  simp only [streams, e_nx, b_ok, b_exc, s_ok, s_exc, e_seq, t_nx, t_ret, t_exc, t_bk, t_ct, e_name, nm_fz, nm_own, o_val, o_plc, o_tru, r_val, r_plc, p_some, pb_some, j_some, j_none, e_set, set_val, f_val, fs_nil, fs_val, frc_some, l_nil, l_cons, lc_some, e_ret, ret_val, e_ifS, w_nx, w_ret, w_exc, lp_nx, e_call, ld_nil, ld_val, ldc_some, bk_nil, bk_val, ro_ret, ro_exc, ro_nx, e_mcons, e_nil, e_C, e_P1, e_P2, e_B2, e_PL, e_and, e_or, e_not, e_bv, e_if, e_tru, tru_some, e_drop, e_fr, fk_some, e_raise, e_try, try_ret, try_nx, try_exc, unb_ret, e_xf, xf_some, e_xis, xi_some, e_part, e_nopart, part_int, e_sl, e_andV, e_orV, e_notV, and_bl, or_bl, not_bl, e_isi, isi_some, td_non, td_bl, td_int, td_tx, td_tup, td_lst, e_chain, ch_t, ch_f, e_put, e_for, e_iter, it_lst, it_tup, it_tx, e_enum, en_lst, e_comp, e_yes, e_meth, ck_lst, zl_nil, zl_cons, z_lstF, z_tup, fzl_nil, fzl_cons, fz_lstE, fz_tupE, cut_nn, cut_0n, cut_n0, cut_00, z_tx, z_int, z_bl, z_non, z_lst, fz_tx, fz_int, fz_bl, fz_non, g_lenL, g_lenT, g_lt, g_le, g_gt, g_ge, g_add, g_sub, g_eqS, g_eqI, g_neS, g_neI, g_in1, g_nin1, Option.bind_some, Option.map_some, List.getElem?_cons_zero, List.getElem?_cons_succ, List.set_cons_zero, List.set_cons_succ, List.length_cons, List.length_nil, if_true, if_false, ite_true, ite_false, decide_eq_true_eq, Bool.not_eq_true', decide_eq_false_iff_not, Bool.false_eq_true, reduceIte, eq_self, Nat.reduceAdd, Nat.reduceLT, Nat.reduceSub, Nat.zero_add, Bool.not_true, Bool.not_false, and_self, and_true, true_and, List.map_cons, List.map_nil, List.replicate_succ, List.replicate_zero, List.cons_append, List.nil_append, Bool.and_true, Bool.true_and, Bool.and_self, z, cS]
theorem q1 (ns : List Int) : ls1 [some (.scr ns), some (stm ns 0 0), none, none, none, none, none, none, none, none, none, none, none, none, none, none] = .nx [some (.scr ns), some (stm ns 0 0), some (.lst true []), none, none, none, none, none, none, none, none, none, none, none, none, none] := by
  have g0 : Gc.gLst [] = some (D.lst true []) := g_lst (Nat.zero_le _)
  unfold ls1
  simp only [e_nx, b_ok, b_exc, s_ok, s_exc, e_seq, t_nx, t_ret, t_exc, t_bk, t_ct, e_name, nm_fz, nm_own, o_val, o_plc, o_tru, r_val, r_plc, p_some, pb_some, j_some, j_none, e_set, set_val, f_val, fs_nil, fs_val, frc_some, l_nil, l_cons, lc_some, e_ret, ret_val, e_ifS, w_nx, w_ret, w_exc, lp_nx, e_call, ld_nil, ld_val, ldc_some, bk_nil, bk_val, ro_ret, ro_exc, ro_nx, e_mcons, e_nil, e_C, e_P1, e_P2, e_B2, e_PL, e_and, e_or, e_not, e_bv, e_if, e_tru, tru_some, e_drop, e_fr, fk_some, e_raise, e_try, try_ret, try_nx, try_exc, unb_ret, e_xf, xf_some, e_xis, xi_some, e_part, e_nopart, part_int, e_sl, e_andV, e_orV, e_notV, and_bl, or_bl, not_bl, e_isi, isi_some, td_non, td_bl, td_int, td_tx, td_tup, td_lst, e_chain, ch_t, ch_f, e_put, e_for, e_iter, it_lst, it_tup, it_tx, e_enum, en_lst, e_comp, e_yes, e_meth, ck_lst, zl_nil, zl_cons, z_lstF, z_tup, fzl_nil, fzl_cons, fz_lstE, fz_tupE, cut_nn, cut_0n, cut_n0, cut_00, z_tx, z_int, z_bl, z_non, z_lst, fz_tx, fz_int, fz_bl, fz_non, g_lenL, g_lenT, g_lt, g_le, g_gt, g_ge, g_add, g_sub, g_eqS, g_eqI, g_neS, g_neI, g_in1, g_nin1, Option.bind_some, Option.map_some, List.getElem?_cons_zero, List.getElem?_cons_succ, List.set_cons_zero, List.set_cons_succ, List.length_cons, List.length_nil, if_true, if_false, ite_true, ite_false, decide_eq_true_eq, Bool.not_eq_true', decide_eq_false_iff_not, Bool.false_eq_true, reduceIte, eq_self, Nat.reduceAdd, Nat.reduceLT, Nat.reduceSub, Nat.zero_add, Bool.not_true, Bool.not_false, and_self, and_true, true_and, List.map_cons, List.map_nil, List.replicate_succ, List.replicate_zero, List.cons_append, List.nil_append, Bool.and_true, Bool.true_and, Bool.and_self, g0]
theorem q2 (ns : List Int) : ∃ (ws : List (List Nat)) (c : Int) (k : Nat) (y3 : Option D), ws.length ≤ 16 ∧ (∀ w ∈ ws, w ∈ GOOD) ∧ ls2 [some (.scr ns), some (stm ns 0 0), some (.lst true []), none, none, none, none, none, none, none, none, none, none, none, none, none] = .nx [some (.scr ns), some (stm ns c k), some (.lst true (ws.map tx)), y3, none, none, none, none, none, none, none, none, none, none, none, none] := by
  obtain ⟨d, c1, k1, hd, e⟩ := call_next (ns := ns) (c := 0) (k := 0) (many := 17) (i := 1) (ρ := [some (.scr ns), some (stm ns 0 0), some (.lst true []), none, none, none, none, none, none, none, none, none, none, none, none, none]) (by decide) (by decide) rfl
  obtain ⟨ws, c, k, y3, h1, h2, h3⟩ := loopA (ns := ns) (x4 := none) (x5 := none) (x6 := none) (x7 := none) (x8 := none) (x9 := none) (x10 := none) (x11 := none) (x12 := none) (x13 := none) (x14 := none) (x15 := none) ((List.range d).map fun i : Nat => D.int (i : Int)) [] c1 k1 none (by rw [List.length_map, List.length_range]; simp only [List.length_nil]; omega)
  rw [List.length_map, List.length_range] at h1
  refine ⟨ws, c, k, y3, by omega, h2, ?_⟩
  have dl : d < 2 ^ 62 := Nat.lt_of_lt_of_le (show d < 17 by omega) (by decide)
  have rg : rng2 [some (.scr ns), some (stm ns 0 0), some (.lst true []), none, none, none, none, none, none, none, none, none, none, none, none, none] = .ok ((List.range d).map fun i : Nat => D.int (i : Int)) [some (.scr ns), some (stm ns c1 k1), some (.lst true []), none, none, none, none, none, none, none, none, none, none, none, none, none] := by
    unfold rng2
    rw [e_rng1]
    simp only [nexts, e_nx, b_ok, b_exc, s_ok, s_exc, e_seq, t_nx, t_ret, t_exc, t_bk, t_ct, e_name, nm_fz, nm_own, o_val, o_plc, o_tru, r_val, r_plc, p_some, pb_some, j_some, j_none, e_set, set_val, f_val, fs_nil, fs_val, frc_some, l_nil, l_cons, lc_some, e_ret, ret_val, e_ifS, w_nx, w_ret, w_exc, lp_nx, e_call, ld_nil, ld_val, ldc_some, bk_nil, bk_val, ro_ret, ro_exc, ro_nx, e_mcons, e_nil, e_C, e_P1, e_P2, e_B2, e_PL, e_and, e_or, e_not, e_bv, e_if, e_tru, tru_some, e_drop, e_fr, fk_some, e_raise, e_try, try_ret, try_nx, try_exc, unb_ret, e_xf, xf_some, e_xis, xi_some, e_part, e_nopart, part_int, e_sl, e_andV, e_orV, e_notV, and_bl, or_bl, not_bl, e_isi, isi_some, td_non, td_bl, td_int, td_tx, td_tup, td_lst, e_chain, ch_t, ch_f, e_put, e_for, e_iter, it_lst, it_tup, it_tx, e_enum, en_lst, e_comp, e_yes, e_meth, ck_lst, zl_nil, zl_cons, z_lstF, z_tup, fzl_nil, fzl_cons, fz_lstE, fz_tupE, cut_nn, cut_0n, cut_n0, cut_00, z_tx, z_int, z_bl, z_non, z_lst, fz_tx, fz_int, fz_bl, fz_non, g_lenL, g_lenT, g_lt, g_le, g_gt, g_ge, g_add, g_sub, g_eqS, g_eqI, g_neS, g_neI, g_in1, g_nin1, Option.bind_some, Option.map_some, List.getElem?_cons_zero, List.getElem?_cons_succ, List.set_cons_zero, List.set_cons_succ, List.length_cons, List.length_nil, if_true, if_false, ite_true, ite_false, decide_eq_true_eq, Bool.not_eq_true', decide_eq_false_iff_not, Bool.false_eq_true, reduceIte, eq_self, Nat.reduceAdd, Nat.reduceLT, Nat.reduceSub, Nat.zero_add, Bool.not_true, Bool.not_false, and_self, and_true, true_and, List.map_cons, List.map_nil, List.replicate_succ, List.replicate_zero, List.cons_append, List.nil_append, Bool.and_true, Bool.true_and, Bool.and_self, nm_own z_stm, e]
    exact rg_int dl
  unfold ls2
  rw [e_for, rg, s_ok]
  exact h3
theorem q3 {ns : List Int} {x1 x2 x3 : Option D} : ls3 [some (.scr ns), x1, x2, x3, none, none, none, none, none, none, none, none, none, none, none, none] = .nx [some (.scr ns), x1, x2, x3, some .non, none, none, none, none, none, none, none, none, none, none, none] := by
  unfold ls3
  simp only [e_nx, b_ok, b_exc, s_ok, s_exc, e_seq, t_nx, t_ret, t_exc, t_bk, t_ct, e_name, nm_fz, nm_own, o_val, o_plc, o_tru, r_val, r_plc, p_some, pb_some, j_some, j_none, e_set, set_val, f_val, fs_nil, fs_val, frc_some, l_nil, l_cons, lc_some, e_ret, ret_val, e_ifS, w_nx, w_ret, w_exc, lp_nx, e_call, ld_nil, ld_val, ldc_some, bk_nil, bk_val, ro_ret, ro_exc, ro_nx, e_mcons, e_nil, e_C, e_P1, e_P2, e_B2, e_PL, e_and, e_or, e_not, e_bv, e_if, e_tru, tru_some, e_drop, e_fr, fk_some, e_raise, e_try, try_ret, try_nx, try_exc, unb_ret, e_xf, xf_some, e_xis, xi_some, e_part, e_nopart, part_int, e_sl, e_andV, e_orV, e_notV, and_bl, or_bl, not_bl, e_isi, isi_some, td_non, td_bl, td_int, td_tx, td_tup, td_lst, e_chain, ch_t, ch_f, e_put, e_for, e_iter, it_lst, it_tup, it_tx, e_enum, en_lst, e_comp, e_yes, e_meth, ck_lst, zl_nil, zl_cons, z_lstF, z_tup, fzl_nil, fzl_cons, fz_lstE, fz_tupE, cut_nn, cut_0n, cut_n0, cut_00, z_tx, z_int, z_bl, z_non, z_lst, fz_tx, fz_int, fz_bl, fz_non, g_lenL, g_lenT, g_lt, g_le, g_gt, g_ge, g_add, g_sub, g_eqS, g_eqI, g_neS, g_neI, g_in1, g_nin1, Option.bind_some, Option.map_some, List.getElem?_cons_zero, List.getElem?_cons_succ, List.set_cons_zero, List.set_cons_succ, List.length_cons, List.length_nil, if_true, if_false, ite_true, ite_false, decide_eq_true_eq, Bool.not_eq_true', decide_eq_false_iff_not, Bool.false_eq_true, reduceIte, eq_self, Nat.reduceAdd, Nat.reduceLT, Nat.reduceSub, Nat.zero_add, Bool.not_true, Bool.not_false, and_self, and_true, true_and, List.map_cons, List.map_nil, List.replicate_succ, List.replicate_zero, List.cons_append, List.nil_append, Bool.and_true, Bool.true_and, Bool.and_self]
theorem q4 {ns : List Int} {c : Int} {k : Nat} {x3 : Option D} {ws : List (List Nat)} : ∃ (b : Bool) (c' : Int) (k' : Nat), tst4 [some (.scr ns), some (stm ns c k), some (.lst true (ws.map tx)), x3, some .non, none, none, none, none, none, none, none, none, none, none, none] = .ok b [some (.scr ns), some (stm ns c' k'), some (.lst true (ws.map tx)), x3, some .non, none, none, none, none, none, none, none, none, none, none, none] := by
  obtain ⟨d, c1, k1, hd, e⟩ := call_next (ns := ns) (c := c) (k := k) (many := 2) (i := 1) (ρ := [some (.scr ns), some (stm ns c k), some (.lst true (ws.map tx)), x3, some .non, none, none, none, none, none, none, none, none, none, none, none]) (by decide) (by decide) rfl
  refine ⟨decide ((d : Int) = 1), c1, k1, ?_⟩
  unfold tst4
  simp only [nexts, e_nx, b_ok, b_exc, s_ok, s_exc, e_seq, t_nx, t_ret, t_exc, t_bk, t_ct, e_name, nm_fz, nm_own, o_val, o_plc, o_tru, r_val, r_plc, p_some, pb_some, j_some, j_none, e_set, set_val, f_val, fs_nil, fs_val, frc_some, l_nil, l_cons, lc_some, e_ret, ret_val, e_ifS, w_nx, w_ret, w_exc, lp_nx, e_call, ld_nil, ld_val, ldc_some, bk_nil, bk_val, ro_ret, ro_exc, ro_nx, e_mcons, e_nil, e_C, e_P1, e_P2, e_B2, e_PL, e_and, e_or, e_not, e_bv, e_if, e_tru, tru_some, e_drop, e_fr, fk_some, e_raise, e_try, try_ret, try_nx, try_exc, unb_ret, e_xf, xf_some, e_xis, xi_some, e_part, e_nopart, part_int, e_sl, e_andV, e_orV, e_notV, and_bl, or_bl, not_bl, e_isi, isi_some, td_non, td_bl, td_int, td_tx, td_tup, td_lst, e_chain, ch_t, ch_f, e_put, e_for, e_iter, it_lst, it_tup, it_tx, e_enum, en_lst, e_comp, e_yes, e_meth, ck_lst, zl_nil, zl_cons, z_lstF, z_tup, fzl_nil, fzl_cons, fz_lstE, fz_tupE, cut_nn, cut_0n, cut_n0, cut_00, z_tx, z_int, z_bl, z_non, z_lst, fz_tx, fz_int, fz_bl, fz_non, g_lenL, g_lenT, g_lt, g_le, g_gt, g_ge, g_add, g_sub, g_eqS, g_eqI, g_neS, g_neI, g_in1, g_nin1, Option.bind_some, Option.map_some, List.getElem?_cons_zero, List.getElem?_cons_succ, List.set_cons_zero, List.set_cons_succ, List.length_cons, List.length_nil, if_true, if_false, ite_true, ite_false, decide_eq_true_eq, Bool.not_eq_true', decide_eq_false_iff_not, Bool.false_eq_true, reduceIte, eq_self, Nat.reduceAdd, Nat.reduceLT, Nat.reduceSub, Nat.zero_add, Bool.not_true, Bool.not_false, and_self, and_true, true_and, List.map_cons, List.map_nil, List.replicate_succ, List.replicate_zero, List.cons_append, List.nil_append, Bool.and_true, Bool.true_and, Bool.and_self, nm_own z_stm, e]
theorem law_plain (ns : List Int) (hns : ns.length ≤ 63) : ∃ ps, F_law [.scr ns] = .ret (.bl true) ps := by
  have fin : ∀ {rs : RS}, (∃ ρ, rs = .ret (.bl true) ρ) → ∃ ps, runO [0] 1 rs = .ret (.bl true) ps := fun h => by
    obtain ⟨ρ, rfl⟩ := h
    exact ⟨_, rfl⟩
  unfold F_law
  rw [law_split, e_run (by rfl)]
  refine fin ?_
  show ∃ ρ, (mSeq ls0 _) [some (.scr ns), none, none, none, none, none, none, none, none, none, none, none, none, none, none, none] = .ret (.bl true) ρ
  obtain ⟨ws, c, k, y3, hl, hg, e2⟩ := q2 ns
  rw [seq_nx (q0 ns), seq_nx (q1 ns), seq_nx e2, seq_nx q3]
  have good := fun w hw => good_ok w (hg w hw)
  obtain ⟨b, c4, k4, e4⟩ := q4 (ns := ns) (c := c) (k := k) (x3 := y3) (ws := ws)
  cases b with
  | true =>
    obtain ⟨c5, k5, at_, bw, m, ex, ha, hb, hm, hm2, h1, h2, h3, hex, hexw, e5⟩ := segB (ns := ns) (c := c4) (k := k4) (ws := ws) (y3 := y3) hl
    have s4a : ls4 [some (.scr ns), some (stm ns c k), some (.lst true (ws.map tx)), y3, some .non, none, none, none, none, none, none, none, none, none, none, none] = sgB [some (.scr ns), some (stm ns c4 k4), some (.lst true (ws.map tx)), y3, some .non, none, none, none, none, none, none, none, none, none, none, none] := by
      unfold ls4
      rw [e_ifS, e4, s_ok, if_pos rfl]
    have s4 := s4a.trans e5
    rw [seq_nx s4]
    have ew : ws.take at_ ++ [bw] ++ ws.drop at_ ++ ex = ws.take at_ ++ bw :: (ws.drop at_ ++ ex) := by simp
    rw [ew]
    refine end_bad y3 none none none none (some (.lst true BADS)) (some (tx bw)) none none _ (by rw [List.length_take]; omega) (fun w hw => (good w (List.mem_of_mem_take hw)).1) hb hm hm2 (fun w hw => ?_) (by rw [List.length_append, List.length_cons, List.length_append, List.length_take, List.length_drop]; omega)
    rcases List.mem_append.mp hw with hw | hw
    · have g := good w (List.mem_of_mem_take hw)
      exact ⟨v_ne g.1, g.2⟩
    · rcases List.mem_cons.mp hw with rfl | hw
      · exact ⟨h1, h2, h3⟩
      · rcases List.mem_append.mp hw with hw | hw
        · have g := good w (List.mem_of_mem_drop hw)
          exact ⟨v_ne g.1, g.2⟩
        · exact hexw w hw
  | false =>
    have s4 : ls4 [some (.scr ns), some (stm ns c k), some (.lst true (ws.map tx)), y3, some .non, none, none, none, none, none, none, none, none, none, none, none] = .nx [some (.scr ns), some (stm ns c4 k4), some (.lst true (ws.map tx)), y3, some .non, none, none, none, none, none, none, none, none, none, none, none] := by
      unfold ls4
      rw [e_ifS, e4, s_ok, if_neg Bool.false_ne_true, e_nx]
    rw [seq_nx s4]
    obtain ⟨c5, k5, seps, z, h1, h2, h3, h4, h5⟩ := laids (ns := ns) (c := c4) (k := k4) (W := ws) (fun w h => (good w h).2.1) (by omega) (some (.scr ns)) y3 (some .non) none none none none none none none none none none none
    rw [seq_nx h5]
    have hv : ∀ x ∈ seps.zip ws, V x.2 := fun x hx => (good _ (List.of_mem_zip hx).2).1
    have hne : ∀ x ∈ seps.zip ws, x.2 ≠ [] := fun x hx => v_ne (hv x hx)
    have h10 : 10 ∉ lay (seps.zip ws) ++ List.replicate z 32 := lay_10 fun x hx => (good _ (List.of_mem_zip hx).2).2.2
    have sc := scan_good h4 h10 h2 hv
    generalize hr : seps.zip ws = r at h2 h4 hv hne h10 sc ⊢
    generalize hL : lay r ++ List.replicate z 32 = l at h4 h10 sc ⊢
    have rl : r.length = ws.length := by rw [← hr, List.length_zip, h1, Nat.min_self]
    have dl : (due 0 r l).length ≤ 100 := by
      unfold due
      rw [List.length_append, toks_len, rl]
      simp only [List.length_cons, List.length_nil]
      omega
    have s6 : ls6 [some (.scr ns), some (stm ns c5 k5), some (.lst false (ws.map tx)), y3, some .non, some (tx l), some (.lst false (pls 0 r ++ [.int ((l.length + 1 : Nat) : Int)])), none, none, none, none, none, none, none, none, none] = .nx [some (.scr ns), some (stm ns c5 k5), some (.lst false (ws.map tx)), y3, some .non, some (tx l), some (.lst false (pls 0 r ++ [.int ((l.length + 1 : Nat) : Int)])), none, none, none, none, none, none, none, none, none] := by
      have gn : gIsN .non .non = some false := rfl
      unfold ls6
      rw [e_ifS]
      have t : (mB2 true gIsN (mName 4) (mC .non)) [some (.scr ns), some (stm ns c5 k5), some (.lst false (ws.map tx)), y3, some .non, some (tx l), some (.lst false (pls 0 r ++ [.int ((l.length + 1 : Nat) : Int)])), none, none, none, none, none, none, none, none, none] = .ok false [some (.scr ns), some (stm ns c5 k5), some (.lst false (ws.map tx)), y3, some .non, some (tx l), some (.lst false (pls 0 r ++ [.int ((l.length + 1 : Nat) : Int)])), none, none, none, none, none, none, none, none, none] := by
        simp only [e_nx, b_ok, b_exc, s_ok, s_exc, e_seq, t_nx, t_ret, t_exc, t_bk, t_ct, e_name, nm_fz, nm_own, o_val, o_plc, o_tru, r_val, r_plc, p_some, pb_some, j_some, j_none, e_set, set_val, f_val, fs_nil, fs_val, frc_some, l_nil, l_cons, lc_some, e_ret, ret_val, e_ifS, w_nx, w_ret, w_exc, lp_nx, e_call, ld_nil, ld_val, ldc_some, bk_nil, bk_val, ro_ret, ro_exc, ro_nx, e_mcons, e_nil, e_C, e_P1, e_P2, e_B2, e_PL, e_and, e_or, e_not, e_bv, e_if, e_tru, tru_some, e_drop, e_fr, fk_some, e_raise, e_try, try_ret, try_nx, try_exc, unb_ret, e_xf, xf_some, e_xis, xi_some, e_part, e_nopart, part_int, e_sl, e_andV, e_orV, e_notV, and_bl, or_bl, not_bl, e_isi, isi_some, td_non, td_bl, td_int, td_tx, td_tup, td_lst, e_chain, ch_t, ch_f, e_put, e_for, e_iter, it_lst, it_tup, it_tx, e_enum, en_lst, e_comp, e_yes, e_meth, ck_lst, zl_nil, zl_cons, z_lstF, z_tup, fzl_nil, fzl_cons, fz_lstE, fz_tupE, cut_nn, cut_0n, cut_n0, cut_00, z_tx, z_int, z_bl, z_non, z_lst, fz_tx, fz_int, fz_bl, fz_non, g_lenL, g_lenT, g_lt, g_le, g_gt, g_ge, g_add, g_sub, g_eqS, g_eqI, g_neS, g_neI, g_in1, g_nin1, Option.bind_some, Option.map_some, List.getElem?_cons_zero, List.getElem?_cons_succ, List.set_cons_zero, List.set_cons_succ, List.length_cons, List.length_nil, if_true, if_false, ite_true, ite_false, decide_eq_true_eq, Bool.not_eq_true', decide_eq_false_iff_not, Bool.false_eq_true, reduceIte, eq_self, Nat.reduceAdd, Nat.reduceLT, Nat.reduceSub, Nat.zero_add, Bool.not_true, Bool.not_false, and_self, and_true, true_and, List.map_cons, List.map_nil, List.replicate_succ, List.replicate_zero, List.cons_append, List.nil_append, Bool.and_true, Bool.true_and, Bool.and_self, gn]
      rw [t, s_ok, if_neg Bool.false_ne_true, e_nx]
    have scb : F_scan [tx (List.replicate (200 - l.length) 32 ++ l)] = .ret (.lst true (toks (200 - l.length) r ++ [tE (List.replicate (200 - l.length) 32 ++ l)])) [some (tx (List.replicate (200 - l.length) 32 ++ l))] :=
      scan_blank (z := z) (by rw [hL]) (by rw [List.length_append, List.length_replicate]; omega) (fun h => by
        rcases List.mem_append.mp h with h | h
        · have := List.eq_of_mem_replicate h
          omega
        · exact h10 h) h2 hv
    rw [seq_nx s6, seq_nx (q7 hr.symm h1 (fun w h => (good w h).2.1) (by omega)), seq_nx (q8 dl (told_ok sc)), seq_nx (q9 sc), seq_nx (q10 dl), seq_nx (q11 dl sc), seq_nx (q12 h4)]
    obtain ⟨d, c6, k6, hd, e13⟩ := q13 (ns := ns) (c := c5) (k := k5) (ws := ws) (r := r) (l := l) (x3 := y3) h4
    rw [seq_nx e13]
    obtain ⟨dz, db⟩ := rows_bad h4 hd
    exact q14 h4 dz db scb
end K85

namespace K85
open PySem PySem.Spec PyProof.Rows L2 Gc
abbrev st_IBadValue : Stmt := st_BadValue
abbrev st_ITextError : Stmt := st_TextError
theorem all_mk {P : Program} {w : World} {K : PySem.W.Frag} {h : Heap} {mg : Str → Option Value} {fa : Addr} (X : K.In h) (G : h.Ns mainGlobals mg) (hfa : mg "law" = some (.ref fa))
    {v_row_of : Addr} {od_row_of an_row_of : Option Addr} {sl_row_of : Array (Option Value)} {oc_row_of kV_row_of dc_row_of pm_row_of cd_row_of ct_row_of : Value} {v__law_stream : Addr} {od__law_stream an__law_stream : Option Addr} {sl__law_stream : Array (Option Value)} {oc__law_stream kV__law_stream dc__law_stream pm__law_stream cd__law_stream ct__law_stream : Value} {v__law_next : Addr} {od__law_next an__law_next : Option Addr} {sl__law_next : Array (Option Value)} {oc__law_next kV__law_next dc__law_next pm__law_next cd__law_next ct__law_next : Value} {v__law_is_integer : Addr} {od__law_is_integer an__law_is_integer : Option Addr} {sl__law_is_integer : Array (Option Value)} {oc__law_is_integer kV__law_is_integer dc__law_is_integer pm__law_is_integer cd__law_is_integer ct__law_is_integer : Value} {v__law_parts : Addr} {od__law_parts an__law_parts : Option Addr} {sl__law_parts : Array (Option Value)} {oc__law_parts kV__law_parts dc__law_parts pm__law_parts cd__law_parts ct__law_parts : Value} {v__law_pick : Addr} {od__law_pick an__law_pick : Option Addr} {sl__law_pick : Array (Option Value)} {oc__law_pick kV__law_pick dc__law_pick pm__law_pick cd__law_pick ct__law_pick : Value} {v__law_laid : Addr} {od__law_laid an__law_laid : Option Addr} {sl__law_laid : Array (Option Value)} {oc__law_laid kV__law_laid dc__law_laid pm__law_laid cd__law_laid ct__law_laid : Value} {v_check_string : Addr} {od_check_string an_check_string : Option Addr} {sl_check_string : Array (Option Value)} {oc_check_string kV_check_string dc_check_string pm_check_string cd_check_string ct_check_string : Value} {v_token_at : Addr} {od_token_at an_token_at : Option Addr} {sl_token_at : Array (Option Value)} {oc_token_at kV_token_at dc_token_at pm_token_at cd_token_at ct_token_at : Value} {v_scan : Addr} {od_scan an_scan : Option Addr} {sl_scan : Array (Option Value)} {oc_scan kV_scan dc_scan pm_scan cd_scan ct_scan : Value} {v__law_told : Addr} {od__law_told an__law_told : Option Addr} {sl__law_told : Array (Option Value)} {oc__law_told kV__law_told dc__law_told pm__law_told cd__law_told ct__law_told : Value} {v__law_equal : Addr} {od__law_equal an__law_equal : Option Addr} {sl__law_equal : Array (Option Value)} {oc__law_equal kV__law_equal dc__law_equal pm__law_equal cd__law_equal ct__law_equal : Value} {v_law : Addr} {od_law an_law : Option Addr} {sl_law : Array (Option Value)} {oc_law kV_law dc_law pm_law cd_law ct_law : Value} {t_ALPHABET : Tok} {t_LONGEST : Tok} {t_DIGITS : Tok} {t_SIGNS : Tok} {t_LONGEST_TEXT : Tok} {t_MOST_DIGITS : Tok} {v_BadValue : Addr} {v_CutError : Addr} {v_TextError : Addr} {nm_BadValue q_BadValue : Str} {N_BadValue : Addr} {bs_BadValue : List Value} {sn_BadValue : List Str} {sub_BadValue : List Value} {ab_BadValue : Bool} {col_BadValue : Option Bool} {dd_BadValue : Option Addr} {m0_BadValue m1_BadValue m2_BadValue m3_BadValue m5_BadValue : Option Value} {v_IBadValue : Addr} {od_IBadValue an_IBadValue : Option Addr} {sl_IBadValue : Array (Option Value)} {oc_IBadValue kV_IBadValue dc_IBadValue pm_IBadValue cd_IBadValue ct_IBadValue : Value} {nm_TextError q_TextError : Str} {N_TextError : Addr} {bs_TextError : List Value} {sn_TextError : List Str} {sub_TextError : List Value} {ab_TextError : Bool} {col_TextError : Option Bool} {dd_TextError : Option Addr} {m0_TextError m1_TextError m2_TextError m3_TextError m5_TextError : Option Value} {v_ITextError : Addr} {od_ITextError an_ITextError : Option Addr} {sl_ITextError : Array (Option Value)} {oc_ITextError kV_ITextError dc_ITextError pm_ITextError cd_ITextError ct_ITextError : Value}
    (n_row_of : PySem.W.nsIn K mainGlobals "row_of" = some (some (.ref v_row_of)))
    (l_row_of : K.lookup v_row_of = some ⟨oc_row_of, od_row_of, .func (PySem.W.fnOf "row_of" "row_of" (defArgs st_row_of) (defBody st_row_of) (defScope st_row_of) .none kV_row_of dc_row_of pm_row_of an_row_of cd_row_of ct_row_of), sl_row_of⟩)
    (c_row_of : PySem.W.codeIn K cd_row_of "row_of" = true)
    (k_row_of : PySem.W.keepIn K (.ref v_row_of) = true)
    (n__law_stream : PySem.W.nsIn K mainGlobals "_law_stream" = some (some (.ref v__law_stream)))
    (l__law_stream : K.lookup v__law_stream = some ⟨oc__law_stream, od__law_stream, .func (PySem.W.fnOf "_law_stream" "_law_stream" (defArgs st__law_stream) (defBody st__law_stream) (defScope st__law_stream) .none kV__law_stream dc__law_stream pm__law_stream an__law_stream cd__law_stream ct__law_stream), sl__law_stream⟩)
    (c__law_stream : PySem.W.codeIn K cd__law_stream "_law_stream" = true)
    (k__law_stream : PySem.W.keepIn K (.ref v__law_stream) = true)
    (n__law_next : PySem.W.nsIn K mainGlobals "_law_next" = some (some (.ref v__law_next)))
    (l__law_next : K.lookup v__law_next = some ⟨oc__law_next, od__law_next, .func (PySem.W.fnOf "_law_next" "_law_next" (defArgs st__law_next) (defBody st__law_next) (defScope st__law_next) .none kV__law_next dc__law_next pm__law_next an__law_next cd__law_next ct__law_next), sl__law_next⟩)
    (c__law_next : PySem.W.codeIn K cd__law_next "_law_next" = true)
    (k__law_next : PySem.W.keepIn K (.ref v__law_next) = true)
    (n__law_is_integer : PySem.W.nsIn K mainGlobals "_law_is_integer" = some (some (.ref v__law_is_integer)))
    (l__law_is_integer : K.lookup v__law_is_integer = some ⟨oc__law_is_integer, od__law_is_integer, .func (PySem.W.fnOf "_law_is_integer" "_law_is_integer" (defArgs st__law_is_integer) (defBody st__law_is_integer) (defScope st__law_is_integer) .none kV__law_is_integer dc__law_is_integer pm__law_is_integer an__law_is_integer cd__law_is_integer ct__law_is_integer), sl__law_is_integer⟩)
    (c__law_is_integer : PySem.W.codeIn K cd__law_is_integer "_law_is_integer" = true)
    (k__law_is_integer : PySem.W.keepIn K (.ref v__law_is_integer) = true)
    (n__law_parts : PySem.W.nsIn K mainGlobals "_law_parts" = some (some (.ref v__law_parts)))
    (l__law_parts : K.lookup v__law_parts = some ⟨oc__law_parts, od__law_parts, .func (PySem.W.fnOf "_law_parts" "_law_parts" (defArgs st__law_parts) (defBody st__law_parts) (defScope st__law_parts) .none kV__law_parts dc__law_parts pm__law_parts an__law_parts cd__law_parts ct__law_parts), sl__law_parts⟩)
    (c__law_parts : PySem.W.codeIn K cd__law_parts "_law_parts" = true)
    (k__law_parts : PySem.W.keepIn K (.ref v__law_parts) = true)
    (n__law_pick : PySem.W.nsIn K mainGlobals "_law_pick" = some (some (.ref v__law_pick)))
    (l__law_pick : K.lookup v__law_pick = some ⟨oc__law_pick, od__law_pick, .func (PySem.W.fnOf "_law_pick" "_law_pick" (defArgs st__law_pick) (defBody st__law_pick) (defScope st__law_pick) .none kV__law_pick dc__law_pick pm__law_pick an__law_pick cd__law_pick ct__law_pick), sl__law_pick⟩)
    (c__law_pick : PySem.W.codeIn K cd__law_pick "_law_pick" = true)
    (k__law_pick : PySem.W.keepIn K (.ref v__law_pick) = true)
    (n__law_laid : PySem.W.nsIn K mainGlobals "_law_laid" = some (some (.ref v__law_laid)))
    (l__law_laid : K.lookup v__law_laid = some ⟨oc__law_laid, od__law_laid, .func (PySem.W.fnOf "_law_laid" "_law_laid" (defArgs st__law_laid) (defBody st__law_laid) (defScope st__law_laid) .none kV__law_laid dc__law_laid pm__law_laid an__law_laid cd__law_laid ct__law_laid), sl__law_laid⟩)
    (c__law_laid : PySem.W.codeIn K cd__law_laid "_law_laid" = true)
    (k__law_laid : PySem.W.keepIn K (.ref v__law_laid) = true)
    (n_check_string : PySem.W.nsIn K mainGlobals "check_string" = some (some (.ref v_check_string)))
    (l_check_string : K.lookup v_check_string = some ⟨oc_check_string, od_check_string, .func (PySem.W.fnOf "check_string" "check_string" (defArgs st_check_string) (defBody st_check_string) (defScope st_check_string) .none kV_check_string dc_check_string pm_check_string an_check_string cd_check_string ct_check_string), sl_check_string⟩)
    (c_check_string : PySem.W.codeIn K cd_check_string "check_string" = true)
    (k_check_string : PySem.W.keepIn K (.ref v_check_string) = true)
    (n_token_at : PySem.W.nsIn K mainGlobals "token_at" = some (some (.ref v_token_at)))
    (l_token_at : K.lookup v_token_at = some ⟨oc_token_at, od_token_at, .func (PySem.W.fnOf "token_at" "token_at" (defArgs st_token_at) (defBody st_token_at) (defScope st_token_at) .none kV_token_at dc_token_at pm_token_at an_token_at cd_token_at ct_token_at), sl_token_at⟩)
    (c_token_at : PySem.W.codeIn K cd_token_at "token_at" = true)
    (k_token_at : PySem.W.keepIn K (.ref v_token_at) = true)
    (n_scan : PySem.W.nsIn K mainGlobals "scan" = some (some (.ref v_scan)))
    (l_scan : K.lookup v_scan = some ⟨oc_scan, od_scan, .func (PySem.W.fnOf "scan" "scan" (defArgs st_scan) (defBody st_scan) (defScope st_scan) .none kV_scan dc_scan pm_scan an_scan cd_scan ct_scan), sl_scan⟩)
    (c_scan : PySem.W.codeIn K cd_scan "scan" = true)
    (k_scan : PySem.W.keepIn K (.ref v_scan) = true)
    (n__law_told : PySem.W.nsIn K mainGlobals "_law_told" = some (some (.ref v__law_told)))
    (l__law_told : K.lookup v__law_told = some ⟨oc__law_told, od__law_told, .func (PySem.W.fnOf "_law_told" "_law_told" (defArgs st__law_told) (defBody st__law_told) (defScope st__law_told) .none kV__law_told dc__law_told pm__law_told an__law_told cd__law_told ct__law_told), sl__law_told⟩)
    (c__law_told : PySem.W.codeIn K cd__law_told "_law_told" = true)
    (k__law_told : PySem.W.keepIn K (.ref v__law_told) = true)
    (n__law_equal : PySem.W.nsIn K mainGlobals "_law_equal" = some (some (.ref v__law_equal)))
    (l__law_equal : K.lookup v__law_equal = some ⟨oc__law_equal, od__law_equal, .func (PySem.W.fnOf "_law_equal" "_law_equal" (defArgs st__law_equal) (defBody st__law_equal) (defScope st__law_equal) .none kV__law_equal dc__law_equal pm__law_equal an__law_equal cd__law_equal ct__law_equal), sl__law_equal⟩)
    (c__law_equal : PySem.W.codeIn K cd__law_equal "_law_equal" = true)
    (k__law_equal : PySem.W.keepIn K (.ref v__law_equal) = true)
    (n_law : PySem.W.nsIn K mainGlobals "law" = some (some (.ref v_law)))
    (l_law : K.lookup v_law = some ⟨oc_law, od_law, .func (PySem.W.fnOf "law" "law" (defArgs st_law) (defBody st_law) (defScope st_law) .none kV_law dc_law pm_law an_law cd_law ct_law), sl_law⟩)
    (c_law : PySem.W.codeIn K cd_law "law" = true)
    (k_law : PySem.W.keepIn K (.ref v_law) = true)
    (n_ALPHABET : PySem.W.nsIn K mainGlobals "ALPHABET" = some (some (.str "abcdefghijklmnopqrstuvwxyz" t_ALPHABET)))
    (n_LONGEST : PySem.W.nsIn K mainGlobals "LONGEST" = some (some (.int 4 t_LONGEST)))
    (n_DIGITS : PySem.W.nsIn K mainGlobals "DIGITS" = some (some (.str "0123456789" t_DIGITS)))
    (n_SIGNS : PySem.W.nsIn K mainGlobals "SIGNS" = some (some (.str ":|" t_SIGNS)))
    (n_LONGEST_TEXT : PySem.W.nsIn K mainGlobals "LONGEST_TEXT" = some (some (.int 200 t_LONGEST_TEXT)))
    (n_MOST_DIGITS : PySem.W.nsIn K mainGlobals "MOST_DIGITS" = some (some (.int 6 t_MOST_DIGITS)))
    (z_abs : PySem.W.nsIn K mainGlobals "abs" = some none)
    (z_all : PySem.W.nsIn K mainGlobals "all" = some none)
    (z_bool : PySem.W.nsIn K mainGlobals "bool" = some none)
    (z_enumerate : PySem.W.nsIn K mainGlobals "enumerate" = some none)
    (z_int : PySem.W.nsIn K mainGlobals "int" = some none)
    (z_isinstance : PySem.W.nsIn K mainGlobals "isinstance" = some none)
    (z_len : PySem.W.nsIn K mainGlobals "len" = some none)
    (z_list : PySem.W.nsIn K mainGlobals "list" = some none)
    (z_max : PySem.W.nsIn K mainGlobals "max" = some none)
    (z_range : PySem.W.nsIn K mainGlobals "range" = some none)
    (z_str : PySem.W.nsIn K mainGlobals "str" = some none)
    (z_tuple : PySem.W.nsIn K mainGlobals "tuple" = some none)
    (n_BadValue : PySem.W.nsIn K mainGlobals "BadValue" = some (some (.ref v_BadValue)))
    (n_CutError : PySem.W.nsIn K mainGlobals "CutError" = some (some (.ref v_CutError)))
    (n_TextError : PySem.W.nsIn K mainGlobals "TextError" = some (some (.ref v_TextError)))
    (o_BadValue : K.lookup v_BadValue = some (PySem.excClassObj nm_BadValue q_BadValue v_BadValue N_BadValue bs_BadValue [.ref v_CutError, .type "ValueError", .type "Exception", .type "BaseException", .type "object"] true sn_BadValue sub_BadValue ab_BadValue col_BadValue dd_BadValue m0_BadValue m1_BadValue m2_BadValue m3_BadValue m5_BadValue "ValueError.__new__"))
    (sa_BadValue : PySem.W.findIn K (.ref v_BadValue) "__setattr__" = some (some (.builtin "object.__setattr__")))
    (kc_BadValue : PySem.W.keepIn K (.ref v_BadValue) = true)
    (n_IBadValue : PySem.W.findIn K (.ref v_BadValue) "__init__" = some (some (.ref v_IBadValue)))
    (l_IBadValue : K.lookup v_IBadValue = some ⟨oc_IBadValue, od_IBadValue, .func (PySem.W.fnOf "__init__" "BadValue.__init__" (defArgs st_IBadValue) (defBody st_IBadValue) (defScope st_IBadValue) .none kV_IBadValue dc_IBadValue pm_IBadValue an_IBadValue cd_IBadValue ct_IBadValue), sl_IBadValue⟩)
    (c_IBadValue : PySem.W.codeIn K cd_IBadValue "BadValue.__init__" = true)
    (k_IBadValue : PySem.W.keepIn K (.ref v_IBadValue) = true)
    (ti_BadValue : PySem.W.typeIn K (.ref v_IBadValue) = some (.type "function"))
    (no0_BadValue : PySem.W.findIn K (.ref v_BadValue) "name" = some none)
    (o_TextError : K.lookup v_TextError = some (PySem.excClassObj nm_TextError q_TextError v_TextError N_TextError bs_TextError [.ref v_CutError, .type "ValueError", .type "Exception", .type "BaseException", .type "object"] true sn_TextError sub_TextError ab_TextError col_TextError dd_TextError m0_TextError m1_TextError m2_TextError m3_TextError m5_TextError "ValueError.__new__"))
    (sa_TextError : PySem.W.findIn K (.ref v_TextError) "__setattr__" = some (some (.builtin "object.__setattr__")))
    (kc_TextError : PySem.W.keepIn K (.ref v_TextError) = true)
    (n_ITextError : PySem.W.findIn K (.ref v_TextError) "__init__" = some (some (.ref v_ITextError)))
    (l_ITextError : K.lookup v_ITextError = some ⟨oc_ITextError, od_ITextError, .func (PySem.W.fnOf "__init__" "TextError.__init__" (defArgs st_ITextError) (defBody st_ITextError) (defScope st_ITextError) .none kV_ITextError dc_ITextError pm_ITextError an_ITextError cd_ITextError ct_ITextError), sl_ITextError⟩)
    (c_ITextError : PySem.W.codeIn K cd_ITextError "TextError.__init__" = true)
    (k_ITextError : PySem.W.keepIn K (.ref v_ITextError) = true)
    (ti_TextError : PySem.W.typeIn K (.ref v_ITextError) = some (.type "function"))
    (no0_TextError : PySem.W.findIn K (.ref v_TextError) "column" = some none)
    (no1_TextError : PySem.W.findIn K (.ref v_TextError) "words" = some none)
    (nf_BadValue_name : PySem.W.findIn K (.ref v_BadValue) "name" = some none)
    (nf_TextError_column : PySem.W.findIn K (.ref v_TextError) "column" = some none)
    (nf_TextError_words : PySem.W.findIn K (.ref v_TextError) "words" = some none)
    (oc0 : PySem.W.specialIn K (.builtin "object.__class__") "__get__" = some (some (.builtin "getset_descriptor.__get__")))
    (ok0 : PySem.W.takesIn K (.builtin "object.__class__") = some true)
    (eb_BadValue : PySem.W.subIn K (.ref v_BadValue) (.type "BaseException") = some true)
    (tc_BadValue : PySem.W.typeIn K (.ref v_BadValue) = some (.type "type"))
    (hd_BadValue : PySem.W.hasDictIn K v_BadValue = true)
    (ic_BadValue : PySem.W.isClsIn K v_BadValue = true)
    (ga_BadValue : PySem.W.findIn K (.ref v_BadValue) "__getattribute__" = some (some (.builtin "BaseException.__getattribute__")))
    (gg_BadValue : PySem.W.findIn K (.ref v_BadValue) "__getattr__" = some none)
    (cc_BadValue : PySem.W.findIn K (.ref v_BadValue) "__class__" = some (some (.builtin "object.__class__")))
    (mo_BadValue : PySem.W.mroIn K v_BadValue (.type "object") = some true)
    (eb_CutError : PySem.W.subIn K (.ref v_CutError) (.type "BaseException") = some true)
    (tc_CutError : PySem.W.typeIn K (.ref v_CutError) = some (.type "type"))
    (hd_CutError : PySem.W.hasDictIn K v_CutError = true)
    (ic_CutError : PySem.W.isClsIn K v_CutError = true)
    (ga_CutError : PySem.W.findIn K (.ref v_CutError) "__getattribute__" = some (some (.builtin "BaseException.__getattribute__")))
    (gg_CutError : PySem.W.findIn K (.ref v_CutError) "__getattr__" = some none)
    (cc_CutError : PySem.W.findIn K (.ref v_CutError) "__class__" = some (some (.builtin "object.__class__")))
    (mo_CutError : PySem.W.mroIn K v_CutError (.type "object") = some true)
    (eb_TextError : PySem.W.subIn K (.ref v_TextError) (.type "BaseException") = some true)
    (tc_TextError : PySem.W.typeIn K (.ref v_TextError) = some (.type "type"))
    (hd_TextError : PySem.W.hasDictIn K v_TextError = true)
    (ic_TextError : PySem.W.isClsIn K v_TextError = true)
    (ga_TextError : PySem.W.findIn K (.ref v_TextError) "__getattribute__" = some (some (.builtin "BaseException.__getattribute__")))
    (gg_TextError : PySem.W.findIn K (.ref v_TextError) "__getattr__" = some none)
    (cc_TextError : PySem.W.findIn K (.ref v_TextError) "__class__" = some (some (.builtin "object.__class__")))
    (mo_TextError : PySem.W.mroIn K v_TextError (.type "object") = some true)
    (su_BadValue_BadValue : PySem.W.subIn K (.ref v_BadValue) (.ref v_BadValue) = some true)
    (su_BadValue_CutError : PySem.W.subIn K (.ref v_BadValue) (.ref v_CutError) = some true)
    (su_BadValue_TextError : PySem.W.subIn K (.ref v_BadValue) (.ref v_TextError) = some false)
    (su_CutError_CutError : PySem.W.subIn K (.ref v_CutError) (.ref v_CutError) = some true)
    (su_TextError_BadValue : PySem.W.subIn K (.ref v_TextError) (.ref v_BadValue) = some false)
    (su_TextError_CutError : PySem.W.subIn K (.ref v_TextError) (.ref v_CutError) = some true)
    (su_TextError_TextError : PySem.W.subIn K (.ref v_TextError) (.ref v_TextError) = some true)
    (hl : ∀ ns : List Int, ns.length ≤ 63 → ∃ ps, F_law [.scr ns] = .ret (.bl true) ps) :
    ∃ fd : FuncData, (∀ (s : Shared) (u : Value), BindsTo s fd ⟨[u], []⟩ [("_law_script", u)]) ∧ ∀ base : Heap, K.In base → base.Ns mainGlobals mg → FnOk P w K mg base (L2.CX P w) 14 fa fd ["_law_script"] (spEnd K) := by
  have e := hfa.symm.trans (PySem.W.mg_of X G n_law)
  cases e
  have F_row_of := fun_mk (st := st_row_of) l_row_of c_row_of k_row_of
  have b_row_of := F_row_of.binds (ps := ["text", "at", "chars"]) fun _ _ _ _ _ _ us hl => match us, hl with | [_, _, _], _ => rfl
  have F__law_stream := fun_mk (st := st__law_stream) l__law_stream c__law_stream k__law_stream
  have b__law_stream := F__law_stream.binds (ps := ["_law_script"]) fun _ _ _ _ _ _ us hl => match us, hl with | [_], _ => rfl
  have F__law_next := fun_mk (st := st__law_next) l__law_next c__law_next k__law_next
  have b__law_next := F__law_next.binds (ps := ["_law_stream_here", "_law_many"]) fun _ _ _ _ _ _ us hl => match us, hl with | [_, _], _ => rfl
  have F__law_is_integer := fun_mk (st := st__law_is_integer) l__law_is_integer c__law_is_integer k__law_is_integer
  have b__law_is_integer := F__law_is_integer.binds (ps := ["_law_actual"]) fun _ _ _ _ _ _ us hl => match us, hl with | [_], _ => rfl
  have F__law_parts := fun_mk (st := st__law_parts) l__law_parts c__law_parts k__law_parts
  have b__law_parts := F__law_parts.binds (ps := ["_law_word"]) fun _ _ _ _ _ _ us hl => match us, hl with | [_], _ => rfl
  have F__law_pick := fun_mk (st := st__law_pick) l__law_pick c__law_pick k__law_pick
  have b__law_pick := F__law_pick.binds (ps := ["_law_stream_here", "_law_rows"]) fun _ _ _ _ _ _ us hl => match us, hl with | [_, _], _ => rfl
  have F__law_laid := fun_mk (st := st__law_laid) l__law_laid c__law_laid k__law_laid
  have b__law_laid := F__law_laid.binds (ps := ["_law_stream_here", "_law_words"]) fun _ _ _ _ _ _ us hl => match us, hl with | [_, _], _ => rfl
  have F_check_string := fun_mk (st := st_check_string) l_check_string c_check_string k_check_string
  have b_check_string := F_check_string.binds (ps := ["text"]) fun _ _ _ _ _ _ us hl => match us, hl with | [_], _ => rfl
  have F_token_at := fun_mk (st := st_token_at) l_token_at c_token_at k_token_at
  have b_token_at := F_token_at.binds (ps := ["text", "at"]) fun _ _ _ _ _ _ us hl => match us, hl with | [_, _], _ => rfl
  have F_scan := fun_mk (st := st_scan) l_scan c_scan k_scan
  have b_scan := F_scan.binds (ps := ["text"]) fun _ _ _ _ _ _ us hl => match us, hl with | [_], _ => rfl
  have F__law_told := fun_mk (st := st__law_told) l__law_told c__law_told k__law_told
  have b__law_told := F__law_told.binds (ps := ["_law_text"]) fun _ _ _ _ _ _ us hl => match us, hl with | [_], _ => rfl
  have F__law_equal := fun_mk (st := st__law_equal) l__law_equal c__law_equal k__law_equal
  have b__law_equal := F__law_equal.binds (ps := ["_law_actual", "_law_due"]) fun _ _ _ _ _ _ us hl => match us, hl with | [_, _], _ => rfl
  have F_law := fun_mk (st := st_law) l_law c_law k_law
  have b_law := F_law.binds (ps := ["_law_script"]) fun _ _ _ _ _ _ us hl => match us, hl with | [_], _ => rfl
  have F_IBadValue := fun_mk (st := st_IBadValue) l_IBadValue c_IBadValue k_IBadValue
  have b_IBadValue := F_IBadValue.binds (ps := ["self", "name"]) fun _ _ _ _ _ _ us hl => match us, hl with | [_, _], _ => rfl
  have F_ITextError := fun_mk (st := st_ITextError) l_ITextError c_ITextError k_ITextError
  have b_ITextError := F_ITextError.binds (ps := ["self", "column", "words"]) fun _ _ _ _ _ _ us hl => match us, hl with | [_, _, _], _ => rfl
  let T : Txt K mg := {
    a_row_of := v_row_of,
    d_row_of := _,
    F_row_of := F_row_of,
    g_row_of := PySem.W.mg_of X G n_row_of,
    b_row_of := b_row_of,
    a__law_stream := v__law_stream,
    d__law_stream := _,
    F__law_stream := F__law_stream,
    g__law_stream := PySem.W.mg_of X G n__law_stream,
    b__law_stream := b__law_stream,
    a__law_next := v__law_next,
    d__law_next := _,
    F__law_next := F__law_next,
    g__law_next := PySem.W.mg_of X G n__law_next,
    b__law_next := b__law_next,
    a__law_is_integer := v__law_is_integer,
    d__law_is_integer := _,
    F__law_is_integer := F__law_is_integer,
    g__law_is_integer := PySem.W.mg_of X G n__law_is_integer,
    b__law_is_integer := b__law_is_integer,
    a__law_parts := v__law_parts,
    d__law_parts := _,
    F__law_parts := F__law_parts,
    g__law_parts := PySem.W.mg_of X G n__law_parts,
    b__law_parts := b__law_parts,
    a__law_pick := v__law_pick,
    d__law_pick := _,
    F__law_pick := F__law_pick,
    g__law_pick := PySem.W.mg_of X G n__law_pick,
    b__law_pick := b__law_pick,
    a__law_laid := v__law_laid,
    d__law_laid := _,
    F__law_laid := F__law_laid,
    g__law_laid := PySem.W.mg_of X G n__law_laid,
    b__law_laid := b__law_laid,
    a_check_string := v_check_string,
    d_check_string := _,
    F_check_string := F_check_string,
    g_check_string := PySem.W.mg_of X G n_check_string,
    b_check_string := b_check_string,
    a_token_at := v_token_at,
    d_token_at := _,
    F_token_at := F_token_at,
    g_token_at := PySem.W.mg_of X G n_token_at,
    b_token_at := b_token_at,
    a_scan := v_scan,
    d_scan := _,
    F_scan := F_scan,
    g_scan := PySem.W.mg_of X G n_scan,
    b_scan := b_scan,
    a__law_told := v__law_told,
    d__law_told := _,
    F__law_told := F__law_told,
    g__law_told := PySem.W.mg_of X G n__law_told,
    b__law_told := b__law_told,
    a__law_equal := v__law_equal,
    d__law_equal := _,
    F__law_equal := F__law_equal,
    g__law_equal := PySem.W.mg_of X G n__law_equal,
    b__law_equal := b__law_equal,
    a_law := fa,
    d_law := _,
    F_law := F_law,
    g_law := PySem.W.mg_of X G n_law,
    b_law := b_law,
    t_ALPHABET := t_ALPHABET,
    c_ALPHABET := PySem.W.mg_of X G n_ALPHABET,
    t_LONGEST := t_LONGEST,
    c_LONGEST := PySem.W.mg_of X G n_LONGEST,
    t_DIGITS := t_DIGITS,
    c_DIGITS := PySem.W.mg_of X G n_DIGITS,
    t_SIGNS := t_SIGNS,
    c_SIGNS := PySem.W.mg_of X G n_SIGNS,
    t_LONGEST_TEXT := t_LONGEST_TEXT,
    c_LONGEST_TEXT := PySem.W.mg_of X G n_LONGEST_TEXT,
    t_MOST_DIGITS := t_MOST_DIGITS,
    c_MOST_DIGITS := PySem.W.mg_of X G n_MOST_DIGITS,
    z_abs := PySem.W.mg_none_of X G z_abs,
    z_all := PySem.W.mg_none_of X G z_all,
    z_bool := PySem.W.mg_none_of X G z_bool,
    z_enumerate := PySem.W.mg_none_of X G z_enumerate,
    z_int := PySem.W.mg_none_of X G z_int,
    z_isinstance := PySem.W.mg_none_of X G z_isinstance,
    z_len := PySem.W.mg_none_of X G z_len,
    z_list := PySem.W.mg_none_of X G z_list,
    z_max := PySem.W.mg_none_of X G z_max,
    z_range := PySem.W.mg_none_of X G z_range,
    z_str := PySem.W.mg_none_of X G z_str,
    z_tuple := PySem.W.mg_none_of X G z_tuple,
    a_BadValue := v_BadValue,
    g_BadValue := PySem.W.mg_of X G n_BadValue,
    a_CutError := v_CutError,
    g_CutError := PySem.W.mg_of X G n_CutError,
    a_TextError := v_TextError,
    g_TextError := PySem.W.mg_of X G n_TextError,
    x_BadValue := ⟨⟨nm_BadValue, q_BadValue, N_BadValue, bs_BadValue, _, sn_BadValue, sub_BadValue, ab_BadValue, col_BadValue, dd_BadValue, m0_BadValue, m1_BadValue, m2_BadValue, m3_BadValue, m5_BadValue, o_BadValue, rfl⟩, sa_BadValue, eb_BadValue, tc_BadValue, kc_BadValue⟩,
    ia_BadValue := v_IBadValue,
    id_BadValue := _,
    i_BadValue := n_IBadValue,
    j_BadValue := ti_BadValue,
    I_BadValue := F_IBadValue,
    b_BadValue := b_IBadValue,
    no0_BadValue := no0_BadValue,
    x_TextError := ⟨⟨nm_TextError, q_TextError, N_TextError, bs_TextError, _, sn_TextError, sub_TextError, ab_TextError, col_TextError, dd_TextError, m0_TextError, m1_TextError, m2_TextError, m3_TextError, m5_TextError, o_TextError, rfl⟩, sa_TextError, eb_TextError, tc_TextError, kc_TextError⟩,
    ia_TextError := v_ITextError,
    id_TextError := _,
    i_TextError := n_ITextError,
    j_TextError := ti_TextError,
    I_TextError := F_ITextError,
    b_TextError := b_ITextError,
    no0_TextError := no0_TextError,
    no1_TextError := no1_TextError,
    ce_BadValue := by unfold ca_BadValue; exact List.forall_mem_cons.mpr ⟨fun cl h => by rw [same_mg (PySem.W.mg_of X G n_BadValue) h]; exact PySem.W.exm_ref eb_BadValue hd_BadValue tc_BadValue su_BadValue_BadValue, List.forall_mem_cons.mpr ⟨fun cl h => by rw [same_mg (PySem.W.mg_of X G n_TextError) h]; exact PySem.W.exm_ref eb_BadValue hd_BadValue tc_BadValue su_TextError_BadValue, fun _ h => nomatch h⟩⟩,
    ce_TextError := by unfold ca_TextError; exact List.forall_mem_cons.mpr ⟨fun cl h => by rw [same_mg (PySem.W.mg_of X G n_BadValue) h]; exact PySem.W.exm_ref eb_TextError hd_TextError tc_TextError su_BadValue_TextError, List.forall_mem_cons.mpr ⟨fun cl h => by rw [same_mg (PySem.W.mg_of X G n_TextError) h]; exact PySem.W.exm_ref eb_TextError hd_TextError tc_TextError su_TextError_TextError, fun _ h => nomatch h⟩⟩,
    xf_BadValue_name := by unfold ca_BadValue; exact List.forall_mem_cons.mpr ⟨fun _ A h => by rw [same_mg (PySem.W.mg_of X G n_BadValue) h]; exact ⟨⟨ga_BadValue, gg_BadValue, eb_BadValue, hd_BadValue⟩, nf_BadValue_name⟩, List.forall_mem_cons.mpr ⟨fun z => Bool.noConfusion z, fun _ h => nomatch h⟩⟩,
    xf_TextError_column := by unfold ca_TextError; exact List.forall_mem_cons.mpr ⟨fun z => Bool.noConfusion z, List.forall_mem_cons.mpr ⟨fun _ A h => by rw [same_mg (PySem.W.mg_of X G n_TextError) h]; exact ⟨⟨ga_TextError, gg_TextError, eb_TextError, hd_TextError⟩, nf_TextError_column⟩, fun _ h => nomatch h⟩⟩,
    xf_TextError_words := by unfold ca_TextError; exact List.forall_mem_cons.mpr ⟨fun z => Bool.noConfusion z, List.forall_mem_cons.mpr ⟨fun _ A h => by rw [same_mg (PySem.W.mg_of X G n_TextError) h]; exact ⟨⟨ga_TextError, gg_TextError, eb_TextError, hd_TextError⟩, nf_TextError_words⟩, fun _ h => nomatch h⟩⟩,
    xis_TextError := by unfold ca_TextError; exact List.forall_mem_cons.mpr ⟨fun z => Bool.noConfusion z, List.forall_mem_cons.mpr ⟨fun _ A h => by rw [same_mg (PySem.W.mg_of X G n_TextError) h]; exact ⟨ga_TextError, gg_TextError, eb_TextError, hd_TextError, cc_TextError, oc0, ok0, mo_TextError⟩, fun _ h => nomatch h⟩⟩,
    xt_TextError_CutError := by unfold xt_TextError_CutError; exact List.forall_mem_cons.mpr ⟨fun A h => by rw [same_mg (PySem.W.mg_of X G n_BadValue) h]; exact kit_own ic_CutError tc_CutError su_BadValue_CutError su_CutError_CutError, List.forall_mem_cons.mpr ⟨fun A h => by rw [same_mg (PySem.W.mg_of X G n_TextError) h]; exact kit_own ic_CutError tc_CutError su_TextError_CutError su_CutError_CutError, fun _ h => nomatch h⟩⟩
  }
  exact ⟨_, fun s u => .of_eq rfl, fun base _ _ => (ok_law (k := 0) T).imp (law_end hl)⟩
end K85
open PySem PySem.W PyProof.Rows
set_option maxHeartbeats 0 in
theorem PySem.Challenge.cw_greedycuts_k85_tokens_of_texts_holds : PySem.Challenge.rw_greedycuts_k85_tokens_of_texts.Holds := by
  w_on; o_law; k_head; (case hw => w_witness2)
  k_fill
  refine L2.walk_of (l := PySem.Challenge.rw_greedycuts_k85_tokens_of_texts) (n := 63) (k := 14) (x := "_law_script") (CX := fun w => L2.CX (PySem.Challenge.rw_greedycuts_k85_tokens_of_texts).prog w) (sp := fun w => Gc.spEnd _) rfl (by decide) rfl ⟨rfl, by decide, by decide⟩ (fun w h Y => PySem.W.kIn_of Y) ?F (fun _ _ a ns hl _ hS => ⟨a, ns, rfl, hS, hl, fun _ => rfl⟩) (fun _ _ _ _ _ ⟨_, _, _, _, _, _, _, _, _, _, _, _, z⟩ => z)
  case F =>
    intro w mg fa h KX G hmg
    refine' K85.all_mk KX G hmg ?n_row_of ?l_row_of ?c_row_of ?k_row_of ?n__law_stream ?l__law_stream ?c__law_stream ?k__law_stream ?n__law_next ?l__law_next ?c__law_next ?k__law_next ?n__law_is_integer ?l__law_is_integer ?c__law_is_integer ?k__law_is_integer ?n__law_parts ?l__law_parts ?c__law_parts ?k__law_parts ?n__law_pick ?l__law_pick ?c__law_pick ?k__law_pick ?n__law_laid ?l__law_laid ?c__law_laid ?k__law_laid ?n_check_string ?l_check_string ?c_check_string ?k_check_string ?n_token_at ?l_token_at ?c_token_at ?k_token_at ?n_scan ?l_scan ?c_scan ?k_scan ?n__law_told ?l__law_told ?c__law_told ?k__law_told ?n__law_equal ?l__law_equal ?c__law_equal ?k__law_equal ?n_law ?l_law ?c_law ?k_law ?n_ALPHABET ?n_LONGEST ?n_DIGITS ?n_SIGNS ?n_LONGEST_TEXT ?n_MOST_DIGITS ?z_abs ?z_all ?z_bool ?z_enumerate ?z_int ?z_isinstance ?z_len ?z_list ?z_max ?z_range ?z_str ?z_tuple ?n_BadValue ?n_CutError ?n_TextError ?o_BadValue ?sa_BadValue ?kc_BadValue ?n_IBadValue ?l_IBadValue ?c_IBadValue ?k_IBadValue ?ti_BadValue ?no0_BadValue ?o_TextError ?sa_TextError ?kc_TextError ?n_ITextError ?l_ITextError ?c_ITextError ?k_ITextError ?ti_TextError ?no0_TextError ?no1_TextError ?nf_BadValue_name ?nf_TextError_column ?nf_TextError_words ?oc0 ?ok0 ?eb_BadValue ?tc_BadValue ?hd_BadValue ?ic_BadValue ?ga_BadValue ?gg_BadValue ?cc_BadValue ?mo_BadValue ?eb_CutError ?tc_CutError ?hd_CutError ?ic_CutError ?ga_CutError ?gg_CutError ?cc_CutError ?mo_CutError ?eb_TextError ?tc_TextError ?hd_TextError ?ic_TextError ?ga_TextError ?gg_TextError ?cc_TextError ?mo_TextError ?su_BadValue_BadValue ?su_BadValue_CutError ?su_BadValue_TextError ?su_CutError_CutError ?su_TextError_BadValue ?su_TextError_CutError ?su_TextError_TextError K85.law_plain
    (case n_row_of => k_is)
    (case l_row_of => k_is)
    (case c_row_of => k_is)
    (case k_row_of => k_is)
    (case n__law_stream => k_is)
    (case l__law_stream => k_is)
    (case c__law_stream => k_is)
    (case k__law_stream => k_is)
    (case n__law_next => k_is)
    (case l__law_next => k_is)
    (case c__law_next => k_is)
    (case k__law_next => k_is)
    (case n__law_is_integer => k_is)
    (case l__law_is_integer => k_is)
    (case c__law_is_integer => k_is)
    (case k__law_is_integer => k_is)
    (case n__law_parts => k_is)
    (case l__law_parts => k_is)
    (case c__law_parts => k_is)
    (case k__law_parts => k_is)
    (case n__law_pick => k_is)
    (case l__law_pick => k_is)
    (case c__law_pick => k_is)
    (case k__law_pick => k_is)
    (case n__law_laid => k_is)
    (case l__law_laid => k_is)
    (case c__law_laid => k_is)
    (case k__law_laid => k_is)
    (case n_check_string => k_is)
    (case l_check_string => k_is)
    (case c_check_string => k_is)
    (case k_check_string => k_is)
    (case n_token_at => k_is)
    (case l_token_at => k_is)
    (case c_token_at => k_is)
    (case k_token_at => k_is)
    (case n_scan => k_is)
    (case l_scan => k_is)
    (case c_scan => k_is)
    (case k_scan => k_is)
    (case n__law_told => k_is)
    (case l__law_told => k_is)
    (case c__law_told => k_is)
    (case k__law_told => k_is)
    (case n__law_equal => k_is)
    (case l__law_equal => k_is)
    (case c__law_equal => k_is)
    (case k__law_equal => k_is)
    (case n_law => k_is)
    (case l_law => k_is)
    (case c_law => k_is)
    (case k_law => k_is)
    (case n_ALPHABET => k_is)
    (case n_LONGEST => k_is)
    (case n_DIGITS => k_is)
    (case n_SIGNS => k_is)
    (case n_LONGEST_TEXT => k_is)
    (case n_MOST_DIGITS => k_is)
    (case z_abs => k_is)
    (case z_all => k_is)
    (case z_bool => k_is)
    (case z_enumerate => k_is)
    (case z_int => k_is)
    (case z_isinstance => k_is)
    (case z_len => k_is)
    (case z_list => k_is)
    (case z_max => k_is)
    (case z_range => k_is)
    (case z_str => k_is)
    (case z_tuple => k_is)
    (case n_BadValue => k_is)
    (case n_CutError => k_is)
    (case n_TextError => k_is)
    (case o_BadValue => k_is)
    (case sa_BadValue => k_is)
    (case kc_BadValue => k_is)
    (case n_IBadValue => k_is)
    (case l_IBadValue => k_is)
    (case c_IBadValue => k_is)
    (case k_IBadValue => k_is)
    (case ti_BadValue => k_is)
    (case no0_BadValue => k_is)
    (case o_TextError => k_is)
    (case sa_TextError => k_is)
    (case kc_TextError => k_is)
    (case n_ITextError => k_is)
    (case l_ITextError => k_is)
    (case c_ITextError => k_is)
    (case k_ITextError => k_is)
    (case ti_TextError => k_is)
    (case no0_TextError => k_is)
    (case no1_TextError => k_is)
    (case nf_BadValue_name => k_is)
    (case nf_TextError_column => k_is)
    (case nf_TextError_words => k_is)
    (case oc0 => k_is)
    (case ok0 => k_is)
    (case eb_BadValue => k_is)
    (case tc_BadValue => k_is)
    (case hd_BadValue => k_is)
    (case ic_BadValue => k_is)
    (case ga_BadValue => k_is)
    (case gg_BadValue => k_is)
    (case cc_BadValue => k_is)
    (case mo_BadValue => k_is)
    (case eb_CutError => k_is)
    (case tc_CutError => k_is)
    (case hd_CutError => k_is)
    (case ic_CutError => k_is)
    (case ga_CutError => k_is)
    (case gg_CutError => k_is)
    (case cc_CutError => k_is)
    (case mo_CutError => k_is)
    (case eb_TextError => k_is)
    (case tc_TextError => k_is)
    (case hd_TextError => k_is)
    (case ic_TextError => k_is)
    (case ga_TextError => k_is)
    (case gg_TextError => k_is)
    (case cc_TextError => k_is)
    (case mo_TextError => k_is)
    (case su_BadValue_BadValue => k_is)
    (case su_BadValue_CutError => k_is)
    (case su_BadValue_TextError => k_is)
    (case su_CutError_CutError => k_is)
    (case su_TextError_BadValue => k_is)
    (case su_TextError_CutError => k_is)
    (case su_TextError_TextError => k_is)
