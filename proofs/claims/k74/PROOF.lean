import PyProof.Rows.All
import Wide.All
import OpenK.AllK
import Wide.FinOn
import HandS.ForMost
import HandS.Exc
import HandS.IsInst
import HandS.SortInts
import HandS.TupAny
import KE.GoesNew
import KE.GoesMore
import HandS.Wide
import HandS.Style
import HandS.Text
import PyProof.ReprRoads
import HandS.Ends
import HandS.EndBits
import PyProof.ReprLen
import PySem.Challenge.RW_cutrooms_k74_whole_roots_of_polynomials
set_option Elab.async false
set_option linter.all false
set_option maxRecDepth 100000
set_option maxHeartbeats 4000000
/-! Data as plain trees, how they lie on the abstract heap, who owns which cell. -/
namespace DL
open PySem PySem.Spec PyProof.Rows L2

/-- a value as a tree; a list or dict bears whether its cell is its holder's own -/
inductive D where
  | non | bl (b : Bool) | int (i : Int) | str (x : Str) | ref (a : Addr)
  | scr (ns : List Int) | tup (xs : List D) | lst (o : Bool) (xs : List D) | dct (o : Bool) (ks vs : List D)

/-! ### freezing -/
mutual
def D.frz : D → D
  | .tup xs => .tup (D.frzL xs)
  | .lst _ xs => .lst false (D.frzL xs)
  | .dct _ ks vs => .dct false ks (D.frzL vs)
  | .non => .non
  | .bl b => .bl b
  | .int i => .int i
  | .str x => .str x
  | .ref a => .ref a
  | .scr ns => .scr ns
def D.frzL : List D → List D
  | [] => []
  | x :: xs => x.frz :: D.frzL xs
end
theorem D.frzL_map : ∀ xs : List D, D.frzL xs = xs.map D.frz
  | [] => by simp [D.frzL]
  | x :: xs => by simp [D.frzL, D.frzL_map xs]
mutual
theorem D.frz_frz : ∀ d : D, d.frz.frz = d.frz
  | .tup xs => by simp only [D.frz, D.frzL_frzL xs]
  | .lst o xs => by simp only [D.frz, D.frzL_frzL xs]
  | .dct o ks vs => by simp only [D.frz, D.frzL_frzL vs]
  | .non => by simp only [D.frz]
  | .bl b => by simp only [D.frz]
  | .int i => by simp only [D.frz]
  | .str x => by simp only [D.frz]
  | .ref a => by simp only [D.frz]
  | .scr ns => by simp only [D.frz]
theorem D.frzL_frzL : ∀ xs : List D, D.frzL (D.frzL xs) = D.frzL xs
  | [] => by simp only [D.frzL]
  | x :: xs => by simp only [D.frzL, D.frz_frz x, D.frzL_frzL xs]
end

/-! ### how a tree lies on the heap: F are the cells it owns, G those it leans on -/
def KTup (K : PySem.W.Frag) (a : Addr) (xs : List V) : Prop :=
  ∃ (o : Obj) (its : Array Value) (n : Nat), K.lookup a = some o ∧ o.cls = .type "tuple" ∧ o.data = .seq its n ∧ its.size ≤ sizeLine ∧ Vals xs its.toList
def KInts (K : PySem.W.Frag) (a : Addr) (ns : List Int) : Prop :=
  ∃ (o : Obj) (its : Array Value) (n : Nat), K.lookup a = some o ∧ o.cls = .type "list" ∧ o.dict = none ∧ o.data = .seq its n ∧ its.size ≤ sizeLine ∧ Vals (ns.map V.int) its.toList
def keyD : Key → D
  | .inl i => .int i
  | .inr x => .str x
/-- a dict whose keys are ints and texts, or flat tuples of such -/
def DctAt (H : Hp) (a : Addr) (ks : List D) (vs : List V) : Prop :=
  (∃ kk : List Key, ks = kk.map keyD ∧ kk.length = vs.length ∧ H a = some (.dK (kk.zip vs))) ∨
  (∃ kk : List (List Key), ks = kk.map (fun k => .tup (k.map keyD)) ∧ kk.length = vs.length ∧ H a = some (.dT (kk.zip vs)))

section
variable (K : PySem.W.Frag) (H : Hp)
mutual
def Rp : D → V → List Addr → List Addr → Prop
  | .non, v, F, G => v = .non ∧ F = [] ∧ G = []
  | .bl b, v, F, G => v = .bl b ∧ F = [] ∧ G = []
  | .int i, v, F, G => v = .int i ∧ F = [] ∧ G = []
  | .str x, v, F, G => v = .str x ∧ F = [] ∧ G = []
  | .ref a, v, F, G => v = .ref a ∧ F = [] ∧ G = []
  | .scr ns, v, F, G => ∃ a, v = .ref a ∧ ns.length ≤ sizeLine ∧ F = [] ∧ ((Rd H a (.lst (ns.map V.int)) ∧ G = [a]) ∨ (KInts K a ns ∧ G = []))
  | .tup xs, v, F, G => ∃ a vs G', v = .ref a ∧ xs.length ≤ sizeLine ∧ RpL xs vs F G' ∧ ((Rd H a (.tup vs) ∧ G = a :: G') ∨ (KTup K a vs ∧ G = G'))
  | .lst true xs, v, F, G => ∃ a vs F', v = .ref a ∧ xs.length ≤ sizeLine ∧ H a = some (.lst vs) ∧ F = a :: F' ∧ RpL xs vs F' G
  | .lst false xs, v, F, G => ∃ a vs G', v = .ref a ∧ xs.length ≤ sizeLine ∧ H a = some (.lst vs) ∧ F = [] ∧ G = a :: G' ∧ RpL xs vs [] G'
  | .dct true ks xs, v, F, G => ∃ a vs F', v = .ref a ∧ DctAt H a ks vs ∧ F = a :: F' ∧ RpL xs vs F' G
  | .dct false ks xs, v, F, G => ∃ a vs G', v = .ref a ∧ DctAt H a ks vs ∧ F = [] ∧ G = a :: G' ∧ RpL xs vs [] G'
def RpL : List D → List V → List Addr → List Addr → Prop
  | [], vs, F, G => vs = [] ∧ F = [] ∧ G = []
  | d :: ds, vs, F, G => ∃ v vs' F1 F2 G1 G2, vs = v :: vs' ∧ F = F1 ++ F2 ∧ G = G1 ++ G2 ∧ Rp d v F1 G1 ∧ RpL ds vs' F2 G2
end
end

section
variable {K : PySem.W.Frag} {H H' : Hp}
theorem RpL.length : ∀ {ds : List D} {vs : List V} {F G : List Addr}, RpL K H ds vs F G → vs.length = ds.length
  | [], vs, F, G, h => by
    simp only [RpL] at h
    rw [h.1]
    rfl
  | d :: ds, vs, F, G, h => by
    simp only [RpL] at h
    obtain ⟨v, vs', F1, F2, G1, G2, rfl, _, _, _, hr⟩ := h
    simp [RpL.length hr]
theorem DctAt.keep {a : Addr} {ks : List D} {vs : List V} (h : DctAt H a ks vs) (k : ∀ o, H a = some o → H' a = some o) : DctAt H' a ks vs := by
  rcases h with ⟨kk, e, l, q⟩ | ⟨kk, e, l, q⟩
  · exact .inl ⟨kk, e, l, k _ q⟩
  · exact .inr ⟨kk, e, l, k _ q⟩
theorem DctAt.there {a : Addr} {ks : List D} {vs : List V} (h : DctAt H a ks vs) : ∃ o, H a = some o := by
  rcases h with ⟨kk, e, l, q⟩ | ⟨kk, e, l, q⟩ <;> exact ⟨_, q⟩
theorem Rd.keep {a : Addr} {u : HO} (h : Rd H a u) (k : ∀ o, H a = some o → H' a = some o) : Rd H' a u := by
  rcases h with q | ⟨o, q⟩
  · exact .inl (k _ q)
  · exact .inr ⟨o, k _ q⟩
theorem Rd.there {a : Addr} {u : HO} (h : Rd H a u) : ∃ o, H a = some o := by
  rcases h with q | ⟨o, q⟩ <;> exact ⟨_, q⟩

-- the cells stand: so does the tree
mutual
theorem Rp.frame : ∀ {d : D} {v : V} {F G : List Addr}, Rp K H d v F G → (∀ a, a ∈ F ∨ a ∈ G → ∀ o, H a = some o → H' a = some o) → Rp K H' d v F G
  | .non, _, _, _, h, _ => by simp only [Rp] at h ⊢; exact h
  | .bl _, _, _, _, h, _ => by simp only [Rp] at h ⊢; exact h
  | .int _, _, _, _, h, _ => by simp only [Rp] at h ⊢; exact h
  | .str _, _, _, _, h, _ => by simp only [Rp] at h ⊢; exact h
  | .ref _, _, _, _, h, _ => by simp only [Rp] at h ⊢; exact h
  | .scr ns, v, F, G, h, k => by
    simp only [Rp] at h ⊢
    obtain ⟨a, e, zl, rfl, q⟩ := h
    rcases q with ⟨q, rfl⟩ | ⟨q, rfl⟩
    · exact ⟨a, e, zl, rfl, .inl ⟨Rd.keep q (k a (.inr List.mem_cons_self)), rfl⟩⟩
    · exact ⟨a, e, zl, rfl, .inr ⟨q, rfl⟩⟩
  | .tup xs, v, F, G, h, k => by
    simp only [Rp] at h ⊢
    obtain ⟨a, vs, G', e, zl, hl, q⟩ := h
    rcases q with ⟨q, rfl⟩ | ⟨q, rfl⟩
    · exact ⟨a, vs, G', e, zl, RpL.frame hl (fun b hb => k b (hb.imp id (List.mem_cons_of_mem _))), .inl ⟨Rd.keep q (k a (.inr List.mem_cons_self)), rfl⟩⟩
    · exact ⟨a, vs, G, e, zl, RpL.frame hl k, .inr ⟨q, rfl⟩⟩
  | .lst true xs, v, F, G, h, k => by
    simp only [Rp] at h ⊢
    obtain ⟨a, vs, F', e, zl, ha, rfl, hl⟩ := h
    exact ⟨a, vs, F', e, zl, k a (.inl List.mem_cons_self) _ ha, rfl, RpL.frame hl (fun b hb => k b (hb.imp (List.mem_cons_of_mem _) id))⟩
  | .lst false xs, v, F, G, h, k => by
    simp only [Rp] at h ⊢
    obtain ⟨a, vs, G', e, zl, ha, rfl, rfl, hl⟩ := h
    exact ⟨a, vs, G', e, zl, k a (.inr List.mem_cons_self) _ ha, rfl, rfl, RpL.frame hl (fun b hb => k b (hb.imp id (List.mem_cons_of_mem _)))⟩
  | .dct true ks xs, v, F, G, h, k => by
    simp only [Rp] at h ⊢
    obtain ⟨a, vs, F', e, ha, rfl, hl⟩ := h
    exact ⟨a, vs, F', e, ha.keep (k a (.inl List.mem_cons_self)), rfl, RpL.frame hl (fun b hb => k b (hb.imp (List.mem_cons_of_mem _) id))⟩
  | .dct false ks xs, v, F, G, h, k => by
    simp only [Rp] at h ⊢
    obtain ⟨a, vs, G', e, ha, rfl, rfl, hl⟩ := h
    exact ⟨a, vs, G', e, ha.keep (k a (.inr List.mem_cons_self)), rfl, rfl, RpL.frame hl (fun b hb => k b (hb.imp id (List.mem_cons_of_mem _)))⟩
theorem RpL.frame : ∀ {ds : List D} {vs : List V} {F G : List Addr}, RpL K H ds vs F G → (∀ a, a ∈ F ∨ a ∈ G → ∀ o, H a = some o → H' a = some o) → RpL K H' ds vs F G
  | [], _, _, _, h, _ => by simp only [RpL] at h ⊢; exact h
  | d :: ds, vs, F, G, h, k => by
    simp only [RpL] at h ⊢
    obtain ⟨v, vs', F1, F2, G1, G2, rfl, rfl, rfl, h1, h2⟩ := h
    exact ⟨v, vs', F1, F2, G1, G2, rfl, rfl, rfl,
      Rp.frame h1 (fun b hb => k b (hb.imp (List.mem_append_left _) (List.mem_append_left _))),
      RpL.frame h2 (fun b hb => k b (hb.imp (List.mem_append_right _) (List.mem_append_right _)))⟩
end
-- all cells are tracked
mutual
theorem Rp.there : ∀ {d : D} {v : V} {F G : List Addr}, Rp K H d v F G → ∀ a, a ∈ F ∨ a ∈ G → ∃ o, H a = some o
  | .non, _, _, _, h, a, ha => by simp only [Rp] at h; obtain ⟨_, rfl, rfl⟩ := h; simp at ha
  | .bl _, _, _, _, h, a, ha => by simp only [Rp] at h; obtain ⟨_, rfl, rfl⟩ := h; simp at ha
  | .int _, _, _, _, h, a, ha => by simp only [Rp] at h; obtain ⟨_, rfl, rfl⟩ := h; simp at ha
  | .str _, _, _, _, h, a, ha => by simp only [Rp] at h; obtain ⟨_, rfl, rfl⟩ := h; simp at ha
  | .ref _, _, _, _, h, a, ha => by simp only [Rp] at h; obtain ⟨_, rfl, rfl⟩ := h; simp at ha
  | .scr ns, v, F, G, h, b, hb => by
    simp only [Rp] at h
    obtain ⟨a, e, zl, rfl, q⟩ := h
    rcases q with ⟨q, rfl⟩ | ⟨q, rfl⟩
    · have : b = a := by simpa using hb
      rw [this]
      exact Rd.there q
    · simp at hb
  | .tup xs, v, F, G, h, b, hb => by
    simp only [Rp] at h
    obtain ⟨a, vs, G', e, zl, hl, q⟩ := h
    rcases q with ⟨q, rfl⟩ | ⟨q, rfl⟩
    · rcases hb with hb | hb
      · exact RpL.there hl b (.inl hb)
      · rcases List.mem_cons.mp hb with rfl | hb
        · exact Rd.there q
        · exact RpL.there hl b (.inr hb)
    · exact RpL.there hl b hb
  | .lst true xs, v, F, G, h, b, hb => by
    simp only [Rp] at h
    obtain ⟨a, vs, F', e, zl, ha, rfl, hl⟩ := h
    rcases hb with hb | hb
    · rcases List.mem_cons.mp hb with rfl | hb
      · exact ⟨_, ha⟩
      · exact RpL.there hl b (.inl hb)
    · exact RpL.there hl b (.inr hb)
  | .lst false xs, v, F, G, h, b, hb => by
    simp only [Rp] at h
    obtain ⟨a, vs, G', e, zl, ha, rfl, rfl, hl⟩ := h
    rcases hb with hb | hb
    · simp at hb
    · rcases List.mem_cons.mp hb with rfl | hb
      · exact ⟨_, ha⟩
      · exact RpL.there hl b (.inr hb)
  | .dct true ks xs, v, F, G, h, b, hb => by
    simp only [Rp] at h
    obtain ⟨a, vs, F', e, ha, rfl, hl⟩ := h
    rcases hb with hb | hb
    · rcases List.mem_cons.mp hb with rfl | hb
      · exact ha.there
      · exact RpL.there hl b (.inl hb)
    · exact RpL.there hl b (.inr hb)
  | .dct false ks xs, v, F, G, h, b, hb => by
    simp only [Rp] at h
    obtain ⟨a, vs, G', e, ha, rfl, rfl, hl⟩ := h
    rcases hb with hb | hb
    · simp at hb
    · rcases List.mem_cons.mp hb with rfl | hb
      · exact ha.there
      · exact RpL.there hl b (.inr hb)
theorem RpL.there : ∀ {ds : List D} {vs : List V} {F G : List Addr}, RpL K H ds vs F G → ∀ a, a ∈ F ∨ a ∈ G → ∃ o, H a = some o
  | [], _, _, _, h, a, ha => by simp only [RpL] at h; obtain ⟨_, rfl, rfl⟩ := h; simp at ha
  | d :: ds, vs, F, G, h, a, ha => by
    simp only [RpL] at h
    obtain ⟨v, vs', F1, F2, G1, G2, rfl, rfl, rfl, h1, h2⟩ := h
    rcases ha with ha | ha
    · rcases List.mem_append.mp ha with ha | ha
      · exact Rp.there h1 a (.inl ha)
      · exact RpL.there h2 a (.inl ha)
    · rcases List.mem_append.mp ha with ha | ha
      · exact Rp.there h1 a (.inr ha)
      · exact RpL.there h2 a (.inr ha)
end
-- frozen, a tree owns nothing
mutual
theorem Rp.frz : ∀ {d : D} {v : V} {F G : List Addr}, Rp K H d v F G → ∃ G', Rp K H d.frz v [] G' ∧ ∀ a ∈ G', a ∈ F ∨ a ∈ G
  | .non, v, F, G, h => by simp only [Rp] at h; obtain ⟨rfl, rfl, rfl⟩ := h; exact ⟨[], by simp [D.frz, Rp], by simp⟩
  | .bl _, v, F, G, h => by simp only [Rp] at h; obtain ⟨rfl, rfl, rfl⟩ := h; exact ⟨[], by simp [D.frz, Rp], by simp⟩
  | .int _, v, F, G, h => by simp only [Rp] at h; obtain ⟨rfl, rfl, rfl⟩ := h; exact ⟨[], by simp [D.frz, Rp], by simp⟩
  | .str _, v, F, G, h => by simp only [Rp] at h; obtain ⟨rfl, rfl, rfl⟩ := h; exact ⟨[], by simp [D.frz, Rp], by simp⟩
  | .ref _, v, F, G, h => by simp only [Rp] at h; obtain ⟨rfl, rfl, rfl⟩ := h; exact ⟨[], by simp [D.frz, Rp], by simp⟩
  | .scr ns, v, F, G, h => by
    have h0 := h
    simp only [Rp] at h
    obtain ⟨a, e, zl, rfl, q⟩ := h
    exact ⟨G, by simp only [D.frz]; exact h0, fun a ha => .inr ha⟩
  | .tup xs, v, F, G, h => by
    simp only [Rp] at h
    obtain ⟨a, vs, G', e, zl, hl, q⟩ := h
    obtain ⟨G2, h2, hs⟩ := RpL.frz hl
    rcases q with ⟨q, rfl⟩ | ⟨q, rfl⟩
    · refine ⟨a :: G2, ?_, fun b hb => ?_⟩
      · simp only [D.frz, Rp]
        exact ⟨a, vs, G2, e, by rw [D.frzL_map, List.length_map]; exact zl, h2, .inl ⟨q, rfl⟩⟩
      · rcases List.mem_cons.mp hb with rfl | hb
        · exact .inr List.mem_cons_self
        · exact (hs b hb).imp id (List.mem_cons_of_mem _)
    · refine ⟨G2, ?_, hs⟩
      simp only [D.frz, Rp]
      exact ⟨a, vs, G2, e, by rw [D.frzL_map, List.length_map]; exact zl, h2, .inr ⟨q, rfl⟩⟩
  | .lst true xs, v, F, G, h => by
    simp only [Rp] at h
    obtain ⟨a, vs, F', e, zl, ha, rfl, hl⟩ := h
    obtain ⟨G2, h2, hs⟩ := RpL.frz hl
    refine ⟨a :: G2, ?_, fun b hb => ?_⟩
    · simp only [D.frz, Rp]
      exact ⟨a, vs, G2, e, by rw [D.frzL_map, List.length_map]; exact zl, ha, by simp, rfl, h2⟩
    · rcases List.mem_cons.mp hb with rfl | hb
      · exact .inl List.mem_cons_self
      · exact (hs b hb).imp (List.mem_cons_of_mem _) id
  | .lst false xs, v, F, G, h => by
    simp only [Rp] at h
    obtain ⟨a, vs, G', e, zl, ha, rfl, rfl, hl⟩ := h
    obtain ⟨G2, h2, hs⟩ := RpL.frz hl
    refine ⟨a :: G2, ?_, fun b hb => ?_⟩
    · simp only [D.frz, Rp]
      exact ⟨a, vs, G2, e, by rw [D.frzL_map, List.length_map]; exact zl, ha, by simp, rfl, h2⟩
    · rcases List.mem_cons.mp hb with rfl | hb
      · exact .inr List.mem_cons_self
      · exact (hs b hb).imp id (List.mem_cons_of_mem _)
  | .dct true ks xs, v, F, G, h => by
    simp only [Rp] at h
    obtain ⟨a, vs, F', e, ha, rfl, hl⟩ := h
    obtain ⟨G2, h2, hs⟩ := RpL.frz hl
    refine ⟨a :: G2, ?_, fun b hb => ?_⟩
    · simp only [D.frz, Rp]
      exact ⟨a, vs, G2, e, ha, by simp, rfl, h2⟩
    · rcases List.mem_cons.mp hb with rfl | hb
      · exact .inl List.mem_cons_self
      · exact (hs b hb).imp (List.mem_cons_of_mem _) id
  | .dct false ks xs, v, F, G, h => by
    simp only [Rp] at h
    obtain ⟨a, vs, G', e, ha, rfl, rfl, hl⟩ := h
    obtain ⟨G2, h2, hs⟩ := RpL.frz hl
    refine ⟨a :: G2, ?_, fun b hb => ?_⟩
    · simp only [D.frz, Rp]
      exact ⟨a, vs, G2, e, ha, by simp, rfl, h2⟩
    · rcases List.mem_cons.mp hb with rfl | hb
      · exact .inr List.mem_cons_self
      · exact (hs b hb).imp id (List.mem_cons_of_mem _)
theorem RpL.frz : ∀ {ds : List D} {vs : List V} {F G : List Addr}, RpL K H ds vs F G → ∃ G', RpL K H (D.frzL ds) vs [] G' ∧ ∀ a ∈ G', a ∈ F ∨ a ∈ G
  | [], vs, F, G, h => by simp only [RpL] at h; obtain ⟨rfl, rfl, rfl⟩ := h; exact ⟨[], by simp [D.frzL, RpL], by simp⟩
  | d :: ds, vs, F, G, h => by
    simp only [RpL] at h
    obtain ⟨v, vs', F1, F2, G1, G2, rfl, rfl, rfl, h1, h2⟩ := h
    obtain ⟨Ga, ha, sa⟩ := Rp.frz h1
    obtain ⟨Gb, hb, sb⟩ := RpL.frz h2
    refine ⟨Ga ++ Gb, ?_, fun a h => ?_⟩
    · simp only [D.frzL, RpL]
      exact ⟨v, vs', [], [], Ga, Gb, rfl, rfl, rfl, ha, hb⟩
    · rcases List.mem_append.mp h with h | h
      · exact (sa a h).imp (List.mem_append_left _) (List.mem_append_left _)
      · exact (sb a h).imp (List.mem_append_right _) (List.mem_append_right _)
end

theorem RpL.append : ∀ {ds es : List D} {vs ws : List V} {F1 F2 G1 G2 : List Addr}, RpL K H ds vs F1 G1 → RpL K H es ws F2 G2 → RpL K H (ds ++ es) (vs ++ ws) (F1 ++ F2) (G1 ++ G2)
  | [], es, vs, ws, F1, F2, G1, G2, h, h' => by
    simp only [RpL] at h
    obtain ⟨rfl, rfl, rfl⟩ := h
    simpa using h'
  | d :: ds, es, vs, ws, F1, F2, G1, G2, h, h' => by
    simp only [RpL] at h
    obtain ⟨v, vs', Fa, Fb, Ga, Gb, rfl, rfl, rfl, h1, h2⟩ := h
    show RpL K H (d :: (ds ++ es)) (v :: (vs' ++ ws)) _ _
    simp only [RpL]
    exact ⟨v, vs' ++ ws, Fa, Fb ++ F2, Ga, Gb ++ G2, rfl, by simp, by simp, h1, h2.append h'⟩
theorem RpL.split : ∀ {ds es : List D} {vs : List V} {F G : List Addr}, RpL K H (ds ++ es) vs F G → ∃ vs1 vs2 F1 F2 G1 G2, vs = vs1 ++ vs2 ∧ F = F1 ++ F2 ∧ G = G1 ++ G2 ∧ RpL K H ds vs1 F1 G1 ∧ RpL K H es vs2 F2 G2
  | [], es, vs, F, G, h => ⟨[], vs, [], F, [], G, rfl, rfl, rfl, by simp [RpL], h⟩
  | d :: ds, es, vs, F, G, h => by
    have h : RpL K H (d :: (ds ++ es)) vs F G := h
    simp only [RpL] at h
    obtain ⟨v, vs', Fa, Fb, Ga, Gb, rfl, rfl, rfl, h1, h2⟩ := h
    obtain ⟨w1, w2, Fc, Fd, Gc, Gd, rfl, rfl, rfl, h3, h4⟩ := RpL.split h2
    refine ⟨v :: w1, w2, Fa ++ Fc, Fd, Ga ++ Gc, Gd, by simp, by simp, by simp, ?_, h4⟩
    simp only [RpL]
    exact ⟨v, w1, Fa, Fc, Ga, Gc, rfl, rfl, rfl, h1, h3⟩

/-! ### what lives: pairs of a tree and its value, no cell owned twice, none owned that another leans on; ex: cells that none touches -/
abbrev Pr := D × V
def LiveX (K : PySem.W.Frag) (H : Hp) (ex : List Addr) (L : List Pr) : Prop :=
  ∃ F G, RpL K H (L.map (·.1)) (L.map (·.2)) F G ∧ F.Nodup ∧ (∀ a ∈ F, a ∉ G) ∧ ∀ a ∈ ex, a ∉ F ∧ a ∉ G
abbrev Live (K : PySem.W.Frag) (H : Hp) (L : List Pr) : Prop := LiveX K H [] L

theorem RpL.cons_iff {d : D} {v : V} {ds : List D} {vs : List V} {F G : List Addr} : RpL K H (d :: ds) (v :: vs) F G ↔ ∃ F1 F2 G1 G2, F = F1 ++ F2 ∧ G = G1 ++ G2 ∧ Rp K H d v F1 G1 ∧ RpL K H ds vs F2 G2 := by
  simp only [RpL]
  constructor
  · rintro ⟨v', vs', F1, F2, G1, G2, e, rfl, rfl, h1, h2⟩
    injection e with e1 e2
    subst e1; subst e2
    exact ⟨F1, F2, G1, G2, rfl, rfl, h1, h2⟩
  · rintro ⟨F1, F2, G1, G2, rfl, rfl, h1, h2⟩
    exact ⟨v, vs, F1, F2, G1, G2, rfl, rfl, rfl, h1, h2⟩
theorem perm_rp {L L' : List Pr} (p : L.Perm L') : ∀ {F G : List Addr}, RpL K H (L.map (·.1)) (L.map (·.2)) F G → ∃ F' G', RpL K H (L'.map (·.1)) (L'.map (·.2)) F' G' ∧ F.Perm F' ∧ G.Perm G' := by
  induction p with
  | nil => exact fun {F G} h => ⟨F, G, h, .refl _, .refl _⟩
  | cons x p ih =>
    intro F G h
    obtain ⟨F1, F2, G1, G2, rfl, rfl, h1, h2⟩ := RpL.cons_iff.mp h
    obtain ⟨F', G', h', pF, pG⟩ := ih h2
    exact ⟨F1 ++ F', G1 ++ G', RpL.cons_iff.mpr ⟨F1, F', G1, G', rfl, rfl, h1, h'⟩, pF.append_left _, pG.append_left _⟩
  | swap x y l =>
    intro F G h
    obtain ⟨F1, F2, G1, G2, rfl, rfl, h1, h2⟩ := RpL.cons_iff.mp h
    obtain ⟨F3, F4, G3, G4, rfl, rfl, h3, h4⟩ := RpL.cons_iff.mp h2
    refine ⟨F3 ++ (F1 ++ F4), G3 ++ (G1 ++ G4), RpL.cons_iff.mpr ⟨F3, _, G3, _, rfl, rfl, h3, RpL.cons_iff.mpr ⟨F1, F4, G1, G4, rfl, rfl, h1, h4⟩⟩, ?_, ?_⟩
    · rw [← List.append_assoc, ← List.append_assoc]
      exact (List.perm_append_comm).append_right _
    · rw [← List.append_assoc, ← List.append_assoc]
      exact (List.perm_append_comm).append_right _
  | trans p q ih1 ih2 =>
    intro F G h
    obtain ⟨F', G', h', a, b⟩ := ih1 h
    obtain ⟨F2, G2, h2, a2, b2⟩ := ih2 h'
    exact ⟨F2, G2, h2, a.trans a2, b.trans b2⟩
variable {ex : List Addr} {L L' C : List Pr} {d : D} {v : V}
theorem LiveX.perm (h : LiveX K H ex L) (p : L.Perm L') : LiveX K H ex L' := by
  obtain ⟨F, G, r, n, dj, x⟩ := h
  obtain ⟨F', G', r', pF, pG⟩ := perm_rp p r
  exact ⟨F', G', r', pF.nodup_iff.mp n, fun a ha hg => dj a (pF.mem_iff.mpr ha) (pG.mem_iff.mpr hg), fun a ha => ⟨fun z => (x a ha).1 (pF.mem_iff.mpr z), fun z => (x a ha).2 (pG.mem_iff.mpr z)⟩⟩
theorem LiveX.drop (h : LiveX K H ex ((d, v) :: L)) : LiveX K H ex L := by
  obtain ⟨F, G, r, n, dj, x⟩ := h
  obtain ⟨F1, F2, G1, G2, rfl, rfl, h1, h2⟩ := RpL.cons_iff.mp r
  exact ⟨F2, G2, h2, (List.nodup_append.mp n).2.1, fun a ha hg => dj a (List.mem_append_right _ ha) (List.mem_append_right _ hg), fun a ha => ⟨fun z => (x a ha).1 (List.mem_append_right _ z), fun z => (x a ha).2 (List.mem_append_right _ z)⟩⟩
theorem LiveX.dropL : ∀ {M : List Pr}, LiveX K H ex (M ++ L) → LiveX K H ex L
  | [], h => h
  | _ :: M, h => LiveX.dropL (M := M) (LiveX.drop h)
theorem LiveX.look (h : LiveX K H ex ((d, v) :: L)) : ∃ F G, Rp K H d v F G := by
  obtain ⟨F, G, r, n, dj, x⟩ := h
  obtain ⟨F1, F2, G1, G2, rfl, rfl, h1, h2⟩ := RpL.cons_iff.mp r
  exact ⟨F1, G1, h1⟩
/-- a tree is frozen, and may be had twice -/
theorem LiveX.dup (h : LiveX K H ex ((d, v) :: L)) : LiveX K H ex ((d.frz, v) :: (d.frz, v) :: L) := by
  obtain ⟨F, G, r, n, dj, x⟩ := h
  obtain ⟨F1, F2, G1, G2, rfl, rfl, h1, h2⟩ := RpL.cons_iff.mp r
  obtain ⟨G', h', s⟩ := Rp.frz h1
  have q := List.nodup_append.mp n
  refine ⟨F2, G' ++ (G' ++ G2), RpL.cons_iff.mpr ⟨[], F2, G', _, rfl, rfl, h', RpL.cons_iff.mpr ⟨[], F2, G', G2, rfl, rfl, h', h2⟩⟩, q.2.1, fun a ha hg => ?_, fun a ha => ⟨fun z => (x a ha).1 (List.mem_append_right _ z), fun hg => ?_⟩⟩
  · have no : a ∉ G' := fun z => by
      rcases s a z with z | z
      · exact q.2.2 a z a ha rfl
      · exact dj a (List.mem_append_right _ ha) (List.mem_append_left _ z)
    rcases List.mem_append.mp hg with z | z
    · exact no z
    · rcases List.mem_append.mp z with z | z
      · exact no z
      · exact dj a (List.mem_append_right _ ha) (List.mem_append_right _ z)
  · have no : a ∉ G' := fun z => by
      rcases s a z with z | z
      · exact (x a ha).1 (List.mem_append_left _ z)
      · exact (x a ha).2 (List.mem_append_left _ z)
    rcases List.mem_append.mp hg with z | z
    · exact no z
    · rcases List.mem_append.mp z with z | z
      · exact no z
      · exact (x a ha).2 (List.mem_append_right _ z)
theorem LiveX.froze (h : LiveX K H ex ((d, v) :: L)) : LiveX K H ex ((d.frz, v) :: L) := h.dup.drop
/-- what stands stands -/
theorem LiveX.frame (h : LiveX K H ex L) (k : ∀ a o, a ∉ ex → H a = some o → H' a = some o) : LiveX K H' ex L := by
  obtain ⟨F, G, r, n, dj, x⟩ := h
  refine ⟨F, G, r.frame fun a ha o q => k a o (fun z => ?_) q, n, dj, x⟩
  rcases ha with ha | ha
  · exact (x a z).1 ha
  · exact (x a z).2 ha
theorem LiveX.apart {p : Addr} (h : LiveX K H ex L) (hp : H p = Option.none) : LiveX K H (p :: ex) L := by
  obtain ⟨F, G, r, n, dj, x⟩ := h
  have no : ¬ (p ∈ F ∨ p ∈ G) := fun z => by
    obtain ⟨o, e⟩ := r.there p z
    rw [hp] at e
    cases e
  refine ⟨F, G, r, n, dj, fun a ha => ?_⟩
  rcases List.mem_cons.mp ha with rfl | ha
  · exact ⟨fun z => no (.inl z), fun z => no (.inr z)⟩
  · exact x a ha
theorem LiveX.weak {e2 : List Addr} (h : LiveX K H ex L) (s : ∀ a ∈ e2, a ∈ ex) : LiveX K H e2 L := by
  obtain ⟨F, G, r, n, dj, x⟩ := h
  exact ⟨F, G, r, n, dj, fun a ha => x a (s a ha)⟩
theorem zip_fst : ∀ {ds : List D} {vs : List V}, vs.length = ds.length → (ds.zip vs).map (·.1) = ds
  | [], _, _ => by simp
  | d :: ds, [], h => by simp at h
  | d :: ds, v :: vs, h => by
    simp only [List.zip_cons_cons, List.map_cons]
    rw [zip_fst (by simpa using h)]
theorem zip_snd : ∀ {ds : List D} {vs : List V}, vs.length = ds.length → (ds.zip vs).map (·.2) = vs
  | [], vs, h => by
    cases vs with
    | nil => simp
    | cons _ _ => simp at h
  | d :: ds, [], h => by simp at h
  | d :: ds, v :: vs, h => by
    simp only [List.zip_cons_cons, List.map_cons]
    rw [zip_snd (by simpa using h)]
/-- a list's own cell is put by -/
theorem LiveX.openL {ds : List D} (h : LiveX K H ex ((.lst true ds, v) :: L)) : ∃ a vs, v = .ref a ∧ ds.length ≤ sizeLine ∧ H a = some (.lst vs) ∧ vs.length = ds.length ∧ LiveX K H (a :: ex) (ds.zip vs ++ L) := by
  obtain ⟨F, G, r, n, dj, x⟩ := h
  obtain ⟨F1, F2, G1, G2, rfl, rfl, h1, h2⟩ := RpL.cons_iff.mp r
  simp only [Rp] at h1
  obtain ⟨a, vs, F', rfl, zl, ha, rfl, hl⟩ := h1
  have ln := hl.length
  refine ⟨a, vs, rfl, zl, ha, ln, F' ++ F2, G1 ++ G2, ?_, (List.nodup_cons.mp n).2, fun b hb => dj b (List.mem_cons_of_mem _ hb), fun b hb => ?_⟩
  · rw [List.map_append, List.map_append, zip_fst ln, zip_snd ln]
    exact hl.append h2
  · rcases List.mem_cons.mp hb with rfl | hb
    · exact ⟨(List.nodup_cons.mp n).1, dj b List.mem_cons_self⟩
    · exact ⟨fun z => (x b hb).1 (List.mem_cons_of_mem _ z), (x b hb).2⟩
/-- .. and taken up again with other items -/
theorem LiveX.closeL {ds : List D} {vs : List V} {a : Addr} (ha : a ∉ ex) (zl : ds.length ≤ sizeLine) (ln : vs.length = ds.length) (h : LiveX K H (a :: ex) (ds.zip vs ++ L)) : LiveX K (upd H a (.lst vs)) ex ((.lst true ds, .ref a) :: L) := by
  have h' : LiveX K (upd H a (.lst vs)) (a :: ex) (ds.zip vs ++ L) := h.frame fun b o hb q => by
    rw [upd_ne (fun z => hb (by rw [z]; exact List.mem_cons_self))]
    exact q
  obtain ⟨F, G, r, n, dj, x⟩ := h'
  rw [List.map_append, List.map_append, zip_fst ln, zip_snd ln] at r
  obtain ⟨v1, v2, F1, F2, G1, G2, e, rfl, rfl, h1, h2⟩ := r.split
  have l1 := h1.length
  have l2 : vs.length = v1.length := by rw [ln, l1]
  obtain ⟨rfl, rfl⟩ := List.append_inj e l2
  have nx := x a List.mem_cons_self
  refine ⟨a :: F1 ++ F2, G1 ++ G2, RpL.cons_iff.mpr ⟨a :: F1, F2, G1, G2, rfl, rfl, ?_, h2⟩, List.nodup_cons.mpr ⟨nx.1, n⟩, fun b hb hg => ?_, fun b hb => ⟨fun z => ?_, (x b (List.mem_cons_of_mem _ hb)).2⟩⟩
  · simp only [Rp]
    exact ⟨a, vs, F1, rfl, zl, upd_same, rfl, h1⟩
  · rcases List.mem_cons.mp hb with rfl | hb
    · exact nx.2 hg
    · exact dj b hb hg
  · rcases List.mem_cons.mp z with rfl | z
    · exact ha hb
    · exact (x b (List.mem_cons_of_mem _ hb)).1 z
/-- a new tuple -/
theorem LiveX.newT {ds : List D} {vs : List V} {p : Addr} (hp : H p = Option.none) (hx : p ∉ ex) (zl : ds.length ≤ sizeLine) (ln : vs.length = ds.length) (h : LiveX K H ex (ds.zip vs ++ L)) : LiveX K (upd H p (.tup vs)) ex ((.tup ds, .ref p) :: L) := by
  have h' : LiveX K (upd H p (.tup vs)) (p :: ex) (ds.zip vs ++ L) := (h.apart hp).frame fun b o hb q => by
    rw [upd_ne (fun z => hb (by rw [z]; exact List.mem_cons_self))]
    exact q
  obtain ⟨F, G, r, n, dj, x⟩ := h'
  rw [List.map_append, List.map_append, zip_fst ln, zip_snd ln] at r
  obtain ⟨v1, v2, F1, F2, G1, G2, e, rfl, rfl, h1, h2⟩ := r.split
  have l1 := h1.length
  have l2 : vs.length = v1.length := by rw [ln, l1]
  obtain ⟨rfl, rfl⟩ := List.append_inj e l2
  have nx := x p List.mem_cons_self
  refine ⟨F1 ++ F2, p :: G1 ++ G2, RpL.cons_iff.mpr ⟨F1, F2, p :: G1, G2, rfl, rfl, ?_, h2⟩, n, fun b hb hg => ?_, fun b hb => ⟨(x b (List.mem_cons_of_mem _ hb)).1, fun z => ?_⟩⟩
  · simp only [Rp]
    exact ⟨p, vs, G1, rfl, zl, h1, .inl ⟨.inl upd_same, rfl⟩⟩
  · rcases List.mem_cons.mp hg with rfl | hg
    · exact nx.1 hb
    · exact dj b hb hg
  · rcases List.mem_cons.mp z with rfl | z
    · exact hx hb
    · exact (x b (List.mem_cons_of_mem _ hb)).2 z
/-- a new list -/
theorem LiveX.newL {ds : List D} {vs : List V} {p : Addr} (hp : H p = Option.none) (hx : p ∉ ex) (zl : ds.length ≤ sizeLine) (ln : vs.length = ds.length) (h : LiveX K H ex (ds.zip vs ++ L)) : LiveX K (upd H p (.lst vs)) ex ((.lst true ds, .ref p) :: L) :=
  LiveX.closeL hx zl ln (h.apart hp)
/-- a value with nothing behind it -/
theorem LiveX.flat {F G : List Addr} (h : LiveX K H ex L) (r : Rp K H d v [] []) : LiveX K H ex ((d, v) :: L) := by
  obtain ⟨F, G, q, n, dj, x⟩ := h
  exact ⟨F, G, RpL.cons_iff.mpr ⟨[], F, [], G, rfl, rfl, r, q⟩, n, dj, x⟩
end
end DL
/-! The machine of trees, and what it is to keep a denotation. -/
namespace DL
open PySem PySem.Spec PyProof.Rows L2

abbrev St := L2.St
abbrev Env := List (Option D)
structure Exn where
  cls : String
  args : List D
inductive Out (α : Type) where
  | ok (a : α) (e : Env)
  | exc (x : Exn) (e : Env)
  | bad
abbrev M (α : Type) := Env → Out α
def M.ret {α : Type} (a : α) : M α := fun e => .ok a e
def M.stop {α : Type} : M α := fun _ => .bad
def M.andThen {α β : Type} (m : M α) (k : α → M β) : M β := fun e => match m e with
  | .ok a e' => k a e'
  | .exc x e' => .exc x e'
  | .bad => .bad
def M.opt {α : Type} (o : Option α) : M α := fun e => match o with
  | some a => .ok a e
  | none => .bad

/-! ### the names' values and trees together -/
def slots : St → Env → List Pr
  | some v :: σ, some d :: e => (d, v) :: slots σ e
  | _ :: σ, none :: e => slots σ e
  | none :: σ, some _ :: e => slots σ e
  | [], _ => []
  | _, [] => []
def Cov (σ : St) (e : Env) : Prop := σ.length = e.length ∧ ∀ (i : Nat) (d : D), e[i]? = some (some d) → ∃ v : V, σ[i]? = some (some v)

theorem Cov.cons {x : Option V} {y : Option D} {σ : St} {e : Env} (h : Cov (x :: σ) (y :: e)) : Cov σ e := by
  refine ⟨by simpa using h.1, fun i d q => ?_⟩
  exact h.2 (i + 1) d (by simpa using q)
theorem slots_get : ∀ {σ : St} {e : Env} {i : Nat} {d : D}, Cov σ e → e[i]? = some (some d) → ∃ v, σ[i]? = some (some v) ∧ (slots σ e).Perm ((d, v) :: slots σ (e.set i none))
  | _, [], i, d, c, h => by simp at h
  | [], _ :: _, i, d, c, h => by have := c.1; simp at this
  | x :: σ, y :: e, 0, d, c, h => by
    simp at h
    subst h
    obtain ⟨v, hv⟩ := c.2 0 d rfl
    simp at hv
    subst hv
    exact ⟨v, rfl, by simp [slots]⟩
  | x :: σ, y :: e, i + 1, d, c, h => by
    obtain ⟨v, hv, p⟩ := slots_get (i := i) c.cons (by simpa using h)
    refine ⟨v, by simpa using hv, ?_⟩
    cases y with
    | none =>
      cases x <;> simpa [slots] using p
    | some d' =>
      cases x with
      | none => simpa [slots] using p
      | some v' =>
        simp only [slots, List.set_cons_succ]
        exact (p.cons _).trans (.swap _ _ _)
theorem slots_forget : ∀ {σ : St} {e : Env} {i : Nat} {x : Option V}, slots (σ.set i x) (e.set i none) = slots σ (e.set i none)
  | [], [], _, _ => by simp [slots]
  | [], _ :: _, _, _ => by simp [slots]
  | _ :: _, [], i, _ => by
    simp only [List.set_nil]
    cases i <;> simp [slots]
  | y :: σ, z :: e, 0, x => by
    cases x <;> cases y <;> simp [slots]
  | y :: σ, z :: e, i + 1, x => by
    simp only [List.set_cons_succ]
    cases y <;> cases z <;> simp [slots, slots_forget]
theorem slots_put {σ : St} {e : Env} {i : Nat} {v : V} {d : D} (c : σ.length = e.length) (h : σ[i]? = some (some v)) : (slots σ (e.set i (some d))).Perm ((d, v) :: slots σ (e.set i none)) := by
  induction σ generalizing e i with
  | nil => simp at h
  | cons x σ ih =>
    cases e with
    | nil => simp at c
    | cons y e =>
      cases i with
      | zero =>
        simp at h
        subst h
        simp [slots]
      | succ i =>
        have p := ih (e := e) (i := i) (by simpa using c) (by simpa using h)
        simp only [List.set_cons_succ]
        cases y with
        | none => cases x <;> simpa [slots] using p
        | some d' =>
          cases x with
          | none => simpa [slots] using p
          | some v' =>
            simp only [slots]
            exact (p.cons _).trans (.swap _ _ _)
theorem Cov.off {σ : St} {e : Env} (c : Cov σ e) (i : Nat) : Cov σ (e.set i none) := by
  refine ⟨by simpa using c.1, fun j d h => ?_⟩
  by_cases hj : i = j
  · subst hj
    rw [List.getElem?_set] at h
    simp at h
  · rw [List.getElem?_set_ne hj] at h
    exact c.2 j d h
theorem Cov.put {σ : St} {e : Env} (c : Cov σ e) {i : Nat} {v : V} {d : D} (h : σ[i]? = some (some v)) : Cov σ (e.set i (some d)) := by
  refine ⟨by simpa using c.1, fun j d' q => ?_⟩
  by_cases hj : i = j
  · subst hj
    exact ⟨v, h⟩
  · rw [List.getElem?_set_ne hj] at q
    exact c.2 j d' q
theorem Cov.store {σ : St} {e : Env} (c : Cov σ e) (i : Nat) (v : V) (d : D) : Cov (σ.set i (some v)) (e.set i (some d)) := by
  refine ⟨by simpa using c.1, fun j d' q => ?_⟩
  by_cases hj : i = j
  · subst hj
    have hl : i < σ.length := by
      rw [c.1]
      have := (List.getElem?_eq_some_iff.mp q).1
      simpa using this
    exact ⟨v, by simp [hl]⟩
  · rw [List.getElem?_set_ne hj] at q
    rw [List.getElem?_set_ne hj]
    exact c.2 j d' q
theorem Cov.storeN {σ : St} {e : Env} (c : Cov σ e) (i : Nat) (x : Option V) : Cov (σ.set i x) (e.set i none) := by
  refine ⟨by simpa using c.1, fun j d' q => ?_⟩
  by_cases hj : i = j
  · subst hj
    rw [List.getElem?_set] at q
    simp at q
  · rw [List.getElem?_set_ne hj] at q
    rw [List.getElem?_set_ne hj]
    exact c.2 j d' q
theorem slots_store {σ : St} {e : Env} {i : Nat} {v : V} {d : D} (c : σ.length = e.length) (hi : i < e.length) : (slots (σ.set i (some v)) (e.set i (some d))).Perm ((d, v) :: slots σ (e.set i none)) := by
  have h := slots_put (σ := σ.set i (some v)) (e := e) (i := i) (v := v) (d := d) (by simpa using c) (by simp [c, hi])
  rw [slots_forget] at h
  exact h
section
variable {K : PySem.W.Frag} {H : Hp} {ex : List Addr} {σ : St} {e : Env} {C : List Pr}
/-- a name's tree is forgotten -/
theorem LiveX.lose (c : Cov σ e) (i : Nat) (h : LiveX K H ex (slots σ e ++ C)) : LiveX K H ex (slots σ (e.set i none) ++ C) := by
  cases q : e[i]? with
  | none =>
    have : e.set i none = e := List.set_eq_of_length_le (by simpa using q)
    rw [this]
    exact h
  | some o =>
    cases o with
    | none =>
      have : e.set i none = e := by
        apply List.ext_getElem?
        intro j
        by_cases hj : i = j
        · subst hj
          rw [q, List.getElem?_set]
          simp
          exact (List.getElem?_eq_some_iff.mp q).1
        · rw [List.getElem?_set_ne hj]
      rw [this]
      exact h
    | some d =>
      obtain ⟨v, hv, p⟩ := slots_get c q
      exact (h.perm (p.append_right C)).drop
end

/-! ### what is read of a denotation -/
abbrev XD := Exn → Hp → Prop
section
variable (K : PySem.W.Frag) (E : XD)
/-- what follows an outcome -/
def RestE (σ : St) (C : List Pr) (Q : VK) : Out D → Prop
  | .ok d e' => ∀ v H', Cov σ e' → Live K H' ((d, v) :: (slots σ e' ++ C)) → Q v H'
  | .exc x e' => ∀ H', Cov σ e' → Live K H' (slots σ e' ++ C) → E x H'
  | .bad => False
def RestB (σ : St) (C : List Pr) (Q : Bool → Hp → Prop) : Out Bool → Prop
  | .ok b e' => ∀ H', Cov σ e' → Live K H' (slots σ e' ++ C) → Q b H'
  | .exc x e' => ∀ H', Cov σ e' → Live K H' (slots σ e' ++ C) → E x H'
  | .bad => False
def RestA (σ : St) (C : List Pr) (Q : List V → Hp → Prop) : Out (List D) → Prop
  | .ok ds e' => ∀ vs H', vs.length = ds.length → Cov σ e' → Live K H' (ds.zip vs ++ (slots σ e' ++ C)) → Q vs H'
  | .exc x e' => ∀ H', Cov σ e' → Live K H' (slots σ e' ++ C) → E x H'
  | .bad => False
def rdE (m : M D) : TE := fun σ H Q => ∃ e C, Cov σ e ∧ Live K H (slots σ e ++ C) ∧ RestE K E σ C Q (m e)
def rdB (m : M Bool) : St → Hp → (Bool → Hp → Prop) → Prop := fun σ H Q => ∃ e C, Cov σ e ∧ Live K H (slots σ e ++ C) ∧ RestB K E σ C Q (m e)
def rdA (m : M (List D)) : TA := fun σ H Q => ∃ e C, Cov σ e ∧ Live K H (slots σ e ++ C) ∧ RestA K E σ C Q (m e)
inductive Flow where
  | nx | bk | ct
  | rt (d : D)
def Keep (R : Nat → Bool) (σ σ' : St) : Prop := σ'.length = σ.length ∧ ∀ i : Nat, R i = true → σ'[i]? = σ[i]?
def RestS (R : Nat → Bool) (σ : St) (C : List Pr) (D : Ends) : Out Flow → Prop
  | .ok .nx e' => ∀ σ' H', Cov σ' e' → Keep R σ σ' → Live K H' (slots σ' e' ++ C) → D.nx σ' H'
  | .ok .bk e' => ∀ σ' H', Cov σ' e' → Keep R σ σ' → Live K H' (slots σ' e' ++ C) → D.bk σ' H'
  | .ok .ct e' => ∀ σ' H', Cov σ' e' → Keep R σ σ' → Live K H' (slots σ' e' ++ C) → D.ct σ' H'
  | .ok (.rt d) e' => ∀ v σ' H', Cov σ' e' → Keep R σ σ' → Live K H' ((d, v) :: (slots σ' e' ++ C)) → D.rt v H'
  | .exc x e' => ∀ σ' H', Cov σ' e' → Keep R σ σ' → Live K H' (slots σ' e' ++ C) → E x H'
  | .bad => False
def rdS (R : Nat → Bool) (m : M Flow) : TS := fun D σ H => ∃ e C, Cov σ e ∧ Live K H (slots σ e ++ C) ∧ RestS K E R σ C D (m e)
end
theorem Keep.refl {R : Nat → Bool} {σ : St} : Keep R σ σ := ⟨rfl, fun _ _ => rfl⟩
theorem Keep.trans {R : Nat → Bool} {a b c : St} (h : Keep R a b) (k : Keep R b c) : Keep R a c := ⟨k.1.trans h.1, fun i hi => (k.2 i hi).trans (h.2 i hi)⟩
theorem Keep.set {R : Nat → Bool} {σ : St} {i : Nat} {x : Option V} (h : R i = false) : Keep R σ (σ.set i x) := ⟨by simp, fun j hj => List.getElem?_set_ne fun z => by rw [z, hj] at h; cases h⟩

/-- the judgements -/
abbrev GE (X : Cx) (E : XD) (e : Expr) (m : M D) : Prop := PE X e (rdE X.K E m)
abbrev GB (X : Cx) (E : XD) (e : Expr) (m : M Bool) : Prop := PT X e (rdB X.K E m)
abbrev GW (X : Cx) (E : XD) (e : Expr) (m : M Bool) : Prop := PW X e (rdB X.K E m)
abbrev GA (X : Cx) (E : XD) (es : List Expr) (m : M (List D)) : Prop := PA X es (rdA X.K E m)
abbrev GS (X : Cx) (E : XD) (R : Nat → Bool) (st : Stmt) (m : M Flow) : Prop := PS X st (rdS X.K E R m)
abbrev GSs (X : Cx) (E : XD) (R : Nat → Bool) (st : List Stmt) (m : M Flow) : Prop := PSs X st (rdS X.K E R m)

section
variable {X : Cx} {E : XD} {e a b c : Expr} {es : List Expr} {pos : Pos}
theorem _root_.L2.PE.to {t t' : TE} (h : PE X e t) (i : ∀ σ H Q, t' σ H Q → t σ H Q) : PE X e t' := ⟨fun pins s σ H Q I q => h.run pins s σ H Q I (i _ _ _ q)⟩
theorem _root_.L2.PT.to {t t' : TT} (h : PT X e t) (i : ∀ σ H Q, t' σ H Q → t σ H Q) : PT X e t' := ⟨fun pins s σ H Q I q => h.run pins s σ H Q I (i _ _ _ q)⟩
theorem _root_.L2.PW.to {t t' : TT} (h : PW X e t) (i : ∀ σ H Q, t' σ H Q → t σ H Q) : PW X e t' := ⟨fun w pins s σ H Q I q => h.run w pins s σ H Q I (i _ _ _ q)⟩
theorem _root_.L2.PA.to {t t' : TA} (h : PA X es t) (i : ∀ σ H Q, t' σ H Q → t σ H Q) : PA X es t' := ⟨fun p pins s σ H Q I q => h.run p pins s σ H Q I (i _ _ _ q)⟩
theorem _root_.L2.PS.to {st : Stmt} {t t' : TS} (h : PS X st t) (i : ∀ D σ H, t' D σ H → t D σ H) : PS X st t' := ⟨fun pins s σ H D I q => h.run pins s σ H D I (i _ _ _ q)⟩
theorem _root_.L2.PSs.to {st : List Stmt} {t t' : TS} (h : PSs X st t) (i : ∀ D σ H, t' D σ H → t D σ H) : PSs X st t' := ⟨fun pins s σ H D I q => h.run pins s σ H D I (i _ _ _ q)⟩
end
end DL
/-! One lemma a construct: expressions. -/
namespace DL
open PySem PySem.Spec PyProof.Rows L2

/-! ### frozen trees -/
mutual
def D.isFrz : D → Bool
  | .tup xs => D.allFrz xs
  | .lst o xs => !o && D.allFrz xs
  | .dct o _ vs => !o && D.allFrz vs
  | _ => true
def D.allFrz : List D → Bool
  | [] => true
  | x :: xs => x.isFrz && D.allFrz xs
end
mutual
theorem Rp.owns {K : PySem.W.Frag} {H : Hp} : ∀ {d : D} {v : V} {F G : List Addr}, d.isFrz = true → Rp K H d v F G → F = []
  | .non, v, F, G, _, h => by simp only [Rp] at h; exact h.2.1
  | .bl _, v, F, G, _, h => by simp only [Rp] at h; exact h.2.1
  | .int _, v, F, G, _, h => by simp only [Rp] at h; exact h.2.1
  | .str _, v, F, G, _, h => by simp only [Rp] at h; exact h.2.1
  | .ref _, v, F, G, _, h => by simp only [Rp] at h; exact h.2.1
  | .scr _, v, F, G, _, h => by
    simp only [Rp] at h
    obtain ⟨a, _, _, rfl, _⟩ := h
    rfl
  | .tup xs, v, F, G, f, h => by
    simp only [D.isFrz] at f
    simp only [Rp] at h
    obtain ⟨a, vs, G', e, _, hl, q⟩ := h
    exact RpL.owns f hl
  | .lst true xs, v, F, G, f, h => by simp [D.isFrz] at f
  | .lst false xs, v, F, G, f, h => by
    simp only [Rp] at h
    obtain ⟨a, vs, G', e, _, _, rfl, _⟩ := h
    rfl
  | .dct true ks xs, v, F, G, f, h => by simp [D.isFrz] at f
  | .dct false ks xs, v, F, G, f, h => by
    simp only [Rp] at h
    obtain ⟨a, vs, G', e, _, rfl, _⟩ := h
    rfl
theorem RpL.owns {K : PySem.W.Frag} {H : Hp} : ∀ {ds : List D} {vs : List V} {F G : List Addr}, D.allFrz ds = true → RpL K H ds vs F G → F = []
  | [], vs, F, G, _, h => by simp only [RpL] at h; exact h.2.1
  | d :: ds, vs, F, G, f, h => by
    simp only [D.allFrz, Bool.and_eq_true] at f
    simp only [RpL] at h
    obtain ⟨v, vs', F1, F2, G1, G2, rfl, rfl, rfl, h1, h2⟩ := h
    rw [Rp.owns f.1 h1, RpL.owns f.2 h2]
    rfl
end
mutual
theorem D.frz_of : ∀ {d : D}, d.isFrz = true → d.frz = d
  | .tup xs, f => by simp only [D.isFrz] at f; simp only [D.frz, D.frzL_of f]
  | .lst o xs, f => by
    simp only [D.isFrz, Bool.and_eq_true, Bool.not_eq_true'] at f
    simp only [D.frz, D.frzL_of f.2, f.1]
  | .dct o ks vs, f => by
    simp only [D.isFrz, Bool.and_eq_true, Bool.not_eq_true'] at f
    simp only [D.frz, D.frzL_of f.2, f.1]
  | .non, _ => by simp only [D.frz]
  | .bl _, _ => by simp only [D.frz]
  | .int _, _ => by simp only [D.frz]
  | .str _, _ => by simp only [D.frz]
  | .ref _, _ => by simp only [D.frz]
  | .scr _, _ => by simp only [D.frz]
theorem D.frzL_of : ∀ {xs : List D}, D.allFrz xs = true → D.frzL xs = xs
  | [], _ => by simp only [D.frzL]
  | x :: xs, f => by
    simp only [D.allFrz, Bool.and_eq_true] at f
    simp only [D.frzL, D.frz_of f.1, D.frzL_of f.2]
end

/-! ### parts of what lives -/
def Part (K : PySem.W.Frag) (H : Hp) (L : List Pr) (d : D) (v : V) : Prop :=
  ∃ F G, RpL K H (L.map (·.1)) (L.map (·.2)) F G ∧ F.Nodup ∧ (∀ a ∈ F, a ∉ G) ∧ ∃ F0 G0, Rp K H d v F0 G0 ∧ (∀ a ∈ F0, a ∈ F) ∧ (∀ a ∈ G0, a ∈ G)
section
variable {K : PySem.W.Frag} {H : Hp} {L : List Pr} {d : D} {v : V}
theorem Part.live (h : Part K H L d v) : Live K H L := by
  obtain ⟨F, G, r, n, dj, _⟩ := h
  exact ⟨F, G, r, n, dj, by simp⟩
theorem Part.rp (h : Part K H L d v) : ∃ F G, Rp K H d v F G := by
  obtain ⟨F, G, r, n, dj, F0, G0, q, _⟩ := h
  exact ⟨F0, G0, q⟩
theorem Part.add (h : Part K H L d v) (f : d.isFrz = true) : Live K H ((d, v) :: L) := by
  obtain ⟨F, G, r, n, dj, F0, G0, q, sF, sG⟩ := h
  obtain rfl := Rp.owns f q
  refine ⟨F, G0 ++ G, RpL.cons_iff.mpr ⟨[], F, G0, G, rfl, rfl, q, r⟩, n, fun a ha hg => ?_, by simp⟩
  rcases List.mem_append.mp hg with z | z
  · exact dj a ha (sG a z)
  · exact dj a ha z
theorem Live.part (h : Live K H ((d, v) :: L)) : Part K H ((d, v) :: L) d v := by
  obtain ⟨F, G, r, n, dj, _⟩ := h
  obtain ⟨F1, F2, G1, G2, rfl, rfl, h1, h2⟩ := RpL.cons_iff.mp r
  exact ⟨_, _, r, n, dj, F1, G1, h1, fun a ha => List.mem_append_left _ ha, fun a ha => List.mem_append_left _ ha⟩
theorem Part.perm {L' : List Pr} (h : Part K H L d v) (p : L.Perm L') : Part K H L' d v := by
  obtain ⟨F, G, r, n, dj, F0, G0, q, sF, sG⟩ := h
  obtain ⟨F', G', r', pF, pG⟩ := perm_rp p r
  exact ⟨F', G', r', pF.nodup_iff.mp n, fun a ha hg => dj a (pF.mem_iff.mpr ha) (pG.mem_iff.mpr hg), F0, G0, q, fun a ha => pF.mem_iff.mp (sF a ha), fun a ha => pG.mem_iff.mp (sG a ha)⟩
/-- what is part of the part -/
theorem Part.sub {d' : D} {v' : V} (h : Part K H L d v) (s : ∀ F0 G0, Rp K H d v F0 G0 → ∃ F1 G1, Rp K H d' v' F1 G1 ∧ (∀ a ∈ F1, a ∈ F0) ∧ (∀ a ∈ G1, a ∈ G0)) : Part K H L d' v' := by
  obtain ⟨F, G, r, n, dj, F0, G0, q, sF, sG⟩ := h
  obtain ⟨F1, G1, q1, a1, a2⟩ := s _ _ q
  exact ⟨F, G, r, n, dj, F1, G1, q1, fun a ha => sF a (a1 a ha), fun a ha => sG a (a2 a ha)⟩
theorem RpL.at : ∀ {ds : List D} {vs : List V} {F G : List Addr} {i : Nat} {d : D}, RpL K H ds vs F G → ds[i]? = some d → ∃ v F0 G0, vs[i]? = some v ∧ Rp K H d v F0 G0 ∧ (∀ a ∈ F0, a ∈ F) ∧ (∀ a ∈ G0, a ∈ G)
  | [], _, _, _, _, _, _, e => by simp at e
  | d0 :: ds, vs, F, G, 0, d, h, e => by
    simp only [RpL] at h
    obtain ⟨v, vs', F1, F2, G1, G2, rfl, rfl, rfl, h1, h2⟩ := h
    simp at e
    subst e
    exact ⟨v, F1, G1, rfl, h1, fun a ha => List.mem_append_left _ ha, fun a ha => List.mem_append_left _ ha⟩
  | d0 :: ds, vs, F, G, i + 1, d, h, e => by
    simp only [RpL] at h
    obtain ⟨v, vs', F1, F2, G1, G2, rfl, rfl, rfl, h1, h2⟩ := h
    obtain ⟨w, F0, G0, e1, e2, a1, a2⟩ := RpL.at (i := i) h2 (by simpa using e)
    exact ⟨w, F0, G0, by simpa using e1, e2, fun a ha => List.mem_append_right _ (a1 a ha), fun a ha => List.mem_append_right _ (a2 a ha)⟩
/-- a sequence's items -/
inductive SeqV (K : PySem.W.Frag) (H : Hp) (v : V) (vs : List V) : Prop
  | lst (a : Addr) (e : v = .ref a) (h : SqL K H a vs)
  | tup (a : Addr) (e : v = .ref a) (h : SqT K H a vs)
def D.items : D → Option (List D)
  | .tup xs => some xs
  | .lst _ xs => some xs
  | _ => none
theorem Rp.seq {xs : List D} {F G : List Addr} : d.items = some xs → Rp K H d v F G → ∃ vs F0 G0, SeqV K H v vs ∧ RpL K H xs vs F0 G0 ∧ (∀ a ∈ F0, a ∈ F) ∧ (∀ a ∈ G0, a ∈ G) := by
  intro e h
  cases d with
  | tup ys =>
    simp only [D.items, Option.some.injEq] at e
    subst e
    simp only [Rp] at h
    obtain ⟨a, vs, G', rfl, _, hl, q⟩ := h
    rcases q with ⟨q, rfl⟩ | ⟨q, rfl⟩
    · exact ⟨vs, F, G', .tup a rfl (.inl q), hl, fun _ z => z, fun _ z => List.mem_cons_of_mem _ z⟩
    · exact ⟨vs, F, G, .tup a rfl (.inr q), hl, fun _ z => z, fun _ z => z⟩
  | lst o ys =>
    simp only [D.items, Option.some.injEq] at e
    subst e
    cases o with
    | true =>
      simp only [Rp] at h
      obtain ⟨a, vs, F', rfl, _, ha, rfl, hl⟩ := h
      exact ⟨vs, F', G, .lst a rfl (.inl (.inl ha)), hl, fun _ z => List.mem_cons_of_mem _ z, fun _ z => z⟩
    | false =>
      simp only [Rp] at h
      obtain ⟨a, vs, G', rfl, _, ha, rfl, rfl, hl⟩ := h
      exact ⟨vs, [], G', .lst a rfl (.inl (.inl ha)), hl, fun _ z => z, fun _ z => List.mem_cons_of_mem _ z⟩
  | non => simp [D.items] at e
  | bl _ => simp [D.items] at e
  | int _ => simp [D.items] at e
  | str _ => simp [D.items] at e
  | ref _ => simp [D.items] at e
  | dct _ _ _ => simp [D.items] at e
  | scr _ => simp [D.items] at e
theorem SeqV.both {vs : List V} (h : SeqV K H v vs) : ∃ a, v = .ref a ∧ (SqL K H a vs ∨ SqT K H a vs) := by
  cases h with
  | lst a e h => exact ⟨a, e, .inl h⟩
  | tup a e h => exact ⟨a, e, .inr h⟩
/-- nothing stands behind it -/
def D.flat : D → Bool
  | .non | .bl _ | .int _ | .str _ | .ref _ => true
  | _ => false
def D.val : D → V
  | .bl b => .bl b
  | .int i => .int i
  | .str x => .str x
  | .ref a => .ref a
  | _ => .non
theorem Rp.flat_iff (f : d.flat = true) {F G : List Addr} : Rp K H d v F G ↔ v = d.val ∧ F = [] ∧ G = [] := by
  cases d <;> simp [D.flat] at f <;> simp [Rp, D.val]
theorem D.flat_frz (f : d.flat = true) : d.isFrz = true := by
  cases d <;> simp [D.flat] at f <;> simp [D.isFrz]
theorem Live.flat (h : Live K H L) (f : d.flat = true) : Live K H ((d, d.val) :: L) := LiveX.flat (F := []) (G := []) h ((Rp.flat_iff f).mpr ⟨rfl, rfl, rfl⟩)
end

section
variable {X : Cx} {E : XD} {e a b c : Expr} {es : List Expr} {pos : Pos}

/-! ### constants, names -/
def pK (d : D) : Env → Option D := fun _ => some d
def pV (i : Nat) : Env → Option D := fun e => (e[i]?).join
/-- a glance's reading, by parts -/
def rdQ (K : PySem.W.Frag) (p : Env → Option D) : TE := fun σ H Q => ∃ e C, Cov σ e ∧ Live K H (slots σ e ++ C) ∧ ∃ d, p e = some d ∧ ∀ v, Part K H (slots σ e ++ C) d v → Q v H
abbrev GQ (X : Cx) (e : Expr) (p : Env → Option D) : Prop := PE X e (rdQ X.K p)
theorem Live.parts {K : PySem.W.Frag} {H : Hp} {L : List Pr} {d : D} (h : Live K H L) (f : d.flat = true) : Part K H L d d.val := by
  obtain ⟨F, G, r, n, dj, _⟩ := h
  exact ⟨F, G, r, n, dj, [], [], (Rp.flat_iff f).mpr ⟨rfl, rfl, rfl⟩, by simp, by simp⟩
theorem gq_const {v : V} {d : D} (h : PE X e (tC v)) (f : d.flat = true := by rfl) (hv : d.val = v := by rfl) : GQ X e (pK d) := h.to fun σ H Q q => by
  obtain ⟨env, C, cov, lv, d', ed, q⟩ := q
  simp only [pK, Option.some.injEq] at ed
  subst ed
  have := q d.val (lv.parts f)
  rw [hv] at this
  exact this
theorem Live.partAt {K : PySem.W.Frag} {H : Hp} {σ : St} {env : Env} {C : List Pr} {i : Nat} {d : D} (cov : Cov σ env) (lv : Live K H (slots σ env ++ C)) (h : env[i]? = some (some d)) : ∃ v, σ[i]? = some (some v) ∧ Part K H (slots σ env ++ C) d v := by
  obtain ⟨v, hv, p⟩ := slots_get cov h
  have p' := p.append_right C
  exact ⟨v, hv, (Live.part (lv.perm p')).perm p'.symm⟩
theorem join_some {i : Nat} {env : Env} {d : D} (h : pV i env = some d) : env[i]? = some (some d) := by
  unfold pV at h
  cases q : env[i]? with
  | none => rw [q] at h; simp at h
  | some o => rw [q] at h; simp at h; rw [h]
theorem gq_var {i : Nat} (h : PE X e (tVar i)) : GQ X e (pV i) := h.to fun σ H Q q => by
  obtain ⟨env, C, cov, lv, d, ed, q⟩ := q
  obtain ⟨v, hv, pt⟩ := lv.partAt cov (join_some ed)
  exact ⟨v, hv, q v pt⟩
/-- from a glance to a value that is had -/
def mP (p : Env → Option D) : M D := fun e => match p e with
  | some d => if d.isFrz = true then .ok d e else .bad
  | none => .bad
theorem ge_q {p : Env → Option D} (h : GQ X e p) : GE X E e (mP p) := h.to fun σ H Q q => by
  obtain ⟨env, C, cov, lv, q⟩ := q
  unfold mP at q
  cases ed : p env with
  | none => rw [ed] at q; exact q.elim
  | some d =>
    rw [ed] at q
    by_cases f : d.isFrz = true
    · simp only [f, if_true] at q
      exact ⟨env, C, cov, lv, d, ed, fun v pt => q v H cov (pt.add f)⟩
    · simp only [f, Bool.false_eq_true, if_false] at q
      exact q.elim
/-- a name's value shared: the tree is frozen -/
def mShare (i : Nat) : M D := fun e => match pV i e with
  | some d => .ok d.frz (e.set i (some d.frz))
  | none => .bad
theorem live_back {K : PySem.W.Frag} {H : Hp} {σ : St} {env : Env} {C : List Pr} {i : Nat} {d : D} {v : V} {L : List Pr} (cov : Cov σ env) (hv : σ[i]? = some (some v)) (h : Live K H ((d, v) :: (L ++ (slots σ (env.set i none) ++ C)))) : Live K H (L ++ (slots σ (env.set i (some d)) ++ C)) := by
  refine h.perm ?_
  have p := (slots_put (d := d) cov.1 hv).symm.append_right C
  have p2 : ((d, v) :: (L ++ (slots σ (env.set i none) ++ C))).Perm (L ++ ((d, v) :: (slots σ (env.set i none) ++ C))) := List.perm_middle.symm
  exact p2.trans (p.append_left L)
theorem ge_share {i : Nat} (h : PE X e (tVar i)) : GE X E e (mShare i) := h.to fun σ H Q q => by
  obtain ⟨env, C, cov, lv, q⟩ := q
  unfold mShare at q
  cases ed : pV i env with
  | none => rw [ed] at q; exact q.elim
  | some d =>
    rw [ed] at q
    obtain ⟨v, hv, p⟩ := slots_get cov (join_some ed)
    refine ⟨v, hv, q v H (cov.put hv) ?_⟩
    have l2 := LiveX.dup (lv.perm (p.append_right C))
    exact live_back (L := [(d.frz, v)]) cov hv l2
/-- a name's value taken: the name holds nothing any more -/
def mTake (i : Nat) : M D := fun e => match pV i e with
  | some d => .ok d (e.set i none)
  | none => .bad
theorem ge_take {i : Nat} (h : PE X e (tVar i)) : GE X E e (mTake i) := h.to fun σ H Q q => by
  obtain ⟨env, C, cov, lv, q⟩ := q
  unfold mTake at q
  cases ed : pV i env with
  | none => rw [ed] at q; exact q.elim
  | some d =>
    rw [ed] at q
    obtain ⟨v, hv, p⟩ := slots_get cov (join_some ed)
    exact ⟨v, hv, q v H (cov.off i) (lv.perm (p.append_right C))⟩

/-! ### operators whose answer is flat -/
/-- r lets g's answer through, whatever is known of both -/
def OpG (K : PySem.W.Frag) (r : R2) (g : D → D → Option D) : Prop :=
  ∀ (H : Hp) (L : List Pr) (d1 d2 d : D) (v1 v2 : V) (Q : VK), g d1 d2 = some d → Part K H L d1 v1 → Part K H L d2 v2 → Q d.val H → r v1 v2 H Q
def FlatG (g : D → D → Option D) : Prop := ∀ x y d, g x y = some d → d.flat = true
def pOp (g : D → D → Option D) (p q : Env → Option D) : Env → Option D := fun e => (p e).bind fun x => (q e).bind fun y => g x y
theorem gq_op {op : Operator} {r : R2} {g : D → D → Option D} {p q : Env → Option D} (ho : OpR X (binaryOp op) r) (hg : OpG X.K r g) (hf : FlatG g) (ha : GQ X a p) (hb : GQ X b q) : GQ X (.BinOp a op b pos) (pOp g p q) :=
  (pe_op ho ha hb).to fun σ H Q k => by
    obtain ⟨env, C, cov, lv, d, ed, k⟩ := k
    unfold pOp at ed
    obtain ⟨x, ex, ed⟩ := Option.bind_eq_some_iff.mp ed
    obtain ⟨y, ey, ed⟩ := Option.bind_eq_some_iff.mp ed
    exact ⟨env, C, cov, lv, x, ex, fun v1 p1 => ⟨env, C, cov, p1.live, y, ey, fun v2 p2 => hg H _ x y d v1 v2 _ ed p1 p2 (k _ (p2.live.parts (hf _ _ _ ed)))⟩⟩
/-! ### values one after another -/
theorem rdE_bind {K : PySem.W.Frag} {m : M D} {k : D → M D} {σ : St} {H : Hp} {Q : VK} (h : rdE K E (m.andThen k) σ H Q) :
    rdE K E m σ H fun v H1 => ∃ e1 C x, Cov σ e1 ∧ Live K H1 ((x, v) :: (slots σ e1 ++ C)) ∧ RestE K E σ C Q (k x e1) := by
  obtain ⟨env, C, cov, lv, q⟩ := h
  refine ⟨env, C, cov, lv, ?_⟩
  unfold M.andThen at q
  cases o : m env with
  | ok x e' =>
    rw [o] at q
    exact fun v H' c l => ⟨e', C, x, c, l, q⟩
  | exc x e' =>
    rw [o] at q
    exact q
  | bad =>
    rw [o] at q
    exact q
theorem rdE_bindB {K : PySem.W.Frag} {m : M D} {k : D → M Bool} {σ : St} {H : Hp} {Q : Bool → Hp → Prop} (h : rdB K E (m.andThen k) σ H Q) :
    rdE K E m σ H fun v H1 => ∃ e1 C x, Cov σ e1 ∧ Live K H1 ((x, v) :: (slots σ e1 ++ C)) ∧ RestB K E σ C Q (k x e1) := by
  obtain ⟨env, C, cov, lv, q⟩ := h
  refine ⟨env, C, cov, lv, ?_⟩
  unfold M.andThen at q
  cases o : m env with
  | ok x e' =>
    rw [o] at q
    exact fun v H' c l => ⟨e', C, x, c, l, q⟩
  | exc x e' =>
    rw [o] at q
    exact q
  | bad =>
    rw [o] at q
    exact q
/-- the second value while the first one is held -/
theorem rdE_next {K : PySem.W.Frag} {n : M D} {k : D → M D} {σ : St} {H : Hp} {Q : VK} {C : List Pr} {x : D} {v : V} {e1 : Env} (cov : Cov σ e1) (lv : Live K H ((x, v) :: (slots σ e1 ++ C))) (q : RestE K E σ C Q ((n.andThen k) e1)) :
    rdE K E n σ H fun w H2 => ∃ e2 y, Cov σ e2 ∧ Live K H2 ((y, w) :: (x, v) :: (slots σ e2 ++ C)) ∧ RestE K E σ C Q (k y e2) := by
  refine ⟨e1, (x, v) :: C, cov, lv.perm List.perm_middle.symm, ?_⟩
  unfold M.andThen at q
  cases o : n e1 with
  | ok y e2 =>
    rw [o] at q
    exact fun w H' c l => ⟨e2, y, c, l.perm (List.perm_middle.cons _), q⟩
  | exc z e' =>
    rw [o] at q
    exact fun H' c l => q H' c (LiveX.drop (l.perm List.perm_middle))
  | bad =>
    rw [o] at q
    exact q
theorem rdE_nextB {K : PySem.W.Frag} {n : M D} {k : D → M Bool} {σ : St} {H : Hp} {Q : Bool → Hp → Prop} {C : List Pr} {x : D} {v : V} {e1 : Env} (cov : Cov σ e1) (lv : Live K H ((x, v) :: (slots σ e1 ++ C))) (q : RestB K E σ C Q ((n.andThen k) e1)) :
    rdE K E n σ H fun w H2 => ∃ e2 y, Cov σ e2 ∧ Live K H2 ((y, w) :: (x, v) :: (slots σ e2 ++ C)) ∧ RestB K E σ C Q (k y e2) := by
  refine ⟨e1, (x, v) :: C, cov, lv.perm List.perm_middle.symm, ?_⟩
  unfold M.andThen at q
  cases o : n e1 with
  | ok y e2 =>
    rw [o] at q
    exact fun w H' c l => ⟨e2, y, c, l.perm (List.perm_middle.cons _), q⟩
  | exc z e' =>
    rw [o] at q
    exact fun H' c l => q H' c (LiveX.drop (l.perm List.perm_middle))
  | bad =>
    rw [o] at q
    exact q

/-! ### operators -/
/-- r lets g's answer through where both trees are had -/
def OpA (K : PySem.W.Frag) (r : R2) (g : D → D → Option D) : Prop :=
  ∀ (H : Hp) (L : List Pr) (d1 d2 d : D) (v1 v2 : V) (Q : VK), g d1 d2 = some d → Live K H ((d2, v2) :: (d1, v1) :: L) → (∀ v H', Live K H' ((d, v) :: L) → Q v H') → r v1 v2 H Q
theorem OpG.toA {K : PySem.W.Frag} {r : R2} {g : D → D → Option D} (h : OpG K r g) (f : FlatG g) : OpA K r g := fun H L d1 d2 d v1 v2 Q e lv q =>
  h H _ d1 d2 d v1 v2 Q e ((Live.part (lv.perm (List.Perm.swap _ _ _))).perm (List.Perm.swap _ _ _)) (Live.part lv) (q _ _ (Live.flat (LiveX.drop (LiveX.drop lv)) (f _ _ _ e)))
def orG (g h : D → D → Option D) : D → D → Option D := fun x y => (g x y).or (h x y)
theorem OpA.or {K : PySem.W.Frag} {r s : R2} {g h : D → D → Option D} (a : OpA K r g) (b : OpA K s h) : OpA K (fun x y H Q => r x y H Q ∨ s x y H Q) (orG g h) := fun H L d1 d2 d v1 v2 Q e lv q => by
  unfold orG at e
  cases o : g d1 d2 with
  | some d' =>
    rw [o] at e
    simp at e
    subst e
    exact .inl (a H L d1 d2 d' v1 v2 Q o lv q)
  | none =>
    rw [o] at e
    simp at e
    exact .inr (b H L d1 d2 d v1 v2 Q e lv q)
theorem OpG.or {K : PySem.W.Frag} {r s : R2} {g h : D → D → Option D} (a : OpG K r g) (b : OpG K s h) : OpG K (fun x y H Q => r x y H Q ∨ s x y H Q) (orG g h) := fun H L d1 d2 d v1 v2 Q e p1 p2 q => by
  unfold orG at e
  cases o : g d1 d2 with
  | some d' =>
    rw [o] at e
    simp at e
    subst e
    exact .inl (a H L d1 d2 d' v1 v2 Q o p1 p2 q)
  | none =>
    rw [o] at e
    simp at e
    exact .inr (b H L d1 d2 d v1 v2 Q e p1 p2 q)
theorem FlatG.or {g h : D → D → Option D} (a : FlatG g) (b : FlatG h) : FlatG (orG g h) := fun x y d e => by
  unfold orG at e
  cases o : g x y with
  | some d' =>
    rw [o] at e
    simp at e
    subst e
    exact a _ _ _ o
  | none =>
    rw [o] at e
    simp at e
    exact b _ _ _ e
def mOp (g : D → D → Option D) (m n : M D) : M D := m.andThen fun x => n.andThen fun y => M.opt (g x y)
theorem opt_rest {K : PySem.W.Frag} {σ : St} {C : List Pr} {Q : VK} {o : Option D} {e2 : Env} (q : RestE K E σ C Q (M.opt o e2)) : ∃ d, o = some d ∧ RestE K E σ C Q (.ok d e2) := by
  cases o with
  | none => exact False.elim q
  | some d => exact ⟨d, rfl, q⟩
theorem op_reads {r : R2} {g : D → D → Option D} {K : PySem.W.Frag} {m n : M D} (hg : OpA K r g) {σ : St} {H : Hp} {Q : VK} (h : rdE K E (mOp g m n) σ H Q) : tOp r (rdE K E m) (rdE K E n) σ H Q := by
  obtain ⟨env, C, cov, lv, k⟩ := rdE_bind h
  refine ⟨env, C, cov, lv, ?_⟩
  cases o : m env with
  | ok x e' =>
    rw [o] at k
    intro v H' c l
    obtain ⟨e1, C1, x1, c1, l1, q1⟩ := k v H' c l
    obtain ⟨env2, C2, cov2, lv2, k2⟩ := rdE_next c1 l1 q1
    refine ⟨env2, C2, cov2, lv2, ?_⟩
    cases o2 : n env2 with
    | ok y e3 =>
      rw [o2] at k2
      intro w H2 c2 l2
      obtain ⟨e4, y4, c4, l4, q4⟩ := k2 w H2 c2 l2
      obtain ⟨d, ed, q5⟩ := opt_rest q4
      exact hg H2 _ x1 y4 d v w Q ed l4 fun v' H' l' => q5 v' H' c4 l'
    | exc z e3 =>
      rw [o2] at k2
      exact k2
    | bad =>
      rw [o2] at k2
      exact k2
  | exc z e' =>
    rw [o] at k
    exact k
  | bad =>
    rw [o] at k
    exact k
theorem ge_op {op : Operator} {r : R2} {g : D → D → Option D} {m n : M D} (ho : OpR X (binaryOp op) r) (hg : OpA X.K r g) (ha : GE X E a m) (hb : GE X E b n) : GE X E (.BinOp a op b pos) (mOp g m n) :=
  (pe_op ho ha hb).to fun _ _ _ => op_reads hg
theorem ge_cmp {op : CmpOp} {r : R2} {g : D → D → Option D} {m n : M D} (ho : OpR X (compareOp op) r) (hg : OpA X.K r g) (ha : GE X E a m) (hb : GE X E b n) (hm : behindInMarks op b = false) : GE X E (.Compare a [op] [b] pos) (mOp g m n) :=
  (pe_cmpR ho ha hb hm).to fun _ _ _ => op_reads hg
theorem gq_cmp {op : CmpOp} {r : R2} {g : D → D → Option D} {p q : Env → Option D} (ho : OpR X (compareOp op) r) (hg : OpG X.K r g) (hf : FlatG g) (ha : GQ X a p) (hb : GQ X b q) (hm : behindInMarks op b = false) : GQ X (.Compare a [op] [b] pos) (pOp g p q) :=
  (pe_cmpR ho ha hb hm).to fun σ H Q k => by
    obtain ⟨env, C, cov, lv, d, ed, k⟩ := k
    unfold pOp at ed
    obtain ⟨x, ex, ed⟩ := Option.bind_eq_some_iff.mp ed
    obtain ⟨y, ey, ed⟩ := Option.bind_eq_some_iff.mp ed
    exact ⟨env, C, cov, lv, x, ex, fun v1 p1 => ⟨env, C, cov, p1.live, y, ey, fun v2 p2 => hg H _ x y d v1 v2 _ ed p1 p2 (k _ (p2.live.parts (hf _ _ _ ed)))⟩⟩

/-! ### tests -/
def D.tf : D → Option Bool
  | .bl b => some b
  | _ => none
/-- the value of a test that gives a truth value -/
def mTf (m : M D) : M Bool := m.andThen fun x => M.opt x.tf
theorem tf_reads {K : PySem.W.Frag} {m : M D} {σ : St} {H : Hp} {Q : Bool → Hp → Prop} {R : VK} (h : rdB K E (mTf m) σ H Q) (hR : ∀ k H1, Q k H1 → R (.bl k) H1) : rdE K E m σ H R := by
  obtain ⟨env, C, cov, lv, k⟩ := rdE_bindB h
  refine ⟨env, C, cov, lv, ?_⟩
  cases o : m env with
  | ok x e' =>
    rw [o] at k
    intro v H' c l
    obtain ⟨e1, C1, x1, c1, l1, q1⟩ := k v H' c l
    cases x1 with
    | bl b =>
      obtain ⟨F, G, rp⟩ := LiveX.look l1
      simp only [Rp] at rp
      rw [rp.1]
      exact hR b H' (q1 H' c1 (LiveX.drop l1))
    | non => exact False.elim q1
    | int _ => exact False.elim q1
    | str _ => exact False.elim q1
    | ref _ => exact False.elim q1
    | tup _ => exact False.elim q1
    | lst _ _ => exact False.elim q1
    | dct _ _ _ => exact False.elim q1
    | scr _ => exact False.elim q1
  | exc z e' =>
    rw [o] at k
    exact k
  | bad =>
    rw [o] at k
    exact k
theorem gb_cmp {op : CmpOp} {r : R2} {g : D → D → Option D} {m n : M D} (ho : OpR X (compareOp op) r) (hg : OpA X.K r g) (ha : GE X E a m) (hb : GE X E b n) (hm : behindInMarks op b = false) : GB X E (.Compare a [op] [b] pos) (mTf (mOp g m n)) :=
  (pt_cmpR ho ha hb hm).to fun σ H Q h => by
    show tOp r (rdE X.K E m) (rdE X.K E n) σ H fun x H' => ∃ k, x = .bl k ∧ Q k H'
    exact op_reads hg (tf_reads h fun k H1 q => ⟨k, rfl, q⟩)
theorem gb_val {m : M D} (h : GE X E e m) (he : ∀ whole, isTrue e X.env whole = (do let v ← whole; standAt e.pos; holding [v] (truthy v)) := by intro _; rfl) : GB X E e (mTf m) :=
  (pt_val h he).to fun σ H Q k => tf_reads k fun k H1 q => ⟨k, rfl, q⟩
def mNot (m : M Bool) : M Bool := m.andThen fun b => M.ret (!b)
theorem gb_not {m : M Bool} (h : GB X E a m) : GB X E (.UnaryOp .Not a pos) (mNot m) := (pt_not h).to fun σ H Q k => by
  obtain ⟨env, C, cov, lv, q⟩ := k
  refine ⟨env, C, cov, lv, ?_⟩
  unfold mNot M.andThen at q
  cases o : m env with
  | ok x e' => rw [o] at q; exact q
  | exc z e' => rw [o] at q; exact q
  | bad => rw [o] at q; exact q
def mAnd (m n : M Bool) : M Bool := m.andThen fun b => if b = true then n else M.ret false
def mOr (m n : M Bool) : M Bool := m.andThen fun b => if b = true then M.ret true else n
variable {rest : List Expr}
theorem gw_and1 {m : M Bool} (h : GB X E a m) : GW X E (.BoolOp .And [a] pos) m := pw_and1 h
theorem gw_or1 {m : M Bool} (h : GB X E a m) : GW X E (.BoolOp .Or [a] pos) m := pw_or1 h
theorem gw_and {m n : M Bool} (ha : GB X E a m) (hb : GW X E (.BoolOp .And (b :: rest) pos) n) : GW X E (.BoolOp .And (a :: b :: rest) pos) (mAnd m n) := (pw_and ha hb).to fun σ H Q k => by
  obtain ⟨env, C, cov, lv, q⟩ := k
  refine ⟨env, C, cov, lv, ?_⟩
  unfold mAnd M.andThen at q
  cases o : m env with
  | ok x e' =>
    rw [o] at q
    intro H' c l
    cases x with
    | true => exact ⟨e', C, c, l, q⟩
    | false => exact q H' c l
  | exc z e' => rw [o] at q; exact q
  | bad => rw [o] at q; exact q
theorem gw_or {m n : M Bool} (ha : GB X E a m) (hb : GW X E (.BoolOp .Or (b :: rest) pos) n) : GW X E (.BoolOp .Or (a :: b :: rest) pos) (mOr m n) := (pw_or ha hb).to fun σ H Q k => by
  obtain ⟨env, C, cov, lv, q⟩ := k
  refine ⟨env, C, cov, lv, ?_⟩
  unfold mOr M.andThen at q
  cases o : m env with
  | ok x e' =>
    rw [o] at q
    intro H' c l
    cases x with
    | true => exact q H' c l
    | false => exact ⟨e', C, c, l, q⟩
  | exc z e' => rw [o] at q; exact q
  | bad => rw [o] at q; exact q
theorem gb_w {m : M Bool} (h : GW X E a m) : GB X E a m := PW.pt h
end
end DL
/-! Arguments, calls of built-ins, displays, subscripts, slices, methods. -/
namespace DL
open PySem PySem.Spec PyProof.Rows L2

section
variable {X : Cx} {E : XD} {e a b c : Expr} {es : List Expr} {pos p : Pos} {K : PySem.W.Frag}

/-! ### arguments -/
def mCons (m : M D) (ms : M (List D)) : M (List D) := m.andThen fun x => ms.andThen fun xs => M.ret (x :: xs)
theorem ga_nil : GA X E [] (M.ret []) := pa_nil.to fun σ H Q k => by
  obtain ⟨env, C, cov, lv, q⟩ := k
  exact q [] H rfl cov lv
theorem ga_cons {m : M D} {ms : M (List D)} (ha : GE X E e m) (hr : GA X E es ms) (hs : starEach (e :: es) X.env = (false, eval e X.env) :: starEach es X.env := by rfl) : GA X E (e :: es) (mCons m ms) :=
  (pa_cons ha hr hs).to fun σ H Q k => by
    obtain ⟨env, C, cov, lv, q⟩ := k
    refine ⟨env, C, cov, lv, ?_⟩
    unfold mCons M.andThen at q
    cases o : m env with
    | exc z e' => rw [o] at q; exact q
    | bad => rw [o] at q; exact q
    | ok x e1 =>
      rw [o] at q
      intro v H1 c1 l1
      refine ⟨e1, (x, v) :: C, c1, l1.perm List.perm_middle.symm, ?_⟩
      cases o2 : ms e1 with
      | exc z e' =>
        simp only [o2] at q
        exact fun H' c l => q H' c (LiveX.drop (l.perm List.perm_middle))
      | bad => simp only [o2] at q; exact q
      | ok xs e2 =>
        simp only [o2] at q
        intro vs H2 hl c2 l2
        refine q (v :: vs) H2 (by simp [hl]) c2 (l2.perm ?_)
        show (xs.zip vs ++ (slots σ e2 ++ (x, v) :: C)).Perm ((x, v) :: (xs.zip vs ++ (slots σ e2 ++ C)))
        exact ((List.perm_middle (l₁ := slots σ e2)).append_left _).trans List.perm_middle

/-! ### built-ins -/
def CallA (K : PySem.W.Frag) (r : List V → Hp → VK → Prop) (g : List D → Option D) : Prop :=
  ∀ (H : Hp) (L : List Pr) (ds : List D) (d : D) (vs : List V) (Q : VK), g ds = some d → vs.length = ds.length → Live K H (ds.zip vs ++ L) → (∀ v H', Live K H' ((d, v) :: L) → Q v H') → r vs H Q
/-- one argument, looked at -/
def CallG (K : PySem.W.Frag) (r : List V → Hp → VK → Prop) (g : D → Option D) : Prop :=
  ∀ (H : Hp) (L : List Pr) (x d : D) (v : V) (Q : VK), g x = some d → Part K H L x v → Q d.val H → r [v] H Q
def Flat1 (g : D → Option D) : Prop := ∀ x d, g x = some d → d.flat = true
def one (g : D → Option D) : List D → Option D
  | [x] => g x
  | _ => none
def two (g : D → D → Option D) : List D → Option D
  | [x, y] => g x y
  | _ => none
theorem CallG.toA {r : List V → Hp → VK → Prop} {g : D → Option D} (h : CallG K r g) (f : Flat1 g) : CallA K r (one g) := fun H L ds d vs Q e ln lv q => by
  match ds, vs, ln, e with
  | [x], [v], _, e =>
    have l2 : Live K H ((x, v) :: L) := lv
    exact h H _ x d v Q e (Live.part l2) (q _ _ (Live.flat (LiveX.drop l2) (f _ _ e)))
def mApp (g : List D → Option D) (ms : M (List D)) : M D := ms.andThen fun ds => M.opt (g ds)
theorem app_reads {r : List V → Hp → VK → Prop} {g : List D → Option D} {ms : M (List D)} (hg : CallA K r g) {σ : St} {H : Hp} {Q : VK} (h : rdE K E (mApp g ms) σ H Q) : rdA K E ms σ H fun vs H1 => r vs H1 Q := by
  obtain ⟨env, C, cov, lv, q⟩ := h
  refine ⟨env, C, cov, lv, ?_⟩
  unfold mApp M.andThen at q
  cases o : ms env with
  | exc z e' => rw [o] at q; exact q
  | bad => rw [o] at q; exact q
  | ok xs e1 =>
    rw [o] at q
    intro vs H1 hl c1 l1
    obtain ⟨d, ed, q2⟩ := opt_rest q
    exact hg H1 _ xs d vs Q ed hl l1 fun v H' l => q2 v H' c1 l
variable {x : Str} {id T : String} {r : List V → Hp → VK → Prop} {g : List D → Option D}
theorem ge_callB {ms : M (List D)} (hc : CallR X (.builtin id) r) (hA : CallA X.K r g) (hg : Gl X x) (hm : X.mg x = none) (hv : bootBuiltins x = some (.builtin id)) (ha : GA X E (e :: es) ms) (hn : x ≠ "__name__" := by decide) (hdb : (x == ("__debug__" : Str)) = false := by decide)
    (he : starEach (e :: es) X.env = (false, eval e X.env) :: starEach es X.env := by rfl) (hpl : (backTo pos (starEach es X.env)).any (·.1) = false := by rfl) : GE X E (.Call (.Name x p) (e :: es) [] pos) (mApp g ms) :=
  (pe_callB hc hg hm hv ha hn hdb he hpl).to fun _ _ _ => app_reads hA
theorem ge_callT {ms : M (List D)} (hc : CallR X (.type T) r) (hA : CallA X.K r g) (hg : Gl X x) (hm : X.mg x = none) (hv : bootBuiltins x = some (.type T)) (ha : GA X E (e :: es) ms) (hn : x ≠ "__name__" := by decide) (hdb : (x == ("__debug__" : Str)) = false := by decide)
    (he : starEach (e :: es) X.env = (false, eval e X.env) :: starEach es X.env := by rfl) (hpl : (backTo pos (starEach es X.env)).any (·.1) = false := by rfl) : GE X E (.Call (.Name x p) (e :: es) [] pos) (mApp g ms) :=
  (pe_callTy hc hg hm hv ha hn hdb he hpl).to fun _ _ _ => app_reads hA
/-- a built-in of one glance -/
def pApp (g : D → Option D) (q : Env → Option D) : Env → Option D := fun e => (q e).bind g
theorem gq_callB {g : D → Option D} {q : Env → Option D} (hc : CallR X (.builtin id) r) (hA : CallG X.K r g) (hf : Flat1 g) (hg : Gl X x) (hm : X.mg x = none) (hv : bootBuiltins x = some (.builtin id)) (ha : GQ X e q) (hn : x ≠ "__name__" := by decide) (hdb : (x == ("__debug__" : Str)) = false := by decide)
    (he : starEach [e] X.env = (false, eval e X.env) :: starEach [] X.env := by rfl) (hpl : (backTo pos (starEach [] X.env)).any (·.1) = false := by rfl) : GQ X (.Call (.Name x p) [e] [] pos) (pApp g q) :=
  (pe_callB hc hg hm hv (pa_cons ha pa_nil he) hn hdb he hpl).to fun σ H Q k => by
    obtain ⟨env, C, cov, lv, d, ed, k⟩ := k
    obtain ⟨y, ey, ed⟩ := Option.bind_eq_some_iff.mp ed
    exact ⟨env, C, cov, lv, y, ey, fun v pt => hA H _ y d v Q ed pt (k _ (pt.live.parts (hf _ _ ed)))⟩

/-! ### how glances read -/
theorem Part.int {H : Hp} {L : List Pr} {i : Int} {v : V} (h : Part K H L (.int i) v) : v = .int i := by
  obtain ⟨F, G, r⟩ := h.rp
  simp only [Rp] at r
  exact r.1
theorem Part.bl {H : Hp} {L : List Pr} {i : Bool} {v : V} (h : Part K H L (.bl i) v) : v = .bl i := by
  obtain ⟨F, G, r⟩ := h.rp
  simp only [Rp] at r
  exact r.1
theorem Part.str {H : Hp} {L : List Pr} {i : Str} {v : V} (h : Part K H L (.str i) v) : v = .str i := by
  obtain ⟨F, G, r⟩ := h.rp
  simp only [Rp] at r
  exact r.1
theorem Part.non {H : Hp} {L : List Pr} {v : V} (h : Part K H L .non v) : v = .non := by
  obtain ⟨F, G, r⟩ := h.rp
  simp only [Rp] at r
  exact r.1
theorem Part.seq {H : Hp} {L : List Pr} {d : D} {xs : List D} {v : V} (h : Part K H L d v) (e : d.items = some xs) : ∃ (a : Addr) (vs : List V), v = .ref a ∧ (SqL K H a vs ∨ SqT K H a vs) ∧ SeqV K H v vs ∧ vs.length = xs.length ∧
    ∀ (i : Nat) (y : D), xs[i]? = some y → ∃ w, vs[i]? = some w ∧ Part K H L y w := by
  obtain ⟨F, G, r, n, dj, F0, G0, q, sF, sG⟩ := h
  obtain ⟨vs, F1, G1, sv, rl, s1, s2⟩ := Rp.seq e q
  obtain ⟨a, rfl, hs⟩ := sv.both
  refine ⟨a, vs, rfl, hs, sv, rl.length, fun i y hy => ?_⟩
  obtain ⟨w, F2, G2, ew, qw, t1, t2⟩ := rl.at hy
  exact ⟨w, ew, F, G, r, n, dj, F2, G2, qw, fun z hz => sF z (s1 z (t1 z hz)), fun z hz => sG z (s2 z (t2 z hz))⟩

/-! ### len, items -/
def D.len : D → Option D
  | .tup xs => some (.int xs.length)
  | .lst _ xs => some (.int xs.length)
  | .str z => if z.length ≤ sizeLine then some (.int z.length) else none
  | _ => none
theorem len_flat : Flat1 D.len := fun x d h => by
  cases x <;> simp [D.len] at h
  · obtain ⟨_, rfl⟩ := h; rfl
  · subst h; rfl
  · subst h; rfl
theorem len_g : CallG K (fun xs H Q => ∃ x n, xs = [x] ∧ LenV K x H n ∧ Q (.int n) H) D.len := fun H L x d v Q e pt q => by
  cases x <;> simp [D.len] at e
  · obtain ⟨hz, rfl⟩ := e
    obtain rfl := pt.str
    exact ⟨_, _, rfl, ⟨hz, rfl⟩, q⟩
  · subst e
    obtain ⟨a, vs, rfl, hs, _, ln, _⟩ := pt.seq (by rfl)
    refine ⟨_, _, rfl, ?_, q⟩
    rcases hs with hs | hs
    · exact .inl ⟨vs, hs, ln.symm⟩
    · exact .inr ⟨vs, hs, ln.symm⟩
  · subst e
    obtain ⟨a, vs, rfl, hs, _, ln, _⟩ := pt.seq (by rfl)
    refine ⟨_, _, rfl, ?_, q⟩
    rcases hs with hs | hs
    · exact .inl ⟨vs, hs, ln.symm⟩
    · exact .inr ⟨vs, hs, ln.symm⟩
/-- x[i] of sequences and texts -/
def D.ix : D → D → Option D
  | .tup xs, .int i => atI xs i
  | .lst _ xs, .int i => atI xs i
  | .str z, .int i => if z.length ≤ sizeLine then (atI z.cps.toList i).map fun c => .str ⟨#[c]⟩ else none
  | _, _ => none
theorem atI_some {α : Type} {xs : List α} {i : Int} {y : α} (h : atI xs i = some y) : ∃ j, ixN xs.length i = some j ∧ xs[j]? = some y := by
  unfold atI at h
  exact Option.bind_eq_some_iff.mp h
/-- an item of what is looked at -/
theorem ix_reads {H : Hp} {L : List Pr} {d1 d2 d : D} {v1 v2 : V} {Q : VK} (e : D.ix d1 d2 = some d) (p1 : Part K H L d1 v1) (p2 : Part K H L d2 v2) (q : ∀ v, Part K H L d v → Q v H) : rIx K v1 v2 H Q := by
  cases d2 with
  | int i =>
    obtain rfl := p2.int
    have seqs : ∀ xs, d1.items = some xs → atI xs i = some d → rIx K v1 (.int i) H Q := fun xs e1 e2 => by
      obtain ⟨a, vs, rfl, hs, _, ln, at_⟩ := p1.seq e1
      obtain ⟨j, ej, hj⟩ := atI_some e2
      obtain ⟨w, ew, pw⟩ := at_ j d hj
      have e3 : atI vs i = some w := by
        unfold atI
        rw [ln, ej]
        exact ew
      rcases hs with hs | hs
      · exact .inl ⟨a, vs, i, w, rfl, rfl, hs, e3, q w pw⟩
      · exact .inr (.inl ⟨a, vs, i, w, rfl, rfl, hs, e3, q w pw⟩)
    cases d1 with
    | tup xs => exact seqs xs rfl e
    | lst o xs => exact seqs xs rfl e
    | str z =>
      obtain rfl := p1.str
      simp only [D.ix] at e
      split at e
      · rename_i hz
        obtain ⟨c, ec, rfl⟩ := Option.map_eq_some_iff.mp e
        exact .inr (.inr ⟨z, i, c, rfl, rfl, hz, ec, q _ (p1.live.parts (d := .str ⟨#[c]⟩) rfl)⟩)
      · cases e
    | non => simp [D.ix] at e
    | bl _ => simp [D.ix] at e
    | int _ => simp [D.ix] at e
    | ref _ => simp [D.ix] at e
    | dct _ _ _ => simp [D.ix] at e
    | scr _ => simp [D.ix] at e
  | non => cases d1 <;> simp [D.ix] at e
  | bl _ => cases d1 <;> simp [D.ix] at e
  | str _ => cases d1 <;> simp [D.ix] at e
  | ref _ => cases d1 <;> simp [D.ix] at e
  | tup _ => cases d1 <;> simp [D.ix] at e
  | lst _ _ => cases d1 <;> simp [D.ix] at e
  | dct _ _ _ => cases d1 <;> simp [D.ix] at e
  | scr _ => cases d1 <;> simp [D.ix] at e
theorem gq_ix {p q : Env → Option D} (ha : GQ X a p) (hb : GQ X b q) (hs : PlainIx b) : GQ X (.Subscript a b pos) (pOp D.ix p q) :=
  (pe_ix ix_seq ha hb hs).to fun σ H Q k => by
    obtain ⟨env, C, cov, lv, d, ed, k⟩ := k
    unfold pOp at ed
    obtain ⟨x, ex, ed⟩ := Option.bind_eq_some_iff.mp ed
    obtain ⟨y, ey, ed⟩ := Option.bind_eq_some_iff.mp ed
    exact ⟨env, C, cov, lv, x, ex, fun v1 p1 => ⟨env, C, cov, p1.live, y, ey, fun v2 p2 => ix_reads ed p1 p2 k⟩⟩
/-- an item of a value had: the rest is let go; the item must own nothing -/
def ixA : D → D → Option D := fun x y => (D.ix x y).bind fun d => if d.isFrz = true then some d else none
theorem ix_a : OpA K (rIx K) ixA := fun H L d1 d2 d v1 v2 Q e lv q => by
  unfold ixA at e
  obtain ⟨y, ey, e⟩ := Option.bind_eq_some_iff.mp e
  split at e
  · rename_i f
    cases e
    have p2 := Live.part lv
    have p1 := (Live.part (lv.perm (List.Perm.swap _ _ _))).perm (List.Perm.swap _ _ _)
    refine ix_reads ey p1 p2 fun v pt => q v H ?_
    have l3 := pt.add f
    exact LiveX.dropL (M := [(d2, v2), (d1, v1)]) (l3.perm ((List.Perm.swap _ _ _).trans ((List.Perm.swap _ _ _).cons _)))
  · cases e
theorem ge_ix {m n : M D} (ha : GE X E a m) (hb : GE X E b n) (hs : PlainIx b) : GE X E (.Subscript a b pos) (mOp ixA m n) :=
  (pe_ix ix_seq ha hb hs).to fun _ _ _ => op_reads ix_a

/-! ### displays -/
def mTup (ms : M (List D)) : M D := ms.andThen fun ds => if ds.length ≤ 1000 then M.ret (.tup ds) else M.stop
def mLst (ms : M (List D)) : M D := ms.andThen fun ds => if ds.length ≤ 1000 then M.ret (.lst true ds) else M.stop
theorem le_line {n : Nat} (h : n ≤ 1000) : n ≤ sizeLine := Nat.le_of_lt (small1000 h)
theorem ge_tup {x1} {ms : M (List D)} (h : GA X E es ms) : GE X E (.Tuple es x1 pos) (mTup ms) := (pe_tup h).to fun σ H Q k => by
  obtain ⟨env, C, cov, lv, q⟩ := k
  refine ⟨env, C, cov, lv, ?_⟩
  unfold mTup M.andThen at q
  cases o : ms env with
  | exc z e' => rw [o] at q; exact q
  | bad => rw [o] at q; exact q
  | ok xs e1 =>
    rw [o] at q
    intro vs H1 hl c1 l1
    by_cases hz : xs.length ≤ 1000
    · simp only [hz, if_true] at q
      exact ⟨by rw [hl]; exact le_line hz, fun p np => q (.ref p) _ c1 (LiveX.newT np (by simp) (le_line hz) hl l1)⟩
    · simp only [hz, if_false] at q
      exact False.elim q
theorem ge_lst {ms : M (List D)} (h : GA X E es ms) : GE X E (.List es pos) (mLst ms) := (pe_lst h).to fun σ H Q k => by
  obtain ⟨env, C, cov, lv, q⟩ := k
  refine ⟨env, C, cov, lv, ?_⟩
  unfold mLst M.andThen at q
  cases o : ms env with
  | exc z e' => rw [o] at q; exact q
  | bad => rw [o] at q; exact q
  | ok xs e1 =>
    rw [o] at q
    intro vs H1 hl c1 l1
    by_cases hz : xs.length ≤ 1000
    · simp only [hz, if_true] at q
      exact ⟨by rw [hl]; exact le_line hz, fun p np => q (.ref p) _ c1 (LiveX.newL np (by simp) (le_line hz) hl l1)⟩
    · simp only [hz, if_false] at q
      exact False.elim q

/-! ### plain operators on ints -/
def gI (C : Int → Int → Prop) [∀ i j, Decidable (C i j)] (f : Int → Int → D) : D → D → Option D
  | .int i, .int j => if C i j then some (f i j) else none
  | _, _ => none
def gI0 (f : Int → Int → D) : D → D → Option D
  | .int i, .int j => some (f i j)
  | _, _ => none
theorem gI0_flat {f : Int → Int → D} (h : ∀ i j, (f i j).flat = true) : FlatG (gI0 f) := fun x y d e => by
  cases x <;> cases y <;> simp [gI0] at e
  subst e
  exact h _ _
theorem gI_flat {C : Int → Int → Prop} [∀ i j, Decidable (C i j)] {f : Int → Int → D} (h : ∀ i j, (f i j).flat = true) : FlatG (gI C f) := fun x y d e => by
  cases x <;> cases y <;> simp [gI] at e
  obtain ⟨_, rfl⟩ := e
  exact h _ _
theorem rI0_g {f : Int → Int → D} : OpG K (rI0 fun i j => (f i j).val) (gI0 f) := fun H L d1 d2 d v1 v2 Q e p1 p2 q => by
  cases d1 <;> cases d2 <;> simp [gI0] at e
  subst e
  obtain rfl := p1.int
  obtain rfl := p2.int
  exact ⟨_, _, rfl, rfl, q⟩
theorem rI_g {C : Int → Int → Prop} [∀ i j, Decidable (C i j)] {f : Int → Int → D} : OpG K (rI C fun i j => (f i j).val) (gI C f) := fun H L d1 d2 d v1 v2 Q e p1 p2 q => by
  cases d1 <;> cases d2 <;> simp [gI] at e
  obtain ⟨hc, rfl⟩ := e
  obtain rfl := p1.int
  obtain rfl := p2.int
  exact ⟨_, _, rfl, rfl, hc, q⟩
/-! ### lists put together -/
def gCat : D → D → Option D
  | .lst _ xs, .lst _ ys => if xs.length + ys.length ≤ sizeLine then some (.lst true (xs ++ ys)) else none
  | _, _ => none
/-- a list's items without its cell -/
theorem LiveX.unl {H : Hp} {ex : List Addr} {L : List Pr} {o : Bool} {xs : List D} {v : V} (h : LiveX K H ex ((.lst o xs, v) :: L)) : ∃ a vs, v = .ref a ∧ xs.length ≤ sizeLine ∧ H a = some (.lst vs) ∧ vs.length = xs.length ∧ LiveX K H ex (xs.zip vs ++ L) := by
  obtain ⟨F, G, r, n, dj, x⟩ := h
  obtain ⟨F1, F2, G1, G2, rfl, rfl, h1, h2⟩ := RpL.cons_iff.mp r
  have fin : ∀ (a : Addr) (vs : List V) (F' G' : List Addr), RpL K H xs vs F' G' → (∀ b ∈ F', b ∈ F1) → (∀ b ∈ G', b ∈ G1) → F'.Nodup → LiveX K H ex (xs.zip vs ++ L) := fun a vs F' G' hl s1 s2 nd => by
    have ln := hl.length
    have q := List.nodup_append.mp n
    refine ⟨F' ++ F2, G' ++ G2, ?_, List.nodup_append.mpr ⟨nd, q.2.1, fun z hz w hw => q.2.2 z (s1 z hz) w hw⟩, fun z hz hg => ?_, fun z hz => ⟨fun y => ?_, fun y => ?_⟩⟩
    · rw [List.map_append, List.map_append, zip_fst ln, zip_snd ln]
      exact hl.append h2
    · refine dj z ?_ ?_
      · rcases List.mem_append.mp hz with hz | hz
        · exact List.mem_append_left _ (s1 z hz)
        · exact List.mem_append_right _ hz
      · rcases List.mem_append.mp hg with hg | hg
        · exact List.mem_append_left _ (s2 z hg)
        · exact List.mem_append_right _ hg
    · refine (x z hz).1 ?_
      rcases List.mem_append.mp y with y | y
      · exact List.mem_append_left _ (s1 z y)
      · exact List.mem_append_right _ y
    · refine (x z hz).2 ?_
      rcases List.mem_append.mp y with y | y
      · exact List.mem_append_left _ (s2 z y)
      · exact List.mem_append_right _ y
  cases o with
  | true =>
    simp only [Rp] at h1
    obtain ⟨a, vs, F', rfl, zl, ha, rfl, hl⟩ := h1
    exact ⟨a, vs, rfl, zl, ha, hl.length, fin a vs F' G1 hl (fun b hb => List.mem_cons_of_mem _ hb) (fun b hb => hb) ((List.nodup_cons.mp (List.nodup_append.mp n).1).2)⟩
  | false =>
    simp only [Rp] at h1
    obtain ⟨a, vs, G', rfl, zl, ha, rfl, rfl, hl⟩ := h1
    exact ⟨a, vs, rfl, zl, ha, hl.length, fin a vs [] G' hl (fun b hb => hb) (fun b hb => List.mem_cons_of_mem _ hb) List.nodup_nil⟩
theorem LiveX.unt {H : Hp} {ex : List Addr} {L : List Pr} {xs : List D} {v : V} (h : LiveX K H ex ((.tup xs, v) :: L)) : ∃ a vs, v = .ref a ∧ xs.length ≤ sizeLine ∧ SqT K H a vs ∧ vs.length = xs.length ∧ LiveX K H ex (xs.zip vs ++ L) := by
  obtain ⟨F, G, r, n, dj, x⟩ := h
  obtain ⟨F1, F2, G1, G2, rfl, rfl, h1, h2⟩ := RpL.cons_iff.mp r
  simp only [Rp] at h1
  obtain ⟨a, vs, G', rfl, zl, hl, q⟩ := h1
  have ln := hl.length
  have sub : ∀ b ∈ G', b ∈ G1 := by
    rcases q with ⟨_, rfl⟩ | ⟨_, rfl⟩
    · exact fun b hb => List.mem_cons_of_mem _ hb
    · exact fun b hb => hb
  refine ⟨a, vs, rfl, zl, ?_, ln, F1 ++ F2, G' ++ G2, ?_, n, fun z hz hg => dj z hz ?_, fun z hz => ⟨(x z hz).1, fun y => (x z hz).2 ?_⟩⟩
  · rcases q with ⟨q, _⟩ | ⟨q, _⟩
    · exact .inl q
    · exact .inr q
  · rw [List.map_append, List.map_append, zip_fst ln, zip_snd ln]
    exact hl.append h2
  · rcases List.mem_append.mp hg with hg | hg
    · exact List.mem_append_left _ (sub z hg)
    · exact List.mem_append_right _ hg
  · rcases List.mem_append.mp y with y | y
    · exact List.mem_append_left _ (sub z y)
    · exact List.mem_append_right _ y
theorem zip_app {xs ys : List D} {vs ws : List V} (h : vs.length = xs.length) : (xs ++ ys).zip (vs ++ ws) = xs.zip vs ++ ys.zip ws := List.zip_append h.symm
theorem cat_a : OpA K rCat gCat := fun H L d1 d2 d v1 v2 Q e lv q => by
  cases d1 <;> cases d2 <;> simp [gCat] at e
  rename_i o1 xs o2 ys
  obtain ⟨hz, rfl⟩ := e
  obtain ⟨b, ws, rfl, _, hb, lb, l2⟩ := lv.unl
  obtain ⟨a, vs, rfl, _, ha, la, l3⟩ := (l2.perm List.perm_middle).unl
  refine ⟨a, b, vs, ws, rfl, rfl, ha, hb, by omega, fun p np => q (.ref p) _ (LiveX.newL np (by simp) (by simpa using hz) (by simp [la, lb]) ?_)⟩
  rw [zip_app la]
  refine l3.perm ?_
  rw [List.append_assoc]
/-- a list's items over and over: they are frozen -/
def gRep : D → D → Option D
  | .lst _ xs, .int k => if -(2 ^ 63) ≤ k ∧ k < 2 ^ 63 ∧ xs.length * k.toNat ≤ sizeLine then some (.lst true (List.replicate k.toNat (D.frzL xs)).flatten) else none
  | _, _ => none
theorem LiveX.frzAll {H : Hp} {ex : List Addr} {L : List Pr} : ∀ {xs : List D} {vs : List V}, vs.length = xs.length → LiveX K H ex (xs.zip vs ++ L) → LiveX K H ex ((D.frzL xs).zip vs ++ L)
  | [], vs, _, h => by simpa [D.frzL] using h
  | x :: xs, [], l, _ => by simp at l
  | x :: xs, v :: vs, l, h => by
    have h1 : LiveX K H ex ((x, v) :: (xs.zip vs ++ L)) := h
    have h2 : LiveX K H ex (xs.zip vs ++ (x.frz, v) :: L) := (LiveX.froze h1).perm List.perm_middle.symm
    have h3 := LiveX.frzAll (xs := xs) (vs := vs) (by simpa using l) h2
    simp only [D.frzL]
    exact h3.perm List.perm_middle
theorem D.frz_isFrz : ∀ d : D, d.frz.isFrz = true := by
  have both : ∀ n : Nat, (∀ d : D, sizeOf d ≤ n → d.frz.isFrz = true) ∧ ∀ xs : List D, sizeOf xs ≤ n → D.allFrz (D.frzL xs) = true := by
    intro n
    induction n with
    | zero =>
      refine ⟨fun d h => ?_, fun xs h => ?_⟩
      · cases d <;> simp at h
      · cases xs <;> simp at h
    | succ n ih =>
      refine ⟨fun d h => ?_, fun xs h => ?_⟩
      · cases d with
        | tup xs => simp only [D.frz, D.isFrz]; exact ih.2 xs (by simp at h; omega)
        | lst o xs => simp only [D.frz, D.isFrz, Bool.not_false, Bool.true_and]; exact ih.2 xs (by simp at h; omega)
        | dct o ks vs => simp only [D.frz, D.isFrz, Bool.not_false, Bool.true_and]; exact ih.2 vs (by simp at h; omega)
        | scr ns => simp only [D.frz, D.isFrz]
        | non => simp [D.frz, D.isFrz]
        | bl _ => simp [D.frz, D.isFrz]
        | int _ => simp [D.frz, D.isFrz]
        | str _ => simp [D.frz, D.isFrz]
        | ref _ => simp [D.frz, D.isFrz]
      · cases xs with
        | nil => simp [D.frzL, D.allFrz]
        | cons x xs =>
          simp only [D.frzL, D.allFrz, Bool.and_eq_true]
          exact ⟨ih.1 x (by simp at h; omega), ih.2 xs (by simp at h; omega)⟩
  exact fun d => (both _).1 d (Nat.le_refl _)
theorem D.frzL_allFrz (xs : List D) : D.allFrz (D.frzL xs) = true := by
  induction xs with
  | nil => simp [D.frzL, D.allFrz]
  | cons x xs ih => simp [D.frzL, D.allFrz, D.frz_isFrz, ih]
/-- frozen things may be had once more -/
theorem LiveX.again {H : Hp} {ex : List Addr} {L : List Pr} : ∀ {xs : List D} {vs : List V}, vs.length = xs.length → D.allFrz xs = true → LiveX K H ex (xs.zip vs ++ L) → LiveX K H ex (xs.zip vs ++ (xs.zip vs ++ L))
  | [], vs, _, _, h => by simpa using h
  | x :: xs, [], l, _, _ => by simp at l
  | x :: xs, v :: vs, l, f, h => by
    simp only [D.allFrz, Bool.and_eq_true] at f
    have h1 : LiveX K H ex ((x, v) :: (xs.zip vs ++ L)) := h
    have h2 := LiveX.dup h1
    rw [D.frz_of f.1] at h2
    have h3 : LiveX K H ex (xs.zip vs ++ (x, v) :: (x, v) :: L) := h2.perm (((List.perm_middle).symm.cons _).trans (List.perm_middle).symm)
    have h4 := LiveX.again (xs := xs) (vs := vs) (by simpa using l) f.2 h3
    show LiveX K H ex ((x, v) :: (xs.zip vs ++ ((x, v) :: (xs.zip vs ++ L))))
    refine h4.perm ?_
    have p1 : (xs.zip vs ++ (xs.zip vs ++ (x, v) :: (x, v) :: L)).Perm (xs.zip vs ++ ((x, v) :: (xs.zip vs ++ (x, v) :: L))) := (List.perm_middle).append_left _
    have p2 : (xs.zip vs ++ ((x, v) :: (xs.zip vs ++ (x, v) :: L))).Perm ((x, v) :: (xs.zip vs ++ (xs.zip vs ++ (x, v) :: L))) := List.perm_middle
    have p3 : (xs.zip vs ++ (xs.zip vs ++ (x, v) :: L)).Perm (xs.zip vs ++ ((x, v) :: (xs.zip vs ++ L))) := (List.perm_middle).append_left _
    exact p1.trans (p2.trans (p3.cons _))
theorem LiveX.many {H : Hp} {ex : List Addr} {L : List Pr} {xs : List D} {vs : List V} (l : vs.length = xs.length) (f : D.allFrz xs = true) (h : LiveX K H ex (xs.zip vs ++ L)) : ∀ n : Nat, LiveX K H ex ((List.replicate n xs).flatten.zip (List.replicate n vs).flatten ++ (xs.zip vs ++ L))
  | 0 => by simpa using h
  | n + 1 => by
    have ih := LiveX.many l f h n
    have p : (xs.zip vs ++ ((List.replicate n xs).flatten.zip (List.replicate n vs).flatten ++ L)).Perm ((List.replicate n xs).flatten.zip (List.replicate n vs).flatten ++ (xs.zip vs ++ L)) := by
      rw [← List.append_assoc, ← List.append_assoc]
      exact List.perm_append_comm.append_right _
    have h2 := LiveX.again l f (ih.perm p.symm)
    simp only [List.replicate_succ, List.flatten_cons]
    rw [zip_app l, List.append_assoc]
    exact h2.perm (p.append_left _)
theorem rep_len {α : Type} {n : Nat} {xs : List α} : ((List.replicate n xs).flatten).length = n * xs.length := by simp
theorem frzL_len (xs : List D) : (D.frzL xs).length = xs.length := by rw [D.frzL_map]; simp
theorem rep_a : OpA K rRep gRep := fun H L d1 d2 d v1 v2 Q e lv q => by
  cases d1 <;> cases d2 <;> simp [gRep] at e
  rename_i o xs k
  obtain ⟨⟨h1, h2, hz⟩, rfl⟩ := e
  obtain ⟨F, G, r2⟩ := LiveX.look lv
  simp only [Rp] at r2
  obtain ⟨rfl, _, _⟩ := r2
  obtain ⟨a, vs, rfl, _, ha, la, l3⟩ := (LiveX.drop lv).unl
  have l4 := LiveX.frzAll la l3
  have lf : vs.length = (D.frzL xs).length := by rw [frzL_len]; exact la
  have l5 := LiveX.many lf (D.frzL_allFrz xs) l4 k.toNat
  refine ⟨a, k, vs, rfl, rfl, ha, by omega, by omega, by rw [la]; exact hz, fun p np => q (.ref p) _ (LiveX.newL np (by simp) ?_ ?_ ?_)⟩
  · rw [rep_len, frzL_len, Nat.mul_comm]; exact hz
  · rw [rep_len, rep_len, lf]
  · refine LiveX.dropL (M := (D.frzL xs).zip vs) (l5.perm ?_)
    rw [← List.append_assoc, ← List.append_assoc]
    exact List.perm_append_comm.append_right _
end
end DL
/-! One lemma a construct: statements, loops. -/
namespace DL
open PySem PySem.Spec PyProof.Rows L2

section
variable {X : Cx} {E : XD} {R : Nat → Bool} {e a b c : Expr} {es : List Expr} {st : Stmt} {rest : List Stmt} {pos p : Pos} {K : PySem.W.Frag}

theorem RestS.move {σ σ' : St} {C : List Pr} {D : Ends} {o : Out Flow} (k : Keep R σ σ') (h : RestS K E R σ C D o) : RestS K E R σ' C D o := by
  cases o with
  | bad => exact h
  | exc x e' => exact fun τ H' c k' l => h τ H' c (k.trans k') l
  | ok f e' =>
    cases f with
    | nx => exact fun τ H' c k' l => h τ H' c (k.trans k') l
    | bk => exact fun τ H' c k' l => h τ H' c (k.trans k') l
    | ct => exact fun τ H' c k' l => h τ H' c (k.trans k') l
    | rt d => exact fun v τ H' c k' l => h v τ H' c (k.trans k') l
/-- what is held besides may grow -/
theorem RestS.more {σ : St} {C C0 : List Pr} {D : Ends} {o : Out Flow} (h : RestS K E R σ C D o) : RestS K E R σ (C0 ++ C) D o := by
  have dr : ∀ {H : Hp} {M : List Pr}, Live K H (M ++ (C0 ++ C)) → Live K H (M ++ C) := fun {H M} l => by
    refine LiveX.dropL (M := C0) (l.perm ?_)
    rw [← List.append_assoc, ← List.append_assoc]
    exact List.perm_append_comm.append_right _
  cases o with
  | bad => exact h
  | exc x e' => exact fun τ H' c k' l => h τ H' c k' (dr l)
  | ok f e' =>
    cases f with
    | nx => exact fun τ H' c k' l => h τ H' c k' (dr l)
    | bk => exact fun τ H' c k' l => h τ H' c k' (dr l)
    | ct => exact fun τ H' c k' l => h τ H' c k' (dr l)
    | rt d => exact fun v τ H' c k' l => h v τ H' c k' (dr (M := (d, v) :: slots τ e') l)

/-! ### blocks -/
def mNext : M Flow := M.ret .nx
def mSeq (m n : M Flow) : M Flow := m.andThen fun f => match f with
  | .nx => n
  | .bk => M.ret .bk
  | .ct => M.ret .ct
  | .rt d => M.ret (.rt d)
theorem gss_nil : GSs X E R [] mNext := pss_nil.to fun D σ H k => by
  obtain ⟨env, C, cov, lv, q⟩ := k
  exact q σ H cov Keep.refl lv
theorem gss_cons {m n : M Flow} (h1 : GS X E R st m) (h2 : GSs X E R rest n) : GSs X E R (st :: rest) (mSeq m n) := (pss_cons h1 h2).to fun D σ H k => by
  obtain ⟨env, C, cov, lv, q⟩ := k
  refine ⟨env, C, cov, lv, ?_⟩
  unfold mSeq M.andThen at q
  cases o : m env with
  | bad => rw [o] at q; exact q
  | exc x e' => rw [o] at q; exact q
  | ok f e' =>
    rw [o] at q
    cases f with
    | nx => exact fun σ' H' c k' l => ⟨e', C, c, l, q.move k'⟩
    | bk => exact q
    | ct => exact q
    | rt d => exact q
theorem gss_one {m : M Flow} (h1 : GS X E R st m) : GSs X E R [st] m := pss_one h1

/-! ### simple statements -/
/-- an expression's outcome, then f -/
theorem rdS_expr {m : M D} {f : D → M Flow} {t : TS} {σ : St} {H : Hp} {D : Ends} (h : rdS K E R (m.andThen f) D σ H) :
    rdE K E m σ H fun v H1 => ∃ e1 C x, Cov σ e1 ∧ Live K H1 ((x, v) :: (slots σ e1 ++ C)) ∧ RestS K E R σ C D (f x e1) := by
  obtain ⟨env, C, cov, lv, q⟩ := h
  refine ⟨env, C, cov, lv, ?_⟩
  unfold M.andThen at q
  cases o : m env with
  | bad => rw [o] at q; exact q
  | exc x e' => rw [o] at q; exact fun H' c l => q σ H' c Keep.refl l
  | ok x e' => rw [o] at q; exact fun v H' c l => ⟨e', C, x, c, l, q⟩
def mDrop (m : M D) : M Flow := m.andThen fun _ => mNext
theorem gs_expr {m : M D} (he : GE X E e m) (hs : swapsWith e none pos.line X.env = pure false := by rfl) : GS X E R (.Expr e pos) (mDrop m) := (ps_expr he hs).to fun D σ H k => by
  obtain ⟨env, C, cov, lv, q⟩ := rdS_expr (t := tNext) k
  refine ⟨env, C, cov, lv, ?_⟩
  cases o : m env with
  | bad => rw [o] at q; exact q
  | exc x e' => rw [o] at q; exact q
  | ok x e' =>
    rw [o] at q
    intro v H' c l
    obtain ⟨e1, C1, x1, c1, l1, q1⟩ := q v H' c l
    exact q1 σ H' c1 Keep.refl (LiveX.drop l1)
def mRet (m : M D) : M Flow := m.andThen fun d => M.ret (.rt d)
theorem gs_ret {m : M D} (he : GE X E e m) : GS X E R (.Return (some e) pos) (mRet m) := (ps_ret he).to fun D σ H k => by
  obtain ⟨env, C, cov, lv, q⟩ := rdS_expr (t := tNext) k
  refine ⟨env, C, cov, lv, ?_⟩
  cases o : m env with
  | bad => rw [o] at q; exact q
  | exc x e' => rw [o] at q; exact q
  | ok x e' =>
    rw [o] at q
    intro v H' c l
    obtain ⟨e1, C1, x1, c1, l1, q1⟩ := q v H' c l
    exact q1 v σ H' c1 Keep.refl l1
theorem gs_retN : GS X E R (.Return none pos) (M.ret (.rt .non)) := ps_retN.to fun D σ H k => by
  obtain ⟨env, C, cov, lv, q⟩ := k
  exact q .non σ H cov Keep.refl (Live.flat (d := .non) lv rfl)
theorem gs_never : GS X E R st M.stop := ps_never.to fun D σ H k => by
  obtain ⟨env, C, cov, lv, q⟩ := k
  exact q
theorem gss_never : GSs X E R rest M.stop := pss_never.to fun D σ H k => by
  obtain ⟨env, C, cov, lv, q⟩ := k
  exact q
theorem gs_pass : GS X E R (.Pass pos) mNext := ps_pass.to fun D σ H k => by
  obtain ⟨env, C, cov, lv, q⟩ := k
  exact q σ H cov Keep.refl lv
theorem gs_cont : GS X E R (.Continue pos) (M.ret .ct) := ps_continue.to fun D σ H k => by
  obtain ⟨env, C, cov, lv, q⟩ := k
  exact q σ H cov Keep.refl lv
theorem gs_break : GS X E R (.Break pos) (M.ret .bk) := ps_break.to fun D σ H k => by
  obtain ⟨env, C, cov, lv, q⟩ := k
  exact q σ H cov Keep.refl lv
def mIf (t : M Bool) (m n : M Flow) : M Flow := t.andThen fun b => if b = true then m else n
theorem gs_if {t : M Bool} {xs ys : List Stmt} {m n : M Flow} (hc : GB X E c t) (ha : GSs X E R xs m) (hb : GSs X E R ys n) : GS X E R (.If c xs ys pos) (mIf t m n) := (ps_if hc ha hb).to fun D σ H k => by
  obtain ⟨env, C, cov, lv, q⟩ := k
  refine ⟨env, C, cov, lv, ?_⟩
  unfold mIf M.andThen at q
  cases o : t env with
  | bad => rw [o] at q; exact q
  | exc x e' => rw [o] at q; exact fun H' c l => q σ H' c Keep.refl l
  | ok x e' =>
    rw [o] at q
    intro H' cv l
    cases x with
    | true => exact ⟨e', C, cv, l, q⟩
    | false => exact ⟨e', C, cv, l, q⟩
def mIfE (t : M Bool) (m n : M D) : M D := t.andThen fun b => if b = true then m else n
theorem ge_if {t : M Bool} {m n : M D} (hc : GB X E c t) (ha : GE X E a m) (hb : GE X E b n) : GE X E (.IfExp c a b pos) (mIfE t m n) := (pe_ifExp hc ha hb).to fun σ H Q k => by
  obtain ⟨env, C, cov, lv, q⟩ := k
  refine ⟨env, C, cov, lv, ?_⟩
  unfold mIfE M.andThen at q
  cases o : t env with
  | bad => rw [o] at q; exact q
  | exc x e' => rw [o] at q; exact q
  | ok x e' =>
    rw [o] at q
    intro H' cv l
    cases x with
    | true => exact ⟨e', C, cv, l, q⟩
    | false => exact ⟨e', C, cv, l, q⟩

/-! ### targets -/
abbrev Tgt := D → Env → Option Env
abbrev Tgts := List D → Env → Option Env
def rdG (K : PySem.W.Frag) (R : Nat → Bool) (g : Tgt) : TG := fun v σ H Q => ∃ e C d, Cov σ e ∧ Live K H ((d, v) :: (slots σ e ++ C)) ∧ ∃ e', g d e = some e' ∧ ∀ σ' H', Cov σ' e' → Keep R σ σ' → Live K H' (slots σ' e' ++ C) → Q σ' H'
def rdGs (K : PySem.W.Frag) (R : Nat → Bool) (g : Tgts) : TGs := fun vs σ H Q => ∃ e C ds, vs.length = ds.length ∧ Cov σ e ∧ Live K H (ds.zip vs ++ (slots σ e ++ C)) ∧ ∃ e', g ds e = some e' ∧ ∀ σ' H', Cov σ' e' → Keep R σ σ' → Live K H' (slots σ' e' ++ C) → Q σ' H'
abbrev GG (X : Cx) (R : Nat → Bool) (tg : Expr) (g : Tgt) : Prop := PG X tg (rdG X.K R g)
abbrev GGs (X : Cx) (R : Nat → Bool) (tg : List Expr) (g : Tgts) : Prop := PGs X tg (rdGs X.K R g)
theorem _root_.L2.PG.to {tg : Expr} {t t' : TG} (h : PG X tg t) (i : ∀ v σ H Q, t' v σ H Q → t v σ H Q) : PG X tg t' := ⟨fun pins s σ H v u Q I r q => h.run pins s σ H v u Q I r (i _ _ _ _ q)⟩
theorem _root_.L2.PGs.to {tg : List Expr} {t t' : TGs} (h : PGs X tg t) (i : ∀ v σ H Q, t' v σ H Q → t v σ H Q) : PGs X tg t' := ⟨fun pins s σ H v u Q I r q => h.run pins s σ H v u Q I r (i _ _ _ _ q)⟩
def gN (i : Nat) : Tgt := fun d e => some (e.set i (some d))
theorem live_store {H : Hp} {σ : St} {env : Env} {C : List Pr} {i : Nat} {d : D} {v : V} (cov : Cov σ env) (h : Live K H ((d, v) :: (slots σ env ++ C))) : Live K H (slots (σ.set i (some v)) (env.set i (some d)) ++ C) := by
  by_cases hi : i < env.length
  · have l2 : Live K H ((d, v) :: (slots σ (env.set i none) ++ C)) := by
      have := LiveX.lose cov i (C := (d, v) :: C) (h.perm List.perm_middle.symm)
      exact this.perm List.perm_middle
    exact l2.perm ((slots_store cov.1 hi).symm.append_right C)
  · rw [List.set_eq_of_length_le (by rw [cov.1]; omega), List.set_eq_of_length_le (by omega)]
    exact LiveX.drop h
theorem gg_name {i : Nat} {tg : Expr} (h : PG X tg (gName i)) (hr : R i = false := by rfl) : GG X R tg (gN i) := h.to fun v σ H Q k => by
  obtain ⟨env, C, d, cov, lv, e', ee, q⟩ := k
  cases ee
  exact q _ H (cov.store i v d) (Keep.set hr) (live_store cov lv)
def gNilD : Tgts := fun ds e => match ds with
  | [] => some e
  | _ => none
def gConsD (g : Tgt) (h : Tgts) : Tgts := fun ds e => match ds with
  | d :: ds => (g d e).bind (h ds)
  | [] => none
theorem ggs_nil : GGs X R [] gNilD := pgs_nil.to fun vs σ H Q k => by
  obtain ⟨env, C, ds, ln, cov, lv, e', ee, q⟩ := k
  cases ds with
  | cons d ds => simp [gNilD] at ee
  | nil =>
    simp only [gNilD, Option.some.injEq] at ee
    subst ee
    exact ⟨List.length_eq_zero_iff.mp ln, q σ H cov Keep.refl lv⟩
theorem ggs_cons {tg : Expr} {tgs : List Expr} {g : Tgt} {h : Tgts} (h1 : GG X R tg g) (h2 : GGs X R tgs h) (hs : (assignEach (tg :: tgs) X.env).map (·.2) = assign tg X.env :: (assignEach tgs X.env).map (·.2) := by rfl) : GGs X R (tg :: tgs) (gConsD g h) := (pgs_cons h1 h2 hs).to fun vs σ H Q k => by
  obtain ⟨env, C, ds, ln, cov, lv, e', ee, q⟩ := k
  cases ds with
  | nil => simp [gConsD] at ee
  | cons d ds =>
    cases vs with
    | nil => simp at ln
    | cons v vs =>
      simp only [gConsD] at ee
      obtain ⟨e1, g1, ee⟩ := Option.bind_eq_some_iff.mp ee
      refine ⟨v, vs, rfl, env, ds.zip vs ++ C, d, cov, ?_, e1, g1, fun σ' H' c' k' l' => ?_⟩
      · refine LiveX.perm (show Live X.K H ((d, v) :: (ds.zip vs ++ (slots σ env ++ C))) from lv) (List.Perm.cons _ ?_)
        rw [← List.append_assoc, ← List.append_assoc]
        exact List.perm_append_comm.append_right _
      · refine ⟨e1, C, ds, by simpa using ln, c', ?_, e', ee, fun σ2 H2 c2 k2 l2 => q σ2 H2 c2 (k'.trans k2) l2⟩
        refine l'.perm ?_
        rw [← List.append_assoc, ← List.append_assoc]
        exact List.perm_append_comm.append_right _
def gT (n : Nat) (g : Tgts) : Tgt := fun d e => match d with
  | .tup ds => if ds.length = n then g ds e else none
  | _ => none
theorem gg_tup {k n : Nat} {g : Tgts} (hc : X.calm = true) (h : GGs X R es g) (hn : (assignEach es X.env).length = n := by rfl) (hst : (assignEach es X.env).findIdx? (·.1) = none := by rfl) : GG X R (.Tuple es k pos) (gT n g) := (pg_tup hc h hn hst).to fun v σ H Q k => by
  obtain ⟨env, C, d, cov, lv, e', ee, q⟩ := k
  cases d with
  | tup ds =>
    simp only [gT] at ee
    split at ee
    · rename_i hl
      obtain ⟨ad, vs, rfl, _, hs, ln, l2⟩ := lv.unt
      exact ⟨ad, vs, rfl, hs, by rw [ln, hl], env, C, ds, ln, cov, l2, e', ee, q⟩
    · cases ee
  | non => simp [gT] at ee
  | bl _ => simp [gT] at ee
  | int _ => simp [gT] at ee
  | str _ => simp [gT] at ee
  | ref _ => simp [gT] at ee
  | lst _ _ => simp [gT] at ee
  | dct _ _ _ => simp [gT] at ee
  | scr _ => simp [gT] at ee
def M.put (g : Tgt) (d : D) : M Flow := fun e => match g d e with
  | some e' => .ok .nx e'
  | none => .bad
def mAsg (m : M D) (g : Tgt) : M Flow := m.andThen fun d => M.put g d
theorem asg_reads {m : M D} {g : Tgt} {D : Ends} {σ : St} {H : Hp} (k : rdS K E R (mAsg m g) D σ H) : rdE K E m σ H fun v H1 => rdG K R g v σ H1 D.nx := by
  obtain ⟨env, C, cov, lv, q⟩ := rdS_expr (t := tNext) k
  refine ⟨env, C, cov, lv, ?_⟩
  cases o : m env with
  | bad => rw [o] at q; exact q
  | exc x e' => rw [o] at q; exact q
  | ok x e' =>
    rw [o] at q
    intro v H' c l
    obtain ⟨e1, C1, x1, c1, l1, q1⟩ := q v H' c l
    unfold M.put at q1
    cases o2 : g x1 e1 with
    | none => rw [o2] at q1; exact q1.elim
    | some e2 =>
      rw [o2] at q1
      exact ⟨e1, C1, x1, c1, l1, e2, o2, q1⟩
theorem gs_asg {tg : Expr} {m : M D} {g : Tgt} (he : GE X E e m) (hg : GG X R tg g) (hs : swapsWithSole [tg] e pos.line X.env = pure false := by rfl) (hw : swappedStores [tg] e X.env = pure none := by rfl)
    (h1 : (assignEach [tg] X.env).map (·.2) = [assign tg X.env] := by rfl) : GS X E R (.Assign [tg] e pos) (mAsg m g) := (ps_asg he hg hs hw h1).to fun D σ H k => asg_reads k
/-- name = e -/
theorem gs_set {i : Nat} {x : Str} {pos' : Pos} {m : M D} (h : ∀ {te : TE}, PE X e te → PS X (.Assign [.Name x pos'] e pos) (tAsg te (gName i))) (he : GE X E e m) (hr : R i = false := by rfl) : GS X E R (.Assign [.Name x pos'] e pos) (mAsg m (gN i)) := (h he).to fun D σ H k => by
  obtain ⟨env, C, cov, lv, q⟩ := asg_reads k
  refine ⟨env, C, cov, lv, ?_⟩
  cases o : m env with
  | bad => rw [o] at q; exact q
  | exc x e' => rw [o] at q; exact q
  | ok y e' =>
    rw [o] at q
    intro v H' c l
    obtain ⟨e1, C1, d, c1, l1, e2, ee, q1⟩ := q v H' c l
    cases ee
    exact q1 _ H' (c1.store i v d) (Keep.set hr) (live_store c1 l1)
/-- two names at once -/
def mPar (i j : Nat) (ms : M (List D)) : M Flow := ms.andThen fun ds => fun e => match ds with
  | [x, y] => .ok .nx ((e.set i (some x)).set j (some y))
  | _ => .bad
theorem gs_par {i j : Nat} {tgs : List Expr} {ms : M (List D)} (h : PS X st (tPar i j (rdA X.K E ms))) (hi : R i = false := by rfl) (hj : R j = false := by rfl) : GS X E R st (mPar i j ms) := h.to fun D σ H k => by
  obtain ⟨env, C, cov, lv, q⟩ := k
  refine ⟨env, C, cov, lv, ?_⟩
  unfold mPar M.andThen at q
  cases o : ms env with
  | bad => rw [o] at q; exact q
  | exc x e' => rw [o] at q; exact fun H' c l => q σ H' c Keep.refl l
  | ok ds e' =>
    rw [o] at q
    intro vs H' ln cv l
    match ds, vs, ln with
    | [x, y], [v, w], _ =>
      refine ⟨v, w, rfl, q _ H' ((cv.store i v x).store j w y) ((Keep.set hi).trans (Keep.set hj)) ?_⟩
      have l1 : Live X.K H' ((x, v) :: (slots σ e' ++ (y, w) :: C)) := by
        refine LiveX.perm (show Live X.K H' ((x, v) :: (y, w) :: (slots σ e' ++ C)) from l) (List.Perm.cons _ List.perm_middle.symm)
      have l2 := live_store (i := i) cv l1
      exact live_store (i := j) (cv.store i v x) (l2.perm List.perm_middle)

/-! ### iterated things -/
def ItOk (K : PySem.W.Frag) (J : It) (C0 : List Pr) (xs : List D) : Prop :=
  xs.length ≤ sizeLine ∧ ∀ (i : Nat) (H : Hp) (L : List Pr), Live K H (C0 ++ L) → (xs.length = i → J.stop i H) ∧ ∀ x, xs[i]? = some x → J.go i H ∧ ∀ v H', J.yld i H v H' → Live K H' ((x, v) :: (C0 ++ L))
def RestI (K : PySem.W.Frag) (E : XD) (σ : St) (C : List Pr) (Q : It → Hp → Prop) : Out (List D) → Prop
  | .ok xs e' => ∀ J C0 H', ItOk K J C0 xs → Cov σ e' → Live K H' (C0 ++ (slots σ e' ++ C)) → Q J H'
  | .exc x e' => ∀ H', Cov σ e' → Live K H' (slots σ e' ++ C) → E x H'
  | .bad => False
def rdI (K : PySem.W.Frag) (E : XD) (m : M (List D)) : TI := fun σ H Q => ∃ e C, Cov σ e ∧ Live K H (slots σ e ++ C) ∧ RestI K E σ C Q (m e)
abbrev GI (X : Cx) (E : XD) (tg it : Expr) (m : M (List D)) : Prop := PI X tg it (rdI X.K E m)
theorem _root_.L2.PI.to {tg it : Expr} {t t' : TI} (h : PI X tg it t) (i : ∀ σ H Q, t' σ H Q → t σ H Q) : PI X tg it t' := ⟨fun pins s σ H Q I q => h.run pins s σ H Q I (i _ _ _ q)⟩
theorem _root_.L2.PI.or {tg it : Expr} {t t' : TI} (h : PI X tg it t) (h' : PI X tg it t') : PI X tg it (fun σ H Q => t σ H Q ∨ t' σ H Q) := ⟨fun pins s σ H Q I q => by
  rcases q with q | q
  · exact h.run pins s σ H Q I q
  · exact h'.run pins s σ H Q I q⟩
/-- the items of a sequence or text -/
def D.iter : D → Option (List D)
  | .tup xs => some (D.frzL xs)
  | .lst _ xs => some (D.frzL xs)
  | .str z => if z.length ≤ sizeLine then some (z.cps.toList.map fun c => .str ⟨#[c]⟩) else none
  | _ => none
def mIter (m : M D) : M (List D) := m.andThen fun d => M.opt d.iter
theorem allFrz_at {x : D} : ∀ {l : List D} {i : Nat}, D.allFrz l = true → l[i]? = some x → x.isFrz = true
  | [], i, _, h => by simp at h
  | z :: l, 0, h1, h2 => by
    simp only [D.allFrz, Bool.and_eq_true] at h1
    simp at h2
    rw [← h2]
    exact h1.1
  | z :: l, i + 1, h1, h2 => by
    simp only [D.allFrz, Bool.and_eq_true] at h1
    exact allFrz_at (l := l) (i := i) h1.2 (by simpa using h2)
end
end DL
/-! Loops and comprehensions. -/
namespace DL
open PySem PySem.Spec PyProof.Rows L2

section
variable {X : Cx} {E : XD} {R : Nat → Bool} {e a b c tg : Expr} {es : List Expr} {st : Stmt} {body : List Stmt} {pos p : Pos} {K : PySem.W.Frag}

theorem itl_ok {ad : Addr} {xs : List D} (zl : xs.length ≤ sizeLine) (f : D.allFrz xs = true) : ItOk K (Itl K ad) [(.lst false xs, .ref ad)] xs := ⟨zl, fun i H L lv => by
  have l0 : Live K H ((.lst false xs, .ref ad) :: L) := lv
  obtain ⟨F, G, r, n, dj, _⟩ := l0
  obtain ⟨F1, F2, G1, G2, rfl, rfl, h1, h2⟩ := RpL.cons_iff.mp r
  simp only [Rp] at h1
  obtain ⟨a', vs, G', e1, _, ha, rfl, rfl, hl⟩ := h1
  cases e1
  have sq : SqL K H ad vs := .inl (.inl ha)
  have ln := hl.length
  refine ⟨fun hi => ⟨vs, sq, by omega⟩, fun x hx => ?_⟩
  obtain ⟨w, F3, G3, ew, qw, s1, s2⟩ := hl.at hx
  refine ⟨⟨vs, w, sq, ew⟩, fun v H' y => ?_⟩
  obtain ⟨rfl, y⟩ := y
  obtain rfl : w = v := Option.some.inj (ew.symm.trans (y vs sq))
  refine Part.add ⟨[] ++ F2, ad :: G' ++ G2, r, n, dj, F3, G3, qw, fun z hz => List.mem_append_left _ (s1 z hz), fun z hz => List.mem_append_left _ (List.mem_cons_of_mem _ (s2 z hz))⟩ (allFrz_at f hx)⟩
theorem itt_ok {ad : Addr} {xs : List D} (zl : xs.length ≤ sizeLine) (f : D.allFrz xs = true) : ItOk K (Itt K ad) [(.tup xs, .ref ad)] xs := ⟨zl, fun i H L lv => by
  have l0 : Live K H ((.tup xs, .ref ad) :: L) := lv
  obtain ⟨F, G, r, n, dj, _⟩ := l0
  obtain ⟨F1, F2, G1, G2, rfl, rfl, h1, h2⟩ := RpL.cons_iff.mp r
  simp only [Rp] at h1
  obtain ⟨a', vs, G', e1, _, hl, q⟩ := h1
  cases e1
  have sq : SqT K H ad vs := by
    rcases q with ⟨q, _⟩ | ⟨q, _⟩
    · exact .inl q
    · exact .inr q
  have sub : ∀ z ∈ G', z ∈ G1 := by
    rcases q with ⟨_, rfl⟩ | ⟨_, rfl⟩
    · exact fun z hz => List.mem_cons_of_mem _ hz
    · exact fun z hz => hz
  have ln := hl.length
  refine ⟨fun hi => ⟨vs, sq, by omega⟩, fun x hx => ?_⟩
  obtain ⟨w, F3, G3, ew, qw, s1, s2⟩ := hl.at hx
  refine ⟨⟨vs, w, sq, ew⟩, fun v H' y => ?_⟩
  obtain ⟨rfl, y⟩ := y
  obtain rfl : w = v := Option.some.inj (ew.symm.trans (y vs sq))
  refine Part.add ⟨F1 ++ F2, G1 ++ G2, r, n, dj, F3, G3, qw, fun z hz => List.mem_append_left _ (s1 z hz), fun z hz => List.mem_append_left _ (sub z (s2 z hz))⟩ (allFrz_at f hx)⟩
theorem its_ok {z : Str} (zl : z.length ≤ sizeLine) : ItOk K (Its z) [] (z.cps.toList.map fun c => .str ⟨#[c]⟩) := ⟨by simpa [Str.length] using zl, fun i H L lv => by
  refine ⟨fun hi => ?_, fun x hx => ?_⟩
  · show z.cps.size ≤ i
    have : z.cps.size = i := by simpa using hi
    omega
  · rw [List.getElem?_map] at hx
    obtain ⟨c, hc, rfl⟩ := Option.map_eq_some_iff.mp hx
    refine ⟨?_, fun v H' y => ?_⟩
    · show i < z.cps.size
      have := (List.getElem?_eq_some_iff.mp hc).1
      simpa using this
    · obtain ⟨rfl, c', hc', rfl⟩ := y
      have : c' = c := by
        have h2 : z.cps[i]? = some c := by simpa using hc
        exact Option.some.inj (hc'.symm.trans h2)
      subst this
      exact Live.flat (d := .str ⟨#[c']⟩) lv rfl⟩
theorem itr_ok {lo : Int} {n : Nat} (zl : n ≤ sizeLine) : ItOk K (Itr lo n) [] ((List.range n).map fun (k : Nat) => .int (lo + k)) := ⟨by simpa using zl, fun i H L lv => by
  refine ⟨fun hi => ?_, fun x hx => ?_⟩
  · show n ≤ i
    have : n = i := by simpa using hi
    omega
  · rw [List.getElem?_map] at hx
    obtain ⟨c, hc, rfl⟩ := Option.map_eq_some_iff.mp hx
    obtain ⟨hi, hc⟩ := List.getElem?_eq_some_iff.mp hc
    simp at hc hi
    subst hc
    refine ⟨hi, fun v H' y => ?_⟩
    obtain ⟨rfl, rfl⟩ := y
    exact Live.flat (d := .int (lo + i)) lv rfl⟩
theorem gi_seq {m : M D} (h : GE X E e m) : GI X E tg e (mIter m) := (((pi_list h).or (pi_tup h)).or (pi_str h)).to fun σ H Q k => by
  obtain ⟨env, C, cov, lv, q⟩ := k
  unfold mIter M.andThen at q
  cases o : m env with
  | bad => rw [o] at q; exact q.elim
  | exc x e' => exact .inl (.inl ⟨env, C, cov, lv, by rw [o] at q ⊢; exact q⟩)
  | ok d e' =>
    rw [o] at q
    cases d with
    | lst ow xs =>
      refine .inl (.inl ⟨env, C, cov, lv, ?_⟩)
      rw [o]
      intro v H' cv l
      have l2 := LiveX.froze l
      obtain ⟨F, G, rp⟩ := LiveX.look l2
      simp only [D.frz] at l2 rp
      simp only [Rp] at rp
      obtain ⟨a', vs, G', rfl, zl, ha, _⟩ := rp
      exact ⟨a', rfl, ⟨vs, .inl (.inl ha)⟩, q _ [(.lst false (D.frzL xs), .ref a')] H' (itl_ok zl (D.frzL_allFrz xs)) cv l2⟩
    | tup xs =>
      refine .inl (.inr ⟨env, C, cov, lv, ?_⟩)
      rw [o]
      intro v H' cv l
      have l2 := LiveX.froze l
      simp only [D.frz] at l2
      obtain ⟨a', vs, rfl, zl, hs, _, _⟩ := LiveX.unt l2
      exact ⟨a', rfl, ⟨vs, hs⟩, q _ [(.tup (D.frzL xs), .ref a')] H' (itt_ok zl (D.frzL_allFrz xs)) cv l2⟩
    | str z =>
      refine .inr ⟨env, C, cov, lv, ?_⟩
      rw [o]
      intro v H' cv l
      obtain ⟨F, G, rp⟩ := LiveX.look l
      simp only [Rp] at rp
      by_cases hz : z.length ≤ sizeLine
      · simp only [D.iter, hz, if_true] at q
        exact ⟨z, rp.1, q _ [] H' (its_ok hz) cv (LiveX.drop l)⟩
      · simp only [D.iter, hz, if_false] at q
        exact q.elim
    | non => exact q.elim
    | bl _ => exact q.elim
    | int _ => exact q.elim
    | ref _ => exact q.elim
    | dct _ _ _ => exact q.elim
    | scr _ => exact q.elim
def rangeD (lo hi : Int) : Option (List D) := if -1000000 ≤ lo ∧ lo ≤ 1000000 ∧ -1000000 ≤ hi ∧ hi ≤ 1000000 then some ((List.range (hi - lo).toNat).map fun (k : Nat) => .int (lo + k)) else none
def mRange1 (ms : M (List D)) : M (List D) := ms.andThen fun ds => match ds with
  | [.int j] => M.opt (rangeD 0 j)
  | _ => M.stop
def mRange2 (ms : M (List D)) : M (List D) := ms.andThen fun ds => match ds with
  | [.int i, .int j] => M.opt (rangeD i j)
  | _ => M.stop
theorem rangeD_some {lo hi : Int} {xs : List D} (h : rangeD lo hi = some xs) : (-(2 ^ 62) ≤ lo ∧ lo < 2 ^ 62 ∧ -(2 ^ 62) ≤ hi ∧ hi < 2 ^ 62) ∧ (hi - lo).toNat ≤ sizeLine ∧ xs = (List.range (hi - lo).toNat).map fun (k : Nat) => .int (lo + k) := by
  unfold rangeD at h
  split at h
  · rename_i hc
    cases h
    refine ⟨by omega, ?_, rfl⟩
    rw [sizeLine_eq]
    omega
  · cases h
theorem Live.int1 {H : Hp} {L : List Pr} {i : Int} {v : V} (h : Live K H ((.int i, v) :: L)) : v = .int i ∧ Live K H L := ⟨(Live.part h).int, LiveX.drop h⟩
theorem gi_range1 {ms : M (List D)} (hg : Gl X "range") (hm : X.mg "range" = none) (ha : GA X E [a] ms) (hs : starEach [a] X.env = [(false, eval a X.env)] := by rfl) : GI X E tg (.Call (.Name "range" p) [a] [] pos) (mRange1 ms) :=
  (pi_range1 hg hm ha hs).to fun σ H Q k => by
    obtain ⟨env, C, cov, lv, q⟩ := k
    refine ⟨env, C, cov, lv, ?_⟩
    unfold mRange1 M.andThen at q
    cases o : ms env with
    | bad => rw [o] at q; exact q
    | exc x e' => rw [o] at q; exact q
    | ok ds e' =>
      rw [o] at q
      intro vs H' ln cv l
      simp only at q
      split at q
      · rename_i j
        match vs, ln with
        | [v], _ =>
          obtain ⟨rfl, l2⟩ := Live.int1 (show Live X.K H' ((.int j, v) :: (slots σ e' ++ C)) from l)
          cases o2 : rangeD 0 j with
          | none =>
            simp only [o2] at q
            exact q.elim
          | some xs =>
            simp only [o2] at q
            obtain ⟨hc, zl, rfl⟩ := rangeD_some o2
            refine ⟨j, rfl, hc.2.2.1, hc.2.2.2, q _ [] H' ?_ cv l2⟩
            have := itr_ok (K := X.K) (lo := 0) (n := (j - 0).toNat) zl
            rw [Int.sub_zero] at this ⊢
            exact this
      · exact q.elim
theorem gi_range2 {ms : M (List D)} (hg : Gl X "range") (hm : X.mg "range" = none) (ha : GA X E [a, b] ms) (hs : starEach [a, b] X.env = [(false, eval a X.env), (false, eval b X.env)] := by rfl) (hs2 : starEach [b] X.env = [(false, eval b X.env)] := by rfl) : GI X E tg (.Call (.Name "range" p) [a, b] [] pos) (mRange2 ms) :=
  (pi_range2 hg hm ha hs hs2).to fun σ H Q k => by
    obtain ⟨env, C, cov, lv, q⟩ := k
    refine ⟨env, C, cov, lv, ?_⟩
    unfold mRange2 M.andThen at q
    cases o : ms env with
    | bad => rw [o] at q; exact q
    | exc x e' => rw [o] at q; exact q
    | ok ds e' =>
      rw [o] at q
      intro vs H' ln cv l
      simp only at q
      split at q
      · rename_i i j
        match vs, ln with
        | [v, w], _ =>
          obtain ⟨rfl, l2⟩ := Live.int1 (show Live X.K H' ((.int i, v) :: (.int j, w) :: (slots σ e' ++ C)) from l)
          obtain ⟨rfl, l3⟩ := Live.int1 l2
          cases o2 : rangeD i j with
          | none =>
            simp only [o2] at q
            exact q.elim
          | some xs =>
            simp only [o2] at q
            obtain ⟨hc, zl, rfl⟩ := rangeD_some o2
            exact ⟨i, j, rfl, hc, q _ [] H' (itr_ok zl) cv l3⟩
      · exact q.elim

/-! ### for -/
def kill : List Nat → Env → Env
  | [], e => e
  | i :: ks, e => (kill ks e).set i none
theorem Cov.kill {σ : St} : ∀ {ks : List Nat} {e : Env}, Cov σ e → Cov σ (kill ks e)
  | [], _, c => c
  | i :: ks, _, c => (Cov.kill (ks := ks) c).off i
theorem LiveX.kill {H : Hp} {ex : List Addr} {σ : St} {C : List Pr} : ∀ {ks : List Nat} {e : Env}, Cov σ e → LiveX K H ex (slots σ e ++ C) → LiveX K H ex (slots σ (DL.kill ks e) ++ C)
  | [], _, _, l => l
  | i :: ks, _, c, l => LiveX.lose c.kill i (LiveX.kill (ks := ks) c l)
theorem kill_none {i : Nat} {d : D} : ∀ {ks : List Nat} {e : Env}, i ∈ ks → (kill ks e)[i]? ≠ some (some d)
  | [], _, h => by simp at h
  | k :: ks, e, h => by
    show ((kill ks e).set k none)[i]? ≠ _
    by_cases hk : k = i
    · subst hk
      rw [List.getElem?_set]
      simp
    · rw [List.getElem?_set_ne hk]
      rcases List.mem_cons.mp h with z | z
      · exact absurd z.symm hk
      · exact kill_none z
theorem slots_wipe {σ : St} : ∀ {ks : List Nat} {e : Env}, (∀ i ∈ ks, ∀ d, e[i]? ≠ some (some d)) → slots (wipe σ ks) e = slots σ e
  | [], _, _ => rfl
  | k :: ks, e, h => by
    have e1 : e.set k none = e := by
      apply List.ext_getElem?
      intro j
      by_cases hj : k = j
      · subst hj
        rw [List.getElem?_set]
        simp only [if_true]
        by_cases hl : k < e.length
        · simp only [hl, if_true]
          cases q : e[k]? with
          | none => simp at q; omega
          | some o =>
            cases o with
            | none => rfl
            | some d => exact absurd q (h k List.mem_cons_self d)
        · simp only [hl, if_false]
          exact (List.getElem?_eq_none (by omega)).symm
      · rw [List.getElem?_set_ne hj]
    show slots ((wipe σ ks).set k none) e = _
    conv => lhs; rw [← e1]
    rw [slots_forget, e1]
    exact slots_wipe fun i hi d => h i (List.mem_cons_of_mem _ hi) d
theorem wipe_in {i : Nat} {v : V} : ∀ {ks : List Nat} {σ : St}, i ∈ ks → (wipe σ ks)[i]? ≠ some (some v)
  | [], _, h => by simp at h
  | k :: ks, σ, h => by
    show ((wipe σ ks).set k none)[i]? ≠ _
    by_cases hk : k = i
    · subst hk
      rw [List.getElem?_set]
      simp
    · rw [List.getElem?_set_ne hk]
      rcases List.mem_cons.mp h with z | z
      · exact absurd z.symm hk
      · exact wipe_in z
theorem wipe_at {i : Nat} : ∀ {ks : List Nat} {σ : St}, i ∈ ks → i < σ.length → (wipe σ ks)[i]? = some none
  | [], _, h, _ => by simp at h
  | k :: ks, σ, h, hl => by
    show ((wipe σ ks).set k none)[i]? = _
    by_cases hk : k = i
    · subst hk
      rw [List.getElem?_set]
      simp [wipe_length, hl]
    · rw [List.getElem?_set_ne hk]
      rcases List.mem_cons.mp h with z | z
      · exact absurd z.symm hk
      · exact wipe_at z hl
theorem Cov.wipe {σ : St} {ks : List Nat} {e : Env} (c : Cov σ e) (h : ∀ i ∈ ks, ∀ d, e[i]? ≠ some (some d)) : Cov (wipe σ ks) e := by
  refine ⟨by rw [wipe_length]; exact c.1, fun i d q => ?_⟩
  have hi : i ∉ ks := fun z => h i z d q
  rw [wipe_out hi]
  exact c.2 i d q
theorem wipe_same {σ σ2 : St} {ks : List Nat} (k : Keep (fun i => !ks.contains i) (L2.wipe σ ks) σ2) : L2.wipe σ2 ks = L2.wipe σ ks := by
  apply List.ext_getElem?
  intro i
  by_cases hi : i ∈ ks
  · by_cases hl : i < σ.length
    · rw [wipe_at hi hl, wipe_at hi (by rw [k.1, wipe_length]; exact hl)]
    · rw [List.getElem?_eq_none (by rw [wipe_length, k.1, wipe_length]; omega), List.getElem?_eq_none (by rw [wipe_length]; omega)]
  · rw [wipe_out hi]
    exact k.2 i (by simpa using hi)
def loopM (g : Tgt) (ks : List Nat) (body : M Flow) : List D → M Flow
  | [], e => .ok .nx (kill ks e)
  | x :: xs, e => match g x (kill ks e) with
    | none => .bad
    | some e1 => match body e1 with
      | .ok .nx e2 => loopM g ks body xs e2
      | .ok .ct e2 => loopM g ks body xs e2
      | .ok .bk e2 => .ok .nx e2
      | .ok (.rt d) e2 => .ok (.rt d) e2
      | .exc z e2 => .exc z e2
      | .bad => .bad
def mFor (src : M (List D)) (g : Tgt) (ks : List Nat) (body : M Flow) : M Flow := src.andThen fun xs => loopM g ks body xs
theorem live_mid {H : Hp} {A B C : List Pr} (h : Live K H (A ++ (B ++ C))) : Live K H (B ++ (A ++ C)) := by
  refine LiveX.perm h ?_
  rw [← List.append_assoc, ← List.append_assoc]
  exact List.perm_append_comm.append_right _
theorem gs_for {src : M (List D)} {g : Tgt} {ks : List Nat} {m : M Flow} {iter : Expr} (hp : PassesOwn (model X.prog X.w) X.A X.env X.xe) (hc : X.calm = true) (hi : GI X E tg iter src) (hg : GG X R tg g) (hb : GSs X E R body m)
    (hs : ∀ x, foldedSetIterable iter X.env x = pure x := by intro _; rfl) : GS X E R (.For tg iter body [] pos) (mFor src g ks m) := (ps_for hp hc hi hg hb hs).to fun D σ H k => by
  obtain ⟨env, C, cov, lv, q⟩ := k
  refine ⟨env, C, cov, lv, ?_⟩
  unfold mFor M.andThen at q
  cases o : src env with
  | bad => rw [o] at q; exact q
  | exc x e' => rw [o] at q; exact fun H' c l => q σ H' c Keep.refl l
  | ok xs e' =>
    rw [o] at q
    simp only at q
    intro J C0 H1 it c1 l1
    refine ⟨fun i n τ H => n = xs.length - i ∧ i ≤ xs.length ∧ ∃ e2, Cov τ e2 ∧ Keep R σ τ ∧ Live X.K H (C0 ++ (slots τ e2 ++ C)) ∧ RestS X.K E R σ C D (loopM g ks m (xs.drop i) e2), ⟨xs.length, by simp, Nat.zero_le _, e', c1, Keep.refl, l1, q⟩, ?_⟩
    rintro i n τ H2 ⟨rfl, hi, e2, c2, k2, l2, q2⟩
    by_cases hlt : i < xs.length
    · refine .inr ?_
      have hx : xs[i]? = some xs[i] := by simp [hlt]
      have hd : xs.drop i = xs[i] :: xs.drop (i + 1) := by rw [List.drop_eq_getElem_cons hlt]
      rw [hd] at q2
      obtain ⟨go, yl⟩ := (it.2 i H2 (slots τ e2 ++ C) l2).2 _ hx
      unfold loopM at q2
      cases o2 : g xs[i] (DL.kill ks e2) with
      | none => rw [o2] at q2; exact q2.elim
      | some e3 =>
        rw [o2] at q2
        simp only at q2
        refine ⟨go, fun σ' H' => ∃ e4, Cov σ' e4 ∧ Keep R σ σ' ∧ Live X.K H' (C0 ++ (slots σ' e4 ++ C)) ∧ RestS X.K E R σ C D (loopM g ks m (xs.drop (i + 1)) e4), fun σ' H' ⟨e4, c4, k4, l4, q4⟩ => ⟨xs.length - (i + 1), by omega, rfl, hlt, e4, c4, k4, l4, q4⟩, fun v H3 y => ?_⟩
        have l3 := yl v H3 y
        have l4 : Live X.K H3 (slots τ e2 ++ ((xs[i], v) :: C0 ++ C)) := live_mid (A := (xs[i], v) :: C0) (by simpa using l3)
        have l5 := LiveX.kill (ks := ks) c2 l4
        refine ⟨DL.kill ks e2, C0 ++ C, xs[i], c2.kill, ?_, e3, o2, fun σ' H' c' k' l' => ?_⟩
        · exact l5.perm (by
            show (slots τ (DL.kill ks e2) ++ ((xs[i], v) :: (C0 ++ C))).Perm _
            exact List.perm_middle)
        · refine ⟨e3, C0 ++ C, c', l', ?_⟩
          cases o3 : m e3 with
          | bad => rw [o3] at q2; exact q2.elim
          | exc z e4 =>
            rw [o3] at q2
            exact fun σ2 H2 c3 k3 l3 => (RestS.more (C0 := C0) q2) σ2 H2 c3 ((k2.trans k').trans k3) l3
          | ok f e4 =>
            rw [o3] at q2
            cases f with
            | nx => exact fun σ2 H2 c3 k3 l3 => ⟨e4, c3, (k2.trans k').trans k3, live_mid l3, q2⟩
            | ct => exact fun σ2 H2 c3 k3 l3 => ⟨e4, c3, (k2.trans k').trans k3, live_mid l3, q2⟩
            | bk => exact fun σ2 H2 c3 k3 l3 => (RestS.more (C0 := C0) q2) σ2 H2 c3 ((k2.trans k').trans k3) l3
            | rt d => exact fun w σ2 H2 c3 k3 l3 => (RestS.more (C0 := C0) q2) w σ2 H2 c3 ((k2.trans k').trans k3) l3
    · refine .inl ⟨(it.2 i H2 _ l2).1 (by omega), ?_⟩
      rw [List.drop_of_length_le (by omega)] at q2
      unfold loopM at q2
      have l3 : Live X.K H2 (slots τ e2 ++ (C0 ++ C)) := live_mid l2
      have l4 := LiveX.kill (ks := ks) c2 l3
      exact q2 τ H2 c2.kill k2 (LiveX.dropL (M := C0) (live_mid l4))

/-! ### while -/
def whileM (t : M Bool) (ks : List Nat) (body : M Flow) : Nat → M Flow
  | 0, _ => .bad
  | n + 1, e => match t (kill ks e) with
    | .ok true e1 => (match body e1 with
      | .ok .nx e2 => whileM t ks body n e2
      | .ok .ct e2 => whileM t ks body n e2
      | .ok .bk e2 => .ok .nx e2
      | .ok (.rt d) e2 => .ok (.rt d) e2
      | .exc z e2 => .exc z e2
      | .bad => .bad)
    | .ok false e1 => .ok .nx e1
    | .exc z e2 => .exc z e2
    | .bad => .bad
theorem gs_while {t : M Bool} {ks : List Nat} {n : Nat} {m : M Flow} (hp : PassesOwn (model X.prog X.w) X.A X.env X.xe) (hc : GB X E c t) (hb : GSs X E R body m) : GS X E R (.While c body [] pos) (whileM t ks m n) := (ps_while hp hc hb).to fun D σ H k => by
  obtain ⟨env, C, cov, lv, q⟩ := k
  refine ⟨fun n τ H => ∃ e2, Cov τ e2 ∧ Keep R σ τ ∧ Live X.K H (slots τ e2 ++ C) ∧ RestS X.K E R σ C D (whileM t ks m n e2), ⟨n, env, cov, Keep.refl, lv, q⟩, ?_⟩
  rintro n τ H2 ⟨e2, c2, k2, l2, q2⟩
  cases n with
  | zero => exact False.elim q2
  | succ n =>
    refine ⟨DL.kill ks e2, C, c2.kill, LiveX.kill c2 l2, ?_⟩
    unfold whileM at q2
    cases o : t (DL.kill ks e2) with
    | bad => rw [o] at q2; exact q2
    | exc z e3 => rw [o] at q2; exact fun H' c l => q2 τ H' c k2 l
    | ok b e3 =>
      rw [o] at q2
      intro H3 c3 l3
      cases b with
      | false =>
        exact q2 τ H3 c3 k2 l3
      | true =>
        refine ⟨fun σ' H' => ∃ e4, Cov σ' e4 ∧ Keep R σ σ' ∧ Live X.K H' (slots σ' e4 ++ C) ∧ RestS X.K E R σ C D (whileM t ks m n e4), fun σ' H' ⟨e4, c4, k4, l4, q4⟩ => ⟨n, Nat.lt_succ_self n, e4, c4, k4, l4, q4⟩, e3, C, c3, l3, ?_⟩
        cases o3 : m e3 with
        | bad => simp only [o3] at q2; exact q2.elim
        | exc z e4 =>
          simp only [o3] at q2
          exact fun σ2 H2 c3 k3 l3 => q2 σ2 H2 c3 (k2.trans k3) l3
        | ok f e4 =>
          simp only [o3] at q2
          cases f with
          | nx => exact fun σ2 H2 c3 k3 l3 => ⟨e4, c3, k2.trans k3, l3, q2⟩
          | ct => exact fun σ2 H2 c3 k3 l3 => ⟨e4, c3, k2.trans k3, l3, q2⟩
          | bk => exact fun σ2 H2 c3 k3 l3 => q2 σ2 H2 c3 (k2.trans k3) l3
          | rt d => exact fun w σ2 H2 c3 k3 l3 => q2 w σ2 H2 c3 (k2.trans k3) l3
end
end DL
/-! List comprehensions. -/
namespace DL
open PySem PySem.Spec PyProof.Rows L2
abbrev XD0 : XD := fun _ _ => False
section
variable {X : Cx} {E : XD} {R : Nat → Bool} {e a b c tg elt iter : Expr} {es ifs : List Expr} {pos p : Pos} {K : PySem.W.Frag}

def compM (g : Tgt) (ks : List Nat) (t : M Bool) (m : M D) : List D → List D → M D
  | [], acc, e => .ok (.lst true acc) (kill ks e)
  | x :: xs, acc, e => match g x (kill ks e) with
    | none => .bad
    | some e1 => match t e1 with
      | .ok false e2 => compM g ks t m xs acc e2
      | .ok true e2 => (match m e2 with
        | .ok d e3 => compM g ks t m xs (acc ++ [d]) e3
        | _ => .bad)
      | _ => .bad
def mComp (src : M (List D)) (g : Tgt) (ks : List Nat) (t : M Bool) (m : M D) : M D := src.andThen fun xs => compM g ks t m xs []
abbrev GTs (X : Cx) (ifs : List Expr) (t : M Bool) : Prop := PTs X ifs (rdB X.K XD0 t)
theorem gts_nil : GTs X [] (M.ret true) := ⟨fun pins s σ H Q I k => by
  obtain ⟨env, C, cov, lv, q⟩ := k
  exact pts_nil.run pins s σ H Q I (q H cov lv)⟩
theorem gts_one {t : M Bool} (h : GB X XD0 c t) : GTs X [c] t := pts_one h

theorem lc_reads {src : M (List D)} {g : Tgt} {ks : List Nat} {t : M Bool} {m : M D} {σ : St} {H : Hp} {Q : VK} (k : rdE K E (mComp src g ks t m) σ H Q) :
    tLc (rdI K E src) (rdG K (fun i => !ks.contains i) g) (rdB K XD0 t) (rdE K XD0 m) ks σ H Q := by
  obtain ⟨env, C, cov, lv, q⟩ := k
  refine ⟨env, C, cov, lv, ?_⟩
  unfold mComp M.andThen at q
  cases o : src env with
  | bad => rw [o] at q; exact q
  | exc x e' => rw [o] at q; exact q
  | ok xs e' =>
    rw [o] at q
    simp only at q
    intro J C0 H1 it c1 l1 ad nad
    refine ⟨fun i n H => n = xs.length - i ∧ i ≤ xs.length ∧ ∃ e2 acc, Cov σ (kill ks e2) ∧ acc.length ≤ i ∧ Live K H ((.lst true acc, .ref ad) :: (C0 ++ (slots σ (kill ks e2) ++ C))) ∧ RestE K E σ C Q (compM g ks t m (xs.drop i) acc e2),
      ⟨xs.length, by simp, Nat.zero_le _, e', [], c1.kill, Nat.le_refl _, ?_, q⟩, ?_⟩
    · have l2 : Live K H1 (slots σ (kill ks e') ++ (C0 ++ C)) := LiveX.kill c1 (live_mid l1)
      have l3 : Live K H1 (C0 ++ (slots σ (kill ks e') ++ C)) := live_mid l2
      exact LiveX.newL (ds := []) (vs := []) nad (by simp) (Nat.zero_le _) rfl (by simpa using l3)
    · rintro i n H2 ⟨rfl, hi, e2, acc, c2, la, l2, q2⟩
      have l2' : Live K H2 (C0 ++ ((.lst true acc, .ref ad) :: (slots σ (kill ks e2) ++ C))) := l2.perm List.perm_middle.symm
      have off : ∀ i ∈ ks, ∀ d, (kill ks e2)[i]? ≠ some (some d) := fun i hi d => kill_none hi
      by_cases hlt : i < xs.length
      · refine .inr ?_
        have hx : xs[i]? = some xs[i] := by simp [hlt]
        have hd : xs.drop i = xs[i] :: xs.drop (i + 1) := by rw [List.drop_eq_getElem_cons hlt]
        rw [hd] at q2
        obtain ⟨go, yl⟩ := (it.2 i H2 _ l2').2 _ hx
        unfold compM at q2
        cases o2 : g xs[i] (kill ks e2) with
        | none => rw [o2] at q2; exact q2.elim
        | some e3 =>
          rw [o2] at q2
          simp only at q2
          refine ⟨go, fun H' => ∃ e4 acc', Cov σ (kill ks e4) ∧ acc'.length ≤ i + 1 ∧ Live K H' ((.lst true acc', .ref ad) :: (C0 ++ (slots σ (kill ks e4) ++ C))) ∧ RestE K E σ C Q (compM g ks t m (xs.drop (i + 1)) acc' e4),
            fun H' ⟨e4, acc', c4, la', l4, q4⟩ => ⟨xs.length - (i + 1), by omega, rfl, hlt, e4, acc', c4, la', l4, q4⟩, fun v H3 y => ?_⟩
          have l3 := yl v H3 y
          have cw : Cov (wipe σ ks) (kill ks e2) := c2.wipe off
          have sw : slots (wipe σ ks) (kill ks e2) = slots σ (kill ks e2) := slots_wipe off
          refine ⟨kill ks e2, (.lst true acc, .ref ad) :: (C0 ++ C), xs[i], cw, ?_, e3, o2, fun σ2 H4 c4 k4 l4 => ?_⟩
          · rw [sw]
            refine l3.perm (List.Perm.cons _ ?_)
            refine List.perm_middle.trans (List.Perm.trans (List.Perm.cons _ ?_) List.perm_middle.symm)
            rw [← List.append_assoc, ← List.append_assoc]
            exact List.perm_append_comm.append_right _
          · have ws := wipe_same k4
            refine ⟨ws, ?_⟩
            -- back to the outer names
            have back : ∀ {e5 : Env} {M : List Pr} {H5 : Hp}, Cov σ2 e5 → Live K H5 (slots σ2 e5 ++ M) → Cov σ (kill ks e5) ∧ Live K H5 (slots σ (kill ks e5) ++ M) := fun {e5 M H5} c5 l5 => by
              have of5 : ∀ i ∈ ks, ∀ d, (kill ks e5)[i]? ≠ some (some d) := fun i hi d => kill_none hi
              have c6 : Cov (wipe σ2 ks) (kill ks e5) := c5.kill.wipe of5
              rw [ws] at c6
              refine ⟨⟨by rw [← c6.1, wipe_length], fun j d h => ?_⟩, ?_⟩
              · obtain ⟨w, hw⟩ := c6.2 j d h
                exact ⟨w, (wipe_some hw).1⟩
              · have l6 := LiveX.kill (ks := ks) c5 l5
                rw [← slots_wipe of5, ws, slots_wipe of5] at l6
                exact l6
            refine ⟨e3, (.lst true acc, .ref ad) :: (C0 ++ C), c4, l4, ?_⟩
            cases o3 : t e3 with
            | bad => rw [o3] at q2; exact q2.elim
            | exc z e4 => rw [o3] at q2; exact q2.elim
            | ok bb e4 =>
              rw [o3] at q2
              intro H5 c5 l5
              cases bb with
              | false =>
                simp only at q2
                obtain ⟨c6, l6⟩ := back c5 l5
                show ∃ e4 acc', _
                refine ⟨e4, acc, c6, by omega, ?_, q2⟩
                have l7 := l6.perm (List.perm_middle (a := (D.lst true acc, V.ref ad)))
                exact l7.perm (List.Perm.cons _ (by
                  rw [← List.append_assoc, ← List.append_assoc]
                  exact List.perm_append_comm.append_right _))
              | true =>
                simp only at q2
                refine ⟨e4, (.lst true acc, .ref ad) :: (C0 ++ C), c5, l5, ?_⟩
                cases o4 : m e4 with
                | bad => rw [o4] at q2; exact q2.elim
                | exc z e5 => rw [o4] at q2; exact q2.elim
                | ok d e5 =>
                  rw [o4] at q2
                  intro w H6 c6 l6
                  simp only at q2
                  have l7 : Live K H6 ((.lst true acc, .ref ad) :: ((d, w) :: (slots σ2 e5 ++ (C0 ++ C)))) := by
                    refine l6.perm ?_
                    refine List.Perm.trans (List.Perm.cons _ List.perm_middle) (List.Perm.swap _ _ _)
                  obtain ⟨a', vs, ea, zl, hH, ln, l8⟩ := LiveX.openL l7
                  cases ea
                  have zs : vs.length < sizeLine := by
                    have := it.1
                    omega
                  refine ⟨vs, hH, zs, ?_⟩
                  have l9 : LiveX K H6 [ad] ((acc ++ [d]).zip (vs ++ [w]) ++ (slots σ2 e5 ++ (C0 ++ C))) := by
                    rw [zip_app ln]
                    refine l8.perm ?_
                    show (acc.zip vs ++ (d, w) :: (slots σ2 e5 ++ (C0 ++ C))).Perm ((acc.zip vs ++ [(d, w)]) ++ (slots σ2 e5 ++ (C0 ++ C)))
                    rw [List.append_assoc]
                    exact List.Perm.refl _
                  have l10 := LiveX.closeL (ex := []) (ds := acc ++ [d]) (vs := vs ++ [w]) (by simp) (by simp; omega) (by simp [ln]) l9
                  obtain ⟨c11, l11⟩ := back (M := (.lst true (acc ++ [d]), .ref ad) :: (C0 ++ C)) c6 (l10.perm List.perm_middle.symm)
                  refine ⟨e5, acc ++ [d], c11, by simp; omega, ?_, q2⟩
                  have l12 := l11.perm (List.perm_middle (a := (D.lst true (acc ++ [d]), V.ref ad)))
                  exact l12.perm (List.Perm.cons _ (by
                    rw [← List.append_assoc, ← List.append_assoc]
                    exact List.perm_append_comm.append_right _))
      · refine .inl ⟨(it.2 i H2 _ l2').1 (by omega), ?_⟩
        rw [List.drop_of_length_le (by omega)] at q2
        unfold compM at q2
        have l3 : Live K H2 (C0 ++ ((.lst true acc, .ref ad) :: (slots σ (kill ks e2) ++ C))) := l2'
        exact q2 (.ref ad) H2 c2 (LiveX.dropL l3)
theorem ge_lc {scope : Scope} {own : List (Str × Nat)} {src : M (List D)} {g : Tgt} {t : M Bool} {m : M D} (hc : X.calm = true) (hN : X.N.Nodup) (hi : GI X E tg iter src) (ok : BlkOk X.N X.env.scope scope own)
    (hg : ∀ (s : Shared) (H : Hp) (C : Addr) (cl : List (Str × Addr)) (fp : List Addr), GG (X.blk s H scope (compEnvC scope cl C X.env) fp) (fun i => !(own.map (·.2)).contains i) tg g)
    (ht : ∀ (s : Shared) (H : Hp) (C : Addr) (cl : List (Str × Addr)) (fp : List Addr), GTs (X.blk s H scope (compEnvC scope cl C X.env) fp) ifs t)
    (he : ∀ (s : Shared) (H : Hp) (C : Addr) (cl : List (Str × Addr)) (fp : List Addr), GE (X.blk s H scope (compEnvC scope cl C X.env) fp) XD0 elt m) (hs : ∀ x, foldedSetIterable iter X.env x = pure x := by intro _; rfl) :
    GE X E (.ListComp elt [⟨tg, iter, ifs, 0⟩] scope pos) (mComp src g (own.map (·.2)) t m) := (pe_lc hc hN hi ok hg ht he hs).to fun σ H Q k => lc_reads k
theorem rdE_mono {m : M D} {σ : St} {H : Hp} {Q Q' : VK} (h : rdE K E m σ H Q) (i : ∀ v H', Q v H' → Q' v H') : rdE K E m σ H Q' := by
  obtain ⟨env, C, cov, lv, q⟩ := h
  refine ⟨env, C, cov, lv, ?_⟩
  cases o : m env with
  | bad => rw [o] at q; exact q
  | exc z e' => rw [o] at q; exact q
  | ok d e' => rw [o] at q; exact fun v H' c l => i v H' (q v H' c l)
theorem set_reads {m : M D} {i : Nat} {D : Ends} {σ : St} {H : Hp} (hr : R i = false) (k : rdS K E R (mAsg m (gN i)) D σ H) : rdE K E m σ H fun v H1 => D.nx (σ.set i (some v)) H1 := by
  refine rdE_mono (asg_reads k) fun v H' q => ?_
  obtain ⟨e1, C1, d, c1, l1, e2, ee, q1⟩ := q
  cases ee
  exact q1 _ H' (c1.store i v d) (Keep.set hr) (live_store c1 l1)
/-- name = [..] -/
theorem gs_setLc {i : Nat} {y : Str} {py spos : Pos} {scope : Scope} {own : List (Str × Nat)} {src : M (List D)} {g : Tgt} {t : M Bool} {m : M D} (hc : X.calm = true) (hN : X.N.Nodup) (hy : X.N[i]? = some y) (hyl : X.env.scope.names.lookup y = some .local)
    (hsw : swapsWith (.ListComp elt [⟨tg, iter, ifs, 0⟩] scope pos) (some (.Name y py)) spos.line X.env = pure true) (hi : GI X E tg iter src) (ok : BlkOk X.N X.env.scope scope own)
    (hg : ∀ (s : Shared) (H : Hp) (C : Addr) (cl : List (Str × Addr)) (fp : List Addr), GG (X.blk s H scope (compEnvC scope cl C X.env) fp) (fun i => !(own.map (·.2)).contains i) tg g)
    (ht : ∀ (s : Shared) (H : Hp) (C : Addr) (cl : List (Str × Addr)) (fp : List Addr), GTs (X.blk s H scope (compEnvC scope cl C X.env) fp) ifs t)
    (he : ∀ (s : Shared) (H : Hp) (C : Addr) (cl : List (Str × Addr)) (fp : List Addr), GE (X.blk s H scope (compEnvC scope cl C X.env) fp) XD0 elt m) (hs : ∀ x, foldedSetIterable iter X.env x = pure x := by intro _; rfl) (hr : R i = false := by rfl) :
    GS X E R (.Assign [.Name y py] (.ListComp elt [⟨tg, iter, ifs, 0⟩] scope pos) spos) (mAsg (mComp src g (own.map (·.2)) t m) (gN i)) :=
  (ps_setLc hc hN hy hyl hsw hi ok hg ht he hs).to fun D σ H k => lc_reads (set_reads hr k)
end
end DL
/-! A def's contract by its denotation; its calls. -/
namespace DL
open PySem PySem.Spec PyProof.Rows L2

/-- how an exception lies: its class's address by its name, its one field (or none) in its own dict -/
def ExcAt (mg : Str → Option Value) (x : Exn) (cls : Value) (dd : Option Addr) (H : Hp) : Prop :=
  ∃ C, mg (Str.ofString x.cls) = some (.ref C) ∧ cls = .ref C ∧ ((x.args = [] ∧ dd = none) ∨ ∃ d n a, x.args = [a] ∧ a.flat = true ∧ dd = some d ∧ H d = some (.xd [(n, a.val)]))
/-- the parameters that are handed back -/
def pick (mv : List Nat) (vs : List V) : St := mv.map fun i => vs[i]?
def finOf (mv : List Nat) (e : Env) : Env := mv.map fun i => (e[i]?).join
def RestF (K : PySem.W.Frag) (E : XD) (mv : List Nat) (vs : List V) (C : List Pr) (Q : VK) : Out D → Prop
  | .ok d fin => ∀ v H', Cov (pick mv vs) fin → Live K H' ((d, v) :: (slots (pick mv vs) fin ++ C)) → Q v H'
  | .exc x fin => ∀ H', Cov (pick mv vs) fin → Live K H' (slots (pick mv vs) fin ++ C) → E x H'
  | .bad => False
abbrev FD := List D → Out D
def spD (K : PySem.W.Frag) (mg : Str → Option Value) (n : Nat) (mv : List Nat) (den : FD) : Sp := fun vs H Q E => ∃ (ds : List D) (C : List Pr) (Ex : XD), (∀ x cls dd H', ExcAt mg x cls dd H' → Ex x H' → E cls dd H') ∧
  vs.length = n ∧ vs.length = ds.length ∧ Live K H (ds.zip vs ++ C) ∧ RestF K Ex mv vs C Q (den ds)

section
variable {P : Program} {w : World} {K : PySem.W.Frag} {mg : Str → Option Value} {base : Heap}
/-- a def that keeps a promise wherever no repr is under way -/
structure FnG (P : Program) (w : World) (K : PySem.W.Frag) (mg : Str → Option Value) (base : Heap) (k : Nat) (f : Addr) (fd : FuncData) (ps : List Str) (sp : Sp) : Prop where
  len : ∀ vs H Q E, sp vs H Q E → vs.length = ps.length
  run : ∀ (A : Around) (outer : List PySem.Env) (s : Shared) (H : Hp) (args : Args) (us : List Value) (vs : List V) (Q : VK) (E : XK),
    Room k A → A.guards = some [] → Env0 P w K mg base A outer s H → BindsTo s fd args (ps.zip us) → Vals vs us → sp vs H Q E → codeAny (model P w) A (.call (.ref f) args) (CR (L2.CX P w) outer P w H s Q E) s
theorem FnG.mono {j k : Nat} {f : Addr} {fd : FuncData} {ps : List Str} {sp : Sp} (F : FnG P w K mg base j f fd ps sp) (h : j ≤ k) : FnG P w K mg base k f fd ps sp where
  len := F.len
  run := fun A outer s H args us vs Q E r => F.run A outer s H args us vs Q E (r.mono h)
/-- by its body -/
theorem fnG_of {k : Nat} {f : Addr} {fd : FuncData} {x qual : Str} {st : Stmt} {N ps : List Str} {sp : Sp} (F : Fun K x qual st f fd) (S : FnScope N ps (defScope st)) (len : ∀ vs H Q E, sp vs H Q E → vs.length = ps.length)
    (hbody : ∀ (cdv : Value) (A : Around) (outer : List PySem.Env) (s : Shared) (H : Hp) (vs : List V) (Q : VK) (E : XK), Room k (A.deeper (envOfC qual (defScope st) s.heap.objs.size f cdv)) → A.guards = some [] → sp vs H Q E →
      ∃ t, PSs (cxOf (L2.CX P w) P w K mg base N qual (defScope st) f cdv A outer s H E) (defBody st) t ∧ t { nx := fun _ H' => Q .non H', rt := Q } (L2.start N vs) H) : FnG P w K mg base (k + 1) f fd ps sp := by
  obtain ⟨oc, od, kV, doc, pm, an, cdv, ct, osl, efd, look, hcd⟩ := F.ex
  subst efd
  constructor
  · exact len
  · intro A outer s H args us vs Q E room gds e0 bnd rv hsp
    have hlen := len _ _ _ _ hsp
    have inK : K.In s.heap := e0.mod.kin.keeps (fun b o h => (e0.bs b o h).1)
    have lim := e0.mod.nolimit.keeps (fun b o h => (e0.bs b o h).1)
    have names : ∀ y ∈ ps.zip us, (defScope st).names.lookup y.1 = some .local ∨ ((defScope st).names.lookup y.1 = some .cell ∧ ((cellsFrom (s.heap.objs.size + 1) (defScope st).names []).lookup y.1).isSome = true) := by
      rintro ⟨n, v⟩ hy
      have hn := (List.of_mem_zip hy).1
      rcases S.par n hn with q | q
      · exact Or.inl q
      · exact Or.inr ⟨q, PySem.W.cellsFrom_some _ _ _ (.inl q)⟩
    apply codeAny_call_function room.depth (inK _ _ look) rfl S.co S.gen rfl (PySem.W.codeRec_of inK hcd)
    apply bnd
    apply wpAny_newFunctionEnv_cells S.kind names
    intro env he s1 ic
    subst he
    constructor
    · exact lim.keeps ic.toInCall.keep
    · apply codeAny_func
      obtain ⟨t, ht, hq⟩ := hbody cdv A outer s H vs Q E (room.deeper _) gds hsp
      have inv := inv_start (CX := L2.CX P w) (P := P) (w := w) (E := E) (f := f) (cd := cdv) S room.hd e0 hlen rv ic
      apply wpAny_mono (ht.run [] s1 (L2.start N vs) H _ inv hq)
      · intro fl s' hs
        cases fl with
        | ret u =>
          obtain ⟨v, _, H', J, r2, q2⟩ := hs
          exact ⟨v, H', J.os, J.bare, J.base, J.hok, r2, q2⟩
        | next =>
          obtain ⟨_, H', J, q2⟩ := hs
          exact ⟨.non, H', J.os, J.bare, J.base, J.hok, rfl, q2⟩
        | brk => exact hs.elim fun _ h => h.elim fun _ h => False.elim h.2
        | cont => exact hs.elim fun _ h => h.elim fun _ h => False.elim h.2
      · intro u s' hs
        exact hs
end

/-! ### a body's denotation as the def's -/
theorem slots_vals : ∀ {ds : List D} {vs : List V} {σ : St} {e : Env}, vs.length = ds.length → slots (vs.map some ++ σ) (ds.map some ++ e) = ds.zip vs ++ slots σ e
  | [], [], σ, e, _ => rfl
  | [], _ :: _, _, _, h => by simp at h
  | _ :: _, [], _, _, h => by simp at h
  | d :: ds, v :: vs, σ, e, h => by
    show slots (some v :: (vs.map some ++ σ)) (some d :: (ds.map some ++ e)) = _
    simp only [slots]
    rw [slots_vals (by simpa using h)]
    rfl
theorem slots_nones : ∀ {n m : Nat}, slots (List.replicate n none) (List.replicate m none) = []
  | 0, _ => by simp [slots]
  | n + 1, 0 => by simp [slots, List.replicate_succ]
  | n + 1, m + 1 => by
    simp only [List.replicate_succ, slots]
    exact slots_nones
theorem cov_start {N : List Str} {ds : List D} {vs : List V} (h : vs.length = ds.length) : Cov (L2.start N vs) (ds.map some ++ List.replicate (N.length - ds.length) none) := by
  unfold L2.start
  refine ⟨by simp [h], fun i d q => ?_⟩
  by_cases hi : i < ds.length
  · exact ⟨vs[i]'(by omega), by rw [List.getElem?_append_left (by simp; omega)]; simp⟩
  · rw [List.getElem?_append_right (by simp; omega), List.getElem?_replicate] at q
    split at q <;> simp at q
theorem slots_pick {σ : St} {vs : List V} : ∀ {mv : List Nat} {e : Env}, mv.Nodup → (∀ i ∈ mv, σ[i]? = (vs[i]?).map some) → Cov σ e → (∀ i ∈ mv, ∃ d, e[i]? = some (some d)) → ∃ rest, (slots σ e).Perm (slots (pick mv vs) (finOf mv e) ++ rest) ∧ Cov (pick mv vs) (finOf mv e)
  | [], e, _, _, _, _ => ⟨slots σ e, .refl _, by simp [pick, finOf, Cov]⟩
  | i :: mv, e, nd, hv, c, hd => by
    obtain ⟨d, ed⟩ := hd i List.mem_cons_self
    obtain ⟨v, ev, p⟩ := slots_get c ed
    have nd2 := List.nodup_cons.mp nd
    have vi : vs[i]? = some v := by
      have := hv i List.mem_cons_self
      rw [ev] at this
      cases q : vs[i]? with
      | none => rw [q] at this; simp at this
      | some w => rw [q] at this; simp at this; rw [this]
    have fe : finOf mv (e.set i none) = finOf mv e := by
      unfold finOf
      apply List.map_congr_left
      intro j hj
      rw [List.getElem?_set_ne (fun z => nd2.1 (by rw [z]; exact hj))]
    obtain ⟨rest, pr, cv⟩ := slots_pick (mv := mv) (e := e.set i none) nd2.2 (fun j hj => hv j (List.mem_cons_of_mem _ hj)) (c.off i) (fun j hj => by
      obtain ⟨d', h'⟩ := hd j (List.mem_cons_of_mem _ hj)
      exact ⟨d', by rw [List.getElem?_set_ne (fun z => nd2.1 (by rw [z]; exact hj))]; exact h'⟩)
    rw [fe] at pr cv
    refine ⟨rest, ?_, ?_⟩
    · show (slots σ e).Perm (slots (vs[i]? :: pick mv vs) ((e[i]?).join :: finOf mv e) ++ rest)
      rw [vi, ed]
      exact p.trans (pr.cons _)
    · show Cov (vs[i]? :: pick mv vs) ((e[i]?).join :: finOf mv e)
      rw [vi, ed]
      refine ⟨by have := cv.1; simpa using this, fun j d' q => ?_⟩
      cases j with
      | zero => exact ⟨v, rfl⟩
      | succ j => exact cv.2 j d' (by simpa using q)
/-- nothing is asked of those that hold nothing at the end -/
def hasAll (mv : List Nat) (e : Env) : Bool := mv.all fun i => ((e[i]?).join).isSome
def denF (n : Nat) (mv : List Nat) (m : M Flow) : FD := fun ds => match m (ds.map some ++ List.replicate (n - ds.length) none) with
  | .ok .nx e => if hasAll mv e = true then .ok .non (finOf mv e) else .bad
  | .ok (.rt d) e => if hasAll mv e = true then .ok d (finOf mv e) else .bad
  | .exc x e => if hasAll mv e = true then .exc x (finOf mv e) else .bad
  | _ => .bad
theorem hasAll_mem {mv : List Nat} {e : Env} (h : hasAll mv e = true) : ∀ i ∈ mv, ∃ d, e[i]? = some (some d) := fun i hi => by
  have := List.all_eq_true.mp h i hi
  obtain ⟨d, hd⟩ := Option.isSome_iff_exists.mp this
  exact ⟨d, join_some (by exact hd)⟩
/-- THE RULE for a def -/
theorem fnD_of {P : Program} {w : World} {K : PySem.W.Frag} {mg : Str → Option Value} {base : Heap} {k : Nat} {f : Addr} {fd : FuncData} {x qual : Str} {st : Stmt} {N ps : List Str} {mv : List Nat} {m : M Flow} (F : Fun K x qual st f fd) (S : FnScope N ps (defScope st))
    (nd : mv.Nodup) (hmv : ∀ i ∈ mv, i < ps.length)
    (hbody : ∀ (cdv : Value) (A : Around) (outer : List PySem.Env) (s : Shared) (H : Hp) (E : XK) (Ex : XD), Room k (A.deeper (envOfC qual (defScope st) s.heap.objs.size f cdv)) → A.guards = some [] → (∀ x cls dd H', ExcAt mg x cls dd H' → Ex x H' → E cls dd H') →
      GSs (cxOf (L2.CX P w) P w K mg base N qual (defScope st) f cdv A outer s H E) Ex (fun i => mv.contains i) (defBody st) m) : FnG P w K mg base (k + 1) f fd ps (spD K mg ps.length mv (denF N.length mv m)) := by
  refine fnG_of F S (fun vs H Q E h => ?_) (fun cdv A outer s H vs Q E room gds h => ?_)
  · obtain ⟨_, _, _, _, hl, _⟩ := h
    exact hl
  · obtain ⟨ds, C, Ex, hE, hl, hld, lv, q⟩ := h
    have hlN : vs.length ≤ N.length := by
      have := congrArg List.length S.pre
      rw [List.length_take] at this
      omega
    refine ⟨_, hbody cdv A outer s H E Ex room gds hE, ?_⟩
    · refine ⟨ds.map some ++ List.replicate (N.length - ds.length) none, C, cov_start hld, ?_, ?_⟩
      · have : slots (L2.start N vs) (ds.map some ++ List.replicate (N.length - ds.length) none) = ds.zip vs := by
          unfold L2.start
          rw [slots_vals hld, slots_nones, List.append_nil]
        rw [this]
        exact lv
      · have fin : ∀ {σ' : St} {e' : Env} {H' : Hp} {M : List Pr}, Cov σ' e' → Keep (fun i => mv.contains i) (L2.start N vs) σ' → hasAll mv e' = true → Live K H' (M ++ (slots σ' e' ++ C)) → Cov (pick mv vs) (finOf mv e') ∧ Live K H' (M ++ (slots (pick mv vs) (finOf mv e') ++ C)) := fun {σ' e' H' M} cv kp ha l => by
          obtain ⟨rest, p, c2⟩ := slots_pick (σ := σ') (vs := vs) nd (fun i hi => by
            rw [kp.2 i (by simpa using hi)]
            unfold L2.start
            have hi2 : i < vs.length := by rw [hl]; exact hmv i hi
            rw [List.getElem?_append_left (by simpa using hi2), List.getElem?_map]) cv (hasAll_mem ha)
          refine ⟨c2, ?_⟩
          have l2 := l.perm ((p.append_right C).append_left M)
          have l3 : Live K H' (rest ++ (M ++ (slots (pick mv vs) (finOf mv e') ++ C))) := by
            refine l2.perm ?_
            have h1 : (M ++ (slots (pick mv vs) (finOf mv e') ++ rest ++ C)).Perm (M ++ (rest ++ (slots (pick mv vs) (finOf mv e') ++ C))) := by
              refine List.Perm.append_left _ ?_
              rw [← List.append_assoc]
              exact List.perm_append_comm.append_right _
            refine h1.trans ?_
            rw [← List.append_assoc, ← List.append_assoc rest M]
            exact List.perm_append_comm.append_right _
          exact LiveX.dropL l3
        unfold denF at q
        cases o : m (ds.map some ++ List.replicate (N.length - ds.length) none) with
        | bad => rw [o] at q; exact q
        | exc z e' =>
          rw [o] at q
          simp only at q
          split at q
          · rename_i ha
            intro σ' H' cv kp l
            obtain ⟨c2, l2⟩ := fin (M := []) cv kp ha l
            exact q H' c2 l2
          · exact q.elim
        | ok fl e' =>
          rw [o] at q
          cases fl with
          | nx =>
            simp only at q
            split at q
            · rename_i ha
              intro σ' H' cv kp l
              obtain ⟨c2, l2⟩ := fin (M := []) cv kp ha l
              exact q .non H' c2 (Live.flat (d := .non) l2 rfl)
            · exact q.elim
          | rt d =>
            simp only at q
            split at q
            · rename_i ha
              intro v σ' H' cv kp l
              obtain ⟨c2, l2⟩ := fin (M := [(d, v)]) cv kp ha l
              exact q v H' c2 l2
            · exact q.elim
          | bk => exact q.elim
          | ct => exact q.elim

theorem pm3 {A B C : List Pr} : (A ++ (B ++ C)).Perm (B ++ (A ++ C)) := by
  rw [← List.append_assoc, ← List.append_assoc B A C]
  exact List.perm_append_comm.append_right _

/-! ### arguments of an own call: values (frozen), or names whose trees are lent and come back -/
abbrev Prs := List (Nat × Nat)
def RestR (K : PySem.W.Frag) (E : XD) (prs : Prs) (σ : St) (C : List Pr) (Q : List V → Hp → Prop) : Out (List D) → Prop
  | .ok ds e' => ∀ vs H', vs.length = ds.length → (∀ p ∈ prs, ∃ v, vs[p.1]? = some v ∧ σ[p.2]? = some (some v)) → Cov σ e' → Live K H' (ds.zip vs ++ (slots σ e' ++ C)) → Q vs H'
  | .exc x e' => ∀ H', Cov σ e' → Live K H' (slots σ e' ++ C) → E x H'
  | .bad => False
def rdR (K : PySem.W.Frag) (E : XD) (prs : Prs) (m : M (List D)) : TA := fun σ H Q => ∃ e C, Cov σ e ∧ Live K H (slots σ e ++ C) ∧ RestR K E prs σ C Q (m e)
abbrev GR (X : Cx) (E : XD) (prs : Prs) (es : List Expr) (m : M (List D)) : Prop := PA X es (rdR X.K E prs m)
def up (prs : Prs) : Prs := prs.map fun p => (p.1 + 1, p.2)
section
variable {X : Cx} {E : XD} {e : Expr} {es : List Expr} {prs : Prs} {pos p : Pos}
theorem gr_nil : GR X E [] [] (M.ret []) := pa_nil.to fun σ H Q k => by
  obtain ⟨env, C, cov, lv, q⟩ := k
  exact q [] H rfl (fun p hp => by simp at hp) cov lv
def mConsF (m : M D) (ms : M (List D)) : M (List D) := m.andThen fun x => ms.andThen fun xs => M.ret (x.frz :: xs)
theorem gr_val {m : M D} {ms : M (List D)} (ha : GE X E e m) (hr : GR X E prs es ms) (hs : starEach (e :: es) X.env = (false, eval e X.env) :: starEach es X.env := by rfl) : GR X E (up prs) (e :: es) (mConsF m ms) :=
  (pa_cons ha hr hs).to fun σ H Q k => by
    obtain ⟨env, C, cov, lv, q⟩ := k
    refine ⟨env, C, cov, lv, ?_⟩
    unfold mConsF M.andThen at q
    cases o : m env with
    | exc z e' => rw [o] at q; exact q
    | bad => rw [o] at q; exact q
    | ok x e1 =>
      rw [o] at q
      intro v H1 c1 l1
      refine ⟨e1, (x.frz, v) :: C, c1, (LiveX.froze l1).perm List.perm_middle.symm, ?_⟩
      cases o2 : ms e1 with
      | exc z e' =>
        simp only [o2] at q
        exact fun H' c l => q H' c (LiveX.drop (l.perm List.perm_middle))
      | bad => simp only [o2] at q; exact q
      | ok xs e2 =>
        simp only [o2] at q
        intro vs H2 hl hp c2 l2
        refine q (v :: vs) H2 (by simp [hl]) (fun p hpm => ?_) c2 (l2.perm ?_)
        · obtain ⟨p', hp', rfl⟩ := List.mem_map.mp hpm
          obtain ⟨w, h1, h2⟩ := hp p' hp'
          exact ⟨w, by simpa using h1, h2⟩
        · show (xs.zip vs ++ (slots σ e2 ++ (x.frz, v) :: C)).Perm ((x.frz, v) :: (xs.zip vs ++ (slots σ e2 ++ C)))
          exact ((List.perm_middle (l₁ := slots σ e2)).append_left _).trans List.perm_middle
def mConsR (i : Nat) (ms : M (List D)) : M (List D) := (mTake i).andThen fun x => ms.andThen fun xs => M.ret (x :: xs)
theorem gr_ref {i : Nat} {ms : M (List D)} (ha : PE X e (tVar i)) (hr : GR X E prs es ms) (hs : starEach (e :: es) X.env = (false, eval e X.env) :: starEach es X.env := by rfl) : GR X E ((0, i) :: up prs) (e :: es) (mConsR i ms) :=
  (pa_cons ha hr hs).to fun σ H Q k => by
    obtain ⟨env, C, cov, lv, q⟩ := k
    unfold mConsR mTake M.andThen at q
    cases ed : pV i env with
    | none => simp only [ed] at q; exact q.elim
    | some x =>
      simp only [ed] at q
      obtain ⟨v, hv, pm⟩ := slots_get cov (join_some ed)
      refine ⟨v, hv, env.set i none, (x, v) :: C, cov.off i, ?_, ?_⟩
      · exact (LiveX.perm (LiveX.perm lv (pm.append_right C)) List.perm_middle.symm)
      · cases o2 : ms (env.set i none) with
        | exc z e' =>
          simp only [o2] at q
          exact fun H' c l => q H' c (LiveX.drop (l.perm List.perm_middle))
        | bad => simp only [o2] at q; exact q
        | ok xs e2 =>
          simp only [o2] at q
          intro vs H2 hl hp c2 l2
          refine q (v :: vs) H2 (by simp [hl]) (fun p hpm => ?_) c2 (l2.perm ?_)
          · rcases List.mem_cons.mp hpm with rfl | hpm
            · exact ⟨v, rfl, hv⟩
            · obtain ⟨p', hp', rfl⟩ := List.mem_map.mp hpm
              obtain ⟨w, h1, h2⟩ := hp p' hp'
              exact ⟨w, by simpa using h1, h2⟩
          · show (xs.zip vs ++ (slots σ e2 ++ (x, v) :: C)).Perm ((x, v) :: (xs.zip vs ++ (slots σ e2 ++ C)))
            exact ((List.perm_middle (l₁ := slots σ e2)).append_left _).trans List.perm_middle

/-! ### an own call -/
def putL : List Nat → Env → Env → Env
  | i :: sl, o :: fin, e => putL sl fin (e.set i o)
  | _, _, e => e
def mCall (den : FD) (prs : Prs) (ms : M (List D)) : M D := fun e => match ms e with
  | .ok ds e1 => (match den ds with
    | .ok d fin => .ok d (putL (prs.map (·.2)) fin e1)
    | .exc x fin => .exc x (putL (prs.map (·.2)) fin e1)
    | .bad => .bad)
  | .exc x e1 => .exc x e1
  | .bad => .bad
theorem put_back {K : PySem.W.Frag} {σ : St} {vs : List V} {C : List Pr} {H : Hp} : ∀ {prs : Prs} {fin e : Env} {M : List Pr}, (∀ p ∈ prs, ∃ v, vs[p.1]? = some v ∧ σ[p.2]? = some (some v)) → Cov (pick (prs.map (·.1)) vs) fin → Cov σ e →
    Live K H (M ++ (slots (pick (prs.map (·.1)) vs) fin ++ (slots σ e ++ C))) → Cov σ (putL (prs.map (·.2)) fin e) ∧ Live K H (M ++ (slots σ (putL (prs.map (·.2)) fin e) ++ C))
  | [], fin, e, M, _, cf, c, l => by
    have : fin = [] := by
      have := cf.1
      simp [pick] at this
      exact List.length_eq_zero_iff.mp this.symm
    subst this
    exact ⟨c, by simpa [pick, slots, putL] using l⟩
  | (j, i) :: prs, fin, e, M, hp, cf, c, l => by
    obtain ⟨v, h1, h2⟩ := hp (j, i) List.mem_cons_self
    cases fin with
    | nil => have := cf.1; simp [pick] at this
    | cons o fin =>
      have cf2 : Cov (pick (prs.map (·.1)) vs) fin := Cov.cons (x := vs[j]?) (y := o) cf
      have hp2 : ∀ p ∈ prs, ∃ v, vs[p.1]? = some v ∧ σ[p.2]? = some (some v) := fun p hpm => hp p (List.mem_cons_of_mem _ hpm)
      show Cov σ (putL (prs.map (·.2)) fin (e.set i o)) ∧ Live K H (M ++ (slots σ (putL (prs.map (·.2)) fin (e.set i o)) ++ C))
      have l' : Live K H (M ++ (slots (vs[j]? :: pick (prs.map (·.1)) vs) (o :: fin) ++ (slots σ e ++ C))) := l
      rw [h1] at l'
      cases o with
      | none =>
        refine put_back hp2 cf2 (c.off i) ?_
        have l2 : Live K H (M ++ (slots (pick (prs.map (·.1)) vs) fin ++ (slots σ e ++ C))) := by simpa [slots] using l'
        have l3 : Live K H (slots σ e ++ (M ++ (slots (pick (prs.map (·.1)) vs) fin ++ C))) := by
          refine l2.perm ?_
          have q1 : (M ++ (slots (pick (prs.map (·.1)) vs) fin ++ (slots σ e ++ C))).Perm (M ++ (slots σ e ++ (slots (pick (prs.map (·.1)) vs) fin ++ C))) := by
            exact pm3.append_left _
          exact q1.trans pm3
        have l4 := LiveX.lose c i l3
        refine l4.perm ?_
        have q2 : (slots σ (e.set i none) ++ (M ++ (slots (pick (prs.map (·.1)) vs) fin ++ C))).Perm (M ++ (slots σ (e.set i none) ++ (slots (pick (prs.map (·.1)) vs) fin ++ C))) := by
          exact pm3
        exact q2.trans (pm3.append_left _)
      | some d =>
        refine put_back hp2 cf2 (c.put h2) ?_
        have l2 : Live K H (M ++ ((d, v) :: (slots (pick (prs.map (·.1)) vs) fin ++ (slots σ e ++ C)))) := by simpa [slots] using l'
        have l3 : Live K H (slots σ e ++ ((d, v) :: (M ++ (slots (pick (prs.map (·.1)) vs) fin ++ C)))) := by
          refine l2.perm ?_
          refine List.perm_middle.trans ?_
          refine List.Perm.trans (List.Perm.cons _ ?_) List.perm_middle.symm
          have q1 : (M ++ (slots (pick (prs.map (·.1)) vs) fin ++ (slots σ e ++ C))).Perm (M ++ (slots σ e ++ (slots (pick (prs.map (·.1)) vs) fin ++ C))) := by
            exact pm3.append_left _
          exact q1.trans pm3
        have l4 := LiveX.lose c i l3
        have l5 : Live K H ((d, v) :: (([] : List Pr) ++ (slots σ (e.set i none) ++ (M ++ (slots (pick (prs.map (·.1)) vs) fin ++ C))))) := l4.perm List.perm_middle
        have l6 := live_back (L := []) c h2 l5
        refine LiveX.perm l6 ?_
        show (slots σ (e.set i (some d)) ++ (M ++ (slots (pick (prs.map (·.1)) vs) fin ++ C))).Perm _
        have q2 : (slots σ (e.set i (some d)) ++ (M ++ (slots (pick (prs.map (·.1)) vs) fin ++ C))).Perm (M ++ (slots σ (e.set i (some d)) ++ (slots (pick (prs.map (·.1)) vs) fin ++ C))) := by
          exact pm3
        exact q2.trans (pm3.append_left _)
variable {k : Nat} {f : Addr} {fd : FuncData} {ps : List Str} {x : Str} {den : FD}
/-- how a body takes an exception of a callee -/
def LetX (X : Cx) (E : XD) : Prop := ∀ (pins : List (Addr × Obj)) (σ : St) (H : Hp) (s : Shared) (u : Value) (s' : Shared), Inv X pins σ H s → L2.CX X.prog X.w X.stack H s (fun cls dd H' => ∃ y, ExcAt X.mg y cls dd H' ∧ E y H') u s' → X.xe u s'
theorem call_reads {n : Nat} {ms : M (List D)} {σ : St} {H : Hp} {Q : VK} (k : rdE X.K E (mCall den prs ms) σ H Q) (hl : ∀ e ds e', ms e = .ok ds e' → ds.length = n) :
    rdR X.K E prs ms σ H fun vs H1 => ∃ H2C, H2C = H1 ∧ ∀ sp : Sp, sp = spD X.K X.mg n (prs.map (·.1)) den → sp vs H1 Q (fun cls dd H' => ∃ y, ExcAt X.mg y cls dd H' ∧ E y H') := by
  obtain ⟨env, C, cov, lv, q⟩ := k
  refine ⟨env, C, cov, lv, ?_⟩
  unfold mCall at q
  cases o : ms env with
  | exc z e' => rw [o] at q; exact q
  | bad => rw [o] at q; exact q
  | ok ds e1 =>
    rw [o] at q
    simp only at q
    intro vs H1 ln hp c1 l1
    refine ⟨H1, rfl, fun sp hsp => ?_⟩
    subst hsp
    refine ⟨ds, slots σ e1 ++ C, E, fun y cls dd H' ea ey => ⟨y, ea, ey⟩, by rw [ln]; exact hl _ _ _ o, ln, l1, ?_⟩
    cases o2 : den ds with
    | bad => rw [o2] at q; exact q
    | exc z fin =>
      rw [o2] at q
      intro H' cf l
      obtain ⟨c2, l2⟩ := put_back (M := []) hp cf c1 l
      exact q H' c2 l2
    | ok d fin =>
      rw [o2] at q
      intro v H' cf l
      obtain ⟨c2, l2⟩ := put_back (M := [(d, v)]) hp cf c1 l
      exact q v H' c2 l2
theorem ge_call {ms : M (List D)} (F : FnG X.prog X.w X.K X.mg X.base k f fd ps (spD X.K X.mg ps.length (prs.map (·.1)) den)) (hr : Room k X.A) (hgd : X.A.guards = some []) (hg : Gl X x) (hm : X.mg x = some (.ref f)) (hk : PySem.W.keepIn X.K (.ref f) = true) (hb : Binds X.K fd ps []) (hx : LetX X E)
    (ha : GR X E prs (e :: es) ms) (hl : ∀ e ds e', ms e = .ok ds e' → ds.length = ps.length) (hdb : (x == ("__debug__" : Str)) = false := by decide) (he : starEach (e :: es) X.env = (false, eval e X.env) :: starEach es X.env := by rfl) (hpl : (backTo pos (starEach es X.env)).any (·.1) = false := by rfl) :
    GE X E (.Call (.Name x p) (e :: es) [] pos) (mCall den prs ms) := by
  constructor
  intro pins s σ H Q I h
  apply wpAny_Call_Name_kw
  apply ld_glob I hg hm _ hdb
  have h2 := call_reads (n := ps.length) h hl
  apply PySem.W.callWith_K (h₀ := X.base) I.ok.mod.kin hk (thn (ha.run pos pins s σ H _ I h2) _) he hpl
  rintro us s1 ⟨vs, H1, I1, r, H2, eH, q⟩
  refine ⟨I1.kIn, ?_⟩
  have hsp := q _ rfl
  have hlen : us.length = ps.length := by
    rw [← r.length]
    exact F.len _ _ _ _ hsp
  have bnd := hb s1 us I1.kIn (by simpa using hlen)
  rw [List.append_nil] at bnd
  apply wpAny_call
  apply codeAny_mono (F.run X.A X.stack s1 H1 ⟨us, []⟩ us vs Q _ hr hgd I1.env0 bnd r hsp)
  intro res s' hq
  cases res with
  | error u => exact hx pins σ H1 s1 u s' I1 hq
  | ok fl =>
    cases fl with
    | ret u => exact I1.after hq
    | next => exact hq.elim
    | brk => exact hq.elim
    | cont => exact hq.elim
end
end DL
/-! Methods of lists, stores, built-ins one by one. -/
namespace DL
open PySem PySem.Spec PyProof.Rows L2

section
variable {X : Cx} {E : XD} {R : Nat → Bool} {e a b c o : Expr} {es : List Expr} {pos p apos : Pos} {K : PySem.W.Frag}

/-! ### the passing on of exceptions -/
theorem letx_body {P : Program} {w : World} {mg : Str → Option Value} {base : Heap} {N : List Str} {qual : Str} {scope : Scope} {f : Addr} {cd : Value} {A : Around} {outer : List PySem.Env} {s : Shared} {H : Hp} {EK : XK} {Ex : XD} (hE : ∀ x cls dd H', ExcAt mg x cls dd H' → Ex x H' → EK cls dd H') :
    LetX (cxOf (L2.CX P w) P w K mg base N qual scope f cd A outer s H EK) Ex := fun pins σ H0 s0 u s' I k =>
  passes_call (takes_of (E := EK) rfl rfl rfl rfl) (fun cls d σ H ⟨y, h1, h2⟩ => hE y cls d H h1 h2) pins σ H0 s0 u s' I k
theorem letx_blk {X : Cx} (h : X.xe = fun _ _ => False) : LetX X XD0 := fun pins σ H s u s' I k => by
  obtain ⟨_, _, _, _, _, _, _, _, _, _, _, _, y, _, z⟩ := k
  exact z.elim

/-! ### ints and flags in a list -/
def intsOf : List D → Option (List Int)
  | [] => some []
  | .int i :: xs => (intsOf xs).map (i :: ·)
  | _ => none
def flagsOf : List D → Option (List Bool)
  | [] => some []
  | .bl i :: xs => (flagsOf xs).map (i :: ·)
  | _ => none
theorem intsOf_map (ns : List Int) : intsOf (ns.map D.int) = some ns := by
  induction ns with
  | nil => rfl
  | cons n ns ih => simp [intsOf, ih]
theorem flagsOf_map (ns : List Bool) : flagsOf (ns.map D.bl) = some ns := by
  induction ns with
  | nil => rfl
  | cons n ns ih => simp [flagsOf, ih]
theorem intsOf_eq : ∀ {xs : List D} {ns : List Int}, intsOf xs = some ns → xs = ns.map D.int
  | [], ns, h => by simp [intsOf] at h; subst h; rfl
  | x :: xs, ns, h => by
    cases x <;> simp [intsOf] at h
    obtain ⟨ms, h1, rfl⟩ := h
    rw [intsOf_eq h1]
    rfl
theorem flagsOf_eq : ∀ {xs : List D} {ns : List Bool}, flagsOf xs = some ns → xs = ns.map D.bl
  | [], ns, h => by simp [flagsOf] at h; subst h; rfl
  | x :: xs, ns, h => by
    cases x <;> simp [flagsOf] at h
    obtain ⟨ms, h1, rfl⟩ := h
    rw [flagsOf_eq h1]
    rfl
theorem rpl_ints {H : Hp} : ∀ {ns : List Int} {vs : List V} {F G : List Addr}, RpL K H (ns.map D.int) vs F G → vs = ns.map V.int
  | [], vs, F, G, h => by simp only [List.map_nil, RpL] at h; rw [h.1]; rfl
  | n :: ns, vs, F, G, h => by
    simp only [List.map_cons, RpL] at h
    obtain ⟨v, vs', F1, F2, G1, G2, rfl, _, _, h1, h2⟩ := h
    simp only [Rp] at h1
    rw [h1.1, rpl_ints h2]
    rfl
theorem rpl_flags {H : Hp} : ∀ {ns : List Bool} {vs : List V} {F G : List Addr}, RpL K H (ns.map D.bl) vs F G → vs = ns.map V.bl
  | [], vs, F, G, h => by simp only [List.map_nil, RpL] at h; rw [h.1]; rfl
  | n :: ns, vs, F, G, h => by
    simp only [List.map_cons, RpL] at h
    obtain ⟨v, vs', F1, F2, G1, G2, rfl, _, _, h1, h2⟩ := h
    simp only [Rp] at h1
    rw [h1.1, rpl_flags h2]
    rfl
/-- a list's values -/
theorem Part.lst {H : Hp} {L : List Pr} {ow : Bool} {xs : List D} {v : V} (h : Part K H L (.lst ow xs) v) : ∃ (a : Addr) (vs : List V) (F G : List Addr), v = .ref a ∧ xs.length ≤ sizeLine ∧ H a = some (.lst vs) ∧ RpL K H xs vs F G := by
  obtain ⟨F, G, r⟩ := h.rp
  cases ow with
  | true =>
    simp only [Rp] at r
    obtain ⟨a, vs, F', rfl, zl, ha, _, hl⟩ := r
    exact ⟨a, vs, _, _, rfl, zl, ha, hl⟩
  | false =>
    simp only [Rp] at r
    obtain ⟨a, vs, G', rfl, zl, ha, _, _, hl⟩ := r
    exact ⟨a, vs, _, _, rfl, zl, ha, hl⟩
theorem Part.tup {H : Hp} {L : List Pr} {xs : List D} {v : V} (h : Part K H L (.tup xs) v) : ∃ (a : Addr) (vs : List V) (F G : List Addr), v = .ref a ∧ xs.length ≤ sizeLine ∧ SqT K H a vs ∧ RpL K H xs vs F G := by
  obtain ⟨F, G, r⟩ := h.rp
  simp only [Rp] at r
  obtain ⟨a, vs, G', rfl, zl, hl, q⟩ := r
  refine ⟨a, vs, _, _, rfl, zl, ?_, hl⟩
  rcases q with ⟨q, _⟩ | ⟨q, _⟩
  · exact .inl q
  · exact .inr q

/-! ### all, any, sum, abs, int, min, max -/
def D.all : D → Option D
  | .lst _ xs => (flagsOf xs).map fun bs => .bl (bs.all id)
  | _ => none
def D.any : D → Option D
  | .lst _ xs => (flagsOf xs).map fun bs => .bl (bs.any id)
  | _ => none
def D.sum : D → Option D
  | .lst _ xs => (intsOf xs).map fun bs => .int bs.sum
  | _ => none
theorem all_g : CallG K (rAll K) D.all := fun H L x d v Q e pt q => by
  cases x <;> simp [D.all] at e
  obtain ⟨bs, h1, rfl⟩ := e
  have := flagsOf_eq h1
  subst this
  obtain ⟨ad, vs, F, G, rfl, _, ha, hl⟩ := pt.lst
  rw [rpl_flags hl] at ha
  exact ⟨ad, bs, rfl, .inl (.inl ha), q⟩
theorem any_g : CallG K (rAny K) D.any := fun H L x d v Q e pt q => by
  cases x <;> simp [D.any] at e
  obtain ⟨bs, h1, rfl⟩ := e
  have := flagsOf_eq h1
  subst this
  obtain ⟨ad, vs, F, G, rfl, _, ha, hl⟩ := pt.lst
  rw [rpl_flags hl] at ha
  exact ⟨ad, bs, rfl, .inl (.inl ha), q⟩
theorem sum_g : CallG K (rSum K) D.sum := fun H L x d v Q e pt q => by
  cases x <;> simp [D.sum] at e
  obtain ⟨bs, h1, rfl⟩ := e
  have := intsOf_eq h1
  subst this
  obtain ⟨ad, vs, F, G, rfl, _, ha, hl⟩ := pt.lst
  rw [rpl_ints hl] at ha
  exact ⟨ad, bs, rfl, .inl (.inl ha), q⟩
theorem all_flat : Flat1 D.all := fun x d h => by cases x <;> simp [D.all] at h; obtain ⟨_, _, rfl⟩ := h; rfl
theorem any_flat : Flat1 D.any := fun x d h => by cases x <;> simp [D.any] at h; obtain ⟨_, _, rfl⟩ := h; rfl
theorem sum_flat : Flat1 D.sum := fun x d h => by cases x <;> simp [D.sum] at h; obtain ⟨_, _, rfl⟩ := h; rfl
def D.absI : D → Option D
  | .int i => some (.int (if i < 0 then -i else i))
  | _ => none
def D.toInt : D → Option D
  | .int i => some (.int i)
  | .bl k => some (.int (if k then 1 else 0))
  | _ => none
theorem abs_flat : Flat1 D.absI := fun x d h => by cases x <;> simp [D.absI] at h; subst h; rfl
theorem int_flat : Flat1 D.toInt := fun x d h => by cases x <;> simp [D.toInt] at h <;> (subst h; rfl)
theorem abs_g : CallG K (fun xs H Q => ∃ i, xs = [.int i] ∧ Q (.int (if i < 0 then -i else i)) H) D.absI := fun H L x d v Q e pt q => by
  cases x <;> simp [D.absI] at e
  subst e
  obtain rfl := pt.int
  exact ⟨_, rfl, q⟩
theorem int_g : CallG K (fun xs H Q => (∃ i, xs = [.int i] ∧ Q (.int i) H) ∨ ∃ k, xs = [.bl k] ∧ Q (.int (if k then 1 else 0)) H) D.toInt := fun H L x d v Q e pt q => by
  cases x <;> simp [D.toInt] at e
  · subst e
    obtain rfl := pt.bl
    exact .inr ⟨_, rfl, q⟩
  · subst e
    obtain rfl := pt.int
    exact .inl ⟨_, rfl, q⟩
/-- the greatest, the least of a list of ints -/
def D.maxL : D → Option D
  | .lst _ xs => (intsOf xs).bind fun ns => (ns.max?).map D.int
  | _ => none
def D.minL : D → Option D
  | .lst _ xs => (intsOf xs).bind fun ns => (ns.min?).map D.int
  | _ => none
theorem max_flat : Flat1 D.maxL := fun x d h => by
  cases x <;> simp only [D.maxL, reduceCtorEq] at h
  obtain ⟨_, _, h⟩ := Option.bind_eq_some_iff.mp h
  obtain ⟨_, _, rfl⟩ := Option.map_eq_some_iff.mp h
  rfl
theorem min_flat : Flat1 D.minL := fun x d h => by
  cases x <;> simp only [D.minL, reduceCtorEq] at h
  obtain ⟨_, _, h⟩ := Option.bind_eq_some_iff.mp h
  obtain ⟨_, _, rfl⟩ := Option.map_eq_some_iff.mp h
  rfl
theorem max_g : CallG K (rMax K) D.maxL := fun H L x d v Q e pt q => by
  cases x <;> simp only [D.maxL, reduceCtorEq] at e
  obtain ⟨ns, h1, e⟩ := Option.bind_eq_some_iff.mp e
  obtain ⟨m, h2, rfl⟩ := Option.map_eq_some_iff.mp e
  have := intsOf_eq h1
  subst this
  obtain ⟨ad, vs, F, G, rfl, _, ha, hl⟩ := pt.lst
  rw [rpl_ints hl] at ha
  have hm := (List.max?_eq_some_iff (xs := ns)).mp h2
  refine ⟨ad, ns, rfl, .inl (.inl ha), List.length_pos_of_mem hm.1, fun m' h3 h4 => ?_⟩
  have : m' = m := Int.le_antisymm (hm.2 m' h3) (h4 m hm.1)
  subst this
  exact q
theorem min_g : CallG K (rMin K) D.minL := fun H L x d v Q e pt q => by
  cases x <;> simp only [D.minL, reduceCtorEq] at e
  obtain ⟨ns, h1, e⟩ := Option.bind_eq_some_iff.mp e
  obtain ⟨m, h2, rfl⟩ := Option.map_eq_some_iff.mp e
  have := intsOf_eq h1
  subst this
  obtain ⟨ad, vs, F, G, rfl, _, ha, hl⟩ := pt.lst
  rw [rpl_ints hl] at ha
  have hm := (List.min?_eq_some_iff (xs := ns)).mp h2
  refine ⟨ad, ns, rfl, .inl (.inl ha), List.length_pos_of_mem hm.1, fun m' h3 h4 => ?_⟩
  have : m' = m := Int.le_antisymm (h4 m hm.1) (hm.2 m' h3)
  subst this
  exact q
def max2 : D → D → Option D := gI0 fun i j => .int (if j > i then j else i)
def min2 : D → D → Option D := gI0 fun i j => .int (if j < i then j else i)
theorem two_a {r : List V → Hp → VK → Prop} {f : Int → Int → Int} (h : ∀ i j H Q, Q (.int (f i j)) H → r [.int i, .int j] H Q) : CallA K r (two (gI0 fun i j => .int (f i j))) := fun H L ds d vs Q e ln lv q => by
  match ds, vs, ln, e with
  | [x, y], [v, w], _, e =>
    cases x <;> cases y <;> simp [two, gI0] at e
    subst e
    obtain ⟨rfl, l1⟩ := Live.int1 (show Live K H ((.int _, v) :: (.int _, w) :: L) from lv)
    obtain ⟨rfl, l2⟩ := Live.int1 l1
    exact h _ _ H Q (q _ _ (Live.flat l2 rfl))

/-! ### tuple(x), list(x), sorted(x) -/
def D.toTup : D → Option D
  | .lst _ xs => some (.tup xs)
  | .tup xs => some (.tup xs)
  | _ => none
def D.toLst : D → Option D
  | .lst _ xs => some (.lst true xs)
  | .tup xs => some (.lst true xs)
  | _ => none
theorem totup_a : CallA K (fun xs H Q => ∃ p ys, xs = [.ref p] ∧ ((SqL K H p ys ∧ ∀ l, H l = none → Q (.ref l) (upd H l (.tup ys))) ∨ (SqT K H p ys ∧ Q (.ref p) H))) (one D.toTup) := fun H L ds d vs Q e ln lv q => by
  match ds, vs, ln, e with
  | [x], [v], _, e =>
    have l1 : Live K H ((x, v) :: L) := lv
    cases x <;> simp [one, D.toTup] at e
    · subst e
      obtain ⟨ad, vs', F, G, rfl, _, hs, hl⟩ := (Live.part l1).tup
      exact ⟨ad, vs', rfl, .inr ⟨hs, q _ _ l1⟩⟩
    · subst e
      obtain ⟨ad, vs', rfl, zl, ha, ln', l2⟩ := l1.unl
      exact ⟨ad, vs', rfl, .inl ⟨.inl (.inl ha), fun l nl => q _ _ (LiveX.newT nl (by simp) zl ln' l2)⟩⟩
theorem tolst_a : CallA K (fun xs H Q => ∃ p ys, xs = [.ref p] ∧ (SqL K H p ys ∨ SqT K H p ys) ∧ ∀ l, H l = none → Q (.ref l) (upd H l (.lst ys))) (one D.toLst) := fun H L ds d vs Q e ln lv q => by
  match ds, vs, ln, e with
  | [x], [v], _, e =>
    have l1 : Live K H ((x, v) :: L) := lv
    cases x <;> simp [one, D.toLst] at e
    · subst e
      obtain ⟨ad, vs', rfl, zl, hs, ln', l2⟩ := l1.unt
      exact ⟨ad, vs', rfl, .inr hs, fun l nl => q _ _ (LiveX.newL nl (by simp) zl ln' l2)⟩
    · subst e
      obtain ⟨ad, vs', rfl, zl, ha, ln', l2⟩ := l1.unl
      exact ⟨ad, vs', rfl, .inl (.inl (.inl ha)), fun l nl => q _ _ (LiveX.newL nl (by simp) zl ln' l2)⟩
def sortI (ns : List Int) : List Int := ns.mergeSort (fun i j => decide (i ≤ j))
theorem sortI_the {ns ms : List Int} (h : ms.Perm ns) (s : ms.Pairwise (· ≤ ·)) : ms = sortI ns := by
  have h1 : (sortI ns).Pairwise (· ≤ ·) := by
    have := List.pairwise_mergeSort (le := fun i j : Int => decide (i ≤ j)) (fun a b c h1 h2 => by simp at *; omega) (fun a b => by simp; omega) ns
    exact this.imp fun h => by simpa using h
  exact (h.trans (List.mergeSort_perm ns _).symm).eq_of_pairwise (fun a b _ _ h1 h2 => Int.le_antisymm h1 h2) s h1
def D.sortedI : D → Option D
  | .lst _ xs => (intsOf xs).map fun ns => .lst true ((sortI ns).map D.int)
  | _ => none
theorem rpl_of_ints {H : Hp} : ∀ ns : List Int, RpL K H (ns.map D.int) (ns.map V.int) [] []
  | [] => by simp [RpL]
  | n :: ns => by
    simp only [List.map_cons]
    exact RpL.cons_iff.mpr ⟨[], [], [], [], rfl, rfl, by simp [Rp], rpl_of_ints ns⟩
theorem LiveX.ints {H : Hp} {ex : List Addr} {L : List Pr} (h : LiveX K H ex L) (ns : List Int) : LiveX K H ex ((ns.map D.int).zip (ns.map V.int) ++ L) := by
  obtain ⟨F, G, r, n, dj, x⟩ := h
  refine ⟨F, G, ?_, n, dj, x⟩
  rw [List.map_append, List.map_append, zip_fst (by simp), zip_snd (by simp)]
  exact (rpl_of_ints ns).append r
theorem sorted_a : CallA K (rSortedI K) (one D.sortedI) := fun H L ds d vs Q e ln lv q => by
  match ds, vs, ln, e with
  | [x], [v], _, e =>
    have l1 : Live K H ((x, v) :: L) := lv
    cases x <;> simp [one, D.sortedI] at e
    obtain ⟨ns, h1, rfl⟩ := e
    have := intsOf_eq h1
    subst this
    obtain ⟨ad, vs', F, G, rfl, zl, ha, hl⟩ := (Live.part l1).lst
    rw [rpl_ints hl] at ha
    refine ⟨ad, ns, rfl, .inl (.inl ha), fun ns' p hp hs np => ?_⟩
    obtain rfl := sortI_the hp hs
    refine q _ _ (LiveX.newL np (by simp) ?_ (by simp) (LiveX.ints (LiveX.drop l1) _))
    have : (sortI ns).length = ns.length := hp.length_eq
    simpa [this] using zl

/-! ### isinstance against a built-in class -/
def D.tyName : D → String
  | .non => "NoneType"
  | .bl _ => "bool"
  | .int _ => "int"
  | .str _ => "str"
  | .tup _ => "tuple"
  | .lst _ _ => "list"
  | .dct _ _ _ => "dict"
  | .ref _ => "?"
  | .scr _ => "?"
def isD (T : String) (d : D) : Option D := match d with
  | .ref _ => none
  | .scr _ => none
  | d => some (.bl (d.tyName == T || (d.tyName == "bool" && T == "int")))
theorem isD_flat {T : String} : Flat1 (isD T) := fun x d h => by
  cases x <;> simp [isD] at h <;> (subst h; rfl)
/-- what the library says of the seven classes against T -/
structure KitT (T : String) : Prop where
  all : ∀ n, n ∈ ["NoneType", "bool", "int", "str", "tuple", "list", "dict"] → kitB n T = some (n == T || (n == "bool" && T == "int"))
theorem Part.ty {H : Hp} {L : List Pr} {x : D} {v : V} (h : Part K H L x v) (nr : ∀ a, x ≠ .ref a) (nq : ∀ a, x ≠ .scr a) : TyX K H v (.type x.tyName) := by
  cases x with
  | non => obtain rfl := h.non; exact .base .non
  | bl b => obtain rfl := h.bl; exact .base (.bl b)
  | int i => obtain rfl := h.int; exact .base (.int i)
  | str s => obtain rfl := h.str; exact .base (.str s)
  | ref a => exact absurd rfl (nr a)
  | scr a => exact absurd rfl (nq a)
  | lst ow xs =>
    obtain ⟨a, vs, F, G, rfl, _, ha, _⟩ := h.lst
    exact .base (.lst ha)
  | tup xs =>
    obtain ⟨a, vs, F, G, rfl, _, hs, _⟩ := h.tup
    rcases hs with (hs | ⟨o, hs⟩) | ⟨o, its, n, hs, hc, _⟩
    · exact .base (.tup hs)
    · exact .fTuple hs
    · exact .kTuple hs hc
  | dct ow ks xs =>
    obtain ⟨F, G, r⟩ := h.rp
    have fin : ∀ (a : Addr) (vs : List V), DctAt H a ks vs → TyX K H (.ref a) (.type "dict") := fun a vs q => by
      rcases q with ⟨kk, _, _, q⟩ | ⟨kk, _, _, q⟩
      · exact .base (.dK q)
      · exact .base (.dT q)
    cases ow with
    | true =>
      simp only [Rp] at r
      obtain ⟨a, vs, F', rfl, q, _⟩ := r
      exact fin a vs q
    | false =>
      simp only [Rp] at r
      obtain ⟨a, vs, F', rfl, q, _⟩ := r
      exact fin a vs q
theorem gq_isi {T : String} {x : Str} {q : Env → Option D} {p1 p2 : Pos} (kt : KitT T) (hg : Gl X "isinstance") (hm : X.mg "isinstance" = none) (hT : PE X b (tC (.ty T))) (ha : GQ X e q)
    (he : starEach [e, b] X.env = (false, eval e X.env) :: starEach [b] X.env := by rfl) (he2 : starEach [b] X.env = (false, eval b X.env) :: starEach [] X.env := by rfl) (hpl : (backTo pos (starEach [b] X.env)).any (·.1) = false := by rfl) :
    GQ X (.Call (.Name "isinstance" p) [e, b] [] pos) (pApp (isD T) q) :=
  (pe_callB call_isi hg hm (by decide +kernel) (pa_cons ha (pa_cons hT pa_nil he2) he) (by decide) (by decide) he hpl).to fun σ H Q k => by
    obtain ⟨env, C, cov, lv, d, ed, k⟩ := k
    obtain ⟨y, ey, ed⟩ := Option.bind_eq_some_iff.mp ed
    refine ⟨env, C, cov, lv, y, ey, fun v pt => ?_⟩
    have nr : ∀ a, y ≠ .ref a := fun a z => by subst z; simp [isD] at ed
    have nq : ∀ a, y ≠ .scr a := fun a z => by subst z; simp [isD] at ed
    have hd : d = .bl (y.tyName == T || (y.tyName == "bool" && T == "int")) := by
      cases y <;> simp [isD, D.tyName] at ed ⊢ <;> first | exact ed.symm | exact absurd rfl (nr _) | exact absurd rfl (nq _)
    subst hd
    refine ⟨v, .ty T, .type y.tyName, .type T, _, rfl, .ty T, pt.ty nr nq, kit_ty (kt.all _ ?_), k _ (pt.live.parts rfl)⟩
    cases y <;> simp [D.tyName] <;> first | exact absurd rfl (nr _) | exact absurd rfl (nq _)

/-! ### list methods at a name -/
/-- a list of one's own that stands at a name is turned -/
def turnL (i : Nat) (f : List D → Option (List D)) : M D := fun e => match pV i e with
  | some (.lst true xs) => (match f xs with
    | some ys => .ok .non (e.set i (some (.lst true ys)))
    | none => .bad)
  | _ => .bad
def isLst (d : Option D) : Bool := match d with
  | some (.lst _ _) => true
  | _ => false
def mApnd (i : Nat) (m : M D) : M D := fun e => if isLst (pV i e) = true then (m.andThen fun d => turnL i fun xs => if xs.length < sizeLine then some (xs ++ [d]) else none) e else .bad
theorem isLst_some {d : Option D} (h : isLst d = true) : ∃ ow xs, d = some (.lst ow xs) := by
  cases d with
  | none => simp [isLst] at h
  | some d => cases d <;> simp [isLst] at h; exact ⟨_, _, rfl⟩
theorem Live.tyL {H : Hp} {L : List Pr} {ow : Bool} {xs : List D} {v : V} (h : Part K H L (.lst ow xs) v) : tyV K "list" v H := by
  obtain ⟨a, vs, F, G, rfl, _, ha, _⟩ := h.lst
  exact .inl ⟨rfl, vs, .inl (.inl ha)⟩
theorem same_slot {σ : St} {i : Nat} {v w : V} (h : σ[i]? = some (some v)) (k : σ[i]? = some (some w)) : v = w := by
  rw [h] at k
  exact Option.some.inj (Option.some.inj k)
theorem ge_append {i : Nat} {m : M D} (ho : PE X o (tVar i)) (hm : GE X E e m) (hs : starEach [e] X.env = (false, eval e X.env) :: starEach [] X.env := by rfl)
    (h : ∀ {to : TE} {t : TA}, PE X o to → PA X [e] t → PE X (.Call (.Attribute o "append" apos) [e] [] pos) (tBM X.K "list" rAppend to t)) : GE X E (.Call (.Attribute o "append" apos) [e] [] pos) (mApnd i m) :=
  (h ho (pa_cons hm pa_nil hs)).to fun σ H Q k => by
    obtain ⟨env, C, cov, lv, q⟩ := k
    unfold mApnd at q
    split at q
    · rename_i hi
      obtain ⟨ow, xs0, e0⟩ := isLst_some hi
      obtain ⟨v, hv, pt⟩ := lv.partAt cov (join_some e0)
      refine ⟨v, hv, Live.tyL pt, env, C, cov, lv, ?_⟩
      unfold M.andThen at q
      cases om : m env with
      | bad => rw [om] at q; exact q
      | exc z e' => rw [om] at q; exact q
      | ok d e1 =>
        rw [om] at q
        intro w H1 c1 l1
        simp only [turnL] at q
        split at q
        · rename_i xs e2
          split at q
          · rename_i ys e3
            split at e3
            · rename_i hz
              cases e3
              obtain ⟨v', hv', p⟩ := slots_get c1 (join_some e2)
              obtain rfl := same_slot hv hv'
              have l2 : Live X.K H1 ((.lst true xs, v) :: ((d, w) :: (slots σ (e1.set i none) ++ C))) := by
                refine l1.perm ?_
                refine List.Perm.trans (List.Perm.cons _ (p.append_right C)) (List.Perm.swap _ _ _)
              obtain ⟨ad, vs, rfl, zl, ha, ln, l3⟩ := LiveX.openL l2
              refine ⟨ad, vs, w, rfl, rfl, ha, by rw [ln]; exact hz, q .non _ (c1.put hv) ?_⟩
              have l4 : LiveX X.K H1 [ad] ((xs ++ [d]).zip (vs ++ [w]) ++ (slots σ (e1.set i none) ++ C)) := by
                rw [zip_app ln]
                refine l3.perm ?_
                rw [List.append_assoc]
                exact List.Perm.refl _
              have l5 := LiveX.closeL (ex := []) (ds := xs ++ [d]) (vs := vs ++ [w]) (by simp) (by simp; omega) (by simp [ln]) l4
              exact live_back (L := [(.non, .non)]) c1 hv ((Live.flat (d := .non) l5 rfl).perm (List.Perm.swap _ _ _))
            · cases e3
          · exact q.elim
        · exact q.elim
    · exact q.elim
end
end DL
/-! enumerate and zip over lists, tuples and texts, in any mixture. -/
namespace DL
open PySem PySem.Spec PyProof.Rows L2

inductive SrcV where
  | l (a : Addr) | t (a : Addr) | s (z : Str)
def SrcV.v : SrcV → V
  | .l a => .ref a
  | .t a => .ref a
  | .s z => .str z
def SrcV.val (k : Nat) : SrcV → Value
  | .l a => .ref a
  | .t a => .ref a
  | .s z => .str z k
def SrcV.cell : SrcV → List Addr
  | .l a => [a]
  | .t a => [a]
  | .s _ => []
def chars (z : Str) : List V := z.cps.toList.map fun c => .str ⟨#[c]⟩
def SrcV.has (K : PySem.W.Frag) (H : Hp) : SrcV → List V → Prop
  | .l a, xs => SqL K H a xs
  | .t a, xs => SqT K H a xs
  | .s z, xs => xs = chars z
def SrcV.st (k : Nat) : SrcV → Addr → Nat → Heap → Prop
  | .l a, it, i, h => h.IsListIter it a i
  | .t a, it, i, h => h.IsTupleIter it a i
  | .s z, it, i, h => h.IsStrIter it (strIterType z) z k i
def SrcV.obj (k : Nat) : SrcV → Obj
  | .l a => { cls := .type "list_iterator", data := .fields #[.ref a, .int 0 0] }
  | .t a => { cls := .type "tuple_iterator", data := .fields #[.ref a, .int 0 0] }
  | .s z => { cls := .type (strIterType z), data := .fields #[.str z k, .int 0 0] }

section
variable {X : Cx} {pins : List (Addr × Obj)} {σ : St} {H : Hp} {s : Shared}
theorem SrcV.st_obj {S : SrcV} {k : Nat} {it : Addr} {i : Nat} {h : Heap} (st : S.st k it i h) : ∃ o, h.get? it = some o ∧ ∀ v, o.data ≠ .cell v := by
  cases S with
  | l a =>
    obtain ⟨o, ho, hc, hd⟩ := (show h.IsListIter it a i from st)
    exact ⟨o, ho, fun v q => by rw [hd] at q; cases q⟩
  | t a =>
    obtain ⟨o, ho, hc, hd⟩ := (show h.IsTupleIter it a i from st)
    exact ⟨o, ho, fun v q => by rw [hd] at q; cases q⟩
  | s z =>
    obtain ⟨o, ho, hc, hd⟩ := (show h.IsStrIter it (strIterType z) z k i from st)
    exact ⟨o, ho, fun v q => by rw [hd] at q; cases q⟩
theorem SrcV.st_at {S : SrcV} {k : Nat} {it : Addr} {i : Nat} {h h' : Heap} (st : S.st k it i h) (e : ∀ o, h.get? it = some o → h'.get? it = some o) : S.st k it i h' := by
  cases S with
  | l a =>
    obtain ⟨o, ho, r⟩ := (show h.IsListIter it a i from st)
    exact ⟨o, e o ho, r⟩
  | t a =>
    obtain ⟨o, ho, r⟩ := (show h.IsTupleIter it a i from st)
    exact ⟨o, e o ho, r⟩
  | s z =>
    obtain ⟨o, ho, r⟩ := (show h.IsStrIter it (strIterType z) z k i from st)
    exact ⟨o, e o ho, r⟩
theorem SrcV.st_new {S : SrcV} {k : Nat} {it : Addr} {h : Heap} (e : h.get? it = some (S.obj k)) : S.st k it 0 h := by
  cases S with
  | l a => exact ⟨_, e, rfl, rfl⟩
  | t a => exact ⟨_, e, rfl, rfl⟩
  | s z => exact ⟨_, e, rfl, rfl⟩
theorem SrcV.inj {S : SrcV} {xs ys : List V} (I : Inv X pins σ H s) (h : S.has X.K H xs) (h' : S.has X.K H ys) : xs = ys := by
  cases S with
  | l a => exact I.list_inj h h'
  | t a => exact I.tuple_inj h h'
  | s z => exact (show xs = chars z from h).trans (show ys = chars z from h').symm
theorem drawsP {P : Program} {w : World} {A : Around} {it : Addr} {fp : List Addr} {n m : Nat} {Pa Pb : Nat → Value → Prop} {St : Nat → Heap → Prop} (D : Draws P w A it fp n Pa St) (e : n = m) (i : ∀ j v, Pa j v → Pb j v) : Draws P w A it fp m Pb St := by
  subst e
  exact ⟨D.live, D.frame, fun j s Q E hj st hQ => D.item j s Q E hj st fun x h' tk p => hQ x h' tk (i j x p), D.done⟩
/-- what such an iterator draws -/
theorem SrcV.draws {S : SrcV} {k : Nat} {A : Around} {it : Addr} {xs : List V} (I : Inv X pins σ H s) (hh : A.handled = none) (hs : S.has X.K H xs) (ne : ∀ c ∈ S.cell, c ≠ it) :
    ∃ rest : Heap → Prop, rest s.heap ∧ Draws X.prog X.w A it (it :: S.cell) xs.length (fun i v => ∃ x, xs[i]? = some x ∧ RelV x v) (fun i h => S.st k it i h ∧ rest h) := by
  cases S with
  | l a =>
    obtain ⟨its, rv, p, hz⟩ := I.list hs
    refine ⟨fun h => h.IsList a its.toArray, p.isList, ?_⟩
    exact drawsP (Draws.list hh it a (ne a (by simp [SrcV.cell])) its.toArray) (by rw [List.size_toArray]; exact rv.length.symm) fun j v hv => by
      have hv' : its[j]? = some v := by simpa using hv
      have hj : j < xs.length := by
        have := (List.getElem?_eq_some_iff.mp hv').1
        rw [rv.length]
        exact this
      obtain ⟨u, hu, ru⟩ := rv.get (x := xs[j]) (i := j) (by simp [hj])
      rw [hu] at hv'
      cases hv'
      exact ⟨_, by simp [hj], ru⟩
  | t a =>
    obtain ⟨its, rv, p, hz⟩ := I.tuple hs
    refine ⟨fun h => h.IsTuple a its.toArray, p, ?_⟩
    exact drawsP (Draws.tuple hh it a (ne a (by simp [SrcV.cell])) its.toArray) (by rw [List.size_toArray]; exact rv.length.symm) fun j v hv => by
      have hv' : its[j]? = some v := by simpa using hv
      have hj : j < xs.length := by
        have := (List.getElem?_eq_some_iff.mp hv').1
        rw [rv.length]
        exact this
      obtain ⟨u, hu, ru⟩ := rv.get (x := xs[j]) (i := j) (by simp [hj])
      rw [hu] at hv'
      cases hv'
      exact ⟨_, by simp [hj], ru⟩
  | s z =>
    have hs : xs = chars z := hs
    subst hs
    refine ⟨fun _ => True, trivial, ?_⟩
    have D := Draws.text (prog := X.prog) (w := X.w) hh it z k
    refine ⟨fun i h st => D.live i h st.1, fun i h h' st f => ⟨D.frame i h h' st.1 f, trivial⟩, fun i s Q E hi st hQ => ?_, fun s Q E st hE => ?_⟩
    · refine D.item i s Q E (by simpa [chars] using hi) st.1 fun x h' tk p st' sb => hQ x h' tk ?_ ⟨st', trivial⟩ sb
      obtain ⟨c, u, hc, rfl⟩ := p
      refine ⟨.str ⟨#[c]⟩, ?_, ⟨u, rfl⟩⟩
      have : z.cps.toList[i]? = some c := by simpa using hc
      simp [chars, this]
    · refine D.done s Q E ?_ hE
      have h2 : s.heap.IsStrIter it (strIterType z) z k (chars z).length := st.1
      simpa [chars] using h2
theorem SrcV.begins {S : SrcV} {k : Nat} {xs : List V} (I : Inv X pins σ H s) (hs : S.has X.K H xs) : ∃ B : Heap → Prop, B s.heap ∧ Begins (S.val k) (S.obj k) B ∧ ∀ c ∈ S.cell, c < s.heap.objs.size := by
  cases S with
  | l a =>
    obtain ⟨its, rv, p, hz⟩ := I.list hs
    refine ⟨_, p.isList, begins_list a its.toArray, fun c hc => ?_⟩
    have : c = a := by simpa [SrcV.cell] using hc
    subst this
    exact p.lt
  | t a =>
    obtain ⟨its, rv, p, hz⟩ := I.tuple hs
    refine ⟨_, p, begins_tuple a its.toArray, fun c hc => ?_⟩
    have : c = a := by simpa [SrcV.cell] using hc
    subst this
    obtain ⟨o, ho, _⟩ := p
    exact Heap.lt_size ho
  | s z => exact ⟨_, trivial, begins_text z k, fun c hc => by simp [SrcV.cell] at hc⟩
end

/-! ### enumerate -/
section
theorem meets_enum1 {v : Value} {o : Obj} {B : Heap → Prop} (hB : Begins v o B) :
    Meets (Builtin.«enumerate.__new__» ⟨[.type "enumerate", v], []⟩) (fun _ R s => B s.heap ∧
      R (.ok (.ret (.ref (s.heap.push o).objs.size))) { s with heap := (s.heap.push o).push { cls := .type "enumerate", data := .fields #[.none, .bool false, .ref s.heap.objs.size, rawInt 0, .none, .none] } }) :=
  .of_wp fun pg ww A R s hyp => by
    obtain ⟨h0, gg, dd, tt, oo⟩ := s
    obtain ⟨hb, fin⟩ := hyp
    have hsub := sub_enumerate
    have it1 : ∀ {A' : Around} {E : Value → Shared → Prop} {Q : Value → Shared → Prop}, Q (.ref h0.objs.size) ⟨h0.push o, gg, dd, tt, oo⟩ → wpAny (model pg ww) A' (pyIter v) Q E ⟨h0, gg, dd, tt, oo⟩ := fun q => hB.iter pg ww _ _ ⟨h0, gg, dd, tt, oo⟩ _ hb q
    wp_walk using it1
    apply wpAny_stack_any
    intro stk
    apply wpAny_pure
    split
    · rename_i c _ _ _ _ _
      cases (c == Value.type "enumerate") <;> (wp_walk using it1; exact ⟨_, rfl, fin⟩)
    · wp_walk using it1
      exact ⟨_, rfl, fin⟩
theorem call_enum1 {prog : Program} {w : World} {A : Around} {E : Value → Shared → Prop} {s : Shared} {v : Value} {o : Obj} {B : Heap → Prop} {Q : Value → Shared → Prop} (hB : Begins v o B) (hb : B s.heap)
    (q : ∀ h', IsEnum h' (s.heap.objs.size + 1) s.heap.objs.size 0 .none → h'.get? s.heap.objs.size = some o → (∀ b u, s.heap.get? b = some u → h'.get? b = some u) → Q (.ref (s.heap.objs.size + 1)) { s with heap := h' }) :
    wpAny (model prog w) A (call (.type "enumerate") [v]) Q E s := by
  have sz : (s.heap.push o).objs.size = s.heap.objs.size + 1 := Heap.size_push ..
  have e1 : ((s.heap.push o).push { cls := .type "enumerate", data := .fields #[.none, .bool false, .ref s.heap.objs.size, rawInt 0, .none, .none] }).get? (s.heap.objs.size + 1) = some { cls := .type "enumerate", data := .fields #[.none, .bool false, .ref s.heap.objs.size, rawInt 0, .none, .none] } := by
    rw [← sz]
    exact Heap.get?_push_size _ rfl
  apply callType_new F.called_enumerate (by decide) (F.typeCall_enumerate_1 _) (F.newCall_enumerate_1 _) (fun obj => F.args_object_init_2 obj _) F.entry_enumerate_new (meets_enum1 hB)
  refine ⟨hb, ?_⟩
  show _ ∧ _
  rw [sz]
  exact ⟨⟨_, e1, rfl⟩, q _ e1 (Heap.get?_push_of_some _ (Heap.get?_push_size _ hB.free)) fun b u z => Heap.get?_push_of_some _ (Heap.get?_push_of_some _ z)⟩
def ItEn (K : PySem.W.Frag) (S : SrcV) : It :=
  ⟨fun i H => ∃ (xs : List V) (x : V), S.has K H xs ∧ xs[i]? = some x, fun i H v H' => ∃ T x, v = .ref T ∧ H T = none ∧ H' = upd H T (.tup [.int (i : Nat), x]) ∧ ∀ xs, S.has K H xs → xs[i]? = some x, fun i H => ∃ xs : List V, S.has K H xs ∧ xs.length = i⟩
theorem turn_en {P : Program} {w : World} {K : PySem.W.Frag} {elts : List Expr} {kk : Nat} {tpos : Pos} {S : SrcV} {k : Nat} {e it : Addr} (hne : e ≠ it) (h1 : ∀ c ∈ S.cell, c ≠ it) (h2 : e ∉ S.cell) :
    Turn P w K (.Tuple elts kk tpos) (ItEn K S) [e, it] e (fun i h => (∃ old, IsEnum h e it (0 + ((i : Nat) : Int)) old) ∧ S.st k it i h) where
  mem := by simp
  obj := fun i h st b hb => by
    obtain ⟨⟨old, he⟩, hi⟩ := st
    have hb2 : b = e ∨ b = it := by simpa using hb
    rcases hb2 with rfl | rfl
    · exact ⟨_, he, fun v q => nomatch q⟩
    · exact SrcV.st_obj hi
  keep := fun i h h' st kp => by
    obtain ⟨⟨old, he⟩, hi⟩ := st
    exact ⟨⟨old, kp e (by simp) _ he⟩, SrcV.st_at hi fun o q => kp it (by simp) o q⟩
  item := by
    intro X hP hw hK hc i pins s σ H E I hf st hg
    subst hP hw hK
    obtain ⟨xs, x, hxs, hx⟩ := hg
    obtain ⟨rest, hr, D⟩ := SrcV.draws (k := k) (A := X.A.in1) I (I.ok.hd hc) hxs h1
    have W := GoesN.enumFrom (elts := elts) (x1 := kk) (pos := tpos) 0 D e hne (by
      intro z
      rcases List.mem_cons.mp z with z | z
      · exact hne z
      · exact h2 z) List.mem_cons_self
    have hi : i < xs.length := (List.getElem?_eq_some_iff.mp hx).1
    have hel : e < s.heap.objs.size := by
      obtain ⟨⟨old, he⟩, _⟩ := st
      exact Heap.lt_size he
    have hil : it < s.heap.objs.size := by
      obtain ⟨o, ho, _⟩ := SrcV.st_obj st.2
      exact Heap.lt_size ho
    apply wpAny_mono (W.goes i s (fun v s2 => ∃ x H', Inv X pins σ H' s2 ∧ RelV x v ∧ (ItEn X.K S).yld i H x H' ∧ ((∃ old, IsEnum s2.heap e it (0 + (((i + 1 : Nat)) : Int)) old) ∧ S.st k it (i + 1) s2.heap) ∧ ∀ b ∈ [e, it], H' b = none) E hi ⟨st.1, st.2, hr⟩ (fun v h' tk hY st' kp ht => ?_))
    · rintro r s1 ⟨v, rfl, q⟩
      exact ⟨v, rfl, q⟩
    · exact fun _ _ q => q
    · obtain ⟨T, t, u, rfl, hT, ⟨x', hx', ru⟩, hTup⟩ := hY
      have new : ObjOk X.prog X.w (upd H T (.tup [.int ((i : Nat) : Int), x'])) h' T (.tup [.int ((i : Nat) : Int), x']) := by
        refine ⟨by show 2 ≤ sizeLine; decide, [.int (0 + ((i : Nat) : Int)) t, u], .cons ⟨t, by rw [Int.zero_add]⟩ (.cons ru .nil), hTup⟩
      refine ⟨.ref T, _, I.turnedNew (t' := tk) (ch := [e, it]) (fun b o hb q => kp b o hb q) hf hT new, rfl, ⟨T, x', rfl, I.hok.fresh hT, rfl, fun ys hys => by rw [SrcV.inj I hys hxs]; exact hx'⟩, ⟨st'.1, st'.2.1⟩, fun b hb => ?_⟩
      have hlt : b < s.heap.objs.size := by
        have hb2 : b = e ∨ b = it := by simpa using hb
        rcases hb2 with rfl | rfl
        · exact hel
        · exact hil
      rw [upd_ne (Nat.ne_of_lt (Nat.lt_of_lt_of_le hlt hT))]
      exact (hf b hb).1
  done := by
    intro X hP hw hK hc i pins s σ H E I hf st hg
    subst hP hw hK
    obtain ⟨xs, hxs, hx⟩ := hg
    obtain ⟨rest, hr, D⟩ := SrcV.draws (k := k) (A := X.A.in1) I (I.ok.hd hc) hxs h1
    have W := GoesN.enumFrom (elts := elts) (x1 := kk) (pos := tpos) 0 D e hne (by
      intro z
      rcases List.mem_cons.mp z with z | z
      · exact hne z
      · exact h2 z) List.mem_cons_self
    subst hx
    apply wpAny_mono (W.stops s (fun s2 => Inv X pins σ H s2) E ⟨st.1, st.2, hr⟩ fun h' tk kp ht => I.turnedL (t' := tk) (ch := [e, it]) (fun b o hb q => kp b o hb q) hf)
    · exact fun _ _ q => q
    · exact fun _ _ q => q
  self := fun A i s Q E st q => by
    obtain ⟨⟨old, he⟩, _⟩ := st
    exact wpAny_pyIter_enum he q
def iEn (K : PySem.W.Frag) (ta : TA) : TI := fun σ H R => ta σ H fun vs H1 => ∃ (S : SrcV) (xs : List V), vs = [S.v] ∧ S.has K H1 xs ∧ R (ItEn K S) H1
theorem rel_src {S : SrcV} {u : Value} (r : RelV S.v u) : ∃ k, u = S.val k := by
  cases S with
  | l a => exact ⟨0, r⟩
  | t a => exact ⟨0, r⟩
  | s z => exact r
theorem pi_en {X : Cx} {e : Expr} {ta : TA} {p pos tpos : Pos} {elts : List Expr} {kk : Nat} (hg : Gl X "enumerate") (hm : X.mg "enumerate" = none) (ha : PA X [e] ta) (hs : starEach [e] X.env = [(false, eval e X.env)] := by rfl) :
    PI X (.Tuple elts kk tpos) (.Call (.Name "enumerate" p) [e] [] pos) (iEn X.K ta) := by
  constructor
  intro pins s σ H R I h
  refine Call_ (ld_blt I hg hm boot_enumerate (PyProof.Rows.callWith_type1 (thn (ha.run pos pins s σ H _ I h) ?_) hs rfl))
  rintro us s1 ⟨vs, H1, I1, r1, S, xs, ex, hx, q⟩
  subst ex
  cases r1 with
  | cons r rr =>
    cases rr
    obtain ⟨k, rfl⟩ := rel_src r
    obtain ⟨B, hb, hB, lt⟩ := SrcV.begins (k := k) I1 hx
    apply call_enum1 hB hb
    intro h' he hit kp
    apply wpAny_pyIter_enum he
    have I2 : Inv X pins σ H1 { s1 with heap := h' } := I1.kept (t' := s1.toks) kp
    have ltc : ∀ c ∈ S.cell, ∀ j, c ≠ s1.heap.objs.size + j := fun c hc j z => by
      have := lt c hc
      rw [z] at this
      exact absurd this (by
        show ¬ (s1.heap.objs.size + j : Nat) < s1.heap.objs.size
        omega)
    refine ⟨s1.heap.objs.size + 1, [s1.heap.objs.size + 1, s1.heap.objs.size], _, _, H1, rfl, I2, turn_en (S := S) (k := k) (Nat.succ_ne_self _) (fun c hc => ltc c hc 0) (fun hc => ltc _ hc 1 rfl), ⟨⟨.none, he⟩, SrcV.st_new hit⟩, fun b hb => ?_, q⟩
    have hle : s1.heap.objs.size ≤ b := by
      have hb2 : b = s1.heap.objs.size + 1 ∨ b = s1.heap.objs.size := by simpa using hb
      rcases hb2 with rfl | rfl
      · exact Nat.le_add_right _ _
      · exact Nat.le_refl _
    exact I1.fpOk hle (I1.hok.fresh hle)

/-! ### zip of two -/
def ItZp (K : PySem.W.Frag) (S1 S2 : SrcV) : It :=
  ⟨fun i H => ∃ (xs ys : List V) (x y : V), S1.has K H xs ∧ S2.has K H ys ∧ xs[i]? = some x ∧ ys[i]? = some y,
    fun i H v H' => ∃ T x y, v = .ref T ∧ H T = none ∧ H' = upd H T (.tup [x, y]) ∧ (∀ xs, S1.has K H xs → xs[i]? = some x) ∧ ∀ ys, S2.has K H ys → ys[i]? = some y,
    fun i H => ∃ xs ys : List V, S1.has K H xs ∧ S2.has K H ys ∧ min xs.length ys.length = i⟩
theorem turn_zp {P : Program} {w : World} {K : PySem.W.Frag} {elts : List Expr} {kk : Nat} {tpos : Pos} {S1 S2 : SrcV} {k1 k2 : Nat} {N : Addr} (h1 : ∀ c ∈ S1.cell, c < N) (h2 : ∀ c ∈ S2.cell, c < N) :
    Turn P w K (.Tuple elts kk tpos) (ItZp K S1 S2) [N + 4, N + 3, N, N + 1, N + 2] (N + 4) (fun i h => IsZip h (N + 4) (N + 2) (N + 3) .none ∧ IsTupOf2 h (N + 2) (.ref N) (.ref (N + 1)) ∧ (∃ a1 a2, IsTupOf2 h (N + 3) a1 a2) ∧ S1.st k1 N i h ∧ S2.st k2 (N + 1) i h) where
  mem := by simp
  obj := fun i h st b hb => by
    obtain ⟨hz, hT, ⟨a1, a2, hO⟩, s1, s2⟩ := st
    have hb2 : b = N + 4 ∨ b = N + 3 ∨ b = N ∨ b = N + 1 ∨ b = N + 2 := by simpa using hb
    rcases hb2 with rfl | rfl | rfl | rfl | rfl
    · exact ⟨_, hz, fun v q => nomatch q⟩
    · exact ⟨_, hO, fun v q => nomatch q⟩
    · exact SrcV.st_obj s1
    · exact SrcV.st_obj s2
    · exact ⟨_, hT, fun v q => nomatch q⟩
  keep := fun i h h' st kp => by
    obtain ⟨hz, hT, ⟨a1, a2, hO⟩, s1, s2⟩ := st
    exact ⟨kp _ (by simp) _ hz, kp _ (by simp) _ hT, ⟨a1, a2, kp _ (by simp) _ hO⟩, SrcV.st_at s1 fun o q => kp N (by simp) o q, SrcV.st_at s2 fun o q => kp (N + 1) (by simp) o q⟩
  item := by
    intro X hP hw hK hc i pins s σ H E I hf st hg
    subst hP hw hK
    obtain ⟨xs, ys, x, y, hxs, hys, hx, hy⟩ := hg
    have n1 : ∀ c ∈ S1.cell, c ≠ N := fun c hc z => Nat.lt_irrefl _ (z ▸ h1 c hc)
    have n2 : ∀ c ∈ S2.cell, c ≠ N + 1 := fun c hc z => Nat.lt_irrefl _ (Nat.lt_of_succ_lt (z ▸ h2 c hc))
    obtain ⟨rest1, hr1, D1⟩ := SrcV.draws (k := k1) (A := X.A.in1) I (I.ok.hd hc) hxs n1
    obtain ⟨rest2, hr2, D2⟩ := SrcV.draws (k := k2) (A := X.A.in1) I (I.ok.hd hc) hys n2
    have W := GoesN.zip2 (elts := elts) (x1 := kk) (pos := tpos) (zip_sep2 h1 h2) D1 D2
    have hi1 : i < xs.length := (List.getElem?_eq_some_iff.mp hx).1
    have hi2 : i < ys.length := (List.getElem?_eq_some_iff.mp hy).1
    have lt : ∀ b ∈ [N + 4, N + 3, N, N + 1, N + 2], b < s.heap.objs.size := fun b hb => by
      obtain ⟨hz, hT, ⟨a1, a2, hO⟩, s1, s2⟩ := st
      have hb2 : b = N + 4 ∨ b = N + 3 ∨ b = N ∨ b = N + 1 ∨ b = N + 2 := by simpa using hb
      rcases hb2 with rfl | rfl | rfl | rfl | rfl
      · exact Heap.lt_size hz
      · exact Heap.lt_size hO
      · obtain ⟨o, ho, _⟩ := SrcV.st_obj s1
        exact Heap.lt_size ho
      · obtain ⟨o, ho, _⟩ := SrcV.st_obj s2
        exact Heap.lt_size ho
      · exact Heap.lt_size hT
    obtain ⟨hz, hT, hO, s1, s2⟩ := st
    apply wpAny_mono (W.goes i s (fun v s2 => ∃ x H', Inv X pins σ H' s2 ∧ RelV x v ∧ (ItZp X.K S1 S2).yld i H x H' ∧ (IsZip s2.heap (N + 4) (N + 2) (N + 3) .none ∧ IsTupOf2 s2.heap (N + 2) (.ref N) (.ref (N + 1)) ∧ (∃ a1 a2, IsTupOf2 s2.heap (N + 3) a1 a2) ∧ S1.st k1 N (i + 1) s2.heap ∧ S2.st k2 (N + 1) (i + 1) s2.heap) ∧ ∀ b ∈ [N + 4, N + 3, N, N + 1, N + 2], H' b = none) E (by omega) ⟨hz, hT, hO, ⟨s1, hr1⟩, s2, hr2⟩ (fun v h' tk hY st' kp ht => ?_))
    · rintro r s1 ⟨v, rfl, q⟩
      exact ⟨v, rfl, q⟩
    · exact fun _ _ q => q
    · obtain ⟨T, u1, u2, rfl, hT', ⟨x', hx', ru⟩, ⟨y', hy', ru2⟩, hTup⟩ := hY
      have new : ObjOk X.prog X.w (upd H T (.tup [x', y'])) h' T (.tup [x', y']) := ⟨by show 2 ≤ sizeLine; decide, [u1, u2], .cons ru (.cons ru2 .nil), hTup⟩
      refine ⟨.ref T, _, I.turnedNew (t' := tk) (ch := [N + 4, N + 3, N, N + 1, N + 2]) (fun b o hb q => kp b o (fun z => hb ?_) q) hf hT' new, rfl, ⟨T, x', y', rfl, I.hok.fresh hT', rfl, fun l hl => by rw [SrcV.inj I hl hxs]; exact hx', fun l hl => by rw [SrcV.inj I hl hys]; exact hy'⟩, ⟨st'.1, st'.2.1, st'.2.2.1, st'.2.2.2.1.1, st'.2.2.2.2.1⟩, fun b hb => ?_⟩
      · have z2 : b = N + 4 ∨ b = N + 3 ∨ b = N ∨ b = N + 1 := by simpa using z
        rcases z2 with rfl | rfl | rfl | rfl <;> simp
      · rw [upd_ne (Nat.ne_of_lt (Nat.lt_of_lt_of_le (lt b hb) hT'))]
        exact (hf b hb).1
  done := by
    intro X hP hw hK hc i pins s σ H E I hf st hg
    subst hP hw hK
    obtain ⟨xs, ys, hxs, hys, hx⟩ := hg
    have n1 : ∀ c ∈ S1.cell, c ≠ N := fun c hc z => Nat.lt_irrefl _ (z ▸ h1 c hc)
    have n2 : ∀ c ∈ S2.cell, c ≠ N + 1 := fun c hc z => Nat.lt_irrefl _ (Nat.lt_of_succ_lt (z ▸ h2 c hc))
    obtain ⟨rest1, hr1, D1⟩ := SrcV.draws (k := k1) (A := X.A.in1) I (I.ok.hd hc) hxs n1
    obtain ⟨rest2, hr2, D2⟩ := SrcV.draws (k := k2) (A := X.A.in1) I (I.ok.hd hc) hys n2
    have W := GoesN.zip2 (elts := elts) (x1 := kk) (pos := tpos) (zip_sep2 h1 h2) D1 D2
    obtain ⟨hz, hT, hO, s1, s2⟩ := st
    subst hx
    apply wpAny_mono (W.stops s (fun s2 => Inv X pins σ H s2) E ⟨hz, hT, hO, ⟨s1, hr1⟩, s2, hr2⟩ fun h' tk kp ht => I.turnedL (t' := tk) (ch := [N + 4, N + 3, N, N + 1, N + 2]) (fun b o hb q => kp b o (fun z => hb ?_) q) hf)
    · exact fun _ _ q => q
    · exact fun _ _ q => q
    · have z2 : b = N + 4 ∨ b = N + 3 ∨ b = N ∨ b = N + 1 := by simpa using z
      rcases z2 with rfl | rfl | rfl | rfl <;> simp
  self := fun A i s Q E st q => wpAny_pyIter_zip st.1 q
def iZp (K : PySem.W.Frag) (ta : TA) : TI := fun σ H R => ta σ H fun vs H1 => ∃ (S1 S2 : SrcV) (xs ys : List V), vs = [S1.v, S2.v] ∧ S1.has K H1 xs ∧ S2.has K H1 ys ∧ R (ItZp K S1 S2) H1
theorem pi_zp {X : Cx} {e e2 : Expr} {ta : TA} {p pos tpos : Pos} {elts : List Expr} {kk : Nat} (hg : Gl X "zip") (hm : X.mg "zip" = none) (ha : PA X [e, e2] ta)
    (hs : starEach [e, e2] X.env = (false, eval e X.env) :: starEach [e2] X.env := by rfl) (hpl : (backTo pos (starEach [e2] X.env)).any (·.1) = false := by rfl) :
    PI X (.Tuple elts kk tpos) (.Call (.Name "zip" p) [e, e2] [] pos) (iZp X.K ta) := by
  constructor
  intro pins s σ H R I h
  refine Call_ (ld_blt I hg hm PyProof.Rows.boot_zip (PyProof.Rows.callWith_type1 (thn (ha.run pos pins s σ H _ I h) ?_) hs hpl))
  rintro us s1 ⟨vs, H1, I1, r1, S1, S2, xs, ys, ex, hx, hy, q⟩
  subst ex
  cases r1 with
  | cons r rr =>
    cases rr with
    | cons r' rr =>
      cases rr
      obtain ⟨k1, rfl⟩ := rel_src r
      obtain ⟨k2, rfl⟩ := rel_src r'
      obtain ⟨B1, hb1, hB1, lt1⟩ := SrcV.begins (k := k1) I1 hx
      obtain ⟨B2, hb2, hB2, lt2⟩ := SrcV.begins (k := k2) I1 hy
      apply zip_begins2 hB1 hB2 hb1 hb2
      intro h' hz hT hO g1 g2 hsz kp
      apply wpAny_pyIter_zip hz
      have I2 : Inv X pins σ H1 { s1 with heap := h' } := I1.kept (t' := s1.toks) kp
      refine ⟨s1.heap.objs.size + 4, [s1.heap.objs.size + 4, s1.heap.objs.size + 3, s1.heap.objs.size, s1.heap.objs.size + 1, s1.heap.objs.size + 2], _, _, H1, rfl, I2, turn_zp (S1 := S1) (S2 := S2) (k1 := k1) (k2 := k2) lt1 lt2, ⟨hz, hT, ⟨_, _, hO⟩, SrcV.st_new g1, SrcV.st_new g2⟩, fun b hb => ?_, q⟩
      have hle : s1.heap.objs.size ≤ b := by
        have hb2 : b = s1.heap.objs.size + 4 ∨ b = s1.heap.objs.size + 3 ∨ b = s1.heap.objs.size ∨ b = s1.heap.objs.size + 1 ∨ b = s1.heap.objs.size + 2 := by simpa using hb
        rcases hb2 with rfl | rfl | rfl | rfl | rfl <;> first | exact Nat.le_refl _ | exact Nat.le_add_right _ _
      exact I1.fpOk hle (I1.hok.fresh hle)

/-! ### over trees -/
theorem Part.lstAt {K : PySem.W.Frag} {H : Hp} {L : List Pr} {ow : Bool} {xs : List D} {v : V} (h : Part K H L (.lst ow xs) v) : ∃ (a : Addr) (vs : List V), v = .ref a ∧ xs.length ≤ sizeLine ∧ H a = some (.lst vs) ∧ vs.length = xs.length ∧
    ∀ (i : Nat) (y : D), xs[i]? = some y → ∃ w, vs[i]? = some w ∧ Part K H L y w := by
  obtain ⟨F, G, r, n, dj, F0, G0, q, sF, sG⟩ := h
  cases ow with
  | true =>
    simp only [Rp] at q
    obtain ⟨a, vs, F', rfl, zl, ha, rfl, hl⟩ := q
    refine ⟨a, vs, rfl, zl, ha, hl.length, fun i y hy => ?_⟩
    obtain ⟨w, F2, G2, ew, qw, t1, t2⟩ := hl.at hy
    exact ⟨w, ew, F, G, r, n, dj, F2, G2, qw, fun z hz => sF z (List.mem_cons_of_mem _ (t1 z hz)), fun z hz => sG z (t2 z hz)⟩
  | false =>
    simp only [Rp] at q
    obtain ⟨a, vs, G', rfl, zl, ha, rfl, rfl, hl⟩ := q
    refine ⟨a, vs, rfl, zl, ha, hl.length, fun i y hy => ?_⟩
    obtain ⟨w, F2, G2, ew, qw, t1, t2⟩ := hl.at hy
    exact ⟨w, ew, F, G, r, n, dj, F2, G2, qw, fun z hz => sF z (t1 z hz), fun z hz => sG z (List.mem_cons_of_mem _ (t2 z hz))⟩
theorem Part.tupAt {K : PySem.W.Frag} {H : Hp} {L : List Pr} {xs : List D} {v : V} (h : Part K H L (.tup xs) v) : ∃ (a : Addr) (vs : List V), v = .ref a ∧ xs.length ≤ sizeLine ∧ SqT K H a vs ∧ vs.length = xs.length ∧
    ∀ (i : Nat) (y : D), xs[i]? = some y → ∃ w, vs[i]? = some w ∧ Part K H L y w := by
  obtain ⟨F, G, r, n, dj, F0, G0, q, sF, sG⟩ := h
  simp only [Rp] at q
  obtain ⟨a, vs, G', rfl, zl, hl, q⟩ := q
  have sq : SqT K H a vs := by
    rcases q with ⟨q, _⟩ | ⟨q, _⟩
    · exact .inl q
    · exact .inr q
  have sub : ∀ z ∈ G', z ∈ G0 := by
    rcases q with ⟨_, rfl⟩ | ⟨_, rfl⟩
    · exact fun z hz => List.mem_cons_of_mem _ hz
    · exact fun z hz => hz
  refine ⟨a, vs, rfl, zl, sq, hl.length, fun i y hy => ?_⟩
  obtain ⟨w, F2, G2, ew, qw, t1, t2⟩ := hl.at hy
  exact ⟨w, ew, F, G, r, n, dj, F2, G2, qw, fun z hz => sF z (t1 z hz), fun z hz => sG z (sub z (t2 z hz))⟩
theorem chars_frz (z : Str) : D.allFrz (z.cps.toList.map fun c => .str ⟨#[c]⟩) = true := by
  generalize z.cps.toList = l
  induction l with
  | nil => rfl
  | cons c l ih => simp [D.allFrz, D.isFrz, ih]
theorem Live.partIn {K : PySem.W.Frag} {H : Hp} {M : List Pr} {d : D} {v : V} (l : Live K H M) (m : (d, v) ∈ M) : Part K H M d v := by
  obtain ⟨A, B, rfl⟩ := List.append_of_mem m
  exact (Live.part (l.perm List.perm_middle)).perm List.perm_middle.symm
theorem src_of {K : PySem.W.Frag} {H : Hp} {L : List Pr} {d : D} {v : V} {ys : List D} (lv : Live K H ((d, v) :: L)) (e : d.iter = some ys) : ∃ S : SrcV, v = S.v ∧ D.allFrz ys = true ∧ ys.length ≤ sizeLine ∧
    ∀ (H' : Hp) (M : List Pr), Live K H' M → (d.frz, v) ∈ M → ∃ xs, S.has K H' xs ∧ xs.length = ys.length ∧ ∀ (i : Nat) (y : D), ys[i]? = some y → ∃ w, xs[i]? = some w ∧ Part K H' M y w := by
  cases d with
  | lst ow xs =>
    cases e
    obtain ⟨a, vs, rfl, zl, ha, ln, _⟩ := (Live.part lv).lstAt
    refine ⟨.l a, rfl, D.frzL_allFrz xs, by rw [D.frzL_map, List.length_map]; exact zl, fun H' M l m => ?_⟩
    have pt := l.partIn m
    simp only [D.frz] at pt
    obtain ⟨a', vs', ea, _, ha', ln', at'⟩ := pt.lstAt
    cases ea
    exact ⟨vs', .inl (.inl ha'), ln', at'⟩
  | tup xs =>
    cases e
    obtain ⟨a, vs, rfl, zl, ha, ln, _⟩ := (Live.part lv).tupAt
    refine ⟨.t a, rfl, D.frzL_allFrz xs, by rw [D.frzL_map, List.length_map]; exact zl, fun H' M l m => ?_⟩
    have pt := l.partIn m
    simp only [D.frz] at pt
    obtain ⟨a', vs', ea, _, ha', ln', at'⟩ := pt.tupAt
    cases ea
    exact ⟨vs', ha', ln', at'⟩
  | str z =>
    simp only [D.iter] at e
    split at e
    · rename_i hz
      cases e
      obtain rfl := (Live.part lv).str
      refine ⟨.s z, rfl, chars_frz z, by simpa [Str.length] using hz, fun H' M l m => ⟨chars z, rfl, by simp [chars], fun i y hy => ?_⟩⟩
      rw [List.getElem?_map] at hy
      obtain ⟨c, hc, rfl⟩ := Option.map_eq_some_iff.mp hy
      exact ⟨.str ⟨#[c]⟩, by simp [chars, hc], l.parts rfl⟩
    · cases e
  | non => simp [D.iter] at e
  | bl _ => simp [D.iter] at e
  | int _ => simp [D.iter] at e
  | ref _ => simp [D.iter] at e
  | dct _ _ _ => simp [D.iter] at e
  | scr _ => simp [D.iter] at e

def enumD (ys : List D) : List D := ys.zipIdx.map fun p => .tup [.int (p.2 : Nat), p.1]
def mEnum (ms : M (List D)) : M (List D) := ms.andThen fun ds => match ds with
  | [d] => M.opt (d.iter.map enumD)
  | _ => M.stop
theorem enumD_at {ys : List D} {i : Nat} {x : D} (h : (enumD ys)[i]? = some x) : ∃ y, ys[i]? = some y ∧ x = .tup [.int (i : Nat), y] := by
  unfold enumD at h
  rw [List.getElem?_map, List.getElem?_zipIdx] at h
  cases q : ys[i]? with
  | none => rw [q] at h; simp at h
  | some y => rw [q] at h; simp at h; exact ⟨y, rfl, h.symm⟩
theorem gi_en {X : Cx} {E : XD} {e : Expr} {ms : M (List D)} {p pos tpos : Pos} {elts : List Expr} {kk : Nat} (hg : Gl X "enumerate") (hm : X.mg "enumerate" = none) (ha : GA X E [e] ms) (hs : starEach [e] X.env = [(false, eval e X.env)] := by rfl) :
    GI X E (.Tuple elts kk tpos) (.Call (.Name "enumerate" p) [e] [] pos) (mEnum ms) := (pi_en hg hm ha hs).to fun σ H Q k => by
  obtain ⟨env, C, cov, lv, q⟩ := k
  refine ⟨env, C, cov, lv, ?_⟩
  unfold mEnum M.andThen at q
  cases o : ms env with
  | bad => rw [o] at q; exact q
  | exc x e' => rw [o] at q; exact q
  | ok ds e' =>
    rw [o] at q
    intro vs H' ln cv l
    simp only at q
    split at q
    · rename_i d
      match vs, ln with
      | [v], _ =>
        have l1 : Live X.K H' ((d, v) :: (slots σ e' ++ C)) := l
        cases o2 : d.iter with
        | none => simp only [o2, Option.map_none] at q; exact q.elim
        | some ys =>
          simp only [o2, Option.map_some] at q
          obtain ⟨S, rfl, fz, zl, hS⟩ := src_of l1 o2
          have l2 := LiveX.froze l1
          obtain ⟨xs, hx, lx, _⟩ := hS H' _ l2 List.mem_cons_self
          refine ⟨S, xs, rfl, hx, q _ [(d.frz, S.v)] H' ⟨by simpa [enumD] using zl, fun i H2 L2 l3 => ?_⟩ cv l2⟩
          obtain ⟨xs2, hx2, lx2, at2⟩ := hS H2 _ l3 (by simp)
          refine ⟨fun hi => ⟨xs2, hx2, by rw [lx2, ← hi]; simp [enumD]⟩, fun x hx' => ?_⟩
          obtain ⟨y, hy, rfl⟩ := enumD_at hx'
          obtain ⟨w, hw, pw⟩ := at2 i y hy
          refine ⟨⟨xs2, w, hx2, hw⟩, fun v' H3 yl => ?_⟩
          obtain ⟨T, w', rfl, nT, rfl, hw'⟩ := yl
          obtain rfl : w' = w := Option.some.inj ((hw' xs2 hx2).symm.trans hw)
          have l4 := pw.add (allFrz_at fz hy)
          exact LiveX.newT (ds := [.int (i : Nat), y]) (vs := [.int (i : Nat), w']) nT (by simp) (by show 2 ≤ sizeLine; decide) rfl (Live.flat (d := .int (i : Nat)) l4 rfl)
    · exact q.elim
def zipD (xs ys : List D) : List D := List.zipWith (fun x y => .tup [x, y]) xs ys
def mZip (ms : M (List D)) : M (List D) := ms.andThen fun ds => match ds with
  | [d1, d2] => M.opt (d1.iter.bind fun xs => d2.iter.map fun ys => zipD xs ys)
  | _ => M.stop
theorem zipD_at {xs ys : List D} {i : Nat} {x : D} (h : (zipD xs ys)[i]? = some x) : ∃ a b, xs[i]? = some a ∧ ys[i]? = some b ∧ x = .tup [a, b] := by
  unfold zipD at h
  rw [List.getElem?_zipWith] at h
  cases q : xs[i]? with
  | none => rw [q] at h; simp at h
  | some a =>
    cases q2 : ys[i]? with
    | none => rw [q, q2] at h; simp at h
    | some b => rw [q, q2] at h; simp at h; exact ⟨a, b, rfl, rfl, h.symm⟩
theorem gi_zp {X : Cx} {E : XD} {e e2 : Expr} {ms : M (List D)} {p pos tpos : Pos} {elts : List Expr} {kk : Nat} (hg : Gl X "zip") (hm : X.mg "zip" = none) (ha : GA X E [e, e2] ms)
    (hs : starEach [e, e2] X.env = (false, eval e X.env) :: starEach [e2] X.env := by rfl) (hpl : (backTo pos (starEach [e2] X.env)).any (·.1) = false := by rfl) :
    GI X E (.Tuple elts kk tpos) (.Call (.Name "zip" p) [e, e2] [] pos) (mZip ms) := (pi_zp hg hm ha hs hpl).to fun σ H Q k => by
  obtain ⟨env, C, cov, lv, q⟩ := k
  refine ⟨env, C, cov, lv, ?_⟩
  unfold mZip M.andThen at q
  cases o : ms env with
  | bad => rw [o] at q; exact q
  | exc x e' => rw [o] at q; exact q
  | ok ds e' =>
    rw [o] at q
    intro vs H' ln cv l
    simp only at q
    split at q
    · rename_i d1 d2
      match vs, ln with
      | [v1, v2], _ =>
        have l1 : Live X.K H' ((d1, v1) :: (d2, v2) :: (slots σ e' ++ C)) := l
        cases o2 : d1.iter with
        | none => simp only [o2, Option.bind_none] at q; exact q.elim
        | some ys1 =>
          cases o3 : d2.iter with
          | none => simp only [o2, o3, Option.bind_some, Option.map_none] at q; exact q.elim
          | some ys2 =>
            simp only [o2, o3, Option.bind_some, Option.map_some] at q
            obtain ⟨S1, rfl, fz1, zl1, hS1⟩ := src_of l1 o2
            obtain ⟨S2, rfl, fz2, zl2, hS2⟩ := src_of (l1.perm (List.Perm.swap _ _ _)) o3
            have l2 : Live X.K H' ((d1.frz, S1.v) :: (d2.frz, S2.v) :: (slots σ e' ++ C)) := (LiveX.froze ((LiveX.froze l1).perm (List.Perm.swap _ _ _))).perm (List.Perm.swap _ _ _)
            obtain ⟨xs1, hx1, lx1, _⟩ := hS1 H' _ l2 (by simp)
            obtain ⟨xs2, hx2, lx2, _⟩ := hS2 H' _ l2 (by simp)
            refine ⟨S1, S2, xs1, xs2, rfl, hx1, hx2, q _ [(d1.frz, S1.v), (d2.frz, S2.v)] H' ⟨by simp [zipD]; omega, fun i H2 L2 l3 => ?_⟩ cv l2⟩
            obtain ⟨ws1, hw1, lw1, at1⟩ := hS1 H2 _ l3 (by simp)
            obtain ⟨ws2, hw2, lw2, at2⟩ := hS2 H2 _ l3 (by simp)
            refine ⟨fun hi => ⟨ws1, ws2, hw1, hw2, by rw [lw1, lw2, ← hi]; simp [zipD]⟩, fun x hx' => ?_⟩
            obtain ⟨y1, y2, hy1, hy2, rfl⟩ := zipD_at hx'
            obtain ⟨u1, hu1, pu1⟩ := at1 i y1 hy1
            obtain ⟨u2, hu2, pu2⟩ := at2 i y2 hy2
            refine ⟨⟨ws1, ws2, u1, u2, hw1, hw2, hu1, hu2⟩, fun v' H3 yl => ?_⟩
            obtain ⟨T, a, b, rfl, nT, rfl, ha', hb'⟩ := yl
            obtain rfl : a = u1 := Option.some.inj ((ha' ws1 hw1).symm.trans hu1)
            obtain rfl : b = u2 := Option.some.inj ((hb' ws2 hw2).symm.trans hu2)
            have l4 := pu2.add (allFrz_at fz2 hy2)
            obtain ⟨ws1', hw1', _, at1'⟩ := hS1 H2 _ l4 (by simp)
            have hw1'' := at1' i y1 hy1
            obtain ⟨u1', hu1', pu1'⟩ := hw1''
            have l5 : Live X.K H2 ((y1, u1') :: (y2, b) :: ([(d1.frz, S1.v), (d2.frz, S2.v)] ++ L2)) := pu1'.add (allFrz_at fz1 hy1)
            obtain rfl : a = u1' := Option.some.inj ((ha' ws1' hw1').symm.trans hu1')
            exact LiveX.newT (ds := [y1, y2]) (vs := [a, b]) nT (by simp) (by show 2 ≤ sizeLine; decide) rfl l5
    · exact q.elim
end
end DL
/-! ==, repr, stores into lists, pop, slices, more. -/
namespace DL
open PySem PySem.Spec PyProof.Rows L2

/-! ### == of data -/
mutual
def D.py : D → PyData
  | .non => .none
  | .bl b => .bool b
  | .int i => .int i
  | .str x => .str x
  | .ref _ => .dict []
  | .tup xs => .tuple (D.pyL xs)
  | .lst _ xs => .list (D.pyL xs)
  | .dct _ _ _ => .dict []
  | .scr _ => .dict []
def D.pyL : List D → List PyData
  | [] => []
  | x :: xs => x.py :: D.pyL xs
end
mutual
theorem D.py_frz : ∀ d : D, d.frz.py = d.py
  | .non => by simp only [D.frz]
  | .bl _ => by simp only [D.frz]
  | .int _ => by simp only [D.frz]
  | .str _ => by simp only [D.frz]
  | .ref _ => by simp only [D.frz]
  | .tup xs => by simp only [D.frz, D.py, D.pyL_frz xs]
  | .lst o xs => by simp only [D.frz, D.py, D.pyL_frz xs]
  | .dct o ks vs => by simp only [D.frz, D.py]
  | .scr _ => by simp only [D.frz]
theorem D.pyL_frz : ∀ ds : List D, D.pyL (D.frzL ds) = D.pyL ds
  | [] => by simp only [D.frzL]
  | d :: ds => by simp only [D.frzL, D.pyL, D.py_frz d, D.pyL_frz ds]
end
section
variable {K : PySem.W.Frag} {H : Hp}
mutual
theorem Rp.dp : ∀ {d : D} {v : V} {F G : List Addr}, Rp K H d v F G → d.py.canLay0 = true → Dp K H v d.py
  | .non, v, F, G, h, _ => by simp only [Rp] at h; rw [h.1]; exact .non
  | .bl b, v, F, G, h, _ => by simp only [Rp] at h; rw [h.1]; exact .bl b
  | .int i, v, F, G, h, _ => by simp only [Rp] at h; rw [h.1]; exact .int i
  | .str x, v, F, G, h, _ => by simp only [Rp] at h; rw [h.1]; exact .str x
  | .ref _, v, F, G, h, c => by simp [D.py, PyData.canLay0] at c
  | .tup xs, v, F, G, h, c => by
    simp only [Rp] at h
    obtain ⟨a, vs, G', rfl, _, hl, q⟩ := h
    have sq : SqT K H a vs := by
      rcases q with ⟨q, _⟩ | ⟨q, _⟩
      · exact .inl q
      · exact .inr q
    simp only [D.py, PyData.canLay0] at c ⊢
    exact .tup sq (RpL.dp hl c)
  | .lst true xs, v, F, G, h, c => by
    simp only [Rp] at h
    obtain ⟨a, vs, F', rfl, _, ha, _, hl⟩ := h
    simp only [D.py, PyData.canLay0] at c ⊢
    exact .lst (.inl (.inl ha)) (RpL.dp hl c)
  | .lst false xs, v, F, G, h, c => by
    simp only [Rp] at h
    obtain ⟨a, vs, G', rfl, _, ha, _, _, hl⟩ := h
    simp only [D.py, PyData.canLay0] at c ⊢
    exact .lst (.inl (.inl ha)) (RpL.dp hl c)
  | .dct _ _ _, v, F, G, h, c => by simp [D.py, PyData.canLay0] at c
  | .scr _, v, F, G, h, c => by simp [D.py, PyData.canLay0] at c
theorem RpL.dp : ∀ {ds : List D} {vs : List V} {F G : List Addr}, RpL K H ds vs F G → PyData.canLayAll0 (D.pyL ds) = true → DpAll K H vs (D.pyL ds)
  | [], vs, F, G, h, _ => by simp only [RpL] at h; rw [h.1]; exact .nil
  | d :: ds, vs, F, G, h, c => by
    simp only [RpL] at h
    obtain ⟨v, vs', F1, F2, G1, G2, rfl, _, _, h1, h2⟩ := h
    simp only [D.pyL, PyData.canLayAll0, Bool.and_eq_true] at c ⊢
    exact .cons (Rp.dp h1 c.1) (RpL.dp h2 c.2)
end
theorem Part.dp {L : List Pr} {d : D} {v : V} (h : Part K H L d v) (c : d.py.canLay0 = true) : Dp K H v d.py := by
  obtain ⟨F, G, r⟩ := h.rp
  exact r.dp c
def gEqS (neg : Bool) : D → D → Option D
  | .str i, .str j => some (.bl (if neg then !decide (i = j) else decide (i = j)))
  | _, _ => none
def gEqD (neg : Bool) : D → D → Option D := fun x y => if SeqAt.shaped x.py = true ∧ SeqAt.shaped y.py = true then some (.bl (if neg then !PyData.eqv x.py y.py else PyData.eqv x.py y.py)) else none
def gEq : D → D → Option D := orG (gEqS false) (gEqD false)
def gNe : D → D → Option D := orG (gEqS true) (gEqD true)
theorem dec_str {i j : Str} : decide (V.str i = V.str j) = decide (i = j) := by
  rw [Bool.eq_iff_iff]
  simp
theorem eq_g : OpG K (fun x y H Q => rEq x y H Q ∨ rEqD K x y H Q) gEq := OpG.or
  (fun H L d1 d2 d v1 v2 Q e p1 p2 q => by
    cases d1 <;> cases d2 <;> simp [gEqS] at e
    subst e
    obtain rfl := p1.str
    obtain rfl := p2.str
    exact ⟨rfl, by rw [dec_str]; exact q⟩)
  (fun H L d1 d2 d v1 v2 Q e p1 p2 q => by
    simp only [gEqD] at e
    split at e
    · rename_i hs
      cases e
      exact ⟨_, _, p1.dp (SeqAt.canLay_of_shaped hs.1), p2.dp (SeqAt.canLay_of_shaped hs.2), hs.1, hs.2, q⟩
    · cases e)
theorem ne_g : OpG K (fun x y H Q => rNe x y H Q ∨ rNeD K x y H Q) gNe := OpG.or
  (fun H L d1 d2 d v1 v2 Q e p1 p2 q => by
    cases d1 <;> cases d2 <;> simp [gEqS] at e
    subst e
    obtain rfl := p1.str
    obtain rfl := p2.str
    refine ⟨rfl, ?_⟩
    rw [dec_str]
    simpa [D.val] using q)
  (fun H L d1 d2 d v1 v2 Q e p1 p2 q => by
    simp only [gEqD] at e
    split at e
    · rename_i hs
      cases e
      exact ⟨_, _, p1.dp (SeqAt.canLay_of_shaped hs.1), p2.dp (SeqAt.canLay_of_shaped hs.2), hs.1, hs.2, q⟩
    · cases e)
theorem eqS_flat {n : Bool} : FlatG (gEqS n) := fun x y d e => by
  cases x <;> cases y <;> simp [gEqS] at e
  subst e
  rfl
theorem eqD_flat {n : Bool} : FlatG (gEqD n) := fun x y d e => by
  simp only [gEqD] at e
  split at e
  · cases e; rfl
  · cases e
theorem eq_flat : FlatG gEq := FlatG.or eqS_flat eqD_flat
theorem ne_flat : FlatG gNe := FlatG.or eqS_flat eqD_flat
end
section
variable {X : Cx}
theorem op_eqX (hu : X.A.units + 64 < cLine) : OpR X (compareOp .Eq) (fun x y H Q => rEq x y H Q ∨ rEqD X.K x y H Q) := op_eq.or (op_eqD hu)
theorem op_neX (hu : X.A.units + 64 < cLine) : OpR X (compareOp .NotEq) (fun x y H Q => rNe x y H Q ∨ rNeD X.K x y H Q) := op_ne.or (op_neD hu)

/-! ### repr -/
def rRepr (K : PySem.W.Frag) : List V → Hp → VK → Prop := fun xs H Q => ∃ (a : Addr) (d : PyData), xs = [.ref a] ∧ Dp K H (.ref a) d ∧ d.showable = true ∧ d.canLay0 = true ∧ d.depth ≤ 64 ∧ d.shown.length ≤ sizeLine ∧ Q (.str d.shown) H
theorem cr_repr (hg : X.A.guards = some []) (hu : X.A.units + 66 < cLine) : CallR X (.builtin "repr") (rRepr X.K) := by
  intro pins s σ H xs us Q I r h
  obtain ⟨a, d, rfl, hd, hs, hc, hdp, hl, q⟩ := h
  rw [Vals.ref1 r]
  obtain ⟨as, rd⟩ := Dp.reads I d (.ref a) (.ref a) hd rfl
  apply repr_of_reads' rd hs (PyData.noDict_hsm (PyData.hasDict_of_canLay d hc)) hg (by omega) (fun b o e => e) _ hl
  intro h' u tk kp
  exact ⟨.str d.shown, H, I.kept kp, ⟨u, rfl⟩, q⟩
def D.box : D → Bool
  | .tup _ => true
  | .lst _ _ => true
  | _ => false
def D.repr : D → Option D := fun d => if d.box = true ∧ d.py.showable = true ∧ d.py.canLay0 = true ∧ d.py.depth ≤ 64 ∧ d.py.shown.length ≤ sizeLine then some (.str d.py.shown) else none
theorem repr_flat : Flat1 D.repr := fun x d e => by
  simp only [D.repr] at e
  split at e
  · cases e; rfl
  · cases e
theorem repr_g {K : PySem.W.Frag} : CallG K (rRepr K) D.repr := fun H L x d v Q e pt q => by
  simp only [D.repr] at e
  split at e
  · rename_i hs
    cases e
    obtain ⟨hb, h1, h2, h3, h4⟩ := hs
    have dp := pt.dp h2
    cases x <;> simp [D.box] at hb
    · obtain ⟨a, vs, rfl, _⟩ := pt.tupAt
      exact ⟨a, _, rfl, dp, h1, h2, h3, h4, q⟩
    · obtain ⟨a, vs, rfl, _⟩ := pt.lstAt
      exact ⟨a, _, rfl, dp, h1, h2, h3, h4, q⟩
  · cases e
end

/-! ### x[i] = v -/
section
variable {X : Cx} {E : XD} {R : Nat → Bool} {e a b c o : Expr} {es : List Expr} {pos p apos tpos : Pos} {K : PySem.W.Frag}
theorem upd_id {H : Hp} {a : Addr} {o : HO} (h : H a = some o) : upd H a o = H := by
  funext b
  by_cases hb : b = a
  · subst hb
    rw [upd_same, h]
  · rw [upd_ne hb]
theorem zip_set {L : List Pr} {d : D} {w : V} : ∀ {xs : List D} {vs : List V} {j : Nat}, vs.length = xs.length → j < xs.length → ∃ y, (xs.zip vs ++ (d, w) :: L).Perm (y :: ((xs.set j d).zip (vs.set j w) ++ L))
  | [], _, j, _, h => by simp at h
  | x :: xs, [], j, l, _ => by simp at l
  | x :: xs, v :: vs, 0, l, _ => ⟨(x, v), by
    simp only [List.set_cons_zero, List.zip_cons_cons, List.cons_append]
    exact List.Perm.cons _ List.perm_middle⟩
  | x :: xs, v :: vs, j + 1, l, h => by
    obtain ⟨y, p⟩ := zip_set (L := L) (d := d) (w := w) (xs := xs) (vs := vs) (j := j) (by simpa using l) (by simpa using h)
    refine ⟨y, ?_⟩
    simp only [List.set_cons_succ, List.zip_cons_cons, List.cons_append]
    exact (p.cons _).trans (List.Perm.swap _ _ _)
/-- a list's item replaced -/
theorem LiveX.setL {H : Hp} {ex : List Addr} {L : List Pr} {xs : List D} {d : D} {v w : V} {j : Nat} (h : LiveX K H ex ((.lst true xs, v) :: (d, w) :: L)) (hj : j < xs.length) : ∃ a vs, v = .ref a ∧ H a = some (.lst vs) ∧ vs.length = xs.length ∧ LiveX K (upd H a (.lst (vs.set j w))) ex ((.lst true (xs.set j d), .ref a) :: L) := by
  have hx : ∀ a vs, H a = some (.lst vs) → v = .ref a → a ∉ ex := fun a vs ha hv z => by
    obtain ⟨F, G, r, n, dj, x⟩ := h
    obtain ⟨F1, F2, G1, G2, rfl, rfl, h1, h2⟩ := RpL.cons_iff.mp r
    simp only [Rp] at h1
    obtain ⟨a', vs', F', e1, _, _, rfl, _⟩ := h1
    rw [hv] at e1
    cases e1
    exact (x a z).1 (List.mem_append_left _ List.mem_cons_self)
  obtain ⟨a, vs, rfl, zl, ha, ln, l2⟩ := h.openL
  refine ⟨a, vs, rfl, ha, ln, LiveX.closeL (hx a vs ha rfl) (by simpa using zl) (by simp [ln]) ?_⟩
  obtain ⟨y, p⟩ := zip_set (L := L) (d := d) (w := w) ln hj
  exact (l2.perm p).drop
def gSet (i : Nat) (p : Env → Option D) : Tgt := fun d e => match pV i e, p e with
  | some (.lst true xs), some (.int k) => (ixN xs.length k).map fun j => e.set i (some (.lst true (xs.set j d)))
  | _, _ => none
theorem ixN_lt {n j : Nat} {k : Int} (h : ixN n k = some j) : j < n := (ixN_seq h).2.1
theorem gg_sub {i : Nat} {p : Env → Option D} (ho : PE X o (tVar i)) (hi : GQ X b p)
    (ha : ∀ v, assign (.Subscript o b pos) X.env v = (do
      let ov ← holding [v] (eval o X.env)
      let iv ← holding [v, ov] (eval b X.env)
      standAt pos
      holding [v, ov, iv] (setItem ov iv v)
      release [v, ov, iv] []) := by intro _; rfl) : GG X R (.Subscript o b pos) (gSet i p) := (pg_sub ho hi set_list ha).to fun v σ H Q k => by
  obtain ⟨env, C, d, cov, lv, e', ee, q⟩ := k
  simp only [gSet] at ee
  split at ee
  · rename_i xs k e1 e2
    obtain ⟨j, hj, rfl⟩ := Option.map_eq_some_iff.mp ee
    obtain ⟨u, hu, pm⟩ := slots_get cov (join_some e1)
    have l1 : Live X.K H (slots σ env ++ (d, v) :: C) := lv.perm List.perm_middle.symm
    refine ⟨u, hu, env, (d, v) :: C, cov, l1, .int k, e2, fun w pt => ?_⟩
    obtain rfl := pt.int
    have l2 : Live X.K H ((.lst true xs, u) :: (d, v) :: (slots σ (env.set i none) ++ C)) := by
      refine lv.perm ?_
      exact (List.Perm.cons _ (pm.append_right C)).trans (List.Perm.swap _ _ _)
    obtain ⟨a, vs, rfl, hH, ln, l3⟩ := l2.setL (ixN_lt hj)
    refine ⟨a, vs, k, j, rfl, rfl, hH, by rw [ln]; exact hj, q σ _ (cov.put hu) Keep.refl ?_⟩
    exact live_back (L := []) cov hu l3
  · cases ee

/-! ### x[i] op= e -/
theorem get_list : PGet X (rIxL X.K) := by
  intro pins s σ H x y v u Q I rx ry h
  obtain ⟨p, xs, i, z, rfl, rfl, hq, he, q⟩ := h
  cases rx
  obtain ⟨t, rfl⟩ := ry
  obtain ⟨its, r, pl, hz⟩ := I.list hq
  obtain ⟨j, h1, h2, h3, h4, h5⟩ := atI_get he
  obtain ⟨w, ew, rel⟩ := r.get h2
  have hl := r.length
  have hn := line63
  have fin : EP X pins σ Q w s := ⟨z, H, I, rel, q⟩
  by_cases h0 : 0 ≤ i
  · have hj : i.toNat = j := Option.some.inj ((seqIndex_of h0 h5).symm.trans h1)
    exact wpAny_getItem_list pl.isList h0 (by omega) (by rw [hj]; simpa using ew) fin
  · have hj : (i + (its.toArray.size : Int)).toNat = j := by
      rw [List.size_toArray, ← hl]
      exact Option.some.inj ((seqIndex_neg (by omega) h4).symm.trans h1)
    exact wpAny_getItem_list_neg pl.isList (by omega) (by rw [List.size_toArray]; omega) (by omega) (by rw [hj]; simpa using ew) fin
def mAugS (i : Nat) (p : Env → Option D) (m : M D) (g : D → D → Option D) : M Flow := fun e => match pV i e, p e with
  | some (.lst ow xs), some (.int k) => (match atI xs k with
    | some old => if old.flat = true then (m.andThen fun y => fun e1 => match g old y, pV i e1 with
        | some z, some (.lst true ys) => (match ixN ys.length k with
          | some j => .ok .nx (e1.set i (some (.lst true (ys.set j z))))
          | none => .bad)
        | _, _ => .bad) e else .bad
    | none => .bad)
  | _, _ => .bad
theorem Part.flatV {H : Hp} {L : List Pr} {d : D} {v : V} (h : Part K H L d v) (f : d.flat = true) : v = d.val := by
  cases d <;> simp [D.flat] at f
  · exact h.non
  · exact h.bl
  · exact h.int
  · exact h.str
  · obtain ⟨F, G, r⟩ := h.rp
    simp only [Rp] at r
    exact r.1
theorem gs_augS {i : Nat} {p : Env → Option D} {m : M D} {op : Operator} {r : R2} {g : D → D → Option D} (ho : PE X o (tVar i)) (hi : GQ X b p) (he : GE X E e m) (hop : OpR X (inplaceOp op) r) (hg : OpA X.K r g)
    (ha : ∀ ov iv new, augStore b ov iv new = (do holding [new, ov, iv] (setItem ov iv new); release [new, ov, iv] []; pure .next) := by intros; rfl) : GS X E R (.AugAssign (.Subscript o b tpos) op e pos) (mAugS i p m g) :=
  (ps_augS ho hi get_list he hop set_list ha).to fun D σ H q => by
    obtain ⟨env, C, cov, lv, q⟩ := q
    unfold mAugS at q
    split at q
    · rename_i ow xs k e1 e2
      cases e3 : atI xs k with
      | none => simp only [e3] at q; exact q.elim
      | some old =>
        simp only [e3] at q
        split at q
        · rename_i fl
          obtain ⟨u, hu, pm⟩ := slots_get cov (join_some e1)
          obtain ⟨u', hu', pt⟩ := lv.partAt cov (join_some e1)
          obtain rfl := same_slot hu hu'
          refine ⟨u, hu, env, C, cov, lv, .int k, e2, fun w pw => ?_⟩
          obtain rfl := pw.int
          obtain ⟨a, vs, rfl, zl, hH, ln, at_⟩ := pt.lstAt
          obtain ⟨j, hj, hx⟩ := atI_some e3
          obtain ⟨z0, hz0, pz0⟩ := at_ j old hx
          obtain rfl := pz0.flatV fl
          refine ⟨a, vs, k, old.val, rfl, rfl, .inl (.inl hH), by unfold atI; rw [ln, hj]; exact hz0, ?_⟩
          have l1 : Live X.K H (slots σ env ++ (old, old.val) :: C) := (Live.flat lv fl).perm List.perm_middle.symm
          refine ⟨env, (old, old.val) :: C, cov, l1, ?_⟩
          unfold M.andThen at q
          cases om : m env with
          | bad => simp only [om] at q; exact q.elim
          | exc z e' =>
            simp only [om] at q
            exact fun H' c l => q σ H' c Keep.refl (LiveX.drop (l.perm List.perm_middle))
          | ok y e1' =>
            simp only [om] at q
            intro v2 H1 c1 l2
            split at q
            · rename_i z ys ez ey
              split at q
              · rename_i j2 hj2
                have l3 : Live X.K H1 ((y, v2) :: (old, old.val) :: (slots σ e1' ++ C)) := l2.perm (List.Perm.cons _ List.perm_middle)
                refine hg H1 _ old y z old.val v2 _ ez l3 fun vz H2 l4 => ?_
                obtain ⟨u2, hu2, pm2⟩ := slots_get c1 (join_some ey)
                obtain rfl := same_slot hu hu2
                have l5 : Live X.K H2 ((.lst true ys, .ref a) :: (z, vz) :: (slots σ (e1'.set i none) ++ C)) := by
                  refine l4.perm ?_
                  exact (List.Perm.cons _ (pm2.append_right C)).trans (List.Perm.swap _ _ _)
                obtain ⟨a', vs', ea, hH', ln', l6⟩ := l5.setL (ixN_lt hj2)
                cases ea
                refine ⟨a, vs', k, j2, rfl, rfl, hH', by rw [ln']; exact hj2, q σ _ (c1.put hu) Keep.refl ?_⟩
                exact live_back (L := []) c1 hu l6
              · exact q.elim
            · exact q.elim
        · exact q.elim
    · exact q.elim

/-! ### name op= e -/
def mAug (i : Nat) (m : M D) (g : D → D → Option D) : M Flow := fun e => match pV i e with
  | some old => if old.flat = true then (m.andThen fun y => fun e1 => match g old y with
      | some z => .ok .nx (e1.set i (some z))
      | none => .bad) e else .bad
  | none => .bad
theorem gs_aug {i : Nat} {m : M D} {op : Operator} {r : R2} {g : D → D → Option D} {x : Str} {pos' : Pos} (h : ∀ {te : TE} {ti : TIp}, PE X e te → PIp X op ti → PS X (.AugAssign (.Name x pos') op e pos) (tAug i te ti)) (he : GE X E e m) (hop : OpR X (inplaceOp op) r) (hg : OpA X.K r g) (hr : R i = false := by rfl) :
    GS X E R (.AugAssign (.Name x pos') op e pos) (mAug i m g) := (h he hop).to fun D σ H q => by
  obtain ⟨env, C, cov, lv, q⟩ := q
  unfold mAug at q
  cases e1 : pV i env with
  | none => simp only [e1] at q; exact q.elim
  | some old =>
    simp only [e1] at q
    split at q
    · rename_i fl
      obtain ⟨u, hu, pt⟩ := lv.partAt cov (join_some e1)
      obtain rfl := pt.flatV fl
      have l1 : Live X.K H (slots σ env ++ (old, old.val) :: C) := (Live.flat lv fl).perm List.perm_middle.symm
      refine ⟨_, hu, env, (old, old.val) :: C, cov, l1, ?_⟩
      unfold M.andThen at q
      cases om : m env with
      | bad => simp only [om] at q; exact q.elim
      | exc z e' =>
        simp only [om] at q
        exact fun H' c l => q σ H' c Keep.refl (LiveX.drop (l.perm List.perm_middle))
      | ok y e1' =>
        simp only [om] at q
        intro v2 H1 c1 l2
        split at q
        · rename_i z ez
          have l3 : Live X.K H1 ((y, v2) :: (old, old.val) :: (slots σ e1' ++ C)) := l2.perm (List.Perm.cons _ List.perm_middle)
          refine hg H1 _ old y z old.val v2 _ ez l3 fun vz H2 l4 => ?_
          exact q _ H2 (c1.store i vz z) (Keep.set hr) (live_store c1 l4)
        · exact q.elim
    · exact q.elim
/-- name += list, in place -/
def mExt (i : Nat) (m : M D) : M Flow := fun e => match pV i e with
  | some (.lst true _) => (m.andThen fun y => fun e1 => match pV i e1, y with
      | some (.lst true xs), .lst _ ys => if xs.length + ys.length ≤ sizeLine then .ok .nx (e1.set i (some (.lst true (xs ++ ys)))) else .bad
      | _, _ => .bad) e
  | _ => .bad
theorem closeL' {H : Hp} {L : List Pr} {xs ys : List D} {vs ws : List V} {a : Addr} (l : LiveX K H [a] (xs.zip vs ++ (ys.zip ws ++ L))) (l1 : vs.length = xs.length) (l2 : ws.length = ys.length) (zl : (xs ++ ys).length ≤ sizeLine) : Live K (upd H a (.lst (vs ++ ws))) ((.lst true (xs ++ ys), .ref a) :: L) := by
  refine LiveX.closeL (ex := []) (by simp) zl (by simp [l1, l2]) ?_
  rw [zip_app l1, List.append_assoc]
  exact l
theorem gs_ext {i : Nat} {m : M D} {x : Str} {pos' : Pos} (h : ∀ {te : TE} {ti : TIp}, PE X e te → PIp X .Add ti → PS X (.AugAssign (.Name x pos') .Add e pos) (tAug i te ti)) (he : GE X E e m) :
    GS X E R (.AugAssign (.Name x pos') .Add e pos) (mExt i m) := (h he (ti := rExt2) iop_ext).to fun D σ H q => by
  obtain ⟨env, C, cov, lv, q⟩ := q
  unfold mExt at q
  split at q
  · rename_i xs0 e1
    obtain ⟨u, hu, pt⟩ := lv.partAt cov (join_some e1)
    refine ⟨u, hu, env, C, cov, lv, ?_⟩
    unfold M.andThen at q
    cases om : m env with
    | bad => simp only [om] at q; exact q.elim
    | exc z e' =>
      simp only [om] at q
      exact fun H' c l => q σ H' c Keep.refl l
    | ok y e1' =>
      simp only [om] at q
      intro v2 H1 c1 l2
      split at q
      · rename_i xs ow ys e2
        split at q
        · rename_i hz
          obtain ⟨u2, hu2, pm⟩ := slots_get c1 (join_some e2)
          obtain rfl := same_slot hu hu2
          have l3 : Live X.K H1 ((.lst true xs, u) :: (.lst ow ys, v2) :: (slots σ (e1'.set i none) ++ C)) := by
            refine l2.perm ?_
            exact (List.Perm.cons _ (pm.append_right C)).trans (List.Perm.swap _ _ _)
          obtain ⟨a, vs, rfl, zl, ha, ln, l4⟩ := l3.openL
          have l5 : LiveX X.K H1 [a] ((.lst ow ys, v2) :: (xs.zip vs ++ (slots σ (e1'.set i none) ++ C))) := l4.perm List.perm_middle
          obtain ⟨b, ws, rfl, zl2, hb, ln2, l6⟩ := l5.unl
          have l7 : LiveX X.K H1 [a] (xs.zip vs ++ (ys.zip ws ++ (slots σ (e1'.set i none) ++ C))) := by
            refine l6.perm ?_
            exact pm3
          have l8 := closeL' l7 ln ln2 (by simpa using hz)
          refine ⟨a, b, vs, ws, rfl, rfl, ha, hb, by omega, ?_⟩
          have e3 : σ.set i (some (V.ref a)) = σ := by
            apply List.ext_getElem?
            intro j
            by_cases hj : i = j
            · subst hj
              rw [List.getElem?_set, if_pos rfl, hu]
              have : i < σ.length := (List.getElem?_eq_some_iff.mp hu).1
              simp [this]
            · rw [List.getElem?_set_ne hj]
          show D.nx (σ.set i (some (V.ref a))) _
          rw [e3]
          refine q σ _ (c1.put hu) Keep.refl ?_
          exact live_back (L := []) c1 hu l8
        · exact q.elim
      · exact q.elim
  · exact q.elim

/-! ### methods of a list at a name without arguments -/
def mMeth0 (i : Nat) (f : List D → Option (D × List D)) : M D := fun e => match pV i e with
  | some (.lst true xs) => (match f xs with
    | some (d, ys) => .ok d (e.set i (some (.lst true ys)))
    | none => .bad)
  | _ => .bad
def popD (xs : List D) : Option (D × List D) := match xs[xs.length - 1]? with
  | some y => some (y, xs.dropLast)
  | none => none
theorem ge_pop {i : Nat} (ho : PE X o (tVar i)) (h : ∀ {to : TE}, PE X o to → PE X (.Call (.Attribute o "pop" apos) [] [] pos) (tBM0 X.K "list" rPop to)) : GE X E (.Call (.Attribute o "pop" apos) [] [] pos) (mMeth0 i popD) := (h ho).to fun σ H Q q => by
  obtain ⟨env, C, cov, lv, q⟩ := q
  unfold mMeth0 at q
  split at q
  · rename_i xs e1
    obtain ⟨u, hu, pm⟩ := slots_get cov (join_some e1)
    obtain ⟨u', hu', pt⟩ := lv.partAt cov (join_some e1)
    obtain rfl := same_slot hu hu'
    refine ⟨u, hu, Live.tyL pt, ?_⟩
    unfold popD at q
    cases e2 : xs[xs.length - 1]? with
    | none => simp only [e2] at q; exact q.elim
    | some y =>
      simp only [e2] at q
      have l2 : Live X.K H ((.lst true xs, u) :: (slots σ (env.set i none) ++ C)) := lv.perm (pm.append_right C)
      obtain ⟨a, vs, rfl, zl, ha, ln, l3⟩ := l2.openL
      have hx : 0 < xs.length := by
        have := (List.getElem?_eq_some_iff.mp e2).1
        omega
      have ex : xs = xs.dropLast ++ [y] := by
        rw [List.getElem?_eq_some_iff] at e2
        obtain ⟨hl, e2⟩ := e2
        rw [← List.dropLast_concat_getLast (List.ne_nil_of_length_pos hx)]
        rw [List.dropLast_concat]
        rw [List.getLast_eq_getElem]
        rw [e2]
      have hv : vs ≠ [] := List.ne_nil_of_length_pos (by omega)
      have ev : vs = vs.dropLast ++ [vs.getLast hv] := (List.dropLast_concat_getLast hv).symm
      have ew : vs[vs.length - 1]? = some (vs.getLast hv) := by
        rw [List.getLast_eq_getElem]
        simp
      refine ⟨a, vs, vs.getLast hv, rfl, rfl, ha, ew, ?_⟩
      have ld : vs.dropLast.length = xs.dropLast.length := by simp [ln]
      have l4 : LiveX X.K H [a] (xs.dropLast.zip vs.dropLast ++ ((y, vs.getLast hv) :: (slots σ (env.set i none) ++ C))) := by
        have l4 := l3
        rw [ex, ev, zip_app ld, List.append_assoc] at l4
        simpa using l4
      have l5 := LiveX.closeL (ex := []) (by simp) (by simp; omega) ld l4
      refine q _ _ (cov.put hu) (live_back (L := [(y, vs.getLast hv)]) cov hu ?_)
      exact l5
  · exact q.elim

/-! ### slices of a value had -/
def cutD (xs : List D) (lo hi : Option Int) : List D := (xs.drop (HT.sIx xs.length 0 lo)).take (HT.sIx xs.length xs.length hi - HT.sIx xs.length 0 lo)
abbrev PartI := Env → Option (Option Int)
def noI : PartI := fun _ => some none
def pI (p : Env → Option D) : PartI := fun e => match p e with
  | some (.int i) => some (some i)
  | _ => none
abbrev GO (X : Cx) (e : Option Expr) (p : PartI) : Prop := PO X e (fun σ H Q => ∃ env C, Cov σ env ∧ Live X.K H (slots σ env ++ C) ∧ ∃ o, p env = some o ∧ Q o H)
theorem _root_.L2.PO.to {e : Option Expr} {t t' : TO} (h : PO X e t) (i : ∀ σ H Q, t' σ H Q → t σ H Q) : PO X e t' := ⟨fun pins s σ H Q I q => h.run pins s σ H Q I (i _ _ _ q)⟩
theorem go_none : GO X none noI := po_none.to fun σ H Q k => by
  obtain ⟨env, C, cov, lv, o, eo, q⟩ := k
  cases eo
  exact q
theorem go_some {p : Env → Option D} (h : GQ X e p) : GO X (some e) (pI p) := (po_some h).to fun σ H Q k => by
  obtain ⟨env, C, cov, lv, o, eo, q⟩ := k
  unfold pI at eo
  split at eo
  · rename_i i e1
    cases eo
    refine ⟨env, C, cov, lv, .int i, e1, fun v pt => ?_⟩
    obtain rfl := pt.int
    exact ⟨i, rfl, q⟩
  · cases eo
def mSl (m : M D) (lo hi : PartI) (f : D → Option Int → Option Int → Option D) : M D := m.andThen fun d => fun e => match lo e, hi e with
  | some l, some h => (match f d l h with
    | some z => .ok z e
    | none => .bad)
  | _, _ => .bad
def SlA (K : PySem.W.Frag) (r : V → Option Int → Option Int → Hp → VK → Prop) (f : D → Option Int → Option Int → Option D) : Prop :=
  ∀ (H : Hp) (L : List Pr) (d z : D) (v : V) (l h : Option Int) (Q : VK), f d l h = some z → Live K H ((d, v) :: L) → (∀ w H', Live K H' ((z, w) :: L) → Q w H') → r v l h H Q
theorem ge_sl {lo hi : Option Expr} {p2 : Pos} {r : V → Option Int → Option Int → Hp → VK → Prop} {f : D → Option Int → Option Int → Option D} {m : M D} {pl ph : PartI} (hr : SlR X r) (hf : SlA X.K r f) (he : GE X E e m) (hl : GO X lo pl) (hh : GO X hi ph) : GE X E (.Subscript e (.Slice lo hi none p2) pos) (mSl m pl ph f) :=
  (pe_slice hr he hl hh).to fun σ H Q k => by
    obtain ⟨env, C, cov, lv, k⟩ := rdE_bind k
    refine ⟨env, C, cov, lv, ?_⟩
    cases o : m env with
    | bad => rw [o] at k; exact k
    | exc x e' => rw [o] at k; exact k
    | ok x e' =>
      rw [o] at k
      intro v H' c l
      obtain ⟨e1, C1, x1, c1, l1, q⟩ := k v H' c l
      split at q
      · rename_i a b ea eb
        have l2 : Live X.K H' (slots σ e1 ++ (x1, v) :: C1) := l1.perm List.perm_middle.symm
        refine ⟨e1, (x1, v) :: C1, c1, l2, a, ea, e1, (x1, v) :: C1, c1, l2, b, eb, ?_⟩
        cases ez : f x1 a b with
        | none => simp only [ez] at q; exact q.elim
        | some z =>
          simp only [ez] at q
          exact hf H' _ x1 z v a b Q ez l1 fun w H2 l3 => q w H2 c1 l3
      · exact q.elim
theorem cutD_length (xs : List D) (lo hi : Option Int) : (cutD xs lo hi).length ≤ xs.length := by
  unfold cutD
  rw [List.length_take, List.length_drop]
  omega
theorem zip_cut {xs : List D} {vs : List V} {lo hi : Option Int} (h : vs.length = xs.length) : (cutD xs lo hi).zip (cutV vs lo hi) = ((xs.zip vs).drop (HT.sIx xs.length 0 lo)).take (HT.sIx xs.length xs.length hi - HT.sIx xs.length 0 lo) := by
  unfold cutD cutV
  rw [h]
  simp only [List.zip, List.take_zipWith, List.drop_zipWith]
theorem LiveX.someOf {H : Hp} {ex : List Addr} {L A : List Pr} {i n : Nat} (h : LiveX K H ex (A ++ L)) : LiveX K H ex ((A.drop i).take n ++ L) := by
  have h1 : A = A.take i ++ ((A.drop i).take n ++ (A.drop i).drop n) := by rw [List.take_append_drop, List.take_append_drop]
  rw [h1] at h
  have h2 : LiveX K H ex ((A.drop i).take n ++ ((A.drop i).drop n ++ L)) := LiveX.dropL (M := A.take i) (by simpa [List.append_assoc] using h)
  exact LiveX.dropL (M := (A.drop i).drop n) (h2.perm pm3)
theorem cutV_len {xs : List D} {vs : List V} {lo hi : Option Int} (h : vs.length = xs.length) : (cutV vs lo hi).length = (cutD xs lo hi).length := by
  unfold cutD cutV
  simp [h]
def slL : D → Option Int → Option Int → Option D := fun d l h => match d with
  | .lst _ xs => some (.lst true (cutD xs l h))
  | _ => none
def slT : D → Option Int → Option Int → Option D := fun d l h => match d with
  | .tup xs => some (.tup (cutD xs l h))
  | _ => none
def slS : D → Option Int → Option Int → Option D := fun d l h => match d with
  | .str z => if z.length ≤ sizeLine then some (.str (cutS z l h)) else none
  | _ => none
theorem slL_a : SlA K (rSlL K) slL := fun H L d z v l h Q e lv q => by
  cases d <;> simp [slL] at e
  subst e
  obtain ⟨a, vs, rfl, zl, ha, ln, l2⟩ := lv.unl
  refine ⟨a, vs, rfl, .inl (.inl ha), fun p np => q _ _ (LiveX.newL np (by simp) (Nat.le_trans (cutD_length _ _ _) zl) (cutV_len ln) ?_)⟩
  rw [zip_cut ln]
  exact l2.someOf
theorem slT_a : SlA K (rSlA K) slT := fun H L d z v l h Q e lv q => by
  cases d <;> simp [slT] at e
  rename_i xs
  subst e
  obtain ⟨a, vs, rfl, zl, ha, ln, l2⟩ := LiveX.unt lv
  refine ⟨a, vs, rfl, ha, fun hw => ?_, fun hw p np => q _ _ (LiveX.newT np (by simp) (Nat.le_trans (cutD_length _ _ _) zl) (cutV_len ln) ?_)⟩
  · have : cutD xs l h = xs := by
      unfold cutD
      rw [ln] at hw
      rw [hw.1, hw.2]
      simp
    rw [this] at q
    exact q _ _ lv
  · rw [zip_cut ln]
    exact l2.someOf
theorem slS_a : SlA K rSlS slS := fun H L d z v l h Q e lv q => by
  cases d <;> simp [slS] at e
  obtain ⟨hz, rfl⟩ := e
  obtain rfl := (Live.part lv).str
  exact ⟨_, rfl, hz, q (.str _) H (Live.flat (LiveX.drop lv) rfl)⟩
def orS (f g : D → Option Int → Option Int → Option D) : D → Option Int → Option Int → Option D := fun d l h => (f d l h).or (g d l h)
theorem SlA.or {r s : V → Option Int → Option Int → Hp → VK → Prop} {f g : D → Option Int → Option Int → Option D} (a : SlA K r f) (b : SlA K s g) : SlA K (fun x l h H Q => r x l h H Q ∨ s x l h H Q) (orS f g) := fun H L d z v l h Q e lv q => by
  unfold orS at e
  cases o : f d l h with
  | some d' =>
    rw [o] at e
    simp at e
    subst e
    exact .inl (a H L d d' v l h Q o lv q)
  | none =>
    rw [o] at e
    simp at e
    exact .inr (b H L d z v l h Q e lv q)
def sl3 := orS slL (orS slT slS)
theorem sl3_a : SlA K (fun x l h H Q => rSlL K x l h H Q ∨ (rSlA K x l h H Q ∨ rSlS x l h H Q)) sl3 := slL_a.or (slT_a.or slS_a)
theorem sl3_r : SlR X (fun x l h H Q => rSlL X.K x l h H Q ∨ (rSlA X.K x l h H Q ∨ rSlS x l h H Q)) := sl_list.or (sl_tupA.or sl_str)

/-! ### tuples put together -/
def gCatT : D → D → Option D
  | .tup xs, .tup ys => if xs.length + ys.length ≤ sizeLine then some (.tup (xs ++ ys)) else none
  | _, _ => none
theorem catT_a : OpA K (rCatA K) gCatT := fun H L d1 d2 d v1 v2 Q e lv q => by
  cases d1 <;> cases d2 <;> simp [gCatT] at e
  rename_i xs ys
  obtain ⟨hz, rfl⟩ := e
  obtain ⟨b, ws, rfl, _, hb, lb, l2⟩ := LiveX.unt lv
  obtain ⟨a, vs, rfl, _, ha, la, l3⟩ := LiveX.unt (l2.perm List.perm_middle)
  refine ⟨a, b, vs, ws, rfl, rfl, ha, hb, by omega, fun hx => ?_, fun hx hy => ?_, fun hx hy p np => q (.ref p) _ (LiveX.newT np (by simp) (by simpa using hz) (by simp [la, lb]) ?_)⟩
  · have : xs = [] := List.eq_nil_of_length_eq_zero (by rw [← la, hx]; rfl)
    subst this
    exact q _ _ (LiveX.drop (lv.perm (List.Perm.swap _ _ _)))
  · have : ys = [] := List.eq_nil_of_length_eq_zero (by rw [← lb, hy]; rfl)
    subst this
    rw [List.append_nil] at q
    exact q _ _ (LiveX.drop lv)
  · rw [zip_app la]
    refine l3.perm ?_
    rw [List.append_assoc]
def gCatS : D → D → Option D
  | .str x, .str y => if x.length + y.length ≤ sizeLine then some (.str (x ++ y)) else none
  | _, _ => none
theorem catS_g : OpG K (fun x y H Q => ∃ i j, x = .str i ∧ y = .str j ∧ i.length + j.length ≤ sizeLine ∧ Q (.str (i ++ j)) H) gCatS := fun H L d1 d2 d v1 v2 Q e p1 p2 q => by
  cases d1 <;> cases d2 <;> simp [gCatS] at e
  obtain ⟨hz, rfl⟩ := e
  obtain rfl := p1.str
  obtain rfl := p2.str
  exact ⟨_, _, rfl, rfl, hz, q⟩
theorem catS_flat : FlatG gCatS := fun x y d e => by
  cases x <;> cases y <;> simp [gCatS] at e
  obtain ⟨_, rfl⟩ := e
  rfl

/-! ### xs[::-1], xs[k::-1] -/
/-- the places of lo::-1 -/
def backIx (n : Nat) (lo : Option Int) : List Nat := sliceRange (sliceBounds lo none (some (-1)) n).1 (sliceBounds lo none (some (-1)) n).2.1 (sliceBounds lo none (some (-1)) n).2.2
def backD {α : Type} (xs : List α) (lo : Option Int) : List α := (backIx xs.length lo).filterMap (xs[·]?)
theorem backD_none {α : Type} (xs : List α) : backD xs none = xs.reverse := by
  unfold backD backIx
  rw [PySem.W.krv_bounds]
  show (sliceRange ((xs.length : Int) - 1) (-1) (-1)).filterMap (xs[·]?) = _
  rw [PySem.W.krv_sliceRange, PySem.W.krv_range, List.filterMap_reverse]
  have := PySem.W.krv_all xs.toArray
  simpa using this
end
section
variable {X : Cx} {E : XD} {e : Expr} {K : PySem.W.Frag}
def tBack (K : PySem.W.Frag) (lo : Option Int) (te : TE) : TE := fun σ H Q => te σ H fun x H1 => ∃ a xs, x = .ref a ∧ ((SqL K H1 a xs ∧ ∀ p, H1 p = none → Q (.ref p) (upd H1 p (.lst (backD xs lo)))) ∨ (SqT K H1 a xs ∧ lo = none ∧ ∀ p, H1 p = none → Q (.ref p) (upd H1 p (.tup xs.reverse))))
theorem Vals.picks {xs : List V} {us : List Value} (r : Vals xs us) : ∀ js : List Nat, Vals (js.filterMap (xs[·]?)) (js.filterMap (us[·]?))
  | [] => .nil
  | j :: js => by
    have ih := Vals.picks r js
    cases hx : xs[j]? with
    | some x =>
      obtain ⟨u, hu, ru⟩ := r.get hx
      simp only [List.filterMap_cons, hx, hu]
      exact .cons ru ih
    | none =>
      have hu : us[j]? = none := by
        rw [List.getElem?_eq_none_iff] at hx ⊢
        rw [← r.length]
        exact hx
      simp only [List.filterMap_cons, hx, hu]
      exact ih
theorem backApplied {prog : Program} {w : World} {A : Around} {E : Value → Shared → Prop} {s : Shared} {sl : Addr} {t : Tok} {n : Nat} {Q : Int × Int × Nat → Shared → Prop} (hs : s.heap.IsSliceOf sl .none .none (.int (-1) t))
    (h : Q ((n : Int) - 1, -1, n) s) : wpAny (model prog w) A (Builtin.Slice.sliceApplied (.ref sl) (pure (n : Int))) Q E s := by
  obtain ⟨os, hos, hcs, hds⟩ := id hs
  unfold Builtin.Slice.sliceApplied Builtin.Slice.sliceFields
  apply wpAny_bind
  apply wpAny_bind
  apply wpAny_field hos hds (x := .none) rfl
  apply wpAny_bind
  apply wpAny_field hos hds (x := .none) rfl
  apply wpAny_bind
  apply wpAny_field hos hds (x := .int (-1) t) rfl
  apply wpAny_pure
  apply wpAny_bind
  apply slicePart_int
  show wpAny _ _ (if ((-1 : Int) == 0) = true then _ else _) _ _ s
  rw [if_neg (by decide)]
  apply wpAny_bind
  apply slicePart_none
  apply wpAny_bind
  apply slicePart_none
  apply wpAny_bind
  apply wpAny_pure
  show wpAny _ _ (match Builtin.Slice.sliceAdjust none none (-1) (n : Int) with | (lo, hi) => pure (lo, (-1 : Int), Builtin.Slice.slicePlaces lo hi (-1))) _ _ s
  have e1 : Builtin.Slice.sliceAdjust none none (-1) (n : Int) = ((n : Int) - 1, -1) := rfl
  rw [e1]
  have e2 : Builtin.Slice.slicePlaces ((n : Int) - 1) (-1) (-1) = n := by
    unfold Builtin.Slice.slicePlaces
    simp only [show ¬ ((-1 : Int) > 0) by decide, if_false]
    by_cases hn : (n : Int) - 1 > -1
    · simp only [hn, if_true]
      have : ((n : Int) - 1 - -1 - 1) / (- -1) + 1 = (n : Int) := by
        rw [show (- -1 : Int) = 1 by decide, Int.ediv_one]
        omega
      rw [this]
      simp
    · simp only [hn, if_false]
      simp
      omega
  show wpAny _ _ (pure ((n : Int) - 1, (-1 : Int), Builtin.Slice.slicePlaces ((n : Int) - 1) (-1) (-1))) _ _ s
  rw [e2]
  exact wpAny_pure h
theorem fm_congr {α β : Type} {f g : α → Option β} : ∀ {l : List α}, (∀ a ∈ l, f a = g a) → l.filterMap f = l.filterMap g
  | [], _ => rfl
  | a :: l, h => by
    rw [List.filterMap_cons, List.filterMap_cons, h a List.mem_cons_self, fm_congr (l := l) fun b hb => h b (List.mem_cons_of_mem _ hb)]
theorem back_items (xs : Array Value) : ((List.range xs.size).filterMap fun (m : Nat) => xs[((xs.size : Int) - 1 + (m : Int) * -1).toNat]?).toArray = xs.toList.reverse.toArray := by
  have h := PySem.W.krv_all xs
  congr 1
  rw [← h, ← List.filterMap_reverse, ← PySem.W.krv_range, List.filterMap_map]
  apply fm_congr
  intro m hm
  have hm2 := List.mem_range.mp hm
  show xs[((xs.size : Int) - 1 + (m : Int) * -1).toNat]? = xs[xs.size - 1 - m]?
  congr 1
  omega
theorem getItem_tuple_back {prog : Program} {w : World} {A : Around} {E : Value → Shared → Prop} {s : Shared} {t sl : Addr} {items : Array Value} {tk : Tok} {Q : Value → Shared → Prop} (ht : IsTup s.heap t items) (hs : s.heap.IsSliceOf sl .none .none (.int (-1) tk))
    (h : Q (.ref s.heap.objs.size) { s with heap := s.heap.push { cls := .type "tuple", data := .seq items.toList.reverse.toArray } }) (hsz : items.size ≤ sizeLine) : wpAny (model prog w) A (getItem (.ref t) (.ref sl)) Q E s := by
  have hok : sizeOk (.seq items.toList.reverse.toArray) := by
    show items.toList.reverse.toArray.size ≤ sizeLine
    simpa using hsz
  obtain ⟨os, hos, hcs, hds⟩ := id hs
  have hTs : s.TypeIs (.ref sl) "slice" := ⟨os, hos, hcs⟩
  unfold getItem
  try with_reducible refine wpAny_holding ?_
  first | refine wpAny_bind (wpAny_pure ?_) | skip
  apply wpAny_bind
  apply wpAny_sequenceKey ht.typeIs (by decide)
  apply wpAny_bind
  refine wpAny_callSpecial?_slot (name := Str.ofString "__getitem__") ht.typeIs PyProof.Rows.slot_tuple_getitem
    (wpAny_call_entry PyProof.Rows.slot_tuple_getitem ht.typeIs entry_tuple_getitem ?_ (args_tuple_getitem _ _))
  show wpAny _ _ (Builtin.Tuple.tupleItemsOf (.ref t) >>= _) _ _ s
  refine wpAny_bind (PyProof.Rows.tupleItemsOf_ ht ?_)
  refine wpAny_bind (wpAny_typeOf hTs ?_)
  rw [if_pos (by decide)]
  refine wpAny_bind (backApplied hs ?_)
  show wpAny _ _ (if (((items.size : Int) - 1) == 0 && (-1 : Int) == 1 && items.size == items.size) = true then _ else _) _ _ s
  rw [if_neg (by simp), back_items]
  first
    | exact wpAny_bind (m := Builtin.Tuple.tupleExact _) (wpAny_newObj_type (wpAny_pure ⟨_, rfl, wpAny_pure h⟩) hok)
    | exact wpAny_bind (m := Builtin.Tuple.tupleExact _) (wpAny_newObj_type (wpAny_bind (wpAny_pure (wpAny_pure ⟨_, rfl, wpAny_pure h⟩))) hok)
    | exact wpAny_bind (wpAny_bind (m := Builtin.Tuple.tupleExact _) (wpAny_newObj_type (wpAny_pure (wpAny_pure ⟨_, rfl, wpAny_pure h⟩)) hok))
    | exact wpAny_bind (wpAny_bind (m := Builtin.Tuple.tupleExact _) (wpAny_newObj_type (wpAny_pure ⟨_, rfl, wpAny_pure h⟩) hok))

theorem pe_back {to : Option Expr} {tl : TO} {te : TE} {lo : Option Int} {k : Nat} {p1 p2 p3 pos : Pos} (he : PE X e te) (hl : PO X to tl) (htl : ∀ σ H (Q : Option Int → Hp → Prop), Q lo H → tl σ H Q) :
    PE X (.Subscript e (.Slice to none (some (.UnaryOp .USub (.Constant (.int 1) k p1) p2)) p3) pos) (tBack X.K lo te) := by
  constructor
  intro pins s σ H Q I h
  apply Subscript_
  refine thn (he.run pins s σ H _ I h) ?_
  rintro v s1 ⟨x, H1, I1, r1, a, xs, ex, q⟩
  subst ex
  cases r1
  have hst : PO X (some (.UnaryOp .USub (.Constant (.int 1) k p1) p2)) (tPart (tUn (rU fun i => .int (-i)) (tC (.int 1)))) := po_some (pe_un un_neg pe_int)
  apply wpAny_Slice
  refine thn (hl.run pins s1 σ H1 (fun o H2 => o = lo ∧ H2 = H1) I1 (htl _ _ _ ⟨rfl, rfl⟩)) ?_
  rintro vl s2 ⟨l, H2, I2, pl, rfl, rfl⟩
  refine thn (po_none.run pins s2 σ H2 (fun o H3 => o = none ∧ H3 = H2) I2 ⟨rfl, rfl⟩) ?_
  rintro vu s3 ⟨u, H3, I3, pu, rfl, rfl⟩
  refine thn (hst.run pins s3 σ H3 (fun o H4 => o = some (-1) ∧ H4 = H3) I3 ⟨1, rfl, -1, rfl, rfl, rfl⟩) ?_
  rintro vs s4 ⟨o, H4, I4, ps, rfl, rfl⟩
  have I5 : Inv X pins σ H4 { s4 with heap := s4.heap.push { cls := .type "slice", data := .fields #[vl, vu, vs] } } := I4.kept (t' := s4.toks) fun b ob q => Heap.get?_push_of_some _ q
  show wpAny (model X.prog X.w) X.A (subscriptTail e (.Slice to none (some (.UnaryOp .USub (.Constant (.int 1) k p1) p2)) p3) (.ref a) (.ref s4.heap.objs.size)) (EP X pins σ Q) X.xe { s4 with heap := s4.heap.push { cls := .type "slice", data := .fields #[vl, vu, vs] } }
  rcases q with ⟨hx, q⟩ | ⟨hx, rfl, q⟩
  · obtain ⟨its, r, ht, hz⟩ := I5.list hx
    have hlen := r.length
    refine tail_any (ops := [.ref a, .ref s4.heap.objs.size]) ht.isList.typeIs (PySem.slot_list_getitem.lookup) ?_ (by with_unfolding_all rfl)
    refine wpAny_getItem_list_slice ht.isList (Heap.IsSliceOf.new _ vl vu vs) pl pu ps (by decide) ?_ (by rw [List.size_toArray]; omega)
    have e1 : slicePick its.toArray l none (some (-1)) = (backD its l).toArray := by
      unfold slicePick backD backIx
      simp only [List.size_toArray]
      congr 1
      apply fm_congr
      intro j _
      simp
    rw [e1]
    refine ⟨.ref _, _, I5.laid (t' := s4.toks) (o := .lst (backD xs l)) (fun b ob q => Heap.get?_push_of_some _ q) (Nat.le_refl _) ?_, rfl, q _ (I5.hok.fresh (Nat.le_refl _))⟩
    refine ⟨?_, backD its l, 0, ?_, Heap.get?_push_size _ rfl⟩
    · have h1 := slicePick_size_le its.toArray l none (some (-1))
      rw [e1] at h1
      have h2 : Vals (backD xs l) (backD its l) := by
        unfold backD
        rw [hlen]
        exact Vals.picks r _
      rw [h2.length]
      simp at h1
      omega
    · unfold backD
      rw [hlen]
      exact Vals.picks r _
  · obtain ⟨its, r, ht, hz⟩ := I5.tuple hx
    have hlen := r.length
    cases pl
    cases pu
    obtain ⟨t, rfl⟩ : ∃ t, vs = .int (-1) t := by
      cases ps
      exact ⟨_, rfl⟩
    refine tail_any (ops := [.ref a, .ref s4.heap.objs.size]) ht.typeIs (PyProof.Rows.slot_tuple_getitem.lookup) ?_ (by with_unfolding_all rfl)
    refine getItem_tuple_back ht (Heap.IsSliceOf.new _ _ _ _) ?_ (by rw [List.size_toArray]; omega)
    refine ⟨.ref _, _, I5.laid (t' := s4.toks) (o := .tup xs.reverse) (fun b ob q => Heap.get?_push_of_some _ q) (Nat.le_refl _) ?_, rfl, q _ (I5.hok.fresh (Nat.le_refl _))⟩
    exact ⟨by rw [List.length_reverse]; exact hz, _, r.reverse, IsTup.new _ _⟩
/-- the items turned; from a list at a place -/
def backG (lo : Option Int) : D → Option D := fun d => match d with
  | .lst _ xs => some (.lst true (backD (D.frzL xs) lo))
  | .tup xs => if lo = none then some (.tup (D.frzL xs).reverse) else none
  | _ => none
def mBack (lo : Option Int) (m : M D) : M D := m.andThen fun d => M.opt (backG lo d)
theorem RpL.pick {H : Hp} {xs : List D} {vs : List V} {F G : List Addr} (f : D.allFrz xs = true) (r : RpL K H xs vs F G) : ∀ js : List Nat, ∃ G', RpL K H (js.filterMap (xs[·]?)) (js.filterMap (vs[·]?)) [] G' ∧ ∀ a ∈ G', a ∈ G
  | [] => ⟨[], by simp [RpL], by simp⟩
  | j :: js => by
    obtain ⟨G', h1, h2⟩ := RpL.pick f r js
    have ln := r.length
    cases hx : xs[j]? with
    | some x =>
      obtain ⟨w, F2, G2, ew, qw, t1, t2⟩ := r.at hx
      obtain rfl := Rp.owns (allFrz_at f hx) qw
      refine ⟨G2 ++ G', ?_, fun a ha => ?_⟩
      · simp only [List.filterMap_cons, hx, ew]
        exact RpL.cons_iff.mpr ⟨[], [], G2, G', rfl, rfl, qw, h1⟩
      · rcases List.mem_append.mp ha with z | z
        · exact t2 a z
        · exact h2 a z
    | none =>
      have hv : vs[j]? = none := by
        rw [List.getElem?_eq_none_iff] at hx ⊢
        omega
      refine ⟨G', ?_, h2⟩
      simp only [List.filterMap_cons, hx, hv]
      exact h1
theorem Live.pick {H : Hp} {L : List Pr} {xs : List D} {vs : List V} (f : D.allFrz xs = true) (ln : vs.length = xs.length) (l : Live K H (xs.zip vs ++ L)) (js : List Nat) : Live K H ((js.filterMap (xs[·]?)).zip (js.filterMap (vs[·]?)) ++ L) := by
  obtain ⟨F, G, r, n, dj, _⟩ := l
  rw [List.map_append, List.map_append, zip_fst ln, zip_snd ln] at r
  obtain ⟨v1, v2, F1, F2, G1, G2, e, rfl, rfl, h1, h2⟩ := r.split
  have l1 := h1.length
  obtain ⟨rfl, rfl⟩ := List.append_inj e (by rw [ln, l1])
  obtain ⟨G', h3, h4⟩ := RpL.pick f h1 js
  obtain rfl := RpL.owns f h1
  refine ⟨[] ++ F2, G' ++ G2, ?_, n, fun a ha hg => ?_, by simp⟩
  · rw [List.map_append, List.map_append, zip_fst h3.length, zip_snd h3.length]
    exact h3.append h2
  · rcases List.mem_append.mp hg with z | z
    · exact dj a ha (List.mem_append_left _ (h4 a z))
    · exact dj a ha (List.mem_append_right _ z)
theorem picks_len {α β : Type} {xs : List α} {ys : List β} (h : ys.length = xs.length) : ∀ js : List Nat, (js.filterMap (ys[·]?)).length = (js.filterMap (xs[·]?)).length
  | [] => rfl
  | j :: js => by
    have ih := picks_len h js
    by_cases hj : j < xs.length
    · have hj2 : j < ys.length := by omega
      simp [List.filterMap_cons, hj, hj2, ih]
    · have hj2 : ¬ j < ys.length := by omega
      simp [List.filterMap_cons, hj, hj2, ih]
theorem backIx_le (n : Nat) (lo : Option Int) : (backIx n lo).length ≤ n := by
  unfold backIx
  refine sliceRange_length_le _ _ _ _ (fun hc => ?_) fun hc => ?_
  · simp only [sliceBounds] at hc
    exact absurd hc (by decide)
  · simp only [sliceBounds] at hc ⊢
    simp only [hc, if_false]
    constructor
    · cases lo with
      | none => simp
      | some i => dsimp only; omega
    · simp
theorem backD_le {α : Type} (xs : List α) (lo : Option Int) : (backD xs lo).length ≤ xs.length := Nat.le_trans (List.length_filterMap_le _ _) (backIx_le _ _)
theorem rz {α β : Type} : ∀ {xs : List α} {ys : List β}, xs.length = ys.length → xs.reverse.zip ys.reverse = (xs.zip ys).reverse
  | [], [], _ => rfl
  | [], _ :: _, h => by simp at h
  | _ :: _, [], h => by simp at h
  | x :: xs, y :: ys, h => by
    have h2 : xs.length = ys.length := by simpa using h
    simp only [List.reverse_cons, List.zip_cons_cons]
    rw [List.zip_append (by simpa using h2), rz h2]
    rfl
theorem ge_back {m : M D} {to : Option Expr} {tl : TO} {lo : Option Int} {k : Nat} {p1 p2 p3 pos : Pos} (he : GE X E e m) (hl : PO X to tl) (htl : ∀ σ H (Q : Option Int → Hp → Prop), Q lo H → tl σ H Q) :
    GE X E (.Subscript e (.Slice to none (some (.UnaryOp .USub (.Constant (.int 1) k p1) p2)) p3) pos) (mBack lo m) := (pe_back he hl htl).to fun σ H Q q => by
  obtain ⟨env, C, cov, lv, q⟩ := rdE_bind q
  refine ⟨env, C, cov, lv, ?_⟩
  cases o : m env with
  | bad => rw [o] at q; exact q
  | exc x e' => rw [o] at q; exact q
  | ok x e' =>
    rw [o] at q
    intro v H' c l
    obtain ⟨e1, C1, x1, c1, l1, q⟩ := q v H' c l
    obtain ⟨d, ed, q⟩ := opt_rest q
    cases x1 with
    | lst ow xs =>
      simp only [backG, Option.some.injEq] at ed
      subst ed
      have l2 := LiveX.froze l1
      simp only [D.frz] at l2
      obtain ⟨a, vs, rfl, zl, ha, ln, l3⟩ := l2.unl
      refine ⟨a, vs, rfl, .inl ⟨.inl (.inl ha), fun p np => q _ _ c1 ?_⟩⟩
      have l4 := Live.pick (D.frzL_allFrz xs) ln l3 (backIx (D.frzL xs).length lo)
      have e5 : backD vs lo = (backIx (D.frzL xs).length lo).filterMap (vs[·]?) := by
        unfold backD
        rw [ln]
      refine LiveX.newL np (by simp) (Nat.le_trans (backD_le _ _) zl) ?_ ?_
      · rw [e5]
        exact picks_len ln _
      · rw [e5]
        exact l4
    | tup xs =>
      simp only [backG] at ed
      split at ed
      · rename_i hlo
        cases ed
        subst hlo
        have l2 := LiveX.froze l1
        simp only [D.frz] at l2
        obtain ⟨a, vs, rfl, zl, ha, ln, l3⟩ := LiveX.unt l2
        refine ⟨a, vs, rfl, .inr ⟨ha, rfl, fun p np => q _ _ c1 ?_⟩⟩
        refine LiveX.newT np (by simp) (by simpa using zl) (by simp [ln]) ?_
        have e6 : (D.frzL xs).reverse.zip vs.reverse = ((D.frzL xs).zip vs).reverse := by
          exact rz ln.symm
        rw [e6]
        exact l3.perm ((List.reverse_perm _).symm.append_right _)
      · cases ed
    | non => simp [backG] at ed
    | bl _ => simp [backG] at ed
    | int _ => simp [backG] at ed
    | str _ => simp [backG] at ed
    | ref _ => simp [backG] at ed
    | dct _ _ _ => simp [backG] at ed
    | scr _ => simp [backG] at ed
end
end DL
/-! Tests by glances, chains, minus; the script; the end of a law. -/
namespace DL
open PySem PySem.Spec PyProof.Rows L2
section
variable {X : Cx} {E : XD} {R : Nat → Bool} {e a b c o : Expr} {es : List Expr} {pos p apos tpos : Pos} {K : PySem.W.Frag}
/-! ### minus -/
def pUn (g : D → Option D) (p : Env → Option D) : Env → Option D := fun e => (p e).bind g
def negD : D → Option D
  | .int i => some (.int (-i))
  | _ => none
theorem gq_neg {p : Env → Option D} (h : GQ X a p) : GQ X (.UnaryOp .USub a pos) (pUn negD p) := (pe_un un_neg h).to fun σ H Q k => by
  obtain ⟨env, C, cov, lv, d, ed, k⟩ := k
  obtain ⟨x, ex, ed⟩ := Option.bind_eq_some_iff.mp ed
  cases x <;> simp [negD] at ed
  subst ed
  refine ⟨env, C, cov, lv, _, ex, fun v pt => ?_⟩
  obtain rfl := pt.int
  exact ⟨_, rfl, k (.int _) (pt.live.parts (d := .int _) rfl)⟩
def mUn (g : D → Option D) (m : M D) : M D := m.andThen fun d => M.opt (g d)
theorem ge_neg {m : M D} (h : GE X E a m) : GE X E (.UnaryOp .USub a pos) (mUn negD m) := (pe_un un_neg h).to fun σ H Q k => by
  obtain ⟨env, C, cov, lv, k⟩ := rdE_bind k
  refine ⟨env, C, cov, lv, ?_⟩
  cases o : m env with
  | bad => rw [o] at k; exact k
  | exc x e' => rw [o] at k; exact k
  | ok x e' =>
    rw [o] at k
    intro v H' c l
    obtain ⟨e1, C1, x1, c1, l1, q⟩ := k v H' c l
    obtain ⟨d, ed, q⟩ := opt_rest q
    cases x1 <;> simp [negD] at ed
    subst ed
    obtain ⟨rfl, l2⟩ := Live.int1 l1
    exact ⟨_, rfl, q _ H' c1 (Live.flat (d := .int _) l2 rfl)⟩
/-! ### tests by glances -/
def mPB (p : Env → Option D) : M Bool := fun e => match p e with
  | some (.bl b) => .ok b e
  | _ => .bad
theorem pb_reads {p : Env → Option D} {σ : St} {H : Hp} {Q : Bool → Hp → Prop} {T : VK} (k : rdB K E (mPB p) σ H Q) (hT : ∀ z H1, Q z H1 → T (.bl z) H1) : rdQ K p σ H T := by
  obtain ⟨env, C, cov, lv, q⟩ := k
  unfold mPB at q
  split at q
  · rename_i z ez
    refine ⟨env, C, cov, lv, _, ez, fun v pt => ?_⟩
    obtain rfl := pt.bl
    exact hT z H (q H cov lv)
  · exact q.elim
theorem gbq_val {p : Env → Option D} (h : GQ X e p) (he : ∀ whole, isTrue e X.env whole = (do let v ← whole; standAt e.pos; holding [v] (truthy v)) := by intro _; rfl) : GB X E e (mPB p) := (pt_val h he).to fun σ H Q k => pb_reads k fun z H1 q => ⟨z, rfl, q⟩
theorem gbq_cmp {op : CmpOp} {r : R2} {g : D → D → Option D} {p q : Env → Option D} (ho : OpR X (compareOp op) r) (hg : OpG X.K r g) (hf : FlatG g) (ha : GQ X a p) (hb : GQ X b q) (hm : behindInMarks op b = false) : GB X E (.Compare a [op] [b] pos) (mPB (pOp g p q)) :=
  (pt_cmpR ho ha hb hm).to fun σ H Q k => by
    have k2 := pb_reads (T := fun z H1 => ∃ t, z = .bl t ∧ Q t H1) k fun z H1 q => ⟨z, rfl, q⟩
    obtain ⟨env, C, cov, lv, d, ed, k⟩ := k2
    obtain ⟨x, ex, ed⟩ := Option.bind_eq_some_iff.mp ed
    obtain ⟨y, ey, ed⟩ := Option.bind_eq_some_iff.mp ed
    exact ⟨env, C, cov, lv, x, ex, fun v1 p1 => ⟨env, C, cov, p1.live, y, ey, fun v2 p2 => hg H _ x y d v1 v2 _ ed p1 p2 (k _ (p2.live.parts (hf _ _ _ ed)))⟩⟩
/-- x op y op z -/
def pChain (g h : D → D → Option D) (p q r : Env → Option D) : Env → Option D := fun e => (p e).bind fun x => (q e).bind fun y => match g x y with
  | some (.bl true) => (r e).bind fun z => h y z
  | some (.bl false) => some (.bl false)
  | _ => none
theorem chain_reads {r r' : R2} {g h : D → D → Option D} {p q s : Env → Option D} (hg : OpG K r g) (hh : OpG K r' h) (hf : FlatG h) {σ : St} {H : Hp} {T : VK} (k : rdQ K (pChain g h p q s) σ H T) : tChain r r' (rdQ K p) (rdQ K q) (rdQ K s) σ H T := by
  obtain ⟨env, C, cov, lv, d, ed, k⟩ := k
  obtain ⟨x, ex, ed⟩ := Option.bind_eq_some_iff.mp ed
  obtain ⟨y, ey, ed⟩ := Option.bind_eq_some_iff.mp ed
  refine ⟨env, C, cov, lv, x, ex, fun v1 p1 => ⟨env, C, cov, p1.live, y, ey, fun v2 p2 => ?_⟩⟩
  split at ed
  · rename_i e1
    refine hg H _ x y (.bl true) v1 v2 _ e1 p1 p2 ⟨true, rfl, ?_⟩
    obtain ⟨z, ez, ed⟩ := Option.bind_eq_some_iff.mp ed
    exact ⟨env, C, cov, lv, z, ez, fun v3 p3 => hh H _ y z d v2 v3 _ ed p2 p3 (k _ (p3.live.parts (hf _ _ _ ed)))⟩
  · rename_i e1
    cases ed
    exact hg H _ x y (.bl false) v1 v2 _ e1 p1 p2 ⟨false, rfl, k (.bl false) (p2.live.parts rfl)⟩
  · cases ed
theorem gbq_chain {op op' : CmpOp} {r r' : R2} {g h : D → D → Option D} {p q s : Env → Option D} (ho : OpR X (compareOp op) r) (ho' : OpR X (compareOp op') r') (hg : OpG X.K r g) (hh : OpG X.K r' h) (hf : FlatG h) (ha : GQ X a p) (hb : GQ X b q) (hc : GQ X c s)
    (hm : lastMarks [op, op'] [b, c] = false := by with_unfolding_all rfl) : GB X E (.Compare a [op, op'] [b, c] pos) (mPB (pChain g h p q s)) :=
  (pt_chain ho ho' ha hb hc hm).to fun σ H Q k => chain_reads hg hh hf (pb_reads (T := fun z H1 => ∃ t, z = .bl t ∧ Q t H1) k fun z H1 q => ⟨z, rfl, q⟩)
theorem gq_chain {op op' : CmpOp} {r r' : R2} {g h : D → D → Option D} {p q s : Env → Option D} (ho : OpR X (compareOp op) r) (ho' : OpR X (compareOp op') r') (hg : OpG X.K r g) (hh : OpG X.K r' h) (hf : FlatG h) (ha : GQ X a p) (hb : GQ X b q) (hc : GQ X c s)
    (hm : lastMarks [op, op'] [b, c] = false := by with_unfolding_all rfl) : GQ X (.Compare a [op, op'] [b, c] pos) (pChain g h p q s) :=
  (pe_chain ho ho' ha hb hc hm).to fun σ H Q k => chain_reads hg hh hf k
theorem gI_flatB {f : Int → Int → Bool} : FlatG (gI0 fun i j => .bl (f i j)) := gI0_flat fun _ _ => rfl
theorem gI0_flatI {f : Int → Int → Int} : FlatG (gI0 fun i j => .int (f i j)) := gI0_flat fun _ _ => rfl
theorem gI_flatI {C : Int → Int → Prop} [∀ i j, Decidable (C i j)] {f : Int → Int → Int} : FlatG (gI C fun i j => .int (f i j)) := gI_flat fun _ _ => rfl

/-! ### how many arguments -/
def LenM (n : Nat) (ms : M (List D)) : Prop := ∀ e ds e', ms e = .ok ds e' → ds.length = n
theorem len_nil : LenM 0 (M.ret []) := fun e ds e' h => by cases h; rfl
theorem len_cons {n : Nat} {m : M D} {ms : M (List D)} (h : LenM n ms) : LenM (n + 1) (mConsF m ms) := fun e ds e' q => by
  unfold mConsF M.andThen at q
  cases o : m e with
  | bad => simp only [o] at q; cases q
  | exc x e1 => simp only [o] at q; cases q
  | ok x e1 =>
    simp only [o] at q
    cases o2 : ms e1 with
    | bad => simp only [o2] at q; cases q
    | exc x e1 => simp only [o2] at q; cases q
    | ok xs e2 =>
      simp only [o2, M.ret] at q
      cases q
      simp [h _ _ _ o2]
theorem len_consR {n i : Nat} {ms : M (List D)} (h : LenM n ms) : LenM (n + 1) (mConsR i ms) := fun e ds e' q => by
  unfold mConsR M.andThen at q
  cases o : mTake i e with
  | bad => simp only [o] at q; cases q
  | exc x e1 => simp only [o] at q; cases q
  | ok x e1 =>
    simp only [o] at q
    cases o2 : ms e1 with
    | bad => simp only [o2] at q; cases q
    | exc x e1 => simp only [o2] at q; cases q
    | ok xs e2 =>
      simp only [o2, M.ret] at q
      cases q
      simp [h _ _ _ o2]

/-! ### the script -/
def slX : D → Option Int → Option Int → Option D := fun d l h => match d with
  | .scr ns => some (.lst true (cutD (ns.map D.int) l h))
  | _ => none
theorem cut_ints {ns : List Int} {l h : Option Int} : ∃ ms : List Int, cutD (ns.map D.int) l h = ms.map D.int ∧ cutV (ns.map V.int) l h = ms.map V.int := by
  refine ⟨(ns.drop (HT.sIx ns.length 0 l)).take (HT.sIx ns.length ns.length h - HT.sIx ns.length 0 l), ?_, ?_⟩
  · unfold cutD
    simp [List.map_take, List.map_drop]
  · unfold cutV
    simp [List.map_take, List.map_drop]
theorem slX_a : SlA K (rSlL K) slX := fun H L d z v l h Q e lv q => by
  cases d <;> simp [slX] at e
  rename_i ns
  subst e
  obtain ⟨F, G, r⟩ := LiveX.look lv
  simp only [Rp] at r
  obtain ⟨a, rfl, zl, _, r⟩ := r
  have sq : SqL K H a (ns.map V.int) := by
    rcases r with ⟨r, _⟩ | ⟨r, _⟩
    · exact .inl r
    · exact .inr r
  refine ⟨a, _, rfl, sq, fun p np => q _ _ ?_⟩
  obtain ⟨ms, e1, e2⟩ := cut_ints (ns := ns) (l := l) (h := h)
  have zl2 := cutD_length (ns.map D.int) l h
  rw [e1] at zl2 ⊢
  rw [e2]
  refine LiveX.newL np (by simp) ?_ (by simp) (LiveX.ints (LiveX.drop lv) ms)
  simp at zl2 ⊢
  omega
theorem scr_live {K : PySem.W.Frag} {H : Hp} {a : Addr} {ns : List Int} (h : SqL K H a (ns.map V.int)) (zl : ns.length ≤ sizeLine) : Live K H [(.scr ns, .ref a)] := by
  rcases h with r | r
  · refine ⟨[], [a], ?_, by simp, by simp, by simp⟩
    refine RpL.cons_iff.mpr ⟨[], [], [a], [], rfl, rfl, ?_, by simp [RpL]⟩
    simp only [Rp]
    exact ⟨a, rfl, zl, by simp, .inl ⟨r, rfl⟩⟩
  · refine ⟨[], [], ?_, by simp, by simp, by simp⟩
    refine RpL.cons_iff.mpr ⟨[], [], [], [], rfl, rfl, ?_, by simp [RpL]⟩
    simp only [Rp]
    exact ⟨a, rfl, zl, by simp, .inr ⟨r, by first | rfl | trivial⟩⟩
end
end DL
/-! The words that the printer uses. -/
namespace DL
open PySem PySem.Spec PyProof.Rows L2

instance (i j : Int) : Decidable (CMul i j) := inferInstanceAs (Decidable ((-(2 ^ 64) < i ∧ i < 2 ^ 64) ∨ (-(2 ^ 64) < j ∧ j < 2 ^ 64)))
instance (i j : Int) : Decidable (CDiv i j) := inferInstanceAs (Decidable (0 < j ∧ j < 1073741824))
instance (i j : Int) : Decidable (CPow i j) := inferInstanceAs (Decidable (0 ≤ j ∧ j ≤ 1000000 ∧ i.natAbs < 2 ^ 64))
def iAdd : D → D → Option D := gI0 fun i j => .int (i + j)
def iSub : D → D → Option D := gI0 fun i j => .int (i - j)
def iMul : D → D → Option D := gI CMul fun i j => .int (i * j)
def iDiv : D → D → Option D := gI CDiv fun i j => .int (i / j)
def iMod : D → D → Option D := gI (fun _ j => 0 < j) fun i j => .int (i % j)
def iPow : D → D → Option D := gI CPow fun i j => .int (i ^ j.toNat)
def iLt : D → D → Option D := gI0 fun i j => .bl (decide (i < j))
def iLe : D → D → Option D := gI0 fun i j => .bl (decide (i ≤ j))
def iGt : D → D → Option D := gI0 fun i j => .bl (decide (j < i))
def iGe : D → D → Option D := gI0 fun i j => .bl (decide (j ≤ i))
def aAdd : D → D → Option D := orG iAdd (orG gCatS (orG gCat gCatT))
def aMul : D → D → Option D := orG iMul gRep

section
variable {X : Cx} {E : XD} {R : Nat → Bool} {e a b c o : Expr} {es : List Expr} {pos p0 apos tpos : Pos} {p q s : Env → Option D} {m n : M D} {ms : M (List D)} {k : Nat}
theorem Room.u64 {A : Around} {k : Nat} (hr : Room k A) : A.units + 64 < cLine := by have := hr.un; omega
theorem Room.u66 {A : Around} {k : Nat} (hr : Room k A) : A.units + 66 < cLine := by have := hr.un; omega
/-! ### glances -/
theorem qAdd (ha : GQ X a p) (hb : GQ X b q) : GQ X (.BinOp a .Add b pos) (pOp iAdd p q) := gq_op op_add rI0_g gI0_flatI ha hb
theorem qSub (ha : GQ X a p) (hb : GQ X b q) : GQ X (.BinOp a .Sub b pos) (pOp iSub p q) := gq_op op_sub rI0_g gI0_flatI ha hb
theorem qMul (ha : GQ X a p) (hb : GQ X b q) : GQ X (.BinOp a .Mult b pos) (pOp iMul p q) := gq_op op_mul rI_g gI_flatI ha hb
theorem qDiv (ha : GQ X a p) (hb : GQ X b q) : GQ X (.BinOp a .FloorDiv b pos) (pOp iDiv p q) := gq_op op_fdiv rI_g gI_flatI ha hb
theorem qMod (ha : GQ X a p) (hb : GQ X b q) : GQ X (.BinOp a .Mod b pos) (pOp iMod p q) := gq_op op_mod rI_g gI_flatI ha hb
theorem qPow (ha : GQ X a p) (hb : GQ X b q) : GQ X (.BinOp a .Pow b pos) (pOp iPow p q) := gq_op op_pow rI_g gI_flatI ha hb
theorem qLt (ha : GQ X a p) (hb : GQ X b q) : GQ X (.Compare a [.Lt] [b] pos) (pOp iLt p q) := gq_cmp op_lt rI0_g gI_flatB ha hb (nomark _)
theorem qLe (ha : GQ X a p) (hb : GQ X b q) : GQ X (.Compare a [.LtE] [b] pos) (pOp iLe p q) := gq_cmp op_le rI0_g gI_flatB ha hb (nomark _)
theorem qGt (ha : GQ X a p) (hb : GQ X b q) : GQ X (.Compare a [.Gt] [b] pos) (pOp iGt p q) := gq_cmp op_gt rI0_g gI_flatB ha hb (nomark _)
theorem qGe (ha : GQ X a p) (hb : GQ X b q) : GQ X (.Compare a [.GtE] [b] pos) (pOp iGe p q) := gq_cmp op_ge rI0_g gI_flatB ha hb (nomark _)
theorem qEq (hr : Room k X.A) (ha : GQ X a p) (hb : GQ X b q) : GQ X (.Compare a [.Eq] [b] pos) (pOp gEq p q) := gq_cmp (op_eqX (Room.u64 hr)) eq_g eq_flat ha hb (nomark _)
theorem qNe (hr : Room k X.A) (ha : GQ X a p) (hb : GQ X b q) : GQ X (.Compare a [.NotEq] [b] pos) (pOp gNe p q) := gq_cmp (op_neX (Room.u64 hr)) ne_g ne_flat ha hb (nomark _)
theorem qLeLe (ha : GQ X a p) (hb : GQ X b q) (hc : GQ X c s) (hm : lastMarks [.LtE, .LtE] [b, c] = false := by with_unfolding_all rfl) : GQ X (.Compare a [.LtE, .LtE] [b, c] pos) (pChain iLe iLe p q s) := gq_chain op_le op_le rI0_g rI0_g gI_flatB ha hb hc hm
theorem qLeLt (ha : GQ X a p) (hb : GQ X b q) (hc : GQ X c s) (hm : lastMarks [.LtE, .Lt] [b, c] = false := by with_unfolding_all rfl) : GQ X (.Compare a [.LtE, .Lt] [b, c] pos) (pChain iLe iLt p q s) := gq_chain op_le op_lt rI0_g rI0_g gI_flatB ha hb hc hm
theorem qLtLt (ha : GQ X a p) (hb : GQ X b q) (hc : GQ X c s) (hm : lastMarks [.Lt, .Lt] [b, c] = false := by with_unfolding_all rfl) : GQ X (.Compare a [.Lt, .Lt] [b, c] pos) (pChain iLt iLt p q s) := gq_chain op_lt op_lt rI0_g rI0_g gI_flatB ha hb hc hm
theorem qLtLe (ha : GQ X a p) (hb : GQ X b q) (hc : GQ X c s) (hm : lastMarks [.Lt, .LtE] [b, c] = false := by with_unfolding_all rfl) : GQ X (.Compare a [.Lt, .LtE] [b, c] pos) (pChain iLt iLe p q s) := gq_chain op_lt op_le rI0_g rI0_g gI_flatB ha hb hc hm
theorem qLen (hm : X.mg "len" = none) (ha : GQ X e q) (hg : Gl X "len" := by rfl) (he : starEach [e] X.env = (false, eval e X.env) :: starEach [] X.env := by rfl) (hpl : (backTo pos (starEach [] X.env)).any (·.1) = false := by rfl) :
    GQ X (.Call (.Name "len" p0) [e] [] pos) (pApp D.len q) := gq_callB call_len len_g len_flat hg hm PySem.boot_len ha (by decide) (by decide) he hpl
theorem qAbs (hm : X.mg "abs" = none) (ha : GQ X e q) (hg : Gl X "abs" := by rfl) (he : starEach [e] X.env = (false, eval e X.env) :: starEach [] X.env := by rfl) (hpl : (backTo pos (starEach [] X.env)).any (·.1) = false := by rfl) :
    GQ X (.Call (.Name "abs" p0) [e] [] pos) (pApp D.absI q) := gq_callB call_abs abs_g abs_flat hg hm (by decide +kernel) ha (by decide) (by decide) he hpl
theorem qSum (hc : X.calm = true) (hm : X.mg "sum" = none) (ha : GQ X e q) (hg : Gl X "sum" := by rfl) (he : starEach [e] X.env = (false, eval e X.env) :: starEach [] X.env := by rfl) (hpl : (backTo pos (starEach [] X.env)).any (·.1) = false := by rfl) :
    GQ X (.Call (.Name "sum" p0) [e] [] pos) (pApp D.sum q) := gq_callB (cr_sum hc) sum_g sum_flat hg hm (by decide +kernel) ha (by decide) (by decide) he hpl
theorem qIx (ha : GQ X a p) (hb : GQ X b q) (hs : PlainIx b := by intro _ _; rfl) : GQ X (.Subscript a b pos) (pOp D.ix p q) := gq_ix ha hb hs
theorem kitT_int : KitT "int" := ⟨by decide +kernel⟩
theorem kitT_bool : KitT "bool" := ⟨by decide +kernel⟩
theorem kitT_tuple : KitT "tuple" := ⟨by decide +kernel⟩
theorem kitT_list : KitT "list" := ⟨by decide +kernel⟩
theorem kitT_str : KitT "str" := ⟨by decide +kernel⟩
theorem kitT_dict : KitT "dict" := ⟨by decide +kernel⟩
theorem gq_callT1 {x : Str} {T : String} {r : List V → Hp → VK → Prop} {g : D → Option D} (hc : CallR X (.type T) r) (hA : CallG X.K r g) (hf : Flat1 g) (hg : Gl X x) (hm : X.mg x = none) (hv : bootBuiltins x = some (.type T)) (ha : GQ X e q) (hn : x ≠ "__name__" := by decide) (hdb : (x == ("__debug__" : Str)) = false := by decide)
    (he : starEach [e] X.env = (false, eval e X.env) :: starEach [] X.env := by rfl) (hpl : (backTo pos (starEach [] X.env)).any (·.1) = false := by rfl) : GQ X (.Call (.Name x p0) [e] [] pos) (pApp g q) :=
  (pe_callTy hc hg hm hv (pa_cons ha pa_nil he) hn hdb he hpl).to fun σ H Q k => by
    obtain ⟨env, C, cov, lv, d, ed, k⟩ := k
    obtain ⟨y, ey, ed⟩ := Option.bind_eq_some_iff.mp ed
    exact ⟨env, C, cov, lv, y, ey, fun v pt => hA H _ y d v Q ed pt (k _ (pt.live.parts (hf _ _ ed)))⟩
theorem qInt (hm : X.mg "int" = none) (ha : GQ X e q) (hg : Gl X "int" := by rfl) (he : starEach [e] X.env = (false, eval e X.env) :: starEach [] X.env := by rfl) (hpl : (backTo pos (starEach [] X.env)).any (·.1) = false := by rfl) :
    GQ X (.Call (.Name "int" p0) [e] [] pos) (pApp D.toInt q) := gq_callT1 call_int1 int_g int_flat hg hm (by decide +kernel) ha (by decide) (by decide) he hpl
theorem qIsi {T : String} {p1 p2 : Pos} (kt : KitT T) (hm : X.mg "isinstance" = none) (hT : PE X b (tC (.ty T))) (ha : GQ X e q) (hg : Gl X "isinstance" := by rfl)
    (he : starEach [e, b] X.env = (false, eval e X.env) :: starEach [b] X.env := by rfl) (he2 : starEach [b] X.env = (false, eval b X.env) :: starEach [] X.env := by rfl) (hpl : (backTo pos (starEach [b] X.env)).any (·.1) = false := by rfl) :
    GQ X (.Call (.Name "isinstance" p0) [e, b] [] pos) (pApp (isD T) q) := gq_isi (p1 := p1) (p2 := p2) (x := "isinstance") kt hg hm hT ha he he2 hpl
theorem qTy {x : Str} {T : String} (hm : X.mg x = none) (hv : bootBuiltins x = some (.type T)) (hg : Gl X x := by rfl) (hn : x ≠ "__name__" := by decide) (hd : (x == ("__debug__" : Str)) = false := by decide) : PE X (.Name x pos) (tC (.ty T)) := pe_bltn hg hm hv rfl hn hd
theorem qGlob {x : Str} {i : Int} {t : Nat} (hm : X.mg x = some (.int i t)) (hg : Gl X x := by rfl) (hd : (x == ("__debug__" : Str)) = false := by decide) : GQ X (.Name x pos) (pK (.int i)) := gq_const (v := .int i) (pe_glob hg hm ⟨t, rfl⟩ hd)
theorem qGlobE {x : Str} {i : Int} (hm : ∃ t, X.mg x = some (.int i t)) (hg : Gl X x := by rfl) (hd : (x == ("__debug__" : Str)) = false := by decide) : GQ X (.Name x pos) (pK (.int i)) := by
  obtain ⟨t, hm⟩ := hm
  exact qGlob hm hg hd
theorem qI {i : Int} {j : Nat} : GQ X (.Constant (.int i) j pos) (pK (.int i)) := gq_const pe_int
theorem qS {i : Str} {j : Nat} : GQ X (.Constant (.str i) j pos) (pK (.str i)) := gq_const pe_str
theorem qB {i : Bool} {j : Nat} : GQ X (.Constant (.bool i) j pos) (pK (.bl i)) := gq_const pe_bl
theorem qN {j : Nat} : GQ X (.Constant .none j pos) (pK .non) := gq_const pe_non
/-! ### tests -/
theorem tLt (ha : GQ X a p) (hb : GQ X b q) : GB X E (.Compare a [.Lt] [b] pos) (mPB (pOp iLt p q)) := gbq_cmp op_lt rI0_g gI_flatB ha hb (nomark _)
theorem tLe (ha : GQ X a p) (hb : GQ X b q) : GB X E (.Compare a [.LtE] [b] pos) (mPB (pOp iLe p q)) := gbq_cmp op_le rI0_g gI_flatB ha hb (nomark _)
theorem tGt (ha : GQ X a p) (hb : GQ X b q) : GB X E (.Compare a [.Gt] [b] pos) (mPB (pOp iGt p q)) := gbq_cmp op_gt rI0_g gI_flatB ha hb (nomark _)
theorem tGe (ha : GQ X a p) (hb : GQ X b q) : GB X E (.Compare a [.GtE] [b] pos) (mPB (pOp iGe p q)) := gbq_cmp op_ge rI0_g gI_flatB ha hb (nomark _)
theorem tEq (hr : Room k X.A) (ha : GQ X a p) (hb : GQ X b q) : GB X E (.Compare a [.Eq] [b] pos) (mPB (pOp gEq p q)) := gbq_cmp (op_eqX (Room.u64 hr)) eq_g eq_flat ha hb (nomark _)
theorem tNe (hr : Room k X.A) (ha : GQ X a p) (hb : GQ X b q) : GB X E (.Compare a [.NotEq] [b] pos) (mPB (pOp gNe p q)) := gbq_cmp (op_neX (Room.u64 hr)) ne_g ne_flat ha hb (nomark _)
theorem tLeLe (ha : GQ X a p) (hb : GQ X b q) (hc : GQ X c s) (hm : lastMarks [.LtE, .LtE] [b, c] = false := by with_unfolding_all rfl) : GB X E (.Compare a [.LtE, .LtE] [b, c] pos) (mPB (pChain iLe iLe p q s)) := gbq_chain op_le op_le rI0_g rI0_g gI_flatB ha hb hc hm
theorem tLeLt (ha : GQ X a p) (hb : GQ X b q) (hc : GQ X c s) (hm : lastMarks [.LtE, .Lt] [b, c] = false := by with_unfolding_all rfl) : GB X E (.Compare a [.LtE, .Lt] [b, c] pos) (mPB (pChain iLe iLt p q s)) := gbq_chain op_le op_lt rI0_g rI0_g gI_flatB ha hb hc hm
theorem tLtLt (ha : GQ X a p) (hb : GQ X b q) (hc : GQ X c s) (hm : lastMarks [.Lt, .Lt] [b, c] = false := by with_unfolding_all rfl) : GB X E (.Compare a [.Lt, .Lt] [b, c] pos) (mPB (pChain iLt iLt p q s)) := gbq_chain op_lt op_lt rI0_g rI0_g gI_flatB ha hb hc hm
theorem tLtLe (ha : GQ X a p) (hb : GQ X b q) (hc : GQ X c s) (hm : lastMarks [.Lt, .LtE] [b, c] = false := by with_unfolding_all rfl) : GB X E (.Compare a [.Lt, .LtE] [b, c] pos) (mPB (pChain iLt iLe p q s)) := gbq_chain op_lt op_le rI0_g rI0_g gI_flatB ha hb hc hm
theorem wEq (hr : Room k X.A) (ha : GE X E a m) (hb : GE X E b n) : GB X E (.Compare a [.Eq] [b] pos) (mTf (mOp gEq m n)) := gb_cmp (op_eqX (Room.u64 hr)) (OpG.toA eq_g eq_flat) ha hb (nomark _)
theorem wNe (hr : Room k X.A) (ha : GE X E a m) (hb : GE X E b n) : GB X E (.Compare a [.NotEq] [b] pos) (mTf (mOp gNe m n)) := gb_cmp (op_neX (Room.u64 hr)) (OpG.toA ne_g ne_flat) ha hb (nomark _)
theorem wLt (ha : GE X E a m) (hb : GE X E b n) : GB X E (.Compare a [.Lt] [b] pos) (mTf (mOp iLt m n)) := gb_cmp op_lt (OpG.toA rI0_g gI_flatB) ha hb (nomark _)
theorem wLe (ha : GE X E a m) (hb : GE X E b n) : GB X E (.Compare a [.LtE] [b] pos) (mTf (mOp iLe m n)) := gb_cmp op_le (OpG.toA rI0_g gI_flatB) ha hb (nomark _)
theorem wGt (ha : GE X E a m) (hb : GE X E b n) : GB X E (.Compare a [.Gt] [b] pos) (mTf (mOp iGt m n)) := gb_cmp op_gt (OpG.toA rI0_g gI_flatB) ha hb (nomark _)
theorem wGe (ha : GE X E a m) (hb : GE X E b n) : GB X E (.Compare a [.GtE] [b] pos) (mTf (mOp iGe m n)) := gb_cmp op_ge (OpG.toA rI0_g gI_flatB) ha hb (nomark _)
/-! ### values -/
theorem vEq (hr : Room k X.A) (ha : GE X E a m) (hb : GE X E b n) : GE X E (.Compare a [.Eq] [b] pos) (mOp gEq m n) := ge_cmp (op_eqX (Room.u64 hr)) (OpG.toA eq_g eq_flat) ha hb (nomark _)
theorem vNe (hr : Room k X.A) (ha : GE X E a m) (hb : GE X E b n) : GE X E (.Compare a [.NotEq] [b] pos) (mOp gNe m n) := ge_cmp (op_neX (Room.u64 hr)) (OpG.toA ne_g ne_flat) ha hb (nomark _)
theorem vAdd (ha : GE X E a m) (hb : GE X E b n) : GE X E (.BinOp a .Add b pos) (mOp aAdd m n) := ge_op (op_add.or (op_add_str.or (op_cat.or op_catA))) ((OpG.toA rI0_g gI0_flatI).or ((OpG.toA catS_g catS_flat).or (cat_a.or catT_a))) ha hb
theorem vSub (ha : GE X E a m) (hb : GE X E b n) : GE X E (.BinOp a .Sub b pos) (mOp iSub m n) := ge_op op_sub (OpG.toA rI0_g gI0_flatI) ha hb
theorem vMul (ha : GE X E a m) (hb : GE X E b n) : GE X E (.BinOp a .Mult b pos) (mOp aMul m n) := ge_op (op_mul.or op_rep) ((OpG.toA rI_g gI_flatI).or rep_a) ha hb
theorem vDiv (ha : GE X E a m) (hb : GE X E b n) : GE X E (.BinOp a .FloorDiv b pos) (mOp iDiv m n) := ge_op op_fdiv (OpG.toA rI_g gI_flatI) ha hb
theorem vMod (ha : GE X E a m) (hb : GE X E b n) : GE X E (.BinOp a .Mod b pos) (mOp iMod m n) := ge_op op_mod (OpG.toA rI_g gI_flatI) ha hb
theorem vIx (ha : GE X E a m) (hb : GE X E b n) (hs : PlainIx b := by intro _ _; rfl) : GE X E (.Subscript a b pos) (mOp ixA m n) := ge_ix ha hb hs
theorem vSl {lo hi : Option Expr} {p2 : Pos} {pl ph : PartI} (he : GE X E e m) (hl : GO X lo pl) (hh : GO X hi ph) : GE X E (.Subscript e (.Slice lo hi none p2) pos) (mSl m pl ph (DL.sl3)) := ge_sl sl3_r sl3_a he hl hh
theorem vSlX {lo hi : Option Expr} {p2 : Pos} {pl ph : PartI} (he : GE X E e m) (hl : GO X lo pl) (hh : GO X hi ph) : GE X E (.Subscript e (.Slice lo hi none p2) pos) (mSl m pl ph slX) := ge_sl sl_list slX_a he hl hh
theorem vBack {kk : Nat} {p1 p2 p3 : Pos} (he : GE X E e m) : GE X E (.Subscript e (.Slice none none (some (.UnaryOp .USub (.Constant (.int 1) kk p1) p2)) p3) pos) (mBack none m) := ge_back he po_none fun σ H Q q => q
theorem vBackN {i : Int} {k1 kk : Nat} {p1 p2 p3 p4 p5 : Pos} (he : GE X E e m) : GE X E (.Subscript e (.Slice (some (.UnaryOp .USub (.Constant (.int i) k1 p4) p5)) none (some (.UnaryOp .USub (.Constant (.int 1) kk p1) p2)) p3) pos) (mBack (some (-i)) m) := ge_back he (po_some (pe_un un_neg pe_int)) fun σ H Q q => ⟨i, rfl, -i, rfl, q⟩
theorem vBackP {i : Int} {k1 kk : Nat} {p1 p2 p3 p4 : Pos} (he : GE X E e m) : GE X E (.Subscript e (.Slice (some (.Constant (.int i) k1 p4)) none (some (.UnaryOp .USub (.Constant (.int 1) kk p1) p2)) p3) pos) (mBack (some i) m) := ge_back he (po_some pe_int) fun σ H Q q => ⟨i, rfl, q⟩
theorem vAll (hc : X.calm = true) (hm : X.mg "all" = none) (ha : GA X E [e] ms) (hg : Gl X "all" := by rfl) (he : starEach [e] X.env = (false, eval e X.env) :: starEach [] X.env := by rfl) (hpl : (backTo pos (starEach [] X.env)).any (·.1) = false := by rfl) :
    GE X E (.Call (.Name "all" p0) [e] [] pos) (mApp (one D.all) ms) := ge_callB (cr_all hc) (CallG.toA all_g all_flat) hg hm (by decide +kernel) ha (by decide) (by decide) he hpl
theorem vAny (hc : X.calm = true) (hm : X.mg "any" = none) (ha : GA X E [e] ms) (hg : Gl X "any" := by rfl) (he : starEach [e] X.env = (false, eval e X.env) :: starEach [] X.env := by rfl) (hpl : (backTo pos (starEach [] X.env)).any (·.1) = false := by rfl) :
    GE X E (.Call (.Name "any" p0) [e] [] pos) (mApp (one D.any) ms) := ge_callB (cr_any hc) (CallG.toA any_g any_flat) hg hm (by decide +kernel) ha (by decide) (by decide) he hpl
theorem vSum (hc : X.calm = true) (hm : X.mg "sum" = none) (ha : GA X E [e] ms) (hg : Gl X "sum" := by rfl) (he : starEach [e] X.env = (false, eval e X.env) :: starEach [] X.env := by rfl) (hpl : (backTo pos (starEach [] X.env)).any (·.1) = false := by rfl) :
    GE X E (.Call (.Name "sum" p0) [e] [] pos) (mApp (one D.sum) ms) := ge_callB (cr_sum hc) (CallG.toA sum_g sum_flat) hg hm (by decide +kernel) ha (by decide) (by decide) he hpl
theorem vLen (hm : X.mg "len" = none) (ha : GA X E [e] ms) (hg : Gl X "len" := by rfl) (he : starEach [e] X.env = (false, eval e X.env) :: starEach [] X.env := by rfl) (hpl : (backTo pos (starEach [] X.env)).any (·.1) = false := by rfl) :
    GE X E (.Call (.Name "len" p0) [e] [] pos) (mApp (one D.len) ms) := ge_callB call_len (CallG.toA len_g len_flat) hg hm PySem.boot_len ha (by decide) (by decide) he hpl
theorem vRepr (hgd : X.A.guards = some []) (hr : Room k X.A) (hm : X.mg "repr" = none) (ha : GA X E [e] ms) (hg : Gl X "repr" := by rfl) (he : starEach [e] X.env = (false, eval e X.env) :: starEach [] X.env := by rfl) (hpl : (backTo pos (starEach [] X.env)).any (·.1) = false := by rfl) :
    GE X E (.Call (.Name "repr" p0) [e] [] pos) (mApp (one D.repr) ms) := ge_callB (cr_repr hgd (Room.u66 hr)) (CallG.toA repr_g repr_flat) hg hm (by decide +kernel) ha (by decide) (by decide) he hpl
theorem vMax (hc : X.calm = true) (hm : X.mg "max" = none) (ha : GA X E [e] ms) (hg : Gl X "max" := by rfl) (he : starEach [e] X.env = (false, eval e X.env) :: starEach [] X.env := by rfl) (hpl : (backTo pos (starEach [] X.env)).any (·.1) = false := by rfl) :
    GE X E (.Call (.Name "max" p0) [e] [] pos) (mApp (one D.maxL) ms) := ge_callB (cr_max hc) (CallG.toA max_g max_flat) hg hm (by decide +kernel) ha (by decide) (by decide) he hpl
theorem vMin (hc : X.calm = true) (hm : X.mg "min" = none) (ha : GA X E [e] ms) (hg : Gl X "min" := by rfl) (he : starEach [e] X.env = (false, eval e X.env) :: starEach [] X.env := by rfl) (hpl : (backTo pos (starEach [] X.env)).any (·.1) = false := by rfl) :
    GE X E (.Call (.Name "min" p0) [e] [] pos) (mApp (one D.minL) ms) := ge_callB (cr_min hc) (CallG.toA min_g min_flat) hg hm (by decide +kernel) ha (by decide) (by decide) he hpl
theorem vMax2 (hc : X.calm = true) (hm : X.mg "max" = none) (ha : GA X E [a, b] ms) (hg : Gl X "max" := by rfl) (he : starEach [a, b] X.env = (false, eval a X.env) :: starEach [b] X.env := by rfl) (hpl : (backTo pos (starEach [b] X.env)).any (·.1) = false := by rfl) :
    GE X E (.Call (.Name "max" p0) [a, b] [] pos) (mApp (two max2) ms) := ge_callB (call_max2 hc) (two_a fun i j H Q q => ⟨i, j, rfl, q⟩) hg hm (by decide +kernel) ha (by decide) (by decide) he hpl
theorem vMin2 (hc : X.calm = true) (hm : X.mg "min" = none) (ha : GA X E [a, b] ms) (hg : Gl X "min" := by rfl) (he : starEach [a, b] X.env = (false, eval a X.env) :: starEach [b] X.env := by rfl) (hpl : (backTo pos (starEach [b] X.env)).any (·.1) = false := by rfl) :
    GE X E (.Call (.Name "min" p0) [a, b] [] pos) (mApp (two min2) ms) := ge_callB (call_min2 hc) (two_a fun i j H Q q => ⟨i, j, rfl, q⟩) hg hm (by decide +kernel) ha (by decide) (by decide) he hpl
theorem vTup (hm : X.mg "tuple" = none) (ha : GA X E [e] ms) (hg : Gl X "tuple" := by rfl) (he : starEach [e] X.env = (false, eval e X.env) :: starEach [] X.env := by rfl) (hpl : (backTo pos (starEach [] X.env)).any (·.1) = false := by rfl) :
    GE X E (.Call (.Name "tuple" p0) [e] [] pos) (mApp (one D.toTup) ms) := ge_callT call_tuple_of totup_a hg hm (by decide +kernel) ha (by decide) (by decide) he hpl
theorem vLst (hm : X.mg "list" = none) (ha : GA X E [e] ms) (hg : Gl X "list" := by rfl) (he : starEach [e] X.env = (false, eval e X.env) :: starEach [] X.env := by rfl) (hpl : (backTo pos (starEach [] X.env)).any (·.1) = false := by rfl) :
    GE X E (.Call (.Name "list" p0) [e] [] pos) (mApp (one D.toLst) ms) := ge_callT call_list_of tolst_a hg hm (by decide +kernel) ha (by decide) (by decide) he hpl
theorem vSorted (hm : X.mg "sorted" = none) (ha : GA X E [e] ms) (hg : Gl X "sorted" := by rfl) (he : starEach [e] X.env = (false, eval e X.env) :: starEach [] X.env := by rfl) (hpl : (backTo pos (starEach [] X.env)).any (·.1) = false := by rfl) :
    GE X E (.Call (.Name "sorted" p0) [e] [] pos) (mApp (one D.sortedI) ms) := ge_callB cr_sortedI sorted_a hg hm (by decide +kernel) ha (by decide) (by decide) he hpl
/-! ### methods of lists at names -/
theorem vApp {i : Nat} (ho : PE X o (tVar i)) (hm : GE X E e m) (hs : starEach [e] X.env = (false, eval e X.env) :: starEach [] X.env := by rfl) (hbase : attributeBase o "append" X.env (eval o X.env) = eval o X.env := by rfl)
    (hfew : ((backTo pos (starEach [e] X.env)).all (fun x => !x.1) && (backToKw pos (keywordEach [] X.env)).all (fun x => x.1.isSome) && decide (([e] : List Expr).length + ([] : List Keyword).length + (if ([] : List Keyword).isEmpty then 0 else 1) < 30)) = true := by rfl)
    (hline : (apos.endLine == pos.line) = true := by rfl) (hpl : (backTo pos (starEach [] X.env)).any (·.1) = false := by rfl) : GE X E (.Call (.Attribute o "append" apos) [e] [] pos) (mApnd i m) :=
  ge_append ho hm hs fun h1 h2 => pe_bm PySem.F.plainAttrs_list PySem.F.slot_list_append PySem.F.type_list_append mt_append h1 h2 hbase hfew hline hs hpl
theorem vPop {i : Nat} (ho : PE X o (tVar i)) (hbase : attributeBase o "pop" X.env (eval o X.env) = eval o X.env := by rfl) (hline : (apos.endLine == pos.line) = true := by rfl) : GE X E (.Call (.Attribute o "pop" apos) [] [] pos) (mMeth0 i popD) :=
  ge_pop ho fun h1 => pe_bm0 PySem.F.plainAttrs_list PySem.F.slot_list_pop PySem.F.type_list_pop mt_pop h1 hbase hline
/-! ### statements -/
theorem sAugAdd {i : Nat} (ho : PE X o (tVar i)) (hi : GQ X b p) (he : GE X E e m) (ha : ∀ ov iv new, augStore b ov iv new = (do holding [new, ov, iv] (setItem ov iv new); release [new, ov, iv] []; pure .next) := by intros; rfl) : GS X E R (.AugAssign (.Subscript o b tpos) .Add e pos) (mAugS i p m iAdd) := gs_augS ho hi he iop_add (OpG.toA rI0_g gI0_flatI) ha
theorem sAugSub {i : Nat} (ho : PE X o (tVar i)) (hi : GQ X b p) (he : GE X E e m) (ha : ∀ ov iv new, augStore b ov iv new = (do holding [new, ov, iv] (setItem ov iv new); release [new, ov, iv] []; pure .next) := by intros; rfl) : GS X E R (.AugAssign (.Subscript o b tpos) .Sub e pos) (mAugS i p m iSub) := gs_augS ho hi he iop_sub (OpG.toA rI0_g gI0_flatI) ha
theorem sAdd {i : Nat} {x : Str} {pos' : Pos} (hN : X.N.Nodup) (hi : X.N[i]? = some x) (hx : Loc X.env.scope x) (he : GE X E e m) (hr : R i = false := by rfl) (hf : X.fn x = true ∨ X.env.scope.names.lookup x = some .local := by first | exact .inl rfl | exact .inr rfl | assumption) : GS X E R (.AugAssign (.Name x pos') .Add e pos) (mAug i m (orG iAdd gCatS)) :=
  gs_aug (fun h1 h2 => ps_aug hN hi hx h1 h2 hf) he (iop_add.or iop_add_str) ((OpG.toA rI0_g gI0_flatI).or (OpG.toA catS_g catS_flat)) hr
theorem sSub {i : Nat} {x : Str} {pos' : Pos} (hN : X.N.Nodup) (hi : X.N[i]? = some x) (hx : Loc X.env.scope x) (he : GE X E e m) (hr : R i = false := by rfl) (hf : X.fn x = true ∨ X.env.scope.names.lookup x = some .local := by first | exact .inl rfl | exact .inr rfl | assumption) : GS X E R (.AugAssign (.Name x pos') .Sub e pos) (mAug i m iSub) :=
  gs_aug (fun h1 h2 => ps_aug hN hi hx h1 h2 hf) he iop_sub (OpG.toA rI0_g gI0_flatI) hr
theorem sMul {i : Nat} {x : Str} {pos' : Pos} (hN : X.N.Nodup) (hi : X.N[i]? = some x) (hx : Loc X.env.scope x) (he : GE X E e m) (hr : R i = false := by rfl) (hf : X.fn x = true ∨ X.env.scope.names.lookup x = some .local := by first | exact .inl rfl | exact .inr rfl | assumption) : GS X E R (.AugAssign (.Name x pos') .Mult e pos) (mAug i m iMul) :=
  gs_aug (fun h1 h2 => ps_aug hN hi hx h1 h2 hf) he iop_mul (OpG.toA rI_g gI_flatI) hr
theorem sExt {i : Nat} {x : Str} {pos' : Pos} (hN : X.N.Nodup) (hi : X.N[i]? = some x) (hx : Loc X.env.scope x) (he : GE X E e m) (hf : X.fn x = true ∨ X.env.scope.names.lookup x = some .local := by first | exact .inl rfl | exact .inr rfl | assumption) : GS X E R (.AugAssign (.Name x pos') .Add e pos) (mExt i m) :=
  gs_ext (fun h1 h2 => ps_aug hN hi hx h1 h2 hf) he
theorem sSet {i : Nat} {x : Str} {pos' : Pos} (hN : X.N.Nodup) (hi : X.N[i]? = some x) (hx : Loc X.env.scope x) (he : GE X E e m) (hs : swapsWith e (some (.Name x pos')) pos.line X.env = pure false := by rfl) (hr : R i = false := by rfl) (hf : X.fn x = true ∨ X.env.scope.names.lookup x = some .local := by first | exact .inl rfl | exact .inr rfl | assumption) : GS X E R (.Assign [.Name x pos'] e pos) (mAsg m (gN i)) :=
  gs_set (fun h1 => ps_set hN hi hx h1 hs hf) he hr
theorem sPar {i j : Nat} {x y : Str} {px py pt : Pos} {kt k2 pt2} (hc : X.calm = true) (hN : X.N.Nodup) (hi : X.N[i]? = some x) (hj : X.N[j]? = some y) (hij : i ≠ j) (hx : X.env.scope.names.lookup x = some .local) (hy : X.env.scope.names.lookup y = some .local) (ha : GA X E [a, b] ms)
    (hs : swapsWithSole [.Tuple [.Name x px, .Name y py] kt pt] (.Tuple [a, b] k2 pt2) pos.line X.env = pure false := by rfl) (hi' : R i = false := by rfl) (hj' : R j = false := by rfl) (hw : swappedStores [.Tuple [.Name x px, .Name y py] kt pt] (.Tuple [a, b] k2 pt2) X.env = pure (some [x, y]) := by rfl) : GS X E R (.Assign [.Tuple [.Name x px, .Name y py] kt pt] (.Tuple [a, b] k2 pt2) pos) (mPar i j ms) :=
  gs_par (tgs := []) (ps_par hc hN hi hj hij hx hy ha (hs := hs) (hw := hw)) hi' hj'
end

/-! ### defs -/
def Own (K : PySem.W.Frag) (mg : Str → Option Value) (x : Str) (st : Stmt) (ps : List Str) : Prop := ∃ (f : Addr) (fd : FuncData), Fun K x x st f fd ∧ Binds K fd ps [] ∧ PySem.W.keepIn K (.ref f) = true ∧ mg x = some (.ref f)
def Def (P : Program) (w : World) (K : PySem.W.Frag) (mg : Str → Option Value) (base : Heap) (x : Str) (k : Nat) (ps : List Str) (mv : List Nat) (den : FD) : Prop :=
  ∃ (f : Addr) (fd : FuncData), mg x = some (.ref f) ∧ PySem.W.keepIn K (.ref f) = true ∧ Binds K fd ps [] ∧ FnG P w K mg base k f fd ps (spD K mg ps.length mv den)
theorem Def.of {P : Program} {w : World} {K : PySem.W.Frag} {mg : Str → Option Value} {base : Heap} {k : Nat} {x : Str} {st : Stmt} {N ps : List Str} {mv : List Nat} {m : M Flow} (O : Own K mg x st ps) (S : FnScope N ps (defScope st)) (nd : mv.Nodup) (hmv : ∀ i ∈ mv, i < ps.length)
    (hbody : ∀ (f : Addr) (cdv : Value) (A : Around) (outer : List PySem.Env) (s : Shared) (H : Hp) (E : XK) (Ex : XD), Room k (A.deeper (envOfC x (defScope st) s.heap.objs.size f cdv)) → A.guards = some [] → (∀ x cls dd H', ExcAt mg x cls dd H' → Ex x H' → E cls dd H') →
      GSs (cxOf (L2.CX P w) P w K mg base N x (defScope st) f cdv A outer s H E) Ex (fun i => mv.contains i) (defBody st) m) : Def P w K mg base x (k + 1) ps mv (denF N.length mv m) := by
  obtain ⟨f, fd, F, B, kp, hm⟩ := O
  exact ⟨f, fd, hm, kp, B, fnD_of F S nd hmv fun cdv A outer s H E Ex hr gd hE => hbody f cdv A outer s H E Ex hr gd hE⟩
section
variable {X : Cx} {E : XD} {x : Str} {k : Nat} {ps : List Str} {mv : List Nat} {den : FD} {prs : Prs} {e : Expr} {es : List Expr} {p pos : Pos} {ms : M (List D)}
theorem vCall {j : Nat} (h : Def X.prog X.w X.K X.mg X.base x j ps mv den) (hr : Room k X.A) (hjk : j ≤ k) (hgd : X.A.guards = some []) (hx : LetX X E) (ha : GR X E prs (e :: es) ms) {len : Nat} (hl : LenM len ms) (hlen : ps.length = len := by rfl) (hp : prs.map (·.1) = mv := by rfl) (hg : Gl X x := by rfl) (hdb : (x == ("__debug__" : Str)) = false := by decide)
    (he : starEach (e :: es) X.env = (false, eval e X.env) :: starEach es X.env := by rfl) (hpl : (backTo pos (starEach es X.env)).any (·.1) = false := by rfl) : GE X E (.Call (.Name x p) (e :: es) [] pos) (mCall den prs ms) := by
  obtain ⟨f, fd, hm, kp, B, F⟩ := h
  subst hp
  subst hlen
  exact ge_call F (hr.mono hjk) hgd hg hm kp B hx ha hl hdb he hpl
end
/-! ### and, or, not as values -/
section
variable {X : Cx} {E : XD} {e a b : Expr} {rest : List Expr} {pos : Pos} {m n : M D} {p q : Env → Option D}
def mAndV (m n : M D) : M D := m.andThen fun x => match x with
  | .bl true => n
  | .bl false => M.ret (.bl false)
  | _ => M.stop
def mOrV (m n : M D) : M D := m.andThen fun x => match x with
  | .bl true => M.ret (.bl true)
  | .bl false => n
  | _ => M.stop
def notD : D → Option D
  | .bl b => some (.bl (!b))
  | _ => none
theorem v_one {op : BoolOp} (h : GE X E a m) : GE X E (.BoolOp op [a] pos) m := pe_one h
theorem v_and (ha : GE X E a m) (hb : GE X E (.BoolOp .And (b :: rest) pos) n) : GE X E (.BoolOp .And (a :: b :: rest) pos) (mAndV m n) := (pe_and ha hb).to fun σ H Q k => by
  obtain ⟨env, C, cov, lv, k⟩ := rdE_bind k
  refine ⟨env, C, cov, lv, ?_⟩
  cases o : m env with
  | bad => rw [o] at k; exact k
  | exc x e' => rw [o] at k; exact k
  | ok x e' =>
    rw [o] at k
    intro v H' c l
    obtain ⟨e1, C1, x1, c1, l1, q⟩ := k v H' c l
    split at q
    · obtain rfl := (Live.part l1).bl
      exact ⟨true, rfl, by simp only [if_true]; exact ⟨e1, C1, c1, LiveX.drop l1, q⟩⟩
    · obtain rfl := (Live.part l1).bl
      exact ⟨false, rfl, by simp only [Bool.false_eq_true, if_false]; exact q _ H' c1 l1⟩
    · exact q.elim
theorem v_or (ha : GE X E a m) (hb : GE X E (.BoolOp .Or (b :: rest) pos) n) : GE X E (.BoolOp .Or (a :: b :: rest) pos) (mOrV m n) := (pe_or ha hb).to fun σ H Q k => by
  obtain ⟨env, C, cov, lv, k⟩ := rdE_bind k
  refine ⟨env, C, cov, lv, ?_⟩
  cases o : m env with
  | bad => rw [o] at k; exact k
  | exc x e' => rw [o] at k; exact k
  | ok x e' =>
    rw [o] at k
    intro v H' c l
    obtain ⟨e1, C1, x1, c1, l1, q⟩ := k v H' c l
    split at q
    · obtain rfl := (Live.part l1).bl
      exact ⟨true, rfl, by simp only [if_true]; exact q _ H' c1 l1⟩
    · obtain rfl := (Live.part l1).bl
      exact ⟨false, rfl, by simp only [Bool.false_eq_true, if_false]; exact ⟨e1, C1, c1, LiveX.drop l1, q⟩⟩
    · exact q.elim
theorem v_not (ha : GE X E a m) : GE X E (.UnaryOp .Not a pos) (mUn notD m) := (pe_not ha).to fun σ H Q k => by
  obtain ⟨env, C, cov, lv, k⟩ := rdE_bind k
  refine ⟨env, C, cov, lv, ?_⟩
  cases o : m env with
  | bad => rw [o] at k; exact k
  | exc x e' => rw [o] at k; exact k
  | ok x e' =>
    rw [o] at k
    intro v H' c l
    obtain ⟨e1, C1, x1, c1, l1, q⟩ := k v H' c l
    obtain ⟨d, ed, q⟩ := opt_rest q
    cases x1 <;> simp [notD] at ed
    subst ed
    obtain rfl := (Live.part l1).bl
    exact ⟨_, rfl, q _ H' c1 (Live.flat (d := .bl _) (LiveX.drop l1) rfl)⟩
theorem q_not (ha : GQ X a p) : GQ X (.UnaryOp .Not a pos) (pUn notD p) := (pe_not ha).to fun σ H Q k => by
  obtain ⟨env, C, cov, lv, d, ed, k⟩ := k
  obtain ⟨x, ex, ed⟩ := Option.bind_eq_some_iff.mp ed
  cases x <;> simp [notD] at ed
  subst ed
  refine ⟨env, C, cov, lv, _, ex, fun v pt => ?_⟩
  obtain rfl := pt.bl
  exact ⟨_, rfl, k (.bl _) (pt.live.parts (d := .bl _) rfl)⟩
end
end DL
namespace DL
open PySem PySem.Spec PyProof.Rows L2
/-! ### the end -/
/-- the law's promise, called by the judge's frame -/
theorem law_end {P : Program} {w : World} {K : PySem.W.Frag} {mg mb : Str → Option Value} {k : Nat} {fa a : Addr} {x p : Str} {s₁ : Shared} {us : List Value} {ns : List Int} {den : FD}
    (KX : K.In s₁.heap) (hns : s₁.heap.Ns mainGlobals mg) (hb : s₁.heap.Ns builtinsNs mb) (hbb : ∀ x : Str, x ≠ "__name__" → mb x = bootBuiltins x) (hlim : s₁.heap.NoLimit) (hg : s₁.gens = #[])
    (ha : s₁.heap.get? a = some { cls := .type "list", data := .seq us.toArray }) (hi : IntsAre us ns) (hl : ns.length ≤ sizeLine) (hr : Room k callerA)
    (F : ∀ base : Heap, K.In base → base.Ns mainGlobals mg → Def P w K mg base x k [p] [] den) (hfa : mg x = some (.ref fa))
    (hden : ∃ e, den [.scr ns] = .ok (.bl true) e) :
    codeAny (model P w) callerA (.call (.ref fa) ⟨[.ref a], []⟩) (fun r s' => r = .ok (.ret (.bool true)) ∧ OldK s₁.heap s'.heap ∧ s'.os = s₁.os ∧ AllBare s'.gens) s₁ := by
  have hv := vals_ints hi
  have hlen := hi.length
  -- whatever of the script is tracked
  have main : ∀ H : Hp, Only H → SqL K H a (ns.map V.int) → HOk P w H s₁.heap → (∀ b, H b ≠ none → b = a) → (H a ≠ none → K.lookup a = none) →
      codeAny (model P w) callerA (.call (.ref fa) ⟨[.ref a], []⟩) (fun r s' => r = .ok (.ret (.bool true)) ∧ OldK s₁.heap s'.heap ∧ s'.os = s₁.os ∧ AllBare s'.gens) s₁ := by
    intro H only sq ok just notK
    have atA : ∀ {b : Addr} {u : HO}, H b = some u → b = a := fun {b u} q => just b (by rw [q]; exact Option.some_ne_none u)
    have dictFree : ∀ {b : Addr} {o : Obj} {es : Array DictEntry} {ep : Nat}, s₁.heap.get? b = some o → o.data = .dict es ep → H b = none := fun {b o es ep} e d => by
      cases q : H b with
      | none => rfl
      | some u =>
        obtain rfl := atA q
        rw [ha] at e
        cases e
        exact absurd (show Data.seq us.toArray _ = Data.dict es ep from d) (fun z => by cases z)
    have hidNs : ∀ {b : Addr} {m : Str → Option Value}, s₁.heap.Ns b m → (hidT s₁.heap H).Ns b m := fun {b m} hm => by
      obtain ⟨o, es, ep, e, d, r⟩ := hm
      exact ⟨o, es, ep, hidT_get e (dictFree e d), d, r⟩
    have kIn : K.In (hidT s₁.heap H) := fun b o e => by
      refine hidT_get (KX b o e) ?_
      cases q : H b with
      | none => rfl
      | some u =>
        obtain rfl := atA q
        rw [notK (by rw [q]; exact Option.some_ne_none u)] at e
        cases e
    have mod : Mod K mg (hidT s₁.heap H) := by
      obtain ⟨mc, h1, h2⟩ := hlim
      exact ⟨kIn, hidNs hns, ⟨mb, hidNs hb, hbb⟩, ⟨mc, hidNs h1, h2⟩⟩
    have env0 : Env0 P w K mg (hidT s₁.heap H) callerA [] s₁ H := ⟨rfl, mod, fun b o e => of_hidT e, Nat.le_of_eq (hidT_size _ _), trivial, fun b hb => absurd (show b ∈ ([] : List Addr) from hb) (by simp), ok, .of_eq hg⟩
    have promise : spD K mg 1 [] den [.ref a] H (fun v _ => v = .bl true) (fun _ _ _ => False) := by
      refine ⟨[.scr ns], [], fun _ _ => False, fun _ _ _ _ _ z => z.elim, rfl, rfl, scr_live sq hl, ?_⟩
      obtain ⟨e, he⟩ := hden
      rw [he]
      intro v H' _ l
      have := (Live.part l).bl
      exact this
    obtain ⟨f, fd, hf, _, hbind, G⟩ := F _ kIn (hidNs hns)
    cases hfa.symm.trans hf
    refine codeAny_mono (G.run callerA [] s₁ H ⟨[.ref a], []⟩ [.ref a] [.ref a] _ _ hr rfl env0 (hbind s₁ [.ref a] KX rfl) (.cons rfl .nil) promise) ?_
    intro r s' h
    cases r with
    | error e =>
      exfalso
      obtain ⟨_, _, _, _, _, _, _, _, _, _, _, _, z⟩ := h
      exact z
    | ok fl =>
      cases fl with
      | next => exact False.elim h
      | brk => exact False.elim h
      | cont => exact False.elim h
      | ret u =>
        obtain ⟨v, H', os, bare, un, hok', r', q⟩ := h
        have q' : v = .bl true := q
        subst q'
        obtain rfl : u = Value.bool true := r'
        refine ⟨rfl, OldK.of_keep fun b o e => ?_, os, bare⟩
        cases q : H b with
        | none => exact un.keep b o e q (by intro z; exact absurd (show b ∈ ([] : List Addr) from z) (by simp)) (by simp)
        | some u =>
          rcases only b with z | ⟨ob, xs, z⟩
          · rw [q] at z; cases z
          · have z2 := un.frzs b ob _ z
            obtain ⟨e1, _⟩ := ok b _ z
            obtain ⟨e2, _⟩ := hok' b _ z2
            rw [e] at e1; cases e1
            exact e2
  by_cases hk : K.lookup a = none
  · let Hs : Hp := fun b => if b = a then some (.frz { cls := .type "list", data := .seq us.toArray } (.lst (ns.map V.int))) else none
    have e1 : Hs a = some (.frz { cls := .type "list", data := .seq us.toArray } (.lst (ns.map V.int))) := if_pos rfl
    have e2 : ∀ {b : Addr}, b ≠ a → Hs b = none := fun h => if_neg h
    refine main Hs (fun b => ?_) (.inl (.inr ⟨_, e1⟩)) (fun b u z => ?_) (fun b z => ?_) (fun _ => hk)
    · by_cases hb : b = a
      · subst hb
        exact .inr ⟨_, _, e1⟩
      · exact .inl (e2 hb)
    · by_cases hb : b = a
      · subst hb
        rw [e1] at z
        cases z
        exact ⟨ha, by simpa using hl, us, _, hv, ha⟩
      · rw [e2 hb] at z
        cases z
    · by_cases hb : b = a
      · exact hb
      · exact absurd (e2 hb) z
  · obtain ⟨o, ho⟩ := Option.ne_none_iff_exists'.mp hk
    have e := KX a o ho
    rw [ha] at e
    cases e
    exact main (fun _ => none) (fun _ => .inl rfl) (.inr ⟨_, us.toArray, _, ho, rfl, rfl, rfl, by rw [List.size_toArray, hlen]; exact hl, by simpa using hv⟩) (fun b u z => by have z' : (none : Option HO) = some u := z; cases z') (fun b z => absurd rfl z) (fun z => absurd rfl z)
/-- the goal behind the head -/
theorem walk_D {l : PySem.W.OpenLaw} {n k : Nat} {q : Program} {loose : List Str} {XP : (Str → Option Value) → Heap → Prop} {YP : World → Heap → Prop} {d : DefRec} {K : Params → PySem.W.Frag} {den : FD} {p : Str}
    (hn : l.most = some n) (hn2 : n ≤ sizeLine) (hdf : d.params.defaults = []) (hr : Room k callerA) (hY : ∀ (w : World) (h : Heap), YP w h → (K w.params).In h)
    (F : ∀ (w : World) (mg : Str → Option Value) (h : Heap), XP mg h → (K w.params).In h → h.Ns mainGlobals mg → ∀ base : Heap, Def l.prog w (K w.params) mg base d.name k [p] [] den)
    (hden : ∀ ns : List Int, ns.length ≤ n → ∃ e, den [.scr ns] = .ok (.bl true) e) :
    PySem.W.WalkO q loose XP YP l.row.toRowW d [] (fun f vs => PySem.call f vs) := by
  apply Att.attach_call hn hdf
  intro w s₀ s₁ mg mb fa o pm cd doc a vs ns G Y ho hd hcd hmg hobj hints hlen hg
  have kx := hY w _ Y
  exact law_end kx G.T.g G.T.b G.T.builtins G.T.nolimit hg hobj hints (Nat.le_trans hlen hn2) hr (fun base _ _ => F w mg _ G.X kx G.T.g base) hmg (hden ns hlen)
theorem own_of {K : PySem.W.Frag} {h : Heap} {mg : Str → Option Value} {x : Str} {st : Stmt} {ps : List Str} {f : Addr} {oc : Value} {od an : Option Addr} {osl : Array (Option Value)} {kV doc pm cdv ct : Value} (X : K.In h) (G : h.Ns mainGlobals mg)
    (a : PySem.W.nsIn K mainGlobals x = some (some (.ref f))) (l : K.lookup f = some ⟨oc, od, .func (PySem.W.fnOf x x (defArgs st) (defBody st) (defScope st) .none kV doc pm an cdv ct), osl⟩) (c : PySem.W.codeIn K cdv x = true) (k : PySem.W.keepIn K (.ref f) = true)
    (b : ∀ fd, Fun K x x st f fd → Binds K fd ps []) : Own K mg x st ps := ⟨f, _, fun_mk l c k, b _ (fun_mk l c k), k, PySem.W.mg_of X G a⟩
theorem int_of {K : PySem.W.Frag} {h : Heap} {mg : Str → Option Value} {x : Str} {i : Int} {t : Nat} (X : K.In h) (G : h.Ns mainGlobals mg) (a : PySem.W.nsIn K mainGlobals x = some (some (.int i t))) : ∃ t, mg x = some (.int i t) := ⟨t, PySem.W.mg_of X G a⟩
theorem loose_of {q : Program} {lv : List (Str × PySem.W.WData)} {h : Heap} {mg : Str → Option Value} {x : Str} {i : Int} (X : PySem.W.XL q lv mg h) (m : (x, PySem.W.WData.int i) ∈ lv) : ∃ t, mg x = some (.int i t) := by
  obtain ⟨v, e, r⟩ := X.2.val _ m
  cases r
  exact ⟨_, e⟩
end DL
/-! How denotations are reckoned with. -/
namespace DL
open PySem PySem.Spec PyProof.Rows L2
abbrev zs (ns : List Int) : List D := ns.map D.int
@[simp] theorem frzL_zs (ns : List Int) : D.frzL (ns.map D.int) = ns.map D.int := by
  rw [D.frzL_map, List.map_map]
  rfl
@[simp] theorem frz_int (i : Int) : (D.int i).frz = .int i := by simp [D.frz]
@[simp] theorem isFrz_int (i : Int) : (D.int i).isFrz = true := rfl
@[simp] theorem allFrz_zs (ns : List Int) : D.allFrz (ns.map D.int) = true := by
  induction ns with
  | nil => rfl
  | cons n ns ih => simp [D.allFrz, ih]
theorem seq_nx {m n : M Flow} {e e' : Env} (h : m e = .ok .nx e') : mSeq m n e = n e' := by
  unfold mSeq M.andThen
  rw [h]
theorem seq_rt {m n : M Flow} {e e' : Env} {d : D} (h : m e = .ok (.rt d) e') : mSeq m n e = .ok (.rt d) e' := by
  unfold mSeq M.andThen
  rw [h]
  rfl
theorem if_t {t : M Bool} {m n : M Flow} {e e' : Env} (h : t e = .ok true e') : mIf t m n e = m e' := by
  unfold mIf M.andThen
  rw [h]
  rfl
theorem if_f {t : M Bool} {m n : M Flow} {e e' : Env} (h : t e = .ok false e') : mIf t m n e = n e' := by
  unfold mIf M.andThen
  rw [h]
  rfl
theorem bind_ok {α β : Type} {m : M α} {k : α → M β} {e e' : Env} {a : α} (h : m e = .ok a e') : m.andThen k e = k a e' := by
  unfold M.andThen
  rw [h]
theorem asg_ok {m : M D} {g : Tgt} {e e' e2 : Env} {d : D} (h : m e = .ok d e') (h2 : g d e' = some e2) : mAsg m g e = .ok .nx e2 := by
  unfold mAsg
  rw [bind_ok h]
  unfold M.put
  rw [h2]
theorem ret_ok {m : M D} {e e' : Env} {d : D} (h : m e = .ok d e') : mRet m e = .ok (.rt d) e' := by
  unfold mRet
  rw [bind_ok h]
  rfl
theorem den_nx {n : Nat} {mv : List Nat} {m : M Flow} {ds : List D} {e : Env} (h : m (ds.map some ++ List.replicate (n - ds.length) none) = .ok .nx e) (ha : hasAll mv e = true) : denF n mv m ds = .ok .non (finOf mv e) := by
  unfold denF
  rw [h]
  simp [ha]
theorem den_rt {n : Nat} {mv : List Nat} {m : M Flow} {ds : List D} {e : Env} {d : D} (h : m (ds.map some ++ List.replicate (n - ds.length) none) = .ok (.rt d) e) (ha : hasAll mv e = true) : denF n mv m ds = .ok d (finOf mv e) := by
  unfold denF
  rw [h]
  simp [ha]
theorem eqv_int (a b : Int) : PyData.eqv (.int a) (.int b) = decide (a = b) := by
  simp only [PyData.eqv]
  rw [Bool.eq_iff_iff]
  simp
@[simp] theorem gEq_int (a b : Int) : gEq (.int a) (.int b) = some (.bl (decide (a = b))) := by
  show (gEqD false (.int a) (.int b)) = _
  unfold gEqD
  rw [if_pos ⟨by rfl, by rfl⟩]
  simp [D.py, eqv_int]
@[simp] theorem gNe_int (a b : Int) : gNe (.int a) (.int b) = some (.bl (!decide (a = b))) := by
  show (gEqD true (.int a) (.int b)) = _
  unfold gEqD
  rw [if_pos ⟨by rfl, by rfl⟩]
  simp [D.py, eqv_int]
@[simp] theorem iAdd_int (a b : Int) : iAdd (.int a) (.int b) = some (.int (a + b)) := rfl
@[simp] theorem iSub_int (a b : Int) : iSub (.int a) (.int b) = some (.int (a - b)) := rfl
@[simp] theorem iLt_int (a b : Int) : iLt (.int a) (.int b) = some (.bl (decide (a < b))) := rfl
@[simp] theorem iLe_int (a b : Int) : iLe (.int a) (.int b) = some (.bl (decide (a ≤ b))) := rfl
@[simp] theorem iGt_int (a b : Int) : iGt (.int a) (.int b) = some (.bl (decide (b < a))) := rfl
@[simp] theorem iGe_int (a b : Int) : iGe (.int a) (.int b) = some (.bl (decide (b ≤ a))) := rfl
theorem iMul_int {a b : Int} (h : CMul a b) : iMul (.int a) (.int b) = some (.int (a * b)) := by
  unfold iMul gI
  exact if_pos h
theorem iDiv_int {a b : Int} (h : CDiv a b) : iDiv (.int a) (.int b) = some (.int (a / b)) := by
  unfold iDiv gI
  exact if_pos h
theorem iMod_int {a b : Int} (h : 0 < b) : iMod (.int a) (.int b) = some (.int (a % b)) := by
  unfold iMod gI
  exact if_pos h
theorem iPow_int {a b : Int} (h : CPow a b) : iPow (.int a) (.int b) = some (.int (a ^ b.toNat)) := by
  unfold iPow gI
  exact if_pos h
theorem cmul_r {a b : Int} (h : -(2 ^ 64) < b ∧ b < 2 ^ 64) : CMul a b := .inr h
theorem cmul_l {a b : Int} (h : -(2 ^ 64) < a ∧ a < 2 ^ 64) : CMul a b := .inl h
@[simp] theorem aAdd_int (a b : Int) : aAdd (.int a) (.int b) = some (.int (a + b)) := rfl
@[simp] theorem aAdd_lst {o p : Bool} {xs ys : List D} (h : xs.length + ys.length ≤ sizeLine) : aAdd (.lst o xs) (.lst p ys) = some (.lst true (xs ++ ys)) := by
  show (gCat _ _).or _ = _
  simp [gCat, h]
@[simp] theorem aAdd_tup {xs ys : List D} (h : xs.length + ys.length ≤ sizeLine) : aAdd (.tup xs) (.tup ys) = some (.tup (xs ++ ys)) := by
  simp [aAdd, orG, iAdd, gI0, gCatS, gCat, gCatT, h]
theorem line_1000 {n : Nat} (h : n ≤ 1000000) : n ≤ sizeLine := by rw [sizeLine_eq]; omega
theorem aMul_rep {o : Bool} {xs : List D} {k : Int} (h0 : 0 ≤ k) (h : xs.length * k.toNat ≤ 1000000) (h1 : k ≤ 1000000) : aMul (.lst o xs) (.int k) = some (.lst true (List.replicate k.toNat (D.frzL xs)).flatten) := by
  have e : gRep (.lst o xs) (.int k) = some (.lst true (List.replicate k.toNat (D.frzL xs)).flatten) := by
    unfold gRep
    exact if_pos ⟨by omega, by omega, line_1000 h⟩
  simp [aMul, orG, iMul, gI, e]
theorem rep_one (n : Nat) (d : D) : (List.replicate n [d]).flatten = List.replicate n d := by
  induction n with
  | zero => rfl
  | succ n ih => simp [List.replicate_succ, ih]
theorem atI_map {α β : Type} {f : α → β} {xs : List α} {i : Int} : atI (xs.map f) i = (atI xs i).map f := by
  unfold atI
  rw [List.length_map]
  cases ixN xs.length i with
  | none => rfl
  | some j => simp
theorem ixN_nat {n j : Nat} (h : j < n) : ixN n (j : Int) = some j := by
  unfold ixN
  rw [if_pos (by omega), if_pos (by omega)]
  simp
theorem atI_nn {α : Type} {xs : List α} {i : Int} {j : Nat} (h : i = j) (hj : j < xs.length) : atI xs i = some xs[j] := by
  subst h
  unfold atI
  rw [ixN_nat hj]
  simp [hj]
theorem atI_m1 {α : Type} {xs : List α} {x : α} : atI (xs ++ [x]) (-1) = some x := atI_last xs x

/-! ### loops -/
theorem compM_inv {g : Tgt} {ks : List Nat} {t : M Bool} {m : M D} (Inv : Nat → Env → List D → Prop) : ∀ {xs : List D} {i : Nat} {e : Env} {acc : List D},
    (∀ j x e acc, xs[j]? = some x → Inv (i + j) e acc → ∃ e1 e2 e3 d, g x (kill ks e) = some e1 ∧ t e1 = .ok true e2 ∧ m e2 = .ok d e3 ∧ Inv (i + j + 1) e3 (acc ++ [d])) → Inv i e acc →
    ∃ e' acc', compM g ks t m xs acc e = .ok (.lst true acc') (kill ks e') ∧ Inv (i + xs.length) e' acc'
  | [], i, e, acc, _, h => ⟨e, acc, rfl, h⟩
  | x :: xs, i, e, acc, st, h => by
    obtain ⟨e1, e2, e3, d, h1, h2, h3, h4⟩ := st 0 x e acc rfl h
    obtain ⟨e', acc', q, r⟩ := compM_inv (xs := xs) (i := i + 1) (e := e3) (acc := acc ++ [d]) Inv (fun j y e acc hy hi => by
      have := st (j + 1) y e acc (by simpa using hy) (by rw [show i + (j + 1) = i + 1 + j by omega]; exact hi)
      rw [show i + (j + 1) + 1 = i + 1 + j + 1 by omega] at this
      exact this) h4
    refine ⟨e', acc', ?_, by rw [List.length_cons, show i + (xs.length + 1) = i + 1 + xs.length by omega]; exact r⟩
    unfold compM
    rw [h1]
    simp only [h2, h3]
    exact q
/-- each item by itself -/
theorem compM_map {g : Tgt} {ks : List Nat} {t : M Bool} {m : M D} {e0 : Env} (f : D → D) {xs : List D} (st : ∀ x ∈ xs, ∃ e1 e2 e3, g x e0 = some e1 ∧ t e1 = .ok true e2 ∧ m e2 = .ok (f x) e3 ∧ kill ks e3 = e0) : ∀ {e : Env} {acc : List D}, kill ks e = e0 →
    compM g ks t m xs acc e = .ok (.lst true (acc ++ xs.map f)) e0 := by
  induction xs with
  | nil =>
    intro e acc h
    simp [compM, h]
  | cons x xs ih =>
    intro e acc h
    obtain ⟨e1, e2, e3, h1, h2, h3, h4⟩ := st x List.mem_cons_self
    unfold compM
    rw [h, h1]
    simp only [h2, h3]
    rw [ih (fun y hy => st y (List.mem_cons_of_mem _ hy)) h4]
    simp
theorem loopM_inv {g : Tgt} {ks : List Nat} {body : M Flow} (Inv : Nat → Env → Prop) : ∀ {xs : List D} {i : Nat} {e : Env},
    (∀ j x e, xs[j]? = some x → Inv (i + j) e → ∃ e1 e2, g x (kill ks e) = some e1 ∧ (body e1 = .ok .nx e2 ∨ body e1 = .ok .ct e2) ∧ Inv (i + j + 1) e2) → Inv i e →
    ∃ e', loopM g ks body xs e = .ok .nx (kill ks e') ∧ Inv (i + xs.length) e'
  | [], i, e, _, h => ⟨e, rfl, h⟩
  | x :: xs, i, e, st, h => by
    obtain ⟨e1, e2, h1, h2, h4⟩ := st 0 x e rfl h
    obtain ⟨e', q, r⟩ := loopM_inv (xs := xs) (i := i + 1) (e := e2) Inv (fun j y e hy hi => by
      have := st (j + 1) y e (by simpa using hy) (by rw [show i + (j + 1) = i + 1 + j by omega]; exact hi)
      rw [show i + (j + 1) + 1 = i + 1 + j + 1 by omega] at this
      exact this) h4
    refine ⟨e', ?_, by rw [List.length_cons, show i + (xs.length + 1) = i + 1 + xs.length by omega]; exact r⟩
    unfold loopM
    rw [h1]
    simp only
    rcases h2 with h2 | h2 <;> (rw [h2]; exact q)
theorem whileM_inv {t : M Bool} {ks : List Nat} {body : M Flow} (Inv : Nat → Env → Prop) (Fin : Env → Prop)
    (st : ∀ n e, Inv n e → (∃ e1, t (kill ks e) = .ok false e1 ∧ Fin e1) ∨ ∃ e1 e2 m, t (kill ks e) = .ok true e1 ∧ (body e1 = .ok .nx e2 ∨ body e1 = .ok .ct e2) ∧ m < n ∧ Inv m e2) : ∀ {n fuel : Nat} {e : Env}, Inv n e → n < fuel → ∃ e', whileM t ks body fuel e = .ok .nx e' ∧ Fin e' := by
  intro n
  induction n using Nat.strongRecOn with
  | ind n ih =>
    intro fuel e hi hf
    obtain ⟨fuel, rfl⟩ : ∃ k, fuel = k + 1 := ⟨fuel - 1, by omega⟩
    rcases st n e hi with ⟨e1, h1, h2⟩ | ⟨e1, e2, m, h1, h2, h3, h4⟩
    · refine ⟨e1, ?_, h2⟩
      unfold whileM
      rw [h1]
    · obtain ⟨e', q, r⟩ := ih m h3 (fuel := fuel) h4 (by omega)
      refine ⟨e', ?_, r⟩
      unfold whileM
      rw [h1]
      simp only
      rcases h2 with h2 | h2 <;> (rw [h2]; exact q)
end DL
/-! The hand that draws numbers out of the script. -/
namespace DL
open PySem PySem.Spec PyProof.Rows L2
def d__law_draw_0_a_0 : M Flow := (mAsg (mP (pOp D.ix (pOp D.ix (pV 0) (pK (.int 0))) (pOp D.ix (pV 0) (pK (.int 1))))) (gN 3))
def d__law_draw_0_a_1 : M Flow := (mAsg (mP (pOp iAdd (pOp D.ix (pV 0) (pK (.int 1))) (pK (.int 1)))) (gSet 0 (pK (.int 1))))
def d__law_draw_0_a_2 : M Flow := (mAsg (mP (pOp iMod (pApp D.toInt (pOp iAdd (pOp iAdd (pOp iMul (pOp D.ix (pV 0) (pK (.int 3))) (pK (.int 69621))) (pOp iMul (pV 3) (pK (.int 40692)))) (pK (.int 31)))) (pK (.int 2147483629)))) (gSet 0 (pK (.int 3))))
def d__law_draw_0_a_3_a_0 : M Flow := (mAsg (mTake 3) (gSet 0 (pK (.int 2))))
def d__law_draw_0_a_3 : M Flow := (mIf (mPB (pOp iGe (pV 3) (pOp iPow (pK (.int 10)) (pK (.int 18))))) d__law_draw_0_a_3_a_0 mNext)
def d__law_draw_0 : M Flow := (mIf (mAnd (mPB (pOp gEq (pOp D.ix (pV 0) (pK (.int 2))) (pK (.int 0)))) (mPB (pOp iLt (pOp D.ix (pV 0) (pK (.int 1))) (pApp D.len (pOp D.ix (pV 0) (pK (.int 0))))))) (mSeq d__law_draw_0_a_0 (mSeq d__law_draw_0_a_1 (mSeq d__law_draw_0_a_2 d__law_draw_0_a_3))) mNext)
def d__law_draw_1_a_0 : M Flow := (mAsg (mP (pOp iMod (pApp D.toInt (pOp D.ix (pV 0) (pK (.int 2)))) (pV 1))) (gN 4))
def d__law_draw_1_a_1 : M Flow := (mAsg (mP (pOp iDiv (pOp D.ix (pV 0) (pK (.int 2))) (pV 1))) (gSet 0 (pK (.int 2))))
def d__law_draw_1_a_2 : M Flow := (mRet (mTake 4))
def d__law_draw_1 : M Flow := (mIf (mPB (pOp iGt (pOp D.ix (pV 0) (pK (.int 2))) (pK (.int 0)))) (mSeq d__law_draw_1_a_0 (mSeq d__law_draw_1_a_1 d__law_draw_1_a_2)) mNext)
def d__law_draw_2 : M Flow := (mAsg (mP (pOp iAdd (pOp D.ix (pV 0) (pK (.int 4))) (pK (.int 1)))) (gSet 0 (pK (.int 4))))
def d__law_draw_3 : M Flow := (mAsg (mP (pOp iMod (pApp D.toInt (pOp iMul (pApp D.toInt (pOp iAdd (pOp D.ix (pV 0) (pK (.int 3))) (pOp iMul (pK (.int 7919)) (pOp D.ix (pV 0) (pK (.int 4)))))) (pK (.int 48271)))) (pK (.int 2147483647)))) (gN 2))
def d__law_draw_4 : M Flow := (mAsg (mP (pOp iMod (pApp D.toInt (pOp iMul (pV 2) (pOp iAdd (pOp iDiv (pV 2) (pK (.int 1009))) (pK (.int 69621))))) (pK (.int 2147483647)))) (gN 2))
def d__law_draw_5 : M Flow := (mAsg (mP (pOp iMod (pApp D.toInt (pOp iMul (pV 2) (pOp iAdd (pOp iDiv (pV 2) (pK (.int 2003))) (pK (.int 40014))))) (pK (.int 2147483563)))) (gN 2))
def d__law_draw_6 : M Flow := (mRet (mP (pOp iMod (pApp D.toInt (pOp iDiv (pV 2) (pK (.int 16)))) (pV 1))))
def den__law_draw : FD := denF 5 [0] (mSeq d__law_draw_0 (mSeq d__law_draw_1 (mSeq d__law_draw_2 (mSeq d__law_draw_3 (mSeq d__law_draw_4 (mSeq d__law_draw_5 d__law_draw_6))))))
def d__law_any_0 : M Flow := (mRet (mOp ixA (mShare 1) (mCall den__law_draw [(0, 0)] (mConsR 0 (mConsF (mP (pApp D.len (pV 1))) (M.ret []))))))
def den__law_any : FD := denF 2 [0] d__law_any_0
def handT (cells : List Int) (at_ : Nat) (rest mix count : Int) : D := .lst true [.lst false (zs cells), .int at_, .int rest, .int mix, .int count]
def Hand (d : D) : Prop := ∃ cells at_ rest mix count, d = handT cells at_ rest mix count
theorem hand_ix {cells : List Int} {at_ : Nat} {rest mix count : Int} :
    D.ix (handT cells at_ rest mix count) (.int 0) = some (.lst false (zs cells)) ∧ D.ix (handT cells at_ rest mix count) (.int 1) = some (.int at_) ∧ D.ix (handT cells at_ rest mix count) (.int 2) = some (.int rest) ∧ D.ix (handT cells at_ rest mix count) (.int 3) = some (.int mix) ∧ D.ix (handT cells at_ rest mix count) (.int 4) = some (.int count) := ⟨rfl, rfl, rfl, rfl, rfl⟩
theorem hand_set {cells : List Int} {at_ : Nat} {rest mix count : Int} {e : Env} {v : Int} (h : pV 0 e = some (handT cells at_ rest mix count)) :
    (∀ k : Nat, v = k → gSet 0 (pK (.int 1)) (.int v) e = some (e.set 0 (some (handT cells k rest mix count)))) ∧ gSet 0 (pK (.int 2)) (.int v) e = some (e.set 0 (some (handT cells at_ v mix count))) ∧ gSet 0 (pK (.int 3)) (.int v) e = some (e.set 0 (some (handT cells at_ rest v count))) ∧ gSet 0 (pK (.int 4)) (.int v) e = some (e.set 0 (some (handT cells at_ rest mix v))) := by
  refine ⟨fun k hk => ?_, ?_, ?_, ?_⟩
  · subst hk
    unfold gSet
    rw [h]
    rfl
  all_goals
    unfold gSet
    rw [h]
    rfl
theorem mP_of {p : Env → Option D} {e : Env} {i : Int} (h : p e = some (.int i)) : mP p e = .ok (.int i) e := by
  unfold mP
  rw [h]
  rfl
theorem pO_of {g : D → D → Option D} {p q : Env → Option D} {e : Env} {x y z : D} (h1 : p e = some x) (h2 : q e = some y) (h3 : g x y = some z) : pOp g p q e = some z := by
  unfold pOp
  rw [h1]
  simp only [Option.bind_some]
  rw [h2]
  exact h3
theorem pA_of {g : D → Option D} {p : Env → Option D} {e : Env} {x z : D} (h1 : p e = some x) (h3 : g x = some z) : pApp g p e = some z := by
  unfold pApp
  rw [h1]
  exact h3
theorem pB_of {p : Env → Option D} {e : Env} {b : Bool} (h : p e = some (.bl b)) : mPB p e = .ok b e := by
  unfold mPB
  rw [h]
theorem and_t {m n : M Bool} {e e1 e2 : Env} {b : Bool} (h1 : m e = .ok true e1) (h2 : n e1 = .ok b e2) : mAnd m n e = .ok b e2 := by
  unfold mAnd
  rw [bind_ok h1]
  exact h2
theorem and_f {m n : M Bool} {e e1 : Env} (h1 : m e = .ok false e1) : mAnd m n e = .ok false e1 := by
  unfold mAnd
  rw [bind_ok h1]
  rfl
theorem or_t {m n : M Bool} {e e1 : Env} (h1 : m e = .ok true e1) : mOr m n e = .ok true e1 := by
  unfold mOr
  rw [bind_ok h1]
  rfl
theorem or_f {m n : M Bool} {e e1 e2 : Env} {b : Bool} (h1 : m e = .ok false e1) (h2 : n e1 = .ok b e2) : mOr m n e = .ok b e2 := by
  unfold mOr
  rw [bind_ok h1]
  exact h2
theorem not_of {m : M Bool} {e e1 : Env} {b : Bool} (h1 : m e = .ok b e1) : mNot m e = .ok (!b) e1 := by
  unfold mNot
  rw [bind_ok h1]
  rfl
theorem small_mod {a b : Int} (h0 : 0 < b) (h : b ≤ 4294967296) : -(2 ^ 64) < a % b ∧ a % b < 2 ^ 64 := by
  have h1 := Int.emod_nonneg a (show b ≠ 0 by omega)
  have h2 := Int.emod_lt_of_pos a h0
  omega
theorem draw_0 {d : D} {b : Int} (h : Hand d) : ∃ d' c, d__law_draw_0 [some d, some (.int b), none, none, none] = .ok .nx [some d', some (.int b), none, c, none] ∧ Hand d' := by
  obtain ⟨cells, at_, rest, mix, count, rfl⟩ := h
  obtain ⟨i0, i1, i2, i3, i4⟩ := hand_ix (cells := cells) (at_ := at_) (rest := rest) (mix := mix) (count := count)
  unfold d__law_draw_0
  by_cases h0 : rest = 0 ∧ at_ < cells.length
  · rw [if_t (e' := [some (handT cells at_ rest mix count), some (.int b), none, none, none]) (by exact and_t (pB_of (pO_of (pO_of rfl rfl i2) rfl (by simp [h0.1]))) (pB_of (pO_of (pO_of rfl rfl i1) (pA_of (pO_of rfl rfl i0) rfl) (by simp [h0.2]))))]
    have e0 : d__law_draw_0_a_0 [some (handT cells at_ rest mix count), some (.int b), none, none, none] = .ok .nx [some (handT cells at_ rest mix count), some (.int b), none, some (.int cells[at_]), none] := by
      unfold d__law_draw_0_a_0
      refine asg_ok (d := .int cells[at_]) (mP_of (pO_of (pO_of rfl rfl i0) (pO_of rfl rfl i1) ?_)) rfl
      show atI (cells.map D.int) _ = _
      rw [atI_map, atI_nn rfl h0.2]
      rfl
    rw [seq_nx e0]
    have e1 : d__law_draw_0_a_1 [some (handT cells at_ rest mix count), some (.int b), none, some (.int cells[at_]), none] = .ok .nx [some (handT cells (at_ + 1) rest mix count), some (.int b), none, some (.int cells[at_]), none] := by
      unfold d__law_draw_0_a_1
      exact asg_ok (mP_of (pO_of (pO_of rfl rfl i1) rfl rfl)) ((hand_set rfl).1 (at_ + 1) (by omega))
    rw [seq_nx e1]
    obtain ⟨j0, j1, j2, j3, j4⟩ := hand_ix (cells := cells) (at_ := at_ + 1) (rest := rest) (mix := mix) (count := count)
    have e2 : d__law_draw_0_a_2 [some (handT cells (at_ + 1) rest mix count), some (.int b), none, some (.int cells[at_]), none] = .ok .nx [some (handT cells (at_ + 1) rest ((mix * 69621 + cells[at_] * 40692 + 31) % 2147483629) count), some (.int b), none, some (.int cells[at_]), none] := by
      unfold d__law_draw_0_a_2
      exact asg_ok (mP_of (pO_of (pA_of (pO_of (pO_of (pO_of (pO_of rfl rfl j3) rfl (iMul_int (cmul_r (by decide)))) (pO_of rfl rfl (iMul_int (cmul_r (by decide)))) rfl) rfl rfl) rfl) rfl (iMod_int (by decide)))) (hand_set rfl).2.2.1
    rw [seq_nx e2]
    unfold d__law_draw_0_a_3
    by_cases h1 : (10 : Int) ^ 18 ≤ cells[at_]
    · rw [if_t (e' := [some (handT cells (at_ + 1) rest ((mix * 69621 + cells[at_] * 40692 + 31) % 2147483629) count), some (.int b), none, some (.int cells[at_]), none]) (by
        have : pOp iGe (pV 3) (pOp iPow (pK (.int 10)) (pK (.int 18))) [some (handT cells (at_ + 1) rest ((mix * 69621 + cells[at_] * 40692 + 31) % 2147483629) count), some (.int b), none, some (.int cells[at_]), none] = some (.bl true) := pO_of rfl (pO_of rfl rfl (iPow_int (by decide))) (by simpa using h1)
        unfold mPB
        rw [this])]
      refine ⟨_, none, asg_ok (m := mTake 3) rfl (hand_set rfl).2.1, ⟨_, _, _, _, _, rfl⟩⟩
    · rw [if_f (e' := [some (handT cells (at_ + 1) rest ((mix * 69621 + cells[at_] * 40692 + 31) % 2147483629) count), some (.int b), none, some (.int cells[at_]), none]) (by
        have : pOp iGe (pV 3) (pOp iPow (pK (.int 10)) (pK (.int 18))) [some (handT cells (at_ + 1) rest ((mix * 69621 + cells[at_] * 40692 + 31) % 2147483629) count), some (.int b), none, some (.int cells[at_]), none] = some (.bl false) := pO_of rfl (pO_of rfl rfl (iPow_int (by decide))) (by simpa using h1)
        unfold mPB
        rw [this])]
      exact ⟨_, _, rfl, ⟨_, _, _, _, _, rfl⟩⟩
  · refine ⟨handT cells at_ rest mix count, none, ?_, ⟨_, _, _, _, _, rfl⟩⟩
    rw [if_f (e' := [some (handT cells at_ rest mix count), some (.int b), none, none, none])]
    · rfl
    · by_cases h1 : rest = 0
      · have : ¬ at_ < cells.length := fun z => h0 ⟨h1, z⟩
        exact (and_t (pB_of (pO_of (pO_of rfl rfl i2) rfl (by simp [h1]))) (pB_of (pO_of (pO_of rfl rfl i1) (pA_of (pO_of rfl rfl i0) rfl) (by simpa using this))))
      · exact and_f (pB_of (pO_of (pO_of rfl rfl i2) rfl (by simp [h1])))
theorem draw_1 {d : D} {b : Int} {c : Option D} (h : Hand d) (h0 : 0 < b) (h1 : b < 1073741824) : d__law_draw_1 [some d, some (.int b), none, c, none] = .ok .nx [some d, some (.int b), none, c, none] ∨
    ∃ d' v e, d__law_draw_1 [some d, some (.int b), none, c, none] = .ok (.rt (.int v)) (some d' :: e) ∧ Hand d' ∧ 0 ≤ v ∧ v < b := by
  obtain ⟨cells, at_, rest, mix, count, rfl⟩ := h
  obtain ⟨i0, i1, i2, i3, i4⟩ := hand_ix (cells := cells) (at_ := at_) (rest := rest) (mix := mix) (count := count)
  unfold d__law_draw_1
  by_cases h2 : 0 < rest
  · right
    rw [if_t (e' := [some (handT cells at_ rest mix count), some (.int b), none, c, none]) (by simp [mPB, pOp, pV, pK, i2, h2])]
    have e0 : d__law_draw_1_a_0 [some (handT cells at_ rest mix count), some (.int b), none, c, none] = .ok .nx [some (handT cells at_ rest mix count), some (.int b), none, c, some (.int (rest % b))] := by
      unfold d__law_draw_1_a_0
      exact asg_ok (mP_of (pO_of (pA_of (pO_of rfl rfl i2) rfl) rfl (iMod_int h0))) rfl
    rw [seq_nx e0]
    have e1 : d__law_draw_1_a_1 [some (handT cells at_ rest mix count), some (.int b), none, c, some (.int (rest % b))] = .ok .nx [some (handT cells at_ (rest / b) mix count), some (.int b), none, c, some (.int (rest % b))] := by
      unfold d__law_draw_1_a_1
      exact asg_ok (mP_of (pO_of (pO_of rfl rfl i2) rfl (iDiv_int ⟨h0, h1⟩))) (hand_set rfl).2.1
    rw [seq_nx e1]
    exact ⟨_, _, _, rfl, ⟨_, _, _, _, _, rfl⟩, Int.emod_nonneg _ (by omega), Int.emod_lt_of_pos _ h0⟩
  · left
    rw [if_f (e' := [some (handT cells at_ rest mix count), some (.int b), none, c, none]) (by simp [mPB, pOp, pV, pK, i2, h2])]
    rfl
theorem draw_2 {d : D} {b : Int} {c : Option D} (h : Hand d) (h0 : 0 < b) : ∃ d' v e, mSeq d__law_draw_2 (mSeq d__law_draw_3 (mSeq d__law_draw_4 (mSeq d__law_draw_5 d__law_draw_6))) [some d, some (.int b), none, c, none] = .ok (.rt (.int v)) (some d' :: e) ∧ Hand d' ∧ 0 ≤ v ∧ v < b := by
  obtain ⟨cells, at_, rest, mix, count, rfl⟩ := h
  obtain ⟨i0, i1, i2, i3, i4⟩ := hand_ix (cells := cells) (at_ := at_) (rest := rest) (mix := mix) (count := count)
  have e2 : d__law_draw_2 [some (handT cells at_ rest mix count), some (.int b), none, c, none] = .ok .nx [some (handT cells at_ rest mix (count + 1)), some (.int b), none, c, none] := by
    unfold d__law_draw_2
    exact asg_ok (mP_of (pO_of (pO_of rfl rfl i4) rfl rfl)) (hand_set rfl).2.2.2
  rw [seq_nx e2]
  obtain ⟨j0, j1, j2, j3, j4⟩ := hand_ix (cells := cells) (at_ := at_) (rest := rest) (mix := mix) (count := count + 1)
  have e3 : ∃ n, d__law_draw_3 [some (handT cells at_ rest mix (count + 1)), some (.int b), none, c, none] = .ok .nx [some (handT cells at_ rest mix (count + 1)), some (.int b), some (.int n), c, none] ∧ (-(2 ^ 64) < n ∧ n < 2 ^ 64) := by
    unfold d__law_draw_3
    exact ⟨_, asg_ok (mP_of (pO_of (pA_of (pO_of (pA_of (pO_of (pO_of rfl rfl j3) (pO_of rfl (pO_of rfl rfl j4) (iMul_int (cmul_l (by decide)))) rfl) rfl) rfl (iMul_int (cmul_r (by decide)))) rfl) rfl (iMod_int (by decide)))) rfl, small_mod (by decide) (by decide)⟩
  obtain ⟨n, e3, hn⟩ := e3
  rw [seq_nx e3]
  have e4 : ∃ n', d__law_draw_4 [some (handT cells at_ rest mix (count + 1)), some (.int b), some (.int n), c, none] = .ok .nx [some (handT cells at_ rest mix (count + 1)), some (.int b), some (.int n'), c, none] ∧ (-(2 ^ 64) < n' ∧ n' < 2 ^ 64) := by
    unfold d__law_draw_4
    exact ⟨_, asg_ok (mP_of (pO_of (pA_of (pO_of rfl (pO_of (pO_of rfl rfl (iDiv_int ⟨by decide, by decide⟩)) rfl rfl) (iMul_int (cmul_l hn))) rfl) rfl (iMod_int (by decide)))) rfl, small_mod (by decide) (by decide)⟩
  obtain ⟨n2, e4, hn2⟩ := e4
  rw [seq_nx e4]
  have e5 : ∃ n', d__law_draw_5 [some (handT cells at_ rest mix (count + 1)), some (.int b), some (.int n2), c, none] = .ok .nx [some (handT cells at_ rest mix (count + 1)), some (.int b), some (.int n'), c, none] := by
    unfold d__law_draw_5
    exact ⟨_, asg_ok (mP_of (pO_of (pA_of (pO_of rfl (pO_of (pO_of rfl rfl (iDiv_int ⟨by decide, by decide⟩)) rfl rfl) (iMul_int (cmul_l hn2))) rfl) rfl (iMod_int (by decide)))) rfl⟩
  obtain ⟨n3, e5⟩ := e5
  rw [seq_nx e5]
  unfold d__law_draw_6
  refine ⟨_, _, _, ret_ok (mP_of (pO_of (pA_of (pO_of rfl rfl (iDiv_int ⟨by decide, by decide⟩)) rfl) rfl (iMod_int h0))), ⟨_, _, _, _, _, rfl⟩, Int.emod_nonneg _ (by omega), Int.emod_lt_of_pos _ h0⟩
theorem c_draw {d : D} {b : Int} (h : Hand d) (h0 : 0 < b) (h1 : b < 1073741824) : ∃ d' v, den__law_draw [d, .int b] = .ok (.int v) [some d'] ∧ Hand d' ∧ 0 ≤ v ∧ v < b := by
  obtain ⟨d1, c, q1, w1⟩ := draw_0 (b := b) h
  rcases draw_1 (c := c) w1 h0 h1 with q2 | ⟨d2, v, e, q2, w2, lo, hi⟩
  · obtain ⟨d2, v, e, q3, w2, lo, hi⟩ := draw_2 (c := c) w1 h0
    refine ⟨d2, v, ?_, w2, lo, hi⟩
    unfold den__law_draw
    refine den_rt (e := some d2 :: e) ?_ rfl
    show mSeq _ _ [some d, some (.int b), none, none, none] = _
    rw [seq_nx q1, seq_nx q2]
    exact q3
  · refine ⟨d2, v, ?_, w2, lo, hi⟩
    unfold den__law_draw
    refine den_rt (e := some d2 :: e) ?_ rfl
    show mSeq _ _ [some d, some (.int b), none, none, none] = _
    rw [seq_nx q1, seq_rt q2]
theorem c_any {d : D} {ow : Bool} {xs : List D} (h : Hand d) (hx : D.allFrz xs = true) (h0 : 0 < xs.length) (h1 : xs.length < 1073741824) : ∃ d' x, den__law_any [d, .lst ow xs] = .ok x [some d'] ∧ Hand d' ∧ x ∈ xs := by
  obtain ⟨d', v, q, w, lo, hi⟩ := c_draw (b := xs.length) h (by omega) (by omega)
  obtain ⟨k, rfl⟩ := Int.eq_ofNat_of_zero_le lo
  have hk : k < xs.length := by omega
  refine ⟨d', xs[k], ?_, w, List.getElem_mem hk⟩
  unfold den__law_any
  refine den_rt (e := [some d', some (.lst false (D.frzL xs))]) ?_ rfl
  show d__law_any_0 [some d, some (.lst ow xs)] = _
  unfold d__law_any_0
  refine ret_ok ?_
  unfold mOp
  rw [bind_ok (m := mShare 1) (e' := [some d, some (.lst false (D.frzL xs))]) (a := .lst false (D.frzL xs)) (by simp [mShare, pV, D.frz])]
  rw [bind_ok (e' := [some d', some (.lst false (D.frzL xs))]) (a := .int k)]
  · rw [D.frzL_of hx]
    have e : ixA (.lst false xs) (.int k) = some xs[k] := by
      unfold ixA
      show (atI xs k).bind _ = _
      rw [atI_nn rfl hk]
      simp [allFrz_at hx (List.getElem?_eq_getElem hk)]
    rw [e]
    rfl
  · have e : mConsR 0 (mConsF (mP (pApp D.len (pV 1))) (M.ret [])) [some d, some (.lst false (D.frzL xs))] = .ok [d, .int xs.length] [none, some (.lst false (D.frzL xs))] := by
      simp [mConsR, mConsF, mTake, mP, pApp, pV, M.andThen, M.ret, D.len, D.frzL_of hx]
    unfold mCall
    rw [e]
    simp only
    rw [q]
    rfl
end DL
/-! Steps of denotations, one lemma a shape. -/
namespace DL
open PySem PySem.Spec PyProof.Rows L2
theorem tf_of {m : M D} {e e' : Env} {b : Bool} (h : m e = .ok (.bl b) e') : mTf m e = .ok b e' := by
  unfold mTf
  rw [bind_ok h]
  rfl
theorem app1_of {g : D → Option D} {m : M D} {e e' : Env} {d z : D} (h : m e = .ok d e') (h2 : g d = some z) : mApp (one g) (mCons m (M.ret [])) e = .ok z e' := by
  unfold mApp mCons
  simp only [M.andThen, h, M.ret, one, h2, M.opt]
theorem call1_of {den : FD} {m : M D} {e e' : Env} {d z : D} (h : m e = .ok d e') (h2 : den [d.frz] = .ok z []) : mCall den [] (mConsF m (M.ret [])) e = .ok z e' := by
  unfold mCall mConsF
  simp only [M.andThen, h, M.ret, h2]
  rfl
theorem call2_of {den : FD} {m n : M D} {e e' e2 : Env} {d d2 z : D} (h : m e = .ok d e') (h1 : n e' = .ok d2 e2) (h2 : den [d.frz, d2.frz] = .ok z []) : mCall den [] (mConsF m (mConsF n (M.ret []))) e = .ok z e2 := by
  unfold mCall mConsF
  simp only [M.andThen, h, h1, M.ret, h2]
  rfl
theorem call3_of {den : FD} {m n o : M D} {e e' e2 e3 : Env} {d d2 d3 z : D} (h : m e = .ok d e') (h1 : n e' = .ok d2 e2) (h3 : o e2 = .ok d3 e3) (h2 : den [d.frz, d2.frz, d3.frz] = .ok z []) : mCall den [] (mConsF m (mConsF n (mConsF o (M.ret [])))) e = .ok z e3 := by
  unfold mCall mConsF
  simp only [M.andThen, h, h1, h3, M.ret, h2]
  rfl
theorem comp_of {src : M (List D)} {g : Tgt} {ks : List Nat} {t : M Bool} {m : M D} {e e' e2 : Env} {xs : List D} {z : D} (h : src e = .ok xs e') (h2 : compM g ks t m xs [] e' = .ok z e2) : mComp src g ks t m e = .ok z e2 := by
  unfold mComp
  rw [bind_ok h]
  exact h2
theorem chainLe {p q r : Env → Option D} {e : Env} {x y z : Int} (h1 : p e = some (.int x)) (h2 : q e = some (.int y)) (h3 : r e = some (.int z)) : pChain iLe iLe p q r e = some (.bl (decide (x ≤ y ∧ y ≤ z))) := by
  unfold pChain
  rw [h1]
  simp only [Option.bind_some, h2, iLe_int]
  by_cases h : x ≤ y
  · simp [h, h3]
  · simp [h]
theorem map_bl (n : Nat) : D.all (.lst true (List.replicate n (.bl true))) = some (.bl true) := by
  have : (List.replicate n (D.bl true)) = (List.replicate n true).map D.bl := by simp
  rw [this]
  simp only [D.all, D.any, flagsOf_map]
  simp
theorem map_blf (n : Nat) : D.any (.lst true (List.replicate n (.bl false))) = some (.bl false) := by
  have : (List.replicate n (D.bl false)) = (List.replicate n false).map D.bl := by simp
  rw [this]
  simp only [D.all, D.any, flagsOf_map]
  simp
theorem map_cst {α β : Type} (b : β) : ∀ l : List α, l.map (fun _ => b) = List.replicate l.length b
  | [] => rfl
  | a :: l => by simp [map_cst b l, List.replicate_succ]
theorem nil_ok {e : Env} : (M.ret [] : M (List D)) e = .ok [] e := rfl
theorem cons_of {m : M D} {ms : M (List D)} {e e1 e2 : Env} {d : D} {ds : List D} (h : m e = .ok d e1) (h2 : ms e1 = .ok ds e2) : mCons m ms e = .ok (d :: ds) e2 := by
  unfold mCons
  simp only [M.andThen, h, h2, M.ret]
theorem tup_of {ms : M (List D)} {e e1 : Env} {ds : List D} (h : ms e = .ok ds e1) (l : ds.length ≤ 1000) : mTup ms e = .ok (.tup ds) e1 := by
  unfold mTup
  rw [bind_ok h]
  rw [if_pos l]
  rfl
theorem lst_of {ms : M (List D)} {e e1 : Env} {ds : List D} (h : ms e = .ok ds e1) (l : ds.length ≤ 1000) : mLst ms e = .ok (.lst true ds) e1 := by
  unfold mLst
  rw [bind_ok h]
  rw [if_pos l]
  rfl
theorem op_of {g : D → D → Option D} {m n : M D} {e e1 e2 : Env} {x y z : D} (h : m e = .ok x e1) (h2 : n e1 = .ok y e2) (h3 : g x y = some z) : mOp g m n e = .ok z e2 := by
  unfold mOp
  simp only [M.andThen, h, h2, h3, M.opt]
theorem drop_of {m : M D} {e e1 : Env} {d : D} (h : m e = .ok d e1) : mDrop m e = .ok .nx e1 := by
  unfold mDrop
  rw [bind_ok h]
  rfl
theorem iter_of {m : M D} {e e1 : Env} {d : D} {xs : List D} (h : m e = .ok d e1) (h2 : d.iter = some xs) : mIter m e = .ok xs e1 := by
  unfold mIter
  rw [bind_ok h, h2]
  rfl
theorem apnd_of {i : Nat} {m : M D} {e e1 : Env} {d : D} {ow : Bool} {xs ys : List D} (h0 : pV i e = some (.lst ow ys)) (h : m e = .ok d e1) (h1 : pV i e1 = some (.lst true xs)) (hl : xs.length < 1000000) : mApnd i m e = .ok .non (e1.set i (some (.lst true (xs ++ [d])))) := by
  unfold mApnd
  rw [h0]
  simp only [isLst, if_true]
  rw [bind_ok h]
  unfold turnL
  rw [h1]
  have : xs.length < sizeLine := by rw [sizeLine_eq]; omega
  simp [this]
theorem for_of {src : M (List D)} {g : Tgt} {ks : List Nat} {b : M Flow} {e e1 e2 : Env} {xs : List D} (h : src e = .ok xs e1) (h2 : loopM g ks b xs e1 = .ok .nx e2) : mFor src g ks b e = .ok .nx e2 := by
  unfold mFor
  rw [bind_ok h]
  exact h2
theorem enum_of {m : M D} {e e1 : Env} {d : D} {xs : List D} (h : m e = .ok d e1) (h2 : d.iter = some xs) : mEnum (mCons m (M.ret [])) e = .ok (enumD xs) e1 := by
  unfold mEnum
  rw [bind_ok (cons_of h nil_ok)]
  simp [h2, M.opt]
theorem aug_of {i : Nat} {m : M D} {g : D → D → Option D} {e e1 : Env} {x y z : D} (h0 : pV i e = some x) (f : x.flat = true) (h : m e = .ok y e1) (h2 : g x y = some z) : mAug i m g e = .ok .nx (e1.set i (some z)) := by
  unfold mAug
  rw [h0]
  simp only [f, if_true]
  rw [bind_ok h]
  simp only [h2]
theorem range1_of {m : M D} {e e1 : Env} {n : Int} (h : m e = .ok (.int n) e1) (l1 : 0 ≤ n) (l2 : n ≤ 1000000) : mRange1 (mCons m (M.ret [])) e = .ok ((List.range n.toNat).map fun (k : Nat) => .int k) e1 := by
  unfold mRange1
  rw [bind_ok (cons_of h nil_ok)]
  simp only [rangeD]
  rw [if_pos (by omega)]
  simp [M.opt]
theorem range2_of {m n : M D} {e e1 e2 : Env} {a b : Int} (h : m e = .ok (.int a) e1) (h2 : n e1 = .ok (.int b) e2) (l1 : 0 ≤ a) (l2 : a ≤ 1000000) (l3 : 0 ≤ b) (l4 : b ≤ 1000000) : mRange2 (mCons m (mCons n (M.ret []))) e = .ok ((List.range (b - a).toNat).map fun (k : Nat) => .int (a + k)) e2 := by
  unfold mRange2
  rw [bind_ok (cons_of h (cons_of h2 nil_ok))]
  simp only [rangeD]
  rw [if_pos (by omega)]
  simp [M.opt]
theorem loop_nx {g : Tgt} {ks : List Nat} {body : M Flow} {x : D} {xs : List D} {e e1 e2 : Env} (h1 : g x (kill ks e) = some e1) (h2 : body e1 = .ok .nx e2) : loopM g ks body (x :: xs) e = loopM g ks body xs e2 := by
  conv => lhs; unfold loopM
  rw [h1]
  simp only [h2]
theorem loop_ct {g : Tgt} {ks : List Nat} {body : M Flow} {x : D} {xs : List D} {e e1 e2 : Env} (h1 : g x (kill ks e) = some e1) (h2 : body e1 = .ok .ct e2) : loopM g ks body (x :: xs) e = loopM g ks body xs e2 := by
  conv => lhs; unfold loopM
  rw [h1]
  simp only [h2]
theorem loop_rt {g : Tgt} {ks : List Nat} {body : M Flow} {x d : D} {xs : List D} {e e1 e2 : Env} (h1 : g x (kill ks e) = some e1) (h2 : body e1 = .ok (.rt d) e2) : loopM g ks body (x :: xs) e = .ok (.rt d) e2 := by
  conv => lhs; unfold loopM
  rw [h1]
  simp only [h2]
theorem loop_bk {g : Tgt} {ks : List Nat} {body : M Flow} {x : D} {xs : List D} {e e1 e2 : Env} (h1 : g x (kill ks e) = some e1) (h2 : body e1 = .ok .bk e2) : loopM g ks body (x :: xs) e = .ok .nx e2 := by
  conv => lhs; unfold loopM
  rw [h1]
  simp only [h2]
end DL
namespace K74
open PySem L2 DL
/-! the text by places -/
def top (i : Nat) : Stmt := PySem.Challenge.pw_cutrooms_k74_whole_roots_of_polynomials.main.body.getD i (.Pass ⟨0, 0, 0, 0⟩)
abbrev s__law_hand : Stmt := top 29
abbrev s_is_integer : Stmt := top 6
abbrev s_is_poly : Stmt := top 11
abbrev s_check_poly : Stmt := top 12
abbrev s_divided_by_root : Stmt := top 26
abbrev s_product_row : Stmt := top 27
abbrev s__law_draw : Stmt := top 30
abbrev s__law_any : Stmt := top 31
abbrev s__law_times : Stmt := top 32
abbrev s_is_within : Stmt := top 7
abbrev s_check_run : Stmt := top 18
abbrev s_check_ruled : Stmt := top 19
abbrev s_trimmed : Stmt := top 10
abbrev s_terms_product : Stmt := top 20
abbrev s_poly_of_like : Stmt := top 22
abbrev s_raw_run_poly : Stmt := top 24
abbrev s_run_poly : Stmt := top 25
abbrev s__law_is_right : Stmt := top 33
abbrev s_law : Stmt := top 34
/-! what each def computes -/
def d__law_hand_0 : M DL.Flow := (mAsg (mComp (mIter (mSl (mTake 0) noI (pI (pK (.int 63))) slX)) (gN 2) [2] (M.ret true) (mP (pApp D.absI (pApp D.toInt (pV 2))))) (gN 1))
def d__law_hand_1 : M DL.Flow := (mRet (mLst (mCons (mShare 1) (mCons (mP (pK (.int 0))) (mCons (mP (pK (.int 0))) (mCons (mP (pOp iAdd (pK (.int 5047)) (pOp iMul (pK (.int 7)) (pApp D.len (pV 1))))) (mCons (mP (pK (.int 0))) (M.ret []))))))))
def den__law_hand : FD := denF 3 [] (mSeq d__law_hand_0 d__law_hand_1)
def d_is_integer_0 : M DL.Flow := (mRet (mAndV (mP (pApp (isD "int") (pV 0))) (mP (pUn notD (pApp (isD "bool") (pV 0))))))
def den_is_integer : FD := denF 1 [] d_is_integer_0
def d_is_poly_0_a_0 : M DL.Flow := (mRet (mP (pK (.bl false))))
def d_is_poly_0 : M DL.Flow := (mIf (mOr (mNot (mPB (pApp (isD "tuple") (pV 0)))) (mOr (mNot (mPB (pChain iLe iLe (pK (.int 1)) (pApp D.len (pV 0)) (pK (.int 40))))) (mNot (mTf (mApp (one D.all) (mCons (mComp (mIter (mShare 0)) (gN 1) [1] (M.ret true) (mCall den_is_integer [] (mConsF (mShare 1) (M.ret [])))) (M.ret []))))))) d_is_poly_0_a_0 mNext)
def d_is_poly_1_a_0 : M DL.Flow := (mRet (mP (pK (.bl false))))
def d_is_poly_1 : M DL.Flow := (mIf (mTf (mApp (one D.any) (mCons (mComp (mIter (mShare 0)) (gN 1) [1] (M.ret true) (mP (pOp iGe (pApp D.absI (pV 1)) (pK (.int 1000000000000000000000000000000))))) (M.ret [])))) d_is_poly_1_a_0 mNext)
def d_is_poly_2 : M DL.Flow := (mRet (mOrV (mP (pOp gNe (pOp D.ix (pV 0) (pUn negD (pK (.int 1)))) (pK (.int 0)))) (mOp gEq (mShare 0) (mTup (mCons (mP (pK (.int 0))) (M.ret []))))))
def den_is_poly : FD := denF 2 [] (mSeq d_is_poly_0 (mSeq d_is_poly_1 d_is_poly_2))
def d_check_poly_0 : M DL.Flow := (mIf (mNot (mTf (mCall den_is_poly [] (mConsF (mShare 0) (M.ret []))))) M.stop mNext)
def den_check_poly : FD := denF 1 [] d_check_poly_0
def d_divided_by_root_0 : M DL.Flow := (mPar 2 3 (mCons (mLst (M.ret [])) (mCons (mP (pK (.int 0))) (M.ret []))))
def d_divided_by_root_1_0 : M DL.Flow := (mAsg (mP (pOp iAdd (pOp iMul (pV 3) (pV 1)) (pV 4))) (gN 3))
def d_divided_by_root_1_1 : M DL.Flow := (mDrop (mApnd 2 (mShare 3)))
def d_divided_by_root_1 : M DL.Flow := (mFor (mIter (mBack none (mTake 0))) (gN 4) [4] (mSeq d_divided_by_root_1_0 d_divided_by_root_1_1))
def d_divided_by_root_2 : M DL.Flow := (mRet (mTup (mCons (mP (pOp D.ix (pV 2) (pUn negD (pK (.int 1))))) (mCons (mApp (one D.toTup) (mCons (mBack (some (-2)) (mShare 2)) (M.ret []))) (M.ret [])))))
def den_divided_by_root : FD := denF 5 [] (mSeq d_divided_by_root_0 (mSeq d_divided_by_root_1 d_divided_by_root_2))
def d_product_row_0 : M DL.Flow := (mDrop (mCall den_check_poly [] (mConsF (mShare 0) (M.ret []))))
def d_product_row_1 : M DL.Flow := (mPar 1 2 (mCons (mLst (M.ret [])) (mCons (mP (pK (.int 0))) (M.ret []))))
def d_product_row_2_0 : M DL.Flow := (mAsg (mCall den_divided_by_root [] (mConsF (mShare 0) (mConsF (mShare 2) (M.ret [])))) (gT 2 (gConsD (gN 3) (gConsD (gN 4) gNilD))))
def d_product_row_2_1_a_0 : M DL.Flow := (mDrop (mApnd 1 (mShare 2)))
def d_product_row_2_1_a_1 : M DL.Flow := (mAsg (mTake 4) (gN 0))
def d_product_row_2_1_b_0 : M DL.Flow := (mAug 2 (mP (pK (.int 1))) (orG iAdd gCatS))
def d_product_row_2_1 : M DL.Flow := (mIf (mPB (pOp gEq (pV 3) (pK (.int 0)))) (mSeq d_product_row_2_1_a_0 d_product_row_2_1_a_1) d_product_row_2_1_b_0)
def d_product_row_2 : M DL.Flow := (whileM (mAnd (mPB (pOp iLe (pV 2) (pK (.int 400)))) (mPB (pOp iGt (pApp D.len (pV 0)) (pK (.int 1))))) [3, 4] (mSeq d_product_row_2_0 d_product_row_2_1) 1000000)
def d_product_row_3 : M DL.Flow := (mRet (mApp (one D.toTup) (mCons (mTake 1) (M.ret []))))
def den_product_row : FD := denF 5 [] (mSeq d_product_row_0 (mSeq d_product_row_1 (mSeq d_product_row_2 d_product_row_3)))
def d__law_draw_0_a_0 : M DL.Flow := (mAsg (mP (pOp D.ix (pOp D.ix (pV 0) (pK (.int 0))) (pOp D.ix (pV 0) (pK (.int 1))))) (gN 3))
def d__law_draw_0_a_1 : M DL.Flow := (mAsg (mP (pOp iAdd (pOp D.ix (pV 0) (pK (.int 1))) (pK (.int 1)))) (gSet 0 (pK (.int 1))))
def d__law_draw_0_a_2 : M DL.Flow := (mAsg (mP (pOp iMod (pApp D.toInt (pOp iAdd (pOp iAdd (pOp iMul (pOp D.ix (pV 0) (pK (.int 3))) (pK (.int 69621))) (pOp iMul (pV 3) (pK (.int 40692)))) (pK (.int 31)))) (pK (.int 2147483629)))) (gSet 0 (pK (.int 3))))
def d__law_draw_0_a_3_a_0 : M DL.Flow := (mAsg (mTake 3) (gSet 0 (pK (.int 2))))
def d__law_draw_0_a_3 : M DL.Flow := (mIf (mPB (pOp iGe (pV 3) (pOp iPow (pK (.int 10)) (pK (.int 18))))) d__law_draw_0_a_3_a_0 mNext)
def d__law_draw_0 : M DL.Flow := (mIf (mAnd (mPB (pOp gEq (pOp D.ix (pV 0) (pK (.int 2))) (pK (.int 0)))) (mPB (pOp iLt (pOp D.ix (pV 0) (pK (.int 1))) (pApp D.len (pOp D.ix (pV 0) (pK (.int 0))))))) (mSeq d__law_draw_0_a_0 (mSeq d__law_draw_0_a_1 (mSeq d__law_draw_0_a_2 d__law_draw_0_a_3))) mNext)
def d__law_draw_1_a_0 : M DL.Flow := (mAsg (mP (pOp iMod (pApp D.toInt (pOp D.ix (pV 0) (pK (.int 2)))) (pV 1))) (gN 4))
def d__law_draw_1_a_1 : M DL.Flow := (mAsg (mP (pOp iDiv (pOp D.ix (pV 0) (pK (.int 2))) (pV 1))) (gSet 0 (pK (.int 2))))
def d__law_draw_1_a_2 : M DL.Flow := (mRet (mTake 4))
def d__law_draw_1 : M DL.Flow := (mIf (mPB (pOp iGt (pOp D.ix (pV 0) (pK (.int 2))) (pK (.int 0)))) (mSeq d__law_draw_1_a_0 (mSeq d__law_draw_1_a_1 d__law_draw_1_a_2)) mNext)
def d__law_draw_2 : M DL.Flow := (mAsg (mP (pOp iAdd (pOp D.ix (pV 0) (pK (.int 4))) (pK (.int 1)))) (gSet 0 (pK (.int 4))))
def d__law_draw_3 : M DL.Flow := (mAsg (mP (pOp iMod (pApp D.toInt (pOp iMul (pApp D.toInt (pOp iAdd (pOp D.ix (pV 0) (pK (.int 3))) (pOp iMul (pK (.int 7919)) (pOp D.ix (pV 0) (pK (.int 4)))))) (pK (.int 48271)))) (pK (.int 2147483647)))) (gN 2))
def d__law_draw_4 : M DL.Flow := (mAsg (mP (pOp iMod (pApp D.toInt (pOp iMul (pV 2) (pOp iAdd (pOp iDiv (pV 2) (pK (.int 1009))) (pK (.int 69621))))) (pK (.int 2147483647)))) (gN 2))
def d__law_draw_5 : M DL.Flow := (mAsg (mP (pOp iMod (pApp D.toInt (pOp iMul (pV 2) (pOp iAdd (pOp iDiv (pV 2) (pK (.int 2003))) (pK (.int 40014))))) (pK (.int 2147483563)))) (gN 2))
def d__law_draw_6 : M DL.Flow := (mRet (mP (pOp iMod (pApp D.toInt (pOp iDiv (pV 2) (pK (.int 16)))) (pV 1))))
def den__law_draw : FD := denF 5 [0] (mSeq d__law_draw_0 (mSeq d__law_draw_1 (mSeq d__law_draw_2 (mSeq d__law_draw_3 (mSeq d__law_draw_4 (mSeq d__law_draw_5 d__law_draw_6))))))
def d__law_any_0 : M DL.Flow := (mRet (mOp ixA (mShare 1) (mCall den__law_draw [(0, 0)] (mConsR 0 (mConsF (mP (pApp D.len (pV 1))) (M.ret []))))))
def den__law_any : FD := denF 2 [0] d__law_any_0
def d__law_times_0 : M DL.Flow := (mAsg (mOp aMul (mLst (mCons (mP (pK (.int 0))) (M.ret []))) (mP (pOp iSub (pOp iAdd (pApp D.len (pV 0)) (pApp D.len (pV 1))) (pK (.int 1))))) (gN 2))
def d__law_times_1_0_0 : M DL.Flow := (mAsg (mP (pOp iAdd (pOp D.ix (pV 2) (pOp iAdd (pV 3) (pV 5))) (pOp iMul (pV 4) (pV 6)))) (gSet 2 (pOp iAdd (pV 3) (pV 5))))
def d__law_times_1_0 : M DL.Flow := (mFor (mEnum (mCons (mShare 1) (M.ret []))) (gT 2 (gConsD (gN 5) (gConsD (gN 6) gNilD))) [5, 6] d__law_times_1_0_0)
def d__law_times_1 : M DL.Flow := (mFor (mEnum (mCons (mTake 0) (M.ret []))) (gT 2 (gConsD (gN 3) (gConsD (gN 4) gNilD))) [3, 4, 5, 6] d__law_times_1_0)
def d__law_times_2 : M DL.Flow := (mRet (mApp (one D.toTup) (mCons (mTake 2) (M.ret []))))
def den__law_times : FD := denF 7 [] (mSeq d__law_times_0 (mSeq d__law_times_1 d__law_times_2))
def d_is_within_0 : M DL.Flow := (mRet (mAndV (mCall den_is_integer [] (mConsF (mShare 0) (M.ret []))) (mP (pChain iLe iLe (pV 1) (pV 0) (pV 2)))))
def den_is_within : FD := denF 3 [] d_is_within_0
def d_check_run_0 : M DL.Flow := (mIf (mOr (mNot (mTf (mCall den_is_within [] (mConsF (mShare 0) (mConsF (mP (pUn negD (pK (.int 20)))) (mConsF (mP (pK (.int 1))) (M.ret []))))))) (mOr (mNot (mTf (mCall den_is_within [] (mConsF (mShare 1) (mConsF (mP (pUn negD (pK (.int 1)))) (mConsF (mP (pK (.int 20))) (M.ret []))))))) (mPB (pOp iGt (pV 0) (pV 1))))) M.stop mNext)
def den_check_run : FD := denF 2 [] d_check_run_0
def d_check_ruled_0 : M DL.Flow := (mIf (mNot (mTf (mCall den_is_within [] (mConsF (mShare 0) (mConsF (mP (pK (.int 2))) (mConsF (mP (pK (.int 12))) (M.ret []))))))) M.stop mNext)
def d_check_ruled_1 : M DL.Flow := (mDrop (mCall den_check_run [] (mConsF (mTake 1) (mConsF (mTake 2) (M.ret [])))))
def den_check_ruled : FD := denF 3 [] (mSeq d_check_ruled_0 d_check_ruled_1)
def d_trimmed_0 : M DL.Flow := (mAsg (mApp (one D.toLst) (mCons (mTake 0) (M.ret []))) (gN 1))
def d_trimmed_1_0 : M DL.Flow := (mDrop (mMeth0 1 popD))
def d_trimmed_1 : M DL.Flow := (whileM (mAnd (mPB (pOp iGt (pApp D.len (pV 1)) (pK (.int 1)))) (mPB (pOp gEq (pOp D.ix (pV 1) (pUn negD (pK (.int 1)))) (pK (.int 0))))) [] d_trimmed_1_0 1000000)
def d_trimmed_2 : M DL.Flow := (mRet (mApp (one D.toTup) (mCons (mTake 1) (M.ret []))))
def den_trimmed : FD := denF 2 [] (mSeq d_trimmed_0 (mSeq d_trimmed_1 d_trimmed_2))
def d_terms_product_0 : M DL.Flow := (mAsg (mOp aMul (mLst (mCons (mP (pK (.int 0))) (M.ret []))) (mP (pOp iSub (pOp iAdd (pApp D.len (pV 0)) (pApp D.len (pV 1))) (pK (.int 1))))) (gN 2))
def d_terms_product_1_0_0 : M DL.Flow := (mAugS 2 (pOp iAdd (pV 3) (pV 5)) (mP (pOp iMul (pV 4) (pV 6))) iAdd)
def d_terms_product_1_0 : M DL.Flow := (mFor (mEnum (mCons (mShare 1) (M.ret []))) (gT 2 (gConsD (gN 5) (gConsD (gN 6) gNilD))) [5, 6] d_terms_product_1_0_0)
def d_terms_product_1 : M DL.Flow := (mFor (mEnum (mCons (mTake 0) (M.ret []))) (gT 2 (gConsD (gN 3) (gConsD (gN 4) gNilD))) [3, 4, 5, 6] d_terms_product_1_0)
def d_terms_product_2 : M DL.Flow := (mRet (mTake 2))
def den_terms_product : FD := denF 7 [] (mSeq d_terms_product_0 (mSeq d_terms_product_1 d_terms_product_2))
def d_poly_of_like_0 : M DL.Flow := (mAsg (mLst (mCons (mP (pK (.int 0))) (mCons (mP (pK (.int 1))) (M.ret [])))) (gN 2))
def d_poly_of_like_1_0 : M DL.Flow := (mAsg (mCall den_terms_product [] (mConsF (mShare 2) (mConsF (mLst (mCons (mP (pUn negD (pOp iAdd (pOp iMul (pV 0) (pV 1)) (pV 3)))) (mCons (mP (pK (.int 1))) (M.ret [])))) (M.ret [])))) (gN 2))
def d_poly_of_like_1 : M DL.Flow := (mFor (mRange2 (mCons (mP (pK (.int 1))) (mCons (mShare 0) (M.ret [])))) (gN 3) [3] d_poly_of_like_1_0)
def d_poly_of_like_2 : M DL.Flow := (mRet (mTake 2))
def den_poly_of_like : FD := denF 4 [] (mSeq d_poly_of_like_0 (mSeq d_poly_of_like_1 d_poly_of_like_2))
def d_raw_run_poly_0 : M DL.Flow := (mPar 3 4 (mCons (mP (pOp iSub (pK (.int 1)) (pV 1))) (mCons (mP (pOp iAdd (pV 2) (pK (.int 1)))) (M.ret []))))
def d_raw_run_poly_1_a_0 : M DL.Flow := (mRet (mCall den_trimmed [] (mConsF (mCall den_poly_of_like [] (mConsF (mShare 0) (mConsF (mTake 2) (M.ret [])))) (M.ret []))))
def d_raw_run_poly_1 : M DL.Flow := (mIf (mPB (pOp gEq (pV 3) (pV 4))) d_raw_run_poly_1_a_0 mNext)
def den_raw_run_poly : FD := denF 5 [] (mSeq d_raw_run_poly_0 (mSeq d_raw_run_poly_1 M.stop))
def d_run_poly_0 : M DL.Flow := (mDrop (mCall den_check_ruled [] (mConsF (mShare 0) (mConsF (mShare 1) (mConsF (mShare 2) (M.ret []))))))
def d_run_poly_1 : M DL.Flow := (mRet (mCall den_raw_run_poly [] (mConsF (mTake 0) (mConsF (mTake 1) (mConsF (mTake 2) (M.ret []))))))
def den_run_poly : FD := denF 3 [] (mSeq d_run_poly_0 d_run_poly_1)
def d__law_is_right_0 : M DL.Flow := (mAsg (mComp (mRange1 (mCons (mCall den__law_draw [(0, 0)] (mConsR 0 (mConsF (mP (pK (.int 5))) (M.ret [])))) (M.ret []))) (gN 9) [9] (M.ret true) (mCall den__law_any [(0, 0)] (mConsR 0 (mConsF (mLst (mCons (mP (pK (.int 0))) (mCons (mP (pK (.int 1))) (mCons (mP (pK (.int 2))) (mCons (mP (pK (.int 5))) (mCons (mP (pK (.int 17))) (mCons (mP (pK (.int 400))) (mCons (mP (pK (.int 33))) (M.ret []))))))))) (M.ret []))))) (gN 1))
def d__law_is_right_1 : M DL.Flow := (mAsg (mTup (mCons (mCall den__law_any [(0, 0)] (mConsR 0 (mConsF (mLst (mCons (mP (pK (.int 1))) (mCons (mP (pUn negD (pK (.int 2)))) (mCons (mP (pK (.int 3))) (M.ret []))))) (M.ret [])))) (M.ret []))) (gN 2))
def d__law_is_right_2 : M DL.Flow := (mAsg (mComp (mRange1 (mCons (mCall den__law_draw [(0, 0)] (mConsR 0 (mConsF (mP (pK (.int 3))) (M.ret [])))) (M.ret []))) (gN 9) [9] (M.ret true) (mCall den__law_any [(0, 0)] (mConsR 0 (mConsF (mLst (mCons (mP (pUn negD (pK (.int 1)))) (mCons (mP (pUn negD (pK (.int 7)))) (mCons (mP (pK (.int 401))) (mCons (mP (pK (.int 1000))) (M.ret [])))))) (M.ret []))))) (gN 3))
def d__law_is_right_3_0 : M DL.Flow := (mAsg (mCall den__law_times [] (mConsF (mShare 2) (mConsF (mTup (mCons (mP (pOp iSub (pK (.int 0)) (pV 4))) (mCons (mP (pK (.int 1))) (M.ret [])))) (M.ret [])))) (gN 2))
def d__law_is_right_3 : M DL.Flow := (mFor (mIter (mOp aAdd (mShare 1) (mTake 3))) (gN 4) [4] d__law_is_right_3_0)
def d__law_is_right_4 : M DL.Flow := (mAsg (mCall den__law_any [(0, 0)] (mConsR 0 (mConsF (mLst (mCons (mTup (mCons (mP (pK (.int 1))) (M.ret []))) (mCons (mTup (mCons (mP (pK (.int 1))) (mCons (mP (pK (.int 0))) (mCons (mP (pK (.int 1))) (M.ret []))))) (mCons (mTup (mCons (mP (pK (.int 1))) (mCons (mP (pK (.int 1))) (mCons (mP (pK (.int 1))) (M.ret []))))) (mCons (mTup (mCons (mP (pUn negD (pK (.int 1)))) (mCons (mP (pK (.int 2))) (M.ret [])))) (mCons (mTup (mCons (mP (pK (.int 2))) (mCons (mP (pK (.int 0))) (mCons (mP (pK (.int 3))) (M.ret []))))) (M.ret []))))))) (M.ret [])))) (gN 5))
def d__law_is_right_5_a_0 : M DL.Flow := (mRet (mP (pK (.bl false))))
def d__law_is_right_5 : M DL.Flow := (mIf (mTf (mOp gNe (mApp (one D.repr) (mCons (mCall den_product_row [] (mConsF (mCall den__law_times [] (mConsF (mShare 2) (mConsF (mShare 5) (M.ret [])))) (M.ret []))) (M.ret []))) (mApp (one D.repr) (mCons (mApp (one D.toTup) (mCons (mApp (one D.sortedI) (mCons (mShare 1) (M.ret []))) (M.ret []))) (M.ret []))))) d__law_is_right_5_a_0 mNext)
def d__law_is_right_6 : M DL.Flow := (mAsg (mTup (mCons (mOp aAdd (mP (pK (.int 2))) (mCall den__law_draw [(0, 0)] (mConsR 0 (mConsF (mP (pK (.int 7))) (M.ret []))))) (mCons (mCall den__law_draw [(0, 0)] (mConsR 0 (mConsF (mP (pK (.int 4))) (M.ret [])))) (M.ret [])))) (gT 2 (gConsD (gN 6) (gConsD (gN 7) gNilD))))
def d__law_is_right_7 : M DL.Flow := (mAsg (mApp (one D.toTup) (mCons (mOp aAdd (mLst (mCons (mP (pK (.int 0))) (M.ret []))) (mComp (mRange2 (mCons (mP (pK (.int 1))) (mCons (mShare 6) (M.ret [])))) (gN 10) [10] (M.ret true) (mP (pOp iAdd (pOp iMul (pV 6) (pV 7)) (pV 10))))) (M.ret []))) (gN 8))
def d__law_is_right_8 : M DL.Flow := (mRet (mOp gEq (mApp (one D.repr) (mCons (mCall den_product_row [] (mConsF (mCall den_run_poly [] (mConsF (mTake 6) (mConsF (mP (pOp iSub (pK (.int 0)) (pV 7))) (mConsF (mShare 7) (M.ret []))))) (M.ret []))) (M.ret []))) (mApp (one D.repr) (mCons (mTake 8) (M.ret [])))))
def den__law_is_right : FD := denF 11 [0] (mSeq d__law_is_right_0 (mSeq d__law_is_right_1 (mSeq d__law_is_right_2 (mSeq d__law_is_right_3 (mSeq d__law_is_right_4 (mSeq d__law_is_right_5 (mSeq d__law_is_right_6 (mSeq d__law_is_right_7 d__law_is_right_8))))))))
def d_law_0 : M DL.Flow := (mAsg (mCall den__law_hand [] (mConsF (mTake 0) (M.ret []))) (gN 1))
def d_law_1_a_0 : M DL.Flow := (mRet (mP (pK (.bl false))))
def d_law_1 : M DL.Flow := (mIf (mTf (mOp gNe (mCall den_product_row [] (mConsF (mTup (mCons (mP (pK (.int 0))) (mCons (mP (pK (.int 2))) (mCons (mP (pUn negD (pK (.int 3)))) (mCons (mP (pK (.int 1))) (M.ret [])))))) (M.ret []))) (mTup (mCons (mP (pK (.int 0))) (mCons (mP (pK (.int 1))) (mCons (mP (pK (.int 2))) (M.ret []))))))) d_law_1_a_0 mNext)
def d_law_2_a_0 : M DL.Flow := (mRet (mP (pK (.bl false))))
def d_law_2 : M DL.Flow := (mIf (mTf (mOp gNe (mCall den_product_row [] (mConsF (mTup (mCons (mP (pK (.int 9))) (mCons (mP (pUn negD (pK (.int 6)))) (mCons (mP (pK (.int 1))) (M.ret []))))) (M.ret []))) (mTup (mCons (mP (pK (.int 3))) (mCons (mP (pK (.int 3))) (M.ret [])))))) d_law_2_a_0 mNext)
def d_law_3_a_0 : M DL.Flow := (mRet (mP (pK (.bl false))))
def d_law_3 : M DL.Flow := (mIf (mTf (mOp gNe (mCall den_product_row [] (mConsF (mTup (mCons (mP (pK (.int 1))) (mCons (mP (pK (.int 0))) (mCons (mP (pK (.int 1))) (M.ret []))))) (M.ret []))) (mTup (M.ret [])))) d_law_3_a_0 mNext)
def d_law_4_a_0 : M DL.Flow := (mRet (mP (pK (.bl false))))
def d_law_4 : M DL.Flow := (mIf (mTf (mOp gNe (mCall den_product_row [] (mConsF (mTup (mCons (mP (pK (.int 7))) (M.ret []))) (M.ret []))) (mTup (M.ret [])))) d_law_4_a_0 mNext)
def d_law_5 : M DL.Flow := (mRet (mApp (one D.all) (mCons (mComp (mRange1 (mCons (mP (pK (.int 6))) (M.ret []))) (gN 2) [2] (M.ret true) (mCall den__law_is_right [(0, 1)] (mConsR 1 (M.ret [])))) (M.ret []))))
def den_law : FD := denF 3 [] (mSeq d_law_0 (mSeq d_law_1 (mSeq d_law_2 (mSeq d_law_3 (mSeq d_law_4 d_law_5)))))
/-! what stands in the module -/
structure Txt (K : PySem.W.Frag) (mg : Str → Option Value) : Prop where
  o__law_hand : Own K mg "_law_hand" s__law_hand ["script"]
  o_is_integer : Own K mg "is_integer" s_is_integer ["thing"]
  o_is_poly : Own K mg "is_poly" s_is_poly ["thing"]
  o_check_poly : Own K mg "check_poly" s_check_poly ["thing"]
  o_divided_by_root : Own K mg "divided_by_root" s_divided_by_root ["poly", "root"]
  o_product_row : Own K mg "product_row" s_product_row ["poly"]
  o__law_draw : Own K mg "_law_draw" s__law_draw ["hand", "below"]
  o__law_any : Own K mg "_law_any" s__law_any ["hand", "some"]
  o__law_times : Own K mg "_law_times" s__law_times ["one", "other"]
  o_is_within : Own K mg "is_within" s_is_within ["thing", "low", "high"]
  o_check_run : Own K mg "check_run" s_check_run ["low", "high"]
  o_check_ruled : Own K mg "check_ruled" s_check_ruled ["n", "low", "high"]
  o_trimmed : Own K mg "trimmed" s_trimmed ["terms"]
  o_terms_product : Own K mg "terms_product" s_terms_product ["one", "other"]
  o_poly_of_like : Own K mg "poly_of_like" s_poly_of_like ["n", "high"]
  o_raw_run_poly : Own K mg "raw_run_poly" s_raw_run_poly ["n", "low", "high"]
  o_run_poly : Own K mg "run_poly" s_run_poly ["n", "low", "high"]
  o__law_is_right : Own K mg "_law_is_right" s__law_is_right ["hand"]
  o_law : Own K mg "law" s_law ["script"]
  b_abs : mg "abs" = none
  b_all : mg "all" = none
  b_any : mg "any" = none
  b_bool : mg "bool" = none
  b_enumerate : mg "enumerate" = none
  b_int : mg "int" = none
  b_isinstance : mg "isinstance" = none
  b_len : mg "len" = none
  b_list : mg "list" = none
  b_range : mg "range" = none
  b_repr : mg "repr" = none
  b_sorted : mg "sorted" = none
  b_tuple : mg "tuple" = none
  g_LEAST_N : ∃ t, mg "LEAST_N" = some (.int 2 t)
  g_MOST_END : ∃ t, mg "MOST_END" = some (.int 20 t)
  g_MOST_N : ∃ t, mg "MOST_N" = some (.int 12 t)
  g_MOST_ROOT : ∃ t, mg "MOST_ROOT" = some (.int 400 t)
  g_MOST_SIZE : ∃ t, mg "MOST_SIZE" = some (.int 1000000000000000000000000000000 t)
section
variable {P : Program} {w : World} {K : PySem.W.Frag} {mg : Str → Option Value} {base : Heap}
theorem sc__law_hand : FnScope ["script", "cells", "cell"] ["script"] (defScope s__law_hand) := ⟨rfl, rfl, rfl, by decide +kernel, rfl, by decide +kernel, by decide +kernel⟩
theorem ok__law_hand (T : Txt K mg) : Def P w K mg base "_law_hand" 1 ["script"] [] den__law_hand := by
  exact Def.of T.o__law_hand sc__law_hand (by decide) (by decide) fun f cdv A outer s H E Ex hr gd hE => (gss_cons (gs_setLc (i := 1) (own := [("cell", 2)]) rfl sc__law_hand.nd rfl rfl (sw_true rfl rfl rfl (by decide +kernel)) (gi_seq (vSlX (ge_take (pv 0)) go_none (go_some qI))) (blkOk_by (N := ["script", "cells", "cell"]) (sc := defScope s__law_hand) (by decide +kernel)) (fun _ _ _ _ _ => (gg_name (pg_name (i := 2) sc__law_hand.nd rfl (.inl rfl)))) (fun _ _ _ _ _ => gts_nil) (fun _ _ _ _ _ => (ge_q (qAbs T.b_abs (qInt T.b_int (gq_var (pv 2))))))) (gss_one (gs_ret (ge_lst (ga_cons (ge_share (pv 1)) (ga_cons (ge_q qI) (ga_cons (ge_q qI) (ga_cons (ge_q (qAdd qI (qMul qI (qLen T.b_len (gq_var (pv 1)))))) (ga_cons (ge_q qI) ga_nil)))))))))
theorem sc_is_integer : FnScope ["thing"] ["thing"] (defScope s_is_integer) := ⟨rfl, rfl, rfl, by decide +kernel, rfl, by decide +kernel, by decide +kernel⟩
theorem ok_is_integer (T : Txt K mg) : Def P w K mg base "is_integer" 1 ["thing"] [] den_is_integer := by
  exact Def.of T.o_is_integer sc_is_integer (by decide) (by decide) fun f cdv A outer s H E Ex hr gd hE => (gss_one (gs_ret (v_and (ge_q (qIsi (p1 := ⟨0, 0, 0, 0⟩) (p2 := ⟨0, 0, 0, 0⟩) kitT_int T.b_isinstance (qTy T.b_int (by decide +kernel)) (gq_var (pv 0)))) (v_one (ge_q (q_not (qIsi (p1 := ⟨0, 0, 0, 0⟩) (p2 := ⟨0, 0, 0, 0⟩) kitT_bool T.b_isinstance (qTy T.b_bool (by decide +kernel)) (gq_var (pv 0)))))))))
theorem sc_is_poly : FnScope ["thing", "one"] ["thing"] (defScope s_is_poly) := ⟨rfl, rfl, rfl, by decide +kernel, rfl, by decide +kernel, by decide +kernel⟩
theorem ok_is_poly (T : Txt K mg) : Def P w K mg base "is_poly" 2 ["thing"] [] den_is_poly := by
  have h_is_integer := ok_is_integer (P := P) (w := w) (base := base) T
  exact Def.of T.o_is_poly sc_is_poly (by decide) (by decide) fun f cdv A outer s H E Ex hr gd hE => (gss_cons (gs_if (gb_w (gw_or (gb_not (gbq_val (qIsi (p1 := ⟨0, 0, 0, 0⟩) (p2 := ⟨0, 0, 0, 0⟩) kitT_tuple T.b_isinstance (qTy T.b_tuple (by decide +kernel)) (gq_var (pv 0))))) (gw_or (gb_not (tLeLe qI (qLen T.b_len (gq_var (pv 0))) qI)) (gw_or1 (gb_not (gb_val (vAll rfl T.b_all (ga_cons (ge_lc (own := [("one", 1)]) rfl sc_is_poly.nd (gi_seq (ge_share (pv 0))) (blkOk_by (N := ["thing", "one"]) (sc := defScope s_is_poly) (by decide +kernel)) (fun _ _ _ _ _ => (gg_name (pg_name (i := 1) sc_is_poly.nd rfl (.inl rfl)))) (fun _ _ _ _ _ => gts_nil) (fun _ _ _ _ _ => (vCall h_is_integer hr (by decide) gd (letx_blk rfl) (gr_val (ge_share (pv 1)) gr_nil) (len_cons len_nil)))) ga_nil)))))))) (gss_one (gs_ret (ge_q qB))) gss_nil) (gss_cons (gs_if (gb_val (vAny rfl T.b_any (ga_cons (ge_lc (own := [("one", 1)]) rfl sc_is_poly.nd (gi_seq (ge_share (pv 0))) (blkOk_by (N := ["thing", "one"]) (sc := defScope s_is_poly) (by decide +kernel)) (fun _ _ _ _ _ => (gg_name (pg_name (i := 1) sc_is_poly.nd rfl (.inl rfl)))) (fun _ _ _ _ _ => gts_nil) (fun _ _ _ _ _ => (ge_q (qGe (qAbs T.b_abs (gq_var (pv 1))) (qGlobE T.g_MOST_SIZE))))) ga_nil))) (gss_one (gs_ret (ge_q qB))) gss_nil) (gss_one (gs_ret (v_or (ge_q (qNe hr (qIx (gq_var (pv 0)) (gq_neg qI)) qI)) (v_one (vEq hr (ge_share (pv 0)) (ge_tup (ga_cons (ge_q qI) ga_nil)))))))))
theorem sc_check_poly : FnScope ["thing"] ["thing"] (defScope s_check_poly) := ⟨rfl, rfl, rfl, by decide +kernel, rfl, by decide +kernel, by decide +kernel⟩
theorem ok_check_poly (T : Txt K mg) : Def P w K mg base "check_poly" 3 ["thing"] [] den_check_poly := by
  have h_is_poly := ok_is_poly (P := P) (w := w) (base := base) T
  exact Def.of T.o_check_poly sc_check_poly (by decide) (by decide) fun f cdv A outer s H E Ex hr gd hE => (gss_one (gs_if (gb_not (gb_val (vCall h_is_poly hr (by decide) gd (letx_body hE) (gr_val (ge_share (pv 0)) gr_nil) (len_cons len_nil)))) (gss_one gs_never) gss_nil))
theorem sc_divided_by_root : FnScope ["poly", "root", "found", "carry", "term"] ["poly", "root"] (defScope s_divided_by_root) := ⟨rfl, rfl, rfl, by decide +kernel, rfl, by decide +kernel, by decide +kernel⟩
theorem ok_divided_by_root (T : Txt K mg) : Def P w K mg base "divided_by_root" 1 ["poly", "root"] [] den_divided_by_root := by
  exact Def.of T.o_divided_by_root sc_divided_by_root (by decide) (by decide) fun f cdv A outer s H E Ex hr gd hE => (gss_cons (sPar (i := 2) (j := 3) rfl sc_divided_by_root.nd rfl rfl (by decide) rfl rfl (ga_cons (ge_lst ga_nil) (ga_cons (ge_q qI) ga_nil))) (gss_cons (gs_for (passes_of rfl) rfl (gi_seq (vBack (ge_take (pv 0)))) (gg_name (pg_name (i := 4) sc_divided_by_root.nd rfl (.inl rfl))) (gss_cons (sSet (i := 3) sc_divided_by_root.nd rfl (.inl rfl) (ge_q (qAdd (qMul (gq_var (pv 3)) (gq_var (pv 1))) (gq_var (pv 4))))) (gss_one (gs_expr (vApp (pv 2) (ge_share (pv 3))))))) (gss_one (gs_ret (ge_tup (ga_cons (ge_q (qIx (gq_var (pv 2)) (gq_neg qI))) (ga_cons (vTup T.b_tuple (ga_cons (vBackN (ge_share (pv 2))) ga_nil)) ga_nil)))))))
theorem sc_product_row : FnScope ["poly", "found", "root", "rest", "later"] ["poly"] (defScope s_product_row) := ⟨rfl, rfl, rfl, by decide +kernel, rfl, by decide +kernel, by decide +kernel⟩
theorem ok_product_row (T : Txt K mg) : Def P w K mg base "product_row" 4 ["poly"] [] den_product_row := by
  have h_check_poly := ok_check_poly (P := P) (w := w) (base := base) T
  have h_divided_by_root := ok_divided_by_root (P := P) (w := w) (base := base) T
  exact Def.of T.o_product_row sc_product_row (by decide) (by decide) fun f cdv A outer s H E Ex hr gd hE => (gss_cons (gs_expr (vCall h_check_poly hr (by decide) gd (letx_body hE) (gr_val (ge_share (pv 0)) gr_nil) (len_cons len_nil))) (gss_cons (sPar (i := 1) (j := 2) rfl sc_product_row.nd rfl rfl (by decide) rfl rfl (ga_cons (ge_lst ga_nil) (ga_cons (ge_q qI) ga_nil))) (gss_cons (gs_while (passes_of rfl) (gb_w (gw_and (tLe (gq_var (pv 2)) (qGlobE T.g_MOST_ROOT)) (gw_and1 (tGt (qLen T.b_len (gq_var (pv 0))) qI)))) (gss_cons (gs_asg (vCall h_divided_by_root hr (by decide) gd (letx_body hE) (gr_val (ge_share (pv 0)) (gr_val (ge_share (pv 2)) gr_nil)) (len_cons (len_cons len_nil))) (gg_tup rfl (ggs_cons (gg_name (pg_name (i := 3) sc_product_row.nd rfl (.inl rfl))) (ggs_cons (gg_name (pg_name (i := 4) sc_product_row.nd rfl (.inl rfl))) ggs_nil)))) (gss_one (gs_if (tEq hr (gq_var (pv 3)) qI) (gss_cons (gs_expr (vApp (pv 1) (ge_share (pv 2)))) (gss_one (sSet (i := 0) sc_product_row.nd rfl (.inl rfl) (ge_take (pv 4))))) (gss_one (sAdd sc_product_row.nd rfl (.inl rfl) (ge_q qI))))))) (gss_one (gs_ret (vTup T.b_tuple (ga_cons (ge_take (pv 1)) ga_nil)))))))
theorem sc__law_draw : FnScope ["hand", "below", "number", "cell", "digit"] ["hand", "below"] (defScope s__law_draw) := ⟨rfl, rfl, rfl, by decide +kernel, rfl, by decide +kernel, by decide +kernel⟩
theorem ok__law_draw (T : Txt K mg) : Def P w K mg base "_law_draw" 1 ["hand", "below"] [0] den__law_draw := by
  exact Def.of T.o__law_draw sc__law_draw (by decide) (by decide) fun f cdv A outer s H E Ex hr gd hE => (gss_cons (gs_if (gb_w (gw_and (tEq hr (qIx (gq_var (pv 0)) qI) qI) (gw_and1 (tLt (qIx (gq_var (pv 0)) qI) (qLen T.b_len (qIx (gq_var (pv 0)) qI)))))) (gss_cons (sSet (i := 3) sc__law_draw.nd rfl (.inl rfl) (ge_q (qIx (qIx (gq_var (pv 0)) qI) (qIx (gq_var (pv 0)) qI)))) (gss_cons (gs_asg (ge_q (qAdd (qIx (gq_var (pv 0)) qI) qI)) (gg_sub (pv 0) qI)) (gss_cons (gs_asg (ge_q (qMod (qInt T.b_int (qAdd (qAdd (qMul (qIx (gq_var (pv 0)) qI) qI) (qMul (gq_var (pv 3)) qI)) qI)) qI)) (gg_sub (pv 0) qI)) (gss_one (gs_if (tGe (gq_var (pv 3)) (qPow qI qI)) (gss_one (gs_asg (ge_take (pv 3)) (gg_sub (pv 0) qI))) gss_nil))))) gss_nil) (gss_cons (gs_if (tGt (qIx (gq_var (pv 0)) qI) qI) (gss_cons (sSet (i := 4) sc__law_draw.nd rfl (.inl rfl) (ge_q (qMod (qInt T.b_int (qIx (gq_var (pv 0)) qI)) (gq_var (pv 1))))) (gss_cons (gs_asg (ge_q (qDiv (qIx (gq_var (pv 0)) qI) (gq_var (pv 1)))) (gg_sub (pv 0) qI)) (gss_one (gs_ret (ge_take (pv 4)))))) gss_nil) (gss_cons (gs_asg (ge_q (qAdd (qIx (gq_var (pv 0)) qI) qI)) (gg_sub (pv 0) qI)) (gss_cons (sSet (i := 2) sc__law_draw.nd rfl (.inl rfl) (ge_q (qMod (qInt T.b_int (qMul (qInt T.b_int (qAdd (qIx (gq_var (pv 0)) qI) (qMul qI (qIx (gq_var (pv 0)) qI)))) qI)) qI))) (gss_cons (sSet (i := 2) sc__law_draw.nd rfl (.inl rfl) (ge_q (qMod (qInt T.b_int (qMul (gq_var (pv 2)) (qAdd (qDiv (gq_var (pv 2)) qI) qI))) qI))) (gss_cons (sSet (i := 2) sc__law_draw.nd rfl (.inl rfl) (ge_q (qMod (qInt T.b_int (qMul (gq_var (pv 2)) (qAdd (qDiv (gq_var (pv 2)) qI) qI))) qI))) (gss_one (gs_ret (ge_q (qMod (qInt T.b_int (qDiv (gq_var (pv 2)) qI)) (gq_var (pv 1))))))))))))
theorem sc__law_any : FnScope ["hand", "some"] ["hand", "some"] (defScope s__law_any) := ⟨rfl, rfl, rfl, by decide +kernel, rfl, by decide +kernel, by decide +kernel⟩
theorem ok__law_any (T : Txt K mg) : Def P w K mg base "_law_any" 2 ["hand", "some"] [0] den__law_any := by
  have h__law_draw := ok__law_draw (P := P) (w := w) (base := base) T
  exact Def.of T.o__law_any sc__law_any (by decide) (by decide) fun f cdv A outer s H E Ex hr gd hE => (gss_one (gs_ret (vIx (ge_share (pv 1)) (vCall h__law_draw hr (by decide) gd (letx_body hE) (gr_ref (pv 0) (gr_val (ge_q (qLen T.b_len (gq_var (pv 1)))) gr_nil)) (len_consR (len_cons len_nil))))))
theorem sc__law_times : FnScope ["one", "other", "found", "i", "first", "j", "last"] ["one", "other"] (defScope s__law_times) := ⟨rfl, rfl, rfl, by decide +kernel, rfl, by decide +kernel, by decide +kernel⟩
theorem ok__law_times (T : Txt K mg) : Def P w K mg base "_law_times" 1 ["one", "other"] [] den__law_times := by
  exact Def.of T.o__law_times sc__law_times (by decide) (by decide) fun f cdv A outer s H E Ex hr gd hE => (gss_cons (sSet (i := 2) sc__law_times.nd rfl (.inl rfl) (vMul (ge_lst (ga_cons (ge_q qI) ga_nil)) (ge_q (qSub (qAdd (qLen T.b_len (gq_var (pv 0))) (qLen T.b_len (gq_var (pv 1)))) qI)))) (gss_cons (gs_for (passes_of rfl) rfl (gi_en (by rfl) T.b_enumerate (ga_cons (ge_take (pv 0)) ga_nil)) (gg_tup rfl (ggs_cons (gg_name (pg_name (i := 3) sc__law_times.nd rfl (.inl rfl))) (ggs_cons (gg_name (pg_name (i := 4) sc__law_times.nd rfl (.inl rfl))) ggs_nil))) (gss_one (gs_for (passes_of rfl) rfl (gi_en (by rfl) T.b_enumerate (ga_cons (ge_share (pv 1)) ga_nil)) (gg_tup rfl (ggs_cons (gg_name (pg_name (i := 5) sc__law_times.nd rfl (.inl rfl))) (ggs_cons (gg_name (pg_name (i := 6) sc__law_times.nd rfl (.inl rfl))) ggs_nil))) (gss_one (gs_asg (ge_q (qAdd (qIx (gq_var (pv 2)) (qAdd (gq_var (pv 3)) (gq_var (pv 5)))) (qMul (gq_var (pv 4)) (gq_var (pv 6))))) (gg_sub (pv 2) (qAdd (gq_var (pv 3)) (gq_var (pv 5))))))))) (gss_one (gs_ret (vTup T.b_tuple (ga_cons (ge_take (pv 2)) ga_nil))))))
theorem sc_is_within : FnScope ["thing", "low", "high"] ["thing", "low", "high"] (defScope s_is_within) := ⟨rfl, rfl, rfl, by decide +kernel, rfl, by decide +kernel, by decide +kernel⟩
theorem ok_is_within (T : Txt K mg) : Def P w K mg base "is_within" 2 ["thing", "low", "high"] [] den_is_within := by
  have h_is_integer := ok_is_integer (P := P) (w := w) (base := base) T
  exact Def.of T.o_is_within sc_is_within (by decide) (by decide) fun f cdv A outer s H E Ex hr gd hE => (gss_one (gs_ret (v_and (vCall h_is_integer hr (by decide) gd (letx_body hE) (gr_val (ge_share (pv 0)) gr_nil) (len_cons len_nil)) (v_one (ge_q (qLeLe (gq_var (pv 1)) (gq_var (pv 0)) (gq_var (pv 2))))))))
theorem sc_check_run : FnScope ["low", "high"] ["low", "high"] (defScope s_check_run) := ⟨rfl, rfl, rfl, by decide +kernel, rfl, by decide +kernel, by decide +kernel⟩
theorem ok_check_run (T : Txt K mg) : Def P w K mg base "check_run" 3 ["low", "high"] [] den_check_run := by
  have h_is_within := ok_is_within (P := P) (w := w) (base := base) T
  exact Def.of T.o_check_run sc_check_run (by decide) (by decide) fun f cdv A outer s H E Ex hr gd hE => (gss_one (gs_if (gb_w (gw_or (gb_not (gb_val (vCall h_is_within hr (by decide) gd (letx_body hE) (gr_val (ge_share (pv 0)) (gr_val (ge_q (gq_neg (qGlobE T.g_MOST_END))) (gr_val (ge_q qI) gr_nil))) (len_cons (len_cons (len_cons len_nil)))))) (gw_or (gb_not (gb_val (vCall h_is_within hr (by decide) gd (letx_body hE) (gr_val (ge_share (pv 1)) (gr_val (ge_q (gq_neg qI)) (gr_val (ge_q (qGlobE T.g_MOST_END)) gr_nil))) (len_cons (len_cons (len_cons len_nil)))))) (gw_or1 (tGt (gq_var (pv 0)) (gq_var (pv 1))))))) (gss_one gs_never) gss_nil))
theorem sc_check_ruled : FnScope ["n", "low", "high"] ["n", "low", "high"] (defScope s_check_ruled) := ⟨rfl, rfl, rfl, by decide +kernel, rfl, by decide +kernel, by decide +kernel⟩
theorem ok_check_ruled (T : Txt K mg) : Def P w K mg base "check_ruled" 4 ["n", "low", "high"] [] den_check_ruled := by
  have h_is_within := ok_is_within (P := P) (w := w) (base := base) T
  have h_check_run := ok_check_run (P := P) (w := w) (base := base) T
  exact Def.of T.o_check_ruled sc_check_ruled (by decide) (by decide) fun f cdv A outer s H E Ex hr gd hE => (gss_cons (gs_if (gb_not (gb_val (vCall h_is_within hr (by decide) gd (letx_body hE) (gr_val (ge_share (pv 0)) (gr_val (ge_q (qGlobE T.g_LEAST_N)) (gr_val (ge_q (qGlobE T.g_MOST_N)) gr_nil))) (len_cons (len_cons (len_cons len_nil)))))) (gss_one gs_never) gss_nil) (gss_one (gs_expr (vCall h_check_run hr (by decide) gd (letx_body hE) (gr_val (ge_take (pv 1)) (gr_val (ge_take (pv 2)) gr_nil)) (len_cons (len_cons len_nil))))))
theorem sc_trimmed : FnScope ["terms", "found"] ["terms"] (defScope s_trimmed) := ⟨rfl, rfl, rfl, by decide +kernel, rfl, by decide +kernel, by decide +kernel⟩
theorem ok_trimmed (T : Txt K mg) : Def P w K mg base "trimmed" 1 ["terms"] [] den_trimmed := by
  exact Def.of T.o_trimmed sc_trimmed (by decide) (by decide) fun f cdv A outer s H E Ex hr gd hE => (gss_cons (sSet (i := 1) sc_trimmed.nd rfl (.inl rfl) (vLst T.b_list (ga_cons (ge_take (pv 0)) ga_nil))) (gss_cons (gs_while (passes_of rfl) (gb_w (gw_and (tGt (qLen T.b_len (gq_var (pv 1))) qI) (gw_and1 (tEq hr (qIx (gq_var (pv 1)) (gq_neg qI)) qI)))) (gss_one (gs_expr (vPop (pv 1))))) (gss_one (gs_ret (vTup T.b_tuple (ga_cons (ge_take (pv 1)) ga_nil))))))
theorem sc_terms_product : FnScope ["one", "other", "found", "i", "first", "j", "last"] ["one", "other"] (defScope s_terms_product) := ⟨rfl, rfl, rfl, by decide +kernel, rfl, by decide +kernel, by decide +kernel⟩
theorem ok_terms_product (T : Txt K mg) : Def P w K mg base "terms_product" 1 ["one", "other"] [] den_terms_product := by
  exact Def.of T.o_terms_product sc_terms_product (by decide) (by decide) fun f cdv A outer s H E Ex hr gd hE => (gss_cons (sSet (i := 2) sc_terms_product.nd rfl (.inl rfl) (vMul (ge_lst (ga_cons (ge_q qI) ga_nil)) (ge_q (qSub (qAdd (qLen T.b_len (gq_var (pv 0))) (qLen T.b_len (gq_var (pv 1)))) qI)))) (gss_cons (gs_for (passes_of rfl) rfl (gi_en (by rfl) T.b_enumerate (ga_cons (ge_take (pv 0)) ga_nil)) (gg_tup rfl (ggs_cons (gg_name (pg_name (i := 3) sc_terms_product.nd rfl (.inl rfl))) (ggs_cons (gg_name (pg_name (i := 4) sc_terms_product.nd rfl (.inl rfl))) ggs_nil))) (gss_one (gs_for (passes_of rfl) rfl (gi_en (by rfl) T.b_enumerate (ga_cons (ge_share (pv 1)) ga_nil)) (gg_tup rfl (ggs_cons (gg_name (pg_name (i := 5) sc_terms_product.nd rfl (.inl rfl))) (ggs_cons (gg_name (pg_name (i := 6) sc_terms_product.nd rfl (.inl rfl))) ggs_nil))) (gss_one (sAugAdd (pv 2) (qAdd (gq_var (pv 3)) (gq_var (pv 5))) (ge_q (qMul (gq_var (pv 4)) (gq_var (pv 6))))))))) (gss_one (gs_ret (ge_take (pv 2))))))
theorem sc_poly_of_like : FnScope ["n", "high", "found", "j"] ["n", "high"] (defScope s_poly_of_like) := ⟨rfl, rfl, rfl, by decide +kernel, rfl, by decide +kernel, by decide +kernel⟩
theorem ok_poly_of_like (T : Txt K mg) : Def P w K mg base "poly_of_like" 2 ["n", "high"] [] den_poly_of_like := by
  have h_terms_product := ok_terms_product (P := P) (w := w) (base := base) T
  exact Def.of T.o_poly_of_like sc_poly_of_like (by decide) (by decide) fun f cdv A outer s H E Ex hr gd hE => (gss_cons (sSet (i := 2) sc_poly_of_like.nd rfl (.inl rfl) (ge_lst (ga_cons (ge_q qI) (ga_cons (ge_q qI) ga_nil)))) (gss_cons (gs_for (passes_of rfl) rfl (gi_range2 (by rfl) T.b_range (ga_cons (ge_q qI) (ga_cons (ge_share (pv 0)) ga_nil))) (gg_name (pg_name (i := 3) sc_poly_of_like.nd rfl (.inl rfl))) (gss_one (sSet (i := 2) sc_poly_of_like.nd rfl (.inl rfl) (vCall h_terms_product hr (by decide) gd (letx_body hE) (gr_val (ge_share (pv 2)) (gr_val (ge_lst (ga_cons (ge_q (gq_neg (qAdd (qMul (gq_var (pv 0)) (gq_var (pv 1))) (gq_var (pv 3))))) (ga_cons (ge_q qI) ga_nil))) gr_nil)) (len_cons (len_cons len_nil)))))) (gss_one (gs_ret (ge_take (pv 2))))))
theorem sc_raw_run_poly : FnScope ["n", "low", "high", "first", "last"] ["n", "low", "high"] (defScope s_raw_run_poly) := ⟨rfl, rfl, rfl, by decide +kernel, rfl, by decide +kernel, by decide +kernel⟩
theorem ok_raw_run_poly (T : Txt K mg) : Def P w K mg base "raw_run_poly" 3 ["n", "low", "high"] [] den_raw_run_poly := by
  have h_trimmed := ok_trimmed (P := P) (w := w) (base := base) T
  have h_poly_of_like := ok_poly_of_like (P := P) (w := w) (base := base) T
  exact Def.of T.o_raw_run_poly sc_raw_run_poly (by decide) (by decide) fun f cdv A outer s H E Ex hr gd hE => (gss_cons (sPar (i := 3) (j := 4) rfl sc_raw_run_poly.nd rfl rfl (by decide) rfl rfl (ga_cons (ge_q (qSub qI (gq_var (pv 1)))) (ga_cons (ge_q (qAdd (gq_var (pv 2)) qI)) ga_nil))) (gss_cons (gs_if (tEq hr (gq_var (pv 3)) (gq_var (pv 4))) (gss_one (gs_ret (vCall h_trimmed hr (by decide) gd (letx_body hE) (gr_val (vCall h_poly_of_like hr (by decide) gd (letx_body hE) (gr_val (ge_share (pv 0)) (gr_val (ge_take (pv 2)) gr_nil)) (len_cons (len_cons len_nil))) gr_nil) (len_cons len_nil)))) gss_nil) (gss_one gs_never)))
theorem sc_run_poly : FnScope ["n", "low", "high"] ["n", "low", "high"] (defScope s_run_poly) := ⟨rfl, rfl, rfl, by decide +kernel, rfl, by decide +kernel, by decide +kernel⟩
theorem ok_run_poly (T : Txt K mg) : Def P w K mg base "run_poly" 5 ["n", "low", "high"] [] den_run_poly := by
  have h_check_ruled := ok_check_ruled (P := P) (w := w) (base := base) T
  have h_raw_run_poly := ok_raw_run_poly (P := P) (w := w) (base := base) T
  exact Def.of T.o_run_poly sc_run_poly (by decide) (by decide) fun f cdv A outer s H E Ex hr gd hE => (gss_cons (gs_expr (vCall h_check_ruled hr (by decide) gd (letx_body hE) (gr_val (ge_share (pv 0)) (gr_val (ge_share (pv 1)) (gr_val (ge_share (pv 2)) gr_nil))) (len_cons (len_cons (len_cons len_nil))))) (gss_one (gs_ret (vCall h_raw_run_poly hr (by decide) gd (letx_body hE) (gr_val (ge_take (pv 0)) (gr_val (ge_take (pv 1)) (gr_val (ge_take (pv 2)) gr_nil))) (len_cons (len_cons (len_cons len_nil)))))))
theorem sc__law_is_right : FnScope ["hand", "roots", "poly", "others_own", "root", "more", "n", "high", "due", "at", "j"] ["hand"] (defScope s__law_is_right) := ⟨rfl, rfl, rfl, by decide +kernel, rfl, by decide +kernel, by decide +kernel⟩
theorem ok__law_is_right (T : Txt K mg) : Def P w K mg base "_law_is_right" 6 ["hand"] [0] den__law_is_right := by
  have h__law_any := ok__law_any (P := P) (w := w) (base := base) T
  have h__law_draw := ok__law_draw (P := P) (w := w) (base := base) T
  have h__law_times := ok__law_times (P := P) (w := w) (base := base) T
  have h_product_row := ok_product_row (P := P) (w := w) (base := base) T
  have h_run_poly := ok_run_poly (P := P) (w := w) (base := base) T
  exact Def.of T.o__law_is_right sc__law_is_right (by decide) (by decide) fun f cdv A outer s H E Ex hr gd hE => (gss_cons (gs_setLc (i := 1) (own := [("at", 9)]) rfl sc__law_is_right.nd rfl rfl (sw_true rfl rfl rfl (by decide +kernel)) (gi_range1 (by rfl) T.b_range (ga_cons (vCall h__law_draw hr (by decide) gd (letx_body hE) (gr_ref (pv 0) (gr_val (ge_q qI) gr_nil)) (len_consR (len_cons len_nil))) ga_nil)) (blkOk_by (N := ["hand", "roots", "poly", "others_own", "root", "more", "n", "high", "due", "at", "j"]) (sc := defScope s__law_is_right) (by decide +kernel)) (fun _ _ _ _ _ => (gg_name (pg_name (i := 9) sc__law_is_right.nd rfl (.inl rfl)))) (fun _ _ _ _ _ => gts_nil) (fun _ _ _ _ _ => (vCall h__law_any hr (by decide) gd (letx_blk rfl) (gr_ref (pv 0) (gr_val (ge_lst (ga_cons (ge_q qI) (ga_cons (ge_q qI) (ga_cons (ge_q qI) (ga_cons (ge_q qI) (ga_cons (ge_q qI) (ga_cons (ge_q qI) (ga_cons (ge_q qI) ga_nil)))))))) gr_nil)) (len_consR (len_cons len_nil))))) (gss_cons (sSet (i := 2) sc__law_is_right.nd rfl (.inl rfl) (ge_tup (ga_cons (vCall h__law_any hr (by decide) gd (letx_body hE) (gr_ref (pv 0) (gr_val (ge_lst (ga_cons (ge_q qI) (ga_cons (ge_q (gq_neg qI)) (ga_cons (ge_q qI) ga_nil)))) gr_nil)) (len_consR (len_cons len_nil))) ga_nil))) (gss_cons (gs_setLc (i := 3) (own := [("at", 9)]) rfl sc__law_is_right.nd rfl rfl (sw_true rfl rfl rfl (by decide +kernel)) (gi_range1 (by rfl) T.b_range (ga_cons (vCall h__law_draw hr (by decide) gd (letx_body hE) (gr_ref (pv 0) (gr_val (ge_q qI) gr_nil)) (len_consR (len_cons len_nil))) ga_nil)) (blkOk_by (N := ["hand", "roots", "poly", "others_own", "root", "more", "n", "high", "due", "at", "j"]) (sc := defScope s__law_is_right) (by decide +kernel)) (fun _ _ _ _ _ => (gg_name (pg_name (i := 9) sc__law_is_right.nd rfl (.inl rfl)))) (fun _ _ _ _ _ => gts_nil) (fun _ _ _ _ _ => (vCall h__law_any hr (by decide) gd (letx_blk rfl) (gr_ref (pv 0) (gr_val (ge_lst (ga_cons (ge_q (gq_neg qI)) (ga_cons (ge_q (gq_neg qI)) (ga_cons (ge_q qI) (ga_cons (ge_q qI) ga_nil))))) gr_nil)) (len_consR (len_cons len_nil))))) (gss_cons (gs_for (passes_of rfl) rfl (gi_seq (vAdd (ge_share (pv 1)) (ge_take (pv 3)))) (gg_name (pg_name (i := 4) sc__law_is_right.nd rfl (.inl rfl))) (gss_one (sSet (i := 2) sc__law_is_right.nd rfl (.inl rfl) (vCall h__law_times hr (by decide) gd (letx_body hE) (gr_val (ge_share (pv 2)) (gr_val (ge_tup (ga_cons (ge_q (qSub qI (gq_var (pv 4)))) (ga_cons (ge_q qI) ga_nil))) gr_nil)) (len_cons (len_cons len_nil)))))) (gss_cons (sSet (i := 5) sc__law_is_right.nd rfl (.inl rfl) (vCall h__law_any hr (by decide) gd (letx_body hE) (gr_ref (pv 0) (gr_val (ge_lst (ga_cons (ge_tup (ga_cons (ge_q qI) ga_nil)) (ga_cons (ge_tup (ga_cons (ge_q qI) (ga_cons (ge_q qI) (ga_cons (ge_q qI) ga_nil)))) (ga_cons (ge_tup (ga_cons (ge_q qI) (ga_cons (ge_q qI) (ga_cons (ge_q qI) ga_nil)))) (ga_cons (ge_tup (ga_cons (ge_q (gq_neg qI)) (ga_cons (ge_q qI) ga_nil))) (ga_cons (ge_tup (ga_cons (ge_q qI) (ga_cons (ge_q qI) (ga_cons (ge_q qI) ga_nil)))) ga_nil)))))) gr_nil)) (len_consR (len_cons len_nil)))) (gss_cons (gs_if (wNe hr (vRepr gd hr T.b_repr (ga_cons (vCall h_product_row hr (by decide) gd (letx_body hE) (gr_val (vCall h__law_times hr (by decide) gd (letx_body hE) (gr_val (ge_share (pv 2)) (gr_val (ge_share (pv 5)) gr_nil)) (len_cons (len_cons len_nil))) gr_nil) (len_cons len_nil)) ga_nil)) (vRepr gd hr T.b_repr (ga_cons (vTup T.b_tuple (ga_cons (vSorted T.b_sorted (ga_cons (ge_share (pv 1)) ga_nil)) ga_nil)) ga_nil))) (gss_one (gs_ret (ge_q qB))) gss_nil) (gss_cons (gs_asg (ge_tup (ga_cons (vAdd (ge_q qI) (vCall h__law_draw hr (by decide) gd (letx_body hE) (gr_ref (pv 0) (gr_val (ge_q qI) gr_nil)) (len_consR (len_cons len_nil)))) (ga_cons (vCall h__law_draw hr (by decide) gd (letx_body hE) (gr_ref (pv 0) (gr_val (ge_q qI) gr_nil)) (len_consR (len_cons len_nil))) ga_nil))) (gg_tup rfl (ggs_cons (gg_name (pg_name (i := 6) sc__law_is_right.nd rfl (.inr rfl))) (ggs_cons (gg_name (pg_name (i := 7) sc__law_is_right.nd rfl (.inr rfl))) ggs_nil)))) (gss_cons (sSet (i := 8) sc__law_is_right.nd rfl (.inl rfl) (vTup T.b_tuple (ga_cons (vAdd (ge_lst (ga_cons (ge_q qI) ga_nil)) (ge_lc (own := [("j", 10)]) rfl sc__law_is_right.nd (gi_range2 (by rfl) T.b_range (ga_cons (ge_q qI) (ga_cons (ge_share (pv 6)) ga_nil))) (blkOk_by (N := ["hand", "roots", "poly", "others_own", "root", "more", "n", "high", "due", "at", "j"]) (sc := defScope s__law_is_right) (by decide +kernel)) (fun _ _ _ _ _ => (gg_name (pg_name (i := 10) sc__law_is_right.nd rfl (.inl rfl)))) (fun _ _ _ _ _ => gts_nil) (fun _ _ _ _ _ => (ge_q (qAdd (qMul (gq_var (pv 6)) (gq_var (pv 7))) (gq_var (pv 10))))))) ga_nil))) (gss_one (gs_ret (vEq hr (vRepr gd hr T.b_repr (ga_cons (vCall h_product_row hr (by decide) gd (letx_body hE) (gr_val (vCall h_run_poly hr (by decide) gd (letx_body hE) (gr_val (ge_take (pv 6)) (gr_val (ge_q (qSub qI (gq_var (pv 7)))) (gr_val (ge_share (pv 7)) gr_nil))) (len_cons (len_cons (len_cons len_nil)))) gr_nil) (len_cons len_nil)) ga_nil)) (vRepr gd hr T.b_repr (ga_cons (ge_take (pv 8)) ga_nil)))))))))))))
theorem sc_law : FnScope ["script", "hand", "lap_on"] ["script"] (defScope s_law) := ⟨rfl, rfl, rfl, by decide +kernel, rfl, by decide +kernel, by decide +kernel⟩
theorem ok_law (T : Txt K mg) : Def P w K mg base "law" 7 ["script"] [] den_law := by
  have h__law_hand := ok__law_hand (P := P) (w := w) (base := base) T
  have h_product_row := ok_product_row (P := P) (w := w) (base := base) T
  have h__law_is_right := ok__law_is_right (P := P) (w := w) (base := base) T
  exact Def.of T.o_law sc_law (by decide) (by decide) fun f cdv A outer s H E Ex hr gd hE => (gss_cons (sSet (i := 1) sc_law.nd rfl (.inr rfl) (vCall h__law_hand hr (by decide) gd (letx_body hE) (gr_val (ge_take (pv 0)) gr_nil) (len_cons len_nil))) (gss_cons (gs_if (wNe hr (vCall h_product_row hr (by decide) gd (letx_body hE) (gr_val (ge_tup (ga_cons (ge_q qI) (ga_cons (ge_q qI) (ga_cons (ge_q (gq_neg qI)) (ga_cons (ge_q qI) ga_nil))))) gr_nil) (len_cons len_nil)) (ge_tup (ga_cons (ge_q qI) (ga_cons (ge_q qI) (ga_cons (ge_q qI) ga_nil))))) (gss_one (gs_ret (ge_q qB))) gss_nil) (gss_cons (gs_if (wNe hr (vCall h_product_row hr (by decide) gd (letx_body hE) (gr_val (ge_tup (ga_cons (ge_q qI) (ga_cons (ge_q (gq_neg qI)) (ga_cons (ge_q qI) ga_nil)))) gr_nil) (len_cons len_nil)) (ge_tup (ga_cons (ge_q qI) (ga_cons (ge_q qI) ga_nil)))) (gss_one (gs_ret (ge_q qB))) gss_nil) (gss_cons (gs_if (wNe hr (vCall h_product_row hr (by decide) gd (letx_body hE) (gr_val (ge_tup (ga_cons (ge_q qI) (ga_cons (ge_q qI) (ga_cons (ge_q qI) ga_nil)))) gr_nil) (len_cons len_nil)) (ge_tup ga_nil)) (gss_one (gs_ret (ge_q qB))) gss_nil) (gss_cons (gs_if (wNe hr (vCall h_product_row hr (by decide) gd (letx_body hE) (gr_val (ge_tup (ga_cons (ge_q qI) ga_nil)) gr_nil) (len_cons len_nil)) (ge_tup ga_nil)) (gss_one (gs_ret (ge_q qB))) gss_nil) (gss_one (gs_ret (vAll rfl T.b_all (ga_cons (ge_lc (own := [("lap_on", 2)]) rfl sc_law.nd (gi_range1 (by rfl) T.b_range (ga_cons (ge_q qI) ga_nil)) (blkOk_by (N := ["script", "hand", "lap_on"]) (sc := defScope s_law) (by decide +kernel)) (fun _ _ _ _ _ => (gg_name (pg_name (i := 2) sc_law.nd rfl (.inl rfl)))) (fun _ _ _ _ _ => gts_nil) (fun _ _ _ _ _ => (vCall h__law_is_right hr (by decide) gd (letx_blk rfl) (gr_ref (pv 1) gr_nil) (len_consR len_nil)))) ga_nil)))))))))
end

end K74
namespace K74
open PySem L2 DL

/-! ### polynomials by their numbers, the least power first -/
def ml (r : Int) (p : List Int) : List Int := List.zipWith (fun s t => s - t * r) (0 :: p) (p ++ [0])
def ev : List Int → Int → Int
  | [], _ => 0
  | a :: p, x => a + x * ev p x
/-- going down from the greatest power -/
def hs (r : Int) : Int → List Int → List Int
  | _, [] => []
  | c, t :: ts => (c * r + t) :: hs r (c * r + t) ts
theorem ml_len (r : Int) (p : List Int) : (ml r p).length = p.length + 1 := by simp [ml]
theorem hs_len (r : Int) : ∀ (ts : List Int) (c : Int), (hs r c ts).length = ts.length
  | [], _ => rfl
  | t :: ts, c => by simp [hs, hs_len r ts]
theorem hs_lin (r : Int) : ∀ (xs : List Int) (c : Int), hs r c (List.zipWith (fun s t => s - t * r) (xs ++ [0]) (c :: xs)) = xs ++ [0]
  | [], c => by
    simp [hs]
    omega
  | t :: ts, c => by
    simp only [List.cons_append, List.zipWith_cons_cons, hs]
    have e : c * r + (t - c * r) = t := by omega
    rw [e, hs_lin r ts t]
theorem zw_rev {f : Int → Int → Int} : ∀ {xs ys : List Int}, xs.length = ys.length → (List.zipWith f xs ys).reverse = List.zipWith f xs.reverse ys.reverse
  | [], [], _ => rfl
  | [], _ :: _, h => by simp at h
  | _ :: _, [], h => by simp at h
  | x :: xs, y :: ys, h => by
    have h2 : xs.length = ys.length := by simpa using h
    simp only [List.reverse_cons, List.zipWith_cons_cons]
    rw [List.zipWith_append (by simpa using h2), zw_rev h2]
    rfl
theorem ml_rev (r : Int) (p : List Int) : (ml r p).reverse = List.zipWith (fun s t => s - t * r) (p.reverse ++ [0]) (0 :: p.reverse) := by
  unfold ml
  rw [zw_rev (by simp)]
  simp
/-- what is divided by its root -/
theorem hs_ml (r : Int) (p : List Int) : hs r 0 (ml r p).reverse = p.reverse ++ [0] := by
  rw [ml_rev]
  exact hs_lin r p.reverse 0
theorem hs_last (r : Int) : ∀ (ts : List Int) (c : Int), (hs r c ts).getLast? = if ts = [] then none else some (ts.foldl (fun c t => c * r + t) c)
  | [], c => rfl
  | [t], c => by simp [hs]
  | t :: t2 :: ts, c => by
    have ih := hs_last r (t2 :: ts) (c * r + t)
    simp only [hs] at ih ⊢
    rw [List.getLast?_cons_cons, ih]
    simp
theorem ev_fold (r : Int) : ∀ p : List Int, p.reverse.foldl (fun c t => c * r + t) 0 = ev p r := fun p => by
  rw [List.foldl_reverse]
  induction p with
  | nil => rfl
  | cons a p ih =>
    simp only [List.foldr_cons, ih, ev]
    rw [Int.mul_comm, Int.add_comm]
theorem ev_lin (s r : Int) : ∀ (p : List Int) (c : Int), ev (List.zipWith (fun a t => a - t * s) (c :: p) (p ++ [0])) r = c + (r - s) * ev p r
  | [], c => by simp [ev]
  | t :: p, c => by
    simp only [List.cons_append, List.zipWith_cons_cons, ev]
    rw [ev_lin s r p t]
    generalize ev p r = E
    have e1 : r * (t + (r - s) * E) = r * t + r * ((r - s) * E) := Int.mul_add ..
    have e2 : (r - s) * (t + r * E) = (r - s) * t + (r - s) * (r * E) := Int.mul_add ..
    have e3 : (r - s) * t = r * t - s * t := Int.sub_mul ..
    have e4 : r * ((r - s) * E) = (r - s) * (r * E) := by rw [← Int.mul_assoc, ← Int.mul_assoc, Int.mul_comm r (r - s)]
    have e5 : t * s = s * t := Int.mul_comm ..
    rw [e1, e2, e3, e4, e5]
    omega
theorem ev_ml (s r : Int) (p : List Int) : ev (ml s p) r = (r - s) * ev p r := by
  unfold ml
  rw [ev_lin]
  omega
/-- the numbers, 0 behind them -/
def cf (p : List Int) (k : Nat) : Int := p.getD k 0
theorem cf_len {p : List Int} {k : Nat} (h : p.length ≤ k) : cf p k = 0 := by
  unfold cf
  simp [h]
theorem cf_ext {p q : List Int} (hl : p.length = q.length) (h : ∀ k, cf p k = cf q k) : p = q := by
  apply List.ext_getElem hl
  intro k h1 h2
  have := h k
  unfold cf at this
  simpa [h1, h2] using this
theorem cf_ml (r : Int) (p : List Int) (k : Nat) : cf (ml r p) k = (if k = 0 then 0 else cf p (k - 1)) - cf p k * r := by
  by_cases hk : k < p.length + 1
  · unfold cf ml
    have h1 : k < (List.zipWith (fun s t => s - t * r) (0 :: p) (p ++ [0])).length := by simp; omega
    rw [List.getD_eq_getElem?_getD, List.getElem?_eq_getElem h1]
    simp only [List.getElem_zipWith, Option.getD_some]
    congr 1
    · cases k with
      | zero => simp
      | succ k =>
        have : k < p.length := by omega
        simp [this]
    · congr 1
      by_cases h2 : k < p.length
      · rw [List.getElem_append_left h2]
        simp [h2]
      · rw [List.getElem_append_right (by omega)]
        have : k = p.length := by omega
        subst this
        simp
  · rw [cf_len (by rw [ml_len]; omega), cf_len (p := p) (k := k) (by omega)]
    rw [if_neg (by omega), cf_len (by omega)]
    simp
/-- the product with a short one -/
def IsProd (p q c : List Int) : Prop := c.length = p.length + q.length - 1 ∧ ∀ k, cf c k = cf p k * cf q 0 + (if 1 ≤ k then cf p (k - 1) * cf q 1 else 0) + (if 2 ≤ k then cf p (k - 2) * cf q 2 else 0)
theorem IsProd.uniq {p q c d : List Int} (h : IsProd p q c) (h' : IsProd p q d) : c = d := cf_ext (h.1.trans h'.1.symm) fun k => (h.2 k).trans (h'.2 k).symm
theorem prod_lin (r : Int) {p : List Int} (h : 0 < p.length) : IsProd p [-r, 1] (ml r p) := by
  refine ⟨by rw [ml_len]; simp, fun k => ?_⟩
  rw [cf_ml]
  simp only [cf, List.getD_cons_zero, List.getD_cons_succ, List.getD_nil]
  have e : p.getD k 0 * -r = -(p.getD k 0 * r) := Int.mul_neg ..
  rw [e]
  by_cases hk : k = 0
  · subst hk
    simp
  · rw [if_neg hk, if_pos (by omega)]
    simp
    omega
/-- a factor goes through -/
theorem prod_ml {r : Int} {p q c : List Int} (hq : 0 < q.length) (h : IsProd p q c) (hp : 0 < p.length) : IsProd (ml r p) q (ml r c) := by
  refine ⟨by rw [ml_len, ml_len, h.1]; omega, fun k => ?_⟩
  have h0 := h.2 k
  have h1 := h.2 (k - 1)
  rw [cf_ml, h0]
  simp only [cf_ml]
  generalize cf q 0 = a at *
  generalize cf q 1 = b at *
  generalize cf q 2 = d at *
  rcases Nat.lt_or_ge k 1 with hk | hk
  · obtain rfl : k = 0 := by omega
    simp
    have := Int.mul_right_comm (cf p 0) a r
    rw [Int.mul_right_comm]
    simp [Int.neg_mul]
  · rw [if_neg (by omega : ¬ k = 0), h1]
    rw [if_pos hk]
    rcases Nat.lt_or_ge k 2 with hk2 | hk2
    · obtain rfl : k = 1 := by omega
      simp
      generalize cf p 0 = x
      generalize cf p 1 = y
      simp only [Int.sub_mul, Int.add_mul, Int.neg_mul, Int.mul_right_comm _ a r, Int.mul_right_comm _ b r]
      omega
    · rw [if_pos hk2, if_neg (by omega : ¬ k - 1 = 0), if_neg (by omega : ¬ k = 0), if_pos (by omega : 1 ≤ k - 1)]
      rw [show k - 1 - 1 = k - 2 by omega]
      rcases Nat.lt_or_ge k 3 with hk3 | hk3
      · obtain rfl : k = 2 := by omega
        simp
        generalize cf p 0 = x
        generalize cf p 1 = y
        generalize cf p 2 = z
        simp only [Int.sub_mul, Int.add_mul, Int.neg_mul, Int.mul_right_comm _ a r, Int.mul_right_comm _ b r, Int.mul_right_comm _ d r]
        omega
      · rw [if_neg (by omega : ¬ k - 2 = 0), if_pos (by omega : 2 ≤ k - 1)]
        rw [show k - 1 - 2 = k - 2 - 1 by omega]
        simp only [Int.sub_mul, Int.add_mul, Int.mul_right_comm _ a r, Int.mul_right_comm _ b r, Int.mul_right_comm _ d r]
        omega
theorem ml_comm (r s : Int) (p : List Int) : ml r (ml s p) = ml s (ml r p) := by
  refine cf_ext (by simp [ml_len]) fun k => ?_
  simp only [cf_ml]
  rcases Nat.lt_or_ge k 1 with hk | hk
  · obtain rfl : k = 0 := by omega
    simp only [if_true, Int.zero_sub, Int.neg_mul, Int.mul_right_comm _ s r]
  · rw [if_neg (by omega : ¬ k = 0), if_neg (by omega : ¬ k = 0)]
    rcases Nat.lt_or_ge k 2 with hk2 | hk2
    · obtain rfl : k = 1 := by omega
      simp
      simp only [Int.sub_mul, Int.neg_mul, Int.mul_right_comm _ s r]
      omega
    · rw [if_neg (by omega : ¬ k - 1 = 0)]
      simp only [Int.sub_mul, Int.mul_right_comm _ s r]
      omega
def mk (rs G : List Int) : List Int := rs.foldr ml G
theorem mk_perm {rs ss G : List Int} (p : rs.Perm ss) : mk rs G = mk ss G := by
  unfold mk
  exact p.foldr_eq' (fun x _ y _ z => ml_comm y x z) G
theorem mk_len (rs G : List Int) : (mk rs G).length = rs.length + G.length := by
  induction rs with
  | nil => simp [mk]
  | cons r rs ih =>
    show (ml r (mk rs G)).length = _
    rw [ml_len, ih]
    simp
    omega
theorem prod_mk {rs p q c : List Int} (hq : 0 < q.length) (hp : 0 < p.length) (h : IsProd p q c) : IsProd (mk rs p) q (mk rs c) := by
  induction rs with
  | nil => exact h
  | cons r rs ih => exact prod_ml hq ih (show 0 < (mk rs p).length by rw [mk_len]; omega)
/-- greatest number -/
def Bd (B : Nat) (p : List Int) : Prop := ∀ k, (cf p k).natAbs ≤ B
theorem Bd.mem {B : Nat} {p : List Int} (h : Bd B p) : ∀ x ∈ p, x.natAbs ≤ B := fun x hx => by
  obtain ⟨k, hk, rfl⟩ := List.mem_iff_getElem.mp hx
  have := h k
  unfold cf at this
  simpa [hk] using this
theorem Bd.of {B : Nat} {p : List Int} (h : ∀ x ∈ p, x.natAbs ≤ B) : Bd B p := fun k => by
  unfold cf
  by_cases hk : k < p.length
  · simp only [List.getD_eq_getElem?_getD, List.getElem?_eq_getElem hk, Option.getD_some]
    exact h _ (List.getElem_mem hk)
  · simp [show p.length ≤ k by omega]
theorem Bd.mono {B C : Nat} {p : List Int} (h : Bd B p) (hc : B ≤ C) : Bd C p := fun k => Nat.le_trans (h k) hc
theorem bd_ml {B : Nat} {r : Int} {p : List Int} (h : Bd B p) : Bd (B * (1 + r.natAbs)) (ml r p) := fun k => by
  rw [cf_ml]
  have h1 := h (k - 1)
  have h2 := h k
  have h3 : (cf p k * r).natAbs ≤ B * r.natAbs := by
    rw [Int.natAbs_mul]
    exact Nat.mul_le_mul_right _ h2
  have e : B * (1 + r.natAbs) = B + B * r.natAbs := by rw [Nat.mul_add, Nat.mul_one]
  split <;> omega
theorem bd_prod {B : Nat} {p q c : List Int} (h : IsProd p q c) (hb : Bd B p) : Bd (B * ((cf q 0).natAbs + (cf q 1).natAbs + (cf q 2).natAbs)) c := fun k => by
  rw [h.2 k]
  have t : ∀ (i j : Nat), (cf p i * cf q j).natAbs ≤ B * (cf q j).natAbs := fun i j => by
    rw [Int.natAbs_mul]
    exact Nat.mul_le_mul_right _ (hb i)
  have h0 := t k 0
  have h1 := t (k - 1) 1
  have h2 := t (k - 2) 2
  have e : B * ((cf q 0).natAbs + (cf q 1).natAbs + (cf q 2).natAbs) = B * (cf q 0).natAbs + B * (cf q 1).natAbs + B * (cf q 2).natAbs := by rw [Nat.mul_add, Nat.mul_add]
  split <;> split <;> omega
theorem bd_mk {B : Nat} {G : List Int} (M : Nat) (hG : Bd B G) : ∀ {rs : List Int}, (∀ r ∈ rs, r.natAbs ≤ M) → Bd (B * (1 + M) ^ rs.length) (mk rs G)
  | [], _ => by simpa [mk] using hG
  | r :: rs, h => by
    have ih := bd_mk M hG (rs := rs) fun x hx => h x (List.mem_cons_of_mem _ hx)
    have := bd_ml (r := r) ih
    refine Bd.mono (show Bd _ (ml r (mk rs G)) from this) ?_
    rw [List.length_cons, Nat.pow_succ, ← Nat.mul_assoc]
    exact Nat.mul_le_mul_left _ (by have := h r List.mem_cons_self; omega)
/-- the number of the greatest power -/
def lead (p : List Int) : Int := cf p (p.length - 1)
theorem lead_ml {r : Int} {p : List Int} (h : 0 < p.length) : lead (ml r p) = lead p := by
  unfold lead
  rw [ml_len, Nat.add_sub_cancel, cf_ml, if_neg (by omega), cf_len (Nat.le_refl _)]
  simp
theorem lead_mk {rs G : List Int} (h : 0 < G.length) : lead (mk rs G) = lead G := by
  induction rs with
  | nil => rfl
  | cons r rs ih =>
    show lead (ml r (mk rs G)) = _
    rw [lead_ml (by rw [mk_len]; omega), ih]
theorem ev_mk {x : Int} {G : List Int} : ∀ {rs : List Int}, ev (mk rs G) x = (rs.map (x - ·)).foldr (· * ·) 1 * ev G x
  | [] => by simp [mk]
  | r :: rs => by
    show ev (ml r (mk rs G)) x = _
    rw [ev_ml, ev_mk]
    simp only [List.map_cons, List.foldr_cons]
    rw [Int.mul_assoc]
theorem ev_ne {x : Int} {rs G : List Int} (h : ev G x ≠ 0) (hr : x ∉ rs) : ev (mk rs G) x ≠ 0 := by
  induction rs with
  | nil => exact h
  | cons r rs ih =>
    show ev (ml r (mk rs G)) x ≠ 0
    rw [ev_ml]
    refine Int.mul_ne_zero ?_ (ih fun z => hr (List.mem_cons_of_mem _ z))
    intro z
    exact hr (by rw [show x = r by omega]; exact List.mem_cons_self)
end K74
namespace K74
open PySem L2 DL
theorem c_is_integer (i : Int) : den_is_integer [.int i] = .ok (.bl true) [] := by rfl
theorem atI_last' {p : List Int} (h : 0 < p.length) : atI (zs p) (-1) = some (.int (lead p)) := by
  obtain ⟨q, x, rfl⟩ : ∃ q x, p = q ++ [x] := ⟨p.dropLast, p.getLast (List.ne_nil_of_length_pos h), (List.dropLast_concat_getLast _).symm⟩
  unfold zs
  rw [List.map_append]
  have := atI_last (q.map D.int) (D.int x)
  rw [show ([x].map D.int) = [D.int x] from rfl, this]
  unfold lead cf
  simp
theorem c_is_poly {p : List Int} (h1 : 1 ≤ p.length) (h2 : p.length ≤ 40) (h3 : ∀ x ∈ p, x.natAbs < 1000000000000000000000000000000) (h4 : lead p ≠ 0) : den_is_poly [.tup (zs p)] = .ok (.bl true) [] := by
  unfold den_is_poly
  refine den_rt (e := [some (.tup (zs p)), none]) ?_ rfl
  show mSeq _ _ [some (.tup (zs p)), none] = _
  have sh : mShare 0 [some (.tup (zs p)), none] = .ok (.tup (zs p)) [some (.tup (zs p)), none] := by simp [mShare, pV, D.frz]
  have it : mIter (mShare 0) [some (.tup (zs p)), none] = .ok (zs p) [some (.tup (zs p)), none] := by
    unfold mIter
    rw [bind_ok sh]
    simp [D.iter, M.opt]
  have e0 : d_is_poly_0 [some (.tup (zs p)), none] = .ok .nx [some (.tup (zs p)), none] := by
    unfold d_is_poly_0
    rw [if_f (e' := [some (.tup (zs p)), none])]
    · rfl
    · refine or_f (not_of (pB_of (b := true) rfl)) (or_f (not_of (pB_of (b := true) ?_)) (not_of (b := true) (tf_of (app1_of (comp_of it (compM_map (e0 := [some (.tup (zs p)), none]) (fun _ => .bl true) (fun x hx => ?_) rfl)) ?_))))
      · rw [chainLe rfl (pA_of rfl (by rfl)) rfl]
        simp
        omega
      · obtain ⟨i, hi, rfl⟩ := List.mem_map.mp hx
        refine ⟨_, _, [some (.tup (zs p)), some (.int i)], rfl, rfl, call1_of (d := .int i) (e' := [some (.tup (zs p)), some (.int i)]) (by simp [mShare, pV]) ?_, rfl⟩
        simp only [frz_int]
        exact c_is_integer i
      · simp only [List.nil_append]
        rw [map_cst]
        exact map_bl _
  rw [seq_nx e0]
  have e1 : d_is_poly_1 [some (.tup (zs p)), none] = .ok .nx [some (.tup (zs p)), none] := by
    unfold d_is_poly_1
    rw [if_f (e' := [some (.tup (zs p)), none])]
    · rfl
    · refine tf_of (app1_of (comp_of it (compM_map (e0 := [some (.tup (zs p)), none]) (fun _ => .bl false) (fun x hx => ?_) rfl)) ?_)
      · obtain ⟨i, hi, rfl⟩ := List.mem_map.mp hx
        have := h3 i hi
        have hb : pOp iGe (pApp D.absI (pV 1)) (pK (.int 1000000000000000000000000000000)) [some (.tup (zs p)), some (.int i)] = some (.bl false) := by
          refine pO_of (pA_of rfl rfl) rfl ?_
          simp
          split <;> omega
        refine ⟨_, _, [some (.tup (zs p)), some (.int i)], rfl, rfl, ?_, rfl⟩
        unfold mP
        simp only [gN, List.set_cons_succ, List.set_cons_zero]
        rw [hb]
        rfl
      · simp only [List.nil_append]
        rw [map_cst]
        exact map_blf _
  rw [seq_nx e1]
  unfold d_is_poly_2
  refine ret_ok ?_
  unfold mOrV
  have e2 : mP (pOp gNe (pOp D.ix (pV 0) (pUn negD (pK (.int 1)))) (pK (.int 0))) [some (.tup (zs p)), none] = .ok (.bl true) [some (.tup (zs p)), none] := by
    have : pOp gNe (pOp D.ix (pV 0) (pUn negD (pK (.int 1)))) (pK (.int 0)) [some (.tup (zs p)), none] = some (.bl true) := by
      refine pO_of (pO_of rfl rfl (show atI (zs p) (-1) = _ from atI_last' h1)) rfl ?_
      simp [h4]
    unfold mP
    rw [this]
    rfl
  rw [bind_ok e2]
  rfl
end K74
namespace K74
open PySem L2 DL
theorem c_check_poly {p : List Int} (h1 : 1 ≤ p.length) (h2 : p.length ≤ 40) (h3 : ∀ x ∈ p, x.natAbs < 1000000000000000000000000000000) (h4 : lead p ≠ 0) : den_check_poly [.tup (zs p)] = .ok .non [] := by
  unfold den_check_poly
  refine den_nx (e := [some (.tup (zs p))]) ?_ rfl
  show d_check_poly_0 [some (.tup (zs p))] = _
  unfold d_check_poly_0
  rw [if_f (e' := [some (.tup (zs p))])]
  · rfl
  · refine not_of (b := true) (tf_of (call1_of (d := .tup (zs p)) (by simp [mShare, pV, D.frz]) ?_))
    have := c_is_poly h1 h2 h3 h4
    simpa [D.frz] using this
/-! ### division by a root -/
theorem backD_map {α β : Type} (f : α → β) (xs : List α) (lo : Option Int) : backD (xs.map f) lo = (backD xs lo).map f := by
  unfold backD
  rw [List.length_map]
  generalize backIx xs.length lo = js
  induction js with
  | nil => rfl
  | cons j js ih =>
    simp only [List.filterMap_cons, List.getElem?_map] at ih ⊢
    rw [ih]
    cases xs[j]? <;> simp
theorem backIx_m2 (m : Nat) : backIx (m + 1) (some (-2)) = backIx m none := by
  unfold backIx
  rw [PySem.W.krv_bounds]
  have e : sliceBounds (some (-2)) none (some (-1)) (m + 1) = ((m : Int) - 1, -1, -1) := by
    unfold sliceBounds
    simp
    omega
  rw [e]
theorem backD_m2 {α : Type} (xs : List α) (x : α) : backD (xs ++ [x]) (some (-2)) = xs.reverse := by
  rw [← backD_none]
  unfold backD
  rw [List.length_append, List.length_singleton, backIx_m2]
  apply fm_congr
  intro j hj
  have hj2 : j < xs.length := by
    unfold backIx at hj
    rw [PySem.W.krv_bounds, PySem.W.krv_sliceRange] at hj
    obtain ⟨k, hk, rfl⟩ := List.mem_map.mp hj
    have := List.mem_range.mp hk
    omega
  rw [List.getElem?_append_left hj2]
theorem div_loop {r : Int} (hr : -(2 ^ 64) < r ∧ r < 2 ^ 64) : ∀ (q acc : List Int) (c : Int) (x : Option D), acc.length + q.length ≤ 1000 →
    loopM (gN 4) [4] (mSeq d_divided_by_root_1_0 d_divided_by_root_1_1) (zs q) [none, some (.int r), some (.lst true (zs acc)), some (.int c), x] = .ok .nx [none, some (.int r), some (.lst true (zs (acc ++ hs r c q))), some (.int (q.foldl (fun c t => c * r + t) c)), none]
  | [], acc, c, x, _ => by
    simp [loopM, kill, hs]
  | t :: q, acc, c, x, hl => by
    have e0 : d_divided_by_root_1_0 [none, some (.int r), some (.lst true (zs acc)), some (.int c), some (.int t)] = .ok .nx [none, some (.int r), some (.lst true (zs acc)), some (.int (c * r + t)), some (.int t)] := by
      unfold d_divided_by_root_1_0
      exact asg_ok (mP_of (pO_of (pO_of rfl rfl (iMul_int (cmul_r hr))) rfl rfl)) rfl
    have e1 : d_divided_by_root_1_1 [none, some (.int r), some (.lst true (zs acc)), some (.int (c * r + t)), some (.int t)] = .ok .nx [none, some (.int r), some (.lst true (zs (acc ++ [c * r + t]))), some (.int (c * r + t)), some (.int t)] := by
      have hz : (zs acc).length < sizeLine := by
        have : acc.length < 1000 := by simp at hl; omega
        have h2 := line_1000 (n := acc.length + 1) (by omega)
        simp
        omega
      simp [d_divided_by_root_1_1, mDrop, mApnd, M.andThen, pV, isLst, mShare, turnL, hz, mNext, M.ret]
      simp [zs] at hz
      simp [hz]
    show loopM _ _ _ (.int t :: zs q) _ = _
    unfold loopM
    simp only [kill, gN, List.set_cons_succ, List.set_cons_zero]
    rw [seq_nx e0, e1]
    simp only
    rw [div_loop hr q (acc ++ [c * r + t]) (c * r + t) (some (.int t)) (by simp at hl ⊢; omega)]
    simp [hs]
theorem c_div {p : List Int} {r : Int} (h1 : 0 < p.length) (h2 : p.length ≤ 900) (hr : -(2 ^ 64) < r ∧ r < 2 ^ 64) : den_divided_by_root [.tup (zs p), .int r] = .ok (.tup [.int (ev p r), .tup (zs (backD (hs r 0 p.reverse) (some (-2))))]) [] := by
  unfold den_divided_by_root
  generalize hh : hs r 0 p.reverse = H
  have Hl : H.length = p.length := by rw [← hh, hs_len, List.length_reverse]
  refine den_rt (e := [none, some (.int r), some (.lst false (zs H)), some (.int (ev p r)), none]) ?_ rfl
  show mSeq _ _ [some (.tup (zs p)), some (.int r), none, none, none] = _
  have e0 : d_divided_by_root_0 [some (.tup (zs p)), some (.int r), none, none, none] = .ok .nx [some (.tup (zs p)), some (.int r), some (.lst true []), some (.int 0), none] := by rfl
  rw [seq_nx e0]
  have e1 : d_divided_by_root_1 [some (.tup (zs p)), some (.int r), some (.lst true []), some (.int 0), none] = .ok .nx [none, some (.int r), some (.lst true (zs H)), some (.int (ev p r)), none] := by
    unfold d_divided_by_root_1 mFor
    have s : mIter (mBack none (mTake 0)) [some (.tup (zs p)), some (.int r), some (.lst true []), some (.int 0), none] = .ok (zs p.reverse) [none, some (.int r), some (.lst true []), some (.int 0), none] := by
      simp [mIter, mBack, mTake, M.andThen, pV, M.opt, backG, D.iter, D.frzL_map]
    rw [bind_ok s]
    have := div_loop hr p.reverse [] 0 none (by simp; omega)
    rw [ev_fold, List.nil_append, hh] at this
    exact this
  rw [seq_nx e1]
  unfold d_divided_by_root_2
  refine ret_ok ?_
  have hv : lead H = ev p r := by
    have h3 := hs_last r p.reverse 0
    rw [hh, ev_fold, if_neg (by simpa using List.ne_nil_of_length_pos h1)] at h3
    unfold lead cf
    rw [List.getLast?_eq_getElem?] at h3
    simp [h3]
  have v1 : mP (pOp D.ix (pV 2) (pUn negD (pK (.int 1)))) [none, some (.int r), some (.lst true (zs H)), some (.int (ev p r)), none] = .ok (.int (ev p r)) [none, some (.int r), some (.lst true (zs H)), some (.int (ev p r)), none] := by
    refine mP_of (pO_of rfl rfl ?_)
    rw [← hv]
    exact atI_last' (by omega)
  have v2 : mApp (one D.toTup) (mCons (mBack (some (-2)) (mShare 2)) (M.ret [])) [none, some (.int r), some (.lst true (zs H)), some (.int (ev p r)), none] = .ok (.tup (zs (backD H (some (-2))))) [none, some (.int r), some (.lst false (zs H)), some (.int (ev p r)), none] := by
    refine app1_of (d := .lst true (zs (backD H (some (-2))))) ?_ rfl
    simp [mBack, mShare, M.andThen, pV, M.opt, backG, D.frz, backD_map]
  exact tup_of (cons_of v1 (cons_of v2 nil_ok)) (by simp)
end K74
namespace K74
open PySem L2 DL
def LoopAt (rs G : List Int) (n : Nat) (e : DL.Env) : Prop := ∃ (done rem : List Int) (root : Int) (x3 x4 : Option D), e = [some (.tup (zs (mk rem G))), some (.lst true (zs done)), some (.int root), x3, x4] ∧ done ++ rem = rs ∧ rem.Pairwise (· ≤ ·) ∧ (∀ r ∈ rem, root ≤ r) ∧ 0 ≤ root ∧ root ≤ 401 ∧ n = (401 - root).toNat + rem.length
theorem row_step {rs G : List Int} (hG : 0 < G.length) (hl : rs.length + G.length ≤ 40) (hb : ∀ r ∈ rs, 0 ≤ r ∧ r ≤ 400) (he : ∀ x, 0 ≤ x → x ≤ 400 → ev G x ≠ 0) (n : Nat) (e : DL.Env) (h : LoopAt rs G n e) :
    (∃ e1, mAnd (mPB (pOp iLe (pV 2) (pK (.int 400)))) (mPB (pOp iGt (pApp D.len (pV 0)) (pK (.int 1)))) (kill [3, 4] e) = .ok false e1 ∧ pV 1 e1 = some (.lst true (zs rs)) ∧ e1.length = 5) ∨
    ∃ e1 e2 m, mAnd (mPB (pOp iLe (pV 2) (pK (.int 400)))) (mPB (pOp iGt (pApp D.len (pV 0)) (pK (.int 1)))) (kill [3, 4] e) = .ok true e1 ∧ (mSeq d_product_row_2_0 d_product_row_2_1 e1 = .ok .nx e2 ∨ mSeq d_product_row_2_0 d_product_row_2_1 e1 = .ok .ct e2) ∧ m < n ∧ LoopAt rs G m e2 := by
  obtain ⟨done, rem, root, x3, x4, rfl, hd, hp, hr, h0, h1, rfl⟩ := h
  have hk : kill [3, 4] [some (.tup (zs (mk rem G))), some (.lst true (zs done)), some (.int root), x3, x4] = [some (.tup (zs (mk rem G))), some (.lst true (zs done)), some (.int root), none, none] := rfl
  rw [hk]
  have hm : ∀ r ∈ rem, r ≤ 400 := fun r hr => (hb r (by rw [← hd]; exact List.mem_append_right _ hr)).2
  have hlen : rem.length ≤ rs.length := by rw [← hd]; simp
  have ml := mk_len rem G
  by_cases c1 : root ≤ 400
  · by_cases c2 : 1 < rem.length + G.length
    · right
      refine ⟨[some (.tup (zs (mk rem G))), some (.lst true (zs done)), some (.int root), none, none], ?_⟩
      have ht : mAnd (mPB (pOp iLe (pV 2) (pK (.int 400)))) (mPB (pOp iGt (pApp D.len (pV 0)) (pK (.int 1)))) [some (.tup (zs (mk rem G))), some (.lst true (zs done)), some (.int root), none, none] = .ok true [some (.tup (zs (mk rem G))), some (.lst true (zs done)), some (.int root), none, none] :=
        and_t (pB_of (pO_of rfl rfl (by simpa using c1))) (pB_of (pO_of (pA_of rfl rfl) rfl (by simp [ml]; omega)))
      have dv := c_div (p := mk rem G) (r := root) (by omega) (by omega) (by omega)
      have e0 : d_product_row_2_0 [some (.tup (zs (mk rem G))), some (.lst true (zs done)), some (.int root), none, none] = .ok .nx [some (.tup (zs (mk rem G))), some (.lst true (zs done)), some (.int root), some (.int (ev (mk rem G) root)), some (.tup (zs (backD (hs root 0 (mk rem G).reverse) (some (-2)))))] := by
        unfold d_product_row_2_0
        refine asg_ok (call2_of (d := .tup (zs (mk rem G))) (d2 := .int root) (by simp [mShare, pV, D.frz]; rfl) (by simp [mShare, pV]; rfl) (by simpa [D.frz] using dv)) ?_
        rfl
      by_cases c3 : ∃ rem', rem = root :: rem'
      · obtain ⟨rem', rfl⟩ := c3
        have z : ev (mk (root :: rem') G) root = 0 := by
          show ev (K74.ml root (mk rem' G)) root = 0
          rw [ev_ml]
          simp
        have q : backD (hs root 0 (mk (root :: rem') G).reverse) (some (-2)) = mk rem' G := by
          show backD (hs root 0 (K74.ml root (mk rem' G)).reverse) (some (-2)) = _
          rw [hs_ml, backD_m2, List.reverse_reverse]
        rw [z, q] at e0
        refine ⟨_, _, ht, .inl ?_, ?_, done ++ [root], rem', root, some (.int 0), none, rfl, by simpa using hd, (List.pairwise_cons.mp hp).2, fun r hr' => hr r (List.mem_cons_of_mem _ hr'), h0, h1, rfl⟩
        · rw [seq_nx e0]
          unfold d_product_row_2_1
          rw [if_t (by exact pB_of (pO_of rfl rfl (by simp)))]
          have a0 : d_product_row_2_1_a_0 [some (.tup (zs (mk (root :: rem') G))), some (.lst true (zs done)), some (.int root), some (.int 0), some (.tup (zs (mk rem' G)))] = .ok .nx [some (.tup (zs (mk (root :: rem') G))), some (.lst true (zs done ++ [.int root])), some (.int root), some (.int 0), some (.tup (zs (mk rem' G)))] := by
            unfold d_product_row_2_1_a_0
            refine drop_of (apnd_of (e := [some (.tup (zs (mk (root :: rem') G))), some (.lst true (zs done)), some (.int root), some (.int 0), some (.tup (zs (mk rem' G)))]) (e1 := [some (.tup (zs (mk (root :: rem') G))), some (.lst true (zs done)), some (.int root), some (.int 0), some (.tup (zs (mk rem' G)))]) (xs := zs done) rfl (d := .int root) (by simp [mShare, pV]) rfl ?_)
            have h9 := congrArg List.length hd
            simp only [List.length_append, List.length_cons] at h9
            show (done.map D.int).length < 1000000
            rw [List.length_map]
            omega
          rw [seq_nx a0]
          unfold d_product_row_2_1_a_1
          rw [asg_ok (m := mTake 4) rfl rfl]
          simp [zs]
        · simp
      · have nz : ev (mk rem G) root ≠ 0 := by
          refine ev_ne (he root h0 c1) fun z => c3 ?_
          cases rem with
          | nil => simp at z
          | cons r rem' =>
            have h5 := hr r List.mem_cons_self
            rcases List.mem_cons.mp z with rfl | z
            · exact ⟨_, rfl⟩
            · have h6 := (List.pairwise_cons.mp hp).1 root z
              have : r = root := by omega
              exact ⟨rem', by rw [this]⟩
        have up : ∀ r ∈ rem, root + 1 ≤ r := fun r hr' => by
          have h5 := hr r hr'
          rcases Int.lt_or_le root r with h6 | h6
          · omega
          · have e5 : r = root := by omega
            subst e5
            exact absurd (show ev (mk rem G) r = 0 from by
              have hp2 : rem.Perm (r :: rem.erase r) := List.perm_cons_erase hr'
              rw [mk_perm hp2]
              show ev (K74.ml r (mk (rem.erase r) G)) r = 0
              rw [ev_ml]
              simp) nz
        refine ⟨_, (401 - (root + 1)).toNat + rem.length, ht, .inl ?_, by omega, done, rem, root + 1, some (.int (ev (mk rem G) root)), some (.tup (zs (backD (hs root 0 (mk rem G).reverse) (some (-2))))), rfl, hd, hp, up, by omega, by omega, rfl⟩
        rw [seq_nx e0]
        unfold d_product_row_2_1
        rw [if_f (by exact pB_of (pO_of rfl rfl (by simp [nz])))]
        unfold d_product_row_2_1_b_0
        exact aug_of (x := .int root) rfl rfl (mP_of rfl) rfl
    · left
      have : rem = [] := List.eq_nil_of_length_eq_zero (by omega)
      subst this
      rw [List.append_nil] at hd
      subst hd
      refine ⟨_, and_t (pB_of (pO_of rfl rfl (by simpa using c1))) (pB_of (pO_of (pA_of rfl rfl) rfl (by simp [ml]; omega))), rfl, rfl⟩
  · left
    have : rem = [] := by
      cases rem with
      | nil => rfl
      | cons r rem' =>
        have h5 := hr r List.mem_cons_self
        have h6 := hm r List.mem_cons_self
        omega
    subst this
    rw [List.append_nil] at hd
    subst hd
    exact ⟨_, and_f (pB_of (pO_of rfl rfl (by simpa using c1))), rfl, rfl⟩
/-- what product_row tells of a polynomial of known roots -/
theorem c_row {rs G : List Int} (hG : 0 < G.length) (hl : rs.length + G.length ≤ 40) (hs : rs.Pairwise (· ≤ ·)) (hb : ∀ r ∈ rs, 0 ≤ r ∧ r ≤ 400) (he : ∀ x, 0 ≤ x → x ≤ 400 → ev G x ≠ 0) (hS : ∀ x ∈ mk rs G, x.natAbs < 1000000000000000000000000000000) (hT : lead G ≠ 0) :
    den_product_row [.tup (zs (mk rs G))] = .ok (.tup (zs rs)) [] := by
  have ml := mk_len rs G
  have chk := c_check_poly (p := mk rs G) (by omega) (by omega) hS (by rw [lead_mk hG]; exact hT)
  unfold den_product_row
  have e0 : d_product_row_0 [some (.tup (zs (mk rs G))), none, none, none, none] = .ok .nx [some (.tup (zs (mk rs G))), none, none, none, none] := by
    unfold d_product_row_0
    exact drop_of (call1_of (d := .tup (zs (mk rs G))) (by simp [mShare, pV, D.frz]) (by simpa [D.frz] using chk))
  have e1 : d_product_row_1 [some (.tup (zs (mk rs G))), none, none, none, none] = .ok .nx [some (.tup (zs (mk rs G))), some (.lst true []), some (.int 0), none, none] := by rfl
  have start : LoopAt rs G (401 + rs.length) [some (.tup (zs (mk rs G))), some (.lst true []), some (.int 0), none, none] := ⟨[], rs, 0, none, none, rfl, rfl, hs, fun r hr => (hb r hr).1, by decide, by decide, by simp⟩
  obtain ⟨e', q, fin⟩ := whileM_inv (ks := [3, 4]) (LoopAt rs G) (fun e1 => pV 1 e1 = some (.lst true (zs rs)) ∧ e1.length = 5) (row_step hG hl hb he) (fuel := 1000000) start (by omega)
  refine den_rt (e := e'.set 1 none) ?_ rfl
  show mSeq _ _ [some (.tup (zs (mk rs G))), none, none, none, none] = _
  rw [seq_nx e0, seq_nx e1]
  have q2 : d_product_row_2 [some (.tup (zs (mk rs G))), some (.lst true []), some (.int 0), none, none] = .ok .nx e' := q
  rw [seq_nx q2]
  unfold d_product_row_3
  refine ret_ok (app1_of (d := .lst true (zs rs)) ?_ rfl)
  unfold mTake
  rw [fin.1]
end K74
namespace K74
open PySem L2 DL
def eI : Nat → List Int → List D
  | _, [] => []
  | j, b :: q => .tup [.int (j : Nat), .int b] :: eI (j + 1) q
theorem enum_eI (q : List Int) : enumD (zs q) = eI 0 q := by
  have g : ∀ (q : List Int) (j : Nat), ((zs q).zipIdx j).map (fun p => D.tup [.int (p.2 : Nat), p.1]) = eI j q := by
    intro q
    induction q with
    | nil => intro j; rfl
    | cons b q ih =>
      intro j
      simp only [List.map_cons, List.zipIdx_cons, eI]
      rw [← ih (j + 1)]
  exact g q 0
def addRow : List Int → Int → List Int → Nat → List Int
  | F, _, [], _ => F
  | F, a, b :: q, k => addRow (F.set k (cf F k + a * b)) a q (k + 1)
def addAll : List Int → List Int → List Int → Nat → List Int
  | F, [], _, _ => F
  | F, a :: p, q, i => addAll (addRow F a q i) p q (i + 1)
theorem addRow_len : ∀ (q F : List Int) (a : Int) (k : Nat), (addRow F a q k).length = F.length
  | [], _, _, _ => rfl
  | b :: q, F, a, k => by
    unfold addRow
    rw [addRow_len q]
    simp
theorem addAll_len : ∀ (p F q : List Int) (i : Nat), (addAll F p q i).length = F.length
  | [], _, _, _ => rfl
  | a :: p, F, q, i => by
    unfold addAll
    rw [addAll_len p, addRow_len]
theorem cf_set {F : List Int} {k m : Nat} {v : Int} (h : k < F.length) : cf (F.set k v) m = if m = k then v else cf F m := by
  unfold cf
  by_cases hm : m = k
  · subst hm
    simp [h]
  · rw [if_neg hm]
    simp only [List.getD_eq_getElem?_getD]
    rw [List.getElem?_set_ne (fun z => hm z.symm)]
theorem cf_cons (b : Int) (q : List Int) (k : Nat) : cf (b :: q) k = if k = 0 then b else cf q (k - 1) := by
  unfold cf
  cases k with
  | zero => simp
  | succ k => simp
theorem cf_row : ∀ (q F : List Int) (a : Int) (k m : Nat), k + q.length ≤ F.length → cf (addRow F a q k) m = cf F m + if k ≤ m then a * cf q (m - k) else 0
  | [], F, a, k, m, _ => by
    unfold addRow
    simp [cf]
  | b :: q, F, a, k, m, h => by
    unfold addRow
    have h2 : k < F.length := by simp at h; omega
    rw [cf_row q _ a (k + 1) m (by simp at h ⊢; omega), cf_set h2]
    by_cases e : m = k
    · subst e
      rw [if_pos rfl, if_neg (by omega), if_pos (Nat.le_refl _), Nat.sub_self, cf_cons]
      simp
    · rw [if_neg e]
      by_cases c : k ≤ m
      · rw [if_pos c, if_pos (by omega), cf_cons, if_neg (by omega)]
        rw [show m - k - 1 = m - (k + 1) by omega]
      · rw [if_neg c, if_neg (by omega)]
def S (p q : List Int) (k : Nat) : Int := cf p k * cf q 0 + (if 1 ≤ k then cf p (k - 1) * cf q 1 else 0) + (if 2 ≤ k then cf p (k - 2) * cf q 2 else 0)
theorem S_cons {a : Int} {p q : List Int} (h : q.length ≤ 3) (k : Nat) : S (a :: p) q k = a * cf q k + if 1 ≤ k then S p q (k - 1) else 0 := by
  unfold S
  rcases Nat.lt_or_ge k 1 with h1 | h1
  · obtain rfl : k = 0 := by omega
    simp [cf_cons]
  · rcases Nat.lt_or_ge k 2 with h2 | h2
    · obtain rfl : k = 1 := by omega
      simp [cf_cons]
      omega
    · rcases Nat.lt_or_ge k 3 with h3 | h3
      · obtain rfl : k = 2 := by omega
        simp [cf_cons]
        omega
      · rw [cf_len (p := q) (k := k) (by omega)]
        rw [if_pos (by omega), if_pos (by omega), if_pos (by omega), if_pos (by omega), if_pos (by omega)]
        rw [cf_cons, cf_cons, cf_cons, if_neg (by omega), if_neg (by omega), if_neg (by omega)]
        rw [show k - 1 - 1 = k - 2 by omega, show k - 2 - 1 = k - 1 - 2 by omega]
        omega
theorem cf_all {q : List Int} (hq : q.length ≤ 3) : ∀ (p F : List Int) (i m : Nat), p.length + i + q.length ≤ F.length + 1 → cf (addAll F p q i) m = cf F m + if i ≤ m then S p q (m - i) else 0
  | [], F, i, m, _ => by
    unfold addAll S
    simp [cf]
  | a :: p, F, i, m, h => by
    unfold addAll
    rw [cf_all hq p _ (i + 1) m (by rw [addRow_len]; simp at h; omega), cf_row _ _ _ _ _ (by simp at h; omega)]
    by_cases c : i ≤ m
    · rw [if_pos c, if_pos c, S_cons hq]
      by_cases c2 : i + 1 ≤ m
      · rw [if_pos c2, if_pos (by omega)]
        rw [show m - i - 1 = m - (i + 1) by omega]
        omega
      · rw [if_neg c2, if_neg (by omega)]
        omega
    · rw [if_neg c, if_neg c, if_neg (by omega)]
      omega
theorem cf_zeros (n k : Nat) : cf (List.replicate n 0) k = 0 := by
  unfold cf
  simp [List.getD_eq_getElem?_getD, List.getElem?_replicate]
  split <;> simp
theorem all_prod {p q : List Int} (hp : 0 < p.length) (hq : 0 < q.length) (hq3 : q.length ≤ 3) : IsProd p q (addAll (List.replicate (p.length + q.length - 1) 0) p q 0) := by
  refine ⟨by rw [addAll_len]; simp, fun k => ?_⟩
  rw [cf_all hq3 _ _ _ _ (by simp; omega), cf_zeros, if_pos (Nat.zero_le _)]
  simp [S]
/-- what one turn of the inner loop does -/
def Turns (body : M DL.Flow) : Prop := ∀ (x0 x1 : Option D) (F : List Int) (i j : Nat) (a b : Int), i + j < F.length → -(2 ^ 64) < b ∧ b < 2 ^ 64 →
  body [x0, x1, some (.lst true (zs F)), some (.int i), some (.int a), some (.int j), some (.int b)] = .ok .nx [x0, x1, some (.lst true (zs (F.set (i + j) (cf F (i + j) + a * b)))), some (.int i), some (.int a), some (.int j), some (.int b)]
theorem zs_set {F : List Int} {k : Nat} {v : Int} : (zs F).set k (.int v) = zs (F.set k v) := by
  unfold zs
  rw [List.map_set]
theorem zs_at {F : List Int} {k : Nat} (h : k < F.length) : atI (zs F) (k : Int) = some (.int (cf F k)) := by
  unfold zs
  rw [atI_map, atI_nn rfl h]
  simp [cf, h]
theorem turns_times : Turns d__law_times_1_0_0 := fun x0 x1 F i j a b h hb => by
  unfold d__law_times_1_0_0
  have e : ((i : Int) + (j : Int)) = ((i + j : Nat) : Int) := by omega
  have hF : i + j < (zs F).length := by simpa using h
  refine asg_ok (d := .int (cf F (i + j) + a * b)) (mP_of (pO_of (pO_of rfl (pO_of rfl rfl rfl) (show atI (zs F) ((i : Int) + (j : Int)) = _ by rw [e]; exact zs_at h)) (pO_of rfl rfl (iMul_int (cmul_r hb))) rfl)) ?_
  show gSet 2 (pOp iAdd (pV 3) (pV 5)) _ _ = _
  unfold gSet
  have ep : pOp iAdd (pV 3) (pV 5) [x0, x1, some (.lst true (zs F)), some (.int i), some (.int a), some (.int j), some (.int b)] = some (.int ((i + j : Nat) : Int)) := by
    refine pO_of (x := .int i) (y := .int j) rfl rfl ?_
    rw [iAdd_int, e]
  rw [ep]
  show ((ixN (zs F).length ((i + j : Nat) : Int)).map fun j_1 => _) = _
  rw [ixN_nat hF]
  simp only [Option.map_some, List.set_cons_succ, List.set_cons_zero]
  rw [zs_set]
theorem turns_terms : Turns d_terms_product_1_0_0 := fun x0 x1 F i j a b h hb => by
  unfold d_terms_product_1_0_0
  have e : ((i : Int) + (j : Int)) = ((i + j : Nat) : Int) := by omega
  have hF : i + j < (zs F).length := by simpa using h
  have ep : pOp iAdd (pV 3) (pV 5) [x0, x1, some (.lst true (zs F)), some (.int i), some (.int a), some (.int j), some (.int b)] = some (.int ((i + j : Nat) : Int)) := by
    refine pO_of (x := .int i) (y := .int j) rfl rfl ?_
    rw [iAdd_int, e]
  have em : mP (pOp iMul (pV 4) (pV 6)) [x0, x1, some (.lst true (zs F)), some (.int i), some (.int a), some (.int j), some (.int b)] = .ok (.int (a * b)) [x0, x1, some (.lst true (zs F)), some (.int i), some (.int a), some (.int j), some (.int b)] := mP_of (pO_of (x := .int a) (y := .int b) rfl rfl (iMul_int (cmul_r hb)))
  unfold mAugS
  rw [ep]
  show (match some (D.lst true (zs F)), some (D.int ((i + j : Nat) : Int)) with | _, _ => _) = _
  simp only
  rw [zs_at h]
  simp only [D.flat, if_true]
  rw [bind_ok em]
  simp only [iAdd_int, pV]
  show (match ixN (zs F).length ((i + j : Nat) : Int) with | some j => _ | none => _) = _
  rw [ixN_nat hF]
  simp only [List.set_cons_succ, List.set_cons_zero]
  rw [zs_set]
theorem inner {body : M DL.Flow} (hb : Turns body) {x0 x1 : Option D} {i : Nat} {a : Int} : ∀ (q : List Int) (F : List Int) (j : Nat) (y5 y6 : Option D), i + j + q.length ≤ F.length → (∀ b ∈ q, -(2 ^ 64) < b ∧ b < 2 ^ 64) →
    loopM (gT 2 (gConsD (gN 5) (gConsD (gN 6) gNilD))) [5, 6] body (eI j q) [x0, x1, some (.lst true (zs F)), some (.int i), some (.int a), y5, y6] = .ok .nx [x0, x1, some (.lst true (zs (addRow F a q (i + j)))), some (.int i), some (.int a), none, none]
  | [], F, j, y5, y6, _, _ => by rfl
  | b :: q, F, j, y5, y6, h, hq => by
    have e1 := hb x0 x1 F i j a b (by simp at h; omega) (hq b List.mem_cons_self)
    show loopM _ _ _ (.tup [.int (j : Nat), .int b] :: eI (j + 1) q) _ = _
    rw [loop_nx (e1 := [x0, x1, some (D.lst true (zs F)), some (D.int i), some (D.int a), some (D.int j), some (D.int b)]) rfl e1]
    rw [inner hb q _ (j + 1) (some (.int j)) (some (.int b)) (by simp at h ⊢; omega) fun c hc => hq c (List.mem_cons_of_mem _ hc)]
    rw [show i + (j + 1) = i + j + 1 by omega]
    rfl
theorem outer {body : M DL.Flow} (hb : Turns body) {Q : D} {q : List Int} (hQ : Q.frz = Q) (hi : Q.iter = some (zs q)) (hq : ∀ b ∈ q, -(2 ^ 64) < b ∧ b < 2 ^ 64) : ∀ (p F : List Int) (i : Nat) (y3 y4 y5 y6 : Option D), i + p.length + q.length ≤ F.length + 1 →
    loopM (gT 2 (gConsD (gN 3) (gConsD (gN 4) gNilD))) [3, 4, 5, 6] (mFor (mEnum (mCons (mShare 1) (M.ret []))) (gT 2 (gConsD (gN 5) (gConsD (gN 6) gNilD))) [5, 6] body) (eI i p) [none, some Q, some (.lst true (zs F)), y3, y4, y5, y6] =
      .ok .nx [none, some Q, some (.lst true (zs (addAll F p q i))), none, none, none, none]
  | [], F, i, y3, y4, y5, y6, _ => by rfl
  | a :: p, F, i, y3, y4, y5, y6, h => by
    have sh : mShare 1 [none, some Q, some (.lst true (zs F)), some (.int i), some (.int a), none, none] = .ok Q [none, some Q, some (.lst true (zs F)), some (.int i), some (.int a), none, none] := by
      simp [mShare, pV, hQ]
    have e1 : mFor (mEnum (mCons (mShare 1) (M.ret []))) (gT 2 (gConsD (gN 5) (gConsD (gN 6) gNilD))) [5, 6] body [none, some Q, some (.lst true (zs F)), some (.int i), some (.int a), none, none] = .ok .nx [none, some Q, some (.lst true (zs (addRow F a q i))), some (.int i), some (.int a), none, none] := by
      refine for_of (enum_of sh hi) ?_
      rw [enum_eI]
      exact inner hb q F 0 none none (by simp at h; omega) hq
    show loopM _ _ _ (.tup [.int (i : Nat), .int a] :: eI (i + 1) p) _ = _
    rw [loop_nx (e1 := [none, some Q, some (D.lst true (zs F)), some (D.int i), some (D.int a), none, none]) rfl e1]
    rw [outer hb hQ hi hq p _ (i + 1) _ _ _ _ (by rw [addRow_len]; simp at h; omega)]
    rfl
theorem zeros_of {m : M D} {e e1 : DL.Env} {n : Nat} (h : m e = .ok (.int n) e1) (hn : n ≤ 1000) : mOp aMul (mLst (mCons (mP (pK (.int 0))) (M.ret []))) m e = .ok (.lst true (zs (List.replicate n 0))) e1 := by
  refine op_of (lst_of (cons_of (d := .int 0) rfl nil_ok) (by simp)) h ?_
  rw [aMul_rep (by omega) (by simp; omega) (by omega)]
  simp only [Int.toNat_natCast, D.frzL, frz_int, rep_one]
  simp [zs]
theorem c_times {p q : List Int} (hp : 0 < p.length) (hp2 : p.length ≤ 900) (hq : 0 < q.length) (hq3 : q.length ≤ 3) (hb : ∀ b ∈ q, -(2 ^ 64) < b ∧ b < 2 ^ 64) : ∃ c, den__law_times [.tup (zs p), .tup (zs q)] = .ok (.tup (zs c)) [] ∧ IsProd p q c := by
  refine ⟨_, ?_, all_prod hp hq hq3⟩
  unfold den__law_times
  refine den_rt (e := [none, some (.tup (zs q)), none, none, none, none, none]) ?_ rfl
  show mSeq _ _ [some (.tup (zs p)), some (.tup (zs q)), none, none, none, none, none] = _
  have e0 : d__law_times_0 [some (.tup (zs p)), some (.tup (zs q)), none, none, none, none, none] = .ok .nx [some (.tup (zs p)), some (.tup (zs q)), some (.lst true (zs (List.replicate (p.length + q.length - 1) 0))), none, none, none, none] := by
    unfold d__law_times_0
    refine asg_ok (zeros_of (mP_of (pO_of (pO_of (pA_of (x := .tup (zs p)) rfl rfl) (pA_of (x := .tup (zs q)) rfl rfl) rfl) rfl ?_)) (by omega)) rfl
    simp
    omega
  rw [seq_nx e0]
  have e1 : d__law_times_1 [some (.tup (zs p)), some (.tup (zs q)), some (.lst true (zs (List.replicate (p.length + q.length - 1) 0))), none, none, none, none] = .ok .nx [none, some (.tup (zs q)), some (.lst true (zs (addAll (List.replicate (p.length + q.length - 1) 0) p q 0))), none, none, none, none] := by
    unfold d__law_times_1
    refine for_of (enum_of (m := mTake 0) (d := .tup (zs p)) (xs := zs p) rfl (by simp [D.iter])) ?_
    rw [enum_eI]
    exact outer turns_times (by simp [D.frz]) (by simp [D.iter]) hb p _ 0 _ _ _ _ (by simp; omega)
  rw [seq_nx e1]
  unfold d__law_times_2
  exact ret_ok (app1_of (m := mTake 2) rfl rfl)
theorem c_terms {p q : List Int} (hp : 0 < p.length) (hp2 : p.length ≤ 900) (hq : 0 < q.length) (hq3 : q.length ≤ 3) (hb : ∀ b ∈ q, -(2 ^ 64) < b ∧ b < 2 ^ 64) : ∃ c, den_terms_product [.lst false (zs p), .lst false (zs q)] = .ok (.lst true (zs c)) [] ∧ IsProd p q c := by
  refine ⟨_, ?_, all_prod hp hq hq3⟩
  unfold den_terms_product
  refine den_rt (e := [none, some (.lst false (zs q)), none, none, none, none, none]) ?_ rfl
  show mSeq _ _ [some (.lst false (zs p)), some (.lst false (zs q)), none, none, none, none, none] = _
  have e0 : d_terms_product_0 [some (.lst false (zs p)), some (.lst false (zs q)), none, none, none, none, none] = .ok .nx [some (.lst false (zs p)), some (.lst false (zs q)), some (.lst true (zs (List.replicate (p.length + q.length - 1) 0))), none, none, none, none] := by
    unfold d_terms_product_0
    refine asg_ok (zeros_of (mP_of (pO_of (pO_of (pA_of (x := .lst false (zs p)) rfl rfl) (pA_of (x := .lst false (zs q)) rfl rfl) rfl) rfl ?_)) (by omega)) rfl
    simp
    omega
  rw [seq_nx e0]
  have e1 : d_terms_product_1 [some (.lst false (zs p)), some (.lst false (zs q)), some (.lst true (zs (List.replicate (p.length + q.length - 1) 0))), none, none, none, none] = .ok .nx [none, some (.lst false (zs q)), some (.lst true (zs (addAll (List.replicate (p.length + q.length - 1) 0) p q 0))), none, none, none, none] := by
    unfold d_terms_product_1
    refine for_of (enum_of (m := mTake 0) (d := .lst false (zs p)) (xs := zs p) rfl (by simp [D.iter])) ?_
    rw [enum_eI]
    exact outer turns_terms (by simp [D.frz]) (by simp [D.iter]) hb p _ 0 _ _ _ _ (by simp; omega)
  rw [seq_nx e1]
  unfold d_terms_product_2
  exact ret_ok (m := mTake 2) rfl
end K74
namespace K74
open PySem L2 DL
theorem share_int {i : Nat} {e : DL.Env} {v : Int} (h : pV i e = some (.int v)) (hs : e.set i (some (.int v)) = e) : mShare i e = .ok (.int v) e := by
  unfold mShare
  rw [h]
  simp only [frz_int]
  rw [hs]
theorem take_of {i : Nat} {e : DL.Env} {d : D} (h : pV i e = some d) : mTake i e = .ok d (e.set i none) := by
  unfold mTake
  rw [h]
theorem c_within {i a b : Int} (h1 : a ≤ i) (h2 : i ≤ b) : den_is_within [.int i, .int a, .int b] = .ok (.bl true) [] := by
  unfold den_is_within
  refine den_rt (e := [some (.int i), some (.int a), some (.int b)]) ?_ rfl
  show d_is_within_0 [some (.int i), some (.int a), some (.int b)] = _
  unfold d_is_within_0
  refine ret_ok ?_
  unfold mAndV
  rw [bind_ok (call1_of (d := .int i) (share_int rfl rfl) (c_is_integer i))]
  have : pChain iLe iLe (pV 1) (pV 0) (pV 2) [some (.int i), some (.int a), some (.int b)] = some (.bl true) := by
    rw [chainLe rfl rfl rfl]
    simp
    omega
  show mP _ _ = _
  unfold mP
  rw [this]
  rfl
theorem c_check_run {low high : Int} (h1 : -20 ≤ low ∧ low ≤ 1) (h2 : -1 ≤ high ∧ high ≤ 20) (h3 : low ≤ high) : den_check_run [.int low, .int high] = .ok .non [] := by
  unfold den_check_run
  refine den_nx (e := [some (.int low), some (.int high)]) ?_ rfl
  show d_check_run_0 [some (.int low), some (.int high)] = _
  unfold d_check_run_0
  rw [if_f (e' := [some (.int low), some (.int high)])]
  · rfl
  · refine or_f (not_of (b := true) (tf_of (call3_of (d := .int low) (d2 := .int (-20)) (d3 := .int 1) (share_int rfl rfl) rfl rfl (c_within h1.1 h1.2)))) (or_f (not_of (b := true) (tf_of (call3_of (d := .int high) (d2 := .int (-1)) (d3 := .int 20) (share_int rfl rfl) rfl rfl (c_within h2.1 h2.2)))) (pB_of (pO_of rfl rfl ?_)))
    simp
    omega
theorem c_check_ruled {n low high : Int} (h0 : 2 ≤ n ∧ n ≤ 12) (h1 : -20 ≤ low ∧ low ≤ 1) (h2 : -1 ≤ high ∧ high ≤ 20) (h3 : low ≤ high) : den_check_ruled [.int n, .int low, .int high] = .ok .non [] := by
  unfold den_check_ruled
  refine den_nx (e := [some (.int n), none, none]) ?_ rfl
  show mSeq _ _ [some (.int n), some (.int low), some (.int high)] = _
  have e0 : d_check_ruled_0 [some (.int n), some (.int low), some (.int high)] = .ok .nx [some (.int n), some (.int low), some (.int high)] := by
    unfold d_check_ruled_0
    rw [if_f (e' := [some (.int n), some (.int low), some (.int high)])]
    · rfl
    · exact not_of (b := true) (tf_of (call3_of (d := .int n) (d2 := .int 2) (d3 := .int 12) (share_int rfl rfl) rfl rfl (c_within h0.1 h0.2)))
  rw [seq_nx e0]
  unfold d_check_ruled_1
  exact drop_of (call2_of (d := .int low) (d2 := .int high) (take_of rfl) (take_of rfl) (c_check_run h1 h2 h3))
theorem lists_term {a b : Int} : (D.lst true [.int a, .int b]).frz = .lst false (zs [a, b]) := by
  simp [D.frz, D.frzL, zs]
theorem like_loop {n high : Int} (hn : 0 ≤ n ∧ n ≤ 12) (hh : 0 ≤ high ∧ high ≤ 20) : ∀ (js : List Nat) (F : List Int) (y : Option D), 0 < F.length → F.length + js.length ≤ 900 → (∀ k ∈ js, k ≤ 20) →
    loopM (gN 3) [3] d_poly_of_like_1_0 (js.map fun (k : Nat) => .int (1 + k)) [some (.int n), some (.int high), some (.lst true (zs F)), y] = .ok .nx [some (.int n), some (.int high), some (.lst true (zs (js.foldl (fun F (k : Nat) => ml (n * high + (1 + (k : Int))) F) F))), none]
  | [], F, y, _, _, _ => by rfl
  | k :: js, F, y, h0, hl, hk => by
    have hk0 := hk k List.mem_cons_self
    have hm : -(2 ^ 64) < n * high + (1 + (k : Int)) ∧ n * high + (1 + (k : Int)) < 2 ^ 64 := by
      have h1 : 0 ≤ n * high := Int.mul_nonneg hn.1 hh.1
      have h2 : n * high ≤ 12 * 20 := Int.mul_le_mul hn.2 hh.2 hh.1 (by decide)
      omega
    obtain ⟨c, e1, pr⟩ := c_terms (p := F) (q := [-(n * high + (1 + (k : Int))), 1]) h0 (by omega) (by simp) (by simp) (fun b hb => by
      have : b = -(n * high + (1 + (k : Int))) ∨ b = 1 := by simpa using hb
      rcases this with rfl | rfl <;> omega)
    obtain rfl := pr.uniq (prod_lin _ h0)
    have e2 : d_poly_of_like_1_0 [some (.int n), some (.int high), some (.lst true (zs F)), some (.int (1 + k))] = .ok .nx [some (.int n), some (.int high), some (.lst true (zs (ml (n * high + (1 + (k : Int))) F))), some (.int (1 + k))] := by
      unfold d_poly_of_like_1_0
      refine asg_ok (call2_of (d := .lst false (zs F)) (d2 := .lst true [.int (-(n * high + (1 + (k : Int)))), .int 1]) (e' := [some (.int n), some (.int high), some (.lst false (zs F)), some (.int (1 + k))]) (e2 := [some (.int n), some (.int high), some (.lst false (zs F)), some (.int (1 + k))]) (by simp [mShare, pV, D.frz]) (lst_of (cons_of (mP_of ?_) (cons_of (mP_of rfl) nil_ok)) (by simp)) (z := .lst true (zs (ml (n * high + (1 + (k : Int))) F))) ?_) rfl
      · show (pOp iAdd (pOp iMul (pV 0) (pV 1)) (pV 3) _).bind negD = _
        rw [pO_of (pO_of (x := .int n) (y := .int high) rfl rfl (iMul_int (cmul_l (by omega)))) (y := .int (1 + k)) rfl (iAdd_int _ _)]
        rfl
      · rw [lists_term]
        simpa [D.frz] using e1
    show loopM _ _ _ (.int (1 + k) :: _) _ = _
    rw [loop_nx (e1 := [some (.int n), some (.int high), some (.lst true (zs F)), some (.int (1 + k))]) rfl e2]
    rw [like_loop hn hh js _ _ (by rw [ml_len]; omega) (by rw [ml_len]; simp at hl; omega) fun j hj => hk j (List.mem_cons_of_mem _ hj)]
    rfl
/-- the roots of the polynomial of a run of like ends -/
def runRoots (n : Nat) (high : Int) : List Int := 0 :: (List.range (n - 1)).map fun (k : Nat) => (n : Int) * high + (1 + k)
theorem run_mk (n : Nat) (high : Int) : (List.range (n - 1)).foldl (fun F (k : Nat) => ml ((n : Int) * high + (1 + k)) F) [0, 1] = mk (runRoots n high) [1] := by
  have h1 : ∀ (js : List Nat) (F : List Int), js.foldl (fun F (k : Nat) => ml ((n : Int) * high + (1 + k)) F) F = mk (js.map fun (k : Nat) => (n : Int) * high + (1 + k)).reverse F := by
    intro js
    induction js with
    | nil => intro F; rfl
    | cons k js ih =>
      intro F
      simp only [List.foldl_cons, List.map_cons, List.reverse_cons]
      rw [ih]
      unfold mk
      rw [List.foldr_append]
      rfl
  rw [h1]
  have h2 : ([0, 1] : List Int) = mk [0] [1] := by decide
  have h3 : ∀ (a : List Int), mk a (mk [0] [1]) = mk (a ++ [0]) [1] := fun a => by
    unfold mk
    rw [List.foldr_append]
  rw [h2, h3]
  refine mk_perm ?_
  unfold runRoots
  refine (List.perm_append_comm).trans ?_
  exact (List.reverse_perm _).cons _
theorem c_like {n : Nat} {high : Int} (hn : 2 ≤ n ∧ n ≤ 12) (hh : 0 ≤ high ∧ high ≤ 20) : den_poly_of_like [.int n, .int high] = .ok (.lst true (zs (mk (runRoots n high) [1]))) [] := by
  unfold den_poly_of_like
  refine den_rt (e := [some (.int n), some (.int high), none, none]) ?_ rfl
  show mSeq _ _ [some (.int n), some (.int high), none, none] = _
  have e0 : d_poly_of_like_0 [some (.int n), some (.int high), none, none] = .ok .nx [some (.int n), some (.int high), some (.lst true (zs [0, 1])), none] := by rfl
  rw [seq_nx e0]
  have e1 : d_poly_of_like_1 [some (.int n), some (.int high), some (.lst true (zs [0, 1])), none] = .ok .nx [some (.int n), some (.int high), some (.lst true (zs (mk (runRoots n high) [1]))), none] := by
    unfold d_poly_of_like_1
    refine for_of (range2_of (a := 1) (b := n) (mP_of rfl) (share_int rfl rfl) (by decide) (by decide) (by omega) (by omega)) ?_
    have e2 : ((n : Int) - 1).toNat = n - 1 := by omega
    rw [e2, like_loop (by omega) hh _ _ _ (by decide) (by simp; omega) (fun k hk => by have := List.mem_range.mp hk; omega), run_mk]
  rw [seq_nx e1]
  unfold d_poly_of_like_2
  exact ret_ok (take_of rfl)
theorem c_trimmed {p : List Int} (h1 : 0 < p.length) (h2 : lead p ≠ 0) : den_trimmed [.lst false (zs p)] = .ok (.tup (zs p)) [] := by
  unfold den_trimmed
  refine den_rt (e := [none, none]) ?_ rfl
  show mSeq _ _ [some (.lst false (zs p)), none] = _
  have e0 : d_trimmed_0 [some (.lst false (zs p)), none] = .ok .nx [none, some (.lst true (zs p))] := by
    unfold d_trimmed_0
    exact asg_ok (app1_of (m := mTake 0) (take_of rfl) rfl) rfl
  rw [seq_nx e0]
  have e1 : d_trimmed_1 [none, some (.lst true (zs p))] = .ok .nx [none, some (.lst true (zs p))] := by
    have t : mAnd (mPB (pOp iGt (pApp D.len (pV 1)) (pK (.int 1)))) (mPB (pOp gEq (pOp D.ix (pV 1) (pUn negD (pK (.int 1)))) (pK (.int 0)))) [none, some (.lst true (zs p))] = .ok false [none, some (.lst true (zs p))] := by
      by_cases c : 1 < p.length
      · refine and_t (pB_of (pO_of (pA_of rfl rfl) rfl (by simp; omega))) (pB_of (pO_of (pO_of rfl rfl (show atI (zs p) (-1) = _ from atI_last' h1)) rfl (by simp [h2])))
      · exact and_f (pB_of (pO_of (pA_of rfl rfl) rfl (by simp; omega)))
    unfold d_trimmed_1
    show whileM _ [] _ (999999 + 1) _ = _
    unfold whileM
    simp only [kill]
    rw [t]
  rw [seq_nx e1]
  unfold d_trimmed_2
  exact ret_ok (app1_of (m := mTake 1) (take_of rfl) rfl)
theorem c_raw {n : Nat} {high : Int} (hn : 2 ≤ n ∧ n ≤ 12) (hh : 0 ≤ high ∧ high ≤ 20) : den_raw_run_poly [.int n, .int (0 - high), .int high] = .ok (.tup (zs (mk (runRoots n high) [1]))) [] := by
  unfold den_raw_run_poly
  refine den_rt (e := [some (.int n), some (.int (0 - high)), none, some (.int (1 - (0 - high))), some (.int (high + 1))]) ?_ rfl
  show mSeq _ _ [some (.int n), some (.int (0 - high)), some (.int high), none, none] = _
  have e0 : d_raw_run_poly_0 [some (.int n), some (.int (0 - high)), some (.int high), none, none] = .ok .nx [some (.int n), some (.int (0 - high)), some (.int high), some (.int (1 - (0 - high))), some (.int (high + 1))] := by rfl
  rw [seq_nx e0]
  have e1 : d_raw_run_poly_1 [some (.int n), some (.int (0 - high)), some (.int high), some (.int (1 - (0 - high))), some (.int (high + 1))] = .ok (.rt (.tup (zs (mk (runRoots n high) [1])))) [some (.int n), some (.int (0 - high)), none, some (.int (1 - (0 - high))), some (.int (high + 1))] := by
    unfold d_raw_run_poly_1
    rw [if_t (by exact pB_of (pO_of rfl rfl (by simp; omega)))]
    unfold d_raw_run_poly_1_a_0
    refine ret_ok (call1_of (d := .lst true (zs (mk (runRoots n high) [1]))) (call2_of (d := .int n) (d2 := .int high) (share_int rfl rfl) (take_of rfl) (c_like hn hh)) ?_)
    have := c_trimmed (p := mk (runRoots n high) [1]) (by rw [mk_len]; simp) (by rw [lead_mk (by decide)]; decide)
    simpa [D.frz] using this
  rw [seq_rt e1]
theorem c_run {n : Nat} {high : Int} (hn : 2 ≤ n ∧ n ≤ 12) (hh : 0 ≤ high ∧ high ≤ 20) : den_run_poly [.int n, .int (0 - high), .int high] = .ok (.tup (zs (mk (runRoots n high) [1]))) [] := by
  unfold den_run_poly
  refine den_rt (e := [none, none, none]) ?_ rfl
  show mSeq _ _ [some (.int n), some (.int (0 - high)), some (.int high)] = _
  have e0 : d_run_poly_0 [some (.int n), some (.int (0 - high)), some (.int high)] = .ok .nx [some (.int n), some (.int (0 - high)), some (.int high)] := by
    unfold d_run_poly_0
    exact drop_of (call3_of (d := .int n) (d2 := .int (0 - high)) (d3 := .int high) (share_int rfl rfl) (share_int rfl rfl) (share_int rfl rfl) (c_check_ruled (by omega) (by omega) (by omega) (by omega)))
  rw [seq_nx e0]
  unfold d_run_poly_1
  exact ret_ok (call3_of (d := .int n) (d2 := .int (0 - high)) (d3 := .int high) (take_of rfl) (take_of rfl) (take_of rfl) (c_raw hn hh))
end K74
namespace K74
open PySem L2 DL
theorem frz_tz (ns : List Int) : (D.tup (zs ns)).frz = .tup (zs ns) := by simp [D.frz]
theorem callR1 {den : FD} {m : M D} {e e1 : DL.Env} {d d' d2 z : D} (h : pV 0 e = some d) (h1 : m (e.set 0 none) = .ok d2 e1) (h2 : den [d, d2.frz] = .ok z [some d']) : mCall den [(0, 0)] (mConsR 0 (mConsF m (M.ret []))) e = .ok z (e1.set 0 (some d')) := by
  unfold mCall mConsR mConsF mTake
  simp only [M.andThen, h, h1, M.ret, h2]
  rfl
theorem callR0 {den : FD} {e : DL.Env} {d d' z : D} {i : Nat} (h : pV i e = some d) (h2 : den [d] = .ok z [some d']) : mCall den [(0, i)] (mConsR i (M.ret [])) e = .ok z ((e.set i none).set i (some d')) := by
  unfold mCall mConsR mTake
  simp only [M.andThen, h, M.ret, h2]
  rfl
theorem draw_step {e : DL.Env} {H : D} {b : Int} (h : pV 0 e = some H) (hH : Hand H) (h0 : 0 < b) (h1 : b < 1073741824) : ∃ H' v, mCall den__law_draw [(0, 0)] (mConsR 0 (mConsF (mP (pK (.int b))) (M.ret []))) e = .ok (.int v) ((e.set 0 none).set 0 (some H')) ∧ Hand H' ∧ 0 ≤ v ∧ v < b := by
  obtain ⟨d', v, q, w, lo, hi⟩ := c_draw (d := H) hH h0 h1
  exact ⟨d', v, callR1 h (mP_of (i := b) rfl) q, w, lo, hi⟩
theorem any_step {e : DL.Env} {H : D} {xs : List D} {ms : M (List D)} (h : pV 0 e = some H) (hH : Hand H) (hms : ms (e.set 0 none) = .ok xs (e.set 0 none)) (f : D.allFrz xs = true) (h0 : 0 < xs.length) (h1 : xs.length ≤ 1000) :
    ∃ H' x, mCall den__law_any [(0, 0)] (mConsR 0 (mConsF (mLst ms) (M.ret []))) e = .ok x ((e.set 0 none).set 0 (some H')) ∧ Hand H' ∧ x ∈ xs := by
  obtain ⟨d', x, q, w, hx⟩ := c_any (d := H) (ow := false) hH f h0 (by omega)
  refine ⟨d', x, callR1 h (lst_of hms h1) ?_, w, hx⟩
  have : (D.lst true xs).frz = .lst false xs := by simp [D.frz, D.frzL_of f]
  rw [this]
  exact q
/-- a list of drawn ones -/
theorem drawn {ps : List Int} {ms : M (List D)} {b : Int} {e0 : DL.Env} {y : Option D} (h0 : 0 < b) (h1 : b ≤ 1000) (hps : 0 < ps.length) (hps2 : ps.length ≤ 1000) (hl : e0.length = 9) (hms : ∀ e : DL.Env, ms e = .ok (zs ps) e) {H : D} (hH : Hand H) :
    ∃ H' rs, mComp (mRange1 (mCons (mCall den__law_draw [(0, 0)] (mConsR 0 (mConsF (mP (pK (.int b))) (M.ret [])))) (M.ret []))) (gN 9) [9] (M.ret true) (mCall den__law_any [(0, 0)] (mConsR 0 (mConsF (mLst ms) (M.ret [])))) ((e0.set 0 (some H)) ++ [y, none]) = .ok (.lst true (zs rs)) ((e0.set 0 (some H')) ++ [none, none]) ∧ Hand H' ∧ (rs.length : Int) < b ∧ ∀ r ∈ rs, r ∈ ps := by
  obtain ⟨a0, a1, a2, a3, a4, a5, a6, a7, a8, rfl⟩ : ∃ a0 a1 a2 a3 a4 a5 a6 a7 a8, e0 = [a0, a1, a2, a3, a4, a5, a6, a7, a8] := by
    match e0, hl with
    | [a0, a1, a2, a3, a4, a5, a6, a7, a8], _ => exact ⟨_, _, _, _, _, _, _, _, _, rfl⟩
  simp only [List.set_cons_zero, List.cons_append, List.nil_append]
  obtain ⟨H1, v, q, w, lo, hi⟩ := draw_step (e := [some H, a1, a2, a3, a4, a5, a6, a7, a8, y, none]) rfl hH h0 (by omega)
  have src := range1_of q lo (by omega)
  let Inv : Nat → DL.Env → List D → Prop := fun i e acc => ∃ H2 y2 rs, e = [some H2, a1, a2, a3, a4, a5, a6, a7, a8, y2, none] ∧ Hand H2 ∧ acc = zs rs ∧ rs.length = i ∧ ∀ r ∈ rs, r ∈ ps
  obtain ⟨e', acc, q2, i2⟩ := compM_inv (g := gN 9) (ks := [9]) (t := M.ret true) (m := mCall den__law_any [(0, 0)] (mConsR 0 (mConsF (mLst ms) (M.ret [])))) Inv (xs := (List.range v.toNat).map fun (k : Nat) => .int k) (i := 0) (e := [some H1, a1, a2, a3, a4, a5, a6, a7, a8, y, none]) (acc := []) (fun j x e acc hx hi => by
    obtain ⟨H2, y2, rs, rfl, hH2, rfl, hlen, hmem⟩ := hi
    obtain ⟨H3, z, q3, w3, hz⟩ := any_step (e := [some H2, a1, a2, a3, a4, a5, a6, a7, a8, some x, none]) (ms := ms) (xs := zs ps) rfl hH2 (hms _) (by simp) (by simpa using hps) (by simpa using hps2)
    obtain ⟨r, hr, rfl⟩ := List.mem_map.mp hz
    refine ⟨[some H2, a1, a2, a3, a4, a5, a6, a7, a8, some x, none], _, _, _, rfl, rfl, q3, H3, some x, rs ++ [r], rfl, w3, by simp [zs], by simp [hlen], fun s hs => ?_⟩
    rcases List.mem_append.mp hs with hs | hs
    · exact hmem s hs
    · rw [List.mem_singleton.mp hs]
      exact hr) ⟨H1, y, [], rfl, w, rfl, rfl, by simp⟩
  obtain ⟨H2, y2, rs, rfl, hH2, rfl, hlen, hmem⟩ := i2
  refine ⟨H2, rs, comp_of src q2, hH2, ?_, hmem⟩
  simp at hlen
  omega
theorem isr_0 {H : D} (hH : Hand H) : ∃ H' rs, d__law_is_right_0 [some H, none, none, none, none, none, none, none, none, none, none] = .ok .nx [some H', some (.lst true (zs rs)), none, none, none, none, none, none, none, none, none] ∧ Hand H' ∧ rs.length < 5 ∧ ∀ r ∈ rs, r ∈ [0, 1, 2, 5, 17, 400, 33] := by
  obtain ⟨H', rs, q, w, hl, hm⟩ := drawn (ps := [0, 1, 2, 5, 17, 400, 33]) (ms := (mCons (mP (pK (.int 0))) (mCons (mP (pK (.int 1))) (mCons (mP (pK (.int 2))) (mCons (mP (pK (.int 5))) (mCons (mP (pK (.int 17))) (mCons (mP (pK (.int 400))) (mCons (mP (pK (.int 33))) (M.ret [])))))))))
    (b := 5) (e0 := [none, none, none, none, none, none, none, none, none]) (y := none) (by decide) (by decide) (by decide) (by decide) rfl (fun e => rfl) hH
  refine ⟨H', rs, ?_, w, by omega, hm⟩
  unfold d__law_is_right_0
  exact asg_ok q rfl
theorem isr_1 {H : D} {x1 : Option D} (hH : Hand H) : ∃ H' c, d__law_is_right_1 [some H, x1, none, none, none, none, none, none, none, none, none] = .ok .nx [some H', x1, some (.tup (zs [c])), none, none, none, none, none, none, none, none] ∧ Hand H' ∧ c ∈ [1, -2, 3] := by
  obtain ⟨H', x, q, w, hx⟩ := any_step (e := [some H, x1, none, none, none, none, none, none, none, none, none]) (xs := zs [1, -2, 3]) (ms := (mCons (mP (pK (.int 1))) (mCons (mP (pUn negD (pK (.int 2)))) (mCons (mP (pK (.int 3))) (M.ret []))))) rfl hH rfl (by rfl) (by decide) (by decide)
  obtain ⟨c, hc, rfl⟩ := List.mem_map.mp hx
  refine ⟨H', c, ?_, w, hc⟩
  unfold d__law_is_right_1
  exact asg_ok (tup_of (cons_of q nil_ok) (by simp)) rfl
theorem isr_2 {H : D} {x1 x2 : Option D} (hH : Hand H) : ∃ H' os, d__law_is_right_2 [some H, x1, x2, none, none, none, none, none, none, none, none] = .ok .nx [some H', x1, x2, some (.lst true (zs os)), none, none, none, none, none, none, none] ∧ Hand H' ∧ os.length < 3 ∧ ∀ r ∈ os, r ∈ [-1, -7, 401, 1000] := by
  obtain ⟨H', rs, q, w, hl, hm⟩ := drawn (ps := [-1, -7, 401, 1000]) (ms := (mCons (mP (pUn negD (pK (.int 1)))) (mCons (mP (pUn negD (pK (.int 7)))) (mCons (mP (pK (.int 401))) (mCons (mP (pK (.int 1000))) (M.ret []))))))
    (b := 3) (e0 := [none, x1, x2, none, none, none, none, none, none]) (y := none) (by decide) (by decide) (by decide) (by decide) rfl (fun e => rfl) hH
  refine ⟨H', rs, ?_, w, by omega, hm⟩
  unfold d__law_is_right_2
  exact asg_ok q rfl
theorem times_ml {r : Int} {p : List Int} (hp : 0 < p.length) (hp2 : p.length ≤ 900) (hr : r.natAbs ≤ 2000) : den__law_times [.tup (zs p), .tup (zs [0 - r, 1])] = .ok (.tup (zs (ml r p))) [] := by
  have e : (0 - r) = -r := Int.zero_sub r
  rw [e]
  obtain ⟨c, q, pr⟩ := c_times (p := p) (q := [-r, 1]) hp hp2 (by simp) (by simp) (fun b hb => by
    have : b = -r ∨ b = 1 := by simpa using hb
    rcases this with rfl | rfl <;> omega)
  rw [pr.uniq (prod_lin r hp)] at q
  exact q
theorem isr_loop {x0 x1 : Option D} : ∀ (js F : List Int) (y : Option D), 0 < F.length → F.length + js.length ≤ 900 → (∀ k ∈ js, k.natAbs ≤ 2000) →
    loopM (gN 4) [4] d__law_is_right_3_0 (zs js) [x0, x1, some (.tup (zs F)), none, y, none, none, none, none, none, none] = .ok .nx [x0, x1, some (.tup (zs (mk js.reverse F))), none, none, none, none, none, none, none, none]
  | [], F, y, _, _, _ => by rfl
  | r :: js, F, y, h0, hl, hk => by
    have e1 := times_ml (r := r) h0 (by omega) (hk r List.mem_cons_self)
    have e2 : d__law_is_right_3_0 [x0, x1, some (.tup (zs F)), none, some (.int r), none, none, none, none, none, none] = .ok .nx [x0, x1, some (.tup (zs (ml r F))), none, some (.int r), none, none, none, none, none, none] := by
      unfold d__law_is_right_3_0
      refine asg_ok (call2_of (d := .tup (zs F)) (d2 := .tup (zs [0 - r, 1])) (e' := [x0, x1, some (.tup (zs F)), none, some (.int r), none, none, none, none, none, none]) (e2 := [x0, x1, some (.tup (zs F)), none, some (.int r), none, none, none, none, none, none]) (by simp [mShare, pV, D.frz]) (tup_of (cons_of (mP_of rfl) (cons_of (mP_of rfl) nil_ok)) (by simp)) (by rw [frz_tz, frz_tz]; exact e1)) rfl
    show loopM _ _ _ (.int r :: zs js) _ = _
    rw [loop_nx (e1 := [x0, x1, some (.tup (zs F)), none, some (.int r), none, none, none, none, none, none]) rfl e2]
    rw [isr_loop js _ _ (by rw [ml_len]; omega) (by rw [ml_len]; simp at hl; omega) fun j hj => hk j (List.mem_cons_of_mem _ hj)]
    rw [List.reverse_cons]
    unfold mk
    rw [List.foldr_append]
    rfl
theorem isr_3 {x0 : Option D} {rs os F : List Int} (h0 : 0 < F.length) (h1 : F.length ≤ 100) (h2 : rs.length ≤ 100) (h3 : os.length ≤ 100) (hr : ∀ k ∈ rs, k.natAbs ≤ 2000) (ho : ∀ k ∈ os, k.natAbs ≤ 2000) :
    d__law_is_right_3 [x0, some (.lst true (zs rs)), some (.tup (zs F)), some (.lst true (zs os)), none, none, none, none, none, none, none] = .ok .nx [x0, some (.lst false (zs rs)), some (.tup (zs (mk (rs ++ os) F))), none, none, none, none, none, none, none, none] := by
  unfold d__law_is_right_3
  have s : mIter (mOp aAdd (mShare 1) (mTake 3)) [x0, some (.lst true (zs rs)), some (.tup (zs F)), some (.lst true (zs os)), none, none, none, none, none, none, none] = .ok (zs (rs ++ os)) [x0, some (.lst false (zs rs)), some (.tup (zs F)), none, none, none, none, none, none, none, none] := by
    refine iter_of (op_of (x := .lst false (zs rs)) (y := .lst true (zs os)) (z := .lst true (zs rs ++ zs os)) (e1 := [x0, some (.lst false (zs rs)), some (.tup (zs F)), some (.lst true (zs os)), none, none, none, none, none, none, none]) (by simp [mShare, pV, D.frz]) (take_of rfl) (aAdd_lst (line_1000 (by simp; omega)))) ?_
    show some (D.frzL (zs rs ++ zs os)) = some (zs (rs ++ os))
    rw [← List.map_append]
    exact congrArg some (frzL_zs _)
  refine for_of s ?_
  rw [isr_loop _ _ _ h0 (by simp; omega) fun k hk => ?_]
  · rw [mk_perm (List.reverse_perm _)]
  · rcases List.mem_append.mp hk with hk | hk
    · exact hr k hk
    · exact ho k hk
theorem isr_4 {H : D} {x1 x2 : Option D} (hH : Hand H) : ∃ H' q, d__law_is_right_4 [some H, x1, x2, none, none, none, none, none, none, none, none] = .ok .nx [some H', x1, x2, none, none, some (.tup (zs q)), none, none, none, none, none] ∧ Hand H' ∧ q ∈ [[1], [1, 0, 1], [1, 1, 1], [-1, 2], [2, 0, 3]] := by
  obtain ⟨H', x, q, w, hx⟩ := any_step (e := [some H, x1, x2, none, none, none, none, none, none, none, none]) (xs := [.tup (zs [1]), .tup (zs [1, 0, 1]), .tup (zs [1, 1, 1]), .tup (zs [-1, 2]), .tup (zs [2, 0, 3])])
    (ms := (mCons (mTup (mCons (mP (pK (.int 1))) (M.ret []))) (mCons (mTup (mCons (mP (pK (.int 1))) (mCons (mP (pK (.int 0))) (mCons (mP (pK (.int 1))) (M.ret []))))) (mCons (mTup (mCons (mP (pK (.int 1))) (mCons (mP (pK (.int 1))) (mCons (mP (pK (.int 1))) (M.ret []))))) (mCons (mTup (mCons (mP (pUn negD (pK (.int 1)))) (mCons (mP (pK (.int 2))) (M.ret [])))) (mCons (mTup (mCons (mP (pK (.int 2))) (mCons (mP (pK (.int 0))) (mCons (mP (pK (.int 3))) (M.ret []))))) (M.ret [])))))))
    rfl hH rfl (by rfl) (by decide) (by decide)
  have hx2 : ∃ q, x = .tup (zs q) ∧ q ∈ [[1], [1, 0, 1], [1, 1, 1], [-1, 2], [2, 0, 3]] := by
    simp only [List.mem_cons, List.not_mem_nil, or_false] at hx
    rcases hx with rfl | rfl | rfl | rfl | rfl
    · exact ⟨[1], rfl, by decide⟩
    · exact ⟨[1, 0, 1], rfl, by decide⟩
    · exact ⟨[1, 1, 1], rfl, by decide⟩
    · exact ⟨[-1, 2], rfl, by decide⟩
    · exact ⟨[2, 0, 3], rfl, by decide⟩
  obtain ⟨p, rfl, hp⟩ := hx2
  refine ⟨H', p, ?_, w, hp⟩
  unfold d__law_is_right_4
  exact asg_ok q rfl
/-! ### texts -/
theorem canLay_ints (ns : List Int) : PyData.canLayAll0 (D.pyL (zs ns)) = true := by
  induction ns with
  | nil => rfl
  | cons n ns ih =>
    simp only [zs, List.map_cons, D.pyL, D.py, PyData.canLayAll0, PyData.canLay0, Bool.true_and]
    exact ih
theorem pyL_ints (ns : List Int) : D.pyL (zs ns) = ns.map PyData.int := by
  induction ns with
  | nil => rfl
  | cons n ns ih =>
    simp only [zs, List.map_cons, D.pyL, D.py]
    rw [show D.pyL (ns.map D.int) = ns.map PyData.int from ih]
end K74
namespace K74
open PySem L2 DL
theorem log_small {i : Int} (h : i.natAbs < 10 ^ 12) : i.natAbs.log2 < 40 := by
  by_cases h0 : i.natAbs = 0
  · rw [h0]
    decide
  · exact (Nat.log2_lt h0).mpr (Nat.lt_trans h (by decide))
theorem show_ints : ∀ ns : List Int, (∀ n ∈ ns, n.natAbs < 10 ^ 12) → PyData.showableAll (ns.map PyData.int) = true ∧ PyData.depthAll (ns.map PyData.int) = 0 ∧ PyData.weightAll (ns.map PyData.int) ≤ 41 * ns.length
  | [], _ => ⟨rfl, rfl, Nat.le_refl _⟩
  | n :: ns, h => by
    obtain ⟨a, b, c⟩ := show_ints ns fun x hx => h x (List.mem_cons_of_mem _ hx)
    have l := log_small (h n List.mem_cons_self)
    refine ⟨?_, ?_, ?_⟩
    · simp only [List.map_cons, PyData.showableAll, PyData.showable, a, Bool.and_true, decide_eq_true_eq]
      omega
    · simp only [List.map_cons, PyData.depthAll, PyData.depth, b]
      rfl
    · simp only [List.map_cons, PyData.weightAll, PyData.weight, List.length_cons]
      split <;> omega
theorem repr_ints {ns : List Int} (hl : ns.length ≤ 1000) (h : ∀ n ∈ ns, n.natAbs < 10 ^ 12) : ∃ s, D.repr (.tup (zs ns)) = some (.str s) := by
  obtain ⟨a, b, c⟩ := show_ints ns h
  have e : (D.tup (zs ns)).py = .tuple (ns.map PyData.int) := by simp only [D.py]; rw [pyL_ints]
  have cl : (D.tup (zs ns)).py.canLay0 = true := by
    simp only [D.py, PyData.canLay0]
    exact canLay_ints ns
  refine ⟨(D.tup (zs ns)).py.shown, ?_⟩
  unfold D.repr
  rw [if_pos]
  refine ⟨rfl, by rw [e]; simpa only [PyData.showable] using a, cl, by rw [e]; simp only [PyData.depth, b]; decide, ?_⟩
  refine PyData.shown_fits (B := 13) (by decide) (by decide) (PyData.leavesShort_of_canLay0 13 _ cl ?_) ?_
  · rw [e]
    simp only [PyData.intsShort]
    exact PyData.intsShortAll_ints ns h
  · rw [e]
    simp only [PyData.weight]
    have : (2 : Nat) ^ 20 = 1048576 := by decide
    omega
theorem gEq_str (s : Str) : gEq (.str s) (.str s) = some (.bl true) := by
  unfold gEq orG gEqS
  simp
theorem gNe_str (s : Str) : gNe (.str s) (.str s) = some (.bl false) := by
  unfold gNe orG gEqS
  simp
/-! ### what the law builds -/
theorem five {q : List Int} (h : q ∈ [[1], [1, 0, 1], [1, 1, 1], [-1, 2], [2, 0, 3]]) : 0 < q.length ∧ q.length ≤ 3 ∧ (∀ b ∈ q, -(2 ^ 64) < b ∧ b < 2 ^ 64) ∧ lead q ≠ 0 ∧ (∀ x, 0 ≤ x → ev q x ≠ 0) ∧ (cf q 0).natAbs + (cf q 1).natAbs + (cf q 2).natAbs ≤ 5 := by
  simp only [List.mem_cons, List.not_mem_nil, or_false] at h
  rcases h with rfl | rfl | rfl | rfl | rfl
  · exact ⟨by decide, by decide, by decide, by decide, fun x hx => by simp [ev], by decide⟩
  · refine ⟨by decide, by decide, by decide, by decide, fun x hx => ?_, by decide⟩
    have : 0 ≤ x * x := Int.mul_nonneg hx hx
    simp only [ev]
    intro z
    simp at z
    omega
  · refine ⟨by decide, by decide, by decide, by decide, fun x hx => ?_, by decide⟩
    have : 0 ≤ x * (1 + x) := Int.mul_nonneg hx (by omega)
    simp only [ev]
    intro z
    simp at z
    omega
  · refine ⟨by decide, by decide, by decide, by decide, fun x hx => ?_, by decide⟩
    simp only [ev]
    intro z
    simp at z
    omega
  · refine ⟨by decide, by decide, by decide, by decide, fun x hx => ?_, by decide⟩
    have : 0 ≤ x * (x * 3) := Int.mul_nonneg hx (by omega)
    simp only [ev]
    intro z
    simp at z
    omega
theorem sc_prod (c : Int) (q : List Int) (h : q.length ≤ 3) (h0 : 0 < q.length) : IsProd [c] q (q.map (c * ·)) := by
  refine ⟨by simp, fun k => ?_⟩
  have e : cf (q.map (c * ·)) k = c * cf q k := by
    unfold cf
    simp only [List.getD_eq_getElem?_getD, List.getElem?_map]
    cases q[k]? <;> simp
  rw [e]
  rcases Nat.lt_or_ge k 1 with h1 | h1
  · obtain rfl : k = 0 := by omega
    simp [cf]
  · rcases Nat.lt_or_ge k 2 with h2 | h2
    · obtain rfl : k = 1 := by omega
      simp [cf]
    · rcases Nat.lt_or_ge k 3 with h3 | h3
      · obtain rfl : k = 2 := by omega
        simp [cf]
      · rw [cf_len (p := q) (by omega), cf_len (p := [c]) (k := k) (by simp; omega), cf_len (p := [c]) (k := k - 1) (by simp; omega), cf_len (p := [c]) (k := k - 2) (by simp; omega)]
        simp
theorem ev_sc (c : Int) (x : Int) : ∀ q : List Int, ev (q.map (c * ·)) x = c * ev q x
  | [] => by simp [ev]
  | a :: q => by
    simp only [List.map_cons, ev, ev_sc c x q]
    rw [Int.mul_add, Int.mul_left_comm]
theorem lead_sc (c : Int) (q : List Int) : lead (q.map (c * ·)) = c * lead q := by
  unfold lead cf
  simp only [List.length_map, List.getD_eq_getElem?_getD, List.getElem?_map]
  cases q[q.length - 1]? <;> simp
theorem mk_app (a b G : List Int) : mk (a ++ b) G = mk a (mk b G) := by
  unfold mk
  rw [List.foldr_append]
theorem big_ok {rs os q : List Int} {c : Int} (hr : rs.length < 5) (hr2 : ∀ r ∈ rs, r ∈ [0, 1, 2, 5, 17, 400, 33]) (ho : os.length < 3) (ho2 : ∀ r ∈ os, r ∈ [-1, -7, 401, 1000]) (hc : c ∈ [1, -2, 3]) (hq : q ∈ [[1], [1, 0, 1], [1, 1, 1], [-1, 2], [2, 0, 3]]) :
    ∃ P, den__law_times [.tup (zs (mk (rs ++ os) [c])), .tup (zs q)] = .ok (.tup (zs P)) [] ∧ den_product_row [.tup (zs P)] = .ok (.tup (zs (sortI rs))) [] := by
  obtain ⟨q0, q3, qb, ql, qe, qs⟩ := five hq
  have c0 : c ≠ 0 ∧ c.natAbs ≤ 3 := by
    simp only [List.mem_cons, List.not_mem_nil, or_false] at hc
    rcases hc with rfl | rfl | rfl <;> decide
  have rb : ∀ r ∈ rs, 0 ≤ r ∧ r ≤ 400 := fun r h => by
    have := hr2 r h
    simp only [List.mem_cons, List.not_mem_nil, or_false] at this
    omega
  have ob : ∀ r ∈ os, r.natAbs ≤ 1000 ∧ ¬ (0 ≤ r ∧ r ≤ 400) := fun r h => by
    have := ho2 r h
    simp only [List.mem_cons, List.not_mem_nil, or_false] at this
    omega
  obtain ⟨P, e1, pr⟩ := c_times (p := mk (rs ++ os) [c]) (q := q) (by rw [mk_len]; simp) (by rw [mk_len]; simp; omega) q0 q3 qb
  have pr2 := prod_mk (rs := rs ++ os) q0 (by simp) (sc_prod c q q3 q0)
  obtain rfl := pr.uniq pr2
  refine ⟨_, e1, ?_⟩
  have sp : (sortI rs).Perm rs := List.mergeSort_perm rs _
  have ss : (sortI rs).Pairwise (· ≤ ·) := by
    have := List.pairwise_mergeSort (le := fun i j : Int => decide (i ≤ j)) (fun a b c h1 h2 => by simp at *; omega) (fun a b => by simp; omega) rs
    exact this.imp fun h => by simpa using h
  have em : mk (rs ++ os) (q.map (c * ·)) = mk (sortI rs) (mk os (q.map (c * ·))) := by
    rw [← mk_app]
    exact mk_perm (sp.symm.append_right os)
  have gl : 0 < (q.map (c * ·)).length := by simpa using q0
  rw [em]
  refine c_row (rs := sortI rs) (G := mk os (q.map (c * ·))) (by rw [mk_len]; omega) (by rw [mk_len, sp.length_eq]; simp; omega) ss (fun r h => rb r (sp.mem_iff.mp h)) (fun x hx hx2 => ?_) ?_ ?_
  · refine ev_ne ?_ fun z => (ob x z).2 ⟨hx, hx2⟩
    rw [ev_sc]
    exact Int.mul_ne_zero c0.1 (qe x hx)
  · rw [← em]
    have b0 : Bd 15 (q.map (c * ·)) := by
      have h1 : Bd 3 [c] := Bd.of fun x hx => by rw [List.mem_singleton.mp hx]; exact c0.2
      refine (bd_prod (sc_prod c q q3 q0) h1).mono ?_
      omega
    have b1 := (bd_mk (rs := rs ++ os) 1000 b0 fun r h => by
      rcases List.mem_append.mp h with h | h
      · have := rb r h
        omega
      · exact (ob r h).1).mem
    intro x hx
    have h2 := b1 x hx
    have h3 : (1 + 1000) ^ (rs ++ os).length ≤ (1 + 1000) ^ 6 := Nat.pow_le_pow_right (by decide) (by simp; omega)
    have h4 : 15 * (1 + 1000) ^ 6 < 1000000000000000000000000000000 := by decide
    have h5 : 15 * (1 + 1000) ^ (rs ++ os).length ≤ 15 * (1 + 1000) ^ 6 := Nat.mul_le_mul_left _ h3
    omega
  · rw [lead_mk gl, lead_sc]
    exact Int.mul_ne_zero c0.1 ql
theorem run_ok {n : Nat} {high : Int} (hn : 2 ≤ n ∧ n ≤ 8) (hh : 0 ≤ high ∧ high ≤ 3) : den_product_row [.tup (zs (mk (runRoots n high) [1]))] = .ok (.tup (zs (runRoots n high))) [] := by
  have nh : 0 ≤ (n : Int) * high := Int.mul_nonneg (by omega) hh.1
  have nh2 : (n : Int) * high ≤ 8 * 3 := Int.mul_le_mul (by omega) hh.2 hh.1 (by decide)
  have hb : ∀ r ∈ runRoots n high, 0 ≤ r ∧ r ≤ 400 := fun r h => by
    unfold runRoots at h
    rcases List.mem_cons.mp h with rfl | h
    · decide
    · obtain ⟨k, hk, rfl⟩ := List.mem_map.mp h
      have := List.mem_range.mp hk
      omega
  have hl : (runRoots n high).length = n := by
    unfold runRoots
    simp
    omega
  refine c_row (by decide) (by rw [hl]; simp; omega) ?_ hb (fun x _ _ => by simp [ev]) ?_ (by decide)
  · unfold runRoots
    refine List.pairwise_cons.mpr ⟨fun r h => ?_, ?_⟩
    · obtain ⟨k, hk, rfl⟩ := List.mem_map.mp h
      omega
    · refine List.pairwise_map.mpr ?_
      have : (List.range (n - 1)).Pairwise (· < ·) := List.pairwise_lt_range
      exact this.imp fun h => by omega
  · have b1 := (bd_mk (rs := runRoots n high) 400 (show Bd 1 [1] from Bd.of fun x hx => by rw [List.mem_singleton.mp hx]; decide) fun r h => by have := hb r h; omega).mem
    intro x hx
    have h2 := b1 x hx
    rw [hl] at h2
    have h3 : (1 + 400) ^ n ≤ (1 + 400) ^ 8 := Nat.pow_le_pow_right (by decide) hn.2
    have h4 : 1 * (1 + 400) ^ 8 < 1000000000000000000000000000000 := by decide
    omega
end K74
namespace K74
open PySem L2 DL
theorem isr_5 {x0 : Option D} {rs os q : List Int} {c : Int} (hr : rs.length < 5) (hr2 : ∀ r ∈ rs, r ∈ [0, 1, 2, 5, 17, 400, 33]) (ho : os.length < 3) (ho2 : ∀ r ∈ os, r ∈ [-1, -7, 401, 1000]) (hc : c ∈ [1, -2, 3]) (hq : q ∈ [[1], [1, 0, 1], [1, 1, 1], [-1, 2], [2, 0, 3]]) :
    d__law_is_right_5 [x0, some (.lst false (zs rs)), some (.tup (zs (mk (rs ++ os) [c]))), none, none, some (.tup (zs q)), none, none, none, none, none] = .ok .nx [x0, some (.lst false (zs rs)), some (.tup (zs (mk (rs ++ os) [c]))), none, none, some (.tup (zs q)), none, none, none, none, none] := by
  obtain ⟨P, e1, e2⟩ := big_ok hr hr2 ho ho2 hc hq
  have sp : (sortI rs).Perm rs := List.mergeSort_perm rs _
  obtain ⟨s, hs⟩ := repr_ints (ns := sortI rs) (by rw [sp.length_eq]; omega) fun n hn => by
    have := hr2 n (sp.mem_iff.mp hn)
    simp only [List.mem_cons, List.not_mem_nil, or_false] at this
    omega
  unfold d__law_is_right_5
  rw [if_f (e' := [x0, some (.lst false (zs rs)), some (.tup (zs (mk (rs ++ os) [c]))), none, none, some (.tup (zs q)), none, none, none, none, none])]
  · rfl
  · refine tf_of (op_of (x := .str s) (y := .str s) (e1 := [x0, some (.lst false (zs rs)), some (.tup (zs (mk (rs ++ os) [c]))), none, none, some (.tup (zs q)), none, none, none, none, none]) (app1_of (d := .tup (zs (sortI rs))) (call1_of (d := .tup (zs P)) (call2_of (d := .tup (zs (mk (rs ++ os) [c]))) (d2 := .tup (zs q)) (e' := [x0, some (.lst false (zs rs)), some (.tup (zs (mk (rs ++ os) [c]))), none, none, some (.tup (zs q)), none, none, none, none, none]) ?_ ?_ ?_) ?_) hs) (app1_of (d := .tup (zs (sortI rs))) (app1_of (d := .lst true (zs (sortI rs))) (app1_of (d := .lst false (zs rs)) ?_ ?_) rfl) hs) (gNe_str s))
    · simp [mShare, pV, D.frz]
    · simp [mShare, pV, D.frz]
    · rw [frz_tz, frz_tz]
      exact e1
    · rw [frz_tz]
      exact e2
    · simp [mShare, pV, D.frz]
    · simp only [D.sortedI]
      rw [intsOf_map]
      rfl
theorem isr_6 {H : D} {x1 x2 x3 x4 x5 : Option D} (hH : Hand H) : ∃ (H' : D) (n : Nat) (high : Int), d__law_is_right_6 [some H, x1, x2, x3, x4, x5, none, none, none, none, none] = .ok .nx [some H', x1, x2, x3, x4, x5, some (.int n), some (.int high), none, none, none] ∧ Hand H' ∧ (2 ≤ n ∧ n ≤ 8) ∧ 0 ≤ high ∧ high ≤ 3 := by
  obtain ⟨H1, v, q1, w1, lo1, hi1⟩ := draw_step (e := [some H, x1, x2, x3, x4, x5, none, none, none, none, none]) (b := 7) rfl hH (by decide) (by decide)
  obtain ⟨H2, u, q2, w2, lo2, hi2⟩ := draw_step (e := [some H1, x1, x2, x3, x4, x5, none, none, none, none, none]) (b := 4) rfl w1 (by decide) (by decide)
  refine ⟨H2, (2 + v).toNat, u, ?_, w2, by omega, lo2, by omega⟩
  unfold d__law_is_right_6
  refine asg_ok (tup_of (cons_of (op_of (x := .int 2) (mP_of rfl) q1 (aAdd_int _ _)) (cons_of q2 nil_ok)) (by simp)) ?_
  have : (((2 + v).toNat : Nat) : Int) = 2 + v := by omega
  rw [this]
  rfl
theorem isr_7 {x0 x1 x2 x3 x4 x5 : Option D} {n : Nat} {high : Int} (hn : 2 ≤ n ∧ n ≤ 8) (hh : 0 ≤ high ∧ high ≤ 3) : d__law_is_right_7 [x0, x1, x2, x3, x4, x5, some (.int n), some (.int high), none, none, none] = .ok .nx [x0, x1, x2, x3, x4, x5, some (.int n), some (.int high), some (.tup (zs (runRoots n high))), none, none] := by
  unfold d__law_is_right_7
  have cm : mComp (mRange2 (mCons (mP (pK (.int 1))) (mCons (mShare 6) (M.ret [])))) (gN 10) [10] (M.ret true) (mP (pOp iAdd (pOp iMul (pV 6) (pV 7)) (pV 10))) [x0, x1, x2, x3, x4, x5, some (.int n), some (.int high), none, none, none] = .ok (.lst true (zs ((List.range (n - 1)).map fun (k : Nat) => (n : Int) * high + (1 + k)))) [x0, x1, x2, x3, x4, x5, some (.int n), some (.int high), none, none, none] := by
    refine comp_of (range2_of (a := 1) (b := n) (mP_of rfl) (share_int rfl rfl) (by decide) (by decide) (by omega) (by omega)) ?_
    rw [compM_map (e0 := [x0, x1, x2, x3, x4, x5, some (.int n), some (.int high), none, none, none]) (fun d => match d with | .int k => .int ((n : Int) * high + k) | d => d) (fun x hx => ?_) rfl]
    · rw [List.nil_append, List.map_map]
      have : ((n : Int) - 1).toNat = n - 1 := by omega
      rw [this, zs, List.map_map]
      rfl
    · obtain ⟨k, hk, rfl⟩ := List.mem_map.mp hx
      refine ⟨[x0, x1, x2, x3, x4, x5, some (.int n), some (.int high), none, none, some (.int (1 + k))], [x0, x1, x2, x3, x4, x5, some (.int n), some (.int high), none, none, some (.int (1 + k))], [x0, x1, x2, x3, x4, x5, some (.int n), some (.int high), none, none, some (.int (1 + k))], rfl, rfl, mP_of (pO_of (pO_of (x := .int n) (y := .int high) rfl rfl (iMul_int (cmul_l (by omega)))) (y := .int (1 + k)) rfl (iAdd_int _ _)), rfl⟩
  refine asg_ok (app1_of (d := .lst true (zs (runRoots n high))) (op_of (x := .lst true (zs [0])) (lst_of (cons_of (mP_of (i := 0) rfl) nil_ok) (by simp)) cm ?_) rfl) rfl
  rw [aAdd_lst (line_1000 (by simp; omega))]
  rfl
theorem isr_8 {H : D} {x1 x2 x3 x4 x5 : Option D} {n : Nat} {high : Int} (hn : 2 ≤ n ∧ n ≤ 8) (hh : 0 ≤ high ∧ high ≤ 3) : ∃ e, d__law_is_right_8 [some H, x1, x2, x3, x4, x5, some (.int n), some (.int high), some (.tup (zs (runRoots n high))), none, none] = .ok (.rt (.bl true)) (some H :: e) := by
  have nh : 0 ≤ (n : Int) * high := Int.mul_nonneg (by omega) hh.1
  have nh2 : (n : Int) * high ≤ 8 * 3 := Int.mul_le_mul (by omega) hh.2 hh.1 (by decide)
  obtain ⟨s, hs⟩ := repr_ints (ns := runRoots n high) (by unfold runRoots; simp; omega) fun r h => by
    unfold runRoots at h
    rcases List.mem_cons.mp h with rfl | h
    · decide
    · obtain ⟨k, hk, rfl⟩ := List.mem_map.mp h
      have := List.mem_range.mp hk
      omega
  refine ⟨[x1, x2, x3, x4, x5, none, some (.int high), none, none, none], ?_⟩
  unfold d__law_is_right_8
  refine ret_ok (op_of (x := .str s) (y := .str s) (e1 := [some H, x1, x2, x3, x4, x5, none, some (.int high), some (.tup (zs (runRoots n high))), none, none]) (app1_of (d := .tup (zs (runRoots n high))) (call1_of (d := .tup (zs (mk (runRoots n high) [1]))) (call3_of (d := .int n) (d2 := .int (0 - high)) (d3 := .int high) (take_of rfl) (mP_of rfl) (share_int rfl rfl) (c_run (by omega) (by omega))) (by rw [frz_tz]; exact run_ok hn hh)) hs) (app1_of (d := .tup (zs (runRoots n high))) (take_of rfl) hs) (gEq_str s))
theorem c_is_right {H : D} (hH : Hand H) : ∃ H', den__law_is_right [H] = .ok (.bl true) [some H'] ∧ Hand H' := by
  obtain ⟨H0, rs, q0, w0, hr, hr2⟩ := isr_0 hH
  obtain ⟨H1, c, q1, w1, hc⟩ := isr_1 (x1 := some (.lst true (zs rs))) w0
  obtain ⟨H2, os, q2, w2, ho, ho2⟩ := isr_2 (x1 := some (.lst true (zs rs))) (x2 := some (.tup (zs [c]))) w1
  have rb : ∀ r ∈ rs, r.natAbs ≤ 2000 := fun r h => by
    have := hr2 r h
    simp only [List.mem_cons, List.not_mem_nil, or_false] at this
    omega
  have ob : ∀ r ∈ os, r.natAbs ≤ 2000 := fun r h => by
    have := ho2 r h
    simp only [List.mem_cons, List.not_mem_nil, or_false] at this
    omega
  have q3 := isr_3 (x0 := some H2) (rs := rs) (os := os) (F := [c]) (by simp) (by simp) (by omega) (by omega) rb ob
  obtain ⟨H4, q, q4, w4, hq⟩ := isr_4 (x1 := some (.lst false (zs rs))) (x2 := some (.tup (zs (mk (rs ++ os) [c])))) w2
  have q5 := isr_5 (x0 := some H4) hr hr2 ho ho2 hc hq
  obtain ⟨H6, n, high, q6, w6, hn, hh⟩ := isr_6 (x1 := some (.lst false (zs rs))) (x2 := some (.tup (zs (mk (rs ++ os) [c])))) (x3 := none) (x4 := none) (x5 := some (.tup (zs q))) w4
  have q7 := isr_7 (x0 := some H6) (x1 := some (.lst false (zs rs))) (x2 := some (.tup (zs (mk (rs ++ os) [c])))) (x3 := none) (x4 := none) (x5 := some (.tup (zs q))) hn hh
  obtain ⟨e, q8⟩ := isr_8 (H := H6) (x1 := some (.lst false (zs rs))) (x2 := some (.tup (zs (mk (rs ++ os) [c])))) (x3 := none) (x4 := none) (x5 := some (.tup (zs q))) hn hh
  refine ⟨H6, ?_, w6⟩
  unfold den__law_is_right
  refine den_rt (e := some H6 :: e) ?_ rfl
  show mSeq _ _ [some H, none, none, none, none, none, none, none, none, none, none] = _
  rw [seq_nx q0, seq_nx q1, seq_nx q2, seq_nx q3, seq_nx q4, seq_nx q5, seq_nx q6, seq_nx q7]
  exact q8
theorem c_hand (ns : List Int) (h : ns.length ≤ 63) : ∃ H, den__law_hand [.scr ns] = .ok H [] ∧ Hand H := by
  let cs := ns.map fun n => if n < 0 then -n else n
  refine ⟨handT cs 0 0 (5047 + 7 * ns.length) 0, ?_, ⟨_, _, _, _, _, rfl⟩⟩
  unfold den__law_hand
  refine den_rt (e := [none, some (.lst false (zs cs)), none]) ?_ rfl
  show mSeq _ _ [some (.scr ns), none, none] = _
  have cut : cutD (zs ns) none (some 63) = zs ns := by
    unfold cutD
    have e1 : HT.sIx (zs ns).length 0 none = 0 := rfl
    have e2 : HT.sIx (zs ns).length (zs ns).length (some 63) = (zs ns).length := by
      unfold HT.sIx
      simp
      omega
    rw [e1, e2, Nat.sub_zero, List.drop_zero]
    exact List.take_of_length_le (Nat.le_refl _)
  have e0 : d__law_hand_0 [some (.scr ns), none, none] = .ok .nx [none, some (.lst true (zs cs)), none] := by
    unfold d__law_hand_0
    have s : mIter (mSl (mTake 0) noI (pI (pK (.int 63))) slX) [some (.scr ns), none, none] = .ok (zs ns) [none, none, none] := by
      refine iter_of (d := .lst true (zs ns)) ?_ (by simp [D.iter])
      unfold mSl
      rw [bind_ok (take_of rfl)]
      simp only [noI, pI, pK, slX]
      rw [show cutD (ns.map D.int) none (some 63) = zs ns from cut]
      rfl
    refine asg_ok (comp_of s (compM_map (e0 := [none, none, none]) (fun d => match d with | .int k => .int (if k < 0 then -k else k) | d => d) (fun x hx => ?_) rfl)) ?_
    · obtain ⟨k, hk, rfl⟩ := List.mem_map.mp hx
      exact ⟨[none, none, some (.int k)], [none, none, some (.int k)], [none, none, some (.int k)], rfl, rfl, mP_of rfl, rfl⟩
    · show some [none, some (D.lst true ([] ++ (zs ns).map _)), none] = _
      rw [List.nil_append, List.map_map]
      show some [none, some (D.lst true _), none] = some [none, some (.lst true (zs cs)), none]
      congr 5
      simp only [cs, zs, List.map_map]
      rfl
  rw [seq_nx e0]
  unfold d__law_hand_1
  refine ret_ok (lst_of (cons_of (d := .lst false (zs cs)) (e1 := [none, some (.lst false (zs cs)), none]) (by simp [mShare, pV, D.frz]) (cons_of (mP_of (i := 0) rfl) (cons_of (mP_of (i := 0) rfl) (cons_of (mP_of (i := 5047 + 7 * ns.length) ?_) (cons_of (mP_of (i := 0) rfl) nil_ok))))) (by simp))
  refine pO_of (x := .int 5047) (y := .int (7 * ns.length)) rfl (pO_of (x := .int 7) (y := .int cs.length) rfl (pA_of (x := .lst false (zs cs)) rfl (by simp [D.len])) ?_) (iAdd_int _ _)
  rw [iMul_int (cmul_l (by decide))]
  simp [cs]
theorem gNe_zs {rs : List Int} : gNe (.tup (zs rs)) (.tup (zs rs)) = some (.bl false) := by
  have cl : (D.tup (zs rs)).py.canLay0 = true := by
    simp only [D.py, PyData.canLay0]
    exact canLay_ints rs
  have dp : (D.tup (zs rs)).py.depth ≤ 64 := by
    simp only [D.py, PyData.depth]
    rw [pyL_ints]
    have : ∀ ns : List Int, PyData.depthAll (ns.map PyData.int) = 0 := by
      intro ns
      induction ns with
      | nil => rfl
      | cons n ns ih =>
        simp only [List.map_cons, PyData.depthAll, PyData.depth, ih]
        rfl
    rw [this]
    decide
  have sh : SeqAt.shaped (D.tup (zs rs)).py = true := by
    unfold SeqAt.shaped
    rw [cl, Bool.true_and]
    exact decide_eq_true dp
  show (gEqD true (.tup (zs rs)) (.tup (zs rs))) = _
  unfold gEqD
  rw [if_pos ⟨sh, sh⟩, SeqAt.eqv_refl _ cl]
  rfl
theorem c_stat {p rs : List Int} {e0 : DL.Env} {ms ns : M (List D)} (hp : p.length ≤ 1000) (hr : rs.length ≤ 1000) (h1 : ms e0 = .ok (zs p) e0) (h2 : ns e0 = .ok (zs rs) e0) (h3 : den_product_row [.tup (zs p)] = .ok (.tup (zs rs)) []) : mTf (mOp gNe (mCall den_product_row [] (mConsF (mTup ms) (M.ret []))) (mTup ns)) e0 = .ok false e0 :=
  tf_of (op_of (x := .tup (zs rs)) (y := .tup (zs rs)) (call1_of (d := .tup (zs p)) (tup_of h1 (by simpa using hp)) (by rw [frz_tz]; exact h3)) (tup_of h2 (by simpa using hr)) gNe_zs)
theorem s1 : den_product_row [.tup (zs [0, 2, -3, 1])] = .ok (.tup (zs [0, 1, 2])) [] := by
  have := c_row (rs := [0, 1, 2]) (G := [1]) (by decide) (by decide) (by decide) (by decide) (fun x _ _ => by simp [ev]) (by decide) (by decide)
  exact this
theorem s2 : den_product_row [.tup (zs [9, -6, 1])] = .ok (.tup (zs [3, 3])) [] := by
  have := c_row (rs := [3, 3]) (G := [1]) (by decide) (by decide) (by decide) (by decide) (fun x _ _ => by simp [ev]) (by decide) (by decide)
  exact this
theorem s3 : den_product_row [.tup (zs [1, 0, 1])] = .ok (.tup (zs [])) [] := by
  have := c_row (rs := []) (G := [1, 0, 1]) (by decide) (by decide) (by decide) (by decide) (fun x h _ => (five (q := [1, 0, 1]) (by decide)).2.2.2.2.1 x h) (by decide) (by decide)
  exact this
theorem s4 : den_product_row [.tup (zs [7])] = .ok (.tup (zs [])) [] := by
  have := c_row (rs := []) (G := [7]) (by decide) (by decide) (by decide) (by decide) (fun x _ _ => by simp [ev]) (by decide) (by decide)
  exact this
theorem plain_law : ∀ ns : List Int, ns.length ≤ 63 → ∃ e, den_law [.scr ns] = .ok (.bl true) e := by
  intro ns hns
  obtain ⟨H, qh, wh⟩ := c_hand ns hns
  have e0 : d_law_0 [some (.scr ns), none, none] = .ok .nx [none, some H, none] := by
    unfold d_law_0
    exact asg_ok (call1_of (d := .scr ns) (take_of rfl) (by simpa [D.frz] using qh)) rfl
  have e1 : d_law_1 [none, some H, none] = .ok .nx [none, some H, none] := by
    unfold d_law_1
    rw [if_f (e' := [none, some H, none]) (by exact c_stat (p := [0, 2, -3, 1]) (rs := [0, 1, 2]) (by decide) (by decide) rfl rfl s1)]
    rfl
  have e2 : d_law_2 [none, some H, none] = .ok .nx [none, some H, none] := by
    unfold d_law_2
    rw [if_f (e' := [none, some H, none]) (by exact c_stat (p := [9, -6, 1]) (rs := [3, 3]) (by decide) (by decide) rfl rfl s2)]
    rfl
  have e3 : d_law_3 [none, some H, none] = .ok .nx [none, some H, none] := by
    unfold d_law_3
    rw [if_f (e' := [none, some H, none]) (by exact c_stat (p := [1, 0, 1]) (rs := []) (by decide) (by decide) rfl rfl s3)]
    rfl
  have e4 : d_law_4 [none, some H, none] = .ok .nx [none, some H, none] := by
    unfold d_law_4
    rw [if_f (e' := [none, some H, none]) (by exact c_stat (p := [7]) (rs := []) (by decide) (by decide) rfl rfl s4)]
    rfl
  let Inv : Nat → DL.Env → List D → Prop := fun i e acc => ∃ H2 y, e = [none, some H2, y] ∧ Hand H2 ∧ acc = List.replicate i (.bl true)
  obtain ⟨e', acc, q2, i2⟩ := compM_inv (g := gN 2) (ks := [2]) (t := M.ret true) (m := mCall den__law_is_right [(0, 1)] (mConsR 1 (M.ret []))) Inv (xs := (List.range (6 : Int).toNat).map fun (k : Nat) => .int k) (i := 0) (e := [none, some H, none]) (acc := []) (fun j x e acc hx hi => by
    obtain ⟨H2, y, rfl, hH2, rfl⟩ := hi
    obtain ⟨H3, q3, w3⟩ := c_is_right hH2
    refine ⟨[none, some H2, some x], [none, some H2, some x], [none, some H3, some x], .bl true, rfl, rfl, callR0 (i := 1) rfl q3, H3, some x, rfl, w3, ?_⟩
    rw [← List.replicate_succ']) ⟨H, none, rfl, wh, rfl⟩
  obtain ⟨H2, y, rfl, hH2, rfl⟩ := i2
  have e5 : d_law_5 [none, some H, none] = .ok (.rt (.bl true)) (kill [2] [none, some H2, y]) := by
    unfold d_law_5
    exact ret_ok (app1_of (comp_of (range1_of (n := 6) (mP_of rfl) (by decide) (by decide)) q2) (map_bl _))
  refine ⟨[], ?_⟩
  unfold den_law
  refine den_rt (e := kill [2] [none, some H2, y]) ?_ rfl
  show mSeq _ _ [some (.scr ns), none, none] = _
  rw [seq_nx e0, seq_nx e1, seq_nx e2, seq_nx e3, seq_nx e4]
  exact e5
end K74
open PySem PySem.W PyProof.Rows in
set_option maxRecDepth 100000 in
set_option maxHeartbeats 0 in
theorem PySem.Challenge.cw_cutrooms_k74_whole_roots_of_polynomials_holds : PySem.Challenge.rw_cutrooms_k74_whole_roots_of_polynomials.Holds := by
  w_on; o_law; k_head; (case hw => w_witness2)
  k_fill
  refine DL.walk_D (l := PySem.Challenge.rw_cutrooms_k74_whole_roots_of_polynomials) (n := 63) (k := 7) (p := "script") (den := K74.den_law) rfl (by decide) rfl ⟨rfl, by decide, by decide⟩ (fun w h Y => PySem.W.kIn_of Y) ?F K74.plain_law
  case F =>
    intro w mg h X KX G base
    refine' K74.ok_law (P := _) (w := w) (base := base) ⟨(DL.own_of KX G ?a0 ?l0 ?c0 ?k0 fun fd F => F.binds (ps := ["script"]) fun _ _ _ _ _ _ us hl => match us, hl with | [_], _ => rfl), (DL.own_of KX G ?a1 ?l1 ?c1 ?k1 fun fd F => F.binds (ps := ["thing"]) fun _ _ _ _ _ _ us hl => match us, hl with | [_], _ => rfl), (DL.own_of KX G ?a2 ?l2 ?c2 ?k2 fun fd F => F.binds (ps := ["thing"]) fun _ _ _ _ _ _ us hl => match us, hl with | [_], _ => rfl), (DL.own_of KX G ?a3 ?l3 ?c3 ?k3 fun fd F => F.binds (ps := ["thing"]) fun _ _ _ _ _ _ us hl => match us, hl with | [_], _ => rfl), (DL.own_of KX G ?a4 ?l4 ?c4 ?k4 fun fd F => F.binds (ps := ["poly", "root"]) fun _ _ _ _ _ _ us hl => match us, hl with | [_, _], _ => rfl), (DL.own_of KX G ?a5 ?l5 ?c5 ?k5 fun fd F => F.binds (ps := ["poly"]) fun _ _ _ _ _ _ us hl => match us, hl with | [_], _ => rfl), (DL.own_of KX G ?a6 ?l6 ?c6 ?k6 fun fd F => F.binds (ps := ["hand", "below"]) fun _ _ _ _ _ _ us hl => match us, hl with | [_, _], _ => rfl), (DL.own_of KX G ?a7 ?l7 ?c7 ?k7 fun fd F => F.binds (ps := ["hand", "some"]) fun _ _ _ _ _ _ us hl => match us, hl with | [_, _], _ => rfl), (DL.own_of KX G ?a8 ?l8 ?c8 ?k8 fun fd F => F.binds (ps := ["one", "other"]) fun _ _ _ _ _ _ us hl => match us, hl with | [_, _], _ => rfl), (DL.own_of KX G ?a9 ?l9 ?c9 ?k9 fun fd F => F.binds (ps := ["thing", "low", "high"]) fun _ _ _ _ _ _ us hl => match us, hl with | [_, _, _], _ => rfl), (DL.own_of KX G ?a10 ?l10 ?c10 ?k10 fun fd F => F.binds (ps := ["low", "high"]) fun _ _ _ _ _ _ us hl => match us, hl with | [_, _], _ => rfl), (DL.own_of KX G ?a11 ?l11 ?c11 ?k11 fun fd F => F.binds (ps := ["n", "low", "high"]) fun _ _ _ _ _ _ us hl => match us, hl with | [_, _, _], _ => rfl), (DL.own_of KX G ?a12 ?l12 ?c12 ?k12 fun fd F => F.binds (ps := ["terms"]) fun _ _ _ _ _ _ us hl => match us, hl with | [_], _ => rfl), (DL.own_of KX G ?a13 ?l13 ?c13 ?k13 fun fd F => F.binds (ps := ["one", "other"]) fun _ _ _ _ _ _ us hl => match us, hl with | [_, _], _ => rfl), (DL.own_of KX G ?a14 ?l14 ?c14 ?k14 fun fd F => F.binds (ps := ["n", "high"]) fun _ _ _ _ _ _ us hl => match us, hl with | [_, _], _ => rfl), (DL.own_of KX G ?a15 ?l15 ?c15 ?k15 fun fd F => F.binds (ps := ["n", "low", "high"]) fun _ _ _ _ _ _ us hl => match us, hl with | [_, _, _], _ => rfl), (DL.own_of KX G ?a16 ?l16 ?c16 ?k16 fun fd F => F.binds (ps := ["n", "low", "high"]) fun _ _ _ _ _ _ us hl => match us, hl with | [_, _, _], _ => rfl), (DL.own_of KX G ?a17 ?l17 ?c17 ?k17 fun fd F => F.binds (ps := ["hand"]) fun _ _ _ _ _ _ us hl => match us, hl with | [_], _ => rfl), (DL.own_of KX G ?a18 ?l18 ?c18 ?k18 fun fd F => F.binds (ps := ["script"]) fun _ _ _ _ _ _ us hl => match us, hl with | [_], _ => rfl), (PySem.W.mg_none_of KX G ?b_abs), (PySem.W.mg_none_of KX G ?b_all), (PySem.W.mg_none_of KX G ?b_any), (PySem.W.mg_none_of KX G ?b_bool), (PySem.W.mg_none_of KX G ?b_enumerate), (PySem.W.mg_none_of KX G ?b_int), (PySem.W.mg_none_of KX G ?b_isinstance), (PySem.W.mg_none_of KX G ?b_len), (PySem.W.mg_none_of KX G ?b_list), (PySem.W.mg_none_of KX G ?b_range), (PySem.W.mg_none_of KX G ?b_repr), (PySem.W.mg_none_of KX G ?b_sorted), (PySem.W.mg_none_of KX G ?b_tuple), (DL.int_of KX G ?g_LEAST_N), (DL.int_of KX G ?g_MOST_END), (DL.int_of KX G ?g_MOST_N), (DL.int_of KX G ?g_MOST_ROOT), (DL.loose_of X (by simp))⟩
    (case a0 => k_is)
    (case l0 => k_is)
    (case c0 => k_is)
    (case k0 => k_is)
    (case a1 => k_is)
    (case l1 => k_is)
    (case c1 => k_is)
    (case k1 => k_is)
    (case a2 => k_is)
    (case l2 => k_is)
    (case c2 => k_is)
    (case k2 => k_is)
    (case a3 => k_is)
    (case l3 => k_is)
    (case c3 => k_is)
    (case k3 => k_is)
    (case a4 => k_is)
    (case l4 => k_is)
    (case c4 => k_is)
    (case k4 => k_is)
    (case a5 => k_is)
    (case l5 => k_is)
    (case c5 => k_is)
    (case k5 => k_is)
    (case a6 => k_is)
    (case l6 => k_is)
    (case c6 => k_is)
    (case k6 => k_is)
    (case a7 => k_is)
    (case l7 => k_is)
    (case c7 => k_is)
    (case k7 => k_is)
    (case a8 => k_is)
    (case l8 => k_is)
    (case c8 => k_is)
    (case k8 => k_is)
    (case a9 => k_is)
    (case l9 => k_is)
    (case c9 => k_is)
    (case k9 => k_is)
    (case a10 => k_is)
    (case l10 => k_is)
    (case c10 => k_is)
    (case k10 => k_is)
    (case a11 => k_is)
    (case l11 => k_is)
    (case c11 => k_is)
    (case k11 => k_is)
    (case a12 => k_is)
    (case l12 => k_is)
    (case c12 => k_is)
    (case k12 => k_is)
    (case a13 => k_is)
    (case l13 => k_is)
    (case c13 => k_is)
    (case k13 => k_is)
    (case a14 => k_is)
    (case l14 => k_is)
    (case c14 => k_is)
    (case k14 => k_is)
    (case a15 => k_is)
    (case l15 => k_is)
    (case c15 => k_is)
    (case k15 => k_is)
    (case a16 => k_is)
    (case l16 => k_is)
    (case c16 => k_is)
    (case k16 => k_is)
    (case a17 => k_is)
    (case l17 => k_is)
    (case c17 => k_is)
    (case k17 => k_is)
    (case a18 => k_is)
    (case l18 => k_is)
    (case c18 => k_is)
    (case k18 => k_is)
    (case b_abs => k_is)
    (case b_all => k_is)
    (case b_any => k_is)
    (case b_bool => k_is)
    (case b_enumerate => k_is)
    (case b_int => k_is)
    (case b_isinstance => k_is)
    (case b_len => k_is)
    (case b_list => k_is)
    (case b_range => k_is)
    (case b_repr => k_is)
    (case b_sorted => k_is)
    (case b_tuple => k_is)
    (case g_LEAST_N => k_is)
    (case g_MOST_END => k_is)
    (case g_MOST_N => k_is)
    (case g_MOST_ROOT => k_is)
