import Derived.WalkKit
import Derived.WalkSpells
import Derived.Laws.StructEq
namespace Go.Eng
open Go.RowKit

/-- Data without addresses: numbers, truth values, other literal values, structs and slices (each element a list of cells). -/
inductive D where
  | i (n : Int)
  | b (c : Bool)
  | v (u : Value)
  | agg (l : List D)
  | sl (n : Nat) (l : List (List D))

/-- What is known of a slot. -/
inductive AV where
  | un
  | dat (d : D)
  | agg (l : List AV)
  | tup (l : List AV)
  | rp (l : List D)
  | pt (nm o : Nat)
  | ep (nm k f n : Nat)
  | vw (nm o m n : Nat)
  | gd (g : Bool) (x : AV)

/-- What is known of a block that the call owns. -/
inductive Ent where
  | box (T : Nat) (c : List AV)
  | arr (T n : Nat) (l : List (List D))

def cellsAt (w : World) (b o : Nat) (vs : List Value) : Prop := ∀ j u, vs[j]? = some u → w.cell? ⟨b, o + j, none⟩ = some u

section
variable (ok : Nat → Prop) (w : World)
mutual
def RepD : D → Value → Prop
  | .i n, v => v = .int .i64 n
  | .b c, v => v = .bool c
  | .v u, v => v = u
  | .agg l, v => ∃ vs : List Value, v = .agg vs.toArray ∧ RepDs l vs
  | .sl n l, v => l.length ≤ maxLen ∧ ((l = [] ∧ ∃ a cap, v = .slice a 0 cap) ∨
      ∃ b o cap vs, v = .slice (some ⟨b, o, none⟩) l.length cap ∧ l.length ≤ cap ∧ ok b ∧ RepDss n l vs ∧ cellsAt w b o vs)
def RepDs : List D → List Value → Prop
  | [], vs => vs = []
  | d :: l, vs => ∃ v vs', vs = v :: vs' ∧ RepD d v ∧ v.oneCell' = true ∧ RepDs l vs'
def RepDss (n : Nat) : List (List D) → List Value → Prop
  | [], vs => vs = []
  | x :: l, vs => ∃ v1 v2, vs = v1 ++ v2 ∧ v1.length = n ∧ RepDs x v1 ∧ RepDss n l v2
end
end

section
variable (ok : Nat → Prop) (ι : Nat → Option (Nat × Nat)) (w : World)
mutual
def RepA : AV → Value → Prop
  | .un, _ => True
  | .dat d, v => RepD ok w d v
  | .agg l, v => ∃ vs : List Value, v = .agg vs.toArray ∧ RepAs true l vs
  | .tup l, v => ∃ vs : List Value, v = .tuple vs.toArray ∧ RepAs false l vs
  | .rp l, v => ∃ b o vs, v = .pointer (some ⟨b, o, none⟩) ∧ ok b ∧ RepDs ok w l vs ∧ cellsAt w b o vs
  | .pt nm o, v => ∃ b c, ι nm = some (b, c) ∧ v = .pointer (some ⟨b, o, none⟩)
  | .ep nm k f n, v => ∃ b c, ι nm = some (b, c) ∧ v = .pointer (some ⟨b, k * n + f, none⟩)
  | .vw nm o m n, v => (ι nm = none ∧ v = .slice none 0 0 ∧ o = 0 ∧ m = 0) ∨
      ∃ b c, ι nm = some (b, c) ∧ v = .slice (some ⟨b, o * n, none⟩) m (c - o) ∧ o + m ≤ c
  | .gd g x, v => (g = true → RepA x v) ∧ (g = false → v = undef)
def RepAs (one : Bool) : List AV → List Value → Prop
  | [], vs => vs = []
  | a :: l, vs => ∃ v vs', vs = v :: vs' ∧ RepA a v ∧ (one = true → v.oneCell' = true) ∧ RepAs one l vs'
end
end

mutual
/-- The value names the owned block nm. -/
def AV.refs (nm : Nat) : AV → Bool
  | .pt m _ => m == nm
  | .ep m _ _ _ => m == nm
  | .vw m _ _ _ => m == nm
  | .agg l => AV.refsL nm l
  | .tup l => AV.refsL nm l
  | .gd _ x => AV.refs nm x
  | _ => false
def AV.refsL (nm : Nat) : List AV → Bool
  | [] => false
  | a :: l => AV.refs nm a || AV.refsL nm l
end

section
variable {ok ok' : Nat → Prop} {ι ι' : Nat → Option (Nat × Nat)} {w w' : World}

theorem cellsAt_tr {b o : Nat} {vs : List Value} (h : w'.heap[b]? = w.heap[b]?) (hc : cellsAt w b o vs) : cellsAt w' b o vs :=
  fun j u hu => (World.cell?_of_block (w := w) (a := ⟨b, o + j, none⟩) h).trans (hc j u hu)

mutual
theorem RepD.tr (hok : ∀ b, ok b → ok' b) (hw : ∀ b, ok b → w'.heap[b]? = w.heap[b]?) : ∀ (d : D) (v : Value), RepD ok w d v → RepD ok' w' d v
  | .i n, v, h => by simpa only [RepD] using h
  | .b c, v, h => by simpa only [RepD] using h
  | .v u, v, h => by simpa only [RepD] using h
  | .agg l, v, h => by
    simp only [RepD] at h ⊢
    obtain ⟨vs, e, h⟩ := h
    exact ⟨vs, e, RepDs.tr hok hw l vs h⟩
  | .sl n l, v, h => by
    simp only [RepD] at h ⊢
    obtain ⟨hl, h⟩ := h
    refine ⟨hl, ?_⟩
    rcases h with h | ⟨b, o, cap, vs, e, hcap, hb, hs, hc⟩
    · exact .inl h
    · exact .inr ⟨b, o, cap, vs, e, hcap, hok b hb, RepDss.tr hok hw n l vs hs, cellsAt_tr (hw b hb) hc⟩
theorem RepDs.tr (hok : ∀ b, ok b → ok' b) (hw : ∀ b, ok b → w'.heap[b]? = w.heap[b]?) : ∀ (l : List D) (vs : List Value), RepDs ok w l vs → RepDs ok' w' l vs
  | [], vs, h => by simpa only [RepDs] using h
  | d :: l, vs, h => by
    simp only [RepDs] at h ⊢
    obtain ⟨v, vs', e, h1, h2, h3⟩ := h
    exact ⟨v, vs', e, RepD.tr hok hw d v h1, h2, RepDs.tr hok hw l vs' h3⟩
theorem RepDss.tr (hok : ∀ b, ok b → ok' b) (hw : ∀ b, ok b → w'.heap[b]? = w.heap[b]?) (n : Nat) : ∀ (l : List (List D)) (vs : List Value), RepDss ok w n l vs → RepDss ok' w' n l vs
  | [], vs, h => by simpa only [RepDss] using h
  | d :: l, vs, h => by
    simp only [RepDss] at h ⊢
    obtain ⟨v, vs', e, h0, h1, h2⟩ := h
    exact ⟨v, vs', e, h0, RepDs.tr hok hw d v h1, RepDss.tr hok hw n l vs' h2⟩
end

mutual
theorem RepA.tr (hok : ∀ b, ok b → ok' b) (hw : ∀ b, ok b → w'.heap[b]? = w.heap[b]?) : ∀ (a : AV) (v : Value), (∀ nm, a.refs nm = true → ι' nm = ι nm) → RepA ok ι w a v → RepA ok' ι' w' a v
  | .un, v, hi, h => by simp only [RepA]
  | .dat d, v, hi, h => by simp only [RepA] at h ⊢; exact RepD.tr hok hw d v h
  | .agg l, v, hi, h => by
    simp only [RepA] at h ⊢
    obtain ⟨vs, e, h⟩ := h
    exact ⟨vs, e, RepAs.tr hok hw true l vs (fun nm hn => hi nm (by simpa only [AV.refs] using hn)) h⟩
  | .tup l, v, hi, h => by
    simp only [RepA] at h ⊢
    obtain ⟨vs, e, h⟩ := h
    exact ⟨vs, e, RepAs.tr hok hw false l vs (fun nm hn => hi nm (by simpa only [AV.refs] using hn)) h⟩
  | .rp l, v, hi, h => by
    simp only [RepA] at h ⊢
    obtain ⟨b, o, vs, e, hb, hs, hc⟩ := h
    exact ⟨b, o, vs, e, hok b hb, RepDs.tr hok hw l vs hs, cellsAt_tr (hw b hb) hc⟩
  | .pt nm o, v, hi, h => by
    have := hi nm (by simp [AV.refs])
    simp only [RepA, this] at h ⊢; exact h
  | .ep nm k f n, v, hi, h => by
    have := hi nm (by simp [AV.refs])
    simp only [RepA, this] at h ⊢; exact h
  | .vw nm o m n, v, hi, h => by
    have := hi nm (by simp [AV.refs])
    simp only [RepA, this] at h ⊢; exact h
  | .gd g x, v, hi, h => by
    simp only [RepA] at h ⊢
    exact ⟨fun hg => RepA.tr hok hw x v (fun nm hn => hi nm (by simpa only [AV.refs] using hn)) (h.1 hg), h.2⟩
theorem RepAs.tr (hok : ∀ b, ok b → ok' b) (hw : ∀ b, ok b → w'.heap[b]? = w.heap[b]?) (one : Bool) : ∀ (l : List AV) (vs : List Value), (∀ nm, AV.refsL nm l = true → ι' nm = ι nm) → RepAs ok ι w one l vs → RepAs ok' ι' w' one l vs
  | [], vs, hi, h => by simpa only [RepAs] using h
  | a :: l, vs, hi, h => by
    simp only [RepAs] at h ⊢
    obtain ⟨v, vs', e, h1, h2, h3⟩ := h
    exact ⟨v, vs', e, RepA.tr hok hw a v (fun nm hn => hi nm (by simp [AV.refsL, hn])) h1, h2, RepAs.tr hok hw one l vs' (fun nm hn => hi nm (by simp [AV.refsL, hn])) h3⟩
end
end
end Go.Eng
