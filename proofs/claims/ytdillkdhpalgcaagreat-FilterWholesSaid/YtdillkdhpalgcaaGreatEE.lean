import Derived.Test.YtdillkdhpalgcaaGreatED
import Derived.ProofKit
import Derived.SizedLaws
set_option linter.unusedSimpArgs false
set_option linter.unusedVariables false
namespace Go.Eng
open Go.RowKit Go.ChangeShapes Go.WideShapes

def Opn (P : Program) (w : World) (t : TypeId) (S : List D → Prop) : Prop :=
  ∀ (H : Type) (enc : TypeId × Value → H) (fuel : Nat) (cs : List Value) (x : DataW H × List MemPlace), DataW.trod enc P w 0 (fun _ => true) true fuel t cs = some x → (∀ k ∈ x.1.weights P t, k ≤ reachBytes) → ∃ l, S l ∧ RepDs (· < w.heap.size) w l cs

section
variable {P : Program} {w : World} {t e : TypeId}

theorem opn_int {k : IntKind} (ht : P.underlying t = some (.int k)) : Opn P w t fun l => ∃ n, (Lit.int k n).wf = true ∧ l = [dOf (.int k n)] := by
  intro H enc fuel cs x h _
  obtain ⟨n, rfl, _, hw⟩ := DataW.trod_int ht h
  refine ⟨_, ⟨n, hw, rfl⟩, ?_⟩
  simp only [RepDs]
  exact ⟨_, _, rfl, RepD_dOf _ _ _, rfl, rfl⟩

def SAll : List (List D → Prop) → List D → Prop
  | [], l => l = []
  | S :: Ss, l => ∃ a b, l = a ++ b ∧ S a ∧ SAll Ss b
def chain (P : Program) (k : Nat) : List Field → Nat → Prop
  | [], n => n = k
  | f :: l, n => f.offset = k ∧ chain P (k + P.cellsOf f.type) l n
def chainB (P : Program) (k : Nat) : List Field → Nat → Bool
  | [], n => n == k
  | f :: l, n => f.offset == k && chainB P (k + P.cellsOf f.type) l n
theorem chainB_spec {P : Program} : ∀ {l : List Field} {k n : Nat}, chainB P k l n = true → chain P k l n
  | [], k, n, h => by simpa [chainB, chain] using h
  | f :: l, k, n, h => by
    simp only [chainB, Bool.and_eq_true, beq_iff_eq] at h
    exact ⟨h.1, chainB_spec h.2⟩
def opnAll (P : Program) (w : World) : List Field → List (List D → Prop) → Prop
  | [], [] => True
  | f :: l, S :: Ss => Opn P w f.type S ∧ opnAll P w l Ss
  | _, _ => False

theorem fields_rep {H : Type} {enc : TypeId × Value → H} {fuel : Nat} {cs : List Value} : ∀ (fs : List Field) (Ss : List (List D → Prop)) (k : Nat) (xs : List (DataW H × List MemPlace)), opnAll P w fs Ss → chain P k fs cs.length →
    xs.length = fs.length → (∀ (i : Nat) (f : Field), fs[i]? = some f → DataW.trod enc P w 0 (fun _ => true) true fuel f.type ((cs.drop f.offset).take (P.cellsOf f.type)) = xs[i]?) →
    (∀ n ∈ DataW.weightsEach P (fs.map (·.type)) (xs.map (·.1)), n ≤ reachBytes) → ∃ l, SAll Ss l ∧ RepDs (· < w.heap.size) w l (cs.drop k)
  | [], [], k, xs, _, hc, _, _, _ => by
    simp only [chain] at hc
    exact ⟨[], rfl, by simp only [RepDs]; exact List.drop_of_length_le (by omega)⟩
  | [], _ :: _, _, _, h, _, _, _, _ => by simp [opnAll] at h
  | _ :: _, [], _, _, h, _, _, _, _ => by simp [opnAll] at h
  | f :: fs, S :: Ss, k, [], _, _, hl, _, _ => by simp at hl
  | f :: fs, S :: Ss, k, x :: xs, h, hc, hl, hx, hw => by
    simp only [opnAll] at h
    simp only [chain] at hc
    obtain ⟨rfl, hc⟩ := hc
    have h0 := hx 0 f rfl
    simp only [List.getElem?_cons_zero] at h0
    obtain ⟨a, ha, hra⟩ := h.1 H enc fuel _ x h0 (fun n hn => hw n (by simp only [List.map_cons, DataW.weightsEach, List.mem_append]; exact .inl hn))
    obtain ⟨b, hb, hrb⟩ := fields_rep fs Ss (f.offset + P.cellsOf f.type) xs h.2 hc (by simpa using hl) (fun i g hg => by simpa using hx (i + 1) g (by simpa using hg)) (fun n hn => hw n (by simp only [List.map_cons, DataW.weightsEach, List.mem_append]; exact .inr hn))
    refine ⟨a ++ b, ⟨a, b, rfl, ha, hb⟩, ?_⟩
    have e : cs.drop f.offset = (cs.drop f.offset).take (P.cellsOf f.type) ++ cs.drop (f.offset + P.cellsOf f.type) := by
      rw [← List.drop_drop, List.take_append_drop]
    rw [e]
    exact RepDs_append hra hrb

theorem opn_struct {fs : Array Field} {Ss : List (List D → Prop)} (ht : P.underlying t = some (.struct fs)) (hc : chain P 0 fs.toList (P.cellsOf t)) (ho : opnAll P w fs.toList Ss) : Opn P w t (SAll Ss) := by
  intro H enc fuel cs x h hw
  obtain ⟨xs, n, rfl, rfl, hl, hlen, hx⟩ := DataW.trod_struct ht h
  obtain ⟨l, h1, h2⟩ := fields_rep (P := P) (w := w) (enc := enc) (fuel := n) (cs := cs) fs.toList Ss 0 xs ho (by rw [hl]; exact hc) (by simpa using hlen) (fun i f hf => hx i f (by simpa using hf)) (fun k hk => hw k (by simp only [DataW.weights, ht]; exact hk))
  exact ⟨l, h1, by simpa using h2⟩

theorem weightsAll_mem {H : Type} {n : Nat} : ∀ {l : List (DataW H)} {d : DataW H}, d ∈ l → n ∈ d.weights P e → n ∈ DataW.weightsAll P e l
  | [], d, h, _ => by simp at h
  | a :: l, d, h, hn => by
    simp only [DataW.weightsAll, List.mem_append]
    simp only [List.mem_cons] at h
    rcases h with rfl | h
    · exact .inl hn
    · exact .inr (weightsAll_mem h hn)

theorem add_none {b o j : Nat} : (⟨b, o, none⟩ : Addr).add j = ⟨b, o + j, none⟩ := by unfold Addr.add; split <;> simp_all

theorem elems_rep {S : List D → Prop} {n : Nat} {b o : Nat} : ∀ (m : Nat), (∀ i, i < m → ∃ cs, cs.length = n ∧ (∀ j u, cs[j]? = some u → w.cell? ⟨b, o + i * n + j, none⟩ = some u) ∧ ∃ l, S l ∧ RepDs (· < w.heap.size) w l cs) →
    ∃ (els : List (List D)) (vs : List Value), els.length = m ∧ (∀ x ∈ els, S x) ∧ RepDss (· < w.heap.size) w n els vs ∧ cellsAt w b o vs
  | 0, _ => ⟨[], [], rfl, by simp, by simp only [RepDss], fun j u h => by simp at h⟩
  | m + 1, h => by
    obtain ⟨els, vs, h1, h2, h3, h4⟩ := elems_rep m fun i hi => h i (by omega)
    obtain ⟨cs, c1, c2, l, c3, c4⟩ := h m (by omega)
    have hl := RepDss_length h3
    refine ⟨els ++ [l], vs ++ cs, by simp [h1], ?_, RepDss_append h3 (by simp only [RepDss]; exact ⟨cs, [], by simp, c1, c4, rfl⟩), ?_⟩
    · intro x hx
      simp only [List.mem_append, List.mem_singleton] at hx
      rcases hx with hx | rfl
      · exact h2 x hx
      · exact c3
    · intro j u hu
      by_cases hj : j < vs.length
      · rw [List.getElem?_append_left hj] at hu; exact h4 j u hu
      · rw [List.getElem?_append_right (by omega)] at hu
        have hv : vs.length = m * n := by rw [hl, h1]
        have := c2 _ u hu
        rw [hv] at this hj
        rw [← this]; congr 2; omega

theorem opn_slice {S : List D → Prop} {n : Nat} (ht : P.underlying t = some (.slice e)) (hc : P.cellsOf e = n) (hn : 0 < n) (hb : 0 < P.bytesOf e) (h : Opn P w e S) : Opn P w t fun l => ∃ els : List (List D), (∀ x ∈ els, S x) ∧ els.length * P.bytesOf e ≤ reachBytes ∧ l = [.sl n els] := by
  intro H enc fuel cs x hx hw
  rcases DataW.trod_slice ht hx with ⟨rfl, rfl⟩ | ⟨a, len, cap, elems, rest, m, rfl, rfl, rfl, _, hl, hm, hlen, hel, _, _⟩
  · refine ⟨_, ⟨[], by simp, by simp, rfl⟩, ?_⟩
    simp only [RepDs, RepD]
    exact ⟨_, _, rfl, ⟨by simp, .inl ⟨trivial, _, _, rfl⟩⟩, rfl, rfl⟩
  · simp only [DataW.weights, ht] at hw
    have hsz : len * P.bytesOf e ≤ reachBytes := by
      have := hw ((List.map (fun x => x.1) elems).length + (List.map (fun x => x.1) rest).length) |> fun f => hw (((List.map (fun x => x.1) elems).length + (List.map (fun x => x.1) rest).length) * P.bytesOf e) (by simp)
      have h2 : len * P.bytesOf e ≤ ((List.map (fun x => x.1) elems).length + (List.map (fun x => x.1) rest).length) * P.bytesOf e := Nat.mul_le_mul_right _ (by simp [hlen])
      omega
    have hlb : len ≤ 281474976710656 := by
      have h2 : len * 1 ≤ len * P.bytesOf e := Nat.mul_le_mul_left _ hb
      unfold reachBytes at hsz; omega
    by_cases h0 : len = 0
    · subst h0
      refine ⟨_, ⟨[], by simp, by simp, rfl⟩, ?_⟩
      simp only [RepDs, RepD]
      exact ⟨_, _, rfl, ⟨by simp, .inl ⟨trivial, _, _, rfl⟩⟩, rfl, rfl⟩
    · have hcell : ∀ i, i < len → ∃ cs y, w.cells? 0 (a.add (i * n)) n = some cs ∧ elems[i]? = some y ∧ DataW.trod enc P w 0 (fun _ => true) true m e cs = some y := by
        intro i hi
        have h1 := hel i hi
        rw [hc] at h1
        have h2 : i < elems.length := by omega
        rw [List.getElem?_eq_getElem h2] at h1
        obtain ⟨cs, h3, h4⟩ := Option.bind_eq_some_iff.1 h1
        exact ⟨cs, _, h3, List.getElem?_eq_getElem h2, h4⟩
      have hspot : a = ⟨a.block, a.off, none⟩ ∧ a.block < w.heap.size := by
        obtain ⟨cs, y, h1, _, _⟩ := hcell 0 (by omega)
        have h2 := World.cells?_some h1
        have h3 := h2.2.2 0 hn
        have h4 : cs[0]? = some (cs[0]'(by omega)) := List.getElem?_eq_getElem _
        rw [h4] at h3
        simp only [Nat.zero_mul, Addr.add, if_true] at h3
        obtain ⟨B, O, sp⟩ := a
        unfold World.cell? at h3
        split at h3
        · rename_i hh
          cases sp with
          | none => exact ⟨rfl, (Array.getElem?_eq_some_iff.1 hh).1⟩
          | some k => simp at h3
        · cases h3
      obtain ⟨els, vs, e1, e2, e3, e4⟩ := elems_rep (w := w) (S := S) (n := n) (b := a.block) (o := a.off) len (by
        intro i hi
        obtain ⟨cs, y, h1, h2, h3⟩ := hcell i hi
        have h4 := World.cells?_some h1
        refine ⟨cs, h4.2.1, fun j u hu => ?_, h H enc m cs y h3 fun k hk => hw k ?_⟩
        · have hj : j < n := by rw [← h4.2.1]; exact (List.getElem?_eq_some_iff.1 hu).1
          have := h4.2.2 j hj
          rw [hu, hspot.1, add_none, add_none] at this
          exact this
        · refine List.mem_cons_of_mem _ (List.mem_append.2 (.inl (weightsAll_mem (d := y.1) ?_ hk)))
          exact List.mem_map.2 ⟨y, List.mem_of_getElem? h2, rfl⟩)
      refine ⟨_, ⟨els, e2, by rw [e1]; exact hsz, rfl⟩, ?_⟩
      simp only [RepDs, RepD]
      refine ⟨_, _, rfl, ⟨by omega, .inr ⟨a.block, a.off, cap, vs, by rw [e1, ← hspot.1], by omega, hspot.2, e3, e4⟩⟩, rfl, rfl⟩
end
section
variable {H : Type} {enc : TypeId × Value → H} {P : Program} {w : World} {base : Nat} {spare : Nat → Bool} {held : Bool}
end
end Go.Eng

