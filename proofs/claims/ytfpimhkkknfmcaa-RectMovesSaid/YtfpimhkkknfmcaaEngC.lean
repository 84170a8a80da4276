import Derived.Test.YtfpimhkkknfmcaaEngB
namespace Go.Eng
open Go.RowKit

def Ent.refs (nm : Nat) : Ent → Bool
  | .box _ c => AV.refsL nm c
  | .arr .. => false

/-- Nothing names d. -/
def fresh (d : Nat) (σ : St) : Bool :=
  σ.e.all (fun p => !p.2.refs d) && σ.h.all (fun p => match p.2 with | none => true | some x => !x.2.refs d)

theorem get_refs {e : List (Nat × AV)} {d : Nat} (h : e.all (fun p => !p.2.refs d) = true) (s : Nat) : (get e s).refs d = false := by
  induction e with
  | nil => simp [get, AV.refs]
  | cons p l ih =>
    obtain ⟨j, a⟩ := p
    simp only [List.all_cons, Bool.and_eq_true] at h
    simp only [get]
    cases j == s
    · exact ih h.2
    · simpa using h.1

theorem geth_refs {e : Hp} {d : Nat} (h : e.all (fun p => match p.2 with | none => true | some x => !x.2.refs d) = true) {nm : Nat} {x : Ent} {g : Bool} (hx : geth e nm = some (g, x)) : x.refs d = false := by
  induction e with
  | nil => simp [geth] at hx
  | cons p l ih =>
    obtain ⟨j, a⟩ := p
    simp only [List.all_cons, Bool.and_eq_true] at h
    simp only [geth] at hx
    cases hj : j == nm
    · rw [hj] at hx; exact ih h.2 hx
    · rw [hj] at hx
      simp only [cond_true] at hx
      subst hx
      simpa using h.1

section
variable {C : Ctx} {σ : St} {ι : Nat → Option (Nat × Nat)} {a : Act} {w : World}

theorem EntOk.tr {own ok ok' : Nat → Prop} {ι' : Nat → Option (Nat × Nat)} {w' : World} {nm : Nat} {x : Ent} (hok : ∀ b, ok b → ok' b) (hw : ∀ b, ok b → w'.heap[b]? = w.heap[b]?)
    (hown : ∀ b c, ι nm = some (b, c) → w'.heap[b]? = w.heap[b]?) (hn : ι' nm = ι nm) (hr : ∀ k, x.refs k = true → ι' k = ι k) (h : EntOk own ok ι w nm x) : EntOk own ok' ι' w' nm x := by
  cases x with
  | box T c =>
    obtain ⟨b, cap, cur, h1, h2, h3, h4⟩ := h
    exact ⟨b, cap, cur, by rw [hn, h1], h2, by rw [hown b cap h1, h3], RepAs.tr hok hw true c _ (fun k hk => hr k hk) h4⟩
  | arr T n l =>
    rcases h with ⟨h1, h2⟩ | ⟨b, cap, cur, h1, h2, h3, h4, h5, h6, h7⟩
    · exact .inl ⟨by rw [hn, h1], h2⟩
    · exact .inr ⟨b, cap, cur, by rw [hn, h1], h2, by rw [hown b cap h1, h3], h4, h5, h6, RepDss.tr hok hw n l _ h7⟩

theorem SimI.live_lt (S : SimI C σ ι a w) {nm b c : Nat} {x : Ent} (hx : geth σ.h nm = some (true, x)) (hi : ι nm = some (b, c)) : b < w.heap.size := by
  have h := S.ent nm x hx
  cases x with
  | box T l =>
    obtain ⟨b', cap, cur, h1, h2, h3, h4⟩ := h
    rw [hi] at h1; simp at h1
    rw [← h1.1] at h3
    exact (Array.getElem?_eq_some_iff.1 h3).1
  | arr T n l =>
    rcases h with ⟨h1, h2⟩ | ⟨b', cap, cur, h1, h2, h3, h4, h5, h6, h7⟩
    · rw [hi] at h1; simp at h1
    · rw [hi] at h1; simp at h1
      rw [← h1.1] at h3
      exact (Array.getElem?_eq_some_iff.1 h3).1

/-- A slot is written. -/
theorem SimI.put (S : SimI C σ ι a w) {d : Nat} {av : AV} {v : Value} (hd : d < C.n) (h : RepA (okOf σ.h ι w) ι w av v) :
    SimI C ⟨(d, av) :: σ.e, σ.h⟩ ι (a.put (some d) v) w := by
  refine ⟨?_, S.ent, S.inj, S.os, S.tape, S.output, S.size, S.old, S.def0, ?_⟩
  · intro s
    simp only [get, Act.put]
    by_cases hs : d = s
    · subst hs
      simp [S.tms, hd]
      exact h
    · have : (d == s) = false := by simpa using hs
      simp only [this, cond_false, Array.getD_eq_getD_getElem?, Array.getElem?_setIfInBounds_ne hs]
      have := S.env s
      simpa [Array.getD_eq_getD_getElem?] using this
  · simp [Act.put, S.tms]

/-- The world has grown; what was there is as it was. -/
theorem SimI.grow (S : SimI C σ ι a w) {w' : World} (ho : w'.os = w.os) (ht : w'.tape = w.tape) (hu : w'.output = w.output) (hz : w.heap.size ≤ w'.heap.size)
    (hb : ∀ b, b < w.heap.size → w'.heap[b]? = w.heap[b]?) : SimI C σ ι a w' := by
  have hok : ∀ b, okOf σ.h ι w b → okOf σ.h ι w' b := fun b h => ⟨Nat.lt_of_lt_of_le h.1 hz, h.2⟩
  have hw : ∀ b, okOf σ.h ι w b → w'.heap[b]? = w.heap[b]? := fun b h => hb b h.1
  refine ⟨fun s => RepA.tr hok hw _ _ (fun _ _ => rfl) (S.env s), fun nm x hx => ?_, S.inj, ho.trans S.os, ht.trans S.tape, hu.trans S.output, Nat.le_trans S.size hz,
    fun k hk hx => (hb k (Nat.lt_of_lt_of_le hk S.size)).trans (S.old k hk hx), S.def0, S.tms⟩
  exact (S.ent nm x hx).tr hok hw (fun b c hi => hb b (S.live_lt hx hi)) rfl (fun _ _ => rfl)

/-- An owned block is given up. -/
theorem SimI.drop (S : SimI C σ ι a w) (nm : Nat) : SimI C ⟨σ.e, (nm, none) :: σ.h⟩ ι a w := by
  have hlive : ∀ k x, geth ((nm, none) :: σ.h) k = some (true, x) → geth σ.h k = some (true, x) := by
    intro k x h
    simp only [geth] at h
    cases hk : nm == k
    · rw [hk] at h; exact h
    · rw [hk] at h; simp at h
  have hok : ∀ b, okOf σ.h ι w b → okOf ((nm, none) :: σ.h) ι w b := fun b h => ⟨h.1, fun k x c hx => h.2 k x c (hlive k x hx)⟩
  refine ⟨fun s => RepA.tr hok (fun _ _ => rfl) _ _ (fun _ _ => rfl) (S.env s), fun k x hx => ?_, fun k k' x x' b c c' h h' => S.inj k k' x x' b c c' (hlive _ _ h) (hlive _ _ h'), S.os, S.tape, S.output, S.size, S.old, S.def0, S.tms⟩
  exact (S.ent k x (hlive k x hx)).tr hok (fun _ _ => rfl) (fun _ _ _ => rfl) rfl (fun _ _ => rfl)

/-- A name comes in for a block that nobody owned and nobody knows (or for nothing). -/
theorem SimI.name (S : SimI C σ ι a w) {d : Nat} {p : Option (Nat × Nat)} {x : Ent} (hf : fresh d σ = true)
    (hnew : ∀ b c, p = some (b, c) → ¬ okOf σ.h ι w b ∧ ∀ nm y c', geth σ.h nm = some (true, y) → nm ≠ d → ι nm ≠ some (b, c'))
    (hx : EntOk C.own (okOf ((d, some (true, x)) :: σ.h) (fun k => if k = d then p else ι k) w) (fun k => if k = d then p else ι k) w d x) :
    SimI C ⟨σ.e, (d, some (true, x)) :: σ.h⟩ (fun k => if k = d then p else ι k) a w := by
  simp only [fresh, Bool.and_eq_true] at hf
  have hlive : ∀ k y, geth ((d, some (true, x)) :: σ.h) k = some (true, y) → k ≠ d → geth σ.h k = some (true, y) := by
    intro k y h hk
    simp only [geth] at h
    have : (d == k) = false := by simpa using fun e => hk e.symm
    rw [this] at h; exact h
  have hok : ∀ b, okOf σ.h ι w b → okOf ((d, some (true, x)) :: σ.h) (fun k => if k = d then p else ι k) w b := by
    intro b h
    refine ⟨h.1, fun k y c hy => ?_⟩
    by_cases hk : k = d
    · subst hk
      simp only [if_true]
      intro hp
      exact (hnew b c hp).1 h
    · simp only [hk, if_false]
      exact h.2 k y c (hlive k y hy hk)
  have hne : ∀ (A : AV), A.refs d = false → ∀ k, A.refs k = true → (if k = d then p else ι k) = ι k := by
    intro A hA k hk
    rw [if_neg]
    rintro rfl
    rw [hA] at hk; cases hk
  refine ⟨fun s => RepA.tr hok (fun _ _ => rfl) _ _ (hne _ (get_refs hf.1 s)) (S.env s), fun k y hy => ?_, ?_, S.os, S.tape, S.output, S.size, S.old, S.def0, S.tms⟩
  · by_cases hk : k = d
    · subst hk
      have : y = x := by simp [geth] at hy; exact hy.symm
      subst this
      exact hx
    · have h1 := hlive k y hy hk
      have h2 := geth_refs hf.2 h1
      refine (S.ent k y h1).tr hok (fun _ _ => rfl) (fun _ _ _ => rfl) (by simp [hk]) (fun j hj => ?_)
      rw [if_neg]
      rintro rfl
      rw [h2] at hj; cases hj
  · intro k k' y y' b c c' h h' hkk hi
    by_cases hk : k = d
    · subst hk
      have hk' : k' ≠ k := fun e => hkk e.symm
      simp only [if_true] at hi
      simp only [hk', if_false]
      exact (hnew b c hi).2 k' y' c' (hlive _ _ h' hk') hk'
    · simp only [hk, if_false] at hi
      by_cases hk' : k' = d
      · subst hk'
        simp only [if_true]
        intro hp
        exact (hnew b c' hp).2 k y c (hlive _ _ h hk) hk hi
      · simp only [hk', if_false]
        exact S.inj k k' y y' b c c' (hlive _ _ h hk) (hlive _ _ h' hk') hkk hi

/-- An owned block is written. -/
theorem SimI.write (S : SimI C σ ι a w) {nm b c : Nat} {x x' : Ent} {o : Obj} {w' : World} (hl : geth σ.h nm = some (true, x)) (hi : ι nm = some (b, c))
    (hw' : w'.heap[b]? = some o) (ho : w'.os = w.os) (ht : w'.tape = w.tape) (hu : w'.output = w.output) (hz : w.heap.size = w'.heap.size)
    (hb : ∀ k, k ≠ b → w'.heap[k]? = w.heap[k]?)
    (hx : (∀ B, okOf σ.h ι w B → okOf ((nm, some (true, x')) :: σ.h) ι w' B) → (∀ B, okOf σ.h ι w B → w'.heap[B]? = w.heap[B]?) → EntOk C.own (okOf ((nm, some (true, x')) :: σ.h) ι w') ι w' nm x') :
    SimI C ⟨σ.e, (nm, some (true, x')) :: σ.h⟩ ι a w' := by
  have hlive : ∀ k y, geth ((nm, some (true, x')) :: σ.h) k = some (true, y) → ∃ z, geth σ.h k = some (true, z) ∧ (k ≠ nm → z = y) := by
    intro k y h
    by_cases hk : k = nm
    · subst hk; exact ⟨x, hl, fun h => absurd rfl h⟩
    · simp only [geth] at h
      have : (nm == k) = false := by simpa using fun e => hk e.symm
      rw [this] at h; exact ⟨y, h, fun _ => rfl⟩
  have hok : ∀ B, okOf σ.h ι w B → okOf ((nm, some (true, x')) :: σ.h) ι w' B := by
    intro B h
    refine ⟨hz ▸ h.1, fun k y c' hy => ?_⟩
    obtain ⟨z, hz1, _⟩ := hlive k y hy
    exact h.2 k z c' hz1
  have hw : ∀ B, okOf σ.h ι w B → w'.heap[B]? = w.heap[B]? := fun B h => hb B (fun e => h.2 nm x c hl (e ▸ hi))
  have hown := S.ent nm x hl
  refine ⟨fun s => RepA.tr hok hw _ _ (fun _ _ => rfl) (S.env s), fun k y hy => ?_, ?_, ho.trans S.os, ht.trans S.tape, hu.trans S.output, hz ▸ S.size, ?_, S.def0, S.tms⟩
  · by_cases hk : k = nm
    · subst hk
      have : y = x' := by simp [geth] at hy; exact hy.symm
      subst this
      exact hx hok hw
    · obtain ⟨z, hz1, hz2⟩ := hlive k y hy
      have := hz2 hk
      subst this
      refine (S.ent k z hz1).tr hok hw (fun B c' hB => hb B ?_) rfl (fun _ _ => rfl)
      rintro rfl
      exact S.inj nm k x z B c c' hl hz1 (fun e => hk e.symm) hi hB
  · intro k k' y y' B c1 c2 h h' hkk hB
    obtain ⟨z, hz1, _⟩ := hlive k y h
    obtain ⟨z', hz1', _⟩ := hlive k' y' h'
    exact S.inj k k' z z' B c1 c2 hz1 hz1' hkk hB
  · intro k hk hX
    rw [hb k, S.old k hk hX]
    rintro rfl
    have : C.own k := by
      cases x with
      | box T l => obtain ⟨b', cap, cur, h1, h2, _⟩ := hown; rw [hi] at h1; simp at h1; exact h1.1 ▸ h2
      | arr T n l =>
        rcases hown with ⟨h1, _⟩ | ⟨b', cap, cur, h1, h2, _⟩
        · rw [hi] at h1; cases h1
        · rw [hi] at h1; simp at h1; exact h1.1 ▸ h2
    rcases this with h | h
    · omega
    · exact hX h

/-- A new name for a new block (or for nothing) in a world that has grown. -/
theorem SimI.new (S : SimI C σ ι a w) {w' : World} (ho : w'.os = w.os) (ht : w'.tape = w.tape) (hu : w'.output = w.output) (hz : w.heap.size ≤ w'.heap.size)
    (hb : ∀ b, b < w.heap.size → w'.heap[b]? = w.heap[b]?) {d : Nat} {p : Option (Nat × Nat)} {x : Ent} (hf : fresh d σ = true)
    (hp : ∀ b c, p = some (b, c) → w.heap.size ≤ b)
    (hx : (∀ B, okOf σ.h ι w B → okOf ((d, some (true, x)) :: σ.h) (fun k => if k = d then p else ι k) w' B) → (∀ A : AV, A.refs d = false → ∀ k, A.refs k = true → (if k = d then p else ι k) = ι k) →
      EntOk C.own (okOf ((d, some (true, x)) :: σ.h) (fun k => if k = d then p else ι k) w') (fun k => if k = d then p else ι k) w' d x) :
    SimI C ⟨σ.e, (d, some (true, x)) :: σ.h⟩ (fun k => if k = d then p else ι k) a w' := by
  simp only [fresh, Bool.and_eq_true] at hf
  have hlive : ∀ k y, geth ((d, some (true, x)) :: σ.h) k = some (true, y) → k ≠ d → geth σ.h k = some (true, y) := by
    intro k y h hk
    simp only [geth] at h
    have : (d == k) = false := by simpa using fun e => hk e.symm
    rw [this] at h; exact h
  have hok : ∀ b, okOf σ.h ι w b → okOf ((d, some (true, x)) :: σ.h) (fun k => if k = d then p else ι k) w' b := by
    intro b h
    refine ⟨Nat.lt_of_lt_of_le h.1 hz, fun k y c hy => ?_⟩
    by_cases hk : k = d
    · subst hk
      simp only [if_true]
      intro hpp
      have := hp b c hpp
      have := h.1
      omega
    · simp only [hk, if_false]
      exact h.2 k y c (hlive k y hy hk)
  have hw : ∀ b, okOf σ.h ι w b → w'.heap[b]? = w.heap[b]? := fun b h => hb b h.1
  have hne : ∀ (A : AV), A.refs d = false → ∀ k, A.refs k = true → (if k = d then p else ι k) = ι k := by
    intro A hA k hk
    rw [if_neg]
    rintro rfl
    rw [hA] at hk; cases hk
  refine ⟨fun s => RepA.tr hok hw _ _ (hne _ (get_refs hf.1 s)) (S.env s), fun k y hy => ?_, ?_, ho.trans S.os, ht.trans S.tape, hu.trans S.output, Nat.le_trans S.size hz,
    fun k hk hx => (hb k (Nat.lt_of_lt_of_le hk S.size)).trans (S.old k hk hx), S.def0, S.tms⟩
  · by_cases hk : k = d
    · subst hk
      have : y = x := by simp [geth] at hy; exact hy.symm
      subst this
      exact hx hok hne
    · have h1 := hlive k y hy hk
      have h2 := geth_refs hf.2 h1
      refine (S.ent k y h1).tr hok hw (fun b c hi => hb b (S.live_lt h1 hi)) (by simp [hk]) (fun j hj => ?_)
      rw [if_neg]
      rintro rfl
      rw [h2] at hj; cases hj
  · intro k k' y y' b c c' h h' hkk hi
    by_cases hk : k = d
    · subst hk
      have hk' : k' ≠ k := fun e => hkk e.symm
      simp only [if_true] at hi
      simp only [hk', if_false]
      intro hi'
      have h1 := hp b c hi
      have h2 := S.live_lt (hlive _ _ h' hk') hi'
      omega
    · simp only [hk, if_false] at hi
      by_cases hk' : k' = d
      · subst hk'
        simp only [if_true]
        intro hpp
        have h1 := hp b c' hpp
        have h2 := S.live_lt (hlive _ _ h hk) hi
        omega
      · simp only [hk', if_false]
        exact S.inj k k' y y' b c c' (hlive _ _ h hk) (hlive _ _ h' hk') hkk hi

/-- A name is turned into another one. -/
theorem SimI.rename (S : SimI C σ ι a w) {nm d : Nat} {x : Ent} (hl : geth σ.h nm = some (true, x)) (hf : fresh d σ = true) (hxr : x.refs d = false) :
    SimI C ⟨σ.e, (d, some (true, x)) :: (nm, none) :: σ.h⟩ (fun k => if k = d then ι nm else ι k) a w := by
  simp only [fresh, Bool.and_eq_true] at hf
  have hlive : ∀ k y, geth ((d, some (true, x)) :: (nm, none) :: σ.h) k = some (true, y) → k ≠ d → k ≠ nm ∧ geth σ.h k = some (true, y) := by
    intro k y h hk
    simp only [geth] at h
    have : (d == k) = false := by simpa using fun e => hk e.symm
    rw [this] at h
    simp only [cond_false] at h
    cases hn : nm == k
    · rw [hn] at h; exact ⟨fun e => by simp [e] at hn, h⟩
    · rw [hn] at h; simp at h
  have hdx : ∀ y, geth ((d, some (true, x)) :: (nm, none) :: σ.h) d = some (true, y) → y = x := by
    intro y h; simp [geth] at h; exact h.symm
  have hok : ∀ b, okOf σ.h ι w b → okOf ((d, some (true, x)) :: (nm, none) :: σ.h) (fun k => if k = d then ι nm else ι k) w b := by
    intro b h
    refine ⟨h.1, fun k y c hy => ?_⟩
    by_cases hk : k = d
    · subst hk
      simp only [if_true]
      exact h.2 nm x c hl
    · simp only [hk, if_false]
      exact h.2 k y c (hlive k y hy hk).2
  have hne : ∀ (A : AV), A.refs d = false → ∀ k, A.refs k = true → (if k = d then ι nm else ι k) = ι k := by
    intro A hA k hk
    rw [if_neg]
    rintro rfl
    rw [hA] at hk; cases hk
  refine ⟨fun s => RepA.tr hok (fun _ _ => rfl) _ _ (hne _ (get_refs hf.1 s)) (S.env s), fun k y hy => ?_, ?_, S.os, S.tape, S.output, S.size, S.old, S.def0, S.tms⟩
  · by_cases hk : k = d
    · subst hk
      have := hdx y hy
      subst this
      have h0 := S.ent nm y hl
      have hr : ∀ j, y.refs j = true → (if j = k then ι nm else ι j) = ι j := by
        intro j hj
        rw [if_neg]
        rintro rfl
        rw [hxr] at hj; cases hj
      cases y with
      | box T c =>
        obtain ⟨b, cap, cur, h1, h2, h3, h4⟩ := h0
        exact ⟨b, cap, cur, by simp [h1], h2, h3, RepAs.tr hok (fun _ _ => rfl) true c _ (fun j hj => hr j hj) h4⟩
      | arr T n l =>
        rcases h0 with ⟨h1, h2⟩ | ⟨b, cap, cur, h1, h2, h3, h4, h5, h6, h7⟩
        · exact .inl ⟨by simp [h1], h2⟩
        · exact .inr ⟨b, cap, cur, by simp [h1], h2, h3, h4, h5, h6, RepDss.tr hok (fun _ _ => rfl) n l _ h7⟩
    · have h1 := (hlive k y hy hk).2
      have h2 := geth_refs hf.2 h1
      refine (S.ent k y h1).tr hok (fun _ _ => rfl) (fun _ _ _ => rfl) (by simp [hk]) (fun j hj => ?_)
      rw [if_neg]
      rintro rfl
      rw [h2] at hj; cases hj
  · intro k k' y y' b c c' h h' hkk hi
    by_cases hk : k = d
    · subst hk
      have hk' : k' ≠ k := fun e => hkk e.symm
      simp only [if_true] at hi
      simp only [hk', if_false]
      obtain ⟨n1, n2⟩ := hlive _ _ h' hk'
      exact S.inj nm k' x y' b c c' hl n2 (fun e => n1 e.symm) hi
    · simp only [hk, if_false] at hi
      obtain ⟨n1, n2⟩ := hlive _ _ h hk
      by_cases hk' : k' = d
      · subst hk'
        simp only [if_true]
        intro hpp
        exact S.inj nm k x y b c' c hl n2 (fun e => n1 e.symm) hpp hi
      · simp only [hk', if_false]
        exact S.inj k k' y y' b c c' n2 (hlive _ _ h' hk').2 hkk hi

/-- A name that does not count is laid. -/
theorem SimI.shadow (S : SimI C σ ι a w) (nm : Nat) (x : Ent) : SimI C ⟨σ.e, (nm, some (false, x)) :: σ.h⟩ ι a w := by
  have hlive : ∀ k y, geth ((nm, some (false, x)) :: σ.h) k = some (true, y) → geth σ.h k = some (true, y) := by
    intro k y h
    simp only [geth] at h
    cases hk : nm == k
    · rw [hk] at h; exact h
    · rw [hk] at h; simp at h
  have hok : ∀ b, okOf σ.h ι w b → okOf ((nm, some (false, x)) :: σ.h) ι w b := fun b h => ⟨h.1, fun k x c hx => h.2 k x c (hlive k x hx)⟩
  refine ⟨fun s => RepA.tr hok (fun _ _ => rfl) _ _ (fun _ _ => rfl) (S.env s), fun k x hx => ?_, fun k k' x x' b c c' h h' => S.inj k k' x x' b c c' (hlive _ _ h) (hlive _ _ h'), S.os, S.tape, S.output, S.size, S.old, S.def0, S.tms⟩
  exact (S.ent k x (hlive k x hx)).tr hok (fun _ _ => rfl) (fun _ _ _ => rfl) rfl (fun _ _ => rfl)

end
end Go.Eng
