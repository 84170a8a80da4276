import Derived.Test.YtfpimhkkknfmcaaEngI
namespace Go.Eng
open Go.RowKit

/-- The elements that are appended. -/
def srcOf (n : Nat) (g : Bool) (h : Hp) (x : AV) : Option (List (List D) × Prop) :=
  match sp x with
  | .dat (.sl n' l) => bif n' == n then some (l, pk g x) else none
  | .vw nm o m n' => match geth h nm with
    | some (g', .arr _ n'' l) => bif n' == n && n'' == n then some ((l.drop o).take m, pk g x ∧ (g = true → g' = true) ∧ o + m ≤ l.length) else none
    | _ => none
  | .dat (.v (.slice none 0 0)) => some ([], pk g x)
  | _ => none

/-- The slice that is appended to: its name, its elements. -/
def dstOf (T n : Nat) (g : Bool) (h : Hp) (x : AV) : Option (Option Nat × List (List D) × Prop) :=
  match sp x with
  | .vw nm o m n' => match geth h nm with
    | some (g', .arr T' n'' l) => bif T' == T && n' == n && n'' == n && o == 0 then some (some nm, l, pk g x ∧ g' = true ∧ m = l.length) else none
    | _ => none
  | .dat (.v (.slice none 0 0)) => some (none, [], pk g x)
  | _ => none

def vApp (P : Program) (d T : Nat) (g : Bool) (σ : St) (x y : AV) : Option Out :=
  match elOf P T with
  | none => none
  | some e => match zC P e with
    | none => none
    | some z => bif z.length == szOf P e && decide (0 < (szOf P e)) && decide (0 < (byOf P e)) && fresh d σ then
        match dstOf e (szOf P e) g σ.h x, srcOf (szOf P e) g σ.h y with
        | some (nm, l, s1), some (l', s2) =>
          some ⟨.vw d 0 (l.length + l'.length) (szOf P e), (d, some (true, .arr e (szOf P e) (l ++ l'))) :: (match nm with | some k => [(k, none)] | none => []), s1 ∧ s2 ∧ (l.length + l'.length) * byOf P e ≤ 140737488355328, True⟩
        | _, _ => none
      else none

section
variable {C : Ctx} {σ : St} {o : Oper} {g : Bool}

theorem src_rep {ι : Nat → Option (Nat × Nat)} {a : Act} {w : World} (S : SimI C σ ι a w) (hg : g = true) {n : Nat} {y : Operand} {l : List (List D)} {s : Prop} (h : srcOf n g σ.h (opnd σ.e y) = some (l, s)) (hs : s) :
    ∃ va c news, a.eval y = .slice va l.length c ∧ RepDss (okOf σ.h ι w) w n l news ∧ (va = none → l = []) ∧ ∀ p, va = some p → ∀ j u, news[j]? = some u → w.cell? (p.add j) = some u := by
  unfold srcOf at h
  split at h
  · rename_i n' l' hy
    cases hn : n' == n
    · simp [hn] at h
    · simp only [hn, cond_true, Option.some.injEq, Prod.mk.injEq] at h
      obtain ⟨rfl, rfl⟩ := h
      simp only [beq_iff_eq] at hn; subst hn
      have ey := S.sopnd hg y hs
      rw [hy] at ey
      simp only [RepA, RepD] at ey
      obtain ⟨_, ey⟩ := ey
      rcases ey with ⟨rfl, b, cap, ey⟩ | ⟨b, oo, cap, vs, ey, hcap, hb, hrs, hc⟩
      · exact ⟨b, cap, [], ey, by simp [RepDss], fun _ => rfl, fun p _ j u hu => by simp at hu⟩
      · refine ⟨_, _, vs, ey, hrs, fun h => by simp at h, fun p hp j u hu => ?_⟩
        simp only [Option.some.injEq] at hp; subst hp
        rw [addr_add]; exact hc j u hu
  · rename_i nm oo m n' hy
    split at h
    · rename_i g' T' n'' l' hh
      cases hn : (n' == n && n'' == n)
      · simp [hn] at h
      · simp only [hn, cond_true, Option.some.injEq, Prod.mk.injEq] at h
        obtain ⟨rfl, rfl⟩ := h
        simp only [Bool.and_eq_true, beq_iff_eq] at hn
        obtain ⟨rfl, hn⟩ := hn
        subst hn
        obtain ⟨p1, p2, p3⟩ := hs
        have hlen : ((l'.drop oo).take m).length = m := by simp; omega
        have ey := S.sopnd hg y p1
        rw [hy] at ey
        simp only [RepA] at ey
        have hgg := p2 hg
        subst hgg
        rcases ey with ⟨_, ey, rfl, rfl⟩ | ⟨b, c, hi, ey, hle⟩
        · exact ⟨none, 0, [], by simpa using ey, by simp [RepDss], fun _ => by simp, fun p hp => by simp at hp⟩
        · rcases S.ent nm _ hh with ⟨h1, _⟩ | ⟨b', cap, cur, h1, h2, h3, h4, h5, h6, h7⟩
          · rw [hi] at h1; cases h1
          · rw [hi] at h1; simp only [Option.some.injEq, Prod.mk.injEq] at h1
            obtain ⟨rfl, rfl⟩ := h1
            refine ⟨_, _, _, by rw [hlen]; exact ey, RepDss_take m (RepDss_drop oo h7), fun h => by simp at h, fun p hp j u hu => ?_⟩
            simp only [Option.some.injEq] at hp; subst hp
            have hc := cellsAt_take (k := m * n'') (cellsAt_drop (k := oo * n'') (cellsAt_take (k := l'.length * n'') (cellsAt_block (o := 0) h3)))
            simp only [List.drop_zero, Nat.zero_add] at hc
            rw [addr_add]
            exact hc j u hu
    · cases h
  · rename_i hy
    simp only [Option.some.injEq, Prod.mk.injEq] at h
    obtain ⟨rfl, rfl⟩ := h
    have ey := S.sopnd hg y hs
    rw [hy] at ey
    simp only [RepA, RepD] at ey
    exact ⟨none, 0, [], by simpa using ey, by simp [RepDss], fun _ => rfl, fun p hp => by simp at hp⟩
  · cases h

theorem fresh_drop {d k : Nat} (hf : fresh d σ = true) : fresh d ⟨σ.e, (k, none) :: σ.h⟩ = true := by
  simp only [fresh, Bool.and_eq_true, List.all_cons] at hf ⊢
  exact ⟨hf.1, trivial, hf.2⟩
theorem fresh_arr {d k T n : Nat} {l : List (List D)} (hf : fresh d σ = true) : fresh d ⟨σ.e, (k, some (true, .arr T n l)) :: σ.h⟩ = true := by
  simp only [fresh, Bool.and_eq_true, List.all_cons] at hf ⊢
  exact ⟨hf.1, rfl, hf.2⟩

theorem run_append_nothing {P : Program} {w : World} {T ty e : Nat} (va : Option Addr) (c : Nat) (hu : P.underlying T = some (.slice e)) (hi : ∃ i, P.info? e = some i) (s : Option Addr) (sl sc : Nat) (hle : sl ≤ sc) :
    (Builtin.append_ #[T, T] ty #[.slice s sl sc, .slice va 0 c]).run P w = .ok (.slice s sl sc) w := by
  obtain ⟨i, hi⟩ := hi
  cases va <;> cases s <;> simp [Builtin.append_, run_underlying hu, sizeOf, typeInfo, hi, Builtin.lenOf, Builtin.firstCells, hle, loadCells, loadCellsFrom, storeCells]

theorem okOf_drop {ι : Nat → Option (Nat × Nat)} {w : World} {h : Hp} {k : Nat} : ∀ b, okOf h ι w b → okOf ((k, none) :: h) ι w b := by
  intro b hb
  refine ⟨hb.1, fun j y c hy => hb.2 j y c ?_⟩
  simp only [geth] at hy
  cases hk : k == j
  · rw [hk] at hy; exact hy
  · rw [hk] at hy; simp at hy

/-- Append to nothing. -/
theorem app_nil {ι : Nat → Option (Nat × Nat)} {a : Act} {w : World} {T ty e d : Nat} {z : List D} {y : Value} {va : Option Addr} {vc : Nat} {news : List Value} {l' : List (List D)}
    (S : SimI C σ ι a w) (hf : fresh d σ = true) (hu : C.P.underlying T = some (.slice e)) (hz : zC C.P e = some z) (hzl : z.length = szOf C.P e) (ey : y = .slice va l'.length vc)
    (hnews : RepDss (okOf σ.h ι w) w (szOf C.P e) l' news) (hva : va = none → l' = []) (hcell : ∀ p, va = some p → ∀ j u, news[j]? = some u → w.cell? (p.add j) = some u) (htot : l'.length ≤ 140737488355328) (hb : l'.length * byOf C.P e ≤ 140737488355328) :
    ∃ v w' ι', (Builtin.append_ #[T, T] ty #[.slice none 0 0, y]).run C.P w = .ok v w' ∧ SimI C ⟨σ.e, (d, some (true, .arr e (szOf C.P e) l')) :: σ.h⟩ ι' a w' ∧
      RepA (okOf ((d, some (true, .arr e (szOf C.P e) l')) :: σ.h) ι' w') ι' w' (.vw d 0 l'.length (szOf C.P e)) v := by
  obtain ⟨i, u, hi1, hi2, hi3⟩ := zC_rep (ok := okOf σ.h ι w) (w := w) hz
  have his : i.size = szOf C.P e := by simp [szOf, hi1]
  have hib : i.bytes = byOf C.P e := by simp [byOf, hi1]
  have hnl := RepDss_length hnews
  subst ey
  by_cases hl' : l' = []
  · subst hl'
    have hr := run_append_nothing (P := C.P) (w := w) (ty := ty) va vc hu ⟨i, hi1⟩ none 0 0 (by omega)
    have S2 := S.new (w' := w) (p := none) (x := .arr e (szOf C.P e) []) rfl rfl rfl (by omega) (fun _ _ => rfl) hf (fun b c h => by cases h) (fun _ _ => .inl ⟨by simp, rfl⟩)
    exact ⟨_, _, _, hr, S2, by simp [RepA]⟩
  · obtain ⟨p, rfl⟩ : ∃ p, va = some p := by
      cases va with
      | none => exact absurd (hva rfl) hl'
      | some p => exact ⟨p, rfl⟩
    have h0 : 0 < l'.length := by cases l' with | nil => exact absurd rfl hl' | cons => simp
    have hr := run_append_nil (P := C.P) w T ty e i u hu hi1 hi2 p l'.length vc news (by rw [hnl, his]) (hcell p rfl) h0 (by omega) (by rw [hib]; omega)
    have hge := grownCap_ge w l'.length 0 e
    have hml := grownCap_le_maxLen w l'.length 0 e (by simp [maxLen]; omega)
    have hus : u.cells.size = szOf C.P e := by have := RepDs_length hi3; simp at this; omega
    obtain ⟨ι', S', hd'⟩ := S.newArr (T := e) (n := szOf C.P e) (l := l') (cap := grownCap w l'.length 0 e) (cur := news.toArray ++ Builtin.zeroCells u.cells (grownCap w l'.length 0 e - l'.length)) (w' := w.drew.alloc (.cells (news.toArray ++ Builtin.zeroCells u.cells (grownCap w l'.length 0 e - l'.length)) e)) hf rfl rfl rfl rfl
      (by simp only [Array.toList_append]; rw [← hnl, List.take_append_of_le_length (by simp), List.take_of_length_le (by simp)]; exact hnews) (by simp only [Array.size_append, List.size_toArray, size_zeroCells, hus, hnl, ← Nat.add_mul]; congr 1; omega) hge hml
    refine ⟨_, _, ι', hr, S', ?_⟩
    simp only [RepA]
    exact .inr ⟨_, _, hd', by simp, by omega⟩

theorem snd_app {T d : Nat} {x y : Operand} {out : Out} (ho : o.op = .call ⟨.builtin .append, #[x, y], #[T, T]⟩) (h : vApp C.P d T g σ (opnd σ.e x) (opnd σ.e y) = some out) : Snd C o g σ out := by
  unfold vApp at h
  split at h
  · cases h
  · rename_i e he
    have hu := elOf_some he
    split at h
    · cases h
    · rename_i z hz
      cases hcnd : (z.length == szOf C.P e && decide (0 < (szOf C.P e)) && decide (0 < (byOf C.P e)) && fresh d σ)
      · simp [hcnd] at h
      · simp only [hcnd, cond_true] at h
        simp only [Bool.and_eq_true, decide_eq_true_eq, beq_iff_eq] at hcnd
        obtain ⟨⟨⟨c1, c2⟩, c3⟩, hf⟩ := hcnd
        split at h
        · rename_i nm l s1 l' s2 hd hsrc
          simp only [Option.some.injEq] at h; subst h
          intro ι a w S hg hs
          obtain ⟨q1, q2, q3⟩ := hs
          obtain ⟨i, u, hi1, hi2, hi3⟩ := zC_rep (ok := okOf σ.h ι w) (w := w) hz
          have his : i.size = szOf C.P e := by simp [szOf, hi1]
          have hib : i.bytes = byOf C.P e := by simp [byOf, hi1]
          obtain ⟨va, vc, news, ey, hnews, hva, hcell⟩ := src_rep S hg hsrc q2
          have hnl := RepDss_length hnews
          have hn1 := RepDss_one hnews
          have htot : l.length + l'.length ≤ 140737488355328 := by
            have : (l.length + l'.length) * 1 ≤ (l.length + l'.length) * byOf C.P e := Nat.mul_le_mul_left _ c3
            omega
          obtain ⟨cs, hcs⟩ := run_call_builtin (P := C.P) (w := w) (ρ := a.eval) ho
          have hrun : ∀ {v w'}, (Builtin.append_ #[T, T] o.type #[a.eval x, a.eval y]).run C.P w = .ok v w' → (execOp a.eval o).run C.P w = .ok (.value v) w' := by
            intro v w' hr
            rw [hcs]
            simp only [builtin, List.map_toArray, List.map_cons, List.map_nil, Sem.run_bind, hr, Result.andThen_ok, Sem.run_pure]
          unfold dstOf at hd
          split at hd
          · rename_i nm' oo m n' hx
            split at hd
            · rename_i g' T' n'' l0 hh
              cases hc : (T' == e && n' == szOf C.P e && n'' == szOf C.P e && oo == 0)
              · simp [hc] at hd
              · simp only [hc, cond_true, Option.some.injEq, Prod.mk.injEq] at hd
                obtain ⟨rfl, rfl, rfl⟩ := hd
                simp only [Bool.and_eq_true, beq_iff_eq] at hc
                obtain ⟨⟨⟨rfl, rfl⟩, rfl⟩, rfl⟩ := hc
                obtain ⟨p1, rfl, rfl⟩ := q1
                have ex := S.sopnd hg x p1
                rw [hx] at ex
                simp only [RepA] at ex
                rcases ex with ⟨hi0, ex, _, hl0⟩ | ⟨b, c, hi0, ex, hle⟩
                · have hl00 : l0 = [] := List.eq_nil_of_length_eq_zero hl0
                  subst hl00
                  obtain ⟨v, w', ι', h1, h2, h3⟩ := app_nil (ty := o.type) (S.drop nm') (fresh_drop hf) hu hz c1 ey (RepDss.tr okOf_drop (fun _ _ => rfl) _ _ _ hnews) hva hcell (by simpa using htot) (by simpa using q3)
                  rw [ex] at hrun
                  exact ⟨_, w', v, hrun h1, .inl rfl, trivial, ι', h2, by simpa using h3⟩
                · rcases S.ent nm' _ hh with ⟨h1, _⟩ | ⟨b', cap, cur, h1, h2, h3, h4, h5, h6, h7⟩
                  · rw [hi0] at h1; cases h1
                  · rw [hi0] at h1; simp only [Option.some.injEq, Prod.mk.injEq] at h1
                    obtain ⟨rfl, rfl⟩ := h1
                    have hol := RepDss_length h7
                    simp only [Nat.zero_mul, Nat.sub_zero] at ex
                    by_cases hroom : l0.length + l'.length ≤ c
                    · -- in place
                      have hfit : l0.length * szOf C.P T' + news.length ≤ cur.size := by
                        rw [hnl, h4, ← Nat.add_mul]; exact Nat.mul_le_mul_right _ hroom
                      have hr : (Builtin.append_ #[T, T] o.type #[.slice (some ⟨b, 0, none⟩) l0.length c, a.eval y]).run C.P w = .ok (.slice (some ⟨b, 0, none⟩) (l0.length + l'.length) c) (w.setRow b (cur.toList.take (l0.length * szOf C.P T') ++ news ++ cur.toList.drop (l0.length * szOf C.P T' + news.length)).toArray) := by
                        cases va with
                        | none =>
                          have := hva rfl
                          subst this
                          simp only [RepDss] at hnews
                          subst hnews
                          rw [ey, List.length_nil, run_append_nothing (P := C.P) (w := w) none vc hu ⟨i, hi1⟩ _ _ _ h5]
                          simp only [List.append_nil, List.length_nil, Nat.add_zero, List.take_append_drop, Array.toArray_toList]
                          rw [setRow_self w b cur T' (0, 0) h3]
                        | some p =>
                          rw [ey]
                          have := run_append_room (P := C.P) w T o.type T' i hu hi1 b l0.length c cur h3 p l'.length vc news (by rw [hnl, his]) (hcell p rfl) hn1 hroom (by rw [his]; exact hfit)
                          rw [his] at this
                          exact this
                      rw [ex] at hrun
                      have S1 := S.write (x' := .arr T' (szOf C.P T') (l0 ++ l')) (w' := w.setRow b (cur.toList.take (l0.length * szOf C.P T') ++ news ++ cur.toList.drop (l0.length * szOf C.P T' + news.length)).toArray) hh hi0 (setRow_heap w b cur _ T' (0, 0) h3) rfl rfl rfl (by simp) (fun k hk => setRow_other w b k _ hk) (fun hok hw => by
                        refine .inr ⟨b, c, _, hi0, h2, setRow_heap w b cur _ T' (0, 0) h3, ?_, by simpa using hroom, h6, ?_⟩
                        · simp; omega
                        · have := RepDss_append (RepDss.tr hok hw _ _ _ h7) (RepDss.tr hok hw _ _ _ hnews)
                          refine cast (congrArg _ ?_) this
                          have hlen : (l0 ++ l').length * szOf C.P T' = (cur.toList.take (l0.length * szOf C.P T') ++ news).length := by rw [List.length_append, List.length_append, hol, hnl, Nat.add_mul]
                          rw [hlen]
                          show _ = List.take _ (_ ++ _ ++ _)
                          rw [List.take_append_of_le_length (Nat.le_refl _), List.take_length])
                      have S2 := S1.rename (nm := nm') (d := d) (x := .arr T' (szOf C.P T') (l0 ++ l')) (by simp [geth]) (fresh_arr hf) rfl
                      have S3 := S2.hcongr (h' := (d, some (true, .arr T' (szOf C.P T') (l0 ++ l'))) :: (nm', none) :: σ.h) (fun k => by
                        simp only [geth]
                        cases d == k <;> cases hk : nm' == k <;> simp)
                      refine ⟨_, _, _, hrun hr, .inl rfl, trivial, _, S3, ?_⟩
                      simp only [RepA]
                      exact .inr ⟨b, c, by simp [hi0], by simp, by omega⟩
                    · -- a new array
                      obtain ⟨p, rfl⟩ : ∃ p, va = some p := by
                        cases va with
                        | none => have := hva rfl; subst this; simp at hroom; omega
                        | some p => exact ⟨p, rfl⟩
                      have hold : ∀ (j : Nat) (u : Value), (cur.toList.take (l0.length * szOf C.P T'))[j]? = some u → w.cell? ((⟨b, 0, none⟩ : Addr).add j) = some u := by
                        intro j u hj
                        have hc := cellsAt_take (k := l0.length * szOf C.P T') (cellsAt_block (o := 0) h3)
                        simp only [List.drop_zero] at hc
                        rw [addr_add]; exact hc j u hj
                      have hr := run_append_grow (P := C.P) w T o.type T' i u hu hi1 hi2 ⟨b, 0, none⟩ l0.length c (cur.toList.take (l0.length * szOf C.P T')) (by rw [his]; exact hol) hold p l'.length vc news (by rw [hnl, his]) (hcell p rfl) (by omega) (by omega) (growslice_fits (by omega) (by rw [hib]; exact q3))
                      have hge := grownCap_ge w (l0.length + l'.length) c T'
                      have hml := grownCap_le_maxLen w (l0.length + l'.length) c T' (by simp [maxLen]; omega)
                      have hus : u.cells.size = szOf C.P T' := by have := RepDs_length hi3; simp at this; omega
                      rw [ex, ey] at hrun
                      obtain ⟨ι', S', hd'⟩ := (S.drop nm').newArr (d := d) (T := T') (n := szOf C.P T') (l := l0 ++ l') (cap := grownCap w (l0.length + l'.length) c T') (cur := (cur.toList.take (l0.length * szOf C.P T')).toArray ++ news.toArray ++ Builtin.zeroCells u.cells (grownCap w (l0.length + l'.length) c T' - (l0.length + l'.length)))
                        (w' := w.drew.alloc (.cells ((cur.toList.take (l0.length * szOf C.P T')).toArray ++ news.toArray ++ Builtin.zeroCells u.cells (grownCap w (l0.length + l'.length) c T' - (l0.length + l'.length))) T')) (fresh_drop hf) rfl rfl rfl rfl
                        (by
                          have h8 := RepDss.tr (ok' := okOf ((nm', none) :: σ.h) ι w) (w' := w) okOf_drop (fun _ _ => rfl) _ _ _ (RepDss_append h7 hnews)
                          have hl8 := RepDss_length h8
                          simp only [Array.toList_append]
                          rw [← hl8, List.take_append_of_le_length (by simp), List.take_of_length_le (by simp)]
                          exact h8)
                        (by simp only [Array.size_append, List.size_toArray, size_zeroCells, hus, hnl, hol, ← Nat.add_mul]; congr 1; omega) (by simpa using hge) hml
                      refine ⟨_, _, _, hrun hr, .inl rfl, trivial, ι', S', ?_⟩
                      simp only [RepA]
                      exact .inr ⟨_, _, hd', by simp, by omega⟩
            · cases hd
          · rename_i hx
            simp only [Option.some.injEq, Prod.mk.injEq] at hd
            obtain ⟨rfl, rfl, rfl⟩ := hd
            have ex := S.sopnd hg x q1
            rw [hx] at ex
            simp only [RepA, RepD] at ex
            obtain ⟨v, w', ι', h1, h2, h3⟩ := app_nil (ty := o.type) S hf hu hz c1 ey hnews hva hcell (by simpa using htot) (by simpa using q3)
            rw [ex] at hrun
            exact ⟨_, w', v, hrun h1, .inl rfl, trivial, ι', h2, by simpa using h3⟩
          · cases hd
        · cases h
end
end Go.Eng
