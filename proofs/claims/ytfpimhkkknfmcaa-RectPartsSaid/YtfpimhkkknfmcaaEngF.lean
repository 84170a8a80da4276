import Derived.Test.YtfpimhkkknfmcaaEngE
import Derived.Laws.MakeOwn
namespace Go.Eng
open Go.RowKit

section
variable {P : Program} {w : World} {ok : Nat → Prop} {ι : Nat → Option (Nat × Nat)}

theorem addr_add (b o j : Nat) : (⟨b, o, none⟩ : Addr).add j = ⟨b, o + j, none⟩ := by unfold Addr.add; split <;> simp_all

theorem ty_ag {T sz : Nat} (h : tyOf P T = some (sz, true)) : (isAgg T).run P w = .ok true w ∧ (sizeOf T).run P w = .ok sz w := by
  unfold tyOf at h
  split at h
  · rename_i i fs hi hu
    simp only [Option.some.injEq, Prod.mk.injEq] at h
    exact ⟨by simp [isAgg, run_underlying hu], by simp [sizeOf, typeInfo, hi, h.1]⟩
  · rename_i i fs e hi hu
    simp only [Option.some.injEq, Prod.mk.injEq] at h
    exact ⟨by simp [isAgg, run_underlying hu], by simp [sizeOf, typeInfo, hi, h.1]⟩
  · simp at h
  · simp at h

theorem ty_one {T sz : Nat} (h : tyOf P T = some (sz, false)) : (isAgg T).run P w = .ok false w ∧ (sizeOf T).run P w = .ok sz w := by
  unfold tyOf at h
  split at h
  · simp at h
  · simp at h
  · rename_i i d h1 h2 hi hu
    simp only [Option.some.injEq, Prod.mk.injEq, and_true] at h
    refine ⟨?_, by simp [sizeOf, typeInfo, hi, h]⟩
    cases d
    case struct fs => exact (h1 fs rfl).elim
    case array n e => exact (h2 n e rfl).elim
    all_goals simp [isAgg, run_underlying hu]
  · simp at h

theorem ty_size {T sz : Nat} {ag : Bool} (h : tyOf P T = some (sz, ag)) : (sizeOf T).run P w = .ok sz w := by
  cases ag
  · exact (ty_one h).2
  · exact (ty_ag h).2

theorem run_loadVar_ag {T sz b o : Nat} {vs : List Value} (h : tyOf P T = some (sz, true)) (hl : vs.length = sz) (hc : cellsAt w b o vs) :
    (loadVar T ⟨b, o, none⟩).run P w = .ok (.agg vs.toArray) w := by
  have h1 := (ty_ag (w := w) h).1
  have h2 := (ty_ag (w := w) h).2
  have h3 := run_loadCells_list (P := P) w ⟨b, o, none⟩ vs (fun j u hu => by rw [addr_add]; exact hc j u hu)
  rw [hl] at h3
  simp [loadVar, h1, h2, h3]

theorem run_loadVar_one {T sz : Nat} {a : Addr} {u : Value} (h : tyOf P T = some (sz, false)) (hc : w.cell? a = some u) :
    (loadVar T a).run P w = .ok u w := by
  have h1 := (ty_one (w := w) h).1
  simp [loadVar, h1, hc]

theorem rdD_load {T sz b o : Nat} {ag : Bool} {x : List D} {ws : List Value} {r : AV} (ht : tyOf P T = some (sz, ag)) (hx : RepDs ok w x ws) (hc : cellsAt w b o ws) (hr : rdD sz ag x = some r) :
    ∃ v, (loadVar T ⟨b, o, none⟩).run P w = .ok v w ∧ RepA ok ι w r v := by
  unfold rdD at hr
  cases ag
  · simp only [cond_false] at hr
    cases x with
    | nil => simp at hr
    | cons d x =>
      simp only [Option.some.injEq] at hr; subst hr
      simp only [RepDs] at hx
      obtain ⟨v, vs', rfl, h1, _, _⟩ := hx
      exact ⟨v, run_loadVar_one ht (hc 0 v (by simp)), by simpa only [RepA] using h1⟩
  · simp only [cond_true] at hr
    cases hb : decide (sz ≤ x.length)
    · simp [hb] at hr
    · simp only [hb, cond_true, Option.some.injEq] at hr; subst hr
      simp only [decide_eq_true_eq] at hb
      have hl := RepDs_length hx
      refine ⟨_, run_loadVar_ag (vs := ws.take sz) ht (by simp; omega) (fun j u hu => hc j u ?_), ?_⟩
      · rw [List.getElem?_take] at hu
        split at hu
        · exact hu
        · cases hu
      · simp only [RepA, RepD]
        exact ⟨_, rfl, RepDs_take sz hx⟩

theorem rdA_load {T sz b o : Nat} {ag : Bool} {x : List AV} {ws : List Value} {r : AV} (ht : tyOf P T = some (sz, ag)) (hx : RepAs ok ι w true x ws) (hc : cellsAt w b o ws) (hr : rdA sz ag x = some r) :
    ∃ v, (loadVar T ⟨b, o, none⟩).run P w = .ok v w ∧ RepA ok ι w r v := by
  unfold rdA at hr
  cases ag
  · simp only [cond_false] at hr
    obtain ⟨v, h1, h2, _⟩ := RepAs_get 0 hx hr
    exact ⟨v, run_loadVar_one ht (by simpa using hc 0 v h1), h2⟩
  · simp only [cond_true] at hr
    cases hb : decide (sz ≤ x.length)
    · simp [hb] at hr
    · simp only [hb, cond_true, Option.some.injEq] at hr; subst hr
      simp only [decide_eq_true_eq] at hb
      have hl := RepAs_length hx
      refine ⟨_, run_loadVar_ag (vs := ws.take sz) ht (by simp; omega) (fun j u hu => hc j u ?_), ?_⟩
      · rw [List.getElem?_take] at hu
        split at hu
        · exact hu
        · cases hu
      · exact mkAgg_rep (RepAs_take sz hx)

theorem cellsAt_block {b o : Nat} {cur : Array Value} {T : Nat} {fr : Nat × Nat} (h : w.heap[b]? = some (.cells cur T fr)) : cellsAt w b o (cur.toList.drop o) := by
  intro j u hu
  simp only [List.getElem?_drop, Array.getElem?_toList] at hu
  simp [World.cell?, h, hu]

theorem cellsAt_drop {b o k : Nat} {vs : List Value} (h : cellsAt w b o vs) : cellsAt w b (o + k) (vs.drop k) := by
  intro j u hu
  rw [List.getElem?_drop] at hu
  have := h (k + j) u hu
  rwa [show o + (k + j) = o + k + j by omega] at this

theorem cellsAt_take {b o k : Nat} {vs : List Value} (h : cellsAt w b o vs) : cellsAt w b o (vs.take k) := by
  intro j u hu
  rw [List.getElem?_take] at hu
  split at hu
  · exact h j u hu
  · cases hu

theorem elt_some {T k : Nat} {l : List (List D)} (hk : k < l.length) : l[k]? = some (elt P T l k) := by
  simp [elt, List.getElem?_eq_getElem hk, List.getD]
end

section
variable {C : Ctx} {σ : St} {o : Oper} {g : Bool}

theorem SimI.box {ι : Nat → Option (Nat × Nat)} {a : Act} {w : World} (S : SimI C σ ι a w) {nm T : Nat} {c : List AV} {g' : Bool} (h : geth σ.h nm = some (g', .box T c)) (hg : g' = true) :
    ∃ b cap cur, ι nm = some (b, cap) ∧ C.own b ∧ w.heap[b]? = some (.cells cur T (0, 0)) ∧ RepAs (okOf σ.h ι w) ι w true c cur.toList := by
  subst hg; exact S.ent nm _ h

theorem SimI.arr {ι : Nat → Option (Nat × Nat)} {a : Act} {w : World} (S : SimI C σ ι a w) {nm T n : Nat} {l : List (List D)} {g' : Bool} (h : geth σ.h nm = some (g', .arr T n l)) (hg : g' = true) (hl : 0 < l.length) :
    ∃ b cap cur, ι nm = some (b, cap) ∧ C.own b ∧ w.heap[b]? = some (.cells cur T (0, 0)) ∧ cur.size = cap * n ∧ l.length ≤ cap ∧ cap ≤ maxLen ∧ RepDss (okOf σ.h ι w) w n l (cur.toList.take (l.length * n)) := by
  subst hg
  rcases S.ent nm _ h with ⟨_, rfl⟩ | h
  · simp at hl
  · exact h

theorem snd_load {T : Nat} {x : Operand} {out : Out} (ho : o.op = .load T x) (h : vLoad C.P T g σ.h (opnd σ.e x) = some out) : Snd C o g σ out := by
  unfold vLoad at h
  split at h
  · cases h
  · rename_i sz ag ht
    split at h
    · rename_i nm off hx
      split at h
      · rename_i g' T' c hh
        split at h
        · rename_i r hr
          simp only [Option.some.injEq] at h; subst h
          refine Snd.pure fun ι a w S hg hs => ?_
          have ex := S.sopnd hg x hs.1
          rw [hx] at ex
          simp only [RepA] at ex
          obtain ⟨b, cc, hi, ex⟩ := ex
          obtain ⟨b', cap, cur, h1, h2, h3, h4⟩ := S.box hh (hs.2 hg)
          rw [hi] at h1; simp only [Option.some.injEq, Prod.mk.injEq] at h1
          obtain ⟨rfl, rfl⟩ := h1
          obtain ⟨v, hv, hrep⟩ := rdA_load (b := b) (o := off) ht (RepAs_drop off h4) (cellsAt_block h3) hr
          exact ⟨v, by simp [execOp, ho, ex, Instr.loadAt, Instr.sureAddr, hv], trivial, hrep⟩
        · cases h
      · cases h
    · rename_i l hx
      split at h
      · rename_i r hr
        simp only [Option.some.injEq] at h; subst h
        refine Snd.pure fun ι a w S hg hs => ?_
        have ex := S.sopnd hg x hs
        rw [hx] at ex
        simp only [RepA] at ex
        obtain ⟨b, off, vs, ex, hb, hrs, hc⟩ := ex
        obtain ⟨v, hv, hrep⟩ := rdD_load (ι := ι) ht hrs hc hr
        exact ⟨v, by simp [execOp, ho, ex, Instr.loadAt, Instr.sureAddr, hv], trivial, hrep⟩
      · cases h
    · rename_i nm k f n hx
      split at h
      · rename_i g' T' n' l hh
        split at h
        · rename_i r hr
          cases hn : n == n'
          · simp [hn] at h
          · simp only [hn, cond_true, Option.some.injEq] at h; subst h
            simp only [beq_iff_eq] at hn; subst hn
            refine Snd.pure fun ι a w S hg hs => ?_
            obtain ⟨p1, p2, hk⟩ := hs
            have ex := S.sopnd hg x p1
            rw [hx] at ex
            simp only [RepA] at ex
            obtain ⟨b, cc, hi, ex⟩ := ex
            obtain ⟨b', cap, cur, h1, h2, h3, h4, h5, h6, h7⟩ := S.arr hh (p2 hg) (by omega)
            rw [hi] at h1; simp only [Option.some.injEq, Prod.mk.injEq] at h1
            obtain ⟨rfl, rfl⟩ := h1
            obtain ⟨q1, q2⟩ := RepDss_at k h7 (elt_some (P := C.P) (T := T') hk)
            have hc : cellsAt w b (k * n) (((cur.toList.take (l.length * n)).drop (k * n)).take n) := by
              have := cellsAt_take (k := n) (cellsAt_drop (k := k * n) (cellsAt_take (k := l.length * n) (by simpa using cellsAt_block (o := 0) h3)))
              simpa using this
            obtain ⟨v, hv, hrep⟩ := rdD_load (ι := ι) ht (RepDs_drop f q1) (cellsAt_drop (k := f) hc) hr
            exact ⟨v, by simp [execOp, ho, ex, Instr.loadAt, Instr.sureAddr, hv], trivial, hrep⟩
        · cases h
      · cases h
    · cases h

theorem snd_fld {T : Nat} {x : Operand} {f : Nat} {out : Out} (ho : o.op = .fieldAddr T x f) (h : vFld C.P T g (opnd σ.e x) f = some out) : Snd C o g σ out := by
  unfold vFld at h
  split at h
  · cases h
  · rename_i off t hf
    cases hz : szOf C.P t == 0
    · simp only [hz, cond_false] at h
      have hu : ∃ fs fl, C.P.underlying T = some (.struct fs) ∧ fs[f]? = some fl ∧ fl.offset = off ∧ fl.type = t := by
        unfold fldOf at hf
        split at hf
        · rename_i fs hu
          simp only [Option.map_eq_some_iff, Prod.mk.injEq] at hf
          obtain ⟨fl, h1, h2, h3⟩ := hf
          exact ⟨fs, fl, hu, h1, h2, h3⟩
        · cases hf
      obtain ⟨fs, fl, hu, hfl, rfl, rfl⟩ := hu
      have hsz : ∃ s, (∀ w, (sizeOf fl.type).run C.P w = .ok s w) ∧ s ≠ 0 := by
        unfold szOf at hz
        cases hi : C.P.info? fl.type with
        | none => simp [hi] at hz
        | some i => exact ⟨i.size, fun w => by simp [sizeOf, typeInfo, hi], by simpa [hi] using hz⟩
      obtain ⟨s, hs1, hs2⟩ := hsz
      split at h
      · rename_i nm oo hx
        simp only [Option.some.injEq] at h; subst h
        refine Snd.pure fun ι a w S hg hs => ?_
        have ex := S.sopnd hg x hs
        rw [hx] at ex
        simp only [RepA] at ex
        obtain ⟨b, cc, hi, ex⟩ := ex
        exact ⟨.pointer (some ⟨b, oo + fl.offset, none⟩), by simp [execOp, ho, ex, Instr.fieldAt, run_underlying hu, hfl, Instr.sureAddr, fieldPlace, hs1, hs2, addr_add], trivial, by simp only [RepA]; exact ⟨b, cc, hi, rfl⟩⟩
      · rename_i nm k f n hx
        simp only [Option.some.injEq] at h; subst h
        refine Snd.pure fun ι a w S hg hs => ?_
        have ex := S.sopnd hg x hs
        rw [hx] at ex
        simp only [RepA] at ex
        obtain ⟨b, cc, hi, ex⟩ := ex
        exact ⟨.pointer (some ⟨b, k * n + (f + fl.offset), none⟩), by simp [execOp, ho, ex, Instr.fieldAt, run_underlying hu, hfl, Instr.sureAddr, fieldPlace, hs1, hs2, addr_add, Nat.add_assoc], trivial, by simp only [RepA]; exact ⟨b, cc, hi, rfl⟩⟩
      · rename_i l hx
        simp only [Option.some.injEq] at h; subst h
        refine Snd.pure fun ι a w S hg hs => ?_
        have ex := S.sopnd hg x hs
        rw [hx] at ex
        simp only [RepA] at ex
        obtain ⟨b, oo, vs, ex, hb, hrs, hc⟩ := ex
        exact ⟨.pointer (some ⟨b, oo + fl.offset, none⟩), by simp [execOp, ho, ex, Instr.fieldAt, run_underlying hu, hfl, Instr.sureAddr, fieldPlace, hs1, hs2, addr_add], trivial, by
          simp only [RepA]; exact ⟨b, _, _, rfl, hb, RepDs_drop _ hrs, cellsAt_drop hc⟩⟩
      · cases h
    · simp [hz] at h

theorem elOf_some {P : Program} {T e : Nat} (h : elOf P T = some e) : P.underlying T = some (.slice e) := by
  unfold elOf at h; split at h <;> simp_all
theorem arOf_some {P : Program} {T n e : Nat} (h : arOf P T = some (n, e)) : P.underlying T = some (.array n e) := by
  unfold arOf at h; split at h <;> simp_all

theorem run_sizeOf {P : Program} {w : World} {e n : Nat} (h : (szOf P e == n && (P.info? e).isSome) = true) : (sizeOf e).run P w = .ok n w := by
  simp only [Bool.and_eq_true, beq_iff_eq] at h
  obtain ⟨i, hi⟩ := Option.isSome_iff_exists.1 h.2
  simp only [szOf, hi, Option.map_some, Option.getD_some] at h
  simp [sizeOf, typeInfo, hi, h.1]

theorem snd_idx {T : Nat} {x y : Operand} {out : Out} (ho : o.op = .indexAddr T x y) (h : vIdx C.P T g (opnd σ.e x) (opnd σ.e y) = some out) : Snd C o g σ out := by
  unfold vIdx at h
  split at h
  · cases h
  · rename_i k i hy
    split at h
    · rename_i nm oo m n hx
      split at h
      · rename_i e he
        cases hz : (szOf C.P e == n && (C.P.info? e).isSome)
        · simp [hz] at h
        · simp only [hz, cond_true, Option.some.injEq] at h; subst h
          refine Snd.pure fun ι a w S hg hs => ?_
          obtain ⟨p1, p2, h0, h1⟩ := hs
          have ex := S.sopnd hg x p1
          have ey := isI_rep (S.sopnd hg y p2) hy
          rw [hx] at ex
          simp only [RepA] at ex
          rcases ex with ⟨_, _, _, rfl⟩ | ⟨b, c, hi, ex, hle⟩
          · omega
          · have hu := elOf_some he
            have hs := run_sizeOf (w := w) hz
            refine ⟨.pointer (some ⟨b, (oo + i.toNat) * n + 0, none⟩), ?_, trivial, by simp only [RepA]; exact ⟨b, c, hi, rfl⟩⟩
            simp [execOp, ho, ex, ey, Instr.indexAt, run_underlying hu, asIntOf, h0, h1, hs, addr_add, Nat.add_mul]
      · cases h
    · rename_i n l hx
      split at h
      · rename_i e he
        cases hz : (szOf C.P e == n && (C.P.info? e).isSome)
        · simp [hz] at h
        · simp only [hz, cond_true, Option.some.injEq] at h; subst h
          refine Snd.pure fun ι a w S hg hs => ?_
          obtain ⟨p1, p2, h0, h1⟩ := hs
          have ex := S.sopnd hg x p1
          have ey := isI_rep (S.sopnd hg y p2) hy
          rw [hx] at ex
          simp only [RepA, RepD] at ex
          obtain ⟨hml, ex⟩ := ex
          rcases ex with ⟨rfl, _⟩ | ⟨b, oo, cap, vs, ex, _, hb, hrs, hc⟩
          · simp at h1; omega
          · have hu := elOf_some he
            have hs := run_sizeOf (w := w) hz
            have hk : i.toNat < l.length := by omega
            obtain ⟨q1, q2⟩ := RepDss_at i.toNat hrs (elt_some (P := C.P) (T := e) hk)
            refine ⟨.pointer (some ⟨b, oo + i.toNat * n, none⟩), ?_, trivial, ?_⟩
            · simp [execOp, ho, ex, ey, Instr.indexAt, run_underlying hu, asIntOf, h0, h1, hs, addr_add]
            · simp only [RepA]
              exact ⟨b, _, _, rfl, hb, q1, cellsAt_take (cellsAt_drop hc)⟩
      · cases h
    · rename_i nm oo hx
      split at h
      · rename_i len e he
        cases hz : (C.P.info? e).isSome
        · simp [hz] at h
        · simp only [hz, cond_true, Option.some.injEq] at h; subst h
          refine Snd.pure fun ι a w S hg hs => ?_
          obtain ⟨p1, p2, h0, h1⟩ := hs
          have ex := S.sopnd hg x p1
          have ey := isI_rep (S.sopnd hg y p2) hy
          rw [hx] at ex
          simp only [RepA] at ex
          obtain ⟨b, c, hi, ex⟩ := ex
          have hu := arOf_some he
          have hs := run_sizeOf (P := C.P) (e := e) (n := szOf C.P e) (w := w) (by simp [hz])
          refine ⟨.pointer (some ⟨b, oo + i.toNat * szOf C.P e, none⟩), ?_, trivial, by simp only [RepA]; exact ⟨b, c, hi, rfl⟩⟩
          simp [execOp, ho, ex, ey, Instr.indexAt, run_underlying hu, asIntOf, Instr.sureAddr, h0, h1, hs, addr_add]
      · cases h
    · cases h

theorem cut_take {l : List D} : ∀ {n o : Nat}, o + n ≤ l.length → cut l o n = (l.drop o).take n
  | 0, o, _ => by simp [cut]
  | n + 1, o, h => by
    have ho : o < l.length := by omega
    rw [cut, cut_take (by omega), List.drop_eq_getElem_cons ho, List.take_succ_cons, List.getD_eq_getElem?_getD, List.getElem?_eq_getElem ho]
    rfl

theorem snd_index {T : Nat} {x y : Operand} {out : Out} (ho : o.op = .index T x y) (h : vIndex C.P T g (opnd σ.e x) (opnd σ.e y) = some out) : Snd C o g σ out := by
  unfold vIndex at h
  split at h
  · rename_i k i ds len e hy hx he
    split at h
    · rename_i sz ag ht
      cases hz : (ds.length == len * sz && (ag || sz == 1))
      · simp [hz] at h
      · simp only [hz, cond_true, Option.some.injEq] at h; subst h
        refine Snd.pure fun ι a w S hg hs => ?_
        obtain ⟨p1, p2, h0, h1⟩ := hs
        simp only [Bool.and_eq_true, beq_iff_eq, Bool.or_eq_true] at hz
        have ex := S.sopnd hg x p1
        have ey := isI_rep (S.sopnd hg y p2) hy
        rw [hx] at ex
        simp only [RepA, RepD] at ex
        obtain ⟨vs, ex, hr⟩ := ex
        have hu := arOf_some he
        have hi : i.toNat < len := by omega
        have hmul : (i.toNat + 1) * sz ≤ len * sz := Nat.mul_le_mul_right _ hi
        rw [Nat.add_mul] at hmul
        have hlen := RepDs_length hr
        have hsz := ty_size (w := w) ht
        cases ag with
        | true =>
          have ht := (ty_ag (w := w) ht).1
          refine ⟨.agg (vs.toArray.extract (i.toNat * sz) (i.toNat * sz + sz)), ?_, trivial, ?_⟩
          · simp [execOp, ho, ex, ey, Instr.index, run_underlying hu, asIntOf, h0, h1, hsz, part, ht]
          · simp only [cond_true, RepA, RepD]
            refine ⟨(vs.drop (i.toNat * sz)).take sz, by simp [List.take_drop, Nat.add_comm], ?_⟩
            rw [cut_take (by omega)]
            exact RepDs_take _ (RepDs_drop _ hr)
        | false =>
          have h1' : sz = 1 := by simpa using hz.2
          subst h1'
          have ht := (ty_one (w := w) ht).1
          have hd : ds[i.toNat * 1]? = some (ds.getD (i.toNat * 1) (.i 0)) := by
            have : i.toNat * 1 < ds.length := by omega
            simp only [List.getD_eq_getElem?_getD, List.getElem?_eq_getElem this, Option.getD_some]
          obtain ⟨v, hv, hrv, _⟩ := RepDs_get _ hr hd
          refine ⟨v, ?_, trivial, ?_⟩
          · simp only [Nat.mul_one] at hv
            simp [execOp, ho, ex, ey, Instr.index, run_underlying hu, asIntOf, h0, h1, hsz, part, ht, hv]
          · simpa only [cond_false, RepA] using hrv
    · cases h
  · cases h
end
end Go.Eng
