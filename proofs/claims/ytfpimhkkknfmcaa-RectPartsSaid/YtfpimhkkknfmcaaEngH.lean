import Derived.Test.YtfpimhkkknfmcaaEngG
namespace Go.Eng
open Go.RowKit

def vStore (P : Program) (T : Nat) (g : Bool) (h : Hp) (x y : AV) : Option Out :=
  match tyOf P T, cellsOf (sp y) with
  | some (sz, _), some cs => bif cs.length == sz then (match sp x with
    | .pt nm o => match geth h nm with
      | some (g', .box T' c) => bif decide ((o + sz) ≤ c.length) then some ⟨.un, [(nm, some (true, .box T' (spl c o cs)))], pk g x ∧ pk g y ∧ g' = true, True⟩ else none
      | _ => none
    | .ep nm k f n => match geth h nm, allDat cs with
      | some (g', .arr T' n' l), some ds => bif n == n' && decide ((f + sz) ≤ n) then some ⟨.un, [(nm, some (true, .arr T' n' (l.set k (spl (elt P T' l k) f ds))))], pk g x ∧ pk g y ∧ g' = true ∧ k < l.length, True⟩ else none
      | _, _ => none
    | _ => none) else none
  | _, _ => none

def minL (m : Int) : List AV → Option Int
  | [] => some m
  | a :: l => match isI (sp a) with
    | some (.i64, n) => minL (min m n) l
    | _ => none
def maxL (m : Int) : List AV → Option Int
  | [] => some m
  | a :: l => match isI (sp a) with
    | some (.i64, n) => maxL (max m n) l
    | _ => none
def pkl (g : Bool) : List AV → Prop
  | [] => True
  | a :: l => pk g a ∧ pkl g l

def vLen (P : Program) (T : Nat) (g : Bool) (h : Hp) (x : AV) : Option Out :=
  match elOf P T with
  | none => none
  | some _ => match sp x with
    | .vw nm _ m _ => some ⟨.dat (.i m), [], pk g x, match geth h nm with
      | some (g', .arr ..) => g' = true → m ≤ maxLen
      | _ => True⟩
    | .dat (.sl _ l) => some ⟨.dat (.i l.length), [], pk g x, l.length ≤ maxLen⟩
    | .dat (.v (.slice _ n _)) => some ⟨.dat (.i n), [], pk g x, True⟩
    | _ => none

section
variable {C : Ctx} {σ : St} {o : Oper} {g : Bool}

theorem spl_in {α : Type} (m1 m2 m3 vs : List α) (f : Nat) (h : f + vs.length ≤ m2.length) : spl (m1 ++ m2 ++ m3) (m1.length + f) vs = m1 ++ spl m2 f vs ++ m3 := by
  unfold spl
  have e1 : (m1 ++ m2 ++ m3).take (m1.length + f) = m1 ++ m2.take f := by
    rw [List.append_assoc, List.take_length_add_append, List.take_append_of_le_length (by omega)]
  have e2 : (m1 ++ m2 ++ m3).drop (m1.length + f + vs.length) = m2.drop (f + vs.length) ++ m3 := by
    rw [List.append_assoc, Nat.add_assoc, List.drop_length_add_append, List.drop_append_of_le_length (by omega)]
  rw [e1, e2]
  simp

theorem spl_row {α : Type} (cl vs : List α) (K n f L : Nat) (h1 : f + vs.length ≤ n) (h2 : K + n ≤ L) (h3 : L ≤ cl.length) :
    (spl cl (K + f) vs).take L = (cl.take L).take K ++ spl (((cl.take L).drop K).take n) f vs ++ (cl.take L).drop (K + n) := by
  have e0 : (spl cl (K + f) vs).take L = spl (cl.take L) (K + f) vs := by
    have hc : cl = cl.take L ++ [] ++ cl.drop L := by simp
    have := spl_in [] (cl.take L) (cl.drop L) vs (K + f) (by simp; omega)
    simp only [List.nil_append, List.length_nil, Nat.zero_add, List.take_append_drop] at this
    rw [this]
    have hl : (spl (cl.take L) (K + f) vs).length = L := by simp [spl]; omega
    rw [List.take_append_of_le_length (by omega), List.take_of_length_le (by omega)]
  rw [e0]
  have hm : (cl.take L).length = L := by simp; omega
  generalize cl.take L = m at hm
  have hd : m = m.take K ++ (m.drop K).take n ++ m.drop (K + n) := by
    rw [List.append_assoc, ← List.drop_drop, List.take_append_drop, List.take_append_drop]
  have := spl_in (m.take K) ((m.drop K).take n) (m.drop (K + n)) vs f (by simp; omega)
  rw [← hd] at this
  have hk : (m.take K).length = K := by simp; omega
  rw [hk] at this
  exact this

theorem setRow_lt (w : World) (b : Nat) (cs : Array Value) (k : Nat) (h : k ≠ b) : (w.setRow b cs).heap[k]? = w.heap[k]? := setRow_other w b k cs h

theorem snd_store {T : Nat} {x y : Operand} {out : Out} (ho : o.op = .store T x y) (h : vStore C.P T g σ.h (opnd σ.e x) (opnd σ.e y) = some out) : Snd C o g σ out := by
  unfold vStore at h
  split at h
  · rename_i sz ag cs ht hcs
    cases hl : cs.length == sz
    · simp [hl] at h
    · simp only [hl, cond_true] at h
      simp only [beq_iff_eq] at hl
      split at h
      · rename_i nm oo hx
        split at h
        · rename_i g' T' c hh
          cases hb : decide ((oo + sz) ≤ c.length)
          · simp [hb] at h
          · simp only [hb, cond_true, Option.some.injEq] at h; subst h
            simp only [decide_eq_true_eq] at hb
            intro ι a w S hg hs
            obtain ⟨p1, p2, p3⟩ := hs
            have ex := S.sopnd hg x p1
            rw [hx] at ex
            simp only [RepA] at ex
            obtain ⟨b, cc, hi, ex⟩ := ex
            have ey := cellsOf_rep (S.sopnd hg y p2) hcs
            obtain ⟨b', cap, cur, h1, h2, h3, h4⟩ := S.box hh p3
            rw [hi] at h1; simp only [Option.some.injEq, Prod.mk.injEq] at h1
            obtain ⟨rfl, rfl⟩ := h1
            have l1 := RepAs_length ey
            have l2 := RepAs_length h4
            simp only [Array.length_toList] at l1 l2
            have hst := run_storeCells_at C.P b oo T' (a.eval y).cells.toList 0 cur w h3 (by simp; omega) (RepAs_one ey)
            simp only [Nat.add_zero] at hst
            refine ⟨.skip, _, undef, ?_, .inr ⟨rfl, rfl⟩, trivial, ι, S.write (w' := w.setRow b (spl cur.toList oo (a.eval y).cells.toList).toArray) (by rw [hh, p3]) hi (setRow_heap w b cur _ T' (0, 0) h3) rfl rfl rfl (by simp) (fun k hk => setRow_other w b k _ hk) (fun hok hw => ?_), by simp only [RepA]⟩
            · have hsz := ty_size (w := w) ht
              have hne : ¬ ((a.eval y).cells.size ≠ sz) := by omega
              simp only [execOp, ho, Sem.run_bind, Instr.storeAt, ex, Instr.sureAddr, Sem.run_pure, Result.andThen_ok, storeVar, hsz, hne, if_false, hst]
              rfl
            · exact ⟨b, cc, _, hi, h2, setRow_heap w b cur _ T' (0, 0) h3, by simpa using RepAs_spl (RepAs.tr hok hw true c _ (fun _ _ => rfl) h4) (RepAs.tr hok hw true cs _ (fun _ _ => rfl) ey)⟩
        · cases h
      · rename_i nm k f n hx
        split at h
        · rename_i g' T' n' l ds hh hd
          cases hb : (n == n' && decide ((f + sz) ≤ n))
          · simp [hb] at h
          · simp only [hb, cond_true, Option.some.injEq] at h; subst h
            simp only [Bool.and_eq_true, beq_iff_eq, decide_eq_true_eq] at hb
            obtain ⟨rfl, hb⟩ := hb
            have := allDat_eq hd
            subst this
            intro ι a w S hg hs
            obtain ⟨p1, p2, p3, hk⟩ := hs
            have ex := S.sopnd hg x p1
            rw [hx] at ex
            simp only [RepA] at ex
            obtain ⟨b, cc, hi, ex⟩ := ex
            have ey := RepAs_dat.1 (cellsOf_rep (S.sopnd hg y p2) hcs)
            obtain ⟨b', cap, cur, h1, h2, h3, h4, h5, h6, h7⟩ := S.arr hh p3 (by omega)
            rw [hi] at h1; simp only [Option.some.injEq, Prod.mk.injEq] at h1
            obtain ⟨rfl, rfl⟩ := h1
            have l1 := RepDs_length ey
            simp only [Array.length_toList] at l1
            simp only [List.length_map] at hl
            have l2 := RepDss_length h7
            obtain ⟨q1, q2⟩ := RepDss_at k h7 (elt_some (P := C.P) (T := T') hk)
            have hkn : k * n + n ≤ l.length * n := by
              have : (k + 1) * n ≤ l.length * n := Nat.mul_le_mul_right n hk
              rw [Nat.add_mul] at this; omega
            have hln : l.length * n ≤ cur.size := by rw [h4]; exact Nat.mul_le_mul_right n h5
            have hst := run_storeCells_at C.P b (k * n + f) T' (a.eval y).cells.toList 0 cur w h3 (by simp; omega) (RepDs_one ey)
            simp only [Nat.add_zero] at hst
            refine ⟨.skip, _, undef, ?_, .inr ⟨rfl, rfl⟩, trivial, ι, S.write (w' := w.setRow b (spl cur.toList (k * n + f) (a.eval y).cells.toList).toArray) (by rw [hh, p3]) hi (setRow_heap w b cur _ T' (0, 0) h3) rfl rfl rfl (by simp) (fun k hk => setRow_other w b k _ hk) (fun hok hw => ?_), by simp only [RepA]⟩
            · have hsz := ty_size (w := w) ht
              have hne : ¬ ((a.eval y).cells.size ≠ sz) := by omega
              simp only [execOp, ho, Sem.run_bind, Instr.storeAt, ex, Instr.sureAddr, Sem.run_pure, Result.andThen_ok, storeVar, hsz, hne, if_false, hst]
              rfl
            · have hset := RepDss_set k (RepDss.tr hok hw n l _ h7) hk (RepDs_spl (o := f) (RepDs.tr hok hw _ _ q1) (RepDs.tr hok hw _ _ ey)) (by simp [spl]; omega)
              refine .inr ⟨b, cc, _, hi, h2, setRow_heap w b cur _ T' (0, 0) h3, ?_, by simpa using h5, h6, ?_⟩
              · simp [spl]; omega
              · rw [List.length_set]
                refine cast (congrArg _ ?_) hset
                exact (spl_row cur.toList (a.eval y).cells.toList (k * n) n f (l.length * n) (by simp; omega) hkn (by simpa using hln)).symm
        · cases h
      · cases h
  · cases h

end
end Go.Eng
