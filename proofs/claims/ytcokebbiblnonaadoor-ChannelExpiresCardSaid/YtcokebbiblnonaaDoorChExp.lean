/-
  The channel: Expire, given the library's sort.
-/
import Derived.Test.YtcokebbiblnonaaDoorChPend2
set_option linter.all false
noncomputable section
namespace Go.Proofs.YtcokebbiblnonaaDoor
open Go Go.Ab
set_option maxRecDepth 100000
def Q9q (height : Int) : List CRow → CSt → CSt
  | [], c => c
  | r :: l, c => Q9q height l (if r.til ≤ height then Qrn c r.id else c)
def Wm (height : Int) (l : List CRow) : List Int := (l.filter fun r => decide (r.til ≤ height)).map (·.id)
theorem Xdn (height : Int) : ∀ (l : List CRow) (r : CRow) (c : CSt), Q9q height (l ++ [r]) c = (if r.til ≤ height then Qrn (Q9q height l c) r.id else Q9q height l c)
  | [], r, c => rfl
  | x :: l, r, c => by simp only [List.cons_append,Q9q]; exact Xdn height l r _
theorem Q6l {height t : Int} : ∀ (l : List CRow) {c : CSt}, CInv c t → CInv (Q9q height l c) t
  | [], _, i => i
  | r :: l, c, i => by
    simp only [Q9q]
    split
    · exact Q6l l (Xlc i)
    · exact Q6l l i
theorem Q56 : ∀ (l : List CRow) (i : Nat), (∀ r ∈ l, r.hash.length = 32) → ∀ r, l[i]? = some r → ((Qch l).drop (i * 36)).take 36 = r.cells
  | [], i, _, r, h => by simp at h
  | x :: l, 0, hl, r, h => by
    simp at h; subst h
    have := CRow.len (hl x (by simp))
    simp only [Qch,List.flatMap_cons,Nat.zero_mul,List.drop_zero]
    rw [← this, List.take_left]
  | x :: l, i + 1, hl, r, h => by
    have lx := CRow.len (hl x (by simp))
    have ih := Q56 l i (fun q hq => hl q (by simp [hq])) r (by simpa using h)
    have : (Qch (x :: l)).drop ((i + 1) * 36) = (Qch l).drop (i * 36) := by
      simp only [Qch,List.flatMap_cons]
      rw [show (i + 1) * 36 = x.cells.length + i * 36 by omega, List.drop_append]
      simp
    rw [this, ih]
theorem Xzg (b : Nat) {h : Heap} {n0 : Nat} {lv : Value} {l : List CRow} (o : Own h n0 36 lv l.length (Qch l)) (hl : ∀ r ∈ l, r.hash.length = 32) {i : Nat} {r : CRow} (hi : l[i]? = some r) : ∃ bk off, Qoa lv = some bk ∧ Wc (E b).toEnv 35 lv (.int .i64 (i : Int)) = some (.pointer (some ⟨bk, off, none⟩)) ∧ Qxa h bk off 36 = some (.agg ⟨r.cells⟩) := by
  have hlt : i < l.length := (List.getElem?_eq_some_iff.1 hi).1
  have hcl := Q0u hl
  rcases o with ⟨_, h0, _⟩ | ⟨bk, c, z', rest, rfl, h1, h2, h3, h4, h5, h6⟩
  · omega
  · refine ⟨bk, i * 36, rfl, ?_, ?_⟩
    · rw [Qaz b ⟨by omega, by omega⟩]
      simp
    · rw [Qot h2 (by simp; omega)]
      have e : ((Qch l ++ rest).drop (i * 36)).take 36 = ((Qch l).drop (i * 36)).take 36 := by
        rw [List.drop_append_of_le_length (by omega), List.take_append_of_le_length (by simp; omega)]
      rw [e, Q56 l i hl r hi]
def Xew (l : List Int) : List Value := l.map fun z => Value.int .i64 z
structure ExInv (height : Int) (t : Int) (h h1 : Heap) (MB : Nat → Prop) (κ mb : Nat) (c : CSt) (l : List CRow) (lv ov : Value) (i : Nat) : Prop where
  ch : ∃ ps, Chan h1 MB κ mb (Q9q height (l.take i) c) ps
  mv : Mv MB MB h h1
  row : Own h1 h.next 36 lv l.length (Qch l)
  out : Own h1 h.next 1 ov (Wm height (l.take i)).length (Xew (Wm height (l.take i)))
  ap : ∀ c, Qoa lv = some c → Qoa ov ≠ some c
def EXI (height t : Int) (h : Heap) (MB : Nat → Prop) (κ mb : Nat) (c : CSt) (l : List CRow) (lv : Value) (k : Nat) (s : St) : Prop := ∃ (tr : Tr Value) (h1 : Heap) (ov : Value) (i : Nat), s = ⟨⟨29, tr⟩, [], h1⟩ ∧ tr.get 0 = some (.pointer (some ⟨κ, 0, none⟩)) ∧ tr.get 1 = some (.int .i64 height) ∧ tr.get 8 = some lv ∧ tr.get 9 = some (.int .i64 (l.length : Int)) ∧ tr.get 10 = some (.int .i64 (i : Int)) ∧ tr.get 4 = some ov ∧ i ≤ l.length ∧ k = l.length - i ∧ ExInv height t h h1 MB κ mb c l lv ov i
set_option maxHeartbeats 1000000 in
theorem Xi4 (b : Nat) (SO : Q5p b) {h : Heap} {MB : Nat → Prop} {κ mb : Nat} {c : CSt} {ps : List KP} (C : Chan h MB κ mb c ps) {t : Int} (i0 : CInv c t) (hn : ps.length < 1000000) (height : Int) (K : AEnd → Heap → Prop)
    (hk : ∀ l ov h' ps', l.Perm (Qxk c) → Qxc l → Chan h' MB κ mb (Q9q height l c) ps' → Mv MB MB h h' → Own h' h.next 1 ov (Wm height l).length (Xew (Wm height l)) → K (.ret ov) h') : CallOK Tryd.prog (E b).G 22 [.pointer (some ⟨κ, 0, none⟩), .int .i64 height] h K := by
  refine Xio (E b) (Q30 _ _) (Q5i b) (Qw3 b) mixed (Q6u b) (Q0 b) Qys Q2k Q1c rfl ?_
  simp [Wi,Qcf,Q0,Qb5,Q1,Qb0,Qb6,V3,Qb8,Qbe,Qbb,Qaz,Qa2,Wb,Ww,Qba,V0,Qay,Ub,Qa9,Jz,V6,Qas,Qaw,Qah,Qa8,Qax,Qan,Qbd,Qat,V2,Qal,Qak,Qb4,Qb3,Qaj,Qbf,Qab,Qam,Qaf,Qb7,V7,kON,kOC,Ve,kNN,kNP,kRR,kRP,kEN,kER,J4,Jw,Wa,Ut,aop,Je,nth,Ab.g0,gv,gs,J3,Jc,aev,evs,evO,Jh,Tr.get_put,St.put,Tm.put,flat,flatA,Uq,Jk,Jm,Jl,Jp,Jn,Jq,Jo,Jt,Ji,J5,J6,kTN,kTR,kTX,kTP,kBN,kBR,kBX,kBP,kCS,kCR,kCE,kAM,Va.putAll,Jv,J9,Yi,Ye,Jb,J8,Ja,Yd,Yj,J7]
  refine Xg4 b SO C hn _ fun l lv h1 pm sd hh ow a1 => ?_
  have lens : ∀ hx, Xb4 (E b).toEnv 35 lv hx = some (.int .i64 (l.length : Int)) := fun hx => Q5c (T35 b) ow.sl
  have hll : l.length ≤ 16 := by
    have := pm.length_eq
    have h1 := i0.many
    have h2 := i0.most
    omega
  simp [Wi,Qcf,Q0,Qb5,Q1,Qb0,Qb6,V3,Qb8,Qbe,Qbb,Qaz,Qa2,Wb,Ww,Qba,V0,Qay,Ub,Qa9,Jz,V6,Qas,Qaw,Qah,Qa8,Qax,Qan,Qbd,Qat,V2,Qal,Qak,Qb4,Qb3,Qaj,Qbf,Qab,Qam,Qaf,Qb7,V7,kON,kOC,Ve,kNN,kNP,kRR,kRP,kEN,kER,J4,Jw,Wa,Ut,aop,Je,nth,Ab.g0,gv,gs,J3,Jc,aev,evs,evO,Jh,Tr.get_put,St.put,Tm.put,flat,flatA,Uq,Jk,Jm,Jl,Jp,Jn,Jq,Jo,Jt,Ji,J5,J6,kTN,kTR,kTX,kTP,kBN,kBR,kBX,kBP,kCS,kCR,kCE,kAM,Va.putAll,Jv,J9,Yi,Ye,Jb,J8,Ja,Yd,Yj,J7,lens]
  refine Xbf (EXI height t h MB κ mb c l lv) l.length ⟨_, h1, .slice none 0 0, 0, rfl, by simp [Tr.get_put], by simp [Tr.get_put], by simp [Tr.get_put], by simp [Tr.get_put], by simp [Tr.get_put], by simp [Tr.get_put], by omega, rfl, ⟨⟨ps, C.old a1⟩, Mv.old a1, ow, Own.nil, by simp [Qoa]⟩⟩ ?_
  rintro k s' ⟨tr, h2, ov, i, rfl, t0, t1, t8, t9, t10, t4, hi, rfl, inv⟩ _
  by_cases hlt : i < l.length
  · have hlt' : (i : Int) < (l.length : Int) := by omega
    obtain ⟨r, hr⟩ : ∃ r, l[i]? = some r := ⟨_, List.getElem?_eq_getElem hlt⟩
    have hrl := hh r (List.mem_of_getElem? hr)
    have lr := CRow.len hrl
    obtain ⟨bk, off, b1, b2, b3⟩ := Xzg b inv.row hh hr
    have ht : l.take (i + 1) = l.take i ++ [r] := by rw [List.take_succ, hr]; rfl
    obtain ⟨ps2, C2⟩ := inv.ch
    have hw : IntKind.i64.wrap ((i : Int) + 1) = ((i + 1 : Nat) : Int) := by rw [Qrw (by omega) (by omega)]; omega
    obtain ⟨z36, ez⟩ : ∃ z, z = (⟨0, 0, 0, 0, Qiu⟩ : CRow).cells := ⟨_, rfl⟩
    have lz : z36.length = 36 := by rw [ez]; rfl
    obtain ⟨h3, e3⟩ : ∃ h3, h3 = (h2.push (.cells true 1 z36)).set h2.next (some (.cells true 1 r.cells)) := ⟨_, rfl⟩
    have al : Qtz (E b).toEnv 32 h2 = some (.pointer (some ⟨h2.next, 0, none⟩), h2.push (.cells true 1 z36)) := by rw [ez]; exact Wb b h2
    have gP : (h2.push (.cells true 1 z36)).get h2.next = some (.cells true 1 z36) := by rw [Heap.get_push, if_pos rfl]
    have lP := Heap.get_lt gP
    have st : Qod (h2.push (.cells true 1 z36)) h2.next 0 r.cells = some h3 := by
      rw [Qwz gP (by omega), List.take_zero, List.nil_append, Nat.zero_add, List.drop_of_length_le (by omega), List.append_nil, e3]
    have a23 : Old h2 h3 := by rw [e3]; exact (Old.push _ _).set _ (Nat.le_refl _) lP
    have g3 : h3.get h2.next = some (.cells true 1 r.cells) := by rw [e3, Heap.get_set _ _ _ _ lP, if_pos rfl]
    have RA3 : RowAt h3 h2.next r := ⟨⟨1, g3⟩, hrl⟩
    obtain ⟨r0, r1, r2, r3, -⟩ := RA3.cs
    have C3 := C2.old a23
    have row3 : Own h3 h.next 36 lv l.length (Qch l) := inv.row.keep fun c _ hc => a23.2 c hc
    have out3 := inv.out.keep (h' := h3) fun c _ hc => a23.2 c hc
    have far : ∀ c, MB c → c < h.next := C.low
    by_cases hu : r.til ≤ height
    · simp [Wi,Qcf,Q0,Qb5,Q1,Qb0,Qb6,V3,Qb8,Qbe,Qbb,Qaz,Qa2,Wb,Ww,Qba,V0,Qay,Ub,Qa9,Jz,V6,Qas,Qaw,Qah,Qa8,Qax,Qan,Qbd,Qat,V2,Qal,Qak,Qb4,Qb3,Qaj,Qbf,Qab,Qam,Qaf,Qb7,V7,kON,kOC,Ve,kNN,kNP,kRR,kRP,kEN,kER,J4,Jw,Wa,Ut,aop,Je,nth,Ab.g0,gv,gs,J3,Jc,aev,evs,evO,Jh,Tr.get_put,St.put,Tm.put,flat,flatA,Uq,Jk,Jm,Jl,Jp,Jn,Jq,Jo,Jt,Ji,J5,J6,kTN,kTR,kTX,kTP,kBN,kBR,kBX,kBP,kCS,kCR,kCE,kAM,Va.putAll,Jv,J9,Yi,Ye,Jb,J8,Ja,Yd,Yj,J7,t0,t1,t8,t9,t10,t4,hlt',b2,b3,-Wb,al,lr,st,r3,hu,r1]
      refine (Xl5 b C3 (Q6l _ i0) r.id _ fun h4 ps4 C4 v4 => ?_).ok
      have fr : ∀ c, h.next ≤ c → c < h3.next → h4.get c = h3.get c := fun c hc hl => v4.same c hl fun q => by have := far c q; omega
      have RA4 : RowAt h4 h2.next r := RA3.mv v4 fun q => by have := far _ q; have := inv.mv.next; omega
      obtain ⟨s0, s1, s2, s3, -⟩ := RA4.cs
      have out4 := out3.keep (h' := h4) fun c hc hl => fr c (out3.from hc).1 hl
      have row4 := row3.keep (h' := h4) fun c hc hl => fr c (row3.from hc).1 hl
      have hids : (Wm height (l.take i)).length ≤ 16 := by
        have : (Wm height (l.take i)).length ≤ (l.take i).length := by
          unfold Wm
          rw [List.length_map]
          exact List.length_filter_le _ _
        rw [List.length_take] at this
        omega
      have hb := Xpq (T53 b) (z := 1) (by kernel_rfl) (by omega) (by omega) (y := .int .i64 r.id) rfl (ys := [.int .i64 r.id]) rfl rfl (h := h4)
      have hR8 : R3.bytes = 8 := by kernel_rfl
      obtain ⟨v', h5, a1', a2', a3', a4'⟩ := Xd9 (T53 b) (by kernel_rfl) (by omega) out4 (by have := inv.mv.next; have := a23.1; have := v4.next; omega) (ys := [.int .i64 r.id]) rfl (by rw [hR8]; omega) (by omega)
      simp [Wi,Qcf,Q0,Qb5,Q1,Qb0,Qb6,V3,Qb8,Qbe,Qbb,Qaz,Qa2,Wb,Ww,Qba,V0,Qay,Ub,Qa9,Jz,V6,Qas,Qaw,Qah,Qa8,Qax,Qan,Qbd,Qat,V2,Qal,Qak,Qb4,Qb3,Qaj,Qbf,Qab,Qam,Qaf,Qb7,V7,kON,kOC,Ve,kNN,kNP,kRR,kRP,kEN,kER,J4,Jw,Wa,Ut,aop,Je,nth,Ab.g0,gv,gs,J3,Jc,aev,evs,evO,Jh,Tr.get_put,St.put,Tm.put,flat,flatA,Uq,Jk,Jm,Jl,Jp,Jn,Jq,Jo,Jt,Ji,J5,J6,kTN,kTR,kTX,kTP,kBN,kBR,kBX,kBP,kCS,kCR,kCE,kAM,Va.putAll,Jv,J9,Yi,Ye,Jb,J8,Ja,Yd,Yj,J7,t0,t1,t8,t9,t10,t4,s1,hb,a1',hw]
      have n34 := v4.next
      have n23 := a23.1
      have n02 := inv.mv.next
      have hov : ∀ c, MB c → Qoa ov ≠ some c := fun c hc q => by have := (out4.from q).1; have := far c hc; omega
      refine ⟨l.length - (i + 1), by omega, _, h5, v', i + 1, rfl, by simp [Tr.get_put,t0], by simp [Tr.get_put,t1], by simp [Tr.get_put,t8], by simp [Tr.get_put,t9], by simp [Tr.get_put], by simp [Tr.get_put], by omega, rfl, ⟨?_, ?_, ?_, ?_, ?_⟩⟩
      · rw [ht, Xdn, if_pos hu]
        obtain ⟨⟨z, c1⟩, c2, c3, c4, c5, c6, c7, c8, c9⟩ := C4
        refine ⟨ps4, ⟨z, by rw [a3'.2 _ (Heap.get_lt c1) (hov _ c8.1)]; exact c1⟩, by rw [a3'.2 _ (Heap.get_lt c2) (hov _ c8.2.1)]; exact c2, c3, fun p hp => ⟨by rw [a3'.2 _ (Heap.get_lt (c4 p hp).1) (hov _ (c8.2.2 p hp))]; exact (c4 p hp).1, (c4 p hp).2⟩, c5, c6, c7, c8, fun b hb => Nat.lt_of_lt_of_le (c9 b hb) a3'.1⟩
      · refine ⟨by have := a3'.1; omega, fun c hc hm => ?_, fun _ h => .inl h⟩
        rw [a3'.2 c (by omega) (fun q => by have := (out4.from q).1; omega), v4.same c (by omega) hm, a23.2 c (by omega), inv.mv.same c hc hm]
      · exact row4.keep fun c hc hl => a3'.2 c hl fun q => inv.ap c hc q
      · have : Wm height (l.take (i + 1)) = Wm height (l.take i) ++ [r.id] := by rw [ht]; simp [Wm,List.filter_append,hu]
        rw [this, List.length_append]
        simpa [Xew] using a2'
      · intro c hc q
        rcases a4' c q with e | e
        · exact inv.ap c hc e
        · have := row4.out hc; omega
    · simp [Wi,Qcf,Q0,Qb5,Q1,Qb0,Qb6,V3,Qb8,Qbe,Qbb,Qaz,Qa2,Wb,Ww,Qba,V0,Qay,Ub,Qa9,Jz,V6,Qas,Qaw,Qah,Qa8,Qax,Qan,Qbd,Qat,V2,Qal,Qak,Qb4,Qb3,Qaj,Qbf,Qab,Qam,Qaf,Qb7,V7,kON,kOC,Ve,kNN,kNP,kRR,kRP,kEN,kER,J4,Jw,Wa,Ut,aop,Je,nth,Ab.g0,gv,gs,J3,Jc,aev,evs,evO,Jh,Tr.get_put,St.put,Tm.put,flat,flatA,Uq,Jk,Jm,Jl,Jp,Jn,Jq,Jo,Jt,Ji,J5,J6,kTN,kTR,kTX,kTP,kBN,kBR,kBX,kBP,kCS,kCR,kCE,kAM,Va.putAll,Jv,J9,Yi,Ye,Jb,J8,Ja,Yd,Yj,J7,t0,t1,t8,t9,t10,t4,hlt',b2,b3,-Wb,al,lr,st,r3,hu,hw]
      refine ⟨l.length - (i + 1), by omega, _, h3, ov, i + 1, rfl, by simp [Tr.get_put,t0], by simp [Tr.get_put,t1], by simp [Tr.get_put,t8], by simp [Tr.get_put,t9], by simp [Tr.get_put], by simp [Tr.get_put,t4], by omega, rfl, ⟨?_, inv.mv.trans (Mv.old a23), row3, ?_, inv.ap⟩⟩
      · rw [ht, Xdn, if_neg hu]
        exact ⟨ps2, C3⟩
      · have : Wm height (l.take (i + 1)) = Wm height (l.take i) := by rw [ht]; simp [Wm,List.filter_append,hu]
        rw [this]
        exact out3
  · have hlt' : ¬ (i : Int) < (l.length : Int) := by omega
    simp [Wi,Qcf,Q0,Qb5,Q1,Qb0,Qb6,V3,Qb8,Qbe,Qbb,Qaz,Qa2,Wb,Ww,Qba,V0,Qay,Ub,Qa9,Jz,V6,Qas,Qaw,Qah,Qa8,Qax,Qan,Qbd,Qat,V2,Qal,Qak,Qb4,Qb3,Qaj,Qbf,Qab,Qam,Qaf,Qb7,V7,kON,kOC,Ve,kNN,kNP,kRR,kRP,kEN,kER,J4,Jw,Wa,Ut,aop,Je,nth,Ab.g0,gv,gs,J3,Jc,aev,evs,evO,Jh,Tr.get_put,St.put,Tm.put,flat,flatA,Uq,Jk,Jm,Jl,Jp,Jn,Jq,Jo,Jt,Ji,J5,J6,kTN,kTR,kTX,kTP,kBN,kBR,kBX,kBP,kCS,kCR,kCE,kAM,Va.putAll,Jv,J9,Yi,Ye,Jb,J8,Ja,Yd,Yj,J7,t0,t1,t8,t9,t10,t4,hlt']
    have : i = l.length := by omega
    subst this
    obtain ⟨ps2, C2⟩ := inv.ch
    have o := inv.out
    rw [List.take_length] at C2 o
    exact hk l ov h2 ps2 pm sd C2 inv.mv o
end Go.Proofs.YtcokebbiblnonaaDoor
