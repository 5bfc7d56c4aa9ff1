/-
  Keyed and Sum.
-/
import Derived.Test.YtcokebbiblnonaaDoorBlk3
set_option linter.all false
noncomputable section
namespace Go.Proofs.YtcokebbiblnonaaDoor
open Go Go.Ab
set_option maxRecDepth 100000
theorem gn0 (b : Nat) : (0 < (E b).G.n) = True := eq_true (by show 0 < nv; decide)
theorem X0g (x : Int) : Qm5 (binOp .shl 90 (.int .u32 x) (.int .u64 8)) = some (.int .u32 (IntKind.u32.wrap (x * 2 ^ 8))) := by kernel_rfl
theorem Xqi (x y : Int) : Qm5 (binOp .xor 90 (.int .u32 x) (.int .u32 y)) = some (.int .u32 (Q50 x y)) := by kernel_rfl
def Xoo (k : Nat) : Int := Q50 1779033703 (Q50 (Q50 16842752 (IntKind.u32.wrap (IntKind.u32.wrap (k : Int) * 2 ^ 8))) 32)
theorem Xsw : ∀ k, k < 33 → Xoo k = Int.ofNat (Bl.start k).h0 := by decide
def K0 (k : Nat) : Bl.P8 := Bl.start k
theorem Xdq : ∀ n, (Bl.zeros n).map u8v = List.replicate n (.int .u8 0)
  | 0 => rfl
  | n + 1 => by
    have : (Bl.zeros (n + 1)).map u8v = u8v 0 :: (Bl.zeros n).map u8v := rfl
    rw [this, Xdq n, List.replicate_succ]; rfl
theorem Xar (v : Value) : ∀ n, Qci [v] n = List.replicate n v
  | 0 => rfl
  | n + 1 => by simp [Qci,Xar v n,List.replicate_succ]
theorem Xuf (b : Nat) {h : Heap} (laid : Ab.LaidIn h Qgu) {kv tv : Value} {key l : List Nat} (sk : SN h kv key) (sl : SN h tv l) (hkey : key.length ≤ 32) (hl : l.length < 1000000000) (K : AEnd → Heap → Prop) (hk : ∀ h', Old h h' → K (.ret (.agg ⟨(Bl.keyed1 key l).map u8v⟩)) h') :
    FnK Tryd.prog (E b).G 41 [kv, tv] h K := by
  refine Q4a (E b) (Q5i b) (Qw3 b) mixed (Q6u b) (Q4d b) (Qcy b) Xbp Xh5 Xei rfl ?_
  have lenk : ∀ hx, Xb4 (E b).toEnv 51 kv hx = some (.int .i64 (key.length : Int)) := fun hx => Q5c (T51 b) sk
  have lent : ∀ hx, Xb4 (E b).toEnv 51 tv hx = some (.int .i64 (l.length : Int)) := fun hx => Q5c (T51 b) sl
  have h32 : ¬ (32 : Int) < (key.length : Int) := by omega
  have gbeg : h.get 0 = some (.cells false 0 Qiq) := laid (0, Qiq) (by simp [Qgu])
  obtain ⟨hA, eA⟩ : ∃ hA, hA = h.push (.cells true 1 z32) := ⟨_, rfl⟩
  obtain ⟨hB, eB⟩ : ∃ hB, hB = hA.push (.cells true 1 (List.replicate 8 (.int .u32 0))) := ⟨_, rfl⟩
  have aA : Old h hA := by rw [eA]; exact Old.push _ _
  have aB : Old hA hB := by rw [eB]; exact Old.push _ _
  have nA : hA.next = h.next + 1 := by rw [eA]; rfl
  have nB : hB.next = hA.next + 1 := by rw [eB]; rfl
  have gA : hA.get h.next = some (.cells true 1 z32) := by rw [eA, Heap.get_push, if_pos rfl]
  have gB : hB.get hA.next = some (.cells true 1 (List.replicate 8 (.int .u32 0))) := by rw [eB, Heap.get_push, if_pos rfl]
  have alA : Qtz (E b).toEnv 30 h = some (.pointer (some ⟨h.next, 0, none⟩), hA) := by rw [eA]; exact Q88 b h
  have alB : Qtz (E b).toEnv 92 hA = some (.pointer (some ⟨hA.next, 0, none⟩), hB) := by rw [eB]; exact Xe9 b hA
  have ld0 : Qxa hA 0 0 8 = some (.agg ⟨Qiq⟩) := by
    rw [Qot (aA.get gbeg) (by simp [Qiq])]; rfl
  obtain ⟨hC, eC⟩ : ∃ hC, hC = hB.set hA.next (some (.cells true 1 Qiq)) := ⟨_, rfl⟩
  have lB := Heap.get_lt gB
  have gC : hC.get hA.next = some (.cells true 1 Qiq) := by rw [eC, Heap.get_set _ _ _ _ lB, if_pos rfl]
  have stC : Qsd (E b).toEnv 92 (.pointer (some ⟨hA.next, 0, none⟩)) (.agg ⟨Qiq⟩) hB = some hC := (Xci b hB hA.next 0 _ (by simp [Qiq])).trans (by rw [Qwz gB (by simp [Qiq]), eC]; rfl)
  have ldC : Qd0 hC hA.next 0 = some (.int .u32 1779033703) := by rw [Qfi gC]; rfl
  obtain ⟨hD, eD⟩ : ∃ hD, hD = hC.set hA.next (some (.cells true 1 (Qiq.set 0 (.int .u32 (Xoo key.length))))) := ⟨_, rfl⟩
  have lC := Heap.get_lt gC
  have stD : Qod hC hA.next 0 [.int .u32 (Xoo key.length)] = some hD := by rw [eD]; exact Qyf gC (by simp [Qiq])
  have gD : hD.get hA.next = some (.cells true 1 ((Xkk (Bl.start key.length)).map Vh)) := by
    rw [eD, Heap.get_set _ _ _ _ lC, if_pos rfl, Xsw _ (by omega)]; rfl
  have aC : Old h hC := by rw [eC]; exact (aA.trans aB).set _ (by omega) lB
  have aD : Old h hD := by rw [eD]; exact aC.set _ (by omega) lC
  have gR : hD.get h.next = some (.cells true 1 z32) := by
    rw [eD, Heap.get_set _ _ _ _ lC, if_neg (by omega), eC, Heap.get_set _ _ _ _ lB, if_neg (by omega)]
    exact aB.get gA
  have hx0 : Wc (E b).toEnv 92 (.pointer (some ⟨hA.next, 0, none⟩)) (.int .i64 0) = some (.pointer (some ⟨hA.next, 0, none⟩)) := Xdv b ⟨by omega, by omega⟩
  obtain ⟨a0, ha0⟩ : ∃ a : Int, a = IntKind.u32.wrap (key.length : Int) := ⟨_, rfl⟩
  obtain ⟨a1, ha1⟩ : ∃ a : Int, a = IntKind.u32.wrap (a0 * 2 ^ 8) := ⟨_, rfl⟩
  obtain ⟨a2, ha2⟩ : ∃ a : Int, a = Q50 16842752 a1 := ⟨_, rfl⟩
  obtain ⟨a3, ha3⟩ : ∃ a : Int, a = Q50 a2 32 := ⟨_, rfl⟩
  obtain ⟨a4, ha4⟩ : ∃ a : Int, a = Xoo key.length := ⟨_, rfl⟩
  have x0 : Q13 (E b).toEnv 3 90 (.int .i64 (key.length : Int)) = some (.int .u32 a0) := by rw [ha0]; exact Qyv b _ _
  have x1 : Qm5 (binOp .shl 90 (.int .u32 a0) (.int .u64 8)) = some (.int .u32 a1) := by rw [ha1]; exact X0g a0
  have x2 : Qm5 (binOp .xor 90 (.int .u32 16842752) (.int .u32 a1)) = some (.int .u32 a2) := by rw [ha2]; exact Xqi _ _
  have x3 : Qm5 (binOp .xor 90 (.int .u32 a2) (.int .u32 32)) = some (.int .u32 a3) := by rw [ha3]; exact Xqi _ _
  have x4 : Qm5 (binOp .xor 90 (.int .u32 1779033703) (.int .u32 a3)) = some (.int .u32 a4) := by rw [ha4, Xoo, ← ha0, ← ha1, ← ha2, ← ha3]; exact Xqi _ _
  rw [← ha4] at stD
  simp [Qcz,Qh3,Qcy,Q88,Qfa,Xgc,V8,Qfe,Wf,Q2n,Qff,Qf7,Qf4,Qfb,Qf8,Qf9,Xgt,Xe9,Xci,Qfd,Xdv,Xgn,Q3n,Qyv,Q3r,Qdn,Qd8,Qdk,V2,V4,Qe7,Qd5,Qdz,Qec,Qdl,Xcx,Qdp,Qdc,Qdv,Q47,Q3x,Q3w,Qds,Vk,Qbl,Qd7,Qea,Qdu,Qdd,Qdj,Qd2,Qdy,Qda,Qd4,Qe0,Qdx,Qcg,Qdf,Qe6,V3,Qdt,Qde,Qd3,Qdm,Qy5,Qxy,Q9b,Q3o,Q3b,Xeh,Q9f,Qdh,Qd6,Qdr,Qdq,Qe2,Qdg,Qdb,Qe1,Qe3,Qus,Qd9,Qdo,Qeb,Qe9,Wv,Qe8,Qdi,Qdw,Qe5,Qe4,Qf6,Qf5,V7,Qvi,Qre,Ve,Qh5,Qis,Qut,Qn4,Qiv,Qv2,J4,Jw,Wa,Ut,aop,Je,nth,Ab.g0,gv,gs,J3,Jc,aev,evs,evO,Jh,Tr.get_put,St.put,Tm.put,flat,flatA,Uq,Jk,Jm,Jl,Jp,Jn,Jq,Jo,Jt,Ji,J5,J6,Qh4,Qrg,Qmn,Qiz,Qg4,Qma,Qj5,Qh6,Q61,Xe4,Q58,Q08,Va.putAll,Jv,J9,Yi,Ye,Jb,J8,Ja,Yd,Yj,J7,-Q88,-Xe9,gn0,alA,alB,lenk,lent,h32,ld0,stC,hx0,ldC,stD,-Qyv,x0,x1,x2,x3,x4]
  have laidD := LaidIn.old laid aD
  have fin : ∀ (t : Tr Value) (h0 : Heap) (v : Value) (text : List Nat), text = Bl.textOf key l → t.get 4 = some (.pointer (some ⟨h.next, 0, none⟩)) → t.get 6 = some (.pointer (some ⟨hA.next, 0, none⟩)) → t.get 7 = some v → t.get 8 = some (.int .u64 0) → SN h0 v text → Old hD h0 → Qoa v ≠ some hA.next →
      Yh (E b) (Qzy Tryd.prog (E b).G) (D0 b) none Qrm ⟨⟨81, t⟩, [], h0⟩ (Xkf (E b) (DD b) Qpi K) := by
    intro t h0 v text e t4 t6 t7 t8 sn o0 hv
    refine Xqq b (count := 0) (FIN := Xv2 (Bl.start key.length) text 0) laid t4 t6 t7 t8 sn (o0.get gD) (o0.get gR) (aD.trans o0) (by omega) (Nat.le_refl _) (by omega) hv rfl ?_ K fun h' q => ?_
    · subst e
      cases key with
      | nil => simp [Bl.textOf]; omega
      | cons k ks =>
        have z : ∀ n, (Bl.zeros n).length = n := fun n => by induction n with
          | zero => rfl
          | succ n ih => simp [Bl.zeros,ih]
        simp [Bl.textOf,z] at hkey ⊢; omega
    · rw [e] at *
      exact hk h' q
  cases hkc : key with
  | nil =>
    subst hkc
    simp [Qcz,Qh3,Qcy,Q88,Qfa,Xgc,V8,Qfe,Wf,Q2n,Qff,Qf7,Qf4,Qfb,Qf8,Qf9,Xgt,Xe9,Xci,Qfd,Xdv,Xgn,Q3n,Qyv,Q3r,Qdn,Qd8,Qdk,V2,V4,Qe7,Qd5,Qdz,Qec,Qdl,Xcx,Qdp,Qdc,Qdv,Q47,Q3x,Q3w,Qds,Vk,Qbl,Qd7,Qea,Qdu,Qdd,Qdj,Qd2,Qdy,Qda,Qd4,Qe0,Qdx,Qcg,Qdf,Qe6,V3,Qdt,Qde,Qd3,Qdm,Qy5,Qxy,Q9b,Q3o,Q3b,Xeh,Q9f,Qdh,Qd6,Qdr,Qdq,Qe2,Qdg,Qdb,Qe1,Qe3,Qus,Qd9,Qdo,Qeb,Qe9,Wv,Qe8,Qdi,Qdw,Qe5,Qe4,Qf6,Qf5,V7,Qvi,Qre,Ve,Qh5,Qis,Qut,Qn4,Qiv,Qv2,J4,Jw,Wa,Ut,aop,Je,nth,Ab.g0,gv,gs,J3,Jc,aev,evs,evO,Jh,Tr.get_put,St.put,Tm.put,flat,flatA,Uq,Jk,Jm,Jl,Jp,Jn,Jq,Jo,Jt,Ji,J5,J6,Qh4,Qrg,Qmn,Qiz,Qg4,Qma,Qj5,Qh6,Q61,Xe4,Q58,Q08,Va.putAll,Jv,J9,Yi,Ye,Jb,J8,Ja,Yd,Yj,J7,-Wv]
    refine fin _ hD tv l rfl (by simp [Tr.get_put]) (by simp [Tr.get_put]) (by simp [Tr.get_put]) (by simp [Tr.get_put]) (sl.old aD) (Old.refl _) fun q => ?_
    have := sl.blk q
    omega
  | cons k ks =>
    have h0 : 0 < key.length := by rw [hkc]; simp
    rw [← hkc]
    have w1 : IntKind.i64.wrap (64 + (l.length : Int)) = ((64 + l.length : Nat) : Int) := by rw [Qrw (by omega) (by omega)]; omega
    have w2 : IntKind.i64.wrap (64 - (key.length : Int)) = ((64 - key.length : Nat) : Int) := by rw [Qrw (by omega) (by omega)]; omega
    obtain ⟨h1, e1⟩ : ∃ h1, h1 = hD.push (.cells true 1 (List.replicate (64 + l.length) (.int .u8 0))) := ⟨_, rfl⟩
    have a1 : Old hD h1 := by rw [e1]; exact Old.push _ _
    have mk : Qru (E b).toEnv 51 (.int .i64 0) (.int .i64 ((64 + l.length : Nat) : Int)) hD = some (.slice (some ⟨hD.next, 0, none⟩) 0 (64 + l.length), h1) := by
      simp only [Qru,Xt8,(T51 b).d,Xy1]
      rw [if_pos ⟨by omega, by omega, by omega, by rw [Q9p]; omega, by rw [Qxu]; omega⟩, Xqu, e1]
      have : (Value.int .u8 0).cells.toList = [.int .u8 0] := rfl
      rw [this, Xar]
      simp only [Int.toNat_natCast,Int.toNat_zero]
    have mk' : Qru (E b).toEnv 51 (.int .i64 0) (.int .i64 (64 + (l.length : Int))) hD = some (.slice (some ⟨hD.next, 0, none⟩) 0 (64 + l.length), h1) := by
      have := mk
      rw [show ((64 + l.length : Nat) : Int) = 64 + (l.length : Int) by omega] at this
      exact this
    have o1 : Own h1 hD.next 1 (.slice (some ⟨hD.next, 0, none⟩) 0 (64 + l.length)) 0 [] := .inr ⟨hD.next, 64 + l.length, 1, _, rfl, Nat.le_refl _, by rw [e1, Heap.get_push, if_pos rfl, List.nil_append], rfl, by omega, by unfold Qm6; omega, .inr ⟨by unfold Qm6; omega, by simp⟩⟩
    obtain ⟨v2, h2, c1, o2, b2⟩ := Xa9 (T51 b) (tx := 51) (m := key.length) (ys := key.map u8v) Qxu (by omega) o1 a1.1 (Xju (T51 b) Qxu (sk.old (aD.trans a1))) (by simp) (by rw [Q9p]; omega) (by omega)
    have nz : Xa8 (E b).toEnv 3 R5 (.int .i64 ((64 - key.length : Nat) : Int)) h2 = some (64 - key.length, List.replicate (64 - key.length) (.int .u8 0)) := by
      have hi : R3.desc = .int .i64 := by kernel_rfl
      simp only [Xa8,Xv7,hi]
      rw [if_pos ⟨by omega, by omega, by rw [Q9p]; omega, by rw [Qxu]; omega⟩, Xqu]
      have : (Value.int .u8 0).cells.toList = [.int .u8 0] := rfl
      rw [this, Xar]
      simp
    obtain ⟨v3, h3, c2, o3, b3⟩ := Xa9 (T51 b) (tx := 3) Qxu (by omega) o2 (Nat.le_trans a1.1 b2.1) nz (by simp) (by rw [Q9p]; omega) (by omega)
    have a2 : Old hD h2 := b2.old a1 o1
    have a3 : Old hD h3 := b3.old a2 o2
    obtain ⟨v4, h4, c3, o4, b4⟩ := Xa9 (T51 b) (tx := 51) (m := l.length) (ys := l.map u8v) Qxu (by omega) o3 a3.1 (Xju (T51 b) Qxu (sl.old (aD.trans a3))) (by simp) (by rw [Q9p]; omega) (by omega)
    have a4 : Old hD h4 := b4.old a3 o3
    simp [Qcz,Qh3,Qcy,Q88,Qfa,Xgc,V8,Qfe,Wf,Q2n,Qff,Qf7,Qf4,Qfb,Qf8,Qf9,Xgt,Xe9,Xci,Qfd,Xdv,Xgn,Q3n,Qyv,Q3r,Qdn,Qd8,Qdk,V2,V4,Qe7,Qd5,Qdz,Qec,Qdl,Xcx,Qdp,Qdc,Qdv,Q47,Q3x,Q3w,Qds,Vk,Qbl,Qd7,Qea,Qdu,Qdd,Qdj,Qd2,Qdy,Qda,Qd4,Qe0,Qdx,Qcg,Qdf,Qe6,V3,Qdt,Qde,Qd3,Qdm,Qy5,Qxy,Q9b,Q3o,Q3b,Xeh,Q9f,Qdh,Qd6,Qdr,Qdq,Qe2,Qdg,Qdb,Qe1,Qe3,Qus,Qd9,Qdo,Qeb,Qe9,Wv,Qe8,Qdi,Qdw,Qe5,Qe4,Qf6,Qf5,V7,Qvi,Qre,Ve,Qh5,Qis,Qut,Qn4,Qiv,Qv2,J4,Jw,Wa,Ut,aop,Je,nth,Ab.g0,gv,gs,J3,Jc,aev,evs,evO,Jh,Tr.get_put,St.put,Tm.put,flat,flatA,Uq,Jk,Jm,Jl,Jp,Jn,Jq,Jo,Jt,Ji,J5,J6,Qh4,Qrg,Qmn,Qiz,Qg4,Qma,Qj5,Qh6,Q61,Xe4,Q58,Q08,Va.putAll,Jv,J9,Yi,Ye,Jb,J8,Ja,Yd,Yj,J7,-Wv,h0,lenk,lent,w1,w2,mk',c1,c2,c3]
    have zl : (Bl.zeros (64 - key.length)).length = 64 - key.length := by have := congrArg List.length (Xdq (64 - key.length)); simpa using this
    have tx : Bl.textOf key l = key ++ (Bl.zeros (64 - key.length) ++ l) := by rw [hkc]; rfl
    have sn : SN h4 v4 (key ++ (Bl.zeros (64 - key.length) ++ l)) := by
      have := o4.sl
      have e1 : [] ++ key.map u8v ++ List.replicate (64 - key.length) (Value.int .u8 0) ++ l.map u8v = (key ++ (Bl.zeros (64 - key.length) ++ l)).map u8v := by
        rw [List.map_append, List.map_append, Xdq]
        simp
      have e2 : 0 + key.length + (64 - key.length) + l.length = (key ++ (Bl.zeros (64 - key.length) ++ l)).length := by
        simp only [List.length_append,zl]; omega
      rw [e1, e2] at this
      exact this
    refine fin _ h4 v4 _ tx.symm (by simp [Tr.get_put]) (by simp [Tr.get_put]) (by simp [Tr.get_put]) (by simp [Tr.get_put]) sn a4 fun q => ?_
    have := (o4.from q).1
    have := Heap.get_lt gD
    omega
theorem Xz2 (b : Nat) {h : Heap} (laid : Ab.LaidIn h Qgu) {tv : Value} {l : List Nat} (sl : SN h tv l) (hl : l.length < 1000000000) (K : AEnd → Heap → Prop) (hk : ∀ h', Old h h' → K (.ret (.agg ⟨(Bl.keyed1 [] l).map u8v⟩)) h') :
    FnK Tryd.prog (E b).G 20 [tv] h K := by
  refine Q4a (E b) (Q5i b) (Qw3 b) mixed (Q6u b) (Q4d b) (Wf b) Xef Xjs Xi5 rfl ?_
  obtain ⟨hA, eA⟩ : ∃ hA, hA = h.push (.cells true 1 z32) := ⟨_, rfl⟩
  have aA : Old h hA := by rw [eA]; exact Old.push _ _
  have gA : hA.get h.next = some (.cells true 1 z32) := by rw [eA, Heap.get_push, if_pos rfl]
  have alA : Qtz (E b).toEnv 30 h = some (.pointer (some ⟨h.next, 0, none⟩), hA) := by rw [eA]; exact Q88 b h
  simp [Q1e,Xbc,Wf,Q88,Q7k,Qcy,Q2n,Q76,Q7i,Q75,V7,Qvi,Qre,Ve,Qh5,Qis,Qut,Qn4,Qiv,Qv2,J4,Jw,Wa,Ut,aop,Je,nth,Ab.g0,gv,gs,J3,Jc,aev,evs,evO,Jh,Tr.get_put,St.put,Tm.put,flat,flatA,Uq,Jk,Jm,Jl,Jp,Jn,Jq,Jo,Jt,Ji,J5,J6,Qh4,Qrg,Qmn,Qiz,Qg4,Qma,Qj5,Qh6,Q61,Xe4,Q58,Q08,Va.putAll,Jv,J9,Yi,Ye,Jb,J8,Ja,Yd,Yj,J7,-Q88,alA]
  refine Xuf b (LaidIn.old laid aA) (kv := .slice none 0 0) (key := []) Sl.nil (sl.old aA) (by simp) hl _ fun h2 a2 => ?_
  have g2 : h2.get h.next = some (.cells true 1 z32) := a2.get gA
  have kl : (Bl.keyed1 [] l).length = 32 := Q17 _
  have l2 := Heap.get_lt g2
  have st : Qod h2 h.next 0 ((Bl.keyed1 [] l).map u8v) = some (h2.set h.next (some (.cells true 1 ((Bl.keyed1 [] l).map u8v)))) := by
    rw [Qwz g2 (by simp [z32,kl])]
    congr 4
  have g3 : Qxa (h2.set h.next (some (.cells true 1 ((Bl.keyed1 [] l).map u8v)))) h.next 0 32 = some (.agg ⟨(Bl.keyed1 [] l).map u8v⟩) := by
    rw [Qot (by rw [Heap.get_set _ _ _ _ l2, if_pos rfl]) (by simp [kl])]
    congr 3
  simp [Q1e,Xbc,Wf,Q88,Q7k,Qcy,Q2n,Q76,Q7i,Q75,V7,Qvi,Qre,Ve,Qh5,Qis,Qut,Qn4,Qiv,Qv2,J4,Jw,Wa,Ut,aop,Je,nth,Ab.g0,gv,gs,J3,Jc,aev,evs,evO,Jh,Tr.get_put,St.put,Tm.put,flat,flatA,Uq,Jk,Jm,Jl,Jp,Jn,Jq,Jo,Jt,Ji,J5,J6,Qh4,Qrg,Qmn,Qiz,Qg4,Qma,Qj5,Qh6,Q61,Xe4,Q58,Q08,Va.putAll,Jv,J9,Yi,Ye,Jb,J8,Ja,Yd,Yj,J7,Qus,st,kl,g3]
  exact hk _ ((aA.trans a2).set _ (Nat.le_refl _) l2)
end Go.Proofs.YtcokebbiblnonaaDoor
