/-
  Keyed and Sum.
-/
import Derived.Test.YtcokebbiblnonaaDoorBlk3
set_option linter.all false
noncomputable section
namespace Go.Proofs.YtcokebbiblnonaaDoor
open Go Go.Ab
set_option maxRecDepth 100000
theorem gn0 (b : Nat) : (0 < (E b).G.n) = True := eq_true (by show 0 < nv; decide)
theorem Xup (x : Int) : Qjw (binOp .shl 90 (.int .u32 x) (.int .u64 8)) = some (.int .u32 (IntKind.u32.wrap (x * 2 ^ 8))) := by kernel_rfl
theorem Xjt (x y : Int) : Qjw (binOp .xor 90 (.int .u32 x) (.int .u32 y)) = some (.int .u32 (Q0a x y)) := by kernel_rfl
def Xkw (k : Nat) : Int := Q0a 1779033703 (Q0a (Q0a 16842752 (IntKind.u32.wrap (IntKind.u32.wrap (k : Int) * 2 ^ 8))) 32)
theorem Xpj : ∀ k, k < 33 → Xkw k = Int.ofNat (Bl.start k).h0 := by decide
def K0 (k : Nat) : Bl.P8 := Bl.start k
theorem Q8d : ∀ n, (Bl.zeros n).map u8v = List.replicate n (.int .u8 0)
  | 0 => rfl
  | n + 1 => by
    have : (Bl.zeros (n + 1)).map u8v = u8v 0 :: (Bl.zeros n).map u8v := rfl
    rw [this, Q8d n, List.replicate_succ]; rfl
theorem Q5l (v : Value) : ∀ n, Qba [v] n = List.replicate n v
  | 0 => rfl
  | n + 1 => by simp [Qba,Q5l v n,List.replicate_succ]
theorem Xpf (b : Nat) {h : Heap} (laid : Ab.LaidIn h Qfj) {kv tv : Value} {key l : List Nat} (sk : SN h kv key) (sl : SN h tv l) (hkey : key.length ≤ 32) (hl : l.length < 1000000000) (K : AEnd → Heap → Prop) (hk : ∀ h', Old h h' → K (.ret (.agg ⟨(Bl.keyed1 key l).map u8v⟩)) h') :
    FnK Tryd.prog (E b).G 41 [kv, tv] h K := by
  refine Q06 (E b) (Q25 b) (Qt6 b) mixed (Q3e b) (Q17 b) (Qbp b) Q6s Xbr Q9c rfl ?_
  have lenk : ∀ hx, Xcd (E b).toEnv 51 kv hx = some (.int .i64 (key.length : Int)) := fun hx => Xal (T51 b) sk
  have lent : ∀ hx, Xcd (E b).toEnv 51 tv hx = some (.int .i64 (l.length : Int)) := fun hx => Xal (T51 b) sl
  have h32 : ¬ (32 : Int) < (key.length : Int) := by omega
  have gbeg : h.get 0 = some (.cells false 0 Qgs) := laid (0, Qgs) (by simp [Qfj])
  obtain ⟨hA, eA⟩ : ∃ hA, hA = h.push (.cells true 1 z32) := ⟨_, rfl⟩
  obtain ⟨hB, eB⟩ : ∃ hB, hB = hA.push (.cells true 1 (List.replicate 8 (.int .u32 0))) := ⟨_, rfl⟩
  have aA : Old h hA := by rw [eA]; exact Old.push _ _
  have aB : Old hA hB := by rw [eB]; exact Old.push _ _
  have nA : hA.next = h.next + 1 := by rw [eA]; rfl
  have nB : hB.next = hA.next + 1 := by rw [eB]; rfl
  have gA : hA.get h.next = some (.cells true 1 z32) := by rw [eA, Heap.get_push, if_pos rfl]
  have gB : hB.get hA.next = some (.cells true 1 (List.replicate 8 (.int .u32 0))) := by rw [eB, Heap.get_push, if_pos rfl]
  have alA : Qul (E b).toEnv 30 h = some (.pointer (some ⟨h.next, 0, none⟩), hA) := by rw [eA]; exact Q3b b h
  have alB : Qul (E b).toEnv 92 hA = some (.pointer (some ⟨hA.next, 0, none⟩), hB) := by rw [eB]; exact Q8f b hA
  have ld0 : Qtx hA 0 0 8 = some (.agg ⟨Qgs⟩) := by
    rw [Qnj (aA.get gbeg) (by simp [Qgs])]; rfl
  obtain ⟨hC, eC⟩ : ∃ hC, hC = hB.set hA.next (some (.cells true 1 Qgs)) := ⟨_, rfl⟩
  have lB := Heap.get_lt gB
  have gC : hC.get hA.next = some (.cells true 1 Qgs) := by rw [eC, Heap.get_set _ _ _ _ lB, if_pos rfl]
  have stC : Qpp (E b).toEnv 92 (.pointer (some ⟨hA.next, 0, none⟩)) (.agg ⟨Qgs⟩) hB = some hC := (Q7x b hB hA.next 0 _ (by simp [Qgs])).trans (by rw [Qyo gB (by simp [Qgs]), eC]; rfl)
  have ldC : Qef hC hA.next 0 = some (.int .u32 1779033703) := by rw [Qfv gC]; rfl
  obtain ⟨hD, eD⟩ : ∃ hD, hD = hC.set hA.next (some (.cells true 1 (Qgs.set 0 (.int .u32 (Xkw key.length))))) := ⟨_, rfl⟩
  have lC := Heap.get_lt gC
  have stD : Qny hC hA.next 0 [.int .u32 (Xkw key.length)] = some hD := by rw [eD]; exact Q22 gC (by simp [Qgs])
  have gD : hD.get hA.next = some (.cells true 1 ((Xex (Bl.start key.length)).map Jg)) := by
    rw [eD, Heap.get_set _ _ _ _ lC, if_pos rfl, Xpj _ (by omega)]; rfl
  have aC : Old h hC := by rw [eC]; exact (aA.trans aB).set _ (by omega) lB
  have aD : Old h hD := by rw [eD]; exact aC.set _ (by omega) lC
  have gR : hD.get h.next = some (.cells true 1 z32) := by
    rw [eD, Heap.get_set _ _ _ _ lC, if_neg (by omega), eC, Heap.get_set _ _ _ _ lB, if_neg (by omega)]
    exact aB.get gA
  have hx0 : Uq (E b).toEnv 92 (.pointer (some ⟨hA.next, 0, none⟩)) (.int .i64 0) = some (.pointer (some ⟨hA.next, 0, none⟩)) := Q92 b ⟨by omega, by omega⟩
  obtain ⟨a0, ha0⟩ : ∃ a : Int, a = IntKind.u32.wrap (key.length : Int) := ⟨_, rfl⟩
  obtain ⟨a1, ha1⟩ : ∃ a : Int, a = IntKind.u32.wrap (a0 * 2 ^ 8) := ⟨_, rfl⟩
  obtain ⟨a2, ha2⟩ : ∃ a : Int, a = Q0a 16842752 a1 := ⟨_, rfl⟩
  obtain ⟨a3, ha3⟩ : ∃ a : Int, a = Q0a a2 32 := ⟨_, rfl⟩
  obtain ⟨a4, ha4⟩ : ∃ a : Int, a = Xkw key.length := ⟨_, rfl⟩
  have x0 : Qwi (E b).toEnv 3 90 (.int .i64 (key.length : Int)) = some (.int .u32 a0) := by rw [ha0]; exact Qv3 b _ _
  have x1 : Qjw (binOp .shl 90 (.int .u32 a0) (.int .u64 8)) = some (.int .u32 a1) := by rw [ha1]; exact Xup a0
  have x2 : Qjw (binOp .xor 90 (.int .u32 16842752) (.int .u32 a1)) = some (.int .u32 a2) := by rw [ha2]; exact Xjt _ _
  have x3 : Qjw (binOp .xor 90 (.int .u32 a2) (.int .u32 32)) = some (.int .u32 a3) := by rw [ha3]; exact Xjt _ _
  have x4 : Qjw (binOp .xor 90 (.int .u32 1779033703) (.int .u32 a3)) = some (.int .u32 a4) := by rw [ha4, Xkw, ← ha0, ← ha1, ← ha2, ← ha3]; exact Xjt _ _
  rw [← ha4] at stD
  simp [Qbq,Qfb,Qbp,Q3b,Qdz,Xbc,Jw,Qdu,Uh,Qyf,Qe1,Qdv,Qdt,Qdw,Qdy,Qe3,Xb2,Q8f,Q7x,Qe2,Q92,Xcc,Qz7,Qv3,Qz9,Qd0,Qc6,Qco,Jk,Jo,Qbt,Qc5,Qc0,Qc7,Qcb,Q86,Qcu,Qbz,Qcf,Qzd,Qzh,Qz4,Qc8,Qoj,Qae,Qcg,Qd1,Qcr,Qcw,Qcp,Qbx,Qbr,Qbu,Qcc,Qce,Qcj,Qb4,Qc2,Qby,Jm,Qcx,Qcd,Qc4,Qcv,Qu3,Qu9,Q42,Qz6,Qzt,Q9b,Q4a,Qc1,Qch,Qci,Qcn,Qck,Qcl,Qc3,Qc9,Qcq,Qqp,Qbs,Qcm,Qcs,Qcy,Uu,Qbv,Qca,Qcz,Qct,Qbw,Qe4,Qe0,Jr,Qqy,Qnz,V0,Qff,Qgt,Qr3,Qka,Qgw,Qra,Y0,Ja,Qdc,Qab,aop,Y1,nth,Ab.g0,gv,gs,Xu,Xx,aev,evs,evO,Y2,Tr.get_put,St.put,Tm.put,flat,flatA,Qaa,Y6,Y7,Yb,Y9,Y8,Ya,Y5,Yc,Y3,Xq,Xr,Qfg,Qnv,Qk1,Qh4,Qem,Qk2,Qh1,Qfd,Q12,Q83,Q0t,Qvx,Js.putAll,Zx,Xz,Xo,Xl,Xw,Xv,Xy,Xm,Xn,Xs,-Q3b,-Q8f,gn0,alA,alB,lenk,lent,h32,ld0,stC,hx0,ldC,stD,-Qv3,x0,x1,x2,x3,x4]
  have laidD := LaidIn.old laid aD
  have fin : ∀ (t : Tr Value) (h0 : Heap) (v : Value) (text : List Nat), text = Bl.textOf key l → t.get 4 = some (.pointer (some ⟨h.next, 0, none⟩)) → t.get 6 = some (.pointer (some ⟨hA.next, 0, none⟩)) → t.get 7 = some v → t.get 8 = some (.int .u64 0) → SN h0 v text → Old hD h0 → Qm7 v ≠ some hA.next →
      Q3 (E b) (Quh Tryd.prog (E b).G) (D0 b) none Qnw ⟨⟨81, t⟩, [], h0⟩ (Xj9 (E b) (DD b) Qkw K) := by
    intro t h0 v text e t4 t6 t7 t8 sn o0 hv
    refine Xkl b (count := 0) (FIN := Xpo (Bl.start key.length) text 0) laid t4 t6 t7 t8 sn (o0.get gD) (o0.get gR) (aD.trans o0) (by omega) (Nat.le_refl _) (by omega) hv rfl ?_ K fun h' q => ?_
    · subst e
      cases key with
      | nil => simp [Bl.textOf]; omega
      | cons k ks =>
        have z : ∀ n, (Bl.zeros n).length = n := fun n => by induction n with
          | zero => rfl
          | succ n ih => simp [Bl.zeros,ih]
        simp [Bl.textOf,z] at hkey ⊢; omega
    · rw [e] at *
      exact hk h' q
  cases hkc : key with
  | nil =>
    subst hkc
    simp [Qbq,Qfb,Qbp,Q3b,Qdz,Xbc,Jw,Qdu,Uh,Qyf,Qe1,Qdv,Qdt,Qdw,Qdy,Qe3,Xb2,Q8f,Q7x,Qe2,Q92,Xcc,Qz7,Qv3,Qz9,Qd0,Qc6,Qco,Jk,Jo,Qbt,Qc5,Qc0,Qc7,Qcb,Q86,Qcu,Qbz,Qcf,Qzd,Qzh,Qz4,Qc8,Qoj,Qae,Qcg,Qd1,Qcr,Qcw,Qcp,Qbx,Qbr,Qbu,Qcc,Qce,Qcj,Qb4,Qc2,Qby,Jm,Qcx,Qcd,Qc4,Qcv,Qu3,Qu9,Q42,Qz6,Qzt,Q9b,Q4a,Qc1,Qch,Qci,Qcn,Qck,Qcl,Qc3,Qc9,Qcq,Qqp,Qbs,Qcm,Qcs,Qcy,Uu,Qbv,Qca,Qcz,Qct,Qbw,Qe4,Qe0,Jr,Qqy,Qnz,V0,Qff,Qgt,Qr3,Qka,Qgw,Qra,Y0,Ja,Qdc,Qab,aop,Y1,nth,Ab.g0,gv,gs,Xu,Xx,aev,evs,evO,Y2,Tr.get_put,St.put,Tm.put,flat,flatA,Qaa,Y6,Y7,Yb,Y9,Y8,Ya,Y5,Yc,Y3,Xq,Xr,Qfg,Qnv,Qk1,Qh4,Qem,Qk2,Qh1,Qfd,Q12,Q83,Q0t,Qvx,Js.putAll,Zx,Xz,Xo,Xl,Xw,Xv,Xy,Xm,Xn,Xs,-Uu]
    refine fin _ hD tv l rfl (by simp [Tr.get_put]) (by simp [Tr.get_put]) (by simp [Tr.get_put]) (by simp [Tr.get_put]) (sl.old aD) (Old.refl _) fun q => ?_
    have := sl.blk q
    omega
  | cons k ks =>
    have h0 : 0 < key.length := by rw [hkc]; simp
    rw [← hkc]
    have w1 : IntKind.i64.wrap (64 + (l.length : Int)) = ((64 + l.length : Nat) : Int) := by rw [Qol (by omega) (by omega)]; omega
    have w2 : IntKind.i64.wrap (64 - (key.length : Int)) = ((64 - key.length : Nat) : Int) := by rw [Qol (by omega) (by omega)]; omega
    obtain ⟨h1, e1⟩ : ∃ h1, h1 = hD.push (.cells true 1 (List.replicate (64 + l.length) (.int .u8 0))) := ⟨_, rfl⟩
    have a1 : Old hD h1 := by rw [e1]; exact Old.push _ _
    have mk : Qog (E b).toEnv 51 (.int .i64 0) (.int .i64 ((64 + l.length : Nat) : Int)) hD = some (.slice (some ⟨hD.next, 0, none⟩) 0 (64 + l.length), h1) := by
      simp only [Qog,Xpk,(T51 b).d,Xsn]
      rw [if_pos ⟨by omega, by omega, by omega, by rw [Q47]; omega, by rw [Qtq]; omega⟩, Xm7, e1]
      have : (Value.int .u8 0).cells.toList = [.int .u8 0] := rfl
      rw [this, Q5l]
      simp only [Int.toNat_natCast,Int.toNat_zero]
    have mk' : Qog (E b).toEnv 51 (.int .i64 0) (.int .i64 (64 + (l.length : Int))) hD = some (.slice (some ⟨hD.next, 0, none⟩) 0 (64 + l.length), h1) := by
      have := mk
      rw [show ((64 + l.length : Nat) : Int) = 64 + (l.length : Int) by omega] at this
      exact this
    have o1 : Own h1 hD.next 1 (.slice (some ⟨hD.next, 0, none⟩) 0 (64 + l.length)) 0 [] := .inr ⟨hD.next, 64 + l.length, 1, _, rfl, Nat.le_refl _, by rw [e1, Heap.get_push, if_pos rfl, List.nil_append], rfl, by omega, by unfold Qjy; omega, .inr ⟨by unfold Qjy; omega, by simp⟩⟩
    obtain ⟨v2, h2, c1, o2, b2⟩ := Q5p (T51 b) (tx := 51) (m := key.length) (ys := key.map u8v) Qtq (by omega) o1 a1.1 (Xf3 (T51 b) Qtq (sk.old (aD.trans a1))) (by simp) (by rw [Q47]; omega) (by omega)
    have nz : Q5o (E b).toEnv 3 R5 (.int .i64 ((64 - key.length : Nat) : Int)) h2 = some (64 - key.length, List.replicate (64 - key.length) (.int .u8 0)) := by
      have hi : R3.desc = .int .i64 := by kernel_rfl
      simp only [Q5o,Xps,hi]
      rw [if_pos ⟨by omega, by omega, by rw [Q47]; omega, by rw [Qtq]; omega⟩, Xm7]
      have : (Value.int .u8 0).cells.toList = [.int .u8 0] := rfl
      rw [this, Q5l]
      simp
    obtain ⟨v3, h3, c2, o3, b3⟩ := Q5p (T51 b) (tx := 3) Qtq (by omega) o2 (Nat.le_trans a1.1 b2.1) nz (by simp) (by rw [Q47]; omega) (by omega)
    have a2 : Old hD h2 := b2.old a1 o1
    have a3 : Old hD h3 := b3.old a2 o2
    obtain ⟨v4, h4, c3, o4, b4⟩ := Q5p (T51 b) (tx := 51) (m := l.length) (ys := l.map u8v) Qtq (by omega) o3 a3.1 (Xf3 (T51 b) Qtq (sl.old (aD.trans a3))) (by simp) (by rw [Q47]; omega) (by omega)
    have a4 : Old hD h4 := b4.old a3 o3
    simp [Qbq,Qfb,Qbp,Q3b,Qdz,Xbc,Jw,Qdu,Uh,Qyf,Qe1,Qdv,Qdt,Qdw,Qdy,Qe3,Xb2,Q8f,Q7x,Qe2,Q92,Xcc,Qz7,Qv3,Qz9,Qd0,Qc6,Qco,Jk,Jo,Qbt,Qc5,Qc0,Qc7,Qcb,Q86,Qcu,Qbz,Qcf,Qzd,Qzh,Qz4,Qc8,Qoj,Qae,Qcg,Qd1,Qcr,Qcw,Qcp,Qbx,Qbr,Qbu,Qcc,Qce,Qcj,Qb4,Qc2,Qby,Jm,Qcx,Qcd,Qc4,Qcv,Qu3,Qu9,Q42,Qz6,Qzt,Q9b,Q4a,Qc1,Qch,Qci,Qcn,Qck,Qcl,Qc3,Qc9,Qcq,Qqp,Qbs,Qcm,Qcs,Qcy,Uu,Qbv,Qca,Qcz,Qct,Qbw,Qe4,Qe0,Jr,Qqy,Qnz,V0,Qff,Qgt,Qr3,Qka,Qgw,Qra,Y0,Ja,Qdc,Qab,aop,Y1,nth,Ab.g0,gv,gs,Xu,Xx,aev,evs,evO,Y2,Tr.get_put,St.put,Tm.put,flat,flatA,Qaa,Y6,Y7,Yb,Y9,Y8,Ya,Y5,Yc,Y3,Xq,Xr,Qfg,Qnv,Qk1,Qh4,Qem,Qk2,Qh1,Qfd,Q12,Q83,Q0t,Qvx,Js.putAll,Zx,Xz,Xo,Xl,Xw,Xv,Xy,Xm,Xn,Xs,-Uu,h0,lenk,lent,w1,w2,mk',c1,c2,c3]
    have zl : (Bl.zeros (64 - key.length)).length = 64 - key.length := by have := congrArg List.length (Q8d (64 - key.length)); simpa using this
    have tx : Bl.textOf key l = key ++ (Bl.zeros (64 - key.length) ++ l) := by rw [hkc]; rfl
    have sn : SN h4 v4 (key ++ (Bl.zeros (64 - key.length) ++ l)) := by
      have := o4.sl
      have e1 : [] ++ key.map u8v ++ List.replicate (64 - key.length) (Value.int .u8 0) ++ l.map u8v = (key ++ (Bl.zeros (64 - key.length) ++ l)).map u8v := by
        rw [List.map_append, List.map_append, Q8d]
        simp
      have e2 : 0 + key.length + (64 - key.length) + l.length = (key ++ (Bl.zeros (64 - key.length) ++ l)).length := by
        simp only [List.length_append,zl]; omega
      rw [e1, e2] at this
      exact this
    refine fin _ h4 v4 _ tx.symm (by simp [Tr.get_put]) (by simp [Tr.get_put]) (by simp [Tr.get_put]) (by simp [Tr.get_put]) sn a4 fun q => ?_
    have := (o4.from q).1
    have := Heap.get_lt gD
    omega
theorem Xtn (b : Nat) {h : Heap} (laid : Ab.LaidIn h Qfj) {tv : Value} {l : List Nat} (sl : SN h tv l) (hl : l.length < 1000000000) (K : AEnd → Heap → Prop) (hk : ∀ h', Old h h' → K (.ret (.agg ⟨(Bl.keyed1 [] l).map u8v⟩)) h') :
    FnK Tryd.prog (E b).G 20 [tv] h K := by
  refine Q06 (E b) (Q25 b) (Qt6 b) mixed (Q3e b) (Q17 b) (Uh b) Q98 Xfs Xe7 rfl ?_
  obtain ⟨hA, eA⟩ : ∃ hA, hA = h.push (.cells true 1 z32) := ⟨_, rfl⟩
  have aA : Old h hA := by rw [eA]; exact Old.push _ _
  have gA : hA.get h.next = some (.cells true 1 z32) := by rw [eA, Heap.get_push, if_pos rfl]
  have alA : Qul (E b).toEnv 30 h = some (.pointer (some ⟨h.next, 0, none⟩), hA) := by rw [eA]; exact Q3b b h
  simp [Qxn,Q6i,Uh,Q3b,Q29,Qbp,Qyf,Q2y,Q2m,Q2w,Jr,Qqy,Qnz,V0,Qff,Qgt,Qr3,Qka,Qgw,Qra,Y0,Ja,Qdc,Qab,aop,Y1,nth,Ab.g0,gv,gs,Xu,Xx,aev,evs,evO,Y2,Tr.get_put,St.put,Tm.put,flat,flatA,Qaa,Y6,Y7,Yb,Y9,Y8,Ya,Y5,Yc,Y3,Xq,Xr,Qfg,Qnv,Qk1,Qh4,Qem,Qk2,Qh1,Qfd,Q12,Q83,Q0t,Qvx,Js.putAll,Zx,Xz,Xo,Xl,Xw,Xv,Xy,Xm,Xn,Xs,-Q3b,alA]
  refine Xpf b (LaidIn.old laid aA) (kv := .slice none 0 0) (key := []) Sl.nil (sl.old aA) (by simp) hl _ fun h2 a2 => ?_
  have g2 : h2.get h.next = some (.cells true 1 z32) := a2.get gA
  have kl : (Bl.keyed1 [] l).length = 32 := Qx0 _
  have l2 := Heap.get_lt g2
  have st : Qny h2 h.next 0 ((Bl.keyed1 [] l).map u8v) = some (h2.set h.next (some (.cells true 1 ((Bl.keyed1 [] l).map u8v)))) := by
    rw [Qyo g2 (by simp [z32,kl])]
    congr 4
  have g3 : Qtx (h2.set h.next (some (.cells true 1 ((Bl.keyed1 [] l).map u8v)))) h.next 0 32 = some (.agg ⟨(Bl.keyed1 [] l).map u8v⟩) := by
    rw [Qnj (by rw [Heap.get_set _ _ _ _ l2, if_pos rfl]) (by simp [kl])]
    congr 3
  simp [Qxn,Q6i,Uh,Q3b,Q29,Qbp,Qyf,Q2y,Q2m,Q2w,Jr,Qqy,Qnz,V0,Qff,Qgt,Qr3,Qka,Qgw,Qra,Y0,Ja,Qdc,Qab,aop,Y1,nth,Ab.g0,gv,gs,Xu,Xx,aev,evs,evO,Y2,Tr.get_put,St.put,Tm.put,flat,flatA,Qaa,Y6,Y7,Yb,Y9,Y8,Ya,Y5,Yc,Y3,Xq,Xr,Qfg,Qnv,Qk1,Qh4,Qem,Qk2,Qh1,Qfd,Q12,Q83,Q0t,Qvx,Js.putAll,Zx,Xz,Xo,Xl,Xw,Xv,Xy,Xm,Xn,Xs,Qqp,st,kl,g3]
  exact hk _ ((aA.trans a2).set _ (Nat.le_refl _) l2)
end Go.Proofs.YtcokebbiblnonaaDoor
