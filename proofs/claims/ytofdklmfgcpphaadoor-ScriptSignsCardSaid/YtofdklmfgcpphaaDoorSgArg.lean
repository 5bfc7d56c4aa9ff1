/-
  What is asked, where the call begins.
-/
import Derived.Test.YtofdklmfgcpphaaDoorAbG
import Derived.Test.YtofdklmfgcpphaaDoorSgLaw
set_option linter.all false
noncomputable section
namespace Go.Proofs.YtofdklmfgcpphaaDoor
open Go Go.Ab
open Go.ChangeShapes Go.WideShapes Go.RowKit
set_option maxRecDepth 1000000
theorem X83 {P : Program} {W : World} {r : Reach} {base u : Nat} {v : Value} (hu : P.underlying u = some (.int .u8)) (h : Cell.okWide P W r base u v) : ∃ n : Nat, v = u8v n ∧ n < 256 := by
  have h2 : ∃ z, v = .int .u8 z ∧ IntKind.has .u8 z := by
    cases v <;> simp_all [Cell.okWide, Cell.ok]
  obtain ⟨z, rfl, hz⟩ := h2
  have : 0 ≤ z ∧ z ≤ 255 := by
    simp [IntKind.has,IntKind.min,IntKind.max,IntKind.bits,IntKind.signed] at hz
    omega
  exact ⟨z.toNat, by show Value.int .u8 z = .int .u8 ((z.toNat : Nat) : Int); rw [Int.toNat_of_nonneg this.1], by omega⟩
theorem X3u {P : Program} {W : World} {r : Reach} {base u : Nat} {v : Value} (hu : P.underlying u = some (.int .i64)) (h : Cell.okWide P W r base u v) : ∃ n : Int, v = .int .i64 n := by
  cases v <;> simp_all [Cell.okWide, Cell.ok]
theorem X78 {l : List Value} (h : ∀ v ∈ l, ∃ n : Nat, v = u8v n ∧ n < 256) : ∃ ns : List Nat, l = ns.map u8v ∧ ns.length = l.length ∧ ∀ n ∈ ns, n < 256 := by
  induction l with
  | nil => exact ⟨[], rfl, rfl, by simp⟩
  | cons v l ih =>
    obtain ⟨n, rfl, hn⟩ := h v (by simp)
    obtain ⟨ns, rfl, h2, h3⟩ := ih fun w hw => h w (by simp [hw])
    refine ⟨n :: ns, rfl, by simp, fun m hm => ?_⟩
    rcases List.mem_cons.1 hm with rfl | hm
    · exact hn
    · exact h3 m hm
theorem X65 (α : Ren) (l : List Nat) : (l.map u8v).map (ren α) = l.map u8v := by
  rw [List.map_map]
  exact List.map_congr_left fun n _ => ren_int α .u8 (n : Int)
theorem X1c {H : Type} {enc : TypeId × Value → H} {α : Ren} {h : Heap} {W : World} (HS : HRel ⟨nv, W.heap.size⟩ α h W) (own0 : ∀ b, h.own b = false) {base : Nat} {v : Value} {d : DataW H} {ps : List MemPlace}
    (hval : Value.okWide Tryd.prog W .any base 78 v) (hd : DataW.Trod enc Tryd.prog W 0 (fun _ => true) true 78 v d ps) :
    ∃ α' h' ow tg pv pre n, HRel ⟨nv, W.heap.size⟩ α' h' W ∧ (∀ b, h'.own b = false) ∧ Old h h' ∧ ren α' (.agg ⟨X54 ow tg pv n⟩) = v ∧ okV (dom α') (.agg ⟨X54 ow tg pv n⟩) ∧ (0 ≤ ow ∧ ow < 256) ∧ tg.length = 16 ∧ (∀ k ∈ tg, k < 256) ∧ SB h' pv pre ∧ Bytes pre := by
  obtain ⟨fs, hfs, hf2⟩ : ∃ fs : Array Field, Tryd.prog.underlying 78 = some (.struct fs) ∧ ∃ f2, fs[2]? = some f2 ∧ f2.type = 47 ∧ f2.offset = 17 := by
    refine ⟨((Tryd.prog.underlying 78).bind fun x => match x with | .struct fs => some fs | _ => none).getD #[], by kernel_rfl, ?_⟩
    have hs : ((((Tryd.prog.underlying 78).bind fun x => match x with | .struct fs => some fs | _ => none).getD #[])[2]?).map (fun f => (f.type, f.offset)) = some (47, 17) := by kernel_rfl
    rw [Option.map_eq_some_iff] at hs
    obtain ⟨f2, q1, q2⟩ := hs
    exact ⟨f2, q1, congrArg Prod.fst q2, congrArg Prod.snd q2⟩
  obtain ⟨f2, g1, g2, g3⟩ := hf2
  have hsz : Tryd.prog.cellsOf 78 = 19 := by kernel_rfl
  have hts : Tryd.prog.cellTypes Tryd.prog.depth 78 = some (List.replicate 17 5 ++ [47, 3]) := by kernel_rfl
  have hc1 : Tryd.prog.cellsOf 47 = 1 := by kernel_rfl
  unfold Value.okWide at hval
  rw [hfs] at hval
  obtain ⟨cs, rfl, hcs, ts, ht1, -, hrow⟩ := hval
  rw [hts] at ht1
  obtain rfl := Option.some.inj ht1
  rw [hsz] at hcs
  obtain ⟨L⟩ := cs
  have hL : L.length = 19 := hcs
  have cell : ∀ i v, L[i]? = some v → ∃ u, (List.replicate 17 5 ++ [47, 3])[i % 19]? = some u ∧ Cell.okWide Tryd.prog W .any base u v := fun i v hi => hrow i v (by simpa using hi)
  have a8 : ∀ i v, i < 17 → L[i]? = some v → ∃ n : Nat, v = u8v n ∧ n < 256 := fun i v hi hv => by
    obtain ⟨u, hu, hc⟩ := cell i v hv
    rw [Nat.mod_eq_of_lt (by omega), List.getElem?_append_left (by simpa using hi), List.getElem?_replicate, if_pos hi] at hu
    cases hu
    exact X83 (by kernel_rfl) hc
  obtain ⟨c0, hc0⟩ : ∃ c, L[0]? = some c := ⟨_, List.getElem?_eq_getElem (by omega)⟩
  obtain ⟨pv0, hc17⟩ : ∃ c, L[17]? = some c := ⟨_, List.getElem?_eq_getElem (by omega)⟩
  obtain ⟨c18, hc18⟩ : ∃ c, L[18]? = some c := ⟨_, List.getElem?_eq_getElem (by omega)⟩
  obtain ⟨n0, rfl, b0⟩ := a8 0 c0 (by omega) hc0
  obtain ⟨u17, hu17, k17⟩ := cell 17 _ hc17
  obtain rfl : 47 = u17 := by
    have : (List.replicate 17 5 ++ [47, 3])[17 % 19]? = some 47 := by kernel_rfl
    rw [this] at hu17; exact Option.some.inj hu17
  obtain ⟨u18, hu18, k18⟩ := cell 18 _ hc18
  obtain rfl : 3 = u18 := by
    have : (List.replicate 17 5 ++ [47, 3])[18 % 19]? = some 3 := by kernel_rfl
    rw [this] at hu18; exact Option.some.inj hu18
  obtain ⟨n, rfl⟩ := X3u (by kernel_rfl) k18
  obtain ⟨tg, ht, htl, htb⟩ := X78 (l := (L.drop 1).take 16) fun v hv => by
    obtain ⟨i, hi⟩ := List.getElem?_of_mem hv
    have hlt : i < 16 := by
      rcases Nat.lt_or_ge i 16 with q | q
      · exact q
      · rw [List.getElem?_eq_none (by simp; omega)] at hi; cases hi
    rw [List.getElem?_take_of_lt hlt, List.getElem?_drop] at hi
    exact a8 (1 + i) v (by omega) hi
  have hLe : L = u8v n0 :: (tg.map u8v ++ [pv0, .int .i64 n]) := by
    have e1 : L = L.take 1 ++ ((L.drop 1).take 16 ++ L.drop 17) := by
      have : L.drop 17 = (L.drop 1).drop 16 := by rw [List.drop_drop]
      rw [this, List.take_append_drop, List.take_append_drop]
    have e2 : L.take 1 = [u8v n0] := by
      match L, hc0 with
      | x :: L, hc0 => simp at hc0; simp [hc0]
    have e3 : L.drop 17 = [pv0, .int .i64 n] := by
      have l17 : 17 < L.length := by omega
      have l18 : 18 < L.length := by omega
      rw [List.drop_eq_getElem_cons l17, List.drop_eq_getElem_cons l18, List.drop_of_length_le (by omega)]
      rw [List.getElem?_eq_getElem l17] at hc17
      rw [List.getElem?_eq_getElem l18] at hc18
      rw [Option.some.inj hc17, Option.some.inj hc18]
    rw [e1, e2, ht, e3]
    rfl
  obtain ⟨fuel, hf⟩ := hd
  obtain ⟨xs, m, -, -, -, hxl, hxs⟩ := DataW.trod_struct hfs hf
  have h2 := hxs 2 f2 g1
  rw [g2, g3, hc1] at h2
  have e17 : (((Value.agg ⟨L⟩).cells.toList).drop 17).take 1 = [pv0] := by
    show (L.drop 17).take 1 = _
    have l17 : 17 < L.length := by omega
    rw [List.drop_eq_getElem_cons l17]
    rw [List.getElem?_eq_getElem l17] at hc17
    simp [Option.some.inj hc17]
  rw [e17] at h2
  have hus : Tryd.prog.underlying 47 = some (.slice 5) := by kernel_rfl
  have hval2 : Value.okWide Tryd.prog W .any base 47 pv0 := by
    unfold Value.okWide
    rw [hus]
    exact k17
  obtain ⟨a, ln, cp, rfl⟩ := okWide_slice hus hval2
  obtain ⟨y2, hy2⟩ : ∃ y, xs[2]? = some y := by
    refine ⟨_, List.getElem?_eq_getElem ?_⟩
    rw [hxl]
    have := (Array.getElem?_eq_some_iff.1 g1).1
    omega
  rw [hy2] at h2
  obtain ⟨α1, hh1, w1, pre, H1, o1, x1, a1, r1, k1, s1, b1⟩ := Xyl (e := 5) hus (by kernel_rfl) (by kernel_rfl) HS own0 rfl hval2 (d := y2.1) (ps := y2.2) ⟨m, h2⟩
  refine ⟨α1, hh1, (n0 : Int), tg, w1, pre, n, H1, o1, a1, ?_, ?_, by omega, by rw [htl]; simp; omega, htb, s1, b1⟩
  · rw [hLe]
    simp only [ren,X54,Qnm]
    congr 1
    have : (Value.int .u8 (n0 : Int) :: (tg.map u8v ++ [w1, .int .i64 n])).map (ren α1) = u8v n0 :: (tg.map u8v ++ [.slice a ln cp, .int .i64 n]) := by
      rw [List.map_cons, List.map_append, X65, List.map_cons, List.map_cons, List.map_nil, r1, ren_int, ren_int]
      rfl
    rw [← this]
    simp
  · simp only [okV,okA,Xzh,X54]
    have o1c : w1.oneCell' = true := by
      rcases s1 with ⟨c, rfl, _⟩ | ⟨bk, o, c, ow', z', p1, p2, rfl, _⟩ <;> rfl
    refine ⟨fun v hv => ?_, ?_⟩
    · simp only [List.mem_cons,List.mem_append,List.mem_map,List.not_mem_nil,or_false] at hv
      rcases hv with rfl | ⟨k, _, rfl⟩ | rfl | rfl
      · simp [okV]
      · simp [okV,u8v]
      · exact k1
      · simp [okV]
    · rw [List.all_eq_true]
      intro v hv
      simp only [List.mem_cons,List.mem_append,List.mem_map,List.not_mem_nil,or_false] at hv
      rcases hv with rfl | ⟨k, _, rfl⟩ | rfl | rfl
      · rfl
      · rfl
      · exact o1c
      · rfl
end Go.Proofs.YtofdklmfgcpphaaDoor
