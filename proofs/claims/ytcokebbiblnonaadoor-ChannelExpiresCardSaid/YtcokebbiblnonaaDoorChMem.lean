/-
  The channel where it lies; its map asked and turned.
-/
import Derived.Test.YtcokebbiblnonaaDoorChPure
import Derived.Test.YtcokebbiblnonaaDoorBlk4
import Derived.Test.YtcokebbiblnonaaDoorNf
set_option linter.all false
noncomputable section
namespace Go.Proofs.YtcokebbiblnonaaDoor
open Go Go.Ab
set_option maxRecDepth 100000
def CRow.cells (r : CRow) : List Value := .int .i64 r.fr :: .int .i64 r.id :: .int .i64 r.am :: .int .i64 r.til :: r.hash.map u8v
def CKept.cells (k : CKept) : List Value := k.row.cells ++ (.int .i64 k.state :: k.secret.map u8v)
structure KP where
  k : CKept
  blk : Nat
def KP.ok (p : KP) : Prop := p.k.row.hash.length = 32 ∧ p.k.secret.length = 32
def ent (p : KP) (i : Nat) : MapEntry := ⟨.int .i64 p.k.row.id, .pointer (some ⟨p.blk, 0, none⟩), i⟩
def Q3g : List KP → Nat → List MapEntry
  | [], _ => []
  | p :: l, i => ent p i :: Q3g l (i + 1)
theorem Xlm : ∀ (l m : List KP) (i : Nat), Q3g (l ++ m) i = Q3g l i ++ Q3g m (i + l.length)
  | [], m, i => by simp [Q3g]
  | p :: l, m, i => by
    simp only [List.cons_append,Q3g,Xlm l m,List.length_cons]
    rw [show i + 1 + l.length = i + (l.length + 1) by omega]
def Qte (id : Int) : List KP → Nat → Option (Nat × KP)
  | [], _ => none
  | p :: l, i => if id = p.k.row.id then some (i, p) else Qte id l (i + 1)
theorem Xf2 : ∀ (id : Int) (l : List KP) (i : Nat), (Qte id l i).map (fun q => q.2.k) = Qr6 id (l.map (·.k))
  | id, [], _ => rfl
  | id, p :: l, i => by
    simp only [Qte,List.map_cons,Qr6]
    split
    · rfl
    · exact Xf2 id l _
theorem Qvs : ∀ {id : Int} {l : List KP} {i : Nat} {q : Nat × KP}, Qte id l i = some q → q.2 ∈ l ∧ q.2.k.row.id = id ∧ ∃ l1 l2, l = l1 ++ q.2 :: l2 ∧ id ∉ l1.map (fun p => p.k.row.id)
  | id, [], i, q, h => by cases h
  | id, p :: l, i, q, h => by
    unfold Qte at h
    split at h
    · rename_i e
      cases h
      exact ⟨by simp, e.symm, [], l, rfl, by simp⟩
    · rename_i e
      obtain ⟨h1, h2, l1, l2, h3, h4⟩ := Qvs h
      exact ⟨by simp [h1], h2, p :: l1, l2, by rw [h3]; rfl, by simp only [List.map_cons,List.mem_cons,not_or]; exact ⟨e, h4⟩⟩
theorem Xec (id : Int) : ∀ (l : List KP) (i j : Nat), Instr.findNow (.int .i64) (.int .i64 id) (Q3g l i) j = some ((Qte id l j).map fun q => (q.1, .pointer (some ⟨q.2.blk, 0, none⟩)))
  | [], _, _ => rfl
  | p :: l, i, j => by
    have e : Instr.sameNow (.int .i64) (.int .i64 id) (ent p i).key = some (id == p.k.row.id) := by
      show (if IntKind.i64 = IntKind.i64 then some (id == p.k.row.id) else none) = _
      rw [if_pos rfl]
    simp only [Q3g,Instr.findNow,e,Qte]
    by_cases h : id = p.k.row.id
    · simp [h]; rfl
    · rw [if_neg h, show (id == p.k.row.id) = false by simpa using h]
      exact Xec id l (i + 1) (j + 1)
structure Chan (h : Heap) (MB : Nat → Prop) (κ mb : Nat) (c : CSt) (ps : List KP) : Prop where
  at' : ∃ z, h.get κ = some (.cells true z [.int .i64 0, .int .i64 c.b1, .int .i64 c.b2, .map (some mb), .int .i64 c.held, .int .i64 c.many])
  mp : h.get mb = some (.map ⟨Q3g ps 0⟩ ps.length)
  rows : c.rows = ps.map (·.k)
  each : ∀ p ∈ ps, h.get p.blk = some (.cells true 1 p.k.cells) ∧ p.ok
  apart : ∀ p ∈ ps, p.blk ≠ κ ∧ p.blk ≠ mb
  nd : (ps.map (·.blk)).Nodup
  ne : κ ≠ mb
  own : MB κ ∧ MB mb ∧ ∀ p ∈ ps, MB p.blk
  low : ∀ b, MB b → b < h.next
theorem CRow.len {r : CRow} (h : r.hash.length = 32) : r.cells.length = 36 := by simp [CRow.cells,h]
theorem KP.len {p : KP} (h : p.ok) : p.k.cells.length = 69 := by simp [CKept.cells,CRow.len h.1,h.2]
theorem Chan.old {h h' : Heap} {MB : Nat → Prop} {κ mb : Nat} {c : CSt} {ps : List KP} (C : Chan h MB κ mb c ps) (a : Old h h') : Chan h' MB κ mb c ps := by
  obtain ⟨⟨z, g1⟩, g2, g3, g4, g5, g6, g7, g8, g9⟩ := C
  exact ⟨⟨z, a.get g1⟩, a.get g2, g3, fun p hp => ⟨a.get (g4 p hp).1, (g4 p hp).2⟩, g5, g6, g7, g8, fun b hb => Nat.lt_of_lt_of_le (g9 b hb) a.1⟩
theorem Xup : R57.desc = .map 3 63 := by kernel_rfl
theorem Xyi : R3.desc = .int .i64 := by kernel_rfl
theorem Xji (b : Nat) {h : Heap} {mb : Nat} {ps : List KP} {clk : Nat} (hm : h.get mb = some (.map ⟨Q3g ps 0⟩ clk)) (id : Int) :
    Qoj (E b).toEnv 57 (.map (some mb)) (.int .i64 id) false h = some (match Qte id ps 0 with | some q => .pointer (some ⟨q.2.blk, 0, none⟩) | none => .pointer none) ∧
    Qoj (E b).toEnv 57 (.map (some mb)) (.int .i64 id) true h = some (match Qte id ps 0 with | some q => .tuple #[.pointer (some ⟨q.2.blk, 0, none⟩), .bool true] | none => .tuple #[.pointer none, .bool false]) := by
  obtain ⟨re, he⟩ : ∃ re, (E b).toEnv.ty.get 63 = some re ∧ re.zero = .pointer none := ⟨((E b).toEnv.ty.get 63).getD ⟨.invalid, 0, 0, .bool false, []⟩, by kernel_rfl, by kernel_rfl⟩
  have hf : Q6x R3 (.int .i64 id) (Q3g ps 0) = some ((Qte id ps 0).map fun q => (q.1, .pointer (some ⟨q.2.blk, 0, none⟩))) := by
    simp only [Q6x,Xyi]
    exact Xec id ps 0 0
  constructor
  · simp only [Qoj,Xqb,Xup,Xv7,he.1,Qw4,hm,hf]
    cases Qte id ps 0 with
    | none => simp [he.2]
    | some q => simp
  · simp only [Qoj,Xqb,Xup,Xv7,he.1,Qw4,hm,hf]
    cases Qte id ps 0 with
    | none => simp [he.2]
    | some q => simp
theorem Xzf (b : Nat) {h : Heap} {mb : Nat} {ps : List KP} (hm : h.get mb = some (.map ⟨Q3g ps 0⟩ ps.length)) {p : KP} (hn : Qte p.k.row.id ps 0 = none) :
    Qgt (E b).toEnv 57 (.map (some mb)) (.int .i64 p.k.row.id) (.pointer (some ⟨p.blk, 0, none⟩)) h = some (h.set mb (some (.map ⟨Q3g (ps ++ [p]) 0⟩ (ps ++ [p]).length))) := by
  have hf : Q6x R3 (.int .i64 p.k.row.id) (Q3g ps 0) = some none := by
    simp only [Q6x,Xyi]
    rw [Xec p.k.row.id ps 0 0, hn]
    rfl
  have hfl : flat (.int .i64 p.k.row.id) = true := rfl
  simp only [Qgt,Xqb,Xup,hm,Xv7,hfl,hf]
  have e1 : (⟨Q3g ps 0⟩ : Array MapEntry).push { key := .int .i64 p.k.row.id, val := .pointer (some ⟨p.blk, 0, none⟩), born := ps.length } = ⟨Q3g (ps ++ [p]) 0⟩ := by
    rw [Xlm]
    simp [Q3g,ent]
  rw [e1]
  simp
theorem Chan.c {h : Heap} {MB : Nat → Prop} {κ mb : Nat} {c : CSt} {ps : List KP} (C : Chan h MB κ mb c ps) : Qd0 h κ 1 = some (.int .i64 c.b1) ∧ Qd0 h κ 2 = some (.int .i64 c.b2) ∧ Qd0 h κ 3 = some (.map (some mb)) ∧ Qd0 h κ 4 = some (.int .i64 c.held) ∧ Qd0 h κ 5 = some (.int .i64 c.many) ∧ Qd0 h κ 0 = some (.int .i64 0) := by
  obtain ⟨⟨z, g⟩, _⟩ := C
  refine ⟨?_, ?_, ?_, ?_, ?_, ?_⟩ <;> rw [Qfi g] <;> rfl
theorem Chan.k {h : Heap} {MB : Nat → Prop} {κ mb : Nat} {c : CSt} {ps : List KP} (C : Chan h MB κ mb c ps) {p : KP} (hp : p ∈ ps) : Qd0 h p.blk 0 = some (.int .i64 p.k.row.fr) ∧ Qd0 h p.blk 1 = some (.int .i64 p.k.row.id) ∧ Qd0 h p.blk 2 = some (.int .i64 p.k.row.am) ∧ Qd0 h p.blk 3 = some (.int .i64 p.k.row.til) ∧ Qd0 h p.blk 36 = some (.int .i64 p.k.state) ∧
    Qxa h p.blk 0 36 = some (.agg ⟨p.k.row.cells⟩) ∧ Qxa h p.blk 4 32 = some (.agg ⟨p.k.row.hash.map u8v⟩) ∧ Qxa h p.blk 37 32 = some (.agg ⟨p.k.secret.map u8v⟩) := by
  obtain ⟨g, ho⟩ := C.each p hp
  have l1 := CRow.len ho.1
  have l2 := KP.len ho
  refine ⟨by rw [Qfi g]; rfl, by rw [Qfi g]; rfl, by rw [Qfi g]; rfl, by rw [Qfi g]; rfl, ?_, ?_, ?_, ?_⟩
  · rw [Qfi g, CKept.cells, List.getElem?_append_right (by omega), l1]; rfl
  · rw [Qot g (by omega), List.drop_zero, CKept.cells, ← l1, List.take_left]
  · rw [Qot g (by omega)]
    congr 3
    show (p.k.row.hash.map u8v ++ _).take 32 = _
    have : (p.k.row.hash.map u8v).length = 32 := by simpa using ho.1
    rw [← this, List.take_left]
  · rw [Qot g (by omega), CKept.cells]
    congr 3
    have e : p.k.row.cells ++ (Value.int .i64 p.k.state :: p.k.secret.map u8v) = (p.k.row.cells ++ [Value.int .i64 p.k.state]) ++ p.k.secret.map u8v := by simp
    have l3 : (p.k.row.cells ++ [Value.int .i64 p.k.state]).length = 37 := by simp [l1]
    rw [e, ← l3, List.drop_left]
    exact List.take_of_length_le (by simp [ho.2])
end Go.Proofs.YtcokebbiblnonaaDoor
