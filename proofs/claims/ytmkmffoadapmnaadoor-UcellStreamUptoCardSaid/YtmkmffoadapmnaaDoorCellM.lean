/- Places of a screen: as they stand in memory; rules; what runes take, plainly. -/
import Derived.Test.YtmkmffoadapmnaaDoorDec
import Derived.Test.YtmkmffoadapmnaaDoorFlat
import Derived.Laws.StructEq
set_option linter.unusedSimpArgs false
set_option linter.unusedVariables false
namespace Go.Proofs.YtmkmffoadapmnaaDoor
open Go.RowKit
abbrev Cel := ByteArray × Int
def celE (c : Cel) : List Value := [.string c.1, .int .i64 c.2, .int .i64 0]
theorem celE_len (c : Cel) : (celE c).length = 3 := rfl
def CRow (v : Value) (cs : List Cel) : HP := Row 26 3 v cs.length (cs.flatMap celE)
def blankS : ByteArray := ⟨#[32]⟩
def hatS : ByteArray := ⟨#[94]⟩
def badS : ByteArray := ⟨#[239, 191, 189]⟩
def emptyS : ByteArray := ⟨#[]⟩
/-- The bytes of a slice as a string. -/
def byteS (l : List Int) : ByteArray := l.foldl (fun s n => s.push (UInt8.ofNat n.toNat)) .empty
theorem byteS_data (l : List Int) : byteS l = ⟨(l.map fun n => UInt8.ofNat n.toNat).toArray⟩ := by
  have key : ∀ (l : List Int) (s : ByteArray), l.foldl (fun s n => s.push (UInt8.ofNat n.toNat)) s = ⟨s.data ++ (l.map fun n => UInt8.ofNat n.toNat).toArray⟩ := by
    intro l
    induction l with
    | nil => intro s; simp
    | cons x r ih =>
      intro s
      rw [List.foldl_cons, ih]
      simp [ByteArray.push]
  unfold byteS
  rw [key]
  simp
theorem enc_bytes {r : Int} : byteS (Lib.encodeRuneZ r) = Utf8.encode r := by
  rw [byteS_data]
  unfold Utf8.encode
  by_cases hv : Utf8.valid r = true
  · have hv2 : (0 ≤ r ∧ r < 55296) ∨ (57344 ≤ r ∧ r ≤ 1114111) := by
      unfold Utf8.valid at hv; simpa using hv
    rw [hv]
    simp only [if_true]
    by_cases h1 : r < 128
    · rw [Lib.encodeRuneZ_one (by omega) (by omega), if_pos (by omega)]; rfl
    · by_cases h2 : r < 2048
      · rw [Lib.encodeRuneZ_two (by omega) (by omega), if_neg (by omega), if_pos (by omega)]
        simp only [List.map_cons, List.map_nil]
        rw [show (192 + r / 64).toNat = 0xC0 + r.toNat / 64 from by omega, show (128 + r % 64).toNat = 0x80 + r.toNat % 64 from by omega]
      · by_cases h3 : r < 65536
        · rw [Lib.encodeRuneZ_three (by omega), if_neg (by omega), if_neg (by omega), if_pos (by omega)]
          simp only [List.map_cons, List.map_nil]
          rw [show (224 + r / 4096).toNat = 0xE0 + r.toNat / 4096 from by omega, show (128 + r / 64 % 64).toNat = 0x80 + r.toNat / 64 % 64 from by omega, show (128 + r % 64).toNat = 0x80 + r.toNat % 64 from by omega]
        · rw [Lib.encodeRuneZ_four (by omega) (by omega), if_neg (by omega), if_neg (by omega), if_neg (by omega)]
          simp only [List.map_cons, List.map_nil]
          rw [show (240 + r / 262144).toNat = 0xF0 + r.toNat / 262144 from by omega, show (128 + r / 4096 % 64).toNat = 0x80 + r.toNat / 4096 % 64 from by omega, show (128 + r / 64 % 64).toNat = 0x80 + r.toNat / 64 % 64 from by omega, show (128 + r % 64).toNat = 0x80 + r.toNat % 64 from by omega]
  · rw [if_neg hv, Lib.encodeRuneZ_bad]
    · rfl
    · unfold Utf8.valid at hv; simp at hv; omega
theorem enc_size (r : Int) : 1 ≤ (Utf8.encode r).size ∧ (Utf8.encode r).size ≤ 4 := by
  rw [← enc_bytes, byteS_data]
  have := Lib.encodeRuneZ_length r
  simp only [ByteArray.size, List.size_toArray, List.length_map]
  exact this
theorem bad_eq : Utf8.encode 65533 = badS := by decide +kernel
theorem bad_of {r : Int} (h : validM r = false) : Utf8.encode r = badS := by
  rw [← enc_bytes, enc_valid h, ← bad_eq, ← enc_bytes]; rfl
/-- A rune of the width 0 joins the place ahead. -/
def joinF : Nat → List Cel → ByteArray → List Cel
  | 0, cs, s => cs ++ [(blankS ++ s, 1)]
  | k + 1, cs, s => if (cs.getD k (emptyS, 0)).1.toList = [] then joinF k cs s else if (cs.getD k (emptyS, 0)).1.size ≤ 32 then cs.set k ((cs.getD k (emptyS, 0)).1 ++ s, (cs.getD k (emptyS, 0)).2) else cs
def joinM (cs : List Cel) (s : ByteArray) : List Cel := joinF cs.length cs s
def stepC (col : Nat) (out : List Cel) (r : Int) : List Cel :=
  if r = 9 then out ++ List.replicate (8 - (col + out.length) % 8) (blankS, 1)
  else if 0 ≤ r ∧ r < 32 ∨ r = 127 then out ++ [(hatS, 1), (Utf8.encode (bits .xor .i32 r 64), 1)]
  else if validM r = false ∨ controlM r = true then out ++ [(badS, 1)]
  else if widthM r = 0 then joinM out (Utf8.encode r)
  else if widthM r = 2 then out ++ [(Utf8.encode r, 2), (emptyS, 0)]
  else out ++ [(Utf8.encode r, 1)]
def cellsF (col : Nat) (l : List Int) : List Cel := l.foldl (stepC col) []
def colM (col : Int) : Nat := (max col 0).toNat % 8
def cellsM (l : List Int) (col : Int) : List Cel := cellsF (colM col) l
theorem joinF_len : ∀ (k : Nat) (cs : List Cel) (s : ByteArray), cs.length ≤ (joinF k cs s).length ∧ (joinF k cs s).length ≤ cs.length + 1 := by
  intro k
  induction k with
  | zero => intro cs s; simp [joinF]
  | succ k ih =>
    intro cs s
    unfold joinF
    split
    · exact ih cs s
    · split
      · simp
      · simp
theorem stepC_len (col : Nat) (out : List Cel) (r : Int) : out.length ≤ (stepC col out r).length ∧ (stepC col out r).length ≤ out.length + 8 := by
  unfold stepC
  split
  · simp only [List.length_append, List.length_replicate]; omega
  · split
    · simp
    · split
      · simp
      · split
        · have := joinF_len out.length out (Utf8.encode r); unfold joinM; omega
        · split <;> simp
theorem cells_snoc (col : Nat) (l : List Int) (k : Nat) (h : k < l.length) : cellsF col (l.take (k + 1)) = stepC col (cellsF col (l.take k)) (l.getD k 0) := by
  unfold cellsF
  rw [List.take_succ_eq_append_getElem h, List.foldl_append, List.getD_eq_getElem?_getD, List.getElem?_eq_getElem h]
  rfl
theorem foldC_len (col : Nat) (l : List Int) : ∀ out : List Cel, (l.foldl (stepC col) out).length ≤ out.length + 8 * l.length := by
  induction l with
  | nil => intro out; simp
  | cons x r ih =>
    intro out
    have h1 := ih (stepC col out x)
    have h2 := (stepC_len col out x).2
    simp only [List.foldl_cons, List.length_cons]
    omega
theorem cellsF_len (col : Nat) (l : List Int) (k : Nat) : (cellsF col (l.take k)).length ≤ 8 * l.length := by
  have := foldC_len col (l.take k) []
  unfold cellsF
  simp only [List.length_nil, List.length_take] at this
  omega
section
variable {P : Program} {L : List (Nat × Value)} {w : World} {ty : TypeId} {x y : Operand}
theorem r_int_str {src dst : TypeId} {k : IntKind} {n : Int} (hs : P.underlying src = some (.int k)) (hd : P.underlying dst = some .string) (hx : ev L x = some (.int k n)) : Val P L (.convert src dst x) ty w (.string (Utf8.encode n)) w := fun ρ hρ _ _ _ _ => by
  simp only [execOp, hρ _ _ hx]
  simp [convert, run_underlying hs, run_underlying hd, Conv.intToString]
theorem r_bytes_str {src dst e : TypeId} {v : Value} {l : List Int} (hs : P.underlying src = some (.slice e)) (hd : P.underlying dst = some .string) (he : P.underlying e = some (.int .u8)) (hx : ev L x = some v) (hr : RdI w .u8 v l) :
    Val P L (.convert src dst x) ty w (.string (byteS l)) w := fun ρ hρ _ _ _ _ => by
  obtain ⟨a, c, rfl, _, _, hc⟩ := Rd.cells (P := P) hr
  have loop : ∀ (f : Value → ByteArray → Sem (ForInStep ByteArray)), (∀ n s, f (.int .u8 n) s = pure (ForInStep.yield (s.push (UInt8.ofNat n.toNat)))) → ∀ (l : List Int) (s : ByteArray), (forIn (m := Sem) (l.map (Value.int .u8)).toArray s f).run P w = .ok (l.foldl (fun s n => s.push (UInt8.ofNat n.toNat)) s) w := by
    intro f hf l
    induction l with
    | nil => intro s; rfl
    | cons x l ih => intro s; simp [hf] at ih ⊢; try exact ih _
  have h1 : (Conv.bytesToString (.slice a l.length c)).run P w = .ok (.string (byteS l)) w := by
    unfold Conv.bytesToString
    cases a with
    | none =>
      have : l = [] := by
        cases l with
        | nil => rfl
        | cons x l =>
          obtain ⟨_, _, e, _, _, hh⟩ := hr.open
          cases e
          obtain ⟨_, _, e, _⟩ := hh (by simp)
          cases e
      subst this; rfl
    | some a =>
      have h2 : (loadCells a l.length).run P w = .ok (l.map (Value.int .u8)).toArray w := by simpa [Builtin.firstCells] using hc
      simp only [Sem.run_bind, h2, Result.andThen_ok]
      rw [loop]
      · rfl
      · intro n s; rfl
  simp [execOp, hρ _ _ hx, convert, run_underlying hs, run_underlying hd, run_underlying he, h1]
theorem cel_eq {c d : Cel} : ((c.1.toList == d.1.toList) && (c.2 == d.2)) = decide (c = d) := by
  obtain ⟨c1, c2⟩ := c
  obtain ⟨d1, d2⟩ := d
  rw [Bool.eq_iff_iff]
  simp only [Bool.and_eq_true, beq_iff_eq, decide_eq_true_eq, Prod.mk.injEq]
  constructor
  · rintro ⟨h1, h2⟩
    refine ⟨?_, h2⟩
    rw [ByteArray.toList_eq, ByteArray.toList_eq] at h1
    obtain ⟨⟨x⟩⟩ := c1
    obtain ⟨⟨z⟩⟩ := d1
    simp only at h1
    rw [h1]
  · rintro ⟨rfl, rfl⟩; exact ⟨rfl, rfl⟩
theorem r_cell_neq {c d : Cel} (hx : ev L x = some (.agg (celE c).toArray)) (hy : ev L y = some (.agg (celE d).toArray)) : Val Tryd.prog L (.binOp .neq 26 x y 26) ty w (.bool (!decide (c = d))) w := fun ρ hρ _ _ _ _ => by
  simp only [execOp, hρ _ _ hx, hρ _ _ hy]
  have h0 : (eqGuard .neq 26 x y (.agg (celE c).toArray) (.agg (celE d).toArray)).run Tryd.prog w = .ok () w := run_eqGuard_agg w .neq _ x y _ _ (by kernel_rfl)
  have hf : Tryd.prog.underlying 26 = some (.struct (Tryd.prog.fieldsOf 26)) := by kernel_rfl
  have hp : Tryd.prog.stoodInHeld 26 = false := by kernel_rfl
  have hfs : ((Tryd.prog.fieldsOf 26).toList.map fun f => (f.name, f.type, f.offset)) = [("Text", 9, 0), ("Width", 3, 1), ("Attr", 3, 2)] := by kernel_rfl
  have h1 : (Op.eqFields 9999 (celE c).toArray (celE d).toArray (Tryd.prog.fieldsOf 26).toList).run Tryd.prog w = .ok (decide (c = d)) w := by
    generalize (Tryd.prog.fieldsOf 26).toList = fs at hfs
    match fs, hfs with
    | [], hfs | [_], hfs | [_, _], hfs | _ :: _ :: _ :: _ :: _, hfs => simp at hfs
    | [f1, f2, f3], hfs =>
      simp only [List.map_cons, List.map_nil, List.cons.injEq, Prod.mk.injEq, and_true] at hfs
      obtain ⟨⟨n1, t1, o1⟩, ⟨n2, t2, o2⟩, n3, t3, o3⟩ := hfs
      have p1 : plainTy Tryd.prog 9 = true := plain_of Tryd.underlying9 rfl
      have p2 : plainTy Tryd.prog 3 = true := plain_of Tryd.underlying3 rfl
      have part_at : ∀ (e : TypeId) (xs : Array Value) (off : Nat) (v : Value), plainTy Tryd.prog e = true → xs[off]? = some v → (part e xs off).run Tryd.prog w = .ok v w := fun e xs off v h1 h2 => by simp [part, run_isAgg_no h1, h2]
      have st : ∀ (f : Field) (e : TypeId) (off : Nat) (u v : Value) (r : Bool) (rest : List Field), f.name ≠ "_" → f.type = e → f.offset = off → plainTy Tryd.prog e = true → (celE c).toArray[off]? = some u → (celE d).toArray[off]? = some v → (Op.equalIn 9999 e u v).run Tryd.prog w = .ok r w →
          (Op.eqFields 9999 (celE c).toArray (celE d).toArray (f :: rest)).run Tryd.prog w = if r then (Op.eqFields 9999 (celE c).toArray (celE d).toArray rest).run Tryd.prog w else .ok false w := fun f e off u v r rest hn ht ho hp h1 h2 h3 => by
        subst ht ho
        rw [Op.eqFields, if_pos hn, Sem.run_bind, part_at _ _ _ _ hp h1, Result.andThen_ok, Sem.run_bind, part_at _ _ _ _ hp h2, Result.andThen_ok, Sem.run_bind, h3, Result.andThen_ok]
        cases r
        · simp
        · simp
      rw [st f1 _ _ _ _ _ _ (by rw [n1]; decide) t1 o1 p1 rfl rfl (run_equalIn_string w 9998 9 c.1 d.1 Tryd.underlying9),
        st f2 _ _ _ _ _ _ (by rw [n2]; decide) t2 o2 p2 rfl rfl (run_equalIn_int w 9998 3 .i64 .i64 c.2 d.2 Tryd.underlying3),
        st f3 _ _ _ _ _ _ (by rw [n3]; decide) t3 o3 p2 rfl rfl (run_equalIn_int w 9998 3 .i64 .i64 0 0 Tryd.underlying3), ← cel_eq]
      cases hA : (c.1.toList == d.1.toList) <;> cases hB : (c.2 == d.2) <;> rfl
  have h2 := run_neq_struct (P := Tryd.prog) w 26 (celE c).toArray (celE d).toArray
  rw [run_equalIn_agg w 9999 _ _ _ hf hp, h1] at h2
  simp [h0, h2]
end
end Go.Proofs.YtmkmffoadapmnaaDoor
