/- Texts OQ of the proof, merged: contracts of functions of chapter 10, of the program and of the reference, and plain laws. -/
import Derived.Test.YthomnkgiaapljaaGreatDoorD10
section
/- The arguments of the rows opened: numbers of a byte and of two bytes, rows of such numbers, ways of driving. -/
set_option maxRecDepth 100000
namespace Go.Bp
open Go.RowKit Go.Proofs Go.ChangeShapes Go.WideShapes Go.ChangeAt
section
variable {H : Type} {enc : TypeId × Value → H} {w : World} {b0 : Nat}
theorem cellsOf5 : Tryz.prog.cellsOf 5 = 1 := by kernel_rfl
theorem cellsOf58 : Tryz.prog.cellsOf 58 = 1 := by kernel_rfl
theorem cellsOf59 : Tryz.prog.cellsOf 59 = 1 := by kernel_rfl
theorem cellsOf61 : Tryz.prog.cellsOf 61 = 3 := by kernel_rfl
theorem cellsOf66 : Tryz.prog.cellsOf 66 = 2 := by kernel_rfl
theorem cellsOf72 : Tryz.prog.cellsOf 72 = 3 := by kernel_rfl
theorem wf_u8 {n : Int} (h : (Lit.int .u8 n).wf = true) : 0 ≤ n ∧ n ≤ 255 := by
  simp [Lit.wf, IntKind.min, IntKind.max, IntKind.signed, IntKind.bits] at h
  omega
theorem wf_u16 {n : Int} (h : (Lit.int .u16 n).wf = true) : 0 ≤ n ∧ n ≤ 65535 := by
  simp [Lit.wf, IntKind.min, IntKind.max, IntKind.signed, IntKind.bits] at h
  omega
theorem at_u8 {n : Nat} {cs : List Value} {x : DataW H × List MemPlace} (h : DataW.trod enc Tryz.prog w 0 (fun _ => true) true n 5 cs = some x) : ∃ k, cs = [.int .u8 k] ∧ 0 ≤ k ∧ k ≤ 255 := by
  obtain ⟨k, h1, _, h2⟩ := DataW.trod_int Tryz.underlying5 h; exact ⟨k, h1, wf_u8 h2⟩
theorem at_u16 {n : Nat} {cs : List Value} {x : DataW H × List MemPlace} (h : DataW.trod enc Tryz.prog w 0 (fun _ => true) true n 59 cs = some x) : ∃ k, cs = [.int .u16 k] ∧ 0 ≤ k ∧ k ≤ 65535 := by
  obtain ⟨k, h1, _, h2⟩ := DataW.trod_int Tryz.underlying59 h; exact ⟨k, h1, wf_u16 h2⟩
theorem encU_flat (xs : List Int) : xs.flatMap (fun n => [Value.int .u8 n]) = encU xs := by induction xs <;> simp_all [encU]
theorem at_bytes8 {n : Nat} {cs : List Value} {x : DataW H × List MemPlace} (h : DataW.trod enc Tryz.prog w 0 (fun _ => true) true n 58 cs = some x) : ∃ v xs, cs = [v] ∧ Bytes8 w v xs ∧ ∀ a ∈ xs, 0 ≤ a ∧ a ≤ 255 := by
  obtain ⟨v, xs, h1, h2, h3⟩ := open_flat (fun n : Int => [Value.int .u8 n]) (fun a => 0 ≤ a ∧ a ≤ 255) (fun _ => rfl) Tryz.underlying58 cellsOf5 (fun n c1 y hy => by obtain ⟨k, hk, hb⟩ := at_u8 hy; exact ⟨k, hk, hb⟩) h
  rw [encU_flat] at h2; exact ⟨v, xs, h1, h2, h3⟩
theorem arg_u8 {v : Value} {d : DataW H} {p : List MemPlace} (hv : Value.okWide Tryz.prog w .any b0 5 v) (h : DataW.Trod enc Tryz.prog w 0 (fun _ => true) true 5 v d p) : ∃ n, v = .int .u8 n ∧ 0 ≤ n ∧ n ≤ 255 := by
  obtain ⟨n, h1, _, _, h2⟩ := open_int Tryz.underlying5 hv h
  exact ⟨n, h1, wf_u8 h2⟩
theorem arg_u16 {v : Value} {d : DataW H} {p : List MemPlace} (hv : Value.okWide Tryz.prog w .any b0 59 v) (h : DataW.Trod enc Tryz.prog w 0 (fun _ => true) true 59 v d p) : ∃ n, v = .int .u16 n ∧ 0 ≤ n ∧ n ≤ 65535 := by
  obtain ⟨n, h1, _, _, h2⟩ := open_int Tryz.underlying59 hv h
  exact ⟨n, h1, wf_u16 h2⟩
theorem okWide_arr {t e : TypeId} {n : Nat} {v : Value} (ht : Tryz.prog.underlying t = some (.array n e)) (h : Value.okWide Tryz.prog w .any b0 t v) : ∃ cs, v = .agg cs ∧ cs.size = Tryz.prog.cellsOf t := by
  simp only [Value.okWide, ht] at h
  obtain ⟨cs, h1, h2, _⟩ := h
  exact ⟨cs, h1, h2⟩
theorem two {c0 c1 : Value} {cs : List Value} (hl : cs.length = 2) (h0 : (cs.drop 0).take 1 = [c0]) (h1 : (cs.drop 1).take 1 = [c1]) : cs = [c0, c1] := by
  match cs, hl with
  | [x, y], _ => simp at h0 h1; simp [h0, h1]
theorem arg_u8x2 {v : Value} {d : DataW H} {p : List MemPlace} (hv : Value.okWide Tryz.prog w .any b0 66 v) (h : DataW.Trod enc Tryz.prog w 0 (fun _ => true) true 66 v d p) : ∃ m n, v = .agg #[.int .u8 m, .int .u8 n] ∧ (0 ≤ m ∧ m ≤ 255) ∧ 0 ≤ n ∧ n ≤ 255 := by
  obtain ⟨cs, rfl, hcs⟩ := okWide_arr Tryz.underlying66 hv
  obtain ⟨fuel, hf⟩ := h
  obtain ⟨xs, m, _, _, hl, hx, hE⟩ := DataW.trod_array Tryz.underlying66 hf
  rw [cellsOf66] at hl
  have e0 := hE 0 (by decide); have e1 := hE 1 (by decide)
  rw [cellsOf5] at e0 e1
  rw [List.getElem?_eq_getElem (by omega)] at e0 e1
  obtain ⟨a, h0, ha⟩ := at_u8 e0
  obtain ⟨b, h1, hb⟩ := at_u8 e1
  have := two hl (by simpa using h0) (by simpa using h1)
  refine ⟨a, b, ?_, ha, hb⟩
  have : cs = #[.int .u8 a, .int .u8 b] := by apply Array.ext'; simpa [Value.cells] using this
  rw [this]
theorem arg_u8x3 {v : Value} {d : DataW H} {p : List MemPlace} (hv : Value.okWide Tryz.prog w .any b0 72 v) (h : DataW.Trod enc Tryz.prog w 0 (fun _ => true) true 72 v d p) : ∃ m n o, v = .agg #[.int .u8 m, .int .u8 n, .int .u8 o] ∧ (0 ≤ m ∧ m ≤ 255) ∧ (0 ≤ n ∧ n ≤ 255) ∧ 0 ≤ o ∧ o ≤ 255 := by
  obtain ⟨cs, rfl, hcs⟩ := okWide_arr Tryz.underlying72 hv
  obtain ⟨fuel, hf⟩ := h
  obtain ⟨xs, m, _, _, hl, hx, hE⟩ := DataW.trod_array Tryz.underlying72 hf
  rw [cellsOf72] at hl
  have e0 := hE 0 (by decide); have e1 := hE 1 (by decide); have e2 := hE 2 (by decide)
  rw [cellsOf5] at e0 e1 e2
  rw [List.getElem?_eq_getElem (by omega)] at e0 e1 e2
  obtain ⟨a, h0, ha⟩ := at_u8 e0
  obtain ⟨b, h1, hb⟩ := at_u8 e1
  obtain ⟨c, h2, hc⟩ := at_u8 e2
  have := three hl (by simpa using h0) (by simpa using h1) (by simpa using h2)
  refine ⟨a, b, c, ?_, ha, hb, hc⟩
  have : cs = #[.int .u8 a, .int .u8 b, .int .u8 c] := by apply Array.ext'; simpa [Value.cells] using this
  rw [this]
theorem arg_driven {v : Value} {d : DataW H} {p : List MemPlace} (hv : Value.okWide Tryz.prog w .any b0 61 v) (h : DataW.Trod enc Tryz.prog w 0 (fun _ => true) true 61 v d p) : ∃ x, DrivenV w v x := by
  obtain ⟨cs, rfl, hcs⟩ := okWide_struct Tryz.underlying61 hv
  obtain ⟨fuel, hf⟩ := h
  obtain ⟨xs, m, _, _, hl, hx, hE⟩ := DataW.trod_struct Tryz.underlying61 hf
  rw [cellsOf61] at hl
  have hx3 : xs.length = 3 := hx
  have e0 : DataW.trod enc Tryz.prog w 0 (fun _ => true) true m 5 (((Value.agg cs).cells.toList.drop 0).take (Tryz.prog.cellsOf 5)) = xs[0]? := hE 0 _ rfl; have e1 : DataW.trod enc Tryz.prog w 0 (fun _ => true) true m 58 (((Value.agg cs).cells.toList.drop 1).take (Tryz.prog.cellsOf 58)) = xs[1]? := hE 1 _ rfl; have e2 : DataW.trod enc Tryz.prog w 0 (fun _ => true) true m 59 (((Value.agg cs).cells.toList.drop 2).take (Tryz.prog.cellsOf 59)) = xs[2]? := hE 2 _ rfl
  rw [cellsOf5] at e0; rw [cellsOf58] at e1; rw [cellsOf59] at e2
  rw [List.getElem?_eq_getElem (by omega)] at e0 e1 e2
  obtain ⟨n, h0, hn⟩ := at_u8 e0
  obtain ⟨wv, ws, h1, hW, hw⟩ := at_bytes8 e1
  obtain ⟨l, h2, hl2⟩ := at_u16 e2
  have := three hl h0 h1 h2
  refine ⟨⟨n, ws, l⟩, wv, ?_, hW, hn.1, hn.2, hw, hl2.1, hl2.2⟩
  have : cs = #[.int .u8 n, wv, .int .u16 l] := by apply Array.ext'; simpa [Value.cells] using this
  rw [this]
end
end Go.Bp
end
