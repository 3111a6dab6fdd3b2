/- Functions of the library (and the table of sums) at this program, and that the evaluator's contracts tell them. (The layings are what the kit's lay-plain.mjs prints.) -/
import Derived.Test.YtkjckoefkcmjhaaGreatDoorProg
import Derived.Test.YtkjckoefkcmjhaaGreatDoorEvI
import Derived.WalkKit
import Derived.Shelf.Strings.Repeat
import Derived.Laws.Externs
import Derived.Shelf.Strings.OnBuilder
namespace Go.Proofs
open Go.Shelf
def Tryz.lays105_ren : Go.Shelf.Ren := ⟨fun | 105 => 247 | 212 => 278 | 99 => 279 | 165 => 280 | 166 => 281 | 170 => 282 | 169 => 283 | 263 => 308 | 264 => 309 | 206 => 310 | 240 => 311 | 241 => 312 | 276 => 337 | 277 => 338 | n => n, fun | 9 => 9 | 3 => 3 | 4 => 4 | 20 => 20 | 0 => 0 | 46 => 308 | 109 => 341 | 5 => 5 | 72 => 346 | 76 => 350 | 51 => 138 | 146 => 386 | 53 => 375 | 148 => 388 | 70 => 344 | 37 => 38 | 75 => 349 | 127 => 390 | 164 => 406 | 80 => 103 | n => n, fun | n => n⟩
theorem Tryz.lays105 : Go.Proofs.Lays.n105 Tryz.prog Tryz.lays105_ren := {
  mixed := by kernel_rfl
  f99 := Tryz.func279.trans (congrArg some (by kernel_rfl))
  f105 := Tryz.func247.trans (congrArg some (by kernel_rfl))
  f165 := Tryz.func280.trans (congrArg some (by kernel_rfl))
  f166 := Tryz.func281.trans (congrArg some (by kernel_rfl))
  f169 := Tryz.func283.trans (congrArg some (by kernel_rfl))
  f170 := Tryz.func282.trans (congrArg some (by kernel_rfl))
  f206 := Tryz.func310.trans (congrArg some (by kernel_rfl))
  f212 := Tryz.func278.trans (congrArg some (by kernel_rfl))
  f240 := Tryz.func311.trans (congrArg some (by kernel_rfl))
  f241 := Tryz.func312.trans (congrArg some (by kernel_rfl))
  f263 := Tryz.func308.trans (congrArg some (by kernel_rfl))
  f264 := Tryz.func309.trans (congrArg some (by kernel_rfl))
  f276 := Tryz.func337.trans (congrArg some (by kernel_rfl))
  f277 := Tryz.func338.trans (congrArg some (by kernel_rfl))
  t0 := Tryz.underlying0
  a0 := Tryz.isAgg0
  z0 := Tryz.sizeOf0
  v0 := Tryz.zeroValue0
  t3 := Tryz.underlying3
  a3 := Tryz.isAgg3
  z3 := Tryz.sizeOf3
  v3 := Tryz.zeroValue3
  t4 := Tryz.underlying4
  a4 := Tryz.isAgg4
  z4 := Tryz.sizeOf4
  v4 := Tryz.zeroValue4
  t5 := Tryz.underlying5
  a5 := Tryz.isAgg5
  z5 := Tryz.sizeOf5
  v5 := Tryz.zeroValue5
  t9 := Tryz.underlying9
  a9 := Tryz.isAgg9
  z9 := Tryz.sizeOf9
  v9 := Tryz.zeroValue9
  t20 := Tryz.underlying20
  a20 := Tryz.isAgg20
  z20 := Tryz.sizeOf20
  v20 := Tryz.zeroValue20
  t37 := Tryz.underlying38
  a37 := Tryz.isAgg38
  z37 := Tryz.sizeOf38
  v37 := Tryz.zeroValue38
  t46 := Tryz.underlying308
  a46 := Tryz.isAgg308
  z46 := Tryz.sizeOf308
  v46 := Tryz.zeroValue308
  t51 := Tryz.underlying138
  a51 := Tryz.isAgg138
  z51 := Tryz.sizeOf138
  v51 := Tryz.zeroValue138
  t53 := Tryz.underlying375
  a53 := Tryz.isAgg375
  z53 := Tryz.sizeOf375
  v53 := Tryz.zeroValue375
  t70 := Tryz.underlying344
  a70 := Tryz.isAgg344
  z70 := Tryz.sizeOf344
  v70 := Tryz.zeroValue344
  t72 := Tryz.underlying346
  a72 := Tryz.isAgg346
  z72 := Tryz.sizeOf346
  v72 := Tryz.zeroValue346
  t75 := Tryz.underlying349
  a75 := Tryz.isAgg349
  z75 := Tryz.sizeOf349
  v75 := Tryz.zeroValue349
  t76 := Tryz.underlying350
  a76 := Tryz.isAgg350
  z76 := Tryz.sizeOf350
  v76 := Tryz.zeroValue350
  t109 := Tryz.underlying341
  a109 := Tryz.isAgg341
  z109 := Tryz.sizeOf341
  v109 := Tryz.zeroValue341
  t127 := Tryz.underlying390
  a127 := Tryz.isAgg390
  z127 := Tryz.sizeOf390
  v127 := Tryz.zeroValue390
  t146 := Tryz.underlying386
  a146 := Tryz.isAgg386
  z146 := Tryz.sizeOf386
  v146 := Tryz.zeroValue386
  t148 := Tryz.underlying388
  a148 := Tryz.isAgg388
  z148 := Tryz.sizeOf388
  v148 := Tryz.zeroValue388
  t164 := Tryz.underlying406
  a164 := Tryz.isAgg406
  z164 := Tryz.sizeOf406
  v164 := Tryz.zeroValue406 }
theorem Tryz.Builder_Extra_105 : Builder.Extra Tryz.prog Tryz.lays105_ren := {
  sizeBuilder := by kernel_rfl
  liesBuilder := by kernel_rfl
  t5 := Tryz.underlying5
  a5 := Tryz.isAgg5
  z5 := Tryz.sizeOf5
  v5 := Tryz.zeroValue5
  infoByte := by kernel_rfl
  cellsByte := by kernel_rfl
  sizeByte := by kernel_rfl
  neB5 := by decide }
open Go.RowKit Go.Lib in
/-- strings.Repeat -/
theorem Tryz.repeats (s : ByteArray) (c : Nat) (w : World) (hc : c ≤ 9223372036854775807) (hlen : s.size * c ≤ 140737488355328) :
    Calls Tryz.prog 247 #[.string s, .int .i64 c] w fun e w' => e = .returned (.string ⟨(Lib.repeatL s.data.toList c).toArray⟩) ∧ Below w.heap.size w w' := Any.strings_Repeat Tryz.lays105 Tryz.Builder_Extra_105 s c w hc hlen
theorem Tryz.repOk : Go.Ev.IntrOk Tryz.prog 247 Go.Ev.repI := Go.Ev.rep_ok Tryz.repeats
def Tryz.lays156_ren : Go.Shelf.Ren := ⟨fun | 156 => 272 | 165 => 280 | 166 => 281 | 169 => 283 | 240 => 311 | 241 => 312 | 276 => 337 | 277 => 338 | n => n, fun | 31 => 23 | 9 => 9 | 3 => 3 | 4 => 4 | 0 => 0 | 20 => 20 | 72 => 346 | 76 => 350 | 70 => 344 | 37 => 38 | 75 => 349 | 127 => 390 | 164 => 406 | 5 => 5 | 80 => 103 | n => n, fun | n => n⟩
theorem Tryz.lays156 : Go.Proofs.Lays.n156 Tryz.prog Tryz.lays156_ren := {
  mixed := by kernel_rfl
  f156 := Tryz.func272.trans (congrArg some (by kernel_rfl))
  f165 := Tryz.func280.trans (congrArg some (by kernel_rfl))
  f166 := Tryz.func281.trans (congrArg some (by kernel_rfl))
  f169 := Tryz.func283.trans (congrArg some (by kernel_rfl))
  f240 := Tryz.func311.trans (congrArg some (by kernel_rfl))
  f241 := Tryz.func312.trans (congrArg some (by kernel_rfl))
  f276 := Tryz.func337.trans (congrArg some (by kernel_rfl))
  f277 := Tryz.func338.trans (congrArg some (by kernel_rfl))
  t0 := Tryz.underlying0
  a0 := Tryz.isAgg0
  z0 := Tryz.sizeOf0
  v0 := Tryz.zeroValue0
  t3 := Tryz.underlying3
  a3 := Tryz.isAgg3
  z3 := Tryz.sizeOf3
  v3 := Tryz.zeroValue3
  t4 := Tryz.underlying4
  a4 := Tryz.isAgg4
  z4 := Tryz.sizeOf4
  v4 := Tryz.zeroValue4
  t9 := Tryz.underlying9
  a9 := Tryz.isAgg9
  z9 := Tryz.sizeOf9
  v9 := Tryz.zeroValue9
  t20 := Tryz.underlying20
  a20 := Tryz.isAgg20
  z20 := Tryz.sizeOf20
  v20 := Tryz.zeroValue20
  t31 := Tryz.underlying23
  a31 := Tryz.isAgg23
  z31 := Tryz.sizeOf23
  v31 := Tryz.zeroValue23
  t37 := Tryz.underlying38
  a37 := Tryz.isAgg38
  z37 := Tryz.sizeOf38
  v37 := Tryz.zeroValue38
  t70 := Tryz.underlying344
  a70 := Tryz.isAgg344
  z70 := Tryz.sizeOf344
  v70 := Tryz.zeroValue344
  t72 := Tryz.underlying346
  a72 := Tryz.isAgg346
  z72 := Tryz.sizeOf346
  v72 := Tryz.zeroValue346
  t75 := Tryz.underlying349
  a75 := Tryz.isAgg349
  z75 := Tryz.sizeOf349
  v75 := Tryz.zeroValue349
  t76 := Tryz.underlying350
  a76 := Tryz.isAgg350
  z76 := Tryz.sizeOf350
  v76 := Tryz.zeroValue350
  t127 := Tryz.underlying390
  a127 := Tryz.isAgg390
  z127 := Tryz.sizeOf390
  v127 := Tryz.zeroValue390
  t164 := Tryz.underlying406
  a164 := Tryz.isAgg406
  z164 := Tryz.sizeOf406
  v164 := Tryz.zeroValue406 }
theorem Tryz.Builder_Extra_156 : Builder.Extra Tryz.prog Tryz.lays156_ren := {
  sizeBuilder := by kernel_rfl
  liesBuilder := by kernel_rfl
  t5 := Tryz.underlying5
  a5 := Tryz.isAgg5
  z5 := Tryz.sizeOf5
  v5 := Tryz.zeroValue5
  infoByte := by kernel_rfl
  cellsByte := by kernel_rfl
  sizeByte := by kernel_rfl
  neB5 := by decide }
theorem Tryz.joinOk : Go.Ev.IntrOk Tryz.prog 272 Go.Ev.joinI :=
  Go.Ev.join_ok (fun a c sep w => Any.strings_Join_none Tryz.lays156 Tryz.Builder_Extra_156 a c sep w)
    (fun bk o c xs sep w h1 h2 h3 h4 h5 => Any.strings_Join Tryz.lays156 Tryz.Builder_Extra_156 bk o c xs sep w h1 h2 h3 h4 h5)
open Go.RowKit Go.Lib in
set_option maxHeartbeats 1000000 in
set_option maxRecDepth 100000 in
/-- strings.Count, of one byte -/
theorem Tryz.countOne (s : ByteArray) (c : UInt8) (w : World) : Calls Tryz.prog 333 #[.string s, .string ⟨#[c]⟩] w fun e w' => e = .returned (.int .i64 (Go.Lib.countByte s.data.toList c)) ∧ w' = w := by
  have mixed : Tryz.prog.follows .mixedOrders = true := by kernel_rfl
  go_enter Tryz.func333, Tryz.ntmps333
  go_wp2
  rw [run_callFunc_extern Tryz.func351 (by kernel_rfl) (by kernel_rfl) (by kernel_rfl) (e := Extern.BytealgCount.count) (by kernel_rfl), Lib.run_countString]
  simp only [Result.andThen]
  rw [Oper.upon_value]
  go_wp2
  go_ret
  exact ⟨rfl, rfl⟩
theorem Tryz.cntOk : Go.Ev.IntrOk Tryz.prog 333 Go.Ev.cntI := Go.Ev.cnt_ok Tryz.countOne
open Go.RowKit Go.Lib in
set_option maxHeartbeats 1000000 in
set_option maxRecDepth 100000 in
theorem Tryz.indexByte (s : ByteArray) (c : Int) (w : World) : Calls Tryz.prog 362 #[.string s, .int .u8 c] w fun e w' => e = .returned (.int .i64 (Go.Lib.indexByte s.data.toList c.toNat.toUInt8)) ∧ w' = w := by
  have mixed : Tryz.prog.follows .mixedOrders = true := by kernel_rfl
  go_enter Tryz.func362, Tryz.ntmps362
  go_wp2
  rw [run_callFunc_extern Tryz.func379 (by kernel_rfl) (by kernel_rfl) (by kernel_rfl) (e := Extern.BytealgIndexByte.indexByte) (by kernel_rfl), Lib.run_indexByteString]
  simp only [Result.andThen]
  rw [Oper.upon_value]
  go_wp2
  go_ret
  exact ⟨rfl, rfl⟩
open Go.RowKit Go.Lib in
set_option maxHeartbeats 1000000 in
set_option maxRecDepth 100000 in
theorem Tryz.slIndexOne (s : ByteArray) (c : UInt8) (w : World) : Calls Tryz.prog 352 #[.string s, .string ⟨#[c]⟩] w fun e w' => e = .returned (.int .i64 (Go.Lib.indexByte s.data.toList c)) ∧ w' = w := by
  have mixed : Tryz.prog.follows .mixedOrders = true := by kernel_rfl
  go_enter Tryz.func352, Tryz.ntmps352
  go_wp2_with (go_at_call 362; refine (Tryz.indexByte _ _ _).mono ?_; rintro e w' ⟨rfl, rfl⟩)
  · have h : ([c] == s.toList) = true := by assumption
    go_ret
    refine ⟨?_, rfl⟩
    have e : s.data.toList = [c] := by rw [← Lib.toList_data]; exact (beq_iff_eq.1 h).symm
    rw [e]
    simp [Lib.indexByte]
  · go_ret
    exact ⟨rfl, rfl⟩
open Go.RowKit Go.Lib in
set_option maxHeartbeats 1000000 in
set_option maxRecDepth 100000 in
/-- strings.Index, of one byte -/
theorem Tryz.indexOne (s : ByteArray) (c : UInt8) (w : World) : Calls Tryz.prog 334 #[.string s, .string ⟨#[c]⟩] w fun e w' => e = .returned (.int .i64 (Go.Lib.indexByte s.data.toList c)) ∧ w' = w := by
  have mixed : Tryz.prog.follows .mixedOrders = true := by kernel_rfl
  go_enter Tryz.func334, Tryz.ntmps334
  go_wp2_with (go_at_call 352; refine (Tryz.slIndexOne _ _ _).mono ?_; rintro e w' ⟨rfl, rfl⟩)
  go_ret
  exact ⟨rfl, rfl⟩
theorem Tryz.idxOk : Go.Ev.IntrOk Tryz.prog 334 Go.Ev.idxI := Go.Ev.idx_ok Tryz.indexOne
theorem Tryz.crcNames : Go.Ev.namesOk Tryz.prog = true := by kernel_rfl
/-- crc.made: its table, as it has been run -/
theorem Tryz.crcRun : Go.Ev.rowIs Go.Ev.crcTab (Go.Ev.runFn Tryz.prog 100000 235 []) = true := by kernel_rfl
theorem Tryz.crcOk : Go.Ev.IntrOk Tryz.prog 235 (Go.Ev.rowI Go.Ev.crcTab) := Go.Ev.row_ok Tryz.crcNames Tryz.crcRun
end Go.Proofs
