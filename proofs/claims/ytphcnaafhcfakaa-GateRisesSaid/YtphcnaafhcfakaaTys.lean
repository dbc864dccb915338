/-
  Facts on the types and the functions of this seat's translation, written by a program of ours (tys.py). Conditions: none.
-/
import Derived.Test.YtphcnaafhcfakaaRows
import Derived.Test.YtphcnaafhcfakaaHb11
namespace Go.Proofs.Ytphcnaafhcfakaa
open Go.Hb
set_option linter.unusedSimpArgs false
instance : Mixed Try.prog := ⟨by kernel_rfl⟩
instance : Own Try.prog 3 := ⟨Try.call3⟩
instance : Own Try.prog 4 := ⟨Try.call4⟩
instance : Own Try.prog 5 := ⟨Try.call5⟩
instance : Own Try.prog 6 := ⟨Try.call6⟩
instance : Own Try.prog 7 := ⟨Try.call7⟩
instance : Own Try.prog 8 := ⟨Try.call8⟩
instance : Own Try.prog 9 := ⟨Try.call9⟩
instance : Own Try.prog 10 := ⟨Try.call10⟩
instance : Own Try.prog 11 := ⟨Try.call11⟩
instance : Own Try.prog 12 := ⟨Try.call12⟩
instance : Own Try.prog 13 := ⟨Try.call13⟩
instance : Own Try.prog 14 := ⟨Try.call14⟩
instance : Own Try.prog 15 := ⟨Try.call15⟩
instance : Own Try.prog 16 := ⟨Try.call16⟩
instance : Own Try.prog 17 := ⟨Try.call17⟩
instance : Own Try.prog 18 := ⟨Try.call18⟩
instance : Own Try.prog 19 := ⟨Try.call19⟩
instance : Own Try.prog 20 := ⟨Try.call20⟩
instance : Own Try.prog 21 := ⟨Try.call21⟩
instance : Own Try.prog 22 := ⟨Try.call22⟩
instance : Own Try.prog 23 := ⟨Try.call23⟩
instance : Own Try.prog 24 := ⟨Try.call24⟩
instance : Own Try.prog 25 := ⟨Try.call25⟩
instance : Own Try.prog 26 := ⟨Try.call26⟩
instance : Own Try.prog 27 := ⟨Try.call27⟩
instance : Own Try.prog 28 := ⟨Try.call28⟩
instance : Own Try.prog 29 := ⟨Try.call29⟩
instance : Own Try.prog 30 := ⟨Try.call30⟩
instance : Own Try.prog 31 := ⟨Try.call31⟩
instance : Own Try.prog 32 := ⟨Try.call32⟩
instance : Own Try.prog 33 := ⟨Try.call33⟩
instance : Own Try.prog 34 := ⟨Try.call34⟩
instance : Own Try.prog 35 := ⟨Try.call35⟩
instance : Own Try.prog 36 := ⟨Try.call36⟩
instance : Own Try.prog 37 := ⟨Try.call37⟩
instance : Own Try.prog 38 := ⟨Try.call38⟩
instance : Own Try.prog 39 := ⟨Try.call39⟩
instance : Own Try.prog 40 := ⟨Try.call40⟩
instance : Own Try.prog 41 := ⟨Try.call41⟩
instance : Own Try.prog 42 := ⟨Try.call42⟩
instance : Own Try.prog 43 := ⟨Try.call43⟩
instance : Own Try.prog 44 := ⟨Try.call44⟩
instance : Own Try.prog 45 := ⟨Try.call45⟩
instance : Own Try.prog 46 := ⟨Try.call46⟩
instance : Own Try.prog 47 := ⟨Try.call47⟩
instance : Own Try.prog 48 := ⟨Try.call48⟩
instance : Own Try.prog 49 := ⟨Try.call49⟩
instance : Own Try.prog 50 := ⟨Try.call50⟩
instance : Own Try.prog 51 := ⟨Try.call51⟩
instance : Own Try.prog 52 := ⟨Try.call52⟩
instance : Own Try.prog 53 := ⟨Try.call53⟩
instance : Own Try.prog 54 := ⟨Try.call54⟩
instance : Own Try.prog 55 := ⟨Try.call55⟩
instance : Own Try.prog 56 := ⟨Try.call56⟩
instance : Own Try.prog 57 := ⟨Try.call57⟩
instance : Own Try.prog 58 := ⟨Try.call58⟩
instance : Own Try.prog 59 := ⟨Try.call59⟩
instance : Own Try.prog 60 := ⟨Try.call60⟩
instance : Own Try.prog 61 := ⟨Try.call61⟩
instance : Own Try.prog 62 := ⟨Try.call62⟩
instance : Own Try.prog 63 := ⟨Try.call63⟩
instance : Own Try.prog 64 := ⟨Try.call64⟩
instance : Own Try.prog 65 := ⟨Try.call65⟩
instance : Own Try.prog 66 := ⟨Try.call66⟩
instance : Own Try.prog 67 := ⟨Try.call67⟩
instance : Own Try.prog 68 := ⟨Try.call68⟩
instance : Own Try.prog 69 := ⟨Try.call69⟩
instance : Own Try.prog 70 := ⟨Try.call70⟩
instance : Own Try.prog 71 := ⟨Try.call71⟩
instance : Own Try.prog 72 := ⟨Try.call72⟩
instance : Own Try.prog 73 := ⟨Try.call73⟩
instance : Own Try.prog 74 := ⟨Try.call74⟩
instance : Own Try.prog 75 := ⟨Try.call75⟩
instance : Own Try.prog 76 := ⟨Try.call76⟩
instance : Own Try.prog 77 := ⟨Try.call77⟩
instance : Own Try.prog 78 := ⟨Try.call78⟩
instance : Own Try.prog 79 := ⟨Try.call79⟩
instance : Own Try.prog 80 := ⟨Try.call80⟩
instance : Own Try.prog 81 := ⟨Try.call81⟩
instance : Own Try.prog 82 := ⟨Try.call82⟩
instance : Own Try.prog 83 := ⟨Try.call83⟩
instance : Own Try.prog 84 := ⟨Try.call84⟩
instance : Own Try.prog 85 := ⟨Try.call85⟩
instance : Own Try.prog 86 := ⟨Try.call86⟩
instance : Own Try.prog 87 := ⟨Try.call87⟩
instance : Own Try.prog 88 := ⟨Try.call88⟩
instance : Own Try.prog 89 := ⟨Try.call89⟩
instance : Own Try.prog 90 := ⟨Try.call90⟩
instance : Own Try.prog 91 := ⟨Try.call91⟩
instance : Own Try.prog 92 := ⟨Try.call92⟩
instance : Own Try.prog 93 := ⟨Try.call93⟩
instance : Own Try.prog 94 := ⟨Try.call94⟩
instance : Own Try.prog 95 := ⟨Try.call95⟩
instance : Own Try.prog 96 := ⟨Try.call96⟩
instance : Own Try.prog 97 := ⟨Try.call97⟩
instance : Own Try.prog 98 := ⟨Try.call98⟩
instance : Own Try.prog 99 := ⟨Try.call99⟩
instance : Own Try.prog 100 := ⟨Try.call100⟩
instance : Own Try.prog 101 := ⟨Try.call101⟩
instance : Own Try.prog 102 := ⟨Try.call102⟩
instance : Own Try.prog 103 := ⟨Try.call103⟩
instance : Own Try.prog 104 := ⟨Try.call104⟩
instance : Own Try.prog 105 := ⟨Try.call105⟩
instance : Own Try.prog 106 := ⟨Try.call106⟩
instance : Own Try.prog 107 := ⟨Try.call107⟩
instance : Own Try.prog 108 := ⟨Try.call108⟩
instance : Own Try.prog 109 := ⟨Try.call109⟩
instance : Own Try.prog 110 := ⟨Try.call110⟩
instance : Own Try.prog 111 := ⟨Try.call111⟩
instance : Own Try.prog 112 := ⟨Try.call112⟩
instance : Own Try.prog 113 := ⟨Try.call113⟩
instance : Own Try.prog 114 := ⟨Try.call114⟩
instance : Own Try.prog 115 := ⟨Try.call115⟩
instance : Own Try.prog 116 := ⟨Try.call116⟩
instance : Own Try.prog 117 := ⟨Try.call117⟩
instance : Own Try.prog 118 := ⟨Try.call118⟩
instance : Own Try.prog 119 := ⟨Try.call119⟩
instance : Own Try.prog 120 := ⟨Try.call120⟩
instance : Own Try.prog 121 := ⟨Try.call121⟩
instance : Own Try.prog 122 := ⟨Try.call122⟩
-- 0 ()
-- 3 int
instance : One Try.prog 3 := ⟨Try.isAgg3, Try.sizeOf3⟩
instance : ZeroOf Try.prog 3 [.int .i64 0] := ⟨⟨_, Try.zeroValue3, rfl⟩⟩
instance : IntT Try.prog 3 .i64 := ⟨Try.underlying3⟩
-- 4 bool
instance : One Try.prog 4 := ⟨Try.isAgg4, Try.sizeOf4⟩
instance : ZeroOf Try.prog 4 [.bool false] := ⟨⟨_, Try.zeroValue4, rfl⟩⟩
instance : Bools Try.prog 4 := ⟨Try.underlying4⟩
-- 5 uint8
instance : One Try.prog 5 := ⟨Try.isAgg5, Try.sizeOf5⟩
instance : ZeroOf Try.prog 5 [.int .u8 0] := ⟨⟨_, Try.zeroValue5, rfl⟩⟩
instance : IntT Try.prog 5 .u8 := ⟨Try.underlying5⟩
-- 23 api.RingId
instance : Agg Try.prog 23 2 := ⟨Try.isAgg23, Try.sizeOf23⟩
instance : ZeroOf Try.prog 23 [.int .i64 0, .int .i64 0] := ⟨⟨_, Try.zeroValue23, rfl⟩⟩
instance : Fld Try.prog 23 0 0 := ⟨fun _ _ _ => by kernel_rfl⟩
instance : Fld Try.prog 23 1 1 := ⟨fun _ _ _ => by kernel_rfl⟩
instance : Build Try.prog 23 [.int .i64 0, .int .i64 0] [(0, 1), (1, 1)] := ⟨fun w parts cells h => by
  simp only [Instr.build, Sem.run_bind, Try.zeroValue23, run_underlying Try.underlying23, Result.andThen_ok]
  simp only [List.mapM_toArray, List.mapM_cons, List.mapM_nil, Sem.run_bind, Sem.run_map, Sem.run_pure, Result.andThen_ok, pure_bind, bind_assoc, map_eq_pure_bind, Try.sizeOf3, Value.cells]
  rw [h]
  rfl⟩
instance : Eqs Try.prog 23 2 where
  eq := fun x y xs ys w h1 h2 => by
    match xs, ys, h1, h2 with
    | [a, b], [a', b'], _, _ =>
      simp [go_sem, Sem.run_bind, run_eqGuard_agg, run_eql_struct, run_neq_struct, run_equalIn_agg, run_equalIn_int, Try.underlying3, Try.underlying23, Try.stoodInHeld23, Try.eqGuardType23]
      (repeat' split) <;> simp_all
  ne := fun x y xs ys w h1 h2 => by
    match xs, ys, h1, h2 with
    | [a, b], [a', b'], _, _ =>
      simp [go_sem, Sem.run_bind, run_eqGuard_agg, run_eql_struct, run_neq_struct, run_equalIn_agg, run_equalIn_int, Try.underlying3, Try.underlying23, Try.stoodInHeld23, Try.eqGuardType23]
      (repeat' split) <;> simp_all
-- 25 api.Key
instance : Agg Try.prog 25 4 := ⟨Try.isAgg25, Try.sizeOf25⟩
instance : ZeroOf Try.prog 25 [.int .i64 0, .int .i64 0, .int .i64 0, .int .i64 0] := ⟨⟨_, Try.zeroValue25, rfl⟩⟩
instance : Fld Try.prog 25 0 0 := ⟨fun _ _ _ => by kernel_rfl⟩
instance : Fld Try.prog 25 1 1 := ⟨fun _ _ _ => by kernel_rfl⟩
instance : Fld Try.prog 25 2 3 := ⟨fun _ _ _ => by kernel_rfl⟩
instance : Build Try.prog 25 [.int .i64 0, .int .i64 0, .int .i64 0, .int .i64 0] [(0, 1), (1, 2), (3, 1)] := ⟨fun w parts cells h => by
  simp only [Instr.build, Sem.run_bind, Try.zeroValue25, run_underlying Try.underlying25, Result.andThen_ok]
  simp only [List.mapM_toArray, List.mapM_cons, List.mapM_nil, Sem.run_bind, Sem.run_map, Sem.run_pure, Result.andThen_ok, pure_bind, bind_assoc, map_eq_pure_bind, Try.sizeOf23, Try.sizeOf3, Value.cells]
  rw [h]
  rfl⟩
instance : Eqs Try.prog 25 4 where
  eq := fun x y xs ys w h1 h2 => by
    match xs, ys, h1, h2 with
    | [a, b, c, d], [a', b', c', d'], _, _ =>
      simp [go_sem, Sem.run_bind, run_eqGuard_agg, run_eql_struct, run_neq_struct, run_equalIn_agg, run_equalIn_int, Try.underlying3, Try.underlying23, Try.underlying25, Try.stoodInHeld23, Try.stoodInHeld25, Try.eqGuardType25]
      (repeat' split) <;> simp_all
  ne := fun x y xs ys w h1 h2 => by
    match xs, ys, h1, h2 with
    | [a, b, c, d], [a', b', c', d'], _, _ =>
      simp [go_sem, Sem.run_bind, run_eqGuard_agg, run_eql_struct, run_neq_struct, run_equalIn_agg, run_equalIn_int, Try.underlying3, Try.underlying23, Try.underlying25, Try.stoodInHeld23, Try.stoodInHeld25, Try.eqGuardType25]
      (repeat' split) <;> simp_all
-- 26 []uint8
instance : One Try.prog 26 := ⟨Try.isAgg26, Try.sizeOf26⟩
instance : ZeroOf Try.prog 26 [.slice none 0 0] := ⟨⟨_, Try.zeroValue26, rfl⟩⟩
instance : SliceOf Try.prog 26 5 1 1 := ⟨Try.underlying26, by kernel_rfl, by decide, ⟨.int .u8 0, by kernel_rfl, rfl⟩⟩
-- 28 api.Message
instance : Agg Try.prog 28 13 := ⟨Try.isAgg28, Try.sizeOf28⟩
instance : ZeroOf Try.prog 28 [.int .i64 0, .int .i64 0, .int .i64 0, .int .i64 0, .int .i64 0, .int .i64 0, .int .i64 0, .bool false, .int .i64 0, .int .i64 0, .int .i64 0, .int .i64 0, .slice none 0 0] := ⟨⟨_, Try.zeroValue28, rfl⟩⟩
instance : Fld Try.prog 28 0 0 := ⟨fun _ _ _ => by kernel_rfl⟩
instance : Fld Try.prog 28 1 1 := ⟨fun _ _ _ => by kernel_rfl⟩
instance : Fld Try.prog 28 2 2 := ⟨fun _ _ _ => by kernel_rfl⟩
instance : Fld Try.prog 28 3 3 := ⟨fun _ _ _ => by kernel_rfl⟩
instance : Fld Try.prog 28 4 4 := ⟨fun _ _ _ => by kernel_rfl⟩
instance : Fld Try.prog 28 5 5 := ⟨fun _ _ _ => by kernel_rfl⟩
instance : Fld Try.prog 28 6 6 := ⟨fun _ _ _ => by kernel_rfl⟩
instance : Fld Try.prog 28 7 7 := ⟨fun _ _ _ => by kernel_rfl⟩
instance : Fld Try.prog 28 8 8 := ⟨fun _ _ _ => by kernel_rfl⟩
instance : Fld Try.prog 28 9 12 := ⟨fun _ _ _ => by kernel_rfl⟩
instance : Build Try.prog 28 [.int .i64 0, .int .i64 0, .int .i64 0, .int .i64 0, .int .i64 0, .int .i64 0, .int .i64 0, .bool false, .int .i64 0, .int .i64 0, .int .i64 0, .int .i64 0, .slice none 0 0] [(0, 1), (1, 1), (2, 1), (3, 1), (4, 1), (5, 1), (6, 1), (7, 1), (8, 4), (12, 1)] := ⟨fun w parts cells h => by
  simp only [Instr.build, Sem.run_bind, Try.zeroValue28, run_underlying Try.underlying28, Result.andThen_ok]
  simp only [List.mapM_toArray, List.mapM_cons, List.mapM_nil, Sem.run_bind, Sem.run_map, Sem.run_pure, Result.andThen_ok, pure_bind, bind_assoc, map_eq_pure_bind, Try.sizeOf25, Try.sizeOf26, Try.sizeOf3, Try.sizeOf4, Value.cells]
  rw [h]
  rfl⟩
-- 31 []api.Message
instance : One Try.prog 31 := ⟨Try.isAgg31, Try.sizeOf31⟩
instance : ZeroOf Try.prog 31 [.slice none 0 0] := ⟨⟨_, Try.zeroValue31, rfl⟩⟩
instance : SliceOf Try.prog 31 28 13 120 := ⟨Try.underlying31, by kernel_rfl, by decide, ⟨.agg #[.int .i64 0, .int .i64 0, .int .i64 0, .int .i64 0, .int .i64 0, .int .i64 0, .int .i64 0, .bool false, .int .i64 0, .int .i64 0, .int .i64 0, .int .i64 0, .slice none 0 0], by kernel_rfl, rfl⟩⟩
-- 32 api.Errno
instance : One Try.prog 32 := ⟨Try.isAgg32, Try.sizeOf32⟩
instance : ZeroOf Try.prog 32 [.int .i64 0] := ⟨⟨_, Try.zeroValue32, rfl⟩⟩
instance : IntT Try.prog 32 .i64 := ⟨Try.underlying32⟩
-- 33 ([]api.Message, api.Errno)
-- 40 *piece.Joiner
instance : One Try.prog 40 := ⟨Try.isAgg40, Try.sizeOf40⟩
instance : ZeroOf Try.prog 40 [.pointer none] := ⟨⟨_, Try.zeroValue40, rfl⟩⟩
instance : PtrTo Try.prog 40 := ⟨⟨_, Try.underlying40⟩⟩
-- 42 *hauberkref12.Joiner
instance : One Try.prog 42 := ⟨Try.isAgg42, Try.sizeOf42⟩
instance : ZeroOf Try.prog 42 [.pointer none] := ⟨⟨_, Try.zeroValue42, rfl⟩⟩
instance : PtrTo Try.prog 42 := ⟨⟨_, Try.underlying42⟩⟩
-- 44 ([]uint8, bool, api.Errno)
-- 48 []hauberklaw12.Sent
instance : One Try.prog 48 := ⟨Try.isAgg48, Try.sizeOf48⟩
instance : ZeroOf Try.prog 48 [.slice none 0 0] := ⟨⟨_, Try.zeroValue48, rfl⟩⟩
instance : SliceOf Try.prog 48 55 5 56 := ⟨Try.underlying48, by kernel_rfl, by decide, ⟨.agg #[.int .i64 0, .int .i64 0, .int .i64 0, .bool false, .slice none 0 0], by kernel_rfl, rfl⟩⟩
-- 49 []int
instance : One Try.prog 49 := ⟨Try.isAgg49, Try.sizeOf49⟩
instance : ZeroOf Try.prog 49 [.slice none 0 0] := ⟨⟨_, Try.zeroValue49, rfl⟩⟩
instance : SliceOf Try.prog 49 3 1 8 := ⟨Try.underlying49, by kernel_rfl, by decide, ⟨.int .i64 0, by kernel_rfl, rfl⟩⟩
-- 50 [16][]api.Message
instance : Agg Try.prog 50 16 := ⟨Try.isAgg50, Try.sizeOf50⟩
instance : ZeroOf Try.prog 50 [.slice none 0 0, .slice none 0 0, .slice none 0 0, .slice none 0 0, .slice none 0 0, .slice none 0 0, .slice none 0 0, .slice none 0 0, .slice none 0 0, .slice none 0 0, .slice none 0 0, .slice none 0 0, .slice none 0 0, .slice none 0 0, .slice none 0 0, .slice none 0 0] := ⟨⟨_, Try.zeroValue50, rfl⟩⟩
instance : ArrOf Try.prog 50 16 31 1 := ⟨Try.underlying50, Try.sizeOf31⟩
-- 51 [][]uint8
instance : One Try.prog 51 := ⟨Try.isAgg51, Try.sizeOf51⟩
instance : ZeroOf Try.prog 51 [.slice none 0 0] := ⟨⟨_, Try.zeroValue51, rfl⟩⟩
instance : SliceOf Try.prog 51 26 1 24 := ⟨Try.underlying51, by kernel_rfl, by decide, ⟨.slice none 0 0, by kernel_rfl, rfl⟩⟩
-- 52 [16][][]uint8
instance : Agg Try.prog 52 16 := ⟨Try.isAgg52, Try.sizeOf52⟩
instance : ZeroOf Try.prog 52 [.slice none 0 0, .slice none 0 0, .slice none 0 0, .slice none 0 0, .slice none 0 0, .slice none 0 0, .slice none 0 0, .slice none 0 0, .slice none 0 0, .slice none 0 0, .slice none 0 0, .slice none 0 0, .slice none 0 0, .slice none 0 0, .slice none 0 0, .slice none 0 0] := ⟨⟨_, Try.zeroValue52, rfl⟩⟩
instance : ArrOf Try.prog 52 16 51 1 := ⟨Try.underlying52, Try.sizeOf51⟩
-- 55 hauberklaw12.Sent
instance : Agg Try.prog 55 5 := ⟨Try.isAgg55, Try.sizeOf55⟩
instance : ZeroOf Try.prog 55 [.int .i64 0, .int .i64 0, .int .i64 0, .bool false, .slice none 0 0] := ⟨⟨_, Try.zeroValue55, rfl⟩⟩
instance : Fld Try.prog 55 0 0 := ⟨fun _ _ _ => by kernel_rfl⟩
instance : Fld Try.prog 55 1 1 := ⟨fun _ _ _ => by kernel_rfl⟩
instance : Fld Try.prog 55 2 2 := ⟨fun _ _ _ => by kernel_rfl⟩
instance : Fld Try.prog 55 3 3 := ⟨fun _ _ _ => by kernel_rfl⟩
instance : Fld Try.prog 55 4 4 := ⟨fun _ _ _ => by kernel_rfl⟩
instance : Build Try.prog 55 [.int .i64 0, .int .i64 0, .int .i64 0, .bool false, .slice none 0 0] [(0, 1), (1, 1), (2, 1), (3, 1), (4, 1)] := ⟨fun w parts cells h => by
  simp only [Instr.build, Sem.run_bind, Try.zeroValue55, run_underlying Try.underlying55, Result.andThen_ok]
  simp only [List.mapM_toArray, List.mapM_cons, List.mapM_nil, Sem.run_bind, Sem.run_map, Sem.run_pure, Result.andThen_ok, pure_bind, bind_assoc, map_eq_pure_bind, Try.sizeOf26, Try.sizeOf3, Try.sizeOf4, Value.cells]
  rw [h]
  rfl⟩
-- 60 map[piece.sender]piece.way
instance : One Try.prog 60 := ⟨Try.isAgg60, Try.sizeOf60⟩
instance : ZeroOf Try.prog 60 [.map none] := ⟨⟨_, Try.zeroValue60, rfl⟩⟩
-- 62 piece.Joiner
instance : Agg Try.prog 62 1 := ⟨Try.isAgg62, Try.sizeOf62⟩
instance : ZeroOf Try.prog 62 [.map none] := ⟨⟨_, Try.zeroValue62, rfl⟩⟩
instance : Fld Try.prog 62 0 0 := ⟨fun _ _ _ => by kernel_rfl⟩
instance : Build Try.prog 62 [.map none] [(0, 1)] := ⟨fun w parts cells h => by
  simp only [Instr.build, Sem.run_bind, Try.zeroValue62, run_underlying Try.underlying62, Result.andThen_ok]
  simp only [List.mapM_toArray, List.mapM_cons, List.mapM_nil, Sem.run_bind, Sem.run_map, Sem.run_pure, Result.andThen_ok, pure_bind, bind_assoc, map_eq_pure_bind, Try.sizeOf60, Value.cells]
  rw [h]
  rfl⟩
-- 64 *gate.Gate
instance : One Try.prog 64 := ⟨Try.isAgg64, Try.sizeOf64⟩
instance : ZeroOf Try.prog 64 [.pointer none] := ⟨⟨_, Try.zeroValue64, rfl⟩⟩
instance : PtrTo Try.prog 64 := ⟨⟨_, Try.underlying64⟩⟩
-- 65 (*gate.Gate, api.Errno)
-- 67 (api.Message, bool)
-- 70 api.Place
instance : Agg Try.prog 70 4 := ⟨Try.isAgg70, Try.sizeOf70⟩
instance : ZeroOf Try.prog 70 [.int .i64 0, .int .i64 0, .int .i64 0, .int .i64 0] := ⟨⟨_, Try.zeroValue70, rfl⟩⟩
instance : Fld Try.prog 70 0 0 := ⟨fun _ _ _ => by kernel_rfl⟩
instance : Fld Try.prog 70 1 1 := ⟨fun _ _ _ => by kernel_rfl⟩
instance : Fld Try.prog 70 2 3 := ⟨fun _ _ _ => by kernel_rfl⟩
instance : Build Try.prog 70 [.int .i64 0, .int .i64 0, .int .i64 0, .int .i64 0] [(0, 1), (1, 2), (3, 1)] := ⟨fun w parts cells h => by
  simp only [Instr.build, Sem.run_bind, Try.zeroValue70, run_underlying Try.underlying70, Result.andThen_ok]
  simp only [List.mapM_toArray, List.mapM_cons, List.mapM_nil, Sem.run_bind, Sem.run_map, Sem.run_pure, Result.andThen_ok, pure_bind, bind_assoc, map_eq_pure_bind, Try.sizeOf23, Try.sizeOf3, Value.cells]
  rw [h]
  rfl⟩
instance : Eqs Try.prog 70 4 where
  eq := fun x y xs ys w h1 h2 => by
    match xs, ys, h1, h2 with
    | [a, b, c, d], [a', b', c', d'], _, _ =>
      simp [go_sem, Sem.run_bind, run_eqGuard_agg, run_eql_struct, run_neq_struct, run_equalIn_agg, run_equalIn_int, Try.underlying3, Try.underlying23, Try.underlying70, Try.stoodInHeld23, Try.stoodInHeld70, Try.eqGuardType70]
      (repeat' split) <;> simp_all
  ne := fun x y xs ys w h1 h2 => by
    match xs, ys, h1, h2 with
    | [a, b, c, d], [a', b', c', d'], _, _ =>
      simp [go_sem, Sem.run_bind, run_eqGuard_agg, run_eql_struct, run_neq_struct, run_equalIn_agg, run_equalIn_int, Try.underlying3, Try.underlying23, Try.underlying70, Try.stoodInHeld23, Try.stoodInHeld70, Try.eqGuardType70]
      (repeat' split) <;> simp_all
-- 72 api.Item
instance : Agg Try.prog 72 21 := ⟨Try.isAgg72, Try.sizeOf72⟩
instance : ZeroOf Try.prog 72 [.int .i64 0, .int .i64 0, .int .i64 0, .int .i64 0, .int .i64 0, .int .i64 0, .int .i64 0, .int .i64 0, .int .i64 0, .int .i64 0, .int .i64 0, .bool false, .int .i64 0, .int .i64 0, .int .i64 0, .int .i64 0, .slice none 0 0, .int .i64 0, .int .i64 0, .int .i64 0, .int .i64 0] := ⟨⟨_, Try.zeroValue72, rfl⟩⟩
instance : Fld Try.prog 72 0 0 := ⟨fun _ _ _ => by kernel_rfl⟩
instance : Fld Try.prog 72 1 4 := ⟨fun _ _ _ => by kernel_rfl⟩
instance : Fld Try.prog 72 2 17 := ⟨fun _ _ _ => by kernel_rfl⟩
instance : Build Try.prog 72 [.int .i64 0, .int .i64 0, .int .i64 0, .int .i64 0, .int .i64 0, .int .i64 0, .int .i64 0, .int .i64 0, .int .i64 0, .int .i64 0, .int .i64 0, .bool false, .int .i64 0, .int .i64 0, .int .i64 0, .int .i64 0, .slice none 0 0, .int .i64 0, .int .i64 0, .int .i64 0, .int .i64 0] [(0, 4), (4, 13), (17, 4)] := ⟨fun w parts cells h => by
  simp only [Instr.build, Sem.run_bind, Try.zeroValue72, run_underlying Try.underlying72, Result.andThen_ok]
  simp only [List.mapM_toArray, List.mapM_cons, List.mapM_nil, Sem.run_bind, Sem.run_map, Sem.run_pure, Result.andThen_ok, pure_bind, bind_assoc, map_eq_pure_bind, Try.sizeOf25, Try.sizeOf28, Try.sizeOf70, Value.cells]
  rw [h]
  rfl⟩
-- 76 (api.Key, bool)
-- 80 []hauberklaw26.Do
instance : One Try.prog 80 := ⟨Try.isAgg80, Try.sizeOf80⟩
instance : ZeroOf Try.prog 80 [.slice none 0 0] := ⟨⟨_, Try.zeroValue80, rfl⟩⟩
instance : SliceOf Try.prog 80 87 23 216 := ⟨Try.underlying80, by kernel_rfl, by decide, ⟨.agg #[.int .i64 0, .int .i64 0, .int .i64 0, .int .i64 0, .int .i64 0, .int .i64 0, .int .i64 0, .int .i64 0, .int .i64 0, .int .i64 0, .int .i64 0, .int .i64 0, .bool false, .int .i64 0, .int .i64 0, .int .i64 0, .int .i64 0, .slice none 0 0, .int .i64 0, .int .i64 0, .int .i64 0, .int .i64 0, .slice none 0 0], by kernel_rfl, rfl⟩⟩
-- 81 *hauberkref26.Gate
instance : One Try.prog 81 := ⟨Try.isAgg81, Try.sizeOf81⟩
instance : ZeroOf Try.prog 81 [.pointer none] := ⟨⟨_, Try.zeroValue81, rfl⟩⟩
instance : PtrTo Try.prog 81 := ⟨⟨_, Try.underlying81⟩⟩
-- 82 (*hauberkref26.Gate, api.Errno)
-- 85 []api.Place
instance : One Try.prog 85 := ⟨Try.isAgg85, Try.sizeOf85⟩
instance : ZeroOf Try.prog 85 [.slice none 0 0] := ⟨⟨_, Try.zeroValue85, rfl⟩⟩
instance : SliceOf Try.prog 85 70 4 32 := ⟨Try.underlying85, by kernel_rfl, by decide, ⟨.agg #[.int .i64 0, .int .i64 0, .int .i64 0, .int .i64 0], by kernel_rfl, rfl⟩⟩
-- 87 hauberklaw26.Do
instance : Agg Try.prog 87 23 := ⟨Try.isAgg87, Try.sizeOf87⟩
instance : ZeroOf Try.prog 87 [.int .i64 0, .int .i64 0, .int .i64 0, .int .i64 0, .int .i64 0, .int .i64 0, .int .i64 0, .int .i64 0, .int .i64 0, .int .i64 0, .int .i64 0, .int .i64 0, .bool false, .int .i64 0, .int .i64 0, .int .i64 0, .int .i64 0, .slice none 0 0, .int .i64 0, .int .i64 0, .int .i64 0, .int .i64 0, .slice none 0 0] := ⟨⟨_, Try.zeroValue87, rfl⟩⟩
instance : Fld Try.prog 87 0 0 := ⟨fun _ _ _ => by kernel_rfl⟩
instance : Fld Try.prog 87 1 1 := ⟨fun _ _ _ => by kernel_rfl⟩
instance : Fld Try.prog 87 2 22 := ⟨fun _ _ _ => by kernel_rfl⟩
instance : Build Try.prog 87 [.int .i64 0, .int .i64 0, .int .i64 0, .int .i64 0, .int .i64 0, .int .i64 0, .int .i64 0, .int .i64 0, .int .i64 0, .int .i64 0, .int .i64 0, .int .i64 0, .bool false, .int .i64 0, .int .i64 0, .int .i64 0, .int .i64 0, .slice none 0 0, .int .i64 0, .int .i64 0, .int .i64 0, .int .i64 0, .slice none 0 0] [(0, 1), (1, 21), (22, 1)] := ⟨fun w parts cells h => by
  simp only [Instr.build, Sem.run_bind, Try.zeroValue87, run_underlying Try.underlying87, Result.andThen_ok]
  simp only [List.mapM_toArray, List.mapM_cons, List.mapM_nil, Sem.run_bind, Sem.run_map, Sem.run_pure, Result.andThen_ok, pure_bind, bind_assoc, map_eq_pure_bind, Try.sizeOf3, Try.sizeOf72, Try.sizeOf85, Value.cells]
  rw [h]
  rfl⟩
-- 89 (api.Message, api.Errno)
-- 95 gate.Gate
instance : Agg Try.prog 95 13 := ⟨Try.isAgg95, Try.sizeOf95⟩
instance : ZeroOf Try.prog 95 [.int .i64 0, .int .i64 0, .int .i64 0, .int .i64 0, .int .i64 0, .int .i64 0, .int .i64 0, .int .i64 0, .int .i64 0, .int .i64 0, .int .i64 0, .int .i64 0, .int .i64 0] := ⟨⟨_, Try.zeroValue95, rfl⟩⟩
instance : Fld Try.prog 95 0 0 := ⟨fun _ _ _ => by kernel_rfl⟩
instance : Fld Try.prog 95 1 1 := ⟨fun _ _ _ => by kernel_rfl⟩
instance : Fld Try.prog 95 2 5 := ⟨fun _ _ _ => by kernel_rfl⟩
instance : Fld Try.prog 95 3 9 := ⟨fun _ _ _ => by kernel_rfl⟩
instance : Build Try.prog 95 [.int .i64 0, .int .i64 0, .int .i64 0, .int .i64 0, .int .i64 0, .int .i64 0, .int .i64 0, .int .i64 0, .int .i64 0, .int .i64 0, .int .i64 0, .int .i64 0, .int .i64 0] [(0, 1), (1, 4), (5, 4), (9, 4)] := ⟨fun w parts cells h => by
  simp only [Instr.build, Sem.run_bind, Try.zeroValue95, run_underlying Try.underlying95, Result.andThen_ok]
  simp only [List.mapM_toArray, List.mapM_cons, List.mapM_nil, Sem.run_bind, Sem.run_map, Sem.run_pure, Result.andThen_ok, pure_bind, bind_assoc, map_eq_pure_bind, Try.sizeOf25, Try.sizeOf3, Value.cells]
  rw [h]
  rfl⟩
-- 96 [][]api.Message
instance : One Try.prog 96 := ⟨Try.isAgg96, Try.sizeOf96⟩
instance : ZeroOf Try.prog 96 [.slice none 0 0] := ⟨⟨_, Try.zeroValue96, rfl⟩⟩
instance : SliceOf Try.prog 96 31 1 24 := ⟨Try.underlying96, by kernel_rfl, by decide, ⟨.slice none 0 0, by kernel_rfl, rfl⟩⟩
-- 98 hauberkref12.Joiner
instance : Agg Try.prog 98 1 := ⟨Try.isAgg98, Try.sizeOf98⟩
instance : ZeroOf Try.prog 98 [.slice none 0 0] := ⟨⟨_, Try.zeroValue98, rfl⟩⟩
instance : Fld Try.prog 98 0 0 := ⟨fun _ _ _ => by kernel_rfl⟩
instance : Build Try.prog 98 [.slice none 0 0] [(0, 1)] := ⟨fun w parts cells h => by
  simp only [Instr.build, Sem.run_bind, Try.zeroValue98, run_underlying Try.underlying98, Result.andThen_ok]
  simp only [List.mapM_toArray, List.mapM_cons, List.mapM_nil, Sem.run_bind, Sem.run_map, Sem.run_pure, Result.andThen_ok, pure_bind, bind_assoc, map_eq_pure_bind, Try.sizeOf96, Value.cells]
  rw [h]
  rfl⟩
-- 100 piece.sender
instance : Agg Try.prog 100 2 := ⟨Try.isAgg100, Try.sizeOf100⟩
instance : ZeroOf Try.prog 100 [.int .i64 0, .int .i64 0] := ⟨⟨_, Try.zeroValue100, rfl⟩⟩
instance : Fld Try.prog 100 0 0 := ⟨fun _ _ _ => by kernel_rfl⟩
instance : Fld Try.prog 100 1 1 := ⟨fun _ _ _ => by kernel_rfl⟩
instance : Build Try.prog 100 [.int .i64 0, .int .i64 0] [(0, 1), (1, 1)] := ⟨fun w parts cells h => by
  simp only [Instr.build, Sem.run_bind, Try.zeroValue100, run_underlying Try.underlying100, Result.andThen_ok]
  simp only [List.mapM_toArray, List.mapM_cons, List.mapM_nil, Sem.run_bind, Sem.run_map, Sem.run_pure, Result.andThen_ok, pure_bind, bind_assoc, map_eq_pure_bind, Try.sizeOf3, Value.cells]
  rw [h]
  rfl⟩
instance : Eqs Try.prog 100 2 where
  eq := fun x y xs ys w h1 h2 => by
    match xs, ys, h1, h2 with
    | [a, b], [a', b'], _, _ =>
      simp [go_sem, Sem.run_bind, run_eqGuard_agg, run_eql_struct, run_neq_struct, run_equalIn_agg, run_equalIn_int, Try.underlying3, Try.underlying100, Try.stoodInHeld100, Try.eqGuardType100]
      (repeat' split) <;> simp_all
  ne := fun x y xs ys w h1 h2 => by
    match xs, ys, h1, h2 with
    | [a, b], [a', b'], _, _ =>
      simp [go_sem, Sem.run_bind, run_eqGuard_agg, run_eql_struct, run_neq_struct, run_equalIn_agg, run_equalIn_int, Try.underlying3, Try.underlying100, Try.stoodInHeld100, Try.eqGuardType100]
      (repeat' split) <;> simp_all
-- 102 piece.way
instance : Agg Try.prog 102 14 := ⟨Try.isAgg102, Try.sizeOf102⟩
instance : ZeroOf Try.prog 102 [.int .i64 0, .int .i64 0, .int .i64 0, .int .i64 0, .int .i64 0, .int .i64 0, .int .i64 0, .bool false, .int .i64 0, .int .i64 0, .int .i64 0, .int .i64 0, .slice none 0 0, .slice none 0 0] := ⟨⟨_, Try.zeroValue102, rfl⟩⟩
instance : Fld Try.prog 102 0 0 := ⟨fun _ _ _ => by kernel_rfl⟩
instance : Fld Try.prog 102 1 13 := ⟨fun _ _ _ => by kernel_rfl⟩
instance : Build Try.prog 102 [.int .i64 0, .int .i64 0, .int .i64 0, .int .i64 0, .int .i64 0, .int .i64 0, .int .i64 0, .bool false, .int .i64 0, .int .i64 0, .int .i64 0, .int .i64 0, .slice none 0 0, .slice none 0 0] [(0, 13), (13, 1)] := ⟨fun w parts cells h => by
  simp only [Instr.build, Sem.run_bind, Try.zeroValue102, run_underlying Try.underlying102, Result.andThen_ok]
  simp only [List.mapM_toArray, List.mapM_cons, List.mapM_nil, Sem.run_bind, Sem.run_map, Sem.run_pure, Result.andThen_ok, pure_bind, bind_assoc, map_eq_pure_bind, Try.sizeOf26, Try.sizeOf28, Value.cells]
  rw [h]
  rfl⟩
-- 103 (piece.way, bool)
-- 111 hauberkref26.Gate
instance : Agg Try.prog 111 13 := ⟨Try.isAgg111, Try.sizeOf111⟩
instance : ZeroOf Try.prog 111 [.int .i64 0, .int .i64 0, .int .i64 0, .int .i64 0, .int .i64 0, .int .i64 0, .int .i64 0, .int .i64 0, .int .i64 0, .int .i64 0, .int .i64 0, .int .i64 0, .int .i64 0] := ⟨⟨_, Try.zeroValue111, rfl⟩⟩
instance : Fld Try.prog 111 0 0 := ⟨fun _ _ _ => by kernel_rfl⟩
instance : Fld Try.prog 111 1 1 := ⟨fun _ _ _ => by kernel_rfl⟩
instance : Fld Try.prog 111 2 5 := ⟨fun _ _ _ => by kernel_rfl⟩
instance : Fld Try.prog 111 3 9 := ⟨fun _ _ _ => by kernel_rfl⟩
instance : Build Try.prog 111 [.int .i64 0, .int .i64 0, .int .i64 0, .int .i64 0, .int .i64 0, .int .i64 0, .int .i64 0, .int .i64 0, .int .i64 0, .int .i64 0, .int .i64 0, .int .i64 0, .int .i64 0] [(0, 1), (1, 4), (5, 4), (9, 4)] := ⟨fun w parts cells h => by
  simp only [Instr.build, Sem.run_bind, Try.zeroValue111, run_underlying Try.underlying111, Result.andThen_ok]
  simp only [List.mapM_toArray, List.mapM_cons, List.mapM_nil, Sem.run_bind, Sem.run_map, Sem.run_pure, Result.andThen_ok, pure_bind, bind_assoc, map_eq_pure_bind, Try.sizeOf25, Try.sizeOf3, Value.cells]
  rw [h]
  rfl⟩
-- 114 ([]uint8, api.Errno)
-- 116 parcel.rule
instance : One Try.prog 116 := ⟨Try.isAgg116, Try.sizeOf116⟩
instance : ZeroOf Try.prog 116 [.nilFunc] := ⟨⟨_, Try.zeroValue116, rfl⟩⟩
-- 117 (parcel.rule, bool)
-- 118 map[int]parcel.rule
instance : One Try.prog 118 := ⟨Try.isAgg118, Try.sizeOf118⟩
instance : ZeroOf Try.prog 118 [.map none] := ⟨⟨_, Try.zeroValue118, rfl⟩⟩
-- 126 func(api.Place) bool
instance : One Try.prog 126 := ⟨Try.isAgg126, Try.sizeOf126⟩
instance : ZeroOf Try.prog 126 [.nilFunc] := ⟨⟨_, Try.zeroValue126, rfl⟩⟩
-- 127 *word.Writer
instance : One Try.prog 127 := ⟨Try.isAgg127, Try.sizeOf127⟩
instance : ZeroOf Try.prog 127 [.pointer none] := ⟨⟨_, Try.zeroValue127, rfl⟩⟩
instance : PtrTo Try.prog 127 := ⟨⟨_, Try.underlying127⟩⟩
-- 131 ([]api.Place, api.Errno)
-- 134 *hauberkref01.Writer
instance : One Try.prog 134 := ⟨Try.isAgg134, Try.sizeOf134⟩
instance : ZeroOf Try.prog 134 [.pointer none] := ⟨⟨_, Try.zeroValue134, rfl⟩⟩
instance : PtrTo Try.prog 134 := ⟨⟨_, Try.underlying134⟩⟩
-- 139 word.Writer
instance : Agg Try.prog 139 2 := ⟨Try.isAgg139, Try.sizeOf139⟩
instance : ZeroOf Try.prog 139 [.slice none 0 0, .bool false] := ⟨⟨_, Try.zeroValue139, rfl⟩⟩
instance : Fld Try.prog 139 0 0 := ⟨fun _ _ _ => by kernel_rfl⟩
instance : Fld Try.prog 139 1 1 := ⟨fun _ _ _ => by kernel_rfl⟩
instance : Build Try.prog 139 [.slice none 0 0, .bool false] [(0, 1), (1, 1)] := ⟨fun w parts cells h => by
  simp only [Instr.build, Sem.run_bind, Try.zeroValue139, run_underlying Try.underlying139, Result.andThen_ok]
  simp only [List.mapM_toArray, List.mapM_cons, List.mapM_nil, Sem.run_bind, Sem.run_map, Sem.run_pure, Result.andThen_ok, pure_bind, bind_assoc, map_eq_pure_bind, Try.sizeOf26, Try.sizeOf4, Value.cells]
  rw [h]
  rfl⟩
-- 140 *hauberkref01.Reader
instance : One Try.prog 140 := ⟨Try.isAgg140, Try.sizeOf140⟩
instance : ZeroOf Try.prog 140 [.pointer none] := ⟨⟨_, Try.zeroValue140, rfl⟩⟩
instance : PtrTo Try.prog 140 := ⟨⟨_, Try.underlying140⟩⟩
-- 142 (int, api.Errno)
-- 144 [4]int
instance : Agg Try.prog 144 4 := ⟨Try.isAgg144, Try.sizeOf144⟩
instance : ZeroOf Try.prog 144 [.int .i64 0, .int .i64 0, .int .i64 0, .int .i64 0] := ⟨⟨_, Try.zeroValue144, rfl⟩⟩
instance : ArrOf Try.prog 144 4 3 1 := ⟨Try.underlying144, Try.sizeOf3⟩
-- 145 [12]int
instance : Agg Try.prog 145 12 := ⟨Try.isAgg145, Try.sizeOf145⟩
instance : ZeroOf Try.prog 145 [.int .i64 0, .int .i64 0, .int .i64 0, .int .i64 0, .int .i64 0, .int .i64 0, .int .i64 0, .int .i64 0, .int .i64 0, .int .i64 0, .int .i64 0, .int .i64 0] := ⟨⟨_, Try.zeroValue145, rfl⟩⟩
instance : ArrOf Try.prog 145 12 3 1 := ⟨Try.underlying145, Try.sizeOf3⟩
-- 148 hauberkref01.Writer
instance : Agg Try.prog 148 1 := ⟨Try.isAgg148, Try.sizeOf148⟩
instance : ZeroOf Try.prog 148 [.slice none 0 0] := ⟨⟨_, Try.zeroValue148, rfl⟩⟩
instance : Fld Try.prog 148 0 0 := ⟨fun _ _ _ => by kernel_rfl⟩
instance : Build Try.prog 148 [.slice none 0 0] [(0, 1)] := ⟨fun w parts cells h => by
  simp only [Instr.build, Sem.run_bind, Try.zeroValue148, run_underlying Try.underlying148, Result.andThen_ok]
  simp only [List.mapM_toArray, List.mapM_cons, List.mapM_nil, Sem.run_bind, Sem.run_map, Sem.run_pure, Result.andThen_ok, pure_bind, bind_assoc, map_eq_pure_bind, Try.sizeOf26, Value.cells]
  rw [h]
  rfl⟩
-- 149 uint64
instance : One Try.prog 149 := ⟨Try.isAgg149, Try.sizeOf149⟩
instance : ZeroOf Try.prog 149 [.int .u64 0] := ⟨⟨_, Try.zeroValue149, rfl⟩⟩
instance : IntT Try.prog 149 .u64 := ⟨Try.underlying149⟩
-- 150 uint
instance : One Try.prog 150 := ⟨Try.isAgg150, Try.sizeOf150⟩
instance : ZeroOf Try.prog 150 [.int .u64 0] := ⟨⟨_, Try.zeroValue150, rfl⟩⟩
instance : IntT Try.prog 150 .u64 := ⟨Try.underlying150⟩
-- 151 *word.Reader
instance : One Try.prog 151 := ⟨Try.isAgg151, Try.sizeOf151⟩
instance : ZeroOf Try.prog 151 [.pointer none] := ⟨⟨_, Try.zeroValue151, rfl⟩⟩
instance : PtrTo Try.prog 151 := ⟨⟨_, Try.underlying151⟩⟩
-- 153 *api.Place
instance : One Try.prog 153 := ⟨Try.isAgg153, Try.sizeOf153⟩
instance : ZeroOf Try.prog 153 [.pointer none] := ⟨⟨_, Try.zeroValue153, rfl⟩⟩
instance : PtrTo Try.prog 153 := ⟨⟨_, Try.underlying153⟩⟩
-- 155 *int
instance : One Try.prog 155 := ⟨Try.isAgg155, Try.sizeOf155⟩
instance : ZeroOf Try.prog 155 [.pointer none] := ⟨⟨_, Try.zeroValue155, rfl⟩⟩
instance : PtrTo Try.prog 155 := ⟨⟨_, Try.underlying155⟩⟩
-- 156 hauberkref01.Reader
instance : Agg Try.prog 156 1 := ⟨Try.isAgg156, Try.sizeOf156⟩
instance : ZeroOf Try.prog 156 [.slice none 0 0] := ⟨⟨_, Try.zeroValue156, rfl⟩⟩
instance : Fld Try.prog 156 0 0 := ⟨fun _ _ _ => by kernel_rfl⟩
instance : Build Try.prog 156 [.slice none 0 0] [(0, 1)] := ⟨fun w parts cells h => by
  simp only [Instr.build, Sem.run_bind, Try.zeroValue156, run_underlying Try.underlying156, Result.andThen_ok]
  simp only [List.mapM_toArray, List.mapM_cons, List.mapM_nil, Sem.run_bind, Sem.run_map, Sem.run_pure, Result.andThen_ok, pure_bind, bind_assoc, map_eq_pure_bind, Try.sizeOf26, Value.cells]
  rw [h]
  rfl⟩
-- 157 (int, int, api.Errno)
-- 159 word.Reader
instance : Agg Try.prog 159 2 := ⟨Try.isAgg159, Try.sizeOf159⟩
instance : ZeroOf Try.prog 159 [.slice none 0 0, .bool false] := ⟨⟨_, Try.zeroValue159, rfl⟩⟩
instance : Fld Try.prog 159 0 0 := ⟨fun _ _ _ => by kernel_rfl⟩
instance : Fld Try.prog 159 1 1 := ⟨fun _ _ _ => by kernel_rfl⟩
instance : Build Try.prog 159 [.slice none 0 0, .bool false] [(0, 1), (1, 1)] := ⟨fun w parts cells h => by
  simp only [Instr.build, Sem.run_bind, Try.zeroValue159, run_underlying Try.underlying159, Result.andThen_ok]
  simp only [List.mapM_toArray, List.mapM_cons, List.mapM_nil, Sem.run_bind, Sem.run_map, Sem.run_pure, Result.andThen_ok, pure_bind, bind_assoc, map_eq_pure_bind, Try.sizeOf26, Try.sizeOf4, Value.cells]
  rw [h]
  rfl⟩
-- 160 []*int
instance : One Try.prog 160 := ⟨Try.isAgg160, Try.sizeOf160⟩
instance : ZeroOf Try.prog 160 [.slice none 0 0] := ⟨⟨_, Try.zeroValue160, rfl⟩⟩
instance : SliceOf Try.prog 160 155 1 8 := ⟨Try.underlying160, by kernel_rfl, by decide, ⟨.pointer none, by kernel_rfl, rfl⟩⟩
end Go.Proofs.Ytphcnaafhcfakaa
