/-
  Facts on the types and the functions of this seat's translation, written by a program of ours (tys.py). Conditions: none.
-/
import Derived.Test.YtomlgnncncjmaaaRows
import Derived.Test.YtomlgnncncjmaaaHb11
namespace Go.Proofs.Ytomlgnncncjmaaa
open Go.Hb
set_option linter.unusedSimpArgs false
instance : Mixed Try.prog := ⟨by kernel_rfl⟩
instance : Own Try.prog 3 := ⟨Try.call3⟩
instance : Own Try.prog 4 := ⟨Try.call4⟩
instance : Own Try.prog 5 := ⟨Try.call5⟩
instance : Own Try.prog 6 := ⟨Try.call6⟩
instance : Own Try.prog 7 := ⟨Try.call7⟩
instance : Own Try.prog 8 := ⟨Try.call8⟩
instance : Own Try.prog 9 := ⟨Try.call9⟩
instance : Own Try.prog 10 := ⟨Try.call10⟩
instance : Own Try.prog 11 := ⟨Try.call11⟩
instance : Own Try.prog 12 := ⟨Try.call12⟩
instance : Own Try.prog 13 := ⟨Try.call13⟩
instance : Own Try.prog 14 := ⟨Try.call14⟩
instance : Own Try.prog 15 := ⟨Try.call15⟩
instance : Own Try.prog 16 := ⟨Try.call16⟩
instance : Own Try.prog 17 := ⟨Try.call17⟩
instance : Own Try.prog 18 := ⟨Try.call18⟩
instance : Own Try.prog 19 := ⟨Try.call19⟩
instance : Own Try.prog 20 := ⟨Try.call20⟩
instance : Own Try.prog 21 := ⟨Try.call21⟩
instance : Own Try.prog 22 := ⟨Try.call22⟩
instance : Own Try.prog 23 := ⟨Try.call23⟩
instance : Own Try.prog 24 := ⟨Try.call24⟩
instance : Own Try.prog 25 := ⟨Try.call25⟩
instance : Own Try.prog 26 := ⟨Try.call26⟩
instance : Own Try.prog 27 := ⟨Try.call27⟩
instance : Own Try.prog 28 := ⟨Try.call28⟩
instance : Own Try.prog 29 := ⟨Try.call29⟩
instance : Own Try.prog 30 := ⟨Try.call30⟩
instance : Own Try.prog 31 := ⟨Try.call31⟩
instance : Own Try.prog 32 := ⟨Try.call32⟩
instance : Own Try.prog 33 := ⟨Try.call33⟩
instance : Own Try.prog 34 := ⟨Try.call34⟩
instance : Own Try.prog 35 := ⟨Try.call35⟩
instance : Own Try.prog 36 := ⟨Try.call36⟩
instance : Own Try.prog 37 := ⟨Try.call37⟩
instance : Own Try.prog 38 := ⟨Try.call38⟩
instance : Own Try.prog 39 := ⟨Try.call39⟩
instance : Own Try.prog 40 := ⟨Try.call40⟩
instance : Own Try.prog 41 := ⟨Try.call41⟩
instance : Own Try.prog 42 := ⟨Try.call42⟩
instance : Own Try.prog 43 := ⟨Try.call43⟩
instance : Own Try.prog 44 := ⟨Try.call44⟩
instance : Own Try.prog 45 := ⟨Try.call45⟩
instance : Own Try.prog 46 := ⟨Try.call46⟩
instance : Own Try.prog 47 := ⟨Try.call47⟩
instance : Own Try.prog 48 := ⟨Try.call48⟩
instance : Own Try.prog 49 := ⟨Try.call49⟩
instance : Own Try.prog 50 := ⟨Try.call50⟩
instance : Own Try.prog 51 := ⟨Try.call51⟩
instance : Own Try.prog 52 := ⟨Try.call52⟩
instance : Own Try.prog 53 := ⟨Try.call53⟩
instance : Own Try.prog 54 := ⟨Try.call54⟩
instance : Own Try.prog 55 := ⟨Try.call55⟩
instance : Own Try.prog 56 := ⟨Try.call56⟩
instance : Own Try.prog 57 := ⟨Try.call57⟩
instance : Own Try.prog 58 := ⟨Try.call58⟩
instance : Own Try.prog 59 := ⟨Try.call59⟩
instance : Own Try.prog 60 := ⟨Try.call60⟩
instance : Own Try.prog 61 := ⟨Try.call61⟩
instance : Own Try.prog 62 := ⟨Try.call62⟩
instance : Own Try.prog 63 := ⟨Try.call63⟩
instance : Own Try.prog 64 := ⟨Try.call64⟩
instance : Own Try.prog 65 := ⟨Try.call65⟩
instance : Own Try.prog 66 := ⟨Try.call66⟩
instance : Own Try.prog 67 := ⟨Try.call67⟩
instance : Own Try.prog 68 := ⟨Try.call68⟩
instance : Own Try.prog 69 := ⟨Try.call69⟩
instance : Own Try.prog 70 := ⟨Try.call70⟩
instance : Own Try.prog 71 := ⟨Try.call71⟩
instance : Own Try.prog 72 := ⟨Try.call72⟩
instance : Own Try.prog 73 := ⟨Try.call73⟩
instance : Own Try.prog 74 := ⟨Try.call74⟩
instance : Own Try.prog 75 := ⟨Try.call75⟩
instance : Own Try.prog 76 := ⟨Try.call76⟩
instance : Own Try.prog 77 := ⟨Try.call77⟩
instance : Own Try.prog 78 := ⟨Try.call78⟩
instance : Own Try.prog 79 := ⟨Try.call79⟩
instance : Own Try.prog 80 := ⟨Try.call80⟩
instance : Own Try.prog 81 := ⟨Try.call81⟩
instance : Own Try.prog 82 := ⟨Try.call82⟩
instance : Own Try.prog 83 := ⟨Try.call83⟩
instance : Own Try.prog 84 := ⟨Try.call84⟩
instance : Own Try.prog 85 := ⟨Try.call85⟩
instance : Own Try.prog 86 := ⟨Try.call86⟩
instance : Own Try.prog 87 := ⟨Try.call87⟩
instance : Own Try.prog 88 := ⟨Try.call88⟩
instance : Own Try.prog 89 := ⟨Try.call89⟩
instance : Own Try.prog 90 := ⟨Try.call90⟩
instance : Own Try.prog 91 := ⟨Try.call91⟩
instance : Own Try.prog 92 := ⟨Try.call92⟩
instance : Own Try.prog 93 := ⟨Try.call93⟩
instance : Own Try.prog 94 := ⟨Try.call94⟩
instance : Own Try.prog 95 := ⟨Try.call95⟩
instance : Own Try.prog 96 := ⟨Try.call96⟩
instance : Own Try.prog 97 := ⟨Try.call97⟩
instance : Own Try.prog 98 := ⟨Try.call98⟩
instance : Own Try.prog 99 := ⟨Try.call99⟩
instance : Own Try.prog 100 := ⟨Try.call100⟩
instance : Own Try.prog 101 := ⟨Try.call101⟩
instance : Own Try.prog 102 := ⟨Try.call102⟩
instance : Own Try.prog 103 := ⟨Try.call103⟩
-- 0 ()
-- 3 int
instance : One Try.prog 3 := ⟨Try.isAgg3, Try.sizeOf3⟩
instance : ZeroOf Try.prog 3 [.int .i64 0] := ⟨⟨_, Try.zeroValue3, rfl⟩⟩
instance : IntT Try.prog 3 .i64 := ⟨Try.underlying3⟩
-- 4 bool
instance : One Try.prog 4 := ⟨Try.isAgg4, Try.sizeOf4⟩
instance : ZeroOf Try.prog 4 [.bool false] := ⟨⟨_, Try.zeroValue4, rfl⟩⟩
instance : Bools Try.prog 4 := ⟨Try.underlying4⟩
-- 5 uint8
instance : One Try.prog 5 := ⟨Try.isAgg5, Try.sizeOf5⟩
instance : ZeroOf Try.prog 5 [.int .u8 0] := ⟨⟨_, Try.zeroValue5, rfl⟩⟩
instance : IntT Try.prog 5 .u8 := ⟨Try.underlying5⟩
-- 23 api.RingId
instance : Agg Try.prog 23 2 := ⟨Try.isAgg23, Try.sizeOf23⟩
instance : ZeroOf Try.prog 23 [.int .i64 0, .int .i64 0] := ⟨⟨_, Try.zeroValue23, rfl⟩⟩
instance : Fld Try.prog 23 0 0 := ⟨fun _ _ _ => by kernel_rfl⟩
instance : Fld Try.prog 23 1 1 := ⟨fun _ _ _ => by kernel_rfl⟩
instance : Build Try.prog 23 [.int .i64 0, .int .i64 0] [(0, 1), (1, 1)] := ⟨fun w parts cells h => by
  simp only [Instr.build, Sem.run_bind, Try.zeroValue23, run_underlying Try.underlying23, Result.andThen_ok]
  simp only [List.mapM_toArray, List.mapM_cons, List.mapM_nil, Sem.run_bind, Sem.run_map, Sem.run_pure, Result.andThen_ok, pure_bind, bind_assoc, map_eq_pure_bind, Try.sizeOf3, Value.cells]
  rw [h]
  rfl⟩
instance : Eqs Try.prog 23 2 where
  eq := fun x y xs ys w h1 h2 => by
    match xs, ys, h1, h2 with
    | [a, b], [a', b'], _, _ =>
      simp [go_sem, Sem.run_bind, run_eqGuard_agg, run_eql_struct, run_neq_struct, run_equalIn_agg, run_equalIn_int, Try.underlying3, Try.underlying23, Try.stoodInHeld23, Try.eqGuardType23]
      (repeat' split) <;> simp_all
  ne := fun x y xs ys w h1 h2 => by
    match xs, ys, h1, h2 with
    | [a, b], [a', b'], _, _ =>
      simp [go_sem, Sem.run_bind, run_eqGuard_agg, run_eql_struct, run_neq_struct, run_equalIn_agg, run_equalIn_int, Try.underlying3, Try.underlying23, Try.stoodInHeld23, Try.eqGuardType23]
      (repeat' split) <;> simp_all
-- 25 api.Key
instance : Agg Try.prog 25 4 := ⟨Try.isAgg25, Try.sizeOf25⟩
instance : ZeroOf Try.prog 25 [.int .i64 0, .int .i64 0, .int .i64 0, .int .i64 0] := ⟨⟨_, Try.zeroValue25, rfl⟩⟩
instance : Fld Try.prog 25 0 0 := ⟨fun _ _ _ => by kernel_rfl⟩
instance : Fld Try.prog 25 1 1 := ⟨fun _ _ _ => by kernel_rfl⟩
instance : Fld Try.prog 25 2 3 := ⟨fun _ _ _ => by kernel_rfl⟩
instance : Build Try.prog 25 [.int .i64 0, .int .i64 0, .int .i64 0, .int .i64 0] [(0, 1), (1, 2), (3, 1)] := ⟨fun w parts cells h => by
  simp only [Instr.build, Sem.run_bind, Try.zeroValue25, run_underlying Try.underlying25, Result.andThen_ok]
  simp only [List.mapM_toArray, List.mapM_cons, List.mapM_nil, Sem.run_bind, Sem.run_map, Sem.run_pure, Result.andThen_ok, pure_bind, bind_assoc, map_eq_pure_bind, Try.sizeOf23, Try.sizeOf3, Value.cells]
  rw [h]
  rfl⟩
instance : Eqs Try.prog 25 4 where
  eq := fun x y xs ys w h1 h2 => by
    match xs, ys, h1, h2 with
    | [a, b, c, d], [a', b', c', d'], _, _ =>
      simp [go_sem, Sem.run_bind, run_eqGuard_agg, run_eql_struct, run_neq_struct, run_equalIn_agg, run_equalIn_int, Try.underlying3, Try.underlying23, Try.underlying25, Try.stoodInHeld23, Try.stoodInHeld25, Try.eqGuardType25]
      (repeat' split) <;> simp_all
  ne := fun x y xs ys w h1 h2 => by
    match xs, ys, h1, h2 with
    | [a, b, c, d], [a', b', c', d'], _, _ =>
      simp [go_sem, Sem.run_bind, run_eqGuard_agg, run_eql_struct, run_neq_struct, run_equalIn_agg, run_equalIn_int, Try.underlying3, Try.underlying23, Try.underlying25, Try.stoodInHeld23, Try.stoodInHeld25, Try.eqGuardType25]
      (repeat' split) <;> simp_all
-- 26 []uint8
instance : One Try.prog 26 := ⟨Try.isAgg26, Try.sizeOf26⟩
instance : ZeroOf Try.prog 26 [.slice none 0 0] := ⟨⟨_, Try.zeroValue26, rfl⟩⟩
instance : SliceOf Try.prog 26 5 1 1 := ⟨Try.underlying26, by kernel_rfl, by decide, ⟨.int .u8 0, by kernel_rfl, rfl⟩⟩
-- 28 api.Message
instance : Agg Try.prog 28 13 := ⟨Try.isAgg28, Try.sizeOf28⟩
instance : ZeroOf Try.prog 28 [.int .i64 0, .int .i64 0, .int .i64 0, .int .i64 0, .int .i64 0, .int .i64 0, .int .i64 0, .bool false, .int .i64 0, .int .i64 0, .int .i64 0, .int .i64 0, .slice none 0 0] := ⟨⟨_, Try.zeroValue28, rfl⟩⟩
instance : Fld Try.prog 28 0 0 := ⟨fun _ _ _ => by kernel_rfl⟩
instance : Fld Try.prog 28 1 1 := ⟨fun _ _ _ => by kernel_rfl⟩
instance : Fld Try.prog 28 2 2 := ⟨fun _ _ _ => by kernel_rfl⟩
instance : Fld Try.prog 28 3 3 := ⟨fun _ _ _ => by kernel_rfl⟩
instance : Fld Try.prog 28 4 4 := ⟨fun _ _ _ => by kernel_rfl⟩
instance : Fld Try.prog 28 5 5 := ⟨fun _ _ _ => by kernel_rfl⟩
instance : Fld Try.prog 28 6 6 := ⟨fun _ _ _ => by kernel_rfl⟩
instance : Fld Try.prog 28 7 7 := ⟨fun _ _ _ => by kernel_rfl⟩
instance : Fld Try.prog 28 8 8 := ⟨fun _ _ _ => by kernel_rfl⟩
instance : Fld Try.prog 28 9 12 := ⟨fun _ _ _ => by kernel_rfl⟩
instance : Build Try.prog 28 [.int .i64 0, .int .i64 0, .int .i64 0, .int .i64 0, .int .i64 0, .int .i64 0, .int .i64 0, .bool false, .int .i64 0, .int .i64 0, .int .i64 0, .int .i64 0, .slice none 0 0] [(0, 1), (1, 1), (2, 1), (3, 1), (4, 1), (5, 1), (6, 1), (7, 1), (8, 4), (12, 1)] := ⟨fun w parts cells h => by
  simp only [Instr.build, Sem.run_bind, Try.zeroValue28, run_underlying Try.underlying28, Result.andThen_ok]
  simp only [List.mapM_toArray, List.mapM_cons, List.mapM_nil, Sem.run_bind, Sem.run_map, Sem.run_pure, Result.andThen_ok, pure_bind, bind_assoc, map_eq_pure_bind, Try.sizeOf25, Try.sizeOf26, Try.sizeOf3, Try.sizeOf4, Value.cells]
  rw [h]
  rfl⟩
-- 30 api.Errno
instance : One Try.prog 30 := ⟨Try.isAgg30, Try.sizeOf30⟩
instance : ZeroOf Try.prog 30 [.int .i64 0] := ⟨⟨_, Try.zeroValue30, rfl⟩⟩
instance : IntT Try.prog 30 .i64 := ⟨Try.underlying30⟩
-- 31 ([]uint8, api.Errno)
-- 39 (api.Message, api.Errno)
-- 41 []api.Place
instance : One Try.prog 41 := ⟨Try.isAgg41, Try.sizeOf41⟩
instance : ZeroOf Try.prog 41 [.slice none 0 0] := ⟨⟨_, Try.zeroValue41, rfl⟩⟩
instance : SliceOf Try.prog 41 57 4 32 := ⟨Try.underlying41, by kernel_rfl, by decide, ⟨.agg #[.int .i64 0, .int .i64 0, .int .i64 0, .int .i64 0], by kernel_rfl, rfl⟩⟩
-- 42 ([]api.Place, api.Errno)
-- 50 api.Data
instance : Agg Try.prog 50 18 := ⟨Try.isAgg50, Try.sizeOf50⟩
instance : ZeroOf Try.prog 50 [.int .i64 0, .int .i64 0, .int .i64 0, .int .i64 0, .int .i64 0, .int .i64 0, .int .i64 0, .int .i64 0, .int .i64 0, .int .i64 0, .int .i64 0, .int .i64 0, .bool false, .int .i64 0, .int .i64 0, .int .i64 0, .int .i64 0, .slice none 0 0] := ⟨⟨_, Try.zeroValue50, rfl⟩⟩
instance : Fld Try.prog 50 0 0 := ⟨fun _ _ _ => by kernel_rfl⟩
instance : Fld Try.prog 50 1 2 := ⟨fun _ _ _ => by kernel_rfl⟩
instance : Fld Try.prog 50 2 3 := ⟨fun _ _ _ => by kernel_rfl⟩
instance : Fld Try.prog 50 3 4 := ⟨fun _ _ _ => by kernel_rfl⟩
instance : Fld Try.prog 50 4 5 := ⟨fun _ _ _ => by kernel_rfl⟩
instance : Build Try.prog 50 [.int .i64 0, .int .i64 0, .int .i64 0, .int .i64 0, .int .i64 0, .int .i64 0, .int .i64 0, .int .i64 0, .int .i64 0, .int .i64 0, .int .i64 0, .int .i64 0, .bool false, .int .i64 0, .int .i64 0, .int .i64 0, .int .i64 0, .slice none 0 0] [(0, 2), (2, 1), (3, 1), (4, 1), (5, 13)] := ⟨fun w parts cells h => by
  simp only [Instr.build, Sem.run_bind, Try.zeroValue50, run_underlying Try.underlying50, Result.andThen_ok]
  simp only [List.mapM_toArray, List.mapM_cons, List.mapM_nil, Sem.run_bind, Sem.run_map, Sem.run_pure, Result.andThen_ok, pure_bind, bind_assoc, map_eq_pure_bind, Try.sizeOf23, Try.sizeOf28, Try.sizeOf3, Value.cells]
  rw [h]
  rfl⟩
-- 53 (api.Data, api.Errno)
-- 57 api.Place
instance : Agg Try.prog 57 4 := ⟨Try.isAgg57, Try.sizeOf57⟩
instance : ZeroOf Try.prog 57 [.int .i64 0, .int .i64 0, .int .i64 0, .int .i64 0] := ⟨⟨_, Try.zeroValue57, rfl⟩⟩
instance : Fld Try.prog 57 0 0 := ⟨fun _ _ _ => by kernel_rfl⟩
instance : Fld Try.prog 57 1 1 := ⟨fun _ _ _ => by kernel_rfl⟩
instance : Fld Try.prog 57 2 3 := ⟨fun _ _ _ => by kernel_rfl⟩
instance : Build Try.prog 57 [.int .i64 0, .int .i64 0, .int .i64 0, .int .i64 0] [(0, 1), (1, 2), (3, 1)] := ⟨fun w parts cells h => by
  simp only [Instr.build, Sem.run_bind, Try.zeroValue57, run_underlying Try.underlying57, Result.andThen_ok]
  simp only [List.mapM_toArray, List.mapM_cons, List.mapM_nil, Sem.run_bind, Sem.run_map, Sem.run_pure, Result.andThen_ok, pure_bind, bind_assoc, map_eq_pure_bind, Try.sizeOf23, Try.sizeOf3, Value.cells]
  rw [h]
  rfl⟩
instance : Eqs Try.prog 57 4 where
  eq := fun x y xs ys w h1 h2 => by
    match xs, ys, h1, h2 with
    | [a, b, c, d], [a', b', c', d'], _, _ =>
      simp [go_sem, Sem.run_bind, run_eqGuard_agg, run_eql_struct, run_neq_struct, run_equalIn_agg, run_equalIn_int, Try.underlying3, Try.underlying23, Try.underlying57, Try.stoodInHeld23, Try.stoodInHeld57, Try.eqGuardType57]
      (repeat' split) <;> simp_all
  ne := fun x y xs ys w h1 h2 => by
    match xs, ys, h1, h2 with
    | [a, b, c, d], [a', b', c', d'], _, _ =>
      simp [go_sem, Sem.run_bind, run_eqGuard_agg, run_eql_struct, run_neq_struct, run_equalIn_agg, run_equalIn_int, Try.underlying3, Try.underlying23, Try.underlying57, Try.stoodInHeld23, Try.stoodInHeld57, Try.eqGuardType57]
      (repeat' split) <;> simp_all
-- 60 [][]api.Place
instance : One Try.prog 60 := ⟨Try.isAgg60, Try.sizeOf60⟩
instance : ZeroOf Try.prog 60 [.slice none 0 0] := ⟨⟨_, Try.zeroValue60, rfl⟩⟩
instance : SliceOf Try.prog 60 41 1 24 := ⟨Try.underlying60, by kernel_rfl, by decide, ⟨.slice none 0 0, by kernel_rfl, rfl⟩⟩
-- 62 [][]uint8
instance : One Try.prog 62 := ⟨Try.isAgg62, Try.sizeOf62⟩
instance : ZeroOf Try.prog 62 [.slice none 0 0] := ⟨⟨_, Try.zeroValue62, rfl⟩⟩
instance : SliceOf Try.prog 62 26 1 24 := ⟨Try.underlying62, by kernel_rfl, by decide, ⟨.slice none 0 0, by kernel_rfl, rfl⟩⟩
-- 63 []api.Data
instance : One Try.prog 63 := ⟨Try.isAgg63, Try.sizeOf63⟩
instance : ZeroOf Try.prog 63 [.slice none 0 0] := ⟨⟨_, Try.zeroValue63, rfl⟩⟩
instance : SliceOf Try.prog 63 50 18 160 := ⟨Try.underlying63, by kernel_rfl, by decide, ⟨.agg #[.int .i64 0, .int .i64 0, .int .i64 0, .int .i64 0, .int .i64 0, .int .i64 0, .int .i64 0, .int .i64 0, .int .i64 0, .int .i64 0, .int .i64 0, .int .i64 0, .bool false, .int .i64 0, .int .i64 0, .int .i64 0, .int .i64 0, .slice none 0 0], by kernel_rfl, rfl⟩⟩
-- 64 []hauberklaw13.Deed
instance : One Try.prog 64 := ⟨Try.isAgg64, Try.sizeOf64⟩
instance : ZeroOf Try.prog 64 [.slice none 0 0] := ⟨⟨_, Try.zeroValue64, rfl⟩⟩
instance : SliceOf Try.prog 64 72 2 32 := ⟨Try.underlying64, by kernel_rfl, by decide, ⟨.agg #[.slice none 0 0, .int .i64 0], by kernel_rfl, rfl⟩⟩
-- 65 *queue.Queue
instance : One Try.prog 65 := ⟨Try.isAgg65, Try.sizeOf65⟩
instance : ZeroOf Try.prog 65 [.pointer none] := ⟨⟨_, Try.zeroValue65, rfl⟩⟩
instance : PtrTo Try.prog 65 := ⟨⟨_, Try.underlying65⟩⟩
-- 67 *hauberkref13.Queue
instance : One Try.prog 67 := ⟨Try.isAgg67, Try.sizeOf67⟩
instance : ZeroOf Try.prog 67 [.pointer none] := ⟨⟨_, Try.zeroValue67, rfl⟩⟩
instance : PtrTo Try.prog 67 := ⟨⟨_, Try.underlying67⟩⟩
-- 69 []api.Message
instance : One Try.prog 69 := ⟨Try.isAgg69, Try.sizeOf69⟩
instance : ZeroOf Try.prog 69 [.slice none 0 0] := ⟨⟨_, Try.zeroValue69, rfl⟩⟩
instance : SliceOf Try.prog 69 28 13 120 := ⟨Try.underlying69, by kernel_rfl, by decide, ⟨.agg #[.int .i64 0, .int .i64 0, .int .i64 0, .int .i64 0, .int .i64 0, .int .i64 0, .int .i64 0, .bool false, .int .i64 0, .int .i64 0, .int .i64 0, .int .i64 0, .slice none 0 0], by kernel_rfl, rfl⟩⟩
-- 72 hauberklaw13.Deed
instance : Agg Try.prog 72 2 := ⟨Try.isAgg72, Try.sizeOf72⟩
instance : ZeroOf Try.prog 72 [.slice none 0 0, .int .i64 0] := ⟨⟨_, Try.zeroValue72, rfl⟩⟩
instance : Fld Try.prog 72 0 0 := ⟨fun _ _ _ => by kernel_rfl⟩
instance : Fld Try.prog 72 1 1 := ⟨fun _ _ _ => by kernel_rfl⟩
instance : Build Try.prog 72 [.slice none 0 0, .int .i64 0] [(0, 1), (1, 1)] := ⟨fun w parts cells h => by
  simp only [Instr.build, Sem.run_bind, Try.zeroValue72, run_underlying Try.underlying72, Result.andThen_ok]
  simp only [List.mapM_toArray, List.mapM_cons, List.mapM_nil, Sem.run_bind, Sem.run_map, Sem.run_pure, Result.andThen_ok, pure_bind, bind_assoc, map_eq_pure_bind, Try.sizeOf3, Try.sizeOf69, Value.cells]
  rw [h]
  rfl⟩
-- 80 [32]api.Message
instance : Agg Try.prog 80 416 := ⟨Try.isAgg80, Try.sizeOf80⟩
instance : ArrOf Try.prog 80 32 28 13 := ⟨Try.underlying80, Try.sizeOf28⟩
-- 82 queue.Queue
instance : Agg Try.prog 82 419 := ⟨Try.isAgg82, Try.sizeOf82⟩
instance : Fld Try.prog 82 0 0 := ⟨fun _ _ _ => by kernel_rfl⟩
instance : Fld Try.prog 82 1 1 := ⟨fun _ _ _ => by kernel_rfl⟩
instance : Fld Try.prog 82 2 2 := ⟨fun _ _ _ => by kernel_rfl⟩
instance : Fld Try.prog 82 3 3 := ⟨fun _ _ _ => by kernel_rfl⟩
-- 83 *word.Writer
instance : One Try.prog 83 := ⟨Try.isAgg83, Try.sizeOf83⟩
instance : ZeroOf Try.prog 83 [.pointer none] := ⟨⟨_, Try.zeroValue83, rfl⟩⟩
instance : PtrTo Try.prog 83 := ⟨⟨_, Try.underlying83⟩⟩
-- 89 parcel.rule
instance : One Try.prog 89 := ⟨Try.isAgg89, Try.sizeOf89⟩
instance : ZeroOf Try.prog 89 [.nilFunc] := ⟨⟨_, Try.zeroValue89, rfl⟩⟩
-- 90 (parcel.rule, bool)
-- 91 map[int]parcel.rule
instance : One Try.prog 91 := ⟨Try.isAgg91, Try.sizeOf91⟩
instance : ZeroOf Try.prog 91 [.map none] := ⟨⟨_, Try.zeroValue91, rfl⟩⟩
-- 96 *word.Reader
instance : One Try.prog 96 := ⟨Try.isAgg96, Try.sizeOf96⟩
instance : ZeroOf Try.prog 96 [.pointer none] := ⟨⟨_, Try.zeroValue96, rfl⟩⟩
instance : PtrTo Try.prog 96 := ⟨⟨_, Try.underlying96⟩⟩
-- 99 *int
instance : One Try.prog 99 := ⟨Try.isAgg99, Try.sizeOf99⟩
instance : ZeroOf Try.prog 99 [.pointer none] := ⟨⟨_, Try.zeroValue99, rfl⟩⟩
instance : PtrTo Try.prog 99 := ⟨⟨_, Try.underlying99⟩⟩
-- 101 *hauberkref01.Reader
instance : One Try.prog 101 := ⟨Try.isAgg101, Try.sizeOf101⟩
instance : ZeroOf Try.prog 101 [.pointer none] := ⟨⟨_, Try.zeroValue101, rfl⟩⟩
instance : PtrTo Try.prog 101 := ⟨⟨_, Try.underlying101⟩⟩
-- 103 [12]int
instance : Agg Try.prog 103 12 := ⟨Try.isAgg103, Try.sizeOf103⟩
instance : ZeroOf Try.prog 103 [.int .i64 0, .int .i64 0, .int .i64 0, .int .i64 0, .int .i64 0, .int .i64 0, .int .i64 0, .int .i64 0, .int .i64 0, .int .i64 0, .int .i64 0, .int .i64 0] := ⟨⟨_, Try.zeroValue103, rfl⟩⟩
instance : ArrOf Try.prog 103 12 3 1 := ⟨Try.underlying103, Try.sizeOf3⟩
-- 104 (int, api.Errno)
-- 106 *api.Place
instance : One Try.prog 106 := ⟨Try.isAgg106, Try.sizeOf106⟩
instance : ZeroOf Try.prog 106 [.pointer none] := ⟨⟨_, Try.zeroValue106, rfl⟩⟩
instance : PtrTo Try.prog 106 := ⟨⟨_, Try.underlying106⟩⟩
-- 107 [4]int
instance : Agg Try.prog 107 4 := ⟨Try.isAgg107, Try.sizeOf107⟩
instance : ZeroOf Try.prog 107 [.int .i64 0, .int .i64 0, .int .i64 0, .int .i64 0] := ⟨⟨_, Try.zeroValue107, rfl⟩⟩
instance : ArrOf Try.prog 107 4 3 1 := ⟨Try.underlying107, Try.sizeOf3⟩
-- 109 func(api.Place) bool
instance : One Try.prog 109 := ⟨Try.isAgg109, Try.sizeOf109⟩
instance : ZeroOf Try.prog 109 [.nilFunc] := ⟨⟨_, Try.zeroValue109, rfl⟩⟩
-- 110 *hauberkref01.Writer
instance : One Try.prog 110 := ⟨Try.isAgg110, Try.sizeOf110⟩
instance : ZeroOf Try.prog 110 [.pointer none] := ⟨⟨_, Try.zeroValue110, rfl⟩⟩
instance : PtrTo Try.prog 110 := ⟨⟨_, Try.underlying110⟩⟩
-- 116 hauberkref13.Queue
instance : Agg Try.prog 116 1 := ⟨Try.isAgg116, Try.sizeOf116⟩
instance : ZeroOf Try.prog 116 [.slice none 0 0] := ⟨⟨_, Try.zeroValue116, rfl⟩⟩
instance : Fld Try.prog 116 0 0 := ⟨fun _ _ _ => by kernel_rfl⟩
instance : Build Try.prog 116 [.slice none 0 0] [(0, 1)] := ⟨fun w parts cells h => by
  simp only [Instr.build, Sem.run_bind, Try.zeroValue116, run_underlying Try.underlying116, Result.andThen_ok]
  simp only [List.mapM_toArray, List.mapM_cons, List.mapM_nil, Sem.run_bind, Sem.run_map, Sem.run_pure, Result.andThen_ok, pure_bind, bind_assoc, map_eq_pure_bind, Try.sizeOf69, Value.cells]
  rw [h]
  rfl⟩
-- 118 word.Writer
instance : Agg Try.prog 118 2 := ⟨Try.isAgg118, Try.sizeOf118⟩
instance : ZeroOf Try.prog 118 [.slice none 0 0, .bool false] := ⟨⟨_, Try.zeroValue118, rfl⟩⟩
instance : Fld Try.prog 118 0 0 := ⟨fun _ _ _ => by kernel_rfl⟩
instance : Fld Try.prog 118 1 1 := ⟨fun _ _ _ => by kernel_rfl⟩
instance : Build Try.prog 118 [.slice none 0 0, .bool false] [(0, 1), (1, 1)] := ⟨fun w parts cells h => by
  simp only [Instr.build, Sem.run_bind, Try.zeroValue118, run_underlying Try.underlying118, Result.andThen_ok]
  simp only [List.mapM_toArray, List.mapM_cons, List.mapM_nil, Sem.run_bind, Sem.run_map, Sem.run_pure, Result.andThen_ok, pure_bind, bind_assoc, map_eq_pure_bind, Try.sizeOf26, Try.sizeOf4, Value.cells]
  rw [h]
  rfl⟩
-- 119 []int
instance : One Try.prog 119 := ⟨Try.isAgg119, Try.sizeOf119⟩
instance : ZeroOf Try.prog 119 [.slice none 0 0] := ⟨⟨_, Try.zeroValue119, rfl⟩⟩
instance : SliceOf Try.prog 119 3 1 8 := ⟨Try.underlying119, by kernel_rfl, by decide, ⟨.int .i64 0, by kernel_rfl, rfl⟩⟩
-- 120 word.Reader
instance : Agg Try.prog 120 2 := ⟨Try.isAgg120, Try.sizeOf120⟩
instance : ZeroOf Try.prog 120 [.slice none 0 0, .bool false] := ⟨⟨_, Try.zeroValue120, rfl⟩⟩
instance : Fld Try.prog 120 0 0 := ⟨fun _ _ _ => by kernel_rfl⟩
instance : Fld Try.prog 120 1 1 := ⟨fun _ _ _ => by kernel_rfl⟩
instance : Build Try.prog 120 [.slice none 0 0, .bool false] [(0, 1), (1, 1)] := ⟨fun w parts cells h => by
  simp only [Instr.build, Sem.run_bind, Try.zeroValue120, run_underlying Try.underlying120, Result.andThen_ok]
  simp only [List.mapM_toArray, List.mapM_cons, List.mapM_nil, Sem.run_bind, Sem.run_map, Sem.run_pure, Result.andThen_ok, pure_bind, bind_assoc, map_eq_pure_bind, Try.sizeOf26, Try.sizeOf4, Value.cells]
  rw [h]
  rfl⟩
-- 121 []*int
instance : One Try.prog 121 := ⟨Try.isAgg121, Try.sizeOf121⟩
instance : ZeroOf Try.prog 121 [.slice none 0 0] := ⟨⟨_, Try.zeroValue121, rfl⟩⟩
instance : SliceOf Try.prog 121 99 1 8 := ⟨Try.underlying121, by kernel_rfl, by decide, ⟨.pointer none, by kernel_rfl, rfl⟩⟩
-- 122 (int, int, api.Errno)
-- 125 hauberkref01.Reader
instance : Agg Try.prog 125 1 := ⟨Try.isAgg125, Try.sizeOf125⟩
instance : ZeroOf Try.prog 125 [.slice none 0 0] := ⟨⟨_, Try.zeroValue125, rfl⟩⟩
instance : Fld Try.prog 125 0 0 := ⟨fun _ _ _ => by kernel_rfl⟩
instance : Build Try.prog 125 [.slice none 0 0] [(0, 1)] := ⟨fun w parts cells h => by
  simp only [Instr.build, Sem.run_bind, Try.zeroValue125, run_underlying Try.underlying125, Result.andThen_ok]
  simp only [List.mapM_toArray, List.mapM_cons, List.mapM_nil, Sem.run_bind, Sem.run_map, Sem.run_pure, Result.andThen_ok, pure_bind, bind_assoc, map_eq_pure_bind, Try.sizeOf26, Value.cells]
  rw [h]
  rfl⟩
-- 127 hauberkref01.Writer
instance : Agg Try.prog 127 1 := ⟨Try.isAgg127, Try.sizeOf127⟩
instance : ZeroOf Try.prog 127 [.slice none 0 0] := ⟨⟨_, Try.zeroValue127, rfl⟩⟩
instance : Fld Try.prog 127 0 0 := ⟨fun _ _ _ => by kernel_rfl⟩
instance : Build Try.prog 127 [.slice none 0 0] [(0, 1)] := ⟨fun w parts cells h => by
  simp only [Instr.build, Sem.run_bind, Try.zeroValue127, run_underlying Try.underlying127, Result.andThen_ok]
  simp only [List.mapM_toArray, List.mapM_cons, List.mapM_nil, Sem.run_bind, Sem.run_map, Sem.run_pure, Result.andThen_ok, pure_bind, bind_assoc, map_eq_pure_bind, Try.sizeOf26, Value.cells]
  rw [h]
  rfl⟩
-- 128 uint64
instance : One Try.prog 128 := ⟨Try.isAgg128, Try.sizeOf128⟩
instance : ZeroOf Try.prog 128 [.int .u64 0] := ⟨⟨_, Try.zeroValue128, rfl⟩⟩
instance : IntT Try.prog 128 .u64 := ⟨Try.underlying128⟩
-- 129 uint
instance : One Try.prog 129 := ⟨Try.isAgg129, Try.sizeOf129⟩
instance : ZeroOf Try.prog 129 [.int .u64 0] := ⟨⟨_, Try.zeroValue129, rfl⟩⟩
instance : IntT Try.prog 129 .u64 := ⟨Try.underlying129⟩
end Go.Proofs.Ytomlgnncncjmaaa
