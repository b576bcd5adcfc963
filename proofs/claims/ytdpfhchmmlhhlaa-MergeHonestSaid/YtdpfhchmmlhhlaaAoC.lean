/- Part 3 of a proof by a proved abstract interpreter of the law's functions: the interpreter, and contracts of functions. No condition. -/
import Derived.Test.YtdpfhchmmlhhlaaAoB
import Derived.Test.YtdpfhchmmlhhlaaProg
import Derived.Shelf.Abstract
import Derived.Shelf.SlSortCmp.InsertionK
import Derived.Shelf.SlSortCmp.WholeK
import Derived.Ground.SlsfProg
import Derived.Shelf.SlSortCmp.NoneTotal
/- The types of the program: facts for the abstract interpreter. Printed by gentab.py. No condition. -/
namespace Go.AI
open Go Go.Proofs
set_option linter.unusedVariables false
def tI1 : TI := { agg := false, size := 1, bytes := 8, zero := [.nilFunc], fields := [], elem := 0, len := 0, kind := 0, ik := .i64, eqs := [] }
theorem tIOK1 : TIOK Try.prog 1 tI1 := { agg := Try.isAgg1, size := Try.sizeOf1, infoM := ⟨.nilFunc, by kernel_rfl, rfl⟩, zlen := rfl, one := fun _ => rfl, zc := rfl, structM := fun h => absurd h (by decide), slice := fun h => absurd h (by decide), array := fun h => absurd h (by decide), int := fun h => absurd h (by decide), str := fun h => absurd h (by decide), map := fun h => absurd h (by decide), bool := fun h => absurd h (by decide), eqf := .inl rfl }
def tI2 : TI := { agg := false, size := 1, bytes := 8, zero := [.int .i64 0], fields := [], elem := 0, len := 0, kind := 5, ik := .i64, eqs := [] }
theorem tIOK2 : TIOK Try.prog 2 tI2 := { agg := Try.isAgg2, size := Try.sizeOf2, infoM := ⟨.int .i64 0, by kernel_rfl, rfl⟩, zlen := rfl, one := fun _ => rfl, zc := rfl, structM := fun h => absurd h (by decide), slice := fun h => absurd h (by decide), array := fun h => absurd h (by decide), int := fun _ => Try.underlying2, str := fun h => absurd h (by decide), map := fun h => absurd h (by decide), bool := fun h => absurd h (by decide), eqf := .inl rfl }
def tI3 : TI := { agg := false, size := 1, bytes := 8, zero := [.int .i64 0], fields := [], elem := 0, len := 0, kind := 5, ik := .i64, eqs := [] }
theorem tIOK3 : TIOK Try.prog 3 tI3 := { agg := Try.isAgg3, size := Try.sizeOf3, infoM := ⟨.int .i64 0, by kernel_rfl, rfl⟩, zlen := rfl, one := fun _ => rfl, zc := rfl, structM := fun h => absurd h (by decide), slice := fun h => absurd h (by decide), array := fun h => absurd h (by decide), int := fun _ => Try.underlying3, str := fun h => absurd h (by decide), map := fun h => absurd h (by decide), bool := fun h => absurd h (by decide), eqf := .inl rfl }
def tI4 : TI := { agg := false, size := 1, bytes := 1, zero := [.bool false], fields := [], elem := 0, len := 0, kind := 1, ik := .i64, eqs := [] }
theorem tIOK4 : TIOK Try.prog 4 tI4 := { agg := Try.isAgg4, size := Try.sizeOf4, infoM := ⟨.bool false, by kernel_rfl, rfl⟩, zlen := rfl, one := fun _ => rfl, zc := rfl, structM := fun h => absurd h (by decide), slice := fun h => absurd h (by decide), array := fun h => absurd h (by decide), int := fun h => absurd h (by decide), str := fun h => absurd h (by decide), map := fun h => absurd h (by decide), bool := fun _ => Try.underlying4, eqf := .inl rfl }
def tI5 : TI := { agg := false, size := 1, bytes := 1, zero := [.int .u8 0], fields := [], elem := 0, len := 0, kind := 5, ik := .u8, eqs := [] }
theorem tIOK5 : TIOK Try.prog 5 tI5 := { agg := Try.isAgg5, size := Try.sizeOf5, infoM := ⟨.int .u8 0, by kernel_rfl, rfl⟩, zlen := rfl, one := fun _ => rfl, zc := rfl, structM := fun h => absurd h (by decide), slice := fun h => absurd h (by decide), array := fun h => absurd h (by decide), int := fun _ => Try.underlying5, str := fun h => absurd h (by decide), map := fun h => absurd h (by decide), bool := fun h => absurd h (by decide), eqf := .inl rfl }
def tI6 : TI := { agg := false, size := 1, bytes := 1, zero := [.int .u8 0], fields := [], elem := 0, len := 0, kind := 5, ik := .u8, eqs := [] }
theorem tIOK6 : TIOK Try.prog 6 tI6 := { agg := Try.isAgg6, size := Try.sizeOf6, infoM := ⟨.int .u8 0, by kernel_rfl, rfl⟩, zlen := rfl, one := fun _ => rfl, zc := rfl, structM := fun h => absurd h (by decide), slice := fun h => absurd h (by decide), array := fun h => absurd h (by decide), int := fun _ => Try.underlying6, str := fun h => absurd h (by decide), map := fun h => absurd h (by decide), bool := fun h => absurd h (by decide), eqf := .inl rfl }
def tI7 : TI := { agg := true, size := 4, bytes := 24, zero := [.int .i64 0, .int .i64 0, .bool false, .int .u8 0], fields := [(2, 0, 1), (3, 1, 1), (4, 2, 1), (6, 3, 1)], elem := 0, len := 0, kind := 2, ik := .i64, eqs := [] }
theorem tIOK7 : TIOK Try.prog 7 tI7 := { agg := Try.isAgg7, size := Try.sizeOf7, infoM := ⟨.agg #[.int .i64 0, .int .i64 0, .bool false, .int .u8 0], by kernel_rfl, rfl⟩, zlen := rfl, one := fun h => absurd h (by decide), zc := rfl, structM := fun _ => ⟨_, Try.underlying7, ⟨rfl, rfl, Nat.succ_ne_zero _, Try.sizeOf2, ⟨rfl, rfl, Nat.succ_ne_zero _, Try.sizeOf3, ⟨rfl, rfl, Nat.succ_ne_zero _, Try.sizeOf4, ⟨rfl, rfl, Nat.succ_ne_zero _, Try.sizeOf6, trivial⟩⟩⟩⟩⟩, slice := fun h => absurd h (by decide), array := fun h => absurd h (by decide), int := fun h => absurd h (by decide), str := fun h => absurd h (by decide), map := fun h => absurd h (by decide), bool := fun h => absurd h (by decide), eqf := .inl rfl }
def tI8 : TI := { agg := true, size := 4, bytes := 24, zero := [.int .i64 0, .int .i64 0, .bool false, .int .u8 0], fields := [(2, 0, 1), (3, 1, 1), (4, 2, 1), (6, 3, 1)], elem := 0, len := 0, kind := 2, ik := .i64, eqs := [] }
theorem tIOK8 : TIOK Try.prog 8 tI8 := { agg := Try.isAgg8, size := Try.sizeOf8, infoM := ⟨.agg #[.int .i64 0, .int .i64 0, .bool false, .int .u8 0], by kernel_rfl, rfl⟩, zlen := rfl, one := fun h => absurd h (by decide), zc := rfl, structM := fun _ => ⟨_, Try.underlying8, ⟨rfl, rfl, Nat.succ_ne_zero _, Try.sizeOf2, ⟨rfl, rfl, Nat.succ_ne_zero _, Try.sizeOf3, ⟨rfl, rfl, Nat.succ_ne_zero _, Try.sizeOf4, ⟨rfl, rfl, Nat.succ_ne_zero _, Try.sizeOf6, trivial⟩⟩⟩⟩⟩, slice := fun h => absurd h (by decide), array := fun h => absurd h (by decide), int := fun h => absurd h (by decide), str := fun h => absurd h (by decide), map := fun h => absurd h (by decide), bool := fun h => absurd h (by decide), eqf := .inl rfl }
def tI9 : TI := { agg := false, size := 1, bytes := 16, zero := [.string { data := #[] }], fields := [], elem := 0, len := 0, kind := 7, ik := .i64, eqs := [] }
theorem tIOK9 : TIOK Try.prog 9 tI9 := { agg := Try.isAgg9, size := Try.sizeOf9, infoM := ⟨.string { data := #[] }, by kernel_rfl, rfl⟩, zlen := rfl, one := fun _ => rfl, zc := rfl, structM := fun h => absurd h (by decide), slice := fun h => absurd h (by decide), array := fun h => absurd h (by decide), int := fun h => absurd h (by decide), str := fun _ => Try.underlying9, map := fun h => absurd h (by decide), bool := fun h => absurd h (by decide), eqf := .inl rfl }
def tI10 : TI := { agg := false, size := 1, bytes := 16, zero := [.string { data := #[] }], fields := [], elem := 0, len := 0, kind := 7, ik := .i64, eqs := [] }
theorem tIOK10 : TIOK Try.prog 10 tI10 := { agg := Try.isAgg10, size := Try.sizeOf10, infoM := ⟨.string { data := #[] }, by kernel_rfl, rfl⟩, zlen := rfl, one := fun _ => rfl, zc := rfl, structM := fun h => absurd h (by decide), slice := fun h => absurd h (by decide), array := fun h => absurd h (by decide), int := fun h => absurd h (by decide), str := fun _ => Try.underlying10, map := fun h => absurd h (by decide), bool := fun h => absurd h (by decide), eqf := .inl rfl }
def tI11 : TI := { agg := false, size := 1, bytes := 16, zero := [.string { data := #[] }], fields := [], elem := 0, len := 0, kind := 7, ik := .i64, eqs := [] }
theorem tIOK11 : TIOK Try.prog 11 tI11 := { agg := Try.isAgg11, size := Try.sizeOf11, infoM := ⟨.string { data := #[] }, by kernel_rfl, rfl⟩, zlen := rfl, one := fun _ => rfl, zc := rfl, structM := fun h => absurd h (by decide), slice := fun h => absurd h (by decide), array := fun h => absurd h (by decide), int := fun h => absurd h (by decide), str := fun _ => Try.underlying11, map := fun h => absurd h (by decide), bool := fun h => absurd h (by decide), eqf := .inl rfl }
def tI12 : TI := { agg := false, size := 1, bytes := 8, zero := [.int .u64 0], fields := [], elem := 0, len := 0, kind := 5, ik := .u64, eqs := [] }
theorem tIOK12 : TIOK Try.prog 12 tI12 := { agg := Try.isAgg12, size := Try.sizeOf12, infoM := ⟨.int .u64 0, by kernel_rfl, rfl⟩, zlen := rfl, one := fun _ => rfl, zc := rfl, structM := fun h => absurd h (by decide), slice := fun h => absurd h (by decide), array := fun h => absurd h (by decide), int := fun _ => Try.underlying12, str := fun h => absurd h (by decide), map := fun h => absurd h (by decide), bool := fun h => absurd h (by decide), eqf := .inl rfl }
def tI13 : TI := { agg := true, size := 2, bytes := 24, zero := [.string { data := #[] }, .int .u64 0], fields := [(9, 0, 1), (12, 1, 1)], elem := 0, len := 0, kind := 2, ik := .i64, eqs := [] }
theorem tIOK13 : TIOK Try.prog 13 tI13 := { agg := Try.isAgg13, size := Try.sizeOf13, infoM := ⟨.agg #[.string { data := #[] }, .int .u64 0], by kernel_rfl, rfl⟩, zlen := rfl, one := fun h => absurd h (by decide), zc := rfl, structM := fun _ => ⟨_, Try.underlying13, ⟨rfl, rfl, Nat.succ_ne_zero _, Try.sizeOf9, ⟨rfl, rfl, Nat.succ_ne_zero _, Try.sizeOf12, trivial⟩⟩⟩, slice := fun h => absurd h (by decide), array := fun h => absurd h (by decide), int := fun h => absurd h (by decide), str := fun h => absurd h (by decide), map := fun h => absurd h (by decide), bool := fun h => absurd h (by decide), eqf := .inl rfl }
def tI14 : TI := { agg := true, size := 2, bytes := 24, zero := [.string { data := #[] }, .int .u64 0], fields := [(9, 0, 1), (12, 1, 1)], elem := 0, len := 0, kind := 2, ik := .i64, eqs := [] }
theorem tIOK14 : TIOK Try.prog 14 tI14 := { agg := Try.isAgg14, size := Try.sizeOf14, infoM := ⟨.agg #[.string { data := #[] }, .int .u64 0], by kernel_rfl, rfl⟩, zlen := rfl, one := fun h => absurd h (by decide), zc := rfl, structM := fun _ => ⟨_, Try.underlying14, ⟨rfl, rfl, Nat.succ_ne_zero _, Try.sizeOf9, ⟨rfl, rfl, Nat.succ_ne_zero _, Try.sizeOf12, trivial⟩⟩⟩, slice := fun h => absurd h (by decide), array := fun h => absurd h (by decide), int := fun h => absurd h (by decide), str := fun h => absurd h (by decide), map := fun h => absurd h (by decide), bool := fun h => absurd h (by decide), eqf := .inl rfl }
def tI15 : TI := { agg := false, size := 1, bytes := 8, zero := [.pointer none], fields := [], elem := 0, len := 0, kind := 0, ik := .i64, eqs := [] }
theorem tIOK15 : TIOK Try.prog 15 tI15 := { agg := Try.isAgg15, size := Try.sizeOf15, infoM := ⟨.pointer none, by kernel_rfl, rfl⟩, zlen := rfl, one := fun _ => rfl, zc := rfl, structM := fun h => absurd h (by decide), slice := fun h => absurd h (by decide), array := fun h => absurd h (by decide), int := fun h => absurd h (by decide), str := fun h => absurd h (by decide), map := fun h => absurd h (by decide), bool := fun h => absurd h (by decide), eqf := .inl rfl }
def tI16 : TI := { agg := false, size := 1, bytes := 8, zero := [.pointer none], fields := [], elem := 0, len := 0, kind := 0, ik := .i64, eqs := [] }
theorem tIOK16 : TIOK Try.prog 16 tI16 := { agg := Try.isAgg16, size := Try.sizeOf16, infoM := ⟨.pointer none, by kernel_rfl, rfl⟩, zlen := rfl, one := fun _ => rfl, zc := rfl, structM := fun h => absurd h (by decide), slice := fun h => absurd h (by decide), array := fun h => absurd h (by decide), int := fun h => absurd h (by decide), str := fun h => absurd h (by decide), map := fun h => absurd h (by decide), bool := fun h => absurd h (by decide), eqf := .inl rfl }
def tI17 : TI := { agg := false, size := 1, bytes := 8, zero := [.pointer none], fields := [], elem := 0, len := 0, kind := 0, ik := .i64, eqs := [] }
theorem tIOK17 : TIOK Try.prog 17 tI17 := { agg := Try.isAgg17, size := Try.sizeOf17, infoM := ⟨.pointer none, by kernel_rfl, rfl⟩, zlen := rfl, one := fun _ => rfl, zc := rfl, structM := fun h => absurd h (by decide), slice := fun h => absurd h (by decide), array := fun h => absurd h (by decide), int := fun h => absurd h (by decide), str := fun h => absurd h (by decide), map := fun h => absurd h (by decide), bool := fun h => absurd h (by decide), eqf := .inl rfl }
def tI18 : TI := { agg := true, size := 1, bytes := 8, zero := [.pointer none], fields := [(17, 0, 1)], elem := 0, len := 0, kind := 2, ik := .i64, eqs := [] }
theorem tIOK18 : TIOK Try.prog 18 tI18 := { agg := Try.isAgg18, size := Try.sizeOf18, infoM := ⟨.agg #[.pointer none], by kernel_rfl, rfl⟩, zlen := rfl, one := fun h => absurd h (by decide), zc := rfl, structM := fun _ => ⟨_, Try.underlying18, ⟨rfl, rfl, Nat.succ_ne_zero _, Try.sizeOf17, trivial⟩⟩, slice := fun h => absurd h (by decide), array := fun h => absurd h (by decide), int := fun h => absurd h (by decide), str := fun h => absurd h (by decide), map := fun h => absurd h (by decide), bool := fun h => absurd h (by decide), eqf := .inl rfl }
def tI19 : TI := { agg := true, size := 1, bytes := 8, zero := [.pointer none], fields := [(17, 0, 1)], elem := 0, len := 0, kind := 2, ik := .i64, eqs := [] }
theorem tIOK19 : TIOK Try.prog 19 tI19 := { agg := Try.isAgg19, size := Try.sizeOf19, infoM := ⟨.agg #[.pointer none], by kernel_rfl, rfl⟩, zlen := rfl, one := fun h => absurd h (by decide), zc := rfl, structM := fun _ => ⟨_, Try.underlying19, ⟨rfl, rfl, Nat.succ_ne_zero _, Try.sizeOf17, trivial⟩⟩, slice := fun h => absurd h (by decide), array := fun h => absurd h (by decide), int := fun h => absurd h (by decide), str := fun h => absurd h (by decide), map := fun h => absurd h (by decide), bool := fun h => absurd h (by decide), eqf := .inl rfl }
def tI20 : TI := { agg := false, size := 1, bytes := 16, zero := [.nilIface], fields := [], elem := 0, len := 0, kind := 0, ik := .i64, eqs := [] }
theorem tIOK20 : TIOK Try.prog 20 tI20 := { agg := Try.isAgg20, size := Try.sizeOf20, infoM := ⟨.nilIface, by kernel_rfl, rfl⟩, zlen := rfl, one := fun _ => rfl, zc := rfl, structM := fun h => absurd h (by decide), slice := fun h => absurd h (by decide), array := fun h => absurd h (by decide), int := fun h => absurd h (by decide), str := fun h => absurd h (by decide), map := fun h => absurd h (by decide), bool := fun h => absurd h (by decide), eqf := .inl rfl }
def tI21 : TI := { agg := false, size := 1, bytes := 4, zero := [.int .i32 0], fields := [], elem := 0, len := 0, kind := 5, ik := .i32, eqs := [] }
theorem tIOK21 : TIOK Try.prog 21 tI21 := { agg := Try.isAgg21, size := Try.sizeOf21, infoM := ⟨.int .i32 0, by kernel_rfl, rfl⟩, zlen := rfl, one := fun _ => rfl, zc := rfl, structM := fun h => absurd h (by decide), slice := fun h => absurd h (by decide), array := fun h => absurd h (by decide), int := fun _ => Try.underlying21, str := fun h => absurd h (by decide), map := fun h => absurd h (by decide), bool := fun h => absurd h (by decide), eqf := .inl rfl }
def tI22 : TI := { agg := false, size := 1, bytes := 24, zero := [.slice none 0 0], fields := [], elem := 47, len := 0, kind := 3, ik := .i64, eqs := [] }
theorem tIOK22 : TIOK Try.prog 22 tI22 := { agg := Try.isAgg22, size := Try.sizeOf22, infoM := ⟨.slice none 0 0, by kernel_rfl, rfl⟩, zlen := rfl, one := fun _ => rfl, zc := rfl, structM := fun h => absurd h (by decide), slice := fun _ => Try.underlying22, array := fun h => absurd h (by decide), int := fun h => absurd h (by decide), str := fun h => absurd h (by decide), map := fun h => absurd h (by decide), bool := fun h => absurd h (by decide), eqf := .inl rfl }
def tI23 : TI := { agg := true, size := 2, bytes := 48, zero := [.slice none 0 0, .slice none 0 0], fields := [], elem := 22, len := 2, kind := 4, ik := .i64, eqs := [] }
theorem tIOK23 : TIOK Try.prog 23 tI23 := { agg := Try.isAgg23, size := Try.sizeOf23, infoM := ⟨.agg #[.slice none 0 0, .slice none 0 0], by kernel_rfl, rfl⟩, zlen := rfl, one := fun h => absurd h (by decide), zc := rfl, structM := fun h => absurd h (by decide), slice := fun h => absurd h (by decide), array := fun _ => Try.underlying23, int := fun h => absurd h (by decide), str := fun h => absurd h (by decide), map := fun h => absurd h (by decide), bool := fun h => absurd h (by decide), eqf := .inl rfl }
def tI24 : TI := { agg := false, size := 1, bytes := 24, zero := [.slice none 0 0], fields := [], elem := 76, len := 0, kind := 3, ik := .i64, eqs := [] }
theorem tIOK24 : TIOK Try.prog 24 tI24 := { agg := Try.isAgg24, size := Try.sizeOf24, infoM := ⟨.slice none 0 0, by kernel_rfl, rfl⟩, zlen := rfl, one := fun _ => rfl, zc := rfl, structM := fun h => absurd h (by decide), slice := fun _ => Try.underlying24, array := fun h => absurd h (by decide), int := fun h => absurd h (by decide), str := fun h => absurd h (by decide), map := fun h => absurd h (by decide), bool := fun h => absurd h (by decide), eqf := .inl rfl }
def tI25 : TI := { agg := false, size := 1, bytes := 8, zero := [.nilFunc], fields := [], elem := 0, len := 0, kind := 0, ik := .i64, eqs := [] }
theorem tIOK25 : TIOK Try.prog 25 tI25 := { agg := Try.isAgg25, size := Try.sizeOf25, infoM := ⟨.nilFunc, by kernel_rfl, rfl⟩, zlen := rfl, one := fun _ => rfl, zc := rfl, structM := fun h => absurd h (by decide), slice := fun h => absurd h (by decide), array := fun h => absurd h (by decide), int := fun h => absurd h (by decide), str := fun h => absurd h (by decide), map := fun h => absurd h (by decide), bool := fun h => absurd h (by decide), eqf := .inl rfl }
def tI26 : TI := { agg := false, size := 1, bytes := 8, zero := [.nilFunc], fields := [], elem := 0, len := 0, kind := 0, ik := .i64, eqs := [] }
theorem tIOK26 : TIOK Try.prog 26 tI26 := { agg := Try.isAgg26, size := Try.sizeOf26, infoM := ⟨.nilFunc, by kernel_rfl, rfl⟩, zlen := rfl, one := fun _ => rfl, zc := rfl, structM := fun h => absurd h (by decide), slice := fun h => absurd h (by decide), array := fun h => absurd h (by decide), int := fun h => absurd h (by decide), str := fun h => absurd h (by decide), map := fun h => absurd h (by decide), bool := fun h => absurd h (by decide), eqf := .inl rfl }
def tI27 : TI := { agg := false, size := 1, bytes := 24, zero := [.slice none 0 0], fields := [], elem := 22, len := 0, kind := 3, ik := .i64, eqs := [] }
theorem tIOK27 : TIOK Try.prog 27 tI27 := { agg := Try.isAgg27, size := Try.sizeOf27, infoM := ⟨.slice none 0 0, by kernel_rfl, rfl⟩, zlen := rfl, one := fun _ => rfl, zc := rfl, structM := fun h => absurd h (by decide), slice := fun _ => Try.underlying27, array := fun h => absurd h (by decide), int := fun h => absurd h (by decide), str := fun h => absurd h (by decide), map := fun h => absurd h (by decide), bool := fun h => absurd h (by decide), eqf := .inl rfl }
def tI28 : TI := { agg := true, size := 3, bytes := 24, zero := [.int .i64 0, .int .i64 0, .int .i64 0], fields := [], elem := 3, len := 3, kind := 4, ik := .i64, eqs := [] }
theorem tIOK28 : TIOK Try.prog 28 tI28 := { agg := Try.isAgg28, size := Try.sizeOf28, infoM := ⟨.agg #[.int .i64 0, .int .i64 0, .int .i64 0], by kernel_rfl, rfl⟩, zlen := rfl, one := fun h => absurd h (by decide), zc := rfl, structM := fun h => absurd h (by decide), slice := fun h => absurd h (by decide), array := fun _ => Try.underlying28, int := fun h => absurd h (by decide), str := fun h => absurd h (by decide), map := fun h => absurd h (by decide), bool := fun h => absurd h (by decide), eqf := .inl rfl }
def tI29 : TI := { agg := false, size := 1, bytes := 8, zero := [.nilFunc], fields := [], elem := 0, len := 0, kind := 0, ik := .i64, eqs := [] }
theorem tIOK29 : TIOK Try.prog 29 tI29 := { agg := Try.isAgg29, size := Try.sizeOf29, infoM := ⟨.nilFunc, by kernel_rfl, rfl⟩, zlen := rfl, one := fun _ => rfl, zc := rfl, structM := fun h => absurd h (by decide), slice := fun h => absurd h (by decide), array := fun h => absurd h (by decide), int := fun h => absurd h (by decide), str := fun h => absurd h (by decide), map := fun h => absurd h (by decide), bool := fun h => absurd h (by decide), eqf := .inl rfl }
def tI30 : TI := { agg := false, size := 1, bytes := 24, zero := [.slice none 0 0], fields := [], elem := 28, len := 0, kind := 3, ik := .i64, eqs := [] }
theorem tIOK30 : TIOK Try.prog 30 tI30 := { agg := Try.isAgg30, size := Try.sizeOf30, infoM := ⟨.slice none 0 0, by kernel_rfl, rfl⟩, zlen := rfl, one := fun _ => rfl, zc := rfl, structM := fun h => absurd h (by decide), slice := fun _ => Try.underlying30, array := fun h => absurd h (by decide), int := fun h => absurd h (by decide), str := fun h => absurd h (by decide), map := fun h => absurd h (by decide), bool := fun h => absurd h (by decide), eqf := .inl rfl }
def tI31 : TI := { agg := false, size := 1, bytes := 8, zero := [.nilFunc], fields := [], elem := 0, len := 0, kind := 0, ik := .i64, eqs := [] }
theorem tIOK31 : TIOK Try.prog 31 tI31 := { agg := Try.isAgg31, size := Try.sizeOf31, infoM := ⟨.nilFunc, by kernel_rfl, rfl⟩, zlen := rfl, one := fun _ => rfl, zc := rfl, structM := fun h => absurd h (by decide), slice := fun h => absurd h (by decide), array := fun h => absurd h (by decide), int := fun h => absurd h (by decide), str := fun h => absurd h (by decide), map := fun h => absurd h (by decide), bool := fun h => absurd h (by decide), eqf := .inl rfl }
def tI32 : TI := { agg := false, size := 1, bytes := 8, zero := [.int .i64 0], fields := [], elem := 0, len := 0, kind := 5, ik := .i64, eqs := [] }
theorem tIOK32 : TIOK Try.prog 32 tI32 := { agg := Try.isAgg32, size := Try.sizeOf32, infoM := ⟨.int .i64 0, by kernel_rfl, rfl⟩, zlen := rfl, one := fun _ => rfl, zc := rfl, structM := fun h => absurd h (by decide), slice := fun h => absurd h (by decide), array := fun h => absurd h (by decide), int := fun _ => Try.underlying32, str := fun h => absurd h (by decide), map := fun h => absurd h (by decide), bool := fun h => absurd h (by decide), eqf := .inl rfl }
def tI34 : TI := { agg := false, size := 1, bytes := 8, zero := [.nilFunc], fields := [], elem := 0, len := 0, kind := 0, ik := .i64, eqs := [] }
theorem tIOK34 : TIOK Try.prog 34 tI34 := { agg := Try.isAgg34, size := Try.sizeOf34, infoM := ⟨.nilFunc, by kernel_rfl, rfl⟩, zlen := rfl, one := fun _ => rfl, zc := rfl, structM := fun h => absurd h (by decide), slice := fun h => absurd h (by decide), array := fun h => absurd h (by decide), int := fun h => absurd h (by decide), str := fun h => absurd h (by decide), map := fun h => absurd h (by decide), bool := fun h => absurd h (by decide), eqf := .inl rfl }
def tI35 : TI := { agg := false, size := 1, bytes := 8, zero := [.nilFunc], fields := [], elem := 0, len := 0, kind := 0, ik := .i64, eqs := [] }
theorem tIOK35 : TIOK Try.prog 35 tI35 := { agg := Try.isAgg35, size := Try.sizeOf35, infoM := ⟨.nilFunc, by kernel_rfl, rfl⟩, zlen := rfl, one := fun _ => rfl, zc := rfl, structM := fun h => absurd h (by decide), slice := fun h => absurd h (by decide), array := fun h => absurd h (by decide), int := fun h => absurd h (by decide), str := fun h => absurd h (by decide), map := fun h => absurd h (by decide), bool := fun h => absurd h (by decide), eqf := .inl rfl }
def tI36 : TI := { agg := false, size := 1, bytes := 24, zero := [.slice none 0 0], fields := [], elem := 75, len := 0, kind := 3, ik := .i64, eqs := [] }
theorem tIOK36 : TIOK Try.prog 36 tI36 := { agg := Try.isAgg36, size := Try.sizeOf36, infoM := ⟨.slice none 0 0, by kernel_rfl, rfl⟩, zlen := rfl, one := fun _ => rfl, zc := rfl, structM := fun h => absurd h (by decide), slice := fun _ => Try.underlying36, array := fun h => absurd h (by decide), int := fun h => absurd h (by decide), str := fun h => absurd h (by decide), map := fun h => absurd h (by decide), bool := fun h => absurd h (by decide), eqf := .inl rfl }
def tI38 : TI := { agg := false, size := 1, bytes := 8, zero := [.nilFunc], fields := [], elem := 0, len := 0, kind := 0, ik := .i64, eqs := [] }
theorem tIOK38 : TIOK Try.prog 38 tI38 := { agg := Try.isAgg38, size := Try.sizeOf38, infoM := ⟨.nilFunc, by kernel_rfl, rfl⟩, zlen := rfl, one := fun _ => rfl, zc := rfl, structM := fun h => absurd h (by decide), slice := fun h => absurd h (by decide), array := fun h => absurd h (by decide), int := fun h => absurd h (by decide), str := fun h => absurd h (by decide), map := fun h => absurd h (by decide), bool := fun h => absurd h (by decide), eqf := .inl rfl }
def tI40 : TI := { agg := false, size := 1, bytes := 8, zero := [.nilFunc], fields := [], elem := 0, len := 0, kind := 0, ik := .i64, eqs := [] }
theorem tIOK40 : TIOK Try.prog 40 tI40 := { agg := Try.isAgg40, size := Try.sizeOf40, infoM := ⟨.nilFunc, by kernel_rfl, rfl⟩, zlen := rfl, one := fun _ => rfl, zc := rfl, structM := fun h => absurd h (by decide), slice := fun h => absurd h (by decide), array := fun h => absurd h (by decide), int := fun h => absurd h (by decide), str := fun h => absurd h (by decide), map := fun h => absurd h (by decide), bool := fun h => absurd h (by decide), eqf := .inl rfl }
def tI41 : TI := { agg := false, size := 1, bytes := 8, zero := [.nilFunc], fields := [], elem := 0, len := 0, kind := 0, ik := .i64, eqs := [] }
theorem tIOK41 : TIOK Try.prog 41 tI41 := { agg := Try.isAgg41, size := Try.sizeOf41, infoM := ⟨.nilFunc, by kernel_rfl, rfl⟩, zlen := rfl, one := fun _ => rfl, zc := rfl, structM := fun h => absurd h (by decide), slice := fun h => absurd h (by decide), array := fun h => absurd h (by decide), int := fun h => absurd h (by decide), str := fun h => absurd h (by decide), map := fun h => absurd h (by decide), bool := fun h => absurd h (by decide), eqf := .inl rfl }
def tI42 : TI := { agg := false, size := 1, bytes := 8, zero := [.nilFunc], fields := [], elem := 0, len := 0, kind := 0, ik := .i64, eqs := [] }
theorem tIOK42 : TIOK Try.prog 42 tI42 := { agg := Try.isAgg42, size := Try.sizeOf42, infoM := ⟨.nilFunc, by kernel_rfl, rfl⟩, zlen := rfl, one := fun _ => rfl, zc := rfl, structM := fun h => absurd h (by decide), slice := fun h => absurd h (by decide), array := fun h => absurd h (by decide), int := fun h => absurd h (by decide), str := fun h => absurd h (by decide), map := fun h => absurd h (by decide), bool := fun h => absurd h (by decide), eqf := .inl rfl }
def tI44 : TI := { agg := false, size := 1, bytes := 8, zero := [.nilFunc], fields := [], elem := 0, len := 0, kind := 0, ik := .i64, eqs := [] }
theorem tIOK44 : TIOK Try.prog 44 tI44 := { agg := Try.isAgg44, size := Try.sizeOf44, infoM := ⟨.nilFunc, by kernel_rfl, rfl⟩, zlen := rfl, one := fun _ => rfl, zc := rfl, structM := fun h => absurd h (by decide), slice := fun h => absurd h (by decide), array := fun h => absurd h (by decide), int := fun h => absurd h (by decide), str := fun h => absurd h (by decide), map := fun h => absurd h (by decide), bool := fun h => absurd h (by decide), eqf := .inl rfl }
def tI45 : TI := { agg := false, size := 1, bytes := 8, zero := [.nilFunc], fields := [], elem := 0, len := 0, kind := 0, ik := .i64, eqs := [] }
theorem tIOK45 : TIOK Try.prog 45 tI45 := { agg := Try.isAgg45, size := Try.sizeOf45, infoM := ⟨.nilFunc, by kernel_rfl, rfl⟩, zlen := rfl, one := fun _ => rfl, zc := rfl, structM := fun h => absurd h (by decide), slice := fun h => absurd h (by decide), array := fun h => absurd h (by decide), int := fun h => absurd h (by decide), str := fun h => absurd h (by decide), map := fun h => absurd h (by decide), bool := fun h => absurd h (by decide), eqf := .inl rfl }
def tI46 : TI := { agg := true, size := 6, bytes := 48, zero := [.int .i64 0, .int .i64 0, .int .i64 0, .int .i64 0, .int .i64 0, .int .i64 0], fields := [(3, 0, 1), (3, 1, 1), (3, 2, 1), (3, 3, 1), (3, 4, 1), (3, 5, 1)], elem := 0, len := 0, kind := 2, ik := .i64, eqs := [0, 1, 2, 3, 4, 5] }
theorem tIOK46 : TIOK Try.prog 46 tI46 := { agg := Try.isAgg46, size := Try.sizeOf46, infoM := ⟨.agg #[.int .i64 0, .int .i64 0, .int .i64 0, .int .i64 0, .int .i64 0, .int .i64 0], by kernel_rfl, rfl⟩, zlen := rfl, one := fun h => absurd h (by decide), zc := rfl, structM := fun _ => ⟨_, Try.underlying46, ⟨rfl, rfl, Nat.succ_ne_zero _, Try.sizeOf3, ⟨rfl, rfl, Nat.succ_ne_zero _, Try.sizeOf3, ⟨rfl, rfl, Nat.succ_ne_zero _, Try.sizeOf3, ⟨rfl, rfl, Nat.succ_ne_zero _, Try.sizeOf3, ⟨rfl, rfl, Nat.succ_ne_zero _, Try.sizeOf3, ⟨rfl, rfl, Nat.succ_ne_zero _, Try.sizeOf3, trivial⟩⟩⟩⟩⟩⟩⟩, slice := fun h => absurd h (by decide), array := fun h => absurd h (by decide), int := fun h => absurd h (by decide), str := fun h => absurd h (by decide), map := fun h => absurd h (by decide), bool := fun h => absurd h (by decide), eqf := .inr ⟨by kernel_rfl, by kernel_rfl, _, Try.underlying46, ⟨by decide, rfl, Try.isAgg3, ⟨_, Try.underlying3⟩, ⟨by decide, rfl, Try.isAgg3, ⟨_, Try.underlying3⟩, ⟨by decide, rfl, Try.isAgg3, ⟨_, Try.underlying3⟩, ⟨by decide, rfl, Try.isAgg3, ⟨_, Try.underlying3⟩, ⟨by decide, rfl, Try.isAgg3, ⟨_, Try.underlying3⟩, ⟨by decide, rfl, Try.isAgg3, ⟨_, Try.underlying3⟩, trivial⟩⟩⟩⟩⟩⟩⟩ }
def tI47 : TI := { agg := true, size := 6, bytes := 48, zero := [.int .i64 0, .int .i64 0, .int .i64 0, .int .i64 0, .int .i64 0, .int .i64 0], fields := [(3, 0, 1), (3, 1, 1), (3, 2, 1), (3, 3, 1), (3, 4, 1), (3, 5, 1)], elem := 0, len := 0, kind := 2, ik := .i64, eqs := [0, 1, 2, 3, 4, 5] }
theorem tIOK47 : TIOK Try.prog 47 tI47 := { agg := Try.isAgg47, size := Try.sizeOf47, infoM := ⟨.agg #[.int .i64 0, .int .i64 0, .int .i64 0, .int .i64 0, .int .i64 0, .int .i64 0], by kernel_rfl, rfl⟩, zlen := rfl, one := fun h => absurd h (by decide), zc := rfl, structM := fun _ => ⟨_, Try.underlying47, ⟨rfl, rfl, Nat.succ_ne_zero _, Try.sizeOf3, ⟨rfl, rfl, Nat.succ_ne_zero _, Try.sizeOf3, ⟨rfl, rfl, Nat.succ_ne_zero _, Try.sizeOf3, ⟨rfl, rfl, Nat.succ_ne_zero _, Try.sizeOf3, ⟨rfl, rfl, Nat.succ_ne_zero _, Try.sizeOf3, ⟨rfl, rfl, Nat.succ_ne_zero _, Try.sizeOf3, trivial⟩⟩⟩⟩⟩⟩⟩, slice := fun h => absurd h (by decide), array := fun h => absurd h (by decide), int := fun h => absurd h (by decide), str := fun h => absurd h (by decide), map := fun h => absurd h (by decide), bool := fun h => absurd h (by decide), eqf := .inr ⟨by kernel_rfl, by kernel_rfl, _, Try.underlying47, ⟨by decide, rfl, Try.isAgg3, ⟨_, Try.underlying3⟩, ⟨by decide, rfl, Try.isAgg3, ⟨_, Try.underlying3⟩, ⟨by decide, rfl, Try.isAgg3, ⟨_, Try.underlying3⟩, ⟨by decide, rfl, Try.isAgg3, ⟨_, Try.underlying3⟩, ⟨by decide, rfl, Try.isAgg3, ⟨_, Try.underlying3⟩, ⟨by decide, rfl, Try.isAgg3, ⟨_, Try.underlying3⟩, trivial⟩⟩⟩⟩⟩⟩⟩ }
def tI48 : TI := { agg := false, size := 1, bytes := 8, zero := [.nilFunc], fields := [], elem := 0, len := 0, kind := 0, ik := .i64, eqs := [] }
theorem tIOK48 : TIOK Try.prog 48 tI48 := { agg := Try.isAgg48, size := Try.sizeOf48, infoM := ⟨.nilFunc, by kernel_rfl, rfl⟩, zlen := rfl, one := fun _ => rfl, zc := rfl, structM := fun h => absurd h (by decide), slice := fun h => absurd h (by decide), array := fun h => absurd h (by decide), int := fun h => absurd h (by decide), str := fun h => absurd h (by decide), map := fun h => absurd h (by decide), bool := fun h => absurd h (by decide), eqf := .inl rfl }
def tI49 : TI := { agg := false, size := 1, bytes := 24, zero := [.slice none 0 0], fields := [], elem := 3, len := 0, kind := 3, ik := .i64, eqs := [] }
theorem tIOK49 : TIOK Try.prog 49 tI49 := { agg := Try.isAgg49, size := Try.sizeOf49, infoM := ⟨.slice none 0 0, by kernel_rfl, rfl⟩, zlen := rfl, one := fun _ => rfl, zc := rfl, structM := fun h => absurd h (by decide), slice := fun _ => Try.underlying49, array := fun h => absurd h (by decide), int := fun h => absurd h (by decide), str := fun h => absurd h (by decide), map := fun h => absurd h (by decide), bool := fun h => absurd h (by decide), eqf := .inl rfl }
def tI50 : TI := { agg := false, size := 1, bytes := 8, zero := [.nilFunc], fields := [], elem := 0, len := 0, kind := 0, ik := .i64, eqs := [] }
theorem tIOK50 : TIOK Try.prog 50 tI50 := { agg := Try.isAgg50, size := Try.sizeOf50, infoM := ⟨.nilFunc, by kernel_rfl, rfl⟩, zlen := rfl, one := fun _ => rfl, zc := rfl, structM := fun h => absurd h (by decide), slice := fun h => absurd h (by decide), array := fun h => absurd h (by decide), int := fun h => absurd h (by decide), str := fun h => absurd h (by decide), map := fun h => absurd h (by decide), bool := fun h => absurd h (by decide), eqf := .inl rfl }
def tI51 : TI := { agg := false, size := 1, bytes := 8, zero := [.nilFunc], fields := [], elem := 0, len := 0, kind := 0, ik := .i64, eqs := [] }
theorem tIOK51 : TIOK Try.prog 51 tI51 := { agg := Try.isAgg51, size := Try.sizeOf51, infoM := ⟨.nilFunc, by kernel_rfl, rfl⟩, zlen := rfl, one := fun _ => rfl, zc := rfl, structM := fun h => absurd h (by decide), slice := fun h => absurd h (by decide), array := fun h => absurd h (by decide), int := fun h => absurd h (by decide), str := fun h => absurd h (by decide), map := fun h => absurd h (by decide), bool := fun h => absurd h (by decide), eqf := .inl rfl }
def tI52 : TI := { agg := false, size := 1, bytes := 8, zero := [.nilFunc], fields := [], elem := 0, len := 0, kind := 0, ik := .i64, eqs := [] }
theorem tIOK52 : TIOK Try.prog 52 tI52 := { agg := Try.isAgg52, size := Try.sizeOf52, infoM := ⟨.nilFunc, by kernel_rfl, rfl⟩, zlen := rfl, one := fun _ => rfl, zc := rfl, structM := fun h => absurd h (by decide), slice := fun h => absurd h (by decide), array := fun h => absurd h (by decide), int := fun h => absurd h (by decide), str := fun h => absurd h (by decide), map := fun h => absurd h (by decide), bool := fun h => absurd h (by decide), eqf := .inl rfl }
def tI53 : TI := { agg := false, size := 1, bytes := 8, zero := [.nilFunc], fields := [], elem := 0, len := 0, kind := 0, ik := .i64, eqs := [] }
theorem tIOK53 : TIOK Try.prog 53 tI53 := { agg := Try.isAgg53, size := Try.sizeOf53, infoM := ⟨.nilFunc, by kernel_rfl, rfl⟩, zlen := rfl, one := fun _ => rfl, zc := rfl, structM := fun h => absurd h (by decide), slice := fun h => absurd h (by decide), array := fun h => absurd h (by decide), int := fun h => absurd h (by decide), str := fun h => absurd h (by decide), map := fun h => absurd h (by decide), bool := fun h => absurd h (by decide), eqf := .inl rfl }
def tI54 : TI := { agg := false, size := 1, bytes := 8, zero := [.nilFunc], fields := [], elem := 0, len := 0, kind := 0, ik := .i64, eqs := [] }
theorem tIOK54 : TIOK Try.prog 54 tI54 := { agg := Try.isAgg54, size := Try.sizeOf54, infoM := ⟨.nilFunc, by kernel_rfl, rfl⟩, zlen := rfl, one := fun _ => rfl, zc := rfl, structM := fun h => absurd h (by decide), slice := fun h => absurd h (by decide), array := fun h => absurd h (by decide), int := fun h => absurd h (by decide), str := fun h => absurd h (by decide), map := fun h => absurd h (by decide), bool := fun h => absurd h (by decide), eqf := .inl rfl }
def tI55 : TI := { agg := false, size := 1, bytes := 8, zero := [.nilFunc], fields := [], elem := 0, len := 0, kind := 0, ik := .i64, eqs := [] }
theorem tIOK55 : TIOK Try.prog 55 tI55 := { agg := Try.isAgg55, size := Try.sizeOf55, infoM := ⟨.nilFunc, by kernel_rfl, rfl⟩, zlen := rfl, one := fun _ => rfl, zc := rfl, structM := fun h => absurd h (by decide), slice := fun h => absurd h (by decide), array := fun h => absurd h (by decide), int := fun h => absurd h (by decide), str := fun h => absurd h (by decide), map := fun h => absurd h (by decide), bool := fun h => absurd h (by decide), eqf := .inl rfl }
def tI56 : TI := { agg := true, size := 4, bytes := 32, zero := [.int .i64 0, .int .i64 0, .int .i64 0, .int .i64 0], fields := [], elem := 3, len := 4, kind := 4, ik := .i64, eqs := [] }
theorem tIOK56 : TIOK Try.prog 56 tI56 := { agg := Try.isAgg56, size := Try.sizeOf56, infoM := ⟨.agg #[.int .i64 0, .int .i64 0, .int .i64 0, .int .i64 0], by kernel_rfl, rfl⟩, zlen := rfl, one := fun h => absurd h (by decide), zc := rfl, structM := fun h => absurd h (by decide), slice := fun h => absurd h (by decide), array := fun _ => Try.underlying56, int := fun h => absurd h (by decide), str := fun h => absurd h (by decide), map := fun h => absurd h (by decide), bool := fun h => absurd h (by decide), eqf := .inl rfl }
def tI57 : TI := { agg := true, size := 4, bytes := 96, zero := [.slice none 0 0, .slice none 0 0, .slice none 0 0, .slice none 0 0], fields := [], elem := 49, len := 4, kind := 4, ik := .i64, eqs := [] }
theorem tIOK57 : TIOK Try.prog 57 tI57 := { agg := Try.isAgg57, size := Try.sizeOf57, infoM := ⟨.agg #[.slice none 0 0, .slice none 0 0, .slice none 0 0, .slice none 0 0], by kernel_rfl, rfl⟩, zlen := rfl, one := fun h => absurd h (by decide), zc := rfl, structM := fun h => absurd h (by decide), slice := fun h => absurd h (by decide), array := fun _ => Try.underlying57, int := fun h => absurd h (by decide), str := fun h => absurd h (by decide), map := fun h => absurd h (by decide), bool := fun h => absurd h (by decide), eqf := .inl rfl }
def tI58 : TI := { agg := true, size := 13, bytes := 184, zero := [.int .i64 0, .int .i64 0, .int .i64 0, .int .i64 0, .int .i64 0, .int .i64 0, .int .i64 0, .int .i64 0, .slice none 0 0, .slice none 0 0, .slice none 0 0, .slice none 0 0, .slice none 0 0], fields := [(56, 0, 4), (56, 4, 4), (57, 8, 4), (24, 12, 1)], elem := 0, len := 0, kind := 2, ik := .i64, eqs := [] }
theorem tIOK58 : TIOK Try.prog 58 tI58 := { agg := Try.isAgg58, size := Try.sizeOf58, infoM := ⟨.agg #[.int .i64 0, .int .i64 0, .int .i64 0, .int .i64 0, .int .i64 0, .int .i64 0, .int .i64 0, .int .i64 0, .slice none 0 0, .slice none 0 0, .slice none 0 0, .slice none 0 0, .slice none 0 0], by kernel_rfl, rfl⟩, zlen := rfl, one := fun h => absurd h (by decide), zc := rfl, structM := fun _ => ⟨_, Try.underlying58, ⟨rfl, rfl, Nat.succ_ne_zero _, Try.sizeOf56, ⟨rfl, rfl, Nat.succ_ne_zero _, Try.sizeOf56, ⟨rfl, rfl, Nat.succ_ne_zero _, Try.sizeOf57, ⟨rfl, rfl, Nat.succ_ne_zero _, Try.sizeOf24, trivial⟩⟩⟩⟩⟩, slice := fun h => absurd h (by decide), array := fun h => absurd h (by decide), int := fun h => absurd h (by decide), str := fun h => absurd h (by decide), map := fun h => absurd h (by decide), bool := fun h => absurd h (by decide), eqf := .inl rfl }
def tI59 : TI := { agg := true, size := 13, bytes := 184, zero := [.int .i64 0, .int .i64 0, .int .i64 0, .int .i64 0, .int .i64 0, .int .i64 0, .int .i64 0, .int .i64 0, .slice none 0 0, .slice none 0 0, .slice none 0 0, .slice none 0 0, .slice none 0 0], fields := [(56, 0, 4), (56, 4, 4), (57, 8, 4), (24, 12, 1)], elem := 0, len := 0, kind := 2, ik := .i64, eqs := [] }
theorem tIOK59 : TIOK Try.prog 59 tI59 := { agg := Try.isAgg59, size := Try.sizeOf59, infoM := ⟨.agg #[.int .i64 0, .int .i64 0, .int .i64 0, .int .i64 0, .int .i64 0, .int .i64 0, .int .i64 0, .int .i64 0, .slice none 0 0, .slice none 0 0, .slice none 0 0, .slice none 0 0, .slice none 0 0], by kernel_rfl, rfl⟩, zlen := rfl, one := fun h => absurd h (by decide), zc := rfl, structM := fun _ => ⟨_, Try.underlying59, ⟨rfl, rfl, Nat.succ_ne_zero _, Try.sizeOf56, ⟨rfl, rfl, Nat.succ_ne_zero _, Try.sizeOf56, ⟨rfl, rfl, Nat.succ_ne_zero _, Try.sizeOf57, ⟨rfl, rfl, Nat.succ_ne_zero _, Try.sizeOf24, trivial⟩⟩⟩⟩⟩, slice := fun h => absurd h (by decide), array := fun h => absurd h (by decide), int := fun h => absurd h (by decide), str := fun h => absurd h (by decide), map := fun h => absurd h (by decide), bool := fun h => absurd h (by decide), eqf := .inl rfl }
def tI60 : TI := { agg := false, size := 1, bytes := 24, zero := [.slice none 0 0], fields := [], elem := 67, len := 0, kind := 3, ik := .i64, eqs := [] }
theorem tIOK60 : TIOK Try.prog 60 tI60 := { agg := Try.isAgg60, size := Try.sizeOf60, infoM := ⟨.slice none 0 0, by kernel_rfl, rfl⟩, zlen := rfl, one := fun _ => rfl, zc := rfl, structM := fun h => absurd h (by decide), slice := fun _ => Try.underlying60, array := fun h => absurd h (by decide), int := fun h => absurd h (by decide), str := fun h => absurd h (by decide), map := fun h => absurd h (by decide), bool := fun h => absurd h (by decide), eqf := .inl rfl }
def tI62 : TI := { agg := false, size := 1, bytes := 8, zero := [.nilFunc], fields := [], elem := 0, len := 0, kind := 0, ik := .i64, eqs := [] }
theorem tIOK62 : TIOK Try.prog 62 tI62 := { agg := Try.isAgg62, size := Try.sizeOf62, infoM := ⟨.nilFunc, by kernel_rfl, rfl⟩, zlen := rfl, one := fun _ => rfl, zc := rfl, structM := fun h => absurd h (by decide), slice := fun h => absurd h (by decide), array := fun h => absurd h (by decide), int := fun h => absurd h (by decide), str := fun h => absurd h (by decide), map := fun h => absurd h (by decide), bool := fun h => absurd h (by decide), eqf := .inl rfl }
def tI63 : TI := { agg := false, size := 1, bytes := 24, zero := [.slice none 0 0], fields := [], elem := 69, len := 0, kind := 3, ik := .i64, eqs := [] }
theorem tIOK63 : TIOK Try.prog 63 tI63 := { agg := Try.isAgg63, size := Try.sizeOf63, infoM := ⟨.slice none 0 0, by kernel_rfl, rfl⟩, zlen := rfl, one := fun _ => rfl, zc := rfl, structM := fun h => absurd h (by decide), slice := fun _ => Try.underlying63, array := fun h => absurd h (by decide), int := fun h => absurd h (by decide), str := fun h => absurd h (by decide), map := fun h => absurd h (by decide), bool := fun h => absurd h (by decide), eqf := .inl rfl }
def tI65 : TI := { agg := false, size := 1, bytes := 8, zero := [.nilFunc], fields := [], elem := 0, len := 0, kind := 0, ik := .i64, eqs := [] }
theorem tIOK65 : TIOK Try.prog 65 tI65 := { agg := Try.isAgg65, size := Try.sizeOf65, infoM := ⟨.nilFunc, by kernel_rfl, rfl⟩, zlen := rfl, one := fun _ => rfl, zc := rfl, structM := fun h => absurd h (by decide), slice := fun h => absurd h (by decide), array := fun h => absurd h (by decide), int := fun h => absurd h (by decide), str := fun h => absurd h (by decide), map := fun h => absurd h (by decide), bool := fun h => absurd h (by decide), eqf := .inl rfl }
def tI66 : TI := { agg := true, size := 4, bytes := 32, zero := [.int .i64 0, .int .i64 0, .int .i64 0, .int .i64 0], fields := [(3, 0, 1), (3, 1, 1), (3, 2, 1), (3, 3, 1)], elem := 0, len := 0, kind := 2, ik := .i64, eqs := [0, 1, 2, 3] }
theorem tIOK66 : TIOK Try.prog 66 tI66 := { agg := Try.isAgg66, size := Try.sizeOf66, infoM := ⟨.agg #[.int .i64 0, .int .i64 0, .int .i64 0, .int .i64 0], by kernel_rfl, rfl⟩, zlen := rfl, one := fun h => absurd h (by decide), zc := rfl, structM := fun _ => ⟨_, Try.underlying66, ⟨rfl, rfl, Nat.succ_ne_zero _, Try.sizeOf3, ⟨rfl, rfl, Nat.succ_ne_zero _, Try.sizeOf3, ⟨rfl, rfl, Nat.succ_ne_zero _, Try.sizeOf3, ⟨rfl, rfl, Nat.succ_ne_zero _, Try.sizeOf3, trivial⟩⟩⟩⟩⟩, slice := fun h => absurd h (by decide), array := fun h => absurd h (by decide), int := fun h => absurd h (by decide), str := fun h => absurd h (by decide), map := fun h => absurd h (by decide), bool := fun h => absurd h (by decide), eqf := .inr ⟨by kernel_rfl, by kernel_rfl, _, Try.underlying66, ⟨by decide, rfl, Try.isAgg3, ⟨_, Try.underlying3⟩, ⟨by decide, rfl, Try.isAgg3, ⟨_, Try.underlying3⟩, ⟨by decide, rfl, Try.isAgg3, ⟨_, Try.underlying3⟩, ⟨by decide, rfl, Try.isAgg3, ⟨_, Try.underlying3⟩, trivial⟩⟩⟩⟩⟩ }
def tI67 : TI := { agg := true, size := 4, bytes := 32, zero := [.int .i64 0, .int .i64 0, .int .i64 0, .int .i64 0], fields := [(3, 0, 1), (3, 1, 1), (3, 2, 1), (3, 3, 1)], elem := 0, len := 0, kind := 2, ik := .i64, eqs := [0, 1, 2, 3] }
theorem tIOK67 : TIOK Try.prog 67 tI67 := { agg := Try.isAgg67, size := Try.sizeOf67, infoM := ⟨.agg #[.int .i64 0, .int .i64 0, .int .i64 0, .int .i64 0], by kernel_rfl, rfl⟩, zlen := rfl, one := fun h => absurd h (by decide), zc := rfl, structM := fun _ => ⟨_, Try.underlying67, ⟨rfl, rfl, Nat.succ_ne_zero _, Try.sizeOf3, ⟨rfl, rfl, Nat.succ_ne_zero _, Try.sizeOf3, ⟨rfl, rfl, Nat.succ_ne_zero _, Try.sizeOf3, ⟨rfl, rfl, Nat.succ_ne_zero _, Try.sizeOf3, trivial⟩⟩⟩⟩⟩, slice := fun h => absurd h (by decide), array := fun h => absurd h (by decide), int := fun h => absurd h (by decide), str := fun h => absurd h (by decide), map := fun h => absurd h (by decide), bool := fun h => absurd h (by decide), eqf := .inr ⟨by kernel_rfl, by kernel_rfl, _, Try.underlying67, ⟨by decide, rfl, Try.isAgg3, ⟨_, Try.underlying3⟩, ⟨by decide, rfl, Try.isAgg3, ⟨_, Try.underlying3⟩, ⟨by decide, rfl, Try.isAgg3, ⟨_, Try.underlying3⟩, ⟨by decide, rfl, Try.isAgg3, ⟨_, Try.underlying3⟩, trivial⟩⟩⟩⟩⟩ }
def tI68 : TI := { agg := true, size := 6, bytes := 48, zero := [.int .i64 0, .int .i64 0, .int .i64 0, .int .i64 0, .int .i64 0, .int .i64 0], fields := [(3, 0, 1), (3, 1, 1), (3, 2, 1), (3, 3, 1), (3, 4, 1), (3, 5, 1)], elem := 0, len := 0, kind := 2, ik := .i64, eqs := [0, 1, 2, 3, 4, 5] }
theorem tIOK68 : TIOK Try.prog 68 tI68 := { agg := Try.isAgg68, size := Try.sizeOf68, infoM := ⟨.agg #[.int .i64 0, .int .i64 0, .int .i64 0, .int .i64 0, .int .i64 0, .int .i64 0], by kernel_rfl, rfl⟩, zlen := rfl, one := fun h => absurd h (by decide), zc := rfl, structM := fun _ => ⟨_, Try.underlying68, ⟨rfl, rfl, Nat.succ_ne_zero _, Try.sizeOf3, ⟨rfl, rfl, Nat.succ_ne_zero _, Try.sizeOf3, ⟨rfl, rfl, Nat.succ_ne_zero _, Try.sizeOf3, ⟨rfl, rfl, Nat.succ_ne_zero _, Try.sizeOf3, ⟨rfl, rfl, Nat.succ_ne_zero _, Try.sizeOf3, ⟨rfl, rfl, Nat.succ_ne_zero _, Try.sizeOf3, trivial⟩⟩⟩⟩⟩⟩⟩, slice := fun h => absurd h (by decide), array := fun h => absurd h (by decide), int := fun h => absurd h (by decide), str := fun h => absurd h (by decide), map := fun h => absurd h (by decide), bool := fun h => absurd h (by decide), eqf := .inr ⟨by kernel_rfl, by kernel_rfl, _, Try.underlying68, ⟨by decide, rfl, Try.isAgg3, ⟨_, Try.underlying3⟩, ⟨by decide, rfl, Try.isAgg3, ⟨_, Try.underlying3⟩, ⟨by decide, rfl, Try.isAgg3, ⟨_, Try.underlying3⟩, ⟨by decide, rfl, Try.isAgg3, ⟨_, Try.underlying3⟩, ⟨by decide, rfl, Try.isAgg3, ⟨_, Try.underlying3⟩, ⟨by decide, rfl, Try.isAgg3, ⟨_, Try.underlying3⟩, trivial⟩⟩⟩⟩⟩⟩⟩ }
def tI69 : TI := { agg := true, size := 6, bytes := 48, zero := [.int .i64 0, .int .i64 0, .int .i64 0, .int .i64 0, .int .i64 0, .int .i64 0], fields := [(3, 0, 1), (3, 1, 1), (3, 2, 1), (3, 3, 1), (3, 4, 1), (3, 5, 1)], elem := 0, len := 0, kind := 2, ik := .i64, eqs := [0, 1, 2, 3, 4, 5] }
theorem tIOK69 : TIOK Try.prog 69 tI69 := { agg := Try.isAgg69, size := Try.sizeOf69, infoM := ⟨.agg #[.int .i64 0, .int .i64 0, .int .i64 0, .int .i64 0, .int .i64 0, .int .i64 0], by kernel_rfl, rfl⟩, zlen := rfl, one := fun h => absurd h (by decide), zc := rfl, structM := fun _ => ⟨_, Try.underlying69, ⟨rfl, rfl, Nat.succ_ne_zero _, Try.sizeOf3, ⟨rfl, rfl, Nat.succ_ne_zero _, Try.sizeOf3, ⟨rfl, rfl, Nat.succ_ne_zero _, Try.sizeOf3, ⟨rfl, rfl, Nat.succ_ne_zero _, Try.sizeOf3, ⟨rfl, rfl, Nat.succ_ne_zero _, Try.sizeOf3, ⟨rfl, rfl, Nat.succ_ne_zero _, Try.sizeOf3, trivial⟩⟩⟩⟩⟩⟩⟩, slice := fun h => absurd h (by decide), array := fun h => absurd h (by decide), int := fun h => absurd h (by decide), str := fun h => absurd h (by decide), map := fun h => absurd h (by decide), bool := fun h => absurd h (by decide), eqf := .inr ⟨by kernel_rfl, by kernel_rfl, _, Try.underlying69, ⟨by decide, rfl, Try.isAgg3, ⟨_, Try.underlying3⟩, ⟨by decide, rfl, Try.isAgg3, ⟨_, Try.underlying3⟩, ⟨by decide, rfl, Try.isAgg3, ⟨_, Try.underlying3⟩, ⟨by decide, rfl, Try.isAgg3, ⟨_, Try.underlying3⟩, ⟨by decide, rfl, Try.isAgg3, ⟨_, Try.underlying3⟩, ⟨by decide, rfl, Try.isAgg3, ⟨_, Try.underlying3⟩, trivial⟩⟩⟩⟩⟩⟩⟩ }
def tI70 : TI := { agg := false, size := 1, bytes := 8, zero := [.nilFunc], fields := [], elem := 0, len := 0, kind := 0, ik := .i64, eqs := [] }
theorem tIOK70 : TIOK Try.prog 70 tI70 := { agg := Try.isAgg70, size := Try.sizeOf70, infoM := ⟨.nilFunc, by kernel_rfl, rfl⟩, zlen := rfl, one := fun _ => rfl, zc := rfl, structM := fun h => absurd h (by decide), slice := fun h => absurd h (by decide), array := fun h => absurd h (by decide), int := fun h => absurd h (by decide), str := fun h => absurd h (by decide), map := fun h => absurd h (by decide), bool := fun h => absurd h (by decide), eqf := .inl rfl }
def tI71 : TI := { agg := false, size := 1, bytes := 8, zero := [.nilFunc], fields := [], elem := 0, len := 0, kind := 0, ik := .i64, eqs := [] }
theorem tIOK71 : TIOK Try.prog 71 tI71 := { agg := Try.isAgg71, size := Try.sizeOf71, infoM := ⟨.nilFunc, by kernel_rfl, rfl⟩, zlen := rfl, one := fun _ => rfl, zc := rfl, structM := fun h => absurd h (by decide), slice := fun h => absurd h (by decide), array := fun h => absurd h (by decide), int := fun h => absurd h (by decide), str := fun h => absurd h (by decide), map := fun h => absurd h (by decide), bool := fun h => absurd h (by decide), eqf := .inl rfl }
def tI72 : TI := { agg := false, size := 1, bytes := 8, zero := [.nilFunc], fields := [], elem := 0, len := 0, kind := 0, ik := .i64, eqs := [] }
theorem tIOK72 : TIOK Try.prog 72 tI72 := { agg := Try.isAgg72, size := Try.sizeOf72, infoM := ⟨.nilFunc, by kernel_rfl, rfl⟩, zlen := rfl, one := fun _ => rfl, zc := rfl, structM := fun h => absurd h (by decide), slice := fun h => absurd h (by decide), array := fun h => absurd h (by decide), int := fun h => absurd h (by decide), str := fun h => absurd h (by decide), map := fun h => absurd h (by decide), bool := fun h => absurd h (by decide), eqf := .inl rfl }
def tI73 : TI := { agg := false, size := 1, bytes := 8, zero := [.nilFunc], fields := [], elem := 0, len := 0, kind := 0, ik := .i64, eqs := [] }
theorem tIOK73 : TIOK Try.prog 73 tI73 := { agg := Try.isAgg73, size := Try.sizeOf73, infoM := ⟨.nilFunc, by kernel_rfl, rfl⟩, zlen := rfl, one := fun _ => rfl, zc := rfl, structM := fun h => absurd h (by decide), slice := fun h => absurd h (by decide), array := fun h => absurd h (by decide), int := fun h => absurd h (by decide), str := fun h => absurd h (by decide), map := fun h => absurd h (by decide), bool := fun h => absurd h (by decide), eqf := .inl rfl }
def tI74 : TI := { agg := true, size := 3, bytes := 24, zero := [.int .i64 0, .int .i64 0, .int .i64 0], fields := [(3, 0, 1), (3, 1, 1), (3, 2, 1)], elem := 0, len := 0, kind := 2, ik := .i64, eqs := [0, 1, 2] }
theorem tIOK74 : TIOK Try.prog 74 tI74 := { agg := Try.isAgg74, size := Try.sizeOf74, infoM := ⟨.agg #[.int .i64 0, .int .i64 0, .int .i64 0], by kernel_rfl, rfl⟩, zlen := rfl, one := fun h => absurd h (by decide), zc := rfl, structM := fun _ => ⟨_, Try.underlying74, ⟨rfl, rfl, Nat.succ_ne_zero _, Try.sizeOf3, ⟨rfl, rfl, Nat.succ_ne_zero _, Try.sizeOf3, ⟨rfl, rfl, Nat.succ_ne_zero _, Try.sizeOf3, trivial⟩⟩⟩⟩, slice := fun h => absurd h (by decide), array := fun h => absurd h (by decide), int := fun h => absurd h (by decide), str := fun h => absurd h (by decide), map := fun h => absurd h (by decide), bool := fun h => absurd h (by decide), eqf := .inr ⟨by kernel_rfl, by kernel_rfl, _, Try.underlying74, ⟨by decide, rfl, Try.isAgg3, ⟨_, Try.underlying3⟩, ⟨by decide, rfl, Try.isAgg3, ⟨_, Try.underlying3⟩, ⟨by decide, rfl, Try.isAgg3, ⟨_, Try.underlying3⟩, trivial⟩⟩⟩⟩ }
def tI75 : TI := { agg := true, size := 3, bytes := 24, zero := [.int .i64 0, .int .i64 0, .int .i64 0], fields := [(3, 0, 1), (3, 1, 1), (3, 2, 1)], elem := 0, len := 0, kind := 2, ik := .i64, eqs := [0, 1, 2] }
theorem tIOK75 : TIOK Try.prog 75 tI75 := { agg := Try.isAgg75, size := Try.sizeOf75, infoM := ⟨.agg #[.int .i64 0, .int .i64 0, .int .i64 0], by kernel_rfl, rfl⟩, zlen := rfl, one := fun h => absurd h (by decide), zc := rfl, structM := fun _ => ⟨_, Try.underlying75, ⟨rfl, rfl, Nat.succ_ne_zero _, Try.sizeOf3, ⟨rfl, rfl, Nat.succ_ne_zero _, Try.sizeOf3, ⟨rfl, rfl, Nat.succ_ne_zero _, Try.sizeOf3, trivial⟩⟩⟩⟩, slice := fun h => absurd h (by decide), array := fun h => absurd h (by decide), int := fun h => absurd h (by decide), str := fun h => absurd h (by decide), map := fun h => absurd h (by decide), bool := fun h => absurd h (by decide), eqf := .inr ⟨by kernel_rfl, by kernel_rfl, _, Try.underlying75, ⟨by decide, rfl, Try.isAgg3, ⟨_, Try.underlying3⟩, ⟨by decide, rfl, Try.isAgg3, ⟨_, Try.underlying3⟩, ⟨by decide, rfl, Try.isAgg3, ⟨_, Try.underlying3⟩, trivial⟩⟩⟩⟩ }
def tI76 : TI := { agg := true, size := 5, bytes := 40, zero := [.int .i64 0, .int .i64 0, .int .i64 0, .int .i64 0, .int .i64 0], fields := [], elem := 3, len := 5, kind := 4, ik := .i64, eqs := [] }
theorem tIOK76 : TIOK Try.prog 76 tI76 := { agg := Try.isAgg76, size := Try.sizeOf76, infoM := ⟨.agg #[.int .i64 0, .int .i64 0, .int .i64 0, .int .i64 0, .int .i64 0], by kernel_rfl, rfl⟩, zlen := rfl, one := fun h => absurd h (by decide), zc := rfl, structM := fun h => absurd h (by decide), slice := fun h => absurd h (by decide), array := fun _ => Try.underlying76, int := fun h => absurd h (by decide), str := fun h => absurd h (by decide), map := fun h => absurd h (by decide), bool := fun h => absurd h (by decide), eqf := .inl rfl }
def tI77 : TI := { agg := false, size := 1, bytes := 8, zero := [.nilFunc], fields := [], elem := 0, len := 0, kind := 0, ik := .i64, eqs := [] }
theorem tIOK77 : TIOK Try.prog 77 tI77 := { agg := Try.isAgg77, size := Try.sizeOf77, infoM := ⟨.nilFunc, by kernel_rfl, rfl⟩, zlen := rfl, one := fun _ => rfl, zc := rfl, structM := fun h => absurd h (by decide), slice := fun h => absurd h (by decide), array := fun h => absurd h (by decide), int := fun h => absurd h (by decide), str := fun h => absurd h (by decide), map := fun h => absurd h (by decide), bool := fun h => absurd h (by decide), eqf := .inl rfl }
def tI78 : TI := { agg := false, size := 1, bytes := 8, zero := [.nilFunc], fields := [], elem := 0, len := 0, kind := 0, ik := .i64, eqs := [] }
theorem tIOK78 : TIOK Try.prog 78 tI78 := { agg := Try.isAgg78, size := Try.sizeOf78, infoM := ⟨.nilFunc, by kernel_rfl, rfl⟩, zlen := rfl, one := fun _ => rfl, zc := rfl, structM := fun h => absurd h (by decide), slice := fun h => absurd h (by decide), array := fun h => absurd h (by decide), int := fun h => absurd h (by decide), str := fun h => absurd h (by decide), map := fun h => absurd h (by decide), bool := fun h => absurd h (by decide), eqf := .inl rfl }
def tI79 : TI := { agg := false, size := 1, bytes := 8, zero := [.nilFunc], fields := [], elem := 0, len := 0, kind := 0, ik := .i64, eqs := [] }
theorem tIOK79 : TIOK Try.prog 79 tI79 := { agg := Try.isAgg79, size := Try.sizeOf79, infoM := ⟨.nilFunc, by kernel_rfl, rfl⟩, zlen := rfl, one := fun _ => rfl, zc := rfl, structM := fun h => absurd h (by decide), slice := fun h => absurd h (by decide), array := fun h => absurd h (by decide), int := fun h => absurd h (by decide), str := fun h => absurd h (by decide), map := fun h => absurd h (by decide), bool := fun h => absurd h (by decide), eqf := .inl rfl }
def tI80 : TI := { agg := false, size := 1, bytes := 8, zero := [.nilFunc], fields := [], elem := 0, len := 0, kind := 0, ik := .i64, eqs := [] }
theorem tIOK80 : TIOK Try.prog 80 tI80 := { agg := Try.isAgg80, size := Try.sizeOf80, infoM := ⟨.nilFunc, by kernel_rfl, rfl⟩, zlen := rfl, one := fun _ => rfl, zc := rfl, structM := fun h => absurd h (by decide), slice := fun h => absurd h (by decide), array := fun h => absurd h (by decide), int := fun h => absurd h (by decide), str := fun h => absurd h (by decide), map := fun h => absurd h (by decide), bool := fun h => absurd h (by decide), eqf := .inl rfl }
def tI81 : TI := { agg := false, size := 1, bytes := 8, zero := [.map none], fields := [], elem := 47, len := 85, kind := 8, ik := .i64, eqs := [] }
theorem tIOK81 : TIOK Try.prog 81 tI81 := { agg := Try.isAgg81, size := Try.sizeOf81, infoM := ⟨.map none, by kernel_rfl, rfl⟩, zlen := rfl, one := fun _ => rfl, zc := rfl, structM := fun h => absurd h (by decide), slice := fun h => absurd h (by decide), array := fun h => absurd h (by decide), int := fun h => absurd h (by decide), str := fun h => absurd h (by decide), map := fun _ => Try.underlying81, bool := fun h => absurd h (by decide), eqf := .inl rfl }
def tI82 : TI := { agg := false, size := 1, bytes := 8, zero := [.nilFunc], fields := [], elem := 0, len := 0, kind := 0, ik := .i64, eqs := [] }
theorem tIOK82 : TIOK Try.prog 82 tI82 := { agg := Try.isAgg82, size := Try.sizeOf82, infoM := ⟨.nilFunc, by kernel_rfl, rfl⟩, zlen := rfl, one := fun _ => rfl, zc := rfl, structM := fun h => absurd h (by decide), slice := fun h => absurd h (by decide), array := fun h => absurd h (by decide), int := fun h => absurd h (by decide), str := fun h => absurd h (by decide), map := fun h => absurd h (by decide), bool := fun h => absurd h (by decide), eqf := .inl rfl }
def tI84 : TI := { agg := true, size := 3, bytes := 24, zero := [.int .i64 0, .int .i64 0, .int .i64 0], fields := [(3, 0, 1), (3, 1, 1), (3, 2, 1)], elem := 0, len := 0, kind := 2, ik := .i64, eqs := [0, 1, 2] }
theorem tIOK84 : TIOK Try.prog 84 tI84 := { agg := Try.isAgg84, size := Try.sizeOf84, infoM := ⟨.agg #[.int .i64 0, .int .i64 0, .int .i64 0], by kernel_rfl, rfl⟩, zlen := rfl, one := fun h => absurd h (by decide), zc := rfl, structM := fun _ => ⟨_, Try.underlying84, ⟨rfl, rfl, Nat.succ_ne_zero _, Try.sizeOf3, ⟨rfl, rfl, Nat.succ_ne_zero _, Try.sizeOf3, ⟨rfl, rfl, Nat.succ_ne_zero _, Try.sizeOf3, trivial⟩⟩⟩⟩, slice := fun h => absurd h (by decide), array := fun h => absurd h (by decide), int := fun h => absurd h (by decide), str := fun h => absurd h (by decide), map := fun h => absurd h (by decide), bool := fun h => absurd h (by decide), eqf := .inr ⟨by kernel_rfl, by kernel_rfl, _, Try.underlying84, ⟨by decide, rfl, Try.isAgg3, ⟨_, Try.underlying3⟩, ⟨by decide, rfl, Try.isAgg3, ⟨_, Try.underlying3⟩, ⟨by decide, rfl, Try.isAgg3, ⟨_, Try.underlying3⟩, trivial⟩⟩⟩⟩ }
def tI85 : TI := { agg := true, size := 3, bytes := 24, zero := [.int .i64 0, .int .i64 0, .int .i64 0], fields := [(3, 0, 1), (3, 1, 1), (3, 2, 1)], elem := 0, len := 0, kind := 2, ik := .i64, eqs := [0, 1, 2] }
theorem tIOK85 : TIOK Try.prog 85 tI85 := { agg := Try.isAgg85, size := Try.sizeOf85, infoM := ⟨.agg #[.int .i64 0, .int .i64 0, .int .i64 0], by kernel_rfl, rfl⟩, zlen := rfl, one := fun h => absurd h (by decide), zc := rfl, structM := fun _ => ⟨_, Try.underlying85, ⟨rfl, rfl, Nat.succ_ne_zero _, Try.sizeOf3, ⟨rfl, rfl, Nat.succ_ne_zero _, Try.sizeOf3, ⟨rfl, rfl, Nat.succ_ne_zero _, Try.sizeOf3, trivial⟩⟩⟩⟩, slice := fun h => absurd h (by decide), array := fun h => absurd h (by decide), int := fun h => absurd h (by decide), str := fun h => absurd h (by decide), map := fun h => absurd h (by decide), bool := fun h => absurd h (by decide), eqf := .inr ⟨by kernel_rfl, by kernel_rfl, _, Try.underlying85, ⟨by decide, rfl, Try.isAgg3, ⟨_, Try.underlying3⟩, ⟨by decide, rfl, Try.isAgg3, ⟨_, Try.underlying3⟩, ⟨by decide, rfl, Try.isAgg3, ⟨_, Try.underlying3⟩, trivial⟩⟩⟩⟩ }
def tI86 : TI := { agg := false, size := 1, bytes := 8, zero := [.nilFunc], fields := [], elem := 0, len := 0, kind := 0, ik := .i64, eqs := [] }
theorem tIOK86 : TIOK Try.prog 86 tI86 := { agg := Try.isAgg86, size := Try.sizeOf86, infoM := ⟨.nilFunc, by kernel_rfl, rfl⟩, zlen := rfl, one := fun _ => rfl, zc := rfl, structM := fun h => absurd h (by decide), slice := fun h => absurd h (by decide), array := fun h => absurd h (by decide), int := fun h => absurd h (by decide), str := fun h => absurd h (by decide), map := fun h => absurd h (by decide), bool := fun h => absurd h (by decide), eqf := .inl rfl }
def tI87 : TI := { agg := false, size := 1, bytes := 8, zero := [.nilFunc], fields := [], elem := 0, len := 0, kind := 0, ik := .i64, eqs := [] }
theorem tIOK87 : TIOK Try.prog 87 tI87 := { agg := Try.isAgg87, size := Try.sizeOf87, infoM := ⟨.nilFunc, by kernel_rfl, rfl⟩, zlen := rfl, one := fun _ => rfl, zc := rfl, structM := fun h => absurd h (by decide), slice := fun h => absurd h (by decide), array := fun h => absurd h (by decide), int := fun h => absurd h (by decide), str := fun h => absurd h (by decide), map := fun h => absurd h (by decide), bool := fun h => absurd h (by decide), eqf := .inl rfl }
def tI88 : TI := { agg := false, size := 1, bytes := 8, zero := [.nilFunc], fields := [], elem := 0, len := 0, kind := 0, ik := .i64, eqs := [] }
theorem tIOK88 : TIOK Try.prog 88 tI88 := { agg := Try.isAgg88, size := Try.sizeOf88, infoM := ⟨.nilFunc, by kernel_rfl, rfl⟩, zlen := rfl, one := fun _ => rfl, zc := rfl, structM := fun h => absurd h (by decide), slice := fun h => absurd h (by decide), array := fun h => absurd h (by decide), int := fun h => absurd h (by decide), str := fun h => absurd h (by decide), map := fun h => absurd h (by decide), bool := fun h => absurd h (by decide), eqf := .inl rfl }
def tI89 : TI := { agg := false, size := 1, bytes := 8, zero := [.nilFunc], fields := [], elem := 0, len := 0, kind := 0, ik := .i64, eqs := [] }
theorem tIOK89 : TIOK Try.prog 89 tI89 := { agg := Try.isAgg89, size := Try.sizeOf89, infoM := ⟨.nilFunc, by kernel_rfl, rfl⟩, zlen := rfl, one := fun _ => rfl, zc := rfl, structM := fun h => absurd h (by decide), slice := fun h => absurd h (by decide), array := fun h => absurd h (by decide), int := fun h => absurd h (by decide), str := fun h => absurd h (by decide), map := fun h => absurd h (by decide), bool := fun h => absurd h (by decide), eqf := .inl rfl }
def tI90 : TI := { agg := false, size := 1, bytes := 8, zero := [.nilFunc], fields := [], elem := 0, len := 0, kind := 0, ik := .i64, eqs := [] }
theorem tIOK90 : TIOK Try.prog 90 tI90 := { agg := Try.isAgg90, size := Try.sizeOf90, infoM := ⟨.nilFunc, by kernel_rfl, rfl⟩, zlen := rfl, one := fun _ => rfl, zc := rfl, structM := fun h => absurd h (by decide), slice := fun h => absurd h (by decide), array := fun h => absurd h (by decide), int := fun h => absurd h (by decide), str := fun h => absurd h (by decide), map := fun h => absurd h (by decide), bool := fun h => absurd h (by decide), eqf := .inl rfl }
def tI91 : TI := { agg := false, size := 1, bytes := 8, zero := [.nilFunc], fields := [], elem := 0, len := 0, kind := 0, ik := .i64, eqs := [] }
theorem tIOK91 : TIOK Try.prog 91 tI91 := { agg := Try.isAgg91, size := Try.sizeOf91, infoM := ⟨.nilFunc, by kernel_rfl, rfl⟩, zlen := rfl, one := fun _ => rfl, zc := rfl, structM := fun h => absurd h (by decide), slice := fun h => absurd h (by decide), array := fun h => absurd h (by decide), int := fun h => absurd h (by decide), str := fun h => absurd h (by decide), map := fun h => absurd h (by decide), bool := fun h => absurd h (by decide), eqf := .inl rfl }
def tI92 : TI := { agg := false, size := 1, bytes := 8, zero := [.nilFunc], fields := [], elem := 0, len := 0, kind := 0, ik := .i64, eqs := [] }
theorem tIOK92 : TIOK Try.prog 92 tI92 := { agg := Try.isAgg92, size := Try.sizeOf92, infoM := ⟨.nilFunc, by kernel_rfl, rfl⟩, zlen := rfl, one := fun _ => rfl, zc := rfl, structM := fun h => absurd h (by decide), slice := fun h => absurd h (by decide), array := fun h => absurd h (by decide), int := fun h => absurd h (by decide), str := fun h => absurd h (by decide), map := fun h => absurd h (by decide), bool := fun h => absurd h (by decide), eqf := .inl rfl }
def tI93 : TI := { agg := false, size := 1, bytes := 8, zero := [.nilFunc], fields := [], elem := 0, len := 0, kind := 0, ik := .i64, eqs := [] }
theorem tIOK93 : TIOK Try.prog 93 tI93 := { agg := Try.isAgg93, size := Try.sizeOf93, infoM := ⟨.nilFunc, by kernel_rfl, rfl⟩, zlen := rfl, one := fun _ => rfl, zc := rfl, structM := fun h => absurd h (by decide), slice := fun h => absurd h (by decide), array := fun h => absurd h (by decide), int := fun h => absurd h (by decide), str := fun h => absurd h (by decide), map := fun h => absurd h (by decide), bool := fun h => absurd h (by decide), eqf := .inl rfl }
def tI94 : TI := { agg := false, size := 1, bytes := 8, zero := [.nilFunc], fields := [], elem := 0, len := 0, kind := 0, ik := .i64, eqs := [] }
theorem tIOK94 : TIOK Try.prog 94 tI94 := { agg := Try.isAgg94, size := Try.sizeOf94, infoM := ⟨.nilFunc, by kernel_rfl, rfl⟩, zlen := rfl, one := fun _ => rfl, zc := rfl, structM := fun h => absurd h (by decide), slice := fun h => absurd h (by decide), array := fun h => absurd h (by decide), int := fun h => absurd h (by decide), str := fun h => absurd h (by decide), map := fun h => absurd h (by decide), bool := fun h => absurd h (by decide), eqf := .inl rfl }
def tI95 : TI := { agg := false, size := 1, bytes := 8, zero := [.nilFunc], fields := [], elem := 0, len := 0, kind := 0, ik := .i64, eqs := [] }
theorem tIOK95 : TIOK Try.prog 95 tI95 := { agg := Try.isAgg95, size := Try.sizeOf95, infoM := ⟨.nilFunc, by kernel_rfl, rfl⟩, zlen := rfl, one := fun _ => rfl, zc := rfl, structM := fun h => absurd h (by decide), slice := fun h => absurd h (by decide), array := fun h => absurd h (by decide), int := fun h => absurd h (by decide), str := fun h => absurd h (by decide), map := fun h => absurd h (by decide), bool := fun h => absurd h (by decide), eqf := .inl rfl }
def tI96 : TI := { agg := false, size := 1, bytes := 8, zero := [.nilFunc], fields := [], elem := 0, len := 0, kind := 0, ik := .i64, eqs := [] }
theorem tIOK96 : TIOK Try.prog 96 tI96 := { agg := Try.isAgg96, size := Try.sizeOf96, infoM := ⟨.nilFunc, by kernel_rfl, rfl⟩, zlen := rfl, one := fun _ => rfl, zc := rfl, structM := fun h => absurd h (by decide), slice := fun h => absurd h (by decide), array := fun h => absurd h (by decide), int := fun h => absurd h (by decide), str := fun h => absurd h (by decide), map := fun h => absurd h (by decide), bool := fun h => absurd h (by decide), eqf := .inl rfl }
def tI97 : TI := { agg := false, size := 1, bytes := 8, zero := [.int .u64 0], fields := [], elem := 0, len := 0, kind := 5, ik := .u64, eqs := [] }
theorem tIOK97 : TIOK Try.prog 97 tI97 := { agg := Try.isAgg97, size := Try.sizeOf97, infoM := ⟨.int .u64 0, by kernel_rfl, rfl⟩, zlen := rfl, one := fun _ => rfl, zc := rfl, structM := fun h => absurd h (by decide), slice := fun h => absurd h (by decide), array := fun h => absurd h (by decide), int := fun _ => Try.underlying97, str := fun h => absurd h (by decide), map := fun h => absurd h (by decide), bool := fun h => absurd h (by decide), eqf := .inl rfl }
def tI98 : TI := { agg := false, size := 1, bytes := 8, zero := [.nilFunc], fields := [], elem := 0, len := 0, kind := 0, ik := .i64, eqs := [] }
theorem tIOK98 : TIOK Try.prog 98 tI98 := { agg := Try.isAgg98, size := Try.sizeOf98, infoM := ⟨.nilFunc, by kernel_rfl, rfl⟩, zlen := rfl, one := fun _ => rfl, zc := rfl, structM := fun h => absurd h (by decide), slice := fun h => absurd h (by decide), array := fun h => absurd h (by decide), int := fun h => absurd h (by decide), str := fun h => absurd h (by decide), map := fun h => absurd h (by decide), bool := fun h => absurd h (by decide), eqf := .inl rfl }
def tI99 : TI := { agg := false, size := 1, bytes := 8, zero := [.nilFunc], fields := [], elem := 0, len := 0, kind := 0, ik := .i64, eqs := [] }
theorem tIOK99 : TIOK Try.prog 99 tI99 := { agg := Try.isAgg99, size := Try.sizeOf99, infoM := ⟨.nilFunc, by kernel_rfl, rfl⟩, zlen := rfl, one := fun _ => rfl, zc := rfl, structM := fun h => absurd h (by decide), slice := fun h => absurd h (by decide), array := fun h => absurd h (by decide), int := fun h => absurd h (by decide), str := fun h => absurd h (by decide), map := fun h => absurd h (by decide), bool := fun h => absurd h (by decide), eqf := .inl rfl }
def tI100 : TI := { agg := false, size := 1, bytes := 8, zero := [.nilFunc], fields := [], elem := 0, len := 0, kind := 0, ik := .i64, eqs := [] }
theorem tIOK100 : TIOK Try.prog 100 tI100 := { agg := Try.isAgg100, size := Try.sizeOf100, infoM := ⟨.nilFunc, by kernel_rfl, rfl⟩, zlen := rfl, one := fun _ => rfl, zc := rfl, structM := fun h => absurd h (by decide), slice := fun h => absurd h (by decide), array := fun h => absurd h (by decide), int := fun h => absurd h (by decide), str := fun h => absurd h (by decide), map := fun h => absurd h (by decide), bool := fun h => absurd h (by decide), eqf := .inl rfl }
def tI101 : TI := { agg := false, size := 1, bytes := 8, zero := [.nilFunc], fields := [], elem := 0, len := 0, kind := 0, ik := .i64, eqs := [] }
theorem tIOK101 : TIOK Try.prog 101 tI101 := { agg := Try.isAgg101, size := Try.sizeOf101, infoM := ⟨.nilFunc, by kernel_rfl, rfl⟩, zlen := rfl, one := fun _ => rfl, zc := rfl, structM := fun h => absurd h (by decide), slice := fun h => absurd h (by decide), array := fun h => absurd h (by decide), int := fun h => absurd h (by decide), str := fun h => absurd h (by decide), map := fun h => absurd h (by decide), bool := fun h => absurd h (by decide), eqf := .inl rfl }
def tI102 : TI := { agg := false, size := 1, bytes := 8, zero := [.nilFunc], fields := [], elem := 0, len := 0, kind := 0, ik := .i64, eqs := [] }
theorem tIOK102 : TIOK Try.prog 102 tI102 := { agg := Try.isAgg102, size := Try.sizeOf102, infoM := ⟨.nilFunc, by kernel_rfl, rfl⟩, zlen := rfl, one := fun _ => rfl, zc := rfl, structM := fun h => absurd h (by decide), slice := fun h => absurd h (by decide), array := fun h => absurd h (by decide), int := fun h => absurd h (by decide), str := fun h => absurd h (by decide), map := fun h => absurd h (by decide), bool := fun h => absurd h (by decide), eqf := .inl rfl }
def tI103 : TI := { agg := false, size := 1, bytes := 8, zero := [.nilFunc], fields := [], elem := 0, len := 0, kind := 0, ik := .i64, eqs := [] }
theorem tIOK103 : TIOK Try.prog 103 tI103 := { agg := Try.isAgg103, size := Try.sizeOf103, infoM := ⟨.nilFunc, by kernel_rfl, rfl⟩, zlen := rfl, one := fun _ => rfl, zc := rfl, structM := fun h => absurd h (by decide), slice := fun h => absurd h (by decide), array := fun h => absurd h (by decide), int := fun h => absurd h (by decide), str := fun h => absurd h (by decide), map := fun h => absurd h (by decide), bool := fun h => absurd h (by decide), eqf := .inl rfl }
def tI104 : TI := { agg := false, size := 1, bytes := 8, zero := [.nilFunc], fields := [], elem := 0, len := 0, kind := 0, ik := .i64, eqs := [] }
theorem tIOK104 : TIOK Try.prog 104 tI104 := { agg := Try.isAgg104, size := Try.sizeOf104, infoM := ⟨.nilFunc, by kernel_rfl, rfl⟩, zlen := rfl, one := fun _ => rfl, zc := rfl, structM := fun h => absurd h (by decide), slice := fun h => absurd h (by decide), array := fun h => absurd h (by decide), int := fun h => absurd h (by decide), str := fun h => absurd h (by decide), map := fun h => absurd h (by decide), bool := fun h => absurd h (by decide), eqf := .inl rfl }
def tI105 : TI := { agg := false, size := 1, bytes := 8, zero := [.nilFunc], fields := [], elem := 0, len := 0, kind := 0, ik := .i64, eqs := [] }
theorem tIOK105 : TIOK Try.prog 105 tI105 := { agg := Try.isAgg105, size := Try.sizeOf105, infoM := ⟨.nilFunc, by kernel_rfl, rfl⟩, zlen := rfl, one := fun _ => rfl, zc := rfl, structM := fun h => absurd h (by decide), slice := fun h => absurd h (by decide), array := fun h => absurd h (by decide), int := fun h => absurd h (by decide), str := fun h => absurd h (by decide), map := fun h => absurd h (by decide), bool := fun h => absurd h (by decide), eqf := .inl rfl }
def tI106 : TI := { agg := false, size := 1, bytes := 8, zero := [.nilFunc], fields := [], elem := 0, len := 0, kind := 0, ik := .i64, eqs := [] }
theorem tIOK106 : TIOK Try.prog 106 tI106 := { agg := Try.isAgg106, size := Try.sizeOf106, infoM := ⟨.nilFunc, by kernel_rfl, rfl⟩, zlen := rfl, one := fun _ => rfl, zc := rfl, structM := fun h => absurd h (by decide), slice := fun h => absurd h (by decide), array := fun h => absurd h (by decide), int := fun h => absurd h (by decide), str := fun h => absurd h (by decide), map := fun h => absurd h (by decide), bool := fun h => absurd h (by decide), eqf := .inl rfl }
def tI107 : TI := { agg := false, size := 1, bytes := 8, zero := [.nilFunc], fields := [], elem := 0, len := 0, kind := 0, ik := .i64, eqs := [] }
theorem tIOK107 : TIOK Try.prog 107 tI107 := { agg := Try.isAgg107, size := Try.sizeOf107, infoM := ⟨.nilFunc, by kernel_rfl, rfl⟩, zlen := rfl, one := fun _ => rfl, zc := rfl, structM := fun h => absurd h (by decide), slice := fun h => absurd h (by decide), array := fun h => absurd h (by decide), int := fun h => absurd h (by decide), str := fun h => absurd h (by decide), map := fun h => absurd h (by decide), bool := fun h => absurd h (by decide), eqf := .inl rfl }
def tI108 : TI := { agg := false, size := 1, bytes := 8, zero := [.nilFunc], fields := [], elem := 0, len := 0, kind := 0, ik := .i64, eqs := [] }
theorem tIOK108 : TIOK Try.prog 108 tI108 := { agg := Try.isAgg108, size := Try.sizeOf108, infoM := ⟨.nilFunc, by kernel_rfl, rfl⟩, zlen := rfl, one := fun _ => rfl, zc := rfl, structM := fun h => absurd h (by decide), slice := fun h => absurd h (by decide), array := fun h => absurd h (by decide), int := fun h => absurd h (by decide), str := fun h => absurd h (by decide), map := fun h => absurd h (by decide), bool := fun h => absurd h (by decide), eqf := .inl rfl }
def tI109 : TI := { agg := false, size := 1, bytes := 8, zero := [.nilFunc], fields := [], elem := 0, len := 0, kind := 0, ik := .i64, eqs := [] }
theorem tIOK109 : TIOK Try.prog 109 tI109 := { agg := Try.isAgg109, size := Try.sizeOf109, infoM := ⟨.nilFunc, by kernel_rfl, rfl⟩, zlen := rfl, one := fun _ => rfl, zc := rfl, structM := fun h => absurd h (by decide), slice := fun h => absurd h (by decide), array := fun h => absurd h (by decide), int := fun h => absurd h (by decide), str := fun h => absurd h (by decide), map := fun h => absurd h (by decide), bool := fun h => absurd h (by decide), eqf := .inl rfl }
def tI110 : TI := { agg := false, size := 1, bytes := 8, zero := [.nilFunc], fields := [], elem := 0, len := 0, kind := 0, ik := .i64, eqs := [] }
theorem tIOK110 : TIOK Try.prog 110 tI110 := { agg := Try.isAgg110, size := Try.sizeOf110, infoM := ⟨.nilFunc, by kernel_rfl, rfl⟩, zlen := rfl, one := fun _ => rfl, zc := rfl, structM := fun h => absurd h (by decide), slice := fun h => absurd h (by decide), array := fun h => absurd h (by decide), int := fun h => absurd h (by decide), str := fun h => absurd h (by decide), map := fun h => absurd h (by decide), bool := fun h => absurd h (by decide), eqf := .inl rfl }
def tI111 : TI := { agg := false, size := 1, bytes := 8, zero := [.nilFunc], fields := [], elem := 0, len := 0, kind := 0, ik := .i64, eqs := [] }
theorem tIOK111 : TIOK Try.prog 111 tI111 := { agg := Try.isAgg111, size := Try.sizeOf111, infoM := ⟨.nilFunc, by kernel_rfl, rfl⟩, zlen := rfl, one := fun _ => rfl, zc := rfl, structM := fun h => absurd h (by decide), slice := fun h => absurd h (by decide), array := fun h => absurd h (by decide), int := fun h => absurd h (by decide), str := fun h => absurd h (by decide), map := fun h => absurd h (by decide), bool := fun h => absurd h (by decide), eqf := .inl rfl }
def tI112 : TI := { agg := false, size := 1, bytes := 8, zero := [.nilFunc], fields := [], elem := 0, len := 0, kind := 0, ik := .i64, eqs := [] }
theorem tIOK112 : TIOK Try.prog 112 tI112 := { agg := Try.isAgg112, size := Try.sizeOf112, infoM := ⟨.nilFunc, by kernel_rfl, rfl⟩, zlen := rfl, one := fun _ => rfl, zc := rfl, structM := fun h => absurd h (by decide), slice := fun h => absurd h (by decide), array := fun h => absurd h (by decide), int := fun h => absurd h (by decide), str := fun h => absurd h (by decide), map := fun h => absurd h (by decide), bool := fun h => absurd h (by decide), eqf := .inl rfl }
def tI113 : TI := { agg := false, size := 1, bytes := 8, zero := [.nilFunc], fields := [], elem := 0, len := 0, kind := 0, ik := .i64, eqs := [] }
theorem tIOK113 : TIOK Try.prog 113 tI113 := { agg := Try.isAgg113, size := Try.sizeOf113, infoM := ⟨.nilFunc, by kernel_rfl, rfl⟩, zlen := rfl, one := fun _ => rfl, zc := rfl, structM := fun h => absurd h (by decide), slice := fun h => absurd h (by decide), array := fun h => absurd h (by decide), int := fun h => absurd h (by decide), str := fun h => absurd h (by decide), map := fun h => absurd h (by decide), bool := fun h => absurd h (by decide), eqf := .inl rfl }
def tI115 : TI := { agg := false, size := 1, bytes := 8, zero := [.nilFunc], fields := [], elem := 0, len := 0, kind := 0, ik := .i64, eqs := [] }
theorem tIOK115 : TIOK Try.prog 115 tI115 := { agg := Try.isAgg115, size := Try.sizeOf115, infoM := ⟨.nilFunc, by kernel_rfl, rfl⟩, zlen := rfl, one := fun _ => rfl, zc := rfl, structM := fun h => absurd h (by decide), slice := fun h => absurd h (by decide), array := fun h => absurd h (by decide), int := fun h => absurd h (by decide), str := fun h => absurd h (by decide), map := fun h => absurd h (by decide), bool := fun h => absurd h (by decide), eqf := .inl rfl }
def tI116 : TI := { agg := false, size := 1, bytes := 8, zero := [.nilFunc], fields := [], elem := 0, len := 0, kind := 0, ik := .i64, eqs := [] }
theorem tIOK116 : TIOK Try.prog 116 tI116 := { agg := Try.isAgg116, size := Try.sizeOf116, infoM := ⟨.nilFunc, by kernel_rfl, rfl⟩, zlen := rfl, one := fun _ => rfl, zc := rfl, structM := fun h => absurd h (by decide), slice := fun h => absurd h (by decide), array := fun h => absurd h (by decide), int := fun h => absurd h (by decide), str := fun h => absurd h (by decide), map := fun h => absurd h (by decide), bool := fun h => absurd h (by decide), eqf := .inl rfl }
def tI117 : TI := { agg := false, size := 1, bytes := 24, zero := [.slice none 0 0], fields := [], elem := 100, len := 0, kind := 3, ik := .i64, eqs := [] }
theorem tIOK117 : TIOK Try.prog 117 tI117 := { agg := Try.isAgg117, size := Try.sizeOf117, infoM := ⟨.slice none 0 0, by kernel_rfl, rfl⟩, zlen := rfl, one := fun _ => rfl, zc := rfl, structM := fun h => absurd h (by decide), slice := fun _ => Try.underlying117, array := fun h => absurd h (by decide), int := fun h => absurd h (by decide), str := fun h => absurd h (by decide), map := fun h => absurd h (by decide), bool := fun h => absurd h (by decide), eqf := .inl rfl }
def tI118 : TI := { agg := false, size := 1, bytes := 8, zero := [.nilFunc], fields := [], elem := 0, len := 0, kind := 0, ik := .i64, eqs := [] }
theorem tIOK118 : TIOK Try.prog 118 tI118 := { agg := Try.isAgg118, size := Try.sizeOf118, infoM := ⟨.nilFunc, by kernel_rfl, rfl⟩, zlen := rfl, one := fun _ => rfl, zc := rfl, structM := fun h => absurd h (by decide), slice := fun h => absurd h (by decide), array := fun h => absurd h (by decide), int := fun h => absurd h (by decide), str := fun h => absurd h (by decide), map := fun h => absurd h (by decide), bool := fun h => absurd h (by decide), eqf := .inl rfl }
def tI119 : TI := { agg := false, size := 1, bytes := 8, zero := [.int .i64 0], fields := [], elem := 0, len := 0, kind := 5, ik := .i64, eqs := [] }
theorem tIOK119 : TIOK Try.prog 119 tI119 := { agg := Try.isAgg119, size := Try.sizeOf119, infoM := ⟨.int .i64 0, by kernel_rfl, rfl⟩, zlen := rfl, one := fun _ => rfl, zc := rfl, structM := fun h => absurd h (by decide), slice := fun h => absurd h (by decide), array := fun h => absurd h (by decide), int := fun _ => Try.underlying119, str := fun h => absurd h (by decide), map := fun h => absurd h (by decide), bool := fun h => absurd h (by decide), eqf := .inl rfl }
def tI121 : TI := { agg := false, size := 1, bytes := 8, zero := [.nilFunc], fields := [], elem := 0, len := 0, kind := 0, ik := .i64, eqs := [] }
theorem tIOK121 : TIOK Try.prog 121 tI121 := { agg := Try.isAgg121, size := Try.sizeOf121, infoM := ⟨.nilFunc, by kernel_rfl, rfl⟩, zlen := rfl, one := fun _ => rfl, zc := rfl, structM := fun h => absurd h (by decide), slice := fun h => absurd h (by decide), array := fun h => absurd h (by decide), int := fun h => absurd h (by decide), str := fun h => absurd h (by decide), map := fun h => absurd h (by decide), bool := fun h => absurd h (by decide), eqf := .inl rfl }
def tI122 : TI := { agg := false, size := 1, bytes := 8, zero := [.nilFunc], fields := [], elem := 0, len := 0, kind := 0, ik := .i64, eqs := [] }
theorem tIOK122 : TIOK Try.prog 122 tI122 := { agg := Try.isAgg122, size := Try.sizeOf122, infoM := ⟨.nilFunc, by kernel_rfl, rfl⟩, zlen := rfl, one := fun _ => rfl, zc := rfl, structM := fun h => absurd h (by decide), slice := fun h => absurd h (by decide), array := fun h => absurd h (by decide), int := fun h => absurd h (by decide), str := fun h => absurd h (by decide), map := fun h => absurd h (by decide), bool := fun h => absurd h (by decide), eqf := .inl rfl }
def tI123 : TI := { agg := false, size := 1, bytes := 8, zero := [.nilFunc], fields := [], elem := 0, len := 0, kind := 0, ik := .i64, eqs := [] }
theorem tIOK123 : TIOK Try.prog 123 tI123 := { agg := Try.isAgg123, size := Try.sizeOf123, infoM := ⟨.nilFunc, by kernel_rfl, rfl⟩, zlen := rfl, one := fun _ => rfl, zc := rfl, structM := fun h => absurd h (by decide), slice := fun h => absurd h (by decide), array := fun h => absurd h (by decide), int := fun h => absurd h (by decide), str := fun h => absurd h (by decide), map := fun h => absurd h (by decide), bool := fun h => absurd h (by decide), eqf := .inl rfl }
def tI125 : TI := { agg := false, size := 1, bytes := 8, zero := [.nilFunc], fields := [], elem := 0, len := 0, kind := 0, ik := .i64, eqs := [] }
theorem tIOK125 : TIOK Try.prog 125 tI125 := { agg := Try.isAgg125, size := Try.sizeOf125, infoM := ⟨.nilFunc, by kernel_rfl, rfl⟩, zlen := rfl, one := fun _ => rfl, zc := rfl, structM := fun h => absurd h (by decide), slice := fun h => absurd h (by decide), array := fun h => absurd h (by decide), int := fun h => absurd h (by decide), str := fun h => absurd h (by decide), map := fun h => absurd h (by decide), bool := fun h => absurd h (by decide), eqf := .inl rfl }
def tI126 : TI := { agg := false, size := 1, bytes := 8, zero := [.nilFunc], fields := [], elem := 0, len := 0, kind := 0, ik := .i64, eqs := [] }
theorem tIOK126 : TIOK Try.prog 126 tI126 := { agg := Try.isAgg126, size := Try.sizeOf126, infoM := ⟨.nilFunc, by kernel_rfl, rfl⟩, zlen := rfl, one := fun _ => rfl, zc := rfl, structM := fun h => absurd h (by decide), slice := fun h => absurd h (by decide), array := fun h => absurd h (by decide), int := fun h => absurd h (by decide), str := fun h => absurd h (by decide), map := fun h => absurd h (by decide), bool := fun h => absurd h (by decide), eqf := .inl rfl }
def tI127 : TI := { agg := false, size := 1, bytes := 4, zero := [.int .u32 0], fields := [], elem := 0, len := 0, kind := 5, ik := .u32, eqs := [] }
theorem tIOK127 : TIOK Try.prog 127 tI127 := { agg := Try.isAgg127, size := Try.sizeOf127, infoM := ⟨.int .u32 0, by kernel_rfl, rfl⟩, zlen := rfl, one := fun _ => rfl, zc := rfl, structM := fun h => absurd h (by decide), slice := fun h => absurd h (by decide), array := fun h => absurd h (by decide), int := fun _ => Try.underlying127, str := fun h => absurd h (by decide), map := fun h => absurd h (by decide), bool := fun h => absurd h (by decide), eqf := .inl rfl }
def tI128 : TI := { agg := false, size := 1, bytes := 8, zero := [.nilFunc], fields := [], elem := 0, len := 0, kind := 0, ik := .i64, eqs := [] }
theorem tIOK128 : TIOK Try.prog 128 tI128 := { agg := Try.isAgg128, size := Try.sizeOf128, infoM := ⟨.nilFunc, by kernel_rfl, rfl⟩, zlen := rfl, one := fun _ => rfl, zc := rfl, structM := fun h => absurd h (by decide), slice := fun h => absurd h (by decide), array := fun h => absurd h (by decide), int := fun h => absurd h (by decide), str := fun h => absurd h (by decide), map := fun h => absurd h (by decide), bool := fun h => absurd h (by decide), eqf := .inl rfl }
def tI129 : TI := { agg := false, size := 1, bytes := 8, zero := [.int .u64 0], fields := [], elem := 0, len := 0, kind := 5, ik := .u64, eqs := [] }
theorem tIOK129 : TIOK Try.prog 129 tI129 := { agg := Try.isAgg129, size := Try.sizeOf129, infoM := ⟨.int .u64 0, by kernel_rfl, rfl⟩, zlen := rfl, one := fun _ => rfl, zc := rfl, structM := fun h => absurd h (by decide), slice := fun h => absurd h (by decide), array := fun h => absurd h (by decide), int := fun _ => Try.underlying129, str := fun h => absurd h (by decide), map := fun h => absurd h (by decide), bool := fun h => absurd h (by decide), eqf := .inl rfl }
def tI130 : TI := { agg := false, size := 1, bytes := 8, zero := [.nilFunc], fields := [], elem := 0, len := 0, kind := 0, ik := .i64, eqs := [] }
theorem tIOK130 : TIOK Try.prog 130 tI130 := { agg := Try.isAgg130, size := Try.sizeOf130, infoM := ⟨.nilFunc, by kernel_rfl, rfl⟩, zlen := rfl, one := fun _ => rfl, zc := rfl, structM := fun h => absurd h (by decide), slice := fun h => absurd h (by decide), array := fun h => absurd h (by decide), int := fun h => absurd h (by decide), str := fun h => absurd h (by decide), map := fun h => absurd h (by decide), bool := fun h => absurd h (by decide), eqf := .inl rfl }
def tI131 : TI := { agg := true, size := 1, bytes := 24, zero := [.slice none 0 0], fields := [(36, 0, 1)], elem := 0, len := 0, kind := 2, ik := .i64, eqs := [] }
theorem tIOK131 : TIOK Try.prog 131 tI131 := { agg := Try.isAgg131, size := Try.sizeOf131, infoM := ⟨.agg #[.slice none 0 0], by kernel_rfl, rfl⟩, zlen := rfl, one := fun h => absurd h (by decide), zc := rfl, structM := fun _ => ⟨_, Try.underlying131, ⟨rfl, rfl, Nat.succ_ne_zero _, Try.sizeOf36, trivial⟩⟩, slice := fun h => absurd h (by decide), array := fun h => absurd h (by decide), int := fun h => absurd h (by decide), str := fun h => absurd h (by decide), map := fun h => absurd h (by decide), bool := fun h => absurd h (by decide), eqf := .inl rfl }
def tI132 : TI := { agg := true, size := 1, bytes := 24, zero := [.slice none 0 0], fields := [(36, 0, 1)], elem := 0, len := 0, kind := 2, ik := .i64, eqs := [] }
theorem tIOK132 : TIOK Try.prog 132 tI132 := { agg := Try.isAgg132, size := Try.sizeOf132, infoM := ⟨.agg #[.slice none 0 0], by kernel_rfl, rfl⟩, zlen := rfl, one := fun h => absurd h (by decide), zc := rfl, structM := fun _ => ⟨_, Try.underlying132, ⟨rfl, rfl, Nat.succ_ne_zero _, Try.sizeOf36, trivial⟩⟩, slice := fun h => absurd h (by decide), array := fun h => absurd h (by decide), int := fun h => absurd h (by decide), str := fun h => absurd h (by decide), map := fun h => absurd h (by decide), bool := fun h => absurd h (by decide), eqf := .inl rfl }
def tI133 : TI := { agg := false, size := 1, bytes := 8, zero := [.nilFunc], fields := [], elem := 0, len := 0, kind := 0, ik := .i64, eqs := [] }
theorem tIOK133 : TIOK Try.prog 133 tI133 := { agg := Try.isAgg133, size := Try.sizeOf133, infoM := ⟨.nilFunc, by kernel_rfl, rfl⟩, zlen := rfl, one := fun _ => rfl, zc := rfl, structM := fun h => absurd h (by decide), slice := fun h => absurd h (by decide), array := fun h => absurd h (by decide), int := fun h => absurd h (by decide), str := fun h => absurd h (by decide), map := fun h => absurd h (by decide), bool := fun h => absurd h (by decide), eqf := .inl rfl }
def tI134 : TI := { agg := false, size := 1, bytes := 8, zero := [.nilFunc], fields := [], elem := 0, len := 0, kind := 0, ik := .i64, eqs := [] }
theorem tIOK134 : TIOK Try.prog 134 tI134 := { agg := Try.isAgg134, size := Try.sizeOf134, infoM := ⟨.nilFunc, by kernel_rfl, rfl⟩, zlen := rfl, one := fun _ => rfl, zc := rfl, structM := fun h => absurd h (by decide), slice := fun h => absurd h (by decide), array := fun h => absurd h (by decide), int := fun h => absurd h (by decide), str := fun h => absurd h (by decide), map := fun h => absurd h (by decide), bool := fun h => absurd h (by decide), eqf := .inl rfl }
def tI135 : TI := { agg := false, size := 1, bytes := 8, zero := [.nilFunc], fields := [], elem := 0, len := 0, kind := 0, ik := .i64, eqs := [] }
theorem tIOK135 : TIOK Try.prog 135 tI135 := { agg := Try.isAgg135, size := Try.sizeOf135, infoM := ⟨.nilFunc, by kernel_rfl, rfl⟩, zlen := rfl, one := fun _ => rfl, zc := rfl, structM := fun h => absurd h (by decide), slice := fun h => absurd h (by decide), array := fun h => absurd h (by decide), int := fun h => absurd h (by decide), str := fun h => absurd h (by decide), map := fun h => absurd h (by decide), bool := fun h => absurd h (by decide), eqf := .inl rfl }
def tI136 : TI := { agg := false, size := 1, bytes := 8, zero := [.nilFunc], fields := [], elem := 0, len := 0, kind := 0, ik := .i64, eqs := [] }
theorem tIOK136 : TIOK Try.prog 136 tI136 := { agg := Try.isAgg136, size := Try.sizeOf136, infoM := ⟨.nilFunc, by kernel_rfl, rfl⟩, zlen := rfl, one := fun _ => rfl, zc := rfl, structM := fun h => absurd h (by decide), slice := fun h => absurd h (by decide), array := fun h => absurd h (by decide), int := fun h => absurd h (by decide), str := fun h => absurd h (by decide), map := fun h => absurd h (by decide), bool := fun h => absurd h (by decide), eqf := .inl rfl }
def tI137 : TI := { agg := false, size := 1, bytes := 8, zero := [.int .u64 0], fields := [], elem := 0, len := 0, kind := 5, ik := .u64, eqs := [] }
theorem tIOK137 : TIOK Try.prog 137 tI137 := { agg := Try.isAgg137, size := Try.sizeOf137, infoM := ⟨.int .u64 0, by kernel_rfl, rfl⟩, zlen := rfl, one := fun _ => rfl, zc := rfl, structM := fun h => absurd h (by decide), slice := fun h => absurd h (by decide), array := fun h => absurd h (by decide), int := fun _ => Try.underlying137, str := fun h => absurd h (by decide), map := fun h => absurd h (by decide), bool := fun h => absurd h (by decide), eqf := .inl rfl }
def tI138 : TI := { agg := false, size := 1, bytes := 8, zero := [.nilFunc], fields := [], elem := 0, len := 0, kind := 0, ik := .i64, eqs := [] }
theorem tIOK138 : TIOK Try.prog 138 tI138 := { agg := Try.isAgg138, size := Try.sizeOf138, infoM := ⟨.nilFunc, by kernel_rfl, rfl⟩, zlen := rfl, one := fun _ => rfl, zc := rfl, structM := fun h => absurd h (by decide), slice := fun h => absurd h (by decide), array := fun h => absurd h (by decide), int := fun h => absurd h (by decide), str := fun h => absurd h (by decide), map := fun h => absurd h (by decide), bool := fun h => absurd h (by decide), eqf := .inl rfl }
def tI139 : TI := { agg := false, size := 1, bytes := 8, zero := [.nilFunc], fields := [], elem := 0, len := 0, kind := 0, ik := .i64, eqs := [] }
theorem tIOK139 : TIOK Try.prog 139 tI139 := { agg := Try.isAgg139, size := Try.sizeOf139, infoM := ⟨.nilFunc, by kernel_rfl, rfl⟩, zlen := rfl, one := fun _ => rfl, zc := rfl, structM := fun h => absurd h (by decide), slice := fun h => absurd h (by decide), array := fun h => absurd h (by decide), int := fun h => absurd h (by decide), str := fun h => absurd h (by decide), map := fun h => absurd h (by decide), bool := fun h => absurd h (by decide), eqf := .inl rfl }
def tabC10 : List (Nat × TI) := (131, tI131) :: (132, tI132) :: (133, tI133) :: (134, tI134) :: (135, tI135) :: (136, tI136) :: (137, tI137) :: (138, tI138) :: (139, tI139) :: []
theorem tabCOK10 : ∀ p ∈ tabC10, TIOK Try.prog p.1 p.2 := (List.forall_mem_cons.2 ⟨tIOK131, (List.forall_mem_cons.2 ⟨tIOK132, (List.forall_mem_cons.2 ⟨tIOK133, (List.forall_mem_cons.2 ⟨tIOK134, (List.forall_mem_cons.2 ⟨tIOK135, (List.forall_mem_cons.2 ⟨tIOK136, (List.forall_mem_cons.2 ⟨tIOK137, (List.forall_mem_cons.2 ⟨tIOK138, (List.forall_mem_cons.2 ⟨tIOK139, (fun _ h => nomatch h)⟩)⟩)⟩)⟩)⟩)⟩)⟩)⟩)⟩)
def tabC9 : List (Nat × TI) := (117, tI117) :: (118, tI118) :: (119, tI119) :: (121, tI121) :: (122, tI122) :: (123, tI123) :: (125, tI125) :: (126, tI126) :: (127, tI127) :: (128, tI128) :: (129, tI129) :: (130, tI130) :: tabC10
theorem tabCOK9 : ∀ p ∈ tabC9, TIOK Try.prog p.1 p.2 := (List.forall_mem_cons.2 ⟨tIOK117, (List.forall_mem_cons.2 ⟨tIOK118, (List.forall_mem_cons.2 ⟨tIOK119, (List.forall_mem_cons.2 ⟨tIOK121, (List.forall_mem_cons.2 ⟨tIOK122, (List.forall_mem_cons.2 ⟨tIOK123, (List.forall_mem_cons.2 ⟨tIOK125, (List.forall_mem_cons.2 ⟨tIOK126, (List.forall_mem_cons.2 ⟨tIOK127, (List.forall_mem_cons.2 ⟨tIOK128, (List.forall_mem_cons.2 ⟨tIOK129, (List.forall_mem_cons.2 ⟨tIOK130, tabCOK10⟩)⟩)⟩)⟩)⟩)⟩)⟩)⟩)⟩)⟩)⟩)⟩)
def tabC8 : List (Nat × TI) := (104, tI104) :: (105, tI105) :: (106, tI106) :: (107, tI107) :: (108, tI108) :: (109, tI109) :: (110, tI110) :: (111, tI111) :: (112, tI112) :: (113, tI113) :: (115, tI115) :: (116, tI116) :: tabC9
theorem tabCOK8 : ∀ p ∈ tabC8, TIOK Try.prog p.1 p.2 := (List.forall_mem_cons.2 ⟨tIOK104, (List.forall_mem_cons.2 ⟨tIOK105, (List.forall_mem_cons.2 ⟨tIOK106, (List.forall_mem_cons.2 ⟨tIOK107, (List.forall_mem_cons.2 ⟨tIOK108, (List.forall_mem_cons.2 ⟨tIOK109, (List.forall_mem_cons.2 ⟨tIOK110, (List.forall_mem_cons.2 ⟨tIOK111, (List.forall_mem_cons.2 ⟨tIOK112, (List.forall_mem_cons.2 ⟨tIOK113, (List.forall_mem_cons.2 ⟨tIOK115, (List.forall_mem_cons.2 ⟨tIOK116, tabCOK9⟩)⟩)⟩)⟩)⟩)⟩)⟩)⟩)⟩)⟩)⟩)⟩)
def tabC7 : List (Nat × TI) := (92, tI92) :: (93, tI93) :: (94, tI94) :: (95, tI95) :: (96, tI96) :: (97, tI97) :: (98, tI98) :: (99, tI99) :: (100, tI100) :: (101, tI101) :: (102, tI102) :: (103, tI103) :: tabC8
theorem tabCOK7 : ∀ p ∈ tabC7, TIOK Try.prog p.1 p.2 := (List.forall_mem_cons.2 ⟨tIOK92, (List.forall_mem_cons.2 ⟨tIOK93, (List.forall_mem_cons.2 ⟨tIOK94, (List.forall_mem_cons.2 ⟨tIOK95, (List.forall_mem_cons.2 ⟨tIOK96, (List.forall_mem_cons.2 ⟨tIOK97, (List.forall_mem_cons.2 ⟨tIOK98, (List.forall_mem_cons.2 ⟨tIOK99, (List.forall_mem_cons.2 ⟨tIOK100, (List.forall_mem_cons.2 ⟨tIOK101, (List.forall_mem_cons.2 ⟨tIOK102, (List.forall_mem_cons.2 ⟨tIOK103, tabCOK8⟩)⟩)⟩)⟩)⟩)⟩)⟩)⟩)⟩)⟩)⟩)⟩)
def tabC6 : List (Nat × TI) := (77, tI77) :: (78, tI78) :: (79, tI79) :: (80, tI80) :: (82, tI82) :: (84, tI84) :: (86, tI86) :: (87, tI87) :: (88, tI88) :: (89, tI89) :: (90, tI90) :: (91, tI91) :: tabC7
theorem tabCOK6 : ∀ p ∈ tabC6, TIOK Try.prog p.1 p.2 := (List.forall_mem_cons.2 ⟨tIOK77, (List.forall_mem_cons.2 ⟨tIOK78, (List.forall_mem_cons.2 ⟨tIOK79, (List.forall_mem_cons.2 ⟨tIOK80, (List.forall_mem_cons.2 ⟨tIOK82, (List.forall_mem_cons.2 ⟨tIOK84, (List.forall_mem_cons.2 ⟨tIOK86, (List.forall_mem_cons.2 ⟨tIOK87, (List.forall_mem_cons.2 ⟨tIOK88, (List.forall_mem_cons.2 ⟨tIOK89, (List.forall_mem_cons.2 ⟨tIOK90, (List.forall_mem_cons.2 ⟨tIOK91, tabCOK7⟩)⟩)⟩)⟩)⟩)⟩)⟩)⟩)⟩)⟩)⟩)⟩)
def tabC5 : List (Nat × TI) := (63, tI63) :: (65, tI65) :: (66, tI66) :: (67, tI67) :: (68, tI68) :: (69, tI69) :: (70, tI70) :: (71, tI71) :: (72, tI72) :: (73, tI73) :: (74, tI74) :: (76, tI76) :: tabC6
theorem tabCOK5 : ∀ p ∈ tabC5, TIOK Try.prog p.1 p.2 := (List.forall_mem_cons.2 ⟨tIOK63, (List.forall_mem_cons.2 ⟨tIOK65, (List.forall_mem_cons.2 ⟨tIOK66, (List.forall_mem_cons.2 ⟨tIOK67, (List.forall_mem_cons.2 ⟨tIOK68, (List.forall_mem_cons.2 ⟨tIOK69, (List.forall_mem_cons.2 ⟨tIOK70, (List.forall_mem_cons.2 ⟨tIOK71, (List.forall_mem_cons.2 ⟨tIOK72, (List.forall_mem_cons.2 ⟨tIOK73, (List.forall_mem_cons.2 ⟨tIOK74, (List.forall_mem_cons.2 ⟨tIOK76, tabCOK6⟩)⟩)⟩)⟩)⟩)⟩)⟩)⟩)⟩)⟩)⟩)⟩)
def tabC4 : List (Nat × TI) := (50, tI50) :: (51, tI51) :: (52, tI52) :: (53, tI53) :: (54, tI54) :: (55, tI55) :: (56, tI56) :: (57, tI57) :: (58, tI58) :: (59, tI59) :: (60, tI60) :: (62, tI62) :: tabC5
theorem tabCOK4 : ∀ p ∈ tabC4, TIOK Try.prog p.1 p.2 := (List.forall_mem_cons.2 ⟨tIOK50, (List.forall_mem_cons.2 ⟨tIOK51, (List.forall_mem_cons.2 ⟨tIOK52, (List.forall_mem_cons.2 ⟨tIOK53, (List.forall_mem_cons.2 ⟨tIOK54, (List.forall_mem_cons.2 ⟨tIOK55, (List.forall_mem_cons.2 ⟨tIOK56, (List.forall_mem_cons.2 ⟨tIOK57, (List.forall_mem_cons.2 ⟨tIOK58, (List.forall_mem_cons.2 ⟨tIOK59, (List.forall_mem_cons.2 ⟨tIOK60, (List.forall_mem_cons.2 ⟨tIOK62, tabCOK5⟩)⟩)⟩)⟩)⟩)⟩)⟩)⟩)⟩)⟩)⟩)⟩)
def tabC3 : List (Nat × TI) := (32, tI32) :: (34, tI34) :: (35, tI35) :: (38, tI38) :: (40, tI40) :: (41, tI41) :: (42, tI42) :: (44, tI44) :: (45, tI45) :: (46, tI46) :: (48, tI48) :: (49, tI49) :: tabC4
theorem tabCOK3 : ∀ p ∈ tabC3, TIOK Try.prog p.1 p.2 := (List.forall_mem_cons.2 ⟨tIOK32, (List.forall_mem_cons.2 ⟨tIOK34, (List.forall_mem_cons.2 ⟨tIOK35, (List.forall_mem_cons.2 ⟨tIOK38, (List.forall_mem_cons.2 ⟨tIOK40, (List.forall_mem_cons.2 ⟨tIOK41, (List.forall_mem_cons.2 ⟨tIOK42, (List.forall_mem_cons.2 ⟨tIOK44, (List.forall_mem_cons.2 ⟨tIOK45, (List.forall_mem_cons.2 ⟨tIOK46, (List.forall_mem_cons.2 ⟨tIOK48, (List.forall_mem_cons.2 ⟨tIOK49, tabCOK4⟩)⟩)⟩)⟩)⟩)⟩)⟩)⟩)⟩)⟩)⟩)⟩)
def tabC2 : List (Nat × TI) := (19, tI19) :: (20, tI20) :: (21, tI21) :: (23, tI23) :: (24, tI24) :: (25, tI25) :: (26, tI26) :: (27, tI27) :: (28, tI28) :: (29, tI29) :: (30, tI30) :: (31, tI31) :: tabC3
theorem tabCOK2 : ∀ p ∈ tabC2, TIOK Try.prog p.1 p.2 := (List.forall_mem_cons.2 ⟨tIOK19, (List.forall_mem_cons.2 ⟨tIOK20, (List.forall_mem_cons.2 ⟨tIOK21, (List.forall_mem_cons.2 ⟨tIOK23, (List.forall_mem_cons.2 ⟨tIOK24, (List.forall_mem_cons.2 ⟨tIOK25, (List.forall_mem_cons.2 ⟨tIOK26, (List.forall_mem_cons.2 ⟨tIOK27, (List.forall_mem_cons.2 ⟨tIOK28, (List.forall_mem_cons.2 ⟨tIOK29, (List.forall_mem_cons.2 ⟨tIOK30, (List.forall_mem_cons.2 ⟨tIOK31, tabCOK3⟩)⟩)⟩)⟩)⟩)⟩)⟩)⟩)⟩)⟩)⟩)⟩)
def tabC1 : List (Nat × TI) := (7, tI7) :: (8, tI8) :: (9, tI9) :: (10, tI10) :: (11, tI11) :: (12, tI12) :: (13, tI13) :: (14, tI14) :: (15, tI15) :: (16, tI16) :: (17, tI17) :: (18, tI18) :: tabC2
theorem tabCOK1 : ∀ p ∈ tabC1, TIOK Try.prog p.1 p.2 := (List.forall_mem_cons.2 ⟨tIOK7, (List.forall_mem_cons.2 ⟨tIOK8, (List.forall_mem_cons.2 ⟨tIOK9, (List.forall_mem_cons.2 ⟨tIOK10, (List.forall_mem_cons.2 ⟨tIOK11, (List.forall_mem_cons.2 ⟨tIOK12, (List.forall_mem_cons.2 ⟨tIOK13, (List.forall_mem_cons.2 ⟨tIOK14, (List.forall_mem_cons.2 ⟨tIOK15, (List.forall_mem_cons.2 ⟨tIOK16, (List.forall_mem_cons.2 ⟨tIOK17, (List.forall_mem_cons.2 ⟨tIOK18, tabCOK2⟩)⟩)⟩)⟩)⟩)⟩)⟩)⟩)⟩)⟩)⟩)⟩)
def tabC0 : List (Nat × TI) := (3, tI3) :: (4, tI4) :: (47, tI47) :: (22, tI22) :: (75, tI75) :: (36, tI36) :: (81, tI81) :: (85, tI85) :: (1, tI1) :: (2, tI2) :: (5, tI5) :: (6, tI6) :: tabC1
theorem tabCOK0 : ∀ p ∈ tabC0, TIOK Try.prog p.1 p.2 := (List.forall_mem_cons.2 ⟨tIOK3, (List.forall_mem_cons.2 ⟨tIOK4, (List.forall_mem_cons.2 ⟨tIOK47, (List.forall_mem_cons.2 ⟨tIOK22, (List.forall_mem_cons.2 ⟨tIOK75, (List.forall_mem_cons.2 ⟨tIOK36, (List.forall_mem_cons.2 ⟨tIOK81, (List.forall_mem_cons.2 ⟨tIOK85, (List.forall_mem_cons.2 ⟨tIOK1, (List.forall_mem_cons.2 ⟨tIOK2, (List.forall_mem_cons.2 ⟨tIOK5, (List.forall_mem_cons.2 ⟨tIOK6, tabCOK1⟩)⟩)⟩)⟩)⟩)⟩)⟩)⟩)⟩)⟩)⟩)⟩)
abbrev tab := tabC0
theorem tabOK : ∀ p ∈ tab, TIOK Try.prog p.1 p.2 := tabCOK0
noncomputable abbrev en (nt : Nat) : Env := ⟨Try.prog, tab, nt, [], fun _ => none, fun _ _ _ => False, fun _ => False, fun _ _ _ _ h _ _ => h⟩
theorem enOK (nt : Nat) : EnvOK (en nt) := tabOK
noncomputable abbrev enp (nt : Nat) (pin : List Nat) (loc : Nat → Option Loc) : Env := ⟨Try.prog, tab, nt, pin, loc, fun _ _ _ => False, fun _ => False, fun _ _ _ _ h _ _ => h⟩
theorem enpOK (nt : Nat) (pin : List Nat) (loc : Nat → Option Loc) : EnvOK (enp nt pin loc) := tabOK
noncomputable abbrev enj (nt : Nat) (J : Nat → World → (Nat → Prop) → Prop) (Z0 : Nat → Prop) (Jst : ∀ i w w' G, J i w G → Bel G w w' → (∀ b, Z0 b → w'.heap[b]? = w.heap[b]?) → J i w' G) : Env := ⟨Try.prog, tab, nt, [], fun _ => none, J, Z0, Jst⟩
theorem enjOK (nt : Nat) (J : Nat → World → (Nat → Prop) → Prop) (Z0 : Nat → Prop) (Jst : ∀ i w w' G, J i w G → Bel G w w' → (∀ b, Z0 b → w'.heap[b]? = w.heap[b]?) → J i w' G) : EnvOK (enj nt J Z0 Jst) := tabOK
end Go.AI

/- The frame of a contract's proof. Entries and spans. -/
namespace Go.AI
open Go Go.Proofs Go.RowKit
set_option linter.unusedVariables false

theorem spT {f : Nat} {fn : Func} {body : Code} {rs : List ResultVar} {args r : List AV} {nt : Nat} (hf : Try.prog.funcs[f]? = some fn) (hb : fn.body = some body) (hnt : fn.ntmps = nt) (hrs : fn.results = rs.toArray)
    (hargs : Nat.ble args.length nt = true) (hn : (fn.name == "runtime.NumGoroutine") = false) (h : V (en nt) [.code body] (St.init args) (Ret (en nt) rs r)) : Spec Try.prog f args (tupA r) :=
  spec_of_V (en nt) (enOK nt) rfl rfl hf hb hnt hrs (Nat.le_of_ble_eq_true hargs) (enters_of hf hn hb) h

/-- An entry. -/
structure En where
  t : Int
  e : Int
  n : Int
  h : Int
  a : Int
  o : Int
  deriving DecidableEq
instance : Inhabited En := ⟨⟨0, 0, 0, 0, 0, 0⟩⟩
abbrev En.c (x : En) : List PV := [.i x.t, .i x.e, .i x.n, .i x.h, .i x.a, .i x.o]
abbrev En.v (x : En) : AV := .agg [.i x.t, .i x.e, .i x.n, .i x.h, .i x.a, .i x.o]
def nth {α : Type} [Inhabited α] (l : List α) (i : Nat) : α := (l[i]?).getD default
abbrev jP (l : List En) : PV := .rd 6 l.length fun i => (nth l i).c
abbrev jv (l : List En) : AV := .pv (jP l)

structure Sp where
  f : Int
  t : Int
  o : Int
  deriving DecidableEq
instance : Inhabited Sp := ⟨⟨0, 0, 0⟩⟩
abbrev Sp.c (x : Sp) : List PV := [.i x.f, .i x.t, .i x.o]
abbrev Sp.v (x : Sp) : AV := .agg [.i x.f, .i x.t, .i x.o]
abbrev sP (l : List Sp) : PV := .rd 3 l.length fun i => (nth l i).c
abbrev sv (l : List Sp) : AV := .pv (sP l)

def ci (a b : Int) : Int := if a < b then -1 else if b < a then 1 else 0
def thenI (a b : Int) : Int := if a ≠ 0 then a else b
def cmpKey (a b : En) : Int := thenI (ci a.t b.t) (thenI (ci a.e b.e) (ci a.n b.n))
def cmpRest (a b : En) : Int := thenI (ci a.a b.a) (thenI (ci a.o b.o) (ci a.h b.h))
def cmpTurn (a b : En) : Int := thenI (ci a.e b.e) (thenI (ci a.a b.a) (ci a.n b.n))
def formed (x : En) : Bool := decide (0 ≤ x.t ∧ x.t ≤ 11 ∧ 0 ≤ x.e ∧ x.e ≤ 1000 ∧ 0 ≤ x.n ∧ x.n ≤ 999 ∧ -1 ≤ x.h ∧ x.h ≤ 2 ∧ 0 ≤ x.a ∧ x.a ≤ 9999999 ∧ 0 ≤ x.o ∧ x.o ≤ 2999)

theorem spec59 (n lo hi : Int) : Spec Try.prog 59 [.i n, .i lo, .i hi] (.b (decide (lo ≤ n) && decide (n ≤ hi))) := by
  refine spT (r := [.b _]) Try.func59 rfl Try.ntmps59 Try.results59 rfl (by kernel_rfl) (V_run _ (enOK _) 100 ?_)
  repeat' first
    | refine Br.mk (fun h => ?_) (fun h => ?_)
  all_goals
    refine Out.mk ⟨?_, True.intro⟩
    refine congrArg Value.bool ?_
    rw [Bool.eq_iff_iff]
    simp at *
    omega

theorem spec36 (x : En) : Spec Try.prog 36 [x.v] (.b (formed x)) := by
  refine spT (r := [.b _]) Try.func36 rfl Try.ntmps36 Try.results36 rfl (by kernel_rfl) (V_run _ (enOK _) 100 ?_)
  repeat' first
    | refine Way.spec ?_
    | refine CallS.by (spec59 _ _ _) rfl ?_
    | refine Br.mk (fun h => ?_) (fun h => ?_)
  all_goals
    refine Out.mk ⟨?_, True.intro⟩
    refine congrArg Value.bool ?_
    rw [Bool.eq_iff_iff]
    simp [formed] at *
    omega

theorem spec103 (n : Int) : Spec Try.prog 103 [.i n] (.b false) := by
  refine spT (r := [.b _]) Try.func103 rfl Try.ntmps103 Try.results103 rfl (by kernel_rfl) (V_run _ (enOK _) 100 ?_)
  refine Out.mk ⟨?_, True.intro⟩
  refine congrArg Value.bool ?_
  simp

theorem spec77 (a b : Int) : Spec Try.prog 77 [.i a, .i b] (.i (ci a b)) := by
  refine spT (r := [.i _]) Try.func77 rfl Try.ntmps77 Try.results77 rfl (by kernel_rfl) (V_run _ (enOK _) 100 ?_)
  repeat' first
    | refine Way.spec ?_
    | refine CallS.by (spec103 _) rfl ?_
    | refine Br.mk (fun h => ?_) (fun h => ?_)
  all_goals first
    | exact absurd ‹false = true› (by decide)
    | refine Out.mk ⟨?_, True.intro⟩
      refine congrArg (Value.int .i64) ?_
      simp [ci] at *
      try split
      all_goals first | omega | (simp; omega) | simp

end Go.AI

namespace Go.AI
open Go Go.Proofs Go.RowKit
set_option linter.unusedVariables false
set_option maxRecDepth 20000

/-- A closure by a field. -/
abbrev byP (F : Nat) : PV := .fn (.func 85) [.rp 1 1 (fun _ => [.fn (.func F) []]) 0 0]

theorem spec85 {F : Nat} {p : En → Int} (hF : ∀ x, Spec Try.prog F [x.v] (.i (p x))) (a b : En) : Spec Try.prog 85 [a.v, b.v, .pv (.rp 1 1 (fun _ => [.fn (.func F) []]) 0 0)] (.i (ci (p a) (p b))) := by
  refine spT (r := [.i _]) Try.func85 rfl Try.ntmps85 Try.results85 rfl (by kernel_rfl) (V_run _ (enOK _) 100 ?_)
  refine V_draw _ (enOK _) (by kernel_rfl) ?_
  repeat' first
    | refine Way.spec ?_
    | refine CallS.by (hF _) rfl ?_
    | refine CallS.by (spec77 _ _) rfl ?_
  refine And.intro (by kernel_rfl) (V_run _ (enOK _) 100 ?_)
  exact Out.mk ⟨rfl, True.intro⟩

/-- A function value and what it compares by. -/
def Cmp (F : Nat) (caps : List PV) (p : En → En → Int) : Prop := ∀ a b : En, Spec Try.prog F (a.v :: b.v :: caps.map .pv) (.i (p a b))

theorem spec84A {F0 F1 F2 : Nat} {x0 : PV} {p0 p1 p2 : En → En → Int} (h0 : Cmp F0 [x0] p0) (h1 : Cmp F1 [] p1) (h2 : Cmp F2 [] p2) (a b : En) :
    Spec Try.prog 84 [a.v, b.v, .pv (.rp 1 1 (fun _ => [.rd 1 3 (rowAt 1 [.fn (.func F0) [x0], .fn (.func F1) [], .fn (.func F2) []])]) 0 0)] (.i (thenI (p0 a b) (thenI (p1 a b) (p2 a b)))) := by
  refine spT (r := [.i _]) Try.func84 rfl Try.ntmps84 Try.results84 rfl (by kernel_rfl) (V_run _ (enOK _) 100 ?_)
  refine V_rounds _ 4 (V_run _ (enOK _) 100 ?_)
  repeat' first
    | refine Br.mk (fun h => ?_) (fun h => ?_)
    | exact absurd ‹decide _ = _› (by decide)
    | refine Ix.toNat (by decide) ?_
    | refine Ar.ok (by decide) ?_
    | refine Way.spec ?_
    | refine CallS.by (h0 _ _) rfl ?_
    | refine CallS.by (h1 _ _) rfl ?_
    | refine CallS.by (h2 _ _) rfl ?_
    | refine V_run _ (enOK _) 100 ?_
  all_goals
    refine Out.mk ⟨?_, True.intro⟩
    refine congrArg (Value.int .i64) ?_
    simp_all [thenI]

theorem spec84B {F0 F1 F2 : Nat} {x1 x2 : PV} {p0 p1 p2 : En → En → Int} (h0 : Cmp F0 [] p0) (h1 : Cmp F1 [x1] p1) (h2 : Cmp F2 [x2] p2) (a b : En) :
    Spec Try.prog 84 [a.v, b.v, .pv (.rp 1 1 (fun _ => [.rd 1 3 (rowAt 1 [.fn (.func F0) [], .fn (.func F1) [x1], .fn (.func F2) [x2]])]) 0 0)] (.i (thenI (p0 a b) (thenI (p1 a b) (p2 a b)))) := by
  refine spT (r := [.i _]) Try.func84 rfl Try.ntmps84 Try.results84 rfl (by kernel_rfl) (V_run _ (enOK _) 100 ?_)
  refine V_rounds _ 4 (V_run _ (enOK _) 100 ?_)
  repeat' first
    | refine Br.mk (fun h => ?_) (fun h => ?_)
    | exact absurd ‹decide _ = _› (by decide)
    | refine Ix.toNat (by decide) ?_
    | refine Ar.ok (by decide) ?_
    | refine Way.spec ?_
    | refine CallS.by (h0 _ _) rfl ?_
    | refine CallS.by (h1 _ _) rfl ?_
    | refine CallS.by (h2 _ _) rfl ?_
    | refine V_run _ (enOK _) 100 ?_
  all_goals
    refine Out.mk ⟨?_, True.intro⟩
    refine congrArg (Value.int .i64) ?_
    simp_all [thenI]

theorem spec84C {F0 F1 F2 : Nat} {p0 p1 p2 : En → En → Int} (h0 : Cmp F0 [] p0) (h1 : Cmp F1 [] p1) (h2 : Cmp F2 [] p2) (a b : En) :
    Spec Try.prog 84 [a.v, b.v, .pv (.rp 1 1 (fun _ => [.rd 1 3 (rowAt 1 [.fn (.func F0) [], .fn (.func F1) [], .fn (.func F2) []])]) 0 0)] (.i (thenI (p0 a b) (thenI (p1 a b) (p2 a b)))) := by
  refine spT (r := [.i _]) Try.func84 rfl Try.ntmps84 Try.results84 rfl (by kernel_rfl) (V_run _ (enOK _) 100 ?_)
  refine V_rounds _ 4 (V_run _ (enOK _) 100 ?_)
  repeat' first
    | refine Br.mk (fun h => ?_) (fun h => ?_)
    | exact absurd ‹decide _ = _› (by decide)
    | refine Ix.toNat (by decide) ?_
    | refine Ar.ok (by decide) ?_
    | refine Way.spec ?_
    | refine CallS.by (h0 _ _) rfl ?_
    | refine CallS.by (h1 _ _) rfl ?_
    | refine CallS.by (h2 _ _) rfl ?_
    | refine V_run _ (enOK _) 100 ?_
  all_goals
    refine Out.mk ⟨?_, True.intro⟩
    refine congrArg (Value.int .i64) ?_
    simp_all [thenI]

theorem spec61 (x : PV) : Spec Try.prog 61 [.pv x] (.pv (.fn (.func 85) [.rp 1 1 (fun _ => [x]) 0 0])) := by
  refine spT (r := [.pv _]) Try.func61 rfl Try.ntmps61 Try.results61 rfl (by kernel_rfl) (V_run _ (enOK _) 100 ?_)
  exact Out.mk ⟨rfl, True.intro⟩

theorem spec60 (x : PV) : Spec Try.prog 60 [.pv x] (.pv (.fn (.func 84) [.rp 1 1 (fun _ => [x]) 0 0])) := by
  refine spT (r := [.pv _]) Try.func60 rfl Try.ntmps60 Try.results60 rfl (by kernel_rfl) (V_run _ (enOK _) 100 ?_)
  exact Out.mk ⟨rfl, True.intro⟩

theorem spec62 (x : En) : Spec Try.prog 62 [x.v] (.i x.t) := by
  refine spT (r := [.i _]) Try.func62 rfl Try.ntmps62 Try.results62 rfl (by kernel_rfl) (V_run _ (enOK _) 100 ?_)
  exact Out.mk ⟨rfl, True.intro⟩

theorem spec66 (x : En) : Spec Try.prog 66 [x.v] (.i x.o) := by
  refine spT (r := [.i _]) Try.func66 rfl Try.ntmps66 Try.results66 rfl (by kernel_rfl) (V_run _ (enOK _) 100 ?_)
  exact Out.mk ⟨rfl, True.intro⟩

theorem spec67 (x : En) : Spec Try.prog 67 [x.v] (.i x.h) := by
  refine spT (r := [.i _]) Try.func67 rfl Try.ntmps67 Try.results67 rfl (by kernel_rfl) (V_run _ (enOK _) 100 ?_)
  exact Out.mk ⟨rfl, True.intro⟩

theorem spec86 (x : En) : Spec Try.prog 86 [x.v] (.i x.e) := by
  refine spT (r := [.i _]) Try.func86 rfl Try.ntmps86 Try.results86 rfl (by kernel_rfl) (V_run _ (enOK _) 100 ?_)
  exact Out.mk ⟨rfl, True.intro⟩

theorem spec87 (x : En) : Spec Try.prog 87 [x.v] (.i x.n) := by
  refine spT (r := [.i _]) Try.func87 rfl Try.ntmps87 Try.results87 rfl (by kernel_rfl) (V_run _ (enOK _) 100 ?_)
  exact Out.mk ⟨rfl, True.intro⟩

theorem spec88 (x : En) : Spec Try.prog 88 [x.v] (.i x.a) := by
  refine spT (r := [.i _]) Try.func88 rfl Try.ntmps88 Try.results88 rfl (by kernel_rfl) (V_run _ (enOK _) 100 ?_)
  exact Out.mk ⟨rfl, True.intro⟩

theorem spec63 : Cmp 63 [] fun a b => ci a.e b.e := by
  intro a b
  refine spT (r := [.i _]) Try.func63 rfl Try.ntmps63 Try.results63 rfl (by kernel_rfl) (V_run _ (enOK _) 100 ?_)
  refine V_draw _ (enOK _) (by kernel_rfl) ?_
  repeat' first
    | refine Way.spec ?_
    | refine CallS.by (spec61 _) rfl ?_
    | refine CallS.by (spec85 spec86 _ _) rfl ?_
  refine And.intro (by kernel_rfl) (V_run _ (enOK _) 100 ?_)
  exact Out.mk ⟨rfl, True.intro⟩

theorem spec64 : Cmp 64 [] fun a b => ci a.n b.n := by
  intro a b
  refine spT (r := [.i _]) Try.func64 rfl Try.ntmps64 Try.results64 rfl (by kernel_rfl) (V_run _ (enOK _) 100 ?_)
  refine V_draw _ (enOK _) (by kernel_rfl) ?_
  repeat' first
    | refine Way.spec ?_
    | refine CallS.by (spec61 _) rfl ?_
    | refine CallS.by (spec85 spec87 _ _) rfl ?_
  refine And.intro (by kernel_rfl) (V_run _ (enOK _) 100 ?_)
  exact Out.mk ⟨rfl, True.intro⟩

theorem spec65 : Cmp 65 [] fun a b => ci a.a b.a := by
  intro a b
  refine spT (r := [.i _]) Try.func65 rfl Try.ntmps65 Try.results65 rfl (by kernel_rfl) (V_run _ (enOK _) 100 ?_)
  refine V_draw _ (enOK _) (by kernel_rfl) ?_
  repeat' first
    | refine Way.spec ?_
    | refine CallS.by (spec61 _) rfl ?_
    | refine CallS.by (spec85 spec88 _ _) rfl ?_
  refine And.intro (by kernel_rfl) (V_run _ (enOK _) 100 ?_)
  exact Out.mk ⟨rfl, True.intro⟩

end Go.AI

namespace Go.AI
open Go Go.Proofs Go.RowKit
set_option linter.unusedVariables false
set_option maxRecDepth 20000

theorem spec37 : Cmp 37 [] cmpKey := by
  intro a b
  refine spT (r := [.i _]) Try.func37 rfl Try.ntmps37 Try.results37 rfl (by kernel_rfl) (V_run _ (enOK _) 100 ?_)
  refine V_draw _ (enOK _) (by kernel_rfl) ?_
  refine Way.spec (CallS.by (spec61 _) rfl ?_)
  refine Way.frz (Bd.mk (Nat.le_refl _) (CallS.by (spec60 _) rfl ?_))
  refine Way.spec (CallS.by (spec84A (spec85 spec62) spec63 spec64 _ _) rfl ?_)
  refine And.intro (by kernel_rfl) (V_run _ (enOK _) 100 ?_)
  exact Out.mk ⟨rfl, True.intro⟩

theorem spec42 : Cmp 42 [] cmpRest := by
  intro a b
  refine spT (r := [.i _]) Try.func42 rfl Try.ntmps42 Try.results42 rfl (by kernel_rfl) (V_run _ (enOK _) 100 ?_)
  refine V_draw _ (enOK _) (by kernel_rfl) ?_
  refine Way.spec (CallS.by (spec61 _) rfl ?_)
  refine Way.spec (CallS.by (spec61 _) rfl ?_)
  refine Way.frz (Bd.mk (Nat.le_refl _) (CallS.by (spec60 _) rfl ?_))
  refine Way.spec (CallS.by (spec84B spec65 (spec85 spec66) (spec85 spec67) _ _) rfl ?_)
  refine And.intro (by kernel_rfl) (V_run _ (enOK _) 100 ?_)
  exact Out.mk ⟨rfl, True.intro⟩

theorem spec48 : Cmp 48 [] cmpTurn := by
  intro a b
  refine spT (r := [.i _]) Try.func48 rfl Try.ntmps48 Try.results48 rfl (by kernel_rfl) (V_run _ (enOK _) 100 ?_)
  refine V_draw _ (enOK _) (by kernel_rfl) ?_
  refine Way.frz (Bd.mk (Nat.le_refl _) (CallS.by (spec60 _) rfl ?_))
  refine Way.spec (CallS.by (spec84C spec63 spec65 spec64 _ _) rfl ?_)
  refine And.intro (by kernel_rfl) (V_run _ (enOK _) 100 ?_)
  exact Out.mk ⟨rfl, True.intro⟩

end Go.AI

namespace Go.AI
open Go Go.Proofs Go.RowKit
set_option linter.unusedVariables false
set_option maxRecDepth 20000

def okAt (l : List En) (i : Nat) : Bool := formed (nth l i) && (i == 0 || decide (cmpKey (nth l (i - 1)) (nth l i) < 0))
def validM (l : List En) : Bool := (List.range l.length).all (okAt l) && decide (l.length ≤ 120)
theorem validM_false {l : List En} {i : Nat} (hi : i < l.length) (h : okAt l i = false) : validM l = false := by
  unfold validM
  have : (List.range l.length).all (okAt l) = false := by
    rw [List.all_eq_false]; exact ⟨i, List.mem_range.2 hi, by simp [h]⟩
  simp [this]
theorem validM_all {l : List En} (h : ∀ k, k < l.length → okAt l k = true) : validM l = decide (l.length ≤ 120) := by
  unfold validM
  have : (List.range l.length).all (okAt l) = true := by
    rw [List.all_eq_true]; exact fun k hk => h k (List.mem_range.1 hk)
  simp [this]

theorem spec13 (l : List En) (hl : l.length ≤ 1000000000) : Spec Try.prog 13 [jv l] (.b (validM l)) := by
  refine spT (r := [.b _]) Try.func13 rfl Try.ntmps13 Try.results13 rfl (by kernel_rfl) (V_run _ (enOK _) 100 ?_)
  refine V_loop _ (fun i : Nat => ⟨[(0, jv l), (2, .kb false), (5, jv l), (6, .i l.length), (7, .i i)], [], 0⟩) (fun i => i ≤ l.length ∧ ∀ k, k < i → okAt l k = true) (fun i => l.length - i) 0 ⟨Nat.zero_le _, fun _ h => absurd h (Nat.not_lt_zero _)⟩ ?_ ?_
  · refine Le_of _ [] [] ⟨rfl, True.intro, ?_, True.intro⟩
    exact ⟨⟨rfl, rfl, fun _ _ => rfl⟩, rfl, ⟨rfl, rfl, fun _ _ => rfl⟩, rfl, rfl, True.intro⟩
  · rintro i ⟨hi, hok⟩
    refine V_run _ (enOK _) 100 ?_
    refine Br.mk (fun h => ?_) (fun h => ?_)
    · have hlt : i < l.length := by simpa using h
      refine Ix.by rfl hlt ?_
      refine V_draw _ (enOK _) (by kernel_rfl) ?_
      repeat' first
        | refine Br.yes (by assumption) ?_
        | refine Br.no (by assumption) ?_
        | refine Br.mk (fun h => ?_) (fun h => ?_)
        | refine Way.spec ?_
        | refine CallS.by (spec36 _) rfl ?_
        | refine CallS.by (spec37 _ _) rfl ?_
        | refine Ar.nat (i - 1) (by simp at *; omega) (by simp at *; omega) ?_
        | refine Ar.nat (i + 1) (by simp at *; omega) (by simp at *) ?_
        | refine Ix.by rfl (by omega) ?_
        | refine And.intro (by kernel_rfl) ?_
        | refine V_run _ (enOK _) 100 ?_
      all_goals first
        | refine Out.mk ⟨congrArg Value.bool (validM_false hlt ?_).symm, True.intro⟩
          simp_all [okAt]
          done
        | refine Out.mk ⟨congrArg Value.bool (validM_false hlt ?_).symm, True.intro⟩
          simp_all [okAt]
          omega
        | refine ⟨i + 1, ⟨hlt, fun k hk => ?_⟩, (by omega), Le_of _ [] [] ⟨rfl, True.intro, ⟨⟨rfl, rfl, fun _ _ => rfl⟩, rfl, ⟨rfl, rfl, fun _ _ => rfl⟩, rfl, rfl, True.intro⟩, True.intro⟩⟩
          rcases Nat.lt_succ_iff_lt_or_eq.1 hk with hk | rfl
          · exact hok k hk
          · simp_all [okAt]
    · have : i = l.length := by simp at h; omega
      subst this
      refine V_run _ (enOK _) 100 ?_
      refine Out.mk ⟨congrArg Value.bool ?_, True.intro⟩
      rw [validM_all hok, Bool.eq_iff_iff]
      simp
      omega
end Go.AI

namespace Go.AI
open Go Go.Proofs Go.RowKit
set_option linter.unusedVariables false
set_option maxRecDepth 20000

theorem spec38 (n lo hi : Int) : Spec Try.prog 38 [.i n, .i lo, .i hi] (.b (decide (lo ≤ n) && decide (n ≤ hi))) := by
  refine spT (r := [.b _]) Try.func38 rfl Try.ntmps38 Try.results38 rfl (by kernel_rfl) (V_run _ (enOK _) 100 ?_)
  repeat' first
    | refine Br.mk (fun h => ?_) (fun h => ?_)
  all_goals
    refine Out.mk ⟨?_, True.intro⟩
    refine congrArg Value.bool ?_
    rw [Bool.eq_iff_iff]
    simp at *
    omega

def ltKey (a b : En) : Bool := decide (cmpKey a b < 0)
def ltRest (a b : En) : Bool := decide (cmpRest a b < 0)

theorem ci_neg (a b : Int) : ci a b < 0 ↔ a < b := by unfold ci; split <;> (try split) <;> omega
theorem ci_zero (a b : Int) : ci a b = 0 ↔ a = b := by unfold ci; split <;> (try split) <;> omega
theorem then_neg (a b : Int) : thenI a b < 0 ↔ a < 0 ∨ (a = 0 ∧ b < 0) := by unfold thenI; split <;> omega
theorem then_zero (a b : Int) : thenI a b = 0 ↔ a = 0 ∧ b = 0 := by unfold thenI; split <;> omega
theorem ltKey_iff (a b : En) : ltKey a b = true ↔ a.t < b.t ∨ (a.t = b.t ∧ (a.e < b.e ∨ (a.e = b.e ∧ a.n < b.n))) := by
  simp only [ltKey, cmpKey, decide_eq_true_eq, then_neg, ci_neg, ci_zero]
theorem ltRest_iff (a b : En) : ltRest a b = true ↔ a.a < b.a ∨ (a.a = b.a ∧ (a.o < b.o ∨ (a.o = b.o ∧ a.h < b.h))) := by
  simp only [ltRest, cmpRest, decide_eq_true_eq, then_neg, ci_neg, ci_zero]

theorem spec39 (a b : En) : Spec Try.prog 39 [a.v, b.v] (.b (ltKey a b)) := by
  refine spT (r := [.b _]) Try.func39 rfl Try.ntmps39 Try.results39 rfl (by kernel_rfl) (V_run _ (enOK _) 100 ?_)
  repeat' first
    | refine Br.mk (fun h => ?_) (fun h => ?_)
  all_goals
    refine Out.mk ⟨?_, True.intro⟩
    refine congrArg Value.bool ?_
    rw [Bool.eq_iff_iff, ltKey_iff]
    simp at *
    omega

theorem spec44 (a b : En) : Spec Try.prog 44 [a.v, b.v] (.b (ltRest a b)) := by
  refine spT (r := [.b _]) Try.func44 rfl Try.ntmps44 Try.results44 rfl (by kernel_rfl) (V_run _ (enOK _) 100 ?_)
  repeat' first
    | refine Br.mk (fun h => ?_) (fun h => ?_)
  all_goals
    refine Out.mk ⟨?_, True.intro⟩
    refine congrArg Value.bool ?_
    rw [Bool.eq_iff_iff, ltRest_iff]
    simp at *
    omega

/-- A number to a place. -/
def pickI (c n : Int) : Int := (if c < 0 then -(c + 1) else c).tmod n

theorem spec35 (c n : Int) (hc : -9223372036854775808 ≤ c ∧ c ≤ 9223372036854775807) (hn : n ≠ 0) : Spec Try.prog 35 [.i c, .i n] (.i (pickI c n)) := by
  refine spT (r := [.i _]) Try.func35 rfl Try.ntmps35 Try.results35 rfl (by kernel_rfl) (V_run _ (enOK _) 100 ?_)
  repeat' first
    | refine Br.mk (fun h => ?_) (fun h => ?_)
    | refine Ar.ok (by simp at *; omega) ?_
    | refine Bd.mk hn ?_
    | refine Ar.by rfl ?_
  all_goals
    refine Out.mk ⟨?_, True.intro⟩
    refine congrArg (Value.int .i64) ?_
    unfold pickI
    simp only [decide_eq_true_eq, decide_eq_false_iff_not] at *
    first
      | rw [if_pos ‹c < 0›, Int.zero_sub]
      | rw [if_neg ‹¬ c < 0›]

theorem spec12 (c n : Int) (hc : -9223372036854775808 ≤ c ∧ c ≤ 9223372036854775807) (hn : n ≠ 0) : Spec Try.prog 12 [.i c, .i n] (.i (pickI c n)) := by
  refine spT (r := [.i _]) Try.func12 rfl Try.ntmps12 Try.results12 rfl (by kernel_rfl) (V_run _ (enOK _) 100 ?_)
  repeat' first
    | refine Br.mk (fun h => ?_) (fun h => ?_)
    | refine Ar.ok (by simp at *; omega) ?_
    | refine Bd.mk hn ?_
    | refine Ar.by rfl ?_
  all_goals
    refine Out.mk ⟨?_, True.intro⟩
    refine congrArg (Value.int .i64) ?_
    unfold pickI
    simp only [decide_eq_true_eq, decide_eq_false_iff_not] at *
    first
      | rw [if_pos ‹c < 0›, Int.zero_sub]
      | rw [if_neg ‹¬ c < 0›]

end Go.AI

namespace Go.AI
open Go Go.Proofs Go.RowKit
set_option linter.unusedVariables false
set_option maxRecDepth 20000

theorem list_eq_iff {α : Type} [Inhabited α] : ∀ {a b : List α}, a.length = b.length → ((∀ i, i < a.length → nth a i = nth b i) ↔ a = b)
  | [], [], _ => by simp
  | x :: a, y :: b, h => by
    have ih := list_eq_iff (a := a) (b := b) (by simpa using h)
    constructor
    · intro hh
      have h0 := hh 0 (by simp)
      simp [nth] at h0
      rw [h0, ih.1 fun i hi => by have := hh (i + 1) (by simp; omega); simpa [nth] using this]
    · intro hh i hi; rw [hh]

theorem spec19 (l r : List En) (hl : l.length ≤ 1000000000) : Spec Try.prog 19 [jv l, jv r] (.b (decide (l = r))) := by
  refine spT (r := [.b _]) Try.func19 rfl Try.ntmps19 Try.results19 rfl (by kernel_rfl) (V_run _ (enOK _) 100 ?_)
  refine Br.mk (fun h => ?_) (fun h => ?_)
  · refine Out.mk ⟨congrArg Value.bool ?_, True.intro⟩
    simp at h
    symm
    rw [decide_eq_false_iff_not]
    rintro rfl
    exact h rfl
  have hlen : l.length = r.length := by simp at h; omega
  refine V_loop _ (fun i : Nat => ⟨[(0, jv l), (1, jv r), (4, .kb false), (5, .i i)], [], 0⟩) (fun i => i ≤ l.length ∧ ∀ k, k < i → nth l k = nth r k) (fun i => l.length - i) 0 ⟨Nat.zero_le _, fun _ h => absurd h (Nat.not_lt_zero _)⟩ ?_ ?_
  · refine Le_of _ [] [] ⟨rfl, True.intro, ?_, True.intro⟩
    exact ⟨⟨rfl, rfl, fun _ _ => rfl⟩, ⟨rfl, rfl, fun _ _ => rfl⟩, rfl, rfl, True.intro⟩
  rintro i ⟨hi, hok⟩
  refine V_run _ (enOK _) 100 ?_
  refine Br.mk (fun h => ?_) (fun h => ?_)
  · have hlt : i < l.length := by simpa using h
    refine V_draw _ (enOK _) (by kernel_rfl) ?_
    refine Ix.by rfl hlt ?_
    refine Ix.by rfl (hlen ▸ hlt) ?_
    refine And.intro (by kernel_rfl) (V_run _ (enOK _) 100 ?_)
    refine Br.mk (fun h => ?_) (fun h => ?_)
    · refine Out.mk ⟨congrArg Value.bool ?_, True.intro⟩
      symm
      rw [decide_eq_false_iff_not]
      rintro rfl
      simp at h
    · refine Ar.nat (i + 1) (by omega) (by simp) ?_
      refine ⟨i + 1, ⟨hlt, fun k hk => ?_⟩, (by omega), Le_of _ [] [] ⟨rfl, True.intro, ⟨⟨rfl, rfl, fun _ _ => rfl⟩, ⟨rfl, rfl, fun _ _ => rfl⟩, rfl, rfl, True.intro⟩, True.intro⟩⟩
      rcases Nat.lt_succ_iff_lt_or_eq.1 hk with hk | rfl
      · exact hok k hk
      · generalize nth l k = x at *
        generalize nth r k = y at *
        cases x; cases y
        simp at h
        simp [h]
  · have : i = l.length := by simp at h; omega
    subst this
    refine V_run _ (enOK _) 100 ?_
    refine Out.mk ⟨congrArg Value.bool ?_, True.intro⟩
    symm
    rw [decide_eq_true_iff, ← list_eq_iff hlen]
    exact hok

theorem spec50 (l r : List Sp) (hl : l.length ≤ 1000000000) : Spec Try.prog 50 [sv l, sv r] (.b (decide (l = r))) := by
  refine spT (r := [.b _]) Try.func50 rfl Try.ntmps50 Try.results50 rfl (by kernel_rfl) (V_run _ (enOK _) 100 ?_)
  refine Br.mk (fun h => ?_) (fun h => ?_)
  · refine Out.mk ⟨congrArg Value.bool ?_, True.intro⟩
    simp at h
    symm
    rw [decide_eq_false_iff_not]
    rintro rfl
    exact h rfl
  have hlen : l.length = r.length := by simp at h; omega
  refine V_loop _ (fun i : Nat => ⟨[(0, sv l), (1, sv r), (4, .kb false), (5, .i i)], [], 0⟩) (fun i => i ≤ l.length ∧ ∀ k, k < i → nth l k = nth r k) (fun i => l.length - i) 0 ⟨Nat.zero_le _, fun _ h => absurd h (Nat.not_lt_zero _)⟩ ?_ ?_
  · refine Le_of _ [] [] ⟨rfl, True.intro, ?_, True.intro⟩
    exact ⟨⟨rfl, rfl, fun _ _ => rfl⟩, ⟨rfl, rfl, fun _ _ => rfl⟩, rfl, rfl, True.intro⟩
  rintro i ⟨hi, hok⟩
  refine V_run _ (enOK _) 100 ?_
  refine Br.mk (fun h => ?_) (fun h => ?_)
  · have hlt : i < l.length := by simpa using h
    refine V_draw _ (enOK _) (by kernel_rfl) ?_
    refine Ix.by rfl hlt ?_
    refine Ix.by rfl (hlen ▸ hlt) ?_
    refine And.intro (by kernel_rfl) (V_run _ (enOK _) 100 ?_)
    refine Br.mk (fun h => ?_) (fun h => ?_)
    · refine Out.mk ⟨congrArg Value.bool ?_, True.intro⟩
      symm
      rw [decide_eq_false_iff_not]
      rintro rfl
      simp at h
    · refine Ar.nat (i + 1) (by omega) (by simp) ?_
      refine ⟨i + 1, ⟨hlt, fun k hk => ?_⟩, (by omega), Le_of _ [] [] ⟨rfl, True.intro, ⟨⟨rfl, rfl, fun _ _ => rfl⟩, ⟨rfl, rfl, fun _ _ => rfl⟩, rfl, rfl, True.intro⟩, True.intro⟩⟩
      rcases Nat.lt_succ_iff_lt_or_eq.1 hk with hk | rfl
      · exact hok k hk
      · generalize nth l k = x at *
        generalize nth r k = y at *
        cases x; cases y
        simp at h
        simp [h]
  · have : i = l.length := by simp at h; omega
    subst this
    refine V_run _ (enOK _) 100 ?_
    refine Out.mk ⟨congrArg Value.bool ?_, True.intro⟩
    symm
    rw [decide_eq_true_iff, ← list_eq_iff hlen]
    exact hok

theorem spec24 (l r : List Sp) (hl : l.length ≤ 1000000000) : Spec Try.prog 24 [sv l, sv r] (.b (decide (l = r))) := by
  refine spT (r := [.b _]) Try.func24 rfl Try.ntmps24 Try.results24 rfl (by kernel_rfl) (V_run _ (enOK _) 100 ?_)
  refine Way.spec (CallS.by (spec50 _ _ hl) rfl ?_)
  exact Out.mk ⟨rfl, True.intro⟩

end Go.AI

namespace Go.AI
open Go Go.Proofs Go.RowKit
set_option linter.unusedVariables false
set_option maxRecDepth 20000

theorem okAt_iff (l : List En) (i : Nat) : okAt l i = true ↔ formed (nth l i) = true ∧ (i = 0 ∨ ltKey (nth l (i - 1)) (nth l i) = true) := by
  simp [okAt, ltKey]

set_option maxHeartbeats 1000000 in
theorem spec14 (l : List En) (hl : l.length ≤ 1000000000) : Spec Try.prog 14 [jv l] (.b (validM l)) := by
  refine spT (r := [.b _]) Try.func14 rfl Try.ntmps14 Try.results14 rfl (by kernel_rfl) (V_run _ (enOK _) 100 ?_)
  refine V_loop _ (fun i : Nat => ⟨[(0, jv l), (2, .kb false), (3, .i i)], [], 0⟩) (fun i => i ≤ l.length ∧ ∀ k, k < i → okAt l k = true) (fun i => l.length - i) 0 ⟨Nat.zero_le _, fun _ h => absurd h (Nat.not_lt_zero _)⟩ ?_ ?_
  · refine Le_of _ [] [] ⟨rfl, True.intro, ?_, True.intro⟩
    exact ⟨⟨rfl, rfl, fun _ _ => rfl⟩, rfl, rfl, True.intro⟩
  · rintro i ⟨hi, hok⟩
    refine V_run _ (enOK _) 100 ?_
    refine Br.mk (fun h => ?_) (fun h => ?_)
    · have hlt : i < l.length := by simpa using h
      clear h
      refine Ix.by rfl hlt ?_
      refine V_draw _ (enOK _) (by kernel_rfl) ?_
      repeat' first
        | refine Br.yes (by assumption) ?_
        | refine Br.no (by assumption) ?_
        | refine Br.mk (fun h => ?_) (fun h => ?_)
        | refine Way.spec ?_
        | refine CallS.by (spec38 _ _ _) rfl ?_
        | refine CallS.by (spec39 _ _) rfl ?_
        | refine Ar.nat (i - 1) (by simp at *; omega) (by simp at *; omega) ?_
        | refine Ar.nat (i + 1) (by simp at *; omega) (by simp at *) ?_
        | refine Ix.by rfl (by omega) ?_
        | refine And.intro (by kernel_rfl) ?_
        | refine V_run _ (enOK _) 100 ?_
      all_goals first
        | refine Out.mk ⟨congrArg Value.bool (validM_false hlt ?_).symm, True.intro⟩
          rw [← Bool.not_eq_true, okAt_iff]
          simp [formed] at *
          intros
          omega
        | refine Out.mk ⟨congrArg Value.bool (validM_false hlt ?_).symm, True.intro⟩
          rw [← Bool.not_eq_true, okAt_iff]
          simp [formed] at *
          intros
          simp [*]
          omega
        | refine ⟨i + 1, ⟨hlt, fun k hk => ?_⟩, (by omega), Le_of _ [] [] ⟨rfl, True.intro, ⟨⟨rfl, rfl, fun _ _ => rfl⟩, rfl, rfl, True.intro⟩, True.intro⟩⟩
          rcases Nat.lt_succ_iff_lt_or_eq.1 hk with hk | rfl
          · exact hok k hk
          · rw [okAt_iff]
            simp [formed] at *
            refine ⟨by omega, ?_⟩
            first
              | exact .inr ‹_›
              | exact .inl ‹_›
              | (left; omega)
    · have : i = l.length := by simp at h; omega
      subst this
      refine V_run _ (enOK _) 100 ?_
      refine Out.mk ⟨congrArg Value.bool ?_, True.intro⟩
      rw [validM_all hok, Bool.eq_iff_iff]
      simp
      omega
end Go.AI

namespace Go.AI
open Go Go.Proofs Go.RowKit
set_option linter.unusedVariables false
set_option maxRecDepth 20000

def isOwnerB (n : Int) : Bool := decide (0 ≤ n ∧ n ≤ 2999)

theorem spec51 (n : Int) : Spec Try.prog 51 [.i n] (.b (isOwnerB n)) := by
  refine spT (r := [.b _]) Try.func51 rfl Try.ntmps51 Try.results51 rfl (by kernel_rfl) (V_run _ (enOK _) 100 ?_)
  repeat' first
    | refine Br.mk (fun h => ?_) (fun h => ?_)
  all_goals
    refine Out.mk ⟨?_, True.intro⟩
    refine congrArg Value.bool ?_
    rw [Bool.eq_iff_iff]
    simp [isOwnerB] at *
    omega

/-- The end before a span, and its owner. -/
def atI (l : List Sp) (i : Nat) : Int := if i = 0 then 0 else (nth l (i - 1)).t
def owI (l : List Sp) (i : Nat) : Int := if i = 0 then -1 else (nth l (i - 1)).o
def spOK (l : List Sp) (i : Nat) : Bool := decide ((nth l i).f = atI l i ∧ atI l i < (nth l i).t ∧ (nth l i).t ≤ 10000000 ∧ (0 ≤ (nth l i).o ∧ (nth l i).o ≤ 2999) ∧ (nth l i).o ≠ owI l i)
def tvalid (l : List Sp) : Bool := (List.range l.length).all (spOK l) && decide (l.length ≤ 200)
theorem tvalid_false {l : List Sp} {i : Nat} (hi : i < l.length) (h : spOK l i = false) : tvalid l = false := by
  unfold tvalid
  have : (List.range l.length).all (spOK l) = false := by
    rw [List.all_eq_false]; exact ⟨i, List.mem_range.2 hi, by simp [h]⟩
  simp [this]
theorem tvalid_all {l : List Sp} (h : ∀ k, k < l.length → spOK l k = true) : tvalid l = decide (l.length ≤ 200) := by
  unfold tvalid
  have : (List.range l.length).all (spOK l) = true := by
    rw [List.all_eq_true]; exact fun k hk => h k (List.mem_range.1 hk)
  simp [this]

theorem spec26 (l : List Sp) (hl : l.length ≤ 1000000000) : Spec Try.prog 26 [sv l] (.b (tvalid l)) := by
  refine spT (r := [.b _]) Try.func26 rfl Try.ntmps26 Try.results26 rfl (by kernel_rfl) (V_run _ (enOK _) 100 ?_)
  refine V_loop _ (fun i : Nat => ⟨[(0, sv l), (2, .kb false), (3, .i (atI l i)), (4, .i (owI l i)), (7, sv l), (8, .i l.length), (9, .i i)], [], 0⟩) (fun i => i ≤ l.length ∧ ∀ k, k < i → spOK l k = true) (fun i => l.length - i) 0 ⟨Nat.zero_le _, fun _ h => absurd h (Nat.not_lt_zero _)⟩ ?_ ?_
  · refine Le_of _ [] [] ⟨rfl, True.intro, ?_, True.intro⟩
    exact ⟨⟨rfl, rfl, fun _ _ => rfl⟩, rfl, rfl, rfl, ⟨rfl, rfl, fun _ _ => rfl⟩, rfl, rfl, True.intro⟩
  · rintro i ⟨hi, hok⟩
    refine V_run _ (enOK _) 100 ?_
    refine Br.mk (fun h => ?_) (fun h => ?_)
    · have hlt : i < l.length := by simpa using h
      clear h
      refine Ix.by rfl hlt ?_
      repeat' first
        | refine V_draw _ (enOK _) (by kernel_rfl) ?_
        | refine Br.yes (by assumption) ?_
        | refine Br.no (by assumption) ?_
        | refine Br.mk (fun h => ?_) (fun h => ?_)
        | refine Way.spec ?_
        | refine CallS.by (spec51 _) rfl ?_
        | refine Ar.nat (i + 1) (by simp at *; omega) (by simp at *) ?_
        | refine And.intro (by kernel_rfl) ?_
        | refine V_run _ (enOK _) 100 ?_
      all_goals first
        | refine Out.mk ⟨congrArg Value.bool (tvalid_false hlt ?_).symm, True.intro⟩
          simp [spOK, isOwnerB] at *
          intros
          omega
        | refine ⟨i + 1, ⟨hlt, fun k hk => ?_⟩, (by omega), Le_of _ [] [] ⟨rfl, True.intro, ⟨⟨rfl, rfl, fun _ _ => rfl⟩, rfl, rfl, rfl, ⟨rfl, rfl, fun _ _ => rfl⟩, rfl, rfl, True.intro⟩, True.intro⟩⟩
          rcases Nat.lt_succ_iff_lt_or_eq.1 hk with hk | rfl
          · exact hok k hk
          · simp [spOK, isOwnerB] at *
            omega
    · have : i = l.length := by simp at h; omega
      subst this
      refine V_run _ (enOK _) 100 ?_
      refine Out.mk ⟨congrArg Value.bool ?_, True.intro⟩
      rw [tvalid_all hok, Bool.eq_iff_iff]
      simp
      omega

def endI (l : List Sp) : Int := atI l l.length

theorem spec52 (l : List Sp) (hl : l.length ≤ 1000000000) : Spec Try.prog 52 [sv l] (.i (endI l)) := by
  refine spT (r := [.i _]) Try.func52 rfl Try.ntmps52 Try.results52 rfl (by kernel_rfl) (V_run _ (enOK _) 100 ?_)
  refine Br.mk (fun h => ?_) (fun h => ?_)
  · refine Out.mk ⟨congrArg (Value.int .i64) ?_, True.intro⟩
    have : l.length = 0 := by simp at h; simp [h]
    simp [endI, atI, this]
  · have : l.length ≠ 0 := by simp at h; simp [h]
    refine Ar.nat (l.length - 1) (by omega) (by omega) ?_
    refine Ix.by rfl (by omega) ?_
    refine Out.mk ⟨congrArg (Value.int .i64) ?_, True.intro⟩
    simp [endI, atI, this]

theorem spec27 (l : List Sp) (hl : l.length ≤ 1000000000) : Spec Try.prog 27 [sv l] (.i (if tvalid l then endI l else -1)) := by
  refine spT (r := [.i _]) Try.func27 rfl Try.ntmps27 Try.results27 rfl (by kernel_rfl) (V_run _ (enOK _) 100 ?_)
  refine Way.spec (CallS.by (spec26 _ hl) rfl ?_)
  refine Br.mk (fun h => ?_) (fun h => ?_)
  · refine Out.mk ⟨congrArg (Value.int .i64) ?_, True.intro⟩
    simp at h; simp [h]
  · refine Way.spec (CallS.by (spec52 _ hl) rfl ?_)
    refine Out.mk ⟨congrArg (Value.int .i64) ?_, True.intro⟩
    simp at h; simp [h]

def insideB (l : List Sp) (f t : Int) : Bool := decide (0 ≤ f ∧ f < t ∧ t ≤ endI l)

theorem spec99 (l : List Sp) (hl : l.length ≤ 1000000000) (f t : Int) : Spec Try.prog 99 [sv l, .i f, .i t] (.b (insideB l f t)) := by
  refine spT (r := [.b _]) Try.func99 rfl Try.ntmps99 Try.results99 rfl (by kernel_rfl) (V_run _ (enOK _) 100 ?_)
  repeat' first
    | refine Br.mk (fun h => ?_) (fun h => ?_)
    | refine Way.spec ?_
    | refine CallS.by (spec52 _ hl) rfl ?_
  all_goals
    refine Out.mk ⟨?_, True.intro⟩
    refine congrArg Value.bool ?_
    rw [Bool.eq_iff_iff]
    simp [insideB] at *
    omega

abbrev resS (l : List Sp) (e : Int) : AV := .tup [sv l, .i e]
def newP (en ow : Int) : List Sp × Int := if en < 0 ∨ 10000000 < en ∨ isOwnerB ow = false then ([], 150) else if en = 0 then ([], 0) else ([⟨0, en, ow⟩], 0)

theorem spec71 (en' ow : Int) {s : List Sp} {e : Int} (hr : newP en' ow = (s, e)) : Spec Try.prog 71 [.i en', .i ow] (resS s e) := by
  refine spT (r := [_, _]) Try.func71 rfl Try.ntmps71 Try.results71 rfl (by kernel_rfl) (V_run _ (enOK _) 100 ?_)
  repeat' first
    | refine Br.yes (by assumption) ?_
    | refine Br.no (by assumption) ?_
    | refine Br.mk (fun h => ?_) (fun h => ?_)
    | refine Way.spec ?_
    | refine CallS.by (spec51 _) rfl ?_
    | refine Bd.mk (Nat.le_refl _) ?_
  all_goals
    unfold newP at hr
    simp at *
    first
      | rw [if_pos (.inl (by omega))] at hr
        cases hr
        exact Out.mk ⟨rfl, rfl, True.intro⟩
      | rw [if_pos (.inr (.inl (by omega)))] at hr
        cases hr
        exact Out.mk ⟨rfl, rfl, True.intro⟩
      | rw [if_pos (.inr (.inr (by assumption)))] at hr
        cases hr
        exact Out.mk ⟨rfl, rfl, True.intro⟩
      | rw [if_neg (by simp [*] <;> omega), if_pos (by omega)] at hr
        cases hr
        exact Out.mk ⟨rfl, rfl, True.intro⟩
      | rw [if_neg (by simp [*] <;> omega), if_neg (by omega)] at hr
        cases hr
        exact Out.mk ⟨⟨rfl, rfl, fun i hi => by
          have : i = 0 := by omega
          subst this
          rfl⟩, rfl, True.intro⟩

end Go.AI

namespace Go.AI
open Go Go.Proofs Go.RowKit
set_option linter.unusedVariables false
set_option maxRecDepth 20000

theorem iterT {f : Nat} {fn : Func} {body : Code} {caps : List PV} {xs : List Value} {go : Bool} {m nt : Nat} (hf : Try.prog.funcs[f]? = some fn) (hb : fn.body = some body) (hnt : fn.ntmps = nt) (hrs : fn.results = #[])
    (hargs : Nat.ble (caps.length + 1) nt = true) (hn : (fn.name == "runtime.NumGoroutine") = false)
    (h : ∀ J Z0 Jst l, (∀ i v, xs[i]? = some v → (go = true ∨ i = 0) → YieldsJ Try.prog J l i v go) → V (enj nt J Z0 Jst) [.code body] ⟨(nt, .ghost 0) :: params 0 (.pv (.val (.func (.yield l) #[] #[])) :: caps.map .pv), [], 0⟩ (RetI nt m)) : Iter Try.prog f caps xs go m :=
  iter_of_V (en nt) (enOK nt) rfl rfl hf hb hnt hrs (Nat.le_of_ble_eq_true hargs) (enters_of hf hn hb) h

/-- A span, cut. -/
def cut (fr to : Int) (s : Sp) : Sp := ⟨maxI s.f fr, minI s.t to, s.o⟩
def has (fr to : Int) (s : Sp) : Bool := decide ((cut fr to s).f < (cut fr to s).t)
/-- The parts of spans that lie between. -/
def parts (fr to : Int) (l : List Sp) : List Sp := (l.filter (has fr to)).map (cut fr to)
abbrev vS (s : Sp) : Value := .agg #[.int .i64 s.f, .int .i64 s.t, .int .i64 s.o]
abbrev slP (l : List Sp) : PV := .rp 1 1 (fun _ => [sP l]) 0 0
abbrev bxP (x : Int) : PV := .rp 1 1 (fun _ => [.i x]) 0 0

theorem Rel_vS {w : World} {Z : Nat → Prop} {ρ : Nat → Option Loc} {s : Sp} {u : Value} (h : Rel w Z ρ s.v u) : u = vS s := by
  unfold Rel at h
  obtain ⟨vs, rfl, h⟩ := h
  simp only [RelL] at h
  obtain ⟨v1, _, e, h1, v2, _, rfl, h2, v3, _, rfl, h3, rfl⟩ := h
  have := Rel_val h1; have := Rel_val h2; have := Rel_val h3
  subst_vars
  obtain ⟨l⟩ := vs
  simp at e
  rw [e]

theorem parts_take_succ {fr to : Int} {l : List Sp} {i : Nat} (hi : i < l.length) : parts fr to (l.take (i + 1)) = parts fr to (l.take i) ++ (if has fr to (nth l i) then [cut fr to (nth l i)] else []) := by
  have : l.take (i + 1) = l.take i ++ [nth l i] := by
    rw [List.take_add_one, nth, List.getElem?_eq_getElem hi]; rfl
  unfold parts
  rw [this, List.filter_append, List.map_append]
  congr 1
  cases h : has fr to (nth l i) <;> simp [h]

theorem parts_get {fr to : Int} {l : List Sp} {i : Nat} (hi : i < l.length) (h : has fr to (nth l i) = true) : ((parts fr to l).map vS)[(parts fr to (l.take i)).length]? = some (vS (cut fr to (nth l i))) := by
  have e : parts fr to l = parts fr to (l.take (i + 1)) ++ parts fr to (l.drop (i + 1)) := by
    unfold parts
    rw [← List.map_append, ← List.filter_append, List.take_append_drop]
  rw [e, parts_take_succ hi, if_pos h]
  simp

theorem iter73 (l : List Sp) (hl : l.length ≤ 1000000000) (fr to : Int) : Iter Try.prog 73 [slP l, bxP fr, bxP to] ((parts fr to l).map vS) true (parts fr to l).length := by
  refine iterT Try.func73 rfl Try.ntmps73 Try.results73 rfl (by kernel_rfl) fun J Z0 Jst lo hy => V_run _ (enjOK _ _ _ _) 100 ?_
  refine V_loop _ (fun i : Nat => ⟨[(35, .ghost (parts fr to (l.take i)).length), (0, .pv (.val (.func (.yield lo) #[] #[]))), (2, .pv (bxP fr)), (3, .pv (bxP to)), (7, sv l), (8, .i l.length), (9, .i i)], [], 0⟩)
    (fun i => i ≤ l.length) (fun i => l.length - i) 0 (Nat.zero_le _) ?_ ?_
  · exact Le_of _ [] [] ⟨rfl, True.intro, ⟨rfl, rfl, ⟨rfl, rfl, rfl, rfl, fun _ _ => rfl⟩, ⟨rfl, rfl, rfl, rfl, fun _ _ => rfl⟩, ⟨rfl, rfl, fun _ _ => rfl⟩, rfl, rfl, True.intro⟩, True.intro⟩
  intro i hi
  refine V_run _ (enjOK _ _ _ _) 100 ?_
  refine Br.dec (fun hlt => ?_) (fun hlt => ?_)
  · have hi' : i < l.length := by omega
    have hnext := parts_take_succ (fr := fr) (to := to) hi'
    refine Ix.by rfl hi' ?_
    refine V_draw _ (enjOK _ _ _ _) (by kernel_rfl) ?_
    refine And.intro (by kernel_rfl) (V_run _ (enjOK _ _ _ _) 100 ?_)
    refine Br.dec (fun hc => ?_) (fun hc => ?_)
    · have hh : has fr to (nth l i) = true := decide_eq_true hc
      have hg := parts_get hi' hh
      rw [if_pos hh] at hnext
      refine V_yield _ rfl (.inr ⟨5, true, _, 28, rfl, rfl, rfl, rfl⟩) rfl rfl rfl (fun w Z ρ u hu => Rel_vS (s := cut fr to (nth l i)) hu) rfl (hy _ _ hg (.inl rfl)) (V_run _ (enjOK _ _ _ _) 100 ?_)
      refine Ar.nat (i + 1) (by omega) (by omega) ?_
      refine ⟨i + 1, by omega, by omega, Le_of _ [] [] ⟨rfl, True.intro, ⟨?_, rfl, ⟨rfl, rfl, rfl, rfl, fun _ _ => rfl⟩, ⟨rfl, rfl, rfl, rfl, fun _ _ => rfl⟩, ⟨rfl, rfl, fun _ _ => rfl⟩, rfl, rfl, True.intro⟩, True.intro⟩⟩
      show (parts fr to (l.take (i + 1))).length = (parts fr to (l.take i)).length + 1
      rw [hnext, List.length_append]; rfl
    · have hh : has fr to (nth l i) = false := decide_eq_false hc
      rw [hh] at hnext
      refine Ar.nat (i + 1) (by omega) (by omega) ?_
      refine ⟨i + 1, by omega, by omega, Le_of _ [] [] ⟨rfl, True.intro, ⟨?_, rfl, ⟨rfl, rfl, rfl, rfl, fun _ _ => rfl⟩, ⟨rfl, rfl, rfl, rfl, fun _ _ => rfl⟩, ⟨rfl, rfl, fun _ _ => rfl⟩, rfl, rfl, True.intro⟩, True.intro⟩⟩
      show (parts fr to (l.take (i + 1))).length = (parts fr to (l.take i)).length
      rw [hnext]; simp
  · have : i = l.length := by omega
    subst this
    refine V_run _ (enjOK _ _ _ _) 100 ?_
    refine Out.mk ?_
    show AV.ghost (parts fr to (l.take l.length)).length = _
    rw [List.take_length]

theorem iter73s (l : List Sp) (hl : l.length ≤ 1000000000) (fr to : Int) : Iter Try.prog 73 [slP l, bxP fr, bxP to] ((parts fr to l).map vS) false (min 1 (parts fr to l).length) := by
  refine iterT Try.func73 rfl Try.ntmps73 Try.results73 rfl (by kernel_rfl) fun J Z0 Jst lo hy => V_run _ (enjOK _ _ _ _) 100 ?_
  refine V_loop _ (fun i : Nat => ⟨[(35, .ghost 0), (0, .pv (.val (.func (.yield lo) #[] #[]))), (2, .pv (bxP fr)), (3, .pv (bxP to)), (7, sv l), (8, .i l.length), (9, .i i)], [], 0⟩)
    (fun i => i ≤ l.length ∧ parts fr to (l.take i) = []) (fun i => l.length - i) 0 ⟨Nat.zero_le _, rfl⟩ ?_ ?_
  · exact Le_of _ [] [] ⟨rfl, True.intro, ⟨rfl, rfl, ⟨rfl, rfl, rfl, rfl, fun _ _ => rfl⟩, ⟨rfl, rfl, rfl, rfl, fun _ _ => rfl⟩, ⟨rfl, rfl, fun _ _ => rfl⟩, rfl, rfl, True.intro⟩, True.intro⟩
  rintro i ⟨hi, h0⟩
  refine V_run _ (enjOK _ _ _ _) 100 ?_
  refine Br.dec (fun hlt => ?_) (fun hlt => ?_)
  · have hi' : i < l.length := by omega
    have hnext := parts_take_succ (fr := fr) (to := to) hi'
    refine Ix.by rfl hi' ?_
    refine V_draw _ (enjOK _ _ _ _) (by kernel_rfl) ?_
    refine And.intro (by kernel_rfl) (V_run _ (enjOK _ _ _ _) 100 ?_)
    refine Br.dec (fun hc => ?_) (fun hc => ?_)
    · have hh : has fr to (nth l i) = true := decide_eq_true hc
      have hg := parts_get hi' hh
      rw [h0] at hg
      have hpos : 0 < (parts fr to l).length := by
        have := (List.getElem?_eq_some_iff.1 hg).1
        simpa using this
      refine V_yield _ rfl (.inr ⟨5, true, _, 28, rfl, rfl, rfl, rfl⟩) rfl rfl rfl (fun w Z ρ u hu => Rel_vS (s := cut fr to (nth l i)) hu) rfl (hy _ _ hg (.inr rfl)) (V_run _ (enjOK _ _ _ _) 100 ?_)
      refine Out.mk ?_
      show AV.ghost 1 = _
      rw [Nat.min_eq_left (by omega)]
    · have hh : has fr to (nth l i) = false := decide_eq_false hc
      rw [hh, h0] at hnext
      refine Ar.nat (i + 1) (by omega) (by omega) ?_
      exact ⟨i + 1, ⟨by omega, by rw [hnext]; rfl⟩, by omega, Le_of _ [] [] ⟨rfl, True.intro, ⟨rfl, rfl, ⟨rfl, rfl, rfl, rfl, fun _ _ => rfl⟩, ⟨rfl, rfl, rfl, rfl, fun _ _ => rfl⟩, ⟨rfl, rfl, fun _ _ => rfl⟩, rfl, rfl, True.intro⟩, True.intro⟩⟩
  · have : i = l.length := by omega
    subst this
    rw [List.take_length] at h0
    refine V_run _ (enjOK _ _ _ _) 100 ?_
    refine Out.mk ?_
    show AV.ghost 0 = _
    rw [h0]; rfl

/-- timeline.within: its iterator. -/
theorem spec53 (l : List Sp) (fr to : Int) : Spec Try.prog 53 [sv l, .i fr, .i to] (.pv (.fn (.func 73) [slP l, bxP fr, bxP to])) := by
  refine spT (r := [_]) Try.func53 rfl Try.ntmps53 Try.results53 rfl (by kernel_rfl) (V_run _ (enOK _) 100 ?_)
  exact Out.mk ⟨rfl, True.intro⟩

end Go.AI

namespace Go.AI
open Go Go.Proofs Go.RowKit
set_option linter.unusedVariables false
set_option maxRecDepth 20000

def mrg : List En → List En → List En
  | [], b => b
  | x :: a, [] => x :: a
  | x :: a, y :: b => if ltKey x y then x :: mrg a (y :: b) else if ltKey y x then y :: mrg (x :: a) b else if ltRest y x then y :: mrg a b else x :: mrg a b
termination_by a b => a.length + b.length

theorem drop_nth {α : Type} [Inhabited α] {l : List α} {i : Nat} (h : i < l.length) : l.drop i = nth l i :: l.drop (i + 1) := by
  rw [List.drop_eq_getElem_cons h]; simp [nth, h]

theorem mrg_nil (a : List En) : mrg a [] = a := by cases a <;> simp [mrg]

theorem nth_append_left {α : Type} [Inhabited α] {l r : List α} {q : Nat} (h : q < l.length) : nth (l ++ r) q = nth l q := by
  simp [nth, List.getElem?_append_left h]
theorem nth_append_right {α : Type} [Inhabited α] {l r : List α} {q : Nat} (h : l.length ≤ q) : nth (l ++ r) q = nth r (q - l.length) := by
  simp [nth, List.getElem?_append_right h]

theorem joinRows_snoc {α : Type} [Inhabited α] (c : α → List PV) (l : List α) (x : α) (q : Nat) (hq : q < l.length + 1) (g2 : Nat → List PV) (h : g2 0 = c x) : joinRows l.length (fun i => c (nth l i)) g2 q = c (nth (l ++ [x]) q) := by
  unfold joinRows
  split
  · rename_i e
    rw [nth_append_left (blt_true e)]
  · rename_i e
    have : l.length ≤ q := blt_false e
    have : q = l.length := by omega
    subst this
    rw [nth_append_right (Nat.le_refl _), Nat.sub_self, h]
    rfl

theorem mrg_a {a b : List En} {i k : Nat} (hi : i < a.length) (h : k = b.length ∨ (k < b.length ∧ ltKey (nth a i) (nth b k) = true)) : mrg (a.drop i) (b.drop k) = nth a i :: mrg (a.drop (i + 1)) (b.drop k) := by
  rw [drop_nth hi]
  rcases h with rfl | ⟨hk, h⟩
  · rw [List.drop_length, mrg_nil, mrg_nil]
  · rw [drop_nth hk]
    simp [mrg, h]
theorem mrg_b {a b : List En} {i k : Nat} (hk : k < b.length) (h : i = a.length ∨ (i < a.length ∧ ltKey (nth a i) (nth b k) = false ∧ ltKey (nth b k) (nth a i) = true)) : mrg (a.drop i) (b.drop k) = nth b k :: mrg (a.drop i) (b.drop (k + 1)) := by
  rw [drop_nth hk]
  rcases h with rfl | ⟨hi, h1, h2⟩
  · rw [List.drop_length]; simp [mrg]
  · rw [drop_nth hi]
    simp [mrg, h1, h2]
theorem mrg_ab {a b : List En} {i k : Nat} (hi : i < a.length) (hk : k < b.length) (h1 : ltKey (nth a i) (nth b k) = false) (h2 : ltKey (nth b k) (nth a i) = false) :
    mrg (a.drop i) (b.drop k) = (if ltRest (nth b k) (nth a i) then nth b k else nth a i) :: mrg (a.drop (i + 1)) (b.drop (k + 1)) := by
  rw [drop_nth hi, drop_nth hk]
  simp only [mrg, h1, h2]
  cases ltRest (nth b k) (nth a i) <;> simp

def mergeP (a b : List En) : List En × Int := if validM a = false ∨ validM b = false then ([], 320) else if 120 < (mrg a b).length then ([], 320) else (mrg a b, 0)
abbrev resJ (l : List En) (e : Int) : AV := .tup [jv l, .i e]

attribute [local irreducible] ltKey ltRest

set_option maxHeartbeats 4000000 in
theorem spec16 (a b : List En) (ha : a.length ≤ 1000000000) (hb : b.length ≤ 1000000000) {s : List En} {e : Int} (hr : mergeP a b = (s, e)) : Spec Try.prog 16 [jv a, jv b] (resJ s e) := by
  refine spT (r := [_, _]) Try.func16 rfl Try.ntmps16 Try.results16 rfl (by kernel_rfl) (V_run _ (enOK _) 100 ?_)
  have bad : ∀ {v w : Bool}, (validM a = false ∨ validM b = false) → s = [] ∧ e = 320 := by
    intro _ _ h
    unfold mergeP at hr
    rw [if_pos h] at hr
    cases hr; exact ⟨rfl, rfl⟩
  refine Way.spec (CallS.by (spec14 _ ha) rfl ?_)
  refine Br.mk (fun h => ?_) (fun h => ?_)
  · obtain ⟨rfl, rfl⟩ := bad (v := true) (w := true) (.inl (by simpa using h))
    exact Out.mk ⟨rfl, rfl, True.intro⟩
  refine Way.spec (CallS.by (spec14 _ hb) rfl ?_)
  refine Br.mk (fun h2 => ?_) (fun h2 => ?_)
  · obtain ⟨rfl, rfl⟩ := bad (v := true) (w := true) (.inr (by simpa using h2))
    exact Out.mk ⟨rfl, rfl, True.intro⟩
  have hva : validM a = true := by simpa using h
  have hvb : validM b = true := by simpa using h2
  refine V_loop _ (fun x : Nat × Nat × List En => ⟨[(0, jv a), (1, jv b), (6, .own 0 0 x.2.2.length), (7, .i x.1), (8, .i x.2.1)], [(0, some (.arr 47 6 x.2.2.length fun q => (nth x.2.2 q).c))], 1⟩)
    (fun x => x.1 ≤ a.length ∧ x.2.1 ≤ b.length ∧ x.2.2.length ≤ x.1 + x.2.1 ∧ x.2.2 ++ mrg (a.drop x.1) (b.drop x.2.1) = mrg a b) (fun x => a.length + b.length - (x.1 + x.2.1)) (0, 0, []) ⟨Nat.zero_le _, Nat.zero_le _, Nat.le_refl _, rfl⟩ ?_ ?_
  · refine Le_of _ [(0, none)] [] ⟨rfl, True.intro, ?_, ?_⟩
    · exact ⟨⟨rfl, rfl, fun _ _ => rfl⟩, ⟨rfl, rfl, fun _ _ => rfl⟩, ⟨rfl, rfl, rfl⟩, rfl, rfl, True.intro⟩
    · exact ⟨⟨rfl, rfl⟩, True.intro⟩
  rintro ⟨i, k, acc⟩ ⟨hi, hk, hlen, hacc⟩
  simp only at hi hk hlen hacc
  dsimp only
  refine V_run _ (enOK _) 200 ?_
  repeat' first
    | refine V_draw _ (enOK _) (by kernel_rfl) ?_
    | refine Br.yes (by assumption) ?_
    | refine Br.no (by assumption) ?_
    | refine Br.dyes (by omega) ?_
    | refine Br.dno (by omega) ?_
    | refine Br.eyes (by omega) ?_
    | refine Br.eno (by omega) ?_
    | refine Br.dec (fun h => ?_) (fun h => ?_)
    | refine Br.eq (fun h => ?_) (fun h => ?_)
    | refine Br.mk (fun h => ?_) (fun h => ?_)
    | refine Way.spec ?_
    | refine CallS.by (spec39 _ _) rfl ?_
    | refine CallS.by (spec44 _ _) rfl ?_
    | refine Ar.nat (i + 1) (by omega) (by omega) ?_
    | refine Ar.nat (k + 1) (by omega) (by omega) ?_
    | refine Ix.by rfl (by omega) ?_
    | refine Bd.mk (Nat.le_refl _) ?_
    | refine Bd.mk ⟨Nat.le_refl _, (show (acc.length + 1) * 48 ≤ 140737488355328 from by omega)⟩ ?_
    | refine And.intro (by kernel_rfl) ?_
    | refine V_run _ (enOK _) 200 ?_
  all_goals try (clear bad)
  all_goals first
    | have e1 := mrg_a (a := a) (b := b) (i := i) (k := k) (by omega) (by first | exact .inl (by omega) | exact .inr ⟨by omega, by assumption⟩)
      rw [e1] at hacc
      refine ⟨(i + 1, k, acc ++ [nth a i]), ⟨?_, ?_, ?_, ?_⟩, ?_, Le_of _ [(0, some 2)] [] ⟨rfl, True.intro, ⟨⟨rfl, rfl, fun _ _ => rfl⟩, ⟨rfl, rfl, fun _ _ => rfl⟩, ⟨rfl, rfl, by simp⟩, rfl, rfl, True.intro⟩, ⟨⟨rfl, rfl, rfl, by simp, fun q hq => joinRows_snoc (fun x : En => x.c) acc (nth a i) q hq _ rfl⟩, True.intro⟩⟩⟩
      · dsimp only; omega
      · dsimp only; omega
      · dsimp only; rw [List.length_append, List.length_singleton]; omega
      · dsimp only; rw [← hacc]; simp
      · dsimp only; omega
    | have e1 := mrg_b (a := a) (b := b) (i := i) (k := k) (by omega) (by first | exact .inl (by omega) | exact .inr ⟨by omega, by assumption, by assumption⟩)
      rw [e1] at hacc
      refine ⟨(i, k + 1, acc ++ [nth b k]), ⟨?_, ?_, ?_, ?_⟩, ?_, Le_of _ [(0, some 2)] [] ⟨rfl, True.intro, ⟨⟨rfl, rfl, fun _ _ => rfl⟩, ⟨rfl, rfl, fun _ _ => rfl⟩, ⟨rfl, rfl, by simp⟩, rfl, rfl, True.intro⟩, ⟨⟨rfl, rfl, rfl, by simp, fun q hq => joinRows_snoc (fun x : En => x.c) acc (nth b k) q hq _ rfl⟩, True.intro⟩⟩⟩
      · dsimp only; omega
      · dsimp only; omega
      · dsimp only; rw [List.length_append, List.length_singleton]; omega
      · dsimp only; rw [← hacc]; simp
      · dsimp only; omega
    | have e1 := (mrg_ab (a := a) (b := b) (i := i) (k := k) (by omega) (by omega) (by assumption) (by assumption)).trans (by rw [if_pos (by assumption)])
      rw [e1] at hacc
      refine ⟨(i + 1, k + 1, acc ++ [nth b k]), ⟨?_, ?_, ?_, ?_⟩, ?_, Le_of _ [(0, some 2)] [] ⟨rfl, True.intro, ⟨⟨rfl, rfl, fun _ _ => rfl⟩, ⟨rfl, rfl, fun _ _ => rfl⟩, ⟨rfl, rfl, by simp⟩, rfl, rfl, True.intro⟩, ⟨⟨rfl, rfl, rfl, by simp, fun q hq => joinRows_snoc (fun x : En => x.c) acc (nth b k) q hq _ rfl⟩, True.intro⟩⟩⟩
      · dsimp only; omega
      · dsimp only; omega
      · dsimp only; rw [List.length_append, List.length_singleton]; omega
      · dsimp only; rw [← hacc]; simp
      · dsimp only; omega
    | have e1 := (mrg_ab (a := a) (b := b) (i := i) (k := k) (by omega) (by omega) (by assumption) (by assumption)).trans (by rw [if_neg (by simp [*])])
      rw [e1] at hacc
      refine ⟨(i + 1, k + 1, acc ++ [nth a i]), ⟨?_, ?_, ?_, ?_⟩, ?_, Le_of _ [(0, some 2)] [] ⟨rfl, True.intro, ⟨⟨rfl, rfl, fun _ _ => rfl⟩, ⟨rfl, rfl, fun _ _ => rfl⟩, ⟨rfl, rfl, by simp⟩, rfl, rfl, True.intro⟩, ⟨⟨rfl, rfl, rfl, by simp, fun q hq => joinRows_snoc (fun x : En => x.c) acc (nth a i) q hq _ rfl⟩, True.intro⟩⟩⟩
      · dsimp only; omega
      · dsimp only; omega
      · dsimp only; rw [List.length_append, List.length_singleton]; omega
      · dsimp only; rw [← hacc]; simp
      · dsimp only; omega
    | have e1 : acc = mrg a b := by
        rw [← hacc, List.drop_of_length_le (by omega), List.drop_of_length_le (by omega)]
        simp [mrg]
      subst e1
      unfold mergeP at hr
      rw [if_neg (by simp [hva, hvb])] at hr
      first
        | rw [if_pos (by omega)] at hr
          cases hr
          exact Out.mk ⟨rfl, rfl, True.intro⟩
        | rw [if_neg (by omega)] at hr
          cases hr
          exact Bd.mk (by omega) (Out.mk ⟨⟨rfl, rfl, fun _ _ => rfl⟩, rfl, True.intro⟩)

end Go.AI

namespace Go.AI
open Go Go.Proofs Go.RowKit
set_option linter.unusedVariables false
set_option maxRecDepth 20000

theorem fxT {f : Nat} {fn : Func} {body : Code} {rs : List ResultVar} {args r : List AV} {nt nid c : Nat} {pin : List Nat} {obl : List (Nat × AO)} {wr : List (Nat × Option AO)} {ob : Nat → Option AO} (hf : Try.prog.funcs[f]? = some fn) (hb : fn.body = some body)
    (hnt : fn.ntmps = nt) (hrs : fn.results = rs.toArray) (hargs : Nat.ble args.length nt = true) (hn : (fn.name == "runtime.NumGoroutine") = false) (hok : FxOK pin args obl nid c r wr) (hob : holdsOb ob obl)
    (h : ∀ loc, V (enp nt pin loc) [.code body] ⟨params 0 args, somed obl, nid⟩ (RetF (enp nt pin loc) rs r (nid + c) wr)) : CallFx Try.prog f args ob (ids (somed obl)) (tupA r) wr nid c :=
  fx_of_V (enp nt pin (fun _ => none)) (enpOK nt pin _) rfl hf hb hnt hrs (Nat.le_of_ble_eq_true hargs) (enters_of hf hn hb) hok hob h

abbrev rowS (l : List Sp) : AO := .arr 75 3 l.length fun q => (nth l q).c
theorem nth_setG {α : Type} [Inhabited α] {l : List α} {i q : Nat} {x : α} (h : i < l.length) : nth (l.set i x) q = if q = i then x else nth l q := by
  unfold nth
  by_cases e : q = i
  · subst e
    rw [if_pos rfl, List.getElem?_set_self h]; rfl
  · rw [if_neg e, List.getElem?_set_ne (Ne.symm e)]

def grown (l : List Sp) (r : Nat) (s : Sp) : List Sp := l.set r ⟨(nth l r).f, s.t, (nth l r).o⟩

theorem fx111 (l : List Sp) (r : Nat) (s : Sp) (hr : r < l.length) {ob : Nat → Option AO} (h1 : ob 1 = some (rowS l)) :
    CallFx Try.prog 111 [.ptr 1 r 0, s.v] ob [1] (.b (decide ((nth l r).o = s.o))) [(1, some (.arr 75 3 l.length fun q => (nth (if (nth l r).o = s.o then grown l r s else l) q).c))] 7 0 := by
  refine fxT (r := [.b _]) (pin := [1]) (obl := [(1, rowS l)]) Try.func111 rfl Try.ntmps111 Try.results111 rfl (by kernel_rfl)
    ⟨rfl, rfl, rfl, rfl, rfl, rfl, rfl, rfl, rfl, rfl, rfl, rfl⟩ ⟨h1, True.intro⟩ fun loc => V_run _ (enpOK _ _ _) 200 ?_
  refine V_draw _ (enpOK _ _ _) (by kernel_rfl) ?_
  refine Bd.mk hr ?_
  refine And.intro (by kernel_rfl) (V_run _ (enpOK _ _ _) 100 ?_)
  refine Br.eq (fun he => ?_) (fun he => ?_)
  · refine Bd.mk ⟨hr, by decide⟩ ?_
    refine Out.mk ⟨[(1, some 1)], [], ⟨rfl, True.intro, True.intro, ?_⟩, ⟨congrArg Value.bool (by simp [he]), rfl⟩⟩
    refine ⟨⟨rfl, rfl, rfl, rfl, fun q hq => ?_⟩, True.intro⟩
    show (match Nat.beq q r with | true => putL (nth l r).c (0 + 1) [.i s.t] | false => (nth l q).c) = (nth (if (nth l r).o = s.o then grown l r s else l) q).c
    rw [if_pos he]
    unfold grown
    rw [nth_setG hr]
    cases e : Nat.beq q r with
    | true =>
      rw [if_pos (Nat.eq_of_beq_eq_true e)]
      rfl
    | false => rw [if_neg (by rintro rfl; have h3 := Nat.beq_refl q; rw [h3] at e; cases e)]
  · refine Out.mk ⟨[(1, some 1)], [], ⟨rfl, True.intro, True.intro, ?_⟩, ⟨congrArg Value.bool (by simp [he]), rfl⟩⟩
    refine ⟨⟨rfl, rfl, rfl, rfl, fun q hq => ?_⟩, True.intro⟩
    dsimp only
    rw [if_neg he]

/-- The last span grown, or one more. -/
def addS (l : List Sp) (s : Sp) : List Sp := if l ≠ [] ∧ (nth l (l.length - 1)).o = s.o then grown l (l.length - 1) s else l ++ [s]

/-- timeline.extended, where the last span grows. -/
theorem fx110g (l : List Sp) (s : Sp) (hn : l ≠ []) (ho : (nth l (l.length - 1)).o = s.o) (hl : l.length ≤ 1000000000) {ob : Nat → Option AO} (h1 : ob 1 = some (rowS l)) :
    CallFx Try.prog 110 [.own 1 0 l.length, s.v, .fn (.func 111) [] []] ob [1] (.own 1 0 l.length) [(1, some (.arr 75 3 l.length fun q => (nth (grown l (l.length - 1) s) q).c))] 6 0 := by
  have hpos : 0 < l.length := List.length_pos_iff.2 hn
  refine fxT (r := [.own 1 0 l.length]) (pin := [1]) (obl := [(1, rowS l)]) Try.func110 rfl Try.ntmps110 Try.results110 rfl (by kernel_rfl)
    ⟨rfl, rfl, rfl, rfl, rfl, rfl, rfl, rfl, rfl, rfl, rfl, rfl⟩ ⟨h1, True.intro⟩ fun loc => V_run _ (enpOK _ _ _) 200 ?_
  refine V_draw _ (enpOK _ _ _) (by kernel_rfl) ?_
  repeat' first
    | refine Br.dyes (by omega) ?_
    | refine Ar.nat (l.length - 1) (by omega) (by omega) ?_
    | refine Ix.by rfl (by omega) ?_
  refine Way.fx ?_
  refine ⟨_, _, _, _, fx111 l (0 + (l.length - 1)) s (by omega) rfl, ?_⟩
  refine Br.dyes (by omega) ?_
  refine And.intro (by kernel_rfl) (V_run _ (enpOK _ _ _) 100 ?_)
  rw [Nat.zero_add]
  refine Br.dyes ho ?_
  refine Out.mk ⟨[(1, some 1)], [], ⟨rfl, True.intro, True.intro, ?_⟩, ⟨⟨rfl, rfl, rfl⟩, rfl⟩⟩
  refine ⟨⟨rfl, rfl, rfl, rfl, fun q hq => ?_⟩, True.intro⟩
  dsimp only
  rw [if_pos ho]

/-- timeline.extended, where one more span comes. -/
theorem fx110a (l : List Sp) (s : Sp) (ho : l ≠ [] → ¬ (nth l (l.length - 1)).o = s.o) (hl : l.length ≤ 1000000000) {ob : Nat → Option AO} (h1 : ob 1 = some (rowS l)) :
    CallFx Try.prog 110 [.own 1 0 l.length, s.v, .fn (.func 111) [] []] ob [1] (.own 6 0 (l ++ [s]).length) [(1, none), (6, some (rowS (l ++ [s])))] 6 1 := by
  refine fxT (r := [.own 6 0 (l ++ [s]).length]) (pin := []) (obl := [(1, rowS l)]) Try.func110 rfl Try.ntmps110 Try.results110 rfl (by kernel_rfl)
    ⟨rfl, rfl, rfl, rfl, rfl, rfl, rfl, rfl, rfl, rfl, rfl, rfl⟩ ⟨h1, True.intro⟩ fun loc => V_run _ (enpOK _ _ _) 200 ?_
  have hlen : (l ++ [s]).length = l.length + 1 := by simp
  refine V_draw _ (enpOK _ _ _) (by kernel_rfl) ?_
  by_cases hn : l = []
  · have h0 : l.length = 0 := by rw [hn]; rfl
    repeat' first
      | refine Br.dno (by omega) ?_
    refine And.intro (by kernel_rfl) (V_run _ (enpOK _ _ _) 100 ?_)
    refine Bd.mk (Nat.le_refl _) ?_
    refine Bd.mk ⟨Nat.le_refl _, (show (l.length + 1) * 24 ≤ 140737488355328 from by omega)⟩ ?_
    refine Out.mk ⟨[(6, some 8)], [], ⟨rfl, True.intro, True.intro, True.intro, ?_⟩, ⟨⟨rfl, rfl, hlen.symm⟩, rfl⟩⟩
    exact ⟨⟨rfl, rfl, rfl, hlen.symm, fun q hq => joinRows_snoc (fun x : Sp => x.c) l s q hq _ rfl⟩, True.intro⟩
  · have hpos : 0 < l.length := List.length_pos_iff.2 hn
    repeat' first
      | refine Br.dyes (by omega) ?_
      | refine Ar.nat (l.length - 1) (by omega) (by omega) ?_
      | refine Ix.by rfl (by omega) ?_
    refine Way.fx ?_
    refine ⟨_, _, _, _, fx111 l (0 + (l.length - 1)) s (by omega) rfl, ?_⟩
    refine Br.dyes (by omega) ?_
    refine And.intro (by kernel_rfl) (V_run _ (enpOK _ _ _) 100 ?_)
    rw [Nat.zero_add]
    refine Br.dno (ho hn) ?_
    rw [if_neg (ho hn)]
    refine Bd.mk (Nat.le_refl _) ?_
    refine Bd.mk ⟨Nat.le_refl _, (show (l.length + 1) * 24 ≤ 140737488355328 from by omega)⟩ ?_
    refine Out.mk ⟨[(6, some 8)], [], ⟨rfl, True.intro, True.intro, True.intro, ?_⟩, ⟨⟨rfl, rfl, hlen.symm⟩, rfl⟩⟩
    exact ⟨⟨rfl, rfl, rfl, hlen.symm, fun q hq => joinRows_snoc (fun x : Sp => x.c) l s q hq _ rfl⟩, True.intro⟩

end Go.AI

namespace Go.AI
open Go Go.Proofs Go.RowKit
set_option linter.unusedVariables false
set_option maxRecDepth 20000

theorem grown_length (l : List Sp) (r : Nat) (s : Sp) : (grown l r s).length = l.length := by simp [grown]

/-- builder.add. -/
theorem fx101 (l : List Sp) (s : Sp) (hl : l.length ≤ 1000000000) {ob : Nat → Option AO} (h0 : ob 0 = some (.box [.own 1 0 l.length])) (h1 : ob 1 = some (rowS l)) :
    CallFx Try.prog 101 [.ptr 0 0 0, s.v] ob [0, 1] (.tup []) [(0, some (.box [.own 5 0 (addS l s).length])), (1, none), (5, some (rowS (addS l s)))] 5 1 := by
  refine fxT (r := []) (pin := [0]) (obl := [(0, .box [.own 1 0 l.length]), (1, rowS l)]) Try.func101 rfl Try.ntmps101 Try.results101 rfl (by kernel_rfl)
    ⟨rfl, rfl, rfl, rfl, rfl, rfl, rfl, rfl, rfl, rfl, rfl, rfl⟩ ⟨h0, h1, True.intro⟩ fun loc => V_run _ (enpOK _ _ _) 200 ?_
  refine V_draw _ (enpOK _ _ _) (by kernel_rfl) ?_
  by_cases hc : l ≠ [] ∧ (nth l (l.length - 1)).o = s.o
  · have ha : addS l s = grown l (l.length - 1) s := by unfold addS; rw [if_pos hc]
    refine Way.fx ?_
    refine ⟨_, _, _, _, fx110g l s hc.1 hc.2 hl rfl, ?_⟩
    refine And.intro (by kernel_rfl) (V_run _ (enpOK _ _ _) 100 ?_)
    rw [ha]
    refine Out.mk ⟨[(0, some 0), (5, some 1)], [], ⟨rfl, True.intro, True.intro, ⟨rfl, ⟨⟨rfl, rfl, (grown_length _ _ _).symm⟩, rfl⟩⟩, True.intro, ⟨rfl, rfl, rfl, (grown_length _ _ _).symm, fun q hq => rfl⟩, True.intro⟩, rfl⟩
  · have ha : addS l s = l ++ [s] := by unfold addS; rw [if_neg hc]
    refine Way.fx ?_
    refine ⟨_, _, _, _, fx110a l s (fun h1 h2 => hc ⟨h1, h2⟩) hl rfl, ?_⟩
    refine And.intro (by kernel_rfl) (V_run _ (enpOK _ _ _) 100 ?_)
    rw [ha]
    refine Out.mk ⟨[(0, some 0), (5, some 6)], [], ⟨rfl, True.intro, True.intro, ⟨rfl, ⟨⟨rfl, rfl, rfl⟩, rfl⟩⟩, True.intro, ⟨rfl, rfl, rfl, rfl, fun q hq => rfl⟩, True.intro⟩, rfl⟩

end Go.AI

namespace Go.AI
open Go Go.Proofs Go.RowKit
set_option linter.unusedVariables false
set_option maxRecDepth 20000

def tmIds : List (Nat × AV) → List Nat
  | [] => []
  | (_, x) :: l => idsA x ++ tmIds l
theorem tmIds_spec {pin : List Nat} : ∀ {tm : List (Nat × AV)}, allMem pin (tmIds tm) = true → ∀ t id, id ∈ idsA (assoc .top tm t) → id ∈ pin
  | [], h, t, id, hm => by simp only [assoc, idsA] at hm; cases hm
  | (u, x) :: l, h, t, id, hm => by
    have hsplit : (∀ y, y ∈ idsA x → y ∈ pin) ∧ allMem pin (tmIds l) = true := by
      refine ⟨fun y hy => allMem_spec h (List.mem_append_left _ hy), ?_⟩
      have : ∀ (l1 l2 : List Nat), allMem pin (l1 ++ l2) = true → allMem pin l2 = true := by
        intro l1 l2
        induction l1 with
        | nil => exact fun h => h
        | cons a l1 ih =>
          intro h
          simp only [List.cons_append, allMem] at h
          split at h
          · exact ih h
          · cases h
      exact this _ _ h
    simp only [assoc] at hm
    split at hm
    · exact hsplit.1 id hm
    · exact tmIds_spec hsplit.2 t id hm

theorem Rel_Sv {w : World} {Z : Nat → Prop} {ρ : Nat → Option Loc} (s : Sp) : Rel w Z ρ s.v (vS s) := by
  unfold Rel
  refine ⟨_, rfl, ?_⟩
  simp only [RelL]
  exact ⟨_, _, rfl, Rel_mk rfl, _, _, rfl, Rel_mk rfl, _, _, rfl, Rel_mk rfl, rfl⟩

def addL (l0 ps : List Sp) : List Sp := ps.foldl addS l0
theorem addL_snoc (l0 ps : List Sp) (s : Sp) : addL l0 (ps ++ [s]) = addS (addL l0 ps) s := by simp [addL]
theorem addS_len (l : List Sp) (s : Sp) : (addS l s).length ≤ l.length + 1 := by
  unfold addS; split
  · rw [grown_length]; omega
  · simp
theorem addL_len (l0 : List Sp) : ∀ (ps : List Sp), (addL l0 ps).length ≤ l0.length + ps.length := by
  intro ps
  induction ps generalizing l0 with
  | nil => exact Nat.le_refl _
  | cons s ps ih =>
    have h1 := ih (addS l0 s)
    have h2 := addS_len l0 s
    show (addL (addS l0 s) ps).length ≤ _
    simp only [List.length_cons]; omega

set_option maxHeartbeats 4000000 in
/-- timeline.each, adding to a builder. -/
theorem fx100 (l0 l : List Sp) (fr to : Int) (hl0 : l0.length ≤ 100000) (hl : l.length ≤ 100000) {ob : Nat → Option AO} (h0 : ob 0 = some (.box [.own 1 0 l0.length])) (h1 : ob 1 = some (rowS l0)) :
    CallFx Try.prog 100 [.pv (.fn (.func 73) [slP l, bxP fr, bxP to]), .fn (.func 101) [.ptr 0 0 0] []] ob [0, 1] (.tup [])
      [(0, some (.box [.own 3 0 (addL l0 (parts fr to l)).length])), (1, none), (3, some (rowS (addL l0 (parts fr to l))))] 3 1 := by
  refine fxT (r := []) (pin := [0]) (obl := [(0, .box [.own 1 0 l0.length]), (1, rowS l0)]) Try.func100 rfl Try.ntmps100 Try.results100 rfl (by kernel_rfl)
    ⟨rfl, rfl, rfl, rfl, rfl, rfl, rfl, rfl, rfl, rfl, rfl, rfl⟩ ⟨h0, h1, True.intro⟩ fun loc => V_run _ (enpOK _ _ _) 200 ?_
  have hpl : (parts fr to l).length ≤ l.length := by unfold parts; rw [List.length_map]; exact List.length_filter_le ..
  have hit := iter73 l (by omega) fr to
  generalize parts fr to l = ps at *
  have hA : ∀ i, i ≤ ps.length → (addL l0 (ps.take i)).length ≤ 1000000000 := fun i hi => by
    have := addL_len l0 (ps.take i)
    rw [List.length_take] at this
    omega
  refine V_range _ (enpOK _ _ _) [(1, .fn (.func 101) [.ptr 0 0 0] []), (3, .ptr 3 0 0)]
    (fun i => [(0, some (.box [.own 1 0 (addL l0 (ps.take i)).length])), (1, some (rowS (addL l0 (ps.take i)))), (3, some (.box [.fn (.func 101) [.ptr 0 0 0] []]))]) 4 (fun i => (nth ps i).v) [0, 3] (rt := false)
    rfl rfl hit (fun h => by cases h) (fun i v hv w Z ρ => ?_) rfl rfl rfl (fun i j h => by cases h) (fun i h => by cases h) (fun i w G h => h) (fun id hid => ?_) (tmIds_spec rfl) (fun id hid => ?_) ?_ (fun loc' i hi => ?_) (fun h => by cases h) (fun _ => ?_)
  · rw [List.getElem?_map] at hv
    cases e : ps[i]? with
    | none => rw [e] at hv; cases hv
    | some s =>
      rw [e] at hv
      cases hv
      have : nth ps i = s := by simp [nth, e]
      rw [this]
      exact Rel_Sv s
  · simp only [List.mem_cons, List.not_mem_nil, or_false] at hid
    rcases hid with rfl | rfl
    · exact ⟨1, by decide⟩
    · exact ⟨3, by decide⟩
  · have hid : id ∈ [0] := hid
    simp only [List.mem_cons, List.not_mem_nil, or_false] at hid
    subst hid
    simp
  · exact Le_of _ [(0, some 0), (1, some 1), (3, some 3)] [] ⟨rfl, True.intro, ⟨⟨rfl, ⟨⟨rfl, rfl, rfl⟩, rfl⟩, rfl⟩, ⟨rfl, rfl, rfl⟩, True.intro⟩, ⟨⟨rfl, ⟨⟨rfl, rfl, rfl⟩, rfl⟩⟩, ⟨rfl, rfl, rfl, rfl, fun _ _ => rfl⟩, ⟨rfl, ⟨⟨rfl, ⟨⟨rfl, rfl, rfl⟩, rfl⟩, rfl⟩, rfl⟩⟩, True.intro⟩⟩
  · have hi : i < ps.length := by rw [List.length_map] at hi; exact hi
    have hnext : addL l0 (ps.take (i + 1)) = addS (addL l0 (ps.take i)) (nth ps i) := by
      have : ps.take (i + 1) = ps.take i ++ [nth ps i] := by
        rw [List.take_add_one, nth, List.getElem?_eq_getElem hi]; rfl
      rw [this, addL_snoc]
    have hAi := hA i (by omega)
    refine V_run _ (enpOK _ _ _) 100 ?_
    refine V_run _ (enpOK _ _ _) 100 ?_
    refine Way.fx ?_
    refine ⟨_, _, _, _, fx101 (addL l0 (ps.take i)) (nth ps i) hAi rfl rfl, ?_⟩
    rw [← hnext]
    exact Le_of _ [(0, some 0), (1, some 5), (3, some 3)] [] ⟨rfl, True.intro, True.intro, ⟨⟨rfl, ⟨⟨rfl, rfl, rfl⟩, rfl⟩⟩, ⟨rfl, rfl, rfl, rfl, fun _ _ => rfl⟩, ⟨rfl, ⟨⟨rfl, ⟨⟨rfl, rfl, rfl⟩, rfl⟩, rfl⟩, rfl⟩⟩, True.intro⟩⟩
  · rw [List.take_length]
    refine V_run _ (enpOK _ _ _) 100 ?_
    exact Out.mk ⟨[(0, some 0), (3, some 1)], [], ⟨rfl, True.intro, True.intro, ⟨rfl, ⟨⟨rfl, rfl, rfl⟩, rfl⟩⟩, True.intro, ⟨rfl, rfl, rfl, rfl, fun q hq => rfl⟩, True.intro⟩, rfl⟩

end Go.AI

namespace Go.AI
open Go Go.Proofs Go.RowKit
set_option linter.unusedVariables false
set_option maxRecDepth 20000

theorem fx102 (l : List Sp) (hl : l.length ≤ 200) {ob : Nat → Option AO} (h0 : ob 0 = some (.box [.own 1 0 l.length])) (h1 : ob 1 = some (rowS l)) :
    CallFx Try.prog 102 [.ptr 0 0 0] ob [0, 1] (.tup [.own 5 0 l.length, .i 0]) [(0, none), (1, none), (5, some (rowS l))] 5 1 := by
  refine fxT (r := [.own 5 0 l.length, .i 0]) (pin := []) (obl := [(0, .box [.own 1 0 l.length]), (1, rowS l)]) Try.func102 rfl Try.ntmps102 Try.results102 rfl (by kernel_rfl)
    ⟨rfl, rfl, rfl, rfl, rfl, rfl, rfl, rfl, rfl, rfl, rfl, rfl⟩ ⟨h0, h1, True.intro⟩ fun loc => V_run _ (enpOK _ _ _) 200 ?_
  refine Br.dno (by omega) ?_
  exact Out.mk ⟨[(5, some 1)], [], ⟨rfl, True.intro, True.intro, True.intro, True.intro, ⟨rfl, rfl, rfl, rfl, fun q hq => rfl⟩, True.intro⟩, ⟨⟨rfl, rfl, rfl⟩, rfl, rfl⟩⟩

theorem fx102b (l : List Sp) (hl : 200 < l.length) {ob : Nat → Option AO} (h0 : ob 0 = some (.box [.own 1 0 l.length])) (h1 : ob 1 = some (rowS l)) :
    CallFx Try.prog 102 [.ptr 0 0 0] ob [0, 1] (.tup [.pv (.val (.slice none 0 0)), .i 150]) [(0, none), (1, none)] 5 0 := by
  refine fxT (r := [.pv (.val (.slice none 0 0)), .i 150]) (pin := []) (obl := [(0, .box [.own 1 0 l.length]), (1, rowS l)]) Try.func102 rfl Try.ntmps102 Try.results102 rfl (by kernel_rfl)
    ⟨rfl, rfl, rfl, rfl, rfl, rfl, rfl, rfl, rfl, rfl, rfl, rfl⟩ ⟨h0, h1, True.intro⟩ fun loc => V_run _ (enpOK _ _ _) 200 ?_
  refine Br.dyes (by omega) ?_
  exact Out.mk ⟨[], [], ⟨rfl, True.intro, True.intro, True.intro, True.intro, True.intro⟩, ⟨rfl, rfl, rfl⟩⟩

/-- l with another owner of some seconds. -/
def putL' (l : List Sp) (s : Sp) : List Sp := addL (addS (addL [] (parts 0 s.f l)) s) (parts s.t (endI l) l)
def putOK (l : List Sp) (s : Sp) : Bool := tvalid l && insideB l s.f s.t && isOwnerB s.o
def putP (l : List Sp) (s : Sp) : List Sp × Int := if putOK l s = false then ([], 150) else if 200 < (putL' l s).length then ([], 150) else (putL' l s, 0)

theorem tvalid_len {l : List Sp} (h : tvalid l = true) : l.length ≤ 200 := by
  unfold tvalid at h
  rw [Bool.and_eq_true] at h
  exact of_decide_eq_true h.2

set_option maxHeartbeats 4000000 in
theorem spec72 (l : List Sp) (s : Sp) (hl : l.length ≤ 1000000000) {out : List Sp} {e : Int} (hr : putP l s = (out, e)) : Spec Try.prog 72 [sv l, s.v] (resS out e) := by
  refine spT (r := [_, _]) Try.func72 rfl Try.ntmps72 Try.results72 rfl (by kernel_rfl) (V_run _ (enOK _) 39 ?_)
  have bad : putOK l s = false → out = [] ∧ e = 150 := by
    intro h
    unfold putP at hr
    rw [if_pos h] at hr
    cases hr; exact ⟨rfl, rfl⟩
  refine Way.spec (CallS.by (spec26 _ hl) rfl ?_)
  refine Br.not (fun h => ?_) (fun h => ?_)
  · obtain ⟨rfl, rfl⟩ := bad (by simp [putOK, h])
    first
      | exact Out.mk ⟨rfl, rfl, True.intro⟩
      | exact V_run _ (enOK _) 100 (show run _ _ _ _ _ _ from Out.mk ⟨rfl, rfl, True.intro⟩)
  refine Way.spec (CallS.by (spec99 l hl s.f s.t) rfl ?_)
  refine Br.not (fun h2 => ?_) (fun h2 => ?_)
  · obtain ⟨rfl, rfl⟩ := bad (by simp [putOK, h2])
    first
      | exact Out.mk ⟨rfl, rfl, True.intro⟩
      | exact V_run _ (enOK _) 100 (show run _ _ _ _ _ _ from Out.mk ⟨rfl, rfl, True.intro⟩)
  refine Way.spec (CallS.by (spec51 s.o) rfl ?_)
  refine Br.not (fun h3 => ?_) (fun h3 => ?_)
  · obtain ⟨rfl, rfl⟩ := bad (by simp [putOK, h3])
    first
      | exact Out.mk ⟨rfl, rfl, True.intro⟩
      | exact V_run _ (enOK _) 100 (show run _ _ _ _ _ _ from Out.mk ⟨rfl, rfl, True.intro⟩)
  have hres : putP l s = if 200 < (putL' l s).length then ([], 150) else (putL' l s, 0) := by
    unfold putP
    rw [if_neg (by simp [putOK, h, h2, h3])]
  rw [hr] at hres
  have hlen := tvalid_len h
  clear bad hr h h2 h3
  have hp0 : (parts 0 s.f l).length ≤ l.length := by unfold parts; rw [List.length_map]; exact List.length_filter_le ..
  have hp1 : (parts s.t (endI l) l).length ≤ l.length := by unfold parts; rw [List.length_map]; exact List.length_filter_le ..
  have hA1 := addL_len [] (parts 0 s.f l)
  have hA2 := addS_len (addL [] (parts 0 s.f l)) s
  have hA3 := addL_len (addS (addL [] (parts 0 s.f l)) s) (parts s.t (endI l) l)
  have hput : putL' l s = addL (addS (addL [] (parts 0 s.f l)) s) (parts s.t (endI l) l) := rfl
  refine V_weak _ (st' := ⟨[(0, sv l), (3, .ptr 2 0 0), (6, .ptr 0 0 0), (25, sv l), (27, .i s.f)], [(0, some (.box [.own 1 0 (List.length ([] : List Sp))])), (1, some (rowS [])), (2, some (.box [.i s.f, .i s.t, .i s.o]))], 3⟩)
    (Le_of _ [(0, some 1), (1, none), (2, some 0)] [] ⟨rfl, True.intro, ⟨⟨rfl, rfl, fun _ _ => rfl⟩, ⟨rfl, rfl, rfl⟩, ⟨rfl, rfl, rfl⟩, ⟨rfl, rfl, fun _ _ => rfl⟩, rfl, True.intro⟩, ⟨⟨rfl, ⟨⟨rfl, rfl, rfl⟩, rfl⟩⟩, ⟨rfl, rfl⟩, ⟨rfl, ⟨rfl, rfl, rfl, rfl⟩⟩, True.intro⟩⟩) (V_run _ (enOK _) 5 ?_)
  refine Way.spec (CallS.by (spec53 l 0 s.f) rfl ?_)
  refine Way.fx ?_
  refine ⟨_, _, _, _, fx100 [] l 0 s.f (by decide) (by omega) rfl rfl, ?_⟩
  generalize hB1 : addL [] (parts 0 s.f l) = b1 at *
  refine V_weak _ (st' := ⟨[(0, sv l), (3, .ptr 2 0 0), (6, .ptr 0 0 0)], [(0, some (.box [.own 1 0 b1.length])), (1, some (rowS b1)), (2, some (.box [.i s.f, .i s.t, .i s.o]))], 5⟩)
    (Le_of _ [(0, some 0), (1, some 3), (2, some 2)] [] ⟨rfl, True.intro, ⟨⟨rfl, rfl, fun _ _ => rfl⟩, ⟨rfl, rfl, rfl⟩, ⟨rfl, rfl, rfl⟩, True.intro⟩, ⟨⟨rfl, ⟨⟨rfl, rfl, rfl⟩, rfl⟩⟩, ⟨rfl, rfl, rfl, rfl, fun _ _ => rfl⟩, ⟨rfl, ⟨rfl, rfl, rfl, rfl⟩⟩, True.intro⟩⟩) (V_run _ (enOK _) 4 ?_)
  refine Way.fx ?_
  refine ⟨_, _, _, _, fx101 b1 s (by simp at hA1; omega) rfl rfl, ?_⟩
  generalize hB2 : addS b1 s = b2 at *
  refine V_weak _ (st' := ⟨[(0, sv l), (3, .ptr 2 0 0), (6, .ptr 0 0 0)], [(0, some (.box [.own 1 0 b2.length])), (1, some (rowS b2)), (2, some (.box [.i s.f, .i s.t, .i s.o]))], 3⟩)
    (Le_of _ [(0, some 0), (1, some 5), (2, some 2)] [] ⟨rfl, True.intro, ⟨⟨rfl, rfl, fun _ _ => rfl⟩, ⟨rfl, rfl, rfl⟩, ⟨rfl, rfl, rfl⟩, True.intro⟩, ⟨⟨rfl, ⟨⟨rfl, rfl, rfl⟩, rfl⟩⟩, ⟨rfl, rfl, rfl, rfl, fun _ _ => rfl⟩, ⟨rfl, ⟨rfl, rfl, rfl, rfl⟩⟩, True.intro⟩⟩) (V_run _ (enOK _) 10 ?_)
  refine V_draw _ (enOK _) (by kernel_rfl) ?_
  refine Way.spec (CallS.by (spec52 l hl) rfl ?_)
  refine Way.spec (CallS.by (spec53 l s.t (endI l)) rfl ?_)
  refine Way.fx ?_
  refine ⟨_, _, _, _, fx100 b2 l s.t (endI l) (by simp at hA1; omega) (by omega) rfl rfl, ?_⟩
  refine And.intro (by kernel_rfl) ?_
  rw [← hput]
  have hA4 : (putL' l s).length ≤ 1000 := by rw [hput]; simp at hA1; omega
  obtain ⟨b3, hb3⟩ : ∃ b3, b3 = putL' l s := ⟨_, rfl⟩
  rw [← hb3] at hres hA4 ⊢
  clear hput hb3 hA3
  refine V_weak _ (st' := ⟨[(6, .ptr 0 0 0)], [(0, some (.box [.own 1 0 b3.length])), (1, some (rowS b3))], 5⟩)
    (Le_of _ [(0, some 0), (1, some 3)] [] ⟨rfl, True.intro, ⟨⟨rfl, rfl, rfl⟩, True.intro⟩, ⟨⟨rfl, ⟨⟨rfl, rfl, rfl⟩, rfl⟩⟩, ⟨rfl, rfl, rfl, rfl, fun _ _ => rfl⟩, True.intro⟩⟩) (V_run _ (enOK _) 100 ?_)
  by_cases hbig : 200 < b3.length
  · rw [if_pos hbig] at hres
    cases hres
    refine Way.fx ?_
    refine ⟨_, _, _, _, fx102b _ hbig rfl rfl, ?_⟩
    exact Out.mk ⟨rfl, rfl, True.intro⟩
  · rw [if_neg hbig] at hres
    cases hres
    refine Way.fx ?_
    refine ⟨_, _, _, _, fx102 _ (Nat.le_of_not_lt hbig) rfl rfl, ?_⟩
    exact Bd.mk (by omega) (Out.mk ⟨⟨rfl, rfl, fun _ _ => rfl⟩, rfl, True.intro⟩)

end Go.AI

namespace Go.AI
open Go Go.Proofs Go.RowKit
set_option linter.unusedVariables false
set_option maxRecDepth 20000

def paintI (en' ow : Int) (l : List Sp) : Nat → List Sp × Int
  | 0 => newP en' ow
  | i + 1 => if (paintI en' ow l i).2 ≠ 0 then ([], (paintI en' ow l i).2) else putP (paintI en' ow l i).1 (nth l i)
def paintP (en' ow : Int) (l : List Sp) : List Sp × Int := paintI en' ow l l.length

theorem putP_len (l : List Sp) (s : Sp) : (putP l s).1.length ≤ 200 := by
  unfold putP
  split
  · simp
  · split
    · simp
    · simp only; omega
theorem newP_len (en' ow : Int) : (newP en' ow).1.length ≤ 200 := by
  unfold newP
  split
  · simp
  · split <;> simp
theorem paintI_len (en' ow : Int) (l : List Sp) : ∀ i, (paintI en' ow l i).1.length ≤ 200
  | 0 => newP_len _ _
  | i + 1 => by
    unfold paintI
    split
    · simp
    · exact putP_len _ _
theorem paintI_err {en' ow : Int} {l : List Sp} {i : Nat} (h : (paintI en' ow l i).2 ≠ 0) : ∀ k, paintI en' ow l (i + 1 + k) = ([], (paintI en' ow l i).2)
  | 0 => by rw [Nat.add_zero, paintI, if_pos h]
  | k + 1 => by
    have := paintI_err h k
    rw [show i + 1 + (k + 1) = (i + 1 + k) + 1 by omega, paintI, this, if_pos h]

set_option maxHeartbeats 4000000 in
theorem spec49 (en' ow : Int) (l : List Sp) (hl : l.length ≤ 1000000000) {out : List Sp} {e : Int} (hr : paintP en' ow l = (out, e)) : Spec Try.prog 49 [.i en', .i ow, sv l] (resS out e) := by
  refine spT (r := [_, _]) Try.func49 rfl Try.ntmps49 Try.results49 rfl (by kernel_rfl) (V_run _ (enOK _) 100 ?_)
  refine Way.spec (CallS.by (spec71 en' ow (s := (paintI en' ow l 0).1) (e := (paintI en' ow l 0).2) rfl) rfl ?_)
  refine V_loop _ (fun i : Nat => ⟨[(8, sv (paintI en' ow l i).1), (9, .i (paintI en' ow l i).2), (18, sv l), (19, .i l.length), (20, .i i)], [], 0⟩) (fun i => i ≤ l.length) (fun i => l.length - i) 0 (Nat.zero_le _) ?_ ?_
  · exact Le_of _ [] [] ⟨rfl, True.intro, ⟨⟨rfl, rfl, fun _ _ => rfl⟩, rfl, ⟨rfl, rfl, fun _ _ => rfl⟩, rfl, rfl, True.intro⟩, True.intro⟩
  intro i hi
  have hlen := paintI_len en' ow l i
  have herr := paintI_err (en' := en') (ow := ow) (l := l) (i := i)
  have hnext : paintI en' ow l (i + 1) = if (paintI en' ow l i).2 ≠ 0 then ([], (paintI en' ow l i).2) else putP (paintI en' ow l i).1 (nth l i) := rfl
  refine V_run _ (enOK _) 100 ?_
  refine Br.dec (fun hlt => ?_) (fun hlt => ?_)
  · refine Ix.by rfl (by omega) ?_
    refine Br.ne (fun he => ?_) (fun he => ?_)
    · have h1 := herr he (l.length - (i + 1))
      rw [show i + 1 + (l.length - (i + 1)) = l.length by omega] at h1
      unfold paintP at hr
      rw [h1] at hr
      cases hr
      exact Out.mk ⟨rfl, rfl, True.intro⟩
    · rw [if_neg (by simpa using he)] at hnext
      refine Way.spec ?_
      refine CallS.by (spec72 _ (nth l i) (by omega) (out := (paintI en' ow l (i + 1)).1) (e := (paintI en' ow l (i + 1)).2) (by rw [hnext])) rfl ?_
      refine Ar.nat (i + 1) (by omega) (by omega) ?_
      exact ⟨i + 1, by omega, by omega, Le_of _ [] [] ⟨rfl, True.intro, ⟨⟨rfl, rfl, fun _ _ => rfl⟩, rfl, ⟨rfl, rfl, fun _ _ => rfl⟩, rfl, rfl, True.intro⟩, True.intro⟩⟩
  · have : i = l.length := by omega
    subst this
    have h1 : (paintI en' ow l l.length).1 = out ∧ (paintI en' ow l l.length).2 = e := by
      unfold paintP at hr; rw [hr]; exact ⟨rfl, rfl⟩
    rw [h1.1, h1.2]
    refine V_run _ (enOK _) 100 ?_
    exact Out.mk ⟨⟨rfl, rfl, fun _ _ => rfl⟩, rfl, True.intro⟩

/-- The owner of a second. -/
def atP (l : List Sp) (t : Int) : Int × Int := if tvalid l = true then (match parts t (t + 1) l with | [] => (0, 150) | x :: _ => (x.o, 0)) else (0, 150)

def svI (ps : List Sp) : Nat → Int
  | 0 => 0
  | k + 1 => (nth ps k).o

set_option maxHeartbeats 4000000 in
theorem spec28 (l : List Sp) (hl : l.length ≤ 1000000000) (t : Int) (ht : -1000000000 ≤ t ∧ t ≤ 1000000000000) : Spec Try.prog 28 [sv l, .i t] (.tup [.i (atP l t).1, .i (atP l t).2]) := by
  refine spT (r := [_, _]) Try.func28 rfl Try.ntmps28 Try.results28 rfl (by kernel_rfl) (V_run _ (enOK _) 100 ?_)
  refine Way.spec (CallS.by (spec26 l hl) rfl ?_)
  refine Br.mk (fun h => ?_) (fun h => ?_)
  · refine Ar.ok (by omega) ?_
    refine Way.spec (CallS.by (spec53 l t (t + 1)) rfl ?_)
    have hit := iter73s l hl t (t + 1)
    have hat : atP l t = match parts t (t + 1) l with | [] => (0, 150) | x :: _ => (x.o, 0) := by unfold atP; rw [if_pos h]
    generalize parts t (t + 1) l = ps at *
    refine V_range _ (enOK _) [(4, .ptr 0 0 0), (5, .ptr 1 0 0)] (fun i => [(0, some (.box [.i (svI ps i)])), (1, some (.box [.i 0]))]) 2 (fun i => (nth ps i).v) [0, 1] (rt := true)
      rfl rfl hit (fun _ => Nat.min_le_left ..) (fun i v hv w Z ρ => ?_) rfl rfl rfl (fun i j h => by cases h) (fun i h => by cases h) (fun i w G h => h) (fun id hid => ?_) (tmIds_spec rfl) (fun id hid => by cases hid) ?_ (fun loc' i hi => ?_) (fun _ hm => ?_) (fun hm => ?_)
    · rw [List.getElem?_map] at hv
      cases e : ps[i]? with
      | none => rw [e] at hv; cases hv
      | some s =>
        rw [e] at hv
        cases hv
        have : nth ps i = s := by simp [nth, e]
        rw [this]
        exact Rel_Sv s
    · simp only [List.mem_cons, List.not_mem_nil, or_false] at hid
      rcases hid with rfl | rfl
      · exact ⟨4, by decide⟩
      · exact ⟨5, by decide⟩
    · exact Le_of _ [(0, some 0), (1, some 1)] [] ⟨rfl, True.intro, ⟨⟨rfl, rfl, rfl⟩, ⟨rfl, rfl, rfl⟩, True.intro⟩, ⟨⟨rfl, ⟨rfl, rfl⟩⟩, ⟨rfl, ⟨rfl, rfl⟩⟩, True.intro⟩⟩
    · refine V_run _ (enpOK _ _ _) 100 ?_
      refine V_run _ (enpOK _ _ _) 100 ?_
      exact Le_of _ [(0, some 0), (1, some 1)] [] ⟨rfl, True.intro, True.intro, ⟨⟨rfl, ⟨rfl, rfl⟩⟩, ⟨rfl, ⟨rfl, rfl⟩⟩, True.intro⟩⟩
    · cases ps with
      | nil => simp at hm
      | cons x ps =>
        rw [hat]
        exact Out.mk ⟨rfl, rfl, True.intro⟩
    · cases ps with
      | cons x ps => rcases hm with hm | hm
                     · cases hm
                     · simp at hm
      | nil =>
        rw [hat]
        refine V_run _ (enOK _) 100 ?_
        exact Out.mk ⟨rfl, rfl, True.intro⟩
  · have e : atP l t = (0, 150) := by unfold atP; rw [if_neg (by simp [h])]
    rw [e]
    exact Out.mk ⟨rfl, rfl, True.intro⟩

end Go.AI

namespace Go.AI
open Go Go.Proofs Go.RowKit
set_option linter.unusedVariables false
set_option maxRecDepth 20000

theorem snT {f : Nat} {fn : Func} {body : Code} {rs : List ResultVar} {args r : List AV} {nt n c : Nat} {wr : List (Nat × Option AO)} (hf : Try.prog.funcs[f]? = some fn) (hb : fn.body = some body) (hnt : fn.ntmps = nt) (hrs : fn.results = rs.toArray)
    (hargs : Nat.ble args.length nt = true) (hn : (fn.name == "runtime.NumGoroutine") = false) (hwr : wrIn n c r wr = true) (hnd : nodup (ids wr) = true) (h : V (en nt) [.code body] (St.init args) (RetN (en nt) rs r n c wr)) : SpecN Try.prog f args n (tupA r) wr c :=
  specN_of_V (en nt) (enOK nt) rfl rfl hf hb hnt hrs (Nat.le_of_ble_eq_true hargs) (enters_of hf hn hb) hwr hnd h

abbrev keyI (x : En) : List Int := [x.t, x.e, x.n]
abbrev valI (x : En) : List Int := [x.t, x.e, x.n, x.h, x.a, x.o]

theorem spec41 (x : En) : Spec Try.prog 41 [x.v] (.agg [.i x.t, .i x.e, .i x.n]) := by
  refine spT (r := [_]) Try.func41 rfl Try.ntmps41 Try.results41 rfl (by kernel_rfl) (V_run _ (enOK _) 100 ?_)
  exact Out.mk ⟨⟨rfl, rfl, rfl, True.intro⟩, True.intro⟩

def knownI (l : List En) : Nat → MpT
  | 0 => []
  | i + 1 => putM (knownI l i) (keyI (nth l i)) (valI (nth l i))

theorem putM_keys {P : List Int → Prop} {x y : List Int} (hx : P x) : ∀ {es : MpT}, (∀ p ∈ es, P p.1) → ∀ p ∈ putM es x y, P p.1
  | [], _, p, hp => by simp [putM] at hp; subst hp; exact hx
  | (k, v) :: es, h, p, hp => by
    unfold putM at hp
    split at hp
    · rcases List.mem_cons.1 hp with rfl | hp
      · exact hx
      · exact h p (List.mem_cons_of_mem _ hp)
    · rcases List.mem_cons.1 hp with rfl | hp
      · exact h _ (List.mem_cons_self ..)
      · exact putM_keys hx (fun q hq => h q (List.mem_cons_of_mem _ hq)) p hp
theorem knownI_keys (l : List En) : ∀ (i : Nat), ∀ p ∈ knownI l i, p.1.length = 3
  | 0, p, hp => by cases hp
  | i + 1, p, hp => putM_keys (P := fun k => k.length = 3) rfl (knownI_keys l i) p hp

theorem spec40 (l : List En) (hl : l.length ≤ 1000000000) : SpecN Try.prog 40 [jv l] 0 (.map 0) [(0, some (.mp (knownI l l.length)))] 1 := by
  refine snT (r := [.map 0]) Try.func40 rfl Try.ntmps40 Try.results40 rfl (by kernel_rfl) rfl rfl (V_run _ (enOK _) 100 ?_)
  refine V_loop _ (fun i : Nat => ⟨[(3, .map 0), (7, jv l), (8, .i l.length), (9, .i i)], [(0, some (.mp (knownI l i)))], 1⟩) (fun i => i ≤ l.length) (fun i => l.length - i) 0 (Nat.zero_le _) ?_ ?_
  · exact Le_of _ [(0, some 0)] [] ⟨rfl, True.intro, ⟨rfl, ⟨rfl, rfl, fun _ _ => rfl⟩, rfl, rfl, True.intro⟩, ⟨⟨rfl, rfl⟩, True.intro⟩⟩
  intro i hi
  refine V_run _ (enOK _) 100 ?_
  refine Br.dec (fun hlt => ?_) (fun hlt => ?_)
  · refine Ix.by rfl (by omega) ?_
    refine V_draw _ (enOK _) (by kernel_rfl) ?_
    refine Way.spec (CallS.by (spec41 _) rfl ?_)
    refine Bd.mk (knownI_keys l i) ?_
    refine And.intro (by kernel_rfl) (V_run _ (enOK _) 100 ?_)
    refine Ar.nat (i + 1) (by omega) (by omega) ?_
    exact ⟨i + 1, by omega, by omega, Le_of _ [(0, some 0)] [] ⟨rfl, True.intro, ⟨rfl, ⟨rfl, rfl, fun _ _ => rfl⟩, rfl, rfl, True.intro⟩, ⟨⟨rfl, rfl⟩, True.intro⟩⟩⟩
  · have : i = l.length := by omega
    subst this
    refine V_run _ (enOK _) 100 ?_
    exact Out.mk ⟨[(0, some 0)], [], rfl, ⟨rfl, True.intro, True.intro, ⟨⟨rfl, rfl⟩, True.intro⟩⟩, ⟨rfl, rfl⟩⟩

end Go.AI

namespace Go.AI
open Go Go.Proofs Go.RowKit
set_option linter.unusedVariables false
set_option maxRecDepth 20000

/-- slices.Clone: a row of the caller's own. -/
theorem spec46 (l : List En) (hl : l.length ≤ 1000000000) : SpecN Try.prog 46 [jv l] 2 (.own 2 0 l.length) [(2, some (.arr 47 6 l.length fun q => (nth l q).c))] 1 := by
  cases hn : l.length with
  | zero =>
    have : l = [] := List.eq_nil_of_length_eq_zero hn
    subst this
    refine snT (r := [.own 2 0 0]) Try.func46 rfl Try.ntmps46 Try.results46 rfl (by kernel_rfl) rfl rfl ?_
    refine V_nil _ 0 rfl (V_run _ (enOK _) 100 ?_) (V_run _ (enOK _) 100 ?_)
    · exact Out.mk ⟨[(2, none)], [], rfl, ⟨rfl, True.intro, True.intro, ⟨⟨rfl, rfl⟩, True.intro⟩⟩, ⟨⟨rfl, rfl, rfl⟩, rfl⟩⟩
    · refine Bd.mk ⟨Nat.le_refl _, by decide⟩ ?_
      exact Out.mk ⟨[(2, some 1)], [], rfl, ⟨rfl, True.intro, True.intro, ⟨⟨rfl, rfl, rfl, rfl, fun i hi => absurd hi (Nat.not_lt_zero _)⟩, True.intro⟩⟩, ⟨⟨rfl, rfl, rfl⟩, rfl⟩⟩
  | succ n =>
    rw [← hn]
    refine snT (r := [.own 2 0 l.length]) Try.func46 rfl Try.ntmps46 Try.results46 rfl (by kernel_rfl) rfl rfl (V_run _ (enOK _) 100 ?_)
    refine Bd.mk (by omega) ?_
    refine Bd.mk ⟨Nat.le_refl _, (show (0 + l.length) * 48 ≤ 140737488355328 from by omega)⟩ ?_
    refine Out.mk ⟨[(2, some 1)], [], rfl, ⟨rfl, True.intro, True.intro, ⟨⟨rfl, rfl, rfl, Nat.zero_add _, fun q hq => ?_⟩, True.intro⟩⟩, ⟨⟨rfl, rfl, Nat.zero_add _⟩, rfl⟩⟩
    unfold joinRows
    rfl

end Go.AI

namespace Go.AI
open Go Go.Proofs Go.RowKit
set_option linter.unusedVariables false
set_option maxRecDepth 20000

def betterE (x y : En) : Prop := y.e < x.e ∨ (x.e = y.e ∧ (y.a < x.a ∨ (x.a = y.a ∧ y.n < x.n)))
instance (x y : En) : Decidable (betterE x y) := by unfold betterE; infer_instance
def stepO (l : List En) (tr t : Int) (b : Option Nat) (i : Nat) : Option Nat :=
  if (nth l i).t ≠ tr ∨ t < (nth l i).a then b else match b with
    | none => some i
    | some k => if betterE (nth l i) (nth l k) then some i else some k
def bestO (l : List En) (tr t : Int) : Nat → Option Nat
  | 0 => none
  | i + 1 => stepO l tr t (bestO l tr t i) i
def ownerR (l : List En) (tr t : Int) : Int := match bestO l tr t l.length with
  | none => 0
  | some k => (nth l k).o

abbrev bi : Option Nat → Int
  | none => -1
  | some k => k

set_option maxHeartbeats 4000000 in
theorem spec29 (l : List En) (hl : l.length ≤ 1000000000) (tr t : Int) : Spec Try.prog 29 [jv l, .i tr, .i t] (.i (ownerR l tr t)) := by
  refine spT (r := [.i _]) Try.func29 rfl Try.ntmps29 Try.results29 rfl (by kernel_rfl) (V_run _ (enOK _) 100 ?_)
  refine V_loop _ (fun x : Nat × Option Nat => ⟨[(0, jv l), (1, .i tr), (2, .i t), (7, .i (bi x.2)), (8, .i x.1)], [], 0⟩) (fun x => x.1 ≤ l.length ∧ x.2 = bestO l tr t x.1 ∧ ∀ k, x.2 = some k → k < x.1) (fun x => l.length - x.1) (0, none) ⟨Nat.zero_le _, rfl, fun _ h => by cases h⟩ ?_ ?_
  · refine Le_of _ [] [] ⟨rfl, True.intro, ?_, True.intro⟩
    exact ⟨⟨rfl, rfl, fun _ _ => rfl⟩, rfl, rfl, rfl, rfl, True.intro⟩
  rintro ⟨i, b⟩ ⟨hi, hb, hlt⟩
  simp only at hi hb hlt
  dsimp only
  have next : i < l.length → ∀ b', b' = bestO l tr t (i + 1) → (∀ k, b' = some k → k < i + 1) → i + 1 ≤ l.length ∧ b' = bestO l tr t (i + 1) ∧ ∀ k, b' = some k → k < i + 1 := fun h b' h1 h2 => ⟨h, h1, h2⟩
  cases b with
  | none =>
    show V _ _ (⟨[(0, jv l), (1, .i tr), (2, .i t), (7, .i (-1)), (8, .i i)], [], 0⟩ : St) _
    refine V_run _ (enOK _) 200 ?_
    repeat' first
      | refine V_draw _ (enOK _) (by kernel_rfl) ?_
      | refine Br.yes (by assumption) ?_
      | refine Br.no (by assumption) ?_
      | refine Br.dyes (by omega) ?_
      | refine Br.dno (by omega) ?_
      | refine Br.dec (fun h => ?_) (fun h => ?_)
      | refine Br.ne (fun h => ?_) (fun h => ?_)
      | refine Ar.nat (i + 1) (by omega) (by omega) ?_
      | refine Ix.by rfl (by omega) ?_
      | refine And.intro (by kernel_rfl) ?_
      | refine V_run _ (enOK _) 200 ?_
    all_goals first
      | refine ⟨(i + 1, none), next (by omega) none ?_ (fun _ h => by cases h), (by dsimp only; omega), Le_of _ [] [] ⟨rfl, True.intro, ⟨⟨rfl, rfl, fun _ _ => rfl⟩, rfl, rfl, rfl, rfl, True.intro⟩, True.intro⟩⟩
        have hc : (nth l i).t ≠ tr ∨ t < (nth l i).a := by omega
        rw [bestO, ← hb, stepO, if_pos hc]
        done
      | refine ⟨(i + 1, some i), next (by omega) (some i) ?_ (fun k h => by cases h; omega), (by dsimp only; omega), Le_of _ [] [] ⟨rfl, True.intro, ⟨⟨rfl, rfl, fun _ _ => rfl⟩, rfl, rfl, rfl, rfl, True.intro⟩, True.intro⟩⟩
        have hc : ¬ ((nth l i).t ≠ tr ∨ t < (nth l i).a) := by omega
        rw [bestO, ← hb, stepO, if_neg hc]
        done
      | have : i = l.length := by omega
        subst this
        refine Out.mk ⟨congrArg (Value.int .i64) ?_, True.intro⟩
        rw [ownerR, ← hb]
        done
  | some k =>
    have hk := hlt k rfl
    show V _ _ (⟨[(0, jv l), (1, .i tr), (2, .i t), (7, .i k), (8, .i i)], [], 0⟩ : St) _
    refine V_run _ (enOK _) 200 ?_
    repeat' first
      | refine V_draw _ (enOK _) (by kernel_rfl) ?_
      | refine Br.yes (by assumption) ?_
      | refine Br.no (by assumption) ?_
      | refine Br.dyes (by omega) ?_
      | refine Br.dno (by omega) ?_
      | refine Br.eyes (by omega) ?_
      | refine Br.eno (by omega) ?_
      | refine Br.dec (fun h => ?_) (fun h => ?_)
      | refine Br.ne (fun h => ?_) (fun h => ?_)
      | refine Br.eq (fun h => ?_) (fun h => ?_)
      | refine Ar.nat (i + 1) (by omega) (by omega) ?_
      | refine Ix.by rfl (by omega) ?_
      | refine And.intro (by kernel_rfl) ?_
      | refine V_run _ (enOK _) 200 ?_
    all_goals first
      | refine ⟨(i + 1, some k), next (by omega) (some k) ?_ (fun k' h => by cases h; omega), (by dsimp only; omega), Le_of _ [] [] ⟨rfl, True.intro, ⟨⟨rfl, rfl, fun _ _ => rfl⟩, rfl, rfl, rfl, rfl, True.intro⟩, True.intro⟩⟩
        have hc : (nth l i).t ≠ tr ∨ t < (nth l i).a := by omega
        rw [bestO, ← hb, stepO, if_pos hc]
        done
      | refine ⟨(i + 1, some k), next (by omega) (some k) ?_ (fun k' h => by cases h; omega), (by dsimp only; omega), Le_of _ [] [] ⟨rfl, True.intro, ⟨⟨rfl, rfl, fun _ _ => rfl⟩, rfl, rfl, rfl, rfl, True.intro⟩, True.intro⟩⟩
        have hc : ¬ ((nth l i).t ≠ tr ∨ t < (nth l i).a) := by omega
        rw [bestO, ← hb, stepO, if_neg hc]
        try simp only
        have hd : ¬ betterE (nth l i) (nth l k) := by unfold betterE; omega
        rw [if_neg hd]
        done
      | refine ⟨(i + 1, some i), next (by omega) (some i) ?_ (fun k h => by cases h; omega), (by dsimp only; omega), Le_of _ [] [] ⟨rfl, True.intro, ⟨⟨rfl, rfl, fun _ _ => rfl⟩, rfl, rfl, rfl, rfl, True.intro⟩, True.intro⟩⟩
        have hc : ¬ ((nth l i).t ≠ tr ∨ t < (nth l i).a) := by omega
        rw [bestO, ← hb, stepO, if_neg hc]
        try simp only
        have hd : betterE (nth l i) (nth l k) := by unfold betterE; omega
        rw [if_pos hd]
        done
      | have : i = l.length := by omega
        subst this
        refine Out.mk ⟨congrArg (Value.int .i64) ?_, True.intro⟩
        rw [ownerR, ← hb]
        done

end Go.AI

namespace Go.AI
open Go Go.Proofs Go.RowKit
set_option linter.unusedVariables false
set_option maxRecDepth 20000

def nextI (l : List En) (en t : Int) : Nat → Int
  | 0 => en
  | i + 1 => if t < (nth l i).a then min (nextI l en t i) (nth l i).a else nextI l en t i
theorem nextI_gt {l : List En} {en t : Int} (h : t < en) : ∀ i, t < nextI l en t i
  | 0 => h
  | i + 1 => by
    have := nextI_gt (l := l) h i
    unfold nextI
    split <;> omega
theorem nextI_le {l : List En} {en t : Int} : ∀ i, nextI l en t i ≤ en
  | 0 => Int.le_refl _
  | i + 1 => by
    have := nextI_le (l := l) (en := en) (t := t) i
    unfold nextI
    split <;> omega

/-- A span behind the others; the last one grows, if it has the owner. -/
def pushS (out : List Sp) (t nx ow : Int) : List Sp :=
  if out.length ≠ 0 ∧ (nth out (out.length - 1)).o = ow then out.set (out.length - 1) ⟨(nth out (out.length - 1)).f, nx, (nth out (out.length - 1)).o⟩ else out ++ [⟨t, nx, ow⟩]

def histR (l : List En) (tr en t : Int) (out : List Sp) : List Sp :=
  if h : t < en then histR l tr en (nextI l en t l.length) (pushS out t (nextI l en t l.length) (ownerR l tr t)) else out
termination_by (en - t).toNat
decreasing_by
  have := nextI_gt (l := l) h l.length
  omega

def histRef (l : List En) (tr en : Int) : List Sp × Int := if validM l = false ∨ ¬ (0 ≤ tr ∧ tr ≤ 11) ∨ ¬ (0 ≤ en ∧ en ≤ 10000000) then ([], 320) else (histR l tr en 0 [], 0)

theorem validM_len {l : List En} (h : validM l = true) : l.length ≤ 120 := by
  unfold validM at h; simp at h; exact h.2

theorem nth_set {α : Type} [Inhabited α] {l : List α} {i q : Nat} {x : α} (h : i < l.length) : nth (l.set i x) q = if q = i then x else nth l q := by
  unfold nth
  by_cases e : q = i
  · subst e; simp [h]
  · rw [if_neg e, List.getElem?_set_ne (fun h => e h.symm)]

theorem minI_eq (a b : Int) : minI a b = min a b := by unfold minI; split <;> omega

theorem push_len (out : List Sp) (t nx ow : Int) : (pushS out t nx ow).length ≤ out.length + 1 := by
  unfold pushS; split <;> simp

set_option maxHeartbeats 4000000 in
theorem spec21 (l : List En) (hl : l.length ≤ 1000000000) (tr en' : Int) {s : List Sp} {e : Int} (hr : histRef l tr en' = (s, e)) : Spec Try.prog 21 [jv l, .i tr, .i en'] (resS s e) := by
  refine spT (r := [_, _]) Try.func21 rfl Try.ntmps21 Try.results21 rfl (by kernel_rfl) (V_run _ (enOK _) 100 ?_)
  have bad : (validM l = false ∨ ¬ (0 ≤ tr ∧ tr ≤ 11) ∨ ¬ (0 ≤ en' ∧ en' ≤ 10000000)) → s = [] ∧ e = 320 := by
    intro h
    unfold histRef at hr
    rw [if_pos h] at hr
    cases hr; exact ⟨rfl, rfl⟩
  have bad1 : ∀ {x : Int} {lo hi : Int}, (!(decide (lo ≤ x) && decide (x ≤ hi))) = true → ¬ (lo ≤ x ∧ x ≤ hi) := by
    intro x lo hi h; simp at h; omega
  refine Way.spec (CallS.by (spec14 _ hl) rfl ?_)
  refine Br.not (fun hv => ?_) (fun hv => ?_)
  · obtain ⟨rfl, rfl⟩ := bad (.inl hv)
    exact Out.mk ⟨rfl, rfl, True.intro⟩
  refine Way.spec (CallS.by (spec38 _ _ _) rfl ?_)
  refine Br.mk (fun h1 => ?_) (fun h1 => ?_)
  · obtain ⟨rfl, rfl⟩ := bad (.inr (.inl (bad1 h1)))
    exact Out.mk ⟨rfl, rfl, True.intro⟩
  refine Way.spec (CallS.by (spec38 _ _ _) rfl ?_)
  refine Br.mk (fun h2 => ?_) (fun h2 => ?_)
  · obtain ⟨rfl, rfl⟩ := bad (.inr (.inr (bad1 h2)))
    exact Out.mk ⟨rfl, rfl, True.intro⟩
  have htr : 0 ≤ tr ∧ tr ≤ 11 := by simpa using h1
  have hen : 0 ≤ en' ∧ en' ≤ 10000000 := by simpa using h2
  have hres : s = histR l tr en' 0 [] ∧ e = 0 := by
    unfold histRef at hr
    rw [if_neg (by simp [hv, htr, hen])] at hr
    cases hr; exact ⟨rfl, rfl⟩
  obtain ⟨rfl, rfl⟩ := hres
  have hlen := validM_len hv
  clear bad bad1 h1 h2 hr hl
  refine V_loop _ (fun x : Int × List Sp => ⟨[(0, jv l), (1, .i tr), (2, .i en'), (8, .own 0 0 x.2.length), (9, .i x.1)], [(0, some (.arr 75 3 x.2.length fun q => (nth x.2 q).c))], 1⟩)
    (fun x => 0 ≤ x.1 ∧ x.1 ≤ en' ∧ (x.2.length : Int) ≤ x.1 ∧ histR l tr en' x.1 x.2 = histR l tr en' 0 []) (fun x => (en' - x.1).toNat) (0, []) ⟨Int.le_refl _, hen.1, Int.le_refl _, rfl⟩ ?_ ?_
  · refine Le_of _ [(0, none)] [] ⟨rfl, True.intro, ?_, ?_⟩
    · exact ⟨⟨rfl, rfl, fun _ _ => rfl⟩, rfl, rfl, ⟨rfl, rfl, rfl⟩, rfl, True.intro⟩
    · exact ⟨⟨rfl, rfl⟩, True.intro⟩
  rintro ⟨t, out⟩ ⟨h0, h1, h2, hh⟩
  simp only at h0 h1 h2 hh
  dsimp only
  refine V_run _ (enOK _) 200 ?_
  refine Br.dec (fun ht => ?_) (fun ht => ?_)
  · rw [histR, dif_pos ht] at hh
    refine V_loop _ (fun i : Nat => ⟨[(0, jv l), (1, .i tr), (2, .i en'), (8, .own 0 0 out.length), (9, .i t), (10, .i (nextI l en' t i)), (11, .i i)], [(0, some (.arr 75 3 out.length fun q => (nth out q).c))], 1⟩)
      (fun i => i ≤ l.length) (fun i => l.length - i) 0 (Nat.zero_le _) ?_ ?_
    · exact Le_of _ [(0, some 0)] [] ⟨rfl, True.intro, ⟨⟨rfl, rfl, fun _ _ => rfl⟩, rfl, rfl, ⟨rfl, rfl, rfl⟩, rfl, rfl, rfl, True.intro⟩, ⟨⟨rfl, rfl, rfl, rfl, fun _ _ => rfl⟩, True.intro⟩⟩
    · intro i hi
      refine V_run _ (enOK _) 200 ?_
      refine Br.dec (fun hlt => ?_) (fun hlt => ?_)
      · refine Ix.by rfl (by omega) ?_
        refine Br.dec (fun ha => ?_) (fun ha => ?_)
        · refine Ix.by rfl (by omega) ?_
          refine Ar.nat (i + 1) (by omega) (by omega) ?_
          have e1 : nextI l en' t (i + 1) = min (nextI l en' t i) (nth l i).a := by rw [nextI, if_pos ha]
          refine ⟨i + 1, by omega, by omega, Le_of _ [(0, some 0)] [] ⟨rfl, True.intro, ⟨⟨rfl, rfl, fun _ _ => rfl⟩, rfl, rfl, ⟨rfl, rfl, rfl⟩, rfl, ?_, rfl, True.intro⟩, ⟨⟨rfl, rfl, rfl, rfl, fun _ _ => rfl⟩, True.intro⟩⟩⟩
          refine congrArg (Value.int .i64) ?_
          rw [e1]
          exact minI_eq _ _
        · refine Ar.nat (i + 1) (by omega) (by omega) ?_
          have e1 : nextI l en' t (i + 1) = nextI l en' t i := by rw [nextI, if_neg ha]
          refine ⟨i + 1, by omega, by omega, Le_of _ [(0, some 0)] [] ⟨rfl, True.intro, ⟨⟨rfl, rfl, fun _ _ => rfl⟩, rfl, rfl, ⟨rfl, rfl, rfl⟩, rfl, ?_, rfl, True.intro⟩, ⟨⟨rfl, rfl, rfl, rfl, fun _ _ => rfl⟩, True.intro⟩⟩⟩
          refine congrArg (Value.int .i64) ?_
          rw [e1]
      · have : i = l.length := by omega
        subst this
        have g1 := nextI_gt (l := l) ht l.length
        have g2 := nextI_le (l := l) (en := en') (t := t) l.length
        have g3 := push_len out t (nextI l en' t l.length) (ownerR l tr t)
        generalize hnx : nextI l en' t l.length = nx at *
        refine V_run _ (enOK _) 200 ?_
        refine Way.spec (CallS.by (spec29 _ (by omega) _ _) rfl ?_)
        generalize how : ownerR l tr t = ow at *
        refine Br.dec (fun hn => ?_) (fun hn => ?_)
        · refine Ar.nat (out.length - 1) (by omega) (by omega) ?_
          refine Ix.by rfl (by omega) ?_
          refine Bd.mk (by omega) ?_
          refine Br.eq (fun hw => ?_) (fun hw => ?_)
          · rw [Nat.zero_add] at hw
            refine Ar.nat (out.length - 1) (by omega) (by omega) ?_
            refine Ix.by rfl (by omega) ?_
            refine Bd.mk ⟨by omega, by decide⟩ ?_
            have e1 : pushS out t nx ow = out.set (out.length - 1) ⟨(nth out (out.length - 1)).f, nx, (nth out (out.length - 1)).o⟩ := by
              unfold pushS; rw [if_pos ⟨by omega, hw⟩]
            refine ⟨(nx, pushS out t nx ow), ⟨by dsimp only; omega, by dsimp only; omega, ?_, hh⟩, by dsimp only; omega, Le_of _ [(0, some 0)] [] ⟨rfl, True.intro, ⟨⟨rfl, rfl, fun _ _ => rfl⟩, rfl, rfl, ⟨rfl, rfl, ?_⟩, rfl, True.intro⟩, ⟨⟨rfl, rfl, rfl, ?_, fun q hq => ?_⟩, True.intro⟩⟩⟩
            · dsimp only; rw [e1, List.length_set]; omega
            · dsimp only; rw [e1, List.length_set]
            · dsimp only; rw [e1, List.length_set]
            · rw [e1]
              dsimp only
              rw [nth_set (by omega)]
              by_cases hq : q = out.length - 1
              · subst hq
                rw [if_pos rfl]
                have : Nat.beq (out.length - 1) (0 + (out.length - 1)) = true := by rw [Nat.zero_add]; exact Nat.beq_refl _
                rw [this, Nat.zero_add]
                rfl
              · rw [if_neg hq]
                have : Nat.beq q (0 + (out.length - 1)) = false := by rw [Nat.zero_add, Bool.eq_false_iff]; intro h; exact hq (Nat.eq_of_beq_eq_true h)
                rw [this]
          · rw [Nat.zero_add] at hw
            have e1 : pushS out t nx ow = out ++ [⟨t, nx, ow⟩] := by
              unfold pushS; rw [if_neg (fun h => hw h.2)]
            refine Bd.mk (Nat.le_refl _) ?_
            refine Bd.mk ⟨Nat.le_refl _, (show (out.length + 1) * 24 ≤ 140737488355328 from by omega)⟩ ?_
            refine ⟨(nx, pushS out t nx ow), ⟨by dsimp only; omega, by dsimp only; omega, by dsimp only; omega, hh⟩, by dsimp only; omega, Le_of _ [(0, some 2)] [] ⟨rfl, True.intro, ⟨⟨rfl, rfl, fun _ _ => rfl⟩, rfl, rfl, ⟨rfl, rfl, ?_⟩, rfl, True.intro⟩, ⟨⟨rfl, rfl, rfl, ?_, fun q hq => ?_⟩, True.intro⟩⟩⟩
            · dsimp only; rw [e1]; simp
            · dsimp only; rw [e1]; simp
            · dsimp only
              rw [e1]
              exact joinRows_snoc (fun x : Sp => x.c) out ⟨t, nx, ow⟩ q hq _ rfl
        · have e1 : pushS out t nx ow = out ++ [⟨t, nx, ow⟩] := by
            unfold pushS; rw [if_neg (fun h => h.1 (by omega))]
          refine Bd.mk (Nat.le_refl _) ?_
          refine Bd.mk ⟨Nat.le_refl _, (show (out.length + 1) * 24 ≤ 140737488355328 from by omega)⟩ ?_
          refine ⟨(nx, pushS out t nx ow), ⟨by dsimp only; omega, by dsimp only; omega, by dsimp only; omega, hh⟩, by dsimp only; omega, Le_of _ [(0, some 2)] [] ⟨rfl, True.intro, ⟨⟨rfl, rfl, fun _ _ => rfl⟩, rfl, rfl, ⟨rfl, rfl, ?_⟩, rfl, True.intro⟩, ⟨⟨rfl, rfl, rfl, ?_, fun q hq => ?_⟩, True.intro⟩⟩⟩
          · dsimp only; rw [e1]; simp
          · dsimp only; rw [e1]; simp
          · dsimp only
            rw [e1]
            exact joinRows_snoc (fun x : Sp => x.c) out ⟨t, nx, ow⟩ q hq _ rfl
  · have e1 : histR l tr en' t out = out := by rw [histR, dif_neg ht]
    rw [e1] at hh
    subst hh
    refine V_run _ (enOK _) 200 ?_
    exact Bd.mk (by omega) (Out.mk ⟨⟨rfl, rfl, fun _ _ => rfl⟩, rfl, True.intro⟩)

end Go.AI

namespace Go.AI
open Go Go.Proofs Go.RowKit
set_option linter.unusedVariables false
set_option maxRecDepth 20000

/-- How many spans an owner has. -/
def cntO (h : List Sp) (ow : Int) : Nat → Nat
  | 0 => 0
  | i + 1 => if (nth h i).o = ow then cntO h ow i + 1 else cntO h ow i
theorem cntO_le (h : List Sp) (ow : Int) : ∀ i, cntO h ow i ≤ i
  | 0 => Nat.le_refl _
  | i + 1 => by
    have := cntO_le h ow i
    unfold cntO; split <;> omega

theorem histR_len {l : List En} {tr en : Int} : ∀ (n : Nat) (t : Int) (out : List Sp), (en - t).toNat ≤ n → 0 ≤ t → (out.length : Int) ≤ t → t ≤ en → ((histR l tr en t out).length : Int) ≤ en
  | n, t, out, hn, h0, h1, h2 => by
    rw [histR]
    split
    · rename_i ht
      have g1 := nextI_gt (l := l) ht l.length
      have g2 := nextI_le (l := l) (en := en) (t := t) l.length
      have g3 := push_len out t (nextI l en t l.length) (ownerR l tr t)
      match n, hn with
      | 0, hn => omega
      | n + 1, hn => exact histR_len n _ _ (by omega) (by omega) (by omega) g2
    · omega

theorem histRef_len {l : List En} {tr en : Int} : (histRef l tr en).1.length ≤ 10000000 := by
  unfold histRef
  split
  · simp
  · rename_i h
    have := histR_len (l := l) (tr := tr) (en := en) (en - 0).toNat 0 [] (Nat.le_refl _) (Int.le_refl _) (Int.le_refl _) (by omega)
    simp only
    omega

abbrev resN (n e : Int) : AV := .tup [.i n, .i e]

theorem spec23 (l : List En) (hl : l.length ≤ 1000000000) (tr en' ow : Int) : Spec Try.prog 23 [jv l, .i tr, .i en', .i ow] (resN (cntO (histRef l tr en').1 ow (histRef l tr en').1.length) (histRef l tr en').2) := by
  have hb := histRef_len (l := l) (tr := tr) (en := en')
  generalize hh : histRef l tr en' = r at *
  obtain ⟨h, e⟩ := r
  simp only at hb ⊢
  refine spT (r := [_, _]) Try.func23 rfl Try.ntmps23 Try.results23 rfl (by kernel_rfl) (V_run _ (enOK _) 100 ?_)
  refine Way.spec (CallS.by (spec21 _ hl _ _ hh) rfl ?_)
  refine V_loop _ (fun i : Nat => ⟨[(3, .i ow), (10, sv h), (11, .i e), (12, .i (cntO h ow i)), (13, .i i)], [], 0⟩) (fun i => i ≤ h.length) (fun i => h.length - i) 0 (Nat.zero_le _) ?_ ?_
  · exact Le_of _ [] [] ⟨rfl, True.intro, ⟨rfl, ⟨rfl, rfl, fun _ _ => rfl⟩, rfl, rfl, rfl, True.intro⟩, True.intro⟩
  intro i hi
  have hc := cntO_le h ow i
  refine V_run _ (enOK _) 100 ?_
  refine Br.dec (fun hlt => ?_) (fun hlt => ?_)
  · refine Ix.by rfl (by omega) ?_
    refine Br.eq (fun ho => ?_) (fun ho => ?_)
    · refine Ar.nat (cntO h ow i + 1) (by omega) (by omega) ?_
      refine Ar.nat (i + 1) (by omega) (by omega) ?_
      refine ⟨i + 1, by omega, by omega, Le_of _ [] [] ⟨rfl, True.intro, ⟨rfl, ⟨rfl, rfl, fun _ _ => rfl⟩, rfl, ?_, rfl, True.intro⟩, True.intro⟩⟩
      refine congrArg (fun n : Nat => Value.int .i64 n) ?_
      rw [cntO, if_pos ho]
    · refine Ar.nat (i + 1) (by omega) (by omega) ?_
      refine ⟨i + 1, by omega, by omega, Le_of _ [] [] ⟨rfl, True.intro, ⟨rfl, ⟨rfl, rfl, fun _ _ => rfl⟩, rfl, ?_, rfl, True.intro⟩, True.intro⟩⟩
      refine congrArg (fun n : Nat => Value.int .i64 n) ?_
      rw [cntO, if_neg ho]
  · have : i = h.length := by omega
    subst this
    refine V_run _ (enOK _) 100 ?_
    exact Out.mk ⟨rfl, rfl, True.intro⟩

/-- The entries of a that b contradicts, each once for each of b's. -/
def agK (x : En) (b : List En) : Nat → Nat
  | 0 => 0
  | k + 1 => if ltKey x (nth b k) = false ∧ ltKey (nth b k) x = false ∧ x ≠ nth b k then agK x b k + 1 else agK x b k
def agI (a b : List En) : Nat → List En
  | 0 => []
  | i + 1 => agI a b i ++ List.replicate (agK (nth a i) b b.length) (nth a i)
def agRef (a b : List En) : List En × Int := if validM a = false ∨ validM b = false then ([], 320) else (agI a b a.length, 0)
theorem agK_le (x : En) (b : List En) : ∀ k, agK x b k ≤ k
  | 0 => Nat.le_refl _
  | k + 1 => by
    have := agK_le x b k
    unfold agK; split <;> omega
theorem agI_le (a b : List En) : ∀ i, (agI a b i).length ≤ i * b.length
  | 0 => Nat.le_of_eq (Nat.zero_mul _).symm
  | i + 1 => by
    have := agI_le a b i
    have := agK_le (nth a i) b b.length
    unfold agI
    rw [List.length_append, List.length_replicate, Nat.add_mul, Nat.one_mul]
    omega

theorem en_eq (x y : En) : (x.t == y.t && (x.e == y.e && (x.n == y.n && (x.h == y.h && (x.a == y.a && (x.o == y.o && true)))))) = decide (x = y) := by
  cases x; cases y
  rw [Bool.eq_iff_iff]
  simp

attribute [local irreducible] ltKey ltRest

set_option maxHeartbeats 4000000 in
theorem spec18 (a b : List En) (ha : a.length ≤ 1000000000) (hb : b.length ≤ 1000000000) {s : List En} {e : Int} (hr : agRef a b = (s, e)) : Spec Try.prog 18 [jv a, jv b] (resJ s e) := by
  refine spT (r := [_, _]) Try.func18 rfl Try.ntmps18 Try.results18 rfl (by kernel_rfl) (V_run _ (enOK _) 100 ?_)
  have bad : (validM a = false ∨ validM b = false) → s = [] ∧ e = 320 := by
    intro h
    unfold agRef at hr
    rw [if_pos h] at hr
    cases hr; exact ⟨rfl, rfl⟩
  refine Way.spec (CallS.by (spec14 _ ha) rfl ?_)
  refine Br.not (fun h => ?_) (fun h => ?_)
  · obtain ⟨rfl, rfl⟩ := bad (.inl h)
    exact Out.mk ⟨rfl, rfl, True.intro⟩
  refine Way.spec (CallS.by (spec14 _ hb) rfl ?_)
  refine Br.not (fun h2 => ?_) (fun h2 => ?_)
  · obtain ⟨rfl, rfl⟩ := bad (.inr h2)
    exact Out.mk ⟨rfl, rfl, True.intro⟩
  have hres : s = agI a b a.length ∧ e = 0 := by
    unfold agRef at hr
    rw [if_neg (by simp [h, h2])] at hr
    cases hr; exact ⟨rfl, rfl⟩
  obtain ⟨rfl, rfl⟩ := hres
  have la := validM_len h
  have lb := validM_len h2
  clear bad hr ha hb h h2
  refine V_loop _ (fun i : Nat => ⟨[(0, jv a), (1, jv b), (6, .own 0 0 (agI a b i).length), (7, .i i)], [(0, some (.arr 47 6 (agI a b i).length fun q => (nth (agI a b i) q).c))], 1⟩)
    (fun i => i ≤ a.length) (fun i => a.length - i) 0 (Nat.zero_le _) ?_ ?_
  · exact Le_of _ [(0, none)] [] ⟨rfl, True.intro, ⟨⟨rfl, rfl, fun _ _ => rfl⟩, ⟨rfl, rfl, fun _ _ => rfl⟩, ⟨rfl, rfl, rfl⟩, rfl, True.intro⟩, ⟨⟨rfl, rfl⟩, True.intro⟩⟩
  intro i hi
  refine V_run _ (enOK _) 200 ?_
  refine Br.dec (fun hlt => ?_) (fun hlt => ?_)
  · have hA := agI_le a b i
    have hA2 : i * b.length ≤ 120 * 120 := Nat.mul_le_mul (by omega) lb
    generalize hacc : agI a b i = acc at *
    refine V_loop _ (fun k : Nat => ⟨[(0, jv a), (1, jv b), (6, .own 0 0 (acc ++ List.replicate (agK (nth a i) b k) (nth a i)).length), (7, .i i), (8, .i k)], [(0, some (.arr 47 6 (acc ++ List.replicate (agK (nth a i) b k) (nth a i)).length fun q => (nth (acc ++ List.replicate (agK (nth a i) b k) (nth a i)) q).c))], 1⟩)
      (fun k => k ≤ b.length) (fun k => b.length - k) 0 (Nat.zero_le _) ?_ ?_
    · refine Le_of _ [(0, some 0)] [] ⟨rfl, True.intro, ⟨⟨rfl, rfl, fun _ _ => rfl⟩, ⟨rfl, rfl, fun _ _ => rfl⟩, ⟨rfl, rfl, ?_⟩, rfl, rfl, True.intro⟩, ⟨⟨rfl, rfl, rfl, ?_, fun q hq => ?_⟩, True.intro⟩⟩
      · simp [agK]
      · simp [agK]
      · simp [agK]
    · intro k hk
      have hK := agK_le (nth a i) b k
      have hlen : (acc ++ List.replicate (agK (nth a i) b k) (nth a i)).length ≤ 14400 + 120 := by simp; omega
      generalize hout : acc ++ List.replicate (agK (nth a i) b k) (nth a i) = out at *
      refine V_run _ (enOK _) 200 ?_
      have skip : ¬ (ltKey (nth a i) (nth b k) = false ∧ ltKey (nth b k) (nth a i) = false ∧ nth a i ≠ nth b k) → out = acc ++ List.replicate (agK (nth a i) b (k + 1)) (nth a i) := fun h => by rw [agK, if_neg h, hout]
      have take : (ltKey (nth a i) (nth b k) = false ∧ ltKey (nth b k) (nth a i) = false ∧ nth a i ≠ nth b k) → out ++ [nth a i] = acc ++ List.replicate (agK (nth a i) b (k + 1)) (nth a i) := fun h => by
        rw [agK, if_pos h, ← hout, List.replicate_succ', List.append_assoc]
      repeat' first
        | refine V_draw _ (enOK _) (by kernel_rfl) ?_
        | refine Br.yes (by assumption) ?_
        | refine Br.no (by assumption) ?_
        | refine Br.noty (by assumption) ?_
        | refine Br.notn (by assumption) ?_
        | refine Br.dec (fun h => ?_) (fun h => ?_)
        | refine Br.not (fun h => ?_) (fun h => ?_)
        | refine Br.mk (fun h => ?_) (fun h => ?_)
        | refine Way.spec ?_
        | refine CallS.by (spec39 _ _) rfl ?_
        | refine Ar.nat (k + 1) (by omega) (by omega) ?_
        | refine Ix.by rfl (by omega) ?_
        | refine Bd.mk (Nat.le_refl _) ?_
        | refine Bd.mk ⟨Nat.le_refl _, (show (out.length + 1) * 48 ≤ 140737488355328 from by omega)⟩ ?_
        | refine And.intro (by kernel_rfl) ?_
        | refine V_run _ (enOK _) 200 ?_
      all_goals first
        | have hne := (en_eq (nth a i) (nth b k)).symm.trans ‹_ = false›
          have hne := of_decide_eq_false hne
          have e1 := take ⟨by assumption, by assumption, hne⟩
          refine ⟨k + 1, by omega, by omega, Le_of _ [(0, some 2)] [] ⟨rfl, True.intro, ⟨⟨rfl, rfl, fun _ _ => rfl⟩, ⟨rfl, rfl, fun _ _ => rfl⟩, ⟨rfl, rfl, ?_⟩, rfl, rfl, True.intro⟩, ⟨⟨rfl, rfl, rfl, ?_, fun q hq => ?_⟩, True.intro⟩⟩⟩
          · rw [← e1]; simp
          · rw [← e1]; simp
          · rw [← e1]
            exact joinRows_snoc (fun x : En => x.c) out (nth a i) q hq _ rfl
        | have hne := (en_eq (nth a i) (nth b k)).symm.trans ‹(_ && _) = true›
          have hne := of_decide_eq_true hne
          have e1 := skip (fun h => h.2.2 hne)
          refine ⟨k + 1, by omega, by omega, Le_of _ [(0, some 0)] [] ⟨rfl, True.intro, ⟨⟨rfl, rfl, fun _ _ => rfl⟩, ⟨rfl, rfl, fun _ _ => rfl⟩, ⟨rfl, rfl, ?_⟩, rfl, rfl, True.intro⟩, ⟨⟨rfl, rfl, rfl, ?_, fun q hq => ?_⟩, True.intro⟩⟩⟩
          · rw [← e1]
          · rw [← e1]
          · rw [← e1]
        | have e1 := skip (fun h => by simp_all)
          refine ⟨k + 1, by omega, by omega, Le_of _ [(0, some 0)] [] ⟨rfl, True.intro, ⟨⟨rfl, rfl, fun _ _ => rfl⟩, ⟨rfl, rfl, fun _ _ => rfl⟩, ⟨rfl, rfl, ?_⟩, rfl, rfl, True.intro⟩, ⟨⟨rfl, rfl, rfl, ?_, fun q hq => ?_⟩, True.intro⟩⟩⟩
          · rw [← e1]
          · rw [← e1]
          · rw [← e1]
        | have : k = b.length := by omega
          subst this
          have e1 : out = agI a b (i + 1) := by rw [agI, hacc, hout]
          refine Ar.nat (i + 1) (by omega) (by omega) ?_
          refine ⟨i + 1, by omega, by omega, Le_of _ [(0, some 0)] [] ⟨rfl, True.intro, ⟨⟨rfl, rfl, fun _ _ => rfl⟩, ⟨rfl, rfl, fun _ _ => rfl⟩, ⟨rfl, rfl, ?_⟩, rfl, True.intro⟩, ⟨⟨rfl, rfl, rfl, ?_, fun q hq => ?_⟩, True.intro⟩⟩⟩
          · rw [← e1]
          · rw [← e1]
          · rw [← e1]
  · have : i = a.length := by omega
    subst this
    refine V_run _ (enOK _) 200 ?_
    exact Bd.mk (by omega) (Out.mk ⟨⟨rfl, rfl, fun _ _ => rfl⟩, rfl, True.intro⟩)
end Go.AI

namespace Go.AI
open Go Go.Proofs Go.RowKit
set_option linter.unusedVariables false
set_option maxRecDepth 20000

structure R5 where
  a : Int
  b : Int
  c : Int
  d : Int
  e : Int
instance : Inhabited R5 := ⟨⟨0, 0, 0, 0, 0⟩⟩
abbrev R5.cs (x : R5) : List PV := [.i x.a, .i x.b, .i x.c, .i x.d, .i x.e]
abbrev rv (l : List R5) : AV := .pv (.rd 5 l.length fun i => (nth l i).cs)
def in64 (n : Int) : Prop := -9223372036854775808 ≤ n ∧ n ≤ 9223372036854775807
def R5.ok (x : R5) : Prop := in64 x.a ∧ in64 x.b ∧ in64 x.c ∧ in64 x.d ∧ in64 x.e

theorem pickI_bd {c n : Int} (hn : 0 < n) : 0 ≤ pickI c n ∧ pickI c n < n := by
  unfold pickI
  have h : 0 ≤ (if c < 0 then -(c + 1) else c) := by split <;> omega
  exact ⟨Int.tmod_nonneg _ h, Int.tmod_lt_of_pos _ hn⟩

theorem Spec.arg {P : Program} {f : Nat} {args args' : List AV} {r : AV} (h : Spec P f args r) (hle : leRs args args') : Spec P f args' r :=
  ⟨h.1, fun w Z vs hz hrel => h.2 w Z vs hz (leRs_sound _ _ hle w Z noρ vs hrel)⟩

def madeE (x : R5) : En := ⟨pickI x.a 3, pickI x.b 4, pickI x.c 5, pickI x.b 4 - 1, pickI x.d 200, pickI x.e 6⟩
def madeI (xs : List R5) : Nat → List En
  | 0 => []
  | i + 1 => (mergeP (madeI xs i) [madeE (nth xs i)]).1
def made (xs : List R5) : List En := madeI xs (min xs.length 16)

theorem mergeP_len (a b : List En) : (mergeP a b).1.length ≤ 120 := by
  unfold mergeP
  split
  · simp
  · split
    · simp
    · simp only; omega
theorem madeI_len (xs : List R5) (i : Nat) : (madeI xs i).length ≤ 120 := by
  cases i with
  | zero => simp [madeI]
  | succ i => exact mergeP_len _ _

set_option maxHeartbeats 4000000 in
theorem spec11 (xs : List R5) (hx : ∀ i, (nth xs i).ok) : Spec Try.prog 11 [rv xs] (jv (made xs)) := by
  refine spT (r := [_]) Try.func11 rfl Try.ntmps11 Try.results11 rfl (by kernel_rfl) (V_run _ (enOK _) 100 ?_)
  refine V_loop _ (fun i : Nat => ⟨[(0, rv xs), (3, jv (madeI xs i)), (4, .i i)], [], 0⟩) (fun i => i ≤ xs.length ∧ i ≤ 16) (fun i => 16 - i) 0 ⟨Nat.zero_le _, by omega⟩ ?_ ?_
  · exact Le_of _ [] [] ⟨rfl, True.intro, ⟨⟨rfl, rfl, fun _ _ => rfl⟩, rfl, rfl, True.intro⟩, True.intro⟩
  rintro i ⟨hi, hi2⟩
  have hl := madeI_len xs i
  obtain ⟨g1, g2, g3, g4, g5⟩ := hx i
  have hb := pickI_bd (c := (nth xs i).b) (n := 4) (by omega)
  have hend : ∀ j, j = i → (i = xs.length ∨ i = 16) → madeI xs j = made xs := by
    rintro j rfl h
    unfold made
    congr 1; omega
  refine V_run _ (enOK _) 200 ?_
  refine Br.dec (fun hlt => ?_) (fun hlt => ?_)
  · refine Br.dec (fun hlt2 => ?_) (fun hlt2 => ?_)
    · refine V_draw _ (enOK _) (by kernel_rfl) ?_
      repeat' first
        | refine Way.spec ?_
        | refine CallS.by (spec35 _ _ g1 (by decide)) rfl ?_
        | refine CallS.by (spec35 _ _ g2 (by decide)) rfl ?_
        | refine CallS.by (spec35 _ _ g3 (by decide)) rfl ?_
        | refine CallS.by (spec35 _ _ g4 (by decide)) rfl ?_
        | refine CallS.by (spec35 _ _ g5 (by decide)) rfl ?_
        | refine Ix.by rfl (by omega) ?_
        | refine Ix.toNat (by decide) ?_
        | refine Ar.ok (by omega) ?_
        | refine And.intro (by kernel_rfl) ?_
      refine V_run _ (enOK _) 200 ?_
      refine Way.frz (Bd.mk (Nat.le_refl _) (CallS.by ((spec16 (madeI xs i) [madeE (nth xs i)] (by omega) (by simp) (s := madeI xs (i + 1)) (e := (mergeP (madeI xs i) [madeE (nth xs i)]).2) rfl).arg ⟨⟨rfl, rfl, fun _ _ => rfl⟩, ⟨rfl, rfl, fun q hq => ?_⟩, True.intro⟩) rfl ?_))
      · have : q = 0 := by omega
        subst this
        rfl
      refine Ar.nat (i + 1) (by omega) (by omega) ?_
      exact ⟨i + 1, ⟨by omega, by omega⟩, by omega, Le_of _ [] [] ⟨rfl, True.intro, ⟨⟨rfl, rfl, fun _ _ => rfl⟩, ⟨rfl, rfl, fun _ _ => rfl⟩, rfl, True.intro⟩, True.intro⟩⟩
    · refine V_run _ (enOK _) 200 ?_
      rw [← hend i rfl (by omega)]
      exact Out.mk ⟨⟨rfl, rfl, fun _ _ => rfl⟩, True.intro⟩
  · refine V_run _ (enOK _) 200 ?_
    rw [← hend i rfl (by omega)]
    exact Out.mk ⟨⟨rfl, rfl, fun _ _ => rfl⟩, True.intro⟩

end Go.AI

namespace Go.AI
open Go Go.Proofs Go.RowKit
set_option linter.unusedVariables false
set_option maxRecDepth 20000

theorem getM_put {x y : List Int} : ∀ {es : MpT} {k v : List Int}, getM (putM es x y) k = some v → v = y ∨ getM es k = some v
  | [], k, v, h => by
    simp only [putM, getM] at h
    split at h
    · cases h; exact .inl rfl
    · cases h
  | (k0, v0) :: es, k, v, h => by
    unfold putM at h
    split at h
    · simp only [getM] at h
      split at h
      · cases h; exact .inl rfl
      · rename_i e1 e2
        refine .inr ?_
        simp only [getM]
        rw [if_neg (by rw [← e1]; exact e2)]
        exact h
    · simp only [getM] at h ⊢
      split at h
      · rename_i e
        rw [if_pos e]; exact .inr h
      · rename_i e
        rw [if_neg e]
        exact getM_put h

theorem knownI_val {l : List En} : ∀ {i : Nat} {k v : List Int}, getM (knownI l i) k = some v → ∃ y : En, v = valI y
  | 0, k, v, h => by cases h
  | i + 1, k, v, h => by
    rcases getM_put h with rfl | h
    · exact ⟨nth l i, rfl⟩
    · exact knownI_val h

def agMI (a : List En) (m : MpT) : Nat → List En
  | 0 => []
  | i + 1 => agMI a m i ++ (match getM m (keyI (nth a i)) with
    | some v => if v = valI (nth a i) then [] else [nth a i]
    | none => [])
def agM (a b : List En) : List En × Int := if validM a = false ∨ validM b = false then ([], 320) else (agMI a (knownI b b.length) a.length, 0)
theorem agMI_len (a : List En) (m : MpT) : ∀ i, (agMI a m i).length ≤ i
  | 0 => Nat.le_refl _
  | i + 1 => by
    have := agMI_len a m i
    unfold agMI
    rw [List.length_append]
    split
    · split <;> simp <;> omega
    · simp; omega

set_option maxHeartbeats 4000000 in
theorem spec17 (a b : List En) (ha : a.length ≤ 1000000000) (hb : b.length ≤ 1000000000) {s : List En} {e : Int} (hr : agM a b = (s, e)) : Spec Try.prog 17 [jv a, jv b] (resJ s e) := by
  refine spT (r := [_, _]) Try.func17 rfl Try.ntmps17 Try.results17 rfl (by kernel_rfl) (V_run _ (enOK _) 100 ?_)
  have bad : (validM a = false ∨ validM b = false) → s = [] ∧ e = 320 := by
    intro h
    unfold agM at hr
    rw [if_pos h] at hr
    cases hr; exact ⟨rfl, rfl⟩
  refine Way.spec (CallS.by (spec13 _ ha) rfl ?_)
  refine Br.not (fun h => ?_) (fun h => ?_)
  · obtain ⟨rfl, rfl⟩ := bad (.inl h)
    exact Out.mk ⟨rfl, rfl, True.intro⟩
  refine Way.spec (CallS.by (spec13 _ hb) rfl ?_)
  refine Br.not (fun h2 => ?_) (fun h2 => ?_)
  · obtain ⟨rfl, rfl⟩ := bad (.inr h2)
    exact Out.mk ⟨rfl, rfl, True.intro⟩
  have hres : s = agMI a (knownI b b.length) a.length ∧ e = 0 := by
    unfold agM at hr
    rw [if_neg (by simp [h, h2])] at hr
    cases hr; exact ⟨rfl, rfl⟩
  obtain ⟨rfl, rfl⟩ := hres
  have la := validM_len h
  clear bad hr h h2
  have hkeys := knownI_keys b b.length
  have hvals : ∀ {k v : List Int}, getM (knownI b b.length) k = some v → ∃ y : En, v = valI y := knownI_val
  refine Way.new (CallN.by (spec40 b hb) ?_)
  generalize knownI b b.length = m at *
  refine V_loop _ (fun i : Nat => ⟨[(6, .map 0), (7, .own 1 0 (agMI a m i).length), (22, jv a), (23, .i a.length), (24, .i i)], [(0, some (.mp m)), (1, some (.arr 47 6 (agMI a m i).length fun q => (nth (agMI a m i) q).c))], 2⟩)
    (fun i => i ≤ a.length) (fun i => a.length - i) 0 (Nat.zero_le _) ?_ ?_
  · exact Le_of _ [(0, some 0), (1, none)] [] ⟨rfl, True.intro, ⟨rfl, ⟨rfl, rfl, rfl⟩, ⟨rfl, rfl, fun _ _ => rfl⟩, rfl, rfl, True.intro⟩, ⟨⟨rfl, rfl⟩, ⟨rfl, rfl⟩, True.intro⟩⟩
  intro i hi
  have hlen := agMI_len a m i
  have hnext : agMI a m (i + 1) = agMI a m i ++ (match getM m (keyI (nth a i)) with
    | some v => if v = valI (nth a i) then [] else [nth a i]
    | none => []) := rfl
  generalize hacc : agMI a m i = acc at *
  refine V_run _ (enOK _) 200 ?_
  refine Br.dec (fun hlt => ?_) (fun hlt => ?_)
  · refine Ix.by rfl (by omega) ?_
    refine Way.spec (CallS.by (spec41 _) rfl ?_)
    refine Bd.mk ⟨hkeys, by decide⟩ ?_
    cases hg : getM m (keyI (nth a i)) with
    | none =>
      rw [hg] at hnext
      simp only [List.append_nil] at hnext
      refine Lk.none hg ?_
      refine Ar.nat (i + 1) (by omega) (by omega) ?_
      refine ⟨i + 1, by omega, by omega, Le_of _ [(0, some 0), (1, some 1)] [] ⟨rfl, True.intro, ⟨rfl, ⟨rfl, rfl, ?_⟩, ⟨rfl, rfl, fun _ _ => rfl⟩, rfl, rfl, True.intro⟩, ⟨⟨rfl, rfl⟩, ⟨rfl, rfl, rfl, ?_, fun q hq => ?_⟩, True.intro⟩⟩⟩
      · rw [hnext]
      · rw [hnext]
      · rw [hnext]
    | some v =>
      obtain ⟨y, rfl⟩ := hvals hg
      rw [hg] at hnext
      simp only at hnext
      refine Lk.some _ hg ?_
      refine Br.not (fun h => ?_) (fun h => ?_)
      · have hne := of_decide_eq_false ((en_eq y (nth a i)).symm.trans h)
        rw [if_neg (fun e => hne (by
          have := e
          simp only [List.cons.injEq, and_true] at this
          cases y; cases hx : nth a i; rw [hx] at this; simp at this; simp [this]))] at hnext
        refine Bd.mk (Nat.le_refl _) ?_
        refine Bd.mk ⟨Nat.le_refl _, (show (acc.length + 1) * 48 ≤ 140737488355328 from by omega)⟩ ?_
        refine Ar.nat (i + 1) (by omega) (by omega) ?_
        refine ⟨i + 1, by omega, by omega, Le_of _ [(0, some 0), (1, some 5)] [] ⟨rfl, True.intro, ⟨rfl, ⟨rfl, rfl, ?_⟩, ⟨rfl, rfl, fun _ _ => rfl⟩, rfl, rfl, True.intro⟩, ⟨⟨rfl, rfl⟩, ⟨rfl, rfl, rfl, ?_, fun q hq => ?_⟩, True.intro⟩⟩⟩
        · rw [hnext]; simp
        · rw [hnext]; simp
        · rw [hnext]
          exact joinRows_snoc (fun x : En => x.c) acc (nth a i) q hq _ rfl
      · have heq := of_decide_eq_true ((en_eq y (nth a i)).symm.trans h)
        subst heq
        rw [if_pos rfl, List.append_nil] at hnext
        refine Ar.nat (i + 1) (by omega) (by omega) ?_
        refine ⟨i + 1, by omega, by omega, Le_of _ [(0, some 0), (1, some 1)] [] ⟨rfl, True.intro, ⟨rfl, ⟨rfl, rfl, ?_⟩, ⟨rfl, rfl, fun _ _ => rfl⟩, rfl, rfl, True.intro⟩, ⟨⟨rfl, rfl⟩, ⟨rfl, rfl, rfl, ?_, fun q hq => ?_⟩, True.intro⟩⟩⟩
        · rw [hnext]
        · rw [hnext]
        · rw [hnext]
  · have : i = a.length := by omega
    subst this
    subst hacc
    refine V_run _ (enOK _) 200 ?_
    exact Bd.mk (by omega) (Out.mk ⟨⟨rfl, rfl, fun _ _ => rfl⟩, rfl, True.intro⟩)

end Go.AI

/- The shelf's sort of structs: its comparator out of a contract of ours. -/
namespace Go.AI
open Go Go.Proofs Go.RowKit Go.Sort Go.Shelf
set_option linter.unusedVariables false

/-- What only grows: draws, and blocks behind. -/
theorem Bel.grow {w w' : World} (h : Bel (lts w.heap.size) w w') : ∃ q os, w' = grow (w.drewN q) os := by
  refine ⟨w'.drawn - w.drawn, w'.heap.extract w.heap.size w'.heap.size, ?_⟩
  obtain ⟨h1, h2, h3, h4, h5, h6⟩ := h
  obtain ⟨heap, tape, drawn, os, output⟩ := w
  obtain ⟨heap', tape', drawn', os', output'⟩ := w'
  simp only at h1 h2 h3 h4 h5 h6
  subst h1; subst h2; subst h3
  have e1 : heap ++ heap'.extract heap.size heap'.size = heap' := by
    apply Array.ext_getElem?
    intro i
    rw [Array.getElem?_append]
    split
    · rename_i hi
      exact (h5 i hi).symm
    · rename_i hi
      rw [Array.getElem?_extract]
      split
      · rw [show heap.size + (i - heap.size) = i by omega]
      · rw [Array.getElem?_eq_none]
        omega
  have e2 : drawn + (drawn' - drawn) = drawn' := by omega
  simp only [Go.Sort.grow, World.drewN, e1, e2]

def encE (x : En) : List Value := [.int .i64 x.t, .int .i64 x.e, .int .i64 x.n, .int .i64 x.h, .int .i64 x.a, .int .i64 x.o]

theorem cmpLays_of {g : Nat} {cf : En → En → Int} (h : Cmp g [] cf) (blk off size : Nat) (w : World) : CmpLays Try.prog g #[] encE 6 cf blk off size w := by
  intro m os dk _ x y
  have := (h x y).2 (sortWorldK encE 6 w blk off m dk os) (fun _ => False) [.agg (encE x).toArray, .agg (encE y).toArray] (fun _ h => h.elim) ?_
  · refine this.mono fun e w' ⟨v, he, hb, hr⟩ => ?_
    rw [Rel_val hr] at he
    exact ⟨he, hb.grow⟩
  · simp only [RelL, List.map_nil]
    refine ⟨_, _, rfl, ?_, _, _, rfl, ?_, rfl⟩
    · unfold Rel
      refine ⟨_, rfl, ?_⟩
      simp only [encE, RelL]
      exact ⟨_, _, rfl, Rel_mk rfl, _, _, rfl, Rel_mk rfl, _, _, rfl, Rel_mk rfl, _, _, rfl, Rel_mk rfl, _, _, rfl, Rel_mk rfl, _, _, rfl, Rel_mk rfl, rfl⟩
    · unfold Rel
      refine ⟨_, rfl, ?_⟩
      simp only [encE, RelL]
      exact ⟨_, _, rfl, Rel_mk rfl, _, _, rfl, Rel_mk rfl, _, _, rfl, Rel_mk rfl, _, _, rfl, Rel_mk rfl, _, _, rfl, Rel_mk rfl, _, _, rfl, Rel_mk rfl, rfl⟩

end Go.AI

namespace Go.AI
open Go Go.Proofs Go.RowKit Go.Sort Go.Shelf
set_option linter.unusedVariables false

theorem lt_key (x y : En) : ltOf cmpKey x y = true ↔ x.t < y.t ∨ (x.t = y.t ∧ (x.e < y.e ∨ (x.e = y.e ∧ x.n < y.n))) := ltKey_iff x y
theorem lt_turn (x y : En) : ltOf cmpTurn x y = true ↔ x.e < y.e ∨ (x.e = y.e ∧ (x.a < y.a ∨ (x.a = y.a ∧ x.n < y.n))) := by
  simp only [ltOf, cmpTurn, decide_eq_true_eq, then_neg, ci_neg, ci_zero]

theorem swoKey : SWO (ltOf cmpKey) where
  irrefl x := by rw [← Bool.not_eq_true, lt_key]; omega
  trans x y z h1 h2 := by rw [lt_key] at *; omega
  ntrans x y z h1 h2 := by rw [← Bool.not_eq_true, lt_key] at *; omega
theorem swoTurn : SWO (ltOf cmpTurn) where
  irrefl x := by rw [← Bool.not_eq_true, lt_turn]; omega
  trans x y z h1 h2 := by rw [lt_turn] at *; omega
  ntrans x y z h1 h2 := by rw [← Bool.not_eq_true, lt_turn] at *; omega

end Go.AI

/-
  DERIVED: THE SHELF's CONTRACTS AT THIS DUMP, IN PLAIN WORDS (tools/lay-plain.mjs out of 'TrySort.lean', which tools/lay-shelf.mjs wrote): THE SAME DECLARATIONS UNDER THE SAME NAMES: 'import', 'namespace', 'open', 'def', 'theorem' AND NOTHING ELSE: no command of the shelf's: FOR A HAND-IN. Each laying: the table of numbers ('.._ren') and one theorem, a field a fact of the dump's own or the kernel's comparison; each contract: ONE APPLICATION.
-/
namespace Go.Proofs
open Go.Shelf
def Try.sortEn_ren : Go.Shelf.Ren := ⟨fun | 6 => 43 | 15 => 69 | 14 => 68 | 28 => 97 | 29 => 98 | 20 => 89 | 21 => 90 | 22 => 91 | 23 => 92 | 24 => 93 | 25 => 94 | 26 => 95 | 27 => 96 | 46 => 105 | 47 => 106 | 48 => 107 | 49 => 108 | 50 => 109 | 57 => 112 | n => n, fun | 22 => 22 | 24 => 47 | 25 => 78 | 3 => 3 | 39 => 97 | 0 => 0 | 53 => 127 | 55 => 129 | 4 => 4 | 46 => 120 | 45 => 119 | 50 => 124 | 5 => 5 | 9 => 9 | 66 => 137 | 70 => 141 | 76 => 147 | 77 => 114 | n => n, fun | n => n⟩
theorem Try.sortEn : Go.Proofs.SlLaysF0.n6 Try.prog Try.sortEn_ren := {
  mixed := by kernel_rfl
  f6 := ⟨Try.f43.name, by decide, Try.func43.trans (congrArg some (by kernel_rfl))⟩
  f14 := ⟨Try.f68.name, by decide, Try.func68.trans (congrArg some (by kernel_rfl))⟩
  f15 := Try.func69.trans (congrArg some (by kernel_rfl))
  f20 := ⟨Try.f89.name, by decide, Try.func89.trans (congrArg some (by kernel_rfl))⟩
  f21 := ⟨Try.f90.name, by decide, Try.func90.trans (congrArg some (by kernel_rfl))⟩
  f22 := ⟨Try.f91.name, by decide, Try.func91.trans (congrArg some (by kernel_rfl))⟩
  f23 := ⟨Try.f92.name, by decide, Try.func92.trans (congrArg some (by kernel_rfl))⟩
  f24 := ⟨Try.f93.name, by decide, Try.func93.trans (congrArg some (by kernel_rfl))⟩
  f25 := ⟨Try.f94.name, by decide, Try.func94.trans (congrArg some (by kernel_rfl))⟩
  f26 := ⟨Try.f95.name, by decide, Try.func95.trans (congrArg some (by kernel_rfl))⟩
  f27 := ⟨Try.f96.name, by decide, Try.func96.trans (congrArg some (by kernel_rfl))⟩
  f28 := Try.func97.trans (congrArg some (by kernel_rfl))
  f29 := Try.func98.trans (congrArg some (by kernel_rfl))
  f46 := ⟨Try.f105.name, by decide, Try.func105.trans (congrArg some (by kernel_rfl))⟩
  f47 := Try.func106.trans (congrArg some (by kernel_rfl))
  f48 := Try.func107.trans (congrArg some (by kernel_rfl))
  f49 := ⟨Try.f108.name, by decide, Try.func108.trans (congrArg some (by kernel_rfl))⟩
  f50 := ⟨Try.f109.name, by decide, Try.func109.trans (congrArg some (by kernel_rfl))⟩
  f57 := ⟨Try.f112.name, by decide, Try.func112.trans (congrArg some (by kernel_rfl))⟩
  t0 := Try.underlying0
  a0 := Try.isAgg0
  z0 := Try.sizeOf0
  v0 := Try.zeroValue0
  t3 := Try.underlying3
  a3 := Try.isAgg3
  z3 := Try.sizeOf3
  v3 := Try.zeroValue3
  t4 := Try.underlying4
  a4 := Try.isAgg4
  z4 := Try.sizeOf4
  v4 := Try.zeroValue4
  t5 := Try.underlying5
  a5 := Try.isAgg5
  z5 := Try.sizeOf5
  v5 := Try.zeroValue5
  t9 := Try.underlying9
  a9 := Try.isAgg9
  z9 := Try.sizeOf9
  v9 := Try.zeroValue9
  t22 := Try.underlying22
  a22 := Try.isAgg22
  z22 := Try.sizeOf22
  v22 := Try.zeroValue22
  t25 := Try.underlying78
  a25 := Try.isAgg78
  z25 := Try.sizeOf78
  v25 := Try.zeroValue78
  t39 := Try.underlying97
  a39 := Try.isAgg97
  z39 := Try.sizeOf97
  v39 := Try.zeroValue97
  t45 := Try.underlying119
  a45 := Try.isAgg119
  z45 := Try.sizeOf119
  v45 := Try.zeroValue119
  t46 := Try.underlying120
  a46 := Try.isAgg120
  z46 := Try.sizeOf120
  v46 := Try.zeroValue120
  t50 := Try.underlying124
  a50 := Try.isAgg124
  z50 := Try.sizeOf124
  v50 := Try.zeroValue124
  t53 := Try.underlying127
  a53 := Try.isAgg127
  z53 := Try.sizeOf127
  v53 := Try.zeroValue127
  t55 := Try.underlying129
  a55 := Try.isAgg129
  z55 := Try.sizeOf129
  v55 := Try.zeroValue129
  t66 := Try.underlying137
  a66 := Try.isAgg137
  z66 := Try.sizeOf137
  v66 := Try.zeroValue137
  t70 := Try.underlying141
  a70 := Try.isAgg141
  z70 := Try.sizeOf141
  v70 := Try.zeroValue141
  t76 := Try.underlying147
  a76 := Try.isAgg147
  z76 := Try.sizeOf147
  v76 := Try.zeroValue147
  t77 := Try.underlying114
  a77 := Try.isAgg114
  z77 := Try.sizeOf114
  v77 := Try.zeroValue114 }
end Go.Proofs

/- The shelf's sort of structs as a contract of ours: it turns the caller's own row. -/
namespace Go.AI
open Go Go.Proofs Go.RowKit Go.Sort Go.Shelf
set_option linter.unusedVariables false

theorem RdC_enc {w : World} {Z : Nat → Prop} {b o : Nat} (x : En) : RdC w Z x.c b o ↔ ∀ r, r < 6 → w.cell? ⟨b, o + r, none⟩ = some (encE x)[r]! := by
  simp only [RdC, Rd, and_true]
  constructor
  · rintro ⟨⟨_, h0, rfl, _⟩, ⟨_, h1, rfl, _⟩, ⟨_, h2, rfl, _⟩, ⟨_, h3, rfl, _⟩, ⟨_, h4, rfl, _⟩, ⟨_, h5, rfl, _⟩⟩ r hr
    have : r = 0 ∨ r = 1 ∨ r = 2 ∨ r = 3 ∨ r = 4 ∨ r = 5 := by omega
    rcases this with rfl | rfl | rfl | rfl | rfl | rfl
    · exact h0
    · exact h1
    · exact h2
    · exact h3
    · exact h4
    · exact h5
  · intro h
    exact ⟨⟨_, h 0 (by omega), rfl, rfl⟩, ⟨_, h 1 (by omega), rfl, rfl⟩, ⟨_, h 2 (by omega), rfl, rfl⟩, ⟨_, h 3 (by omega), rfl, rfl⟩, ⟨_, h 4 (by omega), rfl, rfl⟩, ⟨_, h 5 (by omega), rfl, rfl⟩⟩

theorem nth_toArray (l : List En) (i : Nat) : l.toArray[i]! = nth l i := by
  unfold nth
  simp only [getElem!_def, List.getElem?_toArray]
  cases l[i]? <;> rfl

theorem holdsK_of {w : World} {b n0 : Nat} {cs : Array Value} {T : TypeId} (hb : w.heap[b]? = some (.cells cs T (0, 0))) {l : List En} {Z : Nat → Prop}
    (h : ∀ i, i < l.length → RdC w Z (nth l i).c b (i * 6)) : HoldsK encE 6 w b 0 l.toArray := by
  intro t ht
  rw [size_flatK] at ht
  refine ⟨?_, by simp [World.frozen?, hb]⟩
  rw [get_flatK _ _ _ _ ht, Nat.zero_add]
  have ht : t < l.length * 6 := by simpa using ht
  have h1 : t / 6 < l.length := by omega
  have := (RdC_enc _).1 (h (t / 6) h1) (t % 6) (by omega)
  rw [show t / 6 * 6 + t % 6 = t by omega] at this
  rw [this, nth_toArray]
  rfl

/-- Sorted as Go sorts it. -/
def sortE (cf : En → En → Int) (l : List En) : List En := (pdq (ltOf cf) l.toArray 0 l.toArray.size (Go.Lib.bitLen l.toArray.size) true true).toList

theorem sortE_spec {cf : En → En → Int} (hO : SWO (ltOf cf)) (l : List En) : (sortE cf l).Perm l ∧ ∀ i j, i < j → j < l.length → ltOf cf (nth (sortE cf l) j) (nth (sortE cf l) i) = false := by
  have h := pdq_sorts (ltOf cf) hO l.toArray 0 l.toArray.size (Go.Lib.bitLen l.toArray.size) true true (Nat.zero_le _) (Nat.le_refl _) (Or.inl rfl)
  obtain ⟨⟨h1, _, h2⟩, h3⟩ := h
  refine ⟨?_, fun i j hij hj => ?_⟩
  · unfold sortE
    generalize pdq (ltOf cf) l.toArray 0 l.toArray.size (Go.Lib.bitLen l.toArray.size) true true = d' at h1 h2 ⊢
    rw [← h1] at h2
    rw [Array.extract_size] at h2
    rw [h1, Array.extract_size] at h2
    exact h2
  · have := h3 i j (Nat.zero_le _) hij (by simpa using hj)
    have e : ∀ k, nth (sortE cf l) k = (pdq (ltOf cf) l.toArray 0 l.toArray.size (Go.Lib.bitLen l.toArray.size) true true)[k]! := fun k => by
      rw [← nth_toArray]; rfl
    rw [e, e]
    exact this

theorem sortE_length {cf : En → En → Int} (hO : SWO (ltOf cf)) (l : List En) : (sortE cf l).length = l.length := (sortE_spec hO l).1.length_eq

/-- slices.SortFunc at entries: the caller's row, sorted. -/
theorem fx43 {g : Nat} {cf : En → En → Int} (hc : Cmp g [] cf) (hO : SWO (ltOf cf)) {oid n0 nid : Nat} {ob : Nat → Option AO} {gg : Nat → List PV} (l : List En) (hob : ob oid = some (.arr 47 6 n0 gg)) (hn : l.length ≤ n0) (hl : l.length ≤ 1000000000)
    (hg : ∀ q, q < l.length → gg q = (nth l q).c) :
    CallFx Try.prog 43 [.own oid 0 l.length, .fn (.func g) [] []] ob [oid] (.tup []) [(oid, some (.arr 47 6 l.length fun q => (nth (sortE cf l) q).c))] nid 0 := by
  refine ⟨enters_of Try.func43 rfl rfl, fun oid' o' h => ?_, fun B w Z ρ ob' vs hv hr hs _ => ?_⟩
  · simp only [List.mem_singleton, Prod.mk.injEq] at h
    rw [h.1]
    exact .inl ⟨by simp, _, hob⟩
  simp only [RelL] at hv
  obtain ⟨v1, _, rfl, h1, v2, _, rfl, h2, rfl⟩ := hv
  unfold Rel at h1 h2
  obtain ⟨fs, cs, rfl, h2, h2'⟩ := h2
  unfold RelL at h2 h2'
  obtain rfl : fs = #[] := Array.toList_inj.1 (by simpa using h2)
  obtain rfl : cs = #[] := Array.toList_inj.1 (by simpa using h2')
  obtain ⟨L, hL, ⟨hnil, rfl, hz, _⟩ | ⟨hnil, c, rfl, hcap, _⟩⟩ := h1
  · have hl0 : l = [] := List.eq_nil_of_length_eq_zero hz
    subst hl0
    refine (AnyF.slices_SortFunc_none Try.sortEn none 0 _ w).mono fun e w' ⟨he, hw⟩ => ?_
    subst hw
    refine ⟨_, Z, ρ, he, ⟨Bel.refl _ _, fun _ h => h, fun _ h => .inl (.inl h), fun _ _ h => h, fun _ _ => rfl, fun _ _ _ => rfl, ?_, fun oid' o h => ?_, fun id1 id2 o1 o2 L1 L2 q1 q2 _ _ _ _ _ => ?_⟩⟩
    · unfold Rel; exact ⟨#[], rfl, by simp [RelL]⟩
    · simp only [List.mem_singleton, Prod.mk.injEq, Option.some.injEq] at h
      obtain ⟨rfl, rfl⟩ := h
      exact ⟨L, hL, .inl ⟨hnil, _, _, _, rfl⟩⟩
    · simp only [List.mem_singleton, Prod.mk.injEq] at q1 q2
      rw [q1.1, q2.1]
  · obtain ⟨hB, hlt, hnz, cs, hblk, hk, hsz, hle, hrow⟩ := hs.obj oid _ L ((hr oid (by simp)).trans hob) hL hnil
    rw [hk, Nat.zero_mul]
    have hH : HoldsK encE 6 w L.b 0 l.toArray := holdsK_of (n0 := n0) hblk fun i hi => by
      have := (hrow i (by omega)).2
      rw [hg i hi] at this
      exact this
    have hrun := AnyQ.slices_SortFunc_eq Try.sortEn 6 Try.isAgg47 Try.sizeOf47 encE (fun _ => rfl) (fun x v hv => by
      simp only [encE, List.mem_cons, List.not_mem_nil, or_false] at hv
      rcases hv with rfl | rfl | rfl | rfl | rfl | rfl <;> rfl) cf hO g #[] L.b 0 c l.toArray w (hc default default).1 (cmpLays_of hc _ _ _ _) hH hlt (by simp; omega)
    rw [List.size_toArray] at hrun
    refine Calls.mono hrun fun e w' ⟨he, m, os, hw⟩ => ?_
    have hd : (pdq (ltOf cf) l.toArray 0 l.length (Go.Lib.bitLen l.length) true true) = (sortE cf l).toArray := by unfold sortE; simp
    rw [hd] at hw
    have hlen := sortE_length hO l
    generalize sortE cf l = l' at hw hlen ⊢
    unfold sortWorldK at hw
    have hsz' : w'.heap.size = w.heap.size + os.size := by
      rw [hw, size_grow]; congr 1; exact Go.Sort.size_putRow ..
    have hH' : HoldsK encE 6 w' L.b 0 l'.toArray := by
      rw [hw]
      refine holdsK_grow _ _ _ _ _ _ _ (by show L.b < (putRow id _ _ _ _).heap.size; rw [Go.Sort.size_putRow]; exact hlt) ?_
      exact holdsK_putRowK _ _ _ _ _ l.toArray _ (holdsK_ahead _ _ _ _ _ _ _ hH) (by simp [hlen])
    have hat : w'.heap[L.b]? = some (.cells (putCells id 0 (flatK encE 6 l'.toArray) cs) 47 (0, 0)) := by
      rw [hw, heap_grow_old _ _ (by show L.b < (putRow id _ _ _ _).heap.size; rw [Go.Sort.size_putRow]; exact hlt)]
      show (mapBlock (Go.Sort.ahead w m) L.b (putCells id 0 (flatK encE 6 l'.toArray))).heap[L.b]? = _
      simp only [mapBlock, Array.getElem?_modify, if_true, Go.Sort.heap_ahead, hblk, Option.map_some, onCells]
    have hother : ∀ b, b < w.heap.size → b ≠ L.b → w'.heap[b]? = w.heap[b]? := fun b hb hne => by
      rw [hw, heap_grow_old _ _ (by show b < (putRow id _ _ _ _).heap.size; rw [Go.Sort.size_putRow]; exact hb)]
      show (mapBlock (Go.Sort.ahead w m) L.b (putCells id 0 (flatK encE 6 l'.toArray))).heap[b]? = _
      simp only [mapBlock, Array.getElem?_modify, Go.Sort.heap_ahead, if_neg (Ne.symm hne)]
    refine ⟨_, Z, ρ, he, ⟨⟨by rw [hw]; rfl, by rw [hw]; rfl, by rw [hw]; rfl, by omega, fun _ h => h.elim, by rw [hw]; show w.drawn ≤ w.drawn + m; omega⟩, fun _ h => h, fun _ h => .inl (.inl h), fun _ _ h => h, fun _ _ => rfl, fun b hb hne => ?_, ?_, fun oid' o h => ?_, fun id1 id2 o1 o2 L1 L2 q1 q2 _ _ _ _ _ => ?_⟩⟩
    · exact hother b hb fun e => hne oid _ L (List.mem_cons_self ..) hL hnil e.symm
    · unfold Rel; exact ⟨#[], rfl, by simp [RelL]⟩
    · simp only [List.mem_singleton, Prod.mk.injEq, Option.some.injEq] at h
      obtain ⟨rfl, rfl⟩ := h
      refine ⟨L, hL, .inr ⟨hnil, ⟨_, hat, hk, by simp [putCells, hsz], by rw [hsz] at hle ⊢; omega, fun i hi => ⟨rfl, ?_⟩⟩, hnz, by omega, .inl hL⟩⟩
      refine (RdC_enc _).2 fun r hr => ?_
      have h3 := (hH' (i * 6 + r) (by simp; omega)).1
      rw [get_flatK _ _ _ _ (by simp; omega), Nat.zero_add, show (i * 6 + r) / 6 = i by omega, show (i * 6 + r) % 6 = r by omega, nth_toArray] at h3
      exact h3
    · simp only [List.mem_singleton, Prod.mk.injEq] at q1 q2
      rw [q1.1, q2.1]

end Go.AI

/- Journals as sets: what merging gives. Plain: no program in sight. -/
namespace Go.AI
open Go Go.Proofs Go.RowKit Go.Sort
set_option linter.unusedVariables false

theorem key_iff (x y : En) : keyI x = keyI y ↔ x.t = y.t ∧ x.e = y.e ∧ x.n = y.n := by simp [keyI]
theorem ltKey_ne {x y : En} (h : ltKey x y = true) : keyI x ≠ keyI y := by rw [ltKey_iff] at h; rw [Ne, key_iff]; omega
theorem ltKey_trans {x y z : En} (h : ltKey x y = true) (h2 : ltKey y z = true) : ltKey x z = true := by rw [ltKey_iff] at *; omega
theorem ltKey_tri {x y : En} (h : ltKey x y = false) (h2 : ltKey y x = false) : keyI x = keyI y := by
  rw [← Bool.not_eq_true, ltKey_iff] at h h2; rw [key_iff]; omega
theorem ltKey_asymm {x y : En} (h : ltKey x y = true) : ltKey y x = false := by rw [← Bool.not_eq_true, ltKey_iff]; rw [ltKey_iff] at h; omega
theorem ltKey_congr {x y z : En} (h : keyI x = keyI y) : ltKey x z = ltKey y z := by
  rw [Bool.eq_iff_iff, ltKey_iff, ltKey_iff]; rw [key_iff] at h; omega
theorem ltKey_congr' {x y z : En} (h : keyI x = keyI y) : ltKey z x = ltKey z y := by
  rw [Bool.eq_iff_iff, ltKey_iff, ltKey_iff]; rw [key_iff] at h; omega
theorem ltRest_irrefl (x : En) : ltRest x x = false := by rw [← Bool.not_eq_true, ltRest_iff]; omega
theorem ltRest_asymm {x y : En} (h : ltRest x y = true) : ltRest y x = false := by rw [← Bool.not_eq_true, ltRest_iff]; rw [ltRest_iff] at h; omega
theorem ltRest_trans {x y z : En} (h : ltRest x y = true) (h2 : ltRest y z = true) : ltRest x z = true := by rw [ltRest_iff] at *; omega
theorem ltRest_ntrans {x y z : En} (h : ltRest x y = false) (h2 : ltRest y z = false) : ltRest x z = false := by
  rw [← Bool.not_eq_true, ltRest_iff] at *; omega
theorem en_same {x y : En} (hk : keyI x = keyI y) (h1 : ltRest x y = false) (h2 : ltRest y x = false) : x = y := by
  rw [key_iff] at hk
  rw [← Bool.not_eq_true, ltRest_iff] at h1 h2
  obtain ⟨k1, k2, k3⟩ := hk
  cases x; cases y; simp at *
  refine ⟨k1, k2, k3, ?_, ?_, ?_⟩ <;> omega

/-- Strictly ascending by keys. -/
def SK (l : List En) : Prop := l.Pairwise fun x y => ltKey x y = true
theorem SK.nil : SK [] := List.Pairwise.nil
theorem SK.uniq {l : List En} (h : SK l) {x y : En} (hx : x ∈ l) (hy : y ∈ l) (hk : keyI x = keyI y) : x = y := by
  induction l with
  | nil => cases hx
  | cons z l ih =>
    obtain ⟨h1, h2⟩ := List.pairwise_cons.1 h
    rcases List.mem_cons.1 hx with e1 | e1 <;> rcases List.mem_cons.1 hy with e2 | e2
    · exact e1.trans e2.symm
    · subst e1; exact absurd hk (ltKey_ne (h1 y e2))
    · subst e2; exact absurd hk.symm (ltKey_ne (h1 x e1))
    · exact ih h2 e1 e2
theorem SK.ext : ∀ {l l' : List En}, SK l → SK l' → (∀ z, z ∈ l ↔ z ∈ l') → l = l'
  | [], [], _, _, _ => rfl
  | [], y :: l', _, _, h => absurd ((h y).2 (List.mem_cons_self ..)) (by simp)
  | x :: l, [], _, _, h => absurd ((h x).1 (List.mem_cons_self ..)) (by simp)
  | x :: l, y :: l', h1, h2, h => by
    obtain ⟨a1, a2⟩ := List.pairwise_cons.1 h1
    obtain ⟨b1, b2⟩ := List.pairwise_cons.1 h2
    have e : x = y := by
      rcases List.mem_cons.1 ((h x).1 (List.mem_cons_self ..)) with e | hx
      · exact e
      · rcases List.mem_cons.1 ((h y).2 (List.mem_cons_self ..)) with e | hy
        · exact e.symm
        · have := b1 x hx; have h3 := a1 y hy
          rw [ltKey_asymm this] at h3; cases h3
    subst e
    have : l = l' := SK.ext a2 b2 fun z => by
      have hz := h z
      simp only [List.mem_cons] at hz
      constructor
      · intro hm
        rcases hz.1 (.inr hm) with rfl | h
        · have := a1 z hm; rw [ltKey_asymm this] at this; cases this
        · exact h
      · intro hm
        rcases hz.2 (.inr hm) with rfl | h
        · have := b1 z hm; rw [ltKey_asymm this] at this; cases this
        · exact h
    rw [this]

theorem validM_ok {l : List En} (h : validM l = true) : ∀ k, k < l.length → okAt l k = true := by
  unfold validM at h
  rw [Bool.and_eq_true, List.all_eq_true] at h
  exact fun k hk => h.1 k (List.mem_range.2 hk)
theorem nth_get {α : Type} [Inhabited α] {l : List α} {i : Nat} (h : i < l.length) : nth l i = l[i] := by simp [nth, h]
theorem nth_mem {α : Type} [Inhabited α] {l : List α} {i : Nat} (h : i < l.length) : nth l i ∈ l := by rw [nth_get h]; exact List.getElem_mem h
theorem mem_nth {α : Type} [Inhabited α] {l : List α} {x : α} (h : x ∈ l) : ∃ i, i < l.length ∧ nth l i = x := by
  obtain ⟨i, hi, e⟩ := List.mem_iff_getElem.1 h
  exact ⟨i, hi, by rw [nth_get hi]; exact e⟩
theorem validM_SK {l : List En} (h : validM l = true) : SK l := by
  have hok := validM_ok h
  have key : ∀ j i, i < j → j < l.length → ltKey (nth l i) (nth l j) = true := by
    intro j
    induction j with
    | zero => intro i hi; omega
    | succ j ih =>
      intro i hi hj
      have h1 := hok (j + 1) hj
      unfold okAt at h1
      rw [Bool.and_eq_true, Bool.or_eq_true] at h1
      have h2 : ltKey (nth l j) (nth l (j + 1)) = true := by
        rcases h1.2 with h | h
        · simp at h
        · exact h
      by_cases e : i = j
      · subst e; exact h2
      · exact ltKey_trans (ih i (by omega) (by omega)) h2
  unfold SK
  rw [List.pairwise_iff_getElem]
  intro i j hi hj hij
  have := key j i hij hj
  rwa [nth_get hi, nth_get hj] at this

/-- What is told of one key by both: the least. -/
def Mn (a b : List En) (z : En) : Prop := (z ∈ a ∨ z ∈ b) ∧ ∀ y, (y ∈ a ∨ y ∈ b) → keyI y = keyI z → ltRest y z = false

theorem mem_mrg {a b : List En} (ha : SK a) (hb : SK b) (z : En) : z ∈ mrg a b ↔ Mn a b z := by
  induction a, b using mrg.induct with
  | case1 b =>
    unfold mrg Mn
    simp only [List.not_mem_nil, false_or]
    exact ⟨fun h => ⟨h, fun y hy hk => by have := hb.uniq hy h hk; subst this; exact ltRest_irrefl _⟩, fun h => h.1⟩
  | case2 x a =>
    unfold mrg Mn
    simp only [List.not_mem_nil, or_false]
    exact ⟨fun h => ⟨h, fun y hy hk => by have := ha.uniq hy h hk; subst this; exact ltRest_irrefl _⟩, fun h => h.1⟩
  | case3 x a y b hlt ih =>
    obtain ⟨a1, a2⟩ := List.pairwise_cons.1 ha
    obtain ⟨b1, b2⟩ := List.pairwise_cons.1 hb
    have hx : ∀ w, (w ∈ a ∨ w ∈ y :: b) → ltKey x w = true := fun w hw => by
      rcases hw with hw | hw
      · exact a1 w hw
      · rcases List.mem_cons.1 hw with rfl | hw
        · exact hlt
        · exact ltKey_trans hlt (b1 w hw)
    rw [mrg, if_pos hlt, List.mem_cons, ih a2 hb]
    unfold Mn
    constructor
    · rintro (rfl | ⟨h1, h2⟩)
      · refine ⟨.inl (List.mem_cons_self ..), fun w hw hk => ?_⟩
        rcases hw with hw | hw
        · rcases List.mem_cons.1 hw with rfl | hw
          · exact ltRest_irrefl _
          · exact absurd hk.symm (ltKey_ne (hx w (.inl hw)))
        · exact absurd hk.symm (ltKey_ne (hx w (.inr hw)))
      · refine ⟨h1.imp_left (List.mem_cons_of_mem _), fun w hw hk => ?_⟩
        rcases hw with hw | hw
        · rcases List.mem_cons.1 hw with rfl | hw
          · exact absurd hk (ltKey_ne (hx z h1))
          · exact h2 w (.inl hw) hk
        · exact h2 w (.inr hw) hk
    · rintro ⟨h1, h2⟩
      rcases h1 with h1 | h1
      · rcases List.mem_cons.1 h1 with rfl | h1
        · exact .inl rfl
        · exact .inr ⟨.inl h1, fun w hw => h2 w (hw.imp_left (List.mem_cons_of_mem _))⟩
      · exact .inr ⟨.inr h1, fun w hw => h2 w (hw.imp_left (List.mem_cons_of_mem _))⟩
  | case4 x a y b hlt hgt ih =>
    obtain ⟨a1, a2⟩ := List.pairwise_cons.1 ha
    obtain ⟨b1, b2⟩ := List.pairwise_cons.1 hb
    have hx : ∀ w, (w ∈ x :: a ∨ w ∈ b) → ltKey y w = true := fun w hw => by
      rcases hw with hw | hw
      · rcases List.mem_cons.1 hw with rfl | hw
        · exact hgt
        · exact ltKey_trans hgt (a1 w hw)
      · exact b1 w hw
    rw [mrg, if_neg hlt, if_pos hgt, List.mem_cons, ih ha b2]
    unfold Mn
    constructor
    · rintro (rfl | ⟨h1, h2⟩)
      · refine ⟨.inr (List.mem_cons_self ..), fun w hw hk => ?_⟩
        rcases hw with hw | hw
        · exact absurd hk.symm (ltKey_ne (hx w (.inl hw)))
        · rcases List.mem_cons.1 hw with rfl | hw
          · exact ltRest_irrefl _
          · exact absurd hk.symm (ltKey_ne (hx w (.inr hw)))
      · refine ⟨h1.imp_right (List.mem_cons_of_mem _), fun w hw hk => ?_⟩
        rcases hw with hw | hw
        · exact h2 w (.inl hw) hk
        · rcases List.mem_cons.1 hw with rfl | hw
          · exact absurd hk (ltKey_ne (hx z h1))
          · exact h2 w (.inr hw) hk
    · rintro ⟨h1, h2⟩
      rcases h1 with h1 | h1
      · exact .inr ⟨.inl h1, fun w hw => h2 w (hw.imp_right (List.mem_cons_of_mem _))⟩
      · rcases List.mem_cons.1 h1 with rfl | h1
        · exact .inl rfl
        · exact .inr ⟨.inr h1, fun w hw => h2 w (hw.imp_right (List.mem_cons_of_mem _))⟩
  | case5 x a y b hlt hgt hr ih =>
    obtain ⟨a1, a2⟩ := List.pairwise_cons.1 ha
    obtain ⟨b1, b2⟩ := List.pairwise_cons.1 hb
    have hk := ltKey_tri (by simpa using hlt) (by simpa using hgt)
    have hx : ∀ w, (w ∈ a ∨ w ∈ b) → keyI x ≠ keyI w := fun w hw => by
      rcases hw with hw | hw
      · exact ltKey_ne (a1 w hw)
      · rw [hk]; exact ltKey_ne (b1 w hw)
    rw [mrg, if_neg hlt, if_neg hgt, if_pos hr, List.mem_cons, ih a2 b2]
    unfold Mn
    constructor
    · rintro (rfl | ⟨h1, h2⟩)
      · refine ⟨.inr (List.mem_cons_self ..), fun w hw hk' => ?_⟩
        rcases hw with hw | hw <;> rcases List.mem_cons.1 hw with rfl | hw
        · exact ltRest_asymm hr
        · exact absurd (hk.trans hk'.symm) (hx w (.inl hw))
        · exact ltRest_irrefl _
        · exact absurd (hk.trans hk'.symm) (hx w (.inr hw))
      · refine ⟨h1.imp (List.mem_cons_of_mem _) (List.mem_cons_of_mem _), fun w hw hk' => ?_⟩
        rcases hw with hw | hw <;> rcases List.mem_cons.1 hw with rfl | hw
        · exact absurd hk' (hx z h1)
        · exact h2 w (.inl hw) hk'
        · exact absurd (hk.trans hk') (hx z h1)
        · exact h2 w (.inr hw) hk'
    · rintro ⟨h1, h2⟩
      have hall : ∀ w, (w ∈ a ∨ w ∈ b) → keyI w = keyI z → ltRest w z = false := fun w hw => h2 w (hw.imp (List.mem_cons_of_mem _) (List.mem_cons_of_mem _))
      rcases h1 with h1 | h1 <;> rcases List.mem_cons.1 h1 with rfl | h1
      · have := h2 y (.inr (List.mem_cons_self ..)) hk.symm
        rw [hr] at this; cases this
      · exact .inr ⟨.inl h1, hall⟩
      · exact .inl rfl
      · exact .inr ⟨.inr h1, hall⟩
  | case6 x a y b hlt hgt hr ih =>
    obtain ⟨a1, a2⟩ := List.pairwise_cons.1 ha
    obtain ⟨b1, b2⟩ := List.pairwise_cons.1 hb
    have hk := ltKey_tri (by simpa using hlt) (by simpa using hgt)
    have hr' : ltRest y x = false := by simpa using hr
    have hx : ∀ w, (w ∈ a ∨ w ∈ b) → keyI x ≠ keyI w := fun w hw => by
      rcases hw with hw | hw
      · exact ltKey_ne (a1 w hw)
      · rw [hk]; exact ltKey_ne (b1 w hw)
    rw [mrg, if_neg hlt, if_neg hgt, if_neg hr, List.mem_cons, ih a2 b2]
    unfold Mn
    constructor
    · rintro (rfl | ⟨h1, h2⟩)
      · refine ⟨.inl (List.mem_cons_self ..), fun w hw hk' => ?_⟩
        rcases hw with hw | hw <;> rcases List.mem_cons.1 hw with rfl | hw
        · exact ltRest_irrefl _
        · exact absurd hk'.symm (hx w (.inl hw))
        · exact hr'
        · exact absurd hk'.symm (hx w (.inr hw))
      · refine ⟨h1.imp (List.mem_cons_of_mem _) (List.mem_cons_of_mem _), fun w hw hk' => ?_⟩
        rcases hw with hw | hw <;> rcases List.mem_cons.1 hw with rfl | hw
        · exact absurd hk' (hx z h1)
        · exact h2 w (.inl hw) hk'
        · exact absurd (hk.trans hk') (hx z h1)
        · exact h2 w (.inr hw) hk'
    · rintro ⟨h1, h2⟩
      have hall : ∀ w, (w ∈ a ∨ w ∈ b) → keyI w = keyI z → ltRest w z = false := fun w hw => h2 w (hw.imp (List.mem_cons_of_mem _) (List.mem_cons_of_mem _))
      rcases h1 with h1 | h1 <;> rcases List.mem_cons.1 h1 with rfl | h1
      · exact .inl rfl
      · exact .inr ⟨.inl h1, hall⟩
      · have h3 := h2 x (.inl (List.mem_cons_self ..)) hk
        exact .inl (en_same hk.symm hr' h3)
      · exact .inr ⟨.inr h1, hall⟩

theorem SK_mrg {a b : List En} (ha : SK a) (hb : SK b) : SK (mrg a b) := by
  induction a, b using mrg.induct with
  | case1 b => unfold mrg; exact hb
  | case2 x a => unfold mrg; exact ha
  | case3 x a y b hlt ih =>
    obtain ⟨a1, a2⟩ := List.pairwise_cons.1 ha
    obtain ⟨b1, b2⟩ := List.pairwise_cons.1 hb
    rw [mrg, if_pos hlt]
    refine List.pairwise_cons.2 ⟨fun w hw => ?_, ih a2 hb⟩
    rcases ((mem_mrg a2 hb w).1 hw).1 with hw | hw
    · exact a1 w hw
    · rcases List.mem_cons.1 hw with rfl | hw
      · exact hlt
      · exact ltKey_trans hlt (b1 w hw)
  | case4 x a y b hlt hgt ih =>
    obtain ⟨a1, a2⟩ := List.pairwise_cons.1 ha
    obtain ⟨b1, b2⟩ := List.pairwise_cons.1 hb
    rw [mrg, if_neg hlt, if_pos hgt]
    refine List.pairwise_cons.2 ⟨fun w hw => ?_, ih ha b2⟩
    rcases ((mem_mrg ha b2 w).1 hw).1 with hw | hw
    · rcases List.mem_cons.1 hw with rfl | hw
      · exact hgt
      · exact ltKey_trans hgt (a1 w hw)
    · exact b1 w hw
  | case5 x a y b hlt hgt hr ih =>
    obtain ⟨a1, a2⟩ := List.pairwise_cons.1 ha
    obtain ⟨b1, b2⟩ := List.pairwise_cons.1 hb
    have hk := ltKey_tri (by simpa using hlt) (by simpa using hgt)
    rw [mrg, if_neg hlt, if_neg hgt, if_pos hr]
    refine List.pairwise_cons.2 ⟨fun w hw => ?_, ih a2 b2⟩
    rcases ((mem_mrg a2 b2 w).1 hw).1 with hw | hw
    · rw [← ltKey_congr hk]; exact a1 w hw
    · exact b1 w hw
  | case6 x a y b hlt hgt hr ih =>
    obtain ⟨a1, a2⟩ := List.pairwise_cons.1 ha
    obtain ⟨b1, b2⟩ := List.pairwise_cons.1 hb
    have hk := ltKey_tri (by simpa using hlt) (by simpa using hgt)
    rw [mrg, if_neg hlt, if_neg hgt, if_neg hr]
    refine List.pairwise_cons.2 ⟨fun w hw => ?_, ih a2 b2⟩
    rcases ((mem_mrg a2 b2 w).1 hw).1 with hw | hw
    · exact a1 w hw
    · rw [ltKey_congr hk]; exact b1 w hw

/-! ### the map, as a list of entries -/
def EM (l : List En) : MpT := l.map fun x => (keyI x, valI x)
def putE : List En → En → List En
  | [], x => [x]
  | y :: l, x => if keyI x = keyI y then x :: l else y :: putE l x
def getE : List En → En → Option En
  | [], _ => none
  | y :: l, x => if keyI x = keyI y then some y else getE l x
theorem putM_EM : ∀ (l : List En) (x : En), putM (EM l) (keyI x) (valI x) = EM (putE l x)
  | [], x => rfl
  | y :: l, x => by
    have ih := putM_EM l x
    show (if keyI x = keyI y then (keyI x, valI x) :: EM l else (keyI y, valI y) :: putM (EM l) (keyI x) (valI x)) = EM (putE (y :: l) x)
    unfold putE
    split
    · rfl
    · rw [ih]; rfl
theorem getM_EM : ∀ (l : List En) (x : En), getM (EM l) (keyI x) = (getE l x).map valI
  | [], x => rfl
  | y :: l, x => by
    have ih := getM_EM l x
    show (if keyI x = keyI y then some (valI y) else getM (EM l) (keyI x)) = (getE (y :: l) x).map valI
    unfold getE
    split
    · rfl
    · exact ih
theorem getE_none : ∀ {l : List En} {x : En}, getE l x = none ↔ ∀ y ∈ l, keyI x ≠ keyI y
  | [], x => by simp [getE]
  | y :: l, x => by
    unfold getE
    split
    · rename_i h; simp [h]
    · rename_i h; rw [getE_none (l := l)]; simp only [List.mem_cons, forall_eq_or_imp]; exact ⟨fun h2 => ⟨h, h2⟩, fun h2 => h2.2⟩
theorem getE_some : ∀ {l : List En} {x y : En}, getE l x = some y → y ∈ l ∧ keyI x = keyI y
  | z :: l, x, y, h => by
    unfold getE at h
    split at h
    · rename_i e; cases h; exact ⟨List.mem_cons_self .., e⟩
    · have := getE_some h; exact ⟨List.mem_cons_of_mem _ this.1, this.2⟩
theorem putE_none : ∀ {l : List En} {x : En}, getE l x = none → putE l x = l ++ [x]
  | [], x, h => rfl
  | y :: l, x, h => by
    unfold getE at h
    split at h
    · cases h
    · rename_i e
      unfold putE
      rw [if_neg e, putE_none h]; rfl
/-- Keys that are all different. -/
def DK (l : List En) : Prop := l.Pairwise fun x y => keyI x ≠ keyI y
theorem SK.dk {l : List En} (h : SK l) : DK l := h.imp fun h => ltKey_ne h
theorem mem_putE : ∀ {l : List En} {x z : En}, DK l → (z ∈ putE l x ↔ z = x ∨ (z ∈ l ∧ keyI x ≠ keyI z))
  | [], x, z, _ => by simp [putE]
  | y :: l, x, z, h => by
    obtain ⟨h1, h2⟩ := List.pairwise_cons.1 h
    unfold putE
    split
    · rename_i e
      simp only [List.mem_cons]
      constructor
      · rintro (rfl | hz)
        · exact .inl rfl
        · exact .inr ⟨.inr hz, by rw [e]; exact h1 z hz⟩
      · rintro (rfl | ⟨rfl | hz, hk⟩)
        · exact .inl rfl
        · exact absurd e hk
        · exact .inr hz
    · rename_i e
      simp only [List.mem_cons, mem_putE h2]
      constructor
      · rintro (rfl | rfl | ⟨hz, hk⟩)
        · exact .inr ⟨.inl rfl, e⟩
        · exact .inl rfl
        · exact .inr ⟨.inr hz, hk⟩
      · rintro (rfl | ⟨rfl | hz, hk⟩)
        · exact .inr (.inl rfl)
        · exact .inl rfl
        · exact .inr (.inr ⟨hz, hk⟩)
theorem DK_putE : ∀ {l : List En} {x : En}, DK l → DK (putE l x)
  | [], x, _ => by simp [putE, DK]
  | y :: l, x, h => by
    obtain ⟨h1, h2⟩ := List.pairwise_cons.1 h
    unfold putE
    split
    · rename_i e
      exact List.pairwise_cons.2 ⟨fun z hz => by rw [e]; exact h1 z hz, h2⟩
    · rename_i e
      refine List.pairwise_cons.2 ⟨fun z hz => ?_, DK_putE h2⟩
      rcases (mem_putE h2).1 hz with rfl | ⟨hz, _⟩
      · exact fun e' => e e'.symm
      · exact h1 z hz
theorem putE_len : ∀ (l : List En) (x : En), (putE l x).length ≤ l.length + 1
  | [], x => by simp [putE]
  | y :: l, x => by
    unfold putE
    split
    · simp
    · have := putE_len l x; simp; omega

def stepE (l : List En) (x : En) : List En := match getE l x with
  | none => putE l x
  | some y => if ltRest x y then putE l x else l
def mI (a b : List En) : Nat → List En
  | 0 => a
  | i + 1 => stepE (mI a b i) (nth b i)
theorem mI_len (a b : List En) : ∀ i, (mI a b i).length ≤ a.length + i
  | 0 => Nat.le_refl _
  | i + 1 => by
    have := mI_len a b i
    have h2 := putE_len (mI a b i) (nth b i)
    unfold mI stepE
    split
    · omega
    · split <;> omega

theorem knownI_EM {a : List En} (h : SK a) : ∀ i, i ≤ a.length → knownI a i = EM (a.take i)
  | 0, _ => rfl
  | i + 1, hi => by
    unfold knownI
    rw [knownI_EM h i (by omega), putM_EM]
    have hn : getE (a.take i) (nth a i) = none := getE_none.2 fun y hy => by
      obtain ⟨j, hj, e⟩ := mem_nth hy
      have hj' : j < i := by rw [List.length_take] at hj; omega
      have : y = a[j]'(by omega) := by rw [← e, nth_get hj, List.getElem_take]
      subst this
      rw [nth_get (by omega)]
      have := List.pairwise_iff_getElem.1 h j i (by omega) (by omega) hj'
      exact fun e => ltKey_ne this e.symm
    rw [putE_none hn, List.take_add_one]
    congr 1
    rw [nth, List.getElem?_eq_getElem (by omega)]; rfl

theorem mI_spec {a b : List En} (ha : SK a) (hb : SK b) : ∀ i, i ≤ b.length → DK (mI a b i) ∧ ∀ z, z ∈ mI a b i ↔ Mn a (b.take i) z
  | 0, _ => ⟨ha.dk, fun z => by
    unfold mI Mn
    simp only [List.take_zero, List.not_mem_nil, or_false]
    exact ⟨fun h => ⟨h, fun y hy hk => by have := ha.uniq hy h hk; subst this; exact ltRest_irrefl _⟩, fun h => h.1⟩⟩
  | i + 1, hi => by
    obtain ⟨h1, h2⟩ := mI_spec ha hb i (by omega)
    have htk : b.take (i + 1) = b.take i ++ [nth b i] := by
      rw [List.take_add_one, nth, List.getElem?_eq_getElem (by omega)]; rfl
    have hnew : ∀ y, y ∈ b.take i → keyI y ≠ keyI (nth b i) := fun y hy => by
      obtain ⟨j, hj, e⟩ := mem_nth hy
      have hj' : j < i := by rw [List.length_take] at hj; omega
      have : y = b[j]'(by omega) := by rw [← e, nth_get hj, List.getElem_take]
      subst this
      rw [nth_get (by omega)]
      exact ltKey_ne (List.pairwise_iff_getElem.1 hb j i (by omega) (by omega) hj')
    have hin : ∀ y, y ∈ a → keyI y = keyI (nth b i) → y ∈ mI a b i := fun y hy hk => by
      rw [h2]
      refine ⟨.inl hy, fun w hw hk' => ?_⟩
      rcases hw with hw | hw
      · have := ha.uniq hw hy hk'; subst this; exact ltRest_irrefl _
      · exact absurd (hk'.trans hk) (hnew w hw)
    rw [htk]
    generalize hx : nth b i = x at *
    unfold mI
    rw [hx]
    unfold stepE
    cases hg : getE (mI a b i) x with
    | none =>
      have hg' := getE_none.1 hg
      refine ⟨DK_putE h1, fun z => ?_⟩
      rw [mem_putE h1, h2]
      have hna : ∀ y, (y ∈ a ∨ y ∈ b.take i) → keyI y ≠ keyI x := fun y hy hk => by
        rcases hy with hy | hy
        · exact hg' y (hin y hy hk) hk.symm
        · exact hnew y hy hk
      unfold Mn
      simp only [List.mem_append, List.mem_singleton]
      constructor
      · rintro (rfl | ⟨⟨h3, h4⟩, h5⟩)
        · refine ⟨.inr (.inr rfl), fun y hy hk => ?_⟩
          rcases hy with hy | hy | rfl
          · exact absurd hk (hna y (.inl hy))
          · exact absurd hk (hna y (.inr hy))
          · exact ltRest_irrefl _
        · refine ⟨h3.imp_right .inl, fun y hy hk => ?_⟩
          rcases hy with hy | hy | rfl
          · exact h4 y (.inl hy) hk
          · exact h4 y (.inr hy) hk
          · exact absurd hk h5
      · rintro ⟨h3, h4⟩
        by_cases e : z = x
        · exact .inl e
        · have h3' : z ∈ a ∨ z ∈ b.take i := by
            rcases h3 with h | h | h
            · exact .inl h
            · exact .inr h
            · exact absurd h e
          exact .inr ⟨⟨h3', fun y hy => h4 y (hy.imp_right .inl)⟩, fun hk => hna z h3' hk.symm⟩
    | some y =>
      obtain ⟨hy, hyk⟩ := getE_some hg
      have hya : y ∈ a := by
        rcases ((h2 y).1 hy).1 with h | h
        · exact h
        · exact absurd hyk.symm (hnew y h)
      have hcl : ∀ w, (w ∈ a ∨ w ∈ b.take i) → keyI w = keyI x → w = y := fun w hw hk => by
        rcases hw with hw | hw
        · exact ha.uniq hw hya (hk.trans hyk)
        · exact absurd hk (hnew w hw)
      simp only
      split
      · rename_i hr
        refine ⟨DK_putE h1, fun z => ?_⟩
        rw [mem_putE h1, h2]
        unfold Mn
        simp only [List.mem_append, List.mem_singleton]
        constructor
        · rintro (rfl | ⟨⟨h3, h4⟩, h5⟩)
          · refine ⟨.inr (.inr rfl), fun w hw hk => ?_⟩
            rcases hw with hw | hw | rfl
            · rw [hcl w (.inl hw) hk]; exact ltRest_asymm hr
            · rw [hcl w (.inr hw) hk]; exact ltRest_asymm hr
            · exact ltRest_irrefl _
          · refine ⟨h3.imp_right .inl, fun w hw hk => ?_⟩
            rcases hw with hw | hw | rfl
            · exact h4 w (.inl hw) hk
            · exact h4 w (.inr hw) hk
            · exact absurd hk h5
        · rintro ⟨h3, h4⟩
          by_cases e : z = x
          · exact .inl e
          · have h3' : z ∈ a ∨ z ∈ b.take i := by
              rcases h3 with h | h | h
              · exact .inl h
              · exact .inr h
              · exact absurd h e
            refine .inr ⟨⟨h3', fun w hw => h4 w (hw.imp_right .inl)⟩, fun hk => ?_⟩
            have := hcl z h3' hk.symm
            subst this
            have := h4 x (.inr (.inr rfl)) hk
            rw [hr] at this; cases this
      · rename_i hr
        have hr' : ltRest x y = false := by simpa using hr
        refine ⟨h1, fun z => ?_⟩
        rw [h2]
        unfold Mn
        simp only [List.mem_append, List.mem_singleton]
        constructor
        · rintro ⟨h3, h4⟩
          refine ⟨h3.imp_right .inl, fun w hw hk => ?_⟩
          rcases hw with hw | hw | rfl
          · exact h4 w (.inl hw) hk
          · exact h4 w (.inr hw) hk
          · rw [hcl z h3 hk.symm]; exact hr'
        · rintro ⟨h3, h4⟩
          refine ⟨?_, fun w hw => h4 w (hw.imp_right .inl)⟩
          rcases h3 with h | h | rfl
          · exact .inl h
          · exact .inr h
          · have := h4 y (.inl hya) hyk.symm
            rw [en_same hyk hr' this]
            exact .inl hya

theorem pairwise_nth {R : En → En → Prop} {l : List En} (h : ∀ i j, i < j → j < l.length → R (nth l i) (nth l j)) : l.Pairwise R := by
  rw [List.pairwise_iff_getElem]
  intro i j hi hj hij
  have := h i j hij hj
  rwa [nth_get hi, nth_get hj] at this

/-- Sorted by keys that are all different: strictly ascending. -/
theorem sortE_SK {l : List En} (h : DK l) : SK (sortE cmpKey l) := by
  obtain ⟨hp, hs⟩ := sortE_spec swoKey l
  have hd : DK (sortE cmpKey l) := hp.symm.pairwise h fun h => fun e => h e.symm
  refine pairwise_nth fun i j hij hj => ?_
  have h1 := hs i j hij (by rw [← hp.length_eq]; exact hj)
  have h2 : keyI (nth (sortE cmpKey l) i) ≠ keyI (nth (sortE cmpKey l) j) := by
    rw [nth_get hj, nth_get (by omega)]
    exact List.pairwise_iff_getElem.1 hd i j (by omega) hj hij
  cases h3 : ltKey (nth (sortE cmpKey l) i) (nth (sortE cmpKey l) j) with
  | true => rfl
  | false => exact absurd (ltKey_tri h3 h1) h2

theorem sort_mrg {a b l : List En} (ha : SK a) (hb : SK b) (hd : DK l) (hm : ∀ z, z ∈ l ↔ z ∈ mI a b b.length) : sortE cmpKey l = mrg a b := by
  refine SK.ext (sortE_SK hd) (SK_mrg ha hb) fun z => ?_
  rw [mem_mrg ha hb, (sortE_spec swoKey l).1.mem_iff, hm, (mI_spec ha hb b.length (Nat.le_refl _)).2, List.take_length]

end Go.AI

