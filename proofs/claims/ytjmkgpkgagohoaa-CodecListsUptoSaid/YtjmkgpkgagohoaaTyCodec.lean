/-
  Facts on the sizes of the types of this seat's translation, written by program.
-/
import Derived.Test.YtjmkgpkgagohoaaProg
import Derived.Test.YtjmkgpkgagohoaaDk3
import Derived.KernelRfl
set_option linter.all false
namespace Go.Proofs.Ytjmkgpkgagohoaa
open Go Go.Dk
theorem mixed : Try.prog.follows .mixedOrders = true := by kernel_rfl
theorem tySize0 : tySize Try.prog 0 = some 1 := by unfold tySize; rw [show Try.prog.info? 0 = some Try.t0 from Try.type0]; rfl
theorem tyBytes0 : tyBytes Try.prog 0 = some 0 := by unfold tyBytes; rw [show Try.prog.info? 0 = some Try.t0 from Try.type0]; rfl
theorem tyAgg0 : tyAgg Try.prog 0 = some false := by unfold tyAgg; rw [Try.underlying0]
theorem tySize1 : tySize Try.prog 1 = some 1 := by unfold tySize; rw [show Try.prog.info? 1 = some Try.t1 from Try.type1]; rfl
theorem tyBytes1 : tyBytes Try.prog 1 = some 8 := by unfold tyBytes; rw [show Try.prog.info? 1 = some Try.t1 from Try.type1]; rfl
theorem tyZero1 : tyZero Try.prog 1 = some [.nilFunc] := by unfold tyZero; rw [show Try.prog.info? 1 = some Try.t1 from Try.type1]; rfl
theorem tyAgg1 : tyAgg Try.prog 1 = some false := by unfold tyAgg; rw [Try.underlying1]
theorem tySize2 : tySize Try.prog 2 = some 1 := by unfold tySize; rw [show Try.prog.info? 2 = some Try.t2 from Try.type2]; rfl
theorem tyBytes2 : tyBytes Try.prog 2 = some 8 := by unfold tyBytes; rw [show Try.prog.info? 2 = some Try.t2 from Try.type2]; rfl
theorem tyZero2 : tyZero Try.prog 2 = some [(.int .i64 0)] := by unfold tyZero; rw [show Try.prog.info? 2 = some Try.t2 from Try.type2]; rfl
theorem tyAgg2 : tyAgg Try.prog 2 = some false := by unfold tyAgg; rw [Try.underlying2]
theorem tySize3 : tySize Try.prog 3 = some 1 := by unfold tySize; rw [show Try.prog.info? 3 = some Try.t3 from Try.type3]; rfl
theorem tyBytes3 : tyBytes Try.prog 3 = some 8 := by unfold tyBytes; rw [show Try.prog.info? 3 = some Try.t3 from Try.type3]; rfl
theorem tyZero3 : tyZero Try.prog 3 = some [(.int .i64 0)] := by unfold tyZero; rw [show Try.prog.info? 3 = some Try.t3 from Try.type3]; rfl
theorem tyAgg3 : tyAgg Try.prog 3 = some false := by unfold tyAgg; rw [Try.underlying3]
theorem tySize4 : tySize Try.prog 4 = some 1 := by unfold tySize; rw [show Try.prog.info? 4 = some Try.t4 from Try.type4]; rfl
theorem tyBytes4 : tyBytes Try.prog 4 = some 1 := by unfold tyBytes; rw [show Try.prog.info? 4 = some Try.t4 from Try.type4]; rfl
theorem tyZero4 : tyZero Try.prog 4 = some [(.bool false)] := by unfold tyZero; rw [show Try.prog.info? 4 = some Try.t4 from Try.type4]; rfl
theorem tyAgg4 : tyAgg Try.prog 4 = some false := by unfold tyAgg; rw [Try.underlying4]
theorem tySize5 : tySize Try.prog 5 = some 1 := by unfold tySize; rw [show Try.prog.info? 5 = some Try.t5 from Try.type5]; rfl
theorem tyBytes5 : tyBytes Try.prog 5 = some 1 := by unfold tyBytes; rw [show Try.prog.info? 5 = some Try.t5 from Try.type5]; rfl
theorem tyZero5 : tyZero Try.prog 5 = some [(.int .u8 0)] := by unfold tyZero; rw [show Try.prog.info? 5 = some Try.t5 from Try.type5]; rfl
theorem tyAgg5 : tyAgg Try.prog 5 = some false := by unfold tyAgg; rw [Try.underlying5]
theorem tySize6 : tySize Try.prog 6 = some 1 := by unfold tySize; rw [show Try.prog.info? 6 = some Try.t6 from Try.type6]; rfl
theorem tyBytes6 : tyBytes Try.prog 6 = some 1 := by unfold tyBytes; rw [show Try.prog.info? 6 = some Try.t6 from Try.type6]; rfl
theorem tyZero6 : tyZero Try.prog 6 = some [(.int .u8 0)] := by unfold tyZero; rw [show Try.prog.info? 6 = some Try.t6 from Try.type6]; rfl
theorem tyAgg6 : tyAgg Try.prog 6 = some false := by unfold tyAgg; rw [Try.underlying6]
theorem tySize7 : tySize Try.prog 7 = some 4 := by unfold tySize; rw [show Try.prog.info? 7 = some Try.t7 from Try.type7]; rfl
theorem tyBytes7 : tyBytes Try.prog 7 = some 24 := by unfold tyBytes; rw [show Try.prog.info? 7 = some Try.t7 from Try.type7]; rfl
theorem tyZero7 : tyZero Try.prog 7 = some [(.int .i64 0), (.int .i64 0), (.bool false), (.int .u8 0)] := by unfold tyZero; rw [show Try.prog.info? 7 = some Try.t7 from Try.type7]; rfl
theorem tyAgg7 : tyAgg Try.prog 7 = some true := by unfold tyAgg; rw [Try.underlying7]
theorem tySize8 : tySize Try.prog 8 = some 4 := by unfold tySize; rw [show Try.prog.info? 8 = some Try.t8 from Try.type8]; rfl
theorem tyBytes8 : tyBytes Try.prog 8 = some 24 := by unfold tyBytes; rw [show Try.prog.info? 8 = some Try.t8 from Try.type8]; rfl
theorem tyZero8 : tyZero Try.prog 8 = some [(.int .i64 0), (.int .i64 0), (.bool false), (.int .u8 0)] := by unfold tyZero; rw [show Try.prog.info? 8 = some Try.t8 from Try.type8]; rfl
theorem tyAgg8 : tyAgg Try.prog 8 = some true := by unfold tyAgg; rw [Try.underlying8]
theorem tySize9 : tySize Try.prog 9 = some 1 := by unfold tySize; rw [show Try.prog.info? 9 = some Try.t9 from Try.type9]; rfl
theorem tyBytes9 : tyBytes Try.prog 9 = some 16 := by unfold tyBytes; rw [show Try.prog.info? 9 = some Try.t9 from Try.type9]; rfl
theorem tyZero9 : tyZero Try.prog 9 = some [(.string (mkS []))] := by unfold tyZero; rw [show Try.prog.info? 9 = some Try.t9 from Try.type9]; rfl
theorem tyAgg9 : tyAgg Try.prog 9 = some false := by unfold tyAgg; rw [Try.underlying9]
theorem tySize10 : tySize Try.prog 10 = some 1 := by unfold tySize; rw [show Try.prog.info? 10 = some Try.t10 from Try.type10]; rfl
theorem tyBytes10 : tyBytes Try.prog 10 = some 16 := by unfold tyBytes; rw [show Try.prog.info? 10 = some Try.t10 from Try.type10]; rfl
theorem tyZero10 : tyZero Try.prog 10 = some [(.string (mkS []))] := by unfold tyZero; rw [show Try.prog.info? 10 = some Try.t10 from Try.type10]; rfl
theorem tyAgg10 : tyAgg Try.prog 10 = some false := by unfold tyAgg; rw [Try.underlying10]
theorem tySize11 : tySize Try.prog 11 = some 1 := by unfold tySize; rw [show Try.prog.info? 11 = some Try.t11 from Try.type11]; rfl
theorem tyBytes11 : tyBytes Try.prog 11 = some 16 := by unfold tyBytes; rw [show Try.prog.info? 11 = some Try.t11 from Try.type11]; rfl
theorem tyZero11 : tyZero Try.prog 11 = some [(.string (mkS []))] := by unfold tyZero; rw [show Try.prog.info? 11 = some Try.t11 from Try.type11]; rfl
theorem tyAgg11 : tyAgg Try.prog 11 = some false := by unfold tyAgg; rw [Try.underlying11]
theorem tySize12 : tySize Try.prog 12 = some 1 := by unfold tySize; rw [show Try.prog.info? 12 = some Try.t12 from Try.type12]; rfl
theorem tyBytes12 : tyBytes Try.prog 12 = some 8 := by unfold tyBytes; rw [show Try.prog.info? 12 = some Try.t12 from Try.type12]; rfl
theorem tyZero12 : tyZero Try.prog 12 = some [(.int .u64 0)] := by unfold tyZero; rw [show Try.prog.info? 12 = some Try.t12 from Try.type12]; rfl
theorem tyAgg12 : tyAgg Try.prog 12 = some false := by unfold tyAgg; rw [Try.underlying12]
theorem tySize13 : tySize Try.prog 13 = some 2 := by unfold tySize; rw [show Try.prog.info? 13 = some Try.t13 from Try.type13]; rfl
theorem tyBytes13 : tyBytes Try.prog 13 = some 24 := by unfold tyBytes; rw [show Try.prog.info? 13 = some Try.t13 from Try.type13]; rfl
theorem tyZero13 : tyZero Try.prog 13 = some [(.string (mkS [])), (.int .u64 0)] := by unfold tyZero; rw [show Try.prog.info? 13 = some Try.t13 from Try.type13]; rfl
theorem tyAgg13 : tyAgg Try.prog 13 = some true := by unfold tyAgg; rw [Try.underlying13]
theorem tySize14 : tySize Try.prog 14 = some 2 := by unfold tySize; rw [show Try.prog.info? 14 = some Try.t14 from Try.type14]; rfl
theorem tyBytes14 : tyBytes Try.prog 14 = some 24 := by unfold tyBytes; rw [show Try.prog.info? 14 = some Try.t14 from Try.type14]; rfl
theorem tyZero14 : tyZero Try.prog 14 = some [(.string (mkS [])), (.int .u64 0)] := by unfold tyZero; rw [show Try.prog.info? 14 = some Try.t14 from Try.type14]; rfl
theorem tyAgg14 : tyAgg Try.prog 14 = some true := by unfold tyAgg; rw [Try.underlying14]
theorem tySize15 : tySize Try.prog 15 = some 1 := by unfold tySize; rw [show Try.prog.info? 15 = some Try.t15 from Try.type15]; rfl
theorem tyBytes15 : tyBytes Try.prog 15 = some 8 := by unfold tyBytes; rw [show Try.prog.info? 15 = some Try.t15 from Try.type15]; rfl
theorem tyZero15 : tyZero Try.prog 15 = some [(.pointer none)] := by unfold tyZero; rw [show Try.prog.info? 15 = some Try.t15 from Try.type15]; rfl
theorem tyAgg15 : tyAgg Try.prog 15 = some false := by unfold tyAgg; rw [Try.underlying15]
theorem tySize16 : tySize Try.prog 16 = some 1 := by unfold tySize; rw [show Try.prog.info? 16 = some Try.t16 from Try.type16]; rfl
theorem tyBytes16 : tyBytes Try.prog 16 = some 8 := by unfold tyBytes; rw [show Try.prog.info? 16 = some Try.t16 from Try.type16]; rfl
theorem tyZero16 : tyZero Try.prog 16 = some [(.pointer none)] := by unfold tyZero; rw [show Try.prog.info? 16 = some Try.t16 from Try.type16]; rfl
theorem tyAgg16 : tyAgg Try.prog 16 = some false := by unfold tyAgg; rw [Try.underlying16]
theorem tySize17 : tySize Try.prog 17 = some 1 := by unfold tySize; rw [show Try.prog.info? 17 = some Try.t17 from Try.type17]; rfl
theorem tyBytes17 : tyBytes Try.prog 17 = some 8 := by unfold tyBytes; rw [show Try.prog.info? 17 = some Try.t17 from Try.type17]; rfl
theorem tyZero17 : tyZero Try.prog 17 = some [(.pointer none)] := by unfold tyZero; rw [show Try.prog.info? 17 = some Try.t17 from Try.type17]; rfl
theorem tyAgg17 : tyAgg Try.prog 17 = some false := by unfold tyAgg; rw [Try.underlying17]
theorem tySize18 : tySize Try.prog 18 = some 1 := by unfold tySize; rw [show Try.prog.info? 18 = some Try.t18 from Try.type18]; rfl
theorem tyBytes18 : tyBytes Try.prog 18 = some 8 := by unfold tyBytes; rw [show Try.prog.info? 18 = some Try.t18 from Try.type18]; rfl
theorem tyZero18 : tyZero Try.prog 18 = some [(.pointer none)] := by unfold tyZero; rw [show Try.prog.info? 18 = some Try.t18 from Try.type18]; rfl
theorem tyAgg18 : tyAgg Try.prog 18 = some true := by unfold tyAgg; rw [Try.underlying18]
theorem tySize19 : tySize Try.prog 19 = some 1 := by unfold tySize; rw [show Try.prog.info? 19 = some Try.t19 from Try.type19]; rfl
theorem tyBytes19 : tyBytes Try.prog 19 = some 8 := by unfold tyBytes; rw [show Try.prog.info? 19 = some Try.t19 from Try.type19]; rfl
theorem tyZero19 : tyZero Try.prog 19 = some [(.pointer none)] := by unfold tyZero; rw [show Try.prog.info? 19 = some Try.t19 from Try.type19]; rfl
theorem tyAgg19 : tyAgg Try.prog 19 = some true := by unfold tyAgg; rw [Try.underlying19]
theorem tySize20 : tySize Try.prog 20 = some 1 := by unfold tySize; rw [show Try.prog.info? 20 = some Try.t20 from Try.type20]; rfl
theorem tyBytes20 : tyBytes Try.prog 20 = some 16 := by unfold tyBytes; rw [show Try.prog.info? 20 = some Try.t20 from Try.type20]; rfl
theorem tyZero20 : tyZero Try.prog 20 = some [.nilIface] := by unfold tyZero; rw [show Try.prog.info? 20 = some Try.t20 from Try.type20]; rfl
theorem tyAgg20 : tyAgg Try.prog 20 = some false := by unfold tyAgg; rw [Try.underlying20]
theorem tySize21 : tySize Try.prog 21 = some 1 := by unfold tySize; rw [show Try.prog.info? 21 = some Try.t21 from Try.type21]; rfl
theorem tyBytes21 : tyBytes Try.prog 21 = some 4 := by unfold tyBytes; rw [show Try.prog.info? 21 = some Try.t21 from Try.type21]; rfl
theorem tyZero21 : tyZero Try.prog 21 = some [(.int .i32 0)] := by unfold tyZero; rw [show Try.prog.info? 21 = some Try.t21 from Try.type21]; rfl
theorem tyAgg21 : tyAgg Try.prog 21 = some false := by unfold tyAgg; rw [Try.underlying21]
theorem tySize22 : tySize Try.prog 22 = some 1 := by unfold tySize; rw [show Try.prog.info? 22 = some Try.t22 from Try.type22]; rfl
theorem tyBytes22 : tyBytes Try.prog 22 = some 24 := by unfold tyBytes; rw [show Try.prog.info? 22 = some Try.t22 from Try.type22]; rfl
theorem tyZero22 : tyZero Try.prog 22 = some [(.slice none 0 0)] := by unfold tyZero; rw [show Try.prog.info? 22 = some Try.t22 from Try.type22]; rfl
theorem tyAgg22 : tyAgg Try.prog 22 = some false := by unfold tyAgg; rw [Try.underlying22]
theorem tySize23 : tySize Try.prog 23 = some 1 := by unfold tySize; rw [show Try.prog.info? 23 = some Try.t23 from Try.type23]; rfl
theorem tyBytes23 : tyBytes Try.prog 23 = some 8 := by unfold tyBytes; rw [show Try.prog.info? 23 = some Try.t23 from Try.type23]; rfl
theorem tyZero23 : tyZero Try.prog 23 = some [(.int .u64 0)] := by unfold tyZero; rw [show Try.prog.info? 23 = some Try.t23 from Try.type23]; rfl
theorem tyAgg23 : tyAgg Try.prog 23 = some false := by unfold tyAgg; rw [Try.underlying23]
theorem tySize24 : tySize Try.prog 24 = some 1 := by unfold tySize; rw [show Try.prog.info? 24 = some Try.t24 from Try.type24]; rfl
theorem tyBytes24 : tyBytes Try.prog 24 = some 8 := by unfold tyBytes; rw [show Try.prog.info? 24 = some Try.t24 from Try.type24]; rfl
theorem tyZero24 : tyZero Try.prog 24 = some [(.pointer none)] := by unfold tyZero; rw [show Try.prog.info? 24 = some Try.t24 from Try.type24]; rfl
theorem tyAgg24 : tyAgg Try.prog 24 = some false := by unfold tyAgg; rw [Try.underlying24]
theorem tySize25 : tySize Try.prog 25 = some 1 := by unfold tySize; rw [show Try.prog.info? 25 = some Try.t25 from Try.type25]; rfl
theorem tyBytes25 : tyBytes Try.prog 25 = some 8 := by unfold tyBytes; rw [show Try.prog.info? 25 = some Try.t25 from Try.type25]; rfl
theorem tyZero25 : tyZero Try.prog 25 = some [.nilFunc] := by unfold tyZero; rw [show Try.prog.info? 25 = some Try.t25 from Try.type25]; rfl
theorem tyAgg25 : tyAgg Try.prog 25 = some false := by unfold tyAgg; rw [Try.underlying25]
theorem tySize26 : tySize Try.prog 26 = some 1 := by unfold tySize; rw [show Try.prog.info? 26 = some Try.t26 from Try.type26]; rfl
theorem tyBytes26 : tyBytes Try.prog 26 = some 8 := by unfold tyBytes; rw [show Try.prog.info? 26 = some Try.t26 from Try.type26]; rfl
theorem tyZero26 : tyZero Try.prog 26 = some [(.pointer none)] := by unfold tyZero; rw [show Try.prog.info? 26 = some Try.t26 from Try.type26]; rfl
theorem tyAgg26 : tyAgg Try.prog 26 = some false := by unfold tyAgg; rw [Try.underlying26]
theorem tySize27 : tySize Try.prog 27 = some 1 := by unfold tySize; rw [show Try.prog.info? 27 = some Try.t27 from Try.type27]; rfl
theorem tyBytes27 : tyBytes Try.prog 27 = some 8 := by unfold tyBytes; rw [show Try.prog.info? 27 = some Try.t27 from Try.type27]; rfl
theorem tyZero27 : tyZero Try.prog 27 = some [.nilFunc] := by unfold tyZero; rw [show Try.prog.info? 27 = some Try.t27 from Try.type27]; rfl
theorem tyAgg27 : tyAgg Try.prog 27 = some false := by unfold tyAgg; rw [Try.underlying27]
theorem tySize28 : tySize Try.prog 28 = some 1 := by unfold tySize; rw [show Try.prog.info? 28 = some Try.t28 from Try.type28]; rfl
theorem tyBytes28 : tyBytes Try.prog 28 = some 8 := by unfold tyBytes; rw [show Try.prog.info? 28 = some Try.t28 from Try.type28]; rfl
theorem tyZero28 : tyZero Try.prog 28 = some [.nilFunc] := by unfold tyZero; rw [show Try.prog.info? 28 = some Try.t28 from Try.type28]; rfl
theorem tyAgg28 : tyAgg Try.prog 28 = some false := by unfold tyAgg; rw [Try.underlying28]
theorem tySize29 : tySize Try.prog 29 = some 1 := by unfold tySize; rw [show Try.prog.info? 29 = some Try.t29 from Try.type29]; rfl
theorem tyBytes29 : tyBytes Try.prog 29 = some 8 := by unfold tyBytes; rw [show Try.prog.info? 29 = some Try.t29 from Try.type29]; rfl
theorem tyZero29 : tyZero Try.prog 29 = some [.nilFunc] := by unfold tyZero; rw [show Try.prog.info? 29 = some Try.t29 from Try.type29]; rfl
theorem tyAgg29 : tyAgg Try.prog 29 = some false := by unfold tyAgg; rw [Try.underlying29]
theorem tySize30 : tySize Try.prog 30 = some 1 := by unfold tySize; rw [show Try.prog.info? 30 = some Try.t30 from Try.type30]; rfl
theorem tyBytes30 : tyBytes Try.prog 30 = some 8 := by unfold tyBytes; rw [show Try.prog.info? 30 = some Try.t30 from Try.type30]; rfl
theorem tyZero30 : tyZero Try.prog 30 = some [(.int .i64 0)] := by unfold tyZero; rw [show Try.prog.info? 30 = some Try.t30 from Try.type30]; rfl
theorem tyAgg30 : tyAgg Try.prog 30 = some false := by unfold tyAgg; rw [Try.underlying30]
theorem tySize31 : tySize Try.prog 31 = some 1 := by unfold tySize; rw [show Try.prog.info? 31 = some Try.t31 from Try.type31]; rfl
theorem tyBytes31 : tyBytes Try.prog 31 = some 8 := by unfold tyBytes; rw [show Try.prog.info? 31 = some Try.t31 from Try.type31]; rfl
theorem tyZero31 : tyZero Try.prog 31 = some [.nilFunc] := by unfold tyZero; rw [show Try.prog.info? 31 = some Try.t31 from Try.type31]; rfl
theorem tyAgg31 : tyAgg Try.prog 31 = some false := by unfold tyAgg; rw [Try.underlying31]
theorem tySize32 : tySize Try.prog 32 = some 1 := by unfold tySize; rw [show Try.prog.info? 32 = some Try.t32 from Try.type32]; rfl
theorem tyBytes32 : tyBytes Try.prog 32 = some 8 := by unfold tyBytes; rw [show Try.prog.info? 32 = some Try.t32 from Try.type32]; rfl
theorem tyZero32 : tyZero Try.prog 32 = some [.nilFunc] := by unfold tyZero; rw [show Try.prog.info? 32 = some Try.t32 from Try.type32]; rfl
theorem tyAgg32 : tyAgg Try.prog 32 = some false := by unfold tyAgg; rw [Try.underlying32]
theorem tySize33 : tySize Try.prog 33 = some 1 := by unfold tySize; rw [show Try.prog.info? 33 = some Try.t33 from Try.type33]; rfl
theorem tyBytes33 : tyBytes Try.prog 33 = some 8 := by unfold tyBytes; rw [show Try.prog.info? 33 = some Try.t33 from Try.type33]; rfl
theorem tyZero33 : tyZero Try.prog 33 = some [.nilFunc] := by unfold tyZero; rw [show Try.prog.info? 33 = some Try.t33 from Try.type33]; rfl
theorem tyAgg33 : tyAgg Try.prog 33 = some false := by unfold tyAgg; rw [Try.underlying33]
theorem tySize34 : tySize Try.prog 34 = some 1 := by unfold tySize; rw [show Try.prog.info? 34 = some Try.t34 from Try.type34]; rfl
theorem tyBytes34 : tyBytes Try.prog 34 = some 8 := by unfold tyBytes; rw [show Try.prog.info? 34 = some Try.t34 from Try.type34]; rfl
theorem tyZero34 : tyZero Try.prog 34 = some [.nilFunc] := by unfold tyZero; rw [show Try.prog.info? 34 = some Try.t34 from Try.type34]; rfl
theorem tyAgg34 : tyAgg Try.prog 34 = some false := by unfold tyAgg; rw [Try.underlying34]
theorem tySize35 : tySize Try.prog 35 = some 1 := by unfold tySize; rw [show Try.prog.info? 35 = some Try.t35 from Try.type35]; rfl
theorem tyBytes35 : tyBytes Try.prog 35 = some 8 := by unfold tyBytes; rw [show Try.prog.info? 35 = some Try.t35 from Try.type35]; rfl
theorem tyZero35 : tyZero Try.prog 35 = some [.nilFunc] := by unfold tyZero; rw [show Try.prog.info? 35 = some Try.t35 from Try.type35]; rfl
theorem tyAgg35 : tyAgg Try.prog 35 = some false := by unfold tyAgg; rw [Try.underlying35]
theorem tySize36 : tySize Try.prog 36 = some 1 := by unfold tySize; rw [show Try.prog.info? 36 = some Try.t36 from Try.type36]; rfl
theorem tyBytes36 : tyBytes Try.prog 36 = some 8 := by unfold tyBytes; rw [show Try.prog.info? 36 = some Try.t36 from Try.type36]; rfl
theorem tyZero36 : tyZero Try.prog 36 = some [.nilFunc] := by unfold tyZero; rw [show Try.prog.info? 36 = some Try.t36 from Try.type36]; rfl
theorem tyAgg36 : tyAgg Try.prog 36 = some false := by unfold tyAgg; rw [Try.underlying36]
theorem tySize37 : tySize Try.prog 37 = some 1 := by unfold tySize; rw [show Try.prog.info? 37 = some Try.t37 from Try.type37]; rfl
theorem tyBytes37 : tyBytes Try.prog 37 = some 24 := by unfold tyBytes; rw [show Try.prog.info? 37 = some Try.t37 from Try.type37]; rfl
theorem tyZero37 : tyZero Try.prog 37 = some [(.slice none 0 0)] := by unfold tyZero; rw [show Try.prog.info? 37 = some Try.t37 from Try.type37]; rfl
theorem tyAgg37 : tyAgg Try.prog 37 = some false := by unfold tyAgg; rw [Try.underlying37]
theorem tySize38 : tySize Try.prog 38 = some 4 := by unfold tySize; rw [show Try.prog.info? 38 = some Try.t38 from Try.type38]; rfl
theorem tyBytes38 : tyBytes Try.prog 38 = some 48 := by unfold tyBytes; rw [show Try.prog.info? 38 = some Try.t38 from Try.type38]; rfl
theorem tyZero38 : tyZero Try.prog 38 = some [(.int .i64 0), (.int .u64 0), (.int .u64 0), (.slice none 0 0)] := by unfold tyZero; rw [show Try.prog.info? 38 = some Try.t38 from Try.type38]; rfl
theorem tyAgg38 : tyAgg Try.prog 38 = some true := by unfold tyAgg; rw [Try.underlying38]
theorem tySize39 : tySize Try.prog 39 = some 4 := by unfold tySize; rw [show Try.prog.info? 39 = some Try.t39 from Try.type39]; rfl
theorem tyBytes39 : tyBytes Try.prog 39 = some 48 := by unfold tyBytes; rw [show Try.prog.info? 39 = some Try.t39 from Try.type39]; rfl
theorem tyZero39 : tyZero Try.prog 39 = some [(.int .i64 0), (.int .u64 0), (.int .u64 0), (.slice none 0 0)] := by unfold tyZero; rw [show Try.prog.info? 39 = some Try.t39 from Try.type39]; rfl
theorem tyAgg39 : tyAgg Try.prog 39 = some true := by unfold tyAgg; rw [Try.underlying39]
theorem tySize40 : tySize Try.prog 40 = some 1 := by unfold tySize; rw [show Try.prog.info? 40 = some Try.t40 from Try.type40]; rfl
theorem tyBytes40 : tyBytes Try.prog 40 = some 8 := by unfold tyBytes; rw [show Try.prog.info? 40 = some Try.t40 from Try.type40]; rfl
theorem tyZero40 : tyZero Try.prog 40 = some [.nilFunc] := by unfold tyZero; rw [show Try.prog.info? 40 = some Try.t40 from Try.type40]; rfl
theorem tyAgg40 : tyAgg Try.prog 40 = some false := by unfold tyAgg; rw [Try.underlying40]
theorem tySize41 : tySize Try.prog 41 = some 1 := by unfold tySize; rw [show Try.prog.info? 41 = some Try.t41 from Try.type41]; rfl
theorem tyBytes41 : tyBytes Try.prog 41 = some 8 := by unfold tyBytes; rw [show Try.prog.info? 41 = some Try.t41 from Try.type41]; rfl
theorem tyZero41 : tyZero Try.prog 41 = some [.nilFunc] := by unfold tyZero; rw [show Try.prog.info? 41 = some Try.t41 from Try.type41]; rfl
theorem tyAgg41 : tyAgg Try.prog 41 = some false := by unfold tyAgg; rw [Try.underlying41]
theorem tySize42 : tySize Try.prog 42 = some 1 := by unfold tySize; rw [show Try.prog.info? 42 = some Try.t42 from Try.type42]; rfl
theorem tyBytes42 : tyBytes Try.prog 42 = some 8 := by unfold tyBytes; rw [show Try.prog.info? 42 = some Try.t42 from Try.type42]; rfl
theorem tyZero42 : tyZero Try.prog 42 = some [.nilFunc] := by unfold tyZero; rw [show Try.prog.info? 42 = some Try.t42 from Try.type42]; rfl
theorem tyAgg42 : tyAgg Try.prog 42 = some false := by unfold tyAgg; rw [Try.underlying42]
theorem tySize43 : tySize Try.prog 43 = some 3 := by unfold tySize; rw [show Try.prog.info? 43 = some Try.t43 from Try.type43]; rfl
theorem tyBytes43 : tyBytes Try.prog 43 = some 40 := by unfold tyBytes; rw [show Try.prog.info? 43 = some Try.t43 from Try.type43]; rfl
theorem tyZero43 : tyZero Try.prog 43 = some [(.slice none 0 0), (.int .i64 0), (.int .i64 0)] := by unfold tyZero; rw [show Try.prog.info? 43 = some Try.t43 from Try.type43]; rfl
theorem tyAgg43 : tyAgg Try.prog 43 = some true := by unfold tyAgg; rw [Try.underlying43]
theorem tySize44 : tySize Try.prog 44 = some 3 := by unfold tySize; rw [show Try.prog.info? 44 = some Try.t44 from Try.type44]; rfl
theorem tyBytes44 : tyBytes Try.prog 44 = some 40 := by unfold tyBytes; rw [show Try.prog.info? 44 = some Try.t44 from Try.type44]; rfl
theorem tyZero44 : tyZero Try.prog 44 = some [(.slice none 0 0), (.int .i64 0), (.int .i64 0)] := by unfold tyZero; rw [show Try.prog.info? 44 = some Try.t44 from Try.type44]; rfl
theorem tyAgg44 : tyAgg Try.prog 44 = some true := by unfold tyAgg; rw [Try.underlying44]
theorem tySize45 : tySize Try.prog 45 = some 1 := by unfold tySize; rw [show Try.prog.info? 45 = some Try.t45 from Try.type45]; rfl
theorem tyBytes45 : tyBytes Try.prog 45 = some 0 := by unfold tyBytes; rw [show Try.prog.info? 45 = some Try.t45 from Try.type45]; rfl
theorem tyAgg45 : tyAgg Try.prog 45 = some false := by unfold tyAgg; rw [Try.underlying45]
theorem tySize46 : tySize Try.prog 46 = some 1 := by unfold tySize; rw [show Try.prog.info? 46 = some Try.t46 from Try.type46]; rfl
theorem tyBytes46 : tyBytes Try.prog 46 = some 8 := by unfold tyBytes; rw [show Try.prog.info? 46 = some Try.t46 from Try.type46]; rfl
theorem tyZero46 : tyZero Try.prog 46 = some [.nilFunc] := by unfold tyZero; rw [show Try.prog.info? 46 = some Try.t46 from Try.type46]; rfl
theorem tyAgg46 : tyAgg Try.prog 46 = some false := by unfold tyAgg; rw [Try.underlying46]
theorem tySize47 : tySize Try.prog 47 = some 1 := by unfold tySize; rw [show Try.prog.info? 47 = some Try.t47 from Try.type47]; rfl
theorem tyBytes47 : tyBytes Try.prog 47 = some 8 := by unfold tyBytes; rw [show Try.prog.info? 47 = some Try.t47 from Try.type47]; rfl
theorem tyZero47 : tyZero Try.prog 47 = some [.nilFunc] := by unfold tyZero; rw [show Try.prog.info? 47 = some Try.t47 from Try.type47]; rfl
theorem tyAgg47 : tyAgg Try.prog 47 = some false := by unfold tyAgg; rw [Try.underlying47]
theorem tySize48 : tySize Try.prog 48 = some 1 := by unfold tySize; rw [show Try.prog.info? 48 = some Try.t48 from Try.type48]; rfl
theorem tyBytes48 : tyBytes Try.prog 48 = some 8 := by unfold tyBytes; rw [show Try.prog.info? 48 = some Try.t48 from Try.type48]; rfl
theorem tyZero48 : tyZero Try.prog 48 = some [.nilFunc] := by unfold tyZero; rw [show Try.prog.info? 48 = some Try.t48 from Try.type48]; rfl
theorem tyAgg48 : tyAgg Try.prog 48 = some false := by unfold tyAgg; rw [Try.underlying48]
theorem tySize49 : tySize Try.prog 49 = some 1 := by unfold tySize; rw [show Try.prog.info? 49 = some Try.t49 from Try.type49]; rfl
theorem tyBytes49 : tyBytes Try.prog 49 = some 8 := by unfold tyBytes; rw [show Try.prog.info? 49 = some Try.t49 from Try.type49]; rfl
theorem tyZero49 : tyZero Try.prog 49 = some [.nilFunc] := by unfold tyZero; rw [show Try.prog.info? 49 = some Try.t49 from Try.type49]; rfl
theorem tyAgg49 : tyAgg Try.prog 49 = some false := by unfold tyAgg; rw [Try.underlying49]
theorem tySize50 : tySize Try.prog 50 = some 1 := by unfold tySize; rw [show Try.prog.info? 50 = some Try.t50 from Try.type50]; rfl
theorem tyBytes50 : tyBytes Try.prog 50 = some 8 := by unfold tyBytes; rw [show Try.prog.info? 50 = some Try.t50 from Try.type50]; rfl
theorem tyZero50 : tyZero Try.prog 50 = some [.nilFunc] := by unfold tyZero; rw [show Try.prog.info? 50 = some Try.t50 from Try.type50]; rfl
theorem tyAgg50 : tyAgg Try.prog 50 = some false := by unfold tyAgg; rw [Try.underlying50]
theorem tySize51 : tySize Try.prog 51 = some 1 := by unfold tySize; rw [show Try.prog.info? 51 = some Try.t51 from Try.type51]; rfl
theorem tyBytes51 : tyBytes Try.prog 51 = some 24 := by unfold tyBytes; rw [show Try.prog.info? 51 = some Try.t51 from Try.type51]; rfl
theorem tyZero51 : tyZero Try.prog 51 = some [(.slice none 0 0)] := by unfold tyZero; rw [show Try.prog.info? 51 = some Try.t51 from Try.type51]; rfl
theorem tyAgg51 : tyAgg Try.prog 51 = some false := by unfold tyAgg; rw [Try.underlying51]
theorem tySize52 : tySize Try.prog 52 = some 1 := by unfold tySize; rw [show Try.prog.info? 52 = some Try.t52 from Try.type52]; rfl
theorem tyBytes52 : tyBytes Try.prog 52 = some 8 := by unfold tyBytes; rw [show Try.prog.info? 52 = some Try.t52 from Try.type52]; rfl
theorem tyZero52 : tyZero Try.prog 52 = some [.nilFunc] := by unfold tyZero; rw [show Try.prog.info? 52 = some Try.t52 from Try.type52]; rfl
theorem tyAgg52 : tyAgg Try.prog 52 = some false := by unfold tyAgg; rw [Try.underlying52]
theorem tySize53 : tySize Try.prog 53 = some 1 := by unfold tySize; rw [show Try.prog.info? 53 = some Try.t53 from Try.type53]; rfl
theorem tyBytes53 : tyBytes Try.prog 53 = some 8 := by unfold tyBytes; rw [show Try.prog.info? 53 = some Try.t53 from Try.type53]; rfl
theorem tyZero53 : tyZero Try.prog 53 = some [.nilFunc] := by unfold tyZero; rw [show Try.prog.info? 53 = some Try.t53 from Try.type53]; rfl
theorem tyAgg53 : tyAgg Try.prog 53 = some false := by unfold tyAgg; rw [Try.underlying53]
theorem tySize54 : tySize Try.prog 54 = some 1 := by unfold tySize; rw [show Try.prog.info? 54 = some Try.t54 from Try.type54]; rfl
theorem tyBytes54 : tyBytes Try.prog 54 = some 8 := by unfold tyBytes; rw [show Try.prog.info? 54 = some Try.t54 from Try.type54]; rfl
theorem tyZero54 : tyZero Try.prog 54 = some [.nilFunc] := by unfold tyZero; rw [show Try.prog.info? 54 = some Try.t54 from Try.type54]; rfl
theorem tyAgg54 : tyAgg Try.prog 54 = some false := by unfold tyAgg; rw [Try.underlying54]
theorem tySize55 : tySize Try.prog 55 = some 1 := by unfold tySize; rw [show Try.prog.info? 55 = some Try.t55 from Try.type55]; rfl
theorem tyBytes55 : tyBytes Try.prog 55 = some 8 := by unfold tyBytes; rw [show Try.prog.info? 55 = some Try.t55 from Try.type55]; rfl
theorem tyZero55 : tyZero Try.prog 55 = some [.nilFunc] := by unfold tyZero; rw [show Try.prog.info? 55 = some Try.t55 from Try.type55]; rfl
theorem tyAgg55 : tyAgg Try.prog 55 = some false := by unfold tyAgg; rw [Try.underlying55]
theorem tySize56 : tySize Try.prog 56 = some 1 := by unfold tySize; rw [show Try.prog.info? 56 = some Try.t56 from Try.type56]; rfl
theorem tyBytes56 : tyBytes Try.prog 56 = some 8 := by unfold tyBytes; rw [show Try.prog.info? 56 = some Try.t56 from Try.type56]; rfl
theorem tyZero56 : tyZero Try.prog 56 = some [.nilFunc] := by unfold tyZero; rw [show Try.prog.info? 56 = some Try.t56 from Try.type56]; rfl
theorem tyAgg56 : tyAgg Try.prog 56 = some false := by unfold tyAgg; rw [Try.underlying56]
theorem tySize57 : tySize Try.prog 57 = some 1 := by unfold tySize; rw [show Try.prog.info? 57 = some Try.t57 from Try.type57]; rfl
theorem tyBytes57 : tyBytes Try.prog 57 = some 0 := by unfold tyBytes; rw [show Try.prog.info? 57 = some Try.t57 from Try.type57]; rfl
theorem tyAgg57 : tyAgg Try.prog 57 = some false := by unfold tyAgg; rw [Try.underlying57]
theorem tySize58 : tySize Try.prog 58 = some 1 := by unfold tySize; rw [show Try.prog.info? 58 = some Try.t58 from Try.type58]; rfl
theorem tyBytes58 : tyBytes Try.prog 58 = some 8 := by unfold tyBytes; rw [show Try.prog.info? 58 = some Try.t58 from Try.type58]; rfl
theorem tyZero58 : tyZero Try.prog 58 = some [.nilFunc] := by unfold tyZero; rw [show Try.prog.info? 58 = some Try.t58 from Try.type58]; rfl
theorem tyAgg58 : tyAgg Try.prog 58 = some false := by unfold tyAgg; rw [Try.underlying58]
theorem tySize59 : tySize Try.prog 59 = some 1 := by unfold tySize; rw [show Try.prog.info? 59 = some Try.t59 from Try.type59]; rfl
theorem tyBytes59 : tyBytes Try.prog 59 = some 8 := by unfold tyBytes; rw [show Try.prog.info? 59 = some Try.t59 from Try.type59]; rfl
theorem tyZero59 : tyZero Try.prog 59 = some [.nilFunc] := by unfold tyZero; rw [show Try.prog.info? 59 = some Try.t59 from Try.type59]; rfl
theorem tyAgg59 : tyAgg Try.prog 59 = some false := by unfold tyAgg; rw [Try.underlying59]
theorem tySize60 : tySize Try.prog 60 = some 1 := by unfold tySize; rw [show Try.prog.info? 60 = some Try.t60 from Try.type60]; rfl
theorem tyBytes60 : tyBytes Try.prog 60 = some 8 := by unfold tyBytes; rw [show Try.prog.info? 60 = some Try.t60 from Try.type60]; rfl
theorem tyZero60 : tyZero Try.prog 60 = some [.nilFunc] := by unfold tyZero; rw [show Try.prog.info? 60 = some Try.t60 from Try.type60]; rfl
theorem tyAgg60 : tyAgg Try.prog 60 = some false := by unfold tyAgg; rw [Try.underlying60]
theorem tySize61 : tySize Try.prog 61 = some 1 := by unfold tySize; rw [show Try.prog.info? 61 = some Try.t61 from Try.type61]; rfl
theorem tyBytes61 : tyBytes Try.prog 61 = some 8 := by unfold tyBytes; rw [show Try.prog.info? 61 = some Try.t61 from Try.type61]; rfl
theorem tyZero61 : tyZero Try.prog 61 = some [.nilFunc] := by unfold tyZero; rw [show Try.prog.info? 61 = some Try.t61 from Try.type61]; rfl
theorem tyAgg61 : tyAgg Try.prog 61 = some false := by unfold tyAgg; rw [Try.underlying61]
theorem tySize62 : tySize Try.prog 62 = some 1 := by unfold tySize; rw [show Try.prog.info? 62 = some Try.t62 from Try.type62]; rfl
theorem tyBytes62 : tyBytes Try.prog 62 = some 8 := by unfold tyBytes; rw [show Try.prog.info? 62 = some Try.t62 from Try.type62]; rfl
theorem tyZero62 : tyZero Try.prog 62 = some [.nilFunc] := by unfold tyZero; rw [show Try.prog.info? 62 = some Try.t62 from Try.type62]; rfl
theorem tyAgg62 : tyAgg Try.prog 62 = some false := by unfold tyAgg; rw [Try.underlying62]
theorem tySize63 : tySize Try.prog 63 = some 1 := by unfold tySize; rw [show Try.prog.info? 63 = some Try.t63 from Try.type63]; rfl
theorem tyBytes63 : tyBytes Try.prog 63 = some 8 := by unfold tyBytes; rw [show Try.prog.info? 63 = some Try.t63 from Try.type63]; rfl
theorem tyZero63 : tyZero Try.prog 63 = some [.nilFunc] := by unfold tyZero; rw [show Try.prog.info? 63 = some Try.t63 from Try.type63]; rfl
theorem tyAgg63 : tyAgg Try.prog 63 = some false := by unfold tyAgg; rw [Try.underlying63]
theorem tySize64 : tySize Try.prog 64 = some 1 := by unfold tySize; rw [show Try.prog.info? 64 = some Try.t64 from Try.type64]; rfl
theorem tyBytes64 : tyBytes Try.prog 64 = some 4 := by unfold tyBytes; rw [show Try.prog.info? 64 = some Try.t64 from Try.type64]; rfl
theorem tyZero64 : tyZero Try.prog 64 = some [(.int .u32 0)] := by unfold tyZero; rw [show Try.prog.info? 64 = some Try.t64 from Try.type64]; rfl
theorem tyAgg64 : tyAgg Try.prog 64 = some false := by unfold tyAgg; rw [Try.underlying64]
theorem tySize65 : tySize Try.prog 65 = some 1 := by unfold tySize; rw [show Try.prog.info? 65 = some Try.t65 from Try.type65]; rfl
theorem tyBytes65 : tyBytes Try.prog 65 = some 8 := by unfold tyBytes; rw [show Try.prog.info? 65 = some Try.t65 from Try.type65]; rfl
theorem tyZero65 : tyZero Try.prog 65 = some [.nilFunc] := by unfold tyZero; rw [show Try.prog.info? 65 = some Try.t65 from Try.type65]; rfl
theorem tyAgg65 : tyAgg Try.prog 65 = some false := by unfold tyAgg; rw [Try.underlying65]
theorem tySize66 : tySize Try.prog 66 = some 1 := by unfold tySize; rw [show Try.prog.info? 66 = some Try.t66 from Try.type66]; rfl
theorem tyBytes66 : tyBytes Try.prog 66 = some 8 := by unfold tyBytes; rw [show Try.prog.info? 66 = some Try.t66 from Try.type66]; rfl
theorem tyZero66 : tyZero Try.prog 66 = some [.nilFunc] := by unfold tyZero; rw [show Try.prog.info? 66 = some Try.t66 from Try.type66]; rfl
theorem tyAgg66 : tyAgg Try.prog 66 = some false := by unfold tyAgg; rw [Try.underlying66]
theorem tySize67 : tySize Try.prog 67 = some 1 := by unfold tySize; rw [show Try.prog.info? 67 = some Try.t67 from Try.type67]; rfl
theorem tyBytes67 : tyBytes Try.prog 67 = some 8 := by unfold tyBytes; rw [show Try.prog.info? 67 = some Try.t67 from Try.type67]; rfl
theorem tyZero67 : tyZero Try.prog 67 = some [.nilFunc] := by unfold tyZero; rw [show Try.prog.info? 67 = some Try.t67 from Try.type67]; rfl
theorem tyAgg67 : tyAgg Try.prog 67 = some false := by unfold tyAgg; rw [Try.underlying67]
theorem tySize68 : tySize Try.prog 68 = some 1 := by unfold tySize; rw [show Try.prog.info? 68 = some Try.t68 from Try.type68]; rfl
theorem tyBytes68 : tyBytes Try.prog 68 = some 0 := by unfold tyBytes; rw [show Try.prog.info? 68 = some Try.t68 from Try.type68]; rfl
theorem tyAgg68 : tyAgg Try.prog 68 = some false := by unfold tyAgg; rw [Try.underlying68]
theorem tySize69 : tySize Try.prog 69 = some 1 := by unfold tySize; rw [show Try.prog.info? 69 = some Try.t69 from Try.type69]; rfl
theorem tyBytes69 : tyBytes Try.prog 69 = some 8 := by unfold tyBytes; rw [show Try.prog.info? 69 = some Try.t69 from Try.type69]; rfl
theorem tyZero69 : tyZero Try.prog 69 = some [.nilFunc] := by unfold tyZero; rw [show Try.prog.info? 69 = some Try.t69 from Try.type69]; rfl
theorem tyAgg69 : tyAgg Try.prog 69 = some false := by unfold tyAgg; rw [Try.underlying69]
theorem tySize70 : tySize Try.prog 70 = some 1 := by unfold tySize; rw [show Try.prog.info? 70 = some Try.t70 from Try.type70]; rfl
theorem tyBytes70 : tyBytes Try.prog 70 = some 0 := by unfold tyBytes; rw [show Try.prog.info? 70 = some Try.t70 from Try.type70]; rfl
theorem tyAgg70 : tyAgg Try.prog 70 = some false := by unfold tyAgg; rw [Try.underlying70]
theorem tySize71 : tySize Try.prog 71 = some 1 := by unfold tySize; rw [show Try.prog.info? 71 = some Try.t71 from Try.type71]; rfl
theorem tyBytes71 : tyBytes Try.prog 71 = some 8 := by unfold tyBytes; rw [show Try.prog.info? 71 = some Try.t71 from Try.type71]; rfl
theorem tyZero71 : tyZero Try.prog 71 = some [.nilFunc] := by unfold tyZero; rw [show Try.prog.info? 71 = some Try.t71 from Try.type71]; rfl
theorem tyAgg71 : tyAgg Try.prog 71 = some false := by unfold tyAgg; rw [Try.underlying71]
theorem tySize72 : tySize Try.prog 72 = some 1 := by unfold tySize; rw [show Try.prog.info? 72 = some Try.t72 from Try.type72]; rfl
theorem tyBytes72 : tyBytes Try.prog 72 = some 8 := by unfold tyBytes; rw [show Try.prog.info? 72 = some Try.t72 from Try.type72]; rfl
theorem tyZero72 : tyZero Try.prog 72 = some [.nilFunc] := by unfold tyZero; rw [show Try.prog.info? 72 = some Try.t72 from Try.type72]; rfl
theorem tyAgg72 : tyAgg Try.prog 72 = some false := by unfold tyAgg; rw [Try.underlying72]
theorem tySize73 : tySize Try.prog 73 = some 1 := by unfold tySize; rw [show Try.prog.info? 73 = some Try.t73 from Try.type73]; rfl
theorem tyBytes73 : tyBytes Try.prog 73 = some 8 := by unfold tyBytes; rw [show Try.prog.info? 73 = some Try.t73 from Try.type73]; rfl
theorem tyZero73 : tyZero Try.prog 73 = some [.nilFunc] := by unfold tyZero; rw [show Try.prog.info? 73 = some Try.t73 from Try.type73]; rfl
theorem tyAgg73 : tyAgg Try.prog 73 = some false := by unfold tyAgg; rw [Try.underlying73]
theorem tySize74 : tySize Try.prog 74 = some 2 := by unfold tySize; rw [show Try.prog.info? 74 = some Try.t74 from Try.type74]; rfl
theorem tyBytes74 : tyBytes Try.prog 74 = some 32 := by unfold tyBytes; rw [show Try.prog.info? 74 = some Try.t74 from Try.type74]; rfl
theorem tyZero74 : tyZero Try.prog 74 = some [(.slice none 0 0), (.int .i64 0)] := by unfold tyZero; rw [show Try.prog.info? 74 = some Try.t74 from Try.type74]; rfl
theorem tyAgg74 : tyAgg Try.prog 74 = some true := by unfold tyAgg; rw [Try.underlying74]
theorem tySize75 : tySize Try.prog 75 = some 2 := by unfold tySize; rw [show Try.prog.info? 75 = some Try.t75 from Try.type75]; rfl
theorem tyBytes75 : tyBytes Try.prog 75 = some 32 := by unfold tyBytes; rw [show Try.prog.info? 75 = some Try.t75 from Try.type75]; rfl
theorem tyZero75 : tyZero Try.prog 75 = some [(.slice none 0 0), (.int .i64 0)] := by unfold tyZero; rw [show Try.prog.info? 75 = some Try.t75 from Try.type75]; rfl
theorem tyAgg75 : tyAgg Try.prog 75 = some true := by unfold tyAgg; rw [Try.underlying75]
theorem tySize76 : tySize Try.prog 76 = some 1 := by unfold tySize; rw [show Try.prog.info? 76 = some Try.t76 from Try.type76]; rfl
theorem tyBytes76 : tyBytes Try.prog 76 = some 24 := by unfold tyBytes; rw [show Try.prog.info? 76 = some Try.t76 from Try.type76]; rfl
theorem tyZero76 : tyZero Try.prog 76 = some [(.slice none 0 0)] := by unfold tyZero; rw [show Try.prog.info? 76 = some Try.t76 from Try.type76]; rfl
theorem tyAgg76 : tyAgg Try.prog 76 = some true := by unfold tyAgg; rw [Try.underlying76]
theorem tySize77 : tySize Try.prog 77 = some 1 := by unfold tySize; rw [show Try.prog.info? 77 = some Try.t77 from Try.type77]; rfl
theorem tyBytes77 : tyBytes Try.prog 77 = some 24 := by unfold tyBytes; rw [show Try.prog.info? 77 = some Try.t77 from Try.type77]; rfl
theorem tyZero77 : tyZero Try.prog 77 = some [(.slice none 0 0)] := by unfold tyZero; rw [show Try.prog.info? 77 = some Try.t77 from Try.type77]; rfl
theorem tyAgg77 : tyAgg Try.prog 77 = some true := by unfold tyAgg; rw [Try.underlying77]
theorem tySize78 : tySize Try.prog 78 = some 1 := by unfold tySize; rw [show Try.prog.info? 78 = some Try.t78 from Try.type78]; rfl
theorem tyBytes78 : tyBytes Try.prog 78 = some 8 := by unfold tyBytes; rw [show Try.prog.info? 78 = some Try.t78 from Try.type78]; rfl
theorem tyZero78 : tyZero Try.prog 78 = some [.nilFunc] := by unfold tyZero; rw [show Try.prog.info? 78 = some Try.t78 from Try.type78]; rfl
theorem tyAgg78 : tyAgg Try.prog 78 = some false := by unfold tyAgg; rw [Try.underlying78]
theorem tySize79 : tySize Try.prog 79 = some 1 := by unfold tySize; rw [show Try.prog.info? 79 = some Try.t79 from Try.type79]; rfl
theorem tyBytes79 : tyBytes Try.prog 79 = some 8 := by unfold tyBytes; rw [show Try.prog.info? 79 = some Try.t79 from Try.type79]; rfl
theorem tyZero79 : tyZero Try.prog 79 = some [.nilFunc] := by unfold tyZero; rw [show Try.prog.info? 79 = some Try.t79 from Try.type79]; rfl
theorem tyAgg79 : tyAgg Try.prog 79 = some false := by unfold tyAgg; rw [Try.underlying79]
theorem tySize80 : tySize Try.prog 80 = some 1 := by unfold tySize; rw [show Try.prog.info? 80 = some Try.t80 from Try.type80]; rfl
theorem tyBytes80 : tyBytes Try.prog 80 = some 8 := by unfold tyBytes; rw [show Try.prog.info? 80 = some Try.t80 from Try.type80]; rfl
theorem tyZero80 : tyZero Try.prog 80 = some [.nilFunc] := by unfold tyZero; rw [show Try.prog.info? 80 = some Try.t80 from Try.type80]; rfl
theorem tyAgg80 : tyAgg Try.prog 80 = some false := by unfold tyAgg; rw [Try.underlying80]
theorem tySize81 : tySize Try.prog 81 = some 1 := by unfold tySize; rw [show Try.prog.info? 81 = some Try.t81 from Try.type81]; rfl
theorem tyBytes81 : tyBytes Try.prog 81 = some 8 := by unfold tyBytes; rw [show Try.prog.info? 81 = some Try.t81 from Try.type81]; rfl
theorem tyZero81 : tyZero Try.prog 81 = some [.nilFunc] := by unfold tyZero; rw [show Try.prog.info? 81 = some Try.t81 from Try.type81]; rfl
theorem tyAgg81 : tyAgg Try.prog 81 = some false := by unfold tyAgg; rw [Try.underlying81]
theorem tySize82 : tySize Try.prog 82 = some 1 := by unfold tySize; rw [show Try.prog.info? 82 = some Try.t82 from Try.type82]; rfl
theorem tyBytes82 : tyBytes Try.prog 82 = some 8 := by unfold tyBytes; rw [show Try.prog.info? 82 = some Try.t82 from Try.type82]; rfl
theorem tyZero82 : tyZero Try.prog 82 = some [.nilFunc] := by unfold tyZero; rw [show Try.prog.info? 82 = some Try.t82 from Try.type82]; rfl
theorem tyAgg82 : tyAgg Try.prog 82 = some false := by unfold tyAgg; rw [Try.underlying82]
theorem tySize83 : tySize Try.prog 83 = some 1 := by unfold tySize; rw [show Try.prog.info? 83 = some Try.t83 from Try.type83]; rfl
theorem tyBytes83 : tyBytes Try.prog 83 = some 8 := by unfold tyBytes; rw [show Try.prog.info? 83 = some Try.t83 from Try.type83]; rfl
theorem tyZero83 : tyZero Try.prog 83 = some [.nilFunc] := by unfold tyZero; rw [show Try.prog.info? 83 = some Try.t83 from Try.type83]; rfl
theorem tyAgg83 : tyAgg Try.prog 83 = some false := by unfold tyAgg; rw [Try.underlying83]
theorem tySize84 : tySize Try.prog 84 = some 1 := by unfold tySize; rw [show Try.prog.info? 84 = some Try.t84 from Try.type84]; rfl
theorem tyBytes84 : tyBytes Try.prog 84 = some 8 := by unfold tyBytes; rw [show Try.prog.info? 84 = some Try.t84 from Try.type84]; rfl
theorem tyZero84 : tyZero Try.prog 84 = some [.nilFunc] := by unfold tyZero; rw [show Try.prog.info? 84 = some Try.t84 from Try.type84]; rfl
theorem tyAgg84 : tyAgg Try.prog 84 = some false := by unfold tyAgg; rw [Try.underlying84]
theorem tySize85 : tySize Try.prog 85 = some 1 := by unfold tySize; rw [show Try.prog.info? 85 = some Try.t85 from Try.type85]; rfl
theorem tyBytes85 : tyBytes Try.prog 85 = some 8 := by unfold tyBytes; rw [show Try.prog.info? 85 = some Try.t85 from Try.type85]; rfl
theorem tyZero85 : tyZero Try.prog 85 = some [.nilFunc] := by unfold tyZero; rw [show Try.prog.info? 85 = some Try.t85 from Try.type85]; rfl
theorem tyAgg85 : tyAgg Try.prog 85 = some false := by unfold tyAgg; rw [Try.underlying85]
theorem tySize86 : tySize Try.prog 86 = some 1 := by unfold tySize; rw [show Try.prog.info? 86 = some Try.t86 from Try.type86]; rfl
theorem tyBytes86 : tyBytes Try.prog 86 = some 0 := by unfold tyBytes; rw [show Try.prog.info? 86 = some Try.t86 from Try.type86]; rfl
theorem tyAgg86 : tyAgg Try.prog 86 = some false := by unfold tyAgg; rw [Try.underlying86]
theorem tySize87 : tySize Try.prog 87 = some 1 := by unfold tySize; rw [show Try.prog.info? 87 = some Try.t87 from Try.type87]; rfl
theorem tyBytes87 : tyBytes Try.prog 87 = some 8 := by unfold tyBytes; rw [show Try.prog.info? 87 = some Try.t87 from Try.type87]; rfl
theorem tyZero87 : tyZero Try.prog 87 = some [.nilFunc] := by unfold tyZero; rw [show Try.prog.info? 87 = some Try.t87 from Try.type87]; rfl
theorem tyAgg87 : tyAgg Try.prog 87 = some false := by unfold tyAgg; rw [Try.underlying87]
theorem tySize88 : tySize Try.prog 88 = some 1 := by unfold tySize; rw [show Try.prog.info? 88 = some Try.t88 from Try.type88]; rfl
theorem tyBytes88 : tyBytes Try.prog 88 = some 8 := by unfold tyBytes; rw [show Try.prog.info? 88 = some Try.t88 from Try.type88]; rfl
theorem tyZero88 : tyZero Try.prog 88 = some [.nilFunc] := by unfold tyZero; rw [show Try.prog.info? 88 = some Try.t88 from Try.type88]; rfl
theorem tyAgg88 : tyAgg Try.prog 88 = some false := by unfold tyAgg; rw [Try.underlying88]
theorem tySize89 : tySize Try.prog 89 = some 1 := by unfold tySize; rw [show Try.prog.info? 89 = some Try.t89 from Try.type89]; rfl
theorem tyBytes89 : tyBytes Try.prog 89 = some 8 := by unfold tyBytes; rw [show Try.prog.info? 89 = some Try.t89 from Try.type89]; rfl
theorem tyZero89 : tyZero Try.prog 89 = some [.nilFunc] := by unfold tyZero; rw [show Try.prog.info? 89 = some Try.t89 from Try.type89]; rfl
theorem tyAgg89 : tyAgg Try.prog 89 = some false := by unfold tyAgg; rw [Try.underlying89]
theorem tySize90 : tySize Try.prog 90 = some 1 := by unfold tySize; rw [show Try.prog.info? 90 = some Try.t90 from Try.type90]; rfl
theorem tyBytes90 : tyBytes Try.prog 90 = some 8 := by unfold tyBytes; rw [show Try.prog.info? 90 = some Try.t90 from Try.type90]; rfl
theorem tyZero90 : tyZero Try.prog 90 = some [.nilFunc] := by unfold tyZero; rw [show Try.prog.info? 90 = some Try.t90 from Try.type90]; rfl
theorem tyAgg90 : tyAgg Try.prog 90 = some false := by unfold tyAgg; rw [Try.underlying90]
theorem tySize91 : tySize Try.prog 91 = some 1 := by unfold tySize; rw [show Try.prog.info? 91 = some Try.t91 from Try.type91]; rfl
theorem tyBytes91 : tyBytes Try.prog 91 = some 0 := by unfold tyBytes; rw [show Try.prog.info? 91 = some Try.t91 from Try.type91]; rfl
theorem tyAgg91 : tyAgg Try.prog 91 = some false := by unfold tyAgg; rw [Try.underlying91]
theorem tySize92 : tySize Try.prog 92 = some 1 := by unfold tySize; rw [show Try.prog.info? 92 = some Try.t92 from Try.type92]; rfl
theorem tyBytes92 : tyBytes Try.prog 92 = some 8 := by unfold tyBytes; rw [show Try.prog.info? 92 = some Try.t92 from Try.type92]; rfl
theorem tyZero92 : tyZero Try.prog 92 = some [.nilFunc] := by unfold tyZero; rw [show Try.prog.info? 92 = some Try.t92 from Try.type92]; rfl
theorem tyAgg92 : tyAgg Try.prog 92 = some false := by unfold tyAgg; rw [Try.underlying92]
theorem tySize93 : tySize Try.prog 93 = some 1 := by unfold tySize; rw [show Try.prog.info? 93 = some Try.t93 from Try.type93]; rfl
theorem tyBytes93 : tyBytes Try.prog 93 = some 8 := by unfold tyBytes; rw [show Try.prog.info? 93 = some Try.t93 from Try.type93]; rfl
theorem tyZero93 : tyZero Try.prog 93 = some [.nilFunc] := by unfold tyZero; rw [show Try.prog.info? 93 = some Try.t93 from Try.type93]; rfl
theorem tyAgg93 : tyAgg Try.prog 93 = some false := by unfold tyAgg; rw [Try.underlying93]
theorem tySize94 : tySize Try.prog 94 = some 1 := by unfold tySize; rw [show Try.prog.info? 94 = some Try.t94 from Try.type94]; rfl
theorem tyBytes94 : tyBytes Try.prog 94 = some 8 := by unfold tyBytes; rw [show Try.prog.info? 94 = some Try.t94 from Try.type94]; rfl
theorem tyZero94 : tyZero Try.prog 94 = some [.nilFunc] := by unfold tyZero; rw [show Try.prog.info? 94 = some Try.t94 from Try.type94]; rfl
theorem tyAgg94 : tyAgg Try.prog 94 = some false := by unfold tyAgg; rw [Try.underlying94]
theorem tySize95 : tySize Try.prog 95 = some 16 := by unfold tySize; rw [show Try.prog.info? 95 = some Try.t95 from Try.type95]; rfl
theorem tyBytes95 : tyBytes Try.prog 95 = some 64 := by unfold tyBytes; rw [show Try.prog.info? 95 = some Try.t95 from Try.type95]; rfl
theorem tyZero95 : tyZero Try.prog 95 = some [(.int .u32 0), (.int .u32 0), (.int .u32 0), (.int .u32 0), (.int .u32 0), (.int .u32 0), (.int .u32 0), (.int .u32 0), (.int .u32 0), (.int .u32 0), (.int .u32 0), (.int .u32 0), (.int .u32 0), (.int .u32 0), (.int .u32 0), (.int .u32 0)] := by unfold tyZero; rw [show Try.prog.info? 95 = some Try.t95 from Try.type95]; rfl
theorem tyAgg95 : tyAgg Try.prog 95 = some true := by unfold tyAgg; rw [Try.underlying95]
theorem tySize96 : tySize Try.prog 96 = some 1 := by unfold tySize; rw [show Try.prog.info? 96 = some Try.t96 from Try.type96]; rfl
theorem tyBytes96 : tyBytes Try.prog 96 = some 8 := by unfold tyBytes; rw [show Try.prog.info? 96 = some Try.t96 from Try.type96]; rfl
theorem tyZero96 : tyZero Try.prog 96 = some [(.int .u64 0)] := by unfold tyZero; rw [show Try.prog.info? 96 = some Try.t96 from Try.type96]; rfl
theorem tyAgg96 : tyAgg Try.prog 96 = some false := by unfold tyAgg; rw [Try.underlying96]
theorem tySize97 : tySize Try.prog 97 = some 1 := by unfold tySize; rw [show Try.prog.info? 97 = some Try.t97 from Try.type97]; rfl
theorem tyBytes97 : tyBytes Try.prog 97 = some 8 := by unfold tyBytes; rw [show Try.prog.info? 97 = some Try.t97 from Try.type97]; rfl
theorem tyZero97 : tyZero Try.prog 97 = some [.nilFunc] := by unfold tyZero; rw [show Try.prog.info? 97 = some Try.t97 from Try.type97]; rfl
theorem tyAgg97 : tyAgg Try.prog 97 = some false := by unfold tyAgg; rw [Try.underlying97]
theorem tySize98 : tySize Try.prog 98 = some 1 := by unfold tySize; rw [show Try.prog.info? 98 = some Try.t98 from Try.type98]; rfl
theorem tyBytes98 : tyBytes Try.prog 98 = some 0 := by unfold tyBytes; rw [show Try.prog.info? 98 = some Try.t98 from Try.type98]; rfl
theorem tyAgg98 : tyAgg Try.prog 98 = some false := by unfold tyAgg; rw [Try.underlying98]
theorem tySize99 : tySize Try.prog 99 = some 1 := by unfold tySize; rw [show Try.prog.info? 99 = some Try.t99 from Try.type99]; rfl
theorem tyBytes99 : tyBytes Try.prog 99 = some 8 := by unfold tyBytes; rw [show Try.prog.info? 99 = some Try.t99 from Try.type99]; rfl
theorem tyZero99 : tyZero Try.prog 99 = some [.nilFunc] := by unfold tyZero; rw [show Try.prog.info? 99 = some Try.t99 from Try.type99]; rfl
theorem tyAgg99 : tyAgg Try.prog 99 = some false := by unfold tyAgg; rw [Try.underlying99]
theorem tySize100 : tySize Try.prog 100 = some 1 := by unfold tySize; rw [show Try.prog.info? 100 = some Try.t100 from Try.type100]; rfl
theorem tyBytes100 : tyBytes Try.prog 100 = some 8 := by unfold tyBytes; rw [show Try.prog.info? 100 = some Try.t100 from Try.type100]; rfl
theorem tyZero100 : tyZero Try.prog 100 = some [.nilFunc] := by unfold tyZero; rw [show Try.prog.info? 100 = some Try.t100 from Try.type100]; rfl
theorem tyAgg100 : tyAgg Try.prog 100 = some false := by unfold tyAgg; rw [Try.underlying100]
theorem tySize101 : tySize Try.prog 101 = some 4 := by unfold tySize; rw [show Try.prog.info? 101 = some Try.t101 from Try.type101]; rfl
theorem tyBytes101 : tyBytes Try.prog 101 = some 40 := by unfold tyBytes; rw [show Try.prog.info? 101 = some Try.t101 from Try.type101]; rfl
theorem tyZero101 : tyZero Try.prog 101 = some [(.pointer none), (.pointer none), (.pointer none), (.string (mkS []))] := by unfold tyZero; rw [show Try.prog.info? 101 = some Try.t101 from Try.type101]; rfl
theorem tyAgg101 : tyAgg Try.prog 101 = some true := by unfold tyAgg; rw [Try.underlying101]
theorem tySize102 : tySize Try.prog 102 = some 4 := by unfold tySize; rw [show Try.prog.info? 102 = some Try.t102 from Try.type102]; rfl
theorem tyBytes102 : tyBytes Try.prog 102 = some 40 := by unfold tyBytes; rw [show Try.prog.info? 102 = some Try.t102 from Try.type102]; rfl
theorem tyZero102 : tyZero Try.prog 102 = some [(.pointer none), (.pointer none), (.pointer none), (.string (mkS []))] := by unfold tyZero; rw [show Try.prog.info? 102 = some Try.t102 from Try.type102]; rfl
theorem tyAgg102 : tyAgg Try.prog 102 = some true := by unfold tyAgg; rw [Try.underlying102]
theorem tySize103 : tySize Try.prog 103 = some 0 := by unfold tySize; rw [show Try.prog.info? 103 = some Try.t103 from Try.type103]; rfl
theorem tyBytes103 : tyBytes Try.prog 103 = some 0 := by unfold tyBytes; rw [show Try.prog.info? 103 = some Try.t103 from Try.type103]; rfl
theorem tyZero103 : tyZero Try.prog 103 = some [] := by unfold tyZero; rw [show Try.prog.info? 103 = some Try.t103 from Try.type103]; rfl
theorem tyAgg103 : tyAgg Try.prog 103 = some true := by unfold tyAgg; rw [Try.underlying103]
theorem tySize104 : tySize Try.prog 104 = some 0 := by unfold tySize; rw [show Try.prog.info? 104 = some Try.t104 from Try.type104]; rfl
theorem tyBytes104 : tyBytes Try.prog 104 = some 0 := by unfold tyBytes; rw [show Try.prog.info? 104 = some Try.t104 from Try.type104]; rfl
theorem tyZero104 : tyZero Try.prog 104 = some [] := by unfold tyZero; rw [show Try.prog.info? 104 = some Try.t104 from Try.type104]; rfl
theorem tyAgg104 : tyAgg Try.prog 104 = some true := by unfold tyAgg; rw [Try.underlying104]
theorem tySize105 : tySize Try.prog 105 = some 0 := by unfold tySize; rw [show Try.prog.info? 105 = some Try.t105 from Try.type105]; rfl
theorem tyBytes105 : tyBytes Try.prog 105 = some 0 := by unfold tyBytes; rw [show Try.prog.info? 105 = some Try.t105 from Try.type105]; rfl
theorem tyZero105 : tyZero Try.prog 105 = some [] := by unfold tyZero; rw [show Try.prog.info? 105 = some Try.t105 from Try.type105]; rfl
theorem tyAgg105 : tyAgg Try.prog 105 = some true := by unfold tyAgg; rw [Try.underlying105]
theorem tySize106 : tySize Try.prog 106 = some 1 := by unfold tySize; rw [show Try.prog.info? 106 = some Try.t106 from Try.type106]; rfl
theorem tyBytes106 : tyBytes Try.prog 106 = some 1 := by unfold tyBytes; rw [show Try.prog.info? 106 = some Try.t106 from Try.type106]; rfl
theorem tyZero106 : tyZero Try.prog 106 = some [(.int .u8 0)] := by unfold tyZero; rw [show Try.prog.info? 106 = some Try.t106 from Try.type106]; rfl
theorem tyAgg106 : tyAgg Try.prog 106 = some false := by unfold tyAgg; rw [Try.underlying106]
theorem tySize107 : tySize Try.prog 107 = some 1 := by unfold tySize; rw [show Try.prog.info? 107 = some Try.t107 from Try.type107]; rfl
theorem tyBytes107 : tyBytes Try.prog 107 = some 1 := by unfold tyBytes; rw [show Try.prog.info? 107 = some Try.t107 from Try.type107]; rfl
theorem tyZero107 : tyZero Try.prog 107 = some [(.int .u8 0)] := by unfold tyZero; rw [show Try.prog.info? 107 = some Try.t107 from Try.type107]; rfl
theorem tyAgg107 : tyAgg Try.prog 107 = some false := by unfold tyAgg; rw [Try.underlying107]
theorem tySize108 : tySize Try.prog 108 = some 1 := by unfold tySize; rw [show Try.prog.info? 108 = some Try.t108 from Try.type108]; rfl
theorem tyBytes108 : tyBytes Try.prog 108 = some 8 := by unfold tyBytes; rw [show Try.prog.info? 108 = some Try.t108 from Try.type108]; rfl
theorem tyZero108 : tyZero Try.prog 108 = some [.nilFunc] := by unfold tyZero; rw [show Try.prog.info? 108 = some Try.t108 from Try.type108]; rfl
theorem tyAgg108 : tyAgg Try.prog 108 = some false := by unfold tyAgg; rw [Try.underlying108]
theorem tySize109 : tySize Try.prog 109 = some 1 := by unfold tySize; rw [show Try.prog.info? 109 = some Try.t109 from Try.type109]; rfl
theorem tyBytes109 : tyBytes Try.prog 109 = some 8 := by unfold tyBytes; rw [show Try.prog.info? 109 = some Try.t109 from Try.type109]; rfl
theorem tyZero109 : tyZero Try.prog 109 = some [(.pointer none)] := by unfold tyZero; rw [show Try.prog.info? 109 = some Try.t109 from Try.type109]; rfl
theorem tyAgg109 : tyAgg Try.prog 109 = some false := by unfold tyAgg; rw [Try.underlying109]
theorem tySize110 : tySize Try.prog 110 = some 1 := by unfold tySize; rw [show Try.prog.info? 110 = some Try.t110 from Try.type110]; rfl
theorem tyBytes110 : tyBytes Try.prog 110 = some 4 := by unfold tyBytes; rw [show Try.prog.info? 110 = some Try.t110 from Try.type110]; rfl
theorem tyZero110 : tyZero Try.prog 110 = some [(.int .i32 0)] := by unfold tyZero; rw [show Try.prog.info? 110 = some Try.t110 from Try.type110]; rfl
theorem tyAgg110 : tyAgg Try.prog 110 = some false := by unfold tyAgg; rw [Try.underlying110]
theorem tySize111 : tySize Try.prog 111 = some 1 := by unfold tySize; rw [show Try.prog.info? 111 = some Try.t111 from Try.type111]; rfl
theorem tyBytes111 : tyBytes Try.prog 111 = some 4 := by unfold tyBytes; rw [show Try.prog.info? 111 = some Try.t111 from Try.type111]; rfl
theorem tyZero111 : tyZero Try.prog 111 = some [(.int .i32 0)] := by unfold tyZero; rw [show Try.prog.info? 111 = some Try.t111 from Try.type111]; rfl
theorem tyAgg111 : tyAgg Try.prog 111 = some false := by unfold tyAgg; rw [Try.underlying111]
theorem tySize112 : tySize Try.prog 112 = some 11 := by unfold tySize; rw [show Try.prog.info? 112 = some Try.t112 from Try.type112]; rfl
theorem tyBytes112 : tyBytes Try.prog 112 = some 48 := by unfold tyBytes; rw [show Try.prog.info? 112 = some Try.t112 from Try.type112]; rfl
theorem tyZero112 : tyZero Try.prog 112 = some [(.int .u64 0), (.int .u64 0), (.int .u32 0), (.int .u8 0), (.int .u8 0), (.int .u8 0), (.int .u8 0), .nilFunc, (.pointer none), (.int .i32 0), (.int .i32 0)] := by unfold tyZero; rw [show Try.prog.info? 112 = some Try.t112 from Try.type112]; rfl
theorem tyAgg112 : tyAgg Try.prog 112 = some true := by unfold tyAgg; rw [Try.underlying112]
theorem tySize113 : tySize Try.prog 113 = some 11 := by unfold tySize; rw [show Try.prog.info? 113 = some Try.t113 from Try.type113]; rfl
theorem tyBytes113 : tyBytes Try.prog 113 = some 48 := by unfold tyBytes; rw [show Try.prog.info? 113 = some Try.t113 from Try.type113]; rfl
theorem tyZero113 : tyZero Try.prog 113 = some [(.int .u64 0), (.int .u64 0), (.int .u32 0), (.int .u8 0), (.int .u8 0), (.int .u8 0), (.int .u8 0), .nilFunc, (.pointer none), (.int .i32 0), (.int .i32 0)] := by unfold tyZero; rw [show Try.prog.info? 113 = some Try.t113 from Try.type113]; rfl
theorem tyAgg113 : tyAgg Try.prog 113 = some true := by unfold tyAgg; rw [Try.underlying113]
theorem tySize114 : tySize Try.prog 114 = some 1 := by unfold tySize; rw [show Try.prog.info? 114 = some Try.t114 from Try.type114]; rfl
theorem tyBytes114 : tyBytes Try.prog 114 = some 8 := by unfold tyBytes; rw [show Try.prog.info? 114 = some Try.t114 from Try.type114]; rfl
theorem tyZero114 : tyZero Try.prog 114 = some [(.pointer none)] := by unfold tyZero; rw [show Try.prog.info? 114 = some Try.t114 from Try.type114]; rfl
theorem tyAgg114 : tyAgg Try.prog 114 = some false := by unfold tyAgg; rw [Try.underlying114]
attribute [go_sem] Try.underlying0 tySize0 tyBytes0 tyAgg0 Try.underlying1 tySize1 tyBytes1 tyZero1 tyAgg1 Try.underlying2 tySize2 tyBytes2 tyZero2 tyAgg2 Try.underlying3 tySize3 tyBytes3 tyZero3 tyAgg3 Try.underlying4 tySize4 tyBytes4 tyZero4 tyAgg4 Try.underlying5 tySize5 tyBytes5 tyZero5 tyAgg5 Try.underlying6 tySize6 tyBytes6 tyZero6 tyAgg6 Try.underlying7 tySize7 tyBytes7 tyZero7 tyAgg7 Try.underlying8 tySize8 tyBytes8 tyZero8 tyAgg8 Try.underlying9 tySize9 tyBytes9 tyZero9 tyAgg9 Try.underlying10 tySize10 tyBytes10 tyZero10 tyAgg10 Try.underlying11 tySize11 tyBytes11 tyZero11 tyAgg11 Try.underlying12 tySize12 tyBytes12 tyZero12 tyAgg12 Try.underlying13 tySize13 tyBytes13 tyZero13 tyAgg13 Try.underlying14 tySize14 tyBytes14 tyZero14 tyAgg14 Try.underlying15 tySize15 tyBytes15 tyZero15 tyAgg15 Try.underlying16 tySize16 tyBytes16 tyZero16 tyAgg16 Try.underlying17 tySize17 tyBytes17 tyZero17 tyAgg17 Try.underlying18 tySize18 tyBytes18 tyZero18 tyAgg18 Try.underlying19 tySize19 tyBytes19 tyZero19 tyAgg19 Try.underlying20 tySize20 tyBytes20 tyZero20 tyAgg20 Try.underlying21 tySize21 tyBytes21 tyZero21 tyAgg21 Try.underlying22 tySize22 tyBytes22 tyZero22 tyAgg22 Try.underlying23 tySize23 tyBytes23 tyZero23 tyAgg23 Try.underlying24 tySize24 tyBytes24 tyZero24 tyAgg24 Try.underlying25 tySize25 tyBytes25 tyZero25 tyAgg25 Try.underlying26 tySize26 tyBytes26 tyZero26 tyAgg26 Try.underlying27 tySize27 tyBytes27 tyZero27 tyAgg27 Try.underlying28 tySize28 tyBytes28 tyZero28 tyAgg28 Try.underlying29 tySize29 tyBytes29 tyZero29 tyAgg29 Try.underlying30 tySize30 tyBytes30 tyZero30 tyAgg30 Try.underlying31 tySize31 tyBytes31 tyZero31 tyAgg31 Try.underlying32 tySize32 tyBytes32 tyZero32 tyAgg32 Try.underlying33 tySize33 tyBytes33 tyZero33 tyAgg33 Try.underlying34 tySize34 tyBytes34 tyZero34 tyAgg34 Try.underlying35 tySize35 tyBytes35 tyZero35 tyAgg35 Try.underlying36 tySize36 tyBytes36 tyZero36 tyAgg36 Try.underlying37 tySize37 tyBytes37 tyZero37 tyAgg37 Try.underlying38 tySize38 tyBytes38 tyZero38 tyAgg38 Try.underlying39 tySize39 tyBytes39 tyZero39 tyAgg39 Try.underlying40 tySize40 tyBytes40 tyZero40 tyAgg40 Try.underlying41 tySize41 tyBytes41 tyZero41 tyAgg41 Try.underlying42 tySize42 tyBytes42 tyZero42 tyAgg42 Try.underlying43 tySize43 tyBytes43 tyZero43 tyAgg43 Try.underlying44 tySize44 tyBytes44 tyZero44 tyAgg44 Try.underlying45 tySize45 tyBytes45 tyAgg45 Try.underlying46 tySize46 tyBytes46 tyZero46 tyAgg46 Try.underlying47 tySize47 tyBytes47 tyZero47 tyAgg47 Try.underlying48 tySize48 tyBytes48 tyZero48 tyAgg48 Try.underlying49 tySize49 tyBytes49 tyZero49 tyAgg49 Try.underlying50 tySize50 tyBytes50 tyZero50 tyAgg50 Try.underlying51 tySize51 tyBytes51 tyZero51 tyAgg51 Try.underlying52 tySize52 tyBytes52 tyZero52 tyAgg52 Try.underlying53 tySize53 tyBytes53 tyZero53 tyAgg53 Try.underlying54 tySize54 tyBytes54 tyZero54 tyAgg54 Try.underlying55 tySize55 tyBytes55 tyZero55 tyAgg55 Try.underlying56 tySize56 tyBytes56 tyZero56 tyAgg56 Try.underlying57 tySize57 tyBytes57 tyAgg57 Try.underlying58 tySize58 tyBytes58 tyZero58 tyAgg58 Try.underlying59 tySize59 tyBytes59 tyZero59 tyAgg59 Try.underlying60 tySize60 tyBytes60 tyZero60 tyAgg60 Try.underlying61 tySize61 tyBytes61 tyZero61 tyAgg61 Try.underlying62 tySize62 tyBytes62 tyZero62 tyAgg62 Try.underlying63 tySize63 tyBytes63 tyZero63 tyAgg63 Try.underlying64 tySize64 tyBytes64 tyZero64 tyAgg64 Try.underlying65 tySize65 tyBytes65 tyZero65 tyAgg65 Try.underlying66 tySize66 tyBytes66 tyZero66 tyAgg66 Try.underlying67 tySize67 tyBytes67 tyZero67 tyAgg67 Try.underlying68 tySize68 tyBytes68 tyAgg68 Try.underlying69 tySize69 tyBytes69 tyZero69 tyAgg69 Try.underlying70 tySize70 tyBytes70 tyAgg70 Try.underlying71 tySize71 tyBytes71 tyZero71 tyAgg71 Try.underlying72 tySize72 tyBytes72 tyZero72 tyAgg72 Try.underlying73 tySize73 tyBytes73 tyZero73 tyAgg73 Try.underlying74 tySize74 tyBytes74 tyZero74 tyAgg74 Try.underlying75 tySize75 tyBytes75 tyZero75 tyAgg75 Try.underlying76 tySize76 tyBytes76 tyZero76 tyAgg76 Try.underlying77 tySize77 tyBytes77 tyZero77 tyAgg77 Try.underlying78 tySize78 tyBytes78 tyZero78 tyAgg78 Try.underlying79 tySize79 tyBytes79 tyZero79 tyAgg79 Try.underlying80 tySize80 tyBytes80 tyZero80 tyAgg80 Try.underlying81 tySize81 tyBytes81 tyZero81 tyAgg81 Try.underlying82 tySize82 tyBytes82 tyZero82 tyAgg82 Try.underlying83 tySize83 tyBytes83 tyZero83 tyAgg83 Try.underlying84 tySize84 tyBytes84 tyZero84 tyAgg84 Try.underlying85 tySize85 tyBytes85 tyZero85 tyAgg85 Try.underlying86 tySize86 tyBytes86 tyAgg86 Try.underlying87 tySize87 tyBytes87 tyZero87 tyAgg87 Try.underlying88 tySize88 tyBytes88 tyZero88 tyAgg88 Try.underlying89 tySize89 tyBytes89 tyZero89 tyAgg89 Try.underlying90 tySize90 tyBytes90 tyZero90 tyAgg90 Try.underlying91 tySize91 tyBytes91 tyAgg91 Try.underlying92 tySize92 tyBytes92 tyZero92 tyAgg92 Try.underlying93 tySize93 tyBytes93 tyZero93 tyAgg93 Try.underlying94 tySize94 tyBytes94 tyZero94 tyAgg94 Try.underlying95 tySize95 tyBytes95 tyZero95 tyAgg95 Try.underlying96 tySize96 tyBytes96 tyZero96 tyAgg96 Try.underlying97 tySize97 tyBytes97 tyZero97 tyAgg97 Try.underlying98 tySize98 tyBytes98 tyAgg98 Try.underlying99 tySize99 tyBytes99 tyZero99 tyAgg99 Try.underlying100 tySize100 tyBytes100 tyZero100 tyAgg100 Try.underlying101 tySize101 tyBytes101 tyZero101 tyAgg101 Try.underlying102 tySize102 tyBytes102 tyZero102 tyAgg102 Try.underlying103 tySize103 tyBytes103 tyZero103 tyAgg103 Try.underlying104 tySize104 tyBytes104 tyZero104 tyAgg104 Try.underlying105 tySize105 tyBytes105 tyZero105 tyAgg105 Try.underlying106 tySize106 tyBytes106 tyZero106 tyAgg106 Try.underlying107 tySize107 tyBytes107 tyZero107 tyAgg107 Try.underlying108 tySize108 tyBytes108 tyZero108 tyAgg108 Try.underlying109 tySize109 tyBytes109 tyZero109 tyAgg109 Try.underlying110 tySize110 tyBytes110 tyZero110 tyAgg110 Try.underlying111 tySize111 tyBytes111 tyZero111 tyAgg111 Try.underlying112 tySize112 tyBytes112 tyZero112 tyAgg112 Try.underlying113 tySize113 tyBytes113 tyZero113 tyAgg113 Try.underlying114 tySize114 tyBytes114 tyZero114 tyAgg114
end Go.Proofs.Ytjmkgpkgagohoaa
