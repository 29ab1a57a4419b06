/- Facts on the types of the seat, asked of the program. Printed by facts.py. -/
import Derived.Test.YtbicfijohjijhaaV1
import Derived.Test.YtbicfijohjijhaaProg
import Derived.KernelRfl
namespace Go.Vm.Try
theorem fo : Go.Proofs.Try.prog.follows .mixedOrders = true := by kernel_rfl
@[push_cast] theorem sz0 : szT Go.Proofs.Try.prog 0 = some (1) := by kernel_rfl
@[push_cast] theorem by0 : bytesT Go.Proofs.Try.prog 0 = some (0) := by kernel_rfl
@[push_cast] theorem ag0 : aggT Go.Proofs.Try.prog 0 = some (false) := by kernel_rfl
@[push_cast] theorem zt0 : zeroT Go.Proofs.Try.prog 0 = some ([.dead]) := by kernel_rfl
@[push_cast] theorem zv0 : zeroV Go.Proofs.Try.prog 0 = some (.dead) := by kernel_rfl
@[push_cast] theorem ni0 : notInt Go.Proofs.Try.prog 0 = true := by kernel_rfl
@[push_cast] theorem el0 : elemT Go.Proofs.Try.prog 0 = none := by kernel_rfl
@[push_cast] theorem ct0 : concT Go.Proofs.Try.prog 0 = true := by kernel_rfl
@[push_cast] theorem sz1 : szT Go.Proofs.Try.prog 1 = some (1) := by kernel_rfl
@[push_cast] theorem by1 : bytesT Go.Proofs.Try.prog 1 = some (8) := by kernel_rfl
@[push_cast] theorem ag1 : aggT Go.Proofs.Try.prog 1 = some (false) := by kernel_rfl
@[push_cast] theorem zt1 : zeroT Go.Proofs.Try.prog 1 = some ([.nilf]) := by kernel_rfl
@[push_cast] theorem zv1 : zeroV Go.Proofs.Try.prog 1 = some (.nilf) := by kernel_rfl
@[push_cast] theorem ni1 : notInt Go.Proofs.Try.prog 1 = true := by kernel_rfl
@[push_cast] theorem el1 : elemT Go.Proofs.Try.prog 1 = none := by kernel_rfl
@[push_cast] theorem ct1 : concT Go.Proofs.Try.prog 1 = true := by kernel_rfl
@[push_cast] theorem sz2 : szT Go.Proofs.Try.prog 2 = some (1) := by kernel_rfl
@[push_cast] theorem by2 : bytesT Go.Proofs.Try.prog 2 = some (8) := by kernel_rfl
@[push_cast] theorem ag2 : aggT Go.Proofs.Try.prog 2 = some (false) := by kernel_rfl
@[push_cast] theorem zt2 : zeroT Go.Proofs.Try.prog 2 = some ([.int .i64 0]) := by kernel_rfl
@[push_cast] theorem zv2 : zeroV Go.Proofs.Try.prog 2 = some (.int .i64 0) := by kernel_rfl
@[push_cast] theorem u2 : Program.underlying Go.Proofs.Try.prog 2 = some (.int .i64) := by kernel_rfl
@[push_cast] theorem el2 : elemT Go.Proofs.Try.prog 2 = none := by kernel_rfl
@[push_cast] theorem kt2 : kindT Go.Proofs.Try.prog 2 = some (.int .i64) := by kernel_rfl
@[push_cast] theorem ct2 : concT Go.Proofs.Try.prog 2 = true := by kernel_rfl
@[push_cast] theorem sz3 : szT Go.Proofs.Try.prog 3 = some (1) := by kernel_rfl
@[push_cast] theorem by3 : bytesT Go.Proofs.Try.prog 3 = some (8) := by kernel_rfl
@[push_cast] theorem ag3 : aggT Go.Proofs.Try.prog 3 = some (false) := by kernel_rfl
@[push_cast] theorem zt3 : zeroT Go.Proofs.Try.prog 3 = some ([.int .i64 0]) := by kernel_rfl
@[push_cast] theorem zv3 : zeroV Go.Proofs.Try.prog 3 = some (.int .i64 0) := by kernel_rfl
@[push_cast] theorem u3 : Program.underlying Go.Proofs.Try.prog 3 = some (.int .i64) := by kernel_rfl
@[push_cast] theorem el3 : elemT Go.Proofs.Try.prog 3 = none := by kernel_rfl
@[push_cast] theorem kt3 : kindT Go.Proofs.Try.prog 3 = some (.int .i64) := by kernel_rfl
@[push_cast] theorem ct3 : concT Go.Proofs.Try.prog 3 = true := by kernel_rfl
@[push_cast] theorem sz4 : szT Go.Proofs.Try.prog 4 = some (1) := by kernel_rfl
@[push_cast] theorem by4 : bytesT Go.Proofs.Try.prog 4 = some (1) := by kernel_rfl
@[push_cast] theorem ag4 : aggT Go.Proofs.Try.prog 4 = some (false) := by kernel_rfl
@[push_cast] theorem zt4 : zeroT Go.Proofs.Try.prog 4 = some ([.bool false]) := by kernel_rfl
@[push_cast] theorem zv4 : zeroV Go.Proofs.Try.prog 4 = some (.bool false) := by kernel_rfl
@[push_cast] theorem u4 : Program.underlying Go.Proofs.Try.prog 4 = some (.bool) := by kernel_rfl
@[push_cast] theorem ni4 : notInt Go.Proofs.Try.prog 4 = true := by kernel_rfl
@[push_cast] theorem el4 : elemT Go.Proofs.Try.prog 4 = none := by kernel_rfl
@[push_cast] theorem ct4 : concT Go.Proofs.Try.prog 4 = true := by kernel_rfl
@[push_cast] theorem sz5 : szT Go.Proofs.Try.prog 5 = some (1) := by kernel_rfl
@[push_cast] theorem by5 : bytesT Go.Proofs.Try.prog 5 = some (1) := by kernel_rfl
@[push_cast] theorem ag5 : aggT Go.Proofs.Try.prog 5 = some (false) := by kernel_rfl
@[push_cast] theorem zt5 : zeroT Go.Proofs.Try.prog 5 = some ([.int .u8 0]) := by kernel_rfl
@[push_cast] theorem zv5 : zeroV Go.Proofs.Try.prog 5 = some (.int .u8 0) := by kernel_rfl
@[push_cast] theorem u5 : Program.underlying Go.Proofs.Try.prog 5 = some (.int .u8) := by kernel_rfl
@[push_cast] theorem el5 : elemT Go.Proofs.Try.prog 5 = none := by kernel_rfl
@[push_cast] theorem kt5 : kindT Go.Proofs.Try.prog 5 = some (.int .u8) := by kernel_rfl
@[push_cast] theorem ct5 : concT Go.Proofs.Try.prog 5 = true := by kernel_rfl
@[push_cast] theorem sz6 : szT Go.Proofs.Try.prog 6 = some (1) := by kernel_rfl
@[push_cast] theorem by6 : bytesT Go.Proofs.Try.prog 6 = some (1) := by kernel_rfl
@[push_cast] theorem ag6 : aggT Go.Proofs.Try.prog 6 = some (false) := by kernel_rfl
@[push_cast] theorem zt6 : zeroT Go.Proofs.Try.prog 6 = some ([.int .u8 0]) := by kernel_rfl
@[push_cast] theorem zv6 : zeroV Go.Proofs.Try.prog 6 = some (.int .u8 0) := by kernel_rfl
@[push_cast] theorem u6 : Program.underlying Go.Proofs.Try.prog 6 = some (.int .u8) := by kernel_rfl
@[push_cast] theorem el6 : elemT Go.Proofs.Try.prog 6 = none := by kernel_rfl
@[push_cast] theorem kt6 : kindT Go.Proofs.Try.prog 6 = some (.int .u8) := by kernel_rfl
@[push_cast] theorem ct6 : concT Go.Proofs.Try.prog 6 = true := by kernel_rfl
@[push_cast] theorem sz7 : szT Go.Proofs.Try.prog 7 = some (4) := by kernel_rfl
@[push_cast] theorem by7 : bytesT Go.Proofs.Try.prog 7 = some (24) := by kernel_rfl
@[push_cast] theorem ag7 : aggT Go.Proofs.Try.prog 7 = some (true) := by kernel_rfl
@[push_cast] theorem zt7 : zeroT Go.Proofs.Try.prog 7 = some ([.int .i64 0, .int .i64 0, .bool false, .int .u8 0]) := by kernel_rfl
@[push_cast] theorem zv7 : zeroV Go.Proofs.Try.prog 7 = some (.agg [.int .i64 0, .int .i64 0, .bool false, .int .u8 0]) := by kernel_rfl
@[push_cast] theorem f7_0 : fieldT Go.Proofs.Try.prog 7 0 = some ((2, 0)) := by kernel_rfl
@[push_cast] theorem f7_1 : fieldT Go.Proofs.Try.prog 7 1 = some ((3, 1)) := by kernel_rfl
@[push_cast] theorem f7_2 : fieldT Go.Proofs.Try.prog 7 2 = some ((4, 2)) := by kernel_rfl
@[push_cast] theorem f7_3 : fieldT Go.Proofs.Try.prog 7 3 = some ((6, 3)) := by kernel_rfl
@[push_cast] theorem pl7 : placesT Go.Proofs.Try.prog 7 = some ([(0, 1), (1, 1), (2, 1), (3, 1)]) := by kernel_rfl
@[push_cast] theorem ar7 : arrT Go.Proofs.Try.prog 7 = none := by kernel_rfl
@[push_cast] theorem ni7 : notInt Go.Proofs.Try.prog 7 = true := by kernel_rfl
@[push_cast] theorem el7 : elemT Go.Proofs.Try.prog 7 = none := by kernel_rfl
@[push_cast] theorem es7 : eqShape Go.Proofs.Try.prog 7 = some ([(0, .i), (1, .i), (2, .b), (3, .i)]) := by kernel_rfl
@[push_cast] theorem ct7 : concT Go.Proofs.Try.prog 7 = true := by kernel_rfl
@[push_cast] theorem sz8 : szT Go.Proofs.Try.prog 8 = some (4) := by kernel_rfl
@[push_cast] theorem by8 : bytesT Go.Proofs.Try.prog 8 = some (24) := by kernel_rfl
@[push_cast] theorem ag8 : aggT Go.Proofs.Try.prog 8 = some (true) := by kernel_rfl
@[push_cast] theorem zt8 : zeroT Go.Proofs.Try.prog 8 = some ([.int .i64 0, .int .i64 0, .bool false, .int .u8 0]) := by kernel_rfl
@[push_cast] theorem zv8 : zeroV Go.Proofs.Try.prog 8 = some (.agg [.int .i64 0, .int .i64 0, .bool false, .int .u8 0]) := by kernel_rfl
@[push_cast] theorem f8_0 : fieldT Go.Proofs.Try.prog 8 0 = some ((2, 0)) := by kernel_rfl
@[push_cast] theorem f8_1 : fieldT Go.Proofs.Try.prog 8 1 = some ((3, 1)) := by kernel_rfl
@[push_cast] theorem f8_2 : fieldT Go.Proofs.Try.prog 8 2 = some ((4, 2)) := by kernel_rfl
@[push_cast] theorem f8_3 : fieldT Go.Proofs.Try.prog 8 3 = some ((6, 3)) := by kernel_rfl
@[push_cast] theorem pl8 : placesT Go.Proofs.Try.prog 8 = some ([(0, 1), (1, 1), (2, 1), (3, 1)]) := by kernel_rfl
@[push_cast] theorem ar8 : arrT Go.Proofs.Try.prog 8 = none := by kernel_rfl
@[push_cast] theorem ni8 : notInt Go.Proofs.Try.prog 8 = true := by kernel_rfl
@[push_cast] theorem el8 : elemT Go.Proofs.Try.prog 8 = none := by kernel_rfl
@[push_cast] theorem es8 : eqShape Go.Proofs.Try.prog 8 = some ([(0, .i), (1, .i), (2, .b), (3, .i)]) := by kernel_rfl
@[push_cast] theorem ct8 : concT Go.Proofs.Try.prog 8 = true := by kernel_rfl
@[push_cast] theorem sz9 : szT Go.Proofs.Try.prog 9 = some (1) := by kernel_rfl
@[push_cast] theorem by9 : bytesT Go.Proofs.Try.prog 9 = some (16) := by kernel_rfl
@[push_cast] theorem ag9 : aggT Go.Proofs.Try.prog 9 = some (false) := by kernel_rfl
@[push_cast] theorem zt9 : zeroT Go.Proofs.Try.prog 9 = some ([.str ByteArray.empty]) := by kernel_rfl
@[push_cast] theorem zv9 : zeroV Go.Proofs.Try.prog 9 = some (.str ByteArray.empty) := by kernel_rfl
@[push_cast] theorem u9 : Program.underlying Go.Proofs.Try.prog 9 = some (.string) := by kernel_rfl
@[push_cast] theorem ni9 : notInt Go.Proofs.Try.prog 9 = true := by kernel_rfl
@[push_cast] theorem el9 : elemT Go.Proofs.Try.prog 9 = none := by kernel_rfl
@[push_cast] theorem kt9 : kindT Go.Proofs.Try.prog 9 = some (.str) := by kernel_rfl
@[push_cast] theorem ct9 : concT Go.Proofs.Try.prog 9 = true := by kernel_rfl
@[push_cast] theorem sz10 : szT Go.Proofs.Try.prog 10 = some (1) := by kernel_rfl
@[push_cast] theorem by10 : bytesT Go.Proofs.Try.prog 10 = some (16) := by kernel_rfl
@[push_cast] theorem ag10 : aggT Go.Proofs.Try.prog 10 = some (false) := by kernel_rfl
@[push_cast] theorem zt10 : zeroT Go.Proofs.Try.prog 10 = some ([.str ByteArray.empty]) := by kernel_rfl
@[push_cast] theorem zv10 : zeroV Go.Proofs.Try.prog 10 = some (.str ByteArray.empty) := by kernel_rfl
@[push_cast] theorem u10 : Program.underlying Go.Proofs.Try.prog 10 = some (.string) := by kernel_rfl
@[push_cast] theorem ni10 : notInt Go.Proofs.Try.prog 10 = true := by kernel_rfl
@[push_cast] theorem el10 : elemT Go.Proofs.Try.prog 10 = none := by kernel_rfl
@[push_cast] theorem kt10 : kindT Go.Proofs.Try.prog 10 = some (.str) := by kernel_rfl
@[push_cast] theorem ct10 : concT Go.Proofs.Try.prog 10 = true := by kernel_rfl
@[push_cast] theorem sz11 : szT Go.Proofs.Try.prog 11 = some (1) := by kernel_rfl
@[push_cast] theorem by11 : bytesT Go.Proofs.Try.prog 11 = some (16) := by kernel_rfl
@[push_cast] theorem ag11 : aggT Go.Proofs.Try.prog 11 = some (false) := by kernel_rfl
@[push_cast] theorem zt11 : zeroT Go.Proofs.Try.prog 11 = some ([.str ByteArray.empty]) := by kernel_rfl
@[push_cast] theorem zv11 : zeroV Go.Proofs.Try.prog 11 = some (.str ByteArray.empty) := by kernel_rfl
@[push_cast] theorem u11 : Program.underlying Go.Proofs.Try.prog 11 = some (.string) := by kernel_rfl
@[push_cast] theorem ni11 : notInt Go.Proofs.Try.prog 11 = true := by kernel_rfl
@[push_cast] theorem el11 : elemT Go.Proofs.Try.prog 11 = none := by kernel_rfl
@[push_cast] theorem kt11 : kindT Go.Proofs.Try.prog 11 = some (.str) := by kernel_rfl
@[push_cast] theorem ct11 : concT Go.Proofs.Try.prog 11 = true := by kernel_rfl
@[push_cast] theorem sz12 : szT Go.Proofs.Try.prog 12 = some (1) := by kernel_rfl
@[push_cast] theorem by12 : bytesT Go.Proofs.Try.prog 12 = some (8) := by kernel_rfl
@[push_cast] theorem ag12 : aggT Go.Proofs.Try.prog 12 = some (false) := by kernel_rfl
@[push_cast] theorem zt12 : zeroT Go.Proofs.Try.prog 12 = some ([.int .u64 0]) := by kernel_rfl
@[push_cast] theorem zv12 : zeroV Go.Proofs.Try.prog 12 = some (.int .u64 0) := by kernel_rfl
@[push_cast] theorem u12 : Program.underlying Go.Proofs.Try.prog 12 = some (.int .u64) := by kernel_rfl
@[push_cast] theorem el12 : elemT Go.Proofs.Try.prog 12 = none := by kernel_rfl
@[push_cast] theorem kt12 : kindT Go.Proofs.Try.prog 12 = some (.int .u64) := by kernel_rfl
@[push_cast] theorem ct12 : concT Go.Proofs.Try.prog 12 = true := by kernel_rfl
@[push_cast] theorem sz13 : szT Go.Proofs.Try.prog 13 = some (2) := by kernel_rfl
@[push_cast] theorem by13 : bytesT Go.Proofs.Try.prog 13 = some (24) := by kernel_rfl
@[push_cast] theorem ag13 : aggT Go.Proofs.Try.prog 13 = some (true) := by kernel_rfl
@[push_cast] theorem zt13 : zeroT Go.Proofs.Try.prog 13 = some ([.str ByteArray.empty, .int .u64 0]) := by kernel_rfl
@[push_cast] theorem zv13 : zeroV Go.Proofs.Try.prog 13 = some (.agg [.str ByteArray.empty, .int .u64 0]) := by kernel_rfl
@[push_cast] theorem f13_0 : fieldT Go.Proofs.Try.prog 13 0 = some ((9, 0)) := by kernel_rfl
@[push_cast] theorem f13_1 : fieldT Go.Proofs.Try.prog 13 1 = some ((12, 1)) := by kernel_rfl
@[push_cast] theorem pl13 : placesT Go.Proofs.Try.prog 13 = some ([(0, 1), (1, 1)]) := by kernel_rfl
@[push_cast] theorem ar13 : arrT Go.Proofs.Try.prog 13 = none := by kernel_rfl
@[push_cast] theorem ni13 : notInt Go.Proofs.Try.prog 13 = true := by kernel_rfl
@[push_cast] theorem el13 : elemT Go.Proofs.Try.prog 13 = none := by kernel_rfl
@[push_cast] theorem ct13 : concT Go.Proofs.Try.prog 13 = true := by kernel_rfl
@[push_cast] theorem sz14 : szT Go.Proofs.Try.prog 14 = some (2) := by kernel_rfl
@[push_cast] theorem by14 : bytesT Go.Proofs.Try.prog 14 = some (24) := by kernel_rfl
@[push_cast] theorem ag14 : aggT Go.Proofs.Try.prog 14 = some (true) := by kernel_rfl
@[push_cast] theorem zt14 : zeroT Go.Proofs.Try.prog 14 = some ([.str ByteArray.empty, .int .u64 0]) := by kernel_rfl
@[push_cast] theorem zv14 : zeroV Go.Proofs.Try.prog 14 = some (.agg [.str ByteArray.empty, .int .u64 0]) := by kernel_rfl
@[push_cast] theorem f14_0 : fieldT Go.Proofs.Try.prog 14 0 = some ((9, 0)) := by kernel_rfl
@[push_cast] theorem f14_1 : fieldT Go.Proofs.Try.prog 14 1 = some ((12, 1)) := by kernel_rfl
@[push_cast] theorem pl14 : placesT Go.Proofs.Try.prog 14 = some ([(0, 1), (1, 1)]) := by kernel_rfl
@[push_cast] theorem ar14 : arrT Go.Proofs.Try.prog 14 = none := by kernel_rfl
@[push_cast] theorem ni14 : notInt Go.Proofs.Try.prog 14 = true := by kernel_rfl
@[push_cast] theorem el14 : elemT Go.Proofs.Try.prog 14 = none := by kernel_rfl
@[push_cast] theorem ct14 : concT Go.Proofs.Try.prog 14 = true := by kernel_rfl
@[push_cast] theorem sz15 : szT Go.Proofs.Try.prog 15 = some (1) := by kernel_rfl
@[push_cast] theorem by15 : bytesT Go.Proofs.Try.prog 15 = some (8) := by kernel_rfl
@[push_cast] theorem ag15 : aggT Go.Proofs.Try.prog 15 = some (false) := by kernel_rfl
@[push_cast] theorem zt15 : zeroT Go.Proofs.Try.prog 15 = some ([.nilp]) := by kernel_rfl
@[push_cast] theorem zv15 : zeroV Go.Proofs.Try.prog 15 = some (.nilp) := by kernel_rfl
@[push_cast] theorem u15 : Program.underlying Go.Proofs.Try.prog 15 = some (.pointer 90) := by kernel_rfl
@[push_cast] theorem ni15 : notInt Go.Proofs.Try.prog 15 = true := by kernel_rfl
@[push_cast] theorem el15 : elemT Go.Proofs.Try.prog 15 = none := by kernel_rfl
@[push_cast] theorem ct15 : concT Go.Proofs.Try.prog 15 = true := by kernel_rfl
@[push_cast] theorem sz16 : szT Go.Proofs.Try.prog 16 = some (1) := by kernel_rfl
@[push_cast] theorem by16 : bytesT Go.Proofs.Try.prog 16 = some (8) := by kernel_rfl
@[push_cast] theorem ag16 : aggT Go.Proofs.Try.prog 16 = some (false) := by kernel_rfl
@[push_cast] theorem zt16 : zeroT Go.Proofs.Try.prog 16 = some ([.nilp]) := by kernel_rfl
@[push_cast] theorem zv16 : zeroV Go.Proofs.Try.prog 16 = some (.nilp) := by kernel_rfl
@[push_cast] theorem u16 : Program.underlying Go.Proofs.Try.prog 16 = some (.pointer 93) := by kernel_rfl
@[push_cast] theorem ni16 : notInt Go.Proofs.Try.prog 16 = true := by kernel_rfl
@[push_cast] theorem el16 : elemT Go.Proofs.Try.prog 16 = none := by kernel_rfl
@[push_cast] theorem ct16 : concT Go.Proofs.Try.prog 16 = true := by kernel_rfl
@[push_cast] theorem sz17 : szT Go.Proofs.Try.prog 17 = some (1) := by kernel_rfl
@[push_cast] theorem by17 : bytesT Go.Proofs.Try.prog 17 = some (8) := by kernel_rfl
@[push_cast] theorem ag17 : aggT Go.Proofs.Try.prog 17 = some (false) := by kernel_rfl
@[push_cast] theorem zt17 : zeroT Go.Proofs.Try.prog 17 = some ([.nilp]) := by kernel_rfl
@[push_cast] theorem zv17 : zeroV Go.Proofs.Try.prog 17 = some (.nilp) := by kernel_rfl
@[push_cast] theorem u17 : Program.underlying Go.Proofs.Try.prog 17 = some (.pointer 102) := by kernel_rfl
@[push_cast] theorem ni17 : notInt Go.Proofs.Try.prog 17 = true := by kernel_rfl
@[push_cast] theorem el17 : elemT Go.Proofs.Try.prog 17 = none := by kernel_rfl
@[push_cast] theorem ct17 : concT Go.Proofs.Try.prog 17 = true := by kernel_rfl
@[push_cast] theorem sz18 : szT Go.Proofs.Try.prog 18 = some (1) := by kernel_rfl
@[push_cast] theorem by18 : bytesT Go.Proofs.Try.prog 18 = some (8) := by kernel_rfl
@[push_cast] theorem ag18 : aggT Go.Proofs.Try.prog 18 = some (true) := by kernel_rfl
@[push_cast] theorem zt18 : zeroT Go.Proofs.Try.prog 18 = some ([.nilp]) := by kernel_rfl
@[push_cast] theorem zv18 : zeroV Go.Proofs.Try.prog 18 = some (.agg [.nilp]) := by kernel_rfl
@[push_cast] theorem f18_0 : fieldT Go.Proofs.Try.prog 18 0 = some ((17, 0)) := by kernel_rfl
@[push_cast] theorem pl18 : placesT Go.Proofs.Try.prog 18 = some ([(0, 1)]) := by kernel_rfl
@[push_cast] theorem ar18 : arrT Go.Proofs.Try.prog 18 = none := by kernel_rfl
@[push_cast] theorem ni18 : notInt Go.Proofs.Try.prog 18 = true := by kernel_rfl
@[push_cast] theorem el18 : elemT Go.Proofs.Try.prog 18 = none := by kernel_rfl
@[push_cast] theorem ct18 : concT Go.Proofs.Try.prog 18 = true := by kernel_rfl
@[push_cast] theorem sz19 : szT Go.Proofs.Try.prog 19 = some (1) := by kernel_rfl
@[push_cast] theorem by19 : bytesT Go.Proofs.Try.prog 19 = some (8) := by kernel_rfl
@[push_cast] theorem ag19 : aggT Go.Proofs.Try.prog 19 = some (true) := by kernel_rfl
@[push_cast] theorem zt19 : zeroT Go.Proofs.Try.prog 19 = some ([.nilp]) := by kernel_rfl
@[push_cast] theorem zv19 : zeroV Go.Proofs.Try.prog 19 = some (.agg [.nilp]) := by kernel_rfl
@[push_cast] theorem f19_0 : fieldT Go.Proofs.Try.prog 19 0 = some ((17, 0)) := by kernel_rfl
@[push_cast] theorem pl19 : placesT Go.Proofs.Try.prog 19 = some ([(0, 1)]) := by kernel_rfl
@[push_cast] theorem ar19 : arrT Go.Proofs.Try.prog 19 = none := by kernel_rfl
@[push_cast] theorem ni19 : notInt Go.Proofs.Try.prog 19 = true := by kernel_rfl
@[push_cast] theorem el19 : elemT Go.Proofs.Try.prog 19 = none := by kernel_rfl
@[push_cast] theorem ct19 : concT Go.Proofs.Try.prog 19 = true := by kernel_rfl
@[push_cast] theorem sz20 : szT Go.Proofs.Try.prog 20 = some (1) := by kernel_rfl
@[push_cast] theorem by20 : bytesT Go.Proofs.Try.prog 20 = some (16) := by kernel_rfl
@[push_cast] theorem ag20 : aggT Go.Proofs.Try.prog 20 = some (false) := by kernel_rfl
@[push_cast] theorem zt20 : zeroT Go.Proofs.Try.prog 20 = some ([.nili]) := by kernel_rfl
@[push_cast] theorem zv20 : zeroV Go.Proofs.Try.prog 20 = some (.nili) := by kernel_rfl
@[push_cast] theorem ni20 : notInt Go.Proofs.Try.prog 20 = true := by kernel_rfl
@[push_cast] theorem el20 : elemT Go.Proofs.Try.prog 20 = none := by kernel_rfl
@[push_cast] theorem ct20 : concT Go.Proofs.Try.prog 20 = false := by kernel_rfl
@[push_cast] theorem sz21 : szT Go.Proofs.Try.prog 21 = some (1) := by kernel_rfl
@[push_cast] theorem by21 : bytesT Go.Proofs.Try.prog 21 = some (4) := by kernel_rfl
@[push_cast] theorem ag21 : aggT Go.Proofs.Try.prog 21 = some (false) := by kernel_rfl
@[push_cast] theorem zt21 : zeroT Go.Proofs.Try.prog 21 = some ([.int .i32 0]) := by kernel_rfl
@[push_cast] theorem zv21 : zeroV Go.Proofs.Try.prog 21 = some (.int .i32 0) := by kernel_rfl
@[push_cast] theorem u21 : Program.underlying Go.Proofs.Try.prog 21 = some (.int .i32) := by kernel_rfl
@[push_cast] theorem el21 : elemT Go.Proofs.Try.prog 21 = none := by kernel_rfl
@[push_cast] theorem kt21 : kindT Go.Proofs.Try.prog 21 = some (.int .i32) := by kernel_rfl
@[push_cast] theorem ct21 : concT Go.Proofs.Try.prog 21 = true := by kernel_rfl
@[push_cast] theorem sz22 : szT Go.Proofs.Try.prog 22 = some (1) := by kernel_rfl
@[push_cast] theorem by22 : bytesT Go.Proofs.Try.prog 22 = some (8) := by kernel_rfl
@[push_cast] theorem ag22 : aggT Go.Proofs.Try.prog 22 = some (false) := by kernel_rfl
@[push_cast] theorem zt22 : zeroT Go.Proofs.Try.prog 22 = some ([.int .u64 0]) := by kernel_rfl
@[push_cast] theorem zv22 : zeroV Go.Proofs.Try.prog 22 = some (.int .u64 0) := by kernel_rfl
@[push_cast] theorem u22 : Program.underlying Go.Proofs.Try.prog 22 = some (.int .u64) := by kernel_rfl
@[push_cast] theorem el22 : elemT Go.Proofs.Try.prog 22 = none := by kernel_rfl
@[push_cast] theorem kt22 : kindT Go.Proofs.Try.prog 22 = some (.int .u64) := by kernel_rfl
@[push_cast] theorem ct22 : concT Go.Proofs.Try.prog 22 = true := by kernel_rfl
@[push_cast] theorem sz23 : szT Go.Proofs.Try.prog 23 = some (1) := by kernel_rfl
@[push_cast] theorem by23 : bytesT Go.Proofs.Try.prog 23 = some (24) := by kernel_rfl
@[push_cast] theorem ag23 : aggT Go.Proofs.Try.prog 23 = some (false) := by kernel_rfl
@[push_cast] theorem zt23 : zeroT Go.Proofs.Try.prog 23 = some ([.sl 0 [] .full]) := by kernel_rfl
@[push_cast] theorem zv23 : zeroV Go.Proofs.Try.prog 23 = some (.sl 0 [] .full) := by kernel_rfl
@[push_cast] theorem u23 : Program.underlying Go.Proofs.Try.prog 23 = some (.slice 5) := by kernel_rfl
@[push_cast] theorem ni23 : notInt Go.Proofs.Try.prog 23 = true := by kernel_rfl
@[push_cast] theorem el23 : elemT Go.Proofs.Try.prog 23 = some (5) := by kernel_rfl
@[push_cast] theorem ct23 : concT Go.Proofs.Try.prog 23 = true := by kernel_rfl
@[push_cast] theorem sz24 : szT Go.Proofs.Try.prog 24 = some (1) := by kernel_rfl
@[push_cast] theorem by24 : bytesT Go.Proofs.Try.prog 24 = some (8) := by kernel_rfl
@[push_cast] theorem ag24 : aggT Go.Proofs.Try.prog 24 = some (false) := by kernel_rfl
@[push_cast] theorem zt24 : zeroT Go.Proofs.Try.prog 24 = some ([.nilf]) := by kernel_rfl
@[push_cast] theorem zv24 : zeroV Go.Proofs.Try.prog 24 = some (.nilf) := by kernel_rfl
@[push_cast] theorem ni24 : notInt Go.Proofs.Try.prog 24 = true := by kernel_rfl
@[push_cast] theorem el24 : elemT Go.Proofs.Try.prog 24 = none := by kernel_rfl
@[push_cast] theorem ct24 : concT Go.Proofs.Try.prog 24 = true := by kernel_rfl
@[push_cast] theorem sz25 : szT Go.Proofs.Try.prog 25 = some (1) := by kernel_rfl
@[push_cast] theorem by25 : bytesT Go.Proofs.Try.prog 25 = some (8) := by kernel_rfl
@[push_cast] theorem ag25 : aggT Go.Proofs.Try.prog 25 = some (false) := by kernel_rfl
@[push_cast] theorem zt25 : zeroT Go.Proofs.Try.prog 25 = some ([.nilf]) := by kernel_rfl
@[push_cast] theorem zv25 : zeroV Go.Proofs.Try.prog 25 = some (.nilf) := by kernel_rfl
@[push_cast] theorem ni25 : notInt Go.Proofs.Try.prog 25 = true := by kernel_rfl
@[push_cast] theorem el25 : elemT Go.Proofs.Try.prog 25 = none := by kernel_rfl
@[push_cast] theorem ct25 : concT Go.Proofs.Try.prog 25 = true := by kernel_rfl
@[push_cast] theorem sz26 : szT Go.Proofs.Try.prog 26 = some (1) := by kernel_rfl
@[push_cast] theorem by26 : bytesT Go.Proofs.Try.prog 26 = some (8) := by kernel_rfl
@[push_cast] theorem ag26 : aggT Go.Proofs.Try.prog 26 = some (false) := by kernel_rfl
@[push_cast] theorem zt26 : zeroT Go.Proofs.Try.prog 26 = some ([.nilf]) := by kernel_rfl
@[push_cast] theorem zv26 : zeroV Go.Proofs.Try.prog 26 = some (.nilf) := by kernel_rfl
@[push_cast] theorem ni26 : notInt Go.Proofs.Try.prog 26 = true := by kernel_rfl
@[push_cast] theorem el26 : elemT Go.Proofs.Try.prog 26 = none := by kernel_rfl
@[push_cast] theorem ct26 : concT Go.Proofs.Try.prog 26 = true := by kernel_rfl
@[push_cast] theorem sz27 : szT Go.Proofs.Try.prog 27 = some (1) := by kernel_rfl
@[push_cast] theorem by27 : bytesT Go.Proofs.Try.prog 27 = some (8) := by kernel_rfl
@[push_cast] theorem ag27 : aggT Go.Proofs.Try.prog 27 = some (false) := by kernel_rfl
@[push_cast] theorem zt27 : zeroT Go.Proofs.Try.prog 27 = some ([.nilf]) := by kernel_rfl
@[push_cast] theorem zv27 : zeroV Go.Proofs.Try.prog 27 = some (.nilf) := by kernel_rfl
@[push_cast] theorem ni27 : notInt Go.Proofs.Try.prog 27 = true := by kernel_rfl
@[push_cast] theorem el27 : elemT Go.Proofs.Try.prog 27 = none := by kernel_rfl
@[push_cast] theorem ct27 : concT Go.Proofs.Try.prog 27 = true := by kernel_rfl
@[push_cast] theorem sz28 : szT Go.Proofs.Try.prog 28 = some (1) := by kernel_rfl
@[push_cast] theorem by28 : bytesT Go.Proofs.Try.prog 28 = some (8) := by kernel_rfl
@[push_cast] theorem ag28 : aggT Go.Proofs.Try.prog 28 = some (false) := by kernel_rfl
@[push_cast] theorem zt28 : zeroT Go.Proofs.Try.prog 28 = some ([.nilf]) := by kernel_rfl
@[push_cast] theorem zv28 : zeroV Go.Proofs.Try.prog 28 = some (.nilf) := by kernel_rfl
@[push_cast] theorem ni28 : notInt Go.Proofs.Try.prog 28 = true := by kernel_rfl
@[push_cast] theorem el28 : elemT Go.Proofs.Try.prog 28 = none := by kernel_rfl
@[push_cast] theorem ct28 : concT Go.Proofs.Try.prog 28 = true := by kernel_rfl
@[push_cast] theorem sz29 : szT Go.Proofs.Try.prog 29 = some (1) := by kernel_rfl
@[push_cast] theorem by29 : bytesT Go.Proofs.Try.prog 29 = some (8) := by kernel_rfl
@[push_cast] theorem ag29 : aggT Go.Proofs.Try.prog 29 = some (false) := by kernel_rfl
@[push_cast] theorem zt29 : zeroT Go.Proofs.Try.prog 29 = some ([.int .i64 0]) := by kernel_rfl
@[push_cast] theorem zv29 : zeroV Go.Proofs.Try.prog 29 = some (.int .i64 0) := by kernel_rfl
@[push_cast] theorem u29 : Program.underlying Go.Proofs.Try.prog 29 = some (.int .i64) := by kernel_rfl
@[push_cast] theorem el29 : elemT Go.Proofs.Try.prog 29 = none := by kernel_rfl
@[push_cast] theorem kt29 : kindT Go.Proofs.Try.prog 29 = some (.int .i64) := by kernel_rfl
@[push_cast] theorem ct29 : concT Go.Proofs.Try.prog 29 = true := by kernel_rfl
@[push_cast] theorem sz30 : szT Go.Proofs.Try.prog 30 = some (1) := by kernel_rfl
@[push_cast] theorem by30 : bytesT Go.Proofs.Try.prog 30 = some (0) := by kernel_rfl
@[push_cast] theorem ag30 : aggT Go.Proofs.Try.prog 30 = some (false) := by kernel_rfl
@[push_cast] theorem zt30 : zeroT Go.Proofs.Try.prog 30 = some ([.dead]) := by kernel_rfl
@[push_cast] theorem zv30 : zeroV Go.Proofs.Try.prog 30 = some (.dead) := by kernel_rfl
@[push_cast] theorem ni30 : notInt Go.Proofs.Try.prog 30 = true := by kernel_rfl
@[push_cast] theorem el30 : elemT Go.Proofs.Try.prog 30 = none := by kernel_rfl
@[push_cast] theorem ct30 : concT Go.Proofs.Try.prog 30 = true := by kernel_rfl
@[push_cast] theorem sz31 : szT Go.Proofs.Try.prog 31 = some (1) := by kernel_rfl
@[push_cast] theorem by31 : bytesT Go.Proofs.Try.prog 31 = some (8) := by kernel_rfl
@[push_cast] theorem ag31 : aggT Go.Proofs.Try.prog 31 = some (false) := by kernel_rfl
@[push_cast] theorem zt31 : zeroT Go.Proofs.Try.prog 31 = some ([.nilf]) := by kernel_rfl
@[push_cast] theorem zv31 : zeroV Go.Proofs.Try.prog 31 = some (.nilf) := by kernel_rfl
@[push_cast] theorem ni31 : notInt Go.Proofs.Try.prog 31 = true := by kernel_rfl
@[push_cast] theorem el31 : elemT Go.Proofs.Try.prog 31 = none := by kernel_rfl
@[push_cast] theorem ct31 : concT Go.Proofs.Try.prog 31 = true := by kernel_rfl
@[push_cast] theorem sz32 : szT Go.Proofs.Try.prog 32 = some (1) := by kernel_rfl
@[push_cast] theorem by32 : bytesT Go.Proofs.Try.prog 32 = some (0) := by kernel_rfl
@[push_cast] theorem ag32 : aggT Go.Proofs.Try.prog 32 = some (false) := by kernel_rfl
@[push_cast] theorem zt32 : zeroT Go.Proofs.Try.prog 32 = some ([.dead]) := by kernel_rfl
@[push_cast] theorem zv32 : zeroV Go.Proofs.Try.prog 32 = some (.dead) := by kernel_rfl
@[push_cast] theorem ni32 : notInt Go.Proofs.Try.prog 32 = true := by kernel_rfl
@[push_cast] theorem el32 : elemT Go.Proofs.Try.prog 32 = none := by kernel_rfl
@[push_cast] theorem ct32 : concT Go.Proofs.Try.prog 32 = true := by kernel_rfl
@[push_cast] theorem sz33 : szT Go.Proofs.Try.prog 33 = some (1) := by kernel_rfl
@[push_cast] theorem by33 : bytesT Go.Proofs.Try.prog 33 = some (8) := by kernel_rfl
@[push_cast] theorem ag33 : aggT Go.Proofs.Try.prog 33 = some (false) := by kernel_rfl
@[push_cast] theorem zt33 : zeroT Go.Proofs.Try.prog 33 = some ([.nilf]) := by kernel_rfl
@[push_cast] theorem zv33 : zeroV Go.Proofs.Try.prog 33 = some (.nilf) := by kernel_rfl
@[push_cast] theorem ni33 : notInt Go.Proofs.Try.prog 33 = true := by kernel_rfl
@[push_cast] theorem el33 : elemT Go.Proofs.Try.prog 33 = none := by kernel_rfl
@[push_cast] theorem ct33 : concT Go.Proofs.Try.prog 33 = true := by kernel_rfl
@[push_cast] theorem sz34 : szT Go.Proofs.Try.prog 34 = some (1) := by kernel_rfl
@[push_cast] theorem by34 : bytesT Go.Proofs.Try.prog 34 = some (8) := by kernel_rfl
@[push_cast] theorem ag34 : aggT Go.Proofs.Try.prog 34 = some (false) := by kernel_rfl
@[push_cast] theorem zt34 : zeroT Go.Proofs.Try.prog 34 = some ([.nilf]) := by kernel_rfl
@[push_cast] theorem zv34 : zeroV Go.Proofs.Try.prog 34 = some (.nilf) := by kernel_rfl
@[push_cast] theorem ni34 : notInt Go.Proofs.Try.prog 34 = true := by kernel_rfl
@[push_cast] theorem el34 : elemT Go.Proofs.Try.prog 34 = none := by kernel_rfl
@[push_cast] theorem ct34 : concT Go.Proofs.Try.prog 34 = true := by kernel_rfl
@[push_cast] theorem sz35 : szT Go.Proofs.Try.prog 35 = some (1) := by kernel_rfl
@[push_cast] theorem by35 : bytesT Go.Proofs.Try.prog 35 = some (8) := by kernel_rfl
@[push_cast] theorem ag35 : aggT Go.Proofs.Try.prog 35 = some (false) := by kernel_rfl
@[push_cast] theorem zt35 : zeroT Go.Proofs.Try.prog 35 = some ([.nilf]) := by kernel_rfl
@[push_cast] theorem zv35 : zeroV Go.Proofs.Try.prog 35 = some (.nilf) := by kernel_rfl
@[push_cast] theorem ni35 : notInt Go.Proofs.Try.prog 35 = true := by kernel_rfl
@[push_cast] theorem el35 : elemT Go.Proofs.Try.prog 35 = none := by kernel_rfl
@[push_cast] theorem ct35 : concT Go.Proofs.Try.prog 35 = true := by kernel_rfl
@[push_cast] theorem sz36 : szT Go.Proofs.Try.prog 36 = some (1) := by kernel_rfl
@[push_cast] theorem by36 : bytesT Go.Proofs.Try.prog 36 = some (0) := by kernel_rfl
@[push_cast] theorem ag36 : aggT Go.Proofs.Try.prog 36 = some (false) := by kernel_rfl
@[push_cast] theorem zt36 : zeroT Go.Proofs.Try.prog 36 = some ([.dead]) := by kernel_rfl
@[push_cast] theorem zv36 : zeroV Go.Proofs.Try.prog 36 = some (.dead) := by kernel_rfl
@[push_cast] theorem ni36 : notInt Go.Proofs.Try.prog 36 = true := by kernel_rfl
@[push_cast] theorem el36 : elemT Go.Proofs.Try.prog 36 = none := by kernel_rfl
@[push_cast] theorem ct36 : concT Go.Proofs.Try.prog 36 = true := by kernel_rfl
@[push_cast] theorem sz37 : szT Go.Proofs.Try.prog 37 = some (1) := by kernel_rfl
@[push_cast] theorem by37 : bytesT Go.Proofs.Try.prog 37 = some (8) := by kernel_rfl
@[push_cast] theorem ag37 : aggT Go.Proofs.Try.prog 37 = some (false) := by kernel_rfl
@[push_cast] theorem zt37 : zeroT Go.Proofs.Try.prog 37 = some ([.nilf]) := by kernel_rfl
@[push_cast] theorem zv37 : zeroV Go.Proofs.Try.prog 37 = some (.nilf) := by kernel_rfl
@[push_cast] theorem ni37 : notInt Go.Proofs.Try.prog 37 = true := by kernel_rfl
@[push_cast] theorem el37 : elemT Go.Proofs.Try.prog 37 = none := by kernel_rfl
@[push_cast] theorem ct37 : concT Go.Proofs.Try.prog 37 = true := by kernel_rfl
@[push_cast] theorem sz38 : szT Go.Proofs.Try.prog 38 = some (1) := by kernel_rfl
@[push_cast] theorem by38 : bytesT Go.Proofs.Try.prog 38 = some (8) := by kernel_rfl
@[push_cast] theorem ag38 : aggT Go.Proofs.Try.prog 38 = some (false) := by kernel_rfl
@[push_cast] theorem zt38 : zeroT Go.Proofs.Try.prog 38 = some ([.nilf]) := by kernel_rfl
@[push_cast] theorem zv38 : zeroV Go.Proofs.Try.prog 38 = some (.nilf) := by kernel_rfl
@[push_cast] theorem ni38 : notInt Go.Proofs.Try.prog 38 = true := by kernel_rfl
@[push_cast] theorem el38 : elemT Go.Proofs.Try.prog 38 = none := by kernel_rfl
@[push_cast] theorem ct38 : concT Go.Proofs.Try.prog 38 = true := by kernel_rfl
@[push_cast] theorem sz39 : szT Go.Proofs.Try.prog 39 = some (1) := by kernel_rfl
@[push_cast] theorem by39 : bytesT Go.Proofs.Try.prog 39 = some (8) := by kernel_rfl
@[push_cast] theorem ag39 : aggT Go.Proofs.Try.prog 39 = some (false) := by kernel_rfl
@[push_cast] theorem zt39 : zeroT Go.Proofs.Try.prog 39 = some ([.nilf]) := by kernel_rfl
@[push_cast] theorem zv39 : zeroV Go.Proofs.Try.prog 39 = some (.nilf) := by kernel_rfl
@[push_cast] theorem ni39 : notInt Go.Proofs.Try.prog 39 = true := by kernel_rfl
@[push_cast] theorem el39 : elemT Go.Proofs.Try.prog 39 = none := by kernel_rfl
@[push_cast] theorem ct39 : concT Go.Proofs.Try.prog 39 = true := by kernel_rfl
@[push_cast] theorem sz40 : szT Go.Proofs.Try.prog 40 = some (1) := by kernel_rfl
@[push_cast] theorem by40 : bytesT Go.Proofs.Try.prog 40 = some (24) := by kernel_rfl
@[push_cast] theorem ag40 : aggT Go.Proofs.Try.prog 40 = some (false) := by kernel_rfl
@[push_cast] theorem zt40 : zeroT Go.Proofs.Try.prog 40 = some ([.sl 0 [] .full]) := by kernel_rfl
@[push_cast] theorem zv40 : zeroV Go.Proofs.Try.prog 40 = some (.sl 0 [] .full) := by kernel_rfl
@[push_cast] theorem u40 : Program.underlying Go.Proofs.Try.prog 40 = some (.slice 22) := by kernel_rfl
@[push_cast] theorem ni40 : notInt Go.Proofs.Try.prog 40 = true := by kernel_rfl
@[push_cast] theorem el40 : elemT Go.Proofs.Try.prog 40 = some (22) := by kernel_rfl
@[push_cast] theorem ct40 : concT Go.Proofs.Try.prog 40 = true := by kernel_rfl
@[push_cast] theorem sz41 : szT Go.Proofs.Try.prog 41 = some (1) := by kernel_rfl
@[push_cast] theorem by41 : bytesT Go.Proofs.Try.prog 41 = some (8) := by kernel_rfl
@[push_cast] theorem ag41 : aggT Go.Proofs.Try.prog 41 = some (false) := by kernel_rfl
@[push_cast] theorem zt41 : zeroT Go.Proofs.Try.prog 41 = some ([.nilf]) := by kernel_rfl
@[push_cast] theorem zv41 : zeroV Go.Proofs.Try.prog 41 = some (.nilf) := by kernel_rfl
@[push_cast] theorem ni41 : notInt Go.Proofs.Try.prog 41 = true := by kernel_rfl
@[push_cast] theorem el41 : elemT Go.Proofs.Try.prog 41 = none := by kernel_rfl
@[push_cast] theorem ct41 : concT Go.Proofs.Try.prog 41 = true := by kernel_rfl
@[push_cast] theorem sz42 : szT Go.Proofs.Try.prog 42 = some (1) := by kernel_rfl
@[push_cast] theorem by42 : bytesT Go.Proofs.Try.prog 42 = some (24) := by kernel_rfl
@[push_cast] theorem ag42 : aggT Go.Proofs.Try.prog 42 = some (false) := by kernel_rfl
@[push_cast] theorem zt42 : zeroT Go.Proofs.Try.prog 42 = some ([.sl 0 [] .full]) := by kernel_rfl
@[push_cast] theorem zv42 : zeroV Go.Proofs.Try.prog 42 = some (.sl 0 [] .full) := by kernel_rfl
@[push_cast] theorem u42 : Program.underlying Go.Proofs.Try.prog 42 = some (.slice 50) := by kernel_rfl
@[push_cast] theorem ni42 : notInt Go.Proofs.Try.prog 42 = true := by kernel_rfl
@[push_cast] theorem el42 : elemT Go.Proofs.Try.prog 42 = some (50) := by kernel_rfl
@[push_cast] theorem ct42 : concT Go.Proofs.Try.prog 42 = true := by kernel_rfl
@[push_cast] theorem sz43 : szT Go.Proofs.Try.prog 43 = some (1) := by kernel_rfl
@[push_cast] theorem by43 : bytesT Go.Proofs.Try.prog 43 = some (8) := by kernel_rfl
@[push_cast] theorem ag43 : aggT Go.Proofs.Try.prog 43 = some (false) := by kernel_rfl
@[push_cast] theorem zt43 : zeroT Go.Proofs.Try.prog 43 = some ([.nilp]) := by kernel_rfl
@[push_cast] theorem zv43 : zeroV Go.Proofs.Try.prog 43 = some (.nilp) := by kernel_rfl
@[push_cast] theorem u43 : Program.underlying Go.Proofs.Try.prog 43 = some (.pointer 74) := by kernel_rfl
@[push_cast] theorem ni43 : notInt Go.Proofs.Try.prog 43 = true := by kernel_rfl
@[push_cast] theorem el43 : elemT Go.Proofs.Try.prog 43 = none := by kernel_rfl
@[push_cast] theorem ct43 : concT Go.Proofs.Try.prog 43 = true := by kernel_rfl
@[push_cast] theorem sz44 : szT Go.Proofs.Try.prog 44 = some (1) := by kernel_rfl
@[push_cast] theorem by44 : bytesT Go.Proofs.Try.prog 44 = some (0) := by kernel_rfl
@[push_cast] theorem ag44 : aggT Go.Proofs.Try.prog 44 = some (false) := by kernel_rfl
@[push_cast] theorem zt44 : zeroT Go.Proofs.Try.prog 44 = some ([.dead]) := by kernel_rfl
@[push_cast] theorem zv44 : zeroV Go.Proofs.Try.prog 44 = some (.dead) := by kernel_rfl
@[push_cast] theorem ni44 : notInt Go.Proofs.Try.prog 44 = true := by kernel_rfl
@[push_cast] theorem el44 : elemT Go.Proofs.Try.prog 44 = none := by kernel_rfl
@[push_cast] theorem ct44 : concT Go.Proofs.Try.prog 44 = true := by kernel_rfl
@[push_cast] theorem sz45 : szT Go.Proofs.Try.prog 45 = some (1) := by kernel_rfl
@[push_cast] theorem by45 : bytesT Go.Proofs.Try.prog 45 = some (8) := by kernel_rfl
@[push_cast] theorem ag45 : aggT Go.Proofs.Try.prog 45 = some (false) := by kernel_rfl
@[push_cast] theorem zt45 : zeroT Go.Proofs.Try.prog 45 = some ([.nilf]) := by kernel_rfl
@[push_cast] theorem zv45 : zeroV Go.Proofs.Try.prog 45 = some (.nilf) := by kernel_rfl
@[push_cast] theorem ni45 : notInt Go.Proofs.Try.prog 45 = true := by kernel_rfl
@[push_cast] theorem el45 : elemT Go.Proofs.Try.prog 45 = none := by kernel_rfl
@[push_cast] theorem ct45 : concT Go.Proofs.Try.prog 45 = true := by kernel_rfl
@[push_cast] theorem sz46 : szT Go.Proofs.Try.prog 46 = some (4) := by kernel_rfl
@[push_cast] theorem by46 : bytesT Go.Proofs.Try.prog 46 = some (4) := by kernel_rfl
@[push_cast] theorem ag46 : aggT Go.Proofs.Try.prog 46 = some (true) := by kernel_rfl
@[push_cast] theorem zt46 : zeroT Go.Proofs.Try.prog 46 = some ([.int .u8 0, .int .u8 0, .int .u8 0, .int .u8 0]) := by kernel_rfl
@[push_cast] theorem zv46 : zeroV Go.Proofs.Try.prog 46 = some (.agg [.int .u8 0, .int .u8 0, .int .u8 0, .int .u8 0]) := by kernel_rfl
@[push_cast] theorem u46 : Program.underlying Go.Proofs.Try.prog 46 = some (.array 4 5) := by kernel_rfl
@[push_cast] theorem ni46 : notInt Go.Proofs.Try.prog 46 = true := by kernel_rfl
@[push_cast] theorem el46 : elemT Go.Proofs.Try.prog 46 = none := by kernel_rfl
@[push_cast] theorem ar46 : arrT Go.Proofs.Try.prog 46 = some ((4, 5)) := by kernel_rfl
@[push_cast] theorem kt46 : kindT Go.Proofs.Try.prog 46 = some (.ints 4 .u8) := by kernel_rfl
@[push_cast] theorem es46 : eqShape Go.Proofs.Try.prog 46 = some ([(0, .i), (1, .i), (2, .i), (3, .i)]) := by kernel_rfl
@[push_cast] theorem ct46 : concT Go.Proofs.Try.prog 46 = true := by kernel_rfl
@[push_cast] theorem sz47 : szT Go.Proofs.Try.prog 47 = some (8) := by kernel_rfl
@[push_cast] theorem by47 : bytesT Go.Proofs.Try.prog 47 = some (8) := by kernel_rfl
@[push_cast] theorem ag47 : aggT Go.Proofs.Try.prog 47 = some (true) := by kernel_rfl
@[push_cast] theorem zt47 : zeroT Go.Proofs.Try.prog 47 = some ([.int .u8 0, .int .u8 0, .int .u8 0, .int .u8 0, .int .u8 0, .int .u8 0, .int .u8 0, .int .u8 0]) := by kernel_rfl
@[push_cast] theorem zv47 : zeroV Go.Proofs.Try.prog 47 = some (.agg [.int .u8 0, .int .u8 0, .int .u8 0, .int .u8 0, .int .u8 0, .int .u8 0, .int .u8 0, .int .u8 0]) := by kernel_rfl
@[push_cast] theorem u47 : Program.underlying Go.Proofs.Try.prog 47 = some (.array 2 46) := by kernel_rfl
@[push_cast] theorem ni47 : notInt Go.Proofs.Try.prog 47 = true := by kernel_rfl
@[push_cast] theorem el47 : elemT Go.Proofs.Try.prog 47 = none := by kernel_rfl
@[push_cast] theorem ar47 : arrT Go.Proofs.Try.prog 47 = some ((2, 46)) := by kernel_rfl
@[push_cast] theorem ct47 : concT Go.Proofs.Try.prog 47 = true := by kernel_rfl
@[push_cast] theorem sz48 : szT Go.Proofs.Try.prog 48 = some (2) := by kernel_rfl
@[push_cast] theorem by48 : bytesT Go.Proofs.Try.prog 48 = some (16) := by kernel_rfl
@[push_cast] theorem ag48 : aggT Go.Proofs.Try.prog 48 = some (true) := by kernel_rfl
@[push_cast] theorem zt48 : zeroT Go.Proofs.Try.prog 48 = some ([.int .i64 0, .int .i64 0]) := by kernel_rfl
@[push_cast] theorem zv48 : zeroV Go.Proofs.Try.prog 48 = some (.agg [.int .i64 0, .int .i64 0]) := by kernel_rfl
@[push_cast] theorem u48 : Program.underlying Go.Proofs.Try.prog 48 = some (.array 2 3) := by kernel_rfl
@[push_cast] theorem ni48 : notInt Go.Proofs.Try.prog 48 = true := by kernel_rfl
@[push_cast] theorem el48 : elemT Go.Proofs.Try.prog 48 = none := by kernel_rfl
@[push_cast] theorem ar48 : arrT Go.Proofs.Try.prog 48 = some ((2, 3)) := by kernel_rfl
@[push_cast] theorem kt48 : kindT Go.Proofs.Try.prog 48 = some (.ints 2 .i64) := by kernel_rfl
@[push_cast] theorem es48 : eqShape Go.Proofs.Try.prog 48 = some ([(0, .i), (1, .i)]) := by kernel_rfl
@[push_cast] theorem ct48 : concT Go.Proofs.Try.prog 48 = true := by kernel_rfl
@[push_cast] theorem sz49 : szT Go.Proofs.Try.prog 49 = some (6) := by kernel_rfl
@[push_cast] theorem by49 : bytesT Go.Proofs.Try.prog 49 = some (64) := by kernel_rfl
@[push_cast] theorem ag49 : aggT Go.Proofs.Try.prog 49 = some (true) := by kernel_rfl
@[push_cast] theorem zt49 : zeroT Go.Proofs.Try.prog 49 = some ([.int .i64 0, .int .i64 0, .int .i64 0, .int .i64 0, .int .u8 0, .sl 0 [] .full]) := by kernel_rfl
@[push_cast] theorem zv49 : zeroV Go.Proofs.Try.prog 49 = some (.agg [.int .i64 0, .int .i64 0, .int .i64 0, .int .i64 0, .int .u8 0, .sl 0 [] .full]) := by kernel_rfl
@[push_cast] theorem f49_0 : fieldT Go.Proofs.Try.prog 49 0 = some ((3, 0)) := by kernel_rfl
@[push_cast] theorem f49_1 : fieldT Go.Proofs.Try.prog 49 1 = some ((3, 1)) := by kernel_rfl
@[push_cast] theorem f49_2 : fieldT Go.Proofs.Try.prog 49 2 = some ((3, 2)) := by kernel_rfl
@[push_cast] theorem f49_3 : fieldT Go.Proofs.Try.prog 49 3 = some ((3, 3)) := by kernel_rfl
@[push_cast] theorem f49_4 : fieldT Go.Proofs.Try.prog 49 4 = some ((5, 4)) := by kernel_rfl
@[push_cast] theorem f49_5 : fieldT Go.Proofs.Try.prog 49 5 = some ((23, 5)) := by kernel_rfl
@[push_cast] theorem pl49 : placesT Go.Proofs.Try.prog 49 = some ([(0, 1), (1, 1), (2, 1), (3, 1), (4, 1), (5, 1)]) := by kernel_rfl
@[push_cast] theorem ar49 : arrT Go.Proofs.Try.prog 49 = none := by kernel_rfl
@[push_cast] theorem ni49 : notInt Go.Proofs.Try.prog 49 = true := by kernel_rfl
@[push_cast] theorem el49 : elemT Go.Proofs.Try.prog 49 = none := by kernel_rfl
@[push_cast] theorem ct49 : concT Go.Proofs.Try.prog 49 = true := by kernel_rfl
@[push_cast] theorem sz50 : szT Go.Proofs.Try.prog 50 = some (6) := by kernel_rfl
@[push_cast] theorem by50 : bytesT Go.Proofs.Try.prog 50 = some (64) := by kernel_rfl
@[push_cast] theorem ag50 : aggT Go.Proofs.Try.prog 50 = some (true) := by kernel_rfl
@[push_cast] theorem zt50 : zeroT Go.Proofs.Try.prog 50 = some ([.int .i64 0, .int .i64 0, .int .i64 0, .int .i64 0, .int .u8 0, .sl 0 [] .full]) := by kernel_rfl
@[push_cast] theorem zv50 : zeroV Go.Proofs.Try.prog 50 = some (.agg [.int .i64 0, .int .i64 0, .int .i64 0, .int .i64 0, .int .u8 0, .sl 0 [] .full]) := by kernel_rfl
@[push_cast] theorem f50_0 : fieldT Go.Proofs.Try.prog 50 0 = some ((3, 0)) := by kernel_rfl
@[push_cast] theorem f50_1 : fieldT Go.Proofs.Try.prog 50 1 = some ((3, 1)) := by kernel_rfl
@[push_cast] theorem f50_2 : fieldT Go.Proofs.Try.prog 50 2 = some ((3, 2)) := by kernel_rfl
@[push_cast] theorem f50_3 : fieldT Go.Proofs.Try.prog 50 3 = some ((3, 3)) := by kernel_rfl
@[push_cast] theorem f50_4 : fieldT Go.Proofs.Try.prog 50 4 = some ((5, 4)) := by kernel_rfl
@[push_cast] theorem f50_5 : fieldT Go.Proofs.Try.prog 50 5 = some ((23, 5)) := by kernel_rfl
@[push_cast] theorem pl50 : placesT Go.Proofs.Try.prog 50 = some ([(0, 1), (1, 1), (2, 1), (3, 1), (4, 1), (5, 1)]) := by kernel_rfl
@[push_cast] theorem ar50 : arrT Go.Proofs.Try.prog 50 = none := by kernel_rfl
@[push_cast] theorem ni50 : notInt Go.Proofs.Try.prog 50 = true := by kernel_rfl
@[push_cast] theorem el50 : elemT Go.Proofs.Try.prog 50 = none := by kernel_rfl
@[push_cast] theorem ct50 : concT Go.Proofs.Try.prog 50 = true := by kernel_rfl
@[push_cast] theorem sz51 : szT Go.Proofs.Try.prog 51 = some (1) := by kernel_rfl
@[push_cast] theorem by51 : bytesT Go.Proofs.Try.prog 51 = some (8) := by kernel_rfl
@[push_cast] theorem ag51 : aggT Go.Proofs.Try.prog 51 = some (false) := by kernel_rfl
@[push_cast] theorem zt51 : zeroT Go.Proofs.Try.prog 51 = some ([.nilf]) := by kernel_rfl
@[push_cast] theorem zv51 : zeroV Go.Proofs.Try.prog 51 = some (.nilf) := by kernel_rfl
@[push_cast] theorem ni51 : notInt Go.Proofs.Try.prog 51 = true := by kernel_rfl
@[push_cast] theorem el51 : elemT Go.Proofs.Try.prog 51 = none := by kernel_rfl
@[push_cast] theorem ct51 : concT Go.Proofs.Try.prog 51 = true := by kernel_rfl
@[push_cast] theorem sz52 : szT Go.Proofs.Try.prog 52 = some (1) := by kernel_rfl
@[push_cast] theorem by52 : bytesT Go.Proofs.Try.prog 52 = some (8) := by kernel_rfl
@[push_cast] theorem ag52 : aggT Go.Proofs.Try.prog 52 = some (false) := by kernel_rfl
@[push_cast] theorem zt52 : zeroT Go.Proofs.Try.prog 52 = some ([.nilf]) := by kernel_rfl
@[push_cast] theorem zv52 : zeroV Go.Proofs.Try.prog 52 = some (.nilf) := by kernel_rfl
@[push_cast] theorem ni52 : notInt Go.Proofs.Try.prog 52 = true := by kernel_rfl
@[push_cast] theorem el52 : elemT Go.Proofs.Try.prog 52 = none := by kernel_rfl
@[push_cast] theorem ct52 : concT Go.Proofs.Try.prog 52 = true := by kernel_rfl
@[push_cast] theorem sz53 : szT Go.Proofs.Try.prog 53 = some (1) := by kernel_rfl
@[push_cast] theorem by53 : bytesT Go.Proofs.Try.prog 53 = some (8) := by kernel_rfl
@[push_cast] theorem ag53 : aggT Go.Proofs.Try.prog 53 = some (false) := by kernel_rfl
@[push_cast] theorem zt53 : zeroT Go.Proofs.Try.prog 53 = some ([.nilf]) := by kernel_rfl
@[push_cast] theorem zv53 : zeroV Go.Proofs.Try.prog 53 = some (.nilf) := by kernel_rfl
@[push_cast] theorem ni53 : notInt Go.Proofs.Try.prog 53 = true := by kernel_rfl
@[push_cast] theorem el53 : elemT Go.Proofs.Try.prog 53 = none := by kernel_rfl
@[push_cast] theorem ct53 : concT Go.Proofs.Try.prog 53 = true := by kernel_rfl
@[push_cast] theorem sz54 : szT Go.Proofs.Try.prog 54 = some (1) := by kernel_rfl
@[push_cast] theorem by54 : bytesT Go.Proofs.Try.prog 54 = some (0) := by kernel_rfl
@[push_cast] theorem ag54 : aggT Go.Proofs.Try.prog 54 = some (false) := by kernel_rfl
@[push_cast] theorem zt54 : zeroT Go.Proofs.Try.prog 54 = some ([.dead]) := by kernel_rfl
@[push_cast] theorem zv54 : zeroV Go.Proofs.Try.prog 54 = some (.dead) := by kernel_rfl
@[push_cast] theorem ni54 : notInt Go.Proofs.Try.prog 54 = true := by kernel_rfl
@[push_cast] theorem el54 : elemT Go.Proofs.Try.prog 54 = none := by kernel_rfl
@[push_cast] theorem ct54 : concT Go.Proofs.Try.prog 54 = true := by kernel_rfl
@[push_cast] theorem sz55 : szT Go.Proofs.Try.prog 55 = some (1) := by kernel_rfl
@[push_cast] theorem by55 : bytesT Go.Proofs.Try.prog 55 = some (8) := by kernel_rfl
@[push_cast] theorem ag55 : aggT Go.Proofs.Try.prog 55 = some (false) := by kernel_rfl
@[push_cast] theorem zt55 : zeroT Go.Proofs.Try.prog 55 = some ([.nilf]) := by kernel_rfl
@[push_cast] theorem zv55 : zeroV Go.Proofs.Try.prog 55 = some (.nilf) := by kernel_rfl
@[push_cast] theorem ni55 : notInt Go.Proofs.Try.prog 55 = true := by kernel_rfl
@[push_cast] theorem el55 : elemT Go.Proofs.Try.prog 55 = none := by kernel_rfl
@[push_cast] theorem ct55 : concT Go.Proofs.Try.prog 55 = true := by kernel_rfl
@[push_cast] theorem sz56 : szT Go.Proofs.Try.prog 56 = some (1) := by kernel_rfl
@[push_cast] theorem by56 : bytesT Go.Proofs.Try.prog 56 = some (8) := by kernel_rfl
@[push_cast] theorem ag56 : aggT Go.Proofs.Try.prog 56 = some (false) := by kernel_rfl
@[push_cast] theorem zt56 : zeroT Go.Proofs.Try.prog 56 = some ([.nilf]) := by kernel_rfl
@[push_cast] theorem zv56 : zeroV Go.Proofs.Try.prog 56 = some (.nilf) := by kernel_rfl
@[push_cast] theorem ni56 : notInt Go.Proofs.Try.prog 56 = true := by kernel_rfl
@[push_cast] theorem el56 : elemT Go.Proofs.Try.prog 56 = none := by kernel_rfl
@[push_cast] theorem ct56 : concT Go.Proofs.Try.prog 56 = true := by kernel_rfl
@[push_cast] theorem sz57 : szT Go.Proofs.Try.prog 57 = some (1) := by kernel_rfl
@[push_cast] theorem by57 : bytesT Go.Proofs.Try.prog 57 = some (8) := by kernel_rfl
@[push_cast] theorem ag57 : aggT Go.Proofs.Try.prog 57 = some (false) := by kernel_rfl
@[push_cast] theorem zt57 : zeroT Go.Proofs.Try.prog 57 = some ([.nilf]) := by kernel_rfl
@[push_cast] theorem zv57 : zeroV Go.Proofs.Try.prog 57 = some (.nilf) := by kernel_rfl
@[push_cast] theorem ni57 : notInt Go.Proofs.Try.prog 57 = true := by kernel_rfl
@[push_cast] theorem el57 : elemT Go.Proofs.Try.prog 57 = none := by kernel_rfl
@[push_cast] theorem ct57 : concT Go.Proofs.Try.prog 57 = true := by kernel_rfl
@[push_cast] theorem sz58 : szT Go.Proofs.Try.prog 58 = some (4) := by kernel_rfl
@[push_cast] theorem by58 : bytesT Go.Proofs.Try.prog 58 = some (96) := by kernel_rfl
@[push_cast] theorem ag58 : aggT Go.Proofs.Try.prog 58 = some (true) := by kernel_rfl
@[push_cast] theorem zt58 : zeroT Go.Proofs.Try.prog 58 = some ([.sl 0 [] .full, .sl 0 [] .full, .sl 0 [] .full, .sl 0 [] .full]) := by kernel_rfl
@[push_cast] theorem zv58 : zeroV Go.Proofs.Try.prog 58 = some (.agg [.sl 0 [] .full, .sl 0 [] .full, .sl 0 [] .full, .sl 0 [] .full]) := by kernel_rfl
@[push_cast] theorem u58 : Program.underlying Go.Proofs.Try.prog 58 = some (.array 4 23) := by kernel_rfl
@[push_cast] theorem ni58 : notInt Go.Proofs.Try.prog 58 = true := by kernel_rfl
@[push_cast] theorem el58 : elemT Go.Proofs.Try.prog 58 = none := by kernel_rfl
@[push_cast] theorem ar58 : arrT Go.Proofs.Try.prog 58 = some ((4, 23)) := by kernel_rfl
@[push_cast] theorem ct58 : concT Go.Proofs.Try.prog 58 = true := by kernel_rfl
@[push_cast] theorem sz59 : szT Go.Proofs.Try.prog 59 = some (8) := by kernel_rfl
@[push_cast] theorem by59 : bytesT Go.Proofs.Try.prog 59 = some (192) := by kernel_rfl
@[push_cast] theorem ag59 : aggT Go.Proofs.Try.prog 59 = some (true) := by kernel_rfl
@[push_cast] theorem zt59 : zeroT Go.Proofs.Try.prog 59 = some ([.sl 0 [] .full, .sl 0 [] .full, .sl 0 [] .full, .sl 0 [] .full, .sl 0 [] .full, .sl 0 [] .full, .sl 0 [] .full, .sl 0 [] .full]) := by kernel_rfl
@[push_cast] theorem zv59 : zeroV Go.Proofs.Try.prog 59 = some (.agg [.sl 0 [] .full, .sl 0 [] .full, .sl 0 [] .full, .sl 0 [] .full, .sl 0 [] .full, .sl 0 [] .full, .sl 0 [] .full, .sl 0 [] .full]) := by kernel_rfl
@[push_cast] theorem u59 : Program.underlying Go.Proofs.Try.prog 59 = some (.array 2 58) := by kernel_rfl
@[push_cast] theorem ni59 : notInt Go.Proofs.Try.prog 59 = true := by kernel_rfl
@[push_cast] theorem el59 : elemT Go.Proofs.Try.prog 59 = none := by kernel_rfl
@[push_cast] theorem ar59 : arrT Go.Proofs.Try.prog 59 = some ((2, 58)) := by kernel_rfl
@[push_cast] theorem ct59 : concT Go.Proofs.Try.prog 59 = true := by kernel_rfl
@[push_cast] theorem sz60 : szT Go.Proofs.Try.prog 60 = some (1) := by kernel_rfl
@[push_cast] theorem by60 : bytesT Go.Proofs.Try.prog 60 = some (8) := by kernel_rfl
@[push_cast] theorem ag60 : aggT Go.Proofs.Try.prog 60 = some (false) := by kernel_rfl
@[push_cast] theorem zt60 : zeroT Go.Proofs.Try.prog 60 = some ([.nilf]) := by kernel_rfl
@[push_cast] theorem zv60 : zeroV Go.Proofs.Try.prog 60 = some (.nilf) := by kernel_rfl
@[push_cast] theorem ni60 : notInt Go.Proofs.Try.prog 60 = true := by kernel_rfl
@[push_cast] theorem el60 : elemT Go.Proofs.Try.prog 60 = none := by kernel_rfl
@[push_cast] theorem ct60 : concT Go.Proofs.Try.prog 60 = true := by kernel_rfl
@[push_cast] theorem sz61 : szT Go.Proofs.Try.prog 61 = some (1) := by kernel_rfl
@[push_cast] theorem by61 : bytesT Go.Proofs.Try.prog 61 = some (8) := by kernel_rfl
@[push_cast] theorem ag61 : aggT Go.Proofs.Try.prog 61 = some (false) := by kernel_rfl
@[push_cast] theorem zt61 : zeroT Go.Proofs.Try.prog 61 = some ([.nilf]) := by kernel_rfl
@[push_cast] theorem zv61 : zeroV Go.Proofs.Try.prog 61 = some (.nilf) := by kernel_rfl
@[push_cast] theorem ni61 : notInt Go.Proofs.Try.prog 61 = true := by kernel_rfl
@[push_cast] theorem el61 : elemT Go.Proofs.Try.prog 61 = none := by kernel_rfl
@[push_cast] theorem ct61 : concT Go.Proofs.Try.prog 61 = true := by kernel_rfl
@[push_cast] theorem sz62 : szT Go.Proofs.Try.prog 62 = some (1) := by kernel_rfl
@[push_cast] theorem by62 : bytesT Go.Proofs.Try.prog 62 = some (8) := by kernel_rfl
@[push_cast] theorem ag62 : aggT Go.Proofs.Try.prog 62 = some (false) := by kernel_rfl
@[push_cast] theorem zt62 : zeroT Go.Proofs.Try.prog 62 = some ([.nilf]) := by kernel_rfl
@[push_cast] theorem zv62 : zeroV Go.Proofs.Try.prog 62 = some (.nilf) := by kernel_rfl
@[push_cast] theorem ni62 : notInt Go.Proofs.Try.prog 62 = true := by kernel_rfl
@[push_cast] theorem el62 : elemT Go.Proofs.Try.prog 62 = none := by kernel_rfl
@[push_cast] theorem ct62 : concT Go.Proofs.Try.prog 62 = true := by kernel_rfl
@[push_cast] theorem sz63 : szT Go.Proofs.Try.prog 63 = some (1) := by kernel_rfl
@[push_cast] theorem by63 : bytesT Go.Proofs.Try.prog 63 = some (8) := by kernel_rfl
@[push_cast] theorem ag63 : aggT Go.Proofs.Try.prog 63 = some (false) := by kernel_rfl
@[push_cast] theorem zt63 : zeroT Go.Proofs.Try.prog 63 = some ([.nilp]) := by kernel_rfl
@[push_cast] theorem zv63 : zeroV Go.Proofs.Try.prog 63 = some (.nilp) := by kernel_rfl
@[push_cast] theorem u63 : Program.underlying Go.Proofs.Try.prog 63 = some (.pointer 69) := by kernel_rfl
@[push_cast] theorem ni63 : notInt Go.Proofs.Try.prog 63 = true := by kernel_rfl
@[push_cast] theorem el63 : elemT Go.Proofs.Try.prog 63 = none := by kernel_rfl
@[push_cast] theorem ct63 : concT Go.Proofs.Try.prog 63 = true := by kernel_rfl
@[push_cast] theorem sz64 : szT Go.Proofs.Try.prog 64 = some (1) := by kernel_rfl
@[push_cast] theorem by64 : bytesT Go.Proofs.Try.prog 64 = some (0) := by kernel_rfl
@[push_cast] theorem ag64 : aggT Go.Proofs.Try.prog 64 = some (false) := by kernel_rfl
@[push_cast] theorem zt64 : zeroT Go.Proofs.Try.prog 64 = some ([.dead]) := by kernel_rfl
@[push_cast] theorem zv64 : zeroV Go.Proofs.Try.prog 64 = some (.dead) := by kernel_rfl
@[push_cast] theorem ni64 : notInt Go.Proofs.Try.prog 64 = true := by kernel_rfl
@[push_cast] theorem el64 : elemT Go.Proofs.Try.prog 64 = none := by kernel_rfl
@[push_cast] theorem ct64 : concT Go.Proofs.Try.prog 64 = true := by kernel_rfl
@[push_cast] theorem sz65 : szT Go.Proofs.Try.prog 65 = some (1) := by kernel_rfl
@[push_cast] theorem by65 : bytesT Go.Proofs.Try.prog 65 = some (8) := by kernel_rfl
@[push_cast] theorem ag65 : aggT Go.Proofs.Try.prog 65 = some (false) := by kernel_rfl
@[push_cast] theorem zt65 : zeroT Go.Proofs.Try.prog 65 = some ([.nilf]) := by kernel_rfl
@[push_cast] theorem zv65 : zeroV Go.Proofs.Try.prog 65 = some (.nilf) := by kernel_rfl
@[push_cast] theorem ni65 : notInt Go.Proofs.Try.prog 65 = true := by kernel_rfl
@[push_cast] theorem el65 : elemT Go.Proofs.Try.prog 65 = none := by kernel_rfl
@[push_cast] theorem ct65 : concT Go.Proofs.Try.prog 65 = true := by kernel_rfl
@[push_cast] theorem sz66 : szT Go.Proofs.Try.prog 66 = some (1) := by kernel_rfl
@[push_cast] theorem by66 : bytesT Go.Proofs.Try.prog 66 = some (8) := by kernel_rfl
@[push_cast] theorem ag66 : aggT Go.Proofs.Try.prog 66 = some (false) := by kernel_rfl
@[push_cast] theorem zt66 : zeroT Go.Proofs.Try.prog 66 = some ([.nilf]) := by kernel_rfl
@[push_cast] theorem zv66 : zeroV Go.Proofs.Try.prog 66 = some (.nilf) := by kernel_rfl
@[push_cast] theorem ni66 : notInt Go.Proofs.Try.prog 66 = true := by kernel_rfl
@[push_cast] theorem el66 : elemT Go.Proofs.Try.prog 66 = none := by kernel_rfl
@[push_cast] theorem ct66 : concT Go.Proofs.Try.prog 66 = true := by kernel_rfl
@[push_cast] theorem sz67 : szT Go.Proofs.Try.prog 67 = some (1) := by kernel_rfl
@[push_cast] theorem by67 : bytesT Go.Proofs.Try.prog 67 = some (24) := by kernel_rfl
@[push_cast] theorem ag67 : aggT Go.Proofs.Try.prog 67 = some (false) := by kernel_rfl
@[push_cast] theorem zt67 : zeroT Go.Proofs.Try.prog 67 = some ([.sl 0 [] .full]) := by kernel_rfl
@[push_cast] theorem zv67 : zeroV Go.Proofs.Try.prog 67 = some (.sl 0 [] .full) := by kernel_rfl
@[push_cast] theorem u67 : Program.underlying Go.Proofs.Try.prog 67 = some (.slice 86) := by kernel_rfl
@[push_cast] theorem ni67 : notInt Go.Proofs.Try.prog 67 = true := by kernel_rfl
@[push_cast] theorem el67 : elemT Go.Proofs.Try.prog 67 = some (86) := by kernel_rfl
@[push_cast] theorem ct67 : concT Go.Proofs.Try.prog 67 = true := by kernel_rfl
@[push_cast] theorem sz68 : szT Go.Proofs.Try.prog 68 = some (5) := by kernel_rfl
@[push_cast] theorem by68 : bytesT Go.Proofs.Try.prog 68 = some (56) := by kernel_rfl
@[push_cast] theorem ag68 : aggT Go.Proofs.Try.prog 68 = some (true) := by kernel_rfl
@[push_cast] theorem zt68 : zeroT Go.Proofs.Try.prog 68 = some ([.int .i64 0, .sl 0 [] .full, .int .i64 0, .int .i64 0, .bool false]) := by kernel_rfl
@[push_cast] theorem zv68 : zeroV Go.Proofs.Try.prog 68 = some (.agg [.int .i64 0, .sl 0 [] .full, .int .i64 0, .int .i64 0, .bool false]) := by kernel_rfl
@[push_cast] theorem f68_0 : fieldT Go.Proofs.Try.prog 68 0 = some ((3, 0)) := by kernel_rfl
@[push_cast] theorem f68_1 : fieldT Go.Proofs.Try.prog 68 1 = some ((67, 1)) := by kernel_rfl
@[push_cast] theorem f68_2 : fieldT Go.Proofs.Try.prog 68 2 = some ((3, 2)) := by kernel_rfl
@[push_cast] theorem f68_3 : fieldT Go.Proofs.Try.prog 68 3 = some ((3, 3)) := by kernel_rfl
@[push_cast] theorem f68_4 : fieldT Go.Proofs.Try.prog 68 4 = some ((4, 4)) := by kernel_rfl
@[push_cast] theorem pl68 : placesT Go.Proofs.Try.prog 68 = some ([(0, 1), (1, 1), (2, 1), (3, 1), (4, 1)]) := by kernel_rfl
@[push_cast] theorem ar68 : arrT Go.Proofs.Try.prog 68 = none := by kernel_rfl
@[push_cast] theorem ni68 : notInt Go.Proofs.Try.prog 68 = true := by kernel_rfl
@[push_cast] theorem el68 : elemT Go.Proofs.Try.prog 68 = none := by kernel_rfl
@[push_cast] theorem ct68 : concT Go.Proofs.Try.prog 68 = true := by kernel_rfl
@[push_cast] theorem sz69 : szT Go.Proofs.Try.prog 69 = some (5) := by kernel_rfl
@[push_cast] theorem by69 : bytesT Go.Proofs.Try.prog 69 = some (56) := by kernel_rfl
@[push_cast] theorem ag69 : aggT Go.Proofs.Try.prog 69 = some (true) := by kernel_rfl
@[push_cast] theorem zt69 : zeroT Go.Proofs.Try.prog 69 = some ([.int .i64 0, .sl 0 [] .full, .int .i64 0, .int .i64 0, .bool false]) := by kernel_rfl
@[push_cast] theorem zv69 : zeroV Go.Proofs.Try.prog 69 = some (.agg [.int .i64 0, .sl 0 [] .full, .int .i64 0, .int .i64 0, .bool false]) := by kernel_rfl
@[push_cast] theorem f69_0 : fieldT Go.Proofs.Try.prog 69 0 = some ((3, 0)) := by kernel_rfl
@[push_cast] theorem f69_1 : fieldT Go.Proofs.Try.prog 69 1 = some ((67, 1)) := by kernel_rfl
@[push_cast] theorem f69_2 : fieldT Go.Proofs.Try.prog 69 2 = some ((3, 2)) := by kernel_rfl
@[push_cast] theorem f69_3 : fieldT Go.Proofs.Try.prog 69 3 = some ((3, 3)) := by kernel_rfl
@[push_cast] theorem f69_4 : fieldT Go.Proofs.Try.prog 69 4 = some ((4, 4)) := by kernel_rfl
@[push_cast] theorem pl69 : placesT Go.Proofs.Try.prog 69 = some ([(0, 1), (1, 1), (2, 1), (3, 1), (4, 1)]) := by kernel_rfl
@[push_cast] theorem ar69 : arrT Go.Proofs.Try.prog 69 = none := by kernel_rfl
@[push_cast] theorem ni69 : notInt Go.Proofs.Try.prog 69 = true := by kernel_rfl
@[push_cast] theorem el69 : elemT Go.Proofs.Try.prog 69 = none := by kernel_rfl
@[push_cast] theorem ct69 : concT Go.Proofs.Try.prog 69 = true := by kernel_rfl
@[push_cast] theorem sz70 : szT Go.Proofs.Try.prog 70 = some (1) := by kernel_rfl
@[push_cast] theorem by70 : bytesT Go.Proofs.Try.prog 70 = some (8) := by kernel_rfl
@[push_cast] theorem ag70 : aggT Go.Proofs.Try.prog 70 = some (false) := by kernel_rfl
@[push_cast] theorem zt70 : zeroT Go.Proofs.Try.prog 70 = some ([.nilf]) := by kernel_rfl
@[push_cast] theorem zv70 : zeroV Go.Proofs.Try.prog 70 = some (.nilf) := by kernel_rfl
@[push_cast] theorem ni70 : notInt Go.Proofs.Try.prog 70 = true := by kernel_rfl
@[push_cast] theorem el70 : elemT Go.Proofs.Try.prog 70 = none := by kernel_rfl
@[push_cast] theorem ct70 : concT Go.Proofs.Try.prog 70 = true := by kernel_rfl
@[push_cast] theorem sz71 : szT Go.Proofs.Try.prog 71 = some (1) := by kernel_rfl
@[push_cast] theorem by71 : bytesT Go.Proofs.Try.prog 71 = some (8) := by kernel_rfl
@[push_cast] theorem ag71 : aggT Go.Proofs.Try.prog 71 = some (false) := by kernel_rfl
@[push_cast] theorem zt71 : zeroT Go.Proofs.Try.prog 71 = some ([.nilm]) := by kernel_rfl
@[push_cast] theorem zv71 : zeroV Go.Proofs.Try.prog 71 = some (.nilm) := by kernel_rfl
@[push_cast] theorem u71 : Program.underlying Go.Proofs.Try.prog 71 = some (.map 80 23) := by kernel_rfl
@[push_cast] theorem ni71 : notInt Go.Proofs.Try.prog 71 = true := by kernel_rfl
@[push_cast] theorem el71 : elemT Go.Proofs.Try.prog 71 = none := by kernel_rfl
@[push_cast] theorem mt71 : mapT Go.Proofs.Try.prog 71 = some ((80, 23)) := by kernel_rfl
@[push_cast] theorem ct71 : concT Go.Proofs.Try.prog 71 = true := by kernel_rfl
@[push_cast] theorem sz72 : szT Go.Proofs.Try.prog 72 = some (1) := by kernel_rfl
@[push_cast] theorem by72 : bytesT Go.Proofs.Try.prog 72 = some (24) := by kernel_rfl
@[push_cast] theorem ag72 : aggT Go.Proofs.Try.prog 72 = some (false) := by kernel_rfl
@[push_cast] theorem zt72 : zeroT Go.Proofs.Try.prog 72 = some ([.sl 0 [] .full]) := by kernel_rfl
@[push_cast] theorem zv72 : zeroV Go.Proofs.Try.prog 72 = some (.sl 0 [] .full) := by kernel_rfl
@[push_cast] theorem u72 : Program.underlying Go.Proofs.Try.prog 72 = some (.slice 83) := by kernel_rfl
@[push_cast] theorem ni72 : notInt Go.Proofs.Try.prog 72 = true := by kernel_rfl
@[push_cast] theorem el72 : elemT Go.Proofs.Try.prog 72 = some (83) := by kernel_rfl
@[push_cast] theorem ct72 : concT Go.Proofs.Try.prog 72 = true := by kernel_rfl
@[push_cast] theorem sz73 : szT Go.Proofs.Try.prog 73 = some (10) := by kernel_rfl
@[push_cast] theorem by73 : bytesT Go.Proofs.Try.prog 73 = some (96) := by kernel_rfl
@[push_cast] theorem ag73 : aggT Go.Proofs.Try.prog 73 = some (true) := by kernel_rfl
@[push_cast] theorem zt73 : zeroT Go.Proofs.Try.prog 73 = some ([.int .i64 0, .nilm, .nilm, .int .i64 0, .int .i64 0, .sl 0 [] .full, .int .i64 0, .bool false, .int .i64 0, .bool false]) := by kernel_rfl
@[push_cast] theorem zv73 : zeroV Go.Proofs.Try.prog 73 = some (.agg [.int .i64 0, .nilm, .nilm, .int .i64 0, .int .i64 0, .sl 0 [] .full, .int .i64 0, .bool false, .int .i64 0, .bool false]) := by kernel_rfl
@[push_cast] theorem f73_0 : fieldT Go.Proofs.Try.prog 73 0 = some ((3, 0)) := by kernel_rfl
@[push_cast] theorem f73_1 : fieldT Go.Proofs.Try.prog 73 1 = some ((71, 1)) := by kernel_rfl
@[push_cast] theorem f73_2 : fieldT Go.Proofs.Try.prog 73 2 = some ((71, 2)) := by kernel_rfl
@[push_cast] theorem f73_3 : fieldT Go.Proofs.Try.prog 73 3 = some ((48, 3)) := by kernel_rfl
@[push_cast] theorem f73_4 : fieldT Go.Proofs.Try.prog 73 4 = some ((72, 5)) := by kernel_rfl
@[push_cast] theorem f73_5 : fieldT Go.Proofs.Try.prog 73 5 = some ((3, 6)) := by kernel_rfl
@[push_cast] theorem f73_6 : fieldT Go.Proofs.Try.prog 73 6 = some ((4, 7)) := by kernel_rfl
@[push_cast] theorem f73_7 : fieldT Go.Proofs.Try.prog 73 7 = some ((3, 8)) := by kernel_rfl
@[push_cast] theorem f73_8 : fieldT Go.Proofs.Try.prog 73 8 = some ((4, 9)) := by kernel_rfl
@[push_cast] theorem pl73 : placesT Go.Proofs.Try.prog 73 = some ([(0, 1), (1, 1), (2, 1), (3, 2), (5, 1), (6, 1), (7, 1), (8, 1), (9, 1)]) := by kernel_rfl
@[push_cast] theorem ar73 : arrT Go.Proofs.Try.prog 73 = none := by kernel_rfl
@[push_cast] theorem ni73 : notInt Go.Proofs.Try.prog 73 = true := by kernel_rfl
@[push_cast] theorem el73 : elemT Go.Proofs.Try.prog 73 = none := by kernel_rfl
@[push_cast] theorem ct73 : concT Go.Proofs.Try.prog 73 = true := by kernel_rfl
@[push_cast] theorem sz74 : szT Go.Proofs.Try.prog 74 = some (10) := by kernel_rfl
@[push_cast] theorem by74 : bytesT Go.Proofs.Try.prog 74 = some (96) := by kernel_rfl
@[push_cast] theorem ag74 : aggT Go.Proofs.Try.prog 74 = some (true) := by kernel_rfl
@[push_cast] theorem zt74 : zeroT Go.Proofs.Try.prog 74 = some ([.int .i64 0, .nilm, .nilm, .int .i64 0, .int .i64 0, .sl 0 [] .full, .int .i64 0, .bool false, .int .i64 0, .bool false]) := by kernel_rfl
@[push_cast] theorem zv74 : zeroV Go.Proofs.Try.prog 74 = some (.agg [.int .i64 0, .nilm, .nilm, .int .i64 0, .int .i64 0, .sl 0 [] .full, .int .i64 0, .bool false, .int .i64 0, .bool false]) := by kernel_rfl
@[push_cast] theorem f74_0 : fieldT Go.Proofs.Try.prog 74 0 = some ((3, 0)) := by kernel_rfl
@[push_cast] theorem f74_1 : fieldT Go.Proofs.Try.prog 74 1 = some ((71, 1)) := by kernel_rfl
@[push_cast] theorem f74_2 : fieldT Go.Proofs.Try.prog 74 2 = some ((71, 2)) := by kernel_rfl
@[push_cast] theorem f74_3 : fieldT Go.Proofs.Try.prog 74 3 = some ((48, 3)) := by kernel_rfl
@[push_cast] theorem f74_4 : fieldT Go.Proofs.Try.prog 74 4 = some ((72, 5)) := by kernel_rfl
@[push_cast] theorem f74_5 : fieldT Go.Proofs.Try.prog 74 5 = some ((3, 6)) := by kernel_rfl
@[push_cast] theorem f74_6 : fieldT Go.Proofs.Try.prog 74 6 = some ((4, 7)) := by kernel_rfl
@[push_cast] theorem f74_7 : fieldT Go.Proofs.Try.prog 74 7 = some ((3, 8)) := by kernel_rfl
@[push_cast] theorem f74_8 : fieldT Go.Proofs.Try.prog 74 8 = some ((4, 9)) := by kernel_rfl
@[push_cast] theorem pl74 : placesT Go.Proofs.Try.prog 74 = some ([(0, 1), (1, 1), (2, 1), (3, 2), (5, 1), (6, 1), (7, 1), (8, 1), (9, 1)]) := by kernel_rfl
@[push_cast] theorem ar74 : arrT Go.Proofs.Try.prog 74 = none := by kernel_rfl
@[push_cast] theorem ni74 : notInt Go.Proofs.Try.prog 74 = true := by kernel_rfl
@[push_cast] theorem el74 : elemT Go.Proofs.Try.prog 74 = none := by kernel_rfl
@[push_cast] theorem ct74 : concT Go.Proofs.Try.prog 74 = true := by kernel_rfl
@[push_cast] theorem sz75 : szT Go.Proofs.Try.prog 75 = some (6) := by kernel_rfl
@[push_cast] theorem by75 : bytesT Go.Proofs.Try.prog 75 = some (48) := by kernel_rfl
@[push_cast] theorem ag75 : aggT Go.Proofs.Try.prog 75 = some (true) := by kernel_rfl
@[push_cast] theorem zt75 : zeroT Go.Proofs.Try.prog 75 = some ([.int .i64 0, .int .i64 0, .int .i64 0, .int .i64 0, .int .i64 0, .int .i64 0]) := by kernel_rfl
@[push_cast] theorem zv75 : zeroV Go.Proofs.Try.prog 75 = some (.agg [.int .i64 0, .int .i64 0, .int .i64 0, .int .i64 0, .int .i64 0, .int .i64 0]) := by kernel_rfl
@[push_cast] theorem u75 : Program.underlying Go.Proofs.Try.prog 75 = some (.array 6 29) := by kernel_rfl
@[push_cast] theorem ni75 : notInt Go.Proofs.Try.prog 75 = true := by kernel_rfl
@[push_cast] theorem el75 : elemT Go.Proofs.Try.prog 75 = none := by kernel_rfl
@[push_cast] theorem ar75 : arrT Go.Proofs.Try.prog 75 = some ((6, 29)) := by kernel_rfl
@[push_cast] theorem kt75 : kindT Go.Proofs.Try.prog 75 = some (.ints 6 .i64) := by kernel_rfl
@[push_cast] theorem es75 : eqShape Go.Proofs.Try.prog 75 = some ([(0, .i), (1, .i), (2, .i), (3, .i), (4, .i), (5, .i)]) := by kernel_rfl
@[push_cast] theorem ct75 : concT Go.Proofs.Try.prog 75 = true := by kernel_rfl
@[push_cast] theorem sz76 : szT Go.Proofs.Try.prog 76 = some (1) := by kernel_rfl
@[push_cast] theorem by76 : bytesT Go.Proofs.Try.prog 76 = some (8) := by kernel_rfl
@[push_cast] theorem ag76 : aggT Go.Proofs.Try.prog 76 = some (false) := by kernel_rfl
@[push_cast] theorem zt76 : zeroT Go.Proofs.Try.prog 76 = some ([.nilf]) := by kernel_rfl
@[push_cast] theorem zv76 : zeroV Go.Proofs.Try.prog 76 = some (.nilf) := by kernel_rfl
@[push_cast] theorem ni76 : notInt Go.Proofs.Try.prog 76 = true := by kernel_rfl
@[push_cast] theorem el76 : elemT Go.Proofs.Try.prog 76 = none := by kernel_rfl
@[push_cast] theorem ct76 : concT Go.Proofs.Try.prog 76 = true := by kernel_rfl
@[push_cast] theorem sz77 : szT Go.Proofs.Try.prog 77 = some (1) := by kernel_rfl
@[push_cast] theorem by77 : bytesT Go.Proofs.Try.prog 77 = some (8) := by kernel_rfl
@[push_cast] theorem ag77 : aggT Go.Proofs.Try.prog 77 = some (false) := by kernel_rfl
@[push_cast] theorem zt77 : zeroT Go.Proofs.Try.prog 77 = some ([.int .u64 0]) := by kernel_rfl
@[push_cast] theorem zv77 : zeroV Go.Proofs.Try.prog 77 = some (.int .u64 0) := by kernel_rfl
@[push_cast] theorem u77 : Program.underlying Go.Proofs.Try.prog 77 = some (.int .u64) := by kernel_rfl
@[push_cast] theorem el77 : elemT Go.Proofs.Try.prog 77 = none := by kernel_rfl
@[push_cast] theorem kt77 : kindT Go.Proofs.Try.prog 77 = some (.int .u64) := by kernel_rfl
@[push_cast] theorem ct77 : concT Go.Proofs.Try.prog 77 = true := by kernel_rfl
@[push_cast] theorem sz78 : szT Go.Proofs.Try.prog 78 = some (1) := by kernel_rfl
@[push_cast] theorem by78 : bytesT Go.Proofs.Try.prog 78 = some (8) := by kernel_rfl
@[push_cast] theorem ag78 : aggT Go.Proofs.Try.prog 78 = some (false) := by kernel_rfl
@[push_cast] theorem zt78 : zeroT Go.Proofs.Try.prog 78 = some ([.nilf]) := by kernel_rfl
@[push_cast] theorem zv78 : zeroV Go.Proofs.Try.prog 78 = some (.nilf) := by kernel_rfl
@[push_cast] theorem ni78 : notInt Go.Proofs.Try.prog 78 = true := by kernel_rfl
@[push_cast] theorem el78 : elemT Go.Proofs.Try.prog 78 = none := by kernel_rfl
@[push_cast] theorem ct78 : concT Go.Proofs.Try.prog 78 = true := by kernel_rfl
@[push_cast] theorem sz79 : szT Go.Proofs.Try.prog 79 = some (1) := by kernel_rfl
@[push_cast] theorem by79 : bytesT Go.Proofs.Try.prog 79 = some (8) := by kernel_rfl
@[push_cast] theorem ag79 : aggT Go.Proofs.Try.prog 79 = some (false) := by kernel_rfl
@[push_cast] theorem zt79 : zeroT Go.Proofs.Try.prog 79 = some ([.nilf]) := by kernel_rfl
@[push_cast] theorem zv79 : zeroV Go.Proofs.Try.prog 79 = some (.nilf) := by kernel_rfl
@[push_cast] theorem ni79 : notInt Go.Proofs.Try.prog 79 = true := by kernel_rfl
@[push_cast] theorem el79 : elemT Go.Proofs.Try.prog 79 = none := by kernel_rfl
@[push_cast] theorem ct79 : concT Go.Proofs.Try.prog 79 = true := by kernel_rfl
@[push_cast] theorem sz80 : szT Go.Proofs.Try.prog 80 = some (2) := by kernel_rfl
@[push_cast] theorem by80 : bytesT Go.Proofs.Try.prog 80 = some (16) := by kernel_rfl
@[push_cast] theorem ag80 : aggT Go.Proofs.Try.prog 80 = some (true) := by kernel_rfl
@[push_cast] theorem zt80 : zeroT Go.Proofs.Try.prog 80 = some ([.int .i64 0, .int .i64 0]) := by kernel_rfl
@[push_cast] theorem zv80 : zeroV Go.Proofs.Try.prog 80 = some (.agg [.int .i64 0, .int .i64 0]) := by kernel_rfl
@[push_cast] theorem u80 : Program.underlying Go.Proofs.Try.prog 80 = some (.array 2 3) := by kernel_rfl
@[push_cast] theorem ni80 : notInt Go.Proofs.Try.prog 80 = true := by kernel_rfl
@[push_cast] theorem el80 : elemT Go.Proofs.Try.prog 80 = none := by kernel_rfl
@[push_cast] theorem ar80 : arrT Go.Proofs.Try.prog 80 = some ((2, 3)) := by kernel_rfl
@[push_cast] theorem kt80 : kindT Go.Proofs.Try.prog 80 = some (.ints 2 .i64) := by kernel_rfl
@[push_cast] theorem es80 : eqShape Go.Proofs.Try.prog 80 = some ([(0, .i), (1, .i)]) := by kernel_rfl
@[push_cast] theorem ct80 : concT Go.Proofs.Try.prog 80 = true := by kernel_rfl
@[push_cast] theorem sz81 : szT Go.Proofs.Try.prog 81 = some (1) := by kernel_rfl
@[push_cast] theorem by81 : bytesT Go.Proofs.Try.prog 81 = some (8) := by kernel_rfl
@[push_cast] theorem ag81 : aggT Go.Proofs.Try.prog 81 = some (false) := by kernel_rfl
@[push_cast] theorem zt81 : zeroT Go.Proofs.Try.prog 81 = some ([.nilf]) := by kernel_rfl
@[push_cast] theorem zv81 : zeroV Go.Proofs.Try.prog 81 = some (.nilf) := by kernel_rfl
@[push_cast] theorem ni81 : notInt Go.Proofs.Try.prog 81 = true := by kernel_rfl
@[push_cast] theorem el81 : elemT Go.Proofs.Try.prog 81 = none := by kernel_rfl
@[push_cast] theorem ct81 : concT Go.Proofs.Try.prog 81 = true := by kernel_rfl
@[push_cast] theorem sz82 : szT Go.Proofs.Try.prog 82 = some (3) := by kernel_rfl
@[push_cast] theorem by82 : bytesT Go.Proofs.Try.prog 82 = some (40) := by kernel_rfl
@[push_cast] theorem ag82 : aggT Go.Proofs.Try.prog 82 = some (true) := by kernel_rfl
@[push_cast] theorem zt82 : zeroT Go.Proofs.Try.prog 82 = some ([.int .i64 0, .int .i64 0, .sl 0 [] .full]) := by kernel_rfl
@[push_cast] theorem zv82 : zeroV Go.Proofs.Try.prog 82 = some (.agg [.int .i64 0, .int .i64 0, .sl 0 [] .full]) := by kernel_rfl
@[push_cast] theorem f82_0 : fieldT Go.Proofs.Try.prog 82 0 = some ((80, 0)) := by kernel_rfl
@[push_cast] theorem f82_1 : fieldT Go.Proofs.Try.prog 82 1 = some ((23, 2)) := by kernel_rfl
@[push_cast] theorem pl82 : placesT Go.Proofs.Try.prog 82 = some ([(0, 2), (2, 1)]) := by kernel_rfl
@[push_cast] theorem ar82 : arrT Go.Proofs.Try.prog 82 = none := by kernel_rfl
@[push_cast] theorem ni82 : notInt Go.Proofs.Try.prog 82 = true := by kernel_rfl
@[push_cast] theorem el82 : elemT Go.Proofs.Try.prog 82 = none := by kernel_rfl
@[push_cast] theorem ct82 : concT Go.Proofs.Try.prog 82 = true := by kernel_rfl
@[push_cast] theorem sz83 : szT Go.Proofs.Try.prog 83 = some (3) := by kernel_rfl
@[push_cast] theorem by83 : bytesT Go.Proofs.Try.prog 83 = some (40) := by kernel_rfl
@[push_cast] theorem ag83 : aggT Go.Proofs.Try.prog 83 = some (true) := by kernel_rfl
@[push_cast] theorem zt83 : zeroT Go.Proofs.Try.prog 83 = some ([.int .i64 0, .int .i64 0, .sl 0 [] .full]) := by kernel_rfl
@[push_cast] theorem zv83 : zeroV Go.Proofs.Try.prog 83 = some (.agg [.int .i64 0, .int .i64 0, .sl 0 [] .full]) := by kernel_rfl
@[push_cast] theorem f83_0 : fieldT Go.Proofs.Try.prog 83 0 = some ((80, 0)) := by kernel_rfl
@[push_cast] theorem f83_1 : fieldT Go.Proofs.Try.prog 83 1 = some ((23, 2)) := by kernel_rfl
@[push_cast] theorem pl83 : placesT Go.Proofs.Try.prog 83 = some ([(0, 2), (2, 1)]) := by kernel_rfl
@[push_cast] theorem ar83 : arrT Go.Proofs.Try.prog 83 = none := by kernel_rfl
@[push_cast] theorem ni83 : notInt Go.Proofs.Try.prog 83 = true := by kernel_rfl
@[push_cast] theorem el83 : elemT Go.Proofs.Try.prog 83 = none := by kernel_rfl
@[push_cast] theorem ct83 : concT Go.Proofs.Try.prog 83 = true := by kernel_rfl
@[push_cast] theorem sz84 : szT Go.Proofs.Try.prog 84 = some (1) := by kernel_rfl
@[push_cast] theorem by84 : bytesT Go.Proofs.Try.prog 84 = some (8) := by kernel_rfl
@[push_cast] theorem ag84 : aggT Go.Proofs.Try.prog 84 = some (false) := by kernel_rfl
@[push_cast] theorem zt84 : zeroT Go.Proofs.Try.prog 84 = some ([.nilf]) := by kernel_rfl
@[push_cast] theorem zv84 : zeroV Go.Proofs.Try.prog 84 = some (.nilf) := by kernel_rfl
@[push_cast] theorem ni84 : notInt Go.Proofs.Try.prog 84 = true := by kernel_rfl
@[push_cast] theorem el84 : elemT Go.Proofs.Try.prog 84 = none := by kernel_rfl
@[push_cast] theorem ct84 : concT Go.Proofs.Try.prog 84 = true := by kernel_rfl
@[push_cast] theorem sz85 : szT Go.Proofs.Try.prog 85 = some (4) := by kernel_rfl
@[push_cast] theorem by85 : bytesT Go.Proofs.Try.prog 85 = some (48) := by kernel_rfl
@[push_cast] theorem ag85 : aggT Go.Proofs.Try.prog 85 = some (true) := by kernel_rfl
@[push_cast] theorem zt85 : zeroT Go.Proofs.Try.prog 85 = some ([.int .i64 0, .int .i64 0, .sl 0 [] .full, .bool false]) := by kernel_rfl
@[push_cast] theorem zv85 : zeroV Go.Proofs.Try.prog 85 = some (.agg [.int .i64 0, .int .i64 0, .sl 0 [] .full, .bool false]) := by kernel_rfl
@[push_cast] theorem f85_0 : fieldT Go.Proofs.Try.prog 85 0 = some ((3, 0)) := by kernel_rfl
@[push_cast] theorem f85_1 : fieldT Go.Proofs.Try.prog 85 1 = some ((3, 1)) := by kernel_rfl
@[push_cast] theorem f85_2 : fieldT Go.Proofs.Try.prog 85 2 = some ((23, 2)) := by kernel_rfl
@[push_cast] theorem f85_3 : fieldT Go.Proofs.Try.prog 85 3 = some ((4, 3)) := by kernel_rfl
@[push_cast] theorem pl85 : placesT Go.Proofs.Try.prog 85 = some ([(0, 1), (1, 1), (2, 1), (3, 1)]) := by kernel_rfl
@[push_cast] theorem ar85 : arrT Go.Proofs.Try.prog 85 = none := by kernel_rfl
@[push_cast] theorem ni85 : notInt Go.Proofs.Try.prog 85 = true := by kernel_rfl
@[push_cast] theorem el85 : elemT Go.Proofs.Try.prog 85 = none := by kernel_rfl
@[push_cast] theorem ct85 : concT Go.Proofs.Try.prog 85 = true := by kernel_rfl
@[push_cast] theorem sz86 : szT Go.Proofs.Try.prog 86 = some (4) := by kernel_rfl
@[push_cast] theorem by86 : bytesT Go.Proofs.Try.prog 86 = some (48) := by kernel_rfl
@[push_cast] theorem ag86 : aggT Go.Proofs.Try.prog 86 = some (true) := by kernel_rfl
@[push_cast] theorem zt86 : zeroT Go.Proofs.Try.prog 86 = some ([.int .i64 0, .int .i64 0, .sl 0 [] .full, .bool false]) := by kernel_rfl
@[push_cast] theorem zv86 : zeroV Go.Proofs.Try.prog 86 = some (.agg [.int .i64 0, .int .i64 0, .sl 0 [] .full, .bool false]) := by kernel_rfl
@[push_cast] theorem f86_0 : fieldT Go.Proofs.Try.prog 86 0 = some ((3, 0)) := by kernel_rfl
@[push_cast] theorem f86_1 : fieldT Go.Proofs.Try.prog 86 1 = some ((3, 1)) := by kernel_rfl
@[push_cast] theorem f86_2 : fieldT Go.Proofs.Try.prog 86 2 = some ((23, 2)) := by kernel_rfl
@[push_cast] theorem f86_3 : fieldT Go.Proofs.Try.prog 86 3 = some ((4, 3)) := by kernel_rfl
@[push_cast] theorem pl86 : placesT Go.Proofs.Try.prog 86 = some ([(0, 1), (1, 1), (2, 1), (3, 1)]) := by kernel_rfl
@[push_cast] theorem ar86 : arrT Go.Proofs.Try.prog 86 = none := by kernel_rfl
@[push_cast] theorem ni86 : notInt Go.Proofs.Try.prog 86 = true := by kernel_rfl
@[push_cast] theorem el86 : elemT Go.Proofs.Try.prog 86 = none := by kernel_rfl
@[push_cast] theorem ct86 : concT Go.Proofs.Try.prog 86 = true := by kernel_rfl
@[push_cast] theorem sz87 : szT Go.Proofs.Try.prog 87 = some (1) := by kernel_rfl
@[push_cast] theorem by87 : bytesT Go.Proofs.Try.prog 87 = some (8) := by kernel_rfl
@[push_cast] theorem ag87 : aggT Go.Proofs.Try.prog 87 = some (false) := by kernel_rfl
@[push_cast] theorem zt87 : zeroT Go.Proofs.Try.prog 87 = some ([.nilf]) := by kernel_rfl
@[push_cast] theorem zv87 : zeroV Go.Proofs.Try.prog 87 = some (.nilf) := by kernel_rfl
@[push_cast] theorem ni87 : notInt Go.Proofs.Try.prog 87 = true := by kernel_rfl
@[push_cast] theorem el87 : elemT Go.Proofs.Try.prog 87 = none := by kernel_rfl
@[push_cast] theorem ct87 : concT Go.Proofs.Try.prog 87 = true := by kernel_rfl
@[push_cast] theorem sz88 : szT Go.Proofs.Try.prog 88 = some (1) := by kernel_rfl
@[push_cast] theorem by88 : bytesT Go.Proofs.Try.prog 88 = some (8) := by kernel_rfl
@[push_cast] theorem ag88 : aggT Go.Proofs.Try.prog 88 = some (false) := by kernel_rfl
@[push_cast] theorem zt88 : zeroT Go.Proofs.Try.prog 88 = some ([.nilf]) := by kernel_rfl
@[push_cast] theorem zv88 : zeroV Go.Proofs.Try.prog 88 = some (.nilf) := by kernel_rfl
@[push_cast] theorem ni88 : notInt Go.Proofs.Try.prog 88 = true := by kernel_rfl
@[push_cast] theorem el88 : elemT Go.Proofs.Try.prog 88 = none := by kernel_rfl
@[push_cast] theorem ct88 : concT Go.Proofs.Try.prog 88 = true := by kernel_rfl
@[push_cast] theorem sz89 : szT Go.Proofs.Try.prog 89 = some (4) := by kernel_rfl
@[push_cast] theorem by89 : bytesT Go.Proofs.Try.prog 89 = some (40) := by kernel_rfl
@[push_cast] theorem ag89 : aggT Go.Proofs.Try.prog 89 = some (true) := by kernel_rfl
@[push_cast] theorem zt89 : zeroT Go.Proofs.Try.prog 89 = some ([.nilp, .nilp, .nilp, .str ByteArray.empty]) := by kernel_rfl
@[push_cast] theorem zv89 : zeroV Go.Proofs.Try.prog 89 = some (.agg [.nilp, .nilp, .nilp, .str ByteArray.empty]) := by kernel_rfl
@[push_cast] theorem f89_0 : fieldT Go.Proofs.Try.prog 89 0 = some ((17, 0)) := by kernel_rfl
@[push_cast] theorem f89_1 : fieldT Go.Proofs.Try.prog 89 1 = some ((17, 1)) := by kernel_rfl
@[push_cast] theorem f89_2 : fieldT Go.Proofs.Try.prog 89 2 = some ((17, 2)) := by kernel_rfl
@[push_cast] theorem f89_3 : fieldT Go.Proofs.Try.prog 89 3 = some ((9, 3)) := by kernel_rfl
@[push_cast] theorem pl89 : placesT Go.Proofs.Try.prog 89 = some ([(0, 1), (1, 1), (2, 1), (3, 1)]) := by kernel_rfl
@[push_cast] theorem ar89 : arrT Go.Proofs.Try.prog 89 = none := by kernel_rfl
@[push_cast] theorem ni89 : notInt Go.Proofs.Try.prog 89 = true := by kernel_rfl
@[push_cast] theorem el89 : elemT Go.Proofs.Try.prog 89 = none := by kernel_rfl
@[push_cast] theorem ct89 : concT Go.Proofs.Try.prog 89 = true := by kernel_rfl
@[push_cast] theorem sz90 : szT Go.Proofs.Try.prog 90 = some (4) := by kernel_rfl
@[push_cast] theorem by90 : bytesT Go.Proofs.Try.prog 90 = some (40) := by kernel_rfl
@[push_cast] theorem ag90 : aggT Go.Proofs.Try.prog 90 = some (true) := by kernel_rfl
@[push_cast] theorem zt90 : zeroT Go.Proofs.Try.prog 90 = some ([.nilp, .nilp, .nilp, .str ByteArray.empty]) := by kernel_rfl
@[push_cast] theorem zv90 : zeroV Go.Proofs.Try.prog 90 = some (.agg [.nilp, .nilp, .nilp, .str ByteArray.empty]) := by kernel_rfl
@[push_cast] theorem f90_0 : fieldT Go.Proofs.Try.prog 90 0 = some ((17, 0)) := by kernel_rfl
@[push_cast] theorem f90_1 : fieldT Go.Proofs.Try.prog 90 1 = some ((17, 1)) := by kernel_rfl
@[push_cast] theorem f90_2 : fieldT Go.Proofs.Try.prog 90 2 = some ((17, 2)) := by kernel_rfl
@[push_cast] theorem f90_3 : fieldT Go.Proofs.Try.prog 90 3 = some ((9, 3)) := by kernel_rfl
@[push_cast] theorem pl90 : placesT Go.Proofs.Try.prog 90 = some ([(0, 1), (1, 1), (2, 1), (3, 1)]) := by kernel_rfl
@[push_cast] theorem ar90 : arrT Go.Proofs.Try.prog 90 = none := by kernel_rfl
@[push_cast] theorem ni90 : notInt Go.Proofs.Try.prog 90 = true := by kernel_rfl
@[push_cast] theorem el90 : elemT Go.Proofs.Try.prog 90 = none := by kernel_rfl
@[push_cast] theorem ct90 : concT Go.Proofs.Try.prog 90 = true := by kernel_rfl
@[push_cast] theorem sz91 : szT Go.Proofs.Try.prog 91 = some (0) := by kernel_rfl
@[push_cast] theorem by91 : bytesT Go.Proofs.Try.prog 91 = some (0) := by kernel_rfl
@[push_cast] theorem ag91 : aggT Go.Proofs.Try.prog 91 = some (true) := by kernel_rfl
@[push_cast] theorem zt91 : zeroT Go.Proofs.Try.prog 91 = some ([]) := by kernel_rfl
@[push_cast] theorem zv91 : zeroV Go.Proofs.Try.prog 91 = some (.agg []) := by kernel_rfl
@[push_cast] theorem u91 : Program.underlying Go.Proofs.Try.prog 91 = some (.array 0 16) := by kernel_rfl
@[push_cast] theorem ni91 : notInt Go.Proofs.Try.prog 91 = true := by kernel_rfl
@[push_cast] theorem el91 : elemT Go.Proofs.Try.prog 91 = none := by kernel_rfl
@[push_cast] theorem ar91 : arrT Go.Proofs.Try.prog 91 = some ((0, 16)) := by kernel_rfl
@[push_cast] theorem ct91 : concT Go.Proofs.Try.prog 91 = true := by kernel_rfl
@[push_cast] theorem sz92 : szT Go.Proofs.Try.prog 92 = some (0) := by kernel_rfl
@[push_cast] theorem by92 : bytesT Go.Proofs.Try.prog 92 = some (0) := by kernel_rfl
@[push_cast] theorem ag92 : aggT Go.Proofs.Try.prog 92 = some (true) := by kernel_rfl
@[push_cast] theorem zt92 : zeroT Go.Proofs.Try.prog 92 = some ([]) := by kernel_rfl
@[push_cast] theorem zv92 : zeroV Go.Proofs.Try.prog 92 = some (.agg []) := by kernel_rfl
@[push_cast] theorem f92_0 : fieldT Go.Proofs.Try.prog 92 0 = some ((91, 0)) := by kernel_rfl
@[push_cast] theorem pl92 : placesT Go.Proofs.Try.prog 92 = some ([(0, 0)]) := by kernel_rfl
@[push_cast] theorem ar92 : arrT Go.Proofs.Try.prog 92 = none := by kernel_rfl
@[push_cast] theorem ni92 : notInt Go.Proofs.Try.prog 92 = true := by kernel_rfl
@[push_cast] theorem el92 : elemT Go.Proofs.Try.prog 92 = none := by kernel_rfl
@[push_cast] theorem ct92 : concT Go.Proofs.Try.prog 92 = true := by kernel_rfl
@[push_cast] theorem sz93 : szT Go.Proofs.Try.prog 93 = some (0) := by kernel_rfl
@[push_cast] theorem by93 : bytesT Go.Proofs.Try.prog 93 = some (0) := by kernel_rfl
@[push_cast] theorem ag93 : aggT Go.Proofs.Try.prog 93 = some (true) := by kernel_rfl
@[push_cast] theorem zt93 : zeroT Go.Proofs.Try.prog 93 = some ([]) := by kernel_rfl
@[push_cast] theorem zv93 : zeroV Go.Proofs.Try.prog 93 = some (.agg []) := by kernel_rfl
@[push_cast] theorem f93_0 : fieldT Go.Proofs.Try.prog 93 0 = some ((91, 0)) := by kernel_rfl
@[push_cast] theorem pl93 : placesT Go.Proofs.Try.prog 93 = some ([(0, 0)]) := by kernel_rfl
@[push_cast] theorem ar93 : arrT Go.Proofs.Try.prog 93 = none := by kernel_rfl
@[push_cast] theorem ni93 : notInt Go.Proofs.Try.prog 93 = true := by kernel_rfl
@[push_cast] theorem el93 : elemT Go.Proofs.Try.prog 93 = none := by kernel_rfl
@[push_cast] theorem ct93 : concT Go.Proofs.Try.prog 93 = true := by kernel_rfl
@[push_cast] theorem sz94 : szT Go.Proofs.Try.prog 94 = some (1) := by kernel_rfl
@[push_cast] theorem by94 : bytesT Go.Proofs.Try.prog 94 = some (4) := by kernel_rfl
@[push_cast] theorem ag94 : aggT Go.Proofs.Try.prog 94 = some (false) := by kernel_rfl
@[push_cast] theorem zt94 : zeroT Go.Proofs.Try.prog 94 = some ([.int .u32 0]) := by kernel_rfl
@[push_cast] theorem zv94 : zeroV Go.Proofs.Try.prog 94 = some (.int .u32 0) := by kernel_rfl
@[push_cast] theorem u94 : Program.underlying Go.Proofs.Try.prog 94 = some (.int .u32) := by kernel_rfl
@[push_cast] theorem el94 : elemT Go.Proofs.Try.prog 94 = none := by kernel_rfl
@[push_cast] theorem kt94 : kindT Go.Proofs.Try.prog 94 = some (.int .u32) := by kernel_rfl
@[push_cast] theorem ct94 : concT Go.Proofs.Try.prog 94 = true := by kernel_rfl
@[push_cast] theorem sz95 : szT Go.Proofs.Try.prog 95 = some (1) := by kernel_rfl
@[push_cast] theorem by95 : bytesT Go.Proofs.Try.prog 95 = some (1) := by kernel_rfl
@[push_cast] theorem ag95 : aggT Go.Proofs.Try.prog 95 = some (false) := by kernel_rfl
@[push_cast] theorem zt95 : zeroT Go.Proofs.Try.prog 95 = some ([.int .u8 0]) := by kernel_rfl
@[push_cast] theorem zv95 : zeroV Go.Proofs.Try.prog 95 = some (.int .u8 0) := by kernel_rfl
@[push_cast] theorem u95 : Program.underlying Go.Proofs.Try.prog 95 = some (.int .u8) := by kernel_rfl
@[push_cast] theorem el95 : elemT Go.Proofs.Try.prog 95 = none := by kernel_rfl
@[push_cast] theorem kt95 : kindT Go.Proofs.Try.prog 95 = some (.int .u8) := by kernel_rfl
@[push_cast] theorem ct95 : concT Go.Proofs.Try.prog 95 = true := by kernel_rfl
@[push_cast] theorem sz96 : szT Go.Proofs.Try.prog 96 = some (1) := by kernel_rfl
@[push_cast] theorem by96 : bytesT Go.Proofs.Try.prog 96 = some (1) := by kernel_rfl
@[push_cast] theorem ag96 : aggT Go.Proofs.Try.prog 96 = some (false) := by kernel_rfl
@[push_cast] theorem zt96 : zeroT Go.Proofs.Try.prog 96 = some ([.int .u8 0]) := by kernel_rfl
@[push_cast] theorem zv96 : zeroV Go.Proofs.Try.prog 96 = some (.int .u8 0) := by kernel_rfl
@[push_cast] theorem u96 : Program.underlying Go.Proofs.Try.prog 96 = some (.int .u8) := by kernel_rfl
@[push_cast] theorem el96 : elemT Go.Proofs.Try.prog 96 = none := by kernel_rfl
@[push_cast] theorem kt96 : kindT Go.Proofs.Try.prog 96 = some (.int .u8) := by kernel_rfl
@[push_cast] theorem ct96 : concT Go.Proofs.Try.prog 96 = true := by kernel_rfl
@[push_cast] theorem sz97 : szT Go.Proofs.Try.prog 97 = some (1) := by kernel_rfl
@[push_cast] theorem by97 : bytesT Go.Proofs.Try.prog 97 = some (8) := by kernel_rfl
@[push_cast] theorem ag97 : aggT Go.Proofs.Try.prog 97 = some (false) := by kernel_rfl
@[push_cast] theorem zt97 : zeroT Go.Proofs.Try.prog 97 = some ([.nilf]) := by kernel_rfl
@[push_cast] theorem zv97 : zeroV Go.Proofs.Try.prog 97 = some (.nilf) := by kernel_rfl
@[push_cast] theorem ni97 : notInt Go.Proofs.Try.prog 97 = true := by kernel_rfl
@[push_cast] theorem el97 : elemT Go.Proofs.Try.prog 97 = none := by kernel_rfl
@[push_cast] theorem ct97 : concT Go.Proofs.Try.prog 97 = true := by kernel_rfl
@[push_cast] theorem sz98 : szT Go.Proofs.Try.prog 98 = some (1) := by kernel_rfl
@[push_cast] theorem by98 : bytesT Go.Proofs.Try.prog 98 = some (8) := by kernel_rfl
@[push_cast] theorem ag98 : aggT Go.Proofs.Try.prog 98 = some (false) := by kernel_rfl
@[push_cast] theorem zt98 : zeroT Go.Proofs.Try.prog 98 = some ([.nilp]) := by kernel_rfl
@[push_cast] theorem zv98 : zeroV Go.Proofs.Try.prog 98 = some (.nilp) := by kernel_rfl
@[push_cast] theorem u98 : Program.underlying Go.Proofs.Try.prog 98 = some (.pointer 5) := by kernel_rfl
@[push_cast] theorem ni98 : notInt Go.Proofs.Try.prog 98 = true := by kernel_rfl
@[push_cast] theorem el98 : elemT Go.Proofs.Try.prog 98 = none := by kernel_rfl
@[push_cast] theorem ct98 : concT Go.Proofs.Try.prog 98 = true := by kernel_rfl
@[push_cast] theorem sz99 : szT Go.Proofs.Try.prog 99 = some (1) := by kernel_rfl
@[push_cast] theorem by99 : bytesT Go.Proofs.Try.prog 99 = some (4) := by kernel_rfl
@[push_cast] theorem ag99 : aggT Go.Proofs.Try.prog 99 = some (false) := by kernel_rfl
@[push_cast] theorem zt99 : zeroT Go.Proofs.Try.prog 99 = some ([.int .i32 0]) := by kernel_rfl
@[push_cast] theorem zv99 : zeroV Go.Proofs.Try.prog 99 = some (.int .i32 0) := by kernel_rfl
@[push_cast] theorem u99 : Program.underlying Go.Proofs.Try.prog 99 = some (.int .i32) := by kernel_rfl
@[push_cast] theorem el99 : elemT Go.Proofs.Try.prog 99 = none := by kernel_rfl
@[push_cast] theorem kt99 : kindT Go.Proofs.Try.prog 99 = some (.int .i32) := by kernel_rfl
@[push_cast] theorem ct99 : concT Go.Proofs.Try.prog 99 = true := by kernel_rfl
@[push_cast] theorem sz100 : szT Go.Proofs.Try.prog 100 = some (1) := by kernel_rfl
@[push_cast] theorem by100 : bytesT Go.Proofs.Try.prog 100 = some (4) := by kernel_rfl
@[push_cast] theorem ag100 : aggT Go.Proofs.Try.prog 100 = some (false) := by kernel_rfl
@[push_cast] theorem zt100 : zeroT Go.Proofs.Try.prog 100 = some ([.int .i32 0]) := by kernel_rfl
@[push_cast] theorem zv100 : zeroV Go.Proofs.Try.prog 100 = some (.int .i32 0) := by kernel_rfl
@[push_cast] theorem u100 : Program.underlying Go.Proofs.Try.prog 100 = some (.int .i32) := by kernel_rfl
@[push_cast] theorem el100 : elemT Go.Proofs.Try.prog 100 = none := by kernel_rfl
@[push_cast] theorem kt100 : kindT Go.Proofs.Try.prog 100 = some (.int .i32) := by kernel_rfl
@[push_cast] theorem ct100 : concT Go.Proofs.Try.prog 100 = true := by kernel_rfl
@[push_cast] theorem sz101 : szT Go.Proofs.Try.prog 101 = some (11) := by kernel_rfl
@[push_cast] theorem by101 : bytesT Go.Proofs.Try.prog 101 = some (48) := by kernel_rfl
@[push_cast] theorem ag101 : aggT Go.Proofs.Try.prog 101 = some (true) := by kernel_rfl
@[push_cast] theorem zt101 : zeroT Go.Proofs.Try.prog 101 = some ([.int .u64 0, .int .u64 0, .int .u32 0, .int .u8 0, .int .u8 0, .int .u8 0, .int .u8 0, .nilf, .nilp, .int .i32 0, .int .i32 0]) := by kernel_rfl
@[push_cast] theorem zv101 : zeroV Go.Proofs.Try.prog 101 = some (.agg [.int .u64 0, .int .u64 0, .int .u32 0, .int .u8 0, .int .u8 0, .int .u8 0, .int .u8 0, .nilf, .nilp, .int .i32 0, .int .i32 0]) := by kernel_rfl
@[push_cast] theorem f101_0 : fieldT Go.Proofs.Try.prog 101 0 = some ((12, 0)) := by kernel_rfl
@[push_cast] theorem f101_1 : fieldT Go.Proofs.Try.prog 101 1 = some ((12, 1)) := by kernel_rfl
@[push_cast] theorem f101_2 : fieldT Go.Proofs.Try.prog 101 2 = some ((94, 2)) := by kernel_rfl
@[push_cast] theorem f101_3 : fieldT Go.Proofs.Try.prog 101 3 = some ((95, 3)) := by kernel_rfl
@[push_cast] theorem f101_4 : fieldT Go.Proofs.Try.prog 101 4 = some ((5, 4)) := by kernel_rfl
@[push_cast] theorem f101_5 : fieldT Go.Proofs.Try.prog 101 5 = some ((5, 5)) := by kernel_rfl
@[push_cast] theorem f101_6 : fieldT Go.Proofs.Try.prog 101 6 = some ((96, 6)) := by kernel_rfl
@[push_cast] theorem f101_7 : fieldT Go.Proofs.Try.prog 101 7 = some ((97, 7)) := by kernel_rfl
@[push_cast] theorem f101_8 : fieldT Go.Proofs.Try.prog 101 8 = some ((98, 8)) := by kernel_rfl
@[push_cast] theorem f101_9 : fieldT Go.Proofs.Try.prog 101 9 = some ((99, 9)) := by kernel_rfl
@[push_cast] theorem f101_10 : fieldT Go.Proofs.Try.prog 101 10 = some ((100, 10)) := by kernel_rfl
@[push_cast] theorem pl101 : placesT Go.Proofs.Try.prog 101 = some ([(0, 1), (1, 1), (2, 1), (3, 1), (4, 1), (5, 1), (6, 1), (7, 1), (8, 1), (9, 1), (10, 1)]) := by kernel_rfl
@[push_cast] theorem ar101 : arrT Go.Proofs.Try.prog 101 = none := by kernel_rfl
@[push_cast] theorem ni101 : notInt Go.Proofs.Try.prog 101 = true := by kernel_rfl
@[push_cast] theorem el101 : elemT Go.Proofs.Try.prog 101 = none := by kernel_rfl
@[push_cast] theorem ct101 : concT Go.Proofs.Try.prog 101 = true := by kernel_rfl
@[push_cast] theorem sz102 : szT Go.Proofs.Try.prog 102 = some (11) := by kernel_rfl
@[push_cast] theorem by102 : bytesT Go.Proofs.Try.prog 102 = some (48) := by kernel_rfl
@[push_cast] theorem ag102 : aggT Go.Proofs.Try.prog 102 = some (true) := by kernel_rfl
@[push_cast] theorem zt102 : zeroT Go.Proofs.Try.prog 102 = some ([.int .u64 0, .int .u64 0, .int .u32 0, .int .u8 0, .int .u8 0, .int .u8 0, .int .u8 0, .nilf, .nilp, .int .i32 0, .int .i32 0]) := by kernel_rfl
@[push_cast] theorem zv102 : zeroV Go.Proofs.Try.prog 102 = some (.agg [.int .u64 0, .int .u64 0, .int .u32 0, .int .u8 0, .int .u8 0, .int .u8 0, .int .u8 0, .nilf, .nilp, .int .i32 0, .int .i32 0]) := by kernel_rfl
@[push_cast] theorem f102_0 : fieldT Go.Proofs.Try.prog 102 0 = some ((12, 0)) := by kernel_rfl
@[push_cast] theorem f102_1 : fieldT Go.Proofs.Try.prog 102 1 = some ((12, 1)) := by kernel_rfl
@[push_cast] theorem f102_2 : fieldT Go.Proofs.Try.prog 102 2 = some ((94, 2)) := by kernel_rfl
@[push_cast] theorem f102_3 : fieldT Go.Proofs.Try.prog 102 3 = some ((95, 3)) := by kernel_rfl
@[push_cast] theorem f102_4 : fieldT Go.Proofs.Try.prog 102 4 = some ((5, 4)) := by kernel_rfl
@[push_cast] theorem f102_5 : fieldT Go.Proofs.Try.prog 102 5 = some ((5, 5)) := by kernel_rfl
@[push_cast] theorem f102_6 : fieldT Go.Proofs.Try.prog 102 6 = some ((96, 6)) := by kernel_rfl
@[push_cast] theorem f102_7 : fieldT Go.Proofs.Try.prog 102 7 = some ((97, 7)) := by kernel_rfl
@[push_cast] theorem f102_8 : fieldT Go.Proofs.Try.prog 102 8 = some ((98, 8)) := by kernel_rfl
@[push_cast] theorem f102_9 : fieldT Go.Proofs.Try.prog 102 9 = some ((99, 9)) := by kernel_rfl
@[push_cast] theorem f102_10 : fieldT Go.Proofs.Try.prog 102 10 = some ((100, 10)) := by kernel_rfl
@[push_cast] theorem pl102 : placesT Go.Proofs.Try.prog 102 = some ([(0, 1), (1, 1), (2, 1), (3, 1), (4, 1), (5, 1), (6, 1), (7, 1), (8, 1), (9, 1), (10, 1)]) := by kernel_rfl
@[push_cast] theorem ar102 : arrT Go.Proofs.Try.prog 102 = none := by kernel_rfl
@[push_cast] theorem ni102 : notInt Go.Proofs.Try.prog 102 = true := by kernel_rfl
@[push_cast] theorem el102 : elemT Go.Proofs.Try.prog 102 = none := by kernel_rfl
@[push_cast] theorem ct102 : concT Go.Proofs.Try.prog 102 = true := by kernel_rfl
@[push_cast] theorem sz103 : szT Go.Proofs.Try.prog 103 = some (1) := by kernel_rfl
@[push_cast] theorem by103 : bytesT Go.Proofs.Try.prog 103 = some (8) := by kernel_rfl
@[push_cast] theorem ag103 : aggT Go.Proofs.Try.prog 103 = some (false) := by kernel_rfl
@[push_cast] theorem zt103 : zeroT Go.Proofs.Try.prog 103 = some ([.nilp]) := by kernel_rfl
@[push_cast] theorem zv103 : zeroV Go.Proofs.Try.prog 103 = some (.nilp) := by kernel_rfl
@[push_cast] theorem ni103 : notInt Go.Proofs.Try.prog 103 = true := by kernel_rfl
@[push_cast] theorem el103 : elemT Go.Proofs.Try.prog 103 = none := by kernel_rfl
@[push_cast] theorem ct103 : concT Go.Proofs.Try.prog 103 = true := by kernel_rfl
end Go.Vm.Try
