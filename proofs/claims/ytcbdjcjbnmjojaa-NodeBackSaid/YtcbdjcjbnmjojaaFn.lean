/- Facts on the types of the seat, asked of the program. Printed by facts.py. -/
import Derived.Test.YtcbdjcjbnmjojaaV1
import Derived.Test.YtcbdjcjbnmjojaaProg
import Derived.KernelRfl
namespace Go.Vm.Try
theorem fo : Go.Proofs.Try.prog.follows .mixedOrders = true := by kernel_rfl
@[push_cast] theorem sz0 : szT Go.Proofs.Try.prog 0 = some (1) := by kernel_rfl
@[push_cast] theorem by0 : bytesT Go.Proofs.Try.prog 0 = some (0) := by kernel_rfl
@[push_cast] theorem ag0 : aggT Go.Proofs.Try.prog 0 = some (false) := by kernel_rfl
@[push_cast] theorem zt0 : zeroT Go.Proofs.Try.prog 0 = some ([.dead]) := by kernel_rfl
@[push_cast] theorem zv0 : zeroV Go.Proofs.Try.prog 0 = some (.dead) := by kernel_rfl
@[push_cast] theorem ni0 : notInt Go.Proofs.Try.prog 0 = true := by kernel_rfl
@[push_cast] theorem el0 : elemT Go.Proofs.Try.prog 0 = none := by kernel_rfl
@[push_cast] theorem ct0 : concT Go.Proofs.Try.prog 0 = true := by kernel_rfl
@[push_cast] theorem sz1 : szT Go.Proofs.Try.prog 1 = some (1) := by kernel_rfl
@[push_cast] theorem by1 : bytesT Go.Proofs.Try.prog 1 = some (8) := by kernel_rfl
@[push_cast] theorem ag1 : aggT Go.Proofs.Try.prog 1 = some (false) := by kernel_rfl
@[push_cast] theorem zt1 : zeroT Go.Proofs.Try.prog 1 = some ([.nilf]) := by kernel_rfl
@[push_cast] theorem zv1 : zeroV Go.Proofs.Try.prog 1 = some (.nilf) := by kernel_rfl
@[push_cast] theorem ni1 : notInt Go.Proofs.Try.prog 1 = true := by kernel_rfl
@[push_cast] theorem el1 : elemT Go.Proofs.Try.prog 1 = none := by kernel_rfl
@[push_cast] theorem ct1 : concT Go.Proofs.Try.prog 1 = true := by kernel_rfl
@[push_cast] theorem sz2 : szT Go.Proofs.Try.prog 2 = some (1) := by kernel_rfl
@[push_cast] theorem by2 : bytesT Go.Proofs.Try.prog 2 = some (8) := by kernel_rfl
@[push_cast] theorem ag2 : aggT Go.Proofs.Try.prog 2 = some (false) := by kernel_rfl
@[push_cast] theorem zt2 : zeroT Go.Proofs.Try.prog 2 = some ([.int .i64 0]) := by kernel_rfl
@[push_cast] theorem zv2 : zeroV Go.Proofs.Try.prog 2 = some (.int .i64 0) := by kernel_rfl
@[push_cast] theorem u2 : Program.underlying Go.Proofs.Try.prog 2 = some (.int .i64) := by kernel_rfl
@[push_cast] theorem el2 : elemT Go.Proofs.Try.prog 2 = none := by kernel_rfl
@[push_cast] theorem kt2 : kindT Go.Proofs.Try.prog 2 = some (.int .i64) := by kernel_rfl
@[push_cast] theorem ct2 : concT Go.Proofs.Try.prog 2 = true := by kernel_rfl
@[push_cast] theorem sz3 : szT Go.Proofs.Try.prog 3 = some (1) := by kernel_rfl
@[push_cast] theorem by3 : bytesT Go.Proofs.Try.prog 3 = some (8) := by kernel_rfl
@[push_cast] theorem ag3 : aggT Go.Proofs.Try.prog 3 = some (false) := by kernel_rfl
@[push_cast] theorem zt3 : zeroT Go.Proofs.Try.prog 3 = some ([.int .i64 0]) := by kernel_rfl
@[push_cast] theorem zv3 : zeroV Go.Proofs.Try.prog 3 = some (.int .i64 0) := by kernel_rfl
@[push_cast] theorem u3 : Program.underlying Go.Proofs.Try.prog 3 = some (.int .i64) := by kernel_rfl
@[push_cast] theorem el3 : elemT Go.Proofs.Try.prog 3 = none := by kernel_rfl
@[push_cast] theorem kt3 : kindT Go.Proofs.Try.prog 3 = some (.int .i64) := by kernel_rfl
@[push_cast] theorem ct3 : concT Go.Proofs.Try.prog 3 = true := by kernel_rfl
@[push_cast] theorem sz4 : szT Go.Proofs.Try.prog 4 = some (1) := by kernel_rfl
@[push_cast] theorem by4 : bytesT Go.Proofs.Try.prog 4 = some (1) := by kernel_rfl
@[push_cast] theorem ag4 : aggT Go.Proofs.Try.prog 4 = some (false) := by kernel_rfl
@[push_cast] theorem zt4 : zeroT Go.Proofs.Try.prog 4 = some ([.bool false]) := by kernel_rfl
@[push_cast] theorem zv4 : zeroV Go.Proofs.Try.prog 4 = some (.bool false) := by kernel_rfl
@[push_cast] theorem u4 : Program.underlying Go.Proofs.Try.prog 4 = some (.bool) := by kernel_rfl
@[push_cast] theorem ni4 : notInt Go.Proofs.Try.prog 4 = true := by kernel_rfl
@[push_cast] theorem el4 : elemT Go.Proofs.Try.prog 4 = none := by kernel_rfl
@[push_cast] theorem ct4 : concT Go.Proofs.Try.prog 4 = true := by kernel_rfl
@[push_cast] theorem sz5 : szT Go.Proofs.Try.prog 5 = some (1) := by kernel_rfl
@[push_cast] theorem by5 : bytesT Go.Proofs.Try.prog 5 = some (1) := by kernel_rfl
@[push_cast] theorem ag5 : aggT Go.Proofs.Try.prog 5 = some (false) := by kernel_rfl
@[push_cast] theorem zt5 : zeroT Go.Proofs.Try.prog 5 = some ([.int .u8 0]) := by kernel_rfl
@[push_cast] theorem zv5 : zeroV Go.Proofs.Try.prog 5 = some (.int .u8 0) := by kernel_rfl
@[push_cast] theorem u5 : Program.underlying Go.Proofs.Try.prog 5 = some (.int .u8) := by kernel_rfl
@[push_cast] theorem el5 : elemT Go.Proofs.Try.prog 5 = none := by kernel_rfl
@[push_cast] theorem kt5 : kindT Go.Proofs.Try.prog 5 = some (.int .u8) := by kernel_rfl
@[push_cast] theorem ct5 : concT Go.Proofs.Try.prog 5 = true := by kernel_rfl
@[push_cast] theorem sz6 : szT Go.Proofs.Try.prog 6 = some (1) := by kernel_rfl
@[push_cast] theorem by6 : bytesT Go.Proofs.Try.prog 6 = some (1) := by kernel_rfl
@[push_cast] theorem ag6 : aggT Go.Proofs.Try.prog 6 = some (false) := by kernel_rfl
@[push_cast] theorem zt6 : zeroT Go.Proofs.Try.prog 6 = some ([.int .u8 0]) := by kernel_rfl
@[push_cast] theorem zv6 : zeroV Go.Proofs.Try.prog 6 = some (.int .u8 0) := by kernel_rfl
@[push_cast] theorem u6 : Program.underlying Go.Proofs.Try.prog 6 = some (.int .u8) := by kernel_rfl
@[push_cast] theorem el6 : elemT Go.Proofs.Try.prog 6 = none := by kernel_rfl
@[push_cast] theorem kt6 : kindT Go.Proofs.Try.prog 6 = some (.int .u8) := by kernel_rfl
@[push_cast] theorem ct6 : concT Go.Proofs.Try.prog 6 = true := by kernel_rfl
@[push_cast] theorem sz7 : szT Go.Proofs.Try.prog 7 = some (4) := by kernel_rfl
@[push_cast] theorem by7 : bytesT Go.Proofs.Try.prog 7 = some (24) := by kernel_rfl
@[push_cast] theorem ag7 : aggT Go.Proofs.Try.prog 7 = some (true) := by kernel_rfl
@[push_cast] theorem zt7 : zeroT Go.Proofs.Try.prog 7 = some ([.int .i64 0, .int .i64 0, .bool false, .int .u8 0]) := by kernel_rfl
@[push_cast] theorem zv7 : zeroV Go.Proofs.Try.prog 7 = some (.agg [.int .i64 0, .int .i64 0, .bool false, .int .u8 0]) := by kernel_rfl
@[push_cast] theorem f7_0 : fieldT Go.Proofs.Try.prog 7 0 = some ((2, 0)) := by kernel_rfl
@[push_cast] theorem f7_1 : fieldT Go.Proofs.Try.prog 7 1 = some ((3, 1)) := by kernel_rfl
@[push_cast] theorem f7_2 : fieldT Go.Proofs.Try.prog 7 2 = some ((4, 2)) := by kernel_rfl
@[push_cast] theorem f7_3 : fieldT Go.Proofs.Try.prog 7 3 = some ((6, 3)) := by kernel_rfl
@[push_cast] theorem pl7 : placesT Go.Proofs.Try.prog 7 = some ([(0, 1), (1, 1), (2, 1), (3, 1)]) := by kernel_rfl
@[push_cast] theorem ar7 : arrT Go.Proofs.Try.prog 7 = none := by kernel_rfl
@[push_cast] theorem ni7 : notInt Go.Proofs.Try.prog 7 = true := by kernel_rfl
@[push_cast] theorem el7 : elemT Go.Proofs.Try.prog 7 = none := by kernel_rfl
@[push_cast] theorem es7 : eqShape Go.Proofs.Try.prog 7 = some ([(0, .i), (1, .i), (2, .b), (3, .i)]) := by kernel_rfl
@[push_cast] theorem ct7 : concT Go.Proofs.Try.prog 7 = true := by kernel_rfl
@[push_cast] theorem sz8 : szT Go.Proofs.Try.prog 8 = some (4) := by kernel_rfl
@[push_cast] theorem by8 : bytesT Go.Proofs.Try.prog 8 = some (24) := by kernel_rfl
@[push_cast] theorem ag8 : aggT Go.Proofs.Try.prog 8 = some (true) := by kernel_rfl
@[push_cast] theorem zt8 : zeroT Go.Proofs.Try.prog 8 = some ([.int .i64 0, .int .i64 0, .bool false, .int .u8 0]) := by kernel_rfl
@[push_cast] theorem zv8 : zeroV Go.Proofs.Try.prog 8 = some (.agg [.int .i64 0, .int .i64 0, .bool false, .int .u8 0]) := by kernel_rfl
@[push_cast] theorem f8_0 : fieldT Go.Proofs.Try.prog 8 0 = some ((2, 0)) := by kernel_rfl
@[push_cast] theorem f8_1 : fieldT Go.Proofs.Try.prog 8 1 = some ((3, 1)) := by kernel_rfl
@[push_cast] theorem f8_2 : fieldT Go.Proofs.Try.prog 8 2 = some ((4, 2)) := by kernel_rfl
@[push_cast] theorem f8_3 : fieldT Go.Proofs.Try.prog 8 3 = some ((6, 3)) := by kernel_rfl
@[push_cast] theorem pl8 : placesT Go.Proofs.Try.prog 8 = some ([(0, 1), (1, 1), (2, 1), (3, 1)]) := by kernel_rfl
@[push_cast] theorem ar8 : arrT Go.Proofs.Try.prog 8 = none := by kernel_rfl
@[push_cast] theorem ni8 : notInt Go.Proofs.Try.prog 8 = true := by kernel_rfl
@[push_cast] theorem el8 : elemT Go.Proofs.Try.prog 8 = none := by kernel_rfl
@[push_cast] theorem es8 : eqShape Go.Proofs.Try.prog 8 = some ([(0, .i), (1, .i), (2, .b), (3, .i)]) := by kernel_rfl
@[push_cast] theorem ct8 : concT Go.Proofs.Try.prog 8 = true := by kernel_rfl
@[push_cast] theorem sz9 : szT Go.Proofs.Try.prog 9 = some (1) := by kernel_rfl
@[push_cast] theorem by9 : bytesT Go.Proofs.Try.prog 9 = some (16) := by kernel_rfl
@[push_cast] theorem ag9 : aggT Go.Proofs.Try.prog 9 = some (false) := by kernel_rfl
@[push_cast] theorem zt9 : zeroT Go.Proofs.Try.prog 9 = some ([.str ByteArray.empty]) := by kernel_rfl
@[push_cast] theorem zv9 : zeroV Go.Proofs.Try.prog 9 = some (.str ByteArray.empty) := by kernel_rfl
@[push_cast] theorem u9 : Program.underlying Go.Proofs.Try.prog 9 = some (.string) := by kernel_rfl
@[push_cast] theorem ni9 : notInt Go.Proofs.Try.prog 9 = true := by kernel_rfl
@[push_cast] theorem el9 : elemT Go.Proofs.Try.prog 9 = none := by kernel_rfl
@[push_cast] theorem kt9 : kindT Go.Proofs.Try.prog 9 = some (.str) := by kernel_rfl
@[push_cast] theorem ct9 : concT Go.Proofs.Try.prog 9 = true := by kernel_rfl
@[push_cast] theorem sz10 : szT Go.Proofs.Try.prog 10 = some (1) := by kernel_rfl
@[push_cast] theorem by10 : bytesT Go.Proofs.Try.prog 10 = some (16) := by kernel_rfl
@[push_cast] theorem ag10 : aggT Go.Proofs.Try.prog 10 = some (false) := by kernel_rfl
@[push_cast] theorem zt10 : zeroT Go.Proofs.Try.prog 10 = some ([.str ByteArray.empty]) := by kernel_rfl
@[push_cast] theorem zv10 : zeroV Go.Proofs.Try.prog 10 = some (.str ByteArray.empty) := by kernel_rfl
@[push_cast] theorem u10 : Program.underlying Go.Proofs.Try.prog 10 = some (.string) := by kernel_rfl
@[push_cast] theorem ni10 : notInt Go.Proofs.Try.prog 10 = true := by kernel_rfl
@[push_cast] theorem el10 : elemT Go.Proofs.Try.prog 10 = none := by kernel_rfl
@[push_cast] theorem kt10 : kindT Go.Proofs.Try.prog 10 = some (.str) := by kernel_rfl
@[push_cast] theorem ct10 : concT Go.Proofs.Try.prog 10 = true := by kernel_rfl
@[push_cast] theorem sz11 : szT Go.Proofs.Try.prog 11 = some (1) := by kernel_rfl
@[push_cast] theorem by11 : bytesT Go.Proofs.Try.prog 11 = some (16) := by kernel_rfl
@[push_cast] theorem ag11 : aggT Go.Proofs.Try.prog 11 = some (false) := by kernel_rfl
@[push_cast] theorem zt11 : zeroT Go.Proofs.Try.prog 11 = some ([.str ByteArray.empty]) := by kernel_rfl
@[push_cast] theorem zv11 : zeroV Go.Proofs.Try.prog 11 = some (.str ByteArray.empty) := by kernel_rfl
@[push_cast] theorem u11 : Program.underlying Go.Proofs.Try.prog 11 = some (.string) := by kernel_rfl
@[push_cast] theorem ni11 : notInt Go.Proofs.Try.prog 11 = true := by kernel_rfl
@[push_cast] theorem el11 : elemT Go.Proofs.Try.prog 11 = none := by kernel_rfl
@[push_cast] theorem kt11 : kindT Go.Proofs.Try.prog 11 = some (.str) := by kernel_rfl
@[push_cast] theorem ct11 : concT Go.Proofs.Try.prog 11 = true := by kernel_rfl
@[push_cast] theorem sz12 : szT Go.Proofs.Try.prog 12 = some (1) := by kernel_rfl
@[push_cast] theorem by12 : bytesT Go.Proofs.Try.prog 12 = some (8) := by kernel_rfl
@[push_cast] theorem ag12 : aggT Go.Proofs.Try.prog 12 = some (false) := by kernel_rfl
@[push_cast] theorem zt12 : zeroT Go.Proofs.Try.prog 12 = some ([.int .u64 0]) := by kernel_rfl
@[push_cast] theorem zv12 : zeroV Go.Proofs.Try.prog 12 = some (.int .u64 0) := by kernel_rfl
@[push_cast] theorem u12 : Program.underlying Go.Proofs.Try.prog 12 = some (.int .u64) := by kernel_rfl
@[push_cast] theorem el12 : elemT Go.Proofs.Try.prog 12 = none := by kernel_rfl
@[push_cast] theorem kt12 : kindT Go.Proofs.Try.prog 12 = some (.int .u64) := by kernel_rfl
@[push_cast] theorem ct12 : concT Go.Proofs.Try.prog 12 = true := by kernel_rfl
@[push_cast] theorem sz13 : szT Go.Proofs.Try.prog 13 = some (2) := by kernel_rfl
@[push_cast] theorem by13 : bytesT Go.Proofs.Try.prog 13 = some (24) := by kernel_rfl
@[push_cast] theorem ag13 : aggT Go.Proofs.Try.prog 13 = some (true) := by kernel_rfl
@[push_cast] theorem zt13 : zeroT Go.Proofs.Try.prog 13 = some ([.str ByteArray.empty, .int .u64 0]) := by kernel_rfl
@[push_cast] theorem zv13 : zeroV Go.Proofs.Try.prog 13 = some (.agg [.str ByteArray.empty, .int .u64 0]) := by kernel_rfl
@[push_cast] theorem f13_0 : fieldT Go.Proofs.Try.prog 13 0 = some ((9, 0)) := by kernel_rfl
@[push_cast] theorem f13_1 : fieldT Go.Proofs.Try.prog 13 1 = some ((12, 1)) := by kernel_rfl
@[push_cast] theorem pl13 : placesT Go.Proofs.Try.prog 13 = some ([(0, 1), (1, 1)]) := by kernel_rfl
@[push_cast] theorem ar13 : arrT Go.Proofs.Try.prog 13 = none := by kernel_rfl
@[push_cast] theorem ni13 : notInt Go.Proofs.Try.prog 13 = true := by kernel_rfl
@[push_cast] theorem el13 : elemT Go.Proofs.Try.prog 13 = none := by kernel_rfl
@[push_cast] theorem ct13 : concT Go.Proofs.Try.prog 13 = true := by kernel_rfl
@[push_cast] theorem sz14 : szT Go.Proofs.Try.prog 14 = some (2) := by kernel_rfl
@[push_cast] theorem by14 : bytesT Go.Proofs.Try.prog 14 = some (24) := by kernel_rfl
@[push_cast] theorem ag14 : aggT Go.Proofs.Try.prog 14 = some (true) := by kernel_rfl
@[push_cast] theorem zt14 : zeroT Go.Proofs.Try.prog 14 = some ([.str ByteArray.empty, .int .u64 0]) := by kernel_rfl
@[push_cast] theorem zv14 : zeroV Go.Proofs.Try.prog 14 = some (.agg [.str ByteArray.empty, .int .u64 0]) := by kernel_rfl
@[push_cast] theorem f14_0 : fieldT Go.Proofs.Try.prog 14 0 = some ((9, 0)) := by kernel_rfl
@[push_cast] theorem f14_1 : fieldT Go.Proofs.Try.prog 14 1 = some ((12, 1)) := by kernel_rfl
@[push_cast] theorem pl14 : placesT Go.Proofs.Try.prog 14 = some ([(0, 1), (1, 1)]) := by kernel_rfl
@[push_cast] theorem ar14 : arrT Go.Proofs.Try.prog 14 = none := by kernel_rfl
@[push_cast] theorem ni14 : notInt Go.Proofs.Try.prog 14 = true := by kernel_rfl
@[push_cast] theorem el14 : elemT Go.Proofs.Try.prog 14 = none := by kernel_rfl
@[push_cast] theorem ct14 : concT Go.Proofs.Try.prog 14 = true := by kernel_rfl
@[push_cast] theorem sz15 : szT Go.Proofs.Try.prog 15 = some (1) := by kernel_rfl
@[push_cast] theorem by15 : bytesT Go.Proofs.Try.prog 15 = some (8) := by kernel_rfl
@[push_cast] theorem ag15 : aggT Go.Proofs.Try.prog 15 = some (false) := by kernel_rfl
@[push_cast] theorem zt15 : zeroT Go.Proofs.Try.prog 15 = some ([.nilp]) := by kernel_rfl
@[push_cast] theorem zv15 : zeroV Go.Proofs.Try.prog 15 = some (.nilp) := by kernel_rfl
@[push_cast] theorem u15 : Program.underlying Go.Proofs.Try.prog 15 = some (.pointer 159) := by kernel_rfl
@[push_cast] theorem ni15 : notInt Go.Proofs.Try.prog 15 = true := by kernel_rfl
@[push_cast] theorem el15 : elemT Go.Proofs.Try.prog 15 = none := by kernel_rfl
@[push_cast] theorem ct15 : concT Go.Proofs.Try.prog 15 = true := by kernel_rfl
@[push_cast] theorem sz16 : szT Go.Proofs.Try.prog 16 = some (1) := by kernel_rfl
@[push_cast] theorem by16 : bytesT Go.Proofs.Try.prog 16 = some (8) := by kernel_rfl
@[push_cast] theorem ag16 : aggT Go.Proofs.Try.prog 16 = some (false) := by kernel_rfl
@[push_cast] theorem zt16 : zeroT Go.Proofs.Try.prog 16 = some ([.nilp]) := by kernel_rfl
@[push_cast] theorem zv16 : zeroV Go.Proofs.Try.prog 16 = some (.nilp) := by kernel_rfl
@[push_cast] theorem u16 : Program.underlying Go.Proofs.Try.prog 16 = some (.pointer 162) := by kernel_rfl
@[push_cast] theorem ni16 : notInt Go.Proofs.Try.prog 16 = true := by kernel_rfl
@[push_cast] theorem el16 : elemT Go.Proofs.Try.prog 16 = none := by kernel_rfl
@[push_cast] theorem ct16 : concT Go.Proofs.Try.prog 16 = true := by kernel_rfl
@[push_cast] theorem sz17 : szT Go.Proofs.Try.prog 17 = some (1) := by kernel_rfl
@[push_cast] theorem by17 : bytesT Go.Proofs.Try.prog 17 = some (8) := by kernel_rfl
@[push_cast] theorem ag17 : aggT Go.Proofs.Try.prog 17 = some (false) := by kernel_rfl
@[push_cast] theorem zt17 : zeroT Go.Proofs.Try.prog 17 = some ([.nilp]) := by kernel_rfl
@[push_cast] theorem zv17 : zeroV Go.Proofs.Try.prog 17 = some (.nilp) := by kernel_rfl
@[push_cast] theorem u17 : Program.underlying Go.Proofs.Try.prog 17 = some (.pointer 171) := by kernel_rfl
@[push_cast] theorem ni17 : notInt Go.Proofs.Try.prog 17 = true := by kernel_rfl
@[push_cast] theorem el17 : elemT Go.Proofs.Try.prog 17 = none := by kernel_rfl
@[push_cast] theorem ct17 : concT Go.Proofs.Try.prog 17 = true := by kernel_rfl
@[push_cast] theorem sz18 : szT Go.Proofs.Try.prog 18 = some (1) := by kernel_rfl
@[push_cast] theorem by18 : bytesT Go.Proofs.Try.prog 18 = some (8) := by kernel_rfl
@[push_cast] theorem ag18 : aggT Go.Proofs.Try.prog 18 = some (true) := by kernel_rfl
@[push_cast] theorem zt18 : zeroT Go.Proofs.Try.prog 18 = some ([.nilp]) := by kernel_rfl
@[push_cast] theorem zv18 : zeroV Go.Proofs.Try.prog 18 = some (.agg [.nilp]) := by kernel_rfl
@[push_cast] theorem f18_0 : fieldT Go.Proofs.Try.prog 18 0 = some ((17, 0)) := by kernel_rfl
@[push_cast] theorem pl18 : placesT Go.Proofs.Try.prog 18 = some ([(0, 1)]) := by kernel_rfl
@[push_cast] theorem ar18 : arrT Go.Proofs.Try.prog 18 = none := by kernel_rfl
@[push_cast] theorem ni18 : notInt Go.Proofs.Try.prog 18 = true := by kernel_rfl
@[push_cast] theorem el18 : elemT Go.Proofs.Try.prog 18 = none := by kernel_rfl
@[push_cast] theorem ct18 : concT Go.Proofs.Try.prog 18 = true := by kernel_rfl
@[push_cast] theorem sz19 : szT Go.Proofs.Try.prog 19 = some (1) := by kernel_rfl
@[push_cast] theorem by19 : bytesT Go.Proofs.Try.prog 19 = some (8) := by kernel_rfl
@[push_cast] theorem ag19 : aggT Go.Proofs.Try.prog 19 = some (true) := by kernel_rfl
@[push_cast] theorem zt19 : zeroT Go.Proofs.Try.prog 19 = some ([.nilp]) := by kernel_rfl
@[push_cast] theorem zv19 : zeroV Go.Proofs.Try.prog 19 = some (.agg [.nilp]) := by kernel_rfl
@[push_cast] theorem f19_0 : fieldT Go.Proofs.Try.prog 19 0 = some ((17, 0)) := by kernel_rfl
@[push_cast] theorem pl19 : placesT Go.Proofs.Try.prog 19 = some ([(0, 1)]) := by kernel_rfl
@[push_cast] theorem ar19 : arrT Go.Proofs.Try.prog 19 = none := by kernel_rfl
@[push_cast] theorem ni19 : notInt Go.Proofs.Try.prog 19 = true := by kernel_rfl
@[push_cast] theorem el19 : elemT Go.Proofs.Try.prog 19 = none := by kernel_rfl
@[push_cast] theorem ct19 : concT Go.Proofs.Try.prog 19 = true := by kernel_rfl
@[push_cast] theorem sz20 : szT Go.Proofs.Try.prog 20 = some (1) := by kernel_rfl
@[push_cast] theorem by20 : bytesT Go.Proofs.Try.prog 20 = some (16) := by kernel_rfl
@[push_cast] theorem ag20 : aggT Go.Proofs.Try.prog 20 = some (false) := by kernel_rfl
@[push_cast] theorem zt20 : zeroT Go.Proofs.Try.prog 20 = some ([.nili]) := by kernel_rfl
@[push_cast] theorem zv20 : zeroV Go.Proofs.Try.prog 20 = some (.nili) := by kernel_rfl
@[push_cast] theorem ni20 : notInt Go.Proofs.Try.prog 20 = true := by kernel_rfl
@[push_cast] theorem el20 : elemT Go.Proofs.Try.prog 20 = none := by kernel_rfl
@[push_cast] theorem ct20 : concT Go.Proofs.Try.prog 20 = false := by kernel_rfl
@[push_cast] theorem sz21 : szT Go.Proofs.Try.prog 21 = some (1) := by kernel_rfl
@[push_cast] theorem by21 : bytesT Go.Proofs.Try.prog 21 = some (4) := by kernel_rfl
@[push_cast] theorem ag21 : aggT Go.Proofs.Try.prog 21 = some (false) := by kernel_rfl
@[push_cast] theorem zt21 : zeroT Go.Proofs.Try.prog 21 = some ([.int .i32 0]) := by kernel_rfl
@[push_cast] theorem zv21 : zeroV Go.Proofs.Try.prog 21 = some (.int .i32 0) := by kernel_rfl
@[push_cast] theorem u21 : Program.underlying Go.Proofs.Try.prog 21 = some (.int .i32) := by kernel_rfl
@[push_cast] theorem el21 : elemT Go.Proofs.Try.prog 21 = none := by kernel_rfl
@[push_cast] theorem kt21 : kindT Go.Proofs.Try.prog 21 = some (.int .i32) := by kernel_rfl
@[push_cast] theorem ct21 : concT Go.Proofs.Try.prog 21 = true := by kernel_rfl
@[push_cast] theorem sz22 : szT Go.Proofs.Try.prog 22 = some (1) := by kernel_rfl
@[push_cast] theorem by22 : bytesT Go.Proofs.Try.prog 22 = some (24) := by kernel_rfl
@[push_cast] theorem ag22 : aggT Go.Proofs.Try.prog 22 = some (false) := by kernel_rfl
@[push_cast] theorem zt22 : zeroT Go.Proofs.Try.prog 22 = some ([.sl 0 [] .full]) := by kernel_rfl
@[push_cast] theorem zv22 : zeroV Go.Proofs.Try.prog 22 = some (.sl 0 [] .full) := by kernel_rfl
@[push_cast] theorem u22 : Program.underlying Go.Proofs.Try.prog 22 = some (.slice 9) := by kernel_rfl
@[push_cast] theorem ni22 : notInt Go.Proofs.Try.prog 22 = true := by kernel_rfl
@[push_cast] theorem el22 : elemT Go.Proofs.Try.prog 22 = some (9) := by kernel_rfl
@[push_cast] theorem ct22 : concT Go.Proofs.Try.prog 22 = true := by kernel_rfl
@[push_cast] theorem sz23 : szT Go.Proofs.Try.prog 23 = some (1) := by kernel_rfl
@[push_cast] theorem by23 : bytesT Go.Proofs.Try.prog 23 = some (24) := by kernel_rfl
@[push_cast] theorem ag23 : aggT Go.Proofs.Try.prog 23 = some (false) := by kernel_rfl
@[push_cast] theorem zt23 : zeroT Go.Proofs.Try.prog 23 = some ([.sl 0 [] .full]) := by kernel_rfl
@[push_cast] theorem zv23 : zeroV Go.Proofs.Try.prog 23 = some (.sl 0 [] .full) := by kernel_rfl
@[push_cast] theorem u23 : Program.underlying Go.Proofs.Try.prog 23 = some (.slice 92) := by kernel_rfl
@[push_cast] theorem ni23 : notInt Go.Proofs.Try.prog 23 = true := by kernel_rfl
@[push_cast] theorem el23 : elemT Go.Proofs.Try.prog 23 = some (92) := by kernel_rfl
@[push_cast] theorem ct23 : concT Go.Proofs.Try.prog 23 = true := by kernel_rfl
@[push_cast] theorem sz24 : szT Go.Proofs.Try.prog 24 = some (1) := by kernel_rfl
@[push_cast] theorem by24 : bytesT Go.Proofs.Try.prog 24 = some (24) := by kernel_rfl
@[push_cast] theorem ag24 : aggT Go.Proofs.Try.prog 24 = some (false) := by kernel_rfl
@[push_cast] theorem zt24 : zeroT Go.Proofs.Try.prog 24 = some ([.sl 0 [] .full]) := by kernel_rfl
@[push_cast] theorem zv24 : zeroV Go.Proofs.Try.prog 24 = some (.sl 0 [] .full) := by kernel_rfl
@[push_cast] theorem u24 : Program.underlying Go.Proofs.Try.prog 24 = some (.slice 3) := by kernel_rfl
@[push_cast] theorem ni24 : notInt Go.Proofs.Try.prog 24 = true := by kernel_rfl
@[push_cast] theorem el24 : elemT Go.Proofs.Try.prog 24 = some (3) := by kernel_rfl
@[push_cast] theorem ct24 : concT Go.Proofs.Try.prog 24 = true := by kernel_rfl
@[push_cast] theorem sz25 : szT Go.Proofs.Try.prog 25 = some (4) := by kernel_rfl
@[push_cast] theorem by25 : bytesT Go.Proofs.Try.prog 25 = some (80) := by kernel_rfl
@[push_cast] theorem ag25 : aggT Go.Proofs.Try.prog 25 = some (true) := by kernel_rfl
@[push_cast] theorem zt25 : zeroT Go.Proofs.Try.prog 25 = some ([.bool false, .sl 0 [] .full, .sl 0 [] .full, .sl 0 [] .full]) := by kernel_rfl
@[push_cast] theorem zv25 : zeroV Go.Proofs.Try.prog 25 = some (.agg [.bool false, .sl 0 [] .full, .sl 0 [] .full, .sl 0 [] .full]) := by kernel_rfl
@[push_cast] theorem f25_0 : fieldT Go.Proofs.Try.prog 25 0 = some ((4, 0)) := by kernel_rfl
@[push_cast] theorem f25_1 : fieldT Go.Proofs.Try.prog 25 1 = some ((22, 1)) := by kernel_rfl
@[push_cast] theorem f25_2 : fieldT Go.Proofs.Try.prog 25 2 = some ((23, 2)) := by kernel_rfl
@[push_cast] theorem f25_3 : fieldT Go.Proofs.Try.prog 25 3 = some ((24, 3)) := by kernel_rfl
@[push_cast] theorem pl25 : placesT Go.Proofs.Try.prog 25 = some ([(0, 1), (1, 1), (2, 1), (3, 1)]) := by kernel_rfl
@[push_cast] theorem ar25 : arrT Go.Proofs.Try.prog 25 = none := by kernel_rfl
@[push_cast] theorem ni25 : notInt Go.Proofs.Try.prog 25 = true := by kernel_rfl
@[push_cast] theorem el25 : elemT Go.Proofs.Try.prog 25 = none := by kernel_rfl
@[push_cast] theorem ct25 : concT Go.Proofs.Try.prog 25 = true := by kernel_rfl
@[push_cast] theorem sz26 : szT Go.Proofs.Try.prog 26 = some (4) := by kernel_rfl
@[push_cast] theorem by26 : bytesT Go.Proofs.Try.prog 26 = some (80) := by kernel_rfl
@[push_cast] theorem ag26 : aggT Go.Proofs.Try.prog 26 = some (true) := by kernel_rfl
@[push_cast] theorem zt26 : zeroT Go.Proofs.Try.prog 26 = some ([.bool false, .sl 0 [] .full, .sl 0 [] .full, .sl 0 [] .full]) := by kernel_rfl
@[push_cast] theorem zv26 : zeroV Go.Proofs.Try.prog 26 = some (.agg [.bool false, .sl 0 [] .full, .sl 0 [] .full, .sl 0 [] .full]) := by kernel_rfl
@[push_cast] theorem f26_0 : fieldT Go.Proofs.Try.prog 26 0 = some ((4, 0)) := by kernel_rfl
@[push_cast] theorem f26_1 : fieldT Go.Proofs.Try.prog 26 1 = some ((22, 1)) := by kernel_rfl
@[push_cast] theorem f26_2 : fieldT Go.Proofs.Try.prog 26 2 = some ((23, 2)) := by kernel_rfl
@[push_cast] theorem f26_3 : fieldT Go.Proofs.Try.prog 26 3 = some ((24, 3)) := by kernel_rfl
@[push_cast] theorem pl26 : placesT Go.Proofs.Try.prog 26 = some ([(0, 1), (1, 1), (2, 1), (3, 1)]) := by kernel_rfl
@[push_cast] theorem ar26 : arrT Go.Proofs.Try.prog 26 = none := by kernel_rfl
@[push_cast] theorem ni26 : notInt Go.Proofs.Try.prog 26 = true := by kernel_rfl
@[push_cast] theorem el26 : elemT Go.Proofs.Try.prog 26 = none := by kernel_rfl
@[push_cast] theorem ct26 : concT Go.Proofs.Try.prog 26 = true := by kernel_rfl
@[push_cast] theorem sz27 : szT Go.Proofs.Try.prog 27 = some (1) := by kernel_rfl
@[push_cast] theorem by27 : bytesT Go.Proofs.Try.prog 27 = some (24) := by kernel_rfl
@[push_cast] theorem ag27 : aggT Go.Proofs.Try.prog 27 = some (false) := by kernel_rfl
@[push_cast] theorem zt27 : zeroT Go.Proofs.Try.prog 27 = some ([.sl 0 [] .full]) := by kernel_rfl
@[push_cast] theorem zv27 : zeroV Go.Proofs.Try.prog 27 = some (.sl 0 [] .full) := by kernel_rfl
@[push_cast] theorem u27 : Program.underlying Go.Proofs.Try.prog 27 = some (.slice 5) := by kernel_rfl
@[push_cast] theorem ni27 : notInt Go.Proofs.Try.prog 27 = true := by kernel_rfl
@[push_cast] theorem el27 : elemT Go.Proofs.Try.prog 27 = some (5) := by kernel_rfl
@[push_cast] theorem ct27 : concT Go.Proofs.Try.prog 27 = true := by kernel_rfl
@[push_cast] theorem sz28 : szT Go.Proofs.Try.prog 28 = some (1) := by kernel_rfl
@[push_cast] theorem by28 : bytesT Go.Proofs.Try.prog 28 = some (8) := by kernel_rfl
@[push_cast] theorem ag28 : aggT Go.Proofs.Try.prog 28 = some (false) := by kernel_rfl
@[push_cast] theorem zt28 : zeroT Go.Proofs.Try.prog 28 = some ([.nilf]) := by kernel_rfl
@[push_cast] theorem zv28 : zeroV Go.Proofs.Try.prog 28 = some (.nilf) := by kernel_rfl
@[push_cast] theorem ni28 : notInt Go.Proofs.Try.prog 28 = true := by kernel_rfl
@[push_cast] theorem el28 : elemT Go.Proofs.Try.prog 28 = none := by kernel_rfl
@[push_cast] theorem ct28 : concT Go.Proofs.Try.prog 28 = true := by kernel_rfl
@[push_cast] theorem sz29 : szT Go.Proofs.Try.prog 29 = some (1) := by kernel_rfl
@[push_cast] theorem by29 : bytesT Go.Proofs.Try.prog 29 = some (8) := by kernel_rfl
@[push_cast] theorem ag29 : aggT Go.Proofs.Try.prog 29 = some (false) := by kernel_rfl
@[push_cast] theorem zt29 : zeroT Go.Proofs.Try.prog 29 = some ([.nilf]) := by kernel_rfl
@[push_cast] theorem zv29 : zeroV Go.Proofs.Try.prog 29 = some (.nilf) := by kernel_rfl
@[push_cast] theorem ni29 : notInt Go.Proofs.Try.prog 29 = true := by kernel_rfl
@[push_cast] theorem el29 : elemT Go.Proofs.Try.prog 29 = none := by kernel_rfl
@[push_cast] theorem ct29 : concT Go.Proofs.Try.prog 29 = true := by kernel_rfl
@[push_cast] theorem sz30 : szT Go.Proofs.Try.prog 30 = some (1) := by kernel_rfl
@[push_cast] theorem by30 : bytesT Go.Proofs.Try.prog 30 = some (24) := by kernel_rfl
@[push_cast] theorem ag30 : aggT Go.Proofs.Try.prog 30 = some (false) := by kernel_rfl
@[push_cast] theorem zt30 : zeroT Go.Proofs.Try.prog 30 = some ([.sl 0 [] .full]) := by kernel_rfl
@[push_cast] theorem zv30 : zeroV Go.Proofs.Try.prog 30 = some (.sl 0 [] .full) := by kernel_rfl
@[push_cast] theorem u30 : Program.underlying Go.Proofs.Try.prog 30 = some (.slice 94) := by kernel_rfl
@[push_cast] theorem ni30 : notInt Go.Proofs.Try.prog 30 = true := by kernel_rfl
@[push_cast] theorem el30 : elemT Go.Proofs.Try.prog 30 = some (94) := by kernel_rfl
@[push_cast] theorem ct30 : concT Go.Proofs.Try.prog 30 = true := by kernel_rfl
@[push_cast] theorem sz31 : szT Go.Proofs.Try.prog 31 = some (3) := by kernel_rfl
@[push_cast] theorem by31 : bytesT Go.Proofs.Try.prog 31 = some (40) := by kernel_rfl
@[push_cast] theorem ag31 : aggT Go.Proofs.Try.prog 31 = some (true) := by kernel_rfl
@[push_cast] theorem zt31 : zeroT Go.Proofs.Try.prog 31 = some ([.bool false, .int .i64 0, .sl 0 [] .full]) := by kernel_rfl
@[push_cast] theorem zv31 : zeroV Go.Proofs.Try.prog 31 = some (.agg [.bool false, .int .i64 0, .sl 0 [] .full]) := by kernel_rfl
@[push_cast] theorem f31_0 : fieldT Go.Proofs.Try.prog 31 0 = some ((4, 0)) := by kernel_rfl
@[push_cast] theorem f31_1 : fieldT Go.Proofs.Try.prog 31 1 = some ((3, 1)) := by kernel_rfl
@[push_cast] theorem f31_2 : fieldT Go.Proofs.Try.prog 31 2 = some ((30, 2)) := by kernel_rfl
@[push_cast] theorem pl31 : placesT Go.Proofs.Try.prog 31 = some ([(0, 1), (1, 1), (2, 1)]) := by kernel_rfl
@[push_cast] theorem ar31 : arrT Go.Proofs.Try.prog 31 = none := by kernel_rfl
@[push_cast] theorem ni31 : notInt Go.Proofs.Try.prog 31 = true := by kernel_rfl
@[push_cast] theorem el31 : elemT Go.Proofs.Try.prog 31 = none := by kernel_rfl
@[push_cast] theorem ct31 : concT Go.Proofs.Try.prog 31 = true := by kernel_rfl
@[push_cast] theorem sz32 : szT Go.Proofs.Try.prog 32 = some (3) := by kernel_rfl
@[push_cast] theorem by32 : bytesT Go.Proofs.Try.prog 32 = some (40) := by kernel_rfl
@[push_cast] theorem ag32 : aggT Go.Proofs.Try.prog 32 = some (true) := by kernel_rfl
@[push_cast] theorem zt32 : zeroT Go.Proofs.Try.prog 32 = some ([.bool false, .int .i64 0, .sl 0 [] .full]) := by kernel_rfl
@[push_cast] theorem zv32 : zeroV Go.Proofs.Try.prog 32 = some (.agg [.bool false, .int .i64 0, .sl 0 [] .full]) := by kernel_rfl
@[push_cast] theorem f32_0 : fieldT Go.Proofs.Try.prog 32 0 = some ((4, 0)) := by kernel_rfl
@[push_cast] theorem f32_1 : fieldT Go.Proofs.Try.prog 32 1 = some ((3, 1)) := by kernel_rfl
@[push_cast] theorem f32_2 : fieldT Go.Proofs.Try.prog 32 2 = some ((30, 2)) := by kernel_rfl
@[push_cast] theorem pl32 : placesT Go.Proofs.Try.prog 32 = some ([(0, 1), (1, 1), (2, 1)]) := by kernel_rfl
@[push_cast] theorem ar32 : arrT Go.Proofs.Try.prog 32 = none := by kernel_rfl
@[push_cast] theorem ni32 : notInt Go.Proofs.Try.prog 32 = true := by kernel_rfl
@[push_cast] theorem el32 : elemT Go.Proofs.Try.prog 32 = none := by kernel_rfl
@[push_cast] theorem ct32 : concT Go.Proofs.Try.prog 32 = true := by kernel_rfl
@[push_cast] theorem sz33 : szT Go.Proofs.Try.prog 33 = some (1) := by kernel_rfl
@[push_cast] theorem by33 : bytesT Go.Proofs.Try.prog 33 = some (0) := by kernel_rfl
@[push_cast] theorem ag33 : aggT Go.Proofs.Try.prog 33 = some (false) := by kernel_rfl
@[push_cast] theorem zt33 : zeroT Go.Proofs.Try.prog 33 = some ([.dead]) := by kernel_rfl
@[push_cast] theorem zv33 : zeroV Go.Proofs.Try.prog 33 = some (.dead) := by kernel_rfl
@[push_cast] theorem ni33 : notInt Go.Proofs.Try.prog 33 = true := by kernel_rfl
@[push_cast] theorem el33 : elemT Go.Proofs.Try.prog 33 = none := by kernel_rfl
@[push_cast] theorem ct33 : concT Go.Proofs.Try.prog 33 = true := by kernel_rfl
@[push_cast] theorem sz34 : szT Go.Proofs.Try.prog 34 = some (1) := by kernel_rfl
@[push_cast] theorem by34 : bytesT Go.Proofs.Try.prog 34 = some (8) := by kernel_rfl
@[push_cast] theorem ag34 : aggT Go.Proofs.Try.prog 34 = some (false) := by kernel_rfl
@[push_cast] theorem zt34 : zeroT Go.Proofs.Try.prog 34 = some ([.nilf]) := by kernel_rfl
@[push_cast] theorem zv34 : zeroV Go.Proofs.Try.prog 34 = some (.nilf) := by kernel_rfl
@[push_cast] theorem ni34 : notInt Go.Proofs.Try.prog 34 = true := by kernel_rfl
@[push_cast] theorem el34 : elemT Go.Proofs.Try.prog 34 = none := by kernel_rfl
@[push_cast] theorem ct34 : concT Go.Proofs.Try.prog 34 = true := by kernel_rfl
@[push_cast] theorem sz35 : szT Go.Proofs.Try.prog 35 = some (1) := by kernel_rfl
@[push_cast] theorem by35 : bytesT Go.Proofs.Try.prog 35 = some (8) := by kernel_rfl
@[push_cast] theorem ag35 : aggT Go.Proofs.Try.prog 35 = some (false) := by kernel_rfl
@[push_cast] theorem zt35 : zeroT Go.Proofs.Try.prog 35 = some ([.nilf]) := by kernel_rfl
@[push_cast] theorem zv35 : zeroV Go.Proofs.Try.prog 35 = some (.nilf) := by kernel_rfl
@[push_cast] theorem ni35 : notInt Go.Proofs.Try.prog 35 = true := by kernel_rfl
@[push_cast] theorem el35 : elemT Go.Proofs.Try.prog 35 = none := by kernel_rfl
@[push_cast] theorem ct35 : concT Go.Proofs.Try.prog 35 = true := by kernel_rfl
@[push_cast] theorem sz36 : szT Go.Proofs.Try.prog 36 = some (1) := by kernel_rfl
@[push_cast] theorem by36 : bytesT Go.Proofs.Try.prog 36 = some (8) := by kernel_rfl
@[push_cast] theorem ag36 : aggT Go.Proofs.Try.prog 36 = some (false) := by kernel_rfl
@[push_cast] theorem zt36 : zeroT Go.Proofs.Try.prog 36 = some ([.int .i64 0]) := by kernel_rfl
@[push_cast] theorem zv36 : zeroV Go.Proofs.Try.prog 36 = some (.int .i64 0) := by kernel_rfl
@[push_cast] theorem u36 : Program.underlying Go.Proofs.Try.prog 36 = some (.int .i64) := by kernel_rfl
@[push_cast] theorem el36 : elemT Go.Proofs.Try.prog 36 = none := by kernel_rfl
@[push_cast] theorem kt36 : kindT Go.Proofs.Try.prog 36 = some (.int .i64) := by kernel_rfl
@[push_cast] theorem ct36 : concT Go.Proofs.Try.prog 36 = true := by kernel_rfl
@[push_cast] theorem sz37 : szT Go.Proofs.Try.prog 37 = some (1) := by kernel_rfl
@[push_cast] theorem by37 : bytesT Go.Proofs.Try.prog 37 = some (0) := by kernel_rfl
@[push_cast] theorem ag37 : aggT Go.Proofs.Try.prog 37 = some (false) := by kernel_rfl
@[push_cast] theorem zt37 : zeroT Go.Proofs.Try.prog 37 = some ([.dead]) := by kernel_rfl
@[push_cast] theorem zv37 : zeroV Go.Proofs.Try.prog 37 = some (.dead) := by kernel_rfl
@[push_cast] theorem ni37 : notInt Go.Proofs.Try.prog 37 = true := by kernel_rfl
@[push_cast] theorem el37 : elemT Go.Proofs.Try.prog 37 = none := by kernel_rfl
@[push_cast] theorem ct37 : concT Go.Proofs.Try.prog 37 = true := by kernel_rfl
@[push_cast] theorem sz38 : szT Go.Proofs.Try.prog 38 = some (1) := by kernel_rfl
@[push_cast] theorem by38 : bytesT Go.Proofs.Try.prog 38 = some (8) := by kernel_rfl
@[push_cast] theorem ag38 : aggT Go.Proofs.Try.prog 38 = some (false) := by kernel_rfl
@[push_cast] theorem zt38 : zeroT Go.Proofs.Try.prog 38 = some ([.nilf]) := by kernel_rfl
@[push_cast] theorem zv38 : zeroV Go.Proofs.Try.prog 38 = some (.nilf) := by kernel_rfl
@[push_cast] theorem ni38 : notInt Go.Proofs.Try.prog 38 = true := by kernel_rfl
@[push_cast] theorem el38 : elemT Go.Proofs.Try.prog 38 = none := by kernel_rfl
@[push_cast] theorem ct38 : concT Go.Proofs.Try.prog 38 = true := by kernel_rfl
@[push_cast] theorem sz39 : szT Go.Proofs.Try.prog 39 = some (1) := by kernel_rfl
@[push_cast] theorem by39 : bytesT Go.Proofs.Try.prog 39 = some (8) := by kernel_rfl
@[push_cast] theorem ag39 : aggT Go.Proofs.Try.prog 39 = some (false) := by kernel_rfl
@[push_cast] theorem zt39 : zeroT Go.Proofs.Try.prog 39 = some ([.nilf]) := by kernel_rfl
@[push_cast] theorem zv39 : zeroV Go.Proofs.Try.prog 39 = some (.nilf) := by kernel_rfl
@[push_cast] theorem ni39 : notInt Go.Proofs.Try.prog 39 = true := by kernel_rfl
@[push_cast] theorem el39 : elemT Go.Proofs.Try.prog 39 = none := by kernel_rfl
@[push_cast] theorem ct39 : concT Go.Proofs.Try.prog 39 = true := by kernel_rfl
@[push_cast] theorem sz40 : szT Go.Proofs.Try.prog 40 = some (1) := by kernel_rfl
@[push_cast] theorem by40 : bytesT Go.Proofs.Try.prog 40 = some (8) := by kernel_rfl
@[push_cast] theorem ag40 : aggT Go.Proofs.Try.prog 40 = some (false) := by kernel_rfl
@[push_cast] theorem zt40 : zeroT Go.Proofs.Try.prog 40 = some ([.nilf]) := by kernel_rfl
@[push_cast] theorem zv40 : zeroV Go.Proofs.Try.prog 40 = some (.nilf) := by kernel_rfl
@[push_cast] theorem ni40 : notInt Go.Proofs.Try.prog 40 = true := by kernel_rfl
@[push_cast] theorem el40 : elemT Go.Proofs.Try.prog 40 = none := by kernel_rfl
@[push_cast] theorem ct40 : concT Go.Proofs.Try.prog 40 = true := by kernel_rfl
@[push_cast] theorem sz41 : szT Go.Proofs.Try.prog 41 = some (1) := by kernel_rfl
@[push_cast] theorem by41 : bytesT Go.Proofs.Try.prog 41 = some (8) := by kernel_rfl
@[push_cast] theorem ag41 : aggT Go.Proofs.Try.prog 41 = some (false) := by kernel_rfl
@[push_cast] theorem zt41 : zeroT Go.Proofs.Try.prog 41 = some ([.nilf]) := by kernel_rfl
@[push_cast] theorem zv41 : zeroV Go.Proofs.Try.prog 41 = some (.nilf) := by kernel_rfl
@[push_cast] theorem ni41 : notInt Go.Proofs.Try.prog 41 = true := by kernel_rfl
@[push_cast] theorem el41 : elemT Go.Proofs.Try.prog 41 = none := by kernel_rfl
@[push_cast] theorem ct41 : concT Go.Proofs.Try.prog 41 = true := by kernel_rfl
@[push_cast] theorem sz42 : szT Go.Proofs.Try.prog 42 = some (1) := by kernel_rfl
@[push_cast] theorem by42 : bytesT Go.Proofs.Try.prog 42 = some (0) := by kernel_rfl
@[push_cast] theorem ag42 : aggT Go.Proofs.Try.prog 42 = some (false) := by kernel_rfl
@[push_cast] theorem zt42 : zeroT Go.Proofs.Try.prog 42 = some ([.dead]) := by kernel_rfl
@[push_cast] theorem zv42 : zeroV Go.Proofs.Try.prog 42 = some (.dead) := by kernel_rfl
@[push_cast] theorem ni42 : notInt Go.Proofs.Try.prog 42 = true := by kernel_rfl
@[push_cast] theorem el42 : elemT Go.Proofs.Try.prog 42 = none := by kernel_rfl
@[push_cast] theorem ct42 : concT Go.Proofs.Try.prog 42 = true := by kernel_rfl
@[push_cast] theorem sz43 : szT Go.Proofs.Try.prog 43 = some (1) := by kernel_rfl
@[push_cast] theorem by43 : bytesT Go.Proofs.Try.prog 43 = some (8) := by kernel_rfl
@[push_cast] theorem ag43 : aggT Go.Proofs.Try.prog 43 = some (false) := by kernel_rfl
@[push_cast] theorem zt43 : zeroT Go.Proofs.Try.prog 43 = some ([.nilf]) := by kernel_rfl
@[push_cast] theorem zv43 : zeroV Go.Proofs.Try.prog 43 = some (.nilf) := by kernel_rfl
@[push_cast] theorem ni43 : notInt Go.Proofs.Try.prog 43 = true := by kernel_rfl
@[push_cast] theorem el43 : elemT Go.Proofs.Try.prog 43 = none := by kernel_rfl
@[push_cast] theorem ct43 : concT Go.Proofs.Try.prog 43 = true := by kernel_rfl
@[push_cast] theorem sz44 : szT Go.Proofs.Try.prog 44 = some (1) := by kernel_rfl
@[push_cast] theorem by44 : bytesT Go.Proofs.Try.prog 44 = some (0) := by kernel_rfl
@[push_cast] theorem ag44 : aggT Go.Proofs.Try.prog 44 = some (false) := by kernel_rfl
@[push_cast] theorem zt44 : zeroT Go.Proofs.Try.prog 44 = some ([.dead]) := by kernel_rfl
@[push_cast] theorem zv44 : zeroV Go.Proofs.Try.prog 44 = some (.dead) := by kernel_rfl
@[push_cast] theorem ni44 : notInt Go.Proofs.Try.prog 44 = true := by kernel_rfl
@[push_cast] theorem el44 : elemT Go.Proofs.Try.prog 44 = none := by kernel_rfl
@[push_cast] theorem ct44 : concT Go.Proofs.Try.prog 44 = true := by kernel_rfl
@[push_cast] theorem sz45 : szT Go.Proofs.Try.prog 45 = some (1) := by kernel_rfl
@[push_cast] theorem by45 : bytesT Go.Proofs.Try.prog 45 = some (8) := by kernel_rfl
@[push_cast] theorem ag45 : aggT Go.Proofs.Try.prog 45 = some (false) := by kernel_rfl
@[push_cast] theorem zt45 : zeroT Go.Proofs.Try.prog 45 = some ([.nilf]) := by kernel_rfl
@[push_cast] theorem zv45 : zeroV Go.Proofs.Try.prog 45 = some (.nilf) := by kernel_rfl
@[push_cast] theorem ni45 : notInt Go.Proofs.Try.prog 45 = true := by kernel_rfl
@[push_cast] theorem el45 : elemT Go.Proofs.Try.prog 45 = none := by kernel_rfl
@[push_cast] theorem ct45 : concT Go.Proofs.Try.prog 45 = true := by kernel_rfl
@[push_cast] theorem sz46 : szT Go.Proofs.Try.prog 46 = some (1) := by kernel_rfl
@[push_cast] theorem by46 : bytesT Go.Proofs.Try.prog 46 = some (8) := by kernel_rfl
@[push_cast] theorem ag46 : aggT Go.Proofs.Try.prog 46 = some (false) := by kernel_rfl
@[push_cast] theorem zt46 : zeroT Go.Proofs.Try.prog 46 = some ([.nilf]) := by kernel_rfl
@[push_cast] theorem zv46 : zeroV Go.Proofs.Try.prog 46 = some (.nilf) := by kernel_rfl
@[push_cast] theorem ni46 : notInt Go.Proofs.Try.prog 46 = true := by kernel_rfl
@[push_cast] theorem el46 : elemT Go.Proofs.Try.prog 46 = none := by kernel_rfl
@[push_cast] theorem ct46 : concT Go.Proofs.Try.prog 46 = true := by kernel_rfl
@[push_cast] theorem sz47 : szT Go.Proofs.Try.prog 47 = some (1) := by kernel_rfl
@[push_cast] theorem by47 : bytesT Go.Proofs.Try.prog 47 = some (8) := by kernel_rfl
@[push_cast] theorem ag47 : aggT Go.Proofs.Try.prog 47 = some (false) := by kernel_rfl
@[push_cast] theorem zt47 : zeroT Go.Proofs.Try.prog 47 = some ([.nilf]) := by kernel_rfl
@[push_cast] theorem zv47 : zeroV Go.Proofs.Try.prog 47 = some (.nilf) := by kernel_rfl
@[push_cast] theorem ni47 : notInt Go.Proofs.Try.prog 47 = true := by kernel_rfl
@[push_cast] theorem el47 : elemT Go.Proofs.Try.prog 47 = none := by kernel_rfl
@[push_cast] theorem ct47 : concT Go.Proofs.Try.prog 47 = true := by kernel_rfl
@[push_cast] theorem sz48 : szT Go.Proofs.Try.prog 48 = some (1) := by kernel_rfl
@[push_cast] theorem by48 : bytesT Go.Proofs.Try.prog 48 = some (8) := by kernel_rfl
@[push_cast] theorem ag48 : aggT Go.Proofs.Try.prog 48 = some (false) := by kernel_rfl
@[push_cast] theorem zt48 : zeroT Go.Proofs.Try.prog 48 = some ([.nilf]) := by kernel_rfl
@[push_cast] theorem zv48 : zeroV Go.Proofs.Try.prog 48 = some (.nilf) := by kernel_rfl
@[push_cast] theorem ni48 : notInt Go.Proofs.Try.prog 48 = true := by kernel_rfl
@[push_cast] theorem el48 : elemT Go.Proofs.Try.prog 48 = none := by kernel_rfl
@[push_cast] theorem ct48 : concT Go.Proofs.Try.prog 48 = true := by kernel_rfl
@[push_cast] theorem sz49 : szT Go.Proofs.Try.prog 49 = some (1) := by kernel_rfl
@[push_cast] theorem by49 : bytesT Go.Proofs.Try.prog 49 = some (8) := by kernel_rfl
@[push_cast] theorem ag49 : aggT Go.Proofs.Try.prog 49 = some (false) := by kernel_rfl
@[push_cast] theorem zt49 : zeroT Go.Proofs.Try.prog 49 = some ([.nilf]) := by kernel_rfl
@[push_cast] theorem zv49 : zeroV Go.Proofs.Try.prog 49 = some (.nilf) := by kernel_rfl
@[push_cast] theorem ni49 : notInt Go.Proofs.Try.prog 49 = true := by kernel_rfl
@[push_cast] theorem el49 : elemT Go.Proofs.Try.prog 49 = none := by kernel_rfl
@[push_cast] theorem ct49 : concT Go.Proofs.Try.prog 49 = true := by kernel_rfl
@[push_cast] theorem sz50 : szT Go.Proofs.Try.prog 50 = some (1) := by kernel_rfl
@[push_cast] theorem by50 : bytesT Go.Proofs.Try.prog 50 = some (0) := by kernel_rfl
@[push_cast] theorem ag50 : aggT Go.Proofs.Try.prog 50 = some (false) := by kernel_rfl
@[push_cast] theorem zt50 : zeroT Go.Proofs.Try.prog 50 = some ([.dead]) := by kernel_rfl
@[push_cast] theorem zv50 : zeroV Go.Proofs.Try.prog 50 = some (.dead) := by kernel_rfl
@[push_cast] theorem ni50 : notInt Go.Proofs.Try.prog 50 = true := by kernel_rfl
@[push_cast] theorem el50 : elemT Go.Proofs.Try.prog 50 = none := by kernel_rfl
@[push_cast] theorem ct50 : concT Go.Proofs.Try.prog 50 = true := by kernel_rfl
@[push_cast] theorem sz51 : szT Go.Proofs.Try.prog 51 = some (1) := by kernel_rfl
@[push_cast] theorem by51 : bytesT Go.Proofs.Try.prog 51 = some (8) := by kernel_rfl
@[push_cast] theorem ag51 : aggT Go.Proofs.Try.prog 51 = some (false) := by kernel_rfl
@[push_cast] theorem zt51 : zeroT Go.Proofs.Try.prog 51 = some ([.nilf]) := by kernel_rfl
@[push_cast] theorem zv51 : zeroV Go.Proofs.Try.prog 51 = some (.nilf) := by kernel_rfl
@[push_cast] theorem ni51 : notInt Go.Proofs.Try.prog 51 = true := by kernel_rfl
@[push_cast] theorem el51 : elemT Go.Proofs.Try.prog 51 = none := by kernel_rfl
@[push_cast] theorem ct51 : concT Go.Proofs.Try.prog 51 = true := by kernel_rfl
@[push_cast] theorem sz52 : szT Go.Proofs.Try.prog 52 = some (1) := by kernel_rfl
@[push_cast] theorem by52 : bytesT Go.Proofs.Try.prog 52 = some (0) := by kernel_rfl
@[push_cast] theorem ag52 : aggT Go.Proofs.Try.prog 52 = some (false) := by kernel_rfl
@[push_cast] theorem zt52 : zeroT Go.Proofs.Try.prog 52 = some ([.dead]) := by kernel_rfl
@[push_cast] theorem zv52 : zeroV Go.Proofs.Try.prog 52 = some (.dead) := by kernel_rfl
@[push_cast] theorem ni52 : notInt Go.Proofs.Try.prog 52 = true := by kernel_rfl
@[push_cast] theorem el52 : elemT Go.Proofs.Try.prog 52 = none := by kernel_rfl
@[push_cast] theorem ct52 : concT Go.Proofs.Try.prog 52 = true := by kernel_rfl
@[push_cast] theorem sz53 : szT Go.Proofs.Try.prog 53 = some (1) := by kernel_rfl
@[push_cast] theorem by53 : bytesT Go.Proofs.Try.prog 53 = some (8) := by kernel_rfl
@[push_cast] theorem ag53 : aggT Go.Proofs.Try.prog 53 = some (false) := by kernel_rfl
@[push_cast] theorem zt53 : zeroT Go.Proofs.Try.prog 53 = some ([.nilf]) := by kernel_rfl
@[push_cast] theorem zv53 : zeroV Go.Proofs.Try.prog 53 = some (.nilf) := by kernel_rfl
@[push_cast] theorem ni53 : notInt Go.Proofs.Try.prog 53 = true := by kernel_rfl
@[push_cast] theorem el53 : elemT Go.Proofs.Try.prog 53 = none := by kernel_rfl
@[push_cast] theorem ct53 : concT Go.Proofs.Try.prog 53 = true := by kernel_rfl
@[push_cast] theorem sz54 : szT Go.Proofs.Try.prog 54 = some (1) := by kernel_rfl
@[push_cast] theorem by54 : bytesT Go.Proofs.Try.prog 54 = some (8) := by kernel_rfl
@[push_cast] theorem ag54 : aggT Go.Proofs.Try.prog 54 = some (false) := by kernel_rfl
@[push_cast] theorem zt54 : zeroT Go.Proofs.Try.prog 54 = some ([.nilf]) := by kernel_rfl
@[push_cast] theorem zv54 : zeroV Go.Proofs.Try.prog 54 = some (.nilf) := by kernel_rfl
@[push_cast] theorem ni54 : notInt Go.Proofs.Try.prog 54 = true := by kernel_rfl
@[push_cast] theorem el54 : elemT Go.Proofs.Try.prog 54 = none := by kernel_rfl
@[push_cast] theorem ct54 : concT Go.Proofs.Try.prog 54 = true := by kernel_rfl
@[push_cast] theorem sz55 : szT Go.Proofs.Try.prog 55 = some (1) := by kernel_rfl
@[push_cast] theorem by55 : bytesT Go.Proofs.Try.prog 55 = some (8) := by kernel_rfl
@[push_cast] theorem ag55 : aggT Go.Proofs.Try.prog 55 = some (false) := by kernel_rfl
@[push_cast] theorem zt55 : zeroT Go.Proofs.Try.prog 55 = some ([.nilf]) := by kernel_rfl
@[push_cast] theorem zv55 : zeroV Go.Proofs.Try.prog 55 = some (.nilf) := by kernel_rfl
@[push_cast] theorem ni55 : notInt Go.Proofs.Try.prog 55 = true := by kernel_rfl
@[push_cast] theorem el55 : elemT Go.Proofs.Try.prog 55 = none := by kernel_rfl
@[push_cast] theorem ct55 : concT Go.Proofs.Try.prog 55 = true := by kernel_rfl
@[push_cast] theorem sz56 : szT Go.Proofs.Try.prog 56 = some (1) := by kernel_rfl
@[push_cast] theorem by56 : bytesT Go.Proofs.Try.prog 56 = some (0) := by kernel_rfl
@[push_cast] theorem ag56 : aggT Go.Proofs.Try.prog 56 = some (false) := by kernel_rfl
@[push_cast] theorem zt56 : zeroT Go.Proofs.Try.prog 56 = some ([.dead]) := by kernel_rfl
@[push_cast] theorem zv56 : zeroV Go.Proofs.Try.prog 56 = some (.dead) := by kernel_rfl
@[push_cast] theorem ni56 : notInt Go.Proofs.Try.prog 56 = true := by kernel_rfl
@[push_cast] theorem el56 : elemT Go.Proofs.Try.prog 56 = none := by kernel_rfl
@[push_cast] theorem ct56 : concT Go.Proofs.Try.prog 56 = true := by kernel_rfl
@[push_cast] theorem sz57 : szT Go.Proofs.Try.prog 57 = some (1) := by kernel_rfl
@[push_cast] theorem by57 : bytesT Go.Proofs.Try.prog 57 = some (8) := by kernel_rfl
@[push_cast] theorem ag57 : aggT Go.Proofs.Try.prog 57 = some (false) := by kernel_rfl
@[push_cast] theorem zt57 : zeroT Go.Proofs.Try.prog 57 = some ([.nilf]) := by kernel_rfl
@[push_cast] theorem zv57 : zeroV Go.Proofs.Try.prog 57 = some (.nilf) := by kernel_rfl
@[push_cast] theorem ni57 : notInt Go.Proofs.Try.prog 57 = true := by kernel_rfl
@[push_cast] theorem el57 : elemT Go.Proofs.Try.prog 57 = none := by kernel_rfl
@[push_cast] theorem ct57 : concT Go.Proofs.Try.prog 57 = true := by kernel_rfl
@[push_cast] theorem sz58 : szT Go.Proofs.Try.prog 58 = some (1) := by kernel_rfl
@[push_cast] theorem by58 : bytesT Go.Proofs.Try.prog 58 = some (8) := by kernel_rfl
@[push_cast] theorem ag58 : aggT Go.Proofs.Try.prog 58 = some (false) := by kernel_rfl
@[push_cast] theorem zt58 : zeroT Go.Proofs.Try.prog 58 = some ([.nilf]) := by kernel_rfl
@[push_cast] theorem zv58 : zeroV Go.Proofs.Try.prog 58 = some (.nilf) := by kernel_rfl
@[push_cast] theorem ni58 : notInt Go.Proofs.Try.prog 58 = true := by kernel_rfl
@[push_cast] theorem el58 : elemT Go.Proofs.Try.prog 58 = none := by kernel_rfl
@[push_cast] theorem ct58 : concT Go.Proofs.Try.prog 58 = true := by kernel_rfl
@[push_cast] theorem sz59 : szT Go.Proofs.Try.prog 59 = some (1) := by kernel_rfl
@[push_cast] theorem by59 : bytesT Go.Proofs.Try.prog 59 = some (8) := by kernel_rfl
@[push_cast] theorem ag59 : aggT Go.Proofs.Try.prog 59 = some (false) := by kernel_rfl
@[push_cast] theorem zt59 : zeroT Go.Proofs.Try.prog 59 = some ([.nilf]) := by kernel_rfl
@[push_cast] theorem zv59 : zeroV Go.Proofs.Try.prog 59 = some (.nilf) := by kernel_rfl
@[push_cast] theorem ni59 : notInt Go.Proofs.Try.prog 59 = true := by kernel_rfl
@[push_cast] theorem el59 : elemT Go.Proofs.Try.prog 59 = none := by kernel_rfl
@[push_cast] theorem ct59 : concT Go.Proofs.Try.prog 59 = true := by kernel_rfl
@[push_cast] theorem sz60 : szT Go.Proofs.Try.prog 60 = some (1) := by kernel_rfl
@[push_cast] theorem by60 : bytesT Go.Proofs.Try.prog 60 = some (8) := by kernel_rfl
@[push_cast] theorem ag60 : aggT Go.Proofs.Try.prog 60 = some (false) := by kernel_rfl
@[push_cast] theorem zt60 : zeroT Go.Proofs.Try.prog 60 = some ([.nilf]) := by kernel_rfl
@[push_cast] theorem zv60 : zeroV Go.Proofs.Try.prog 60 = some (.nilf) := by kernel_rfl
@[push_cast] theorem ni60 : notInt Go.Proofs.Try.prog 60 = true := by kernel_rfl
@[push_cast] theorem el60 : elemT Go.Proofs.Try.prog 60 = none := by kernel_rfl
@[push_cast] theorem ct60 : concT Go.Proofs.Try.prog 60 = true := by kernel_rfl
@[push_cast] theorem sz61 : szT Go.Proofs.Try.prog 61 = some (1) := by kernel_rfl
@[push_cast] theorem by61 : bytesT Go.Proofs.Try.prog 61 = some (8) := by kernel_rfl
@[push_cast] theorem ag61 : aggT Go.Proofs.Try.prog 61 = some (false) := by kernel_rfl
@[push_cast] theorem zt61 : zeroT Go.Proofs.Try.prog 61 = some ([.nilf]) := by kernel_rfl
@[push_cast] theorem zv61 : zeroV Go.Proofs.Try.prog 61 = some (.nilf) := by kernel_rfl
@[push_cast] theorem ni61 : notInt Go.Proofs.Try.prog 61 = true := by kernel_rfl
@[push_cast] theorem el61 : elemT Go.Proofs.Try.prog 61 = none := by kernel_rfl
@[push_cast] theorem ct61 : concT Go.Proofs.Try.prog 61 = true := by kernel_rfl
@[push_cast] theorem sz62 : szT Go.Proofs.Try.prog 62 = some (1) := by kernel_rfl
@[push_cast] theorem by62 : bytesT Go.Proofs.Try.prog 62 = some (24) := by kernel_rfl
@[push_cast] theorem ag62 : aggT Go.Proofs.Try.prog 62 = some (false) := by kernel_rfl
@[push_cast] theorem zt62 : zeroT Go.Proofs.Try.prog 62 = some ([.sl 0 [] .full]) := by kernel_rfl
@[push_cast] theorem zv62 : zeroV Go.Proofs.Try.prog 62 = some (.sl 0 [] .full) := by kernel_rfl
@[push_cast] theorem u62 : Program.underlying Go.Proofs.Try.prog 62 = some (.slice 4) := by kernel_rfl
@[push_cast] theorem ni62 : notInt Go.Proofs.Try.prog 62 = true := by kernel_rfl
@[push_cast] theorem el62 : elemT Go.Proofs.Try.prog 62 = some (4) := by kernel_rfl
@[push_cast] theorem ct62 : concT Go.Proofs.Try.prog 62 = true := by kernel_rfl
@[push_cast] theorem sz63 : szT Go.Proofs.Try.prog 63 = some (1) := by kernel_rfl
@[push_cast] theorem by63 : bytesT Go.Proofs.Try.prog 63 = some (24) := by kernel_rfl
@[push_cast] theorem ag63 : aggT Go.Proofs.Try.prog 63 = some (false) := by kernel_rfl
@[push_cast] theorem zt63 : zeroT Go.Proofs.Try.prog 63 = some ([.sl 0 [] .full]) := by kernel_rfl
@[push_cast] theorem zv63 : zeroV Go.Proofs.Try.prog 63 = some (.sl 0 [] .full) := by kernel_rfl
@[push_cast] theorem u63 : Program.underlying Go.Proofs.Try.prog 63 = some (.slice 69) := by kernel_rfl
@[push_cast] theorem ni63 : notInt Go.Proofs.Try.prog 63 = true := by kernel_rfl
@[push_cast] theorem el63 : elemT Go.Proofs.Try.prog 63 = some (69) := by kernel_rfl
@[push_cast] theorem ct63 : concT Go.Proofs.Try.prog 63 = true := by kernel_rfl
@[push_cast] theorem sz64 : szT Go.Proofs.Try.prog 64 = some (1) := by kernel_rfl
@[push_cast] theorem by64 : bytesT Go.Proofs.Try.prog 64 = some (8) := by kernel_rfl
@[push_cast] theorem ag64 : aggT Go.Proofs.Try.prog 64 = some (false) := by kernel_rfl
@[push_cast] theorem zt64 : zeroT Go.Proofs.Try.prog 64 = some ([.nilf]) := by kernel_rfl
@[push_cast] theorem zv64 : zeroV Go.Proofs.Try.prog 64 = some (.nilf) := by kernel_rfl
@[push_cast] theorem ni64 : notInt Go.Proofs.Try.prog 64 = true := by kernel_rfl
@[push_cast] theorem el64 : elemT Go.Proofs.Try.prog 64 = none := by kernel_rfl
@[push_cast] theorem ct64 : concT Go.Proofs.Try.prog 64 = true := by kernel_rfl
@[push_cast] theorem sz65 : szT Go.Proofs.Try.prog 65 = some (1) := by kernel_rfl
@[push_cast] theorem by65 : bytesT Go.Proofs.Try.prog 65 = some (8) := by kernel_rfl
@[push_cast] theorem ag65 : aggT Go.Proofs.Try.prog 65 = some (false) := by kernel_rfl
@[push_cast] theorem zt65 : zeroT Go.Proofs.Try.prog 65 = some ([.nilp]) := by kernel_rfl
@[push_cast] theorem zv65 : zeroV Go.Proofs.Try.prog 65 = some (.nilp) := by kernel_rfl
@[push_cast] theorem u65 : Program.underlying Go.Proofs.Try.prog 65 = some (.pointer 76) := by kernel_rfl
@[push_cast] theorem ni65 : notInt Go.Proofs.Try.prog 65 = true := by kernel_rfl
@[push_cast] theorem el65 : elemT Go.Proofs.Try.prog 65 = none := by kernel_rfl
@[push_cast] theorem ct65 : concT Go.Proofs.Try.prog 65 = true := by kernel_rfl
@[push_cast] theorem sz66 : szT Go.Proofs.Try.prog 66 = some (1) := by kernel_rfl
@[push_cast] theorem by66 : bytesT Go.Proofs.Try.prog 66 = some (8) := by kernel_rfl
@[push_cast] theorem ag66 : aggT Go.Proofs.Try.prog 66 = some (false) := by kernel_rfl
@[push_cast] theorem zt66 : zeroT Go.Proofs.Try.prog 66 = some ([.nilf]) := by kernel_rfl
@[push_cast] theorem zv66 : zeroV Go.Proofs.Try.prog 66 = some (.nilf) := by kernel_rfl
@[push_cast] theorem ni66 : notInt Go.Proofs.Try.prog 66 = true := by kernel_rfl
@[push_cast] theorem el66 : elemT Go.Proofs.Try.prog 66 = none := by kernel_rfl
@[push_cast] theorem ct66 : concT Go.Proofs.Try.prog 66 = true := by kernel_rfl
@[push_cast] theorem sz67 : szT Go.Proofs.Try.prog 67 = some (1) := by kernel_rfl
@[push_cast] theorem by67 : bytesT Go.Proofs.Try.prog 67 = some (24) := by kernel_rfl
@[push_cast] theorem ag67 : aggT Go.Proofs.Try.prog 67 = some (false) := by kernel_rfl
@[push_cast] theorem zt67 : zeroT Go.Proofs.Try.prog 67 = some ([.sl 0 [] .full]) := by kernel_rfl
@[push_cast] theorem zv67 : zeroV Go.Proofs.Try.prog 67 = some (.sl 0 [] .full) := by kernel_rfl
@[push_cast] theorem u67 : Program.underlying Go.Proofs.Try.prog 67 = some (.slice 72) := by kernel_rfl
@[push_cast] theorem ni67 : notInt Go.Proofs.Try.prog 67 = true := by kernel_rfl
@[push_cast] theorem el67 : elemT Go.Proofs.Try.prog 67 = some (72) := by kernel_rfl
@[push_cast] theorem ct67 : concT Go.Proofs.Try.prog 67 = true := by kernel_rfl
@[push_cast] theorem sz68 : szT Go.Proofs.Try.prog 68 = some (1) := by kernel_rfl
@[push_cast] theorem by68 : bytesT Go.Proofs.Try.prog 68 = some (8) := by kernel_rfl
@[push_cast] theorem ag68 : aggT Go.Proofs.Try.prog 68 = some (false) := by kernel_rfl
@[push_cast] theorem zt68 : zeroT Go.Proofs.Try.prog 68 = some ([.nilf]) := by kernel_rfl
@[push_cast] theorem zv68 : zeroV Go.Proofs.Try.prog 68 = some (.nilf) := by kernel_rfl
@[push_cast] theorem ni68 : notInt Go.Proofs.Try.prog 68 = true := by kernel_rfl
@[push_cast] theorem el68 : elemT Go.Proofs.Try.prog 68 = none := by kernel_rfl
@[push_cast] theorem ct68 : concT Go.Proofs.Try.prog 68 = true := by kernel_rfl
@[push_cast] theorem sz69 : szT Go.Proofs.Try.prog 69 = some (1) := by kernel_rfl
@[push_cast] theorem by69 : bytesT Go.Proofs.Try.prog 69 = some (24) := by kernel_rfl
@[push_cast] theorem ag69 : aggT Go.Proofs.Try.prog 69 = some (false) := by kernel_rfl
@[push_cast] theorem zt69 : zeroT Go.Proofs.Try.prog 69 = some ([.sl 0 [] .full]) := by kernel_rfl
@[push_cast] theorem zv69 : zeroV Go.Proofs.Try.prog 69 = some (.sl 0 [] .full) := by kernel_rfl
@[push_cast] theorem u69 : Program.underlying Go.Proofs.Try.prog 69 = some (.slice 122) := by kernel_rfl
@[push_cast] theorem ni69 : notInt Go.Proofs.Try.prog 69 = true := by kernel_rfl
@[push_cast] theorem el69 : elemT Go.Proofs.Try.prog 69 = some (122) := by kernel_rfl
@[push_cast] theorem ct69 : concT Go.Proofs.Try.prog 69 = true := by kernel_rfl
@[push_cast] theorem sz70 : szT Go.Proofs.Try.prog 70 = some (1) := by kernel_rfl
@[push_cast] theorem by70 : bytesT Go.Proofs.Try.prog 70 = some (8) := by kernel_rfl
@[push_cast] theorem ag70 : aggT Go.Proofs.Try.prog 70 = some (false) := by kernel_rfl
@[push_cast] theorem zt70 : zeroT Go.Proofs.Try.prog 70 = some ([.nilf]) := by kernel_rfl
@[push_cast] theorem zv70 : zeroV Go.Proofs.Try.prog 70 = some (.nilf) := by kernel_rfl
@[push_cast] theorem ni70 : notInt Go.Proofs.Try.prog 70 = true := by kernel_rfl
@[push_cast] theorem el70 : elemT Go.Proofs.Try.prog 70 = none := by kernel_rfl
@[push_cast] theorem ct70 : concT Go.Proofs.Try.prog 70 = true := by kernel_rfl
@[push_cast] theorem sz71 : szT Go.Proofs.Try.prog 71 = some (2) := by kernel_rfl
@[push_cast] theorem by71 : bytesT Go.Proofs.Try.prog 71 = some (48) := by kernel_rfl
@[push_cast] theorem ag71 : aggT Go.Proofs.Try.prog 71 = some (true) := by kernel_rfl
@[push_cast] theorem zt71 : zeroT Go.Proofs.Try.prog 71 = some ([.sl 0 [] .full, .sl 0 [] .full]) := by kernel_rfl
@[push_cast] theorem zv71 : zeroV Go.Proofs.Try.prog 71 = some (.agg [.sl 0 [] .full, .sl 0 [] .full]) := by kernel_rfl
@[push_cast] theorem f71_0 : fieldT Go.Proofs.Try.prog 71 0 = some ((69, 0)) := by kernel_rfl
@[push_cast] theorem f71_1 : fieldT Go.Proofs.Try.prog 71 1 = some ((69, 1)) := by kernel_rfl
@[push_cast] theorem pl71 : placesT Go.Proofs.Try.prog 71 = some ([(0, 1), (1, 1)]) := by kernel_rfl
@[push_cast] theorem ar71 : arrT Go.Proofs.Try.prog 71 = none := by kernel_rfl
@[push_cast] theorem ni71 : notInt Go.Proofs.Try.prog 71 = true := by kernel_rfl
@[push_cast] theorem el71 : elemT Go.Proofs.Try.prog 71 = none := by kernel_rfl
@[push_cast] theorem ct71 : concT Go.Proofs.Try.prog 71 = true := by kernel_rfl
@[push_cast] theorem sz72 : szT Go.Proofs.Try.prog 72 = some (2) := by kernel_rfl
@[push_cast] theorem by72 : bytesT Go.Proofs.Try.prog 72 = some (48) := by kernel_rfl
@[push_cast] theorem ag72 : aggT Go.Proofs.Try.prog 72 = some (true) := by kernel_rfl
@[push_cast] theorem zt72 : zeroT Go.Proofs.Try.prog 72 = some ([.sl 0 [] .full, .sl 0 [] .full]) := by kernel_rfl
@[push_cast] theorem zv72 : zeroV Go.Proofs.Try.prog 72 = some (.agg [.sl 0 [] .full, .sl 0 [] .full]) := by kernel_rfl
@[push_cast] theorem f72_0 : fieldT Go.Proofs.Try.prog 72 0 = some ((69, 0)) := by kernel_rfl
@[push_cast] theorem f72_1 : fieldT Go.Proofs.Try.prog 72 1 = some ((69, 1)) := by kernel_rfl
@[push_cast] theorem pl72 : placesT Go.Proofs.Try.prog 72 = some ([(0, 1), (1, 1)]) := by kernel_rfl
@[push_cast] theorem ar72 : arrT Go.Proofs.Try.prog 72 = none := by kernel_rfl
@[push_cast] theorem ni72 : notInt Go.Proofs.Try.prog 72 = true := by kernel_rfl
@[push_cast] theorem el72 : elemT Go.Proofs.Try.prog 72 = none := by kernel_rfl
@[push_cast] theorem ct72 : concT Go.Proofs.Try.prog 72 = true := by kernel_rfl
@[push_cast] theorem sz73 : szT Go.Proofs.Try.prog 73 = some (1) := by kernel_rfl
@[push_cast] theorem by73 : bytesT Go.Proofs.Try.prog 73 = some (8) := by kernel_rfl
@[push_cast] theorem ag73 : aggT Go.Proofs.Try.prog 73 = some (false) := by kernel_rfl
@[push_cast] theorem zt73 : zeroT Go.Proofs.Try.prog 73 = some ([.nilf]) := by kernel_rfl
@[push_cast] theorem zv73 : zeroV Go.Proofs.Try.prog 73 = some (.nilf) := by kernel_rfl
@[push_cast] theorem ni73 : notInt Go.Proofs.Try.prog 73 = true := by kernel_rfl
@[push_cast] theorem el73 : elemT Go.Proofs.Try.prog 73 = none := by kernel_rfl
@[push_cast] theorem ct73 : concT Go.Proofs.Try.prog 73 = true := by kernel_rfl
@[push_cast] theorem sz74 : szT Go.Proofs.Try.prog 74 = some (1) := by kernel_rfl
@[push_cast] theorem by74 : bytesT Go.Proofs.Try.prog 74 = some (24) := by kernel_rfl
@[push_cast] theorem ag74 : aggT Go.Proofs.Try.prog 74 = some (false) := by kernel_rfl
@[push_cast] theorem zt74 : zeroT Go.Proofs.Try.prog 74 = some ([.sl 0 [] .full]) := by kernel_rfl
@[push_cast] theorem zv74 : zeroV Go.Proofs.Try.prog 74 = some (.sl 0 [] .full) := by kernel_rfl
@[push_cast] theorem u74 : Program.underlying Go.Proofs.Try.prog 74 = some (.slice 124) := by kernel_rfl
@[push_cast] theorem ni74 : notInt Go.Proofs.Try.prog 74 = true := by kernel_rfl
@[push_cast] theorem el74 : elemT Go.Proofs.Try.prog 74 = some (124) := by kernel_rfl
@[push_cast] theorem ct74 : concT Go.Proofs.Try.prog 74 = true := by kernel_rfl
@[push_cast] theorem sz75 : szT Go.Proofs.Try.prog 75 = some (3) := by kernel_rfl
@[push_cast] theorem by75 : bytesT Go.Proofs.Try.prog 75 = some (56) := by kernel_rfl
@[push_cast] theorem ag75 : aggT Go.Proofs.Try.prog 75 = some (true) := by kernel_rfl
@[push_cast] theorem zt75 : zeroT Go.Proofs.Try.prog 75 = some ([.bool false, .sl 0 [] .full, .sl 0 [] .full]) := by kernel_rfl
@[push_cast] theorem zv75 : zeroV Go.Proofs.Try.prog 75 = some (.agg [.bool false, .sl 0 [] .full, .sl 0 [] .full]) := by kernel_rfl
@[push_cast] theorem f75_0 : fieldT Go.Proofs.Try.prog 75 0 = some ((4, 0)) := by kernel_rfl
@[push_cast] theorem f75_1 : fieldT Go.Proofs.Try.prog 75 1 = some ((62, 1)) := by kernel_rfl
@[push_cast] theorem f75_2 : fieldT Go.Proofs.Try.prog 75 2 = some ((74, 2)) := by kernel_rfl
@[push_cast] theorem pl75 : placesT Go.Proofs.Try.prog 75 = some ([(0, 1), (1, 1), (2, 1)]) := by kernel_rfl
@[push_cast] theorem ar75 : arrT Go.Proofs.Try.prog 75 = none := by kernel_rfl
@[push_cast] theorem ni75 : notInt Go.Proofs.Try.prog 75 = true := by kernel_rfl
@[push_cast] theorem el75 : elemT Go.Proofs.Try.prog 75 = none := by kernel_rfl
@[push_cast] theorem ct75 : concT Go.Proofs.Try.prog 75 = true := by kernel_rfl
@[push_cast] theorem sz76 : szT Go.Proofs.Try.prog 76 = some (3) := by kernel_rfl
@[push_cast] theorem by76 : bytesT Go.Proofs.Try.prog 76 = some (56) := by kernel_rfl
@[push_cast] theorem ag76 : aggT Go.Proofs.Try.prog 76 = some (true) := by kernel_rfl
@[push_cast] theorem zt76 : zeroT Go.Proofs.Try.prog 76 = some ([.bool false, .sl 0 [] .full, .sl 0 [] .full]) := by kernel_rfl
@[push_cast] theorem zv76 : zeroV Go.Proofs.Try.prog 76 = some (.agg [.bool false, .sl 0 [] .full, .sl 0 [] .full]) := by kernel_rfl
@[push_cast] theorem f76_0 : fieldT Go.Proofs.Try.prog 76 0 = some ((4, 0)) := by kernel_rfl
@[push_cast] theorem f76_1 : fieldT Go.Proofs.Try.prog 76 1 = some ((62, 1)) := by kernel_rfl
@[push_cast] theorem f76_2 : fieldT Go.Proofs.Try.prog 76 2 = some ((74, 2)) := by kernel_rfl
@[push_cast] theorem pl76 : placesT Go.Proofs.Try.prog 76 = some ([(0, 1), (1, 1), (2, 1)]) := by kernel_rfl
@[push_cast] theorem ar76 : arrT Go.Proofs.Try.prog 76 = none := by kernel_rfl
@[push_cast] theorem ni76 : notInt Go.Proofs.Try.prog 76 = true := by kernel_rfl
@[push_cast] theorem el76 : elemT Go.Proofs.Try.prog 76 = none := by kernel_rfl
@[push_cast] theorem ct76 : concT Go.Proofs.Try.prog 76 = true := by kernel_rfl
@[push_cast] theorem sz77 : szT Go.Proofs.Try.prog 77 = some (1) := by kernel_rfl
@[push_cast] theorem by77 : bytesT Go.Proofs.Try.prog 77 = some (8) := by kernel_rfl
@[push_cast] theorem ag77 : aggT Go.Proofs.Try.prog 77 = some (false) := by kernel_rfl
@[push_cast] theorem zt77 : zeroT Go.Proofs.Try.prog 77 = some ([.nilf]) := by kernel_rfl
@[push_cast] theorem zv77 : zeroV Go.Proofs.Try.prog 77 = some (.nilf) := by kernel_rfl
@[push_cast] theorem ni77 : notInt Go.Proofs.Try.prog 77 = true := by kernel_rfl
@[push_cast] theorem el77 : elemT Go.Proofs.Try.prog 77 = none := by kernel_rfl
@[push_cast] theorem ct77 : concT Go.Proofs.Try.prog 77 = true := by kernel_rfl
@[push_cast] theorem sz78 : szT Go.Proofs.Try.prog 78 = some (1) := by kernel_rfl
@[push_cast] theorem by78 : bytesT Go.Proofs.Try.prog 78 = some (8) := by kernel_rfl
@[push_cast] theorem ag78 : aggT Go.Proofs.Try.prog 78 = some (false) := by kernel_rfl
@[push_cast] theorem zt78 : zeroT Go.Proofs.Try.prog 78 = some ([.nilf]) := by kernel_rfl
@[push_cast] theorem zv78 : zeroV Go.Proofs.Try.prog 78 = some (.nilf) := by kernel_rfl
@[push_cast] theorem ni78 : notInt Go.Proofs.Try.prog 78 = true := by kernel_rfl
@[push_cast] theorem el78 : elemT Go.Proofs.Try.prog 78 = none := by kernel_rfl
@[push_cast] theorem ct78 : concT Go.Proofs.Try.prog 78 = true := by kernel_rfl
@[push_cast] theorem sz79 : szT Go.Proofs.Try.prog 79 = some (1) := by kernel_rfl
@[push_cast] theorem by79 : bytesT Go.Proofs.Try.prog 79 = some (8) := by kernel_rfl
@[push_cast] theorem ag79 : aggT Go.Proofs.Try.prog 79 = some (false) := by kernel_rfl
@[push_cast] theorem zt79 : zeroT Go.Proofs.Try.prog 79 = some ([.nilf]) := by kernel_rfl
@[push_cast] theorem zv79 : zeroV Go.Proofs.Try.prog 79 = some (.nilf) := by kernel_rfl
@[push_cast] theorem ni79 : notInt Go.Proofs.Try.prog 79 = true := by kernel_rfl
@[push_cast] theorem el79 : elemT Go.Proofs.Try.prog 79 = none := by kernel_rfl
@[push_cast] theorem ct79 : concT Go.Proofs.Try.prog 79 = true := by kernel_rfl
@[push_cast] theorem sz80 : szT Go.Proofs.Try.prog 80 = some (1) := by kernel_rfl
@[push_cast] theorem by80 : bytesT Go.Proofs.Try.prog 80 = some (8) := by kernel_rfl
@[push_cast] theorem ag80 : aggT Go.Proofs.Try.prog 80 = some (false) := by kernel_rfl
@[push_cast] theorem zt80 : zeroT Go.Proofs.Try.prog 80 = some ([.nilf]) := by kernel_rfl
@[push_cast] theorem zv80 : zeroV Go.Proofs.Try.prog 80 = some (.nilf) := by kernel_rfl
@[push_cast] theorem ni80 : notInt Go.Proofs.Try.prog 80 = true := by kernel_rfl
@[push_cast] theorem el80 : elemT Go.Proofs.Try.prog 80 = none := by kernel_rfl
@[push_cast] theorem ct80 : concT Go.Proofs.Try.prog 80 = true := by kernel_rfl
@[push_cast] theorem sz81 : szT Go.Proofs.Try.prog 81 = some (1) := by kernel_rfl
@[push_cast] theorem by81 : bytesT Go.Proofs.Try.prog 81 = some (8) := by kernel_rfl
@[push_cast] theorem ag81 : aggT Go.Proofs.Try.prog 81 = some (false) := by kernel_rfl
@[push_cast] theorem zt81 : zeroT Go.Proofs.Try.prog 81 = some ([.nilf]) := by kernel_rfl
@[push_cast] theorem zv81 : zeroV Go.Proofs.Try.prog 81 = some (.nilf) := by kernel_rfl
@[push_cast] theorem ni81 : notInt Go.Proofs.Try.prog 81 = true := by kernel_rfl
@[push_cast] theorem el81 : elemT Go.Proofs.Try.prog 81 = none := by kernel_rfl
@[push_cast] theorem ct81 : concT Go.Proofs.Try.prog 81 = true := by kernel_rfl
@[push_cast] theorem sz82 : szT Go.Proofs.Try.prog 82 = some (1) := by kernel_rfl
@[push_cast] theorem by82 : bytesT Go.Proofs.Try.prog 82 = some (8) := by kernel_rfl
@[push_cast] theorem ag82 : aggT Go.Proofs.Try.prog 82 = some (false) := by kernel_rfl
@[push_cast] theorem zt82 : zeroT Go.Proofs.Try.prog 82 = some ([.nilf]) := by kernel_rfl
@[push_cast] theorem zv82 : zeroV Go.Proofs.Try.prog 82 = some (.nilf) := by kernel_rfl
@[push_cast] theorem ni82 : notInt Go.Proofs.Try.prog 82 = true := by kernel_rfl
@[push_cast] theorem el82 : elemT Go.Proofs.Try.prog 82 = none := by kernel_rfl
@[push_cast] theorem ct82 : concT Go.Proofs.Try.prog 82 = true := by kernel_rfl
@[push_cast] theorem sz83 : szT Go.Proofs.Try.prog 83 = some (1) := by kernel_rfl
@[push_cast] theorem by83 : bytesT Go.Proofs.Try.prog 83 = some (8) := by kernel_rfl
@[push_cast] theorem ag83 : aggT Go.Proofs.Try.prog 83 = some (false) := by kernel_rfl
@[push_cast] theorem zt83 : zeroT Go.Proofs.Try.prog 83 = some ([.nilp]) := by kernel_rfl
@[push_cast] theorem zv83 : zeroV Go.Proofs.Try.prog 83 = some (.nilp) := by kernel_rfl
@[push_cast] theorem u83 : Program.underlying Go.Proofs.Try.prog 83 = some (.pointer 134) := by kernel_rfl
@[push_cast] theorem ni83 : notInt Go.Proofs.Try.prog 83 = true := by kernel_rfl
@[push_cast] theorem el83 : elemT Go.Proofs.Try.prog 83 = none := by kernel_rfl
@[push_cast] theorem ct83 : concT Go.Proofs.Try.prog 83 = true := by kernel_rfl
@[push_cast] theorem sz84 : szT Go.Proofs.Try.prog 84 = some (1) := by kernel_rfl
@[push_cast] theorem by84 : bytesT Go.Proofs.Try.prog 84 = some (8) := by kernel_rfl
@[push_cast] theorem ag84 : aggT Go.Proofs.Try.prog 84 = some (false) := by kernel_rfl
@[push_cast] theorem zt84 : zeroT Go.Proofs.Try.prog 84 = some ([.nilf]) := by kernel_rfl
@[push_cast] theorem zv84 : zeroV Go.Proofs.Try.prog 84 = some (.nilf) := by kernel_rfl
@[push_cast] theorem ni84 : notInt Go.Proofs.Try.prog 84 = true := by kernel_rfl
@[push_cast] theorem el84 : elemT Go.Proofs.Try.prog 84 = none := by kernel_rfl
@[push_cast] theorem ct84 : concT Go.Proofs.Try.prog 84 = true := by kernel_rfl
@[push_cast] theorem sz85 : szT Go.Proofs.Try.prog 85 = some (1) := by kernel_rfl
@[push_cast] theorem by85 : bytesT Go.Proofs.Try.prog 85 = some (0) := by kernel_rfl
@[push_cast] theorem ag85 : aggT Go.Proofs.Try.prog 85 = some (false) := by kernel_rfl
@[push_cast] theorem zt85 : zeroT Go.Proofs.Try.prog 85 = some ([.dead]) := by kernel_rfl
@[push_cast] theorem zv85 : zeroV Go.Proofs.Try.prog 85 = some (.dead) := by kernel_rfl
@[push_cast] theorem ni85 : notInt Go.Proofs.Try.prog 85 = true := by kernel_rfl
@[push_cast] theorem el85 : elemT Go.Proofs.Try.prog 85 = none := by kernel_rfl
@[push_cast] theorem ct85 : concT Go.Proofs.Try.prog 85 = true := by kernel_rfl
@[push_cast] theorem sz86 : szT Go.Proofs.Try.prog 86 = some (1) := by kernel_rfl
@[push_cast] theorem by86 : bytesT Go.Proofs.Try.prog 86 = some (8) := by kernel_rfl
@[push_cast] theorem ag86 : aggT Go.Proofs.Try.prog 86 = some (false) := by kernel_rfl
@[push_cast] theorem zt86 : zeroT Go.Proofs.Try.prog 86 = some ([.nilf]) := by kernel_rfl
@[push_cast] theorem zv86 : zeroV Go.Proofs.Try.prog 86 = some (.nilf) := by kernel_rfl
@[push_cast] theorem ni86 : notInt Go.Proofs.Try.prog 86 = true := by kernel_rfl
@[push_cast] theorem el86 : elemT Go.Proofs.Try.prog 86 = none := by kernel_rfl
@[push_cast] theorem ct86 : concT Go.Proofs.Try.prog 86 = true := by kernel_rfl
@[push_cast] theorem sz87 : szT Go.Proofs.Try.prog 87 = some (1) := by kernel_rfl
@[push_cast] theorem by87 : bytesT Go.Proofs.Try.prog 87 = some (8) := by kernel_rfl
@[push_cast] theorem ag87 : aggT Go.Proofs.Try.prog 87 = some (false) := by kernel_rfl
@[push_cast] theorem zt87 : zeroT Go.Proofs.Try.prog 87 = some ([.nilf]) := by kernel_rfl
@[push_cast] theorem zv87 : zeroV Go.Proofs.Try.prog 87 = some (.nilf) := by kernel_rfl
@[push_cast] theorem ni87 : notInt Go.Proofs.Try.prog 87 = true := by kernel_rfl
@[push_cast] theorem el87 : elemT Go.Proofs.Try.prog 87 = none := by kernel_rfl
@[push_cast] theorem ct87 : concT Go.Proofs.Try.prog 87 = true := by kernel_rfl
@[push_cast] theorem sz88 : szT Go.Proofs.Try.prog 88 = some (1) := by kernel_rfl
@[push_cast] theorem by88 : bytesT Go.Proofs.Try.prog 88 = some (8) := by kernel_rfl
@[push_cast] theorem ag88 : aggT Go.Proofs.Try.prog 88 = some (false) := by kernel_rfl
@[push_cast] theorem zt88 : zeroT Go.Proofs.Try.prog 88 = some ([.nilf]) := by kernel_rfl
@[push_cast] theorem zv88 : zeroV Go.Proofs.Try.prog 88 = some (.nilf) := by kernel_rfl
@[push_cast] theorem ni88 : notInt Go.Proofs.Try.prog 88 = true := by kernel_rfl
@[push_cast] theorem el88 : elemT Go.Proofs.Try.prog 88 = none := by kernel_rfl
@[push_cast] theorem ct88 : concT Go.Proofs.Try.prog 88 = true := by kernel_rfl
@[push_cast] theorem sz89 : szT Go.Proofs.Try.prog 89 = some (1) := by kernel_rfl
@[push_cast] theorem by89 : bytesT Go.Proofs.Try.prog 89 = some (8) := by kernel_rfl
@[push_cast] theorem ag89 : aggT Go.Proofs.Try.prog 89 = some (false) := by kernel_rfl
@[push_cast] theorem zt89 : zeroT Go.Proofs.Try.prog 89 = some ([.nilf]) := by kernel_rfl
@[push_cast] theorem zv89 : zeroV Go.Proofs.Try.prog 89 = some (.nilf) := by kernel_rfl
@[push_cast] theorem ni89 : notInt Go.Proofs.Try.prog 89 = true := by kernel_rfl
@[push_cast] theorem el89 : elemT Go.Proofs.Try.prog 89 = none := by kernel_rfl
@[push_cast] theorem ct89 : concT Go.Proofs.Try.prog 89 = true := by kernel_rfl
@[push_cast] theorem sz90 : szT Go.Proofs.Try.prog 90 = some (1) := by kernel_rfl
@[push_cast] theorem by90 : bytesT Go.Proofs.Try.prog 90 = some (8) := by kernel_rfl
@[push_cast] theorem ag90 : aggT Go.Proofs.Try.prog 90 = some (false) := by kernel_rfl
@[push_cast] theorem zt90 : zeroT Go.Proofs.Try.prog 90 = some ([.nilf]) := by kernel_rfl
@[push_cast] theorem zv90 : zeroV Go.Proofs.Try.prog 90 = some (.nilf) := by kernel_rfl
@[push_cast] theorem ni90 : notInt Go.Proofs.Try.prog 90 = true := by kernel_rfl
@[push_cast] theorem el90 : elemT Go.Proofs.Try.prog 90 = none := by kernel_rfl
@[push_cast] theorem ct90 : concT Go.Proofs.Try.prog 90 = true := by kernel_rfl
@[push_cast] theorem sz91 : szT Go.Proofs.Try.prog 91 = some (3) := by kernel_rfl
@[push_cast] theorem by91 : bytesT Go.Proofs.Try.prog 91 = some (32) := by kernel_rfl
@[push_cast] theorem ag91 : aggT Go.Proofs.Try.prog 91 = some (true) := by kernel_rfl
@[push_cast] theorem zt91 : zeroT Go.Proofs.Try.prog 91 = some ([.int .i64 0, .str ByteArray.empty, .int .i64 0]) := by kernel_rfl
@[push_cast] theorem zv91 : zeroV Go.Proofs.Try.prog 91 = some (.agg [.int .i64 0, .str ByteArray.empty, .int .i64 0]) := by kernel_rfl
@[push_cast] theorem f91_0 : fieldT Go.Proofs.Try.prog 91 0 = some ((3, 0)) := by kernel_rfl
@[push_cast] theorem f91_1 : fieldT Go.Proofs.Try.prog 91 1 = some ((9, 1)) := by kernel_rfl
@[push_cast] theorem f91_2 : fieldT Go.Proofs.Try.prog 91 2 = some ((3, 2)) := by kernel_rfl
@[push_cast] theorem pl91 : placesT Go.Proofs.Try.prog 91 = some ([(0, 1), (1, 1), (2, 1)]) := by kernel_rfl
@[push_cast] theorem ar91 : arrT Go.Proofs.Try.prog 91 = none := by kernel_rfl
@[push_cast] theorem ni91 : notInt Go.Proofs.Try.prog 91 = true := by kernel_rfl
@[push_cast] theorem el91 : elemT Go.Proofs.Try.prog 91 = none := by kernel_rfl
@[push_cast] theorem es91 : eqShape Go.Proofs.Try.prog 91 = some ([(0, .i), (1, .s), (2, .i)]) := by kernel_rfl
@[push_cast] theorem ct91 : concT Go.Proofs.Try.prog 91 = true := by kernel_rfl
@[push_cast] theorem sz92 : szT Go.Proofs.Try.prog 92 = some (3) := by kernel_rfl
@[push_cast] theorem by92 : bytesT Go.Proofs.Try.prog 92 = some (32) := by kernel_rfl
@[push_cast] theorem ag92 : aggT Go.Proofs.Try.prog 92 = some (true) := by kernel_rfl
@[push_cast] theorem zt92 : zeroT Go.Proofs.Try.prog 92 = some ([.int .i64 0, .str ByteArray.empty, .int .i64 0]) := by kernel_rfl
@[push_cast] theorem zv92 : zeroV Go.Proofs.Try.prog 92 = some (.agg [.int .i64 0, .str ByteArray.empty, .int .i64 0]) := by kernel_rfl
@[push_cast] theorem f92_0 : fieldT Go.Proofs.Try.prog 92 0 = some ((3, 0)) := by kernel_rfl
@[push_cast] theorem f92_1 : fieldT Go.Proofs.Try.prog 92 1 = some ((9, 1)) := by kernel_rfl
@[push_cast] theorem f92_2 : fieldT Go.Proofs.Try.prog 92 2 = some ((3, 2)) := by kernel_rfl
@[push_cast] theorem pl92 : placesT Go.Proofs.Try.prog 92 = some ([(0, 1), (1, 1), (2, 1)]) := by kernel_rfl
@[push_cast] theorem ar92 : arrT Go.Proofs.Try.prog 92 = none := by kernel_rfl
@[push_cast] theorem ni92 : notInt Go.Proofs.Try.prog 92 = true := by kernel_rfl
@[push_cast] theorem el92 : elemT Go.Proofs.Try.prog 92 = none := by kernel_rfl
@[push_cast] theorem es92 : eqShape Go.Proofs.Try.prog 92 = some ([(0, .i), (1, .s), (2, .i)]) := by kernel_rfl
@[push_cast] theorem ct92 : concT Go.Proofs.Try.prog 92 = true := by kernel_rfl
@[push_cast] theorem sz93 : szT Go.Proofs.Try.prog 93 = some (4) := by kernel_rfl
@[push_cast] theorem by93 : bytesT Go.Proofs.Try.prog 93 = some (48) := by kernel_rfl
@[push_cast] theorem ag93 : aggT Go.Proofs.Try.prog 93 = some (true) := by kernel_rfl
@[push_cast] theorem zt93 : zeroT Go.Proofs.Try.prog 93 = some ([.str ByteArray.empty, .int .i64 0, .str ByteArray.empty, .int .i64 0]) := by kernel_rfl
@[push_cast] theorem zv93 : zeroV Go.Proofs.Try.prog 93 = some (.agg [.str ByteArray.empty, .int .i64 0, .str ByteArray.empty, .int .i64 0]) := by kernel_rfl
@[push_cast] theorem f93_0 : fieldT Go.Proofs.Try.prog 93 0 = some ((9, 0)) := by kernel_rfl
@[push_cast] theorem f93_1 : fieldT Go.Proofs.Try.prog 93 1 = some ((3, 1)) := by kernel_rfl
@[push_cast] theorem f93_2 : fieldT Go.Proofs.Try.prog 93 2 = some ((9, 2)) := by kernel_rfl
@[push_cast] theorem f93_3 : fieldT Go.Proofs.Try.prog 93 3 = some ((3, 3)) := by kernel_rfl
@[push_cast] theorem pl93 : placesT Go.Proofs.Try.prog 93 = some ([(0, 1), (1, 1), (2, 1), (3, 1)]) := by kernel_rfl
@[push_cast] theorem ar93 : arrT Go.Proofs.Try.prog 93 = none := by kernel_rfl
@[push_cast] theorem ni93 : notInt Go.Proofs.Try.prog 93 = true := by kernel_rfl
@[push_cast] theorem el93 : elemT Go.Proofs.Try.prog 93 = none := by kernel_rfl
@[push_cast] theorem es93 : eqShape Go.Proofs.Try.prog 93 = some ([(0, .s), (1, .i), (2, .s), (3, .i)]) := by kernel_rfl
@[push_cast] theorem ct93 : concT Go.Proofs.Try.prog 93 = true := by kernel_rfl
@[push_cast] theorem sz94 : szT Go.Proofs.Try.prog 94 = some (4) := by kernel_rfl
@[push_cast] theorem by94 : bytesT Go.Proofs.Try.prog 94 = some (48) := by kernel_rfl
@[push_cast] theorem ag94 : aggT Go.Proofs.Try.prog 94 = some (true) := by kernel_rfl
@[push_cast] theorem zt94 : zeroT Go.Proofs.Try.prog 94 = some ([.str ByteArray.empty, .int .i64 0, .str ByteArray.empty, .int .i64 0]) := by kernel_rfl
@[push_cast] theorem zv94 : zeroV Go.Proofs.Try.prog 94 = some (.agg [.str ByteArray.empty, .int .i64 0, .str ByteArray.empty, .int .i64 0]) := by kernel_rfl
@[push_cast] theorem f94_0 : fieldT Go.Proofs.Try.prog 94 0 = some ((9, 0)) := by kernel_rfl
@[push_cast] theorem f94_1 : fieldT Go.Proofs.Try.prog 94 1 = some ((3, 1)) := by kernel_rfl
@[push_cast] theorem f94_2 : fieldT Go.Proofs.Try.prog 94 2 = some ((9, 2)) := by kernel_rfl
@[push_cast] theorem f94_3 : fieldT Go.Proofs.Try.prog 94 3 = some ((3, 3)) := by kernel_rfl
@[push_cast] theorem pl94 : placesT Go.Proofs.Try.prog 94 = some ([(0, 1), (1, 1), (2, 1), (3, 1)]) := by kernel_rfl
@[push_cast] theorem ar94 : arrT Go.Proofs.Try.prog 94 = none := by kernel_rfl
@[push_cast] theorem ni94 : notInt Go.Proofs.Try.prog 94 = true := by kernel_rfl
@[push_cast] theorem el94 : elemT Go.Proofs.Try.prog 94 = none := by kernel_rfl
@[push_cast] theorem es94 : eqShape Go.Proofs.Try.prog 94 = some ([(0, .s), (1, .i), (2, .s), (3, .i)]) := by kernel_rfl
@[push_cast] theorem ct94 : concT Go.Proofs.Try.prog 94 = true := by kernel_rfl
@[push_cast] theorem sz95 : szT Go.Proofs.Try.prog 95 = some (1) := by kernel_rfl
@[push_cast] theorem by95 : bytesT Go.Proofs.Try.prog 95 = some (8) := by kernel_rfl
@[push_cast] theorem ag95 : aggT Go.Proofs.Try.prog 95 = some (false) := by kernel_rfl
@[push_cast] theorem zt95 : zeroT Go.Proofs.Try.prog 95 = some ([.nilf]) := by kernel_rfl
@[push_cast] theorem zv95 : zeroV Go.Proofs.Try.prog 95 = some (.nilf) := by kernel_rfl
@[push_cast] theorem ni95 : notInt Go.Proofs.Try.prog 95 = true := by kernel_rfl
@[push_cast] theorem el95 : elemT Go.Proofs.Try.prog 95 = none := by kernel_rfl
@[push_cast] theorem ct95 : concT Go.Proofs.Try.prog 95 = true := by kernel_rfl
@[push_cast] theorem sz96 : szT Go.Proofs.Try.prog 96 = some (1) := by kernel_rfl
@[push_cast] theorem by96 : bytesT Go.Proofs.Try.prog 96 = some (8) := by kernel_rfl
@[push_cast] theorem ag96 : aggT Go.Proofs.Try.prog 96 = some (false) := by kernel_rfl
@[push_cast] theorem zt96 : zeroT Go.Proofs.Try.prog 96 = some ([.nilf]) := by kernel_rfl
@[push_cast] theorem zv96 : zeroV Go.Proofs.Try.prog 96 = some (.nilf) := by kernel_rfl
@[push_cast] theorem ni96 : notInt Go.Proofs.Try.prog 96 = true := by kernel_rfl
@[push_cast] theorem el96 : elemT Go.Proofs.Try.prog 96 = none := by kernel_rfl
@[push_cast] theorem ct96 : concT Go.Proofs.Try.prog 96 = true := by kernel_rfl
@[push_cast] theorem sz97 : szT Go.Proofs.Try.prog 97 = some (1) := by kernel_rfl
@[push_cast] theorem by97 : bytesT Go.Proofs.Try.prog 97 = some (8) := by kernel_rfl
@[push_cast] theorem ag97 : aggT Go.Proofs.Try.prog 97 = some (false) := by kernel_rfl
@[push_cast] theorem zt97 : zeroT Go.Proofs.Try.prog 97 = some ([.int .u64 0]) := by kernel_rfl
@[push_cast] theorem zv97 : zeroV Go.Proofs.Try.prog 97 = some (.int .u64 0) := by kernel_rfl
@[push_cast] theorem u97 : Program.underlying Go.Proofs.Try.prog 97 = some (.int .u64) := by kernel_rfl
@[push_cast] theorem el97 : elemT Go.Proofs.Try.prog 97 = none := by kernel_rfl
@[push_cast] theorem kt97 : kindT Go.Proofs.Try.prog 97 = some (.int .u64) := by kernel_rfl
@[push_cast] theorem ct97 : concT Go.Proofs.Try.prog 97 = true := by kernel_rfl
@[push_cast] theorem sz98 : szT Go.Proofs.Try.prog 98 = some (1) := by kernel_rfl
@[push_cast] theorem by98 : bytesT Go.Proofs.Try.prog 98 = some (8) := by kernel_rfl
@[push_cast] theorem ag98 : aggT Go.Proofs.Try.prog 98 = some (false) := by kernel_rfl
@[push_cast] theorem zt98 : zeroT Go.Proofs.Try.prog 98 = some ([.nilf]) := by kernel_rfl
@[push_cast] theorem zv98 : zeroV Go.Proofs.Try.prog 98 = some (.nilf) := by kernel_rfl
@[push_cast] theorem ni98 : notInt Go.Proofs.Try.prog 98 = true := by kernel_rfl
@[push_cast] theorem el98 : elemT Go.Proofs.Try.prog 98 = none := by kernel_rfl
@[push_cast] theorem ct98 : concT Go.Proofs.Try.prog 98 = true := by kernel_rfl
@[push_cast] theorem sz99 : szT Go.Proofs.Try.prog 99 = some (1) := by kernel_rfl
@[push_cast] theorem by99 : bytesT Go.Proofs.Try.prog 99 = some (8) := by kernel_rfl
@[push_cast] theorem ag99 : aggT Go.Proofs.Try.prog 99 = some (false) := by kernel_rfl
@[push_cast] theorem zt99 : zeroT Go.Proofs.Try.prog 99 = some ([.nilf]) := by kernel_rfl
@[push_cast] theorem zv99 : zeroV Go.Proofs.Try.prog 99 = some (.nilf) := by kernel_rfl
@[push_cast] theorem ni99 : notInt Go.Proofs.Try.prog 99 = true := by kernel_rfl
@[push_cast] theorem el99 : elemT Go.Proofs.Try.prog 99 = none := by kernel_rfl
@[push_cast] theorem ct99 : concT Go.Proofs.Try.prog 99 = true := by kernel_rfl
@[push_cast] theorem sz100 : szT Go.Proofs.Try.prog 100 = some (1) := by kernel_rfl
@[push_cast] theorem by100 : bytesT Go.Proofs.Try.prog 100 = some (8) := by kernel_rfl
@[push_cast] theorem ag100 : aggT Go.Proofs.Try.prog 100 = some (false) := by kernel_rfl
@[push_cast] theorem zt100 : zeroT Go.Proofs.Try.prog 100 = some ([.nilf]) := by kernel_rfl
@[push_cast] theorem zv100 : zeroV Go.Proofs.Try.prog 100 = some (.nilf) := by kernel_rfl
@[push_cast] theorem ni100 : notInt Go.Proofs.Try.prog 100 = true := by kernel_rfl
@[push_cast] theorem el100 : elemT Go.Proofs.Try.prog 100 = none := by kernel_rfl
@[push_cast] theorem ct100 : concT Go.Proofs.Try.prog 100 = true := by kernel_rfl
@[push_cast] theorem sz101 : szT Go.Proofs.Try.prog 101 = some (1) := by kernel_rfl
@[push_cast] theorem by101 : bytesT Go.Proofs.Try.prog 101 = some (8) := by kernel_rfl
@[push_cast] theorem ag101 : aggT Go.Proofs.Try.prog 101 = some (false) := by kernel_rfl
@[push_cast] theorem zt101 : zeroT Go.Proofs.Try.prog 101 = some ([.nilf]) := by kernel_rfl
@[push_cast] theorem zv101 : zeroV Go.Proofs.Try.prog 101 = some (.nilf) := by kernel_rfl
@[push_cast] theorem ni101 : notInt Go.Proofs.Try.prog 101 = true := by kernel_rfl
@[push_cast] theorem el101 : elemT Go.Proofs.Try.prog 101 = none := by kernel_rfl
@[push_cast] theorem ct101 : concT Go.Proofs.Try.prog 101 = true := by kernel_rfl
@[push_cast] theorem sz102 : szT Go.Proofs.Try.prog 102 = some (1) := by kernel_rfl
@[push_cast] theorem by102 : bytesT Go.Proofs.Try.prog 102 = some (8) := by kernel_rfl
@[push_cast] theorem ag102 : aggT Go.Proofs.Try.prog 102 = some (false) := by kernel_rfl
@[push_cast] theorem zt102 : zeroT Go.Proofs.Try.prog 102 = some ([.nilf]) := by kernel_rfl
@[push_cast] theorem zv102 : zeroV Go.Proofs.Try.prog 102 = some (.nilf) := by kernel_rfl
@[push_cast] theorem ni102 : notInt Go.Proofs.Try.prog 102 = true := by kernel_rfl
@[push_cast] theorem el102 : elemT Go.Proofs.Try.prog 102 = none := by kernel_rfl
@[push_cast] theorem ct102 : concT Go.Proofs.Try.prog 102 = true := by kernel_rfl
@[push_cast] theorem sz103 : szT Go.Proofs.Try.prog 103 = some (1) := by kernel_rfl
@[push_cast] theorem by103 : bytesT Go.Proofs.Try.prog 103 = some (8) := by kernel_rfl
@[push_cast] theorem ag103 : aggT Go.Proofs.Try.prog 103 = some (false) := by kernel_rfl
@[push_cast] theorem zt103 : zeroT Go.Proofs.Try.prog 103 = some ([.nilp]) := by kernel_rfl
@[push_cast] theorem zv103 : zeroV Go.Proofs.Try.prog 103 = some (.nilp) := by kernel_rfl
@[push_cast] theorem u103 : Program.underlying Go.Proofs.Try.prog 103 = some (.pointer 105) := by kernel_rfl
@[push_cast] theorem ni103 : notInt Go.Proofs.Try.prog 103 = true := by kernel_rfl
@[push_cast] theorem el103 : elemT Go.Proofs.Try.prog 103 = none := by kernel_rfl
@[push_cast] theorem ct103 : concT Go.Proofs.Try.prog 103 = true := by kernel_rfl
@[push_cast] theorem sz104 : szT Go.Proofs.Try.prog 104 = some (1) := by kernel_rfl
@[push_cast] theorem by104 : bytesT Go.Proofs.Try.prog 104 = some (24) := by kernel_rfl
@[push_cast] theorem ag104 : aggT Go.Proofs.Try.prog 104 = some (true) := by kernel_rfl
@[push_cast] theorem zt104 : zeroT Go.Proofs.Try.prog 104 = some ([.sl 0 [] .full]) := by kernel_rfl
@[push_cast] theorem zv104 : zeroV Go.Proofs.Try.prog 104 = some (.agg [.sl 0 [] .full]) := by kernel_rfl
@[push_cast] theorem f104_0 : fieldT Go.Proofs.Try.prog 104 0 = some ((27, 0)) := by kernel_rfl
@[push_cast] theorem pl104 : placesT Go.Proofs.Try.prog 104 = some ([(0, 1)]) := by kernel_rfl
@[push_cast] theorem ar104 : arrT Go.Proofs.Try.prog 104 = none := by kernel_rfl
@[push_cast] theorem ni104 : notInt Go.Proofs.Try.prog 104 = true := by kernel_rfl
@[push_cast] theorem el104 : elemT Go.Proofs.Try.prog 104 = none := by kernel_rfl
@[push_cast] theorem ct104 : concT Go.Proofs.Try.prog 104 = true := by kernel_rfl
@[push_cast] theorem sz105 : szT Go.Proofs.Try.prog 105 = some (1) := by kernel_rfl
@[push_cast] theorem by105 : bytesT Go.Proofs.Try.prog 105 = some (24) := by kernel_rfl
@[push_cast] theorem ag105 : aggT Go.Proofs.Try.prog 105 = some (true) := by kernel_rfl
@[push_cast] theorem zt105 : zeroT Go.Proofs.Try.prog 105 = some ([.sl 0 [] .full]) := by kernel_rfl
@[push_cast] theorem zv105 : zeroV Go.Proofs.Try.prog 105 = some (.agg [.sl 0 [] .full]) := by kernel_rfl
@[push_cast] theorem f105_0 : fieldT Go.Proofs.Try.prog 105 0 = some ((27, 0)) := by kernel_rfl
@[push_cast] theorem pl105 : placesT Go.Proofs.Try.prog 105 = some ([(0, 1)]) := by kernel_rfl
@[push_cast] theorem ar105 : arrT Go.Proofs.Try.prog 105 = none := by kernel_rfl
@[push_cast] theorem ni105 : notInt Go.Proofs.Try.prog 105 = true := by kernel_rfl
@[push_cast] theorem el105 : elemT Go.Proofs.Try.prog 105 = none := by kernel_rfl
@[push_cast] theorem ct105 : concT Go.Proofs.Try.prog 105 = true := by kernel_rfl
@[push_cast] theorem sz106 : szT Go.Proofs.Try.prog 106 = some (1) := by kernel_rfl
@[push_cast] theorem by106 : bytesT Go.Proofs.Try.prog 106 = some (8) := by kernel_rfl
@[push_cast] theorem ag106 : aggT Go.Proofs.Try.prog 106 = some (false) := by kernel_rfl
@[push_cast] theorem zt106 : zeroT Go.Proofs.Try.prog 106 = some ([.nilf]) := by kernel_rfl
@[push_cast] theorem zv106 : zeroV Go.Proofs.Try.prog 106 = some (.nilf) := by kernel_rfl
@[push_cast] theorem ni106 : notInt Go.Proofs.Try.prog 106 = true := by kernel_rfl
@[push_cast] theorem el106 : elemT Go.Proofs.Try.prog 106 = none := by kernel_rfl
@[push_cast] theorem ct106 : concT Go.Proofs.Try.prog 106 = true := by kernel_rfl
@[push_cast] theorem sz107 : szT Go.Proofs.Try.prog 107 = some (1) := by kernel_rfl
@[push_cast] theorem by107 : bytesT Go.Proofs.Try.prog 107 = some (8) := by kernel_rfl
@[push_cast] theorem ag107 : aggT Go.Proofs.Try.prog 107 = some (false) := by kernel_rfl
@[push_cast] theorem zt107 : zeroT Go.Proofs.Try.prog 107 = some ([.nilf]) := by kernel_rfl
@[push_cast] theorem zv107 : zeroV Go.Proofs.Try.prog 107 = some (.nilf) := by kernel_rfl
@[push_cast] theorem ni107 : notInt Go.Proofs.Try.prog 107 = true := by kernel_rfl
@[push_cast] theorem el107 : elemT Go.Proofs.Try.prog 107 = none := by kernel_rfl
@[push_cast] theorem ct107 : concT Go.Proofs.Try.prog 107 = true := by kernel_rfl
@[push_cast] theorem sz108 : szT Go.Proofs.Try.prog 108 = some (1) := by kernel_rfl
@[push_cast] theorem by108 : bytesT Go.Proofs.Try.prog 108 = some (8) := by kernel_rfl
@[push_cast] theorem ag108 : aggT Go.Proofs.Try.prog 108 = some (false) := by kernel_rfl
@[push_cast] theorem zt108 : zeroT Go.Proofs.Try.prog 108 = some ([.nilf]) := by kernel_rfl
@[push_cast] theorem zv108 : zeroV Go.Proofs.Try.prog 108 = some (.nilf) := by kernel_rfl
@[push_cast] theorem ni108 : notInt Go.Proofs.Try.prog 108 = true := by kernel_rfl
@[push_cast] theorem el108 : elemT Go.Proofs.Try.prog 108 = none := by kernel_rfl
@[push_cast] theorem ct108 : concT Go.Proofs.Try.prog 108 = true := by kernel_rfl
@[push_cast] theorem sz109 : szT Go.Proofs.Try.prog 109 = some (1) := by kernel_rfl
@[push_cast] theorem by109 : bytesT Go.Proofs.Try.prog 109 = some (0) := by kernel_rfl
@[push_cast] theorem ag109 : aggT Go.Proofs.Try.prog 109 = some (false) := by kernel_rfl
@[push_cast] theorem zt109 : zeroT Go.Proofs.Try.prog 109 = some ([.dead]) := by kernel_rfl
@[push_cast] theorem zv109 : zeroV Go.Proofs.Try.prog 109 = some (.dead) := by kernel_rfl
@[push_cast] theorem ni109 : notInt Go.Proofs.Try.prog 109 = true := by kernel_rfl
@[push_cast] theorem el109 : elemT Go.Proofs.Try.prog 109 = none := by kernel_rfl
@[push_cast] theorem ct109 : concT Go.Proofs.Try.prog 109 = true := by kernel_rfl
@[push_cast] theorem sz110 : szT Go.Proofs.Try.prog 110 = some (1) := by kernel_rfl
@[push_cast] theorem by110 : bytesT Go.Proofs.Try.prog 110 = some (8) := by kernel_rfl
@[push_cast] theorem ag110 : aggT Go.Proofs.Try.prog 110 = some (false) := by kernel_rfl
@[push_cast] theorem zt110 : zeroT Go.Proofs.Try.prog 110 = some ([.nilf]) := by kernel_rfl
@[push_cast] theorem zv110 : zeroV Go.Proofs.Try.prog 110 = some (.nilf) := by kernel_rfl
@[push_cast] theorem ni110 : notInt Go.Proofs.Try.prog 110 = true := by kernel_rfl
@[push_cast] theorem el110 : elemT Go.Proofs.Try.prog 110 = none := by kernel_rfl
@[push_cast] theorem ct110 : concT Go.Proofs.Try.prog 110 = true := by kernel_rfl
@[push_cast] theorem sz111 : szT Go.Proofs.Try.prog 111 = some (1) := by kernel_rfl
@[push_cast] theorem by111 : bytesT Go.Proofs.Try.prog 111 = some (8) := by kernel_rfl
@[push_cast] theorem ag111 : aggT Go.Proofs.Try.prog 111 = some (false) := by kernel_rfl
@[push_cast] theorem zt111 : zeroT Go.Proofs.Try.prog 111 = some ([.nilf]) := by kernel_rfl
@[push_cast] theorem zv111 : zeroV Go.Proofs.Try.prog 111 = some (.nilf) := by kernel_rfl
@[push_cast] theorem ni111 : notInt Go.Proofs.Try.prog 111 = true := by kernel_rfl
@[push_cast] theorem el111 : elemT Go.Proofs.Try.prog 111 = none := by kernel_rfl
@[push_cast] theorem ct111 : concT Go.Proofs.Try.prog 111 = true := by kernel_rfl
@[push_cast] theorem sz112 : szT Go.Proofs.Try.prog 112 = some (1) := by kernel_rfl
@[push_cast] theorem by112 : bytesT Go.Proofs.Try.prog 112 = some (8) := by kernel_rfl
@[push_cast] theorem ag112 : aggT Go.Proofs.Try.prog 112 = some (false) := by kernel_rfl
@[push_cast] theorem zt112 : zeroT Go.Proofs.Try.prog 112 = some ([.nilf]) := by kernel_rfl
@[push_cast] theorem zv112 : zeroV Go.Proofs.Try.prog 112 = some (.nilf) := by kernel_rfl
@[push_cast] theorem ni112 : notInt Go.Proofs.Try.prog 112 = true := by kernel_rfl
@[push_cast] theorem el112 : elemT Go.Proofs.Try.prog 112 = none := by kernel_rfl
@[push_cast] theorem ct112 : concT Go.Proofs.Try.prog 112 = true := by kernel_rfl
@[push_cast] theorem sz113 : szT Go.Proofs.Try.prog 113 = some (1) := by kernel_rfl
@[push_cast] theorem by113 : bytesT Go.Proofs.Try.prog 113 = some (8) := by kernel_rfl
@[push_cast] theorem ag113 : aggT Go.Proofs.Try.prog 113 = some (false) := by kernel_rfl
@[push_cast] theorem zt113 : zeroT Go.Proofs.Try.prog 113 = some ([.nilf]) := by kernel_rfl
@[push_cast] theorem zv113 : zeroV Go.Proofs.Try.prog 113 = some (.nilf) := by kernel_rfl
@[push_cast] theorem ni113 : notInt Go.Proofs.Try.prog 113 = true := by kernel_rfl
@[push_cast] theorem el113 : elemT Go.Proofs.Try.prog 113 = none := by kernel_rfl
@[push_cast] theorem ct113 : concT Go.Proofs.Try.prog 113 = true := by kernel_rfl
@[push_cast] theorem sz114 : szT Go.Proofs.Try.prog 114 = some (1) := by kernel_rfl
@[push_cast] theorem by114 : bytesT Go.Proofs.Try.prog 114 = some (8) := by kernel_rfl
@[push_cast] theorem ag114 : aggT Go.Proofs.Try.prog 114 = some (false) := by kernel_rfl
@[push_cast] theorem zt114 : zeroT Go.Proofs.Try.prog 114 = some ([.nilf]) := by kernel_rfl
@[push_cast] theorem zv114 : zeroV Go.Proofs.Try.prog 114 = some (.nilf) := by kernel_rfl
@[push_cast] theorem ni114 : notInt Go.Proofs.Try.prog 114 = true := by kernel_rfl
@[push_cast] theorem el114 : elemT Go.Proofs.Try.prog 114 = none := by kernel_rfl
@[push_cast] theorem ct114 : concT Go.Proofs.Try.prog 114 = true := by kernel_rfl
@[push_cast] theorem sz115 : szT Go.Proofs.Try.prog 115 = some (1) := by kernel_rfl
@[push_cast] theorem by115 : bytesT Go.Proofs.Try.prog 115 = some (8) := by kernel_rfl
@[push_cast] theorem ag115 : aggT Go.Proofs.Try.prog 115 = some (false) := by kernel_rfl
@[push_cast] theorem zt115 : zeroT Go.Proofs.Try.prog 115 = some ([.nilf]) := by kernel_rfl
@[push_cast] theorem zv115 : zeroV Go.Proofs.Try.prog 115 = some (.nilf) := by kernel_rfl
@[push_cast] theorem ni115 : notInt Go.Proofs.Try.prog 115 = true := by kernel_rfl
@[push_cast] theorem el115 : elemT Go.Proofs.Try.prog 115 = none := by kernel_rfl
@[push_cast] theorem ct115 : concT Go.Proofs.Try.prog 115 = true := by kernel_rfl
@[push_cast] theorem sz116 : szT Go.Proofs.Try.prog 116 = some (1) := by kernel_rfl
@[push_cast] theorem by116 : bytesT Go.Proofs.Try.prog 116 = some (8) := by kernel_rfl
@[push_cast] theorem ag116 : aggT Go.Proofs.Try.prog 116 = some (false) := by kernel_rfl
@[push_cast] theorem zt116 : zeroT Go.Proofs.Try.prog 116 = some ([.nilf]) := by kernel_rfl
@[push_cast] theorem zv116 : zeroV Go.Proofs.Try.prog 116 = some (.nilf) := by kernel_rfl
@[push_cast] theorem ni116 : notInt Go.Proofs.Try.prog 116 = true := by kernel_rfl
@[push_cast] theorem el116 : elemT Go.Proofs.Try.prog 116 = none := by kernel_rfl
@[push_cast] theorem ct116 : concT Go.Proofs.Try.prog 116 = true := by kernel_rfl
@[push_cast] theorem sz117 : szT Go.Proofs.Try.prog 117 = some (1) := by kernel_rfl
@[push_cast] theorem by117 : bytesT Go.Proofs.Try.prog 117 = some (8) := by kernel_rfl
@[push_cast] theorem ag117 : aggT Go.Proofs.Try.prog 117 = some (false) := by kernel_rfl
@[push_cast] theorem zt117 : zeroT Go.Proofs.Try.prog 117 = some ([.nilf]) := by kernel_rfl
@[push_cast] theorem zv117 : zeroV Go.Proofs.Try.prog 117 = some (.nilf) := by kernel_rfl
@[push_cast] theorem ni117 : notInt Go.Proofs.Try.prog 117 = true := by kernel_rfl
@[push_cast] theorem el117 : elemT Go.Proofs.Try.prog 117 = none := by kernel_rfl
@[push_cast] theorem ct117 : concT Go.Proofs.Try.prog 117 = true := by kernel_rfl
@[push_cast] theorem sz118 : szT Go.Proofs.Try.prog 118 = some (1) := by kernel_rfl
@[push_cast] theorem by118 : bytesT Go.Proofs.Try.prog 118 = some (8) := by kernel_rfl
@[push_cast] theorem ag118 : aggT Go.Proofs.Try.prog 118 = some (false) := by kernel_rfl
@[push_cast] theorem zt118 : zeroT Go.Proofs.Try.prog 118 = some ([.nilf]) := by kernel_rfl
@[push_cast] theorem zv118 : zeroV Go.Proofs.Try.prog 118 = some (.nilf) := by kernel_rfl
@[push_cast] theorem ni118 : notInt Go.Proofs.Try.prog 118 = true := by kernel_rfl
@[push_cast] theorem el118 : elemT Go.Proofs.Try.prog 118 = none := by kernel_rfl
@[push_cast] theorem ct118 : concT Go.Proofs.Try.prog 118 = true := by kernel_rfl
@[push_cast] theorem sz119 : szT Go.Proofs.Try.prog 119 = some (1) := by kernel_rfl
@[push_cast] theorem by119 : bytesT Go.Proofs.Try.prog 119 = some (8) := by kernel_rfl
@[push_cast] theorem ag119 : aggT Go.Proofs.Try.prog 119 = some (false) := by kernel_rfl
@[push_cast] theorem zt119 : zeroT Go.Proofs.Try.prog 119 = some ([.nilf]) := by kernel_rfl
@[push_cast] theorem zv119 : zeroV Go.Proofs.Try.prog 119 = some (.nilf) := by kernel_rfl
@[push_cast] theorem ni119 : notInt Go.Proofs.Try.prog 119 = true := by kernel_rfl
@[push_cast] theorem el119 : elemT Go.Proofs.Try.prog 119 = none := by kernel_rfl
@[push_cast] theorem ct119 : concT Go.Proofs.Try.prog 119 = true := by kernel_rfl
@[push_cast] theorem sz120 : szT Go.Proofs.Try.prog 120 = some (1) := by kernel_rfl
@[push_cast] theorem by120 : bytesT Go.Proofs.Try.prog 120 = some (8) := by kernel_rfl
@[push_cast] theorem ag120 : aggT Go.Proofs.Try.prog 120 = some (false) := by kernel_rfl
@[push_cast] theorem zt120 : zeroT Go.Proofs.Try.prog 120 = some ([.nilf]) := by kernel_rfl
@[push_cast] theorem zv120 : zeroV Go.Proofs.Try.prog 120 = some (.nilf) := by kernel_rfl
@[push_cast] theorem ni120 : notInt Go.Proofs.Try.prog 120 = true := by kernel_rfl
@[push_cast] theorem el120 : elemT Go.Proofs.Try.prog 120 = none := by kernel_rfl
@[push_cast] theorem ct120 : concT Go.Proofs.Try.prog 120 = true := by kernel_rfl
@[push_cast] theorem sz121 : szT Go.Proofs.Try.prog 121 = some (3) := by kernel_rfl
@[push_cast] theorem by121 : bytesT Go.Proofs.Try.prog 121 = some (32) := by kernel_rfl
@[push_cast] theorem ag121 : aggT Go.Proofs.Try.prog 121 = some (true) := by kernel_rfl
@[push_cast] theorem zt121 : zeroT Go.Proofs.Try.prog 121 = some ([.int .u8 0, .int .i64 0, .str ByteArray.empty]) := by kernel_rfl
@[push_cast] theorem zv121 : zeroV Go.Proofs.Try.prog 121 = some (.agg [.int .u8 0, .int .i64 0, .str ByteArray.empty]) := by kernel_rfl
@[push_cast] theorem f121_0 : fieldT Go.Proofs.Try.prog 121 0 = some ((5, 0)) := by kernel_rfl
@[push_cast] theorem f121_1 : fieldT Go.Proofs.Try.prog 121 1 = some ((2, 1)) := by kernel_rfl
@[push_cast] theorem f121_2 : fieldT Go.Proofs.Try.prog 121 2 = some ((9, 2)) := by kernel_rfl
@[push_cast] theorem pl121 : placesT Go.Proofs.Try.prog 121 = some ([(0, 1), (1, 1), (2, 1)]) := by kernel_rfl
@[push_cast] theorem ar121 : arrT Go.Proofs.Try.prog 121 = none := by kernel_rfl
@[push_cast] theorem ni121 : notInt Go.Proofs.Try.prog 121 = true := by kernel_rfl
@[push_cast] theorem el121 : elemT Go.Proofs.Try.prog 121 = none := by kernel_rfl
@[push_cast] theorem es121 : eqShape Go.Proofs.Try.prog 121 = some ([(0, .i), (1, .i), (2, .s)]) := by kernel_rfl
@[push_cast] theorem ct121 : concT Go.Proofs.Try.prog 121 = true := by kernel_rfl
@[push_cast] theorem sz122 : szT Go.Proofs.Try.prog 122 = some (3) := by kernel_rfl
@[push_cast] theorem by122 : bytesT Go.Proofs.Try.prog 122 = some (32) := by kernel_rfl
@[push_cast] theorem ag122 : aggT Go.Proofs.Try.prog 122 = some (true) := by kernel_rfl
@[push_cast] theorem zt122 : zeroT Go.Proofs.Try.prog 122 = some ([.int .u8 0, .int .i64 0, .str ByteArray.empty]) := by kernel_rfl
@[push_cast] theorem zv122 : zeroV Go.Proofs.Try.prog 122 = some (.agg [.int .u8 0, .int .i64 0, .str ByteArray.empty]) := by kernel_rfl
@[push_cast] theorem f122_0 : fieldT Go.Proofs.Try.prog 122 0 = some ((5, 0)) := by kernel_rfl
@[push_cast] theorem f122_1 : fieldT Go.Proofs.Try.prog 122 1 = some ((2, 1)) := by kernel_rfl
@[push_cast] theorem f122_2 : fieldT Go.Proofs.Try.prog 122 2 = some ((9, 2)) := by kernel_rfl
@[push_cast] theorem pl122 : placesT Go.Proofs.Try.prog 122 = some ([(0, 1), (1, 1), (2, 1)]) := by kernel_rfl
@[push_cast] theorem ar122 : arrT Go.Proofs.Try.prog 122 = none := by kernel_rfl
@[push_cast] theorem ni122 : notInt Go.Proofs.Try.prog 122 = true := by kernel_rfl
@[push_cast] theorem el122 : elemT Go.Proofs.Try.prog 122 = none := by kernel_rfl
@[push_cast] theorem es122 : eqShape Go.Proofs.Try.prog 122 = some ([(0, .i), (1, .i), (2, .s)]) := by kernel_rfl
@[push_cast] theorem ct122 : concT Go.Proofs.Try.prog 122 = true := by kernel_rfl
@[push_cast] theorem sz123 : szT Go.Proofs.Try.prog 123 = some (2) := by kernel_rfl
@[push_cast] theorem by123 : bytesT Go.Proofs.Try.prog 123 = some (48) := by kernel_rfl
@[push_cast] theorem ag123 : aggT Go.Proofs.Try.prog 123 = some (true) := by kernel_rfl
@[push_cast] theorem zt123 : zeroT Go.Proofs.Try.prog 123 = some ([.sl 0 [] .full, .sl 0 [] .full]) := by kernel_rfl
@[push_cast] theorem zv123 : zeroV Go.Proofs.Try.prog 123 = some (.agg [.sl 0 [] .full, .sl 0 [] .full]) := by kernel_rfl
@[push_cast] theorem f123_0 : fieldT Go.Proofs.Try.prog 123 0 = some ((69, 0)) := by kernel_rfl
@[push_cast] theorem f123_1 : fieldT Go.Proofs.Try.prog 123 1 = some ((69, 1)) := by kernel_rfl
@[push_cast] theorem pl123 : placesT Go.Proofs.Try.prog 123 = some ([(0, 1), (1, 1)]) := by kernel_rfl
@[push_cast] theorem ar123 : arrT Go.Proofs.Try.prog 123 = none := by kernel_rfl
@[push_cast] theorem ni123 : notInt Go.Proofs.Try.prog 123 = true := by kernel_rfl
@[push_cast] theorem el123 : elemT Go.Proofs.Try.prog 123 = none := by kernel_rfl
@[push_cast] theorem ct123 : concT Go.Proofs.Try.prog 123 = true := by kernel_rfl
@[push_cast] theorem sz124 : szT Go.Proofs.Try.prog 124 = some (2) := by kernel_rfl
@[push_cast] theorem by124 : bytesT Go.Proofs.Try.prog 124 = some (48) := by kernel_rfl
@[push_cast] theorem ag124 : aggT Go.Proofs.Try.prog 124 = some (true) := by kernel_rfl
@[push_cast] theorem zt124 : zeroT Go.Proofs.Try.prog 124 = some ([.sl 0 [] .full, .sl 0 [] .full]) := by kernel_rfl
@[push_cast] theorem zv124 : zeroV Go.Proofs.Try.prog 124 = some (.agg [.sl 0 [] .full, .sl 0 [] .full]) := by kernel_rfl
@[push_cast] theorem f124_0 : fieldT Go.Proofs.Try.prog 124 0 = some ((69, 0)) := by kernel_rfl
@[push_cast] theorem f124_1 : fieldT Go.Proofs.Try.prog 124 1 = some ((69, 1)) := by kernel_rfl
@[push_cast] theorem pl124 : placesT Go.Proofs.Try.prog 124 = some ([(0, 1), (1, 1)]) := by kernel_rfl
@[push_cast] theorem ar124 : arrT Go.Proofs.Try.prog 124 = none := by kernel_rfl
@[push_cast] theorem ni124 : notInt Go.Proofs.Try.prog 124 = true := by kernel_rfl
@[push_cast] theorem el124 : elemT Go.Proofs.Try.prog 124 = none := by kernel_rfl
@[push_cast] theorem ct124 : concT Go.Proofs.Try.prog 124 = true := by kernel_rfl
@[push_cast] theorem sz125 : szT Go.Proofs.Try.prog 125 = some (1) := by kernel_rfl
@[push_cast] theorem by125 : bytesT Go.Proofs.Try.prog 125 = some (8) := by kernel_rfl
@[push_cast] theorem ag125 : aggT Go.Proofs.Try.prog 125 = some (false) := by kernel_rfl
@[push_cast] theorem zt125 : zeroT Go.Proofs.Try.prog 125 = some ([.nilf]) := by kernel_rfl
@[push_cast] theorem zv125 : zeroV Go.Proofs.Try.prog 125 = some (.nilf) := by kernel_rfl
@[push_cast] theorem ni125 : notInt Go.Proofs.Try.prog 125 = true := by kernel_rfl
@[push_cast] theorem el125 : elemT Go.Proofs.Try.prog 125 = none := by kernel_rfl
@[push_cast] theorem ct125 : concT Go.Proofs.Try.prog 125 = true := by kernel_rfl
@[push_cast] theorem sz126 : szT Go.Proofs.Try.prog 126 = some (1) := by kernel_rfl
@[push_cast] theorem by126 : bytesT Go.Proofs.Try.prog 126 = some (8) := by kernel_rfl
@[push_cast] theorem ag126 : aggT Go.Proofs.Try.prog 126 = some (false) := by kernel_rfl
@[push_cast] theorem zt126 : zeroT Go.Proofs.Try.prog 126 = some ([.nilf]) := by kernel_rfl
@[push_cast] theorem zv126 : zeroV Go.Proofs.Try.prog 126 = some (.nilf) := by kernel_rfl
@[push_cast] theorem ni126 : notInt Go.Proofs.Try.prog 126 = true := by kernel_rfl
@[push_cast] theorem el126 : elemT Go.Proofs.Try.prog 126 = none := by kernel_rfl
@[push_cast] theorem ct126 : concT Go.Proofs.Try.prog 126 = true := by kernel_rfl
@[push_cast] theorem sz127 : szT Go.Proofs.Try.prog 127 = some (1) := by kernel_rfl
@[push_cast] theorem by127 : bytesT Go.Proofs.Try.prog 127 = some (8) := by kernel_rfl
@[push_cast] theorem ag127 : aggT Go.Proofs.Try.prog 127 = some (false) := by kernel_rfl
@[push_cast] theorem zt127 : zeroT Go.Proofs.Try.prog 127 = some ([.nilf]) := by kernel_rfl
@[push_cast] theorem zv127 : zeroV Go.Proofs.Try.prog 127 = some (.nilf) := by kernel_rfl
@[push_cast] theorem ni127 : notInt Go.Proofs.Try.prog 127 = true := by kernel_rfl
@[push_cast] theorem el127 : elemT Go.Proofs.Try.prog 127 = none := by kernel_rfl
@[push_cast] theorem ct127 : concT Go.Proofs.Try.prog 127 = true := by kernel_rfl
@[push_cast] theorem sz128 : szT Go.Proofs.Try.prog 128 = some (1) := by kernel_rfl
@[push_cast] theorem by128 : bytesT Go.Proofs.Try.prog 128 = some (8) := by kernel_rfl
@[push_cast] theorem ag128 : aggT Go.Proofs.Try.prog 128 = some (false) := by kernel_rfl
@[push_cast] theorem zt128 : zeroT Go.Proofs.Try.prog 128 = some ([.nilf]) := by kernel_rfl
@[push_cast] theorem zv128 : zeroV Go.Proofs.Try.prog 128 = some (.nilf) := by kernel_rfl
@[push_cast] theorem ni128 : notInt Go.Proofs.Try.prog 128 = true := by kernel_rfl
@[push_cast] theorem el128 : elemT Go.Proofs.Try.prog 128 = none := by kernel_rfl
@[push_cast] theorem ct128 : concT Go.Proofs.Try.prog 128 = true := by kernel_rfl
@[push_cast] theorem sz129 : szT Go.Proofs.Try.prog 129 = some (1) := by kernel_rfl
@[push_cast] theorem by129 : bytesT Go.Proofs.Try.prog 129 = some (8) := by kernel_rfl
@[push_cast] theorem ag129 : aggT Go.Proofs.Try.prog 129 = some (false) := by kernel_rfl
@[push_cast] theorem zt129 : zeroT Go.Proofs.Try.prog 129 = some ([.nilf]) := by kernel_rfl
@[push_cast] theorem zv129 : zeroV Go.Proofs.Try.prog 129 = some (.nilf) := by kernel_rfl
@[push_cast] theorem ni129 : notInt Go.Proofs.Try.prog 129 = true := by kernel_rfl
@[push_cast] theorem el129 : elemT Go.Proofs.Try.prog 129 = none := by kernel_rfl
@[push_cast] theorem ct129 : concT Go.Proofs.Try.prog 129 = true := by kernel_rfl
@[push_cast] theorem sz130 : szT Go.Proofs.Try.prog 130 = some (1) := by kernel_rfl
@[push_cast] theorem by130 : bytesT Go.Proofs.Try.prog 130 = some (8) := by kernel_rfl
@[push_cast] theorem ag130 : aggT Go.Proofs.Try.prog 130 = some (false) := by kernel_rfl
@[push_cast] theorem zt130 : zeroT Go.Proofs.Try.prog 130 = some ([.nilm]) := by kernel_rfl
@[push_cast] theorem zv130 : zeroV Go.Proofs.Try.prog 130 = some (.nilm) := by kernel_rfl
@[push_cast] theorem u130 : Program.underlying Go.Proofs.Try.prog 130 = some (.map 9 4) := by kernel_rfl
@[push_cast] theorem ni130 : notInt Go.Proofs.Try.prog 130 = true := by kernel_rfl
@[push_cast] theorem el130 : elemT Go.Proofs.Try.prog 130 = none := by kernel_rfl
@[push_cast] theorem mt130 : mapT Go.Proofs.Try.prog 130 = some ((9, 4)) := by kernel_rfl
@[push_cast] theorem ct130 : concT Go.Proofs.Try.prog 130 = true := by kernel_rfl
@[push_cast] theorem sz131 : szT Go.Proofs.Try.prog 131 = some (1) := by kernel_rfl
@[push_cast] theorem by131 : bytesT Go.Proofs.Try.prog 131 = some (8) := by kernel_rfl
@[push_cast] theorem ag131 : aggT Go.Proofs.Try.prog 131 = some (false) := by kernel_rfl
@[push_cast] theorem zt131 : zeroT Go.Proofs.Try.prog 131 = some ([.nilf]) := by kernel_rfl
@[push_cast] theorem zv131 : zeroV Go.Proofs.Try.prog 131 = some (.nilf) := by kernel_rfl
@[push_cast] theorem ni131 : notInt Go.Proofs.Try.prog 131 = true := by kernel_rfl
@[push_cast] theorem el131 : elemT Go.Proofs.Try.prog 131 = none := by kernel_rfl
@[push_cast] theorem ct131 : concT Go.Proofs.Try.prog 131 = true := by kernel_rfl
@[push_cast] theorem sz132 : szT Go.Proofs.Try.prog 132 = some (1) := by kernel_rfl
@[push_cast] theorem by132 : bytesT Go.Proofs.Try.prog 132 = some (8) := by kernel_rfl
@[push_cast] theorem ag132 : aggT Go.Proofs.Try.prog 132 = some (false) := by kernel_rfl
@[push_cast] theorem zt132 : zeroT Go.Proofs.Try.prog 132 = some ([.nilm]) := by kernel_rfl
@[push_cast] theorem zv132 : zeroV Go.Proofs.Try.prog 132 = some (.nilm) := by kernel_rfl
@[push_cast] theorem u132 : Program.underlying Go.Proofs.Try.prog 132 = some (.map 9 3) := by kernel_rfl
@[push_cast] theorem ni132 : notInt Go.Proofs.Try.prog 132 = true := by kernel_rfl
@[push_cast] theorem el132 : elemT Go.Proofs.Try.prog 132 = none := by kernel_rfl
@[push_cast] theorem mt132 : mapT Go.Proofs.Try.prog 132 = some ((9, 3)) := by kernel_rfl
@[push_cast] theorem ct132 : concT Go.Proofs.Try.prog 132 = true := by kernel_rfl
@[push_cast] theorem sz133 : szT Go.Proofs.Try.prog 133 = some (2) := by kernel_rfl
@[push_cast] theorem by133 : bytesT Go.Proofs.Try.prog 133 = some (32) := by kernel_rfl
@[push_cast] theorem ag133 : aggT Go.Proofs.Try.prog 133 = some (true) := by kernel_rfl
@[push_cast] theorem zt133 : zeroT Go.Proofs.Try.prog 133 = some ([.nilm, .sl 0 [] .full]) := by kernel_rfl
@[push_cast] theorem zv133 : zeroV Go.Proofs.Try.prog 133 = some (.agg [.nilm, .sl 0 [] .full]) := by kernel_rfl
@[push_cast] theorem f133_0 : fieldT Go.Proofs.Try.prog 133 0 = some ((132, 0)) := by kernel_rfl
@[push_cast] theorem f133_1 : fieldT Go.Proofs.Try.prog 133 1 = some ((63, 1)) := by kernel_rfl
@[push_cast] theorem pl133 : placesT Go.Proofs.Try.prog 133 = some ([(0, 1), (1, 1)]) := by kernel_rfl
@[push_cast] theorem ar133 : arrT Go.Proofs.Try.prog 133 = none := by kernel_rfl
@[push_cast] theorem ni133 : notInt Go.Proofs.Try.prog 133 = true := by kernel_rfl
@[push_cast] theorem el133 : elemT Go.Proofs.Try.prog 133 = none := by kernel_rfl
@[push_cast] theorem ct133 : concT Go.Proofs.Try.prog 133 = true := by kernel_rfl
@[push_cast] theorem sz134 : szT Go.Proofs.Try.prog 134 = some (2) := by kernel_rfl
@[push_cast] theorem by134 : bytesT Go.Proofs.Try.prog 134 = some (32) := by kernel_rfl
@[push_cast] theorem ag134 : aggT Go.Proofs.Try.prog 134 = some (true) := by kernel_rfl
@[push_cast] theorem zt134 : zeroT Go.Proofs.Try.prog 134 = some ([.nilm, .sl 0 [] .full]) := by kernel_rfl
@[push_cast] theorem zv134 : zeroV Go.Proofs.Try.prog 134 = some (.agg [.nilm, .sl 0 [] .full]) := by kernel_rfl
@[push_cast] theorem f134_0 : fieldT Go.Proofs.Try.prog 134 0 = some ((132, 0)) := by kernel_rfl
@[push_cast] theorem f134_1 : fieldT Go.Proofs.Try.prog 134 1 = some ((63, 1)) := by kernel_rfl
@[push_cast] theorem pl134 : placesT Go.Proofs.Try.prog 134 = some ([(0, 1), (1, 1)]) := by kernel_rfl
@[push_cast] theorem ar134 : arrT Go.Proofs.Try.prog 134 = none := by kernel_rfl
@[push_cast] theorem ni134 : notInt Go.Proofs.Try.prog 134 = true := by kernel_rfl
@[push_cast] theorem el134 : elemT Go.Proofs.Try.prog 134 = none := by kernel_rfl
@[push_cast] theorem ct134 : concT Go.Proofs.Try.prog 134 = true := by kernel_rfl
@[push_cast] theorem sz135 : szT Go.Proofs.Try.prog 135 = some (1) := by kernel_rfl
@[push_cast] theorem by135 : bytesT Go.Proofs.Try.prog 135 = some (8) := by kernel_rfl
@[push_cast] theorem ag135 : aggT Go.Proofs.Try.prog 135 = some (false) := by kernel_rfl
@[push_cast] theorem zt135 : zeroT Go.Proofs.Try.prog 135 = some ([.nilf]) := by kernel_rfl
@[push_cast] theorem zv135 : zeroV Go.Proofs.Try.prog 135 = some (.nilf) := by kernel_rfl
@[push_cast] theorem ni135 : notInt Go.Proofs.Try.prog 135 = true := by kernel_rfl
@[push_cast] theorem el135 : elemT Go.Proofs.Try.prog 135 = none := by kernel_rfl
@[push_cast] theorem ct135 : concT Go.Proofs.Try.prog 135 = true := by kernel_rfl
@[push_cast] theorem sz136 : szT Go.Proofs.Try.prog 136 = some (1) := by kernel_rfl
@[push_cast] theorem by136 : bytesT Go.Proofs.Try.prog 136 = some (8) := by kernel_rfl
@[push_cast] theorem ag136 : aggT Go.Proofs.Try.prog 136 = some (false) := by kernel_rfl
@[push_cast] theorem zt136 : zeroT Go.Proofs.Try.prog 136 = some ([.nilf]) := by kernel_rfl
@[push_cast] theorem zv136 : zeroV Go.Proofs.Try.prog 136 = some (.nilf) := by kernel_rfl
@[push_cast] theorem ni136 : notInt Go.Proofs.Try.prog 136 = true := by kernel_rfl
@[push_cast] theorem el136 : elemT Go.Proofs.Try.prog 136 = none := by kernel_rfl
@[push_cast] theorem ct136 : concT Go.Proofs.Try.prog 136 = true := by kernel_rfl
@[push_cast] theorem sz137 : szT Go.Proofs.Try.prog 137 = some (1) := by kernel_rfl
@[push_cast] theorem by137 : bytesT Go.Proofs.Try.prog 137 = some (8) := by kernel_rfl
@[push_cast] theorem ag137 : aggT Go.Proofs.Try.prog 137 = some (false) := by kernel_rfl
@[push_cast] theorem zt137 : zeroT Go.Proofs.Try.prog 137 = some ([.nilf]) := by kernel_rfl
@[push_cast] theorem zv137 : zeroV Go.Proofs.Try.prog 137 = some (.nilf) := by kernel_rfl
@[push_cast] theorem ni137 : notInt Go.Proofs.Try.prog 137 = true := by kernel_rfl
@[push_cast] theorem el137 : elemT Go.Proofs.Try.prog 137 = none := by kernel_rfl
@[push_cast] theorem ct137 : concT Go.Proofs.Try.prog 137 = true := by kernel_rfl
@[push_cast] theorem sz138 : szT Go.Proofs.Try.prog 138 = some (1) := by kernel_rfl
@[push_cast] theorem by138 : bytesT Go.Proofs.Try.prog 138 = some (8) := by kernel_rfl
@[push_cast] theorem ag138 : aggT Go.Proofs.Try.prog 138 = some (false) := by kernel_rfl
@[push_cast] theorem zt138 : zeroT Go.Proofs.Try.prog 138 = some ([.nilf]) := by kernel_rfl
@[push_cast] theorem zv138 : zeroV Go.Proofs.Try.prog 138 = some (.nilf) := by kernel_rfl
@[push_cast] theorem ni138 : notInt Go.Proofs.Try.prog 138 = true := by kernel_rfl
@[push_cast] theorem el138 : elemT Go.Proofs.Try.prog 138 = none := by kernel_rfl
@[push_cast] theorem ct138 : concT Go.Proofs.Try.prog 138 = true := by kernel_rfl
@[push_cast] theorem sz139 : szT Go.Proofs.Try.prog 139 = some (1) := by kernel_rfl
@[push_cast] theorem by139 : bytesT Go.Proofs.Try.prog 139 = some (8) := by kernel_rfl
@[push_cast] theorem ag139 : aggT Go.Proofs.Try.prog 139 = some (false) := by kernel_rfl
@[push_cast] theorem zt139 : zeroT Go.Proofs.Try.prog 139 = some ([.int .u64 0]) := by kernel_rfl
@[push_cast] theorem zv139 : zeroV Go.Proofs.Try.prog 139 = some (.int .u64 0) := by kernel_rfl
@[push_cast] theorem u139 : Program.underlying Go.Proofs.Try.prog 139 = some (.int .u64) := by kernel_rfl
@[push_cast] theorem el139 : elemT Go.Proofs.Try.prog 139 = none := by kernel_rfl
@[push_cast] theorem kt139 : kindT Go.Proofs.Try.prog 139 = some (.int .u64) := by kernel_rfl
@[push_cast] theorem ct139 : concT Go.Proofs.Try.prog 139 = true := by kernel_rfl
@[push_cast] theorem sz140 : szT Go.Proofs.Try.prog 140 = some (1) := by kernel_rfl
@[push_cast] theorem by140 : bytesT Go.Proofs.Try.prog 140 = some (8) := by kernel_rfl
@[push_cast] theorem ag140 : aggT Go.Proofs.Try.prog 140 = some (false) := by kernel_rfl
@[push_cast] theorem zt140 : zeroT Go.Proofs.Try.prog 140 = some ([.nilf]) := by kernel_rfl
@[push_cast] theorem zv140 : zeroV Go.Proofs.Try.prog 140 = some (.nilf) := by kernel_rfl
@[push_cast] theorem ni140 : notInt Go.Proofs.Try.prog 140 = true := by kernel_rfl
@[push_cast] theorem el140 : elemT Go.Proofs.Try.prog 140 = none := by kernel_rfl
@[push_cast] theorem ct140 : concT Go.Proofs.Try.prog 140 = true := by kernel_rfl
@[push_cast] theorem sz141 : szT Go.Proofs.Try.prog 141 = some (1) := by kernel_rfl
@[push_cast] theorem by141 : bytesT Go.Proofs.Try.prog 141 = some (8) := by kernel_rfl
@[push_cast] theorem ag141 : aggT Go.Proofs.Try.prog 141 = some (false) := by kernel_rfl
@[push_cast] theorem zt141 : zeroT Go.Proofs.Try.prog 141 = some ([.nilf]) := by kernel_rfl
@[push_cast] theorem zv141 : zeroV Go.Proofs.Try.prog 141 = some (.nilf) := by kernel_rfl
@[push_cast] theorem ni141 : notInt Go.Proofs.Try.prog 141 = true := by kernel_rfl
@[push_cast] theorem el141 : elemT Go.Proofs.Try.prog 141 = none := by kernel_rfl
@[push_cast] theorem ct141 : concT Go.Proofs.Try.prog 141 = true := by kernel_rfl
@[push_cast] theorem sz142 : szT Go.Proofs.Try.prog 142 = some (1) := by kernel_rfl
@[push_cast] theorem by142 : bytesT Go.Proofs.Try.prog 142 = some (8) := by kernel_rfl
@[push_cast] theorem ag142 : aggT Go.Proofs.Try.prog 142 = some (false) := by kernel_rfl
@[push_cast] theorem zt142 : zeroT Go.Proofs.Try.prog 142 = some ([.nilf]) := by kernel_rfl
@[push_cast] theorem zv142 : zeroV Go.Proofs.Try.prog 142 = some (.nilf) := by kernel_rfl
@[push_cast] theorem ni142 : notInt Go.Proofs.Try.prog 142 = true := by kernel_rfl
@[push_cast] theorem el142 : elemT Go.Proofs.Try.prog 142 = none := by kernel_rfl
@[push_cast] theorem ct142 : concT Go.Proofs.Try.prog 142 = true := by kernel_rfl
@[push_cast] theorem sz143 : szT Go.Proofs.Try.prog 143 = some (1) := by kernel_rfl
@[push_cast] theorem by143 : bytesT Go.Proofs.Try.prog 143 = some (8) := by kernel_rfl
@[push_cast] theorem ag143 : aggT Go.Proofs.Try.prog 143 = some (false) := by kernel_rfl
@[push_cast] theorem zt143 : zeroT Go.Proofs.Try.prog 143 = some ([.nilf]) := by kernel_rfl
@[push_cast] theorem zv143 : zeroV Go.Proofs.Try.prog 143 = some (.nilf) := by kernel_rfl
@[push_cast] theorem ni143 : notInt Go.Proofs.Try.prog 143 = true := by kernel_rfl
@[push_cast] theorem el143 : elemT Go.Proofs.Try.prog 143 = none := by kernel_rfl
@[push_cast] theorem ct143 : concT Go.Proofs.Try.prog 143 = true := by kernel_rfl
@[push_cast] theorem sz144 : szT Go.Proofs.Try.prog 144 = some (1) := by kernel_rfl
@[push_cast] theorem by144 : bytesT Go.Proofs.Try.prog 144 = some (8) := by kernel_rfl
@[push_cast] theorem ag144 : aggT Go.Proofs.Try.prog 144 = some (false) := by kernel_rfl
@[push_cast] theorem zt144 : zeroT Go.Proofs.Try.prog 144 = some ([.nilf]) := by kernel_rfl
@[push_cast] theorem zv144 : zeroV Go.Proofs.Try.prog 144 = some (.nilf) := by kernel_rfl
@[push_cast] theorem ni144 : notInt Go.Proofs.Try.prog 144 = true := by kernel_rfl
@[push_cast] theorem el144 : elemT Go.Proofs.Try.prog 144 = none := by kernel_rfl
@[push_cast] theorem ct144 : concT Go.Proofs.Try.prog 144 = true := by kernel_rfl
@[push_cast] theorem sz145 : szT Go.Proofs.Try.prog 145 = some (1) := by kernel_rfl
@[push_cast] theorem by145 : bytesT Go.Proofs.Try.prog 145 = some (8) := by kernel_rfl
@[push_cast] theorem ag145 : aggT Go.Proofs.Try.prog 145 = some (false) := by kernel_rfl
@[push_cast] theorem zt145 : zeroT Go.Proofs.Try.prog 145 = some ([.nilf]) := by kernel_rfl
@[push_cast] theorem zv145 : zeroV Go.Proofs.Try.prog 145 = some (.nilf) := by kernel_rfl
@[push_cast] theorem ni145 : notInt Go.Proofs.Try.prog 145 = true := by kernel_rfl
@[push_cast] theorem el145 : elemT Go.Proofs.Try.prog 145 = none := by kernel_rfl
@[push_cast] theorem ct145 : concT Go.Proofs.Try.prog 145 = true := by kernel_rfl
@[push_cast] theorem sz146 : szT Go.Proofs.Try.prog 146 = some (1) := by kernel_rfl
@[push_cast] theorem by146 : bytesT Go.Proofs.Try.prog 146 = some (8) := by kernel_rfl
@[push_cast] theorem ag146 : aggT Go.Proofs.Try.prog 146 = some (false) := by kernel_rfl
@[push_cast] theorem zt146 : zeroT Go.Proofs.Try.prog 146 = some ([.nilf]) := by kernel_rfl
@[push_cast] theorem zv146 : zeroV Go.Proofs.Try.prog 146 = some (.nilf) := by kernel_rfl
@[push_cast] theorem ni146 : notInt Go.Proofs.Try.prog 146 = true := by kernel_rfl
@[push_cast] theorem el146 : elemT Go.Proofs.Try.prog 146 = none := by kernel_rfl
@[push_cast] theorem ct146 : concT Go.Proofs.Try.prog 146 = true := by kernel_rfl
@[push_cast] theorem sz147 : szT Go.Proofs.Try.prog 147 = some (1) := by kernel_rfl
@[push_cast] theorem by147 : bytesT Go.Proofs.Try.prog 147 = some (8) := by kernel_rfl
@[push_cast] theorem ag147 : aggT Go.Proofs.Try.prog 147 = some (false) := by kernel_rfl
@[push_cast] theorem zt147 : zeroT Go.Proofs.Try.prog 147 = some ([.nilf]) := by kernel_rfl
@[push_cast] theorem zv147 : zeroV Go.Proofs.Try.prog 147 = some (.nilf) := by kernel_rfl
@[push_cast] theorem ni147 : notInt Go.Proofs.Try.prog 147 = true := by kernel_rfl
@[push_cast] theorem el147 : elemT Go.Proofs.Try.prog 147 = none := by kernel_rfl
@[push_cast] theorem ct147 : concT Go.Proofs.Try.prog 147 = true := by kernel_rfl
@[push_cast] theorem sz148 : szT Go.Proofs.Try.prog 148 = some (1) := by kernel_rfl
@[push_cast] theorem by148 : bytesT Go.Proofs.Try.prog 148 = some (8) := by kernel_rfl
@[push_cast] theorem ag148 : aggT Go.Proofs.Try.prog 148 = some (false) := by kernel_rfl
@[push_cast] theorem zt148 : zeroT Go.Proofs.Try.prog 148 = some ([.nilf]) := by kernel_rfl
@[push_cast] theorem zv148 : zeroV Go.Proofs.Try.prog 148 = some (.nilf) := by kernel_rfl
@[push_cast] theorem ni148 : notInt Go.Proofs.Try.prog 148 = true := by kernel_rfl
@[push_cast] theorem el148 : elemT Go.Proofs.Try.prog 148 = none := by kernel_rfl
@[push_cast] theorem ct148 : concT Go.Proofs.Try.prog 148 = true := by kernel_rfl
@[push_cast] theorem sz149 : szT Go.Proofs.Try.prog 149 = some (1) := by kernel_rfl
@[push_cast] theorem by149 : bytesT Go.Proofs.Try.prog 149 = some (8) := by kernel_rfl
@[push_cast] theorem ag149 : aggT Go.Proofs.Try.prog 149 = some (false) := by kernel_rfl
@[push_cast] theorem zt149 : zeroT Go.Proofs.Try.prog 149 = some ([.nilf]) := by kernel_rfl
@[push_cast] theorem zv149 : zeroV Go.Proofs.Try.prog 149 = some (.nilf) := by kernel_rfl
@[push_cast] theorem ni149 : notInt Go.Proofs.Try.prog 149 = true := by kernel_rfl
@[push_cast] theorem el149 : elemT Go.Proofs.Try.prog 149 = none := by kernel_rfl
@[push_cast] theorem ct149 : concT Go.Proofs.Try.prog 149 = true := by kernel_rfl
@[push_cast] theorem sz150 : szT Go.Proofs.Try.prog 150 = some (1) := by kernel_rfl
@[push_cast] theorem by150 : bytesT Go.Proofs.Try.prog 150 = some (8) := by kernel_rfl
@[push_cast] theorem ag150 : aggT Go.Proofs.Try.prog 150 = some (false) := by kernel_rfl
@[push_cast] theorem zt150 : zeroT Go.Proofs.Try.prog 150 = some ([.nilf]) := by kernel_rfl
@[push_cast] theorem zv150 : zeroV Go.Proofs.Try.prog 150 = some (.nilf) := by kernel_rfl
@[push_cast] theorem ni150 : notInt Go.Proofs.Try.prog 150 = true := by kernel_rfl
@[push_cast] theorem el150 : elemT Go.Proofs.Try.prog 150 = none := by kernel_rfl
@[push_cast] theorem ct150 : concT Go.Proofs.Try.prog 150 = true := by kernel_rfl
@[push_cast] theorem sz151 : szT Go.Proofs.Try.prog 151 = some (1) := by kernel_rfl
@[push_cast] theorem by151 : bytesT Go.Proofs.Try.prog 151 = some (8) := by kernel_rfl
@[push_cast] theorem ag151 : aggT Go.Proofs.Try.prog 151 = some (false) := by kernel_rfl
@[push_cast] theorem zt151 : zeroT Go.Proofs.Try.prog 151 = some ([.nilf]) := by kernel_rfl
@[push_cast] theorem zv151 : zeroV Go.Proofs.Try.prog 151 = some (.nilf) := by kernel_rfl
@[push_cast] theorem ni151 : notInt Go.Proofs.Try.prog 151 = true := by kernel_rfl
@[push_cast] theorem el151 : elemT Go.Proofs.Try.prog 151 = none := by kernel_rfl
@[push_cast] theorem ct151 : concT Go.Proofs.Try.prog 151 = true := by kernel_rfl
@[push_cast] theorem sz152 : szT Go.Proofs.Try.prog 152 = some (1) := by kernel_rfl
@[push_cast] theorem by152 : bytesT Go.Proofs.Try.prog 152 = some (8) := by kernel_rfl
@[push_cast] theorem ag152 : aggT Go.Proofs.Try.prog 152 = some (false) := by kernel_rfl
@[push_cast] theorem zt152 : zeroT Go.Proofs.Try.prog 152 = some ([.nilf]) := by kernel_rfl
@[push_cast] theorem zv152 : zeroV Go.Proofs.Try.prog 152 = some (.nilf) := by kernel_rfl
@[push_cast] theorem ni152 : notInt Go.Proofs.Try.prog 152 = true := by kernel_rfl
@[push_cast] theorem el152 : elemT Go.Proofs.Try.prog 152 = none := by kernel_rfl
@[push_cast] theorem ct152 : concT Go.Proofs.Try.prog 152 = true := by kernel_rfl
@[push_cast] theorem sz153 : szT Go.Proofs.Try.prog 153 = some (1) := by kernel_rfl
@[push_cast] theorem by153 : bytesT Go.Proofs.Try.prog 153 = some (8) := by kernel_rfl
@[push_cast] theorem ag153 : aggT Go.Proofs.Try.prog 153 = some (false) := by kernel_rfl
@[push_cast] theorem zt153 : zeroT Go.Proofs.Try.prog 153 = some ([.nilf]) := by kernel_rfl
@[push_cast] theorem zv153 : zeroV Go.Proofs.Try.prog 153 = some (.nilf) := by kernel_rfl
@[push_cast] theorem ni153 : notInt Go.Proofs.Try.prog 153 = true := by kernel_rfl
@[push_cast] theorem el153 : elemT Go.Proofs.Try.prog 153 = none := by kernel_rfl
@[push_cast] theorem ct153 : concT Go.Proofs.Try.prog 153 = true := by kernel_rfl
@[push_cast] theorem sz154 : szT Go.Proofs.Try.prog 154 = some (1) := by kernel_rfl
@[push_cast] theorem by154 : bytesT Go.Proofs.Try.prog 154 = some (8) := by kernel_rfl
@[push_cast] theorem ag154 : aggT Go.Proofs.Try.prog 154 = some (false) := by kernel_rfl
@[push_cast] theorem zt154 : zeroT Go.Proofs.Try.prog 154 = some ([.nilf]) := by kernel_rfl
@[push_cast] theorem zv154 : zeroV Go.Proofs.Try.prog 154 = some (.nilf) := by kernel_rfl
@[push_cast] theorem ni154 : notInt Go.Proofs.Try.prog 154 = true := by kernel_rfl
@[push_cast] theorem el154 : elemT Go.Proofs.Try.prog 154 = none := by kernel_rfl
@[push_cast] theorem ct154 : concT Go.Proofs.Try.prog 154 = true := by kernel_rfl
@[push_cast] theorem sz155 : szT Go.Proofs.Try.prog 155 = some (1) := by kernel_rfl
@[push_cast] theorem by155 : bytesT Go.Proofs.Try.prog 155 = some (8) := by kernel_rfl
@[push_cast] theorem ag155 : aggT Go.Proofs.Try.prog 155 = some (false) := by kernel_rfl
@[push_cast] theorem zt155 : zeroT Go.Proofs.Try.prog 155 = some ([.nilf]) := by kernel_rfl
@[push_cast] theorem zv155 : zeroV Go.Proofs.Try.prog 155 = some (.nilf) := by kernel_rfl
@[push_cast] theorem ni155 : notInt Go.Proofs.Try.prog 155 = true := by kernel_rfl
@[push_cast] theorem el155 : elemT Go.Proofs.Try.prog 155 = none := by kernel_rfl
@[push_cast] theorem ct155 : concT Go.Proofs.Try.prog 155 = true := by kernel_rfl
@[push_cast] theorem sz156 : szT Go.Proofs.Try.prog 156 = some (1) := by kernel_rfl
@[push_cast] theorem by156 : bytesT Go.Proofs.Try.prog 156 = some (8) := by kernel_rfl
@[push_cast] theorem ag156 : aggT Go.Proofs.Try.prog 156 = some (false) := by kernel_rfl
@[push_cast] theorem zt156 : zeroT Go.Proofs.Try.prog 156 = some ([.nilf]) := by kernel_rfl
@[push_cast] theorem zv156 : zeroV Go.Proofs.Try.prog 156 = some (.nilf) := by kernel_rfl
@[push_cast] theorem ni156 : notInt Go.Proofs.Try.prog 156 = true := by kernel_rfl
@[push_cast] theorem el156 : elemT Go.Proofs.Try.prog 156 = none := by kernel_rfl
@[push_cast] theorem ct156 : concT Go.Proofs.Try.prog 156 = true := by kernel_rfl
@[push_cast] theorem sz157 : szT Go.Proofs.Try.prog 157 = some (1) := by kernel_rfl
@[push_cast] theorem by157 : bytesT Go.Proofs.Try.prog 157 = some (8) := by kernel_rfl
@[push_cast] theorem ag157 : aggT Go.Proofs.Try.prog 157 = some (false) := by kernel_rfl
@[push_cast] theorem zt157 : zeroT Go.Proofs.Try.prog 157 = some ([.nilf]) := by kernel_rfl
@[push_cast] theorem zv157 : zeroV Go.Proofs.Try.prog 157 = some (.nilf) := by kernel_rfl
@[push_cast] theorem ni157 : notInt Go.Proofs.Try.prog 157 = true := by kernel_rfl
@[push_cast] theorem el157 : elemT Go.Proofs.Try.prog 157 = none := by kernel_rfl
@[push_cast] theorem ct157 : concT Go.Proofs.Try.prog 157 = true := by kernel_rfl
@[push_cast] theorem sz158 : szT Go.Proofs.Try.prog 158 = some (4) := by kernel_rfl
@[push_cast] theorem by158 : bytesT Go.Proofs.Try.prog 158 = some (40) := by kernel_rfl
@[push_cast] theorem ag158 : aggT Go.Proofs.Try.prog 158 = some (true) := by kernel_rfl
@[push_cast] theorem zt158 : zeroT Go.Proofs.Try.prog 158 = some ([.nilp, .nilp, .nilp, .str ByteArray.empty]) := by kernel_rfl
@[push_cast] theorem zv158 : zeroV Go.Proofs.Try.prog 158 = some (.agg [.nilp, .nilp, .nilp, .str ByteArray.empty]) := by kernel_rfl
@[push_cast] theorem f158_0 : fieldT Go.Proofs.Try.prog 158 0 = some ((17, 0)) := by kernel_rfl
@[push_cast] theorem f158_1 : fieldT Go.Proofs.Try.prog 158 1 = some ((17, 1)) := by kernel_rfl
@[push_cast] theorem f158_2 : fieldT Go.Proofs.Try.prog 158 2 = some ((17, 2)) := by kernel_rfl
@[push_cast] theorem f158_3 : fieldT Go.Proofs.Try.prog 158 3 = some ((9, 3)) := by kernel_rfl
@[push_cast] theorem pl158 : placesT Go.Proofs.Try.prog 158 = some ([(0, 1), (1, 1), (2, 1), (3, 1)]) := by kernel_rfl
@[push_cast] theorem ar158 : arrT Go.Proofs.Try.prog 158 = none := by kernel_rfl
@[push_cast] theorem ni158 : notInt Go.Proofs.Try.prog 158 = true := by kernel_rfl
@[push_cast] theorem el158 : elemT Go.Proofs.Try.prog 158 = none := by kernel_rfl
@[push_cast] theorem ct158 : concT Go.Proofs.Try.prog 158 = true := by kernel_rfl
@[push_cast] theorem sz159 : szT Go.Proofs.Try.prog 159 = some (4) := by kernel_rfl
@[push_cast] theorem by159 : bytesT Go.Proofs.Try.prog 159 = some (40) := by kernel_rfl
@[push_cast] theorem ag159 : aggT Go.Proofs.Try.prog 159 = some (true) := by kernel_rfl
@[push_cast] theorem zt159 : zeroT Go.Proofs.Try.prog 159 = some ([.nilp, .nilp, .nilp, .str ByteArray.empty]) := by kernel_rfl
@[push_cast] theorem zv159 : zeroV Go.Proofs.Try.prog 159 = some (.agg [.nilp, .nilp, .nilp, .str ByteArray.empty]) := by kernel_rfl
@[push_cast] theorem f159_0 : fieldT Go.Proofs.Try.prog 159 0 = some ((17, 0)) := by kernel_rfl
@[push_cast] theorem f159_1 : fieldT Go.Proofs.Try.prog 159 1 = some ((17, 1)) := by kernel_rfl
@[push_cast] theorem f159_2 : fieldT Go.Proofs.Try.prog 159 2 = some ((17, 2)) := by kernel_rfl
@[push_cast] theorem f159_3 : fieldT Go.Proofs.Try.prog 159 3 = some ((9, 3)) := by kernel_rfl
@[push_cast] theorem pl159 : placesT Go.Proofs.Try.prog 159 = some ([(0, 1), (1, 1), (2, 1), (3, 1)]) := by kernel_rfl
@[push_cast] theorem ar159 : arrT Go.Proofs.Try.prog 159 = none := by kernel_rfl
@[push_cast] theorem ni159 : notInt Go.Proofs.Try.prog 159 = true := by kernel_rfl
@[push_cast] theorem el159 : elemT Go.Proofs.Try.prog 159 = none := by kernel_rfl
@[push_cast] theorem ct159 : concT Go.Proofs.Try.prog 159 = true := by kernel_rfl
@[push_cast] theorem sz160 : szT Go.Proofs.Try.prog 160 = some (0) := by kernel_rfl
@[push_cast] theorem by160 : bytesT Go.Proofs.Try.prog 160 = some (0) := by kernel_rfl
@[push_cast] theorem ag160 : aggT Go.Proofs.Try.prog 160 = some (true) := by kernel_rfl
@[push_cast] theorem zt160 : zeroT Go.Proofs.Try.prog 160 = some ([]) := by kernel_rfl
@[push_cast] theorem zv160 : zeroV Go.Proofs.Try.prog 160 = some (.agg []) := by kernel_rfl
@[push_cast] theorem u160 : Program.underlying Go.Proofs.Try.prog 160 = some (.array 0 16) := by kernel_rfl
@[push_cast] theorem ni160 : notInt Go.Proofs.Try.prog 160 = true := by kernel_rfl
@[push_cast] theorem el160 : elemT Go.Proofs.Try.prog 160 = none := by kernel_rfl
@[push_cast] theorem ar160 : arrT Go.Proofs.Try.prog 160 = some ((0, 16)) := by kernel_rfl
@[push_cast] theorem ct160 : concT Go.Proofs.Try.prog 160 = true := by kernel_rfl
@[push_cast] theorem sz161 : szT Go.Proofs.Try.prog 161 = some (0) := by kernel_rfl
@[push_cast] theorem by161 : bytesT Go.Proofs.Try.prog 161 = some (0) := by kernel_rfl
@[push_cast] theorem ag161 : aggT Go.Proofs.Try.prog 161 = some (true) := by kernel_rfl
@[push_cast] theorem zt161 : zeroT Go.Proofs.Try.prog 161 = some ([]) := by kernel_rfl
@[push_cast] theorem zv161 : zeroV Go.Proofs.Try.prog 161 = some (.agg []) := by kernel_rfl
@[push_cast] theorem f161_0 : fieldT Go.Proofs.Try.prog 161 0 = some ((160, 0)) := by kernel_rfl
@[push_cast] theorem pl161 : placesT Go.Proofs.Try.prog 161 = some ([(0, 0)]) := by kernel_rfl
@[push_cast] theorem ar161 : arrT Go.Proofs.Try.prog 161 = none := by kernel_rfl
@[push_cast] theorem ni161 : notInt Go.Proofs.Try.prog 161 = true := by kernel_rfl
@[push_cast] theorem el161 : elemT Go.Proofs.Try.prog 161 = none := by kernel_rfl
@[push_cast] theorem ct161 : concT Go.Proofs.Try.prog 161 = true := by kernel_rfl
@[push_cast] theorem sz162 : szT Go.Proofs.Try.prog 162 = some (0) := by kernel_rfl
@[push_cast] theorem by162 : bytesT Go.Proofs.Try.prog 162 = some (0) := by kernel_rfl
@[push_cast] theorem ag162 : aggT Go.Proofs.Try.prog 162 = some (true) := by kernel_rfl
@[push_cast] theorem zt162 : zeroT Go.Proofs.Try.prog 162 = some ([]) := by kernel_rfl
@[push_cast] theorem zv162 : zeroV Go.Proofs.Try.prog 162 = some (.agg []) := by kernel_rfl
@[push_cast] theorem f162_0 : fieldT Go.Proofs.Try.prog 162 0 = some ((160, 0)) := by kernel_rfl
@[push_cast] theorem pl162 : placesT Go.Proofs.Try.prog 162 = some ([(0, 0)]) := by kernel_rfl
@[push_cast] theorem ar162 : arrT Go.Proofs.Try.prog 162 = none := by kernel_rfl
@[push_cast] theorem ni162 : notInt Go.Proofs.Try.prog 162 = true := by kernel_rfl
@[push_cast] theorem el162 : elemT Go.Proofs.Try.prog 162 = none := by kernel_rfl
@[push_cast] theorem ct162 : concT Go.Proofs.Try.prog 162 = true := by kernel_rfl
@[push_cast] theorem sz163 : szT Go.Proofs.Try.prog 163 = some (1) := by kernel_rfl
@[push_cast] theorem by163 : bytesT Go.Proofs.Try.prog 163 = some (4) := by kernel_rfl
@[push_cast] theorem ag163 : aggT Go.Proofs.Try.prog 163 = some (false) := by kernel_rfl
@[push_cast] theorem zt163 : zeroT Go.Proofs.Try.prog 163 = some ([.int .u32 0]) := by kernel_rfl
@[push_cast] theorem zv163 : zeroV Go.Proofs.Try.prog 163 = some (.int .u32 0) := by kernel_rfl
@[push_cast] theorem u163 : Program.underlying Go.Proofs.Try.prog 163 = some (.int .u32) := by kernel_rfl
@[push_cast] theorem el163 : elemT Go.Proofs.Try.prog 163 = none := by kernel_rfl
@[push_cast] theorem kt163 : kindT Go.Proofs.Try.prog 163 = some (.int .u32) := by kernel_rfl
@[push_cast] theorem ct163 : concT Go.Proofs.Try.prog 163 = true := by kernel_rfl
@[push_cast] theorem sz164 : szT Go.Proofs.Try.prog 164 = some (1) := by kernel_rfl
@[push_cast] theorem by164 : bytesT Go.Proofs.Try.prog 164 = some (1) := by kernel_rfl
@[push_cast] theorem ag164 : aggT Go.Proofs.Try.prog 164 = some (false) := by kernel_rfl
@[push_cast] theorem zt164 : zeroT Go.Proofs.Try.prog 164 = some ([.int .u8 0]) := by kernel_rfl
@[push_cast] theorem zv164 : zeroV Go.Proofs.Try.prog 164 = some (.int .u8 0) := by kernel_rfl
@[push_cast] theorem u164 : Program.underlying Go.Proofs.Try.prog 164 = some (.int .u8) := by kernel_rfl
@[push_cast] theorem el164 : elemT Go.Proofs.Try.prog 164 = none := by kernel_rfl
@[push_cast] theorem kt164 : kindT Go.Proofs.Try.prog 164 = some (.int .u8) := by kernel_rfl
@[push_cast] theorem ct164 : concT Go.Proofs.Try.prog 164 = true := by kernel_rfl
@[push_cast] theorem sz165 : szT Go.Proofs.Try.prog 165 = some (1) := by kernel_rfl
@[push_cast] theorem by165 : bytesT Go.Proofs.Try.prog 165 = some (1) := by kernel_rfl
@[push_cast] theorem ag165 : aggT Go.Proofs.Try.prog 165 = some (false) := by kernel_rfl
@[push_cast] theorem zt165 : zeroT Go.Proofs.Try.prog 165 = some ([.int .u8 0]) := by kernel_rfl
@[push_cast] theorem zv165 : zeroV Go.Proofs.Try.prog 165 = some (.int .u8 0) := by kernel_rfl
@[push_cast] theorem u165 : Program.underlying Go.Proofs.Try.prog 165 = some (.int .u8) := by kernel_rfl
@[push_cast] theorem el165 : elemT Go.Proofs.Try.prog 165 = none := by kernel_rfl
@[push_cast] theorem kt165 : kindT Go.Proofs.Try.prog 165 = some (.int .u8) := by kernel_rfl
@[push_cast] theorem ct165 : concT Go.Proofs.Try.prog 165 = true := by kernel_rfl
@[push_cast] theorem sz166 : szT Go.Proofs.Try.prog 166 = some (1) := by kernel_rfl
@[push_cast] theorem by166 : bytesT Go.Proofs.Try.prog 166 = some (8) := by kernel_rfl
@[push_cast] theorem ag166 : aggT Go.Proofs.Try.prog 166 = some (false) := by kernel_rfl
@[push_cast] theorem zt166 : zeroT Go.Proofs.Try.prog 166 = some ([.nilf]) := by kernel_rfl
@[push_cast] theorem zv166 : zeroV Go.Proofs.Try.prog 166 = some (.nilf) := by kernel_rfl
@[push_cast] theorem ni166 : notInt Go.Proofs.Try.prog 166 = true := by kernel_rfl
@[push_cast] theorem el166 : elemT Go.Proofs.Try.prog 166 = none := by kernel_rfl
@[push_cast] theorem ct166 : concT Go.Proofs.Try.prog 166 = true := by kernel_rfl
@[push_cast] theorem sz167 : szT Go.Proofs.Try.prog 167 = some (1) := by kernel_rfl
@[push_cast] theorem by167 : bytesT Go.Proofs.Try.prog 167 = some (8) := by kernel_rfl
@[push_cast] theorem ag167 : aggT Go.Proofs.Try.prog 167 = some (false) := by kernel_rfl
@[push_cast] theorem zt167 : zeroT Go.Proofs.Try.prog 167 = some ([.nilp]) := by kernel_rfl
@[push_cast] theorem zv167 : zeroV Go.Proofs.Try.prog 167 = some (.nilp) := by kernel_rfl
@[push_cast] theorem u167 : Program.underlying Go.Proofs.Try.prog 167 = some (.pointer 5) := by kernel_rfl
@[push_cast] theorem ni167 : notInt Go.Proofs.Try.prog 167 = true := by kernel_rfl
@[push_cast] theorem el167 : elemT Go.Proofs.Try.prog 167 = none := by kernel_rfl
@[push_cast] theorem ct167 : concT Go.Proofs.Try.prog 167 = true := by kernel_rfl
@[push_cast] theorem sz168 : szT Go.Proofs.Try.prog 168 = some (1) := by kernel_rfl
@[push_cast] theorem by168 : bytesT Go.Proofs.Try.prog 168 = some (4) := by kernel_rfl
@[push_cast] theorem ag168 : aggT Go.Proofs.Try.prog 168 = some (false) := by kernel_rfl
@[push_cast] theorem zt168 : zeroT Go.Proofs.Try.prog 168 = some ([.int .i32 0]) := by kernel_rfl
@[push_cast] theorem zv168 : zeroV Go.Proofs.Try.prog 168 = some (.int .i32 0) := by kernel_rfl
@[push_cast] theorem u168 : Program.underlying Go.Proofs.Try.prog 168 = some (.int .i32) := by kernel_rfl
@[push_cast] theorem el168 : elemT Go.Proofs.Try.prog 168 = none := by kernel_rfl
@[push_cast] theorem kt168 : kindT Go.Proofs.Try.prog 168 = some (.int .i32) := by kernel_rfl
@[push_cast] theorem ct168 : concT Go.Proofs.Try.prog 168 = true := by kernel_rfl
@[push_cast] theorem sz169 : szT Go.Proofs.Try.prog 169 = some (1) := by kernel_rfl
@[push_cast] theorem by169 : bytesT Go.Proofs.Try.prog 169 = some (4) := by kernel_rfl
@[push_cast] theorem ag169 : aggT Go.Proofs.Try.prog 169 = some (false) := by kernel_rfl
@[push_cast] theorem zt169 : zeroT Go.Proofs.Try.prog 169 = some ([.int .i32 0]) := by kernel_rfl
@[push_cast] theorem zv169 : zeroV Go.Proofs.Try.prog 169 = some (.int .i32 0) := by kernel_rfl
@[push_cast] theorem u169 : Program.underlying Go.Proofs.Try.prog 169 = some (.int .i32) := by kernel_rfl
@[push_cast] theorem el169 : elemT Go.Proofs.Try.prog 169 = none := by kernel_rfl
@[push_cast] theorem kt169 : kindT Go.Proofs.Try.prog 169 = some (.int .i32) := by kernel_rfl
@[push_cast] theorem ct169 : concT Go.Proofs.Try.prog 169 = true := by kernel_rfl
@[push_cast] theorem sz170 : szT Go.Proofs.Try.prog 170 = some (11) := by kernel_rfl
@[push_cast] theorem by170 : bytesT Go.Proofs.Try.prog 170 = some (48) := by kernel_rfl
@[push_cast] theorem ag170 : aggT Go.Proofs.Try.prog 170 = some (true) := by kernel_rfl
@[push_cast] theorem zt170 : zeroT Go.Proofs.Try.prog 170 = some ([.int .u64 0, .int .u64 0, .int .u32 0, .int .u8 0, .int .u8 0, .int .u8 0, .int .u8 0, .nilf, .nilp, .int .i32 0, .int .i32 0]) := by kernel_rfl
@[push_cast] theorem zv170 : zeroV Go.Proofs.Try.prog 170 = some (.agg [.int .u64 0, .int .u64 0, .int .u32 0, .int .u8 0, .int .u8 0, .int .u8 0, .int .u8 0, .nilf, .nilp, .int .i32 0, .int .i32 0]) := by kernel_rfl
@[push_cast] theorem f170_0 : fieldT Go.Proofs.Try.prog 170 0 = some ((12, 0)) := by kernel_rfl
@[push_cast] theorem f170_1 : fieldT Go.Proofs.Try.prog 170 1 = some ((12, 1)) := by kernel_rfl
@[push_cast] theorem f170_2 : fieldT Go.Proofs.Try.prog 170 2 = some ((163, 2)) := by kernel_rfl
@[push_cast] theorem f170_3 : fieldT Go.Proofs.Try.prog 170 3 = some ((164, 3)) := by kernel_rfl
@[push_cast] theorem f170_4 : fieldT Go.Proofs.Try.prog 170 4 = some ((5, 4)) := by kernel_rfl
@[push_cast] theorem f170_5 : fieldT Go.Proofs.Try.prog 170 5 = some ((5, 5)) := by kernel_rfl
@[push_cast] theorem f170_6 : fieldT Go.Proofs.Try.prog 170 6 = some ((165, 6)) := by kernel_rfl
@[push_cast] theorem f170_7 : fieldT Go.Proofs.Try.prog 170 7 = some ((166, 7)) := by kernel_rfl
@[push_cast] theorem f170_8 : fieldT Go.Proofs.Try.prog 170 8 = some ((167, 8)) := by kernel_rfl
@[push_cast] theorem f170_9 : fieldT Go.Proofs.Try.prog 170 9 = some ((168, 9)) := by kernel_rfl
@[push_cast] theorem f170_10 : fieldT Go.Proofs.Try.prog 170 10 = some ((169, 10)) := by kernel_rfl
@[push_cast] theorem pl170 : placesT Go.Proofs.Try.prog 170 = some ([(0, 1), (1, 1), (2, 1), (3, 1), (4, 1), (5, 1), (6, 1), (7, 1), (8, 1), (9, 1), (10, 1)]) := by kernel_rfl
@[push_cast] theorem ar170 : arrT Go.Proofs.Try.prog 170 = none := by kernel_rfl
@[push_cast] theorem ni170 : notInt Go.Proofs.Try.prog 170 = true := by kernel_rfl
@[push_cast] theorem el170 : elemT Go.Proofs.Try.prog 170 = none := by kernel_rfl
@[push_cast] theorem ct170 : concT Go.Proofs.Try.prog 170 = true := by kernel_rfl
@[push_cast] theorem sz171 : szT Go.Proofs.Try.prog 171 = some (11) := by kernel_rfl
@[push_cast] theorem by171 : bytesT Go.Proofs.Try.prog 171 = some (48) := by kernel_rfl
@[push_cast] theorem ag171 : aggT Go.Proofs.Try.prog 171 = some (true) := by kernel_rfl
@[push_cast] theorem zt171 : zeroT Go.Proofs.Try.prog 171 = some ([.int .u64 0, .int .u64 0, .int .u32 0, .int .u8 0, .int .u8 0, .int .u8 0, .int .u8 0, .nilf, .nilp, .int .i32 0, .int .i32 0]) := by kernel_rfl
@[push_cast] theorem zv171 : zeroV Go.Proofs.Try.prog 171 = some (.agg [.int .u64 0, .int .u64 0, .int .u32 0, .int .u8 0, .int .u8 0, .int .u8 0, .int .u8 0, .nilf, .nilp, .int .i32 0, .int .i32 0]) := by kernel_rfl
@[push_cast] theorem f171_0 : fieldT Go.Proofs.Try.prog 171 0 = some ((12, 0)) := by kernel_rfl
@[push_cast] theorem f171_1 : fieldT Go.Proofs.Try.prog 171 1 = some ((12, 1)) := by kernel_rfl
@[push_cast] theorem f171_2 : fieldT Go.Proofs.Try.prog 171 2 = some ((163, 2)) := by kernel_rfl
@[push_cast] theorem f171_3 : fieldT Go.Proofs.Try.prog 171 3 = some ((164, 3)) := by kernel_rfl
@[push_cast] theorem f171_4 : fieldT Go.Proofs.Try.prog 171 4 = some ((5, 4)) := by kernel_rfl
@[push_cast] theorem f171_5 : fieldT Go.Proofs.Try.prog 171 5 = some ((5, 5)) := by kernel_rfl
@[push_cast] theorem f171_6 : fieldT Go.Proofs.Try.prog 171 6 = some ((165, 6)) := by kernel_rfl
@[push_cast] theorem f171_7 : fieldT Go.Proofs.Try.prog 171 7 = some ((166, 7)) := by kernel_rfl
@[push_cast] theorem f171_8 : fieldT Go.Proofs.Try.prog 171 8 = some ((167, 8)) := by kernel_rfl
@[push_cast] theorem f171_9 : fieldT Go.Proofs.Try.prog 171 9 = some ((168, 9)) := by kernel_rfl
@[push_cast] theorem f171_10 : fieldT Go.Proofs.Try.prog 171 10 = some ((169, 10)) := by kernel_rfl
@[push_cast] theorem pl171 : placesT Go.Proofs.Try.prog 171 = some ([(0, 1), (1, 1), (2, 1), (3, 1), (4, 1), (5, 1), (6, 1), (7, 1), (8, 1), (9, 1), (10, 1)]) := by kernel_rfl
@[push_cast] theorem ar171 : arrT Go.Proofs.Try.prog 171 = none := by kernel_rfl
@[push_cast] theorem ni171 : notInt Go.Proofs.Try.prog 171 = true := by kernel_rfl
@[push_cast] theorem el171 : elemT Go.Proofs.Try.prog 171 = none := by kernel_rfl
@[push_cast] theorem ct171 : concT Go.Proofs.Try.prog 171 = true := by kernel_rfl
@[push_cast] theorem sz172 : szT Go.Proofs.Try.prog 172 = some (1) := by kernel_rfl
@[push_cast] theorem by172 : bytesT Go.Proofs.Try.prog 172 = some (8) := by kernel_rfl
@[push_cast] theorem ag172 : aggT Go.Proofs.Try.prog 172 = some (false) := by kernel_rfl
@[push_cast] theorem zt172 : zeroT Go.Proofs.Try.prog 172 = some ([.nilp]) := by kernel_rfl
@[push_cast] theorem zv172 : zeroV Go.Proofs.Try.prog 172 = some (.nilp) := by kernel_rfl
@[push_cast] theorem ni172 : notInt Go.Proofs.Try.prog 172 = true := by kernel_rfl
@[push_cast] theorem el172 : elemT Go.Proofs.Try.prog 172 = none := by kernel_rfl
@[push_cast] theorem ct172 : concT Go.Proofs.Try.prog 172 = true := by kernel_rfl
end Go.Vm.Try
