/- Facts on the types of the seat, asked of the program. Printed by facts.py. -/
import Derived.Test.YtcbdjcjbnmjojaaV2
import Derived.Test.YtcbdjcjbnmjojaaProg
import Derived.KernelRfl
namespace Go.Vm.Try
theorem fo : Go.Proofs.Try.prog.follows .mixedOrders = true := by kernel_rfl
@[push_cast] theorem sz0 : szT Go.Proofs.Try.prog 0 = some (1) := by kernel_rfl
@[push_cast] theorem by0 : bytesT Go.Proofs.Try.prog 0 = some (0) := by kernel_rfl
@[push_cast] theorem ag0 : aggT Go.Proofs.Try.prog 0 = some (false) := by kernel_rfl
@[push_cast] theorem zt0 : zeroT Go.Proofs.Try.prog 0 = some ([.dead]) := by kernel_rfl
@[push_cast] theorem zv0 : zeroV Go.Proofs.Try.prog 0 = some (.dead) := by kernel_rfl
@[push_cast] theorem ni0 : notInt Go.Proofs.Try.prog 0 = true := by kernel_rfl
@[push_cast] theorem el0 : elemT Go.Proofs.Try.prog 0 = none := by kernel_rfl
@[push_cast] theorem ct0 : concT Go.Proofs.Try.prog 0 = true := by kernel_rfl
@[push_cast] theorem sz1 : szT Go.Proofs.Try.prog 1 = some (1) := by kernel_rfl
@[push_cast] theorem by1 : bytesT Go.Proofs.Try.prog 1 = some (8) := by kernel_rfl
@[push_cast] theorem ag1 : aggT Go.Proofs.Try.prog 1 = some (false) := by kernel_rfl
@[push_cast] theorem zt1 : zeroT Go.Proofs.Try.prog 1 = some ([.nilf]) := by kernel_rfl
@[push_cast] theorem zv1 : zeroV Go.Proofs.Try.prog 1 = some (.nilf) := by kernel_rfl
@[push_cast] theorem ni1 : notInt Go.Proofs.Try.prog 1 = true := by kernel_rfl
@[push_cast] theorem el1 : elemT Go.Proofs.Try.prog 1 = none := by kernel_rfl
@[push_cast] theorem ct1 : concT Go.Proofs.Try.prog 1 = true := by kernel_rfl
@[push_cast] theorem sz2 : szT Go.Proofs.Try.prog 2 = some (1) := by kernel_rfl
@[push_cast] theorem by2 : bytesT Go.Proofs.Try.prog 2 = some (8) := by kernel_rfl
@[push_cast] theorem ag2 : aggT Go.Proofs.Try.prog 2 = some (false) := by kernel_rfl
@[push_cast] theorem zt2 : zeroT Go.Proofs.Try.prog 2 = some ([.int .i64 0]) := by kernel_rfl
@[push_cast] theorem zv2 : zeroV Go.Proofs.Try.prog 2 = some (.int .i64 0) := by kernel_rfl
@[push_cast] theorem u2 : Program.underlying Go.Proofs.Try.prog 2 = some (.int .i64) := by kernel_rfl
@[push_cast] theorem el2 : elemT Go.Proofs.Try.prog 2 = none := by kernel_rfl
@[push_cast] theorem kt2 : kindT Go.Proofs.Try.prog 2 = some (.int .i64) := by kernel_rfl
@[push_cast] theorem ct2 : concT Go.Proofs.Try.prog 2 = true := by kernel_rfl
@[push_cast] theorem sz3 : szT Go.Proofs.Try.prog 3 = some (1) := by kernel_rfl
@[push_cast] theorem by3 : bytesT Go.Proofs.Try.prog 3 = some (8) := by kernel_rfl
@[push_cast] theorem ag3 : aggT Go.Proofs.Try.prog 3 = some (false) := by kernel_rfl
@[push_cast] theorem zt3 : zeroT Go.Proofs.Try.prog 3 = some ([.int .i64 0]) := by kernel_rfl
@[push_cast] theorem zv3 : zeroV Go.Proofs.Try.prog 3 = some (.int .i64 0) := by kernel_rfl
@[push_cast] theorem u3 : Program.underlying Go.Proofs.Try.prog 3 = some (.int .i64) := by kernel_rfl
@[push_cast] theorem el3 : elemT Go.Proofs.Try.prog 3 = none := by kernel_rfl
@[push_cast] theorem kt3 : kindT Go.Proofs.Try.prog 3 = some (.int .i64) := by kernel_rfl
@[push_cast] theorem ct3 : concT Go.Proofs.Try.prog 3 = true := by kernel_rfl
@[push_cast] theorem sz4 : szT Go.Proofs.Try.prog 4 = some (1) := by kernel_rfl
@[push_cast] theorem by4 : bytesT Go.Proofs.Try.prog 4 = some (1) := by kernel_rfl
@[push_cast] theorem ag4 : aggT Go.Proofs.Try.prog 4 = some (false) := by kernel_rfl
@[push_cast] theorem zt4 : zeroT Go.Proofs.Try.prog 4 = some ([.bool false]) := by kernel_rfl
@[push_cast] theorem zv4 : zeroV Go.Proofs.Try.prog 4 = some (.bool false) := by kernel_rfl
@[push_cast] theorem u4 : Program.underlying Go.Proofs.Try.prog 4 = some (.bool) := by kernel_rfl
@[push_cast] theorem ni4 : notInt Go.Proofs.Try.prog 4 = true := by kernel_rfl
@[push_cast] theorem el4 : elemT Go.Proofs.Try.prog 4 = none := by kernel_rfl
@[push_cast] theorem ct4 : concT Go.Proofs.Try.prog 4 = true := by kernel_rfl
@[push_cast] theorem sz5 : szT Go.Proofs.Try.prog 5 = some (1) := by kernel_rfl
@[push_cast] theorem by5 : bytesT Go.Proofs.Try.prog 5 = some (1) := by kernel_rfl
@[push_cast] theorem ag5 : aggT Go.Proofs.Try.prog 5 = some (false) := by kernel_rfl
@[push_cast] theorem zt5 : zeroT Go.Proofs.Try.prog 5 = some ([.int .u8 0]) := by kernel_rfl
@[push_cast] theorem zv5 : zeroV Go.Proofs.Try.prog 5 = some (.int .u8 0) := by kernel_rfl
@[push_cast] theorem u5 : Program.underlying Go.Proofs.Try.prog 5 = some (.int .u8) := by kernel_rfl
@[push_cast] theorem el5 : elemT Go.Proofs.Try.prog 5 = none := by kernel_rfl
@[push_cast] theorem kt5 : kindT Go.Proofs.Try.prog 5 = some (.int .u8) := by kernel_rfl
@[push_cast] theorem ct5 : concT Go.Proofs.Try.prog 5 = true := by kernel_rfl
@[push_cast] theorem sz9 : szT Go.Proofs.Try.prog 9 = some (1) := by kernel_rfl
@[push_cast] theorem by9 : bytesT Go.Proofs.Try.prog 9 = some (16) := by kernel_rfl
@[push_cast] theorem ag9 : aggT Go.Proofs.Try.prog 9 = some (false) := by kernel_rfl
@[push_cast] theorem zt9 : zeroT Go.Proofs.Try.prog 9 = some ([.str ByteArray.empty]) := by kernel_rfl
@[push_cast] theorem zv9 : zeroV Go.Proofs.Try.prog 9 = some (.str ByteArray.empty) := by kernel_rfl
@[push_cast] theorem u9 : Program.underlying Go.Proofs.Try.prog 9 = some (.string) := by kernel_rfl
@[push_cast] theorem ni9 : notInt Go.Proofs.Try.prog 9 = true := by kernel_rfl
@[push_cast] theorem el9 : elemT Go.Proofs.Try.prog 9 = none := by kernel_rfl
@[push_cast] theorem kt9 : kindT Go.Proofs.Try.prog 9 = some (.str) := by kernel_rfl
@[push_cast] theorem ct9 : concT Go.Proofs.Try.prog 9 = true := by kernel_rfl
@[push_cast] theorem sz22 : szT Go.Proofs.Try.prog 22 = some (1) := by kernel_rfl
@[push_cast] theorem by22 : bytesT Go.Proofs.Try.prog 22 = some (24) := by kernel_rfl
@[push_cast] theorem ag22 : aggT Go.Proofs.Try.prog 22 = some (false) := by kernel_rfl
@[push_cast] theorem zt22 : zeroT Go.Proofs.Try.prog 22 = some ([.sl 0 [] .full]) := by kernel_rfl
@[push_cast] theorem zv22 : zeroV Go.Proofs.Try.prog 22 = some (.sl 0 [] .full) := by kernel_rfl
@[push_cast] theorem u22 : Program.underlying Go.Proofs.Try.prog 22 = some (.slice 9) := by kernel_rfl
@[push_cast] theorem ni22 : notInt Go.Proofs.Try.prog 22 = true := by kernel_rfl
@[push_cast] theorem el22 : elemT Go.Proofs.Try.prog 22 = some (9) := by kernel_rfl
@[push_cast] theorem ct22 : concT Go.Proofs.Try.prog 22 = true := by kernel_rfl
@[push_cast] theorem sz23 : szT Go.Proofs.Try.prog 23 = some (1) := by kernel_rfl
@[push_cast] theorem by23 : bytesT Go.Proofs.Try.prog 23 = some (24) := by kernel_rfl
@[push_cast] theorem ag23 : aggT Go.Proofs.Try.prog 23 = some (false) := by kernel_rfl
@[push_cast] theorem zt23 : zeroT Go.Proofs.Try.prog 23 = some ([.sl 0 [] .full]) := by kernel_rfl
@[push_cast] theorem zv23 : zeroV Go.Proofs.Try.prog 23 = some (.sl 0 [] .full) := by kernel_rfl
@[push_cast] theorem u23 : Program.underlying Go.Proofs.Try.prog 23 = some (.slice 92) := by kernel_rfl
@[push_cast] theorem ni23 : notInt Go.Proofs.Try.prog 23 = true := by kernel_rfl
@[push_cast] theorem el23 : elemT Go.Proofs.Try.prog 23 = some (92) := by kernel_rfl
@[push_cast] theorem ct23 : concT Go.Proofs.Try.prog 23 = true := by kernel_rfl
@[push_cast] theorem sz24 : szT Go.Proofs.Try.prog 24 = some (1) := by kernel_rfl
@[push_cast] theorem by24 : bytesT Go.Proofs.Try.prog 24 = some (24) := by kernel_rfl
@[push_cast] theorem ag24 : aggT Go.Proofs.Try.prog 24 = some (false) := by kernel_rfl
@[push_cast] theorem zt24 : zeroT Go.Proofs.Try.prog 24 = some ([.sl 0 [] .full]) := by kernel_rfl
@[push_cast] theorem zv24 : zeroV Go.Proofs.Try.prog 24 = some (.sl 0 [] .full) := by kernel_rfl
@[push_cast] theorem u24 : Program.underlying Go.Proofs.Try.prog 24 = some (.slice 3) := by kernel_rfl
@[push_cast] theorem ni24 : notInt Go.Proofs.Try.prog 24 = true := by kernel_rfl
@[push_cast] theorem el24 : elemT Go.Proofs.Try.prog 24 = some (3) := by kernel_rfl
@[push_cast] theorem ct24 : concT Go.Proofs.Try.prog 24 = true := by kernel_rfl
@[push_cast] theorem sz26 : szT Go.Proofs.Try.prog 26 = some (4) := by kernel_rfl
@[push_cast] theorem by26 : bytesT Go.Proofs.Try.prog 26 = some (80) := by kernel_rfl
@[push_cast] theorem ag26 : aggT Go.Proofs.Try.prog 26 = some (true) := by kernel_rfl
@[push_cast] theorem zt26 : zeroT Go.Proofs.Try.prog 26 = some ([.bool false, .sl 0 [] .full, .sl 0 [] .full, .sl 0 [] .full]) := by kernel_rfl
@[push_cast] theorem zv26 : zeroV Go.Proofs.Try.prog 26 = some (.agg [.bool false, .sl 0 [] .full, .sl 0 [] .full, .sl 0 [] .full]) := by kernel_rfl
@[push_cast] theorem f26_0 : fieldT Go.Proofs.Try.prog 26 0 = some ((4, 0)) := by kernel_rfl
@[push_cast] theorem f26_1 : fieldT Go.Proofs.Try.prog 26 1 = some ((22, 1)) := by kernel_rfl
@[push_cast] theorem f26_2 : fieldT Go.Proofs.Try.prog 26 2 = some ((23, 2)) := by kernel_rfl
@[push_cast] theorem f26_3 : fieldT Go.Proofs.Try.prog 26 3 = some ((24, 3)) := by kernel_rfl
@[push_cast] theorem pl26 : placesT Go.Proofs.Try.prog 26 = some ([(0, 1), (1, 1), (2, 1), (3, 1)]) := by kernel_rfl
@[push_cast] theorem ar26 : arrT Go.Proofs.Try.prog 26 = none := by kernel_rfl
@[push_cast] theorem ni26 : notInt Go.Proofs.Try.prog 26 = true := by kernel_rfl
@[push_cast] theorem el26 : elemT Go.Proofs.Try.prog 26 = none := by kernel_rfl
@[push_cast] theorem ct26 : concT Go.Proofs.Try.prog 26 = true := by kernel_rfl
@[push_cast] theorem sz27 : szT Go.Proofs.Try.prog 27 = some (1) := by kernel_rfl
@[push_cast] theorem by27 : bytesT Go.Proofs.Try.prog 27 = some (24) := by kernel_rfl
@[push_cast] theorem ag27 : aggT Go.Proofs.Try.prog 27 = some (false) := by kernel_rfl
@[push_cast] theorem zt27 : zeroT Go.Proofs.Try.prog 27 = some ([.sl 0 [] .full]) := by kernel_rfl
@[push_cast] theorem zv27 : zeroV Go.Proofs.Try.prog 27 = some (.sl 0 [] .full) := by kernel_rfl
@[push_cast] theorem u27 : Program.underlying Go.Proofs.Try.prog 27 = some (.slice 5) := by kernel_rfl
@[push_cast] theorem ni27 : notInt Go.Proofs.Try.prog 27 = true := by kernel_rfl
@[push_cast] theorem el27 : elemT Go.Proofs.Try.prog 27 = some (5) := by kernel_rfl
@[push_cast] theorem ct27 : concT Go.Proofs.Try.prog 27 = true := by kernel_rfl
@[push_cast] theorem sz30 : szT Go.Proofs.Try.prog 30 = some (1) := by kernel_rfl
@[push_cast] theorem by30 : bytesT Go.Proofs.Try.prog 30 = some (24) := by kernel_rfl
@[push_cast] theorem ag30 : aggT Go.Proofs.Try.prog 30 = some (false) := by kernel_rfl
@[push_cast] theorem zt30 : zeroT Go.Proofs.Try.prog 30 = some ([.sl 0 [] .full]) := by kernel_rfl
@[push_cast] theorem zv30 : zeroV Go.Proofs.Try.prog 30 = some (.sl 0 [] .full) := by kernel_rfl
@[push_cast] theorem u30 : Program.underlying Go.Proofs.Try.prog 30 = some (.slice 94) := by kernel_rfl
@[push_cast] theorem ni30 : notInt Go.Proofs.Try.prog 30 = true := by kernel_rfl
@[push_cast] theorem el30 : elemT Go.Proofs.Try.prog 30 = some (94) := by kernel_rfl
@[push_cast] theorem ct30 : concT Go.Proofs.Try.prog 30 = true := by kernel_rfl
@[push_cast] theorem sz32 : szT Go.Proofs.Try.prog 32 = some (3) := by kernel_rfl
@[push_cast] theorem by32 : bytesT Go.Proofs.Try.prog 32 = some (40) := by kernel_rfl
@[push_cast] theorem ag32 : aggT Go.Proofs.Try.prog 32 = some (true) := by kernel_rfl
@[push_cast] theorem zt32 : zeroT Go.Proofs.Try.prog 32 = some ([.bool false, .int .i64 0, .sl 0 [] .full]) := by kernel_rfl
@[push_cast] theorem zv32 : zeroV Go.Proofs.Try.prog 32 = some (.agg [.bool false, .int .i64 0, .sl 0 [] .full]) := by kernel_rfl
@[push_cast] theorem f32_0 : fieldT Go.Proofs.Try.prog 32 0 = some ((4, 0)) := by kernel_rfl
@[push_cast] theorem f32_1 : fieldT Go.Proofs.Try.prog 32 1 = some ((3, 1)) := by kernel_rfl
@[push_cast] theorem f32_2 : fieldT Go.Proofs.Try.prog 32 2 = some ((30, 2)) := by kernel_rfl
@[push_cast] theorem pl32 : placesT Go.Proofs.Try.prog 32 = some ([(0, 1), (1, 1), (2, 1)]) := by kernel_rfl
@[push_cast] theorem ar32 : arrT Go.Proofs.Try.prog 32 = none := by kernel_rfl
@[push_cast] theorem ni32 : notInt Go.Proofs.Try.prog 32 = true := by kernel_rfl
@[push_cast] theorem el32 : elemT Go.Proofs.Try.prog 32 = none := by kernel_rfl
@[push_cast] theorem ct32 : concT Go.Proofs.Try.prog 32 = true := by kernel_rfl
@[push_cast] theorem sz33 : szT Go.Proofs.Try.prog 33 = some (1) := by kernel_rfl
@[push_cast] theorem by33 : bytesT Go.Proofs.Try.prog 33 = some (0) := by kernel_rfl
@[push_cast] theorem ag33 : aggT Go.Proofs.Try.prog 33 = some (false) := by kernel_rfl
@[push_cast] theorem zt33 : zeroT Go.Proofs.Try.prog 33 = some ([.dead]) := by kernel_rfl
@[push_cast] theorem zv33 : zeroV Go.Proofs.Try.prog 33 = some (.dead) := by kernel_rfl
@[push_cast] theorem ni33 : notInt Go.Proofs.Try.prog 33 = true := by kernel_rfl
@[push_cast] theorem el33 : elemT Go.Proofs.Try.prog 33 = none := by kernel_rfl
@[push_cast] theorem ct33 : concT Go.Proofs.Try.prog 33 = true := by kernel_rfl
@[push_cast] theorem sz36 : szT Go.Proofs.Try.prog 36 = some (1) := by kernel_rfl
@[push_cast] theorem by36 : bytesT Go.Proofs.Try.prog 36 = some (8) := by kernel_rfl
@[push_cast] theorem ag36 : aggT Go.Proofs.Try.prog 36 = some (false) := by kernel_rfl
@[push_cast] theorem zt36 : zeroT Go.Proofs.Try.prog 36 = some ([.int .i64 0]) := by kernel_rfl
@[push_cast] theorem zv36 : zeroV Go.Proofs.Try.prog 36 = some (.int .i64 0) := by kernel_rfl
@[push_cast] theorem u36 : Program.underlying Go.Proofs.Try.prog 36 = some (.int .i64) := by kernel_rfl
@[push_cast] theorem el36 : elemT Go.Proofs.Try.prog 36 = none := by kernel_rfl
@[push_cast] theorem kt36 : kindT Go.Proofs.Try.prog 36 = some (.int .i64) := by kernel_rfl
@[push_cast] theorem ct36 : concT Go.Proofs.Try.prog 36 = true := by kernel_rfl
@[push_cast] theorem sz37 : szT Go.Proofs.Try.prog 37 = some (1) := by kernel_rfl
@[push_cast] theorem by37 : bytesT Go.Proofs.Try.prog 37 = some (0) := by kernel_rfl
@[push_cast] theorem ag37 : aggT Go.Proofs.Try.prog 37 = some (false) := by kernel_rfl
@[push_cast] theorem zt37 : zeroT Go.Proofs.Try.prog 37 = some ([.dead]) := by kernel_rfl
@[push_cast] theorem zv37 : zeroV Go.Proofs.Try.prog 37 = some (.dead) := by kernel_rfl
@[push_cast] theorem ni37 : notInt Go.Proofs.Try.prog 37 = true := by kernel_rfl
@[push_cast] theorem el37 : elemT Go.Proofs.Try.prog 37 = none := by kernel_rfl
@[push_cast] theorem ct37 : concT Go.Proofs.Try.prog 37 = true := by kernel_rfl
@[push_cast] theorem sz42 : szT Go.Proofs.Try.prog 42 = some (1) := by kernel_rfl
@[push_cast] theorem by42 : bytesT Go.Proofs.Try.prog 42 = some (0) := by kernel_rfl
@[push_cast] theorem ag42 : aggT Go.Proofs.Try.prog 42 = some (false) := by kernel_rfl
@[push_cast] theorem zt42 : zeroT Go.Proofs.Try.prog 42 = some ([.dead]) := by kernel_rfl
@[push_cast] theorem zv42 : zeroV Go.Proofs.Try.prog 42 = some (.dead) := by kernel_rfl
@[push_cast] theorem ni42 : notInt Go.Proofs.Try.prog 42 = true := by kernel_rfl
@[push_cast] theorem el42 : elemT Go.Proofs.Try.prog 42 = none := by kernel_rfl
@[push_cast] theorem ct42 : concT Go.Proofs.Try.prog 42 = true := by kernel_rfl
@[push_cast] theorem sz44 : szT Go.Proofs.Try.prog 44 = some (1) := by kernel_rfl
@[push_cast] theorem by44 : bytesT Go.Proofs.Try.prog 44 = some (0) := by kernel_rfl
@[push_cast] theorem ag44 : aggT Go.Proofs.Try.prog 44 = some (false) := by kernel_rfl
@[push_cast] theorem zt44 : zeroT Go.Proofs.Try.prog 44 = some ([.dead]) := by kernel_rfl
@[push_cast] theorem zv44 : zeroV Go.Proofs.Try.prog 44 = some (.dead) := by kernel_rfl
@[push_cast] theorem ni44 : notInt Go.Proofs.Try.prog 44 = true := by kernel_rfl
@[push_cast] theorem el44 : elemT Go.Proofs.Try.prog 44 = none := by kernel_rfl
@[push_cast] theorem ct44 : concT Go.Proofs.Try.prog 44 = true := by kernel_rfl
@[push_cast] theorem sz50 : szT Go.Proofs.Try.prog 50 = some (1) := by kernel_rfl
@[push_cast] theorem by50 : bytesT Go.Proofs.Try.prog 50 = some (0) := by kernel_rfl
@[push_cast] theorem ag50 : aggT Go.Proofs.Try.prog 50 = some (false) := by kernel_rfl
@[push_cast] theorem zt50 : zeroT Go.Proofs.Try.prog 50 = some ([.dead]) := by kernel_rfl
@[push_cast] theorem zv50 : zeroV Go.Proofs.Try.prog 50 = some (.dead) := by kernel_rfl
@[push_cast] theorem ni50 : notInt Go.Proofs.Try.prog 50 = true := by kernel_rfl
@[push_cast] theorem el50 : elemT Go.Proofs.Try.prog 50 = none := by kernel_rfl
@[push_cast] theorem ct50 : concT Go.Proofs.Try.prog 50 = true := by kernel_rfl
@[push_cast] theorem sz52 : szT Go.Proofs.Try.prog 52 = some (1) := by kernel_rfl
@[push_cast] theorem by52 : bytesT Go.Proofs.Try.prog 52 = some (0) := by kernel_rfl
@[push_cast] theorem ag52 : aggT Go.Proofs.Try.prog 52 = some (false) := by kernel_rfl
@[push_cast] theorem zt52 : zeroT Go.Proofs.Try.prog 52 = some ([.dead]) := by kernel_rfl
@[push_cast] theorem zv52 : zeroV Go.Proofs.Try.prog 52 = some (.dead) := by kernel_rfl
@[push_cast] theorem ni52 : notInt Go.Proofs.Try.prog 52 = true := by kernel_rfl
@[push_cast] theorem el52 : elemT Go.Proofs.Try.prog 52 = none := by kernel_rfl
@[push_cast] theorem ct52 : concT Go.Proofs.Try.prog 52 = true := by kernel_rfl
@[push_cast] theorem sz56 : szT Go.Proofs.Try.prog 56 = some (1) := by kernel_rfl
@[push_cast] theorem by56 : bytesT Go.Proofs.Try.prog 56 = some (0) := by kernel_rfl
@[push_cast] theorem ag56 : aggT Go.Proofs.Try.prog 56 = some (false) := by kernel_rfl
@[push_cast] theorem zt56 : zeroT Go.Proofs.Try.prog 56 = some ([.dead]) := by kernel_rfl
@[push_cast] theorem zv56 : zeroV Go.Proofs.Try.prog 56 = some (.dead) := by kernel_rfl
@[push_cast] theorem ni56 : notInt Go.Proofs.Try.prog 56 = true := by kernel_rfl
@[push_cast] theorem el56 : elemT Go.Proofs.Try.prog 56 = none := by kernel_rfl
@[push_cast] theorem ct56 : concT Go.Proofs.Try.prog 56 = true := by kernel_rfl
@[push_cast] theorem sz92 : szT Go.Proofs.Try.prog 92 = some (3) := by kernel_rfl
@[push_cast] theorem by92 : bytesT Go.Proofs.Try.prog 92 = some (32) := by kernel_rfl
@[push_cast] theorem ag92 : aggT Go.Proofs.Try.prog 92 = some (true) := by kernel_rfl
@[push_cast] theorem zt92 : zeroT Go.Proofs.Try.prog 92 = some ([.int .i64 0, .str ByteArray.empty, .int .i64 0]) := by kernel_rfl
@[push_cast] theorem zv92 : zeroV Go.Proofs.Try.prog 92 = some (.agg [.int .i64 0, .str ByteArray.empty, .int .i64 0]) := by kernel_rfl
@[push_cast] theorem f92_0 : fieldT Go.Proofs.Try.prog 92 0 = some ((3, 0)) := by kernel_rfl
@[push_cast] theorem f92_1 : fieldT Go.Proofs.Try.prog 92 1 = some ((9, 1)) := by kernel_rfl
@[push_cast] theorem f92_2 : fieldT Go.Proofs.Try.prog 92 2 = some ((3, 2)) := by kernel_rfl
@[push_cast] theorem pl92 : placesT Go.Proofs.Try.prog 92 = some ([(0, 1), (1, 1), (2, 1)]) := by kernel_rfl
@[push_cast] theorem ar92 : arrT Go.Proofs.Try.prog 92 = none := by kernel_rfl
@[push_cast] theorem ni92 : notInt Go.Proofs.Try.prog 92 = true := by kernel_rfl
@[push_cast] theorem el92 : elemT Go.Proofs.Try.prog 92 = none := by kernel_rfl
@[push_cast] theorem es92 : eqShape Go.Proofs.Try.prog 92 = some ([(0, .i), (1, .s), (2, .i)]) := by kernel_rfl
@[push_cast] theorem ct92 : concT Go.Proofs.Try.prog 92 = true := by kernel_rfl
@[push_cast] theorem sz94 : szT Go.Proofs.Try.prog 94 = some (4) := by kernel_rfl
@[push_cast] theorem by94 : bytesT Go.Proofs.Try.prog 94 = some (48) := by kernel_rfl
@[push_cast] theorem ag94 : aggT Go.Proofs.Try.prog 94 = some (true) := by kernel_rfl
@[push_cast] theorem zt94 : zeroT Go.Proofs.Try.prog 94 = some ([.str ByteArray.empty, .int .i64 0, .str ByteArray.empty, .int .i64 0]) := by kernel_rfl
@[push_cast] theorem zv94 : zeroV Go.Proofs.Try.prog 94 = some (.agg [.str ByteArray.empty, .int .i64 0, .str ByteArray.empty, .int .i64 0]) := by kernel_rfl
@[push_cast] theorem f94_0 : fieldT Go.Proofs.Try.prog 94 0 = some ((9, 0)) := by kernel_rfl
@[push_cast] theorem f94_1 : fieldT Go.Proofs.Try.prog 94 1 = some ((3, 1)) := by kernel_rfl
@[push_cast] theorem f94_2 : fieldT Go.Proofs.Try.prog 94 2 = some ((9, 2)) := by kernel_rfl
@[push_cast] theorem f94_3 : fieldT Go.Proofs.Try.prog 94 3 = some ((3, 3)) := by kernel_rfl
@[push_cast] theorem pl94 : placesT Go.Proofs.Try.prog 94 = some ([(0, 1), (1, 1), (2, 1), (3, 1)]) := by kernel_rfl
@[push_cast] theorem ar94 : arrT Go.Proofs.Try.prog 94 = none := by kernel_rfl
@[push_cast] theorem ni94 : notInt Go.Proofs.Try.prog 94 = true := by kernel_rfl
@[push_cast] theorem el94 : elemT Go.Proofs.Try.prog 94 = none := by kernel_rfl
@[push_cast] theorem es94 : eqShape Go.Proofs.Try.prog 94 = some ([(0, .s), (1, .i), (2, .s), (3, .i)]) := by kernel_rfl
@[push_cast] theorem ct94 : concT Go.Proofs.Try.prog 94 = true := by kernel_rfl
@[push_cast] theorem sz95 : szT Go.Proofs.Try.prog 95 = some (1) := by kernel_rfl
@[push_cast] theorem by95 : bytesT Go.Proofs.Try.prog 95 = some (8) := by kernel_rfl
@[push_cast] theorem ag95 : aggT Go.Proofs.Try.prog 95 = some (false) := by kernel_rfl
@[push_cast] theorem zt95 : zeroT Go.Proofs.Try.prog 95 = some ([.nilf]) := by kernel_rfl
@[push_cast] theorem zv95 : zeroV Go.Proofs.Try.prog 95 = some (.nilf) := by kernel_rfl
@[push_cast] theorem ni95 : notInt Go.Proofs.Try.prog 95 = true := by kernel_rfl
@[push_cast] theorem el95 : elemT Go.Proofs.Try.prog 95 = none := by kernel_rfl
@[push_cast] theorem ct95 : concT Go.Proofs.Try.prog 95 = true := by kernel_rfl
@[push_cast] theorem sz97 : szT Go.Proofs.Try.prog 97 = some (1) := by kernel_rfl
@[push_cast] theorem by97 : bytesT Go.Proofs.Try.prog 97 = some (8) := by kernel_rfl
@[push_cast] theorem ag97 : aggT Go.Proofs.Try.prog 97 = some (false) := by kernel_rfl
@[push_cast] theorem zt97 : zeroT Go.Proofs.Try.prog 97 = some ([.int .u64 0]) := by kernel_rfl
@[push_cast] theorem zv97 : zeroV Go.Proofs.Try.prog 97 = some (.int .u64 0) := by kernel_rfl
@[push_cast] theorem u97 : Program.underlying Go.Proofs.Try.prog 97 = some (.int .u64) := by kernel_rfl
@[push_cast] theorem el97 : elemT Go.Proofs.Try.prog 97 = none := by kernel_rfl
@[push_cast] theorem kt97 : kindT Go.Proofs.Try.prog 97 = some (.int .u64) := by kernel_rfl
@[push_cast] theorem ct97 : concT Go.Proofs.Try.prog 97 = true := by kernel_rfl
@[push_cast] theorem sz101 : szT Go.Proofs.Try.prog 101 = some (1) := by kernel_rfl
@[push_cast] theorem by101 : bytesT Go.Proofs.Try.prog 101 = some (8) := by kernel_rfl
@[push_cast] theorem ag101 : aggT Go.Proofs.Try.prog 101 = some (false) := by kernel_rfl
@[push_cast] theorem zt101 : zeroT Go.Proofs.Try.prog 101 = some ([.nilf]) := by kernel_rfl
@[push_cast] theorem zv101 : zeroV Go.Proofs.Try.prog 101 = some (.nilf) := by kernel_rfl
@[push_cast] theorem ni101 : notInt Go.Proofs.Try.prog 101 = true := by kernel_rfl
@[push_cast] theorem el101 : elemT Go.Proofs.Try.prog 101 = none := by kernel_rfl
@[push_cast] theorem ct101 : concT Go.Proofs.Try.prog 101 = true := by kernel_rfl
@[push_cast] theorem sz103 : szT Go.Proofs.Try.prog 103 = some (1) := by kernel_rfl
@[push_cast] theorem by103 : bytesT Go.Proofs.Try.prog 103 = some (8) := by kernel_rfl
@[push_cast] theorem ag103 : aggT Go.Proofs.Try.prog 103 = some (false) := by kernel_rfl
@[push_cast] theorem zt103 : zeroT Go.Proofs.Try.prog 103 = some ([.nilp]) := by kernel_rfl
@[push_cast] theorem zv103 : zeroV Go.Proofs.Try.prog 103 = some (.nilp) := by kernel_rfl
@[push_cast] theorem u103 : Program.underlying Go.Proofs.Try.prog 103 = some (.pointer 105) := by kernel_rfl
@[push_cast] theorem ni103 : notInt Go.Proofs.Try.prog 103 = true := by kernel_rfl
@[push_cast] theorem el103 : elemT Go.Proofs.Try.prog 103 = none := by kernel_rfl
@[push_cast] theorem ct103 : concT Go.Proofs.Try.prog 103 = true := by kernel_rfl
@[push_cast] theorem sz105 : szT Go.Proofs.Try.prog 105 = some (1) := by kernel_rfl
@[push_cast] theorem by105 : bytesT Go.Proofs.Try.prog 105 = some (24) := by kernel_rfl
@[push_cast] theorem ag105 : aggT Go.Proofs.Try.prog 105 = some (true) := by kernel_rfl
@[push_cast] theorem zt105 : zeroT Go.Proofs.Try.prog 105 = some ([.sl 0 [] .full]) := by kernel_rfl
@[push_cast] theorem zv105 : zeroV Go.Proofs.Try.prog 105 = some (.agg [.sl 0 [] .full]) := by kernel_rfl
@[push_cast] theorem f105_0 : fieldT Go.Proofs.Try.prog 105 0 = some ((27, 0)) := by kernel_rfl
@[push_cast] theorem pl105 : placesT Go.Proofs.Try.prog 105 = some ([(0, 1)]) := by kernel_rfl
@[push_cast] theorem ar105 : arrT Go.Proofs.Try.prog 105 = none := by kernel_rfl
@[push_cast] theorem ni105 : notInt Go.Proofs.Try.prog 105 = true := by kernel_rfl
@[push_cast] theorem el105 : elemT Go.Proofs.Try.prog 105 = none := by kernel_rfl
@[push_cast] theorem ct105 : concT Go.Proofs.Try.prog 105 = true := by kernel_rfl
@[push_cast] theorem sz109 : szT Go.Proofs.Try.prog 109 = some (1) := by kernel_rfl
@[push_cast] theorem by109 : bytesT Go.Proofs.Try.prog 109 = some (0) := by kernel_rfl
@[push_cast] theorem ag109 : aggT Go.Proofs.Try.prog 109 = some (false) := by kernel_rfl
@[push_cast] theorem zt109 : zeroT Go.Proofs.Try.prog 109 = some ([.dead]) := by kernel_rfl
@[push_cast] theorem zv109 : zeroV Go.Proofs.Try.prog 109 = some (.dead) := by kernel_rfl
@[push_cast] theorem ni109 : notInt Go.Proofs.Try.prog 109 = true := by kernel_rfl
@[push_cast] theorem el109 : elemT Go.Proofs.Try.prog 109 = none := by kernel_rfl
@[push_cast] theorem ct109 : concT Go.Proofs.Try.prog 109 = true := by kernel_rfl
@[push_cast] theorem sz139 : szT Go.Proofs.Try.prog 139 = some (1) := by kernel_rfl
@[push_cast] theorem by139 : bytesT Go.Proofs.Try.prog 139 = some (8) := by kernel_rfl
@[push_cast] theorem ag139 : aggT Go.Proofs.Try.prog 139 = some (false) := by kernel_rfl
@[push_cast] theorem zt139 : zeroT Go.Proofs.Try.prog 139 = some ([.int .u64 0]) := by kernel_rfl
@[push_cast] theorem zv139 : zeroV Go.Proofs.Try.prog 139 = some (.int .u64 0) := by kernel_rfl
@[push_cast] theorem u139 : Program.underlying Go.Proofs.Try.prog 139 = some (.int .u64) := by kernel_rfl
@[push_cast] theorem el139 : elemT Go.Proofs.Try.prog 139 = none := by kernel_rfl
@[push_cast] theorem kt139 : kindT Go.Proofs.Try.prog 139 = some (.int .u64) := by kernel_rfl
@[push_cast] theorem ct139 : concT Go.Proofs.Try.prog 139 = true := by kernel_rfl
end Go.Vm.Try
