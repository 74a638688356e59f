/- Calls that are known, part 1: what each comes to, in whatever memory. Printed by a program (wip/tools/Mem.lean). 93367 operations. -/
import Derived.Test.YtbokoinmlbipmaaGreatDoorHdM0
namespace Go.Proofs.YtbokoinmlbipmaaGreatDoor.Hd
open Go Go.Proofs.YtbokoinmlbipmaaGreatDoor.Ev
noncomputable section

-- observatory/apportion.Share: 63912 operations, met 1 times
def e20 : Entry := ⟨282, [], [(.c (.int .i64 (.ofNat 720))), (.slO [(.c (.int .i64 (.ofNat 10))), (.c (.int .i64 (.ofNat 30)))] 2 1)], (.tup [(.slice 12 0 2 2), (.int .i64 (.ofNat 0))]), [.cells 3 [(.int .i64 (.ofNat 180)), (.int .i64 (.ofNat 540))] false 0 false]⟩
def T20 : Table := []
theorem T20_ok : TableOK Go.Proofs.Tryz.prog globs 11 T20 := .nil
theorem e20_ok : EntryOK Go.Proofs.Tryz.prog globs 11 e20 := chkEntry_ok (ids := [4333]) (runM_ok mixed globsBelow T20_ok (fuel := 100000) 60) (by decide +kernel)

-- observatory/lottery.Tickets: 417 operations, met 8 times
def e21 : Entry := ⟨159, [], [(.slO [(.c (.int .i64 (.ofNat 1)))] 1 1), (.slO [(.c (.int .i64 (.ofNat 0))), (.c (.int .i64 (.ofNat 0)))] 2 1), (.slO [(.c (.int .i64 (.ofNat 10))), (.c (.int .i64 (.ofNat 30)))] 2 1)], (.tup [(.slice 14 0 2 2), (.int .i64 (.ofNat 0))]), [.cells 3 [(.int .i64 (.ofNat 180)), (.int .i64 (.ofNat 540))] false 0 false]⟩
def T21 : Table := [(282, [e19, e20])]
theorem T21_ok : TableOK Go.Proofs.Tryz.prog globs 11 T21 := (.cons (.cons e19_ok rfl (.cons e20_ok rfl .nil)) .nil)
theorem e21_ok : EntryOK Go.Proofs.Tryz.prog globs 11 e21 := chkEntry_ok (ids := [30]) (runM_ok mixed globsBelow T21_ok (fuel := 100000) 60) (by decide +kernel)

-- observatory/model.valid: 1293 operations, met 22 times
def e22 : Entry := ⟨85, [], [d13, d9, d11], (.bool true), []⟩
def T22 : Table := [(128, [e0]), (30, [e13]), (31, [e14])]
theorem T22_ok : TableOK Go.Proofs.Tryz.prog globs 11 T22 := (.cons (.cons e0_ok rfl .nil) (.cons (.cons e13_ok rfl .nil) (.cons (.cons e14_ok rfl .nil) .nil)))
theorem e22_ok : EntryOK Go.Proofs.Tryz.prog globs 11 e22 := chkEntry_ok (ids := []) (runM_ok mixed globsBelow T22_ok (fuel := 100000) 60) (by decide +kernel)

-- observatory/model.Light: 312 operations, met 4 times
def e23 : Entry := ⟨40, [], [d13, d9, d11, (.agg [(.c (.int .i64 (.ofNat 0))), (.c (.int .i64 (.ofNat 0))), (.c (.int .i64 (.ofNat 0))), (.c (.int .i64 (.ofNat 10))), (.c (.bool false))]), (.c .nils)], (.tup [(.agg [(.int .i64 (.ofNat 0)), (.int .i64 (.ofNat 0)), (.int .i64 (.ofNat 0)), (.int .i64 (.ofNat 0))]), (.int .i64 (.ofNat 0))]), []⟩
def T23 : Table := [(85, [e22])]
theorem T23_ok : TableOK Go.Proofs.Tryz.prog globs 11 T23 := (.cons (.cons e22_ok rfl .nil) .nil)
theorem e23_ok : EntryOK Go.Proofs.Tryz.prog globs 11 e23 := chkEntry_ok (ids := []) (runM_ok mixed globsBelow T23_ok (fuel := 100000) 60) (by decide +kernel)

-- observatory/model.Shoot: 706 operations, met 4 times
def e24 : Entry := ⟨41, [], [d13, d9, d11, (.agg [(.c (.int .i64 (.ofNat 0))), (.c (.int .i64 (.ofNat 0))), (.c (.int .i64 (.ofNat 0))), (.c (.int .i64 (.ofNat 0)))]), (.c (.int .i64 (.ofNat 0)))], (.tup [(.agg [(.int .i64 (.ofNat 0)), (.int .i64 (.ofNat 0)), (.int .i64 (.ofNat 0)), (.int .i64 (.ofNat 0))]), (.int .i64 (.ofNat 0))]), []⟩
def T24 : Table := [(85, [e22])]
theorem T24_ok : TableOK Go.Proofs.Tryz.prog globs 11 T24 := (.cons (.cons e22_ok rfl .nil) .nil)
theorem e24_ok : EntryOK Go.Proofs.Tryz.prog globs 11 e24 := chkEntry_ok (ids := []) (runM_ok mixed globsBelow T24_ok (fuel := 100000) 60) (by decide +kernel)

-- observatory/lexer.Lex: 1673 operations, met 1 times
def e25 : Entry := ⟨128, [], [(.c (.str 4 1701736302))], (.tup [(.sliceO 11 0 1 4), (.int .i64 (.ofNat 0)), (.int .i64 (.ofNat 0))]), [.cells 283 [(.int .i64 (.ofNat 1)), (.str 4 1701736302), (.int .i64 (.ofNat 0)), (.int .i64 (.ofNat 0))] true 0 false]⟩
def T25 : Table := []
theorem T25_ok : TableOK Go.Proofs.Tryz.prog globs 11 T25 := .nil
theorem e25_ok : EntryOK Go.Proofs.Tryz.prog globs 11 e25 := chkEntry_ok (ids := [19]) (runM_ok mixed globsBelow T25_ok (fuel := 100000) 60) (by decide +kernel)

-- observatory/model.Apply: 4509 operations, met 1 times
def e26 : Entry := ⟨84, [], [d13, d9, (.agg [(.c (.str 4 1701736302)), (.c (.str 1 112)), (.c (.int .i64 (.ofNat 1))), d0, (.c (.int .i64 (.ofNat 0))), (.c (.int .i64 (.ofNat 1)))]), d11, (.c (.int .i64 (.ofNat 0))), (.agg [(.c (.int .i64 (.ofNat 0))), (.c (.int .i64 (.ofNat 0))), (.c (.int .i64 (.ofNat 0))), (.c (.int .i64 (.ofNat 0)))])], (.tup [(.agg [(.int .i64 (.ofNat 2)), (.int .i64 (.ofNat 0)), (.sliceO 30 0 1 3), (.sliceO 31 0 1 4), (.sliceO 32 0 2 1), (.slice 33 0 1 1), .nils, .nils]), (.int .i64 (.ofNat 0))]), [.cells 196 [(.int .i64 (.ofNat 0)), (.int .i64 (.ofNat 0)), (.bool false)] true 0 false, .cells 140 [(.int .i64 (.ofNat 0)), (.int .i64 (.ofNat 0)), (.int .i64 (.ofNat 0)), (.int .i64 (.ofNat 0))] true 0 false, .cells 329 [(.sliceO 34 0 1 4), (.slice 28 0 1 1)] true 0 false, .cells 3 [(.int .i64 (.ofNat 1))] false 0 false, .cells 465 [(.int .i64 (.ofNat 0)), (.int .i64 (.ofNat 1)), (.int .i64 (.ofNat 1)), (.bool true)] true 0 false]⟩
def T26 : Table := [(297, [e16]), (158, [e18]), (72, [e12]), (128, [e25]), (85, [e22])]
theorem T26_ok : TableOK Go.Proofs.Tryz.prog globs 11 T26 := (.cons (.cons e16_ok rfl .nil) (.cons (.cons e18_ok rfl .nil) (.cons (.cons e12_ok rfl .nil) (.cons (.cons e25_ok rfl .nil) (.cons (.cons e22_ok rfl .nil) .nil)))))
theorem e26_ok : EntryOK Go.Proofs.Tryz.prog globs 11 e26 := chkEntry_ok (ids := [42, 44, 46, 76, 90]) (runM_ok mixed globsBelow T26_ok (fuel := 100000) 60) (by decide +kernel)

-- observatory/night.Run: 1750 operations, met 1 times
def e27 : Entry := ⟨21, needs, [d13, d9, (.c .nils), (.sl [(.c (.int .i64 (.ofNat 0)))] 1 1), (.sl [(.c (.int .i64 (.ofNat 0)))] 1 1)], (.tup [(.agg [(.sliceO 29 0 1 10), (.sliceO 30 0 1 9)]), (.int .i64 (.ofNat 0))]), [.cells 153 [(.int .i64 (.ofNat 0)), (.int .i64 (.ofNat 0)), (.int .i64 (.ofNat 0)), (.int .i64 (.ofNat 10)), (.bool false), (.int .i64 (.ofNat 1)), (.int .i64 (.ofNat 1)), (.int .i64 (.ofNat 0)), (.int .i64 (.ofNat 30)), (.bool false)] true 0 false, .cells 3 [(.int .i64 (.ofNat 1))] true 0 false, .cells 3 [(.int .i64 (.ofNat 0)), (.int .i64 (.ofNat 0))] true 0 false, .cells 3 [(.int .i64 (.ofNat 180)), (.int .i64 (.ofNat 540))] false 0 false, .cells 137 [(.int .i64 (.ofNat 1)), (.int .i64 (.ofNat 0)), (.sliceO 26 0 1 1), (.sliceO 27 0 2 1), (.sliceO 25 0 2 5), .nils, (.slice 28 0 2 2), (.int .i64 (.ofNat 0)), (.int .i64 (.ofNat 0)), (.str 0 0)] true 0 false, .cells 156 [(.int .i64 (.ofNat 1)), (.int .i64 (.ofNat 0)), (.int .i64 (.ofNat 0)), (.int .i64 (.ofNat 0)), (.int .i64 (.ofNat 0)), (.int .i64 (.ofNat 0)), (.int .i64 (.ofNat 0)), (.int .i64 (.ofNat 0)), (.int .i64 (.ofNat 0))] true 0 false]⟩
def T27 : Table := [(84, [e26]), (41, [e24]), (40, [e23]), (159, [e21]), (158, [e18]), (82, [e15]), (31, [e14]), (30, [e13])]
theorem T27_ok : TableOK Go.Proofs.Tryz.prog globs 11 T27 := (.cons (.cons e26_ok rfl .nil) (.cons (.cons e24_ok rfl .nil) (.cons (.cons e23_ok rfl .nil) (.cons (.cons e21_ok rfl .nil) (.cons (.cons e18_ok rfl .nil) (.cons (.cons e15_ok rfl .nil) (.cons (.cons e14_ok rfl .nil) (.cons (.cons e13_ok rfl .nil) .nil))))))))
theorem e27_ok : EntryOK Go.Proofs.Tryz.prog globs 11 e27 := chkEntry_ok (ids := [51, 55, 63, 66, 261, 272]) (runM_ok mixed globsBelow T27_ok (fuel := 100000) 60) (by decide +kernel)

-- observatory/lexer.Lex: 1499 operations, met 11 times
def e28 : Entry := ⟨128, [], [(.c (.str 1 114))], (.tup [(.sliceO 11 0 1 4), (.int .i64 (.ofNat 0)), (.int .i64 (.ofNat 0))]), [.cells 283 [(.int .i64 (.ofNat 1)), (.str 1 114), (.int .i64 (.ofNat 0)), (.int .i64 (.ofNat 0))] true 0 false]⟩
def T28 : Table := []
theorem T28_ok : TableOK Go.Proofs.Tryz.prog globs 11 T28 := .nil
theorem e28_ok : EntryOK Go.Proofs.Tryz.prog globs 11 e28 := chkEntry_ok (ids := [19]) (runM_ok mixed globsBelow T28_ok (fuel := 100000) 60) (by decide +kernel)

-- observatory/repair.valid: 586 operations, met 2 times
def e29 : Entry := ⟨43, [], [d13, d9, d7, d4, (.agg [(.c (.int .i64 (.ofNat 1))), (.c (.int .i64 (.ofNat 0))), (.c (.int .i64 (.ofNat 0))), (.sl [(.c (.int .i64 (.ofNat 40)))] 1 1)])], (.bool true), []⟩
def T29 : Table := [(72, [e12]), (128, [e28]), (31, [e14]), (30, [e13])]
theorem T29_ok : TableOK Go.Proofs.Tryz.prog globs 11 T29 := (.cons (.cons e12_ok rfl .nil) (.cons (.cons e28_ok rfl .nil) (.cons (.cons e14_ok rfl .nil) (.cons (.cons e13_ok rfl .nil) .nil))))
theorem e29_ok : EntryOK Go.Proofs.Tryz.prog globs 11 e29 := chkEntry_ok (ids := []) (runM_ok mixed globsBelow T29_ok (fuel := 100000) 60) (by decide +kernel)

-- observatory/lexer.Lex: 1731 operations, met 6 times
def e30 : Entry := ⟨128, [], [(.c (.str 5 474214394992))], (.tup [(.sliceO 11 0 1 4), (.int .i64 (.ofNat 0)), (.int .i64 (.ofNat 0))]), [.cells 283 [(.int .i64 (.ofNat 1)), (.str 5 474214394992), (.int .i64 (.ofNat 0)), (.int .i64 (.ofNat 0))] true 0 false]⟩
def T30 : Table := []
theorem T30_ok : TableOK Go.Proofs.Tryz.prog globs 11 T30 := .nil
theorem e30_ok : EntryOK Go.Proofs.Tryz.prog globs 11 e30 := chkEntry_ok (ids := [19]) (runM_ok mixed globsBelow T30_ok (fuel := 100000) 60) (by decide +kernel)

-- observatory/model.Apply: 4509 operations, met 2 times
def e31 : Entry := ⟨84, [], [d13, d9, d8, d11, (.c (.int .i64 (.ofNat 0))), (.agg [(.c (.int .i64 (.ofNat 0))), (.c (.int .i64 (.ofNat 0))), (.c (.int .i64 (.ofNat 0))), (.c (.int .i64 (.ofNat 0)))])], (.tup [(.agg [(.int .i64 (.ofNat 2)), (.int .i64 (.ofNat 0)), (.sliceO 30 0 1 3), (.sliceO 31 0 1 4), (.sliceO 32 0 2 1), (.slice 33 0 1 1), .nils, .nils]), (.int .i64 (.ofNat 0))]), [.cells 196 [(.int .i64 (.ofNat 0)), (.int .i64 (.ofNat 0)), (.bool false)] true 0 false, .cells 140 [(.int .i64 (.ofNat 0)), (.int .i64 (.ofNat 0)), (.int .i64 (.ofNat 0)), (.int .i64 (.ofNat 0))] true 0 false, .cells 329 [(.sliceO 34 0 1 4), (.slice 28 0 1 1)] true 0 false, .cells 3 [(.int .i64 (.ofNat 1))] false 0 false, .cells 465 [(.int .i64 (.ofNat 0)), (.int .i64 (.ofNat 1)), (.int .i64 (.ofNat 1)), (.bool true)] true 0 false]⟩
def T31 : Table := [(297, [e16]), (158, [e18]), (72, [e12]), (128, [e30]), (85, [e22])]
theorem T31_ok : TableOK Go.Proofs.Tryz.prog globs 11 T31 := (.cons (.cons e16_ok rfl .nil) (.cons (.cons e18_ok rfl .nil) (.cons (.cons e12_ok rfl .nil) (.cons (.cons e30_ok rfl .nil) (.cons (.cons e22_ok rfl .nil) .nil)))))
theorem e31_ok : EntryOK Go.Proofs.Tryz.prog globs 11 e31 := chkEntry_ok (ids := [42, 44, 46, 76, 90]) (runM_ok mixed globsBelow T31_ok (fuel := 100000) 60) (by decide +kernel)

-- observatory/model.Shoot: 706 operations, met 3 times
def e32 : Entry := ⟨41, [], [d13, d9, d11, (.agg [(.c (.int .i64 (.ofNat 0))), (.c (.int .i64 (.ofNat 0))), (.c (.int .i64 (.ofNat 0))), (.c (.int .i64 (.ofNat 0)))]), (.c (.int .i64 (.ofNat 1)))], (.tup [(.agg [(.int .i64 (.ofNat 20)), (.int .i64 (.ofNat 20)), (.int .i64 (.ofNat 20)), (.int .i64 (.ofNat 20))]), (.int .i64 (.ofNat 0))]), []⟩
def T32 : Table := [(85, [e22])]
theorem T32_ok : TableOK Go.Proofs.Tryz.prog globs 11 T32 := (.cons (.cons e22_ok rfl .nil) .nil)
theorem e32_ok : EntryOK Go.Proofs.Tryz.prog globs 11 e32 := chkEntry_ok (ids := []) (runM_ok mixed globsBelow T32_ok (fuel := 100000) 60) (by decide +kernel)

-- observatory/model.Light: 444 operations, met 3 times
def e33 : Entry := ⟨40, [], [d13, d9, d11, (.agg [(.c (.int .i64 (.ofNat 0))), (.c (.int .i64 (.ofNat 0))), (.c (.int .i64 (.ofNat 0))), (.c (.int .i64 (.ofNat 10))), (.c (.bool false))]), (.sl [(.c (.int .i64 (.ofNat 0))), (.c (.int .i64 (.ofNat 0))), (.c (.int .i64 (.ofNat 0))), (.sl [(.c (.int .i64 (.ofNat 60)))] 1 1)] 1 1)], (.tup [(.agg [(.int .i64 (.ofNat 60)), (.int .i64 (.ofNat 0)), (.int .i64 (.ofNat 0)), (.int .i64 (.ofNat 0))]), (.int .i64 (.ofNat 0))]), []⟩
def T33 : Table := [(85, [e22])]
theorem T33_ok : TableOK Go.Proofs.Tryz.prog globs 11 T33 := (.cons (.cons e22_ok rfl .nil) .nil)
theorem e33_ok : EntryOK Go.Proofs.Tryz.prog globs 11 e33 := chkEntry_ok (ids := []) (runM_ok mixed globsBelow T33_ok (fuel := 100000) 60) (by decide +kernel)

-- observatory/model.Shoot: 706 operations, met 3 times
def e34 : Entry := ⟨41, [], [d13, d9, d11, (.agg [(.c (.int .i64 (.ofNat 60))), (.c (.int .i64 (.ofNat 0))), (.c (.int .i64 (.ofNat 0))), (.c (.int .i64 (.ofNat 0)))]), (.c (.int .i64 (.ofNat 0)))], (.tup [(.agg [(.int .i64 (.ofNat 60)), (.int .i64 (.ofNat 0)), (.int .i64 (.ofNat 0)), (.int .i64 (.ofNat 0))]), (.int .i64 (.ofNat 0))]), []⟩
def T34 : Table := [(85, [e22])]
theorem T34_ok : TableOK Go.Proofs.Tryz.prog globs 11 T34 := (.cons (.cons e22_ok rfl .nil) .nil)
theorem e34_ok : EntryOK Go.Proofs.Tryz.prog globs 11 e34 := chkEntry_ok (ids := []) (runM_ok mixed globsBelow T34_ok (fuel := 100000) 60) (by decide +kernel)

-- observatory/model.Shoot: 706 operations, met 3 times
def e35 : Entry := ⟨41, [], [d13, d9, d11, (.agg [(.c (.int .i64 (.ofNat 60))), (.c (.int .i64 (.ofNat 0))), (.c (.int .i64 (.ofNat 0))), (.c (.int .i64 (.ofNat 0)))]), (.c (.int .i64 (.ofNat 1)))], (.tup [(.agg [(.int .i64 (.ofNat 80)), (.int .i64 (.ofNat 20)), (.int .i64 (.ofNat 20)), (.int .i64 (.ofNat 20))]), (.int .i64 (.ofNat 0))]), []⟩
def T35 : Table := [(85, [e22])]
theorem T35_ok : TableOK Go.Proofs.Tryz.prog globs 11 T35 := (.cons (.cons e22_ok rfl .nil) .nil)
theorem e35_ok : EntryOK Go.Proofs.Tryz.prog globs 11 e35 := chkEntry_ok (ids := []) (runM_ok mixed globsBelow T35_ok (fuel := 100000) 60) (by decide +kernel)

-- observatory/skies.Allowed: 2225 operations, met 3 times
def e36 : Entry := ⟨44, needs, [d13, d9, d12, d4], (.tup [(.sliceO 35 0 1 1), (.int .i64 (.ofNat 0))]), [.cells 3 [(.int .i64 (.ofNat 0))] true 0 false, .cells 55 [(.sliceO 34 0 1 1)] true 0 false]⟩
def T36 : Table := [(41, [e24, e32, e34, e35]), (40, [e23, e33]), (84, [e31]), (159, [e21]), (158, [e18]), (82, [e15]), (72, [e12]), (128, [e30]), (30, [e13]), (31, [e14])]
theorem T36_ok : TableOK Go.Proofs.Tryz.prog globs 11 T36 := (.cons (.cons e24_ok rfl (.cons e32_ok rfl (.cons e34_ok rfl (.cons e35_ok rfl .nil)))) (.cons (.cons e23_ok rfl (.cons e33_ok rfl .nil)) (.cons (.cons e31_ok rfl .nil) (.cons (.cons e21_ok rfl .nil) (.cons (.cons e18_ok rfl .nil) (.cons (.cons e15_ok rfl .nil) (.cons (.cons e12_ok rfl .nil) (.cons (.cons e30_ok rfl .nil) (.cons (.cons e13_ok rfl .nil) (.cons (.cons e14_ok rfl .nil) .nil))))))))))
theorem e36_ok : EntryOK Go.Proofs.Tryz.prog globs 11 e36 := chkEntry_ok (ids := [339, 362]) (runM_ok mixed globsBelow T36_ok (fuel := 100000) 60) (by decide +kernel)

-- observatory/repair.subject: 90 operations, met 3 times
def e37 : Entry := ⟨47, needs, [d13, d7, d4, (.agg [(.c (.int .i64 (.ofNat 1))), (.c (.int .i64 (.ofNat 0))), (.c (.int .i64 (.ofNat 0))), (.sl [(.c (.int .i64 (.ofNat 40)))] 1 1)])], (.str 277 2276722219703221983384336644708878982140199773127389303170793853295211716057443324892842602794506907414697336790464776840890223005180223364913373137827031993274246313525926053679666706492167566586128277895619647985501200764229947576402418967261119080787756239727346341894041364425138578424116037891543572502058601670190664976501150046759151580174394263832798496730738709780520173318034542042270057049933771699271652322260809929182114549204702700591956642828354947535623423036178908181217218039991609420770235722776439586035414487757754846796870826803609907523171441467110517790673517705069438647725843273550556169260076129564316301939225637897882429410505801310679089), []⟩
def T37 : Table := [(72, [e12])]
theorem T37_ok : TableOK Go.Proofs.Tryz.prog globs 11 T37 := (.cons (.cons e12_ok rfl .nil) .nil)
theorem e37_ok : EntryOK Go.Proofs.Tryz.prog globs 11 e37 := chkEntry_ok (ids := []) (runM_ok mixed globsBelow T37_ok (fuel := 100000) 60) (by decide +kernel)

-- observatory/repair.Suffix: 737 operations, met 3 times
def e38 : Entry := ⟨8, [], [d9, d7, (.c (.int .i64 (.ofNat 1)))], (.tup [(.agg [(.int .i64 (.ofNat 1)), (.int .i64 (.ofNat 1)), .nils, .nils, .nils, (.sliceO 13 0 3 4), .nils]), (.int .i64 (.ofNat 0))]), [.cells 45 [(.int .i64 (.ofNat 1)), (.int .i64 (.ofNat 0)), (.int .i64 (.negSucc 0)), (.int .i64 (.ofNat 0)), (.int .i64 (.ofNat 2)), (.int .i64 (.ofNat 0)), (.int .i64 (.ofNat 0)), (.int .i64 (.ofNat 0)), (.int .i64 (.ofNat 3)), (.int .i64 (.ofNat 0)), (.int .i64 (.ofNat 0)), (.int .i64 (.ofNat 9))] true 0 false]⟩
def T38 : Table := []
theorem T38_ok : TableOK Go.Proofs.Tryz.prog globs 11 T38 := .nil
theorem e38_ok : EntryOK Go.Proofs.Tryz.prog globs 11 e38 := chkEntry_ok (ids := [40]) (runM_ok mixed globsBelow T38_ok (fuel := 100000) 60) (by decide +kernel)

-- observatory/model.Key: 3693 operations, met 4 times
def e39 : Entry := ⟨218, [], [d11], (.str 51 124272671633415172660491703526376520398978141516088726762551623067586393349417850295940481685540246113262713245853732053041), []⟩
def T39 : Table := []
theorem T39_ok : TableOK Go.Proofs.Tryz.prog globs 11 T39 := .nil
theorem e39_ok : EntryOK Go.Proofs.Tryz.prog globs 11 e39 := chkEntry_ok (ids := []) (runM_ok mixed globsBelow T39_ok (fuel := 100000) 60) (by decide +kernel)

-- observatory/rational.lowest: 5 operations, met 2 times
def e40 : Entry := ⟨472, [], [(.c (.bool false)), (.c (.str 1 48)), (.c (.str 1 49))], (.agg [(.bool false), (.str 1 48), (.str 1 49)]), []⟩
def T40 : Table := []
theorem T40_ok : TableOK Go.Proofs.Tryz.prog globs 11 T40 := .nil
theorem e40_ok : EntryOK Go.Proofs.Tryz.prog globs 11 e40 := chkEntry_ok (ids := []) (runM_ok mixed globsBelow T40_ok (fuel := 100000) 60) (by decide +kernel)

-- observatory/rational.Of: 616 operations, met 14 times
def e41 : Entry := ⟨326, [], [(.c (.int .i64 (.ofNat 0))), (.c (.int .i64 (.ofNat 1)))], (.tup [(.agg [(.bool false), (.str 1 48), (.str 1 49)]), (.int .i64 (.ofNat 0))]), []⟩
def T41 : Table := [(472, [e40])]
theorem T41_ok : TableOK Go.Proofs.Tryz.prog globs 11 T41 := (.cons (.cons e40_ok rfl .nil) .nil)
theorem e41_ok : EntryOK Go.Proofs.Tryz.prog globs 11 e41 := chkEntry_ok (ids := []) (runM_ok mixed globsBelow T41_ok (fuel := 100000) 60) (by decide +kernel)

-- observatory/rational.Valid: 542 operations, met 20 times
def e42 : Entry := ⟨333, [], [(.agg [(.c (.bool false)), (.c (.str 1 48)), (.c (.str 1 49))])], (.bool true), []⟩
def T42 : Table := []
theorem T42_ok : TableOK Go.Proofs.Tryz.prog globs 11 T42 := .nil
theorem e42_ok : EntryOK Go.Proofs.Tryz.prog globs 11 e42 := chkEntry_ok (ids := []) (runM_ok mixed globsBelow T42_ok (fuel := 100000) 60) (by decide +kernel)


end
end Go.Proofs.YtbokoinmlbipmaaGreatDoor.Hd
