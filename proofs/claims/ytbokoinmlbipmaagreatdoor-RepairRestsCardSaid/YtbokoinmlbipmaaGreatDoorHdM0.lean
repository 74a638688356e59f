/- Calls that are known, part 0: what each comes to, in whatever memory. Printed by a program (wip/tools/Mem.lean). 89602 operations. -/
import Derived.Test.YtbokoinmlbipmaaGreatDoorHdD
namespace Go.Proofs.YtbokoinmlbipmaaGreatDoor.Hd
open Go Go.Proofs.YtbokoinmlbipmaaGreatDoor.Ev
noncomputable section

-- observatory/lexer.Lex: 1499 operations, met 8 times
def e0 : Entry := ⟨128, [], [(.c (.str 1 116))], (.tup [(.sliceO 11 0 1 4), (.int .i64 (.ofNat 0)), (.int .i64 (.ofNat 0))]), [.cells 283 [(.int .i64 (.ofNat 1)), (.str 1 116), (.int .i64 (.ofNat 0)), (.int .i64 (.ofNat 0))] true 0 false]⟩
def T0 : Table := []
theorem T0_ok : TableOK Go.Proofs.Tryz.prog globs 11 T0 := .nil
theorem e0_ok : EntryOK Go.Proofs.Tryz.prog globs 11 e0 := chkEntry_ok (ids := [19]) (runM_ok mixed globsBelow T0_ok (fuel := 100000) 60) (by decide +kernel)

-- observatory/lexer.Lex: 1499 operations, met 2 times
def e1 : Entry := ⟨128, [], [(.c (.str 1 112))], (.tup [(.sliceO 11 0 1 4), (.int .i64 (.ofNat 0)), (.int .i64 (.ofNat 0))]), [.cells 283 [(.int .i64 (.ofNat 1)), (.str 1 112), (.int .i64 (.ofNat 0)), (.int .i64 (.ofNat 0))] true 0 false]⟩
def T1 : Table := []
theorem T1_ok : TableOK Go.Proofs.Tryz.prog globs 11 T1 := .nil
theorem e1_ok : EntryOK Go.Proofs.Tryz.prog globs 11 e1 := chkEntry_ok (ids := [19]) (runM_ok mixed globsBelow T1_ok (fuel := 100000) 60) (by decide +kernel)

-- observatory/lexer.Lex: 1568 operations, met 1 times
def e2 : Entry := ⟨128, [], [(.c (.str 2 12401))], (.tup [(.sliceO 11 0 1 4), (.int .i64 (.ofNat 0)), (.int .i64 (.ofNat 0))]), [.cells 283 [(.int .i64 (.ofNat 1)), (.str 2 12401), (.int .i64 (.ofNat 0)), (.int .i64 (.ofNat 0))] true 0 false]⟩
def T2 : Table := []
theorem T2_ok : TableOK Go.Proofs.Tryz.prog globs 11 T2 := .nil
theorem e2_ok : EntryOK Go.Proofs.Tryz.prog globs 11 e2 := chkEntry_ok (ids := [19]) (runM_ok mixed globsBelow T2_ok (fuel := 100000) 60) (by decide +kernel)

-- observatory/lexer.Lex: 1847 operations, met 5 times
def e3 : Entry := ⟨128, [], [(.c (.str 7 32496484606962017))], (.tup [(.sliceO 11 0 1 4), (.int .i64 (.ofNat 0)), (.int .i64 (.ofNat 0))]), [.cells 283 [(.int .i64 (.ofNat 1)), (.str 7 32496484606962017), (.int .i64 (.ofNat 0)), (.int .i64 (.ofNat 0))] true 0 false]⟩
def T3 : Table := []
theorem T3_ok : TableOK Go.Proofs.Tryz.prog globs 11 T3 := .nil
theorem e3_ok : EntryOK Go.Proofs.Tryz.prog globs 11 e3 := chkEntry_ok (ids := [19]) (runM_ok mixed globsBelow T3_ok (fuel := 100000) 60) (by decide +kernel)

-- observatory/lexer.Lex: 1731 operations, met 5 times
def e4 : Entry := ⟨128, [], [(.c (.str 5 491260308579))], (.tup [(.sliceO 11 0 1 4), (.int .i64 (.ofNat 0)), (.int .i64 (.ofNat 0))]), [.cells 283 [(.int .i64 (.ofNat 1)), (.str 5 491260308579), (.int .i64 (.ofNat 0)), (.int .i64 (.ofNat 0))] true 0 false]⟩
def T4 : Table := []
theorem T4_ok : TableOK Go.Proofs.Tryz.prog globs 11 T4 := .nil
theorem e4_ok : EntryOK Go.Proofs.Tryz.prog globs 11 e4 := chkEntry_ok (ids := [19]) (runM_ok mixed globsBelow T4_ok (fuel := 100000) 60) (by decide +kernel)

-- observatory/lexer.Lex: 1789 operations, met 5 times
def e5 : Entry := ⟨128, [], [(.c (.str 6 113723912316275))], (.tup [(.sliceO 11 0 1 4), (.int .i64 (.ofNat 0)), (.int .i64 (.ofNat 0))]), [.cells 283 [(.int .i64 (.ofNat 1)), (.str 6 113723912316275), (.int .i64 (.ofNat 0)), (.int .i64 (.ofNat 0))] true 0 false]⟩
def T5 : Table := []
theorem T5_ok : TableOK Go.Proofs.Tryz.prog globs 11 T5 := .nil
theorem e5_ok : EntryOK Go.Proofs.Tryz.prog globs 11 e5 := chkEntry_ok (ids := [19]) (runM_ok mixed globsBelow T5_ok (fuel := 100000) 60) (by decide +kernel)

-- observatory/lexer.Lex: 1615 operations, met 5 times
def e6 : Entry := ⟨128, [], [(.c (.str 3 6645601))], (.tup [(.sliceO 11 0 1 4), (.int .i64 (.ofNat 0)), (.int .i64 (.ofNat 0))]), [.cells 283 [(.int .i64 (.ofNat 1)), (.str 3 6645601), (.int .i64 (.ofNat 0)), (.int .i64 (.ofNat 0))] true 0 false]⟩
def T6 : Table := []
theorem T6_ok : TableOK Go.Proofs.Tryz.prog globs 11 T6 := .nil
theorem e6_ok : EntryOK Go.Proofs.Tryz.prog globs 11 e6 := chkEntry_ok (ids := [19]) (runM_ok mixed globsBelow T6_ok (fuel := 100000) 60) (by decide +kernel)

-- observatory/lexer.Lex: 1731 operations, met 5 times
def e7 : Entry := ⟨128, [], [(.c (.str 5 431349919602))], (.tup [(.sliceO 11 0 1 4), (.int .i64 (.ofNat 0)), (.int .i64 (.ofNat 0))]), [.cells 283 [(.int .i64 (.ofNat 1)), (.str 5 431349919602), (.int .i64 (.ofNat 0)), (.int .i64 (.ofNat 0))] true 0 false]⟩
def T7 : Table := []
theorem T7_ok : TableOK Go.Proofs.Tryz.prog globs 11 T7 := .nil
theorem e7_ok : EntryOK Go.Proofs.Tryz.prog globs 11 e7 := chkEntry_ok (ids := [19]) (runM_ok mixed globsBelow T7_ok (fuel := 100000) 60) (by decide +kernel)

-- observatory/lexer.Lex: 1673 operations, met 5 times
def e8 : Entry := ⟨128, [], [(.c (.str 4 1885697139))], (.tup [(.sliceO 11 0 1 4), (.int .i64 (.ofNat 0)), (.int .i64 (.ofNat 0))]), [.cells 283 [(.int .i64 (.ofNat 1)), (.str 4 1885697139), (.int .i64 (.ofNat 0)), (.int .i64 (.ofNat 0))] true 0 false]⟩
def T8 : Table := []
theorem T8_ok : TableOK Go.Proofs.Tryz.prog globs 11 T8 := .nil
theorem e8_ok : EntryOK Go.Proofs.Tryz.prog globs 11 e8 := chkEntry_ok (ids := [19]) (runM_ok mixed globsBelow T8_ok (fuel := 100000) 60) (by decide +kernel)

-- observatory/lexer.Lex: 1847 operations, met 5 times
def e9 : Entry := ⟨128, [], [(.c (.str 7 28538298379821410))], (.tup [(.sliceO 11 0 1 4), (.int .i64 (.ofNat 0)), (.int .i64 (.ofNat 0))]), [.cells 283 [(.int .i64 (.ofNat 1)), (.str 7 28538298379821410), (.int .i64 (.ofNat 0)), (.int .i64 (.ofNat 0))] true 0 false]⟩
def T9 : Table := []
theorem T9_ok : TableOK Go.Proofs.Tryz.prog globs 11 T9 := .nil
theorem e9_ok : EntryOK Go.Proofs.Tryz.prog globs 11 e9 := chkEntry_ok (ids := [19]) (runM_ok mixed globsBelow T9_ok (fuel := 100000) 60) (by decide +kernel)

-- observatory/bound.ranges: 590 operations, met 2 times
def e10 : Entry := ⟨236, [], [(.sl [(.c (.str 7 32496484606962017)), (.c (.int .i64 (.ofNat 1000))), (.c (.int .i64 (.ofNat 9000))), (.c (.str 5 491260308579)), (.c (.int .i64 (.ofNat 0))), (.c (.int .i64 (.ofNat 1000))), (.c (.str 6 113723912316275)), (.c (.int .i64 (.ofNat 1))), (.c (.int .i64 (.ofNat 100))), (.c (.str 3 6645601)), (.c (.int .i64 (.ofNat 0))), (.c (.int .i64 (.ofNat 38399))), (.c (.str 5 431349919602)), (.c (.int .i64 (.ofNat 0))), (.c (.int .i64 (.ofNat 100))), (.c (.str 4 1885697139)), (.c (.int .i64 (.ofNat 0))), (.c (.int .i64 (.ofNat 39))), (.c (.str 7 28538298379821410)), (.c (.int .i64 (.negSucc 999999))), (.c (.int .i64 (.ofNat 1000000)))] 7 7)], (.tup [(.map 12), (.bool true)]), [.map [((.str 7 32496484606962017), (.agg [(.int .i64 (.ofNat 1000)), (.int .i64 (.ofNat 9000))]), 0), ((.str 5 491260308579), (.agg [(.int .i64 (.ofNat 0)), (.int .i64 (.ofNat 1000))]), 1), ((.str 6 113723912316275), (.agg [(.int .i64 (.ofNat 1)), (.int .i64 (.ofNat 100))]), 2), ((.str 3 6645601), (.agg [(.int .i64 (.ofNat 0)), (.int .i64 (.ofNat 38399))]), 3), ((.str 5 431349919602), (.agg [(.int .i64 (.ofNat 0)), (.int .i64 (.ofNat 100))]), 4), ((.str 4 1885697139), (.agg [(.int .i64 (.ofNat 0)), (.int .i64 (.ofNat 39))]), 5), ((.str 7 28538298379821410), (.agg [(.int .i64 (.negSucc 999999)), (.int .i64 (.ofNat 1000000))]), 6)] 7]⟩
def T10 : Table := [(128, [e3, e4, e5, e6, e7, e8, e9])]
theorem T10_ok : TableOK Go.Proofs.Tryz.prog globs 11 T10 := (.cons (.cons e3_ok rfl (.cons e4_ok rfl (.cons e5_ok rfl (.cons e6_ok rfl (.cons e7_ok rfl (.cons e8_ok rfl (.cons e9_ok rfl .nil))))))) .nil)
theorem e10_ok : EntryOK Go.Proofs.Tryz.prog globs 11 e10 := chkEntry_ok (ids := [12]) (runM_ok mixed globsBelow T10_ok (fuel := 100000) 60) (by decide +kernel)

-- observatory/lexer.Lex: 1568 operations, met 1 times
def e11 : Entry := ⟨128, [], [(.c (.str 2 12657))], (.tup [(.sliceO 11 0 1 4), (.int .i64 (.ofNat 0)), (.int .i64 (.ofNat 0))]), [.cells 283 [(.int .i64 (.ofNat 1)), (.str 2 12657), (.int .i64 (.ofNat 0)), (.int .i64 (.ofNat 0))] true 0 false]⟩
def T11 : Table := []
theorem T11_ok : TableOK Go.Proofs.Tryz.prog globs 11 T11 := .nil
theorem e11_ok : EntryOK Go.Proofs.Tryz.prog globs 11 e11 := chkEntry_ok (ids := [19]) (runM_ok mixed globsBelow T11_ok (fuel := 100000) 60) (by decide +kernel)

-- observatory/flow.Valid: 376 operations, met 42 times
def e12 : Entry := ⟨72, [], [d5], (.bool true), []⟩
def T12 : Table := [(128, [e1])]
theorem T12_ok : TableOK Go.Proofs.Tryz.prog globs 11 T12 := (.cons (.cons e1_ok rfl .nil) .nil)
theorem e12_ok : EntryOK Go.Proofs.Tryz.prog globs 11 e12 := chkEntry_ok (ids := []) (runM_ok mixed globsBelow T12_ok (fuel := 100000) 60) (by decide +kernel)

-- observatory/feasible.Valid: 2358 operations, met 15 times
def e13 : Entry := ⟨30, [], [d13], (.bool true), []⟩
def T13 : Table := [(72, [e12]), (128, [e0, e1, e2, e11]), (236, [e10])]
theorem T13_ok : TableOK Go.Proofs.Tryz.prog globs 11 T13 := (.cons (.cons e12_ok rfl .nil) (.cons (.cons e0_ok rfl (.cons e1_ok rfl (.cons e2_ok rfl (.cons e11_ok rfl .nil)))) (.cons (.cons e10_ok rfl .nil) .nil)))
theorem e13_ok : EntryOK Go.Proofs.Tryz.prog globs 11 e13 := chkEntry_ok (ids := []) (runM_ok mixed globsBelow T13_ok (fuel := 100000) 60) (by decide +kernel)

-- observatory/model.Script: 524 operations, met 10 times
def e14 : Entry := ⟨31, [], [d13, d9], (.bool true), []⟩
def T14 : Table := [(30, [e13])]
theorem T14_ok : TableOK Go.Proofs.Tryz.prog globs 11 T14 := (.cons (.cons e13_ok rfl .nil) .nil)
theorem e14_ok : EntryOK Go.Proofs.Tryz.prog globs 11 e14 := chkEntry_ok (ids := []) (runM_ok mixed globsBelow T14_ok (fuel := 100000) 60) (by decide +kernel)

-- observatory/model.Start: 131 operations, met 9 times
def e15 : Entry := ⟨82, [], [d13, d9], (.tup [(.agg [(.int .i64 (.ofNat 1)), (.int .i64 (.ofNat 0)), (.slice 23 0 1 1), (.slice 24 0 1 1), (.sliceO 28 0 2 1), (.slice 25 0 1 1), .nils, .nils]), (.int .i64 (.ofNat 0))]), [.cells 196 [(.int .i64 (.ofNat 0)), (.int .i64 (.ofNat 0)), (.bool false)] false 0 false, .cells 140 [(.int .i64 (.ofNat 0)), (.int .i64 (.ofNat 0)), (.int .i64 (.ofNat 0)), (.int .i64 (.ofNat 0))] false 0 false, .cells 3 [(.int .i64 (.ofNat 0))] false 0 false, .cells 465 [(.int .i64 (.ofNat 0)), (.int .i64 (.ofNat 0)), (.int .i64 (.ofNat 0)), (.bool false)] false 0 false, .cells 465 [(.int .i64 (.ofNat 0)), (.int .i64 (.ofNat 0)), (.int .i64 (.ofNat 0)), (.bool false)] false 0 false, .cells 329 [(.slice 26 0 1 1), (.slice 27 0 1 1)] true 0 false]⟩
def T15 : Table := [(31, [e14])]
theorem T15_ok : TableOK Go.Proofs.Tryz.prog globs 11 T15 := (.cons (.cons e14_ok rfl .nil) .nil)
theorem e15_ok : EntryOK Go.Proofs.Tryz.prog globs 11 e15 := chkEntry_ok (ids := [26, 27, 28, 31, 35, 37]) (runM_ok mixed globsBelow T15_ok (fuel := 100000) 60) (by decide +kernel)

-- observatory/rig.Prepare: 11369 operations, met 9 times
def e16 : Entry := ⟨297, [], [d1, (.agg [(.c (.int .i64 (.ofNat 0))), (.c (.int .i64 (.ofNat 0))), (.c (.bool false))]), (.c (.int .i64 (.ofNat 0))), (.c (.int .i64 (.ofNat 0)))], (.tup [(.agg [(.int .i64 (.ofNat 0)), (.int .i64 (.ofNat 0)), (.bool false)]), (.int .i64 (.ofNat 0)), (.int .i64 (.ofNat 0))]), []⟩
def T16 : Table := [(128, [e0])]
theorem T16_ok : TableOK Go.Proofs.Tryz.prog globs 11 T16 := (.cons (.cons e0_ok rfl .nil) .nil)
theorem e16_ok : EntryOK Go.Proofs.Tryz.prog globs 11 e16 := chkEntry_ok (ids := []) (runM_ok mixed globsBelow T16_ok (fuel := 100000) 60) (by decide +kernel)

-- observatory/rig.Prepare: 11572 operations, met 6 times
def e17 : Entry := ⟨297, [], [d1, (.agg [(.c (.int .i64 (.ofNat 0))), (.c (.int .i64 (.ofNat 0))), (.c (.bool false))]), (.c (.int .i64 (.ofNat 1))), (.c (.int .i64 (.ofNat 0)))], (.tup [(.agg [(.int .i64 (.ofNat 1)), (.int .i64 (.ofNat 0)), (.bool false)]), (.int .i64 (.ofNat 1)), (.int .i64 (.ofNat 0))]), []⟩
def T17 : Table := [(128, [e0])]
theorem T17_ok : TableOK Go.Proofs.Tryz.prog globs 11 T17 := (.cons (.cons e0_ok rfl .nil) .nil)
theorem e17_ok : EntryOK Go.Proofs.Tryz.prog globs 11 e17 := chkEntry_ok (ids := []) (runM_ok mixed globsBelow T17_ok (fuel := 100000) 60) (by decide +kernel)

-- observatory/feasible.Requests: 5305 operations, met 16 times
def e18 : Entry := ⟨158, [], [d13, d9, d11, (.c (.int .i64 (.ofNat 0)))], (.tup [(.sliceO 29 0 2 5), .nils, (.int .i64 (.ofNat 0))]), [.cells 153 [(.int .i64 (.ofNat 0)), (.int .i64 (.ofNat 0)), (.int .i64 (.ofNat 0)), (.int .i64 (.ofNat 10)), (.bool false), (.int .i64 (.ofNat 1)), (.int .i64 (.ofNat 1)), (.int .i64 (.ofNat 0)), (.int .i64 (.ofNat 30)), (.bool false)] true 0 false]⟩
def T18 : Table := [(297, [e16, e17]), (128, [e0, e3, e4, e5, e6, e7, e8, e9]), (30, [e13])]
theorem T18_ok : TableOK Go.Proofs.Tryz.prog globs 11 T18 := (.cons (.cons e16_ok rfl (.cons e17_ok rfl .nil)) (.cons (.cons e0_ok rfl (.cons e3_ok rfl (.cons e4_ok rfl (.cons e5_ok rfl (.cons e6_ok rfl (.cons e7_ok rfl (.cons e8_ok rfl (.cons e9_ok rfl .nil)))))))) (.cons (.cons e13_ok rfl .nil) .nil)))
theorem e18_ok : EntryOK Go.Proofs.Tryz.prog globs 11 e18 := chkEntry_ok (ids := [277]) (runM_ok mixed globsBelow T18_ok (fuel := 100000) 60) (by decide +kernel)

-- observatory/apportion.Share: 39010 operations, met 1 times
def e19 : Entry := ⟨282, [], [(.c (.int .i64 (.ofNat 720))), (.sl [(.c (.int .i64 (.ofNat 1)))] 1 1)], (.tup [(.slice 12 0 1 1), (.int .i64 (.ofNat 0))]), [.cells 3 [(.int .i64 (.ofNat 720))] false 0 false]⟩
def T19 : Table := []
theorem T19_ok : TableOK Go.Proofs.Tryz.prog globs 11 T19 := .nil
theorem e19_ok : EntryOK Go.Proofs.Tryz.prog globs 11 e19 := chkEntry_ok (ids := [2173]) (runM_ok mixed globsBelow T19_ok (fuel := 100000) 60) (by decide +kernel)


end
end Go.Proofs.YtbokoinmlbipmaaGreatDoor.Hd
