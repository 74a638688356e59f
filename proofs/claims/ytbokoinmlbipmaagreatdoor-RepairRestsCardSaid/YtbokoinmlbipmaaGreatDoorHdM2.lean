/- Calls that are known, part 2: what each comes to, in whatever memory. Printed by a program (wip/tools/Mem.lean). 99537 operations. -/
import Derived.Test.YtbokoinmlbipmaaGreatDoorHdM1
namespace Go.Proofs.YtbokoinmlbipmaaGreatDoor.Hd
open Go Go.Proofs.YtbokoinmlbipmaaGreatDoor.Ev
noncomputable section

-- observatory/natural.both: 6862 operations, met 2 times
def e43 : Entry := ⟨561, needs, [(.c (.str 3 3160113)), (.c (.str 4 808727601)), (.c (.func 562 [] []))], (.tup [(.str 3 3160113), (.int .i64 (.ofNat 0))]), []⟩
def T43 : Table := []
theorem T43_ok : TableOK Go.Proofs.Tryz.prog globs 11 T43 := .nil
theorem e43_ok : EntryOK Go.Proofs.Tryz.prog globs 11 e43 := chkEntry_ok (ids := []) (runM_ok mixed globsBelow T43_ok (fuel := 100000) 60) (by decide +kernel)

-- observatory/rational.lowest: 6873 operations, met 1 times
def e44 : Entry := ⟨472, needs, [(.c (.bool false)), (.c (.str 3 3160113)), (.c (.str 4 808727601))], (.agg [(.bool false), (.str 1 49), (.str 1 56)]), []⟩
def T44 : Table := [(561, [e43])]
theorem T44_ok : TableOK Go.Proofs.Tryz.prog globs 11 T44 := (.cons (.cons e43_ok rfl .nil) .nil)
theorem e44_ok : EntryOK Go.Proofs.Tryz.prog globs 11 e44 := chkEntry_ok (ids := []) (runM_ok mixed globsBelow T44_ok (fuel := 100000) 60) (by decide +kernel)

-- observatory/rational.Of: 58 operations, met 2 times
def e45 : Entry := ⟨326, needs, [(.c (.int .i64 (.ofNat 180))), (.c (.int .i64 (.ofNat 1440)))], (.tup [(.agg [(.bool false), (.str 1 49), (.str 1 56)]), (.int .i64 (.ofNat 0))]), []⟩
def T45 : Table := [(472, [e44])]
theorem T45_ok : TableOK Go.Proofs.Tryz.prog globs 11 T45 := (.cons (.cons e44_ok rfl .nil) .nil)
theorem e45_ok : EntryOK Go.Proofs.Tryz.prog globs 11 e45 := chkEntry_ok (ids := []) (runM_ok mixed globsBelow T45_ok (fuel := 100000) 60) (by decide +kernel)

-- observatory/exec.Full: 1411 operations, met 1 times
def e46 : Entry := ⟨306, [], [d5, (.sl [(.c (.int .i64 (.ofNat 0))), (.c (.int .i64 (.ofNat 0))), (.c (.int .i64 (.ofNat 0))), (.c (.int .i64 (.ofNat 0))), (.c (.int .i64 (.ofNat 0))), (.c (.int .i64 (.ofNat 0))), (.c (.int .i64 (.ofNat 0))), (.c (.int .i64 (.ofNat 0))), (.c (.int .i64 (.ofNat 0))), (.c (.int .i64 (.ofNat 0))), (.c (.int .i64 (.ofNat 0))), (.c (.int .i64 (.ofNat 0))), (.c (.int .i64 (.ofNat 1))), (.c (.int .i64 (.ofNat 1))), (.c (.int .i64 (.ofNat 1))), (.c (.int .i64 (.ofNat 1)))] 4 4)], (.tup [(.agg [(.bool false), (.bool false), (.bool false), (.bool false)]), (.int .i64 (.ofNat 0))]), []⟩
def T46 : Table := [(72, [e12])]
theorem T46_ok : TableOK Go.Proofs.Tryz.prog globs 11 T46 := (.cons (.cons e12_ok rfl .nil) .nil)
theorem e46_ok : EntryOK Go.Proofs.Tryz.prog globs 11 e46 := chkEntry_ok (ids := []) (runM_ok mixed globsBelow T46_ok (fuel := 100000) 60) (by decide +kernel)

-- observatory/model.Apply: 5257 operations, met 2 times
def e47 : Entry := ⟨84, [], [d13, d9, d7, d11, (.c (.int .i64 (.ofNat 0))), (.agg [(.c (.int .i64 (.ofNat 0))), (.c (.int .i64 (.ofNat 0))), (.c (.int .i64 (.ofNat 0))), (.c (.int .i64 (.ofNat 0)))])], (.tup [(.agg [(.int .i64 (.ofNat 2)), (.int .i64 (.ofNat 0)), (.sliceO 30 0 1 3), (.sliceO 31 0 1 4), (.sliceO 32 0 2 1), (.slice 33 0 1 1), .nils, .nils]), (.int .i64 (.ofNat 0))]), [.cells 196 [(.int .i64 (.ofNat 0)), (.int .i64 (.ofNat 0)), (.bool false)] true 0 false, .cells 140 [(.int .i64 (.ofNat 0)), (.int .i64 (.ofNat 0)), (.int .i64 (.ofNat 0)), (.int .i64 (.ofNat 0))] true 0 false, .cells 329 [(.sliceO 34 0 1 4), (.slice 28 0 1 1)] true 0 false, .cells 3 [(.int .i64 (.ofNat 1))] false 0 false, .cells 465 [(.int .i64 (.ofNat 0)), (.int .i64 (.ofNat 1)), (.int .i64 (.ofNat 1)), (.bool true)] true 0 false]⟩
def T47 : Table := [(306, [e46]), (297, [e16]), (158, [e18]), (72, [e12]), (128, [e28]), (85, [e22])]
theorem T47_ok : TableOK Go.Proofs.Tryz.prog globs 11 T47 := (.cons (.cons e46_ok rfl .nil) (.cons (.cons e16_ok rfl .nil) (.cons (.cons e18_ok rfl .nil) (.cons (.cons e12_ok rfl .nil) (.cons (.cons e28_ok rfl .nil) (.cons (.cons e22_ok rfl .nil) .nil))))))
theorem e47_ok : EntryOK Go.Proofs.Tryz.prog globs 11 e47 := chkEntry_ok (ids := [42, 44, 46, 76, 90]) (runM_ok mixed globsBelow T47_ok (fuel := 100000) 60) (by decide +kernel)

-- observatory/repair.Suffix: 110 operations, met 2 times
def e48 : Entry := ⟨8, [], [d9, d7, (.c (.int .i64 (.ofNat 2)))], (.tup [(.agg [(.int .i64 (.ofNat 1)), (.int .i64 (.ofNat 1)), .nils, .nils, .nils, .nils, .nils]), (.int .i64 (.ofNat 0))]), []⟩
def T48 : Table := []
theorem T48_ok : TableOK Go.Proofs.Tryz.prog globs 11 T48 := .nil
theorem e48_ok : EntryOK Go.Proofs.Tryz.prog globs 11 e48 := chkEntry_ok (ids := []) (runM_ok mixed globsBelow T48_ok (fuel := 100000) 60) (by decide +kernel)

-- observatory/model.Key: 3693 operations, met 4 times
def e49 : Entry := ⟨218, [], [(.agg [(.c (.int .i64 (.ofNat 2))), (.c (.int .i64 (.ofNat 0))), (.slO [(.c (.int .i64 (.ofNat 0))), (.c (.int .i64 (.ofNat 0))), (.c (.bool false))] 1 3), (.slO [(.c (.int .i64 (.ofNat 0))), (.c (.int .i64 (.ofNat 0))), (.c (.int .i64 (.ofNat 0))), (.c (.int .i64 (.ofNat 0)))] 1 4), d2, (.sl [(.c (.int .i64 (.ofNat 1)))] 1 1), (.c .nils), (.c .nils)])], (.str 51 124272671634016399561681804832716227431756211910890757606413073429538667938985761665175264270241537137805492129047939915826), []⟩
def T49 : Table := []
theorem T49_ok : TableOK Go.Proofs.Tryz.prog globs 11 T49 := .nil
theorem e49_ok : EntryOK Go.Proofs.Tryz.prog globs 11 e49 := chkEntry_ok (ids := []) (runM_ok mixed globsBelow T49_ok (fuel := 100000) 60) (by decide +kernel)

-- observatory/natural.both: 1060 operations, met 4 times
def e50 : Entry := ⟨561, [], [(.c (.str 1 48)), (.c (.str 1 49)), (.c (.func 615 [] []))], (.tup [(.str 1 48), (.int .i64 (.ofNat 0))]), []⟩
def T50 : Table := []
theorem T50_ok : TableOK Go.Proofs.Tryz.prog globs 11 T50 := .nil
theorem e50_ok : EntryOK Go.Proofs.Tryz.prog globs 11 e50 := chkEntry_ok (ids := []) (runM_ok mixed globsBelow T50_ok (fuel := 100000) 60) (by decide +kernel)

-- observatory/natural.both: 1251 operations, met 3 times
def e51 : Entry := ⟨561, [], [(.c (.str 1 49)), (.c (.str 1 49)), (.c (.func 615 [] []))], (.tup [(.str 1 49), (.int .i64 (.ofNat 0))]), []⟩
def T51 : Table := []
theorem T51_ok : TableOK Go.Proofs.Tryz.prog globs 11 T51 := .nil
theorem e51_ok : EntryOK Go.Proofs.Tryz.prog globs 11 e51 := chkEntry_ok (ids := []) (runM_ok mixed globsBelow T51_ok (fuel := 100000) 60) (by decide +kernel)

-- observatory/natural.both: 931 operations, met 1 times
def e52 : Entry := ⟨561, [], [(.c (.str 1 48)), (.c (.str 1 48)), (.c (.func 616 [] []))], (.tup [(.str 1 48), (.int .i64 (.ofNat 0))]), []⟩
def T52 : Table := []
theorem T52_ok : TableOK Go.Proofs.Tryz.prog globs 11 T52 := .nil
theorem e52_ok : EntryOK Go.Proofs.Tryz.prog globs 11 e52 := chkEntry_ok (ids := []) (runM_ok mixed globsBelow T52_ok (fuel := 100000) 60) (by decide +kernel)

-- observatory/rational.Add: 193 operations, met 14 times
def e53 : Entry := ⟨343, [], [(.agg [(.c (.bool false)), (.c (.str 1 48)), (.c (.str 1 49))]), (.agg [(.c (.bool false)), (.c (.str 1 48)), (.c (.str 1 49))])], (.tup [(.agg [(.bool false), (.str 1 48), (.str 1 49)]), (.int .i64 (.ofNat 0))]), []⟩
def T53 : Table := [(472, [e40]), (561, [e50, e51, e52]), (333, [e42])]
theorem T53_ok : TableOK Go.Proofs.Tryz.prog globs 11 T53 := (.cons (.cons e40_ok rfl .nil) (.cons (.cons e50_ok rfl (.cons e51_ok rfl (.cons e52_ok rfl .nil))) (.cons (.cons e42_ok rfl .nil) .nil)))
theorem e53_ok : EntryOK Go.Proofs.Tryz.prog globs 11 e53 := chkEntry_ok (ids := []) (runM_ok mixed globsBelow T53_ok (fuel := 100000) 60) (by decide +kernel)

-- observatory/exec.Full: 1411 operations, met 1 times
def e54 : Entry := ⟨306, [], [d5, (.sl [(.c (.int .i64 (.ofNat 20))), (.c (.int .i64 (.ofNat 20))), (.c (.int .i64 (.ofNat 20))), (.c (.int .i64 (.ofNat 20))), (.c (.int .i64 (.ofNat 0))), (.c (.int .i64 (.ofNat 0))), (.c (.int .i64 (.ofNat 0))), (.c (.int .i64 (.ofNat 0))), (.c (.int .i64 (.ofNat 20))), (.c (.int .i64 (.ofNat 20))), (.c (.int .i64 (.ofNat 20))), (.c (.int .i64 (.ofNat 20))), (.c (.int .i64 (.ofNat 1))), (.c (.int .i64 (.ofNat 1))), (.c (.int .i64 (.ofNat 1))), (.c (.int .i64 (.ofNat 1)))] 4 4)], (.tup [(.agg [(.bool false), (.bool false), (.bool false), (.bool false)]), (.int .i64 (.ofNat 0))]), []⟩
def T54 : Table := [(72, [e12])]
theorem T54_ok : TableOK Go.Proofs.Tryz.prog globs 11 T54 := (.cons (.cons e12_ok rfl .nil) .nil)
theorem e54_ok : EntryOK Go.Proofs.Tryz.prog globs 11 e54 := chkEntry_ok (ids := []) (runM_ok mixed globsBelow T54_ok (fuel := 100000) 60) (by decide +kernel)

-- observatory/model.Apply: 5257 operations, met 2 times
def e55 : Entry := ⟨84, [], [d13, d9, d7, d11, (.c (.int .i64 (.ofNat 0))), (.agg [(.c (.int .i64 (.ofNat 20))), (.c (.int .i64 (.ofNat 20))), (.c (.int .i64 (.ofNat 20))), (.c (.int .i64 (.ofNat 20)))])], (.tup [(.agg [(.int .i64 (.ofNat 2)), (.int .i64 (.ofNat 0)), (.sliceO 30 0 1 3), (.sliceO 31 0 1 4), (.sliceO 32 0 2 1), (.slice 33 0 1 1), .nils, .nils]), (.int .i64 (.ofNat 0))]), [.cells 196 [(.int .i64 (.ofNat 0)), (.int .i64 (.ofNat 0)), (.bool false)] true 0 false, .cells 140 [(.int .i64 (.ofNat 0)), (.int .i64 (.ofNat 0)), (.int .i64 (.ofNat 0)), (.int .i64 (.ofNat 0))] true 0 false, .cells 329 [(.sliceO 34 0 1 4), (.slice 28 0 1 1)] true 0 false, .cells 3 [(.int .i64 (.ofNat 1))] false 0 false, .cells 465 [(.int .i64 (.ofNat 0)), (.int .i64 (.ofNat 1)), (.int .i64 (.ofNat 1)), (.bool true)] true 0 false]⟩
def T55 : Table := [(306, [e54]), (297, [e16]), (158, [e18]), (72, [e12]), (128, [e28]), (85, [e22])]
theorem T55_ok : TableOK Go.Proofs.Tryz.prog globs 11 T55 := (.cons (.cons e54_ok rfl .nil) (.cons (.cons e16_ok rfl .nil) (.cons (.cons e18_ok rfl .nil) (.cons (.cons e12_ok rfl .nil) (.cons (.cons e28_ok rfl .nil) (.cons (.cons e22_ok rfl .nil) .nil))))))
theorem e55_ok : EntryOK Go.Proofs.Tryz.prog globs 11 e55 := chkEntry_ok (ids := [42, 44, 46, 76, 90]) (runM_ok mixed globsBelow T55_ok (fuel := 100000) 60) (by decide +kernel)

-- observatory/natural.both: 6925 operations, met 1 times
def e56 : Entry := ⟨561, [], [(.c (.str 1 49)), (.c (.str 1 56)), (.c (.func 562 [] []))], (.tup [(.str 1 49), (.int .i64 (.ofNat 0))]), []⟩
def T56 : Table := []
theorem T56_ok : TableOK Go.Proofs.Tryz.prog globs 11 T56 := .nil
theorem e56_ok : EntryOK Go.Proofs.Tryz.prog globs 11 e56 := chkEntry_ok (ids := []) (runM_ok mixed globsBelow T56_ok (fuel := 100000) 60) (by decide +kernel)

-- observatory/rational.Valid: 564 operations, met 5 times
def e57 : Entry := ⟨333, [], [(.agg [(.c (.bool false)), (.c (.str 1 49)), (.c (.str 1 56))])], (.bool true), []⟩
def T57 : Table := [(561, [e56])]
theorem T57_ok : TableOK Go.Proofs.Tryz.prog globs 11 T57 := (.cons (.cons e56_ok rfl .nil) .nil)
theorem e57_ok : EntryOK Go.Proofs.Tryz.prog globs 11 e57 := chkEntry_ok (ids := []) (runM_ok mixed globsBelow T57_ok (fuel := 100000) 60) (by decide +kernel)

-- observatory/natural.both: 1251 operations, met 4 times
def e58 : Entry := ⟨561, [], [(.c (.str 1 49)), (.c (.str 1 56)), (.c (.func 615 [] []))], (.tup [(.str 1 56), (.int .i64 (.ofNat 0))]), []⟩
def T58 : Table := []
theorem T58_ok : TableOK Go.Proofs.Tryz.prog globs 11 T58 := .nil
theorem e58_ok : EntryOK Go.Proofs.Tryz.prog globs 11 e58 := chkEntry_ok (ids := []) (runM_ok mixed globsBelow T58_ok (fuel := 100000) 60) (by decide +kernel)

-- observatory/rational.lowest: 5 operations, met 2 times
def e59 : Entry := ⟨472, [], [(.c (.bool false)), (.c (.str 1 48)), (.c (.str 1 56))], (.agg [(.bool false), (.str 1 48), (.str 1 49)]), []⟩
def T59 : Table := []
theorem T59_ok : TableOK Go.Proofs.Tryz.prog globs 11 T59 := .nil
theorem e59_ok : EntryOK Go.Proofs.Tryz.prog globs 11 e59 := chkEntry_ok (ids := []) (runM_ok mixed globsBelow T59_ok (fuel := 100000) 60) (by decide +kernel)

-- observatory/rational.Mul: 100 operations, met 4 times
def e60 : Entry := ⟨448, [], [(.agg [(.c (.bool false)), (.c (.str 1 48)), (.c (.str 1 49))]), (.agg [(.c (.bool false)), (.c (.str 1 49)), (.c (.str 1 56))])], (.tup [(.agg [(.bool false), (.str 1 48), (.str 1 49)]), (.int .i64 (.ofNat 0))]), []⟩
def T60 : Table := [(472, [e59]), (561, [e50, e58]), (333, [e42, e57])]
theorem T60_ok : TableOK Go.Proofs.Tryz.prog globs 11 T60 := (.cons (.cons e59_ok rfl .nil) (.cons (.cons e50_ok rfl (.cons e58_ok rfl .nil)) (.cons (.cons e42_ok rfl (.cons e57_ok rfl .nil)) .nil)))
theorem e60_ok : EntryOK Go.Proofs.Tryz.prog globs 11 e60 := chkEntry_ok (ids := []) (runM_ok mixed globsBelow T60_ok (fuel := 100000) 60) (by decide +kernel)

-- observatory/exec.Full: 1411 operations, met 1 times
def e61 : Entry := ⟨306, [], [d5, (.sl [(.c (.int .i64 (.ofNat 60))), (.c (.int .i64 (.ofNat 0))), (.c (.int .i64 (.ofNat 0))), (.c (.int .i64 (.ofNat 0))), (.c (.int .i64 (.ofNat 0))), (.c (.int .i64 (.ofNat 0))), (.c (.int .i64 (.ofNat 0))), (.c (.int .i64 (.ofNat 0))), (.c (.int .i64 (.ofNat 60))), (.c (.int .i64 (.ofNat 0))), (.c (.int .i64 (.ofNat 0))), (.c (.int .i64 (.ofNat 0))), (.c (.int .i64 (.ofNat 1))), (.c (.int .i64 (.ofNat 1))), (.c (.int .i64 (.ofNat 1))), (.c (.int .i64 (.ofNat 1)))] 4 4)], (.tup [(.agg [(.bool true), (.bool false), (.bool false), (.bool false)]), (.int .i64 (.ofNat 0))]), []⟩
def T61 : Table := [(72, [e12])]
theorem T61_ok : TableOK Go.Proofs.Tryz.prog globs 11 T61 := (.cons (.cons e12_ok rfl .nil) .nil)
theorem e61_ok : EntryOK Go.Proofs.Tryz.prog globs 11 e61 := chkEntry_ok (ids := []) (runM_ok mixed globsBelow T61_ok (fuel := 100000) 60) (by decide +kernel)

-- observatory/model.Apply: 5928 operations, met 2 times
def e62 : Entry := ⟨84, [], [d13, d9, d7, d11, (.c (.int .i64 (.ofNat 0))), (.agg [(.c (.int .i64 (.ofNat 60))), (.c (.int .i64 (.ofNat 0))), (.c (.int .i64 (.ofNat 0))), (.c (.int .i64 (.ofNat 0)))])], (.tup [(.agg [(.int .i64 (.ofNat 2)), (.int .i64 (.ofNat 0)), (.sliceO 30 0 1 3), (.sliceO 31 0 1 4), (.sliceO 32 0 2 1), (.slice 33 0 1 1), .nils, (.sliceO 35 0 1 4)]), (.int .i64 (.ofNat 0))]), [.cells 196 [(.int .i64 (.ofNat 0)), (.int .i64 (.ofNat 0)), (.bool false)] true 0 false, .cells 140 [(.int .i64 (.ofNat 0)), (.int .i64 (.ofNat 0)), (.int .i64 (.ofNat 0)), (.int .i64 (.ofNat 0))] true 0 false, .cells 329 [(.sliceO 34 0 1 4), (.slice 28 0 1 1)] true 0 false, .cells 3 [(.int .i64 (.ofNat 1))] false 0 false, .cells 465 [(.int .i64 (.ofNat 0)), (.int .i64 (.ofNat 1)), (.int .i64 (.ofNat 1)), (.bool true)] true 0 false, .cells 548 [(.int .i64 (.ofNat 0)), (.int .i64 (.ofNat 0)), (.int .i64 (.ofNat 0)), (.int .i64 (.ofNat 1))] true 0 false]⟩
def T62 : Table := [(306, [e61]), (297, [e16]), (158, [e18]), (72, [e12]), (128, [e28]), (85, [e22])]
theorem T62_ok : TableOK Go.Proofs.Tryz.prog globs 11 T62 := (.cons (.cons e61_ok rfl .nil) (.cons (.cons e16_ok rfl .nil) (.cons (.cons e18_ok rfl .nil) (.cons (.cons e12_ok rfl .nil) (.cons (.cons e28_ok rfl .nil) (.cons (.cons e22_ok rfl .nil) .nil))))))
theorem e62_ok : EntryOK Go.Proofs.Tryz.prog globs 11 e62 := chkEntry_ok (ids := [42, 44, 46, 76, 90, 292]) (runM_ok mixed globsBelow T62_ok (fuel := 100000) 60) (by decide +kernel)

-- observatory/model.Key: 4234 operations, met 4 times
def e63 : Entry := ⟨218, [], [(.agg [(.c (.int .i64 (.ofNat 2))), (.c (.int .i64 (.ofNat 0))), (.slO [(.c (.int .i64 (.ofNat 0))), (.c (.int .i64 (.ofNat 0))), (.c (.bool false))] 1 3), (.slO [(.c (.int .i64 (.ofNat 0))), (.c (.int .i64 (.ofNat 0))), (.c (.int .i64 (.ofNat 0))), (.c (.int .i64 (.ofNat 0)))] 1 4), d2, (.sl [(.c (.int .i64 (.ofNat 1)))] 1 1), (.c .nils), (.slO [(.c (.int .i64 (.ofNat 0))), (.c (.int .i64 (.ofNat 0))), (.c (.int .i64 (.ofNat 0))), (.c (.int .i64 (.ofNat 1)))] 1 4)])], (.str 59 2340060271613191163956618793299825262565728870158877392524881085777798695478864197133116087663024235963507272156354391108042356939429124251698), []⟩
def T63 : Table := []
theorem T63_ok : TableOK Go.Proofs.Tryz.prog globs 11 T63 := .nil
theorem e63_ok : EntryOK Go.Proofs.Tryz.prog globs 11 e63 := chkEntry_ok (ids := []) (runM_ok mixed globsBelow T63_ok (fuel := 100000) 60) (by decide +kernel)

-- observatory/exec.Full: 1411 operations, met 1 times
def e64 : Entry := ⟨306, [], [d5, (.sl [(.c (.int .i64 (.ofNat 80))), (.c (.int .i64 (.ofNat 20))), (.c (.int .i64 (.ofNat 20))), (.c (.int .i64 (.ofNat 20))), (.c (.int .i64 (.ofNat 0))), (.c (.int .i64 (.ofNat 0))), (.c (.int .i64 (.ofNat 0))), (.c (.int .i64 (.ofNat 0))), (.c (.int .i64 (.ofNat 80))), (.c (.int .i64 (.ofNat 20))), (.c (.int .i64 (.ofNat 20))), (.c (.int .i64 (.ofNat 20))), (.c (.int .i64 (.ofNat 1))), (.c (.int .i64 (.ofNat 1))), (.c (.int .i64 (.ofNat 1))), (.c (.int .i64 (.ofNat 1)))] 4 4)], (.tup [(.agg [(.bool true), (.bool false), (.bool false), (.bool false)]), (.int .i64 (.ofNat 0))]), []⟩
def T64 : Table := [(72, [e12])]
theorem T64_ok : TableOK Go.Proofs.Tryz.prog globs 11 T64 := (.cons (.cons e12_ok rfl .nil) .nil)
theorem e64_ok : EntryOK Go.Proofs.Tryz.prog globs 11 e64 := chkEntry_ok (ids := []) (runM_ok mixed globsBelow T64_ok (fuel := 100000) 60) (by decide +kernel)

-- observatory/model.Apply: 5928 operations, met 2 times
def e65 : Entry := ⟨84, [], [d13, d9, d7, d11, (.c (.int .i64 (.ofNat 0))), (.agg [(.c (.int .i64 (.ofNat 80))), (.c (.int .i64 (.ofNat 20))), (.c (.int .i64 (.ofNat 20))), (.c (.int .i64 (.ofNat 20)))])], (.tup [(.agg [(.int .i64 (.ofNat 2)), (.int .i64 (.ofNat 0)), (.sliceO 30 0 1 3), (.sliceO 31 0 1 4), (.sliceO 32 0 2 1), (.slice 33 0 1 1), .nils, (.sliceO 35 0 1 4)]), (.int .i64 (.ofNat 0))]), [.cells 196 [(.int .i64 (.ofNat 0)), (.int .i64 (.ofNat 0)), (.bool false)] true 0 false, .cells 140 [(.int .i64 (.ofNat 0)), (.int .i64 (.ofNat 0)), (.int .i64 (.ofNat 0)), (.int .i64 (.ofNat 0))] true 0 false, .cells 329 [(.sliceO 34 0 1 4), (.slice 28 0 1 1)] true 0 false, .cells 3 [(.int .i64 (.ofNat 1))] false 0 false, .cells 465 [(.int .i64 (.ofNat 0)), (.int .i64 (.ofNat 1)), (.int .i64 (.ofNat 1)), (.bool true)] true 0 false, .cells 548 [(.int .i64 (.ofNat 0)), (.int .i64 (.ofNat 0)), (.int .i64 (.ofNat 0)), (.int .i64 (.ofNat 1))] true 0 false]⟩
def T65 : Table := [(306, [e64]), (297, [e16]), (158, [e18]), (72, [e12]), (128, [e28]), (85, [e22])]
theorem T65_ok : TableOK Go.Proofs.Tryz.prog globs 11 T65 := (.cons (.cons e64_ok rfl .nil) (.cons (.cons e16_ok rfl .nil) (.cons (.cons e18_ok rfl .nil) (.cons (.cons e12_ok rfl .nil) (.cons (.cons e28_ok rfl .nil) (.cons (.cons e22_ok rfl .nil) .nil))))))
theorem e65_ok : EntryOK Go.Proofs.Tryz.prog globs 11 e65 := chkEntry_ok (ids := [42, 44, 46, 76, 90, 292]) (runM_ok mixed globsBelow T65_ok (fuel := 100000) 60) (by decide +kernel)

-- observatory/natural.both: 18447 operations, met 2 times
def e66 : Entry := ⟨561, needs, [(.c (.str 3 3159093)), (.c (.str 4 808727601)), (.c (.func 562 [] []))], (.tup [(.str 3 3160113), (.int .i64 (.ofNat 0))]), []⟩
def T66 : Table := []
theorem T66_ok : TableOK Go.Proofs.Tryz.prog globs 11 T66 := .nil
theorem e66_ok : EntryOK Go.Proofs.Tryz.prog globs 11 e66 := chkEntry_ok (ids := []) (runM_ok mixed globsBelow T66_ok (fuel := 100000) 60) (by decide +kernel)

-- observatory/rational.lowest: 18458 operations, met 1 times
def e67 : Entry := ⟨472, needs, [(.c (.bool false)), (.c (.str 3 3159093)), (.c (.str 4 808727601))], (.agg [(.bool false), (.str 1 51), (.str 1 56)]), []⟩
def T67 : Table := [(561, [e66])]
theorem T67_ok : TableOK Go.Proofs.Tryz.prog globs 11 T67 := (.cons (.cons e66_ok rfl .nil) .nil)
theorem e67_ok : EntryOK Go.Proofs.Tryz.prog globs 11 e67 := chkEntry_ok (ids := []) (runM_ok mixed globsBelow T67_ok (fuel := 100000) 60) (by decide +kernel)

-- observatory/rational.Of: 64 operations, met 2 times
def e68 : Entry := ⟨326, needs, [(.c (.int .i64 (.ofNat 540))), (.c (.int .i64 (.ofNat 1440)))], (.tup [(.agg [(.bool false), (.str 1 51), (.str 1 56)]), (.int .i64 (.ofNat 0))]), []⟩
def T68 : Table := [(472, [e67])]
theorem T68_ok : TableOK Go.Proofs.Tryz.prog globs 11 T68 := (.cons (.cons e67_ok rfl .nil) .nil)
theorem e68_ok : EntryOK Go.Proofs.Tryz.prog globs 11 e68 := chkEntry_ok (ids := []) (runM_ok mixed globsBelow T68_ok (fuel := 100000) 60) (by decide +kernel)

-- observatory/model.Light: 444 operations, met 1 times
def e69 : Entry := ⟨40, [], [d13, d9, d11, (.agg [(.c (.int .i64 (.ofNat 1))), (.c (.int .i64 (.ofNat 1))), (.c (.int .i64 (.ofNat 0))), (.c (.int .i64 (.ofNat 30))), (.c (.bool false))]), (.slO [(.c (.int .i64 (.ofNat 1))), (.c (.int .i64 (.ofNat 0))), (.c (.int .i64 (.ofNat 0))), (.sl [(.c (.int .i64 (.ofNat 40)))] 1 1)] 1 4)], (.tup [(.agg [(.int .i64 (.ofNat 40)), (.int .i64 (.ofNat 0)), (.int .i64 (.ofNat 0)), (.int .i64 (.ofNat 0))]), (.int .i64 (.ofNat 0))]), []⟩
def T69 : Table := [(85, [e22])]
theorem T69_ok : TableOK Go.Proofs.Tryz.prog globs 11 T69 := (.cons (.cons e22_ok rfl .nil) .nil)
theorem e69_ok : EntryOK Go.Proofs.Tryz.prog globs 11 e69 := chkEntry_ok (ids := []) (runM_ok mixed globsBelow T69_ok (fuel := 100000) 60) (by decide +kernel)


end
end Go.Proofs.YtbokoinmlbipmaaGreatDoor.Hd
