/- Calls that are known, part 3: what each comes to, in whatever memory. Printed by a program (wip/tools/Mem.lean). 99316 operations. -/
import Derived.Test.YtbokoinmlbipmaaGreatDoorHdM2
namespace Go.Proofs.YtbokoinmlbipmaaGreatDoor.Hd
open Go Go.Proofs.YtbokoinmlbipmaaGreatDoor.Ev
noncomputable section

-- observatory/model.Shoot: 706 operations, met 1 times
def e70 : Entry := ⟨41, [], [d13, d9, d11, (.agg [(.c (.int .i64 (.ofNat 40))), (.c (.int .i64 (.ofNat 0))), (.c (.int .i64 (.ofNat 0))), (.c (.int .i64 (.ofNat 0)))]), (.c (.int .i64 (.ofNat 0)))], (.tup [(.agg [(.int .i64 (.ofNat 40)), (.int .i64 (.ofNat 0)), (.int .i64 (.ofNat 0)), (.int .i64 (.ofNat 0))]), (.int .i64 (.ofNat 0))]), []⟩
def T70 : Table := [(85, [e22])]
theorem T70_ok : TableOK Go.Proofs.Tryz.prog globs 11 T70 := (.cons (.cons e22_ok rfl .nil) .nil)
theorem e70_ok : EntryOK Go.Proofs.Tryz.prog globs 11 e70 := chkEntry_ok (ids := []) (runM_ok mixed globsBelow T70_ok (fuel := 100000) 60) (by decide +kernel)

-- observatory/exec.Full: 1411 operations, met 1 times
def e71 : Entry := ⟨306, [], [d5, (.sl [(.c (.int .i64 (.ofNat 40))), (.c (.int .i64 (.ofNat 0))), (.c (.int .i64 (.ofNat 0))), (.c (.int .i64 (.ofNat 0))), (.c (.int .i64 (.ofNat 0))), (.c (.int .i64 (.ofNat 0))), (.c (.int .i64 (.ofNat 0))), (.c (.int .i64 (.ofNat 0))), (.c (.int .i64 (.ofNat 40))), (.c (.int .i64 (.ofNat 0))), (.c (.int .i64 (.ofNat 0))), (.c (.int .i64 (.ofNat 0))), (.c (.int .i64 (.ofNat 1))), (.c (.int .i64 (.ofNat 1))), (.c (.int .i64 (.ofNat 1))), (.c (.int .i64 (.ofNat 1)))] 4 4)], (.tup [(.agg [(.bool false), (.bool false), (.bool false), (.bool false)]), (.int .i64 (.ofNat 0))]), []⟩
def T71 : Table := [(72, [e12])]
theorem T71_ok : TableOK Go.Proofs.Tryz.prog globs 11 T71 := (.cons (.cons e12_ok rfl .nil) .nil)
theorem e71_ok : EntryOK Go.Proofs.Tryz.prog globs 11 e71 := chkEntry_ok (ids := []) (runM_ok mixed globsBelow T71_ok (fuel := 100000) 60) (by decide +kernel)

-- observatory/model.Apply: 5257 operations, met 1 times
def e72 : Entry := ⟨84, [], [d13, d9, d7, d11, (.c (.int .i64 (.ofNat 1))), (.agg [(.c (.int .i64 (.ofNat 40))), (.c (.int .i64 (.ofNat 0))), (.c (.int .i64 (.ofNat 0))), (.c (.int .i64 (.ofNat 0)))])], (.tup [(.agg [(.int .i64 (.ofNat 2)), (.int .i64 (.ofNat 0)), (.sliceO 30 0 1 3), (.sliceO 31 0 1 4), (.sliceO 32 0 2 1), (.slice 33 0 1 1), .nils, .nils]), (.int .i64 (.ofNat 0))]), [.cells 196 [(.int .i64 (.ofNat 1)), (.int .i64 (.ofNat 0)), (.bool false)] true 0 false, .cells 140 [(.int .i64 (.ofNat 0)), (.int .i64 (.ofNat 0)), (.int .i64 (.ofNat 0)), (.int .i64 (.ofNat 0))] true 0 false, .cells 329 [(.slice 27 0 1 1), (.sliceO 34 0 1 4)] true 0 false, .cells 3 [(.int .i64 (.ofNat 1))] false 0 false, .cells 465 [(.int .i64 (.ofNat 0)), (.int .i64 (.ofNat 1)), (.int .i64 (.ofNat 1)), (.bool true)] true 0 false]⟩
def T72 : Table := [(306, [e71]), (297, [e17]), (158, [e18]), (72, [e12]), (128, [e28]), (85, [e22])]
theorem T72_ok : TableOK Go.Proofs.Tryz.prog globs 11 T72 := (.cons (.cons e71_ok rfl .nil) (.cons (.cons e17_ok rfl .nil) (.cons (.cons e18_ok rfl .nil) (.cons (.cons e12_ok rfl .nil) (.cons (.cons e28_ok rfl .nil) (.cons (.cons e22_ok rfl .nil) .nil))))))
theorem e72_ok : EntryOK Go.Proofs.Tryz.prog globs 11 e72 := chkEntry_ok (ids := [42, 44, 46, 76, 90]) (runM_ok mixed globsBelow T72_ok (fuel := 100000) 60) (by decide +kernel)

-- observatory/model.Key: 3693 operations, met 3 times
def e73 : Entry := ⟨218, [], [(.agg [(.c (.int .i64 (.ofNat 2))), (.c (.int .i64 (.ofNat 0))), (.slO [(.c (.int .i64 (.ofNat 1))), (.c (.int .i64 (.ofNat 0))), (.c (.bool false))] 1 3), (.slO [(.c (.int .i64 (.ofNat 0))), (.c (.int .i64 (.ofNat 0))), (.c (.int .i64 (.ofNat 0))), (.c (.int .i64 (.ofNat 0)))] 1 4), d3, (.sl [(.c (.int .i64 (.ofNat 1)))] 1 1), (.c .nils), (.c .nils)])], (.str 51 124272671634016399561821791015121968691447486110034430563021420451345971285012770052231844508425108997372282568895380856882), []⟩
def T73 : Table := []
theorem T73_ok : TableOK Go.Proofs.Tryz.prog globs 11 T73 := .nil
theorem e73_ok : EntryOK Go.Proofs.Tryz.prog globs 11 e73 := chkEntry_ok (ids := []) (runM_ok mixed globsBelow T73_ok (fuel := 100000) 60) (by decide +kernel)

-- observatory/model.Shoot: 706 operations, met 1 times
def e74 : Entry := ⟨41, [], [d13, d9, d11, (.agg [(.c (.int .i64 (.ofNat 40))), (.c (.int .i64 (.ofNat 0))), (.c (.int .i64 (.ofNat 0))), (.c (.int .i64 (.ofNat 0)))]), (.c (.int .i64 (.ofNat 1)))], (.tup [(.agg [(.int .i64 (.ofNat 60)), (.int .i64 (.ofNat 20)), (.int .i64 (.ofNat 20)), (.int .i64 (.ofNat 20))]), (.int .i64 (.ofNat 0))]), []⟩
def T74 : Table := [(85, [e22])]
theorem T74_ok : TableOK Go.Proofs.Tryz.prog globs 11 T74 := (.cons (.cons e22_ok rfl .nil) .nil)
theorem e74_ok : EntryOK Go.Proofs.Tryz.prog globs 11 e74 := chkEntry_ok (ids := []) (runM_ok mixed globsBelow T74_ok (fuel := 100000) 60) (by decide +kernel)

-- observatory/exec.Full: 1411 operations, met 1 times
def e75 : Entry := ⟨306, [], [d5, (.sl [(.c (.int .i64 (.ofNat 60))), (.c (.int .i64 (.ofNat 20))), (.c (.int .i64 (.ofNat 20))), (.c (.int .i64 (.ofNat 20))), (.c (.int .i64 (.ofNat 0))), (.c (.int .i64 (.ofNat 0))), (.c (.int .i64 (.ofNat 0))), (.c (.int .i64 (.ofNat 0))), (.c (.int .i64 (.ofNat 60))), (.c (.int .i64 (.ofNat 20))), (.c (.int .i64 (.ofNat 20))), (.c (.int .i64 (.ofNat 20))), (.c (.int .i64 (.ofNat 1))), (.c (.int .i64 (.ofNat 1))), (.c (.int .i64 (.ofNat 1))), (.c (.int .i64 (.ofNat 1)))] 4 4)], (.tup [(.agg [(.bool true), (.bool false), (.bool false), (.bool false)]), (.int .i64 (.ofNat 0))]), []⟩
def T75 : Table := [(72, [e12])]
theorem T75_ok : TableOK Go.Proofs.Tryz.prog globs 11 T75 := (.cons (.cons e12_ok rfl .nil) .nil)
theorem e75_ok : EntryOK Go.Proofs.Tryz.prog globs 11 e75 := chkEntry_ok (ids := []) (runM_ok mixed globsBelow T75_ok (fuel := 100000) 60) (by decide +kernel)

-- observatory/model.Apply: 5928 operations, met 1 times
def e76 : Entry := ⟨84, [], [d13, d9, d7, d11, (.c (.int .i64 (.ofNat 1))), (.agg [(.c (.int .i64 (.ofNat 60))), (.c (.int .i64 (.ofNat 20))), (.c (.int .i64 (.ofNat 20))), (.c (.int .i64 (.ofNat 20)))])], (.tup [(.agg [(.int .i64 (.ofNat 2)), (.int .i64 (.ofNat 0)), (.sliceO 30 0 1 3), (.sliceO 31 0 1 4), (.sliceO 32 0 2 1), (.slice 33 0 1 1), .nils, (.sliceO 35 0 1 4)]), (.int .i64 (.ofNat 0))]), [.cells 196 [(.int .i64 (.ofNat 1)), (.int .i64 (.ofNat 0)), (.bool false)] true 0 false, .cells 140 [(.int .i64 (.ofNat 0)), (.int .i64 (.ofNat 0)), (.int .i64 (.ofNat 0)), (.int .i64 (.ofNat 0))] true 0 false, .cells 329 [(.slice 27 0 1 1), (.sliceO 34 0 1 4)] true 0 false, .cells 3 [(.int .i64 (.ofNat 1))] false 0 false, .cells 465 [(.int .i64 (.ofNat 0)), (.int .i64 (.ofNat 1)), (.int .i64 (.ofNat 1)), (.bool true)] true 0 false, .cells 548 [(.int .i64 (.ofNat 1)), (.int .i64 (.ofNat 0)), (.int .i64 (.ofNat 0)), (.int .i64 (.ofNat 1))] true 0 false]⟩
def T76 : Table := [(306, [e75]), (297, [e17]), (158, [e18]), (72, [e12]), (128, [e28]), (85, [e22])]
theorem T76_ok : TableOK Go.Proofs.Tryz.prog globs 11 T76 := (.cons (.cons e75_ok rfl .nil) (.cons (.cons e17_ok rfl .nil) (.cons (.cons e18_ok rfl .nil) (.cons (.cons e12_ok rfl .nil) (.cons (.cons e28_ok rfl .nil) (.cons (.cons e22_ok rfl .nil) .nil))))))
theorem e76_ok : EntryOK Go.Proofs.Tryz.prog globs 11 e76 := chkEntry_ok (ids := [42, 44, 46, 76, 90, 292]) (runM_ok mixed globsBelow T76_ok (fuel := 100000) 60) (by decide +kernel)

-- observatory/model.Key: 4234 operations, met 1 times
def e77 : Entry := ⟨218, [], [(.agg [(.c (.int .i64 (.ofNat 2))), (.c (.int .i64 (.ofNat 0))), (.slO [(.c (.int .i64 (.ofNat 1))), (.c (.int .i64 (.ofNat 0))), (.c (.bool false))] 1 3), (.slO [(.c (.int .i64 (.ofNat 0))), (.c (.int .i64 (.ofNat 0))), (.c (.int .i64 (.ofNat 0))), (.c (.int .i64 (.ofNat 0)))] 1 4), d3, (.sl [(.c (.int .i64 (.ofNat 1)))] 1 1), (.c .nils), (.slO [(.c (.int .i64 (.ofNat 1))), (.c (.int .i64 (.ofNat 0))), (.c (.int .i64 (.ofNat 0))), (.c (.int .i64 (.ofNat 1)))] 1 4)])], (.str 59 2340060271613191333186946803603466594256187712730669329856171198832934505305564134402805947504755775599001724961650883950959425785256291082290), []⟩
def T77 : Table := []
theorem T77_ok : TableOK Go.Proofs.Tryz.prog globs 11 T77 := .nil
theorem e77_ok : EntryOK Go.Proofs.Tryz.prog globs 11 e77 := chkEntry_ok (ids := []) (runM_ok mixed globsBelow T77_ok (fuel := 100000) 60) (by decide +kernel)

-- observatory/natural.both: 6794 operations, met 2 times
def e78 : Entry := ⟨561, [], [(.c (.str 1 49)), (.c (.str 1 49)), (.c (.func 562 [] []))], (.tup [(.str 1 49), (.int .i64 (.ofNat 0))]), []⟩
def T78 : Table := []
theorem T78_ok : TableOK Go.Proofs.Tryz.prog globs 11 T78 := .nil
theorem e78_ok : EntryOK Go.Proofs.Tryz.prog globs 11 e78 := chkEntry_ok (ids := []) (runM_ok mixed globsBelow T78_ok (fuel := 100000) 60) (by decide +kernel)

-- observatory/rational.lowest: 13647 operations, met 2 times
def e79 : Entry := ⟨472, [], [(.c (.bool false)), (.c (.str 1 49)), (.c (.str 1 49))], (.agg [(.bool false), (.str 1 49), (.str 1 49)]), []⟩
def T79 : Table := [(561, [e78])]
theorem T79_ok : TableOK Go.Proofs.Tryz.prog globs 11 T79 := (.cons (.cons e78_ok rfl .nil) .nil)
theorem e79_ok : EntryOK Go.Proofs.Tryz.prog globs 11 e79 := chkEntry_ok (ids := []) (runM_ok mixed globsBelow T79_ok (fuel := 100000) 60) (by decide +kernel)

-- observatory/rational.Of: 616 operations, met 1 times
def e80 : Entry := ⟨326, [], [(.c (.int .i64 (.ofNat 1))), (.c (.int .i64 (.ofNat 1)))], (.tup [(.agg [(.bool false), (.str 1 49), (.str 1 49)]), (.int .i64 (.ofNat 0))]), []⟩
def T80 : Table := [(472, [e79])]
theorem T80_ok : TableOK Go.Proofs.Tryz.prog globs 11 T80 := (.cons (.cons e79_ok rfl .nil) .nil)
theorem e80_ok : EntryOK Go.Proofs.Tryz.prog globs 11 e80 := chkEntry_ok (ids := []) (runM_ok mixed globsBelow T80_ok (fuel := 100000) 60) (by decide +kernel)

-- observatory/rational.Valid: 564 operations, met 3 times
def e81 : Entry := ⟨333, [], [(.agg [(.c (.bool false)), (.c (.str 1 49)), (.c (.str 1 49))])], (.bool true), []⟩
def T81 : Table := [(561, [e78])]
theorem T81_ok : TableOK Go.Proofs.Tryz.prog globs 11 T81 := (.cons (.cons e78_ok rfl .nil) .nil)
theorem e81_ok : EntryOK Go.Proofs.Tryz.prog globs 11 e81 := chkEntry_ok (ids := []) (runM_ok mixed globsBelow T81_ok (fuel := 100000) 60) (by decide +kernel)

-- observatory/natural.both: 1077 operations, met 1 times
def e82 : Entry := ⟨561, [], [(.c (.str 1 48)), (.c (.str 1 49)), (.c (.func 616 [] []))], (.tup [(.str 1 49), (.int .i64 (.ofNat 0))]), []⟩
def T82 : Table := []
theorem T82_ok : TableOK Go.Proofs.Tryz.prog globs 11 T82 := .nil
theorem e82_ok : EntryOK Go.Proofs.Tryz.prog globs 11 e82 := chkEntry_ok (ids := []) (runM_ok mixed globsBelow T82_ok (fuel := 100000) 60) (by decide +kernel)

-- observatory/rational.Add: 193 operations, met 1 times
def e83 : Entry := ⟨343, [], [(.agg [(.c (.bool false)), (.c (.str 1 48)), (.c (.str 1 49))]), (.agg [(.c (.bool false)), (.c (.str 1 49)), (.c (.str 1 49))])], (.tup [(.agg [(.bool false), (.str 1 49), (.str 1 49)]), (.int .i64 (.ofNat 0))]), []⟩
def T83 : Table := [(472, [e79]), (561, [e50, e51, e82]), (333, [e42, e81])]
theorem T83_ok : TableOK Go.Proofs.Tryz.prog globs 11 T83 := (.cons (.cons e79_ok rfl .nil) (.cons (.cons e50_ok rfl (.cons e51_ok rfl (.cons e82_ok rfl .nil))) (.cons (.cons e42_ok rfl (.cons e81_ok rfl .nil)) .nil)))
theorem e83_ok : EntryOK Go.Proofs.Tryz.prog globs 11 e83 := chkEntry_ok (ids := []) (runM_ok mixed globsBelow T83_ok (fuel := 100000) 60) (by decide +kernel)

-- observatory/natural.both: 18990 operations, met 2 times
def e84 : Entry := ⟨561, [], [(.c (.str 1 51)), (.c (.str 1 56)), (.c (.func 562 [] []))], (.tup [(.str 1 49), (.int .i64 (.ofNat 0))]), []⟩
def T84 : Table := []
theorem T84_ok : TableOK Go.Proofs.Tryz.prog globs 11 T84 := .nil
theorem e84_ok : EntryOK Go.Proofs.Tryz.prog globs 11 e84 := chkEntry_ok (ids := []) (runM_ok mixed globsBelow T84_ok (fuel := 100000) 60) (by decide +kernel)

-- observatory/rational.Valid: 564 operations, met 5 times
def e85 : Entry := ⟨333, [], [(.agg [(.c (.bool false)), (.c (.str 1 51)), (.c (.str 1 56))])], (.bool true), []⟩
def T85 : Table := [(561, [e84])]
theorem T85_ok : TableOK Go.Proofs.Tryz.prog globs 11 T85 := (.cons (.cons e84_ok rfl .nil) .nil)
theorem e85_ok : EntryOK Go.Proofs.Tryz.prog globs 11 e85 := chkEntry_ok (ids := []) (runM_ok mixed globsBelow T85_ok (fuel := 100000) 60) (by decide +kernel)

-- observatory/natural.both: 1251 operations, met 1 times
def e86 : Entry := ⟨561, [], [(.c (.str 1 49)), (.c (.str 1 51)), (.c (.func 615 [] []))], (.tup [(.str 1 51), (.int .i64 (.ofNat 0))]), []⟩
def T86 : Table := []
theorem T86_ok : TableOK Go.Proofs.Tryz.prog globs 11 T86 := .nil
theorem e86_ok : EntryOK Go.Proofs.Tryz.prog globs 11 e86 := chkEntry_ok (ids := []) (runM_ok mixed globsBelow T86_ok (fuel := 100000) 60) (by decide +kernel)

-- observatory/rational.lowest: 13834 operations, met 2 times
def e87 : Entry := ⟨472, [], [(.c (.bool false)), (.c (.str 1 51)), (.c (.str 1 56))], (.agg [(.bool false), (.str 1 51), (.str 1 56)]), []⟩
def T87 : Table := [(561, [e84])]
theorem T87_ok : TableOK Go.Proofs.Tryz.prog globs 11 T87 := (.cons (.cons e84_ok rfl .nil) .nil)
theorem e87_ok : EntryOK Go.Proofs.Tryz.prog globs 11 e87 := chkEntry_ok (ids := []) (runM_ok mixed globsBelow T87_ok (fuel := 100000) 60) (by decide +kernel)

-- observatory/rational.Mul: 100 operations, met 1 times
def e88 : Entry := ⟨448, [], [(.agg [(.c (.bool false)), (.c (.str 1 49)), (.c (.str 1 49))]), (.agg [(.c (.bool false)), (.c (.str 1 51)), (.c (.str 1 56))])], (.tup [(.agg [(.bool false), (.str 1 51), (.str 1 56)]), (.int .i64 (.ofNat 0))]), []⟩
def T88 : Table := [(472, [e87]), (561, [e58, e86]), (333, [e81, e85])]
theorem T88_ok : TableOK Go.Proofs.Tryz.prog globs 11 T88 := (.cons (.cons e87_ok rfl .nil) (.cons (.cons e58_ok rfl (.cons e86_ok rfl .nil)) (.cons (.cons e81_ok rfl (.cons e85_ok rfl .nil)) .nil)))
theorem e88_ok : EntryOK Go.Proofs.Tryz.prog globs 11 e88 := chkEntry_ok (ids := []) (runM_ok mixed globsBelow T88_ok (fuel := 100000) 60) (by decide +kernel)

-- observatory/natural.both: 1060 operations, met 1 times
def e89 : Entry := ⟨561, [], [(.c (.str 1 48)), (.c (.str 1 56)), (.c (.func 615 [] []))], (.tup [(.str 1 48), (.int .i64 (.ofNat 0))]), []⟩
def T89 : Table := []
theorem T89_ok : TableOK Go.Proofs.Tryz.prog globs 11 T89 := .nil
theorem e89_ok : EntryOK Go.Proofs.Tryz.prog globs 11 e89 := chkEntry_ok (ids := []) (runM_ok mixed globsBelow T89_ok (fuel := 100000) 60) (by decide +kernel)

-- observatory/natural.both: 1251 operations, met 1 times
def e90 : Entry := ⟨561, [], [(.c (.str 1 51)), (.c (.str 1 49)), (.c (.func 615 [] []))], (.tup [(.str 1 51), (.int .i64 (.ofNat 0))]), []⟩
def T90 : Table := []
theorem T90_ok : TableOK Go.Proofs.Tryz.prog globs 11 T90 := .nil
theorem e90_ok : EntryOK Go.Proofs.Tryz.prog globs 11 e90 := chkEntry_ok (ids := []) (runM_ok mixed globsBelow T90_ok (fuel := 100000) 60) (by decide +kernel)

-- observatory/natural.both: 1077 operations, met 1 times
def e91 : Entry := ⟨561, [], [(.c (.str 1 48)), (.c (.str 1 51)), (.c (.func 616 [] []))], (.tup [(.str 1 51), (.int .i64 (.ofNat 0))]), []⟩
def T91 : Table := []
theorem T91_ok : TableOK Go.Proofs.Tryz.prog globs 11 T91 := .nil
theorem e91_ok : EntryOK Go.Proofs.Tryz.prog globs 11 e91 := chkEntry_ok (ids := []) (runM_ok mixed globsBelow T91_ok (fuel := 100000) 60) (by decide +kernel)

-- observatory/rational.Add: 193 operations, met 1 times
def e92 : Entry := ⟨343, [], [(.agg [(.c (.bool false)), (.c (.str 1 48)), (.c (.str 1 49))]), (.agg [(.c (.bool false)), (.c (.str 1 51)), (.c (.str 1 56))])], (.tup [(.agg [(.bool false), (.str 1 51), (.str 1 56)]), (.int .i64 (.ofNat 0))]), []⟩
def T92 : Table := [(472, [e87]), (561, [e58, e89, e90, e91]), (333, [e42, e85])]
theorem T92_ok : TableOK Go.Proofs.Tryz.prog globs 11 T92 := (.cons (.cons e87_ok rfl .nil) (.cons (.cons e58_ok rfl (.cons e89_ok rfl (.cons e90_ok rfl (.cons e91_ok rfl .nil)))) (.cons (.cons e42_ok rfl (.cons e85_ok rfl .nil)) .nil)))
theorem e92_ok : EntryOK Go.Proofs.Tryz.prog globs 11 e92 := chkEntry_ok (ids := []) (runM_ok mixed globsBelow T92_ok (fuel := 100000) 60) (by decide +kernel)

-- observatory/model.Script: 621 operations, met 7 times
def e93 : Entry := ⟨31, [], [d13, d10], (.bool true), []⟩
def T93 : Table := [(30, [e13])]
theorem T93_ok : TableOK Go.Proofs.Tryz.prog globs 11 T93 := (.cons (.cons e13_ok rfl .nil) .nil)
theorem e93_ok : EntryOK Go.Proofs.Tryz.prog globs 11 e93 := chkEntry_ok (ids := []) (runM_ok mixed globsBelow T93_ok (fuel := 100000) 60) (by decide +kernel)

-- observatory/repair.valid: 586 operations, met 1 times
def e94 : Entry := ⟨43, [], [d13, d10, d7, d4, (.agg [(.c (.int .i64 (.ofNat 1))), (.c (.int .i64 (.ofNat 0))), (.c (.int .i64 (.ofNat 0))), (.sl [(.c (.int .i64 (.ofNat 40)))] 1 1)])], (.bool true), []⟩
def T94 : Table := [(72, [e12]), (128, [e28]), (31, [e93]), (30, [e13])]
theorem T94_ok : TableOK Go.Proofs.Tryz.prog globs 11 T94 := (.cons (.cons e12_ok rfl .nil) (.cons (.cons e28_ok rfl .nil) (.cons (.cons e93_ok rfl .nil) (.cons (.cons e13_ok rfl .nil) .nil))))
theorem e94_ok : EntryOK Go.Proofs.Tryz.prog globs 11 e94 := chkEntry_ok (ids := []) (runM_ok mixed globsBelow T94_ok (fuel := 100000) 60) (by decide +kernel)

-- observatory/model.Start: 131 operations, met 5 times
def e95 : Entry := ⟨82, [], [d13, d10], (.tup [(.agg [(.int .i64 (.ofNat 1)), (.int .i64 (.ofNat 0)), (.slice 23 0 1 1), (.slice 24 0 1 1), (.sliceO 28 0 2 1), (.slice 25 0 1 1), .nils, .nils]), (.int .i64 (.ofNat 0))]), [.cells 196 [(.int .i64 (.ofNat 0)), (.int .i64 (.ofNat 0)), (.bool false)] false 0 false, .cells 140 [(.int .i64 (.ofNat 0)), (.int .i64 (.ofNat 0)), (.int .i64 (.ofNat 0)), (.int .i64 (.ofNat 0))] false 0 false, .cells 3 [(.int .i64 (.ofNat 0))] false 0 false, .cells 465 [(.int .i64 (.ofNat 0)), (.int .i64 (.ofNat 0)), (.int .i64 (.ofNat 0)), (.bool false)] false 0 false, .cells 465 [(.int .i64 (.ofNat 0)), (.int .i64 (.ofNat 0)), (.int .i64 (.ofNat 0)), (.bool false)] false 0 false, .cells 329 [(.slice 26 0 1 1), (.slice 27 0 1 1)] true 0 false]⟩
def T95 : Table := [(31, [e93])]
theorem T95_ok : TableOK Go.Proofs.Tryz.prog globs 11 T95 := (.cons (.cons e93_ok rfl .nil) .nil)
theorem e95_ok : EntryOK Go.Proofs.Tryz.prog globs 11 e95 := chkEntry_ok (ids := [26, 27, 28, 31, 35, 37]) (runM_ok mixed globsBelow T95_ok (fuel := 100000) 60) (by decide +kernel)

-- observatory/feasible.Requests: 5305 operations, met 3 times
def e96 : Entry := ⟨158, [], [d13, d10, d11, (.c (.int .i64 (.ofNat 0)))], (.tup [(.sliceO 29 0 2 5), .nils, (.int .i64 (.ofNat 0))]), [.cells 153 [(.int .i64 (.ofNat 0)), (.int .i64 (.ofNat 0)), (.int .i64 (.ofNat 0)), (.int .i64 (.ofNat 10)), (.bool false), (.int .i64 (.ofNat 1)), (.int .i64 (.ofNat 1)), (.int .i64 (.ofNat 0)), (.int .i64 (.ofNat 30)), (.bool false)] true 0 false]⟩
def T96 : Table := [(297, [e16, e17]), (128, [e0, e3, e4, e5, e6, e7, e8, e9]), (30, [e13])]
theorem T96_ok : TableOK Go.Proofs.Tryz.prog globs 11 T96 := (.cons (.cons e16_ok rfl (.cons e17_ok rfl .nil)) (.cons (.cons e0_ok rfl (.cons e3_ok rfl (.cons e4_ok rfl (.cons e5_ok rfl (.cons e6_ok rfl (.cons e7_ok rfl (.cons e8_ok rfl (.cons e9_ok rfl .nil)))))))) (.cons (.cons e13_ok rfl .nil) .nil)))
theorem e96_ok : EntryOK Go.Proofs.Tryz.prog globs 11 e96 := chkEntry_ok (ids := [277]) (runM_ok mixed globsBelow T96_ok (fuel := 100000) 60) (by decide +kernel)

-- observatory/model.valid: 1293 operations, met 7 times
def e97 : Entry := ⟨85, [], [d13, d10, d11], (.bool true), []⟩
def T97 : Table := [(128, [e0]), (30, [e13]), (31, [e93])]
theorem T97_ok : TableOK Go.Proofs.Tryz.prog globs 11 T97 := (.cons (.cons e0_ok rfl .nil) (.cons (.cons e13_ok rfl .nil) (.cons (.cons e93_ok rfl .nil) .nil)))
theorem e97_ok : EntryOK Go.Proofs.Tryz.prog globs 11 e97 := chkEntry_ok (ids := []) (runM_ok mixed globsBelow T97_ok (fuel := 100000) 60) (by decide +kernel)

-- observatory/model.Apply: 4655 operations, met 2 times
def e98 : Entry := ⟨84, [], [d13, d10, d8, d11, (.c (.int .i64 (.ofNat 0))), (.agg [(.c (.int .i64 (.ofNat 0))), (.c (.int .i64 (.ofNat 0))), (.c (.int .i64 (.ofNat 0))), (.c (.int .i64 (.ofNat 0)))])], (.tup [(.agg [(.int .i64 (.ofNat 2)), (.int .i64 (.ofNat 0)), (.sliceO 30 0 1 3), (.sliceO 31 0 1 4), (.sliceO 32 0 2 1), (.slice 33 0 1 1), .nils, .nils]), (.int .i64 (.ofNat 0))]), [.cells 196 [(.int .i64 (.ofNat 0)), (.int .i64 (.ofNat 0)), (.bool false)] true 0 false, .cells 140 [(.int .i64 (.ofNat 0)), (.int .i64 (.ofNat 0)), (.int .i64 (.ofNat 0)), (.int .i64 (.ofNat 0))] true 0 false, .cells 329 [(.sliceO 34 0 1 4), (.slice 28 0 1 1)] true 0 false, .cells 3 [(.int .i64 (.ofNat 1))] false 0 false, .cells 465 [(.int .i64 (.ofNat 0)), (.int .i64 (.ofNat 1)), (.int .i64 (.ofNat 1)), (.bool true)] true 0 false]⟩
def T98 : Table := [(297, [e16]), (158, [e96]), (72, [e12]), (128, [e30]), (85, [e97])]
theorem T98_ok : TableOK Go.Proofs.Tryz.prog globs 11 T98 := (.cons (.cons e16_ok rfl .nil) (.cons (.cons e96_ok rfl .nil) (.cons (.cons e12_ok rfl .nil) (.cons (.cons e30_ok rfl .nil) (.cons (.cons e97_ok rfl .nil) .nil)))))
theorem e98_ok : EntryOK Go.Proofs.Tryz.prog globs 11 e98 := chkEntry_ok (ids := [42, 44, 46, 76, 90]) (runM_ok mixed globsBelow T98_ok (fuel := 100000) 60) (by decide +kernel)

-- observatory/model.Light: 312 operations, met 1 times
def e99 : Entry := ⟨40, [], [d13, d10, d11, (.agg [(.c (.int .i64 (.ofNat 0))), (.c (.int .i64 (.ofNat 0))), (.c (.int .i64 (.ofNat 0))), (.c (.int .i64 (.ofNat 10))), (.c (.bool false))]), (.c .nils)], (.tup [(.agg [(.int .i64 (.ofNat 0)), (.int .i64 (.ofNat 0)), (.int .i64 (.ofNat 0)), (.int .i64 (.ofNat 0))]), (.int .i64 (.ofNat 0))]), []⟩
def T99 : Table := [(85, [e97])]
theorem T99_ok : TableOK Go.Proofs.Tryz.prog globs 11 T99 := (.cons (.cons e97_ok rfl .nil) .nil)
theorem e99_ok : EntryOK Go.Proofs.Tryz.prog globs 11 e99 := chkEntry_ok (ids := []) (runM_ok mixed globsBelow T99_ok (fuel := 100000) 60) (by decide +kernel)

-- observatory/model.Shoot: 706 operations, met 1 times
def e100 : Entry := ⟨41, [], [d13, d10, d11, (.agg [(.c (.int .i64 (.ofNat 0))), (.c (.int .i64 (.ofNat 0))), (.c (.int .i64 (.ofNat 0))), (.c (.int .i64 (.ofNat 0)))]), (.c (.int .i64 (.ofNat 0)))], (.tup [(.agg [(.int .i64 (.ofNat 0)), (.int .i64 (.ofNat 0)), (.int .i64 (.ofNat 0)), (.int .i64 (.ofNat 0))]), (.int .i64 (.ofNat 0))]), []⟩
def T100 : Table := [(85, [e97])]
theorem T100_ok : TableOK Go.Proofs.Tryz.prog globs 11 T100 := (.cons (.cons e97_ok rfl .nil) .nil)
theorem e100_ok : EntryOK Go.Proofs.Tryz.prog globs 11 e100 := chkEntry_ok (ids := []) (runM_ok mixed globsBelow T100_ok (fuel := 100000) 60) (by decide +kernel)

-- observatory/model.Shoot: 706 operations, met 1 times
def e101 : Entry := ⟨41, [], [d13, d10, d11, (.agg [(.c (.int .i64 (.ofNat 0))), (.c (.int .i64 (.ofNat 0))), (.c (.int .i64 (.ofNat 0))), (.c (.int .i64 (.ofNat 0)))]), (.c (.int .i64 (.ofNat 1)))], (.tup [(.agg [(.int .i64 (.ofNat 20)), (.int .i64 (.ofNat 20)), (.int .i64 (.ofNat 20)), (.int .i64 (.ofNat 20))]), (.int .i64 (.ofNat 0))]), []⟩
def T101 : Table := [(85, [e97])]
theorem T101_ok : TableOK Go.Proofs.Tryz.prog globs 11 T101 := (.cons (.cons e97_ok rfl .nil) .nil)
theorem e101_ok : EntryOK Go.Proofs.Tryz.prog globs 11 e101 := chkEntry_ok (ids := []) (runM_ok mixed globsBelow T101_ok (fuel := 100000) 60) (by decide +kernel)

-- observatory/model.Light: 444 operations, met 1 times
def e102 : Entry := ⟨40, [], [d13, d10, d11, (.agg [(.c (.int .i64 (.ofNat 0))), (.c (.int .i64 (.ofNat 0))), (.c (.int .i64 (.ofNat 0))), (.c (.int .i64 (.ofNat 10))), (.c (.bool false))]), (.sl [(.c (.int .i64 (.ofNat 0))), (.c (.int .i64 (.ofNat 0))), (.c (.int .i64 (.ofNat 0))), (.sl [(.c (.int .i64 (.ofNat 60)))] 1 1)] 1 1)], (.tup [(.agg [(.int .i64 (.ofNat 60)), (.int .i64 (.ofNat 0)), (.int .i64 (.ofNat 0)), (.int .i64 (.ofNat 0))]), (.int .i64 (.ofNat 0))]), []⟩
def T102 : Table := [(85, [e97])]
theorem T102_ok : TableOK Go.Proofs.Tryz.prog globs 11 T102 := (.cons (.cons e97_ok rfl .nil) .nil)
theorem e102_ok : EntryOK Go.Proofs.Tryz.prog globs 11 e102 := chkEntry_ok (ids := []) (runM_ok mixed globsBelow T102_ok (fuel := 100000) 60) (by decide +kernel)


end
end Go.Proofs.YtbokoinmlbipmaaGreatDoor.Hd
