/- Calls that are known, part 4: what each comes to, in whatever memory. Printed by a program (wip/tools/Mem.lean). 21965 operations. -/
import Derived.Test.YtbokoinmlbipmaaGreatDoorHdM3
namespace Go.Proofs.YtbokoinmlbipmaaGreatDoor.Hd
open Go Go.Proofs.YtbokoinmlbipmaaGreatDoor.Ev
noncomputable section

-- observatory/model.Shoot: 706 operations, met 1 times
def e103 : Entry := ⟨41, [], [d13, d10, d11, (.agg [(.c (.int .i64 (.ofNat 60))), (.c (.int .i64 (.ofNat 0))), (.c (.int .i64 (.ofNat 0))), (.c (.int .i64 (.ofNat 0)))]), (.c (.int .i64 (.ofNat 0)))], (.tup [(.agg [(.int .i64 (.ofNat 60)), (.int .i64 (.ofNat 0)), (.int .i64 (.ofNat 0)), (.int .i64 (.ofNat 0))]), (.int .i64 (.ofNat 0))]), []⟩
def T103 : Table := [(85, [e97])]
theorem T103_ok : TableOK Go.Proofs.Tryz.prog globs 11 T103 := (.cons (.cons e97_ok rfl .nil) .nil)
theorem e103_ok : EntryOK Go.Proofs.Tryz.prog globs 11 e103 := chkEntry_ok (ids := []) (runM_ok mixed globsBelow T103_ok (fuel := 100000) 60) (by decide +kernel)

-- observatory/model.Shoot: 706 operations, met 1 times
def e104 : Entry := ⟨41, [], [d13, d10, d11, (.agg [(.c (.int .i64 (.ofNat 60))), (.c (.int .i64 (.ofNat 0))), (.c (.int .i64 (.ofNat 0))), (.c (.int .i64 (.ofNat 0)))]), (.c (.int .i64 (.ofNat 1)))], (.tup [(.agg [(.int .i64 (.ofNat 80)), (.int .i64 (.ofNat 20)), (.int .i64 (.ofNat 20)), (.int .i64 (.ofNat 20))]), (.int .i64 (.ofNat 0))]), []⟩
def T104 : Table := [(85, [e97])]
theorem T104_ok : TableOK Go.Proofs.Tryz.prog globs 11 T104 := (.cons (.cons e97_ok rfl .nil) .nil)
theorem e104_ok : EntryOK Go.Proofs.Tryz.prog globs 11 e104 := chkEntry_ok (ids := []) (runM_ok mixed globsBelow T104_ok (fuel := 100000) 60) (by decide +kernel)

-- observatory/skies.Allowed: 2225 operations, met 1 times
def e105 : Entry := ⟨44, needs, [d13, d10, d12, d4], (.tup [(.sliceO 35 0 1 1), (.int .i64 (.ofNat 0))]), [.cells 3 [(.int .i64 (.ofNat 0))] true 0 false, .cells 55 [(.sliceO 34 0 1 1)] true 0 false]⟩
def T105 : Table := [(41, [e100, e101, e103, e104]), (40, [e99, e102]), (84, [e98]), (159, [e21]), (158, [e96]), (82, [e95]), (72, [e12]), (128, [e30]), (30, [e13]), (31, [e93])]
theorem T105_ok : TableOK Go.Proofs.Tryz.prog globs 11 T105 := (.cons (.cons e100_ok rfl (.cons e101_ok rfl (.cons e103_ok rfl (.cons e104_ok rfl .nil)))) (.cons (.cons e99_ok rfl (.cons e102_ok rfl .nil)) (.cons (.cons e98_ok rfl .nil) (.cons (.cons e21_ok rfl .nil) (.cons (.cons e96_ok rfl .nil) (.cons (.cons e95_ok rfl .nil) (.cons (.cons e12_ok rfl .nil) (.cons (.cons e30_ok rfl .nil) (.cons (.cons e13_ok rfl .nil) (.cons (.cons e93_ok rfl .nil) .nil))))))))))
theorem e105_ok : EntryOK Go.Proofs.Tryz.prog globs 11 e105 := chkEntry_ok (ids := [339, 362]) (runM_ok mixed globsBelow T105_ok (fuel := 100000) 60) (by decide +kernel)

-- observatory/repair.Suffix: 783 operations, met 1 times
def e106 : Entry := ⟨8, [], [d10, d7, (.c (.int .i64 (.ofNat 1)))], (.tup [(.agg [(.int .i64 (.ofNat 1)), (.int .i64 (.ofNat 1)), .nils, .nils, .nils, (.sliceO 13 0 3 4), .nils]), (.int .i64 (.ofNat 0))]), [.cells 45 [(.int .i64 (.ofNat 1)), (.int .i64 (.ofNat 0)), (.int .i64 (.negSucc 0)), (.int .i64 (.ofNat 0)), (.int .i64 (.ofNat 2)), (.int .i64 (.ofNat 0)), (.int .i64 (.ofNat 0)), (.int .i64 (.ofNat 0)), (.int .i64 (.ofNat 3)), (.int .i64 (.ofNat 0)), (.int .i64 (.ofNat 0)), (.int .i64 (.ofNat 9))] true 0 false]⟩
def T106 : Table := []
theorem T106_ok : TableOK Go.Proofs.Tryz.prog globs 11 T106 := .nil
theorem e106_ok : EntryOK Go.Proofs.Tryz.prog globs 11 e106 := chkEntry_ok (ids := [41]) (runM_ok mixed globsBelow T106_ok (fuel := 100000) 60) (by decide +kernel)

-- observatory/repair.valid: 586 operations, met 1 times
def e107 : Entry := ⟨43, [], [d13, d9, d7, d4, (.agg [(.c (.int .i64 (.ofNat 1))), (.c (.int .i64 (.ofNat 0))), (.c (.int .i64 (.ofNat 0))), (.sl [(.c (.int .i64 (.ofNat 20)))] 1 1)])], (.bool true), []⟩
def T107 : Table := [(72, [e12]), (128, [e28]), (31, [e14]), (30, [e13])]
theorem T107_ok : TableOK Go.Proofs.Tryz.prog globs 11 T107 := (.cons (.cons e12_ok rfl .nil) (.cons (.cons e28_ok rfl .nil) (.cons (.cons e14_ok rfl .nil) (.cons (.cons e13_ok rfl .nil) .nil))))
theorem e107_ok : EntryOK Go.Proofs.Tryz.prog globs 11 e107 := chkEntry_ok (ids := []) (runM_ok mixed globsBelow T107_ok (fuel := 100000) 60) (by decide +kernel)

-- observatory/repair.subject: 90 operations, met 1 times
def e108 : Entry := ⟨47, needs, [d13, d7, d4, (.agg [(.c (.int .i64 (.ofNat 1))), (.c (.int .i64 (.ofNat 0))), (.c (.int .i64 (.ofNat 0))), (.sl [(.c (.int .i64 (.ofNat 20)))] 1 1)])], (.str 277 2276353224724418438325565420053194636706121756591056010727006910491092073482973805155498250960244560092351649663581902720770902688970533300115419521985699425889122073225647696140441107468670294029563446161863327633097454889382891868540269316802539446730025296566998789521483405313413676371417167150602798942900865317482466534024800051144854999438211854728075840887695778844993764207942487427357648812799097472803489700532201269817737729094246781388577179803517782323830278184073329011692800483988611850727616999154582854849887281873552725528745266673746760637452603972970874623116109214425635488356368827175168007629423632346837798554104685431462116805631379636236337), []⟩
def T108 : Table := [(72, [e12])]
theorem T108_ok : TableOK Go.Proofs.Tryz.prog globs 11 T108 := (.cons (.cons e12_ok rfl .nil) .nil)
theorem e108_ok : EntryOK Go.Proofs.Tryz.prog globs 11 e108 := chkEntry_ok (ids := []) (runM_ok mixed globsBelow T108_ok (fuel := 100000) 60) (by decide +kernel)

-- observatory/model.Light: 444 operations, met 1 times
def e109 : Entry := ⟨40, [], [d13, d9, d11, (.agg [(.c (.int .i64 (.ofNat 1))), (.c (.int .i64 (.ofNat 1))), (.c (.int .i64 (.ofNat 0))), (.c (.int .i64 (.ofNat 30))), (.c (.bool false))]), (.slO [(.c (.int .i64 (.ofNat 1))), (.c (.int .i64 (.ofNat 0))), (.c (.int .i64 (.ofNat 0))), (.sl [(.c (.int .i64 (.ofNat 20)))] 1 1)] 1 4)], (.tup [(.agg [(.int .i64 (.ofNat 20)), (.int .i64 (.ofNat 0)), (.int .i64 (.ofNat 0)), (.int .i64 (.ofNat 0))]), (.int .i64 (.ofNat 0))]), []⟩
def T109 : Table := [(85, [e22])]
theorem T109_ok : TableOK Go.Proofs.Tryz.prog globs 11 T109 := (.cons (.cons e22_ok rfl .nil) .nil)
theorem e109_ok : EntryOK Go.Proofs.Tryz.prog globs 11 e109 := chkEntry_ok (ids := []) (runM_ok mixed globsBelow T109_ok (fuel := 100000) 60) (by decide +kernel)

-- observatory/model.Shoot: 706 operations, met 1 times
def e110 : Entry := ⟨41, [], [d13, d9, d11, (.agg [(.c (.int .i64 (.ofNat 20))), (.c (.int .i64 (.ofNat 0))), (.c (.int .i64 (.ofNat 0))), (.c (.int .i64 (.ofNat 0)))]), (.c (.int .i64 (.ofNat 0)))], (.tup [(.agg [(.int .i64 (.ofNat 20)), (.int .i64 (.ofNat 0)), (.int .i64 (.ofNat 0)), (.int .i64 (.ofNat 0))]), (.int .i64 (.ofNat 0))]), []⟩
def T110 : Table := [(85, [e22])]
theorem T110_ok : TableOK Go.Proofs.Tryz.prog globs 11 T110 := (.cons (.cons e22_ok rfl .nil) .nil)
theorem e110_ok : EntryOK Go.Proofs.Tryz.prog globs 11 e110 := chkEntry_ok (ids := []) (runM_ok mixed globsBelow T110_ok (fuel := 100000) 60) (by decide +kernel)

-- observatory/exec.Full: 1411 operations, met 1 times
def e111 : Entry := ⟨306, [], [d5, (.sl [(.c (.int .i64 (.ofNat 20))), (.c (.int .i64 (.ofNat 0))), (.c (.int .i64 (.ofNat 0))), (.c (.int .i64 (.ofNat 0))), (.c (.int .i64 (.ofNat 0))), (.c (.int .i64 (.ofNat 0))), (.c (.int .i64 (.ofNat 0))), (.c (.int .i64 (.ofNat 0))), (.c (.int .i64 (.ofNat 20))), (.c (.int .i64 (.ofNat 0))), (.c (.int .i64 (.ofNat 0))), (.c (.int .i64 (.ofNat 0))), (.c (.int .i64 (.ofNat 1))), (.c (.int .i64 (.ofNat 1))), (.c (.int .i64 (.ofNat 1))), (.c (.int .i64 (.ofNat 1)))] 4 4)], (.tup [(.agg [(.bool false), (.bool false), (.bool false), (.bool false)]), (.int .i64 (.ofNat 0))]), []⟩
def T111 : Table := [(72, [e12])]
theorem T111_ok : TableOK Go.Proofs.Tryz.prog globs 11 T111 := (.cons (.cons e12_ok rfl .nil) .nil)
theorem e111_ok : EntryOK Go.Proofs.Tryz.prog globs 11 e111 := chkEntry_ok (ids := []) (runM_ok mixed globsBelow T111_ok (fuel := 100000) 60) (by decide +kernel)

-- observatory/model.Apply: 5257 operations, met 1 times
def e112 : Entry := ⟨84, [], [d13, d9, d7, d11, (.c (.int .i64 (.ofNat 1))), (.agg [(.c (.int .i64 (.ofNat 20))), (.c (.int .i64 (.ofNat 0))), (.c (.int .i64 (.ofNat 0))), (.c (.int .i64 (.ofNat 0)))])], (.tup [(.agg [(.int .i64 (.ofNat 2)), (.int .i64 (.ofNat 0)), (.sliceO 30 0 1 3), (.sliceO 31 0 1 4), (.sliceO 32 0 2 1), (.slice 33 0 1 1), .nils, .nils]), (.int .i64 (.ofNat 0))]), [.cells 196 [(.int .i64 (.ofNat 1)), (.int .i64 (.ofNat 0)), (.bool false)] true 0 false, .cells 140 [(.int .i64 (.ofNat 0)), (.int .i64 (.ofNat 0)), (.int .i64 (.ofNat 0)), (.int .i64 (.ofNat 0))] true 0 false, .cells 329 [(.slice 27 0 1 1), (.sliceO 34 0 1 4)] true 0 false, .cells 3 [(.int .i64 (.ofNat 1))] false 0 false, .cells 465 [(.int .i64 (.ofNat 0)), (.int .i64 (.ofNat 1)), (.int .i64 (.ofNat 1)), (.bool true)] true 0 false]⟩
def T112 : Table := [(306, [e111]), (297, [e17]), (158, [e18]), (72, [e12]), (128, [e28]), (85, [e22])]
theorem T112_ok : TableOK Go.Proofs.Tryz.prog globs 11 T112 := (.cons (.cons e111_ok rfl .nil) (.cons (.cons e17_ok rfl .nil) (.cons (.cons e18_ok rfl .nil) (.cons (.cons e12_ok rfl .nil) (.cons (.cons e28_ok rfl .nil) (.cons (.cons e22_ok rfl .nil) .nil))))))
theorem e112_ok : EntryOK Go.Proofs.Tryz.prog globs 11 e112 := chkEntry_ok (ids := [42, 44, 46, 76, 90]) (runM_ok mixed globsBelow T112_ok (fuel := 100000) 60) (by decide +kernel)

-- observatory/model.Shoot: 706 operations, met 1 times
def e113 : Entry := ⟨41, [], [d13, d9, d11, (.agg [(.c (.int .i64 (.ofNat 20))), (.c (.int .i64 (.ofNat 0))), (.c (.int .i64 (.ofNat 0))), (.c (.int .i64 (.ofNat 0)))]), (.c (.int .i64 (.ofNat 1)))], (.tup [(.agg [(.int .i64 (.ofNat 40)), (.int .i64 (.ofNat 20)), (.int .i64 (.ofNat 20)), (.int .i64 (.ofNat 20))]), (.int .i64 (.ofNat 0))]), []⟩
def T113 : Table := [(85, [e22])]
theorem T113_ok : TableOK Go.Proofs.Tryz.prog globs 11 T113 := (.cons (.cons e22_ok rfl .nil) .nil)
theorem e113_ok : EntryOK Go.Proofs.Tryz.prog globs 11 e113 := chkEntry_ok (ids := []) (runM_ok mixed globsBelow T113_ok (fuel := 100000) 60) (by decide +kernel)

-- observatory/exec.Full: 1411 operations, met 1 times
def e114 : Entry := ⟨306, [], [d5, (.sl [(.c (.int .i64 (.ofNat 40))), (.c (.int .i64 (.ofNat 20))), (.c (.int .i64 (.ofNat 20))), (.c (.int .i64 (.ofNat 20))), (.c (.int .i64 (.ofNat 0))), (.c (.int .i64 (.ofNat 0))), (.c (.int .i64 (.ofNat 0))), (.c (.int .i64 (.ofNat 0))), (.c (.int .i64 (.ofNat 40))), (.c (.int .i64 (.ofNat 20))), (.c (.int .i64 (.ofNat 20))), (.c (.int .i64 (.ofNat 20))), (.c (.int .i64 (.ofNat 1))), (.c (.int .i64 (.ofNat 1))), (.c (.int .i64 (.ofNat 1))), (.c (.int .i64 (.ofNat 1)))] 4 4)], (.tup [(.agg [(.bool false), (.bool false), (.bool false), (.bool false)]), (.int .i64 (.ofNat 0))]), []⟩
def T114 : Table := [(72, [e12])]
theorem T114_ok : TableOK Go.Proofs.Tryz.prog globs 11 T114 := (.cons (.cons e12_ok rfl .nil) .nil)
theorem e114_ok : EntryOK Go.Proofs.Tryz.prog globs 11 e114 := chkEntry_ok (ids := []) (runM_ok mixed globsBelow T114_ok (fuel := 100000) 60) (by decide +kernel)

-- observatory/model.Apply: 5257 operations, met 1 times
def e115 : Entry := ⟨84, [], [d13, d9, d7, d11, (.c (.int .i64 (.ofNat 1))), (.agg [(.c (.int .i64 (.ofNat 40))), (.c (.int .i64 (.ofNat 20))), (.c (.int .i64 (.ofNat 20))), (.c (.int .i64 (.ofNat 20)))])], (.tup [(.agg [(.int .i64 (.ofNat 2)), (.int .i64 (.ofNat 0)), (.sliceO 30 0 1 3), (.sliceO 31 0 1 4), (.sliceO 32 0 2 1), (.slice 33 0 1 1), .nils, .nils]), (.int .i64 (.ofNat 0))]), [.cells 196 [(.int .i64 (.ofNat 1)), (.int .i64 (.ofNat 0)), (.bool false)] true 0 false, .cells 140 [(.int .i64 (.ofNat 0)), (.int .i64 (.ofNat 0)), (.int .i64 (.ofNat 0)), (.int .i64 (.ofNat 0))] true 0 false, .cells 329 [(.slice 27 0 1 1), (.sliceO 34 0 1 4)] true 0 false, .cells 3 [(.int .i64 (.ofNat 1))] false 0 false, .cells 465 [(.int .i64 (.ofNat 0)), (.int .i64 (.ofNat 1)), (.int .i64 (.ofNat 1)), (.bool true)] true 0 false]⟩
def T115 : Table := [(306, [e114]), (297, [e17]), (158, [e18]), (72, [e12]), (128, [e28]), (85, [e22])]
theorem T115_ok : TableOK Go.Proofs.Tryz.prog globs 11 T115 := (.cons (.cons e114_ok rfl .nil) (.cons (.cons e17_ok rfl .nil) (.cons (.cons e18_ok rfl .nil) (.cons (.cons e12_ok rfl .nil) (.cons (.cons e28_ok rfl .nil) (.cons (.cons e22_ok rfl .nil) .nil))))))
theorem e115_ok : EntryOK Go.Proofs.Tryz.prog globs 11 e115 := chkEntry_ok (ids := [42, 44, 46, 76, 90]) (runM_ok mixed globsBelow T115_ok (fuel := 100000) 60) (by decide +kernel)

-- observatory/natural.both: 1060 operations, met 1 times
def e116 : Entry := ⟨561, [], [(.c (.str 1 48)), (.c (.str 1 51)), (.c (.func 615 [] []))], (.tup [(.str 1 48), (.int .i64 (.ofNat 0))]), []⟩
def T116 : Table := []
theorem T116_ok : TableOK Go.Proofs.Tryz.prog globs 11 T116 := .nil
theorem e116_ok : EntryOK Go.Proofs.Tryz.prog globs 11 e116 := chkEntry_ok (ids := []) (runM_ok mixed globsBelow T116_ok (fuel := 100000) 60) (by decide +kernel)

-- observatory/rational.Mul: 100 operations, met 1 times
def e117 : Entry := ⟨448, [], [(.agg [(.c (.bool false)), (.c (.str 1 48)), (.c (.str 1 49))]), (.agg [(.c (.bool false)), (.c (.str 1 51)), (.c (.str 1 56))])], (.tup [(.agg [(.bool false), (.str 1 48), (.str 1 49)]), (.int .i64 (.ofNat 0))]), []⟩
def T117 : Table := [(472, [e59]), (561, [e58, e116]), (333, [e42, e85])]
theorem T117_ok : TableOK Go.Proofs.Tryz.prog globs 11 T117 := (.cons (.cons e59_ok rfl .nil) (.cons (.cons e58_ok rfl (.cons e116_ok rfl .nil)) (.cons (.cons e42_ok rfl (.cons e85_ok rfl .nil)) .nil)))
theorem e117_ok : EntryOK Go.Proofs.Tryz.prog globs 11 e117 := chkEntry_ok (ids := []) (runM_ok mixed globsBelow T117_ok (fuel := 100000) 60) (by decide +kernel)

-- observatory/repair.Suffix: 203 operations, met 1 times
def e118 : Entry := ⟨8, [], [d6, d7, (.c (.int .i64 (.ofNat 2)))], (.tup [(.agg [(.int .i64 (.ofNat 2)), (.int .i64 (.ofNat 4)), (.sliceO 13 0 1 5), .nils, .nils, .nils, .nils]), (.int .i64 (.ofNat 0))]), [.cells 47 [(.int .i64 (.ofNat 1)), (.int .i64 (.ofNat 0)), (.int .i64 (.ofNat 0)), (.int .i64 (.ofNat 2)), (.int .i64 (.ofNat 2))] true 0 false]⟩
def T118 : Table := []
theorem T118_ok : TableOK Go.Proofs.Tryz.prog globs 11 T118 := .nil
theorem e118_ok : EntryOK Go.Proofs.Tryz.prog globs 11 e118 := chkEntry_ok (ids := [20]) (runM_ok mixed globsBelow T118_ok (fuel := 100000) 60) (by decide +kernel)

-- observatory/repair.Suffix: 196 operations, met 1 times
def e119 : Entry := ⟨8, [], [d6, d7, (.c (.int .i64 (.ofNat 3)))], (.tup [(.agg [(.int .i64 (.ofNat 3)), (.int .i64 (.ofNat 4)), .nils, .nils, .nils, .nils, .nils]), (.int .i64 (.ofNat 0))]), []⟩
def T119 : Table := []
theorem T119_ok : TableOK Go.Proofs.Tryz.prog globs 11 T119 := .nil
theorem e119_ok : EntryOK Go.Proofs.Tryz.prog globs 11 e119 := chkEntry_ok (ids := []) (runM_ok mixed globsBelow T119_ok (fuel := 100000) 60) (by decide +kernel)

-- observatory/repair.Suffix: 59 operations, met 1 times
def e120 : Entry := ⟨8, [], [d6, d7, (.c (.int .i64 (.ofNat 0)))], (.tup [(.agg [(.int .i64 (.ofNat 0)), (.int .i64 (.ofNat 0)), .nils, .nils, .nils, .nils, .nils]), (.int .i64 (.ofNat 1))]), []⟩
def T120 : Table := []
theorem T120_ok : TableOK Go.Proofs.Tryz.prog globs 11 T120 := .nil
theorem e120_ok : EntryOK Go.Proofs.Tryz.prog globs 11 e120 := chkEntry_ok (ids := []) (runM_ok mixed globsBelow T120_ok (fuel := 100000) 60) (by decide +kernel)

-- observatory/repair.Suffix: 59 operations, met 1 times
def e121 : Entry := ⟨8, [], [d6, d7, (.c (.int .i64 (.ofNat 6)))], (.tup [(.agg [(.int .i64 (.ofNat 0)), (.int .i64 (.ofNat 0)), .nils, .nils, .nils, .nils, .nils]), (.int .i64 (.ofNat 1))]), []⟩
def T121 : Table := []
theorem T121_ok : TableOK Go.Proofs.Tryz.prog globs 11 T121 := .nil
theorem e121_ok : EntryOK Go.Proofs.Tryz.prog globs 11 e121 := chkEntry_ok (ids := []) (runM_ok mixed globsBelow T121_ok (fuel := 100000) 60) (by decide +kernel)


end
end Go.Proofs.YtbokoinmlbipmaaGreatDoor.Hd
