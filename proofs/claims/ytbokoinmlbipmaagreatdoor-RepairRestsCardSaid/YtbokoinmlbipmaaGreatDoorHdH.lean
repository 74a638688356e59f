/- The closed check is true. Printed by a program (wip/tools/Mem.lean). -/
import Derived.Test.YtbokoinmlbipmaaGreatDoorHdM4
namespace Go.Proofs.YtbokoinmlbipmaaGreatDoor.Hd
open Go Go.Proofs.YtbokoinmlbipmaaGreatDoor.Ev
noncomputable section

def TH : Table := [(8, [e38, e48, e106, e118, e119, e120, e121]), (448, [e60, e88, e117]), (84, [e47, e55, e62, e65, e72, e76, e112, e115]), (41, [e24, e32, e34, e35, e70, e74, e110, e113]), (40, [e23, e33, e69, e109]), (47, [e37, e108]), (43, [e29, e94, e107]), (82, [e15, e95]), (44, [e36, e105]), (343, [e53, e83, e92]), (333, [e42, e57, e81, e85]), (326, [e41, e45, e68, e80]), (218, [e39, e49, e63, e73, e77]), (159, [e21]), (158, [e18]), (21, [e27])]
theorem TH_ok : TableOK Go.Proofs.Tryz.prog globs 11 TH := (.cons (.cons e38_ok rfl (.cons e48_ok rfl (.cons e106_ok rfl (.cons e118_ok rfl (.cons e119_ok rfl (.cons e120_ok rfl (.cons e121_ok rfl .nil))))))) (.cons (.cons e60_ok rfl (.cons e88_ok rfl (.cons e117_ok rfl .nil))) (.cons (.cons e47_ok rfl (.cons e55_ok rfl (.cons e62_ok rfl (.cons e65_ok rfl (.cons e72_ok rfl (.cons e76_ok rfl (.cons e112_ok rfl (.cons e115_ok rfl .nil)))))))) (.cons (.cons e24_ok rfl (.cons e32_ok rfl (.cons e34_ok rfl (.cons e35_ok rfl (.cons e70_ok rfl (.cons e74_ok rfl (.cons e110_ok rfl (.cons e113_ok rfl .nil)))))))) (.cons (.cons e23_ok rfl (.cons e33_ok rfl (.cons e69_ok rfl (.cons e109_ok rfl .nil)))) (.cons (.cons e37_ok rfl (.cons e108_ok rfl .nil)) (.cons (.cons e29_ok rfl (.cons e94_ok rfl (.cons e107_ok rfl .nil))) (.cons (.cons e15_ok rfl (.cons e95_ok rfl .nil)) (.cons (.cons e36_ok rfl (.cons e105_ok rfl .nil)) (.cons (.cons e53_ok rfl (.cons e83_ok rfl (.cons e92_ok rfl .nil))) (.cons (.cons e42_ok rfl (.cons e57_ok rfl (.cons e81_ok rfl (.cons e85_ok rfl .nil)))) (.cons (.cons e41_ok rfl (.cons e45_ok rfl (.cons e68_ok rfl (.cons e80_ok rfl .nil)))) (.cons (.cons e39_ok rfl (.cons e49_ok rfl (.cons e63_ok rfl (.cons e73_ok rfl (.cons e77_ok rfl .nil))))) (.cons (.cons e21_ok rfl .nil) (.cons (.cons e18_ok rfl .nil) (.cons (.cons e27_ok rfl .nil) .nil))))))))))))))))
theorem head_true : isTrue ((runM Go.Proofs.Tryz.prog globs 11 TH 100000 60).func 6 [] (setNeeds needs ⟨.nil, 11⟩)) = true := by decide +kernel

end
end Go.Proofs.YtbokoinmlbipmaaGreatDoor.Hd
