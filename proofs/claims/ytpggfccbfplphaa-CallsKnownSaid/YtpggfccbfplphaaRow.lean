/- The rows that All and Names answer, by their runs; which answers the runs of the laws of calls use. No condition. -/
import Derived.Test.YtpggfccbfplphaaTab
import Derived.Test.YtpggfccbfplphaaIr
import Derived.KernelRfl
namespace Go.Proofs.Ytpggfccbfplphaa.Tab
open Go.Ab
def cells (l : List (Int × List UInt8)) : List AV := l.flatMap fun x => [.s x.2, .i .u32 x.1]
def rowN : List AV := names.map .s
def srt0 : List (Int × List UInt8) := [(0, n27), (1, n39), (2, n22), (3, n6), (9, n18), (10, n20), (11, n21), (12, n2), (16, n15), (30, n35), (41, n36), (42, n7), (49, n0), (50, n17), (56, n4), (57, n12), (59, n9), (60, n10), (62, n16), (101, n26), (102, n13), (105, n34), (135, n24), (144, n30), (164, n33), (165, n19), (166, n37), (169, n28), (175, n14), (176, n8), (227, n3), (257, n23), (272, n38), (308, n32), (313, n11), (314, n29), (317, n31), (321, n1), (329, n25), (435, n5)]
theorem rowK0 : (callK Ir.env (awp (atOrc fun _ => .bool) Ir.env 1000000) 20 [.i .i64 0] hp0 (rowIs 2 40 (cells srt0))) = True := by kernel_rfl
def srt1 : List (Int × List UInt8) := [(1, n10), (2, n12), (3, n27), (4, n39), (5, n22), (6, n6), (11, n9), (21, n19), (23, n34), (24, n13), (26, n26), (37, n16), (45, n2), (52, n37), (54, n15), (79, n33), (88, n28), (90, n18), (91, n21), (120, n4), (125, n20), (128, n14), (129, n8), (136, n24), (156, n30), (264, n3), (295, n23), (310, n38), (346, n32), (350, n11), (351, n29), (354, n31), (357, n1), (359, n36), (361, n0), (362, n7), (363, n17), (380, n25), (397, n35), (435, n5)]
theorem rowK1 : (callK Ir.env (awp (atOrc fun _ => .bool) Ir.env 1000000) 20 [.i .i64 1] hp0 (rowIs 2 40 (cells srt1))) = True := by kernel_rfl
def srt2 : List (Int × List UInt8) := [(1073741824, n27), (1073741825, n39), (1073741826, n22), (1073741827, n6), (1073741833, n18), (1073741834, n20), (1073741835, n21), (1073741836, n2), (1073741865, n36), (1073741866, n7), (1073741873, n0), (1073741874, n17), (1073741880, n4), (1073741881, n12), (1073741884, n10), (1073741886, n16), (1073741926, n13), (1073741929, n34), (1073741959, n24), (1073741968, n30), (1073741988, n33), (1073741989, n19), (1073741990, n37), (1073741993, n28), (1073742000, n8), (1073742051, n3), (1073742081, n23), (1073742096, n38), (1073742132, n32), (1073742137, n11), (1073742138, n29), (1073742141, n31), (1073742145, n1), (1073742153, n25), (1073742338, n15), (1073742344, n9), (1073742345, n26)]
theorem rowK2 : (callK Ir.env (awp (atOrc fun _ => .bool) Ir.env 1000000) 20 [.i .i64 2] hp0 (rowIs 2 37 (cells srt2))) = True := by kernel_rfl
def srt3 : List (Int × List UInt8) := [(1, n10), (2, n12), (3, n27), (4, n39), (5, n22), (6, n6), (11, n9), (21, n19), (23, n34), (24, n13), (26, n26), (37, n16), (45, n2), (52, n37), (54, n15), (79, n33), (88, n28), (91, n21), (120, n4), (125, n20), (128, n14), (129, n8), (136, n24), (156, n30), (262, n3), (281, n36), (282, n0), (283, n7), (284, n17), (305, n35), (322, n23), (337, n38), (375, n32), (379, n11), (380, n29), (383, n31), (386, n1), (394, n25), (435, n5)]
theorem rowK3 : (callK Ir.env (awp (atOrc fun _ => .bool) Ir.env 1000000) 20 [.i .i64 3] hp0 (rowIs 2 39 (cells srt3))) = True := by kernel_rfl
def srt4 : List (Int × List UInt8) := [(29, n15), (39, n37), (40, n19), (56, n23), (57, n6), (63, n27), (64, n39), (92, n24), (93, n10), (97, n38), (105, n14), (106, n8), (112, n3), (117, n26), (119, n30), (129, n16), (142, n28), (146, n34), (170, n33), (174, n13), (196, n35), (198, n36), (200, n0), (201, n17), (203, n7), (214, n2), (215, n21), (220, n4), (221, n9), (222, n18), (226, n20), (268, n32), (273, n11), (274, n29), (277, n31), (280, n1), (288, n25), (435, n5)]
theorem rowK4 : (callK Ir.env (awp (atOrc fun _ => .bool) Ir.env 1000000) 20 [.i .i64 4] hp0 (rowIs 2 38 (cells srt4))) = True := by kernel_rfl
def srt5 : List (Int × List UInt8) := [(29, n15), (39, n37), (40, n19), (56, n23), (57, n6), (63, n27), (64, n39), (92, n24), (93, n10), (97, n38), (105, n14), (106, n8), (112, n3), (117, n26), (119, n30), (129, n16), (142, n28), (146, n34), (170, n33), (174, n13), (196, n35), (198, n36), (200, n0), (201, n17), (203, n7), (214, n2), (215, n21), (220, n4), (221, n9), (222, n18), (226, n20), (268, n32), (273, n11), (274, n29), (277, n31), (280, n1), (435, n5)]
theorem rowK5 : (callK Ir.env (awp (atOrc fun _ => .bool) Ir.env 1000000) 20 [.i .i64 5] hp0 (rowIs 2 37 (cells srt5))) = True := by kernel_rfl
theorem rowL : ansK (atOrc lowAt) Ir.env 1000000 20 [.sym 0] .nils True = True := by kernel_rfl
theorem rowH : ansK (atOrc highAt) Ir.env 1000000 20 [.sym 0] .nils True = True := by kernel_rfl
theorem rowNK : (callK Ir.env (awp (atOrc fun _ => .bool) Ir.env 1000000) 13 [] hp0 (rowIs 1 40 rowN)) = True := by kernel_rfl
end Go.Proofs.Ytpggfccbfplphaa.Tab
