/- Contracts of the functions, part 1: called with arguments that read so, each hands back what is typed. The conditions are those typed. -/
import Derived.Test.YtoccmkmnkoldmaaGreatAiD
import Derived.Test.YtoccmkmnkoldmaaGreatChecked
import Derived.KernelRfl
import Derived.Shelf.SlLaysF0
set_option linter.unusedSectionVars false
set_option linter.unusedVariables false
set_option linter.unusedSimpArgs false
namespace Go.Proofs
open Go Go.AI
def Tryz.TT : Tab := [
  (3, ⟨1, 8, .int .i64 0, [], 0, 0, 4, .i64, false⟩),
  (30, ⟨2, 16, .agg [.int .i64 0, .int .i64 0], [(0, 3), (1, 3)], 1, 0, 1, .i64, true⟩),
  (4, ⟨1, 1, .bool false, [], 0, 0, 5, .i64, false⟩),
  (26, ⟨7, 56, .agg [.int .i64 0, .int .i64 0, .int .i64 0, .int .i64 0, .int .i64 0, .int .i64 0, .int .i64 0], [(0, 3), (1, 3), (2, 3), (3, 3), (4, 3), (5, 3), (6, 3)], 1, 0, 1, .i64, true⟩),
  (57, ⟨1, 24, .sl .full 0 [], [], 0, 92, 3, .i64, false⟩),
  (0, ⟨1, 0, .junk, [], 0, 0, 0, .i64, false⟩),
  (32, ⟨3, 24, .agg [.int .i64 0, .int .i64 0, .int .i64 0], [(0, 3), (1, 30)], 1, 0, 1, .i64, false⟩),
  (92, ⟨3, 24, .agg [.int .i64 0, .int .i64 0, .int .i64 0], [(0, 3), (1, 30)], 1, 0, 1, .i64, false⟩),
  (59, ⟨9, 88, .agg [.int .i64 0, .int .i64 0, .int .i64 0, .int .i64 0, .int .i64 0, .int .i64 0, .int .i64 0, .int .i64 0, .sl .full 0 []], [(0, 3), (1, 3), (2, 3), (3, 3), (4, 30), (6, 3), (7, 3), (8, 57)], 0, 0, 1, .i64, false⟩),
  (102, ⟨2, 16, .agg [.int .i64 0, .int .i64 0], [(0, 3), (1, 3)], 1, 0, 1, .i64, true⟩),
  (186, ⟨2, 16, .agg [.int .i64 0, .int .i64 0], [(0, 3), (1, 3)], 1, 0, 1, .i64, true⟩),
  (62, ⟨6, 48, .agg [.int .i64 0, .int .i64 0, .int .i64 0, .int .i64 0, .int .i64 0, .int .i64 0], [(0, 3), (1, 3), (2, 30), (4, 30)], 1, 0, 1, .i64, false⟩),
  (28, ⟨21, 168, .agg [.int .i64 0, .int .i64 0, .int .i64 0, .int .i64 0, .int .i64 0, .int .i64 0, .int .i64 0, .int .i64 0, .int .i64 0, .int .i64 0, .int .i64 0, .int .i64 0, .int .i64 0, .int .i64 0, .int .i64 0, .int .i64 0, .int .i64 0, .int .i64 0, .int .i64 0, .int .i64 0, .int .i64 0], [(0, 3), (1, 3), (2, 26), (9, 3), (10, 3), (11, 3), (12, 3), (13, 3), (14, 3), (15, 3), (16, 3), (17, 3), (18, 3), (19, 3), (20, 3)], 1, 0, 1, .i64, false⟩),
  (88, ⟨4, 32, .agg [.int .i64 0, .int .i64 0, .int .i64 0, .int .i64 0], [(0, 3), (1, 3), (2, 3), (3, 3)], 1, 0, 1, .i64, true⟩),
  (33, ⟨1, 24, .sl .full 0 [], [], 0, 32, 3, .i64, false⟩),
  (80, ⟨3, 24, .agg [.int .i64 0, .int .i64 0, .int .i64 0], [(0, 30), (2, 3)], 1, 0, 1, .i64, false⟩),
  (60, ⟨1, 24, .sl .full 0 [], [], 0, 59, 3, .i64, false⟩),
  (42, ⟨1, 8, .int .i64 0, [], 0, 0, 4, .i64, false⟩),
  (96, ⟨4, 32, .agg [.int .i64 0, .int .i64 0, .int .i64 0, .int .i64 0], [(0, 3), (1, 3), (2, 30)], 1, 0, 1, .i64, false⟩),
  (165, ⟨1, 24, .sl .full 0 [], [], 0, 102, 3, .i64, false⟩),
  (184, ⟨1, 24, .sl .full 0 [], [], 0, 186, 3, .i64, false⟩),
  (157, ⟨3, 24, .agg [.int .i64 0, .int .i64 0, .int .i64 0], [], 3, 3, 2, .i64, false⟩),
  (63, ⟨1, 24, .sl .full 0 [], [], 0, 62, 3, .i64, false⟩),
  (171, ⟨5, 40, .agg [.int .i64 0, .int .i64 0, .int .i64 0, .int .i64 0, .int .i64 0], [], 5, 3, 2, .i64, false⟩),
  (41, ⟨1, 24, .sl .full 0 [], [], 0, 3, 3, .i64, false⟩),
  (69, ⟨1, 24, .sl .full 0 [], [], 0, 88, 3, .i64, false⟩),
  (24, ⟨1, 24, .sl .full 0 [], [], 0, 157, 3, .i64, false⟩),
  (23, ⟨4, 32, .agg [.int .i64 0, .int .i64 0, .int .i64 0, .int .i64 0], [], 4, 3, 2, .i64, false⟩),
  (22, ⟨7, 56, .agg [.int .i64 0, .int .i64 0, .int .i64 0, .int .i64 0, .int .i64 0, .int .i64 0, .int .i64 0], [], 7, 3, 2, .i64, false⟩),
  (54, ⟨1, 24, .sl .full 0 [], [], 0, 171, 3, .i64, false⟩),
  (163, ⟨3, 24, .agg [.int .i64 0, .int .i64 0, .int .i64 0], [(0, 3), (1, 3), (2, 3)], 1, 0, 1, .i64, true⟩),
  (76, ⟨1, 24, .sl .full 0 [], [], 0, 80, 3, .i64, false⟩),
  (40, ⟨1, 24, .sl .full 0 [], [], 0, 30, 3, .i64, false⟩),
  (94, ⟨1, 24, .sl .full 0 [], [], 0, 96, 3, .i64, false⟩),
  (125, ⟨1, 8, .lit .nilFunc, [], 0, 0, 8, .i64, false⟩),
  (140, ⟨1, 8, .lit .nilFunc, [], 0, 0, 8, .i64, false⟩),
  (199, ⟨1, 8, .lit .nilFunc, [], 0, 0, 8, .i64, false⟩),
  (188, ⟨1, 8, .lit .nilFunc, [], 0, 0, 8, .i64, false⟩),
  (217, ⟨1, 8, .lit .nilFunc, [], 0, 0, 8, .i64, false⟩),
  (45, ⟨1, 0, .junk, [], 0, 0, 0, .i64, false⟩),
  (247, ⟨1, 8, .int .u64 0, [], 0, 0, 4, .u64, false⟩),
  (213, ⟨1, 8, .int .u64 0, [], 0, 0, 4, .u64, false⟩),
  (150, ⟨8, 64, .agg [.int .i64 0, .int .i64 0, .int .i64 0, .int .i64 0, .int .i64 0, .int .i64 0, .int .i64 0, .int .i64 0], [(0, 26), (7, 3)], 1, 0, 1, .i64, false⟩),
  (251, ⟨1, 8, .lit (.pointer none), [], 0, 3, 7, .i64, false⟩),
  (56, ⟨14, 144, .agg [.int .i64 0, .int .i64 0, .int .i64 0, .int .i64 0, .int .i64 0, .int .i64 0, .int .i64 0, .int .i64 0, .int .i64 0, .int .i64 0, .int .i64 0, .sl .full 0 [], .sl .full 0 [], .int .i64 0], [(0, 22), (7, 23), (11, 24), (12, 54), (13, 3)], 0, 0, 1, .i64, false⟩),
  (229, ⟨1, 8, .int .i64 0, [], 0, 0, 4, .i64, false⟩),
  (219, ⟨2, 16, .agg [.int .i64 0, .lit .nilFunc], [(0, 3), (1, 217)], 0, 0, 1, .i64, false⟩),
  (70, ⟨1, 0, .junk, [], 0, 0, 0, .i64, false⟩),
  (127, ⟨2, 16, .agg [.int .i64 0, .lit .nilFunc], [(0, 3), (1, 125)], 0, 0, 1, .i64, false⟩),
  (116, ⟨3, 24, .agg [.int .i64 0, .int .i64 0, .int .i64 0], [(0, 30), (2, 3)], 1, 0, 1, .i64, false⟩),
  (239, ⟨1, 8, .int .u64 0, [], 0, 0, 4, .u64, false⟩),
  (214, ⟨1, 8, .lit .nilFunc, [], 0, 0, 8, .i64, false⟩),
  (192, ⟨1, 24, .sl .full 0 [], [], 0, 163, 3, .i64, false⟩),
  (261, ⟨1, 0, .junk, [], 0, 0, 0, .i64, false⟩),
  (237, ⟨1, 4, .int .u32 0, [], 0, 0, 4, .u32, false⟩),
  (43, ⟨1, 0, .junk, [], 0, 0, 0, .i64, false⟩),
  (64, ⟨1, 0, .junk, [], 0, 0, 0, .i64, false⟩),
  (195, ⟨1, 8, .lit (.map none), [(0, 102)], 0, 0, 9, .i64, false⟩),
  (90, ⟨3, 3, .agg [.bool false, .bool false, .bool false], [], 3, 4, 2, .i64, false⟩),
  (97, ⟨1, 0, .junk, [], 0, 0, 0, .i64, false⟩),
  (202, ⟨1, 8, .lit .nilFunc, [], 0, 0, 8, .i64, false⟩),
  (5, ⟨1, 1, .int .u8 0, [], 0, 0, 4, .u8, false⟩),
  (110, ⟨1, 8, .lit .nilFunc, [], 0, 0, 8, .i64, false⟩),
  (134, ⟨1, 8, .lit .nilFunc, [], 0, 0, 8, .i64, false⟩),
  (159, ⟨1, 8, .lit .nilFunc, [], 0, 0, 8, .i64, false⟩),
  (215, ⟨3, 24, .agg [.lit .nilFunc, .lit .nilFunc, .lit .nilFunc], [], 3, 214, 2, .i64, false⟩),
  (220, ⟨6, 48, .agg [.int .i64 0, .lit .nilFunc, .int .i64 0, .lit .nilFunc, .int .i64 0, .lit .nilFunc], [], 3, 219, 2, .i64, false⟩),
  (260, ⟨1, 8, .lit (.pointer none), [], 0, 247, 7, .i64, false⟩),
  (38, ⟨1, 24, .sl .full 0 [], [], 0, 28, 3, .i64, false⟩),
  (47, ⟨1, 0, .junk, [], 0, 0, 0, .i64, false⟩),
  (82, ⟨1, 0, .junk, [], 0, 0, 0, .i64, false⟩),
  (109, ⟨1, 8, .lit .nilFunc, [], 0, 0, 8, .i64, false⟩),
  (156, ⟨2, 16, .agg [.int .i64 0, .int .i64 0], [], 2, 3, 2, .i64, false⟩),
  (169, ⟨1, 8, .lit .nilFunc, [], 0, 0, 8, .i64, false⟩),
  (230, ⟨1, 0, .junk, [], 0, 0, 0, .i64, false⟩),
  (234, ⟨1, 0, .junk, [], 0, 0, 0, .i64, false⟩),
  (129, ⟨1, 0, .junk, [], 0, 0, 0, .i64, false⟩),
  (137, ⟨1, 8, .lit .nilFunc, [], 0, 0, 8, .i64, false⟩),
  (103, ⟨1, 0, .junk, [], 0, 0, 0, .i64, false⟩),
  (114, ⟨1, 8, .lit .nilFunc, [], 0, 0, 8, .i64, false⟩),
  (128, ⟨1, 24, .sl .full 0 [], [], 0, 127, 3, .i64, false⟩),
  (151, ⟨1, 0, .junk, [], 0, 0, 0, .i64, false⟩),
  (176, ⟨1, 8, .lit .nilFunc, [], 0, 0, 8, .i64, false⟩),
  (194, ⟨1, 8, .lit .nilFunc, [], 0, 0, 8, .i64, false⟩),
  (39, ⟨1, 24, .sl .full 0 [], [], 0, 33, 3, .i64, false⟩),
  (67, ⟨1, 24, .sl .full 0 [], [], 0, 60, 3, .i64, false⟩),
  (68, ⟨1, 24, .sl .full 0 [], [], 0, 63, 3, .i64, false⟩),
  (158, ⟨1, 8, .lit .nilFunc, [], 0, 0, 8, .i64, false⟩),
  (183, ⟨64, 64, .agg [.bool false, .bool false, .bool false, .bool false, .bool false, .bool false, .bool false, .bool false, .bool false, .bool false, .bool false, .bool false, .bool false, .bool false, .bool false, .bool false, .bool false, .bool false, .bool false, .bool false, .bool false, .bool false, .bool false, .bool false, .bool false, .bool false, .bool false, .bool false, .bool false, .bool false, .bool false, .bool false, .bool false, .bool false, .bool false, .bool false, .bool false, .bool false, .bool false, .bool false, .bool false, .bool false, .bool false, .bool false, .bool false, .bool false, .bool false, .bool false, .bool false, .bool false, .bool false, .bool false, .bool false, .bool false, .bool false, .bool false, .bool false, .bool false, .bool false, .bool false, .bool false, .bool false, .bool false, .bool false], [], 64, 4, 2, .i64, false⟩),
  (197, ⟨1, 8, .lit .nilFunc, [], 0, 0, 8, .i64, false⟩),
  (35, ⟨1, 0, .junk, [], 0, 0, 0, .i64, false⟩),
  (121, ⟨1, 0, .junk, [], 0, 0, 0, .i64, false⟩),
  (131, ⟨1, 0, .junk, [], 0, 0, 0, .i64, false⟩),
  (142, ⟨1, 8, .lit .nilFunc, [], 0, 0, 8, .i64, false⟩),
  (166, ⟨1, 0, .junk, [], 0, 0, 0, .i64, false⟩),
  (178, ⟨1, 8, .lit .nilFunc, [], 0, 0, 8, .i64, false⟩),
  (182, ⟨1, 0, .junk, [], 0, 0, 0, .i64, false⟩),
  (117, ⟨1, 8, .lit .nilFunc, [], 0, 0, 8, .i64, false⟩),
  (136, ⟨1, 8, .lit .nilFunc, [], 0, 0, 8, .i64, false⟩),
  (196, ⟨1, 8, .lit .nilFunc, [], 0, 0, 8, .i64, false⟩),
  (201, ⟨1, 8, .lit .nilFunc, [], 0, 0, 8, .i64, false⟩),
  (223, ⟨1, 8, .lit .nilFunc, [], 0, 0, 8, .i64, false⟩)]
def Tryz.keep2 : List Nat := []
def Tryz.keep3 : List Nat := [0, 1, 2, 3, 4, 5, 6, 7, 8, 9, 10, 11, 15, 16, 18, 20, 21, 22, 23, 24, 25, 26, 27, 28, 29, 30, 31, 32, 33, 34, 35, 36, 37, 38, 39, 40, 41, 42, 43, 44, 45, 46, 48, 50, 66, 94, 100, 246, 253, 254, 255, 256, 276]
def Tryz.keep4 : List Nat := [0, 1, 2, 3, 4, 5, 6, 7, 8, 10, 11, 12, 14, 15, 16, 17, 18, 19, 20, 21, 22, 23, 24, 25, 26, 27, 28, 29, 30, 31, 32, 33, 35, 48, 64, 80, 108, 114, 202, 209, 213, 256]
def Tryz.keep5 : List Nat := [0, 1, 2, 3, 4, 5, 6, 7, 8, 9, 10, 11, 12, 13, 14, 17, 18, 20, 37, 41, 46, 108]
def Tryz.keep6 : List Nat := [0, 1, 2, 4, 5, 6, 7, 8, 9, 10, 11, 12, 13, 14, 16, 33, 36, 77, 81, 109]
def Tryz.keep7 : List Nat := [0, 1, 2, 4, 5, 6, 7, 8, 9, 10, 11, 12, 13, 14, 15, 17, 67, 71, 111]
def Tryz.keep8 : List Nat := [0, 1, 2, 4, 7, 8, 9, 10, 11, 12, 13, 14, 15, 16, 17, 18, 20, 33, 95, 97, 112, 145, 182, 202, 211]
def Tryz.keep9 : List Nat := [0, 1, 2, 3, 6, 7, 8, 9, 10, 11, 12, 13, 14, 15, 16, 18, 36, 37, 45, 53, 61, 72, 93, 97, 107]
def Tryz.keep10 : List Nat := [0, 1, 2, 3, 6, 7, 8, 9, 10, 11, 12, 13, 14, 15, 16, 17, 18, 19, 20, 21, 22, 23, 24, 25, 26, 27, 28, 29, 31, 48, 52, 58, 91, 111, 122, 135, 137, 158, 172, 191]
def Tryz.keep11 : List Nat := [0, 1, 2, 3, 4, 5, 6, 7, 8, 9, 10, 11, 12, 13, 14, 15, 16, 17, 18, 19, 21, 22, 121]
def Tryz.keep12 : List Nat := [0, 1, 2, 3, 4, 5, 6, 10, 11, 12, 13]
def Tryz.keep13 : List Nat := [0, 1, 4, 6]
def Tryz.keep14 : List Nat := [0, 1, 2, 3, 5, 6, 7, 8, 9, 11, 16, 22, 24]
def Tryz.keep15 : List Nat := [0, 1, 2, 3, 5, 6, 7, 8, 9, 10, 11, 16, 26]
def Tryz.keep16 : List Nat := [0, 1, 2, 3, 5, 6, 7, 8, 9, 10, 19, 24]
def Tryz.keep17 : List Nat := [0, 1, 2, 3, 5, 6, 7, 8, 9, 10, 19, 24, 31]
def Tryz.keep18 : List Nat := [0, 1, 2, 3, 5, 6, 7, 8, 10, 15, 19, 21]
def Tryz.keep19 : List Nat := [0, 1, 2, 3, 5, 6, 7, 8, 9, 10, 15, 23]
def Tryz.keep20 : List Nat := [0, 1, 2, 3, 5, 6, 7, 8, 9, 10, 11, 12, 17, 22, 23, 24, 32, 54]
def Tryz.keep21 : List Nat := [0, 1, 2, 3, 5, 6, 7, 8, 9, 10, 11, 12, 13, 14, 19, 37, 44, 55]
def Tryz.keep22 : List Nat := [0, 1, 2, 3, 5, 6]
def Tryz.keep23 : List Nat := [0, 1, 2, 3, 5, 6]
def Tryz.keep24 : List Nat := [0, 1, 4, 5, 10, 14, 25]
def Tryz.keep25 : List Nat := [0, 1, 2, 4]
def Tryz.keep26 : List Nat := [0, 1, 2, 4]
def Tryz.keep27 : List Nat := [0, 1, 2, 3, 6, 14]
def Tryz.keep28 : List Nat := [0, 1, 2, 3, 6, 14]
def Tryz.keep29 : List Nat := [0, 1, 2, 3, 4, 5, 6, 7, 8, 10, 11, 12, 13, 53]
def Tryz.keep30 : List Nat := [0, 1, 2, 3, 4, 5, 6, 7, 8]
def Tryz.keep31 : List Nat := [0, 1, 2]
def Tryz.keep32 : List Nat := [0, 1, 4, 6]
def Tryz.keep33 : List Nat := [0, 1, 2, 3, 4, 7, 8, 9, 10, 12, 13, 14, 20, 26, 27, 28, 29, 41]
def Tryz.keep34 : List Nat := [0, 1, 2, 3, 4, 7, 8, 9, 10, 11, 12, 13, 14, 15, 16, 17, 18, 19, 20, 21, 22, 23, 24, 25, 26, 32, 42, 72, 93, 110, 135, 143, 152, 165]
def Tryz.keep35 : List Nat := [0, 1, 2, 3, 4, 7, 8, 9, 10, 11, 37, 38, 39, 40, 41, 80]
def Tryz.keep36 : List Nat := [0, 1, 2, 3, 4, 7, 8, 9, 10, 36, 40, 82, 85, 98]
def Tryz.keep37 : List Nat := [0, 1, 4, 5, 10, 14, 25]
def Tryz.keep38 : List Nat := [0, 1, 4, 5, 10, 14, 25]
def Tryz.keep39 : List Nat := [0, 2, 3, 4, 6, 7, 8, 12, 13, 14, 15, 39, 40, 52]
def Tryz.keep40 : List Nat := [0, 2, 3, 4, 5, 6, 7, 8, 9, 12, 16, 34, 50, 63, 83, 97]
def Tryz.keep41 : List Nat := [0, 2, 3, 5, 6, 7, 8, 9]
def Tryz.keep42 : List Nat := [0, 1, 2, 3, 4, 6]
def Tryz.keep43 : List Nat := [0, 1, 2, 3, 4, 6, 7, 8, 9, 10, 18, 41, 81, 89, 103, 162]
def Tryz.keep44 : List Nat := [0, 1, 2, 4, 5, 6, 7, 8, 9, 13, 15, 16, 17, 19, 20, 21, 33]
def Tryz.keep45 : List Nat := [0, 1, 4, 5, 9, 18]
def Tryz.keep46 : List Nat := [0, 1, 2, 3, 4, 5, 6, 7, 8, 9, 14, 21, 65]
def Tryz.keep47 : List Nat := [0, 1, 2, 3]
def Tryz.keep48 : List Nat := [0, 1, 2, 4, 5, 17]
def Tryz.keep49 : List Nat := [0, 1, 3, 4, 5, 6, 7, 15, 17, 18, 19, 22]
def Tryz.keep50 : List Nat := [0, 1, 2, 3, 6, 7, 8, 9, 18]
def Tryz.keep51 : List Nat := [0, 1, 2, 4, 5, 6]
def Tryz.keep52 : List Nat := [0, 1, 2, 4, 5, 6, 7]
def Tryz.keep53 : List Nat := [0, 1, 4, 5, 6, 7, 8, 9, 20]
def Tryz.keep54 : List Nat := [0, 1, 2, 3, 4, 5, 6]
def Tryz.keep55 : List Nat := [0, 1, 2, 3, 5, 6, 7, 8, 9, 15, 24]
def Tryz.keep56 : List Nat := [0, 1, 4, 5, 7, 8, 9, 16]
def Tryz.keep57 : List Nat := [0, 2]
def Tryz.keep58 : List Nat := [0, 1, 2]
def Tryz.keep59 : List Nat := [0, 2, 3, 4, 5, 8, 9, 10, 11, 12, 33]
def Tryz.keep60 : List Nat := [0, 1, 2, 3, 4, 5]
def Tryz.keep61 : List Nat := [0, 1, 2, 3, 4, 5, 28]
def Tryz.keep62 : List Nat := [0, 2, 3, 4, 7, 11, 29, 32, 75]
def Tryz.keep63 : List Nat := [0, 1, 2]
def Tryz.keep64 : List Nat := [0, 1, 2, 3, 4, 5, 6]
def Tryz.keep65 : List Nat := [0, 1, 2, 6]
def Tryz.keep66 : List Nat := [0, 1, 2, 4, 5, 6, 7, 16, 33]
def Tryz.keep67 : List Nat := [0, 1, 2, 3, 6, 7, 8, 10, 18, 19, 20, 21, 27]
def Tryz.keep68 : List Nat := [0, 1, 2, 3, 6, 7, 8, 14, 34, 40]
def Tryz.keep69 : List Nat := [0, 1, 2, 3, 4, 6, 7, 8, 9, 12, 13, 14, 15]
def Tryz.keep70 : List Nat := [0, 1, 2, 6, 7, 8, 9, 10, 19]
def Tryz.keep71 : List Nat := [0, 1, 2, 3, 4, 5, 10, 11, 12, 13, 14, 15, 16, 17, 25, 111, 149, 168]
def Tryz.keep72 : List Nat := [0, 1, 2, 3, 6, 7, 8, 9, 10, 22]
def Tryz.keep73 : List Nat := [0, 1, 2, 3, 5, 6, 7, 8]
def Tryz.keep74 : List Nat := [0, 1, 2, 3, 6, 7, 8, 10, 11, 13, 15, 16, 17, 18]
def Tryz.keep75 : List Nat := [0, 1, 2, 3, 5, 6, 7, 8]
def Tryz.keep76 : List Nat := [0, 1, 2, 6, 7, 8, 9, 10, 11, 13, 14, 15, 16, 17, 18, 19, 20, 21, 27, 28, 29, 30, 35, 36, 39, 40, 61, 64]
def Tryz.keep77 : List Nat := [0, 1, 2, 4, 5, 6, 7, 8, 9, 13, 17, 22, 35]
def Tryz.keep78 : List Nat := [0, 2, 3, 4, 8]
def Tryz.keep79 : List Nat := [0, 1, 2, 3, 5, 6, 7, 8, 9, 10, 19, 23, 32]
def Tryz.keep80 : List Nat := [0, 2, 3, 4, 5, 6, 7, 11, 23]
def Tryz.keep81 : List Nat := [0, 1, 4, 5, 6, 7, 8, 19, 23, 45]
def Tryz.keep82 : List Nat := [0, 1, 2]
def Tryz.keep83 : List Nat := [0, 2]
def Tryz.keep84 : List Nat := [0, 1, 2, 3]
def Tryz.keep85 : List Nat := [0, 1, 2, 3, 4, 6, 7, 8, 9, 11, 12, 13, 76, 81, 82, 83, 84, 93, 149]
def Tryz.keep86 : List Nat := [0, 1, 4]
def Tryz.keep87 : List Nat := [0, 2, 3, 4, 5, 8, 12, 49, 95]
def Tryz.keep88 : List Nat := [0, 1, 2]
def Tryz.keep89 : List Nat := [0, 1, 2]
def Tryz.keep90 : List Nat := [0, 1, 2, 3, 4]
def Tryz.keep91 : List Nat := [0, 2, 3, 5, 6, 7, 8, 9, 14]
def Tryz.keep92 : List Nat := [0, 1, 4, 5, 6, 11, 12, 13, 16, 19]
def Tryz.keep93 : List Nat := [0, 1, 2, 6, 7, 9, 10, 11, 12, 16, 17, 18, 19, 25, 37]
def Tryz.keep94 : List Nat := [0, 1, 2, 3, 4, 5, 6]
def Tryz.keep95 : List Nat := [0, 2, 3, 4, 5, 6, 7, 8, 12, 22, 42, 80]
def Tryz.keep96 : List Nat := [0, 1, 2, 6]
def Tryz.keep97 : List Nat := [0, 1, 2, 3, 4, 6]
def Tryz.keep98 : List Nat := [0, 1, 2, 4]
def Tryz.keep99 : List Nat := [0, 1, 2, 3, 4, 5, 6, 13]
def Tryz.keep100 : List Nat := [0, 1, 2, 3, 5, 9, 10, 11, 12, 26]
def Tryz.keep101 : List Nat := [0, 1, 2, 6]
def Tryz.keep102 : List Nat := [0, 2, 3, 5, 6, 7, 8, 9, 33]
def Tryz.keep103 : List Nat := [0, 1, 2]
def Tryz.keep104 : List Nat := [0, 1, 2, 3, 6, 7, 8]
def Tryz.keep105 : List Nat := [0, 1, 2]
def Tryz.keep106 : List Nat := [0, 1, 2, 4, 5, 6, 7, 8, 9, 10, 11, 19, 35]
def Tryz.keep107 : List Nat := [0, 1, 4, 6]
def Tryz.keep108 : List Nat := [0, 1, 2, 3]
def Tryz.keep109 : List Nat := [0, 1, 4, 6]
def Tryz.keep110 : List Nat := [0, 1, 2, 3, 5, 6, 12, 21, 30]
def Tryz.keep111 : List Nat := [0, 1, 2, 6]
def Tryz.keep112 : List Nat := [0, 1, 2, 3]
def Tryz.keep113 : List Nat := [0, 1, 4]
def Tryz.keep114 : List Nat := [0, 2]
def Tryz.keep115 : List Nat := [0, 1, 2, 3, 4]
def Tryz.keep116 : List Nat := [0, 1, 2, 3, 22]
def Tryz.keep117 : List Nat := [0, 1, 2, 6]
def Tryz.keep118 : List Nat := [0, 1, 2, 4, 5, 7, 8, 9, 10, 18, 22, 23]
def Tryz.keep119 : List Nat := [0, 1, 4]
def Tryz.keep120 : List Nat := [0, 1, 2, 3]
def Tryz.keep121 : List Nat := [0, 1, 2, 3, 6, 7, 8, 9, 10, 11, 31]
def Tryz.keep122 : List Nat := [0, 1, 2, 4, 5, 6]
def Tryz.keep123 : List Nat := [0, 1, 2, 4]
def Tryz.keep124 : List Nat := [0, 1, 4, 6]
def Tryz.keep125 : List Nat := [0, 1, 2, 3, 5, 6, 7, 8, 17, 25]
def Tryz.keep126 : List Nat := [0, 1, 2, 4, 5]
def Tryz.keep127 : List Nat := [0, 1, 2, 4, 5, 13, 17, 26]
def Tryz.keep128 : List Nat := [0, 1, 2, 3, 4, 5, 6, 7]
def Tryz.keep129 : List Nat := [0, 1, 2, 3, 5, 6, 7, 8, 9, 10, 19, 25]
def Tryz.keep130 : List Nat := [0, 1, 2, 3]
def Tryz.keep131 : List Nat := [0, 2, 3, 4, 12, 53, 56, 69]
def Tryz.keep132 : List Nat := [0, 1, 4, 5, 6, 10, 30]
def Tryz.keep133 : List Nat := [0, 1, 2, 6]
def Tryz.keep134 : List Nat := [0, 1, 4]
def Tryz.keep135 : List Nat := [0, 1, 2]
def Tryz.keep136 : List Nat := [0, 1, 2, 3, 4, 5]
def Tryz.keep137 : List Nat := [0, 1, 4, 5, 10, 24]
def Tryz.keep138 : List Nat := [0, 1, 2, 3, 4]
def Tryz.keep139 : List Nat := [0, 1, 2, 3, 4, 6]
def Tryz.keep140 : List Nat := [0, 1, 4, 5, 7, 8, 9, 16]
def Tryz.keep141 : List Nat := [0, 1, 2, 3, 4, 11, 23, 33, 45]
def Tryz.keep142 : List Nat := [0, 1, 4, 6, 7, 8, 9, 10, 14, 15, 16, 17, 24]
def Tryz.keep143 : List Nat := [0, 2]
def Tryz.keep144 : List Nat := [0, 1, 4]
def Tryz.keep145 : List Nat := [0, 1, 2, 4, 5, 7, 9, 12, 13, 14, 15, 18, 19, 20, 25]
def Tryz.keep146 : List Nat := [0, 1, 2]
def Tryz.keep147 : List Nat := [0, 1, 3, 5, 6, 7, 8, 9, 10, 11, 12, 34, 35, 36, 37, 60, 66]
def Tryz.keep148 : List Nat := [0, 1, 4]
def Tryz.keep149 : List Nat := [0, 1, 2, 3, 4]
def Tryz.keep150 : List Nat := [0, 1, 2, 6]
def Tryz.keep151 : List Nat := [0, 1, 2]
def Tryz.keep152 : List Nat := [0, 1, 2, 3]
def Tryz.keep153 : List Nat := [0, 2]
def Tryz.keep154 : List Nat := [0, 1, 2]
def Tryz.keep155 : List Nat := [0, 2, 3, 6]
def Tryz.keep156 : List Nat := [0, 2, 3, 4, 6, 9, 13, 14, 15, 20]
def Tryz.keep157 : List Nat := [0, 1, 4]
def Tryz.keep158 : List Nat := [0, 1, 4, 6]
def Tryz.keep159 : List Nat := [0, 1, 4, 5, 7, 8, 9, 16]
def Tryz.keep160 : List Nat := [0, 1, 4]
def Tryz.keep161 : List Nat := [0, 1, 2]
def Tryz.keep162 : List Nat := [0, 1, 2, 6]
def Tryz.keep163 : List Nat := [0, 1, 2, 6]
def Tryz.keep164 : List Nat := [0, 1, 2, 3, 4]
def Tryz.keep165 : List Nat := [0, 1, 2, 3, 4]
def Tryz.keep166 : List Nat := [0, 1, 4, 5]
def Tryz.keep167 : List Nat := [0, 1, 2]
def Tryz.keep168 : List Nat := [0, 1, 4, 5, 7, 8, 9, 16]
def Tryz.keep169 : List Nat := [0, 1, 2, 3, 6, 7, 8, 9, 14]
def Tryz.keep170 : List Nat := [0, 1, 2, 3, 6, 7, 12]
def Tryz.keep171 : List Nat := [0, 1, 2, 4, 5, 6, 7, 8, 9, 10, 11, 32]
def Tryz.keep172 : List Nat := [0, 1, 2]
def Tryz.keep173 : List Nat := [0, 1, 2, 3, 5, 6, 7, 8, 10, 20, 22]
def Tryz.keep174 : List Nat := [0, 1, 3]
def Tryz.keep175 : List Nat := [0, 1, 2, 3, 4]
def Tryz.keep176 : List Nat := [0, 1, 2, 3, 4, 5, 6, 7]
def Tryz.keep177 : List Nat := [0, 1, 2]
def Tryz.keep178 : List Nat := [0, 1, 4, 5, 6, 10, 30]
def Tryz.keep179 : List Nat := [0, 1, 2, 4, 5, 19]
def Tryz.keep180 : List Nat := [0, 1, 2]
def Tryz.keep181 : List Nat := [0, 1, 4, 5, 7, 8, 9, 16]
def Tryz.keep182 : List Nat := [0, 1, 2, 4]
def Tryz.keep183 : List Nat := [0, 1, 2, 6]
def Tryz.keep184 : List Nat := [0, 1, 2, 3, 4, 10, 11, 12, 13, 14, 15, 16, 17, 18, 19, 20, 25, 32, 39, 56, 75, 80, 97, 125]
def Tryz.keep185 : List Nat := [0, 2]
def Tryz.keep186 : List Nat := [0, 1, 2]
def Tryz.keep187 : List Nat := [0, 1, 2]
def Tryz.keep188 : List Nat := [0, 1, 2, 3]
def Tryz.keep189 : List Nat := [0, 1, 2, 6]
def Tryz.keep190 : List Nat := [0, 1, 2, 3, 4, 10, 11, 12, 13, 14, 15, 16, 17, 18, 19, 20, 25, 32, 39, 56, 75, 80, 97, 125]
def Tryz.keep191 : List Nat := [0, 1, 4]
def Tryz.keep192 : List Nat := [0, 1, 2, 6]
def Tryz.keep193 : List Nat := [0, 2, 3, 9]
def Tryz.keep194 : List Nat := [0]
def Tryz.keep195 : List Nat := [0, 1, 4, 5, 7, 8, 9, 16]
def Tryz.keep196 : List Nat := [0, 1, 2, 4, 11, 21]
def Tryz.keep197 : List Nat := [0, 2]
def Tryz.keep198 : List Nat := [0, 1, 4]
def Tryz.keep199 : List Nat := [0, 1, 3, 5, 7, 13]
def Tryz.keep200 : List Nat := [0, 1, 2, 3, 6]
def Tryz.keep201 : List Nat := [0, 1, 4, 9]
def Tryz.keep202 : List Nat := [0, 2, 3, 6]
def Tryz.keep203 : List Nat := [0, 2, 3, 4, 7, 12, 18]
def Tryz.keep204 : List Nat := [0, 1, 2]
def Tryz.keep205 : List Nat := [0, 1, 4, 7]
def Tryz.keep206 : List Nat := [0, 1, 2, 3, 4, 5, 6]
def Tryz.keep207 : List Nat := [0, 1, 2, 6]
def Tryz.keep208 : List Nat := [0, 1, 2, 3, 4, 5, 41, 49, 73]
def Tryz.keep209 : List Nat := [0, 1, 2, 3, 8, 9, 14, 34]
def Tryz.keep210 : List Nat := [0, 1, 2, 3, 8, 9, 10, 11, 12, 21, 33]
def Tryz.keep211 : List Nat := [0, 1, 2, 8, 9, 10, 11, 12, 17, 35, 45]
def Tryz.keep212 : List Nat := [0, 1, 2, 3, 8, 9, 10, 11, 12, 13, 14, 34, 36, 55, 57, 60]
def Tryz.keep213 : List Nat := [0, 1, 2, 8, 9, 15]
def Tryz.keep214 : List Nat := [0, 1, 2, 3, 8, 9, 10, 11, 12, 16, 36, 41, 45, 65, 69, 84, 104, 109, 124]
def Tryz.keep215 : List Nat := [0, 1, 2, 3, 4, 10, 11, 12, 47, 65, 70]
def Tryz.keep216 : List Nat := [0, 1, 2, 3, 4, 10, 11, 12, 13, 47, 66, 71, 120, 139, 144]
def Tryz.keep217 : List Nat := [0, 2, 4, 8]
def Tryz.keep218 : List Nat := [0, 2, 4, 8, 14]
def Tryz.keep219 : List Nat := [0, 1, 2, 3, 8, 9, 14, 34]
def Tryz.keep220 : List Nat := [0, 1, 2, 3, 8, 9, 10, 11, 12, 21, 33]
def Tryz.keep221 : List Nat := [0, 1, 2, 8, 9, 10, 11, 12, 17, 35, 45]
def Tryz.keep222 : List Nat := [0, 1, 2, 3, 8, 9, 10, 11, 12, 13, 14, 34, 36, 55, 57, 60]
def Tryz.keep223 : List Nat := [0, 1, 2, 8, 9, 15]
def Tryz.keep224 : List Nat := [0, 1, 2, 3, 8, 9, 10, 11, 12, 16, 36, 41, 45, 65, 69, 84, 104, 109, 124]
def Tryz.keep225 : List Nat := [0, 1, 2, 3, 4, 10, 11, 12, 47, 65, 70]
def Tryz.keep226 : List Nat := [0, 1, 2, 3, 4, 10, 11, 12, 13, 47, 66, 71, 120, 139, 144]
def Tryz.keep227 : List Nat := [0, 2]
def Tryz.keep228 : List Nat := [0, 2]
def Tryz.keep229 : List Nat := [0, 2]
def Tryz.keep230 : List Nat := [0, 1, 2, 4, 5, 6, 7]
def Tryz.keep231 : List Nat := [0, 1, 2, 3, 4, 10, 11, 12, 13, 14, 15, 16, 17, 18, 19, 20, 25, 32, 39, 56, 75, 80, 97, 125]
def Tryz.keep232 : List Nat := [0, 2]
def Tryz.keep233 : List Nat := [0, 2, 4]
def Tryz.keep234 : List Nat := [0, 1, 2, 3, 5, 6, 8, 14, 20, 21, 22, 23, 37, 47]
def Tryz.keep235 : List Nat := [0, 1, 2, 3, 4, 10, 11, 18, 40, 58]
def Tryz.keep236 : List Nat := [0, 2]
def Tryz.keep237 : List Nat := [0, 2]
def Tryz.keep238 : List Nat := [0, 1, 2, 3, 8]
def Tryz.keep239 : List Nat := [0, 1, 2, 3, 4, 5, 12]
def Tryz.keep240 : List Nat := [0, 1, 2, 3, 4, 10, 11, 18, 40, 58]
def Tryz.keep241 : List Nat := [0, 1, 2, 3, 8]
def Tryz.keep242 : List Nat := [0, 1, 2, 3, 4, 5, 12]
def Tryz.keep243 : List Nat := [0, 1, 2, 3, 8, 9, 14, 34]
def Tryz.keep244 : List Nat := [0, 1, 2, 3, 8, 9, 10, 11, 12, 21, 33]
def Tryz.keep245 : List Nat := [0, 1, 2, 8, 9, 10, 11, 12, 17, 35, 45]
def Tryz.keep246 : List Nat := [0, 1, 2, 3, 8, 9, 10, 11, 12, 13, 14, 34, 36, 55, 57, 60]
def Tryz.keep247 : List Nat := [0, 1, 2, 8, 9, 15]
def Tryz.keep248 : List Nat := [0, 1, 2, 3, 8, 9, 10, 11, 12, 16, 36, 41, 45, 65, 69, 84, 104, 109, 124]
def Tryz.keep249 : List Nat := [0, 1, 2, 3, 4, 10, 11, 12, 47, 65, 70]
def Tryz.keep250 : List Nat := [0, 1, 2, 3, 4, 10, 11, 12, 13, 47, 66, 71, 120, 139, 144]
def Tryz.keep251 : List Nat := [0, 1, 2, 3, 4, 10, 11, 22]
def Tryz.keep252 : List Nat := [0, 1, 2, 3, 4, 10, 11, 22]
def Tryz.keep253 : List Nat := [0, 1, 2, 3, 4, 10, 11, 18, 40, 58]
def Tryz.keep254 : List Nat := [0, 1, 2, 3, 8]
def Tryz.keep255 : List Nat := [0, 1, 2, 3, 4, 5, 12]
def Tryz.keep256 : List Nat := [0, 1, 2, 3, 4, 10, 11, 22]
theorem Tryz.TT_ok : Tab.OK Tryz.TT Tryz.prog := (by kernel_rfl : Tryz.TT.map (fun p => TI.of Tryz.prog p.1) = Tryz.TT.map (fun p => some p.2))
theorem Tryz.mixed : Tryz.prog.follows .mixedOrders = true := by kernel_rfl
end Go.Proofs



namespace Go.Proofs
open Go Go.AI
open Go.RowKit (Below)
set_option maxRecDepth 10000
set_option linter.unusedSimpArgs false
theorem nodup_len {α : Type} [DecidableEq α] : ∀ {p k : List α}, p.Nodup → (∀ x ∈ p, x ∈ k) → p.length ≤ k.length
  | [], _, _, _ => Nat.zero_le _
  | x :: p, k, hp, hs => by
    obtain ⟨h1, h2⟩ := List.nodup_cons.1 hp
    have hx := hs x List.mem_cons_self
    have := nodup_len (k := k.erase x) h2 fun y hy => (List.mem_erase_of_ne (fun e => by subst e; exact h1 hy)).2 (hs y (List.mem_cons_of_mem _ hy))
    rw [List.length_erase_of_mem hx] at this
    have hpos := List.length_pos_of_mem hx
    simp only [List.length_cons]
    omega
theorem perm_of_nodup {α : Type} [DecidableEq α] : ∀ {p k : List α}, p.Nodup → k.Nodup → (∀ x, x ∈ p ↔ x ∈ k) → p.Perm k := fun hp hk h => (List.perm_ext_iff_of_nodup hp hk).2 h
/-- maps.Keys at a map of cells: its iterator. -/
theorem Tryz.keys_seq (l : List (List Int × AV)) (hl : ∀ p ∈ l, p.1.length = 2) :
    ASeqN Tryz.prog (fun k : List Int => #[keyV k]) 199 [.ref [.mapv (rowsK l)]] (fun p x => x ∈ l.map (·.1) ∧ x ∉ p ∧ p.length < l.length) (fun p => p.Perm (l.map (·.1))) := by
  refine ⟨enters_of Tryz.func199 (by kernel_rfl) rfl, fun m lb hlen hr F n hfn hdep hal hro lp J Jx W hs hab habx hyld hJ0 => ?_⟩
  obtain ⟨pb, po, b, es, clock, hlb, hm1, hm2, hborn, hsz, hkeys⟩ : ∃ pb po b es clock, lb = #[.pointer (some ⟨pb, po, none⟩)] ∧ m pb po = some (.map (some b)) ∧ m.maps b = some (es, clock) ∧ BornOK es clock ∧ l.length = es.size ∧
      ∀ (i : Nat) (e : MapEntry), es[i]? = some e → ∃ p, l[i]? = some p ∧ e.key = keyV p.1 := by
    have h1 : lb.size = 1 := by simpa using hlen.symm
    obtain ⟨v, hv⟩ : ∃ v, lb = #[v] := Array.size_eq_one_iff.1 h1
    subst hv
    have h2 := hr 0 _ v rfl rfl
    cases h2 with
    | ref cs pb po hc g hg hr' =>
      have h3 := hr' 0 _ rfl
      have h4 := hg 0 _ rfl
      generalize g 0 = u at h3 h4
      cases h3 with
      | mapv xs b es clock hm hb hl' h2' hk hv =>
        refine ⟨pb, po, b, es, clock, rfl, by simpa using h4, hm, hb, by simpa [rowsK] using hl', fun i e he => ?_⟩
        have hi : i < l.length := by
          have := (Array.getElem?_eq_some_iff.1 he).1
          have : (rowsK l).length = es.size := hl'
          simp [rowsK] at this; omega
        exact ⟨l[i], List.getElem?_eq_getElem hi, (hk i _ e _ (by simp [rowsK, hi] : (rowsK l)[i]? = some [keyA l[i].1, l[i].2]) he rfl).keyA⟩
  subst hlb
  have hnd : (l.map (·.1)).Nodup := by
    rw [List.Nodup, List.pairwise_iff_getElem]
    intro i j hi hj hij hc
    simp only [List.length_map] at hi hj
    simp only [List.getElem_map] at hc
    have hi' : i < es.size := by omega
    have hj' : j < es.size := by omega
    obtain ⟨p, p1, p2⟩ := hkeys i _ (Array.getElem?_eq_getElem hi')
    obtain ⟨q, q1, q2⟩ := hkeys j _ (Array.getElem?_eq_getElem hj')
    have := hborn.2.2 i j _ _ (Array.getElem?_eq_getElem hi') (Array.getElem?_eq_getElem hj') (by
      rw [p2, q2]
      rw [List.getElem?_eq_getElem hi] at p1
      rw [List.getElem?_eq_getElem hj] at q1
      cases p1; cases q1
      rw [hc])
    omega
  have hmem : ∀ e ∈ es.toList, ∃ i, es[i]? = some e := fun e he => by
    obtain ⟨i, hi, rfl⟩ := List.getElem_of_mem he
    exact ⟨i, by rw [← Array.getElem?_toList]; exact List.getElem?_eq_getElem hi⟩
  have hbl : ∀ e ∈ es.toList, e.born < clock := fun e he => let ⟨i, hi⟩ := hmem e he; hborn.1 i e hi
  have hbu : ∀ e ∈ es.toList, ∀ f ∈ es.toList, f.born = e.born → f = e := fun e he f hf h => by
    obtain ⟨i, hi⟩ := hmem e he
    obtain ⟨j, hj⟩ := hmem f hf
    have := hborn.2.1 j i f e hj hi h
    subst this
    rw [hi] at hj; cases hj; rfl
  have hkm : ∀ e ∈ es.toList, ∃ x, e.key = keyV x ∧ x ∈ l.map (·.1) := fun e he => by
    obtain ⟨i, hi⟩ := hmem e he
    obtain ⟨p, p1, p2⟩ := hkeys i e hi
    exact ⟨p.1, p2, List.mem_map_of_mem (List.mem_of_getElem? p1)⟩
  -- what goes over the map
  obtain ⟨r, hrr⟩ : ∃ r, W.heap.size = r := ⟨_, rfl⟩
  let rel : Array Nat → List (List Int) → Prop := fun seen p => ∀ e ∈ es.toList, ∀ x, e.key = keyV x → (seen.contains e.born = true ↔ x ∈ p)
  let J2 : List (List Int) × Option (List Int) → World → Prop := fun q w => J q.1 w ∧ ∃ seen, w.heap[r]? = some (.mapIter (some b) clock seen clock) ∧
    match q.2 with
    | none => rel seen q.1
    | some x => (x ∈ l.map (·.1) ∧ x ∉ q.1 ∧ q.1.length < l.length) ∧ rel seen (q.1 ++ [x]) ∧ ∃ e ∈ es.toList, e.key = keyV x ∧ seen.back? = some e.born
  let Y : YB (List (List Int) × Option (List Int)) (List Int) := ⟨Tryz.prog, F, n, 14, m, lp, J2, fun _ => Jx, fun q x => q.2 = some x, fun q x => (q.1 ++ [x], none), fun k => #[keyV k], [(0, .lit (.func (.yield lp) #[] #[])), (5, .lit (.pointer (some ⟨r, 0, none⟩)))]⟩
  have hY : Y.OK := by
    refine ⟨fun W => ⟨hfn, hdep, hal, Tryz.mixed⟩, hro, fun q W1 W2 h1 h2 => ?_, fun _ W1 W2 h1 h2 => habx W1 W2 h1 h2.toI, fun q x W1 hq hJ hm => ?_⟩
    · obtain ⟨g1, seen, g2, g3⟩ := h1
      exact ⟨hab _ W1 W2 g1 h2.toI, seen, (h2.below.block _ (Array.getElem?_eq_some_iff.1 g2).1).trans g2, g3⟩
    · obtain ⟨g1, seen, g2, g3⟩ := hJ
      have hq' : q.2 = some x := hq
      rw [hq'] at g3
      obtain ⟨g3, g5, _⟩ := g3
      obtain ⟨fn, tmps, asg, bd, q1, q2⟩ := hyld q.1 x W1 g3 g1 hm
      refine ⟨fn, tmps, asg, bd, q1, q2.mono fun e W' h => h.imp (fun ⟨h1, h2, h3, h4⟩ => ⟨h1, ⟨h2, seen, h4 _ _ g2 rfl, g5⟩, h3⟩) id⟩
  have hwb : ∀ w, m.sub w → w.heap[b]? = some (.map es clock) := fun w h => h.map b _ hm2
  have hrN : ∀ (w : World) (d : Nat) (seen : Array Nat) (o : Obj), softO o → w.heap[r]? = some (.mapIter (some b) clock seen clock) → GrI W.heap.size w ((World.dr w d).putObj r o) := fun w d seen o ho h =>
    ⟨rfl, rfl, rfl, (by simp [World.putObj, World.dr]), (fun c hc hc2 => World.putObj_heap_other (fun e => by
      subst e
      rcases hc2 with h1 | h1
      · omega
      · rw [h] at h1; cases h1)), ⟨(by show w.drawn ≤ w.drawn + d; omega)⟩⟩
  have hsubP : ∀ (w : World) (d : Nat) (seen : Array Nat) (o : Obj), m.sub w → w.heap[r]? = some (.mapIter (some b) clock seen clock) → m.sub ((World.dr w d).putObj r o) := fun w d seen o h hr =>
    ⟨fun c q v hv => by
      have h1 := h.cell c q v hv
      simp only [World.cell?] at h1 ⊢
      rw [World.putObj_heap_other (fun e => by subst e; rw [hr] at h1; cases h1)]; exact h1,
     fun c x hx => by
      have h1 := h.map c x hx
      rw [World.putObj_heap_other (fun e => by subst e; rw [hr] at h1; cases h1)]; exact h1⟩
  refine callsIn_of_wp Tryz.func199 rfl (hfn 199) ?_ hro
  refine wpIn_seq (wpIn_region ?_)
  have hΓ : ∀ W, Base.OK ⟨Tryz.prog, F, n, W, m, 14⟩ := fun W => ⟨hfn, hdep, hal, Tryz.mixed⟩
  -- the first region
  obtain ⟨a0, ha0⟩ : ∃ a0 : Act, a0 = { tmps := #[Value.func (.yield lp) #[] #[]] ++ #[Value.pointer (some ⟨pb, po, none⟩)] ++ Array.replicate (Tryz.f199.ntmps - (#[Value.func (.yield lp) #[] #[]] ++ #[Value.pointer (some ⟨pb, po, none⟩)]).size) Go.undef, defers := [] } := ⟨_, rfl⟩
  rw [← ha0]
  have hz0 : a0.tmps.size = 14 := by rw [ha0]; simp [Tryz.ntmps199]
  have hd0 : a0.defers = [] := by rw [ha0]
  have e00 : a0.tmps.getD 0 Go.undef = .func (.yield lp) #[] #[] := by rw [ha0]; simp [Array.getD_eq_getD_getElem?]
  have e01 : a0.eval (.tmp 1) = .pointer (some ⟨pb, po, none⟩) := by
    show a0.tmps.getD 1 Go.undef = _
    rw [ha0]; simp [Array.getD_eq_getD_getElem?, Array.getElem?_append]
  clear ha0
  have hrun0 : (load ⟨pb, po, none⟩).run Tryz.prog W = .ok (.map (some b)) W := by
    have hc := hs.cell pb po _ hm1
    simp [load, Sem.run, hc]
  refine ops_cons (i := 0) (l := [1]) (o := { dst := some 4, op := .load 195 (.tmp 1), type := 195, pos := _, after := _, guard := none }) rfl rfl ?_
  refine wpIn_value (Γ := ⟨Tryz.prog, F, n, W, m, 14⟩) (hΓ W) (fun c hc => by cases hc) (v := .map (some b)) (w' := W) ?_ ?_
  · simp only [execOp, e01, Instr.loadAt, Instr.sureAddr, loadVar, Sem.run_bind, Sem.run_pure, Result.andThen_ok, Tryz.isAgg195, Bool.false_eq_true, if_false, hrun0]
  have e04 : (a0.put (some 4) (.map (some b))).eval (.tmp 4) = .map (some b) := by
    show (a0.put (some 4) (.map (some b))).tmps.getD 4 Go.undef = _
    rw [getD_put _ _ _ _ (by omega), if_pos rfl]
  refine ops_cons (i := 1) (l := []) (o := { dst := some 5, op := .range 195 (.tmp 4), type := 0, pos := _, after := _, guard := none }) rfl rfl ?_
  refine wpIn_value (Γ := ⟨Tryz.prog, F, n, W, m, 14⟩) (hΓ W) (fun c hc => by cases hc) (v := .pointer (some ⟨W.heap.size, 0, none⟩)) (w' := W.alloc (.mapIter (some b) clock #[] clock)) ?_ ?_
  · simp only [execOp, e04, Sem.run_bind, Go.AI.run_range_map Tryz.underlying195 (hwb W hs), Result.andThen_ok, Sem.run_pure]
  simp only [wpOpsIn]
  obtain ⟨a1, ha1⟩ : ∃ a1 : Act, a1 = (a0.put (some 4) (.map (some b))).put (some 5) (.pointer (some ⟨W.heap.size, 0, none⟩)) := ⟨_, rfl⟩
  show Code.wpIn _ _ _ _ _ ((a0.put (some 4) (.map (some b))).put (some 5) (.pointer (some ⟨W.heap.size, 0, none⟩))) _
  rw [← ha1]
  have hG : Gr W (W.alloc (.mapIter (some b) clock #[] clock)) := ⟨(Below.refl _ W).alloc (Nat.le_refl _) _, .alloc W (fun _ _ _ h => nomatch h)⟩
  have hsub1 : m.sub (W.alloc (.mapIter (some b) clock #[] clock)) := ⟨fun c q v hv => by
      have h1 := hs.cell c q v hv
      have hc : c < W.heap.size := by
        unfold World.cell? at h1
        split at h1
        · exact (Array.getElem?_eq_some_iff.1 ‹_›).1
        · cases h1
      rw [World.cell?_alloc_lt _ _ _ (show (⟨c, q, none⟩ : Addr).block < _ from hc)]; exact h1,
     fun c x hx => by
      have h1 := hs.map c x hx
      exact (Below.heap_alloc _ _ _ (Array.getElem?_eq_some_iff.1 h1).1).trans h1⟩
  have hYI : YI Y (false, ([], none)) ⟨Y.tm, []⟩ a1 (W.alloc (.mapIter (some b) clock #[] clock)) := by
    have htm : ∀ (d : Nat) (x : AV), get Y.tm d = some x → RD m x (a1.tmps.getD d Go.undef) := fun d x hx => by
      have hx : get [(0, AV.lit (.func (.yield lp) #[] #[])), (5, AV.lit (.pointer (some ⟨r, 0, none⟩)))] d = some x := hx
      simp only [get_cons] at hx
      rw [ha1, getD_put _ _ _ _ (by rw [size_put]; omega)]
      split at hx
      · rename_i hd
        cases hx
        subst hd
        rw [if_neg (by omega), getD_put _ _ _ _ (by omega), if_neg (by omega), e00]
        exact .lit _ rfl rfl
      · split at hx
        · rename_i hd
          cases hx
          rw [if_pos hd, hrr]
          exact .lit _ rfl rfl
        · cases hx
    refine YI.rebase (Y := Y) ?_ hsub1 (by rw [ha1, size_put, size_put]; exact hz0) htm (by rw [ha1, defers_put, defers_put]; exact hd0) htm rfl
    refine ⟨hab [] W _ hJ0 hG.toI, #[], by rw [← hrr]; exact World.alloc_heap_new _ _, fun e he x hx => ?_⟩
    simp
  -- the loop
  have hyp : YP Y (false, ([], none)) ⟨Y.tm, []⟩ (match Tryz.f199.body with | some (.seq _ c) => c | _ => .skip) (fun e g' s' => (e = .ret ∨ e = .normal) ∧ ((∃ p, p.Perm (l.map (·.1)) ∧ g' = (false, (p, none))) ∨ g'.1 = true)) := by
    refine YP.block (YP.loop (X := List (List Int)) (fun p => ((false, (p, none)), ⟨Y.tm, []⟩)) (fun p => p.Nodup ∧ ∀ x ∈ p, x ∈ l.map (·.1)) (fun p => l.length - p.length) [] ⟨List.nodup_nil, by simp⟩ rfl (.refl _) (fun p hp => ?_))
    obtain ⟨hpn, hpk⟩ := hp
    refine YP.seq (K1 := fun e g s => e = .normal ∧ ((g = (false, (p, none)) ∧ s = ⟨(7, .bool false) :: Y.tm, []⟩ ∧ ∀ x ∈ l.map (·.1), x ∈ p) ∨ ∃ x, g = (false, (p, some x)) ∧ s = ⟨(7, .bool true) :: Y.tm, []⟩ ∧ x ∈ l.map (·.1) ∧ x ∉ p)) ?_ ?_ ?_
    · -- one step
      intro a w hI
      have hJ := hI.now hY
      obtain ⟨gJ, seen, gr, grel⟩ := hJ
      have hsub := hI.sub
      have hnt : a.tmps.size = 14 := hI.nt
      have e5 : a.eval (.tmp 5) = .pointer (some ⟨r, 0, none⟩) := by
        have h1 := hI.tm 5 (.lit (.pointer (some ⟨r, 0, none⟩))) rfl
        show a.tmps.getD 5 Go.undef = _
        generalize a.tmps.getD 5 Go.undef = u at h1
        cases h1; rfl
      have htm : ∀ (v6 v7 : Value) (d : Nat) (x : AV), get Y.tm d = some x → RD m x (((a.put (some 6) v6).put (some 7) v7).tmps.getD d Go.undef) := fun v6 v7 d x hx => by
        have h1 := hI.tm d x hx
        have hx : get [(0, AV.lit (.func (.yield lp) #[] #[])), (5, AV.lit (.pointer (some ⟨r, 0, none⟩)))] d = some x := hx
        have hd : d = 0 ∨ d = 5 := by
          simp only [get_cons] at hx
          split at hx
          · left; assumption
          · split at hx
            · right; assumption
            · cases hx
        rw [getD_put _ _ _ _ (by rw [size_put]; omega), if_neg (by omega), getD_put _ _ _ _ (by omega), if_neg (by omega)]
        exact h1
      have htm7 : ∀ (v6 : Value) (bo : Bool) (d : Nat) (x : AV), get ((7, AV.bool bo) :: Y.tm) d = some x → RD m x (((a.put (some 6) v6).put (some 7) (.bool bo)).tmps.getD d Go.undef) := fun v6 bo d x hx => by
        rw [get_cons] at hx
        split at hx
        · rename_i hd
          cases hx
          rw [getD_put _ _ _ _ (by rw [size_put]; omega), if_pos hd]
          exact .bool bo
        · exact htm _ _ d x hx
      have e6 : ∀ v6 : Value, (a.put (some 6) v6).eval (.tmp 6) = v6 := fun v6 => by
        show (a.put (some 6) v6).tmps.getD 6 Go.undef = _
        rw [getD_put _ _ _ _ (by omega), if_pos rfl]
      refine wpIn_region ?_
      refine ops_cons (i := 0) (l := [1]) (o := { dst := some 6, op := .next (.tmp 5) false, type := 0, pos := _, after := _, guard := none }) rfl rfl ?_
      rcases Go.AI.run_next_map (P := Tryz.prog) 0 gr (hwb w hsub) hbl with ⟨d, h1, h2⟩ | ⟨e, d, h1, h2, h3⟩
      · refine wpIn_value (Γ := ⟨Tryz.prog, F, n, W, m, 14⟩) (hΓ W) (fun c hc => by cases hc) (v := .tuple #[.bool false]) (w' := World.dr w d) ?_ ?_
        · simp only [execOp, e5, Sem.run_bind, h1, Result.andThen_ok, Sem.run_pure]
        refine ops_cons (i := 1) (l := []) (o := { dst := some 7, op := .extract (.tmp 6) 0, type := 4, pos := _, after := _, guard := none }) rfl rfl ?_
        refine wpIn_value (Γ := ⟨Tryz.prog, F, n, W, m, 14⟩) (hΓ W) (fun c hc => by cases hc) (v := .bool false) (w' := World.dr w d) ?_ ?_
        · simp only [execOp, e6, Instr.extract, Sem.run_bind, Sem.run_pure, Result.andThen_ok]
          rfl
        simp only [wpOpsIn]
        refine ⟨(false, (p, none)), ⟨(7, .bool false) :: Y.tm, []⟩, YI.rebase (Y := Y) ?_ ⟨hsub.cell, hsub.map⟩ (by rw [size_put, size_put]; exact hnt) (htm _ _) (by rw [defers_put, defers_put]; exact hI.df) (htm7 _ _) rfl, (by trivial), .inl ⟨rfl, rfl, fun x hx => ?_⟩⟩
        · exact ⟨hab p w _ gJ (Gr.toI ⟨⟨rfl, rfl, rfl, Nat.le_refl _, fun _ _ => rfl⟩, ⟨Nat.le_add_right _ _⟩⟩), seen, gr, grel⟩
        · obtain ⟨q, hq, rfl⟩ := List.mem_map.1 hx
          obtain ⟨i, hi, rfl⟩ := List.getElem_of_mem hq
          have hi' : i < es.size := by omega
          obtain ⟨q', q1, q2⟩ := hkeys i _ (Array.getElem?_eq_getElem hi')
          rw [List.getElem?_eq_getElem hi] at q1
          cases q1
          have hme : es[i] ∈ es.toList := by simp
          exact (grel _ hme _ q2).1 (h2 _ hme)
      · obtain ⟨x, hx1, hx2⟩ := hkm e h1
        have hxp : x ∉ p := fun hc => by
          have := (grel e h1 x hx1).2 hc
          rw [h2] at this; cases this
        refine wpIn_value (Γ := ⟨Tryz.prog, F, n, W, m, 14⟩) (hΓ W) (fun c hc => by cases hc) (v := .tuple #[.bool true, e.key, e.val]) (w' := (World.dr w d).putObj r (.mapIter (some b) clock (seen.push e.born) clock)) ?_ ?_
        · simp only [execOp, e5, Sem.run_bind, h3, Result.andThen_ok, Sem.run_pure]
        refine ops_cons (i := 1) (l := []) (o := { dst := some 7, op := .extract (.tmp 6) 0, type := 4, pos := _, after := _, guard := none }) rfl rfl ?_
        refine wpIn_value (Γ := ⟨Tryz.prog, F, n, W, m, 14⟩) (hΓ W) (fun c hc => by cases hc) (v := .bool true) (w' := (World.dr w d).putObj r (.mapIter (some b) clock (seen.push e.born) clock)) ?_ ?_
        · simp only [execOp, e6, Instr.extract, Sem.run_bind, Sem.run_pure, Result.andThen_ok]
          rfl
        simp only [wpOpsIn]
        refine ⟨(false, (p, some x)), ⟨(7, .bool true) :: Y.tm, []⟩, YI.rebase (Y := Y) ?_ (hsubP w d seen _ hsub gr) (by rw [size_put, size_put]; exact hnt) (htm _ _) (by rw [defers_put, defers_put]; exact hI.df) (htm7 _ _) rfl, (by trivial), .inr ⟨x, rfl, rfl, hx2, hxp⟩⟩
        refine ⟨hab p w _ gJ (hrN w d seen _ (fun _ _ _ h => nomatch h) gr), seen.push e.born, World.putObj_heap_same (Array.getElem?_eq_some_iff.1 gr).1, ⟨hx2, hxp, ?_⟩, fun f hf y hy => ?_, e, h1, hx1, by simp⟩
        · have := nodup_len (p := p ++ [x]) (k := l.map (·.1)) (by
            rw [List.nodup_append]
            refine ⟨hpn, by simp, fun a ha b hb => ?_⟩
            simp only [List.mem_singleton] at hb
            subst hb
            intro e; subst e; exact hxp ha) (fun y hy => by
            rcases List.mem_append.1 hy with hy | hy
            · exact hpk y hy
            · simp only [List.mem_singleton] at hy; subst hy; exact hx2)
          simp at this
          show p.length < l.length
          omega
        rw [Array.contains_push]
        simp only [Bool.or_eq_true, beq_iff_eq, List.mem_append, List.mem_singleton]
        rw [grel f hf y hy]
        refine or_congr Iff.rfl ⟨fun h => ?_, fun h => ?_⟩
        · have := hbu e h1 f hf h
          subst this
          rw [hx1] at hy
          exact (keyV_inj hy)
        · subst h
          have : f.key = e.key := by rw [hy, hx1]
          obtain ⟨i, hi⟩ := hmem e h1
          obtain ⟨j, hj⟩ := hmem f hf
          have := hborn.2.2 j i f e hj hi this
          subst this
          rw [hi] at hj; cases hj; rfl
    · rintro g s ⟨_, ⟨rfl, rfl, hall⟩ | ⟨x, rfl, rfl, hx1, hx2⟩⟩
      · refine YP.seq (K1 := fun e g s => e = .exit 0 ∧ g = (false, (p, none))) ?_ (by rintro g s ⟨h, _⟩; cases h) ?_
        · refine awpY_sound (keep := []) hY Tryz.TT_ok _ _ _ _ (by kernel_rfl) (by kernel_rfl) ?_
          exact And.intro (fun h => Bool.noConfusion h) (fun _ => ⟨rfl, rfl⟩)
        · rintro e g s _ ⟨rfl, rfl⟩
          exact ⟨.inr rfl, .inl ⟨p, perm_of_nodup hpn hnd fun x => ⟨hpk x, hall x⟩, rfl⟩⟩
      · obtain ⟨q, hq, hqx⟩ := List.mem_map.1 hx1
        have hlx := hl q hq
        rw [hqx] at hlx
        obtain ⟨u, v, rfl⟩ : ∃ u v, x = [u, v] := by
          match x, hlx with
          | [u, v], _ => exact ⟨u, v, rfl⟩
        refine YP.seq (K1 := fun e g' s' => e = .normal ∧ g' = (false, (p, some [u, v])) ∧ s' = ⟨(7, .bool true) :: Y.tm, []⟩) ?_ ?_ (by rintro e g s h ⟨rfl, _⟩; exact absurd rfl h)
        · refine awpY_sound (keep := []) hY Tryz.TT_ok _ _ _ _ (by kernel_rfl) (by kernel_rfl) ?_
          exact And.intro (fun _ => ⟨rfl, rfl, rfl⟩) (fun h => Bool.noConfusion h)
        rintro g s ⟨_, rfl, rfl⟩
        refine YP.block (YP.seq (K1 := fun e g' s' => e = .normal ∧ g' = (false, (p, some [u, v])) ∧ s' = ⟨(3, .loc 3 0) :: (9, .agg [.int .i64 u, .int .i64 v]) :: Y.tm, [(3, [.int .i64 u, .int .i64 v]), (3, [.int .i64 0, .int .i64 0])]⟩) ?_ ?_ (by rintro e g s h ⟨rfl, _⟩; exact absurd rfl h))
        · intro a w hI
          obtain ⟨gJ, seen, gr, hx1', grel, e, he, hek, hback⟩ := hI.now hY
          have hsub := hI.sub
          have hnt : a.tmps.size = 14 := hI.nt
          have e5 : a.eval (.tmp 5) = .pointer (some ⟨r, 0, none⟩) := by
            have h1 := hI.tm 5 (.lit (.pointer (some ⟨r, 0, none⟩))) rfl
            show a.tmps.getD 5 Go.undef = _
            generalize a.tmps.getD 5 Go.undef = u at h1
            cases h1; rfl
          have e8 : ∀ v6 : Value, (a.put (some 8) v6).eval (.tmp 8) = v6 := fun v6 => by
            show (a.put (some 8) v6).tmps.getD 8 Go.undef = _
            rw [getD_put _ _ _ _ (by omega), if_pos rfl]
          have htm : ∀ (v6 v7 : Value) (d : Nat) (x : AV), get Y.tm d = some x → RD m x (((a.put (some 8) v6).put (some 9) v7).tmps.getD d Go.undef) := fun v6 v7 d x hx => by
            have h1 := hI.tm d x hx
            have hx : get [(0, AV.lit (.func (.yield lp) #[] #[])), (5, AV.lit (.pointer (some ⟨r, 0, none⟩)))] d = some x := hx
            have hd : d = 0 ∨ d = 5 := by
              simp only [get_cons] at hx
              split at hx
              · left; assumption
              · split at hx
                · right; assumption
                · cases hx
            rw [getD_put _ _ _ _ (by rw [size_put]; omega), if_neg (by omega), getD_put _ _ _ _ (by omega), if_neg (by omega)]
            exact h1
          refine wpIn_region ?_
          refine ops_cons (i := 0) (l := [1, 2, 3]) (o := { dst := some 8, op := .entry (.tmp 5), type := 0, pos := _, after := _, guard := none }) rfl rfl ?_
          refine wpIn_value (Γ := ⟨Tryz.prog, F, n, W, m, 14⟩) (hΓ W) (fun c hc => by cases hc) (v := .tuple #[e.key, e.val]) (w' := w) ?_ ?_
          · simp only [execOp, e5, Sem.run_bind, Go.AI.run_entry_map gr (hwb w hsub) hback he (hbu e he), Result.andThen_ok, Sem.run_pure]
          refine ops_cons (i := 1) (l := [2, 3]) (o := { dst := some 9, op := .extract (.tmp 8) 0, type := 102, pos := _, after := _, guard := none }) rfl rfl ?_
          refine wpIn_value (Γ := ⟨Tryz.prog, F, n, W, m, 14⟩) (hΓ W) (fun c hc => by cases hc) (v := e.key) (w' := w) ?_ ?_
          · simp only [execOp, e8, Instr.extract, Sem.run_bind, Sem.run_pure, Result.andThen_ok]
            rfl
          have hI2 : YI Y (false, (p, some [u, v])) ⟨(9, .agg [.int .i64 u, .int .i64 v]) :: Y.tm, []⟩ ((a.put (some 8) (.tuple #[e.key, e.val])).put (some 9) e.key) w := by
            refine YI.rebase (Y := Y) (hI.now hY) hsub (by rw [size_put, size_put]; exact hnt) (htm _ _) (by rw [defers_put, defers_put]; exact hI.df) (fun d x hx => ?_) rfl
            rw [get_cons] at hx
            split at hx
            · rename_i hd
              cases hx
              rw [getD_put _ _ _ _ (by rw [size_put]; omega), if_pos hd, hek]
              exact RD.ints m [u, v]
            · exact htm _ _ d x hx
          refine awpOpsY_sound (T := Tryz.TT) (guards := []) hY Tryz.TT_ok (okDst_all (by kernel_rfl)) (by kernel_rfl) [{ dst := some 3, op := .alloc 102, type := 0, pos := "iter.go:27", after := #[], guard := none }, { dst := none, op := .store 102 (.tmp 3) (.tmp 9), type := 0, pos := "iter.go:27", after := #[{ on := 2, ground := .data }, { on := 1, ground := .data }, { on := 0, ground := .phase }, { on := 1, ground := .phase }, { on := 2, ground := .phase }], guard := none }] 2 (false, (p, some [u, v])) ⟨(9, .agg [.int .i64 u, .int .i64 v]) :: Y.tm, []⟩ _ _ (fun g s => g = (false, (p, some [u, v])) ∧ s = ⟨(3, .loc 3 0) :: (9, .agg [.int .i64 u, .int .i64 v]) :: Y.tm, [(3, [.int .i64 u, .int .i64 v]), (3, [.int .i64 0, .int .i64 0])]⟩) (fun j => ?_) ?_ hI2 (fun g' s' a' w' h1 h2 => ⟨g', s', h2, rfl, h1⟩)
          · match j with
            | 0 => rfl
            | 1 => rfl
            | j + 2 => rw [List.getElem?_eq_none (by simp), List.getElem?_eq_none (by simp; omega)]
          · conv => whnf
            exact And.intro rfl rfl
        · rintro g s ⟨_, rfl, rfl⟩
          refine awpY_sound (keep := [0, 5, 13]) hY Tryz.TT_ok _ _ _ _ (by kernel_rfl) (by kernel_rfl) ?_
          refine And.intro rfl (Exists.intro [u, v] (And.intro rfl (And.intro rfl (And.intro ?_ ?_))))
          · refine And.intro (fun h => Bool.noConfusion (h : false = true)) (fun _ => ?_)
            refine Exists.intro (p ++ [[u, v]]) (And.intro ⟨?_, ?_⟩ (And.intro ?_ (And.intro rfl (St.le.of ?_ ?_))))
            · rw [List.nodup_append]
              refine ⟨hpn, by simp, fun a ha b hb => ?_⟩
              simp only [List.mem_singleton] at hb
              subst hb
              intro e; subst e; exact hx2 ha
            · intro y hy
              rcases List.mem_append.1 hy with hy | hy
              · exact hpk y hy
              · simp only [List.mem_singleton] at hy; subst hy; exact hx1
            · have h1 : (p ++ [[u, v]]).length ≤ (l.map (·.1)).length := by
                refine nodup_len ?_ ?_
                · rw [List.nodup_append]
                  refine ⟨hpn, by simp, fun a ha b hb => ?_⟩
                  simp only [List.mem_singleton] at hb
                  subst hb
                  intro e; subst e; exact hx2 ha
                · intro y hy
                  rcases List.mem_append.1 hy with hy | hy
                  · exact hpk y hy
                  · simp only [List.mem_singleton] at hy; subst hy; exact hx1
              simp at h1 ⊢
              omega
            · repeat' (first | exact trivial | refine And.intro rfl ?_)
            · repeat' (first | exact trivial | refine And.intro rfl ?_)
          · refine And.intro (fun _ => ?_) (fun h => Bool.noConfusion (h : true = false))
            exact ⟨.inl rfl, .inr rfl⟩
    · rintro e g s h ⟨rfl, _⟩; exact absurd rfl h
  refine wpIn_mono (hyp a1 _ hYI) ?_
  rintro e a' w' ⟨g', s', hI', he, hg⟩
  have hpost : a'.defers = [] ∧ ∃ v, (results Tryz.f199 a'.tmps).run Tryz.prog w' = .ok v w' ∧ ((∃ u, Ending.returned v = .returned u) ∧ ((∃ p, p.Perm (l.map (·.1)) ∧ J p w') ∨ Jx w')) := by
    refine ⟨hI'.df, .tuple #[], by simp [results, Tryz.f199], ⟨_, rfl⟩, ?_⟩
    rcases hg with ⟨p, hp, rfl⟩ | hg
    · exact .inl ⟨p, hp, (hI'.now hY).1⟩
    · right
      obtain ⟨⟨W0, h1, h2, h3⟩, _⟩ := hI'
      rw [hg] at h1
      obtain ⟨⟨cx, hW, _⟩, _⟩ := h2
      exact habx W0 w' h1 (Gr.toI ⟨hW.ext, h3⟩)
  rcases he with rfl | rfl <;> exact hpost
end Go.Proofs



namespace Go.Proofs
open Go Go.AI
set_option maxRecDepth 10000
def c2 (p : Int × Int) : List Int := [p.1, p.2]
def c2i (k : List Int) : Int × Int := (k.getD 0 0, k.getD 1 0)
/-- A map's entries, the keys being cells. -/
def cellsK (l : List (Int × Int)) : List (List Int × AV) := l.map fun p => (c2 p, .bool true)
def cellA (p : Int × Int) : List AV := [.int .i64 p.1, .int .i64 p.2]
theorem Tryz.keys_seq2 (l : List (Int × Int)) : ASeqN Tryz.prog (fun p : Int × Int => #[keyV (c2 p)]) 199 [.ref [.mapv (rowsK (cellsK l))]] (fun p x => x ∈ l ∧ x ∉ p ∧ p.length < l.length) (fun p => p.Perm l) := by
  have hk : (cellsK l).map (·.1) = l.map c2 := by simp [cellsK]
  have h := Tryz.keys_seq (cellsK l) (fun p hp => by
    obtain ⟨q, _, rfl⟩ := List.mem_map.1 hp
    rfl)
  refine ⟨h.1, fun m lb hlen hr F n hfn hdep hal hro lp J Jx W hs hab habx hyld hJ0 => ?_⟩
  refine CallsIn.mono (h.2 m lb hlen hr F n hfn hdep hal hro lp (fun q w => ∃ p, q = p.map c2 ∧ J p w) Jx W hs (fun q W1 W2 h hg => by
    obtain ⟨p, h1, h2⟩ := h
    exact ⟨p, h1, hab p W1 W2 h2 hg⟩) habx ?_ ⟨[], rfl, hJ0⟩) ?_
  · rintro q x W1 ⟨hx, hq, hlt⟩ ⟨p, rfl, hJ⟩ hm
    rw [hk] at hx
    obtain ⟨y, hy, rfl⟩ := List.mem_map.1 hx
    obtain ⟨fn, tmps, asg, bd, q1, q2⟩ := hyld p y W1 ⟨hy, fun hc => hq (List.mem_map_of_mem hc), by simpa [cellsK] using hlt⟩ hJ hm
    exact ⟨fn, tmps, asg, bd, q1, q2.mono fun e W' h => h.imp (fun ⟨h1, h2, h3⟩ => ⟨h1, ⟨p ++ [y], by simp, h2⟩, h3⟩) id⟩
  · rintro e w' ⟨h1, h2⟩
    refine ⟨h1, h2.imp (fun ⟨q, hq, p, hp, hJ⟩ => ⟨p, ?_, hJ⟩) id⟩
    rw [hk, hp] at hq
    have := hq.map c2i
    simpa [Function.comp_def, c2i, c2] using this
theorem key_rd (m : Mem) (x : Int × Int) (i : Nat) (c : AV) (v : Value) (h1 : [AV.agg (cellA x)][i]? = some c) (h2 : (#[keyV (c2 x)])[i]? = some v) : RD m c v := by
  match i, h1, h2 with
  | 0, h1, h2 => cases h1; cases h2; exact RD.ints m (c2 x)
def cellsA (l : List (Int × Int)) : AV := .sl .no 2 (l.map cellA)
def rowP : List (Int × Int) → AV
  | [] => .sl .full 0 []
  | x :: r => .sl (.id 11) 2 (cellA x :: r.map cellA)
set_option maxHeartbeats 1000000 in
theorem Tryz.n91 (l : List (Int × Int)) (hl : l.length ≤ 1000000) : NCalls Tryz.prog 230 [.sl .full 0 [], .clo 199 [.ref [.mapv (rowsK (cellsK l))]]] (fun r => ∃ p : List (Int × Int), p.Perm l ∧ r = cellsA p) := by
  refine NCalls.ofB Tryz.TT_ok Tryz.func230 rfl (by kernel_rfl) Tryz.mixed (Nat.le_of_ble_eq_true rfl) ?_
  intro F n' w0 m0 hG hro h1
  refine SPB.seq ?_
  refine SPB.reg hG Tryz.TT_ok Tryz.keep230 (by kernel_rfl) ?_
  conv => whnf
  refine SPB.seq ?_
  refine SPB.seq ?_
  refine SPB.reg hG Tryz.TT_ok Tryz.keep230 (by kernel_rfl) ?_
  conv => whnf
  refine SPB.block ?_
  refine ⟨SP.rangeN hG hro h1 (α := Int × Int) (fun x => [.agg (cellA x)]) (fun p : Int × Int => #[keyV (c2 p)]) (f := 199) (cap := [.ref [.mapv (rowsK (cellsK l))]]) (nx := fun p x => x ∈ l ∧ x ∉ p ∧ p.length < l.length) (fin := fun p => p.Perm l) rfl (Tryz.keys_seq2 l) (fun _ => rfl) (fun _ => rfl) key_rd
    (fun _ => [(2, .loc 2 0)]) [2] (fun _ => rfl) (fun pre => [(2, [rowP pre])]) (St.le.of ?_ ?_) (by kernel_rfl) (by decide) ?_ ?_⟩
  · repeat' (first | exact trivial | refine And.intro rfl ?_)
  · repeat' (first | exact trivial | refine And.intro rfl ?_)
  · intro F' n'' m' hG' pre x hx
    have hlen : pre.length < 1000000 := by omega
    cases pre with
    | nil =>
      refine SPB.out (SPB.reg hG' Tryz.TT_ok (2 :: 5 :: Tryz.keep230) (by kernel_rfl) ?_)
      conv => whnf
      refine And.intro rfl (And.intro (St.le.of ?_ ?_) ?_)
      · repeat' (first | exact trivial | refine And.intro rfl ?_)
      · repeat' (first | exact trivial | refine And.intro rfl ?_)
      · refine SPB.out (SPB.block ?_)
        refine SPB.reg hG' Tryz.TT_ok (2 :: 5 :: Tryz.keep230) (by kernel_rfl) ?_
        conv => whnf
        refine Or.inl ?_
        conv => whnf
        refine And.intro (show (0 + 1) * 16 ≤ 70368744177664 by omega) ?_
        conv => whnf
        refine And.intro (show 0 + 1 ≤ 4611686018427387904 by omega) ?_
        conv => whnf
        refine St.le.of ?_ ?_
        · repeat' (first | exact trivial | refine And.intro rfl ?_)
        · repeat' (first | exact trivial | refine And.intro rfl ?_)
    | cons y pre =>
      refine SPB.out (SPB.reg hG' Tryz.TT_ok (2 :: 5 :: Tryz.keep230) (by kernel_rfl) ?_)
      conv => whnf
      refine And.intro rfl (And.intro (St.le.of ?_ ?_) ?_)
      · repeat' (first | exact trivial | refine And.intro rfl ?_)
      · repeat' (first | exact trivial | refine And.intro rfl ?_)
      · refine SPB.out (SPB.block ?_)
        refine SPB.reg hG' Tryz.TT_ok (2 :: 5 :: Tryz.keep230) (by kernel_rfl) ?_
        conv => whnf
        have hlr : (cellA y :: pre.map cellA).length + 1 ≤ 1000001 := by simp at hlen ⊢; omega
        refine And.intro (show ((cellA y :: pre.map cellA).length + 1) * 16 ≤ 70368744177664 by omega) ?_
        conv => whnf
        refine And.intro (show (cellA y :: pre.map cellA).length + 1 ≤ 4611686018427387904 by omega) ?_
        conv => whnf
        refine St.le.of ?_ ?_
        · repeat' (first | exact trivial | refine And.intro rfl ?_)
        · refine And.intro (congrArg some (congrArg (fun z => [AV.sl (.id 11) 2 z]) ?_)) trivial
          simp [cellA]
  · intro p hp
    conv => whnf
    refine SPB.seq ?_
    cases p with
    | nil =>
      refine SPB.reg hG Tryz.TT_ok Tryz.keep230 (by kernel_rfl) ?_
      conv => whnf
      refine SPB.ret hG Tryz.TT_ok ?_
      refine ⟨_, ⟨[], hp, rfl⟩, Ends.mk (Or.inl rfl) AV.weak.slnil⟩
    | cons y pre =>
      refine SPB.reg hG Tryz.TT_ok Tryz.keep230 (by kernel_rfl) ?_
      conv => whnf
      refine SPB.ret hG Tryz.TT_ok ?_
      exact ⟨_, ⟨y :: pre, hp, rfl⟩, Ends.mk (Or.inl rfl) (AV.weak.of_eq rfl)⟩
end Go.Proofs



namespace Go.Proofs
open Go Go.AI
set_option maxRecDepth 10000
set_option linter.unusedSimpArgs false

theorem notT {b : Bool} (h : (!b) = true) : b = false := by cases b <;> simp_all
theorem notF {b : Bool} (h : (!b) = false) : b = true := by cases b <;> simp_all
def w64 (n : Int) : Int := IntKind.i64.wrap n
theorem w64_in {n : Int} (h1 : -9223372036854775808 ≤ n) (h2 : n ≤ 9223372036854775807) : w64 n = n := by unfold w64; rw [IntKind.wrap_i64]; omega
theorem le_next {n : Nat} (h : n < 9000000000000000000) : AV.int .i64 (IntKind.i64.wrap ((n : Int) + 1)) = AV.int .i64 ((n + 1 : Nat) : Int) := congrArg _ ((w64_in (by omega) (by omega)).trans (by omega))
def intsA (l : List Int) : AV := .sl .no 1 (l.map fun h => [.int .i64 h])
def cmpI (x y : Int) : Int := if x < y then -1 else if x > y then 1 else 0
def orS : List Int → Int
  | [] => 0
  | x :: r => if x ≠ 0 then x else orS r
theorem Tryz.c72 (x : Int) : ACalls Tryz.prog 143 [.int .i64 x] (.bool false) := by
  refine ACalls.ofB Tryz.TT_ok Tryz.func143 rfl (by kernel_rfl) Tryz.mixed (Nat.le_of_ble_eq_true rfl) ?_
  intro F n' w0 m0 hG hro h1
  repeat' first
    | refine SPB.seq ?_
    | refine SPB.block ?_
    | refine SPB.draw hG Tryz.TT_ok Tryz.keep143 (by kernel_rfl) ?_
    | refine SPB.reg hG Tryz.TT_ok Tryz.keep143 (by kernel_rfl) ?_
    | refine SPB.skip hG Tryz.TT_ok ?_
    | refine SPB.label hG Tryz.TT_ok ?_
    | refine SPB.ret hG Tryz.TT_ok ?_
    | refine SPB.exit hG Tryz.TT_ok ?_
    | refine SPB.condT rfl ?_
    | refine SPB.condF rfl ?_
    | refine SPB.cond rfl (And.intro (fun h => ?_) (fun h => ?_))
    | (conv => whnf
       first
         | refine And.intro (fun h => Bool.noConfusion (h : false = true)) (fun _ => ?_)
         | refine And.intro (fun _ => ?_) (fun h => Bool.noConfusion (h : true = false))
         | refine And.intro (by kernel_rfl) ?_
         | refine And.intro (fun h => ?_) (fun h => ?_)
         | refine Or.inl ?_
         | fail)
  all_goals refine Ends.mk (Or.inl rfl) (AV.weak.of_eq (congrArg AV.bool ?_))
  all_goals simp
theorem Tryz.c55 (x y : Int) : ACalls Tryz.prog 92 [.int .i64 x, .int .i64 y] (.int .i64 (cmpI x y)) := by
  refine ACalls.ofB Tryz.TT_ok Tryz.func92 rfl (by kernel_rfl) Tryz.mixed (Nat.le_of_ble_eq_true rfl) ?_
  intro F n' w0 m0 hG hro h1
  repeat' first
    | refine SPB.seq ?_
    | refine SPB.block ?_
    | refine SPB.draw hG Tryz.TT_ok Tryz.keep92 (by kernel_rfl) ?_
    | refine SPB.reg hG Tryz.TT_ok Tryz.keep92 (by kernel_rfl) ?_
    | refine SPB.skip hG Tryz.TT_ok ?_
    | refine SPB.label hG Tryz.TT_ok ?_
    | refine SPB.ret hG Tryz.TT_ok ?_
    | refine SPB.exit hG Tryz.TT_ok ?_
    | refine SPB.condT rfl ?_
    | refine SPB.condF rfl ?_
    | refine SPB.cond rfl (And.intro (fun h => ?_) (fun h => ?_))
    | (conv => whnf
       first
         | refine And.intro (fun h => Bool.noConfusion (h : false = true)) (fun _ => ?_)
         | refine And.intro (fun _ => ?_) (fun h => Bool.noConfusion (h : true = false))
         | refine And.intro (by kernel_rfl) ?_
         | refine Exists.intro _ (And.intro (Tryz.c72 _) ?_)
         | refine And.intro (fun h => ?_) (fun h => ?_)
         | refine Or.inl ?_
         | fail)
  all_goals refine Ends.mk (Or.inl rfl) (AV.weak.of_eq (congrArg (AV.int .i64) ?_))
  all_goals (unfold cmpI; simp only [decide_eq_true_eq, decide_eq_false_iff_not] at *; split <;> first | omega | (split <;> omega))
theorem Tryz.c54 (l : List Int) (hl : l.length ≤ 1000000) : ACalls Tryz.prog 91 [.sl .full 1 (l.map fun h => [.int .i64 h])] (.int .i64 (orS l)) := by
  refine ACalls.ofB Tryz.TT_ok Tryz.func91 rfl (by kernel_rfl) Tryz.mixed (Nat.le_of_ble_eq_true rfl) ?_
  intro F n' w0 m0 hG hro h1
  repeat' first
    | refine SPB.seq ?_
    | refine SPB.block ?_
    | refine SPB.draw hG Tryz.TT_ok Tryz.keep91 (by kernel_rfl) ?_
    | refine SPB.reg hG Tryz.TT_ok Tryz.keep91 (by kernel_rfl) ?_
    | refine SPB.skip hG Tryz.TT_ok ?_
    | refine SPB.label hG Tryz.TT_ok ?_
    | refine SPB.ret hG Tryz.TT_ok ?_
    | refine SPB.exit hG Tryz.TT_ok ?_
    | refine SPB.condT rfl ?_
    | refine SPB.condF rfl ?_
    | refine SPB.cond rfl (And.intro (fun h => ?_) (fun h => ?_))
    | (conv => whnf
       first
         | refine And.intro (fun h => Bool.noConfusion (h : false = true)) (fun _ => ?_)
         | refine And.intro (fun _ => ?_) (fun h => Bool.noConfusion (h : true = false))
         | refine And.intro (by kernel_rfl) ?_
         | refine And.intro (fun h => ?_) (fun h => ?_)
         | refine Or.inl ?_
         | fail)
  refine SPB.loop (X := Nat) (fun i => ⟨[(8, .int .i64 i), (7, .int .i64 (l.map fun h => [AV.int .i64 h]).length), (6, .sl .full 1 (l.map fun h => [.int .i64 h])), (3, .int .i64 0)], []⟩)
    (fun i => i ≤ l.length ∧ orS l = orS (l.drop i)) (fun i => l.length - i) 0 ⟨Nat.zero_le _, rfl⟩ (St.le.of ?_ ?_) (fun i hi => ?_)
  · repeat' (first | exact trivial | refine And.intro rfl ?_)
  · repeat' (first | exact trivial | refine And.intro rfl ?_)
  · obtain ⟨hi, hor⟩ := hi
    have hx : decide ((i : Int) < ((l.map fun h => [AV.int .i64 h]).length : Int)) = true → (l.map fun h => [AV.int .i64 h])[(i : Int).toNat]? = some [AV.int .i64 (l.getD i 0)] := fun h => by
      have h2 : i < l.length := by have := of_decide_eq_true h; simp at this; omega
      simp [List.getElem?_eq_getElem h2]
    have hd : decide ((i : Int) < ((l.map fun h => [AV.int .i64 h]).length : Int)) = true → i < l.length ∧ orS l = if l.getD i 0 ≠ 0 then l.getD i 0 else orS (l.drop (i + 1)) := fun h => by
      have h2 : i < l.length := by have := of_decide_eq_true h; simp at this; omega
      refine ⟨h2, ?_⟩
      rw [hor, List.drop_eq_getElem_cons h2, orS]
      simp [List.getD_eq_getElem?_getD, List.getElem?_eq_getElem h2]
    repeat' first
      | refine SPB.seq ?_
      | refine SPB.block ?_
      | refine SPB.draw hG Tryz.TT_ok Tryz.keep91 (by kernel_rfl) ?_
      | refine SPB.reg hG Tryz.TT_ok Tryz.keep91 (by kernel_rfl) ?_
      | refine SPB.skip hG Tryz.TT_ok ?_
      | refine SPB.label hG Tryz.TT_ok ?_
      | refine SPB.ret hG Tryz.TT_ok ?_
      | refine SPB.exit hG Tryz.TT_ok ?_
      | refine SPB.condT rfl ?_
      | refine SPB.condF rfl ?_
      | refine SPB.cond rfl (And.intro (fun h => ?_) (fun h => ?_))
      | (conv => whnf
         first
           | refine And.intro (fun h => Bool.noConfusion (h : false = true)) (fun _ => ?_)
           | refine And.intro (fun _ => ?_) (fun h => Bool.noConfusion (h : true = false))
           | refine And.intro (by kernel_rfl) ?_
           | refine And.intro (Int.natCast_nonneg i) (Exists.intro [AV.int .i64 (l.getD i 0)] (And.intro (hx (by assumption)) ?_))
           | refine And.intro (fun h => ?_) (fun h => ?_)
           | refine Or.inl ?_
           | fail)
    · have h1 := hd (by assumption)
      refine Ends.mk (Or.inl rfl) (AV.weak.of_eq (congrArg (AV.int .i64) ?_))
      rw [h1.2, if_pos (by simpa using (by assumption : (l.getD i 0 != 0) = true))]
    · have h1 := hd (by assumption)
      refine Exists.intro (i + 1) (And.intro ⟨h1.1, ?_⟩ (And.intro (by omega) (St.le.of ?_ ?_)))
      · rw [h1.2, if_neg (by simpa using (by assumption : (l.getD i 0 != 0) = false))]
      · refine And.intro (congrArg some (le_next (by omega))) ?_
        repeat' (first | exact trivial | refine And.intro rfl ?_)
      · repeat' (first | exact trivial | refine And.intro rfl ?_)
    · have : l.length ≤ i := by have := of_decide_eq_false (by assumption : decide ((i : Int) < ((l.map fun h => [AV.int .i64 h]).length : Int)) = false); simp at this; omega
      refine Ends.mk (Or.inl rfl) (AV.weak.of_eq (congrArg (AV.int .i64) ?_))
      rw [hor, List.drop_of_length_le this]; rfl
def cmpC (a b : Int × Int) : Int := orS [cmpI a.2 b.2, cmpI a.1 b.1]
theorem Tryz.c53 (a b : Int × Int) : ACalls Tryz.prog 165 [.agg [.int .i64 a.1, .int .i64 a.2], .agg [.int .i64 b.1, .int .i64 b.2]] (.int .i64 (cmpC a b)) := by
  refine ACalls.ofB Tryz.TT_ok Tryz.func165 rfl (by kernel_rfl) Tryz.mixed (Nat.le_of_ble_eq_true rfl) ?_
  intro F n' w0 m0 hG hro h1
  repeat' first
    | refine SPB.seq ?_
    | refine SPB.block ?_
    | refine SPB.draw hG Tryz.TT_ok Tryz.keep165 (by kernel_rfl) ?_
    | refine SPB.reg hG Tryz.TT_ok Tryz.keep165 (by kernel_rfl) ?_
    | refine SPB.skip hG Tryz.TT_ok ?_
    | refine SPB.label hG Tryz.TT_ok ?_
    | refine SPB.ret hG Tryz.TT_ok ?_
    | refine SPB.exit hG Tryz.TT_ok ?_
    | refine SPB.condT rfl ?_
    | refine SPB.condF rfl ?_
    | refine SPB.cond rfl (And.intro (fun h => ?_) (fun h => ?_))
    | (conv => whnf
       first
         | refine And.intro (fun h => Bool.noConfusion (h : false = true)) (fun _ => ?_)
         | refine And.intro (fun _ => ?_) (fun h => Bool.noConfusion (h : true = false))
         | refine And.intro (by kernel_rfl) ?_
         | refine And.intro (fun h => ?_) (fun h => ?_)
         | refine Or.inl ?_
         | fail)
  conv => whnf
  refine Exists.intro _ (And.intro (Tryz.c55 _ _) ?_)
  repeat' first
    | refine SPB.seq ?_
    | refine SPB.block ?_
    | refine SPB.draw hG Tryz.TT_ok Tryz.keep165 (by kernel_rfl) ?_
    | refine SPB.reg hG Tryz.TT_ok Tryz.keep165 (by kernel_rfl) ?_
    | refine SPB.skip hG Tryz.TT_ok ?_
    | refine SPB.label hG Tryz.TT_ok ?_
    | refine SPB.ret hG Tryz.TT_ok ?_
    | refine SPB.exit hG Tryz.TT_ok ?_
    | refine SPB.condT rfl ?_
    | refine SPB.condF rfl ?_
    | refine SPB.cond rfl (And.intro (fun h => ?_) (fun h => ?_))
    | (conv => whnf
       first
         | refine And.intro (fun h => Bool.noConfusion (h : false = true)) (fun _ => ?_)
         | refine And.intro (fun _ => ?_) (fun h => Bool.noConfusion (h : true = false))
         | refine And.intro (by kernel_rfl) ?_
         | refine And.intro (fun h => ?_) (fun h => ?_)
         | refine Or.inl ?_
         | fail)
  conv => whnf
  refine Exists.intro _ (And.intro (Tryz.c55 _ _) ?_)
  repeat' first
    | refine SPB.seq ?_
    | refine SPB.block ?_
    | refine SPB.draw hG Tryz.TT_ok Tryz.keep165 (by kernel_rfl) ?_
    | refine SPB.reg hG Tryz.TT_ok Tryz.keep165 (by kernel_rfl) ?_
    | refine SPB.skip hG Tryz.TT_ok ?_
    | refine SPB.label hG Tryz.TT_ok ?_
    | refine SPB.ret hG Tryz.TT_ok ?_
    | refine SPB.exit hG Tryz.TT_ok ?_
    | refine SPB.condT rfl ?_
    | refine SPB.condF rfl ?_
    | refine SPB.cond rfl (And.intro (fun h => ?_) (fun h => ?_))
    | (conv => whnf
       first
         | refine And.intro (fun h => Bool.noConfusion (h : false = true)) (fun _ => ?_)
         | refine And.intro (fun _ => ?_) (fun h => Bool.noConfusion (h : true = false))
         | refine And.intro (by kernel_rfl) ?_
         | refine And.intro (fun h => ?_) (fun h => ?_)
         | refine Or.inl ?_
         | fail)
  conv => whnf
  refine Exists.intro _ (And.intro (Tryz.c54 [cmpI a.2 b.2, cmpI a.1 b.1] (Nat.le_of_ble_eq_true rfl)) ?_)
  repeat' first
    | refine SPB.seq ?_
    | refine SPB.block ?_
    | refine SPB.draw hG Tryz.TT_ok Tryz.keep165 (by kernel_rfl) ?_
    | refine SPB.reg hG Tryz.TT_ok Tryz.keep165 (by kernel_rfl) ?_
    | refine SPB.skip hG Tryz.TT_ok ?_
    | refine SPB.label hG Tryz.TT_ok ?_
    | refine SPB.ret hG Tryz.TT_ok ?_
    | refine SPB.exit hG Tryz.TT_ok ?_
    | refine SPB.condT rfl ?_
    | refine SPB.condF rfl ?_
    | refine SPB.cond rfl (And.intro (fun h => ?_) (fun h => ?_))
    | (conv => whnf
       first
         | refine And.intro (fun h => Bool.noConfusion (h : false = true)) (fun _ => ?_)
         | refine And.intro (fun _ => ?_) (fun h => Bool.noConfusion (h : true = false))
         | refine And.intro (by kernel_rfl) ?_
         | refine And.intro (fun h => ?_) (fun h => ?_)
         | refine Or.inl ?_
         | fail)
  all_goals exact Ends.mk (Or.inl rfl) (AV.weak.of_eq rfl)
end Go.Proofs



namespace Go.Proofs
open Go Go.Shelf
def Tryz.sortC_ren : Go.Shelf.Ren := ⟨fun | 6 => 198 | 15 => 185 | 14 => 231 | 28 => 217 | 29 => 218 | 20 => 243 | 21 => 244 | 22 => 245 | 23 => 246 | 24 => 247 | 25 => 248 | 26 => 249 | 27 => 250 | 46 => 253 | 47 => 236 | 48 => 237 | 49 => 254 | 50 => 255 | 57 => 256 | n => n, fun | 22 => 165 | 24 => 102 | 25 => 199 | 3 => 3 | 39 => 213 | 0 => 0 | 53 => 237 | 55 => 239 | 4 => 4 | 46 => 230 | 45 => 229 | 50 => 234 | 5 => 5 | 9 => 9 | 66 => 247 | 70 => 251 | 76 => 260 | 77 => 261 | n => n, fun | n => n⟩
theorem Tryz.sortC : Go.Proofs.SlLaysF0.n6 Tryz.prog Tryz.sortC_ren where
  mixed := by kernel_rfl
  f6 := ⟨Tryz.f198.name, by kernel_rfl, Tryz.func198.trans (congrArg some (by kernel_rfl))⟩
  f14 := ⟨Tryz.f231.name, by kernel_rfl, Tryz.func231.trans (congrArg some (by kernel_rfl))⟩
  f15 := Tryz.func185.trans (congrArg some (by kernel_rfl))
  f20 := ⟨Tryz.f243.name, by kernel_rfl, Tryz.func243.trans (congrArg some (by kernel_rfl))⟩
  f21 := ⟨Tryz.f244.name, by kernel_rfl, Tryz.func244.trans (congrArg some (by kernel_rfl))⟩
  f22 := ⟨Tryz.f245.name, by kernel_rfl, Tryz.func245.trans (congrArg some (by kernel_rfl))⟩
  f23 := ⟨Tryz.f246.name, by kernel_rfl, Tryz.func246.trans (congrArg some (by kernel_rfl))⟩
  f24 := ⟨Tryz.f247.name, by kernel_rfl, Tryz.func247.trans (congrArg some (by kernel_rfl))⟩
  f25 := ⟨Tryz.f248.name, by kernel_rfl, Tryz.func248.trans (congrArg some (by kernel_rfl))⟩
  f26 := ⟨Tryz.f249.name, by kernel_rfl, Tryz.func249.trans (congrArg some (by kernel_rfl))⟩
  f27 := ⟨Tryz.f250.name, by kernel_rfl, Tryz.func250.trans (congrArg some (by kernel_rfl))⟩
  f28 := Tryz.func217.trans (congrArg some (by kernel_rfl))
  f29 := Tryz.func218.trans (congrArg some (by kernel_rfl))
  f46 := ⟨Tryz.f253.name, by kernel_rfl, Tryz.func253.trans (congrArg some (by kernel_rfl))⟩
  f47 := Tryz.func236.trans (congrArg some (by kernel_rfl))
  f48 := Tryz.func237.trans (congrArg some (by kernel_rfl))
  f49 := ⟨Tryz.f254.name, by kernel_rfl, Tryz.func254.trans (congrArg some (by kernel_rfl))⟩
  f50 := ⟨Tryz.f255.name, by kernel_rfl, Tryz.func255.trans (congrArg some (by kernel_rfl))⟩
  f57 := ⟨Tryz.f256.name, by kernel_rfl, Tryz.func256.trans (congrArg some (by kernel_rfl))⟩
  t0 := Tryz.underlying0
  a0 := Tryz.isAgg0
  z0 := Tryz.sizeOf0
  v0 := Tryz.zeroValue0
  t3 := Tryz.underlying3
  a3 := Tryz.isAgg3
  z3 := Tryz.sizeOf3
  v3 := Tryz.zeroValue3
  t4 := Tryz.underlying4
  a4 := Tryz.isAgg4
  z4 := Tryz.sizeOf4
  v4 := Tryz.zeroValue4
  t5 := Tryz.underlying5
  a5 := Tryz.isAgg5
  z5 := Tryz.sizeOf5
  v5 := Tryz.zeroValue5
  t9 := Tryz.underlying9
  a9 := Tryz.isAgg9
  z9 := Tryz.sizeOf9
  v9 := Tryz.zeroValue9
  t22 := Tryz.underlying165
  a22 := Tryz.isAgg165
  z22 := Tryz.sizeOf165
  v22 := Tryz.zeroValue165
  t25 := Tryz.underlying199
  a25 := Tryz.isAgg199
  z25 := Tryz.sizeOf199
  v25 := Tryz.zeroValue199
  t39 := Tryz.underlying213
  a39 := Tryz.isAgg213
  z39 := Tryz.sizeOf213
  v39 := Tryz.zeroValue213
  t45 := Tryz.underlying229
  a45 := Tryz.isAgg229
  z45 := Tryz.sizeOf229
  v45 := Tryz.zeroValue229
  t46 := Tryz.underlying230
  a46 := Tryz.isAgg230
  z46 := Tryz.sizeOf230
  v46 := Tryz.zeroValue230
  t50 := Tryz.underlying234
  a50 := Tryz.isAgg234
  z50 := Tryz.sizeOf234
  v50 := Tryz.zeroValue234
  t53 := Tryz.underlying237
  a53 := Tryz.isAgg237
  z53 := Tryz.sizeOf237
  v53 := Tryz.zeroValue237
  t55 := Tryz.underlying239
  a55 := Tryz.isAgg239
  z55 := Tryz.sizeOf239
  v55 := Tryz.zeroValue239
  t66 := Tryz.underlying247
  a66 := Tryz.isAgg247
  z66 := Tryz.sizeOf247
  v66 := Tryz.zeroValue247
  t70 := Tryz.underlying251
  a70 := Tryz.isAgg251
  z70 := Tryz.sizeOf251
  v70 := Tryz.zeroValue251
  t76 := Tryz.underlying260
  a76 := Tryz.isAgg260
  z76 := Tryz.sizeOf260
  v76 := Tryz.zeroValue260
  t77 := Tryz.underlying261
  a77 := Tryz.isAgg261
  z77 := Tryz.sizeOf261
  v77 := Tryz.zeroValue261
end Go.Proofs



namespace Go.Proofs
open Go Go.AI
open Go.RowKit (Below)
set_option maxRecDepth 10000
/-- The order of cells: by rows, then by columns. -/
def ltC (a b : Int × Int) : Bool := decide (a.2 < b.2) || (decide (a.2 = b.2) && decide (a.1 < b.1))
theorem cmpC_lt (a b : Int × Int) : ltOf cmpC a b = ltC a b := by
  unfold ltOf ltC cmpC
  rw [Bool.eq_iff_iff]
  simp only [orS, cmpI, Bool.or_eq_true, Bool.and_eq_true, decide_eq_true_eq]
  by_cases h1 : a.2 < b.2 <;> by_cases h2 : b.2 < a.2 <;> by_cases h3 : a.1 < b.1 <;> by_cases h4 : b.1 < a.1 <;> simp [h1, h2, h3, h4] <;> omega
theorem ltC_swo : Sort.SWO (ltOf cmpC) where
  irrefl x := by rw [cmpC_lt]; simp [ltC]
  trans x y z h1 h2 := by rw [cmpC_lt] at *; simp only [ltC, Bool.or_eq_true, Bool.and_eq_true, decide_eq_true_eq] at *; omega
  ntrans x y z h1 h2 := by
    rw [cmpC_lt] at *
    simp only [ltC, Bool.or_eq_false_iff, Bool.and_eq_false_iff, decide_eq_false_iff_not] at *
    omega
theorem ltC_total {a b : Int × Int} (h1 : ltC a b = false) (h2 : ltC b a = false) : a = b := by
  simp only [ltC, Bool.or_eq_false_iff, Bool.and_eq_false_iff, decide_eq_false_iff_not] at *
  exact Prod.ext (by omega) (by omega)
/-- Cells in their order. -/
def ordC (l : List (Int × Int)) : List (Int × Int) := l.mergeSort fun a b => !ltC b a
theorem sorted_unique : ∀ {l k : List (Int × Int)}, l.Perm k → l.Pairwise (fun a b => ltC b a = false) → k.Pairwise (fun a b => ltC b a = false) → l = k
  | [], k, hp, _, _ => (List.nil_perm.1 hp).symm
  | a :: l, [], hp, _, _ => by have := hp.length_eq; simp at this
  | a :: l, b :: k, hp, h1, h2 => by
    obtain ⟨p1, p2⟩ := List.pairwise_cons.1 h1
    obtain ⟨q1, q2⟩ := List.pairwise_cons.1 h2
    have hab : a = b := by
      have ha : a ∈ b :: k := hp.mem_iff.1 List.mem_cons_self
      have hb : b ∈ a :: l := hp.mem_iff.2 List.mem_cons_self
      rcases List.mem_cons.1 ha with h | ha
      · exact h
      rcases List.mem_cons.1 hb with h | hb
      · exact h.symm
      exact ltC_total (q1 a ha) (p1 b hb)
    subst hab
    rw [sorted_unique ((List.perm_cons a).1 hp) p2 q2]
theorem ordC_sorted (l : List (Int × Int)) : (ordC l).Pairwise fun a b => ltC b a = false := by
  have h := List.pairwise_mergeSort (le := fun a b => !ltC b a) (fun a b c h1 h2 => by
    simp only [Bool.not_eq_true'] at *
    simp only [ltC, Bool.or_eq_false_iff, Bool.and_eq_false_iff, decide_eq_false_iff_not] at *
    omega) (fun a b => by
    simp only [Bool.or_eq_true, Bool.not_eq_true']
    simp only [ltC, Bool.or_eq_false_iff, Bool.and_eq_false_iff, decide_eq_false_iff_not] at *
    omega) l
  exact h.imp fun h => by simpa using h
theorem ordC_eq {l k : List (Int × Int)} (hp : k.Perm l) (h : k.Pairwise fun a b => ltC b a = false) : k = ordC l :=
  sorted_unique (hp.trans (List.mergeSort_perm l _).symm) h (ordC_sorted l)

/-- slices.Collect over a map's keys. -/
theorem Tryz.r73 (l : List (Int × Int)) (hl : l.length ≤ 1000000) {m : Mem} {w : World} {v : Value} (hm : m.sub w) (hv : RD m (.clo 199 [.ref [.mapv (rowsK (cellsK l))]]) v) :
    Calls Tryz.prog 197 #[v] w fun e w' => ∃ p : List (Int × Int), p.Perm l ∧ ∃ u m', e = .returned u ∧ RD m' (cellsA p) u ∧ m.le m' ∧ Mem.sub m' w' ∧ Below w.heap.size w w' ∧ m.News w.heap.size m' w' ∧ More w w' := by
  have hc : Calls Tryz.prog 230 #[.slice none 0 0, v] w fun e w' => ∃ u, e = .returned u ∧ ∃ p : List (Int × Int), p.Perm l ∧ ∃ m', RD m' (cellsA p) u ∧ m.le m' ∧ Mem.sub m' w' ∧ Below w.heap.size w w' ∧ m.News w.heap.size m' w' ∧ More w w' := by
    have h := (Tryz.n91 l hl).runs m w [.slice none 0 0, v] hm rfl (fun i a u h1 h2 => by
      match i, h1, h2 with
      | 0, h1, h2 => cases h1; cases h2; exact .sl _ _ _ _ _ _ (by intro k hk; cases hk) (fun _ => rfl) rfl (Nat.le_refl _) (by simp) (by simp) 0 0 (by omega) (fun _ _ => Go.undef) (by simp) (by simp)
      | 1, h1, h2 => cases h1; cases h2; exact hv)
    refine Calls.mono h ?_
    rintro e w' ⟨r, ⟨p, hp, rfl⟩, u, m', h1, h2⟩
    exact ⟨u, h1, p, hp, m', h2⟩
  go_enter Tryz.func197, Tryz.ntmps197
  go_wp2_with (go_at_call 230; refine hc.mono ?_; rintro e w' ⟨u, rfl, p, hp, m', h1⟩)
  go_ret
  exact ⟨p, hp, u, m', rfl, h1⟩

theorem encC (x : Int × Int) (j : Nat) (hj : j < 2) : ∃ n, (encR c2 x)[j]! = .int .i64 n ∧ (cellA x)[j]? = some (.int .i64 n) := by
  match j, hj with
  | 0, _ => exact ⟨x.1, rfl, rfl⟩
  | 1, _ => exact ⟨x.2, rfl, rfl⟩
/-- slices.SortFunc at cells, in the order of Could. -/
theorem Tryz.r74 (l : List (Int × Int)) (blk off cap : Nat) (w : World) (hcell : ∀ (i : Nat) (x : Int × Int) (j : Nat), l[i]? = some x → j < 2 → w.cell? ⟨blk, off + (i * 2 + j), none⟩ = some ((encR c2 x)[j]!)) (hs : softB w blk) (hsz : l.length ≤ 1000000) :
    Calls Tryz.prog 198 #[.slice (some ⟨blk, off, none⟩) l.length cap, .func (.func 165) #[] #[]] w fun e w2 => e = .returned (.tuple #[]) ∧ ∃ l', Sorted c2 2 ltC l l' blk off w w2 := by
  have h := sort_row c2 2 cmpC Tryz.sortC (fun _ => rfl) Tryz.isAgg102 Tryz.sizeOf102 ltC_swo (g := 165) (fun x y => Tryz.c53 x y) (Tryz.c53 (0, 0) (0, 0)).enters l blk off cap w hcell hs (by omega)
  refine Calls.mono h ?_
  rintro e w2 ⟨h1, l', h2⟩
  refine ⟨h1, l', h2.perm, h2.sorted.imp fun {x y} h => by rw [cmpC_lt] at h; exact h, h2.cell, h2.other, h2.soft, h2.os, h2.tape, h2.output, h2.size, h2.more⟩

set_option maxHeartbeats 1000000 in
/-- slices.SortedFunc over a map's keys. -/
theorem Tryz.c56 (l : List (Int × Int)) (h0 : l ≠ []) (hl : l.length ≤ 1000000) : ACalls Tryz.prog 166 [.clo 199 [.ref [.mapv (rowsK (cellsK l))]], .fn 165] (cellsA (ordC l)) := by
  refine ⟨enters_of Tryz.func166 (by kernel_rfl) rfl, fun m w vs hm hlen hr => ?_⟩
  obtain ⟨v, u0, rfl⟩ : ∃ v u0, vs = [v, u0] := by
    match vs, hlen with
    | [v, u0], _ => exact ⟨v, u0, rfl⟩
  have hv := hr 0 _ v rfl rfl
  have hu := hr 1 _ u0 rfl rfl
  have hu0 : u0 = .func (.func 165) #[] #[] := by cases hu; rfl
  subst hu0
  -- the least memory that is read
  obtain ⟨m0, hm0, hv0, hints⟩ : ∃ m0 : Mem, m0.sub w ∧ RD m0 (.clo 199 [.ref [.mapv (rowsK (cellsK l))]]) v ∧ ∀ b o n, m0 b o ≠ some (.int .i64 n) := by
    cases hv with
    | clo _ _ us hl1 hr1 =>
      have h1 : us.size = 1 := by simpa using hl1.symm
      obtain ⟨p, hp⟩ : ∃ p, us = #[p] := Array.size_eq_one_iff.1 h1
      subst hp
      have h2 := hr1 0 _ p rfl rfl
      cases h2 with
      | ref cs pb po hc g hg hr' =>
        have h3 := hr' 0 _ rfl
        have h4 := hg 0 _ rfl
        generalize g 0 = z at h3 h4
        cases h3 with
        | mapv xs b es clock hmb hb hl' h2' hk hv' =>
          refine ⟨⟨fun b' o => if b' = pb ∧ o = po then some (.map (some b)) else none, fun b' => if b' = b then some (es, clock) else none⟩, ⟨fun b' o x hx => ?_, fun b' x hx => ?_⟩, ?_, fun b' o n h => ?_⟩
          · simp only at hx
            split at hx
            · rename_i h
              cases hx
              rw [h.1, h.2]
              exact hm.cell pb po _ (by simpa using h4)
            · cases hx
          · simp only at hx
            split at hx
            · rename_i h
              cases hx
              rw [h]
              exact hm.map b _ hmb
            · cases hx
          · refine .clo _ _ _ rfl fun i a z h5 h6 => ?_
            match i, h5, h6 with
            | 0, h5, h6 =>
              cases h5; cases h6
              refine .ref _ pb po (by simp [AV.isCell]) (fun _ => .map (some b)) (fun i c hi => ?_) (fun i c hi => ?_)
              · match i, hi with
                | 0, hi => exact if_pos ⟨rfl, rfl⟩
              · match i, hi with
                | 0, hi =>
                  cases hi
                  refine .mapv _ b es clock (if_pos rfl) hb hl' h2' (fun i x e k q1 q2 q3 => ?_) (fun i x e k q1 q2 q3 => ?_)
                  · have h7 := hk i x e k q1 q2 q3
                    obtain ⟨p, p1, rfl⟩ := rowsK_get q1
                    simp only [List.getElem?_cons_zero, Option.some.injEq] at q3
                    subst q3
                    rw [h7.keyA]
                    exact RD.ints _ _
                  · have h7 := hv' i x e k q1 q2 q3
                    obtain ⟨p, p1, rfl⟩ := rowsK_get q1
                    simp only [List.getElem?_cons_succ, List.getElem?_cons_zero, Option.some.injEq] at q3
                    subst q3
                    simp only [cellsK, List.getElem?_map, Option.map_eq_some_iff] at p1
                    obtain ⟨_, _, rfl⟩ := p1
                    have h8 : e.val = .bool true := by
                      have h7 : RD m (.bool true) e.val := h7
                      generalize e.val = z at h7
                      cases h7; rfl
                    rw [h8]
                    exact .bool true
          · simp only at h
            split at h
            · cases h
            · cases h
  have hc := Tryz.r73 l hl hm0 hv0
  have hcol : Calls Tryz.prog 197 #[v] w fun e w1 => ∃ (p : List (Int × Int)) (bb off cap : Nat), p.Perm l ∧ e = .returned (.slice (some ⟨bb, off, none⟩) p.length cap) ∧ p.length ≤ cap ∧ (∀ (i : Nat) (x : Int × Int) (j : Nat), p[i]? = some x → j < 2 → w1.cell? ⟨bb, off + (i * 2 + j), none⟩ = some ((encR c2 x)[j]!)) ∧ softB w1 bb ∧ w.heap.size ≤ bb ∧ Below w.heap.size w w1 ∧ More w w1 := by
    refine Calls.mono hc ?_
    rintro e w1 ⟨p, hp, u, m', rfl, h1, h2, h3, h4, h5, h6⟩
    cases h1 with
    | sl _ _ _ base len cap ho hf hl1 hcap hsz hcell bb off hb g hg hr' =>
      simp only [List.length_map] at hl1
      subst hl1
      have hpos : 0 < p.length := by
        rw [hp.length_eq]
        exact List.length_pos_iff.2 h0
      have hbase := hb hpos
      subst hbase
      have hx0 : (p.map cellA)[0]? = some (cellA p[0]) := by simp [List.getElem?_eq_getElem hpos]
      have g0 := hg 0 _ 0 _ hx0 rfl
      have r0 := hr' 0 _ 0 _ hx0 rfl
      have hfresh : w.heap.size ≤ bb ∧ softB w1 bb := by
        rcases h5.cell _ _ _ g0 with h | h
        · exact absurd (by rw [h, r0.int_eq]) (hints _ _ (p[0]).1)
        · exact h
      refine ⟨p, bb, off, cap, hp, rfl, hcap, fun i x j hx hj => ?_, hfresh.2, hfresh.1, h4, h6⟩
      have hxi : (p.map cellA)[i]? = some (cellA x) := by rw [List.getElem?_map, hx]; rfl
      obtain ⟨n, e1, e2⟩ := encC x j hj
      have g1 := hg i _ j _ hxi e2
      rw [(hr' i _ j _ hxi e2).int_eq] at g1
      rw [e1, ← h3.cell _ _ _ g1, Nat.add_assoc]
  have hsort := fun (p : List (Int × Int)) (bb off cap : Nat) (w1 : World) (hp : p.Perm l) h hs => Tryz.r74 p bb off cap w1 h hs (by rw [hp.length_eq]; exact hl)
  have hgo : Calls Tryz.prog 166 #[v, .func (.func 165) #[] #[]] w fun e w2 => ∃ (w1 : World) (p : List (Int × Int)) (bb off cap : Nat), p.Perm l ∧ e = .returned (.slice (some ⟨bb, off, none⟩) p.length cap) ∧ p.length ≤ cap ∧ w.heap.size ≤ bb ∧ Below w.heap.size w w1 ∧ More w w1 ∧ softB w1 bb ∧ ∃ l', Sorted c2 2 ltC p l' bb off w1 w2 := by
    clear hr hlen hc hv hv0
    go_enter Tryz.func166, Tryz.ntmps166
    go_wp2_with (first | (go_at_call 197; refine hcol.mono ?_; rintro e w1 ⟨p, bb, off, cap, hp, rfl, hcap, hcell, hsoft, hbb, hbel, hmore⟩) | (go_at_call 198; refine (hsort p bb off cap _ hp hcell hsoft).mono ?_; rintro e w2 ⟨rfl, l', hS⟩))
    go_ret
    exact ⟨_, p, bb, off, cap, hp, rfl, hcap, hbb, hbel, hmore, hsoft, l', hS⟩
  refine Calls.mono hgo ?_
  rintro e w2 ⟨w1, p, bb, off, cap, hp, rfl, hcap, hbb, hbel, hmore, hsoft, l', hS⟩
  have hl' : l' = ordC l := ordC_eq (hS.perm.trans hp) hS.sorted
  subst hl'
  have hlen' : (ordC l).length = p.length := hS.perm.length_eq
  have hblt : ∀ b o x, m b o = some x → b < w.heap.size := fun b o x h => by
    have h1 := hm.cell b o x h
    unfold World.cell? at h1
    split at h1
    · exact (Array.getElem?_eq_some_iff.1 ‹_›).1
    · cases h1
  have hkeep : ∀ b, b < w.heap.size → w2.heap[b]? = w.heap[b]? := fun b hb =>
    (hS.other b (by omega) (Nat.lt_of_lt_of_le hb hbel.size)).trans (hbel.block b hb)
  refine ⟨_, ⟨fun b o => if b = bb then w2.cell? ⟨bb, o, none⟩ else m b o, m.maps⟩, rfl, ?_, ⟨fun b o x h => ?_, fun _ _ h => h⟩, ⟨fun b o x h => ?_, fun b x h => (hkeep b (Array.getElem?_eq_some_iff.1 (hm.map b x h)).1).trans (hm.map b x h)⟩, ⟨hS.os.trans hbel.os, hS.tape.trans hbel.tape, hS.output.trans hbel.output, Nat.le_trans hbel.size hS.size, fun b hb => hkeep b hb⟩, ⟨fun b o x h => ?_, fun b x h => .inl h⟩, hmore.trans hS.more⟩
  · have hget : ∀ (i : Nat) (r : List AV) (j : Nat) (c : AV), ((ordC l).map cellA)[i]? = some r → r[j]? = some c → ∃ n, c = .int .i64 n ∧ w2.cell? ⟨bb, off + i * 2 + j, none⟩ = some (.int .i64 n) := fun i r j c h1 h2 => by
      rw [List.getElem?_map, Option.map_eq_some_iff] at h1
      obtain ⟨x, hx, rfl⟩ := h1
      have hj : j < 2 := by have := (List.getElem?_eq_some_iff.1 h2).1; simpa [cellA] using this
      obtain ⟨n, e1, e2⟩ := encC x j hj
      rw [h2] at e2
      cases e2
      exact ⟨n, rfl, by rw [Nat.add_assoc, hS.cell i x j hx hj, e1]⟩
    refine .sl _ _ _ _ _ _ (by intro k hk; cases hk) (by intro hk; cases hk) (by simpa using hlen') hcap (fun r hr => ?_) (fun r hr c hc => ?_) bb off (fun _ => rfl) (fun i j => (w2.cell? ⟨bb, off + i * 2 + j, none⟩).getD Go.undef) (fun i r j c h1 h2 => ?_) (fun i r j c h1 h2 => ?_)
    · obtain ⟨x, _, rfl⟩ := List.mem_map.1 hr; rfl
    · obtain ⟨x, _, rfl⟩ := List.mem_map.1 hr
      simp only [cellA, List.mem_cons, List.not_mem_nil, or_false] at hc
      rcases hc with rfl | rfl <;> rfl
    · obtain ⟨n, rfl, h3⟩ := hget i r j c h1 h2
      show (if bb = bb then _ else _) = _
      rw [if_pos rfl, h3]; rfl
    · obtain ⟨n, rfl, h3⟩ := hget i r j c h1 h2
      rw [h3]
      exact .int _ _
  · show (if _ then _ else _) = _
    have := hblt b o x h
    rw [if_neg (by omega)]; exact h
  · simp only at h
    split at h
    · rename_i hb; rw [hb]; exact h
    · have := hblt b o x h
      have h1 := hm.cell b o x h
      simp only [World.cell?] at h1 ⊢
      rw [hkeep b this]; exact h1
  · simp only at h
    split at h
    · rename_i hb; exact .inr ⟨by omega, by rw [hb]; exact hS.soft⟩
    · exact .inl h
end Go.Proofs


