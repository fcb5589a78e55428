/- Contracts of the functions, part 1: called with arguments that read so, each hands back what is typed. The conditions are those typed. -/
import Derived.Test.YtoccmkmnkoldmaaAiD
import Derived.Test.YtoccmkmnkoldmaaChecked
import Derived.KernelRfl
import Derived.Shelf.SlLaysF0
set_option linter.unusedSectionVars false
set_option linter.unusedVariables false
set_option linter.unusedSimpArgs false
namespace Go.Proofs
open Go Go.AI
def Try.TT : Tab := [
  (3, ⟨1, 8, .int .i64 0, [], 0, 0, 4, .i64, false⟩),
  (38, ⟨2, 16, .agg [.int .i64 0, .int .i64 0], [(0, 3), (1, 3)], 1, 0, 1, .i64, true⟩),
  (24, ⟨7, 56, .agg [.int .i64 0, .int .i64 0, .int .i64 0, .int .i64 0, .int .i64 0, .int .i64 0, .int .i64 0], [(0, 3), (1, 3), (2, 3), (3, 3), (4, 3), (5, 3), (6, 3)], 1, 0, 1, .i64, true⟩),
  (4, ⟨1, 1, .bool false, [], 0, 0, 5, .i64, false⟩),
  (26, ⟨2, 16, .agg [.int .i64 0, .int .i64 0], [(0, 3), (1, 3)], 1, 0, 1, .i64, true⟩),
  (0, ⟨1, 0, .junk, [], 0, 0, 0, .i64, false⟩),
  (69, ⟨3, 24, .agg [.int .i64 0, .int .i64 0, .int .i64 0], [(0, 3), (1, 26)], 1, 0, 1, .i64, false⟩),
  (41, ⟨1, 24, .sl .full 0 [], [], 0, 38, 3, .i64, false⟩),
  (34, ⟨1, 8, .int .i64 0, [], 0, 0, 4, .i64, false⟩),
  (57, ⟨21, 168, .agg [.int .i64 0, .int .i64 0, .int .i64 0, .int .i64 0, .int .i64 0, .int .i64 0, .int .i64 0, .int .i64 0, .int .i64 0, .int .i64 0, .int .i64 0, .int .i64 0, .int .i64 0, .int .i64 0, .int .i64 0, .int .i64 0, .int .i64 0, .int .i64 0, .int .i64 0, .int .i64 0, .int .i64 0], [(0, 3), (1, 3), (2, 24), (9, 3), (10, 3), (11, 3), (12, 3), (13, 3), (14, 3), (15, 3), (16, 3), (17, 3), (18, 3), (19, 3), (20, 3)], 1, 0, 1, .i64, false⟩),
  (58, ⟨1, 24, .sl .full 0 [], [], 0, 69, 3, .i64, false⟩),
  (61, ⟨1, 24, .sl .full 0 [], [], 0, 3, 3, .i64, false⟩),
  (119, ⟨3, 24, .agg [.int .i64 0, .int .i64 0, .int .i64 0], [(0, 3), (1, 3), (2, 3)], 1, 0, 1, .i64, true⟩),
  (35, ⟨1, 0, .junk, [], 0, 0, 0, .i64, false⟩),
  (112, ⟨3, 24, .agg [.int .i64 0, .int .i64 0, .int .i64 0], [], 3, 3, 2, .i64, false⟩),
  (22, ⟨7, 56, .agg [.int .i64 0, .int .i64 0, .int .i64 0, .int .i64 0, .int .i64 0, .int .i64 0, .int .i64 0], [], 7, 3, 2, .i64, false⟩),
  (76, ⟨8, 64, .agg [.int .i64 0, .int .i64 0, .int .i64 0, .int .i64 0, .int .i64 0, .int .i64 0, .int .i64 0, .int .i64 0], [(0, 24), (7, 3)], 1, 0, 1, .i64, false⟩),
  (87, ⟨1, 8, .lit .nilFunc, [], 0, 0, 8, .i64, false⟩),
  (126, ⟨1, 8, .lit .nilFunc, [], 0, 0, 8, .i64, false⟩),
  (31, ⟨2, 16, .agg [.int .i64 0, .int .i64 0], [], 2, 3, 2, .i64, false⟩),
  (54, ⟨4, 32, .agg [.int .i64 0, .int .i64 0, .int .i64 0, .int .i64 0], [], 4, 3, 2, .i64, false⟩),
  (149, ⟨1, 8, .int .u64 0, [], 0, 0, 4, .u64, false⟩),
  (128, ⟨2, 16, .agg [.int .i64 0, .lit .nilFunc], [(0, 3), (1, 126)], 0, 0, 1, .i64, false⟩),
  (42, ⟨1, 0, .junk, [], 0, 0, 0, .i64, false⟩),
  (39, ⟨1, 0, .junk, [], 0, 0, 0, .i64, false⟩),
  (101, ⟨3, 24, .agg [.int .i64 0, .int .i64 0, .int .i64 0], [(0, 26), (2, 3)], 1, 0, 1, .i64, false⟩),
  (146, ⟨1, 8, .int .u64 0, [], 0, 0, 4, .u64, false⟩),
  (124, ⟨1, 8, .int .u64 0, [], 0, 0, 4, .u64, false⟩),
  (55, ⟨1, 24, .sl .full 0 [], [], 0, 112, 3, .i64, false⟩),
  (132, ⟨1, 24, .sl .full 0 [], [], 0, 119, 3, .i64, false⟩),
  (144, ⟨1, 4, .int .u32 0, [], 0, 0, 4, .u32, false⟩),
  (44, ⟨1, 0, .junk, [], 0, 0, 0, .i64, false⟩),
  (62, ⟨1, 0, .junk, [], 0, 0, 0, .i64, false⟩),
  (82, ⟨1, 8, .lit (.map none), [(0, 38)], 0, 0, 9, .i64, false⟩),
  (153, ⟨1, 8, .lit (.pointer none), [], 0, 3, 7, .i64, false⟩),
  (136, ⟨1, 8, .int .i64 0, [], 0, 0, 4, .i64, false⟩),
  (59, ⟨1, 0, .junk, [], 0, 0, 0, .i64, false⟩),
  (77, ⟨1, 0, .junk, [], 0, 0, 0, .i64, false⟩),
  (90, ⟨1, 8, .lit .nilFunc, [], 0, 0, 8, .i64, false⟩),
  (5, ⟨1, 1, .int .u8 0, [], 0, 0, 4, .u8, false⟩),
  (64, ⟨1, 0, .junk, [], 0, 0, 0, .i64, false⟩),
  (115, ⟨1, 8, .lit .nilFunc, [], 0, 0, 8, .i64, false⟩),
  (129, ⟨6, 48, .agg [.int .i64 0, .lit .nilFunc, .int .i64 0, .lit .nilFunc, .int .i64 0, .lit .nilFunc], [], 3, 128, 2, .i64, false⟩),
  (155, ⟨1, 8, .lit (.pointer none), [], 0, 149, 7, .i64, false⟩),
  (110, ⟨1, 8, .lit .nilFunc, [], 0, 0, 8, .i64, false⟩),
  (156, ⟨1, 0, .junk, [], 0, 0, 0, .i64, false⟩),
  (98, ⟨1, 8, .lit .nilFunc, [], 0, 0, 8, .i64, false⟩),
  (29, ⟨1, 24, .sl .full 0 [], [], 0, 24, 3, .i64, false⟩),
  (33, ⟨1, 24, .sl .full 0 [], [], 0, 31, 3, .i64, false⟩),
  (47, ⟨1, 24, .sl .full 0 [], [], 0, 26, 3, .i64, false⟩),
  (134, ⟨1, 8, .lit .nilFunc, [], 0, 0, 8, .i64, false⟩),
  (52, ⟨21, 21, .agg [.bool false, .bool false, .bool false, .bool false, .bool false, .bool false, .bool false, .bool false, .bool false, .bool false, .bool false, .bool false, .bool false, .bool false, .bool false, .bool false, .bool false, .bool false, .bool false, .bool false, .bool false], [], 21, 4, 2, .i64, false⟩),
  (84, ⟨1, 8, .lit .nilFunc, [], 0, 0, 8, .i64, false⟩),
  (103, ⟨1, 8, .lit .nilFunc, [], 0, 0, 8, .i64, false⟩),
  (137, ⟨1, 0, .junk, [], 0, 0, 0, .i64, false⟩),
  (141, ⟨1, 0, .junk, [], 0, 0, 0, .i64, false⟩),
  (83, ⟨1, 8, .lit .nilFunc, [], 0, 0, 8, .i64, false⟩),
  (89, ⟨1, 8, .lit .nilFunc, [], 0, 0, 8, .i64, false⟩),
  (97, ⟨1, 8, .lit .nilFunc, [], 0, 0, 8, .i64, false⟩),
  (107, ⟨1, 8, .lit .nilFunc, [], 0, 0, 8, .i64, false⟩),
  (113, ⟨1, 8, .lit .nilFunc, [], 0, 0, 8, .i64, false⟩)]
def Try.keep2 : List Nat := []
def Try.keep3 : List Nat := [0, 1, 2, 3, 4, 5, 6, 7, 11, 12, 14, 16, 17, 18, 19, 20, 21, 22, 23, 24, 25, 26, 27, 28, 29, 30, 31, 32, 33, 34, 35, 36, 37, 39, 41, 47, 56, 57, 58, 59, 66, 76, 77, 78, 79, 163, 210, 221, 222, 223, 224, 251]
def Try.keep4 : List Nat := [0, 1, 2, 3, 6, 7, 8, 9, 10, 11, 12, 13, 14, 15, 16, 17, 18, 19, 20, 21, 23]
def Try.keep5 : List Nat := [0, 1, 2, 4, 5, 6, 7, 8, 9, 10, 11, 12, 13, 14, 15, 16, 17, 18, 20]
def Try.keep6 : List Nat := [0, 1, 2, 4, 5, 6, 7, 8, 9, 10, 11, 12, 13, 14, 15, 16, 17, 18, 19, 20, 21, 22, 24, 54, 71, 78, 91, 99, 108, 112, 169]
def Try.keep7 : List Nat := [0, 1, 2, 3, 6, 7, 8, 9, 10, 11, 12, 13, 14, 15, 16, 17, 18, 19, 20, 22, 55, 59, 65, 81]
def Try.keep8 : List Nat := [0, 1, 2, 3, 4, 5, 10, 11, 12, 13, 14, 15, 16, 17, 18, 19, 20, 21, 22, 23, 25, 107, 111, 133]
def Try.keep9 : List Nat := [0, 1, 2, 4, 5, 6, 7, 8, 9, 10, 11, 12, 13, 14, 15, 17, 61]
def Try.keep10 : List Nat := [0, 1, 2, 3, 4, 5, 6, 7, 8, 14, 15, 16, 17, 18, 19, 20, 21, 22, 23, 24, 25, 26, 27, 28, 29, 30, 31, 32, 33, 35, 87, 94, 107, 132]
def Try.keep11 : List Nat := [0, 1, 2, 3, 4, 5, 6, 10, 11, 12, 13, 14, 15, 16, 17, 18, 19, 20, 21, 22, 23, 25, 54, 59, 89, 113]
def Try.keep12 : List Nat := [0, 1, 2, 3, 4, 5, 6, 7, 8, 14, 15, 16, 17, 18, 19, 20, 21, 22, 23, 24, 26, 27, 29, 30, 32, 48, 49, 53, 66, 74, 82, 93, 104, 158]
def Try.keep13 : List Nat := [0, 1, 2, 3, 4, 5, 6, 7, 12, 13, 14, 15, 16, 17, 18, 19, 20, 21, 22, 23, 24, 25, 26, 27, 28, 29, 30, 32, 120, 124, 136, 145, 195]
def Try.keep14 : List Nat := [0, 1, 2, 3, 4, 5, 6, 7, 12, 13, 14, 15, 16, 17, 18, 19, 20, 21, 22, 23, 24, 26, 66, 72, 90, 113]
def Try.keep15 : List Nat := [0, 1, 2, 3, 4, 5, 6, 7, 8, 9, 10, 11, 12, 13, 14, 15, 17, 18, 19, 20, 21, 22, 24, 25, 27, 28, 29, 30, 49, 124]
def Try.keep16 : List Nat := [0, 1, 2, 3]
def Try.keep17 : List Nat := [0, 1, 2, 3, 4]
def Try.keep18 : List Nat := [0, 1, 2, 3, 22]
def Try.keep19 : List Nat := [0, 1, 4, 6]
def Try.keep20 : List Nat := [0, 1, 2, 3, 6, 7, 8, 9, 18]
def Try.keep21 : List Nat := [0, 1, 2, 3, 6, 7, 8, 9, 14]
def Try.keep22 : List Nat := [0, 1, 2, 3, 6, 7, 8, 9, 18]
def Try.keep23 : List Nat := [0, 1, 2, 3, 6, 7, 12]
def Try.keep24 : List Nat := [0, 1, 2, 3, 6, 7, 8, 9, 18]
def Try.keep25 : List Nat := [0, 1, 2, 3, 6, 7, 8, 9, 10, 11, 31]
def Try.keep26 : List Nat := [0, 1, 2, 4, 5, 7, 8, 9, 10, 18, 22, 23]
def Try.keep27 : List Nat := [0, 1, 2, 4, 5, 6, 7, 8, 9, 10, 14, 21, 32, 67, 81]
def Try.keep28 : List Nat := [0, 1, 2, 4, 5, 6, 7, 20]
def Try.keep29 : List Nat := [0, 1, 2, 4, 5, 6, 7, 20]
def Try.keep30 : List Nat := [0, 1, 4, 5, 10, 14, 25]
def Try.keep31 : List Nat := [0, 1, 2, 3, 4, 6, 7, 8, 9, 10, 36, 41, 42, 43]
def Try.keep32 : List Nat := [0, 1, 2, 3, 4, 6, 7, 8, 9, 10, 11, 41, 47, 58]
def Try.keep33 : List Nat := [0, 1, 4, 9]
def Try.keep34 : List Nat := [0, 1, 2, 3, 4, 5, 6, 7, 8, 9, 10, 11, 12, 13, 14, 15, 16, 17, 18, 19, 21, 22, 121]
def Try.keep35 : List Nat := [0, 1, 2, 3, 4, 5, 6, 10, 11, 12, 13]
def Try.keep36 : List Nat := [0, 1, 2, 3, 5, 6, 7, 8, 9, 11, 16, 22, 24]
def Try.keep37 : List Nat := [0, 1, 2, 3, 5, 6, 7, 8, 9, 10, 11, 12, 17, 22, 23, 24, 32, 54]
def Try.keep38 : List Nat := [0, 1, 2, 3, 5, 6, 7, 8, 9, 10, 19, 24]
def Try.keep39 : List Nat := [0, 1, 4, 6]
def Try.keep40 : List Nat := [0, 1, 2, 3, 5, 6, 7, 8, 10, 15, 19, 21]
def Try.keep41 : List Nat := [0, 1, 2, 4, 5, 6]
def Try.keep42 : List Nat := [0, 1, 2, 3, 6, 14]
def Try.keep43 : List Nat := [0, 1, 4, 6]
def Try.keep44 : List Nat := [0, 1, 2, 6]
def Try.keep45 : List Nat := [0, 1, 2, 6]
def Try.keep46 : List Nat := [0, 1, 2, 3, 6, 7, 8]
def Try.keep47 : List Nat := [0, 1, 2, 3]
def Try.keep48 : List Nat := [0, 1, 2, 3, 6]
def Try.keep49 : List Nat := [0, 1, 4, 9]
def Try.keep50 : List Nat := [0, 1, 2]
def Try.keep51 : List Nat := [0, 1, 2]
def Try.keep52 : List Nat := [0, 1, 2, 3, 4]
def Try.keep53 : List Nat := [0, 1, 2, 3, 4]
def Try.keep54 : List Nat := [0, 2, 3, 5, 6, 7, 8, 9, 14]
def Try.keep55 : List Nat := [0, 1, 4, 5, 6, 11, 12, 13, 16, 19]
def Try.keep56 : List Nat := [0, 1, 4, 5]
def Try.keep57 : List Nat := [0, 1, 2]
def Try.keep58 : List Nat := [0, 1, 4, 5, 10, 14, 25]
def Try.keep59 : List Nat := [0, 1, 2, 3, 5, 6]
def Try.keep60 : List Nat := [0, 1, 2, 4]
def Try.keep61 : List Nat := [0, 1, 2, 4, 5, 6, 7]
def Try.keep62 : List Nat := [0, 1, 4, 5, 6, 7, 8, 9, 20]
def Try.keep63 : List Nat := [0, 1, 2, 3, 4, 5, 6]
def Try.keep64 : List Nat := [0, 1, 4, 5, 7, 8, 9, 16]
def Try.keep65 : List Nat := [0, 2]
def Try.keep66 : List Nat := [0, 1, 2, 4, 5, 6, 7, 8, 9, 10, 11, 19, 35]
def Try.keep67 : List Nat := [0, 2, 3, 4, 5, 8, 9, 10, 11, 12, 33]
def Try.keep68 : List Nat := [0, 1, 2, 3, 4, 5]
def Try.keep69 : List Nat := [0, 1, 2, 3, 6, 7, 8, 10, 18, 19, 20, 21, 27]
def Try.keep70 : List Nat := [0, 1, 4]
def Try.keep71 : List Nat := [0, 1, 2, 4, 11, 21]
def Try.keep72 : List Nat := [0, 2]
def Try.keep73 : List Nat := [0, 2]
def Try.keep74 : List Nat := [0, 1, 4]
def Try.keep75 : List Nat := [0, 1, 3, 5, 7, 13]
def Try.keep76 : List Nat := [0, 1, 2]
def Try.keep77 : List Nat := [0, 1, 2, 3, 4, 5, 6]
def Try.keep78 : List Nat := [0, 1, 4, 6]
def Try.keep79 : List Nat := [0, 1, 4, 6]
def Try.keep80 : List Nat := [0, 1, 2, 3, 5, 6, 12, 21, 30]
def Try.keep81 : List Nat := [0, 2]
def Try.keep82 : List Nat := [0, 1, 2]
def Try.keep83 : List Nat := [0, 2, 3, 6]
def Try.keep84 : List Nat := [0, 2, 3, 4, 6, 9, 13, 14, 15, 20]
def Try.keep85 : List Nat := [0, 1, 4]
def Try.keep86 : List Nat := [0, 1, 2, 3]
def Try.keep87 : List Nat := [0, 1, 2, 6]
def Try.keep88 : List Nat := [0, 1, 4]
def Try.keep89 : List Nat := [0, 2]
def Try.keep90 : List Nat := [0, 1, 2, 4]
def Try.keep91 : List Nat := [0, 1, 2, 4, 5, 6, 7]
def Try.keep92 : List Nat := [0, 1, 2, 3, 4, 10, 11, 12, 13, 14, 15, 16, 17, 18, 19, 20, 25, 32, 39, 56, 75, 80, 97, 125]
def Try.keep93 : List Nat := [0, 2]
def Try.keep94 : List Nat := [0, 1, 4]
def Try.keep95 : List Nat := [0, 1, 2, 3]
def Try.keep96 : List Nat := [0, 1, 2, 6]
def Try.keep97 : List Nat := [0, 2, 3, 9]
def Try.keep98 : List Nat := [0]
def Try.keep99 : List Nat := [0, 1, 4, 5, 7, 8, 9, 16]
def Try.keep100 : List Nat := [0, 1, 4]
def Try.keep101 : List Nat := [0, 1, 2]
def Try.keep102 : List Nat := [0, 1, 2, 6]
def Try.keep103 : List Nat := [0, 1, 2, 3, 8, 9, 14, 34]
def Try.keep104 : List Nat := [0, 1, 2, 3, 8, 9, 10, 11, 12, 21, 33]
def Try.keep105 : List Nat := [0, 1, 2, 8, 9, 10, 11, 12, 17, 35, 45]
def Try.keep106 : List Nat := [0, 1, 2, 3, 8, 9, 10, 11, 12, 13, 14, 34, 36, 55, 57, 60]
def Try.keep107 : List Nat := [0, 1, 2, 8, 9, 15]
def Try.keep108 : List Nat := [0, 1, 2, 3, 8, 9, 10, 11, 12, 16, 36, 41, 45, 65, 69, 84, 104, 109, 124]
def Try.keep109 : List Nat := [0, 1, 2, 3, 4, 10, 11, 12, 47, 65, 70]
def Try.keep110 : List Nat := [0, 1, 2, 3, 4, 10, 11, 12, 13, 47, 66, 71, 120, 139, 144]
def Try.keep111 : List Nat := [0, 2, 4, 8]
def Try.keep112 : List Nat := [0, 2, 4, 8, 14]
def Try.keep113 : List Nat := [0, 1, 4, 5, 7, 8, 9, 16]
def Try.keep114 : List Nat := [0, 2]
def Try.keep115 : List Nat := [0, 2]
def Try.keep116 : List Nat := [0, 2]
def Try.keep117 : List Nat := [0, 1, 4, 5, 7, 8, 9, 16]
def Try.keep118 : List Nat := [0, 1, 2, 3, 4, 10, 11, 18, 40, 58]
def Try.keep119 : List Nat := [0, 2]
def Try.keep120 : List Nat := [0, 2]
def Try.keep121 : List Nat := [0, 1, 2, 3, 8]
def Try.keep122 : List Nat := [0, 1, 2, 3, 4, 5, 12]
def Try.keep123 : List Nat := [0, 1, 2, 3, 4, 10, 11, 22]
theorem Try.TT_ok : Tab.OK Try.TT Try.prog := (by kernel_rfl : Try.TT.map (fun p => TI.of Try.prog p.1) = Try.TT.map (fun p => some p.2))
theorem Try.mixed : Try.prog.follows .mixedOrders = true := by kernel_rfl
end Go.Proofs


namespace Go.Proofs
open Go Go.AI
open Go.RowKit (Below)
set_option maxRecDepth 10000
set_option linter.unusedSimpArgs false
theorem nodup_len {α : Type} [DecidableEq α] : ∀ {p k : List α}, p.Nodup → (∀ x ∈ p, x ∈ k) → p.length ≤ k.length
  | [], _, _, _ => Nat.zero_le _
  | x :: p, k, hp, hs => by
    obtain ⟨h1, h2⟩ := List.nodup_cons.1 hp
    have hx := hs x List.mem_cons_self
    have := nodup_len (k := k.erase x) h2 fun y hy => (List.mem_erase_of_ne (fun e => by subst e; exact h1 hy)).2 (hs y (List.mem_cons_of_mem _ hy))
    rw [List.length_erase_of_mem hx] at this
    have hpos := List.length_pos_of_mem hx
    simp only [List.length_cons]
    omega
theorem perm_of_nodup {α : Type} [DecidableEq α] : ∀ {p k : List α}, p.Nodup → k.Nodup → (∀ x, x ∈ p ↔ x ∈ k) → p.Perm k := fun hp hk h => (List.perm_ext_iff_of_nodup hp hk).2 h
/-- maps.Keys at a map of cells: its iterator. -/
theorem Try.keys_seq (l : List (List Int × AV)) (hl : ∀ p ∈ l, p.1.length = 2) :
    ASeqN Try.prog (fun k : List Int => #[keyV k]) 75 [.ref [.mapv (rowsK l)]] (fun p x => x ∈ l.map (·.1) ∧ x ∉ p ∧ p.length < l.length) (fun p => p.Perm (l.map (·.1))) := by
  refine ⟨enters_of Try.func75 (by kernel_rfl) rfl, fun m lb hlen hr F n hfn hdep hal hro lp J Jx W hs hab habx hyld hJ0 => ?_⟩
  obtain ⟨pb, po, b, es, clock, hlb, hm1, hm2, hborn, hsz, hkeys⟩ : ∃ pb po b es clock, lb = #[.pointer (some ⟨pb, po, none⟩)] ∧ m pb po = some (.map (some b)) ∧ m.maps b = some (es, clock) ∧ BornOK es clock ∧ l.length = es.size ∧
      ∀ (i : Nat) (e : MapEntry), es[i]? = some e → ∃ p, l[i]? = some p ∧ e.key = keyV p.1 := by
    have h1 : lb.size = 1 := by simpa using hlen.symm
    obtain ⟨v, hv⟩ : ∃ v, lb = #[v] := Array.size_eq_one_iff.1 h1
    subst hv
    have h2 := hr 0 _ v rfl rfl
    cases h2 with
    | ref cs pb po hc g hg hr' =>
      have h3 := hr' 0 _ rfl
      have h4 := hg 0 _ rfl
      generalize g 0 = u at h3 h4
      cases h3 with
      | mapv xs b es clock hm hb hl' h2' hk hv =>
        refine ⟨pb, po, b, es, clock, rfl, by simpa using h4, hm, hb, by simpa [rowsK] using hl', fun i e he => ?_⟩
        have hi : i < l.length := by
          have := (Array.getElem?_eq_some_iff.1 he).1
          have : (rowsK l).length = es.size := hl'
          simp [rowsK] at this; omega
        exact ⟨l[i], List.getElem?_eq_getElem hi, (hk i _ e _ (by simp [rowsK, hi] : (rowsK l)[i]? = some [keyA l[i].1, l[i].2]) he rfl).keyA⟩
  subst hlb
  have hnd : (l.map (·.1)).Nodup := by
    rw [List.Nodup, List.pairwise_iff_getElem]
    intro i j hi hj hij hc
    simp only [List.length_map] at hi hj
    simp only [List.getElem_map] at hc
    have hi' : i < es.size := by omega
    have hj' : j < es.size := by omega
    obtain ⟨p, p1, p2⟩ := hkeys i _ (Array.getElem?_eq_getElem hi')
    obtain ⟨q, q1, q2⟩ := hkeys j _ (Array.getElem?_eq_getElem hj')
    have := hborn.2.2 i j _ _ (Array.getElem?_eq_getElem hi') (Array.getElem?_eq_getElem hj') (by
      rw [p2, q2]
      rw [List.getElem?_eq_getElem hi] at p1
      rw [List.getElem?_eq_getElem hj] at q1
      cases p1; cases q1
      rw [hc])
    omega
  have hmem : ∀ e ∈ es.toList, ∃ i, es[i]? = some e := fun e he => by
    obtain ⟨i, hi, rfl⟩ := List.getElem_of_mem he
    exact ⟨i, by rw [← Array.getElem?_toList]; exact List.getElem?_eq_getElem hi⟩
  have hbl : ∀ e ∈ es.toList, e.born < clock := fun e he => let ⟨i, hi⟩ := hmem e he; hborn.1 i e hi
  have hbu : ∀ e ∈ es.toList, ∀ f ∈ es.toList, f.born = e.born → f = e := fun e he f hf h => by
    obtain ⟨i, hi⟩ := hmem e he
    obtain ⟨j, hj⟩ := hmem f hf
    have := hborn.2.1 j i f e hj hi h
    subst this
    rw [hi] at hj; cases hj; rfl
  have hkm : ∀ e ∈ es.toList, ∃ x, e.key = keyV x ∧ x ∈ l.map (·.1) := fun e he => by
    obtain ⟨i, hi⟩ := hmem e he
    obtain ⟨p, p1, p2⟩ := hkeys i e hi
    exact ⟨p.1, p2, List.mem_map_of_mem (List.mem_of_getElem? p1)⟩
  -- what goes over the map
  obtain ⟨r, hrr⟩ : ∃ r, W.heap.size = r := ⟨_, rfl⟩
  let rel : Array Nat → List (List Int) → Prop := fun seen p => ∀ e ∈ es.toList, ∀ x, e.key = keyV x → (seen.contains e.born = true ↔ x ∈ p)
  let J2 : List (List Int) × Option (List Int) → World → Prop := fun q w => J q.1 w ∧ ∃ seen, w.heap[r]? = some (.mapIter (some b) clock seen clock) ∧
    match q.2 with
    | none => rel seen q.1
    | some x => (x ∈ l.map (·.1) ∧ x ∉ q.1 ∧ q.1.length < l.length) ∧ rel seen (q.1 ++ [x]) ∧ ∃ e ∈ es.toList, e.key = keyV x ∧ seen.back? = some e.born
  let Y : YB (List (List Int) × Option (List Int)) (List Int) := ⟨Try.prog, F, n, 14, m, lp, J2, fun _ => Jx, fun q x => q.2 = some x, fun q x => (q.1 ++ [x], none), fun k => #[keyV k], [(0, .lit (.func (.yield lp) #[] #[])), (5, .lit (.pointer (some ⟨r, 0, none⟩)))]⟩
  have hY : Y.OK := by
    refine ⟨fun W => ⟨hfn, hdep, hal, Try.mixed⟩, hro, fun q W1 W2 h1 h2 => ?_, fun _ W1 W2 h1 h2 => habx W1 W2 h1 h2.toI, fun q x W1 hq hJ hm => ?_⟩
    · obtain ⟨g1, seen, g2, g3⟩ := h1
      exact ⟨hab _ W1 W2 g1 h2.toI, seen, (h2.below.block _ (Array.getElem?_eq_some_iff.1 g2).1).trans g2, g3⟩
    · obtain ⟨g1, seen, g2, g3⟩ := hJ
      have hq' : q.2 = some x := hq
      rw [hq'] at g3
      obtain ⟨g3, g5, _⟩ := g3
      obtain ⟨fn, tmps, asg, bd, q1, q2⟩ := hyld q.1 x W1 g3 g1 hm
      refine ⟨fn, tmps, asg, bd, q1, q2.mono fun e W' h => h.imp (fun ⟨h1, h2, h3, h4⟩ => ⟨h1, ⟨h2, seen, h4 _ _ g2 rfl, g5⟩, h3⟩) id⟩
  have hwb : ∀ w, m.sub w → w.heap[b]? = some (.map es clock) := fun w h => h.map b _ hm2
  have hrN : ∀ (w : World) (d : Nat) (seen : Array Nat) (o : Obj), softO o → w.heap[r]? = some (.mapIter (some b) clock seen clock) → GrI W.heap.size w ((World.dr w d).putObj r o) := fun w d seen o ho h =>
    ⟨rfl, rfl, rfl, (by simp [World.putObj, World.dr]), (fun c hc hc2 => World.putObj_heap_other (fun e => by
      subst e
      rcases hc2 with h1 | h1
      · omega
      · rw [h] at h1; cases h1)), ⟨(by show w.drawn ≤ w.drawn + d; omega)⟩⟩
  have hsubP : ∀ (w : World) (d : Nat) (seen : Array Nat) (o : Obj), m.sub w → w.heap[r]? = some (.mapIter (some b) clock seen clock) → m.sub ((World.dr w d).putObj r o) := fun w d seen o h hr =>
    ⟨fun c q v hv => by
      have h1 := h.cell c q v hv
      simp only [World.cell?] at h1 ⊢
      rw [World.putObj_heap_other (fun e => by subst e; rw [hr] at h1; cases h1)]; exact h1,
     fun c x hx => by
      have h1 := h.map c x hx
      rw [World.putObj_heap_other (fun e => by subst e; rw [hr] at h1; cases h1)]; exact h1⟩
  refine callsIn_of_wp Try.func75 rfl (hfn 75) ?_ hro
  refine wpIn_seq (wpIn_region ?_)
  have hΓ : ∀ W, Base.OK ⟨Try.prog, F, n, W, m, 14⟩ := fun W => ⟨hfn, hdep, hal, Try.mixed⟩
  -- the first region
  obtain ⟨a0, ha0⟩ : ∃ a0 : Act, a0 = { tmps := #[Value.func (.yield lp) #[] #[]] ++ #[Value.pointer (some ⟨pb, po, none⟩)] ++ Array.replicate (Try.f75.ntmps - (#[Value.func (.yield lp) #[] #[]] ++ #[Value.pointer (some ⟨pb, po, none⟩)]).size) Go.undef, defers := [] } := ⟨_, rfl⟩
  rw [← ha0]
  have hz0 : a0.tmps.size = 14 := by rw [ha0]; simp [Try.ntmps75]
  have hd0 : a0.defers = [] := by rw [ha0]
  have e00 : a0.tmps.getD 0 Go.undef = .func (.yield lp) #[] #[] := by rw [ha0]; simp [Array.getD_eq_getD_getElem?]
  have e01 : a0.eval (.tmp 1) = .pointer (some ⟨pb, po, none⟩) := by
    show a0.tmps.getD 1 Go.undef = _
    rw [ha0]; simp [Array.getD_eq_getD_getElem?, Array.getElem?_append]
  clear ha0
  have hrun0 : (load ⟨pb, po, none⟩).run Try.prog W = .ok (.map (some b)) W := by
    have hc := hs.cell pb po _ hm1
    simp [load, Sem.run, hc]
  refine ops_cons (i := 0) (l := [1]) (o := { dst := some 4, op := .load 82 (.tmp 1), type := 82, pos := _, after := _, guard := none }) rfl rfl ?_
  refine wpIn_value (Γ := ⟨Try.prog, F, n, W, m, 14⟩) (hΓ W) (fun c hc => by cases hc) (v := .map (some b)) (w' := W) ?_ ?_
  · simp only [execOp, e01, Instr.loadAt, Instr.sureAddr, loadVar, Sem.run_bind, Sem.run_pure, Result.andThen_ok, Try.isAgg82, Bool.false_eq_true, if_false, hrun0]
  have e04 : (a0.put (some 4) (.map (some b))).eval (.tmp 4) = .map (some b) := by
    show (a0.put (some 4) (.map (some b))).tmps.getD 4 Go.undef = _
    rw [getD_put _ _ _ _ (by omega), if_pos rfl]
  refine ops_cons (i := 1) (l := []) (o := { dst := some 5, op := .range 82 (.tmp 4), type := 0, pos := _, after := _, guard := none }) rfl rfl ?_
  refine wpIn_value (Γ := ⟨Try.prog, F, n, W, m, 14⟩) (hΓ W) (fun c hc => by cases hc) (v := .pointer (some ⟨W.heap.size, 0, none⟩)) (w' := W.alloc (.mapIter (some b) clock #[] clock)) ?_ ?_
  · simp only [execOp, e04, Sem.run_bind, Go.AI.run_range_map Try.underlying82 (hwb W hs), Result.andThen_ok, Sem.run_pure]
  simp only [wpOpsIn]
  obtain ⟨a1, ha1⟩ : ∃ a1 : Act, a1 = (a0.put (some 4) (.map (some b))).put (some 5) (.pointer (some ⟨W.heap.size, 0, none⟩)) := ⟨_, rfl⟩
  show Code.wpIn _ _ _ _ _ ((a0.put (some 4) (.map (some b))).put (some 5) (.pointer (some ⟨W.heap.size, 0, none⟩))) _
  rw [← ha1]
  have hG : Gr W (W.alloc (.mapIter (some b) clock #[] clock)) := ⟨(Below.refl _ W).alloc (Nat.le_refl _) _, .alloc W (fun _ _ _ h => nomatch h)⟩
  have hsub1 : m.sub (W.alloc (.mapIter (some b) clock #[] clock)) := ⟨fun c q v hv => by
      have h1 := hs.cell c q v hv
      have hc : c < W.heap.size := by
        unfold World.cell? at h1
        split at h1
        · exact (Array.getElem?_eq_some_iff.1 ‹_›).1
        · cases h1
      rw [World.cell?_alloc_lt _ _ _ (show (⟨c, q, none⟩ : Addr).block < _ from hc)]; exact h1,
     fun c x hx => by
      have h1 := hs.map c x hx
      exact (Below.heap_alloc _ _ _ (Array.getElem?_eq_some_iff.1 h1).1).trans h1⟩
  have hYI : YI Y (false, ([], none)) ⟨Y.tm, []⟩ a1 (W.alloc (.mapIter (some b) clock #[] clock)) := by
    have htm : ∀ (d : Nat) (x : AV), get Y.tm d = some x → RD m x (a1.tmps.getD d Go.undef) := fun d x hx => by
      have hx : get [(0, AV.lit (.func (.yield lp) #[] #[])), (5, AV.lit (.pointer (some ⟨r, 0, none⟩)))] d = some x := hx
      simp only [get_cons] at hx
      rw [ha1, getD_put _ _ _ _ (by rw [size_put]; omega)]
      split at hx
      · rename_i hd
        cases hx
        subst hd
        rw [if_neg (by omega), getD_put _ _ _ _ (by omega), if_neg (by omega), e00]
        exact .lit _ rfl rfl
      · split at hx
        · rename_i hd
          cases hx
          rw [if_pos hd, hrr]
          exact .lit _ rfl rfl
        · cases hx
    refine YI.rebase (Y := Y) ?_ hsub1 (by rw [ha1, size_put, size_put]; exact hz0) htm (by rw [ha1, defers_put, defers_put]; exact hd0) htm rfl
    refine ⟨hab [] W _ hJ0 hG.toI, #[], by rw [← hrr]; exact World.alloc_heap_new _ _, fun e he x hx => ?_⟩
    simp
  -- the loop
  have hyp : YP Y (false, ([], none)) ⟨Y.tm, []⟩ (match Try.f75.body with | some (.seq _ c) => c | _ => .skip) (fun e g' s' => (e = .ret ∨ e = .normal) ∧ ((∃ p, p.Perm (l.map (·.1)) ∧ g' = (false, (p, none))) ∨ g'.1 = true)) := by
    refine YP.block (YP.loop (X := List (List Int)) (fun p => ((false, (p, none)), ⟨Y.tm, []⟩)) (fun p => p.Nodup ∧ ∀ x ∈ p, x ∈ l.map (·.1)) (fun p => l.length - p.length) [] ⟨List.nodup_nil, by simp⟩ rfl (.refl _) (fun p hp => ?_))
    obtain ⟨hpn, hpk⟩ := hp
    refine YP.seq (K1 := fun e g s => e = .normal ∧ ((g = (false, (p, none)) ∧ s = ⟨(7, .bool false) :: Y.tm, []⟩ ∧ ∀ x ∈ l.map (·.1), x ∈ p) ∨ ∃ x, g = (false, (p, some x)) ∧ s = ⟨(7, .bool true) :: Y.tm, []⟩ ∧ x ∈ l.map (·.1) ∧ x ∉ p)) ?_ ?_ ?_
    · -- one step
      intro a w hI
      have hJ := hI.now hY
      obtain ⟨gJ, seen, gr, grel⟩ := hJ
      have hsub := hI.sub
      have hnt : a.tmps.size = 14 := hI.nt
      have e5 : a.eval (.tmp 5) = .pointer (some ⟨r, 0, none⟩) := by
        have h1 := hI.tm 5 (.lit (.pointer (some ⟨r, 0, none⟩))) rfl
        show a.tmps.getD 5 Go.undef = _
        generalize a.tmps.getD 5 Go.undef = u at h1
        cases h1; rfl
      have htm : ∀ (v6 v7 : Value) (d : Nat) (x : AV), get Y.tm d = some x → RD m x (((a.put (some 6) v6).put (some 7) v7).tmps.getD d Go.undef) := fun v6 v7 d x hx => by
        have h1 := hI.tm d x hx
        have hx : get [(0, AV.lit (.func (.yield lp) #[] #[])), (5, AV.lit (.pointer (some ⟨r, 0, none⟩)))] d = some x := hx
        have hd : d = 0 ∨ d = 5 := by
          simp only [get_cons] at hx
          split at hx
          · left; assumption
          · split at hx
            · right; assumption
            · cases hx
        rw [getD_put _ _ _ _ (by rw [size_put]; omega), if_neg (by omega), getD_put _ _ _ _ (by omega), if_neg (by omega)]
        exact h1
      have htm7 : ∀ (v6 : Value) (bo : Bool) (d : Nat) (x : AV), get ((7, AV.bool bo) :: Y.tm) d = some x → RD m x (((a.put (some 6) v6).put (some 7) (.bool bo)).tmps.getD d Go.undef) := fun v6 bo d x hx => by
        rw [get_cons] at hx
        split at hx
        · rename_i hd
          cases hx
          rw [getD_put _ _ _ _ (by rw [size_put]; omega), if_pos hd]
          exact .bool bo
        · exact htm _ _ d x hx
      have e6 : ∀ v6 : Value, (a.put (some 6) v6).eval (.tmp 6) = v6 := fun v6 => by
        show (a.put (some 6) v6).tmps.getD 6 Go.undef = _
        rw [getD_put _ _ _ _ (by omega), if_pos rfl]
      refine wpIn_region ?_
      refine ops_cons (i := 0) (l := [1]) (o := { dst := some 6, op := .next (.tmp 5) false, type := 0, pos := _, after := _, guard := none }) rfl rfl ?_
      rcases Go.AI.run_next_map (P := Try.prog) 0 gr (hwb w hsub) hbl with ⟨d, h1, h2⟩ | ⟨e, d, h1, h2, h3⟩
      · refine wpIn_value (Γ := ⟨Try.prog, F, n, W, m, 14⟩) (hΓ W) (fun c hc => by cases hc) (v := .tuple #[.bool false]) (w' := World.dr w d) ?_ ?_
        · simp only [execOp, e5, Sem.run_bind, h1, Result.andThen_ok, Sem.run_pure]
        refine ops_cons (i := 1) (l := []) (o := { dst := some 7, op := .extract (.tmp 6) 0, type := 4, pos := _, after := _, guard := none }) rfl rfl ?_
        refine wpIn_value (Γ := ⟨Try.prog, F, n, W, m, 14⟩) (hΓ W) (fun c hc => by cases hc) (v := .bool false) (w' := World.dr w d) ?_ ?_
        · simp only [execOp, e6, Instr.extract, Sem.run_bind, Sem.run_pure, Result.andThen_ok]
          rfl
        simp only [wpOpsIn]
        refine ⟨(false, (p, none)), ⟨(7, .bool false) :: Y.tm, []⟩, YI.rebase (Y := Y) ?_ ⟨hsub.cell, hsub.map⟩ (by rw [size_put, size_put]; exact hnt) (htm _ _) (by rw [defers_put, defers_put]; exact hI.df) (htm7 _ _) rfl, (by trivial), .inl ⟨rfl, rfl, fun x hx => ?_⟩⟩
        · exact ⟨hab p w _ gJ (Gr.toI ⟨⟨rfl, rfl, rfl, Nat.le_refl _, fun _ _ => rfl⟩, ⟨Nat.le_add_right _ _⟩⟩), seen, gr, grel⟩
        · obtain ⟨q, hq, rfl⟩ := List.mem_map.1 hx
          obtain ⟨i, hi, rfl⟩ := List.getElem_of_mem hq
          have hi' : i < es.size := by omega
          obtain ⟨q', q1, q2⟩ := hkeys i _ (Array.getElem?_eq_getElem hi')
          rw [List.getElem?_eq_getElem hi] at q1
          cases q1
          have hme : es[i] ∈ es.toList := by simp
          exact (grel _ hme _ q2).1 (h2 _ hme)
      · obtain ⟨x, hx1, hx2⟩ := hkm e h1
        have hxp : x ∉ p := fun hc => by
          have := (grel e h1 x hx1).2 hc
          rw [h2] at this; cases this
        refine wpIn_value (Γ := ⟨Try.prog, F, n, W, m, 14⟩) (hΓ W) (fun c hc => by cases hc) (v := .tuple #[.bool true, e.key, e.val]) (w' := (World.dr w d).putObj r (.mapIter (some b) clock (seen.push e.born) clock)) ?_ ?_
        · simp only [execOp, e5, Sem.run_bind, h3, Result.andThen_ok, Sem.run_pure]
        refine ops_cons (i := 1) (l := []) (o := { dst := some 7, op := .extract (.tmp 6) 0, type := 4, pos := _, after := _, guard := none }) rfl rfl ?_
        refine wpIn_value (Γ := ⟨Try.prog, F, n, W, m, 14⟩) (hΓ W) (fun c hc => by cases hc) (v := .bool true) (w' := (World.dr w d).putObj r (.mapIter (some b) clock (seen.push e.born) clock)) ?_ ?_
        · simp only [execOp, e6, Instr.extract, Sem.run_bind, Sem.run_pure, Result.andThen_ok]
          rfl
        simp only [wpOpsIn]
        refine ⟨(false, (p, some x)), ⟨(7, .bool true) :: Y.tm, []⟩, YI.rebase (Y := Y) ?_ (hsubP w d seen _ hsub gr) (by rw [size_put, size_put]; exact hnt) (htm _ _) (by rw [defers_put, defers_put]; exact hI.df) (htm7 _ _) rfl, (by trivial), .inr ⟨x, rfl, rfl, hx2, hxp⟩⟩
        refine ⟨hab p w _ gJ (hrN w d seen _ (fun _ _ _ h => nomatch h) gr), seen.push e.born, World.putObj_heap_same (Array.getElem?_eq_some_iff.1 gr).1, ⟨hx2, hxp, ?_⟩, fun f hf y hy => ?_, e, h1, hx1, by simp⟩
        · have := nodup_len (p := p ++ [x]) (k := l.map (·.1)) (by
            rw [List.nodup_append]
            refine ⟨hpn, by simp, fun a ha b hb => ?_⟩
            simp only [List.mem_singleton] at hb
            subst hb
            intro e; subst e; exact hxp ha) (fun y hy => by
            rcases List.mem_append.1 hy with hy | hy
            · exact hpk y hy
            · simp only [List.mem_singleton] at hy; subst hy; exact hx2)
          simp at this
          show p.length < l.length
          omega
        rw [Array.contains_push]
        simp only [Bool.or_eq_true, beq_iff_eq, List.mem_append, List.mem_singleton]
        rw [grel f hf y hy]
        refine or_congr Iff.rfl ⟨fun h => ?_, fun h => ?_⟩
        · have := hbu e h1 f hf h
          subst this
          rw [hx1] at hy
          exact (keyV_inj hy)
        · subst h
          have : f.key = e.key := by rw [hy, hx1]
          obtain ⟨i, hi⟩ := hmem e h1
          obtain ⟨j, hj⟩ := hmem f hf
          have := hborn.2.2 j i f e hj hi this
          subst this
          rw [hi] at hj; cases hj; rfl
    · rintro g s ⟨_, ⟨rfl, rfl, hall⟩ | ⟨x, rfl, rfl, hx1, hx2⟩⟩
      · refine YP.seq (K1 := fun e g s => e = .exit 0 ∧ g = (false, (p, none))) ?_ (by rintro g s ⟨h, _⟩; cases h) ?_
        · refine awpY_sound (keep := []) hY Try.TT_ok _ _ _ _ (by kernel_rfl) (by kernel_rfl) ?_
          exact And.intro (fun h => Bool.noConfusion h) (fun _ => ⟨rfl, rfl⟩)
        · rintro e g s _ ⟨rfl, rfl⟩
          exact ⟨.inr rfl, .inl ⟨p, perm_of_nodup hpn hnd fun x => ⟨hpk x, hall x⟩, rfl⟩⟩
      · obtain ⟨q, hq, hqx⟩ := List.mem_map.1 hx1
        have hlx := hl q hq
        rw [hqx] at hlx
        obtain ⟨u, v, rfl⟩ : ∃ u v, x = [u, v] := by
          match x, hlx with
          | [u, v], _ => exact ⟨u, v, rfl⟩
        refine YP.seq (K1 := fun e g' s' => e = .normal ∧ g' = (false, (p, some [u, v])) ∧ s' = ⟨(7, .bool true) :: Y.tm, []⟩) ?_ ?_ (by rintro e g s h ⟨rfl, _⟩; exact absurd rfl h)
        · refine awpY_sound (keep := []) hY Try.TT_ok _ _ _ _ (by kernel_rfl) (by kernel_rfl) ?_
          exact And.intro (fun _ => ⟨rfl, rfl, rfl⟩) (fun h => Bool.noConfusion h)
        rintro g s ⟨_, rfl, rfl⟩
        refine YP.block (YP.seq (K1 := fun e g' s' => e = .normal ∧ g' = (false, (p, some [u, v])) ∧ s' = ⟨(3, .loc 3 0) :: (9, .agg [.int .i64 u, .int .i64 v]) :: Y.tm, [(3, [.int .i64 u, .int .i64 v]), (3, [.int .i64 0, .int .i64 0])]⟩) ?_ ?_ (by rintro e g s h ⟨rfl, _⟩; exact absurd rfl h))
        · intro a w hI
          obtain ⟨gJ, seen, gr, hx1', grel, e, he, hek, hback⟩ := hI.now hY
          have hsub := hI.sub
          have hnt : a.tmps.size = 14 := hI.nt
          have e5 : a.eval (.tmp 5) = .pointer (some ⟨r, 0, none⟩) := by
            have h1 := hI.tm 5 (.lit (.pointer (some ⟨r, 0, none⟩))) rfl
            show a.tmps.getD 5 Go.undef = _
            generalize a.tmps.getD 5 Go.undef = u at h1
            cases h1; rfl
          have e8 : ∀ v6 : Value, (a.put (some 8) v6).eval (.tmp 8) = v6 := fun v6 => by
            show (a.put (some 8) v6).tmps.getD 8 Go.undef = _
            rw [getD_put _ _ _ _ (by omega), if_pos rfl]
          have htm : ∀ (v6 v7 : Value) (d : Nat) (x : AV), get Y.tm d = some x → RD m x (((a.put (some 8) v6).put (some 9) v7).tmps.getD d Go.undef) := fun v6 v7 d x hx => by
            have h1 := hI.tm d x hx
            have hx : get [(0, AV.lit (.func (.yield lp) #[] #[])), (5, AV.lit (.pointer (some ⟨r, 0, none⟩)))] d = some x := hx
            have hd : d = 0 ∨ d = 5 := by
              simp only [get_cons] at hx
              split at hx
              · left; assumption
              · split at hx
                · right; assumption
                · cases hx
            rw [getD_put _ _ _ _ (by rw [size_put]; omega), if_neg (by omega), getD_put _ _ _ _ (by omega), if_neg (by omega)]
            exact h1
          refine wpIn_region ?_
          refine ops_cons (i := 0) (l := [1, 2, 3]) (o := { dst := some 8, op := .entry (.tmp 5), type := 0, pos := _, after := _, guard := none }) rfl rfl ?_
          refine wpIn_value (Γ := ⟨Try.prog, F, n, W, m, 14⟩) (hΓ W) (fun c hc => by cases hc) (v := .tuple #[e.key, e.val]) (w' := w) ?_ ?_
          · simp only [execOp, e5, Sem.run_bind, Go.AI.run_entry_map gr (hwb w hsub) hback he (hbu e he), Result.andThen_ok, Sem.run_pure]
          refine ops_cons (i := 1) (l := [2, 3]) (o := { dst := some 9, op := .extract (.tmp 8) 0, type := 38, pos := _, after := _, guard := none }) rfl rfl ?_
          refine wpIn_value (Γ := ⟨Try.prog, F, n, W, m, 14⟩) (hΓ W) (fun c hc => by cases hc) (v := e.key) (w' := w) ?_ ?_
          · simp only [execOp, e8, Instr.extract, Sem.run_bind, Sem.run_pure, Result.andThen_ok]
            rfl
          have hI2 : YI Y (false, (p, some [u, v])) ⟨(9, .agg [.int .i64 u, .int .i64 v]) :: Y.tm, []⟩ ((a.put (some 8) (.tuple #[e.key, e.val])).put (some 9) e.key) w := by
            refine YI.rebase (Y := Y) (hI.now hY) hsub (by rw [size_put, size_put]; exact hnt) (htm _ _) (by rw [defers_put, defers_put]; exact hI.df) (fun d x hx => ?_) rfl
            rw [get_cons] at hx
            split at hx
            · rename_i hd
              cases hx
              rw [getD_put _ _ _ _ (by rw [size_put]; omega), if_pos hd, hek]
              exact RD.ints m [u, v]
            · exact htm _ _ d x hx
          refine awpOpsY_sound (T := Try.TT) (guards := []) hY Try.TT_ok (okDst_all (by kernel_rfl)) (by kernel_rfl) [{ dst := some 3, op := .alloc 38, type := 0, pos := "iter.go:27", after := #[], guard := none }, { dst := none, op := .store 38 (.tmp 3) (.tmp 9), type := 0, pos := "iter.go:27", after := #[{ on := 2, ground := .data }, { on := 1, ground := .data }, { on := 0, ground := .phase }, { on := 1, ground := .phase }, { on := 2, ground := .phase }], guard := none }] 2 (false, (p, some [u, v])) ⟨(9, .agg [.int .i64 u, .int .i64 v]) :: Y.tm, []⟩ _ _ (fun g s => g = (false, (p, some [u, v])) ∧ s = ⟨(3, .loc 3 0) :: (9, .agg [.int .i64 u, .int .i64 v]) :: Y.tm, [(3, [.int .i64 u, .int .i64 v]), (3, [.int .i64 0, .int .i64 0])]⟩) (fun j => ?_) ?_ hI2 (fun g' s' a' w' h1 h2 => ⟨g', s', h2, rfl, h1⟩)
          · match j with
            | 0 => rfl
            | 1 => rfl
            | j + 2 => rw [List.getElem?_eq_none (by simp), List.getElem?_eq_none (by simp; omega)]
          · conv => whnf
            exact And.intro rfl rfl
        · rintro g s ⟨_, rfl, rfl⟩
          refine awpY_sound (keep := [0, 5, 13]) hY Try.TT_ok _ _ _ _ (by kernel_rfl) (by kernel_rfl) ?_
          refine And.intro rfl (Exists.intro [u, v] (And.intro rfl (And.intro rfl (And.intro ?_ ?_))))
          · refine And.intro (fun h => Bool.noConfusion (h : false = true)) (fun _ => ?_)
            refine Exists.intro (p ++ [[u, v]]) (And.intro ⟨?_, ?_⟩ (And.intro ?_ (And.intro rfl (St.le.of ?_ ?_))))
            · rw [List.nodup_append]
              refine ⟨hpn, by simp, fun a ha b hb => ?_⟩
              simp only [List.mem_singleton] at hb
              subst hb
              intro e; subst e; exact hx2 ha
            · intro y hy
              rcases List.mem_append.1 hy with hy | hy
              · exact hpk y hy
              · simp only [List.mem_singleton] at hy; subst hy; exact hx1
            · have h1 : (p ++ [[u, v]]).length ≤ (l.map (·.1)).length := by
                refine nodup_len ?_ ?_
                · rw [List.nodup_append]
                  refine ⟨hpn, by simp, fun a ha b hb => ?_⟩
                  simp only [List.mem_singleton] at hb
                  subst hb
                  intro e; subst e; exact hx2 ha
                · intro y hy
                  rcases List.mem_append.1 hy with hy | hy
                  · exact hpk y hy
                  · simp only [List.mem_singleton] at hy; subst hy; exact hx1
              simp at h1 ⊢
              omega
            · repeat' (first | exact trivial | refine And.intro rfl ?_)
            · repeat' (first | exact trivial | refine And.intro rfl ?_)
          · refine And.intro (fun _ => ?_) (fun h => Bool.noConfusion (h : true = false))
            exact ⟨.inl rfl, .inr rfl⟩
    · rintro e g s h ⟨rfl, _⟩; exact absurd rfl h
  refine wpIn_mono (hyp a1 _ hYI) ?_
  rintro e a' w' ⟨g', s', hI', he, hg⟩
  have hpost : a'.defers = [] ∧ ∃ v, (results Try.f75 a'.tmps).run Try.prog w' = .ok v w' ∧ ((∃ u, Ending.returned v = .returned u) ∧ ((∃ p, p.Perm (l.map (·.1)) ∧ J p w') ∨ Jx w')) := by
    refine ⟨hI'.df, .tuple #[], by simp [results, Try.f75], ⟨_, rfl⟩, ?_⟩
    rcases hg with ⟨p, hp, rfl⟩ | hg
    · exact .inl ⟨p, hp, (hI'.now hY).1⟩
    · right
      obtain ⟨⟨W0, h1, h2, h3⟩, _⟩ := hI'
      rw [hg] at h1
      obtain ⟨⟨cx, hW, _⟩, _⟩ := h2
      exact habx W0 w' h1 (Gr.toI ⟨hW.ext, h3⟩)
  rcases he with rfl | rfl <;> exact hpost
end Go.Proofs


namespace Go.Proofs
open Go Go.AI
set_option maxRecDepth 10000
def c2 (p : Int × Int) : List Int := [p.1, p.2]
def c2i (k : List Int) : Int × Int := (k.getD 0 0, k.getD 1 0)
/-- A map's entries, the keys being cells. -/
def cellsK (l : List (Int × Int)) : List (List Int × AV) := l.map fun p => (c2 p, .bool true)
def cellA (p : Int × Int) : List AV := [.int .i64 p.1, .int .i64 p.2]
theorem Try.keys_seq2 (l : List (Int × Int)) : ASeqN Try.prog (fun p : Int × Int => #[keyV (c2 p)]) 75 [.ref [.mapv (rowsK (cellsK l))]] (fun p x => x ∈ l ∧ x ∉ p ∧ p.length < l.length) (fun p => p.Perm l) := by
  have hk : (cellsK l).map (·.1) = l.map c2 := by simp [cellsK]
  have h := Try.keys_seq (cellsK l) (fun p hp => by
    obtain ⟨q, _, rfl⟩ := List.mem_map.1 hp
    rfl)
  refine ⟨h.1, fun m lb hlen hr F n hfn hdep hal hro lp J Jx W hs hab habx hyld hJ0 => ?_⟩
  refine CallsIn.mono (h.2 m lb hlen hr F n hfn hdep hal hro lp (fun q w => ∃ p, q = p.map c2 ∧ J p w) Jx W hs (fun q W1 W2 h hg => by
    obtain ⟨p, h1, h2⟩ := h
    exact ⟨p, h1, hab p W1 W2 h2 hg⟩) habx ?_ ⟨[], rfl, hJ0⟩) ?_
  · rintro q x W1 ⟨hx, hq, hlt⟩ ⟨p, rfl, hJ⟩ hm
    rw [hk] at hx
    obtain ⟨y, hy, rfl⟩ := List.mem_map.1 hx
    obtain ⟨fn, tmps, asg, bd, q1, q2⟩ := hyld p y W1 ⟨hy, fun hc => hq (List.mem_map_of_mem hc), by simpa [cellsK] using hlt⟩ hJ hm
    exact ⟨fn, tmps, asg, bd, q1, q2.mono fun e W' h => h.imp (fun ⟨h1, h2, h3⟩ => ⟨h1, ⟨p ++ [y], by simp, h2⟩, h3⟩) id⟩
  · rintro e w' ⟨h1, h2⟩
    refine ⟨h1, h2.imp (fun ⟨q, hq, p, hp, hJ⟩ => ⟨p, ?_, hJ⟩) id⟩
    rw [hk, hp] at hq
    have := hq.map c2i
    simpa [Function.comp_def, c2i, c2] using this
theorem key_rd (m : Mem) (x : Int × Int) (i : Nat) (c : AV) (v : Value) (h1 : [AV.agg (cellA x)][i]? = some c) (h2 : (#[keyV (c2 x)])[i]? = some v) : RD m c v := by
  match i, h1, h2 with
  | 0, h1, h2 => cases h1; cases h2; exact RD.ints m (c2 x)
def cellsA (l : List (Int × Int)) : AV := .sl .no 2 (l.map cellA)
def rowP : List (Int × Int) → AV
  | [] => .sl .full 0 []
  | x :: r => .sl (.id 11) 2 (cellA x :: r.map cellA)
set_option maxHeartbeats 1000000 in
theorem Try.n91 (l : List (Int × Int)) (hl : l.length ≤ 1000000) : NCalls Try.prog 91 [.sl .full 0 [], .clo 75 [.ref [.mapv (rowsK (cellsK l))]]] (fun r => ∃ p : List (Int × Int), p.Perm l ∧ r = cellsA p) := by
  refine NCalls.ofB Try.TT_ok Try.func91 rfl (by kernel_rfl) Try.mixed (Nat.le_of_ble_eq_true rfl) ?_
  intro F n' w0 m0 hG hro h1
  refine SPB.seq ?_
  refine SPB.reg hG Try.TT_ok Try.keep91 (by kernel_rfl) ?_
  conv => whnf
  refine SPB.seq ?_
  refine SPB.seq ?_
  refine SPB.reg hG Try.TT_ok Try.keep91 (by kernel_rfl) ?_
  conv => whnf
  refine SPB.block ?_
  refine ⟨SP.rangeN hG hro h1 (α := Int × Int) (fun x => [.agg (cellA x)]) (fun p : Int × Int => #[keyV (c2 p)]) (f := 75) (cap := [.ref [.mapv (rowsK (cellsK l))]]) (nx := fun p x => x ∈ l ∧ x ∉ p ∧ p.length < l.length) (fin := fun p => p.Perm l) rfl (Try.keys_seq2 l) (fun _ => rfl) (fun _ => rfl) key_rd
    (fun _ => [(2, .loc 2 0)]) [2] (fun _ => rfl) (fun pre => [(2, [rowP pre])]) (St.le.of ?_ ?_) (by kernel_rfl) (by decide) ?_ ?_⟩
  · repeat' (first | exact trivial | refine And.intro rfl ?_)
  · repeat' (first | exact trivial | refine And.intro rfl ?_)
  · intro F' n'' m' hG' pre x hx
    have hlen : pre.length < 1000000 := by omega
    cases pre with
    | nil =>
      refine SPB.out (SPB.reg hG' Try.TT_ok (2 :: 5 :: Try.keep91) (by kernel_rfl) ?_)
      conv => whnf
      refine And.intro rfl (And.intro (St.le.of ?_ ?_) ?_)
      · repeat' (first | exact trivial | refine And.intro rfl ?_)
      · repeat' (first | exact trivial | refine And.intro rfl ?_)
      · refine SPB.out (SPB.block ?_)
        refine SPB.reg hG' Try.TT_ok (2 :: 5 :: Try.keep91) (by kernel_rfl) ?_
        conv => whnf
        refine Or.inl ?_
        conv => whnf
        refine And.intro (show (0 + 1) * 16 ≤ 70368744177664 by omega) ?_
        conv => whnf
        refine And.intro (show 0 + 1 ≤ 4611686018427387904 by omega) ?_
        conv => whnf
        refine St.le.of ?_ ?_
        · repeat' (first | exact trivial | refine And.intro rfl ?_)
        · repeat' (first | exact trivial | refine And.intro rfl ?_)
    | cons y pre =>
      refine SPB.out (SPB.reg hG' Try.TT_ok (2 :: 5 :: Try.keep91) (by kernel_rfl) ?_)
      conv => whnf
      refine And.intro rfl (And.intro (St.le.of ?_ ?_) ?_)
      · repeat' (first | exact trivial | refine And.intro rfl ?_)
      · repeat' (first | exact trivial | refine And.intro rfl ?_)
      · refine SPB.out (SPB.block ?_)
        refine SPB.reg hG' Try.TT_ok (2 :: 5 :: Try.keep91) (by kernel_rfl) ?_
        conv => whnf
        have hlr : (cellA y :: pre.map cellA).length + 1 ≤ 1000001 := by simp at hlen ⊢; omega
        refine And.intro (show ((cellA y :: pre.map cellA).length + 1) * 16 ≤ 70368744177664 by omega) ?_
        conv => whnf
        refine And.intro (show (cellA y :: pre.map cellA).length + 1 ≤ 4611686018427387904 by omega) ?_
        conv => whnf
        refine St.le.of ?_ ?_
        · repeat' (first | exact trivial | refine And.intro rfl ?_)
        · refine And.intro (congrArg some (congrArg (fun z => [AV.sl (.id 11) 2 z]) ?_)) trivial
          simp [cellA]
  · intro p hp
    conv => whnf
    refine SPB.seq ?_
    cases p with
    | nil =>
      refine SPB.reg hG Try.TT_ok Try.keep91 (by kernel_rfl) ?_
      conv => whnf
      refine SPB.ret hG Try.TT_ok ?_
      refine ⟨_, ⟨[], hp, rfl⟩, Ends.mk (Or.inl rfl) AV.weak.slnil⟩
    | cons y pre =>
      refine SPB.reg hG Try.TT_ok Try.keep91 (by kernel_rfl) ?_
      conv => whnf
      refine SPB.ret hG Try.TT_ok ?_
      exact ⟨_, ⟨y :: pre, hp, rfl⟩, Ends.mk (Or.inl rfl) (AV.weak.of_eq rfl)⟩
end Go.Proofs


namespace Go.Proofs
open Go Go.AI
set_option maxRecDepth 10000
set_option linter.unusedSimpArgs false

theorem notT {b : Bool} (h : (!b) = true) : b = false := by cases b <;> simp_all
theorem notF {b : Bool} (h : (!b) = false) : b = true := by cases b <;> simp_all
def w64 (n : Int) : Int := IntKind.i64.wrap n
theorem w64_in {n : Int} (h1 : -9223372036854775808 ≤ n) (h2 : n ≤ 9223372036854775807) : w64 n = n := by unfold w64; rw [IntKind.wrap_i64]; omega
theorem le_next {n : Nat} (h : n < 9000000000000000000) : AV.int .i64 (IntKind.i64.wrap ((n : Int) + 1)) = AV.int .i64 ((n + 1 : Nat) : Int) := congrArg _ ((w64_in (by omega) (by omega)).trans (by omega))
def intsA (l : List Int) : AV := .sl .no 1 (l.map fun h => [.int .i64 h])
def cmpI (x y : Int) : Int := if x < y then -1 else if x > y then 1 else 0
def orS : List Int → Int
  | [] => 0
  | x :: r => if x ≠ 0 then x else orS r
theorem Try.c72 (x : Int) : ACalls Try.prog 72 [.int .i64 x] (.bool false) := by
  refine ACalls.ofB Try.TT_ok Try.func72 rfl (by kernel_rfl) Try.mixed (Nat.le_of_ble_eq_true rfl) ?_
  intro F n' w0 m0 hG hro h1
  repeat' first
    | refine SPB.seq ?_
    | refine SPB.block ?_
    | refine SPB.draw hG Try.TT_ok Try.keep72 (by kernel_rfl) ?_
    | refine SPB.reg hG Try.TT_ok Try.keep72 (by kernel_rfl) ?_
    | refine SPB.skip hG Try.TT_ok ?_
    | refine SPB.label hG Try.TT_ok ?_
    | refine SPB.ret hG Try.TT_ok ?_
    | refine SPB.exit hG Try.TT_ok ?_
    | refine SPB.condT rfl ?_
    | refine SPB.condF rfl ?_
    | refine SPB.cond rfl (And.intro (fun h => ?_) (fun h => ?_))
    | (conv => whnf
       first
         | refine And.intro (fun h => Bool.noConfusion (h : false = true)) (fun _ => ?_)
         | refine And.intro (fun _ => ?_) (fun h => Bool.noConfusion (h : true = false))
         | refine And.intro (by kernel_rfl) ?_
         | refine And.intro (fun h => ?_) (fun h => ?_)
         | refine Or.inl ?_
         | fail)
  all_goals refine Ends.mk (Or.inl rfl) (AV.weak.of_eq (congrArg AV.bool ?_))
  all_goals simp
theorem Try.c55 (x y : Int) : ACalls Try.prog 55 [.int .i64 x, .int .i64 y] (.int .i64 (cmpI x y)) := by
  refine ACalls.ofB Try.TT_ok Try.func55 rfl (by kernel_rfl) Try.mixed (Nat.le_of_ble_eq_true rfl) ?_
  intro F n' w0 m0 hG hro h1
  repeat' first
    | refine SPB.seq ?_
    | refine SPB.block ?_
    | refine SPB.draw hG Try.TT_ok Try.keep55 (by kernel_rfl) ?_
    | refine SPB.reg hG Try.TT_ok Try.keep55 (by kernel_rfl) ?_
    | refine SPB.skip hG Try.TT_ok ?_
    | refine SPB.label hG Try.TT_ok ?_
    | refine SPB.ret hG Try.TT_ok ?_
    | refine SPB.exit hG Try.TT_ok ?_
    | refine SPB.condT rfl ?_
    | refine SPB.condF rfl ?_
    | refine SPB.cond rfl (And.intro (fun h => ?_) (fun h => ?_))
    | (conv => whnf
       first
         | refine And.intro (fun h => Bool.noConfusion (h : false = true)) (fun _ => ?_)
         | refine And.intro (fun _ => ?_) (fun h => Bool.noConfusion (h : true = false))
         | refine And.intro (by kernel_rfl) ?_
         | refine Exists.intro _ (And.intro (Try.c72 _) ?_)
         | refine And.intro (fun h => ?_) (fun h => ?_)
         | refine Or.inl ?_
         | fail)
  all_goals refine Ends.mk (Or.inl rfl) (AV.weak.of_eq (congrArg (AV.int .i64) ?_))
  all_goals (unfold cmpI; simp only [decide_eq_true_eq, decide_eq_false_iff_not] at *; split <;> first | omega | (split <;> omega))
theorem Try.c54 (l : List Int) (hl : l.length ≤ 1000000) : ACalls Try.prog 54 [.sl .full 1 (l.map fun h => [.int .i64 h])] (.int .i64 (orS l)) := by
  refine ACalls.ofB Try.TT_ok Try.func54 rfl (by kernel_rfl) Try.mixed (Nat.le_of_ble_eq_true rfl) ?_
  intro F n' w0 m0 hG hro h1
  repeat' first
    | refine SPB.seq ?_
    | refine SPB.block ?_
    | refine SPB.draw hG Try.TT_ok Try.keep54 (by kernel_rfl) ?_
    | refine SPB.reg hG Try.TT_ok Try.keep54 (by kernel_rfl) ?_
    | refine SPB.skip hG Try.TT_ok ?_
    | refine SPB.label hG Try.TT_ok ?_
    | refine SPB.ret hG Try.TT_ok ?_
    | refine SPB.exit hG Try.TT_ok ?_
    | refine SPB.condT rfl ?_
    | refine SPB.condF rfl ?_
    | refine SPB.cond rfl (And.intro (fun h => ?_) (fun h => ?_))
    | (conv => whnf
       first
         | refine And.intro (fun h => Bool.noConfusion (h : false = true)) (fun _ => ?_)
         | refine And.intro (fun _ => ?_) (fun h => Bool.noConfusion (h : true = false))
         | refine And.intro (by kernel_rfl) ?_
         | refine And.intro (fun h => ?_) (fun h => ?_)
         | refine Or.inl ?_
         | fail)
  refine SPB.loop (X := Nat) (fun i => ⟨[(8, .int .i64 i), (7, .int .i64 (l.map fun h => [AV.int .i64 h]).length), (6, .sl .full 1 (l.map fun h => [.int .i64 h])), (3, .int .i64 0)], []⟩)
    (fun i => i ≤ l.length ∧ orS l = orS (l.drop i)) (fun i => l.length - i) 0 ⟨Nat.zero_le _, rfl⟩ (St.le.of ?_ ?_) (fun i hi => ?_)
  · repeat' (first | exact trivial | refine And.intro rfl ?_)
  · repeat' (first | exact trivial | refine And.intro rfl ?_)
  · obtain ⟨hi, hor⟩ := hi
    have hx : decide ((i : Int) < ((l.map fun h => [AV.int .i64 h]).length : Int)) = true → (l.map fun h => [AV.int .i64 h])[(i : Int).toNat]? = some [AV.int .i64 (l.getD i 0)] := fun h => by
      have h2 : i < l.length := by have := of_decide_eq_true h; simp at this; omega
      simp [List.getElem?_eq_getElem h2]
    have hd : decide ((i : Int) < ((l.map fun h => [AV.int .i64 h]).length : Int)) = true → i < l.length ∧ orS l = if l.getD i 0 ≠ 0 then l.getD i 0 else orS (l.drop (i + 1)) := fun h => by
      have h2 : i < l.length := by have := of_decide_eq_true h; simp at this; omega
      refine ⟨h2, ?_⟩
      rw [hor, List.drop_eq_getElem_cons h2, orS]
      simp [List.getD_eq_getElem?_getD, List.getElem?_eq_getElem h2]
    repeat' first
      | refine SPB.seq ?_
      | refine SPB.block ?_
      | refine SPB.draw hG Try.TT_ok Try.keep54 (by kernel_rfl) ?_
      | refine SPB.reg hG Try.TT_ok Try.keep54 (by kernel_rfl) ?_
      | refine SPB.skip hG Try.TT_ok ?_
      | refine SPB.label hG Try.TT_ok ?_
      | refine SPB.ret hG Try.TT_ok ?_
      | refine SPB.exit hG Try.TT_ok ?_
      | refine SPB.condT rfl ?_
      | refine SPB.condF rfl ?_
      | refine SPB.cond rfl (And.intro (fun h => ?_) (fun h => ?_))
      | (conv => whnf
         first
           | refine And.intro (fun h => Bool.noConfusion (h : false = true)) (fun _ => ?_)
           | refine And.intro (fun _ => ?_) (fun h => Bool.noConfusion (h : true = false))
           | refine And.intro (by kernel_rfl) ?_
           | refine And.intro (Int.natCast_nonneg i) (Exists.intro [AV.int .i64 (l.getD i 0)] (And.intro (hx (by assumption)) ?_))
           | refine And.intro (fun h => ?_) (fun h => ?_)
           | refine Or.inl ?_
           | fail)
    · have h1 := hd (by assumption)
      refine Ends.mk (Or.inl rfl) (AV.weak.of_eq (congrArg (AV.int .i64) ?_))
      rw [h1.2, if_pos (by simpa using (by assumption : (l.getD i 0 != 0) = true))]
    · have h1 := hd (by assumption)
      refine Exists.intro (i + 1) (And.intro ⟨h1.1, ?_⟩ (And.intro (by omega) (St.le.of ?_ ?_)))
      · rw [h1.2, if_neg (by simpa using (by assumption : (l.getD i 0 != 0) = false))]
      · refine And.intro (congrArg some (le_next (by omega))) ?_
        repeat' (first | exact trivial | refine And.intro rfl ?_)
      · repeat' (first | exact trivial | refine And.intro rfl ?_)
    · have : l.length ≤ i := by have := of_decide_eq_false (by assumption : decide ((i : Int) < ((l.map fun h => [AV.int .i64 h]).length : Int)) = false); simp at this; omega
      refine Ends.mk (Or.inl rfl) (AV.weak.of_eq (congrArg (AV.int .i64) ?_))
      rw [hor, List.drop_of_length_le this]; rfl
def cmpC (a b : Int × Int) : Int := orS [cmpI a.2 b.2, cmpI a.1 b.1]
theorem Try.c53 (a b : Int × Int) : ACalls Try.prog 53 [.agg [.int .i64 a.1, .int .i64 a.2], .agg [.int .i64 b.1, .int .i64 b.2]] (.int .i64 (cmpC a b)) := by
  refine ACalls.ofB Try.TT_ok Try.func53 rfl (by kernel_rfl) Try.mixed (Nat.le_of_ble_eq_true rfl) ?_
  intro F n' w0 m0 hG hro h1
  repeat' first
    | refine SPB.seq ?_
    | refine SPB.block ?_
    | refine SPB.draw hG Try.TT_ok Try.keep53 (by kernel_rfl) ?_
    | refine SPB.reg hG Try.TT_ok Try.keep53 (by kernel_rfl) ?_
    | refine SPB.skip hG Try.TT_ok ?_
    | refine SPB.label hG Try.TT_ok ?_
    | refine SPB.ret hG Try.TT_ok ?_
    | refine SPB.exit hG Try.TT_ok ?_
    | refine SPB.condT rfl ?_
    | refine SPB.condF rfl ?_
    | refine SPB.cond rfl (And.intro (fun h => ?_) (fun h => ?_))
    | (conv => whnf
       first
         | refine And.intro (fun h => Bool.noConfusion (h : false = true)) (fun _ => ?_)
         | refine And.intro (fun _ => ?_) (fun h => Bool.noConfusion (h : true = false))
         | refine And.intro (by kernel_rfl) ?_
         | refine And.intro (fun h => ?_) (fun h => ?_)
         | refine Or.inl ?_
         | fail)
  conv => whnf
  refine Exists.intro _ (And.intro (Try.c55 _ _) ?_)
  repeat' first
    | refine SPB.seq ?_
    | refine SPB.block ?_
    | refine SPB.draw hG Try.TT_ok Try.keep53 (by kernel_rfl) ?_
    | refine SPB.reg hG Try.TT_ok Try.keep53 (by kernel_rfl) ?_
    | refine SPB.skip hG Try.TT_ok ?_
    | refine SPB.label hG Try.TT_ok ?_
    | refine SPB.ret hG Try.TT_ok ?_
    | refine SPB.exit hG Try.TT_ok ?_
    | refine SPB.condT rfl ?_
    | refine SPB.condF rfl ?_
    | refine SPB.cond rfl (And.intro (fun h => ?_) (fun h => ?_))
    | (conv => whnf
       first
         | refine And.intro (fun h => Bool.noConfusion (h : false = true)) (fun _ => ?_)
         | refine And.intro (fun _ => ?_) (fun h => Bool.noConfusion (h : true = false))
         | refine And.intro (by kernel_rfl) ?_
         | refine And.intro (fun h => ?_) (fun h => ?_)
         | refine Or.inl ?_
         | fail)
  conv => whnf
  refine Exists.intro _ (And.intro (Try.c55 _ _) ?_)
  repeat' first
    | refine SPB.seq ?_
    | refine SPB.block ?_
    | refine SPB.draw hG Try.TT_ok Try.keep53 (by kernel_rfl) ?_
    | refine SPB.reg hG Try.TT_ok Try.keep53 (by kernel_rfl) ?_
    | refine SPB.skip hG Try.TT_ok ?_
    | refine SPB.label hG Try.TT_ok ?_
    | refine SPB.ret hG Try.TT_ok ?_
    | refine SPB.exit hG Try.TT_ok ?_
    | refine SPB.condT rfl ?_
    | refine SPB.condF rfl ?_
    | refine SPB.cond rfl (And.intro (fun h => ?_) (fun h => ?_))
    | (conv => whnf
       first
         | refine And.intro (fun h => Bool.noConfusion (h : false = true)) (fun _ => ?_)
         | refine And.intro (fun _ => ?_) (fun h => Bool.noConfusion (h : true = false))
         | refine And.intro (by kernel_rfl) ?_
         | refine And.intro (fun h => ?_) (fun h => ?_)
         | refine Or.inl ?_
         | fail)
  conv => whnf
  refine Exists.intro _ (And.intro (Try.c54 [cmpI a.2 b.2, cmpI a.1 b.1] (Nat.le_of_ble_eq_true rfl)) ?_)
  repeat' first
    | refine SPB.seq ?_
    | refine SPB.block ?_
    | refine SPB.draw hG Try.TT_ok Try.keep53 (by kernel_rfl) ?_
    | refine SPB.reg hG Try.TT_ok Try.keep53 (by kernel_rfl) ?_
    | refine SPB.skip hG Try.TT_ok ?_
    | refine SPB.label hG Try.TT_ok ?_
    | refine SPB.ret hG Try.TT_ok ?_
    | refine SPB.exit hG Try.TT_ok ?_
    | refine SPB.condT rfl ?_
    | refine SPB.condF rfl ?_
    | refine SPB.cond rfl (And.intro (fun h => ?_) (fun h => ?_))
    | (conv => whnf
       first
         | refine And.intro (fun h => Bool.noConfusion (h : false = true)) (fun _ => ?_)
         | refine And.intro (fun _ => ?_) (fun h => Bool.noConfusion (h : true = false))
         | refine And.intro (by kernel_rfl) ?_
         | refine And.intro (fun h => ?_) (fun h => ?_)
         | refine Or.inl ?_
         | fail)
  all_goals exact Ends.mk (Or.inl rfl) (AV.weak.of_eq rfl)
end Go.Proofs


namespace Go.Proofs
open Go Go.Shelf
def Try.sortC_ren : Go.Shelf.Ren := ⟨fun | 6 => 74 | 15 => 93 | 14 => 92 | 28 => 111 | 29 => 112 | 20 => 103 | 21 => 104 | 22 => 105 | 23 => 106 | 24 => 107 | 25 => 108 | 26 => 109 | 27 => 110 | 46 => 118 | 47 => 119 | 48 => 120 | 49 => 121 | 50 => 122 | 57 => 123 | n => n, fun | 22 => 41 | 24 => 38 | 25 => 87 | 3 => 3 | 39 => 124 | 0 => 0 | 53 => 144 | 55 => 146 | 4 => 4 | 46 => 137 | 45 => 136 | 50 => 141 | 5 => 5 | 9 => 9 | 66 => 149 | 70 => 153 | 76 => 155 | 77 => 156 | n => n, fun | n => n⟩
theorem Try.sortC : Go.Proofs.SlLaysF0.n6 Try.prog Try.sortC_ren where
  mixed := by kernel_rfl
  f6 := ⟨Try.f74.name, by kernel_rfl, Try.func74.trans (congrArg some (by kernel_rfl))⟩
  f14 := ⟨Try.f92.name, by kernel_rfl, Try.func92.trans (congrArg some (by kernel_rfl))⟩
  f15 := Try.func93.trans (congrArg some (by kernel_rfl))
  f20 := ⟨Try.f103.name, by kernel_rfl, Try.func103.trans (congrArg some (by kernel_rfl))⟩
  f21 := ⟨Try.f104.name, by kernel_rfl, Try.func104.trans (congrArg some (by kernel_rfl))⟩
  f22 := ⟨Try.f105.name, by kernel_rfl, Try.func105.trans (congrArg some (by kernel_rfl))⟩
  f23 := ⟨Try.f106.name, by kernel_rfl, Try.func106.trans (congrArg some (by kernel_rfl))⟩
  f24 := ⟨Try.f107.name, by kernel_rfl, Try.func107.trans (congrArg some (by kernel_rfl))⟩
  f25 := ⟨Try.f108.name, by kernel_rfl, Try.func108.trans (congrArg some (by kernel_rfl))⟩
  f26 := ⟨Try.f109.name, by kernel_rfl, Try.func109.trans (congrArg some (by kernel_rfl))⟩
  f27 := ⟨Try.f110.name, by kernel_rfl, Try.func110.trans (congrArg some (by kernel_rfl))⟩
  f28 := Try.func111.trans (congrArg some (by kernel_rfl))
  f29 := Try.func112.trans (congrArg some (by kernel_rfl))
  f46 := ⟨Try.f118.name, by kernel_rfl, Try.func118.trans (congrArg some (by kernel_rfl))⟩
  f47 := Try.func119.trans (congrArg some (by kernel_rfl))
  f48 := Try.func120.trans (congrArg some (by kernel_rfl))
  f49 := ⟨Try.f121.name, by kernel_rfl, Try.func121.trans (congrArg some (by kernel_rfl))⟩
  f50 := ⟨Try.f122.name, by kernel_rfl, Try.func122.trans (congrArg some (by kernel_rfl))⟩
  f57 := ⟨Try.f123.name, by kernel_rfl, Try.func123.trans (congrArg some (by kernel_rfl))⟩
  t0 := Try.underlying0
  a0 := Try.isAgg0
  z0 := Try.sizeOf0
  v0 := Try.zeroValue0
  t3 := Try.underlying3
  a3 := Try.isAgg3
  z3 := Try.sizeOf3
  v3 := Try.zeroValue3
  t4 := Try.underlying4
  a4 := Try.isAgg4
  z4 := Try.sizeOf4
  v4 := Try.zeroValue4
  t5 := Try.underlying5
  a5 := Try.isAgg5
  z5 := Try.sizeOf5
  v5 := Try.zeroValue5
  t9 := Try.underlying9
  a9 := Try.isAgg9
  z9 := Try.sizeOf9
  v9 := Try.zeroValue9
  t22 := Try.underlying41
  a22 := Try.isAgg41
  z22 := Try.sizeOf41
  v22 := Try.zeroValue41
  t25 := Try.underlying87
  a25 := Try.isAgg87
  z25 := Try.sizeOf87
  v25 := Try.zeroValue87
  t39 := Try.underlying124
  a39 := Try.isAgg124
  z39 := Try.sizeOf124
  v39 := Try.zeroValue124
  t45 := Try.underlying136
  a45 := Try.isAgg136
  z45 := Try.sizeOf136
  v45 := Try.zeroValue136
  t46 := Try.underlying137
  a46 := Try.isAgg137
  z46 := Try.sizeOf137
  v46 := Try.zeroValue137
  t50 := Try.underlying141
  a50 := Try.isAgg141
  z50 := Try.sizeOf141
  v50 := Try.zeroValue141
  t53 := Try.underlying144
  a53 := Try.isAgg144
  z53 := Try.sizeOf144
  v53 := Try.zeroValue144
  t55 := Try.underlying146
  a55 := Try.isAgg146
  z55 := Try.sizeOf146
  v55 := Try.zeroValue146
  t66 := Try.underlying149
  a66 := Try.isAgg149
  z66 := Try.sizeOf149
  v66 := Try.zeroValue149
  t70 := Try.underlying153
  a70 := Try.isAgg153
  z70 := Try.sizeOf153
  v70 := Try.zeroValue153
  t76 := Try.underlying155
  a76 := Try.isAgg155
  z76 := Try.sizeOf155
  v76 := Try.zeroValue155
  t77 := Try.underlying156
  a77 := Try.isAgg156
  z77 := Try.sizeOf156
  v77 := Try.zeroValue156
end Go.Proofs


namespace Go.Proofs
open Go Go.AI
open Go.RowKit (Below)
set_option maxRecDepth 10000
/-- The order of cells: by rows, then by columns. -/
def ltC (a b : Int × Int) : Bool := decide (a.2 < b.2) || (decide (a.2 = b.2) && decide (a.1 < b.1))
theorem cmpC_lt (a b : Int × Int) : ltOf cmpC a b = ltC a b := by
  unfold ltOf ltC cmpC
  rw [Bool.eq_iff_iff]
  simp only [orS, cmpI, Bool.or_eq_true, Bool.and_eq_true, decide_eq_true_eq]
  by_cases h1 : a.2 < b.2 <;> by_cases h2 : b.2 < a.2 <;> by_cases h3 : a.1 < b.1 <;> by_cases h4 : b.1 < a.1 <;> simp [h1, h2, h3, h4] <;> omega
theorem ltC_swo : Sort.SWO (ltOf cmpC) where
  irrefl x := by rw [cmpC_lt]; simp [ltC]
  trans x y z h1 h2 := by rw [cmpC_lt] at *; simp only [ltC, Bool.or_eq_true, Bool.and_eq_true, decide_eq_true_eq] at *; omega
  ntrans x y z h1 h2 := by
    rw [cmpC_lt] at *
    simp only [ltC, Bool.or_eq_false_iff, Bool.and_eq_false_iff, decide_eq_false_iff_not] at *
    omega
theorem ltC_total {a b : Int × Int} (h1 : ltC a b = false) (h2 : ltC b a = false) : a = b := by
  simp only [ltC, Bool.or_eq_false_iff, Bool.and_eq_false_iff, decide_eq_false_iff_not] at *
  exact Prod.ext (by omega) (by omega)
/-- Cells in their order. -/
def ordC (l : List (Int × Int)) : List (Int × Int) := l.mergeSort fun a b => !ltC b a
theorem sorted_unique : ∀ {l k : List (Int × Int)}, l.Perm k → l.Pairwise (fun a b => ltC b a = false) → k.Pairwise (fun a b => ltC b a = false) → l = k
  | [], k, hp, _, _ => (List.nil_perm.1 hp).symm
  | a :: l, [], hp, _, _ => by have := hp.length_eq; simp at this
  | a :: l, b :: k, hp, h1, h2 => by
    obtain ⟨p1, p2⟩ := List.pairwise_cons.1 h1
    obtain ⟨q1, q2⟩ := List.pairwise_cons.1 h2
    have hab : a = b := by
      have ha : a ∈ b :: k := hp.mem_iff.1 List.mem_cons_self
      have hb : b ∈ a :: l := hp.mem_iff.2 List.mem_cons_self
      rcases List.mem_cons.1 ha with h | ha
      · exact h
      rcases List.mem_cons.1 hb with h | hb
      · exact h.symm
      exact ltC_total (q1 a ha) (p1 b hb)
    subst hab
    rw [sorted_unique ((List.perm_cons a).1 hp) p2 q2]
theorem ordC_sorted (l : List (Int × Int)) : (ordC l).Pairwise fun a b => ltC b a = false := by
  have h := List.pairwise_mergeSort (le := fun a b => !ltC b a) (fun a b c h1 h2 => by
    simp only [Bool.not_eq_true'] at *
    simp only [ltC, Bool.or_eq_false_iff, Bool.and_eq_false_iff, decide_eq_false_iff_not] at *
    omega) (fun a b => by
    simp only [Bool.or_eq_true, Bool.not_eq_true']
    simp only [ltC, Bool.or_eq_false_iff, Bool.and_eq_false_iff, decide_eq_false_iff_not] at *
    omega) l
  exact h.imp fun h => by simpa using h
theorem ordC_eq {l k : List (Int × Int)} (hp : k.Perm l) (h : k.Pairwise fun a b => ltC b a = false) : k = ordC l :=
  sorted_unique (hp.trans (List.mergeSort_perm l _).symm) h (ordC_sorted l)

/-- slices.Collect over a map's keys. -/
theorem Try.r73 (l : List (Int × Int)) (hl : l.length ≤ 1000000) {m : Mem} {w : World} {v : Value} (hm : m.sub w) (hv : RD m (.clo 75 [.ref [.mapv (rowsK (cellsK l))]]) v) :
    Calls Try.prog 73 #[v] w fun e w' => ∃ p : List (Int × Int), p.Perm l ∧ ∃ u m', e = .returned u ∧ RD m' (cellsA p) u ∧ m.le m' ∧ Mem.sub m' w' ∧ Below w.heap.size w w' ∧ m.News w.heap.size m' w' ∧ More w w' := by
  have hc : Calls Try.prog 91 #[.slice none 0 0, v] w fun e w' => ∃ u, e = .returned u ∧ ∃ p : List (Int × Int), p.Perm l ∧ ∃ m', RD m' (cellsA p) u ∧ m.le m' ∧ Mem.sub m' w' ∧ Below w.heap.size w w' ∧ m.News w.heap.size m' w' ∧ More w w' := by
    have h := (Try.n91 l hl).runs m w [.slice none 0 0, v] hm rfl (fun i a u h1 h2 => by
      match i, h1, h2 with
      | 0, h1, h2 => cases h1; cases h2; exact .sl _ _ _ _ _ _ (by intro k hk; cases hk) (fun _ => rfl) rfl (Nat.le_refl _) (by simp) (by simp) 0 0 (by omega) (fun _ _ => Go.undef) (by simp) (by simp)
      | 1, h1, h2 => cases h1; cases h2; exact hv)
    refine Calls.mono h ?_
    rintro e w' ⟨r, ⟨p, hp, rfl⟩, u, m', h1, h2⟩
    exact ⟨u, h1, p, hp, m', h2⟩
  go_enter Try.func73, Try.ntmps73
  go_wp2_with (go_at_call 91; refine hc.mono ?_; rintro e w' ⟨u, rfl, p, hp, m', h1⟩)
  go_ret
  exact ⟨p, hp, u, m', rfl, h1⟩

theorem encC (x : Int × Int) (j : Nat) (hj : j < 2) : ∃ n, (encR c2 x)[j]! = .int .i64 n ∧ (cellA x)[j]? = some (.int .i64 n) := by
  match j, hj with
  | 0, _ => exact ⟨x.1, rfl, rfl⟩
  | 1, _ => exact ⟨x.2, rfl, rfl⟩
/-- slices.SortFunc at cells, in the order of Could. -/
theorem Try.r74 (l : List (Int × Int)) (blk off cap : Nat) (w : World) (hcell : ∀ (i : Nat) (x : Int × Int) (j : Nat), l[i]? = some x → j < 2 → w.cell? ⟨blk, off + (i * 2 + j), none⟩ = some ((encR c2 x)[j]!)) (hs : softB w blk) (hsz : l.length ≤ 1000000) :
    Calls Try.prog 74 #[.slice (some ⟨blk, off, none⟩) l.length cap, .func (.func 53) #[] #[]] w fun e w2 => e = .returned (.tuple #[]) ∧ ∃ l', Sorted c2 2 ltC l l' blk off w w2 := by
  have h := sort_row c2 2 cmpC Try.sortC (fun _ => rfl) Try.isAgg38 Try.sizeOf38 ltC_swo (g := 53) (fun x y => Try.c53 x y) (Try.c53 (0, 0) (0, 0)).enters l blk off cap w hcell hs (by omega)
  refine Calls.mono h ?_
  rintro e w2 ⟨h1, l', h2⟩
  refine ⟨h1, l', h2.perm, h2.sorted.imp fun {x y} h => by rw [cmpC_lt] at h; exact h, h2.cell, h2.other, h2.soft, h2.os, h2.tape, h2.output, h2.size, h2.more⟩

set_option maxHeartbeats 1000000 in
/-- slices.SortedFunc over a map's keys. -/
theorem Try.c56 (l : List (Int × Int)) (h0 : l ≠ []) (hl : l.length ≤ 1000000) : ACalls Try.prog 56 [.clo 75 [.ref [.mapv (rowsK (cellsK l))]], .fn 53] (cellsA (ordC l)) := by
  refine ⟨enters_of Try.func56 (by kernel_rfl) rfl, fun m w vs hm hlen hr => ?_⟩
  obtain ⟨v, u0, rfl⟩ : ∃ v u0, vs = [v, u0] := by
    match vs, hlen with
    | [v, u0], _ => exact ⟨v, u0, rfl⟩
  have hv := hr 0 _ v rfl rfl
  have hu := hr 1 _ u0 rfl rfl
  have hu0 : u0 = .func (.func 53) #[] #[] := by cases hu; rfl
  subst hu0
  -- the least memory that is read
  obtain ⟨m0, hm0, hv0, hints⟩ : ∃ m0 : Mem, m0.sub w ∧ RD m0 (.clo 75 [.ref [.mapv (rowsK (cellsK l))]]) v ∧ ∀ b o n, m0 b o ≠ some (.int .i64 n) := by
    cases hv with
    | clo _ _ us hl1 hr1 =>
      have h1 : us.size = 1 := by simpa using hl1.symm
      obtain ⟨p, hp⟩ : ∃ p, us = #[p] := Array.size_eq_one_iff.1 h1
      subst hp
      have h2 := hr1 0 _ p rfl rfl
      cases h2 with
      | ref cs pb po hc g hg hr' =>
        have h3 := hr' 0 _ rfl
        have h4 := hg 0 _ rfl
        generalize g 0 = z at h3 h4
        cases h3 with
        | mapv xs b es clock hmb hb hl' h2' hk hv' =>
          refine ⟨⟨fun b' o => if b' = pb ∧ o = po then some (.map (some b)) else none, fun b' => if b' = b then some (es, clock) else none⟩, ⟨fun b' o x hx => ?_, fun b' x hx => ?_⟩, ?_, fun b' o n h => ?_⟩
          · simp only at hx
            split at hx
            · rename_i h
              cases hx
              rw [h.1, h.2]
              exact hm.cell pb po _ (by simpa using h4)
            · cases hx
          · simp only at hx
            split at hx
            · rename_i h
              cases hx
              rw [h]
              exact hm.map b _ hmb
            · cases hx
          · refine .clo _ _ _ rfl fun i a z h5 h6 => ?_
            match i, h5, h6 with
            | 0, h5, h6 =>
              cases h5; cases h6
              refine .ref _ pb po (by simp [AV.isCell]) (fun _ => .map (some b)) (fun i c hi => ?_) (fun i c hi => ?_)
              · match i, hi with
                | 0, hi => exact if_pos ⟨rfl, rfl⟩
              · match i, hi with
                | 0, hi =>
                  cases hi
                  refine .mapv _ b es clock (if_pos rfl) hb hl' h2' (fun i x e k q1 q2 q3 => ?_) (fun i x e k q1 q2 q3 => ?_)
                  · have h7 := hk i x e k q1 q2 q3
                    obtain ⟨p, p1, rfl⟩ := rowsK_get q1
                    simp only [List.getElem?_cons_zero, Option.some.injEq] at q3
                    subst q3
                    rw [h7.keyA]
                    exact RD.ints _ _
                  · have h7 := hv' i x e k q1 q2 q3
                    obtain ⟨p, p1, rfl⟩ := rowsK_get q1
                    simp only [List.getElem?_cons_succ, List.getElem?_cons_zero, Option.some.injEq] at q3
                    subst q3
                    simp only [cellsK, List.getElem?_map, Option.map_eq_some_iff] at p1
                    obtain ⟨_, _, rfl⟩ := p1
                    have h8 : e.val = .bool true := by
                      have h7 : RD m (.bool true) e.val := h7
                      generalize e.val = z at h7
                      cases h7; rfl
                    rw [h8]
                    exact .bool true
          · simp only at h
            split at h
            · cases h
            · cases h
  have hc := Try.r73 l hl hm0 hv0
  have hcol : Calls Try.prog 73 #[v] w fun e w1 => ∃ (p : List (Int × Int)) (bb off cap : Nat), p.Perm l ∧ e = .returned (.slice (some ⟨bb, off, none⟩) p.length cap) ∧ p.length ≤ cap ∧ (∀ (i : Nat) (x : Int × Int) (j : Nat), p[i]? = some x → j < 2 → w1.cell? ⟨bb, off + (i * 2 + j), none⟩ = some ((encR c2 x)[j]!)) ∧ softB w1 bb ∧ w.heap.size ≤ bb ∧ Below w.heap.size w w1 ∧ More w w1 := by
    refine Calls.mono hc ?_
    rintro e w1 ⟨p, hp, u, m', rfl, h1, h2, h3, h4, h5, h6⟩
    cases h1 with
    | sl _ _ _ base len cap ho hf hl1 hcap hsz hcell bb off hb g hg hr' =>
      simp only [List.length_map] at hl1
      subst hl1
      have hpos : 0 < p.length := by
        rw [hp.length_eq]
        exact List.length_pos_iff.2 h0
      have hbase := hb hpos
      subst hbase
      have hx0 : (p.map cellA)[0]? = some (cellA p[0]) := by simp [List.getElem?_eq_getElem hpos]
      have g0 := hg 0 _ 0 _ hx0 rfl
      have r0 := hr' 0 _ 0 _ hx0 rfl
      have hfresh : w.heap.size ≤ bb ∧ softB w1 bb := by
        rcases h5.cell _ _ _ g0 with h | h
        · exact absurd (by rw [h, r0.int_eq]) (hints _ _ (p[0]).1)
        · exact h
      refine ⟨p, bb, off, cap, hp, rfl, hcap, fun i x j hx hj => ?_, hfresh.2, hfresh.1, h4, h6⟩
      have hxi : (p.map cellA)[i]? = some (cellA x) := by rw [List.getElem?_map, hx]; rfl
      obtain ⟨n, e1, e2⟩ := encC x j hj
      have g1 := hg i _ j _ hxi e2
      rw [(hr' i _ j _ hxi e2).int_eq] at g1
      rw [e1, ← h3.cell _ _ _ g1, Nat.add_assoc]
  have hsort := fun (p : List (Int × Int)) (bb off cap : Nat) (w1 : World) (hp : p.Perm l) h hs => Try.r74 p bb off cap w1 h hs (by rw [hp.length_eq]; exact hl)
  have hgo : Calls Try.prog 56 #[v, .func (.func 53) #[] #[]] w fun e w2 => ∃ (w1 : World) (p : List (Int × Int)) (bb off cap : Nat), p.Perm l ∧ e = .returned (.slice (some ⟨bb, off, none⟩) p.length cap) ∧ p.length ≤ cap ∧ w.heap.size ≤ bb ∧ Below w.heap.size w w1 ∧ More w w1 ∧ softB w1 bb ∧ ∃ l', Sorted c2 2 ltC p l' bb off w1 w2 := by
    clear hr hlen hc hv hv0
    go_enter Try.func56, Try.ntmps56
    go_wp2_with (first | (go_at_call 73; refine hcol.mono ?_; rintro e w1 ⟨p, bb, off, cap, hp, rfl, hcap, hcell, hsoft, hbb, hbel, hmore⟩) | (go_at_call 74; refine (hsort p bb off cap _ hp hcell hsoft).mono ?_; rintro e w2 ⟨rfl, l', hS⟩))
    go_ret
    exact ⟨_, p, bb, off, cap, hp, rfl, hcap, hbb, hbel, hmore, hsoft, l', hS⟩
  refine Calls.mono hgo ?_
  rintro e w2 ⟨w1, p, bb, off, cap, hp, rfl, hcap, hbb, hbel, hmore, hsoft, l', hS⟩
  have hl' : l' = ordC l := ordC_eq (hS.perm.trans hp) hS.sorted
  subst hl'
  have hlen' : (ordC l).length = p.length := hS.perm.length_eq
  have hblt : ∀ b o x, m b o = some x → b < w.heap.size := fun b o x h => by
    have h1 := hm.cell b o x h
    unfold World.cell? at h1
    split at h1
    · exact (Array.getElem?_eq_some_iff.1 ‹_›).1
    · cases h1
  have hkeep : ∀ b, b < w.heap.size → w2.heap[b]? = w.heap[b]? := fun b hb =>
    (hS.other b (by omega) (Nat.lt_of_lt_of_le hb hbel.size)).trans (hbel.block b hb)
  refine ⟨_, ⟨fun b o => if b = bb then w2.cell? ⟨bb, o, none⟩ else m b o, m.maps⟩, rfl, ?_, ⟨fun b o x h => ?_, fun _ _ h => h⟩, ⟨fun b o x h => ?_, fun b x h => (hkeep b (Array.getElem?_eq_some_iff.1 (hm.map b x h)).1).trans (hm.map b x h)⟩, ⟨hS.os.trans hbel.os, hS.tape.trans hbel.tape, hS.output.trans hbel.output, Nat.le_trans hbel.size hS.size, fun b hb => hkeep b hb⟩, ⟨fun b o x h => ?_, fun b x h => .inl h⟩, hmore.trans hS.more⟩
  · have hget : ∀ (i : Nat) (r : List AV) (j : Nat) (c : AV), ((ordC l).map cellA)[i]? = some r → r[j]? = some c → ∃ n, c = .int .i64 n ∧ w2.cell? ⟨bb, off + i * 2 + j, none⟩ = some (.int .i64 n) := fun i r j c h1 h2 => by
      rw [List.getElem?_map, Option.map_eq_some_iff] at h1
      obtain ⟨x, hx, rfl⟩ := h1
      have hj : j < 2 := by have := (List.getElem?_eq_some_iff.1 h2).1; simpa [cellA] using this
      obtain ⟨n, e1, e2⟩ := encC x j hj
      rw [h2] at e2
      cases e2
      exact ⟨n, rfl, by rw [Nat.add_assoc, hS.cell i x j hx hj, e1]⟩
    refine .sl _ _ _ _ _ _ (by intro k hk; cases hk) (by intro hk; cases hk) (by simpa using hlen') hcap (fun r hr => ?_) (fun r hr c hc => ?_) bb off (fun _ => rfl) (fun i j => (w2.cell? ⟨bb, off + i * 2 + j, none⟩).getD Go.undef) (fun i r j c h1 h2 => ?_) (fun i r j c h1 h2 => ?_)
    · obtain ⟨x, _, rfl⟩ := List.mem_map.1 hr; rfl
    · obtain ⟨x, _, rfl⟩ := List.mem_map.1 hr
      simp only [cellA, List.mem_cons, List.not_mem_nil, or_false] at hc
      rcases hc with rfl | rfl <;> rfl
    · obtain ⟨n, rfl, h3⟩ := hget i r j c h1 h2
      show (if bb = bb then _ else _) = _
      rw [if_pos rfl, h3]; rfl
    · obtain ⟨n, rfl, h3⟩ := hget i r j c h1 h2
      rw [h3]
      exact .int _ _
  · show (if _ then _ else _) = _
    have := hblt b o x h
    rw [if_neg (by omega)]; exact h
  · simp only at h
    split at h
    · rename_i hb; rw [hb]; exact h
    · have := hblt b o x h
      have h1 := hm.cell b o x h
      simp only [World.cell?] at h1 ⊢
      rw [hkeep b this]; exact h1
  · simp only at h
    split at h
    · rename_i hb; exact .inr ⟨by omega, by rw [hb]; exact hS.soft⟩
    · exact .inl h
end Go.Proofs


