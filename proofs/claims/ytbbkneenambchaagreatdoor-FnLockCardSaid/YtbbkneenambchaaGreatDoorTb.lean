/- The evaluator over this program. Pieces: what a call by itself gives. The text of the functions is in order. The function 'big' says whether a slice has more than 1048576 elements. The top of a law: a function 'big' that is known. Conditions: none. -/
import Derived.Test.YtbbkneenambchaaGreatDoorFf
import Derived.Test.YtbbkneenambchaaGreatDoorShelf
import Derived.Test.YtbbkneenambchaaGreatDoorProg
import Derived.Test.YtbbkneenambchaaGreatDoorFc
import Derived.WalkKit

namespace Go.Fs
open Go Go.Proofs
set_option maxRecDepth 100000
noncomputable section
def tab64 : List Nat := [0, 1, 56, 2, 57, 49, 28, 3, 61, 58, 42, 50, 38, 29, 17, 4, 62, 47, 59, 36, 45, 43, 51, 22, 53, 39, 33, 30, 24, 18, 12, 5, 63, 55, 48, 27, 60, 41, 37, 16, 46, 35, 44, 21, 52, 32, 23, 11, 54, 26, 40, 15, 34, 20, 31, 10, 25, 14, 19, 9, 13, 8, 7, 6]
/-- The known variables: MaxLen, which is some number, and deBruijn64tab. -/
def glob (m : Int) (g : Nat) : Option (List FV) := @Bool.rec (fun _ => Option (List FV)) (@Bool.rec (fun _ => Option (List FV)) none (some (tab64.map fun n => .int .u8 (.ofNat n))) (Nat.beq g 2)) (some [.int .i64 m]) (Nat.beq g 0)
def ordL : List (Nat × List (Nat × Nat)) := [
(7013, [(0, 0), (1, 0), (2, 3), (3, 0), (4, 0), (5, 0), (6, 0), (7, 0), (8, 4), (9, 0), (10, 0), (11, 0), (12, 0)]),
(16011, [(0, 0), (1, 0), (2, 0), (3, 0), (4, 0), (5, 0), (6, 3), (7, 0), (8, 0), (9, 3), (10, 0), (11, 0), (12, 4), (13, 0)]),
(19007, [(2, 0), (3, 0), (4, 0), (6, 0), (7, 0), (8, 0), (0, 0), (5, 3), (9, 3), (1, 4), (10, 0), (11, 0), (12, 0)]),
(33004, [(0, 3), (1, 0), (2, 0), (3, 0), (4, 0), (5, 0), (6, 0), (7, 0), (8, 0), (9, 0), (10, 4), (11, 0), (12, 0), (13, 0), (14, 0)]),
(33007, [(6, 0), (7, 0), (8, 0), (11, 0), (12, 0), (13, 0), (0, 3), (1, 3), (2, 0), (3, 0), (4, 0), (5, 3), (9, 0), (14, 3), (10, 4), (15, 4), (16, 0), (17, 0), (18, 4), (19, 0), (20, 0), (21, 0), (22, 0)]),
(33018, [(0, 0), (1, 3), (2, 0), (3, 0), (4, 4), (5, 0), (6, 0), (7, 0), (8, 0)]),
(33022, [(0, 3), (1, 0), (2, 0), (3, 3), (4, 0), (5, 0), (6, 0), (7, 0), (8, 0), (9, 0), (10, 0), (11, 0), (12, 0), (13, 0), (14, 0), (15, 4), (16, 0), (17, 0), (18, 0)]),
(33033, [(0, 3), (1, 0), (2, 0), (3, 0), (4, 0), (5, 0), (6, 0), (7, 4), (8, 0), (9, 0), (10, 0)]),
(38004, [(0, 0), (1, 3), (2, 0), (3, 0), (4, 0), (5, 0), (6, 0), (7, 0), (8, 0), (9, 4), (10, 0), (11, 0)]),
(51001, [(0, 3), (1, 0), (2, 0), (3, 4), (4, 0), (5, 0), (6, 0), (7, 0)]),
(51005, [(0, 0), (1, 0), (2, 0), (3, 3), (4, 0), (5, 4), (6, 0), (7, 0)]),
(52024, [(0, 3), (1, 0), (2, 4), (3, 0), (4, 0)]),
(55001, [(0, 0), (3, 0), (6, 0), (1, 0), (4, 3), (7, 3), (2, 4), (5, 4), (8, 0), (9, 0), (10, 0)]),
(83012, [(0, 0), (1, 0), (2, 0), (3, 0), (4, 0), (5, 0), (8, 0), (9, 0), (11, 0), (6, 0), (10, 3), (7, 4), (12, 0), (13, 0), (14, 0), (15, 0), (16, 0), (17, 0), (18, 0), (19, 0), (21, 0), (20, 0), (22, 0), (23, 0), (24, 0), (25, 0), (26, 0), (27, 0), (28, 0), (29, 0), (30, 0), (31, 0), (32, 0), (33, 0), (34, 0), (35, 0), (36, 0), (37, 0), (38, 0), (39, 0), (40, 0), (41, 0), (43, 0), (44, 0), (42, 0), (45, 0), (46, 0), (47, 0), (48, 0), (49, 0), (50, 0), (51, 0)]),
(89001, [(0, 0), (2, 0), (5, 0), (7, 0), (10, 0), (12, 0), (1, 0), (3, 0), (6, 3), (8, 3), (11, 3), (13, 3), (4, 4), (9, 4), (14, 0), (15, 0), (16, 0), (17, 0)]),
(94001, [(0, 0), (1, 0), (2, 0), (3, 0), (4, 0), (5, 0), (6, 0), (7, 0), (8, 0), (9, 0), (10, 0), (11, 0), (12, 0), (13, 0), (14, 0), (17, 0), (18, 0), (15, 0), (19, 3), (16, 4), (20, 0), (21, 0), (22, 0), (23, 0), (24, 0), (25, 0), (26, 0), (27, 0), (28, 0), (29, 0), (30, 0), (31, 0), (32, 0), (33, 0), (34, 0)]),
(94008, [(0, 0), (1, 0), (2, 0), (3, 0), (4, 0), (5, 0), (6, 0), (7, 0), (8, 0), (9, 0), (10, 0), (11, 0), (12, 0), (13, 0), (14, 0), (17, 0), (18, 0), (15, 0), (19, 3), (16, 4), (20, 0), (21, 0), (22, 0)]),
(95002, [(0, 0), (1, 0), (2, 0), (3, 0), (4, 0), (5, 0), (6, 0), (7, 0), (8, 0), (9, 0), (10, 2), (11, 2)]),
(104012, [(0, 0), (1, 0), (2, 0), (3, 0), (4, 3), (5, 0), (6, 4), (7, 0), (8, 0), (9, 0), (10, 0), (11, 0)]),
(108010, [(0, 0), (1, 0), (2, 0), (3, 0), (4, 0), (5, 0), (7, 0), (8, 0), (9, 0), (10, 0), (11, 0), (13, 0), (14, 0), (17, 0), (18, 0), (19, 0), (20, 0), (21, 0), (23, 0), (24, 0), (6, 3), (12, 0), (15, 0), (22, 3), (25, 3), (16, 4), (26, 4), (27, 0), (28, 0), (29, 0), (30, 0), (31, 0), (32, 0), (33, 0), (34, 0)]),
(110004, [(0, 0), (1, 3), (2, 0), (3, 0), (4, 0), (5, 0), (6, 0), (7, 0), (8, 0), (9, 4), (10, 0), (11, 0)]),
(111001, [(0, 0), (1, 0), (2, 0), (5, 0), (6, 0), (7, 0), (3, 0), (8, 3), (4, 4), (9, 0), (10, 0), (11, 0), (12, 0), (13, 0)]),
(111010, [(0, 0), (1, 0), (2, 0), (4, 0), (9, 0), (11, 0), (3, 0), (5, 0), (6, 0), (7, 0), (10, 3), (12, 0), (13, 0), (14, 3), (8, 4), (15, 0), (16, 0), (17, 0), (18, 0)]),
(112005, [(0, 0), (1, 0), (2, 0), (3, 0), (6, 0), (7, 0), (8, 0), (9, 0), (4, 0), (10, 3), (5, 4), (11, 0), (12, 0), (13, 0), (14, 0)]),
(112009, [(0, 0), (2, 0), (3, 0), (4, 0), (5, 0), (7, 0), (12, 0), (13, 0), (14, 0), (15, 0), (17, 0), (1, 3), (6, 0), (8, 0), (9, 0), (10, 0), (16, 3), (18, 0), (19, 0), (20, 3), (11, 4), (21, 4), (22, 0), (23, 0), (24, 0), (25, 0), (26, 0)]),
(117025, [(0, 0), (1, 0), (2, 0), (4, 3), (3, 4), (5, 0), (6, 0), (7, 0), (8, 0), (9, 0)]),
(123005, [(2, 0), (0, 0), (3, 3), (1, 4), (4, 0), (5, 0)]),
(124006, [(0, 0), (1, 0), (2, 0), (3, 0), (5, 3), (6, 0), (4, 4), (7, 0), (8, 0)]),
(125005, [(0, 0), (1, 3), (2, 0), (3, 0), (4, 0), (5, 0), (6, 0), (7, 4), (8, 0), (9, 0), (10, 0), (11, 0)]),
(136005, [(0, 0), (1, 0), (2, 0), (3, 3), (4, 0), (5, 0), (6, 0), (7, 0), (8, 3), (9, 0), (10, 4), (11, 0), (12, 0)]),
(136007, [(0, 3), (1, 0), (2, 0), (3, 0), (4, 0), (5, 0), (6, 4), (7, 0), (8, 0)]),
(166001, [(0, 0), (2, 0), (5, 0), (7, 0), (10, 0), (12, 0), (15, 0), (17, 0), (1, 0), (3, 0), (6, 3), (8, 3), (11, 3), (13, 3), (16, 3), (18, 3), (4, 4), (9, 4), (14, 4), (19, 0), (20, 0), (21, 0), (22, 0)]),
(169001, [(0, 0), (2, 3), (1, 4), (3, 0), (4, 0), (5, 0)]),
(175006, [(0, 0), (1, 3), (2, 0), (3, 0), (4, 0), (5, 0), (6, 0), (7, 0), (8, 0), (9, 0), (10, 0), (11, 0), (12, 4), (13, 0), (14, 0), (15, 0), (16, 0)]),
(175014, [(0, 0), (1, 0), (2, 0), (3, 0), (4, 3), (5, 0), (6, 0), (7, 0), (8, 0), (9, 0), (10, 0), (11, 0), (12, 0), (13, 0), (14, 0), (15, 0), (16, 0), (17, 0), (18, 0), (19, 4), (20, 0), (21, 0), (22, 0)]),
(184006, [(0, 0), (1, 0), (3, 3), (4, 0), (2, 4), (5, 0), (6, 0)]),
(184007, [(0, 0), (1, 0), (2, 3), (3, 0), (4, 0), (5, 0), (6, 4), (7, 0), (8, 0), (9, 0), (10, 0), (11, 0), (12, 0), (13, 0)]),
(185001, [(0, 0), (3, 0), (6, 0), (9, 0), (1, 0), (4, 3), (7, 3), (10, 3), (2, 4), (5, 4), (8, 4), (11, 0), (12, 0), (13, 0)]),
(190001, [(0, 0), (1, 0), (2, 0), (3, 0), (4, 0), (5, 0), (6, 0), (7, 0), (8, 0), (9, 0), (10, 0), (11, 0), (12, 0), (13, 0), (14, 0), (15, 0), (16, 0), (17, 0), (18, 0), (20, 3), (21, 3), (19, 4), (22, 0), (23, 0), (24, 0), (25, 0)]),
(196011, [(3, 0), (4, 0), (9, 0), (0, 0), (1, 0), (5, 3), (6, 0), (7, 0), (8, 3), (10, 0), (11, 3), (12, 0), (13, 3), (2, 4), (14, 0), (15, 0), (16, 0), (17, 0), (18, 0), (19, 0), (21, 0), (20, 0), (22, 0), (23, 0), (24, 0), (25, 0), (26, 0), (27, 0), (28, 0), (29, 0), (30, 0), (31, 0), (32, 0), (33, 0)]),
(197005, [(0, 3), (1, 3), (2, 0), (3, 3), (4, 0), (5, 0), (6, 3), (7, 0), (8, 0), (9, 4), (10, 0), (11, 0), (12, 4), (13, 0), (14, 0), (15, 0)]),
(229006, [(0, 0), (1, 0), (5, 0), (2, 0), (6, 3), (3, 4), (4, 0), (7, 0), (8, 0), (9, 0)]),
(240001, [(0, 0), (1, 0), (2, 0), (5, 0), (6, 0), (7, 0), (3, 0), (8, 3), (9, 0), (4, 4), (10, 0), (11, 0)]),
(241003, [(1, 0), (6, 0), (0, 0), (2, 0), (5, 3), (7, 3), (3, 4), (4, 0), (8, 0), (9, 0), (10, 0)]),
(241010, [(0, 0), (1, 0), (2, 0), (4, 0), (6, 0), (14, 0), (16, 0), (3, 0), (5, 0), (7, 0), (8, 0), (9, 0), (13, 3), (15, 3), (17, 0), (18, 0), (19, 3), (10, 4), (11, 0), (12, 0), (20, 0), (21, 0), (22, 0)]),
(242006, [(0, 0), (1, 0), (2, 0), (3, 0), (4, 0), (5, 3), (6, 0), (7, 4), (8, 0), (9, 0)]),
(246008, [(0, 3), (1, 3), (2, 0), (3, 4), (4, 0), (5, 0), (6, 4), (7, 0), (8, 0)]),
(254005, [(0, 0), (1, 0), (4, 0), (2, 0), (5, 3), (3, 4), (6, 0), (7, 0), (8, 0), (9, 0), (10, 0)]),
(264018, [(0, 3), (1, 3), (2, 0), (3, 0), (4, 0), (5, 4), (6, 0), (7, 0), (8, 0), (9, 0), (10, 0), (11, 0)]),
(264027, [(2, 0), (4, 0), (6, 0), (7, 0), (10, 0), (11, 0), (13, 0), (15, 0), (17, 0), (20, 0), (0, 3), (1, 3), (3, 0), (5, 0), (8, 0), (12, 3), (14, 0), (16, 3), (18, 0), (19, 0), (9, 4), (21, 0), (22, 0)]),
(268013, [(1, 0), (2, 0), (3, 0), (6, 0), (7, 0), (12, 0), (0, 0), (4, 0), (8, 3), (9, 0), (10, 0), (11, 3), (13, 0), (14, 3), (15, 0), (16, 3), (5, 4), (17, 0)]),
(268026, [(0, 3), (1, 0), (2, 0), (3, 0), (4, 0), (5, 0), (6, 0), (7, 0), (8, 0), (9, 0), (10, 0), (11, 4), (12, 0), (13, 0), (14, 0)]),
(270003, [(1, 0), (2, 0), (3, 0), (9, 0), (0, 3), (4, 0), (6, 3), (7, 0), (10, 3), (5, 4), (8, 4), (11, 4), (12, 0), (13, 0), (14, 0), (15, 0), (16, 0)]),
(287005, [(0, 0), (1, 0), (2, 0), (6, 0), (3, 0), (4, 0), (7, 3), (8, 0), (5, 4), (9, 0), (10, 0)]),
(287006, [(0, 0), (1, 0), (3, 3), (4, 3), (5, 0), (6, 0), (2, 4), (7, 0), (8, 0)]),
(297001, [(0, 0), (2, 0), (5, 0), (7, 0), (1, 0), (3, 0), (6, 3), (8, 3), (4, 4), (9, 0), (10, 0), (11, 0), (12, 0)]),
(308000, [(0, 0), (1, 0), (2, 0), (6, 0), (9, 0), (10, 0), (11, 0), (3, 0), (4, 0), (5, 0), (7, 0), (12, 3), (13, 0), (8, 4), (14, 0), (15, 0)]),
(309010, [(0, 0), (1, 3), (2, 0), (3, 3), (4, 0), (5, 0), (6, 3), (7, 0), (8, 0), (9, 4), (10, 0), (11, 0), (12, 0)]),
(325009, [(0, 3), (1, 3), (2, 0), (3, 0), (4, 4), (5, 0), (6, 0), (7, 0), (8, 0), (9, 0), (10, 0), (11, 0)]),
(349006, [(0, 0), (1, 0), (2, 0), (3, 0), (5, 3), (6, 0), (4, 4), (7, 0), (8, 0)]),
(352011, [(0, 0), (1, 0), (2, 0), (3, 0), (4, 0), (5, 3), (6, 0), (7, 0), (8, 0), (9, 0), (10, 0), (11, 0), (12, 0), (13, 0), (14, 0), (15, 0), (16, 0), (17, 0), (18, 0), (19, 4), (20, 0), (21, 0), (22, 0)]),
(353014, [(0, 0), (1, 0), (2, 0), (3, 3), (4, 0), (5, 0), (6, 0), (7, 0), (8, 3), (9, 0), (10, 0), (11, 3), (12, 0), (13, 0), (14, 0), (15, 0), (16, 0), (17, 0), (18, 0), (19, 0), (20, 0), (21, 0), (22, 0), (23, 0), (24, 0), (25, 0), (26, 0), (27, 0), (28, 0), (29, 0), (30, 4), (31, 0), (32, 0), (33, 0)]),
(354004, [(0, 0), (1, 0), (2, 0), (4, 0), (6, 0), (7, 0), (8, 0), (14, 0), (3, 0), (9, 3), (10, 0), (11, 0), (12, 0), (13, 3), (15, 0), (16, 0), (17, 3), (18, 0), (5, 4), (19, 4), (20, 0)]),
(372006, [(0, 0), (1, 0), (3, 3), (4, 0), (2, 4), (5, 0), (6, 0)]),
(372012, [(0, 3), (1, 3), (2, 0), (3, 0), (4, 0), (5, 0), (6, 0), (7, 0), (8, 0), (9, 0), (10, 0), (11, 0), (12, 0), (13, 0), (14, 4), (15, 0), (16, 0), (17, 0), (18, 0)]),
(381008, [(0, 0), (1, 0), (2, 0), (3, 0), (4, 0), (5, 0), (6, 0), (10, 0), (7, 0), (8, 0), (11, 3), (9, 4), (12, 0), (13, 0)]),
(381009, [(0, 0), (1, 0), (3, 3), (4, 3), (5, 0), (6, 0), (2, 4), (7, 0), (8, 0)]),
(383004, [(0, 0), (1, 0), (2, 0), (3, 0), (5, 3), (6, 3), (7, 0), (8, 0), (4, 4), (9, 0), (10, 0)]),
(384004, [(0, 0), (1, 0), (3, 3), (4, 3), (2, 4), (5, 0), (6, 0), (7, 0), (11, 0), (8, 0), (9, 0), (12, 3), (10, 4), (13, 0), (14, 0), (15, 0)]),
(385017, [(0, 0), (2, 0), (3, 0), (4, 0), (5, 0), (7, 0), (8, 0), (9, 0), (1, 3), (10, 3), (6, 4), (11, 0), (12, 0), (13, 0)]),
(386012, [(0, 3), (1, 0), (2, 0), (3, 3), (4, 0), (5, 0), (6, 0), (7, 0), (8, 4), (9, 0), (10, 0), (11, 0)]),
(391002, [(0, 0), (3, 0), (1, 0), (4, 3), (2, 4), (5, 0), (6, 0), (7, 0)]),
(391014, [(1, 0), (3, 0), (6, 0), (8, 0), (9, 0), (11, 0), (12, 0), (0, 0), (2, 0), (5, 3), (7, 3), (10, 3), (13, 3), (14, 0), (4, 4), (15, 0), (16, 0), (17, 0)]),
(393021, [(0, 3), (1, 0), (2, 0), (3, 3), (4, 0), (5, 0), (6, 4), (7, 0), (8, 0), (9, 0), (10, 0), (11, 0), (12, 0), (13, 0)]),
(394015, [(0, 0), (1, 0), (2, 0), (3, 0), (4, 0), (5, 3), (6, 0), (7, 0), (8, 0), (9, 0), (10, 0), (11, 0), (12, 0), (13, 0), (14, 0), (15, 0), (16, 0), (17, 0), (18, 0), (19, 0), (20, 0), (21, 0), (22, 0), (23, 0), (24, 4), (25, 0), (26, 0), (27, 0)]),
(395016, [(0, 0), (1, 0), (2, 0), (3, 0), (4, 0), (5, 0), (6, 0), (7, 0), (8, 0), (9, 0), (10, 0), (11, 0), (12, 0), (13, 3), (14, 0), (15, 0), (16, 0), (17, 0), (18, 0), (19, 0), (20, 0), (21, 0), (22, 0), (23, 0), (24, 0), (25, 0), (26, 0), (27, 0), (28, 0), (29, 0), (30, 0), (31, 0), (32, 0), (33, 0), (34, 0), (35, 0), (36, 0), (37, 0), (38, 0), (39, 4), (40, 0), (41, 0), (42, 0)]),
(396001, [(0, 0), (3, 0), (5, 0), (9, 0), (1, 0), (4, 3), (6, 0), (7, 0), (8, 3), (2, 4), (10, 0), (11, 0)])]
def findO (k : Nat) (l : List (Nat × List (Nat × Nat))) : Option (List (Nat × Nat)) := @List.rec _ (fun _ => Option (List (Nat × Nat))) none (fun p _ ih => @Bool.rec (fun _ => Option (List (Nat × Nat))) ih (some p.2) (Nat.beq p.1 k)) l
def ordF (f r : Nat) : Option (List (Nat × Nat)) := findO (Nat.add (Nat.mul f 1000) r) ordL
def natF (t : List Ent3) (fns : List Nat) (f : Nat) : Option (List FV → HT → Nat → Out) :=
  @Bool.rec (fun _ => Option (List FV → HT → Nat → Out)) (@Bool.rec (fun _ => Option (List FV → HT → Nat → Out)) (@Bool.rec (fun _ => Option (List FV → HT → Nat → Out)) (@Bool.rec (fun _ => Option (List FV → HT → Nat → Out)) (@Bool.rec (fun _ => Option (List FV → HT → Nat → Out)) (@Bool.rec (fun _ => Option (List FV → HT → Nat → Out))
    none (some natJoin) (Nat.beq f 172)) (some natItoa) (Nat.beq f 237)) (some natSplit) (Nat.beq f 32)) (some natCut) (Nat.beq f 37)) (some natCmp) (Nat.beq f 142)) (some (tabN f t)) (memN fns f)
def good : List Nat := [3, 6, 7, 8, 9, 10, 11, 12, 13, 14, 19, 27, 31, 33, 34, 35, 36, 38, 39, 40, 41, 42, 43, 44, 45, 46, 47, 48, 49, 50, 51, 59, 60, 66, 67, 74, 75, 76, 77, 78, 80, 81, 82, 83, 84, 85, 86, 87, 88, 89, 90, 91, 92, 93, 94, 95, 96, 97, 98, 99, 100, 101, 102, 103, 104, 105, 106, 114, 115, 117, 129, 130, 131, 132, 133, 134, 136, 137, 138, 139, 140, 141, 143, 144, 150, 154, 155, 157, 158, 159, 160, 161, 162, 164, 165, 166, 167, 168, 170, 171, 178, 179, 180, 181, 182, 183, 184, 185, 206, 207, 208, 213, 214, 215, 216, 218, 227, 228, 229, 230, 231, 233, 234, 235, 236, 244, 246, 247, 248, 249, 250, 251, 252, 253, 254, 287, 288, 291, 292, 293, 295, 296, 297, 298, 313, 314, 323, 324, 325, 328, 329, 344, 351, 352, 354, 355, 357]
def bodyF (f : Nat) : Option Func := @Bool.rec (fun _ => Option Func) none (Tryz.prog.funcs[f]?) (memN good f)
def cfg (m : Int) (t : List Ent3) (fns : List Nat) : Cfg := ⟨Tryz.prog, glob m, natF t fns, bodyF, ordF⟩
end

section
variable {m : Int} {t t' : List Ent3} {fns fns' : List Nat}

theorem mixed : Tryz.prog.follows .mixedOrders = true := by kernel_rfl

theorem ent142 : Ent Tryz.prog 142 := ⟨_, Tryz.func142, by kernel_rfl, by kernel_rfl⟩
theorem ent37 : Ent Tryz.prog 37 := ⟨_, Tryz.func37, by kernel_rfl, by kernel_rfl⟩
theorem ent32 : Ent Tryz.prog 32 := ⟨_, Tryz.func32, by kernel_rfl, by kernel_rfl⟩
theorem ent237 : Ent Tryz.prog 237 := ⟨_, Tryz.func237, by kernel_rfl, by kernel_rfl⟩
theorem ent172 : Ent Tryz.prog 172 := ⟨_, Tryz.func172, by kernel_rfl, by kernel_rfl⟩

theorem maxLen {Z : Ctx} {w : World} {L : Heap} (hok : HeapOK Z w L) (hg : GOK (cfg m t fns) Z) : w.cell? ⟨0, 0, none⟩ = some (.int .i64 m) := by
  have h := hg 0 [.int .i64 m] rfl
  cases h with
  | pp cs b o vs hc hv =>
    have h1 := hc 0 (by simp)
    have h2 := (VR.int_inv (hv 0 (by simp))).1
    rw [h2] at h1
    exact hok.cell _ _ _ h1

theorem natCmp_ok {args : List FV} {H : HT} {c : Nat} {x : FV} {H' : HT} {c' : Nat} (h : natCmp args H c = .ok x H' c') : c ≤ c' ∧ CallN (cfg m t fns) 142 args (toL H) c c' x (toL H') := by
  unfold natCmp at h
  split at h
  · rename_i a b
    cases h
    refine ⟨Nat.le_refl _, CallN.below ent142 fun Z w F vs hv hok hg => ?_⟩
    obtain ⟨u, v, rfl, h1, h2⟩ := hv.two
    obtain ⟨rfl, _⟩ := VR.str_inv h1
    obtain ⟨rfl, _⟩ := VR.str_inv h2
    refine (Tryz.strings_Compare ⟨⟨a⟩⟩ ⟨⟨b⟩⟩ w).mono fun e w' ⟨he, hw⟩ => ⟨_, he, hw ▸ RowKit.Below.refl _ _, ?_⟩
    rw [cmpS_eq]
    refine .int _ _ (InR.has ?_)
    show InR (Lib.compareBytes a b)
    rw [← cmpS_eq]
    unfold cmpS
    cases strEq a b <;> cases strLt a b <;> (unfold InR; decide)
  · cases h

theorem drewN_below (w : World) (n : Nat) : RowKit.Below w.heap.size w (w.drewN n) := ⟨rfl, rfl, rfl, Nat.le_refl _, fun _ _ => rfl⟩

theorem natCut_ok {args : List FV} {H : HT} {c : Nat} {x : FV} {H' : HT} {c' : Nat} (h : natCut args H c = .ok x H' c') : c ≤ c' ∧ CallN (cfg m t fns) 37 args (toL H) c c' x (toL H') := by
  unfold natCut at h
  split at h
  · rename_i a b
    obtain ⟨hb, h⟩ := bselO h
    cases h
    rw [len_eq] at hb
    have hlen : a.length < 4294967281 := Nat.le_of_ble_eq_true hb
    refine ⟨Nat.le_refl _, CallN.below ent37 fun Z w F vs hv hok hg => ?_⟩
    obtain ⟨u, v, rfl, h1, h2⟩ := hv.two
    obtain ⟨rfl, l1⟩ := VR.str_inv h1
    obtain ⟨rfl, l2⟩ := VR.str_inv h2
    refine (Tryz.strings_Cut ⟨⟨a⟩⟩ ⟨⟨b⟩⟩ m w hlen (maxLen hok hg)).mono fun e w' ⟨he, n, hw⟩ => ⟨_, he, hw ▸ drewN_below w n, ?_⟩
    show VR Z (cutR a (findS b a)) (.tuple #[.string ⟨(Lib.cut a b).1.toArray⟩, .string ⟨(Lib.cut a b).2.1.toArray⟩, .bool (Lib.cut a b).2.2])
    have tri : ∀ (p q : List UInt8) (r : Bool), p.length < LB → q.length < LB → VR Z (.tup [.str p, .str q, .bool r]) (.tuple #[.string ⟨p.toArray⟩, .string ⟨q.toArray⟩, .bool r]) := fun p q r hp hq => by
      refine VR.tup [.str p, .str q, .bool r] #[.string ⟨p.toArray⟩, .string ⟨q.toArray⟩, .bool r] rfl (fun i hi => ?_)
      match i with
      | 0 => simpa using VR.str p hp
      | 1 => simpa using VR.str q hq
      | 2 => simpa using VR.bool r
      | i + 3 => simp at hi; omega
    rw [cut_eq]
    cases hf : findS b a with
    | none => exact tri a [] false l1 (by decide)
    | some q =>
      obtain ⟨i, _, q1, q2⟩ := findS_some hf
      refine tri q.1 q.2 true ?_ ?_
      · rw [q1]; simp; omega
      · rw [q2]; simp; omega
  · cases h

theorem splitK_len (p : List UInt8) : ∀ (k : Nat) (s x : List UInt8), x ∈ Lib.splitK p 0 k s → x.length ≤ s.length
  | 0, s, x, h => by simp [Lib.splitK] at h; subst h; exact Nat.le_refl _
  | k + 1, s, x, h => by
    unfold Lib.splitK at h
    split at h
    · simp at h; subst h; exact Nat.le_refl _
    · rcases List.mem_cons.1 h with rfl | h
      · simp; omega
      · have := splitK_len p k _ x h
        simp at this; omega

theorem natSplit_ok {args : List FV} {H : HT} {c : Nat} {x : FV} {H' : HT} {c' : Nat} (h : natSplit args H c = .ok x H' c') : c ≤ c' ∧ CallN (cfg m t fns) 32 args (toL H) c c' x (toL H') := by
  unfold natSplit at h
  split at h
  · rename_i a p q
    obtain ⟨hb, h⟩ := bselO h
    cases h
    rw [len_eq] at hb
    have hlen : a.length < 4294967281 := Nat.le_of_ble_eq_true hb
    refine ⟨Nat.le_refl _, ent32, fun Z w F vs hv hok _ hg => ?_⟩
    obtain ⟨u, v, rfl, h1, h2⟩ := hv.two
    obtain ⟨rfl, l1⟩ := VR.str_inv h1
    obtain ⟨rfl, l2⟩ := VR.str_inv h2
    have hn := Lib.splitB_all ⟨⟨p :: q⟩⟩ (by simp [ByteArray.size]) 0 (Lib.countB ⟨⟨a⟩⟩ ⟨⟨p :: q⟩⟩) ⟨⟨a⟩⟩ rfl
    have hcl := Lib.countB_le ⟨⟨p :: q⟩⟩ (by simp [ByteArray.size]) a.length ⟨⟨a⟩⟩ (Nat.le_refl _)
    have hbs : (Lib.splitB ⟨⟨p :: q⟩⟩ 0 (Lib.countB ⟨⟨a⟩⟩ ⟨⟨p :: q⟩⟩) ⟨⟨a⟩⟩).map (·.data.toList) = splitS (p :: q) (len a + 1) a := by
      have h3 := Lib.splitB_data ⟨⟨p :: q⟩⟩ 0 (Lib.countB ⟨⟨a⟩⟩ ⟨⟨p :: q⟩⟩) ⟨⟨a⟩⟩
      rw [len_eq, ← split_eq]
      exact h3
    have hlen2 : ∀ x, x ∈ splitS (p :: q) (len a + 1) a → x.length ≤ a.length := fun x hx => by
      rw [← split_eq] at hx
      exact splitK_len _ _ _ _ hx
    refine (Tryz.strings_Split ⟨⟨a⟩⟩ ⟨⟨p :: q⟩⟩ m w hlen (maxLen hok hg) (by simp [ByteArray.size])).mono fun e w' ⟨he, hw⟩ => ?_
    generalize hB : Lib.splitB ⟨⟨p :: q⟩⟩ 0 (Lib.countB ⟨⟨a⟩⟩ ⟨⟨p :: q⟩⟩) ⟨⟨a⟩⟩ = bs at hn hbs he hw
    have hle : Lib.countB ⟨⟨a⟩⟩ ⟨⟨p :: q⟩⟩ + 1 = bs.length := hn.symm
    have hsz : ((bs.map Value.string).toArray).size = bs.length := by simp
    rw [hle] at he
    have hbl : bs.length < LB := by
      show _ < 68719476736
      have : (⟨⟨a⟩⟩ : ByteArray).size = a.length := rfl
      rw [← hle]; omega
    refine ⟨_, _, he, Ctx.le_know hok (bs.map Value.string).toArray.size (bs.map Value.string).toArray.size _, by rw [hw]; exact hok.allocKnown _ 9 _ (Nat.le_refl _), Same.refl _ _, ?_⟩
    have hes : strL (splitS (p :: q) (len a + 1) a) = bs.map fun b => [FV.str b.data.toList] := by rw [strL_eq, ← hbs, List.map_map]; rfl
    show VR _ (.slx 1 (strL (splitS (p :: q) (len a + 1) a))) _
    have key := VR.slx (Z := Z.know w.heap.size (bs.map Value.string).toArray.size (bs.map Value.string).toArray.size (bs.map Value.string).toArray) 1 (strL (splitS (p :: q) (len a + 1) a)) w.heap.size 0 (fun i => (bs.map Value.string).toArray.getD i undef)
      (fun e he => by rw [hes] at he; obtain ⟨b, _, rfl⟩ := List.mem_map.1 he; rfl)
      (fun i hi => by
        rw [Nat.zero_add]
        refine Ctx.know_cell ?_
        rw [hes] at hi; simpa using hi)
      (fun i j hi hj => by
        have hj0 : j = 0 := by omega
        subst hj0
        rw [hes] at hi ⊢
        have hi' : i < bs.length := by simpa using hi
        have hm : bs[i].data.toList ∈ splitS (p :: q) (len a + 1) a := by rw [← hbs]; exact List.mem_map.2 ⟨bs[i], List.getElem_mem hi', rfl⟩
        have := VR.str (Z := Z.know w.heap.size (bs.map Value.string).toArray.size (bs.map Value.string).toArray.size (bs.map Value.string).toArray) bs[i].data.toList (by have := hlen2 _ hm; omega)
        simpa [hi', List.getD, Array.getD] using this)
      (by rw [hes]; simpa using hbl)
    rw [hes] at key ⊢
    simpa using key
  · cases h

theorem natItoa_ok {args : List FV} {H : HT} {c : Nat} {x : FV} {H' : HT} {c' : Nat} (h : natItoa args H c = .ok x H' c') : c ≤ c' ∧ CallN (cfg m t fns) 237 args (toL H) c c' x (toL H') := by
  unfold natItoa at h
  split at h
  · rename_i i
    obtain ⟨hb, h⟩ := bselO h
    cases h
    have hi : i < 100 := Nat.le_of_ble_eq_true hb
    refine ⟨Nat.le_refl _, CallN.below ent237 fun Z w F vs hv hok hg => ?_⟩
    obtain ⟨u, rfl, h1⟩ := hv.one'
    obtain ⟨rfl, _⟩ := VR.int_inv h1
    refine (Tryz.strconv_Itoa_small i hi w).mono fun e w' ⟨he, hw⟩ => ⟨_, he, hw ▸ RowKit.Below.refl _ _, ?_⟩
    rw [digs2_eq hi]
    refine .str _ ?_
    unfold digs2
    cases Nat.blt i 10
    · exact (by decide : 2 < 68719476736)
    · exact (by decide : 1 < 68719476736)
  · cases h

theorem strOf_inv {e : List FV} {s : List UInt8} (h : strOf e = some s) : e = [.str s] := by
  match e, h with
  | [], h => exact nomatch (show none = some s from h)
  | [x], h => rw [asStr_inv (show asStr x = some s from h)]
  | x :: y :: r, h => exact nomatch (show none = some s from h)

theorem natJoin_ok {args : List FV} {H : HT} {c : Nat} {x : FV} {H' : HT} {c' : Nat} (h : natJoin args H c = .ok x H' c') : c ≤ c' ∧ CallN (cfg m t fns) 172 args (toL H) c c' x (toL H') := by
  unfold natJoin at h
  split at h
  · rename_i τ off n p
    obtain ⟨l, hl, h⟩ := oselO h
    obtain ⟨hb, h⟩ := bselO (show @Bool.rec (fun _ => Out) .no (.ok (.str (joinS p l)) H c) (andB (Nat.blt 0 (len l)) (andB (Nat.ble (len l) 68719476736) (Nat.blt (len (joinS p l)) 68719476736))) = _ from h)
    cases h
    obtain ⟨b1, b2⟩ := andB_iff.1 hb
    obtain ⟨b2, b3⟩ := andB_iff.1 b2
    rw [len_eq] at b1 b2 b3
    have g1 : 0 < l.length := Nat.le_of_ble_eq_true b1
    have g2 : l.length ≤ 68719476736 := Nat.le_of_ble_eq_true b2
    have g3 : (joinS p l).length < 68719476736 := Nat.le_of_ble_eq_true b3
    obtain ⟨news, h3, hm⟩ := osel hl
    unfold srcO at h3
    obtain ⟨ob, hl, h4⟩ := osel h3
    cases ob <;> first | exact nomatch (show none = some news from h4) | skip
    rename_i s2 k es
    obtain ⟨h5, h6⟩ := bsel (show @Bool.rec (fun _ => Option (List (List FV))) none (some (tak n (drp off es))) (andB (Nat.beq s2 1) (Nat.ble (Nat.add off n) (len es))) = _ from h4)
    obtain ⟨h7, h8⟩ := andB_iff.1 h5
    have e := Nat.eq_of_beq_eq_true h7
    subst e
    rw [len_eq] at h8
    have h8 : off + n ≤ es.length := Nat.le_of_ble_eq_true h8
    rw [tak_eq, drp_eq] at h6
    cases h6
    obtain ⟨hlen, hget⟩ := mapO_get hm
    have hn : l.length = n := by rw [hlen]; simp; omega
    obtain ⟨R, hp⟩ := lkH_row hl
    refine ⟨Nat.le_refl _, CallN.below ent172 fun Z w F vs hv hok hg => ?_⟩
    obtain ⟨u, v, rfl, v1, v2⟩ := hv.two
    obtain ⟨rfl, _⟩ := VR.str_inv v2
    rcases VR.rsl_inv v1 with ⟨b, cap, rfl, hnm, hs, hcap, hbb⟩ | ⟨_, _, _, _, hn0⟩
    · have hobj := hok.obj _ (List.mem_append_left F (hp.mem_iff.2 List.mem_cons_self))
      have hbk : blkOf Z (τ, .row 1 k es) = some b := by simp [blkOf, hnm]
      have hblt := hok.lt (List.mem_append_left F (hp.mem_iff.2 List.mem_cons_self)) hbk
      unfold ObjAt at hobj
      rw [hbk] at hobj
      rcases hobj with ⟨hn1, _⟩ | ⟨b', hb', vs, tyy, frr, N, r1, r2, r3, r4, r5, r6, r7, r8, r9, r10, r11⟩
      · rw [hnm] at hn1; cases hn1
      · rw [hnm] at hb'; cases hb'
        have hx : (l.map fun s : List UInt8 => (⟨⟨s⟩⟩ : ByteArray)).length = n := by simpa using hn
        have e1 : (l.map fun s : List UInt8 => (⟨⟨s⟩⟩ : ByteArray)).map (fun x => x.data.toList) = l := by simp [Function.comp_def]
        have hj : Lib.join ((l.map fun s : List UInt8 => (⟨⟨s⟩⟩ : ByteArray)).map (fun x => x.data.toList)) p = joinS p l := by rw [e1, joinS_eq]; rfl
        have key := Tryz.strings_Join b (off * 1) cap (l.map fun s : List UInt8 => (⟨⟨s⟩⟩ : ByteArray)) ⟨⟨p⟩⟩ w (fun j x hj => by
          rw [List.getElem?_map] at hj
          cases hlj : l[j]? with
          | none => rw [hlj] at hj; cases hj
          | some s =>
            rw [hlj] at hj; cases hj
            have hjl : j < l.length := (List.getElem?_eq_some_iff.1 hlj).1
            have q1 := hget j [] [] (by rw [← hlen]; exact hjl)
            have q2 := strOf_inv q1
            have q3 : l.getD j [] = s := by simp [List.getD, hlj]
            rw [q3] at q2
            have q4 : ((es.drop off).take n).getD j [] = es.getD (off + j) [] := by simp [List.getD, show j < n by omega, List.getElem?_drop]
            rw [q4] at q2
            have q5 := r11 (off + j) 0 (by omega) (by omega)
            rw [q2] at q5
            obtain ⟨q6, _⟩ := VR.str_inv (show VR Z (.str s) _ from q5)
            have q7 : off + j < vs.size := by omega
            rw [cell_of (show w.heap[b]? = _ from r1)]
            have q8 : (off + j) * 1 + 0 = off * 1 + j := by omega
            rw [q8] at q6
            have q9 : off * 1 + j < vs.size := by omega
            have qa : vs[off * 1 + j]? = some (vs.getD (off * 1 + j) undef) := by simp [Array.getD, show off + j < vs.size by omega]
            rw [qa, q6]) hblt (by rw [hx]; omega) (by rw [hx]; exact hcap) (by rw [show (⟨⟨p⟩⟩ : ByteArray).data.toList = p from rfl, hj]; omega)
        rw [hx] at key
        refine key.mono fun e w' ⟨he, hw⟩ => ⟨_, he, hw, ?_⟩
        rw [show (⟨⟨p⟩⟩ : ByteArray).data.toList = p from rfl, hj]
        exact .str _ g3
    · omega
  · cases h

theorem brec {α : Type} {b : Bool} {x y z : α} (h : @Bool.rec (fun _ => α) x y b = z) : (b = false ∧ x = z) ∨ (b = true ∧ y = z) := by
  cases b
  · exact Or.inl ⟨rfl, h⟩
  · exact Or.inr ⟨rfl, h⟩

theorem nat_ok (htab : TabOK (cfg m t fns) t) : NatOK (cfg m t fns) := by
  intro f g hf args H c x H' c' h
  have hf : natF t fns f = some g := hf
  unfold natF at hf
  rcases brec hf with ⟨_, hf⟩ | ⟨_, hf⟩
  · rcases brec hf with ⟨_, hf⟩ | ⟨e, hf⟩
    · rcases brec hf with ⟨_, hf⟩ | ⟨e, hf⟩
      · rcases brec hf with ⟨_, hf⟩ | ⟨e, hf⟩
        · rcases brec hf with ⟨_, hf⟩ | ⟨e, hf⟩
          · rcases brec hf with ⟨_, hf⟩ | ⟨e, hf⟩
            · cases hf
            · cases hf; cases Nat.eq_of_beq_eq_true e; exact natJoin_ok h
          · cases hf; cases Nat.eq_of_beq_eq_true e; exact natItoa_ok h
        · cases hf; cases Nat.eq_of_beq_eq_true e; exact natSplit_ok h
      · cases hf; cases Nat.eq_of_beq_eq_true e; exact natCut_ok h
    · cases hf; cases Nat.eq_of_beq_eq_true e; exact natCmp_ok h
  · cases hf; exact tabN_ok htab h

theorem gfree : GFree (cfg m t fns) := by
  intro g cs hg
  have hg : glob m g = some cs := hg
  unfold glob at hg
  rcases brec hg with ⟨_, hg⟩ | ⟨_, hg⟩
  · rcases brec hg with ⟨_, hg⟩ | ⟨_, hg⟩
    · cases hg
    · cases hg; exact ⟨3, by decide⟩
  · cases hg; exact ⟨3, by rfl⟩
end
end Go.Fs

namespace Go.Fs
open Go Go.Proofs
set_option maxRecDepth 100000
/-- A call that only computes. -/
def Pu (m : Int) (f : Nat) (ys : List FV) (x : FV) : Prop := PureC (cfg m [] []) f ys x
/-- A call that turns what is owned. -/
def Cu (m : Int) (e : Ent4) : Prop := e.c ≤ e.c' ∧ CallN (cfg m [] []) e.f e.args e.L e.c e.c' e.x e.L'
noncomputable section
def natG (t : List Ent3) (fns : List Nat) (u : List Ent4) (gns : List Nat) (f : Nat) : Option (List FV → HT → Nat → Out) := @Bool.rec (fun _ => Option (List FV → HT → Nat → Out)) (natF t fns f) (some (impN f u)) (memN gns f)
def cfg4 (m : Int) (t : List Ent3) (fns : List Nat) (u : List Ent4) (gns : List Nat) : Cfg := ⟨Tryz.prog, glob m, natG t fns u gns, bodyF, ordF⟩
def okF (K : Cfg) (f : Nat) : Bool := @Option.rec Func (fun _ => Bool) true (fun fn => okFn K f fn) (K.P.funcs[f]?)
/-- Is it this? -/
def isV (q : Option FV) (y : FV) : Bool := @Option.rec FV (fun _ => Bool) false (fun x => sameV 100 x y) q
def callG (m : Int) (t : List Ent3) (fns : List Nat) (u : List Ent4) (gns : List Nat) : CallT := callF (cfg4 m t fns u gns) (runQ (cfg4 m t fns u gns) 100000)
def runP (m : Int) (t : List Ent3) (fns : List Nat) (u : List Ent4) (gns : List Nat) (f : Nat) (ys : List FV) : Option FV := pureO (callG m t fns u gns f ys H0T 0)
end
theorem isV_ok {q : Option FV} {y : FV} (h : isV q y = true) : q = some y := by
  cases q with
  | none => exact nomatch (show false = true from h)
  | some x => rw [sameV_ok 100 x y h]
def okAll (m : Int) : Prop := ∀ t fns u gns, BodyOK (cfg4 m t fns u gns)
/-- The table's entries are right. -/
def Tab (m : Int) (t : List Ent3) : Prop := ∀ e, e ∈ t → Pu m e.f e.args e.res
theorem Tab.nil {m : Int} : Tab m [] := fun _ h => nomatch h
theorem Tab.cons {m : Int} {t : List Ent3} {f : Nat} {ys : List FV} {x : FV} (h : Pu m f ys x) (ht : Tab m t) : Tab m (⟨f, ys, x⟩ :: t) := fun e he => by
  rcases List.mem_cons.1 he with rfl | he
  · exact h
  · exact ht e he
def TabC (m : Int) (u : List Ent4) : Prop := ∀ e, e ∈ u → Cu m e
theorem TabC.nil {m : Int} : TabC m [] := fun _ h => nomatch h
theorem TabC.cons {m : Int} {u : List Ent4} {e : Ent4} (h : Cu m e) (ht : TabC m u) : TabC m (e :: u) := fun d he => by
  rcases List.mem_cons.1 he with rfl | he
  · exact h
  · exact ht d he
theorem natG_ok {m : Int} {t : List Ent3} {fns : List Nat} {u : List Ent4} {gns : List Nat} (ht : Tab m t) (hu : TabC m u) : NatOK (cfg4 m t fns u gns) := by
  intro f g hf args H c x H' c' h
  have hf : @Bool.rec (fun _ => Option (List FV → HT → Nat → Out)) (natF t fns f) (some (impN f u)) (memN gns f) = some g := hf
  rcases brec hf with ⟨_, hf⟩ | ⟨_, hf⟩
  · exact nat_ok (m := m) (t := t) (fns := fns) ht f g hf args H c x H' c' h
  · cases hf
    exact impN_ok (K := cfg m [] []) hu h
theorem call_ok {m : Int} {t : List Ent3} {fns : List Nat} {u : List Ent4} {gns : List Nat} (hb : okAll m) (ht : Tab m t) (hu : TabC m u) : CallOK (cfg4 m t fns u gns) (callG m t fns u gns) := by
  unfold callG
  rw [runQ_eq]
  exact callI_ok mixed (hb t fns u gns) (natG_ok ht hu) 100000
theorem gfree4 {m : Int} {t : List Ent3} {fns : List Nat} {u : List Ent4} {gns : List Nat} : GFree (cfg4 m t fns u gns) := gfree (m := m) (t := t) (fns := fns)
theorem piece {m : Int} {t : List Ent3} {fns : List Nat} {u : List Ent4} {gns : List Nat} {f : Nat} {ys : List FV} {y : FV} (hb : okAll m) (ht : Tab m t) (hu : TabC m u) (h : isV (runP m t fns u gns f ys) y = true) (hys : allB (freeV 100) ys = true) (hy : freeV 100 y = true) : Pu m f ys y := by
  have := PureC.of_run (K := cfg4 m t fns u gns) gfree4 (call_ok hb ht hu) (isV_ok h) hys hy
  exact this
theorem piece4 {m : Int} {t : List Ent3} {fns : List Nat} {u : List Ent4} {gns : List Nat} {e : Ent4} (hb : okAll m) (ht : Tab m t) (hu : TabC m u) (h : chk4 (callG m t fns u gns) e = true) : Cu m e := by
  have := chk4_ok (K := cfg4 m t fns u gns) (call_ok hb ht hu) h
  exact this
end Go.Fs

namespace Go.Fs
open Go Go.Proofs
set_option maxRecDepth 100000
noncomputable def okG (m : Int) (t : List Ent3) (fns : List Nat) (u : List Ent4) (gns : List Nat) (f : Nat) : Bool := okF (cfg4 m t fns u gns) f
section
variable (m : Int) (t : List Ent3) (fns : List Nat) (u : List Ent4) (gns : List Nat)
theorem memN_mem : ∀ (l : List Nat) (f : Nat), memN l f = true → f ∈ l
  | [], f, h => nomatch (show false = true from h)
  | k :: l, f, h => by
    have h : (Nat.beq k f || memN l f) = true := h
    rcases (Bool.or_eq_true _ _).mp h with e | h
    · rw [Nat.eq_of_beq_eq_true e]; exact List.mem_cons_self
    · exact List.mem_cons_of_mem _ (memN_mem l f h)
theorem allB_join {f : Nat → Bool} {n k : Nat} (h1 : allB f (good.take n) = true) (h2 : allB f ((good.drop n).take k) = true) : allB f (good.take (n + k)) = true := by
  rw [allB_eq] at *
  rw [List.take_add, List.all_append, h1, h2]; rfl
theorem okS0 : allB (okG m t fns u gns) ((good.drop 0).take 12) = true := by kernel_rfl
theorem okS1 : allB (okG m t fns u gns) ((good.drop 12).take 12) = true := by kernel_rfl
theorem okS2 : allB (okG m t fns u gns) ((good.drop 24).take 12) = true := by kernel_rfl
theorem okS3 : allB (okG m t fns u gns) ((good.drop 36).take 12) = true := by kernel_rfl
theorem okS4 : allB (okG m t fns u gns) ((good.drop 48).take 12) = true := by kernel_rfl
theorem okS5 : allB (okG m t fns u gns) ((good.drop 60).take 12) = true := by kernel_rfl
theorem okS6 : allB (okG m t fns u gns) ((good.drop 72).take 12) = true := by kernel_rfl
theorem okS7 : allB (okG m t fns u gns) ((good.drop 84).take 12) = true := by kernel_rfl
theorem okS8 : allB (okG m t fns u gns) ((good.drop 96).take 12) = true := by kernel_rfl
theorem okS9 : allB (okG m t fns u gns) ((good.drop 108).take 12) = true := by kernel_rfl
theorem okS10 : allB (okG m t fns u gns) ((good.drop 120).take 12) = true := by kernel_rfl
theorem okS11 : allB (okG m t fns u gns) ((good.drop 132).take 12) = true := by kernel_rfl
theorem okS12 : allB (okG m t fns u gns) ((good.drop 144).take 12) = true := by kernel_rfl
theorem okS13 : allB (okG m t fns u gns) ((good.drop 156).take 12) = true := by kernel_rfl
theorem okT0 : allB (okG m t fns u gns) (good.take 12) = true := okS0 m t fns u gns
theorem okT1 : allB (okG m t fns u gns) (good.take (12 + 12)) = true := allB_join (f := okG m t fns u gns) (n := 12) (k := 12) (okT0 m t fns u gns) (okS1 m t fns u gns)
theorem okT2 : allB (okG m t fns u gns) (good.take (24 + 12)) = true := allB_join (f := okG m t fns u gns) (n := 24) (k := 12) (okT1 m t fns u gns) (okS2 m t fns u gns)
theorem okT3 : allB (okG m t fns u gns) (good.take (36 + 12)) = true := allB_join (f := okG m t fns u gns) (n := 36) (k := 12) (okT2 m t fns u gns) (okS3 m t fns u gns)
theorem okT4 : allB (okG m t fns u gns) (good.take (48 + 12)) = true := allB_join (f := okG m t fns u gns) (n := 48) (k := 12) (okT3 m t fns u gns) (okS4 m t fns u gns)
theorem okT5 : allB (okG m t fns u gns) (good.take (60 + 12)) = true := allB_join (f := okG m t fns u gns) (n := 60) (k := 12) (okT4 m t fns u gns) (okS5 m t fns u gns)
theorem okT6 : allB (okG m t fns u gns) (good.take (72 + 12)) = true := allB_join (f := okG m t fns u gns) (n := 72) (k := 12) (okT5 m t fns u gns) (okS6 m t fns u gns)
theorem okT7 : allB (okG m t fns u gns) (good.take (84 + 12)) = true := allB_join (f := okG m t fns u gns) (n := 84) (k := 12) (okT6 m t fns u gns) (okS7 m t fns u gns)
theorem okT8 : allB (okG m t fns u gns) (good.take (96 + 12)) = true := allB_join (f := okG m t fns u gns) (n := 96) (k := 12) (okT7 m t fns u gns) (okS8 m t fns u gns)
theorem okT9 : allB (okG m t fns u gns) (good.take (108 + 12)) = true := allB_join (f := okG m t fns u gns) (n := 108) (k := 12) (okT8 m t fns u gns) (okS9 m t fns u gns)
theorem okT10 : allB (okG m t fns u gns) (good.take (120 + 12)) = true := allB_join (f := okG m t fns u gns) (n := 120) (k := 12) (okT9 m t fns u gns) (okS10 m t fns u gns)
theorem okT11 : allB (okG m t fns u gns) (good.take (132 + 12)) = true := allB_join (f := okG m t fns u gns) (n := 132) (k := 12) (okT10 m t fns u gns) (okS11 m t fns u gns)
theorem okT12 : allB (okG m t fns u gns) (good.take (144 + 12)) = true := allB_join (f := okG m t fns u gns) (n := 144) (k := 12) (okT11 m t fns u gns) (okS12 m t fns u gns)
theorem okT13 : allB (okG m t fns u gns) (good.take (156 + 12)) = true := allB_join (f := okG m t fns u gns) (n := 156) (k := 12) (okT12 m t fns u gns) (okS13 m t fns u gns)
end
theorem ok_all (m : Int) : okAll m := fun t fns u gns f fn hf => by
  have hf : @Bool.rec (fun _ => Option Func) none (Tryz.prog.funcs[f]?) (memN good f) = some fn := hf
  rcases brec hf with ⟨_, hf⟩ | ⟨e, hf⟩
  · cases hf
  · have h := okT13 m t fns u gns
    rw [List.take_of_length_le (show good.length ≤ _ by decide), allB_eq] at h
    have h := List.all_eq_true.1 h f (memN_mem _ _ e)
    refine ⟨hf, ?_⟩
    have h : @Option.rec Func (fun _ => Bool) true (fun fn => okFn (cfg4 m t fns u gns) f fn) (Tryz.prog.funcs[f]?) = true := h
    have e2 : @Option.rec Func (fun _ => Bool) true (fun fn => okFn (cfg4 m t fns u gns) f fn) (some fn) = true := by rw [← hf]; exact h
    exact e2
end Go.Fs

namespace Go.Proofs
open Go Go.RowKit
set_option maxRecDepth 100000
theorem big_calls (a : Option Addr) (l c : Nat) (w : World) : Calls Tryz.prog 6 #[.slice a l c] w fun e w' => e = .returned (.bool (decide ((1048576 : Int) < l))) ∧ w' = w := by
  go_enter Tryz.func6, Tryz.ntmps6
  go_wp2
  go_ret
  exact ⟨by simp, rfl⟩
end Go.Proofs

namespace Go.Fs
open Go Go.Proofs
set_option maxRecDepth 100000
theorem okCode_congr {K K' : Cfg} (hP : K.P = K'.P) (ho : K.ord = K'.ord) (n fid : Nat) : ∀ c : Code, okCode K n fid c = okCode K' n fid c := by
  intro c
  induction c with
  | region id ops draw => simp only [okCode, okReg, ordOf, hP, ho]
  | seq a b ha hb => simp only [okCode, ha, hb]
  | cond q a b ha hb => simp only [okCode, ha, hb]
  | block i a ha => simp only [okCode, ha]
  | loop a ha => simp only [okCode, ha]
  | _ => rfl
theorem BodyOK.congr {K K' : Cfg} (hP : K.P = K'.P) (ho : K.ord = K'.ord) (hb : K.body = K'.body) (h : BodyOK K) : BodyOK K' := fun f fn hf => by
  rw [← hb] at hf
  obtain ⟨h1, h2⟩ := h f fn hf
  refine ⟨by rw [← hP]; exact h1, ?_⟩
  rw [← h2]
  unfold okFn
  cases fn.body with
  | none => rfl
  | some b => simp only [okCode_congr hP ho]
noncomputable section
/-- Is a slice longer than 1048576? -/
def natBig (args : List FV) (H : HT) (c : Nat) : Out := @List.rec FV (fun _ => Out) .no (fun x r _ => @List.rec FV (fun _ => Out)
  (match x with | .sl _ es => .ok (.bool (ilt 1048576 (.ofNat (len es)))) H c | .val (.slice _ l _) => .ok (.bool (ilt 1048576 (.ofNat l))) H c | _ => .no) (fun _ _ _ => .no) r) args
def natT (t : List Ent3) (fns : List Nat) (u : List Ent4) (gns : List Nat) (f : Nat) : Option (List FV → HT → Nat → Out) := @Bool.rec (fun _ => Option (List FV → HT → Nat → Out)) (natG t fns u gns f) (some natBig) (Nat.beq f 6)
def cfg5 (m : Int) (t : List Ent3) (fns : List Nat) (u : List Ent4) (gns : List Nat) : Cfg := ⟨Tryz.prog, glob m, natT t fns u gns, bodyF, ordF⟩
end
theorem ent6 : Ent Tryz.prog 6 := ⟨_, Tryz.func6, by kernel_rfl, by kernel_rfl⟩
theorem big_ok {m : Int} {l : Nat} {x : FV} {H : HT} {c : Nat} (hx : ∀ Z v, VR Z x v → ∃ a cp, v = .slice a l cp) : c ≤ c ∧ CallN (cfg m [] []) 6 [x] (toL H) c c (.bool (ilt 1048576 (.ofNat l))) (toL H) := by
  refine ⟨Nat.le_refl _, CallN.below ent6 fun Z w F vs hv hok hg => ?_⟩
  obtain ⟨u, rfl, h1⟩ := hv.one'
  obtain ⟨a, cp, rfl⟩ := hx Z u h1
  refine (big_calls a l cp w).mono fun e w' ⟨he, hw⟩ => ⟨_, he, hw ▸ RowKit.Below.refl _ _, ?_⟩
  rw [ilt_eq]
  exact .bool _
theorem natBig_ok {m : Int} {args : List FV} {H : HT} {c : Nat} {x : FV} {H' : HT} {c' : Nat} (h : natBig args H c = .ok x H' c') : c ≤ c' ∧ CallN (cfg m [] []) 6 args (toL H) c c' x (toL H') := by
  match args, h with
  | [], h => exact nomatch (show Out.no = .ok x H' c' from h)
  | [a], h =>
    have h : (match a with | .sl _ es => Out.ok (.bool (ilt 1048576 (.ofNat (len es)))) H c | .val (.slice _ l _) => .ok (.bool (ilt 1048576 (.ofNat l))) H c | _ => .no) = .ok x H' c' := h
    split at h
    · rename_i sz es
      obtain ⟨rfl, rfl, rfl⟩ := Out.ok.inj h
      rw [len_eq]
      refine big_ok fun Z v hv => ?_
      cases hv with
      | sl => exact ⟨_, _, rfl⟩
      | slN => exact ⟨_, _, rfl⟩
      | slN' => exact ⟨_, _, rfl⟩
    · obtain ⟨rfl, rfl, rfl⟩ := Out.ok.inj h
      refine big_ok fun Z v hv => ?_
      cases hv
      exact ⟨_, _, rfl⟩
    · cases h
  | a :: b :: r, h => exact nomatch (show Out.no = .ok x H' c' from h)
theorem natT_ok {m : Int} {t : List Ent3} {fns : List Nat} {u : List Ent4} {gns : List Nat} (ht : Tab m t) (hu : TabC m u) : NatOK (cfg5 m t fns u gns) := by
  intro f g hf args H c x H' c' h
  have hf : @Bool.rec (fun _ => Option (List FV → HT → Nat → Out)) (natG t fns u gns f) (some natBig) (Nat.beq f 6) = some g := hf
  rcases brec hf with ⟨_, hf⟩ | ⟨e, hf⟩
  · exact natG_ok (m := m) (t := t) (fns := fns) (u := u) (gns := gns) ht hu f g hf args H c x H' c' h
  · cases hf; cases Nat.eq_of_beq_eq_true e
    exact natBig_ok (m := m) h
/-- The law's own run. -/
noncomputable def callT (m : Int) (t : List Ent3) (fns : List Nat) (u : List Ent4) (gns : List Nat) : CallT := callF (cfg5 m t fns u gns) (runQ (cfg5 m t fns u gns) 100000)
theorem callT_ok {m : Int} {t : List Ent3} {fns : List Nat} {u : List Ent4} {gns : List Nat} (ht : Tab m t) (hu : TabC m u) : CallOK (cfg5 m t fns u gns) (callT m t fns u gns) := by
  unfold callT
  rw [runQ_eq]
  exact callI_ok (K := cfg5 m t fns u gns) mixed (BodyOK.congr (K := cfg4 m t fns u gns) rfl rfl rfl (ok_all m t fns u gns)) (natT_ok ht hu) 100000
end Go.Fs
