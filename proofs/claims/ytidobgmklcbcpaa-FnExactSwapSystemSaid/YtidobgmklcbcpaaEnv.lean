/-
  What the evaluator is told of each function, and each function's code as an equation. Written by a program.
-/
import Derived.Test.YtidobgmklcbcpaaEvSym
import Derived.Test.YtidobgmklcbcpaaEvPrim
import Derived.Test.YtidobgmklcbcpaaChecked
set_option maxRecDepth 100000
namespace Go.Proofs.Ytidobgmklcbcpaa
namespace Ev

noncomputable def hints : List (Nat × Hint) := [
  (3, { mode := 1, exp := false, thaw := [], live := ([]) }),
  (4, { mode := 1, exp := false, thaw := [], live := ([]) }),
  (5, { mode := 1, exp := false, thaw := [], live := ([]) }),
  (6, { mode := 1, exp := false, thaw := [], live := ([]) }),
  (7, { mode := 1, exp := false, thaw := [], live := ([]) }),
  (8, { mode := 1, exp := false, thaw := [], live := ([]) }),
  (9, { mode := 1, exp := false, thaw := [], live := ([]) }),
  (10, { mode := 1, exp := false, thaw := [], live := ([]) }),
  (11, { mode := 1, exp := false, thaw := [], live := (false :: false :: true :: true :: true :: true :: true :: false :: false :: false :: true :: false :: false :: false :: false :: false :: false :: false :: false :: false :: false :: false :: false :: false :: false :: false :: false :: false :: false :: false :: false :: false :: false :: false :: false :: false :: false :: false :: false :: false :: false :: false :: false :: false :: false :: false :: false :: false :: false :: false :: false :: false :: false :: false :: false :: false :: false :: false :: false :: false :: false :: false :: false :: false :: false :: false :: false :: false :: false :: false :: false :: false :: false :: false :: false :: false :: false :: false :: false :: false :: false :: false :: false :: false :: false :: false :: false :: false :: false :: false :: false :: false :: false :: false :: false :: false :: false :: false :: false :: []) }),
  (12, { mode := 1, exp := false, thaw := [], live := ([]) }),
  (13, { mode := 1, exp := false, thaw := [], live := ([]) }),
  (14, { mode := 1, exp := false, thaw := [], live := (true :: true :: true :: false :: false :: false :: true :: true :: true :: false :: false :: false :: false :: false :: false :: false :: false :: false :: false :: false :: false :: false :: false :: false :: false :: false :: false :: false :: false :: false :: false :: false :: false :: false :: false :: false :: false :: false :: false :: false :: false :: false :: []) }),
  (15, { mode := 1, exp := false, thaw := [], live := (true :: true :: true :: false :: false :: false :: true :: true :: false :: false :: false :: false :: false :: false :: false :: false :: false :: false :: false :: false :: false :: false :: false :: false :: false :: false :: true :: true :: false :: false :: false :: false :: false :: false :: false :: false :: false :: false :: false :: false :: false :: false :: false :: []) }),
  (16, { mode := 1, exp := false, thaw := [], live := ([]) }),
  (17, { mode := 1, exp := false, thaw := [], live := ([]) }),
  (18, { mode := 1, exp := false, thaw := [], live := (true :: false :: true :: true :: true :: false :: false :: false :: false :: false :: true :: true :: false :: false :: false :: false :: false :: false :: false :: false :: false :: false :: []) }),
  (19, { mode := 1, exp := false, thaw := [], live := (false :: true :: true :: false :: false :: false :: true :: true :: false :: false :: false :: false :: false :: false :: false :: false :: false :: false :: false :: false :: false :: false :: false :: false :: true :: true :: true :: false :: false :: false :: false :: false :: false :: false :: false :: false :: false :: false :: false :: []) }),
  (20, { mode := 1, exp := false, thaw := [], live := ([]) }),
  (21, { mode := 1, exp := false, thaw := [], live := (true :: true :: true :: false :: false :: false :: true :: true :: true :: false :: false :: false :: false :: false :: false :: false :: false :: false :: false :: false :: false :: false :: false :: false :: false :: false :: false :: false :: false :: false :: false :: false :: false :: false :: false :: false :: false :: []) }),
  (22, { mode := 1, exp := false, thaw := [], live := ([]) }),
  (23, { mode := 1, exp := false, thaw := [], live := (true :: true :: false :: false :: true :: false :: false :: false :: false :: false :: false :: false :: false :: false :: false :: true :: true :: false :: false :: false :: false :: false :: false :: false :: false :: false :: []) }),
  (24, { mode := 1, exp := false, thaw := [], live := ([]) }),
  (25, { mode := 2, exp := false, thaw := [], live := ([]) }),
  (26, { mode := 2, exp := true, thaw := [], live := ([]) }),
  (27, { mode := 2, exp := false, thaw := [], live := ([]) }),
  (28, { mode := 0, exp := true, thaw := [], live := ([]) }),
  (29, { mode := 1, exp := false, thaw := [], live := ([]) }),
  (30, { mode := 0, exp := false, thaw := [], live := ([]) }),
  (31, { mode := 1, exp := false, thaw := [], live := ([]) }),
  (32, { mode := 1, exp := false, thaw := [], live := ([]) }),
  (33, { mode := 2, exp := false, thaw := [], live := (false :: true :: true :: true :: false :: false :: true :: true :: true :: true :: true :: true :: true :: false :: false :: false :: false :: false :: false :: false :: false :: false :: false :: false :: false :: false :: false :: false :: false :: false :: false :: false :: false :: false :: false :: false :: false :: false :: false :: false :: false :: false :: false :: false :: false :: false :: false :: false :: false :: false :: false :: false :: false :: false :: false :: false :: false :: false :: false :: false :: false :: false :: false :: false :: false :: false :: false :: false :: false :: false :: false :: false :: false :: false :: []) }),
  (34, { mode := 2, exp := true, thaw := [], live := ([]) }),
  (35, { mode := 3, exp := true, thaw := [0, 0, 0, 0, 0, 0, 0, 0, 0, 0, 0, 2, 0, 0, 0, 0, 0, 0, 0, 0, 0, 0, 0, 0, 0, 0, 0, 0, 0, 0, 0, 0, 0, 0, 0, 0, 0, 0, 0, 0, 0, 0, 0, 0, 0, 0, 0, 0, 0, 0, 0, 0, 0, 0, 0, 0, 0, 0, 0, 0, 0, 0, 0, 0, 0, 0, 0, 0, 0, 1002], live := (false :: true :: true :: false :: false :: false :: true :: true :: true :: true :: true :: true :: false :: false :: false :: false :: false :: false :: false :: false :: false :: false :: false :: false :: false :: false :: false :: false :: false :: false :: false :: false :: false :: false :: false :: false :: false :: false :: false :: false :: false :: true :: true :: false :: false :: false :: false :: true :: true :: true :: false :: false :: false :: false :: false :: false :: false :: false :: false :: false :: false :: false :: false :: false :: false :: false :: false :: false :: false :: false :: false :: false :: false :: false :: []) }),
  (36, { mode := 1, exp := false, thaw := [], live := ([]) }),
  (37, { mode := 0, exp := false, thaw := [], live := ([]) }),
  (38, { mode := 1, exp := false, thaw := [], live := ([]) }),
  (39, { mode := 2, exp := false, thaw := [], live := ([]) }),
  (40, { mode := 3, exp := true, thaw := [], live := ([]) }),
  (41, { mode := 2, exp := false, thaw := [], live := ([]) }),
  (42, { mode := 1, exp := false, thaw := [], live := (false :: false :: true :: true :: true :: true :: false :: false :: false :: false :: false :: false :: false :: false :: false :: false :: false :: false :: false :: false :: false :: false :: false :: false :: false :: false :: false :: false :: false :: false :: false :: false :: false :: false :: false :: false :: false :: false :: false :: false :: false :: false :: false :: false :: false :: []) }),
  (43, { mode := 1, exp := false, thaw := [], live := (false :: true :: true :: false :: false :: false :: false :: false :: false :: false :: false :: false :: false :: false :: false :: false :: false :: false :: false :: false :: true :: true :: true :: false :: false :: false :: false :: false :: false :: false :: false :: false :: false :: false :: false :: false :: false :: false :: false :: false :: false :: false :: false :: false :: false :: false :: false :: false :: false :: false :: false :: false :: false :: false :: false :: false :: false :: false :: false :: false :: false :: false :: false :: false :: false :: false :: false :: false :: []) }),
  (44, { mode := 2, exp := false, thaw := [], live := ([]) }),
  (45, { mode := 1, exp := false, thaw := [], live := (false :: false :: true :: true :: true :: true :: false :: false :: false :: false :: false :: false :: false :: false :: false :: false :: false :: false :: false :: false :: false :: false :: false :: false :: false :: false :: false :: false :: false :: false :: false :: false :: false :: false :: false :: false :: false :: false :: false :: false :: false :: false :: false :: false :: false :: false :: false :: []) }),
  (46, { mode := 1, exp := false, thaw := [0, 0, 0, 0, 0, 0, 0, 2], live := (true :: false :: false :: false :: true :: true :: true :: true :: false :: false :: false :: false :: false :: false :: false :: false :: false :: false :: false :: false :: false :: false :: false :: false :: false :: false :: false :: false :: false :: false :: false :: false :: false :: false :: false :: false :: false :: false :: false :: false :: false :: false :: false :: false :: false :: false :: false :: false :: []) }),
  (47, { mode := 1, exp := false, thaw := [], live := (false :: true :: false :: false :: true :: true :: true :: false :: false :: false :: false :: false :: false :: false :: false :: false :: false :: false :: false :: false :: false :: true :: true :: false :: false :: false :: false :: false :: false :: false :: false :: false :: false :: false :: false :: []) }),
  (48, { mode := 1, exp := false, thaw := [], live := (false :: true :: true :: true :: false :: false :: false :: false :: false :: false :: false :: false :: false :: false :: false :: false :: false :: false :: false :: false :: false :: false :: false :: false :: false :: false :: false :: false :: false :: false :: false :: false :: false :: false :: false :: false :: false :: false :: true :: true :: true :: false :: false :: false :: false :: false :: false :: false :: true :: true :: true :: false :: false :: false :: false :: false :: false :: false :: false :: false :: false :: false :: false :: false :: false :: []) }),
  (49, { mode := 2, exp := false, thaw := [], live := (false :: true :: true :: true :: true :: true :: false :: false :: false :: false :: false :: false :: false :: false :: false :: false :: false :: false :: false :: false :: false :: false :: false :: false :: false :: false :: false :: false :: false :: false :: false :: false :: false :: false :: false :: false :: false :: false :: false :: false :: false :: false :: false :: false :: false :: false :: false :: []) }),
  (50, { mode := 3, exp := true, thaw := [], live := (false :: true :: true :: true :: true :: true :: false :: false :: false :: false :: false :: false :: false :: false :: true :: true :: false :: false :: false :: false :: false :: false :: false :: false :: false :: false :: false :: false :: false :: false :: false :: false :: false :: false :: false :: false :: false :: false :: false :: false :: false :: false :: false :: false :: false :: false :: false :: []) }),
  (51, { mode := 1, exp := false, thaw := [], live := (true :: true :: false :: false :: true :: true :: false :: false :: false :: false :: false :: false :: false :: false :: false :: false :: false :: false :: false :: false :: false :: false :: false :: false :: false :: false :: []) }),
  (52, { mode := 0, exp := false, thaw := [], live := (true :: true :: false :: false :: true :: true :: false :: false :: false :: false :: false :: false :: false :: false :: false :: false :: false :: false :: false :: false :: []) }),
  (53, { mode := 1, exp := false, thaw := [], live := (true :: true :: false :: false :: true :: true :: false :: false :: false :: false :: false :: false :: false :: false :: false :: false :: false :: false :: false :: false :: false :: false :: []) }),
  (54, { mode := 2, exp := false, thaw := [], live := (false :: true :: true :: true :: false :: false :: true :: true :: true :: true :: false :: false :: false :: false :: false :: false :: false :: false :: false :: false :: false :: false :: false :: false :: false :: false :: false :: false :: false :: false :: false :: false :: false :: false :: false :: false :: false :: false :: false :: false :: false :: false :: false :: false :: false :: false :: false :: false :: false :: false :: false :: false :: false :: false :: false :: false :: false :: false :: false :: false :: false :: []) }),
  (55, { mode := 3, exp := true, thaw := [], live := (false :: true :: true :: false :: false :: false :: true :: true :: true :: false :: false :: false :: false :: false :: false :: false :: false :: false :: false :: false :: false :: false :: false :: false :: false :: false :: false :: false :: false :: false :: false :: false :: false :: false :: true :: true :: true :: false :: false :: false :: false :: false :: false :: false :: false :: false :: false :: false :: false :: false :: false :: false :: false :: false :: false :: false :: false :: false :: false :: false :: []) }),
  (56, { mode := 1, exp := false, thaw := [], live := (true :: false :: true :: true :: false :: false :: false :: false :: false :: false :: false :: false :: false :: false :: false :: false :: false :: false :: false :: false :: false :: false :: false :: []) }),
  (57, { mode := 1, exp := false, thaw := [], live := ([]) }),
  (58, { mode := 1, exp := false, thaw := [], live := ([]) }),
  (59, { mode := 1, exp := false, thaw := [], live := ([]) }),
  (60, { mode := 1, exp := false, thaw := [], live := ([]) }),
  (61, { mode := 1, exp := false, thaw := [], live := ([]) }),
  (62, { mode := 1, exp := false, thaw := [], live := ([]) }),
  (63, { mode := 1, exp := false, thaw := [], live := ([]) }),
  (64, { mode := 2, exp := true, thaw := [], live := ([]) }),
  (65, { mode := 0, exp := false, thaw := [], live := ([]) }),
  (66, { mode := 0, exp := false, thaw := [], live := (true :: false :: false :: false :: false :: false :: true :: true :: true :: true :: false :: false :: false :: false :: false :: false :: false :: false :: false :: false :: false :: false :: false :: false :: false :: false :: false :: false :: false :: false :: false :: false :: false :: false :: false :: false :: []) }),
  (67, { mode := 0, exp := false, thaw := [], live := ([]) }),
  (68, { mode := 0, exp := false, thaw := [], live := ([]) }),
  (69, { mode := 1, exp := false, thaw := [], live := ([]) }),
  (70, { mode := 2, exp := false, thaw := [0, 0, 0, 2], live := (true :: false :: true :: true :: false :: true :: false :: false :: false :: false :: false :: false :: false :: false :: false :: false :: false :: []) }),
  (71, { mode := 0, exp := false, thaw := [], live := ([]) }),
  (72, { mode := 1, exp := false, thaw := [], live := ([]) }),
  (73, { mode := 1, exp := false, thaw := [], live := ([]) }),
  (74, { mode := 1, exp := false, thaw := [], live := ([]) }),
  (75, { mode := 1, exp := false, thaw := [0, 0, 0, 0, 0, 2], live := (true :: true :: false :: false :: true :: true :: false :: false :: true :: true :: false :: false :: false :: false :: false :: false :: false :: false :: false :: false :: false :: false :: false :: false :: false :: false :: []) }),
  (76, { mode := 1, exp := false, thaw := [], live := ([]) }),
  (77, { mode := 1, exp := false, thaw := [], live := ([]) }),
  (78, { mode := 1, exp := false, thaw := [], live := (false :: true :: true :: true :: false :: false :: false :: false :: false :: false :: false :: false :: false :: false :: false :: false :: false :: false :: false :: false :: false :: false :: false :: false :: false :: false :: false :: false :: false :: false :: false :: false :: false :: false :: false :: false :: false :: false :: false :: false :: false :: false :: false :: false :: false :: false :: false :: false :: false :: false :: false :: false :: false :: false :: false :: []) }),
  (79, { mode := 1, exp := false, thaw := [], live := (true :: false :: false :: true :: true :: true :: false :: false :: false :: false :: false :: false :: false :: false :: false :: false :: false :: false :: false :: []) }),
  (80, { mode := 2, exp := false, thaw := [], live := ([]) }),
  (81, { mode := 2, exp := true, thaw := [], live := (true :: false :: true :: true :: true :: false :: false :: false :: false :: false :: false :: false :: false :: false :: false :: false :: false :: false :: false :: false :: false :: false :: false :: []) }),
  (82, { mode := 1, exp := false, thaw := [], live := (true :: false :: true :: false :: true :: false :: true :: true :: true :: true :: true :: false :: false :: false :: false :: false :: false :: false :: false :: false :: false :: false :: false :: false :: false :: false :: false :: false :: false :: false :: false :: false :: false :: false :: false :: false :: false :: false :: false :: false :: false :: false :: false :: false :: false :: false :: false :: false :: false :: []) }),
  (83, { mode := 1, exp := false, thaw := [], live := ([]) }),
  (84, { mode := 0, exp := true, thaw := [], live := ([]) }),
  (85, { mode := 0, exp := true, thaw := [], live := ([]) }),
  (86, { mode := 1, exp := false, thaw := [], live := (true :: true :: false :: false :: true :: true :: false :: false :: false :: false :: false :: false :: false :: false :: false :: false :: false :: false :: false :: false :: false :: false :: false :: false :: false :: false :: false :: []) }),
  (87, { mode := 0, exp := false, thaw := [], live := (true :: true :: false :: false :: true :: true :: false :: false :: false :: false :: false :: false :: false :: false :: false :: false :: false :: false :: false :: false :: false :: false :: false :: false :: false :: false :: false :: false :: false :: false :: false :: false :: false :: false :: []) }),
  (88, { mode := 1, exp := false, thaw := [], live := (true :: true :: false :: false :: true :: true :: false :: false :: false :: false :: false :: false :: false :: false :: false :: false :: false :: false :: false :: false :: false :: false :: false :: false :: false :: false :: false :: false :: false :: false :: false :: false :: false :: false :: false :: false :: false :: false :: false :: false :: []) }),
  (89, { mode := 1, exp := false, thaw := [], live := (true :: true :: false :: false :: true :: true :: false :: false :: false :: false :: false :: false :: false :: false :: false :: false :: false :: false :: false :: false :: false :: false :: false :: false :: false :: false :: false :: []) }),
  (90, { mode := 1, exp := false, thaw := [], live := ([]) }),
  (91, { mode := 1, exp := false, thaw := [], live := (false :: true :: true :: true :: true :: false :: false :: false :: false :: false :: false :: false :: false :: false :: false :: false :: false :: false :: false :: false :: false :: false :: false :: false :: false :: false :: false :: false :: false :: false :: false :: false :: false :: false :: false :: false :: false :: false :: false :: false :: false :: false :: false :: false :: []) }),
  (92, { mode := 2, exp := false, thaw := [], live := (true :: false :: true :: true :: true :: false :: false :: false :: false :: false :: false :: false :: false :: false :: false :: false :: false :: false :: []) }),
  (93, { mode := 1, exp := false, thaw := [], live := ([]) }),
  (94, { mode := 2, exp := true, thaw := [0, 0, 0, 0, 0, 0, 0, 1002], live := (true :: false :: true :: true :: true :: false :: false :: false :: false :: false :: false :: false :: false :: false :: false :: false :: false :: false :: false :: false :: false :: false :: false :: []) }),
  (95, { mode := 2, exp := true, thaw := [], live := (true :: false :: true :: true :: true :: false :: false :: false :: false :: false :: false :: false :: false :: false :: false :: false :: false :: false :: false :: false :: false :: false :: []) }),
  (96, { mode := 2, exp := false, thaw := [], live := (false :: false :: true :: true :: true :: true :: true :: false :: false :: false :: false :: false :: false :: false :: false :: false :: false :: false :: true :: true :: true :: false :: false :: false :: false :: true :: false :: false :: false :: false :: false :: false :: false :: false :: false :: true :: true :: true :: false :: false :: false :: false :: false :: false :: false :: false :: false :: false :: false :: false :: false :: false :: false :: false :: []) }),
  (97, { mode := 0, exp := true, thaw := [], live := ([]) }),
  (98, { mode := 1, exp := false, thaw := [], live := (true :: true :: false :: false :: true :: true :: false :: false :: false :: false :: false :: false :: false :: false :: false :: false :: false :: false :: false :: false :: false :: false :: false :: false :: false :: false :: false :: []) }),
  (99, { mode := 1, exp := false, thaw := [], live := (true :: true :: false :: false :: true :: true :: false :: false :: false :: false :: false :: false :: false :: false :: false :: false :: false :: false :: false :: false :: false :: false :: false :: false :: false :: false :: []) }),
  (100, { mode := 0, exp := false, thaw := [], live := (true :: true :: false :: false :: true :: true :: false :: false :: false :: false :: false :: false :: false :: false :: false :: false :: false :: false :: false :: []) }),
  (101, { mode := 0, exp := false, thaw := [], live := (true :: true :: false :: false :: true :: true :: false :: false :: false :: false :: false :: false :: false :: false :: false :: false :: false :: false :: false :: false :: false :: []) }),
  (102, { mode := 1, exp := false, thaw := [], live := (true :: true :: false :: false :: true :: true :: false :: false :: false :: false :: false :: false :: false :: false :: false :: false :: false :: false :: false :: false :: false :: []) }),
  (103, { mode := 1, exp := false, thaw := [], live := (true :: true :: false :: false :: true :: true :: false :: false :: false :: false :: false :: false :: false :: false :: false :: false :: false :: false :: false :: false :: false :: false :: false :: []) }),
  (104, { mode := 1, exp := false, thaw := [], live := ([]) }),
  (105, { mode := 2, exp := false, thaw := [], live := (true :: false :: true :: true :: true :: true :: false :: false :: false :: false :: false :: false :: false :: false :: false :: false :: false :: false :: false :: false :: false :: false :: false :: false :: false :: false :: false :: false :: false :: false :: false :: false :: false :: false :: false :: false :: false :: false :: false :: false :: false :: false :: false :: false :: false :: false :: false :: false :: []) }),
  (106, { mode := 0, exp := true, thaw := [], live := ([]) }),
  (107, { mode := 0, exp := false, thaw := [], live := ([]) }),
  (108, { mode := 0, exp := false, thaw := [], live := ([]) }),
  (109, { mode := 1, exp := false, thaw := [], live := ([]) }),
  (110, { mode := 0, exp := false, thaw := [], live := ([]) }),
  (111, { mode := 1, exp := false, thaw := [], live := (true :: true :: false :: false :: true :: true :: false :: false :: false :: false :: false :: false :: false :: false :: false :: false :: false :: false :: false :: false :: false :: false :: false :: false :: false :: false :: []) }),
  (112, { mode := 1, exp := false, thaw := [], live := (true :: true :: false :: false :: true :: true :: false :: false :: false :: false :: false :: false :: false :: false :: false :: false :: false :: false :: false :: false :: false :: false :: false :: false :: false :: false :: []) }),
  (113, { mode := 0, exp := false, thaw := [], live := (true :: false :: true :: true :: false :: false :: false :: false :: false :: false :: false :: false :: false :: false :: false :: false :: false :: false :: false :: false :: false :: false :: false :: false :: false :: false :: false :: false :: []) }),
  (114, { mode := 1, exp := false, thaw := [], live := ([]) }),
  (115, { mode := 1, exp := false, thaw := [], live := (true :: true :: false :: false :: true :: true :: false :: false :: false :: false :: false :: false :: false :: false :: false :: false :: false :: false :: []) }),
  (116, { mode := 1, exp := false, thaw := [], live := ([]) }),
  (117, { mode := 1, exp := false, thaw := [], live := ([]) }),
  (118, { mode := 1, exp := false, thaw := [], live := (true :: false :: true :: true :: false :: false :: false :: false :: false :: false :: false :: false :: false :: false :: false :: false :: false :: false :: false :: false :: []) }),
  (119, { mode := 0, exp := false, thaw := [], live := ([]) }),
  (120, { mode := 0, exp := false, thaw := [], live := ([]) }),
  (121, { mode := 0, exp := false, thaw := [], live := ([]) }),
  (122, { mode := 1, exp := false, thaw := [], live := (true :: true :: false :: false :: true :: true :: false :: false :: false :: false :: false :: false :: false :: false :: false :: false :: false :: false :: false :: false :: []) }),
  (123, { mode := 0, exp := false, thaw := [], live := ([]) }),
  (124, { mode := 1, exp := false, thaw := [], live := ([]) }),
  (125, { mode := 1, exp := false, thaw := [], live := ([]) }),
  (126, { mode := 1, exp := false, thaw := [], live := (false :: false :: true :: true :: false :: false :: true :: true :: true :: false :: false :: false :: false :: false :: false :: false :: false :: false :: []) }),
  (127, { mode := 1, exp := false, thaw := [], live := ([]) }),
  (128, { mode := 1, exp := false, thaw := [], live := ([]) }),
  (129, { mode := 1, exp := false, thaw := [], live := ([]) }),
  (130, { mode := 1, exp := false, thaw := [], live := (true :: false :: true :: false :: false :: false :: true :: true :: false :: false :: false :: false :: false :: false :: false :: false :: false :: false :: false :: false :: false :: false :: false :: false :: false :: false :: false :: false :: false :: false :: false :: []) }),
  (131, { mode := 1, exp := false, thaw := [], live := (true :: true :: false :: false :: true :: true :: true :: false :: false :: false :: false :: false :: false :: false :: false :: false :: false :: false :: []) }),
  (132, { mode := 2, exp := true, thaw := [], live := (true :: false :: true :: true :: true :: false :: false :: false :: false :: false :: false :: false :: false :: false :: false :: false :: false :: false :: false :: false :: false :: false :: []) }),
  (133, { mode := 1, exp := false, thaw := [], live := (true :: true :: false :: false :: true :: true :: false :: false :: false :: false :: false :: false :: false :: false :: false :: false :: false :: false :: false :: false :: false :: false :: false :: false :: false :: false :: []) }),
  (134, { mode := 0, exp := false, thaw := [], live := (true :: true :: false :: false :: true :: true :: false :: false :: false :: false :: false :: false :: false :: false :: false :: false :: false :: false :: false :: []) }),
  (135, { mode := 1, exp := false, thaw := [], live := (true :: true :: false :: false :: true :: true :: false :: false :: false :: false :: false :: false :: false :: false :: false :: false :: false :: false :: false :: false :: false :: []) }),
  (137, { mode := 1, exp := false, thaw := [], live := ([]) }),
  (138, { mode := 0, exp := false, thaw := [], live := (true :: false :: true :: true :: true :: false :: false :: false :: false :: false :: false :: false :: false :: false :: false :: false :: false :: false :: false :: false :: false :: false :: false :: false :: false :: false :: false :: false :: false :: false :: false :: false :: false :: false :: false :: false :: false :: false :: false :: []) }),
  (139, { mode := 0, exp := false, thaw := [], live := ([]) }),
  (140, { mode := 0, exp := false, thaw := [], live := ([]) }),
  (141, { mode := 0, exp := false, thaw := [], live := (true :: false :: true :: true :: true :: false :: false :: false :: false :: false :: false :: false :: false :: false :: false :: false :: false :: false :: false :: false :: false :: false :: false :: false :: false :: false :: false :: false :: false :: false :: false :: false :: false :: false :: false :: false :: []) }),
  (142, { mode := 0, exp := false, thaw := [0, 0, 0, 0, 0, 0, 0, 0, 0, 0, 0, 0, 0, 0, 0, 0, 0, 0, 0, 0, 0, 0, 0, 0, 0, 0, 0, 0, 0, 0, 0, 0, 0, 0, 0, 0, 0, 0, 0, 0, 0, 0, 0, 0, 0, 0, 0, 0, 0, 0, 0, 0, 0, 0, 0, 0, 0, 0, 0, 0, 0, 0, 0, 0, 0, 0, 0, 0, 0, 0, 0, 0, 0, 0, 0, 0, 0, 0, 0, 0, 0, 0, 0, 1002, 0, 0, 0, 0, 0, 0, 0, 0, 0, 0, 0, 0, 0, 0, 0, 0, 0, 0, 0, 0, 0, 1002], live := (false :: false :: false :: false :: true :: true :: true :: false :: false :: false :: false :: false :: false :: false :: false :: false :: false :: false :: false :: false :: false :: false :: false :: false :: false :: false :: false :: false :: false :: false :: false :: false :: false :: false :: false :: false :: false :: false :: false :: false :: false :: false :: false :: false :: false :: false :: false :: false :: false :: false :: false :: false :: false :: false :: false :: false :: false :: false :: false :: false :: false :: false :: false :: false :: false :: false :: false :: false :: false :: false :: false :: false :: false :: false :: false :: false :: false :: false :: false :: false :: false :: false :: false :: false :: false :: false :: false :: false :: false :: false :: false :: false :: false :: false :: false :: false :: false :: false :: false :: false :: false :: false :: false :: false :: false :: false :: false :: false :: false :: false :: false :: false :: false :: false :: []) }),
  (143, { mode := 0, exp := false, thaw := [], live := ([]) }),
  (144, { mode := 1, exp := false, thaw := [], live := ([]) }),
  (145, { mode := 1, exp := false, thaw := [], live := (false :: true :: true :: true :: true :: true :: true :: true :: true :: true :: true :: true :: true :: true :: true :: true :: false :: false :: false :: false :: false :: false :: false :: false :: false :: false :: false :: false :: false :: false :: false :: false :: false :: false :: false :: false :: false :: false :: false :: false :: false :: false :: false :: false :: false :: false :: false :: false :: false :: false :: false :: false :: false :: false :: false :: false :: false :: false :: false :: false :: false :: false :: false :: false :: false :: false :: false :: false :: false :: false :: false :: false :: false :: false :: false :: false :: false :: false :: false :: false :: false :: false :: false :: false :: false :: false :: false :: false :: false :: false :: false :: false :: false :: false :: false :: false :: false :: false :: false :: false :: false :: false :: false :: false :: false :: false :: false :: []) }),
  (146, { mode := 1, exp := false, thaw := [], live := ([]) }),
  (147, { mode := 0, exp := false, thaw := [], live := ([]) }),
  (148, { mode := 1, exp := false, thaw := [], live := (true :: true :: false :: false :: true :: false :: false :: true :: true :: false :: false :: false :: false :: false :: false :: false :: false :: false :: false :: []) }),
  (149, { mode := 0, exp := false, thaw := [], live := (true :: true :: true :: true :: true :: false :: false :: false :: false :: false :: true :: true :: false :: false :: false :: false :: false :: false :: false :: false :: false :: false :: false :: false :: false :: false :: false :: false :: false :: false :: false :: false :: false :: false :: false :: false :: false :: false :: false :: false :: false :: false :: false :: false :: false :: false :: false :: false :: false :: false :: false :: false :: false :: false :: false :: false :: false :: false :: false :: false :: false :: false :: false :: false :: false :: false :: false :: false :: false :: false :: false :: false :: false :: false :: false :: false :: false :: false :: false :: false :: false :: false :: false :: false :: false :: false :: false :: false :: false :: false :: false :: false :: false :: false :: false :: false :: false :: false :: false :: false :: false :: false :: false :: false :: false :: false :: false :: false :: false :: false :: false :: false :: false :: false :: false :: false :: false :: false :: false :: false :: false :: false :: false :: false :: false :: false :: false :: false :: false :: false :: false :: false :: false :: false :: false :: false :: false :: false :: false :: false :: false :: false :: false :: false :: false :: false :: false :: false :: []) }),
  (150, { mode := 1, exp := false, thaw := [], live := ([]) }),
  (151, { mode := 1, exp := false, thaw := [], live := ([]) }),
  (152, { mode := 1, exp := false, thaw := [], live := ([]) }),
  (153, { mode := 2, exp := false, thaw := [], live := (true :: false :: true :: true :: true :: false :: false :: false :: false :: true :: true :: false :: false :: false :: false :: false :: false :: false :: false :: false :: false :: false :: false :: false :: false :: false :: false :: false :: false :: false :: false :: false :: false :: false :: false :: false :: false :: false :: false :: false :: false :: false :: false :: false :: false :: false :: false :: false :: false :: false :: false :: false :: false :: false :: false :: false :: false :: false :: false :: false :: false :: false :: false :: false :: false :: false :: false :: false :: false :: false :: false :: false :: []) }),
  (154, { mode := 2, exp := false, thaw := [], live := ([]) }),
  (155, { mode := 0, exp := false, thaw := [], live := (true :: false :: true :: true :: false :: false :: false :: false :: true :: true :: true :: true :: true :: true :: false :: false :: false :: false :: false :: false :: false :: false :: false :: false :: false :: false :: false :: false :: false :: false :: false :: false :: false :: false :: false :: false :: false :: false :: false :: false :: false :: false :: false :: false :: false :: false :: false :: false :: false :: false :: false :: false :: []) }),
  (156, { mode := 2, exp := true, thaw := [0, 0, 0, 0, 0, 0, 0, 0, 0, 0, 0, 0, 0, 0, 0, 0, 0, 0, 0, 0, 0, 0, 0, 0, 0, 0, 0, 0, 1002], live := (false :: true :: true :: true :: true :: false :: false :: false :: false :: false :: false :: false :: false :: false :: false :: false :: false :: false :: false :: false :: false :: false :: false :: false :: false :: false :: false :: false :: false :: false :: false :: false :: []) }),
  (157, { mode := 2, exp := false, thaw := [], live := (true :: false :: true :: true :: true :: false :: false :: true :: true :: false :: false :: false :: false :: false :: false :: false :: false :: false :: false :: false :: false :: false :: false :: false :: false :: false :: false :: false :: false :: false :: false :: false :: false :: false :: false :: false :: false :: false :: false :: false :: false :: false :: false :: false :: false :: false :: false :: false :: false :: false :: false :: false :: false :: false :: false :: false :: false :: false :: false :: false :: false :: false :: false :: false :: false :: false :: false :: false :: false :: false :: false :: false :: []) }),
  (158, { mode := 2, exp := false, thaw := [], live := ([]) }),
  (159, { mode := 0, exp := false, thaw := [], live := ([]) }),
  (160, { mode := 2, exp := false, thaw := [], live := (false :: true :: true :: true :: true :: true :: false :: false :: false :: false :: false :: false :: false :: false :: false :: false :: false :: false :: false :: false :: false :: false :: false :: false :: false :: false :: false :: false :: false :: false :: false :: false :: false :: false :: false :: false :: false :: false :: false :: false :: false :: []) }),
  (161, { mode := 2, exp := false, thaw := [], live := (false :: true :: true :: true :: false :: false :: true :: true :: true :: true :: true :: true :: true :: false :: false :: false :: false :: false :: false :: false :: false :: false :: false :: false :: false :: false :: false :: false :: false :: false :: false :: false :: false :: false :: false :: false :: false :: false :: false :: false :: false :: false :: false :: false :: false :: false :: false :: false :: []) }),
  (162, { mode := 1, exp := false, thaw := [], live := (false :: false :: true :: false :: false :: false :: true :: true :: false :: false :: false :: false :: false :: false :: false :: false :: false :: false :: false :: false :: false :: false :: false :: false :: false :: false :: false :: false :: false :: false :: false :: false :: false :: false :: false :: false :: false :: false :: false :: false :: false :: false :: false :: false :: false :: false :: false :: false :: false :: false :: false :: false :: false :: false :: false :: false :: false :: false :: false :: false :: false :: false :: false :: false :: []) }),
  (163, { mode := 2, exp := false, thaw := [], live := (true :: true :: false :: false :: true :: true :: true :: false :: false :: false :: false :: false :: false :: false :: false :: false :: false :: false :: false :: false :: false :: false :: false :: false :: false :: false :: false :: false :: false :: false :: false :: false :: false :: []) }),
  (164, { mode := 1, exp := false, thaw := [], live := (true :: true :: false :: false :: true :: true :: true :: false :: false :: false :: false :: false :: false :: false :: false :: false :: false :: false :: false :: false :: false :: false :: false :: false :: false :: false :: false :: false :: false :: false :: false :: false :: false :: false :: false :: []) }),
  (165, { mode := 1, exp := false, thaw := [], live := (true :: true :: false :: false :: true :: true :: true :: false :: false :: false :: false :: false :: false :: false :: false :: false :: false :: false :: false :: false :: false :: false :: false :: false :: false :: []) }),
  (166, { mode := 2, exp := false, thaw := [], live := (true :: true :: true :: true :: true :: false :: false :: false :: false :: false :: true :: true :: true :: true :: true :: false :: false :: false :: false :: false :: false :: false :: false :: false :: false :: false :: false :: false :: false :: false :: false :: false :: false :: false :: false :: false :: false :: false :: false :: false :: false :: false :: false :: false :: false :: false :: false :: false :: false :: false :: false :: false :: false :: false :: false :: false :: false :: false :: false :: false :: false :: false :: false :: false :: []) }),
  (167, { mode := 0, exp := false, thaw := [], live := ([]) }),
  (168, { mode := 1, exp := false, thaw := [0, 0, 0, 0, 0, 0, 0, 0, 0, 0, 0, 0, 0, 0, 0, 0, 0, 0, 2], live := (false :: false :: true :: true :: false :: false :: false :: false :: false :: false :: true :: true :: false :: true :: true :: true :: false :: true :: true :: false :: false :: false :: false :: false :: false :: false :: false :: false :: false :: false :: false :: false :: false :: true :: true :: true :: false :: false :: false :: false :: false :: false :: false :: true :: true :: true :: false :: false :: false :: false :: false :: false :: false :: false :: false :: false :: false :: false :: false :: false :: false :: false :: false :: []) }),
  (169, { mode := 0, exp := false, thaw := [], live := ([]) }),
  (170, { mode := 0, exp := false, thaw := [], live := (true :: true :: true :: true :: false :: false :: false :: false :: true :: true :: false :: false :: false :: false :: false :: false :: false :: false :: false :: false :: false :: false :: false :: false :: false :: false :: false :: false :: false :: false :: false :: false :: false :: false :: false :: false :: false :: false :: false :: false :: false :: false :: false :: false :: false :: false :: false :: false :: false :: false :: false :: false :: false :: []) }),
  (171, { mode := 0, exp := false, thaw := [], live := (true :: false :: false :: true :: false :: false :: false :: false :: true :: true :: true :: true :: true :: false :: false :: false :: false :: false :: false :: false :: false :: false :: false :: false :: false :: false :: false :: false :: false :: false :: false :: false :: false :: false :: false :: false :: false :: false :: false :: false :: false :: false :: false :: false :: false :: false :: false :: false :: false :: false :: false :: false :: false :: false :: false :: false :: false :: false :: false :: false :: []) }),
  (172, { mode := 0, exp := false, thaw := [], live := (true :: true :: false :: false :: false :: false :: false :: false :: true :: true :: true :: true :: false :: false :: false :: false :: false :: false :: false :: false :: false :: false :: false :: false :: false :: false :: false :: false :: false :: false :: false :: false :: false :: false :: false :: false :: false :: false :: false :: false :: false :: false :: false :: false :: false :: false :: false :: false :: false :: false :: false :: false :: false :: false :: false :: false :: false :: false :: false :: false :: false :: false :: false :: false :: false :: false :: false :: []) }),
  (173, { mode := 0, exp := false, thaw := [], live := ([]) }),
  (174, { mode := 0, exp := false, thaw := [], live := (true :: false :: false :: false :: false :: false :: false :: false :: true :: true :: false :: false :: false :: false :: false :: false :: false :: false :: false :: false :: false :: false :: false :: false :: false :: false :: false :: false :: false :: false :: false :: false :: false :: false :: []) }),
  (175, { mode := 0, exp := false, thaw := [], live := (true :: true :: true :: true :: false :: false :: false :: false :: true :: true :: true :: true :: true :: false :: false :: false :: false :: false :: false :: false :: false :: false :: false :: false :: false :: false :: false :: false :: false :: false :: false :: false :: false :: false :: false :: false :: false :: false :: false :: false :: false :: false :: false :: false :: false :: false :: false :: false :: false :: false :: false :: false :: false :: false :: false :: false :: false :: false :: false :: false :: false :: false :: false :: false :: false :: false :: false :: false :: false :: false :: false :: false :: false :: false :: false :: false :: false :: false :: false :: false :: false :: false :: false :: false :: false :: false :: false :: false :: false :: false :: false :: false :: false :: false :: false :: false :: false :: false :: false :: false :: false :: false :: false :: false :: false :: false :: false :: false :: false :: false :: false :: false :: false :: false :: false :: false :: false :: false :: false :: false :: false :: false :: false :: false :: false :: false :: false :: false :: false :: false :: false :: false :: false :: false :: false :: false :: false :: false :: false :: false :: false :: []) }),
  (176, { mode := 0, exp := false, thaw := [], live := (true :: true :: false :: false :: true :: false :: false :: false :: false :: false :: true :: true :: true :: false :: false :: false :: false :: false :: false :: false :: false :: false :: false :: false :: false :: false :: false :: false :: false :: false :: false :: false :: false :: false :: false :: false :: false :: false :: false :: false :: false :: false :: false :: false :: false :: false :: false :: false :: false :: false :: false :: false :: false :: false :: false :: false :: false :: false :: false :: false :: false :: false :: false :: false :: false :: false :: false :: false :: false :: false :: false :: false :: false :: false :: false :: false :: false :: false :: false :: false :: false :: false :: false :: false :: false :: false :: false :: false :: false :: false :: []) }),
  (177, { mode := 0, exp := false, thaw := [], live := (true :: true :: false :: false :: true :: false :: false :: false :: false :: false :: true :: true :: true :: true :: false :: false :: false :: false :: false :: false :: false :: false :: false :: false :: false :: false :: false :: false :: false :: false :: false :: false :: false :: false :: false :: false :: false :: false :: false :: false :: false :: false :: false :: false :: false :: false :: false :: false :: false :: false :: false :: false :: false :: false :: false :: false :: false :: false :: false :: false :: false :: false :: false :: false :: false :: false :: false :: false :: false :: false :: false :: false :: false :: false :: false :: false :: false :: false :: false :: false :: false :: false :: false :: false :: false :: false :: false :: false :: false :: false :: false :: false :: false :: false :: false :: false :: false :: false :: false :: false :: false :: false :: false :: false :: false :: false :: false :: false :: false :: false :: false :: false :: false :: false :: false :: false :: false :: false :: false :: false :: false :: false :: false :: false :: false :: false :: false :: false :: false :: false :: false :: false :: false :: false :: false :: false :: false :: false :: false :: false :: false :: false :: false :: false :: false :: false :: false :: false :: false :: false :: false :: false :: false :: false :: false :: false :: false :: false :: false :: false :: false :: false :: false :: false :: false :: false :: false :: false :: false :: false :: false :: false :: false :: false :: false :: false :: false :: false :: []) }),
  (178, { mode := 1, exp := false, thaw := [], live := ([]) }),
  (179, { mode := 1, exp := false, thaw := [], live := ([]) }),
  (180, { mode := 0, exp := false, thaw := [], live := (true :: false :: true :: true :: false :: false :: false :: false :: false :: false :: false :: false :: false :: false :: false :: false :: false :: false :: false :: false :: false :: false :: false :: false :: false :: false :: false :: false :: []) }),
  (181, { mode := 2, exp := false, thaw := [], live := (true :: true :: false :: false :: true :: true :: true :: true :: false :: false :: false :: false :: false :: false :: false :: false :: false :: false :: false :: false :: false :: false :: false :: false :: false :: false :: false :: false :: false :: false :: false :: false :: false :: false :: false :: false :: []) }),
  (182, { mode := 1, exp := false, thaw := [], live := (true :: false :: true :: true :: true :: false :: false :: false :: false :: false :: false :: false :: false :: false :: []) }),
  (183, { mode := 1, exp := false, thaw := [], live := (true :: false :: true :: true :: true :: true :: true :: false :: false :: false :: false :: false :: false :: false :: false :: false :: false :: false :: false :: false :: false :: false :: false :: false :: false :: false :: false :: false :: false :: false :: false :: false :: false :: false :: false :: false :: false :: false :: false :: false :: false :: false :: false :: false :: false :: false :: false :: false :: false :: false :: false :: false :: false :: false :: false :: false :: false :: false :: false :: false :: false :: false :: false :: false :: false :: false :: false :: []) }),
  (184, { mode := 2, exp := false, thaw := [], live := (true :: false :: true :: true :: true :: false :: false :: false :: false :: false :: false :: false :: false :: false :: false :: false :: false :: false :: false :: false :: false :: false :: false :: false :: false :: false :: false :: false :: false :: false :: false :: false :: false :: false :: false :: false :: false :: false :: false :: false :: false :: false :: false :: false :: false :: false :: false :: false :: false :: false :: false :: []) }),
  (185, { mode := 1, exp := false, thaw := [], live := (false :: true :: true :: true :: true :: false :: false :: false :: false :: false :: false :: false :: false :: false :: false :: false :: false :: false :: false :: false :: false :: false :: false :: false :: false :: false :: false :: false :: false :: false :: false :: false :: false :: false :: false :: false :: false :: false :: false :: false :: false :: false :: false :: false :: []) }),
  (186, { mode := 2, exp := false, thaw := [], live := (false :: false :: true :: true :: true :: true :: true :: false :: false :: false :: false :: false :: false :: false :: false :: false :: false :: false :: false :: false :: false :: false :: false :: false :: false :: false :: false :: false :: false :: false :: false :: false :: false :: false :: false :: false :: []) }),
  (187, { mode := 1, exp := false, thaw := [], live := (false :: true :: true :: true :: true :: false :: true :: false :: false :: false :: false :: false :: false :: false :: false :: false :: false :: false :: false :: false :: false :: false :: false :: false :: false :: false :: false :: false :: false :: false :: false :: false :: false :: false :: false :: false :: false :: false :: false :: false :: false :: false :: false :: false :: false :: false :: false :: false :: false :: false :: false :: false :: false :: false :: []) }),
  (188, { mode := 0, exp := false, thaw := [], live := (false :: false :: true :: false :: false :: false :: true :: true :: true :: true :: false :: false :: false :: false :: false :: false :: false :: false :: false :: false :: false :: false :: false :: false :: false :: false :: false :: false :: false :: false :: false :: false :: false :: false :: false :: false :: false :: false :: false :: false :: false :: false :: false :: false :: false :: false :: false :: false :: false :: []) }),
  (189, { mode := 0, exp := true, thaw := [0, 0, 0, 0, 0, 0, 0, 0, 0, 0, 0, 0, 0, 0, 0, 0, 0, 0, 0, 0, 0, 0, 0, 0, 0, 0, 0, 0, 0, 0, 0, 0, 0, 0, 0, 0, 0, 1002], live := (true :: false :: true :: false :: false :: false :: true :: true :: true :: true :: true :: true :: false :: false :: false :: false :: false :: false :: false :: false :: false :: false :: false :: false :: false :: false :: false :: false :: false :: false :: false :: false :: false :: false :: false :: false :: false :: false :: false :: false :: false :: false :: false :: false :: false :: false :: false :: false :: false :: []) }),
  (190, { mode := 2, exp := false, thaw := [], live := (false :: true :: true :: true :: true :: false :: false :: false :: true :: true :: true :: true :: true :: true :: true :: false :: false :: false :: false :: false :: false :: false :: false :: false :: false :: false :: false :: false :: false :: false :: false :: false :: false :: false :: false :: false :: false :: false :: false :: false :: false :: false :: false :: false :: false :: false :: false :: false :: false :: false :: false :: false :: false :: false :: false :: false :: false :: false :: false :: false :: false :: false :: []) }),
  (191, { mode := 1, exp := false, thaw := [], live := ([]) }),
  (192, { mode := 1, exp := false, thaw := [], live := (true :: true :: true :: false :: false :: false :: true :: true :: true :: false :: false :: false :: false :: false :: false :: false :: false :: false :: false :: false :: false :: false :: false :: false :: false :: false :: false :: false :: false :: false :: false :: false :: false :: false :: false :: false :: []) }),
  (193, { mode := 1, exp := false, thaw := [], live := (true :: true :: false :: false :: true :: true :: false :: false :: false :: false :: false :: false :: false :: false :: false :: false :: false :: false :: []) }),
  (194, { mode := 0, exp := false, thaw := [0, 0, 0, 0, 0, 0, 0, 0, 0, 0, 2], live := (true :: true :: false :: true :: true :: true :: false :: false :: false :: true :: true :: true :: false :: false :: true :: true :: true :: false :: false :: false :: false :: false :: false :: false :: false :: false :: false :: false :: false :: false :: false :: false :: false :: false :: false :: false :: false :: false :: false :: false :: false :: false :: false :: false :: false :: false :: false :: false :: false :: false :: []) }),
  (195, { mode := 1, exp := false, thaw := [0, 0, 0, 2], live := (true :: false :: true :: true :: true :: false :: false :: false :: false :: false :: false :: false :: false :: false :: false :: false :: false :: false :: false :: false :: false :: false :: false :: false :: false :: false :: false :: false :: false :: false :: false :: false :: []) }),
  (196, { mode := 0, exp := false, thaw := [], live := (true :: false :: true :: true :: true :: false :: false :: false :: false :: false :: true :: false :: false :: false :: false :: false :: false :: false :: false :: false :: false :: false :: false :: false :: false :: false :: false :: false :: false :: false :: false :: false :: false :: false :: false :: false :: false :: false :: false :: false :: false :: false :: false :: false :: false :: false :: false :: false :: false :: false :: false :: false :: false :: false :: false :: false :: false :: false :: false :: false :: false :: false :: false :: false :: false :: false :: false :: false :: false :: false :: false :: false :: false :: false :: false :: false :: false :: false :: false :: false :: false :: false :: []) }),
  (197, { mode := 1, exp := false, thaw := [], live := ([]) }),
  (199, { mode := 0, exp := false, thaw := [], live := ([]) }),
  (200, { mode := 0, exp := false, thaw := [], live := ([]) }),
  (201, { mode := 1, exp := false, thaw := [], live := (false :: false :: true :: true :: true :: true :: false :: false :: false :: false :: false :: false :: false :: false :: false :: false :: false :: false :: false :: false :: false :: false :: false :: false :: false :: false :: false :: []) }),
  (202, { mode := 1, exp := false, thaw := [], live := (true :: false :: true :: true :: false :: false :: false :: false :: false :: false :: false :: false :: false :: false :: false :: false :: false :: false :: false :: false :: false :: false :: false :: false :: false :: false :: false :: false :: false :: false :: false :: []) }),
  (203, { mode := 2, exp := false, thaw := [], live := (false :: false :: true :: true :: false :: false :: false :: false :: true :: true :: true :: true :: false :: false :: false :: false :: false :: false :: false :: false :: false :: false :: false :: false :: false :: false :: false :: false :: false :: false :: false :: false :: false :: false :: false :: false :: false :: false :: false :: false :: false :: false :: false :: false :: false :: false :: false :: false :: false :: false :: false :: false :: false :: false :: false :: false :: false :: false :: false :: false :: false :: false :: false :: false :: false :: false :: false :: false :: false :: false :: false :: false :: false :: false :: false :: false :: false :: false :: false :: []) }),
  (204, { mode := 0, exp := false, thaw := [], live := ([]) })]

noncomputable def eqTypes : List (TypeId × Nat) := [(49, 3)]
noncomputable def prims : List (Nat × (List A → H → Option (A × H))) := [(84, gDelete 3), (85, gClone 3), (97, gClone 1), (119, gSortE 83)]

noncomputable def env : Env := { P := Try.prog, hint := fun f => (hints.lookup f).getD {}, eqs := eqTypes, prim := fun f => prims.lookup f }

theorem mode_FnExactSwapWord : (env.hint 3).mode = 1 := by kernel_rfl
theorem mode_FnSwapWord : (env.hint 4).mode = 1 := by kernel_rfl
theorem mode_FnSwapAlphabet : (env.hint 5).mode = 1 := by kernel_rfl
theorem mode_FnSwapRestrict : (env.hint 6).mode = 1 := by kernel_rfl
theorem mode_FnExactDropEdge : (env.hint 7).mode = 1 := by kernel_rfl
theorem mode_FnExactSwapAutomaton : (env.hint 8).mode = 1 := by kernel_rfl
theorem mode_FnExactAddEdge : (env.hint 9).mode = 1 := by kernel_rfl
theorem mode_FnEdgeOnce : (env.hint 10).mode = 1 := by kernel_rfl
theorem mode_FnSwapAutomaton : (env.hint 11).mode = 1 := by kernel_rfl
theorem mode_FnExactSeparatingWords : (env.hint 12).mode = 1 := by kernel_rfl
theorem mode_FnExactSwapSystem : (env.hint 13).mode = 1 := by kernel_rfl
theorem mode_s_SwapWord : (env.hint 14).mode = 1 := by kernel_rfl
theorem mode_i_SwapWord : (env.hint 15).mode = 1 := by kernel_rfl
theorem mode_s_DrawSwapWord : (env.hint 16).mode = 1 := by kernel_rfl
theorem mode_i_WordValid : (env.hint 17).mode = 1 := by kernel_rfl
theorem mode_i_AlphabetOf : (env.hint 18).mode = 1 := by kernel_rfl
theorem mode_i_SwapAlphabet : (env.hint 19).mode = 1 := by kernel_rfl
theorem mode_s_DrawSwapAlphabet : (env.hint 20).mode = 1 := by kernel_rfl
theorem mode_s_SwapAlphabet : (env.hint 21).mode = 1 := by kernel_rfl
theorem mode_i_RestrictWord : (env.hint 22).mode = 1 := by kernel_rfl
theorem mode_i_WordWithin : (env.hint 23).mode = 1 := by kernel_rfl
theorem mode_szSystem : (env.hint 24).mode = 1 := by kernel_rfl
theorem mode_s_DropEdge : (env.hint 25).mode = 2 := by kernel_rfl
theorem mode_toSystem : (env.hint 26).mode = 2 := by kernel_rfl
theorem mode_toEdge : (env.hint 27).mode = 2 := by kernel_rfl
theorem mode_i_DropEdge : (env.hint 28).mode = 0 := by kernel_rfl
theorem mode_eqSystem : (env.hint 29).mode = 1 := by kernel_rfl
theorem mode_markSystem : (env.hint 30).mode = 0 := by kernel_rfl
theorem mode_heldSystem : (env.hint 31).mode = 1 := by kernel_rfl
theorem mode_szAutomaton : (env.hint 32).mode = 1 := by kernel_rfl
theorem mode_s_SwapAutomaton : (env.hint 33).mode = 2 := by kernel_rfl
theorem mode_toAutomaton : (env.hint 34).mode = 2 := by kernel_rfl
theorem mode_i_SwapAutomaton : (env.hint 35).mode = 3 := by kernel_rfl
theorem mode_eqAutomaton : (env.hint 36).mode = 1 := by kernel_rfl
theorem mode_markAutomaton : (env.hint 37).mode = 0 := by kernel_rfl
theorem mode_heldAutomaton : (env.hint 38).mode = 1 := by kernel_rfl
theorem mode_s_AddEdge : (env.hint 39).mode = 2 := by kernel_rfl
theorem mode_i_AddEdge : (env.hint 40).mode = 3 := by kernel_rfl
theorem mode_s_DrawAddEdge : (env.hint 41).mode = 2 := by kernel_rfl
theorem mode_agSystems : (env.hint 42).mode = 1 := by kernel_rfl
theorem mode_i_SystemValid : (env.hint 43).mode = 1 := by kernel_rfl
theorem mode_s_DrawSwapAutomaton : (env.hint 44).mode = 2 := by kernel_rfl
theorem mode_agAutomata : (env.hint 45).mode = 1 := by kernel_rfl
theorem mode_i_WordAt : (env.hint 46).mode = 1 := by kernel_rfl
theorem mode_i_StateAfter : (env.hint 47).mode = 1 := by kernel_rfl
theorem mode_i_AutomatonValid : (env.hint 48).mode = 1 := by kernel_rfl
theorem mode_s_SeparatingWords : (env.hint 49).mode = 2 := by kernel_rfl
theorem mode_i_SeparatingWords : (env.hint 50).mode = 3 := by kernel_rfl
theorem mode_eqStringS : (env.hint 51).mode = 1 := by kernel_rfl
theorem mode_markStringS : (env.hint 52).mode = 0 := by kernel_rfl
theorem mode_heldStringS : (env.hint 53).mode = 1 := by kernel_rfl
theorem mode_s_SwapSystem : (env.hint 54).mode = 2 := by kernel_rfl
theorem mode_i_SwapSystem : (env.hint 55).mode = 3 := by kernel_rfl
theorem mode_s_WordValid : (env.hint 56).mode = 1 := by kernel_rfl
theorem mode_s_l17Letter : (env.hint 57).mode = 1 := by kernel_rfl
theorem mode_s_l17Swap : (env.hint 58).mode = 1 := by kernel_rfl
theorem mode_s_l1At : (env.hint 59).mode = 1 := by kernel_rfl
theorem mode_i_isLetter : (env.hint 60).mode = 1 := by kernel_rfl
theorem mode_i_letterByte : (env.hint 61).mode = 1 := by kernel_rfl
theorem mode_i_swapped : (env.hint 62).mode = 1 := by kernel_rfl
theorem mode_i_letterAt : (env.hint 63).mode = 1 := by kernel_rfl
theorem mode_s_l19Open : (env.hint 64).mode = 2 := by kernel_rfl
theorem mode_s_l1Bad : (env.hint 65).mode = 0 := by kernel_rfl
theorem mode_s_l1Word : (env.hint 66).mode = 0 := by kernel_rfl
theorem mode_s_l1Some : (env.hint 67).mode = 0 := by kernel_rfl
theorem mode_s_l17Two : (env.hint 68).mode = 0 := by kernel_rfl
theorem mode_i_isAlphabet : (env.hint 69).mode = 1 := by kernel_rfl
theorem mode_i_lettersOf : (env.hint 70).mode = 2 := by kernel_rfl
theorem mode_s_l1Wrong : (env.hint 71).mode = 0 := by kernel_rfl
theorem mode_s_l1Alphabet : (env.hint 72).mode = 1 := by kernel_rfl
theorem mode_s_l1Has : (env.hint 73).mode = 1 := by kernel_rfl
theorem mode_s_l1Bit : (env.hint 74).mode = 1 := by kernel_rfl
theorem mode_i_restrict : (env.hint 75).mode = 1 := by kernel_rfl
theorem mode_i_has : (env.hint 76).mode = 1 := by kernel_rfl
theorem mode_szEdgeS : (env.hint 77).mode = 1 := by kernel_rfl
theorem mode_s_SystemValid : (env.hint 78).mode = 1 := by kernel_rfl
theorem mode_s_l17Index : (env.hint 79).mode = 1 := by kernel_rfl
theorem mode_s_l17Drop : (env.hint 80).mode = 2 := by kernel_rfl
theorem mode_toEdgeS : (env.hint 81).mode = 2 := by kernel_rfl
theorem mode_slices_BinarySearchFunc_i_Edge_i_Edge_i_Edge : (env.hint 82).mode = 1 := by kernel_rfl
theorem mode_i_compareEdges : (env.hint 83).mode = 1 := by kernel_rfl
theorem mode_slices_Delete_i_Edge_i_Edge : (env.hint 84).mode = 0 := by kernel_rfl
theorem mode_slices_Clone_i_Edge_i_Edge : (env.hint 85).mode = 0 := by kernel_rfl
theorem mode_eqEdgeS : (env.hint 86).mode = 1 := by kernel_rfl
theorem mode_markEdgeS : (env.hint 87).mode = 0 := by kernel_rfl
theorem mode_heldEdgeS : (env.hint 88).mode = 1 := by kernel_rfl
theorem mode_szIntSS : (env.hint 89).mode = 1 := by kernel_rfl
theorem mode_szBoolS : (env.hint 90).mode = 1 := by kernel_rfl
theorem mode_s_AutomatonValid : (env.hint 91).mode = 1 := by kernel_rfl
theorem mode_s_l1Letters : (env.hint 92).mode = 2 := by kernel_rfl
theorem mode_s_l3Go : (env.hint 93).mode = 1 := by kernel_rfl
theorem mode_toIntSS : (env.hint 94).mode = 2 := by kernel_rfl
theorem mode_toBoolS : (env.hint 95).mode = 2 := by kernel_rfl
theorem mode_i_tableOf : (env.hint 96).mode = 2 := by kernel_rfl
theorem mode_slices_Clone_bool_bool : (env.hint 97).mode = 0 := by kernel_rfl
theorem mode_eqIntSS : (env.hint 98).mode = 1 := by kernel_rfl
theorem mode_eqBoolS : (env.hint 99).mode = 1 := by kernel_rfl
theorem mode_markIntSS : (env.hint 100).mode = 0 := by kernel_rfl
theorem mode_markBoolS : (env.hint 101).mode = 0 := by kernel_rfl
theorem mode_heldIntSS : (env.hint 102).mode = 1 := by kernel_rfl
theorem mode_heldBoolS : (env.hint 103).mode = 1 := by kernel_rfl
theorem mode_s_l2Edge : (env.hint 104).mode = 1 := by kernel_rfl
theorem mode_s_l17Sorted : (env.hint 105).mode = 2 := by kernel_rfl
theorem mode_slices_Insert_i_Edge_i_Edge : (env.hint 106).mode = 0 := by kernel_rfl
theorem mode_s_l2Any : (env.hint 107).mode = 0 := by kernel_rfl
theorem mode_s_l17Edge : (env.hint 108).mode = 0 := by kernel_rfl
theorem mode_i_isState : (env.hint 109).mode = 1 := by kernel_rfl
theorem mode_s_l3Any : (env.hint 110).mode = 0 := by kernel_rfl
theorem mode_agBools : (env.hint 111).mode = 1 := by kernel_rfl
theorem mode_agInts : (env.hint 112).mode = 1 := by kernel_rfl
theorem mode_slices_Reverse_byte_byte : (env.hint 113).mode = 0 := by kernel_rfl
theorem mode_s_SplitStates : (env.hint 114).mode = 1 := by kernel_rfl
theorem mode_s_l10In : (env.hint 115).mode = 1 := by kernel_rfl
theorem mode_i_SplitStates : (env.hint 116).mode = 1 := by kernel_rfl
theorem mode_slices_Contains_string_string : (env.hint 117).mode = 1 := by kernel_rfl
theorem mode_markText : (env.hint 118).mode = 1 := by kernel_rfl
theorem mode_slices_SortFunc_i_Edge_i_Edge : (env.hint 119).mode = 0 := by kernel_rfl
theorem mode_s_l19Rd_pick : (env.hint 120).mode = 0 := by kernel_rfl
theorem mode_s_l19Rd_of : (env.hint 121).mode = 0 := by kernel_rfl
theorem mode_s_l19Many : (env.hint 122).mode = 1 := by kernel_rfl
theorem mode_s_l19Rd_num : (env.hint 123).mode = 0 := by kernel_rfl
theorem mode_s_l1Text : (env.hint 124).mode = 1 := by kernel_rfl
theorem mode_s_l2Before : (env.hint 125).mode = 1 := by kernel_rfl
theorem mode_cmp_Or_int : (env.hint 126).mode = 1 := by kernel_rfl
theorem mode_cmp_Compare_int : (env.hint 127).mode = 1 := by kernel_rfl
theorem mode_eqEdge : (env.hint 128).mode = 1 := by kernel_rfl
theorem mode_szIntS : (env.hint 129).mode = 1 := by kernel_rfl
theorem mode_s_l3Row : (env.hint 130).mode = 1 := by kernel_rfl
theorem mode_s_l1Place : (env.hint 131).mode = 1 := by kernel_rfl
theorem mode_toIntS : (env.hint 132).mode = 2 := by kernel_rfl
theorem mode_eqIntS : (env.hint 133).mode = 1 := by kernel_rfl
theorem mode_markIntS : (env.hint 134).mode = 0 := by kernel_rfl
theorem mode_heldIntS : (env.hint 135).mode = 1 := by kernel_rfl
theorem mode_slices_rotateRight_i_Edge : (env.hint 137).mode = 1 := by kernel_rfl
theorem mode_s_l2Big : (env.hint 138).mode = 0 := by kernel_rfl
theorem mode_s_l2Wrong : (env.hint 139).mode = 0 := by kernel_rfl
theorem mode_s_l2Draw : (env.hint 140).mode = 0 := by kernel_rfl
theorem mode_s_l3Big : (env.hint 141).mode = 0 := by kernel_rfl
theorem mode_s_l3Wrong : (env.hint 142).mode = 0 := by kernel_rfl
theorem mode_s_l3Draw : (env.hint 143).mode = 0 := by kernel_rfl
theorem mode_s_l4Index : (env.hint 144).mode = 1 := by kernel_rfl
theorem mode_s_l4First : (env.hint 145).mode = 1 := by kernel_rfl
theorem mode_i_firstOfBoth : (env.hint 146).mode = 1 := by kernel_rfl
theorem mode_i_SplitStates_c1 : (env.hint 147).mode = 0 := by kernel_rfl
theorem mode_slices_Index_string_string : (env.hint 148).mode = 1 := by kernel_rfl
theorem mode_slices_pdqsortCmpFunc_i_Edge : (env.hint 149).mode = 0 := by kernel_rfl
theorem mode_math_bits_Len : (env.hint 150).mode = 1 := by kernel_rfl
theorem mode_cmp_isNaN_int : (env.hint 151).mode = 1 := by kernel_rfl
theorem mode_slices_rotateLeft_i_Edge : (env.hint 152).mode = 1 := by kernel_rfl
theorem mode_s_ParseSystem : (env.hint 153).mode = 2 := by kernel_rfl
theorem mode_s_l2Texts : (env.hint 154).mode = 2 := by kernel_rfl
theorem mode_s_l2Random : (env.hint 155).mode = 0 := by kernel_rfl
theorem mode_s_l3Copy : (env.hint 156).mode = 2 := by kernel_rfl
theorem mode_s_ParseAutomaton : (env.hint 157).mode = 2 := by kernel_rfl
theorem mode_s_l3Texts : (env.hint 158).mode = 2 := by kernel_rfl
theorem mode_s_l3Over : (env.hint 159).mode = 0 := by kernel_rfl
theorem mode_s_l4Sizes : (env.hint 160).mode = 2 := by kernel_rfl
theorem mode_s_l4Moves : (env.hint 161).mode = 2 := by kernel_rfl
theorem mode_s_l4Found : (env.hint 162).mode = 1 := by kernel_rfl
theorem mode_s_l4Decode : (env.hint 163).mode = 2 := by kernel_rfl
theorem mode_s_l4Dist : (env.hint 164).mode = 1 := by kernel_rfl
theorem mode_s_l4Encode : (env.hint 165).mode = 1 := by kernel_rfl
theorem mode_s_l4Closer : (env.hint 166).mode = 2 := by kernel_rfl
theorem mode_i_firstOfBoth_c1 : (env.hint 167).mode = 0 := by kernel_rfl
theorem mode_i_firstPath : (env.hint 168).mode = 1 := by kernel_rfl
theorem mode_i_firstOfBoth_c2 : (env.hint 169).mode = 0 := by kernel_rfl
theorem mode_slices_insertionSortCmpFunc_i_Edge : (env.hint 170).mode = 0 := by kernel_rfl
theorem mode_slices_heapSortCmpFunc_i_Edge : (env.hint 171).mode = 0 := by kernel_rfl
theorem mode_slices_breakPatternsCmpFunc_i_Edge : (env.hint 172).mode = 0 := by kernel_rfl
theorem mode_slices_choosePivotCmpFunc_i_Edge : (env.hint 173).mode = 0 := by kernel_rfl
theorem mode_slices_reverseRangeCmpFunc_i_Edge : (env.hint 174).mode = 0 := by kernel_rfl
theorem mode_slices_partialInsertionSortCmpFunc_i_Edge : (env.hint 175).mode = 0 := by kernel_rfl
theorem mode_slices_partitionEqualCmpFunc_i_Edge : (env.hint 176).mode = 0 := by kernel_rfl
theorem mode_slices_partitionCmpFunc_i_Edge : (env.hint 177).mode = 0 := by kernel_rfl
theorem mode_math_bits_Len32 : (env.hint 178).mode = 1 := by kernel_rfl
theorem mode_math_bits_Len64 : (env.hint 179).mode = 1 := by kernel_rfl
theorem mode_slices_Reverse_i_Edge_i_Edge : (env.hint 180).mode = 0 := by kernel_rfl
theorem mode_s_l19Cut : (env.hint 181).mode = 2 := by kernel_rfl
theorem mode_s_ParseAlphabet : (env.hint 182).mode = 1 := by kernel_rfl
theorem mode_s_l19Num : (env.hint 183).mode = 1 := by kernel_rfl
theorem mode_s_l2Parse : (env.hint 184).mode = 2 := by kernel_rfl
theorem mode_s_FormatSystem : (env.hint 185).mode = 1 := by kernel_rfl
theorem mode_s_l3Parse : (env.hint 186).mode = 2 := by kernel_rfl
theorem mode_s_FormatAutomaton : (env.hint 187).mode = 1 := by kernel_rfl
theorem mode_s_l3Safe : (env.hint 188).mode = 0 := by kernel_rfl
theorem mode_s_l3Random : (env.hint 189).mode = 0 := by kernel_rfl
theorem mode_s_l4Nexts : (env.hint 190).mode = 2 := by kernel_rfl
theorem mode_s_l4Ok : (env.hint 191).mode = 1 := by kernel_rfl
theorem mode_s_l4Near : (env.hint 192).mode = 1 := by kernel_rfl
theorem mode_s_l4In : (env.hint 193).mode = 1 := by kernel_rfl
theorem mode_i_firstPath_c1 : (env.hint 194).mode = 0 := by kernel_rfl
theorem mode_i_pathWord : (env.hint 195).mode = 1 := by kernel_rfl
theorem mode_slices_siftDownCmpFunc_i_Edge : (env.hint 196).mode = 0 := by kernel_rfl
theorem mode_slices_nextPowerOfTwo : (env.hint 197).mode = 1 := by kernel_rfl
theorem mode_slices_medianAdjacentCmpFunc_i_Edge : (env.hint 199).mode = 0 := by kernel_rfl
theorem mode_slices_medianCmpFunc_i_Edge : (env.hint 200).mode = 0 := by kernel_rfl
theorem mode_s_FormatAlphabet : (env.hint 201).mode = 1 := by kernel_rfl
theorem mode_s_l19Dec : (env.hint 202).mode = 1 := by kernel_rfl
theorem mode_s_l4Choices : (env.hint 203).mode = 2 := by kernel_rfl
theorem mode_slices_order2CmpFunc_i_Edge : (env.hint 204).mode = 0 := by kernel_rfl
theorem MD0 : type_of% (And.intro @mode_FnExactSwapWord (And.intro @mode_FnSwapWord (And.intro @mode_FnSwapAlphabet (And.intro @mode_FnSwapRestrict (And.intro @mode_FnExactDropEdge (And.intro @mode_FnExactSwapAutomaton (And.intro @mode_FnExactAddEdge (And.intro @mode_FnEdgeOnce (And.intro @mode_FnSwapAutomaton (And.intro @mode_FnExactSeparatingWords (And.intro @mode_FnExactSwapSystem (And.intro @mode_s_SwapWord (And.intro @mode_i_SwapWord (And.intro @mode_s_DrawSwapWord (And.intro @mode_i_WordValid (And.intro @mode_i_AlphabetOf (And.intro @mode_i_SwapAlphabet (And.intro @mode_s_DrawSwapAlphabet (And.intro @mode_s_SwapAlphabet (And.intro @mode_i_RestrictWord (And.intro @mode_i_WordWithin (And.intro @mode_szSystem (And.intro @mode_s_DropEdge (And.intro @mode_toSystem (And.intro @mode_toEdge (And.intro @mode_i_DropEdge (And.intro @mode_eqSystem (And.intro @mode_markSystem (And.intro @mode_heldSystem (And.intro @mode_szAutomaton (And.intro @mode_s_SwapAutomaton (And.intro @mode_toAutomaton (And.intro @mode_i_SwapAutomaton (And.intro @mode_eqAutomaton (And.intro @mode_markAutomaton (And.intro @mode_heldAutomaton (And.intro @mode_s_AddEdge (And.intro @mode_i_AddEdge (And.intro @mode_s_DrawAddEdge (And.intro @mode_agSystems (And.intro @mode_i_SystemValid (And.intro @mode_s_DrawSwapAutomaton (And.intro @mode_agAutomata (And.intro @mode_i_WordAt (And.intro @mode_i_StateAfter (And.intro @mode_i_AutomatonValid (And.intro @mode_s_SeparatingWords (And.intro @mode_i_SeparatingWords (And.intro @mode_eqStringS (And.intro @mode_markStringS (And.intro @mode_heldStringS (And.intro @mode_s_SwapSystem (And.intro @mode_i_SwapSystem (And.intro @mode_s_WordValid (And.intro @mode_s_l17Letter (And.intro @mode_s_l17Swap (And.intro @mode_s_l1At (And.intro @mode_i_isLetter (And.intro @mode_i_letterByte @mode_i_swapped))))))))))))))))))))))))))))))))))))))))))))))))))))))))))) := (And.intro @mode_FnExactSwapWord (And.intro @mode_FnSwapWord (And.intro @mode_FnSwapAlphabet (And.intro @mode_FnSwapRestrict (And.intro @mode_FnExactDropEdge (And.intro @mode_FnExactSwapAutomaton (And.intro @mode_FnExactAddEdge (And.intro @mode_FnEdgeOnce (And.intro @mode_FnSwapAutomaton (And.intro @mode_FnExactSeparatingWords (And.intro @mode_FnExactSwapSystem (And.intro @mode_s_SwapWord (And.intro @mode_i_SwapWord (And.intro @mode_s_DrawSwapWord (And.intro @mode_i_WordValid (And.intro @mode_i_AlphabetOf (And.intro @mode_i_SwapAlphabet (And.intro @mode_s_DrawSwapAlphabet (And.intro @mode_s_SwapAlphabet (And.intro @mode_i_RestrictWord (And.intro @mode_i_WordWithin (And.intro @mode_szSystem (And.intro @mode_s_DropEdge (And.intro @mode_toSystem (And.intro @mode_toEdge (And.intro @mode_i_DropEdge (And.intro @mode_eqSystem (And.intro @mode_markSystem (And.intro @mode_heldSystem (And.intro @mode_szAutomaton (And.intro @mode_s_SwapAutomaton (And.intro @mode_toAutomaton (And.intro @mode_i_SwapAutomaton (And.intro @mode_eqAutomaton (And.intro @mode_markAutomaton (And.intro @mode_heldAutomaton (And.intro @mode_s_AddEdge (And.intro @mode_i_AddEdge (And.intro @mode_s_DrawAddEdge (And.intro @mode_agSystems (And.intro @mode_i_SystemValid (And.intro @mode_s_DrawSwapAutomaton (And.intro @mode_agAutomata (And.intro @mode_i_WordAt (And.intro @mode_i_StateAfter (And.intro @mode_i_AutomatonValid (And.intro @mode_s_SeparatingWords (And.intro @mode_i_SeparatingWords (And.intro @mode_eqStringS (And.intro @mode_markStringS (And.intro @mode_heldStringS (And.intro @mode_s_SwapSystem (And.intro @mode_i_SwapSystem (And.intro @mode_s_WordValid (And.intro @mode_s_l17Letter (And.intro @mode_s_l17Swap (And.intro @mode_s_l1At (And.intro @mode_i_isLetter (And.intro @mode_i_letterByte @mode_i_swapped)))))))))))))))))))))))))))))))))))))))))))))))))))))))))))
theorem MD1 : type_of% (And.intro @mode_i_letterAt (And.intro @mode_s_l19Open (And.intro @mode_s_l1Bad (And.intro @mode_s_l1Word (And.intro @mode_s_l1Some (And.intro @mode_s_l17Two (And.intro @mode_i_isAlphabet (And.intro @mode_i_lettersOf (And.intro @mode_s_l1Wrong (And.intro @mode_s_l1Alphabet (And.intro @mode_s_l1Has (And.intro @mode_s_l1Bit (And.intro @mode_i_restrict (And.intro @mode_i_has (And.intro @mode_szEdgeS (And.intro @mode_s_SystemValid (And.intro @mode_s_l17Index (And.intro @mode_s_l17Drop (And.intro @mode_toEdgeS (And.intro @mode_slices_BinarySearchFunc_i_Edge_i_Edge_i_Edge (And.intro @mode_i_compareEdges (And.intro @mode_slices_Delete_i_Edge_i_Edge (And.intro @mode_slices_Clone_i_Edge_i_Edge (And.intro @mode_eqEdgeS (And.intro @mode_markEdgeS (And.intro @mode_heldEdgeS (And.intro @mode_szIntSS (And.intro @mode_szBoolS (And.intro @mode_s_AutomatonValid (And.intro @mode_s_l1Letters (And.intro @mode_s_l3Go (And.intro @mode_toIntSS (And.intro @mode_toBoolS (And.intro @mode_i_tableOf (And.intro @mode_slices_Clone_bool_bool (And.intro @mode_eqIntSS (And.intro @mode_eqBoolS (And.intro @mode_markIntSS (And.intro @mode_markBoolS (And.intro @mode_heldIntSS (And.intro @mode_heldBoolS (And.intro @mode_s_l2Edge (And.intro @mode_s_l17Sorted (And.intro @mode_slices_Insert_i_Edge_i_Edge (And.intro @mode_s_l2Any (And.intro @mode_s_l17Edge (And.intro @mode_i_isState (And.intro @mode_s_l3Any (And.intro @mode_agBools (And.intro @mode_agInts (And.intro @mode_slices_Reverse_byte_byte (And.intro @mode_s_SplitStates (And.intro @mode_s_l10In (And.intro @mode_i_SplitStates (And.intro @mode_slices_Contains_string_string (And.intro @mode_markText (And.intro @mode_slices_SortFunc_i_Edge_i_Edge (And.intro @mode_s_l19Rd_pick (And.intro @mode_s_l19Rd_of @mode_s_l19Many))))))))))))))))))))))))))))))))))))))))))))))))))))))))))) := (And.intro @mode_i_letterAt (And.intro @mode_s_l19Open (And.intro @mode_s_l1Bad (And.intro @mode_s_l1Word (And.intro @mode_s_l1Some (And.intro @mode_s_l17Two (And.intro @mode_i_isAlphabet (And.intro @mode_i_lettersOf (And.intro @mode_s_l1Wrong (And.intro @mode_s_l1Alphabet (And.intro @mode_s_l1Has (And.intro @mode_s_l1Bit (And.intro @mode_i_restrict (And.intro @mode_i_has (And.intro @mode_szEdgeS (And.intro @mode_s_SystemValid (And.intro @mode_s_l17Index (And.intro @mode_s_l17Drop (And.intro @mode_toEdgeS (And.intro @mode_slices_BinarySearchFunc_i_Edge_i_Edge_i_Edge (And.intro @mode_i_compareEdges (And.intro @mode_slices_Delete_i_Edge_i_Edge (And.intro @mode_slices_Clone_i_Edge_i_Edge (And.intro @mode_eqEdgeS (And.intro @mode_markEdgeS (And.intro @mode_heldEdgeS (And.intro @mode_szIntSS (And.intro @mode_szBoolS (And.intro @mode_s_AutomatonValid (And.intro @mode_s_l1Letters (And.intro @mode_s_l3Go (And.intro @mode_toIntSS (And.intro @mode_toBoolS (And.intro @mode_i_tableOf (And.intro @mode_slices_Clone_bool_bool (And.intro @mode_eqIntSS (And.intro @mode_eqBoolS (And.intro @mode_markIntSS (And.intro @mode_markBoolS (And.intro @mode_heldIntSS (And.intro @mode_heldBoolS (And.intro @mode_s_l2Edge (And.intro @mode_s_l17Sorted (And.intro @mode_slices_Insert_i_Edge_i_Edge (And.intro @mode_s_l2Any (And.intro @mode_s_l17Edge (And.intro @mode_i_isState (And.intro @mode_s_l3Any (And.intro @mode_agBools (And.intro @mode_agInts (And.intro @mode_slices_Reverse_byte_byte (And.intro @mode_s_SplitStates (And.intro @mode_s_l10In (And.intro @mode_i_SplitStates (And.intro @mode_slices_Contains_string_string (And.intro @mode_markText (And.intro @mode_slices_SortFunc_i_Edge_i_Edge (And.intro @mode_s_l19Rd_pick (And.intro @mode_s_l19Rd_of @mode_s_l19Many)))))))))))))))))))))))))))))))))))))))))))))))))))))))))))
theorem MD2 : type_of% (And.intro @mode_s_l19Rd_num (And.intro @mode_s_l1Text (And.intro @mode_s_l2Before (And.intro @mode_cmp_Or_int (And.intro @mode_cmp_Compare_int (And.intro @mode_eqEdge (And.intro @mode_szIntS (And.intro @mode_s_l3Row (And.intro @mode_s_l1Place (And.intro @mode_toIntS (And.intro @mode_eqIntS (And.intro @mode_markIntS (And.intro @mode_heldIntS (And.intro @mode_slices_rotateRight_i_Edge (And.intro @mode_s_l2Big (And.intro @mode_s_l2Wrong (And.intro @mode_s_l2Draw (And.intro @mode_s_l3Big (And.intro @mode_s_l3Wrong (And.intro @mode_s_l3Draw (And.intro @mode_s_l4Index (And.intro @mode_s_l4First (And.intro @mode_i_firstOfBoth (And.intro @mode_i_SplitStates_c1 (And.intro @mode_slices_Index_string_string (And.intro @mode_slices_pdqsortCmpFunc_i_Edge (And.intro @mode_math_bits_Len (And.intro @mode_cmp_isNaN_int (And.intro @mode_slices_rotateLeft_i_Edge (And.intro @mode_s_ParseSystem (And.intro @mode_s_l2Texts (And.intro @mode_s_l2Random (And.intro @mode_s_l3Copy (And.intro @mode_s_ParseAutomaton (And.intro @mode_s_l3Texts (And.intro @mode_s_l3Over (And.intro @mode_s_l4Sizes (And.intro @mode_s_l4Moves (And.intro @mode_s_l4Found (And.intro @mode_s_l4Decode (And.intro @mode_s_l4Dist (And.intro @mode_s_l4Encode (And.intro @mode_s_l4Closer (And.intro @mode_i_firstOfBoth_c1 (And.intro @mode_i_firstPath (And.intro @mode_i_firstOfBoth_c2 (And.intro @mode_slices_insertionSortCmpFunc_i_Edge (And.intro @mode_slices_heapSortCmpFunc_i_Edge (And.intro @mode_slices_breakPatternsCmpFunc_i_Edge (And.intro @mode_slices_choosePivotCmpFunc_i_Edge (And.intro @mode_slices_reverseRangeCmpFunc_i_Edge (And.intro @mode_slices_partialInsertionSortCmpFunc_i_Edge (And.intro @mode_slices_partitionEqualCmpFunc_i_Edge (And.intro @mode_slices_partitionCmpFunc_i_Edge (And.intro @mode_math_bits_Len32 (And.intro @mode_math_bits_Len64 (And.intro @mode_slices_Reverse_i_Edge_i_Edge (And.intro @mode_s_l19Cut (And.intro @mode_s_ParseAlphabet @mode_s_l19Num))))))))))))))))))))))))))))))))))))))))))))))))))))))))))) := (And.intro @mode_s_l19Rd_num (And.intro @mode_s_l1Text (And.intro @mode_s_l2Before (And.intro @mode_cmp_Or_int (And.intro @mode_cmp_Compare_int (And.intro @mode_eqEdge (And.intro @mode_szIntS (And.intro @mode_s_l3Row (And.intro @mode_s_l1Place (And.intro @mode_toIntS (And.intro @mode_eqIntS (And.intro @mode_markIntS (And.intro @mode_heldIntS (And.intro @mode_slices_rotateRight_i_Edge (And.intro @mode_s_l2Big (And.intro @mode_s_l2Wrong (And.intro @mode_s_l2Draw (And.intro @mode_s_l3Big (And.intro @mode_s_l3Wrong (And.intro @mode_s_l3Draw (And.intro @mode_s_l4Index (And.intro @mode_s_l4First (And.intro @mode_i_firstOfBoth (And.intro @mode_i_SplitStates_c1 (And.intro @mode_slices_Index_string_string (And.intro @mode_slices_pdqsortCmpFunc_i_Edge (And.intro @mode_math_bits_Len (And.intro @mode_cmp_isNaN_int (And.intro @mode_slices_rotateLeft_i_Edge (And.intro @mode_s_ParseSystem (And.intro @mode_s_l2Texts (And.intro @mode_s_l2Random (And.intro @mode_s_l3Copy (And.intro @mode_s_ParseAutomaton (And.intro @mode_s_l3Texts (And.intro @mode_s_l3Over (And.intro @mode_s_l4Sizes (And.intro @mode_s_l4Moves (And.intro @mode_s_l4Found (And.intro @mode_s_l4Decode (And.intro @mode_s_l4Dist (And.intro @mode_s_l4Encode (And.intro @mode_s_l4Closer (And.intro @mode_i_firstOfBoth_c1 (And.intro @mode_i_firstPath (And.intro @mode_i_firstOfBoth_c2 (And.intro @mode_slices_insertionSortCmpFunc_i_Edge (And.intro @mode_slices_heapSortCmpFunc_i_Edge (And.intro @mode_slices_breakPatternsCmpFunc_i_Edge (And.intro @mode_slices_choosePivotCmpFunc_i_Edge (And.intro @mode_slices_reverseRangeCmpFunc_i_Edge (And.intro @mode_slices_partialInsertionSortCmpFunc_i_Edge (And.intro @mode_slices_partitionEqualCmpFunc_i_Edge (And.intro @mode_slices_partitionCmpFunc_i_Edge (And.intro @mode_math_bits_Len32 (And.intro @mode_math_bits_Len64 (And.intro @mode_slices_Reverse_i_Edge_i_Edge (And.intro @mode_s_l19Cut (And.intro @mode_s_ParseAlphabet @mode_s_l19Num)))))))))))))))))))))))))))))))))))))))))))))))))))))))))))
theorem MD3 : type_of% (And.intro @mode_s_l2Parse (And.intro @mode_s_FormatSystem (And.intro @mode_s_l3Parse (And.intro @mode_s_FormatAutomaton (And.intro @mode_s_l3Safe (And.intro @mode_s_l3Random (And.intro @mode_s_l4Nexts (And.intro @mode_s_l4Ok (And.intro @mode_s_l4Near (And.intro @mode_s_l4In (And.intro @mode_i_firstPath_c1 (And.intro @mode_i_pathWord (And.intro @mode_slices_siftDownCmpFunc_i_Edge (And.intro @mode_slices_nextPowerOfTwo (And.intro @mode_slices_medianAdjacentCmpFunc_i_Edge (And.intro @mode_slices_medianCmpFunc_i_Edge (And.intro @mode_s_FormatAlphabet (And.intro @mode_s_l19Dec (And.intro @mode_s_l4Choices @mode_slices_order2CmpFunc_i_Edge))))))))))))))))))) := (And.intro @mode_s_l2Parse (And.intro @mode_s_FormatSystem (And.intro @mode_s_l3Parse (And.intro @mode_s_FormatAutomaton (And.intro @mode_s_l3Safe (And.intro @mode_s_l3Random (And.intro @mode_s_l4Nexts (And.intro @mode_s_l4Ok (And.intro @mode_s_l4Near (And.intro @mode_s_l4In (And.intro @mode_i_firstPath_c1 (And.intro @mode_i_pathWord (And.intro @mode_slices_siftDownCmpFunc_i_Edge (And.intro @mode_slices_nextPowerOfTwo (And.intro @mode_slices_medianAdjacentCmpFunc_i_Edge (And.intro @mode_slices_medianCmpFunc_i_Edge (And.intro @mode_s_FormatAlphabet (And.intro @mode_s_l19Dec (And.intro @mode_s_l4Choices @mode_slices_order2CmpFunc_i_Edge)))))))))))))))))))
theorem MD : type_of% (And.intro @MD0 (And.intro @MD1 (And.intro @MD2 @MD3))) := (And.intro @MD0 (And.intro @MD1 (And.intro @MD2 @MD3)))

end Ev
end Go.Proofs.Ytidobgmklcbcpaa
