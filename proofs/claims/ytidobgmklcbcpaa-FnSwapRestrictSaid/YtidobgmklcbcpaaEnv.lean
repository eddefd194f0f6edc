/-
  What the evaluator is told of each function, and each function's code as an equation. Written by a program.
-/
import Derived.Test.YtidobgmklcbcpaaEvSym
import Derived.Test.YtidobgmklcbcpaaChecked
set_option maxRecDepth 100000
namespace Go.Proofs.Ytidobgmklcbcpaa
namespace Ev

noncomputable def hints : List (Nat × Hint) := [
  (3, { mode := 1, exp := false, thaw := [], live := ([]) }),
  (4, { mode := 1, exp := false, thaw := [], live := ([]) }),
  (5, { mode := 1, exp := false, thaw := [], live := ([]) }),
  (6, { mode := 1, exp := false, thaw := [], live := ([]) }),
  (7, { mode := 1, exp := false, thaw := [], live := ([]) }),
  (8, { mode := 1, exp := false, thaw := [], live := ([]) }),
  (9, { mode := 1, exp := false, thaw := [], live := ([]) }),
  (10, { mode := 1, exp := false, thaw := [], live := ([]) }),
  (11, { mode := 1, exp := false, thaw := [], live := (false :: false :: true :: true :: true :: true :: true :: false :: false :: false :: true :: false :: false :: false :: false :: false :: false :: false :: false :: false :: false :: false :: false :: false :: false :: false :: false :: false :: false :: false :: false :: false :: false :: false :: false :: false :: false :: false :: false :: false :: false :: false :: false :: false :: false :: false :: false :: false :: false :: false :: false :: false :: false :: false :: false :: false :: false :: false :: false :: false :: false :: false :: false :: false :: false :: false :: false :: false :: false :: false :: false :: false :: false :: false :: false :: false :: false :: false :: false :: false :: false :: false :: false :: false :: false :: false :: false :: false :: false :: false :: false :: false :: false :: false :: false :: false :: false :: false :: false :: []) }),
  (12, { mode := 1, exp := false, thaw := [], live := ([]) }),
  (13, { mode := 1, exp := false, thaw := [], live := ([]) }),
  (14, { mode := 1, exp := false, thaw := [], live := (true :: true :: true :: false :: false :: false :: true :: true :: true :: false :: false :: false :: false :: false :: false :: false :: false :: false :: false :: false :: false :: false :: false :: false :: false :: false :: false :: false :: false :: false :: false :: false :: false :: false :: false :: false :: false :: false :: false :: false :: false :: false :: []) }),
  (15, { mode := 1, exp := false, thaw := [], live := (true :: true :: true :: false :: false :: false :: true :: true :: false :: false :: false :: false :: false :: false :: false :: false :: false :: false :: false :: false :: false :: false :: false :: false :: false :: false :: true :: true :: false :: false :: false :: false :: false :: false :: false :: false :: false :: false :: false :: false :: false :: false :: false :: []) }),
  (16, { mode := 1, exp := false, thaw := [], live := ([]) }),
  (17, { mode := 1, exp := false, thaw := [], live := ([]) }),
  (18, { mode := 1, exp := false, thaw := [], live := (true :: false :: true :: true :: true :: false :: false :: false :: false :: false :: true :: true :: false :: false :: false :: false :: false :: false :: false :: false :: false :: false :: []) }),
  (19, { mode := 1, exp := false, thaw := [], live := (false :: true :: true :: false :: false :: false :: true :: true :: false :: false :: false :: false :: false :: false :: false :: false :: false :: false :: false :: false :: false :: false :: false :: false :: true :: true :: true :: false :: false :: false :: false :: false :: false :: false :: false :: false :: false :: false :: false :: []) }),
  (20, { mode := 1, exp := false, thaw := [], live := ([]) }),
  (21, { mode := 1, exp := false, thaw := [], live := (true :: true :: true :: false :: false :: false :: true :: true :: true :: false :: false :: false :: false :: false :: false :: false :: false :: false :: false :: false :: false :: false :: false :: false :: false :: false :: false :: false :: false :: false :: false :: false :: false :: false :: false :: false :: false :: []) }),
  (22, { mode := 1, exp := false, thaw := [], live := ([]) }),
  (23, { mode := 1, exp := false, thaw := [], live := (true :: true :: false :: false :: true :: false :: false :: false :: false :: false :: false :: false :: false :: false :: false :: true :: true :: false :: false :: false :: false :: false :: false :: false :: false :: false :: []) }),
  (24, { mode := 1, exp := false, thaw := [], live := ([]) }),
  (25, { mode := 2, exp := false, thaw := [], live := ([]) }),
  (26, { mode := 2, exp := false, thaw := [], live := ([]) }),
  (27, { mode := 2, exp := false, thaw := [], live := ([]) }),
  (28, { mode := 2, exp := false, thaw := [], live := ([]) }),
  (29, { mode := 1, exp := false, thaw := [], live := ([]) }),
  (30, { mode := 1, exp := false, thaw := [], live := ([]) }),
  (31, { mode := 1, exp := false, thaw := [], live := ([]) }),
  (32, { mode := 1, exp := false, thaw := [], live := ([]) }),
  (33, { mode := 2, exp := false, thaw := [], live := (false :: true :: true :: true :: false :: false :: true :: true :: true :: true :: true :: true :: true :: false :: false :: false :: false :: false :: false :: false :: false :: false :: false :: false :: false :: false :: false :: false :: false :: false :: false :: false :: false :: false :: false :: false :: false :: false :: false :: false :: false :: false :: false :: false :: false :: false :: false :: false :: false :: false :: false :: false :: false :: false :: false :: false :: false :: false :: false :: false :: false :: false :: false :: false :: false :: false :: false :: false :: false :: false :: false :: false :: false :: false :: []) }),
  (34, { mode := 2, exp := false, thaw := [], live := ([]) }),
  (35, { mode := 2, exp := false, thaw := [0, 0, 0, 0, 0, 0, 0, 0, 0, 0, 0, 2], live := (false :: true :: true :: false :: false :: false :: true :: true :: true :: true :: true :: true :: false :: false :: false :: false :: false :: false :: false :: false :: false :: false :: false :: false :: false :: false :: false :: false :: false :: false :: false :: false :: false :: false :: false :: false :: false :: false :: false :: false :: false :: true :: true :: false :: false :: false :: false :: true :: true :: true :: false :: false :: false :: false :: false :: false :: false :: false :: false :: false :: false :: false :: false :: false :: false :: false :: false :: false :: false :: false :: false :: false :: false :: false :: []) }),
  (36, { mode := 1, exp := false, thaw := [], live := ([]) }),
  (37, { mode := 1, exp := false, thaw := [], live := ([]) }),
  (38, { mode := 1, exp := false, thaw := [], live := ([]) }),
  (39, { mode := 2, exp := false, thaw := [], live := ([]) }),
  (40, { mode := 2, exp := false, thaw := [], live := ([]) }),
  (41, { mode := 2, exp := false, thaw := [], live := ([]) }),
  (42, { mode := 1, exp := false, thaw := [], live := (false :: false :: true :: true :: true :: true :: false :: false :: false :: false :: false :: false :: false :: false :: false :: false :: false :: false :: false :: false :: false :: false :: false :: false :: false :: false :: false :: false :: false :: false :: false :: false :: false :: false :: false :: false :: false :: false :: false :: false :: false :: false :: false :: false :: false :: []) }),
  (43, { mode := 1, exp := false, thaw := [], live := (false :: true :: true :: false :: false :: false :: false :: false :: false :: false :: false :: false :: false :: false :: false :: false :: false :: false :: false :: false :: true :: true :: true :: false :: false :: false :: false :: false :: false :: false :: false :: false :: false :: false :: false :: false :: false :: false :: false :: false :: false :: false :: false :: false :: false :: false :: false :: false :: false :: false :: false :: false :: false :: false :: false :: false :: false :: false :: false :: false :: false :: false :: false :: false :: false :: false :: false :: false :: []) }),
  (44, { mode := 2, exp := false, thaw := [], live := ([]) }),
  (45, { mode := 1, exp := false, thaw := [], live := (false :: false :: true :: true :: true :: true :: false :: false :: false :: false :: false :: false :: false :: false :: false :: false :: false :: false :: false :: false :: false :: false :: false :: false :: false :: false :: false :: false :: false :: false :: false :: false :: false :: false :: false :: false :: false :: false :: false :: false :: false :: false :: false :: false :: false :: false :: false :: []) }),
  (46, { mode := 1, exp := false, thaw := [0, 0, 0, 0, 0, 0, 0, 2], live := (true :: false :: false :: false :: true :: true :: true :: true :: false :: false :: false :: false :: false :: false :: false :: false :: false :: false :: false :: false :: false :: false :: false :: false :: false :: false :: false :: false :: false :: false :: false :: false :: false :: false :: false :: false :: false :: false :: false :: false :: false :: false :: false :: false :: false :: false :: false :: false :: []) }),
  (47, { mode := 1, exp := false, thaw := [], live := (false :: true :: false :: false :: true :: true :: true :: false :: false :: false :: false :: false :: false :: false :: false :: false :: false :: false :: false :: false :: false :: true :: true :: false :: false :: false :: false :: false :: false :: false :: false :: false :: false :: false :: false :: []) }),
  (48, { mode := 1, exp := false, thaw := [], live := (false :: true :: true :: true :: false :: false :: false :: false :: false :: false :: false :: false :: false :: false :: false :: false :: false :: false :: false :: false :: false :: false :: false :: false :: false :: false :: false :: false :: false :: false :: false :: false :: false :: false :: false :: false :: false :: false :: true :: true :: true :: false :: false :: false :: false :: false :: false :: false :: true :: true :: true :: false :: false :: false :: false :: false :: false :: false :: false :: false :: false :: false :: false :: false :: false :: []) }),
  (49, { mode := 2, exp := false, thaw := [], live := (false :: true :: true :: true :: true :: true :: false :: false :: false :: false :: false :: false :: false :: false :: false :: false :: false :: false :: false :: false :: false :: false :: false :: false :: false :: false :: false :: false :: false :: false :: false :: false :: false :: false :: false :: false :: false :: false :: false :: false :: false :: false :: false :: false :: false :: false :: false :: []) }),
  (50, { mode := 2, exp := false, thaw := [], live := (false :: true :: true :: true :: true :: true :: false :: false :: false :: false :: false :: false :: false :: false :: true :: true :: false :: false :: false :: false :: false :: false :: false :: false :: false :: false :: false :: false :: false :: false :: false :: false :: false :: false :: false :: false :: false :: false :: false :: false :: false :: false :: false :: false :: false :: false :: false :: []) }),
  (51, { mode := 1, exp := false, thaw := [], live := (true :: true :: false :: false :: true :: true :: false :: false :: false :: false :: false :: false :: false :: false :: false :: false :: false :: false :: false :: false :: false :: false :: false :: false :: false :: false :: []) }),
  (52, { mode := 1, exp := false, thaw := [], live := (true :: true :: false :: false :: true :: true :: false :: false :: false :: false :: false :: false :: false :: false :: false :: false :: false :: false :: false :: false :: []) }),
  (53, { mode := 1, exp := false, thaw := [], live := (true :: true :: false :: false :: true :: true :: false :: false :: false :: false :: false :: false :: false :: false :: false :: false :: false :: false :: false :: false :: false :: false :: []) }),
  (54, { mode := 2, exp := false, thaw := [], live := (false :: true :: true :: true :: false :: false :: true :: true :: true :: true :: false :: false :: false :: false :: false :: false :: false :: false :: false :: false :: false :: false :: false :: false :: false :: false :: false :: false :: false :: false :: false :: false :: false :: false :: false :: false :: false :: false :: false :: false :: false :: false :: false :: false :: false :: false :: false :: false :: false :: false :: false :: false :: false :: false :: false :: false :: false :: false :: false :: false :: false :: []) }),
  (55, { mode := 2, exp := false, thaw := [], live := (false :: true :: true :: false :: false :: false :: true :: true :: true :: false :: false :: false :: false :: false :: false :: false :: false :: false :: false :: false :: false :: false :: false :: false :: false :: false :: false :: false :: false :: false :: false :: false :: false :: false :: true :: true :: true :: false :: false :: false :: false :: false :: false :: false :: false :: false :: false :: false :: false :: false :: false :: false :: false :: false :: false :: false :: false :: false :: false :: false :: []) }),
  (56, { mode := 1, exp := false, thaw := [], live := (true :: false :: true :: true :: false :: false :: false :: false :: false :: false :: false :: false :: false :: false :: false :: false :: false :: false :: false :: false :: false :: false :: false :: []) }),
  (57, { mode := 1, exp := false, thaw := [], live := ([]) }),
  (58, { mode := 1, exp := false, thaw := [], live := ([]) }),
  (59, { mode := 1, exp := false, thaw := [], live := ([]) }),
  (60, { mode := 1, exp := false, thaw := [], live := ([]) }),
  (61, { mode := 1, exp := false, thaw := [], live := ([]) }),
  (62, { mode := 1, exp := false, thaw := [], live := ([]) }),
  (63, { mode := 1, exp := false, thaw := [], live := ([]) }),
  (64, { mode := 2, exp := true, thaw := [], live := ([]) }),
  (65, { mode := 0, exp := false, thaw := [], live := ([]) }),
  (66, { mode := 0, exp := false, thaw := [], live := (true :: false :: false :: false :: false :: false :: true :: true :: true :: true :: false :: false :: false :: false :: false :: false :: false :: false :: false :: false :: false :: false :: false :: false :: false :: false :: false :: false :: false :: false :: false :: false :: false :: false :: false :: false :: []) }),
  (67, { mode := 0, exp := false, thaw := [], live := ([]) }),
  (68, { mode := 0, exp := false, thaw := [], live := ([]) }),
  (69, { mode := 1, exp := false, thaw := [], live := ([]) }),
  (70, { mode := 2, exp := false, thaw := [0, 0, 0, 2], live := (true :: false :: true :: true :: false :: true :: false :: false :: false :: false :: false :: false :: false :: false :: false :: false :: false :: []) }),
  (71, { mode := 0, exp := false, thaw := [], live := ([]) }),
  (72, { mode := 1, exp := false, thaw := [], live := ([]) }),
  (73, { mode := 1, exp := false, thaw := [], live := ([]) }),
  (74, { mode := 1, exp := false, thaw := [], live := ([]) }),
  (75, { mode := 1, exp := false, thaw := [0, 0, 0, 0, 0, 2], live := (true :: true :: false :: false :: true :: true :: false :: false :: true :: true :: false :: false :: false :: false :: false :: false :: false :: false :: false :: false :: false :: false :: false :: false :: false :: false :: []) }),
  (76, { mode := 1, exp := false, thaw := [], live := ([]) }),
  (77, { mode := 1, exp := false, thaw := [], live := ([]) }),
  (78, { mode := 1, exp := false, thaw := [], live := (false :: true :: true :: true :: false :: false :: false :: false :: false :: false :: false :: false :: false :: false :: false :: false :: false :: false :: false :: false :: false :: false :: false :: false :: false :: false :: false :: false :: false :: false :: false :: false :: false :: false :: false :: false :: false :: false :: false :: false :: false :: false :: false :: false :: false :: false :: false :: false :: false :: false :: false :: false :: false :: false :: false :: []) }),
  (79, { mode := 1, exp := false, thaw := [], live := (true :: false :: false :: true :: true :: true :: false :: false :: false :: false :: false :: false :: false :: false :: false :: false :: false :: false :: false :: []) }),
  (80, { mode := 2, exp := false, thaw := [], live := ([]) }),
  (81, { mode := 2, exp := false, thaw := [], live := (true :: false :: true :: true :: true :: false :: false :: false :: false :: false :: false :: false :: false :: false :: false :: false :: false :: false :: false :: false :: false :: false :: false :: []) }),
  (82, { mode := 1, exp := false, thaw := [], live := (true :: false :: true :: false :: true :: false :: true :: true :: true :: true :: true :: false :: false :: false :: false :: false :: false :: false :: false :: false :: false :: false :: false :: false :: false :: false :: false :: false :: false :: false :: false :: false :: false :: false :: false :: false :: false :: false :: false :: false :: false :: false :: false :: false :: false :: false :: false :: false :: false :: []) }),
  (83, { mode := 1, exp := false, thaw := [], live := ([]) }),
  (84, { mode := 0, exp := true, thaw := [], live := ([]) }),
  (85, { mode := 0, exp := true, thaw := [], live := ([]) }),
  (86, { mode := 1, exp := false, thaw := [], live := (true :: true :: false :: false :: true :: true :: false :: false :: false :: false :: false :: false :: false :: false :: false :: false :: false :: false :: false :: false :: false :: false :: false :: false :: false :: false :: false :: []) }),
  (87, { mode := 1, exp := false, thaw := [], live := (true :: true :: false :: false :: true :: true :: false :: false :: false :: false :: false :: false :: false :: false :: false :: false :: false :: false :: false :: false :: false :: false :: false :: false :: false :: false :: false :: false :: false :: false :: false :: false :: false :: false :: []) }),
  (88, { mode := 1, exp := false, thaw := [], live := (true :: true :: false :: false :: true :: true :: false :: false :: false :: false :: false :: false :: false :: false :: false :: false :: false :: false :: false :: false :: false :: false :: false :: false :: false :: false :: false :: false :: false :: false :: false :: false :: false :: false :: false :: false :: false :: false :: false :: false :: []) }),
  (89, { mode := 1, exp := false, thaw := [], live := (true :: true :: false :: false :: true :: true :: false :: false :: false :: false :: false :: false :: false :: false :: false :: false :: false :: false :: false :: false :: false :: false :: false :: false :: false :: false :: false :: []) }),
  (90, { mode := 1, exp := false, thaw := [], live := ([]) }),
  (91, { mode := 1, exp := false, thaw := [], live := (false :: true :: true :: true :: true :: false :: false :: false :: false :: false :: false :: false :: false :: false :: false :: false :: false :: false :: false :: false :: false :: false :: false :: false :: false :: false :: false :: false :: false :: false :: false :: false :: false :: false :: false :: false :: false :: false :: false :: false :: false :: false :: false :: false :: []) }),
  (92, { mode := 2, exp := false, thaw := [], live := (true :: false :: true :: true :: true :: false :: false :: false :: false :: false :: false :: false :: false :: false :: false :: false :: false :: false :: []) }),
  (93, { mode := 1, exp := false, thaw := [], live := ([]) }),
  (94, { mode := 2, exp := false, thaw := [], live := (true :: false :: true :: true :: true :: false :: false :: false :: false :: false :: false :: false :: false :: false :: false :: false :: false :: false :: false :: false :: false :: false :: false :: []) }),
  (95, { mode := 2, exp := false, thaw := [], live := (true :: false :: true :: true :: true :: false :: false :: false :: false :: false :: false :: false :: false :: false :: false :: false :: false :: false :: false :: false :: false :: false :: []) }),
  (96, { mode := 2, exp := false, thaw := [], live := (false :: false :: true :: true :: true :: true :: true :: false :: false :: false :: false :: false :: false :: false :: false :: false :: false :: false :: true :: true :: true :: false :: false :: false :: false :: true :: false :: false :: false :: false :: false :: false :: false :: false :: false :: true :: true :: true :: false :: false :: false :: false :: false :: false :: false :: false :: false :: false :: false :: false :: false :: false :: false :: false :: []) }),
  (97, { mode := 0, exp := true, thaw := [], live := ([]) }),
  (98, { mode := 1, exp := false, thaw := [], live := (true :: true :: false :: false :: true :: true :: false :: false :: false :: false :: false :: false :: false :: false :: false :: false :: false :: false :: false :: false :: false :: false :: false :: false :: false :: false :: false :: []) }),
  (99, { mode := 1, exp := false, thaw := [], live := (true :: true :: false :: false :: true :: true :: false :: false :: false :: false :: false :: false :: false :: false :: false :: false :: false :: false :: false :: false :: false :: false :: false :: false :: false :: false :: []) }),
  (100, { mode := 1, exp := false, thaw := [], live := (true :: true :: false :: false :: true :: true :: false :: false :: false :: false :: false :: false :: false :: false :: false :: false :: false :: false :: false :: []) }),
  (101, { mode := 1, exp := false, thaw := [], live := (true :: true :: false :: false :: true :: true :: false :: false :: false :: false :: false :: false :: false :: false :: false :: false :: false :: false :: false :: false :: false :: []) }),
  (102, { mode := 1, exp := false, thaw := [], live := (true :: true :: false :: false :: true :: true :: false :: false :: false :: false :: false :: false :: false :: false :: false :: false :: false :: false :: false :: false :: false :: []) }),
  (103, { mode := 1, exp := false, thaw := [], live := (true :: true :: false :: false :: true :: true :: false :: false :: false :: false :: false :: false :: false :: false :: false :: false :: false :: false :: false :: false :: false :: false :: false :: []) }),
  (104, { mode := 1, exp := false, thaw := [], live := ([]) }),
  (105, { mode := 2, exp := false, thaw := [], live := (true :: false :: true :: true :: true :: true :: false :: false :: false :: false :: false :: false :: false :: false :: false :: false :: false :: false :: false :: false :: false :: false :: false :: false :: false :: false :: false :: false :: false :: false :: false :: false :: false :: false :: false :: false :: false :: false :: false :: false :: false :: false :: false :: false :: false :: false :: false :: false :: []) }),
  (106, { mode := 0, exp := true, thaw := [], live := ([]) }),
  (107, { mode := 0, exp := false, thaw := [], live := ([]) }),
  (108, { mode := 0, exp := false, thaw := [], live := ([]) }),
  (109, { mode := 1, exp := false, thaw := [], live := ([]) }),
  (110, { mode := 0, exp := false, thaw := [], live := ([]) }),
  (111, { mode := 1, exp := false, thaw := [], live := (true :: true :: false :: false :: true :: true :: false :: false :: false :: false :: false :: false :: false :: false :: false :: false :: false :: false :: false :: false :: false :: false :: false :: false :: false :: false :: []) }),
  (112, { mode := 1, exp := false, thaw := [], live := (true :: true :: false :: false :: true :: true :: false :: false :: false :: false :: false :: false :: false :: false :: false :: false :: false :: false :: false :: false :: false :: false :: false :: false :: false :: false :: []) }),
  (113, { mode := 0, exp := false, thaw := [], live := (true :: false :: true :: true :: false :: false :: false :: false :: false :: false :: false :: false :: false :: false :: false :: false :: false :: false :: false :: false :: false :: false :: false :: false :: false :: false :: false :: false :: []) }),
  (114, { mode := 1, exp := false, thaw := [], live := ([]) }),
  (115, { mode := 1, exp := false, thaw := [], live := (true :: true :: false :: false :: true :: true :: false :: false :: false :: false :: false :: false :: false :: false :: false :: false :: false :: false :: []) }),
  (116, { mode := 1, exp := false, thaw := [], live := ([]) }),
  (117, { mode := 1, exp := false, thaw := [], live := ([]) }),
  (118, { mode := 1, exp := false, thaw := [], live := (true :: false :: true :: true :: false :: false :: false :: false :: false :: false :: false :: false :: false :: false :: false :: false :: false :: false :: false :: false :: []) }),
  (119, { mode := 0, exp := false, thaw := [], live := ([]) }),
  (120, { mode := 0, exp := false, thaw := [], live := ([]) }),
  (121, { mode := 0, exp := false, thaw := [], live := ([]) }),
  (122, { mode := 1, exp := false, thaw := [], live := (true :: true :: false :: false :: true :: true :: false :: false :: false :: false :: false :: false :: false :: false :: false :: false :: false :: false :: false :: false :: []) }),
  (123, { mode := 0, exp := false, thaw := [], live := ([]) }),
  (124, { mode := 1, exp := false, thaw := [], live := ([]) }),
  (125, { mode := 1, exp := false, thaw := [], live := ([]) }),
  (126, { mode := 1, exp := false, thaw := [], live := (false :: false :: true :: true :: false :: false :: true :: true :: true :: false :: false :: false :: false :: false :: false :: false :: false :: false :: []) }),
  (127, { mode := 1, exp := false, thaw := [], live := ([]) }),
  (128, { mode := 1, exp := false, thaw := [], live := ([]) }),
  (129, { mode := 1, exp := false, thaw := [], live := ([]) }),
  (130, { mode := 1, exp := false, thaw := [], live := (true :: false :: true :: false :: false :: false :: true :: true :: false :: false :: false :: false :: false :: false :: false :: false :: false :: false :: false :: false :: false :: false :: false :: false :: false :: false :: false :: false :: false :: false :: false :: []) }),
  (131, { mode := 1, exp := false, thaw := [], live := (true :: true :: false :: false :: true :: true :: true :: false :: false :: false :: false :: false :: false :: false :: false :: false :: false :: false :: []) }),
  (132, { mode := 2, exp := false, thaw := [], live := (true :: false :: true :: true :: true :: false :: false :: false :: false :: false :: false :: false :: false :: false :: false :: false :: false :: false :: false :: false :: false :: false :: []) }),
  (133, { mode := 1, exp := false, thaw := [], live := (true :: true :: false :: false :: true :: true :: false :: false :: false :: false :: false :: false :: false :: false :: false :: false :: false :: false :: false :: false :: false :: false :: false :: false :: false :: false :: []) }),
  (134, { mode := 1, exp := false, thaw := [], live := (true :: true :: false :: false :: true :: true :: false :: false :: false :: false :: false :: false :: false :: false :: false :: false :: false :: false :: false :: []) }),
  (135, { mode := 1, exp := false, thaw := [], live := (true :: true :: false :: false :: true :: true :: false :: false :: false :: false :: false :: false :: false :: false :: false :: false :: false :: false :: false :: false :: false :: []) }),
  (137, { mode := 1, exp := false, thaw := [], live := ([]) }),
  (138, { mode := 0, exp := false, thaw := [], live := (true :: false :: true :: true :: true :: false :: false :: false :: false :: false :: false :: false :: false :: false :: false :: false :: false :: false :: false :: false :: false :: false :: false :: false :: false :: false :: false :: false :: false :: false :: false :: false :: false :: false :: false :: false :: false :: false :: false :: []) }),
  (139, { mode := 0, exp := false, thaw := [], live := ([]) }),
  (140, { mode := 0, exp := false, thaw := [], live := ([]) }),
  (141, { mode := 0, exp := false, thaw := [], live := (true :: false :: true :: true :: true :: false :: false :: false :: false :: false :: false :: false :: false :: false :: false :: false :: false :: false :: false :: false :: false :: false :: false :: false :: false :: false :: false :: false :: false :: false :: false :: false :: false :: false :: false :: false :: []) }),
  (142, { mode := 0, exp := false, thaw := [], live := (false :: false :: false :: false :: true :: true :: true :: false :: false :: false :: false :: false :: false :: false :: false :: false :: false :: false :: false :: false :: false :: false :: false :: false :: false :: false :: false :: false :: false :: false :: false :: false :: false :: false :: false :: false :: false :: false :: false :: false :: false :: false :: false :: false :: false :: false :: false :: false :: false :: false :: false :: false :: false :: false :: false :: false :: false :: false :: false :: false :: false :: false :: false :: false :: false :: false :: false :: false :: false :: false :: false :: false :: false :: false :: false :: false :: false :: false :: false :: false :: false :: false :: false :: false :: false :: false :: false :: false :: false :: false :: false :: false :: false :: false :: false :: false :: false :: false :: false :: false :: false :: false :: false :: false :: false :: false :: false :: false :: false :: false :: false :: false :: false :: false :: []) }),
  (143, { mode := 0, exp := false, thaw := [], live := ([]) }),
  (144, { mode := 1, exp := false, thaw := [], live := ([]) }),
  (145, { mode := 1, exp := false, thaw := [], live := (false :: true :: true :: true :: true :: true :: true :: true :: true :: true :: true :: true :: true :: true :: true :: true :: false :: false :: false :: false :: false :: false :: false :: false :: false :: false :: false :: false :: false :: false :: false :: false :: false :: false :: false :: false :: false :: false :: false :: false :: false :: false :: false :: false :: false :: false :: false :: false :: false :: false :: false :: false :: false :: false :: false :: false :: false :: false :: false :: false :: false :: false :: false :: false :: false :: false :: false :: false :: false :: false :: false :: false :: false :: false :: false :: false :: false :: false :: false :: false :: false :: false :: false :: false :: false :: false :: false :: false :: false :: false :: false :: false :: false :: false :: false :: false :: false :: false :: false :: false :: false :: false :: false :: false :: false :: false :: false :: []) }),
  (146, { mode := 1, exp := false, thaw := [], live := ([]) }),
  (147, { mode := 0, exp := false, thaw := [], live := ([]) }),
  (148, { mode := 1, exp := false, thaw := [], live := (true :: true :: false :: false :: true :: false :: false :: true :: true :: false :: false :: false :: false :: false :: false :: false :: false :: false :: false :: []) }),
  (149, { mode := 0, exp := false, thaw := [], live := (true :: true :: true :: true :: true :: false :: false :: false :: false :: false :: true :: true :: false :: false :: false :: false :: false :: false :: false :: false :: false :: false :: false :: false :: false :: false :: false :: false :: false :: false :: false :: false :: false :: false :: false :: false :: false :: false :: false :: false :: false :: false :: false :: false :: false :: false :: false :: false :: false :: false :: false :: false :: false :: false :: false :: false :: false :: false :: false :: false :: false :: false :: false :: false :: false :: false :: false :: false :: false :: false :: false :: false :: false :: false :: false :: false :: false :: false :: false :: false :: false :: false :: false :: false :: false :: false :: false :: false :: false :: false :: false :: false :: false :: false :: false :: false :: false :: false :: false :: false :: false :: false :: false :: false :: false :: false :: false :: false :: false :: false :: false :: false :: false :: false :: false :: false :: false :: false :: false :: false :: false :: false :: false :: false :: false :: false :: false :: false :: false :: false :: false :: false :: false :: false :: false :: false :: false :: false :: false :: false :: false :: false :: false :: false :: false :: false :: false :: false :: []) }),
  (150, { mode := 1, exp := false, thaw := [], live := ([]) }),
  (151, { mode := 1, exp := false, thaw := [], live := ([]) }),
  (152, { mode := 1, exp := false, thaw := [], live := ([]) }),
  (153, { mode := 2, exp := false, thaw := [], live := (true :: false :: true :: true :: true :: false :: false :: false :: false :: true :: true :: false :: false :: false :: false :: false :: false :: false :: false :: false :: false :: false :: false :: false :: false :: false :: false :: false :: false :: false :: false :: false :: false :: false :: false :: false :: false :: false :: false :: false :: false :: false :: false :: false :: false :: false :: false :: false :: false :: false :: false :: false :: false :: false :: false :: false :: false :: false :: false :: false :: false :: false :: false :: false :: false :: false :: false :: false :: false :: false :: false :: false :: []) }),
  (154, { mode := 2, exp := false, thaw := [], live := ([]) }),
  (155, { mode := 0, exp := false, thaw := [], live := (true :: false :: true :: true :: false :: false :: false :: false :: true :: true :: true :: true :: true :: true :: false :: false :: false :: false :: false :: false :: false :: false :: false :: false :: false :: false :: false :: false :: false :: false :: false :: false :: false :: false :: false :: false :: false :: false :: false :: false :: false :: false :: false :: false :: false :: false :: false :: false :: false :: false :: false :: false :: []) }),
  (156, { mode := 2, exp := false, thaw := [], live := (false :: true :: true :: true :: true :: false :: false :: false :: false :: false :: false :: false :: false :: false :: false :: false :: false :: false :: false :: false :: false :: false :: false :: false :: false :: false :: false :: false :: false :: false :: false :: false :: []) }),
  (157, { mode := 2, exp := false, thaw := [], live := (true :: false :: true :: true :: true :: false :: false :: true :: true :: false :: false :: false :: false :: false :: false :: false :: false :: false :: false :: false :: false :: false :: false :: false :: false :: false :: false :: false :: false :: false :: false :: false :: false :: false :: false :: false :: false :: false :: false :: false :: false :: false :: false :: false :: false :: false :: false :: false :: false :: false :: false :: false :: false :: false :: false :: false :: false :: false :: false :: false :: false :: false :: false :: false :: false :: false :: false :: false :: false :: false :: false :: false :: []) }),
  (158, { mode := 2, exp := false, thaw := [], live := ([]) }),
  (159, { mode := 0, exp := false, thaw := [], live := ([]) }),
  (160, { mode := 2, exp := false, thaw := [], live := (false :: true :: true :: true :: true :: true :: false :: false :: false :: false :: false :: false :: false :: false :: false :: false :: false :: false :: false :: false :: false :: false :: false :: false :: false :: false :: false :: false :: false :: false :: false :: false :: false :: false :: false :: false :: false :: false :: false :: false :: false :: []) }),
  (161, { mode := 2, exp := false, thaw := [], live := (false :: true :: true :: true :: false :: false :: true :: true :: true :: true :: true :: true :: true :: false :: false :: false :: false :: false :: false :: false :: false :: false :: false :: false :: false :: false :: false :: false :: false :: false :: false :: false :: false :: false :: false :: false :: false :: false :: false :: false :: false :: false :: false :: false :: false :: false :: false :: false :: []) }),
  (162, { mode := 1, exp := false, thaw := [], live := (false :: false :: true :: false :: false :: false :: true :: true :: false :: false :: false :: false :: false :: false :: false :: false :: false :: false :: false :: false :: false :: false :: false :: false :: false :: false :: false :: false :: false :: false :: false :: false :: false :: false :: false :: false :: false :: false :: false :: false :: false :: false :: false :: false :: false :: false :: false :: false :: false :: false :: false :: false :: false :: false :: false :: false :: false :: false :: false :: false :: false :: false :: false :: false :: []) }),
  (163, { mode := 2, exp := false, thaw := [], live := (true :: true :: false :: false :: true :: true :: true :: false :: false :: false :: false :: false :: false :: false :: false :: false :: false :: false :: false :: false :: false :: false :: false :: false :: false :: false :: false :: false :: false :: false :: false :: false :: false :: []) }),
  (164, { mode := 1, exp := false, thaw := [], live := (true :: true :: false :: false :: true :: true :: true :: false :: false :: false :: false :: false :: false :: false :: false :: false :: false :: false :: false :: false :: false :: false :: false :: false :: false :: false :: false :: false :: false :: false :: false :: false :: false :: false :: false :: []) }),
  (165, { mode := 1, exp := false, thaw := [], live := (true :: true :: false :: false :: true :: true :: true :: false :: false :: false :: false :: false :: false :: false :: false :: false :: false :: false :: false :: false :: false :: false :: false :: false :: false :: []) }),
  (166, { mode := 2, exp := false, thaw := [], live := (true :: true :: true :: true :: true :: false :: false :: false :: false :: false :: true :: true :: true :: true :: true :: false :: false :: false :: false :: false :: false :: false :: false :: false :: false :: false :: false :: false :: false :: false :: false :: false :: false :: false :: false :: false :: false :: false :: false :: false :: false :: false :: false :: false :: false :: false :: false :: false :: false :: false :: false :: false :: false :: false :: false :: false :: false :: false :: false :: false :: false :: false :: false :: false :: []) }),
  (167, { mode := 0, exp := false, thaw := [], live := ([]) }),
  (168, { mode := 1, exp := false, thaw := [0, 0, 0, 0, 0, 0, 0, 0, 0, 0, 0, 0, 0, 0, 0, 0, 0, 0, 2], live := (false :: false :: true :: true :: false :: false :: false :: false :: false :: false :: true :: true :: false :: true :: true :: true :: false :: true :: true :: false :: false :: false :: false :: false :: false :: false :: false :: false :: false :: false :: false :: false :: false :: true :: true :: true :: false :: false :: false :: false :: false :: false :: false :: true :: true :: true :: false :: false :: false :: false :: false :: false :: false :: false :: false :: false :: false :: false :: false :: false :: false :: false :: false :: []) }),
  (169, { mode := 0, exp := false, thaw := [], live := ([]) }),
  (170, { mode := 0, exp := false, thaw := [], live := (true :: true :: true :: true :: false :: false :: false :: false :: true :: true :: false :: false :: false :: false :: false :: false :: false :: false :: false :: false :: false :: false :: false :: false :: false :: false :: false :: false :: false :: false :: false :: false :: false :: false :: false :: false :: false :: false :: false :: false :: false :: false :: false :: false :: false :: false :: false :: false :: false :: false :: false :: false :: false :: []) }),
  (171, { mode := 0, exp := false, thaw := [], live := (true :: false :: false :: true :: false :: false :: false :: false :: true :: true :: true :: true :: true :: false :: false :: false :: false :: false :: false :: false :: false :: false :: false :: false :: false :: false :: false :: false :: false :: false :: false :: false :: false :: false :: false :: false :: false :: false :: false :: false :: false :: false :: false :: false :: false :: false :: false :: false :: false :: false :: false :: false :: false :: false :: false :: false :: false :: false :: false :: false :: []) }),
  (172, { mode := 0, exp := false, thaw := [], live := (true :: true :: false :: false :: false :: false :: false :: false :: true :: true :: true :: true :: false :: false :: false :: false :: false :: false :: false :: false :: false :: false :: false :: false :: false :: false :: false :: false :: false :: false :: false :: false :: false :: false :: false :: false :: false :: false :: false :: false :: false :: false :: false :: false :: false :: false :: false :: false :: false :: false :: false :: false :: false :: false :: false :: false :: false :: false :: false :: false :: false :: false :: false :: false :: false :: false :: false :: []) }),
  (173, { mode := 0, exp := false, thaw := [], live := ([]) }),
  (174, { mode := 0, exp := false, thaw := [], live := (true :: false :: false :: false :: false :: false :: false :: false :: true :: true :: false :: false :: false :: false :: false :: false :: false :: false :: false :: false :: false :: false :: false :: false :: false :: false :: false :: false :: false :: false :: false :: false :: false :: false :: []) }),
  (175, { mode := 0, exp := false, thaw := [], live := (true :: true :: true :: true :: false :: false :: false :: false :: true :: true :: true :: true :: true :: false :: false :: false :: false :: false :: false :: false :: false :: false :: false :: false :: false :: false :: false :: false :: false :: false :: false :: false :: false :: false :: false :: false :: false :: false :: false :: false :: false :: false :: false :: false :: false :: false :: false :: false :: false :: false :: false :: false :: false :: false :: false :: false :: false :: false :: false :: false :: false :: false :: false :: false :: false :: false :: false :: false :: false :: false :: false :: false :: false :: false :: false :: false :: false :: false :: false :: false :: false :: false :: false :: false :: false :: false :: false :: false :: false :: false :: false :: false :: false :: false :: false :: false :: false :: false :: false :: false :: false :: false :: false :: false :: false :: false :: false :: false :: false :: false :: false :: false :: false :: false :: false :: false :: false :: false :: false :: false :: false :: false :: false :: false :: false :: false :: false :: false :: false :: false :: false :: false :: false :: false :: false :: false :: false :: false :: false :: false :: false :: []) }),
  (176, { mode := 0, exp := false, thaw := [], live := (true :: true :: false :: false :: true :: false :: false :: false :: false :: false :: true :: true :: true :: false :: false :: false :: false :: false :: false :: false :: false :: false :: false :: false :: false :: false :: false :: false :: false :: false :: false :: false :: false :: false :: false :: false :: false :: false :: false :: false :: false :: false :: false :: false :: false :: false :: false :: false :: false :: false :: false :: false :: false :: false :: false :: false :: false :: false :: false :: false :: false :: false :: false :: false :: false :: false :: false :: false :: false :: false :: false :: false :: false :: false :: false :: false :: false :: false :: false :: false :: false :: false :: false :: false :: false :: false :: false :: false :: false :: false :: []) }),
  (177, { mode := 0, exp := false, thaw := [], live := (true :: true :: false :: false :: true :: false :: false :: false :: false :: false :: true :: true :: true :: true :: false :: false :: false :: false :: false :: false :: false :: false :: false :: false :: false :: false :: false :: false :: false :: false :: false :: false :: false :: false :: false :: false :: false :: false :: false :: false :: false :: false :: false :: false :: false :: false :: false :: false :: false :: false :: false :: false :: false :: false :: false :: false :: false :: false :: false :: false :: false :: false :: false :: false :: false :: false :: false :: false :: false :: false :: false :: false :: false :: false :: false :: false :: false :: false :: false :: false :: false :: false :: false :: false :: false :: false :: false :: false :: false :: false :: false :: false :: false :: false :: false :: false :: false :: false :: false :: false :: false :: false :: false :: false :: false :: false :: false :: false :: false :: false :: false :: false :: false :: false :: false :: false :: false :: false :: false :: false :: false :: false :: false :: false :: false :: false :: false :: false :: false :: false :: false :: false :: false :: false :: false :: false :: false :: false :: false :: false :: false :: false :: false :: false :: false :: false :: false :: false :: false :: false :: false :: false :: false :: false :: false :: false :: false :: false :: false :: false :: false :: false :: false :: false :: false :: false :: false :: false :: false :: false :: false :: false :: false :: false :: false :: false :: false :: false :: []) }),
  (178, { mode := 1, exp := false, thaw := [], live := ([]) }),
  (179, { mode := 1, exp := false, thaw := [], live := ([]) }),
  (180, { mode := 0, exp := false, thaw := [], live := (true :: false :: true :: true :: false :: false :: false :: false :: false :: false :: false :: false :: false :: false :: false :: false :: false :: false :: false :: false :: false :: false :: false :: false :: false :: false :: false :: false :: []) }),
  (181, { mode := 2, exp := false, thaw := [], live := (true :: true :: false :: false :: true :: true :: true :: true :: false :: false :: false :: false :: false :: false :: false :: false :: false :: false :: false :: false :: false :: false :: false :: false :: false :: false :: false :: false :: false :: false :: false :: false :: false :: false :: false :: false :: []) }),
  (182, { mode := 1, exp := false, thaw := [], live := (true :: false :: true :: true :: true :: false :: false :: false :: false :: false :: false :: false :: false :: false :: []) }),
  (183, { mode := 1, exp := false, thaw := [], live := (true :: false :: true :: true :: true :: true :: true :: false :: false :: false :: false :: false :: false :: false :: false :: false :: false :: false :: false :: false :: false :: false :: false :: false :: false :: false :: false :: false :: false :: false :: false :: false :: false :: false :: false :: false :: false :: false :: false :: false :: false :: false :: false :: false :: false :: false :: false :: false :: false :: false :: false :: false :: false :: false :: false :: false :: false :: false :: false :: false :: false :: false :: false :: false :: false :: false :: false :: []) }),
  (184, { mode := 2, exp := false, thaw := [], live := (true :: false :: true :: true :: true :: false :: false :: false :: false :: false :: false :: false :: false :: false :: false :: false :: false :: false :: false :: false :: false :: false :: false :: false :: false :: false :: false :: false :: false :: false :: false :: false :: false :: false :: false :: false :: false :: false :: false :: false :: false :: false :: false :: false :: false :: false :: false :: false :: false :: false :: false :: []) }),
  (185, { mode := 1, exp := false, thaw := [], live := (false :: true :: true :: true :: true :: false :: false :: false :: false :: false :: false :: false :: false :: false :: false :: false :: false :: false :: false :: false :: false :: false :: false :: false :: false :: false :: false :: false :: false :: false :: false :: false :: false :: false :: false :: false :: false :: false :: false :: false :: false :: false :: false :: false :: []) }),
  (186, { mode := 2, exp := false, thaw := [], live := (false :: false :: true :: true :: true :: true :: true :: false :: false :: false :: false :: false :: false :: false :: false :: false :: false :: false :: false :: false :: false :: false :: false :: false :: false :: false :: false :: false :: false :: false :: false :: false :: false :: false :: false :: false :: []) }),
  (187, { mode := 1, exp := false, thaw := [], live := (false :: true :: true :: true :: true :: false :: true :: false :: false :: false :: false :: false :: false :: false :: false :: false :: false :: false :: false :: false :: false :: false :: false :: false :: false :: false :: false :: false :: false :: false :: false :: false :: false :: false :: false :: false :: false :: false :: false :: false :: false :: false :: false :: false :: false :: false :: false :: false :: false :: false :: false :: false :: false :: false :: []) }),
  (188, { mode := 0, exp := false, thaw := [], live := (false :: false :: true :: false :: false :: false :: true :: true :: true :: true :: false :: false :: false :: false :: false :: false :: false :: false :: false :: false :: false :: false :: false :: false :: false :: false :: false :: false :: false :: false :: false :: false :: false :: false :: false :: false :: false :: false :: false :: false :: false :: false :: false :: false :: false :: false :: false :: false :: false :: []) }),
  (189, { mode := 0, exp := false, thaw := [], live := (true :: false :: true :: false :: false :: false :: true :: true :: true :: true :: true :: true :: false :: false :: false :: false :: false :: false :: false :: false :: false :: false :: false :: false :: false :: false :: false :: false :: false :: false :: false :: false :: false :: false :: false :: false :: false :: false :: false :: false :: false :: false :: false :: false :: false :: false :: false :: false :: false :: []) }),
  (190, { mode := 2, exp := false, thaw := [], live := (false :: true :: true :: true :: true :: false :: false :: false :: true :: true :: true :: true :: true :: true :: true :: false :: false :: false :: false :: false :: false :: false :: false :: false :: false :: false :: false :: false :: false :: false :: false :: false :: false :: false :: false :: false :: false :: false :: false :: false :: false :: false :: false :: false :: false :: false :: false :: false :: false :: false :: false :: false :: false :: false :: false :: false :: false :: false :: false :: false :: false :: false :: []) }),
  (191, { mode := 1, exp := false, thaw := [], live := ([]) }),
  (192, { mode := 1, exp := false, thaw := [], live := (true :: true :: true :: false :: false :: false :: true :: true :: true :: false :: false :: false :: false :: false :: false :: false :: false :: false :: false :: false :: false :: false :: false :: false :: false :: false :: false :: false :: false :: false :: false :: false :: false :: false :: false :: false :: []) }),
  (193, { mode := 1, exp := false, thaw := [], live := (true :: true :: false :: false :: true :: true :: false :: false :: false :: false :: false :: false :: false :: false :: false :: false :: false :: false :: []) }),
  (194, { mode := 0, exp := false, thaw := [0, 0, 0, 0, 0, 0, 0, 0, 0, 0, 2], live := (true :: true :: false :: true :: true :: true :: false :: false :: false :: true :: true :: true :: false :: false :: true :: true :: true :: false :: false :: false :: false :: false :: false :: false :: false :: false :: false :: false :: false :: false :: false :: false :: false :: false :: false :: false :: false :: false :: false :: false :: false :: false :: false :: false :: false :: false :: false :: false :: false :: false :: []) }),
  (195, { mode := 1, exp := false, thaw := [0, 0, 0, 2], live := (true :: false :: true :: true :: true :: false :: false :: false :: false :: false :: false :: false :: false :: false :: false :: false :: false :: false :: false :: false :: false :: false :: false :: false :: false :: false :: false :: false :: false :: false :: false :: false :: []) }),
  (196, { mode := 0, exp := false, thaw := [], live := (true :: false :: true :: true :: true :: false :: false :: false :: false :: false :: true :: false :: false :: false :: false :: false :: false :: false :: false :: false :: false :: false :: false :: false :: false :: false :: false :: false :: false :: false :: false :: false :: false :: false :: false :: false :: false :: false :: false :: false :: false :: false :: false :: false :: false :: false :: false :: false :: false :: false :: false :: false :: false :: false :: false :: false :: false :: false :: false :: false :: false :: false :: false :: false :: false :: false :: false :: false :: false :: false :: false :: false :: false :: false :: false :: false :: false :: false :: false :: false :: false :: false :: []) }),
  (197, { mode := 1, exp := false, thaw := [], live := ([]) }),
  (199, { mode := 0, exp := false, thaw := [], live := ([]) }),
  (200, { mode := 0, exp := false, thaw := [], live := ([]) }),
  (201, { mode := 1, exp := false, thaw := [], live := (false :: false :: true :: true :: true :: true :: false :: false :: false :: false :: false :: false :: false :: false :: false :: false :: false :: false :: false :: false :: false :: false :: false :: false :: false :: false :: false :: []) }),
  (202, { mode := 1, exp := false, thaw := [], live := (true :: false :: true :: true :: false :: false :: false :: false :: false :: false :: false :: false :: false :: false :: false :: false :: false :: false :: false :: false :: false :: false :: false :: false :: false :: false :: false :: false :: false :: false :: false :: []) }),
  (203, { mode := 2, exp := false, thaw := [], live := (false :: false :: true :: true :: false :: false :: false :: false :: true :: true :: true :: true :: false :: false :: false :: false :: false :: false :: false :: false :: false :: false :: false :: false :: false :: false :: false :: false :: false :: false :: false :: false :: false :: false :: false :: false :: false :: false :: false :: false :: false :: false :: false :: false :: false :: false :: false :: false :: false :: false :: false :: false :: false :: false :: false :: false :: false :: false :: false :: false :: false :: false :: false :: false :: false :: false :: false :: false :: false :: false :: false :: false :: false :: false :: false :: false :: false :: false :: false :: []) }),
  (204, { mode := 0, exp := false, thaw := [], live := ([]) })]

noncomputable def eqTypes : List (TypeId × Nat) := []
noncomputable def prims : List (Nat × (List A → H → Option (A × H))) := []

noncomputable def env : Env := { P := Try.prog, hint := fun f => (hints.lookup f).getD {}, eqs := eqTypes, prim := fun f => prims.lookup f }

/-! FnExactSwapWord -/
noncomputable def S_FnExactSwapWord : SC := slimF Try.f3
noncomputable def lp_FnExactSwapWord : Nat → Code := lpOf Try.f3
theorem dr_FnExactSwapWord : drawsOK (codeOf Try.f3) = true := by kernel_rfl
theorem fn_FnExactSwapWord {L n : Nat} {args : List A} {h : H} : evCall env L (n + 1) 3 args h = kCode env (evCall env L n) L h.length [] ([]) lp_FnExactSwapWord S_FnExactSwapWord (args ++ List.replicate (Try.f3.ntmps - args.length) (.d .undef)) h (kFin env.P h.length false [.tmp 6]) :=
  fn_eq2 (mode := 1) (by kernel_rfl) Try.func3 (by kernel_rfl) (by kernel_rfl) dr_FnExactSwapWord (by kernel_rfl) (by kernel_rfl)

/-! FnSwapWord -/
noncomputable def S_FnSwapWord : SC := slimF Try.f4
noncomputable def lp_FnSwapWord : Nat → Code := lpOf Try.f4
theorem dr_FnSwapWord : drawsOK (codeOf Try.f4) = true := by kernel_rfl
theorem fn_FnSwapWord {L n : Nat} {args : List A} {h : H} : evCall env L (n + 1) 4 args h = kCode env (evCall env L n) L h.length [] ([]) lp_FnSwapWord S_FnSwapWord (args ++ List.replicate (Try.f4.ntmps - args.length) (.d .undef)) h (kFin env.P h.length false [.tmp 2]) :=
  fn_eq2 (mode := 1) (by kernel_rfl) Try.func4 (by kernel_rfl) (by kernel_rfl) dr_FnSwapWord (by kernel_rfl) (by kernel_rfl)

/-! FnSwapAlphabet -/
noncomputable def S_FnSwapAlphabet : SC := slimF Try.f5
noncomputable def lp_FnSwapAlphabet : Nat → Code := lpOf Try.f5
theorem dr_FnSwapAlphabet : drawsOK (codeOf Try.f5) = true := by kernel_rfl
theorem fn_FnSwapAlphabet {L n : Nat} {args : List A} {h : H} : evCall env L (n + 1) 5 args h = kCode env (evCall env L n) L h.length [] ([]) lp_FnSwapAlphabet S_FnSwapAlphabet (args ++ List.replicate (Try.f5.ntmps - args.length) (.d .undef)) h (kFin env.P h.length false [.tmp 2]) :=
  fn_eq2 (mode := 1) (by kernel_rfl) Try.func5 (by kernel_rfl) (by kernel_rfl) dr_FnSwapAlphabet (by kernel_rfl) (by kernel_rfl)

/-! FnSwapRestrict -/
noncomputable def S_FnSwapRestrict : SC := slimF Try.f6
noncomputable def lp_FnSwapRestrict : Nat → Code := lpOf Try.f6
theorem dr_FnSwapRestrict : drawsOK (codeOf Try.f6) = true := by kernel_rfl
theorem fn_FnSwapRestrict {L n : Nat} {args : List A} {h : H} : evCall env L (n + 1) 6 args h = kCode env (evCall env L n) L h.length [] ([]) lp_FnSwapRestrict S_FnSwapRestrict (args ++ List.replicate (Try.f6.ntmps - args.length) (.d .undef)) h (kFin env.P h.length false [.tmp 4]) :=
  fn_eq2 (mode := 1) (by kernel_rfl) Try.func6 (by kernel_rfl) (by kernel_rfl) dr_FnSwapRestrict (by kernel_rfl) (by kernel_rfl)

/-! FnExactDropEdge -/
noncomputable def S_FnExactDropEdge : SC := slimF Try.f7
noncomputable def lp_FnExactDropEdge : Nat → Code := lpOf Try.f7
theorem dr_FnExactDropEdge : drawsOK (codeOf Try.f7) = true := by kernel_rfl
theorem fn_FnExactDropEdge {L n : Nat} {args : List A} {h : H} : evCall env L (n + 1) 7 args h = kCode env (evCall env L n) L h.length [] ([]) lp_FnExactDropEdge S_FnExactDropEdge (args ++ List.replicate (Try.f7.ntmps - args.length) (.d .undef)) h (kFin env.P h.length false [.tmp 4]) :=
  fn_eq2 (mode := 1) (by kernel_rfl) Try.func7 (by kernel_rfl) (by kernel_rfl) dr_FnExactDropEdge (by kernel_rfl) (by kernel_rfl)

/-! FnExactSwapAutomaton -/
noncomputable def S_FnExactSwapAutomaton : SC := slimF Try.f8
noncomputable def lp_FnExactSwapAutomaton : Nat → Code := lpOf Try.f8
theorem dr_FnExactSwapAutomaton : drawsOK (codeOf Try.f8) = true := by kernel_rfl
theorem fn_FnExactSwapAutomaton {L n : Nat} {args : List A} {h : H} : evCall env L (n + 1) 8 args h = kCode env (evCall env L n) L h.length [] ([]) lp_FnExactSwapAutomaton S_FnExactSwapAutomaton (args ++ List.replicate (Try.f8.ntmps - args.length) (.d .undef)) h (kFin env.P h.length false [.tmp 6]) :=
  fn_eq2 (mode := 1) (by kernel_rfl) Try.func8 (by kernel_rfl) (by kernel_rfl) dr_FnExactSwapAutomaton (by kernel_rfl) (by kernel_rfl)

/-! FnExactAddEdge -/
noncomputable def S_FnExactAddEdge : SC := slimF Try.f9
noncomputable def lp_FnExactAddEdge : Nat → Code := lpOf Try.f9
theorem dr_FnExactAddEdge : drawsOK (codeOf Try.f9) = true := by kernel_rfl
theorem fn_FnExactAddEdge {L n : Nat} {args : List A} {h : H} : evCall env L (n + 1) 9 args h = kCode env (evCall env L n) L h.length [] ([]) lp_FnExactAddEdge S_FnExactAddEdge (args ++ List.replicate (Try.f9.ntmps - args.length) (.d .undef)) h (kFin env.P h.length false [.tmp 4]) :=
  fn_eq2 (mode := 1) (by kernel_rfl) Try.func9 (by kernel_rfl) (by kernel_rfl) dr_FnExactAddEdge (by kernel_rfl) (by kernel_rfl)

/-! FnEdgeOnce -/
noncomputable def S_FnEdgeOnce : SC := slimF Try.f10
noncomputable def lp_FnEdgeOnce : Nat → Code := lpOf Try.f10
theorem dr_FnEdgeOnce : drawsOK (codeOf Try.f10) = true := by kernel_rfl
theorem fn_FnEdgeOnce {L n : Nat} {args : List A} {h : H} : evCall env L (n + 1) 10 args h = kCode env (evCall env L n) L h.length [] ([]) lp_FnEdgeOnce S_FnEdgeOnce (args ++ List.replicate (Try.f10.ntmps - args.length) (.d .undef)) h (kFin env.P h.length false [.tmp 2]) :=
  fn_eq2 (mode := 1) (by kernel_rfl) Try.func10 (by kernel_rfl) (by kernel_rfl) dr_FnEdgeOnce (by kernel_rfl) (by kernel_rfl)

/-! FnSwapAutomaton -/
noncomputable def S_FnSwapAutomaton : SC := slimF Try.f11
noncomputable def lp_FnSwapAutomaton : Nat → Code := lpOf Try.f11
theorem dr_FnSwapAutomaton : drawsOK (codeOf Try.f11) = true := by kernel_rfl
theorem fn_FnSwapAutomaton {L n : Nat} {args : List A} {h : H} : evCall env L (n + 1) 11 args h = kCode env (evCall env L n) L h.length [] (false :: false :: true :: true :: true :: true :: true :: false :: false :: false :: true :: false :: false :: false :: false :: false :: false :: false :: false :: false :: false :: false :: false :: false :: false :: false :: false :: false :: false :: false :: false :: false :: false :: false :: false :: false :: false :: false :: false :: false :: false :: false :: false :: false :: false :: false :: false :: false :: false :: false :: false :: false :: false :: false :: false :: false :: false :: false :: false :: false :: false :: false :: false :: false :: false :: false :: false :: false :: false :: false :: false :: false :: false :: false :: false :: false :: false :: false :: false :: false :: false :: false :: false :: false :: false :: false :: false :: false :: false :: false :: false :: false :: false :: false :: false :: false :: false :: false :: false :: []) lp_FnSwapAutomaton S_FnSwapAutomaton (args ++ List.replicate (Try.f11.ntmps - args.length) (.d .undef)) h (kFin env.P h.length false [.tmp 2]) :=
  fn_eq2 (mode := 1) (by kernel_rfl) Try.func11 (by kernel_rfl) (by kernel_rfl) dr_FnSwapAutomaton (by kernel_rfl) (by kernel_rfl)
noncomputable def S_FnSwapAutomaton_0 : SC := slimL Try.f11 0
theorem step_FnSwapAutomaton_0 {R : Type} {call : CallF} {L nf n : Nat} {thaw : List Nat} {live m : List Bool} {s : List A} {h : H} {k : Exit → List A → H → Option R} : kLoop env call L nf thaw live (lp_FnSwapAutomaton 0) m (n + 1) s h k = kCode env call L nf thaw live lp_FnSwapAutomaton S_FnSwapAutomaton_0 s h (kNext env call L nf thaw live (lp_FnSwapAutomaton 0) m n k) :=
  kLoop_step dr_FnSwapAutomaton (by kernel_rfl)

/-! FnExactSeparatingWords -/
noncomputable def S_FnExactSeparatingWords : SC := slimF Try.f12
noncomputable def lp_FnExactSeparatingWords : Nat → Code := lpOf Try.f12
theorem dr_FnExactSeparatingWords : drawsOK (codeOf Try.f12) = true := by kernel_rfl
theorem fn_FnExactSeparatingWords {L n : Nat} {args : List A} {h : H} : evCall env L (n + 1) 12 args h = kCode env (evCall env L n) L h.length [] ([]) lp_FnExactSeparatingWords S_FnExactSeparatingWords (args ++ List.replicate (Try.f12.ntmps - args.length) (.d .undef)) h (kFin env.P h.length false [.tmp 2]) :=
  fn_eq2 (mode := 1) (by kernel_rfl) Try.func12 (by kernel_rfl) (by kernel_rfl) dr_FnExactSeparatingWords (by kernel_rfl) (by kernel_rfl)

/-! FnExactSwapSystem -/
noncomputable def S_FnExactSwapSystem : SC := slimF Try.f13
noncomputable def lp_FnExactSwapSystem : Nat → Code := lpOf Try.f13
theorem dr_FnExactSwapSystem : drawsOK (codeOf Try.f13) = true := by kernel_rfl
theorem fn_FnExactSwapSystem {L n : Nat} {args : List A} {h : H} : evCall env L (n + 1) 13 args h = kCode env (evCall env L n) L h.length [] ([]) lp_FnExactSwapSystem S_FnExactSwapSystem (args ++ List.replicate (Try.f13.ntmps - args.length) (.d .undef)) h (kFin env.P h.length false [.tmp 6]) :=
  fn_eq2 (mode := 1) (by kernel_rfl) Try.func13 (by kernel_rfl) (by kernel_rfl) dr_FnExactSwapSystem (by kernel_rfl) (by kernel_rfl)

/-! s_SwapWord -/
noncomputable def S_s_SwapWord : SC := slimF Try.f14
noncomputable def lp_s_SwapWord : Nat → Code := lpOf Try.f14
theorem dr_s_SwapWord : drawsOK (codeOf Try.f14) = true := by kernel_rfl
theorem fn_s_SwapWord {L n : Nat} {args : List A} {h : H} : evCall env L (n + 1) 14 args h = kCode env (evCall env L n) L h.length [] (true :: true :: true :: false :: false :: false :: true :: true :: true :: false :: false :: false :: false :: false :: false :: false :: false :: false :: false :: false :: false :: false :: false :: false :: false :: false :: false :: false :: false :: false :: false :: false :: false :: false :: false :: false :: false :: false :: false :: false :: false :: false :: []) lp_s_SwapWord S_s_SwapWord (args ++ List.replicate (Try.f14.ntmps - args.length) (.d .undef)) h (kFin env.P h.length false [.tmp 6]) :=
  fn_eq2 (mode := 1) (by kernel_rfl) Try.func14 (by kernel_rfl) (by kernel_rfl) dr_s_SwapWord (by kernel_rfl) (by kernel_rfl)
noncomputable def S_s_SwapWord_0 : SC := slimL Try.f14 0
theorem step_s_SwapWord_0 {R : Type} {call : CallF} {L nf n : Nat} {thaw : List Nat} {live m : List Bool} {s : List A} {h : H} {k : Exit → List A → H → Option R} : kLoop env call L nf thaw live (lp_s_SwapWord 0) m (n + 1) s h k = kCode env call L nf thaw live lp_s_SwapWord S_s_SwapWord_0 s h (kNext env call L nf thaw live (lp_s_SwapWord 0) m n k) :=
  kLoop_step dr_s_SwapWord (by kernel_rfl)

/-! i_SwapWord -/
noncomputable def S_i_SwapWord : SC := slimF Try.f15
noncomputable def lp_i_SwapWord : Nat → Code := lpOf Try.f15
theorem dr_i_SwapWord : drawsOK (codeOf Try.f15) = true := by kernel_rfl
theorem fn_i_SwapWord {L n : Nat} {args : List A} {h : H} : evCall env L (n + 1) 15 args h = kCode env (evCall env L n) L h.length [] (true :: true :: true :: false :: false :: false :: true :: true :: false :: false :: false :: false :: false :: false :: false :: false :: false :: false :: false :: false :: false :: false :: false :: false :: false :: false :: true :: true :: false :: false :: false :: false :: false :: false :: false :: false :: false :: false :: false :: false :: false :: false :: false :: []) lp_i_SwapWord S_i_SwapWord (args ++ List.replicate (Try.f15.ntmps - args.length) (.d .undef)) h (kFin env.P h.length false [.tmp 6]) :=
  fn_eq2 (mode := 1) (by kernel_rfl) Try.func15 (by kernel_rfl) (by kernel_rfl) dr_i_SwapWord (by kernel_rfl) (by kernel_rfl)
noncomputable def S_i_SwapWord_0 : SC := slimL Try.f15 0
theorem step_i_SwapWord_0 {R : Type} {call : CallF} {L nf n : Nat} {thaw : List Nat} {live m : List Bool} {s : List A} {h : H} {k : Exit → List A → H → Option R} : kLoop env call L nf thaw live (lp_i_SwapWord 0) m (n + 1) s h k = kCode env call L nf thaw live lp_i_SwapWord S_i_SwapWord_0 s h (kNext env call L nf thaw live (lp_i_SwapWord 0) m n k) :=
  kLoop_step dr_i_SwapWord (by kernel_rfl)

/-! s_DrawSwapWord -/
noncomputable def S_s_DrawSwapWord : SC := slimF Try.f16
noncomputable def lp_s_DrawSwapWord : Nat → Code := lpOf Try.f16
theorem dr_s_DrawSwapWord : drawsOK (codeOf Try.f16) = true := by kernel_rfl
theorem fn_s_DrawSwapWord {L n : Nat} {args : List A} {h : H} : evCall env L (n + 1) 16 args h = kCode env (evCall env L n) L h.length [] ([]) lp_s_DrawSwapWord S_s_DrawSwapWord (args ++ List.replicate (Try.f16.ntmps - args.length) (.d .undef)) h (kFin env.P h.length false [.tmp 2, .tmp 3, .tmp 4]) :=
  fn_eq2 (mode := 1) (by kernel_rfl) Try.func16 (by kernel_rfl) (by kernel_rfl) dr_s_DrawSwapWord (by kernel_rfl) (by kernel_rfl)

/-! i_WordValid -/
noncomputable def S_i_WordValid : SC := slimF Try.f17
noncomputable def lp_i_WordValid : Nat → Code := lpOf Try.f17
theorem dr_i_WordValid : drawsOK (codeOf Try.f17) = true := by kernel_rfl
theorem fn_i_WordValid {L n : Nat} {args : List A} {h : H} : evCall env L (n + 1) 17 args h = kCode env (evCall env L n) L h.length [] ([]) lp_i_WordValid S_i_WordValid (args ++ List.replicate (Try.f17.ntmps - args.length) (.d .undef)) h (kFin env.P h.length false [.tmp 2]) :=
  fn_eq2 (mode := 1) (by kernel_rfl) Try.func17 (by kernel_rfl) (by kernel_rfl) dr_i_WordValid (by kernel_rfl) (by kernel_rfl)

/-! i_AlphabetOf -/
noncomputable def S_i_AlphabetOf : SC := slimF Try.f18
noncomputable def lp_i_AlphabetOf : Nat → Code := lpOf Try.f18
theorem dr_i_AlphabetOf : drawsOK (codeOf Try.f18) = true := by kernel_rfl
theorem fn_i_AlphabetOf {L n : Nat} {args : List A} {h : H} : evCall env L (n + 1) 18 args h = kCode env (evCall env L n) L h.length [] (true :: false :: true :: true :: true :: false :: false :: false :: false :: false :: true :: true :: false :: false :: false :: false :: false :: false :: false :: false :: false :: false :: []) lp_i_AlphabetOf S_i_AlphabetOf (args ++ List.replicate (Try.f18.ntmps - args.length) (.d .undef)) h (kFin env.P h.length false [.tmp 2, .tmp 3]) :=
  fn_eq2 (mode := 1) (by kernel_rfl) Try.func18 (by kernel_rfl) (by kernel_rfl) dr_i_AlphabetOf (by kernel_rfl) (by kernel_rfl)
noncomputable def S_i_AlphabetOf_0 : SC := slimL Try.f18 0
theorem step_i_AlphabetOf_0 {R : Type} {call : CallF} {L nf n : Nat} {thaw : List Nat} {live m : List Bool} {s : List A} {h : H} {k : Exit → List A → H → Option R} : kLoop env call L nf thaw live (lp_i_AlphabetOf 0) m (n + 1) s h k = kCode env call L nf thaw live lp_i_AlphabetOf S_i_AlphabetOf_0 s h (kNext env call L nf thaw live (lp_i_AlphabetOf 0) m n k) :=
  kLoop_step dr_i_AlphabetOf (by kernel_rfl)

/-! i_SwapAlphabet -/
noncomputable def S_i_SwapAlphabet : SC := slimF Try.f19
noncomputable def lp_i_SwapAlphabet : Nat → Code := lpOf Try.f19
theorem dr_i_SwapAlphabet : drawsOK (codeOf Try.f19) = true := by kernel_rfl
theorem fn_i_SwapAlphabet {L n : Nat} {args : List A} {h : H} : evCall env L (n + 1) 19 args h = kCode env (evCall env L n) L h.length [] (false :: true :: true :: false :: false :: false :: true :: true :: false :: false :: false :: false :: false :: false :: false :: false :: false :: false :: false :: false :: false :: false :: false :: false :: true :: true :: true :: false :: false :: false :: false :: false :: false :: false :: false :: false :: false :: false :: false :: []) lp_i_SwapAlphabet S_i_SwapAlphabet (args ++ List.replicate (Try.f19.ntmps - args.length) (.d .undef)) h (kFin env.P h.length false [.tmp 6]) :=
  fn_eq2 (mode := 1) (by kernel_rfl) Try.func19 (by kernel_rfl) (by kernel_rfl) dr_i_SwapAlphabet (by kernel_rfl) (by kernel_rfl)
noncomputable def S_i_SwapAlphabet_0 : SC := slimL Try.f19 0
theorem step_i_SwapAlphabet_0 {R : Type} {call : CallF} {L nf n : Nat} {thaw : List Nat} {live m : List Bool} {s : List A} {h : H} {k : Exit → List A → H → Option R} : kLoop env call L nf thaw live (lp_i_SwapAlphabet 0) m (n + 1) s h k = kCode env call L nf thaw live lp_i_SwapAlphabet S_i_SwapAlphabet_0 s h (kNext env call L nf thaw live (lp_i_SwapAlphabet 0) m n k) :=
  kLoop_step dr_i_SwapAlphabet (by kernel_rfl)

/-! s_DrawSwapAlphabet -/
noncomputable def S_s_DrawSwapAlphabet : SC := slimF Try.f20
noncomputable def lp_s_DrawSwapAlphabet : Nat → Code := lpOf Try.f20
theorem dr_s_DrawSwapAlphabet : drawsOK (codeOf Try.f20) = true := by kernel_rfl
theorem fn_s_DrawSwapAlphabet {L n : Nat} {args : List A} {h : H} : evCall env L (n + 1) 20 args h = kCode env (evCall env L n) L h.length [] ([]) lp_s_DrawSwapAlphabet S_s_DrawSwapAlphabet (args ++ List.replicate (Try.f20.ntmps - args.length) (.d .undef)) h (kFin env.P h.length false [.tmp 2, .tmp 3, .tmp 4]) :=
  fn_eq2 (mode := 1) (by kernel_rfl) Try.func20 (by kernel_rfl) (by kernel_rfl) dr_s_DrawSwapAlphabet (by kernel_rfl) (by kernel_rfl)

/-! s_SwapAlphabet -/
noncomputable def S_s_SwapAlphabet : SC := slimF Try.f21
noncomputable def lp_s_SwapAlphabet : Nat → Code := lpOf Try.f21
theorem dr_s_SwapAlphabet : drawsOK (codeOf Try.f21) = true := by kernel_rfl
theorem fn_s_SwapAlphabet {L n : Nat} {args : List A} {h : H} : evCall env L (n + 1) 21 args h = kCode env (evCall env L n) L h.length [] (true :: true :: true :: false :: false :: false :: true :: true :: true :: false :: false :: false :: false :: false :: false :: false :: false :: false :: false :: false :: false :: false :: false :: false :: false :: false :: false :: false :: false :: false :: false :: false :: false :: false :: false :: false :: false :: []) lp_s_SwapAlphabet S_s_SwapAlphabet (args ++ List.replicate (Try.f21.ntmps - args.length) (.d .undef)) h (kFin env.P h.length false [.tmp 6]) :=
  fn_eq2 (mode := 1) (by kernel_rfl) Try.func21 (by kernel_rfl) (by kernel_rfl) dr_s_SwapAlphabet (by kernel_rfl) (by kernel_rfl)
noncomputable def S_s_SwapAlphabet_0 : SC := slimL Try.f21 0
theorem step_s_SwapAlphabet_0 {R : Type} {call : CallF} {L nf n : Nat} {thaw : List Nat} {live m : List Bool} {s : List A} {h : H} {k : Exit → List A → H → Option R} : kLoop env call L nf thaw live (lp_s_SwapAlphabet 0) m (n + 1) s h k = kCode env call L nf thaw live lp_s_SwapAlphabet S_s_SwapAlphabet_0 s h (kNext env call L nf thaw live (lp_s_SwapAlphabet 0) m n k) :=
  kLoop_step dr_s_SwapAlphabet (by kernel_rfl)

/-! i_RestrictWord -/
noncomputable def S_i_RestrictWord : SC := slimF Try.f22
noncomputable def lp_i_RestrictWord : Nat → Code := lpOf Try.f22
theorem dr_i_RestrictWord : drawsOK (codeOf Try.f22) = true := by kernel_rfl
theorem fn_i_RestrictWord {L n : Nat} {args : List A} {h : H} : evCall env L (n + 1) 22 args h = kCode env (evCall env L n) L h.length [] ([]) lp_i_RestrictWord S_i_RestrictWord (args ++ List.replicate (Try.f22.ntmps - args.length) (.d .undef)) h (kFin env.P h.length false [.tmp 4]) :=
  fn_eq2 (mode := 1) (by kernel_rfl) Try.func22 (by kernel_rfl) (by kernel_rfl) dr_i_RestrictWord (by kernel_rfl) (by kernel_rfl)

/-! i_WordWithin -/
noncomputable def S_i_WordWithin : SC := slimF Try.f23
noncomputable def lp_i_WordWithin : Nat → Code := lpOf Try.f23
theorem dr_i_WordWithin : drawsOK (codeOf Try.f23) = true := by kernel_rfl
theorem fn_i_WordWithin {L n : Nat} {args : List A} {h : H} : evCall env L (n + 1) 23 args h = kCode env (evCall env L n) L h.length [] (true :: true :: false :: false :: true :: false :: false :: false :: false :: false :: false :: false :: false :: false :: false :: true :: true :: false :: false :: false :: false :: false :: false :: false :: false :: false :: []) lp_i_WordWithin S_i_WordWithin (args ++ List.replicate (Try.f23.ntmps - args.length) (.d .undef)) h (kFin env.P h.length false [.tmp 4]) :=
  fn_eq2 (mode := 1) (by kernel_rfl) Try.func23 (by kernel_rfl) (by kernel_rfl) dr_i_WordWithin (by kernel_rfl) (by kernel_rfl)
noncomputable def S_i_WordWithin_0 : SC := slimL Try.f23 0
theorem step_i_WordWithin_0 {R : Type} {call : CallF} {L nf n : Nat} {thaw : List Nat} {live m : List Bool} {s : List A} {h : H} {k : Exit → List A → H → Option R} : kLoop env call L nf thaw live (lp_i_WordWithin 0) m (n + 1) s h k = kCode env call L nf thaw live lp_i_WordWithin S_i_WordWithin_0 s h (kNext env call L nf thaw live (lp_i_WordWithin 0) m n k) :=
  kLoop_step dr_i_WordWithin (by kernel_rfl)

/-! szSystem -/
noncomputable def S_szSystem : SC := slimF Try.f24
noncomputable def lp_szSystem : Nat → Code := lpOf Try.f24
theorem dr_szSystem : drawsOK (codeOf Try.f24) = true := by kernel_rfl
theorem fn_szSystem {L n : Nat} {args : List A} {h : H} : evCall env L (n + 1) 24 args h = kCode env (evCall env L n) L h.length [] ([]) lp_szSystem S_szSystem (args ++ List.replicate (Try.f24.ntmps - args.length) (.d .undef)) h (kFin env.P h.length false [.tmp 4]) :=
  fn_eq2 (mode := 1) (by kernel_rfl) Try.func24 (by kernel_rfl) (by kernel_rfl) dr_szSystem (by kernel_rfl) (by kernel_rfl)

/-! s_DropEdge -/
noncomputable def S_s_DropEdge : SC := slimF Try.f25
noncomputable def lp_s_DropEdge : Nat → Code := lpOf Try.f25
theorem dr_s_DropEdge : drawsOK (codeOf Try.f25) = true := by kernel_rfl
theorem fn_s_DropEdge {L n : Nat} {args : List A} {h : H} : evCall env L (n + 1) 25 args h = kCode env (evCall env L n) L h.length [] ([]) lp_s_DropEdge S_s_DropEdge (args ++ List.replicate (Try.f25.ntmps - args.length) (.d .undef)) h (kFin env.P h.length false Try.f25.results.toList) :=
  fn_eq2 (mode := 2) (by kernel_rfl) Try.func25 (by kernel_rfl) (by kernel_rfl) dr_s_DropEdge (by kernel_rfl) (by kernel_rfl)

/-! toSystem -/
noncomputable def S_toSystem : SC := slimF Try.f26
noncomputable def lp_toSystem : Nat → Code := lpOf Try.f26
theorem dr_toSystem : drawsOK (codeOf Try.f26) = true := by kernel_rfl
theorem fn_toSystem {L n : Nat} {args : List A} {h : H} : evCall env L (n + 1) 26 args h = kCode env (evCall env L n) L h.length [] ([]) lp_toSystem S_toSystem (args ++ List.replicate (Try.f26.ntmps - args.length) (.d .undef)) h (kFin env.P h.length false Try.f26.results.toList) :=
  fn_eq2 (mode := 2) (by kernel_rfl) Try.func26 (by kernel_rfl) (by kernel_rfl) dr_toSystem (by kernel_rfl) (by kernel_rfl)

/-! toEdge -/
noncomputable def S_toEdge : SC := slimF Try.f27
noncomputable def lp_toEdge : Nat → Code := lpOf Try.f27
theorem dr_toEdge : drawsOK (codeOf Try.f27) = true := by kernel_rfl
theorem fn_toEdge {L n : Nat} {args : List A} {h : H} : evCall env L (n + 1) 27 args h = kCode env (evCall env L n) L h.length [] ([]) lp_toEdge S_toEdge (args ++ List.replicate (Try.f27.ntmps - args.length) (.d .undef)) h (kFin env.P h.length false Try.f27.results.toList) :=
  fn_eq2 (mode := 2) (by kernel_rfl) Try.func27 (by kernel_rfl) (by kernel_rfl) dr_toEdge (by kernel_rfl) (by kernel_rfl)

/-! i_DropEdge -/
noncomputable def S_i_DropEdge : SC := slimF Try.f28
noncomputable def lp_i_DropEdge : Nat → Code := lpOf Try.f28
theorem dr_i_DropEdge : drawsOK (codeOf Try.f28) = true := by kernel_rfl
theorem fn_i_DropEdge {L n : Nat} {args : List A} {h : H} : evCall env L (n + 1) 28 args h = kCode env (evCall env L n) L h.length [] ([]) lp_i_DropEdge S_i_DropEdge (args ++ List.replicate (Try.f28.ntmps - args.length) (.d .undef)) h (kFin env.P h.length false Try.f28.results.toList) :=
  fn_eq2 (mode := 2) (by kernel_rfl) Try.func28 (by kernel_rfl) (by kernel_rfl) dr_i_DropEdge (by kernel_rfl) (by kernel_rfl)

/-! eqSystem -/
noncomputable def S_eqSystem : SC := slimF Try.f29
noncomputable def lp_eqSystem : Nat → Code := lpOf Try.f29
theorem dr_eqSystem : drawsOK (codeOf Try.f29) = true := by kernel_rfl
theorem fn_eqSystem {L n : Nat} {args : List A} {h : H} : evCall env L (n + 1) 29 args h = kCode env (evCall env L n) L h.length [] ([]) lp_eqSystem S_eqSystem (args ++ List.replicate (Try.f29.ntmps - args.length) (.d .undef)) h (kFin env.P h.length false [.tmp 4]) :=
  fn_eq2 (mode := 1) (by kernel_rfl) Try.func29 (by kernel_rfl) (by kernel_rfl) dr_eqSystem (by kernel_rfl) (by kernel_rfl)

/-! markSystem -/
noncomputable def S_markSystem : SC := slimF Try.f30
noncomputable def lp_markSystem : Nat → Code := lpOf Try.f30
theorem dr_markSystem : drawsOK (codeOf Try.f30) = true := by kernel_rfl
theorem fn_markSystem {L n : Nat} {args : List A} {h : H} : evCall env L (n + 1) 30 args h = kCode env (evCall env L n) L h.length [] ([]) lp_markSystem S_markSystem (args ++ List.replicate (Try.f30.ntmps - args.length) (.d .undef)) h (kFin env.P h.length false [.tmp 4]) :=
  fn_eq2 (mode := 1) (by kernel_rfl) Try.func30 (by kernel_rfl) (by kernel_rfl) dr_markSystem (by kernel_rfl) (by kernel_rfl)

/-! heldSystem -/
noncomputable def S_heldSystem : SC := slimF Try.f31
noncomputable def lp_heldSystem : Nat → Code := lpOf Try.f31
theorem dr_heldSystem : drawsOK (codeOf Try.f31) = true := by kernel_rfl
theorem fn_heldSystem {L n : Nat} {args : List A} {h : H} : evCall env L (n + 1) 31 args h = kCode env (evCall env L n) L h.length [] ([]) lp_heldSystem S_heldSystem (args ++ List.replicate (Try.f31.ntmps - args.length) (.d .undef)) h (kFin env.P h.length false [.tmp 4]) :=
  fn_eq2 (mode := 1) (by kernel_rfl) Try.func31 (by kernel_rfl) (by kernel_rfl) dr_heldSystem (by kernel_rfl) (by kernel_rfl)

/-! szAutomaton -/
noncomputable def S_szAutomaton : SC := slimF Try.f32
noncomputable def lp_szAutomaton : Nat → Code := lpOf Try.f32
theorem dr_szAutomaton : drawsOK (codeOf Try.f32) = true := by kernel_rfl
theorem fn_szAutomaton {L n : Nat} {args : List A} {h : H} : evCall env L (n + 1) 32 args h = kCode env (evCall env L n) L h.length [] ([]) lp_szAutomaton S_szAutomaton (args ++ List.replicate (Try.f32.ntmps - args.length) (.d .undef)) h (kFin env.P h.length false [.tmp 4]) :=
  fn_eq2 (mode := 1) (by kernel_rfl) Try.func32 (by kernel_rfl) (by kernel_rfl) dr_szAutomaton (by kernel_rfl) (by kernel_rfl)

/-! s_SwapAutomaton -/
noncomputable def S_s_SwapAutomaton : SC := slimF Try.f33
noncomputable def lp_s_SwapAutomaton : Nat → Code := lpOf Try.f33
theorem dr_s_SwapAutomaton : drawsOK (codeOf Try.f33) = true := by kernel_rfl
theorem fn_s_SwapAutomaton {L n : Nat} {args : List A} {h : H} : evCall env L (n + 1) 33 args h = kCode env (evCall env L n) L h.length [] (false :: true :: true :: true :: false :: false :: true :: true :: true :: true :: true :: true :: true :: false :: false :: false :: false :: false :: false :: false :: false :: false :: false :: false :: false :: false :: false :: false :: false :: false :: false :: false :: false :: false :: false :: false :: false :: false :: false :: false :: false :: false :: false :: false :: false :: false :: false :: false :: false :: false :: false :: false :: false :: false :: false :: false :: false :: false :: false :: false :: false :: false :: false :: false :: false :: false :: false :: false :: false :: false :: false :: false :: false :: false :: []) lp_s_SwapAutomaton S_s_SwapAutomaton (args ++ List.replicate (Try.f33.ntmps - args.length) (.d .undef)) h (kFin env.P h.length false Try.f33.results.toList) :=
  fn_eq2 (mode := 2) (by kernel_rfl) Try.func33 (by kernel_rfl) (by kernel_rfl) dr_s_SwapAutomaton (by kernel_rfl) (by kernel_rfl)
noncomputable def S_s_SwapAutomaton_0 : SC := slimL Try.f33 0
theorem step_s_SwapAutomaton_0 {R : Type} {call : CallF} {L nf n : Nat} {thaw : List Nat} {live m : List Bool} {s : List A} {h : H} {k : Exit → List A → H → Option R} : kLoop env call L nf thaw live (lp_s_SwapAutomaton 0) m (n + 1) s h k = kCode env call L nf thaw live lp_s_SwapAutomaton S_s_SwapAutomaton_0 s h (kNext env call L nf thaw live (lp_s_SwapAutomaton 0) m n k) :=
  kLoop_step dr_s_SwapAutomaton (by kernel_rfl)
noncomputable def S_s_SwapAutomaton_1 : SC := slimL Try.f33 1
theorem step_s_SwapAutomaton_1 {R : Type} {call : CallF} {L nf n : Nat} {thaw : List Nat} {live m : List Bool} {s : List A} {h : H} {k : Exit → List A → H → Option R} : kLoop env call L nf thaw live (lp_s_SwapAutomaton 1) m (n + 1) s h k = kCode env call L nf thaw live lp_s_SwapAutomaton S_s_SwapAutomaton_1 s h (kNext env call L nf thaw live (lp_s_SwapAutomaton 1) m n k) :=
  kLoop_step dr_s_SwapAutomaton (by kernel_rfl)

/-! toAutomaton -/
noncomputable def S_toAutomaton : SC := slimF Try.f34
noncomputable def lp_toAutomaton : Nat → Code := lpOf Try.f34
theorem dr_toAutomaton : drawsOK (codeOf Try.f34) = true := by kernel_rfl
theorem fn_toAutomaton {L n : Nat} {args : List A} {h : H} : evCall env L (n + 1) 34 args h = kCode env (evCall env L n) L h.length [] ([]) lp_toAutomaton S_toAutomaton (args ++ List.replicate (Try.f34.ntmps - args.length) (.d .undef)) h (kFin env.P h.length false Try.f34.results.toList) :=
  fn_eq2 (mode := 2) (by kernel_rfl) Try.func34 (by kernel_rfl) (by kernel_rfl) dr_toAutomaton (by kernel_rfl) (by kernel_rfl)

/-! i_SwapAutomaton -/
noncomputable def S_i_SwapAutomaton : SC := slimF Try.f35
noncomputable def lp_i_SwapAutomaton : Nat → Code := lpOf Try.f35
theorem dr_i_SwapAutomaton : drawsOK (codeOf Try.f35) = true := by kernel_rfl
theorem fn_i_SwapAutomaton {L n : Nat} {args : List A} {h : H} : evCall env L (n + 1) 35 args h = kCode env (evCall env L n) L h.length [0, 0, 0, 0, 0, 0, 0, 0, 0, 0, 0, 2] (false :: true :: true :: false :: false :: false :: true :: true :: true :: true :: true :: true :: false :: false :: false :: false :: false :: false :: false :: false :: false :: false :: false :: false :: false :: false :: false :: false :: false :: false :: false :: false :: false :: false :: false :: false :: false :: false :: false :: false :: false :: true :: true :: false :: false :: false :: false :: true :: true :: true :: false :: false :: false :: false :: false :: false :: false :: false :: false :: false :: false :: false :: false :: false :: false :: false :: false :: false :: false :: false :: false :: false :: false :: false :: []) lp_i_SwapAutomaton S_i_SwapAutomaton (args ++ List.replicate (Try.f35.ntmps - args.length) (.d .undef)) h (kFin env.P h.length false Try.f35.results.toList) :=
  fn_eq2 (mode := 2) (by kernel_rfl) Try.func35 (by kernel_rfl) (by kernel_rfl) dr_i_SwapAutomaton (by kernel_rfl) (by kernel_rfl)
noncomputable def S_i_SwapAutomaton_0 : SC := slimL Try.f35 0
theorem step_i_SwapAutomaton_0 {R : Type} {call : CallF} {L nf n : Nat} {thaw : List Nat} {live m : List Bool} {s : List A} {h : H} {k : Exit → List A → H → Option R} : kLoop env call L nf thaw live (lp_i_SwapAutomaton 0) m (n + 1) s h k = kCode env call L nf thaw live lp_i_SwapAutomaton S_i_SwapAutomaton_0 s h (kNext env call L nf thaw live (lp_i_SwapAutomaton 0) m n k) :=
  kLoop_step dr_i_SwapAutomaton (by kernel_rfl)
noncomputable def S_i_SwapAutomaton_1 : SC := slimL Try.f35 1
theorem step_i_SwapAutomaton_1 {R : Type} {call : CallF} {L nf n : Nat} {thaw : List Nat} {live m : List Bool} {s : List A} {h : H} {k : Exit → List A → H → Option R} : kLoop env call L nf thaw live (lp_i_SwapAutomaton 1) m (n + 1) s h k = kCode env call L nf thaw live lp_i_SwapAutomaton S_i_SwapAutomaton_1 s h (kNext env call L nf thaw live (lp_i_SwapAutomaton 1) m n k) :=
  kLoop_step dr_i_SwapAutomaton (by kernel_rfl)

/-! eqAutomaton -/
noncomputable def S_eqAutomaton : SC := slimF Try.f36
noncomputable def lp_eqAutomaton : Nat → Code := lpOf Try.f36
theorem dr_eqAutomaton : drawsOK (codeOf Try.f36) = true := by kernel_rfl
theorem fn_eqAutomaton {L n : Nat} {args : List A} {h : H} : evCall env L (n + 1) 36 args h = kCode env (evCall env L n) L h.length [] ([]) lp_eqAutomaton S_eqAutomaton (args ++ List.replicate (Try.f36.ntmps - args.length) (.d .undef)) h (kFin env.P h.length false [.tmp 4]) :=
  fn_eq2 (mode := 1) (by kernel_rfl) Try.func36 (by kernel_rfl) (by kernel_rfl) dr_eqAutomaton (by kernel_rfl) (by kernel_rfl)

/-! markAutomaton -/
noncomputable def S_markAutomaton : SC := slimF Try.f37
noncomputable def lp_markAutomaton : Nat → Code := lpOf Try.f37
theorem dr_markAutomaton : drawsOK (codeOf Try.f37) = true := by kernel_rfl
theorem fn_markAutomaton {L n : Nat} {args : List A} {h : H} : evCall env L (n + 1) 37 args h = kCode env (evCall env L n) L h.length [] ([]) lp_markAutomaton S_markAutomaton (args ++ List.replicate (Try.f37.ntmps - args.length) (.d .undef)) h (kFin env.P h.length false [.tmp 4]) :=
  fn_eq2 (mode := 1) (by kernel_rfl) Try.func37 (by kernel_rfl) (by kernel_rfl) dr_markAutomaton (by kernel_rfl) (by kernel_rfl)

/-! heldAutomaton -/
noncomputable def S_heldAutomaton : SC := slimF Try.f38
noncomputable def lp_heldAutomaton : Nat → Code := lpOf Try.f38
theorem dr_heldAutomaton : drawsOK (codeOf Try.f38) = true := by kernel_rfl
theorem fn_heldAutomaton {L n : Nat} {args : List A} {h : H} : evCall env L (n + 1) 38 args h = kCode env (evCall env L n) L h.length [] ([]) lp_heldAutomaton S_heldAutomaton (args ++ List.replicate (Try.f38.ntmps - args.length) (.d .undef)) h (kFin env.P h.length false [.tmp 4]) :=
  fn_eq2 (mode := 1) (by kernel_rfl) Try.func38 (by kernel_rfl) (by kernel_rfl) dr_heldAutomaton (by kernel_rfl) (by kernel_rfl)

/-! s_AddEdge -/
noncomputable def S_s_AddEdge : SC := slimF Try.f39
noncomputable def lp_s_AddEdge : Nat → Code := lpOf Try.f39
theorem dr_s_AddEdge : drawsOK (codeOf Try.f39) = true := by kernel_rfl
theorem fn_s_AddEdge {L n : Nat} {args : List A} {h : H} : evCall env L (n + 1) 39 args h = kCode env (evCall env L n) L h.length [] ([]) lp_s_AddEdge S_s_AddEdge (args ++ List.replicate (Try.f39.ntmps - args.length) (.d .undef)) h (kFin env.P h.length false Try.f39.results.toList) :=
  fn_eq2 (mode := 2) (by kernel_rfl) Try.func39 (by kernel_rfl) (by kernel_rfl) dr_s_AddEdge (by kernel_rfl) (by kernel_rfl)

/-! i_AddEdge -/
noncomputable def S_i_AddEdge : SC := slimF Try.f40
noncomputable def lp_i_AddEdge : Nat → Code := lpOf Try.f40
theorem dr_i_AddEdge : drawsOK (codeOf Try.f40) = true := by kernel_rfl
theorem fn_i_AddEdge {L n : Nat} {args : List A} {h : H} : evCall env L (n + 1) 40 args h = kCode env (evCall env L n) L h.length [] ([]) lp_i_AddEdge S_i_AddEdge (args ++ List.replicate (Try.f40.ntmps - args.length) (.d .undef)) h (kFin env.P h.length false Try.f40.results.toList) :=
  fn_eq2 (mode := 2) (by kernel_rfl) Try.func40 (by kernel_rfl) (by kernel_rfl) dr_i_AddEdge (by kernel_rfl) (by kernel_rfl)

/-! s_DrawAddEdge -/
noncomputable def S_s_DrawAddEdge : SC := slimF Try.f41
noncomputable def lp_s_DrawAddEdge : Nat → Code := lpOf Try.f41
theorem dr_s_DrawAddEdge : drawsOK (codeOf Try.f41) = true := by kernel_rfl
theorem fn_s_DrawAddEdge {L n : Nat} {args : List A} {h : H} : evCall env L (n + 1) 41 args h = kCode env (evCall env L n) L h.length [] ([]) lp_s_DrawAddEdge S_s_DrawAddEdge (args ++ List.replicate (Try.f41.ntmps - args.length) (.d .undef)) h (kFin env.P h.length false Try.f41.results.toList) :=
  fn_eq2 (mode := 2) (by kernel_rfl) Try.func41 (by kernel_rfl) (by kernel_rfl) dr_s_DrawAddEdge (by kernel_rfl) (by kernel_rfl)

/-! agSystems -/
noncomputable def S_agSystems : SC := slimF Try.f42
noncomputable def lp_agSystems : Nat → Code := lpOf Try.f42
theorem dr_agSystems : drawsOK (codeOf Try.f42) = true := by kernel_rfl
theorem fn_agSystems {L n : Nat} {args : List A} {h : H} : evCall env L (n + 1) 42 args h = kCode env (evCall env L n) L h.length [] (false :: false :: true :: true :: true :: true :: false :: false :: false :: false :: false :: false :: false :: false :: false :: false :: false :: false :: false :: false :: false :: false :: false :: false :: false :: false :: false :: false :: false :: false :: false :: false :: false :: false :: false :: false :: false :: false :: false :: false :: false :: false :: false :: false :: false :: []) lp_agSystems S_agSystems (args ++ List.replicate (Try.f42.ntmps - args.length) (.d .undef)) h (kFin env.P h.length false [.tmp 4]) :=
  fn_eq2 (mode := 1) (by kernel_rfl) Try.func42 (by kernel_rfl) (by kernel_rfl) dr_agSystems (by kernel_rfl) (by kernel_rfl)
noncomputable def S_agSystems_0 : SC := slimL Try.f42 0
theorem step_agSystems_0 {R : Type} {call : CallF} {L nf n : Nat} {thaw : List Nat} {live m : List Bool} {s : List A} {h : H} {k : Exit → List A → H → Option R} : kLoop env call L nf thaw live (lp_agSystems 0) m (n + 1) s h k = kCode env call L nf thaw live lp_agSystems S_agSystems_0 s h (kNext env call L nf thaw live (lp_agSystems 0) m n k) :=
  kLoop_step dr_agSystems (by kernel_rfl)

/-! i_SystemValid -/
noncomputable def S_i_SystemValid : SC := slimF Try.f43
noncomputable def lp_i_SystemValid : Nat → Code := lpOf Try.f43
theorem dr_i_SystemValid : drawsOK (codeOf Try.f43) = true := by kernel_rfl
theorem fn_i_SystemValid {L n : Nat} {args : List A} {h : H} : evCall env L (n + 1) 43 args h = kCode env (evCall env L n) L h.length [] (false :: true :: true :: false :: false :: false :: false :: false :: false :: false :: false :: false :: false :: false :: false :: false :: false :: false :: false :: false :: true :: true :: true :: false :: false :: false :: false :: false :: false :: false :: false :: false :: false :: false :: false :: false :: false :: false :: false :: false :: false :: false :: false :: false :: false :: false :: false :: false :: false :: false :: false :: false :: false :: false :: false :: false :: false :: false :: false :: false :: false :: false :: false :: false :: false :: false :: false :: false :: []) lp_i_SystemValid S_i_SystemValid (args ++ List.replicate (Try.f43.ntmps - args.length) (.d .undef)) h (kFin env.P h.length false [.tmp 2]) :=
  fn_eq2 (mode := 1) (by kernel_rfl) Try.func43 (by kernel_rfl) (by kernel_rfl) dr_i_SystemValid (by kernel_rfl) (by kernel_rfl)
noncomputable def S_i_SystemValid_0 : SC := slimL Try.f43 0
theorem step_i_SystemValid_0 {R : Type} {call : CallF} {L nf n : Nat} {thaw : List Nat} {live m : List Bool} {s : List A} {h : H} {k : Exit → List A → H → Option R} : kLoop env call L nf thaw live (lp_i_SystemValid 0) m (n + 1) s h k = kCode env call L nf thaw live lp_i_SystemValid S_i_SystemValid_0 s h (kNext env call L nf thaw live (lp_i_SystemValid 0) m n k) :=
  kLoop_step dr_i_SystemValid (by kernel_rfl)

/-! s_DrawSwapAutomaton -/
noncomputable def S_s_DrawSwapAutomaton : SC := slimF Try.f44
noncomputable def lp_s_DrawSwapAutomaton : Nat → Code := lpOf Try.f44
theorem dr_s_DrawSwapAutomaton : drawsOK (codeOf Try.f44) = true := by kernel_rfl
theorem fn_s_DrawSwapAutomaton {L n : Nat} {args : List A} {h : H} : evCall env L (n + 1) 44 args h = kCode env (evCall env L n) L h.length [] ([]) lp_s_DrawSwapAutomaton S_s_DrawSwapAutomaton (args ++ List.replicate (Try.f44.ntmps - args.length) (.d .undef)) h (kFin env.P h.length false Try.f44.results.toList) :=
  fn_eq2 (mode := 2) (by kernel_rfl) Try.func44 (by kernel_rfl) (by kernel_rfl) dr_s_DrawSwapAutomaton (by kernel_rfl) (by kernel_rfl)

/-! agAutomata -/
noncomputable def S_agAutomata : SC := slimF Try.f45
noncomputable def lp_agAutomata : Nat → Code := lpOf Try.f45
theorem dr_agAutomata : drawsOK (codeOf Try.f45) = true := by kernel_rfl
theorem fn_agAutomata {L n : Nat} {args : List A} {h : H} : evCall env L (n + 1) 45 args h = kCode env (evCall env L n) L h.length [] (false :: false :: true :: true :: true :: true :: false :: false :: false :: false :: false :: false :: false :: false :: false :: false :: false :: false :: false :: false :: false :: false :: false :: false :: false :: false :: false :: false :: false :: false :: false :: false :: false :: false :: false :: false :: false :: false :: false :: false :: false :: false :: false :: false :: false :: false :: false :: []) lp_agAutomata S_agAutomata (args ++ List.replicate (Try.f45.ntmps - args.length) (.d .undef)) h (kFin env.P h.length false [.tmp 4]) :=
  fn_eq2 (mode := 1) (by kernel_rfl) Try.func45 (by kernel_rfl) (by kernel_rfl) dr_agAutomata (by kernel_rfl) (by kernel_rfl)
noncomputable def S_agAutomata_0 : SC := slimL Try.f45 0
theorem step_agAutomata_0 {R : Type} {call : CallF} {L nf n : Nat} {thaw : List Nat} {live m : List Bool} {s : List A} {h : H} {k : Exit → List A → H → Option R} : kLoop env call L nf thaw live (lp_agAutomata 0) m (n + 1) s h k = kCode env call L nf thaw live lp_agAutomata S_agAutomata_0 s h (kNext env call L nf thaw live (lp_agAutomata 0) m n k) :=
  kLoop_step dr_agAutomata (by kernel_rfl)

/-! i_WordAt -/
noncomputable def S_i_WordAt : SC := slimF Try.f46
noncomputable def lp_i_WordAt : Nat → Code := lpOf Try.f46
theorem dr_i_WordAt : drawsOK (codeOf Try.f46) = true := by kernel_rfl
theorem fn_i_WordAt {L n : Nat} {args : List A} {h : H} : evCall env L (n + 1) 46 args h = kCode env (evCall env L n) L h.length [0, 0, 0, 0, 0, 0, 0, 2] (true :: false :: false :: false :: true :: true :: true :: true :: false :: false :: false :: false :: false :: false :: false :: false :: false :: false :: false :: false :: false :: false :: false :: false :: false :: false :: false :: false :: false :: false :: false :: false :: false :: false :: false :: false :: false :: false :: false :: false :: false :: false :: false :: false :: false :: false :: false :: false :: []) lp_i_WordAt S_i_WordAt (args ++ List.replicate (Try.f46.ntmps - args.length) (.d .undef)) h (kFin env.P h.length false [.tmp 4, .tmp 5]) :=
  fn_eq2 (mode := 1) (by kernel_rfl) Try.func46 (by kernel_rfl) (by kernel_rfl) dr_i_WordAt (by kernel_rfl) (by kernel_rfl)
noncomputable def S_i_WordAt_0 : SC := slimL Try.f46 0
theorem step_i_WordAt_0 {R : Type} {call : CallF} {L nf n : Nat} {thaw : List Nat} {live m : List Bool} {s : List A} {h : H} {k : Exit → List A → H → Option R} : kLoop env call L nf thaw live (lp_i_WordAt 0) m (n + 1) s h k = kCode env call L nf thaw live lp_i_WordAt S_i_WordAt_0 s h (kNext env call L nf thaw live (lp_i_WordAt 0) m n k) :=
  kLoop_step dr_i_WordAt (by kernel_rfl)

/-! i_StateAfter -/
noncomputable def S_i_StateAfter : SC := slimF Try.f47
noncomputable def lp_i_StateAfter : Nat → Code := lpOf Try.f47
theorem dr_i_StateAfter : drawsOK (codeOf Try.f47) = true := by kernel_rfl
theorem fn_i_StateAfter {L n : Nat} {args : List A} {h : H} : evCall env L (n + 1) 47 args h = kCode env (evCall env L n) L h.length [] (false :: true :: false :: false :: true :: true :: true :: false :: false :: false :: false :: false :: false :: false :: false :: false :: false :: false :: false :: false :: false :: true :: true :: false :: false :: false :: false :: false :: false :: false :: false :: false :: false :: false :: false :: []) lp_i_StateAfter S_i_StateAfter (args ++ List.replicate (Try.f47.ntmps - args.length) (.d .undef)) h (kFin env.P h.length false [.tmp 4]) :=
  fn_eq2 (mode := 1) (by kernel_rfl) Try.func47 (by kernel_rfl) (by kernel_rfl) dr_i_StateAfter (by kernel_rfl) (by kernel_rfl)
noncomputable def S_i_StateAfter_0 : SC := slimL Try.f47 0
theorem step_i_StateAfter_0 {R : Type} {call : CallF} {L nf n : Nat} {thaw : List Nat} {live m : List Bool} {s : List A} {h : H} {k : Exit → List A → H → Option R} : kLoop env call L nf thaw live (lp_i_StateAfter 0) m (n + 1) s h k = kCode env call L nf thaw live lp_i_StateAfter S_i_StateAfter_0 s h (kNext env call L nf thaw live (lp_i_StateAfter 0) m n k) :=
  kLoop_step dr_i_StateAfter (by kernel_rfl)

/-! i_AutomatonValid -/
noncomputable def S_i_AutomatonValid : SC := slimF Try.f48
noncomputable def lp_i_AutomatonValid : Nat → Code := lpOf Try.f48
theorem dr_i_AutomatonValid : drawsOK (codeOf Try.f48) = true := by kernel_rfl
theorem fn_i_AutomatonValid {L n : Nat} {args : List A} {h : H} : evCall env L (n + 1) 48 args h = kCode env (evCall env L n) L h.length [] (false :: true :: true :: true :: false :: false :: false :: false :: false :: false :: false :: false :: false :: false :: false :: false :: false :: false :: false :: false :: false :: false :: false :: false :: false :: false :: false :: false :: false :: false :: false :: false :: false :: false :: false :: false :: false :: false :: true :: true :: true :: false :: false :: false :: false :: false :: false :: false :: true :: true :: true :: false :: false :: false :: false :: false :: false :: false :: false :: false :: false :: false :: false :: false :: false :: []) lp_i_AutomatonValid S_i_AutomatonValid (args ++ List.replicate (Try.f48.ntmps - args.length) (.d .undef)) h (kFin env.P h.length false [.tmp 2]) :=
  fn_eq2 (mode := 1) (by kernel_rfl) Try.func48 (by kernel_rfl) (by kernel_rfl) dr_i_AutomatonValid (by kernel_rfl) (by kernel_rfl)
noncomputable def S_i_AutomatonValid_0 : SC := slimL Try.f48 0
theorem step_i_AutomatonValid_0 {R : Type} {call : CallF} {L nf n : Nat} {thaw : List Nat} {live m : List Bool} {s : List A} {h : H} {k : Exit → List A → H → Option R} : kLoop env call L nf thaw live (lp_i_AutomatonValid 0) m (n + 1) s h k = kCode env call L nf thaw live lp_i_AutomatonValid S_i_AutomatonValid_0 s h (kNext env call L nf thaw live (lp_i_AutomatonValid 0) m n k) :=
  kLoop_step dr_i_AutomatonValid (by kernel_rfl)
noncomputable def S_i_AutomatonValid_1 : SC := slimL Try.f48 1
theorem step_i_AutomatonValid_1 {R : Type} {call : CallF} {L nf n : Nat} {thaw : List Nat} {live m : List Bool} {s : List A} {h : H} {k : Exit → List A → H → Option R} : kLoop env call L nf thaw live (lp_i_AutomatonValid 1) m (n + 1) s h k = kCode env call L nf thaw live lp_i_AutomatonValid S_i_AutomatonValid_1 s h (kNext env call L nf thaw live (lp_i_AutomatonValid 1) m n k) :=
  kLoop_step dr_i_AutomatonValid (by kernel_rfl)

/-! s_SeparatingWords -/
noncomputable def S_s_SeparatingWords : SC := slimF Try.f49
noncomputable def lp_s_SeparatingWords : Nat → Code := lpOf Try.f49
theorem dr_s_SeparatingWords : drawsOK (codeOf Try.f49) = true := by kernel_rfl
theorem fn_s_SeparatingWords {L n : Nat} {args : List A} {h : H} : evCall env L (n + 1) 49 args h = kCode env (evCall env L n) L h.length [] (false :: true :: true :: true :: true :: true :: false :: false :: false :: false :: false :: false :: false :: false :: false :: false :: false :: false :: false :: false :: false :: false :: false :: false :: false :: false :: false :: false :: false :: false :: false :: false :: false :: false :: false :: false :: false :: false :: false :: false :: false :: false :: false :: false :: false :: false :: false :: []) lp_s_SeparatingWords S_s_SeparatingWords (args ++ List.replicate (Try.f49.ntmps - args.length) (.d .undef)) h (kFin env.P h.length false [.tmp 2]) :=
  fn_eq2 (mode := 2) (by kernel_rfl) Try.func49 (by kernel_rfl) (by kernel_rfl) dr_s_SeparatingWords (by kernel_rfl) (by kernel_rfl)
noncomputable def S_s_SeparatingWords_0 : SC := slimL Try.f49 0
theorem step_s_SeparatingWords_0 {R : Type} {call : CallF} {L nf n : Nat} {thaw : List Nat} {live m : List Bool} {s : List A} {h : H} {k : Exit → List A → H → Option R} : kLoop env call L nf thaw live (lp_s_SeparatingWords 0) m (n + 1) s h k = kCode env call L nf thaw live lp_s_SeparatingWords S_s_SeparatingWords_0 s h (kNext env call L nf thaw live (lp_s_SeparatingWords 0) m n k) :=
  kLoop_step dr_s_SeparatingWords (by kernel_rfl)
noncomputable def S_s_SeparatingWords_1 : SC := slimL Try.f49 1
theorem step_s_SeparatingWords_1 {R : Type} {call : CallF} {L nf n : Nat} {thaw : List Nat} {live m : List Bool} {s : List A} {h : H} {k : Exit → List A → H → Option R} : kLoop env call L nf thaw live (lp_s_SeparatingWords 1) m (n + 1) s h k = kCode env call L nf thaw live lp_s_SeparatingWords S_s_SeparatingWords_1 s h (kNext env call L nf thaw live (lp_s_SeparatingWords 1) m n k) :=
  kLoop_step dr_s_SeparatingWords (by kernel_rfl)

/-! i_SeparatingWords -/
noncomputable def S_i_SeparatingWords : SC := slimF Try.f50
noncomputable def lp_i_SeparatingWords : Nat → Code := lpOf Try.f50
theorem dr_i_SeparatingWords : drawsOK (codeOf Try.f50) = true := by kernel_rfl
theorem fn_i_SeparatingWords {L n : Nat} {args : List A} {h : H} : evCall env L (n + 1) 50 args h = kCode env (evCall env L n) L h.length [] (false :: true :: true :: true :: true :: true :: false :: false :: false :: false :: false :: false :: false :: false :: true :: true :: false :: false :: false :: false :: false :: false :: false :: false :: false :: false :: false :: false :: false :: false :: false :: false :: false :: false :: false :: false :: false :: false :: false :: false :: false :: false :: false :: false :: false :: false :: false :: []) lp_i_SeparatingWords S_i_SeparatingWords (args ++ List.replicate (Try.f50.ntmps - args.length) (.d .undef)) h (kFin env.P h.length false [.tmp 2]) :=
  fn_eq2 (mode := 2) (by kernel_rfl) Try.func50 (by kernel_rfl) (by kernel_rfl) dr_i_SeparatingWords (by kernel_rfl) (by kernel_rfl)
noncomputable def S_i_SeparatingWords_0 : SC := slimL Try.f50 0
theorem step_i_SeparatingWords_0 {R : Type} {call : CallF} {L nf n : Nat} {thaw : List Nat} {live m : List Bool} {s : List A} {h : H} {k : Exit → List A → H → Option R} : kLoop env call L nf thaw live (lp_i_SeparatingWords 0) m (n + 1) s h k = kCode env call L nf thaw live lp_i_SeparatingWords S_i_SeparatingWords_0 s h (kNext env call L nf thaw live (lp_i_SeparatingWords 0) m n k) :=
  kLoop_step dr_i_SeparatingWords (by kernel_rfl)
noncomputable def S_i_SeparatingWords_1 : SC := slimL Try.f50 1
theorem step_i_SeparatingWords_1 {R : Type} {call : CallF} {L nf n : Nat} {thaw : List Nat} {live m : List Bool} {s : List A} {h : H} {k : Exit → List A → H → Option R} : kLoop env call L nf thaw live (lp_i_SeparatingWords 1) m (n + 1) s h k = kCode env call L nf thaw live lp_i_SeparatingWords S_i_SeparatingWords_1 s h (kNext env call L nf thaw live (lp_i_SeparatingWords 1) m n k) :=
  kLoop_step dr_i_SeparatingWords (by kernel_rfl)

/-! eqStringS -/
noncomputable def S_eqStringS : SC := slimF Try.f51
noncomputable def lp_eqStringS : Nat → Code := lpOf Try.f51
theorem dr_eqStringS : drawsOK (codeOf Try.f51) = true := by kernel_rfl
theorem fn_eqStringS {L n : Nat} {args : List A} {h : H} : evCall env L (n + 1) 51 args h = kCode env (evCall env L n) L h.length [] (true :: true :: false :: false :: true :: true :: false :: false :: false :: false :: false :: false :: false :: false :: false :: false :: false :: false :: false :: false :: false :: false :: false :: false :: false :: false :: []) lp_eqStringS S_eqStringS (args ++ List.replicate (Try.f51.ntmps - args.length) (.d .undef)) h (kFin env.P h.length false [.tmp 4]) :=
  fn_eq2 (mode := 1) (by kernel_rfl) Try.func51 (by kernel_rfl) (by kernel_rfl) dr_eqStringS (by kernel_rfl) (by kernel_rfl)
noncomputable def S_eqStringS_0 : SC := slimL Try.f51 0
theorem step_eqStringS_0 {R : Type} {call : CallF} {L nf n : Nat} {thaw : List Nat} {live m : List Bool} {s : List A} {h : H} {k : Exit → List A → H → Option R} : kLoop env call L nf thaw live (lp_eqStringS 0) m (n + 1) s h k = kCode env call L nf thaw live lp_eqStringS S_eqStringS_0 s h (kNext env call L nf thaw live (lp_eqStringS 0) m n k) :=
  kLoop_step dr_eqStringS (by kernel_rfl)

/-! markStringS -/
noncomputable def S_markStringS : SC := slimF Try.f52
noncomputable def lp_markStringS : Nat → Code := lpOf Try.f52
theorem dr_markStringS : drawsOK (codeOf Try.f52) = true := by kernel_rfl
theorem fn_markStringS {L n : Nat} {args : List A} {h : H} : evCall env L (n + 1) 52 args h = kCode env (evCall env L n) L h.length [] (true :: true :: false :: false :: true :: true :: false :: false :: false :: false :: false :: false :: false :: false :: false :: false :: false :: false :: false :: false :: []) lp_markStringS S_markStringS (args ++ List.replicate (Try.f52.ntmps - args.length) (.d .undef)) h (kFin env.P h.length false [.tmp 4]) :=
  fn_eq2 (mode := 1) (by kernel_rfl) Try.func52 (by kernel_rfl) (by kernel_rfl) dr_markStringS (by kernel_rfl) (by kernel_rfl)
noncomputable def S_markStringS_0 : SC := slimL Try.f52 0
theorem step_markStringS_0 {R : Type} {call : CallF} {L nf n : Nat} {thaw : List Nat} {live m : List Bool} {s : List A} {h : H} {k : Exit → List A → H → Option R} : kLoop env call L nf thaw live (lp_markStringS 0) m (n + 1) s h k = kCode env call L nf thaw live lp_markStringS S_markStringS_0 s h (kNext env call L nf thaw live (lp_markStringS 0) m n k) :=
  kLoop_step dr_markStringS (by kernel_rfl)

/-! heldStringS -/
noncomputable def S_heldStringS : SC := slimF Try.f53
noncomputable def lp_heldStringS : Nat → Code := lpOf Try.f53
theorem dr_heldStringS : drawsOK (codeOf Try.f53) = true := by kernel_rfl
theorem fn_heldStringS {L n : Nat} {args : List A} {h : H} : evCall env L (n + 1) 53 args h = kCode env (evCall env L n) L h.length [] (true :: true :: false :: false :: true :: true :: false :: false :: false :: false :: false :: false :: false :: false :: false :: false :: false :: false :: false :: false :: false :: false :: []) lp_heldStringS S_heldStringS (args ++ List.replicate (Try.f53.ntmps - args.length) (.d .undef)) h (kFin env.P h.length false [.tmp 4]) :=
  fn_eq2 (mode := 1) (by kernel_rfl) Try.func53 (by kernel_rfl) (by kernel_rfl) dr_heldStringS (by kernel_rfl) (by kernel_rfl)
noncomputable def S_heldStringS_0 : SC := slimL Try.f53 0
theorem step_heldStringS_0 {R : Type} {call : CallF} {L nf n : Nat} {thaw : List Nat} {live m : List Bool} {s : List A} {h : H} {k : Exit → List A → H → Option R} : kLoop env call L nf thaw live (lp_heldStringS 0) m (n + 1) s h k = kCode env call L nf thaw live lp_heldStringS S_heldStringS_0 s h (kNext env call L nf thaw live (lp_heldStringS 0) m n k) :=
  kLoop_step dr_heldStringS (by kernel_rfl)

/-! s_SwapSystem -/
noncomputable def S_s_SwapSystem : SC := slimF Try.f54
noncomputable def lp_s_SwapSystem : Nat → Code := lpOf Try.f54
theorem dr_s_SwapSystem : drawsOK (codeOf Try.f54) = true := by kernel_rfl
theorem fn_s_SwapSystem {L n : Nat} {args : List A} {h : H} : evCall env L (n + 1) 54 args h = kCode env (evCall env L n) L h.length [] (false :: true :: true :: true :: false :: false :: true :: true :: true :: true :: false :: false :: false :: false :: false :: false :: false :: false :: false :: false :: false :: false :: false :: false :: false :: false :: false :: false :: false :: false :: false :: false :: false :: false :: false :: false :: false :: false :: false :: false :: false :: false :: false :: false :: false :: false :: false :: false :: false :: false :: false :: false :: false :: false :: false :: false :: false :: false :: false :: false :: false :: []) lp_s_SwapSystem S_s_SwapSystem (args ++ List.replicate (Try.f54.ntmps - args.length) (.d .undef)) h (kFin env.P h.length false Try.f54.results.toList) :=
  fn_eq2 (mode := 2) (by kernel_rfl) Try.func54 (by kernel_rfl) (by kernel_rfl) dr_s_SwapSystem (by kernel_rfl) (by kernel_rfl)
noncomputable def S_s_SwapSystem_0 : SC := slimL Try.f54 0
theorem step_s_SwapSystem_0 {R : Type} {call : CallF} {L nf n : Nat} {thaw : List Nat} {live m : List Bool} {s : List A} {h : H} {k : Exit → List A → H → Option R} : kLoop env call L nf thaw live (lp_s_SwapSystem 0) m (n + 1) s h k = kCode env call L nf thaw live lp_s_SwapSystem S_s_SwapSystem_0 s h (kNext env call L nf thaw live (lp_s_SwapSystem 0) m n k) :=
  kLoop_step dr_s_SwapSystem (by kernel_rfl)

/-! i_SwapSystem -/
noncomputable def S_i_SwapSystem : SC := slimF Try.f55
noncomputable def lp_i_SwapSystem : Nat → Code := lpOf Try.f55
theorem dr_i_SwapSystem : drawsOK (codeOf Try.f55) = true := by kernel_rfl
theorem fn_i_SwapSystem {L n : Nat} {args : List A} {h : H} : evCall env L (n + 1) 55 args h = kCode env (evCall env L n) L h.length [] (false :: true :: true :: false :: false :: false :: true :: true :: true :: false :: false :: false :: false :: false :: false :: false :: false :: false :: false :: false :: false :: false :: false :: false :: false :: false :: false :: false :: false :: false :: false :: false :: false :: false :: true :: true :: true :: false :: false :: false :: false :: false :: false :: false :: false :: false :: false :: false :: false :: false :: false :: false :: false :: false :: false :: false :: false :: false :: false :: false :: []) lp_i_SwapSystem S_i_SwapSystem (args ++ List.replicate (Try.f55.ntmps - args.length) (.d .undef)) h (kFin env.P h.length false Try.f55.results.toList) :=
  fn_eq2 (mode := 2) (by kernel_rfl) Try.func55 (by kernel_rfl) (by kernel_rfl) dr_i_SwapSystem (by kernel_rfl) (by kernel_rfl)
noncomputable def S_i_SwapSystem_0 : SC := slimL Try.f55 0
theorem step_i_SwapSystem_0 {R : Type} {call : CallF} {L nf n : Nat} {thaw : List Nat} {live m : List Bool} {s : List A} {h : H} {k : Exit → List A → H → Option R} : kLoop env call L nf thaw live (lp_i_SwapSystem 0) m (n + 1) s h k = kCode env call L nf thaw live lp_i_SwapSystem S_i_SwapSystem_0 s h (kNext env call L nf thaw live (lp_i_SwapSystem 0) m n k) :=
  kLoop_step dr_i_SwapSystem (by kernel_rfl)

/-! s_WordValid -/
noncomputable def S_s_WordValid : SC := slimF Try.f56
noncomputable def lp_s_WordValid : Nat → Code := lpOf Try.f56
theorem dr_s_WordValid : drawsOK (codeOf Try.f56) = true := by kernel_rfl
theorem fn_s_WordValid {L n : Nat} {args : List A} {h : H} : evCall env L (n + 1) 56 args h = kCode env (evCall env L n) L h.length [] (true :: false :: true :: true :: false :: false :: false :: false :: false :: false :: false :: false :: false :: false :: false :: false :: false :: false :: false :: false :: false :: false :: false :: []) lp_s_WordValid S_s_WordValid (args ++ List.replicate (Try.f56.ntmps - args.length) (.d .undef)) h (kFin env.P h.length false [.tmp 2]) :=
  fn_eq2 (mode := 1) (by kernel_rfl) Try.func56 (by kernel_rfl) (by kernel_rfl) dr_s_WordValid (by kernel_rfl) (by kernel_rfl)
noncomputable def S_s_WordValid_0 : SC := slimL Try.f56 0
theorem step_s_WordValid_0 {R : Type} {call : CallF} {L nf n : Nat} {thaw : List Nat} {live m : List Bool} {s : List A} {h : H} {k : Exit → List A → H → Option R} : kLoop env call L nf thaw live (lp_s_WordValid 0) m (n + 1) s h k = kCode env call L nf thaw live lp_s_WordValid S_s_WordValid_0 s h (kNext env call L nf thaw live (lp_s_WordValid 0) m n k) :=
  kLoop_step dr_s_WordValid (by kernel_rfl)

/-! s_l17Letter -/
noncomputable def S_s_l17Letter : SC := slimF Try.f57
noncomputable def lp_s_l17Letter : Nat → Code := lpOf Try.f57
theorem dr_s_l17Letter : drawsOK (codeOf Try.f57) = true := by kernel_rfl
theorem fn_s_l17Letter {L n : Nat} {args : List A} {h : H} : evCall env L (n + 1) 57 args h = kCode env (evCall env L n) L h.length [] ([]) lp_s_l17Letter S_s_l17Letter (args ++ List.replicate (Try.f57.ntmps - args.length) (.d .undef)) h (kFin env.P h.length false [.tmp 2]) :=
  fn_eq2 (mode := 1) (by kernel_rfl) Try.func57 (by kernel_rfl) (by kernel_rfl) dr_s_l17Letter (by kernel_rfl) (by kernel_rfl)

/-! s_l17Swap -/
noncomputable def S_s_l17Swap : SC := slimF Try.f58
noncomputable def lp_s_l17Swap : Nat → Code := lpOf Try.f58
theorem dr_s_l17Swap : drawsOK (codeOf Try.f58) = true := by kernel_rfl
theorem fn_s_l17Swap {L n : Nat} {args : List A} {h : H} : evCall env L (n + 1) 58 args h = kCode env (evCall env L n) L h.length [] ([]) lp_s_l17Swap S_s_l17Swap (args ++ List.replicate (Try.f58.ntmps - args.length) (.d .undef)) h (kFin env.P h.length false [.tmp 6]) :=
  fn_eq2 (mode := 1) (by kernel_rfl) Try.func58 (by kernel_rfl) (by kernel_rfl) dr_s_l17Swap (by kernel_rfl) (by kernel_rfl)

/-! s_l1At -/
noncomputable def S_s_l1At : SC := slimF Try.f59
noncomputable def lp_s_l1At : Nat → Code := lpOf Try.f59
theorem dr_s_l1At : drawsOK (codeOf Try.f59) = true := by kernel_rfl
theorem fn_s_l1At {L n : Nat} {args : List A} {h : H} : evCall env L (n + 1) 59 args h = kCode env (evCall env L n) L h.length [] ([]) lp_s_l1At S_s_l1At (args ++ List.replicate (Try.f59.ntmps - args.length) (.d .undef)) h (kFin env.P h.length false [.tmp 4]) :=
  fn_eq2 (mode := 1) (by kernel_rfl) Try.func59 (by kernel_rfl) (by kernel_rfl) dr_s_l1At (by kernel_rfl) (by kernel_rfl)

/-! i_isLetter -/
noncomputable def S_i_isLetter : SC := slimF Try.f60
noncomputable def lp_i_isLetter : Nat → Code := lpOf Try.f60
theorem dr_i_isLetter : drawsOK (codeOf Try.f60) = true := by kernel_rfl
theorem fn_i_isLetter {L n : Nat} {args : List A} {h : H} : evCall env L (n + 1) 60 args h = kCode env (evCall env L n) L h.length [] ([]) lp_i_isLetter S_i_isLetter (args ++ List.replicate (Try.f60.ntmps - args.length) (.d .undef)) h (kFin env.P h.length false [.tmp 2]) :=
  fn_eq2 (mode := 1) (by kernel_rfl) Try.func60 (by kernel_rfl) (by kernel_rfl) dr_i_isLetter (by kernel_rfl) (by kernel_rfl)

/-! i_letterByte -/
noncomputable def S_i_letterByte : SC := slimF Try.f61
noncomputable def lp_i_letterByte : Nat → Code := lpOf Try.f61
theorem dr_i_letterByte : drawsOK (codeOf Try.f61) = true := by kernel_rfl
theorem fn_i_letterByte {L n : Nat} {args : List A} {h : H} : evCall env L (n + 1) 61 args h = kCode env (evCall env L n) L h.length [] ([]) lp_i_letterByte S_i_letterByte (args ++ List.replicate (Try.f61.ntmps - args.length) (.d .undef)) h (kFin env.P h.length false [.tmp 2]) :=
  fn_eq2 (mode := 1) (by kernel_rfl) Try.func61 (by kernel_rfl) (by kernel_rfl) dr_i_letterByte (by kernel_rfl) (by kernel_rfl)

/-! i_swapped -/
noncomputable def S_i_swapped : SC := slimF Try.f62
noncomputable def lp_i_swapped : Nat → Code := lpOf Try.f62
theorem dr_i_swapped : drawsOK (codeOf Try.f62) = true := by kernel_rfl
theorem fn_i_swapped {L n : Nat} {args : List A} {h : H} : evCall env L (n + 1) 62 args h = kCode env (evCall env L n) L h.length [] ([]) lp_i_swapped S_i_swapped (args ++ List.replicate (Try.f62.ntmps - args.length) (.d .undef)) h (kFin env.P h.length false [.tmp 6]) :=
  fn_eq2 (mode := 1) (by kernel_rfl) Try.func62 (by kernel_rfl) (by kernel_rfl) dr_i_swapped (by kernel_rfl) (by kernel_rfl)

/-! i_letterAt -/
noncomputable def S_i_letterAt : SC := slimF Try.f63
noncomputable def lp_i_letterAt : Nat → Code := lpOf Try.f63
theorem dr_i_letterAt : drawsOK (codeOf Try.f63) = true := by kernel_rfl
theorem fn_i_letterAt {L n : Nat} {args : List A} {h : H} : evCall env L (n + 1) 63 args h = kCode env (evCall env L n) L h.length [] ([]) lp_i_letterAt S_i_letterAt (args ++ List.replicate (Try.f63.ntmps - args.length) (.d .undef)) h (kFin env.P h.length false [.tmp 4]) :=
  fn_eq2 (mode := 1) (by kernel_rfl) Try.func63 (by kernel_rfl) (by kernel_rfl) dr_i_letterAt (by kernel_rfl) (by kernel_rfl)

/-! s_l19Open -/
noncomputable def S_s_l19Open : SC := slimF Try.f64
noncomputable def lp_s_l19Open : Nat → Code := lpOf Try.f64
theorem dr_s_l19Open : drawsOK (codeOf Try.f64) = true := by kernel_rfl
theorem fn_s_l19Open {L n : Nat} {args : List A} {h : H} : evCall env L (n + 1) 64 args h = kCode env (evCall env L n) L h.length [] ([]) lp_s_l19Open S_s_l19Open (args ++ List.replicate (Try.f64.ntmps - args.length) (.d .undef)) h (kFin env.P h.length true [.tmp 2]) :=
  fn_eq2 (mode := 2) (by kernel_rfl) Try.func64 (by kernel_rfl) (by kernel_rfl) dr_s_l19Open (by kernel_rfl) (by kernel_rfl)

/-! s_l1Bad -/
noncomputable def S_s_l1Bad : SC := slimF Try.f65
noncomputable def lp_s_l1Bad : Nat → Code := lpOf Try.f65
theorem dr_s_l1Bad : drawsOK (codeOf Try.f65) = true := by kernel_rfl
theorem fn_s_l1Bad {L n : Nat} {args : List A} {h : H} : evCall env L (n + 1) 65 args h = kCode env (evCall env L n) L h.length [] ([]) lp_s_l1Bad S_s_l1Bad (args ++ List.replicate (Try.f65.ntmps - args.length) (.d .undef)) h (kFin env.P h.length false [.tmp 4]) :=
  fn_eq2 (mode := 0) (by kernel_rfl) Try.func65 (by kernel_rfl) (by kernel_rfl) dr_s_l1Bad (by kernel_rfl) (by kernel_rfl)

/-! s_l1Word -/
noncomputable def S_s_l1Word : SC := slimF Try.f66
noncomputable def lp_s_l1Word : Nat → Code := lpOf Try.f66
theorem dr_s_l1Word : drawsOK (codeOf Try.f66) = true := by kernel_rfl
theorem fn_s_l1Word {L n : Nat} {args : List A} {h : H} : evCall env L (n + 1) 66 args h = kCode env (evCall env L n) L h.length [] (true :: false :: false :: false :: false :: false :: true :: true :: true :: true :: false :: false :: false :: false :: false :: false :: false :: false :: false :: false :: false :: false :: false :: false :: false :: false :: false :: false :: false :: false :: false :: false :: false :: false :: false :: false :: []) lp_s_l1Word S_s_l1Word (args ++ List.replicate (Try.f66.ntmps - args.length) (.d .undef)) h (kFin env.P h.length false [.tmp 6]) :=
  fn_eq2 (mode := 0) (by kernel_rfl) Try.func66 (by kernel_rfl) (by kernel_rfl) dr_s_l1Word (by kernel_rfl) (by kernel_rfl)
noncomputable def S_s_l1Word_0 : SC := slimL Try.f66 0
theorem step_s_l1Word_0 {R : Type} {call : CallF} {L nf n : Nat} {thaw : List Nat} {live m : List Bool} {s : List A} {h : H} {k : Exit → List A → H → Option R} : kLoop env call L nf thaw live (lp_s_l1Word 0) m (n + 1) s h k = kCode env call L nf thaw live lp_s_l1Word S_s_l1Word_0 s h (kNext env call L nf thaw live (lp_s_l1Word 0) m n k) :=
  kLoop_step dr_s_l1Word (by kernel_rfl)

/-! s_l1Some -/
noncomputable def S_s_l1Some : SC := slimF Try.f67
noncomputable def lp_s_l1Some : Nat → Code := lpOf Try.f67
theorem dr_s_l1Some : drawsOK (codeOf Try.f67) = true := by kernel_rfl
theorem fn_s_l1Some {L n : Nat} {args : List A} {h : H} : evCall env L (n + 1) 67 args h = kCode env (evCall env L n) L h.length [] ([]) lp_s_l1Some S_s_l1Some (args ++ List.replicate (Try.f67.ntmps - args.length) (.d .undef)) h (kFin env.P h.length false [.tmp 2]) :=
  fn_eq2 (mode := 0) (by kernel_rfl) Try.func67 (by kernel_rfl) (by kernel_rfl) dr_s_l1Some (by kernel_rfl) (by kernel_rfl)

/-! s_l17Two -/
noncomputable def S_s_l17Two : SC := slimF Try.f68
noncomputable def lp_s_l17Two : Nat → Code := lpOf Try.f68
theorem dr_s_l17Two : drawsOK (codeOf Try.f68) = true := by kernel_rfl
theorem fn_s_l17Two {L n : Nat} {args : List A} {h : H} : evCall env L (n + 1) 68 args h = kCode env (evCall env L n) L h.length [] ([]) lp_s_l17Two S_s_l17Two (args ++ List.replicate (Try.f68.ntmps - args.length) (.d .undef)) h (kFin env.P h.length false [.tmp 2, .tmp 3]) :=
  fn_eq2 (mode := 0) (by kernel_rfl) Try.func68 (by kernel_rfl) (by kernel_rfl) dr_s_l17Two (by kernel_rfl) (by kernel_rfl)

/-! i_isAlphabet -/
noncomputable def S_i_isAlphabet : SC := slimF Try.f69
noncomputable def lp_i_isAlphabet : Nat → Code := lpOf Try.f69
theorem dr_i_isAlphabet : drawsOK (codeOf Try.f69) = true := by kernel_rfl
theorem fn_i_isAlphabet {L n : Nat} {args : List A} {h : H} : evCall env L (n + 1) 69 args h = kCode env (evCall env L n) L h.length [] ([]) lp_i_isAlphabet S_i_isAlphabet (args ++ List.replicate (Try.f69.ntmps - args.length) (.d .undef)) h (kFin env.P h.length false [.tmp 2]) :=
  fn_eq2 (mode := 1) (by kernel_rfl) Try.func69 (by kernel_rfl) (by kernel_rfl) dr_i_isAlphabet (by kernel_rfl) (by kernel_rfl)

/-! i_lettersOf -/
noncomputable def S_i_lettersOf : SC := slimF Try.f70
noncomputable def lp_i_lettersOf : Nat → Code := lpOf Try.f70
theorem dr_i_lettersOf : drawsOK (codeOf Try.f70) = true := by kernel_rfl
theorem fn_i_lettersOf {L n : Nat} {args : List A} {h : H} : evCall env L (n + 1) 70 args h = kCode env (evCall env L n) L h.length [0, 0, 0, 2] (true :: false :: true :: true :: false :: true :: false :: false :: false :: false :: false :: false :: false :: false :: false :: false :: false :: []) lp_i_lettersOf S_i_lettersOf (args ++ List.replicate (Try.f70.ntmps - args.length) (.d .undef)) h (kFin env.P h.length false [.tmp 2]) :=
  fn_eq2 (mode := 2) (by kernel_rfl) Try.func70 (by kernel_rfl) (by kernel_rfl) dr_i_lettersOf (by kernel_rfl) (by kernel_rfl)
noncomputable def S_i_lettersOf_0 : SC := slimL Try.f70 0
theorem step_i_lettersOf_0 {R : Type} {call : CallF} {L nf n : Nat} {thaw : List Nat} {live m : List Bool} {s : List A} {h : H} {k : Exit → List A → H → Option R} : kLoop env call L nf thaw live (lp_i_lettersOf 0) m (n + 1) s h k = kCode env call L nf thaw live lp_i_lettersOf S_i_lettersOf_0 s h (kNext env call L nf thaw live (lp_i_lettersOf 0) m n k) :=
  kLoop_step dr_i_lettersOf (by kernel_rfl)

/-! s_l1Wrong -/
noncomputable def S_s_l1Wrong : SC := slimF Try.f71
noncomputable def lp_s_l1Wrong : Nat → Code := lpOf Try.f71
theorem dr_s_l1Wrong : drawsOK (codeOf Try.f71) = true := by kernel_rfl
theorem fn_s_l1Wrong {L n : Nat} {args : List A} {h : H} : evCall env L (n + 1) 71 args h = kCode env (evCall env L n) L h.length [] ([]) lp_s_l1Wrong S_s_l1Wrong (args ++ List.replicate (Try.f71.ntmps - args.length) (.d .undef)) h (kFin env.P h.length false [.tmp 4]) :=
  fn_eq2 (mode := 0) (by kernel_rfl) Try.func71 (by kernel_rfl) (by kernel_rfl) dr_s_l1Wrong (by kernel_rfl) (by kernel_rfl)

/-! s_l1Alphabet -/
noncomputable def S_s_l1Alphabet : SC := slimF Try.f72
noncomputable def lp_s_l1Alphabet : Nat → Code := lpOf Try.f72
theorem dr_s_l1Alphabet : drawsOK (codeOf Try.f72) = true := by kernel_rfl
theorem fn_s_l1Alphabet {L n : Nat} {args : List A} {h : H} : evCall env L (n + 1) 72 args h = kCode env (evCall env L n) L h.length [] ([]) lp_s_l1Alphabet S_s_l1Alphabet (args ++ List.replicate (Try.f72.ntmps - args.length) (.d .undef)) h (kFin env.P h.length false [.tmp 2]) :=
  fn_eq2 (mode := 1) (by kernel_rfl) Try.func72 (by kernel_rfl) (by kernel_rfl) dr_s_l1Alphabet (by kernel_rfl) (by kernel_rfl)

/-! s_l1Has -/
noncomputable def S_s_l1Has : SC := slimF Try.f73
noncomputable def lp_s_l1Has : Nat → Code := lpOf Try.f73
theorem dr_s_l1Has : drawsOK (codeOf Try.f73) = true := by kernel_rfl
theorem fn_s_l1Has {L n : Nat} {args : List A} {h : H} : evCall env L (n + 1) 73 args h = kCode env (evCall env L n) L h.length [] ([]) lp_s_l1Has S_s_l1Has (args ++ List.replicate (Try.f73.ntmps - args.length) (.d .undef)) h (kFin env.P h.length false [.tmp 4]) :=
  fn_eq2 (mode := 1) (by kernel_rfl) Try.func73 (by kernel_rfl) (by kernel_rfl) dr_s_l1Has (by kernel_rfl) (by kernel_rfl)

/-! s_l1Bit -/
noncomputable def S_s_l1Bit : SC := slimF Try.f74
noncomputable def lp_s_l1Bit : Nat → Code := lpOf Try.f74
theorem dr_s_l1Bit : drawsOK (codeOf Try.f74) = true := by kernel_rfl
theorem fn_s_l1Bit {L n : Nat} {args : List A} {h : H} : evCall env L (n + 1) 74 args h = kCode env (evCall env L n) L h.length [] ([]) lp_s_l1Bit S_s_l1Bit (args ++ List.replicate (Try.f74.ntmps - args.length) (.d .undef)) h (kFin env.P h.length false [.tmp 2]) :=
  fn_eq2 (mode := 1) (by kernel_rfl) Try.func74 (by kernel_rfl) (by kernel_rfl) dr_s_l1Bit (by kernel_rfl) (by kernel_rfl)

/-! i_restrict -/
noncomputable def S_i_restrict : SC := slimF Try.f75
noncomputable def lp_i_restrict : Nat → Code := lpOf Try.f75
theorem dr_i_restrict : drawsOK (codeOf Try.f75) = true := by kernel_rfl
theorem fn_i_restrict {L n : Nat} {args : List A} {h : H} : evCall env L (n + 1) 75 args h = kCode env (evCall env L n) L h.length [0, 0, 0, 0, 0, 2] (true :: true :: false :: false :: true :: true :: false :: false :: true :: true :: false :: false :: false :: false :: false :: false :: false :: false :: false :: false :: false :: false :: false :: false :: false :: false :: []) lp_i_restrict S_i_restrict (args ++ List.replicate (Try.f75.ntmps - args.length) (.d .undef)) h (kFin env.P h.length false [.tmp 4]) :=
  fn_eq2 (mode := 1) (by kernel_rfl) Try.func75 (by kernel_rfl) (by kernel_rfl) dr_i_restrict (by kernel_rfl) (by kernel_rfl)
noncomputable def S_i_restrict_0 : SC := slimL Try.f75 0
theorem step_i_restrict_0 {R : Type} {call : CallF} {L nf n : Nat} {thaw : List Nat} {live m : List Bool} {s : List A} {h : H} {k : Exit → List A → H → Option R} : kLoop env call L nf thaw live (lp_i_restrict 0) m (n + 1) s h k = kCode env call L nf thaw live lp_i_restrict S_i_restrict_0 s h (kNext env call L nf thaw live (lp_i_restrict 0) m n k) :=
  kLoop_step dr_i_restrict (by kernel_rfl)

/-! i_has -/
noncomputable def S_i_has : SC := slimF Try.f76
noncomputable def lp_i_has : Nat → Code := lpOf Try.f76
theorem dr_i_has : drawsOK (codeOf Try.f76) = true := by kernel_rfl
theorem fn_i_has {L n : Nat} {args : List A} {h : H} : evCall env L (n + 1) 76 args h = kCode env (evCall env L n) L h.length [] ([]) lp_i_has S_i_has (args ++ List.replicate (Try.f76.ntmps - args.length) (.d .undef)) h (kFin env.P h.length false [.tmp 4]) :=
  fn_eq2 (mode := 1) (by kernel_rfl) Try.func76 (by kernel_rfl) (by kernel_rfl) dr_i_has (by kernel_rfl) (by kernel_rfl)

/-! szEdgeS -/
noncomputable def S_szEdgeS : SC := slimF Try.f77
noncomputable def lp_szEdgeS : Nat → Code := lpOf Try.f77
theorem dr_szEdgeS : drawsOK (codeOf Try.f77) = true := by kernel_rfl
theorem fn_szEdgeS {L n : Nat} {args : List A} {h : H} : evCall env L (n + 1) 77 args h = kCode env (evCall env L n) L h.length [] ([]) lp_szEdgeS S_szEdgeS (args ++ List.replicate (Try.f77.ntmps - args.length) (.d .undef)) h (kFin env.P h.length false [.tmp 4]) :=
  fn_eq2 (mode := 1) (by kernel_rfl) Try.func77 (by kernel_rfl) (by kernel_rfl) dr_szEdgeS (by kernel_rfl) (by kernel_rfl)

/-! s_SystemValid -/
noncomputable def S_s_SystemValid : SC := slimF Try.f78
noncomputable def lp_s_SystemValid : Nat → Code := lpOf Try.f78
theorem dr_s_SystemValid : drawsOK (codeOf Try.f78) = true := by kernel_rfl
theorem fn_s_SystemValid {L n : Nat} {args : List A} {h : H} : evCall env L (n + 1) 78 args h = kCode env (evCall env L n) L h.length [] (false :: true :: true :: true :: false :: false :: false :: false :: false :: false :: false :: false :: false :: false :: false :: false :: false :: false :: false :: false :: false :: false :: false :: false :: false :: false :: false :: false :: false :: false :: false :: false :: false :: false :: false :: false :: false :: false :: false :: false :: false :: false :: false :: false :: false :: false :: false :: false :: false :: false :: false :: false :: false :: false :: false :: []) lp_s_SystemValid S_s_SystemValid (args ++ List.replicate (Try.f78.ntmps - args.length) (.d .undef)) h (kFin env.P h.length false [.tmp 2]) :=
  fn_eq2 (mode := 1) (by kernel_rfl) Try.func78 (by kernel_rfl) (by kernel_rfl) dr_s_SystemValid (by kernel_rfl) (by kernel_rfl)
noncomputable def S_s_SystemValid_0 : SC := slimL Try.f78 0
theorem step_s_SystemValid_0 {R : Type} {call : CallF} {L nf n : Nat} {thaw : List Nat} {live m : List Bool} {s : List A} {h : H} {k : Exit → List A → H → Option R} : kLoop env call L nf thaw live (lp_s_SystemValid 0) m (n + 1) s h k = kCode env call L nf thaw live lp_s_SystemValid S_s_SystemValid_0 s h (kNext env call L nf thaw live (lp_s_SystemValid 0) m n k) :=
  kLoop_step dr_s_SystemValid (by kernel_rfl)

/-! s_l17Index -/
noncomputable def S_s_l17Index : SC := slimF Try.f79
noncomputable def lp_s_l17Index : Nat → Code := lpOf Try.f79
theorem dr_s_l17Index : drawsOK (codeOf Try.f79) = true := by kernel_rfl
theorem fn_s_l17Index {L n : Nat} {args : List A} {h : H} : evCall env L (n + 1) 79 args h = kCode env (evCall env L n) L h.length [] (true :: false :: false :: true :: true :: true :: false :: false :: false :: false :: false :: false :: false :: false :: false :: false :: false :: false :: false :: []) lp_s_l17Index S_s_l17Index (args ++ List.replicate (Try.f79.ntmps - args.length) (.d .undef)) h (kFin env.P h.length false [.tmp 4]) :=
  fn_eq2 (mode := 1) (by kernel_rfl) Try.func79 (by kernel_rfl) (by kernel_rfl) dr_s_l17Index (by kernel_rfl) (by kernel_rfl)
noncomputable def S_s_l17Index_0 : SC := slimL Try.f79 0
theorem step_s_l17Index_0 {R : Type} {call : CallF} {L nf n : Nat} {thaw : List Nat} {live m : List Bool} {s : List A} {h : H} {k : Exit → List A → H → Option R} : kLoop env call L nf thaw live (lp_s_l17Index 0) m (n + 1) s h k = kCode env call L nf thaw live lp_s_l17Index S_s_l17Index_0 s h (kNext env call L nf thaw live (lp_s_l17Index 0) m n k) :=
  kLoop_step dr_s_l17Index (by kernel_rfl)

/-! s_l17Drop -/
noncomputable def S_s_l17Drop : SC := slimF Try.f80
noncomputable def lp_s_l17Drop : Nat → Code := lpOf Try.f80
theorem dr_s_l17Drop : drawsOK (codeOf Try.f80) = true := by kernel_rfl
theorem fn_s_l17Drop {L n : Nat} {args : List A} {h : H} : evCall env L (n + 1) 80 args h = kCode env (evCall env L n) L h.length [] ([]) lp_s_l17Drop S_s_l17Drop (args ++ List.replicate (Try.f80.ntmps - args.length) (.d .undef)) h (kFin env.P h.length false Try.f80.results.toList) :=
  fn_eq2 (mode := 2) (by kernel_rfl) Try.func80 (by kernel_rfl) (by kernel_rfl) dr_s_l17Drop (by kernel_rfl) (by kernel_rfl)

/-! toEdgeS -/
noncomputable def S_toEdgeS : SC := slimF Try.f81
noncomputable def lp_toEdgeS : Nat → Code := lpOf Try.f81
theorem dr_toEdgeS : drawsOK (codeOf Try.f81) = true := by kernel_rfl
theorem fn_toEdgeS {L n : Nat} {args : List A} {h : H} : evCall env L (n + 1) 81 args h = kCode env (evCall env L n) L h.length [] (true :: false :: true :: true :: true :: false :: false :: false :: false :: false :: false :: false :: false :: false :: false :: false :: false :: false :: false :: false :: false :: false :: false :: []) lp_toEdgeS S_toEdgeS (args ++ List.replicate (Try.f81.ntmps - args.length) (.d .undef)) h (kFin env.P h.length false [.tmp 2]) :=
  fn_eq2 (mode := 2) (by kernel_rfl) Try.func81 (by kernel_rfl) (by kernel_rfl) dr_toEdgeS (by kernel_rfl) (by kernel_rfl)
noncomputable def S_toEdgeS_0 : SC := slimL Try.f81 0
theorem step_toEdgeS_0 {R : Type} {call : CallF} {L nf n : Nat} {thaw : List Nat} {live m : List Bool} {s : List A} {h : H} {k : Exit → List A → H → Option R} : kLoop env call L nf thaw live (lp_toEdgeS 0) m (n + 1) s h k = kCode env call L nf thaw live lp_toEdgeS S_toEdgeS_0 s h (kNext env call L nf thaw live (lp_toEdgeS 0) m n k) :=
  kLoop_step dr_toEdgeS (by kernel_rfl)

/-! slices_BinarySearchFunc_i_Edge_i_Edge_i_Edge -/
noncomputable def S_slices_BinarySearchFunc_i_Edge_i_Edge_i_Edge : SC := slimF Try.f82
noncomputable def lp_slices_BinarySearchFunc_i_Edge_i_Edge_i_Edge : Nat → Code := lpOf Try.f82
theorem dr_slices_BinarySearchFunc_i_Edge_i_Edge_i_Edge : drawsOK (codeOf Try.f82) = true := by kernel_rfl
theorem fn_slices_BinarySearchFunc_i_Edge_i_Edge_i_Edge {L n : Nat} {args : List A} {h : H} : evCall env L (n + 1) 82 args h = kCode env (evCall env L n) L h.length [] (true :: false :: true :: false :: true :: false :: true :: true :: true :: true :: true :: false :: false :: false :: false :: false :: false :: false :: false :: false :: false :: false :: false :: false :: false :: false :: false :: false :: false :: false :: false :: false :: false :: false :: false :: false :: false :: false :: false :: false :: false :: false :: false :: false :: false :: false :: false :: false :: false :: []) lp_slices_BinarySearchFunc_i_Edge_i_Edge_i_Edge S_slices_BinarySearchFunc_i_Edge_i_Edge_i_Edge (args ++ List.replicate (Try.f82.ntmps - args.length) (.d .undef)) h (kFin env.P h.length false [.tmp 6, .tmp 7]) :=
  fn_eq2 (mode := 1) (by kernel_rfl) Try.func82 (by kernel_rfl) (by kernel_rfl) dr_slices_BinarySearchFunc_i_Edge_i_Edge_i_Edge (by kernel_rfl) (by kernel_rfl)
noncomputable def S_slices_BinarySearchFunc_i_Edge_i_Edge_i_Edge_0 : SC := slimL Try.f82 0
theorem step_slices_BinarySearchFunc_i_Edge_i_Edge_i_Edge_0 {R : Type} {call : CallF} {L nf n : Nat} {thaw : List Nat} {live m : List Bool} {s : List A} {h : H} {k : Exit → List A → H → Option R} : kLoop env call L nf thaw live (lp_slices_BinarySearchFunc_i_Edge_i_Edge_i_Edge 0) m (n + 1) s h k = kCode env call L nf thaw live lp_slices_BinarySearchFunc_i_Edge_i_Edge_i_Edge S_slices_BinarySearchFunc_i_Edge_i_Edge_i_Edge_0 s h (kNext env call L nf thaw live (lp_slices_BinarySearchFunc_i_Edge_i_Edge_i_Edge 0) m n k) :=
  kLoop_step dr_slices_BinarySearchFunc_i_Edge_i_Edge_i_Edge (by kernel_rfl)

/-! i_compareEdges -/
noncomputable def S_i_compareEdges : SC := slimF Try.f83
noncomputable def lp_i_compareEdges : Nat → Code := lpOf Try.f83
theorem dr_i_compareEdges : drawsOK (codeOf Try.f83) = true := by kernel_rfl
theorem fn_i_compareEdges {L n : Nat} {args : List A} {h : H} : evCall env L (n + 1) 83 args h = kCode env (evCall env L n) L h.length [] ([]) lp_i_compareEdges S_i_compareEdges (args ++ List.replicate (Try.f83.ntmps - args.length) (.d .undef)) h (kFin env.P h.length false [.tmp 4]) :=
  fn_eq2 (mode := 1) (by kernel_rfl) Try.func83 (by kernel_rfl) (by kernel_rfl) dr_i_compareEdges (by kernel_rfl) (by kernel_rfl)

/-! slices_Delete_i_Edge_i_Edge -/
noncomputable def S_slices_Delete_i_Edge_i_Edge : SC := slimF Try.f84
noncomputable def lp_slices_Delete_i_Edge_i_Edge : Nat → Code := lpOf Try.f84
theorem dr_slices_Delete_i_Edge_i_Edge : drawsOK (codeOf Try.f84) = true := by kernel_rfl
theorem fn_slices_Delete_i_Edge_i_Edge {L n : Nat} {args : List A} {h : H} : evCall env L (n + 1) 84 args h = kCode env (evCall env L n) L h.length [] ([]) lp_slices_Delete_i_Edge_i_Edge S_slices_Delete_i_Edge_i_Edge (args ++ List.replicate (Try.f84.ntmps - args.length) (.d .undef)) h (kFin env.P h.length true [.tmp 6]) :=
  fn_eq2 (mode := 0) (by kernel_rfl) Try.func84 (by kernel_rfl) (by kernel_rfl) dr_slices_Delete_i_Edge_i_Edge (by kernel_rfl) (by kernel_rfl)

/-! slices_Clone_i_Edge_i_Edge -/
noncomputable def S_slices_Clone_i_Edge_i_Edge : SC := slimF Try.f85
noncomputable def lp_slices_Clone_i_Edge_i_Edge : Nat → Code := lpOf Try.f85
theorem dr_slices_Clone_i_Edge_i_Edge : drawsOK (codeOf Try.f85) = true := by kernel_rfl
theorem fn_slices_Clone_i_Edge_i_Edge {L n : Nat} {args : List A} {h : H} : evCall env L (n + 1) 85 args h = kCode env (evCall env L n) L h.length [] ([]) lp_slices_Clone_i_Edge_i_Edge S_slices_Clone_i_Edge_i_Edge (args ++ List.replicate (Try.f85.ntmps - args.length) (.d .undef)) h (kFin env.P h.length true [.tmp 2]) :=
  fn_eq2 (mode := 0) (by kernel_rfl) Try.func85 (by kernel_rfl) (by kernel_rfl) dr_slices_Clone_i_Edge_i_Edge (by kernel_rfl) (by kernel_rfl)

/-! eqEdgeS -/
noncomputable def S_eqEdgeS : SC := slimF Try.f86
noncomputable def lp_eqEdgeS : Nat → Code := lpOf Try.f86
theorem dr_eqEdgeS : drawsOK (codeOf Try.f86) = true := by kernel_rfl
theorem fn_eqEdgeS {L n : Nat} {args : List A} {h : H} : evCall env L (n + 1) 86 args h = kCode env (evCall env L n) L h.length [] (true :: true :: false :: false :: true :: true :: false :: false :: false :: false :: false :: false :: false :: false :: false :: false :: false :: false :: false :: false :: false :: false :: false :: false :: false :: false :: false :: []) lp_eqEdgeS S_eqEdgeS (args ++ List.replicate (Try.f86.ntmps - args.length) (.d .undef)) h (kFin env.P h.length false [.tmp 4]) :=
  fn_eq2 (mode := 1) (by kernel_rfl) Try.func86 (by kernel_rfl) (by kernel_rfl) dr_eqEdgeS (by kernel_rfl) (by kernel_rfl)
noncomputable def S_eqEdgeS_0 : SC := slimL Try.f86 0
theorem step_eqEdgeS_0 {R : Type} {call : CallF} {L nf n : Nat} {thaw : List Nat} {live m : List Bool} {s : List A} {h : H} {k : Exit → List A → H → Option R} : kLoop env call L nf thaw live (lp_eqEdgeS 0) m (n + 1) s h k = kCode env call L nf thaw live lp_eqEdgeS S_eqEdgeS_0 s h (kNext env call L nf thaw live (lp_eqEdgeS 0) m n k) :=
  kLoop_step dr_eqEdgeS (by kernel_rfl)

/-! markEdgeS -/
noncomputable def S_markEdgeS : SC := slimF Try.f87
noncomputable def lp_markEdgeS : Nat → Code := lpOf Try.f87
theorem dr_markEdgeS : drawsOK (codeOf Try.f87) = true := by kernel_rfl
theorem fn_markEdgeS {L n : Nat} {args : List A} {h : H} : evCall env L (n + 1) 87 args h = kCode env (evCall env L n) L h.length [] (true :: true :: false :: false :: true :: true :: false :: false :: false :: false :: false :: false :: false :: false :: false :: false :: false :: false :: false :: false :: false :: false :: false :: false :: false :: false :: false :: false :: false :: false :: false :: false :: false :: false :: []) lp_markEdgeS S_markEdgeS (args ++ List.replicate (Try.f87.ntmps - args.length) (.d .undef)) h (kFin env.P h.length false [.tmp 4]) :=
  fn_eq2 (mode := 1) (by kernel_rfl) Try.func87 (by kernel_rfl) (by kernel_rfl) dr_markEdgeS (by kernel_rfl) (by kernel_rfl)
noncomputable def S_markEdgeS_0 : SC := slimL Try.f87 0
theorem step_markEdgeS_0 {R : Type} {call : CallF} {L nf n : Nat} {thaw : List Nat} {live m : List Bool} {s : List A} {h : H} {k : Exit → List A → H → Option R} : kLoop env call L nf thaw live (lp_markEdgeS 0) m (n + 1) s h k = kCode env call L nf thaw live lp_markEdgeS S_markEdgeS_0 s h (kNext env call L nf thaw live (lp_markEdgeS 0) m n k) :=
  kLoop_step dr_markEdgeS (by kernel_rfl)

/-! heldEdgeS -/
noncomputable def S_heldEdgeS : SC := slimF Try.f88
noncomputable def lp_heldEdgeS : Nat → Code := lpOf Try.f88
theorem dr_heldEdgeS : drawsOK (codeOf Try.f88) = true := by kernel_rfl
theorem fn_heldEdgeS {L n : Nat} {args : List A} {h : H} : evCall env L (n + 1) 88 args h = kCode env (evCall env L n) L h.length [] (true :: true :: false :: false :: true :: true :: false :: false :: false :: false :: false :: false :: false :: false :: false :: false :: false :: false :: false :: false :: false :: false :: false :: false :: false :: false :: false :: false :: false :: false :: false :: false :: false :: false :: false :: false :: false :: false :: false :: false :: []) lp_heldEdgeS S_heldEdgeS (args ++ List.replicate (Try.f88.ntmps - args.length) (.d .undef)) h (kFin env.P h.length false [.tmp 4]) :=
  fn_eq2 (mode := 1) (by kernel_rfl) Try.func88 (by kernel_rfl) (by kernel_rfl) dr_heldEdgeS (by kernel_rfl) (by kernel_rfl)
noncomputable def S_heldEdgeS_0 : SC := slimL Try.f88 0
theorem step_heldEdgeS_0 {R : Type} {call : CallF} {L nf n : Nat} {thaw : List Nat} {live m : List Bool} {s : List A} {h : H} {k : Exit → List A → H → Option R} : kLoop env call L nf thaw live (lp_heldEdgeS 0) m (n + 1) s h k = kCode env call L nf thaw live lp_heldEdgeS S_heldEdgeS_0 s h (kNext env call L nf thaw live (lp_heldEdgeS 0) m n k) :=
  kLoop_step dr_heldEdgeS (by kernel_rfl)

/-! szIntSS -/
noncomputable def S_szIntSS : SC := slimF Try.f89
noncomputable def lp_szIntSS : Nat → Code := lpOf Try.f89
theorem dr_szIntSS : drawsOK (codeOf Try.f89) = true := by kernel_rfl
theorem fn_szIntSS {L n : Nat} {args : List A} {h : H} : evCall env L (n + 1) 89 args h = kCode env (evCall env L n) L h.length [] (true :: true :: false :: false :: true :: true :: false :: false :: false :: false :: false :: false :: false :: false :: false :: false :: false :: false :: false :: false :: false :: false :: false :: false :: false :: false :: false :: []) lp_szIntSS S_szIntSS (args ++ List.replicate (Try.f89.ntmps - args.length) (.d .undef)) h (kFin env.P h.length false [.tmp 4]) :=
  fn_eq2 (mode := 1) (by kernel_rfl) Try.func89 (by kernel_rfl) (by kernel_rfl) dr_szIntSS (by kernel_rfl) (by kernel_rfl)
noncomputable def S_szIntSS_0 : SC := slimL Try.f89 0
theorem step_szIntSS_0 {R : Type} {call : CallF} {L nf n : Nat} {thaw : List Nat} {live m : List Bool} {s : List A} {h : H} {k : Exit → List A → H → Option R} : kLoop env call L nf thaw live (lp_szIntSS 0) m (n + 1) s h k = kCode env call L nf thaw live lp_szIntSS S_szIntSS_0 s h (kNext env call L nf thaw live (lp_szIntSS 0) m n k) :=
  kLoop_step dr_szIntSS (by kernel_rfl)

/-! szBoolS -/
noncomputable def S_szBoolS : SC := slimF Try.f90
noncomputable def lp_szBoolS : Nat → Code := lpOf Try.f90
theorem dr_szBoolS : drawsOK (codeOf Try.f90) = true := by kernel_rfl
theorem fn_szBoolS {L n : Nat} {args : List A} {h : H} : evCall env L (n + 1) 90 args h = kCode env (evCall env L n) L h.length [] ([]) lp_szBoolS S_szBoolS (args ++ List.replicate (Try.f90.ntmps - args.length) (.d .undef)) h (kFin env.P h.length false [.tmp 4]) :=
  fn_eq2 (mode := 1) (by kernel_rfl) Try.func90 (by kernel_rfl) (by kernel_rfl) dr_szBoolS (by kernel_rfl) (by kernel_rfl)

/-! s_AutomatonValid -/
noncomputable def S_s_AutomatonValid : SC := slimF Try.f91
noncomputable def lp_s_AutomatonValid : Nat → Code := lpOf Try.f91
theorem dr_s_AutomatonValid : drawsOK (codeOf Try.f91) = true := by kernel_rfl
theorem fn_s_AutomatonValid {L n : Nat} {args : List A} {h : H} : evCall env L (n + 1) 91 args h = kCode env (evCall env L n) L h.length [] (false :: true :: true :: true :: true :: false :: false :: false :: false :: false :: false :: false :: false :: false :: false :: false :: false :: false :: false :: false :: false :: false :: false :: false :: false :: false :: false :: false :: false :: false :: false :: false :: false :: false :: false :: false :: false :: false :: false :: false :: false :: false :: false :: false :: []) lp_s_AutomatonValid S_s_AutomatonValid (args ++ List.replicate (Try.f91.ntmps - args.length) (.d .undef)) h (kFin env.P h.length false [.tmp 2]) :=
  fn_eq2 (mode := 1) (by kernel_rfl) Try.func91 (by kernel_rfl) (by kernel_rfl) dr_s_AutomatonValid (by kernel_rfl) (by kernel_rfl)
noncomputable def S_s_AutomatonValid_0 : SC := slimL Try.f91 0
theorem step_s_AutomatonValid_0 {R : Type} {call : CallF} {L nf n : Nat} {thaw : List Nat} {live m : List Bool} {s : List A} {h : H} {k : Exit → List A → H → Option R} : kLoop env call L nf thaw live (lp_s_AutomatonValid 0) m (n + 1) s h k = kCode env call L nf thaw live lp_s_AutomatonValid S_s_AutomatonValid_0 s h (kNext env call L nf thaw live (lp_s_AutomatonValid 0) m n k) :=
  kLoop_step dr_s_AutomatonValid (by kernel_rfl)

/-! s_l1Letters -/
noncomputable def S_s_l1Letters : SC := slimF Try.f92
noncomputable def lp_s_l1Letters : Nat → Code := lpOf Try.f92
theorem dr_s_l1Letters : drawsOK (codeOf Try.f92) = true := by kernel_rfl
theorem fn_s_l1Letters {L n : Nat} {args : List A} {h : H} : evCall env L (n + 1) 92 args h = kCode env (evCall env L n) L h.length [] (true :: false :: true :: true :: true :: false :: false :: false :: false :: false :: false :: false :: false :: false :: false :: false :: false :: false :: []) lp_s_l1Letters S_s_l1Letters (args ++ List.replicate (Try.f92.ntmps - args.length) (.d .undef)) h (kFin env.P h.length false [.tmp 2]) :=
  fn_eq2 (mode := 2) (by kernel_rfl) Try.func92 (by kernel_rfl) (by kernel_rfl) dr_s_l1Letters (by kernel_rfl) (by kernel_rfl)
noncomputable def S_s_l1Letters_0 : SC := slimL Try.f92 0
theorem step_s_l1Letters_0 {R : Type} {call : CallF} {L nf n : Nat} {thaw : List Nat} {live m : List Bool} {s : List A} {h : H} {k : Exit → List A → H → Option R} : kLoop env call L nf thaw live (lp_s_l1Letters 0) m (n + 1) s h k = kCode env call L nf thaw live lp_s_l1Letters S_s_l1Letters_0 s h (kNext env call L nf thaw live (lp_s_l1Letters 0) m n k) :=
  kLoop_step dr_s_l1Letters (by kernel_rfl)

/-! s_l3Go -/
noncomputable def S_s_l3Go : SC := slimF Try.f93
noncomputable def lp_s_l3Go : Nat → Code := lpOf Try.f93
theorem dr_s_l3Go : drawsOK (codeOf Try.f93) = true := by kernel_rfl
theorem fn_s_l3Go {L n : Nat} {args : List A} {h : H} : evCall env L (n + 1) 93 args h = kCode env (evCall env L n) L h.length [] ([]) lp_s_l3Go S_s_l3Go (args ++ List.replicate (Try.f93.ntmps - args.length) (.d .undef)) h (kFin env.P h.length false [.tmp 6]) :=
  fn_eq2 (mode := 1) (by kernel_rfl) Try.func93 (by kernel_rfl) (by kernel_rfl) dr_s_l3Go (by kernel_rfl) (by kernel_rfl)

/-! toIntSS -/
noncomputable def S_toIntSS : SC := slimF Try.f94
noncomputable def lp_toIntSS : Nat → Code := lpOf Try.f94
theorem dr_toIntSS : drawsOK (codeOf Try.f94) = true := by kernel_rfl
theorem fn_toIntSS {L n : Nat} {args : List A} {h : H} : evCall env L (n + 1) 94 args h = kCode env (evCall env L n) L h.length [] (true :: false :: true :: true :: true :: false :: false :: false :: false :: false :: false :: false :: false :: false :: false :: false :: false :: false :: false :: false :: false :: false :: false :: []) lp_toIntSS S_toIntSS (args ++ List.replicate (Try.f94.ntmps - args.length) (.d .undef)) h (kFin env.P h.length false [.tmp 2]) :=
  fn_eq2 (mode := 2) (by kernel_rfl) Try.func94 (by kernel_rfl) (by kernel_rfl) dr_toIntSS (by kernel_rfl) (by kernel_rfl)
noncomputable def S_toIntSS_0 : SC := slimL Try.f94 0
theorem step_toIntSS_0 {R : Type} {call : CallF} {L nf n : Nat} {thaw : List Nat} {live m : List Bool} {s : List A} {h : H} {k : Exit → List A → H → Option R} : kLoop env call L nf thaw live (lp_toIntSS 0) m (n + 1) s h k = kCode env call L nf thaw live lp_toIntSS S_toIntSS_0 s h (kNext env call L nf thaw live (lp_toIntSS 0) m n k) :=
  kLoop_step dr_toIntSS (by kernel_rfl)

/-! toBoolS -/
noncomputable def S_toBoolS : SC := slimF Try.f95
noncomputable def lp_toBoolS : Nat → Code := lpOf Try.f95
theorem dr_toBoolS : drawsOK (codeOf Try.f95) = true := by kernel_rfl
theorem fn_toBoolS {L n : Nat} {args : List A} {h : H} : evCall env L (n + 1) 95 args h = kCode env (evCall env L n) L h.length [] (true :: false :: true :: true :: true :: false :: false :: false :: false :: false :: false :: false :: false :: false :: false :: false :: false :: false :: false :: false :: false :: false :: []) lp_toBoolS S_toBoolS (args ++ List.replicate (Try.f95.ntmps - args.length) (.d .undef)) h (kFin env.P h.length false [.tmp 2]) :=
  fn_eq2 (mode := 2) (by kernel_rfl) Try.func95 (by kernel_rfl) (by kernel_rfl) dr_toBoolS (by kernel_rfl) (by kernel_rfl)
noncomputable def S_toBoolS_0 : SC := slimL Try.f95 0
theorem step_toBoolS_0 {R : Type} {call : CallF} {L nf n : Nat} {thaw : List Nat} {live m : List Bool} {s : List A} {h : H} {k : Exit → List A → H → Option R} : kLoop env call L nf thaw live (lp_toBoolS 0) m (n + 1) s h k = kCode env call L nf thaw live lp_toBoolS S_toBoolS_0 s h (kNext env call L nf thaw live (lp_toBoolS 0) m n k) :=
  kLoop_step dr_toBoolS (by kernel_rfl)

/-! i_tableOf -/
noncomputable def S_i_tableOf : SC := slimF Try.f96
noncomputable def lp_i_tableOf : Nat → Code := lpOf Try.f96
theorem dr_i_tableOf : drawsOK (codeOf Try.f96) = true := by kernel_rfl
theorem fn_i_tableOf {L n : Nat} {args : List A} {h : H} : evCall env L (n + 1) 96 args h = kCode env (evCall env L n) L h.length [] (false :: false :: true :: true :: true :: true :: true :: false :: false :: false :: false :: false :: false :: false :: false :: false :: false :: false :: true :: true :: true :: false :: false :: false :: false :: true :: false :: false :: false :: false :: false :: false :: false :: false :: false :: true :: true :: true :: false :: false :: false :: false :: false :: false :: false :: false :: false :: false :: false :: false :: false :: false :: false :: false :: []) lp_i_tableOf S_i_tableOf (args ++ List.replicate (Try.f96.ntmps - args.length) (.d .undef)) h (kFin env.P h.length false [.tmp 2]) :=
  fn_eq2 (mode := 2) (by kernel_rfl) Try.func96 (by kernel_rfl) (by kernel_rfl) dr_i_tableOf (by kernel_rfl) (by kernel_rfl)
noncomputable def S_i_tableOf_0 : SC := slimL Try.f96 0
theorem step_i_tableOf_0 {R : Type} {call : CallF} {L nf n : Nat} {thaw : List Nat} {live m : List Bool} {s : List A} {h : H} {k : Exit → List A → H → Option R} : kLoop env call L nf thaw live (lp_i_tableOf 0) m (n + 1) s h k = kCode env call L nf thaw live lp_i_tableOf S_i_tableOf_0 s h (kNext env call L nf thaw live (lp_i_tableOf 0) m n k) :=
  kLoop_step dr_i_tableOf (by kernel_rfl)
noncomputable def S_i_tableOf_1 : SC := slimL Try.f96 1
theorem step_i_tableOf_1 {R : Type} {call : CallF} {L nf n : Nat} {thaw : List Nat} {live m : List Bool} {s : List A} {h : H} {k : Exit → List A → H → Option R} : kLoop env call L nf thaw live (lp_i_tableOf 1) m (n + 1) s h k = kCode env call L nf thaw live lp_i_tableOf S_i_tableOf_1 s h (kNext env call L nf thaw live (lp_i_tableOf 1) m n k) :=
  kLoop_step dr_i_tableOf (by kernel_rfl)
noncomputable def S_i_tableOf_2 : SC := slimL Try.f96 2
theorem step_i_tableOf_2 {R : Type} {call : CallF} {L nf n : Nat} {thaw : List Nat} {live m : List Bool} {s : List A} {h : H} {k : Exit → List A → H → Option R} : kLoop env call L nf thaw live (lp_i_tableOf 2) m (n + 1) s h k = kCode env call L nf thaw live lp_i_tableOf S_i_tableOf_2 s h (kNext env call L nf thaw live (lp_i_tableOf 2) m n k) :=
  kLoop_step dr_i_tableOf (by kernel_rfl)

/-! slices_Clone_bool_bool -/
noncomputable def S_slices_Clone_bool_bool : SC := slimF Try.f97
noncomputable def lp_slices_Clone_bool_bool : Nat → Code := lpOf Try.f97
theorem dr_slices_Clone_bool_bool : drawsOK (codeOf Try.f97) = true := by kernel_rfl
theorem fn_slices_Clone_bool_bool {L n : Nat} {args : List A} {h : H} : evCall env L (n + 1) 97 args h = kCode env (evCall env L n) L h.length [] ([]) lp_slices_Clone_bool_bool S_slices_Clone_bool_bool (args ++ List.replicate (Try.f97.ntmps - args.length) (.d .undef)) h (kFin env.P h.length true [.tmp 2]) :=
  fn_eq2 (mode := 0) (by kernel_rfl) Try.func97 (by kernel_rfl) (by kernel_rfl) dr_slices_Clone_bool_bool (by kernel_rfl) (by kernel_rfl)

/-! eqIntSS -/
noncomputable def S_eqIntSS : SC := slimF Try.f98
noncomputable def lp_eqIntSS : Nat → Code := lpOf Try.f98
theorem dr_eqIntSS : drawsOK (codeOf Try.f98) = true := by kernel_rfl
theorem fn_eqIntSS {L n : Nat} {args : List A} {h : H} : evCall env L (n + 1) 98 args h = kCode env (evCall env L n) L h.length [] (true :: true :: false :: false :: true :: true :: false :: false :: false :: false :: false :: false :: false :: false :: false :: false :: false :: false :: false :: false :: false :: false :: false :: false :: false :: false :: false :: []) lp_eqIntSS S_eqIntSS (args ++ List.replicate (Try.f98.ntmps - args.length) (.d .undef)) h (kFin env.P h.length false [.tmp 4]) :=
  fn_eq2 (mode := 1) (by kernel_rfl) Try.func98 (by kernel_rfl) (by kernel_rfl) dr_eqIntSS (by kernel_rfl) (by kernel_rfl)
noncomputable def S_eqIntSS_0 : SC := slimL Try.f98 0
theorem step_eqIntSS_0 {R : Type} {call : CallF} {L nf n : Nat} {thaw : List Nat} {live m : List Bool} {s : List A} {h : H} {k : Exit → List A → H → Option R} : kLoop env call L nf thaw live (lp_eqIntSS 0) m (n + 1) s h k = kCode env call L nf thaw live lp_eqIntSS S_eqIntSS_0 s h (kNext env call L nf thaw live (lp_eqIntSS 0) m n k) :=
  kLoop_step dr_eqIntSS (by kernel_rfl)

/-! eqBoolS -/
noncomputable def S_eqBoolS : SC := slimF Try.f99
noncomputable def lp_eqBoolS : Nat → Code := lpOf Try.f99
theorem dr_eqBoolS : drawsOK (codeOf Try.f99) = true := by kernel_rfl
theorem fn_eqBoolS {L n : Nat} {args : List A} {h : H} : evCall env L (n + 1) 99 args h = kCode env (evCall env L n) L h.length [] (true :: true :: false :: false :: true :: true :: false :: false :: false :: false :: false :: false :: false :: false :: false :: false :: false :: false :: false :: false :: false :: false :: false :: false :: false :: false :: []) lp_eqBoolS S_eqBoolS (args ++ List.replicate (Try.f99.ntmps - args.length) (.d .undef)) h (kFin env.P h.length false [.tmp 4]) :=
  fn_eq2 (mode := 1) (by kernel_rfl) Try.func99 (by kernel_rfl) (by kernel_rfl) dr_eqBoolS (by kernel_rfl) (by kernel_rfl)
noncomputable def S_eqBoolS_0 : SC := slimL Try.f99 0
theorem step_eqBoolS_0 {R : Type} {call : CallF} {L nf n : Nat} {thaw : List Nat} {live m : List Bool} {s : List A} {h : H} {k : Exit → List A → H → Option R} : kLoop env call L nf thaw live (lp_eqBoolS 0) m (n + 1) s h k = kCode env call L nf thaw live lp_eqBoolS S_eqBoolS_0 s h (kNext env call L nf thaw live (lp_eqBoolS 0) m n k) :=
  kLoop_step dr_eqBoolS (by kernel_rfl)

/-! markIntSS -/
noncomputable def S_markIntSS : SC := slimF Try.f100
noncomputable def lp_markIntSS : Nat → Code := lpOf Try.f100
theorem dr_markIntSS : drawsOK (codeOf Try.f100) = true := by kernel_rfl
theorem fn_markIntSS {L n : Nat} {args : List A} {h : H} : evCall env L (n + 1) 100 args h = kCode env (evCall env L n) L h.length [] (true :: true :: false :: false :: true :: true :: false :: false :: false :: false :: false :: false :: false :: false :: false :: false :: false :: false :: false :: []) lp_markIntSS S_markIntSS (args ++ List.replicate (Try.f100.ntmps - args.length) (.d .undef)) h (kFin env.P h.length false [.tmp 4]) :=
  fn_eq2 (mode := 1) (by kernel_rfl) Try.func100 (by kernel_rfl) (by kernel_rfl) dr_markIntSS (by kernel_rfl) (by kernel_rfl)
noncomputable def S_markIntSS_0 : SC := slimL Try.f100 0
theorem step_markIntSS_0 {R : Type} {call : CallF} {L nf n : Nat} {thaw : List Nat} {live m : List Bool} {s : List A} {h : H} {k : Exit → List A → H → Option R} : kLoop env call L nf thaw live (lp_markIntSS 0) m (n + 1) s h k = kCode env call L nf thaw live lp_markIntSS S_markIntSS_0 s h (kNext env call L nf thaw live (lp_markIntSS 0) m n k) :=
  kLoop_step dr_markIntSS (by kernel_rfl)

/-! markBoolS -/
noncomputable def S_markBoolS : SC := slimF Try.f101
noncomputable def lp_markBoolS : Nat → Code := lpOf Try.f101
theorem dr_markBoolS : drawsOK (codeOf Try.f101) = true := by kernel_rfl
theorem fn_markBoolS {L n : Nat} {args : List A} {h : H} : evCall env L (n + 1) 101 args h = kCode env (evCall env L n) L h.length [] (true :: true :: false :: false :: true :: true :: false :: false :: false :: false :: false :: false :: false :: false :: false :: false :: false :: false :: false :: false :: false :: []) lp_markBoolS S_markBoolS (args ++ List.replicate (Try.f101.ntmps - args.length) (.d .undef)) h (kFin env.P h.length false [.tmp 4]) :=
  fn_eq2 (mode := 1) (by kernel_rfl) Try.func101 (by kernel_rfl) (by kernel_rfl) dr_markBoolS (by kernel_rfl) (by kernel_rfl)
noncomputable def S_markBoolS_0 : SC := slimL Try.f101 0
theorem step_markBoolS_0 {R : Type} {call : CallF} {L nf n : Nat} {thaw : List Nat} {live m : List Bool} {s : List A} {h : H} {k : Exit → List A → H → Option R} : kLoop env call L nf thaw live (lp_markBoolS 0) m (n + 1) s h k = kCode env call L nf thaw live lp_markBoolS S_markBoolS_0 s h (kNext env call L nf thaw live (lp_markBoolS 0) m n k) :=
  kLoop_step dr_markBoolS (by kernel_rfl)

/-! heldIntSS -/
noncomputable def S_heldIntSS : SC := slimF Try.f102
noncomputable def lp_heldIntSS : Nat → Code := lpOf Try.f102
theorem dr_heldIntSS : drawsOK (codeOf Try.f102) = true := by kernel_rfl
theorem fn_heldIntSS {L n : Nat} {args : List A} {h : H} : evCall env L (n + 1) 102 args h = kCode env (evCall env L n) L h.length [] (true :: true :: false :: false :: true :: true :: false :: false :: false :: false :: false :: false :: false :: false :: false :: false :: false :: false :: false :: false :: false :: []) lp_heldIntSS S_heldIntSS (args ++ List.replicate (Try.f102.ntmps - args.length) (.d .undef)) h (kFin env.P h.length false [.tmp 4]) :=
  fn_eq2 (mode := 1) (by kernel_rfl) Try.func102 (by kernel_rfl) (by kernel_rfl) dr_heldIntSS (by kernel_rfl) (by kernel_rfl)
noncomputable def S_heldIntSS_0 : SC := slimL Try.f102 0
theorem step_heldIntSS_0 {R : Type} {call : CallF} {L nf n : Nat} {thaw : List Nat} {live m : List Bool} {s : List A} {h : H} {k : Exit → List A → H → Option R} : kLoop env call L nf thaw live (lp_heldIntSS 0) m (n + 1) s h k = kCode env call L nf thaw live lp_heldIntSS S_heldIntSS_0 s h (kNext env call L nf thaw live (lp_heldIntSS 0) m n k) :=
  kLoop_step dr_heldIntSS (by kernel_rfl)

/-! heldBoolS -/
noncomputable def S_heldBoolS : SC := slimF Try.f103
noncomputable def lp_heldBoolS : Nat → Code := lpOf Try.f103
theorem dr_heldBoolS : drawsOK (codeOf Try.f103) = true := by kernel_rfl
theorem fn_heldBoolS {L n : Nat} {args : List A} {h : H} : evCall env L (n + 1) 103 args h = kCode env (evCall env L n) L h.length [] (true :: true :: false :: false :: true :: true :: false :: false :: false :: false :: false :: false :: false :: false :: false :: false :: false :: false :: false :: false :: false :: false :: false :: []) lp_heldBoolS S_heldBoolS (args ++ List.replicate (Try.f103.ntmps - args.length) (.d .undef)) h (kFin env.P h.length false [.tmp 4]) :=
  fn_eq2 (mode := 1) (by kernel_rfl) Try.func103 (by kernel_rfl) (by kernel_rfl) dr_heldBoolS (by kernel_rfl) (by kernel_rfl)
noncomputable def S_heldBoolS_0 : SC := slimL Try.f103 0
theorem step_heldBoolS_0 {R : Type} {call : CallF} {L nf n : Nat} {thaw : List Nat} {live m : List Bool} {s : List A} {h : H} {k : Exit → List A → H → Option R} : kLoop env call L nf thaw live (lp_heldBoolS 0) m (n + 1) s h k = kCode env call L nf thaw live lp_heldBoolS S_heldBoolS_0 s h (kNext env call L nf thaw live (lp_heldBoolS 0) m n k) :=
  kLoop_step dr_heldBoolS (by kernel_rfl)

/-! s_l2Edge -/
noncomputable def S_s_l2Edge : SC := slimF Try.f104
noncomputable def lp_s_l2Edge : Nat → Code := lpOf Try.f104
theorem dr_s_l2Edge : drawsOK (codeOf Try.f104) = true := by kernel_rfl
theorem fn_s_l2Edge {L n : Nat} {args : List A} {h : H} : evCall env L (n + 1) 104 args h = kCode env (evCall env L n) L h.length [] ([]) lp_s_l2Edge S_s_l2Edge (args ++ List.replicate (Try.f104.ntmps - args.length) (.d .undef)) h (kFin env.P h.length false [.tmp 6]) :=
  fn_eq2 (mode := 1) (by kernel_rfl) Try.func104 (by kernel_rfl) (by kernel_rfl) dr_s_l2Edge (by kernel_rfl) (by kernel_rfl)

/-! s_l17Sorted -/
noncomputable def S_s_l17Sorted : SC := slimF Try.f105
noncomputable def lp_s_l17Sorted : Nat → Code := lpOf Try.f105
theorem dr_s_l17Sorted : drawsOK (codeOf Try.f105) = true := by kernel_rfl
theorem fn_s_l17Sorted {L n : Nat} {args : List A} {h : H} : evCall env L (n + 1) 105 args h = kCode env (evCall env L n) L h.length [] (true :: false :: true :: true :: true :: true :: false :: false :: false :: false :: false :: false :: false :: false :: false :: false :: false :: false :: false :: false :: false :: false :: false :: false :: false :: false :: false :: false :: false :: false :: false :: false :: false :: false :: false :: false :: false :: false :: false :: false :: false :: false :: false :: false :: false :: false :: false :: false :: []) lp_s_l17Sorted S_s_l17Sorted (args ++ List.replicate (Try.f105.ntmps - args.length) (.d .undef)) h (kFin env.P h.length false [.tmp 2]) :=
  fn_eq2 (mode := 2) (by kernel_rfl) Try.func105 (by kernel_rfl) (by kernel_rfl) dr_s_l17Sorted (by kernel_rfl) (by kernel_rfl)
noncomputable def S_s_l17Sorted_0 : SC := slimL Try.f105 0
theorem step_s_l17Sorted_0 {R : Type} {call : CallF} {L nf n : Nat} {thaw : List Nat} {live m : List Bool} {s : List A} {h : H} {k : Exit → List A → H → Option R} : kLoop env call L nf thaw live (lp_s_l17Sorted 0) m (n + 1) s h k = kCode env call L nf thaw live lp_s_l17Sorted S_s_l17Sorted_0 s h (kNext env call L nf thaw live (lp_s_l17Sorted 0) m n k) :=
  kLoop_step dr_s_l17Sorted (by kernel_rfl)
noncomputable def S_s_l17Sorted_1 : SC := slimL Try.f105 1
theorem step_s_l17Sorted_1 {R : Type} {call : CallF} {L nf n : Nat} {thaw : List Nat} {live m : List Bool} {s : List A} {h : H} {k : Exit → List A → H → Option R} : kLoop env call L nf thaw live (lp_s_l17Sorted 1) m (n + 1) s h k = kCode env call L nf thaw live lp_s_l17Sorted S_s_l17Sorted_1 s h (kNext env call L nf thaw live (lp_s_l17Sorted 1) m n k) :=
  kLoop_step dr_s_l17Sorted (by kernel_rfl)

/-! slices_Insert_i_Edge_i_Edge -/
noncomputable def S_slices_Insert_i_Edge_i_Edge : SC := slimF Try.f106
noncomputable def lp_slices_Insert_i_Edge_i_Edge : Nat → Code := lpOf Try.f106
theorem dr_slices_Insert_i_Edge_i_Edge : drawsOK (codeOf Try.f106) = true := by kernel_rfl
theorem fn_slices_Insert_i_Edge_i_Edge {L n : Nat} {args : List A} {h : H} : evCall env L (n + 1) 106 args h = kCode env (evCall env L n) L h.length [] ([]) lp_slices_Insert_i_Edge_i_Edge S_slices_Insert_i_Edge_i_Edge (args ++ List.replicate (Try.f106.ntmps - args.length) (.d .undef)) h (kFin env.P h.length true [.tmp 6]) :=
  fn_eq2 (mode := 0) (by kernel_rfl) Try.func106 (by kernel_rfl) (by kernel_rfl) dr_slices_Insert_i_Edge_i_Edge (by kernel_rfl) (by kernel_rfl)

/-! s_l2Any -/
noncomputable def S_s_l2Any : SC := slimF Try.f107
noncomputable def lp_s_l2Any : Nat → Code := lpOf Try.f107
theorem dr_s_l2Any : drawsOK (codeOf Try.f107) = true := by kernel_rfl
theorem fn_s_l2Any {L n : Nat} {args : List A} {h : H} : evCall env L (n + 1) 107 args h = kCode env (evCall env L n) L h.length [] ([]) lp_s_l2Any S_s_l2Any (args ++ List.replicate (Try.f107.ntmps - args.length) (.d .undef)) h (kFin env.P h.length false Try.f107.results.toList) :=
  fn_eq2 (mode := 0) (by kernel_rfl) Try.func107 (by kernel_rfl) (by kernel_rfl) dr_s_l2Any (by kernel_rfl) (by kernel_rfl)

/-! s_l17Edge -/
noncomputable def S_s_l17Edge : SC := slimF Try.f108
noncomputable def lp_s_l17Edge : Nat → Code := lpOf Try.f108
theorem dr_s_l17Edge : drawsOK (codeOf Try.f108) = true := by kernel_rfl
theorem fn_s_l17Edge {L n : Nat} {args : List A} {h : H} : evCall env L (n + 1) 108 args h = kCode env (evCall env L n) L h.length [] ([]) lp_s_l17Edge S_s_l17Edge (args ++ List.replicate (Try.f108.ntmps - args.length) (.d .undef)) h (kFin env.P h.length false Try.f108.results.toList) :=
  fn_eq2 (mode := 0) (by kernel_rfl) Try.func108 (by kernel_rfl) (by kernel_rfl) dr_s_l17Edge (by kernel_rfl) (by kernel_rfl)

/-! i_isState -/
noncomputable def S_i_isState : SC := slimF Try.f109
noncomputable def lp_i_isState : Nat → Code := lpOf Try.f109
theorem dr_i_isState : drawsOK (codeOf Try.f109) = true := by kernel_rfl
theorem fn_i_isState {L n : Nat} {args : List A} {h : H} : evCall env L (n + 1) 109 args h = kCode env (evCall env L n) L h.length [] ([]) lp_i_isState S_i_isState (args ++ List.replicate (Try.f109.ntmps - args.length) (.d .undef)) h (kFin env.P h.length false [.tmp 4]) :=
  fn_eq2 (mode := 1) (by kernel_rfl) Try.func109 (by kernel_rfl) (by kernel_rfl) dr_i_isState (by kernel_rfl) (by kernel_rfl)

/-! s_l3Any -/
noncomputable def S_s_l3Any : SC := slimF Try.f110
noncomputable def lp_s_l3Any : Nat → Code := lpOf Try.f110
theorem dr_s_l3Any : drawsOK (codeOf Try.f110) = true := by kernel_rfl
theorem fn_s_l3Any {L n : Nat} {args : List A} {h : H} : evCall env L (n + 1) 110 args h = kCode env (evCall env L n) L h.length [] ([]) lp_s_l3Any S_s_l3Any (args ++ List.replicate (Try.f110.ntmps - args.length) (.d .undef)) h (kFin env.P h.length false Try.f110.results.toList) :=
  fn_eq2 (mode := 0) (by kernel_rfl) Try.func110 (by kernel_rfl) (by kernel_rfl) dr_s_l3Any (by kernel_rfl) (by kernel_rfl)

/-! agBools -/
noncomputable def S_agBools : SC := slimF Try.f111
noncomputable def lp_agBools : Nat → Code := lpOf Try.f111
theorem dr_agBools : drawsOK (codeOf Try.f111) = true := by kernel_rfl
theorem fn_agBools {L n : Nat} {args : List A} {h : H} : evCall env L (n + 1) 111 args h = kCode env (evCall env L n) L h.length [] (true :: true :: false :: false :: true :: true :: false :: false :: false :: false :: false :: false :: false :: false :: false :: false :: false :: false :: false :: false :: false :: false :: false :: false :: false :: false :: []) lp_agBools S_agBools (args ++ List.replicate (Try.f111.ntmps - args.length) (.d .undef)) h (kFin env.P h.length false [.tmp 4]) :=
  fn_eq2 (mode := 1) (by kernel_rfl) Try.func111 (by kernel_rfl) (by kernel_rfl) dr_agBools (by kernel_rfl) (by kernel_rfl)
noncomputable def S_agBools_0 : SC := slimL Try.f111 0
theorem step_agBools_0 {R : Type} {call : CallF} {L nf n : Nat} {thaw : List Nat} {live m : List Bool} {s : List A} {h : H} {k : Exit → List A → H → Option R} : kLoop env call L nf thaw live (lp_agBools 0) m (n + 1) s h k = kCode env call L nf thaw live lp_agBools S_agBools_0 s h (kNext env call L nf thaw live (lp_agBools 0) m n k) :=
  kLoop_step dr_agBools (by kernel_rfl)

/-! agInts -/
noncomputable def S_agInts : SC := slimF Try.f112
noncomputable def lp_agInts : Nat → Code := lpOf Try.f112
theorem dr_agInts : drawsOK (codeOf Try.f112) = true := by kernel_rfl
theorem fn_agInts {L n : Nat} {args : List A} {h : H} : evCall env L (n + 1) 112 args h = kCode env (evCall env L n) L h.length [] (true :: true :: false :: false :: true :: true :: false :: false :: false :: false :: false :: false :: false :: false :: false :: false :: false :: false :: false :: false :: false :: false :: false :: false :: false :: false :: []) lp_agInts S_agInts (args ++ List.replicate (Try.f112.ntmps - args.length) (.d .undef)) h (kFin env.P h.length false [.tmp 4]) :=
  fn_eq2 (mode := 1) (by kernel_rfl) Try.func112 (by kernel_rfl) (by kernel_rfl) dr_agInts (by kernel_rfl) (by kernel_rfl)
noncomputable def S_agInts_0 : SC := slimL Try.f112 0
theorem step_agInts_0 {R : Type} {call : CallF} {L nf n : Nat} {thaw : List Nat} {live m : List Bool} {s : List A} {h : H} {k : Exit → List A → H → Option R} : kLoop env call L nf thaw live (lp_agInts 0) m (n + 1) s h k = kCode env call L nf thaw live lp_agInts S_agInts_0 s h (kNext env call L nf thaw live (lp_agInts 0) m n k) :=
  kLoop_step dr_agInts (by kernel_rfl)

/-! slices_Reverse_byte_byte -/
noncomputable def S_slices_Reverse_byte_byte : SC := slimF Try.f113
noncomputable def lp_slices_Reverse_byte_byte : Nat → Code := lpOf Try.f113
theorem dr_slices_Reverse_byte_byte : drawsOK (codeOf Try.f113) = true := by kernel_rfl
theorem fn_slices_Reverse_byte_byte {L n : Nat} {args : List A} {h : H} : evCall env L (n + 1) 113 args h = kCode env (evCall env L n) L h.length [] (true :: false :: true :: true :: false :: false :: false :: false :: false :: false :: false :: false :: false :: false :: false :: false :: false :: false :: false :: false :: false :: false :: false :: false :: false :: false :: false :: false :: []) lp_slices_Reverse_byte_byte S_slices_Reverse_byte_byte (args ++ List.replicate (Try.f113.ntmps - args.length) (.d .undef)) h (kFin env.P h.length false []) :=
  fn_eq2 (mode := 0) (by kernel_rfl) Try.func113 (by kernel_rfl) (by kernel_rfl) dr_slices_Reverse_byte_byte (by kernel_rfl) (by kernel_rfl)
noncomputable def S_slices_Reverse_byte_byte_0 : SC := slimL Try.f113 0
theorem step_slices_Reverse_byte_byte_0 {R : Type} {call : CallF} {L nf n : Nat} {thaw : List Nat} {live m : List Bool} {s : List A} {h : H} {k : Exit → List A → H → Option R} : kLoop env call L nf thaw live (lp_slices_Reverse_byte_byte 0) m (n + 1) s h k = kCode env call L nf thaw live lp_slices_Reverse_byte_byte S_slices_Reverse_byte_byte_0 s h (kNext env call L nf thaw live (lp_slices_Reverse_byte_byte 0) m n k) :=
  kLoop_step dr_slices_Reverse_byte_byte (by kernel_rfl)

/-! s_SplitStates -/
noncomputable def S_s_SplitStates : SC := slimF Try.f114
noncomputable def lp_s_SplitStates : Nat → Code := lpOf Try.f114
theorem dr_s_SplitStates : drawsOK (codeOf Try.f114) = true := by kernel_rfl
theorem fn_s_SplitStates {L n : Nat} {args : List A} {h : H} : evCall env L (n + 1) 114 args h = kCode env (evCall env L n) L h.length [] ([]) lp_s_SplitStates S_s_SplitStates (args ++ List.replicate (Try.f114.ntmps - args.length) (.d .undef)) h (kFin env.P h.length false [.tmp 6, .tmp 7]) :=
  fn_eq2 (mode := 1) (by kernel_rfl) Try.func114 (by kernel_rfl) (by kernel_rfl) dr_s_SplitStates (by kernel_rfl) (by kernel_rfl)

/-! s_l10In -/
noncomputable def S_s_l10In : SC := slimF Try.f115
noncomputable def lp_s_l10In : Nat → Code := lpOf Try.f115
theorem dr_s_l10In : drawsOK (codeOf Try.f115) = true := by kernel_rfl
theorem fn_s_l10In {L n : Nat} {args : List A} {h : H} : evCall env L (n + 1) 115 args h = kCode env (evCall env L n) L h.length [] (true :: true :: false :: false :: true :: true :: false :: false :: false :: false :: false :: false :: false :: false :: false :: false :: false :: false :: []) lp_s_l10In S_s_l10In (args ++ List.replicate (Try.f115.ntmps - args.length) (.d .undef)) h (kFin env.P h.length false [.tmp 4]) :=
  fn_eq2 (mode := 1) (by kernel_rfl) Try.func115 (by kernel_rfl) (by kernel_rfl) dr_s_l10In (by kernel_rfl) (by kernel_rfl)
noncomputable def S_s_l10In_0 : SC := slimL Try.f115 0
theorem step_s_l10In_0 {R : Type} {call : CallF} {L nf n : Nat} {thaw : List Nat} {live m : List Bool} {s : List A} {h : H} {k : Exit → List A → H → Option R} : kLoop env call L nf thaw live (lp_s_l10In 0) m (n + 1) s h k = kCode env call L nf thaw live lp_s_l10In S_s_l10In_0 s h (kNext env call L nf thaw live (lp_s_l10In 0) m n k) :=
  kLoop_step dr_s_l10In (by kernel_rfl)

/-! i_SplitStates -/
noncomputable def S_i_SplitStates : SC := slimF Try.f116
noncomputable def lp_i_SplitStates : Nat → Code := lpOf Try.f116
theorem dr_i_SplitStates : drawsOK (codeOf Try.f116) = true := by kernel_rfl
theorem fn_i_SplitStates {L n : Nat} {args : List A} {h : H} : evCall env L (n + 1) 116 args h = kCode env (evCall env L n) L h.length [] ([]) lp_i_SplitStates S_i_SplitStates (args ++ List.replicate (Try.f116.ntmps - args.length) (.d .undef)) h (kFin env.P h.length false [.tmp 6, .tmp 7]) :=
  fn_eq2 (mode := 1) (by kernel_rfl) Try.func116 (by kernel_rfl) (by kernel_rfl) dr_i_SplitStates (by kernel_rfl) (by kernel_rfl)

/-! slices_Contains_string_string -/
noncomputable def S_slices_Contains_string_string : SC := slimF Try.f117
noncomputable def lp_slices_Contains_string_string : Nat → Code := lpOf Try.f117
theorem dr_slices_Contains_string_string : drawsOK (codeOf Try.f117) = true := by kernel_rfl
theorem fn_slices_Contains_string_string {L n : Nat} {args : List A} {h : H} : evCall env L (n + 1) 117 args h = kCode env (evCall env L n) L h.length [] ([]) lp_slices_Contains_string_string S_slices_Contains_string_string (args ++ List.replicate (Try.f117.ntmps - args.length) (.d .undef)) h (kFin env.P h.length false [.tmp 4]) :=
  fn_eq2 (mode := 1) (by kernel_rfl) Try.func117 (by kernel_rfl) (by kernel_rfl) dr_slices_Contains_string_string (by kernel_rfl) (by kernel_rfl)

/-! markText -/
noncomputable def S_markText : SC := slimF Try.f118
noncomputable def lp_markText : Nat → Code := lpOf Try.f118
theorem dr_markText : drawsOK (codeOf Try.f118) = true := by kernel_rfl
theorem fn_markText {L n : Nat} {args : List A} {h : H} : evCall env L (n + 1) 118 args h = kCode env (evCall env L n) L h.length [] (true :: false :: true :: true :: false :: false :: false :: false :: false :: false :: false :: false :: false :: false :: false :: false :: false :: false :: false :: false :: []) lp_markText S_markText (args ++ List.replicate (Try.f118.ntmps - args.length) (.d .undef)) h (kFin env.P h.length false [.tmp 2]) :=
  fn_eq2 (mode := 1) (by kernel_rfl) Try.func118 (by kernel_rfl) (by kernel_rfl) dr_markText (by kernel_rfl) (by kernel_rfl)
noncomputable def S_markText_0 : SC := slimL Try.f118 0
theorem step_markText_0 {R : Type} {call : CallF} {L nf n : Nat} {thaw : List Nat} {live m : List Bool} {s : List A} {h : H} {k : Exit → List A → H → Option R} : kLoop env call L nf thaw live (lp_markText 0) m (n + 1) s h k = kCode env call L nf thaw live lp_markText S_markText_0 s h (kNext env call L nf thaw live (lp_markText 0) m n k) :=
  kLoop_step dr_markText (by kernel_rfl)

/-! slices_SortFunc_i_Edge_i_Edge -/
noncomputable def S_slices_SortFunc_i_Edge_i_Edge : SC := slimF Try.f119
noncomputable def lp_slices_SortFunc_i_Edge_i_Edge : Nat → Code := lpOf Try.f119
theorem dr_slices_SortFunc_i_Edge_i_Edge : drawsOK (codeOf Try.f119) = true := by kernel_rfl
theorem fn_slices_SortFunc_i_Edge_i_Edge {L n : Nat} {args : List A} {h : H} : evCall env L (n + 1) 119 args h = kCode env (evCall env L n) L h.length [] ([]) lp_slices_SortFunc_i_Edge_i_Edge S_slices_SortFunc_i_Edge_i_Edge (args ++ List.replicate (Try.f119.ntmps - args.length) (.d .undef)) h (kFin env.P h.length false []) :=
  fn_eq2 (mode := 0) (by kernel_rfl) Try.func119 (by kernel_rfl) (by kernel_rfl) dr_slices_SortFunc_i_Edge_i_Edge (by kernel_rfl) (by kernel_rfl)

/-! s_l19Rd_pick -/
noncomputable def S_s_l19Rd_pick : SC := slimF Try.f120
noncomputable def lp_s_l19Rd_pick : Nat → Code := lpOf Try.f120
theorem dr_s_l19Rd_pick : drawsOK (codeOf Try.f120) = true := by kernel_rfl
theorem fn_s_l19Rd_pick {L n : Nat} {args : List A} {h : H} : evCall env L (n + 1) 120 args h = kCode env (evCall env L n) L h.length [] ([]) lp_s_l19Rd_pick S_s_l19Rd_pick (args ++ List.replicate (Try.f120.ntmps - args.length) (.d .undef)) h (kFin env.P h.length false [.tmp 4]) :=
  fn_eq2 (mode := 0) (by kernel_rfl) Try.func120 (by kernel_rfl) (by kernel_rfl) dr_s_l19Rd_pick (by kernel_rfl) (by kernel_rfl)

/-! s_l19Rd_of -/
noncomputable def S_s_l19Rd_of : SC := slimF Try.f121
noncomputable def lp_s_l19Rd_of : Nat → Code := lpOf Try.f121
theorem dr_s_l19Rd_of : drawsOK (codeOf Try.f121) = true := by kernel_rfl
theorem fn_s_l19Rd_of {L n : Nat} {args : List A} {h : H} : evCall env L (n + 1) 121 args h = kCode env (evCall env L n) L h.length [] ([]) lp_s_l19Rd_of S_s_l19Rd_of (args ++ List.replicate (Try.f121.ntmps - args.length) (.d .undef)) h (kFin env.P h.length false [.tmp 4]) :=
  fn_eq2 (mode := 0) (by kernel_rfl) Try.func121 (by kernel_rfl) (by kernel_rfl) dr_s_l19Rd_of (by kernel_rfl) (by kernel_rfl)

/-! s_l19Many -/
noncomputable def S_s_l19Many : SC := slimF Try.f122
noncomputable def lp_s_l19Many : Nat → Code := lpOf Try.f122
theorem dr_s_l19Many : drawsOK (codeOf Try.f122) = true := by kernel_rfl
theorem fn_s_l19Many {L n : Nat} {args : List A} {h : H} : evCall env L (n + 1) 122 args h = kCode env (evCall env L n) L h.length [] (true :: true :: false :: false :: true :: true :: false :: false :: false :: false :: false :: false :: false :: false :: false :: false :: false :: false :: false :: false :: []) lp_s_l19Many S_s_l19Many (args ++ List.replicate (Try.f122.ntmps - args.length) (.d .undef)) h (kFin env.P h.length false [.tmp 4]) :=
  fn_eq2 (mode := 1) (by kernel_rfl) Try.func122 (by kernel_rfl) (by kernel_rfl) dr_s_l19Many (by kernel_rfl) (by kernel_rfl)
noncomputable def S_s_l19Many_0 : SC := slimL Try.f122 0
theorem step_s_l19Many_0 {R : Type} {call : CallF} {L nf n : Nat} {thaw : List Nat} {live m : List Bool} {s : List A} {h : H} {k : Exit → List A → H → Option R} : kLoop env call L nf thaw live (lp_s_l19Many 0) m (n + 1) s h k = kCode env call L nf thaw live lp_s_l19Many S_s_l19Many_0 s h (kNext env call L nf thaw live (lp_s_l19Many 0) m n k) :=
  kLoop_step dr_s_l19Many (by kernel_rfl)

/-! s_l19Rd_num -/
noncomputable def S_s_l19Rd_num : SC := slimF Try.f123
noncomputable def lp_s_l19Rd_num : Nat → Code := lpOf Try.f123
theorem dr_s_l19Rd_num : drawsOK (codeOf Try.f123) = true := by kernel_rfl
theorem fn_s_l19Rd_num {L n : Nat} {args : List A} {h : H} : evCall env L (n + 1) 123 args h = kCode env (evCall env L n) L h.length [] ([]) lp_s_l19Rd_num S_s_l19Rd_num (args ++ List.replicate (Try.f123.ntmps - args.length) (.d .undef)) h (kFin env.P h.length false [.tmp 4]) :=
  fn_eq2 (mode := 0) (by kernel_rfl) Try.func123 (by kernel_rfl) (by kernel_rfl) dr_s_l19Rd_num (by kernel_rfl) (by kernel_rfl)

/-! s_l1Text -/
noncomputable def S_s_l1Text : SC := slimF Try.f124
noncomputable def lp_s_l1Text : Nat → Code := lpOf Try.f124
theorem dr_s_l1Text : drawsOK (codeOf Try.f124) = true := by kernel_rfl
theorem fn_s_l1Text {L n : Nat} {args : List A} {h : H} : evCall env L (n + 1) 124 args h = kCode env (evCall env L n) L h.length [] ([]) lp_s_l1Text S_s_l1Text (args ++ List.replicate (Try.f124.ntmps - args.length) (.d .undef)) h (kFin env.P h.length false [.tmp 2]) :=
  fn_eq2 (mode := 1) (by kernel_rfl) Try.func124 (by kernel_rfl) (by kernel_rfl) dr_s_l1Text (by kernel_rfl) (by kernel_rfl)

/-! s_l2Before -/
noncomputable def S_s_l2Before : SC := slimF Try.f125
noncomputable def lp_s_l2Before : Nat → Code := lpOf Try.f125
theorem dr_s_l2Before : drawsOK (codeOf Try.f125) = true := by kernel_rfl
theorem fn_s_l2Before {L n : Nat} {args : List A} {h : H} : evCall env L (n + 1) 125 args h = kCode env (evCall env L n) L h.length [] ([]) lp_s_l2Before S_s_l2Before (args ++ List.replicate (Try.f125.ntmps - args.length) (.d .undef)) h (kFin env.P h.length false [.tmp 4]) :=
  fn_eq2 (mode := 1) (by kernel_rfl) Try.func125 (by kernel_rfl) (by kernel_rfl) dr_s_l2Before (by kernel_rfl) (by kernel_rfl)

/-! cmp_Or_int -/
noncomputable def S_cmp_Or_int : SC := slimF Try.f126
noncomputable def lp_cmp_Or_int : Nat → Code := lpOf Try.f126
theorem dr_cmp_Or_int : drawsOK (codeOf Try.f126) = true := by kernel_rfl
theorem fn_cmp_Or_int {L n : Nat} {args : List A} {h : H} : evCall env L (n + 1) 126 args h = kCode env (evCall env L n) L h.length [] (false :: false :: true :: true :: false :: false :: true :: true :: true :: false :: false :: false :: false :: false :: false :: false :: false :: false :: []) lp_cmp_Or_int S_cmp_Or_int (args ++ List.replicate (Try.f126.ntmps - args.length) (.d .undef)) h (kFin env.P h.length false [.tmp 2]) :=
  fn_eq2 (mode := 1) (by kernel_rfl) Try.func126 (by kernel_rfl) (by kernel_rfl) dr_cmp_Or_int (by kernel_rfl) (by kernel_rfl)
noncomputable def S_cmp_Or_int_0 : SC := slimL Try.f126 0
theorem step_cmp_Or_int_0 {R : Type} {call : CallF} {L nf n : Nat} {thaw : List Nat} {live m : List Bool} {s : List A} {h : H} {k : Exit → List A → H → Option R} : kLoop env call L nf thaw live (lp_cmp_Or_int 0) m (n + 1) s h k = kCode env call L nf thaw live lp_cmp_Or_int S_cmp_Or_int_0 s h (kNext env call L nf thaw live (lp_cmp_Or_int 0) m n k) :=
  kLoop_step dr_cmp_Or_int (by kernel_rfl)

/-! cmp_Compare_int -/
noncomputable def S_cmp_Compare_int : SC := slimF Try.f127
noncomputable def lp_cmp_Compare_int : Nat → Code := lpOf Try.f127
theorem dr_cmp_Compare_int : drawsOK (codeOf Try.f127) = true := by kernel_rfl
theorem fn_cmp_Compare_int {L n : Nat} {args : List A} {h : H} : evCall env L (n + 1) 127 args h = kCode env (evCall env L n) L h.length [] ([]) lp_cmp_Compare_int S_cmp_Compare_int (args ++ List.replicate (Try.f127.ntmps - args.length) (.d .undef)) h (kFin env.P h.length false [.tmp 4]) :=
  fn_eq2 (mode := 1) (by kernel_rfl) Try.func127 (by kernel_rfl) (by kernel_rfl) dr_cmp_Compare_int (by kernel_rfl) (by kernel_rfl)

/-! eqEdge -/
noncomputable def S_eqEdge : SC := slimF Try.f128
noncomputable def lp_eqEdge : Nat → Code := lpOf Try.f128
theorem dr_eqEdge : drawsOK (codeOf Try.f128) = true := by kernel_rfl
theorem fn_eqEdge {L n : Nat} {args : List A} {h : H} : evCall env L (n + 1) 128 args h = kCode env (evCall env L n) L h.length [] ([]) lp_eqEdge S_eqEdge (args ++ List.replicate (Try.f128.ntmps - args.length) (.d .undef)) h (kFin env.P h.length false [.tmp 4]) :=
  fn_eq2 (mode := 1) (by kernel_rfl) Try.func128 (by kernel_rfl) (by kernel_rfl) dr_eqEdge (by kernel_rfl) (by kernel_rfl)

/-! szIntS -/
noncomputable def S_szIntS : SC := slimF Try.f129
noncomputable def lp_szIntS : Nat → Code := lpOf Try.f129
theorem dr_szIntS : drawsOK (codeOf Try.f129) = true := by kernel_rfl
theorem fn_szIntS {L n : Nat} {args : List A} {h : H} : evCall env L (n + 1) 129 args h = kCode env (evCall env L n) L h.length [] ([]) lp_szIntS S_szIntS (args ++ List.replicate (Try.f129.ntmps - args.length) (.d .undef)) h (kFin env.P h.length false [.tmp 4]) :=
  fn_eq2 (mode := 1) (by kernel_rfl) Try.func129 (by kernel_rfl) (by kernel_rfl) dr_szIntS (by kernel_rfl) (by kernel_rfl)

/-! s_l3Row -/
noncomputable def S_s_l3Row : SC := slimF Try.f130
noncomputable def lp_s_l3Row : Nat → Code := lpOf Try.f130
theorem dr_s_l3Row : drawsOK (codeOf Try.f130) = true := by kernel_rfl
theorem fn_s_l3Row {L n : Nat} {args : List A} {h : H} : evCall env L (n + 1) 130 args h = kCode env (evCall env L n) L h.length [] (true :: false :: true :: false :: false :: false :: true :: true :: false :: false :: false :: false :: false :: false :: false :: false :: false :: false :: false :: false :: false :: false :: false :: false :: false :: false :: false :: false :: false :: false :: false :: []) lp_s_l3Row S_s_l3Row (args ++ List.replicate (Try.f130.ntmps - args.length) (.d .undef)) h (kFin env.P h.length false [.tmp 6]) :=
  fn_eq2 (mode := 1) (by kernel_rfl) Try.func130 (by kernel_rfl) (by kernel_rfl) dr_s_l3Row (by kernel_rfl) (by kernel_rfl)
noncomputable def S_s_l3Row_0 : SC := slimL Try.f130 0
theorem step_s_l3Row_0 {R : Type} {call : CallF} {L nf n : Nat} {thaw : List Nat} {live m : List Bool} {s : List A} {h : H} {k : Exit → List A → H → Option R} : kLoop env call L nf thaw live (lp_s_l3Row 0) m (n + 1) s h k = kCode env call L nf thaw live lp_s_l3Row S_s_l3Row_0 s h (kNext env call L nf thaw live (lp_s_l3Row 0) m n k) :=
  kLoop_step dr_s_l3Row (by kernel_rfl)

/-! s_l1Place -/
noncomputable def S_s_l1Place : SC := slimF Try.f131
noncomputable def lp_s_l1Place : Nat → Code := lpOf Try.f131
theorem dr_s_l1Place : drawsOK (codeOf Try.f131) = true := by kernel_rfl
theorem fn_s_l1Place {L n : Nat} {args : List A} {h : H} : evCall env L (n + 1) 131 args h = kCode env (evCall env L n) L h.length [] (true :: true :: false :: false :: true :: true :: true :: false :: false :: false :: false :: false :: false :: false :: false :: false :: false :: false :: []) lp_s_l1Place S_s_l1Place (args ++ List.replicate (Try.f131.ntmps - args.length) (.d .undef)) h (kFin env.P h.length false [.tmp 4]) :=
  fn_eq2 (mode := 1) (by kernel_rfl) Try.func131 (by kernel_rfl) (by kernel_rfl) dr_s_l1Place (by kernel_rfl) (by kernel_rfl)
noncomputable def S_s_l1Place_0 : SC := slimL Try.f131 0
theorem step_s_l1Place_0 {R : Type} {call : CallF} {L nf n : Nat} {thaw : List Nat} {live m : List Bool} {s : List A} {h : H} {k : Exit → List A → H → Option R} : kLoop env call L nf thaw live (lp_s_l1Place 0) m (n + 1) s h k = kCode env call L nf thaw live lp_s_l1Place S_s_l1Place_0 s h (kNext env call L nf thaw live (lp_s_l1Place 0) m n k) :=
  kLoop_step dr_s_l1Place (by kernel_rfl)

/-! toIntS -/
noncomputable def S_toIntS : SC := slimF Try.f132
noncomputable def lp_toIntS : Nat → Code := lpOf Try.f132
theorem dr_toIntS : drawsOK (codeOf Try.f132) = true := by kernel_rfl
theorem fn_toIntS {L n : Nat} {args : List A} {h : H} : evCall env L (n + 1) 132 args h = kCode env (evCall env L n) L h.length [] (true :: false :: true :: true :: true :: false :: false :: false :: false :: false :: false :: false :: false :: false :: false :: false :: false :: false :: false :: false :: false :: false :: []) lp_toIntS S_toIntS (args ++ List.replicate (Try.f132.ntmps - args.length) (.d .undef)) h (kFin env.P h.length false [.tmp 2]) :=
  fn_eq2 (mode := 2) (by kernel_rfl) Try.func132 (by kernel_rfl) (by kernel_rfl) dr_toIntS (by kernel_rfl) (by kernel_rfl)
noncomputable def S_toIntS_0 : SC := slimL Try.f132 0
theorem step_toIntS_0 {R : Type} {call : CallF} {L nf n : Nat} {thaw : List Nat} {live m : List Bool} {s : List A} {h : H} {k : Exit → List A → H → Option R} : kLoop env call L nf thaw live (lp_toIntS 0) m (n + 1) s h k = kCode env call L nf thaw live lp_toIntS S_toIntS_0 s h (kNext env call L nf thaw live (lp_toIntS 0) m n k) :=
  kLoop_step dr_toIntS (by kernel_rfl)

/-! eqIntS -/
noncomputable def S_eqIntS : SC := slimF Try.f133
noncomputable def lp_eqIntS : Nat → Code := lpOf Try.f133
theorem dr_eqIntS : drawsOK (codeOf Try.f133) = true := by kernel_rfl
theorem fn_eqIntS {L n : Nat} {args : List A} {h : H} : evCall env L (n + 1) 133 args h = kCode env (evCall env L n) L h.length [] (true :: true :: false :: false :: true :: true :: false :: false :: false :: false :: false :: false :: false :: false :: false :: false :: false :: false :: false :: false :: false :: false :: false :: false :: false :: false :: []) lp_eqIntS S_eqIntS (args ++ List.replicate (Try.f133.ntmps - args.length) (.d .undef)) h (kFin env.P h.length false [.tmp 4]) :=
  fn_eq2 (mode := 1) (by kernel_rfl) Try.func133 (by kernel_rfl) (by kernel_rfl) dr_eqIntS (by kernel_rfl) (by kernel_rfl)
noncomputable def S_eqIntS_0 : SC := slimL Try.f133 0
theorem step_eqIntS_0 {R : Type} {call : CallF} {L nf n : Nat} {thaw : List Nat} {live m : List Bool} {s : List A} {h : H} {k : Exit → List A → H → Option R} : kLoop env call L nf thaw live (lp_eqIntS 0) m (n + 1) s h k = kCode env call L nf thaw live lp_eqIntS S_eqIntS_0 s h (kNext env call L nf thaw live (lp_eqIntS 0) m n k) :=
  kLoop_step dr_eqIntS (by kernel_rfl)

/-! markIntS -/
noncomputable def S_markIntS : SC := slimF Try.f134
noncomputable def lp_markIntS : Nat → Code := lpOf Try.f134
theorem dr_markIntS : drawsOK (codeOf Try.f134) = true := by kernel_rfl
theorem fn_markIntS {L n : Nat} {args : List A} {h : H} : evCall env L (n + 1) 134 args h = kCode env (evCall env L n) L h.length [] (true :: true :: false :: false :: true :: true :: false :: false :: false :: false :: false :: false :: false :: false :: false :: false :: false :: false :: false :: []) lp_markIntS S_markIntS (args ++ List.replicate (Try.f134.ntmps - args.length) (.d .undef)) h (kFin env.P h.length false [.tmp 4]) :=
  fn_eq2 (mode := 1) (by kernel_rfl) Try.func134 (by kernel_rfl) (by kernel_rfl) dr_markIntS (by kernel_rfl) (by kernel_rfl)
noncomputable def S_markIntS_0 : SC := slimL Try.f134 0
theorem step_markIntS_0 {R : Type} {call : CallF} {L nf n : Nat} {thaw : List Nat} {live m : List Bool} {s : List A} {h : H} {k : Exit → List A → H → Option R} : kLoop env call L nf thaw live (lp_markIntS 0) m (n + 1) s h k = kCode env call L nf thaw live lp_markIntS S_markIntS_0 s h (kNext env call L nf thaw live (lp_markIntS 0) m n k) :=
  kLoop_step dr_markIntS (by kernel_rfl)

/-! heldIntS -/
noncomputable def S_heldIntS : SC := slimF Try.f135
noncomputable def lp_heldIntS : Nat → Code := lpOf Try.f135
theorem dr_heldIntS : drawsOK (codeOf Try.f135) = true := by kernel_rfl
theorem fn_heldIntS {L n : Nat} {args : List A} {h : H} : evCall env L (n + 1) 135 args h = kCode env (evCall env L n) L h.length [] (true :: true :: false :: false :: true :: true :: false :: false :: false :: false :: false :: false :: false :: false :: false :: false :: false :: false :: false :: false :: false :: []) lp_heldIntS S_heldIntS (args ++ List.replicate (Try.f135.ntmps - args.length) (.d .undef)) h (kFin env.P h.length false [.tmp 4]) :=
  fn_eq2 (mode := 1) (by kernel_rfl) Try.func135 (by kernel_rfl) (by kernel_rfl) dr_heldIntS (by kernel_rfl) (by kernel_rfl)
noncomputable def S_heldIntS_0 : SC := slimL Try.f135 0
theorem step_heldIntS_0 {R : Type} {call : CallF} {L nf n : Nat} {thaw : List Nat} {live m : List Bool} {s : List A} {h : H} {k : Exit → List A → H → Option R} : kLoop env call L nf thaw live (lp_heldIntS 0) m (n + 1) s h k = kCode env call L nf thaw live lp_heldIntS S_heldIntS_0 s h (kNext env call L nf thaw live (lp_heldIntS 0) m n k) :=
  kLoop_step dr_heldIntS (by kernel_rfl)

/-! slices_rotateRight_i_Edge -/
noncomputable def S_slices_rotateRight_i_Edge : SC := slimF Try.f137
noncomputable def lp_slices_rotateRight_i_Edge : Nat → Code := lpOf Try.f137
theorem dr_slices_rotateRight_i_Edge : drawsOK (codeOf Try.f137) = true := by kernel_rfl
theorem fn_slices_rotateRight_i_Edge {L n : Nat} {args : List A} {h : H} : evCall env L (n + 1) 137 args h = kCode env (evCall env L n) L h.length [] ([]) lp_slices_rotateRight_i_Edge S_slices_rotateRight_i_Edge (args ++ List.replicate (Try.f137.ntmps - args.length) (.d .undef)) h (kFin env.P h.length false []) :=
  fn_eq2 (mode := 1) (by kernel_rfl) Try.func137 (by kernel_rfl) (by kernel_rfl) dr_slices_rotateRight_i_Edge (by kernel_rfl) (by kernel_rfl)

/-! s_l2Big -/
noncomputable def S_s_l2Big : SC := slimF Try.f138
noncomputable def lp_s_l2Big : Nat → Code := lpOf Try.f138
theorem dr_s_l2Big : drawsOK (codeOf Try.f138) = true := by kernel_rfl
theorem fn_s_l2Big {L n : Nat} {args : List A} {h : H} : evCall env L (n + 1) 138 args h = kCode env (evCall env L n) L h.length [] (true :: false :: true :: true :: true :: false :: false :: false :: false :: false :: false :: false :: false :: false :: false :: false :: false :: false :: false :: false :: false :: false :: false :: false :: false :: false :: false :: false :: false :: false :: false :: false :: false :: false :: false :: false :: false :: false :: false :: []) lp_s_l2Big S_s_l2Big (args ++ List.replicate (Try.f138.ntmps - args.length) (.d .undef)) h (kFin env.P h.length false Try.f138.results.toList) :=
  fn_eq2 (mode := 0) (by kernel_rfl) Try.func138 (by kernel_rfl) (by kernel_rfl) dr_s_l2Big (by kernel_rfl) (by kernel_rfl)
noncomputable def S_s_l2Big_0 : SC := slimL Try.f138 0
theorem step_s_l2Big_0 {R : Type} {call : CallF} {L nf n : Nat} {thaw : List Nat} {live m : List Bool} {s : List A} {h : H} {k : Exit → List A → H → Option R} : kLoop env call L nf thaw live (lp_s_l2Big 0) m (n + 1) s h k = kCode env call L nf thaw live lp_s_l2Big S_s_l2Big_0 s h (kNext env call L nf thaw live (lp_s_l2Big 0) m n k) :=
  kLoop_step dr_s_l2Big (by kernel_rfl)

/-! s_l2Wrong -/
noncomputable def S_s_l2Wrong : SC := slimF Try.f139
noncomputable def lp_s_l2Wrong : Nat → Code := lpOf Try.f139
theorem dr_s_l2Wrong : drawsOK (codeOf Try.f139) = true := by kernel_rfl
theorem fn_s_l2Wrong {L n : Nat} {args : List A} {h : H} : evCall env L (n + 1) 139 args h = kCode env (evCall env L n) L h.length [] ([]) lp_s_l2Wrong S_s_l2Wrong (args ++ List.replicate (Try.f139.ntmps - args.length) (.d .undef)) h (kFin env.P h.length false Try.f139.results.toList) :=
  fn_eq2 (mode := 0) (by kernel_rfl) Try.func139 (by kernel_rfl) (by kernel_rfl) dr_s_l2Wrong (by kernel_rfl) (by kernel_rfl)

/-! s_l2Draw -/
noncomputable def S_s_l2Draw : SC := slimF Try.f140
noncomputable def lp_s_l2Draw : Nat → Code := lpOf Try.f140
theorem dr_s_l2Draw : drawsOK (codeOf Try.f140) = true := by kernel_rfl
theorem fn_s_l2Draw {L n : Nat} {args : List A} {h : H} : evCall env L (n + 1) 140 args h = kCode env (evCall env L n) L h.length [] ([]) lp_s_l2Draw S_s_l2Draw (args ++ List.replicate (Try.f140.ntmps - args.length) (.d .undef)) h (kFin env.P h.length false Try.f140.results.toList) :=
  fn_eq2 (mode := 0) (by kernel_rfl) Try.func140 (by kernel_rfl) (by kernel_rfl) dr_s_l2Draw (by kernel_rfl) (by kernel_rfl)

/-! s_l3Big -/
noncomputable def S_s_l3Big : SC := slimF Try.f141
noncomputable def lp_s_l3Big : Nat → Code := lpOf Try.f141
theorem dr_s_l3Big : drawsOK (codeOf Try.f141) = true := by kernel_rfl
theorem fn_s_l3Big {L n : Nat} {args : List A} {h : H} : evCall env L (n + 1) 141 args h = kCode env (evCall env L n) L h.length [] (true :: false :: true :: true :: true :: false :: false :: false :: false :: false :: false :: false :: false :: false :: false :: false :: false :: false :: false :: false :: false :: false :: false :: false :: false :: false :: false :: false :: false :: false :: false :: false :: false :: false :: false :: false :: []) lp_s_l3Big S_s_l3Big (args ++ List.replicate (Try.f141.ntmps - args.length) (.d .undef)) h (kFin env.P h.length false Try.f141.results.toList) :=
  fn_eq2 (mode := 0) (by kernel_rfl) Try.func141 (by kernel_rfl) (by kernel_rfl) dr_s_l3Big (by kernel_rfl) (by kernel_rfl)
noncomputable def S_s_l3Big_0 : SC := slimL Try.f141 0
theorem step_s_l3Big_0 {R : Type} {call : CallF} {L nf n : Nat} {thaw : List Nat} {live m : List Bool} {s : List A} {h : H} {k : Exit → List A → H → Option R} : kLoop env call L nf thaw live (lp_s_l3Big 0) m (n + 1) s h k = kCode env call L nf thaw live lp_s_l3Big S_s_l3Big_0 s h (kNext env call L nf thaw live (lp_s_l3Big 0) m n k) :=
  kLoop_step dr_s_l3Big (by kernel_rfl)

/-! s_l3Wrong -/
noncomputable def S_s_l3Wrong : SC := slimF Try.f142
noncomputable def lp_s_l3Wrong : Nat → Code := lpOf Try.f142
theorem dr_s_l3Wrong : drawsOK (codeOf Try.f142) = true := by kernel_rfl
theorem fn_s_l3Wrong {L n : Nat} {args : List A} {h : H} : evCall env L (n + 1) 142 args h = kCode env (evCall env L n) L h.length [] (false :: false :: false :: false :: true :: true :: true :: false :: false :: false :: false :: false :: false :: false :: false :: false :: false :: false :: false :: false :: false :: false :: false :: false :: false :: false :: false :: false :: false :: false :: false :: false :: false :: false :: false :: false :: false :: false :: false :: false :: false :: false :: false :: false :: false :: false :: false :: false :: false :: false :: false :: false :: false :: false :: false :: false :: false :: false :: false :: false :: false :: false :: false :: false :: false :: false :: false :: false :: false :: false :: false :: false :: false :: false :: false :: false :: false :: false :: false :: false :: false :: false :: false :: false :: false :: false :: false :: false :: false :: false :: false :: false :: false :: false :: false :: false :: false :: false :: false :: false :: false :: false :: false :: false :: false :: false :: false :: false :: false :: false :: false :: false :: false :: false :: []) lp_s_l3Wrong S_s_l3Wrong (args ++ List.replicate (Try.f142.ntmps - args.length) (.d .undef)) h (kFin env.P h.length false Try.f142.results.toList) :=
  fn_eq2 (mode := 0) (by kernel_rfl) Try.func142 (by kernel_rfl) (by kernel_rfl) dr_s_l3Wrong (by kernel_rfl) (by kernel_rfl)
noncomputable def S_s_l3Wrong_0 : SC := slimL Try.f142 0
theorem step_s_l3Wrong_0 {R : Type} {call : CallF} {L nf n : Nat} {thaw : List Nat} {live m : List Bool} {s : List A} {h : H} {k : Exit → List A → H → Option R} : kLoop env call L nf thaw live (lp_s_l3Wrong 0) m (n + 1) s h k = kCode env call L nf thaw live lp_s_l3Wrong S_s_l3Wrong_0 s h (kNext env call L nf thaw live (lp_s_l3Wrong 0) m n k) :=
  kLoop_step dr_s_l3Wrong (by kernel_rfl)

/-! s_l3Draw -/
noncomputable def S_s_l3Draw : SC := slimF Try.f143
noncomputable def lp_s_l3Draw : Nat → Code := lpOf Try.f143
theorem dr_s_l3Draw : drawsOK (codeOf Try.f143) = true := by kernel_rfl
theorem fn_s_l3Draw {L n : Nat} {args : List A} {h : H} : evCall env L (n + 1) 143 args h = kCode env (evCall env L n) L h.length [] ([]) lp_s_l3Draw S_s_l3Draw (args ++ List.replicate (Try.f143.ntmps - args.length) (.d .undef)) h (kFin env.P h.length false Try.f143.results.toList) :=
  fn_eq2 (mode := 0) (by kernel_rfl) Try.func143 (by kernel_rfl) (by kernel_rfl) dr_s_l3Draw (by kernel_rfl) (by kernel_rfl)

/-! s_l4Index -/
noncomputable def S_s_l4Index : SC := slimF Try.f144
noncomputable def lp_s_l4Index : Nat → Code := lpOf Try.f144
theorem dr_s_l4Index : drawsOK (codeOf Try.f144) = true := by kernel_rfl
theorem fn_s_l4Index {L n : Nat} {args : List A} {h : H} : evCall env L (n + 1) 144 args h = kCode env (evCall env L n) L h.length [] ([]) lp_s_l4Index S_s_l4Index (args ++ List.replicate (Try.f144.ntmps - args.length) (.d .undef)) h (kFin env.P h.length false [.tmp 4]) :=
  fn_eq2 (mode := 1) (by kernel_rfl) Try.func144 (by kernel_rfl) (by kernel_rfl) dr_s_l4Index (by kernel_rfl) (by kernel_rfl)

/-! s_l4First -/
noncomputable def S_s_l4First : SC := slimF Try.f145
noncomputable def lp_s_l4First : Nat → Code := lpOf Try.f145
theorem dr_s_l4First : drawsOK (codeOf Try.f145) = true := by kernel_rfl
theorem fn_s_l4First {L n : Nat} {args : List A} {h : H} : evCall env L (n + 1) 145 args h = kCode env (evCall env L n) L h.length [] (false :: true :: true :: true :: true :: true :: true :: true :: true :: true :: true :: true :: true :: true :: true :: true :: false :: false :: false :: false :: false :: false :: false :: false :: false :: false :: false :: false :: false :: false :: false :: false :: false :: false :: false :: false :: false :: false :: false :: false :: false :: false :: false :: false :: false :: false :: false :: false :: false :: false :: false :: false :: false :: false :: false :: false :: false :: false :: false :: false :: false :: false :: false :: false :: false :: false :: false :: false :: false :: false :: false :: false :: false :: false :: false :: false :: false :: false :: false :: false :: false :: false :: false :: false :: false :: false :: false :: false :: false :: false :: false :: false :: false :: false :: false :: false :: false :: false :: false :: false :: false :: false :: false :: false :: false :: false :: false :: []) lp_s_l4First S_s_l4First (args ++ List.replicate (Try.f145.ntmps - args.length) (.d .undef)) h (kFin env.P h.length false [.tmp 2, .tmp 3]) :=
  fn_eq2 (mode := 1) (by kernel_rfl) Try.func145 (by kernel_rfl) (by kernel_rfl) dr_s_l4First (by kernel_rfl) (by kernel_rfl)
noncomputable def S_s_l4First_0 : SC := slimL Try.f145 0
theorem step_s_l4First_0 {R : Type} {call : CallF} {L nf n : Nat} {thaw : List Nat} {live m : List Bool} {s : List A} {h : H} {k : Exit → List A → H → Option R} : kLoop env call L nf thaw live (lp_s_l4First 0) m (n + 1) s h k = kCode env call L nf thaw live lp_s_l4First S_s_l4First_0 s h (kNext env call L nf thaw live (lp_s_l4First 0) m n k) :=
  kLoop_step dr_s_l4First (by kernel_rfl)
noncomputable def S_s_l4First_1 : SC := slimL Try.f145 1
theorem step_s_l4First_1 {R : Type} {call : CallF} {L nf n : Nat} {thaw : List Nat} {live m : List Bool} {s : List A} {h : H} {k : Exit → List A → H → Option R} : kLoop env call L nf thaw live (lp_s_l4First 1) m (n + 1) s h k = kCode env call L nf thaw live lp_s_l4First S_s_l4First_1 s h (kNext env call L nf thaw live (lp_s_l4First 1) m n k) :=
  kLoop_step dr_s_l4First (by kernel_rfl)
noncomputable def S_s_l4First_2 : SC := slimL Try.f145 2
theorem step_s_l4First_2 {R : Type} {call : CallF} {L nf n : Nat} {thaw : List Nat} {live m : List Bool} {s : List A} {h : H} {k : Exit → List A → H → Option R} : kLoop env call L nf thaw live (lp_s_l4First 2) m (n + 1) s h k = kCode env call L nf thaw live lp_s_l4First S_s_l4First_2 s h (kNext env call L nf thaw live (lp_s_l4First 2) m n k) :=
  kLoop_step dr_s_l4First (by kernel_rfl)
noncomputable def S_s_l4First_3 : SC := slimL Try.f145 3
theorem step_s_l4First_3 {R : Type} {call : CallF} {L nf n : Nat} {thaw : List Nat} {live m : List Bool} {s : List A} {h : H} {k : Exit → List A → H → Option R} : kLoop env call L nf thaw live (lp_s_l4First 3) m (n + 1) s h k = kCode env call L nf thaw live lp_s_l4First S_s_l4First_3 s h (kNext env call L nf thaw live (lp_s_l4First 3) m n k) :=
  kLoop_step dr_s_l4First (by kernel_rfl)

/-! i_firstOfBoth -/
noncomputable def S_i_firstOfBoth : SC := slimF Try.f146
noncomputable def lp_i_firstOfBoth : Nat → Code := lpOf Try.f146
theorem dr_i_firstOfBoth : drawsOK (codeOf Try.f146) = true := by kernel_rfl
theorem fn_i_firstOfBoth {L n : Nat} {args : List A} {h : H} : evCall env L (n + 1) 146 args h = kCode env (evCall env L n) L h.length [] ([]) lp_i_firstOfBoth S_i_firstOfBoth (args ++ List.replicate (Try.f146.ntmps - args.length) (.d .undef)) h (kFin env.P h.length false [.tmp 10, .tmp 11]) :=
  fn_eq2 (mode := 1) (by kernel_rfl) Try.func146 (by kernel_rfl) (by kernel_rfl) dr_i_firstOfBoth (by kernel_rfl) (by kernel_rfl)

/-! i_SplitStates_c1 -/
noncomputable def S_i_SplitStates_c1 : SC := slimF Try.f147
noncomputable def lp_i_SplitStates_c1 : Nat → Code := lpOf Try.f147
theorem dr_i_SplitStates_c1 : drawsOK (codeOf Try.f147) = true := by kernel_rfl
theorem fn_i_SplitStates_c1 {L n : Nat} {args : List A} {h : H} : evCall env L (n + 1) 147 args h = kCode env (evCall env L n) L h.length [] ([]) lp_i_SplitStates_c1 S_i_SplitStates_c1 (args ++ List.replicate (Try.f147.ntmps - args.length) (.d .undef)) h (kFin env.P h.length false [.tmp 4]) :=
  fn_eq2 (mode := 0) (by kernel_rfl) Try.func147 (by kernel_rfl) (by kernel_rfl) dr_i_SplitStates_c1 (by kernel_rfl) (by kernel_rfl)

/-! slices_Index_string_string -/
noncomputable def S_slices_Index_string_string : SC := slimF Try.f148
noncomputable def lp_slices_Index_string_string : Nat → Code := lpOf Try.f148
theorem dr_slices_Index_string_string : drawsOK (codeOf Try.f148) = true := by kernel_rfl
theorem fn_slices_Index_string_string {L n : Nat} {args : List A} {h : H} : evCall env L (n + 1) 148 args h = kCode env (evCall env L n) L h.length [] (true :: true :: false :: false :: true :: false :: false :: true :: true :: false :: false :: false :: false :: false :: false :: false :: false :: false :: false :: []) lp_slices_Index_string_string S_slices_Index_string_string (args ++ List.replicate (Try.f148.ntmps - args.length) (.d .undef)) h (kFin env.P h.length false [.tmp 4]) :=
  fn_eq2 (mode := 1) (by kernel_rfl) Try.func148 (by kernel_rfl) (by kernel_rfl) dr_slices_Index_string_string (by kernel_rfl) (by kernel_rfl)
noncomputable def S_slices_Index_string_string_0 : SC := slimL Try.f148 0
theorem step_slices_Index_string_string_0 {R : Type} {call : CallF} {L nf n : Nat} {thaw : List Nat} {live m : List Bool} {s : List A} {h : H} {k : Exit → List A → H → Option R} : kLoop env call L nf thaw live (lp_slices_Index_string_string 0) m (n + 1) s h k = kCode env call L nf thaw live lp_slices_Index_string_string S_slices_Index_string_string_0 s h (kNext env call L nf thaw live (lp_slices_Index_string_string 0) m n k) :=
  kLoop_step dr_slices_Index_string_string (by kernel_rfl)

/-! slices_pdqsortCmpFunc_i_Edge -/
noncomputable def S_slices_pdqsortCmpFunc_i_Edge : SC := slimF Try.f149
noncomputable def lp_slices_pdqsortCmpFunc_i_Edge : Nat → Code := lpOf Try.f149
theorem dr_slices_pdqsortCmpFunc_i_Edge : drawsOK (codeOf Try.f149) = true := by kernel_rfl
theorem fn_slices_pdqsortCmpFunc_i_Edge {L n : Nat} {args : List A} {h : H} : evCall env L (n + 1) 149 args h = kCode env (evCall env L n) L h.length [] (true :: true :: true :: true :: true :: false :: false :: false :: false :: false :: true :: true :: false :: false :: false :: false :: false :: false :: false :: false :: false :: false :: false :: false :: false :: false :: false :: false :: false :: false :: false :: false :: false :: false :: false :: false :: false :: false :: false :: false :: false :: false :: false :: false :: false :: false :: false :: false :: false :: false :: false :: false :: false :: false :: false :: false :: false :: false :: false :: false :: false :: false :: false :: false :: false :: false :: false :: false :: false :: false :: false :: false :: false :: false :: false :: false :: false :: false :: false :: false :: false :: false :: false :: false :: false :: false :: false :: false :: false :: false :: false :: false :: false :: false :: false :: false :: false :: false :: false :: false :: false :: false :: false :: false :: false :: false :: false :: false :: false :: false :: false :: false :: false :: false :: false :: false :: false :: false :: false :: false :: false :: false :: false :: false :: false :: false :: false :: false :: false :: false :: false :: false :: false :: false :: false :: false :: false :: false :: false :: false :: false :: false :: false :: false :: false :: false :: false :: false :: []) lp_slices_pdqsortCmpFunc_i_Edge S_slices_pdqsortCmpFunc_i_Edge (args ++ List.replicate (Try.f149.ntmps - args.length) (.d .undef)) h (kFin env.P h.length false []) :=
  fn_eq2 (mode := 0) (by kernel_rfl) Try.func149 (by kernel_rfl) (by kernel_rfl) dr_slices_pdqsortCmpFunc_i_Edge (by kernel_rfl) (by kernel_rfl)
noncomputable def S_slices_pdqsortCmpFunc_i_Edge_0 : SC := slimL Try.f149 0
theorem step_slices_pdqsortCmpFunc_i_Edge_0 {R : Type} {call : CallF} {L nf n : Nat} {thaw : List Nat} {live m : List Bool} {s : List A} {h : H} {k : Exit → List A → H → Option R} : kLoop env call L nf thaw live (lp_slices_pdqsortCmpFunc_i_Edge 0) m (n + 1) s h k = kCode env call L nf thaw live lp_slices_pdqsortCmpFunc_i_Edge S_slices_pdqsortCmpFunc_i_Edge_0 s h (kNext env call L nf thaw live (lp_slices_pdqsortCmpFunc_i_Edge 0) m n k) :=
  kLoop_step dr_slices_pdqsortCmpFunc_i_Edge (by kernel_rfl)

/-! math_bits_Len -/
noncomputable def S_math_bits_Len : SC := slimF Try.f150
noncomputable def lp_math_bits_Len : Nat → Code := lpOf Try.f150
theorem dr_math_bits_Len : drawsOK (codeOf Try.f150) = true := by kernel_rfl
theorem fn_math_bits_Len {L n : Nat} {args : List A} {h : H} : evCall env L (n + 1) 150 args h = kCode env (evCall env L n) L h.length [] ([]) lp_math_bits_Len S_math_bits_Len (args ++ List.replicate (Try.f150.ntmps - args.length) (.d .undef)) h (kFin env.P h.length false [.tmp 2]) :=
  fn_eq2 (mode := 1) (by kernel_rfl) Try.func150 (by kernel_rfl) (by kernel_rfl) dr_math_bits_Len (by kernel_rfl) (by kernel_rfl)

/-! cmp_isNaN_int -/
noncomputable def S_cmp_isNaN_int : SC := slimF Try.f151
noncomputable def lp_cmp_isNaN_int : Nat → Code := lpOf Try.f151
theorem dr_cmp_isNaN_int : drawsOK (codeOf Try.f151) = true := by kernel_rfl
theorem fn_cmp_isNaN_int {L n : Nat} {args : List A} {h : H} : evCall env L (n + 1) 151 args h = kCode env (evCall env L n) L h.length [] ([]) lp_cmp_isNaN_int S_cmp_isNaN_int (args ++ List.replicate (Try.f151.ntmps - args.length) (.d .undef)) h (kFin env.P h.length false [.tmp 2]) :=
  fn_eq2 (mode := 1) (by kernel_rfl) Try.func151 (by kernel_rfl) (by kernel_rfl) dr_cmp_isNaN_int (by kernel_rfl) (by kernel_rfl)

/-! slices_rotateLeft_i_Edge -/
noncomputable def S_slices_rotateLeft_i_Edge : SC := slimF Try.f152
noncomputable def lp_slices_rotateLeft_i_Edge : Nat → Code := lpOf Try.f152
theorem dr_slices_rotateLeft_i_Edge : drawsOK (codeOf Try.f152) = true := by kernel_rfl
theorem fn_slices_rotateLeft_i_Edge {L n : Nat} {args : List A} {h : H} : evCall env L (n + 1) 152 args h = kCode env (evCall env L n) L h.length [] ([]) lp_slices_rotateLeft_i_Edge S_slices_rotateLeft_i_Edge (args ++ List.replicate (Try.f152.ntmps - args.length) (.d .undef)) h (kFin env.P h.length false []) :=
  fn_eq2 (mode := 1) (by kernel_rfl) Try.func152 (by kernel_rfl) (by kernel_rfl) dr_slices_rotateLeft_i_Edge (by kernel_rfl) (by kernel_rfl)

/-! s_ParseSystem -/
noncomputable def S_s_ParseSystem : SC := slimF Try.f153
noncomputable def lp_s_ParseSystem : Nat → Code := lpOf Try.f153
theorem dr_s_ParseSystem : drawsOK (codeOf Try.f153) = true := by kernel_rfl
theorem fn_s_ParseSystem {L n : Nat} {args : List A} {h : H} : evCall env L (n + 1) 153 args h = kCode env (evCall env L n) L h.length [] (true :: false :: true :: true :: true :: false :: false :: false :: false :: true :: true :: false :: false :: false :: false :: false :: false :: false :: false :: false :: false :: false :: false :: false :: false :: false :: false :: false :: false :: false :: false :: false :: false :: false :: false :: false :: false :: false :: false :: false :: false :: false :: false :: false :: false :: false :: false :: false :: false :: false :: false :: false :: false :: false :: false :: false :: false :: false :: false :: false :: false :: false :: false :: false :: false :: false :: false :: false :: false :: false :: false :: false :: []) lp_s_ParseSystem S_s_ParseSystem (args ++ List.replicate (Try.f153.ntmps - args.length) (.d .undef)) h (kFin env.P h.length false Try.f153.results.toList) :=
  fn_eq2 (mode := 2) (by kernel_rfl) Try.func153 (by kernel_rfl) (by kernel_rfl) dr_s_ParseSystem (by kernel_rfl) (by kernel_rfl)
noncomputable def S_s_ParseSystem_0 : SC := slimL Try.f153 0
theorem step_s_ParseSystem_0 {R : Type} {call : CallF} {L nf n : Nat} {thaw : List Nat} {live m : List Bool} {s : List A} {h : H} {k : Exit → List A → H → Option R} : kLoop env call L nf thaw live (lp_s_ParseSystem 0) m (n + 1) s h k = kCode env call L nf thaw live lp_s_ParseSystem S_s_ParseSystem_0 s h (kNext env call L nf thaw live (lp_s_ParseSystem 0) m n k) :=
  kLoop_step dr_s_ParseSystem (by kernel_rfl)

/-! s_l2Texts -/
noncomputable def S_s_l2Texts : SC := slimF Try.f154
noncomputable def lp_s_l2Texts : Nat → Code := lpOf Try.f154
theorem dr_s_l2Texts : drawsOK (codeOf Try.f154) = true := by kernel_rfl
theorem fn_s_l2Texts {L n : Nat} {args : List A} {h : H} : evCall env L (n + 1) 154 args h = kCode env (evCall env L n) L h.length [] ([]) lp_s_l2Texts S_s_l2Texts (args ++ List.replicate (Try.f154.ntmps - args.length) (.d .undef)) h (kFin env.P h.length false [.tmp 0]) :=
  fn_eq2 (mode := 2) (by kernel_rfl) Try.func154 (by kernel_rfl) (by kernel_rfl) dr_s_l2Texts (by kernel_rfl) (by kernel_rfl)

/-! s_l2Random -/
noncomputable def S_s_l2Random : SC := slimF Try.f155
noncomputable def lp_s_l2Random : Nat → Code := lpOf Try.f155
theorem dr_s_l2Random : drawsOK (codeOf Try.f155) = true := by kernel_rfl
theorem fn_s_l2Random {L n : Nat} {args : List A} {h : H} : evCall env L (n + 1) 155 args h = kCode env (evCall env L n) L h.length [] (true :: false :: true :: true :: false :: false :: false :: false :: true :: true :: true :: true :: true :: true :: false :: false :: false :: false :: false :: false :: false :: false :: false :: false :: false :: false :: false :: false :: false :: false :: false :: false :: false :: false :: false :: false :: false :: false :: false :: false :: false :: false :: false :: false :: false :: false :: false :: false :: false :: false :: false :: false :: []) lp_s_l2Random S_s_l2Random (args ++ List.replicate (Try.f155.ntmps - args.length) (.d .undef)) h (kFin env.P h.length false Try.f155.results.toList) :=
  fn_eq2 (mode := 0) (by kernel_rfl) Try.func155 (by kernel_rfl) (by kernel_rfl) dr_s_l2Random (by kernel_rfl) (by kernel_rfl)
noncomputable def S_s_l2Random_0 : SC := slimL Try.f155 0
theorem step_s_l2Random_0 {R : Type} {call : CallF} {L nf n : Nat} {thaw : List Nat} {live m : List Bool} {s : List A} {h : H} {k : Exit → List A → H → Option R} : kLoop env call L nf thaw live (lp_s_l2Random 0) m (n + 1) s h k = kCode env call L nf thaw live lp_s_l2Random S_s_l2Random_0 s h (kNext env call L nf thaw live (lp_s_l2Random 0) m n k) :=
  kLoop_step dr_s_l2Random (by kernel_rfl)
noncomputable def S_s_l2Random_1 : SC := slimL Try.f155 1
theorem step_s_l2Random_1 {R : Type} {call : CallF} {L nf n : Nat} {thaw : List Nat} {live m : List Bool} {s : List A} {h : H} {k : Exit → List A → H → Option R} : kLoop env call L nf thaw live (lp_s_l2Random 1) m (n + 1) s h k = kCode env call L nf thaw live lp_s_l2Random S_s_l2Random_1 s h (kNext env call L nf thaw live (lp_s_l2Random 1) m n k) :=
  kLoop_step dr_s_l2Random (by kernel_rfl)
noncomputable def S_s_l2Random_2 : SC := slimL Try.f155 2
theorem step_s_l2Random_2 {R : Type} {call : CallF} {L nf n : Nat} {thaw : List Nat} {live m : List Bool} {s : List A} {h : H} {k : Exit → List A → H → Option R} : kLoop env call L nf thaw live (lp_s_l2Random 2) m (n + 1) s h k = kCode env call L nf thaw live lp_s_l2Random S_s_l2Random_2 s h (kNext env call L nf thaw live (lp_s_l2Random 2) m n k) :=
  kLoop_step dr_s_l2Random (by kernel_rfl)

/-! s_l3Copy -/
noncomputable def S_s_l3Copy : SC := slimF Try.f156
noncomputable def lp_s_l3Copy : Nat → Code := lpOf Try.f156
theorem dr_s_l3Copy : drawsOK (codeOf Try.f156) = true := by kernel_rfl
theorem fn_s_l3Copy {L n : Nat} {args : List A} {h : H} : evCall env L (n + 1) 156 args h = kCode env (evCall env L n) L h.length [] (false :: true :: true :: true :: true :: false :: false :: false :: false :: false :: false :: false :: false :: false :: false :: false :: false :: false :: false :: false :: false :: false :: false :: false :: false :: false :: false :: false :: false :: false :: false :: false :: []) lp_s_l3Copy S_s_l3Copy (args ++ List.replicate (Try.f156.ntmps - args.length) (.d .undef)) h (kFin env.P h.length false Try.f156.results.toList) :=
  fn_eq2 (mode := 2) (by kernel_rfl) Try.func156 (by kernel_rfl) (by kernel_rfl) dr_s_l3Copy (by kernel_rfl) (by kernel_rfl)
noncomputable def S_s_l3Copy_0 : SC := slimL Try.f156 0
theorem step_s_l3Copy_0 {R : Type} {call : CallF} {L nf n : Nat} {thaw : List Nat} {live m : List Bool} {s : List A} {h : H} {k : Exit → List A → H → Option R} : kLoop env call L nf thaw live (lp_s_l3Copy 0) m (n + 1) s h k = kCode env call L nf thaw live lp_s_l3Copy S_s_l3Copy_0 s h (kNext env call L nf thaw live (lp_s_l3Copy 0) m n k) :=
  kLoop_step dr_s_l3Copy (by kernel_rfl)

/-! s_ParseAutomaton -/
noncomputable def S_s_ParseAutomaton : SC := slimF Try.f157
noncomputable def lp_s_ParseAutomaton : Nat → Code := lpOf Try.f157
theorem dr_s_ParseAutomaton : drawsOK (codeOf Try.f157) = true := by kernel_rfl
theorem fn_s_ParseAutomaton {L n : Nat} {args : List A} {h : H} : evCall env L (n + 1) 157 args h = kCode env (evCall env L n) L h.length [] (true :: false :: true :: true :: true :: false :: false :: true :: true :: false :: false :: false :: false :: false :: false :: false :: false :: false :: false :: false :: false :: false :: false :: false :: false :: false :: false :: false :: false :: false :: false :: false :: false :: false :: false :: false :: false :: false :: false :: false :: false :: false :: false :: false :: false :: false :: false :: false :: false :: false :: false :: false :: false :: false :: false :: false :: false :: false :: false :: false :: false :: false :: false :: false :: false :: false :: false :: false :: false :: false :: false :: false :: []) lp_s_ParseAutomaton S_s_ParseAutomaton (args ++ List.replicate (Try.f157.ntmps - args.length) (.d .undef)) h (kFin env.P h.length false Try.f157.results.toList) :=
  fn_eq2 (mode := 2) (by kernel_rfl) Try.func157 (by kernel_rfl) (by kernel_rfl) dr_s_ParseAutomaton (by kernel_rfl) (by kernel_rfl)
noncomputable def S_s_ParseAutomaton_0 : SC := slimL Try.f157 0
theorem step_s_ParseAutomaton_0 {R : Type} {call : CallF} {L nf n : Nat} {thaw : List Nat} {live m : List Bool} {s : List A} {h : H} {k : Exit → List A → H → Option R} : kLoop env call L nf thaw live (lp_s_ParseAutomaton 0) m (n + 1) s h k = kCode env call L nf thaw live lp_s_ParseAutomaton S_s_ParseAutomaton_0 s h (kNext env call L nf thaw live (lp_s_ParseAutomaton 0) m n k) :=
  kLoop_step dr_s_ParseAutomaton (by kernel_rfl)

/-! s_l3Texts -/
noncomputable def S_s_l3Texts : SC := slimF Try.f158
noncomputable def lp_s_l3Texts : Nat → Code := lpOf Try.f158
theorem dr_s_l3Texts : drawsOK (codeOf Try.f158) = true := by kernel_rfl
theorem fn_s_l3Texts {L n : Nat} {args : List A} {h : H} : evCall env L (n + 1) 158 args h = kCode env (evCall env L n) L h.length [] ([]) lp_s_l3Texts S_s_l3Texts (args ++ List.replicate (Try.f158.ntmps - args.length) (.d .undef)) h (kFin env.P h.length false [.tmp 0]) :=
  fn_eq2 (mode := 2) (by kernel_rfl) Try.func158 (by kernel_rfl) (by kernel_rfl) dr_s_l3Texts (by kernel_rfl) (by kernel_rfl)

/-! s_l3Over -/
noncomputable def S_s_l3Over : SC := slimF Try.f159
noncomputable def lp_s_l3Over : Nat → Code := lpOf Try.f159
theorem dr_s_l3Over : drawsOK (codeOf Try.f159) = true := by kernel_rfl
theorem fn_s_l3Over {L n : Nat} {args : List A} {h : H} : evCall env L (n + 1) 159 args h = kCode env (evCall env L n) L h.length [] ([]) lp_s_l3Over S_s_l3Over (args ++ List.replicate (Try.f159.ntmps - args.length) (.d .undef)) h (kFin env.P h.length false Try.f159.results.toList) :=
  fn_eq2 (mode := 0) (by kernel_rfl) Try.func159 (by kernel_rfl) (by kernel_rfl) dr_s_l3Over (by kernel_rfl) (by kernel_rfl)

/-! s_l4Sizes -/
noncomputable def S_s_l4Sizes : SC := slimF Try.f160
noncomputable def lp_s_l4Sizes : Nat → Code := lpOf Try.f160
theorem dr_s_l4Sizes : drawsOK (codeOf Try.f160) = true := by kernel_rfl
theorem fn_s_l4Sizes {L n : Nat} {args : List A} {h : H} : evCall env L (n + 1) 160 args h = kCode env (evCall env L n) L h.length [] (false :: true :: true :: true :: true :: true :: false :: false :: false :: false :: false :: false :: false :: false :: false :: false :: false :: false :: false :: false :: false :: false :: false :: false :: false :: false :: false :: false :: false :: false :: false :: false :: false :: false :: false :: false :: false :: false :: false :: false :: false :: []) lp_s_l4Sizes S_s_l4Sizes (args ++ List.replicate (Try.f160.ntmps - args.length) (.d .undef)) h (kFin env.P h.length false [.tmp 2]) :=
  fn_eq2 (mode := 2) (by kernel_rfl) Try.func160 (by kernel_rfl) (by kernel_rfl) dr_s_l4Sizes (by kernel_rfl) (by kernel_rfl)
noncomputable def S_s_l4Sizes_0 : SC := slimL Try.f160 0
theorem step_s_l4Sizes_0 {R : Type} {call : CallF} {L nf n : Nat} {thaw : List Nat} {live m : List Bool} {s : List A} {h : H} {k : Exit → List A → H → Option R} : kLoop env call L nf thaw live (lp_s_l4Sizes 0) m (n + 1) s h k = kCode env call L nf thaw live lp_s_l4Sizes S_s_l4Sizes_0 s h (kNext env call L nf thaw live (lp_s_l4Sizes 0) m n k) :=
  kLoop_step dr_s_l4Sizes (by kernel_rfl)
noncomputable def S_s_l4Sizes_1 : SC := slimL Try.f160 1
theorem step_s_l4Sizes_1 {R : Type} {call : CallF} {L nf n : Nat} {thaw : List Nat} {live m : List Bool} {s : List A} {h : H} {k : Exit → List A → H → Option R} : kLoop env call L nf thaw live (lp_s_l4Sizes 1) m (n + 1) s h k = kCode env call L nf thaw live lp_s_l4Sizes S_s_l4Sizes_1 s h (kNext env call L nf thaw live (lp_s_l4Sizes 1) m n k) :=
  kLoop_step dr_s_l4Sizes (by kernel_rfl)

/-! s_l4Moves -/
noncomputable def S_s_l4Moves : SC := slimF Try.f161
noncomputable def lp_s_l4Moves : Nat → Code := lpOf Try.f161
theorem dr_s_l4Moves : drawsOK (codeOf Try.f161) = true := by kernel_rfl
theorem fn_s_l4Moves {L n : Nat} {args : List A} {h : H} : evCall env L (n + 1) 161 args h = kCode env (evCall env L n) L h.length [] (false :: true :: true :: true :: false :: false :: true :: true :: true :: true :: true :: true :: true :: false :: false :: false :: false :: false :: false :: false :: false :: false :: false :: false :: false :: false :: false :: false :: false :: false :: false :: false :: false :: false :: false :: false :: false :: false :: false :: false :: false :: false :: false :: false :: false :: false :: false :: false :: []) lp_s_l4Moves S_s_l4Moves (args ++ List.replicate (Try.f161.ntmps - args.length) (.d .undef)) h (kFin env.P h.length false [.tmp 6]) :=
  fn_eq2 (mode := 2) (by kernel_rfl) Try.func161 (by kernel_rfl) (by kernel_rfl) dr_s_l4Moves (by kernel_rfl) (by kernel_rfl)
noncomputable def S_s_l4Moves_0 : SC := slimL Try.f161 0
theorem step_s_l4Moves_0 {R : Type} {call : CallF} {L nf n : Nat} {thaw : List Nat} {live m : List Bool} {s : List A} {h : H} {k : Exit → List A → H → Option R} : kLoop env call L nf thaw live (lp_s_l4Moves 0) m (n + 1) s h k = kCode env call L nf thaw live lp_s_l4Moves S_s_l4Moves_0 s h (kNext env call L nf thaw live (lp_s_l4Moves 0) m n k) :=
  kLoop_step dr_s_l4Moves (by kernel_rfl)
noncomputable def S_s_l4Moves_1 : SC := slimL Try.f161 1
theorem step_s_l4Moves_1 {R : Type} {call : CallF} {L nf n : Nat} {thaw : List Nat} {live m : List Bool} {s : List A} {h : H} {k : Exit → List A → H → Option R} : kLoop env call L nf thaw live (lp_s_l4Moves 1) m (n + 1) s h k = kCode env call L nf thaw live lp_s_l4Moves S_s_l4Moves_1 s h (kNext env call L nf thaw live (lp_s_l4Moves 1) m n k) :=
  kLoop_step dr_s_l4Moves (by kernel_rfl)

/-! s_l4Found -/
noncomputable def S_s_l4Found : SC := slimF Try.f162
noncomputable def lp_s_l4Found : Nat → Code := lpOf Try.f162
theorem dr_s_l4Found : drawsOK (codeOf Try.f162) = true := by kernel_rfl
theorem fn_s_l4Found {L n : Nat} {args : List A} {h : H} : evCall env L (n + 1) 162 args h = kCode env (evCall env L n) L h.length [] (false :: false :: true :: false :: false :: false :: true :: true :: false :: false :: false :: false :: false :: false :: false :: false :: false :: false :: false :: false :: false :: false :: false :: false :: false :: false :: false :: false :: false :: false :: false :: false :: false :: false :: false :: false :: false :: false :: false :: false :: false :: false :: false :: false :: false :: false :: false :: false :: false :: false :: false :: false :: false :: false :: false :: false :: false :: false :: false :: false :: false :: false :: false :: false :: []) lp_s_l4Found S_s_l4Found (args ++ List.replicate (Try.f162.ntmps - args.length) (.d .undef)) h (kFin env.P h.length false [.tmp 6]) :=
  fn_eq2 (mode := 1) (by kernel_rfl) Try.func162 (by kernel_rfl) (by kernel_rfl) dr_s_l4Found (by kernel_rfl) (by kernel_rfl)
noncomputable def S_s_l4Found_0 : SC := slimL Try.f162 0
theorem step_s_l4Found_0 {R : Type} {call : CallF} {L nf n : Nat} {thaw : List Nat} {live m : List Bool} {s : List A} {h : H} {k : Exit → List A → H → Option R} : kLoop env call L nf thaw live (lp_s_l4Found 0) m (n + 1) s h k = kCode env call L nf thaw live lp_s_l4Found S_s_l4Found_0 s h (kNext env call L nf thaw live (lp_s_l4Found 0) m n k) :=
  kLoop_step dr_s_l4Found (by kernel_rfl)

/-! s_l4Decode -/
noncomputable def S_s_l4Decode : SC := slimF Try.f163
noncomputable def lp_s_l4Decode : Nat → Code := lpOf Try.f163
theorem dr_s_l4Decode : drawsOK (codeOf Try.f163) = true := by kernel_rfl
theorem fn_s_l4Decode {L n : Nat} {args : List A} {h : H} : evCall env L (n + 1) 163 args h = kCode env (evCall env L n) L h.length [] (true :: true :: false :: false :: true :: true :: true :: false :: false :: false :: false :: false :: false :: false :: false :: false :: false :: false :: false :: false :: false :: false :: false :: false :: false :: false :: false :: false :: false :: false :: false :: false :: false :: []) lp_s_l4Decode S_s_l4Decode (args ++ List.replicate (Try.f163.ntmps - args.length) (.d .undef)) h (kFin env.P h.length false [.tmp 4]) :=
  fn_eq2 (mode := 2) (by kernel_rfl) Try.func163 (by kernel_rfl) (by kernel_rfl) dr_s_l4Decode (by kernel_rfl) (by kernel_rfl)
noncomputable def S_s_l4Decode_0 : SC := slimL Try.f163 0
theorem step_s_l4Decode_0 {R : Type} {call : CallF} {L nf n : Nat} {thaw : List Nat} {live m : List Bool} {s : List A} {h : H} {k : Exit → List A → H → Option R} : kLoop env call L nf thaw live (lp_s_l4Decode 0) m (n + 1) s h k = kCode env call L nf thaw live lp_s_l4Decode S_s_l4Decode_0 s h (kNext env call L nf thaw live (lp_s_l4Decode 0) m n k) :=
  kLoop_step dr_s_l4Decode (by kernel_rfl)

/-! s_l4Dist -/
noncomputable def S_s_l4Dist : SC := slimF Try.f164
noncomputable def lp_s_l4Dist : Nat → Code := lpOf Try.f164
theorem dr_s_l4Dist : drawsOK (codeOf Try.f164) = true := by kernel_rfl
theorem fn_s_l4Dist {L n : Nat} {args : List A} {h : H} : evCall env L (n + 1) 164 args h = kCode env (evCall env L n) L h.length [] (true :: true :: false :: false :: true :: true :: true :: false :: false :: false :: false :: false :: false :: false :: false :: false :: false :: false :: false :: false :: false :: false :: false :: false :: false :: false :: false :: false :: false :: false :: false :: false :: false :: false :: false :: []) lp_s_l4Dist S_s_l4Dist (args ++ List.replicate (Try.f164.ntmps - args.length) (.d .undef)) h (kFin env.P h.length false []) :=
  fn_eq2 (mode := 1) (by kernel_rfl) Try.func164 (by kernel_rfl) (by kernel_rfl) dr_s_l4Dist (by kernel_rfl) (by kernel_rfl)
noncomputable def S_s_l4Dist_0 : SC := slimL Try.f164 0
theorem step_s_l4Dist_0 {R : Type} {call : CallF} {L nf n : Nat} {thaw : List Nat} {live m : List Bool} {s : List A} {h : H} {k : Exit → List A → H → Option R} : kLoop env call L nf thaw live (lp_s_l4Dist 0) m (n + 1) s h k = kCode env call L nf thaw live lp_s_l4Dist S_s_l4Dist_0 s h (kNext env call L nf thaw live (lp_s_l4Dist 0) m n k) :=
  kLoop_step dr_s_l4Dist (by kernel_rfl)
noncomputable def S_s_l4Dist_1 : SC := slimL Try.f164 1
theorem step_s_l4Dist_1 {R : Type} {call : CallF} {L nf n : Nat} {thaw : List Nat} {live m : List Bool} {s : List A} {h : H} {k : Exit → List A → H → Option R} : kLoop env call L nf thaw live (lp_s_l4Dist 1) m (n + 1) s h k = kCode env call L nf thaw live lp_s_l4Dist S_s_l4Dist_1 s h (kNext env call L nf thaw live (lp_s_l4Dist 1) m n k) :=
  kLoop_step dr_s_l4Dist (by kernel_rfl)

/-! s_l4Encode -/
noncomputable def S_s_l4Encode : SC := slimF Try.f165
noncomputable def lp_s_l4Encode : Nat → Code := lpOf Try.f165
theorem dr_s_l4Encode : drawsOK (codeOf Try.f165) = true := by kernel_rfl
theorem fn_s_l4Encode {L n : Nat} {args : List A} {h : H} : evCall env L (n + 1) 165 args h = kCode env (evCall env L n) L h.length [] (true :: true :: false :: false :: true :: true :: true :: false :: false :: false :: false :: false :: false :: false :: false :: false :: false :: false :: false :: false :: false :: false :: false :: false :: false :: []) lp_s_l4Encode S_s_l4Encode (args ++ List.replicate (Try.f165.ntmps - args.length) (.d .undef)) h (kFin env.P h.length false [.tmp 4]) :=
  fn_eq2 (mode := 1) (by kernel_rfl) Try.func165 (by kernel_rfl) (by kernel_rfl) dr_s_l4Encode (by kernel_rfl) (by kernel_rfl)
noncomputable def S_s_l4Encode_0 : SC := slimL Try.f165 0
theorem step_s_l4Encode_0 {R : Type} {call : CallF} {L nf n : Nat} {thaw : List Nat} {live m : List Bool} {s : List A} {h : H} {k : Exit → List A → H → Option R} : kLoop env call L nf thaw live (lp_s_l4Encode 0) m (n + 1) s h k = kCode env call L nf thaw live lp_s_l4Encode S_s_l4Encode_0 s h (kNext env call L nf thaw live (lp_s_l4Encode 0) m n k) :=
  kLoop_step dr_s_l4Encode (by kernel_rfl)

/-! s_l4Closer -/
noncomputable def S_s_l4Closer : SC := slimF Try.f166
noncomputable def lp_s_l4Closer : Nat → Code := lpOf Try.f166
theorem dr_s_l4Closer : drawsOK (codeOf Try.f166) = true := by kernel_rfl
theorem fn_s_l4Closer {L n : Nat} {args : List A} {h : H} : evCall env L (n + 1) 166 args h = kCode env (evCall env L n) L h.length [] (true :: true :: true :: true :: true :: false :: false :: false :: false :: false :: true :: true :: true :: true :: true :: false :: false :: false :: false :: false :: false :: false :: false :: false :: false :: false :: false :: false :: false :: false :: false :: false :: false :: false :: false :: false :: false :: false :: false :: false :: false :: false :: false :: false :: false :: false :: false :: false :: false :: false :: false :: false :: false :: false :: false :: false :: false :: false :: false :: false :: false :: false :: false :: false :: []) lp_s_l4Closer S_s_l4Closer (args ++ List.replicate (Try.f166.ntmps - args.length) (.d .undef)) h (kFin env.P h.length false [.tmp 10]) :=
  fn_eq2 (mode := 2) (by kernel_rfl) Try.func166 (by kernel_rfl) (by kernel_rfl) dr_s_l4Closer (by kernel_rfl) (by kernel_rfl)
noncomputable def S_s_l4Closer_0 : SC := slimL Try.f166 0
theorem step_s_l4Closer_0 {R : Type} {call : CallF} {L nf n : Nat} {thaw : List Nat} {live m : List Bool} {s : List A} {h : H} {k : Exit → List A → H → Option R} : kLoop env call L nf thaw live (lp_s_l4Closer 0) m (n + 1) s h k = kCode env call L nf thaw live lp_s_l4Closer S_s_l4Closer_0 s h (kNext env call L nf thaw live (lp_s_l4Closer 0) m n k) :=
  kLoop_step dr_s_l4Closer (by kernel_rfl)
noncomputable def S_s_l4Closer_1 : SC := slimL Try.f166 1
theorem step_s_l4Closer_1 {R : Type} {call : CallF} {L nf n : Nat} {thaw : List Nat} {live m : List Bool} {s : List A} {h : H} {k : Exit → List A → H → Option R} : kLoop env call L nf thaw live (lp_s_l4Closer 1) m (n + 1) s h k = kCode env call L nf thaw live lp_s_l4Closer S_s_l4Closer_1 s h (kNext env call L nf thaw live (lp_s_l4Closer 1) m n k) :=
  kLoop_step dr_s_l4Closer (by kernel_rfl)

/-! i_firstOfBoth_c1 -/
noncomputable def S_i_firstOfBoth_c1 : SC := slimF Try.f167
noncomputable def lp_i_firstOfBoth_c1 : Nat → Code := lpOf Try.f167
theorem dr_i_firstOfBoth_c1 : drawsOK (codeOf Try.f167) = true := by kernel_rfl
theorem fn_i_firstOfBoth_c1 {L n : Nat} {args : List A} {h : H} : evCall env L (n + 1) 167 args h = kCode env (evCall env L n) L h.length [] ([]) lp_i_firstOfBoth_c1 S_i_firstOfBoth_c1 (args ++ List.replicate (Try.f167.ntmps - args.length) (.d .undef)) h (kFin env.P h.length false [.tmp 9]) :=
  fn_eq2 (mode := 0) (by kernel_rfl) Try.func167 (by kernel_rfl) (by kernel_rfl) dr_i_firstOfBoth_c1 (by kernel_rfl) (by kernel_rfl)

/-! i_firstPath -/
noncomputable def S_i_firstPath : SC := slimF Try.f168
noncomputable def lp_i_firstPath : Nat → Code := lpOf Try.f168
theorem dr_i_firstPath : drawsOK (codeOf Try.f168) = true := by kernel_rfl
theorem fn_i_firstPath {L n : Nat} {args : List A} {h : H} : evCall env L (n + 1) 168 args h = kCode env (evCall env L n) L h.length [0, 0, 0, 0, 0, 0, 0, 0, 0, 0, 0, 0, 0, 0, 0, 0, 0, 0, 2] (false :: false :: true :: true :: false :: false :: false :: false :: false :: false :: true :: true :: false :: true :: true :: true :: false :: true :: true :: false :: false :: false :: false :: false :: false :: false :: false :: false :: false :: false :: false :: false :: false :: true :: true :: true :: false :: false :: false :: false :: false :: false :: false :: true :: true :: true :: false :: false :: false :: false :: false :: false :: false :: false :: false :: false :: false :: false :: false :: false :: false :: false :: false :: []) lp_i_firstPath S_i_firstPath (args ++ List.replicate (Try.f168.ntmps - args.length) (.d .undef)) h (kFin env.P h.length false [.tmp 10, .tmp 11]) :=
  fn_eq2 (mode := 1) (by kernel_rfl) Try.func168 (by kernel_rfl) (by kernel_rfl) dr_i_firstPath (by kernel_rfl) (by kernel_rfl)
noncomputable def S_i_firstPath_0 : SC := slimL Try.f168 0
theorem step_i_firstPath_0 {R : Type} {call : CallF} {L nf n : Nat} {thaw : List Nat} {live m : List Bool} {s : List A} {h : H} {k : Exit → List A → H → Option R} : kLoop env call L nf thaw live (lp_i_firstPath 0) m (n + 1) s h k = kCode env call L nf thaw live lp_i_firstPath S_i_firstPath_0 s h (kNext env call L nf thaw live (lp_i_firstPath 0) m n k) :=
  kLoop_step dr_i_firstPath (by kernel_rfl)
noncomputable def S_i_firstPath_1 : SC := slimL Try.f168 1
theorem step_i_firstPath_1 {R : Type} {call : CallF} {L nf n : Nat} {thaw : List Nat} {live m : List Bool} {s : List A} {h : H} {k : Exit → List A → H → Option R} : kLoop env call L nf thaw live (lp_i_firstPath 1) m (n + 1) s h k = kCode env call L nf thaw live lp_i_firstPath S_i_firstPath_1 s h (kNext env call L nf thaw live (lp_i_firstPath 1) m n k) :=
  kLoop_step dr_i_firstPath (by kernel_rfl)
noncomputable def S_i_firstPath_2 : SC := slimL Try.f168 2
theorem step_i_firstPath_2 {R : Type} {call : CallF} {L nf n : Nat} {thaw : List Nat} {live m : List Bool} {s : List A} {h : H} {k : Exit → List A → H → Option R} : kLoop env call L nf thaw live (lp_i_firstPath 2) m (n + 1) s h k = kCode env call L nf thaw live lp_i_firstPath S_i_firstPath_2 s h (kNext env call L nf thaw live (lp_i_firstPath 2) m n k) :=
  kLoop_step dr_i_firstPath (by kernel_rfl)

/-! i_firstOfBoth_c2 -/
noncomputable def S_i_firstOfBoth_c2 : SC := slimF Try.f169
noncomputable def lp_i_firstOfBoth_c2 : Nat → Code := lpOf Try.f169
theorem dr_i_firstOfBoth_c2 : drawsOK (codeOf Try.f169) = true := by kernel_rfl
theorem fn_i_firstOfBoth_c2 {L n : Nat} {args : List A} {h : H} : evCall env L (n + 1) 169 args h = kCode env (evCall env L n) L h.length [] ([]) lp_i_firstOfBoth_c2 S_i_firstOfBoth_c2 (args ++ List.replicate (Try.f169.ntmps - args.length) (.d .undef)) h (kFin env.P h.length false [.tmp 6]) :=
  fn_eq2 (mode := 0) (by kernel_rfl) Try.func169 (by kernel_rfl) (by kernel_rfl) dr_i_firstOfBoth_c2 (by kernel_rfl) (by kernel_rfl)

/-! slices_insertionSortCmpFunc_i_Edge -/
noncomputable def S_slices_insertionSortCmpFunc_i_Edge : SC := slimF Try.f170
noncomputable def lp_slices_insertionSortCmpFunc_i_Edge : Nat → Code := lpOf Try.f170
theorem dr_slices_insertionSortCmpFunc_i_Edge : drawsOK (codeOf Try.f170) = true := by kernel_rfl
theorem fn_slices_insertionSortCmpFunc_i_Edge {L n : Nat} {args : List A} {h : H} : evCall env L (n + 1) 170 args h = kCode env (evCall env L n) L h.length [] (true :: true :: true :: true :: false :: false :: false :: false :: true :: true :: false :: false :: false :: false :: false :: false :: false :: false :: false :: false :: false :: false :: false :: false :: false :: false :: false :: false :: false :: false :: false :: false :: false :: false :: false :: false :: false :: false :: false :: false :: false :: false :: false :: false :: false :: false :: false :: false :: false :: false :: false :: false :: false :: []) lp_slices_insertionSortCmpFunc_i_Edge S_slices_insertionSortCmpFunc_i_Edge (args ++ List.replicate (Try.f170.ntmps - args.length) (.d .undef)) h (kFin env.P h.length false []) :=
  fn_eq2 (mode := 0) (by kernel_rfl) Try.func170 (by kernel_rfl) (by kernel_rfl) dr_slices_insertionSortCmpFunc_i_Edge (by kernel_rfl) (by kernel_rfl)
noncomputable def S_slices_insertionSortCmpFunc_i_Edge_0 : SC := slimL Try.f170 0
theorem step_slices_insertionSortCmpFunc_i_Edge_0 {R : Type} {call : CallF} {L nf n : Nat} {thaw : List Nat} {live m : List Bool} {s : List A} {h : H} {k : Exit → List A → H → Option R} : kLoop env call L nf thaw live (lp_slices_insertionSortCmpFunc_i_Edge 0) m (n + 1) s h k = kCode env call L nf thaw live lp_slices_insertionSortCmpFunc_i_Edge S_slices_insertionSortCmpFunc_i_Edge_0 s h (kNext env call L nf thaw live (lp_slices_insertionSortCmpFunc_i_Edge 0) m n k) :=
  kLoop_step dr_slices_insertionSortCmpFunc_i_Edge (by kernel_rfl)
noncomputable def S_slices_insertionSortCmpFunc_i_Edge_1 : SC := slimL Try.f170 1
theorem step_slices_insertionSortCmpFunc_i_Edge_1 {R : Type} {call : CallF} {L nf n : Nat} {thaw : List Nat} {live m : List Bool} {s : List A} {h : H} {k : Exit → List A → H → Option R} : kLoop env call L nf thaw live (lp_slices_insertionSortCmpFunc_i_Edge 1) m (n + 1) s h k = kCode env call L nf thaw live lp_slices_insertionSortCmpFunc_i_Edge S_slices_insertionSortCmpFunc_i_Edge_1 s h (kNext env call L nf thaw live (lp_slices_insertionSortCmpFunc_i_Edge 1) m n k) :=
  kLoop_step dr_slices_insertionSortCmpFunc_i_Edge (by kernel_rfl)

/-! slices_heapSortCmpFunc_i_Edge -/
noncomputable def S_slices_heapSortCmpFunc_i_Edge : SC := slimF Try.f171
noncomputable def lp_slices_heapSortCmpFunc_i_Edge : Nat → Code := lpOf Try.f171
theorem dr_slices_heapSortCmpFunc_i_Edge : drawsOK (codeOf Try.f171) = true := by kernel_rfl
theorem fn_slices_heapSortCmpFunc_i_Edge {L n : Nat} {args : List A} {h : H} : evCall env L (n + 1) 171 args h = kCode env (evCall env L n) L h.length [] (true :: false :: false :: true :: false :: false :: false :: false :: true :: true :: true :: true :: true :: false :: false :: false :: false :: false :: false :: false :: false :: false :: false :: false :: false :: false :: false :: false :: false :: false :: false :: false :: false :: false :: false :: false :: false :: false :: false :: false :: false :: false :: false :: false :: false :: false :: false :: false :: false :: false :: false :: false :: false :: false :: false :: false :: false :: false :: false :: false :: []) lp_slices_heapSortCmpFunc_i_Edge S_slices_heapSortCmpFunc_i_Edge (args ++ List.replicate (Try.f171.ntmps - args.length) (.d .undef)) h (kFin env.P h.length false []) :=
  fn_eq2 (mode := 0) (by kernel_rfl) Try.func171 (by kernel_rfl) (by kernel_rfl) dr_slices_heapSortCmpFunc_i_Edge (by kernel_rfl) (by kernel_rfl)
noncomputable def S_slices_heapSortCmpFunc_i_Edge_0 : SC := slimL Try.f171 0
theorem step_slices_heapSortCmpFunc_i_Edge_0 {R : Type} {call : CallF} {L nf n : Nat} {thaw : List Nat} {live m : List Bool} {s : List A} {h : H} {k : Exit → List A → H → Option R} : kLoop env call L nf thaw live (lp_slices_heapSortCmpFunc_i_Edge 0) m (n + 1) s h k = kCode env call L nf thaw live lp_slices_heapSortCmpFunc_i_Edge S_slices_heapSortCmpFunc_i_Edge_0 s h (kNext env call L nf thaw live (lp_slices_heapSortCmpFunc_i_Edge 0) m n k) :=
  kLoop_step dr_slices_heapSortCmpFunc_i_Edge (by kernel_rfl)
noncomputable def S_slices_heapSortCmpFunc_i_Edge_1 : SC := slimL Try.f171 1
theorem step_slices_heapSortCmpFunc_i_Edge_1 {R : Type} {call : CallF} {L nf n : Nat} {thaw : List Nat} {live m : List Bool} {s : List A} {h : H} {k : Exit → List A → H → Option R} : kLoop env call L nf thaw live (lp_slices_heapSortCmpFunc_i_Edge 1) m (n + 1) s h k = kCode env call L nf thaw live lp_slices_heapSortCmpFunc_i_Edge S_slices_heapSortCmpFunc_i_Edge_1 s h (kNext env call L nf thaw live (lp_slices_heapSortCmpFunc_i_Edge 1) m n k) :=
  kLoop_step dr_slices_heapSortCmpFunc_i_Edge (by kernel_rfl)

/-! slices_breakPatternsCmpFunc_i_Edge -/
noncomputable def S_slices_breakPatternsCmpFunc_i_Edge : SC := slimF Try.f172
noncomputable def lp_slices_breakPatternsCmpFunc_i_Edge : Nat → Code := lpOf Try.f172
theorem dr_slices_breakPatternsCmpFunc_i_Edge : drawsOK (codeOf Try.f172) = true := by kernel_rfl
theorem fn_slices_breakPatternsCmpFunc_i_Edge {L n : Nat} {args : List A} {h : H} : evCall env L (n + 1) 172 args h = kCode env (evCall env L n) L h.length [] (true :: true :: false :: false :: false :: false :: false :: false :: true :: true :: true :: true :: false :: false :: false :: false :: false :: false :: false :: false :: false :: false :: false :: false :: false :: false :: false :: false :: false :: false :: false :: false :: false :: false :: false :: false :: false :: false :: false :: false :: false :: false :: false :: false :: false :: false :: false :: false :: false :: false :: false :: false :: false :: false :: false :: false :: false :: false :: false :: false :: false :: false :: false :: false :: false :: false :: false :: []) lp_slices_breakPatternsCmpFunc_i_Edge S_slices_breakPatternsCmpFunc_i_Edge (args ++ List.replicate (Try.f172.ntmps - args.length) (.d .undef)) h (kFin env.P h.length false []) :=
  fn_eq2 (mode := 0) (by kernel_rfl) Try.func172 (by kernel_rfl) (by kernel_rfl) dr_slices_breakPatternsCmpFunc_i_Edge (by kernel_rfl) (by kernel_rfl)
noncomputable def S_slices_breakPatternsCmpFunc_i_Edge_0 : SC := slimL Try.f172 0
theorem step_slices_breakPatternsCmpFunc_i_Edge_0 {R : Type} {call : CallF} {L nf n : Nat} {thaw : List Nat} {live m : List Bool} {s : List A} {h : H} {k : Exit → List A → H → Option R} : kLoop env call L nf thaw live (lp_slices_breakPatternsCmpFunc_i_Edge 0) m (n + 1) s h k = kCode env call L nf thaw live lp_slices_breakPatternsCmpFunc_i_Edge S_slices_breakPatternsCmpFunc_i_Edge_0 s h (kNext env call L nf thaw live (lp_slices_breakPatternsCmpFunc_i_Edge 0) m n k) :=
  kLoop_step dr_slices_breakPatternsCmpFunc_i_Edge (by kernel_rfl)

/-! slices_choosePivotCmpFunc_i_Edge -/
noncomputable def S_slices_choosePivotCmpFunc_i_Edge : SC := slimF Try.f173
noncomputable def lp_slices_choosePivotCmpFunc_i_Edge : Nat → Code := lpOf Try.f173
theorem dr_slices_choosePivotCmpFunc_i_Edge : drawsOK (codeOf Try.f173) = true := by kernel_rfl
theorem fn_slices_choosePivotCmpFunc_i_Edge {L n : Nat} {args : List A} {h : H} : evCall env L (n + 1) 173 args h = kCode env (evCall env L n) L h.length [] ([]) lp_slices_choosePivotCmpFunc_i_Edge S_slices_choosePivotCmpFunc_i_Edge (args ++ List.replicate (Try.f173.ntmps - args.length) (.d .undef)) h (kFin env.P h.length false [.tmp 8, .tmp 9]) :=
  fn_eq2 (mode := 0) (by kernel_rfl) Try.func173 (by kernel_rfl) (by kernel_rfl) dr_slices_choosePivotCmpFunc_i_Edge (by kernel_rfl) (by kernel_rfl)

/-! slices_reverseRangeCmpFunc_i_Edge -/
noncomputable def S_slices_reverseRangeCmpFunc_i_Edge : SC := slimF Try.f174
noncomputable def lp_slices_reverseRangeCmpFunc_i_Edge : Nat → Code := lpOf Try.f174
theorem dr_slices_reverseRangeCmpFunc_i_Edge : drawsOK (codeOf Try.f174) = true := by kernel_rfl
theorem fn_slices_reverseRangeCmpFunc_i_Edge {L n : Nat} {args : List A} {h : H} : evCall env L (n + 1) 174 args h = kCode env (evCall env L n) L h.length [] (true :: false :: false :: false :: false :: false :: false :: false :: true :: true :: false :: false :: false :: false :: false :: false :: false :: false :: false :: false :: false :: false :: false :: false :: false :: false :: false :: false :: false :: false :: false :: false :: false :: false :: []) lp_slices_reverseRangeCmpFunc_i_Edge S_slices_reverseRangeCmpFunc_i_Edge (args ++ List.replicate (Try.f174.ntmps - args.length) (.d .undef)) h (kFin env.P h.length false []) :=
  fn_eq2 (mode := 0) (by kernel_rfl) Try.func174 (by kernel_rfl) (by kernel_rfl) dr_slices_reverseRangeCmpFunc_i_Edge (by kernel_rfl) (by kernel_rfl)
noncomputable def S_slices_reverseRangeCmpFunc_i_Edge_0 : SC := slimL Try.f174 0
theorem step_slices_reverseRangeCmpFunc_i_Edge_0 {R : Type} {call : CallF} {L nf n : Nat} {thaw : List Nat} {live m : List Bool} {s : List A} {h : H} {k : Exit → List A → H → Option R} : kLoop env call L nf thaw live (lp_slices_reverseRangeCmpFunc_i_Edge 0) m (n + 1) s h k = kCode env call L nf thaw live lp_slices_reverseRangeCmpFunc_i_Edge S_slices_reverseRangeCmpFunc_i_Edge_0 s h (kNext env call L nf thaw live (lp_slices_reverseRangeCmpFunc_i_Edge 0) m n k) :=
  kLoop_step dr_slices_reverseRangeCmpFunc_i_Edge (by kernel_rfl)

/-! slices_partialInsertionSortCmpFunc_i_Edge -/
noncomputable def S_slices_partialInsertionSortCmpFunc_i_Edge : SC := slimF Try.f175
noncomputable def lp_slices_partialInsertionSortCmpFunc_i_Edge : Nat → Code := lpOf Try.f175
theorem dr_slices_partialInsertionSortCmpFunc_i_Edge : drawsOK (codeOf Try.f175) = true := by kernel_rfl
theorem fn_slices_partialInsertionSortCmpFunc_i_Edge {L n : Nat} {args : List A} {h : H} : evCall env L (n + 1) 175 args h = kCode env (evCall env L n) L h.length [] (true :: true :: true :: true :: false :: false :: false :: false :: true :: true :: true :: true :: true :: false :: false :: false :: false :: false :: false :: false :: false :: false :: false :: false :: false :: false :: false :: false :: false :: false :: false :: false :: false :: false :: false :: false :: false :: false :: false :: false :: false :: false :: false :: false :: false :: false :: false :: false :: false :: false :: false :: false :: false :: false :: false :: false :: false :: false :: false :: false :: false :: false :: false :: false :: false :: false :: false :: false :: false :: false :: false :: false :: false :: false :: false :: false :: false :: false :: false :: false :: false :: false :: false :: false :: false :: false :: false :: false :: false :: false :: false :: false :: false :: false :: false :: false :: false :: false :: false :: false :: false :: false :: false :: false :: false :: false :: false :: false :: false :: false :: false :: false :: false :: false :: false :: false :: false :: false :: false :: false :: false :: false :: false :: false :: false :: false :: false :: false :: false :: false :: false :: false :: false :: false :: false :: false :: false :: false :: false :: false :: false :: []) lp_slices_partialInsertionSortCmpFunc_i_Edge S_slices_partialInsertionSortCmpFunc_i_Edge (args ++ List.replicate (Try.f175.ntmps - args.length) (.d .undef)) h (kFin env.P h.length false [.tmp 8]) :=
  fn_eq2 (mode := 0) (by kernel_rfl) Try.func175 (by kernel_rfl) (by kernel_rfl) dr_slices_partialInsertionSortCmpFunc_i_Edge (by kernel_rfl) (by kernel_rfl)
noncomputable def S_slices_partialInsertionSortCmpFunc_i_Edge_0 : SC := slimL Try.f175 0
theorem step_slices_partialInsertionSortCmpFunc_i_Edge_0 {R : Type} {call : CallF} {L nf n : Nat} {thaw : List Nat} {live m : List Bool} {s : List A} {h : H} {k : Exit → List A → H → Option R} : kLoop env call L nf thaw live (lp_slices_partialInsertionSortCmpFunc_i_Edge 0) m (n + 1) s h k = kCode env call L nf thaw live lp_slices_partialInsertionSortCmpFunc_i_Edge S_slices_partialInsertionSortCmpFunc_i_Edge_0 s h (kNext env call L nf thaw live (lp_slices_partialInsertionSortCmpFunc_i_Edge 0) m n k) :=
  kLoop_step dr_slices_partialInsertionSortCmpFunc_i_Edge (by kernel_rfl)
noncomputable def S_slices_partialInsertionSortCmpFunc_i_Edge_1 : SC := slimL Try.f175 1
theorem step_slices_partialInsertionSortCmpFunc_i_Edge_1 {R : Type} {call : CallF} {L nf n : Nat} {thaw : List Nat} {live m : List Bool} {s : List A} {h : H} {k : Exit → List A → H → Option R} : kLoop env call L nf thaw live (lp_slices_partialInsertionSortCmpFunc_i_Edge 1) m (n + 1) s h k = kCode env call L nf thaw live lp_slices_partialInsertionSortCmpFunc_i_Edge S_slices_partialInsertionSortCmpFunc_i_Edge_1 s h (kNext env call L nf thaw live (lp_slices_partialInsertionSortCmpFunc_i_Edge 1) m n k) :=
  kLoop_step dr_slices_partialInsertionSortCmpFunc_i_Edge (by kernel_rfl)
noncomputable def S_slices_partialInsertionSortCmpFunc_i_Edge_2 : SC := slimL Try.f175 2
theorem step_slices_partialInsertionSortCmpFunc_i_Edge_2 {R : Type} {call : CallF} {L nf n : Nat} {thaw : List Nat} {live m : List Bool} {s : List A} {h : H} {k : Exit → List A → H → Option R} : kLoop env call L nf thaw live (lp_slices_partialInsertionSortCmpFunc_i_Edge 2) m (n + 1) s h k = kCode env call L nf thaw live lp_slices_partialInsertionSortCmpFunc_i_Edge S_slices_partialInsertionSortCmpFunc_i_Edge_2 s h (kNext env call L nf thaw live (lp_slices_partialInsertionSortCmpFunc_i_Edge 2) m n k) :=
  kLoop_step dr_slices_partialInsertionSortCmpFunc_i_Edge (by kernel_rfl)
noncomputable def S_slices_partialInsertionSortCmpFunc_i_Edge_3 : SC := slimL Try.f175 3
theorem step_slices_partialInsertionSortCmpFunc_i_Edge_3 {R : Type} {call : CallF} {L nf n : Nat} {thaw : List Nat} {live m : List Bool} {s : List A} {h : H} {k : Exit → List A → H → Option R} : kLoop env call L nf thaw live (lp_slices_partialInsertionSortCmpFunc_i_Edge 3) m (n + 1) s h k = kCode env call L nf thaw live lp_slices_partialInsertionSortCmpFunc_i_Edge S_slices_partialInsertionSortCmpFunc_i_Edge_3 s h (kNext env call L nf thaw live (lp_slices_partialInsertionSortCmpFunc_i_Edge 3) m n k) :=
  kLoop_step dr_slices_partialInsertionSortCmpFunc_i_Edge (by kernel_rfl)

/-! slices_partitionEqualCmpFunc_i_Edge -/
noncomputable def S_slices_partitionEqualCmpFunc_i_Edge : SC := slimF Try.f176
noncomputable def lp_slices_partitionEqualCmpFunc_i_Edge : Nat → Code := lpOf Try.f176
theorem dr_slices_partitionEqualCmpFunc_i_Edge : drawsOK (codeOf Try.f176) = true := by kernel_rfl
theorem fn_slices_partitionEqualCmpFunc_i_Edge {L n : Nat} {args : List A} {h : H} : evCall env L (n + 1) 176 args h = kCode env (evCall env L n) L h.length [] (true :: true :: false :: false :: true :: false :: false :: false :: false :: false :: true :: true :: true :: false :: false :: false :: false :: false :: false :: false :: false :: false :: false :: false :: false :: false :: false :: false :: false :: false :: false :: false :: false :: false :: false :: false :: false :: false :: false :: false :: false :: false :: false :: false :: false :: false :: false :: false :: false :: false :: false :: false :: false :: false :: false :: false :: false :: false :: false :: false :: false :: false :: false :: false :: false :: false :: false :: false :: false :: false :: false :: false :: false :: false :: false :: false :: false :: false :: false :: false :: false :: false :: false :: false :: false :: false :: false :: false :: false :: false :: []) lp_slices_partitionEqualCmpFunc_i_Edge S_slices_partitionEqualCmpFunc_i_Edge (args ++ List.replicate (Try.f176.ntmps - args.length) (.d .undef)) h (kFin env.P h.length false [.tmp 10]) :=
  fn_eq2 (mode := 0) (by kernel_rfl) Try.func176 (by kernel_rfl) (by kernel_rfl) dr_slices_partitionEqualCmpFunc_i_Edge (by kernel_rfl) (by kernel_rfl)
noncomputable def S_slices_partitionEqualCmpFunc_i_Edge_0 : SC := slimL Try.f176 0
theorem step_slices_partitionEqualCmpFunc_i_Edge_0 {R : Type} {call : CallF} {L nf n : Nat} {thaw : List Nat} {live m : List Bool} {s : List A} {h : H} {k : Exit → List A → H → Option R} : kLoop env call L nf thaw live (lp_slices_partitionEqualCmpFunc_i_Edge 0) m (n + 1) s h k = kCode env call L nf thaw live lp_slices_partitionEqualCmpFunc_i_Edge S_slices_partitionEqualCmpFunc_i_Edge_0 s h (kNext env call L nf thaw live (lp_slices_partitionEqualCmpFunc_i_Edge 0) m n k) :=
  kLoop_step dr_slices_partitionEqualCmpFunc_i_Edge (by kernel_rfl)
noncomputable def S_slices_partitionEqualCmpFunc_i_Edge_1 : SC := slimL Try.f176 1
theorem step_slices_partitionEqualCmpFunc_i_Edge_1 {R : Type} {call : CallF} {L nf n : Nat} {thaw : List Nat} {live m : List Bool} {s : List A} {h : H} {k : Exit → List A → H → Option R} : kLoop env call L nf thaw live (lp_slices_partitionEqualCmpFunc_i_Edge 1) m (n + 1) s h k = kCode env call L nf thaw live lp_slices_partitionEqualCmpFunc_i_Edge S_slices_partitionEqualCmpFunc_i_Edge_1 s h (kNext env call L nf thaw live (lp_slices_partitionEqualCmpFunc_i_Edge 1) m n k) :=
  kLoop_step dr_slices_partitionEqualCmpFunc_i_Edge (by kernel_rfl)
noncomputable def S_slices_partitionEqualCmpFunc_i_Edge_2 : SC := slimL Try.f176 2
theorem step_slices_partitionEqualCmpFunc_i_Edge_2 {R : Type} {call : CallF} {L nf n : Nat} {thaw : List Nat} {live m : List Bool} {s : List A} {h : H} {k : Exit → List A → H → Option R} : kLoop env call L nf thaw live (lp_slices_partitionEqualCmpFunc_i_Edge 2) m (n + 1) s h k = kCode env call L nf thaw live lp_slices_partitionEqualCmpFunc_i_Edge S_slices_partitionEqualCmpFunc_i_Edge_2 s h (kNext env call L nf thaw live (lp_slices_partitionEqualCmpFunc_i_Edge 2) m n k) :=
  kLoop_step dr_slices_partitionEqualCmpFunc_i_Edge (by kernel_rfl)

/-! slices_partitionCmpFunc_i_Edge -/
noncomputable def S_slices_partitionCmpFunc_i_Edge : SC := slimF Try.f177
noncomputable def lp_slices_partitionCmpFunc_i_Edge : Nat → Code := lpOf Try.f177
theorem dr_slices_partitionCmpFunc_i_Edge : drawsOK (codeOf Try.f177) = true := by kernel_rfl
theorem fn_slices_partitionCmpFunc_i_Edge {L n : Nat} {args : List A} {h : H} : evCall env L (n + 1) 177 args h = kCode env (evCall env L n) L h.length [] (true :: true :: false :: false :: true :: false :: false :: false :: false :: false :: true :: true :: true :: true :: false :: false :: false :: false :: false :: false :: false :: false :: false :: false :: false :: false :: false :: false :: false :: false :: false :: false :: false :: false :: false :: false :: false :: false :: false :: false :: false :: false :: false :: false :: false :: false :: false :: false :: false :: false :: false :: false :: false :: false :: false :: false :: false :: false :: false :: false :: false :: false :: false :: false :: false :: false :: false :: false :: false :: false :: false :: false :: false :: false :: false :: false :: false :: false :: false :: false :: false :: false :: false :: false :: false :: false :: false :: false :: false :: false :: false :: false :: false :: false :: false :: false :: false :: false :: false :: false :: false :: false :: false :: false :: false :: false :: false :: false :: false :: false :: false :: false :: false :: false :: false :: false :: false :: false :: false :: false :: false :: false :: false :: false :: false :: false :: false :: false :: false :: false :: false :: false :: false :: false :: false :: false :: false :: false :: false :: false :: false :: false :: false :: false :: false :: false :: false :: false :: false :: false :: false :: false :: false :: false :: false :: false :: false :: false :: false :: false :: false :: false :: false :: false :: false :: false :: false :: false :: false :: false :: false :: false :: false :: false :: false :: false :: false :: false :: []) lp_slices_partitionCmpFunc_i_Edge S_slices_partitionCmpFunc_i_Edge (args ++ List.replicate (Try.f177.ntmps - args.length) (.d .undef)) h (kFin env.P h.length false [.tmp 10, .tmp 11]) :=
  fn_eq2 (mode := 0) (by kernel_rfl) Try.func177 (by kernel_rfl) (by kernel_rfl) dr_slices_partitionCmpFunc_i_Edge (by kernel_rfl) (by kernel_rfl)
noncomputable def S_slices_partitionCmpFunc_i_Edge_0 : SC := slimL Try.f177 0
theorem step_slices_partitionCmpFunc_i_Edge_0 {R : Type} {call : CallF} {L nf n : Nat} {thaw : List Nat} {live m : List Bool} {s : List A} {h : H} {k : Exit → List A → H → Option R} : kLoop env call L nf thaw live (lp_slices_partitionCmpFunc_i_Edge 0) m (n + 1) s h k = kCode env call L nf thaw live lp_slices_partitionCmpFunc_i_Edge S_slices_partitionCmpFunc_i_Edge_0 s h (kNext env call L nf thaw live (lp_slices_partitionCmpFunc_i_Edge 0) m n k) :=
  kLoop_step dr_slices_partitionCmpFunc_i_Edge (by kernel_rfl)
noncomputable def S_slices_partitionCmpFunc_i_Edge_1 : SC := slimL Try.f177 1
theorem step_slices_partitionCmpFunc_i_Edge_1 {R : Type} {call : CallF} {L nf n : Nat} {thaw : List Nat} {live m : List Bool} {s : List A} {h : H} {k : Exit → List A → H → Option R} : kLoop env call L nf thaw live (lp_slices_partitionCmpFunc_i_Edge 1) m (n + 1) s h k = kCode env call L nf thaw live lp_slices_partitionCmpFunc_i_Edge S_slices_partitionCmpFunc_i_Edge_1 s h (kNext env call L nf thaw live (lp_slices_partitionCmpFunc_i_Edge 1) m n k) :=
  kLoop_step dr_slices_partitionCmpFunc_i_Edge (by kernel_rfl)
noncomputable def S_slices_partitionCmpFunc_i_Edge_2 : SC := slimL Try.f177 2
theorem step_slices_partitionCmpFunc_i_Edge_2 {R : Type} {call : CallF} {L nf n : Nat} {thaw : List Nat} {live m : List Bool} {s : List A} {h : H} {k : Exit → List A → H → Option R} : kLoop env call L nf thaw live (lp_slices_partitionCmpFunc_i_Edge 2) m (n + 1) s h k = kCode env call L nf thaw live lp_slices_partitionCmpFunc_i_Edge S_slices_partitionCmpFunc_i_Edge_2 s h (kNext env call L nf thaw live (lp_slices_partitionCmpFunc_i_Edge 2) m n k) :=
  kLoop_step dr_slices_partitionCmpFunc_i_Edge (by kernel_rfl)
noncomputable def S_slices_partitionCmpFunc_i_Edge_3 : SC := slimL Try.f177 3
theorem step_slices_partitionCmpFunc_i_Edge_3 {R : Type} {call : CallF} {L nf n : Nat} {thaw : List Nat} {live m : List Bool} {s : List A} {h : H} {k : Exit → List A → H → Option R} : kLoop env call L nf thaw live (lp_slices_partitionCmpFunc_i_Edge 3) m (n + 1) s h k = kCode env call L nf thaw live lp_slices_partitionCmpFunc_i_Edge S_slices_partitionCmpFunc_i_Edge_3 s h (kNext env call L nf thaw live (lp_slices_partitionCmpFunc_i_Edge 3) m n k) :=
  kLoop_step dr_slices_partitionCmpFunc_i_Edge (by kernel_rfl)
noncomputable def S_slices_partitionCmpFunc_i_Edge_4 : SC := slimL Try.f177 4
theorem step_slices_partitionCmpFunc_i_Edge_4 {R : Type} {call : CallF} {L nf n : Nat} {thaw : List Nat} {live m : List Bool} {s : List A} {h : H} {k : Exit → List A → H → Option R} : kLoop env call L nf thaw live (lp_slices_partitionCmpFunc_i_Edge 4) m (n + 1) s h k = kCode env call L nf thaw live lp_slices_partitionCmpFunc_i_Edge S_slices_partitionCmpFunc_i_Edge_4 s h (kNext env call L nf thaw live (lp_slices_partitionCmpFunc_i_Edge 4) m n k) :=
  kLoop_step dr_slices_partitionCmpFunc_i_Edge (by kernel_rfl)

/-! math_bits_Len32 -/
noncomputable def S_math_bits_Len32 : SC := slimF Try.f178
noncomputable def lp_math_bits_Len32 : Nat → Code := lpOf Try.f178
theorem dr_math_bits_Len32 : drawsOK (codeOf Try.f178) = true := by kernel_rfl
theorem fn_math_bits_Len32 {L n : Nat} {args : List A} {h : H} : evCall env L (n + 1) 178 args h = kCode env (evCall env L n) L h.length [] ([]) lp_math_bits_Len32 S_math_bits_Len32 (args ++ List.replicate (Try.f178.ntmps - args.length) (.d .undef)) h (kFin env.P h.length false [.tmp 2]) :=
  fn_eq2 (mode := 1) (by kernel_rfl) Try.func178 (by kernel_rfl) (by kernel_rfl) dr_math_bits_Len32 (by kernel_rfl) (by kernel_rfl)

/-! math_bits_Len64 -/
noncomputable def S_math_bits_Len64 : SC := slimF Try.f179
noncomputable def lp_math_bits_Len64 : Nat → Code := lpOf Try.f179
theorem dr_math_bits_Len64 : drawsOK (codeOf Try.f179) = true := by kernel_rfl
theorem fn_math_bits_Len64 {L n : Nat} {args : List A} {h : H} : evCall env L (n + 1) 179 args h = kCode env (evCall env L n) L h.length [] ([]) lp_math_bits_Len64 S_math_bits_Len64 (args ++ List.replicate (Try.f179.ntmps - args.length) (.d .undef)) h (kFin env.P h.length false [.tmp 2]) :=
  fn_eq2 (mode := 1) (by kernel_rfl) Try.func179 (by kernel_rfl) (by kernel_rfl) dr_math_bits_Len64 (by kernel_rfl) (by kernel_rfl)

/-! slices_Reverse_i_Edge_i_Edge -/
noncomputable def S_slices_Reverse_i_Edge_i_Edge : SC := slimF Try.f180
noncomputable def lp_slices_Reverse_i_Edge_i_Edge : Nat → Code := lpOf Try.f180
theorem dr_slices_Reverse_i_Edge_i_Edge : drawsOK (codeOf Try.f180) = true := by kernel_rfl
theorem fn_slices_Reverse_i_Edge_i_Edge {L n : Nat} {args : List A} {h : H} : evCall env L (n + 1) 180 args h = kCode env (evCall env L n) L h.length [] (true :: false :: true :: true :: false :: false :: false :: false :: false :: false :: false :: false :: false :: false :: false :: false :: false :: false :: false :: false :: false :: false :: false :: false :: false :: false :: false :: false :: []) lp_slices_Reverse_i_Edge_i_Edge S_slices_Reverse_i_Edge_i_Edge (args ++ List.replicate (Try.f180.ntmps - args.length) (.d .undef)) h (kFin env.P h.length false []) :=
  fn_eq2 (mode := 0) (by kernel_rfl) Try.func180 (by kernel_rfl) (by kernel_rfl) dr_slices_Reverse_i_Edge_i_Edge (by kernel_rfl) (by kernel_rfl)
noncomputable def S_slices_Reverse_i_Edge_i_Edge_0 : SC := slimL Try.f180 0
theorem step_slices_Reverse_i_Edge_i_Edge_0 {R : Type} {call : CallF} {L nf n : Nat} {thaw : List Nat} {live m : List Bool} {s : List A} {h : H} {k : Exit → List A → H → Option R} : kLoop env call L nf thaw live (lp_slices_Reverse_i_Edge_i_Edge 0) m (n + 1) s h k = kCode env call L nf thaw live lp_slices_Reverse_i_Edge_i_Edge S_slices_Reverse_i_Edge_i_Edge_0 s h (kNext env call L nf thaw live (lp_slices_Reverse_i_Edge_i_Edge 0) m n k) :=
  kLoop_step dr_slices_Reverse_i_Edge_i_Edge (by kernel_rfl)

/-! s_l19Cut -/
noncomputable def S_s_l19Cut : SC := slimF Try.f181
noncomputable def lp_s_l19Cut : Nat → Code := lpOf Try.f181
theorem dr_s_l19Cut : drawsOK (codeOf Try.f181) = true := by kernel_rfl
theorem fn_s_l19Cut {L n : Nat} {args : List A} {h : H} : evCall env L (n + 1) 181 args h = kCode env (evCall env L n) L h.length [] (true :: true :: false :: false :: true :: true :: true :: true :: false :: false :: false :: false :: false :: false :: false :: false :: false :: false :: false :: false :: false :: false :: false :: false :: false :: false :: false :: false :: false :: false :: false :: false :: false :: false :: false :: false :: []) lp_s_l19Cut S_s_l19Cut (args ++ List.replicate (Try.f181.ntmps - args.length) (.d .undef)) h (kFin env.P h.length false [.tmp 4]) :=
  fn_eq2 (mode := 2) (by kernel_rfl) Try.func181 (by kernel_rfl) (by kernel_rfl) dr_s_l19Cut (by kernel_rfl) (by kernel_rfl)
noncomputable def S_s_l19Cut_0 : SC := slimL Try.f181 0
theorem step_s_l19Cut_0 {R : Type} {call : CallF} {L nf n : Nat} {thaw : List Nat} {live m : List Bool} {s : List A} {h : H} {k : Exit → List A → H → Option R} : kLoop env call L nf thaw live (lp_s_l19Cut 0) m (n + 1) s h k = kCode env call L nf thaw live lp_s_l19Cut S_s_l19Cut_0 s h (kNext env call L nf thaw live (lp_s_l19Cut 0) m n k) :=
  kLoop_step dr_s_l19Cut (by kernel_rfl)

/-! s_ParseAlphabet -/
noncomputable def S_s_ParseAlphabet : SC := slimF Try.f182
noncomputable def lp_s_ParseAlphabet : Nat → Code := lpOf Try.f182
theorem dr_s_ParseAlphabet : drawsOK (codeOf Try.f182) = true := by kernel_rfl
theorem fn_s_ParseAlphabet {L n : Nat} {args : List A} {h : H} : evCall env L (n + 1) 182 args h = kCode env (evCall env L n) L h.length [] (true :: false :: true :: true :: true :: false :: false :: false :: false :: false :: false :: false :: false :: false :: []) lp_s_ParseAlphabet S_s_ParseAlphabet (args ++ List.replicate (Try.f182.ntmps - args.length) (.d .undef)) h (kFin env.P h.length false [.tmp 2, .tmp 3]) :=
  fn_eq2 (mode := 1) (by kernel_rfl) Try.func182 (by kernel_rfl) (by kernel_rfl) dr_s_ParseAlphabet (by kernel_rfl) (by kernel_rfl)
noncomputable def S_s_ParseAlphabet_0 : SC := slimL Try.f182 0
theorem step_s_ParseAlphabet_0 {R : Type} {call : CallF} {L nf n : Nat} {thaw : List Nat} {live m : List Bool} {s : List A} {h : H} {k : Exit → List A → H → Option R} : kLoop env call L nf thaw live (lp_s_ParseAlphabet 0) m (n + 1) s h k = kCode env call L nf thaw live lp_s_ParseAlphabet S_s_ParseAlphabet_0 s h (kNext env call L nf thaw live (lp_s_ParseAlphabet 0) m n k) :=
  kLoop_step dr_s_ParseAlphabet (by kernel_rfl)

/-! s_l19Num -/
noncomputable def S_s_l19Num : SC := slimF Try.f183
noncomputable def lp_s_l19Num : Nat → Code := lpOf Try.f183
theorem dr_s_l19Num : drawsOK (codeOf Try.f183) = true := by kernel_rfl
theorem fn_s_l19Num {L n : Nat} {args : List A} {h : H} : evCall env L (n + 1) 183 args h = kCode env (evCall env L n) L h.length [] (true :: false :: true :: true :: true :: true :: true :: false :: false :: false :: false :: false :: false :: false :: false :: false :: false :: false :: false :: false :: false :: false :: false :: false :: false :: false :: false :: false :: false :: false :: false :: false :: false :: false :: false :: false :: false :: false :: false :: false :: false :: false :: false :: false :: false :: false :: false :: false :: false :: false :: false :: false :: false :: false :: false :: false :: false :: false :: false :: false :: false :: false :: false :: false :: false :: false :: false :: []) lp_s_l19Num S_s_l19Num (args ++ List.replicate (Try.f183.ntmps - args.length) (.d .undef)) h (kFin env.P h.length false [.tmp 2, .tmp 3]) :=
  fn_eq2 (mode := 1) (by kernel_rfl) Try.func183 (by kernel_rfl) (by kernel_rfl) dr_s_l19Num (by kernel_rfl) (by kernel_rfl)
noncomputable def S_s_l19Num_0 : SC := slimL Try.f183 0
theorem step_s_l19Num_0 {R : Type} {call : CallF} {L nf n : Nat} {thaw : List Nat} {live m : List Bool} {s : List A} {h : H} {k : Exit → List A → H → Option R} : kLoop env call L nf thaw live (lp_s_l19Num 0) m (n + 1) s h k = kCode env call L nf thaw live lp_s_l19Num S_s_l19Num_0 s h (kNext env call L nf thaw live (lp_s_l19Num 0) m n k) :=
  kLoop_step dr_s_l19Num (by kernel_rfl)

/-! s_l2Parse -/
noncomputable def S_s_l2Parse : SC := slimF Try.f184
noncomputable def lp_s_l2Parse : Nat → Code := lpOf Try.f184
theorem dr_s_l2Parse : drawsOK (codeOf Try.f184) = true := by kernel_rfl
theorem fn_s_l2Parse {L n : Nat} {args : List A} {h : H} : evCall env L (n + 1) 184 args h = kCode env (evCall env L n) L h.length [] (true :: false :: true :: true :: true :: false :: false :: false :: false :: false :: false :: false :: false :: false :: false :: false :: false :: false :: false :: false :: false :: false :: false :: false :: false :: false :: false :: false :: false :: false :: false :: false :: false :: false :: false :: false :: false :: false :: false :: false :: false :: false :: false :: false :: false :: false :: false :: false :: false :: false :: false :: []) lp_s_l2Parse S_s_l2Parse (args ++ List.replicate (Try.f184.ntmps - args.length) (.d .undef)) h (kFin env.P h.length false Try.f184.results.toList) :=
  fn_eq2 (mode := 2) (by kernel_rfl) Try.func184 (by kernel_rfl) (by kernel_rfl) dr_s_l2Parse (by kernel_rfl) (by kernel_rfl)
noncomputable def S_s_l2Parse_0 : SC := slimL Try.f184 0
theorem step_s_l2Parse_0 {R : Type} {call : CallF} {L nf n : Nat} {thaw : List Nat} {live m : List Bool} {s : List A} {h : H} {k : Exit → List A → H → Option R} : kLoop env call L nf thaw live (lp_s_l2Parse 0) m (n + 1) s h k = kCode env call L nf thaw live lp_s_l2Parse S_s_l2Parse_0 s h (kNext env call L nf thaw live (lp_s_l2Parse 0) m n k) :=
  kLoop_step dr_s_l2Parse (by kernel_rfl)

/-! s_FormatSystem -/
noncomputable def S_s_FormatSystem : SC := slimF Try.f185
noncomputable def lp_s_FormatSystem : Nat → Code := lpOf Try.f185
theorem dr_s_FormatSystem : drawsOK (codeOf Try.f185) = true := by kernel_rfl
theorem fn_s_FormatSystem {L n : Nat} {args : List A} {h : H} : evCall env L (n + 1) 185 args h = kCode env (evCall env L n) L h.length [] (false :: true :: true :: true :: true :: false :: false :: false :: false :: false :: false :: false :: false :: false :: false :: false :: false :: false :: false :: false :: false :: false :: false :: false :: false :: false :: false :: false :: false :: false :: false :: false :: false :: false :: false :: false :: false :: false :: false :: false :: false :: false :: false :: false :: []) lp_s_FormatSystem S_s_FormatSystem (args ++ List.replicate (Try.f185.ntmps - args.length) (.d .undef)) h (kFin env.P h.length false [.tmp 2]) :=
  fn_eq2 (mode := 1) (by kernel_rfl) Try.func185 (by kernel_rfl) (by kernel_rfl) dr_s_FormatSystem (by kernel_rfl) (by kernel_rfl)
noncomputable def S_s_FormatSystem_0 : SC := slimL Try.f185 0
theorem step_s_FormatSystem_0 {R : Type} {call : CallF} {L nf n : Nat} {thaw : List Nat} {live m : List Bool} {s : List A} {h : H} {k : Exit → List A → H → Option R} : kLoop env call L nf thaw live (lp_s_FormatSystem 0) m (n + 1) s h k = kCode env call L nf thaw live lp_s_FormatSystem S_s_FormatSystem_0 s h (kNext env call L nf thaw live (lp_s_FormatSystem 0) m n k) :=
  kLoop_step dr_s_FormatSystem (by kernel_rfl)

/-! s_l3Parse -/
noncomputable def S_s_l3Parse : SC := slimF Try.f186
noncomputable def lp_s_l3Parse : Nat → Code := lpOf Try.f186
theorem dr_s_l3Parse : drawsOK (codeOf Try.f186) = true := by kernel_rfl
theorem fn_s_l3Parse {L n : Nat} {args : List A} {h : H} : evCall env L (n + 1) 186 args h = kCode env (evCall env L n) L h.length [] (false :: false :: true :: true :: true :: true :: true :: false :: false :: false :: false :: false :: false :: false :: false :: false :: false :: false :: false :: false :: false :: false :: false :: false :: false :: false :: false :: false :: false :: false :: false :: false :: false :: false :: false :: false :: []) lp_s_l3Parse S_s_l3Parse (args ++ List.replicate (Try.f186.ntmps - args.length) (.d .undef)) h (kFin env.P h.length false [.tmp 2, .tmp 3]) :=
  fn_eq2 (mode := 2) (by kernel_rfl) Try.func186 (by kernel_rfl) (by kernel_rfl) dr_s_l3Parse (by kernel_rfl) (by kernel_rfl)
noncomputable def S_s_l3Parse_0 : SC := slimL Try.f186 0
theorem step_s_l3Parse_0 {R : Type} {call : CallF} {L nf n : Nat} {thaw : List Nat} {live m : List Bool} {s : List A} {h : H} {k : Exit → List A → H → Option R} : kLoop env call L nf thaw live (lp_s_l3Parse 0) m (n + 1) s h k = kCode env call L nf thaw live lp_s_l3Parse S_s_l3Parse_0 s h (kNext env call L nf thaw live (lp_s_l3Parse 0) m n k) :=
  kLoop_step dr_s_l3Parse (by kernel_rfl)

/-! s_FormatAutomaton -/
noncomputable def S_s_FormatAutomaton : SC := slimF Try.f187
noncomputable def lp_s_FormatAutomaton : Nat → Code := lpOf Try.f187
theorem dr_s_FormatAutomaton : drawsOK (codeOf Try.f187) = true := by kernel_rfl
theorem fn_s_FormatAutomaton {L n : Nat} {args : List A} {h : H} : evCall env L (n + 1) 187 args h = kCode env (evCall env L n) L h.length [] (false :: true :: true :: true :: true :: false :: true :: false :: false :: false :: false :: false :: false :: false :: false :: false :: false :: false :: false :: false :: false :: false :: false :: false :: false :: false :: false :: false :: false :: false :: false :: false :: false :: false :: false :: false :: false :: false :: false :: false :: false :: false :: false :: false :: false :: false :: false :: false :: false :: false :: false :: false :: false :: false :: []) lp_s_FormatAutomaton S_s_FormatAutomaton (args ++ List.replicate (Try.f187.ntmps - args.length) (.d .undef)) h (kFin env.P h.length false [.tmp 2]) :=
  fn_eq2 (mode := 1) (by kernel_rfl) Try.func187 (by kernel_rfl) (by kernel_rfl) dr_s_FormatAutomaton (by kernel_rfl) (by kernel_rfl)
noncomputable def S_s_FormatAutomaton_0 : SC := slimL Try.f187 0
theorem step_s_FormatAutomaton_0 {R : Type} {call : CallF} {L nf n : Nat} {thaw : List Nat} {live m : List Bool} {s : List A} {h : H} {k : Exit → List A → H → Option R} : kLoop env call L nf thaw live (lp_s_FormatAutomaton 0) m (n + 1) s h k = kCode env call L nf thaw live lp_s_FormatAutomaton S_s_FormatAutomaton_0 s h (kNext env call L nf thaw live (lp_s_FormatAutomaton 0) m n k) :=
  kLoop_step dr_s_FormatAutomaton (by kernel_rfl)
noncomputable def S_s_FormatAutomaton_1 : SC := slimL Try.f187 1
theorem step_s_FormatAutomaton_1 {R : Type} {call : CallF} {L nf n : Nat} {thaw : List Nat} {live m : List Bool} {s : List A} {h : H} {k : Exit → List A → H → Option R} : kLoop env call L nf thaw live (lp_s_FormatAutomaton 1) m (n + 1) s h k = kCode env call L nf thaw live lp_s_FormatAutomaton S_s_FormatAutomaton_1 s h (kNext env call L nf thaw live (lp_s_FormatAutomaton 1) m n k) :=
  kLoop_step dr_s_FormatAutomaton (by kernel_rfl)

/-! s_l3Safe -/
noncomputable def S_s_l3Safe : SC := slimF Try.f188
noncomputable def lp_s_l3Safe : Nat → Code := lpOf Try.f188
theorem dr_s_l3Safe : drawsOK (codeOf Try.f188) = true := by kernel_rfl
theorem fn_s_l3Safe {L n : Nat} {args : List A} {h : H} : evCall env L (n + 1) 188 args h = kCode env (evCall env L n) L h.length [] (false :: false :: true :: false :: false :: false :: true :: true :: true :: true :: false :: false :: false :: false :: false :: false :: false :: false :: false :: false :: false :: false :: false :: false :: false :: false :: false :: false :: false :: false :: false :: false :: false :: false :: false :: false :: false :: false :: false :: false :: false :: false :: false :: false :: false :: false :: false :: false :: false :: []) lp_s_l3Safe S_s_l3Safe (args ++ List.replicate (Try.f188.ntmps - args.length) (.d .undef)) h (kFin env.P h.length false Try.f188.results.toList) :=
  fn_eq2 (mode := 0) (by kernel_rfl) Try.func188 (by kernel_rfl) (by kernel_rfl) dr_s_l3Safe (by kernel_rfl) (by kernel_rfl)
noncomputable def S_s_l3Safe_0 : SC := slimL Try.f188 0
theorem step_s_l3Safe_0 {R : Type} {call : CallF} {L nf n : Nat} {thaw : List Nat} {live m : List Bool} {s : List A} {h : H} {k : Exit → List A → H → Option R} : kLoop env call L nf thaw live (lp_s_l3Safe 0) m (n + 1) s h k = kCode env call L nf thaw live lp_s_l3Safe S_s_l3Safe_0 s h (kNext env call L nf thaw live (lp_s_l3Safe 0) m n k) :=
  kLoop_step dr_s_l3Safe (by kernel_rfl)
noncomputable def S_s_l3Safe_1 : SC := slimL Try.f188 1
theorem step_s_l3Safe_1 {R : Type} {call : CallF} {L nf n : Nat} {thaw : List Nat} {live m : List Bool} {s : List A} {h : H} {k : Exit → List A → H → Option R} : kLoop env call L nf thaw live (lp_s_l3Safe 1) m (n + 1) s h k = kCode env call L nf thaw live lp_s_l3Safe S_s_l3Safe_1 s h (kNext env call L nf thaw live (lp_s_l3Safe 1) m n k) :=
  kLoop_step dr_s_l3Safe (by kernel_rfl)

/-! s_l3Random -/
noncomputable def S_s_l3Random : SC := slimF Try.f189
noncomputable def lp_s_l3Random : Nat → Code := lpOf Try.f189
theorem dr_s_l3Random : drawsOK (codeOf Try.f189) = true := by kernel_rfl
theorem fn_s_l3Random {L n : Nat} {args : List A} {h : H} : evCall env L (n + 1) 189 args h = kCode env (evCall env L n) L h.length [] (true :: false :: true :: false :: false :: false :: true :: true :: true :: true :: true :: true :: false :: false :: false :: false :: false :: false :: false :: false :: false :: false :: false :: false :: false :: false :: false :: false :: false :: false :: false :: false :: false :: false :: false :: false :: false :: false :: false :: false :: false :: false :: false :: false :: false :: false :: false :: false :: false :: []) lp_s_l3Random S_s_l3Random (args ++ List.replicate (Try.f189.ntmps - args.length) (.d .undef)) h (kFin env.P h.length false Try.f189.results.toList) :=
  fn_eq2 (mode := 0) (by kernel_rfl) Try.func189 (by kernel_rfl) (by kernel_rfl) dr_s_l3Random (by kernel_rfl) (by kernel_rfl)
noncomputable def S_s_l3Random_0 : SC := slimL Try.f189 0
theorem step_s_l3Random_0 {R : Type} {call : CallF} {L nf n : Nat} {thaw : List Nat} {live m : List Bool} {s : List A} {h : H} {k : Exit → List A → H → Option R} : kLoop env call L nf thaw live (lp_s_l3Random 0) m (n + 1) s h k = kCode env call L nf thaw live lp_s_l3Random S_s_l3Random_0 s h (kNext env call L nf thaw live (lp_s_l3Random 0) m n k) :=
  kLoop_step dr_s_l3Random (by kernel_rfl)
noncomputable def S_s_l3Random_1 : SC := slimL Try.f189 1
theorem step_s_l3Random_1 {R : Type} {call : CallF} {L nf n : Nat} {thaw : List Nat} {live m : List Bool} {s : List A} {h : H} {k : Exit → List A → H → Option R} : kLoop env call L nf thaw live (lp_s_l3Random 1) m (n + 1) s h k = kCode env call L nf thaw live lp_s_l3Random S_s_l3Random_1 s h (kNext env call L nf thaw live (lp_s_l3Random 1) m n k) :=
  kLoop_step dr_s_l3Random (by kernel_rfl)

/-! s_l4Nexts -/
noncomputable def S_s_l4Nexts : SC := slimF Try.f190
noncomputable def lp_s_l4Nexts : Nat → Code := lpOf Try.f190
theorem dr_s_l4Nexts : drawsOK (codeOf Try.f190) = true := by kernel_rfl
theorem fn_s_l4Nexts {L n : Nat} {args : List A} {h : H} : evCall env L (n + 1) 190 args h = kCode env (evCall env L n) L h.length [] (false :: true :: true :: true :: true :: false :: false :: false :: true :: true :: true :: true :: true :: true :: true :: false :: false :: false :: false :: false :: false :: false :: false :: false :: false :: false :: false :: false :: false :: false :: false :: false :: false :: false :: false :: false :: false :: false :: false :: false :: false :: false :: false :: false :: false :: false :: false :: false :: false :: false :: false :: false :: false :: false :: false :: false :: false :: false :: false :: false :: false :: false :: []) lp_s_l4Nexts S_s_l4Nexts (args ++ List.replicate (Try.f190.ntmps - args.length) (.d .undef)) h (kFin env.P h.length false [.tmp 8]) :=
  fn_eq2 (mode := 2) (by kernel_rfl) Try.func190 (by kernel_rfl) (by kernel_rfl) dr_s_l4Nexts (by kernel_rfl) (by kernel_rfl)
noncomputable def S_s_l4Nexts_0 : SC := slimL Try.f190 0
theorem step_s_l4Nexts_0 {R : Type} {call : CallF} {L nf n : Nat} {thaw : List Nat} {live m : List Bool} {s : List A} {h : H} {k : Exit → List A → H → Option R} : kLoop env call L nf thaw live (lp_s_l4Nexts 0) m (n + 1) s h k = kCode env call L nf thaw live lp_s_l4Nexts S_s_l4Nexts_0 s h (kNext env call L nf thaw live (lp_s_l4Nexts 0) m n k) :=
  kLoop_step dr_s_l4Nexts (by kernel_rfl)
noncomputable def S_s_l4Nexts_1 : SC := slimL Try.f190 1
theorem step_s_l4Nexts_1 {R : Type} {call : CallF} {L nf n : Nat} {thaw : List Nat} {live m : List Bool} {s : List A} {h : H} {k : Exit → List A → H → Option R} : kLoop env call L nf thaw live (lp_s_l4Nexts 1) m (n + 1) s h k = kCode env call L nf thaw live lp_s_l4Nexts S_s_l4Nexts_1 s h (kNext env call L nf thaw live (lp_s_l4Nexts 1) m n k) :=
  kLoop_step dr_s_l4Nexts (by kernel_rfl)
noncomputable def S_s_l4Nexts_2 : SC := slimL Try.f190 2
theorem step_s_l4Nexts_2 {R : Type} {call : CallF} {L nf n : Nat} {thaw : List Nat} {live m : List Bool} {s : List A} {h : H} {k : Exit → List A → H → Option R} : kLoop env call L nf thaw live (lp_s_l4Nexts 2) m (n + 1) s h k = kCode env call L nf thaw live lp_s_l4Nexts S_s_l4Nexts_2 s h (kNext env call L nf thaw live (lp_s_l4Nexts 2) m n k) :=
  kLoop_step dr_s_l4Nexts (by kernel_rfl)

/-! s_l4Ok -/
noncomputable def S_s_l4Ok : SC := slimF Try.f191
noncomputable def lp_s_l4Ok : Nat → Code := lpOf Try.f191
theorem dr_s_l4Ok : drawsOK (codeOf Try.f191) = true := by kernel_rfl
theorem fn_s_l4Ok {L n : Nat} {args : List A} {h : H} : evCall env L (n + 1) 191 args h = kCode env (evCall env L n) L h.length [] ([]) lp_s_l4Ok S_s_l4Ok (args ++ List.replicate (Try.f191.ntmps - args.length) (.d .undef)) h (kFin env.P h.length false [.tmp 6]) :=
  fn_eq2 (mode := 1) (by kernel_rfl) Try.func191 (by kernel_rfl) (by kernel_rfl) dr_s_l4Ok (by kernel_rfl) (by kernel_rfl)

/-! s_l4Near -/
noncomputable def S_s_l4Near : SC := slimF Try.f192
noncomputable def lp_s_l4Near : Nat → Code := lpOf Try.f192
theorem dr_s_l4Near : drawsOK (codeOf Try.f192) = true := by kernel_rfl
theorem fn_s_l4Near {L n : Nat} {args : List A} {h : H} : evCall env L (n + 1) 192 args h = kCode env (evCall env L n) L h.length [] (true :: true :: true :: false :: false :: false :: true :: true :: true :: false :: false :: false :: false :: false :: false :: false :: false :: false :: false :: false :: false :: false :: false :: false :: false :: false :: false :: false :: false :: false :: false :: false :: false :: false :: false :: false :: []) lp_s_l4Near S_s_l4Near (args ++ List.replicate (Try.f192.ntmps - args.length) (.d .undef)) h (kFin env.P h.length false [.tmp 6]) :=
  fn_eq2 (mode := 1) (by kernel_rfl) Try.func192 (by kernel_rfl) (by kernel_rfl) dr_s_l4Near (by kernel_rfl) (by kernel_rfl)
noncomputable def S_s_l4Near_0 : SC := slimL Try.f192 0
theorem step_s_l4Near_0 {R : Type} {call : CallF} {L nf n : Nat} {thaw : List Nat} {live m : List Bool} {s : List A} {h : H} {k : Exit → List A → H → Option R} : kLoop env call L nf thaw live (lp_s_l4Near 0) m (n + 1) s h k = kCode env call L nf thaw live lp_s_l4Near S_s_l4Near_0 s h (kNext env call L nf thaw live (lp_s_l4Near 0) m n k) :=
  kLoop_step dr_s_l4Near (by kernel_rfl)
noncomputable def S_s_l4Near_1 : SC := slimL Try.f192 1
theorem step_s_l4Near_1 {R : Type} {call : CallF} {L nf n : Nat} {thaw : List Nat} {live m : List Bool} {s : List A} {h : H} {k : Exit → List A → H → Option R} : kLoop env call L nf thaw live (lp_s_l4Near 1) m (n + 1) s h k = kCode env call L nf thaw live lp_s_l4Near S_s_l4Near_1 s h (kNext env call L nf thaw live (lp_s_l4Near 1) m n k) :=
  kLoop_step dr_s_l4Near (by kernel_rfl)

/-! s_l4In -/
noncomputable def S_s_l4In : SC := slimF Try.f193
noncomputable def lp_s_l4In : Nat → Code := lpOf Try.f193
theorem dr_s_l4In : drawsOK (codeOf Try.f193) = true := by kernel_rfl
theorem fn_s_l4In {L n : Nat} {args : List A} {h : H} : evCall env L (n + 1) 193 args h = kCode env (evCall env L n) L h.length [] (true :: true :: false :: false :: true :: true :: false :: false :: false :: false :: false :: false :: false :: false :: false :: false :: false :: false :: []) lp_s_l4In S_s_l4In (args ++ List.replicate (Try.f193.ntmps - args.length) (.d .undef)) h (kFin env.P h.length false [.tmp 4]) :=
  fn_eq2 (mode := 1) (by kernel_rfl) Try.func193 (by kernel_rfl) (by kernel_rfl) dr_s_l4In (by kernel_rfl) (by kernel_rfl)
noncomputable def S_s_l4In_0 : SC := slimL Try.f193 0
theorem step_s_l4In_0 {R : Type} {call : CallF} {L nf n : Nat} {thaw : List Nat} {live m : List Bool} {s : List A} {h : H} {k : Exit → List A → H → Option R} : kLoop env call L nf thaw live (lp_s_l4In 0) m (n + 1) s h k = kCode env call L nf thaw live lp_s_l4In S_s_l4In_0 s h (kNext env call L nf thaw live (lp_s_l4In 0) m n k) :=
  kLoop_step dr_s_l4In (by kernel_rfl)

/-! i_firstPath_c1 -/
noncomputable def S_i_firstPath_c1 : SC := slimF Try.f194
noncomputable def lp_i_firstPath_c1 : Nat → Code := lpOf Try.f194
theorem dr_i_firstPath_c1 : drawsOK (codeOf Try.f194) = true := by kernel_rfl
theorem fn_i_firstPath_c1 {L n : Nat} {args : List A} {h : H} : evCall env L (n + 1) 194 args h = kCode env (evCall env L n) L h.length [0, 0, 0, 0, 0, 0, 0, 0, 0, 0, 2] (true :: true :: false :: true :: true :: true :: false :: false :: false :: true :: true :: true :: false :: false :: true :: true :: true :: false :: false :: false :: false :: false :: false :: false :: false :: false :: false :: false :: false :: false :: false :: false :: false :: false :: false :: false :: false :: false :: false :: false :: false :: false :: false :: false :: false :: false :: false :: false :: false :: false :: []) lp_i_firstPath_c1 S_i_firstPath_c1 (args ++ List.replicate (Try.f194.ntmps - args.length) (.d .undef)) h (kFin env.P h.length false [.tmp 9]) :=
  fn_eq2 (mode := 0) (by kernel_rfl) Try.func194 (by kernel_rfl) (by kernel_rfl) dr_i_firstPath_c1 (by kernel_rfl) (by kernel_rfl)
noncomputable def S_i_firstPath_c1_0 : SC := slimL Try.f194 0
theorem step_i_firstPath_c1_0 {R : Type} {call : CallF} {L nf n : Nat} {thaw : List Nat} {live m : List Bool} {s : List A} {h : H} {k : Exit → List A → H → Option R} : kLoop env call L nf thaw live (lp_i_firstPath_c1 0) m (n + 1) s h k = kCode env call L nf thaw live lp_i_firstPath_c1 S_i_firstPath_c1_0 s h (kNext env call L nf thaw live (lp_i_firstPath_c1 0) m n k) :=
  kLoop_step dr_i_firstPath_c1 (by kernel_rfl)

/-! i_pathWord -/
noncomputable def S_i_pathWord : SC := slimF Try.f195
noncomputable def lp_i_pathWord : Nat → Code := lpOf Try.f195
theorem dr_i_pathWord : drawsOK (codeOf Try.f195) = true := by kernel_rfl
theorem fn_i_pathWord {L n : Nat} {args : List A} {h : H} : evCall env L (n + 1) 195 args h = kCode env (evCall env L n) L h.length [0, 0, 0, 2] (true :: false :: true :: true :: true :: false :: false :: false :: false :: false :: false :: false :: false :: false :: false :: false :: false :: false :: false :: false :: false :: false :: false :: false :: false :: false :: false :: false :: false :: false :: false :: false :: []) lp_i_pathWord S_i_pathWord (args ++ List.replicate (Try.f195.ntmps - args.length) (.d .undef)) h (kFin env.P h.length false [.tmp 2]) :=
  fn_eq2 (mode := 1) (by kernel_rfl) Try.func195 (by kernel_rfl) (by kernel_rfl) dr_i_pathWord (by kernel_rfl) (by kernel_rfl)
noncomputable def S_i_pathWord_0 : SC := slimL Try.f195 0
theorem step_i_pathWord_0 {R : Type} {call : CallF} {L nf n : Nat} {thaw : List Nat} {live m : List Bool} {s : List A} {h : H} {k : Exit → List A → H → Option R} : kLoop env call L nf thaw live (lp_i_pathWord 0) m (n + 1) s h k = kCode env call L nf thaw live lp_i_pathWord S_i_pathWord_0 s h (kNext env call L nf thaw live (lp_i_pathWord 0) m n k) :=
  kLoop_step dr_i_pathWord (by kernel_rfl)

/-! slices_siftDownCmpFunc_i_Edge -/
noncomputable def S_slices_siftDownCmpFunc_i_Edge : SC := slimF Try.f196
noncomputable def lp_slices_siftDownCmpFunc_i_Edge : Nat → Code := lpOf Try.f196
theorem dr_slices_siftDownCmpFunc_i_Edge : drawsOK (codeOf Try.f196) = true := by kernel_rfl
theorem fn_slices_siftDownCmpFunc_i_Edge {L n : Nat} {args : List A} {h : H} : evCall env L (n + 1) 196 args h = kCode env (evCall env L n) L h.length [] (true :: false :: true :: true :: true :: false :: false :: false :: false :: false :: true :: false :: false :: false :: false :: false :: false :: false :: false :: false :: false :: false :: false :: false :: false :: false :: false :: false :: false :: false :: false :: false :: false :: false :: false :: false :: false :: false :: false :: false :: false :: false :: false :: false :: false :: false :: false :: false :: false :: false :: false :: false :: false :: false :: false :: false :: false :: false :: false :: false :: false :: false :: false :: false :: false :: false :: false :: false :: false :: false :: false :: false :: false :: false :: false :: false :: false :: false :: false :: false :: false :: false :: []) lp_slices_siftDownCmpFunc_i_Edge S_slices_siftDownCmpFunc_i_Edge (args ++ List.replicate (Try.f196.ntmps - args.length) (.d .undef)) h (kFin env.P h.length false []) :=
  fn_eq2 (mode := 0) (by kernel_rfl) Try.func196 (by kernel_rfl) (by kernel_rfl) dr_slices_siftDownCmpFunc_i_Edge (by kernel_rfl) (by kernel_rfl)
noncomputable def S_slices_siftDownCmpFunc_i_Edge_0 : SC := slimL Try.f196 0
theorem step_slices_siftDownCmpFunc_i_Edge_0 {R : Type} {call : CallF} {L nf n : Nat} {thaw : List Nat} {live m : List Bool} {s : List A} {h : H} {k : Exit → List A → H → Option R} : kLoop env call L nf thaw live (lp_slices_siftDownCmpFunc_i_Edge 0) m (n + 1) s h k = kCode env call L nf thaw live lp_slices_siftDownCmpFunc_i_Edge S_slices_siftDownCmpFunc_i_Edge_0 s h (kNext env call L nf thaw live (lp_slices_siftDownCmpFunc_i_Edge 0) m n k) :=
  kLoop_step dr_slices_siftDownCmpFunc_i_Edge (by kernel_rfl)

/-! slices_nextPowerOfTwo -/
noncomputable def S_slices_nextPowerOfTwo : SC := slimF Try.f197
noncomputable def lp_slices_nextPowerOfTwo : Nat → Code := lpOf Try.f197
theorem dr_slices_nextPowerOfTwo : drawsOK (codeOf Try.f197) = true := by kernel_rfl
theorem fn_slices_nextPowerOfTwo {L n : Nat} {args : List A} {h : H} : evCall env L (n + 1) 197 args h = kCode env (evCall env L n) L h.length [] ([]) lp_slices_nextPowerOfTwo S_slices_nextPowerOfTwo (args ++ List.replicate (Try.f197.ntmps - args.length) (.d .undef)) h (kFin env.P h.length false [.tmp 2]) :=
  fn_eq2 (mode := 1) (by kernel_rfl) Try.func197 (by kernel_rfl) (by kernel_rfl) dr_slices_nextPowerOfTwo (by kernel_rfl) (by kernel_rfl)

/-! slices_medianAdjacentCmpFunc_i_Edge -/
noncomputable def S_slices_medianAdjacentCmpFunc_i_Edge : SC := slimF Try.f199
noncomputable def lp_slices_medianAdjacentCmpFunc_i_Edge : Nat → Code := lpOf Try.f199
theorem dr_slices_medianAdjacentCmpFunc_i_Edge : drawsOK (codeOf Try.f199) = true := by kernel_rfl
theorem fn_slices_medianAdjacentCmpFunc_i_Edge {L n : Nat} {args : List A} {h : H} : evCall env L (n + 1) 199 args h = kCode env (evCall env L n) L h.length [] ([]) lp_slices_medianAdjacentCmpFunc_i_Edge S_slices_medianAdjacentCmpFunc_i_Edge (args ++ List.replicate (Try.f199.ntmps - args.length) (.d .undef)) h (kFin env.P h.length false [.tmp 8]) :=
  fn_eq2 (mode := 0) (by kernel_rfl) Try.func199 (by kernel_rfl) (by kernel_rfl) dr_slices_medianAdjacentCmpFunc_i_Edge (by kernel_rfl) (by kernel_rfl)

/-! slices_medianCmpFunc_i_Edge -/
noncomputable def S_slices_medianCmpFunc_i_Edge : SC := slimF Try.f200
noncomputable def lp_slices_medianCmpFunc_i_Edge : Nat → Code := lpOf Try.f200
theorem dr_slices_medianCmpFunc_i_Edge : drawsOK (codeOf Try.f200) = true := by kernel_rfl
theorem fn_slices_medianCmpFunc_i_Edge {L n : Nat} {args : List A} {h : H} : evCall env L (n + 1) 200 args h = kCode env (evCall env L n) L h.length [] ([]) lp_slices_medianCmpFunc_i_Edge S_slices_medianCmpFunc_i_Edge (args ++ List.replicate (Try.f200.ntmps - args.length) (.d .undef)) h (kFin env.P h.length false [.tmp 12]) :=
  fn_eq2 (mode := 0) (by kernel_rfl) Try.func200 (by kernel_rfl) (by kernel_rfl) dr_slices_medianCmpFunc_i_Edge (by kernel_rfl) (by kernel_rfl)

/-! s_FormatAlphabet -/
noncomputable def S_s_FormatAlphabet : SC := slimF Try.f201
noncomputable def lp_s_FormatAlphabet : Nat → Code := lpOf Try.f201
theorem dr_s_FormatAlphabet : drawsOK (codeOf Try.f201) = true := by kernel_rfl
theorem fn_s_FormatAlphabet {L n : Nat} {args : List A} {h : H} : evCall env L (n + 1) 201 args h = kCode env (evCall env L n) L h.length [] (false :: false :: true :: true :: true :: true :: false :: false :: false :: false :: false :: false :: false :: false :: false :: false :: false :: false :: false :: false :: false :: false :: false :: false :: false :: false :: false :: []) lp_s_FormatAlphabet S_s_FormatAlphabet (args ++ List.replicate (Try.f201.ntmps - args.length) (.d .undef)) h (kFin env.P h.length false [.tmp 2]) :=
  fn_eq2 (mode := 1) (by kernel_rfl) Try.func201 (by kernel_rfl) (by kernel_rfl) dr_s_FormatAlphabet (by kernel_rfl) (by kernel_rfl)
noncomputable def S_s_FormatAlphabet_0 : SC := slimL Try.f201 0
theorem step_s_FormatAlphabet_0 {R : Type} {call : CallF} {L nf n : Nat} {thaw : List Nat} {live m : List Bool} {s : List A} {h : H} {k : Exit → List A → H → Option R} : kLoop env call L nf thaw live (lp_s_FormatAlphabet 0) m (n + 1) s h k = kCode env call L nf thaw live lp_s_FormatAlphabet S_s_FormatAlphabet_0 s h (kNext env call L nf thaw live (lp_s_FormatAlphabet 0) m n k) :=
  kLoop_step dr_s_FormatAlphabet (by kernel_rfl)

/-! s_l19Dec -/
noncomputable def S_s_l19Dec : SC := slimF Try.f202
noncomputable def lp_s_l19Dec : Nat → Code := lpOf Try.f202
theorem dr_s_l19Dec : drawsOK (codeOf Try.f202) = true := by kernel_rfl
theorem fn_s_l19Dec {L n : Nat} {args : List A} {h : H} : evCall env L (n + 1) 202 args h = kCode env (evCall env L n) L h.length [] (true :: false :: true :: true :: false :: false :: false :: false :: false :: false :: false :: false :: false :: false :: false :: false :: false :: false :: false :: false :: false :: false :: false :: false :: false :: false :: false :: false :: false :: false :: false :: []) lp_s_l19Dec S_s_l19Dec (args ++ List.replicate (Try.f202.ntmps - args.length) (.d .undef)) h (kFin env.P h.length false [.tmp 2]) :=
  fn_eq2 (mode := 1) (by kernel_rfl) Try.func202 (by kernel_rfl) (by kernel_rfl) dr_s_l19Dec (by kernel_rfl) (by kernel_rfl)
noncomputable def S_s_l19Dec_0 : SC := slimL Try.f202 0
theorem step_s_l19Dec_0 {R : Type} {call : CallF} {L nf n : Nat} {thaw : List Nat} {live m : List Bool} {s : List A} {h : H} {k : Exit → List A → H → Option R} : kLoop env call L nf thaw live (lp_s_l19Dec 0) m (n + 1) s h k = kCode env call L nf thaw live lp_s_l19Dec S_s_l19Dec_0 s h (kNext env call L nf thaw live (lp_s_l19Dec 0) m n k) :=
  kLoop_step dr_s_l19Dec (by kernel_rfl)

/-! s_l4Choices -/
noncomputable def S_s_l4Choices : SC := slimF Try.f203
noncomputable def lp_s_l4Choices : Nat → Code := lpOf Try.f203
theorem dr_s_l4Choices : drawsOK (codeOf Try.f203) = true := by kernel_rfl
theorem fn_s_l4Choices {L n : Nat} {args : List A} {h : H} : evCall env L (n + 1) 203 args h = kCode env (evCall env L n) L h.length [] (false :: false :: true :: true :: false :: false :: false :: false :: true :: true :: true :: true :: false :: false :: false :: false :: false :: false :: false :: false :: false :: false :: false :: false :: false :: false :: false :: false :: false :: false :: false :: false :: false :: false :: false :: false :: false :: false :: false :: false :: false :: false :: false :: false :: false :: false :: false :: false :: false :: false :: false :: false :: false :: false :: false :: false :: false :: false :: false :: false :: false :: false :: false :: false :: false :: false :: false :: false :: false :: false :: false :: false :: false :: false :: false :: false :: false :: false :: false :: []) lp_s_l4Choices S_s_l4Choices (args ++ List.replicate (Try.f203.ntmps - args.length) (.d .undef)) h (kFin env.P h.length false [.tmp 8]) :=
  fn_eq2 (mode := 2) (by kernel_rfl) Try.func203 (by kernel_rfl) (by kernel_rfl) dr_s_l4Choices (by kernel_rfl) (by kernel_rfl)
noncomputable def S_s_l4Choices_0 : SC := slimL Try.f203 0
theorem step_s_l4Choices_0 {R : Type} {call : CallF} {L nf n : Nat} {thaw : List Nat} {live m : List Bool} {s : List A} {h : H} {k : Exit → List A → H → Option R} : kLoop env call L nf thaw live (lp_s_l4Choices 0) m (n + 1) s h k = kCode env call L nf thaw live lp_s_l4Choices S_s_l4Choices_0 s h (kNext env call L nf thaw live (lp_s_l4Choices 0) m n k) :=
  kLoop_step dr_s_l4Choices (by kernel_rfl)

/-! slices_order2CmpFunc_i_Edge -/
noncomputable def S_slices_order2CmpFunc_i_Edge : SC := slimF Try.f204
noncomputable def lp_slices_order2CmpFunc_i_Edge : Nat → Code := lpOf Try.f204
theorem dr_slices_order2CmpFunc_i_Edge : drawsOK (codeOf Try.f204) = true := by kernel_rfl
theorem fn_slices_order2CmpFunc_i_Edge {L n : Nat} {args : List A} {h : H} : evCall env L (n + 1) 204 args h = kCode env (evCall env L n) L h.length [] ([]) lp_slices_order2CmpFunc_i_Edge S_slices_order2CmpFunc_i_Edge (args ++ List.replicate (Try.f204.ntmps - args.length) (.d .undef)) h (kFin env.P h.length false [.tmp 10, .tmp 11]) :=
  fn_eq2 (mode := 0) (by kernel_rfl) Try.func204 (by kernel_rfl) (by kernel_rfl) dr_slices_order2CmpFunc_i_Edge (by kernel_rfl) (by kernel_rfl)

end Ev
end Go.Proofs.Ytidobgmklcbcpaa
