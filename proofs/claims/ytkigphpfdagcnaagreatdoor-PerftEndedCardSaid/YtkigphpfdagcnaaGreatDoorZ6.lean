/- Part 6 of the texts under the proof: an abstract interpreter, the summaries of functions, plain laws. -/
import Derived.Test.YtkigphpfdagcnaaGreatDoorZ5
import Derived.Shelf.SlicesE.Clone
import Derived.Shelf.SlicesQ.IndexFunc
import Derived.Sort.WalkB12
import Derived.Shelf.SlicesQ.Load
import Derived.Lib.SliceRun
import Derived.Lib.SlKept
import Derived.Lib.Hide
import Derived.Shelf.SlicesE.DeleteFunc
set_option linter.unusedSectionVars false
set_option linter.unusedVariables false
set_option linter.unusedSimpArgs false
set_option linter.unnecessarySimpa false
section
namespace Kz
open Go Go.RowKit Go.Proofs
set_option maxRecDepth 100000
set_option maxHeartbeats 4000000
noncomputable def K17 : List (Nat × List (Nat × List Nat)) := [(17, [(0, (0 :: 1 :: (rn 5 43 []))), (1, (0 :: 1 :: (rn 5 8 (rn 14 34 [])))), (2, (rn 0 4 (rn 6 42 []))), (3, (rn 0 4 (5 :: (rn 7 41 [])))), (4, (rn 0 4 (5 :: (rn 7 30 (rn 39 9 []))))), (5, (rn 0 4 (5 :: (rn 7 30 (rn 40 8 []))))), (6, (rn 0 4 (5 :: 7 :: (rn 9 28 (rn 39 9 []))))), (7, (rn 0 4 (5 :: (rn 7 30 (rn 39 9 []))))), (8, (rn 0 4 (5 :: (rn 7 30 (rn 39 9 []))))), (9, (rn 0 4 (rn 6 42 [])))]), (40, [(0, (1 :: (rn 3 153 []))), (1, (1 :: (rn 3 11 (rn 15 141 [])))), (2, (1 :: (rn 3 153 []))), (3, (1 :: (rn 3 153 []))), (4, (1 :: (rn 3 45 (rn 49 107 [])))), (5, (rn 0 156 [])), (6, (1 :: (rn 3 61 (rn 65 91 [])))), (7, (1 :: (rn 5 151 []))), (8, (1 :: (rn 5 151 []))), (9, (rn 0 156 [])), (10, (1 :: (rn 3 116 (rn 120 36 [])))), (11, (1 :: (rn 3 153 []))), (12, (rn 0 156 []))]), (41, [(0, (0 :: (rn 2 12 (rn 20 79 (rn 110 53 (rn 171 17 [])))))), (1, (0 :: (rn 2 18 (rn 21 78 (rn 110 53 (rn 171 17 [])))))), (2, (0 :: (rn 3 96 (rn 110 53 (rn 171 17 []))))), (3, (0 :: (rn 3 23 (rn 27 72 (rn 110 53 (rn 171 17 [])))))), (4, (0 :: 3 :: (rn 5 183 []))), (5, (0 :: 2 :: 3 :: (rn 5 42 (rn 48 140 [])))), (6, (0 :: 2 :: 3 :: (rn 5 183 []))), (7, (rn 0 188 [])), (8, (0 :: (rn 3 77 (rn 81 18 (rn 110 53 (rn 171 17 [])))))), (9, (0 :: 3 :: 4 :: 5 :: (rn 7 92 (rn 110 53 (rn 171 17 []))))), (10, (0 :: 3 :: 4 :: 5 :: (rn 7 103 (rn 111 52 (rn 171 17 []))))), (11, (0 :: 3 :: 4 :: 5 :: (rn 7 156 (rn 171 17 [])))), (12, (0 :: (rn 3 160 (rn 171 17 [])))), (13, (0 :: (rn 3 160 (rn 171 17 [])))), (14, (0 :: (rn 3 160 (rn 171 17 [])))), (15, (0 :: (rn 2 169 (rn 172 16 [])))), (16, (rn 0 188 []))]), (42, [(0, (rn 1 15 (rn 17 24 []))), (1, (rn 1 27 (rn 31 10 []))), (2, (rn 1 27 (rn 32 9 []))), (3, (1 :: 2 :: (rn 4 24 (rn 31 10 [])))), (4, (rn 1 27 (rn 31 10 []))), (5, (rn 1 27 (rn 31 10 [])))]), (43, [(0, (rn 1 17 (rn 19 35 (rn 56 14 (86 :: 87 :: 88 :: 91 :: 92 :: 99 :: 100 :: (rn 111 10 [])))))), (1, (rn 1 53 (rn 56 14 (86 :: 87 :: 88 :: 91 :: 92 :: 99 :: 100 :: (rn 111 10 []))))), (2, (1 :: (rn 3 51 (rn 56 14 (86 :: 87 :: 88 :: 91 :: 92 :: 99 :: 100 :: (rn 111 10 [])))))), (3, (1 :: (rn 3 28 (rn 32 22 (rn 56 14 (86 :: 87 :: 88 :: 91 :: 92 :: 99 :: 100 :: (rn 111 10 []))))))), (4, (1 :: (rn 3 51 (rn 56 14 (86 :: 87 :: 88 :: 91 :: 92 :: 99 :: 100 :: (rn 111 10 [])))))), (5, (1 :: (rn 4 50 (rn 56 14 (86 :: 87 :: 88 :: 91 :: 92 :: 99 :: 100 :: (rn 111 10 [])))))), (6, (1 :: (rn 4 42 (rn 48 6 (rn 56 14 (86 :: 87 :: 88 :: 91 :: 92 :: 99 :: 100 :: (rn 111 10 []))))))), (7, (1 :: (rn 4 42 (rn 49 5 (rn 56 14 (86 :: 87 :: 88 :: 91 :: 92 :: 99 :: 100 :: (rn 111 10 []))))))), (8, (1 :: (rn 6 40 (rn 48 6 (rn 56 14 (86 :: 87 :: 88 :: 91 :: 92 :: 99 :: 100 :: (rn 111 10 []))))))), (9, (1 :: (rn 6 40 (rn 48 6 (rn 57 13 (86 :: 87 :: 88 :: 91 :: 92 :: 99 :: 100 :: (rn 111 10 []))))))), (10, (1 :: 5 :: (rn 7 39 (rn 48 6 (rn 56 14 (86 :: 87 :: 88 :: 91 :: 92 :: 99 :: 100 :: (rn 111 10 []))))))), (11, (1 :: 5 :: (rn 8 38 (rn 48 6 (rn 56 14 (86 :: 87 :: 88 :: 91 :: 92 :: 99 :: 100 :: (rn 111 10 []))))))), (12, (1 :: (rn 5 41 (rn 48 6 (rn 56 14 (86 :: 87 :: 88 :: 91 :: 92 :: 99 :: 100 :: (rn 112 9 []))))))), (13, (1 :: (rn 4 42 (rn 48 6 (rn 56 14 (86 :: 87 :: 88 :: 91 :: 92 :: 99 :: 100 :: (rn 111 10 []))))))), (14, (1 :: (rn 4 42 (rn 48 6 (rn 56 14 (86 :: 87 :: 88 :: 91 :: 92 :: 99 :: 100 :: (rn 111 10 [])))))))]), (44, [(0, (rn 1 11 (18 :: 19 :: (rn 46 18 (rn 73 39 []))))), (1, (rn 1 45 (rn 47 17 (rn 73 39 [])))), (2, (1 :: (rn 3 61 (rn 73 39 [])))), (3, (rn 1 72 (rn 74 38 []))), (4, (1 :: 2 :: (rn 4 108 []))), (5, (1 :: 2 :: (rn 4 102 (rn 107 5 [])))), (6, (rn 0 112 []))]), (45, [(0, (rn 1 15 (rn 21 21 []))), (1, (rn 1 20 (rn 22 20 []))), (2, (rn 1 41 [])), (3, (rn 1 30 (rn 32 10 []))), (4, (rn 0 42 []))]), (46, [(0, (rn 1 25 (34 :: 35 :: (rn 46 13 [])))), (1, (1 :: (rn 3 23 (34 :: 35 :: (rn 46 13 []))))), (2, (1 :: (rn 3 43 (rn 47 12 [])))), (3, (rn 0 59 []))]), (94, [(0, (rn 2 12 [])), (1, (0 :: 1 :: 2 :: (rn 4 10 [])))]), (98, [(0, (rn 1 25 [])), (1, (rn 1 7 (rn 9 17 []))), (2, (0 :: 1 :: (rn 3 23 []))), (3, (0 :: 1 :: (rn 3 23 [])))])]
noncomputable def B17_1 : Base := baseOf Pz (fun f i => lkK f i K17) [(103, G103), (38, G38), (37, G37), (39, G39), (101, G101), (89, G89), (91, G91), (92, G92), (93, G93), (95, G95), (96, G96), (97, G97), (99, G99), (100, G100), (102, G102)] [] []
theorem hB17_1 : BOk B17_1 := base_ok named_z ⟨s103, s38, s37, s39, s101, s89, s91, s92, s93, s95, s96, s97, s99, s100, s102, trivial⟩ trivial trivial
noncomputable def A17_1 (p1 : Pos) (p2 : Mv) (p3 : Pos) (p4 : Pos) (p5 : Mv) (p6 : Int) : List AV := [AV.ptr 3 0]
noncomputable def H17_1 (p1 : Pos) (p2 : Mv) (p3 : Pos) (p4 : Pos) (p5 : Mv) (p6 : Int) : Hp := Hp.mk [(pc p1 []), [AV.int .i8 p2.frm, AV.int .i8 p2.to, AV.int .u8 p2.pro, AV.int .u8 p2.drp, AV.bool p2.cas], [AV.int .u8 0, AV.ints .u8 64 (li (List.replicate 64 0)), AV.u64 0, AV.ints .u8 12 (li [0, 0, 0, 0, 0, 0, 0, 0, 0, 0, 0, 0]), AV.int .u8 0, AV.ints .i8 4 (li [0, 0, 0, 0]), AV.int .i8 0, AV.ints .u8 2 (li [0, 0]), AV.int .i64 0, AV.int .i64 0], (pc p3 (pc p4 [AV.int .i8 p5.frm, AV.int .i8 p5.to, AV.int .u8 p5.pro, AV.int .u8 p5.drp, AV.bool p5.cas, AV.int .i64 p6]))] [] [] 0 0 0
noncomputable def O17_1 (p1 : Pos) (p2 : Mv) (p3 : Pos) (p4 : Pos) (p5 : Mv) (p6 : Int) (y : (Pos)) : FRes := .ret (AV.tuple []) (Hp.mk [(pc p1 []), [AV.int .i8 p2.frm, AV.int .i8 p2.to, AV.int .u8 p2.pro, AV.int .u8 p2.drp, AV.bool p2.cas], [AV.int .u8 0, AV.ints .u8 64 (li (List.replicate 64 0)), AV.u64 0, AV.ints .u8 12 (li [0, 0, 0, 0, 0, 0, 0, 0, 0, 0, 0, 0]), AV.int .u8 0, AV.ints .i8 4 (li [0, 0, 0, 0]), AV.int .i8 0, AV.ints .u8 2 (li [0, 0]), AV.int .i64 0, AV.int .i64 0], (pc y (pc p4 [AV.int .i8 p5.frm, AV.int .i8 p5.to, AV.int .u8 p5.pro, AV.int .u8 p5.drp, AV.bool p5.cas, AV.int .i64 p6]))] [] [] 0 0 0)
noncomputable def vF17_1 (p1 : Pos) (p2 : Mv) (p3 : Pos) (p4 : Pos) (p5 : Mv) (p6 : Int) : (Pos) := (bif p5.cas then (Pos.mk p3.variant ((((p3.board.set (scale 1 p5.frm).toNat 0).set (scale 1 p5.to).toNat 0).set (scale 1 (N91 p4 p5).fst).toNat (p4.board.getD (scale 1 p5.frm).toNat 0)).set (scale 1 (N91 p4 p5).snd.fst).toNat (p4.board.getD (scale 1 p5.to).toNat 0)) p3.promoted p3.pockets p3.turn p3.rooks p3.passing p3.checks p3.half p3.full) else (bif p5.drp != 0 then (Pos.mk (N92 p3 p3.turn p5.drp).fst.variant ((N92 p3 p3.turn p5.drp).fst.board.set (scale 1 p5.to).toNat (N93 (N92 p3 p3.turn p5.drp).fst.turn p5.drp)) (N92 p3 p3.turn p5.drp).fst.promoted (N92 p3 p3.turn p5.drp).fst.pockets (N92 p3 p3.turn p5.drp).fst.turn (N92 p3 p3.turn p5.drp).fst.rooks (N92 p3 p3.turn p5.drp).fst.passing (N92 p3 p3.turn p5.drp).fst.checks (N92 p3 p3.turn p5.drp).fst.half (N92 p3 p3.turn p5.drp).fst.full) else (bif decide (p6 ≥ 0) then (bif p5.pro != 0 then (Pos.mk p3.variant ((((p3.board.set (scale 1 p6).toNat 0).set (scale 1 p5.frm).toNat 0).set (scale 1 p5.to).toNat (p4.board.getD (scale 1 p5.frm).toNat 0)).set (scale 1 p5.to).toNat (N93 p3.turn p5.pro)) p3.promoted p3.pockets p3.turn p3.rooks p3.passing p3.checks p3.half p3.full) else (Pos.mk p3.variant (((p3.board.set (scale 1 p6).toNat 0).set (scale 1 p5.frm).toNat 0).set (scale 1 p5.to).toNat (p4.board.getD (scale 1 p5.frm).toNat 0)) p3.promoted p3.pockets p3.turn p3.rooks p3.passing p3.checks p3.half p3.full)) else (bif p5.pro != 0 then (Pos.mk p3.variant (((p3.board.set (scale 1 p5.frm).toNat 0).set (scale 1 p5.to).toNat (p4.board.getD (scale 1 p5.frm).toNat 0)).set (scale 1 p5.to).toNat (N93 p3.turn p5.pro)) p3.promoted p3.pockets p3.turn p3.rooks p3.passing p3.checks p3.half p3.full) else (Pos.mk p3.variant ((p3.board.set (scale 1 p5.frm).toNat 0).set (scale 1 p5.to).toNat (p4.board.getD (scale 1 p5.frm).toNat 0)) p3.promoted p3.pockets p3.turn p3.rooks p3.passing p3.checks p3.half p3.full)))))
noncomputable def okF17_1 (p1 : Pos) (p2 : Mv) (p3 : Pos) (p4 : Pos) (p5 : Mv) (p6 : Int) : Bool := (bif p5.cas then (ok91 (p4) (p5) && (decide (0 ≤ p5.frm) && decide (p5.frm < Int.ofNat 64) && (decide (0 ≤ p5.to) && decide (p5.to < Int.ofNat 64) && (decide (0 ≤ p5.frm) && decide (p5.frm < Int.ofNat 64) && (decide (0 ≤ p5.to) && decide (p5.to < Int.ofNat 64) && (decide (0 ≤ (N91 p4 p5).fst) && decide ((N91 p4 p5).fst < Int.ofNat 64) && (decide (0 ≤ (N91 p4 p5).snd.fst) && decide ((N91 p4 p5).snd.fst < Int.ofNat 64) && true))))))) else (bif p5.drp != 0 then (ok92 (p3) (p3.turn) (p5.drp) && (decide (0 ≤ p5.to) && decide (p5.to < Int.ofNat 64) && true)) else (bif decide (p6 ≥ 0) then (decide (0 ≤ p6) && decide (p6 < Int.ofNat 64) && (decide (0 ≤ p5.frm) && decide (p5.frm < Int.ofNat 64) && (decide (0 ≤ p5.frm) && decide (p5.frm < Int.ofNat 64) && (decide (0 ≤ p5.to) && decide (p5.to < Int.ofNat 64) && (bif p5.pro != 0 then (decide (0 ≤ p5.to) && decide (p5.to < Int.ofNat 64) && true) else true))))) else (decide (0 ≤ p5.frm) && decide (p5.frm < Int.ofNat 64) && (decide (0 ≤ p5.frm) && decide (p5.frm < Int.ofNat 64) && (decide (0 ≤ p5.to) && decide (p5.to < Int.ofNat 64) && (bif p5.pro != 0 then (decide (0 ≤ p5.to) && decide (p5.to < Int.ofNat 64) && true) else true)))))))
theorem EF17_1 (p1 : Pos) (p2 : Mv) (p3 : Pos) (p4 : Pos) (p5 : Mv) (p6 : Int) : evFd B17_1 14 40 (A17_1 p1 p2 p3 p4 p5 p6) (H17_1 p1 p2 p3 p4 p5 p6) = (let z1 := [AV.int .u8 0, AV.ints .u8 64 (li (List.replicate 64 0)), AV.u64 0, AV.ints .u8 12 (li [0, 0, 0, 0, 0, 0, 0, 0, 0, 0, 0, 0]), AV.int .u8 0, AV.ints .i8 4 (li [0, 0, 0, 0]), AV.int .i8 0, AV.ints .u8 2 (li [0, 0]), AV.int .i64 0, AV.int .i64 0]; let z2 := (pc p4 [AV.int .i8 p5.frm, AV.int .i8 p5.to, AV.int .u8 p5.pro, AV.int .u8 p5.drp, AV.bool p5.cas, AV.int .i64 p6]); let z3 := [AV.int .i8 p2.frm, AV.int .i8 p2.to, AV.int .u8 p2.pro, AV.int .u8 p2.drp, AV.bool p2.cas]; let z4 := (decide (0 ≤ p5.to) && decide (p5.to < Int.ofNat 64)); let z5 := (decide (0 ≤ p5.frm) && decide (p5.frm < Int.ofNat 64)); let z6 := (N92 p3 p3.turn p5.drp); let z7 := (p4.board.getD (scale 1 p5.frm).toNat 0); let z8 := (scale 1 p5.to); let z9 := (isPS Pz 93 [AV.int .u8 p3.turn, AV.int .u8 p5.pro] ((dI .u8).res (N93 p3.turn p5.pro))); let z10 := (((p3.board.set (scale 1 p6).toNat 0).set (scale 1 p5.frm).toNat 0).set z8.toNat z7); let z11 := (p3.board.set (scale 1 p5.frm).toNat 0); Tr.br p5.cas (Tr.br (isPS Pz 91 [p4.av, p5.av] ((d3 (dI .i64) (dI .i64) dB).res (N91 p4 p5))) (Tr.br z5 (Tr.br z4 (Tr.br z5 (Tr.br z4 (Tr.br (decide (0 ≤ (N91 p4 p5).fst) && decide ((N91 p4 p5).fst < Int.ofNat 64)) (Tr.br (decide (0 ≤ (N91 p4 p5).snd.fst) && decide ((N91 p4 p5).snd.fst < Int.ofNat 64)) (Tr.ret (FRes.ret (AV.tuple []) (Hp.mk [(pc p1 []), z3, z1, (AV.int .u8 p3.variant :: AV.ints .u8 64 (((z11.set z8.toNat 0).set (scale 1 (N91 p4 p5).fst).toNat z7).set (scale 1 (N91 p4 p5).snd.fst).toNat (p4.board.getD z8.toNat 0)) :: AV.u64 p3.promoted :: AV.ints .u8 12 p3.pockets :: AV.int .u8 p3.turn :: AV.ints .i8 4 p3.rooks :: AV.int .i8 p3.passing :: AV.ints .u8 2 p3.checks :: AV.int .i64 p3.half :: AV.int .i64 p3.full :: z2)] [] [] 0 0 0))) Tr.fail) Tr.fail) Tr.fail) Tr.fail) Tr.fail) Tr.fail) Tr.fail) (Tr.br (p5.drp != 0) (Tr.br (isPS Pz 92 [p3.av, AV.int .u8 p3.turn, AV.int .u8 p5.drp] ((d2 dPos dB).res z6)) (Tr.br (isPS Pz 93 [AV.int .u8 z6.fst.turn, AV.int .u8 p5.drp] ((dI .u8).res (N93 z6.fst.turn p5.drp))) (Tr.br z4 (Tr.ret (FRes.ret (AV.tuple []) (Hp.mk [(pc p1 []), z3, z1, (AV.int .u8 z6.fst.variant :: AV.ints .u8 64 (z6.fst.board.set z8.toNat (N93 z6.fst.turn p5.drp)) :: AV.u64 z6.fst.promoted :: AV.ints .u8 12 z6.fst.pockets :: AV.int .u8 z6.fst.turn :: AV.ints .i8 4 z6.fst.rooks :: AV.int .i8 z6.fst.passing :: AV.ints .u8 2 z6.fst.checks :: AV.int .i64 z6.fst.half :: AV.int .i64 z6.fst.full :: z2)] [] [] 0 0 0))) Tr.fail) Tr.fail) Tr.fail) (Tr.br (decide (p6 ≥ 0)) (Tr.br (decide (0 ≤ p6) && decide (p6 < Int.ofNat 64)) (Tr.br z5 (Tr.br z5 (Tr.br z4 (Tr.br (p5.pro != 0) (Tr.br z9 (Tr.br z4 (Tr.ret (FRes.ret (AV.tuple []) (Hp.mk [(pc p1 []), z3, z1, (AV.int .u8 p3.variant :: AV.ints .u8 64 (z10.set z8.toNat (N93 p3.turn p5.pro)) :: AV.u64 p3.promoted :: AV.ints .u8 12 p3.pockets :: AV.int .u8 p3.turn :: AV.ints .i8 4 p3.rooks :: AV.int .i8 p3.passing :: AV.ints .u8 2 p3.checks :: AV.int .i64 p3.half :: AV.int .i64 p3.full :: z2)] [] [] 0 0 0))) Tr.fail) Tr.fail) (Tr.ret (FRes.ret (AV.tuple []) (Hp.mk [(pc p1 []), z3, z1, (AV.int .u8 p3.variant :: AV.ints .u8 64 z10 :: AV.u64 p3.promoted :: AV.ints .u8 12 p3.pockets :: AV.int .u8 p3.turn :: AV.ints .i8 4 p3.rooks :: AV.int .i8 p3.passing :: AV.ints .u8 2 p3.checks :: AV.int .i64 p3.half :: AV.int .i64 p3.full :: z2)] [] [] 0 0 0)))) Tr.fail) Tr.fail) Tr.fail) Tr.fail) (Tr.br z5 (Tr.br z5 (Tr.br z4 (Tr.br (p5.pro != 0) (Tr.br z9 (Tr.br z4 (Tr.ret (FRes.ret (AV.tuple []) (Hp.mk [(pc p1 []), z3, z1, (AV.int .u8 p3.variant :: AV.ints .u8 64 ((z11.set z8.toNat z7).set z8.toNat (N93 p3.turn p5.pro)) :: AV.u64 p3.promoted :: AV.ints .u8 12 p3.pockets :: AV.int .u8 p3.turn :: AV.ints .i8 4 p3.rooks :: AV.int .i8 p3.passing :: AV.ints .u8 2 p3.checks :: AV.int .i64 p3.half :: AV.int .i64 p3.full :: z2)] [] [] 0 0 0))) Tr.fail) Tr.fail) (Tr.ret (FRes.ret (AV.tuple []) (Hp.mk [(pc p1 []), z3, z1, (AV.int .u8 p3.variant :: AV.ints .u8 64 (z11.set z8.toNat z7) :: AV.u64 p3.promoted :: AV.ints .u8 12 p3.pockets :: AV.int .u8 p3.turn :: AV.ints .i8 4 p3.rooks :: AV.int .i8 p3.passing :: AV.ints .u8 2 p3.checks :: AV.int .i64 p3.half :: AV.int .i64 p3.full :: z2)] [] [] 0 0 0)))) Tr.fail) Tr.fail) Tr.fail)))) := by kernel_rfl
theorem PF17_1 (p1 : Pos) (p2 : Mv) (p3 : Pos) (p4 : Pos) (p5 : Mv) (p6 : Int) (h : okF17_1 p1 p2 p3 p4 p5 p6 = true) : FSpec Pz 40 (A17_1 p1 p2 p3 p4 p5 p6) (H17_1 p1 p2 p3 p4 p5 p6) (O17_1 p1 p2 p3 p4 p5 p6 (vF17_1 p1 p2 p3 p4 p5 p6)) ∧ ∃ fn, Pz.funcs[40]? = some fn ∧ fn.body.isSome = true := fs_gotd (O := O17_1 p1 p2 p3 p4 p5 p6) hB17_1 (EF17_1 p1 p2 p3 p4 p5 p6) (gr_br (gr_call (P91 (p4) (p5)) (gr_guard (gr_guard (gr_guard (gr_guard (gr_guard (gr_guard (gr_ret (rf_ret rfl (wk_nrm (ks := []) (gs := []) (b := true) rfl (by kernel_rfl))))))))))) (gr_br (gr_call (P92 (p3) (p3.turn) (p5.drp)) (gr_callT (P93 ((N92 p3 p3.turn p5.drp).fst.turn) (p5.drp) rfl) (gr_guard (gr_ret (rf_ret rfl (wk_nrm (ks := []) (gs := []) (b := true) rfl (by kernel_rfl))))))) (gr_br (gr_guard (gr_guard (gr_guard (gr_guard (gr_br (gr_callT (P93 (p3.turn) (p5.pro) rfl) (gr_guard (gr_ret (rf_ret rfl (wk_nrm (ks := []) (gs := []) (b := true) rfl (by kernel_rfl)))))) (gr_ret (rf_ret rfl (wk_nrm (ks := []) (gs := []) (b := true) rfl (by kernel_rfl))))))))) (gr_guard (gr_guard (gr_guard (gr_br (gr_callT (P93 (p3.turn) (p5.pro) rfl) (gr_guard (gr_ret (rf_ret rfl (wk_nrm (ks := []) (gs := []) (b := true) rfl (by kernel_rfl)))))) (gr_ret (rf_ret rfl (wk_nrm (ks := []) (gs := []) (b := true) rfl (by kernel_rfl))))))))))) h
noncomputable def FF17_1 : List AV → Hp → Tr FRes := sureF Pz 40 (fun xs h => O17_1 (Kz.Pos.mk (tI (tH ⟨xs, h⟩ 0 0)) (tN (tH ⟨xs, h⟩ 0 1)) (tU (tH ⟨xs, h⟩ 0 2)) (tN (tH ⟨xs, h⟩ 0 3)) (tI (tH ⟨xs, h⟩ 0 4)) (tN (tH ⟨xs, h⟩ 0 5)) (tI (tH ⟨xs, h⟩ 0 6)) (tN (tH ⟨xs, h⟩ 0 7)) (tI (tH ⟨xs, h⟩ 0 8)) (tI (tH ⟨xs, h⟩ 0 9))) (Kz.Mv.mk (tI (tH ⟨xs, h⟩ 1 0)) (tI (tH ⟨xs, h⟩ 1 1)) (tI (tH ⟨xs, h⟩ 1 2)) (tI (tH ⟨xs, h⟩ 1 3)) (tB (tH ⟨xs, h⟩ 1 4))) (Kz.Pos.mk (tI (tH ⟨xs, h⟩ 3 0)) (tN (tH ⟨xs, h⟩ 3 1)) (tU (tH ⟨xs, h⟩ 3 2)) (tN (tH ⟨xs, h⟩ 3 3)) (tI (tH ⟨xs, h⟩ 3 4)) (tN (tH ⟨xs, h⟩ 3 5)) (tI (tH ⟨xs, h⟩ 3 6)) (tN (tH ⟨xs, h⟩ 3 7)) (tI (tH ⟨xs, h⟩ 3 8)) (tI (tH ⟨xs, h⟩ 3 9))) (Kz.Pos.mk (tI (tH ⟨xs, h⟩ 3 10)) (tN (tH ⟨xs, h⟩ 3 11)) (tU (tH ⟨xs, h⟩ 3 12)) (tN (tH ⟨xs, h⟩ 3 13)) (tI (tH ⟨xs, h⟩ 3 14)) (tN (tH ⟨xs, h⟩ 3 15)) (tI (tH ⟨xs, h⟩ 3 16)) (tN (tH ⟨xs, h⟩ 3 17)) (tI (tH ⟨xs, h⟩ 3 18)) (tI (tH ⟨xs, h⟩ 3 19))) (Kz.Mv.mk (tI (tH ⟨xs, h⟩ 3 20)) (tI (tH ⟨xs, h⟩ 3 21)) (tI (tH ⟨xs, h⟩ 3 22)) (tI (tH ⟨xs, h⟩ 3 23)) (tB (tH ⟨xs, h⟩ 3 24))) (tI (tH ⟨xs, h⟩ 3 25)) (vF17_1 (Kz.Pos.mk (tI (tH ⟨xs, h⟩ 0 0)) (tN (tH ⟨xs, h⟩ 0 1)) (tU (tH ⟨xs, h⟩ 0 2)) (tN (tH ⟨xs, h⟩ 0 3)) (tI (tH ⟨xs, h⟩ 0 4)) (tN (tH ⟨xs, h⟩ 0 5)) (tI (tH ⟨xs, h⟩ 0 6)) (tN (tH ⟨xs, h⟩ 0 7)) (tI (tH ⟨xs, h⟩ 0 8)) (tI (tH ⟨xs, h⟩ 0 9))) (Kz.Mv.mk (tI (tH ⟨xs, h⟩ 1 0)) (tI (tH ⟨xs, h⟩ 1 1)) (tI (tH ⟨xs, h⟩ 1 2)) (tI (tH ⟨xs, h⟩ 1 3)) (tB (tH ⟨xs, h⟩ 1 4))) (Kz.Pos.mk (tI (tH ⟨xs, h⟩ 3 0)) (tN (tH ⟨xs, h⟩ 3 1)) (tU (tH ⟨xs, h⟩ 3 2)) (tN (tH ⟨xs, h⟩ 3 3)) (tI (tH ⟨xs, h⟩ 3 4)) (tN (tH ⟨xs, h⟩ 3 5)) (tI (tH ⟨xs, h⟩ 3 6)) (tN (tH ⟨xs, h⟩ 3 7)) (tI (tH ⟨xs, h⟩ 3 8)) (tI (tH ⟨xs, h⟩ 3 9))) (Kz.Pos.mk (tI (tH ⟨xs, h⟩ 3 10)) (tN (tH ⟨xs, h⟩ 3 11)) (tU (tH ⟨xs, h⟩ 3 12)) (tN (tH ⟨xs, h⟩ 3 13)) (tI (tH ⟨xs, h⟩ 3 14)) (tN (tH ⟨xs, h⟩ 3 15)) (tI (tH ⟨xs, h⟩ 3 16)) (tN (tH ⟨xs, h⟩ 3 17)) (tI (tH ⟨xs, h⟩ 3 18)) (tI (tH ⟨xs, h⟩ 3 19))) (Kz.Mv.mk (tI (tH ⟨xs, h⟩ 3 20)) (tI (tH ⟨xs, h⟩ 3 21)) (tI (tH ⟨xs, h⟩ 3 22)) (tI (tH ⟨xs, h⟩ 3 23)) (tB (tH ⟨xs, h⟩ 3 24))) (tI (tH ⟨xs, h⟩ 3 25))))
theorem sFF17_1 : FSound Pz 40 FF17_1 := sureF_sound
noncomputable def B17_2 : Base := baseOf Pz (fun f i => lkK f i K17) [(103, G103), (38, G38), (37, G37), (39, G39), (101, G101), (89, G89), (91, G91), (92, G92), (93, G93), (95, G95), (96, G96), (97, G97), (99, G99), (100, G100), (102, G102)] [] [(40, FF17_1)]
theorem hB17_2 : BOk B17_2 := base_ok named_z ⟨s103, s38, s37, s39, s101, s89, s91, s92, s93, s95, s96, s97, s99, s100, s102, trivial⟩ trivial ⟨sFF17_1, trivial⟩
noncomputable def A17_2 (p1 : Pos) (p2 : Mv) (p3 : Pos) (p4 : Pos) (p5 : Mv) (p6 : Int) : List AV := [AV.ptr 3 0]
noncomputable def H17_2 (p1 : Pos) (p2 : Mv) (p3 : Pos) (p4 : Pos) (p5 : Mv) (p6 : Int) : Hp := Hp.mk [(pc p1 []), [AV.int .i8 p2.frm, AV.int .i8 p2.to, AV.int .u8 p2.pro, AV.int .u8 p2.drp, AV.bool p2.cas], [AV.int .u8 0, AV.ints .u8 64 (li (List.replicate 64 0)), AV.u64 0, AV.ints .u8 12 (li [0, 0, 0, 0, 0, 0, 0, 0, 0, 0, 0, 0]), AV.int .u8 0, AV.ints .i8 4 (li [0, 0, 0, 0]), AV.int .i8 0, AV.ints .u8 2 (li [0, 0]), AV.int .i64 0, AV.int .i64 0], (pc p3 (pc p4 [AV.int .i8 p5.frm, AV.int .i8 p5.to, AV.int .u8 p5.pro, AV.int .u8 p5.drp, AV.bool p5.cas, AV.int .i64 p6]))] [] [] 0 0 0
noncomputable def O17_2 (p1 : Pos) (p2 : Mv) (p3 : Pos) (p4 : Pos) (p5 : Mv) (p6 : Int) (y : (Pos)) : FRes := .ret (AV.tuple []) (Hp.mk [(pc p1 []), [AV.int .i8 p2.frm, AV.int .i8 p2.to, AV.int .u8 p2.pro, AV.int .u8 p2.drp, AV.bool p2.cas], [AV.int .u8 0, AV.ints .u8 64 (li (List.replicate 64 0)), AV.u64 0, AV.ints .u8 12 (li [0, 0, 0, 0, 0, 0, 0, 0, 0, 0, 0, 0]), AV.int .u8 0, AV.ints .i8 4 (li [0, 0, 0, 0]), AV.int .i8 0, AV.ints .u8 2 (li [0, 0]), AV.int .i64 0, AV.int .i64 0], (pc y (pc p4 [AV.int .i8 p5.frm, AV.int .i8 p5.to, AV.int .u8 p5.pro, AV.int .u8 p5.drp, AV.bool p5.cas, AV.int .i64 p6]))] [] [] 0 0 0)
noncomputable def vF17_2 (p1 : Pos) (p2 : Mv) (p3 : Pos) (p4 : Pos) (p5 : Mv) (p6 : Int) : (Pos) := (bif p3.variant != 2 then (p3) else (bif p5.drp != 0 then (p3) else (bif p5.cas then (bif p4.promoted >>> (BitVec.ofInt 64 (wr .i64 p5.to)).toNat &&& 1#64 == 1#64 then (Pos.mk p3.variant p3.board (p3.promoted &&& ~~~(1#64 <<< (BitVec.ofInt 64 p5.to).toNat) ||| 1#64 <<< (BitVec.ofInt 64 (N91 p4 p5).snd.fst).toNat) p3.pockets p3.turn p3.rooks p3.passing p3.checks p3.half p3.full) else (p3)) else (bif decide (p6 ≥ 0) then (bif p4.promoted >>> (BitVec.ofInt 64 p6).toNat &&& 1#64 == 1#64 then (bif p4.board.getD (scale 1 p6).toNat 0 != 0 then (bif p5.pro != 0 then (Pos.mk (N95 p3 p3.turn 1).variant (N95 p3 p3.turn 1).board ((N95 p3 p3.turn 1).promoted &&& ~~~(1#64 <<< (BitVec.ofInt 64 p6).toNat) &&& ~~~(1#64 <<< (BitVec.ofInt 64 p5.frm).toNat) ||| 1#64 <<< (BitVec.ofInt 64 p5.to).toNat) (N95 p3 p3.turn 1).pockets (N95 p3 p3.turn 1).turn (N95 p3 p3.turn 1).rooks (N95 p3 p3.turn 1).passing (N95 p3 p3.turn 1).checks (N95 p3 p3.turn 1).half (N95 p3 p3.turn 1).full) else (bif p4.promoted >>> (BitVec.ofInt 64 (wr .i64 p5.frm)).toNat &&& 1#64 == 1#64 then (Pos.mk (N95 p3 p3.turn 1).variant (N95 p3 p3.turn 1).board ((N95 p3 p3.turn 1).promoted &&& ~~~(1#64 <<< (BitVec.ofInt 64 p6).toNat) &&& ~~~(1#64 <<< (BitVec.ofInt 64 p5.frm).toNat) ||| 1#64 <<< (BitVec.ofInt 64 p5.to).toNat) (N95 p3 p3.turn 1).pockets (N95 p3 p3.turn 1).turn (N95 p3 p3.turn 1).rooks (N95 p3 p3.turn 1).passing (N95 p3 p3.turn 1).checks (N95 p3 p3.turn 1).half (N95 p3 p3.turn 1).full) else (Pos.mk (N95 p3 p3.turn 1).variant (N95 p3 p3.turn 1).board ((N95 p3 p3.turn 1).promoted &&& ~~~(1#64 <<< (BitVec.ofInt 64 p6).toNat) &&& ~~~(1#64 <<< (BitVec.ofInt 64 p5.frm).toNat)) (N95 p3 p3.turn 1).pockets (N95 p3 p3.turn 1).turn (N95 p3 p3.turn 1).rooks (N95 p3 p3.turn 1).passing (N95 p3 p3.turn 1).checks (N95 p3 p3.turn 1).half (N95 p3 p3.turn 1).full))) else (bif p5.pro != 0 then (Pos.mk (N95 p3 p3.turn (N89 (p4.board.getD (scale 1 p6).toNat 0))).variant (N95 p3 p3.turn (N89 (p4.board.getD (scale 1 p6).toNat 0))).board ((N95 p3 p3.turn (N89 (p4.board.getD (scale 1 p6).toNat 0))).promoted &&& ~~~(1#64 <<< (BitVec.ofInt 64 p6).toNat) &&& ~~~(1#64 <<< (BitVec.ofInt 64 p5.frm).toNat) ||| 1#64 <<< (BitVec.ofInt 64 p5.to).toNat) (N95 p3 p3.turn (N89 (p4.board.getD (scale 1 p6).toNat 0))).pockets (N95 p3 p3.turn (N89 (p4.board.getD (scale 1 p6).toNat 0))).turn (N95 p3 p3.turn (N89 (p4.board.getD (scale 1 p6).toNat 0))).rooks (N95 p3 p3.turn (N89 (p4.board.getD (scale 1 p6).toNat 0))).passing (N95 p3 p3.turn (N89 (p4.board.getD (scale 1 p6).toNat 0))).checks (N95 p3 p3.turn (N89 (p4.board.getD (scale 1 p6).toNat 0))).half (N95 p3 p3.turn (N89 (p4.board.getD (scale 1 p6).toNat 0))).full) else (bif p4.promoted >>> (BitVec.ofInt 64 (wr .i64 p5.frm)).toNat &&& 1#64 == 1#64 then (Pos.mk (N95 p3 p3.turn (N89 (p4.board.getD (scale 1 p6).toNat 0))).variant (N95 p3 p3.turn (N89 (p4.board.getD (scale 1 p6).toNat 0))).board ((N95 p3 p3.turn (N89 (p4.board.getD (scale 1 p6).toNat 0))).promoted &&& ~~~(1#64 <<< (BitVec.ofInt 64 p6).toNat) &&& ~~~(1#64 <<< (BitVec.ofInt 64 p5.frm).toNat) ||| 1#64 <<< (BitVec.ofInt 64 p5.to).toNat) (N95 p3 p3.turn (N89 (p4.board.getD (scale 1 p6).toNat 0))).pockets (N95 p3 p3.turn (N89 (p4.board.getD (scale 1 p6).toNat 0))).turn (N95 p3 p3.turn (N89 (p4.board.getD (scale 1 p6).toNat 0))).rooks (N95 p3 p3.turn (N89 (p4.board.getD (scale 1 p6).toNat 0))).passing (N95 p3 p3.turn (N89 (p4.board.getD (scale 1 p6).toNat 0))).checks (N95 p3 p3.turn (N89 (p4.board.getD (scale 1 p6).toNat 0))).half (N95 p3 p3.turn (N89 (p4.board.getD (scale 1 p6).toNat 0))).full) else (Pos.mk (N95 p3 p3.turn (N89 (p4.board.getD (scale 1 p6).toNat 0))).variant (N95 p3 p3.turn (N89 (p4.board.getD (scale 1 p6).toNat 0))).board ((N95 p3 p3.turn (N89 (p4.board.getD (scale 1 p6).toNat 0))).promoted &&& ~~~(1#64 <<< (BitVec.ofInt 64 p6).toNat) &&& ~~~(1#64 <<< (BitVec.ofInt 64 p5.frm).toNat)) (N95 p3 p3.turn (N89 (p4.board.getD (scale 1 p6).toNat 0))).pockets (N95 p3 p3.turn (N89 (p4.board.getD (scale 1 p6).toNat 0))).turn (N95 p3 p3.turn (N89 (p4.board.getD (scale 1 p6).toNat 0))).rooks (N95 p3 p3.turn (N89 (p4.board.getD (scale 1 p6).toNat 0))).passing (N95 p3 p3.turn (N89 (p4.board.getD (scale 1 p6).toNat 0))).checks (N95 p3 p3.turn (N89 (p4.board.getD (scale 1 p6).toNat 0))).half (N95 p3 p3.turn (N89 (p4.board.getD (scale 1 p6).toNat 0))).full)))) else (bif p5.pro != 0 then (Pos.mk (N95 p3 p3.turn (N89 (p4.board.getD (scale 1 p6).toNat 0))).variant (N95 p3 p3.turn (N89 (p4.board.getD (scale 1 p6).toNat 0))).board ((N95 p3 p3.turn (N89 (p4.board.getD (scale 1 p6).toNat 0))).promoted &&& ~~~(1#64 <<< (BitVec.ofInt 64 p6).toNat) &&& ~~~(1#64 <<< (BitVec.ofInt 64 p5.frm).toNat) ||| 1#64 <<< (BitVec.ofInt 64 p5.to).toNat) (N95 p3 p3.turn (N89 (p4.board.getD (scale 1 p6).toNat 0))).pockets (N95 p3 p3.turn (N89 (p4.board.getD (scale 1 p6).toNat 0))).turn (N95 p3 p3.turn (N89 (p4.board.getD (scale 1 p6).toNat 0))).rooks (N95 p3 p3.turn (N89 (p4.board.getD (scale 1 p6).toNat 0))).passing (N95 p3 p3.turn (N89 (p4.board.getD (scale 1 p6).toNat 0))).checks (N95 p3 p3.turn (N89 (p4.board.getD (scale 1 p6).toNat 0))).half (N95 p3 p3.turn (N89 (p4.board.getD (scale 1 p6).toNat 0))).full) else (bif p4.promoted >>> (BitVec.ofInt 64 (wr .i64 p5.frm)).toNat &&& 1#64 == 1#64 then (Pos.mk (N95 p3 p3.turn (N89 (p4.board.getD (scale 1 p6).toNat 0))).variant (N95 p3 p3.turn (N89 (p4.board.getD (scale 1 p6).toNat 0))).board ((N95 p3 p3.turn (N89 (p4.board.getD (scale 1 p6).toNat 0))).promoted &&& ~~~(1#64 <<< (BitVec.ofInt 64 p6).toNat) &&& ~~~(1#64 <<< (BitVec.ofInt 64 p5.frm).toNat) ||| 1#64 <<< (BitVec.ofInt 64 p5.to).toNat) (N95 p3 p3.turn (N89 (p4.board.getD (scale 1 p6).toNat 0))).pockets (N95 p3 p3.turn (N89 (p4.board.getD (scale 1 p6).toNat 0))).turn (N95 p3 p3.turn (N89 (p4.board.getD (scale 1 p6).toNat 0))).rooks (N95 p3 p3.turn (N89 (p4.board.getD (scale 1 p6).toNat 0))).passing (N95 p3 p3.turn (N89 (p4.board.getD (scale 1 p6).toNat 0))).checks (N95 p3 p3.turn (N89 (p4.board.getD (scale 1 p6).toNat 0))).half (N95 p3 p3.turn (N89 (p4.board.getD (scale 1 p6).toNat 0))).full) else (Pos.mk (N95 p3 p3.turn (N89 (p4.board.getD (scale 1 p6).toNat 0))).variant (N95 p3 p3.turn (N89 (p4.board.getD (scale 1 p6).toNat 0))).board ((N95 p3 p3.turn (N89 (p4.board.getD (scale 1 p6).toNat 0))).promoted &&& ~~~(1#64 <<< (BitVec.ofInt 64 p6).toNat) &&& ~~~(1#64 <<< (BitVec.ofInt 64 p5.frm).toNat)) (N95 p3 p3.turn (N89 (p4.board.getD (scale 1 p6).toNat 0))).pockets (N95 p3 p3.turn (N89 (p4.board.getD (scale 1 p6).toNat 0))).turn (N95 p3 p3.turn (N89 (p4.board.getD (scale 1 p6).toNat 0))).rooks (N95 p3 p3.turn (N89 (p4.board.getD (scale 1 p6).toNat 0))).passing (N95 p3 p3.turn (N89 (p4.board.getD (scale 1 p6).toNat 0))).checks (N95 p3 p3.turn (N89 (p4.board.getD (scale 1 p6).toNat 0))).half (N95 p3 p3.turn (N89 (p4.board.getD (scale 1 p6).toNat 0))).full)))) else (bif p5.pro != 0 then (Pos.mk p3.variant p3.board (p3.promoted &&& ~~~(1#64 <<< (BitVec.ofInt 64 p5.frm).toNat) ||| 1#64 <<< (BitVec.ofInt 64 p5.to).toNat) p3.pockets p3.turn p3.rooks p3.passing p3.checks p3.half p3.full) else (bif p4.promoted >>> (BitVec.ofInt 64 (wr .i64 p5.frm)).toNat &&& 1#64 == 1#64 then (Pos.mk p3.variant p3.board (p3.promoted &&& ~~~(1#64 <<< (BitVec.ofInt 64 p5.frm).toNat) ||| 1#64 <<< (BitVec.ofInt 64 p5.to).toNat) p3.pockets p3.turn p3.rooks p3.passing p3.checks p3.half p3.full) else (Pos.mk p3.variant p3.board (p3.promoted &&& ~~~(1#64 <<< (BitVec.ofInt 64 p5.frm).toNat)) p3.pockets p3.turn p3.rooks p3.passing p3.checks p3.half p3.full)))))))
noncomputable def okF17_2 (p1 : Pos) (p2 : Mv) (p3 : Pos) (p4 : Pos) (p5 : Mv) (p6 : Int) : Bool := (bif p3.variant != 2 then true else (bif p5.drp != 0 then true else (bif p5.cas then (ok91 (p4) (p5) && true) else (bif decide (p6 ≥ 0) then (decide (0 ≤ p6) && decide (p6 < Int.ofNat 64) && (bif p4.promoted >>> (BitVec.ofInt 64 p6).toNat &&& 1#64 == 1#64 then (decide (0 ≤ p6) && decide (p6 < Int.ofNat 64) && (bif p4.board.getD (scale 1 p6).toNat 0 != 0 then (ok95 (p3) (p3.turn) (1) && true) else (ok95 (p3) (p3.turn) (N89 (p4.board.getD (scale 1 p6).toNat 0)) && true))) else (ok95 (p3) (p3.turn) (N89 (p4.board.getD (scale 1 p6).toNat 0)) && true))) else true))))
theorem EF17_2 (p1 : Pos) (p2 : Mv) (p3 : Pos) (p4 : Pos) (p5 : Mv) (p6 : Int) : evFd B17_2 14 41 (A17_2 p1 p2 p3 p4 p5 p6) (H17_2 p1 p2 p3 p4 p5 p6) = (let z2 := [AV.int .u8 0, AV.ints .u8 64 (li (List.replicate 64 0)), AV.u64 0, AV.ints .u8 12 (li [0, 0, 0, 0, 0, 0, 0, 0, 0, 0, 0, 0]), AV.int .u8 0, AV.ints .i8 4 (li [0, 0, 0, 0]), AV.int .i8 0, AV.ints .u8 2 (li [0, 0]), AV.int .i64 0, AV.int .i64 0]; let z4 := (pc p4 [AV.int .i8 p5.frm, AV.int .i8 p5.to, AV.int .u8 p5.pro, AV.int .u8 p5.drp, AV.bool p5.cas, AV.int .i64 p6]); let z5 := [AV.int .i8 p2.frm, AV.int .i8 p2.to, AV.int .u8 p2.pro, AV.int .u8 p2.drp, AV.bool p2.cas]; let z1 := (Tr.ret (FRes.ret (AV.tuple []) (Hp.mk [(pc p1 []), z5, z2, (AV.int .u8 (N95 p3 p3.turn (N89 (p4.board.getD (scale 1 p6).toNat 0))).variant :: AV.ints .u8 64 (N95 p3 p3.turn (N89 (p4.board.getD (scale 1 p6).toNat 0))).board :: (AV.u64 ((N95 p3 p3.turn (N89 (p4.board.getD (scale 1 p6).toNat 0))).promoted &&& ~~~(1#64 <<< (BitVec.ofInt 64 p6).toNat) &&& ~~~(1#64 <<< (BitVec.ofInt 64 p5.frm).toNat) ||| 1#64 <<< (BitVec.ofInt 64 p5.to).toNat)) :: AV.ints .u8 12 (N95 p3 p3.turn (N89 (p4.board.getD (scale 1 p6).toNat 0))).pockets :: AV.int .u8 (N95 p3 p3.turn (N89 (p4.board.getD (scale 1 p6).toNat 0))).turn :: AV.ints .i8 4 (N95 p3 p3.turn (N89 (p4.board.getD (scale 1 p6).toNat 0))).rooks :: AV.int .i8 (N95 p3 p3.turn (N89 (p4.board.getD (scale 1 p6).toNat 0))).passing :: AV.ints .u8 2 (N95 p3 p3.turn (N89 (p4.board.getD (scale 1 p6).toNat 0))).checks :: AV.int .i64 (N95 p3 p3.turn (N89 (p4.board.getD (scale 1 p6).toNat 0))).half :: AV.int .i64 (N95 p3 p3.turn (N89 (p4.board.getD (scale 1 p6).toNat 0))).full :: z4)] [] [] 0 0 0))); let z7 := (Tr.ret (FRes.ret (AV.tuple []) (Hp.mk [(pc p1 []), z5, z2, (AV.int .u8 p3.variant :: AV.ints .u8 64 p3.board :: (AV.u64 (p3.promoted &&& ~~~(1#64 <<< (BitVec.ofInt 64 p5.frm).toNat) ||| 1#64 <<< (BitVec.ofInt 64 p5.to).toNat)) :: AV.ints .u8 12 p3.pockets :: AV.int .u8 p3.turn :: AV.ints .i8 4 p3.rooks :: AV.int .i8 p3.passing :: AV.ints .u8 2 p3.checks :: AV.int .i64 p3.half :: AV.int .i64 p3.full :: z4)] [] [] 0 0 0))); let z8 := (Tr.ret (FRes.ret (AV.tuple []) (Hp.mk [(pc p1 []), z5, z2, (pc p3 z4)] [] [] 0 0 0))); let z9 := (N95 p3 p3.turn 1); let z6 := (Tr.ret (FRes.ret (AV.tuple []) (Hp.mk [(pc p1 []), z5, z2, (AV.int .u8 z9.variant :: AV.ints .u8 64 z9.board :: (AV.u64 (z9.promoted &&& ~~~(1#64 <<< (BitVec.ofInt 64 p6).toNat) &&& ~~~(1#64 <<< (BitVec.ofInt 64 p5.frm).toNat) ||| 1#64 <<< (BitVec.ofInt 64 p5.to).toNat)) :: AV.ints .u8 12 z9.pockets :: AV.int .u8 z9.turn :: AV.ints .i8 4 z9.rooks :: AV.int .i8 z9.passing :: AV.ints .u8 2 z9.checks :: AV.int .i64 z9.half :: AV.int .i64 z9.full :: z4)] [] [] 0 0 0))); let z10 := (p4.promoted >>> (BitVec.ofInt 64 (wr .i64 p5.frm)).toNat &&& 1#64 == 1#64); let z3 := (Tr.br (isPS Pz 95 [p3.av, AV.int .u8 p3.turn, AV.int .u8 (N89 (p4.board.getD (scale 1 p6).toNat 0))] (dPos.res (N95 p3 p3.turn (N89 (p4.board.getD (scale 1 p6).toNat 0))))) (Tr.br (p5.pro != 0) z1 (Tr.br z10 z1 (Tr.ret (FRes.ret (AV.tuple []) (Hp.mk [(pc p1 []), z5, z2, (AV.int .u8 (N95 p3 p3.turn (N89 (p4.board.getD (scale 1 p6).toNat 0))).variant :: AV.ints .u8 64 (N95 p3 p3.turn (N89 (p4.board.getD (scale 1 p6).toNat 0))).board :: (AV.u64 ((N95 p3 p3.turn (N89 (p4.board.getD (scale 1 p6).toNat 0))).promoted &&& ~~~(1#64 <<< (BitVec.ofInt 64 p6).toNat) &&& ~~~(1#64 <<< (BitVec.ofInt 64 p5.frm).toNat))) :: AV.ints .u8 12 (N95 p3 p3.turn (N89 (p4.board.getD (scale 1 p6).toNat 0))).pockets :: AV.int .u8 (N95 p3 p3.turn (N89 (p4.board.getD (scale 1 p6).toNat 0))).turn :: AV.ints .i8 4 (N95 p3 p3.turn (N89 (p4.board.getD (scale 1 p6).toNat 0))).rooks :: AV.int .i8 (N95 p3 p3.turn (N89 (p4.board.getD (scale 1 p6).toNat 0))).passing :: AV.ints .u8 2 (N95 p3 p3.turn (N89 (p4.board.getD (scale 1 p6).toNat 0))).checks :: AV.int .i64 (N95 p3 p3.turn (N89 (p4.board.getD (scale 1 p6).toNat 0))).half :: AV.int .i64 (N95 p3 p3.turn (N89 (p4.board.getD (scale 1 p6).toNat 0))).full :: z4)] [] [] 0 0 0))))) Tr.fail); Tr.br (p3.variant != 2) z8 (Tr.br (p5.drp != 0) z8 (Tr.br p5.cas (Tr.br (isPS Pz 91 [p4.av, p5.av] ((d3 (dI .i64) (dI .i64) dB).res (N91 p4 p5))) (Tr.br (p4.promoted >>> (BitVec.ofInt 64 (wr .i64 p5.to)).toNat &&& 1#64 == 1#64) (Tr.ret (FRes.ret (AV.tuple []) (Hp.mk [(pc p1 []), z5, z2, (AV.int .u8 p3.variant :: AV.ints .u8 64 p3.board :: (AV.u64 (p3.promoted &&& ~~~(1#64 <<< (BitVec.ofInt 64 p5.to).toNat) ||| 1#64 <<< (BitVec.ofInt 64 (N91 p4 p5).snd.fst).toNat)) :: AV.ints .u8 12 p3.pockets :: AV.int .u8 p3.turn :: AV.ints .i8 4 p3.rooks :: AV.int .i8 p3.passing :: AV.ints .u8 2 p3.checks :: AV.int .i64 p3.half :: AV.int .i64 p3.full :: z4)] [] [] 0 0 0))) z8) Tr.fail) (Tr.br (decide (p6 ≥ 0)) (Tr.br (decide (0 ≤ p6) && decide (p6 < Int.ofNat 64)) (Tr.br (isPS Pz 89 [AV.int .u8 (p4.board.getD (scale 1 p6).toNat 0)] ((dI .u8).res (N89 (p4.board.getD (scale 1 p6).toNat 0)))) (Tr.br (p4.promoted >>> (BitVec.ofInt 64 p6).toNat &&& 1#64 == 1#64) (Tr.br (decide (0 ≤ p6) && decide (p6 < Int.ofNat 64)) (Tr.br (p4.board.getD (scale 1 p6).toNat 0 != 0) (Tr.br (isPS Pz 95 [p3.av, AV.int .u8 p3.turn, AV.int .u8 1] (dPos.res z9)) (Tr.br (p5.pro != 0) z6 (Tr.br z10 z6 (Tr.ret (FRes.ret (AV.tuple []) (Hp.mk [(pc p1 []), z5, z2, (AV.int .u8 z9.variant :: AV.ints .u8 64 z9.board :: (AV.u64 (z9.promoted &&& ~~~(1#64 <<< (BitVec.ofInt 64 p6).toNat) &&& ~~~(1#64 <<< (BitVec.ofInt 64 p5.frm).toNat))) :: AV.ints .u8 12 z9.pockets :: AV.int .u8 z9.turn :: AV.ints .i8 4 z9.rooks :: AV.int .i8 z9.passing :: AV.ints .u8 2 z9.checks :: AV.int .i64 z9.half :: AV.int .i64 z9.full :: z4)] [] [] 0 0 0))))) Tr.fail) z3) Tr.fail) z3) Tr.fail) Tr.fail) (Tr.br (p5.pro != 0) z7 (Tr.br z10 z7 (Tr.ret (FRes.ret (AV.tuple []) (Hp.mk [(pc p1 []), z5, z2, (AV.int .u8 p3.variant :: AV.ints .u8 64 p3.board :: (AV.u64 (p3.promoted &&& ~~~(1#64 <<< (BitVec.ofInt 64 p5.frm).toNat))) :: AV.ints .u8 12 p3.pockets :: AV.int .u8 p3.turn :: AV.ints .i8 4 p3.rooks :: AV.int .i8 p3.passing :: AV.ints .u8 2 p3.checks :: AV.int .i64 p3.half :: AV.int .i64 p3.full :: z4)] [] [] 0 0 0))))))))) := by kernel_rfl
theorem PF17_2 (p1 : Pos) (p2 : Mv) (p3 : Pos) (p4 : Pos) (p5 : Mv) (p6 : Int) (h : okF17_2 p1 p2 p3 p4 p5 p6 = true) : FSpec Pz 41 (A17_2 p1 p2 p3 p4 p5 p6) (H17_2 p1 p2 p3 p4 p5 p6) (O17_2 p1 p2 p3 p4 p5 p6 (vF17_2 p1 p2 p3 p4 p5 p6)) ∧ ∃ fn, Pz.funcs[41]? = some fn ∧ fn.body.isSome = true := fs_gotd (O := O17_2 p1 p2 p3 p4 p5 p6) hB17_2 (EF17_2 p1 p2 p3 p4 p5 p6) (gr_br (gr_ret (rf_ret rfl (wk_nrm (ks := []) (gs := []) (b := true) rfl (by kernel_rfl)))) (gr_br (gr_ret (rf_ret rfl (wk_nrm (ks := []) (gs := []) (b := true) rfl (by kernel_rfl)))) (gr_br (gr_call (P91 (p4) (p5)) (gr_br2 (gr_ret (rf_ret rfl (wk_nrm (ks := []) (gs := []) (b := true) rfl (by kernel_rfl)))) (gr_ret (rf_ret rfl (wk_nrm (ks := []) (gs := []) (b := true) rfl (by kernel_rfl)))))) (gr_br (gr_guard (gr_callT (P89 (p4.board.getD (scale 1 p6).toNat 0) rfl) (gr_br (gr_guard (gr_br (gr_call (P95 (p3) (p3.turn) (1)) (gr_br2 (gr_ret (rf_ret rfl (wk_nrm (ks := []) (gs := []) (b := true) rfl (by kernel_rfl)))) (gr_br2 (gr_ret (rf_ret rfl (wk_nrm (ks := []) (gs := []) (b := true) rfl (by kernel_rfl)))) (gr_ret (rf_ret rfl (wk_nrm (ks := []) (gs := []) (b := true) rfl (by kernel_rfl))))))) (gr_call (P95 (p3) (p3.turn) (N89 (p4.board.getD (scale 1 p6).toNat 0))) (gr_br2 (gr_ret (rf_ret rfl (wk_nrm (ks := []) (gs := []) (b := true) rfl (by kernel_rfl)))) (gr_br2 (gr_ret (rf_ret rfl (wk_nrm (ks := []) (gs := []) (b := true) rfl (by kernel_rfl)))) (gr_ret (rf_ret rfl (wk_nrm (ks := []) (gs := []) (b := true) rfl (by kernel_rfl))))))))) (gr_call (P95 (p3) (p3.turn) (N89 (p4.board.getD (scale 1 p6).toNat 0))) (gr_br2 (gr_ret (rf_ret rfl (wk_nrm (ks := []) (gs := []) (b := true) rfl (by kernel_rfl)))) (gr_br2 (gr_ret (rf_ret rfl (wk_nrm (ks := []) (gs := []) (b := true) rfl (by kernel_rfl)))) (gr_ret (rf_ret rfl (wk_nrm (ks := []) (gs := []) (b := true) rfl (by kernel_rfl)))))))))) (gr_br2 (gr_ret (rf_ret rfl (wk_nrm (ks := []) (gs := []) (b := true) rfl (by kernel_rfl)))) (gr_br2 (gr_ret (rf_ret rfl (wk_nrm (ks := []) (gs := []) (b := true) rfl (by kernel_rfl)))) (gr_ret (rf_ret rfl (wk_nrm (ks := []) (gs := []) (b := true) rfl (by kernel_rfl)))))))))) h
noncomputable def FF17_2 : List AV → Hp → Tr FRes := sureF Pz 41 (fun xs h => O17_2 (Kz.Pos.mk (tI (tH ⟨xs, h⟩ 0 0)) (tN (tH ⟨xs, h⟩ 0 1)) (tU (tH ⟨xs, h⟩ 0 2)) (tN (tH ⟨xs, h⟩ 0 3)) (tI (tH ⟨xs, h⟩ 0 4)) (tN (tH ⟨xs, h⟩ 0 5)) (tI (tH ⟨xs, h⟩ 0 6)) (tN (tH ⟨xs, h⟩ 0 7)) (tI (tH ⟨xs, h⟩ 0 8)) (tI (tH ⟨xs, h⟩ 0 9))) (Kz.Mv.mk (tI (tH ⟨xs, h⟩ 1 0)) (tI (tH ⟨xs, h⟩ 1 1)) (tI (tH ⟨xs, h⟩ 1 2)) (tI (tH ⟨xs, h⟩ 1 3)) (tB (tH ⟨xs, h⟩ 1 4))) (Kz.Pos.mk (tI (tH ⟨xs, h⟩ 3 0)) (tN (tH ⟨xs, h⟩ 3 1)) (tU (tH ⟨xs, h⟩ 3 2)) (tN (tH ⟨xs, h⟩ 3 3)) (tI (tH ⟨xs, h⟩ 3 4)) (tN (tH ⟨xs, h⟩ 3 5)) (tI (tH ⟨xs, h⟩ 3 6)) (tN (tH ⟨xs, h⟩ 3 7)) (tI (tH ⟨xs, h⟩ 3 8)) (tI (tH ⟨xs, h⟩ 3 9))) (Kz.Pos.mk (tI (tH ⟨xs, h⟩ 3 10)) (tN (tH ⟨xs, h⟩ 3 11)) (tU (tH ⟨xs, h⟩ 3 12)) (tN (tH ⟨xs, h⟩ 3 13)) (tI (tH ⟨xs, h⟩ 3 14)) (tN (tH ⟨xs, h⟩ 3 15)) (tI (tH ⟨xs, h⟩ 3 16)) (tN (tH ⟨xs, h⟩ 3 17)) (tI (tH ⟨xs, h⟩ 3 18)) (tI (tH ⟨xs, h⟩ 3 19))) (Kz.Mv.mk (tI (tH ⟨xs, h⟩ 3 20)) (tI (tH ⟨xs, h⟩ 3 21)) (tI (tH ⟨xs, h⟩ 3 22)) (tI (tH ⟨xs, h⟩ 3 23)) (tB (tH ⟨xs, h⟩ 3 24))) (tI (tH ⟨xs, h⟩ 3 25)) (vF17_2 (Kz.Pos.mk (tI (tH ⟨xs, h⟩ 0 0)) (tN (tH ⟨xs, h⟩ 0 1)) (tU (tH ⟨xs, h⟩ 0 2)) (tN (tH ⟨xs, h⟩ 0 3)) (tI (tH ⟨xs, h⟩ 0 4)) (tN (tH ⟨xs, h⟩ 0 5)) (tI (tH ⟨xs, h⟩ 0 6)) (tN (tH ⟨xs, h⟩ 0 7)) (tI (tH ⟨xs, h⟩ 0 8)) (tI (tH ⟨xs, h⟩ 0 9))) (Kz.Mv.mk (tI (tH ⟨xs, h⟩ 1 0)) (tI (tH ⟨xs, h⟩ 1 1)) (tI (tH ⟨xs, h⟩ 1 2)) (tI (tH ⟨xs, h⟩ 1 3)) (tB (tH ⟨xs, h⟩ 1 4))) (Kz.Pos.mk (tI (tH ⟨xs, h⟩ 3 0)) (tN (tH ⟨xs, h⟩ 3 1)) (tU (tH ⟨xs, h⟩ 3 2)) (tN (tH ⟨xs, h⟩ 3 3)) (tI (tH ⟨xs, h⟩ 3 4)) (tN (tH ⟨xs, h⟩ 3 5)) (tI (tH ⟨xs, h⟩ 3 6)) (tN (tH ⟨xs, h⟩ 3 7)) (tI (tH ⟨xs, h⟩ 3 8)) (tI (tH ⟨xs, h⟩ 3 9))) (Kz.Pos.mk (tI (tH ⟨xs, h⟩ 3 10)) (tN (tH ⟨xs, h⟩ 3 11)) (tU (tH ⟨xs, h⟩ 3 12)) (tN (tH ⟨xs, h⟩ 3 13)) (tI (tH ⟨xs, h⟩ 3 14)) (tN (tH ⟨xs, h⟩ 3 15)) (tI (tH ⟨xs, h⟩ 3 16)) (tN (tH ⟨xs, h⟩ 3 17)) (tI (tH ⟨xs, h⟩ 3 18)) (tI (tH ⟨xs, h⟩ 3 19))) (Kz.Mv.mk (tI (tH ⟨xs, h⟩ 3 20)) (tI (tH ⟨xs, h⟩ 3 21)) (tI (tH ⟨xs, h⟩ 3 22)) (tI (tH ⟨xs, h⟩ 3 23)) (tB (tH ⟨xs, h⟩ 3 24))) (tI (tH ⟨xs, h⟩ 3 25))))
theorem sFF17_2 : FSound Pz 41 FF17_2 := sureF_sound
noncomputable def B17_3 : Base := baseOf Pz (fun f i => lkK f i K17) [(103, G103), (38, G38), (37, G37), (39, G39), (101, G101), (89, G89), (91, G91), (92, G92), (93, G93), (95, G95), (96, G96), (97, G97), (99, G99), (100, G100), (102, G102)] [] [(40, FF17_1), (41, FF17_2)]
theorem hB17_3 : BOk B17_3 := base_ok named_z ⟨s103, s38, s37, s39, s101, s89, s91, s92, s93, s95, s96, s97, s99, s100, s102, trivial⟩ trivial ⟨sFF17_1, sFF17_2, trivial⟩
noncomputable def S17_3 (p1 : (List Int)) (p2 : Int) (p3 : Pos) (p4 : Mv) (p5 : Pos) (p6 : Mv) (p7 : Int) (x : (Int × Pos)) : St := St.mk (AV.ptr 3 0 :: (an 27 (AV.list (ET.i .i64) p1 Tk.fresh :: AV.int .i64 p2 :: AV.int .i64 x.fst :: (an 10 [])))) (Hp.mk [(pc p3 []), [AV.int .i8 p4.frm, AV.int .i8 p4.to, AV.int .u8 p4.pro, AV.int .u8 p4.drp, AV.bool p4.cas], [AV.int .u8 0, AV.ints .u8 64 (li (List.replicate 64 0)), AV.u64 0, AV.ints .u8 12 (li [0, 0, 0, 0, 0, 0, 0, 0, 0, 0, 0, 0]), AV.int .u8 0, AV.ints .i8 4 (li [0, 0, 0, 0]), AV.int .i8 0, AV.ints .u8 2 (li [0, 0]), AV.int .i64 0, AV.int .i64 0], (pc x.snd (pc p5 [AV.int .i8 p6.frm, AV.int .i8 p6.to, AV.int .u8 p6.pro, AV.int .u8 p6.drp, AV.bool p6.cas, AV.int .i64 p7]))] [] [] 0 0 0)
noncomputable def O17_3 (p1 : (List Int)) (p2 : Int) (p3 : Pos) (p4 : Mv) (p5 : Pos) (p6 : Mv) (p7 : Int) : (Int × Bool × Pos) → Out := fun y => .exit 0 (St.mk (AV.ptr 3 0 :: (an 27 (AV.list (ET.i .i64) p1 Tk.fresh :: AV.int .i64 p2 :: AV.int .i64 y.fst :: AV.bool y.snd.fst :: (an 9 [])))) (Hp.mk [(pc p3 []), [AV.int .i8 p4.frm, AV.int .i8 p4.to, AV.int .u8 p4.pro, AV.int .u8 p4.drp, AV.bool p4.cas], [AV.int .u8 0, AV.ints .u8 64 (li (List.replicate 64 0)), AV.u64 0, AV.ints .u8 12 (li [0, 0, 0, 0, 0, 0, 0, 0, 0, 0, 0, 0]), AV.int .u8 0, AV.ints .i8 4 (li [0, 0, 0, 0]), AV.int .i8 0, AV.ints .u8 2 (li [0, 0]), AV.int .i64 0, AV.int .i64 0], (pc y.snd.snd (pc p5 [AV.int .i8 p6.frm, AV.int .i8 p6.to, AV.int .u8 p6.pro, AV.int .u8 p6.drp, AV.bool p6.cas, AV.int .i64 p7]))] [] [] 0 0 0))
noncomputable def st17_3 (p1 : (List Int)) (p2 : Int) (p3 : Pos) (p4 : Mv) (p5 : Pos) (p6 : Mv) (p7 : Int) (x : (Int × Pos)) : Stp (Int × Pos) ((Int × Bool × Pos)) := (bif decide (x.fst < p2) then (Stp.go (wr .i64 (x.fst + 1), Pos.mk x.snd.variant (x.snd.board.set (scale 1 (p1.getD x.fst.toNat default)).toNat 0) x.snd.promoted x.snd.pockets x.snd.turn x.snd.rooks x.snd.passing x.snd.checks x.snd.half x.snd.full)) else (Stp.out ((x.fst, decide (x.fst < p2), x.snd))))
noncomputable def okL17_3 (p1 : (List Int)) (p2 : Int) (p3 : Pos) (p4 : Mv) (p5 : Pos) (p6 : Mv) (p7 : Int) (x : (Int × Pos)) : Bool := (bif decide (x.fst < p2) then (decide (0 ≤ x.fst) && decide (x.fst < Int.ofNat p1.length) && (decide (0 ≤ p1.getD x.fst.toNat default) && decide (p1.getD x.fst.toNat default < Int.ofNat 64) && true)) else true)
noncomputable def lp17_3 (p1 : (List Int)) (p2 : Int) (p3 : Pos) (p4 : Mv) (p5 : Pos) (p6 : Mv) (p7 : Int) (x : (Int × Pos)) : Option ((Int × Bool × Pos)) := itl (fun x => bif okL17_3 p1 p2 p3 p4 p5 p6 p7 x then st17_3 p1 p2 p3 p4 p5 p6 p7 x else .bad) many x
theorem E17_3 (p1 : (List Int)) (p2 : Int) (p3 : Pos) (p4 : Mv) (p5 : Pos) (p6 : Mv) (p7 : Int) (x : (Int × Pos)) : evCd B17_3 12 42 (bodL Pz 42 2) (S17_3 p1 p2 p3 p4 p5 p6 p7 x) = (let z1 := [AV.int .u8 0, AV.ints .u8 64 (li (List.replicate 64 0)), AV.u64 0, AV.ints .u8 12 (li [0, 0, 0, 0, 0, 0, 0, 0, 0, 0, 0, 0]), AV.int .u8 0, AV.ints .i8 4 (li [0, 0, 0, 0]), AV.int .i8 0, AV.ints .u8 2 (li [0, 0]), AV.int .i64 0, AV.int .i64 0]; let z2 := (pc p5 [AV.int .i8 p6.frm, AV.int .i8 p6.to, AV.int .u8 p6.pro, AV.int .u8 p6.drp, AV.bool p6.cas, AV.int .i64 p7]); let z3 := [AV.int .i8 p4.frm, AV.int .i8 p4.to, AV.int .u8 p4.pro, AV.int .u8 p4.drp, AV.bool p4.cas]; Tr.br (decide (x.fst < p2)) (Tr.br (decide (0 ≤ x.fst) && decide (x.fst < Int.ofNat p1.length)) (Tr.br (decide (0 ≤ p1.getD x.fst.toNat default) && decide (p1.getD x.fst.toNat default < Int.ofNat 64)) (Tr.ret (Out.norm (St.mk (AV.ptr 3 0 :: (an 27 (AV.list (ET.i .i64) p1 Tk.fresh :: AV.int .i64 p2 :: AV.int .i64 (wr .i64 (x.fst + 1)) :: (an 10 [])))) (Hp.mk [(pc p3 []), z3, z1, (AV.int .u8 x.snd.variant :: AV.ints .u8 64 (x.snd.board.set (scale 1 (p1.getD x.fst.toNat default)).toNat 0) :: AV.u64 x.snd.promoted :: AV.ints .u8 12 x.snd.pockets :: AV.int .u8 x.snd.turn :: AV.ints .i8 4 x.snd.rooks :: AV.int .i8 x.snd.passing :: AV.ints .u8 2 x.snd.checks :: AV.int .i64 x.snd.half :: AV.int .i64 x.snd.full :: z2)] [] [] 0 0 0)))) Tr.fail) Tr.fail) (Tr.ret (Out.exit 0 (St.mk (AV.ptr 3 0 :: (an 27 (AV.list (ET.i .i64) p1 Tk.fresh :: AV.int .i64 p2 :: AV.int .i64 x.fst :: AV.bool (decide (x.fst < p2)) :: (an 9 [])))) (Hp.mk [(pc p3 []), z3, z1, (pc x.snd z2)] [] [] 0 0 0))))) := by kernel_rfl
theorem L17_3 (p1 : (List Int)) (p2 : Int) (p3 : Pos) (p4 : Mv) (p5 : Pos) (p6 : Mv) (p7 : Int) (x : (Int × Pos)) (r : (Int × Bool × Pos)) (h : lp17_3 p1 p2 p3 p4 p5 p6 p7 x = some r) : LSpec Pz (bodL Pz 42 2) (S17_3 p1 p2 p3 p4 p5 p6 p7 x) (O17_3 p1 p2 p3 p4 p5 p6 p7 r) := LSpec.itd (S := S17_3 p1 p2 p3 p4 p5 p6 p7) (O := O17_3 p1 p2 p3 p4 p5 p6 p7) (ok := okL17_3 p1 p2 p3 p4 p5 p6 p7) (st := st17_3 p1 p2 p3 p4 p5 p6 p7) hB17_3 (fun x => gr_eq (E17_3 p1 p2 p3 p4 p5 p6 p7 x) (gr_br (gr_guard (gr_guard (gr_ret (rl_go (wk_nrm (ks := (rn 1 27 (rn 31 10 []))) (gs := [28, 29, 30]) (b := true) rfl (by kernel_rfl)))))) (gr_ret (rl_exit rfl (wk_nrm (ks := (rn 1 27 (rn 32 9 []))) (gs := []) (b := false) rfl (by kernel_rfl)))))) many x r h
noncomputable def F17_3 : Code → St → Tr Out := sureL Pz (fun s => O17_3 (tL (ET.i .i64) (tT s 28)) (tI (tT s 29)) (Kz.Pos.mk (tI (tH s 0 0)) (tN (tH s 0 1)) (tU (tH s 0 2)) (tN (tH s 0 3)) (tI (tH s 0 4)) (tN (tH s 0 5)) (tI (tH s 0 6)) (tN (tH s 0 7)) (tI (tH s 0 8)) (tI (tH s 0 9))) (Kz.Mv.mk (tI (tH s 1 0)) (tI (tH s 1 1)) (tI (tH s 1 2)) (tI (tH s 1 3)) (tB (tH s 1 4))) (Kz.Pos.mk (tI (tH s 3 10)) (tN (tH s 3 11)) (tU (tH s 3 12)) (tN (tH s 3 13)) (tI (tH s 3 14)) (tN (tH s 3 15)) (tI (tH s 3 16)) (tN (tH s 3 17)) (tI (tH s 3 18)) (tI (tH s 3 19))) (Kz.Mv.mk (tI (tH s 3 20)) (tI (tH s 3 21)) (tI (tH s 3 22)) (tI (tH s 3 23)) (tB (tH s 3 24))) (tI (tH s 3 25)) ((lp17_3 (tL (ET.i .i64) (tT s 28)) (tI (tT s 29)) (Kz.Pos.mk (tI (tH s 0 0)) (tN (tH s 0 1)) (tU (tH s 0 2)) (tN (tH s 0 3)) (tI (tH s 0 4)) (tN (tH s 0 5)) (tI (tH s 0 6)) (tN (tH s 0 7)) (tI (tH s 0 8)) (tI (tH s 0 9))) (Kz.Mv.mk (tI (tH s 1 0)) (tI (tH s 1 1)) (tI (tH s 1 2)) (tI (tH s 1 3)) (tB (tH s 1 4))) (Kz.Pos.mk (tI (tH s 3 10)) (tN (tH s 3 11)) (tU (tH s 3 12)) (tN (tH s 3 13)) (tI (tH s 3 14)) (tN (tH s 3 15)) (tI (tH s 3 16)) (tN (tH s 3 17)) (tI (tH s 3 18)) (tI (tH s 3 19))) (Kz.Mv.mk (tI (tH s 3 20)) (tI (tH s 3 21)) (tI (tH s 3 22)) (tI (tH s 3 23)) (tB (tH s 3 24))) (tI (tH s 3 25)) ((tI (tT s 30)), (Kz.Pos.mk (tI (tH s 3 0)) (tN (tH s 3 1)) (tU (tH s 3 2)) (tN (tH s 3 3)) (tI (tH s 3 4)) (tN (tH s 3 5)) (tI (tH s 3 6)) (tN (tH s 3 7)) (tI (tH s 3 8)) (tI (tH s 3 9))))).getD default))
theorem sF17_3 : ∀ b, LSound Pz b (F17_3 b) := sureL_sound
noncomputable def B17_4 : Base := baseOf Pz (fun f i => lkK f i K17) [(103, G103), (38, G38), (37, G37), (39, G39), (101, G101), (89, G89), (91, G91), (92, G92), (93, G93), (95, G95), (96, G96), (97, G97), (99, G99), (100, G100), (102, G102)] [(42, 2, F17_3)] [(40, FF17_1), (41, FF17_2)]
theorem hB17_4 : BOk B17_4 := base_ok named_z ⟨s103, s38, s37, s39, s101, s89, s91, s92, s93, s95, s96, s97, s99, s100, s102, trivial⟩ ⟨sF17_3, trivial⟩ ⟨sFF17_1, sFF17_2, trivial⟩
noncomputable def A17_4 (p1 : Pos) (p2 : Mv) (p3 : Pos) (p4 : Pos) (p5 : Mv) (p6 : Int) : List AV := [AV.ptr 3 0]
noncomputable def H17_4 (p1 : Pos) (p2 : Mv) (p3 : Pos) (p4 : Pos) (p5 : Mv) (p6 : Int) : Hp := Hp.mk [(pc p1 []), [AV.int .i8 p2.frm, AV.int .i8 p2.to, AV.int .u8 p2.pro, AV.int .u8 p2.drp, AV.bool p2.cas], [AV.int .u8 0, AV.ints .u8 64 (li (List.replicate 64 0)), AV.u64 0, AV.ints .u8 12 (li [0, 0, 0, 0, 0, 0, 0, 0, 0, 0, 0, 0]), AV.int .u8 0, AV.ints .i8 4 (li [0, 0, 0, 0]), AV.int .i8 0, AV.ints .u8 2 (li [0, 0]), AV.int .i64 0, AV.int .i64 0], (pc p3 (pc p4 [AV.int .i8 p5.frm, AV.int .i8 p5.to, AV.int .u8 p5.pro, AV.int .u8 p5.drp, AV.bool p5.cas, AV.int .i64 p6]))] [] [] 0 0 0
noncomputable def O17_4 (p1 : Pos) (p2 : Mv) (p3 : Pos) (p4 : Pos) (p5 : Mv) (p6 : Int) (y : (Pos)) : FRes := .ret (AV.tuple []) (Hp.mk [(pc p1 []), [AV.int .i8 p2.frm, AV.int .i8 p2.to, AV.int .u8 p2.pro, AV.int .u8 p2.drp, AV.bool p2.cas], [AV.int .u8 0, AV.ints .u8 64 (li (List.replicate 64 0)), AV.u64 0, AV.ints .u8 12 (li [0, 0, 0, 0, 0, 0, 0, 0, 0, 0, 0, 0]), AV.int .u8 0, AV.ints .i8 4 (li [0, 0, 0, 0]), AV.int .i8 0, AV.ints .u8 2 (li [0, 0]), AV.int .i64 0, AV.int .i64 0], (pc y (pc p4 [AV.int .i8 p5.frm, AV.int .i8 p5.to, AV.int .u8 p5.pro, AV.int .u8 p5.drp, AV.bool p5.cas, AV.int .i64 p6]))] [] [] 0 0 0)
noncomputable def vF17_4 (p1 : Pos) (p2 : Mv) (p3 : Pos) (p4 : Pos) (p5 : Mv) (p6 : Int) : (Pos) := (bif p3.variant != 3 then (p3) else (bif decide (p6 < 0) then (p3) else (((lp17_3 (N96 (N97 p3 (wr .i64 p5.to))) (Int.ofNat (N96 (N97 p3 (wr .i64 p5.to))).length) p1 p2 p4 p5 p6 (0, p3)).getD default).snd.snd)))
noncomputable def okF17_4 (p1 : Pos) (p2 : Mv) (p3 : Pos) (p4 : Pos) (p5 : Mv) (p6 : Int) : Bool := (bif p3.variant != 3 then true else (bif decide (p6 < 0) then true else (ok97 (p3) (wr .i64 p5.to) && (ok96 (N97 p3 (wr .i64 p5.to)) && ((lp17_3 (N96 (N97 p3 (wr .i64 p5.to))) (Int.ofNat (N96 (N97 p3 (wr .i64 p5.to))).length) p1 p2 p4 p5 p6 (0, p3)).isSome && true)))))
theorem EF17_4 (p1 : Pos) (p2 : Mv) (p3 : Pos) (p4 : Pos) (p5 : Mv) (p6 : Int) : evFd B17_4 14 42 (A17_4 p1 p2 p3 p4 p5 p6) (H17_4 p1 p2 p3 p4 p5 p6) = (let z1 := (Hp.mk [(pc p1 []), [AV.int .i8 p2.frm, AV.int .i8 p2.to, AV.int .u8 p2.pro, AV.int .u8 p2.drp, AV.bool p2.cas], [AV.int .u8 0, AV.ints .u8 64 (li (List.replicate 64 0)), AV.u64 0, AV.ints .u8 12 (li [0, 0, 0, 0, 0, 0, 0, 0, 0, 0, 0, 0]), AV.int .u8 0, AV.ints .i8 4 (li [0, 0, 0, 0]), AV.int .i8 0, AV.ints .u8 2 (li [0, 0]), AV.int .i64 0, AV.int .i64 0], (pc p3 (pc p4 [AV.int .i8 p5.frm, AV.int .i8 p5.to, AV.int .u8 p5.pro, AV.int .u8 p5.drp, AV.bool p5.cas, AV.int .i64 p6]))] [] [] 0 0 0); let z2 := (N96 (N97 p3 (wr .i64 p5.to))); let z3 := ((lp17_3 z2 (Int.ofNat z2.length) p1 p2 p4 p5 p6 (0, p3)).getD default); Tr.br (p3.variant != 3) (Tr.ret (FRes.ret (AV.tuple []) z1)) (Tr.br (decide (p6 < 0)) (Tr.ret (FRes.ret (AV.tuple []) z1)) (Tr.br (isPS Pz 97 [p3.av, AV.int .i64 (wr .i64 p5.to)] (dU.res (N97 p3 (wr .i64 p5.to)))) (Tr.br (isPS Pz 96 [AV.u64 (N97 p3 (wr .i64 p5.to))] ((dL (ET.i .i64)).res z2)) (Tr.br (isLS Pz (bodL Pz 42 2) (St.mk (AV.ptr 3 0 :: (an 27 (AV.list (ET.i .i64) z2 Tk.fresh :: AV.int .i64 (Int.ofNat z2.length) :: AV.cint .i64 0 :: (an 10 [])))) z1) (O17_3 z2 (Int.ofNat z2.length) p1 p2 p4 p5 p6 z3)) (Tr.ret (FRes.ret (AV.tuple []) (Hp.mk [(pc p1 []), [AV.int .i8 p2.frm, AV.int .i8 p2.to, AV.int .u8 p2.pro, AV.int .u8 p2.drp, AV.bool p2.cas], [AV.int .u8 0, AV.ints .u8 64 (li (List.replicate 64 0)), AV.u64 0, AV.ints .u8 12 (li [0, 0, 0, 0, 0, 0, 0, 0, 0, 0, 0, 0]), AV.int .u8 0, AV.ints .i8 4 (li [0, 0, 0, 0]), AV.int .i8 0, AV.ints .u8 2 (li [0, 0]), AV.int .i64 0, AV.int .i64 0], (pc z3.snd.snd (pc p4 [AV.int .i8 p5.frm, AV.int .i8 p5.to, AV.int .u8 p5.pro, AV.int .u8 p5.drp, AV.bool p5.cas, AV.int .i64 p6]))] [] [] 0 0 0))) Tr.fail) Tr.fail) Tr.fail))) := by kernel_rfl
theorem PF17_4 (p1 : Pos) (p2 : Mv) (p3 : Pos) (p4 : Pos) (p5 : Mv) (p6 : Int) (h : okF17_4 p1 p2 p3 p4 p5 p6 = true) : FSpec Pz 42 (A17_4 p1 p2 p3 p4 p5 p6) (H17_4 p1 p2 p3 p4 p5 p6) (O17_4 p1 p2 p3 p4 p5 p6 (vF17_4 p1 p2 p3 p4 p5 p6)) ∧ ∃ fn, Pz.funcs[42]? = some fn ∧ fn.body.isSome = true := fs_gotd (O := O17_4 p1 p2 p3 p4 p5 p6) hB17_4 (EF17_4 p1 p2 p3 p4 p5 p6) (gr_br (gr_ret (rf_ret rfl (wk_nrm (ks := []) (gs := []) (b := true) rfl (by kernel_rfl)))) (gr_br (gr_ret (rf_ret rfl (wk_nrm (ks := []) (gs := []) (b := true) rfl (by kernel_rfl)))) (gr_call (P97 (p3) (wr .i64 p5.to)) (gr_call (P96 (N97 p3 (wr .i64 p5.to))) (gr_loop (fun h => L17_3 (N96 (N97 p3 (wr .i64 p5.to))) (Int.ofNat (N96 (N97 p3 (wr .i64 p5.to))).length) (p1) (p2) (p4) (p5) (p6) ((0, p3)) _ (some_getD h)) (wk_nrm (ks := (rn 1 27 (rn 31 10 []))) (gs := [28, 29, 30]) (b := true) rfl (by kernel_rfl)) (gr_ret (rf_ret rfl (wk_nrm (ks := []) (gs := []) (b := true) rfl (by kernel_rfl))))))))) h
noncomputable def FF17_4 : List AV → Hp → Tr FRes := sureF Pz 42 (fun xs h => O17_4 (Kz.Pos.mk (tI (tH ⟨xs, h⟩ 0 0)) (tN (tH ⟨xs, h⟩ 0 1)) (tU (tH ⟨xs, h⟩ 0 2)) (tN (tH ⟨xs, h⟩ 0 3)) (tI (tH ⟨xs, h⟩ 0 4)) (tN (tH ⟨xs, h⟩ 0 5)) (tI (tH ⟨xs, h⟩ 0 6)) (tN (tH ⟨xs, h⟩ 0 7)) (tI (tH ⟨xs, h⟩ 0 8)) (tI (tH ⟨xs, h⟩ 0 9))) (Kz.Mv.mk (tI (tH ⟨xs, h⟩ 1 0)) (tI (tH ⟨xs, h⟩ 1 1)) (tI (tH ⟨xs, h⟩ 1 2)) (tI (tH ⟨xs, h⟩ 1 3)) (tB (tH ⟨xs, h⟩ 1 4))) (Kz.Pos.mk (tI (tH ⟨xs, h⟩ 3 0)) (tN (tH ⟨xs, h⟩ 3 1)) (tU (tH ⟨xs, h⟩ 3 2)) (tN (tH ⟨xs, h⟩ 3 3)) (tI (tH ⟨xs, h⟩ 3 4)) (tN (tH ⟨xs, h⟩ 3 5)) (tI (tH ⟨xs, h⟩ 3 6)) (tN (tH ⟨xs, h⟩ 3 7)) (tI (tH ⟨xs, h⟩ 3 8)) (tI (tH ⟨xs, h⟩ 3 9))) (Kz.Pos.mk (tI (tH ⟨xs, h⟩ 3 10)) (tN (tH ⟨xs, h⟩ 3 11)) (tU (tH ⟨xs, h⟩ 3 12)) (tN (tH ⟨xs, h⟩ 3 13)) (tI (tH ⟨xs, h⟩ 3 14)) (tN (tH ⟨xs, h⟩ 3 15)) (tI (tH ⟨xs, h⟩ 3 16)) (tN (tH ⟨xs, h⟩ 3 17)) (tI (tH ⟨xs, h⟩ 3 18)) (tI (tH ⟨xs, h⟩ 3 19))) (Kz.Mv.mk (tI (tH ⟨xs, h⟩ 3 20)) (tI (tH ⟨xs, h⟩ 3 21)) (tI (tH ⟨xs, h⟩ 3 22)) (tI (tH ⟨xs, h⟩ 3 23)) (tB (tH ⟨xs, h⟩ 3 24))) (tI (tH ⟨xs, h⟩ 3 25)) (vF17_4 (Kz.Pos.mk (tI (tH ⟨xs, h⟩ 0 0)) (tN (tH ⟨xs, h⟩ 0 1)) (tU (tH ⟨xs, h⟩ 0 2)) (tN (tH ⟨xs, h⟩ 0 3)) (tI (tH ⟨xs, h⟩ 0 4)) (tN (tH ⟨xs, h⟩ 0 5)) (tI (tH ⟨xs, h⟩ 0 6)) (tN (tH ⟨xs, h⟩ 0 7)) (tI (tH ⟨xs, h⟩ 0 8)) (tI (tH ⟨xs, h⟩ 0 9))) (Kz.Mv.mk (tI (tH ⟨xs, h⟩ 1 0)) (tI (tH ⟨xs, h⟩ 1 1)) (tI (tH ⟨xs, h⟩ 1 2)) (tI (tH ⟨xs, h⟩ 1 3)) (tB (tH ⟨xs, h⟩ 1 4))) (Kz.Pos.mk (tI (tH ⟨xs, h⟩ 3 0)) (tN (tH ⟨xs, h⟩ 3 1)) (tU (tH ⟨xs, h⟩ 3 2)) (tN (tH ⟨xs, h⟩ 3 3)) (tI (tH ⟨xs, h⟩ 3 4)) (tN (tH ⟨xs, h⟩ 3 5)) (tI (tH ⟨xs, h⟩ 3 6)) (tN (tH ⟨xs, h⟩ 3 7)) (tI (tH ⟨xs, h⟩ 3 8)) (tI (tH ⟨xs, h⟩ 3 9))) (Kz.Pos.mk (tI (tH ⟨xs, h⟩ 3 10)) (tN (tH ⟨xs, h⟩ 3 11)) (tU (tH ⟨xs, h⟩ 3 12)) (tN (tH ⟨xs, h⟩ 3 13)) (tI (tH ⟨xs, h⟩ 3 14)) (tN (tH ⟨xs, h⟩ 3 15)) (tI (tH ⟨xs, h⟩ 3 16)) (tN (tH ⟨xs, h⟩ 3 17)) (tI (tH ⟨xs, h⟩ 3 18)) (tI (tH ⟨xs, h⟩ 3 19))) (Kz.Mv.mk (tI (tH ⟨xs, h⟩ 3 20)) (tI (tH ⟨xs, h⟩ 3 21)) (tI (tH ⟨xs, h⟩ 3 22)) (tI (tH ⟨xs, h⟩ 3 23)) (tB (tH ⟨xs, h⟩ 3 24))) (tI (tH ⟨xs, h⟩ 3 25))))
theorem sFF17_4 : FSound Pz 42 FF17_4 := sureF_sound
noncomputable def B17_6 : Base := baseOf Pz (fun f i => lkK f i K17) [(103, G103), (38, G38), (37, G37), (39, G39), (101, G101), (89, G89), (91, G91), (92, G92), (93, G93), (95, G95), (96, G96), (97, G97), (99, G99), (100, G100), (102, G102)] [(42, 2, F17_3)] [(40, FF17_1), (41, FF17_2), (42, FF17_4)]
theorem hB17_6 : BOk B17_6 := base_ok named_z ⟨s103, s38, s37, s39, s101, s89, s91, s92, s93, s95, s96, s97, s99, s100, s102, trivial⟩ ⟨sF17_3, trivial⟩ ⟨sFF17_1, sFF17_2, sFF17_4, trivial⟩
noncomputable def S17_6 (p1 : Int) (p2 : Int) (p3 : (List Int)) (p4 : Pos) (p5 : Mv) (p6 : Pos) (p7 : Mv) (p8 : Int) (x : (Int × Pos)) : St := St.mk (AV.ptr 3 0 :: AV.any :: AV.int .u8 p1 :: AV.int .i64 p2 :: (an 42 (AV.agg [AV.ints .i8 2 p3] :: AV.int .i64 x.fst :: (an 73 [])))) (Hp.mk [(pc p4 []), [AV.int .i8 p5.frm, AV.int .i8 p5.to, AV.int .u8 p5.pro, AV.int .u8 p5.drp, AV.bool p5.cas], [AV.int .u8 0, AV.ints .u8 64 (li (List.replicate 64 0)), AV.u64 0, AV.ints .u8 12 (li [0, 0, 0, 0, 0, 0, 0, 0, 0, 0, 0, 0]), AV.int .u8 0, AV.ints .i8 4 (li [0, 0, 0, 0]), AV.int .i8 0, AV.ints .u8 2 (li [0, 0]), AV.int .i64 0, AV.int .i64 0], (pc x.snd (pc p6 [AV.int .i8 p7.frm, AV.int .i8 p7.to, AV.int .u8 p7.pro, AV.int .u8 p7.drp, AV.bool p7.cas, AV.int .i64 p8]))] [] [] 0 0 0)
noncomputable def O17_6 (p1 : Int) (p2 : Int) (p3 : (List Int)) (p4 : Pos) (p5 : Mv) (p6 : Pos) (p7 : Mv) (p8 : Int) : (Int × Bool × Pos) → Out := fun y => .exit 2 (St.mk (AV.ptr 3 0 :: AV.any :: AV.int .u8 p1 :: AV.int .i64 p2 :: (an 42 (AV.agg [AV.ints .i8 2 p3] :: AV.int .i64 y.fst :: AV.bool y.snd.fst :: (an 72 [])))) (Hp.mk [(pc p4 []), [AV.int .i8 p5.frm, AV.int .i8 p5.to, AV.int .u8 p5.pro, AV.int .u8 p5.drp, AV.bool p5.cas], [AV.int .u8 0, AV.ints .u8 64 (li (List.replicate 64 0)), AV.u64 0, AV.ints .u8 12 (li [0, 0, 0, 0, 0, 0, 0, 0, 0, 0, 0, 0]), AV.int .u8 0, AV.ints .i8 4 (li [0, 0, 0, 0]), AV.int .i8 0, AV.ints .u8 2 (li [0, 0]), AV.int .i64 0, AV.int .i64 0], (pc y.snd.snd (pc p6 [AV.int .i8 p7.frm, AV.int .i8 p7.to, AV.int .u8 p7.pro, AV.int .u8 p7.drp, AV.bool p7.cas, AV.int .i64 p8]))] [] [] 0 0 0))
noncomputable def st17_6 (p1 : Int) (p2 : Int) (p3 : (List Int)) (p4 : Pos) (p5 : Mv) (p6 : Pos) (p7 : Mv) (p8 : Int) (x : (Int × Pos)) : Stp (Int × Pos) ((Int × Bool × Pos)) := (bif decide (x.fst < 2) then (bif decide (p3.getD x.fst.toNat 0 < 0) then (Stp.go (wr .i64 (x.fst + 1), x.snd)) else (bif decide (p3.getD x.fst.toNat 0 > 7) then (Stp.go (wr .i64 (x.fst + 1), x.snd)) else (bif p8 == wr .i64 (wr .i64 (56 * wr .i64 p1) + wr .i64 (p3.getD x.fst.toNat 0)) then (Stp.go (wr .i64 (x.fst + 1), Pos.mk x.snd.variant x.snd.board x.snd.promoted x.snd.pockets x.snd.turn (x.snd.rooks.set (scale 2 p1 + scale 1 x.fst).toNat (-1)) x.snd.passing x.snd.checks x.snd.half x.snd.full)) else (bif p7.drp == 0 then (bif wr .i64 p7.frm == wr .i64 (wr .i64 (56 * wr .i64 p1) + wr .i64 (p3.getD x.fst.toNat 0)) then (Stp.go (wr .i64 (x.fst + 1), Pos.mk x.snd.variant x.snd.board x.snd.promoted x.snd.pockets x.snd.turn (x.snd.rooks.set (scale 2 p1 + scale 1 x.fst).toNat (-1)) x.snd.passing x.snd.checks x.snd.half x.snd.full)) else (bif decide (p2 < 0) then (Stp.go (wr .i64 (x.fst + 1), Pos.mk x.snd.variant x.snd.board x.snd.promoted x.snd.pockets x.snd.turn (x.snd.rooks.set (scale 2 p1 + scale 1 x.fst).toNat (-1)) x.snd.passing x.snd.checks x.snd.half x.snd.full)) else (bif wr .i64 (p2.tdiv 8) != wr .i64 (7 * wr .i64 p1) then (Stp.go (wr .i64 (x.fst + 1), Pos.mk x.snd.variant x.snd.board x.snd.promoted x.snd.pockets x.snd.turn (x.snd.rooks.set (scale 2 p1 + scale 1 x.fst).toNat (-1)) x.snd.passing x.snd.checks x.snd.half x.snd.full)) else (bif x.snd.board.getD (scale 1 (wr .i64 (wr .i64 (56 * wr .i64 p1) + wr .i64 (p3.getD x.fst.toNat 0)))).toNat 0 != N93 p1 4 then (Stp.go (wr .i64 (x.fst + 1), Pos.mk x.snd.variant x.snd.board x.snd.promoted x.snd.pockets x.snd.turn (x.snd.rooks.set (scale 2 p1 + scale 1 x.fst).toNat (-1)) x.snd.passing x.snd.checks x.snd.half x.snd.full)) else (Stp.go (wr .i64 (x.fst + 1), x.snd)))))) else (bif decide (p2 < 0) then (Stp.go (wr .i64 (x.fst + 1), Pos.mk x.snd.variant x.snd.board x.snd.promoted x.snd.pockets x.snd.turn (x.snd.rooks.set (scale 2 p1 + scale 1 x.fst).toNat (-1)) x.snd.passing x.snd.checks x.snd.half x.snd.full)) else (bif wr .i64 (p2.tdiv 8) != wr .i64 (7 * wr .i64 p1) then (Stp.go (wr .i64 (x.fst + 1), Pos.mk x.snd.variant x.snd.board x.snd.promoted x.snd.pockets x.snd.turn (x.snd.rooks.set (scale 2 p1 + scale 1 x.fst).toNat (-1)) x.snd.passing x.snd.checks x.snd.half x.snd.full)) else (bif x.snd.board.getD (scale 1 (wr .i64 (wr .i64 (56 * wr .i64 p1) + wr .i64 (p3.getD x.fst.toNat 0)))).toNat 0 != N93 p1 4 then (Stp.go (wr .i64 (x.fst + 1), Pos.mk x.snd.variant x.snd.board x.snd.promoted x.snd.pockets x.snd.turn (x.snd.rooks.set (scale 2 p1 + scale 1 x.fst).toNat (-1)) x.snd.passing x.snd.checks x.snd.half x.snd.full)) else (Stp.go (wr .i64 (x.fst + 1), x.snd))))))))) else (Stp.out ((x.fst, decide (x.fst < 2), x.snd))))
noncomputable def okL17_6 (p1 : Int) (p2 : Int) (p3 : (List Int)) (p4 : Pos) (p5 : Mv) (p6 : Pos) (p7 : Mv) (p8 : Int) (x : (Int × Pos)) : Bool := (bif decide (x.fst < 2) then (decide (0 ≤ x.fst) && decide (x.fst < Int.ofNat 2) && (bif decide (p3.getD x.fst.toNat 0 < 0) then true else (bif decide (p3.getD x.fst.toNat 0 > 7) then true else (bif p8 == wr .i64 (wr .i64 (56 * wr .i64 p1) + wr .i64 (p3.getD x.fst.toNat 0)) then (decide (0 ≤ p1) && decide (p1 < Int.ofNat 2) && (decide (0 ≤ x.fst) && decide (x.fst < Int.ofNat 2) && true)) else (bif p7.drp == 0 then (bif wr .i64 p7.frm == wr .i64 (wr .i64 (56 * wr .i64 p1) + wr .i64 (p3.getD x.fst.toNat 0)) then (decide (0 ≤ p1) && decide (p1 < Int.ofNat 2) && (decide (0 ≤ x.fst) && decide (x.fst < Int.ofNat 2) && true)) else (bif decide (p2 < 0) then (decide (0 ≤ p1) && decide (p1 < Int.ofNat 2) && (decide (0 ≤ x.fst) && decide (x.fst < Int.ofNat 2) && true)) else (bif wr .i64 (p2.tdiv 8) != wr .i64 (7 * wr .i64 p1) then (decide (0 ≤ p1) && decide (p1 < Int.ofNat 2) && (decide (0 ≤ x.fst) && decide (x.fst < Int.ofNat 2) && true)) else (decide (0 ≤ wr .i64 (wr .i64 (56 * wr .i64 p1) + wr .i64 (p3.getD x.fst.toNat 0))) && decide (wr .i64 (wr .i64 (56 * wr .i64 p1) + wr .i64 (p3.getD x.fst.toNat 0)) < Int.ofNat 64) && (bif x.snd.board.getD (scale 1 (wr .i64 (wr .i64 (56 * wr .i64 p1) + wr .i64 (p3.getD x.fst.toNat 0)))).toNat 0 != N93 p1 4 then (decide (0 ≤ p1) && decide (p1 < Int.ofNat 2) && (decide (0 ≤ x.fst) && decide (x.fst < Int.ofNat 2) && true)) else true))))) else (bif decide (p2 < 0) then (decide (0 ≤ p1) && decide (p1 < Int.ofNat 2) && (decide (0 ≤ x.fst) && decide (x.fst < Int.ofNat 2) && true)) else (bif wr .i64 (p2.tdiv 8) != wr .i64 (7 * wr .i64 p1) then (decide (0 ≤ p1) && decide (p1 < Int.ofNat 2) && (decide (0 ≤ x.fst) && decide (x.fst < Int.ofNat 2) && true)) else (decide (0 ≤ wr .i64 (wr .i64 (56 * wr .i64 p1) + wr .i64 (p3.getD x.fst.toNat 0))) && decide (wr .i64 (wr .i64 (56 * wr .i64 p1) + wr .i64 (p3.getD x.fst.toNat 0)) < Int.ofNat 64) && (bif x.snd.board.getD (scale 1 (wr .i64 (wr .i64 (56 * wr .i64 p1) + wr .i64 (p3.getD x.fst.toNat 0)))).toNat 0 != N93 p1 4 then (decide (0 ≤ p1) && decide (p1 < Int.ofNat 2) && (decide (0 ≤ x.fst) && decide (x.fst < Int.ofNat 2) && true)) else true))))))))) else true)
noncomputable def lp17_6 (p1 : Int) (p2 : Int) (p3 : (List Int)) (p4 : Pos) (p5 : Mv) (p6 : Pos) (p7 : Mv) (p8 : Int) (x : (Int × Pos)) : Option ((Int × Bool × Pos)) := itl (fun x => bif okL17_6 p1 p2 p3 p4 p5 p6 p7 p8 x then st17_6 p1 p2 p3 p4 p5 p6 p7 p8 x else .bad) many x
theorem E17_6 (p1 : Int) (p2 : Int) (p3 : (List Int)) (p4 : Pos) (p5 : Mv) (p6 : Pos) (p7 : Mv) (p8 : Int) (x : (Int × Pos)) : evCd B17_6 12 43 (bodL Pz 43 7) (S17_6 p1 p2 p3 p4 p5 p6 p7 p8 x) = (let z1 := (Hp.mk [(pc p4 []), [AV.int .i8 p5.frm, AV.int .i8 p5.to, AV.int .u8 p5.pro, AV.int .u8 p5.drp, AV.bool p5.cas], [AV.int .u8 0, AV.ints .u8 64 (li (List.replicate 64 0)), AV.u64 0, AV.ints .u8 12 (li [0, 0, 0, 0, 0, 0, 0, 0, 0, 0, 0, 0]), AV.int .u8 0, AV.ints .i8 4 (li [0, 0, 0, 0]), AV.int .i8 0, AV.ints .u8 2 (li [0, 0]), AV.int .i64 0, AV.int .i64 0], (AV.int .u8 x.snd.variant :: AV.ints .u8 64 x.snd.board :: AV.u64 x.snd.promoted :: AV.ints .u8 12 x.snd.pockets :: AV.int .u8 x.snd.turn :: AV.ints .i8 4 (x.snd.rooks.set (scale 2 p1 + scale 1 x.fst).toNat (-1)) :: AV.int .i8 x.snd.passing :: AV.ints .u8 2 x.snd.checks :: AV.int .i64 x.snd.half :: AV.int .i64 x.snd.full :: (pc p6 [AV.int .i8 p7.frm, AV.int .i8 p7.to, AV.int .u8 p7.pro, AV.int .u8 p7.drp, AV.bool p7.cas, AV.int .i64 p8]))] [] [] 0 0 0); let z3 := (Hp.mk [(pc p4 []), [AV.int .i8 p5.frm, AV.int .i8 p5.to, AV.int .u8 p5.pro, AV.int .u8 p5.drp, AV.bool p5.cas], [AV.int .u8 0, AV.ints .u8 64 (li (List.replicate 64 0)), AV.u64 0, AV.ints .u8 12 (li [0, 0, 0, 0, 0, 0, 0, 0, 0, 0, 0, 0]), AV.int .u8 0, AV.ints .i8 4 (li [0, 0, 0, 0]), AV.int .i8 0, AV.ints .u8 2 (li [0, 0]), AV.int .i64 0, AV.int .i64 0], (pc x.snd (pc p6 [AV.int .i8 p7.frm, AV.int .i8 p7.to, AV.int .u8 p7.pro, AV.int .u8 p7.drp, AV.bool p7.cas, AV.int .i64 p8]))] [] [] 0 0 0); let z7 := (an 3 (AV.int .i64 p2 :: AV.bool (decide (p2 < 0)) :: AV.any :: AV.any :: AV.int .i64 p2 :: AV.int .i64 (wr .i64 (p2.tdiv 8)) :: AV.int .u8 p1 :: AV.int .i64 (wr .i64 p1) :: AV.int .i64 (wr .i64 (7 * wr .i64 p1)) :: (AV.bool (wr .i64 (p2.tdiv 8) != wr .i64 (7 * wr .i64 p1))) :: AV.any :: AV.any :: AV.undef :: AV.undef :: AV.undef :: AV.undef :: AV.undef :: AV.undef :: AV.undef :: AV.undef :: AV.undef :: AV.undef :: (an 10 []))); let z8 := (decide (0 ≤ x.fst) && decide (x.fst < Int.ofNat 2)); let z9 := (decide (0 ≤ p1) && decide (p1 < Int.ofNat 2)); let z10 := (an 3 (AV.int .i64 p2 :: AV.bool (decide (p2 < 0)) :: AV.any :: AV.any :: AV.undef :: AV.undef :: AV.undef :: AV.undef :: AV.undef :: AV.undef :: AV.any :: AV.any :: AV.undef :: AV.undef :: AV.undef :: AV.undef :: AV.undef :: AV.undef :: AV.undef :: AV.undef :: AV.undef :: AV.undef :: (an 10 []))); let z11 := (an 3 (AV.undef :: AV.undef :: AV.any :: AV.any :: AV.undef :: AV.undef :: AV.undef :: AV.undef :: AV.undef :: AV.undef :: AV.any :: AV.any :: AV.undef :: AV.undef :: AV.undef :: AV.undef :: AV.undef :: AV.undef :: AV.undef :: AV.undef :: AV.undef :: AV.undef :: (an 10 []))); let z12 := (decide (p3.getD x.fst.toNat 0 > 7)); let z14 := (wr .i64 (x.fst + 1)); let z15 := [AV.ints .i8 2 p3]; let z16 := (p3.getD x.fst.toNat 0); let z4 := (wr .i64 (56 * wr .i64 p1) + wr .i64 z16); let z13 := (wr .i64 p7.frm == wr .i64 z4); let z17 := (isPS Pz 93 [AV.int .u8 p1, AV.int .u8 4] ((dI .u8).res (N93 p1 4))); let z18 := (decide (0 ≤ wr .i64 z4) && decide (wr .i64 z4 < Int.ofNat 64)); let z19 := (x.snd.board.getD (scale 1 (wr .i64 z4)).toNat 0 != N93 p1 4); let z2 := (an 3 (AV.int .i64 p2 :: AV.bool (decide (p2 < 0)) :: AV.any :: AV.any :: AV.int .i64 p2 :: AV.int .i64 (wr .i64 (p2.tdiv 8)) :: AV.int .u8 p1 :: AV.int .i64 (wr .i64 p1) :: AV.int .i64 (wr .i64 (7 * wr .i64 p1)) :: (AV.bool (wr .i64 (p2.tdiv 8) != wr .i64 (7 * wr .i64 p1))) :: AV.any :: AV.any :: AV.ptr 3 0 :: AV.int .i64 (wr .i64 z4) :: AV.ptr 3 0 :: AV.ptr 3 0 :: AV.ptr 3 1 :: AV.ptri 3 1 64 (scale 1 (wr .i64 z4)) 1 :: AV.int .u8 (x.snd.board.getD (scale 1 (wr .i64 z4)).toNat 0) :: AV.int .u8 p1 :: AV.int .u8 (N93 p1 4) :: (AV.bool z19) :: (an 10 []))); let z5 := (AV.ptr 3 0 :: AV.any :: AV.int .u8 p1 :: AV.int .i64 p2 :: (an 42 (AV.agg z15 :: AV.int .i64 z14 :: (an 6 (AV.int .i8 z16 :: AV.bool z12 :: (an 14 (AV.ptr 3 0 :: AV.ptr 3 0 :: AV.ptr 3 176 :: AV.ptr 3 179 :: AV.int .u8 p7.drp :: AV.bool (p7.drp == 0) :: AV.bool (p7.drp == 0) :: AV.ptr 3 0 :: AV.ptr 3 0 :: AV.ptr 3 176 :: AV.ptr 3 176 :: AV.int .i8 p7.frm :: AV.int .i64 (wr .i64 p7.frm) :: AV.int .i64 (wr .i64 z4) :: AV.bool z13 :: AV.bool z13 :: z2))))))); let z6 := (AV.ptr 3 0 :: AV.any :: AV.int .u8 p1 :: AV.int .i64 p2 :: (an 42 (AV.agg z15 :: AV.int .i64 z14 :: (an 6 (AV.int .i8 z16 :: AV.bool z12 :: (an 14 (AV.ptr 3 0 :: AV.ptr 3 0 :: AV.ptr 3 176 :: AV.ptr 3 179 :: AV.int .u8 p7.drp :: AV.bool (p7.drp == 0) :: AV.bool (p7.drp == 0) :: AV.undef :: AV.undef :: AV.undef :: AV.undef :: AV.undef :: AV.undef :: AV.undef :: AV.undef :: AV.cbool false :: z2))))))); Tr.br (decide (x.fst < 2)) (Tr.br z8 (Tr.br (decide (p3.getD x.fst.toNat 0 < 0)) (Tr.ret (Out.norm (St.mk (AV.ptr 3 0 :: AV.any :: AV.int .u8 p1 :: AV.int .i64 p2 :: (an 42 (AV.agg z15 :: AV.int .i64 z14 :: (an 6 (AV.undef :: AV.undef :: (an 65 [])))))) z3))) (Tr.br z12 (Tr.ret (Out.norm (St.mk (AV.ptr 3 0 :: AV.any :: AV.int .u8 p1 :: AV.int .i64 p2 :: (an 42 (AV.agg z15 :: AV.int .i64 z14 :: (an 6 (AV.int .i8 z16 :: AV.bool z12 :: (an 65 [])))))) z3))) (Tr.br (p8 == wr .i64 z4) (Tr.br z9 (Tr.br z8 (Tr.ret (Out.norm (St.mk (AV.ptr 3 0 :: AV.any :: AV.int .u8 p1 :: AV.int .i64 p2 :: (an 42 (AV.agg z15 :: AV.int .i64 z14 :: (an 6 (AV.int .i8 z16 :: AV.bool z12 :: (an 14 (AV.undef :: AV.undef :: AV.undef :: AV.undef :: AV.undef :: AV.undef :: AV.undef :: AV.undef :: AV.undef :: AV.undef :: AV.undef :: AV.undef :: AV.undef :: AV.undef :: AV.undef :: AV.undef :: z11))))))) z1))) Tr.fail) Tr.fail) (Tr.br (p7.drp == 0) (Tr.br z13 (Tr.br z9 (Tr.br z8 (Tr.ret (Out.norm (St.mk (AV.ptr 3 0 :: AV.any :: AV.int .u8 p1 :: AV.int .i64 p2 :: (an 42 (AV.agg z15 :: AV.int .i64 z14 :: (an 6 (AV.int .i8 z16 :: AV.bool z12 :: (an 14 (AV.ptr 3 0 :: AV.ptr 3 0 :: AV.ptr 3 176 :: AV.ptr 3 179 :: AV.int .u8 p7.drp :: AV.bool (p7.drp == 0) :: AV.bool (p7.drp == 0) :: AV.ptr 3 0 :: AV.ptr 3 0 :: AV.ptr 3 176 :: AV.ptr 3 176 :: AV.int .i8 p7.frm :: AV.int .i64 (wr .i64 p7.frm) :: AV.int .i64 (wr .i64 z4) :: AV.bool z13 :: AV.bool z13 :: z11))))))) z1))) Tr.fail) Tr.fail) (Tr.br (decide (p2 < 0)) (Tr.br z9 (Tr.br z8 (Tr.ret (Out.norm (St.mk (AV.ptr 3 0 :: AV.any :: AV.int .u8 p1 :: AV.int .i64 p2 :: (an 42 (AV.agg z15 :: AV.int .i64 z14 :: (an 6 (AV.int .i8 z16 :: AV.bool z12 :: (an 14 (AV.ptr 3 0 :: AV.ptr 3 0 :: AV.ptr 3 176 :: AV.ptr 3 179 :: AV.int .u8 p7.drp :: AV.bool (p7.drp == 0) :: AV.bool (p7.drp == 0) :: AV.ptr 3 0 :: AV.ptr 3 0 :: AV.ptr 3 176 :: AV.ptr 3 176 :: AV.int .i8 p7.frm :: AV.int .i64 (wr .i64 p7.frm) :: AV.int .i64 (wr .i64 z4) :: AV.bool z13 :: AV.bool z13 :: z10))))))) z1))) Tr.fail) Tr.fail) (Tr.br (wr .i64 (p2.tdiv 8) != wr .i64 (7 * wr .i64 p1)) (Tr.br z9 (Tr.br z8 (Tr.ret (Out.norm (St.mk (AV.ptr 3 0 :: AV.any :: AV.int .u8 p1 :: AV.int .i64 p2 :: (an 42 (AV.agg z15 :: AV.int .i64 z14 :: (an 6 (AV.int .i8 z16 :: AV.bool z12 :: (an 14 (AV.ptr 3 0 :: AV.ptr 3 0 :: AV.ptr 3 176 :: AV.ptr 3 179 :: AV.int .u8 p7.drp :: AV.bool (p7.drp == 0) :: AV.bool (p7.drp == 0) :: AV.ptr 3 0 :: AV.ptr 3 0 :: AV.ptr 3 176 :: AV.ptr 3 176 :: AV.int .i8 p7.frm :: AV.int .i64 (wr .i64 p7.frm) :: AV.int .i64 (wr .i64 z4) :: AV.bool z13 :: AV.bool z13 :: z7))))))) z1))) Tr.fail) Tr.fail) (Tr.br z18 (Tr.br z17 (Tr.br z19 (Tr.br z9 (Tr.br z8 (Tr.ret (Out.norm (St.mk z5 z1))) Tr.fail) Tr.fail) (Tr.ret (Out.norm (St.mk z5 z3)))) Tr.fail) Tr.fail)))) (Tr.br (decide (p2 < 0)) (Tr.br z9 (Tr.br z8 (Tr.ret (Out.norm (St.mk (AV.ptr 3 0 :: AV.any :: AV.int .u8 p1 :: AV.int .i64 p2 :: (an 42 (AV.agg z15 :: AV.int .i64 z14 :: (an 6 (AV.int .i8 z16 :: AV.bool z12 :: (an 14 (AV.ptr 3 0 :: AV.ptr 3 0 :: AV.ptr 3 176 :: AV.ptr 3 179 :: AV.int .u8 p7.drp :: AV.bool (p7.drp == 0) :: AV.bool (p7.drp == 0) :: AV.undef :: AV.undef :: AV.undef :: AV.undef :: AV.undef :: AV.undef :: AV.undef :: AV.undef :: AV.cbool false :: z10))))))) z1))) Tr.fail) Tr.fail) (Tr.br (wr .i64 (p2.tdiv 8) != wr .i64 (7 * wr .i64 p1)) (Tr.br z9 (Tr.br z8 (Tr.ret (Out.norm (St.mk (AV.ptr 3 0 :: AV.any :: AV.int .u8 p1 :: AV.int .i64 p2 :: (an 42 (AV.agg z15 :: AV.int .i64 z14 :: (an 6 (AV.int .i8 z16 :: AV.bool z12 :: (an 14 (AV.ptr 3 0 :: AV.ptr 3 0 :: AV.ptr 3 176 :: AV.ptr 3 179 :: AV.int .u8 p7.drp :: AV.bool (p7.drp == 0) :: AV.bool (p7.drp == 0) :: AV.undef :: AV.undef :: AV.undef :: AV.undef :: AV.undef :: AV.undef :: AV.undef :: AV.undef :: AV.cbool false :: z7))))))) z1))) Tr.fail) Tr.fail) (Tr.br z18 (Tr.br z17 (Tr.br z19 (Tr.br z9 (Tr.br z8 (Tr.ret (Out.norm (St.mk z6 z1))) Tr.fail) Tr.fail) (Tr.ret (Out.norm (St.mk z6 z3)))) Tr.fail) Tr.fail))))))) Tr.fail) (Tr.ret (Out.exit 2 (St.mk (AV.ptr 3 0 :: AV.any :: AV.int .u8 p1 :: AV.int .i64 p2 :: (an 42 (AV.agg z15 :: AV.int .i64 x.fst :: AV.bool (decide (x.fst < 2)) :: (an 72 [])))) z3)))) := by kernel_rfl
theorem L17_6 (p1 : Int) (p2 : Int) (p3 : (List Int)) (p4 : Pos) (p5 : Mv) (p6 : Pos) (p7 : Mv) (p8 : Int) (x : (Int × Pos)) (r : (Int × Bool × Pos)) (h : lp17_6 p1 p2 p3 p4 p5 p6 p7 p8 x = some r) : LSpec Pz (bodL Pz 43 7) (S17_6 p1 p2 p3 p4 p5 p6 p7 p8 x) (O17_6 p1 p2 p3 p4 p5 p6 p7 p8 r) := LSpec.itd (S := S17_6 p1 p2 p3 p4 p5 p6 p7 p8) (O := O17_6 p1 p2 p3 p4 p5 p6 p7 p8) (ok := okL17_6 p1 p2 p3 p4 p5 p6 p7 p8) (st := st17_6 p1 p2 p3 p4 p5 p6 p7 p8) hB17_6 (fun x => gr_eq (E17_6 p1 p2 p3 p4 p5 p6 p7 p8 x) (gr_br (gr_guard (gr_br (gr_ret (rl_go (wk_nrm (ks := (1 :: (rn 4 42 (rn 48 73 [])))) (gs := [2, 3, 46, 47]) (b := true) rfl (by kernel_rfl)))) (gr_br (gr_ret (rl_go (wk_nrm (ks := (1 :: (rn 4 42 (rn 48 73 [])))) (gs := [2, 3, 46, 47]) (b := true) rfl (by kernel_rfl)))) (gr_br (gr_guard (gr_guard (gr_ret (rl_go (wk_nrm (ks := (1 :: (rn 4 42 (rn 48 73 [])))) (gs := [2, 3, 46, 47]) (b := true) rfl (by kernel_rfl)))))) (gr_br (gr_br (gr_guard (gr_guard (gr_ret (rl_go (wk_nrm (ks := (1 :: (rn 4 42 (rn 48 73 [])))) (gs := [2, 3, 46, 47]) (b := true) rfl (by kernel_rfl)))))) (gr_br (gr_guard (gr_guard (gr_ret (rl_go (wk_nrm (ks := (1 :: (rn 4 42 (rn 48 73 [])))) (gs := [2, 3, 46, 47]) (b := true) rfl (by kernel_rfl)))))) (gr_br (gr_guard (gr_guard (gr_ret (rl_go (wk_nrm (ks := (1 :: (rn 4 42 (rn 48 73 [])))) (gs := [2, 3, 46, 47]) (b := true) rfl (by kernel_rfl)))))) (gr_guard (gr_callT (P93 (p1) (4) rfl) (gr_br (gr_guard (gr_guard (gr_ret (rl_go (wk_nrm (ks := (1 :: (rn 4 42 (rn 48 73 [])))) (gs := [2, 3, 46, 47]) (b := true) rfl (by kernel_rfl)))))) (gr_ret (rl_go (wk_nrm (ks := (1 :: (rn 4 42 (rn 48 73 [])))) (gs := [2, 3, 46, 47]) (b := true) rfl (by kernel_rfl)))))))))) (gr_br (gr_guard (gr_guard (gr_ret (rl_go (wk_nrm (ks := (1 :: (rn 4 42 (rn 48 73 [])))) (gs := [2, 3, 46, 47]) (b := true) rfl (by kernel_rfl)))))) (gr_br (gr_guard (gr_guard (gr_ret (rl_go (wk_nrm (ks := (1 :: (rn 4 42 (rn 48 73 [])))) (gs := [2, 3, 46, 47]) (b := true) rfl (by kernel_rfl)))))) (gr_guard (gr_callT (P93 (p1) (4) rfl) (gr_br (gr_guard (gr_guard (gr_ret (rl_go (wk_nrm (ks := (1 :: (rn 4 42 (rn 48 73 [])))) (gs := [2, 3, 46, 47]) (b := true) rfl (by kernel_rfl)))))) (gr_ret (rl_go (wk_nrm (ks := (1 :: (rn 4 42 (rn 48 73 [])))) (gs := [2, 3, 46, 47]) (b := true) rfl (by kernel_rfl)))))))))))))) (gr_ret (rl_exit rfl (wk_nrm (ks := (1 :: (rn 4 42 (rn 49 72 [])))) (gs := []) (b := false) rfl (by kernel_rfl)))))) many x r h
noncomputable def F17_6 : Code → St → Tr Out := sureL Pz (fun s => O17_6 (tI (tT s 2)) (tI (tT s 3)) (tN (tX (tA (tT s 46)) 0)) (Kz.Pos.mk (tI (tH s 0 0)) (tN (tH s 0 1)) (tU (tH s 0 2)) (tN (tH s 0 3)) (tI (tH s 0 4)) (tN (tH s 0 5)) (tI (tH s 0 6)) (tN (tH s 0 7)) (tI (tH s 0 8)) (tI (tH s 0 9))) (Kz.Mv.mk (tI (tH s 1 0)) (tI (tH s 1 1)) (tI (tH s 1 2)) (tI (tH s 1 3)) (tB (tH s 1 4))) (Kz.Pos.mk (tI (tH s 3 10)) (tN (tH s 3 11)) (tU (tH s 3 12)) (tN (tH s 3 13)) (tI (tH s 3 14)) (tN (tH s 3 15)) (tI (tH s 3 16)) (tN (tH s 3 17)) (tI (tH s 3 18)) (tI (tH s 3 19))) (Kz.Mv.mk (tI (tH s 3 20)) (tI (tH s 3 21)) (tI (tH s 3 22)) (tI (tH s 3 23)) (tB (tH s 3 24))) (tI (tH s 3 25)) ((lp17_6 (tI (tT s 2)) (tI (tT s 3)) (tN (tX (tA (tT s 46)) 0)) (Kz.Pos.mk (tI (tH s 0 0)) (tN (tH s 0 1)) (tU (tH s 0 2)) (tN (tH s 0 3)) (tI (tH s 0 4)) (tN (tH s 0 5)) (tI (tH s 0 6)) (tN (tH s 0 7)) (tI (tH s 0 8)) (tI (tH s 0 9))) (Kz.Mv.mk (tI (tH s 1 0)) (tI (tH s 1 1)) (tI (tH s 1 2)) (tI (tH s 1 3)) (tB (tH s 1 4))) (Kz.Pos.mk (tI (tH s 3 10)) (tN (tH s 3 11)) (tU (tH s 3 12)) (tN (tH s 3 13)) (tI (tH s 3 14)) (tN (tH s 3 15)) (tI (tH s 3 16)) (tN (tH s 3 17)) (tI (tH s 3 18)) (tI (tH s 3 19))) (Kz.Mv.mk (tI (tH s 3 20)) (tI (tH s 3 21)) (tI (tH s 3 22)) (tI (tH s 3 23)) (tB (tH s 3 24))) (tI (tH s 3 25)) ((tI (tT s 47)), (Kz.Pos.mk (tI (tH s 3 0)) (tN (tH s 3 1)) (tU (tH s 3 2)) (tN (tH s 3 3)) (tI (tH s 3 4)) (tN (tH s 3 5)) (tI (tH s 3 6)) (tN (tH s 3 7)) (tI (tH s 3 8)) (tI (tH s 3 9))))).getD default))
theorem sF17_6 : ∀ b, LSound Pz b (F17_6 b) := sureL_sound
noncomputable def B17_7 : Base := baseOf Pz (fun f i => lkK f i K17) [(103, G103), (38, G38), (37, G37), (39, G39), (101, G101), (89, G89), (91, G91), (92, G92), (93, G93), (95, G95), (96, G96), (97, G97), (99, G99), (100, G100), (102, G102)] [(42, 2, F17_3), (43, 7, F17_6)] [(40, FF17_1), (41, FF17_2), (42, FF17_4)]
theorem hB17_7 : BOk B17_7 := base_ok named_z ⟨s103, s38, s37, s39, s101, s89, s91, s92, s93, s95, s96, s97, s99, s100, s102, trivial⟩ ⟨sF17_3, sF17_6, trivial⟩ ⟨sFF17_1, sFF17_2, sFF17_4, trivial⟩
noncomputable def S17_7 (p1 : Pos) (p2 : Mv) (p3 : Pos) (p4 : Mv) (p5 : Int) (x : (Int × Pos)) : St := St.mk (AV.ptr 3 0 :: AV.any :: AV.int .u8 x.fst :: (an 118 [])) (Hp.mk [(pc p1 []), [AV.int .i8 p2.frm, AV.int .i8 p2.to, AV.int .u8 p2.pro, AV.int .u8 p2.drp, AV.bool p2.cas], [AV.int .u8 0, AV.ints .u8 64 (li (List.replicate 64 0)), AV.u64 0, AV.ints .u8 12 (li [0, 0, 0, 0, 0, 0, 0, 0, 0, 0, 0, 0]), AV.int .u8 0, AV.ints .i8 4 (li [0, 0, 0, 0]), AV.int .i8 0, AV.ints .u8 2 (li [0, 0]), AV.int .i64 0, AV.int .i64 0], (pc x.snd (pc p3 [AV.int .i8 p4.frm, AV.int .i8 p4.to, AV.int .u8 p4.pro, AV.int .u8 p4.drp, AV.bool p4.cas, AV.int .i64 p5]))] [] [] 0 0 0)
noncomputable def O17_7 (p1 : Pos) (p2 : Mv) (p3 : Pos) (p4 : Mv) (p5 : Int) : (Int × Bool × Pos) → Out := fun y => .exit 0 (St.mk (AV.ptr 3 0 :: AV.any :: AV.int .u8 y.fst :: (an 28 (AV.bool y.snd.fst :: (an 89 [])))) (Hp.mk [(pc p1 []), [AV.int .i8 p2.frm, AV.int .i8 p2.to, AV.int .u8 p2.pro, AV.int .u8 p2.drp, AV.bool p2.cas], [AV.int .u8 0, AV.ints .u8 64 (li (List.replicate 64 0)), AV.u64 0, AV.ints .u8 12 (li [0, 0, 0, 0, 0, 0, 0, 0, 0, 0, 0, 0]), AV.int .u8 0, AV.ints .i8 4 (li [0, 0, 0, 0]), AV.int .i8 0, AV.ints .u8 2 (li [0, 0]), AV.int .i64 0, AV.int .i64 0], (pc y.snd.snd (pc p3 [AV.int .i8 p4.frm, AV.int .i8 p4.to, AV.int .u8 p4.pro, AV.int .u8 p4.drp, AV.bool p4.cas, AV.int .i64 p5]))] [] [] 0 0 0))
noncomputable def st17_7 (p1 : Pos) (p2 : Mv) (p3 : Pos) (p4 : Mv) (p5 : Int) (x : (Int × Pos)) : Stp (Int × Pos) ((Int × Bool × Pos)) := (bif decide (x.fst ≤ 1) then (Stp.go (wr .u8 (x.fst + 1), ((lp17_6 x.fst (N99 x.snd x.fst 6) (List.take 2 (List.drop (scale 2 x.fst).toNat x.snd.rooks)) p1 p2 p3 p4 p5 (0, x.snd)).getD default).snd.snd)) else (Stp.out ((x.fst, decide (x.fst ≤ 1), x.snd))))
noncomputable def okL17_7 (p1 : Pos) (p2 : Mv) (p3 : Pos) (p4 : Mv) (p5 : Int) (x : (Int × Pos)) : Bool := (bif decide (x.fst ≤ 1) then (ok99 (x.snd) (x.fst) (6) && (decide (0 ≤ x.fst) && decide (x.fst < Int.ofNat 2) && ((lp17_6 x.fst (N99 x.snd x.fst 6) (List.take 2 (List.drop (scale 2 x.fst).toNat x.snd.rooks)) p1 p2 p3 p4 p5 (0, x.snd)).isSome && true))) else true)
noncomputable def lp17_7 (p1 : Pos) (p2 : Mv) (p3 : Pos) (p4 : Mv) (p5 : Int) (x : (Int × Pos)) : Option ((Int × Bool × Pos)) := itl (fun x => bif okL17_7 p1 p2 p3 p4 p5 x then st17_7 p1 p2 p3 p4 p5 x else .bad) many x
theorem E17_7 (p1 : Pos) (p2 : Mv) (p3 : Pos) (p4 : Mv) (p5 : Int) (x : (Int × Pos)) : evCd B17_7 12 43 (bodL Pz 43 3) (S17_7 p1 p2 p3 p4 p5 x) = (let z1 := (Hp.mk [(pc p1 []), [AV.int .i8 p2.frm, AV.int .i8 p2.to, AV.int .u8 p2.pro, AV.int .u8 p2.drp, AV.bool p2.cas], [AV.int .u8 0, AV.ints .u8 64 (li (List.replicate 64 0)), AV.u64 0, AV.ints .u8 12 (li [0, 0, 0, 0, 0, 0, 0, 0, 0, 0, 0, 0]), AV.int .u8 0, AV.ints .i8 4 (li [0, 0, 0, 0]), AV.int .i8 0, AV.ints .u8 2 (li [0, 0]), AV.int .i64 0, AV.int .i64 0], (pc x.snd (pc p3 [AV.int .i8 p4.frm, AV.int .i8 p4.to, AV.int .u8 p4.pro, AV.int .u8 p4.drp, AV.bool p4.cas, AV.int .i64 p5]))] [] [] 0 0 0); let z2 := (List.take 2 (List.drop (scale 2 x.fst).toNat x.snd.rooks)); let z3 := ((lp17_6 x.fst (N99 x.snd x.fst 6) z2 p1 p2 p3 p4 p5 (0, x.snd)).getD default); Tr.br (decide (x.fst ≤ 1)) (Tr.br (isPS Pz 99 [x.snd.av, AV.int .u8 x.fst, AV.int .u8 6] ((dI .i64).res (N99 x.snd x.fst 6))) (Tr.br (decide (0 ≤ x.fst) && decide (x.fst < Int.ofNat 2)) (Tr.br (isLS Pz (bodL Pz 43 7) (St.mk (AV.ptr 3 0 :: AV.any :: AV.int .u8 x.fst :: AV.int .i64 (N99 x.snd x.fst 6) :: (an 42 (AV.agg [AV.ints .i8 2 z2] :: AV.cint .i64 0 :: (an 73 [])))) z1) (O17_6 x.fst (N99 x.snd x.fst 6) z2 p1 p2 p3 p4 p5 z3)) (Tr.ret (Out.norm (St.mk (AV.ptr 3 0 :: AV.any :: AV.int .u8 (wr .u8 (x.fst + 1)) :: (an 118 [])) (Hp.mk [(pc p1 []), [AV.int .i8 p2.frm, AV.int .i8 p2.to, AV.int .u8 p2.pro, AV.int .u8 p2.drp, AV.bool p2.cas], [AV.int .u8 0, AV.ints .u8 64 (li (List.replicate 64 0)), AV.u64 0, AV.ints .u8 12 (li [0, 0, 0, 0, 0, 0, 0, 0, 0, 0, 0, 0]), AV.int .u8 0, AV.ints .i8 4 (li [0, 0, 0, 0]), AV.int .i8 0, AV.ints .u8 2 (li [0, 0]), AV.int .i64 0, AV.int .i64 0], (pc z3.snd.snd (pc p3 [AV.int .i8 p4.frm, AV.int .i8 p4.to, AV.int .u8 p4.pro, AV.int .u8 p4.drp, AV.bool p4.cas, AV.int .i64 p5]))] [] [] 0 0 0)))) Tr.fail) Tr.fail) Tr.fail) (Tr.ret (Out.exit 0 (St.mk (AV.ptr 3 0 :: AV.any :: AV.int .u8 x.fst :: (an 28 (AV.bool (decide (x.fst ≤ 1)) :: (an 89 [])))) z1)))) := by kernel_rfl
theorem L17_7 (p1 : Pos) (p2 : Mv) (p3 : Pos) (p4 : Mv) (p5 : Int) (x : (Int × Pos)) (r : (Int × Bool × Pos)) (h : lp17_7 p1 p2 p3 p4 p5 x = some r) : LSpec Pz (bodL Pz 43 3) (S17_7 p1 p2 p3 p4 p5 x) (O17_7 p1 p2 p3 p4 p5 r) := LSpec.itd (S := S17_7 p1 p2 p3 p4 p5) (O := O17_7 p1 p2 p3 p4 p5) (ok := okL17_7 p1 p2 p3 p4 p5) (st := st17_7 p1 p2 p3 p4 p5) hB17_7 (fun x => gr_eq (E17_7 p1 p2 p3 p4 p5 x) (gr_br (gr_call (P99 (x.snd) (x.fst) (6)) (gr_guard (gr_loop (fun h => L17_6 (x.fst) (N99 x.snd x.fst 6) (List.take 2 (List.drop (scale 2 x.fst).toNat x.snd.rooks)) (p1) (p2) (p3) (p4) (p5) ((0, x.snd)) _ (some_getD h)) (wk_nrm (ks := (1 :: (rn 4 42 (rn 48 73 [])))) (gs := [2, 3, 46, 47]) (b := true) rfl (by kernel_rfl)) (gr_ret (rl_go (wk_nrm (ks := (1 :: (rn 3 118 []))) (gs := [2]) (b := true) rfl (by kernel_rfl))))))) (gr_ret (rl_exit rfl (wk_nrm (ks := (1 :: (rn 3 28 (rn 32 89 [])))) (gs := []) (b := false) rfl (by kernel_rfl)))))) many x r h
noncomputable def F17_7 : Code → St → Tr Out := sureL Pz (fun s => O17_7 (Kz.Pos.mk (tI (tH s 0 0)) (tN (tH s 0 1)) (tU (tH s 0 2)) (tN (tH s 0 3)) (tI (tH s 0 4)) (tN (tH s 0 5)) (tI (tH s 0 6)) (tN (tH s 0 7)) (tI (tH s 0 8)) (tI (tH s 0 9))) (Kz.Mv.mk (tI (tH s 1 0)) (tI (tH s 1 1)) (tI (tH s 1 2)) (tI (tH s 1 3)) (tB (tH s 1 4))) (Kz.Pos.mk (tI (tH s 3 10)) (tN (tH s 3 11)) (tU (tH s 3 12)) (tN (tH s 3 13)) (tI (tH s 3 14)) (tN (tH s 3 15)) (tI (tH s 3 16)) (tN (tH s 3 17)) (tI (tH s 3 18)) (tI (tH s 3 19))) (Kz.Mv.mk (tI (tH s 3 20)) (tI (tH s 3 21)) (tI (tH s 3 22)) (tI (tH s 3 23)) (tB (tH s 3 24))) (tI (tH s 3 25)) ((lp17_7 (Kz.Pos.mk (tI (tH s 0 0)) (tN (tH s 0 1)) (tU (tH s 0 2)) (tN (tH s 0 3)) (tI (tH s 0 4)) (tN (tH s 0 5)) (tI (tH s 0 6)) (tN (tH s 0 7)) (tI (tH s 0 8)) (tI (tH s 0 9))) (Kz.Mv.mk (tI (tH s 1 0)) (tI (tH s 1 1)) (tI (tH s 1 2)) (tI (tH s 1 3)) (tB (tH s 1 4))) (Kz.Pos.mk (tI (tH s 3 10)) (tN (tH s 3 11)) (tU (tH s 3 12)) (tN (tH s 3 13)) (tI (tH s 3 14)) (tN (tH s 3 15)) (tI (tH s 3 16)) (tN (tH s 3 17)) (tI (tH s 3 18)) (tI (tH s 3 19))) (Kz.Mv.mk (tI (tH s 3 20)) (tI (tH s 3 21)) (tI (tH s 3 22)) (tI (tH s 3 23)) (tB (tH s 3 24))) (tI (tH s 3 25)) ((tI (tT s 2)), (Kz.Pos.mk (tI (tH s 3 0)) (tN (tH s 3 1)) (tU (tH s 3 2)) (tN (tH s 3 3)) (tI (tH s 3 4)) (tN (tH s 3 5)) (tI (tH s 3 6)) (tN (tH s 3 7)) (tI (tH s 3 8)) (tI (tH s 3 9))))).getD default))
theorem sF17_7 : ∀ b, LSound Pz b (F17_7 b) := sureL_sound
noncomputable def B17_8 : Base := baseOf Pz (fun f i => lkK f i K17) [(103, G103), (38, G38), (37, G37), (39, G39), (101, G101), (89, G89), (91, G91), (92, G92), (93, G93), (95, G95), (96, G96), (97, G97), (99, G99), (100, G100), (102, G102)] [(42, 2, F17_3), (43, 7, F17_6), (43, 3, F17_7)] [(40, FF17_1), (41, FF17_2), (42, FF17_4)]
theorem hB17_8 : BOk B17_8 := base_ok named_z ⟨s103, s38, s37, s39, s101, s89, s91, s92, s93, s95, s96, s97, s99, s100, s102, trivial⟩ ⟨sF17_3, sF17_6, sF17_7, trivial⟩ ⟨sFF17_1, sFF17_2, sFF17_4, trivial⟩
noncomputable def A17_8 (p1 : Pos) (p2 : Mv) (p3 : Pos) (p4 : Pos) (p5 : Mv) (p6 : Int) : List AV := [AV.ptr 3 0]
noncomputable def H17_8 (p1 : Pos) (p2 : Mv) (p3 : Pos) (p4 : Pos) (p5 : Mv) (p6 : Int) : Hp := Hp.mk [(pc p1 []), [AV.int .i8 p2.frm, AV.int .i8 p2.to, AV.int .u8 p2.pro, AV.int .u8 p2.drp, AV.bool p2.cas], [AV.int .u8 0, AV.ints .u8 64 (li (List.replicate 64 0)), AV.u64 0, AV.ints .u8 12 (li [0, 0, 0, 0, 0, 0, 0, 0, 0, 0, 0, 0]), AV.int .u8 0, AV.ints .i8 4 (li [0, 0, 0, 0]), AV.int .i8 0, AV.ints .u8 2 (li [0, 0]), AV.int .i64 0, AV.int .i64 0], (pc p3 (pc p4 [AV.int .i8 p5.frm, AV.int .i8 p5.to, AV.int .u8 p5.pro, AV.int .u8 p5.drp, AV.bool p5.cas, AV.int .i64 p6]))] [] [] 0 0 0
noncomputable def O17_8 (p1 : Pos) (p2 : Mv) (p3 : Pos) (p4 : Pos) (p5 : Mv) (p6 : Int) (y : (Pos)) : FRes := .ret (AV.tuple []) (Hp.mk [(pc p1 []), [AV.int .i8 p2.frm, AV.int .i8 p2.to, AV.int .u8 p2.pro, AV.int .u8 p2.drp, AV.bool p2.cas], [AV.int .u8 0, AV.ints .u8 64 (li (List.replicate 64 0)), AV.u64 0, AV.ints .u8 12 (li [0, 0, 0, 0, 0, 0, 0, 0, 0, 0, 0, 0]), AV.int .u8 0, AV.ints .i8 4 (li [0, 0, 0, 0]), AV.int .i8 0, AV.ints .u8 2 (li [0, 0]), AV.int .i64 0, AV.int .i64 0], (pc y (pc p4 [AV.int .i8 p5.frm, AV.int .i8 p5.to, AV.int .u8 p5.pro, AV.int .u8 p5.drp, AV.bool p5.cas, AV.int .i64 p6]))] [] [] 0 0 0)
noncomputable def vF17_8 (p1 : Pos) (p2 : Mv) (p3 : Pos) (p4 : Pos) (p5 : Mv) (p6 : Int) : (Pos) := (bif p5.drp != 0 then (bif p5.drp == 6 then (bif p5.drp == 0 then (((lp17_7 p1 p2 p4 p5 p6 (0, Pos.mk p3.variant p3.board p3.promoted p3.pockets p3.turn (List.take (scale 2 p3.turn).toNat p3.rooks ++ li [-1, -1] ++ List.drop ((scale 2 p3.turn).toNat + 2) p3.rooks) p3.passing p3.checks p3.half p3.full)).getD default).snd.snd) else (((lp17_7 p1 p2 p4 p5 p6 (0, p3)).getD default).snd.snd)) else (((lp17_7 p1 p2 p4 p5 p6 (0, p3)).getD default).snd.snd)) else (bif N89 (p4.board.getD (scale 1 p5.frm).toNat 0) == 6 then (bif p5.drp == 0 then (((lp17_7 p1 p2 p4 p5 p6 (0, Pos.mk p3.variant p3.board p3.promoted p3.pockets p3.turn (List.take (scale 2 p3.turn).toNat p3.rooks ++ li [-1, -1] ++ List.drop ((scale 2 p3.turn).toNat + 2) p3.rooks) p3.passing p3.checks p3.half p3.full)).getD default).snd.snd) else (((lp17_7 p1 p2 p4 p5 p6 (0, p3)).getD default).snd.snd)) else (((lp17_7 p1 p2 p4 p5 p6 (0, p3)).getD default).snd.snd)))
noncomputable def okF17_8 (p1 : Pos) (p2 : Mv) (p3 : Pos) (p4 : Pos) (p5 : Mv) (p6 : Int) : Bool := (bif p5.drp != 0 then (bif p5.drp == 6 then (bif p5.drp == 0 then (decide (0 ≤ p3.turn) && decide (p3.turn < Int.ofNat 2) && ((lp17_7 p1 p2 p4 p5 p6 (0, Pos.mk p3.variant p3.board p3.promoted p3.pockets p3.turn (List.take (scale 2 p3.turn).toNat p3.rooks ++ li [-1, -1] ++ List.drop ((scale 2 p3.turn).toNat + 2) p3.rooks) p3.passing p3.checks p3.half p3.full)).isSome && true)) else ((lp17_7 p1 p2 p4 p5 p6 (0, p3)).isSome && true)) else ((lp17_7 p1 p2 p4 p5 p6 (0, p3)).isSome && true)) else (decide (0 ≤ p5.frm) && decide (p5.frm < Int.ofNat 64) && (bif N89 (p4.board.getD (scale 1 p5.frm).toNat 0) == 6 then (bif p5.drp == 0 then (decide (0 ≤ p3.turn) && decide (p3.turn < Int.ofNat 2) && ((lp17_7 p1 p2 p4 p5 p6 (0, Pos.mk p3.variant p3.board p3.promoted p3.pockets p3.turn (List.take (scale 2 p3.turn).toNat p3.rooks ++ li [-1, -1] ++ List.drop ((scale 2 p3.turn).toNat + 2) p3.rooks) p3.passing p3.checks p3.half p3.full)).isSome && true)) else ((lp17_7 p1 p2 p4 p5 p6 (0, p3)).isSome && true)) else ((lp17_7 p1 p2 p4 p5 p6 (0, p3)).isSome && true))))
theorem EF17_8 (p1 : Pos) (p2 : Mv) (p3 : Pos) (p4 : Pos) (p5 : Mv) (p6 : Int) : evFd B17_8 14 43 (A17_8 p1 p2 p3 p4 p5 p6) (H17_8 p1 p2 p3 p4 p5 p6) = (let z1 := (Tr.br (isLS Pz (bodL Pz 43 3) (St.mk (AV.ptr 3 0 :: AV.any :: AV.cint .u8 0 :: (an 51 (AV.undef :: AV.undef :: (an 14 (AV.undef :: AV.undef :: AV.undef :: AV.undef :: AV.undef :: AV.undef :: AV.undef :: AV.undef :: AV.undef :: AV.undef :: AV.undef :: AV.undef :: AV.undef :: AV.undef :: AV.undef :: AV.undef :: (an 3 (AV.undef :: AV.undef :: AV.any :: AV.any :: AV.undef :: AV.undef :: AV.undef :: AV.undef :: AV.undef :: AV.undef :: AV.any :: AV.any :: AV.undef :: AV.undef :: AV.undef :: AV.undef :: AV.undef :: AV.undef :: AV.undef :: AV.undef :: AV.undef :: AV.undef :: (an 10 [])))))))) (Hp.mk [(pc p1 []), [AV.int .i8 p2.frm, AV.int .i8 p2.to, AV.int .u8 p2.pro, AV.int .u8 p2.drp, AV.bool p2.cas], [AV.int .u8 0, AV.ints .u8 64 (li (List.replicate 64 0)), AV.u64 0, AV.ints .u8 12 (li [0, 0, 0, 0, 0, 0, 0, 0, 0, 0, 0, 0]), AV.int .u8 0, AV.ints .i8 4 (li [0, 0, 0, 0]), AV.int .i8 0, AV.ints .u8 2 (li [0, 0]), AV.int .i64 0, AV.int .i64 0], (pc p3 (pc p4 [AV.int .i8 p5.frm, AV.int .i8 p5.to, AV.int .u8 p5.pro, AV.int .u8 p5.drp, AV.bool p5.cas, AV.int .i64 p6]))] [] [] 0 0 0)) (O17_7 p1 p2 p4 p5 p6 ((lp17_7 p1 p2 p4 p5 p6 (0, p3)).getD default))) (Tr.ret (FRes.ret (AV.tuple []) (Hp.mk [(pc p1 []), [AV.int .i8 p2.frm, AV.int .i8 p2.to, AV.int .u8 p2.pro, AV.int .u8 p2.drp, AV.bool p2.cas], [AV.int .u8 0, AV.ints .u8 64 (li (List.replicate 64 0)), AV.u64 0, AV.ints .u8 12 (li [0, 0, 0, 0, 0, 0, 0, 0, 0, 0, 0, 0]), AV.int .u8 0, AV.ints .i8 4 (li [0, 0, 0, 0]), AV.int .i8 0, AV.ints .u8 2 (li [0, 0]), AV.int .i64 0, AV.int .i64 0], (pc ((lp17_7 p1 p2 p4 p5 p6 (0, p3)).getD default).snd.snd (pc p4 [AV.int .i8 p5.frm, AV.int .i8 p5.to, AV.int .u8 p5.pro, AV.int .u8 p5.drp, AV.bool p5.cas, AV.int .i64 p6]))] [] [] 0 0 0))) Tr.fail); let z2 := (Tr.br (p5.drp == 0) (Tr.br (decide (0 ≤ p3.turn) && decide (p3.turn < Int.ofNat 2)) (Tr.br (isLS Pz (bodL Pz 43 3) (St.mk (AV.ptr 3 0 :: AV.any :: AV.cint .u8 0 :: (an 51 (AV.undef :: AV.undef :: (an 14 (AV.undef :: AV.undef :: AV.undef :: AV.undef :: AV.undef :: AV.undef :: AV.undef :: AV.undef :: AV.undef :: AV.undef :: AV.undef :: AV.undef :: AV.undef :: AV.undef :: AV.undef :: AV.undef :: (an 3 (AV.undef :: AV.undef :: AV.any :: AV.any :: AV.undef :: AV.undef :: AV.undef :: AV.undef :: AV.undef :: AV.undef :: AV.any :: AV.any :: AV.undef :: AV.undef :: AV.undef :: AV.undef :: AV.undef :: AV.undef :: AV.undef :: AV.undef :: AV.undef :: AV.undef :: (an 10 [])))))))) (Hp.mk [(pc p1 []), [AV.int .i8 p2.frm, AV.int .i8 p2.to, AV.int .u8 p2.pro, AV.int .u8 p2.drp, AV.bool p2.cas], [AV.int .u8 0, AV.ints .u8 64 (li (List.replicate 64 0)), AV.u64 0, AV.ints .u8 12 (li [0, 0, 0, 0, 0, 0, 0, 0, 0, 0, 0, 0]), AV.int .u8 0, AV.ints .i8 4 (li [0, 0, 0, 0]), AV.int .i8 0, AV.ints .u8 2 (li [0, 0]), AV.int .i64 0, AV.int .i64 0], (AV.int .u8 p3.variant :: AV.ints .u8 64 p3.board :: AV.u64 p3.promoted :: AV.ints .u8 12 p3.pockets :: AV.int .u8 p3.turn :: AV.ints .i8 4 (List.take (scale 2 p3.turn).toNat p3.rooks ++ li [-1, -1] ++ List.drop ((scale 2 p3.turn).toNat + 2) p3.rooks) :: AV.int .i8 p3.passing :: AV.ints .u8 2 p3.checks :: AV.int .i64 p3.half :: AV.int .i64 p3.full :: (pc p4 [AV.int .i8 p5.frm, AV.int .i8 p5.to, AV.int .u8 p5.pro, AV.int .u8 p5.drp, AV.bool p5.cas, AV.int .i64 p6]))] [] [] 0 0 0)) (O17_7 p1 p2 p4 p5 p6 ((lp17_7 p1 p2 p4 p5 p6 (0, Pos.mk p3.variant p3.board p3.promoted p3.pockets p3.turn (List.take (scale 2 p3.turn).toNat p3.rooks ++ li [-1, -1] ++ List.drop ((scale 2 p3.turn).toNat + 2) p3.rooks) p3.passing p3.checks p3.half p3.full)).getD default))) (Tr.ret (FRes.ret (AV.tuple []) (Hp.mk [(pc p1 []), [AV.int .i8 p2.frm, AV.int .i8 p2.to, AV.int .u8 p2.pro, AV.int .u8 p2.drp, AV.bool p2.cas], [AV.int .u8 0, AV.ints .u8 64 (li (List.replicate 64 0)), AV.u64 0, AV.ints .u8 12 (li [0, 0, 0, 0, 0, 0, 0, 0, 0, 0, 0, 0]), AV.int .u8 0, AV.ints .i8 4 (li [0, 0, 0, 0]), AV.int .i8 0, AV.ints .u8 2 (li [0, 0]), AV.int .i64 0, AV.int .i64 0], (pc ((lp17_7 p1 p2 p4 p5 p6 (0, Pos.mk p3.variant p3.board p3.promoted p3.pockets p3.turn (List.take (scale 2 p3.turn).toNat p3.rooks ++ li [-1, -1] ++ List.drop ((scale 2 p3.turn).toNat + 2) p3.rooks) p3.passing p3.checks p3.half p3.full)).getD default).snd.snd (pc p4 [AV.int .i8 p5.frm, AV.int .i8 p5.to, AV.int .u8 p5.pro, AV.int .u8 p5.drp, AV.bool p5.cas, AV.int .i64 p6]))] [] [] 0 0 0))) Tr.fail) Tr.fail) z1); let z3 := (p4.board.getD (scale 1 p5.frm).toNat 0); Tr.br (p5.drp != 0) (Tr.br (p5.drp == 6) z2 z1) (Tr.br (decide (0 ≤ p5.frm) && decide (p5.frm < Int.ofNat 64)) (Tr.br (isPS Pz 89 [AV.int .u8 z3] ((dI .u8).res (N89 z3))) (Tr.br (N89 z3 == 6) z2 z1) Tr.fail) Tr.fail)) := by kernel_rfl
theorem PF17_8 (p1 : Pos) (p2 : Mv) (p3 : Pos) (p4 : Pos) (p5 : Mv) (p6 : Int) (h : okF17_8 p1 p2 p3 p4 p5 p6 = true) : FSpec Pz 43 (A17_8 p1 p2 p3 p4 p5 p6) (H17_8 p1 p2 p3 p4 p5 p6) (O17_8 p1 p2 p3 p4 p5 p6 (vF17_8 p1 p2 p3 p4 p5 p6)) ∧ ∃ fn, Pz.funcs[43]? = some fn ∧ fn.body.isSome = true := fs_gotd (O := O17_8 p1 p2 p3 p4 p5 p6) hB17_8 (EF17_8 p1 p2 p3 p4 p5 p6) (gr_br (gr_br (gr_br (gr_guard (gr_loop (fun h => L17_7 (p1) (p2) (p4) (p5) (p6) ((0, Pos.mk p3.variant p3.board p3.promoted p3.pockets p3.turn (List.take (scale 2 p3.turn).toNat p3.rooks ++ li [-1, -1] ++ List.drop ((scale 2 p3.turn).toNat + 2) p3.rooks) p3.passing p3.checks p3.half p3.full)) _ (some_getD h)) (wk_nrm (ks := (1 :: (rn 3 118 []))) (gs := [2]) (b := true) rfl (by kernel_rfl)) (gr_ret (rf_ret rfl (wk_nrm (ks := []) (gs := []) (b := true) rfl (by kernel_rfl)))))) (gr_loop (fun h => L17_7 (p1) (p2) (p4) (p5) (p6) ((0, p3)) _ (some_getD h)) (wk_nrm (ks := (1 :: (rn 3 118 []))) (gs := [2]) (b := true) rfl (by kernel_rfl)) (gr_ret (rf_ret rfl (wk_nrm (ks := []) (gs := []) (b := true) rfl (by kernel_rfl)))))) (gr_loop (fun h => L17_7 (p1) (p2) (p4) (p5) (p6) ((0, p3)) _ (some_getD h)) (wk_nrm (ks := (1 :: (rn 3 118 []))) (gs := [2]) (b := true) rfl (by kernel_rfl)) (gr_ret (rf_ret rfl (wk_nrm (ks := []) (gs := []) (b := true) rfl (by kernel_rfl)))))) (gr_guard (gr_callT (P89 (p4.board.getD (scale 1 p5.frm).toNat 0) rfl) (gr_br (gr_br (gr_guard (gr_loop (fun h => L17_7 (p1) (p2) (p4) (p5) (p6) ((0, Pos.mk p3.variant p3.board p3.promoted p3.pockets p3.turn (List.take (scale 2 p3.turn).toNat p3.rooks ++ li [-1, -1] ++ List.drop ((scale 2 p3.turn).toNat + 2) p3.rooks) p3.passing p3.checks p3.half p3.full)) _ (some_getD h)) (wk_nrm (ks := (1 :: (rn 3 118 []))) (gs := [2]) (b := true) rfl (by kernel_rfl)) (gr_ret (rf_ret rfl (wk_nrm (ks := []) (gs := []) (b := true) rfl (by kernel_rfl)))))) (gr_loop (fun h => L17_7 (p1) (p2) (p4) (p5) (p6) ((0, p3)) _ (some_getD h)) (wk_nrm (ks := (1 :: (rn 3 118 []))) (gs := [2]) (b := true) rfl (by kernel_rfl)) (gr_ret (rf_ret rfl (wk_nrm (ks := []) (gs := []) (b := true) rfl (by kernel_rfl)))))) (gr_loop (fun h => L17_7 (p1) (p2) (p4) (p5) (p6) ((0, p3)) _ (some_getD h)) (wk_nrm (ks := (1 :: (rn 3 118 []))) (gs := [2]) (b := true) rfl (by kernel_rfl)) (gr_ret (rf_ret rfl (wk_nrm (ks := []) (gs := []) (b := true) rfl (by kernel_rfl))))))))) h
noncomputable def FF17_8 : List AV → Hp → Tr FRes := sureF Pz 43 (fun xs h => O17_8 (Kz.Pos.mk (tI (tH ⟨xs, h⟩ 0 0)) (tN (tH ⟨xs, h⟩ 0 1)) (tU (tH ⟨xs, h⟩ 0 2)) (tN (tH ⟨xs, h⟩ 0 3)) (tI (tH ⟨xs, h⟩ 0 4)) (tN (tH ⟨xs, h⟩ 0 5)) (tI (tH ⟨xs, h⟩ 0 6)) (tN (tH ⟨xs, h⟩ 0 7)) (tI (tH ⟨xs, h⟩ 0 8)) (tI (tH ⟨xs, h⟩ 0 9))) (Kz.Mv.mk (tI (tH ⟨xs, h⟩ 1 0)) (tI (tH ⟨xs, h⟩ 1 1)) (tI (tH ⟨xs, h⟩ 1 2)) (tI (tH ⟨xs, h⟩ 1 3)) (tB (tH ⟨xs, h⟩ 1 4))) (Kz.Pos.mk (tI (tH ⟨xs, h⟩ 3 0)) (tN (tH ⟨xs, h⟩ 3 1)) (tU (tH ⟨xs, h⟩ 3 2)) (tN (tH ⟨xs, h⟩ 3 3)) (tI (tH ⟨xs, h⟩ 3 4)) (tN (tH ⟨xs, h⟩ 3 5)) (tI (tH ⟨xs, h⟩ 3 6)) (tN (tH ⟨xs, h⟩ 3 7)) (tI (tH ⟨xs, h⟩ 3 8)) (tI (tH ⟨xs, h⟩ 3 9))) (Kz.Pos.mk (tI (tH ⟨xs, h⟩ 3 10)) (tN (tH ⟨xs, h⟩ 3 11)) (tU (tH ⟨xs, h⟩ 3 12)) (tN (tH ⟨xs, h⟩ 3 13)) (tI (tH ⟨xs, h⟩ 3 14)) (tN (tH ⟨xs, h⟩ 3 15)) (tI (tH ⟨xs, h⟩ 3 16)) (tN (tH ⟨xs, h⟩ 3 17)) (tI (tH ⟨xs, h⟩ 3 18)) (tI (tH ⟨xs, h⟩ 3 19))) (Kz.Mv.mk (tI (tH ⟨xs, h⟩ 3 20)) (tI (tH ⟨xs, h⟩ 3 21)) (tI (tH ⟨xs, h⟩ 3 22)) (tI (tH ⟨xs, h⟩ 3 23)) (tB (tH ⟨xs, h⟩ 3 24))) (tI (tH ⟨xs, h⟩ 3 25)) (vF17_8 (Kz.Pos.mk (tI (tH ⟨xs, h⟩ 0 0)) (tN (tH ⟨xs, h⟩ 0 1)) (tU (tH ⟨xs, h⟩ 0 2)) (tN (tH ⟨xs, h⟩ 0 3)) (tI (tH ⟨xs, h⟩ 0 4)) (tN (tH ⟨xs, h⟩ 0 5)) (tI (tH ⟨xs, h⟩ 0 6)) (tN (tH ⟨xs, h⟩ 0 7)) (tI (tH ⟨xs, h⟩ 0 8)) (tI (tH ⟨xs, h⟩ 0 9))) (Kz.Mv.mk (tI (tH ⟨xs, h⟩ 1 0)) (tI (tH ⟨xs, h⟩ 1 1)) (tI (tH ⟨xs, h⟩ 1 2)) (tI (tH ⟨xs, h⟩ 1 3)) (tB (tH ⟨xs, h⟩ 1 4))) (Kz.Pos.mk (tI (tH ⟨xs, h⟩ 3 0)) (tN (tH ⟨xs, h⟩ 3 1)) (tU (tH ⟨xs, h⟩ 3 2)) (tN (tH ⟨xs, h⟩ 3 3)) (tI (tH ⟨xs, h⟩ 3 4)) (tN (tH ⟨xs, h⟩ 3 5)) (tI (tH ⟨xs, h⟩ 3 6)) (tN (tH ⟨xs, h⟩ 3 7)) (tI (tH ⟨xs, h⟩ 3 8)) (tI (tH ⟨xs, h⟩ 3 9))) (Kz.Pos.mk (tI (tH ⟨xs, h⟩ 3 10)) (tN (tH ⟨xs, h⟩ 3 11)) (tU (tH ⟨xs, h⟩ 3 12)) (tN (tH ⟨xs, h⟩ 3 13)) (tI (tH ⟨xs, h⟩ 3 14)) (tN (tH ⟨xs, h⟩ 3 15)) (tI (tH ⟨xs, h⟩ 3 16)) (tN (tH ⟨xs, h⟩ 3 17)) (tI (tH ⟨xs, h⟩ 3 18)) (tI (tH ⟨xs, h⟩ 3 19))) (Kz.Mv.mk (tI (tH ⟨xs, h⟩ 3 20)) (tI (tH ⟨xs, h⟩ 3 21)) (tI (tH ⟨xs, h⟩ 3 22)) (tI (tH ⟨xs, h⟩ 3 23)) (tB (tH ⟨xs, h⟩ 3 24))) (tI (tH ⟨xs, h⟩ 3 25))))
theorem sFF17_8 : FSound Pz 43 FF17_8 := sureF_sound
noncomputable def B17_9 : Base := baseOf Pz (fun f i => lkK f i K17) [(103, G103), (38, G38), (37, G37), (39, G39), (101, G101), (89, G89), (91, G91), (92, G92), (93, G93), (95, G95), (96, G96), (97, G97), (99, G99), (100, G100), (102, G102)] [(42, 2, F17_3), (43, 7, F17_6), (43, 3, F17_7)] [(40, FF17_1), (41, FF17_2), (42, FF17_4), (43, FF17_8)]
theorem hB17_9 : BOk B17_9 := base_ok named_z ⟨s103, s38, s37, s39, s101, s89, s91, s92, s93, s95, s96, s97, s99, s100, s102, trivial⟩ ⟨sF17_3, sF17_6, sF17_7, trivial⟩ ⟨sFF17_1, sFF17_2, sFF17_4, sFF17_8, trivial⟩
noncomputable def A17_9 (p1 : Pos) (p2 : Mv) (p3 : Pos) (p4 : Pos) (p5 : Mv) (p6 : Int) : List AV := [AV.ptr 3 0]
noncomputable def H17_9 (p1 : Pos) (p2 : Mv) (p3 : Pos) (p4 : Pos) (p5 : Mv) (p6 : Int) : Hp := Hp.mk [(pc p1 []), [AV.int .i8 p2.frm, AV.int .i8 p2.to, AV.int .u8 p2.pro, AV.int .u8 p2.drp, AV.bool p2.cas], [AV.int .u8 0, AV.ints .u8 64 (li (List.replicate 64 0)), AV.u64 0, AV.ints .u8 12 (li [0, 0, 0, 0, 0, 0, 0, 0, 0, 0, 0, 0]), AV.int .u8 0, AV.ints .i8 4 (li [0, 0, 0, 0]), AV.int .i8 0, AV.ints .u8 2 (li [0, 0]), AV.int .i64 0, AV.int .i64 0], (pc p3 (pc p4 [AV.int .i8 p5.frm, AV.int .i8 p5.to, AV.int .u8 p5.pro, AV.int .u8 p5.drp, AV.bool p5.cas, AV.int .i64 p6]))] [] [] 0 0 0
noncomputable def O17_9 (p1 : Pos) (p2 : Mv) (p3 : Pos) (p4 : Pos) (p5 : Mv) (p6 : Int) (y : (Pos)) : FRes := .ret (AV.tuple []) (Hp.mk [(pc p1 []), [AV.int .i8 p2.frm, AV.int .i8 p2.to, AV.int .u8 p2.pro, AV.int .u8 p2.drp, AV.bool p2.cas], [AV.int .u8 0, AV.ints .u8 64 (li (List.replicate 64 0)), AV.u64 0, AV.ints .u8 12 (li [0, 0, 0, 0, 0, 0, 0, 0, 0, 0, 0, 0]), AV.int .u8 0, AV.ints .i8 4 (li [0, 0, 0, 0]), AV.int .i8 0, AV.ints .u8 2 (li [0, 0]), AV.int .i64 0, AV.int .i64 0], (pc y (pc p4 [AV.int .i8 p5.frm, AV.int .i8 p5.to, AV.int .u8 p5.pro, AV.int .u8 p5.drp, AV.bool p5.cas, AV.int .i64 p6]))] [] [] 0 0 0)
noncomputable def vF17_9 (p1 : Pos) (p2 : Mv) (p3 : Pos) (p4 : Pos) (p5 : Mv) (p6 : Int) : (Pos) := (bif p5.drp != 0 then (bif p5.drp != 1 then (Pos.mk p3.variant p3.board p3.promoted p3.pockets p3.turn p3.rooks (-1) p3.checks p3.half p3.full) else (bif p5.drp != 0 then (Pos.mk p3.variant p3.board p3.promoted p3.pockets p3.turn p3.rooks (-1) p3.checks p3.half p3.full) else (bif wr .i8 (p5.to - p5.frm) != 16 then (bif wr .i8 (p5.frm - p5.to) != 16 then (Pos.mk p3.variant p3.board p3.promoted p3.pockets p3.turn p3.rooks (-1) p3.checks p3.half p3.full) else (bif wr .i8 (p5.frm.tdiv 8) != wr .i8 (wr .i8 (7 * wr .i8 p3.turn) + 1) then (bif wr .i8 (p5.frm.tdiv 8) != wr .i8 (wr .i8 (7 * wr .i8 p3.turn) - 1) then (Pos.mk p3.variant p3.board p3.promoted p3.pockets p3.turn p3.rooks (-1) p3.checks p3.half p3.full) else (bif N100 p3.turn (wr .i64 (wr .i8 ((wr .i8 (p5.frm + p5.to)).tdiv 2))) &&& N101 (Pos.mk p3.variant p3.board p3.promoted p3.pockets p3.turn p3.rooks (-1) p3.checks p3.half p3.full) (wr .u8 (1 - p3.turn)) 1 != 0#64 then (Pos.mk p3.variant p3.board p3.promoted p3.pockets p3.turn p3.rooks (wr .i8 ((wr .i8 (p5.frm + p5.to)).tdiv 2)) p3.checks p3.half p3.full) else (Pos.mk p3.variant p3.board p3.promoted p3.pockets p3.turn p3.rooks (-1) p3.checks p3.half p3.full))) else (bif N100 p3.turn (wr .i64 (wr .i8 ((wr .i8 (p5.frm + p5.to)).tdiv 2))) &&& N101 (Pos.mk p3.variant p3.board p3.promoted p3.pockets p3.turn p3.rooks (-1) p3.checks p3.half p3.full) (wr .u8 (1 - p3.turn)) 1 != 0#64 then (Pos.mk p3.variant p3.board p3.promoted p3.pockets p3.turn p3.rooks (wr .i8 ((wr .i8 (p5.frm + p5.to)).tdiv 2)) p3.checks p3.half p3.full) else (Pos.mk p3.variant p3.board p3.promoted p3.pockets p3.turn p3.rooks (-1) p3.checks p3.half p3.full)))) else (bif wr .i8 (p5.frm.tdiv 8) != wr .i8 (wr .i8 (7 * wr .i8 p3.turn) + 1) then (bif wr .i8 (p5.frm.tdiv 8) != wr .i8 (wr .i8 (7 * wr .i8 p3.turn) - 1) then (Pos.mk p3.variant p3.board p3.promoted p3.pockets p3.turn p3.rooks (-1) p3.checks p3.half p3.full) else (bif N100 p3.turn (wr .i64 (wr .i8 ((wr .i8 (p5.frm + p5.to)).tdiv 2))) &&& N101 (Pos.mk p3.variant p3.board p3.promoted p3.pockets p3.turn p3.rooks (-1) p3.checks p3.half p3.full) (wr .u8 (1 - p3.turn)) 1 != 0#64 then (Pos.mk p3.variant p3.board p3.promoted p3.pockets p3.turn p3.rooks (wr .i8 ((wr .i8 (p5.frm + p5.to)).tdiv 2)) p3.checks p3.half p3.full) else (Pos.mk p3.variant p3.board p3.promoted p3.pockets p3.turn p3.rooks (-1) p3.checks p3.half p3.full))) else (bif N100 p3.turn (wr .i64 (wr .i8 ((wr .i8 (p5.frm + p5.to)).tdiv 2))) &&& N101 (Pos.mk p3.variant p3.board p3.promoted p3.pockets p3.turn p3.rooks (-1) p3.checks p3.half p3.full) (wr .u8 (1 - p3.turn)) 1 != 0#64 then (Pos.mk p3.variant p3.board p3.promoted p3.pockets p3.turn p3.rooks (wr .i8 ((wr .i8 (p5.frm + p5.to)).tdiv 2)) p3.checks p3.half p3.full) else (Pos.mk p3.variant p3.board p3.promoted p3.pockets p3.turn p3.rooks (-1) p3.checks p3.half p3.full)))))) else (bif N89 (p4.board.getD (scale 1 p5.frm).toNat 0) != 1 then (Pos.mk p3.variant p3.board p3.promoted p3.pockets p3.turn p3.rooks (-1) p3.checks p3.half p3.full) else (bif p5.drp != 0 then (Pos.mk p3.variant p3.board p3.promoted p3.pockets p3.turn p3.rooks (-1) p3.checks p3.half p3.full) else (bif wr .i8 (p5.to - p5.frm) != 16 then (bif wr .i8 (p5.frm - p5.to) != 16 then (Pos.mk p3.variant p3.board p3.promoted p3.pockets p3.turn p3.rooks (-1) p3.checks p3.half p3.full) else (bif wr .i8 (p5.frm.tdiv 8) != wr .i8 (wr .i8 (7 * wr .i8 p3.turn) + 1) then (bif wr .i8 (p5.frm.tdiv 8) != wr .i8 (wr .i8 (7 * wr .i8 p3.turn) - 1) then (Pos.mk p3.variant p3.board p3.promoted p3.pockets p3.turn p3.rooks (-1) p3.checks p3.half p3.full) else (bif N100 p3.turn (wr .i64 (wr .i8 ((wr .i8 (p5.frm + p5.to)).tdiv 2))) &&& N101 (Pos.mk p3.variant p3.board p3.promoted p3.pockets p3.turn p3.rooks (-1) p3.checks p3.half p3.full) (wr .u8 (1 - p3.turn)) 1 != 0#64 then (Pos.mk p3.variant p3.board p3.promoted p3.pockets p3.turn p3.rooks (wr .i8 ((wr .i8 (p5.frm + p5.to)).tdiv 2)) p3.checks p3.half p3.full) else (Pos.mk p3.variant p3.board p3.promoted p3.pockets p3.turn p3.rooks (-1) p3.checks p3.half p3.full))) else (bif N100 p3.turn (wr .i64 (wr .i8 ((wr .i8 (p5.frm + p5.to)).tdiv 2))) &&& N101 (Pos.mk p3.variant p3.board p3.promoted p3.pockets p3.turn p3.rooks (-1) p3.checks p3.half p3.full) (wr .u8 (1 - p3.turn)) 1 != 0#64 then (Pos.mk p3.variant p3.board p3.promoted p3.pockets p3.turn p3.rooks (wr .i8 ((wr .i8 (p5.frm + p5.to)).tdiv 2)) p3.checks p3.half p3.full) else (Pos.mk p3.variant p3.board p3.promoted p3.pockets p3.turn p3.rooks (-1) p3.checks p3.half p3.full)))) else (bif wr .i8 (p5.frm.tdiv 8) != wr .i8 (wr .i8 (7 * wr .i8 p3.turn) + 1) then (bif wr .i8 (p5.frm.tdiv 8) != wr .i8 (wr .i8 (7 * wr .i8 p3.turn) - 1) then (Pos.mk p3.variant p3.board p3.promoted p3.pockets p3.turn p3.rooks (-1) p3.checks p3.half p3.full) else (bif N100 p3.turn (wr .i64 (wr .i8 ((wr .i8 (p5.frm + p5.to)).tdiv 2))) &&& N101 (Pos.mk p3.variant p3.board p3.promoted p3.pockets p3.turn p3.rooks (-1) p3.checks p3.half p3.full) (wr .u8 (1 - p3.turn)) 1 != 0#64 then (Pos.mk p3.variant p3.board p3.promoted p3.pockets p3.turn p3.rooks (wr .i8 ((wr .i8 (p5.frm + p5.to)).tdiv 2)) p3.checks p3.half p3.full) else (Pos.mk p3.variant p3.board p3.promoted p3.pockets p3.turn p3.rooks (-1) p3.checks p3.half p3.full))) else (bif N100 p3.turn (wr .i64 (wr .i8 ((wr .i8 (p5.frm + p5.to)).tdiv 2))) &&& N101 (Pos.mk p3.variant p3.board p3.promoted p3.pockets p3.turn p3.rooks (-1) p3.checks p3.half p3.full) (wr .u8 (1 - p3.turn)) 1 != 0#64 then (Pos.mk p3.variant p3.board p3.promoted p3.pockets p3.turn p3.rooks (wr .i8 ((wr .i8 (p5.frm + p5.to)).tdiv 2)) p3.checks p3.half p3.full) else (Pos.mk p3.variant p3.board p3.promoted p3.pockets p3.turn p3.rooks (-1) p3.checks p3.half p3.full)))))))
noncomputable def okF17_9 (p1 : Pos) (p2 : Mv) (p3 : Pos) (p4 : Pos) (p5 : Mv) (p6 : Int) : Bool := (bif p5.drp != 0 then (bif p5.drp != 1 then true else (bif p5.drp != 0 then true else (bif wr .i8 (p5.to - p5.frm) != 16 then (bif wr .i8 (p5.frm - p5.to) != 16 then true else (bif wr .i8 (p5.frm.tdiv 8) != wr .i8 (wr .i8 (7 * wr .i8 p3.turn) + 1) then (bif wr .i8 (p5.frm.tdiv 8) != wr .i8 (wr .i8 (7 * wr .i8 p3.turn) - 1) then true else (ok100 (p3.turn) (wr .i64 (wr .i8 ((wr .i8 (p5.frm + p5.to)).tdiv 2))) && (ok101 (Pos.mk p3.variant p3.board p3.promoted p3.pockets p3.turn p3.rooks (-1) p3.checks p3.half p3.full) (wr .u8 (1 - p3.turn)) (1) && true))) else (ok100 (p3.turn) (wr .i64 (wr .i8 ((wr .i8 (p5.frm + p5.to)).tdiv 2))) && (ok101 (Pos.mk p3.variant p3.board p3.promoted p3.pockets p3.turn p3.rooks (-1) p3.checks p3.half p3.full) (wr .u8 (1 - p3.turn)) (1) && true)))) else (bif wr .i8 (p5.frm.tdiv 8) != wr .i8 (wr .i8 (7 * wr .i8 p3.turn) + 1) then (bif wr .i8 (p5.frm.tdiv 8) != wr .i8 (wr .i8 (7 * wr .i8 p3.turn) - 1) then true else (ok100 (p3.turn) (wr .i64 (wr .i8 ((wr .i8 (p5.frm + p5.to)).tdiv 2))) && (ok101 (Pos.mk p3.variant p3.board p3.promoted p3.pockets p3.turn p3.rooks (-1) p3.checks p3.half p3.full) (wr .u8 (1 - p3.turn)) (1) && true))) else (ok100 (p3.turn) (wr .i64 (wr .i8 ((wr .i8 (p5.frm + p5.to)).tdiv 2))) && (ok101 (Pos.mk p3.variant p3.board p3.promoted p3.pockets p3.turn p3.rooks (-1) p3.checks p3.half p3.full) (wr .u8 (1 - p3.turn)) (1) && true)))))) else (decide (0 ≤ p5.frm) && decide (p5.frm < Int.ofNat 64) && (bif N89 (p4.board.getD (scale 1 p5.frm).toNat 0) != 1 then true else (bif p5.drp != 0 then true else (bif wr .i8 (p5.to - p5.frm) != 16 then (bif wr .i8 (p5.frm - p5.to) != 16 then true else (bif wr .i8 (p5.frm.tdiv 8) != wr .i8 (wr .i8 (7 * wr .i8 p3.turn) + 1) then (bif wr .i8 (p5.frm.tdiv 8) != wr .i8 (wr .i8 (7 * wr .i8 p3.turn) - 1) then true else (ok100 (p3.turn) (wr .i64 (wr .i8 ((wr .i8 (p5.frm + p5.to)).tdiv 2))) && (ok101 (Pos.mk p3.variant p3.board p3.promoted p3.pockets p3.turn p3.rooks (-1) p3.checks p3.half p3.full) (wr .u8 (1 - p3.turn)) (1) && true))) else (ok100 (p3.turn) (wr .i64 (wr .i8 ((wr .i8 (p5.frm + p5.to)).tdiv 2))) && (ok101 (Pos.mk p3.variant p3.board p3.promoted p3.pockets p3.turn p3.rooks (-1) p3.checks p3.half p3.full) (wr .u8 (1 - p3.turn)) (1) && true)))) else (bif wr .i8 (p5.frm.tdiv 8) != wr .i8 (wr .i8 (7 * wr .i8 p3.turn) + 1) then (bif wr .i8 (p5.frm.tdiv 8) != wr .i8 (wr .i8 (7 * wr .i8 p3.turn) - 1) then true else (ok100 (p3.turn) (wr .i64 (wr .i8 ((wr .i8 (p5.frm + p5.to)).tdiv 2))) && (ok101 (Pos.mk p3.variant p3.board p3.promoted p3.pockets p3.turn p3.rooks (-1) p3.checks p3.half p3.full) (wr .u8 (1 - p3.turn)) (1) && true))) else (ok100 (p3.turn) (wr .i64 (wr .i8 ((wr .i8 (p5.frm + p5.to)).tdiv 2))) && (ok101 (Pos.mk p3.variant p3.board p3.promoted p3.pockets p3.turn p3.rooks (-1) p3.checks p3.half p3.full) (wr .u8 (1 - p3.turn)) (1) && true))))))))
theorem EF17_9 (p1 : Pos) (p2 : Mv) (p3 : Pos) (p4 : Pos) (p5 : Mv) (p6 : Int) : evFd B17_9 14 44 (A17_9 p1 p2 p3 p4 p5 p6) (H17_9 p1 p2 p3 p4 p5 p6) = (let z2 := (Tr.ret (FRes.ret (AV.tuple []) (Hp.mk [(pc p1 []), [AV.int .i8 p2.frm, AV.int .i8 p2.to, AV.int .u8 p2.pro, AV.int .u8 p2.drp, AV.bool p2.cas], [AV.int .u8 0, AV.ints .u8 64 (li (List.replicate 64 0)), AV.u64 0, AV.ints .u8 12 (li [0, 0, 0, 0, 0, 0, 0, 0, 0, 0, 0, 0]), AV.int .u8 0, AV.ints .i8 4 (li [0, 0, 0, 0]), AV.int .i8 0, AV.ints .u8 2 (li [0, 0]), AV.int .i64 0, AV.int .i64 0], (AV.int .u8 p3.variant :: AV.ints .u8 64 p3.board :: AV.u64 p3.promoted :: AV.ints .u8 12 p3.pockets :: AV.int .u8 p3.turn :: AV.ints .i8 4 p3.rooks :: AV.cint .i8 (-1) :: AV.ints .u8 2 p3.checks :: AV.int .i64 p3.half :: AV.int .i64 p3.full :: (pc p4 [AV.int .i8 p5.frm, AV.int .i8 p5.to, AV.int .u8 p5.pro, AV.int .u8 p5.drp, AV.bool p5.cas, AV.int .i64 p6]))] [] [] 0 0 0))); let z1 := (Tr.br (isPS Pz 100 [AV.int .u8 p3.turn, AV.int .i64 (wr .i64 (wr .i8 ((wr .i8 (p5.frm + p5.to)).tdiv 2)))] (dU.res (N100 p3.turn (wr .i64 (wr .i8 ((wr .i8 (p5.frm + p5.to)).tdiv 2)))))) (Tr.br (isPS Pz 101 [(Pos.mk p3.variant p3.board p3.promoted p3.pockets p3.turn p3.rooks (-1) p3.checks p3.half p3.full).av, AV.int .u8 (wr .u8 (1 - p3.turn)), AV.int .u8 1] (dU.res (N101 (Pos.mk p3.variant p3.board p3.promoted p3.pockets p3.turn p3.rooks (-1) p3.checks p3.half p3.full) (wr .u8 (1 - p3.turn)) 1))) (Tr.br (N100 p3.turn (wr .i64 (wr .i8 ((wr .i8 (p5.frm + p5.to)).tdiv 2))) &&& N101 (Pos.mk p3.variant p3.board p3.promoted p3.pockets p3.turn p3.rooks (-1) p3.checks p3.half p3.full) (wr .u8 (1 - p3.turn)) 1 != 0#64) (Tr.ret (FRes.ret (AV.tuple []) (Hp.mk [(pc p1 []), [AV.int .i8 p2.frm, AV.int .i8 p2.to, AV.int .u8 p2.pro, AV.int .u8 p2.drp, AV.bool p2.cas], [AV.int .u8 0, AV.ints .u8 64 (li (List.replicate 64 0)), AV.u64 0, AV.ints .u8 12 (li [0, 0, 0, 0, 0, 0, 0, 0, 0, 0, 0, 0]), AV.int .u8 0, AV.ints .i8 4 (li [0, 0, 0, 0]), AV.int .i8 0, AV.ints .u8 2 (li [0, 0]), AV.int .i64 0, AV.int .i64 0], (AV.int .u8 p3.variant :: AV.ints .u8 64 p3.board :: AV.u64 p3.promoted :: AV.ints .u8 12 p3.pockets :: AV.int .u8 p3.turn :: AV.ints .i8 4 p3.rooks :: AV.int .i8 (wr .i8 ((wr .i8 (p5.frm + p5.to)).tdiv 2)) :: AV.ints .u8 2 p3.checks :: AV.int .i64 p3.half :: AV.int .i64 p3.full :: (pc p4 [AV.int .i8 p5.frm, AV.int .i8 p5.to, AV.int .u8 p5.pro, AV.int .u8 p5.drp, AV.bool p5.cas, AV.int .i64 p6]))] [] [] 0 0 0))) z2) Tr.fail) Tr.fail); let z3 := (Tr.br (wr .i8 (p5.frm.tdiv 8) != wr .i8 (wr .i8 (7 * wr .i8 p3.turn) + 1)) (Tr.br (wr .i8 (p5.frm.tdiv 8) != wr .i8 (wr .i8 (7 * wr .i8 p3.turn) - 1)) z2 z1) z1); let z4 := (Tr.br (p5.drp != 0) z2 (Tr.br (wr .i8 (p5.to - p5.frm) != 16) (Tr.br (wr .i8 (p5.frm - p5.to) != 16) z2 z3) z3)); let z5 := (p4.board.getD (scale 1 p5.frm).toNat 0); Tr.br (p5.drp != 0) (Tr.br (p5.drp != 1) z2 z4) (Tr.br (decide (0 ≤ p5.frm) && decide (p5.frm < Int.ofNat 64)) (Tr.br (isPS Pz 89 [AV.int .u8 z5] ((dI .u8).res (N89 z5))) (Tr.br (N89 z5 != 1) z2 z4) Tr.fail) Tr.fail)) := by kernel_rfl
theorem PF17_9 (p1 : Pos) (p2 : Mv) (p3 : Pos) (p4 : Pos) (p5 : Mv) (p6 : Int) (h : okF17_9 p1 p2 p3 p4 p5 p6 = true) : FSpec Pz 44 (A17_9 p1 p2 p3 p4 p5 p6) (H17_9 p1 p2 p3 p4 p5 p6) (O17_9 p1 p2 p3 p4 p5 p6 (vF17_9 p1 p2 p3 p4 p5 p6)) ∧ ∃ fn, Pz.funcs[44]? = some fn ∧ fn.body.isSome = true := fs_gotd (O := O17_9 p1 p2 p3 p4 p5 p6) hB17_9 (EF17_9 p1 p2 p3 p4 p5 p6) (gr_br (gr_br (gr_ret (rf_ret rfl (wk_nrm (ks := []) (gs := []) (b := true) rfl (by kernel_rfl)))) (gr_br (gr_ret (rf_ret rfl (wk_nrm (ks := []) (gs := []) (b := true) rfl (by kernel_rfl)))) (gr_br (gr_br (gr_ret (rf_ret rfl (wk_nrm (ks := []) (gs := []) (b := true) rfl (by kernel_rfl)))) (gr_br (gr_br (gr_ret (rf_ret rfl (wk_nrm (ks := []) (gs := []) (b := true) rfl (by kernel_rfl)))) (gr_call (P100 (p3.turn) (wr .i64 (wr .i8 ((wr .i8 (p5.frm + p5.to)).tdiv 2)))) (gr_call (P101 (Pos.mk p3.variant p3.board p3.promoted p3.pockets p3.turn p3.rooks (-1) p3.checks p3.half p3.full) (wr .u8 (1 - p3.turn)) (1)) (gr_br2 (gr_ret (rf_ret rfl (wk_nrm (ks := []) (gs := []) (b := true) rfl (by kernel_rfl)))) (gr_ret (rf_ret rfl (wk_nrm (ks := []) (gs := []) (b := true) rfl (by kernel_rfl)))))))) (gr_call (P100 (p3.turn) (wr .i64 (wr .i8 ((wr .i8 (p5.frm + p5.to)).tdiv 2)))) (gr_call (P101 (Pos.mk p3.variant p3.board p3.promoted p3.pockets p3.turn p3.rooks (-1) p3.checks p3.half p3.full) (wr .u8 (1 - p3.turn)) (1)) (gr_br2 (gr_ret (rf_ret rfl (wk_nrm (ks := []) (gs := []) (b := true) rfl (by kernel_rfl)))) (gr_ret (rf_ret rfl (wk_nrm (ks := []) (gs := []) (b := true) rfl (by kernel_rfl))))))))) (gr_br (gr_br (gr_ret (rf_ret rfl (wk_nrm (ks := []) (gs := []) (b := true) rfl (by kernel_rfl)))) (gr_call (P100 (p3.turn) (wr .i64 (wr .i8 ((wr .i8 (p5.frm + p5.to)).tdiv 2)))) (gr_call (P101 (Pos.mk p3.variant p3.board p3.promoted p3.pockets p3.turn p3.rooks (-1) p3.checks p3.half p3.full) (wr .u8 (1 - p3.turn)) (1)) (gr_br2 (gr_ret (rf_ret rfl (wk_nrm (ks := []) (gs := []) (b := true) rfl (by kernel_rfl)))) (gr_ret (rf_ret rfl (wk_nrm (ks := []) (gs := []) (b := true) rfl (by kernel_rfl)))))))) (gr_call (P100 (p3.turn) (wr .i64 (wr .i8 ((wr .i8 (p5.frm + p5.to)).tdiv 2)))) (gr_call (P101 (Pos.mk p3.variant p3.board p3.promoted p3.pockets p3.turn p3.rooks (-1) p3.checks p3.half p3.full) (wr .u8 (1 - p3.turn)) (1)) (gr_br2 (gr_ret (rf_ret rfl (wk_nrm (ks := []) (gs := []) (b := true) rfl (by kernel_rfl)))) (gr_ret (rf_ret rfl (wk_nrm (ks := []) (gs := []) (b := true) rfl (by kernel_rfl))))))))))) (gr_guard (gr_callT (P89 (p4.board.getD (scale 1 p5.frm).toNat 0) rfl) (gr_br (gr_ret (rf_ret rfl (wk_nrm (ks := []) (gs := []) (b := true) rfl (by kernel_rfl)))) (gr_br (gr_ret (rf_ret rfl (wk_nrm (ks := []) (gs := []) (b := true) rfl (by kernel_rfl)))) (gr_br (gr_br (gr_ret (rf_ret rfl (wk_nrm (ks := []) (gs := []) (b := true) rfl (by kernel_rfl)))) (gr_br (gr_br (gr_ret (rf_ret rfl (wk_nrm (ks := []) (gs := []) (b := true) rfl (by kernel_rfl)))) (gr_call (P100 (p3.turn) (wr .i64 (wr .i8 ((wr .i8 (p5.frm + p5.to)).tdiv 2)))) (gr_call (P101 (Pos.mk p3.variant p3.board p3.promoted p3.pockets p3.turn p3.rooks (-1) p3.checks p3.half p3.full) (wr .u8 (1 - p3.turn)) (1)) (gr_br2 (gr_ret (rf_ret rfl (wk_nrm (ks := []) (gs := []) (b := true) rfl (by kernel_rfl)))) (gr_ret (rf_ret rfl (wk_nrm (ks := []) (gs := []) (b := true) rfl (by kernel_rfl)))))))) (gr_call (P100 (p3.turn) (wr .i64 (wr .i8 ((wr .i8 (p5.frm + p5.to)).tdiv 2)))) (gr_call (P101 (Pos.mk p3.variant p3.board p3.promoted p3.pockets p3.turn p3.rooks (-1) p3.checks p3.half p3.full) (wr .u8 (1 - p3.turn)) (1)) (gr_br2 (gr_ret (rf_ret rfl (wk_nrm (ks := []) (gs := []) (b := true) rfl (by kernel_rfl)))) (gr_ret (rf_ret rfl (wk_nrm (ks := []) (gs := []) (b := true) rfl (by kernel_rfl))))))))) (gr_br (gr_br (gr_ret (rf_ret rfl (wk_nrm (ks := []) (gs := []) (b := true) rfl (by kernel_rfl)))) (gr_call (P100 (p3.turn) (wr .i64 (wr .i8 ((wr .i8 (p5.frm + p5.to)).tdiv 2)))) (gr_call (P101 (Pos.mk p3.variant p3.board p3.promoted p3.pockets p3.turn p3.rooks (-1) p3.checks p3.half p3.full) (wr .u8 (1 - p3.turn)) (1)) (gr_br2 (gr_ret (rf_ret rfl (wk_nrm (ks := []) (gs := []) (b := true) rfl (by kernel_rfl)))) (gr_ret (rf_ret rfl (wk_nrm (ks := []) (gs := []) (b := true) rfl (by kernel_rfl)))))))) (gr_call (P100 (p3.turn) (wr .i64 (wr .i8 ((wr .i8 (p5.frm + p5.to)).tdiv 2)))) (gr_call (P101 (Pos.mk p3.variant p3.board p3.promoted p3.pockets p3.turn p3.rooks (-1) p3.checks p3.half p3.full) (wr .u8 (1 - p3.turn)) (1)) (gr_br2 (gr_ret (rf_ret rfl (wk_nrm (ks := []) (gs := []) (b := true) rfl (by kernel_rfl)))) (gr_ret (rf_ret rfl (wk_nrm (ks := []) (gs := []) (b := true) rfl (by kernel_rfl)))))))))))))) h
noncomputable def FF17_9 : List AV → Hp → Tr FRes := sureF Pz 44 (fun xs h => O17_9 (Kz.Pos.mk (tI (tH ⟨xs, h⟩ 0 0)) (tN (tH ⟨xs, h⟩ 0 1)) (tU (tH ⟨xs, h⟩ 0 2)) (tN (tH ⟨xs, h⟩ 0 3)) (tI (tH ⟨xs, h⟩ 0 4)) (tN (tH ⟨xs, h⟩ 0 5)) (tI (tH ⟨xs, h⟩ 0 6)) (tN (tH ⟨xs, h⟩ 0 7)) (tI (tH ⟨xs, h⟩ 0 8)) (tI (tH ⟨xs, h⟩ 0 9))) (Kz.Mv.mk (tI (tH ⟨xs, h⟩ 1 0)) (tI (tH ⟨xs, h⟩ 1 1)) (tI (tH ⟨xs, h⟩ 1 2)) (tI (tH ⟨xs, h⟩ 1 3)) (tB (tH ⟨xs, h⟩ 1 4))) (Kz.Pos.mk (tI (tH ⟨xs, h⟩ 3 0)) (tN (tH ⟨xs, h⟩ 3 1)) (tU (tH ⟨xs, h⟩ 3 2)) (tN (tH ⟨xs, h⟩ 3 3)) (tI (tH ⟨xs, h⟩ 3 4)) (tN (tH ⟨xs, h⟩ 3 5)) (tI (tH ⟨xs, h⟩ 3 6)) (tN (tH ⟨xs, h⟩ 3 7)) (tI (tH ⟨xs, h⟩ 3 8)) (tI (tH ⟨xs, h⟩ 3 9))) (Kz.Pos.mk (tI (tH ⟨xs, h⟩ 3 10)) (tN (tH ⟨xs, h⟩ 3 11)) (tU (tH ⟨xs, h⟩ 3 12)) (tN (tH ⟨xs, h⟩ 3 13)) (tI (tH ⟨xs, h⟩ 3 14)) (tN (tH ⟨xs, h⟩ 3 15)) (tI (tH ⟨xs, h⟩ 3 16)) (tN (tH ⟨xs, h⟩ 3 17)) (tI (tH ⟨xs, h⟩ 3 18)) (tI (tH ⟨xs, h⟩ 3 19))) (Kz.Mv.mk (tI (tH ⟨xs, h⟩ 3 20)) (tI (tH ⟨xs, h⟩ 3 21)) (tI (tH ⟨xs, h⟩ 3 22)) (tI (tH ⟨xs, h⟩ 3 23)) (tB (tH ⟨xs, h⟩ 3 24))) (tI (tH ⟨xs, h⟩ 3 25)) (vF17_9 (Kz.Pos.mk (tI (tH ⟨xs, h⟩ 0 0)) (tN (tH ⟨xs, h⟩ 0 1)) (tU (tH ⟨xs, h⟩ 0 2)) (tN (tH ⟨xs, h⟩ 0 3)) (tI (tH ⟨xs, h⟩ 0 4)) (tN (tH ⟨xs, h⟩ 0 5)) (tI (tH ⟨xs, h⟩ 0 6)) (tN (tH ⟨xs, h⟩ 0 7)) (tI (tH ⟨xs, h⟩ 0 8)) (tI (tH ⟨xs, h⟩ 0 9))) (Kz.Mv.mk (tI (tH ⟨xs, h⟩ 1 0)) (tI (tH ⟨xs, h⟩ 1 1)) (tI (tH ⟨xs, h⟩ 1 2)) (tI (tH ⟨xs, h⟩ 1 3)) (tB (tH ⟨xs, h⟩ 1 4))) (Kz.Pos.mk (tI (tH ⟨xs, h⟩ 3 0)) (tN (tH ⟨xs, h⟩ 3 1)) (tU (tH ⟨xs, h⟩ 3 2)) (tN (tH ⟨xs, h⟩ 3 3)) (tI (tH ⟨xs, h⟩ 3 4)) (tN (tH ⟨xs, h⟩ 3 5)) (tI (tH ⟨xs, h⟩ 3 6)) (tN (tH ⟨xs, h⟩ 3 7)) (tI (tH ⟨xs, h⟩ 3 8)) (tI (tH ⟨xs, h⟩ 3 9))) (Kz.Pos.mk (tI (tH ⟨xs, h⟩ 3 10)) (tN (tH ⟨xs, h⟩ 3 11)) (tU (tH ⟨xs, h⟩ 3 12)) (tN (tH ⟨xs, h⟩ 3 13)) (tI (tH ⟨xs, h⟩ 3 14)) (tN (tH ⟨xs, h⟩ 3 15)) (tI (tH ⟨xs, h⟩ 3 16)) (tN (tH ⟨xs, h⟩ 3 17)) (tI (tH ⟨xs, h⟩ 3 18)) (tI (tH ⟨xs, h⟩ 3 19))) (Kz.Mv.mk (tI (tH ⟨xs, h⟩ 3 20)) (tI (tH ⟨xs, h⟩ 3 21)) (tI (tH ⟨xs, h⟩ 3 22)) (tI (tH ⟨xs, h⟩ 3 23)) (tB (tH ⟨xs, h⟩ 3 24))) (tI (tH ⟨xs, h⟩ 3 25))))
theorem sFF17_9 : FSound Pz 44 FF17_9 := sureF_sound
noncomputable def B17_10 : Base := baseOf Pz (fun f i => lkK f i K17) [(103, G103), (38, G38), (37, G37), (39, G39), (101, G101), (89, G89), (91, G91), (92, G92), (93, G93), (95, G95), (96, G96), (97, G97), (99, G99), (100, G100), (102, G102)] [(42, 2, F17_3), (43, 7, F17_6), (43, 3, F17_7)] [(40, FF17_1), (41, FF17_2), (42, FF17_4), (43, FF17_8), (44, FF17_9)]
theorem hB17_10 : BOk B17_10 := base_ok named_z ⟨s103, s38, s37, s39, s101, s89, s91, s92, s93, s95, s96, s97, s99, s100, s102, trivial⟩ ⟨sF17_3, sF17_6, sF17_7, trivial⟩ ⟨sFF17_1, sFF17_2, sFF17_4, sFF17_8, sFF17_9, trivial⟩
noncomputable def A17_10 (p1 : Pos) (p2 : Mv) (p3 : Pos) (p4 : Pos) (p5 : Mv) (p6 : Int) : List AV := [AV.ptr 3 0]
noncomputable def H17_10 (p1 : Pos) (p2 : Mv) (p3 : Pos) (p4 : Pos) (p5 : Mv) (p6 : Int) : Hp := Hp.mk [(pc p1 []), [AV.int .i8 p2.frm, AV.int .i8 p2.to, AV.int .u8 p2.pro, AV.int .u8 p2.drp, AV.bool p2.cas], [AV.int .u8 0, AV.ints .u8 64 (li (List.replicate 64 0)), AV.u64 0, AV.ints .u8 12 (li [0, 0, 0, 0, 0, 0, 0, 0, 0, 0, 0, 0]), AV.int .u8 0, AV.ints .i8 4 (li [0, 0, 0, 0]), AV.int .i8 0, AV.ints .u8 2 (li [0, 0]), AV.int .i64 0, AV.int .i64 0], (pc p3 (pc p4 [AV.int .i8 p5.frm, AV.int .i8 p5.to, AV.int .u8 p5.pro, AV.int .u8 p5.drp, AV.bool p5.cas, AV.int .i64 p6]))] [] [] 0 0 0
noncomputable def O17_10 (p1 : Pos) (p2 : Mv) (p3 : Pos) (p4 : Pos) (p5 : Mv) (p6 : Int) (y : (Pos)) : FRes := .ret (AV.tuple []) (Hp.mk [(pc p1 []), [AV.int .i8 p2.frm, AV.int .i8 p2.to, AV.int .u8 p2.pro, AV.int .u8 p2.drp, AV.bool p2.cas], [AV.int .u8 0, AV.ints .u8 64 (li (List.replicate 64 0)), AV.u64 0, AV.ints .u8 12 (li [0, 0, 0, 0, 0, 0, 0, 0, 0, 0, 0, 0]), AV.int .u8 0, AV.ints .i8 4 (li [0, 0, 0, 0]), AV.int .i8 0, AV.ints .u8 2 (li [0, 0]), AV.int .i64 0, AV.int .i64 0], (pc y (pc p4 [AV.int .i8 p5.frm, AV.int .i8 p5.to, AV.int .u8 p5.pro, AV.int .u8 p5.drp, AV.bool p5.cas, AV.int .i64 p6]))] [] [] 0 0 0)
noncomputable def vF17_10 (p1 : Pos) (p2 : Mv) (p3 : Pos) (p4 : Pos) (p5 : Mv) (p6 : Int) : (Pos) := (bif p5.drp != 0 then (bif p5.drp == 1 then (bif p3.turn == 1 then (Pos.mk p3.variant p3.board p3.promoted p3.pockets p3.turn p3.rooks p3.passing p3.checks 0 (N102 p3.full)) else (Pos.mk p3.variant p3.board p3.promoted p3.pockets p3.turn p3.rooks p3.passing p3.checks 0 p3.full)) else (bif decide (p6 ≥ 0) then (bif p3.turn == 1 then (Pos.mk p3.variant p3.board p3.promoted p3.pockets p3.turn p3.rooks p3.passing p3.checks 0 (N102 p3.full)) else (Pos.mk p3.variant p3.board p3.promoted p3.pockets p3.turn p3.rooks p3.passing p3.checks 0 p3.full)) else (bif p3.turn == 1 then (Pos.mk p3.variant p3.board p3.promoted p3.pockets p3.turn p3.rooks p3.passing p3.checks (N102 p3.half) (N102 p3.full)) else (Pos.mk p3.variant p3.board p3.promoted p3.pockets p3.turn p3.rooks p3.passing p3.checks (N102 p3.half) p3.full)))) else (bif N89 (p4.board.getD (scale 1 p5.frm).toNat 0) == 1 then (bif p3.turn == 1 then (Pos.mk p3.variant p3.board p3.promoted p3.pockets p3.turn p3.rooks p3.passing p3.checks 0 (N102 p3.full)) else (Pos.mk p3.variant p3.board p3.promoted p3.pockets p3.turn p3.rooks p3.passing p3.checks 0 p3.full)) else (bif decide (p6 ≥ 0) then (bif p3.turn == 1 then (Pos.mk p3.variant p3.board p3.promoted p3.pockets p3.turn p3.rooks p3.passing p3.checks 0 (N102 p3.full)) else (Pos.mk p3.variant p3.board p3.promoted p3.pockets p3.turn p3.rooks p3.passing p3.checks 0 p3.full)) else (bif p3.turn == 1 then (Pos.mk p3.variant p3.board p3.promoted p3.pockets p3.turn p3.rooks p3.passing p3.checks (N102 p3.half) (N102 p3.full)) else (Pos.mk p3.variant p3.board p3.promoted p3.pockets p3.turn p3.rooks p3.passing p3.checks (N102 p3.half) p3.full)))))
noncomputable def okF17_10 (p1 : Pos) (p2 : Mv) (p3 : Pos) (p4 : Pos) (p5 : Mv) (p6 : Int) : Bool := (bif p5.drp != 0 then true else (decide (0 ≤ p5.frm) && decide (p5.frm < Int.ofNat 64) && true))
theorem EF17_10 (p1 : Pos) (p2 : Mv) (p3 : Pos) (p4 : Pos) (p5 : Mv) (p6 : Int) : evFd B17_10 14 45 (A17_10 p1 p2 p3 p4 p5 p6) (H17_10 p1 p2 p3 p4 p5 p6) = (let z1 := (Tr.br (p3.turn == 1) (Tr.br (isPS Pz 102 [AV.int .i64 p3.full] ((dI .i64).res (N102 p3.full))) (Tr.ret (FRes.ret (AV.tuple []) (Hp.mk [(pc p1 []), [AV.int .i8 p2.frm, AV.int .i8 p2.to, AV.int .u8 p2.pro, AV.int .u8 p2.drp, AV.bool p2.cas], [AV.int .u8 0, AV.ints .u8 64 (li (List.replicate 64 0)), AV.u64 0, AV.ints .u8 12 (li [0, 0, 0, 0, 0, 0, 0, 0, 0, 0, 0, 0]), AV.int .u8 0, AV.ints .i8 4 (li [0, 0, 0, 0]), AV.int .i8 0, AV.ints .u8 2 (li [0, 0]), AV.int .i64 0, AV.int .i64 0], (AV.int .u8 p3.variant :: AV.ints .u8 64 p3.board :: AV.u64 p3.promoted :: AV.ints .u8 12 p3.pockets :: AV.int .u8 p3.turn :: AV.ints .i8 4 p3.rooks :: AV.int .i8 p3.passing :: AV.ints .u8 2 p3.checks :: AV.cint .i64 0 :: AV.int .i64 (N102 p3.full) :: (pc p4 [AV.int .i8 p5.frm, AV.int .i8 p5.to, AV.int .u8 p5.pro, AV.int .u8 p5.drp, AV.bool p5.cas, AV.int .i64 p6]))] [] [] 0 0 0))) Tr.fail) (Tr.ret (FRes.ret (AV.tuple []) (Hp.mk [(pc p1 []), [AV.int .i8 p2.frm, AV.int .i8 p2.to, AV.int .u8 p2.pro, AV.int .u8 p2.drp, AV.bool p2.cas], [AV.int .u8 0, AV.ints .u8 64 (li (List.replicate 64 0)), AV.u64 0, AV.ints .u8 12 (li [0, 0, 0, 0, 0, 0, 0, 0, 0, 0, 0, 0]), AV.int .u8 0, AV.ints .i8 4 (li [0, 0, 0, 0]), AV.int .i8 0, AV.ints .u8 2 (li [0, 0]), AV.int .i64 0, AV.int .i64 0], (AV.int .u8 p3.variant :: AV.ints .u8 64 p3.board :: AV.u64 p3.promoted :: AV.ints .u8 12 p3.pockets :: AV.int .u8 p3.turn :: AV.ints .i8 4 p3.rooks :: AV.int .i8 p3.passing :: AV.ints .u8 2 p3.checks :: AV.cint .i64 0 :: AV.int .i64 p3.full :: (pc p4 [AV.int .i8 p5.frm, AV.int .i8 p5.to, AV.int .u8 p5.pro, AV.int .u8 p5.drp, AV.bool p5.cas, AV.int .i64 p6]))] [] [] 0 0 0)))); let z2 := (Tr.br (decide (p6 ≥ 0)) z1 (Tr.br (p3.turn == 1) (Tr.br (isPS Pz 102 [AV.int .i64 p3.full] ((dI .i64).res (N102 p3.full))) (Tr.ret (FRes.ret (AV.tuple []) (Hp.mk [(pc p1 []), [AV.int .i8 p2.frm, AV.int .i8 p2.to, AV.int .u8 p2.pro, AV.int .u8 p2.drp, AV.bool p2.cas], [AV.int .u8 0, AV.ints .u8 64 (li (List.replicate 64 0)), AV.u64 0, AV.ints .u8 12 (li [0, 0, 0, 0, 0, 0, 0, 0, 0, 0, 0, 0]), AV.int .u8 0, AV.ints .i8 4 (li [0, 0, 0, 0]), AV.int .i8 0, AV.ints .u8 2 (li [0, 0]), AV.int .i64 0, AV.int .i64 0], (AV.int .u8 p3.variant :: AV.ints .u8 64 p3.board :: AV.u64 p3.promoted :: AV.ints .u8 12 p3.pockets :: AV.int .u8 p3.turn :: AV.ints .i8 4 p3.rooks :: AV.int .i8 p3.passing :: AV.ints .u8 2 p3.checks :: AV.int .i64 (N102 p3.half) :: AV.int .i64 (N102 p3.full) :: (pc p4 [AV.int .i8 p5.frm, AV.int .i8 p5.to, AV.int .u8 p5.pro, AV.int .u8 p5.drp, AV.bool p5.cas, AV.int .i64 p6]))] [] [] 0 0 0))) Tr.fail) (Tr.ret (FRes.ret (AV.tuple []) (Hp.mk [(pc p1 []), [AV.int .i8 p2.frm, AV.int .i8 p2.to, AV.int .u8 p2.pro, AV.int .u8 p2.drp, AV.bool p2.cas], [AV.int .u8 0, AV.ints .u8 64 (li (List.replicate 64 0)), AV.u64 0, AV.ints .u8 12 (li [0, 0, 0, 0, 0, 0, 0, 0, 0, 0, 0, 0]), AV.int .u8 0, AV.ints .i8 4 (li [0, 0, 0, 0]), AV.int .i8 0, AV.ints .u8 2 (li [0, 0]), AV.int .i64 0, AV.int .i64 0], (AV.int .u8 p3.variant :: AV.ints .u8 64 p3.board :: AV.u64 p3.promoted :: AV.ints .u8 12 p3.pockets :: AV.int .u8 p3.turn :: AV.ints .i8 4 p3.rooks :: AV.int .i8 p3.passing :: AV.ints .u8 2 p3.checks :: AV.int .i64 (N102 p3.half) :: AV.int .i64 p3.full :: (pc p4 [AV.int .i8 p5.frm, AV.int .i8 p5.to, AV.int .u8 p5.pro, AV.int .u8 p5.drp, AV.bool p5.cas, AV.int .i64 p6]))] [] [] 0 0 0))))); let z3 := (p4.board.getD (scale 1 p5.frm).toNat 0); Tr.br (isPS Pz 102 [AV.int .i64 p3.half] ((dI .i64).res (N102 p3.half))) (Tr.br (p5.drp != 0) (Tr.br (p5.drp == 1) z1 z2) (Tr.br (decide (0 ≤ p5.frm) && decide (p5.frm < Int.ofNat 64)) (Tr.br (isPS Pz 89 [AV.int .u8 z3] ((dI .u8).res (N89 z3))) (Tr.br (N89 z3 == 1) z1 z2) Tr.fail) Tr.fail)) Tr.fail) := by kernel_rfl
theorem PF17_10 (p1 : Pos) (p2 : Mv) (p3 : Pos) (p4 : Pos) (p5 : Mv) (p6 : Int) (h : okF17_10 p1 p2 p3 p4 p5 p6 = true) : FSpec Pz 45 (A17_10 p1 p2 p3 p4 p5 p6) (H17_10 p1 p2 p3 p4 p5 p6) (O17_10 p1 p2 p3 p4 p5 p6 (vF17_10 p1 p2 p3 p4 p5 p6)) ∧ ∃ fn, Pz.funcs[45]? = some fn ∧ fn.body.isSome = true := fs_gotd (O := O17_10 p1 p2 p3 p4 p5 p6) hB17_10 (EF17_10 p1 p2 p3 p4 p5 p6) (gr_callT (P102 (p3.half) rfl) (gr_br (gr_br2 (gr_br2 (gr_callT (P102 (p3.full) rfl) (gr_ret (rf_ret rfl (wk_nrm (ks := []) (gs := []) (b := true) rfl (by kernel_rfl))))) (gr_ret (rf_ret rfl (wk_nrm (ks := []) (gs := []) (b := true) rfl (by kernel_rfl))))) (gr_br2 (gr_br2 (gr_callT (P102 (p3.full) rfl) (gr_ret (rf_ret rfl (wk_nrm (ks := []) (gs := []) (b := true) rfl (by kernel_rfl))))) (gr_ret (rf_ret rfl (wk_nrm (ks := []) (gs := []) (b := true) rfl (by kernel_rfl))))) (gr_br2 (gr_callT (P102 (p3.full) rfl) (gr_ret (rf_ret rfl (wk_nrm (ks := []) (gs := []) (b := true) rfl (by kernel_rfl))))) (gr_ret (rf_ret rfl (wk_nrm (ks := []) (gs := []) (b := true) rfl (by kernel_rfl))))))) (gr_guard (gr_callT (P89 (p4.board.getD (scale 1 p5.frm).toNat 0) rfl) (gr_br2 (gr_br2 (gr_callT (P102 (p3.full) rfl) (gr_ret (rf_ret rfl (wk_nrm (ks := []) (gs := []) (b := true) rfl (by kernel_rfl))))) (gr_ret (rf_ret rfl (wk_nrm (ks := []) (gs := []) (b := true) rfl (by kernel_rfl))))) (gr_br2 (gr_br2 (gr_callT (P102 (p3.full) rfl) (gr_ret (rf_ret rfl (wk_nrm (ks := []) (gs := []) (b := true) rfl (by kernel_rfl))))) (gr_ret (rf_ret rfl (wk_nrm (ks := []) (gs := []) (b := true) rfl (by kernel_rfl))))) (gr_br2 (gr_callT (P102 (p3.full) rfl) (gr_ret (rf_ret rfl (wk_nrm (ks := []) (gs := []) (b := true) rfl (by kernel_rfl))))) (gr_ret (rf_ret rfl (wk_nrm (ks := []) (gs := []) (b := true) rfl (by kernel_rfl))))))))))) h
noncomputable def FF17_10 : List AV → Hp → Tr FRes := sureF Pz 45 (fun xs h => O17_10 (Kz.Pos.mk (tI (tH ⟨xs, h⟩ 0 0)) (tN (tH ⟨xs, h⟩ 0 1)) (tU (tH ⟨xs, h⟩ 0 2)) (tN (tH ⟨xs, h⟩ 0 3)) (tI (tH ⟨xs, h⟩ 0 4)) (tN (tH ⟨xs, h⟩ 0 5)) (tI (tH ⟨xs, h⟩ 0 6)) (tN (tH ⟨xs, h⟩ 0 7)) (tI (tH ⟨xs, h⟩ 0 8)) (tI (tH ⟨xs, h⟩ 0 9))) (Kz.Mv.mk (tI (tH ⟨xs, h⟩ 1 0)) (tI (tH ⟨xs, h⟩ 1 1)) (tI (tH ⟨xs, h⟩ 1 2)) (tI (tH ⟨xs, h⟩ 1 3)) (tB (tH ⟨xs, h⟩ 1 4))) (Kz.Pos.mk (tI (tH ⟨xs, h⟩ 3 0)) (tN (tH ⟨xs, h⟩ 3 1)) (tU (tH ⟨xs, h⟩ 3 2)) (tN (tH ⟨xs, h⟩ 3 3)) (tI (tH ⟨xs, h⟩ 3 4)) (tN (tH ⟨xs, h⟩ 3 5)) (tI (tH ⟨xs, h⟩ 3 6)) (tN (tH ⟨xs, h⟩ 3 7)) (tI (tH ⟨xs, h⟩ 3 8)) (tI (tH ⟨xs, h⟩ 3 9))) (Kz.Pos.mk (tI (tH ⟨xs, h⟩ 3 10)) (tN (tH ⟨xs, h⟩ 3 11)) (tU (tH ⟨xs, h⟩ 3 12)) (tN (tH ⟨xs, h⟩ 3 13)) (tI (tH ⟨xs, h⟩ 3 14)) (tN (tH ⟨xs, h⟩ 3 15)) (tI (tH ⟨xs, h⟩ 3 16)) (tN (tH ⟨xs, h⟩ 3 17)) (tI (tH ⟨xs, h⟩ 3 18)) (tI (tH ⟨xs, h⟩ 3 19))) (Kz.Mv.mk (tI (tH ⟨xs, h⟩ 3 20)) (tI (tH ⟨xs, h⟩ 3 21)) (tI (tH ⟨xs, h⟩ 3 22)) (tI (tH ⟨xs, h⟩ 3 23)) (tB (tH ⟨xs, h⟩ 3 24))) (tI (tH ⟨xs, h⟩ 3 25)) (vF17_10 (Kz.Pos.mk (tI (tH ⟨xs, h⟩ 0 0)) (tN (tH ⟨xs, h⟩ 0 1)) (tU (tH ⟨xs, h⟩ 0 2)) (tN (tH ⟨xs, h⟩ 0 3)) (tI (tH ⟨xs, h⟩ 0 4)) (tN (tH ⟨xs, h⟩ 0 5)) (tI (tH ⟨xs, h⟩ 0 6)) (tN (tH ⟨xs, h⟩ 0 7)) (tI (tH ⟨xs, h⟩ 0 8)) (tI (tH ⟨xs, h⟩ 0 9))) (Kz.Mv.mk (tI (tH ⟨xs, h⟩ 1 0)) (tI (tH ⟨xs, h⟩ 1 1)) (tI (tH ⟨xs, h⟩ 1 2)) (tI (tH ⟨xs, h⟩ 1 3)) (tB (tH ⟨xs, h⟩ 1 4))) (Kz.Pos.mk (tI (tH ⟨xs, h⟩ 3 0)) (tN (tH ⟨xs, h⟩ 3 1)) (tU (tH ⟨xs, h⟩ 3 2)) (tN (tH ⟨xs, h⟩ 3 3)) (tI (tH ⟨xs, h⟩ 3 4)) (tN (tH ⟨xs, h⟩ 3 5)) (tI (tH ⟨xs, h⟩ 3 6)) (tN (tH ⟨xs, h⟩ 3 7)) (tI (tH ⟨xs, h⟩ 3 8)) (tI (tH ⟨xs, h⟩ 3 9))) (Kz.Pos.mk (tI (tH ⟨xs, h⟩ 3 10)) (tN (tH ⟨xs, h⟩ 3 11)) (tU (tH ⟨xs, h⟩ 3 12)) (tN (tH ⟨xs, h⟩ 3 13)) (tI (tH ⟨xs, h⟩ 3 14)) (tN (tH ⟨xs, h⟩ 3 15)) (tI (tH ⟨xs, h⟩ 3 16)) (tN (tH ⟨xs, h⟩ 3 17)) (tI (tH ⟨xs, h⟩ 3 18)) (tI (tH ⟨xs, h⟩ 3 19))) (Kz.Mv.mk (tI (tH ⟨xs, h⟩ 3 20)) (tI (tH ⟨xs, h⟩ 3 21)) (tI (tH ⟨xs, h⟩ 3 22)) (tI (tH ⟨xs, h⟩ 3 23)) (tB (tH ⟨xs, h⟩ 3 24))) (tI (tH ⟨xs, h⟩ 3 25))))
theorem sFF17_10 : FSound Pz 45 FF17_10 := sureF_sound
noncomputable def B17_11 : Base := baseOf Pz (fun f i => lkK f i K17) [(103, G103), (38, G38), (37, G37), (39, G39), (101, G101), (89, G89), (91, G91), (92, G92), (93, G93), (95, G95), (96, G96), (97, G97), (99, G99), (100, G100), (102, G102)] [(42, 2, F17_3), (43, 7, F17_6), (43, 3, F17_7)] [(40, FF17_1), (41, FF17_2), (42, FF17_4), (43, FF17_8), (44, FF17_9), (45, FF17_10)]
theorem hB17_11 : BOk B17_11 := base_ok named_z ⟨s103, s38, s37, s39, s101, s89, s91, s92, s93, s95, s96, s97, s99, s100, s102, trivial⟩ ⟨sF17_3, sF17_6, sF17_7, trivial⟩ ⟨sFF17_1, sFF17_2, sFF17_4, sFF17_8, sFF17_9, sFF17_10, trivial⟩
noncomputable def A17_11 (p1 : Pos) (p2 : Mv) (p3 : Pos) (p4 : Pos) (p5 : Mv) (p6 : Int) : List AV := [AV.ptr 3 0]
noncomputable def H17_11 (p1 : Pos) (p2 : Mv) (p3 : Pos) (p4 : Pos) (p5 : Mv) (p6 : Int) : Hp := Hp.mk [(pc p1 []), [AV.int .i8 p2.frm, AV.int .i8 p2.to, AV.int .u8 p2.pro, AV.int .u8 p2.drp, AV.bool p2.cas], [AV.int .u8 0, AV.ints .u8 64 (li (List.replicate 64 0)), AV.u64 0, AV.ints .u8 12 (li [0, 0, 0, 0, 0, 0, 0, 0, 0, 0, 0, 0]), AV.int .u8 0, AV.ints .i8 4 (li [0, 0, 0, 0]), AV.int .i8 0, AV.ints .u8 2 (li [0, 0]), AV.int .i64 0, AV.int .i64 0], (pc p3 (pc p4 [AV.int .i8 p5.frm, AV.int .i8 p5.to, AV.int .u8 p5.pro, AV.int .u8 p5.drp, AV.bool p5.cas, AV.int .i64 p6]))] [] [] 0 0 0
noncomputable def O17_11 (p1 : Pos) (p2 : Mv) (p3 : Pos) (p4 : Pos) (p5 : Mv) (p6 : Int) (y : (Pos)) : FRes := .ret (AV.tuple []) (Hp.mk [(pc p1 []), [AV.int .i8 p2.frm, AV.int .i8 p2.to, AV.int .u8 p2.pro, AV.int .u8 p2.drp, AV.bool p2.cas], [AV.int .u8 0, AV.ints .u8 64 (li (List.replicate 64 0)), AV.u64 0, AV.ints .u8 12 (li [0, 0, 0, 0, 0, 0, 0, 0, 0, 0, 0, 0]), AV.int .u8 0, AV.ints .i8 4 (li [0, 0, 0, 0]), AV.int .i8 0, AV.ints .u8 2 (li [0, 0]), AV.int .i64 0, AV.int .i64 0], (pc y (pc p4 [AV.int .i8 p5.frm, AV.int .i8 p5.to, AV.int .u8 p5.pro, AV.int .u8 p5.drp, AV.bool p5.cas, AV.int .i64 p6]))] [] [] 0 0 0)
noncomputable def vF17_11 (p1 : Pos) (p2 : Mv) (p3 : Pos) (p4 : Pos) (p5 : Mv) (p6 : Int) : (Pos) := (bif p3.variant == 5 then (bif decide (p3.checks.getD (scale 1 (wr .u8 (1 - wr .u8 (1 - p3.turn)))).toNat 0 < 3) then (bif N103 (Pos.mk p3.variant p3.board p3.promoted p3.pockets (wr .u8 (1 - p3.turn)) p3.rooks p3.passing p3.checks p3.half p3.full) (wr .u8 (1 - p3.turn)) then (Pos.mk p3.variant p3.board p3.promoted p3.pockets (wr .u8 (1 - p3.turn)) p3.rooks p3.passing (p3.checks.set (scale 1 (wr .u8 (1 - wr .u8 (1 - p3.turn)))).toNat (wr .u8 (p3.checks.getD (scale 1 (wr .u8 (1 - wr .u8 (1 - p3.turn)))).toNat 0 + 1))) p3.half p3.full) else (Pos.mk p3.variant p3.board p3.promoted p3.pockets (wr .u8 (1 - p3.turn)) p3.rooks p3.passing p3.checks p3.half p3.full)) else (Pos.mk p3.variant p3.board p3.promoted p3.pockets (wr .u8 (1 - p3.turn)) p3.rooks p3.passing p3.checks p3.half p3.full)) else (Pos.mk p3.variant p3.board p3.promoted p3.pockets (wr .u8 (1 - p3.turn)) p3.rooks p3.passing p3.checks p3.half p3.full))
noncomputable def okF17_11 (p1 : Pos) (p2 : Mv) (p3 : Pos) (p4 : Pos) (p5 : Mv) (p6 : Int) : Bool := (bif p3.variant == 5 then (decide (0 ≤ wr .u8 (1 - wr .u8 (1 - p3.turn))) && decide (wr .u8 (1 - wr .u8 (1 - p3.turn)) < Int.ofNat 2) && (bif decide (p3.checks.getD (scale 1 (wr .u8 (1 - wr .u8 (1 - p3.turn)))).toNat 0 < 3) then (ok103 (Pos.mk p3.variant p3.board p3.promoted p3.pockets (wr .u8 (1 - p3.turn)) p3.rooks p3.passing p3.checks p3.half p3.full) (wr .u8 (1 - p3.turn)) && (bif N103 (Pos.mk p3.variant p3.board p3.promoted p3.pockets (wr .u8 (1 - p3.turn)) p3.rooks p3.passing p3.checks p3.half p3.full) (wr .u8 (1 - p3.turn)) then (decide (0 ≤ wr .u8 (1 - wr .u8 (1 - p3.turn))) && decide (wr .u8 (1 - wr .u8 (1 - p3.turn)) < Int.ofNat 2) && (decide (0 ≤ wr .u8 (1 - wr .u8 (1 - p3.turn))) && decide (wr .u8 (1 - wr .u8 (1 - p3.turn)) < Int.ofNat 2) && true)) else true)) else true)) else true)
theorem EF17_11 (p1 : Pos) (p2 : Mv) (p3 : Pos) (p4 : Pos) (p5 : Mv) (p6 : Int) : evFd B17_11 14 46 (A17_11 p1 p2 p3 p4 p5 p6) (H17_11 p1 p2 p3 p4 p5 p6) = (let z3 := (decide (0 ≤ wr .u8 (1 - wr .u8 (1 - p3.turn))) && decide (wr .u8 (1 - wr .u8 (1 - p3.turn)) < Int.ofNat 2)); let z4 := (scale 1 (wr .u8 (1 - wr .u8 (1 - p3.turn)))); let z5 := (wr .u8 (1 - p3.turn)); let z1 := (Tr.ret (FRes.ret (AV.tuple []) (Hp.mk [(pc p1 []), [AV.int .i8 p2.frm, AV.int .i8 p2.to, AV.int .u8 p2.pro, AV.int .u8 p2.drp, AV.bool p2.cas], [AV.int .u8 0, AV.ints .u8 64 (li (List.replicate 64 0)), AV.u64 0, AV.ints .u8 12 (li [0, 0, 0, 0, 0, 0, 0, 0, 0, 0, 0, 0]), AV.int .u8 0, AV.ints .i8 4 (li [0, 0, 0, 0]), AV.int .i8 0, AV.ints .u8 2 (li [0, 0]), AV.int .i64 0, AV.int .i64 0], (AV.int .u8 p3.variant :: AV.ints .u8 64 p3.board :: AV.u64 p3.promoted :: AV.ints .u8 12 p3.pockets :: AV.int .u8 z5 :: AV.ints .i8 4 p3.rooks :: AV.int .i8 p3.passing :: AV.ints .u8 2 p3.checks :: AV.int .i64 p3.half :: AV.int .i64 p3.full :: (pc p4 [AV.int .i8 p5.frm, AV.int .i8 p5.to, AV.int .u8 p5.pro, AV.int .u8 p5.drp, AV.bool p5.cas, AV.int .i64 p6]))] [] [] 0 0 0))); let z2 := (Pos.mk p3.variant p3.board p3.promoted p3.pockets z5 p3.rooks p3.passing p3.checks p3.half p3.full); Tr.br (p3.variant == 5) (Tr.br z3 (Tr.br (decide (p3.checks.getD z4.toNat 0 < 3)) (Tr.br (isPS Pz 103 [z2.av, AV.int .u8 z5] (dB.res (N103 z2 z5))) (Tr.br (N103 z2 z5) (Tr.br z3 (Tr.br z3 (Tr.ret (FRes.ret (AV.tuple []) (Hp.mk [(pc p1 []), [AV.int .i8 p2.frm, AV.int .i8 p2.to, AV.int .u8 p2.pro, AV.int .u8 p2.drp, AV.bool p2.cas], [AV.int .u8 0, AV.ints .u8 64 (li (List.replicate 64 0)), AV.u64 0, AV.ints .u8 12 (li [0, 0, 0, 0, 0, 0, 0, 0, 0, 0, 0, 0]), AV.int .u8 0, AV.ints .i8 4 (li [0, 0, 0, 0]), AV.int .i8 0, AV.ints .u8 2 (li [0, 0]), AV.int .i64 0, AV.int .i64 0], (AV.int .u8 p3.variant :: AV.ints .u8 64 p3.board :: AV.u64 p3.promoted :: AV.ints .u8 12 p3.pockets :: AV.int .u8 z5 :: AV.ints .i8 4 p3.rooks :: AV.int .i8 p3.passing :: AV.ints .u8 2 (p3.checks.set z4.toNat (wr .u8 (p3.checks.getD z4.toNat 0 + 1))) :: AV.int .i64 p3.half :: AV.int .i64 p3.full :: (pc p4 [AV.int .i8 p5.frm, AV.int .i8 p5.to, AV.int .u8 p5.pro, AV.int .u8 p5.drp, AV.bool p5.cas, AV.int .i64 p6]))] [] [] 0 0 0))) Tr.fail) Tr.fail) z1) Tr.fail) z1) Tr.fail) z1) := by kernel_rfl
theorem PF17_11 (p1 : Pos) (p2 : Mv) (p3 : Pos) (p4 : Pos) (p5 : Mv) (p6 : Int) (h : okF17_11 p1 p2 p3 p4 p5 p6 = true) : FSpec Pz 46 (A17_11 p1 p2 p3 p4 p5 p6) (H17_11 p1 p2 p3 p4 p5 p6) (O17_11 p1 p2 p3 p4 p5 p6 (vF17_11 p1 p2 p3 p4 p5 p6)) ∧ ∃ fn, Pz.funcs[46]? = some fn ∧ fn.body.isSome = true := fs_gotd (O := O17_11 p1 p2 p3 p4 p5 p6) hB17_11 (EF17_11 p1 p2 p3 p4 p5 p6) (gr_br (gr_guard (gr_br (gr_call (P103 (Pos.mk p3.variant p3.board p3.promoted p3.pockets (wr .u8 (1 - p3.turn)) p3.rooks p3.passing p3.checks p3.half p3.full) (wr .u8 (1 - p3.turn))) (gr_br (gr_guard (gr_guard (gr_ret (rf_ret rfl (wk_nrm (ks := []) (gs := []) (b := true) rfl (by kernel_rfl)))))) (gr_ret (rf_ret rfl (wk_nrm (ks := []) (gs := []) (b := true) rfl (by kernel_rfl)))))) (gr_ret (rf_ret rfl (wk_nrm (ks := []) (gs := []) (b := true) rfl (by kernel_rfl)))))) (gr_ret (rf_ret rfl (wk_nrm (ks := []) (gs := []) (b := true) rfl (by kernel_rfl))))) h
noncomputable def FF17_11 : List AV → Hp → Tr FRes := sureF Pz 46 (fun xs h => O17_11 (Kz.Pos.mk (tI (tH ⟨xs, h⟩ 0 0)) (tN (tH ⟨xs, h⟩ 0 1)) (tU (tH ⟨xs, h⟩ 0 2)) (tN (tH ⟨xs, h⟩ 0 3)) (tI (tH ⟨xs, h⟩ 0 4)) (tN (tH ⟨xs, h⟩ 0 5)) (tI (tH ⟨xs, h⟩ 0 6)) (tN (tH ⟨xs, h⟩ 0 7)) (tI (tH ⟨xs, h⟩ 0 8)) (tI (tH ⟨xs, h⟩ 0 9))) (Kz.Mv.mk (tI (tH ⟨xs, h⟩ 1 0)) (tI (tH ⟨xs, h⟩ 1 1)) (tI (tH ⟨xs, h⟩ 1 2)) (tI (tH ⟨xs, h⟩ 1 3)) (tB (tH ⟨xs, h⟩ 1 4))) (Kz.Pos.mk (tI (tH ⟨xs, h⟩ 3 0)) (tN (tH ⟨xs, h⟩ 3 1)) (tU (tH ⟨xs, h⟩ 3 2)) (tN (tH ⟨xs, h⟩ 3 3)) (tI (tH ⟨xs, h⟩ 3 4)) (tN (tH ⟨xs, h⟩ 3 5)) (tI (tH ⟨xs, h⟩ 3 6)) (tN (tH ⟨xs, h⟩ 3 7)) (tI (tH ⟨xs, h⟩ 3 8)) (tI (tH ⟨xs, h⟩ 3 9))) (Kz.Pos.mk (tI (tH ⟨xs, h⟩ 3 10)) (tN (tH ⟨xs, h⟩ 3 11)) (tU (tH ⟨xs, h⟩ 3 12)) (tN (tH ⟨xs, h⟩ 3 13)) (tI (tH ⟨xs, h⟩ 3 14)) (tN (tH ⟨xs, h⟩ 3 15)) (tI (tH ⟨xs, h⟩ 3 16)) (tN (tH ⟨xs, h⟩ 3 17)) (tI (tH ⟨xs, h⟩ 3 18)) (tI (tH ⟨xs, h⟩ 3 19))) (Kz.Mv.mk (tI (tH ⟨xs, h⟩ 3 20)) (tI (tH ⟨xs, h⟩ 3 21)) (tI (tH ⟨xs, h⟩ 3 22)) (tI (tH ⟨xs, h⟩ 3 23)) (tB (tH ⟨xs, h⟩ 3 24))) (tI (tH ⟨xs, h⟩ 3 25)) (vF17_11 (Kz.Pos.mk (tI (tH ⟨xs, h⟩ 0 0)) (tN (tH ⟨xs, h⟩ 0 1)) (tU (tH ⟨xs, h⟩ 0 2)) (tN (tH ⟨xs, h⟩ 0 3)) (tI (tH ⟨xs, h⟩ 0 4)) (tN (tH ⟨xs, h⟩ 0 5)) (tI (tH ⟨xs, h⟩ 0 6)) (tN (tH ⟨xs, h⟩ 0 7)) (tI (tH ⟨xs, h⟩ 0 8)) (tI (tH ⟨xs, h⟩ 0 9))) (Kz.Mv.mk (tI (tH ⟨xs, h⟩ 1 0)) (tI (tH ⟨xs, h⟩ 1 1)) (tI (tH ⟨xs, h⟩ 1 2)) (tI (tH ⟨xs, h⟩ 1 3)) (tB (tH ⟨xs, h⟩ 1 4))) (Kz.Pos.mk (tI (tH ⟨xs, h⟩ 3 0)) (tN (tH ⟨xs, h⟩ 3 1)) (tU (tH ⟨xs, h⟩ 3 2)) (tN (tH ⟨xs, h⟩ 3 3)) (tI (tH ⟨xs, h⟩ 3 4)) (tN (tH ⟨xs, h⟩ 3 5)) (tI (tH ⟨xs, h⟩ 3 6)) (tN (tH ⟨xs, h⟩ 3 7)) (tI (tH ⟨xs, h⟩ 3 8)) (tI (tH ⟨xs, h⟩ 3 9))) (Kz.Pos.mk (tI (tH ⟨xs, h⟩ 3 10)) (tN (tH ⟨xs, h⟩ 3 11)) (tU (tH ⟨xs, h⟩ 3 12)) (tN (tH ⟨xs, h⟩ 3 13)) (tI (tH ⟨xs, h⟩ 3 14)) (tN (tH ⟨xs, h⟩ 3 15)) (tI (tH ⟨xs, h⟩ 3 16)) (tN (tH ⟨xs, h⟩ 3 17)) (tI (tH ⟨xs, h⟩ 3 18)) (tI (tH ⟨xs, h⟩ 3 19))) (Kz.Mv.mk (tI (tH ⟨xs, h⟩ 3 20)) (tI (tH ⟨xs, h⟩ 3 21)) (tI (tH ⟨xs, h⟩ 3 22)) (tI (tH ⟨xs, h⟩ 3 23)) (tB (tH ⟨xs, h⟩ 3 24))) (tI (tH ⟨xs, h⟩ 3 25))))
theorem sFF17_11 : FSound Pz 46 FF17_11 := sureF_sound
noncomputable def B17 : Base := baseOf Pz (fun f i => lkK f i K17) [(103, G103), (38, G38), (37, G37), (39, G39), (101, G101), (89, G89), (91, G91), (92, G92), (93, G93), (95, G95), (96, G96), (97, G97), (99, G99), (100, G100), (102, G102)] [(42, 2, F17_3), (43, 7, F17_6), (43, 3, F17_7)] [(40, FF17_1), (41, FF17_2), (42, FF17_4), (43, FF17_8), (44, FF17_9), (45, FF17_10), (46, FF17_11)]
theorem hB17 : BOk B17 := base_ok named_z ⟨s103, s38, s37, s39, s101, s89, s91, s92, s93, s95, s96, s97, s99, s100, s102, trivial⟩ ⟨sF17_3, sF17_6, sF17_7, trivial⟩ ⟨sFF17_1, sFF17_2, sFF17_4, sFF17_8, sFF17_9, sFF17_10, sFF17_11, trivial⟩
noncomputable def N17 (a : Pos) (b : Mv) : (Pos × Bool) := (bif !N37 (N38 a) b then (⟨(a.variant), (a.board), (a.promoted), (a.pockets), (a.turn), (a.rooks), (a.passing), (a.checks), (a.half), (a.full)⟩, (false)) else (⟨((vF17_11 a b (vF17_10 a b (vF17_9 a b (vF17_8 a b (vF17_4 a b (vF17_2 a b (vF17_1 a b a a b (N39 a b)) a b (N39 a b)) a b (N39 a b)) a b (N39 a b)) a b (N39 a b)) a b (N39 a b)) a b (N39 a b)).variant), ((vF17_11 a b (vF17_10 a b (vF17_9 a b (vF17_8 a b (vF17_4 a b (vF17_2 a b (vF17_1 a b a a b (N39 a b)) a b (N39 a b)) a b (N39 a b)) a b (N39 a b)) a b (N39 a b)) a b (N39 a b)) a b (N39 a b)).board), ((vF17_11 a b (vF17_10 a b (vF17_9 a b (vF17_8 a b (vF17_4 a b (vF17_2 a b (vF17_1 a b a a b (N39 a b)) a b (N39 a b)) a b (N39 a b)) a b (N39 a b)) a b (N39 a b)) a b (N39 a b)) a b (N39 a b)).promoted), ((vF17_11 a b (vF17_10 a b (vF17_9 a b (vF17_8 a b (vF17_4 a b (vF17_2 a b (vF17_1 a b a a b (N39 a b)) a b (N39 a b)) a b (N39 a b)) a b (N39 a b)) a b (N39 a b)) a b (N39 a b)) a b (N39 a b)).pockets), ((vF17_11 a b (vF17_10 a b (vF17_9 a b (vF17_8 a b (vF17_4 a b (vF17_2 a b (vF17_1 a b a a b (N39 a b)) a b (N39 a b)) a b (N39 a b)) a b (N39 a b)) a b (N39 a b)) a b (N39 a b)) a b (N39 a b)).turn), ((vF17_11 a b (vF17_10 a b (vF17_9 a b (vF17_8 a b (vF17_4 a b (vF17_2 a b (vF17_1 a b a a b (N39 a b)) a b (N39 a b)) a b (N39 a b)) a b (N39 a b)) a b (N39 a b)) a b (N39 a b)) a b (N39 a b)).rooks), ((vF17_11 a b (vF17_10 a b (vF17_9 a b (vF17_8 a b (vF17_4 a b (vF17_2 a b (vF17_1 a b a a b (N39 a b)) a b (N39 a b)) a b (N39 a b)) a b (N39 a b)) a b (N39 a b)) a b (N39 a b)) a b (N39 a b)).passing), ((vF17_11 a b (vF17_10 a b (vF17_9 a b (vF17_8 a b (vF17_4 a b (vF17_2 a b (vF17_1 a b a a b (N39 a b)) a b (N39 a b)) a b (N39 a b)) a b (N39 a b)) a b (N39 a b)) a b (N39 a b)) a b (N39 a b)).checks), ((vF17_11 a b (vF17_10 a b (vF17_9 a b (vF17_8 a b (vF17_4 a b (vF17_2 a b (vF17_1 a b a a b (N39 a b)) a b (N39 a b)) a b (N39 a b)) a b (N39 a b)) a b (N39 a b)) a b (N39 a b)) a b (N39 a b)).half), ((vF17_11 a b (vF17_10 a b (vF17_9 a b (vF17_8 a b (vF17_4 a b (vF17_2 a b (vF17_1 a b a a b (N39 a b)) a b (N39 a b)) a b (N39 a b)) a b (N39 a b)) a b (N39 a b)) a b (N39 a b)) a b (N39 a b)).full)⟩, (true)))
noncomputable def ok17 (a : Pos) (b : Mv) : Bool := (ok38 (a) && (ok37 (N38 a) (b) && (bif !N37 (N38 a) b then true else (ok39 (a) (b) && (okF17_1 (a) (b) (a) (a) (b) (N39 a b) && (okF17_2 (a) (b) (vF17_1 a b a a b (N39 a b)) (a) (b) (N39 a b) && (okF17_4 (a) (b) (vF17_2 a b (vF17_1 a b a a b (N39 a b)) a b (N39 a b)) (a) (b) (N39 a b) && (okF17_8 (a) (b) (vF17_4 a b (vF17_2 a b (vF17_1 a b a a b (N39 a b)) a b (N39 a b)) a b (N39 a b)) (a) (b) (N39 a b) && (okF17_9 (a) (b) (vF17_8 a b (vF17_4 a b (vF17_2 a b (vF17_1 a b a a b (N39 a b)) a b (N39 a b)) a b (N39 a b)) a b (N39 a b)) (a) (b) (N39 a b) && (okF17_10 (a) (b) (vF17_9 a b (vF17_8 a b (vF17_4 a b (vF17_2 a b (vF17_1 a b a a b (N39 a b)) a b (N39 a b)) a b (N39 a b)) a b (N39 a b)) a b (N39 a b)) (a) (b) (N39 a b) && (okF17_11 (a) (b) (vF17_10 a b (vF17_9 a b (vF17_8 a b (vF17_4 a b (vF17_2 a b (vF17_1 a b a a b (N39 a b)) a b (N39 a b)) a b (N39 a b)) a b (N39 a b)) a b (N39 a b)) a b (N39 a b)) (a) (b) (N39 a b) && true)))))))))))
theorem E17 (a : Pos) (b : Mv) : evPure B17 14 17 [Pos.av a, Mv.av b] = (let z1 := [AV.int .u8 0, AV.ints .u8 64 (li (List.replicate 64 0)), AV.u64 0, AV.ints .u8 12 (li [0, 0, 0, 0, 0, 0, 0, 0, 0, 0, 0, 0]), AV.int .u8 0, AV.ints .i8 4 (li [0, 0, 0, 0]), AV.int .i8 0, AV.ints .u8 2 (li [0, 0]), AV.int .i64 0, AV.int .i64 0]; let z3 := (pc a [AV.int .i8 b.frm, AV.int .i8 b.to, AV.int .u8 b.pro, AV.int .u8 b.drp, AV.bool b.cas, AV.int .i64 (N39 a b)]); let z4 := [AV.int .i8 b.frm, AV.int .i8 b.to, AV.int .u8 b.pro, AV.int .u8 b.drp, AV.bool b.cas]; let z9 := (vF17_1 a b a a b (N39 a b)); let z5 := (vF17_2 a b z9 a b (N39 a b)); let z7 := (vF17_4 a b z5 a b (N39 a b)); let z2 := (vF17_8 a b z7 a b (N39 a b)); let z8 := (vF17_9 a b z2 a b (N39 a b)); let z6 := (vF17_10 a b z8 a b (N39 a b)); Tr.br (isPS Pz 38 [a.av] ((dL ET.mv).res (N38 a))) (Tr.br (isPS Pz 37 [AV.list ET.mv (N38 a) Tk.arg, b.av] (dB.res (N37 (N38 a) b))) (Tr.br (!N37 (N38 a) b) (Tr.ret (AV.tuple [AV.agg (pc a []), AV.cbool false])) (Tr.br (isPS Pz 39 [a.av, b.av] ((dI .i64).res (N39 a b))) (Tr.br (isFS Pz 40 [AV.ptr 3 0] (Hp.mk [(pc a []), z4, [AV.cint .u8 0, AV.ints .u8 64 (li (List.replicate 64 0)), AV.u64 0, AV.ints .u8 12 (li [0, 0, 0, 0, 0, 0, 0, 0, 0, 0, 0, 0]), AV.cint .u8 0, AV.ints .i8 4 (li [0, 0, 0, 0]), AV.cint .i8 0, AV.ints .u8 2 (li [0, 0]), AV.cint .i64 0, AV.cint .i64 0], (pc a z3)] [] [] 0 0 0) (O17_1 a b a a b (N39 a b) z9)) (Tr.br (isFS Pz 41 [AV.ptr 3 0] (Hp.mk [(pc a []), z4, z1, (pc z9 z3)] [] [] 0 0 0) (O17_2 a b z9 a b (N39 a b) z5)) (Tr.br (isFS Pz 42 [AV.ptr 3 0] (Hp.mk [(pc a []), z4, z1, (pc z5 z3)] [] [] 0 0 0) (O17_4 a b z5 a b (N39 a b) z7)) (Tr.br (isFS Pz 43 [AV.ptr 3 0] (Hp.mk [(pc a []), z4, z1, (pc z7 z3)] [] [] 0 0 0) (O17_8 a b z7 a b (N39 a b) z2)) (Tr.br (isFS Pz 44 [AV.ptr 3 0] (Hp.mk [(pc a []), z4, z1, (pc z2 z3)] [] [] 0 0 0) (O17_9 a b z2 a b (N39 a b) z8)) (Tr.br (isFS Pz 45 [AV.ptr 3 0] (Hp.mk [(pc a []), z4, z1, (pc z8 z3)] [] [] 0 0 0) (O17_10 a b z8 a b (N39 a b) z6)) (Tr.br (isFS Pz 46 [AV.ptr 3 0] (Hp.mk [(pc a []), z4, z1, (pc z6 z3)] [] [] 0 0 0) (O17_11 a b z6 a b (N39 a b) (vF17_11 a b z6 a b (N39 a b)))) (Tr.ret (AV.tuple [AV.agg (pc (vF17_11 a b z6 a b (N39 a b)) []), AV.cbool true])) Tr.fail) Tr.fail) Tr.fail) Tr.fail) Tr.fail) Tr.fail) Tr.fail) Tr.fail)) Tr.fail) Tr.fail) := by kernel_rfl
theorem P17 (a : Pos) (b : Mv) (h : ok17 a b = true) : PS Pz 17 [Pos.av a, Mv.av b] ((d2 dPos dB).res (N17 a b)) := ps_gotR hB17 (E17 a b) (gr_call (P38 (a)) (gr_call (P37 (N38 a) (b)) (gr_br (gr_ret rfl) (gr_call (P39 (a) (b)) (gr_fs (fun h => PF17_1 (a) (b) (a) (a) (b) (N39 a b) h) (wk_nrm (ks := []) (gs := []) (b := true) rfl (by kernel_rfl)) (gr_fs (fun h => PF17_2 (a) (b) (vF17_1 a b a a b (N39 a b)) (a) (b) (N39 a b) h) (wk_nrm (ks := []) (gs := []) (b := true) rfl (by kernel_rfl)) (gr_fs (fun h => PF17_4 (a) (b) (vF17_2 a b (vF17_1 a b a a b (N39 a b)) a b (N39 a b)) (a) (b) (N39 a b) h) (wk_nrm (ks := []) (gs := []) (b := true) rfl (by kernel_rfl)) (gr_fs (fun h => PF17_8 (a) (b) (vF17_4 a b (vF17_2 a b (vF17_1 a b a a b (N39 a b)) a b (N39 a b)) a b (N39 a b)) (a) (b) (N39 a b) h) (wk_nrm (ks := []) (gs := []) (b := true) rfl (by kernel_rfl)) (gr_fs (fun h => PF17_9 (a) (b) (vF17_8 a b (vF17_4 a b (vF17_2 a b (vF17_1 a b a a b (N39 a b)) a b (N39 a b)) a b (N39 a b)) a b (N39 a b)) (a) (b) (N39 a b) h) (wk_nrm (ks := []) (gs := []) (b := true) rfl (by kernel_rfl)) (gr_fs (fun h => PF17_10 (a) (b) (vF17_9 a b (vF17_8 a b (vF17_4 a b (vF17_2 a b (vF17_1 a b a a b (N39 a b)) a b (N39 a b)) a b (N39 a b)) a b (N39 a b)) a b (N39 a b)) (a) (b) (N39 a b) h) (wk_nrm (ks := []) (gs := []) (b := true) rfl (by kernel_rfl)) (gr_fs (fun h => PF17_11 (a) (b) (vF17_10 a b (vF17_9 a b (vF17_8 a b (vF17_4 a b (vF17_2 a b (vF17_1 a b a a b (N39 a b)) a b (N39 a b)) a b (N39 a b)) a b (N39 a b)) a b (N39 a b)) a b (N39 a b)) (a) (b) (N39 a b) h) (wk_nrm (ks := []) (gs := []) (b := true) rfl (by kernel_rfl)) (gr_ret rfl)))))))))))) h
noncomputable def G17 : List AV → Tr AV := g2 dPos dMv (fun a b => sure Pz 17 [Pos.av a, Mv.av b] ((d2 dPos dB).res (N17 a b)))
theorem s17 : Sound Pz 17 G17 := sound2 (fun _ _ => at_sure)
end Kz
end
section
namespace Kz
open Go
set_option maxRecDepth 100000
theorem ix64 {i : Int} (h0 : 0 ≤ i) (h1 : i < 64) : (decide (0 ≤ i) && decide (i < Int.ofNat 64)) = true := by
  rw [Bool.and_eq_true, decide_eq_true_eq, decide_eq_true_eq]
  exact ⟨h0, h1⟩
theorem set_in {l : List Int} {a b v : Int} (h : ∀ x ∈ l, a ≤ x ∧ x ≤ b) (hv : a ≤ v ∧ v ≤ b) (i : Nat) : ∀ x ∈ l.set i v, a ≤ x ∧ x ≤ b := by
  intro x hx
  rcases List.mem_or_eq_of_mem_set hx with h1 | rfl
  · exact h x h1
  · exact hv
theorem N93_in (a b : Int) : 0 ≤ N93 a b ∧ N93 a b ≤ 255 := by
  unfold N93
  exact c_ind (P := fun x : Int => 0 ≤ x ∧ x ≤ 255) (fun _ => by decide) fun _ => c_ind (P := fun x : Int => 0 ≤ x ∧ x ≤ 255) (fun _ => by decide) fun _ => c_ind (P := fun x : Int => 0 ≤ x ∧ x ≤ 255) (fun _ => by decide) fun _ => ⟨wr_u8_lo _, wr_u8_hi _⟩
theorem N102_in {n : Int} (h : -9223372036854775808 ≤ n ∧ n ≤ 9223372036854775807) : -9223372036854775808 ≤ N102 n ∧ N102 n ≤ 9223372036854775807 := by
  unfold N102
  exact c_ind (P := fun x : Int => -9223372036854775808 ≤ x ∧ x ≤ 9223372036854775807) (fun _ => h) fun _ => wr_i64_b _
structure Kin (p q : Pos) : Prop where
  pin : PosIn q
  v : q.variant = p.variant
  t : q.turn = p.turn
section
variable {p q : Pos}
theorem Kin.board (h : Kin p q) {bd : List Int} (hl : bd.length = 64) (hb : ∀ x ∈ bd, 0 ≤ x ∧ x ≤ 255) (pr : BitVec 64) : Kin p ⟨q.variant, bd, pr, q.pockets, q.turn, q.rooks, q.passing, q.checks, q.half, q.full⟩ :=
  ⟨⟨h.pin.v0, h.pin.v1, hl, hb, h.pin.kl, h.pin.k0, h.pin.t0, h.pin.t1, h.pin.rl, h.pin.r0, h.pin.p0, h.pin.p1, h.pin.cl, h.pin.c0, h.pin.h0, h.pin.f0⟩, h.v, h.t⟩
theorem Kin.set (h : Kin p q) (i : Nat) {v : Int} (hv : 0 ≤ v ∧ v ≤ 255) : Kin p ⟨q.variant, q.board.set i v, q.promoted, q.pockets, q.turn, q.rooks, q.passing, q.checks, q.half, q.full⟩ :=
  h.board (by rw [List.length_set]; exact h.pin.bl) (set_in h.pin.b0 hv i) _
theorem Kin.promoted (h : Kin p q) (pr : BitVec 64) : Kin p ⟨q.variant, q.board, pr, q.pockets, q.turn, q.rooks, q.passing, q.checks, q.half, q.full⟩ := h.board h.pin.bl h.pin.b0 pr
theorem Kin.pockets (h : Kin p q) (i : Nat) {v : Int} (hv : 0 ≤ v ∧ v ≤ 255) : Kin p ⟨q.variant, q.board, q.promoted, q.pockets.set i v, q.turn, q.rooks, q.passing, q.checks, q.half, q.full⟩ :=
  ⟨⟨h.pin.v0, h.pin.v1, h.pin.bl, h.pin.b0, by rw [List.length_set]; exact h.pin.kl, set_in h.pin.k0 hv i, h.pin.t0, h.pin.t1, h.pin.rl, h.pin.r0, h.pin.p0, h.pin.p1, h.pin.cl, h.pin.c0, h.pin.h0, h.pin.f0⟩, h.v, h.t⟩
theorem Kin.rooks (h : Kin p q) {rk : List Int} (hl : rk.length = 4) (hr : ∀ x ∈ rk, -128 ≤ x ∧ x ≤ 127) : Kin p ⟨q.variant, q.board, q.promoted, q.pockets, q.turn, rk, q.passing, q.checks, q.half, q.full⟩ :=
  ⟨⟨h.pin.v0, h.pin.v1, h.pin.bl, h.pin.b0, h.pin.kl, h.pin.k0, h.pin.t0, h.pin.t1, hl, hr, h.pin.p0, h.pin.p1, h.pin.cl, h.pin.c0, h.pin.h0, h.pin.f0⟩, h.v, h.t⟩
theorem Kin.rook (h : Kin p q) (i : Nat) : Kin p ⟨q.variant, q.board, q.promoted, q.pockets, q.turn, q.rooks.set i (-1), q.passing, q.checks, q.half, q.full⟩ :=
  h.rooks (by rw [List.length_set]; exact h.pin.rl) (set_in h.pin.r0 (by omega) i)
theorem Kin.passing (h : Kin p q) {s : Int} (hs : -128 ≤ s ∧ s ≤ 127) : Kin p ⟨q.variant, q.board, q.promoted, q.pockets, q.turn, q.rooks, s, q.checks, q.half, q.full⟩ :=
  ⟨⟨h.pin.v0, h.pin.v1, h.pin.bl, h.pin.b0, h.pin.kl, h.pin.k0, h.pin.t0, h.pin.t1, h.pin.rl, h.pin.r0, hs.1, hs.2, h.pin.cl, h.pin.c0, h.pin.h0, h.pin.f0⟩, h.v, h.t⟩
theorem Kin.clocks (h : Kin p q) {a b : Int} (ha : -9223372036854775808 ≤ a ∧ a ≤ 9223372036854775807) (hb : -9223372036854775808 ≤ b ∧ b ≤ 9223372036854775807) : Kin p ⟨q.variant, q.board, q.promoted, q.pockets, q.turn, q.rooks, q.passing, q.checks, a, b⟩ :=
  ⟨⟨h.pin.v0, h.pin.v1, h.pin.bl, h.pin.b0, h.pin.kl, h.pin.k0, h.pin.t0, h.pin.t1, h.pin.rl, h.pin.r0, h.pin.p0, h.pin.p1, h.pin.cl, h.pin.c0, ha, hb⟩, h.v, h.t⟩
theorem N92_kin (h : Kin p q) (b c : Int) : Kin p (N92 q b c).1 := by
  unfold N92
  refine c_ind (P := fun x : Pos × Bool => Kin p x.1) (fun _ => h) fun _ => c_ind (P := fun x : Pos × Bool => Kin p x.1) (fun _ => h) fun _ => ?_
  exact h.pockets _ ⟨wr_u8_lo _, wr_u8_hi _⟩
theorem N95_kin (h : Kin p q) (b c : Int) : Kin p (N95 q b c) := by
  unfold N95
  refine c_ind (P := fun x : Pos => Kin p x) (fun _ => c_ind (P := fun x : Pos => Kin p x) (fun _ => ?_) fun _ => h) fun _ => h
  exact h.pockets _ ⟨wr_u8_lo _, wr_u8_hi _⟩
end
section
variable {p : Pos} (hp : PosIn p) (m : Mv)
include hp
theorem bd_in (i : Nat) : 0 ≤ p.board.getD i 0 ∧ p.board.getD i 0 ≤ 255 := getD_in hp.b0 (by omega) i
theorem vF1_kin (a : Pos) (b : Mv) (c : Int) : Kin p (vF17_1 a b p p m c) := by
  have h : Kin p p := ⟨hp, rfl, rfl⟩
  have z : (0 : Int) ≤ 0 ∧ (0 : Int) ≤ 255 := by omega
  have bi := bd_in hp
  unfold vF17_1
  refine c_ind (P := fun x : Pos => Kin p x) (fun _ => ((((h.set _ z).set _ z).set _ (bi _)).set _ (bi _))) fun _ => c_ind (P := fun x : Pos => Kin p x) (fun _ => (N92_kin h _ _).set _ (N93_in _ _)) fun _ => c_ind (P := fun x : Pos => Kin p x) (fun _ => c_ind (P := fun x : Pos => Kin p x) (fun _ => (((h.set _ z).set _ z).set _ (bi _)).set _ (N93_in _ _)) fun _ => ((h.set _ z).set _ z).set _ (bi _)) fun _ => c_ind (P := fun x : Pos => Kin p x) (fun _ => ((h.set _ z).set _ (bi _)).set _ (N93_in _ _)) fun _ => (h.set _ z).set _ (bi _)
omit hp in
theorem vF2_kin {q : Pos} (h : Kin p q) (a : Pos) (b : Mv) (c : Int) : Kin p (vF17_2 a b q p m c) := by
  unfold vF17_2
  repeat' (first | exact h | exact h.promoted _ | exact N95_kin h _ _ | exact (N95_kin h _ _).promoted _ | refine c_ind (P := fun x : Pos => Kin p x) (fun _ => ?_) (fun _ => ?_))
omit hp in
theorem lp17_3_kin (l : List Int) (hl : l.length ≤ 64) (hin : ∀ s ∈ l, 0 ≤ s ∧ s < 64) {q : Pos} (h : Kin p q) (a b : Pos) (c d : Mv) (e : Int) : ∃ r, lp17_3 l (Int.ofNat l.length) a c b d e (0, q) = some r ∧ Kin p r.2.2 := by
  refine lp_many (I := fun x => 0 ≤ x.1 ∧ x.1 ≤ (l.length : Int) ∧ Kin p x.2) (μ := fun x => ((l.length : Int) - x.1).toNat) ?_ _ ⟨by simp, by simp, h⟩ (by simp; omega)
  rintro ⟨n, o⟩ ⟨h0, h1, h2⟩
  simp only at h0 h1 h2
  by_cases hc : n < l.length
  · have hf := hin _ (getD_mem (d := default) (show n.toNat < l.length by omega))
    refine ⟨c_true (fun _ => a_true (by simp [h0]; omega) fun _ => a_true (ix64 hf.1 hf.2) fun _ => rfl) fun _ => rfl, c_ind (fun _ => ?_) fun h => absurd h (by simpa using hc)⟩
    rw [wi64 (n := n + 1) (by omega) (by omega)]
    exact ⟨⟨by simp; omega, by simp; omega, h2.set _ (by omega)⟩, by simp; omega⟩
  · exact ⟨c_true (fun h => absurd h (by simpa using hc)) fun _ => rfl, c_ind (fun h => absurd h (by simpa using hc)) fun _ => h2⟩
omit hp in
theorem vF4_kin {q : Pos} (h : Kin p q) (a : Pos) (b : Mv) (c : Int) : okF17_4 a b q p m c = true ∧ Kin p (vF17_4 a b q p m c) := by
  have hl := of_some (lp17_3_kin (p := p) (sqs (N97 q (wr .i64 m.to)) 64) (sqs_len _ _) (fun _ h => sqs_in h) h a p b m c)
  constructor
  · unfold okF17_4
    refine c_true (fun _ => rfl) fun _ => c_true (fun _ => rfl) fun _ => a_true (t97 _ _) fun _ => a_true (t96 _) fun _ => a_true ?_ fun _ => rfl
    rw [N96_eq]; exact hl.1
  · unfold vF17_4
    refine c_ind (P := fun x : Pos => Kin p x) (fun _ => h) fun _ => c_ind (P := fun x : Pos => Kin p x) (fun _ => h) fun _ => ?_
    rw [N96_eq]; exact hl.2
omit hp in
theorem lp17_6_kin {c k : Int} (hc0 : 0 ≤ c) (hc1 : c ≤ 1) (l : List Int) (hl : ∀ s ∈ l, -128 ≤ s ∧ s ≤ 127) {q : Pos} (h : Kin p q) (a b : Pos) (m1 m2 : Mv) (e : Int) : ∃ r, lp17_6 c k l a m1 b m2 e (0, q) = some r ∧ Kin p r.2.2 := by
  refine lp_many (I := fun x => 0 ≤ x.1 ∧ x.1 ≤ 2 ∧ Kin p x.2) (μ := fun x => (2 - x.1).toNat) ?_ _ ⟨by simp, by simp, h⟩ (by simp)
  rintro ⟨n, o⟩ ⟨h0, h1, h2⟩
  simp only at h0 h1 h2
  by_cases hc : n < 2
  · have hs := getD_in hl (d := 0) (by omega) n.toNat
    have go1 : Nxt (fun x : Int × Pos => 0 ≤ x.1 ∧ x.1 ≤ 2 ∧ Kin p x.2) (fun r : Int × Bool × Pos => Kin p r.2.2) (fun x => (2 - x.1).toNat) (2 - n).toNat (.go (wr .i64 (n + 1), o)) := by
      rw [wi64 (n := n + 1) (by omega) (by omega)]
      exact ⟨⟨by simp; omega, by simp; omega, h2⟩, by simp; omega⟩
    have go2 : ∀ i, Nxt (fun x : Int × Pos => 0 ≤ x.1 ∧ x.1 ≤ 2 ∧ Kin p x.2) (fun r : Int × Bool × Pos => Kin p r.2.2) (fun x => (2 - x.1).toNat) (2 - n).toNat (.go (wr .i64 (n + 1), ⟨o.variant, o.board, o.promoted, o.pockets, o.turn, o.rooks.set i (-1), o.passing, o.checks, o.half, o.full⟩)) := by
      intro i
      rw [wi64 (n := n + 1) (by omega) (by omega)]
      exact ⟨⟨by simp; omega, by simp; omega, h2.rook i⟩, by simp; omega⟩
    have w1 : wr .i64 c = c := wi64 (by omega) (by omega)
    have w2 : wr .i64 (56 * c) = 56 * c := wi64 (by omega) (by omega)
    have w3 : wr .i64 (l.getD n.toNat 0) = l.getD n.toNat 0 := wi64 (by omega) (by omega)
    have w4 : wr .i64 (56 * c + l.getD n.toNat 0) = 56 * c + l.getD n.toNat 0 := wi64 (by omega) (by omega)
    have k1 : (decide (0 ≤ c) && decide (c < Int.ofNat 2)) = true := by simp; omega
    have k2 : (decide (0 ≤ n) && decide (n < Int.ofNat 2)) = true := by simp; omega
    refine ⟨c_true (fun _ => a_true k2 fun _ => c_true (fun _ => rfl) fun g0 => c_true (fun _ => rfl) fun g1 => ?_) fun _ => rfl, c_ind (fun _ => ?_) fun h => absurd h (by simpa using hc)⟩
    · rw [w1, w2, w3, w4]
      have g0 : 0 ≤ l.getD n.toNat 0 := by simpa using g0
      have g1 : l.getD n.toNat 0 ≤ 7 := by simpa using g1
      have k3 : (decide (0 ≤ 56 * c + l.getD n.toNat 0) && decide (56 * c + l.getD n.toNat 0 < Int.ofNat 64)) = true := ix64 (by omega) (by omega)
      repeat' (first | with_reducible rfl | with_reducible exact k1 | with_reducible exact k2 | with_reducible exact k3 | refine a_true ?_ (fun _ => ?_) | refine c_true (fun _ => ?_) (fun _ => ?_))
    · repeat' (first | exact go1 | exact go2 _ | refine c_ind (fun _ => ?_) (fun _ => ?_))
  · exact ⟨c_true (fun h => absurd h (by simpa using hc)) fun _ => rfl, c_ind (fun h => absurd h (by simpa using hc)) fun _ => h2⟩
omit hp in
theorem lp17_7_kin {q : Pos} (h : Kin p q) (a b : Pos) (m1 m2 : Mv) (e : Int) : ∃ r, lp17_7 a m1 b m2 e (0, q) = some r ∧ Kin p r.2.2 := by
  refine lp_many (I := fun x => 0 ≤ x.1 ∧ x.1 ≤ 2 ∧ Kin p x.2) (μ := fun x => (2 - x.1).toNat) ?_ _ ⟨by simp, by simp, h⟩ (by simp)
  rintro ⟨n, o⟩ ⟨h0, h1, h2⟩
  simp only at h0 h1 h2
  by_cases hc : n ≤ 1
  · have hr : ∀ s ∈ List.take 2 (List.drop (scale 2 n).toNat o.rooks), -128 ≤ s ∧ s ≤ 127 := fun s hs => h2.pin.r0 s (List.mem_of_mem_drop (List.mem_of_mem_take hs))
    have hl := of_some (lp17_6_kin (p := p) (k := N99 o n 6) h0 hc _ hr h2 a b m1 m2 e)
    refine ⟨c_true (fun _ => a_true (t99 _ _ _) fun _ => a_true (by simp; omega) fun _ => a_true hl.1 fun _ => rfl) fun _ => rfl, c_ind (fun _ => ?_) fun h => absurd h (by simpa using hc)⟩
    rw [wu8 (n := n + 1) (by omega) (by omega)]
    exact ⟨⟨by simp; omega, by simp; omega, hl.2⟩, by simp; omega⟩
  · exact ⟨c_true (fun h => absurd h (by simpa using hc)) fun _ => rfl, c_ind (fun h => absurd h (by simpa using hc)) fun _ => h2⟩
theorem vF8_kin (ht : p.turn ≤ 1) {q : Pos} (h : Kin p q) (hm : m.drp = 0 → 0 ≤ m.frm ∧ m.frm < 64) (a : Pos) (b : Mv) (c : Int) : okF17_8 a b q p m c = true ∧ Kin p (vF17_8 a b q p m c) := by
  have t0 := hp.t0
  have h2 : Kin p ⟨q.variant, q.board, q.promoted, q.pockets, q.turn, List.take (scale 2 q.turn).toNat q.rooks ++ li [-1, -1] ++ List.drop ((scale 2 q.turn).toNat + 2) q.rooks, q.passing, q.checks, q.half, q.full⟩ := by
    refine h.rooks ?_ ?_
    · have hr := h.pin.rl
      have : (scale 2 q.turn).toNat ≤ 2 := by rw [h.t]; unfold scale; simp; omega
      simp [li, hr]
      omega
    · intro x hx
      simp only [List.mem_append, li] at hx
      rcases hx with (hx | hx) | hx
      · exact h.pin.r0 x (List.mem_of_mem_take hx)
      · simp at hx; omega
      · exact h.pin.r0 x (List.mem_of_mem_drop hx)
  have a1 := of_some (lp17_7_kin h a p b m c)
  have a2 := of_some (lp17_7_kin h2 a p b m c)
  have k1 : (decide (0 ≤ q.turn) && decide (q.turn < Int.ofNat 2)) = true := by rw [h.t]; simp; omega
  constructor
  · unfold okF17_8
    refine c_true (fun _ => ?_) fun hd => a_true ?_ fun _ => ?_
    · repeat' (first | with_reducible rfl | with_reducible exact k1 | with_reducible exact a1.1 | with_reducible exact a2.1 | refine a_true ?_ (fun _ => ?_) | refine c_true (fun _ => ?_) (fun _ => ?_))
    · have := hm (by simpa using hd)
      simp; omega
    · repeat' (first | with_reducible rfl | with_reducible exact k1 | with_reducible exact a1.1 | with_reducible exact a2.1 | refine a_true ?_ (fun _ => ?_) | refine c_true (fun _ => ?_) (fun _ => ?_))
  · unfold vF17_8
    repeat' (first | exact a1.2 | exact a2.2 | refine c_ind (P := fun x : Pos => Kin p x) (fun _ => ?_) (fun _ => ?_))
omit hp in
theorem vF9_kin {q : Pos} (h : Kin p q) (hm : m.drp = 0 → 0 ≤ m.frm ∧ m.frm < 64) (a : Pos) (b : Mv) (c : Int) : okF17_9 a b q p m c = true ∧ Kin p (vF17_9 a b q p m c) := by
  constructor
  · unfold okF17_9
    refine c_true (fun _ => ?_) fun hd => a_true ?_ fun _ => ?_
    · repeat' (first | with_reducible rfl | with_reducible exact t100 _ _ | with_reducible exact t101 _ _ _ | refine a_true ?_ (fun _ => ?_) | refine c_true (fun _ => ?_) (fun _ => ?_))
    · have := hm (by simpa using hd)
      simp; omega
    · repeat' (first | with_reducible rfl | with_reducible exact t100 _ _ | with_reducible exact t101 _ _ _ | refine a_true ?_ (fun _ => ?_) | refine c_true (fun _ => ?_) (fun _ => ?_))
  · have n1 : (-128 : Int) ≤ -1 ∧ (-1 : Int) ≤ 127 := by omega
    unfold vF17_9
    repeat' (first | exact h.passing n1 | exact h.passing (wr_i8_b _) | refine c_ind (P := fun x : Pos => Kin p x) (fun _ => ?_) (fun _ => ?_))
omit hp in
theorem vF910_kin {q : Pos} (h : Kin p q) (hm : m.drp = 0 → 0 ≤ m.frm ∧ m.frm < 64) (a : Pos) (b : Mv) (c : Int) : okF17_10 a b q p m c = true ∧ Kin p (vF17_10 a b q p m c) := by
  constructor
  · unfold okF17_10
    refine c_true (fun _ => rfl) fun hd => a_true ?_ fun _ => rfl
    have := hm (by simpa using hd)
    simp; omega
  · have z : (-9223372036854775808 : Int) ≤ 0 ∧ (0 : Int) ≤ 9223372036854775807 := by omega
    have f1 := h.pin.f0
    have f2 := N102_in h.pin.f0
    have f3 := N102_in h.pin.h0
    unfold vF17_10
    repeat' (first | exact h.clocks z f1 | exact h.clocks z f2 | exact h.clocks f3 f1 | exact h.clocks f3 f2 | refine c_ind (P := fun x : Pos => Kin p x) (fun _ => ?_) (fun _ => ?_))
theorem vF4_in (ht : p.turn ≤ 1) {q : Pos} (h : Kin p q) (a : Pos) (b : Mv) (c : Int) : okF17_11 a b q p m c = true ∧ PosIn (vF17_11 a b q p m c) ∧ (vF17_11 a b q p m c).variant = p.variant ∧ (vF17_11 a b q p m c).turn = 1 - p.turn := by
  have t0 := hp.t0
  have w1 : wr .u8 (1 - p.turn) = 1 - p.turn := wu8 (by omega) (by omega)
  have w2 : wr .u8 (1 - (1 - p.turn)) = p.turn := by rw [wu8 (by omega) (by omega)]; omega
  have k1 : (decide (0 ≤ p.turn) && decide (p.turn < Int.ofNat 2)) = true := by simp; omega
  have hq : PosIn ⟨q.variant, q.board, q.promoted, q.pockets, 1 - p.turn, q.rooks, q.passing, q.checks, q.half, q.full⟩ :=
    ⟨h.pin.v0, h.pin.v1, h.pin.bl, h.pin.b0, h.pin.kl, h.pin.k0, by show 0 ≤ 1 - p.turn; omega, by show 1 - p.turn ≤ 255; omega, h.pin.rl, h.pin.r0, h.pin.p0, h.pin.p1, h.pin.cl, h.pin.c0, h.pin.h0, h.pin.f0⟩
  constructor
  · unfold okF17_11
    rw [h.t, w1, w2]
    refine c_true (fun _ => a_true k1 fun _ => c_true (fun _ => a_true (t103 h.pin.v0 (by omega)) fun _ => c_true (fun _ => a_true k1 fun _ => a_true k1 fun _ => rfl) fun _ => rfl) fun _ => rfl) fun _ => rfl
  · unfold vF17_11
    rw [h.t, w1, w2]
    have base : PosIn ⟨q.variant, q.board, q.promoted, q.pockets, 1 - p.turn, q.rooks, q.passing, q.checks, q.half, q.full⟩ ∧ q.variant = p.variant ∧ (1 - p.turn = 1 - p.turn) := ⟨hq, h.v, rfl⟩
    refine c_ind (P := fun x : Pos => PosIn x ∧ x.variant = p.variant ∧ x.turn = 1 - p.turn) (fun _ => c_ind (P := fun x : Pos => PosIn x ∧ x.variant = p.variant ∧ x.turn = 1 - p.turn) (fun _ => c_ind (P := fun x : Pos => PosIn x ∧ x.variant = p.variant ∧ x.turn = 1 - p.turn) (fun _ => ?_) fun _ => base) fun _ => base) fun _ => base
    exact ⟨⟨hq.v0, hq.v1, hq.bl, hq.b0, hq.kl, hq.k0, hq.t0, hq.t1, hq.rl, hq.r0, hq.p0, hq.p1, by rw [List.length_set]; exact hq.cl, set_in hq.c0 ⟨wr_u8_lo _, wr_u8_hi _⟩ _, hq.h0, hq.f0⟩, h.v, rfl⟩
end
theorem N38_mem {p : Pos} (hp : PosIn p) {m : Mv} (h : m ∈ N38 p) : there p ∧ 0 ≤ m.frm ∧ m.frm < 64 ∧ 0 ≤ m.to ∧ m.to < 64 ∧ 0 ≤ m.drp ∧ m.drp ≤ 5 ∧ 0 ≤ m.pro ∧ m.pro ≤ 6 := by
  rw [N38_eq] at h
  have n110 : ∀ v : Int, 9 ≤ v → N110 v = false := fun v hv => by
    unfold N110
    rw [show decide (v ≥ 9) = true by simpa using hv]; rfl
  have n113 : ∀ v : Int, 9 ≤ v → N142 v = false := fun v hv => by
    unfold N142
    rw [show decide (v ≥ 9) = true by simpa using hv]; rfl
  simp only [List.mem_append] at h
  rcases h with (h | h) | h
  · obtain ⟨th, f, t, h1, h2, h3, h4, h5, h6, h7, h8, _⟩ := N85_mem hp.v0 h
    exact ⟨th, by omega, by omega, by omega, by omega, by omega, by omega, h7, h8⟩
  · obtain ⟨h1, h2, h3, h4, h5, h6, h7, h8⟩ := N86_mem hp h
    refine ⟨⟨h1, ?_⟩, h2, h3, h4, h5, by omega, by omega, by omega, by omega⟩
    refine Classical.byContradiction fun hv => ?_
    unfold N86 at h
    rw [n110 _ (by omega)] at h
    rw [show decide (p.turn > 1) = false by simp; omega] at h
    cases h
  · obtain ⟨h1, h2, h3, h4, h5, h6, h7, h8, h9⟩ := N87_mem hp.t0 h
    refine ⟨⟨h1, ?_⟩, by omega, by omega, h4, h5, by omega, h8, by omega, by omega⟩
    refine Classical.byContradiction fun hv => ?_
    rw [n113 _ (by omega)] at h2
    cases h2
theorem move_all {p : Pos} (hp : PosIn p) (m : Mv) : ok17 p m = true ∧ (m ∈ N38 p → (N17 p m).2 = true ∧ PosIn (N17 p m).1 ∧ (N17 p m).1.variant = p.variant ∧ (N17 p m).1.turn = 1 - p.turn) ∧ (m ∉ N38 p → N17 p m = (p, false)) := by
  have hlen := N38_len hp
  have hc : N37 (N38 p) m = decide (m ∈ N38 p) := N37_eq (by omega)
  by_cases hm : m ∈ N38 p
  · obtain ⟨th, f0, f1, g0, g1, d0, d1, r0, r1⟩ := N38_mem hp hm
    have hmf : m.drp = 0 → 0 ≤ m.frm ∧ m.frm < 64 := fun _ => ⟨f0, f1⟩
    have hn := N39_in hp m
    have h1 := vF1_kin hp m p m (N39 p m)
    have h2 := vF2_kin m h1 p m (N39 p m)
    have h4 := vF4_kin m h2 p m (N39 p m)
    have h8 := vF8_kin hp m th.1 h4.2 hmf p m (N39 p m)
    have h9 := vF9_kin m h8.2 hmf p m (N39 p m)
    have h10 := vF910_kin m h9.2 hmf p m (N39 p m)
    have h11 := vF4_in hp m th.1 h10.2 p m (N39 p m)
    have kf : (decide (0 ≤ m.frm) && decide (m.frm < Int.ofNat 64)) = true := by simp; omega
    have kt : (decide (0 ≤ m.to) && decide (m.to < Int.ofNat 64)) = true := by simp; omega
    have kn : N39 p m ≥ 0 → (decide (0 ≤ N39 p m) && decide (N39 p m < Int.ofNat 64)) = true := fun h => by simp; omega
    have hg := N91_in hp.t0 th.1 m
    have ok1 : okF17_1 p m p p m (N39 p m) = true := by
      unfold okF17_1
      have kg1 : (decide (0 ≤ (N91 p m).1) && decide ((N91 p m).1 < Int.ofNat 64)) = true := by simp; omega
      have kg2 : (decide (0 ≤ (N91 p m).2.1) && decide ((N91 p m).2.1 < Int.ofNat 64)) = true := by simp; omega
      refine c_true (fun _ => ?_) fun _ => c_true (fun _ => ?_) fun _ => c_true (fun hh => ?_) fun _ => ?_
      · repeat' (first | with_reducible rfl | with_reducible exact t91 _ _ | with_reducible exact kf | with_reducible exact kt | with_reducible exact kg1 | with_reducible exact kg2 | refine a_true ?_ (fun _ => ?_))
      · refine a_true (t92 hp.t0 d0) fun _ => a_true kt fun _ => rfl
      · have hh : N39 p m ≥ 0 := by simpa using hh
        have kn := kn hh
        repeat' (first | with_reducible rfl | with_reducible exact kn | with_reducible exact kf | with_reducible exact kt | refine a_true ?_ (fun _ => ?_) | refine c_true (fun _ => ?_) (fun _ => ?_))
      · repeat' (first | with_reducible rfl | with_reducible exact kf | with_reducible exact kt | refine a_true ?_ (fun _ => ?_) | refine c_true (fun _ => ?_) (fun _ => ?_))
    have ok2 : okF17_2 p m (vF17_1 p m p p m (N39 p m)) p m (N39 p m) = true := by
      have e : 0 ≤ (vF17_1 p m p p m (N39 p m)).turn := h1.pin.t0
      have bi := fun i => (bd_in hp i).1
      unfold okF17_2
      refine c_true (fun _ => rfl) fun _ => c_true (fun _ => rfl) fun _ => c_true (fun _ => a_true (t91 _ _) fun _ => rfl) fun _ => c_true (fun hh => ?_) fun _ => rfl
      have hh : N39 p m ≥ 0 := by simpa using hh
      have kn := kn hh
      repeat' (first | with_reducible rfl | with_reducible exact kn | with_reducible exact t95 e (by decide) | with_reducible exact t95 e (N89_in (bi _)) | refine a_true ?_ (fun _ => ?_) | refine c_true (fun _ => ?_) (fun _ => ?_))
    refine ⟨?_, fun _ => ?_, fun h => absurd hm h⟩
    · unfold ok17
      exact a_true (t38 hp) fun _ => a_true (t37 (by omega)) fun _ => c_true (fun _ => rfl) fun _ => a_true (t39 hp.v0 m) fun _ => a_true ok1 fun _ => a_true ok2 fun _ => a_true h4.1 fun _ => a_true h8.1 fun _ => a_true h9.1 fun _ => a_true h10.1 fun _ => a_true h11.1 fun _ => rfl
    · unfold N17
      rw [hc]
      simp only [hm, decide_true, Bool.not_true, cond_false]
      exact ⟨trivial, h11.2⟩
  · refine ⟨?_, fun h => absurd h hm, fun _ => ?_⟩
    · unfold ok17
      refine a_true (t38 hp) fun _ => a_true (t37 (by omega)) fun _ => c_true (fun _ => rfl) fun h => ?_
      rw [hc] at h
      simp [hm] at h
    · unfold N17
      rw [hc]
      simp [hm]
end Kz
end
section
namespace Kz
open Go Go.RowKit Go.Proofs
set_option maxRecDepth 100000
set_option maxHeartbeats 4000000
noncomputable def K60 : List (Nat × List (Nat × List Nat)) := []
noncomputable def B60 : Base := baseOf Pz (fun f i => lkK f i K60) [] [] []
theorem hB60 : BOk B60 := base_ok named_z trivial trivial trivial
noncomputable def V57 : AV := AV.agg [AV.nilfunc, AV.nilfunc, AV.nilfunc, AV.func 123 [] [], AV.func 127 [] [], AV.func 124 [] [], AV.func 125 [] [], AV.func 126 [] [], AV.func 128 [] []]
noncomputable def ok60 : Bool := true
theorem E60 : evPure B60 14 60 [] = Tr.ret V57 := by kernel_rfl
theorem P60 (_ : ok60 = true) : PS Pz 60 [] V57 := evPure_ok hB60 (by rw [E60]; rfl)
noncomputable def G60 : List AV → Tr AV := g0 (sure Pz 60 [] V57)
theorem s60 : Sound Pz 60 G60 := sound0 at_sure
end Kz
end
section
namespace Kz
open Go Go.RowKit Go.Proofs
set_option maxRecDepth 100000
set_option maxHeartbeats 4000000
noncomputable def K62 : List (Nat × List (Nat × List Nat)) := [(62, [(0, (0 :: (rn 3 6 []))), (1, (rn 0 4 (rn 5 4 [])))])]
noncomputable def B62 : Base := baseOf Pz (fun f i => lkK f i K62) [(99, G99)] [] []
theorem hB62 : BOk B62 := base_ok named_z ⟨s99, trivial⟩ trivial trivial
noncomputable def N62 (a : Pos) (b : Int) : Bool := (decide (N99 a b 6 ≥ 0))
noncomputable def ok62 (a : Pos) (b : Int) : Bool := (ok99 (a) (b) (6) && true)
theorem E62 (a : Pos) (b : Int) : evPure B62 14 62 [Pos.av a, .int .u8 b] = Tr.br (isPS Pz 99 [a.av, AV.int .u8 b, AV.int .u8 6] ((dI .i64).res (N99 a b 6))) (Tr.ret (AV.bool (decide (N99 a b 6 ≥ 0)))) Tr.fail := by kernel_rfl
theorem P62 (a : Pos) (b : Int) (h : ok62 a b = true) : PS Pz 62 [Pos.av a, .int .u8 b] (dB.res (N62 a b)) := ps_gotR hB62 (E62 a b) (gr_call (P99 (a) (b) (6)) (gr_ret rfl)) h
noncomputable def G62 : List AV → Tr AV := g2 dPos (dI .u8) (fun a b => sure Pz 62 [Pos.av a, .int .u8 b] (dB.res (N62 a b)))
theorem s62 : Sound Pz 62 G62 := sound2 (fun _ _ => at_sure)
end Kz
end
section
namespace Kz
open Go Go.RowKit Go.Proofs
set_option maxRecDepth 100000
set_option maxHeartbeats 4000000
noncomputable def K166 : List (Nat × List (Nat × List Nat)) := [(166, [(0, (2 :: 3 :: (rn 5 4 []))), (1, (rn 0 4 (rn 5 4 [])))])]
noncomputable def B166 : Base := baseOf Pz (fun f i => lkK f i K166) [] [] []
theorem hB166 : BOk B166 := base_ok named_z trivial trivial trivial
noncomputable def N166 (a : Int) (b : Int) : (Int × Int) := ⟨(wr .u8 (1 + a)), (b)⟩
noncomputable def ok166 (a : Int) (b : Int) : Bool := true
theorem E166 (a : Int) (b : Int) : evPure B166 14 166 [.int .u8 a, .int .u8 b] = Tr.ret (AV.agg [AV.int .u8 (wr .u8 (1 + a)), AV.int .u8 b]) := by kernel_rfl
theorem P166 (a : Int) (b : Int) (h : ok166 a b = true) : PS Pz 166 [.int .u8 a, .int .u8 b] ((dR .u8 .u8).res (N166 a b)) := ps_gotR hB166 (E166 a b) (gr_ret rfl) h
noncomputable def G166 : List AV → Tr AV := g2 (dI .u8) (dI .u8) (fun a b => sure Pz 166 [.int .u8 a, .int .u8 b] ((dR .u8 .u8).res (N166 a b)))
theorem s166 : Sound Pz 166 G166 := sound2 (fun _ _ => at_sure)
end Kz
end
section
namespace Kz
open Go Go.RowKit Go.Proofs
set_option maxRecDepth 100000
set_option maxHeartbeats 4000000
noncomputable def K123 : List (Nat × List (Nat × List Nat)) := [(123, [(0, (0 :: (rn 3 10 []))), (1, (0 :: (rn 3 4 (rn 8 5 [])))), (2, (0 :: 1 :: (rn 3 10 []))), (3, (0 :: 1 :: (rn 3 10 [])))])]
noncomputable def B123 : Base := baseOf Pz (fun f i => lkK f i K123) [(62, G62), (166, G166)] [] []
theorem hB123 : BOk B123 := base_ok named_z ⟨s62, s166, trivial⟩ trivial trivial
noncomputable def N123 (a : Pos) : (Int × Int) := (bif !N62 a a.turn then ⟨((N166 (wr .u8 (1 - a.turn)) 6).fst), ((N166 (wr .u8 (1 - a.turn)) 6).snd)⟩ else ⟨(0), (0)⟩)
noncomputable def ok123 (a : Pos) : Bool := (ok62 (a) (a.turn) && true)
theorem E123 (a : Pos) : evPure B123 14 123 [Pos.av a] = Tr.br (isPS Pz 62 [a.av, AV.int .u8 a.turn] (dB.res (N62 a a.turn))) (Tr.br (!N62 a a.turn) (Tr.br (isPS Pz 166 [AV.int .u8 (wr .u8 (1 - a.turn)), AV.int .u8 6] ((dR .u8 .u8).res (N166 (wr .u8 (1 - a.turn)) 6))) (Tr.ret (AV.agg [AV.int .u8 (N166 (wr .u8 (1 - a.turn)) 6).fst, AV.int .u8 (N166 (wr .u8 (1 - a.turn)) 6).snd])) Tr.fail) (Tr.ret (AV.agg [AV.cint .u8 0, AV.cint .u8 0]))) Tr.fail := by kernel_rfl
theorem P123 (a : Pos) (h : ok123 a = true) : PS Pz 123 [Pos.av a] ((dR .u8 .u8).res (N123 a)) := ps_gotR hB123 (E123 a) (gr_call (P62 (a) (a.turn)) (gr_br2 (gr_callT (P166 (wr .u8 (1 - a.turn)) (6) rfl) (gr_ret rfl)) (gr_ret rfl))) h
noncomputable def G123 : List AV → Tr AV := g1 dPos (fun a => sure Pz 123 [Pos.av a] ((dR .u8 .u8).res (N123 a)))
theorem s123 : Sound Pz 123 G123 := sound1 (fun _ => at_sure)
end Kz
end
section
namespace Kz
open Go Go.RowKit Go.Proofs
set_option maxRecDepth 100000
set_option maxHeartbeats 4000000
noncomputable def K124 : List (Nat × List (Nat × List Nat)) := [(124, [(0, [0, 3, 4, 5]), (1, [0, 1, 3, 4, 5])]), (167, [(0, (0 :: 4 :: 5 :: (rn 7 21 []))), (1, (0 :: 3 :: 4 :: 5 :: (rn 7 7 (rn 17 11 [])))), (2, (0 :: 3 :: 4 :: 5 :: (rn 7 7 (rn 18 10 [])))), (3, (0 :: 3 :: 4 :: 5 :: 7 :: (rn 9 5 (rn 17 11 [])))), (4, (0 :: 3 :: 4 :: 5 :: 7 :: (rn 9 5 (rn 17 5 (rn 23 5 []))))), (5, (rn 0 6 (rn 7 21 []))), (6, (0 :: 3 :: 4 :: 5 :: (rn 7 7 (rn 17 11 [])))), (7, (rn 0 6 (rn 7 21 [])))]), (168, [(0, (rn 2 7 [])), (1, (0 :: 1 :: 2 :: (rn 4 5 [])))])]
noncomputable def B124 : Base := baseOf Pz (fun f i => lkK f i K124) [(166, G166)] [] []
theorem hB124 : BOk B124 := base_ok named_z ⟨s166, trivial⟩ trivial trivial
noncomputable def N124 (a : Pos) : (Int × Int) := (bif decide (a.checks.getD (scale 1 (wr .u8 (1 - a.turn))).toNat 0 ≥ 3) then ⟨((N166 (wr .u8 (1 - a.turn)) 7).fst), ((N166 (wr .u8 (1 - a.turn)) 7).snd)⟩ else (bif decide (a.checks.getD (scale 1 a.turn).toNat 0 ≥ 3) then ⟨((N166 a.turn 7).fst), ((N166 a.turn 7).snd)⟩ else ⟨(0), (0)⟩))
noncomputable def ok124 (a : Pos) : Bool := (decide (0 ≤ wr .u8 (1 - a.turn)) && decide (wr .u8 (1 - a.turn) < ↑2) && (bif decide (a.checks.getD (scale 1 (wr .u8 (1 - a.turn))).toNat 0 ≥ 3) then true else (decide (0 ≤ a.turn) && decide (a.turn < ↑2) && true)))
theorem E124 (a : Pos) : evPure B124 14 124 [Pos.av a] = Tr.br (decide (0 ≤ wr .u8 (1 - a.turn)) && decide (wr .u8 (1 - a.turn) < ↑2)) (Tr.br (decide (a.checks.getD (scale 1 (wr .u8 (1 - a.turn))).toNat 0 ≥ 3)) (Tr.br (isPS Pz 166 [AV.int .u8 (wr .u8 (1 - a.turn)), AV.int .u8 7] ((dR .u8 .u8).res (N166 (wr .u8 (1 - a.turn)) 7))) (Tr.ret (AV.agg [AV.int .u8 (N166 (wr .u8 (1 - a.turn)) 7).fst, AV.int .u8 (N166 (wr .u8 (1 - a.turn)) 7).snd])) Tr.fail) (Tr.br (decide (0 ≤ a.turn) && decide (a.turn < ↑2)) (Tr.br (decide (a.checks.getD (scale 1 a.turn).toNat 0 ≥ 3)) (Tr.br (isPS Pz 166 [AV.int .u8 a.turn, AV.int .u8 7] ((dR .u8 .u8).res (N166 a.turn 7))) (Tr.ret (AV.agg [AV.int .u8 (N166 a.turn 7).fst, AV.int .u8 (N166 a.turn 7).snd])) Tr.fail) (Tr.ret (AV.agg [AV.cint .u8 0, AV.cint .u8 0]))) Tr.fail)) Tr.fail := by kernel_rfl
theorem P124 (a : Pos) (h : ok124 a = true) : PS Pz 124 [Pos.av a] ((dR .u8 .u8).res (N124 a)) := ps_gotR hB124 (E124 a) (gr_guard (gr_br (gr_callT (P166 (wr .u8 (1 - a.turn)) (7) rfl) (gr_ret rfl)) (gr_guard (gr_br2 (gr_callT (P166 (a.turn) (7) rfl) (gr_ret rfl)) (gr_ret rfl))))) h
noncomputable def G124 : List AV → Tr AV := g1 dPos (fun a => sure Pz 124 [Pos.av a] ((dR .u8 .u8).res (N124 a)))
theorem s124 : Sound Pz 124 G124 := sound1 (fun _ => at_sure)
end Kz
end
section
namespace Kz
open Go Go.RowKit Go.Proofs
set_option maxRecDepth 100000
set_option maxHeartbeats 4000000
noncomputable def K125 : List (Nat × List (Nat × List Nat)) := [(125, [(0, [0, 3, 4, 5]), (1, [0, 1, 3, 4, 5])]), (167, [(0, (0 :: 4 :: 5 :: (rn 7 21 []))), (1, (0 :: 3 :: 4 :: 5 :: (rn 7 7 (rn 17 11 [])))), (2, (0 :: 3 :: 4 :: 5 :: (rn 7 7 (rn 18 10 [])))), (3, (0 :: 3 :: 4 :: 5 :: 7 :: (rn 9 5 (rn 17 11 [])))), (4, (0 :: 3 :: 4 :: 5 :: 7 :: (rn 9 5 (rn 17 5 (rn 23 5 []))))), (5, (rn 0 6 (rn 7 21 []))), (6, (0 :: 3 :: 4 :: 5 :: (rn 7 7 (rn 17 11 [])))), (7, (rn 0 6 (rn 7 21 [])))]), (169, [(0, (rn 2 9 [16])), (1, (rn 0 4 (rn 5 6 [16]))), (2, (0 :: 1 :: 2 :: (rn 4 13 [])))])]
noncomputable def B125 : Base := baseOf Pz (fun f i => lkK f i K125) [(99, G99), (166, G166)] [] []
theorem hB125 : BOk B125 := base_ok named_z ⟨s99, s166, trivial⟩ trivial trivial
noncomputable def N125 (a : Pos) : (Int × Int) := (bif decide (N99 a (wr .u8 (1 - a.turn)) 6 ≥ 0) then (bif ibits BinOp.and .i64 (Int.fdiv 103481868288 (2 ^ min (BitVec.ofInt 64 (N99 a (wr .u8 (1 - a.turn)) 6)).toNat 64)) 1 == 1 then ⟨((N166 (wr .u8 (1 - a.turn)) 6).fst), ((N166 (wr .u8 (1 - a.turn)) 6).snd)⟩ else (bif decide (N99 a a.turn 6 ≥ 0) then (bif ibits BinOp.and .i64 (Int.fdiv 103481868288 (2 ^ min (BitVec.ofInt 64 (N99 a a.turn 6)).toNat 64)) 1 == 1 then ⟨((N166 a.turn 6).fst), ((N166 a.turn 6).snd)⟩ else ⟨(0), (0)⟩) else ⟨(0), (0)⟩)) else (bif decide (N99 a a.turn 6 ≥ 0) then (bif ibits BinOp.and .i64 (Int.fdiv 103481868288 (2 ^ min (BitVec.ofInt 64 (N99 a a.turn 6)).toNat 64)) 1 == 1 then ⟨((N166 a.turn 6).fst), ((N166 a.turn 6).snd)⟩ else ⟨(0), (0)⟩) else ⟨(0), (0)⟩))
noncomputable def ok125 (a : Pos) : Bool := (ok99 (a) (wr .u8 (1 - a.turn)) (6) && (bif decide (N99 a (wr .u8 (1 - a.turn)) 6 ≥ 0) then (bif ibits BinOp.and .i64 (Int.fdiv 103481868288 (2 ^ min (BitVec.ofInt 64 (N99 a (wr .u8 (1 - a.turn)) 6)).toNat 64)) 1 == 1 then true else (ok99 (a) (a.turn) (6) && true)) else (ok99 (a) (a.turn) (6) && true)))
theorem E125 (a : Pos) : evPure B125 14 125 [Pos.av a] = (let z1 := (Tr.br (isPS Pz 99 [a.av, AV.int .u8 a.turn, AV.int .u8 6] ((dI .i64).res (N99 a a.turn 6))) (Tr.br (decide (N99 a a.turn 6 ≥ 0)) (Tr.br (ibits BinOp.and .i64 (Int.fdiv 103481868288 (2 ^ min (BitVec.ofInt 64 (N99 a a.turn 6)).toNat 64)) 1 == 1) (Tr.br (isPS Pz 166 [AV.int .u8 a.turn, AV.int .u8 6] ((dR .u8 .u8).res (N166 a.turn 6))) (Tr.ret (AV.agg [AV.int .u8 (N166 a.turn 6).fst, AV.int .u8 (N166 a.turn 6).snd])) Tr.fail) (Tr.ret (AV.agg [AV.cint .u8 0, AV.cint .u8 0]))) (Tr.ret (AV.agg [AV.cint .u8 0, AV.cint .u8 0]))) Tr.fail); let z2 := (wr .u8 (1 - a.turn)); Tr.br (isPS Pz 99 [a.av, AV.int .u8 z2, AV.int .u8 6] ((dI .i64).res (N99 a z2 6))) (Tr.br (decide (N99 a z2 6 ≥ 0)) (Tr.br (ibits BinOp.and .i64 (Int.fdiv 103481868288 (2 ^ min (BitVec.ofInt 64 (N99 a z2 6)).toNat 64)) 1 == 1) (Tr.br (isPS Pz 166 [AV.int .u8 z2, AV.int .u8 6] ((dR .u8 .u8).res (N166 z2 6))) (Tr.ret (AV.agg [AV.int .u8 (N166 z2 6).fst, AV.int .u8 (N166 z2 6).snd])) Tr.fail) z1) z1) Tr.fail) := by kernel_rfl
theorem P125 (a : Pos) (h : ok125 a = true) : PS Pz 125 [Pos.av a] ((dR .u8 .u8).res (N125 a)) := ps_gotR hB125 (E125 a) (gr_call (P99 (a) (wr .u8 (1 - a.turn)) (6)) (gr_br (gr_br (gr_callT (P166 (wr .u8 (1 - a.turn)) (6) rfl) (gr_ret rfl)) (gr_call (P99 (a) (a.turn) (6)) (gr_br2 (gr_br2 (gr_callT (P166 (a.turn) (6) rfl) (gr_ret rfl)) (gr_ret rfl)) (gr_ret rfl)))) (gr_call (P99 (a) (a.turn) (6)) (gr_br2 (gr_br2 (gr_callT (P166 (a.turn) (6) rfl) (gr_ret rfl)) (gr_ret rfl)) (gr_ret rfl))))) h
noncomputable def G125 : List AV → Tr AV := g1 dPos (fun a => sure Pz 125 [Pos.av a] ((dR .u8 .u8).res (N125 a)))
theorem s125 : Sound Pz 125 G125 := sound1 (fun _ => at_sure)
end Kz
end
section
namespace Kz
open Go Go.RowKit Go.Proofs
set_option maxRecDepth 100000
set_option maxHeartbeats 4000000
noncomputable def K126 : List (Nat × List (Nat × List Nat)) := [(126, [(0, (0 :: (rn 3 5 []))), (1, [0, 1, 3, 4, 6, 7]), (2, (0 :: 1 :: (rn 3 5 []))), (3, (0 :: 1 :: (rn 3 5 [])))])]
noncomputable def B126 : Base := baseOf Pz (fun f i => lkK f i K126) [(101, G101), (166, G166)] [] []
theorem hB126 : BOk B126 := base_ok named_z ⟨s101, s166, trivial⟩ trivial trivial
noncomputable def N126 (a : Pos) : (Int × Int) := (bif N101 (Pos.mk a.variant a.board a.promoted a.pockets a.turn a.rooks a.passing a.checks a.half a.full) 0 0 == 0#64 then ⟨((N166 1 8).fst), ((N166 1 8).snd)⟩ else ⟨(0), (0)⟩)
noncomputable def ok126 (a : Pos) : Bool := (ok101 (Pos.mk a.variant a.board a.promoted a.pockets a.turn a.rooks a.passing a.checks a.half a.full) (0) (0) && true)
theorem E126 (a : Pos) : evPure B126 14 126 [Pos.av a] = Tr.br (isPS Pz 101 [(Pos.mk a.variant a.board a.promoted a.pockets a.turn a.rooks a.passing a.checks a.half a.full).av, AV.int .u8 0, AV.int .u8 0] (dU.res (N101 (Pos.mk a.variant a.board a.promoted a.pockets a.turn a.rooks a.passing a.checks a.half a.full) 0 0))) (Tr.br (N101 (Pos.mk a.variant a.board a.promoted a.pockets a.turn a.rooks a.passing a.checks a.half a.full) 0 0 == 0#64) (Tr.br (isPS Pz 166 [AV.int .u8 1, AV.int .u8 8] ((dR .u8 .u8).res (N166 1 8))) (Tr.ret (AV.agg [AV.int .u8 (N166 1 8).fst, AV.int .u8 (N166 1 8).snd])) Tr.fail) (Tr.ret (AV.agg [AV.cint .u8 0, AV.cint .u8 0]))) Tr.fail := by kernel_rfl
theorem P126 (a : Pos) (h : ok126 a = true) : PS Pz 126 [Pos.av a] ((dR .u8 .u8).res (N126 a)) := ps_gotR hB126 (E126 a) (gr_call (P101 (Pos.mk a.variant a.board a.promoted a.pockets a.turn a.rooks a.passing a.checks a.half a.full) (0) (0)) (gr_br2 (gr_callT (P166 (1) (8) rfl) (gr_ret rfl)) (gr_ret rfl))) h
noncomputable def G126 : List AV → Tr AV := g1 dPos (fun a => sure Pz 126 [Pos.av a] ((dR .u8 .u8).res (N126 a)))
theorem s126 : Sound Pz 126 G126 := sound1 (fun _ => at_sure)
end Kz
end
section
namespace Kz
open Go Go.RowKit Go.Proofs
set_option maxRecDepth 100000
set_option maxHeartbeats 4000000
noncomputable def K127 : List (Nat × List (Nat × List Nat)) := [(127, [(0, (0 :: (rn 3 21 []))), (1, (0 :: (rn 3 7 (rn 13 11 [])))), (2, (0 :: (rn 3 7 (rn 14 10 [])))), (3, (0 :: 3 :: (rn 5 5 (rn 13 11 [])))), (4, (0 :: 3 :: (rn 5 5 (rn 13 6 (rn 20 4 []))))), (5, (0 :: 1 :: (rn 3 21 []))), (6, (0 :: (rn 3 7 (rn 13 11 [])))), (7, (0 :: 1 :: (rn 3 21 [])))])]
noncomputable def B127 : Base := baseOf Pz (fun f i => lkK f i K127) [(101, G101), (166, G166)] [] []
theorem hB127 : BOk B127 := base_ok named_z ⟨s101, s166, trivial⟩ trivial trivial
noncomputable def N127 (a : Pos) : (Int × Int) := (bif N101 (Pos.mk a.variant a.board a.promoted a.pockets a.turn a.rooks a.passing a.checks a.half a.full) a.turn 0 == 0#64 then ⟨((N166 a.turn 8).fst), ((N166 a.turn 8).snd)⟩ else (bif N101 (Pos.mk a.variant a.board a.promoted a.pockets a.turn a.rooks a.passing a.checks a.half a.full) (wr .u8 (1 - a.turn)) 0 == 0#64 then ⟨((N166 (wr .u8 (1 - a.turn)) 8).fst), ((N166 (wr .u8 (1 - a.turn)) 8).snd)⟩ else ⟨(0), (0)⟩))
noncomputable def ok127 (a : Pos) : Bool := (ok101 (Pos.mk a.variant a.board a.promoted a.pockets a.turn a.rooks a.passing a.checks a.half a.full) (a.turn) (0) && (bif N101 (Pos.mk a.variant a.board a.promoted a.pockets a.turn a.rooks a.passing a.checks a.half a.full) a.turn 0 == 0#64 then true else (ok101 (Pos.mk a.variant a.board a.promoted a.pockets a.turn a.rooks a.passing a.checks a.half a.full) (wr .u8 (1 - a.turn)) (0) && true)))
theorem E127 (a : Pos) : evPure B127 14 127 [Pos.av a] = Tr.br (isPS Pz 101 [(Pos.mk a.variant a.board a.promoted a.pockets a.turn a.rooks a.passing a.checks a.half a.full).av, AV.int .u8 a.turn, AV.int .u8 0] (dU.res (N101 (Pos.mk a.variant a.board a.promoted a.pockets a.turn a.rooks a.passing a.checks a.half a.full) a.turn 0))) (Tr.br (N101 (Pos.mk a.variant a.board a.promoted a.pockets a.turn a.rooks a.passing a.checks a.half a.full) a.turn 0 == 0#64) (Tr.br (isPS Pz 166 [AV.int .u8 a.turn, AV.int .u8 8] ((dR .u8 .u8).res (N166 a.turn 8))) (Tr.ret (AV.agg [AV.int .u8 (N166 a.turn 8).fst, AV.int .u8 (N166 a.turn 8).snd])) Tr.fail) (Tr.br (isPS Pz 101 [(Pos.mk a.variant a.board a.promoted a.pockets a.turn a.rooks a.passing a.checks a.half a.full).av, AV.int .u8 (wr .u8 (1 - a.turn)), AV.int .u8 0] (dU.res (N101 (Pos.mk a.variant a.board a.promoted a.pockets a.turn a.rooks a.passing a.checks a.half a.full) (wr .u8 (1 - a.turn)) 0))) (Tr.br (N101 (Pos.mk a.variant a.board a.promoted a.pockets a.turn a.rooks a.passing a.checks a.half a.full) (wr .u8 (1 - a.turn)) 0 == 0#64) (Tr.br (isPS Pz 166 [AV.int .u8 (wr .u8 (1 - a.turn)), AV.int .u8 8] ((dR .u8 .u8).res (N166 (wr .u8 (1 - a.turn)) 8))) (Tr.ret (AV.agg [AV.int .u8 (N166 (wr .u8 (1 - a.turn)) 8).fst, AV.int .u8 (N166 (wr .u8 (1 - a.turn)) 8).snd])) Tr.fail) (Tr.ret (AV.agg [AV.cint .u8 0, AV.cint .u8 0]))) Tr.fail)) Tr.fail := by kernel_rfl
theorem P127 (a : Pos) (h : ok127 a = true) : PS Pz 127 [Pos.av a] ((dR .u8 .u8).res (N127 a)) := ps_gotR hB127 (E127 a) (gr_call (P101 (Pos.mk a.variant a.board a.promoted a.pockets a.turn a.rooks a.passing a.checks a.half a.full) (a.turn) (0)) (gr_br (gr_callT (P166 (a.turn) (8) rfl) (gr_ret rfl)) (gr_call (P101 (Pos.mk a.variant a.board a.promoted a.pockets a.turn a.rooks a.passing a.checks a.half a.full) (wr .u8 (1 - a.turn)) (0)) (gr_br2 (gr_callT (P166 (wr .u8 (1 - a.turn)) (8) rfl) (gr_ret rfl)) (gr_ret rfl))))) h
noncomputable def G127 : List AV → Tr AV := g1 dPos (fun a => sure Pz 127 [Pos.av a] ((dR .u8 .u8).res (N127 a)))
theorem s127 : Sound Pz 127 G127 := sound1 (fun _ => at_sure)
end Kz
end
section
namespace Kz
open Go Go.RowKit Go.Proofs
set_option maxRecDepth 100000
set_option maxHeartbeats 4000000
noncomputable def K68 : List (Nat × List (Nat × List Nat)) := [(68, [(0, (0 :: 1 :: (rn 4 26 (rn 40 5 [51])))), (1, (0 :: 1 :: 3 :: 4 :: (rn 7 23 (rn 40 5 [51])))), (2, (0 :: 1 :: 3 :: 4 :: (rn 6 8 (rn 15 15 (rn 40 5 [51]))))), (3, (rn 0 4 (rn 5 47 []))), (4, (0 :: 1 :: 3 :: 4 :: (rn 6 13 (rn 20 10 (rn 40 5 [51]))))), (5, (0 :: 1 :: 3 :: 4 :: (rn 6 18 (rn 25 5 (rn 40 5 [51]))))), (6, (rn 0 4 (rn 5 47 []))), (7, (0 :: 1 :: 3 :: 4 :: (rn 6 34 (rn 41 4 [51])))), (8, (rn 0 4 (rn 5 47 []))), (9, (rn 0 4 (rn 5 47 [])))])]
noncomputable def B68 : Base := baseOf Pz (fun f i => lkK f i K68) [(17, G17), (61, G61), (103, G103), (62, G62)] [] []
theorem hB68 : BOk B68 := base_ok named_z ⟨s17, s61, s103, s62, trivial⟩ trivial trivial
noncomputable def N68 (a : Pos) (b : Mv) : Bool := (bif !(N17 a b).snd then (false) else (bif N61 a.variant a.turn then (bif !N62 (N17 a b).fst a.turn then (false) else (bif N103 (N17 a b).fst a.turn then (bif a.variant != 3 then (false) else (bif N62 (N17 a b).fst (wr .u8 (1 - a.turn)) then (false) else (bif a.variant != 8 then (true) else (!N103 (N17 a b).fst (wr .u8 (1 - a.turn)))))) else (bif a.variant != 8 then (true) else (!N103 (N17 a b).fst (wr .u8 (1 - a.turn)))))) else (bif a.variant != 8 then (true) else (!N103 (N17 a b).fst (wr .u8 (1 - a.turn))))))
noncomputable def ok68 (a : Pos) (b : Mv) : Bool := (ok17 (a) (b) && (bif !(N17 a b).snd then true else (ok61 (a.variant) (a.turn) && (bif N61 a.variant a.turn then (ok62 ((N17 a b).fst) (a.turn) && (bif !N62 (N17 a b).fst a.turn then true else (ok103 ((N17 a b).fst) (a.turn) && (bif N103 (N17 a b).fst a.turn then (bif a.variant != 3 then true else (ok62 ((N17 a b).fst) (wr .u8 (1 - a.turn)) && (bif N62 (N17 a b).fst (wr .u8 (1 - a.turn)) then true else (bif a.variant != 8 then true else (ok103 ((N17 a b).fst) (wr .u8 (1 - a.turn)) && true))))) else (bif a.variant != 8 then true else (ok103 ((N17 a b).fst) (wr .u8 (1 - a.turn)) && true)))))) else (bif a.variant != 8 then true else (ok103 ((N17 a b).fst) (wr .u8 (1 - a.turn)) && true))))))
theorem E68 (a : Pos) (b : Mv) : evPure B68 14 68 [Pos.av a, Mv.av b] = (let z1 := (Tr.br (a.variant != 8) (Tr.ret (AV.cbool true)) (Tr.br (isPS Pz 103 [(N17 a b).fst.av, AV.int .u8 (wr .u8 (1 - a.turn))] (dB.res (N103 (N17 a b).fst (wr .u8 (1 - a.turn))))) (Tr.ret (AV.bool !N103 (N17 a b).fst (wr .u8 (1 - a.turn)))) Tr.fail)); let z2 := (Tr.ret (AV.cbool false)); Tr.br (isPS Pz 17 [a.av, b.av] ((d2 dPos dB).res (N17 a b))) (Tr.br (!(N17 a b).snd) z2 (Tr.br (isPS Pz 61 [AV.int .u8 a.variant, AV.int .u8 a.turn] (dB.res (N61 a.variant a.turn))) (Tr.br (N61 a.variant a.turn) (Tr.br (isPS Pz 62 [(N17 a b).fst.av, AV.int .u8 a.turn] (dB.res (N62 (N17 a b).fst a.turn))) (Tr.br (!N62 (N17 a b).fst a.turn) z2 (Tr.br (isPS Pz 103 [(N17 a b).fst.av, AV.int .u8 a.turn] (dB.res (N103 (N17 a b).fst a.turn))) (Tr.br (N103 (N17 a b).fst a.turn) (Tr.br (a.variant != 3) z2 (Tr.br (isPS Pz 62 [(N17 a b).fst.av, AV.int .u8 (wr .u8 (1 - a.turn))] (dB.res (N62 (N17 a b).fst (wr .u8 (1 - a.turn))))) (Tr.br (N62 (N17 a b).fst (wr .u8 (1 - a.turn))) z2 z1) Tr.fail)) z1) Tr.fail)) Tr.fail) z1) Tr.fail)) Tr.fail) := by kernel_rfl
theorem P68 (a : Pos) (b : Mv) (h : ok68 a b = true) : PS Pz 68 [Pos.av a, Mv.av b] (dB.res (N68 a b)) := ps_gotR hB68 (E68 a b) (gr_call (P17 (a) (b)) (gr_br (gr_ret rfl) (gr_call (P61 (a.variant) (a.turn)) (gr_br (gr_call (P62 ((N17 a b).fst) (a.turn)) (gr_br (gr_ret rfl) (gr_call (P103 ((N17 a b).fst) (a.turn)) (gr_br (gr_br (gr_ret rfl) (gr_call (P62 ((N17 a b).fst) (wr .u8 (1 - a.turn))) (gr_br (gr_ret rfl) (gr_br (gr_ret rfl) (gr_call (P103 ((N17 a b).fst) (wr .u8 (1 - a.turn))) (gr_ret rfl)))))) (gr_br (gr_ret rfl) (gr_call (P103 ((N17 a b).fst) (wr .u8 (1 - a.turn))) (gr_ret rfl))))))) (gr_br (gr_ret rfl) (gr_call (P103 ((N17 a b).fst) (wr .u8 (1 - a.turn))) (gr_ret rfl))))))) h
noncomputable def G68 : List AV → Tr AV := g2 dPos dMv (fun a b => sure Pz 68 [Pos.av a, Mv.av b] (dB.res (N68 a b)))
theorem s68 : Sound Pz 68 G68 := sound2 (fun _ _ => at_sure)
end Kz
end
section
namespace Go.Proofs
open Go.Shelf Go.RowKit Go.Lib Go.Sort
def encM (m : Kz.Mv) : List Value := [.int .i8 m.frm, .int .i8 m.to, .int .u8 m.pro, .int .u8 m.drp, .bool m.cas]
theorem encM_len (m : Kz.Mv) : (encM m).length = 5 := rfl
structure RowW (w : World) (blk cap : Nat) (ty : TypeId) (dk : Array Kz.Mv) (W : World) : Prop where
  os : W.os = w.os
  tape : W.tape = w.tape
  output : W.output = w.output
  size : w.heap.size ≤ W.heap.size
  other : ∀ k, k < w.heap.size → k ≠ blk → W.heap[k]? = w.heap[k]?
  row : ∃ cur, W.heap[blk]? = some (.cells cur ty (0, 0)) ∧ cur.size = cap * 5 ∧ ∀ j c, j < dk.size → c < 5 → cur[j * 5 + c]? = (encM dk[j]!)[c]?
theorem RowW.below {w W W' : World} {blk cap : Nat} {ty : TypeId} {dk : Array Kz.Mv} (h : RowW w blk cap ty dk W) (hb : blk < w.heap.size) (b : Below W.heap.size W W') : RowW w blk cap ty dk W' :=
  ⟨b.os.trans h.os, b.tape.trans h.tape, b.output.trans h.output, Nat.le_trans h.size b.size, fun k hk hn => by rw [b.block k (Nat.lt_of_lt_of_le hk h.size)]; exact h.other k hk hn, by
    obtain ⟨cur, h1, h2⟩ := h.row
    exact ⟨cur, by rw [b.block blk (Nat.lt_of_lt_of_le hb h.size)]; exact h1, h2⟩⟩
theorem RowW.setCells {w W : World} {blk cap : Nat} {ty : TypeId} {dk dk' : Array Kz.Mv} (h : RowW w blk cap ty dk W) (vs : List Value) (o : Nat)
    (hd : ∀ j c, j < dk'.size → c < 5 → j < dk.size ∧ (if o ≤ j * 5 + c ∧ j * 5 + c < o + vs.length then vs[j * 5 + c - o]? else (encM dk[j]!)[c]?) = (encM dk'[j]!)[c]?) (hlen : o + vs.length ≤ cap * 5) : RowW w blk cap ty dk' (W.setCells blk o vs) := by
  obtain ⟨cur, h1, h2, h3⟩ := h.row
  have hb := Kz.lt_of_some h1
  have key : ∀ (vs : List Value) (o : Nat) (W : World) (cur : Array Value), W.heap[blk]? = some (.cells cur ty (0, 0)) → o + vs.length ≤ cur.size →
      ∃ cur', W.setCells blk o vs = Kz.putBlk W blk (.cells cur' ty (0, 0)) ∧ cur'.size = cur.size ∧ ∀ t, t < cur.size → cur'[t]? = if o ≤ t ∧ t < o + vs.length then vs[t - o]? else cur[t]? := by
    intro vs
    induction vs with
    | nil =>
      intro o W cur hW _
      refine ⟨cur, ?_, rfl, fun t _ => by rw [if_neg (by simp)]⟩
      rw [World.setCells]
      simp only [Kz.putBlk]
      have : W.heap.setIfInBounds blk (.cells cur ty (0, 0)) = W.heap := by
        apply Array.ext_getElem?
        intro i
        rw [Array.getElem?_setIfInBounds]
        split
        · rename_i e; subst e; split
          · exact hW.symm
          · rename_i h'; simp [Array.getElem?_eq_none (by omega : W.heap.size ≤ blk)]
        · rfl
      rw [this]
    | cons v vs ih =>
      intro o W cur hW hl
      simp only [List.length_cons] at hl
      have e1 : W.setCell ⟨blk, o, none⟩ v = Kz.putBlk W blk (.cells (cur.setIfInBounds o v) ty (0, 0)) := Kz.setCell_eq_put hW v
      obtain ⟨cur', a1, a2, a3⟩ := ih (o + 1) (Kz.putBlk W blk (.cells (cur.setIfInBounds o v) ty (0, 0))) (cur.setIfInBounds o v) (Kz.putBlk_same hW) (by simp; omega)
      refine ⟨cur', ?_, by rw [a2]; simp, fun t ht => ?_⟩
      · rw [World.setCells, e1, a1]
        simp [Kz.putBlk]
      · rw [a3 t (by simpa using ht)]
        by_cases h1 : o + 1 ≤ t ∧ t < o + 1 + vs.length
        · rw [if_pos h1, if_pos ⟨by omega, by simp; omega⟩]
          obtain ⟨u, rfl⟩ : ∃ u, t = o + 1 + u := ⟨t - (o + 1), by omega⟩
          rw [show o + 1 + u - (o + 1) = u by omega, show o + 1 + u - o = u + 1 by omega]
          simp
        · rw [if_neg h1, Array.getElem?_setIfInBounds]
          by_cases h2 : o = t
          · subst h2
            rw [if_pos rfl, if_pos (by omega), if_pos ⟨Nat.le_refl _, by simp⟩]
            simp
          · rw [if_neg h2, if_neg (by simp; omega)]
  obtain ⟨cur', a1, a2, a3⟩ := key vs o W cur h1 (by omega)
  rw [a1]
  refine ⟨h.os, h.tape, h.output, by rw [Kz.putBlk_size]; exact h.size, fun k hk hn => by rw [Kz.putBlk_other hn]; exact h.other k hk hn, cur', Kz.putBlk_same h1, by rw [a2, h2], fun j c hj hc => ?_⟩
  obtain ⟨hj', he⟩ := hd j c hj hc
  have hlt : j * 5 + c < cur.size := by
    rcases Nat.lt_or_ge (j * 5 + c) cur.size with h' | h'
    · exact h'
    · have := h3 j c hj' hc
      rw [Array.getElem?_eq_none h', List.getElem?_eq_getElem (by rw [encM_len]; exact hc)] at this
      cases this
  rw [a3 _ hlt, h3 j c hj' hc]
  exact he
theorem RowW.put {w W : World} {blk cap : Nat} {ty : TypeId} {dk : Array Kz.Mv} (h : RowW w blk cap ty dk W) {i : Nat} (hi : i < dk.size) (hc : dk.size ≤ cap) (u : Kz.Mv) : RowW w blk cap ty (dk.setIfInBounds i u) (W.setCells blk (i * 5) (encM u)) := by
  refine h.setCells (encM u) (i * 5) (fun j c hj hc => ?_) (by rw [encM_len]; have := Nat.mul_le_mul_right 5 (show i + 1 ≤ cap by omega); omega)
  have hj' : j < dk.size := by simpa using hj
  refine ⟨hj', ?_⟩
  rw [encM_len]
  by_cases e : i = j
  · subst e
    rw [if_pos ⟨by omega, by omega⟩, show i * 5 + c - i * 5 = c by omega, getElem!_pos (dk.setIfInBounds i u) i hj]
    simp
  · rw [if_neg (by omega), getElem!_pos (dk.setIfInBounds i u) j hj, getElem!_pos dk j hj', Array.getElem_setIfInBounds_ne _ e]
theorem RowW.tail {w W : World} {blk cap : Nat} {ty : TypeId} {dk : Array Kz.Mv} (h : RowW w blk cap ty dk W) {i n : Nat} (hn : i + n ≤ cap) (hi : i ≤ dk.size) (vs : List Value) (hl : vs.length = n * 5) : RowW w blk cap ty (dk.toList.take i).toArray (W.setCells blk (i * 5) vs) := by
  refine h.setCells vs (i * 5) (fun j c hj hc => ?_) (by rw [hl, ← Nat.add_mul]; exact Nat.mul_le_mul_right 5 hn)
  have hj' : j < i := by simp at hj; omega
  refine ⟨by omega, ?_⟩
  rw [if_neg (by omega)]
  congr 2
  rw [getElem!_pos dk j (show j < dk.size by omega), getElem!_pos (dk.toList.take i).toArray j hj]
  simp
theorem RowW.same {w W : World} {blk cap : Nat} {ty : TypeId} {dk : Array Kz.Mv} (h : RowW w blk cap ty dk W) {i : Nat} (hi : i ≤ dk.size) : RowW w blk cap ty (dk.toList.take i).toArray W := by
  obtain ⟨cur, h1, h2, h3⟩ := h.row
  refine ⟨h.os, h.tape, h.output, h.size, h.other, cur, h1, h2, fun j c hj hc => ?_⟩
  have hj' : j < i := by simp at hj; omega
  rw [h3 j c (by omega) hc]
  congr 2
  rw [getElem!_pos dk j (show j < dk.size by omega), getElem!_pos (dk.toList.take i).toArray j hj]
  simp
end Go.Proofs
end
section
namespace Go.Proofs
open Go.Shelf Go.RowKit Go.Lib Go.Sort
def zeroM : Array Value := #[Value.int IntKind.i8 0, Value.int IntKind.i8 0, Value.int IntKind.u8 0, Value.int IntKind.u8 0, Value.bool false]
theorem zeroM_one (n : Nat) : ∀ v ∈ (Builtin.zeroCells zeroM n).toList, v.oneCell' = true := by
  intro v hv
  simp only [Builtin.zeroCells, Array.toList_map, List.mem_map] at hv
  obtain ⟨i, _, rfl⟩ := hv
  have : i % zeroM.size < 5 := Nat.mod_lt _ (by decide)
  generalize i % zeroM.size = t at this
  match t, this with
  | 0, _ | 1, _ | 2, _ | 3, _ | 4, _ => rfl
  | t + 5, h => omega
theorem zeroM_len (n : Nat) : (Builtin.zeroCells zeroM n).toList.length = n * 5 := by simp [Builtin.zeroCells, zeroM]
theorem run_clear5 (W : World) (b o n c : Nat) (hn : 0 < n) (hc : ∀ t, t < n * 5 → (W.cell? ⟨b, o + t, none⟩).isSome = true) (hf : ∀ t, t < n * 5 → W.frozen? ⟨b, o + t, none⟩ = false) (ty : TypeId) :
    (Builtin.clear_ #[33] ty #[.slice (some ⟨b, o, none⟩) n c]).run Tryz.prog W = .ok (.tuple #[]) (W.setCells b o (Builtin.zeroCells zeroM n).toList) := by
  have hst := run_storeCells_cells (P := Tryz.prog) b o (Builtin.zeroCells zeroM n).toList 0 W (by rw [zeroM_len]; simpa using hc) (by rw [zeroM_len]; simpa using hf) (zeroM_one n)
  simp only [Nat.add_zero] at hst
  obtain ⟨m, rfl⟩ : ∃ m, n = m + 1 := ⟨n - 1, by omega⟩
  have hz : (Value.agg zeroM).cells = zeroM := rfl
  have hv : ∀ w, (zeroValue 44).run Tryz.prog w = .ok (.agg zeroM) w := Tryz.zeroValue44
  simp only [zeroM] at hst hz hv
  simp [Builtin.clear_, run_underlying Tryz.underlying33, hv, hz, hst]
  rfl
theorem RowW.cell {w W : World} {blk cap : Nat} {ty : TypeId} {dk : Array Kz.Mv} (h : RowW w blk cap ty dk W) {j : Nat} (hj : j < dk.size) (c : Nat) (hc : c < 5) : W.cell? ⟨blk, j * 5 + c, none⟩ = some ((encM dk[j]!)[c]'hc) ∧ W.frozen? ⟨blk, j * 5 + c, none⟩ = false := by
  obtain ⟨cur, h1, h2, h3⟩ := h.row
  refine ⟨?_, Kz.frozen_of_blk h1⟩
  rw [Kz.cell_of_blk h1, h3 j c hj hc]
  exact List.getElem?_eq_getElem _
theorem RowW.load {w W : World} {blk cap : Nat} {ty : TypeId} {dk : Array Kz.Mv} (h : RowW w blk cap ty dk W) {j : Nat} (hj : j < dk.size) : Sem.run Tryz.prog (loadCellsFrom ⟨blk, 0 + j * 5, none⟩ 0 5 #[]) W = .ok (encM dk[j]!).toArray W :=
  run_loadCellsFrom_list Tryz.prog _ _ (encM dk[j]!) 5 rfl (fun c v hc => by
    have hc5 : c < 5 := (List.getElem?_eq_some_iff.1 hc).1
    obtain ⟨cur, h1, h2, h3⟩ := h.row
    rw [Addr.add_lit]
    rw [Kz.cell_of_blk h1, Nat.zero_add, h3 j c hj hc5]
    exact hc)
set_option maxHeartbeats 1000000 in
set_option maxRecDepth 100000 in
theorem delM (p : Kz.Mv → Bool) (g : Nat) (lb : Array Value) (eg : ∀ args w, (callFunc g args).run Tryz.prog w = .ok (.enter g args) w) (blk cap : Nat) (d : Array Kz.Mv) (w : World) (hb : blk < w.heap.size) (hH : RowW w blk cap 44 d w) (hcap : d.size ≤ cap) (hmax : cap ≤ maxLen)
    (hpo : ∀ W dk x, RowW w blk cap 44 dk W → Calls Tryz.prog g (#[.agg (encM x).toArray] ++ lb) W fun e w' => e = .returned (.bool (p x)) ∧ RowKit.Below W.heap.size W w') :
    Calls Tryz.prog 64 #[.slice (some ⟨blk, 0, none⟩) d.size cap, .func (.func g) #[] lb] w fun e w' => e = .returned (.slice (some ⟨blk, 0, none⟩) (d.toList.filter fun x => !p x).length cap) ∧ RowW w blk cap 44 (d.toList.filter fun x => !p x).toArray w' := by
  have hsz : d.size ≤ 9223372036854775807 := by unfold maxLen at hmax; omega
  have e6 : ∀ args w, (callFunc 130 args).run Tryz.prog w = .ok (.enter 130 args) w := fun args w => by rfl
  have hp : PredBelow Tryz.prog g lb (fun x => .agg (encM x).toArray) p w := fun W x hB => (hpo W d x (hH.below hb hB)).mono fun e w' ⟨h1, h2⟩ => ⟨h1, hB.trans (h2.mono hB.size)⟩
  have hIF := AnyQ.slices_IndexFunc Tryz.idxM 5 Tryz.isAgg44 Tryz.sizeOf44 encM encM_len p g lb eg blk 0 d.size cap d.toList w hp (by simp) hsz hb (fun j hj i v hi => by
    have hi5 : i < 5 := (List.getElem?_eq_some_iff.1 hi).1
    have hj' : j < d.size := by simpa using hj
    obtain ⟨cur, h1, h2, h3⟩ := hH.row
    rw [Kz.cell_of_blk h1, Nat.zero_add, h3 j i hj' hi5]
    rw [← hi, getElem!_pos d j hj', getElem!_pos d.toList j hj]
    simp)
  rw [show d.toList.take d.size = d.toList from List.take_of_length_le (by simp)] at hIF
  have tl : ∀ j, j < d.size → d.toList[j]! = d[j]! := fun j hj => by rw [getElem!_pos d j hj, getElem!_pos d.toList j (by simpa using hj)]; simp
  obtain ⟨kp, HK⟩ : ∃ kp : Nat → Bool, Hid (kp = fun j => !p d[j]!) := ⟨_, rfl⟩
  have hfil : (d.toList.filter fun x => !p x) = keptUpTo kp d d.size := by rw [HK.out]; exact (keptUpTo_filter (fun x => !p x) d).symm
  rw [hfil]
  rcases idxByFrom_spec (fun _ y => p y) default d.toList 0 with ⟨e1, hall⟩ | ⟨k0, hk0, e1, ht, hall⟩
  ·
    have e2 : Lib.idxBy (fun _ y => p y) d.toList default = -1 := e1
    rw [e2] at hIF
    have hkeep : ∀ j, j < d.size → kp j = true := fun j hj => by rw [HK.out]; show (!p d[j]!) = true; rw [← tl j hj, hall j (by simpa using hj)]; rfl
    have e3 : keptUpTo kp d d.size = d.toList := by rw [keptUpTo_all kp d _ hkeep, range_map_get]
    have HH : Aside (RowW w blk cap 44 d w) := hH
    have HB : Hid (blk < w.heap.size) := hb
    clear hH hpo hp hb
    go_enter Tryz.func64, Tryz.ntmps64
    go_wp2_with (go_at_fn 130; refine hIF.mono ?_; rintro e w' ⟨rfl, hbl⟩)
    go_ret
    rw [e3]
    exact ⟨by simp, by simpa using HH.out.below HB.out hbl⟩
  · have hk0' : k0 < d.size := by simpa using hk0
    have e2 : Lib.idxBy (fun _ y => p y) d.toList default = (k0 : Int) := by unfold Lib.idxBy; rw [e1]; simp
    rw [e2] at hIF
    have hkeep : ∀ j, j < k0 → kp j = true := fun j hj => by rw [HK.out]; show (!p d[j]!) = true; rw [← tl j (by omega), hall j hj]; rfl
    have hdrop : kp k0 = false := by rw [HK.out]; show (!p d[k0]!) = false; rw [← tl k0 hk0']; rw [show p d.toList[k0]! = true from ht]; rfl
    have hne1 : ((k0 : Int) == -1) = false := beq_eq_false_iff_ne.2 (by omega)
    have HC : Aside _ := hpo
    have HH : Aside (RowW w blk cap 44 d w) := hH
    have HB : Hid (blk < w.heap.size) := hb
    clear hpo hp hH hb hall ht e1 e2 tl
    go_enter Tryz.func64, Tryz.ntmps64
    go_wp2_with (go_at_fn 130; refine hIF.mono ?_; rintro e w' ⟨rfl, hbl⟩)
    have HBL := Lib.hid hbl
    clear hbl
    go_loopg [5, 6, 7] d.size (fun gg s5 s6 _ wr => ∃ (i j : Nat) (dk : Array Kz.Mv), s5 = .int .i64 i ∧ s6 = .int .i64 j ∧ j ≤ d.size ∧ d.size - j ≤ gg ∧ Aside (RowW w blk cap 44 dk wr) ∧ Aside (KeptInv kp d j i dk))
    case atStart => exact ⟨k0, k0 + 1, d, rfl, by go_num, by omega, by omega, HH.out.below HB.out HBL.out, KeptInv.start hkeep hdrop⟩
    case round =>
      obtain ⟨i, j, dk, rfl, rfl, hjd, hgg, W2, I2⟩ := hrel
      have hI := I2.out
      have hij := hI.lt
      have hds := hI.size
      by_cases hlt : j < d.size
      · have hltz : (j : Int) < (d.size : Int) := by omega
        have c0 := (W2.out.cell (j := j) (by omega) 0 (by omega)).1
        have c1 := (W2.out.cell (j := j) (by omega) 1 (by omega)).1
        have c2 := (W2.out.cell (j := j) (by omega) 2 (by omega)).1
        have c3 := (W2.out.cell (j := j) (by omega) 3 (by omega)).1
        have c4 := (W2.out.cell (j := j) (by omega) 4 (by omega)).1
        simp only [hI.high j (by omega), encM, List.getElem_cons_succ, List.getElem_cons_zero, Nat.add_zero] at c0 c1 c2 c3 c4
        clear hI
        generalize hu : d[j]! = u at c0 c1 c2 c3 c4
        have C : Aside (d[j]! = u) := hu
        clear hu
        have hW1 : RowW w blk cap 44 dk (wr.alloc (Obj.cells #[Value.int IntKind.i8 u.frm, Value.int IntKind.i8 u.to, Value.int IntKind.u8 u.pro, Value.int IntKind.u8 u.drp, Value.bool u.cas] 44)) :=
          W2.out.below HB.out ((Below.refl _ _).alloc (Nat.le_refl _) _)
        have hcall : Calls Tryz.prog g (#[Value.agg #[Value.int IntKind.i8 u.frm, Value.int IntKind.i8 u.to, Value.int IntKind.u8 u.pro, Value.int IntKind.u8 u.drp, Value.bool u.cas]] ++ lb) _ _ := HC.out _ dk u hW1
        have HW1 := Lib.hid hW1
        clear hW1
        cases hq : p u with
        | false =>
          rw [hq] at hcall
          have HCALL := Lib.hid hcall
          clear hcall
          go_wp2_with fail
          refine HCALL.out.mono ?_
          rintro e w2 ⟨rfl, hb2⟩
          have hW2 := HW1.out.below HB.out hb2
          have r0 := hW2.cell (j := i) (by omega) 0 (by omega)
          have r1 := hW2.cell (j := i) (by omega) 1 (by omega)
          have r2 := hW2.cell (j := i) (by omega) 2 (by omega)
          have r3 := hW2.cell (j := i) (by omega) 3 (by omega)
          have r4 := hW2.cell (j := i) (by omega) 4 (by omega)
          simp only [Nat.add_zero] at r0
          obtain ⟨r0, f0⟩ := r0
          obtain ⟨r1, f1⟩ := r1
          obtain ⟨r2, f2⟩ := r2
          obtain ⟨r3, f3⟩ := r3
          obtain ⟨r4, f4⟩ := r4
          have hcs : ∀ c, w2.cell? ⟨wr.heap.size, c, none⟩ = (#[Value.int IntKind.i8 u.frm, Value.int IntKind.i8 u.to, Value.int IntKind.u8 u.pro, Value.int IntKind.u8 u.drp, Value.bool u.cas] : Array Value)[c]? := fun c => by
            rw [hb2.cell (p := ⟨wr.heap.size, c, none⟩) (by simp), Kz.cell_of_blk (heap_alloc_new wr _)]
          have b0 := hcs 0
          have b1 := hcs 1
          have b2 := hcs 2
          have b3 := hcs 3
          have b4 := hcs 4
          simp at b0 b1 b2 b3 b4
          have HW2 := Lib.hid hW2
          clear hcs hb2 hW2
          go_wp2_with fail
          go_roundg (d.size - (j + 1))
          case measure => omega
          case rel =>
            refine ⟨i + 1, j + 1, dk.setIfInBounds i u, by go_num, by go_num, by omega, Nat.le_refl _, HW2.out.put (i := i) (by omega) (by omega) u, (show Aside _ from ?_)⟩
            have := I2.out.keep hlt (by rw [HK.out]; show (!p d[j]!) = true; rw [C.out, hq]; rfl)
            rwa [C.out] at this
        | true =>
          rw [hq] at hcall
          have HCALL := Lib.hid hcall
          clear hcall
          go_wp2_with fail
          refine HCALL.out.mono ?_
          rintro e w2 ⟨rfl, hb2⟩
          have HW2 := Lib.hid (HW1.out.below HB.out hb2)
          clear hb2
          go_wp2_with fail
          go_roundg (d.size - (j + 1))
          case measure => omega
          case rel => exact ⟨i, j + 1, dk, rfl, by go_num, by omega, Nat.le_refl _, HW2.out, I2.out.skip (by rw [HK.out]; show (!p d[j]!) = false; rw [C.out, hq]; rfl)⟩
      · obtain rfl : j = d.size := by omega
        have hltz : ¬ (d.size : Int) < (d.size : Int) := by omega
        have hcl : ∀ ty, (Builtin.clear_ #[33] ty #[.slice (some ⟨blk, i * 5, none⟩) (d.size - i) (cap - i)]).run Tryz.prog wr = .ok (.tuple #[]) (wr.setCells blk (i * 5) (Builtin.zeroCells zeroM (d.size - i)).toList) := by
          obtain ⟨cur, h1, h2, h3⟩ := W2.out.row
          refine run_clear5 wr blk (i * 5) (d.size - i) (cap - i) (by omega) (fun t ht => ?_) (fun t ht => Kz.frozen_of_blk h1)
          rw [Kz.cell_of_blk h1]
          have : d.size * 5 ≤ cap * 5 := Nat.mul_le_mul_right 5 hcap
          have h5 : (d.size - i) * 5 = d.size * 5 - i * 5 := Nat.sub_mul _ _ _
          rw [Array.getElem?_eq_getElem (by omega)]
          rfl
        have hid : i ≤ d.size := by omega
        clear hI
        go_wp2
        go_ret
        have hI := I2.out
        refine ⟨by rw [hI.len]; rfl, ?_⟩
        have := W2.out.tail (i := i) (n := d.size - i) (by omega) (by omega) _ (zeroM_len (d.size - i))
        have e : keptUpTo kp d d.size = dk.toList.take i := by
          have hsz' := hI.size
          apply List.ext_getElem?
          intro j
          by_cases hj : j < i
          · rw [hI.low j hj, List.getElem?_take_of_lt hj, getElem!_pos dk j (by omega), List.getElem?_eq_getElem (by simp; omega)]
            simp
          · rw [List.getElem?_eq_none (by rw [hI.len]; omega), List.getElem?_eq_none (by simp; omega)]
        rw [e]
        exact this
end Go.Proofs
end
section
namespace Go.Proofs
open Go.Shelf Go.RowKit Go.Lib Go.Sort Kz
theorem mv_cells {g : Gh} {tk : List Nat} {w : World} {m : Mv} {cs : List Value} (h : RepC g tk w (segs (Mv.av m)) cs) : cs = encM m := by
  change RepC g tk w [.int .i8 m.frm, .int .i8 m.to, .int .u8 m.pro, .int .u8 m.drp, .bool m.cas] cs at h
  obtain ⟨x1, r1, rfl, q1, h⟩ := h.inv_one rfl
  obtain ⟨x2, r2, rfl, q2, h⟩ := h.inv_one rfl
  obtain ⟨x3, r3, rfl, q3, h⟩ := h.inv_one rfl
  obtain ⟨x4, r4, rfl, q4, h⟩ := h.inv_one rfl
  obtain ⟨x5, r5, rfl, q5, h⟩ := h.inv_one rfl
  obtain rfl := h.inv_nil
  cases q1; cases q2; cases q3; cases q4; cases q5
  rfl
theorem mv_rep (g : Gh) (tk : List Nat) (w : World) (m : Mv) : RepC g tk w (segs (Mv.av m)) (encM m) :=
  .one rfl (.int _ _) (.one rfl (.int _ _) (.one rfl (.int _ _) (.one rfl (.int _ _) (.one rfl (.bool _) .nil))))
theorem mvs_cells {g : Gh} {tk : List Nat} {w : World} : ∀ {l : List Mv} {cs : List Value}, RepE g tk w (l.map (enc .mv)) cs → cs = l.flatMap encM
  | [], _, h => by cases h; rfl
  | m :: l, _, h => by
    cases h with
    | cons hs hx h hr => rw [hx, mv_cells h, mvs_cells hr]; rfl
theorem mvs_rep (g : Gh) (tk : List Nat) (w : World) : ∀ l : List Mv, RepE g tk w (l.map (enc .mv)) (l.flatMap encM)
  | [] => .nil
  | m :: l => .cons rfl rfl (mv_rep g tk w m) (mvs_rep g tk w l)
theorem flat_len (l : List Mv) : (l.flatMap encM).length = l.length * 5 := by
  induction l with
  | nil => rfl
  | cons m l ih => simp only [List.flatMap_cons, List.length_append, encM_len, ih, List.length_cons]; omega
theorem flat_get : ∀ (l : List Mv) (j c : Nat), j < l.length → c < 5 → (l.flatMap encM)[j * 5 + c]? = (encM l[j]!)[c]?
  | [], _, _, h, _ => absurd h (Nat.not_lt_zero _)
  | m :: l, 0, c, _, hc => by
    simp only [List.flatMap_cons]
    rw [List.getElem?_append_left (by rw [encM_len]; omega)]
    simp
  | m :: l, j + 1, c, h, hc => by
    simp only [List.flatMap_cons]
    rw [List.getElem?_append_right (by rw [encM_len]; omega), encM_len, show (j + 1) * 5 + c - 5 = j * 5 + c by omega, flat_get l j c (by simpa using h) hc]
    simp
theorem encM_one (m : Mv) : ∀ u ∈ encM m, u.oneCell' = true := by
  intro u hu
  simp only [encM, List.mem_cons, List.not_mem_nil, or_false] at hu
  rcases hu with rfl | rfl | rfl | rfl | rfl <;> rfl
theorem flat_one (l : List Mv) : ∀ u ∈ l.flatMap encM, u.oneCell' = true := by
  intro u hu
  obtain ⟨m, _, h⟩ := List.mem_flatMap.1 hu
  exact encM_one m u h
theorem pos_rep {g g' : Gh} {tk tk' : List Nat} {w w' : World} {p : Pos} {cs : List Value} (h : RepC g tk w (segs (Pos.av p)) cs) : RepC g' tk' w' (segs (Pos.av p)) cs := by
  change RepC g tk w [.int .u8 p.variant, .ints .u8 64 p.board, .u64 p.promoted, .ints .u8 12 p.pockets, .int .u8 p.turn, .ints .i8 4 p.rooks, .int .i8 p.passing, .ints .u8 2 p.checks, .int .i64 p.half, .int .i64 p.full] cs at h
  obtain ⟨x1, r1, rfl, q1, h1⟩ := h.inv_one rfl
  obtain ⟨l2, r2, rfl, h2⟩ := h1.inv_ints
  obtain ⟨x3, r3, rfl, q3, h3⟩ := h2.inv_one rfl
  obtain ⟨l4, r4, rfl, h4⟩ := h3.inv_ints
  obtain ⟨x5, r5, rfl, q5, h5⟩ := h4.inv_one rfl
  obtain ⟨l6, r6, rfl, h6⟩ := h5.inv_ints
  obtain ⟨x7, r7, rfl, q7, h7⟩ := h6.inv_one rfl
  obtain ⟨l8, r8, rfl, h8⟩ := h7.inv_ints
  obtain ⟨x9, r9, rfl, q9, h9⟩ := h8.inv_one rfl
  obtain ⟨x10, r10, rfl, q10, h10⟩ := h9.inv_one rfl
  obtain rfl := h10.inv_nil
  cases q1; cases q3; cases q5; cases q7; cases q9; cases q10
  exact .one rfl (.int _ _) (.ints l2 rfl (.one rfl (.u64 _) (.ints l4 rfl (.one rfl (.int _ _) (.ints l6 rfl (.one rfl (.int _ _) (.ints l8 rfl (.one rfl (.int _ _) (.one rfl (.int _ _) .nil)))))))))
set_option maxHeartbeats 1000000 in
set_option maxRecDepth 100000 in
theorem idx0 (a : Option Addr) (c : Nat) (fv : Value) (w : World) : Calls Tryz.prog 130 #[.slice a 0 c, fv] w fun e w' => e = .returned (.int .i64 (-1)) ∧ w' = w := by
  go_enter Tryz.func130, Tryz.ntmps130
  go_wp2
  go_loopg [5, 8] 0 (fun _ _ s8 wr => s8 = .int .i64 0 ∧ wr = w)
  case atStart => exact ⟨rfl, rfl⟩
  case round =>
    obtain ⟨rfl, rfl⟩ := hrel
    go_wp2
    go_ret
    exact ⟨rfl, rfl⟩
set_option maxHeartbeats 1000000 in
set_option maxRecDepth 100000 in
theorem del0 (a : Option Addr) (c : Nat) (fv : Value) (w : World) : Calls Tryz.prog 64 #[.slice a 0 c, fv] w fun e w' => e = .returned (.slice a 0 c) ∧ w' = w := by
  have h := idx0 a c fv w
  go_enter Tryz.func64, Tryz.ntmps64
  go_wp2_with fail
  refine h.mono ?_
  rintro e w' ⟨rfl, rfl⟩
  go_wp2_with fail
  go_ret
  exact ⟨rfl, rfl⟩
set_option maxHeartbeats 2000000 in
set_option maxRecDepth 100000 in
theorem clone0 (ad : Addr) (c : Nat) (w : World) : Calls Tryz.prog 65 #[.slice (some ad) 0 c] w fun e w' => ∃ v', e = .returned v' ∧ w'.ownsRow w.heap.size 44 5 v' 0 [] ∧ v' ≠ .slice none 0 0 ∧ RowKit.Below w.heap.size w w' := by
  obtain ⟨i0, z, a1, a2, a3, a4, a5⟩ := info44
  have q22 : ∀ (w : World) (a : Option Addr) (n c n' c' : Nat), (binOp .eql 33 (.slice a n c) (.slice none n' c')).run Tryz.prog w = .ok (.bool a.isNone) w := fun w a n c n' c' => Lib.run_eql_slice_nil w _ _ a n c n' c' Tryz.underlying33
  have u22 : ∀ w, Sem.run Tryz.prog (underlying 33) w = .ok (TypeDesc.slice 44) w := run_underlying Tryz.underlying33
  go_enter Tryz.func65, Tryz.ntmps65
  go_wp2_with (at_builtin; refine wpList_append_own _ rfl _ _ 33 rfl w.heap.size 44 i0 z 5 i0.bytes Tryz.underlying33 a1 a2 a3 rfl a4 (by omega) _ _ _ rfl (World.ownsRow_made w #[] 0 (Nat.le_refl _) (Nat.zero_le _) (by simp)) ad 0 c [] rfl ?qc1 ?qc2 ?qc3 ?qc4 ?qc5 ?qc6 ?_)
  case qc1 => rfl
  case qc2 => intro j u hj; simp at hj
  case qc3 => intro u hu; simp at hu
  case qc4 => simp
  case qc5 => simp
  case qc6 => simp
  intro v' w1 hown hgrow hnil
  go_wp2
  go_ret
  refine ⟨v', rfl, by simpa using hown, ?_, ?_⟩
  · exact hnil
  · exact ((Below.refl _ w).alloc (Nat.le_refl _) _).grown hgrow (by simp) (by intro k hk; simp [Value.ownBlock] at hk; omega)
set_option maxHeartbeats 2000000 in
set_option maxRecDepth 100000 in
theorem keepM (p : Pos) (f2 : Nat) (q : Mv → Bool) (l : List Mv) (hll : l.length ≤ lim) (hq : ∀ m, PureSpec Tryz.prog 66 [Mv.av m, .ptrf (.func f2 [] [.ptrf (Pos.av p)])] (.bool (!q m))) : PureSpec Tryz.prog 63 [.list .mv l .arg, .func f2 [] [.ptrf (Pos.av p)]] (.list .mv (l.filter q) .fresh) := by
  intro w vals hg hr
  obtain ⟨vals⟩ := vals
  cases hr with
  | cons q1 r1 =>
  cases r1 with
  | cons q2 r2 =>
  cases r2
  cases q2 with
  | func ha hb =>
  rename_i x y
  obtain ⟨x⟩ := x
  obtain ⟨y⟩ := y
  cases ha
  cases hb with
  | cons q3 r3 =>
  cases r3
  cases q3 with
  | ptrf hpc hpa =>
  rename_i pc po pcs
  cases q1 with
  | list hn hE hS hT hC =>
  rename_i a n cap cs
  subst hn
  have hcs := mvs_cells hE
  obtain ⟨fv, hfv⟩ : ∃ fv : Value, fv = .func (.func f2) (Array.mk []) (Array.mk [.pointer (some ⟨pc, po, none⟩)]) := ⟨_, rfl⟩
  rw [← hfv]
  have hpred : ∀ (W : World) (u : Mv), w.heap.size + 1 ≤ W.heap.size → (∀ k, k < w.heap.size + 1 → W.heap[k]? = (w.alloc (.cells #[fv] 85)).heap[k]?) →
      Calls Tryz.prog 66 (#[.agg (encM u).toArray] ++ #[.pointer (some ⟨w.heap.size, 0, none⟩)]) W fun e w' => e = .returned (.bool (!q u)) ∧ RowKit.Below W.heap.size W w' := by
    intro W u hsz hsame
    have old : ∀ k, k < w.heap.size → W.heap[k]? = w.heap[k]? := fun k hk => by
      rw [hsame k (by omega)]
      exact ((Below.refl _ w).alloc (Nat.le_refl _) _).block k hk
    refine (callsIn_wide.1 (hq u W (#[.agg (encM u).toArray] ++ #[.pointer (some ⟨w.heap.size, 0, none⟩)]) ?_ ?_)).mono ?_
    · intro pr hpr j x hj
      obtain ⟨h1, h2⟩ := hg pr hpr j x hj
      have hlt : pr.1 < w.heap.size := h2
      exact ⟨by rw [cell_same (old _ hlt)]; exact h1, Nat.lt_of_lt_of_le hlt (by omega)⟩
    · refine .cons (.agg (mv_rep _ _ _ u)) (.cons (.ptrf (cs := [fv]) (.one rfl ?_ .nil) ?_) .nil)
      · rw [hfv]
        refine .func .nil (.cons (.ptrf (pos_rep hpc) ?_) .nil)
        intro j x hj
        obtain ⟨h1, h2⟩ := hpa j x hj
        have hlt : pc < w.heap.size := h2
        exact ⟨by rw [cell_same (old _ hlt)]; exact h1, Nat.lt_of_lt_of_le hlt (by omega)⟩
      · intro j x hj
        have hc : W.heap[w.heap.size]? = some (.cells #[fv] 85 (0, 0)) := by
          rw [hsame _ (Nat.lt_succ_self _)]; exact heap_alloc_new w _
        refine ⟨?_, show w.heap.size < W.heap.size by omega⟩
        rw [cell_of_blk hc, Nat.zero_add]
        simpa using hj
    · rintro e w' ⟨v, rfl, hb, hv⟩
      cases hv
      exact ⟨rfl, hb⟩
  subst hfv
  clear hpc hpa
  refine callsIn_wide.2 ?_
  cases a with
  | none =>
    obtain rfl : l = [] := by
      rcases hS with h | ⟨_, _, h, _⟩
      · have := flat_len l
        rw [← hcs, h] at this
        exact List.eq_nil_of_length_eq_zero (by simp at this; omega)
      · cases h
    have hc := fun w => AnyE.slices_Clone_nil Tryz.cloneM 0 cap w
    have hd := del0 none 0 (.func (.func 66) #[] #[.pointer (some ⟨w.heap.size, 0, none⟩)])
    clear hpred hS hcs hE hT
    go_enter Tryz.func63, Tryz.ntmps63
    go_wp2_with fail
    refine (hc _).mono ?_
    rintro e w' ⟨rfl, rfl⟩
    go_wp2_with fail
    refine (hd _).mono ?_
    rintro e w' ⟨rfl, rfl⟩
    go_wp2_with fail
    go_ret
    exact ⟨_, rfl, (Below.refl _ w).alloc (Nat.le_refl _) _, .list (cs := []) rfl .nil (.inl rfl) (fun k e => by cases e) (Nat.le_refl _)⟩
  | some ad =>
    have hclone : Calls Tryz.prog 65 #[.slice (some ad) l.length cap] (w.alloc (.cells #[(.func (.func f2) (Array.mk []) (Array.mk [.pointer (some ⟨pc, po, none⟩)]))] 85)) fun e w' => ∃ v', e = .returned v' ∧ w'.ownsRow (w.alloc (.cells #[(.func (.func f2) (Array.mk []) (Array.mk [.pointer (some ⟨pc, po, none⟩)]))] 85)).heap.size 44 5 v' l.length (l.flatMap encM) ∧ v' ≠ .slice none 0 0 ∧ RowKit.Below (w.alloc (.cells #[(.func (.func f2) (Array.mk []) (Array.mk [.pointer (some ⟨pc, po, none⟩)]))] 85)).heap.size (w.alloc (.cells #[(.func (.func f2) (Array.mk []) (Array.mk [.pointer (some ⟨pc, po, none⟩)]))] 85)) w' := by
      by_cases hl : l = []
      · subst hl
        exact clone0 ad cap _
      · obtain ⟨c, o, hadr, hat, _⟩ := hS.resolve_left (fun e0 => hl (by
          have := flat_len l
          rw [← hcs, e0] at this
          exact List.eq_nil_of_length_eq_zero (by simp at this; omega)))
        simp only [Option.some.injEq] at hadr
        subst hadr
        obtain ⟨i0, z, a1, a2, a3, a4, a5⟩ := info44
        refine AnyE.slices_Clone Tryz.cloneM i0 z 5 i0.bytes a1 a2 a3 rfl a4 (by omega) Tryz.sizeOf44 c o l.length cap (l.flatMap encM) _ (flat_len l) ?_ ?_ ?_ (flat_one l)
        · unfold lim at hll; unfold maxLen; omega
        · have : l.length * i0.bytes ≤ l.length * 131072 := Nat.mul_le_mul_left _ a5
          unfold lim at hll
          omega
        · intro j u hj
          rw [← hcs] at hj
          obtain ⟨h1, h2⟩ := hat j u hj
          have hlt : c < w.heap.size := h2
          rw [cell_same (((Below.refl _ w).alloc (Nat.le_refl _) _).block c hlt)]
          exact h1
    clear hS hcs hE hT
    have HP := Lib.hid hpred
    clear hpred
    go_enter Tryz.func63, Tryz.ntmps63
    go_wp2_with fail
    refine hclone.mono ?_
    rintro e w2 ⟨v', rfl, hown, hne, hb⟩
    obtain ⟨hlen, ⟨rfl, _⟩ | ⟨gb, cap', cur, rfl, hgb, hcur, hn', hmax, hsz, htake⟩⟩ := hown
    · exact absurd rfl hne
    have hrow : RowW w2 gb cap' 44 l.toArray w2 := ⟨rfl, rfl, rfl, Nat.le_refl _, fun _ _ _ => rfl, cur, hcur, hsz, fun j c hj hc => by
      have hj' : j < l.length := by simpa using hj
      have h1 : j * 5 + c < l.length * 5 := by have := Nat.mul_le_mul_right 5 (show j + 1 ≤ l.length from hj'); omega
      rw [← Array.getElem?_toList, ← List.getElem?_take_of_lt h1, htake, flat_get l j c hj' hc]
      congr 2
      rw [getElem!_pos l j hj', getElem!_pos l.toArray j hj]
      simp⟩
    have hdel := delM (fun u => !q u) 66 #[.pointer (some ⟨w.heap.size, 0, none⟩)] (fun _ _ => rfl) gb cap' l.toArray w2 (lt_of_some hcur) hrow (by simpa using hn') hmax (fun W dk u hW => by
      have hs1 : (w.alloc (.cells #[(.func (.func f2) (Array.mk []) (Array.mk [.pointer (some ⟨pc, po, none⟩)]))] 85)).heap.size = w.heap.size + 1 := by simp
      refine HP.out W u (by have := hb.size; have := hW.size; omega) (fun k hk => ?_)
      rw [hW.other k (by have := hb.size; omega) (by omega), hb.block k (by omega)])
    simp only [List.size_toArray, Bool.not_not] at hdel
    have HD := Lib.hid hdel
    have HBW := Lib.hid hb
    have HG := Lib.hid hgb
    have HN := Lib.hid hn'
    clear hdel HP hrow hb hgb hn' hcur hsz htake hlen hne hmax hclone
    go_wp2_with fail
    refine HD.out.mono ?_
    rintro e w3 ⟨rfl, hR⟩
    have HR := Lib.hid hR
    clear hR
    go_wp2_with fail
    go_ret
    have hR := HR.out
    have hb := HBW.out
    have hgb := HG.out
    have hs1 : (w.alloc (.cells #[(.func (.func f2) (Array.mk []) (Array.mk [.pointer (some ⟨pc, po, none⟩)]))] 85)).heap.size = w.heap.size + 1 := by simp
    have hw1 : RowKit.Below w.heap.size w (w.alloc (.cells #[(.func (.func f2) (Array.mk []) (Array.mk [.pointer (some ⟨pc, po, none⟩)]))] 85)) := (Below.refl _ w).alloc (Nat.le_refl _) _
    have hbw : RowKit.Below w.heap.size w w3 := ⟨hR.os.trans (hb.os.trans hw1.os), hR.tape.trans (hb.tape.trans hw1.tape), hR.output.trans (hb.output.trans hw1.output), by have := hR.size; have := hb.size; omega, fun k hk => by
      rw [hR.other k (by have := hb.size; omega) (by omega), hb.block k (by omega)]
      exact hw1.block k hk⟩
    refine ⟨_, rfl, hbw, ?_⟩
    obtain ⟨cur, k1, k2, k3⟩ := hR.row
    have hfl : (l.filter q).length ≤ l.length := List.length_filter_le _ _
    refine .list (cs := (l.filter q).flatMap encM) (by simp) (mvs_rep _ _ _ _) (.inr ⟨gb, 0, rfl, fun j x hj => ?_, fun _ => by show w.heap.size ≤ gb; omega⟩) (fun k e => by cases e) (Nat.le_trans hfl HN.out)
    have hjl : j < (l.filter q).length * 5 := by rw [← flat_len]; exact (List.getElem?_eq_some_iff.1 hj).1
    have hdm : j = j / 5 * 5 + j % 5 := by omega
    have hq5 : j / 5 < (l.filter q).length := by omega
    refine ⟨?_, show w.heap.size ≤ gb ∧ gb < w3.heap.size from ⟨by omega, lt_of_some k1⟩⟩
    rw [cell_of_blk k1, Nat.zero_add, hdm, k3 (j / 5) (j % 5) (by simpa using hq5) (Nat.mod_lt _ (by omega)), ← hj]
    conv => rhs; rw [hdm]
    rw [flat_get (l.filter q) (j / 5) (j % 5) hq5 (Nat.mod_lt _ (by omega))]
    congr 2
    rw [getElem!_pos (l.filter q) (j / 5) hq5, getElem!_pos (l.filter q).toArray (j / 5) (by simpa using hq5)]
    simp
end Go.Proofs
end
section
namespace Kz
open Go Go.RowKit Go.Proofs
def posAt (h : Hp) (b : Nat) : Pos := match h.heap.getD b [] with
  | [.int _ v, .ints _ _ bd, .u64 pr, .ints _ _ pk, .int _ tn, .ints _ _ rk, .int _ ps, .ints _ _ ck, .int _ hf, .int _ fl] => ⟨v, bd, pr, pk, tn, rk, ps, ck, hf, fl⟩
  | _ => default
def clo (vs : List AV) : Option (Nat × Nat) := match vs with
  | [_, .func f [] [.ptr b 0]] => some (f, b)
  | _ => none
theorem fs_keep {P : Program} {f : Nat} {l l' : List Mv} {tk : Tk} {f2 b : Nat} {p : Pos} {h : Hp} (hb : h.heap[b]? = some (segs (Pos.av p))) (hs : PureSpec P f [.list .mv l .arg, .func f2 [] [.ptrf (Pos.av p)]] (.list .mv l' .fresh)) :
    FSpec P f [.list .mv l tk, .func f2 [] [.ptr b 0]] h (.ret (.list .mv l' .fresh) h) := by
  intro g w vals m hr
  have hr' : RepL (gArg w) [] w [.list .mv l .arg, .func f2 [] [.ptrf (Pos.av p)]] vals.toList := by
    obtain ⟨vals⟩ := vals
    cases hr with
    | cons q1 r1 =>
    cases r1 with
    | cons q2 r2 =>
    cases r2
    cases q1 with
    | list hn hE hS hT hC =>
    rename_i a n cap cs
    cases q2 with
    | func ha hb2 =>
    rename_i x y
    obtain ⟨x⟩ := x
    obtain ⟨y⟩ := y
    cases ha
    cases hb2 with
    | cons q3 r3 =>
    cases r3
    cases q3 with
    | ptr hv =>
    rename_i c
    obtain ⟨_, _, cells, ty, hc, hcells⟩ := m.var b c _ hv hb
    refine .cons (.list (cs := cs) hn (by rw [mvs_cells hE]; exact mvs_rep _ _ _ _) (hS.imp id fun ⟨c', o', e1, e2, _⟩ => ⟨c', o', e1, fun j x hj => ⟨(e2 j x hj).1, m.fzlt _ _ (e2 j x hj).2⟩, fun f => absurd rfl f⟩) (fun k e => by cases e) hC)
      (.cons (.func .nil (.cons (.ptrf (cs := cells.toList) (pos_rep hcells) fun j x hj => ⟨by rw [cell_of_blk hc, Nat.zero_add]; simpa using hj, lt_of_some hc⟩) .nil)) .nil)
  refine (hs w vals m.globOk hr').mono ?_
  rintro e w' ⟨x, rfl, hbl, hx⟩
  obtain ⟨m1, l1⟩ := m.growFz hbl
  exact ⟨_, x, rfl, ⟨m1, l1, Fl.refl _⟩, res_in m hx⟩
end Kz
end
section
namespace Kz
open Go Go.RowKit Go.Proofs
set_option maxRecDepth 100000
set_option maxHeartbeats 4000000
noncomputable def B66 : Base := baseOf Pz (fun _ _ => []) [(70, G70), (68, G68)] [] []
theorem hB66 : BOk B66 := base_ok named_z ⟨s70, s68, trivial⟩ trivial trivial
theorem E66a (p : Pos) (m : Mv) : evPure B66 14 66 [Mv.av m, .ptrf (.func 67 [] [.ptrf (Pos.av p)])] = Tr.br (isPS Pz 68 [Pos.av p, Mv.av m] (dB.res (N68 p m))) (Tr.ret (AV.bool (!N68 p m))) Tr.fail := by kernel_rfl
theorem E66b (p : Pos) (m : Mv) : evPure B66 14 66 [Mv.av m, .ptrf (.func 69 [] [.ptrf (Pos.av p)])] = Tr.br (isPS Pz 70 [Pos.av p, Mv.av m] (dB.res (N70 p m))) (Tr.ret (AV.bool (!N70 p m))) Tr.fail := by kernel_rfl
theorem P66a (p : Pos) (m : Mv) (h : ok68 p m = true) : PureSpec Pz 66 [Mv.av m, .ptrf (.func 67 [] [.ptrf (Pos.av p)])] (.bool (!N68 p m)) :=
  (ps_gotR (d := dB) hB66 (E66a p m) (gr_call (P68 p m) (gr_ret rfl)) (by rw [h]; rfl)).1
theorem P66b (p : Pos) (m : Mv) (h : ok70 p m = true) : PureSpec Pz 66 [Mv.av m, .ptrf (.func 69 [] [.ptrf (Pos.av p)])] (.bool (!N70 p m)) :=
  (ps_gotR (d := dB) hB66 (E66b p m) (gr_call (P70 p m) (gr_ret rfl)) (by rw [h]; rfl)).1
open Classical in
noncomputable def all68 (p : Pos) : Bool := shut (decide (∀ m, ok68 p m = true))
theorem all68_iff {p : Pos} : all68 p = true ↔ ∀ m, ok68 p m = true := by
  unfold all68
  rw [shut_eq]
  simp
open Classical in
noncomputable def all70 (p : Pos) : Bool := shut (decide (∀ m, ok70 p m = true))
theorem all70_iff {p : Pos} : all70 p = true ↔ ∀ m, ok70 p m = true := by
  unfold all70
  rw [shut_eq]
  simp
noncomputable def kept (f : Nat) (p : Pos) (l : List Mv) : List Mv := l.filter (bif f.beq 67 then N68 p else N70 p)
noncomputable def okKept (f : Nat) (p : Pos) (l : List Mv) : Bool := decide (l.length ≤ lim) && bif f.beq 67 then all68 p else f.beq 69 && all70 p
noncomputable def FF63 : List AV → Hp → Tr FRes := fun xs h => match xs with
  | [.list .mv l _, .func f [] [.ptr b 0]] => match h.heap[b]? with
    | some [.int .u8 v, .ints .u8 64 bd, .u64 pr, .ints .u8 12 pk, .int .u8 tn, .ints .i8 4 rk, .int .i8 ps, .ints .u8 2 ck, .int .i64 hf, .int .i64 fl] =>
      .guard (okKept f ⟨v, bd, pr, pk, tn, rk, ps, ck, hf, fl⟩ l) (.ret (.ret (.list .mv (kept f ⟨v, bd, pr, pk, tn, rk, ps, ck, hf, fl⟩ l) .fresh) h))
    | _ => .fail
  | _ => .fail
theorem body63 : ∃ fn, Pz.funcs[63]? = some fn ∧ fn.body.isSome = true := by
  have h : (match Pz.funcs[63]? with
    | some fn => fn.body.isSome
    | none => false) = true := by kernel_rfl
  split at h
  · rename_i fn hf
    exact ⟨fn, hf, h⟩
  · cases h
theorem sFF63 : FSound Pz 63 FF63 := by
  intro xs h res he
  unfold FF63 at he
  split at he
  · rename_i l tk f b
    split at he
    · rename_i v bd pr pk tn rk ps ck hf fl hb
      simp only [get_guard, get_ret, Option.some.injEq] at he
      obtain ⟨h1, rfl⟩ := he
      refine ⟨?_, body63⟩
      unfold okKept at h1
      simp only [Bool.and_eq_true, decide_eq_true_eq] at h1
      obtain ⟨hl, h1⟩ := h1
      unfold kept
      cases hf3 : f.beq 67 with
      | true =>
        rw [hf3] at h1
        obtain rfl := Nat.eq_of_beq_eq_true hf3
        exact fs_keep (p := ⟨v, bd, pr, pk, tn, rk, ps, ck, hf, fl⟩) hb (keepM _ _ _ l hl fun m => P66a _ m (all68_iff.1 h1 m))
      | false =>
        rw [hf3] at h1
        simp only [cond_false, Bool.and_eq_true] at h1
        obtain rfl := Nat.eq_of_beq_eq_true h1.1
        exact fs_keep (p := ⟨v, bd, pr, pk, tn, rk, ps, ck, hf, fl⟩) hb (keepM _ _ _ l hl fun m => P66b _ m (all70_iff.1 h1.2 m))
    · simp at he
  · simp at he
end Kz
end
section
namespace Kz
open Go Go.RowKit Go.Proofs
set_option maxRecDepth 100000
set_option maxHeartbeats 4000000
noncomputable def K31 : List (Nat × List (Nat × List Nat)) := [(31, [(0, (0 :: (rn 2 10 (rn 17 11 (rn 31 6 []))))), (1, (0 :: (rn 2 15 (rn 18 10 (rn 31 6 []))))), (2, (0 :: 1 :: (rn 3 34 []))), (3, (0 :: 2 :: (rn 4 24 (rn 31 6 [])))), (4, (0 :: 2 :: (rn 5 23 (rn 31 6 [])))), (5, (0 :: 2 :: (rn 6 22 (rn 31 6 [])))), (6, (0 :: 1 :: 2 :: (rn 6 25 (rn 32 5 [])))), (7, (rn 0 4 (rn 5 32 []))), (8, (0 :: 1 :: (rn 3 34 [])))]), (63, [(0, (1 :: 2 :: (rn 4 5 []))), (1, (rn 0 4 (rn 5 4 [])))]), (67, [(0, [0, 3, 4, 5, 6]), (1, [0, 1, 2, 4, 5, 6])]), (69, [(0, [0, 3, 4, 5, 6]), (1, [0, 1, 2, 4, 5, 6])]), (71, [(0, (rn 2 7 [])), (1, (rn 0 4 (rn 5 4 [])))]), (130, [(0, (rn 2 17 [])), (1, (rn 2 5 (rn 9 10 []))), (2, (rn 2 5 (rn 10 9 []))), (3, (2 :: 3 :: 4 :: 6 :: (rn 9 10 []))), (4, (2 :: 3 :: 4 :: 6 :: (rn 9 7 [17, 18]))), (5, (rn 0 4 (rn 5 14 []))), (6, (rn 2 5 (rn 9 10 []))), (7, (rn 0 4 (rn 5 14 [])))])]
noncomputable def B31_1 : Base := baseOf Pz (fun f i => lkK f i K31) [(61, G61), (38, G38), (70, G70), (68, G68), (62, G62)] [] [(63, FF63)]
theorem hB31_1 : BOk B31_1 := base_ok named_z ⟨s61, s38, s70, s68, s62, trivial⟩ trivial ⟨sFF63, trivial⟩
noncomputable def S31_1 (p1 : (List Mv)) (p2 : Int) (p3 : Pos) (x : (Int)) : St := St.mk (AV.list ET.mv p1 Tk.fresh :: AV.func 69 [] [AV.ptr 0 0] :: (an 5 (AV.int .i64 p2 :: AV.int .i64 x :: (an 10 [])))) (Hp.mk [(pc p3 [])] [0] [] 0 0 0)
noncomputable def O31_1 (p1 : (List Mv)) (p2 : Int) (p3 : Pos) : (Int) ⊕ (Int × Bool) → Out
  | (.inl (y)) => .ret (St.mk (an 4 (AV.int .i64 y :: (an 14 []))) (Hp.mk [(pc p3 [])] [0] [] 0 0 0))
  | (.inr (y)) => .exit 0 (St.mk (AV.list ET.mv p1 Tk.fresh :: AV.func 69 [] [AV.ptr 0 0] :: (an 5 (AV.int .i64 p2 :: AV.int .i64 y.fst :: AV.bool y.snd :: (an 9 [])))) (Hp.mk [(pc p3 [])] [0] [] 0 0 0))
noncomputable def st31_1 (p1 : (List Mv)) (p2 : Int) (p3 : Pos) (x : (Int)) : Stp (Int) ((Int) ⊕ (Int × Bool)) := (bif decide (x < p2) then (bif N70 p3 (p1.getD x.toNat default) then (Stp.out (.inl ((x)))) else (Stp.go (wr .i64 (x + 1)))) else (Stp.out (.inr ((x, decide (x < p2))))))
noncomputable def okL31_1 (p1 : (List Mv)) (p2 : Int) (p3 : Pos) (x : (Int)) : Bool := (bif decide (x < p2) then (decide (0 ≤ x) && decide (x < Int.ofNat p1.length) && (ok70 (p3) (p1.getD x.toNat default) && true)) else true)
noncomputable def lp31_1 (p1 : (List Mv)) (p2 : Int) (p3 : Pos) (x : (Int)) : Option ((Int) ⊕ (Int × Bool)) := itl (fun x => bif okL31_1 p1 p2 p3 x then st31_1 p1 p2 p3 x else .bad) many x
theorem E31_1 (p1 : (List Mv)) (p2 : Int) (p3 : Pos) (x : (Int)) : evCd B31_1 12 130 (bodL Pz 130 2) (S31_1 p1 p2 p3 x) = Tr.br (decide (x < p2)) (Tr.br (decide (0 ≤ x) && decide (x < Int.ofNat p1.length)) (Tr.br (isPS Pz 70 [p3.av, Mv.av (p1.getD x.toNat default)] (dB.res (N70 p3 (p1.getD x.toNat default)))) (Tr.br (N70 p3 (p1.getD x.toNat default)) (Tr.ret (Out.ret (St.mk (an 4 (AV.int .i64 x :: (an 14 []))) (Hp.mk [(pc p3 [])] [0] [] 0 0 0)))) (Tr.ret (Out.norm (St.mk (AV.list ET.mv p1 Tk.fresh :: AV.func 69 [] [AV.ptr 0 0] :: (an 5 (AV.int .i64 p2 :: AV.int .i64 (wr .i64 (x + 1)) :: (an 10 [])))) (Hp.mk [(pc p3 [])] [0] [] 0 0 0))))) Tr.fail) Tr.fail) (Tr.ret (Out.exit 0 (St.mk (AV.list ET.mv p1 Tk.fresh :: AV.func 69 [] [AV.ptr 0 0] :: (an 5 (AV.int .i64 p2 :: AV.int .i64 x :: AV.bool (decide (x < p2)) :: (an 9 [])))) (Hp.mk [(pc p3 [])] [0] [] 0 0 0)))) := by kernel_rfl
theorem L31_1 (p1 : (List Mv)) (p2 : Int) (p3 : Pos) (x : (Int)) (r : (Int) ⊕ (Int × Bool)) (h : lp31_1 p1 p2 p3 x = some r) : LSpec Pz (bodL Pz 130 2) (S31_1 p1 p2 p3 x) (O31_1 p1 p2 p3 r) := LSpec.itd (S := S31_1 p1 p2 p3) (O := O31_1 p1 p2 p3) (ok := okL31_1 p1 p2 p3) (st := st31_1 p1 p2 p3) hB31_1 (fun x => gr_eq (E31_1 p1 p2 p3 x) (gr_br (gr_guard (gr_call (P70 (p3) (p1.getD x.toNat default)) (gr_br2 (gr_ret (rl_ret rfl (wk_nrm (ks := (rn 0 4 (rn 5 14 []))) (gs := []) (b := false) rfl (by kernel_rfl)))) (gr_ret (rl_go (wk_nrm (ks := (rn 2 5 (rn 9 10 []))) (gs := [0, 7, 8]) (b := true) rfl (by kernel_rfl))))))) (gr_ret (rl_exit rfl (wk_nrm (ks := (rn 2 5 (rn 10 9 []))) (gs := []) (b := false) rfl (by kernel_rfl)))))) many x r h
noncomputable def F31_1 : Code → St → Tr Out := fun b s => .br (isL ((lp31_1 (tL (ET.mv) (tT s 0)) (tI (tT s 7)) (Kz.Pos.mk (tI (tH s 0 0)) (tN (tH s 0 1)) (tU (tH s 0 2)) (tN (tH s 0 3)) (tI (tH s 0 4)) (tN (tH s 0 5)) (tI (tH s 0 6)) (tN (tH s 0 7)) (tI (tH s 0 8)) (tI (tH s 0 9))) ((tI (tT s 8)))).getD default)) (sureL Pz (fun s => O31_1 (tL (ET.mv) (tT s 0)) (tI (tT s 7)) (Kz.Pos.mk (tI (tH s 0 0)) (tN (tH s 0 1)) (tU (tH s 0 2)) (tN (tH s 0 3)) (tI (tH s 0 4)) (tN (tH s 0 5)) (tI (tH s 0 6)) (tN (tH s 0 7)) (tI (tH s 0 8)) (tI (tH s 0 9))) (.inl (gl ((lp31_1 (tL (ET.mv) (tT s 0)) (tI (tT s 7)) (Kz.Pos.mk (tI (tH s 0 0)) (tN (tH s 0 1)) (tU (tH s 0 2)) (tN (tH s 0 3)) (tI (tH s 0 4)) (tN (tH s 0 5)) (tI (tH s 0 6)) (tN (tH s 0 7)) (tI (tH s 0 8)) (tI (tH s 0 9))) ((tI (tT s 8)))).getD default)))) b s) (sureL Pz (fun s => O31_1 (tL (ET.mv) (tT s 0)) (tI (tT s 7)) (Kz.Pos.mk (tI (tH s 0 0)) (tN (tH s 0 1)) (tU (tH s 0 2)) (tN (tH s 0 3)) (tI (tH s 0 4)) (tN (tH s 0 5)) (tI (tH s 0 6)) (tN (tH s 0 7)) (tI (tH s 0 8)) (tI (tH s 0 9))) (.inr (gr ((lp31_1 (tL (ET.mv) (tT s 0)) (tI (tT s 7)) (Kz.Pos.mk (tI (tH s 0 0)) (tN (tH s 0 1)) (tU (tH s 0 2)) (tN (tH s 0 3)) (tI (tH s 0 4)) (tN (tH s 0 5)) (tI (tH s 0 6)) (tN (tH s 0 7)) (tI (tH s 0 8)) (tI (tH s 0 9))) ((tI (tT s 8)))).getD default)))) b s)
theorem sF31_1 : ∀ b, LSound Pz b (F31_1 b) := brL_sound (c := fun s => isL ((lp31_1 (tL (ET.mv) (tT s 0)) (tI (tT s 7)) (Kz.Pos.mk (tI (tH s 0 0)) (tN (tH s 0 1)) (tU (tH s 0 2)) (tN (tH s 0 3)) (tI (tH s 0 4)) (tN (tH s 0 5)) (tI (tH s 0 6)) (tN (tH s 0 7)) (tI (tH s 0 8)) (tI (tH s 0 9))) ((tI (tT s 8)))).getD default)) sureL_sound sureL_sound
noncomputable def B31 : Base := baseOf Pz (fun f i => lkK f i K31) [(61, G61), (38, G38), (70, G70), (68, G68), (62, G62)] [(130, 2, F31_1)] [(63, FF63)]
theorem hB31 : BOk B31 := base_ok named_z ⟨s61, s38, s70, s68, s62, trivial⟩ ⟨sF31_1, trivial⟩ ⟨sFF63, trivial⟩
noncomputable def N31 (a : Pos) : List Mv := (bif N61 a.variant a.turn then (bif !N62 a a.turn then ([]) else (bif a.variant == 4 then (bif isL ((lp31_1 (kept 67 a (N38 a)) (Int.ofNat (kept 67 a (N38 a)).length) a 0).getD default) then (bif decide (gl ((lp31_1 (kept 67 a (N38 a)) (Int.ofNat (kept 67 a (N38 a)).length) a 0).getD default) ≥ 0) then (kept 69 a (kept 67 a (N38 a))) else (kept 67 a (N38 a))) else (kept 67 a (N38 a))) else (kept 67 a (N38 a)))) else (bif a.variant == 4 then (bif isL ((lp31_1 (kept 67 a (N38 a)) (Int.ofNat (kept 67 a (N38 a)).length) a 0).getD default) then (bif decide (gl ((lp31_1 (kept 67 a (N38 a)) (Int.ofNat (kept 67 a (N38 a)).length) a 0).getD default) ≥ 0) then (kept 69 a (kept 67 a (N38 a))) else (kept 67 a (N38 a))) else (kept 67 a (N38 a))) else (kept 67 a (N38 a))))
noncomputable def ok31 (a : Pos) : Bool := (ok61 (a.variant) (a.turn) && (bif N61 a.variant a.turn then (ok62 (a) (a.turn) && (bif !N62 a a.turn then true else (ok38 (a) && (okKept 67 a (N38 a) && (bif a.variant == 4 then ((lp31_1 (kept 67 a (N38 a)) (Int.ofNat (kept 67 a (N38 a)).length) a 0).isSome && bif isL ((lp31_1 (kept 67 a (N38 a)) (Int.ofNat (kept 67 a (N38 a)).length) a 0).getD default) then (bif decide (gl ((lp31_1 (kept 67 a (N38 a)) (Int.ofNat (kept 67 a (N38 a)).length) a 0).getD default) ≥ 0) then (okKept 69 a (kept 67 a (N38 a)) && true) else true) else true) else true))))) else (ok38 (a) && (okKept 67 a (N38 a) && (bif a.variant == 4 then ((lp31_1 (kept 67 a (N38 a)) (Int.ofNat (kept 67 a (N38 a)).length) a 0).isSome && bif isL ((lp31_1 (kept 67 a (N38 a)) (Int.ofNat (kept 67 a (N38 a)).length) a 0).getD default) then (bif decide (gl ((lp31_1 (kept 67 a (N38 a)) (Int.ofNat (kept 67 a (N38 a)).length) a 0).getD default) ≥ 0) then (okKept 69 a (kept 67 a (N38 a)) && true) else true) else true) else true)))))
theorem E31 (a : Pos) : evPure B31 14 31 [Pos.av a] = (let z1 := (Tr.br (isPS Pz 38 [a.av] ((dL ET.mv).res (N38 a))) (Tr.br (okKept 67 a (N38 a)) (Tr.br (a.variant == 4) (Tr.br (isL ((lp31_1 (kept 67 a (N38 a)) (Int.ofNat (kept 67 a (N38 a)).length) a 0).getD default)) (Tr.br (isLS Pz (bodL Pz 130 2) (St.mk (AV.list ET.mv (kept 67 a (N38 a)) Tk.fresh :: AV.func 69 [] [AV.ptr 0 0] :: (an 5 (AV.int .i64 (Int.ofNat (kept 67 a (N38 a)).length) :: AV.cint .i64 0 :: (an 10 [])))) (Hp.mk [(pc a [])] [0] [] 0 0 0)) (O31_1 (kept 67 a (N38 a)) (Int.ofNat (kept 67 a (N38 a)).length) a (Sum.inl (gl ((lp31_1 (kept 67 a (N38 a)) (Int.ofNat (kept 67 a (N38 a)).length) a 0).getD default))))) (Tr.br (decide (gl ((lp31_1 (kept 67 a (N38 a)) (Int.ofNat (kept 67 a (N38 a)).length) a 0).getD default) ≥ 0)) (Tr.br (okKept 69 a (kept 67 a (N38 a))) (Tr.ret (AV.list ET.mv (kept 69 a (kept 67 a (N38 a))) Tk.fresh)) Tr.fail) (Tr.ret (AV.list ET.mv (kept 67 a (N38 a)) Tk.fresh))) Tr.fail) (Tr.br (isLS Pz (bodL Pz 130 2) (St.mk (AV.list ET.mv (kept 67 a (N38 a)) Tk.fresh :: AV.func 69 [] [AV.ptr 0 0] :: (an 5 (AV.int .i64 (Int.ofNat (kept 67 a (N38 a)).length) :: AV.cint .i64 0 :: (an 10 [])))) (Hp.mk [(pc a [])] [0] [] 0 0 0)) (O31_1 (kept 67 a (N38 a)) (Int.ofNat (kept 67 a (N38 a)).length) a (Sum.inr (gr ((lp31_1 (kept 67 a (N38 a)) (Int.ofNat (kept 67 a (N38 a)).length) a 0).getD default))))) (Tr.ret (AV.list ET.mv (kept 67 a (N38 a)) Tk.fresh)) Tr.fail)) (Tr.ret (AV.list ET.mv (kept 67 a (N38 a)) Tk.fresh))) Tr.fail) Tr.fail); Tr.br (isPS Pz 61 [AV.int .u8 a.variant, AV.int .u8 a.turn] (dB.res (N61 a.variant a.turn))) (Tr.br (N61 a.variant a.turn) (Tr.br (isPS Pz 62 [a.av, AV.int .u8 a.turn] (dB.res (N62 a a.turn))) (Tr.br (!N62 a a.turn) (Tr.ret (AV.list ET.mv [] Tk.fresh)) z1) Tr.fail) z1) Tr.fail) := by kernel_rfl
theorem P31 (a : Pos) (h : ok31 a = true) : PS Pz 31 [Pos.av a] ((dL .mv).res (N31 a)) := ps_gotR hB31 (E31 a) (gr_call (P61 (a.variant) (a.turn)) (gr_br (gr_call (P62 (a) (a.turn)) (gr_br (gr_ret rfl) (gr_call (P38 (a)) (gr_guard (gr_br (gr_loop2 (fun h => L31_1 (kept 67 a (N38 a)) (Int.ofNat (kept 67 a (N38 a)).length) (a) (0) _ (some_getD h)) (wk_nrm (ks := (rn 2 5 (rn 9 10 []))) (gs := [0, 7, 8]) (b := true) rfl (by kernel_rfl)) (gr_br (gr_guard (gr_ret rfl)) (gr_ret rfl)) (gr_ret rfl)) (gr_ret rfl)))))) (gr_call (P38 (a)) (gr_guard (gr_br (gr_loop2 (fun h => L31_1 (kept 67 a (N38 a)) (Int.ofNat (kept 67 a (N38 a)).length) (a) (0) _ (some_getD h)) (wk_nrm (ks := (rn 2 5 (rn 9 10 []))) (gs := [0, 7, 8]) (b := true) rfl (by kernel_rfl)) (gr_br (gr_guard (gr_ret rfl)) (gr_ret rfl)) (gr_ret rfl)) (gr_ret rfl)))))) h
noncomputable def G31 : List AV → Tr AV := g1 dPos (fun a => sure Pz 31 [Pos.av a] ((dL .mv).res (N31 a)))
theorem s31 : Sound Pz 31 G31 := sound1 (fun _ => at_sure)
end Kz
end
section
namespace Kz
open Go Go.RowKit Go.Proofs
set_option maxRecDepth 100000
set_option maxHeartbeats 4000000
noncomputable def K128 : List (Nat × List (Nat × List Nat)) := [(71, [(0, (rn 2 7 [])), (1, (rn 0 4 (rn 5 4 [])))]), (128, [(0, (0 :: (rn 3 13 (rn 17 23 [])))), (1, (0 :: (rn 4 12 (rn 17 23 [])))), (2, (0 :: 3 :: (rn 6 10 (rn 17 23 [])))), (3, (0 :: 3 :: (rn 6 7 (rn 14 26 [])))), (4, (0 :: 1 :: (rn 3 37 []))), (5, (0 :: 3 :: (rn 5 14 (rn 20 20 [])))), (6, (0 :: 1 :: (rn 3 37 []))), (7, (0 :: (rn 3 19 (rn 23 17 [])))), (8, (0 :: 1 :: (rn 3 37 []))), (9, (0 :: (rn 3 23 (rn 27 13 [])))), (10, (0 :: 1 :: (rn 3 37 []))), (11, (0 :: 3 :: 4 :: 5 :: (rn 7 33 []))), (12, (0 :: (rn 3 4 (rn 8 32 [])))), (13, (0 :: 1 :: (rn 3 34 [38, 39]))), (14, (0 :: 1 :: (rn 3 37 []))), (15, (0 :: 1 :: (rn 3 37 [])))]), (130, [(0, (rn 2 17 [])), (1, (rn 2 5 (rn 9 10 []))), (2, (rn 2 5 (rn 10 9 []))), (3, (2 :: 3 :: 4 :: 6 :: (rn 9 10 []))), (4, (2 :: 3 :: 4 :: 6 :: (rn 9 7 [17, 18]))), (5, (rn 0 4 (rn 5 14 []))), (6, (rn 2 5 (rn 9 10 []))), (7, (rn 0 4 (rn 5 14 [])))]), (170, [(0, (rn 2 6 [])), (1, (0 :: 1 :: 2 :: (rn 4 4 [])))]), (171, [(0, (0 :: (rn 3 7 [13]))), (1, (0 :: 1 :: 2 :: (rn 4 10 [])))])]
noncomputable def B128_1 : Base := baseOf Pz (fun f i => lkK f i K128) [(31, G31), (99, G99), (166, G166)] [] []
theorem hB128_1 : BOk B128_1 := base_ok named_z ⟨s31, s99, s166, trivial⟩ trivial trivial
noncomputable def S128_1 (p1 : (List Mv)) (p2 : Int) (p3 : Pos) (p4 : Int) (x : (Int)) : St := St.mk (AV.list ET.mv p1 Tk.fresh :: AV.func 171 [] [AV.ptr 2 0] :: (an 5 (AV.int .i64 p2 :: AV.int .i64 x :: (an 10 [])))) (Hp.mk [(pc p3 []), [AV.int .u8 0, AV.int .u8 0], [AV.int .i64 p4]] [] [] 0 0 0)
noncomputable def O128_1 (p1 : (List Mv)) (p2 : Int) (p3 : Pos) (p4 : Int) : (Int) ⊕ (Int × Bool) → Out
  | (.inl (y)) => .ret (St.mk (an 4 (AV.int .i64 y :: (an 14 []))) (Hp.mk [(pc p3 []), [AV.int .u8 0, AV.int .u8 0], [AV.int .i64 p4]] [] [] 0 0 0))
  | (.inr (y)) => .exit 0 (St.mk (AV.list ET.mv p1 Tk.fresh :: AV.func 171 [] [AV.ptr 2 0] :: (an 5 (AV.int .i64 p2 :: AV.int .i64 y.fst :: AV.bool y.snd :: (an 9 [])))) (Hp.mk [(pc p3 []), [AV.int .u8 0, AV.int .u8 0], [AV.int .i64 p4]] [] [] 0 0 0))
noncomputable def st128_1 (p1 : (List Mv)) (p2 : Int) (p3 : Pos) (p4 : Int) (x : (Int)) : Stp (Int) ((Int) ⊕ (Int × Bool)) := (bif decide (x < p2) then (bif wr .i64 (p1.getD x.toNat default).frm == p4 then (bif decide ((p1.getD x.toNat default).to ≥ 56) then (Stp.out (.inl ((x)))) else (Stp.go (wr .i64 (x + 1)))) else (Stp.go (wr .i64 (x + 1)))) else (Stp.out (.inr ((x, decide (x < p2))))))
noncomputable def okL128_1 (p1 : (List Mv)) (p2 : Int) (p3 : Pos) (p4 : Int) (x : (Int)) : Bool := (bif decide (x < p2) then (decide (0 ≤ x) && decide (x < Int.ofNat p1.length) && true) else true)
noncomputable def lp128_1 (p1 : (List Mv)) (p2 : Int) (p3 : Pos) (p4 : Int) (x : (Int)) : Option ((Int) ⊕ (Int × Bool)) := itl (fun x => bif okL128_1 p1 p2 p3 p4 x then st128_1 p1 p2 p3 p4 x else .bad) many x
theorem E128_1 (p1 : (List Mv)) (p2 : Int) (p3 : Pos) (p4 : Int) (x : (Int)) : evCd B128_1 12 130 (bodL Pz 130 2) (S128_1 p1 p2 p3 p4 x) = Tr.br (decide (x < p2)) (Tr.br (decide (0 ≤ x) && decide (x < Int.ofNat p1.length)) (Tr.br (wr .i64 (p1.getD x.toNat default).frm == p4) (Tr.br (decide ((p1.getD x.toNat default).to ≥ 56)) (Tr.ret (Out.ret (St.mk (an 4 (AV.int .i64 x :: (an 14 []))) (Hp.mk [(pc p3 []), [AV.int .u8 0, AV.int .u8 0], [AV.int .i64 p4]] [] [] 0 0 0)))) (Tr.ret (Out.norm (St.mk (AV.list ET.mv p1 Tk.fresh :: AV.func 171 [] [AV.ptr 2 0] :: (an 5 (AV.int .i64 p2 :: AV.int .i64 (wr .i64 (x + 1)) :: (an 10 [])))) (Hp.mk [(pc p3 []), [AV.int .u8 0, AV.int .u8 0], [AV.int .i64 p4]] [] [] 0 0 0))))) (Tr.ret (Out.norm (St.mk (AV.list ET.mv p1 Tk.fresh :: AV.func 171 [] [AV.ptr 2 0] :: (an 5 (AV.int .i64 p2 :: AV.int .i64 (wr .i64 (x + 1)) :: (an 10 [])))) (Hp.mk [(pc p3 []), [AV.int .u8 0, AV.int .u8 0], [AV.int .i64 p4]] [] [] 0 0 0))))) Tr.fail) (Tr.ret (Out.exit 0 (St.mk (AV.list ET.mv p1 Tk.fresh :: AV.func 171 [] [AV.ptr 2 0] :: (an 5 (AV.int .i64 p2 :: AV.int .i64 x :: AV.bool (decide (x < p2)) :: (an 9 [])))) (Hp.mk [(pc p3 []), [AV.int .u8 0, AV.int .u8 0], [AV.int .i64 p4]] [] [] 0 0 0)))) := by kernel_rfl
theorem L128_1 (p1 : (List Mv)) (p2 : Int) (p3 : Pos) (p4 : Int) (x : (Int)) (r : (Int) ⊕ (Int × Bool)) (h : lp128_1 p1 p2 p3 p4 x = some r) : LSpec Pz (bodL Pz 130 2) (S128_1 p1 p2 p3 p4 x) (O128_1 p1 p2 p3 p4 r) := LSpec.itd (S := S128_1 p1 p2 p3 p4) (O := O128_1 p1 p2 p3 p4) (ok := okL128_1 p1 p2 p3 p4) (st := st128_1 p1 p2 p3 p4) hB128_1 (fun x => gr_eq (E128_1 p1 p2 p3 p4 x) (gr_br (gr_guard (gr_br2 (gr_br2 (gr_ret (rl_ret rfl (wk_nrm (ks := (rn 0 4 (rn 5 14 []))) (gs := []) (b := false) rfl (by kernel_rfl)))) (gr_ret (rl_go (wk_nrm (ks := (rn 2 5 (rn 9 10 []))) (gs := [0, 7, 8]) (b := true) rfl (by kernel_rfl))))) (gr_ret (rl_go (wk_nrm (ks := (rn 2 5 (rn 9 10 []))) (gs := [0, 7, 8]) (b := true) rfl (by kernel_rfl)))))) (gr_ret (rl_exit rfl (wk_nrm (ks := (rn 2 5 (rn 10 9 []))) (gs := []) (b := false) rfl (by kernel_rfl)))))) many x r h
noncomputable def F128_1 : Code → St → Tr Out := fun b s => .br (isL ((lp128_1 (tL (ET.mv) (tT s 0)) (tI (tT s 7)) (Kz.Pos.mk (tI (tH s 0 0)) (tN (tH s 0 1)) (tU (tH s 0 2)) (tN (tH s 0 3)) (tI (tH s 0 4)) (tN (tH s 0 5)) (tI (tH s 0 6)) (tN (tH s 0 7)) (tI (tH s 0 8)) (tI (tH s 0 9))) (tI (tH s 2 0)) ((tI (tT s 8)))).getD default)) (sureL Pz (fun s => O128_1 (tL (ET.mv) (tT s 0)) (tI (tT s 7)) (Kz.Pos.mk (tI (tH s 0 0)) (tN (tH s 0 1)) (tU (tH s 0 2)) (tN (tH s 0 3)) (tI (tH s 0 4)) (tN (tH s 0 5)) (tI (tH s 0 6)) (tN (tH s 0 7)) (tI (tH s 0 8)) (tI (tH s 0 9))) (tI (tH s 2 0)) (.inl (gl ((lp128_1 (tL (ET.mv) (tT s 0)) (tI (tT s 7)) (Kz.Pos.mk (tI (tH s 0 0)) (tN (tH s 0 1)) (tU (tH s 0 2)) (tN (tH s 0 3)) (tI (tH s 0 4)) (tN (tH s 0 5)) (tI (tH s 0 6)) (tN (tH s 0 7)) (tI (tH s 0 8)) (tI (tH s 0 9))) (tI (tH s 2 0)) ((tI (tT s 8)))).getD default)))) b s) (sureL Pz (fun s => O128_1 (tL (ET.mv) (tT s 0)) (tI (tT s 7)) (Kz.Pos.mk (tI (tH s 0 0)) (tN (tH s 0 1)) (tU (tH s 0 2)) (tN (tH s 0 3)) (tI (tH s 0 4)) (tN (tH s 0 5)) (tI (tH s 0 6)) (tN (tH s 0 7)) (tI (tH s 0 8)) (tI (tH s 0 9))) (tI (tH s 2 0)) (.inr (gr ((lp128_1 (tL (ET.mv) (tT s 0)) (tI (tT s 7)) (Kz.Pos.mk (tI (tH s 0 0)) (tN (tH s 0 1)) (tU (tH s 0 2)) (tN (tH s 0 3)) (tI (tH s 0 4)) (tN (tH s 0 5)) (tI (tH s 0 6)) (tN (tH s 0 7)) (tI (tH s 0 8)) (tI (tH s 0 9))) (tI (tH s 2 0)) ((tI (tT s 8)))).getD default)))) b s)
theorem sF128_1 : ∀ b, LSound Pz b (F128_1 b) := brL_sound (c := fun s => isL ((lp128_1 (tL (ET.mv) (tT s 0)) (tI (tT s 7)) (Kz.Pos.mk (tI (tH s 0 0)) (tN (tH s 0 1)) (tU (tH s 0 2)) (tN (tH s 0 3)) (tI (tH s 0 4)) (tN (tH s 0 5)) (tI (tH s 0 6)) (tN (tH s 0 7)) (tI (tH s 0 8)) (tI (tH s 0 9))) (tI (tH s 2 0)) ((tI (tT s 8)))).getD default)) sureL_sound sureL_sound
noncomputable def B128 : Base := baseOf Pz (fun f i => lkK f i K128) [(31, G31), (99, G99), (166, G166)] [(130, 2, F128_1)] []
theorem hB128 : BOk B128 := base_ok named_z ⟨s31, s99, s166, trivial⟩ ⟨sF128_1, trivial⟩ trivial
noncomputable def N128 (a : Pos) : (Int × Int) := (bif decide (N99 a 0 6 ≥ 56) then (bif decide (N99 a 1 6 ≥ 56) then ⟨(3), (6)⟩ else (bif decide (N99 a 1 6 ≥ 56) then ⟨((N166 1 6).fst), ((N166 1 6).snd)⟩ else (bif !decide (N99 a 0 6 ≥ 56) then ⟨(0), (0)⟩ else (bif a.turn == 0 then ⟨((N166 0 6).fst), ((N166 0 6).snd)⟩ else (bif isL ((lp128_1 (N31 a) (Int.ofNat (N31 a).length) a (N99 a 1 6) 0).getD default) then (bif decide (gl ((lp128_1 (N31 a) (Int.ofNat (N31 a).length) a (N99 a 1 6) 0).getD default) ≥ 0) then ⟨(0), (0)⟩ else ⟨((N166 0 6).fst), ((N166 0 6).snd)⟩) else ⟨((N166 0 6).fst), ((N166 0 6).snd)⟩))))) else (bif decide (N99 a 1 6 ≥ 56) then ⟨((N166 1 6).fst), ((N166 1 6).snd)⟩ else (bif !decide (N99 a 0 6 ≥ 56) then ⟨(0), (0)⟩ else (bif a.turn == 0 then ⟨((N166 0 6).fst), ((N166 0 6).snd)⟩ else (bif isL ((lp128_1 (N31 a) (Int.ofNat (N31 a).length) a (N99 a 1 6) 0).getD default) then (bif decide (gl ((lp128_1 (N31 a) (Int.ofNat (N31 a).length) a (N99 a 1 6) 0).getD default) ≥ 0) then ⟨(0), (0)⟩ else ⟨((N166 0 6).fst), ((N166 0 6).snd)⟩) else ⟨((N166 0 6).fst), ((N166 0 6).snd)⟩)))))
noncomputable def ok128 (a : Pos) : Bool := (ok99 (a) (0) (6) && (ok99 (a) (1) (6) && (bif decide (N99 a 0 6 ≥ 56) then (bif decide (N99 a 1 6 ≥ 56) then true else (bif decide (N99 a 1 6 ≥ 56) then true else (bif !decide (N99 a 0 6 ≥ 56) then true else (bif a.turn == 0 then true else (ok99 (a) (1) (6) && (ok31 (a) && ((lp128_1 (N31 a) (Int.ofNat (N31 a).length) a (N99 a 1 6) 0).isSome && bif isL ((lp128_1 (N31 a) (Int.ofNat (N31 a).length) a (N99 a 1 6) 0).getD default) then true else true))))))) else (bif decide (N99 a 1 6 ≥ 56) then true else (bif !decide (N99 a 0 6 ≥ 56) then true else (bif a.turn == 0 then true else (ok99 (a) (1) (6) && (ok31 (a) && ((lp128_1 (N31 a) (Int.ofNat (N31 a).length) a (N99 a 1 6) 0).isSome && bif isL ((lp128_1 (N31 a) (Int.ofNat (N31 a).length) a (N99 a 1 6) 0).getD default) then true else true)))))))))
theorem E128 (a : Pos) : evPure B128 14 128 [Pos.av a] = (let z1 := (Tr.br (decide (N99 a 1 6 ≥ 56)) (Tr.br (isPS Pz 166 [AV.int .u8 1, AV.int .u8 6] ((dR .u8 .u8).res (N166 1 6))) (Tr.ret (AV.agg [AV.int .u8 (N166 1 6).fst, AV.int .u8 (N166 1 6).snd])) Tr.fail) (Tr.br (!decide (N99 a 0 6 ≥ 56)) (Tr.ret (AV.agg [AV.cint .u8 0, AV.cint .u8 0])) (Tr.br (a.turn == 0) (Tr.br (isPS Pz 166 [AV.int .u8 0, AV.int .u8 6] ((dR .u8 .u8).res (N166 0 6))) (Tr.ret (AV.agg [AV.int .u8 (N166 0 6).fst, AV.int .u8 (N166 0 6).snd])) Tr.fail) (Tr.br (isPS Pz 99 [a.av, AV.int .u8 1, AV.int .u8 6] ((dI .i64).res (N99 a 1 6))) (Tr.br (isPS Pz 31 [a.av] ((dL ET.mv).res (N31 a))) (Tr.br (isL ((lp128_1 (N31 a) (Int.ofNat (N31 a).length) a (N99 a 1 6) 0).getD default)) (Tr.br (isLS Pz (bodL Pz 130 2) (St.mk (AV.list ET.mv (N31 a) Tk.fresh :: AV.func 171 [] [AV.ptr 2 0] :: (an 5 (AV.int .i64 (Int.ofNat (N31 a).length) :: AV.cint .i64 0 :: (an 10 [])))) (Hp.mk [(pc a []), [AV.cint .u8 0, AV.cint .u8 0], [AV.int .i64 (N99 a 1 6)]] [] [] 0 0 0)) (O128_1 (N31 a) (Int.ofNat (N31 a).length) a (N99 a 1 6) (Sum.inl (gl ((lp128_1 (N31 a) (Int.ofNat (N31 a).length) a (N99 a 1 6) 0).getD default))))) (Tr.br (decide (gl ((lp128_1 (N31 a) (Int.ofNat (N31 a).length) a (N99 a 1 6) 0).getD default) ≥ 0)) (Tr.ret (AV.agg [AV.cint .u8 0, AV.cint .u8 0])) (Tr.br (isPS Pz 166 [AV.int .u8 0, AV.int .u8 6] ((dR .u8 .u8).res (N166 0 6))) (Tr.ret (AV.agg [AV.int .u8 (N166 0 6).fst, AV.int .u8 (N166 0 6).snd])) Tr.fail)) Tr.fail) (Tr.br (isLS Pz (bodL Pz 130 2) (St.mk (AV.list ET.mv (N31 a) Tk.fresh :: AV.func 171 [] [AV.ptr 2 0] :: (an 5 (AV.int .i64 (Int.ofNat (N31 a).length) :: AV.cint .i64 0 :: (an 10 [])))) (Hp.mk [(pc a []), [AV.cint .u8 0, AV.cint .u8 0], [AV.int .i64 (N99 a 1 6)]] [] [] 0 0 0)) (O128_1 (N31 a) (Int.ofNat (N31 a).length) a (N99 a 1 6) (Sum.inr (gr ((lp128_1 (N31 a) (Int.ofNat (N31 a).length) a (N99 a 1 6) 0).getD default))))) (Tr.br (isPS Pz 166 [AV.int .u8 0, AV.int .u8 6] ((dR .u8 .u8).res (N166 0 6))) (Tr.ret (AV.agg [AV.int .u8 (N166 0 6).fst, AV.int .u8 (N166 0 6).snd])) Tr.fail) Tr.fail)) Tr.fail) Tr.fail)))); Tr.br (isPS Pz 99 [a.av, AV.int .u8 0, AV.int .u8 6] ((dI .i64).res (N99 a 0 6))) (Tr.br (isPS Pz 99 [a.av, AV.int .u8 1, AV.int .u8 6] ((dI .i64).res (N99 a 1 6))) (Tr.br (decide (N99 a 0 6 ≥ 56)) (Tr.br (decide (N99 a 1 6 ≥ 56)) (Tr.ret (AV.agg [AV.cint .u8 3, AV.cint .u8 6])) z1) z1) Tr.fail) Tr.fail) := by kernel_rfl
theorem P128 (a : Pos) (h : ok128 a = true) : PS Pz 128 [Pos.av a] ((dR .u8 .u8).res (N128 a)) := ps_gotR hB128 (E128 a) (gr_call (P99 (a) (0) (6)) (gr_call (P99 (a) (1) (6)) (gr_br (gr_br (gr_ret rfl) (gr_br (gr_callT (P166 (1) (6) rfl) (gr_ret rfl)) (gr_br (gr_ret rfl) (gr_br (gr_callT (P166 (0) (6) rfl) (gr_ret rfl)) (gr_call (P99 (a) (1) (6)) (gr_call (P31 (a)) (gr_loop2 (fun h => L128_1 (N31 a) (Int.ofNat (N31 a).length) (a) (N99 a 1 6) (0) _ (some_getD h)) (wk_nrm (ks := (rn 2 5 (rn 9 10 []))) (gs := [0, 7, 8]) (b := true) rfl (by kernel_rfl)) (gr_br2 (gr_ret rfl) (gr_callT (P166 (0) (6) rfl) (gr_ret rfl))) (gr_callT (P166 (0) (6) rfl) (gr_ret rfl))))))))) (gr_br (gr_callT (P166 (1) (6) rfl) (gr_ret rfl)) (gr_br (gr_ret rfl) (gr_br (gr_callT (P166 (0) (6) rfl) (gr_ret rfl)) (gr_call (P99 (a) (1) (6)) (gr_call (P31 (a)) (gr_loop2 (fun h => L128_1 (N31 a) (Int.ofNat (N31 a).length) (a) (N99 a 1 6) (0) _ (some_getD h)) (wk_nrm (ks := (rn 2 5 (rn 9 10 []))) (gs := [0, 7, 8]) (b := true) rfl (by kernel_rfl)) (gr_br2 (gr_ret rfl) (gr_callT (P166 (0) (6) rfl) (gr_ret rfl))) (gr_callT (P166 (0) (6) rfl) (gr_ret rfl))))))))))) h
noncomputable def G128 : List AV → Tr AV := g1 dPos (fun a => sure Pz 128 [Pos.av a] ((dR .u8 .u8).res (N128 a)))
theorem s128 : Sound Pz 128 G128 := sound1 (fun _ => at_sure)
end Kz
end
section
namespace Kz
open Go Go.RowKit Go.Proofs
set_option maxRecDepth 100000
set_option maxHeartbeats 4000000
noncomputable def K30 : List (Nat × List (Nat × List Nat)) := [(30, [(0, (0 :: (rn 3 5 (rn 11 14 [])))), (1, (0 :: (rn 3 8 (rn 12 13 [])))), (2, (0 :: 1 :: (rn 3 22 []))), (3, (0 :: (rn 4 21 []))), (4, (0 :: (rn 4 15 (rn 20 5 [])))), (5, (0 :: 1 :: (rn 3 22 []))), (6, (0 :: 1 :: (rn 3 22 [])))])]
noncomputable def B30 : Base := baseOf Pz (fun f i => lkK f i K30) [(60, G60), (123, G123), (124, G124), (125, G125), (126, G126), (127, G127), (128, G128)] [] []
theorem hB30 : BOk B30 := base_ok named_z ⟨s60, s123, s124, s125, s126, s127, s128, trivial⟩ trivial trivial
noncomputable def N30 (a : Pos) : (Int × Int) := (bif decide (a.variant ≥ 9) then ⟨(0), (0)⟩ else (bif decide (a.turn > 1) then ⟨(0), (0)⟩ else (bif a.variant == Int.ofNat 0 then ⟨(0), (0)⟩ else (bif a.variant == Int.ofNat 1 then ⟨(0), (0)⟩ else (bif a.variant == Int.ofNat 2 then ⟨(0), (0)⟩ else (bif a.variant == Int.ofNat 3 then ⟨((N123 a).fst), ((N123 a).snd)⟩ else (bif a.variant == Int.ofNat 4 then ⟨((N127 a).fst), ((N127 a).snd)⟩ else (bif a.variant == Int.ofNat 5 then ⟨((N124 a).fst), ((N124 a).snd)⟩ else (bif a.variant == Int.ofNat 6 then ⟨((N125 a).fst), ((N125 a).snd)⟩ else (bif a.variant == Int.ofNat 7 then ⟨((N126 a).fst), ((N126 a).snd)⟩ else ⟨((N128 a).fst), ((N128 a).snd)⟩))))))))))
noncomputable def ok30 (a : Pos) : Bool := (bif decide (a.variant ≥ 9) then true else (bif decide (a.turn > 1) then true else (decide (0 ≤ a.variant) && decide (a.variant < Int.ofNat 9) && (bif a.variant == Int.ofNat 0 then true else (bif a.variant == Int.ofNat 1 then true else (bif a.variant == Int.ofNat 2 then true else (bif a.variant == Int.ofNat 3 then (ok123 (a) && true) else (bif a.variant == Int.ofNat 4 then (ok127 (a) && true) else (bif a.variant == Int.ofNat 5 then (ok124 (a) && true) else (bif a.variant == Int.ofNat 6 then (ok125 (a) && true) else (bif a.variant == Int.ofNat 7 then (ok126 (a) && true) else (a.variant == Int.ofNat 8 && (ok128 (a) && true)))))))))))))
theorem E30 (a : Pos) : evPure B30 14 30 [Pos.av a] = (let z1 := (Tr.ret (AV.agg [AV.cint .u8 0, AV.cint .u8 0])); Tr.br (decide (a.variant ≥ 9)) z1 (Tr.br (decide (a.turn > 1)) z1 (Tr.br (isPS Pz 60 [] V57) (Tr.br (decide (0 ≤ a.variant) && decide (a.variant < Int.ofNat 9)) (Tr.br (a.variant == Int.ofNat 0) z1 (Tr.br (a.variant == Int.ofNat 1) z1 (Tr.br (a.variant == Int.ofNat 2) z1 (Tr.br (a.variant == Int.ofNat 3) (Tr.br (isPS Pz 123 [a.av] ((dR .u8 .u8).res (N123 a))) (Tr.ret (AV.agg [AV.int .u8 (N123 a).fst, AV.int .u8 (N123 a).snd])) Tr.fail) (Tr.br (a.variant == Int.ofNat 4) (Tr.br (isPS Pz 127 [a.av] ((dR .u8 .u8).res (N127 a))) (Tr.ret (AV.agg [AV.int .u8 (N127 a).fst, AV.int .u8 (N127 a).snd])) Tr.fail) (Tr.br (a.variant == Int.ofNat 5) (Tr.br (isPS Pz 124 [a.av] ((dR .u8 .u8).res (N124 a))) (Tr.ret (AV.agg [AV.int .u8 (N124 a).fst, AV.int .u8 (N124 a).snd])) Tr.fail) (Tr.br (a.variant == Int.ofNat 6) (Tr.br (isPS Pz 125 [a.av] ((dR .u8 .u8).res (N125 a))) (Tr.ret (AV.agg [AV.int .u8 (N125 a).fst, AV.int .u8 (N125 a).snd])) Tr.fail) (Tr.br (a.variant == Int.ofNat 7) (Tr.br (isPS Pz 126 [a.av] ((dR .u8 .u8).res (N126 a))) (Tr.ret (AV.agg [AV.int .u8 (N126 a).fst, AV.int .u8 (N126 a).snd])) Tr.fail) (Tr.br (a.variant == Int.ofNat 8) (Tr.br (isPS Pz 128 [a.av] ((dR .u8 .u8).res (N128 a))) (Tr.ret (AV.agg [AV.int .u8 (N128 a).fst, AV.int .u8 (N128 a).snd])) Tr.fail) Tr.fail))))))))) Tr.fail) Tr.fail))) := by kernel_rfl
theorem P30 (a : Pos) (h : ok30 a = true) : PS Pz 30 [Pos.av a] ((dR .u8 .u8).res (N30 a)) := ps_gotR hB30 (E30 a) (gr_br (gr_ret rfl) (gr_br (gr_ret rfl) (gr_callT (P60 rfl) (gr_guard (gr_br (gr_ret rfl) (gr_br (gr_ret rfl) (gr_br (gr_ret rfl) (gr_br (gr_call (P123 (a)) (gr_ret rfl)) (gr_br (gr_call (P127 (a)) (gr_ret rfl)) (gr_br (gr_call (P124 (a)) (gr_ret rfl)) (gr_br (gr_call (P125 (a)) (gr_ret rfl)) (gr_br (gr_call (P126 (a)) (gr_ret rfl)) (gr_guard (gr_call (P128 (a)) (gr_ret rfl))))))))))))))) h
noncomputable def G30 : List AV → Tr AV := g1 dPos (fun a => sure Pz 30 [Pos.av a] ((dR .u8 .u8).res (N30 a)))
theorem s30 : Sound Pz 30 G30 := sound1 (fun _ => at_sure)
end Kz
end
section
namespace Kz
open Go Go.RowKit Go.Proofs
set_option maxRecDepth 100000
set_option maxHeartbeats 4000000
noncomputable def K11 : List (Nat × List (Nat × List Nat)) := [(11, [(0, (0 :: (rn 2 7 []))), (1, (0 :: (rn 2 4 [7, 8]))), (2, (0 :: 1 :: (rn 3 6 []))), (3, (0 :: 1 :: (rn 3 6 [])))])]
noncomputable def B11 : Base := baseOf Pz (fun f i => lkK f i K11) [(30, G30), (31, G31)] [] []
theorem hB11 : BOk B11 := base_ok named_z ⟨s30, s31, trivial⟩ trivial trivial
noncomputable def N11 (a : Pos) : List Mv := (bif (N30 a).fst != 0 then ([]) else (N31 a))
noncomputable def ok11 (a : Pos) : Bool := (ok30 (a) && (bif (N30 a).fst != 0 then true else (ok31 (a) && true)))
theorem E11 (a : Pos) : evPure B11 14 11 [Pos.av a] = Tr.br (isPS Pz 30 [a.av] ((dR .u8 .u8).res (N30 a))) (Tr.br ((N30 a).fst != 0) (Tr.ret (AV.list ET.mv [] Tk.fresh)) (Tr.br (isPS Pz 31 [a.av] ((dL ET.mv).res (N31 a))) (Tr.ret (AV.list ET.mv (N31 a) Tk.fresh)) Tr.fail)) Tr.fail := by kernel_rfl
theorem P11 (a : Pos) (h : ok11 a = true) : PS Pz 11 [Pos.av a] ((dL .mv).res (N11 a)) := ps_gotR hB11 (E11 a) (gr_call (P30 (a)) (gr_br (gr_ret rfl) (gr_call (P31 (a)) (gr_ret rfl)))) h
noncomputable def G11 : List AV → Tr AV := g1 dPos (fun a => sure Pz 11 [Pos.av a] ((dL .mv).res (N11 a)))
theorem s11 : Sound Pz 11 G11 := sound1 (fun _ => at_sure)
end Kz
end
section
namespace Kz
open Go
set_option maxRecDepth 100000
theorem t62 (p : Pos) (b : Int) : ok62 p b = true := a_true (t99 _ _ _) fun _ => rfl
section
variable {p : Pos} (hp : PosIn p)
include hp
theorem move_var (m : Mv) : 0 ≤ (N17 p m).1.variant := by
  obtain ⟨_, h1, h2⟩ := move_all hp m
  by_cases hm : m ∈ N38 p
  · rw [(h1 hm).2.2.1]; exact hp.v0
  · rw [h2 hm]; exact hp.v0
theorem t68 (m : Mv) : ok68 p m = true := by
  have hv := move_var hp m
  have t0 := hp.t0
  have b1 := wr_u8_lo (1 - p.turn)
  unfold ok68
  refine a_true (move_all hp m).1 fun _ => ?_
  have k1 : ok61 p.variant p.turn = true := t61 hp.v0 t0
  have k2 : ok103 (N17 p m).1 p.turn = true := t103 hv t0
  have k3 : ok103 (N17 p m).1 (wr .u8 (1 - p.turn)) = true := t103 hv b1
  repeat' (first | with_reducible rfl | with_reducible exact k1 | with_reducible exact k2 | with_reducible exact k3 | with_reducible exact t62 _ _ | refine a_true ?_ (fun _ => ?_) | refine c_true (fun _ => ?_) (fun _ => ?_))
theorem okKept_72 {l : List Mv} (hl : l.length ≤ 1000000) : okKept 67 p l = true := by
  unfold okKept
  rw [show (67 : Nat).beq 67 = true from rfl, cond_true]
  have h1 : decide (l.length ≤ lim) = true := by unfold lim; simp; omega
  rw [h1, Bool.true_and]
  exact all68_iff.2 (t68 hp)
theorem okKept_73 {l : List Mv} (hl : l.length ≤ 1000000) : okKept 69 p l = true := by
  unfold okKept
  rw [show (69 : Nat).beq 67 = false from rfl, cond_false, show (69 : Nat).beq 69 = true from rfl, Bool.true_and]
  have h1 : decide (l.length ≤ lim) = true := by unfold lim; simp; omega
  rw [h1, Bool.true_and]
  exact all70_iff.2 (t70 hp.v0)
omit hp in
theorem kept_72 (l : List Mv) : kept 67 p l = l.filter (N68 p) := by
  unfold kept
  rw [show (67 : Nat).beq 67 = true from rfl, cond_true]
omit hp in
theorem kept_73 (l : List Mv) : kept 69 p l = l.filter (N70 p) := by
  unfold kept
  rw [show (69 : Nat).beq 67 = false from rfl, cond_false]
theorem lp31 (l : List Mv) (hl : l.length ≤ 1000000) : ∃ r, lp31_1 l (Int.ofNat l.length) p 0 = some r ∧
    match r with
    | .inl i => 0 ≤ i ∧ ∃ m, m ∈ l ∧ N70 p m = true
    | .inr _ => ∀ m, m ∈ l → N70 p m = false := by
  refine lp_many (I := fun x => 0 ≤ x ∧ x ≤ (l.length : Int) ∧ ∀ m, m ∈ l.take x.toNat → N70 p m = false) (μ := fun x => ((l.length : Int) - x).toNat) ?_ _ ⟨by simp, by simp, by simp⟩ (by simp; omega)
  rintro n ⟨h0, h1, h2⟩
  by_cases hc : n < l.length
  · have hlt : n.toNat < l.length := by omega
    refine ⟨c_true (fun _ => a_true (by simp [h0]; exact hc) fun _ => a_true (t70 hp.v0 _) fun _ => rfl) fun _ => rfl, c_ind (fun _ => ?_) fun h => absurd h (by simpa using hc)⟩
    refine c_ind (fun h => ⟨h0, _, getD_mem hlt, h⟩) fun h => ?_
    rw [wi64 (n := n + 1) (by omega) (by omega)]
    refine ⟨⟨by omega, by omega, ?_⟩, by dsimp only; omega⟩
    rw [show (n + 1).toNat = n.toNat + 1 by omega, List.take_succ_eq_append_getElem hlt]
    rw [List.getD_eq_getElem?_getD, List.getElem?_eq_getElem hlt] at h
    intro m hm
    simp only [List.mem_append, List.mem_singleton] at hm
    rcases hm with hm | rfl
    · exact h2 m hm
    · exact h
  · refine ⟨c_true (fun h => absurd h (by simpa using hc)) fun _ => rfl, c_ind (fun h => absurd h (by simpa using hc)) fun _ => ?_⟩
    show ∀ m, m ∈ l → N70 p m = false
    rw [List.take_of_length_le (by omega)] at h2
    exact h2
theorem lp31_any (l : List Mv) (hl : l.length ≤ 1000000) {α : Type} (x y : α) :
    (bif isL ((lp31_1 l (Int.ofNat l.length) p 0).getD default) then bif decide (gl ((lp31_1 l (Int.ofNat l.length) p 0).getD default) ≥ 0) then x else y else y) = bif l.any (N70 p) then x else y := by
  have h := (of_some (lp31 hp l hl)).2
  generalize (lp31_1 l (Int.ofNat l.length) p 0).getD default = r at h ⊢
  cases r with
  | inl i =>
    obtain ⟨h1, m, h2, h3⟩ := h
    have : l.any (N70 p) = true := List.any_eq_true.2 ⟨m, h2, h3⟩
    simp [isL, gl, h1, this]
  | inr z =>
    have : l.any (N70 p) = false := by
      rw [List.any_eq_false]
      intro m hm
      rw [h m hm]; simp
    simp [isL, this]
theorem well_len : ((N38 p).filter (N68 p)).length ≤ 20802 := Nat.le_trans (List.length_filter_le _ _) (N38_len hp)
theorem t31 : ok31 p = true := by
  have h1 := N38_len hp
  have h2 := well_len hp
  have k1 : ok61 p.variant p.turn = true := t61 hp.v0 hp.t0
  have k2 : ok38 p = true := t38 hp
  have k3 : okKept 67 p (N38 p) = true := okKept_72 hp (by omega)
  have k4 : okKept 69 p (kept 67 p (N38 p)) = true := okKept_73 hp (by rw [kept_72]; omega)
  have k5 : (lp31_1 (kept 67 p (N38 p)) (Int.ofNat (kept 67 p (N38 p)).length) p 0).isSome = true := (of_some (lp31 hp _ (by rw [kept_72]; omega))).1
  unfold ok31
  repeat' (first | with_reducible rfl | with_reducible exact k1 | with_reducible exact k2 | with_reducible exact k3 | with_reducible exact k4 | with_reducible exact k5 | with_reducible exact t62 _ _ | refine a_true ?_ (fun _ => ?_) | refine c_true (fun _ => ?_) (fun _ => ?_))
noncomputable def wouldL (p : Pos) : List Mv := bif p.variant == 4 then bif ((N38 p).filter (N68 p)).any (N70 p) then ((N38 p).filter (N68 p)).filter (N70 p) else (N38 p).filter (N68 p) else (N38 p).filter (N68 p)
theorem N31_eq : N31 p = bif N61 p.variant p.turn then bif !N62 p p.turn then [] else wouldL p else wouldL p := by
  have h2 := well_len hp
  unfold N31
  have e := fun (x y : List Mv) => lp31_any hp (kept 67 p (N38 p)) (by rw [kept_72]; omega) x y
  rw [e]
  unfold wouldL
  rw [kept_73, kept_72]
omit hp in
theorem wouldL_sub {m : Mv} (h : m ∈ wouldL p) : m ∈ N38 p ∧ N68 p m = true := by
  revert h
  unfold wouldL
  have k : m ∈ (N38 p).filter (N68 p) → m ∈ N38 p ∧ N68 p m = true := fun h => by simpa using h
  refine c_ind (P := fun l : List Mv => m ∈ l → _) (fun _ => c_ind (P := fun l : List Mv => m ∈ l → _) (fun _ h => k (List.mem_filter.1 h).1) fun _ => k) fun _ => k
theorem N31_sub {m : Mv} (h : m ∈ N31 p) : m ∈ N38 p ∧ N68 p m = true := by
  rw [N31_eq hp] at h
  revert h
  exact c_ind (P := fun l : List Mv => m ∈ l → _) (fun _ => c_ind (P := fun l : List Mv => m ∈ l → _) (fun _ h => by cases h) fun _ => wouldL_sub) fun _ => wouldL_sub
omit hp in
theorem wouldL_len' (hl : ((N38 p).filter (N68 p)).length ≤ 20802) : (wouldL p).length ≤ 20802 := by
  unfold wouldL
  refine c_ind (P := fun l : List Mv => l.length ≤ 20802) (fun _ => c_ind (P := fun l : List Mv => l.length ≤ 20802) (fun _ => Nat.le_trans (List.length_filter_le _ _) hl) fun _ => hl) fun _ => hl
theorem N31_len : (N31 p).length ≤ 20802 := by
  have h := wouldL_len' (well_len hp)
  rw [N31_eq hp]
  exact c_ind (P := fun l : List Mv => l.length ≤ 20802) (fun _ => c_ind (P := fun l : List Mv => l.length ≤ 20802) (fun _ => by simp) fun _ => h) fun _ => h
omit hp in
theorem lp128 (l : List Mv) (hl : l.length ≤ 1000000) (q : Pos) (k : Int) : (lp128_1 l (Int.ofNat l.length) q k 0).isSome = true := by
  refine (of_some (Q := fun _ => True) (lp_many (I := fun x => 0 ≤ x ∧ x ≤ (l.length : Int)) (μ := fun x => ((l.length : Int) - x).toNat) ?_ _ ⟨by simp, by simp⟩ (by simp; omega))).1
  rintro n ⟨h0, h1⟩
  by_cases hc : n < l.length
  · refine ⟨c_true (fun _ => a_true (by simp [h0]; exact hc) fun _ => rfl) fun _ => rfl, c_ind (fun _ => ?_) fun h => absurd h (by simpa using hc)⟩
    rw [wi64 (n := n + 1) (by omega) (by omega)]
    have go : Nxt (fun x : Int => 0 ≤ x ∧ x ≤ (l.length : Int)) (fun _ : Int ⊕ (Int × Bool) => True) (fun x => ((l.length : Int) - x).toNat) ((l.length : Int) - n).toNat (.go (n + 1)) := ⟨⟨by omega, by omega⟩, by dsimp only; omega⟩
    exact c_ind (fun _ => c_ind (fun _ => trivial) fun _ => go) fun _ => go
  · exact ⟨c_true (fun h => absurd h (by simpa using hc)) fun _ => rfl, c_ind (fun h => absurd h (by simpa using hc)) fun _ => trivial⟩
theorem t128 : ok128 p = true := by
  have h := N31_len hp
  have k1 : ok31 p = true := t31 hp
  have k2 : (lp128_1 (N31 p) (Int.ofNat (N31 p).length) p (N99 p 1 6) 0).isSome = true := lp128 _ (by omega) _ _
  unfold ok128
  repeat' (first | with_reducible rfl | with_reducible exact k1 | with_reducible exact k2 | with_reducible exact t99 _ _ _ | refine a_true ?_ (fun _ => ?_) | refine c_true (fun _ => ?_) (fun _ => ?_))
omit hp in
theorem t123 : ok123 p = true := a_true (t62 _ _) fun _ => rfl
theorem t124 (ht : p.turn ≤ 1) : ok124 p = true := by
  have t0 := hp.t0
  unfold ok124
  rw [wu8 (n := 1 - p.turn) (by omega) (by omega)]
  refine a_true (by simp; omega) fun _ => c_true (fun _ => rfl) fun _ => a_true (by simp; omega) fun _ => rfl
omit hp in
theorem t125 : ok125 p = true := by
  unfold ok125
  repeat' (first | with_reducible rfl | with_reducible exact t99 _ _ _ | refine a_true ?_ (fun _ => ?_) | refine c_true (fun _ => ?_) (fun _ => ?_))
omit hp in
theorem t126 : ok126 p = true := a_true (t101 _ _ _) fun _ => rfl
omit hp in
theorem t127 : ok127 p = true := by
  unfold ok127
  repeat' (first | with_reducible rfl | with_reducible exact t101 _ _ _ | refine a_true ?_ (fun _ => ?_) | refine c_true (fun _ => ?_) (fun _ => ?_))
theorem t30 : ok30 p = true := by
  have v0 := hp.v0
  unfold ok30
  refine c_true (fun _ => rfl) fun h9 => c_true (fun _ => rfl) fun ht => ?_
  have h9 : p.variant < 9 := by simpa using h9
  have ht : p.turn ≤ 1 := by simpa using ht
  refine a_true (by simp; omega) fun _ => ?_
  have k3 := t123 (p := p)
  have k4 := t127 (p := p)
  have k5 := t124 hp ht
  have k6 := t125 (p := p)
  have k7 := t126 (p := p)
  have k8 := t128 hp
  refine c_true (fun _ => rfl) fun n0 => c_true (fun _ => rfl) fun n1 => c_true (fun _ => rfl) fun n2 => c_true (fun _ => a_true k3 fun _ => rfl) fun n3 => c_true (fun _ => a_true k4 fun _ => rfl) fun n4 => c_true (fun _ => a_true k5 fun _ => rfl) fun n5 => c_true (fun _ => a_true k6 fun _ => rfl) fun n6 => c_true (fun _ => a_true k7 fun _ => rfl) fun n7 => a_true ?_ fun _ => a_true k8 fun _ => rfl
  simp only [beq_eq_false_iff_ne, ne_eq, beq_iff_eq, Int.ofNat_eq_natCast] at *
  omega
theorem t11 : ok11 p = true := a_true (t30 hp) fun _ => c_true (fun _ => rfl) fun _ => a_true (t31 hp) fun _ => rfl
theorem N11_eq : N11 p = bif (N30 p).1 != 0 then [] else N31 p := rfl
theorem N11_len : (N11 p).length ≤ 20802 := by
  unfold N11
  exact c_ind (P := fun l : List Mv => l.length ≤ 20802) (fun _ => by simp) fun _ => N31_len hp
end
def WinL (r : Int × Int) : Prop := r = (0, 0) ∨ ((r.1 = 1 ∨ r.1 = 2) ∧ (r.2 = 6 ∨ r.2 = 7 ∨ r.2 = 8)) ∨ r = (3, 6)
theorem N166_win {c w : Int} (hc : c = 0 ∨ c = 1) (hw : w = 6 ∨ w = 7 ∨ w = 8) : WinL (N166 c w) := by
  refine .inr (.inl ⟨?_, hw⟩)
  rcases hc with rfl | rfl
  · exact .inl rfl
  · exact .inr rfl
theorem N166_win' {c w : Int} (hc : c = 0 ∨ c = 1) (hw : w = 6 ∨ w = 7 ∨ w = 8) : WinL ((N166 c w).1, (N166 c w).2) := N166_win hc hw
theorem win_0 : WinL (0, 0) := .inl rfl
theorem N30_win {p : Pos} (hp : PosIn p) : WinL (N30 p) ∧ (((N30 p).1 = 3 ∨ (p.variant < 3)) → (N30 p).1 = 0 ∨ p.variant = 8) ∧ ((N30 p).1 ≠ 0 → 3 ≤ p.variant ∧ p.variant < 9 ∧ p.turn ≤ 1) := by
  have t0 := hp.t0
  have v0 := hp.v0
  unfold N30
  have nw : ∀ {P : Prop}, WinL ((0 : Int), (0 : Int)) ∧ ((((0 : Int), (0 : Int)).1 = 3 ∨ P) → ((0 : Int), (0 : Int)).1 = 0 ∨ p.variant = 8) ∧ (((0 : Int), (0 : Int)).1 ≠ 0 → 3 ≤ p.variant ∧ p.variant < 9 ∧ p.turn ≤ 1) := fun {P} => ⟨win_0, fun _ => .inl rfl, fun h => absurd rfl h⟩
  have ci := fun {d : Bool} {x y : Int × Int} => @c_ind (Int × Int) (fun r => WinL r ∧ ((r.1 = 3 ∨ (p.variant < 3)) → r.1 = 0 ∨ p.variant = 8) ∧ (r.1 ≠ 0 → 3 ≤ p.variant ∧ p.variant < 9 ∧ p.turn ≤ 1)) d x y
  refine ci (fun _ => nw) fun h9 => ci (fun _ => nw) fun ht => ?_
  have h9 : p.variant < 9 := by simpa using h9
  have ht : p.turn ≤ 1 := by simpa using ht
  have hc : p.turn = 0 ∨ p.turn = 1 := by omega
  have hc' : wr .u8 (1 - p.turn) = 0 ∨ wr .u8 (1 - p.turn) = 1 := by rw [wu8 (by omega) (by omega)]; omega
  have one : ∀ (r : Int × Int), WinL r → r.1 ≠ 3 → 3 ≤ p.variant → WinL r ∧ ((r.1 = 3 ∨ (p.variant < 3)) → r.1 = 0 ∨ p.variant = 8) ∧ (r.1 ≠ 0 → 3 ≤ p.variant ∧ p.variant < 9 ∧ p.turn ≤ 1) := fun r h1 h2 h3 => ⟨h1, fun h => by rcases h with h | h; exact absurd h h2; omega, fun _ => ⟨h3, h9, ht⟩⟩
  have n3 : ∀ {c w : Int}, (c = 0 ∨ c = 1) → (N166 c w).1 ≠ 3 := fun {c w} h => by rcases h with rfl | rfl <;> (show wr .u8 _ ≠ 3; decide)
  have z3 : (((0 : Int), (0 : Int)).1) ≠ 3 := by decide
  have cw := fun {d : Bool} {x y : Int × Int} => @c_ind (Int × Int) (fun r => WinL (r.1, r.2) ∧ r.1 ≠ 3) d x y
  have w6 : ((6 : Int) = 6 ∨ (6 : Int) = 7 ∨ (6 : Int) = 8) := .inl rfl
  have w7 : ((7 : Int) = 6 ∨ (7 : Int) = 7 ∨ (7 : Int) = 8) := .inr (.inl rfl)
  have w8 : ((8 : Int) = 6 ∨ (8 : Int) = 7 ∨ (8 : Int) = 8) := .inr (.inr rfl)
  have c0 : ((0 : Int) = 0 ∨ (0 : Int) = 1) := .inl rfl
  have c1 : ((1 : Int) = 0 ∨ (1 : Int) = 1) := .inr rfl
  have k113 : WinL ((N123 p).1, (N123 p).2) ∧ (N123 p).1 ≠ 3 := by
    unfold N123
    repeat' (first | exact ⟨win_0, z3⟩ | exact ⟨N166_win' hc' w6, n3 hc'⟩ | refine cw (fun _ => ?_) (fun _ => ?_))
  have k117 : WinL ((N127 p).1, (N127 p).2) ∧ (N127 p).1 ≠ 3 := by
    unfold N127
    repeat' (first | exact ⟨win_0, z3⟩ | exact ⟨N166_win' hc w8, n3 hc⟩ | exact ⟨N166_win' hc' w8, n3 hc'⟩ | refine cw (fun _ => ?_) (fun _ => ?_))
  have k114 : WinL ((N124 p).1, (N124 p).2) ∧ (N124 p).1 ≠ 3 := by
    unfold N124
    repeat' (first | exact ⟨win_0, z3⟩ | exact ⟨N166_win' hc w7, n3 hc⟩ | exact ⟨N166_win' hc' w7, n3 hc'⟩ | refine cw (fun _ => ?_) (fun _ => ?_))
  have k115 : WinL ((N125 p).1, (N125 p).2) ∧ (N125 p).1 ≠ 3 := by
    unfold N125
    repeat' (first | exact ⟨win_0, z3⟩ | exact ⟨N166_win' hc w6, n3 hc⟩ | exact ⟨N166_win' hc' w6, n3 hc'⟩ | refine cw (fun _ => ?_) (fun _ => ?_))
  have k116 : WinL ((N126 p).1, (N126 p).2) ∧ (N126 p).1 ≠ 3 := by
    unfold N126
    repeat' (first | exact ⟨win_0, z3⟩ | exact ⟨N166_win' c1 w8, n3 c1⟩ | refine cw (fun _ => ?_) (fun _ => ?_))
  have k118 : WinL ((N128 p).1, (N128 p).2) := by
    unfold N128
    repeat' (first | exact win_0 | exact .inr (.inr rfl) | exact N166_win' c0 w6 | exact N166_win' c1 w6 | refine c_ind (P := fun r : Int × Int => WinL (r.1, r.2)) (fun _ => ?_) (fun _ => ?_))
  have vv : ∀ (n : Nat), (p.variant == Int.ofNat n) = true → p.variant = n := fun n h => by simpa using h
  refine ci (fun _ => nw) fun n0 => ci (fun _ => nw) fun n1 => ci (fun _ => nw) fun n2 => ci (fun h => one _ k113.1 k113.2 (by have := vv 3 h; omega)) fun m3 => ci (fun h => one _ k117.1 k117.2 (by have := vv 4 h; omega)) fun n4 => ci (fun h => one _ k114.1 k114.2 (by have := vv 5 h; omega)) fun n5 => ci (fun h => one _ k115.1 k115.2 (by have := vv 6 h; omega)) fun n6 => ci (fun h => one _ k116.1 k116.2 (by have := vv 7 h; omega)) fun n7 => ?_
  have h8 : p.variant = 8 := by
    simp only [beq_eq_false_iff_ne, ne_eq, Int.ofNat_eq_natCast] at n0 n1 n2 m3 n4 n5 n6 n7
    omega
  exact ⟨k118, fun _ => .inr h8, fun _ => ⟨by omega, by omega, ht⟩⟩
end Kz
end
