/- The run of 'segBegun' is cut into 3 pieces; this text names what the states between them are made of. It holds for this program alone. -/
import Derived.Test.YtakgijpeilafpaaGreatDoorEvH
import Derived.WalkKit
import Derived.Test.YtakgijpeilafpaaGreatDoorProg
namespace Go.Proofs.YtakgijpeilafpaaGreatDoor.segBegun
open Go.Ev Go.Ev.Lit
set_option maxRecDepth 100000
noncomputable section
/-- a piece of the program's text -/
def c (f q : Nat) : IC Blk := codeAt Tryz.prog f (pa! q)
def r (f q n : Nat) : List (RS Blk) := regAt Tryz.prog f (pa! q) n
def F : Nat → Option FnI := fnsOf Tryz.prog [(180, repI)]
end
noncomputable section
def q0 : V := .str (st 64 0)
def q1 : V := .str (st 0 0)
def q2 : V := .str (st 24 1461568626678784441833356086495000467273112616961)
/-- the memory behind piece 1 -/
def g1 : T Blk := upd [(0, (ce [(.no .sl), (i64 0)])), (1, (ce [(.no .sl), (.no .sl), (i64 0), ff, (i64 0), (i64 0), (i64 0), (i64 0), (i64 0), (i64 0), (i64 0), (.no .sl)])), (783, (ce [(.no .sl), (.no .sl), (i64 0), ff, (i64 0), (i64 0), (i64 0), (i64 0), (i64 0), (i64 0), (i64 0), (.no .sl)])), (779, (ce [(i64 2), (i64 7), q1, (i64 0), (i64 0), q1, (i64 0), (i64 0), q1, (i64 0), (i64 0), q1, (i64 0), (i64 0), q1, (i64 0), (i64 0), q1, (i64 0), (i64 0), q1, (i64 0), (i64 0), q1, (i64 0), (i64 0), q1])), (987, (ce [ff, tt, ff, ff, ff, ff, ff, ff, ff, ff])), (961, (ce [(.no .sl), (.no .sl), (.no .sl), (.no .sl), (i64 1), (i64 2), ff])), (977, (ce [(i64 0), (i64 0), (i64 0), (i64 0), (i64 0), (i64 0), (i64 0), (i64 0), (i64 0), (i64 0)])), (781, (ce [(.sl (p 778) 0 258 (.un 1)), (.no .sl), (i64 0), ff, (i64 0), (i64 0), (i64 0), (i64 0), (i64 0), (i64 1), (i64 1), (sl 780 0 1 1)])), (2, (ce [(.no .sl), (.no .sl), (i64 0), ff, (i64 0), (i64 0), (i64 0), (i64 0), (i64 0), (i64 0), (i64 0), (.no .sl)])), (960, (ce [(.no .sl), (.no .sl)])), (780, (ce [(i64 1), (i64 0), (i64 0), (i64 0), (i64 0), (sl 779 0 9 9)])), (778, (ce [q0, q0, q0, q0, q0, q0, q0, q0, q0, q0, q0, q0, q0, q0, q0, q0, q0, q0, q0, q0, q0, q0, q0, q0, q0, q0, q0, q0, q0, q0, q0, q0, q0, q0, q0, q0, q0, q0, q0, q0, q0, q0, q0, q0, q0, q0, q0, q0, q0, q0, q0, q0, q0, q0, q0, q0, q0, q0, q0, q0, q0, q0, q0, q0, q0, q0, q0, q0, q0, q0, q0, q0, q0, q0, q0, q0, q0, q0, q0, q0, q0, q0, q0, q0, q0, q0, q0, q0, q0, q0, q0, q0, q0, q0, q0, q0, q0, q0, q0, q0, q0, q0, q0, q0, q0, q0, q0, q0, q0, q0, q0, q0, q0, q0, q0, q0, q0, q0, q0, q0, q0, q0, q0, q0, q0, q0, q0, q0, q0, q0, q0, q0, q0, q0, q0, q0, q0, q0, q0, q0, q0, q0, q0, q0, q0, q0, q0, q0, q0, q0, q0, q0, q0, q0, q0, q0, q0, q0, q0, q0, q0, q0, q0, q0, q0, q0, q0, q0, q0, q0, q0, q0, q0, q0, q0, q0, q0, q0, q0, q0, q0, q0, q0, q0, q0, q0, q0, q0, q0, q0, q0, q0, q0, q0, q0, q0, q0, q0, q0, q0, q0, q0, q0, q0, q0, q0, q0, q0, q0, q0, q0, q0, q0, q0, q0, q0, q0, q0, q0, q0, q0, q0, q0, q0, q0, q0, q0, q0, q0, q0, q0, q0, q0, q0, q0, q0, q0, q0, q0, q0, q0, q0, q0, q0, q0, q0, q0, q0, q0, q0, q0, q0, q0, q0, q0, q0, q0, q0])), (782, (ce [(.sl (p 778) 0 258 (.un 1)), (.no .sl), (i64 0), ff, (i64 0), (i64 0), (i64 0), (i64 0), (i64 0), (i64 1), (i64 1), (sl 780 0 1 1)])), (958, (ce [(.no .sl), (.no .sl)]))] (del [] .E)
/-- the state behind piece 1; its texts -/
def s1 : St :=
⟨⟨⟨187, 35, false, none⟩,
  (n (sl 779 0 9 9) (n (i64 4) (m (n (i64 4) (o ff) (o tt)) (n (sl 779 0 9 9) (o (ptr 779 9)) e)) (m (n ff (o (i64 4)) e) (n ff (o (i64 0)) e))) (m (n (.no .sl) (n ff (o (sl 779 0 9 9)) e) (n (i64 9) (o (ptr 779 9)) e)) (m (n (i64 4) (o (i64 3)) e) (n ff (o tt) e)))),
  [.code (c 187 12), .code (c 187 6)], [], .run⟩,
 [⟨⟨118, 180, false, none⟩,
  (n (sl 779 0 9 9) (m (n (sl 977 0 10 10) (n tt (m (n (i64 8) e (o (i64 3))) (n tt (o ff) e)) (n (i64 2) (n tt e (o ff)) (n ff (o (sl 987 0 10 10)) e))) (n (i64 4) (n ff (n (ptr 779 24) e (o (.no .sl))) (n (.tup [(.no .sl), tt]) (o (i64 0)) e)) (n (i64 9) (n ff (o ff) (o tn)) (o ff)))) (n (ptr 986 0) (n (sl 987 0 10 10) (n (i64 9) (n (sl 779 0 9 9) e (o (sl 779 0 9 9))) (n (ptr 978 2) (o (ptr 978 2)) e)) (n ff (n (.agg [(i64 0), (i64 0), q1]) (o (i64 7)) (o tn)) (n (.no .sl) (o (i64 0)) e))) (n (i64 0) (n (ptr 779 0) (n (ptr 986 0) e (o (.no .sl))) (n tt (o ff) e)) (n (i64 9) (n ff (o (i64 7)) (o ff)) (m (o (i64 4)) e))))) (n ff (n (i64 9) (n (i64 0) (n (sl 779 0 9 9) (n (i64 9) e (o (i64 4))) (n (.tup [(.no .sl), tt]) (o ff) e)) (n ff (n tt (o (ptr 978 1)) (o ff)) (n (i64 0) (o (ptr 987 1)) e))) (n (.no .sl) (n (sl 779 0 9 9) (n (.agg [(i64 0), (i64 0), q1]) e (o (i64 0))) (n (.no .sl) (o ff) e)) (n (sl 779 0 9 9) (n ff (o (ptr 978 1)) (o tn)) e))) (n (.no .sl) (n (i64 0) (n ff (n (i64 8) e (o (i64 4))) (n q1 (o q1) e)) (n (sl 977 0 10 10) (n (.agg [(i64 0), (i64 0), q1]) (o ff) (o tn)) (n (i64 0) (o tt) e))) (m (n (ptr 779 0) (n (i64 0) e (o (i64 0))) (n tt (o (sl 987 0 10 10)) e)) (n ff (n tt (o ff) e) (m (o tt) e)))))),
  [.reg (r 118 1123518 2), .code (c 118 1647806), .inBlock 8, .code (c 118 468158), .inLoop (c 118 74942), .inBlock 7, .inBlock 6, .code (c 118 7358), .inLoop (c 118 1214), .inBlock 5, .code (c 118 254)], [], .run⟩,
 ⟨⟨61, 207, false, none⟩,
  (n (.agg [(.sl (p 778) 0 258 (.un 1)), (.no .sl), (i64 0), ff]) (n (i64 0) (n (i64 2) (n (ptr 959 0) (n ff (o (i64 1)) (o (.tup [(.no .sl), ff]))) (m (o (i64 2)) (n (i64 0) e (o tt)))) (m (n (i64 0) (o tt) (o (.no .sl))) (m (o (i64 1)) (m e (o (i64 0)))))) (n (i64 0) (m (n (.no .sl) (o ff) (o (i64 0))) (m (o ff) e)) (m (m (o ff) (n (i64 0) e (o (sl 780 0 1 1)))) (m (o (.agg [(.no .sl), (.no .sl), (.no .sl), (.no .sl), (i64 1), (i64 2), ff])) (m e (o (ptr 780 5))))))) (n (i64 1) (n (i64 0) (m (n (ptr 961 0) (o ff) (o (.agg [(.sl (p 778) 0 258 (.un 1)), (.no .sl), (i64 0), ff]))) (m (o ff) (o ff))) (m (m (o ff) (n ff e (o (i64 0)))) (m (o (i64 2)) (m e (o (ptr 780 0)))))) (n (sl 780 0 1 1) (m (n ff (o (i64 1)) (o (.tup [(.no .sl), ff]))) (m e (m e (o (sl 780 0 1 1))))) (n (ptr 960 0) (n (i64 0) (o ff) (n (.no .sl) e (o (i64 1)))) (n (sl 780 0 1 1) (o (ptr 961 0)) (m e (o (sl 779 0 9 9)))))))),
  [.reg (r 61 16990 5), .code (c 61 25182), .code (c 61 12894), .inBlock 3, .code (c 61 3678), .inLoop (c 61 606), .inBlock 2, .code (c 61 126)], [], .run⟩,
 ⟨⟨36, 300, false, none⟩,
  (n (.agg [(.sl (p 778) 0 258 (.un 1)), (.no .sl), (i64 0), ff, (i64 0), (i64 0), (i64 0), (i64 0), (i64 0), (i64 1), (i64 1), (sl 780 0 1 1)]) (n (i64 0) (n (ptr 782 0) (n (i64 0) (m (n (ptr 782 0) (o (i64 2)) e) (o (i64 1))) (m (o (.tup [(.agg [(.sl (p 953) 0 3 (.un 3)), (.sl (p 955) 0 1 (.un 2))]), tt])) (o (ptr 782 5)))) (n (ptr 957 0) (m (n (i64 0) (o (sl 780 0 1 1)) e) (o (.agg [(.sl (p 778) 0 258 (.un 1)), (.no .sl), (i64 0), ff, (i64 0), (i64 0), (i64 0), (i64 0), (i64 0), (i64 1), (i64 1), (sl 780 0 1 1)]))) (n (ptr 782 3) (o ff) (o (i64 0))))) (m (n tt (m (n (ptr 782 5) (o (i64 0)) e) (o ff)) (m (o tt) (o (i64 1)))) (m (m (o (ptr 782 11)) (o (ptr 782 0))) (m (o (ptr 782 4)) (o (ptr 782 7)))))) (n (i64 0) (m (n (ptr 956 0) (m (n (.agg [(.sl (p 778) 0 258 (.un 1)), (.no .sl), (i64 0), ff]) (o (i64 0)) e) (o (i64 1))) (m (o (.agg [(.sl (p 953) 0 3 (.un 3)), (.sl (p 955) 0 1 (.un 2))])) (o (i64 0)))) (n (ptr 958 0) (m (o (i64 0)) e) (n ff e (o (i64 2))))) (n (ptr 783 0) (n (i64 1) (m (n (i64 0) (o (ptr 782 11)) e) e) (n (ptr 782 0) (o tt) (o (ptr 782 6)))) (m (m (o (sl 780 0 1 1)) (o (.agg [(.sl (p 778) 0 258 (.un 1)), (.no .sl), (i64 0), ff]))) (n (.tup [(.agg [(.sl (p 953) 0 3 (.un 3)), (.sl (p 955) 0 1 (.un 2))]), tt]) (o (i64 0)) (o (i64 0))))))),
  [.reg (r 36 382 21), .code (c 36 510)], [], .run⟩,
 ⟨⟨21, 63, false, none⟩,
  (n (i64 4) (n (i64 1) (m (m (n ff (o (sl 779 0 9 9)) e) (o ff)) (n ff (o ff) (o (i64 258)))) (n ff (m (n (i64 1) (o (sl 780 0 1 1)) e) (o (i64 4))) (n (i64 4) (o (i64 1)) (o (i64 1))))) (m (n (ptr 2 0) (m (n ff (o (.agg [(i64 1), (i64 0), (i64 0), (i64 0), (i64 0), (sl 779 0 9 9)])) e) e) (n ff (n ff (o (.agg [(.sl (p 778) 0 258 (.un 1)), (.no .sl), (i64 0), ff, (i64 0), (i64 0), (i64 0), (i64 0), (i64 0), (i64 1), (i64 1), (sl 780 0 1 1)])) e) (o (.agg [(.sl (p 778) 0 258 (.un 1)), (.no .sl), (i64 0), ff])))) (n (ptr 781 0) (n (i64 4) (n ff (o (.agg [(.sl (p 778) 0 258 (.un 1)), (.no .sl), (i64 0), ff, (i64 0), (i64 0), (i64 0), (i64 0), (i64 0), (i64 1), (i64 1), (sl 780 0 1 1)])) e) (o (i64 256))) (n ff (o ff) (o (.agg [(i64 1), (i64 0), (i64 0), (i64 0), (i64 0)])))))),
  [.reg (r 21 22 1), .code (c 21 30)], [], .run⟩,
 ⟨⟨9, 33, false, none⟩,
  (n (ptr 0 0) (n (i64 4) (m e (o (i64 4))) e) (n (i64 0) e (o (ptr 1 0)))),
  [.reg (r 9 4 1), .code (c 9 6)], [], .run⟩,
 ⟨⟨12, 54, false, none⟩,
  (n ff (m e (o (ptr 0 0))) e),
  [.reg (r 12 4 1), .code (c 12 6)], [], .run⟩],
 ⟨(p 988), g1⟩,
 []⟩
def k1 : List (IC Blk) := [(c 187 12), (c 187 6), (.region (r 118 1123518 2)), (c 118 1647806), .skip, (c 118 468158), (c 118 74942), .skip, .skip, (c 118 7358), (c 118 1214), .skip, (c 118 254), (.region (r 61 16990 5)), (c 61 25182), (c 61 12894), .skip, (c 61 3678), (c 61 606), .skip, (c 61 126), (.region (r 36 382 21)), (c 36 510), (.region (r 21 22 1)), (c 21 30), (.region (r 9 4 1)), (c 9 6), (.region (r 12 4 1)), (c 12 6)]
theorem h1 : codesSt s1.fr s1.cs s1.ls = k1 := by kernel_rfl
/-- the memory behind piece 2 -/
def g2 : T Blk := upd [(1555, (ce [(i64 3), (i64 1), (.str (st 20 66989347881523629671253778717447617180073985)), ff])), (1547, (ce [(i64 1), (i64 0), (i64 0), (i64 0), (i64 0)])), (1409, (ce [(i64 0), (i64 0), (i64 0), (i64 0)])), (1545, (ce [(i64 5), (i64 1), (i64 4), (i64 1)])), (1413, (ce [ff])), (1405, (ce [(.sl (p 1402) 0 258 (.un 1)), (.no .sl), (i64 0), ff, (i64 1), (i64 5), (i64 0), (i64 4), (i64 1), (i64 1), (i64 1), (sl 780 0 1 1)])), (1552, (ce [(i64 3), (i64 1)])), (1412, (ce [(ptr 1414 0)])), (1612, (ce [(i64 1)])), (1554, (ce [(i64 0), (i64 0), q1])), (1546, (ce [(i64 3), (i64 1), q2])), (1402, (ce [q0, (.str (st 64 89202980794122492572187502188965659060207877)), (.str (st 64 33093459155207470448897)), (.str (st 64 1208962713393047663542530)), (.str (st 64 411394995155436324435255536741159683649879211374862176134103299)), (.str (st 64 87117608036040246053868963173866938564868)), q0, q0, q0, q0, q0, q0, q0, q0, q0, q0, q0, q0, q0, q0, q0, q0, q0, q0, q0, q0, q0, q0, q0, q0, q0, q0, q0, q0, q0, q0, q0, q0, q0, q0, q0, q0, q0, q0, q0, q0, q0, q0, q0, q0, q0, q0, q0, q0, q0, q0, q0, q0, q0, q0, q0, q0, q0, q0, q0, q0, q0, q0, q0, q0, q0, q0, q0, q0, q0, q0, q0, q0, q0, q0, q0, q0, q0, q0, q0, q0, q0, q0, q0, q0, q0, q0, q0, q0, q0, q0, q0, q0, q0, q0, q0, q0, q0, q0, q0, q0, q0, q0, q0, q0, q0, q0, q0, q0, q0, q0, q0, q0, q0, q0, q0, q0, q0, q0, q0, q0, q0, q0, q0, q0, q0, q0, q0, q0, q0, q0, q0, q0, q0, q0, q0, q0, q0, q0, q0, q0, q0, q0, q0, q0, q0, q0, q0, q0, q0, q0, q0, q0, q0, q0, q0, q0, q0, q0, q0, q0, q0, q0, q0, q0, q0, q0, q0, q0, q0, q0, q0, q0, q0, q0, q0, q0, q0, q0, q0, q0, q0, q0, q0, q0, q0, q0, q0, q0, q0, q0, q0, q0, q0, q0, q0, q0, q0, q0, q0, q0, q0, q0, q0, q0, q0, q0, q0, q0, q0, q0, q0, q0, q0, q0, q0, q0, q0, q0, q0, q0, q0, q0, q0, q0, q0, q0, q0, q0, q0, q0, q0, q0, q0, q0, q0, q0, q0, q0, q0, q0, q0, q0, q0, q0, q0, q0, q0, q0, q0, q0, q0, q0])), (1414, (ce [(.sl (p 1402) 0 258 (.un 1)), (.no .sl), (i64 0), ff, (i64 1), (i64 1), (.no .sl), (.no .sl), (.no .sl), (.no .sl), (.sl (p 1545) 0 2 (.un 2))]))] (del [960, 0, 961, 1, 2, 778, 779, 780, 781, 782, 783, 977, 987, 958] g1)
/-- the state behind piece 2; its texts -/
def s2 : St :=
⟨⟨⟨112, 35, false, none⟩,
  (n (ptr 1555 0) (n (i64 4) (n (sl 1612 0 1 1) (m (o (i64 1)) e) (o (i64 1))) (m (o (i64 1)) (o tt))) (n (i64 1073741824) (m e (o (i64 0))) (m (o (sl 1612 0 1 1)) (o (ptr 1612 0))))),
  [.code (c 112 817), .inBlock 1, .code (c 112 241), .inLoop (c 112 17), .inBlock 0, .code (c 112 2)], [], .run⟩,
 [⟨⟨114, 23, false, none⟩,
  (n (ptr 1555 0) (n (.sl (p 1552) 0 1 (.un 2)) (m (n (i64 1) (o (sl 1604 0 1 1)) e) (n (.agg [(i64 3), (i64 1)]) (o (i64 1)) e)) (n (ptr 1603 0) (n tt (o (ptr 1555 0)) e) (o (ptr 1603 0)))) (m (m (n (i64 0) (o tn) e) (n (ptr 1555 0) (o (sl 1612 0 1 1)) e)) (n (.sl (p 1552) 0 1 (.un 2)) (n (ptr 1552 0) (o (ptr 1603 1)) e) (o (i64 3))))),
  [.reg (r 114 920 4), .inBlock 1, .code (c 114 120), .inLoop (c 114 8), .inBlock 0], [], .run⟩,
 ⟨⟨59, 39, false, none⟩,
  (n (i64 1) (n (.agg [(i64 1), (i64 0), (i64 0), (i64 0), (i64 0)]) (m (n (ptr 1555 0) (n (i64 1) (o (i64 1)) e) (o (ptr 1553 3))) (n (i64 1) (n (ptr 1553 1) (o (.sl (p 1552) 0 1 (.un 2))) e) (o (sl 1561 0 4 4)))) (m (n (ptr 1555 0) (n tn (o tn) e) (o (ptr 1553 4))) (n (ptr 1555 0) (o (ptr 1553 2)) (o (ptr 1555 0))))) (n (.sl (p 1552) 0 1 (.un 2)) (n (ptr 1553 0) (n (i64 1) (n (sl 1556 0 1 1) (o (sl 1597 0 1 1)) e) (o (i64 0))) (n (ptr 1555 0) (o (i64 0)) (o tn))) (n (ptr 1554 0) (n (.sl (p 1552) 0 1 (.un 2)) (n (ptr 1555 0) (o (ptr 1555 0)) e) (o (i64 0))) (n (ptr 1553 0) (o (i64 0)) (o (.sl (p 1552) 0 1 (.un 2))))))),
  [.reg (r 59 94 2), .code (c 59 126)], [], .run⟩,
 ⟨⟨168, 55, false, none⟩,
  (n (.agg [(i64 3), (i64 1), q2]) (n (ptr 1546 0) (n (.sl (p 1552) 0 1 (.un 2)) (n (i64 0) (n (ptr 1549 0) (o (.agg [(i64 1), (i64 0), (i64 0), (i64 0), (i64 0)])) (o (.sl (p 1552) 0 1 (.un 2)))) (n (i64 0) (o (ptr 1546 0)) e)) (n (ptr 1546 2) (n (i64 0) (o (ptr 1549 0)) e) (n (i64 0) (o ff) e))) (n (ptr 1549 0) (n (i64 0) (n (i64 1) (o (.sl (p 1552) 0 1 (.un 2))) (o (.agg [(i64 3), (i64 1), q2]))) (n (i64 0) (o ff) e)) (n (.sl (p 1548) 0 24 (.un 1)) (n (i64 0) (o ff) e) (n (i64 0) (o (i64 1)) e)))) (n (ptr 1547 0) (n ff (n (i64 0) (n (ptr 1549 0) (o (ptr 1549 0)) e) (n (ptr 1549 0) (o (i64 3)) e)) (n q2 (n (ptr 1549 0) (o (ptr 1549 1)) e) (n (i64 0) (o (ptr 1546 1)) e))) (n (i64 1) (n (i64 0) (n (ptr 1549 0) (o (ptr 1549 0)) e) (n (i64 1) (o ff) e)) (n (.agg [(.sl (p 1548) 0 24 (.un 1)), ff]) (n (ptr 1549 0) (o ff) e) (n (i64 0) (o (.agg [(i64 1), (i64 0), (i64 0), (i64 0), (i64 0)])) e))))),
  [.reg (r 168 158 15), .code (c 168 222), .code (c 168 126)], [], .run⟩,
 ⟨⟨90, 124, false, none⟩,
  (n (ptr 1414 0) (n (.agg [(i64 4), (i64 1)]) (n (ptr 1508 0) e (m (o (ptr 1414 0)) e)) (m e (m (o (.agg [(i64 3), (i64 1), q2])) e))) (m (m e (m (o (.agg [(i64 4), (i64 1)])) e)) e)),
  [.reg (r 90 4 3), .code (c 90 6)], [], .run⟩,
 ⟨⟨43, 42, false, none⟩,
  (n (ptr 1414 0) (n (i64 5) (m (n tt (n (.tup [(i64 1), (i64 1), (.sl (p 1457) 0 1 (.un 2)), tt]) (o (ptr 1414 5)) e) (n (ptr 1414 0) (o (.agg [(i64 4), (i64 1)])) e)) (n (ptr 1414 0) (n tt (o tt) e) (o (ptr 1414 4)))) (n (i64 1) (n (ptr 1507 0) (n (i64 1) (o (i64 1)) e) (o (i64 1))) (n (.agg [(i64 5), (.int .i64 (.negSucc 0))]) (n tn (o (.agg [(i64 4), (i64 1)])) e) (o (ptr 1414 0))))) (m (n (i64 1) (m (n (i64 1) (o (.sl (p 1457) 0 1 (.un 2))) e) (o (i64 1))) (n (i64 5) (n tt (o (ptr 1457 0)) e) (o (ptr 1414 4)))) (n (.sl (p 1457) 0 1 (.un 2)) (n (.tup [(i64 1), (i64 1), (.sl (p 1457) 0 1 (.un 2)), tt]) (n (.sl (p 1457) 0 1 (.un 2)) (o (i64 0)) e) (o (ptr 1414 0))) (n (.agg [(i64 4), (i64 1), (.str (st 15 309503917734020625310154753))]) (n (ptr 1414 0) (o (ptr 1414 0)) e) (o (ptr 1414 4)))))),
  [.reg (r 43 3278 2), .inBlock 1, .code (c 43 974), .inLoop (c 43 78), .inBlock 0], [], .run⟩,
 ⟨⟨25, 14, false, none⟩,
  (n (.agg [(.sl (p 1402) 0 258 (.un 1)), (.no .sl), (i64 0), ff]) (n (i64 5) (m (o (.agg [(.sl (p 1402) 0 258 (.un 1)), (.no .sl), (i64 0), ff])) (o (i64 5))) (n (ptr 1413 0) (o (ptr 1414 0)) e)) (n (ptr 1411 0) (n (ptr 1412 0) (o (.agg [(.sl (p 1402) 0 258 (.un 1)), (.no .sl), (i64 0), ff, (i64 0), (i64 0), (.no .sl), (.no .sl), (.no .sl), (.no .sl), (.no .sl)])) e) (n (.fn 42 [(ptr 1412 0), (ptr 1413 0)]) (o (ptr 1414 0)) e))),
  [.reg (r 25 22 2), .code (c 25 30)], [.call 42 [(ptr 1412 0), (ptr 1413 0)]], .run⟩,
 ⟨⟨11, 24, false, none⟩,
  (n (.agg [(.sl (p 1402) 0 258 (.un 1)), (.no .sl), (i64 0), ff]) (n (i64 5) (m e (o (i64 5))) (o ff)) (n (ptr 1410 0) (o (.no .sl)) (m (o (.agg [(.sl (p 1402) 0 258 (.un 1)), (.no .sl), (i64 0), ff])) e))),
  [.reg (r 11 4 2), .code (c 11 6)], [], .run⟩,
 ⟨⟨15, 45, false, none⟩,
  (n (.agg [(.sl (p 1402) 0 258 (.un 1)), (.no .sl), (i64 0), ff]) (n (i64 5) (m (m (o (.agg [(.sl (p 1402) 0 258 (.un 1)), (.no .sl), (i64 0), ff])) e) (o (.agg [(.sl (p 1402) 0 258 (.un 1)), (.no .sl), (i64 0), ff]))) (n (sl 1409 0 4 4) e (o (sl 1409 0 4 4)))) (n (ptr 1407 0) (n (.no .sl) (m (o (i64 5)) e) (o (i64 4))) e)),
  [.reg (r 15 10 2), .code (c 15 14)], [], .run⟩,
 ⟨⟨16, 28, false, none⟩,
  (n (.agg [(.sl (p 1402) 0 258 (.un 1)), (.no .sl), (i64 0), ff]) (n (i64 5) (n (ptr 1406 0) (o ff) (o (i64 5))) e) (n (i64 0) e (n (i64 0) (o (.agg [(.sl (p 1402) 0 258 (.un 1)), (.no .sl), (i64 0), ff])) e))),
  [.reg (r 16 8 2), .code (c 16 12), .code (c 16 6)], [], .run⟩,
 ⟨⟨12, 54, false, none⟩,
  (n ff (n (ptr 1405 0) (m e (o (i64 5))) (n (ptr 0 0) (o (.agg [(.sl (p 1402) 0 258 (.un 1)), (.no .sl), (i64 0), ff])) e)) (m (m (o (ptr 1405 0)) e) (n (.agg [(.sl (p 1402) 0 258 (.un 1)), (.no .sl), (i64 0), ff, (i64 1), (i64 5), (i64 0), (i64 4), (i64 1), (i64 1), (i64 1), (sl 780 0 1 1)]) (o (ptr 1405 5)) e))),
  [.reg (r 12 10 4), .code (c 12 14)], [], .run⟩],
 ⟨(p 1613), g2⟩,
 []⟩
def k2 : List (IC Blk) := [(c 112 817), .skip, (c 112 241), (c 112 17), .skip, (c 112 2), (.region (r 114 920 4)), .skip, (c 114 120), (c 114 8), .skip, (.region (r 59 94 2)), (c 59 126), (.region (r 168 158 15)), (c 168 222), (c 168 126), (.region (r 90 4 3)), (c 90 6), (.region (r 43 3278 2)), .skip, (c 43 974), (c 43 78), .skip, (.region (r 25 22 2)), (c 25 30), (.region (r 11 4 2)), (c 11 6), (.region (r 15 10 2)), (c 15 14), (.region (r 16 8 2)), (c 16 12), (c 16 6), (.region (r 12 10 4)), (c 12 14)]
theorem h2 : codesSt s2.fr s2.cs s2.ls = k2 := by kernel_rfl
end
end Go.Proofs.YtakgijpeilafpaaGreatDoor.segBegun
