/- The run of 'planForms' is cut into 7 pieces; this text names what the states between them are made of. It holds for this program alone. -/
import Derived.Test.YtapnfgnofdgliaaGreatDoorEvI
import Derived.WalkKit
import Derived.Test.YtapnfgnofdgliaaGreatDoorProg
namespace Go.Proofs.YtapnfgnofdgliaaGreatDoor.planForms
open Go.Ev Go.Ev.Lit
set_option maxRecDepth 100000
noncomputable section
/-- a piece of the program's text -/
def c (f q : Nat) : IC Blk := codeAt Tryz.prog f (pa! q)
def r (f q n : Nat) : List (RS Blk) := regAt Tryz.prog f (pa! q) n
def F : Nat → Option FnI := fnsOf Tryz.prog [(182, repI), (221, insI 2), (257, cntI), (258, idxI), (192, joinI)]
def A (a o : Nat) : V := .ptr (pa! a) o
def S (a o n c : Nat) : V := .sl (pa! a) o n (.ex c)
def U (a o n s : Nat) : V := .sl (pa! a) o n (.un s)
def I (n : Nat) : V := .int .i64 (.ofNat n)
def ns : V := .no .sl
def nf : V := .no .fn
def nm : V := .no .map
def np : V := .no .ptr
def ni : V := .no .iface
end
noncomputable section
def q0 : V := .str (st 0 0)
def q1 : V := .str (st 3 3309103)
def q2 : V := .str (st 3 3374639)
def q3 : V := .str (st 2 24879)
def q4 : V := .str (st 3 155905)
def q5 : V := .str (st 2 25135)
def q6 : V := .str (st 1 98)
def q7 : V := .str (st 41 0)
def q8 : V := .str (st 5 421698633263)
def q9 : V := .str (st 4 1630495279)
def q10 : V := .str (st 3 221697)
def q11 : V := .str (st 4 1647272239)
def q12 : V := .str (st 1 97)
def z0 : V := .agg [(I 3), (I 0), (I 0), (I 0), (I 0), (I 0), q8, q2, q0]
def z1 : V := .agg [(I 3), (I 0), (I 0), (I 0), (I 0), (I 0), q1, q9, q0]
def z2 : V := .agg [(I 3), (I 0), (I 0), (I 0), (I 0), (I 0), q2, q5, q0]
def z3 : V := .agg [(I 3), (I 0), (I 0), (I 0), (I 0), (I 0), q3, q1, q0]
/-- the memory behind piece 1 -/
def g1 : T Blk := upd [] (del [] .E)
/-- the state behind piece 1; its texts -/
def s1 : St :=
⟨⟨⟨3, 122, false, none⟩,
  (n ff (m (m (m (o ff) e) e) e) (m e (m e (o tt)))),
  [.code (c 3 12), .code (c 3 6)], [], .run⟩,
 [],
 ⟨(p 783), g1⟩,
 []⟩
def k1 : List (IC Blk) := [(c 3 12), (c 3 6)]
theorem h1 : codesSt s1.fr s1.cs s1.ls = k1 := by kernel_rfl
/-- the memory behind piece 2 -/
def g2 : T Blk := upd [(1279, (ce [(U 1488 0 9 3), (U 940 0 9 3), (U 1599 0 1 9), ns])), (1599, (ce [(I 3), (I 0), (I 0), (I 0), (I 0), (I 0), q3, q1, q0])), (799, (ce [(I 2), (I 7), q4, (I 2), (I 0), q0, (I 0), (I 0), q0, (I 0), (I 0), q0, (I 0), (I 0), q0, (I 0), (I 0), q0, (I 0), (I 0), q0, (I 0), (I 0), q0, (I 0), (I 0), q0])), (783, (ce [(I 2), (I 7), q0, (I 0), (I 0), q0, (I 0), (I 0), q0, (I 0), (I 0), q0, (I 0), (I 0), q0, (I 0), (I 0), q0, (I 0), (I 0), q0, (I 0), (I 0), q0, (I 0), (I 0), q0])), (1379, (ce [(I 1), q12, (I 2), (I 2), q6, (I 3)])), (941, (ce [ns])), (1488, (ce [(I 2), (I 7), (.str (st 4 36863490)), (I 2), (I 0), q10, (I 2), (I 0), q0, (I 0), (I 0), q0, (I 0), (I 0), q0, (I 0), (I 0), q0, (I 0), (I 0), q0, (I 0), (I 0), q0, (I 0), (I 0), q0])), (940, (ce [(I 2), (I 7), q10, (I 2), (I 0), q0, (I 2), (I 0), q4, (I 0), (I 0), q0, (I 0), (I 0), q0, (I 0), (I 0), q0, (I 0), (I 0), q0, (I 0), (I 0), q0, (I 0), (I 0), q0])), (882, (ce [(I 2), (I 7), (.str (st 6 3719458611457)), (I 2), (I 0), q0, (I 2), (I 0), q0, (I 0), (I 0), q0, (I 0), (I 0), q0, (I 0), (I 0), q0, (I 0), (I 0), q0, (I 0), (I 0), q0, (I 0), (I 0), q0])), (822, (ce [(I 2), (I 7), q4, (I 2), (I 0), q10, (I 2), (I 0), q0, (I 0), (I 0), q0, (I 0), (I 0), q0, (I 0), (I 0), q0, (I 0), (I 0), q0, (I 0), (I 0), q0, (I 0), (I 0), q0])), (942, (ce [(I 0)])), (1278, (ce [(I 2), (I 7), q4, (I 2), (I 0), q10, (I 2), (I 0), q0, (I 0), (I 0), q0, (I 0), (I 0), q0, (I 0), (I 0), q0, (I 0), (I 0), q0, (I 0), (I 0), q0, (I 0), (I 0), q0]))] (del [] g1)
/-- the state behind piece 2; its texts -/
def s2 : St :=
⟨⟨⟨34, 133, false, none⟩,
  (n (A 1279 0) (m (m (m (n (U 1278 0 9 3) (o (I 2)) e) (o (A 1279 0))) (m (n (A 1279 0) (o (.agg [(I 1), q12, (I 2)])) e) (o (A 1279 0)))) (m (m (n (U 1278 0 9 3) (o tt) e) (o (U 1278 0 9 3))) (n (A 1279 0) (n (U 940 0 9 3) (o (.agg [(I 1), q12, (I 2)])) e) (o (U 940 0 9 3))))) (n (U 1278 0 9 3) (n (A 1410 0) (m (n (A 1279 0) (o (I 0)) e) (o (A 1279 3))) (n (A 1279 0) (n (A 1279 1) (o (A 1279 0)) e) (o (A 1279 1)))) (m (m (n (A 1279 0) (o (A 1379 0)) e) (o (A 1279 0))) (n (A 1279 0) (n ns (o tn) e) (o (U 1379 0 2 3)))))),
  [.inBlock 1, .code (c 34 970), .inLoop (c 34 74), .inBlock 0, .code (c 34 14)], [], .run⟩,
 [⟨⟨9, 27, false, none⟩,
  (n (U 822 0 9 3) (n (U 940 0 9 3) (m (n (.fn 31 [(A 941 0), (A 942 0)]) (o ff) e) (n ff (o (.agg [(U 1278 0 9 3), (U 940 0 9 3), ns, ns])) e)) (n (A 942 0) (n tt (o (U 1278 0 9 3)) e) (n tt (o (A 1279 0)) e))) (m (n (A 941 0) (n (U 822 0 9 3) (o (U 822 0 9 3)) e) (n (U 940 0 9 3) (o (A 1279 0)) e)) (n (A 1279 0) (n ff (o (U 940 0 9 3)) e) (o ff)))),
  [.reg (r 9 46 1), .code (c 9 62)], [.call 31 [(A 941 0), (A 942 0)]], .run⟩,
 ⟨⟨3, 122, false, none⟩,
  (n ff (n (U 822 0 9 3) (n (U 940 0 9 3) (m (n ff (o (.tup [(U 940 0 9 3), (I 0)])) e) (o (.tup [(U 822 0 9 3), (I 0)]))) (m (n (U 799 0 9 3) (o (I 0)) e) (o (U 822 0 9 3)))) (m (m (n (S 783 0 9 9) (o (.tup [(U 940 0 9 3), (I 0)])) e) (o (I 0))) (m (n (.tup [(U 822 0 9 3), (I 0)]) (o (U 822 0 9 3)) e) (o (U 882 0 9 3))))) (n (I 0) (n (I 0) (m (n (.tup [(U 799 0 9 3), (I 0)]) (o (U 882 0 9 3)) e) (o (U 822 0 9 3))) (m (o (I 0)) (o (.tup [(U 882 0 9 3), (I 0)])))) (m (m (n (.tup [(U 799 0 9 3), (I 0)]) (o (U 940 0 9 3)) e) (o (.tup [(U 882 0 9 3), (I 0)]))) (n tt (n (U 799 0 9 3) (o (U 940 0 9 3)) e) (o (I 0)))))),
  [.reg (r 3 190 2), .code (c 3 254)], [], .run⟩],
 ⟨(p 1600), g2⟩,
 []⟩
def k2 : List (IC Blk) := [.skip, (c 34 970), (c 34 74), .skip, (c 34 14), (.region (r 9 46 1)), (c 9 62), (.region (r 3 190 2)), (c 3 254)]
theorem h2 : codesSt s2.fr s2.cs s2.ls = k2 := by kernel_rfl
/-- the memory behind piece 3 -/
def g3 : T Blk := upd [(2570, (ce [(I 3), (I 0), (I 0), (I 0), (I 0), (I 0), q3, q1, q0, (I 3), (I 0), (I 0), (I 0), (I 0), (I 0), q8, q2, q0, (I 3), (I 0), (I 0), (I 0), (I 0), (I 0), q2, q5, q0, (I 3), (I 0), (I 0), (I 0), (I 0), (I 0), q1, q9, q0]))] (del [1379, 941, 942, 1488, 1278, 1279, 1599] g2)
/-- the state behind piece 3; its texts -/
def s3 : St :=
⟨⟨⟨3, 122, false, none⟩,
  (n ff (n (U 822 0 9 3) (n (U 940 0 9 3) (m (n ff (o (.tup [(U 940 0 9 3), (I 0)])) e) (n (.tup [(U 822 0 9 3), (I 0)]) (o (.tup [(U 2570 0 4 9), (I 0)])) e)) (m (n (U 799 0 9 3) (o (I 0)) e) (o (U 822 0 9 3)))) (n (U 2570 0 4 9) (m (n (S 783 0 9 9) (o (.tup [(U 940 0 9 3), (I 0)])) e) (n (I 0) (o (I 0)) e)) (m (n (.tup [(U 822 0 9 3), (I 0)]) (o (U 822 0 9 3)) e) (o (U 882 0 9 3))))) (n (I 0) (n (I 0) (m (n (.tup [(U 799 0 9 3), (I 0)]) (o (U 882 0 9 3)) e) (n (U 822 0 9 3) (o (U 2570 0 4 9)) e)) (m (n (I 0) (o (.tup [(U 2570 0 4 9), (I 0)])) e) (o (.tup [(U 882 0 9 3), (I 0)])))) (n (I 0) (m (n (.tup [(U 799 0 9 3), (I 0)]) (o (U 940 0 9 3)) e) (o (.tup [(U 882 0 9 3), (I 0)]))) (n tt (n (U 799 0 9 3) (o (U 940 0 9 3)) e) (o (I 0)))))),
  [.code (c 3 254)], [], .run⟩,
 [],
 ⟨(p 2580), g3⟩,
 []⟩
def k3 : List (IC Blk) := [(c 3 254)]
theorem h3 : codesSt s3.fr s3.cs s3.ls = k3 := by kernel_rfl
/-- the memory behind piece 4 -/
def g4 : T Blk := upd [(2983, (ce [(U 3230 0 9 3), (U 2648 0 9 3), (U 3381 0 1 9), (U 3003 0 2 1)])), (2611, (ce [(I 2), (I 7), q4, (I 1), (I 5), q7, (I 0), (I 0), q0, (I 0), (I 0), q0, (I 0), (I 0), q0, (I 0), (I 0), q0, (I 0), (I 0), q0, (I 0), (I 0), q0, (I 0), (I 0), q0])), (3003, (ce [(I 2), (I 3)])), (2649, (ce [ns])), (2597, (ce [(I 2), (I 7), q4, (I 1), (I 5), q0, (I 0), (I 0), q0, (I 0), (I 0), q0, (I 0), (I 0), q0, (I 0), (I 0), q0, (I 0), (I 0), q0, (I 0), (I 0), q0, (I 0), (I 0), q0])), (2581, (ce [(I 2), (I 7), q0, (I 0), (I 0), q0, (I 0), (I 0), q0, (I 0), (I 0), q0, (I 0), (I 0), q0, (I 0), (I 0), q0, (I 0), (I 0), q0, (I 0), (I 0), q0, (I 0), (I 0), q0])), (3381, (ce [(I 5), (I 0), (I 0), (I 0), (I 0), (I 0), q11, q0, q0])), (2648, (ce [(I 2), (I 7), (.str (st 6 2619946983681)), (I 1), (I 5), q7, (I 0), (I 0), q0, (I 0), (I 0), q0, (I 0), (I 0), q0, (I 0), (I 0), q0, (I 0), (I 0), q0, (I 0), (I 0), q0, (I 0), (I 0), q0])), (2580, (ce [(I 3), (I 0), (I 0), (I 0), (I 0), (I 0), q3, q1, q0, (I 3), (I 0), (I 0), (I 0), (I 0), (I 0), q8, q2, q0, (I 3), (I 0), (I 0), (I 0), (I 0), (I 0), q2, q5, q0, (I 3), (I 0), (I 0), (I 0), (I 0), (I 0), q1, q9, q0])), (2650, (ce [(I 0)])), (2598, (ce (us 41 0))), (2982, (ce [(I 2), (I 7), q4, (I 2), (I 0), q10, (I 2), (I 0), q0, (I 0), (I 0), q0, (I 0), (I 0), q0, (I 0), (I 0), q0, (I 0), (I 0), q0, (I 0), (I 0), q0, (I 0), (I 0), q0])), (3230, (ce [(I 2), (I 7), q4, (I 2), (I 0), q0, (I 0), (I 0), q0, (I 0), (I 0), q0, (I 0), (I 0), q0, (I 0), (I 0), q0, (I 0), (I 0), q0, (I 0), (I 0), q0, (I 0), (I 0), q0]))] (del [] g3)
/-- the state behind piece 4; its texts -/
def s4 : St :=
⟨⟨⟨34, 133, false, none⟩,
  (n (A 2983 0) (m (m (m (n (U 2982 0 9 3) (o (I 2)) (o (A 2983 0))) (n (A 2983 0) (o (I 2)) e)) (m (n (A 2983 0) (o (.agg [(I 2), q6, (I 3)])) (o tn)) (n (A 2983 0) (o tt) e))) (n (I 3) (m (n (U 2982 0 9 3) (o ff) (o q11)) (n (U 2982 0 9 3) (o (I 3)) e)) (n (A 2983 0) (n (U 2648 0 9 3) (o (.agg [(I 2), q6, (I 3)])) e) (o (U 2648 0 9 3))))) (n (U 2982 0 9 3) (n (A 3114 0) (m (n (A 2983 0) (o (I 2)) (o (I 3))) (n (A 2983 3) (o (A 2983 0)) e)) (n (A 2983 0) (n (A 2983 1) (o (A 2983 0)) e) (o (A 2983 1)))) (m (m (n (A 2983 0) (o (A 3087 3)) (o (.agg [(I 5), (I 0), (I 0), (I 0), (I 0), (I 0), q11, q0, q0]))) (n (A 2983 0) (o (I 3)) e)) (n (A 2983 0) (n (U 3003 0 2 1) (o tn) e) (n (U 3087 0 2 3) (o (A 2983 0)) e))))),
  [.inBlock 3, .code (c 34 918), .inLoop (c 34 150), .inBlock 2, .code (c 34 30)], [], .run⟩,
 [⟨⟨9, 27, false, none⟩,
  (n (U 822 0 9 3) (n (U 2648 0 9 3) (m (n (.fn 31 [(A 2649 0), (A 2650 0)]) (o ff) e) (n ff (o (.agg [(U 2982 0 9 3), (U 2648 0 9 3), ns, ns])) e)) (n (A 2650 0) (n tt (o (U 2982 0 9 3)) e) (n tt (o (A 2983 0)) e))) (m (n (A 2649 0) (n (U 822 0 9 3) (o (U 822 0 9 3)) e) (n (U 2648 0 9 3) (o (A 2983 0)) e)) (n (A 2983 0) (n ff (o (U 2648 0 9 3)) e) (o ff)))),
  [.reg (r 9 46 1), .code (c 9 62)], [.call 31 [(A 2649 0), (A 2650 0)]], .run⟩,
 ⟨⟨3, 122, false, none⟩,
  (n ff (n (U 822 0 9 3) (n (U 940 0 9 3) (n (S 2580 0 4 4) (n ff (n (.tup [(U 940 0 9 3), (I 0)]) (o (I 0)) e) (o (.tup [(U 2597 0 9 3), (I 0)]))) (n (.tup [(U 822 0 9 3), (I 0)]) (o (.tup [(U 2570 0 4 9), (I 0)])) (o q7))) (m (n (U 799 0 9 3) (o (I 0)) (o (I 0))) (n (U 822 0 9 3) (o z0) (o (.tup [(U 2648 0 9 3), (I 0)]))))) (n (U 2570 0 4 9) (n (I 0) (n (S 783 0 9 9) (n (.tup [(U 940 0 9 3), (I 0)]) (o (U 822 0 9 3)) e) (o (.tup [(U 2597 0 9 3), (I 0)]))) (n (I 0) (o (I 0)) (o (U 2611 0 9 3)))) (m (n (.tup [(U 822 0 9 3), (I 0)]) (o (U 822 0 9 3)) (o (U 2597 0 9 3))) (n (U 882 0 9 3) (o z1) (o (.tup [(U 2648 0 9 3), (I 0)])))))) (n (I 0) (n (I 0) (n (U 2648 0 9 3) (n (.tup [(U 799 0 9 3), (I 0)]) (o (U 882 0 9 3)) (o (S 2581 0 9 9))) (n (U 822 0 9 3) (o (U 2570 0 4 9)) (o (.tup [(U 2611 0 9 3), (I 0)])))) (m (n (I 0) (o (.tup [(U 2570 0 4 9), (I 0)])) (o (.tup [(U 2611 0 9 3), (I 0)]))) (n (.tup [(U 882 0 9 3), (I 0)]) (o z2) (o (U 2611 0 9 3))))) (n (I 0) (m (n (.tup [(U 799 0 9 3), (I 0)]) (n (U 940 0 9 3) (o (U 2648 0 9 3)) e) (o (U 2597 0 9 3))) (n (.tup [(U 882 0 9 3), (I 0)]) (o z3) (o (I 0)))) (n tt (n (U 799 0 9 3) (o (U 940 0 9 3)) (o (S 2598 0 41 41))) (n (I 0) (o (S 2580 0 4 4)) (o (U 2648 0 9 3))))))),
  [.reg (r 3 6142 2), .code (c 3 8190)], [], .run⟩],
 ⟨(p 3382), g4⟩,
 []⟩
def k4 : List (IC Blk) := [.skip, (c 34 918), (c 34 150), .skip, (c 34 30), (.region (r 9 46 1)), (c 9 62), (.region (r 3 6142 2)), (c 3 8190)]
theorem h4 : codesSt s4.fr s4.cs s4.ls = k4 := by kernel_rfl
/-- the memory behind piece 5 -/
def g5 : T Blk := upd [(4196, (ce [(I 5), (I 0), (I 0), (I 0), (I 0), (I 0), q11, q0, q0, (I 5), (I 0), (I 0), (I 0), (I 0), (I 0), q3, q0, q0, (I 2), (I 0), (I 0), (I 2), (I 1), (I 0), q0, q1, q0, (I 3), (I 0), (I 0), (I 0), (I 0), (I 0), q1, q3, q0, (I 4), (I 0), (I 0), (I 0), (I 0), (I 0), q3, q5, q0, (I 6), (I 0), (I 0), (I 0), (I 0), (I 0), q3, q0, (.str (st 40 0)), (I 6), (I 0), (I 0), (I 0), (I 0), (I 40), q3, q0, (.str (st 1 0)), (I 8), (I 0), (I 0), (I 0), (I 5), (I 0), q3, q0, q0]))] (del [2982, 2983, 3381, 2649, 2650, 3003, 3230] g4)
/-- the state behind piece 5; its texts -/
def s5 : St :=
⟨⟨⟨3, 122, false, none⟩,
  (n ff (n (U 822 0 9 3) (n (U 940 0 9 3) (n (S 2580 0 4 4) (n ff (n (.tup [(U 940 0 9 3), (I 0)]) (o (I 0)) e) (o (.tup [(U 2597 0 9 3), (I 0)]))) (n (.tup [(U 822 0 9 3), (I 0)]) (o (.tup [(U 2570 0 4 9), (I 0)])) (o q7))) (n (I 0) (n (U 799 0 9 3) (n (I 0) (o (.tup [(U 4196 0 8 9), (I 0)])) e) (o (I 0))) (n (U 822 0 9 3) (o z0) (o (.tup [(U 2648 0 9 3), (I 0)]))))) (n (U 2570 0 4 9) (n (I 0) (n (S 783 0 9 9) (n (.tup [(U 940 0 9 3), (I 0)]) (o (U 822 0 9 3)) e) (o (.tup [(U 2597 0 9 3), (I 0)]))) (n (I 0) (o (I 0)) (o (U 2611 0 9 3)))) (m (n (.tup [(U 822 0 9 3), (I 0)]) (n (U 822 0 9 3) (o (I 0)) e) (o (U 2597 0 9 3))) (n (U 882 0 9 3) (o z1) (o (.tup [(U 2648 0 9 3), (I 0)])))))) (n (I 0) (n (I 0) (n (U 2648 0 9 3) (n (.tup [(U 799 0 9 3), (I 0)]) (n (U 882 0 9 3) (o (.tup [(U 4196 0 8 9), (I 0)])) e) (o (S 2581 0 9 9))) (n (U 822 0 9 3) (o (U 2570 0 4 9)) (o (.tup [(U 2611 0 9 3), (I 0)])))) (m (n (I 0) (n (.tup [(U 2570 0 4 9), (I 0)]) (o (U 4196 0 8 9)) e) (o (.tup [(U 2611 0 9 3), (I 0)]))) (n (.tup [(U 882 0 9 3), (I 0)]) (o z2) (o (U 2611 0 9 3))))) (n (I 0) (n (U 4196 0 8 9) (n (.tup [(U 799 0 9 3), (I 0)]) (n (U 940 0 9 3) (o (U 2648 0 9 3)) e) (o (U 2597 0 9 3))) (n (.tup [(U 882 0 9 3), (I 0)]) (o z3) (o (I 0)))) (n tt (n (U 799 0 9 3) (o (U 940 0 9 3)) (o (S 2598 0 41 41))) (n (I 0) (o (S 2580 0 4 4)) (o (U 2648 0 9 3))))))),
  [.code (c 3 8190)], [], .run⟩,
 [],
 ⟨(p 4204), g5⟩,
 []⟩
def k5 : List (IC Blk) := [(c 3 8190)]
theorem h5 : codesSt s5.fr s5.cs s5.ls = k5 := by kernel_rfl
/-- the memory behind piece 6 -/
def g6 : T Blk := upd [(4205, (ce [(I 0)])), (5064, (ce [(I 5), (I 0), (I 0), (I 0), (I 0), (I 0), q3, q0, q0, (I 5), (I 0), (I 0), (I 0), (I 0), (I 0), q5, q0, q0, (I 2), (I 0), (I 0), (I 2), (I 2), (I 0), q0, q1, q0, (I 2), (I 0), (I 0), (I 3), (I 2), (I 0), q0, q2, q0])), (4996, (ce [(I 2), (I 7), (.str (st 8 230666553017925122)), (I 2), (I 0), q0, (I 2), (I 0), q0, (I 0), (I 0), q0, (I 0), (I 0), q0, (I 0), (I 0), q0, (I 0), (I 0), q0, (I 0), (I 0), q0, (I 0), (I 0), q0])), (4204, (ce [ns])), (4538, (ce [(U 4996 0 9 3), (U 822 0 9 3), (U 5064 0 4 9), (U 4551 0 1 1)]))] (del [4196, 2597, 2598, 940, 783, 882, 2611, 2581, 2648, 799] g5)
/-- the state behind piece 6; its texts -/
def s6 : St :=
⟨⟨⟨34, 133, false, none⟩,
  (n (A 4538 0) (m (m (n (I 3) (n (U 4537 0 9 3) (n (I 2) (o (A 4538 0)) e) e) (n (A 4538 0) (n (I 2) (o (A 822 6)) e) (o (A 4538 1)))) (m (n (A 4538 0) (n (.agg [(I 1), q6, (I 2)]) (o (A 4538 1)) e) e) (n (A 4538 0) (n ff (o q2) e) (o (I 1))))) (n (.int .i64 (.negSucc 0)) (m (n (U 4537 0 9 3) (n ff (o (A 4538 0)) e) e) (n (U 4537 0 9 3) (n (.int .i64 (.negSucc 0)) (o (I 2)) e) (o (U 4938 0 2 1)))) (n (A 4538 0) (n (U 822 0 9 3) (n (.agg [(I 1), q6, (I 2)]) (o (I 3)) e) (o (A 4538 0))) (n (U 822 0 9 3) (m (o tn) e) (o (A 4938 1)))))) (n (U 4537 0 9 3) (n (A 4817 0) (m (n (A 4538 0) (n (I 2) (o (I 3)) e) e) (n (A 4538 3) (n (A 4538 0) (o (A 822 6)) e) (o (U 822 0 9 3)))) (n (A 4538 0) (n (A 4538 1) (n (A 4538 0) (o (U 822 0 9 3)) e) (o (U 4537 0 9 3))) (n (A 4538 1) (m (o (.agg [(I 2), (I 0), (I 0), (I 3), (I 2), (I 0), q0, q2, q0])) e) (o tt)))) (m (m (n (A 4538 0) (n (A 4636 3) (o (A 4538 0)) e) e) (n (A 4538 0) (n (.int .i64 (.negSucc 0)) (o (I 3)) e) (o (I 2)))) (n (A 4538 0) (n (U 4551 0 1 1) (n tn (o (I 2)) e) (o (A 4538 0))) (n (U 4636 0 2 3) (m (o (I 1)) e) (o (I 3))))))),
  [.inBlock 5, .code (c 34 3886), .inLoop (c 34 302), .inBlock 4, .code (c 34 62)], [], .run⟩,
 [⟨⟨9, 27, false, none⟩,
  (n (U 2648 0 9 3) (n (U 822 0 9 3) (m (n (.fn 31 [(A 4204 0), (A 4205 0)]) (o ff) e) (n ff (o (.agg [(U 4537 0 9 3), (U 822 0 9 3), ns, ns])) e)) (n (A 4205 0) (n tt (o (U 4537 0 9 3)) e) (n tt (o (A 4538 0)) e))) (m (n (A 4204 0) (n (U 2648 0 9 3) (o (U 2648 0 9 3)) e) (n (U 822 0 9 3) (o (A 4538 0)) e)) (n (A 4538 0) (n ff (o (U 822 0 9 3)) e) (o ff)))),
  [.reg (r 9 46 1), .code (c 9 62)], [.call 31 [(A 4204 0), (A 4205 0)]], .run⟩,
 ⟨⟨3, 122, false, none⟩,
  (n ff (n (U 822 0 9 3) (n (U 940 0 9 3) (n (S 2580 0 4 4) (n ff (n (.tup [(U 940 0 9 3), (I 0)]) (o (I 0)) e) (o (.tup [(U 2597 0 9 3), (I 0)]))) (n (.tup [(U 822 0 9 3), (I 0)]) (n (.tup [(U 2570 0 4 9), (I 0)]) (o (U 2648 0 9 3)) e) (o q7))) (n (I 0) (n (U 799 0 9 3) (n (I 0) (o (.tup [(U 4196 0 8 9), (I 0)])) e) (o (I 0))) (n (U 822 0 9 3) (o z0) (o (.tup [(U 2648 0 9 3), (I 0)]))))) (n (U 2570 0 4 9) (n (I 0) (n (S 783 0 9 9) (n (.tup [(U 940 0 9 3), (I 0)]) (o (U 822 0 9 3)) e) (o (.tup [(U 2597 0 9 3), (I 0)]))) (n (I 0) (o (I 0)) (o (U 2611 0 9 3)))) (m (n (.tup [(U 822 0 9 3), (I 0)]) (n (U 822 0 9 3) (o (I 0)) e) (o (U 2597 0 9 3))) (n (U 882 0 9 3) (o z1) (o (.tup [(U 2648 0 9 3), (I 0)])))))) (n (I 0) (n (I 0) (n (U 2648 0 9 3) (n (.tup [(U 799 0 9 3), (I 0)]) (n (U 882 0 9 3) (o (.tup [(U 4196 0 8 9), (I 0)])) e) (o (S 2581 0 9 9))) (n (U 822 0 9 3) (n (U 2570 0 4 9) (o (U 822 0 9 3)) e) (o (.tup [(U 2611 0 9 3), (I 0)])))) (m (n (I 0) (n (.tup [(U 2570 0 4 9), (I 0)]) (o (U 4196 0 8 9)) e) (o (.tup [(U 2611 0 9 3), (I 0)]))) (n (.tup [(U 882 0 9 3), (I 0)]) (o z2) (o (U 2611 0 9 3))))) (n (I 0) (n (U 4196 0 8 9) (n (.tup [(U 799 0 9 3), (I 0)]) (n (U 940 0 9 3) (o (U 2648 0 9 3)) e) (o (U 2597 0 9 3))) (n (.tup [(U 882 0 9 3), (I 0)]) (o z3) (o (I 0)))) (n tt (n (U 799 0 9 3) (o (U 940 0 9 3)) (o (S 2598 0 41 41))) (n (I 0) (o (S 2580 0 4 4)) (o (U 2648 0 9 3))))))),
  [.reg (r 3 12286 2), .code (c 3 16382)], [], .run⟩],
 ⟨(p 5065), g6⟩,
 []⟩
def k6 : List (IC Blk) := [.skip, (c 34 3886), (c 34 302), .skip, (c 34 62), (.region (r 9 46 1)), (c 9 62), (.region (r 3 12286 2)), (c 3 16382)]
theorem h6 : codesSt s6.fr s6.cs s6.ls = k6 := by kernel_rfl
end
end Go.Proofs.YtapnfgnofdgliaaGreatDoor.planForms
