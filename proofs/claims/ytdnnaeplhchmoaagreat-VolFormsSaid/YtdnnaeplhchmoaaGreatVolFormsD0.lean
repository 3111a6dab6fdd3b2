/- The run of 'volForms' is cut into 6 pieces; this text names what the states between them are made of. It holds for this program alone. -/
import Derived.Test.YtdnnaeplhchmoaaGreatEvI
import Derived.WalkKit
import Derived.Test.YtdnnaeplhchmoaaGreatProg
namespace Go.Proofs.YtdnnaeplhchmoaaGreat.volForms
open Go.Ev Go.Ev.Lit
set_option maxRecDepth 100000
noncomputable section
/-- a piece of the program's text -/
def c (f q : Nat) : IC Blk := codeAt Tryz.prog f (pa! q)
def r (f q n : Nat) : List (RS Blk) := regAt Tryz.prog f (pa! q) n
def F : Nat → Option FnI := fnsOf Tryz.prog [(68, repI), (24, insI 6)]
def A (a o : Nat) : V := .ptr (pa! a) o
def S (a o n c : Nat) : V := .sl (pa! a) o n (.ex c)
def U (a o n s : Nat) : V := .sl (pa! a) o n (.un s)
def I (n : Nat) : V := .int .i64 (.ofNat n)
def ns : V := .no .sl
def nf : V := .no .fn
def nm : V := .no .map
def np : V := .no .ptr
def ni : V := .no .iface
end
noncomputable section
def q0 : V := .str (st 64 0)
def q1 : V := .str (st 0 0)
def q2 : V := .str (st 64 89202980794122492572187502188965659060207877)
def q3 : V := .str (st 64 33093459155207470448897)
def q4 : V := .str (st 64 1208962713393047663542530)
def q5 : V := .str (st 64 411394995155436324435255536741159683649879211374862176134103299)
def q6 : V := .str (st 64 87117608036040246053868963173866938564868)
def q7 : V := .str (st 3 155905)
def q8 : V := .str (st 5 13002473473)
def q9 : V := .str (st 5 10217390337)
def q10 : V := .str (st 5 100728834)
def q11 : V := .str (st 64 87117608036040250889572241632383637389572)
def z0 : V := .agg [(U 1043 0 258 1), ns, (I 0), ff, (I 1), (I 5), (I 0), (I 4), (I 1), (I 1), (I 1), (U 16 0 1 6)]
def z1 : V := .tup [z0, tt]
def z2 : V := .agg [(U 1202 0 258 1), ns, (I 0), ff, (I 1), (I 5), (I 0), (I 4), (I 1), (I 1), (I 1), (U 1204 0 1 6)]
def z3 : V := .agg [(U 1226 0 258 1), ns, (I 0), ff, (I 1), (I 5), (I 0), (I 4), (I 1), (I 1), (I 1), (U 1228 0 1 6)]
def z4 : V := .agg [(U 5531 0 258 1), ns, (I 0), ff, (I 1), (I 5), (I 0), (I 4), (I 1), (I 1), (I 5), (U 4504 0 1 6)]
/-- the memory behind piece 1 -/
def g1 : T Blk := upd [(1043, (ce [q0, q2, q3, q4, q5, q6, q0, q0, q0, q0, q0, q0, q0, q0, q0, q0, q0, q0, q0, q0, q0, q0, q0, q0, q0, q0, q0, q0, q0, q0, q0, q0, q0, q0, q0, q0, q0, q0, q0, q0, q0, q0, q0, q0, q0, q0, q0, q0, q0, q0, q0, q0, q0, q0, q0, q0, q0, q0, q0, q0, q0, q0, q0, q0, q0, q0, q0, q0, q0, q0, q0, q0, q0, q0, q0, q0, q0, q0, q0, q0, q0, q0, q0, q0, q0, q0, q0, q0, q0, q0, q0, q0, q0, q0, q0, q0, q0, q0, q0, q0, q0, q0, q0, q0, q0, q0, q0, q0, q0, q0, q0, q0, q0, q0, q0, q0, q0, q0, q0, q0, q0, q0, q0, q0, q0, q0, q0, q0, q0, q0, q0, q0, q0, q0, q0, q0, q0, q0, q0, q0, q0, q0, q0, q0, q0, q0, q0, q0, q0, q0, q0, q0, q0, q0, q0, q0, q0, q0, q0, q0, q0, q0, q0, q0, q0, q0, q0, q0, q0, q0, q0, q0, q0, q0, q0, q0, q0, q0, q0, q0, q0, q0, q0, q0, q0, q0, q0, q0, q0, q0, q0, q0, q0, q0, q0, q0, q0, q0, q0, q0, q0, q0, q0, q0, q0, q0, q0, q0, q0, q0, q0, q0, q0, q0, q0, q0, q0, q0, q0, q0, q0, q0, q0, q0, q0, q0, q0, q0, q0, q0, q0, q0, q0, q0, q0, q0, q0, q0, q0, q0, q0, q0, q0, q0, q0, q0, q0, q0, q0, q0, q0, q0, q0, q0, q0, q0, q0, q0])), (1067, (ce [(I 2), (I 7), q7, (I 1), (I 6), q1, (I 0), (I 0), q1, (I 0), (I 0), q1, (I 0), (I 0), q1, (I 0), (I 0), q1, (I 0), (I 0), q1, (I 0), (I 0), q1, (I 0), (I 0), q1])), (1051, (ce [(I 2), (I 7), q1, (I 0), (I 0), q1, (I 0), (I 0), q1, (I 0), (I 0), q1, (I 0), (I 0), q1, (I 0), (I 0), q1, (I 0), (I 0), q1, (I 0), (I 0), q1, (I 0), (I 0), q1])), (1217, (ce [(U 1202 0 258 1), ns, (I 0), ff, (I 1), (I 5), (I 0), (I 4), (I 1), (I 1), (I 1), (U 1204 0 1 6)])), (1209, (ce [(I 2), (I 7), q7, (I 1), (I 6), q1, (I 0), (I 0), q1, (I 0), (I 0), q1, (I 0), (I 0), q1, (I 0), (I 0), q1, (I 0), (I 0), q1, (I 0), (I 0), q1, (I 0), (I 0), q1])), (16, (ce [(I 1), (I 0), (I 0), (I 0), (I 0), (U 18 0 9 3)])), (1204, (ce [(I 1), (I 0), (I 0), (I 0), (I 0), (U 1209 0 9 3)])), (18, (ce [(I 2), (I 7), q1, (I 0), (I 0), q1, (I 0), (I 0), q1, (I 0), (I 0), q1, (I 0), (I 0), q1, (I 0), (I 0), q1, (I 0), (I 0), q1, (I 0), (I 0), q1, (I 0), (I 0), q1])), (1202, (ce [q0, q2, q3, q4, q5, q6, q0, q0, q0, q0, q0, q0, q0, q0, q0, q0, q0, q0, q0, q0, q0, q0, q0, q0, q0, q0, q0, q0, q0, q0, q0, q0, q0, q0, q0, q0, q0, q0, q0, q0, q0, q0, q0, q0, q0, q0, q0, q0, q0, q0, q0, q0, q0, q0, q0, q0, q0, q0, q0, q0, q0, q0, q0, q0, q0, q0, q0, q0, q0, q0, q0, q0, q0, q0, q0, q0, q0, q0, q0, q0, q0, q0, q0, q0, q0, q0, q0, q0, q0, q0, q0, q0, q0, q0, q0, q0, q0, q0, q0, q0, q0, q0, q0, q0, q0, q0, q0, q0, q0, q0, q0, q0, q0, q0, q0, q0, q0, q0, q0, q0, q0, q0, q0, q0, q0, q0, q0, q0, q0, q0, q0, q0, q0, q0, q0, q0, q0, q0, q0, q0, q0, q0, q0, q0, q0, q0, q0, q0, q0, q0, q0, q0, q0, q0, q0, q0, q0, q0, q0, q0, q0, q0, q0, q0, q0, q0, q0, q0, q0, q0, q0, q0, q0, q0, q0, q0, q0, q0, q0, q0, q0, q0, q0, q0, q0, q0, q0, q0, q0, q0, q0, q0, q0, q0, q0, q0, q0, q0, q0, q0, q0, q0, q0, q0, q0, q0, q0, q0, q0, q0, q0, q0, q0, q0, q0, q0, q0, q0, q0, q0, q0, q0, q0, q0, q0, q0, q0, q0, q0, q0, q0, q0, q0, q0, q0, q0, q0, q0, q0, q0, q0, q0, q0, q0, q0, q0, q0, q0, q0, q0, q0, q0, q0, q0, q0, q0, q0, q0])), (1050, (ce [(U 1043 0 258 1), ns, (I 0), ff, (I 1), (I 5), (I 0), (I 4), (I 1), (I 1), (I 1), (U 16 0 1 6)]))] (del [] .E)
/-- the state behind piece 1; its texts -/
def s1 : St :=
⟨⟨⟨4, 100, false, none⟩,
  (n ff (n (A 1050 0) (n (U 1067 0 9 3) (m (o z1) (o (I 0))) (m (o (.tup [(U 1067 0 9 3), (I 0)])) e)) (n (A 1217 0) (m (o z0) (o (U 1067 0 9 3))) (m (o (.tup [(U 1067 0 9 3), (I 0)])) e))) (n tt (n (I 0) (m (o z1) (o z0)) (m (o (S 1051 0 9 9)) e)) (m (m (o tt) (o z2)) (m (o (U 1067 0 9 3)) e)))),
  [.code (c 4 30)], [], .run⟩,
 [⟨⟨3, 201, false, none⟩,
  (o ff),
  [.reg (r 3 8 0), .code (c 3 12), .code (c 3 6)], [], .run⟩],
 ⟨(p 1218), g1⟩,
 []⟩
def k1 : List (IC Blk) := [(c 4 30), (.region (r 3 8 0)), (c 3 12), (c 3 6)]
theorem h1 : codesSt s1.fr s1.cs s1.ls = k1 := by kernel_rfl
def y0 : T V := (n z2 (n (I 0) (n (A 1220 0) (n (A 1222 0) (o (I 0)) e) (o z3)) (m (o z2) (o (.fn 65 [(A 1220 0), (A 1221 0), (A 1222 0), (A 1232 0)])))) (n (I 0) (m (n (A 1232 0) (o (I 0)) e) (o (A 1231 0))) (n (A 1221 0) (o z3) (o (A 1231 0)))))
def y1 : T V := (n z2 (n (A 1218 0) (o (I 0)) e) (n (A 1219 0) (o z2) e))
def y2 : T V := (n ff (n (A 1050 0) (n (U 1067 0 9 3) (m (o z1) (o (I 0))) (m (o (.tup [(U 1067 0 9 3), (I 0)])) e)) (n (A 1217 0) (m (o z0) (o (U 1067 0 9 3))) (m (o (.tup [(U 1067 0 9 3), (I 0)])) e))) (n tt (n (I 0) (m (o z1) (o z0)) (m (o (S 1051 0 9 9)) (o z2))) (m (m (o tt) (o z2)) (m (o (U 1067 0 9 3)) e))))
/-- the memory behind piece 2 -/
def g2 : T Blk := upd [(1231, (ce [(U 1226 0 258 1), ns, (I 0), ff, (I 1), (I 5), (I 0), (I 4), (I 1), (I 1), (I 1), (U 1228 0 1 6)])), (1219, (ce [ns, ns, (I 0), ff, (I 0), (I 0), (I 0), (I 0), (I 0), (I 0), (I 0), ns])), (2419, (ce [(I 1), (I 0), q8, (I 1), (I 0), q9, (I 1), (I 0), q10, (I 2), (I 0), (.str (st 24 44602170961795088161212029927353159077855233)), (I 3), (I 0), (.str (st 24 66989347881523629671253778717447617180073985))])), (1221, (ce [ns, ns, (I 0), ff, (I 0), (I 0), (I 0), (I 0), (I 0), (I 0), (I 0), ns])), (2421, (ce [(I 4), (I 0)])), (1232, (ce [(A 1231 0)])), (1220, (ce [(U 1202 0 258 1), ns, (I 0), ff, (I 1), (I 5), (I 0), (I 4), (I 1), (I 1), (I 1), (U 1204 0 1 6)])), (1228, (ce [(I 1), (I 0), (I 0), (I 0), (I 0), (U 1230 0 9 3)])), (1218, (ce [(U 1202 0 258 1), ns, (I 0), ff, (I 1), (I 5), (I 0), (I 4), (I 1), (I 1), (I 1), (U 1204 0 1 6)])), (1226, (ce [q0, q2, q3, q4, q5, q6, q0, q0, q0, q0, q0, q0, q0, q0, q0, q0, q0, q0, q0, q0, q0, q0, q0, q0, q0, q0, q0, q0, q0, q0, q0, q0, q0, q0, q0, q0, q0, q0, q0, q0, q0, q0, q0, q0, q0, q0, q0, q0, q0, q0, q0, q0, q0, q0, q0, q0, q0, q0, q0, q0, q0, q0, q0, q0, q0, q0, q0, q0, q0, q0, q0, q0, q0, q0, q0, q0, q0, q0, q0, q0, q0, q0, q0, q0, q0, q0, q0, q0, q0, q0, q0, q0, q0, q0, q0, q0, q0, q0, q0, q0, q0, q0, q0, q0, q0, q0, q0, q0, q0, q0, q0, q0, q0, q0, q0, q0, q0, q0, q0, q0, q0, q0, q0, q0, q0, q0, q0, q0, q0, q0, q0, q0, q0, q0, q0, q0, q0, q0, q0, q0, q0, q0, q0, q0, q0, q0, q0, q0, q0, q0, q0, q0, q0, q0, q0, q0, q0, q0, q0, q0, q0, q0, q0, q0, q0, q0, q0, q0, q0, q0, q0, q0, q0, q0, q0, q0, q0, q0, q0, q0, q0, q0, q0, q0, q0, q0, q0, q0, q0, q0, q0, q0, q0, q0, q0, q0, q0, q0, q0, q0, q0, q0, q0, q0, q0, q0, q0, q0, q0, q0, q0, q0, q0, q0, q0, q0, q0, q0, q0, q0, q0, q0, q0, q0, q0, q0, q0, q0, q0, q0, q0, q0, q0, q0, q0, q0, q0, q0, q0, q0, q0, q0, q0, q0, q0, q0, q0, q0, q0, q0, q0, q0, q0, q0, q0, q0, q0, q0])), (1222, (ce [(I 0)])), (1230, (ce [(I 2), (I 7), q7, (I 1), (I 6), q1, (I 0), (I 0), q1, (I 0), (I 0), q1, (I 0), (I 0), q1, (I 0), (I 0), q1, (I 0), (I 0), q1, (I 0), (I 0), q1, (I 0), (I 0), q1]))] (del [] g1)
/-- the state behind piece 2; its texts -/
def s2 : St :=
⟨⟨⟨66, 164, false, none⟩,
  (n (A 1231 0) (n (I 0) (m (m (o (A 1231 3)) e) (n (A 1231 0) (o (I 0)) e)) (m (m (o tn) e) (n (A 1231 0) (o (.agg [(U 2419 0 5 3), (U 2421 0 1 2)])) e))) (n (I 0) (m (m (o ff) e) (n (A 1231 0) (o (I 0)) e)) (m (m (o (A 1231 0)) e) (o (A 1231 0))))),
  [.code (c 66 6)], [], .run⟩,
 [⟨⟨40, 22, false, none⟩,
  y0,
  [.reg (r 40 22 3), .code (c 40 30)], [.call 65 [(A 1220 0), (A 1221 0), (A 1222 0), (A 1232 0)]], .run⟩,
 ⟨⟨16, 8, false, none⟩,
  y1,
  [.reg (r 16 4 1), .code .ret], [], .run⟩,
 ⟨⟨4, 100, false, none⟩,
  y2,
  [.reg (r 4 46 1), .code (c 4 62)], [], .run⟩,
 ⟨⟨3, 201, false, none⟩,
  (o ff),
  [.reg (r 3 8 0), .code (c 3 12), .code (c 3 6)], [], .run⟩],
 ⟨(p 2422), g2⟩,
 []⟩
def k2 : List (IC Blk) := [(c 66 6), (.region (r 40 22 3)), (c 40 30), (.region (r 16 4 1)), .ret, (.region (r 4 46 1)), (c 4 62), (.region (r 3 8 0)), (c 3 12), (c 3 6)]
theorem h2 : codesSt s2.fr s2.cs s2.ls = k2 := by kernel_rfl
/-- the memory behind piece 3 -/
def g3 : T Blk := upd [(3611, (ce [(I 10), (I 2)])), (3609, (ce [(I 1), (I 2), q8, (I 1), (I 2), q9, (I 1), (I 2), q10, (I 2), (I 2), (.str (st 24 2923181681303958815392843670355575645610705289217)), (I 3), (I 2), (.str (st 24 2923204068480878543775890133520919377098081042433))])), (2422, (ce [(U 3609 0 5 3), (U 3611 0 1 2)]))] (del [1218, 1220, 1228, 1051, 2419, 2421] g2)
/-- the state behind piece 3; its texts -/
def s3 : St :=
⟨⟨⟨66, 164, false, none⟩,
  (n (A 1231 0) (n (I 0) (m (n (A 2422 0) (n (A 1231 3) (o (A 1231 0)) (o (.agg [(U 3609 0 5 3), (U 3611 0 1 2)]))) (n (A 1231 0) (o (A 1231 0)) e)) (n (A 1231 0) (n (I 0) (o (A 1231 0)) e) (n (I 2) (o (I 4)) e))) (m (m (n tn (o (A 1231 0)) e) (n (A 1231 4) (o (A 1231 0)) e)) (n (A 1231 0) (n (.agg [(U 2419 0 5 3), (U 2421 0 1 2)]) (o (I 0)) e) (n ff (o (I 0)) e)))) (n (I 0) (m (m (n ff (o (I 2)) e) (n (A 1231 0) (o (A 1231 0)) e)) (n (A 1231 0) (n (I 0) (o (A 1231 6)) e) (n (I 2) (o (I 6)) e))) (n (I 2) (m (n (A 1231 0) (o (A 1231 0)) e) (n (I 1) (o (A 1231 7)) e)) (n (A 1231 0) (n (A 1231 0) (o (I 2)) e) (n tn (o (I 0)) e))))),
  [.code (c 66 62)], [], .run⟩,
 [⟨⟨40, 22, false, none⟩,
  y0,
  [.reg (r 40 22 3), .code (c 40 30)], [.call 65 [(A 1220 0), (A 1221 0), (A 1222 0), (A 1232 0)]], .run⟩,
 ⟨⟨16, 8, false, none⟩,
  y1,
  [.reg (r 16 4 1), .code .ret], [], .run⟩,
 ⟨⟨4, 100, false, none⟩,
  y2,
  [.reg (r 4 46 1), .code (c 4 62)], [], .run⟩,
 ⟨⟨3, 201, false, none⟩,
  (o ff),
  [.reg (r 3 8 0), .code (c 3 12), .code (c 3 6)], [], .run⟩],
 ⟨(p 3612), g3⟩,
 []⟩
def k3 : List (IC Blk) := [(c 66 62), (.region (r 40 22 3)), (c 40 30), (.region (r 16 4 1)), .ret, (.region (r 4 46 1)), (c 4 62), (.region (r 3 8 0)), (c 3 12), (c 3 6)]
theorem h3 : codesSt s3.fr s3.cs s3.ls = k3 := by kernel_rfl
/-- the memory behind piece 4 -/
def g4 : T Blk := upd [] (del [1217, 1219, 1221, 1222, 1226, 1230, 1231, 16, 1232, 18, 1043, 3609, 1050, 3611, 1067, 1202, 1204, 2422, 1209] g3)
/-- the state behind piece 4; its texts -/
def s4 : St :=
⟨⟨⟨3, 201, false, none⟩,
  (n ff (m (m (m e (o ff)) e) e) (m e (m e (m (o tt) e)))),
  [.code (c 3 12), .code (c 3 6)], [], .run⟩,
 [],
 ⟨(p 4488), g4⟩,
 []⟩
def k4 : List (IC Blk) := [(c 3 12), (c 3 6)]
theorem h4 : codesSt s4.fr s4.cs s4.ls = k4 := by kernel_rfl
/-- the memory behind piece 5 -/
def g5 : T Blk := upd [(5663, (ce [(I 1), (I 0), (I 0), (I 0), (I 0), (U 5623 0 9 3), (I 2), (I 7), (I 0), (I 0), (I 0), (U 5630 0 9 3), (I 3), (I 1), (I 9), (I 0), (I 0), (U 5625 0 9 3), (I 3), (I 2), (I 9), (I 0), (I 0), (U 5627 0 9 3)])), (5543, (ce [(U 5619 0 258 1), ns, (I 0), ff, (I 1), (I 5), (I 0), (I 4), (I 1), (I 1), (I 5), (U 5663 0 4 6)])), (5623, (ce [(I 2), (I 7), q1, (I 0), (I 0), q1, (I 0), (I 0), q1, (I 0), (I 0), q1, (I 0), (I 0), q1, (I 0), (I 0), q1, (I 0), (I 0), q1, (I 0), (I 0), q1, (I 0), (I 0), q1])), (5539, (ce [(I 2), (I 7), q1, (I 0), (I 0), q1, (I 0), (I 0), q1, (I 0), (I 0), q1, (I 0), (I 0), q1, (I 0), (I 0), q1, (I 0), (I 0), q1, (I 0), (I 0), q1, (I 0), (I 0), q1])), (5619, (ce [q0, q2, q3, q4, q5, q11, q0, q0, q0, q0, q0, q0, q0, q0, q0, q0, q0, q0, q0, q0, q0, q0, q0, q0, q0, q0, q0, q0, q0, q0, q0, q0, q0, q0, q0, q0, q0, q0, q0, q0, q0, q0, q0, q0, q0, q0, q0, q0, q0, q0, q0, q0, q0, q0, q0, q0, q0, q0, q0, q0, q0, q0, q0, q0, q0, q0, q0, q0, q0, q0, q0, q0, q0, q0, q0, q0, q0, q0, q0, q0, q0, q0, q0, q0, q0, q0, q0, q0, q0, q0, q0, q0, q0, q0, q0, q0, q0, q0, q0, q0, q0, q0, q0, q0, q0, q0, q0, q0, q0, q0, q0, q0, q0, q0, q0, q0, q0, q0, q0, q0, q0, q0, q0, q0, q0, q0, q0, q0, q0, q0, q0, q0, q0, q0, q0, q0, q0, q0, q0, q0, q0, q0, q0, q0, q0, q0, q0, q0, q0, q0, q0, q0, q0, q0, q0, q0, q0, q0, q0, q0, q0, q0, q0, q0, q0, q0, q0, q0, q0, q0, q0, q0, q0, q0, q0, q0, q0, q0, q0, q0, q0, q0, q0, q0, q0, q0, q0, q0, q0, q0, q0, q0, q0, q0, q0, q0, q0, q0, q0, q0, q0, q0, q0, q0, q0, q0, q0, q0, q0, q0, q0, q0, q0, q0, q0, q0, q0, q0, q0, q0, q0, q0, q0, q0, q0, q0, q0, q0, q0, q0, q0, q0, q0, q0, q0, q0, q0, q0, q0, q0, q0, q0, q0, q0, q0, q0, q0, q0, q0, q0, q0, q0, q0, q0, q0, q0, q0, q0])), (5531, (ce [q0, q2, q3, q4, q5, q11, q0, q0, q0, q0, q0, q0, q0, q0, q0, q0, q0, q0, q0, q0, q0, q0, q0, q0, q0, q0, q0, q0, q0, q0, q0, q0, q0, q0, q0, q0, q0, q0, q0, q0, q0, q0, q0, q0, q0, q0, q0, q0, q0, q0, q0, q0, q0, q0, q0, q0, q0, q0, q0, q0, q0, q0, q0, q0, q0, q0, q0, q0, q0, q0, q0, q0, q0, q0, q0, q0, q0, q0, q0, q0, q0, q0, q0, q0, q0, q0, q0, q0, q0, q0, q0, q0, q0, q0, q0, q0, q0, q0, q0, q0, q0, q0, q0, q0, q0, q0, q0, q0, q0, q0, q0, q0, q0, q0, q0, q0, q0, q0, q0, q0, q0, q0, q0, q0, q0, q0, q0, q0, q0, q0, q0, q0, q0, q0, q0, q0, q0, q0, q0, q0, q0, q0, q0, q0, q0, q0, q0, q0, q0, q0, q0, q0, q0, q0, q0, q0, q0, q0, q0, q0, q0, q0, q0, q0, q0, q0, q0, q0, q0, q0, q0, q0, q0, q0, q0, q0, q0, q0, q0, q0, q0, q0, q0, q0, q0, q0, q0, q0, q0, q0, q0, q0, q0, q0, q0, q0, q0, q0, q0, q0, q0, q0, q0, q0, q0, q0, q0, q0, q0, q0, q0, q0, q0, q0, q0, q0, q0, q0, q0, q0, q0, q0, q0, q0, q0, q0, q0, q0, q0, q0, q0, q0, q0, q0, q0, q0, q0, q0, q0, q0, q0, q0, q0, q0, q0, q0, q0, q0, q0, q0, q0, q0, q0, q0, q0, q0, q0, q0])), (5627, (ce [(I 2), (I 7), q1, (I 0), (I 0), q1, (I 0), (I 0), q1, (I 0), (I 0), q1, (I 0), (I 0), q1, (I 0), (I 0), q1, (I 0), (I 0), q1, (I 0), (I 0), q1, (I 0), (I 0), q1])), (5625, (ce [(I 2), (I 7), q1, (I 0), (I 0), q1, (I 0), (I 0), q1, (I 0), (I 0), q1, (I 0), (I 0), q1, (I 0), (I 0), q1, (I 0), (I 0), q1, (I 0), (I 0), q1, (I 0), (I 0), q1])), (4504, (ce [(I 1), (I 0), (I 0), (I 0), (I 0), (U 4506 0 9 3)])), (5538, (ce [(U 5531 0 258 1), ns, (I 0), ff, (I 1), (I 5), (I 0), (I 4), (I 1), (I 1), (I 5), (U 4504 0 1 6)])), (4506, (ce [(I 2), (I 7), q1, (I 0), (I 0), q1, (I 0), (I 0), q1, (I 0), (I 0), q1, (I 0), (I 0), q1, (I 0), (I 0), q1, (I 0), (I 0), q1, (I 0), (I 0), q1, (I 0), (I 0), q1])), (5630, (ce [(I 2), (I 7), q1, (I 0), (I 0), q1, (I 0), (I 0), q1, (I 0), (I 0), q1, (I 0), (I 0), q1, (I 0), (I 0), q1, (I 0), (I 0), q1, (I 0), (I 0), q1, (I 0), (I 0), q1]))] (del [] g4)
/-- the state behind piece 5; its texts -/
def s5 : St :=
⟨⟨⟨3, 201, false, none⟩,
  (n ff (n (A 5538 0) (n (S 5539 0 9 9) (n (A 5543 0) (m (o (.agg [(I 3), (I 2), (I 9), (I 0), (I 0), (S 5539 0 9 9)])) e) (n ff (o (.agg [(I 3), (I 2), (I 9), (I 0), (I 0), (S 5539 0 9 9)])) e)) (m (m (o (.agg [(I 2), (I 7), (I 0), (I 0), (I 0)])) e) (n tt (o (.agg [(I 2), (I 7), (I 0), (I 0), (I 0), (S 5539 0 9 9)])) e))) (n (A 5541 0) (m (m (o (S 5539 0 9 9)) e) (n (.tup [z4, tt]) (o (.agg [(I 3), (I 1), (I 9), (I 0), (I 0), (S 5539 0 9 9)])) e)) (m (m (o (.agg [(I 2), (I 7), (I 0), (I 0), (I 0), (S 5539 0 9 9)])) e) (o (.agg [(I 3), (I 2), (I 9), (I 0), (I 0)]))))) (n tt (n (A 5540 0) (m (m (o (.agg [(I 3), (I 1), (I 9), (I 0), (I 0)])) e) (n (.tup [z4, tt]) (o (.agg [(U 5549 0 258 1), ns, (I 0), ff, (I 1), (I 5), (I 0), (I 4), (I 1), (I 1), (I 5), (U 5571 0 2 6)])) e)) (m (m (o (S 5539 0 9 9)) e) (n (S 5539 0 9 9) (o (.agg [(U 5619 0 258 1), ns, (I 0), ff, (I 1), (I 5), (I 0), (I 4), (I 1), (I 1), (I 5), (U 5663 0 4 6)])) e))) (n (A 5542 0) (m (m (o (.agg [(I 3), (I 1), (I 9), (I 0), (I 0), (S 5539 0 9 9)])) e) (n z4 (o (.agg [(U 5577 0 258 1), ns, (I 0), ff, (I 1), (I 5), (I 0), (I 4), (I 1), (I 1), (I 5), (U 5613 0 3 6)])) e)) (m (n tt (o z4) e) (o (S 5539 0 9 9)))))),
  [.code (c 3 510)], [], .run⟩,
 [],
 ⟨(p 5664), g5⟩,
 []⟩
def k5 : List (IC Blk) := [(c 3 510)]
theorem h5 : codesSt s5.fr s5.cs s5.ls = k5 := by kernel_rfl
end
end Go.Proofs.YtdnnaeplhchmoaaGreat.volForms
