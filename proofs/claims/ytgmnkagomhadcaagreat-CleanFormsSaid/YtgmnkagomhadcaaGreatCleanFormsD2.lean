/- The states between the pieces of the run of 'cleanForms', part 2. -/
import Derived.Test.YtgmnkagomhadcaaGreatCleanFormsD1
namespace Go.Proofs.YtgmnkagomhadcaaGreat.cleanForms
open Go.Ev Go.Ev.Lit
set_option maxRecDepth 100000
noncomputable section
/-- the memory behind piece 99 -/
def g99 : T Blk := upd [(63057, (ce [(U 63050 0 258 1), ns, (I 0), ff, (I 5), (I 23), (I 0), (I 22), (I 1), (I 1), (I 1), (U 60395 0 1 6)])), (63056, (ce [(I 2), (I 14), q2, (I 1), (I 6), q1, (I 0), (I 0), q1, (I 0), (I 0), q1, (I 0), (I 0), q1, (I 0), (I 0), q1, (I 0), (I 0), q1, (I 0), (I 0), q1, (I 0), (I 0), q1])), (63052, (ce [(U 63050 0 258 1), ns, (I 0), ff, (I 5), (I 23), (I 0), (I 22), (I 1), (I 1), (I 1), (U 60395 0 1 6)])), (63058, (ce [ns, ns, (I 0), ff, (I 0), (I 0), (I 0), (I 0), (I 0), (I 0), (I 0), ns])), (63050, (ce [q0, q4, q5, q6, q7, q8, q16, q17, q18, q19, q20, q21, q22, q23, q24, q25, q28, q29, q30, q31, q32, q33, q34, q35, q0, q0, q0, q0, q0, q0, q0, q0, q0, q0, q0, q0, q0, q0, q0, q0, q0, q0, q0, q0, q0, q0, q0, q0, q0, q0, q0, q0, q0, q0, q0, q0, q0, q0, q0, q0, q0, q0, q0, q0, q0, q0, q0, q0, q0, q0, q0, q0, q0, q0, q0, q0, q0, q0, q0, q0, q0, q0, q0, q0, q0, q0, q0, q0, q0, q0, q0, q0, q0, q0, q0, q0, q0, q0, q0, q0, q0, q0, q0, q0, q0, q0, q0, q0, q0, q0, q0, q0, q0, q0, q0, q0, q0, q0, q0, q0, q0, q0, q0, q0, q0, q0, q0, q0, q0, q0, q0, q0, q0, q0, q0, q0, q0, q0, q0, q0, q0, q0, q0, q0, q0, q0, q0, q0, q0, q0, q0, q0, q0, q0, q0, q0, q0, q0, q0, q0, q0, q0, q0, q0, q0, q0, q0, q0, q0, q0, q0, q0, q0, q0, q0, q0, q0, q0, q0, q0, q0, q0, q0, q0, q0, q0, q0, q0, q0, q0, q0, q0, q0, q0, q0, q0, q0, q0, q0, q0, q0, q0, q0, q0, q0, q0, q0, q0, q0, q0, q0, q0, q0, q0, q0, q0, q0, q0, q0, q0, q0, q0, q0, q0, q0, q0, q0, q0, q0, q0, q0, q0, q0, q0, q0, q0, q0, q0, q0, q0, q0, q0, q0, q0, q0, q0, q0, q0, q0, q0, q0, q0, q0, q0, q0, q0, q0, q0])), (52634, (ce [(U 63050 0 258 1), ns, (I 0), ff, (I 5), (I 23), (I 0), (I 22), (I 1), (I 1), (I 1), (U 60395 0 1 6)]))] (del [60314, 62497, 62498, 60397, 60400, 60401, 61618, 60402, 61620, 61621] g98)
/-- the state behind piece 99; its texts -/
def s99 : St :=
⟨⟨⟨37, 26, false, none⟩,
  (n z156 (n (U 63056 0 9 3) (m (o (U 63056 0 9 3)) e) (m (o ff) e)) (n (A 63057 0) (n (A 63058 0) (o tt) e) e)),
  [.code (c 37 12), .code (c 37 6)], [], .run⟩,
 [⟨⟨16, 45, false, none⟩,
  (n z131 (n (A 52634 0) (n (U 63056 0 9 3) (n (I 0) (n (U 52655 0 9 3) (o (U 63056 0 9 3)) e) (n tt (o (I 0)) e)) (n (.tup [(U 52655 0 9 3), (I 0)]) (n tt (o (U 63056 0 9 3)) e) (n (U 60320 0 9 3) (o z156) e))) (n (I 4) (n z131 (n (I 4) (o z157) e) (n (I 4) (o ff) e)) (n (I 0) (n (I 0) (o z157) e) (o (I 14))))) (n (A 52635 0) (n (I 0) (n (.tup [(U 52655 0 9 3), (I 0)]) (n z132 (o (I 0)) e) (n (I 3) (o (I 0)) e)) (n (U 52655 0 9 3) (n (A 52634 6) (o z153) e) (o (I 4)))) (n (A 63052 0) (n (S 52008 0 9 9) (n tt (o z156) e) (o (.tup [(U 63056 0 9 3), (I 0)]))) (n z131 (n tt (o z156) e) (o (.tup [(U 63056 0 9 3), (I 0)])))))),
  [.reg (r 16 5270 2), .code (c 16 7318), .inBlock 1, .code (c 16 918), .inLoop (c 16 150), .inBlock 0, .code (c 16 30)], [], .run⟩,
 ⟨⟨4, 120, false, none⟩,
  y64,
  [.reg (r 4 22 1), .code (c 4 30)], [], .run⟩],
 ⟨(p 63120), g99⟩,
 []⟩
def k99 : List (IC Blk) := [(c 37 12), (c 37 6), (.region (r 16 5270 2)), (c 16 7318), .skip, (c 16 918), (c 16 150), .skip, (c 16 30), (.region (r 4 22 1)), (c 4 30)]
theorem h99 : codesSt s99.fr s99.cs s99.ls = k99 := by kernel_rfl
def y81 : T V := (n z159 (n z159 (o (A 63135 0)) (n (I 0) (o z159) e)) (n (A 63134 0) (o (A 63136 0)) e))
def y82 : T V := (n z159 (n (A 63132 0) (o (I 0)) (o z159)) (n (A 63133 0) (o z159) e))
def y83 : T V := (n z131 (n (A 52634 0) (n (U 63056 0 9 3) (n (I 0) (n (U 52655 0 9 3) (o (U 63056 0 9 3)) e) (n tt (o (I 0)) e)) (n (.tup [(U 52655 0 9 3), (I 0)]) (n tt (o (U 63056 0 9 3)) e) (n (U 60320 0 9 3) (o z156) e))) (n (I 4) (n z131 (n (I 4) (o z157) e) (n (I 4) (o ff) e)) (n (I 0) (n (I 0) (o z157) e) (o (I 14))))) (n (A 52635 0) (n (I 0) (n (.tup [(U 52655 0 9 3), (I 0)]) (n z132 (o (I 0)) e) (n (I 3) (o (I 0)) e)) (n (U 52655 0 9 3) (n (A 52634 6) (o z159) e) (o (I 4)))) (n (A 63052 0) (n (S 52008 0 9 9) (n tt (o z156) e) (o (.tup [(U 63056 0 9 3), (I 0)]))) (n z131 (n tt (o z156) e) (o (.tup [(U 63056 0 9 3), (I 0)]))))))
/-- the memory behind piece 100 -/
def g100 : T Blk := upd [(63135, (ce [(U 63050 0 258 1), ns, (I 0), ff, (I 5), (I 23), (I 0), (I 22), (I 1), (I 1), (I 1), (U 63131 0 1 6)])), (63139, (ce [(U 63050 0 258 1), ns, (I 0), ff])), (63131, (ce [(I 1), (I 0), (I 0), (I 0), (I 0), (U 63056 0 9 3)])), (63137, (ce [(U 63050 0 258 1), ns, (I 0), ff, (I 5), (I 23), (I 0), (I 22), (I 1), (I 1), (I 1), (U 63131 0 1 6)])), (63141, (ce [ns, ns, ns, ns, (I 0), (I 0), ff])), (63133, (ce [ns, ns, (I 0), ff, (I 0), (I 0), (I 0), (I 0), (I 0), (I 0), (I 0), ns])), (63136, (ce [ns, ns, (I 0), ff, (I 0), (I 0), (I 0), (I 0), (I 0), (I 0), (I 0), ns])), (63140, (ce [ns, ns])), (63796, (ce [(I 7), (I 2), (I 8), (I 2), (I 20), (I 5), (I 21), (I 5), (I 22), (I 5), (I 23), (I 5)])), (63132, (ce [(U 63050 0 258 1), ns, (I 0), ff, (I 5), (I 23), (I 0), (I 22), (I 1), (I 1), (I 1), (U 63131 0 1 6)])), (63138, (ce [ns, ns, (I 0), ff, (I 0), (I 0), (I 0), (I 0), (I 0), (I 0), (I 0), ns])), (63134, (ce [(U 63050 0 258 1), ns, (I 0), ff, (I 5), (I 23), (I 0), (I 22), (I 1), (I 1), (I 1), (U 63131 0 1 6)]))] (del [63057, 63058] g99)
/-- the state behind piece 100; its texts -/
def s100 : St :=
⟨⟨⟨119, 207, false, none⟩,
  (n z158 (n (I 23) (n (I 0) (n (A 63139 0) (n ff (o (I 1)) (o (.tup [(U 63796 0 6 2), tt]))) (m (o (I 0)) e)) (m (m (o tt) (o (U 63796 0 6 2))) (m (o (I 0)) e))) (n (I 0) (m (n (U 63796 0 6 2) (o ff) (o (I 23))) (m (o ff) e)) (m (m (o ff) e) (m (o z9) e)))) (n (I 0) (n (I 0) (m (n (A 63141 0) (o ff) (o z158)) (m (o ff) e)) (m (m (o ff) (o tt)) (m (o (I 0)) e))) (n (U 63131 0 1 6) (m (n tt (o (I 0)) (o (.tup [(U 63796 0 6 2), tt]))) e) (n (A 63140 0) (m (o ff) e) (n (U 63131 0 1 6) (o (A 63141 0)) e))))),
  [.code (c 119 30)], [], .run⟩,
 [⟨⟨56, 300, false, none⟩,
  (n z159 (n (I 0) (n (A 63137 0) (n (I 0) (m (o (A 63137 0)) e) e) (m (m (o (I 0)) e) (o (A 63137 3)))) (m (m (m (o (A 63137 5)) e) e) (m (m (o (A 63137 11)) e) e))) (n (I 0) (m (m (m (o z158) e) e) (m (m (o (I 0)) e) (o ff))) (n (A 63138 0) (m (m (o (I 23)) e) (o (A 63137 0))) (m (m (o (U 63131 0 1 6)) e) e)))),
  [.reg (r 56 10 8), .code (c 56 14)], [], .run⟩,
 ⟨⟨132, 25, false, none⟩,
  y81,
  [.reg (r 132 4 1), .code (c 132 6)], [], .run⟩,
 ⟨⟨60, 9, false, none⟩,
  y82,
  [.reg (r 60 4 2), .code .ret], [], .run⟩,
 ⟨⟨16, 45, false, none⟩,
  y83,
  [.reg (r 16 5270 3), .code (c 16 7318), .inBlock 1, .code (c 16 918), .inLoop (c 16 150), .inBlock 0, .code (c 16 30)], [], .run⟩,
 ⟨⟨4, 120, false, none⟩,
  y64,
  [.reg (r 4 22 1), .code (c 4 30)], [], .run⟩],
 ⟨(p 63797), g100⟩,
 []⟩
def k100 : List (IC Blk) := [(c 119 30), (.region (r 56 10 8)), (c 56 14), (.region (r 132 4 1)), (c 132 6), (.region (r 60 4 2)), .ret, (.region (r 16 5270 3)), (c 16 7318), .skip, (c 16 918), (c 16 150), .skip, (c 16 30), (.region (r 4 22 1)), (c 4 30)]
theorem h100 : codesSt s100.fr s100.cs s100.ls = k100 := by kernel_rfl
/-- the memory behind piece 101 -/
def g101 : T Blk := upd [(64351, (ce [(I 2), (I 0)])), (64349, (ce [(I 1), (I 0), q96, (I 2), (I 0), q36, (I 3), (I 0), q37])), (64352, (ce [(U 64349 0 3 3), (U 64351 0 1 2)]))] (del [63139, 63140, 63141, 63796] g100)
/-- the state behind piece 101; its texts -/
def s101 : St :=
⟨⟨⟨56, 300, false, none⟩,
  (n z159 (n (I 0) (n (A 63137 0) (n (I 0) (m (o (A 63137 0)) e) (m (o z161) e)) (m (m (o (I 0)) e) (o (A 63137 3)))) (m (n tt (m (o (A 63137 5)) e) (m (o tt) e)) (m (m (o (A 63137 11)) e) e))) (n (I 0) (m (n (A 64352 0) (m (o z158) e) (m (o z160) e)) (m (m (o (I 0)) e) (o ff))) (n (A 63138 0) (m (m (o (I 23)) e) (o (A 63137 0))) (m (m (o (U 63131 0 1 6)) e) (o z161))))),
  [.code (c 56 14)], [], .run⟩,
 [⟨⟨132, 25, false, none⟩,
  y81,
  [.reg (r 132 4 1), .code (c 132 6)], [], .run⟩,
 ⟨⟨60, 9, false, none⟩,
  y82,
  [.reg (r 60 4 2), .code .ret], [], .run⟩,
 ⟨⟨16, 45, false, none⟩,
  y83,
  [.reg (r 16 5270 3), .code (c 16 7318), .inBlock 1, .code (c 16 918), .inLoop (c 16 150), .inBlock 0, .code (c 16 30)], [], .run⟩,
 ⟨⟨4, 120, false, none⟩,
  y64,
  [.reg (r 4 22 1), .code (c 4 30)], [], .run⟩],
 ⟨(p 64353), g101⟩,
 []⟩
def k101 : List (IC Blk) := [(c 56 14), (.region (r 132 4 1)), (c 132 6), (.region (r 60 4 2)), .ret, (.region (r 16 5270 3)), (c 16 7318), .skip, (c 16 918), (c 16 150), .skip, (c 16 30), (.region (r 4 22 1)), (c 4 30)]
theorem h101 : codesSt s101.fr s101.cs s101.ls = k101 := by kernel_rfl
/-- the memory behind piece 102 -/
def g102 : T Blk := upd [(64355, (ce [(U 63050 0 258 1), ns, (I 0), ff])), (64357, (ce [ns, ns, ns, ns, (I 6), (I 24), ff])), (64356, (ce [ns, ns])), (65012, (ce [(I 7), (I 2), (I 8), (I 2), (I 20), (I 5), (I 21), (I 5), (I 22), (I 5), (I 23), (I 5)])), (64354, (ce [ns, ns]))] (del [63052, 63132, 64349, 63134, 64351, 63135, 64352] g101)
/-- the state behind piece 102; its texts -/
def s102 : St :=
⟨⟨⟨119, 207, false, none⟩,
  (n z158 (n (I 23) (n (I 24) (n (A 64355 0) (n ff (o (I 1)) (o (.tup [(U 65012 0 6 2), tt]))) (m (o (I 24)) e)) (m (m (o tt) (o (U 65012 0 6 2))) (m (o (I 6)) e))) (n (I 0) (m (n (U 65012 0 6 2) (o ff) (o (I 23))) (m (o ff) e)) (m (m (o ff) e) (m (o (.agg [ns, ns, ns, ns, (I 6), (I 24), ff])) e)))) (n (I 6) (n (I 0) (m (n (A 64357 0) (o ff) (o z158)) (m (o ff) e)) (m (m (o ff) (o tt)) (m (o (I 24)) e))) (n (U 63131 0 1 6) (m (n tt (o (I 6)) (o (.tup [(U 65012 0 6 2), tt]))) e) (n (A 64356 0) (m (o ff) e) (n (U 63131 0 1 6) (o (A 64357 0)) e))))),
  [.code (c 119 30)], [], .run⟩,
 [⟨⟨56, 300, false, none⟩,
  (n z159 (n (I 0) (n (A 63137 0) (n (I 0) (m (n (A 63137 0) (o (I 24)) e) (o (I 6))) (m (o z161) (o (A 63137 5)))) (n (A 64353 0) (m (n (I 0) (o (U 63131 0 1 6)) e) (o z159)) (n (A 63137 3) (o ff) (o (I 0))))) (m (n tt (m (n (A 63137 5) (o (I 0)) e) (o ff)) (m (o tt) (o (I 6)))) (m (m (o (A 63137 11)) (o (A 63137 0))) (m (o (A 63137 4)) (o (A 63137 7)))))) (n (I 0) (m (n (A 64352 0) (m (n z158 (o (I 0)) e) (o (I 6))) (m (o z160) (o (I 23)))) (n (A 64354 0) (m (o (I 0)) e) (n ff e (o (I 2))))) (n (A 63138 0) (n (I 6) (m (n (I 23) (o (A 63137 11)) e) e) (n (A 63137 0) (o tt) (o (A 63137 6)))) (m (m (o (U 63131 0 1 6)) (o z158)) (n z161 (o (I 5)) (o (I 22))))))),
  [.reg (r 56 382 21), .code (c 56 510)], [], .run⟩,
 ⟨⟨132, 25, false, none⟩,
  y81,
  [.reg (r 132 4 1), .code (c 132 6)], [], .run⟩,
 ⟨⟨60, 9, false, none⟩,
  y82,
  [.reg (r 60 4 2), .code .ret], [], .run⟩,
 ⟨⟨16, 45, false, none⟩,
  y83,
  [.reg (r 16 5270 3), .code (c 16 7318), .inBlock 1, .code (c 16 918), .inLoop (c 16 150), .inBlock 0, .code (c 16 30)], [], .run⟩,
 ⟨⟨4, 120, false, none⟩,
  y64,
  [.reg (r 4 22 1), .code (c 4 30)], [], .run⟩],
 ⟨(p 65013), g102⟩,
 []⟩
def k102 : List (IC Blk) := [(c 119 30), (.region (r 56 382 21)), (c 56 510), (.region (r 132 4 1)), (c 132 6), (.region (r 60 4 2)), .ret, (.region (r 16 5270 3)), (c 16 7318), .skip, (c 16 918), (c 16 150), .skip, (c 16 30), (.region (r 4 22 1)), (c 4 30)]
theorem h102 : codesSt s102.fr s102.cs s102.ls = k102 := by kernel_rfl
/-- the memory behind piece 103 -/
def g103 : T Blk := upd [(65788, (ce [(U 65786 0 258 1), ns, (I 0), ff, (I 6), (I 27), (I 0), (I 26), (I 1), (I 1), (I 1), (U 63131 0 1 6)])), (65786, (ce [q0, q4, q5, q6, q7, q8, q16, q17, q18, q19, q20, q21, q22, q23, q24, q25, q28, q29, q30, q31, q32, q33, q34, q35, q38, q39, q40, q41, q0, q0, q0, q0, q0, q0, q0, q0, q0, q0, q0, q0, q0, q0, q0, q0, q0, q0, q0, q0, q0, q0, q0, q0, q0, q0, q0, q0, q0, q0, q0, q0, q0, q0, q0, q0, q0, q0, q0, q0, q0, q0, q0, q0, q0, q0, q0, q0, q0, q0, q0, q0, q0, q0, q0, q0, q0, q0, q0, q0, q0, q0, q0, q0, q0, q0, q0, q0, q0, q0, q0, q0, q0, q0, q0, q0, q0, q0, q0, q0, q0, q0, q0, q0, q0, q0, q0, q0, q0, q0, q0, q0, q0, q0, q0, q0, q0, q0, q0, q0, q0, q0, q0, q0, q0, q0, q0, q0, q0, q0, q0, q0, q0, q0, q0, q0, q0, q0, q0, q0, q0, q0, q0, q0, q0, q0, q0, q0, q0, q0, q0, q0, q0, q0, q0, q0, q0, q0, q0, q0, q0, q0, q0, q0, q0, q0, q0, q0, q0, q0, q0, q0, q0, q0, q0, q0, q0, q0, q0, q0, q0, q0, q0, q0, q0, q0, q0, q0, q0, q0, q0, q0, q0, q0, q0, q0, q0, q0, q0, q0, q0, q0, q0, q0, q0, q0, q0, q0, q0, q0, q0, q0, q0, q0, q0, q0, q0, q0, q0, q0, q0, q0, q0, q0, q0, q0, q0, q0, q0, q0, q0, q0, q0, q0, q0, q0, q0, q0, q0, q0, q0, q0, q0, q0, q0, q0, q0, q0, q0, q0]))] (del [63050, 63133, 63136, 60320, 63137, 64354, 63138, 64355, 64356, 64357, 60395, 65012] g102)
/-- the state behind piece 103; its texts -/
def s103 : St :=
⟨⟨⟨16, 45, false, none⟩,
  (n z131 (n (A 52634 0) (n (U 63056 0 9 3) (n (I 0) (n (U 52655 0 9 3) (o (U 63056 0 9 3)) e) (n tt (o (I 0)) e)) (n (.tup [(U 52655 0 9 3), (I 0)]) (n tt (o (U 63056 0 9 3)) e) (n (U 60320 0 9 3) (o z156) e))) (n (I 4) (n z131 (n (I 4) (o z163) e) (n (I 4) (o ff) e)) (n (I 0) (n (I 0) (o z163) e) (o (I 14))))) (n (A 52635 0) (n (I 0) (n (.tup [(U 52655 0 9 3), (I 0)]) (n z132 (o (I 0)) e) (n (I 3) (o (I 0)) e)) (n (U 52655 0 9 3) (n (A 52634 6) (o z159) e) (o (I 4)))) (n (A 65788 0) (n (S 52008 0 9 9) (n tt (o z156) e) (o (.tup [(U 63056 0 9 3), (I 0)]))) (n z131 (n tt (o z162) e) (o (.tup [(U 63056 0 9 3), (I 0)])))))),
  [.code (c 16 7318), .inBlock 1, .code (c 16 918), .inLoop (c 16 150), .inBlock 0, .code (c 16 30)], [], .run⟩,
 [⟨⟨4, 120, false, none⟩,
  y64,
  [.reg (r 4 22 1), .code (c 4 30)], [], .run⟩],
 ⟨(p 65789), g103⟩,
 []⟩
def k103 : List (IC Blk) := [(c 16 7318), .skip, (c 16 918), (c 16 150), .skip, (c 16 30), (.region (r 4 22 1)), (c 4 30)]
theorem h103 : codesSt s103.fr s103.cs s103.ls = k103 := by kernel_rfl
def y84 : T V := (n z165 (n (I 0) (n (A 65873 0) (n (I 0) (m (o (A 65873 0)) e) e) (m (m (o (I 0)) e) (o (A 65873 3)))) (m (m (m (o (A 65873 5)) e) e) (m (m (o (A 65873 11)) e) e))) (n (I 0) (m (m (m (o z164) e) e) (m (m (o (I 0)) e) (o ff))) (n (A 65874 0) (m (m (o (I 27)) e) (o (A 65873 0))) (m (m (o (U 65867 0 1 6)) e) e))))
def y85 : T V := (n z165 (n z165 (o (A 65871 0)) (n (I 0) (o z165) e)) (n (A 65870 0) (o (A 65872 0)) e))
def y86 : T V := (n z165 (n (A 65868 0) (o (I 0)) (o z165)) (n (A 65869 0) (o z165) e))
def y87 : T V := (n z131 (n (A 52634 0) (n (U 65792 0 9 3) (n (I 0) (n (U 52655 0 9 3) (o (U 65792 0 9 3)) e) (n tt (o (I 0)) e)) (n (.tup [(U 52655 0 9 3), (I 0)]) (n tt (o (U 65792 0 9 3)) e) (n (U 63056 0 9 3) (o z162) e))) (n (I 5) (n z131 (n (I 5) (o z163) e) (n (I 5) (o ff) e)) (n (I 0) (n (I 0) (o z163) e) (o (I 15))))) (n (A 52635 0) (n (I 0) (n (.tup [(U 52655 0 9 3), (I 0)]) (n z132 (o (I 0)) e) (n (I 4) (o (I 0)) e)) (n (U 52655 0 9 3) (n (A 52634 6) (o z165) e) (o (I 5)))) (n (A 65788 0) (n (S 52008 0 9 9) (n tt (o z162) e) (o (.tup [(U 65792 0 9 3), (I 0)]))) (n z131 (n tt (o z162) e) (o (.tup [(U 65792 0 9 3), (I 0)]))))))
/-- the memory behind piece 104 -/
def g104 : T Blk := upd [(65871, (ce [(U 65786 0 258 1), ns, (I 0), ff, (I 6), (I 27), (I 0), (I 26), (I 1), (I 1), (I 1), (U 65867 0 1 6)])), (66007, (ce [(I 25), (I 6)])), (65875, (ce [(U 65786 0 258 1), ns, (I 0), ff])), (65867, (ce [(I 1), (I 0), (I 0), (I 0), (I 0), (U 65792 0 9 3)])), (66347, (ce [(I 1), (I 0), q108, (I 1), (I 1), q2, (I 2), (I 0), q3])), (66369, (ce [ff, tt, tt, ff, ff, ff, ff, ff, ff, ff])), (65873, (ce [(U 65786 0 258 1), ns, (I 0), ff, (I 6), (I 27), (I 0), (I 26), (I 1), (I 1), (I 1), (U 65867 0 1 6)])), (65877, (ce [ns, ns, ns, ns, (I 0), (I 0), ff])), (65869, (ce [ns, ns, (I 0), ff, (I 0), (I 0), (I 0), (I 0), (I 0), (I 0), (I 0), ns])), (66349, (ce [(I 24), (I 6), (I 7), (I 2), (I 8), (I 2)])), (65965, (ce [(I 27), (I 6), (I 26), (I 6)])), (65792, (ce [(I 2), (I 15), q2, (I 1), (I 6), q1, (I 0), (I 0), q1, (I 0), (I 0), q1, (I 0), (I 0), q1, (I 0), (I 0), q1, (I 0), (I 0), q1, (I 0), (I 0), q1, (I 0), (I 0), q1])), (65872, (ce [ns, ns, (I 0), ff, (I 0), (I 0), (I 0), (I 0), (I 0), (I 0), (I 0), ns])), (65880, (ce [(I 0), (I 0), ns, ns, ns, ns, ns])), (65876, (ce [ns, ns])), (65868, (ce [(U 65786 0 258 1), ns, (I 0), ff, (I 6), (I 27), (I 0), (I 26), (I 1), (I 1), (I 1), (U 65867 0 1 6)])), (65874, (ce [ns, ns, (I 0), ff, (I 0), (I 0), (I 0), (I 0), (I 0), (I 0), (I 0), ns])), (66354, (ce [(I 0), (I 0), (I 1), (I 0), (I 0), (I 0), (I 0), (I 0), (I 0), (I 0)])), (66074, (ce [(I 1), (I 0), (I 0), (I 0), (I 0)])), (52634, (ce [(U 65786 0 258 1), ns, (I 0), ff, (I 6), (I 27), (I 0), (I 26), (I 1), (I 1), (I 1), (U 63131 0 1 6)])), (65870, (ce [(U 65786 0 258 1), ns, (I 0), ff, (I 6), (I 27), (I 0), (I 26), (I 1), (I 1), (I 1), (U 65867 0 1 6)])), (66350, (ce [(I 2), (I 14), q2, (I 1), (I 6), q1, (I 0), (I 0), q1, (I 0), (I 0), q1, (I 0), (I 0), q1, (I 0), (I 0), q1, (I 0), (I 0), q1, (I 0), (I 0), q1, (I 0), (I 0), q1])), (65966, (ce [(I 1), (I 1), ns, ns, ns, ns, (U 65965 0 2 2)]))] (del [] g103)
/-- the state behind piece 104; its texts -/
def s104 : St :=
⟨⟨⟨90, 180, false, none⟩,
  (n (S 66350 0 9 9) (m (n (S 66354 0 10 10) (n tt (m (n (I 8) (o (U 66357 0 1 2)) (o (I 1))) (n tt (o ff) (o (I 1)))) (n (I 2) (n tt (o (A 66354 2)) (o ff)) (n ff (o (S 66369 0 10 10)) e))) (n (I 2) (n ff (n (A 66350 24) (o (I 2)) (o ns)) (n (.tup [(U 66357 0 1 2), tt]) (o (I 0)) (o (A 66376 0)))) (n (I 9) (n ff (o ff) (o tn)) (n ff (o (I 0)) e)))) (n (A 66368 0) (n (S 66369 0 10 10) (n (I 9) (n (S 66350 0 9 9) (o (A 66357 0)) (o (S 66350 0 9 9))) (n (A 66355 2) (o (A 66361 2)) (o (U 66376 0 1 2)))) (n ff (n (.agg [(I 0), (I 0), q1]) (o (I 6)) (o tn)) (n (U 66357 0 1 2) (o (I 1)) e))) (n (I 0) (n (A 66350 0) (n (A 66368 0) (o (I 0)) (o ns)) (n tt (o ff) (o (I 2)))) (n (I 9) (n tt (o (I 6)) (o ff)) (n (I 1) (o (I 2)) e))))) (n ff (n (I 9) (n (I 1) (n (S 66350 0 9 9) (n (I 9) (o (I 0)) (o (I 2))) (n (.tup [(U 66357 0 1 2), tt]) (o ff) (o (S 66369 0 10 10)))) (n ff (n tt (o (A 66361 1)) (o ff)) (n (I 1) (o (A 66369 1)) e))) (n ns (n (S 66350 0 9 9) (n (.agg [(I 0), (I 0), q1]) (o (A 66354 2)) (o (I 0))) (n (U 66357 0 1 2) (o ff) (o (A 66376 1)))) (n (S 66350 0 9 9) (n tt (o (A 66361 1)) (o tn)) (n (I 0) (o (I 1)) e)))) (n (U 66357 0 1 2) (n (I 1) (n ff (n (I 8) (o (A 66357 1)) (o (I 2))) (n q2 (o q1) (o (I 0)))) (n (S 66354 0 10 10) (n (.agg [(I 0), (I 0), q1]) (o ff) (o tn)) (n (I 1) (o tt) e))) (m (n (A 66350 0) (n (I 0) (o (I 1)) (o (I 0))) (n tt (o (S 66369 0 10 10)) (o (A 66369 2)))) (n ff (n tt (o ff) (o (I 0))) (n (S 66354 0 10 10) (o tt) e)))))),
  [.code (c 90 51979454), .code (c 90 26813630), .inLoop (c 90 10036414), .inBlock 9, .inBlock 8, .code (c 90 468158), .inLoop (c 90 74942), .inBlock 7, .inBlock 6, .code (c 90 7358), .inLoop (c 90 1214), .inBlock 5, .code (c 90 254)], [], .run⟩,
 [⟨⟨195, 80, false, none⟩,
  (n (U 66347 0 3 3) (m (n ff (n (S 66350 0 9 9) (n (I 2) (n (I 3) (o q1) e) (o (u8 6))) (n (I 2) (o (I 2)) (o (I 1)))) (n ff (n (I 2) (n (I 2) (o (A 66350 0)) e) (o (A 66350 3))) (n (I 0) (o (u8 1)) (o (I 1))))) (n (I 3) (n (U 66347 0 3 3) (n (.agg [(I 2), (I 0), q3]) (n (S 66350 0 9 9) (o q2) e) (o (A 66350 3))) (n ff (o (A 66353 2)) (o (S 66350 0 9 9)))) (n (I 3) (n ff (n (S 66350 0 9 9) (o (S 66350 0 9 9)) e) (o (S 66350 0 9 9))) (n (A 66353 2) (o (A 66353 2)) (o (A 66350 0)))))) (n ns (n (S 66350 0 9 9) (n (I 3) (n (A 66347 6) (n ff (o (A 66352 2)) e) (o (I 6))) (n ff (o (I 1)) (o (I 0)))) (n (I 2) (n ff (n (I 1) (o (A 66350 2)) e) (o (A 66350 4))) (n tt (o (I 1)) (o (I 0))))) (n (A 66353 0) (n (I 3) (n (A 66353 0) (n (A 66353 0) (o q2) e) (o (A 66350 3))) (n (A 66353 1) (o q3) (o (A 66352 0)))) (n (U 66347 0 3 3) (n (A 66353 0) (o (A 66353 0)) (o (A 66352 0))) (n q3 (o q3) (o (A 66350 2))))))),
  [.reg (r 195 38 1), .code (c 195 54), .code (c 195 30)], [], .run⟩,
 ⟨⟨123, 134, false, none⟩,
  (n z164 (n (I 27) (m (n tt (n (A 66074 0) (n (.agg [(I 4), (I 6), q11]) (o (U 65919 0 1 2)) (o (U 66347 0 3 3))) (n (U 65919 0 1 2) (o tt) e)) (n (I 27) (m (o tt) e) (m (o (U 66348 0 3 3)) e))) (n (A 65966 0) (n (U 66347 0 3 3) (n (U 65919 0 1 2) (o (I 6)) e) (n (U 65919 0 1 2) (o (.tup [(U 66348 0 3 3), (U 66349 0 3 2), (U 66347 0 3 3), tt])) e)) (n tt (n (A 65913 1) (o (.agg [(I 3), (I 6), q56])) e) (n (I 0) (o tt) e)))) (n ff (n (I 1) (n (U 66348 0 3 3) (n (I 1) (o (A 65919 0)) e) (n (.agg [(I 1), (I 1), ns, ns, ns, ns, (U 65965 0 2 2)]) (o ff) e)) (n (.agg [(I 4), (I 6), q11]) (o (I 1)) (n z164 (o (U 66347 0 3 3)) e))) (n (A 65967 0) (n z47 (n tt (o (.agg [(I 3), (I 6), q56])) e) (n tt (o (U 66007 0 1 2)) e)) (m (n (.agg [(I 27), (I 6)]) (o z2) e) (o (A 65919 0)))))) (n (A 65879 0) (n (A 65880 0) (n (I 1) (n (U 66007 0 1 2) (n (.tup [(I 1), (I 1), (U 65919 0 1 2), tt]) (o (I 0)) e) (n (U 65965 0 2 2) (o tt) e)) (n z47 (n (I 1) (o ff) e) (n z48 (o (U 66349 0 3 2)) e))) (n (I 0) (m (n tt (o z48) e) (n (I 1) (o z164) e)) (n ff (n (I 6) (o (.tup [z2, (U 66007 0 1 2), tt])) e) (n (A 65919 0) (o ff) e)))) (n (A 65913 0) (n (U 65919 0 1 2) (n (U 66349 0 3 2) (n (I 1) (o (A 65919 1)) e) (o (I 0))) (n tt (n (I 27) (o (.tup [z2, (U 66007 0 1 2), tt])) e) (n (U 65919 0 1 2) (o tt) e))) (n tt (n z164 (n ff (o tt) e) (m (o (.tup [(U 66348 0 3 3), (U 66349 0 3 2), (U 66347 0 3 3), tt])) e)) (n (.tup [(I 1), (I 1), (U 65919 0 1 2), tt]) (n (S 65964 0 1 1) (o (U 66007 0 1 2)) e) (o (I 26))))))),
  [.reg (r 123 1565886 1), .code (c 123 2090174), .inBlock 1, .code (c 123 7358), .inLoop (c 123 1214), .inBlock 0, .code (c 123 254)], [], .run⟩,
 ⟨⟨63, 33, false, none⟩,
  (n z164 (n (I 27) (m e (o z164)) (o ff)) (n (A 65878 0) (n ns e (o (I 27))) e)),
  [.reg (r 63 4 2), .code (c 63 6)], [], .run⟩,
 ⟨⟨119, 207, false, none⟩,
  (n z164 (n (I 27) (n (I 0) (n (A 65875 0) (n ff (o (I 1)) e) (m (o (I 0)) e)) (m (m (o tt) e) (m (o (I 0)) e))) (n (I 0) (m (m (o ff) (o (I 27))) (m (o ff) e)) (m (m (o ff) e) (m (o z9) e)))) (n (I 0) (n (I 0) (m (n (A 65877 0) (o ff) (o z164)) (m (o ff) e)) (m (m (o ff) e) (m (o (I 0)) e))) (n (U 65867 0 1 6) (m (m (o (I 0)) e) e) (n (A 65876 0) (m (o ff) e) (n (U 65867 0 1 6) (o (A 65877 0)) e))))),
  [.reg (r 119 22 2), .code (c 119 30)], [], .run⟩,
 ⟨⟨56, 300, false, none⟩,
  y84,
  [.reg (r 56 10 8), .code (c 56 14)], [], .run⟩,
 ⟨⟨132, 25, false, none⟩,
  y85,
  [.reg (r 132 4 1), .code (c 132 6)], [], .run⟩,
 ⟨⟨60, 9, false, none⟩,
  y86,
  [.reg (r 60 4 2), .code .ret], [], .run⟩,
 ⟨⟨16, 45, false, none⟩,
  y87,
  [.reg (r 16 5270 3), .code (c 16 7318), .inBlock 1, .code (c 16 918), .inLoop (c 16 150), .inBlock 0, .code (c 16 30)], [], .run⟩,
 ⟨⟨4, 120, false, none⟩,
  y64,
  [.reg (r 4 22 1), .code (c 4 30)], [], .run⟩],
 ⟨(p 66380), g104⟩,
 []⟩
def k104 : List (IC Blk) := [(c 90 51979454), (c 90 26813630), (c 90 10036414), .skip, .skip, (c 90 468158), (c 90 74942), .skip, .skip, (c 90 7358), (c 90 1214), .skip, (c 90 254), (.region (r 195 38 1)), (c 195 54), (c 195 30), (.region (r 123 1565886 1)), (c 123 2090174), .skip, (c 123 7358), (c 123 1214), .skip, (c 123 254), (.region (r 63 4 2)), (c 63 6), (.region (r 119 22 2)), (c 119 30), (.region (r 56 10 8)), (c 56 14), (.region (r 132 4 1)), (c 132 6), (.region (r 60 4 2)), .ret, (.region (r 16 5270 3)), (c 16 7318), .skip, (c 16 918), (c 16 150), .skip, (c 16 30), (.region (r 4 22 1)), (c 4 30)]
theorem h104 : codesSt s104.fr s104.cs s104.ls = k104 := by kernel_rfl
/-- the memory behind piece 105 -/
def g105 : T Blk := upd [(66753, (ce [(I 7), (I 2), (I 8), (I 2), (I 24), (I 6), (I 25), (I 6), (I 26), (I 6), (I 27), (I 6)])), (65877, (ce [ns, ns, (U 66753 0 6 2), (U 66754 0 6 3), (I 0), (I 0), ff])), (66754, (ce [(I 1), (I 2), q26, (I 1), (I 2), q27, (I 1), (I 6), q96, (I 2), (I 6), q109, (I 3), (I 6), q56, (I 4), (I 6), q11]))] (del [66369, 65875, 66007, 65880, 66074, 66347, 65965, 66349, 65966, 66350, 66354] g104)
/-- the state behind piece 105; its texts -/
def s105 : St :=
⟨⟨⟨119, 207, false, none⟩,
  (n z164 (n (I 27) (n (I 0) (n (A 65875 0) (n ff (n (I 1) (n (A 66532 10) (o tt) e) (o (A 65877 0))) (n (.tup [(U 66532 0 6 2), tt]) (o (A 66532 10)) (o (U 66754 0 6 3)))) (m (n (I 0) (o z47) (o (S 66751 0 1 1))) (n (I 6) (o (A 66532 10)) (o tt)))) (m (n (I 6) (n tt (o (I 5)) (o (U 66532 0 6 2))) (n (U 66532 0 6 2) (o ff) (o (A 65877 3)))) (m (n (I 0) (o tt) (o (A 65877 3))) (n z47 (o tt) (o (I 0)))))) (n (I 0) (m (n (U 66532 0 6 2) (n ff (o (I 27)) (o (A 65877 2))) (n (I 27) (o (I 0)) (o (A 65877 2)))) (m (n ff (o tt) (o (A 65877 0))) (n (I 5) (o (I 0)) e))) (m (n tt (n ff (o (A 66532 11)) (o (A 66532 10))) (n (I 6) (o (I 5)) (o (U 65867 0 1 6)))) (m (n z9 (o (I 5)) (o (.agg [(I 4), (I 6), q11]))) (n (U 66532 0 6 2) (o (A 65877 0)) (o (A 65867 5))))))) (n (I 0) (n (I 0) (m (n (A 65877 0) (n ff (n (A 66532 10) (o ff) e) (o (A 65877 0))) (n z164 (o (I 27)) (o (A 65877 0)))) (m (n ff (o (.agg [(I 4), (I 6), q11])) (o (U 66753 0 6 2))) (n ff (o (I 27)) e))) (m (n (A 66718 0) (n ff (o (A 66532 10)) (o (I 5))) (n tt (o (U 66532 0 6 2)) (o (I 0)))) (m (n (I 0) (o (U 66532 0 6 2)) (o (U 66717 0 5 3))) (n z164 (o tt) (o (A 65867 0)))))) (n (U 65867 0 1 6) (m (n tt (n (I 0) (o (U 66532 0 6 2)) (o (U 66716 0 5 2))) (n (.tup [(U 66532 0 6 2), tt]) (o ff) (o (A 65877 0)))) (m (m (o tt) (o (A 65877 0))) (n (I 6) (o tt) (o (U 65867 0 1 6))))) (n (A 65876 0) (n (I 0) (n ff (o (I 6)) (o (.agg [(I 27), (I 6)]))) (n (U 66532 0 6 2) (o (A 66532 10)) (o (I 1)))) (n (U 65867 0 1 6) (n (A 65877 0) (o (A 66532 10)) (o (S 66752 0 1 1))) (n (I 5) (o (A 65877 0)) (o (U 65792 0 9 3)))))))),
  [.code (c 119 25182), .code (c 119 12894), .inBlock 3, .code (c 119 3678), .inLoop (c 119 606), .inBlock 2, .code (c 119 126)], [], .run⟩,
 [⟨⟨56, 300, false, none⟩,
  y84,
  [.reg (r 56 10 8), .code (c 56 14)], [], .run⟩,
 ⟨⟨132, 25, false, none⟩,
  y85,
  [.reg (r 132 4 1), .code (c 132 6)], [], .run⟩,
 ⟨⟨60, 9, false, none⟩,
  y86,
  [.reg (r 60 4 2), .code .ret], [], .run⟩,
 ⟨⟨16, 45, false, none⟩,
  y87,
  [.reg (r 16 5270 3), .code (c 16 7318), .inBlock 1, .code (c 16 918), .inLoop (c 16 150), .inBlock 0, .code (c 16 30)], [], .run⟩,
 ⟨⟨4, 120, false, none⟩,
  y64,
  [.reg (r 4 22 1), .code (c 4 30)], [], .run⟩],
 ⟨(p 66816), g105⟩,
 []⟩
def k105 : List (IC Blk) := [(c 119 25182), (c 119 12894), .skip, (c 119 3678), (c 119 606), .skip, (c 119 126), (.region (r 56 10 8)), (c 56 14), (.region (r 132 4 1)), (c 132 6), (.region (r 60 4 2)), .ret, (.region (r 16 5270 3)), (c 16 7318), .skip, (c 16 918), (c 16 150), .skip, (c 16 30), (.region (r 4 22 1)), (c 4 30)]
theorem h105 : codesSt s105.fr s105.cs s105.ls = k105 := by kernel_rfl
def y88 : T V := (n z165 (n (I 0) (n (A 65873 0) (n (I 0) (m (n (A 65873 0) (o (I 28)) e) (o (I 7))) (m (o z167) (o (A 65873 5)))) (n (A 67089 0) (m (n (I 0) (o (U 65867 0 1 6)) e) (o z165)) (n (A 65873 3) (o ff) (o (I 0))))) (m (n tt (m (n (A 65873 5) (o (I 0)) e) (o ff)) (m (o tt) (o (I 7)))) (m (m (o (A 65873 11)) (o (A 65873 0))) (m (o (A 65873 4)) (o (A 65873 7)))))) (n (I 0) (m (n (A 67088 0) (m (n z164 (o (I 0)) e) (o (I 7))) (m (o z166) (o (I 27)))) (n (A 67090 0) (m (o (I 0)) e) (n ff e (o (I 2))))) (n (A 65874 0) (n (I 7) (m (n (I 27) (o (A 65873 11)) e) e) (n (A 65873 0) (o tt) (o (A 65873 6)))) (m (m (o (U 65867 0 1 6)) (o z164)) (n z167 (o (I 6)) (o (I 26)))))))
/-- the memory behind piece 106 -/
def g106 : T Blk := upd [(67087, (ce [(I 2), (I 0)])), (67223, (ce [(I 25), (I 6)])), (67091, (ce [(U 65786 0 258 1), ns, (I 0), ff])), (67563, (ce [(I 1), (I 0), q108, (I 1), (I 1), q2, (I 2), (I 0), q3])), (67089, (ce [(U 65786 0 258 1), ns, (I 0), ff, (I 6), (I 27), (I 0), (I 26), (I 1), (I 1), (I 1), (U 65867 0 1 6)])), (67093, (ce [ns, ns, ns, ns, (I 7), (I 28), ff])), (67085, (ce [(I 1), (I 0), q127, (I 2), (I 0), q36, (I 3), (I 0), q37])), (67181, (ce [(I 27), (I 6), (I 26), (I 6)])), (67565, (ce [(I 24), (I 6), (I 7), (I 2), (I 8), (I 2)])), (67088, (ce [(U 67085 0 3 3), (U 67087 0 1 2)])), (67096, (ce [(I 0), (I 0), ns, ns, ns, ns, ns])), (67092, (ce [ns, ns])), (67090, (ce [ns, ns])), (67290, (ce [(I 1), (I 0), (I 0), (I 0), (I 0)])), (67182, (ce [(I 1), (I 1), ns, ns, ns, ns, (U 67181 0 2 2)]))] (del [66753, 66754, 65877, 65876] g105)
/-- the state behind piece 106; its texts -/
def s106 : St :=
⟨⟨⟨123, 134, false, none⟩,
  (n z164 (n (I 27) (m (n tt (n (A 67290 0) (n (.agg [(I 4), (I 6), q11]) (o (U 67135 0 1 2)) e) (n (U 67135 0 1 2) (o tt) e)) (n (I 27) (m (o tt) e) (m (o (U 67564 0 3 3)) e))) (n (A 67182 0) (n (U 67563 0 3 3) (n (U 67135 0 1 2) (o (I 6)) e) (n (U 67135 0 1 2) (o (.tup [(U 67564 0 3 3), (U 67565 0 3 2), (U 67563 0 3 3), tt])) e)) (n tt (n (A 67129 1) (o (.agg [(I 3), (I 6), q56])) e) (o (I 0))))) (n ff (n (I 1) (n (U 67564 0 3 3) (n (I 1) (o (A 67135 0)) e) (n (.agg [(I 1), (I 1), ns, ns, ns, ns, (U 67181 0 2 2)]) (o ff) e)) (n (.agg [(I 4), (I 6), q11]) (o (I 1)) (n z164 (o (U 67563 0 3 3)) e))) (n (A 67183 0) (n z47 (n tt (o (.agg [(I 3), (I 6), q56])) e) (n tt (o (U 67223 0 1 2)) e)) (m (n (.agg [(I 27), (I 6)]) (o z2) e) (o (A 67135 0)))))) (n (A 67095 0) (n (A 67096 0) (n (I 1) (n (U 67223 0 1 2) (n (.tup [(I 1), (I 1), (U 67135 0 1 2), tt]) (o (I 0)) e) (n (U 67181 0 2 2) (o tt) e)) (n z47 (n (I 1) (o ff) e) (n z48 (o (U 67565 0 3 2)) e))) (n (I 0) (m (n tt (o z48) e) (n (I 1) (o z164) e)) (n ff (n (I 6) (o (.tup [z2, (U 67223 0 1 2), tt])) e) (o (A 67135 0))))) (n (A 67129 0) (n (U 67135 0 1 2) (n (U 67565 0 3 2) (n (I 1) (o (A 67135 1)) e) (o (I 0))) (n tt (n (I 27) (o (.tup [z2, (U 67223 0 1 2), tt])) e) (n (U 67135 0 1 2) (o tt) e))) (n tt (n z164 (n ff (o tt) e) (m (o (.tup [(U 67564 0 3 3), (U 67565 0 3 2), (U 67563 0 3 3), tt])) e)) (n (.tup [(I 1), (I 1), (U 67135 0 1 2), tt]) (n (S 67180 0 1 1) (o (U 67223 0 1 2)) e) (o (I 26))))))),
  [.code (c 123 517310), .inBlock 1, .code (c 123 7358), .inLoop (c 123 1214), .inBlock 0, .code (c 123 254)], [], .run⟩,
 [⟨⟨63, 33, false, none⟩,
  (n z164 (n (I 27) (m e (o z164)) (o ff)) (n (A 67094 0) (n ns e (o (I 27))) e)),
  [.reg (r 63 4 2), .code (c 63 6)], [], .run⟩,
 ⟨⟨119, 207, false, none⟩,
  (n z164 (n (I 27) (n (I 28) (n (A 67091 0) (n ff (o (I 1)) e) (m (o (I 28)) e)) (m (m (o tt) e) (m (o (I 7)) e))) (n (I 0) (m (m (o ff) (o (I 27))) (m (o ff) e)) (m (m (o ff) e) (m (o z50) e)))) (n (I 7) (n (I 0) (m (n (A 67093 0) (o ff) (o z164)) (m (o ff) e)) (m (m (o ff) e) (m (o (I 28)) e))) (n (U 65867 0 1 6) (m (m (o (I 7)) e) e) (n (A 67092 0) (m (o ff) e) (n (U 65867 0 1 6) (o (A 67093 0)) e))))),
  [.reg (r 119 22 2), .code (c 119 30)], [], .run⟩,
 ⟨⟨56, 300, false, none⟩,
  y88,
  [.reg (r 56 382 21), .code (c 56 510)], [], .run⟩,
 ⟨⟨132, 25, false, none⟩,
  y85,
  [.reg (r 132 4 1), .code (c 132 6)], [], .run⟩,
 ⟨⟨60, 9, false, none⟩,
  y86,
  [.reg (r 60 4 2), .code .ret], [], .run⟩,
 ⟨⟨16, 45, false, none⟩,
  y87,
  [.reg (r 16 5270 3), .code (c 16 7318), .inBlock 1, .code (c 16 918), .inLoop (c 16 150), .inBlock 0, .code (c 16 30)], [], .run⟩,
 ⟨⟨4, 120, false, none⟩,
  y64,
  [.reg (r 4 22 1), .code (c 4 30)], [], .run⟩],
 ⟨(p 67566), g106⟩,
 []⟩
def k106 : List (IC Blk) := [(c 123 517310), .skip, (c 123 7358), (c 123 1214), .skip, (c 123 254), (.region (r 63 4 2)), (c 63 6), (.region (r 119 22 2)), (c 119 30), (.region (r 56 382 21)), (c 56 510), (.region (r 132 4 1)), (c 132 6), (.region (r 60 4 2)), .ret, (.region (r 16 5270 3)), (c 16 7318), .skip, (c 16 918), (c 16 150), .skip, (c 16 30), (.region (r 4 22 1)), (c 4 30)]
theorem h106 : codesSt s106.fr s106.cs s106.ls = k106 := by kernel_rfl
/-- the memory behind piece 107 -/
def g107 : T Blk := upd [(67969, (ce [(I 7), (I 2), (I 8), (I 2), (I 24), (I 6), (I 25), (I 6), (I 26), (I 6), (I 27), (I 6)])), (67093, (ce [ns, ns, (U 67969 0 6 2), (U 67970 0 6 3), (I 7), (I 28), ff])), (67970, (ce [(I 1), (I 2), q26, (I 1), (I 2), q27, (I 1), (I 6), q96, (I 2), (I 6), q109, (I 3), (I 6), q56, (I 4), (I 6), q11]))] (del [67085, 65868, 67087, 65871, 65870, 67089, 63056, 67088, 67091, 67223, 67096, 67290, 63131, 67563, 67565, 67181, 67182, 65788] g106)
/-- the state behind piece 107; its texts -/
def s107 : St :=
⟨⟨⟨119, 207, false, none⟩,
  (n z164 (n (I 27) (n (I 28) (n (A 67091 0) (n ff (n (I 1) (n (A 67748 10) (o tt) e) (o (A 67093 0))) (n (.tup [(U 67748 0 6 2), tt]) (o (A 67748 10)) (o (U 67970 0 6 3)))) (m (n (I 28) (o z47) (o (S 67967 0 1 1))) (n (I 6) (o (A 67748 10)) (o tt)))) (m (n (I 6) (n tt (o (I 5)) (o (U 67748 0 6 2))) (n (U 67748 0 6 2) (o ff) (o (A 67093 3)))) (m (n (I 7) (o tt) (o (A 67093 3))) (n z47 (o tt) (o (I 0)))))) (n (I 0) (m (n (U 67748 0 6 2) (n ff (o (I 27)) (o (A 67093 2))) (n (I 27) (o (I 0)) (o (A 67093 2)))) (m (n ff (o tt) (o (A 67093 0))) (n (I 5) (o (I 0)) e))) (m (n tt (n ff (o (A 67748 11)) (o (A 67748 10))) (n (I 6) (o (I 5)) (o (U 65867 0 1 6)))) (m (n z50 (o (I 5)) (o (.agg [(I 4), (I 6), q11]))) (n (U 67748 0 6 2) (o (A 67093 0)) (o (A 65867 5))))))) (n (I 7) (n (I 0) (m (n (A 67093 0) (n ff (n (A 67748 10) (o ff) e) (o (A 67093 0))) (n z164 (o (I 27)) (o (A 67093 0)))) (m (n ff (o (.agg [(I 4), (I 6), q11])) (o (U 67969 0 6 2))) (n ff (o (I 27)) e))) (m (n (A 67934 0) (n ff (o (A 67748 10)) (o (I 5))) (n tt (o (U 67748 0 6 2)) (o (I 0)))) (m (n (I 28) (o (U 67748 0 6 2)) (o (U 67933 0 5 3))) (n z164 (o tt) (o (A 65867 0)))))) (n (U 65867 0 1 6) (m (n tt (n (I 7) (o (U 67748 0 6 2)) (o (U 67932 0 5 2))) (n (.tup [(U 67748 0 6 2), tt]) (o ff) (o (A 67093 0)))) (m (m (o tt) (o (A 67093 0))) (n (I 6) (o tt) (o (U 65867 0 1 6))))) (n (A 67092 0) (n (I 0) (n ff (o (I 6)) (o (.agg [(I 27), (I 6)]))) (n (U 67748 0 6 2) (o (A 67748 10)) (o (I 1)))) (n (U 65867 0 1 6) (n (A 67093 0) (o (A 67748 10)) (o (S 67968 0 1 1))) (n (I 5) (o (A 67093 0)) (o (U 65792 0 9 3)))))))),
  [.code (c 119 25182), .code (c 119 12894), .inBlock 3, .code (c 119 3678), .inLoop (c 119 606), .inBlock 2, .code (c 119 126)], [], .run⟩,
 [⟨⟨56, 300, false, none⟩,
  y88,
  [.reg (r 56 382 21), .code (c 56 510)], [], .run⟩,
 ⟨⟨132, 25, false, none⟩,
  y85,
  [.reg (r 132 4 1), .code (c 132 6)], [], .run⟩,
 ⟨⟨60, 9, false, none⟩,
  y86,
  [.reg (r 60 4 2), .code .ret], [], .run⟩,
 ⟨⟨16, 45, false, none⟩,
  y87,
  [.reg (r 16 5270 3), .code (c 16 7318), .inBlock 1, .code (c 16 918), .inLoop (c 16 150), .inBlock 0, .code (c 16 30)], [], .run⟩,
 ⟨⟨4, 120, false, none⟩,
  y64,
  [.reg (r 4 22 1), .code (c 4 30)], [], .run⟩],
 ⟨(p 68032), g107⟩,
 []⟩
def k107 : List (IC Blk) := [(c 119 25182), (c 119 12894), .skip, (c 119 3678), (c 119 606), .skip, (c 119 126), (.region (r 56 382 21)), (c 56 510), (.region (r 132 4 1)), (c 132 6), (.region (r 60 4 2)), .ret, (.region (r 16 5270 3)), (c 16 7318), .skip, (c 16 918), (c 16 150), .skip, (c 16 30), (.region (r 4 22 1)), (c 4 30)]
theorem h107 : codesSt s107.fr s107.cs s107.ls = k107 := by kernel_rfl
/-- the memory behind piece 108 -/
def g108 : T Blk := upd [(68529, (ce [(U 68522 0 258 1), ns, (I 0), ff, (I 7), (I 31), (I 0), (I 30), (I 1), (I 1), (I 1), (U 65867 0 1 6)])), (68528, (ce [(I 2), (I 16), q2, (I 1), (I 6), q1, (I 0), (I 0), q1, (I 0), (I 0), q1, (I 0), (I 0), q1, (I 0), (I 0), q1, (I 0), (I 0), q1, (I 0), (I 0), q1, (I 0), (I 0), q1])), (68524, (ce [(U 68522 0 258 1), ns, (I 0), ff, (I 7), (I 31), (I 0), (I 30), (I 1), (I 1), (I 1), (U 65867 0 1 6)])), (68530, (ce [ns, ns, (I 0), ff, (I 0), (I 0), (I 0), (I 0), (I 0), (I 0), (I 0), ns])), (68522, (ce [q0, q4, q5, q6, q7, q8, q16, q17, q18, q19, q20, q21, q22, q23, q24, q25, q28, q29, q30, q31, q32, q33, q34, q35, q38, q39, q40, q41, q42, q43, q44, q45, q0, q0, q0, q0, q0, q0, q0, q0, q0, q0, q0, q0, q0, q0, q0, q0, q0, q0, q0, q0, q0, q0, q0, q0, q0, q0, q0, q0, q0, q0, q0, q0, q0, q0, q0, q0, q0, q0, q0, q0, q0, q0, q0, q0, q0, q0, q0, q0, q0, q0, q0, q0, q0, q0, q0, q0, q0, q0, q0, q0, q0, q0, q0, q0, q0, q0, q0, q0, q0, q0, q0, q0, q0, q0, q0, q0, q0, q0, q0, q0, q0, q0, q0, q0, q0, q0, q0, q0, q0, q0, q0, q0, q0, q0, q0, q0, q0, q0, q0, q0, q0, q0, q0, q0, q0, q0, q0, q0, q0, q0, q0, q0, q0, q0, q0, q0, q0, q0, q0, q0, q0, q0, q0, q0, q0, q0, q0, q0, q0, q0, q0, q0, q0, q0, q0, q0, q0, q0, q0, q0, q0, q0, q0, q0, q0, q0, q0, q0, q0, q0, q0, q0, q0, q0, q0, q0, q0, q0, q0, q0, q0, q0, q0, q0, q0, q0, q0, q0, q0, q0, q0, q0, q0, q0, q0, q0, q0, q0, q0, q0, q0, q0, q0, q0, q0, q0, q0, q0, q0, q0, q0, q0, q0, q0, q0, q0, q0, q0, q0, q0, q0, q0, q0, q0, q0, q0, q0, q0, q0, q0, q0, q0, q0, q0, q0, q0, q0, q0, q0, q0, q0, q0, q0, q0, q0, q0])), (52634, (ce [(U 68522 0 258 1), ns, (I 0), ff, (I 7), (I 31), (I 0), (I 30), (I 1), (I 1), (I 1), (U 65867 0 1 6)]))] (del [67969, 67970, 65869, 65873, 65872, 67090, 65874, 67093, 67092, 65786] g107)
/-- the state behind piece 108; its texts -/
def s108 : St :=
⟨⟨⟨37, 26, false, none⟩,
  (n z168 (n (U 68528 0 9 3) (m (o (U 68528 0 9 3)) e) (m (o ff) e)) (n (A 68529 0) (n (A 68530 0) (o tt) e) e)),
  [.code (c 37 12), .code (c 37 6)], [], .run⟩,
 [⟨⟨16, 45, false, none⟩,
  (n z131 (n (A 52634 0) (n (U 68528 0 9 3) (n (I 0) (n (U 52655 0 9 3) (o (U 68528 0 9 3)) e) (n tt (o (I 0)) e)) (n (.tup [(U 52655 0 9 3), (I 0)]) (n tt (o (U 68528 0 9 3)) e) (n (U 65792 0 9 3) (o z168) e))) (n (I 6) (n z131 (n (I 6) (o z169) e) (n (I 6) (o ff) e)) (n (I 0) (n (I 0) (o z169) e) (o (I 16))))) (n (A 52635 0) (n (I 0) (n (.tup [(U 52655 0 9 3), (I 0)]) (n z132 (o (I 0)) e) (n (I 5) (o (I 0)) e)) (n (U 52655 0 9 3) (n (A 52634 6) (o z165) e) (o (I 6)))) (n (A 68524 0) (n (S 52008 0 9 9) (n tt (o z168) e) (o (.tup [(U 68528 0 9 3), (I 0)]))) (n z131 (n tt (o z168) e) (o (.tup [(U 68528 0 9 3), (I 0)])))))),
  [.reg (r 16 5270 2), .code (c 16 7318), .inBlock 1, .code (c 16 918), .inLoop (c 16 150), .inBlock 0, .code (c 16 30)], [], .run⟩,
 ⟨⟨4, 120, false, none⟩,
  y64,
  [.reg (r 4 22 1), .code (c 4 30)], [], .run⟩],
 ⟨(p 68592), g108⟩,
 []⟩
def k108 : List (IC Blk) := [(c 37 12), (c 37 6), (.region (r 16 5270 2)), (c 16 7318), .skip, (c 16 918), (c 16 150), .skip, (c 16 30), (.region (r 4 22 1)), (c 4 30)]
theorem h108 : codesSt s108.fr s108.cs s108.ls = k108 := by kernel_rfl
def y89 : T V := (n z171 (n z171 (o (A 68607 0)) (n (I 0) (o z171) e)) (n (A 68606 0) (o (A 68608 0)) e))
def y90 : T V := (n z171 (n (A 68604 0) (o (I 0)) (o z171)) (n (A 68605 0) (o z171) e))
def y91 : T V := (n z131 (n (A 52634 0) (n (U 68528 0 9 3) (n (I 0) (n (U 52655 0 9 3) (o (U 68528 0 9 3)) e) (n tt (o (I 0)) e)) (n (.tup [(U 52655 0 9 3), (I 0)]) (n tt (o (U 68528 0 9 3)) e) (n (U 65792 0 9 3) (o z168) e))) (n (I 6) (n z131 (n (I 6) (o z169) e) (n (I 6) (o ff) e)) (n (I 0) (n (I 0) (o z169) e) (o (I 16))))) (n (A 52635 0) (n (I 0) (n (.tup [(U 52655 0 9 3), (I 0)]) (n z132 (o (I 0)) e) (n (I 5) (o (I 0)) e)) (n (U 52655 0 9 3) (n (A 52634 6) (o z171) e) (o (I 6)))) (n (A 68524 0) (n (S 52008 0 9 9) (n tt (o z168) e) (o (.tup [(U 68528 0 9 3), (I 0)]))) (n z131 (n tt (o z168) e) (o (.tup [(U 68528 0 9 3), (I 0)]))))))
/-- the memory behind piece 109 -/
def g109 : T Blk := upd [(68607, (ce [(U 68522 0 258 1), ns, (I 0), ff, (I 7), (I 31), (I 0), (I 30), (I 1), (I 1), (I 1), (U 68603 0 1 6)])), (68611, (ce [(U 68522 0 258 1), ns, (I 0), ff])), (68603, (ce [(I 1), (I 0), (I 0), (I 0), (I 0), (U 68528 0 9 3)])), (68609, (ce [(U 68522 0 258 1), ns, (I 0), ff, (I 7), (I 31), (I 0), (I 30), (I 1), (I 1), (I 1), (U 68603 0 1 6)])), (68613, (ce [ns, ns, ns, ns, (I 0), (I 0), ff])), (68605, (ce [ns, ns, (I 0), ff, (I 0), (I 0), (I 0), (I 0), (I 0), (I 0), (I 0), ns])), (68608, (ce [ns, ns, (I 0), ff, (I 0), (I 0), (I 0), (I 0), (I 0), (I 0), (I 0), ns])), (68612, (ce [ns, ns])), (69268, (ce [(I 7), (I 2), (I 8), (I 2), (I 28), (I 7), (I 29), (I 7), (I 30), (I 7), (I 31), (I 7)])), (68604, (ce [(U 68522 0 258 1), ns, (I 0), ff, (I 7), (I 31), (I 0), (I 30), (I 1), (I 1), (I 1), (U 68603 0 1 6)])), (68610, (ce [ns, ns, (I 0), ff, (I 0), (I 0), (I 0), (I 0), (I 0), (I 0), (I 0), ns])), (68606, (ce [(U 68522 0 258 1), ns, (I 0), ff, (I 7), (I 31), (I 0), (I 30), (I 1), (I 1), (I 1), (U 68603 0 1 6)]))] (del [68529, 68530] g108)
/-- the state behind piece 109; its texts -/
def s109 : St :=
⟨⟨⟨119, 207, false, none⟩,
  (n z170 (n (I 31) (n (I 0) (n (A 68611 0) (n ff (o (I 1)) (o (.tup [(U 69268 0 6 2), tt]))) (m (o (I 0)) e)) (m (m (o tt) (o (U 69268 0 6 2))) (m (o (I 0)) e))) (n (I 0) (m (n (U 69268 0 6 2) (o ff) (o (I 31))) (m (o ff) e)) (m (m (o ff) e) (m (o z9) e)))) (n (I 0) (n (I 0) (m (n (A 68613 0) (o ff) (o z170)) (m (o ff) e)) (m (m (o ff) (o tt)) (m (o (I 0)) e))) (n (U 68603 0 1 6) (m (n tt (o (I 0)) (o (.tup [(U 69268 0 6 2), tt]))) e) (n (A 68612 0) (m (o ff) e) (n (U 68603 0 1 6) (o (A 68613 0)) e))))),
  [.code (c 119 30)], [], .run⟩,
 [⟨⟨56, 300, false, none⟩,
  (n z171 (n (I 0) (n (A 68609 0) (n (I 0) (m (o (A 68609 0)) e) e) (m (m (o (I 0)) e) (o (A 68609 3)))) (m (m (m (o (A 68609 5)) e) e) (m (m (o (A 68609 11)) e) e))) (n (I 0) (m (m (m (o z170) e) e) (m (m (o (I 0)) e) (o ff))) (n (A 68610 0) (m (m (o (I 31)) e) (o (A 68609 0))) (m (m (o (U 68603 0 1 6)) e) e)))),
  [.reg (r 56 10 8), .code (c 56 14)], [], .run⟩,
 ⟨⟨132, 25, false, none⟩,
  y89,
  [.reg (r 132 4 1), .code (c 132 6)], [], .run⟩,
 ⟨⟨60, 9, false, none⟩,
  y90,
  [.reg (r 60 4 2), .code .ret], [], .run⟩,
 ⟨⟨16, 45, false, none⟩,
  y91,
  [.reg (r 16 5270 3), .code (c 16 7318), .inBlock 1, .code (c 16 918), .inLoop (c 16 150), .inBlock 0, .code (c 16 30)], [], .run⟩,
 ⟨⟨4, 120, false, none⟩,
  y64,
  [.reg (r 4 22 1), .code (c 4 30)], [], .run⟩],
 ⟨(p 69269), g109⟩,
 []⟩
def k109 : List (IC Blk) := [(c 119 30), (.region (r 56 10 8)), (c 56 14), (.region (r 132 4 1)), (c 132 6), (.region (r 60 4 2)), .ret, (.region (r 16 5270 3)), (c 16 7318), .skip, (c 16 918), (c 16 150), .skip, (c 16 30), (.region (r 4 22 1)), (c 4 30)]
theorem h109 : codesSt s109.fr s109.cs s109.ls = k109 := by kernel_rfl
/-- the memory behind piece 110 -/
def g110 : T Blk := upd [(69823, (ce [(I 2), (I 0)])), (69821, (ce [(I 1), (I 0), q97, (I 2), (I 0), q36, (I 3), (I 0), q37])), (69824, (ce [(U 69821 0 3 3), (U 69823 0 1 2)]))] (del [68611, 68613, 68612, 69268] g109)
/-- the state behind piece 110; its texts -/
def s110 : St :=
⟨⟨⟨56, 300, false, none⟩,
  (n z171 (n (I 0) (n (A 68609 0) (n (I 0) (m (o (A 68609 0)) e) (m (o z173) e)) (m (m (o (I 0)) e) (o (A 68609 3)))) (m (n tt (m (o (A 68609 5)) e) (m (o tt) e)) (m (m (o (A 68609 11)) e) e))) (n (I 0) (m (n (A 69824 0) (m (o z170) e) (m (o z172) e)) (m (m (o (I 0)) e) (o ff))) (n (A 68610 0) (m (m (o (I 31)) e) (o (A 68609 0))) (m (m (o (U 68603 0 1 6)) e) (o z173))))),
  [.code (c 56 14)], [], .run⟩,
 [⟨⟨132, 25, false, none⟩,
  y89,
  [.reg (r 132 4 1), .code (c 132 6)], [], .run⟩,
 ⟨⟨60, 9, false, none⟩,
  y90,
  [.reg (r 60 4 2), .code .ret], [], .run⟩,
 ⟨⟨16, 45, false, none⟩,
  y91,
  [.reg (r 16 5270 3), .code (c 16 7318), .inBlock 1, .code (c 16 918), .inLoop (c 16 150), .inBlock 0, .code (c 16 30)], [], .run⟩,
 ⟨⟨4, 120, false, none⟩,
  y64,
  [.reg (r 4 22 1), .code (c 4 30)], [], .run⟩],
 ⟨(p 69825), g110⟩,
 []⟩
def k110 : List (IC Blk) := [(c 56 14), (.region (r 132 4 1)), (c 132 6), (.region (r 60 4 2)), .ret, (.region (r 16 5270 3)), (c 16 7318), .skip, (c 16 918), (c 16 150), .skip, (c 16 30), (.region (r 4 22 1)), (c 4 30)]
theorem h110 : codesSt s110.fr s110.cs s110.ls = k110 := by kernel_rfl
/-- the memory behind piece 111 -/
def g111 : T Blk := upd [(69827, (ce [(U 68522 0 258 1), ns, (I 0), ff])), (69829, (ce [ns, ns, ns, ns, (I 8), (I 32), ff])), (69828, (ce [ns, ns])), (70484, (ce [(I 7), (I 2), (I 8), (I 2), (I 28), (I 7), (I 29), (I 7), (I 30), (I 7), (I 31), (I 7)])), (69826, (ce [ns, ns]))] (del [69824, 68524, 69821, 68604, 69823, 68607, 68606] g110)
/-- the state behind piece 111; its texts -/
def s111 : St :=
⟨⟨⟨119, 207, false, none⟩,
  (n z170 (n (I 31) (n (I 32) (n (A 69827 0) (n ff (o (I 1)) (o (.tup [(U 70484 0 6 2), tt]))) (m (o (I 32)) e)) (m (m (o tt) (o (U 70484 0 6 2))) (m (o (I 8)) e))) (n (I 0) (m (n (U 70484 0 6 2) (o ff) (o (I 31))) (m (o ff) e)) (m (m (o ff) e) (m (o (.agg [ns, ns, ns, ns, (I 8), (I 32), ff])) e)))) (n (I 8) (n (I 0) (m (n (A 69829 0) (o ff) (o z170)) (m (o ff) e)) (m (m (o ff) (o tt)) (m (o (I 32)) e))) (n (U 68603 0 1 6) (m (n tt (o (I 8)) (o (.tup [(U 70484 0 6 2), tt]))) e) (n (A 69828 0) (m (o ff) e) (n (U 68603 0 1 6) (o (A 69829 0)) e))))),
  [.code (c 119 30)], [], .run⟩,
 [⟨⟨56, 300, false, none⟩,
  (n z171 (n (I 0) (n (A 68609 0) (n (I 0) (m (n (A 68609 0) (o (I 32)) e) (o (I 8))) (m (o z173) (o (A 68609 5)))) (n (A 69825 0) (m (n (I 0) (o (U 68603 0 1 6)) e) (o z171)) (n (A 68609 3) (o ff) (o (I 0))))) (m (n tt (m (n (A 68609 5) (o (I 0)) e) (o ff)) (m (o tt) (o (I 8)))) (m (m (o (A 68609 11)) (o (A 68609 0))) (m (o (A 68609 4)) (o (A 68609 7)))))) (n (I 0) (m (n (A 69824 0) (m (n z170 (o (I 0)) e) (o (I 8))) (m (o z172) (o (I 31)))) (n (A 69826 0) (m (o (I 0)) e) (n ff e (o (I 2))))) (n (A 68610 0) (n (I 8) (m (n (I 31) (o (A 68609 11)) e) e) (n (A 68609 0) (o tt) (o (A 68609 6)))) (m (m (o (U 68603 0 1 6)) (o z170)) (n z173 (o (I 7)) (o (I 30))))))),
  [.reg (r 56 382 21), .code (c 56 510)], [], .run⟩,
 ⟨⟨132, 25, false, none⟩,
  y89,
  [.reg (r 132 4 1), .code (c 132 6)], [], .run⟩,
 ⟨⟨60, 9, false, none⟩,
  y90,
  [.reg (r 60 4 2), .code .ret], [], .run⟩,
 ⟨⟨16, 45, false, none⟩,
  y91,
  [.reg (r 16 5270 3), .code (c 16 7318), .inBlock 1, .code (c 16 918), .inLoop (c 16 150), .inBlock 0, .code (c 16 30)], [], .run⟩,
 ⟨⟨4, 120, false, none⟩,
  y64,
  [.reg (r 4 22 1), .code (c 4 30)], [], .run⟩],
 ⟨(p 70485), g111⟩,
 []⟩
def k111 : List (IC Blk) := [(c 119 30), (.region (r 56 382 21)), (c 56 510), (.region (r 132 4 1)), (c 132 6), (.region (r 60 4 2)), .ret, (.region (r 16 5270 3)), (c 16 7318), .skip, (c 16 918), (c 16 150), .skip, (c 16 30), (.region (r 4 22 1)), (c 4 30)]
theorem h111 : codesSt s111.fr s111.cs s111.ls = k111 := by kernel_rfl
/-- the memory behind piece 112 -/
def g112 : T Blk := upd [(71260, (ce [(U 71258 0 258 1), ns, (I 0), ff, (I 8), (I 35), (I 0), (I 34), (I 1), (I 1), (I 1), (U 68603 0 1 6)])), (71258, (ce [q0, q4, q5, q6, q7, q8, q16, q17, q18, q19, q20, q21, q22, q23, q24, q25, q28, q29, q30, q31, q32, q33, q34, q35, q38, q39, q40, q41, q42, q43, q44, q45, q46, q47, q48, q49, q0, q0, q0, q0, q0, q0, q0, q0, q0, q0, q0, q0, q0, q0, q0, q0, q0, q0, q0, q0, q0, q0, q0, q0, q0, q0, q0, q0, q0, q0, q0, q0, q0, q0, q0, q0, q0, q0, q0, q0, q0, q0, q0, q0, q0, q0, q0, q0, q0, q0, q0, q0, q0, q0, q0, q0, q0, q0, q0, q0, q0, q0, q0, q0, q0, q0, q0, q0, q0, q0, q0, q0, q0, q0, q0, q0, q0, q0, q0, q0, q0, q0, q0, q0, q0, q0, q0, q0, q0, q0, q0, q0, q0, q0, q0, q0, q0, q0, q0, q0, q0, q0, q0, q0, q0, q0, q0, q0, q0, q0, q0, q0, q0, q0, q0, q0, q0, q0, q0, q0, q0, q0, q0, q0, q0, q0, q0, q0, q0, q0, q0, q0, q0, q0, q0, q0, q0, q0, q0, q0, q0, q0, q0, q0, q0, q0, q0, q0, q0, q0, q0, q0, q0, q0, q0, q0, q0, q0, q0, q0, q0, q0, q0, q0, q0, q0, q0, q0, q0, q0, q0, q0, q0, q0, q0, q0, q0, q0, q0, q0, q0, q0, q0, q0, q0, q0, q0, q0, q0, q0, q0, q0, q0, q0, q0, q0, q0, q0, q0, q0, q0, q0, q0, q0, q0, q0, q0, q0, q0, q0, q0, q0, q0, q0, q0, q0, q0, q0, q0, q0, q0, q0]))] (del [68609, 68608, 65792, 69827, 69826, 68610, 69829, 69828, 65867, 70484, 68522, 68605] g111)
/-- the state behind piece 112; its texts -/
def s112 : St :=
⟨⟨⟨16, 45, false, none⟩,
  (n z131 (n (A 52634 0) (n (U 68528 0 9 3) (n (I 0) (n (U 52655 0 9 3) (o (U 68528 0 9 3)) e) (n tt (o (I 0)) e)) (n (.tup [(U 52655 0 9 3), (I 0)]) (n tt (o (U 68528 0 9 3)) e) (n (U 65792 0 9 3) (o z168) e))) (n (I 6) (n z131 (n (I 6) (o z175) e) (n (I 6) (o ff) e)) (n (I 0) (n (I 0) (o z175) e) (o (I 16))))) (n (A 52635 0) (n (I 0) (n (.tup [(U 52655 0 9 3), (I 0)]) (n z132 (o (I 0)) e) (n (I 5) (o (I 0)) e)) (n (U 52655 0 9 3) (n (A 52634 6) (o z171) e) (o (I 6)))) (n (A 71260 0) (n (S 52008 0 9 9) (n tt (o z168) e) (o (.tup [(U 68528 0 9 3), (I 0)]))) (n z131 (n tt (o z174) e) (o (.tup [(U 68528 0 9 3), (I 0)])))))),
  [.code (c 16 7318), .inBlock 1, .code (c 16 918), .inLoop (c 16 150), .inBlock 0, .code (c 16 30)], [], .run⟩,
 [⟨⟨4, 120, false, none⟩,
  y64,
  [.reg (r 4 22 1), .code (c 4 30)], [], .run⟩],
 ⟨(p 71261), g112⟩,
 []⟩
def k112 : List (IC Blk) := [(c 16 7318), .skip, (c 16 918), (c 16 150), .skip, (c 16 30), (.region (r 4 22 1)), (c 4 30)]
theorem h112 : codesSt s112.fr s112.cs s112.ls = k112 := by kernel_rfl
def y92 : T V := (n z177 (n (I 0) (n (A 71345 0) (n (I 0) (m (o (A 71345 0)) e) e) (m (m (o (I 0)) e) (o (A 71345 3)))) (m (m (m (o (A 71345 5)) e) e) (m (m (o (A 71345 11)) e) e))) (n (I 0) (m (m (m (o z176) e) e) (m (m (o (I 0)) e) (o ff))) (n (A 71346 0) (m (m (o (I 35)) e) (o (A 71345 0))) (m (m (o (U 71339 0 1 6)) e) e))))
def y93 : T V := (n z177 (n z177 (o (A 71343 0)) (n (I 0) (o z177) e)) (n (A 71342 0) (o (A 71344 0)) e))
def y94 : T V := (n z177 (n (A 71340 0) (o (I 0)) (o z177)) (n (A 71341 0) (o z177) e))
def y95 : T V := (n z131 (n (A 52634 0) (n (U 71264 0 9 3) (n (I 0) (n (U 52655 0 9 3) (o (U 71264 0 9 3)) e) (n tt (o (I 0)) e)) (n (.tup [(U 52655 0 9 3), (I 0)]) (n tt (o (U 71264 0 9 3)) e) (n (U 68528 0 9 3) (o z174) e))) (n (I 7) (n z131 (n (I 7) (o z175) e) (n (I 7) (o ff) e)) (n (I 0) (n (I 0) (o z175) e) (o (I 17))))) (n (A 52635 0) (n (I 0) (n (.tup [(U 52655 0 9 3), (I 0)]) (n z132 (o (I 0)) e) (n (I 6) (o (I 0)) e)) (n (U 52655 0 9 3) (n (A 52634 6) (o z177) e) (o (I 7)))) (n (A 71260 0) (n (S 52008 0 9 9) (n tt (o z174) e) (o (.tup [(U 71264 0 9 3), (I 0)]))) (n z131 (n tt (o z174) e) (o (.tup [(U 71264 0 9 3), (I 0)]))))))
/-- the memory behind piece 113 -/
def g113 : T Blk := upd [(71343, (ce [(U 71258 0 258 1), ns, (I 0), ff, (I 8), (I 35), (I 0), (I 34), (I 1), (I 1), (I 1), (U 71339 0 1 6)])), (71479, (ce [(I 33), (I 8)])), (71347, (ce [(U 71258 0 258 1), ns, (I 0), ff])), (71819, (ce [(I 1), (I 0), q110, (I 1), (I 1), q2, (I 2), (I 0), q3])), (71339, (ce [(I 1), (I 0), (I 0), (I 0), (I 0), (U 71264 0 9 3)])), (71841, (ce [ff, tt, tt, ff, ff, ff, ff, ff, ff, ff])), (71345, (ce [(U 71258 0 258 1), ns, (I 0), ff, (I 8), (I 35), (I 0), (I 34), (I 1), (I 1), (I 1), (U 71339 0 1 6)])), (71349, (ce [ns, ns, ns, ns, (I 0), (I 0), ff])), (71437, (ce [(I 35), (I 8), (I 34), (I 8)])), (71821, (ce [(I 32), (I 8), (I 7), (I 2), (I 8), (I 2)])), (71341, (ce [ns, ns, (I 0), ff, (I 0), (I 0), (I 0), (I 0), (I 0), (I 0), (I 0), ns])), (71264, (ce [(I 2), (I 17), q2, (I 1), (I 6), q1, (I 0), (I 0), q1, (I 0), (I 0), q1, (I 0), (I 0), q1, (I 0), (I 0), q1, (I 0), (I 0), q1, (I 0), (I 0), q1, (I 0), (I 0), q1])), (71344, (ce [ns, ns, (I 0), ff, (I 0), (I 0), (I 0), (I 0), (I 0), (I 0), (I 0), ns])), (71352, (ce [(I 0), (I 0), ns, ns, ns, ns, ns])), (71348, (ce [ns, ns])), (71340, (ce [(U 71258 0 258 1), ns, (I 0), ff, (I 8), (I 35), (I 0), (I 34), (I 1), (I 1), (I 1), (U 71339 0 1 6)])), (71826, (ce [(I 0), (I 0), (I 1), (I 0), (I 0), (I 0), (I 0), (I 0), (I 0), (I 0)])), (71346, (ce [ns, ns, (I 0), ff, (I 0), (I 0), (I 0), (I 0), (I 0), (I 0), (I 0), ns])), (52634, (ce [(U 71258 0 258 1), ns, (I 0), ff, (I 8), (I 35), (I 0), (I 34), (I 1), (I 1), (I 1), (U 68603 0 1 6)])), (71546, (ce [(I 1), (I 0), (I 0), (I 0), (I 0)])), (71438, (ce [(I 1), (I 1), ns, ns, ns, ns, (U 71437 0 2 2)])), (71822, (ce [(I 2), (I 16), q2, (I 1), (I 6), q1, (I 0), (I 0), q1, (I 0), (I 0), q1, (I 0), (I 0), q1, (I 0), (I 0), q1, (I 0), (I 0), q1, (I 0), (I 0), q1, (I 0), (I 0), q1])), (71342, (ce [(U 71258 0 258 1), ns, (I 0), ff, (I 8), (I 35), (I 0), (I 34), (I 1), (I 1), (I 1), (U 71339 0 1 6)]))] (del [] g112)
/-- the state behind piece 113; its texts -/
def s113 : St :=
⟨⟨⟨90, 180, false, none⟩,
  (n (S 71822 0 9 9) (m (n (S 71826 0 10 10) (n tt (m (n (I 8) (o (U 71829 0 1 2)) (o (I 1))) (n tt (o ff) (o (I 1)))) (n (I 2) (n tt (o (A 71826 2)) (o ff)) (n ff (o (S 71841 0 10 10)) e))) (n (I 2) (n ff (n (A 71822 24) (o (I 2)) (o ns)) (n (.tup [(U 71829 0 1 2), tt]) (o (I 0)) (o (A 71848 0)))) (n (I 9) (n ff (o ff) (o tn)) (n ff (o (I 0)) e)))) (n (A 71840 0) (n (S 71841 0 10 10) (n (I 9) (n (S 71822 0 9 9) (o (A 71829 0)) (o (S 71822 0 9 9))) (n (A 71827 2) (o (A 71833 2)) (o (U 71848 0 1 2)))) (n ff (n (.agg [(I 0), (I 0), q1]) (o (I 6)) (o tn)) (n (U 71829 0 1 2) (o (I 1)) e))) (n (I 0) (n (A 71822 0) (n (A 71840 0) (o (I 0)) (o ns)) (n tt (o ff) (o (I 2)))) (n (I 9) (n tt (o (I 6)) (o ff)) (n (I 1) (o (I 2)) e))))) (n ff (n (I 9) (n (I 1) (n (S 71822 0 9 9) (n (I 9) (o (I 0)) (o (I 2))) (n (.tup [(U 71829 0 1 2), tt]) (o ff) (o (S 71841 0 10 10)))) (n ff (n tt (o (A 71833 1)) (o ff)) (n (I 1) (o (A 71841 1)) e))) (n ns (n (S 71822 0 9 9) (n (.agg [(I 0), (I 0), q1]) (o (A 71826 2)) (o (I 0))) (n (U 71829 0 1 2) (o ff) (o (A 71848 1)))) (n (S 71822 0 9 9) (n tt (o (A 71833 1)) (o tn)) (n (I 0) (o (I 1)) e)))) (n (U 71829 0 1 2) (n (I 1) (n ff (n (I 8) (o (A 71829 1)) (o (I 2))) (n q2 (o q1) (o (I 0)))) (n (S 71826 0 10 10) (n (.agg [(I 0), (I 0), q1]) (o ff) (o tn)) (n (I 1) (o tt) e))) (m (n (A 71822 0) (n (I 0) (o (I 1)) (o (I 0))) (n tt (o (S 71841 0 10 10)) (o (A 71841 2)))) (n ff (n tt (o ff) (o (I 0))) (n (S 71826 0 10 10) (o tt) e)))))),
  [.code (c 90 51979454), .code (c 90 26813630), .inLoop (c 90 10036414), .inBlock 9, .inBlock 8, .code (c 90 468158), .inLoop (c 90 74942), .inBlock 7, .inBlock 6, .code (c 90 7358), .inLoop (c 90 1214), .inBlock 5, .code (c 90 254)], [], .run⟩,
 [⟨⟨195, 80, false, none⟩,
  (n (U 71819 0 3 3) (m (n ff (n (S 71822 0 9 9) (n (I 2) (n (I 3) (o q1) e) (o (u8 6))) (n (I 2) (o (I 2)) (o (I 1)))) (n ff (n (I 2) (n (I 2) (o (A 71822 0)) e) (o (A 71822 3))) (n (I 0) (o (u8 1)) (o (I 1))))) (n (I 3) (n (U 71819 0 3 3) (n (.agg [(I 2), (I 0), q3]) (n (S 71822 0 9 9) (o q2) e) (o (A 71822 3))) (n ff (o (A 71825 2)) (o (S 71822 0 9 9)))) (n (I 3) (n ff (n (S 71822 0 9 9) (o (S 71822 0 9 9)) e) (o (S 71822 0 9 9))) (n (A 71825 2) (o (A 71825 2)) (o (A 71822 0)))))) (n ns (n (S 71822 0 9 9) (n (I 3) (n (A 71819 6) (n ff (o (A 71824 2)) e) (o (I 6))) (n ff (o (I 1)) (o (I 0)))) (n (I 2) (n ff (n (I 1) (o (A 71822 2)) e) (o (A 71822 4))) (n tt (o (I 1)) (o (I 0))))) (n (A 71825 0) (n (I 3) (n (A 71825 0) (n (A 71825 0) (o q2) e) (o (A 71822 3))) (n (A 71825 1) (o q3) (o (A 71824 0)))) (n (U 71819 0 3 3) (n (A 71825 0) (o (A 71825 0)) (o (A 71824 0))) (n q3 (o q3) (o (A 71822 2))))))),
  [.reg (r 195 38 1), .code (c 195 54), .code (c 195 30)], [], .run⟩,
 ⟨⟨123, 134, false, none⟩,
  (n z176 (n (I 35) (m (n tt (n (A 71546 0) (n (.agg [(I 4), (I 8), q12]) (o (U 71391 0 1 2)) (o (U 71819 0 3 3))) (n (U 71391 0 1 2) (o tt) e)) (n (I 35) (m (o tt) e) (m (o (U 71820 0 3 3)) e))) (n (A 71438 0) (n (U 71819 0 3 3) (n (U 71391 0 1 2) (o (I 8)) e) (n (U 71391 0 1 2) (o (.tup [(U 71820 0 3 3), (U 71821 0 3 2), (U 71819 0 3 3), tt])) e)) (n tt (n (A 71385 1) (o (.agg [(I 3), (I 8), q57])) e) (n (I 0) (o tt) e)))) (n ff (n (I 1) (n (U 71820 0 3 3) (n (I 1) (o (A 71391 0)) e) (n (.agg [(I 1), (I 1), ns, ns, ns, ns, (U 71437 0 2 2)]) (o ff) e)) (n (.agg [(I 4), (I 8), q12]) (o (I 1)) (n z176 (o (U 71819 0 3 3)) e))) (n (A 71439 0) (n z62 (n tt (o (.agg [(I 3), (I 8), q57])) e) (n tt (o (U 71479 0 1 2)) e)) (m (n (.agg [(I 35), (I 8)]) (o z2) e) (o (A 71391 0)))))) (n (A 71351 0) (n (A 71352 0) (n (I 1) (n (U 71479 0 1 2) (n (.tup [(I 1), (I 1), (U 71391 0 1 2), tt]) (o (I 0)) e) (n (U 71437 0 2 2) (o tt) e)) (n z62 (n (I 1) (o ff) e) (n z63 (o (U 71821 0 3 2)) e))) (n (I 0) (m (n tt (o z63) e) (n (I 1) (o z176) e)) (n ff (n (I 8) (o (.tup [z2, (U 71479 0 1 2), tt])) e) (n (A 71391 0) (o ff) e)))) (n (A 71385 0) (n (U 71391 0 1 2) (n (U 71821 0 3 2) (n (I 1) (o (A 71391 1)) e) (o (I 0))) (n tt (n (I 35) (o (.tup [z2, (U 71479 0 1 2), tt])) e) (n (U 71391 0 1 2) (o tt) e))) (n tt (n z176 (n ff (o tt) e) (m (o (.tup [(U 71820 0 3 3), (U 71821 0 3 2), (U 71819 0 3 3), tt])) e)) (n (.tup [(I 1), (I 1), (U 71391 0 1 2), tt]) (n (S 71436 0 1 1) (o (U 71479 0 1 2)) e) (o (I 34))))))),
  [.reg (r 123 1565886 1), .code (c 123 2090174), .inBlock 1, .code (c 123 7358), .inLoop (c 123 1214), .inBlock 0, .code (c 123 254)], [], .run⟩,
 ⟨⟨63, 33, false, none⟩,
  (n z176 (n (I 35) (m e (o z176)) (o ff)) (n (A 71350 0) (n ns e (o (I 35))) e)),
  [.reg (r 63 4 2), .code (c 63 6)], [], .run⟩,
 ⟨⟨119, 207, false, none⟩,
  (n z176 (n (I 35) (n (I 0) (n (A 71347 0) (n ff (o (I 1)) e) (m (o (I 0)) e)) (m (m (o tt) e) (m (o (I 0)) e))) (n (I 0) (m (m (o ff) (o (I 35))) (m (o ff) e)) (m (m (o ff) e) (m (o z9) e)))) (n (I 0) (n (I 0) (m (n (A 71349 0) (o ff) (o z176)) (m (o ff) e)) (m (m (o ff) e) (m (o (I 0)) e))) (n (U 71339 0 1 6) (m (m (o (I 0)) e) e) (n (A 71348 0) (m (o ff) e) (n (U 71339 0 1 6) (o (A 71349 0)) e))))),
  [.reg (r 119 22 2), .code (c 119 30)], [], .run⟩,
 ⟨⟨56, 300, false, none⟩,
  y92,
  [.reg (r 56 10 8), .code (c 56 14)], [], .run⟩,
 ⟨⟨132, 25, false, none⟩,
  y93,
  [.reg (r 132 4 1), .code (c 132 6)], [], .run⟩,
 ⟨⟨60, 9, false, none⟩,
  y94,
  [.reg (r 60 4 2), .code .ret], [], .run⟩,
 ⟨⟨16, 45, false, none⟩,
  y95,
  [.reg (r 16 5270 3), .code (c 16 7318), .inBlock 1, .code (c 16 918), .inLoop (c 16 150), .inBlock 0, .code (c 16 30)], [], .run⟩,
 ⟨⟨4, 120, false, none⟩,
  y64,
  [.reg (r 4 22 1), .code (c 4 30)], [], .run⟩],
 ⟨(p 71852), g113⟩,
 []⟩
def k113 : List (IC Blk) := [(c 90 51979454), (c 90 26813630), (c 90 10036414), .skip, .skip, (c 90 468158), (c 90 74942), .skip, .skip, (c 90 7358), (c 90 1214), .skip, (c 90 254), (.region (r 195 38 1)), (c 195 54), (c 195 30), (.region (r 123 1565886 1)), (c 123 2090174), .skip, (c 123 7358), (c 123 1214), .skip, (c 123 254), (.region (r 63 4 2)), (c 63 6), (.region (r 119 22 2)), (c 119 30), (.region (r 56 10 8)), (c 56 14), (.region (r 132 4 1)), (c 132 6), (.region (r 60 4 2)), .ret, (.region (r 16 5270 3)), (c 16 7318), .skip, (c 16 918), (c 16 150), .skip, (c 16 30), (.region (r 4 22 1)), (c 4 30)]
theorem h113 : codesSt s113.fr s113.cs s113.ls = k113 := by kernel_rfl
/-- the memory behind piece 114 -/
def g114 : T Blk := upd [(72225, (ce [(I 7), (I 2), (I 8), (I 2), (I 32), (I 8), (I 33), (I 8), (I 34), (I 8), (I 35), (I 8)])), (71349, (ce [ns, ns, (U 72225 0 6 2), (U 72226 0 6 3), (I 0), (I 0), ff])), (72226, (ce [(I 1), (I 2), q26, (I 1), (I 2), q27, (I 1), (I 8), q97, (I 2), (I 8), q111, (I 3), (I 8), q57, (I 4), (I 8), q12]))] (del [71819, 71821, 71437, 71822, 71438, 71826, 71841, 71347, 71479, 71352, 71546] g113)
/-- the state behind piece 114; its texts -/
def s114 : St :=
⟨⟨⟨119, 207, false, none⟩,
  (n z176 (n (I 35) (n (I 0) (n (A 71347 0) (n ff (n (I 1) (n (A 72004 10) (o tt) e) (o (A 71349 0))) (n (.tup [(U 72004 0 6 2), tt]) (o (A 72004 10)) (o (U 72226 0 6 3)))) (m (n (I 0) (o z62) (o (S 72223 0 1 1))) (n (I 6) (o (A 72004 10)) (o tt)))) (m (n (I 6) (n tt (o (I 5)) (o (U 72004 0 6 2))) (n (U 72004 0 6 2) (o ff) (o (A 71349 3)))) (m (n (I 0) (o tt) (o (A 71349 3))) (n z62 (o tt) (o (I 0)))))) (n (I 0) (m (n (U 72004 0 6 2) (n ff (o (I 35)) (o (A 71349 2))) (n (I 35) (o (I 0)) (o (A 71349 2)))) (m (n ff (o tt) (o (A 71349 0))) (n (I 5) (o (I 0)) e))) (m (n tt (n ff (o (A 72004 11)) (o (A 72004 10))) (n (I 6) (o (I 5)) (o (U 71339 0 1 6)))) (m (n z9 (o (I 5)) (o (.agg [(I 4), (I 8), q12]))) (n (U 72004 0 6 2) (o (A 71349 0)) (o (A 71339 5))))))) (n (I 0) (n (I 0) (m (n (A 71349 0) (n ff (n (A 72004 10) (o ff) e) (o (A 71349 0))) (n z176 (o (I 35)) (o (A 71349 0)))) (m (n ff (o (.agg [(I 4), (I 8), q12])) (o (U 72225 0 6 2))) (n ff (o (I 35)) e))) (m (n (A 72190 0) (n ff (o (A 72004 10)) (o (I 5))) (n tt (o (U 72004 0 6 2)) (o (I 0)))) (m (n (I 0) (o (U 72004 0 6 2)) (o (U 72189 0 5 3))) (n z176 (o tt) (o (A 71339 0)))))) (n (U 71339 0 1 6) (m (n tt (n (I 0) (o (U 72004 0 6 2)) (o (U 72188 0 5 2))) (n (.tup [(U 72004 0 6 2), tt]) (o ff) (o (A 71349 0)))) (m (m (o tt) (o (A 71349 0))) (n (I 6) (o tt) (o (U 71339 0 1 6))))) (n (A 71348 0) (n (I 0) (n ff (o (I 8)) (o (.agg [(I 35), (I 8)]))) (n (U 72004 0 6 2) (o (A 72004 10)) (o (I 1)))) (n (U 71339 0 1 6) (n (A 71349 0) (o (A 72004 10)) (o (S 72224 0 1 1))) (n (I 5) (o (A 71349 0)) (o (U 71264 0 9 3)))))))),
  [.code (c 119 25182), .code (c 119 12894), .inBlock 3, .code (c 119 3678), .inLoop (c 119 606), .inBlock 2, .code (c 119 126)], [], .run⟩,
 [⟨⟨56, 300, false, none⟩,
  y92,
  [.reg (r 56 10 8), .code (c 56 14)], [], .run⟩,
 ⟨⟨132, 25, false, none⟩,
  y93,
  [.reg (r 132 4 1), .code (c 132 6)], [], .run⟩,
 ⟨⟨60, 9, false, none⟩,
  y94,
  [.reg (r 60 4 2), .code .ret], [], .run⟩,
 ⟨⟨16, 45, false, none⟩,
  y95,
  [.reg (r 16 5270 3), .code (c 16 7318), .inBlock 1, .code (c 16 918), .inLoop (c 16 150), .inBlock 0, .code (c 16 30)], [], .run⟩,
 ⟨⟨4, 120, false, none⟩,
  y64,
  [.reg (r 4 22 1), .code (c 4 30)], [], .run⟩],
 ⟨(p 72288), g114⟩,
 []⟩
def k114 : List (IC Blk) := [(c 119 25182), (c 119 12894), .skip, (c 119 3678), (c 119 606), .skip, (c 119 126), (.region (r 56 10 8)), (c 56 14), (.region (r 132 4 1)), (c 132 6), (.region (r 60 4 2)), .ret, (.region (r 16 5270 3)), (c 16 7318), .skip, (c 16 918), (c 16 150), .skip, (c 16 30), (.region (r 4 22 1)), (c 4 30)]
theorem h114 : codesSt s114.fr s114.cs s114.ls = k114 := by kernel_rfl
def y96 : T V := (n z177 (n (I 0) (n (A 71345 0) (n (I 0) (m (n (A 71345 0) (o (I 36)) e) (o (I 9))) (m (o z179) (o (A 71345 5)))) (n (A 72561 0) (m (n (I 0) (o (U 71339 0 1 6)) e) (o z177)) (n (A 71345 3) (o ff) (o (I 0))))) (m (n tt (m (n (A 71345 5) (o (I 0)) e) (o ff)) (m (o tt) (o (I 9)))) (m (m (o (A 71345 11)) (o (A 71345 0))) (m (o (A 71345 4)) (o (A 71345 7)))))) (n (I 0) (m (n (A 72560 0) (m (n z176 (o (I 0)) e) (o (I 9))) (m (o z178) (o (I 35)))) (n (A 72562 0) (m (o (I 0)) e) (n ff e (o (I 2))))) (n (A 71346 0) (n (I 9) (m (n (I 35) (o (A 71345 11)) e) e) (n (A 71345 0) (o tt) (o (A 71345 6)))) (m (m (o (U 71339 0 1 6)) (o z176)) (n z179 (o (I 8)) (o (I 34)))))))
/-- the memory behind piece 115 -/
def g115 : T Blk := upd [(72559, (ce [(I 2), (I 0)])), (72695, (ce [(I 33), (I 8)])), (72563, (ce [(U 71258 0 258 1), ns, (I 0), ff])), (73035, (ce [(I 1), (I 0), q110, (I 1), (I 1), q2, (I 2), (I 0), q3])), (72561, (ce [(U 71258 0 258 1), ns, (I 0), ff, (I 8), (I 35), (I 0), (I 34), (I 1), (I 1), (I 1), (U 71339 0 1 6)])), (72565, (ce [ns, ns, ns, ns, (I 9), (I 36), ff])), (73037, (ce [(I 32), (I 8), (I 7), (I 2), (I 8), (I 2)])), (72653, (ce [(I 35), (I 8), (I 34), (I 8)])), (72557, (ce [(I 1), (I 0), q128, (I 2), (I 0), q36, (I 3), (I 0), q37])), (72560, (ce [(U 72557 0 3 3), (U 72559 0 1 2)])), (72568, (ce [(I 0), (I 0), ns, ns, ns, ns, ns])), (72564, (ce [ns, ns])), (72562, (ce [ns, ns])), (72762, (ce [(I 1), (I 0), (I 0), (I 0), (I 0)])), (72654, (ce [(I 1), (I 1), ns, ns, ns, ns, (U 72653 0 2 2)]))] (del [72225, 72226, 71349, 71348] g114)
/-- the state behind piece 115; its texts -/
def s115 : St :=
⟨⟨⟨123, 134, false, none⟩,
  (n z176 (n (I 35) (m (n tt (n (A 72762 0) (n (.agg [(I 4), (I 8), q12]) (o (U 72607 0 1 2)) e) (n (U 72607 0 1 2) (o tt) e)) (n (I 35) (m (o tt) e) (m (o (U 73036 0 3 3)) e))) (n (A 72654 0) (n (U 73035 0 3 3) (n (U 72607 0 1 2) (o (I 8)) e) (n (U 72607 0 1 2) (o (.tup [(U 73036 0 3 3), (U 73037 0 3 2), (U 73035 0 3 3), tt])) e)) (n tt (n (A 72601 1) (o (.agg [(I 3), (I 8), q57])) e) (o (I 0))))) (n ff (n (I 1) (n (U 73036 0 3 3) (n (I 1) (o (A 72607 0)) e) (n (.agg [(I 1), (I 1), ns, ns, ns, ns, (U 72653 0 2 2)]) (o ff) e)) (n (.agg [(I 4), (I 8), q12]) (o (I 1)) (n z176 (o (U 73035 0 3 3)) e))) (n (A 72655 0) (n z62 (n tt (o (.agg [(I 3), (I 8), q57])) e) (n tt (o (U 72695 0 1 2)) e)) (m (n (.agg [(I 35), (I 8)]) (o z2) e) (o (A 72607 0)))))) (n (A 72567 0) (n (A 72568 0) (n (I 1) (n (U 72695 0 1 2) (n (.tup [(I 1), (I 1), (U 72607 0 1 2), tt]) (o (I 0)) e) (n (U 72653 0 2 2) (o tt) e)) (n z62 (n (I 1) (o ff) e) (n z63 (o (U 73037 0 3 2)) e))) (n (I 0) (m (n tt (o z63) e) (n (I 1) (o z176) e)) (n ff (n (I 8) (o (.tup [z2, (U 72695 0 1 2), tt])) e) (o (A 72607 0))))) (n (A 72601 0) (n (U 72607 0 1 2) (n (U 73037 0 3 2) (n (I 1) (o (A 72607 1)) e) (o (I 0))) (n tt (n (I 35) (o (.tup [z2, (U 72695 0 1 2), tt])) e) (n (U 72607 0 1 2) (o tt) e))) (n tt (n z176 (n ff (o tt) e) (m (o (.tup [(U 73036 0 3 3), (U 73037 0 3 2), (U 73035 0 3 3), tt])) e)) (n (.tup [(I 1), (I 1), (U 72607 0 1 2), tt]) (n (S 72652 0 1 1) (o (U 72695 0 1 2)) e) (o (I 34))))))),
  [.code (c 123 517310), .inBlock 1, .code (c 123 7358), .inLoop (c 123 1214), .inBlock 0, .code (c 123 254)], [], .run⟩,
 [⟨⟨63, 33, false, none⟩,
  (n z176 (n (I 35) (m e (o z176)) (o ff)) (n (A 72566 0) (n ns e (o (I 35))) e)),
  [.reg (r 63 4 2), .code (c 63 6)], [], .run⟩,
 ⟨⟨119, 207, false, none⟩,
  (n z176 (n (I 35) (n (I 36) (n (A 72563 0) (n ff (o (I 1)) e) (m (o (I 36)) e)) (m (m (o tt) e) (m (o (I 9)) e))) (n (I 0) (m (m (o ff) (o (I 35))) (m (o ff) e)) (m (m (o ff) e) (m (o z65) e)))) (n (I 9) (n (I 0) (m (n (A 72565 0) (o ff) (o z176)) (m (o ff) e)) (m (m (o ff) e) (m (o (I 36)) e))) (n (U 71339 0 1 6) (m (m (o (I 9)) e) e) (n (A 72564 0) (m (o ff) e) (n (U 71339 0 1 6) (o (A 72565 0)) e))))),
  [.reg (r 119 22 2), .code (c 119 30)], [], .run⟩,
 ⟨⟨56, 300, false, none⟩,
  y96,
  [.reg (r 56 382 21), .code (c 56 510)], [], .run⟩,
 ⟨⟨132, 25, false, none⟩,
  y93,
  [.reg (r 132 4 1), .code (c 132 6)], [], .run⟩,
 ⟨⟨60, 9, false, none⟩,
  y94,
  [.reg (r 60 4 2), .code .ret], [], .run⟩,
 ⟨⟨16, 45, false, none⟩,
  y95,
  [.reg (r 16 5270 3), .code (c 16 7318), .inBlock 1, .code (c 16 918), .inLoop (c 16 150), .inBlock 0, .code (c 16 30)], [], .run⟩,
 ⟨⟨4, 120, false, none⟩,
  y64,
  [.reg (r 4 22 1), .code (c 4 30)], [], .run⟩],
 ⟨(p 73038), g115⟩,
 []⟩
def k115 : List (IC Blk) := [(c 123 517310), .skip, (c 123 7358), (c 123 1214), .skip, (c 123 254), (.region (r 63 4 2)), (c 63 6), (.region (r 119 22 2)), (c 119 30), (.region (r 56 382 21)), (c 56 510), (.region (r 132 4 1)), (c 132 6), (.region (r 60 4 2)), .ret, (.region (r 16 5270 3)), (c 16 7318), .skip, (c 16 918), (c 16 150), .skip, (c 16 30), (.region (r 4 22 1)), (c 4 30)]
theorem h115 : codesSt s115.fr s115.cs s115.ls = k115 := by kernel_rfl
/-- the memory behind piece 116 -/
def g116 : T Blk := upd [(73441, (ce [(I 7), (I 2), (I 8), (I 2), (I 32), (I 8), (I 33), (I 8), (I 34), (I 8), (I 35), (I 8)])), (72565, (ce [ns, ns, (U 73441 0 6 2), (U 73442 0 6 3), (I 9), (I 36), ff])), (73442, (ce [(I 1), (I 2), q26, (I 1), (I 2), q27, (I 1), (I 8), q97, (I 2), (I 8), q111, (I 3), (I 8), q57, (I 4), (I 8), q12]))] (del [73035, 72653, 73037, 72654, 71260, 72557, 71340, 72559, 71343, 71342, 72561, 72560, 68528, 72563, 72695, 72568, 68603, 72762] g115)
/-- the state behind piece 116; its texts -/
def s116 : St :=
⟨⟨⟨119, 207, false, none⟩,
  (n z176 (n (I 35) (n (I 36) (n (A 72563 0) (n ff (n (I 1) (n (A 73220 10) (o tt) e) (o (A 72565 0))) (n (.tup [(U 73220 0 6 2), tt]) (o (A 73220 10)) (o (U 73442 0 6 3)))) (m (n (I 36) (o z62) (o (S 73439 0 1 1))) (n (I 6) (o (A 73220 10)) (o tt)))) (m (n (I 6) (n tt (o (I 5)) (o (U 73220 0 6 2))) (n (U 73220 0 6 2) (o ff) (o (A 72565 3)))) (m (n (I 9) (o tt) (o (A 72565 3))) (n z62 (o tt) (o (I 0)))))) (n (I 0) (m (n (U 73220 0 6 2) (n ff (o (I 35)) (o (A 72565 2))) (n (I 35) (o (I 0)) (o (A 72565 2)))) (m (n ff (o tt) (o (A 72565 0))) (n (I 5) (o (I 0)) e))) (m (n tt (n ff (o (A 73220 11)) (o (A 73220 10))) (n (I 6) (o (I 5)) (o (U 71339 0 1 6)))) (m (n z65 (o (I 5)) (o (.agg [(I 4), (I 8), q12]))) (n (U 73220 0 6 2) (o (A 72565 0)) (o (A 71339 5))))))) (n (I 9) (n (I 0) (m (n (A 72565 0) (n ff (n (A 73220 10) (o ff) e) (o (A 72565 0))) (n z176 (o (I 35)) (o (A 72565 0)))) (m (n ff (o (.agg [(I 4), (I 8), q12])) (o (U 73441 0 6 2))) (n ff (o (I 35)) e))) (m (n (A 73406 0) (n ff (o (A 73220 10)) (o (I 5))) (n tt (o (U 73220 0 6 2)) (o (I 0)))) (m (n (I 36) (o (U 73220 0 6 2)) (o (U 73405 0 5 3))) (n z176 (o tt) (o (A 71339 0)))))) (n (U 71339 0 1 6) (m (n tt (n (I 9) (o (U 73220 0 6 2)) (o (U 73404 0 5 2))) (n (.tup [(U 73220 0 6 2), tt]) (o ff) (o (A 72565 0)))) (m (m (o tt) (o (A 72565 0))) (n (I 6) (o tt) (o (U 71339 0 1 6))))) (n (A 72564 0) (n (I 0) (n ff (o (I 8)) (o (.agg [(I 35), (I 8)]))) (n (U 73220 0 6 2) (o (A 73220 10)) (o (I 1)))) (n (U 71339 0 1 6) (n (A 72565 0) (o (A 73220 10)) (o (S 73440 0 1 1))) (n (I 5) (o (A 72565 0)) (o (U 71264 0 9 3)))))))),
  [.code (c 119 25182), .code (c 119 12894), .inBlock 3, .code (c 119 3678), .inLoop (c 119 606), .inBlock 2, .code (c 119 126)], [], .run⟩,
 [⟨⟨56, 300, false, none⟩,
  y96,
  [.reg (r 56 382 21), .code (c 56 510)], [], .run⟩,
 ⟨⟨132, 25, false, none⟩,
  y93,
  [.reg (r 132 4 1), .code (c 132 6)], [], .run⟩,
 ⟨⟨60, 9, false, none⟩,
  y94,
  [.reg (r 60 4 2), .code .ret], [], .run⟩,
 ⟨⟨16, 45, false, none⟩,
  y95,
  [.reg (r 16 5270 3), .code (c 16 7318), .inBlock 1, .code (c 16 918), .inLoop (c 16 150), .inBlock 0, .code (c 16 30)], [], .run⟩,
 ⟨⟨4, 120, false, none⟩,
  y64,
  [.reg (r 4 22 1), .code (c 4 30)], [], .run⟩],
 ⟨(p 73504), g116⟩,
 []⟩
def k116 : List (IC Blk) := [(c 119 25182), (c 119 12894), .skip, (c 119 3678), (c 119 606), .skip, (c 119 126), (.region (r 56 382 21)), (c 56 510), (.region (r 132 4 1)), (c 132 6), (.region (r 60 4 2)), .ret, (.region (r 16 5270 3)), (c 16 7318), .skip, (c 16 918), (c 16 150), .skip, (c 16 30), (.region (r 4 22 1)), (c 4 30)]
theorem h116 : codesSt s116.fr s116.cs s116.ls = k116 := by kernel_rfl
/-- the memory behind piece 117 -/
def g117 : T Blk := upd [(74001, (ce [(U 73994 0 258 1), ns, (I 0), ff, (I 9), (I 39), (I 0), (I 38), (I 1), (I 1), (I 1), (U 71339 0 1 6)])), (74000, (ce [(I 2), (I 18), q2, (I 1), (I 6), q1, (I 0), (I 0), q1, (I 0), (I 0), q1, (I 0), (I 0), q1, (I 0), (I 0), q1, (I 0), (I 0), q1, (I 0), (I 0), q1, (I 0), (I 0), q1])), (73996, (ce [(U 73994 0 258 1), ns, (I 0), ff, (I 9), (I 39), (I 0), (I 38), (I 1), (I 1), (I 1), (U 71339 0 1 6)])), (74002, (ce [ns, ns, (I 0), ff, (I 0), (I 0), (I 0), (I 0), (I 0), (I 0), (I 0), ns])), (73994, (ce [q0, q4, q5, q6, q7, q8, q16, q17, q18, q19, q20, q21, q22, q23, q24, q25, q28, q29, q30, q31, q32, q33, q34, q35, q38, q39, q40, q41, q42, q43, q44, q45, q46, q47, q48, q49, q50, q51, q52, q53, q0, q0, q0, q0, q0, q0, q0, q0, q0, q0, q0, q0, q0, q0, q0, q0, q0, q0, q0, q0, q0, q0, q0, q0, q0, q0, q0, q0, q0, q0, q0, q0, q0, q0, q0, q0, q0, q0, q0, q0, q0, q0, q0, q0, q0, q0, q0, q0, q0, q0, q0, q0, q0, q0, q0, q0, q0, q0, q0, q0, q0, q0, q0, q0, q0, q0, q0, q0, q0, q0, q0, q0, q0, q0, q0, q0, q0, q0, q0, q0, q0, q0, q0, q0, q0, q0, q0, q0, q0, q0, q0, q0, q0, q0, q0, q0, q0, q0, q0, q0, q0, q0, q0, q0, q0, q0, q0, q0, q0, q0, q0, q0, q0, q0, q0, q0, q0, q0, q0, q0, q0, q0, q0, q0, q0, q0, q0, q0, q0, q0, q0, q0, q0, q0, q0, q0, q0, q0, q0, q0, q0, q0, q0, q0, q0, q0, q0, q0, q0, q0, q0, q0, q0, q0, q0, q0, q0, q0, q0, q0, q0, q0, q0, q0, q0, q0, q0, q0, q0, q0, q0, q0, q0, q0, q0, q0, q0, q0, q0, q0, q0, q0, q0, q0, q0, q0, q0, q0, q0, q0, q0, q0, q0, q0, q0, q0, q0, q0, q0, q0, q0, q0, q0, q0, q0, q0, q0, q0, q0, q0, q0, q0, q0, q0, q0, q0, q0, q0])), (52634, (ce [(U 73994 0 258 1), ns, (I 0), ff, (I 9), (I 39), (I 0), (I 38), (I 1), (I 1), (I 1), (U 71339 0 1 6)]))] (del [71258, 73441, 73442, 71341, 71345, 71344, 72562, 71346, 72565, 72564] g116)
/-- the state behind piece 117; its texts -/
def s117 : St :=
⟨⟨⟨37, 26, false, none⟩,
  (n z180 (n (U 74000 0 9 3) (m (o (U 74000 0 9 3)) e) (m (o ff) e)) (n (A 74001 0) (n (A 74002 0) (o tt) e) e)),
  [.code (c 37 12), .code (c 37 6)], [], .run⟩,
 [⟨⟨16, 45, false, none⟩,
  (n z131 (n (A 52634 0) (n (U 74000 0 9 3) (n (I 0) (n (U 52655 0 9 3) (o (U 74000 0 9 3)) e) (n tt (o (I 0)) e)) (n (.tup [(U 52655 0 9 3), (I 0)]) (n tt (o (U 74000 0 9 3)) e) (n (U 71264 0 9 3) (o z180) e))) (n (I 8) (n z131 (n (I 8) (o z181) e) (n (I 8) (o ff) e)) (n (I 0) (n (I 0) (o z181) e) (o (I 18))))) (n (A 52635 0) (n (I 0) (n (.tup [(U 52655 0 9 3), (I 0)]) (n z132 (o (I 0)) e) (n (I 7) (o (I 0)) e)) (n (U 52655 0 9 3) (n (A 52634 6) (o z177) e) (o (I 8)))) (n (A 73996 0) (n (S 52008 0 9 9) (n tt (o z180) e) (o (.tup [(U 74000 0 9 3), (I 0)]))) (n z131 (n tt (o z180) e) (o (.tup [(U 74000 0 9 3), (I 0)])))))),
  [.reg (r 16 5270 2), .code (c 16 7318), .inBlock 1, .code (c 16 918), .inLoop (c 16 150), .inBlock 0, .code (c 16 30)], [], .run⟩,
 ⟨⟨4, 120, false, none⟩,
  y64,
  [.reg (r 4 22 1), .code (c 4 30)], [], .run⟩],
 ⟨(p 74064), g117⟩,
 []⟩
def k117 : List (IC Blk) := [(c 37 12), (c 37 6), (.region (r 16 5270 2)), (c 16 7318), .skip, (c 16 918), (c 16 150), .skip, (c 16 30), (.region (r 4 22 1)), (c 4 30)]
theorem h117 : codesSt s117.fr s117.cs s117.ls = k117 := by kernel_rfl
def y97 : T V := (n z183 (n z183 (o (A 74079 0)) (n (I 0) (o z183) e)) (n (A 74078 0) (o (A 74080 0)) e))
def y98 : T V := (n z183 (n (A 74076 0) (o (I 0)) (o z183)) (n (A 74077 0) (o z183) e))
def y99 : T V := (n z131 (n (A 52634 0) (n (U 74000 0 9 3) (n (I 0) (n (U 52655 0 9 3) (o (U 74000 0 9 3)) e) (n tt (o (I 0)) e)) (n (.tup [(U 52655 0 9 3), (I 0)]) (n tt (o (U 74000 0 9 3)) e) (n (U 71264 0 9 3) (o z180) e))) (n (I 8) (n z131 (n (I 8) (o z181) e) (n (I 8) (o ff) e)) (n (I 0) (n (I 0) (o z181) e) (o (I 18))))) (n (A 52635 0) (n (I 0) (n (.tup [(U 52655 0 9 3), (I 0)]) (n z132 (o (I 0)) e) (n (I 7) (o (I 0)) e)) (n (U 52655 0 9 3) (n (A 52634 6) (o z183) e) (o (I 8)))) (n (A 73996 0) (n (S 52008 0 9 9) (n tt (o z180) e) (o (.tup [(U 74000 0 9 3), (I 0)]))) (n z131 (n tt (o z180) e) (o (.tup [(U 74000 0 9 3), (I 0)]))))))
/-- the memory behind piece 118 -/
def g118 : T Blk := upd [(74079, (ce [(U 73994 0 258 1), ns, (I 0), ff, (I 9), (I 39), (I 0), (I 38), (I 1), (I 1), (I 1), (U 74075 0 1 6)])), (74083, (ce [(U 73994 0 258 1), ns, (I 0), ff])), (74075, (ce [(I 1), (I 0), (I 0), (I 0), (I 0), (U 74000 0 9 3)])), (74081, (ce [(U 73994 0 258 1), ns, (I 0), ff, (I 9), (I 39), (I 0), (I 38), (I 1), (I 1), (I 1), (U 74075 0 1 6)])), (74085, (ce [ns, ns, ns, ns, (I 0), (I 0), ff])), (74077, (ce [ns, ns, (I 0), ff, (I 0), (I 0), (I 0), (I 0), (I 0), (I 0), (I 0), ns])), (74080, (ce [ns, ns, (I 0), ff, (I 0), (I 0), (I 0), (I 0), (I 0), (I 0), (I 0), ns])), (74084, (ce [ns, ns])), (74740, (ce [(I 7), (I 2), (I 8), (I 2), (I 36), (I 9), (I 37), (I 9), (I 38), (I 9), (I 39), (I 9)])), (74076, (ce [(U 73994 0 258 1), ns, (I 0), ff, (I 9), (I 39), (I 0), (I 38), (I 1), (I 1), (I 1), (U 74075 0 1 6)])), (74082, (ce [ns, ns, (I 0), ff, (I 0), (I 0), (I 0), (I 0), (I 0), (I 0), (I 0), ns])), (74078, (ce [(U 73994 0 258 1), ns, (I 0), ff, (I 9), (I 39), (I 0), (I 38), (I 1), (I 1), (I 1), (U 74075 0 1 6)]))] (del [74001, 74002] g117)
/-- the state behind piece 118; its texts -/
def s118 : St :=
⟨⟨⟨119, 207, false, none⟩,
  (n z182 (n (I 39) (n (I 0) (n (A 74083 0) (n ff (o (I 1)) (o (.tup [(U 74740 0 6 2), tt]))) (m (o (I 0)) e)) (m (m (o tt) (o (U 74740 0 6 2))) (m (o (I 0)) e))) (n (I 0) (m (n (U 74740 0 6 2) (o ff) (o (I 39))) (m (o ff) e)) (m (m (o ff) e) (m (o z9) e)))) (n (I 0) (n (I 0) (m (n (A 74085 0) (o ff) (o z182)) (m (o ff) e)) (m (m (o ff) (o tt)) (m (o (I 0)) e))) (n (U 74075 0 1 6) (m (n tt (o (I 0)) (o (.tup [(U 74740 0 6 2), tt]))) e) (n (A 74084 0) (m (o ff) e) (n (U 74075 0 1 6) (o (A 74085 0)) e))))),
  [.code (c 119 30)], [], .run⟩,
 [⟨⟨56, 300, false, none⟩,
  (n z183 (n (I 0) (n (A 74081 0) (n (I 0) (m (o (A 74081 0)) e) e) (m (m (o (I 0)) e) (o (A 74081 3)))) (m (m (m (o (A 74081 5)) e) e) (m (m (o (A 74081 11)) e) e))) (n (I 0) (m (m (m (o z182) e) e) (m (m (o (I 0)) e) (o ff))) (n (A 74082 0) (m (m (o (I 39)) e) (o (A 74081 0))) (m (m (o (U 74075 0 1 6)) e) e)))),
  [.reg (r 56 10 8), .code (c 56 14)], [], .run⟩,
 ⟨⟨132, 25, false, none⟩,
  y97,
  [.reg (r 132 4 1), .code (c 132 6)], [], .run⟩,
 ⟨⟨60, 9, false, none⟩,
  y98,
  [.reg (r 60 4 2), .code .ret], [], .run⟩,
 ⟨⟨16, 45, false, none⟩,
  y99,
  [.reg (r 16 5270 3), .code (c 16 7318), .inBlock 1, .code (c 16 918), .inLoop (c 16 150), .inBlock 0, .code (c 16 30)], [], .run⟩,
 ⟨⟨4, 120, false, none⟩,
  y64,
  [.reg (r 4 22 1), .code (c 4 30)], [], .run⟩],
 ⟨(p 74741), g118⟩,
 []⟩
def k118 : List (IC Blk) := [(c 119 30), (.region (r 56 10 8)), (c 56 14), (.region (r 132 4 1)), (c 132 6), (.region (r 60 4 2)), .ret, (.region (r 16 5270 3)), (c 16 7318), .skip, (c 16 918), (c 16 150), .skip, (c 16 30), (.region (r 4 22 1)), (c 4 30)]
theorem h118 : codesSt s118.fr s118.cs s118.ls = k118 := by kernel_rfl
/-- the memory behind piece 119 -/
def g119 : T Blk := upd [(75295, (ce [(I 2), (I 0)])), (75293, (ce [(I 1), (I 0), q98, (I 2), (I 0), q36, (I 3), (I 0), q37])), (75296, (ce [(U 75293 0 3 3), (U 75295 0 1 2)]))] (del [74083, 74085, 74084, 74740] g118)
/-- the state behind piece 119; its texts -/
def s119 : St :=
⟨⟨⟨56, 300, false, none⟩,
  (n z183 (n (I 0) (n (A 74081 0) (n (I 0) (m (o (A 74081 0)) e) (m (o z185) e)) (m (m (o (I 0)) e) (o (A 74081 3)))) (m (n tt (m (o (A 74081 5)) e) (m (o tt) e)) (m (m (o (A 74081 11)) e) e))) (n (I 0) (m (n (A 75296 0) (m (o z182) e) (m (o z184) e)) (m (m (o (I 0)) e) (o ff))) (n (A 74082 0) (m (m (o (I 39)) e) (o (A 74081 0))) (m (m (o (U 74075 0 1 6)) e) (o z185))))),
  [.code (c 56 14)], [], .run⟩,
 [⟨⟨132, 25, false, none⟩,
  y97,
  [.reg (r 132 4 1), .code (c 132 6)], [], .run⟩,
 ⟨⟨60, 9, false, none⟩,
  y98,
  [.reg (r 60 4 2), .code .ret], [], .run⟩,
 ⟨⟨16, 45, false, none⟩,
  y99,
  [.reg (r 16 5270 3), .code (c 16 7318), .inBlock 1, .code (c 16 918), .inLoop (c 16 150), .inBlock 0, .code (c 16 30)], [], .run⟩,
 ⟨⟨4, 120, false, none⟩,
  y64,
  [.reg (r 4 22 1), .code (c 4 30)], [], .run⟩],
 ⟨(p 75297), g119⟩,
 []⟩
def k119 : List (IC Blk) := [(c 56 14), (.region (r 132 4 1)), (c 132 6), (.region (r 60 4 2)), .ret, (.region (r 16 5270 3)), (c 16 7318), .skip, (c 16 918), (c 16 150), .skip, (c 16 30), (.region (r 4 22 1)), (c 4 30)]
theorem h119 : codesSt s119.fr s119.cs s119.ls = k119 := by kernel_rfl
/-- the memory behind piece 120 -/
def g120 : T Blk := upd [(75299, (ce [(U 73994 0 258 1), ns, (I 0), ff])), (75301, (ce [ns, ns, ns, ns, (I 10), (I 40), ff])), (75300, (ce [ns, ns])), (75956, (ce [(I 7), (I 2), (I 8), (I 2), (I 36), (I 9), (I 37), (I 9), (I 38), (I 9), (I 39), (I 9)])), (75298, (ce [ns, ns]))] (del [73996, 75293, 74076, 75295, 74079, 74078, 75296] g119)
/-- the state behind piece 120; its texts -/
def s120 : St :=
⟨⟨⟨119, 207, false, none⟩,
  (n z182 (n (I 39) (n (I 40) (n (A 75299 0) (n ff (o (I 1)) (o (.tup [(U 75956 0 6 2), tt]))) (m (o (I 40)) e)) (m (m (o tt) (o (U 75956 0 6 2))) (m (o (I 10)) e))) (n (I 0) (m (n (U 75956 0 6 2) (o ff) (o (I 39))) (m (o ff) e)) (m (m (o ff) e) (m (o (.agg [ns, ns, ns, ns, (I 10), (I 40), ff])) e)))) (n (I 10) (n (I 0) (m (n (A 75301 0) (o ff) (o z182)) (m (o ff) e)) (m (m (o ff) (o tt)) (m (o (I 40)) e))) (n (U 74075 0 1 6) (m (n tt (o (I 10)) (o (.tup [(U 75956 0 6 2), tt]))) e) (n (A 75300 0) (m (o ff) e) (n (U 74075 0 1 6) (o (A 75301 0)) e))))),
  [.code (c 119 30)], [], .run⟩,
 [⟨⟨56, 300, false, none⟩,
  (n z183 (n (I 0) (n (A 74081 0) (n (I 0) (m (n (A 74081 0) (o (I 40)) e) (o (I 10))) (m (o z185) (o (A 74081 5)))) (n (A 75297 0) (m (n (I 0) (o (U 74075 0 1 6)) e) (o z183)) (n (A 74081 3) (o ff) (o (I 0))))) (m (n tt (m (n (A 74081 5) (o (I 0)) e) (o ff)) (m (o tt) (o (I 10)))) (m (m (o (A 74081 11)) (o (A 74081 0))) (m (o (A 74081 4)) (o (A 74081 7)))))) (n (I 0) (m (n (A 75296 0) (m (n z182 (o (I 0)) e) (o (I 10))) (m (o z184) (o (I 39)))) (n (A 75298 0) (m (o (I 0)) e) (n ff e (o (I 2))))) (n (A 74082 0) (n (I 10) (m (n (I 39) (o (A 74081 11)) e) e) (n (A 74081 0) (o tt) (o (A 74081 6)))) (m (m (o (U 74075 0 1 6)) (o z182)) (n z185 (o (I 9)) (o (I 38))))))),
  [.reg (r 56 382 21), .code (c 56 510)], [], .run⟩,
 ⟨⟨132, 25, false, none⟩,
  y97,
  [.reg (r 132 4 1), .code (c 132 6)], [], .run⟩,
 ⟨⟨60, 9, false, none⟩,
  y98,
  [.reg (r 60 4 2), .code .ret], [], .run⟩,
 ⟨⟨16, 45, false, none⟩,
  y99,
  [.reg (r 16 5270 3), .code (c 16 7318), .inBlock 1, .code (c 16 918), .inLoop (c 16 150), .inBlock 0, .code (c 16 30)], [], .run⟩,
 ⟨⟨4, 120, false, none⟩,
  y64,
  [.reg (r 4 22 1), .code (c 4 30)], [], .run⟩],
 ⟨(p 75957), g120⟩,
 []⟩
def k120 : List (IC Blk) := [(c 119 30), (.region (r 56 382 21)), (c 56 510), (.region (r 132 4 1)), (c 132 6), (.region (r 60 4 2)), .ret, (.region (r 16 5270 3)), (c 16 7318), .skip, (c 16 918), (c 16 150), .skip, (c 16 30), (.region (r 4 22 1)), (c 4 30)]
theorem h120 : codesSt s120.fr s120.cs s120.ls = k120 := by kernel_rfl
/-- the memory behind piece 121 -/
def g121 : T Blk := upd [(76732, (ce [(U 76730 0 258 1), ns, (I 0), ff, (I 10), (I 43), (I 0), (I 42), (I 1), (I 1), (I 1), (U 74075 0 1 6)])), (76730, (ce [q0, q4, q5, q6, q7, q8, q16, q17, q18, q19, q20, q21, q22, q23, q24, q25, q28, q29, q30, q31, q32, q33, q34, q35, q38, q39, q40, q41, q42, q43, q44, q45, q46, q47, q48, q49, q50, q51, q52, q53, q61, q62, q63, q64, q0, q0, q0, q0, q0, q0, q0, q0, q0, q0, q0, q0, q0, q0, q0, q0, q0, q0, q0, q0, q0, q0, q0, q0, q0, q0, q0, q0, q0, q0, q0, q0, q0, q0, q0, q0, q0, q0, q0, q0, q0, q0, q0, q0, q0, q0, q0, q0, q0, q0, q0, q0, q0, q0, q0, q0, q0, q0, q0, q0, q0, q0, q0, q0, q0, q0, q0, q0, q0, q0, q0, q0, q0, q0, q0, q0, q0, q0, q0, q0, q0, q0, q0, q0, q0, q0, q0, q0, q0, q0, q0, q0, q0, q0, q0, q0, q0, q0, q0, q0, q0, q0, q0, q0, q0, q0, q0, q0, q0, q0, q0, q0, q0, q0, q0, q0, q0, q0, q0, q0, q0, q0, q0, q0, q0, q0, q0, q0, q0, q0, q0, q0, q0, q0, q0, q0, q0, q0, q0, q0, q0, q0, q0, q0, q0, q0, q0, q0, q0, q0, q0, q0, q0, q0, q0, q0, q0, q0, q0, q0, q0, q0, q0, q0, q0, q0, q0, q0, q0, q0, q0, q0, q0, q0, q0, q0, q0, q0, q0, q0, q0, q0, q0, q0, q0, q0, q0, q0, q0, q0, q0, q0, q0, q0, q0, q0, q0, q0, q0, q0, q0, q0, q0, q0, q0, q0, q0, q0, q0, q0, q0, q0, q0, q0]))] (del [73994, 74077, 74081, 74080, 71264, 75299, 75298, 74082, 75301, 75300, 71339, 75956] g120)
/-- the state behind piece 121; its texts -/
def s121 : St :=
⟨⟨⟨16, 45, false, none⟩,
  (n z131 (n (A 52634 0) (n (U 74000 0 9 3) (n (I 0) (n (U 52655 0 9 3) (o (U 74000 0 9 3)) e) (n tt (o (I 0)) e)) (n (.tup [(U 52655 0 9 3), (I 0)]) (n tt (o (U 74000 0 9 3)) e) (n (U 71264 0 9 3) (o z180) e))) (n (I 8) (n z131 (n (I 8) (o z187) e) (n (I 8) (o ff) e)) (n (I 0) (n (I 0) (o z187) e) (o (I 18))))) (n (A 52635 0) (n (I 0) (n (.tup [(U 52655 0 9 3), (I 0)]) (n z132 (o (I 0)) e) (n (I 7) (o (I 0)) e)) (n (U 52655 0 9 3) (n (A 52634 6) (o z183) e) (o (I 8)))) (n (A 76732 0) (n (S 52008 0 9 9) (n tt (o z180) e) (o (.tup [(U 74000 0 9 3), (I 0)]))) (n z131 (n tt (o z186) e) (o (.tup [(U 74000 0 9 3), (I 0)])))))),
  [.code (c 16 7318), .inBlock 1, .code (c 16 918), .inLoop (c 16 150), .inBlock 0, .code (c 16 30)], [], .run⟩,
 [⟨⟨4, 120, false, none⟩,
  y64,
  [.reg (r 4 22 1), .code (c 4 30)], [], .run⟩],
 ⟨(p 76733), g121⟩,
 []⟩
def k121 : List (IC Blk) := [(c 16 7318), .skip, (c 16 918), (c 16 150), .skip, (c 16 30), (.region (r 4 22 1)), (c 4 30)]
theorem h121 : codesSt s121.fr s121.cs s121.ls = k121 := by kernel_rfl
def y100 : T V := (n z189 (n (I 0) (n (A 76817 0) (n (I 0) (m (o (A 76817 0)) e) e) (m (m (o (I 0)) e) (o (A 76817 3)))) (m (m (m (o (A 76817 5)) e) e) (m (m (o (A 76817 11)) e) e))) (n (I 0) (m (m (m (o z188) e) e) (m (m (o (I 0)) e) (o ff))) (n (A 76818 0) (m (m (o (I 43)) e) (o (A 76817 0))) (m (m (o (U 76811 0 1 6)) e) e))))
def y101 : T V := (n z189 (n z189 (o (A 76815 0)) (n (I 0) (o z189) e)) (n (A 76814 0) (o (A 76816 0)) e))
def y102 : T V := (n z189 (n (A 76812 0) (o (I 0)) (o z189)) (n (A 76813 0) (o z189) e))
def y103 : T V := (n z131 (n (A 52634 0) (n (U 76736 0 9 3) (n (I 0) (n (U 52655 0 9 3) (o (U 76736 0 9 3)) e) (n tt (o (I 0)) e)) (n (.tup [(U 52655 0 9 3), (I 0)]) (n tt (o (U 76736 0 9 3)) e) (n (U 74000 0 9 3) (o z186) e))) (n (I 9) (n z131 (n (I 9) (o z187) e) (n (I 9) (o ff) e)) (n (I 0) (n (I 0) (o z187) e) (o (I 19))))) (n (A 52635 0) (n (I 0) (n (.tup [(U 52655 0 9 3), (I 0)]) (n z132 (o (I 0)) e) (n (I 8) (o (I 0)) e)) (n (U 52655 0 9 3) (n (A 52634 6) (o z189) e) (o (I 9)))) (n (A 76732 0) (n (S 52008 0 9 9) (n tt (o z186) e) (o (.tup [(U 76736 0 9 3), (I 0)]))) (n z131 (n tt (o z186) e) (o (.tup [(U 76736 0 9 3), (I 0)]))))))
/-- the memory behind piece 122 -/
def g122 : T Blk := upd [(76815, (ce [(U 76730 0 258 1), ns, (I 0), ff, (I 10), (I 43), (I 0), (I 42), (I 1), (I 1), (I 1), (U 76811 0 1 6)])), (76951, (ce [(I 41), (I 10)])), (76819, (ce [(U 76730 0 258 1), ns, (I 0), ff])), (76811, (ce [(I 1), (I 0), (I 0), (I 0), (I 0), (U 76736 0 9 3)])), (77291, (ce [(I 1), (I 0), q112, (I 1), (I 1), q2, (I 2), (I 0), q3])), (77313, (ce [ff, tt, tt, ff, ff, ff, ff, ff, ff, ff])), (76817, (ce [(U 76730 0 258 1), ns, (I 0), ff, (I 10), (I 43), (I 0), (I 42), (I 1), (I 1), (I 1), (U 76811 0 1 6)])), (76821, (ce [ns, ns, ns, ns, (I 0), (I 0), ff])), (76813, (ce [ns, ns, (I 0), ff, (I 0), (I 0), (I 0), (I 0), (I 0), (I 0), (I 0), ns])), (76909, (ce [(I 43), (I 10), (I 42), (I 10)])), (77293, (ce [(I 40), (I 10), (I 7), (I 2), (I 8), (I 2)])), (76736, (ce [(I 2), (I 19), q2, (I 1), (I 6), q1, (I 0), (I 0), q1, (I 0), (I 0), q1, (I 0), (I 0), q1, (I 0), (I 0), q1, (I 0), (I 0), q1, (I 0), (I 0), q1, (I 0), (I 0), q1])), (76816, (ce [ns, ns, (I 0), ff, (I 0), (I 0), (I 0), (I 0), (I 0), (I 0), (I 0), ns])), (76824, (ce [(I 0), (I 0), ns, ns, ns, ns, ns])), (76820, (ce [ns, ns])), (76812, (ce [(U 76730 0 258 1), ns, (I 0), ff, (I 10), (I 43), (I 0), (I 42), (I 1), (I 1), (I 1), (U 76811 0 1 6)])), (76818, (ce [ns, ns, (I 0), ff, (I 0), (I 0), (I 0), (I 0), (I 0), (I 0), (I 0), ns])), (77298, (ce [(I 0), (I 0), (I 1), (I 0), (I 0), (I 0), (I 0), (I 0), (I 0), (I 0)])), (52634, (ce [(U 76730 0 258 1), ns, (I 0), ff, (I 10), (I 43), (I 0), (I 42), (I 1), (I 1), (I 1), (U 74075 0 1 6)])), (77018, (ce [(I 1), (I 0), (I 0), (I 0), (I 0)])), (76814, (ce [(U 76730 0 258 1), ns, (I 0), ff, (I 10), (I 43), (I 0), (I 42), (I 1), (I 1), (I 1), (U 76811 0 1 6)])), (76910, (ce [(I 1), (I 1), ns, ns, ns, ns, (U 76909 0 2 2)])), (77294, (ce [(I 2), (I 18), q2, (I 1), (I 6), q1, (I 0), (I 0), q1, (I 0), (I 0), q1, (I 0), (I 0), q1, (I 0), (I 0), q1, (I 0), (I 0), q1, (I 0), (I 0), q1, (I 0), (I 0), q1]))] (del [] g121)
/-- the state behind piece 122; its texts -/
def s122 : St :=
⟨⟨⟨90, 180, false, none⟩,
  (n (S 77294 0 9 9) (m (n (S 77298 0 10 10) (n tt (m (n (I 8) (o (U 77301 0 1 2)) (o (I 1))) (n tt (o ff) (o (I 1)))) (n (I 2) (n tt (o (A 77298 2)) (o ff)) (n ff (o (S 77313 0 10 10)) e))) (n (I 2) (n ff (n (A 77294 24) (o (I 2)) (o ns)) (n (.tup [(U 77301 0 1 2), tt]) (o (I 0)) (o (A 77320 0)))) (n (I 9) (n ff (o ff) (o tn)) (n ff (o (I 0)) e)))) (n (A 77312 0) (n (S 77313 0 10 10) (n (I 9) (n (S 77294 0 9 9) (o (A 77301 0)) (o (S 77294 0 9 9))) (n (A 77299 2) (o (A 77305 2)) (o (U 77320 0 1 2)))) (n ff (n (.agg [(I 0), (I 0), q1]) (o (I 6)) (o tn)) (n (U 77301 0 1 2) (o (I 1)) e))) (n (I 0) (n (A 77294 0) (n (A 77312 0) (o (I 0)) (o ns)) (n tt (o ff) (o (I 2)))) (n (I 9) (n tt (o (I 6)) (o ff)) (n (I 1) (o (I 2)) e))))) (n ff (n (I 9) (n (I 1) (n (S 77294 0 9 9) (n (I 9) (o (I 0)) (o (I 2))) (n (.tup [(U 77301 0 1 2), tt]) (o ff) (o (S 77313 0 10 10)))) (n ff (n tt (o (A 77305 1)) (o ff)) (n (I 1) (o (A 77313 1)) e))) (n ns (n (S 77294 0 9 9) (n (.agg [(I 0), (I 0), q1]) (o (A 77298 2)) (o (I 0))) (n (U 77301 0 1 2) (o ff) (o (A 77320 1)))) (n (S 77294 0 9 9) (n tt (o (A 77305 1)) (o tn)) (n (I 0) (o (I 1)) e)))) (n (U 77301 0 1 2) (n (I 1) (n ff (n (I 8) (o (A 77301 1)) (o (I 2))) (n q2 (o q1) (o (I 0)))) (n (S 77298 0 10 10) (n (.agg [(I 0), (I 0), q1]) (o ff) (o tn)) (n (I 1) (o tt) e))) (m (n (A 77294 0) (n (I 0) (o (I 1)) (o (I 0))) (n tt (o (S 77313 0 10 10)) (o (A 77313 2)))) (n ff (n tt (o ff) (o (I 0))) (n (S 77298 0 10 10) (o tt) e)))))),
  [.code (c 90 51979454), .code (c 90 26813630), .inLoop (c 90 10036414), .inBlock 9, .inBlock 8, .code (c 90 468158), .inLoop (c 90 74942), .inBlock 7, .inBlock 6, .code (c 90 7358), .inLoop (c 90 1214), .inBlock 5, .code (c 90 254)], [], .run⟩,
 [⟨⟨195, 80, false, none⟩,
  (n (U 77291 0 3 3) (m (n ff (n (S 77294 0 9 9) (n (I 2) (n (I 3) (o q1) e) (o (u8 6))) (n (I 2) (o (I 2)) (o (I 1)))) (n ff (n (I 2) (n (I 2) (o (A 77294 0)) e) (o (A 77294 3))) (n (I 0) (o (u8 1)) (o (I 1))))) (n (I 3) (n (U 77291 0 3 3) (n (.agg [(I 2), (I 0), q3]) (n (S 77294 0 9 9) (o q2) e) (o (A 77294 3))) (n ff (o (A 77297 2)) (o (S 77294 0 9 9)))) (n (I 3) (n ff (n (S 77294 0 9 9) (o (S 77294 0 9 9)) e) (o (S 77294 0 9 9))) (n (A 77297 2) (o (A 77297 2)) (o (A 77294 0)))))) (n ns (n (S 77294 0 9 9) (n (I 3) (n (A 77291 6) (n ff (o (A 77296 2)) e) (o (I 6))) (n ff (o (I 1)) (o (I 0)))) (n (I 2) (n ff (n (I 1) (o (A 77294 2)) e) (o (A 77294 4))) (n tt (o (I 1)) (o (I 0))))) (n (A 77297 0) (n (I 3) (n (A 77297 0) (n (A 77297 0) (o q2) e) (o (A 77294 3))) (n (A 77297 1) (o q3) (o (A 77296 0)))) (n (U 77291 0 3 3) (n (A 77297 0) (o (A 77297 0)) (o (A 77296 0))) (n q3 (o q3) (o (A 77294 2))))))),
  [.reg (r 195 38 1), .code (c 195 54), .code (c 195 30)], [], .run⟩,
 ⟨⟨123, 134, false, none⟩,
  (n z188 (n (I 43) (m (n tt (n (A 77018 0) (n (.agg [(I 4), (I 10), q13]) (o (U 76863 0 1 2)) (o (U 77291 0 3 3))) (n (U 76863 0 1 2) (o tt) e)) (n (I 43) (m (o tt) e) (m (o (U 77292 0 3 3)) e))) (n (A 76910 0) (n (U 77291 0 3 3) (n (U 76863 0 1 2) (o (I 10)) e) (n (U 76863 0 1 2) (o (.tup [(U 77292 0 3 3), (U 77293 0 3 2), (U 77291 0 3 3), tt])) e)) (n tt (n (A 76857 1) (o (.agg [(I 3), (I 10), q58])) e) (n (I 0) (o tt) e)))) (n ff (n (I 1) (n (U 77292 0 3 3) (n (I 1) (o (A 76863 0)) e) (n (.agg [(I 1), (I 1), ns, ns, ns, ns, (U 76909 0 2 2)]) (o ff) e)) (n (.agg [(I 4), (I 10), q13]) (o (I 1)) (n z188 (o (U 77291 0 3 3)) e))) (n (A 76911 0) (n z77 (n tt (o (.agg [(I 3), (I 10), q58])) e) (n tt (o (U 76951 0 1 2)) e)) (m (n (.agg [(I 43), (I 10)]) (o z2) e) (o (A 76863 0)))))) (n (A 76823 0) (n (A 76824 0) (n (I 1) (n (U 76951 0 1 2) (n (.tup [(I 1), (I 1), (U 76863 0 1 2), tt]) (o (I 0)) e) (n (U 76909 0 2 2) (o tt) e)) (n z77 (n (I 1) (o ff) e) (n z78 (o (U 77293 0 3 2)) e))) (n (I 0) (m (n tt (o z78) e) (n (I 1) (o z188) e)) (n ff (n (I 10) (o (.tup [z2, (U 76951 0 1 2), tt])) e) (n (A 76863 0) (o ff) e)))) (n (A 76857 0) (n (U 76863 0 1 2) (n (U 77293 0 3 2) (n (I 1) (o (A 76863 1)) e) (o (I 0))) (n tt (n (I 43) (o (.tup [z2, (U 76951 0 1 2), tt])) e) (n (U 76863 0 1 2) (o tt) e))) (n tt (n z188 (n ff (o tt) e) (m (o (.tup [(U 77292 0 3 3), (U 77293 0 3 2), (U 77291 0 3 3), tt])) e)) (n (.tup [(I 1), (I 1), (U 76863 0 1 2), tt]) (n (S 76908 0 1 1) (o (U 76951 0 1 2)) e) (o (I 42))))))),
  [.reg (r 123 1565886 1), .code (c 123 2090174), .inBlock 1, .code (c 123 7358), .inLoop (c 123 1214), .inBlock 0, .code (c 123 254)], [], .run⟩,
 ⟨⟨63, 33, false, none⟩,
  (n z188 (n (I 43) (m e (o z188)) (o ff)) (n (A 76822 0) (n ns e (o (I 43))) e)),
  [.reg (r 63 4 2), .code (c 63 6)], [], .run⟩,
 ⟨⟨119, 207, false, none⟩,
  (n z188 (n (I 43) (n (I 0) (n (A 76819 0) (n ff (o (I 1)) e) (m (o (I 0)) e)) (m (m (o tt) e) (m (o (I 0)) e))) (n (I 0) (m (m (o ff) (o (I 43))) (m (o ff) e)) (m (m (o ff) e) (m (o z9) e)))) (n (I 0) (n (I 0) (m (n (A 76821 0) (o ff) (o z188)) (m (o ff) e)) (m (m (o ff) e) (m (o (I 0)) e))) (n (U 76811 0 1 6) (m (m (o (I 0)) e) e) (n (A 76820 0) (m (o ff) e) (n (U 76811 0 1 6) (o (A 76821 0)) e))))),
  [.reg (r 119 22 2), .code (c 119 30)], [], .run⟩,
 ⟨⟨56, 300, false, none⟩,
  y100,
  [.reg (r 56 10 8), .code (c 56 14)], [], .run⟩,
 ⟨⟨132, 25, false, none⟩,
  y101,
  [.reg (r 132 4 1), .code (c 132 6)], [], .run⟩,
 ⟨⟨60, 9, false, none⟩,
  y102,
  [.reg (r 60 4 2), .code .ret], [], .run⟩,
 ⟨⟨16, 45, false, none⟩,
  y103,
  [.reg (r 16 5270 3), .code (c 16 7318), .inBlock 1, .code (c 16 918), .inLoop (c 16 150), .inBlock 0, .code (c 16 30)], [], .run⟩,
 ⟨⟨4, 120, false, none⟩,
  y64,
  [.reg (r 4 22 1), .code (c 4 30)], [], .run⟩],
 ⟨(p 77324), g122⟩,
 []⟩
def k122 : List (IC Blk) := [(c 90 51979454), (c 90 26813630), (c 90 10036414), .skip, .skip, (c 90 468158), (c 90 74942), .skip, .skip, (c 90 7358), (c 90 1214), .skip, (c 90 254), (.region (r 195 38 1)), (c 195 54), (c 195 30), (.region (r 123 1565886 1)), (c 123 2090174), .skip, (c 123 7358), (c 123 1214), .skip, (c 123 254), (.region (r 63 4 2)), (c 63 6), (.region (r 119 22 2)), (c 119 30), (.region (r 56 10 8)), (c 56 14), (.region (r 132 4 1)), (c 132 6), (.region (r 60 4 2)), .ret, (.region (r 16 5270 3)), (c 16 7318), .skip, (c 16 918), (c 16 150), .skip, (c 16 30), (.region (r 4 22 1)), (c 4 30)]
theorem h122 : codesSt s122.fr s122.cs s122.ls = k122 := by kernel_rfl
/-- the memory behind piece 123 -/
def g123 : T Blk := upd [(77697, (ce [(I 7), (I 2), (I 8), (I 2), (I 40), (I 10), (I 41), (I 10), (I 42), (I 10), (I 43), (I 10)])), (76821, (ce [ns, ns, (U 77697 0 6 2), (U 77698 0 6 3), (I 0), (I 0), ff])), (77698, (ce [(I 1), (I 2), q26, (I 1), (I 2), q27, (I 1), (I 10), q98, (I 2), (I 10), q113, (I 3), (I 10), q58, (I 4), (I 10), q13]))] (del [77313, 76819, 76951, 76824, 77018, 77291, 77293, 76909, 77294, 76910, 77298] g122)
/-- the state behind piece 123; its texts -/
def s123 : St :=
⟨⟨⟨119, 207, false, none⟩,
  (n z188 (n (I 43) (n (I 0) (n (A 76819 0) (n ff (n (I 1) (n (A 77476 10) (o tt) e) (o (A 76821 0))) (n (.tup [(U 77476 0 6 2), tt]) (o (A 77476 10)) (o (U 77698 0 6 3)))) (m (n (I 0) (o z77) (o (S 77695 0 1 1))) (n (I 6) (o (A 77476 10)) (o tt)))) (m (n (I 6) (n tt (o (I 5)) (o (U 77476 0 6 2))) (n (U 77476 0 6 2) (o ff) (o (A 76821 3)))) (m (n (I 0) (o tt) (o (A 76821 3))) (n z77 (o tt) (o (I 0)))))) (n (I 0) (m (n (U 77476 0 6 2) (n ff (o (I 43)) (o (A 76821 2))) (n (I 43) (o (I 0)) (o (A 76821 2)))) (m (n ff (o tt) (o (A 76821 0))) (n (I 5) (o (I 0)) e))) (m (n tt (n ff (o (A 77476 11)) (o (A 77476 10))) (n (I 6) (o (I 5)) (o (U 76811 0 1 6)))) (m (n z9 (o (I 5)) (o (.agg [(I 4), (I 10), q13]))) (n (U 77476 0 6 2) (o (A 76821 0)) (o (A 76811 5))))))) (n (I 0) (n (I 0) (m (n (A 76821 0) (n ff (n (A 77476 10) (o ff) e) (o (A 76821 0))) (n z188 (o (I 43)) (o (A 76821 0)))) (m (n ff (o (.agg [(I 4), (I 10), q13])) (o (U 77697 0 6 2))) (n ff (o (I 43)) e))) (m (n (A 77662 0) (n ff (o (A 77476 10)) (o (I 5))) (n tt (o (U 77476 0 6 2)) (o (I 0)))) (m (n (I 0) (o (U 77476 0 6 2)) (o (U 77661 0 5 3))) (n z188 (o tt) (o (A 76811 0)))))) (n (U 76811 0 1 6) (m (n tt (n (I 0) (o (U 77476 0 6 2)) (o (U 77660 0 5 2))) (n (.tup [(U 77476 0 6 2), tt]) (o ff) (o (A 76821 0)))) (m (m (o tt) (o (A 76821 0))) (n (I 6) (o tt) (o (U 76811 0 1 6))))) (n (A 76820 0) (n (I 0) (n ff (o (I 10)) (o (.agg [(I 43), (I 10)]))) (n (U 77476 0 6 2) (o (A 77476 10)) (o (I 1)))) (n (U 76811 0 1 6) (n (A 76821 0) (o (A 77476 10)) (o (S 77696 0 1 1))) (n (I 5) (o (A 76821 0)) (o (U 76736 0 9 3)))))))),
  [.code (c 119 25182), .code (c 119 12894), .inBlock 3, .code (c 119 3678), .inLoop (c 119 606), .inBlock 2, .code (c 119 126)], [], .run⟩,
 [⟨⟨56, 300, false, none⟩,
  y100,
  [.reg (r 56 10 8), .code (c 56 14)], [], .run⟩,
 ⟨⟨132, 25, false, none⟩,
  y101,
  [.reg (r 132 4 1), .code (c 132 6)], [], .run⟩,
 ⟨⟨60, 9, false, none⟩,
  y102,
  [.reg (r 60 4 2), .code .ret], [], .run⟩,
 ⟨⟨16, 45, false, none⟩,
  y103,
  [.reg (r 16 5270 3), .code (c 16 7318), .inBlock 1, .code (c 16 918), .inLoop (c 16 150), .inBlock 0, .code (c 16 30)], [], .run⟩,
 ⟨⟨4, 120, false, none⟩,
  y64,
  [.reg (r 4 22 1), .code (c 4 30)], [], .run⟩],
 ⟨(p 77760), g123⟩,
 []⟩
def k123 : List (IC Blk) := [(c 119 25182), (c 119 12894), .skip, (c 119 3678), (c 119 606), .skip, (c 119 126), (.region (r 56 10 8)), (c 56 14), (.region (r 132 4 1)), (c 132 6), (.region (r 60 4 2)), .ret, (.region (r 16 5270 3)), (c 16 7318), .skip, (c 16 918), (c 16 150), .skip, (c 16 30), (.region (r 4 22 1)), (c 4 30)]
theorem h123 : codesSt s123.fr s123.cs s123.ls = k123 := by kernel_rfl
def y104 : T V := (n z189 (n (I 0) (n (A 76817 0) (n (I 0) (m (n (A 76817 0) (o (I 44)) e) (o (I 11))) (m (o z191) (o (A 76817 5)))) (n (A 78033 0) (m (n (I 0) (o (U 76811 0 1 6)) e) (o z189)) (n (A 76817 3) (o ff) (o (I 0))))) (m (n tt (m (n (A 76817 5) (o (I 0)) e) (o ff)) (m (o tt) (o (I 11)))) (m (m (o (A 76817 11)) (o (A 76817 0))) (m (o (A 76817 4)) (o (A 76817 7)))))) (n (I 0) (m (n (A 78032 0) (m (n z188 (o (I 0)) e) (o (I 11))) (m (o z190) (o (I 43)))) (n (A 78034 0) (m (o (I 0)) e) (n ff e (o (I 2))))) (n (A 76818 0) (n (I 11) (m (n (I 43) (o (A 76817 11)) e) e) (n (A 76817 0) (o tt) (o (A 76817 6)))) (m (m (o (U 76811 0 1 6)) (o z188)) (n z191 (o (I 10)) (o (I 42)))))))
/-- the memory behind piece 124 -/
def g124 : T Blk := upd [(78031, (ce [(I 2), (I 0)])), (78167, (ce [(I 41), (I 10)])), (78035, (ce [(U 76730 0 258 1), ns, (I 0), ff])), (78507, (ce [(I 1), (I 0), q112, (I 1), (I 1), q2, (I 2), (I 0), q3])), (78033, (ce [(U 76730 0 258 1), ns, (I 0), ff, (I 10), (I 43), (I 0), (I 42), (I 1), (I 1), (I 1), (U 76811 0 1 6)])), (78037, (ce [ns, ns, ns, ns, (I 11), (I 44), ff])), (78029, (ce [(I 1), (I 0), q129, (I 2), (I 0), q36, (I 3), (I 0), q37])), (78125, (ce [(I 43), (I 10), (I 42), (I 10)])), (78509, (ce [(I 40), (I 10), (I 7), (I 2), (I 8), (I 2)])), (78032, (ce [(U 78029 0 3 3), (U 78031 0 1 2)])), (78040, (ce [(I 0), (I 0), ns, ns, ns, ns, ns])), (78036, (ce [ns, ns])), (78034, (ce [ns, ns])), (78234, (ce [(I 1), (I 0), (I 0), (I 0), (I 0)])), (78126, (ce [(I 1), (I 1), ns, ns, ns, ns, (U 78125 0 2 2)]))] (del [77697, 77698, 76821, 76820] g123)
/-- the state behind piece 124; its texts -/
def s124 : St :=
⟨⟨⟨123, 134, false, none⟩,
  (n z188 (n (I 43) (m (n tt (n (A 78234 0) (n (.agg [(I 4), (I 10), q13]) (o (U 78079 0 1 2)) e) (n (U 78079 0 1 2) (o tt) e)) (n (I 43) (m (o tt) e) (m (o (U 78508 0 3 3)) e))) (n (A 78126 0) (n (U 78507 0 3 3) (n (U 78079 0 1 2) (o (I 10)) e) (n (U 78079 0 1 2) (o (.tup [(U 78508 0 3 3), (U 78509 0 3 2), (U 78507 0 3 3), tt])) e)) (n tt (n (A 78073 1) (o (.agg [(I 3), (I 10), q58])) e) (o (I 0))))) (n ff (n (I 1) (n (U 78508 0 3 3) (n (I 1) (o (A 78079 0)) e) (n (.agg [(I 1), (I 1), ns, ns, ns, ns, (U 78125 0 2 2)]) (o ff) e)) (n (.agg [(I 4), (I 10), q13]) (o (I 1)) (n z188 (o (U 78507 0 3 3)) e))) (n (A 78127 0) (n z77 (n tt (o (.agg [(I 3), (I 10), q58])) e) (n tt (o (U 78167 0 1 2)) e)) (m (n (.agg [(I 43), (I 10)]) (o z2) e) (o (A 78079 0)))))) (n (A 78039 0) (n (A 78040 0) (n (I 1) (n (U 78167 0 1 2) (n (.tup [(I 1), (I 1), (U 78079 0 1 2), tt]) (o (I 0)) e) (n (U 78125 0 2 2) (o tt) e)) (n z77 (n (I 1) (o ff) e) (n z78 (o (U 78509 0 3 2)) e))) (n (I 0) (m (n tt (o z78) e) (n (I 1) (o z188) e)) (n ff (n (I 10) (o (.tup [z2, (U 78167 0 1 2), tt])) e) (o (A 78079 0))))) (n (A 78073 0) (n (U 78079 0 1 2) (n (U 78509 0 3 2) (n (I 1) (o (A 78079 1)) e) (o (I 0))) (n tt (n (I 43) (o (.tup [z2, (U 78167 0 1 2), tt])) e) (n (U 78079 0 1 2) (o tt) e))) (n tt (n z188 (n ff (o tt) e) (m (o (.tup [(U 78508 0 3 3), (U 78509 0 3 2), (U 78507 0 3 3), tt])) e)) (n (.tup [(I 1), (I 1), (U 78079 0 1 2), tt]) (n (S 78124 0 1 1) (o (U 78167 0 1 2)) e) (o (I 42))))))),
  [.code (c 123 517310), .inBlock 1, .code (c 123 7358), .inLoop (c 123 1214), .inBlock 0, .code (c 123 254)], [], .run⟩,
 [⟨⟨63, 33, false, none⟩,
  (n z188 (n (I 43) (m e (o z188)) (o ff)) (n (A 78038 0) (n ns e (o (I 43))) e)),
  [.reg (r 63 4 2), .code (c 63 6)], [], .run⟩,
 ⟨⟨119, 207, false, none⟩,
  (n z188 (n (I 43) (n (I 44) (n (A 78035 0) (n ff (o (I 1)) e) (m (o (I 44)) e)) (m (m (o tt) e) (m (o (I 11)) e))) (n (I 0) (m (m (o ff) (o (I 43))) (m (o ff) e)) (m (m (o ff) e) (m (o z80) e)))) (n (I 11) (n (I 0) (m (n (A 78037 0) (o ff) (o z188)) (m (o ff) e)) (m (m (o ff) e) (m (o (I 44)) e))) (n (U 76811 0 1 6) (m (m (o (I 11)) e) e) (n (A 78036 0) (m (o ff) e) (n (U 76811 0 1 6) (o (A 78037 0)) e))))),
  [.reg (r 119 22 2), .code (c 119 30)], [], .run⟩,
 ⟨⟨56, 300, false, none⟩,
  y104,
  [.reg (r 56 382 21), .code (c 56 510)], [], .run⟩,
 ⟨⟨132, 25, false, none⟩,
  y101,
  [.reg (r 132 4 1), .code (c 132 6)], [], .run⟩,
 ⟨⟨60, 9, false, none⟩,
  y102,
  [.reg (r 60 4 2), .code .ret], [], .run⟩,
 ⟨⟨16, 45, false, none⟩,
  y103,
  [.reg (r 16 5270 3), .code (c 16 7318), .inBlock 1, .code (c 16 918), .inLoop (c 16 150), .inBlock 0, .code (c 16 30)], [], .run⟩,
 ⟨⟨4, 120, false, none⟩,
  y64,
  [.reg (r 4 22 1), .code (c 4 30)], [], .run⟩],
 ⟨(p 78510), g124⟩,
 []⟩
def k124 : List (IC Blk) := [(c 123 517310), .skip, (c 123 7358), (c 123 1214), .skip, (c 123 254), (.region (r 63 4 2)), (c 63 6), (.region (r 119 22 2)), (c 119 30), (.region (r 56 382 21)), (c 56 510), (.region (r 132 4 1)), (c 132 6), (.region (r 60 4 2)), .ret, (.region (r 16 5270 3)), (c 16 7318), .skip, (c 16 918), (c 16 150), .skip, (c 16 30), (.region (r 4 22 1)), (c 4 30)]
theorem h124 : codesSt s124.fr s124.cs s124.ls = k124 := by kernel_rfl
/-- the memory behind piece 125 -/
def g125 : T Blk := upd [(78913, (ce [(I 7), (I 2), (I 8), (I 2), (I 40), (I 10), (I 41), (I 10), (I 42), (I 10), (I 43), (I 10)])), (78037, (ce [ns, ns, (U 78913 0 6 2), (U 78914 0 6 3), (I 11), (I 44), ff])), (78914, (ce [(I 1), (I 2), q26, (I 1), (I 2), q27, (I 1), (I 10), q98, (I 2), (I 10), q113, (I 3), (I 10), q58, (I 4), (I 10), q13]))] (del [78029, 76812, 78031, 76815, 76814, 78033, 78032, 74000, 78035, 78167, 78040, 74075, 78234, 78507, 78509, 78125, 78126, 76732] g124)
/-- the state behind piece 125; its texts -/
def s125 : St :=
⟨⟨⟨119, 207, false, none⟩,
  (n z188 (n (I 43) (n (I 44) (n (A 78035 0) (n ff (n (I 1) (n (A 78692 10) (o tt) e) (o (A 78037 0))) (n (.tup [(U 78692 0 6 2), tt]) (o (A 78692 10)) (o (U 78914 0 6 3)))) (m (n (I 44) (o z77) (o (S 78911 0 1 1))) (n (I 6) (o (A 78692 10)) (o tt)))) (m (n (I 6) (n tt (o (I 5)) (o (U 78692 0 6 2))) (n (U 78692 0 6 2) (o ff) (o (A 78037 3)))) (m (n (I 11) (o tt) (o (A 78037 3))) (n z77 (o tt) (o (I 0)))))) (n (I 0) (m (n (U 78692 0 6 2) (n ff (o (I 43)) (o (A 78037 2))) (n (I 43) (o (I 0)) (o (A 78037 2)))) (m (n ff (o tt) (o (A 78037 0))) (n (I 5) (o (I 0)) e))) (m (n tt (n ff (o (A 78692 11)) (o (A 78692 10))) (n (I 6) (o (I 5)) (o (U 76811 0 1 6)))) (m (n z80 (o (I 5)) (o (.agg [(I 4), (I 10), q13]))) (n (U 78692 0 6 2) (o (A 78037 0)) (o (A 76811 5))))))) (n (I 11) (n (I 0) (m (n (A 78037 0) (n ff (n (A 78692 10) (o ff) e) (o (A 78037 0))) (n z188 (o (I 43)) (o (A 78037 0)))) (m (n ff (o (.agg [(I 4), (I 10), q13])) (o (U 78913 0 6 2))) (n ff (o (I 43)) e))) (m (n (A 78878 0) (n ff (o (A 78692 10)) (o (I 5))) (n tt (o (U 78692 0 6 2)) (o (I 0)))) (m (n (I 44) (o (U 78692 0 6 2)) (o (U 78877 0 5 3))) (n z188 (o tt) (o (A 76811 0)))))) (n (U 76811 0 1 6) (m (n tt (n (I 11) (o (U 78692 0 6 2)) (o (U 78876 0 5 2))) (n (.tup [(U 78692 0 6 2), tt]) (o ff) (o (A 78037 0)))) (m (m (o tt) (o (A 78037 0))) (n (I 6) (o tt) (o (U 76811 0 1 6))))) (n (A 78036 0) (n (I 0) (n ff (o (I 10)) (o (.agg [(I 43), (I 10)]))) (n (U 78692 0 6 2) (o (A 78692 10)) (o (I 1)))) (n (U 76811 0 1 6) (n (A 78037 0) (o (A 78692 10)) (o (S 78912 0 1 1))) (n (I 5) (o (A 78037 0)) (o (U 76736 0 9 3)))))))),
  [.code (c 119 25182), .code (c 119 12894), .inBlock 3, .code (c 119 3678), .inLoop (c 119 606), .inBlock 2, .code (c 119 126)], [], .run⟩,
 [⟨⟨56, 300, false, none⟩,
  y104,
  [.reg (r 56 382 21), .code (c 56 510)], [], .run⟩,
 ⟨⟨132, 25, false, none⟩,
  y101,
  [.reg (r 132 4 1), .code (c 132 6)], [], .run⟩,
 ⟨⟨60, 9, false, none⟩,
  y102,
  [.reg (r 60 4 2), .code .ret], [], .run⟩,
 ⟨⟨16, 45, false, none⟩,
  y103,
  [.reg (r 16 5270 3), .code (c 16 7318), .inBlock 1, .code (c 16 918), .inLoop (c 16 150), .inBlock 0, .code (c 16 30)], [], .run⟩,
 ⟨⟨4, 120, false, none⟩,
  y64,
  [.reg (r 4 22 1), .code (c 4 30)], [], .run⟩],
 ⟨(p 78976), g125⟩,
 []⟩
def k125 : List (IC Blk) := [(c 119 25182), (c 119 12894), .skip, (c 119 3678), (c 119 606), .skip, (c 119 126), (.region (r 56 382 21)), (c 56 510), (.region (r 132 4 1)), (c 132 6), (.region (r 60 4 2)), .ret, (.region (r 16 5270 3)), (c 16 7318), .skip, (c 16 918), (c 16 150), .skip, (c 16 30), (.region (r 4 22 1)), (c 4 30)]
theorem h125 : codesSt s125.fr s125.cs s125.ls = k125 := by kernel_rfl
/-- the memory behind piece 126 -/
def g126 : T Blk := upd [(79473, (ce [(U 79466 0 258 1), ns, (I 0), ff, (I 11), (I 47), (I 0), (I 46), (I 1), (I 1), (I 1), (U 76811 0 1 6)])), (79472, (ce [(I 2), (I 20), q2, (I 1), (I 6), q1, (I 0), (I 0), q1, (I 0), (I 0), q1, (I 0), (I 0), q1, (I 0), (I 0), q1, (I 0), (I 0), q1, (I 0), (I 0), q1, (I 0), (I 0), q1])), (79468, (ce [(U 79466 0 258 1), ns, (I 0), ff, (I 11), (I 47), (I 0), (I 46), (I 1), (I 1), (I 1), (U 76811 0 1 6)])), (79474, (ce [ns, ns, (I 0), ff, (I 0), (I 0), (I 0), (I 0), (I 0), (I 0), (I 0), ns])), (79466, (ce [q0, q4, q5, q6, q7, q8, q16, q17, q18, q19, q20, q21, q22, q23, q24, q25, q28, q29, q30, q31, q32, q33, q34, q35, q38, q39, q40, q41, q42, q43, q44, q45, q46, q47, q48, q49, q50, q51, q52, q53, q61, q62, q63, q64, q65, q66, q67, q68, q0, q0, q0, q0, q0, q0, q0, q0, q0, q0, q0, q0, q0, q0, q0, q0, q0, q0, q0, q0, q0, q0, q0, q0, q0, q0, q0, q0, q0, q0, q0, q0, q0, q0, q0, q0, q0, q0, q0, q0, q0, q0, q0, q0, q0, q0, q0, q0, q0, q0, q0, q0, q0, q0, q0, q0, q0, q0, q0, q0, q0, q0, q0, q0, q0, q0, q0, q0, q0, q0, q0, q0, q0, q0, q0, q0, q0, q0, q0, q0, q0, q0, q0, q0, q0, q0, q0, q0, q0, q0, q0, q0, q0, q0, q0, q0, q0, q0, q0, q0, q0, q0, q0, q0, q0, q0, q0, q0, q0, q0, q0, q0, q0, q0, q0, q0, q0, q0, q0, q0, q0, q0, q0, q0, q0, q0, q0, q0, q0, q0, q0, q0, q0, q0, q0, q0, q0, q0, q0, q0, q0, q0, q0, q0, q0, q0, q0, q0, q0, q0, q0, q0, q0, q0, q0, q0, q0, q0, q0, q0, q0, q0, q0, q0, q0, q0, q0, q0, q0, q0, q0, q0, q0, q0, q0, q0, q0, q0, q0, q0, q0, q0, q0, q0, q0, q0, q0, q0, q0, q0, q0, q0, q0, q0, q0, q0, q0, q0, q0, q0, q0, q0, q0, q0, q0, q0, q0, q0, q0, q0])), (52634, (ce [(U 79466 0 258 1), ns, (I 0), ff, (I 11), (I 47), (I 0), (I 46), (I 1), (I 1), (I 1), (U 76811 0 1 6)]))] (del [78913, 78914, 76813, 76817, 76816, 78034, 76818, 78037, 78036, 76730] g125)
/-- the state behind piece 126; its texts -/
def s126 : St :=
⟨⟨⟨37, 26, false, none⟩,
  (n z192 (n (U 79472 0 9 3) (m (o (U 79472 0 9 3)) e) (m (o ff) e)) (n (A 79473 0) (n (A 79474 0) (o tt) e) e)),
  [.code (c 37 12), .code (c 37 6)], [], .run⟩,
 [⟨⟨16, 45, false, none⟩,
  (n z131 (n (A 52634 0) (n (U 79472 0 9 3) (n (I 0) (n (U 52655 0 9 3) (o (U 79472 0 9 3)) e) (n tt (o (I 0)) e)) (n (.tup [(U 52655 0 9 3), (I 0)]) (n tt (o (U 79472 0 9 3)) e) (n (U 76736 0 9 3) (o z192) e))) (n (I 10) (n z131 (n (I 10) (o z193) e) (n (I 10) (o ff) e)) (n (I 0) (n (I 0) (o z193) e) (o (I 20))))) (n (A 52635 0) (n (I 0) (n (.tup [(U 52655 0 9 3), (I 0)]) (n z132 (o (I 0)) e) (n (I 9) (o (I 0)) e)) (n (U 52655 0 9 3) (n (A 52634 6) (o z189) e) (o (I 10)))) (n (A 79468 0) (n (S 52008 0 9 9) (n tt (o z192) e) (o (.tup [(U 79472 0 9 3), (I 0)]))) (n z131 (n tt (o z192) e) (o (.tup [(U 79472 0 9 3), (I 0)])))))),
  [.reg (r 16 5270 2), .code (c 16 7318), .inBlock 1, .code (c 16 918), .inLoop (c 16 150), .inBlock 0, .code (c 16 30)], [], .run⟩,
 ⟨⟨4, 120, false, none⟩,
  y64,
  [.reg (r 4 22 1), .code (c 4 30)], [], .run⟩],
 ⟨(p 79536), g126⟩,
 []⟩
def k126 : List (IC Blk) := [(c 37 12), (c 37 6), (.region (r 16 5270 2)), (c 16 7318), .skip, (c 16 918), (c 16 150), .skip, (c 16 30), (.region (r 4 22 1)), (c 4 30)]
theorem h126 : codesSt s126.fr s126.cs s126.ls = k126 := by kernel_rfl
def y105 : T V := (n z195 (n z195 (o (A 79551 0)) (n (I 0) (o z195) e)) (n (A 79550 0) (o (A 79552 0)) e))
def y106 : T V := (n z195 (n (A 79548 0) (o (I 0)) (o z195)) (n (A 79549 0) (o z195) e))
def y107 : T V := (n z131 (n (A 52634 0) (n (U 79472 0 9 3) (n (I 0) (n (U 52655 0 9 3) (o (U 79472 0 9 3)) e) (n tt (o (I 0)) e)) (n (.tup [(U 52655 0 9 3), (I 0)]) (n tt (o (U 79472 0 9 3)) e) (n (U 76736 0 9 3) (o z192) e))) (n (I 10) (n z131 (n (I 10) (o z193) e) (n (I 10) (o ff) e)) (n (I 0) (n (I 0) (o z193) e) (o (I 20))))) (n (A 52635 0) (n (I 0) (n (.tup [(U 52655 0 9 3), (I 0)]) (n z132 (o (I 0)) e) (n (I 9) (o (I 0)) e)) (n (U 52655 0 9 3) (n (A 52634 6) (o z195) e) (o (I 10)))) (n (A 79468 0) (n (S 52008 0 9 9) (n tt (o z192) e) (o (.tup [(U 79472 0 9 3), (I 0)]))) (n z131 (n tt (o z192) e) (o (.tup [(U 79472 0 9 3), (I 0)]))))))
/-- the memory behind piece 127 -/
def g127 : T Blk := upd [(79551, (ce [(U 79466 0 258 1), ns, (I 0), ff, (I 11), (I 47), (I 0), (I 46), (I 1), (I 1), (I 1), (U 79547 0 1 6)])), (79555, (ce [(U 79466 0 258 1), ns, (I 0), ff])), (79547, (ce [(I 1), (I 0), (I 0), (I 0), (I 0), (U 79472 0 9 3)])), (79553, (ce [(U 79466 0 258 1), ns, (I 0), ff, (I 11), (I 47), (I 0), (I 46), (I 1), (I 1), (I 1), (U 79547 0 1 6)])), (79557, (ce [ns, ns, ns, ns, (I 0), (I 0), ff])), (79549, (ce [ns, ns, (I 0), ff, (I 0), (I 0), (I 0), (I 0), (I 0), (I 0), (I 0), ns])), (79552, (ce [ns, ns, (I 0), ff, (I 0), (I 0), (I 0), (I 0), (I 0), (I 0), (I 0), ns])), (79556, (ce [ns, ns])), (80212, (ce [(I 7), (I 2), (I 8), (I 2), (I 44), (I 11), (I 45), (I 11), (I 46), (I 11), (I 47), (I 11)])), (79548, (ce [(U 79466 0 258 1), ns, (I 0), ff, (I 11), (I 47), (I 0), (I 46), (I 1), (I 1), (I 1), (U 79547 0 1 6)])), (79554, (ce [ns, ns, (I 0), ff, (I 0), (I 0), (I 0), (I 0), (I 0), (I 0), (I 0), ns])), (79550, (ce [(U 79466 0 258 1), ns, (I 0), ff, (I 11), (I 47), (I 0), (I 46), (I 1), (I 1), (I 1), (U 79547 0 1 6)]))] (del [79473, 79474] g126)
/-- the state behind piece 127; its texts -/
def s127 : St :=
⟨⟨⟨119, 207, false, none⟩,
  (n z194 (n (I 47) (n (I 0) (n (A 79555 0) (n ff (o (I 1)) (o (.tup [(U 80212 0 6 2), tt]))) (m (o (I 0)) e)) (m (m (o tt) (o (U 80212 0 6 2))) (m (o (I 0)) e))) (n (I 0) (m (n (U 80212 0 6 2) (o ff) (o (I 47))) (m (o ff) e)) (m (m (o ff) e) (m (o z9) e)))) (n (I 0) (n (I 0) (m (n (A 79557 0) (o ff) (o z194)) (m (o ff) e)) (m (m (o ff) (o tt)) (m (o (I 0)) e))) (n (U 79547 0 1 6) (m (n tt (o (I 0)) (o (.tup [(U 80212 0 6 2), tt]))) e) (n (A 79556 0) (m (o ff) e) (n (U 79547 0 1 6) (o (A 79557 0)) e))))),
  [.code (c 119 30)], [], .run⟩,
 [⟨⟨56, 300, false, none⟩,
  (n z195 (n (I 0) (n (A 79553 0) (n (I 0) (m (o (A 79553 0)) e) e) (m (m (o (I 0)) e) (o (A 79553 3)))) (m (m (m (o (A 79553 5)) e) e) (m (m (o (A 79553 11)) e) e))) (n (I 0) (m (m (m (o z194) e) e) (m (m (o (I 0)) e) (o ff))) (n (A 79554 0) (m (m (o (I 47)) e) (o (A 79553 0))) (m (m (o (U 79547 0 1 6)) e) e)))),
  [.reg (r 56 10 8), .code (c 56 14)], [], .run⟩,
 ⟨⟨132, 25, false, none⟩,
  y105,
  [.reg (r 132 4 1), .code (c 132 6)], [], .run⟩,
 ⟨⟨60, 9, false, none⟩,
  y106,
  [.reg (r 60 4 2), .code .ret], [], .run⟩,
 ⟨⟨16, 45, false, none⟩,
  y107,
  [.reg (r 16 5270 3), .code (c 16 7318), .inBlock 1, .code (c 16 918), .inLoop (c 16 150), .inBlock 0, .code (c 16 30)], [], .run⟩,
 ⟨⟨4, 120, false, none⟩,
  y64,
  [.reg (r 4 22 1), .code (c 4 30)], [], .run⟩],
 ⟨(p 80213), g127⟩,
 []⟩
def k127 : List (IC Blk) := [(c 119 30), (.region (r 56 10 8)), (c 56 14), (.region (r 132 4 1)), (c 132 6), (.region (r 60 4 2)), .ret, (.region (r 16 5270 3)), (c 16 7318), .skip, (c 16 918), (c 16 150), .skip, (c 16 30), (.region (r 4 22 1)), (c 4 30)]
theorem h127 : codesSt s127.fr s127.cs s127.ls = k127 := by kernel_rfl
/-- the memory behind piece 128 -/
def g128 : T Blk := upd [(80767, (ce [(I 2), (I 0)])), (80765, (ce [(I 1), (I 0), q99, (I 2), (I 0), q36, (I 3), (I 0), q37])), (80768, (ce [(U 80765 0 3 3), (U 80767 0 1 2)]))] (del [79555, 79557, 79556, 80212] g127)
/-- the state behind piece 128; its texts -/
def s128 : St :=
⟨⟨⟨56, 300, false, none⟩,
  (n z195 (n (I 0) (n (A 79553 0) (n (I 0) (m (o (A 79553 0)) e) (m (o z197) e)) (m (m (o (I 0)) e) (o (A 79553 3)))) (m (n tt (m (o (A 79553 5)) e) (m (o tt) e)) (m (m (o (A 79553 11)) e) e))) (n (I 0) (m (n (A 80768 0) (m (o z194) e) (m (o z196) e)) (m (m (o (I 0)) e) (o ff))) (n (A 79554 0) (m (m (o (I 47)) e) (o (A 79553 0))) (m (m (o (U 79547 0 1 6)) e) (o z197))))),
  [.code (c 56 14)], [], .run⟩,
 [⟨⟨132, 25, false, none⟩,
  y105,
  [.reg (r 132 4 1), .code (c 132 6)], [], .run⟩,
 ⟨⟨60, 9, false, none⟩,
  y106,
  [.reg (r 60 4 2), .code .ret], [], .run⟩,
 ⟨⟨16, 45, false, none⟩,
  y107,
  [.reg (r 16 5270 3), .code (c 16 7318), .inBlock 1, .code (c 16 918), .inLoop (c 16 150), .inBlock 0, .code (c 16 30)], [], .run⟩,
 ⟨⟨4, 120, false, none⟩,
  y64,
  [.reg (r 4 22 1), .code (c 4 30)], [], .run⟩],
 ⟨(p 80769), g128⟩,
 []⟩
def k128 : List (IC Blk) := [(c 56 14), (.region (r 132 4 1)), (c 132 6), (.region (r 60 4 2)), .ret, (.region (r 16 5270 3)), (c 16 7318), .skip, (c 16 918), (c 16 150), .skip, (c 16 30), (.region (r 4 22 1)), (c 4 30)]
theorem h128 : codesSt s128.fr s128.cs s128.ls = k128 := by kernel_rfl
/-- the memory behind piece 129 -/
def g129 : T Blk := upd [(80771, (ce [(U 79466 0 258 1), ns, (I 0), ff])), (80773, (ce [ns, ns, ns, ns, (I 12), (I 48), ff])), (80772, (ce [ns, ns])), (81428, (ce [(I 7), (I 2), (I 8), (I 2), (I 44), (I 11), (I 45), (I 11), (I 46), (I 11), (I 47), (I 11)])), (80770, (ce [ns, ns]))] (del [80768, 79468, 80765, 79548, 80767, 79551, 79550] g128)
/-- the state behind piece 129; its texts -/
def s129 : St :=
⟨⟨⟨119, 207, false, none⟩,
  (n z194 (n (I 47) (n (I 48) (n (A 80771 0) (n ff (o (I 1)) (o (.tup [(U 81428 0 6 2), tt]))) (m (o (I 48)) e)) (m (m (o tt) (o (U 81428 0 6 2))) (m (o (I 12)) e))) (n (I 0) (m (n (U 81428 0 6 2) (o ff) (o (I 47))) (m (o ff) e)) (m (m (o ff) e) (m (o (.agg [ns, ns, ns, ns, (I 12), (I 48), ff])) e)))) (n (I 12) (n (I 0) (m (n (A 80773 0) (o ff) (o z194)) (m (o ff) e)) (m (m (o ff) (o tt)) (m (o (I 48)) e))) (n (U 79547 0 1 6) (m (n tt (o (I 12)) (o (.tup [(U 81428 0 6 2), tt]))) e) (n (A 80772 0) (m (o ff) e) (n (U 79547 0 1 6) (o (A 80773 0)) e))))),
  [.code (c 119 30)], [], .run⟩,
 [⟨⟨56, 300, false, none⟩,
  (n z195 (n (I 0) (n (A 79553 0) (n (I 0) (m (n (A 79553 0) (o (I 48)) e) (o (I 12))) (m (o z197) (o (A 79553 5)))) (n (A 80769 0) (m (n (I 0) (o (U 79547 0 1 6)) e) (o z195)) (n (A 79553 3) (o ff) (o (I 0))))) (m (n tt (m (n (A 79553 5) (o (I 0)) e) (o ff)) (m (o tt) (o (I 12)))) (m (m (o (A 79553 11)) (o (A 79553 0))) (m (o (A 79553 4)) (o (A 79553 7)))))) (n (I 0) (m (n (A 80768 0) (m (n z194 (o (I 0)) e) (o (I 12))) (m (o z196) (o (I 47)))) (n (A 80770 0) (m (o (I 0)) e) (n ff e (o (I 2))))) (n (A 79554 0) (n (I 12) (m (n (I 47) (o (A 79553 11)) e) e) (n (A 79553 0) (o tt) (o (A 79553 6)))) (m (m (o (U 79547 0 1 6)) (o z194)) (n z197 (o (I 11)) (o (I 46))))))),
  [.reg (r 56 382 21), .code (c 56 510)], [], .run⟩,
 ⟨⟨132, 25, false, none⟩,
  y105,
  [.reg (r 132 4 1), .code (c 132 6)], [], .run⟩,
 ⟨⟨60, 9, false, none⟩,
  y106,
  [.reg (r 60 4 2), .code .ret], [], .run⟩,
 ⟨⟨16, 45, false, none⟩,
  y107,
  [.reg (r 16 5270 3), .code (c 16 7318), .inBlock 1, .code (c 16 918), .inLoop (c 16 150), .inBlock 0, .code (c 16 30)], [], .run⟩,
 ⟨⟨4, 120, false, none⟩,
  y64,
  [.reg (r 4 22 1), .code (c 4 30)], [], .run⟩],
 ⟨(p 81429), g129⟩,
 []⟩
def k129 : List (IC Blk) := [(c 119 30), (.region (r 56 382 21)), (c 56 510), (.region (r 132 4 1)), (c 132 6), (.region (r 60 4 2)), .ret, (.region (r 16 5270 3)), (c 16 7318), .skip, (c 16 918), (c 16 150), .skip, (c 16 30), (.region (r 4 22 1)), (c 4 30)]
theorem h129 : codesSt s129.fr s129.cs s129.ls = k129 := by kernel_rfl
/-- the memory behind piece 130 -/
def g130 : T Blk := upd [(82204, (ce [(U 82202 0 258 1), ns, (I 0), ff, (I 12), (I 51), (I 0), (I 50), (I 1), (I 1), (I 1), (U 79547 0 1 6)])), (82202, (ce [q0, q4, q5, q6, q7, q8, q16, q17, q18, q19, q20, q21, q22, q23, q24, q25, q28, q29, q30, q31, q32, q33, q34, q35, q38, q39, q40, q41, q42, q43, q44, q45, q46, q47, q48, q49, q50, q51, q52, q53, q61, q62, q63, q64, q65, q66, q67, q68, q69, q70, q71, q72, q0, q0, q0, q0, q0, q0, q0, q0, q0, q0, q0, q0, q0, q0, q0, q0, q0, q0, q0, q0, q0, q0, q0, q0, q0, q0, q0, q0, q0, q0, q0, q0, q0, q0, q0, q0, q0, q0, q0, q0, q0, q0, q0, q0, q0, q0, q0, q0, q0, q0, q0, q0, q0, q0, q0, q0, q0, q0, q0, q0, q0, q0, q0, q0, q0, q0, q0, q0, q0, q0, q0, q0, q0, q0, q0, q0, q0, q0, q0, q0, q0, q0, q0, q0, q0, q0, q0, q0, q0, q0, q0, q0, q0, q0, q0, q0, q0, q0, q0, q0, q0, q0, q0, q0, q0, q0, q0, q0, q0, q0, q0, q0, q0, q0, q0, q0, q0, q0, q0, q0, q0, q0, q0, q0, q0, q0, q0, q0, q0, q0, q0, q0, q0, q0, q0, q0, q0, q0, q0, q0, q0, q0, q0, q0, q0, q0, q0, q0, q0, q0, q0, q0, q0, q0, q0, q0, q0, q0, q0, q0, q0, q0, q0, q0, q0, q0, q0, q0, q0, q0, q0, q0, q0, q0, q0, q0, q0, q0, q0, q0, q0, q0, q0, q0, q0, q0, q0, q0, q0, q0, q0, q0, q0, q0, q0, q0, q0, q0, q0, q0, q0, q0, q0, q0, q0, q0]))] (del [79553, 79552, 76736, 80771, 80770, 79554, 80773, 80772, 76811, 81428, 79466, 79549] g129)
/-- the state behind piece 130; its texts -/
def s130 : St :=
⟨⟨⟨16, 45, false, none⟩,
  (n z131 (n (A 52634 0) (n (U 79472 0 9 3) (n (I 0) (n (U 52655 0 9 3) (o (U 79472 0 9 3)) e) (n tt (o (I 0)) e)) (n (.tup [(U 52655 0 9 3), (I 0)]) (n tt (o (U 79472 0 9 3)) e) (n (U 76736 0 9 3) (o z192) e))) (n (I 10) (n z131 (n (I 10) (o z199) e) (n (I 10) (o ff) e)) (n (I 0) (n (I 0) (o z199) e) (o (I 20))))) (n (A 52635 0) (n (I 0) (n (.tup [(U 52655 0 9 3), (I 0)]) (n z132 (o (I 0)) e) (n (I 9) (o (I 0)) e)) (n (U 52655 0 9 3) (n (A 52634 6) (o z195) e) (o (I 10)))) (n (A 82204 0) (n (S 52008 0 9 9) (n tt (o z192) e) (o (.tup [(U 79472 0 9 3), (I 0)]))) (n z131 (n tt (o z198) e) (o (.tup [(U 79472 0 9 3), (I 0)])))))),
  [.code (c 16 7318), .inBlock 1, .code (c 16 918), .inLoop (c 16 150), .inBlock 0, .code (c 16 30)], [], .run⟩,
 [⟨⟨4, 120, false, none⟩,
  y64,
  [.reg (r 4 22 1), .code (c 4 30)], [], .run⟩],
 ⟨(p 82205), g130⟩,
 []⟩
def k130 : List (IC Blk) := [(c 16 7318), .skip, (c 16 918), (c 16 150), .skip, (c 16 30), (.region (r 4 22 1)), (c 4 30)]
theorem h130 : codesSt s130.fr s130.cs s130.ls = k130 := by kernel_rfl
def y108 : T V := (n z201 (n (I 0) (n (A 82289 0) (n (I 0) (m (o (A 82289 0)) e) e) (m (m (o (I 0)) e) (o (A 82289 3)))) (m (m (m (o (A 82289 5)) e) e) (m (m (o (A 82289 11)) e) e))) (n (I 0) (m (m (m (o z200) e) e) (m (m (o (I 0)) e) (o ff))) (n (A 82290 0) (m (m (o (I 51)) e) (o (A 82289 0))) (m (m (o (U 82283 0 1 6)) e) e))))
def y109 : T V := (n z201 (n z201 (o (A 82287 0)) (n (I 0) (o z201) e)) (n (A 82286 0) (o (A 82288 0)) e))
def y110 : T V := (n z201 (n (A 82284 0) (o (I 0)) (o z201)) (n (A 82285 0) (o z201) e))
def y111 : T V := (n z131 (n (A 52634 0) (n (U 82208 0 9 3) (n (I 0) (n (U 52655 0 9 3) (o (U 82208 0 9 3)) e) (n tt (o (I 0)) e)) (n (.tup [(U 52655 0 9 3), (I 0)]) (n tt (o (U 82208 0 9 3)) e) (n (U 79472 0 9 3) (o z198) e))) (n (I 11) (n z131 (n (I 11) (o z199) e) (n (I 11) (o ff) e)) (n (I 0) (n (I 0) (o z199) e) (o (I 21))))) (n (A 52635 0) (n (I 0) (n (.tup [(U 52655 0 9 3), (I 0)]) (n z132 (o (I 0)) e) (n (I 10) (o (I 0)) e)) (n (U 52655 0 9 3) (n (A 52634 6) (o z201) e) (o (I 11)))) (n (A 82204 0) (n (S 52008 0 9 9) (n tt (o z198) e) (o (.tup [(U 82208 0 9 3), (I 0)]))) (n z131 (n tt (o z198) e) (o (.tup [(U 82208 0 9 3), (I 0)]))))))
/-- the memory behind piece 131 -/
def g131 : T Blk := upd [(82287, (ce [(U 82202 0 258 1), ns, (I 0), ff, (I 12), (I 51), (I 0), (I 50), (I 1), (I 1), (I 1), (U 82283 0 1 6)])), (82423, (ce [(I 49), (I 12)])), (82291, (ce [(U 82202 0 258 1), ns, (I 0), ff])), (82763, (ce [(I 1), (I 0), q114, (I 1), (I 1), q2, (I 2), (I 0), q3])), (82283, (ce [(I 1), (I 0), (I 0), (I 0), (I 0), (U 82208 0 9 3)])), (82785, (ce [ff, tt, tt, ff, ff, ff, ff, ff, ff, ff])), (82289, (ce [(U 82202 0 258 1), ns, (I 0), ff, (I 12), (I 51), (I 0), (I 50), (I 1), (I 1), (I 1), (U 82283 0 1 6)])), (82293, (ce [ns, ns, ns, ns, (I 0), (I 0), ff])), (82765, (ce [(I 48), (I 12), (I 7), (I 2), (I 8), (I 2)])), (82381, (ce [(I 51), (I 12), (I 50), (I 12)])), (82285, (ce [ns, ns, (I 0), ff, (I 0), (I 0), (I 0), (I 0), (I 0), (I 0), (I 0), ns])), (82208, (ce [(I 2), (I 21), q2, (I 1), (I 6), q1, (I 0), (I 0), q1, (I 0), (I 0), q1, (I 0), (I 0), q1, (I 0), (I 0), q1, (I 0), (I 0), q1, (I 0), (I 0), q1, (I 0), (I 0), q1])), (82288, (ce [ns, ns, (I 0), ff, (I 0), (I 0), (I 0), (I 0), (I 0), (I 0), (I 0), ns])), (82296, (ce [(I 0), (I 0), ns, ns, ns, ns, ns])), (82292, (ce [ns, ns])), (82284, (ce [(U 82202 0 258 1), ns, (I 0), ff, (I 12), (I 51), (I 0), (I 50), (I 1), (I 1), (I 1), (U 82283 0 1 6)])), (82770, (ce [(I 0), (I 0), (I 1), (I 0), (I 0), (I 0), (I 0), (I 0), (I 0), (I 0)])), (82290, (ce [ns, ns, (I 0), ff, (I 0), (I 0), (I 0), (I 0), (I 0), (I 0), (I 0), ns])), (52634, (ce [(U 82202 0 258 1), ns, (I 0), ff, (I 12), (I 51), (I 0), (I 50), (I 1), (I 1), (I 1), (U 79547 0 1 6)])), (82490, (ce [(I 1), (I 0), (I 0), (I 0), (I 0)])), (82766, (ce [(I 2), (I 20), q2, (I 1), (I 6), q1, (I 0), (I 0), q1, (I 0), (I 0), q1, (I 0), (I 0), q1, (I 0), (I 0), q1, (I 0), (I 0), q1, (I 0), (I 0), q1, (I 0), (I 0), q1])), (82382, (ce [(I 1), (I 1), ns, ns, ns, ns, (U 82381 0 2 2)])), (82286, (ce [(U 82202 0 258 1), ns, (I 0), ff, (I 12), (I 51), (I 0), (I 50), (I 1), (I 1), (I 1), (U 82283 0 1 6)]))] (del [] g130)
/-- the state behind piece 131; its texts -/
def s131 : St :=
⟨⟨⟨90, 180, false, none⟩,
  (n (S 82766 0 9 9) (m (n (S 82770 0 10 10) (n tt (m (n (I 8) (o (U 82773 0 1 2)) (o (I 1))) (n tt (o ff) (o (I 1)))) (n (I 2) (n tt (o (A 82770 2)) (o ff)) (n ff (o (S 82785 0 10 10)) e))) (n (I 2) (n ff (n (A 82766 24) (o (I 2)) (o ns)) (n (.tup [(U 82773 0 1 2), tt]) (o (I 0)) (o (A 82792 0)))) (n (I 9) (n ff (o ff) (o tn)) (n ff (o (I 0)) e)))) (n (A 82784 0) (n (S 82785 0 10 10) (n (I 9) (n (S 82766 0 9 9) (o (A 82773 0)) (o (S 82766 0 9 9))) (n (A 82771 2) (o (A 82777 2)) (o (U 82792 0 1 2)))) (n ff (n (.agg [(I 0), (I 0), q1]) (o (I 6)) (o tn)) (n (U 82773 0 1 2) (o (I 1)) e))) (n (I 0) (n (A 82766 0) (n (A 82784 0) (o (I 0)) (o ns)) (n tt (o ff) (o (I 2)))) (n (I 9) (n tt (o (I 6)) (o ff)) (n (I 1) (o (I 2)) e))))) (n ff (n (I 9) (n (I 1) (n (S 82766 0 9 9) (n (I 9) (o (I 0)) (o (I 2))) (n (.tup [(U 82773 0 1 2), tt]) (o ff) (o (S 82785 0 10 10)))) (n ff (n tt (o (A 82777 1)) (o ff)) (n (I 1) (o (A 82785 1)) e))) (n ns (n (S 82766 0 9 9) (n (.agg [(I 0), (I 0), q1]) (o (A 82770 2)) (o (I 0))) (n (U 82773 0 1 2) (o ff) (o (A 82792 1)))) (n (S 82766 0 9 9) (n tt (o (A 82777 1)) (o tn)) (n (I 0) (o (I 1)) e)))) (n (U 82773 0 1 2) (n (I 1) (n ff (n (I 8) (o (A 82773 1)) (o (I 2))) (n q2 (o q1) (o (I 0)))) (n (S 82770 0 10 10) (n (.agg [(I 0), (I 0), q1]) (o ff) (o tn)) (n (I 1) (o tt) e))) (m (n (A 82766 0) (n (I 0) (o (I 1)) (o (I 0))) (n tt (o (S 82785 0 10 10)) (o (A 82785 2)))) (n ff (n tt (o ff) (o (I 0))) (n (S 82770 0 10 10) (o tt) e)))))),
  [.code (c 90 51979454), .code (c 90 26813630), .inLoop (c 90 10036414), .inBlock 9, .inBlock 8, .code (c 90 468158), .inLoop (c 90 74942), .inBlock 7, .inBlock 6, .code (c 90 7358), .inLoop (c 90 1214), .inBlock 5, .code (c 90 254)], [], .run⟩,
 [⟨⟨195, 80, false, none⟩,
  (n (U 82763 0 3 3) (m (n ff (n (S 82766 0 9 9) (n (I 2) (n (I 3) (o q1) e) (o (u8 6))) (n (I 2) (o (I 2)) (o (I 1)))) (n ff (n (I 2) (n (I 2) (o (A 82766 0)) e) (o (A 82766 3))) (n (I 0) (o (u8 1)) (o (I 1))))) (n (I 3) (n (U 82763 0 3 3) (n (.agg [(I 2), (I 0), q3]) (n (S 82766 0 9 9) (o q2) e) (o (A 82766 3))) (n ff (o (A 82769 2)) (o (S 82766 0 9 9)))) (n (I 3) (n ff (n (S 82766 0 9 9) (o (S 82766 0 9 9)) e) (o (S 82766 0 9 9))) (n (A 82769 2) (o (A 82769 2)) (o (A 82766 0)))))) (n ns (n (S 82766 0 9 9) (n (I 3) (n (A 82763 6) (n ff (o (A 82768 2)) e) (o (I 6))) (n ff (o (I 1)) (o (I 0)))) (n (I 2) (n ff (n (I 1) (o (A 82766 2)) e) (o (A 82766 4))) (n tt (o (I 1)) (o (I 0))))) (n (A 82769 0) (n (I 3) (n (A 82769 0) (n (A 82769 0) (o q2) e) (o (A 82766 3))) (n (A 82769 1) (o q3) (o (A 82768 0)))) (n (U 82763 0 3 3) (n (A 82769 0) (o (A 82769 0)) (o (A 82768 0))) (n q3 (o q3) (o (A 82766 2))))))),
  [.reg (r 195 38 1), .code (c 195 54), .code (c 195 30)], [], .run⟩,
 ⟨⟨123, 134, false, none⟩,
  (n z200 (n (I 51) (m (n tt (n (A 82490 0) (n (.agg [(I 4), (I 12), q14]) (o (U 82335 0 1 2)) (o (U 82763 0 3 3))) (n (U 82335 0 1 2) (o tt) e)) (n (I 51) (m (o tt) e) (m (o (U 82764 0 3 3)) e))) (n (A 82382 0) (n (U 82763 0 3 3) (n (U 82335 0 1 2) (o (I 12)) e) (n (U 82335 0 1 2) (o (.tup [(U 82764 0 3 3), (U 82765 0 3 2), (U 82763 0 3 3), tt])) e)) (n tt (n (A 82329 1) (o (.agg [(I 3), (I 12), q59])) e) (n (I 0) (o tt) e)))) (n ff (n (I 1) (n (U 82764 0 3 3) (n (I 1) (o (A 82335 0)) e) (n (.agg [(I 1), (I 1), ns, ns, ns, ns, (U 82381 0 2 2)]) (o ff) e)) (n (.agg [(I 4), (I 12), q14]) (o (I 1)) (n z200 (o (U 82763 0 3 3)) e))) (n (A 82383 0) (n z92 (n tt (o (.agg [(I 3), (I 12), q59])) e) (n tt (o (U 82423 0 1 2)) e)) (m (n (.agg [(I 51), (I 12)]) (o z2) e) (o (A 82335 0)))))) (n (A 82295 0) (n (A 82296 0) (n (I 1) (n (U 82423 0 1 2) (n (.tup [(I 1), (I 1), (U 82335 0 1 2), tt]) (o (I 0)) e) (n (U 82381 0 2 2) (o tt) e)) (n z92 (n (I 1) (o ff) e) (n z93 (o (U 82765 0 3 2)) e))) (n (I 0) (m (n tt (o z93) e) (n (I 1) (o z200) e)) (n ff (n (I 12) (o (.tup [z2, (U 82423 0 1 2), tt])) e) (n (A 82335 0) (o ff) e)))) (n (A 82329 0) (n (U 82335 0 1 2) (n (U 82765 0 3 2) (n (I 1) (o (A 82335 1)) e) (o (I 0))) (n tt (n (I 51) (o (.tup [z2, (U 82423 0 1 2), tt])) e) (n (U 82335 0 1 2) (o tt) e))) (n tt (n z200 (n ff (o tt) e) (m (o (.tup [(U 82764 0 3 3), (U 82765 0 3 2), (U 82763 0 3 3), tt])) e)) (n (.tup [(I 1), (I 1), (U 82335 0 1 2), tt]) (n (S 82380 0 1 1) (o (U 82423 0 1 2)) e) (o (I 50))))))),
  [.reg (r 123 1565886 1), .code (c 123 2090174), .inBlock 1, .code (c 123 7358), .inLoop (c 123 1214), .inBlock 0, .code (c 123 254)], [], .run⟩,
 ⟨⟨63, 33, false, none⟩,
  (n z200 (n (I 51) (m e (o z200)) (o ff)) (n (A 82294 0) (n ns e (o (I 51))) e)),
  [.reg (r 63 4 2), .code (c 63 6)], [], .run⟩,
 ⟨⟨119, 207, false, none⟩,
  (n z200 (n (I 51) (n (I 0) (n (A 82291 0) (n ff (o (I 1)) e) (m (o (I 0)) e)) (m (m (o tt) e) (m (o (I 0)) e))) (n (I 0) (m (m (o ff) (o (I 51))) (m (o ff) e)) (m (m (o ff) e) (m (o z9) e)))) (n (I 0) (n (I 0) (m (n (A 82293 0) (o ff) (o z200)) (m (o ff) e)) (m (m (o ff) e) (m (o (I 0)) e))) (n (U 82283 0 1 6) (m (m (o (I 0)) e) e) (n (A 82292 0) (m (o ff) e) (n (U 82283 0 1 6) (o (A 82293 0)) e))))),
  [.reg (r 119 22 2), .code (c 119 30)], [], .run⟩,
 ⟨⟨56, 300, false, none⟩,
  y108,
  [.reg (r 56 10 8), .code (c 56 14)], [], .run⟩,
 ⟨⟨132, 25, false, none⟩,
  y109,
  [.reg (r 132 4 1), .code (c 132 6)], [], .run⟩,
 ⟨⟨60, 9, false, none⟩,
  y110,
  [.reg (r 60 4 2), .code .ret], [], .run⟩,
 ⟨⟨16, 45, false, none⟩,
  y111,
  [.reg (r 16 5270 3), .code (c 16 7318), .inBlock 1, .code (c 16 918), .inLoop (c 16 150), .inBlock 0, .code (c 16 30)], [], .run⟩,
 ⟨⟨4, 120, false, none⟩,
  y64,
  [.reg (r 4 22 1), .code (c 4 30)], [], .run⟩],
 ⟨(p 82796), g131⟩,
 []⟩
def k131 : List (IC Blk) := [(c 90 51979454), (c 90 26813630), (c 90 10036414), .skip, .skip, (c 90 468158), (c 90 74942), .skip, .skip, (c 90 7358), (c 90 1214), .skip, (c 90 254), (.region (r 195 38 1)), (c 195 54), (c 195 30), (.region (r 123 1565886 1)), (c 123 2090174), .skip, (c 123 7358), (c 123 1214), .skip, (c 123 254), (.region (r 63 4 2)), (c 63 6), (.region (r 119 22 2)), (c 119 30), (.region (r 56 10 8)), (c 56 14), (.region (r 132 4 1)), (c 132 6), (.region (r 60 4 2)), .ret, (.region (r 16 5270 3)), (c 16 7318), .skip, (c 16 918), (c 16 150), .skip, (c 16 30), (.region (r 4 22 1)), (c 4 30)]
theorem h131 : codesSt s131.fr s131.cs s131.ls = k131 := by kernel_rfl
/-- the memory behind piece 132 -/
def g132 : T Blk := upd [(83169, (ce [(I 7), (I 2), (I 8), (I 2), (I 48), (I 12), (I 49), (I 12), (I 50), (I 12), (I 51), (I 12)])), (82293, (ce [ns, ns, (U 83169 0 6 2), (U 83170 0 6 3), (I 0), (I 0), ff])), (83170, (ce [(I 1), (I 2), q26, (I 1), (I 2), q27, (I 1), (I 12), q99, (I 2), (I 12), q115, (I 3), (I 12), q59, (I 4), (I 12), q14]))] (del [82763, 82381, 82765, 82382, 82766, 82770, 82785, 82291, 82423, 82296, 82490] g131)
/-- the state behind piece 132; its texts -/
def s132 : St :=
⟨⟨⟨119, 207, false, none⟩,
  (n z200 (n (I 51) (n (I 0) (n (A 82291 0) (n ff (n (I 1) (n (A 82948 10) (o tt) e) (o (A 82293 0))) (n (.tup [(U 82948 0 6 2), tt]) (o (A 82948 10)) (o (U 83170 0 6 3)))) (m (n (I 0) (o z92) (o (S 83167 0 1 1))) (n (I 6) (o (A 82948 10)) (o tt)))) (m (n (I 6) (n tt (o (I 5)) (o (U 82948 0 6 2))) (n (U 82948 0 6 2) (o ff) (o (A 82293 3)))) (m (n (I 0) (o tt) (o (A 82293 3))) (n z92 (o tt) (o (I 0)))))) (n (I 0) (m (n (U 82948 0 6 2) (n ff (o (I 51)) (o (A 82293 2))) (n (I 51) (o (I 0)) (o (A 82293 2)))) (m (n ff (o tt) (o (A 82293 0))) (n (I 5) (o (I 0)) e))) (m (n tt (n ff (o (A 82948 11)) (o (A 82948 10))) (n (I 6) (o (I 5)) (o (U 82283 0 1 6)))) (m (n z9 (o (I 5)) (o (.agg [(I 4), (I 12), q14]))) (n (U 82948 0 6 2) (o (A 82293 0)) (o (A 82283 5))))))) (n (I 0) (n (I 0) (m (n (A 82293 0) (n ff (n (A 82948 10) (o ff) e) (o (A 82293 0))) (n z200 (o (I 51)) (o (A 82293 0)))) (m (n ff (o (.agg [(I 4), (I 12), q14])) (o (U 83169 0 6 2))) (n ff (o (I 51)) e))) (m (n (A 83134 0) (n ff (o (A 82948 10)) (o (I 5))) (n tt (o (U 82948 0 6 2)) (o (I 0)))) (m (n (I 0) (o (U 82948 0 6 2)) (o (U 83133 0 5 3))) (n z200 (o tt) (o (A 82283 0)))))) (n (U 82283 0 1 6) (m (n tt (n (I 0) (o (U 82948 0 6 2)) (o (U 83132 0 5 2))) (n (.tup [(U 82948 0 6 2), tt]) (o ff) (o (A 82293 0)))) (m (m (o tt) (o (A 82293 0))) (n (I 6) (o tt) (o (U 82283 0 1 6))))) (n (A 82292 0) (n (I 0) (n ff (o (I 12)) (o (.agg [(I 51), (I 12)]))) (n (U 82948 0 6 2) (o (A 82948 10)) (o (I 1)))) (n (U 82283 0 1 6) (n (A 82293 0) (o (A 82948 10)) (o (S 83168 0 1 1))) (n (I 5) (o (A 82293 0)) (o (U 82208 0 9 3)))))))),
  [.code (c 119 25182), .code (c 119 12894), .inBlock 3, .code (c 119 3678), .inLoop (c 119 606), .inBlock 2, .code (c 119 126)], [], .run⟩,
 [⟨⟨56, 300, false, none⟩,
  y108,
  [.reg (r 56 10 8), .code (c 56 14)], [], .run⟩,
 ⟨⟨132, 25, false, none⟩,
  y109,
  [.reg (r 132 4 1), .code (c 132 6)], [], .run⟩,
 ⟨⟨60, 9, false, none⟩,
  y110,
  [.reg (r 60 4 2), .code .ret], [], .run⟩,
 ⟨⟨16, 45, false, none⟩,
  y111,
  [.reg (r 16 5270 3), .code (c 16 7318), .inBlock 1, .code (c 16 918), .inLoop (c 16 150), .inBlock 0, .code (c 16 30)], [], .run⟩,
 ⟨⟨4, 120, false, none⟩,
  y64,
  [.reg (r 4 22 1), .code (c 4 30)], [], .run⟩],
 ⟨(p 83232), g132⟩,
 []⟩
def k132 : List (IC Blk) := [(c 119 25182), (c 119 12894), .skip, (c 119 3678), (c 119 606), .skip, (c 119 126), (.region (r 56 10 8)), (c 56 14), (.region (r 132 4 1)), (c 132 6), (.region (r 60 4 2)), .ret, (.region (r 16 5270 3)), (c 16 7318), .skip, (c 16 918), (c 16 150), .skip, (c 16 30), (.region (r 4 22 1)), (c 4 30)]
theorem h132 : codesSt s132.fr s132.cs s132.ls = k132 := by kernel_rfl
def y112 : T V := (n z201 (n (I 0) (n (A 82289 0) (n (I 0) (m (n (A 82289 0) (o (I 52)) e) (o (I 13))) (m (o z203) (o (A 82289 5)))) (n (A 83505 0) (m (n (I 0) (o (U 82283 0 1 6)) e) (o z201)) (n (A 82289 3) (o ff) (o (I 0))))) (m (n tt (m (n (A 82289 5) (o (I 0)) e) (o ff)) (m (o tt) (o (I 13)))) (m (m (o (A 82289 11)) (o (A 82289 0))) (m (o (A 82289 4)) (o (A 82289 7)))))) (n (I 0) (m (n (A 83504 0) (m (n z200 (o (I 0)) e) (o (I 13))) (m (o z202) (o (I 51)))) (n (A 83506 0) (m (o (I 0)) e) (n ff e (o (I 2))))) (n (A 82290 0) (n (I 13) (m (n (I 51) (o (A 82289 11)) e) e) (n (A 82289 0) (o tt) (o (A 82289 6)))) (m (m (o (U 82283 0 1 6)) (o z200)) (n z203 (o (I 12)) (o (I 50)))))))
/-- the memory behind piece 133 -/
def g133 : T Blk := upd [(83503, (ce [(I 2), (I 0)])), (83639, (ce [(I 49), (I 12)])), (83507, (ce [(U 82202 0 258 1), ns, (I 0), ff])), (83979, (ce [(I 1), (I 0), q114, (I 1), (I 1), q2, (I 2), (I 0), q3])), (83505, (ce [(U 82202 0 258 1), ns, (I 0), ff, (I 12), (I 51), (I 0), (I 50), (I 1), (I 1), (I 1), (U 82283 0 1 6)])), (83509, (ce [ns, ns, ns, ns, (I 13), (I 52), ff])), (83981, (ce [(I 48), (I 12), (I 7), (I 2), (I 8), (I 2)])), (83597, (ce [(I 51), (I 12), (I 50), (I 12)])), (83501, (ce [(I 1), (I 0), q130, (I 2), (I 0), q36, (I 3), (I 0), q37])), (83504, (ce [(U 83501 0 3 3), (U 83503 0 1 2)])), (83512, (ce [(I 0), (I 0), ns, ns, ns, ns, ns])), (83508, (ce [ns, ns])), (83506, (ce [ns, ns])), (83706, (ce [(I 1), (I 0), (I 0), (I 0), (I 0)])), (83598, (ce [(I 1), (I 1), ns, ns, ns, ns, (U 83597 0 2 2)]))] (del [83169, 83170, 82293, 82292] g132)
/-- the state behind piece 133; its texts -/
def s133 : St :=
⟨⟨⟨123, 134, false, none⟩,
  (n z200 (n (I 51) (m (n tt (n (A 83706 0) (n (.agg [(I 4), (I 12), q14]) (o (U 83551 0 1 2)) e) (n (U 83551 0 1 2) (o tt) e)) (n (I 51) (m (o tt) e) (m (o (U 83980 0 3 3)) e))) (n (A 83598 0) (n (U 83979 0 3 3) (n (U 83551 0 1 2) (o (I 12)) e) (n (U 83551 0 1 2) (o (.tup [(U 83980 0 3 3), (U 83981 0 3 2), (U 83979 0 3 3), tt])) e)) (n tt (n (A 83545 1) (o (.agg [(I 3), (I 12), q59])) e) (o (I 0))))) (n ff (n (I 1) (n (U 83980 0 3 3) (n (I 1) (o (A 83551 0)) e) (n (.agg [(I 1), (I 1), ns, ns, ns, ns, (U 83597 0 2 2)]) (o ff) e)) (n (.agg [(I 4), (I 12), q14]) (o (I 1)) (n z200 (o (U 83979 0 3 3)) e))) (n (A 83599 0) (n z92 (n tt (o (.agg [(I 3), (I 12), q59])) e) (n tt (o (U 83639 0 1 2)) e)) (m (n (.agg [(I 51), (I 12)]) (o z2) e) (o (A 83551 0)))))) (n (A 83511 0) (n (A 83512 0) (n (I 1) (n (U 83639 0 1 2) (n (.tup [(I 1), (I 1), (U 83551 0 1 2), tt]) (o (I 0)) e) (n (U 83597 0 2 2) (o tt) e)) (n z92 (n (I 1) (o ff) e) (n z93 (o (U 83981 0 3 2)) e))) (n (I 0) (m (n tt (o z93) e) (n (I 1) (o z200) e)) (n ff (n (I 12) (o (.tup [z2, (U 83639 0 1 2), tt])) e) (o (A 83551 0))))) (n (A 83545 0) (n (U 83551 0 1 2) (n (U 83981 0 3 2) (n (I 1) (o (A 83551 1)) e) (o (I 0))) (n tt (n (I 51) (o (.tup [z2, (U 83639 0 1 2), tt])) e) (n (U 83551 0 1 2) (o tt) e))) (n tt (n z200 (n ff (o tt) e) (m (o (.tup [(U 83980 0 3 3), (U 83981 0 3 2), (U 83979 0 3 3), tt])) e)) (n (.tup [(I 1), (I 1), (U 83551 0 1 2), tt]) (n (S 83596 0 1 1) (o (U 83639 0 1 2)) e) (o (I 50))))))),
  [.code (c 123 517310), .inBlock 1, .code (c 123 7358), .inLoop (c 123 1214), .inBlock 0, .code (c 123 254)], [], .run⟩,
 [⟨⟨63, 33, false, none⟩,
  (n z200 (n (I 51) (m e (o z200)) (o ff)) (n (A 83510 0) (n ns e (o (I 51))) e)),
  [.reg (r 63 4 2), .code (c 63 6)], [], .run⟩,
 ⟨⟨119, 207, false, none⟩,
  (n z200 (n (I 51) (n (I 52) (n (A 83507 0) (n ff (o (I 1)) e) (m (o (I 52)) e)) (m (m (o tt) e) (m (o (I 13)) e))) (n (I 0) (m (m (o ff) (o (I 51))) (m (o ff) e)) (m (m (o ff) e) (m (o z95) e)))) (n (I 13) (n (I 0) (m (n (A 83509 0) (o ff) (o z200)) (m (o ff) e)) (m (m (o ff) e) (m (o (I 52)) e))) (n (U 82283 0 1 6) (m (m (o (I 13)) e) e) (n (A 83508 0) (m (o ff) e) (n (U 82283 0 1 6) (o (A 83509 0)) e))))),
  [.reg (r 119 22 2), .code (c 119 30)], [], .run⟩,
 ⟨⟨56, 300, false, none⟩,
  y112,
  [.reg (r 56 382 21), .code (c 56 510)], [], .run⟩,
 ⟨⟨132, 25, false, none⟩,
  y109,
  [.reg (r 132 4 1), .code (c 132 6)], [], .run⟩,
 ⟨⟨60, 9, false, none⟩,
  y110,
  [.reg (r 60 4 2), .code .ret], [], .run⟩,
 ⟨⟨16, 45, false, none⟩,
  y111,
  [.reg (r 16 5270 3), .code (c 16 7318), .inBlock 1, .code (c 16 918), .inLoop (c 16 150), .inBlock 0, .code (c 16 30)], [], .run⟩,
 ⟨⟨4, 120, false, none⟩,
  y64,
  [.reg (r 4 22 1), .code (c 4 30)], [], .run⟩],
 ⟨(p 83982), g133⟩,
 []⟩
def k133 : List (IC Blk) := [(c 123 517310), .skip, (c 123 7358), (c 123 1214), .skip, (c 123 254), (.region (r 63 4 2)), (c 63 6), (.region (r 119 22 2)), (c 119 30), (.region (r 56 382 21)), (c 56 510), (.region (r 132 4 1)), (c 132 6), (.region (r 60 4 2)), .ret, (.region (r 16 5270 3)), (c 16 7318), .skip, (c 16 918), (c 16 150), .skip, (c 16 30), (.region (r 4 22 1)), (c 4 30)]
theorem h133 : codesSt s133.fr s133.cs s133.ls = k133 := by kernel_rfl
/-- the memory behind piece 134 -/
def g134 : T Blk := upd [(84385, (ce [(I 7), (I 2), (I 8), (I 2), (I 48), (I 12), (I 49), (I 12), (I 50), (I 12), (I 51), (I 12)])), (83509, (ce [ns, ns, (U 84385 0 6 2), (U 84386 0 6 3), (I 13), (I 52), ff])), (84386, (ce [(I 1), (I 2), q26, (I 1), (I 2), q27, (I 1), (I 12), q99, (I 2), (I 12), q115, (I 3), (I 12), q59, (I 4), (I 12), q14]))] (del [83979, 83597, 83981, 83598, 82204, 83501, 82284, 83503, 82287, 82286, 83505, 83504, 79472, 83507, 83639, 83512, 79547, 83706] g133)
/-- the state behind piece 134; its texts -/
def s134 : St :=
⟨⟨⟨119, 207, false, none⟩,
  (n z200 (n (I 51) (n (I 52) (n (A 83507 0) (n ff (n (I 1) (n (A 84164 10) (o tt) e) (o (A 83509 0))) (n (.tup [(U 84164 0 6 2), tt]) (o (A 84164 10)) (o (U 84386 0 6 3)))) (m (n (I 52) (o z92) (o (S 84383 0 1 1))) (n (I 6) (o (A 84164 10)) (o tt)))) (m (n (I 6) (n tt (o (I 5)) (o (U 84164 0 6 2))) (n (U 84164 0 6 2) (o ff) (o (A 83509 3)))) (m (n (I 13) (o tt) (o (A 83509 3))) (n z92 (o tt) (o (I 0)))))) (n (I 0) (m (n (U 84164 0 6 2) (n ff (o (I 51)) (o (A 83509 2))) (n (I 51) (o (I 0)) (o (A 83509 2)))) (m (n ff (o tt) (o (A 83509 0))) (n (I 5) (o (I 0)) e))) (m (n tt (n ff (o (A 84164 11)) (o (A 84164 10))) (n (I 6) (o (I 5)) (o (U 82283 0 1 6)))) (m (n z95 (o (I 5)) (o (.agg [(I 4), (I 12), q14]))) (n (U 84164 0 6 2) (o (A 83509 0)) (o (A 82283 5))))))) (n (I 13) (n (I 0) (m (n (A 83509 0) (n ff (n (A 84164 10) (o ff) e) (o (A 83509 0))) (n z200 (o (I 51)) (o (A 83509 0)))) (m (n ff (o (.agg [(I 4), (I 12), q14])) (o (U 84385 0 6 2))) (n ff (o (I 51)) e))) (m (n (A 84350 0) (n ff (o (A 84164 10)) (o (I 5))) (n tt (o (U 84164 0 6 2)) (o (I 0)))) (m (n (I 52) (o (U 84164 0 6 2)) (o (U 84349 0 5 3))) (n z200 (o tt) (o (A 82283 0)))))) (n (U 82283 0 1 6) (m (n tt (n (I 13) (o (U 84164 0 6 2)) (o (U 84348 0 5 2))) (n (.tup [(U 84164 0 6 2), tt]) (o ff) (o (A 83509 0)))) (m (m (o tt) (o (A 83509 0))) (n (I 6) (o tt) (o (U 82283 0 1 6))))) (n (A 83508 0) (n (I 0) (n ff (o (I 12)) (o (.agg [(I 51), (I 12)]))) (n (U 84164 0 6 2) (o (A 84164 10)) (o (I 1)))) (n (U 82283 0 1 6) (n (A 83509 0) (o (A 84164 10)) (o (S 84384 0 1 1))) (n (I 5) (o (A 83509 0)) (o (U 82208 0 9 3)))))))),
  [.code (c 119 25182), .code (c 119 12894), .inBlock 3, .code (c 119 3678), .inLoop (c 119 606), .inBlock 2, .code (c 119 126)], [], .run⟩,
 [⟨⟨56, 300, false, none⟩,
  y112,
  [.reg (r 56 382 21), .code (c 56 510)], [], .run⟩,
 ⟨⟨132, 25, false, none⟩,
  y109,
  [.reg (r 132 4 1), .code (c 132 6)], [], .run⟩,
 ⟨⟨60, 9, false, none⟩,
  y110,
  [.reg (r 60 4 2), .code .ret], [], .run⟩,
 ⟨⟨16, 45, false, none⟩,
  y111,
  [.reg (r 16 5270 3), .code (c 16 7318), .inBlock 1, .code (c 16 918), .inLoop (c 16 150), .inBlock 0, .code (c 16 30)], [], .run⟩,
 ⟨⟨4, 120, false, none⟩,
  y64,
  [.reg (r 4 22 1), .code (c 4 30)], [], .run⟩],
 ⟨(p 84448), g134⟩,
 []⟩
def k134 : List (IC Blk) := [(c 119 25182), (c 119 12894), .skip, (c 119 3678), (c 119 606), .skip, (c 119 126), (.region (r 56 382 21)), (c 56 510), (.region (r 132 4 1)), (c 132 6), (.region (r 60 4 2)), .ret, (.region (r 16 5270 3)), (c 16 7318), .skip, (c 16 918), (c 16 150), .skip, (c 16 30), (.region (r 4 22 1)), (c 4 30)]
theorem h134 : codesSt s134.fr s134.cs s134.ls = k134 := by kernel_rfl
/-- the memory behind piece 135 -/
def g135 : T Blk := upd [(84945, (ce [(U 84938 0 258 1), ns, (I 0), ff, (I 13), (I 55), (I 0), (I 54), (I 1), (I 1), (I 1), (U 82283 0 1 6)])), (84944, (ce [(I 2), (I 22), q2, (I 1), (I 6), q1, (I 0), (I 0), q1, (I 0), (I 0), q1, (I 0), (I 0), q1, (I 0), (I 0), q1, (I 0), (I 0), q1, (I 0), (I 0), q1, (I 0), (I 0), q1])), (84940, (ce [(U 84938 0 258 1), ns, (I 0), ff, (I 13), (I 55), (I 0), (I 54), (I 1), (I 1), (I 1), (U 82283 0 1 6)])), (84946, (ce [ns, ns, (I 0), ff, (I 0), (I 0), (I 0), (I 0), (I 0), (I 0), (I 0), ns])), (84938, (ce [q0, q4, q5, q6, q7, q8, q16, q17, q18, q19, q20, q21, q22, q23, q24, q25, q28, q29, q30, q31, q32, q33, q34, q35, q38, q39, q40, q41, q42, q43, q44, q45, q46, q47, q48, q49, q50, q51, q52, q53, q61, q62, q63, q64, q65, q66, q67, q68, q69, q70, q71, q72, q74, q75, q76, q77, q0, q0, q0, q0, q0, q0, q0, q0, q0, q0, q0, q0, q0, q0, q0, q0, q0, q0, q0, q0, q0, q0, q0, q0, q0, q0, q0, q0, q0, q0, q0, q0, q0, q0, q0, q0, q0, q0, q0, q0, q0, q0, q0, q0, q0, q0, q0, q0, q0, q0, q0, q0, q0, q0, q0, q0, q0, q0, q0, q0, q0, q0, q0, q0, q0, q0, q0, q0, q0, q0, q0, q0, q0, q0, q0, q0, q0, q0, q0, q0, q0, q0, q0, q0, q0, q0, q0, q0, q0, q0, q0, q0, q0, q0, q0, q0, q0, q0, q0, q0, q0, q0, q0, q0, q0, q0, q0, q0, q0, q0, q0, q0, q0, q0, q0, q0, q0, q0, q0, q0, q0, q0, q0, q0, q0, q0, q0, q0, q0, q0, q0, q0, q0, q0, q0, q0, q0, q0, q0, q0, q0, q0, q0, q0, q0, q0, q0, q0, q0, q0, q0, q0, q0, q0, q0, q0, q0, q0, q0, q0, q0, q0, q0, q0, q0, q0, q0, q0, q0, q0, q0, q0, q0, q0, q0, q0, q0, q0, q0, q0, q0, q0, q0, q0, q0, q0, q0, q0, q0, q0, q0, q0, q0, q0, q0, q0, q0, q0, q0, q0, q0, q0])), (52634, (ce [(U 84938 0 258 1), ns, (I 0), ff, (I 13), (I 55), (I 0), (I 54), (I 1), (I 1), (I 1), (U 82283 0 1 6)]))] (del [82202, 84385, 84386, 82285, 82289, 82288, 83506, 82290, 83509, 83508] g134)
/-- the state behind piece 135; its texts -/
def s135 : St :=
⟨⟨⟨37, 26, false, none⟩,
  (n z204 (n (U 84944 0 9 3) (m (o (U 84944 0 9 3)) e) (m (o ff) e)) (n (A 84945 0) (n (A 84946 0) (o tt) e) e)),
  [.code (c 37 12), .code (c 37 6)], [], .run⟩,
 [⟨⟨16, 45, false, none⟩,
  (n z131 (n (A 52634 0) (n (U 84944 0 9 3) (n (I 0) (n (U 52655 0 9 3) (o (U 84944 0 9 3)) e) (n tt (o (I 0)) e)) (n (.tup [(U 52655 0 9 3), (I 0)]) (n tt (o (U 84944 0 9 3)) e) (n (U 82208 0 9 3) (o z204) e))) (n (I 12) (n z131 (n (I 12) (o z205) e) (n (I 12) (o ff) e)) (n (I 0) (n (I 0) (o z205) e) (o (I 22))))) (n (A 52635 0) (n (I 0) (n (.tup [(U 52655 0 9 3), (I 0)]) (n z132 (o (I 0)) e) (n (I 11) (o (I 0)) e)) (n (U 52655 0 9 3) (n (A 52634 6) (o z201) e) (o (I 12)))) (n (A 84940 0) (n (S 52008 0 9 9) (n tt (o z204) e) (o (.tup [(U 84944 0 9 3), (I 0)]))) (n z131 (n tt (o z204) e) (o (.tup [(U 84944 0 9 3), (I 0)])))))),
  [.reg (r 16 5270 2), .code (c 16 7318), .inBlock 1, .code (c 16 918), .inLoop (c 16 150), .inBlock 0, .code (c 16 30)], [], .run⟩,
 ⟨⟨4, 120, false, none⟩,
  y64,
  [.reg (r 4 22 1), .code (c 4 30)], [], .run⟩],
 ⟨(p 85008), g135⟩,
 []⟩
def k135 : List (IC Blk) := [(c 37 12), (c 37 6), (.region (r 16 5270 2)), (c 16 7318), .skip, (c 16 918), (c 16 150), .skip, (c 16 30), (.region (r 4 22 1)), (c 4 30)]
theorem h135 : codesSt s135.fr s135.cs s135.ls = k135 := by kernel_rfl
def y113 : T V := (n z207 (n z207 (o (A 85023 0)) (n (I 0) (o z207) e)) (n (A 85022 0) (o (A 85024 0)) e))
def y114 : T V := (n z207 (n (A 85020 0) (o (I 0)) (o z207)) (n (A 85021 0) (o z207) e))
def y115 : T V := (n z131 (n (A 52634 0) (n (U 84944 0 9 3) (n (I 0) (n (U 52655 0 9 3) (o (U 84944 0 9 3)) e) (n tt (o (I 0)) e)) (n (.tup [(U 52655 0 9 3), (I 0)]) (n tt (o (U 84944 0 9 3)) e) (n (U 82208 0 9 3) (o z204) e))) (n (I 12) (n z131 (n (I 12) (o z205) e) (n (I 12) (o ff) e)) (n (I 0) (n (I 0) (o z205) e) (o (I 22))))) (n (A 52635 0) (n (I 0) (n (.tup [(U 52655 0 9 3), (I 0)]) (n z132 (o (I 0)) e) (n (I 11) (o (I 0)) e)) (n (U 52655 0 9 3) (n (A 52634 6) (o z207) e) (o (I 12)))) (n (A 84940 0) (n (S 52008 0 9 9) (n tt (o z204) e) (o (.tup [(U 84944 0 9 3), (I 0)]))) (n z131 (n tt (o z204) e) (o (.tup [(U 84944 0 9 3), (I 0)]))))))
/-- the memory behind piece 136 -/
def g136 : T Blk := upd [(85023, (ce [(U 84938 0 258 1), ns, (I 0), ff, (I 13), (I 55), (I 0), (I 54), (I 1), (I 1), (I 1), (U 85019 0 1 6)])), (85027, (ce [(U 84938 0 258 1), ns, (I 0), ff])), (85019, (ce [(I 1), (I 0), (I 0), (I 0), (I 0), (U 84944 0 9 3)])), (85025, (ce [(U 84938 0 258 1), ns, (I 0), ff, (I 13), (I 55), (I 0), (I 54), (I 1), (I 1), (I 1), (U 85019 0 1 6)])), (85029, (ce [ns, ns, ns, ns, (I 0), (I 0), ff])), (85021, (ce [ns, ns, (I 0), ff, (I 0), (I 0), (I 0), (I 0), (I 0), (I 0), (I 0), ns])), (85024, (ce [ns, ns, (I 0), ff, (I 0), (I 0), (I 0), (I 0), (I 0), (I 0), (I 0), ns])), (85028, (ce [ns, ns])), (85684, (ce [(I 7), (I 2), (I 8), (I 2), (I 52), (I 13), (I 53), (I 13), (I 54), (I 13), (I 55), (I 13)])), (85020, (ce [(U 84938 0 258 1), ns, (I 0), ff, (I 13), (I 55), (I 0), (I 54), (I 1), (I 1), (I 1), (U 85019 0 1 6)])), (85026, (ce [ns, ns, (I 0), ff, (I 0), (I 0), (I 0), (I 0), (I 0), (I 0), (I 0), ns])), (85022, (ce [(U 84938 0 258 1), ns, (I 0), ff, (I 13), (I 55), (I 0), (I 54), (I 1), (I 1), (I 1), (U 85019 0 1 6)]))] (del [84945, 84946] g135)
/-- the state behind piece 136; its texts -/
def s136 : St :=
⟨⟨⟨119, 207, false, none⟩,
  (n z206 (n (I 55) (n (I 0) (n (A 85027 0) (n ff (o (I 1)) (o (.tup [(U 85684 0 6 2), tt]))) (m (o (I 0)) e)) (m (m (o tt) (o (U 85684 0 6 2))) (m (o (I 0)) e))) (n (I 0) (m (n (U 85684 0 6 2) (o ff) (o (I 55))) (m (o ff) e)) (m (m (o ff) e) (m (o z9) e)))) (n (I 0) (n (I 0) (m (n (A 85029 0) (o ff) (o z206)) (m (o ff) e)) (m (m (o ff) (o tt)) (m (o (I 0)) e))) (n (U 85019 0 1 6) (m (n tt (o (I 0)) (o (.tup [(U 85684 0 6 2), tt]))) e) (n (A 85028 0) (m (o ff) e) (n (U 85019 0 1 6) (o (A 85029 0)) e))))),
  [.code (c 119 30)], [], .run⟩,
 [⟨⟨56, 300, false, none⟩,
  (n z207 (n (I 0) (n (A 85025 0) (n (I 0) (m (o (A 85025 0)) e) e) (m (m (o (I 0)) e) (o (A 85025 3)))) (m (m (m (o (A 85025 5)) e) e) (m (m (o (A 85025 11)) e) e))) (n (I 0) (m (m (m (o z206) e) e) (m (m (o (I 0)) e) (o ff))) (n (A 85026 0) (m (m (o (I 55)) e) (o (A 85025 0))) (m (m (o (U 85019 0 1 6)) e) e)))),
  [.reg (r 56 10 8), .code (c 56 14)], [], .run⟩,
 ⟨⟨132, 25, false, none⟩,
  y113,
  [.reg (r 132 4 1), .code (c 132 6)], [], .run⟩,
 ⟨⟨60, 9, false, none⟩,
  y114,
  [.reg (r 60 4 2), .code .ret], [], .run⟩,
 ⟨⟨16, 45, false, none⟩,
  y115,
  [.reg (r 16 5270 3), .code (c 16 7318), .inBlock 1, .code (c 16 918), .inLoop (c 16 150), .inBlock 0, .code (c 16 30)], [], .run⟩,
 ⟨⟨4, 120, false, none⟩,
  y64,
  [.reg (r 4 22 1), .code (c 4 30)], [], .run⟩],
 ⟨(p 85685), g136⟩,
 []⟩
def k136 : List (IC Blk) := [(c 119 30), (.region (r 56 10 8)), (c 56 14), (.region (r 132 4 1)), (c 132 6), (.region (r 60 4 2)), .ret, (.region (r 16 5270 3)), (c 16 7318), .skip, (c 16 918), (c 16 150), .skip, (c 16 30), (.region (r 4 22 1)), (c 4 30)]
theorem h136 : codesSt s136.fr s136.cs s136.ls = k136 := by kernel_rfl
/-- the memory behind piece 137 -/
def g137 : T Blk := upd [(86239, (ce [(I 2), (I 0)])), (86237, (ce [(I 1), (I 0), q100, (I 2), (I 0), q36, (I 3), (I 0), q37])), (86240, (ce [(U 86237 0 3 3), (U 86239 0 1 2)]))] (del [85027, 85029, 85028, 85684] g136)
/-- the state behind piece 137; its texts -/
def s137 : St :=
⟨⟨⟨56, 300, false, none⟩,
  (n z207 (n (I 0) (n (A 85025 0) (n (I 0) (m (o (A 85025 0)) e) (m (o z209) e)) (m (m (o (I 0)) e) (o (A 85025 3)))) (m (n tt (m (o (A 85025 5)) e) (m (o tt) e)) (m (m (o (A 85025 11)) e) e))) (n (I 0) (m (n (A 86240 0) (m (o z206) e) (m (o z208) e)) (m (m (o (I 0)) e) (o ff))) (n (A 85026 0) (m (m (o (I 55)) e) (o (A 85025 0))) (m (m (o (U 85019 0 1 6)) e) (o z209))))),
  [.code (c 56 14)], [], .run⟩,
 [⟨⟨132, 25, false, none⟩,
  y113,
  [.reg (r 132 4 1), .code (c 132 6)], [], .run⟩,
 ⟨⟨60, 9, false, none⟩,
  y114,
  [.reg (r 60 4 2), .code .ret], [], .run⟩,
 ⟨⟨16, 45, false, none⟩,
  y115,
  [.reg (r 16 5270 3), .code (c 16 7318), .inBlock 1, .code (c 16 918), .inLoop (c 16 150), .inBlock 0, .code (c 16 30)], [], .run⟩,
 ⟨⟨4, 120, false, none⟩,
  y64,
  [.reg (r 4 22 1), .code (c 4 30)], [], .run⟩],
 ⟨(p 86241), g137⟩,
 []⟩
def k137 : List (IC Blk) := [(c 56 14), (.region (r 132 4 1)), (c 132 6), (.region (r 60 4 2)), .ret, (.region (r 16 5270 3)), (c 16 7318), .skip, (c 16 918), (c 16 150), .skip, (c 16 30), (.region (r 4 22 1)), (c 4 30)]
theorem h137 : codesSt s137.fr s137.cs s137.ls = k137 := by kernel_rfl
/-- the memory behind piece 138 -/
def g138 : T Blk := upd [(86243, (ce [(U 84938 0 258 1), ns, (I 0), ff])), (86245, (ce [ns, ns, ns, ns, (I 14), (I 56), ff])), (86244, (ce [ns, ns])), (86900, (ce [(I 7), (I 2), (I 8), (I 2), (I 52), (I 13), (I 53), (I 13), (I 54), (I 13), (I 55), (I 13)])), (86242, (ce [ns, ns]))] (del [84940, 86237, 85020, 86239, 85023, 85022, 86240] g137)
/-- the state behind piece 138; its texts -/
def s138 : St :=
⟨⟨⟨119, 207, false, none⟩,
  (n z206 (n (I 55) (n (I 56) (n (A 86243 0) (n ff (o (I 1)) (o (.tup [(U 86900 0 6 2), tt]))) (m (o (I 56)) e)) (m (m (o tt) (o (U 86900 0 6 2))) (m (o (I 14)) e))) (n (I 0) (m (n (U 86900 0 6 2) (o ff) (o (I 55))) (m (o ff) e)) (m (m (o ff) e) (m (o (.agg [ns, ns, ns, ns, (I 14), (I 56), ff])) e)))) (n (I 14) (n (I 0) (m (n (A 86245 0) (o ff) (o z206)) (m (o ff) e)) (m (m (o ff) (o tt)) (m (o (I 56)) e))) (n (U 85019 0 1 6) (m (n tt (o (I 14)) (o (.tup [(U 86900 0 6 2), tt]))) e) (n (A 86244 0) (m (o ff) e) (n (U 85019 0 1 6) (o (A 86245 0)) e))))),
  [.code (c 119 30)], [], .run⟩,
 [⟨⟨56, 300, false, none⟩,
  (n z207 (n (I 0) (n (A 85025 0) (n (I 0) (m (n (A 85025 0) (o (I 56)) e) (o (I 14))) (m (o z209) (o (A 85025 5)))) (n (A 86241 0) (m (n (I 0) (o (U 85019 0 1 6)) e) (o z207)) (n (A 85025 3) (o ff) (o (I 0))))) (m (n tt (m (n (A 85025 5) (o (I 0)) e) (o ff)) (m (o tt) (o (I 14)))) (m (m (o (A 85025 11)) (o (A 85025 0))) (m (o (A 85025 4)) (o (A 85025 7)))))) (n (I 0) (m (n (A 86240 0) (m (n z206 (o (I 0)) e) (o (I 14))) (m (o z208) (o (I 55)))) (n (A 86242 0) (m (o (I 0)) e) (n ff e (o (I 2))))) (n (A 85026 0) (n (I 14) (m (n (I 55) (o (A 85025 11)) e) e) (n (A 85025 0) (o tt) (o (A 85025 6)))) (m (m (o (U 85019 0 1 6)) (o z206)) (n z209 (o (I 13)) (o (I 54))))))),
  [.reg (r 56 382 21), .code (c 56 510)], [], .run⟩,
 ⟨⟨132, 25, false, none⟩,
  y113,
  [.reg (r 132 4 1), .code (c 132 6)], [], .run⟩,
 ⟨⟨60, 9, false, none⟩,
  y114,
  [.reg (r 60 4 2), .code .ret], [], .run⟩,
 ⟨⟨16, 45, false, none⟩,
  y115,
  [.reg (r 16 5270 3), .code (c 16 7318), .inBlock 1, .code (c 16 918), .inLoop (c 16 150), .inBlock 0, .code (c 16 30)], [], .run⟩,
 ⟨⟨4, 120, false, none⟩,
  y64,
  [.reg (r 4 22 1), .code (c 4 30)], [], .run⟩],
 ⟨(p 86901), g138⟩,
 []⟩
def k138 : List (IC Blk) := [(c 119 30), (.region (r 56 382 21)), (c 56 510), (.region (r 132 4 1)), (c 132 6), (.region (r 60 4 2)), .ret, (.region (r 16 5270 3)), (c 16 7318), .skip, (c 16 918), (c 16 150), .skip, (c 16 30), (.region (r 4 22 1)), (c 4 30)]
theorem h138 : codesSt s138.fr s138.cs s138.ls = k138 := by kernel_rfl
/-- the memory behind piece 139 -/
def g139 : T Blk := upd [(87676, (ce [(U 87674 0 258 1), ns, (I 0), ff, (I 14), (I 59), (I 0), (I 58), (I 1), (I 1), (I 1), (U 85019 0 1 6)])), (87674, (ce [q0, q4, q5, q6, q7, q8, q16, q17, q18, q19, q20, q21, q22, q23, q24, q25, q28, q29, q30, q31, q32, q33, q34, q35, q38, q39, q40, q41, q42, q43, q44, q45, q46, q47, q48, q49, q50, q51, q52, q53, q61, q62, q63, q64, q65, q66, q67, q68, q69, q70, q71, q72, q74, q75, q76, q77, q78, q79, q80, q81, q0, q0, q0, q0, q0, q0, q0, q0, q0, q0, q0, q0, q0, q0, q0, q0, q0, q0, q0, q0, q0, q0, q0, q0, q0, q0, q0, q0, q0, q0, q0, q0, q0, q0, q0, q0, q0, q0, q0, q0, q0, q0, q0, q0, q0, q0, q0, q0, q0, q0, q0, q0, q0, q0, q0, q0, q0, q0, q0, q0, q0, q0, q0, q0, q0, q0, q0, q0, q0, q0, q0, q0, q0, q0, q0, q0, q0, q0, q0, q0, q0, q0, q0, q0, q0, q0, q0, q0, q0, q0, q0, q0, q0, q0, q0, q0, q0, q0, q0, q0, q0, q0, q0, q0, q0, q0, q0, q0, q0, q0, q0, q0, q0, q0, q0, q0, q0, q0, q0, q0, q0, q0, q0, q0, q0, q0, q0, q0, q0, q0, q0, q0, q0, q0, q0, q0, q0, q0, q0, q0, q0, q0, q0, q0, q0, q0, q0, q0, q0, q0, q0, q0, q0, q0, q0, q0, q0, q0, q0, q0, q0, q0, q0, q0, q0, q0, q0, q0, q0, q0, q0, q0, q0, q0, q0, q0, q0, q0, q0, q0, q0, q0, q0, q0, q0, q0, q0, q0, q0, q0, q0, q0, q0, q0, q0, q0, q0, q0]))] (del [84938, 85021, 85025, 85024, 82208, 86243, 86242, 85026, 86245, 86244, 82283, 86900] g138)
/-- the state behind piece 139; its texts -/
def s139 : St :=
⟨⟨⟨16, 45, false, none⟩,
  (n z131 (n (A 52634 0) (n (U 84944 0 9 3) (n (I 0) (n (U 52655 0 9 3) (o (U 84944 0 9 3)) e) (n tt (o (I 0)) e)) (n (.tup [(U 52655 0 9 3), (I 0)]) (n tt (o (U 84944 0 9 3)) e) (n (U 82208 0 9 3) (o z204) e))) (n (I 12) (n z131 (n (I 12) (o z211) e) (n (I 12) (o ff) e)) (n (I 0) (n (I 0) (o z211) e) (o (I 22))))) (n (A 52635 0) (n (I 0) (n (.tup [(U 52655 0 9 3), (I 0)]) (n z132 (o (I 0)) e) (n (I 11) (o (I 0)) e)) (n (U 52655 0 9 3) (n (A 52634 6) (o z207) e) (o (I 12)))) (n (A 87676 0) (n (S 52008 0 9 9) (n tt (o z204) e) (o (.tup [(U 84944 0 9 3), (I 0)]))) (n z131 (n tt (o z210) e) (o (.tup [(U 84944 0 9 3), (I 0)])))))),
  [.code (c 16 7318), .inBlock 1, .code (c 16 918), .inLoop (c 16 150), .inBlock 0, .code (c 16 30)], [], .run⟩,
 [⟨⟨4, 120, false, none⟩,
  y64,
  [.reg (r 4 22 1), .code (c 4 30)], [], .run⟩],
 ⟨(p 87677), g139⟩,
 []⟩
def k139 : List (IC Blk) := [(c 16 7318), .skip, (c 16 918), (c 16 150), .skip, (c 16 30), (.region (r 4 22 1)), (c 4 30)]
theorem h139 : codesSt s139.fr s139.cs s139.ls = k139 := by kernel_rfl
def y116 : T V := (n z213 (n (I 0) (n (A 87761 0) (n (I 0) (m (o (A 87761 0)) e) e) (m (m (o (I 0)) e) (o (A 87761 3)))) (m (m (m (o (A 87761 5)) e) e) (m (m (o (A 87761 11)) e) e))) (n (I 0) (m (m (m (o z212) e) e) (m (m (o (I 0)) e) (o ff))) (n (A 87762 0) (m (m (o (I 59)) e) (o (A 87761 0))) (m (m (o (U 87755 0 1 6)) e) e))))
def y117 : T V := (n z213 (n z213 (o (A 87759 0)) (n (I 0) (o z213) e)) (n (A 87758 0) (o (A 87760 0)) e))
def y118 : T V := (n z213 (n (A 87756 0) (o (I 0)) (o z213)) (n (A 87757 0) (o z213) e))
def y119 : T V := (n z131 (n (A 52634 0) (n (U 87680 0 9 3) (n (I 0) (n (U 52655 0 9 3) (o (U 87680 0 9 3)) e) (n tt (o (I 0)) e)) (n (.tup [(U 52655 0 9 3), (I 0)]) (n tt (o (U 87680 0 9 3)) e) (n (U 84944 0 9 3) (o z210) e))) (n (I 13) (n z131 (n (I 13) (o z211) e) (n (I 13) (o ff) e)) (n (I 0) (n (I 0) (o z211) e) (o (I 23))))) (n (A 52635 0) (n (I 0) (n (.tup [(U 52655 0 9 3), (I 0)]) (n z132 (o (I 0)) e) (n (I 12) (o (I 0)) e)) (n (U 52655 0 9 3) (n (A 52634 6) (o z213) e) (o (I 13)))) (n (A 87676 0) (n (S 52008 0 9 9) (n tt (o z210) e) (o (.tup [(U 87680 0 9 3), (I 0)]))) (n z131 (n tt (o z210) e) (o (.tup [(U 87680 0 9 3), (I 0)]))))))
/-- the memory behind piece 140 -/
def g140 : T Blk := upd [(87759, (ce [(U 87674 0 258 1), ns, (I 0), ff, (I 14), (I 59), (I 0), (I 58), (I 1), (I 1), (I 1), (U 87755 0 1 6)])), (87895, (ce [(I 57), (I 14)])), (87763, (ce [(U 87674 0 258 1), ns, (I 0), ff])), (87755, (ce [(I 1), (I 0), (I 0), (I 0), (I 0), (U 87680 0 9 3)])), (88235, (ce [(I 1), (I 0), q116, (I 1), (I 1), q2, (I 2), (I 0), q3])), (88257, (ce [ff, tt, tt, ff, ff, ff, ff, ff, ff, ff])), (87761, (ce [(U 87674 0 258 1), ns, (I 0), ff, (I 14), (I 59), (I 0), (I 58), (I 1), (I 1), (I 1), (U 87755 0 1 6)])), (87765, (ce [ns, ns, ns, ns, (I 0), (I 0), ff])), (87757, (ce [ns, ns, (I 0), ff, (I 0), (I 0), (I 0), (I 0), (I 0), (I 0), (I 0), ns])), (87853, (ce [(I 59), (I 14), (I 58), (I 14)])), (88237, (ce [(I 56), (I 14), (I 7), (I 2), (I 8), (I 2)])), (87680, (ce [(I 2), (I 23), q2, (I 1), (I 6), q1, (I 0), (I 0), q1, (I 0), (I 0), q1, (I 0), (I 0), q1, (I 0), (I 0), q1, (I 0), (I 0), q1, (I 0), (I 0), q1, (I 0), (I 0), q1])), (87760, (ce [ns, ns, (I 0), ff, (I 0), (I 0), (I 0), (I 0), (I 0), (I 0), (I 0), ns])), (87768, (ce [(I 0), (I 0), ns, ns, ns, ns, ns])), (87764, (ce [ns, ns])), (87756, (ce [(U 87674 0 258 1), ns, (I 0), ff, (I 14), (I 59), (I 0), (I 58), (I 1), (I 1), (I 1), (U 87755 0 1 6)])), (87762, (ce [ns, ns, (I 0), ff, (I 0), (I 0), (I 0), (I 0), (I 0), (I 0), (I 0), ns])), (88242, (ce [(I 0), (I 0), (I 1), (I 0), (I 0), (I 0), (I 0), (I 0), (I 0), (I 0)])), (52634, (ce [(U 87674 0 258 1), ns, (I 0), ff, (I 14), (I 59), (I 0), (I 58), (I 1), (I 1), (I 1), (U 85019 0 1 6)])), (87962, (ce [(I 1), (I 0), (I 0), (I 0), (I 0)])), (87758, (ce [(U 87674 0 258 1), ns, (I 0), ff, (I 14), (I 59), (I 0), (I 58), (I 1), (I 1), (I 1), (U 87755 0 1 6)])), (87854, (ce [(I 1), (I 1), ns, ns, ns, ns, (U 87853 0 2 2)])), (88238, (ce [(I 2), (I 22), q2, (I 1), (I 6), q1, (I 0), (I 0), q1, (I 0), (I 0), q1, (I 0), (I 0), q1, (I 0), (I 0), q1, (I 0), (I 0), q1, (I 0), (I 0), q1, (I 0), (I 0), q1]))] (del [] g139)
/-- the state behind piece 140; its texts -/
def s140 : St :=
⟨⟨⟨90, 180, false, none⟩,
  (n (S 88238 0 9 9) (m (n (S 88242 0 10 10) (n tt (m (n (I 8) (o (U 88245 0 1 2)) (o (I 1))) (n tt (o ff) (o (I 1)))) (n (I 2) (n tt (o (A 88242 2)) (o ff)) (n ff (o (S 88257 0 10 10)) e))) (n (I 2) (n ff (n (A 88238 24) (o (I 2)) (o ns)) (n (.tup [(U 88245 0 1 2), tt]) (o (I 0)) (o (A 88264 0)))) (n (I 9) (n ff (o ff) (o tn)) (n ff (o (I 0)) e)))) (n (A 88256 0) (n (S 88257 0 10 10) (n (I 9) (n (S 88238 0 9 9) (o (A 88245 0)) (o (S 88238 0 9 9))) (n (A 88243 2) (o (A 88249 2)) (o (U 88264 0 1 2)))) (n ff (n (.agg [(I 0), (I 0), q1]) (o (I 6)) (o tn)) (n (U 88245 0 1 2) (o (I 1)) e))) (n (I 0) (n (A 88238 0) (n (A 88256 0) (o (I 0)) (o ns)) (n tt (o ff) (o (I 2)))) (n (I 9) (n tt (o (I 6)) (o ff)) (n (I 1) (o (I 2)) e))))) (n ff (n (I 9) (n (I 1) (n (S 88238 0 9 9) (n (I 9) (o (I 0)) (o (I 2))) (n (.tup [(U 88245 0 1 2), tt]) (o ff) (o (S 88257 0 10 10)))) (n ff (n tt (o (A 88249 1)) (o ff)) (n (I 1) (o (A 88257 1)) e))) (n ns (n (S 88238 0 9 9) (n (.agg [(I 0), (I 0), q1]) (o (A 88242 2)) (o (I 0))) (n (U 88245 0 1 2) (o ff) (o (A 88264 1)))) (n (S 88238 0 9 9) (n tt (o (A 88249 1)) (o tn)) (n (I 0) (o (I 1)) e)))) (n (U 88245 0 1 2) (n (I 1) (n ff (n (I 8) (o (A 88245 1)) (o (I 2))) (n q2 (o q1) (o (I 0)))) (n (S 88242 0 10 10) (n (.agg [(I 0), (I 0), q1]) (o ff) (o tn)) (n (I 1) (o tt) e))) (m (n (A 88238 0) (n (I 0) (o (I 1)) (o (I 0))) (n tt (o (S 88257 0 10 10)) (o (A 88257 2)))) (n ff (n tt (o ff) (o (I 0))) (n (S 88242 0 10 10) (o tt) e)))))),
  [.code (c 90 51979454), .code (c 90 26813630), .inLoop (c 90 10036414), .inBlock 9, .inBlock 8, .code (c 90 468158), .inLoop (c 90 74942), .inBlock 7, .inBlock 6, .code (c 90 7358), .inLoop (c 90 1214), .inBlock 5, .code (c 90 254)], [], .run⟩,
 [⟨⟨195, 80, false, none⟩,
  (n (U 88235 0 3 3) (m (n ff (n (S 88238 0 9 9) (n (I 2) (n (I 3) (o q1) e) (o (u8 6))) (n (I 2) (o (I 2)) (o (I 1)))) (n ff (n (I 2) (n (I 2) (o (A 88238 0)) e) (o (A 88238 3))) (n (I 0) (o (u8 1)) (o (I 1))))) (n (I 3) (n (U 88235 0 3 3) (n (.agg [(I 2), (I 0), q3]) (n (S 88238 0 9 9) (o q2) e) (o (A 88238 3))) (n ff (o (A 88241 2)) (o (S 88238 0 9 9)))) (n (I 3) (n ff (n (S 88238 0 9 9) (o (S 88238 0 9 9)) e) (o (S 88238 0 9 9))) (n (A 88241 2) (o (A 88241 2)) (o (A 88238 0)))))) (n ns (n (S 88238 0 9 9) (n (I 3) (n (A 88235 6) (n ff (o (A 88240 2)) e) (o (I 6))) (n ff (o (I 1)) (o (I 0)))) (n (I 2) (n ff (n (I 1) (o (A 88238 2)) e) (o (A 88238 4))) (n tt (o (I 1)) (o (I 0))))) (n (A 88241 0) (n (I 3) (n (A 88241 0) (n (A 88241 0) (o q2) e) (o (A 88238 3))) (n (A 88241 1) (o q3) (o (A 88240 0)))) (n (U 88235 0 3 3) (n (A 88241 0) (o (A 88241 0)) (o (A 88240 0))) (n q3 (o q3) (o (A 88238 2))))))),
  [.reg (r 195 38 1), .code (c 195 54), .code (c 195 30)], [], .run⟩,
 ⟨⟨123, 134, false, none⟩,
  (n z212 (n (I 59) (m (n tt (n (A 87962 0) (n (.agg [(I 4), (I 14), q15]) (o (U 87807 0 1 2)) (o (U 88235 0 3 3))) (n (U 87807 0 1 2) (o tt) e)) (n (I 59) (m (o tt) e) (m (o (U 88236 0 3 3)) e))) (n (A 87854 0) (n (U 88235 0 3 3) (n (U 87807 0 1 2) (o (I 14)) e) (n (U 87807 0 1 2) (o (.tup [(U 88236 0 3 3), (U 88237 0 3 2), (U 88235 0 3 3), tt])) e)) (n tt (n (A 87801 1) (o (.agg [(I 3), (I 14), q60])) e) (n (I 0) (o tt) e)))) (n ff (n (I 1) (n (U 88236 0 3 3) (n (I 1) (o (A 87807 0)) e) (n (.agg [(I 1), (I 1), ns, ns, ns, ns, (U 87853 0 2 2)]) (o ff) e)) (n (.agg [(I 4), (I 14), q15]) (o (I 1)) (n z212 (o (U 88235 0 3 3)) e))) (n (A 87855 0) (n z107 (n tt (o (.agg [(I 3), (I 14), q60])) e) (n tt (o (U 87895 0 1 2)) e)) (m (n (.agg [(I 59), (I 14)]) (o z2) e) (o (A 87807 0)))))) (n (A 87767 0) (n (A 87768 0) (n (I 1) (n (U 87895 0 1 2) (n (.tup [(I 1), (I 1), (U 87807 0 1 2), tt]) (o (I 0)) e) (n (U 87853 0 2 2) (o tt) e)) (n z107 (n (I 1) (o ff) e) (n z108 (o (U 88237 0 3 2)) e))) (n (I 0) (m (n tt (o z108) e) (n (I 1) (o z212) e)) (n ff (n (I 14) (o (.tup [z2, (U 87895 0 1 2), tt])) e) (n (A 87807 0) (o ff) e)))) (n (A 87801 0) (n (U 87807 0 1 2) (n (U 88237 0 3 2) (n (I 1) (o (A 87807 1)) e) (o (I 0))) (n tt (n (I 59) (o (.tup [z2, (U 87895 0 1 2), tt])) e) (n (U 87807 0 1 2) (o tt) e))) (n tt (n z212 (n ff (o tt) e) (m (o (.tup [(U 88236 0 3 3), (U 88237 0 3 2), (U 88235 0 3 3), tt])) e)) (n (.tup [(I 1), (I 1), (U 87807 0 1 2), tt]) (n (S 87852 0 1 1) (o (U 87895 0 1 2)) e) (o (I 58))))))),
  [.reg (r 123 1565886 1), .code (c 123 2090174), .inBlock 1, .code (c 123 7358), .inLoop (c 123 1214), .inBlock 0, .code (c 123 254)], [], .run⟩,
 ⟨⟨63, 33, false, none⟩,
  (n z212 (n (I 59) (m e (o z212)) (o ff)) (n (A 87766 0) (n ns e (o (I 59))) e)),
  [.reg (r 63 4 2), .code (c 63 6)], [], .run⟩,
 ⟨⟨119, 207, false, none⟩,
  (n z212 (n (I 59) (n (I 0) (n (A 87763 0) (n ff (o (I 1)) e) (m (o (I 0)) e)) (m (m (o tt) e) (m (o (I 0)) e))) (n (I 0) (m (m (o ff) (o (I 59))) (m (o ff) e)) (m (m (o ff) e) (m (o z9) e)))) (n (I 0) (n (I 0) (m (n (A 87765 0) (o ff) (o z212)) (m (o ff) e)) (m (m (o ff) e) (m (o (I 0)) e))) (n (U 87755 0 1 6) (m (m (o (I 0)) e) e) (n (A 87764 0) (m (o ff) e) (n (U 87755 0 1 6) (o (A 87765 0)) e))))),
  [.reg (r 119 22 2), .code (c 119 30)], [], .run⟩,
 ⟨⟨56, 300, false, none⟩,
  y116,
  [.reg (r 56 10 8), .code (c 56 14)], [], .run⟩,
 ⟨⟨132, 25, false, none⟩,
  y117,
  [.reg (r 132 4 1), .code (c 132 6)], [], .run⟩,
 ⟨⟨60, 9, false, none⟩,
  y118,
  [.reg (r 60 4 2), .code .ret], [], .run⟩,
 ⟨⟨16, 45, false, none⟩,
  y119,
  [.reg (r 16 5270 3), .code (c 16 7318), .inBlock 1, .code (c 16 918), .inLoop (c 16 150), .inBlock 0, .code (c 16 30)], [], .run⟩,
 ⟨⟨4, 120, false, none⟩,
  y64,
  [.reg (r 4 22 1), .code (c 4 30)], [], .run⟩],
 ⟨(p 88268), g140⟩,
 []⟩
def k140 : List (IC Blk) := [(c 90 51979454), (c 90 26813630), (c 90 10036414), .skip, .skip, (c 90 468158), (c 90 74942), .skip, .skip, (c 90 7358), (c 90 1214), .skip, (c 90 254), (.region (r 195 38 1)), (c 195 54), (c 195 30), (.region (r 123 1565886 1)), (c 123 2090174), .skip, (c 123 7358), (c 123 1214), .skip, (c 123 254), (.region (r 63 4 2)), (c 63 6), (.region (r 119 22 2)), (c 119 30), (.region (r 56 10 8)), (c 56 14), (.region (r 132 4 1)), (c 132 6), (.region (r 60 4 2)), .ret, (.region (r 16 5270 3)), (c 16 7318), .skip, (c 16 918), (c 16 150), .skip, (c 16 30), (.region (r 4 22 1)), (c 4 30)]
theorem h140 : codesSt s140.fr s140.cs s140.ls = k140 := by kernel_rfl
/-- the memory behind piece 141 -/
def g141 : T Blk := upd [(88641, (ce [(I 7), (I 2), (I 8), (I 2), (I 56), (I 14), (I 57), (I 14), (I 58), (I 14), (I 59), (I 14)])), (87765, (ce [ns, ns, (U 88641 0 6 2), (U 88642 0 6 3), (I 0), (I 0), ff])), (88642, (ce [(I 1), (I 2), q26, (I 1), (I 2), q27, (I 1), (I 14), q100, (I 2), (I 14), q117, (I 3), (I 14), q60, (I 4), (I 14), q15]))] (del [88257, 87763, 87895, 87768, 87962, 88235, 88237, 87853, 88238, 87854, 88242] g140)
/-- the state behind piece 141; its texts -/
def s141 : St :=
⟨⟨⟨119, 207, false, none⟩,
  (n z212 (n (I 59) (n (I 0) (n (A 87763 0) (n ff (n (I 1) (n (A 88420 10) (o tt) e) (o (A 87765 0))) (n (.tup [(U 88420 0 6 2), tt]) (o (A 88420 10)) (o (U 88642 0 6 3)))) (m (n (I 0) (o z107) (o (S 88639 0 1 1))) (n (I 6) (o (A 88420 10)) (o tt)))) (m (n (I 6) (n tt (o (I 5)) (o (U 88420 0 6 2))) (n (U 88420 0 6 2) (o ff) (o (A 87765 3)))) (m (n (I 0) (o tt) (o (A 87765 3))) (n z107 (o tt) (o (I 0)))))) (n (I 0) (m (n (U 88420 0 6 2) (n ff (o (I 59)) (o (A 87765 2))) (n (I 59) (o (I 0)) (o (A 87765 2)))) (m (n ff (o tt) (o (A 87765 0))) (n (I 5) (o (I 0)) e))) (m (n tt (n ff (o (A 88420 11)) (o (A 88420 10))) (n (I 6) (o (I 5)) (o (U 87755 0 1 6)))) (m (n z9 (o (I 5)) (o (.agg [(I 4), (I 14), q15]))) (n (U 88420 0 6 2) (o (A 87765 0)) (o (A 87755 5))))))) (n (I 0) (n (I 0) (m (n (A 87765 0) (n ff (n (A 88420 10) (o ff) e) (o (A 87765 0))) (n z212 (o (I 59)) (o (A 87765 0)))) (m (n ff (o (.agg [(I 4), (I 14), q15])) (o (U 88641 0 6 2))) (n ff (o (I 59)) e))) (m (n (A 88606 0) (n ff (o (A 88420 10)) (o (I 5))) (n tt (o (U 88420 0 6 2)) (o (I 0)))) (m (n (I 0) (o (U 88420 0 6 2)) (o (U 88605 0 5 3))) (n z212 (o tt) (o (A 87755 0)))))) (n (U 87755 0 1 6) (m (n tt (n (I 0) (o (U 88420 0 6 2)) (o (U 88604 0 5 2))) (n (.tup [(U 88420 0 6 2), tt]) (o ff) (o (A 87765 0)))) (m (m (o tt) (o (A 87765 0))) (n (I 6) (o tt) (o (U 87755 0 1 6))))) (n (A 87764 0) (n (I 0) (n ff (o (I 14)) (o (.agg [(I 59), (I 14)]))) (n (U 88420 0 6 2) (o (A 88420 10)) (o (I 1)))) (n (U 87755 0 1 6) (n (A 87765 0) (o (A 88420 10)) (o (S 88640 0 1 1))) (n (I 5) (o (A 87765 0)) (o (U 87680 0 9 3)))))))),
  [.code (c 119 25182), .code (c 119 12894), .inBlock 3, .code (c 119 3678), .inLoop (c 119 606), .inBlock 2, .code (c 119 126)], [], .run⟩,
 [⟨⟨56, 300, false, none⟩,
  y116,
  [.reg (r 56 10 8), .code (c 56 14)], [], .run⟩,
 ⟨⟨132, 25, false, none⟩,
  y117,
  [.reg (r 132 4 1), .code (c 132 6)], [], .run⟩,
 ⟨⟨60, 9, false, none⟩,
  y118,
  [.reg (r 60 4 2), .code .ret], [], .run⟩,
 ⟨⟨16, 45, false, none⟩,
  y119,
  [.reg (r 16 5270 3), .code (c 16 7318), .inBlock 1, .code (c 16 918), .inLoop (c 16 150), .inBlock 0, .code (c 16 30)], [], .run⟩,
 ⟨⟨4, 120, false, none⟩,
  y64,
  [.reg (r 4 22 1), .code (c 4 30)], [], .run⟩],
 ⟨(p 88704), g141⟩,
 []⟩
def k141 : List (IC Blk) := [(c 119 25182), (c 119 12894), .skip, (c 119 3678), (c 119 606), .skip, (c 119 126), (.region (r 56 10 8)), (c 56 14), (.region (r 132 4 1)), (c 132 6), (.region (r 60 4 2)), .ret, (.region (r 16 5270 3)), (c 16 7318), .skip, (c 16 918), (c 16 150), .skip, (c 16 30), (.region (r 4 22 1)), (c 4 30)]
theorem h141 : codesSt s141.fr s141.cs s141.ls = k141 := by kernel_rfl
def y120 : T V := (n z213 (n (I 0) (n (A 87761 0) (n (I 0) (m (n (A 87761 0) (o (I 60)) e) (o (I 15))) (m (o z215) (o (A 87761 5)))) (n (A 88977 0) (m (n (I 0) (o (U 87755 0 1 6)) e) (o z213)) (n (A 87761 3) (o ff) (o (I 0))))) (m (n tt (m (n (A 87761 5) (o (I 0)) e) (o ff)) (m (o tt) (o (I 15)))) (m (m (o (A 87761 11)) (o (A 87761 0))) (m (o (A 87761 4)) (o (A 87761 7)))))) (n (I 0) (m (n (A 88976 0) (m (n z212 (o (I 0)) e) (o (I 15))) (m (o z214) (o (I 59)))) (n (A 88978 0) (m (o (I 0)) e) (n ff e (o (I 2))))) (n (A 87762 0) (n (I 15) (m (n (I 59) (o (A 87761 11)) e) e) (n (A 87761 0) (o tt) (o (A 87761 6)))) (m (m (o (U 87755 0 1 6)) (o z212)) (n z215 (o (I 14)) (o (I 58)))))))
/-- the memory behind piece 142 -/
def g142 : T Blk := upd [(88975, (ce [(I 2), (I 0)])), (89111, (ce [(I 57), (I 14)])), (88979, (ce [(U 87674 0 258 1), ns, (I 0), ff])), (89451, (ce [(I 1), (I 0), q116, (I 1), (I 1), q2, (I 2), (I 0), q3])), (88977, (ce [(U 87674 0 258 1), ns, (I 0), ff, (I 14), (I 59), (I 0), (I 58), (I 1), (I 1), (I 1), (U 87755 0 1 6)])), (88981, (ce [ns, ns, ns, ns, (I 15), (I 60), ff])), (88973, (ce [(I 1), (I 0), q131, (I 2), (I 0), q36, (I 3), (I 0), q37])), (89453, (ce [(I 56), (I 14), (I 7), (I 2), (I 8), (I 2)])), (89069, (ce [(I 59), (I 14), (I 58), (I 14)])), (88976, (ce [(U 88973 0 3 3), (U 88975 0 1 2)])), (88984, (ce [(I 0), (I 0), ns, ns, ns, ns, ns])), (88980, (ce [ns, ns])), (88978, (ce [ns, ns])), (89178, (ce [(I 1), (I 0), (I 0), (I 0), (I 0)])), (89070, (ce [(I 1), (I 1), ns, ns, ns, ns, (U 89069 0 2 2)]))] (del [88641, 88642, 87765, 87764] g141)
/-- the state behind piece 142; its texts -/
def s142 : St :=
⟨⟨⟨123, 134, false, none⟩,
  (n z212 (n (I 59) (m (n tt (n (A 89178 0) (n (.agg [(I 4), (I 14), q15]) (o (U 89023 0 1 2)) e) (n (U 89023 0 1 2) (o tt) e)) (n (I 59) (m (o tt) e) (m (o (U 89452 0 3 3)) e))) (n (A 89070 0) (n (U 89451 0 3 3) (n (U 89023 0 1 2) (o (I 14)) e) (n (U 89023 0 1 2) (o (.tup [(U 89452 0 3 3), (U 89453 0 3 2), (U 89451 0 3 3), tt])) e)) (n tt (n (A 89017 1) (o (.agg [(I 3), (I 14), q60])) e) (o (I 0))))) (n ff (n (I 1) (n (U 89452 0 3 3) (n (I 1) (o (A 89023 0)) e) (n (.agg [(I 1), (I 1), ns, ns, ns, ns, (U 89069 0 2 2)]) (o ff) e)) (n (.agg [(I 4), (I 14), q15]) (o (I 1)) (n z212 (o (U 89451 0 3 3)) e))) (n (A 89071 0) (n z107 (n tt (o (.agg [(I 3), (I 14), q60])) e) (n tt (o (U 89111 0 1 2)) e)) (m (n (.agg [(I 59), (I 14)]) (o z2) e) (o (A 89023 0)))))) (n (A 88983 0) (n (A 88984 0) (n (I 1) (n (U 89111 0 1 2) (n (.tup [(I 1), (I 1), (U 89023 0 1 2), tt]) (o (I 0)) e) (n (U 89069 0 2 2) (o tt) e)) (n z107 (n (I 1) (o ff) e) (n z108 (o (U 89453 0 3 2)) e))) (n (I 0) (m (n tt (o z108) e) (n (I 1) (o z212) e)) (n ff (n (I 14) (o (.tup [z2, (U 89111 0 1 2), tt])) e) (o (A 89023 0))))) (n (A 89017 0) (n (U 89023 0 1 2) (n (U 89453 0 3 2) (n (I 1) (o (A 89023 1)) e) (o (I 0))) (n tt (n (I 59) (o (.tup [z2, (U 89111 0 1 2), tt])) e) (n (U 89023 0 1 2) (o tt) e))) (n tt (n z212 (n ff (o tt) e) (m (o (.tup [(U 89452 0 3 3), (U 89453 0 3 2), (U 89451 0 3 3), tt])) e)) (n (.tup [(I 1), (I 1), (U 89023 0 1 2), tt]) (n (S 89068 0 1 1) (o (U 89111 0 1 2)) e) (o (I 58))))))),
  [.code (c 123 517310), .inBlock 1, .code (c 123 7358), .inLoop (c 123 1214), .inBlock 0, .code (c 123 254)], [], .run⟩,
 [⟨⟨63, 33, false, none⟩,
  (n z212 (n (I 59) (m e (o z212)) (o ff)) (n (A 88982 0) (n ns e (o (I 59))) e)),
  [.reg (r 63 4 2), .code (c 63 6)], [], .run⟩,
 ⟨⟨119, 207, false, none⟩,
  (n z212 (n (I 59) (n (I 60) (n (A 88979 0) (n ff (o (I 1)) e) (m (o (I 60)) e)) (m (m (o tt) e) (m (o (I 15)) e))) (n (I 0) (m (m (o ff) (o (I 59))) (m (o ff) e)) (m (m (o ff) e) (m (o z110) e)))) (n (I 15) (n (I 0) (m (n (A 88981 0) (o ff) (o z212)) (m (o ff) e)) (m (m (o ff) e) (m (o (I 60)) e))) (n (U 87755 0 1 6) (m (m (o (I 15)) e) e) (n (A 88980 0) (m (o ff) e) (n (U 87755 0 1 6) (o (A 88981 0)) e))))),
  [.reg (r 119 22 2), .code (c 119 30)], [], .run⟩,
 ⟨⟨56, 300, false, none⟩,
  y120,
  [.reg (r 56 382 21), .code (c 56 510)], [], .run⟩,
 ⟨⟨132, 25, false, none⟩,
  y117,
  [.reg (r 132 4 1), .code (c 132 6)], [], .run⟩,
 ⟨⟨60, 9, false, none⟩,
  y118,
  [.reg (r 60 4 2), .code .ret], [], .run⟩,
 ⟨⟨16, 45, false, none⟩,
  y119,
  [.reg (r 16 5270 3), .code (c 16 7318), .inBlock 1, .code (c 16 918), .inLoop (c 16 150), .inBlock 0, .code (c 16 30)], [], .run⟩,
 ⟨⟨4, 120, false, none⟩,
  y64,
  [.reg (r 4 22 1), .code (c 4 30)], [], .run⟩],
 ⟨(p 89454), g142⟩,
 []⟩
def k142 : List (IC Blk) := [(c 123 517310), .skip, (c 123 7358), (c 123 1214), .skip, (c 123 254), (.region (r 63 4 2)), (c 63 6), (.region (r 119 22 2)), (c 119 30), (.region (r 56 382 21)), (c 56 510), (.region (r 132 4 1)), (c 132 6), (.region (r 60 4 2)), .ret, (.region (r 16 5270 3)), (c 16 7318), .skip, (c 16 918), (c 16 150), .skip, (c 16 30), (.region (r 4 22 1)), (c 4 30)]
theorem h142 : codesSt s142.fr s142.cs s142.ls = k142 := by kernel_rfl
/-- the memory behind piece 143 -/
def g143 : T Blk := upd [(89857, (ce [(I 7), (I 2), (I 8), (I 2), (I 56), (I 14), (I 57), (I 14), (I 58), (I 14), (I 59), (I 14)])), (88981, (ce [ns, ns, (U 89857 0 6 2), (U 89858 0 6 3), (I 15), (I 60), ff])), (89858, (ce [(I 1), (I 2), q26, (I 1), (I 2), q27, (I 1), (I 14), q100, (I 2), (I 14), q117, (I 3), (I 14), q60, (I 4), (I 14), q15]))] (del [88973, 87756, 88975, 87759, 87758, 88977, 88976, 84944, 88979, 89111, 88984, 85019, 89178, 89451, 89069, 89453, 89070, 87676] g142)
/-- the state behind piece 143; its texts -/
def s143 : St :=
⟨⟨⟨119, 207, false, none⟩,
  (n z212 (n (I 59) (n (I 60) (n (A 88979 0) (n ff (n (I 1) (n (A 89636 10) (o tt) e) (o (A 88981 0))) (n (.tup [(U 89636 0 6 2), tt]) (o (A 89636 10)) (o (U 89858 0 6 3)))) (m (n (I 60) (o z107) (o (S 89855 0 1 1))) (n (I 6) (o (A 89636 10)) (o tt)))) (m (n (I 6) (n tt (o (I 5)) (o (U 89636 0 6 2))) (n (U 89636 0 6 2) (o ff) (o (A 88981 3)))) (m (n (I 15) (o tt) (o (A 88981 3))) (n z107 (o tt) (o (I 0)))))) (n (I 0) (m (n (U 89636 0 6 2) (n ff (o (I 59)) (o (A 88981 2))) (n (I 59) (o (I 0)) (o (A 88981 2)))) (m (n ff (o tt) (o (A 88981 0))) (n (I 5) (o (I 0)) e))) (m (n tt (n ff (o (A 89636 11)) (o (A 89636 10))) (n (I 6) (o (I 5)) (o (U 87755 0 1 6)))) (m (n z110 (o (I 5)) (o (.agg [(I 4), (I 14), q15]))) (n (U 89636 0 6 2) (o (A 88981 0)) (o (A 87755 5))))))) (n (I 15) (n (I 0) (m (n (A 88981 0) (n ff (n (A 89636 10) (o ff) e) (o (A 88981 0))) (n z212 (o (I 59)) (o (A 88981 0)))) (m (n ff (o (.agg [(I 4), (I 14), q15])) (o (U 89857 0 6 2))) (n ff (o (I 59)) e))) (m (n (A 89822 0) (n ff (o (A 89636 10)) (o (I 5))) (n tt (o (U 89636 0 6 2)) (o (I 0)))) (m (n (I 60) (o (U 89636 0 6 2)) (o (U 89821 0 5 3))) (n z212 (o tt) (o (A 87755 0)))))) (n (U 87755 0 1 6) (m (n tt (n (I 15) (o (U 89636 0 6 2)) (o (U 89820 0 5 2))) (n (.tup [(U 89636 0 6 2), tt]) (o ff) (o (A 88981 0)))) (m (m (o tt) (o (A 88981 0))) (n (I 6) (o tt) (o (U 87755 0 1 6))))) (n (A 88980 0) (n (I 0) (n ff (o (I 14)) (o (.agg [(I 59), (I 14)]))) (n (U 89636 0 6 2) (o (A 89636 10)) (o (I 1)))) (n (U 87755 0 1 6) (n (A 88981 0) (o (A 89636 10)) (o (S 89856 0 1 1))) (n (I 5) (o (A 88981 0)) (o (U 87680 0 9 3)))))))),
  [.code (c 119 25182), .code (c 119 12894), .inBlock 3, .code (c 119 3678), .inLoop (c 119 606), .inBlock 2, .code (c 119 126)], [], .run⟩,
 [⟨⟨56, 300, false, none⟩,
  y120,
  [.reg (r 56 382 21), .code (c 56 510)], [], .run⟩,
 ⟨⟨132, 25, false, none⟩,
  y117,
  [.reg (r 132 4 1), .code (c 132 6)], [], .run⟩,
 ⟨⟨60, 9, false, none⟩,
  y118,
  [.reg (r 60 4 2), .code .ret], [], .run⟩,
 ⟨⟨16, 45, false, none⟩,
  y119,
  [.reg (r 16 5270 3), .code (c 16 7318), .inBlock 1, .code (c 16 918), .inLoop (c 16 150), .inBlock 0, .code (c 16 30)], [], .run⟩,
 ⟨⟨4, 120, false, none⟩,
  y64,
  [.reg (r 4 22 1), .code (c 4 30)], [], .run⟩],
 ⟨(p 89920), g143⟩,
 []⟩
def k143 : List (IC Blk) := [(c 119 25182), (c 119 12894), .skip, (c 119 3678), (c 119 606), .skip, (c 119 126), (.region (r 56 382 21)), (c 56 510), (.region (r 132 4 1)), (c 132 6), (.region (r 60 4 2)), .ret, (.region (r 16 5270 3)), (c 16 7318), .skip, (c 16 918), (c 16 150), .skip, (c 16 30), (.region (r 4 22 1)), (c 4 30)]
theorem h143 : codesSt s143.fr s143.cs s143.ls = k143 := by kernel_rfl
/-- the memory behind piece 144 -/
def g144 : T Blk := upd [(90417, (ce [(U 90410 0 258 1), ns, (I 0), ff, (I 15), (I 63), (I 0), (I 62), (I 1), (I 1), (I 1), (U 87755 0 1 6)])), (90416, (ce [(I 2), (I 24), q2, (I 1), (I 6), q1, (I 0), (I 0), q1, (I 0), (I 0), q1, (I 0), (I 0), q1, (I 0), (I 0), q1, (I 0), (I 0), q1, (I 0), (I 0), q1, (I 0), (I 0), q1])), (90412, (ce [(U 90410 0 258 1), ns, (I 0), ff, (I 15), (I 63), (I 0), (I 62), (I 1), (I 1), (I 1), (U 87755 0 1 6)])), (90418, (ce [ns, ns, (I 0), ff, (I 0), (I 0), (I 0), (I 0), (I 0), (I 0), (I 0), ns])), (90410, (ce [q0, q4, q5, q6, q7, q8, q16, q17, q18, q19, q20, q21, q22, q23, q24, q25, q28, q29, q30, q31, q32, q33, q34, q35, q38, q39, q40, q41, q42, q43, q44, q45, q46, q47, q48, q49, q50, q51, q52, q53, q61, q62, q63, q64, q65, q66, q67, q68, q69, q70, q71, q72, q74, q75, q76, q77, q78, q79, q80, q81, q82, q83, q84, q85, q0, q0, q0, q0, q0, q0, q0, q0, q0, q0, q0, q0, q0, q0, q0, q0, q0, q0, q0, q0, q0, q0, q0, q0, q0, q0, q0, q0, q0, q0, q0, q0, q0, q0, q0, q0, q0, q0, q0, q0, q0, q0, q0, q0, q0, q0, q0, q0, q0, q0, q0, q0, q0, q0, q0, q0, q0, q0, q0, q0, q0, q0, q0, q0, q0, q0, q0, q0, q0, q0, q0, q0, q0, q0, q0, q0, q0, q0, q0, q0, q0, q0, q0, q0, q0, q0, q0, q0, q0, q0, q0, q0, q0, q0, q0, q0, q0, q0, q0, q0, q0, q0, q0, q0, q0, q0, q0, q0, q0, q0, q0, q0, q0, q0, q0, q0, q0, q0, q0, q0, q0, q0, q0, q0, q0, q0, q0, q0, q0, q0, q0, q0, q0, q0, q0, q0, q0, q0, q0, q0, q0, q0, q0, q0, q0, q0, q0, q0, q0, q0, q0, q0, q0, q0, q0, q0, q0, q0, q0, q0, q0, q0, q0, q0, q0, q0, q0, q0, q0, q0, q0, q0, q0, q0, q0, q0, q0, q0, q0, q0, q0, q0, q0, q0, q0, q0, q0, q0, q0, q0, q0, q0, q0, q0])), (52634, (ce [(U 90410 0 258 1), ns, (I 0), ff, (I 15), (I 63), (I 0), (I 62), (I 1), (I 1), (I 1), (U 87755 0 1 6)]))] (del [89857, 89858, 87757, 87761, 87760, 88978, 87762, 88981, 88980, 87674] g143)
/-- the state behind piece 144; its texts -/
def s144 : St :=
⟨⟨⟨37, 26, false, none⟩,
  (n z216 (n (U 90416 0 9 3) (m (o (U 90416 0 9 3)) e) (m (o ff) e)) (n (A 90417 0) (n (A 90418 0) (o tt) e) e)),
  [.code (c 37 12), .code (c 37 6)], [], .run⟩,
 [⟨⟨16, 45, false, none⟩,
  (n z131 (n (A 52634 0) (n (U 90416 0 9 3) (n (I 0) (n (U 52655 0 9 3) (o (U 90416 0 9 3)) e) (n tt (o (I 0)) e)) (n (.tup [(U 52655 0 9 3), (I 0)]) (n tt (o (U 90416 0 9 3)) e) (n (U 87680 0 9 3) (o z216) e))) (n (I 14) (n z131 (n (I 14) (o z217) e) (n (I 14) (o ff) e)) (n (I 0) (n (I 0) (o z217) e) (o (I 24))))) (n (A 52635 0) (n (I 0) (n (.tup [(U 52655 0 9 3), (I 0)]) (n z132 (o (I 0)) e) (n (I 13) (o (I 0)) e)) (n (U 52655 0 9 3) (n (A 52634 6) (o z213) e) (o (I 14)))) (n (A 90412 0) (n (S 52008 0 9 9) (n tt (o z216) e) (o (.tup [(U 90416 0 9 3), (I 0)]))) (n z131 (n tt (o z216) e) (o (.tup [(U 90416 0 9 3), (I 0)])))))),
  [.reg (r 16 5270 2), .code (c 16 7318), .inBlock 1, .code (c 16 918), .inLoop (c 16 150), .inBlock 0, .code (c 16 30)], [], .run⟩,
 ⟨⟨4, 120, false, none⟩,
  y64,
  [.reg (r 4 22 1), .code (c 4 30)], [], .run⟩],
 ⟨(p 90480), g144⟩,
 []⟩
def k144 : List (IC Blk) := [(c 37 12), (c 37 6), (.region (r 16 5270 2)), (c 16 7318), .skip, (c 16 918), (c 16 150), .skip, (c 16 30), (.region (r 4 22 1)), (c 4 30)]
theorem h144 : codesSt s144.fr s144.cs s144.ls = k144 := by kernel_rfl
def y121 : T V := (n z219 (n z219 (o (A 90495 0)) (n (I 0) (o z219) e)) (n (A 90494 0) (o (A 90496 0)) e))
def y122 : T V := (n z219 (n (A 90492 0) (o (I 0)) (o z219)) (n (A 90493 0) (o z219) e))
def y123 : T V := (n z131 (n (A 52634 0) (n (U 90416 0 9 3) (n (I 0) (n (U 52655 0 9 3) (o (U 90416 0 9 3)) e) (n tt (o (I 0)) e)) (n (.tup [(U 52655 0 9 3), (I 0)]) (n tt (o (U 90416 0 9 3)) e) (n (U 87680 0 9 3) (o z216) e))) (n (I 14) (n z131 (n (I 14) (o z217) e) (n (I 14) (o ff) e)) (n (I 0) (n (I 0) (o z217) e) (o (I 24))))) (n (A 52635 0) (n (I 0) (n (.tup [(U 52655 0 9 3), (I 0)]) (n z132 (o (I 0)) e) (n (I 13) (o (I 0)) e)) (n (U 52655 0 9 3) (n (A 52634 6) (o z219) e) (o (I 14)))) (n (A 90412 0) (n (S 52008 0 9 9) (n tt (o z216) e) (o (.tup [(U 90416 0 9 3), (I 0)]))) (n z131 (n tt (o z216) e) (o (.tup [(U 90416 0 9 3), (I 0)]))))))
/-- the memory behind piece 145 -/
def g145 : T Blk := upd [(90495, (ce [(U 90410 0 258 1), ns, (I 0), ff, (I 15), (I 63), (I 0), (I 62), (I 1), (I 1), (I 1), (U 90491 0 1 6)])), (90499, (ce [(U 90410 0 258 1), ns, (I 0), ff])), (90491, (ce [(I 1), (I 0), (I 0), (I 0), (I 0), (U 90416 0 9 3)])), (90497, (ce [(U 90410 0 258 1), ns, (I 0), ff, (I 15), (I 63), (I 0), (I 62), (I 1), (I 1), (I 1), (U 90491 0 1 6)])), (90501, (ce [ns, ns, ns, ns, (I 0), (I 0), ff])), (90493, (ce [ns, ns, (I 0), ff, (I 0), (I 0), (I 0), (I 0), (I 0), (I 0), (I 0), ns])), (90496, (ce [ns, ns, (I 0), ff, (I 0), (I 0), (I 0), (I 0), (I 0), (I 0), (I 0), ns])), (90500, (ce [ns, ns])), (91156, (ce [(I 7), (I 2), (I 8), (I 2), (I 60), (I 15), (I 61), (I 15), (I 62), (I 15), (I 63), (I 15)])), (90492, (ce [(U 90410 0 258 1), ns, (I 0), ff, (I 15), (I 63), (I 0), (I 62), (I 1), (I 1), (I 1), (U 90491 0 1 6)])), (90498, (ce [ns, ns, (I 0), ff, (I 0), (I 0), (I 0), (I 0), (I 0), (I 0), (I 0), ns])), (90494, (ce [(U 90410 0 258 1), ns, (I 0), ff, (I 15), (I 63), (I 0), (I 62), (I 1), (I 1), (I 1), (U 90491 0 1 6)]))] (del [90417, 90418] g144)
/-- the state behind piece 145; its texts -/
def s145 : St :=
⟨⟨⟨119, 207, false, none⟩,
  (n z218 (n (I 63) (n (I 0) (n (A 90499 0) (n ff (o (I 1)) (o (.tup [(U 91156 0 6 2), tt]))) (m (o (I 0)) e)) (m (m (o tt) (o (U 91156 0 6 2))) (m (o (I 0)) e))) (n (I 0) (m (n (U 91156 0 6 2) (o ff) (o (I 63))) (m (o ff) e)) (m (m (o ff) e) (m (o z9) e)))) (n (I 0) (n (I 0) (m (n (A 90501 0) (o ff) (o z218)) (m (o ff) e)) (m (m (o ff) (o tt)) (m (o (I 0)) e))) (n (U 90491 0 1 6) (m (n tt (o (I 0)) (o (.tup [(U 91156 0 6 2), tt]))) e) (n (A 90500 0) (m (o ff) e) (n (U 90491 0 1 6) (o (A 90501 0)) e))))),
  [.code (c 119 30)], [], .run⟩,
 [⟨⟨56, 300, false, none⟩,
  (n z219 (n (I 0) (n (A 90497 0) (n (I 0) (m (o (A 90497 0)) e) e) (m (m (o (I 0)) e) (o (A 90497 3)))) (m (m (m (o (A 90497 5)) e) e) (m (m (o (A 90497 11)) e) e))) (n (I 0) (m (m (m (o z218) e) e) (m (m (o (I 0)) e) (o ff))) (n (A 90498 0) (m (m (o (I 63)) e) (o (A 90497 0))) (m (m (o (U 90491 0 1 6)) e) e)))),
  [.reg (r 56 10 8), .code (c 56 14)], [], .run⟩,
 ⟨⟨132, 25, false, none⟩,
  y121,
  [.reg (r 132 4 1), .code (c 132 6)], [], .run⟩,
 ⟨⟨60, 9, false, none⟩,
  y122,
  [.reg (r 60 4 2), .code .ret], [], .run⟩,
 ⟨⟨16, 45, false, none⟩,
  y123,
  [.reg (r 16 5270 3), .code (c 16 7318), .inBlock 1, .code (c 16 918), .inLoop (c 16 150), .inBlock 0, .code (c 16 30)], [], .run⟩,
 ⟨⟨4, 120, false, none⟩,
  y64,
  [.reg (r 4 22 1), .code (c 4 30)], [], .run⟩],
 ⟨(p 91157), g145⟩,
 []⟩
def k145 : List (IC Blk) := [(c 119 30), (.region (r 56 10 8)), (c 56 14), (.region (r 132 4 1)), (c 132 6), (.region (r 60 4 2)), .ret, (.region (r 16 5270 3)), (c 16 7318), .skip, (c 16 918), (c 16 150), .skip, (c 16 30), (.region (r 4 22 1)), (c 4 30)]
theorem h145 : codesSt s145.fr s145.cs s145.ls = k145 := by kernel_rfl
/-- the memory behind piece 146 -/
def g146 : T Blk := upd [(91711, (ce [(I 2), (I 0)])), (91709, (ce [(I 1), (I 0), q93, (I 2), (I 0), q36, (I 3), (I 0), q37])), (91712, (ce [(U 91709 0 3 3), (U 91711 0 1 2)]))] (del [90499, 90501, 90500, 91156] g145)
/-- the state behind piece 146; its texts -/
def s146 : St :=
⟨⟨⟨56, 300, false, none⟩,
  (n z219 (n (I 0) (n (A 90497 0) (n (I 0) (m (o (A 90497 0)) e) (m (o z221) e)) (m (m (o (I 0)) e) (o (A 90497 3)))) (m (n tt (m (o (A 90497 5)) e) (m (o tt) e)) (m (m (o (A 90497 11)) e) e))) (n (I 0) (m (n (A 91712 0) (m (o z218) e) (m (o z220) e)) (m (m (o (I 0)) e) (o ff))) (n (A 90498 0) (m (m (o (I 63)) e) (o (A 90497 0))) (m (m (o (U 90491 0 1 6)) e) (o z221))))),
  [.code (c 56 14)], [], .run⟩,
 [⟨⟨132, 25, false, none⟩,
  y121,
  [.reg (r 132 4 1), .code (c 132 6)], [], .run⟩,
 ⟨⟨60, 9, false, none⟩,
  y122,
  [.reg (r 60 4 2), .code .ret], [], .run⟩,
 ⟨⟨16, 45, false, none⟩,
  y123,
  [.reg (r 16 5270 3), .code (c 16 7318), .inBlock 1, .code (c 16 918), .inLoop (c 16 150), .inBlock 0, .code (c 16 30)], [], .run⟩,
 ⟨⟨4, 120, false, none⟩,
  y64,
  [.reg (r 4 22 1), .code (c 4 30)], [], .run⟩],
 ⟨(p 91713), g146⟩,
 []⟩
def k146 : List (IC Blk) := [(c 56 14), (.region (r 132 4 1)), (c 132 6), (.region (r 60 4 2)), .ret, (.region (r 16 5270 3)), (c 16 7318), .skip, (c 16 918), (c 16 150), .skip, (c 16 30), (.region (r 4 22 1)), (c 4 30)]
theorem h146 : codesSt s146.fr s146.cs s146.ls = k146 := by kernel_rfl
/-- the memory behind piece 147 -/
def g147 : T Blk := upd [(91715, (ce [(U 90410 0 258 1), ns, (I 0), ff])), (91713, (ce [(U 90410 0 258 1), ns, (I 0), ff, (I 15), (I 63), (I 0), (I 62), (I 1), (I 1), (I 1), (U 90491 0 1 6)])), (91717, (ce [ns, ns, ns, ns, (I 16), (I 64), ff])), (91716, (ce [ns, ns])), (92372, (ce [(I 7), (I 2), (I 8), (I 2), (I 60), (I 15), (I 61), (I 15), (I 62), (I 15), (I 63), (I 15)])), (91714, (ce [ns, ns]))] (del [] g146)
/-- the state behind piece 147; its texts -/
def s147 : St :=
⟨⟨⟨119, 207, false, none⟩,
  (n z218 (n (I 63) (n (I 64) (n (A 91715 0) (n ff (o (I 1)) (o (.tup [(U 92372 0 6 2), tt]))) (m (o (I 64)) e)) (m (m (o tt) (o (U 92372 0 6 2))) (m (o (I 16)) e))) (n (I 0) (m (n (U 92372 0 6 2) (o ff) (o (I 63))) (m (o ff) e)) (m (m (o ff) e) (m (o (.agg [ns, ns, ns, ns, (I 16), (I 64), ff])) e)))) (n (I 16) (n (I 0) (m (n (A 91717 0) (o ff) (o z218)) (m (o ff) e)) (m (m (o ff) (o tt)) (m (o (I 64)) e))) (n (U 90491 0 1 6) (m (n tt (o (I 16)) (o (.tup [(U 92372 0 6 2), tt]))) e) (n (A 91716 0) (m (o ff) e) (n (U 90491 0 1 6) (o (A 91717 0)) e))))),
  [.code (c 119 30)], [], .run⟩,
 [⟨⟨56, 300, false, none⟩,
  (n z219 (n (I 0) (n (A 90497 0) (n (I 0) (m (n (A 90497 0) (o (I 64)) e) (o (I 16))) (m (o z221) (o (A 90497 5)))) (n (A 91713 0) (m (n (I 0) (o (U 90491 0 1 6)) e) (o z219)) (n (A 90497 3) (o ff) (o (I 0))))) (m (n tt (m (n (A 90497 5) (o (I 0)) e) (o ff)) (m (o tt) (o (I 16)))) (m (m (o (A 90497 11)) (o (A 90497 0))) (m (o (A 90497 4)) (o (A 90497 7)))))) (n (I 0) (m (n (A 91712 0) (m (n z218 (o (I 0)) e) (o (I 16))) (m (o z220) (o (I 63)))) (n (A 91714 0) (m (o (I 0)) e) (n ff e (o (I 2))))) (n (A 90498 0) (n (I 16) (m (n (I 63) (o (A 90497 11)) e) e) (n (A 90497 0) (o tt) (o (A 90497 6)))) (m (m (o (U 90491 0 1 6)) (o z218)) (n z221 (o (I 15)) (o (I 62))))))),
  [.reg (r 56 382 21), .code (c 56 510)], [], .run⟩,
 ⟨⟨132, 25, false, none⟩,
  y121,
  [.reg (r 132 4 1), .code (c 132 6)], [], .run⟩,
 ⟨⟨60, 9, false, none⟩,
  y122,
  [.reg (r 60 4 2), .code .ret], [], .run⟩,
 ⟨⟨16, 45, false, none⟩,
  y123,
  [.reg (r 16 5270 3), .code (c 16 7318), .inBlock 1, .code (c 16 918), .inLoop (c 16 150), .inBlock 0, .code (c 16 30)], [], .run⟩,
 ⟨⟨4, 120, false, none⟩,
  y64,
  [.reg (r 4 22 1), .code (c 4 30)], [], .run⟩],
 ⟨(p 92373), g147⟩,
 []⟩
def k147 : List (IC Blk) := [(c 119 30), (.region (r 56 382 21)), (c 56 510), (.region (r 132 4 1)), (c 132 6), (.region (r 60 4 2)), .ret, (.region (r 16 5270 3)), (c 16 7318), .skip, (c 16 918), (c 16 150), .skip, (c 16 30), (.region (r 4 22 1)), (c 4 30)]
theorem h147 : codesSt s147.fr s147.cs s147.ls = k147 := by kernel_rfl
/-- the memory behind piece 148 -/
def g148 : T Blk := upd [(92927, (ce [(I 66), (I 16)])), (92925, (ce [(I 1), (I 16), q93, (I 2), (I 16), q132, (I 3), (I 16), q133])), (91714, (ce [(U 92925 0 3 3), (U 92927 0 1 2)]))] (del [91715, 91717, 91716, 92372] g147)
/-- the state behind piece 148; its texts -/
def s148 : St :=
⟨⟨⟨56, 300, false, none⟩,
  (n z219 (n (I 0) (n (A 90497 0) (n (I 0) (m (n (A 90497 0) (o (I 64)) e) (o (I 16))) (m (o z221) (o (A 90497 5)))) (n (A 91713 0) (m (n (I 0) (o (U 90491 0 1 6)) e) (o z219)) (n (A 90497 3) (o ff) (o (I 0))))) (m (n tt (m (n (A 90497 5) (o (I 0)) e) (o ff)) (m (o tt) (o (I 16)))) (m (m (n (A 90497 11) (o z222) e) (o (A 90497 0))) (m (o (A 90497 4)) (o (A 90497 7)))))) (n (I 0) (m (n (A 91712 0) (m (n z218 (o (I 0)) e) (o (I 16))) (m (o z220) (o (I 63)))) (n (A 91714 0) (m (n (I 0) (o z223) e) (o z223)) (n ff e (o (I 2))))) (n (A 90498 0) (n (I 16) (m (n (I 63) (o (A 90497 11)) e) e) (n (A 90497 0) (o tt) (o (A 90497 6)))) (m (m (n (U 90491 0 1 6) (o tt) e) (o z218)) (n z221 (o (I 15)) (o (I 62))))))),
  [.code (c 56 510)], [], .run⟩,
 [⟨⟨132, 25, false, none⟩,
  y121,
  [.reg (r 132 4 1), .code (c 132 6)], [], .run⟩,
 ⟨⟨60, 9, false, none⟩,
  y122,
  [.reg (r 60 4 2), .code .ret], [], .run⟩,
 ⟨⟨16, 45, false, none⟩,
  y123,
  [.reg (r 16 5270 3), .code (c 16 7318), .inBlock 1, .code (c 16 918), .inLoop (c 16 150), .inBlock 0, .code (c 16 30)], [], .run⟩,
 ⟨⟨4, 120, false, none⟩,
  y64,
  [.reg (r 4 22 1), .code (c 4 30)], [], .run⟩],
 ⟨(p 92928), g148⟩,
 []⟩
def k148 : List (IC Blk) := [(c 56 510), (.region (r 132 4 1)), (c 132 6), (.region (r 60 4 2)), .ret, (.region (r 16 5270 3)), (c 16 7318), .skip, (c 16 918), (c 16 150), .skip, (c 16 30), (.region (r 4 22 1)), (c 4 30)]
theorem h148 : codesSt s148.fr s148.cs s148.ls = k148 := by kernel_rfl
/-- the memory behind piece 149 -/
def g149 : T Blk := upd [(92960, (ce [(I 4), (I 15), q73]))] (del [] g148)
/-- the state behind piece 149; its texts -/
def s149 : St :=
⟨⟨⟨56, 300, false, none⟩,
  (n z219 (n (I 0) (n (A 90497 0) (n (I 0) (m (n (A 90497 0) (o (I 64)) (o tn)) (n (I 16) (n z121 (o (I 3)) e) e)) (m (n z221 (o tt) e) (n (A 90497 5) (n ff (o (I 63)) e) e))) (n (A 91713 0) (m (n (I 0) (o (U 90491 0 1 6)) (o tn)) (n z219 (n tt (o (.tup [(I 1), tt])) e) e)) (n (A 90497 3) (n ff (n (A 90497 0) (o (A 90497 7)) e) e) (n (I 0) (n tn (o (I 1)) e) e)))) (m (n tt (m (n (A 90497 5) (o (I 0)) (o tn)) (n ff (n tt (o (I 66)) e) e)) (m (o tt) (n (I 16) (n ff (o (I 0)) e) e))) (n (A 92960 0) (n (I 1) (n (A 90497 11) (o z222) e) (n (A 90497 0) (n (U 92925 0 3 3) (o z218) e) e)) (m (n (A 90497 4) (n (A 90497 5) (o (A 91714 0)) e) e) (n (A 90497 7) (o tn) e))))) (n (I 0) (m (n (A 91712 0) (m (n z218 (o (I 0)) (o tn)) (n (I 16) (n (.agg [(I 4), (I 15), q73]) (o (I 65)) e) e)) (m (n z220 (o ff) e) (n (I 63) (n ff (o (A 90497 6)) e) e))) (n (A 91714 0) (m (n (I 0) (o z223) (o ff)) (n z223 (n (A 91714 0) (o (A 90497 0)) e) e)) (n ff (m (n z218 (o (I 62)) e) e) (n (I 2) (n tn (o tt) e) e)))) (n (A 90498 0) (n (I 16) (m (n (I 63) (o (A 90497 11)) (o tn)) (m (n tt (o tt) e) e)) (n (A 90497 0) (n tt (o z121) e) (n (A 90497 6) (n tn (o (.tup [(I 1), tt])) e) e))) (n tt (n tt (n (U 90491 0 1 6) (o tt) e) (n z218 (n (I 3) (o (A 90497 5)) e) e)) (n z221 (n (I 15) (n (I 63) (o (U 92925 0 3 3)) e) e) (n (I 62) (o tn) e)))))),
  [.code (c 56 55294), .code (c 56 8190)], [], .run⟩,
 [⟨⟨132, 25, false, none⟩,
  y121,
  [.reg (r 132 4 1), .code (c 132 6)], [], .run⟩,
 ⟨⟨60, 9, false, none⟩,
  y122,
  [.reg (r 60 4 2), .code .ret], [], .run⟩,
 ⟨⟨16, 45, false, none⟩,
  y123,
  [.reg (r 16 5270 3), .code (c 16 7318), .inBlock 1, .code (c 16 918), .inLoop (c 16 150), .inBlock 0, .code (c 16 30)], [], .run⟩,
 ⟨⟨4, 120, false, none⟩,
  y64,
  [.reg (r 4 22 1), .code (c 4 30)], [], .run⟩],
 ⟨(p 93620), g149⟩,
 []⟩
def k149 : List (IC Blk) := [(c 56 55294), (c 56 8190), (.region (r 132 4 1)), (c 132 6), (.region (r 60 4 2)), .ret, (.region (r 16 5270 3)), (c 16 7318), .skip, (c 16 918), (c 16 150), .skip, (c 16 30), (.region (r 4 22 1)), (c 4 30)]
theorem h149 : codesSt s149.fr s149.cs s149.ls = k149 := by kernel_rfl
/-- the memory behind piece 150 -/
def g150 : T Blk := upd [(94277, (ce [(I 7), (I 2), (I 8), (I 2), (I 60), (I 15), (I 61), (I 15), (I 62), (I 15), (I 63), (I 15)])), (93621, (ce [ns, ns])), (93620, (ce [(U 90410 0 258 1), ns, (I 0), ff])), (93622, (ce [ns, ns, ns, ns, (I 16), (I 66), ff]))] (del [91713, 91712, 87680, 87755, 92960, 90412, 52655, 52730, 92925, 91709, 90492, 92927, 91711, 90495, 90494] g149)
/-- the state behind piece 150; its texts -/
def s150 : St :=
⟨⟨⟨119, 207, false, none⟩,
  (n z218 (n (I 63) (n (I 66) (n (A 93620 0) (n ff (o (I 1)) (o (.tup [(U 94277 0 6 2), tt]))) (m (o (I 66)) e)) (m (m (o tt) (o (U 94277 0 6 2))) (m (o (I 16)) e))) (n (I 0) (m (n (U 94277 0 6 2) (o ff) (o (I 63))) (m (o ff) e)) (m (m (o ff) e) (m (o (.agg [ns, ns, ns, ns, (I 16), (I 66), ff])) e)))) (n (I 16) (n (I 0) (m (n (A 93622 0) (o ff) (o z218)) (m (o ff) e)) (m (m (o ff) (o tt)) (m (o (I 66)) e))) (n (U 90491 0 1 6) (m (n tt (o (I 16)) (o (.tup [(U 94277 0 6 2), tt]))) e) (n (A 93621 0) (m (o ff) e) (n (U 90491 0 1 6) (o (A 93622 0)) e))))),
  [.code (c 119 30)], [], .run⟩,
 [⟨⟨56, 300, false, none⟩,
  (n z219 (n (I 0) (n (A 90497 0) (n (I 0) (m (n (A 90497 0) (o (I 64)) (n tn (o ff) e)) (n (I 16) (n z121 (o (I 3)) e) (m (o ff) e))) (m (n z221 (o tt) (m (o tn) e)) (n (A 90497 5) (n ff (o (I 63)) e) (m (o (I 16)) e)))) (n (A 91713 0) (m (n (I 0) (o (U 90491 0 1 6)) (n tn (o ff) e)) (n z219 (n tt (o (.tup [(I 1), tt])) e) (m (o (A 90497 0)) e))) (n (A 90497 3) (n ff (n (A 90497 0) (o (A 90497 7)) e) (m (o ff) e)) (n (I 0) (n tn (o (I 1)) e) (m (o (I 0)) e))))) (m (n tt (m (n (A 90497 5) (o (I 0)) (n tn (o (I 66)) e)) (n ff (n tt (o (I 66)) e) e)) (m (n tt e (m (o tn) e)) (n (I 16) (n ff (o (I 0)) e) (m (o (I 66)) e)))) (n (A 92960 0) (n (I 1) (n (A 90497 11) (o z222) (m (o tn) e)) (n (A 90497 0) (n (U 92925 0 3 3) (o z218) e) (m (o (A 90497 5)) e))) (m (n (A 90497 4) (n (A 90497 5) (o (A 91714 0)) e) (m (o tn) e)) (n (A 90497 7) (n tn (o tt) e) (m (o (U 90491 0 1 6)) e)))))) (n (I 0) (m (n (A 91712 0) (m (n z218 (o (I 0)) (n tn (o (I 1)) e)) (n (I 16) (n (.agg [(I 4), (I 15), q73]) (o (I 65)) e) (m (o ff) e))) (m (n z220 (o ff) (m (o tn) e)) (n (I 63) (n ff (o (A 90497 6)) e) (m (o (I 1)) e)))) (n (A 91714 0) (m (n (I 0) (o z223) (n ff (o ff) e)) (n z223 (n (A 91714 0) (o (A 90497 0)) e) (m (o z218) e))) (n ff (m (n z218 (o (I 62)) e) (m (o tn) e)) (n (I 2) (n tn (o tt) e) (m (o (A 90497 11)) e))))) (n (A 90498 0) (n (I 16) (m (n (I 63) (o (A 90497 11)) (n tn (o (I 0)) e)) (m (n tt (o tt) e) e)) (n (A 90497 0) (n tt (o z121) (m (o ff) e)) (n (A 90497 6) (n tn (o (.tup [(I 1), tt])) e) (m (o (I 0)) e)))) (n tt (n tt (n (U 90491 0 1 6) (o tt) (m (o tn) e)) (n z218 (n (I 3) (o (A 90497 5)) e) (m (o (I 63)) e))) (n z221 (n (I 15) (n (I 63) (o (U 92925 0 3 3)) e) (m (o tn) e)) (n (I 62) (n tn (o ff) e) e)))))),
  [.reg (r 56 186366 14), .code (c 56 251902), .code (c 56 8190)], [], .run⟩,
 ⟨⟨132, 25, false, none⟩,
  y121,
  [.reg (r 132 4 1), .code (c 132 6)], [], .run⟩,
 ⟨⟨60, 9, false, none⟩,
  y122,
  [.reg (r 60 4 2), .code .ret], [], .run⟩,
 ⟨⟨16, 45, false, none⟩,
  y123,
  [.reg (r 16 5270 3), .code (c 16 7318), .inBlock 1, .code (c 16 918), .inLoop (c 16 150), .inBlock 0, .code (c 16 30)], [], .run⟩,
 ⟨⟨4, 120, false, none⟩,
  y64,
  [.reg (r 4 22 1), .code (c 4 30)], [], .run⟩],
 ⟨(p 94278), g150⟩,
 []⟩
def k150 : List (IC Blk) := [(c 119 30), (.region (r 56 186366 14)), (c 56 251902), (c 56 8190), (.region (r 132 4 1)), (c 132 6), (.region (r 60 4 2)), .ret, (.region (r 16 5270 3)), (c 16 7318), .skip, (c 16 918), (c 16 150), .skip, (c 16 30), (.region (r 4 22 1)), (c 4 30)]
theorem h150 : codesSt s150.fr s150.cs s150.ls = k150 := by kernel_rfl
/-- the memory behind piece 151 -/
def g151 : T Blk := upd [(52633, (ce [(U 95094 0 258 1), ns, (I 0), ff, (I 16), (I 69), (I 1), (I 4), (I 2), (I 1), (I 1), (U 90491 0 1 6)])), (95094, (ce [q87, q4, q5, q6, q7, q8, q16, q17, q18, q19, q20, q21, q22, q23, q24, q25, q28, q29, q30, q31, q32, q33, q34, q35, q38, q39, q40, q41, q42, q43, q44, q45, q46, q47, q48, q49, q50, q51, q52, q53, q61, q62, q63, q64, q65, q66, q67, q68, q69, q70, q71, q72, q74, q75, q76, q77, q78, q79, q80, q81, q82, q83, q84, q85, q0, q0, q88, q89, q90, q91, q0, q0, q0, q0, q0, q0, q0, q0, q0, q0, q0, q0, q0, q0, q0, q0, q0, q0, q0, q0, q0, q0, q0, q0, q0, q0, q0, q0, q0, q0, q0, q0, q0, q0, q0, q0, q0, q0, q0, q0, q0, q0, q0, q0, q0, q0, q0, q0, q0, q0, q0, q0, q0, q0, q0, q0, q0, q0, q0, q0, q0, q0, q0, q0, q0, q0, q0, q0, q0, q0, q0, q0, q0, q0, q0, q0, q0, q0, q0, q0, q0, q0, q0, q0, q0, q0, q0, q0, q0, q0, q0, q0, q0, q0, q0, q0, q0, q0, q0, q0, q0, q0, q0, q0, q0, q0, q0, q0, q0, q0, q0, q0, q0, q0, q0, q0, q0, q0, q0, q0, q0, q0, q0, q0, q0, q0, q0, q0, q0, q0, q0, q0, q0, q0, q0, q0, q0, q0, q0, q0, q0, q0, q0, q0, q0, q0, q0, q0, q0, q0, q0, q0, q0, q0, q0, q0, q0, q0, q0, q0, q0, q0, q0, q0, q0, q0, q0, q0, q0, q0, q0, q0, q0, q0, q0, q0, q0, q0, q0, q0, q0, q0, q0, q0, q0, q0, q0, q0]))] (del [90497, 90496, 91714, 90498, 94277, 52634, 52635, 90410, 93621, 93620, 93622, 90493] g150)
/-- the state behind piece 151; its texts -/
def s151 : St :=
⟨⟨⟨4, 120, false, none⟩,
  (n ff (n (A 52633 0) (m (m e (o tt)) (m (o ff) e)) (m (m e (o z224)) (m (o z133) e))) (n tt (m (m e (o z131)) (m (o z133) e)) (m (m (o tt) e) (m (o z131) e)))),
  [.code (c 4 30)], [], .run⟩,
 [],
 ⟨(p 95097), g151⟩,
 []⟩
def k151 : List (IC Blk) := [(c 4 30)]
theorem h151 : codesSt s151.fr s151.cs s151.ls = k151 := by kernel_rfl
end
end Go.Proofs.YtgmnkagomhadcaaGreat.cleanForms
