/- The states between the pieces of the run of 'cleanForms', part 3. -/
import Derived.Test.YtgmnkagomhadcaaGreatCleanFormsD2
namespace Go.Proofs.YtgmnkagomhadcaaGreat.cleanForms
open Go.Ev Go.Ev.Lit
set_option maxRecDepth 100000
noncomputable section
def y124 : T V := (n z226 (n (I 2) (n (A 95896 0) (n (A 95898 0) (o (I 2)) e) (o z227)) (m (o z226) (o z228))) (n (I 66) (m (n (A 95908 0) (o (I 66)) e) (o (A 95907 0))) (n (A 95897 0) (o z227) (o (A 95907 0)))))
def y125 : T V := (n z226 (n (A 95098 0) (n (I 0) (n (I 2) (o tt) (o (I 2))) (n z226 (o (I 0)) e)) (n (I 0) (m e (o (I 66))) (o (I 0)))) (n (A 95099 0) (n (I 0) (m (o ff) (o (I 2))) (n (.tup [(I 0), tt]) (o (I 2)) e)) (n tt (o (.tup [(I 0), tt])) (n tt (o z226) e))))
def y126 : T V := (n ff (n (A 52633 0) (n (A 95097 0) (m (m (o (A 95097 2)) e) (o tt)) (m (o ff) (o (I 1)))) (m (m (m (o z226) e) (o z224)) (m (o z133) (o z224)))) (n tt (m (m e (o z131)) (m (o z133) (o ff))) (m (m (o tt) (o (A 52633 6))) (m (o z131) (o (A 95097 0))))))
/-- the memory behind piece 152 -/
def g152 : T Blk := upd [(95919, (ce [ff])), (95907, (ce [(U 95902 0 258 1), ns, (I 1), ff, (I 16), (I 69), (I 1), (I 4), (I 2), (I 1), (I 1), (U 95904 0 1 6)])), (95915, (ce [(U 95902 0 258 1), ns, (I 1), ff])), (95963, (ce [(I 68), (I 16)])), (95099, (ce [ns, ns, (I 0), ff, (I 0), (I 0), (I 0), (I 0), (I 0), (I 0), (I 0), ns])), (95913, (.map [] 0)), (95897, (ce [ns, ns, (I 0), ff, (I 0), (I 0), (I 0), (I 0), (I 0), (I 0), (I 0), ns])), (95097, (ce [(U 95094 0 258 1), ns, (I 1), ff, (I 16), (I 69), (I 1), (I 4), (I 2), (I 1), (I 1), (U 90491 0 1 6)])), (95909, (ce [ns, ns])), (95957, (ce [(I 69), (I 16)])), (95904, (ce [(I 1), (I 0), (I 0), (I 0), (I 0), (U 95906 0 9 3)])), (95920, (ce [(U 95902 0 258 1), ns, (I 1), ff, (I 0), (I 0), ns, ns, ns, ns, (U 95957 0 1 2)])), (95912, (ce [ns, ns])), (95896, (ce [(U 95094 0 258 1), ns, (I 1), ff, (I 16), (I 69), (I 1), (I 4), (I 2), (I 1), (I 1), (U 90491 0 1 6)])), (95908, (ce [(A 95907 0)])), (95906, (ce [(I 2), (I 24), q2, (I 1), (I 6), q1, (I 0), (I 0), q1, (I 0), (I 0), q1, (I 0), (I 0), q1, (I 0), (I 0), q1, (I 0), (I 0), q1, (I 0), (I 0), q1, (I 0), (I 0), q1])), (95914, (ce [ns, ns, (I 0), (I 0), (.map (p 95913)), ff])), (95898, (ce [(I 0)])), (95098, (ce [(U 95094 0 258 1), ns, (I 1), ff, (I 16), (I 69), (I 1), (I 4), (I 2), (I 1), (I 1), (U 90491 0 1 6)])), (95910, (ce [ns, ns])), (95918, (ce [(A 95920 0)])), (95902, (ce [q87, q4, q5, q6, q7, q8, q16, q17, q18, q19, q20, q21, q22, q23, q24, q25, q28, q29, q30, q31, q32, q33, q34, q35, q38, q39, q40, q41, q42, q43, q44, q45, q46, q47, q48, q49, q50, q51, q52, q53, q61, q62, q63, q64, q65, q66, q67, q68, q69, q70, q71, q72, q74, q75, q76, q77, q78, q79, q80, q81, q82, q83, q84, q85, q0, q0, q88, q89, q90, q91, q0, q0, q0, q0, q0, q0, q0, q0, q0, q0, q0, q0, q0, q0, q0, q0, q0, q0, q0, q0, q0, q0, q0, q0, q0, q0, q0, q0, q0, q0, q0, q0, q0, q0, q0, q0, q0, q0, q0, q0, q0, q0, q0, q0, q0, q0, q0, q0, q0, q0, q0, q0, q0, q0, q0, q0, q0, q0, q0, q0, q0, q0, q0, q0, q0, q0, q0, q0, q0, q0, q0, q0, q0, q0, q0, q0, q0, q0, q0, q0, q0, q0, q0, q0, q0, q0, q0, q0, q0, q0, q0, q0, q0, q0, q0, q0, q0, q0, q0, q0, q0, q0, q0, q0, q0, q0, q0, q0, q0, q0, q0, q0, q0, q0, q0, q0, q0, q0, q0, q0, q0, q0, q0, q0, q0, q0, q0, q0, q0, q0, q0, q0, q0, q0, q0, q0, q0, q0, q0, q0, q0, q0, q0, q0, q0, q0, q0, q0, q0, q0, q0, q0, q0, q0, q0, q0, q0, q0, q0, q0, q0, q0, q0, q0, q0, q0, q0, q0, q0, q0, q0, q0, q0, q0, q0, q0, q0, q0, q0, q0, q0, q0, q0, q0, q0, q0, q0, q0]))] (del [] g151)
/-- the state behind piece 152; its texts -/
def s152 : St :=
⟨⟨⟨215, 42, false, none⟩,
  (n (A 95920 0) (n (I 69) (m (n tt (o (.tup [(I 1), (I 1), (U 95963 0 1 2), tt])) e) (n (A 95920 0) (o tt) e)) (n (I 1) (m (o (I 1)) e) (o z123))) (m (n (I 1) (m (o (I 1)) e) (o (I 69))) (n (U 95963 0 1 2) (n (.tup [(I 1), (I 1), (U 95963 0 1 2), tt]) (o (U 95963 0 1 2)) e) (o (.agg [(I 4), (I 16), q92]))))),
  [.code (c 215 2)], [], .run⟩,
 [⟨⟨167, 14, false, none⟩,
  (n z225 (n (I 69) (m (o z225) (o (I 69))) (n (A 95919 0) (o (A 95920 0)) e)) (n (A 95917 0) (n (A 95918 0) (o (.agg [(U 95902 0 258 1), ns, (I 1), ff, (I 0), (I 0), ns, ns, ns, ns, ns])) e) (n (.fn 214 [(A 95918 0), (A 95919 0)]) (o (A 95920 0)) e))),
  [.reg (r 167 22 2), .code (c 167 30)], [.call 214 [(A 95918 0), (A 95919 0)]], .run⟩,
 ⟨⟨183, 24, false, none⟩,
  (n z225 (n (I 69) (m e (o (I 69))) (o ff)) (n (A 95916 0) (o ns) (m (o z225) e))),
  [.reg (r 183 4 2), .code (c 183 6)], [], .run⟩,
 ⟨⟨216, 83, false, none⟩,
  (n (A 95914 0) (n z225 (n (I 2) (m e (o (I 69))) e) e) (n (I 69) (o (I 66)) (n (A 95915 0) e (m (o z225) e)))),
  [.reg (r 216 4 2), .code (c 216 6)], [], .run⟩,
 ⟨⟨168, 70, false, none⟩,
  (n z225 (n (I 69) (n (I 0) (n (A 95911 0) (n ff (o (I 0)) e) (n (I 0) (o (A 95914 0)) e)) (m (n (U 95904 0 1 6) (o (I 0)) e) (n (I 0) (o (I 2)) e))) (n (I 66) (m (m (o ff) e) (n ff (o z225) e)) (m (n ff (o (.map (p 95913))) e) (o ff)))) (n (I 0) (n (I 2) (m (n (A 95914 0) (o ff) e) (n ff (o (A 95914 0)) e)) (m (n (I 1) (o (I 0)) e) (n ff (o (I 66)) e))) (n (U 95904 0 1 6) (m e (n ff (o (I 69)) e)) (n (A 95912 0) (n ff (o (.agg [ns, ns, (I 0), (I 0), (.map (p 95913)), ff])) e) (o ff))))),
  [.reg (r 168 22 5), .code (c 168 30)], [], .run⟩,
 ⟨⟨107, 40, false, none⟩,
  (n (A 95907 0) (n (I 0) (n (I 2) (m (n (A 95907 0) (o (A 95907 11)) e) (o (I 69))) (n (A 95910 0) (o (A 95907 0)) (o (I 66)))) (m (m (o (A 95907 0)) (o (I 0))) (m (o (A 95907 0)) (o (A 95907 0))))) (n (I 0) (n (I 66) (m (n (A 95907 0) (o (U 95904 0 1 6)) e) (o (I 0))) (m (o (A 95907 0)) (o (A 95907 0)))) (m (n (A 95909 0) (o z225) (o (I 2))) (n (A 95907 0) (o (A 95907 5)) (o (A 95907 0)))))),
  [.reg (r 107 4 20), .code (c 107 6)], [], .run⟩,
 ⟨⟨50, 164, false, none⟩,
  (n (A 95907 0) (n (I 2) (m (m (o (A 95907 3)) e) (n (A 95907 0) (o (I 2)) e)) (m (m (o tn) e) (o (A 95907 0)))) (n (I 66) (m (m (o ff) e) (n (A 95907 0) (o (I 66)) e)) (m (m (o (A 95907 0)) e) (o (A 95907 0))))),
  [.reg (r 50 4 3), .code (c 50 6)], [], .run⟩,
 ⟨⟨11, 22, false, none⟩,
  y124,
  [.reg (r 11 22 3), .code (c 11 30)], [.call 49 [(A 95896 0), (A 95897 0), (A 95898 0), (A 95908 0)]], .run⟩,
 ⟨⟨17, 35, false, none⟩,
  y125,
  [.reg (r 17 46 4), .code (c 17 62)], [], .run⟩,
 ⟨⟨4, 120, false, none⟩,
  y126,
  [.reg (r 4 382 1), .code (c 4 510)], [], .run⟩],
 ⟨(p 96013), g152⟩,
 []⟩
def k152 : List (IC Blk) := [(c 215 2), (.region (r 167 22 2)), (c 167 30), (.region (r 183 4 2)), (c 183 6), (.region (r 216 4 2)), (c 216 6), (.region (r 168 22 5)), (c 168 30), (.region (r 107 4 20)), (c 107 6), (.region (r 50 4 3)), (c 50 6), (.region (r 11 22 3)), (c 11 30), (.region (r 17 46 4)), (c 17 62), (.region (r 4 382 1)), (c 4 510)]
theorem h152 : codesSt s152.fr s152.cs s152.ls = k152 := by kernel_rfl
/-- the memory behind piece 153 -/
def g153 : T Blk := upd [(97448, (ce [(I 1), (I 0), q26, (I 1), (I 0), q27, (I 2), (I 0), q118, (I 3), (I 0), q119])), (97450, (ce [(I 3), (I 0)]))] (del [95957, 95963, 95909, 95910, 95913, 95912, 95915, 95914, 95919, 95918, 95920] g152)
/-- the state behind piece 153; its texts -/
def s153 : St :=
⟨⟨⟨50, 164, false, none⟩,
  (n (A 95907 0) (n (I 2) (m (m (o (A 95907 3)) e) (n (A 95907 0) (o (I 2)) e)) (m (m (o tn) e) (n (A 95907 0) (o (.agg [(U 97448 0 4 3), (U 97450 0 1 2)])) e))) (n (I 66) (m (m (o ff) e) (n (A 95907 0) (o (I 66)) e)) (m (m (o (A 95907 0)) e) (o (A 95907 0))))),
  [.code (c 50 6)], [], .run⟩,
 [⟨⟨11, 22, false, none⟩,
  y124,
  [.reg (r 11 22 3), .code (c 11 30)], [.call 49 [(A 95896 0), (A 95897 0), (A 95898 0), (A 95908 0)]], .run⟩,
 ⟨⟨17, 35, false, none⟩,
  y125,
  [.reg (r 17 46 4), .code (c 17 62)], [], .run⟩,
 ⟨⟨4, 120, false, none⟩,
  y126,
  [.reg (r 4 382 1), .code (c 4 510)], [], .run⟩],
 ⟨(p 97451), g153⟩,
 []⟩
def k153 : List (IC Blk) := [(c 50 6), (.region (r 11 22 3)), (c 11 30), (.region (r 17 46 4)), (c 17 62), (.region (r 4 382 1)), (c 4 510)]
theorem h153 : codesSt s153.fr s153.cs s153.ls = k153 := by kernel_rfl
/-- the memory behind piece 154 -/
def g154 : T Blk := upd [(97455, (ce [ns, ns])), (97451, (ce [ns, ns])), (97457, (ce [ns, ns, (I 17), (I 70), (.map (p 97456)), ff])), (97453, (ce [ns, ns])), (97456, (.map [((.agg [(I 1), q93]), (.agg [(I 66), (I 16)]), 0), ((.agg [(I 2), q120]), (.agg [(I 67), (I 16)]), 1), ((.agg [(I 3), q103]), (.agg [(I 68), (I 16)]), 2), ((.agg [(I 4), q92]), (.agg [(I 69), (I 16)]), 3)] 4)), (97452, (ce [ns, ns]))] (del [97448, 97450, 95098] g153)
/-- the state behind piece 154; its texts -/
def s154 : St :=
⟨⟨⟨168, 70, false, none⟩,
  (n z225 (n (I 69) (n (I 70) (n (A 97454 0) (n ff (o (I 70)) e) (n (I 17) (o (A 97457 0)) e)) (m (n (U 95904 0 1 6) (o (I 17)) e) (n (I 17) (o (I 2)) e))) (n (I 66) (m (m (o ff) e) (n ff (o z225) e)) (m (n ff (o (.map (p 97456))) e) (n ff (o tn) e)))) (n (I 17) (n (I 2) (m (n (A 97457 0) (o ff) e) (n ff (o (A 97457 0)) e)) (m (n (I 1) (o (I 70)) e) (n ff (o (I 66)) e))) (n (U 95904 0 1 6) (m e (n ff (o (I 69)) e)) (n (A 97455 0) (n ff (o (.agg [ns, ns, (I 17), (I 70), (.map (p 97456)), ff])) e) (o ff))))),
  [.code (c 168 30)], [], .run⟩,
 [⟨⟨107, 40, false, none⟩,
  (n (A 95907 0) (n (I 17) (n (I 2) (m (n (A 95907 0) (o (A 95907 11)) e) (o (I 69))) (n (A 97453 0) (o (A 95907 0)) (o (I 66)))) (m (m (o (A 95907 0)) (o (I 70))) (m (o (A 95907 0)) (o (A 95907 0))))) (n (I 70) (n (I 66) (m (n (A 95907 0) (o (U 95904 0 1 6)) e) (o (I 17))) (m (o (A 95907 0)) (o (A 95907 0)))) (m (n (A 97452 0) (o z225) (o (I 2))) (n (A 95907 0) (o (A 95907 5)) (o (A 95907 0)))))),
  [.reg (r 107 4 20), .code (c 107 6)], [], .run⟩,
 ⟨⟨50, 164, false, none⟩,
  (n (A 95907 0) (n (I 2) (m (n (A 97451 0) (n (A 95907 3) (o (A 95907 0)) e) (n (A 95907 0) (o (A 95907 0)) e)) (n (A 95907 0) (n (I 2) (o (A 95907 0)) e) (n (I 17) (o (I 4)) e))) (m (m (n tn (o (A 95907 0)) e) (n (A 95907 4) (o (A 95907 0)) e)) (n (A 95907 0) (n (.agg [(U 97448 0 4 3), (U 97450 0 1 2)]) (o (I 1)) e) (n ff (o (I 2)) e)))) (n (I 66) (m (m (n ff (o (I 17)) e) (n (A 95907 0) (o (A 95907 0)) e)) (n (A 95907 0) (n (I 66) (o (A 95907 6)) e) (n (I 17) (o (I 70)) e))) (n (I 17) (m (n (A 95907 0) (o (A 95907 0)) e) (n (I 16) (o (A 95907 7)) e)) (n (A 95907 0) (n (A 95907 0) (o (I 66)) e) (n tn (o (I 66)) e))))),
  [.reg (r 50 46 19), .code (c 50 62)], [], .run⟩,
 ⟨⟨11, 22, false, none⟩,
  y124,
  [.reg (r 11 22 3), .code (c 11 30)], [.call 49 [(A 95896 0), (A 95897 0), (A 95898 0), (A 95908 0)]], .run⟩,
 ⟨⟨17, 35, false, none⟩,
  y125,
  [.reg (r 17 46 4), .code (c 17 62)], [], .run⟩,
 ⟨⟨4, 120, false, none⟩,
  y126,
  [.reg (r 4 382 1), .code (c 4 510)], [], .run⟩],
 ⟨(p 98456), g154⟩,
 []⟩
def k154 : List (IC Blk) := [(c 168 30), (.region (r 107 4 20)), (c 107 6), (.region (r 50 46 19)), (c 50 62), (.region (r 11 22 3)), (c 11 30), (.region (r 17 46 4)), (c 17 62), (.region (r 4 382 1)), (c 4 510)]
theorem h154 : codesSt s154.fr s154.cs s154.ls = k154 := by kernel_rfl
/-- the memory behind piece 155 -/
def g155 : T Blk := upd [(99759, (ce [q87, q4, q5, q6, q7, q8, q16, q17, q18, q19, q20, q21, q22, q23, q24, q25, q28, q29, q30, q31, q32, q33, q34, q35, q38, q39, q40, q41, q42, q43, q44, q45, q46, q47, q48, q49, q50, q51, q52, q53, q61, q62, q63, q64, q65, q66, q67, q68, q69, q70, q71, q72, q74, q75, q76, q77, q78, q79, q80, q81, q82, q83, q84, q85, q0, q0, q88, q89, q90, q91, q0, q0, q0, q0, q0, q0, q0, q0, q0, q0, q0, q0, q0, q0, q0, q0, q0, q0, q0, q0, q0, q0, q0, q0, q0, q0, q0, q0, q0, q0, q0, q0, q0, q0, q0, q0, q0, q0, q0, q0, q0, q0, q0, q0, q0, q0, q0, q0, q0, q0, q0, q0, q0, q0, q0, q0, q0, q0, q0, q0, q0, q0, q0, q0, q0, q0, q0, q0, q0, q0, q0, q0, q0, q0, q0, q0, q0, q0, q0, q0, q0, q0, q0, q0, q0, q0, q0, q0, q0, q0, q0, q0, q0, q0, q0, q0, q0, q0, q0, q0, q0, q0, q0, q0, q0, q0, q0, q0, q0, q0, q0, q0, q0, q0, q0, q0, q0, q0, q0, q0, q0, q0, q0, q0, q0, q0, q0, q0, q0, q0, q0, q0, q0, q0, q0, q0, q0, q0, q0, q0, q0, q0, q0, q0, q0, q0, q0, q0, q0, q0, q0, q0, q0, q0, q0, q0, q0, q0, q0, q0, q0, q0, q0, q0, q0, q0, q0, q0, q0, q0, q0, q0, q0, q0, q0, q0, q0, q0, q0, q0, q0, q0, q0, q0, q0, q0, q0, q0])), (99772, (ce [(I 2), (I 24), q2, (I 1), (I 6), q1, (I 0), (I 0), q1, (I 0), (I 0), q1, (I 0), (I 0), q1, (I 0), (I 0), q1, (I 0), (I 0), q1, (I 0), (I 0), q1, (I 0), (I 0), q1])), (99762, (ce [(I 70), q121])), (99770, (ce [(I 1), (I 0), (I 0), (I 0), (I 0), (U 99772 0 9 3)])), (99774, (ce [(U 99759 0 258 1), (U 99762 0 1 2), (I 0), tt, (I 16), (I 69), (I 1), (I 4), (I 2), (I 1), (I 1), (U 99770 0 1 6)]))] (del [95897, 95896, 95898, 95902, 95904, 95907, 95906, 95908, 97451, 97453, 97452, 97455, 97457, 97456, 95099] g154)
/-- the state behind piece 155; its texts -/
def s155 : St :=
⟨⟨⟨4, 120, false, none⟩,
  (n ff (n (A 52633 0) (n (A 95097 0) (m (m (o (A 95097 2)) e) (o tt)) (m (n ff (o z229) e) (o (I 1)))) (n (I 0) (m (m (o z226) e) (o z224)) (m (n z133 (o (I 11)) e) (o z224)))) (n tt (n (A 99774 0) (m (m (o z230) e) (o z131)) (m (n z133 (o (I 0)) e) (o ff))) (n (I 11) (m (n tt (o z230) e) (o (A 52633 6))) (m (o z131) (o (A 95097 0)))))),
  [.code (c 4 510)], [], .run⟩,
 [],
 ⟨(p 99775), g155⟩,
 []⟩
def k155 : List (IC Blk) := [(c 4 510)]
theorem h155 : codesSt s155.fr s155.cs s155.ls = k155 := by kernel_rfl
def y127 : T V := (n z224 (n (I 2) (n (A 100573 0) (n (A 100575 0) (o (I 2)) e) (o z232)) (m (o z224) (o z233))) (n (I 66) (m (n (A 100585 0) (o (I 66)) e) (o (A 100584 0))) (n (A 100574 0) (o z232) (o (A 100584 0)))))
def y128 : T V := (n z224 (n (A 99775 0) (n (I 0) (n (I 2) (o tt) (o (I 2))) (n z224 (o (I 0)) e)) (n (I 0) (m e (o (I 66))) (o (I 0)))) (n (A 99776 0) (n (I 0) (m (o ff) (o (I 2))) (n (.tup [(I 0), tt]) (o (I 2)) e)) (n tt (o (.tup [(I 0), tt])) (n tt (o z224) e))))
def y129 : T V := (n ff (n (A 52633 0) (n (A 95097 0) (m (m (o (A 95097 2)) e) (n tt (o z224) e)) (m (n ff (o z229) e) (o (I 1)))) (n (I 0) (m (m (o z226) e) (o z224)) (m (n z133 (o (I 11)) e) (o z224)))) (n tt (n (A 99774 0) (m (m (o z230) e) (o z131)) (m (n z133 (o (I 0)) e) (o ff))) (n (I 11) (m (n tt (o z230) e) (o (A 52633 6))) (m (o z131) (o (A 95097 0))))))
/-- the memory behind piece 156 -/
def g156 : T Blk := upd [(99775, (ce [(U 95094 0 258 1), ns, (I 0), ff, (I 16), (I 69), (I 1), (I 4), (I 2), (I 1), (I 1), (U 90491 0 1 6)])), (100575, (ce [(I 0)])), (100591, (ce [ns, ns, (I 0), (I 0), (.map (p 100590)), ff])), (100583, (ce [(I 2), (I 24), q2, (I 1), (I 6), q1, (I 0), (I 0), q1, (I 0), (I 0), q1, (I 0), (I 0), q1, (I 0), (I 0), q1, (I 0), (I 0), q1, (I 0), (I 0), q1, (I 0), (I 0), q1])), (100579, (ce [q87, q4, q5, q6, q7, q8, q16, q17, q18, q19, q20, q21, q22, q23, q24, q25, q28, q29, q30, q31, q32, q33, q34, q35, q38, q39, q40, q41, q42, q43, q44, q45, q46, q47, q48, q49, q50, q51, q52, q53, q61, q62, q63, q64, q65, q66, q67, q68, q69, q70, q71, q72, q74, q75, q76, q77, q78, q79, q80, q81, q82, q83, q84, q85, q0, q0, q88, q89, q90, q91, q0, q0, q0, q0, q0, q0, q0, q0, q0, q0, q0, q0, q0, q0, q0, q0, q0, q0, q0, q0, q0, q0, q0, q0, q0, q0, q0, q0, q0, q0, q0, q0, q0, q0, q0, q0, q0, q0, q0, q0, q0, q0, q0, q0, q0, q0, q0, q0, q0, q0, q0, q0, q0, q0, q0, q0, q0, q0, q0, q0, q0, q0, q0, q0, q0, q0, q0, q0, q0, q0, q0, q0, q0, q0, q0, q0, q0, q0, q0, q0, q0, q0, q0, q0, q0, q0, q0, q0, q0, q0, q0, q0, q0, q0, q0, q0, q0, q0, q0, q0, q0, q0, q0, q0, q0, q0, q0, q0, q0, q0, q0, q0, q0, q0, q0, q0, q0, q0, q0, q0, q0, q0, q0, q0, q0, q0, q0, q0, q0, q0, q0, q0, q0, q0, q0, q0, q0, q0, q0, q0, q0, q0, q0, q0, q0, q0, q0, q0, q0, q0, q0, q0, q0, q0, q0, q0, q0, q0, q0, q0, q0, q0, q0, q0, q0, q0, q0, q0, q0, q0, q0, q0, q0, q0, q0, q0, q0, q0, q0, q0, q0, q0, q0, q0, q0, q0, q0, q0])), (100595, (ce [(A 100597 0)])), (100587, (ce [ns, ns])), (100585, (ce [(A 100584 0)])), (100581, (ce [(I 1), (I 0), (I 0), (I 0), (I 0), (U 100583 0 9 3)])), (100597, (ce [(U 100579 0 258 1), ns, (I 0), ff, (I 0), (I 0), ns, ns, ns, ns, (U 100634 0 1 2)])), (100589, (ce [ns, ns])), (100573, (ce [(U 95094 0 258 1), ns, (I 0), ff, (I 16), (I 69), (I 1), (I 4), (I 2), (I 1), (I 1), (U 90491 0 1 6)])), (99776, (ce [ns, ns, (I 0), ff, (I 0), (I 0), (I 0), (I 0), (I 0), (I 0), (I 0), ns])), (100640, (ce [(I 68), (I 16)])), (100592, (ce [(U 100579 0 258 1), ns, (I 0), ff])), (100584, (ce [(U 100579 0 258 1), ns, (I 0), ff, (I 16), (I 69), (I 1), (I 4), (I 2), (I 1), (I 1), (U 100581 0 1 6)])), (100596, (ce [ff])), (100586, (ce [ns, ns])), (100634, (ce [(I 69), (I 16)])), (100590, (.map [] 0)), (100574, (ce [ns, ns, (I 0), ff, (I 0), (I 0), (I 0), (I 0), (I 0), (I 0), (I 0), ns]))] (del [] g155)
/-- the state behind piece 156; its texts -/
def s156 : St :=
⟨⟨⟨215, 42, false, none⟩,
  (n (A 100597 0) (n (I 69) (m (n tt (o (.tup [(I 1), (I 1), (U 100640 0 1 2), tt])) e) (n (A 100597 0) (o tt) e)) (n (I 1) (m (o (I 1)) e) (o z123))) (m (n (I 1) (m (o (I 1)) e) (o (I 69))) (n (U 100640 0 1 2) (n (.tup [(I 1), (I 1), (U 100640 0 1 2), tt]) (o (U 100640 0 1 2)) e) (o (.agg [(I 4), (I 16), q92]))))),
  [.code (c 215 2)], [], .run⟩,
 [⟨⟨167, 14, false, none⟩,
  (n z231 (n (I 69) (m (o z231) (o (I 69))) (n (A 100596 0) (o (A 100597 0)) e)) (n (A 100594 0) (n (A 100595 0) (o (.agg [(U 100579 0 258 1), ns, (I 0), ff, (I 0), (I 0), ns, ns, ns, ns, ns])) e) (n (.fn 214 [(A 100595 0), (A 100596 0)]) (o (A 100597 0)) e))),
  [.reg (r 167 22 2), .code (c 167 30)], [.call 214 [(A 100595 0), (A 100596 0)]], .run⟩,
 ⟨⟨183, 24, false, none⟩,
  (n z231 (n (I 69) (m e (o (I 69))) (o ff)) (n (A 100593 0) (o ns) (m (o z231) e))),
  [.reg (r 183 4 2), .code (c 183 6)], [], .run⟩,
 ⟨⟨216, 83, false, none⟩,
  (n (A 100591 0) (n z231 (n (I 2) (m e (o (I 69))) e) e) (n (I 69) (o (I 66)) (n (A 100592 0) e (m (o z231) e)))),
  [.reg (r 216 4 2), .code (c 216 6)], [], .run⟩,
 ⟨⟨168, 70, false, none⟩,
  (n z231 (n (I 69) (n (I 0) (n (A 100588 0) (n ff (o (I 0)) e) (n (I 0) (o (A 100591 0)) e)) (m (n (U 100581 0 1 6) (o (I 0)) e) (n (I 0) (o (I 2)) e))) (n (I 66) (m (m (o ff) e) (n ff (o z231) e)) (m (n ff (o (.map (p 100590))) e) (o ff)))) (n (I 0) (n (I 2) (m (n (A 100591 0) (o ff) e) (n ff (o (A 100591 0)) e)) (m (n (I 1) (o (I 0)) e) (n ff (o (I 66)) e))) (n (U 100581 0 1 6) (m e (n ff (o (I 69)) e)) (n (A 100589 0) (n ff (o (.agg [ns, ns, (I 0), (I 0), (.map (p 100590)), ff])) e) (o ff))))),
  [.reg (r 168 22 5), .code (c 168 30)], [], .run⟩,
 ⟨⟨107, 40, false, none⟩,
  (n (A 100584 0) (n (I 0) (n (I 2) (m (n (A 100584 0) (o (A 100584 11)) e) (o (I 69))) (n (A 100587 0) (o (A 100584 0)) (o (I 66)))) (m (m (o (A 100584 0)) (o (I 0))) (m (o (A 100584 0)) (o (A 100584 0))))) (n (I 0) (n (I 66) (m (n (A 100584 0) (o (U 100581 0 1 6)) e) (o (I 0))) (m (o (A 100584 0)) (o (A 100584 0)))) (m (n (A 100586 0) (o z231) (o (I 2))) (n (A 100584 0) (o (A 100584 5)) (o (A 100584 0)))))),
  [.reg (r 107 4 20), .code (c 107 6)], [], .run⟩,
 ⟨⟨50, 164, false, none⟩,
  (n (A 100584 0) (n (I 2) (m (m (o (A 100584 3)) e) (n (A 100584 0) (o (I 2)) e)) (m (m (o tn) e) (o (A 100584 0)))) (n (I 66) (m (m (o ff) e) (n (A 100584 0) (o (I 66)) e)) (m (m (o (A 100584 0)) e) (o (A 100584 0))))),
  [.reg (r 50 4 3), .code (c 50 6)], [], .run⟩,
 ⟨⟨11, 22, false, none⟩,
  y127,
  [.reg (r 11 22 3), .code (c 11 30)], [.call 49 [(A 100573 0), (A 100574 0), (A 100575 0), (A 100585 0)]], .run⟩,
 ⟨⟨17, 35, false, none⟩,
  y128,
  [.reg (r 17 46 4), .code (c 17 62)], [], .run⟩,
 ⟨⟨4, 120, false, none⟩,
  y129,
  [.reg (r 4 766 1), .code (c 4 1022)], [], .run⟩],
 ⟨(p 100690), g156⟩,
 []⟩
def k156 : List (IC Blk) := [(c 215 2), (.region (r 167 22 2)), (c 167 30), (.region (r 183 4 2)), (c 183 6), (.region (r 216 4 2)), (c 216 6), (.region (r 168 22 5)), (c 168 30), (.region (r 107 4 20)), (c 107 6), (.region (r 50 4 3)), (c 50 6), (.region (r 11 22 3)), (c 11 30), (.region (r 17 46 4)), (c 17 62), (.region (r 4 766 1)), (c 4 1022)]
theorem h156 : codesSt s156.fr s156.cs s156.ls = k156 := by kernel_rfl
/-- the memory behind piece 157 -/
def g157 : T Blk := upd [(102127, (ce [(I 3), (I 0)])), (102125, (ce [(I 1), (I 0), q26, (I 1), (I 0), q27, (I 2), (I 0), q118, (I 3), (I 0), q119]))] (del [100634, 100640, 100587, 100586, 100589, 100591, 100590, 100592, 100595, 100597, 100596] g156)
/-- the state behind piece 157; its texts -/
def s157 : St :=
⟨⟨⟨50, 164, false, none⟩,
  (n (A 100584 0) (n (I 2) (m (m (o (A 100584 3)) e) (n (A 100584 0) (o (I 2)) e)) (m (m (o tn) e) (n (A 100584 0) (o (.agg [(U 102125 0 4 3), (U 102127 0 1 2)])) e))) (n (I 66) (m (m (o ff) e) (n (A 100584 0) (o (I 66)) e)) (m (m (o (A 100584 0)) e) (o (A 100584 0))))),
  [.code (c 50 6)], [], .run⟩,
 [⟨⟨11, 22, false, none⟩,
  y127,
  [.reg (r 11 22 3), .code (c 11 30)], [.call 49 [(A 100573 0), (A 100574 0), (A 100575 0), (A 100585 0)]], .run⟩,
 ⟨⟨17, 35, false, none⟩,
  y128,
  [.reg (r 17 46 4), .code (c 17 62)], [], .run⟩,
 ⟨⟨4, 120, false, none⟩,
  y129,
  [.reg (r 4 766 1), .code (c 4 1022)], [], .run⟩],
 ⟨(p 102128), g157⟩,
 []⟩
def k157 : List (IC Blk) := [(c 50 6), (.region (r 11 22 3)), (c 11 30), (.region (r 17 46 4)), (c 17 62), (.region (r 4 766 1)), (c 4 1022)]
theorem h157 : codesSt s157.fr s157.cs s157.ls = k157 := by kernel_rfl
/-- the memory behind piece 158 -/
def g158 : T Blk := upd [(102129, (ce [ns, ns])), (102133, (.map [((.agg [(I 1), q93]), (.agg [(I 66), (I 16)]), 0), ((.agg [(I 2), q120]), (.agg [(I 67), (I 16)]), 1), ((.agg [(I 3), q103]), (.agg [(I 68), (I 16)]), 2), ((.agg [(I 4), q92]), (.agg [(I 69), (I 16)]), 3)] 4)), (102128, (ce [ns, ns])), (102132, (ce [ns, ns])), (102130, (ce [ns, ns])), (102134, (ce [ns, ns, (I 17), (I 70), (.map (p 102133)), ff]))] (del [100573, 102125, 102127, 99775] g157)
/-- the state behind piece 158; its texts -/
def s158 : St :=
⟨⟨⟨168, 70, false, none⟩,
  (n z231 (n (I 69) (n (I 70) (n (A 102131 0) (n ff (o (I 70)) e) (n (I 17) (o (A 102134 0)) e)) (m (n (U 100581 0 1 6) (o (I 17)) e) (n (I 17) (o (I 2)) e))) (n (I 66) (m (m (o ff) e) (n ff (o z231) e)) (m (n ff (o (.map (p 102133))) e) (n ff (o tn) e)))) (n (I 17) (n (I 2) (m (n (A 102134 0) (o ff) e) (n ff (o (A 102134 0)) e)) (m (n (I 1) (o (I 70)) e) (n ff (o (I 66)) e))) (n (U 100581 0 1 6) (m e (n ff (o (I 69)) e)) (n (A 102132 0) (n ff (o (.agg [ns, ns, (I 17), (I 70), (.map (p 102133)), ff])) e) (o ff))))),
  [.code (c 168 30)], [], .run⟩,
 [⟨⟨107, 40, false, none⟩,
  (n (A 100584 0) (n (I 17) (n (I 2) (m (n (A 100584 0) (o (A 100584 11)) e) (o (I 69))) (n (A 102130 0) (o (A 100584 0)) (o (I 66)))) (m (m (o (A 100584 0)) (o (I 70))) (m (o (A 100584 0)) (o (A 100584 0))))) (n (I 70) (n (I 66) (m (n (A 100584 0) (o (U 100581 0 1 6)) e) (o (I 17))) (m (o (A 100584 0)) (o (A 100584 0)))) (m (n (A 102129 0) (o z231) (o (I 2))) (n (A 100584 0) (o (A 100584 5)) (o (A 100584 0)))))),
  [.reg (r 107 4 20), .code (c 107 6)], [], .run⟩,
 ⟨⟨50, 164, false, none⟩,
  (n (A 100584 0) (n (I 2) (m (n (A 102128 0) (n (A 100584 3) (o (A 100584 0)) e) (n (A 100584 0) (o (A 100584 0)) e)) (n (A 100584 0) (n (I 2) (o (A 100584 0)) e) (n (I 17) (o (I 4)) e))) (m (m (n tn (o (A 100584 0)) e) (n (A 100584 4) (o (A 100584 0)) e)) (n (A 100584 0) (n (.agg [(U 102125 0 4 3), (U 102127 0 1 2)]) (o (I 1)) e) (n ff (o (I 2)) e)))) (n (I 66) (m (m (n ff (o (I 17)) e) (n (A 100584 0) (o (A 100584 0)) e)) (n (A 100584 0) (n (I 66) (o (A 100584 6)) e) (n (I 17) (o (I 70)) e))) (n (I 17) (m (n (A 100584 0) (o (A 100584 0)) e) (n (I 16) (o (A 100584 7)) e)) (n (A 100584 0) (n (A 100584 0) (o (I 66)) e) (n tn (o (I 66)) e))))),
  [.reg (r 50 46 19), .code (c 50 62)], [], .run⟩,
 ⟨⟨11, 22, false, none⟩,
  y127,
  [.reg (r 11 22 3), .code (c 11 30)], [.call 49 [(A 100573 0), (A 100574 0), (A 100575 0), (A 100585 0)]], .run⟩,
 ⟨⟨17, 35, false, none⟩,
  y128,
  [.reg (r 17 46 4), .code (c 17 62)], [], .run⟩,
 ⟨⟨4, 120, false, none⟩,
  y129,
  [.reg (r 4 766 1), .code (c 4 1022)], [], .run⟩],
 ⟨(p 103133), g158⟩,
 []⟩
def k158 : List (IC Blk) := [(c 168 30), (.region (r 107 4 20)), (c 107 6), (.region (r 50 46 19)), (c 50 62), (.region (r 11 22 3)), (c 11 30), (.region (r 17 46 4)), (c 17 62), (.region (r 4 766 1)), (c 4 1022)]
theorem h158 : codesSt s158.fr s158.cs s158.ls = k158 := by kernel_rfl
/-- the memory behind piece 159 -/
def g159 : T Blk := upd [(104640, (ce [q87, q4, q5, q6, q7, q8, q16, q17, q18, q19, q20, q21, q22, q23, q24, q25, q28, q29, q30, q31, q32, q33, q34, q35, q38, q39, q40, q41, q42, q43, q44, q45, q46, q47, q48, q49, q50, q51, q52, q53, q61, q62, q63, q64, q65, q66, q67, q68, q69, q70, q71, q72, q74, q75, q76, q77, q78, q79, q80, q81, q82, q83, q84, q85, q0, q0, q88, q89, q90, q91, q121, q134, q135, q136, q137, q0, q0, q0, q0, q0, q0, q0, q0, q0, q0, q0, q0, q0, q0, q0, q0, q0, q0, q0, q0, q0, q0, q0, q0, q0, q0, q0, q0, q0, q0, q0, q0, q0, q0, q0, q0, q0, q0, q0, q0, q0, q0, q0, q0, q0, q0, q0, q0, q0, q0, q0, q0, q0, q0, q0, q0, q0, q0, q0, q0, q0, q0, q0, q0, q0, q0, q0, q0, q0, q0, q0, q0, q0, q0, q0, q0, q0, q0, q0, q0, q0, q0, q0, q0, q0, q0, q0, q0, q0, q0, q0, q0, q0, q0, q0, q0, q0, q0, q0, q0, q0, q0, q0, q0, q0, q0, q0, q0, q0, q0, q0, q0, q0, q0, q0, q0, q0, q0, q0, q0, q0, q0, q0, q0, q0, q0, q0, q0, q0, q0, q0, q0, q0, q0, q0, q0, q0, q0, q0, q0, q0, q0, q0, q0, q0, q0, q0, q0, q0, q0, q0, q0, q0, q0, q0, q0, q0, q0, q0, q0, q0, q0, q0, q0, q0, q0, q0, q0, q0, q0, q0, q0, q0, q0, q0, q0, q0, q0, q0, q0, q0, q0, q0])), (104648, (ce [(U 104640 0 258 1), ns, (I 0), ff, (I 17), (I 74), (I 1), (I 9), (I 2), (I 1), (I 1), (U 100581 0 1 6)]))] (del [99776, 100575, 100574, 100579, 100585, 100584, 102129, 102128, 102130, 102133, 102132, 102134] g158)
/-- the state behind piece 159; its texts -/
def s159 : St :=
⟨⟨⟨4, 120, false, none⟩,
  (n ff (n (A 52633 0) (n (A 95097 0) (n (A 104648 0) (m (o (A 95097 2)) e) (n tt (o z224) e)) (m (n ff (o z229) e) (n (I 1) (o (I 0)) e))) (n (I 0) (n (I 0) (m (o z226) e) (n z224 (o z234) e)) (m (n z133 (o (I 11)) e) (o z224)))) (n tt (n (A 99774 0) (n (I 0) (m (o z230) e) (n z131 (o z235) e)) (m (n z133 (o (I 0)) e) (o ff))) (n (I 11) (m (n tt (o z230) e) (n (A 52633 6) (o (I 0)) e)) (m (n z131 (o z235) e) (o (A 95097 0)))))),
  [.code (c 4 1022)], [], .run⟩,
 [],
 ⟨(p 104649), g159⟩,
 []⟩
def k159 : List (IC Blk) := [(c 4 1022)]
theorem h159 : codesSt s159.fr s159.cs s159.ls = k159 := by kernel_rfl
/-- the memory behind piece 160 -/
def g160 : T Blk := upd [(105495, (ce [(I 0), (I 0), ns, ns, ns, ns, ns])), (105528, (ce [(I 4), (I 17), q101])), (105492, (ce [(I 0), (I 0), (I 0), (I 0)])), (105494, (ce [(U 104640 0 258 1), ns, (I 0), ff])), (105534, (ce [(I 73), (I 17)]))] (del [52631, 52008, 52009, 99759, 99762, 95094, 95097] g159)
/-- the state behind piece 160; its texts -/
def s160 : St :=
⟨⟨⟨123, 134, false, none⟩,
  (n z236 (n (I 74) (m (n tt (m (o (.agg [(I 4), (I 17), q101])) e) (o (I 74))) (m (m (o (U 105534 0 1 2)) e) (o tt))) (n ff (n (I 1) (m (o (I 1)) e) (o (.agg [(I 4), (I 17), q101]))) (m (o (.tup [(.agg [(I 4), (I 17), q101]), tt])) e))) (n (A 105494 0) (n (A 105495 0) (n (I 1) (m (o (.tup [(I 1), (I 1), (U 105534 0 1 2), tt])) e) (o (.tup [(.agg [(I 4), (I 17), q101]), tt]))) (m (m (o tt) e) (o ff))) (n (A 105528 0) (n (U 105534 0 1 2) (m (o (I 1)) e) (o tt)) (m (o z236) (o (.tup [(I 1), (I 1), (U 105534 0 1 2), tt])))))),
  [.code (c 123 30)], [], .run⟩,
 [⟨⟨63, 33, false, none⟩,
  (n z236 (n (I 74) (m e (o z236)) (o ff)) (n (A 105493 0) (n ns e (o (I 74))) e)),
  [.reg (r 63 4 2), .code (c 63 6)], [], .run⟩,
 ⟨⟨18, 46, false, none⟩,
  (n z236 (n (I 74) (m (m (o (I 74)) e) (o (I 4))) (o (S 105492 0 4 4))) (n (A 105490 0) (n ns e (o (S 105492 0 4 4))) (m (o z236) (o z236)))),
  [.reg (r 18 10 2), .code (c 18 14)], [], .run⟩,
 ⟨⟨4, 120, false, none⟩,
  (n ff (n (A 52633 0) (n (A 95097 0) (n (A 104648 0) (n (I 0) (o (A 95097 2)) (o z237)) (n tt (o z224) (o (.tup [z238, (I 0), (I 2)])))) (n (I 0) (n ff (o z229) (o (A 105454 0))) (n (I 1) (o (I 0)) (o (A 104648 0))))) (n (I 0) (n (I 0) (m (o z226) (o (I 2))) (n z224 (o z234) (o (I 0)))) (n (A 105454 0) (n z133 (o (I 11)) (o (.tup [z238, (I 0), (I 2)]))) (n z224 (o z234) (o (A 104648 5)))))) (n tt (n (A 99774 0) (n (I 0) (n (I 2) (o z230) (o (I 0))) (n z131 (o z235) (o z238))) (n (I 2) (n z133 (o (I 0)) (o (A 105454 3))) (n ff (o (.tup [z237, (I 0), (I 2)])) (o z236)))) (n (I 11) (n (A 105453 0) (n tt (o z230) (o z224)) (n (A 52633 6) (o (I 0)) (o (I 2)))) (n (A 105489 0) (n z131 (o z235) (o (.agg [(U 95094 0 258 1), ns, (I 0), tt, (I 16), (I 69), (I 1), (I 4), (I 2), (I 1), (I 1), (U 90491 0 1 6)]))) (n (A 95097 0) (o (.tup [z237, (I 0), (I 2)])) (o (I 74))))))),
  [.reg (r 4 24574 4), .code (c 4 32766)], [], .run⟩],
 ⟨(p 105579), g160⟩,
 []⟩
def k160 : List (IC Blk) := [(c 123 30), (.region (r 63 4 2)), (c 63 6), (.region (r 18 10 2)), (c 18 14), (.region (r 4 24574 4)), (c 4 32766)]
theorem h160 : codesSt s160.fr s160.cs s160.ls = k160 := by kernel_rfl
end
end Go.Proofs.YtgmnkagomhadcaaGreat.cleanForms
