/- The states between the pieces of the run of 'cleanForms', part 1. -/
import Derived.Test.YtgmnkagomhadcaaGreatCleanFormsD0
namespace Go.Proofs.YtgmnkagomhadcaaGreat.cleanForms
open Go.Ev Go.Ev.Lit
set_option maxRecDepth 100000
noncomputable section
/-- the memory behind piece 45 -/
def g45 : T Blk := upd [(26623, (ce [ns, ns, (U 27499 0 6 2), (U 27500 0 6 3), (I 0), (I 0), ff])), (27499, (ce [(I 7), (I 2), (I 8), (I 2), (I 40), (I 10), (I 41), (I 10), (I 42), (I 10), (I 43), (I 10)])), (27500, (ce [(I 1), (I 2), q26, (I 1), (I 2), q27, (I 1), (I 10), q98, (I 2), (I 10), q113, (I 3), (I 10), q58, (I 4), (I 10), q13]))] (del [26753, 26626, 26820, 27093, 27095, 26711, 27096, 26712, 27100, 27115, 26621] g44)
/-- the state behind piece 45; its texts -/
def s45 : St :=
⟨⟨⟨119, 207, false, none⟩,
  (n z76 (n (I 43) (n (I 0) (n (A 26621 0) (n ff (n (I 1) (n (A 27278 10) (o tt) e) (o (A 26623 0))) (n (.tup [(U 27278 0 6 2), tt]) (o (A 27278 10)) (o (U 27500 0 6 3)))) (m (n (I 0) (o z77) (o (S 27497 0 1 1))) (n (I 6) (o (A 27278 10)) (o tt)))) (m (n (I 6) (n tt (o (I 5)) (o (U 27278 0 6 2))) (n (U 27278 0 6 2) (o ff) (o (A 26623 3)))) (m (n (I 0) (o tt) (o (A 26623 3))) (n z77 (o tt) (o (I 0)))))) (n (I 0) (m (n (U 27278 0 6 2) (n ff (o (I 43)) (o (A 26623 2))) (n (I 43) (o (I 0)) (o (A 26623 2)))) (m (n ff (o tt) (o (A 26623 0))) (n (I 5) (o (I 0)) e))) (m (n tt (n ff (o (A 27278 11)) (o (A 27278 10))) (n (I 6) (o (I 5)) (o (U 26613 0 1 6)))) (m (n z9 (o (I 5)) (o (.agg [(I 4), (I 10), q13]))) (n (U 27278 0 6 2) (o (A 26623 0)) (o (A 26613 5))))))) (n (I 0) (n (I 0) (m (n (A 26623 0) (n ff (n (A 27278 10) (o ff) e) (o (A 26623 0))) (n z76 (o (I 43)) (o (A 26623 0)))) (m (n ff (o (.agg [(I 4), (I 10), q13])) (o (U 27499 0 6 2))) (n ff (o (I 43)) e))) (m (n (A 27464 0) (n ff (o (A 27278 10)) (o (I 5))) (n tt (o (U 27278 0 6 2)) (o (I 0)))) (m (n (I 0) (o (U 27278 0 6 2)) (o (U 27463 0 5 3))) (n z76 (o tt) (o (A 26613 0)))))) (n (U 26613 0 1 6) (m (n tt (n (I 0) (o (U 27278 0 6 2)) (o (U 27462 0 5 2))) (n (.tup [(U 27278 0 6 2), tt]) (o ff) (o (A 26623 0)))) (m (m (o tt) (o (A 26623 0))) (n (I 6) (o tt) (o (U 26613 0 1 6))))) (n (A 26622 0) (n (I 0) (n ff (o (I 10)) (o (.agg [(I 43), (I 10)]))) (n (U 27278 0 6 2) (o (A 27278 10)) (o (I 1)))) (n (U 26613 0 1 6) (n (A 26623 0) (o (A 27278 10)) (o (S 27498 0 1 1))) (n (I 5) (o (A 26623 0)) (o (U 26538 0 9 3)))))))),
  [.code (c 119 25182), .code (c 119 12894), .inBlock 3, .code (c 119 3678), .inLoop (c 119 606), .inBlock 2, .code (c 119 126)], [], .run⟩,
 [⟨⟨56, 300, false, none⟩,
  y36,
  [.reg (r 56 10 8), .code (c 56 14)], [], .run⟩,
 ⟨⟨132, 25, false, none⟩,
  y37,
  [.reg (r 132 4 1), .code (c 132 6)], [], .run⟩,
 ⟨⟨60, 9, false, none⟩,
  y38,
  [.reg (r 60 4 2), .code .ret], [], .run⟩,
 ⟨⟨16, 45, false, none⟩,
  y39,
  [.reg (r 16 5270 3), .code (c 16 7318), .inBlock 1, .code (c 16 918), .inLoop (c 16 150), .inBlock 0, .code (c 16 30)], [], .run⟩,
 ⟨⟨14, 85, false, none⟩,
  y0,
  [.reg (r 14 46 1), .code (c 14 62)], [], .run⟩,
 ⟨⟨4, 120, false, none⟩,
  (o ff),
  [.reg (r 4 8 0), .code (c 4 12), .code (c 4 6)], [], .run⟩],
 ⟨(p 27562), g45⟩,
 []⟩
def k45 : List (IC Blk) := [(c 119 25182), (c 119 12894), .skip, (c 119 3678), (c 119 606), .skip, (c 119 126), (.region (r 56 10 8)), (c 56 14), (.region (r 132 4 1)), (c 132 6), (.region (r 60 4 2)), .ret, (.region (r 16 5270 3)), (c 16 7318), .skip, (c 16 918), (c 16 150), .skip, (c 16 30), (.region (r 14 46 1)), (c 14 62), (.region (r 4 8 0)), (c 4 12), (c 4 6)]
theorem h45 : codesSt s45.fr s45.cs s45.ls = k45 := by kernel_rfl
def y40 : T V := (n z79 (n (I 0) (n (A 26619 0) (n (I 0) (m (n (A 26619 0) (o (I 44)) e) (o (I 11))) (m (o z82) (o (A 26619 5)))) (n (A 27835 0) (m (n (I 0) (o (U 26613 0 1 6)) e) (o z79)) (n (A 26619 3) (o ff) (o (I 0))))) (m (n tt (m (n (A 26619 5) (o (I 0)) e) (o ff)) (m (o tt) (o (I 11)))) (m (m (o (A 26619 11)) (o (A 26619 0))) (m (o (A 26619 4)) (o (A 26619 7)))))) (n (I 0) (m (n (A 27834 0) (m (n z76 (o (I 0)) e) (o (I 11))) (m (o z81) (o (I 43)))) (n (A 27836 0) (m (o (I 0)) e) (n ff e (o (I 2))))) (n (A 26620 0) (n (I 11) (m (n (I 43) (o (A 26619 11)) e) e) (n (A 26619 0) (o tt) (o (A 26619 6)))) (m (m (o (U 26613 0 1 6)) (o z76)) (n z82 (o (I 10)) (o (I 42)))))))
/-- the memory behind piece 46 -/
def g46 : T Blk := upd [(27839, (ce [ns, ns, ns, ns, (I 11), (I 44), ff])), (27927, (ce [(I 43), (I 10), (I 42), (I 10)])), (28311, (ce [(I 40), (I 10), (I 7), (I 2), (I 8), (I 2)])), (27831, (ce [(I 1), (I 0), q129, (I 2), (I 0), q36, (I 3), (I 0), q37])), (27835, (ce [(U 26532 0 258 1), ns, (I 0), ff, (I 10), (I 43), (I 0), (I 42), (I 1), (I 1), (I 1), (U 26613 0 1 6)])), (27969, (ce [(I 41), (I 10)])), (27833, (ce [(I 2), (I 0)])), (28309, (ce [(I 1), (I 0), q112, (I 1), (I 1), q2, (I 2), (I 0), q3])), (27837, (ce [(U 26532 0 258 1), ns, (I 0), ff])), (27928, (ce [(I 1), (I 1), ns, ns, ns, ns, (U 27927 0 2 2)])), (28036, (ce [(I 1), (I 0), (I 0), (I 0), (I 0)])), (27836, (ce [ns, ns])), (27842, (ce [(I 0), (I 0), ns, ns, ns, ns, ns])), (27834, (ce [(U 27831 0 3 3), (U 27833 0 1 2)])), (27838, (ce [ns, ns]))] (del [27499, 27500, 26622, 26623] g45)
/-- the state behind piece 46; its texts -/
def s46 : St :=
⟨⟨⟨123, 134, false, none⟩,
  (n z76 (n (I 43) (m (n tt (n (A 28036 0) (n (.agg [(I 4), (I 10), q13]) (o (U 27881 0 1 2)) e) (n (U 27881 0 1 2) (o tt) e)) (n (I 43) (m (o tt) e) (m (o (U 28310 0 3 3)) e))) (n (A 27928 0) (n (U 28309 0 3 3) (n (U 27881 0 1 2) (o (I 10)) e) (n (U 27881 0 1 2) (o (.tup [(U 28310 0 3 3), (U 28311 0 3 2), (U 28309 0 3 3), tt])) e)) (n tt (n (A 27875 1) (o (.agg [(I 3), (I 10), q58])) e) (o (I 0))))) (n ff (n (I 1) (n (U 28310 0 3 3) (n (I 1) (o (A 27881 0)) e) (n (.agg [(I 1), (I 1), ns, ns, ns, ns, (U 27927 0 2 2)]) (o ff) e)) (n (.agg [(I 4), (I 10), q13]) (o (I 1)) (n z76 (o (U 28309 0 3 3)) e))) (n (A 27929 0) (n z77 (n tt (o (.agg [(I 3), (I 10), q58])) e) (n tt (o (U 27969 0 1 2)) e)) (m (n (.agg [(I 43), (I 10)]) (o z2) e) (o (A 27881 0)))))) (n (A 27841 0) (n (A 27842 0) (n (I 1) (n (U 27969 0 1 2) (n (.tup [(I 1), (I 1), (U 27881 0 1 2), tt]) (o (I 0)) e) (n (U 27927 0 2 2) (o tt) e)) (n z77 (n (I 1) (o ff) e) (n z78 (o (U 28311 0 3 2)) e))) (n (I 0) (m (n tt (o z78) e) (n (I 1) (o z76) e)) (n ff (n (I 10) (o (.tup [z2, (U 27969 0 1 2), tt])) e) (o (A 27881 0))))) (n (A 27875 0) (n (U 27881 0 1 2) (n (U 28311 0 3 2) (n (I 1) (o (A 27881 1)) e) (o (I 0))) (n tt (n (I 43) (o (.tup [z2, (U 27969 0 1 2), tt])) e) (n (U 27881 0 1 2) (o tt) e))) (n tt (n z76 (n ff (o tt) e) (m (o (.tup [(U 28310 0 3 3), (U 28311 0 3 2), (U 28309 0 3 3), tt])) e)) (n (.tup [(I 1), (I 1), (U 27881 0 1 2), tt]) (n (S 27926 0 1 1) (o (U 27969 0 1 2)) e) (o (I 42))))))),
  [.code (c 123 517310), .inBlock 1, .code (c 123 7358), .inLoop (c 123 1214), .inBlock 0, .code (c 123 254)], [], .run⟩,
 [⟨⟨63, 33, false, none⟩,
  (n z76 (n (I 43) (m e (o z76)) (o ff)) (n (A 27840 0) (n ns e (o (I 43))) e)),
  [.reg (r 63 4 2), .code (c 63 6)], [], .run⟩,
 ⟨⟨119, 207, false, none⟩,
  (n z76 (n (I 43) (n (I 44) (n (A 27837 0) (n ff (o (I 1)) e) (m (o (I 44)) e)) (m (m (o tt) e) (m (o (I 11)) e))) (n (I 0) (m (m (o ff) (o (I 43))) (m (o ff) e)) (m (m (o ff) e) (m (o z80) e)))) (n (I 11) (n (I 0) (m (n (A 27839 0) (o ff) (o z76)) (m (o ff) e)) (m (m (o ff) e) (m (o (I 44)) e))) (n (U 26613 0 1 6) (m (m (o (I 11)) e) e) (n (A 27838 0) (m (o ff) e) (n (U 26613 0 1 6) (o (A 27839 0)) e))))),
  [.reg (r 119 22 2), .code (c 119 30)], [], .run⟩,
 ⟨⟨56, 300, false, none⟩,
  y40,
  [.reg (r 56 382 21), .code (c 56 510)], [], .run⟩,
 ⟨⟨132, 25, false, none⟩,
  y37,
  [.reg (r 132 4 1), .code (c 132 6)], [], .run⟩,
 ⟨⟨60, 9, false, none⟩,
  y38,
  [.reg (r 60 4 2), .code .ret], [], .run⟩,
 ⟨⟨16, 45, false, none⟩,
  y39,
  [.reg (r 16 5270 3), .code (c 16 7318), .inBlock 1, .code (c 16 918), .inLoop (c 16 150), .inBlock 0, .code (c 16 30)], [], .run⟩,
 ⟨⟨14, 85, false, none⟩,
  y0,
  [.reg (r 14 46 1), .code (c 14 62)], [], .run⟩,
 ⟨⟨4, 120, false, none⟩,
  (o ff),
  [.reg (r 4 8 0), .code (c 4 12), .code (c 4 6)], [], .run⟩],
 ⟨(p 28312), g46⟩,
 []⟩
def k46 : List (IC Blk) := [(c 123 517310), .skip, (c 123 7358), (c 123 1214), .skip, (c 123 254), (.region (r 63 4 2)), (c 63 6), (.region (r 119 22 2)), (c 119 30), (.region (r 56 382 21)), (c 56 510), (.region (r 132 4 1)), (c 132 6), (.region (r 60 4 2)), .ret, (.region (r 16 5270 3)), (c 16 7318), .skip, (c 16 918), (c 16 150), .skip, (c 16 30), (.region (r 14 46 1)), (c 14 62), (.region (r 4 8 0)), (c 4 12), (c 4 6)]
theorem h46 : codesSt s46.fr s46.cs s46.ls = k46 := by kernel_rfl
/-- the memory behind piece 47 -/
def g47 : T Blk := upd [(27839, (ce [ns, ns, (U 28715 0 6 2), (U 28716 0 6 3), (I 11), (I 44), ff])), (28715, (ce [(I 7), (I 2), (I 8), (I 2), (I 40), (I 10), (I 41), (I 10), (I 42), (I 10), (I 43), (I 10)])), (28716, (ce [(I 1), (I 2), q26, (I 1), (I 2), q27, (I 1), (I 10), q98, (I 2), (I 10), q113, (I 3), (I 10), q58, (I 4), (I 10), q13]))] (del [27969, 27842, 28036, 23877, 28309, 28311, 27927, 27928, 26534, 26614, 27831, 26616, 27833, 26617, 27834, 23802, 27835, 27837] g46)
/-- the state behind piece 47; its texts -/
def s47 : St :=
⟨⟨⟨119, 207, false, none⟩,
  (n z76 (n (I 43) (n (I 44) (n (A 27837 0) (n ff (n (I 1) (n (A 28494 10) (o tt) e) (o (A 27839 0))) (n (.tup [(U 28494 0 6 2), tt]) (o (A 28494 10)) (o (U 28716 0 6 3)))) (m (n (I 44) (o z77) (o (S 28713 0 1 1))) (n (I 6) (o (A 28494 10)) (o tt)))) (m (n (I 6) (n tt (o (I 5)) (o (U 28494 0 6 2))) (n (U 28494 0 6 2) (o ff) (o (A 27839 3)))) (m (n (I 11) (o tt) (o (A 27839 3))) (n z77 (o tt) (o (I 0)))))) (n (I 0) (m (n (U 28494 0 6 2) (n ff (o (I 43)) (o (A 27839 2))) (n (I 43) (o (I 0)) (o (A 27839 2)))) (m (n ff (o tt) (o (A 27839 0))) (n (I 5) (o (I 0)) e))) (m (n tt (n ff (o (A 28494 11)) (o (A 28494 10))) (n (I 6) (o (I 5)) (o (U 26613 0 1 6)))) (m (n z80 (o (I 5)) (o (.agg [(I 4), (I 10), q13]))) (n (U 28494 0 6 2) (o (A 27839 0)) (o (A 26613 5))))))) (n (I 11) (n (I 0) (m (n (A 27839 0) (n ff (n (A 28494 10) (o ff) e) (o (A 27839 0))) (n z76 (o (I 43)) (o (A 27839 0)))) (m (n ff (o (.agg [(I 4), (I 10), q13])) (o (U 28715 0 6 2))) (n ff (o (I 43)) e))) (m (n (A 28680 0) (n ff (o (A 28494 10)) (o (I 5))) (n tt (o (U 28494 0 6 2)) (o (I 0)))) (m (n (I 44) (o (U 28494 0 6 2)) (o (U 28679 0 5 3))) (n z76 (o tt) (o (A 26613 0)))))) (n (U 26613 0 1 6) (m (n tt (n (I 11) (o (U 28494 0 6 2)) (o (U 28678 0 5 2))) (n (.tup [(U 28494 0 6 2), tt]) (o ff) (o (A 27839 0)))) (m (m (o tt) (o (A 27839 0))) (n (I 6) (o tt) (o (U 26613 0 1 6))))) (n (A 27838 0) (n (I 0) (n ff (o (I 10)) (o (.agg [(I 43), (I 10)]))) (n (U 28494 0 6 2) (o (A 28494 10)) (o (I 1)))) (n (U 26613 0 1 6) (n (A 27839 0) (o (A 28494 10)) (o (S 28714 0 1 1))) (n (I 5) (o (A 27839 0)) (o (U 26538 0 9 3)))))))),
  [.code (c 119 25182), .code (c 119 12894), .inBlock 3, .code (c 119 3678), .inLoop (c 119 606), .inBlock 2, .code (c 119 126)], [], .run⟩,
 [⟨⟨56, 300, false, none⟩,
  y40,
  [.reg (r 56 382 21), .code (c 56 510)], [], .run⟩,
 ⟨⟨132, 25, false, none⟩,
  y37,
  [.reg (r 132 4 1), .code (c 132 6)], [], .run⟩,
 ⟨⟨60, 9, false, none⟩,
  y38,
  [.reg (r 60 4 2), .code .ret], [], .run⟩,
 ⟨⟨16, 45, false, none⟩,
  y39,
  [.reg (r 16 5270 3), .code (c 16 7318), .inBlock 1, .code (c 16 918), .inLoop (c 16 150), .inBlock 0, .code (c 16 30)], [], .run⟩,
 ⟨⟨14, 85, false, none⟩,
  y0,
  [.reg (r 14 46 1), .code (c 14 62)], [], .run⟩,
 ⟨⟨4, 120, false, none⟩,
  (o ff),
  [.reg (r 4 8 0), .code (c 4 12), .code (c 4 6)], [], .run⟩],
 ⟨(p 28778), g47⟩,
 []⟩
def k47 : List (IC Blk) := [(c 119 25182), (c 119 12894), .skip, (c 119 3678), (c 119 606), .skip, (c 119 126), (.region (r 56 382 21)), (c 56 510), (.region (r 132 4 1)), (c 132 6), (.region (r 60 4 2)), .ret, (.region (r 16 5270 3)), (c 16 7318), .skip, (c 16 918), (c 16 150), .skip, (c 16 30), (.region (r 14 46 1)), (c 14 62), (.region (r 4 8 0)), (c 4 12), (c 4 6)]
theorem h47 : codesSt s47.fr s47.cs s47.ls = k47 := by kernel_rfl
/-- the memory behind piece 48 -/
def g48 : T Blk := upd [(29275, (ce [(U 29268 0 258 1), ns, (I 0), ff, (I 11), (I 47), (I 0), (I 46), (I 1), (I 1), (I 1), (U 26613 0 1 6)])), (2436, (ce [(U 29268 0 258 1), ns, (I 0), ff, (I 11), (I 47), (I 0), (I 46), (I 1), (I 1), (I 1), (U 26613 0 1 6)])), (29268, (ce [q0, q4, q5, q6, q7, q8, q16, q17, q18, q19, q20, q21, q22, q23, q24, q25, q28, q29, q30, q31, q32, q33, q34, q35, q38, q39, q40, q41, q42, q43, q44, q45, q46, q47, q48, q49, q50, q51, q52, q53, q61, q62, q63, q64, q65, q66, q67, q68, q0, q0, q0, q0, q0, q0, q0, q0, q0, q0, q0, q0, q0, q0, q0, q0, q0, q0, q0, q0, q0, q0, q0, q0, q0, q0, q0, q0, q0, q0, q0, q0, q0, q0, q0, q0, q0, q0, q0, q0, q0, q0, q0, q0, q0, q0, q0, q0, q0, q0, q0, q0, q0, q0, q0, q0, q0, q0, q0, q0, q0, q0, q0, q0, q0, q0, q0, q0, q0, q0, q0, q0, q0, q0, q0, q0, q0, q0, q0, q0, q0, q0, q0, q0, q0, q0, q0, q0, q0, q0, q0, q0, q0, q0, q0, q0, q0, q0, q0, q0, q0, q0, q0, q0, q0, q0, q0, q0, q0, q0, q0, q0, q0, q0, q0, q0, q0, q0, q0, q0, q0, q0, q0, q0, q0, q0, q0, q0, q0, q0, q0, q0, q0, q0, q0, q0, q0, q0, q0, q0, q0, q0, q0, q0, q0, q0, q0, q0, q0, q0, q0, q0, q0, q0, q0, q0, q0, q0, q0, q0, q0, q0, q0, q0, q0, q0, q0, q0, q0, q0, q0, q0, q0, q0, q0, q0, q0, q0, q0, q0, q0, q0, q0, q0, q0, q0, q0, q0, q0, q0, q0, q0, q0, q0, q0, q0, q0, q0, q0, q0, q0, q0, q0, q0, q0, q0, q0, q0, q0, q0])), (29276, (ce [ns, ns, (I 0), ff, (I 0), (I 0), (I 0), (I 0), (I 0), (I 0), (I 0), ns])), (29274, (ce [(I 2), (I 20), q2, (I 1), (I 6), q1, (I 0), (I 0), q1, (I 0), (I 0), q1, (I 0), (I 0), q1, (I 0), (I 0), q1, (I 0), (I 0), q1, (I 0), (I 0), q1, (I 0), (I 0), q1])), (29270, (ce [(U 29268 0 258 1), ns, (I 0), ff, (I 11), (I 47), (I 0), (I 46), (I 1), (I 1), (I 1), (U 26613 0 1 6)]))] (del [26532, 28715, 28716, 26615, 26618, 26619, 27836, 26620, 27838, 27839] g47)
/-- the state behind piece 48; its texts -/
def s48 : St :=
⟨⟨⟨37, 26, false, none⟩,
  (n z83 (n (U 29274 0 9 3) (m (o (U 29274 0 9 3)) e) (m (o ff) e)) (n (A 29275 0) (n (A 29276 0) (o tt) e) e)),
  [.code (c 37 12), .code (c 37 6)], [], .run⟩,
 [⟨⟨16, 45, false, none⟩,
  (n z3 (n (A 2436 0) (n (U 29274 0 9 3) (n (I 0) (n (U 2457 0 9 3) (o (U 29274 0 9 3)) e) (n tt (o (I 0)) e)) (n (.tup [(U 2457 0 9 3), (I 0)]) (n tt (o (U 29274 0 9 3)) e) (n (U 26538 0 9 3) (o z83) e))) (n (I 10) (n z3 (n (I 10) (o z84) e) (n (I 10) (o ff) e)) (n (I 0) (n (I 0) (o z84) e) (o (I 20))))) (n (A 2437 0) (n (I 0) (n (.tup [(U 2457 0 9 3), (I 0)]) (n z5 (o (I 0)) e) (n (I 9) (o (I 0)) e)) (n (U 2457 0 9 3) (n (A 2436 6) (o z79) e) (o (I 10)))) (n (A 29270 0) (n (S 777 0 9 9) (n tt (o z83) e) (o (.tup [(U 29274 0 9 3), (I 0)]))) (n z3 (n tt (o z83) e) (o (.tup [(U 29274 0 9 3), (I 0)])))))),
  [.reg (r 16 5270 2), .code (c 16 7318), .inBlock 1, .code (c 16 918), .inLoop (c 16 150), .inBlock 0, .code (c 16 30)], [], .run⟩,
 ⟨⟨14, 85, false, none⟩,
  y0,
  [.reg (r 14 46 1), .code (c 14 62)], [], .run⟩,
 ⟨⟨4, 120, false, none⟩,
  (o ff),
  [.reg (r 4 8 0), .code (c 4 12), .code (c 4 6)], [], .run⟩],
 ⟨(p 29338), g48⟩,
 []⟩
def k48 : List (IC Blk) := [(c 37 12), (c 37 6), (.region (r 16 5270 2)), (c 16 7318), .skip, (c 16 918), (c 16 150), .skip, (c 16 30), (.region (r 14 46 1)), (c 14 62), (.region (r 4 8 0)), (c 4 12), (c 4 6)]
theorem h48 : codesSt s48.fr s48.cs s48.ls = k48 := by kernel_rfl
def y41 : T V := (n z86 (n z86 (o (A 29353 0)) (n (I 0) (o z86) e)) (n (A 29352 0) (o (A 29354 0)) e))
def y42 : T V := (n z86 (n (A 29350 0) (o (I 0)) (o z86)) (n (A 29351 0) (o z86) e))
def y43 : T V := (n z3 (n (A 2436 0) (n (U 29274 0 9 3) (n (I 0) (n (U 2457 0 9 3) (o (U 29274 0 9 3)) e) (n tt (o (I 0)) e)) (n (.tup [(U 2457 0 9 3), (I 0)]) (n tt (o (U 29274 0 9 3)) e) (n (U 26538 0 9 3) (o z83) e))) (n (I 10) (n z3 (n (I 10) (o z84) e) (n (I 10) (o ff) e)) (n (I 0) (n (I 0) (o z84) e) (o (I 20))))) (n (A 2437 0) (n (I 0) (n (.tup [(U 2457 0 9 3), (I 0)]) (n z5 (o (I 0)) e) (n (I 9) (o (I 0)) e)) (n (U 2457 0 9 3) (n (A 2436 6) (o z86) e) (o (I 10)))) (n (A 29270 0) (n (S 777 0 9 9) (n tt (o z83) e) (o (.tup [(U 29274 0 9 3), (I 0)]))) (n z3 (n tt (o z83) e) (o (.tup [(U 29274 0 9 3), (I 0)]))))))
/-- the memory behind piece 49 -/
def g49 : T Blk := upd [(29359, (ce [ns, ns, ns, ns, (I 0), (I 0), ff])), (29351, (ce [ns, ns, (I 0), ff, (I 0), (I 0), (I 0), (I 0), (I 0), (I 0), (I 0), ns])), (29355, (ce [(U 29268 0 258 1), ns, (I 0), ff, (I 11), (I 47), (I 0), (I 46), (I 1), (I 1), (I 1), (U 29349 0 1 6)])), (29353, (ce [(U 29268 0 258 1), ns, (I 0), ff, (I 11), (I 47), (I 0), (I 46), (I 1), (I 1), (I 1), (U 29349 0 1 6)])), (29349, (ce [(I 1), (I 0), (I 0), (I 0), (I 0), (U 29274 0 9 3)])), (29357, (ce [(U 29268 0 258 1), ns, (I 0), ff])), (29352, (ce [(U 29268 0 258 1), ns, (I 0), ff, (I 11), (I 47), (I 0), (I 46), (I 1), (I 1), (I 1), (U 29349 0 1 6)])), (29356, (ce [ns, ns, (I 0), ff, (I 0), (I 0), (I 0), (I 0), (I 0), (I 0), (I 0), ns])), (29354, (ce [ns, ns, (I 0), ff, (I 0), (I 0), (I 0), (I 0), (I 0), (I 0), (I 0), ns])), (29350, (ce [(U 29268 0 258 1), ns, (I 0), ff, (I 11), (I 47), (I 0), (I 46), (I 1), (I 1), (I 1), (U 29349 0 1 6)])), (29358, (ce [ns, ns])), (30014, (ce [(I 7), (I 2), (I 8), (I 2), (I 44), (I 11), (I 45), (I 11), (I 46), (I 11), (I 47), (I 11)]))] (del [29275, 29276] g48)
/-- the state behind piece 49; its texts -/
def s49 : St :=
⟨⟨⟨119, 207, false, none⟩,
  (n z85 (n (I 47) (n (I 0) (n (A 29357 0) (n ff (o (I 1)) (o (.tup [(U 30014 0 6 2), tt]))) (m (o (I 0)) e)) (m (m (o tt) (o (U 30014 0 6 2))) (m (o (I 0)) e))) (n (I 0) (m (n (U 30014 0 6 2) (o ff) (o (I 47))) (m (o ff) e)) (m (m (o ff) e) (m (o z9) e)))) (n (I 0) (n (I 0) (m (n (A 29359 0) (o ff) (o z85)) (m (o ff) e)) (m (m (o ff) (o tt)) (m (o (I 0)) e))) (n (U 29349 0 1 6) (m (n tt (o (I 0)) (o (.tup [(U 30014 0 6 2), tt]))) e) (n (A 29358 0) (m (o ff) e) (n (U 29349 0 1 6) (o (A 29359 0)) e))))),
  [.code (c 119 30)], [], .run⟩,
 [⟨⟨56, 300, false, none⟩,
  (n z86 (n (I 0) (n (A 29355 0) (n (I 0) (m (o (A 29355 0)) e) e) (m (m (o (I 0)) e) (o (A 29355 3)))) (m (m (m (o (A 29355 5)) e) e) (m (m (o (A 29355 11)) e) e))) (n (I 0) (m (m (m (o z85) e) e) (m (m (o (I 0)) e) (o ff))) (n (A 29356 0) (m (m (o (I 47)) e) (o (A 29355 0))) (m (m (o (U 29349 0 1 6)) e) e)))),
  [.reg (r 56 10 8), .code (c 56 14)], [], .run⟩,
 ⟨⟨132, 25, false, none⟩,
  y41,
  [.reg (r 132 4 1), .code (c 132 6)], [], .run⟩,
 ⟨⟨60, 9, false, none⟩,
  y42,
  [.reg (r 60 4 2), .code .ret], [], .run⟩,
 ⟨⟨16, 45, false, none⟩,
  y43,
  [.reg (r 16 5270 3), .code (c 16 7318), .inBlock 1, .code (c 16 918), .inLoop (c 16 150), .inBlock 0, .code (c 16 30)], [], .run⟩,
 ⟨⟨14, 85, false, none⟩,
  y0,
  [.reg (r 14 46 1), .code (c 14 62)], [], .run⟩,
 ⟨⟨4, 120, false, none⟩,
  (o ff),
  [.reg (r 4 8 0), .code (c 4 12), .code (c 4 6)], [], .run⟩],
 ⟨(p 30015), g49⟩,
 []⟩
def k49 : List (IC Blk) := [(c 119 30), (.region (r 56 10 8)), (c 56 14), (.region (r 132 4 1)), (c 132 6), (.region (r 60 4 2)), .ret, (.region (r 16 5270 3)), (c 16 7318), .skip, (c 16 918), (c 16 150), .skip, (c 16 30), (.region (r 14 46 1)), (c 14 62), (.region (r 4 8 0)), (c 4 12), (c 4 6)]
theorem h49 : codesSt s49.fr s49.cs s49.ls = k49 := by kernel_rfl
/-- the memory behind piece 50 -/
def g50 : T Blk := upd [(30567, (ce [(I 1), (I 0), q99, (I 2), (I 0), q36, (I 3), (I 0), q37])), (30569, (ce [(I 2), (I 0)])), (30570, (ce [(U 30567 0 3 3), (U 30569 0 1 2)]))] (del [29357, 29358, 29359, 30014] g49)
/-- the state behind piece 50; its texts -/
def s50 : St :=
⟨⟨⟨56, 300, false, none⟩,
  (n z86 (n (I 0) (n (A 29355 0) (n (I 0) (m (o (A 29355 0)) e) (m (o z88) e)) (m (m (o (I 0)) e) (o (A 29355 3)))) (m (n tt (m (o (A 29355 5)) e) (m (o tt) e)) (m (m (o (A 29355 11)) e) e))) (n (I 0) (m (n (A 30570 0) (m (o z85) e) (m (o z87) e)) (m (m (o (I 0)) e) (o ff))) (n (A 29356 0) (m (m (o (I 47)) e) (o (A 29355 0))) (m (m (o (U 29349 0 1 6)) e) (o z88))))),
  [.code (c 56 14)], [], .run⟩,
 [⟨⟨132, 25, false, none⟩,
  y41,
  [.reg (r 132 4 1), .code (c 132 6)], [], .run⟩,
 ⟨⟨60, 9, false, none⟩,
  y42,
  [.reg (r 60 4 2), .code .ret], [], .run⟩,
 ⟨⟨16, 45, false, none⟩,
  y43,
  [.reg (r 16 5270 3), .code (c 16 7318), .inBlock 1, .code (c 16 918), .inLoop (c 16 150), .inBlock 0, .code (c 16 30)], [], .run⟩,
 ⟨⟨14, 85, false, none⟩,
  y0,
  [.reg (r 14 46 1), .code (c 14 62)], [], .run⟩,
 ⟨⟨4, 120, false, none⟩,
  (o ff),
  [.reg (r 4 8 0), .code (c 4 12), .code (c 4 6)], [], .run⟩],
 ⟨(p 30571), g50⟩,
 []⟩
def k50 : List (IC Blk) := [(c 56 14), (.region (r 132 4 1)), (c 132 6), (.region (r 60 4 2)), .ret, (.region (r 16 5270 3)), (c 16 7318), .skip, (c 16 918), (c 16 150), .skip, (c 16 30), (.region (r 14 46 1)), (c 14 62), (.region (r 4 8 0)), (c 4 12), (c 4 6)]
theorem h50 : codesSt s50.fr s50.cs s50.ls = k50 := by kernel_rfl
/-- the memory behind piece 51 -/
def g51 : T Blk := upd [(30575, (ce [ns, ns, ns, ns, (I 12), (I 48), ff])), (30573, (ce [(U 29268 0 258 1), ns, (I 0), ff])), (30572, (ce [ns, ns])), (30574, (ce [ns, ns])), (31230, (ce [(I 7), (I 2), (I 8), (I 2), (I 44), (I 11), (I 45), (I 11), (I 46), (I 11), (I 47), (I 11)]))] (del [29270, 29350, 30567, 29352, 30569, 29353, 30570] g50)
/-- the state behind piece 51; its texts -/
def s51 : St :=
⟨⟨⟨119, 207, false, none⟩,
  (n z85 (n (I 47) (n (I 48) (n (A 30573 0) (n ff (o (I 1)) (o (.tup [(U 31230 0 6 2), tt]))) (m (o (I 48)) e)) (m (m (o tt) (o (U 31230 0 6 2))) (m (o (I 12)) e))) (n (I 0) (m (n (U 31230 0 6 2) (o ff) (o (I 47))) (m (o ff) e)) (m (m (o ff) e) (m (o (.agg [ns, ns, ns, ns, (I 12), (I 48), ff])) e)))) (n (I 12) (n (I 0) (m (n (A 30575 0) (o ff) (o z85)) (m (o ff) e)) (m (m (o ff) (o tt)) (m (o (I 48)) e))) (n (U 29349 0 1 6) (m (n tt (o (I 12)) (o (.tup [(U 31230 0 6 2), tt]))) e) (n (A 30574 0) (m (o ff) e) (n (U 29349 0 1 6) (o (A 30575 0)) e))))),
  [.code (c 119 30)], [], .run⟩,
 [⟨⟨56, 300, false, none⟩,
  (n z86 (n (I 0) (n (A 29355 0) (n (I 0) (m (n (A 29355 0) (o (I 48)) e) (o (I 12))) (m (o z88) (o (A 29355 5)))) (n (A 30571 0) (m (n (I 0) (o (U 29349 0 1 6)) e) (o z86)) (n (A 29355 3) (o ff) (o (I 0))))) (m (n tt (m (n (A 29355 5) (o (I 0)) e) (o ff)) (m (o tt) (o (I 12)))) (m (m (o (A 29355 11)) (o (A 29355 0))) (m (o (A 29355 4)) (o (A 29355 7)))))) (n (I 0) (m (n (A 30570 0) (m (n z85 (o (I 0)) e) (o (I 12))) (m (o z87) (o (I 47)))) (n (A 30572 0) (m (o (I 0)) e) (n ff e (o (I 2))))) (n (A 29356 0) (n (I 12) (m (n (I 47) (o (A 29355 11)) e) e) (n (A 29355 0) (o tt) (o (A 29355 6)))) (m (m (o (U 29349 0 1 6)) (o z85)) (n z88 (o (I 11)) (o (I 46))))))),
  [.reg (r 56 382 21), .code (c 56 510)], [], .run⟩,
 ⟨⟨132, 25, false, none⟩,
  y41,
  [.reg (r 132 4 1), .code (c 132 6)], [], .run⟩,
 ⟨⟨60, 9, false, none⟩,
  y42,
  [.reg (r 60 4 2), .code .ret], [], .run⟩,
 ⟨⟨16, 45, false, none⟩,
  y43,
  [.reg (r 16 5270 3), .code (c 16 7318), .inBlock 1, .code (c 16 918), .inLoop (c 16 150), .inBlock 0, .code (c 16 30)], [], .run⟩,
 ⟨⟨14, 85, false, none⟩,
  y0,
  [.reg (r 14 46 1), .code (c 14 62)], [], .run⟩,
 ⟨⟨4, 120, false, none⟩,
  (o ff),
  [.reg (r 4 8 0), .code (c 4 12), .code (c 4 6)], [], .run⟩],
 ⟨(p 31231), g51⟩,
 []⟩
def k51 : List (IC Blk) := [(c 119 30), (.region (r 56 382 21)), (c 56 510), (.region (r 132 4 1)), (c 132 6), (.region (r 60 4 2)), .ret, (.region (r 16 5270 3)), (c 16 7318), .skip, (c 16 918), (c 16 150), .skip, (c 16 30), (.region (r 14 46 1)), (c 14 62), (.region (r 4 8 0)), (c 4 12), (c 4 6)]
theorem h51 : codesSt s51.fr s51.cs s51.ls = k51 := by kernel_rfl
/-- the memory behind piece 52 -/
def g52 : T Blk := upd [(32004, (ce [q0, q4, q5, q6, q7, q8, q16, q17, q18, q19, q20, q21, q22, q23, q24, q25, q28, q29, q30, q31, q32, q33, q34, q35, q38, q39, q40, q41, q42, q43, q44, q45, q46, q47, q48, q49, q50, q51, q52, q53, q61, q62, q63, q64, q65, q66, q67, q68, q69, q70, q71, q72, q0, q0, q0, q0, q0, q0, q0, q0, q0, q0, q0, q0, q0, q0, q0, q0, q0, q0, q0, q0, q0, q0, q0, q0, q0, q0, q0, q0, q0, q0, q0, q0, q0, q0, q0, q0, q0, q0, q0, q0, q0, q0, q0, q0, q0, q0, q0, q0, q0, q0, q0, q0, q0, q0, q0, q0, q0, q0, q0, q0, q0, q0, q0, q0, q0, q0, q0, q0, q0, q0, q0, q0, q0, q0, q0, q0, q0, q0, q0, q0, q0, q0, q0, q0, q0, q0, q0, q0, q0, q0, q0, q0, q0, q0, q0, q0, q0, q0, q0, q0, q0, q0, q0, q0, q0, q0, q0, q0, q0, q0, q0, q0, q0, q0, q0, q0, q0, q0, q0, q0, q0, q0, q0, q0, q0, q0, q0, q0, q0, q0, q0, q0, q0, q0, q0, q0, q0, q0, q0, q0, q0, q0, q0, q0, q0, q0, q0, q0, q0, q0, q0, q0, q0, q0, q0, q0, q0, q0, q0, q0, q0, q0, q0, q0, q0, q0, q0, q0, q0, q0, q0, q0, q0, q0, q0, q0, q0, q0, q0, q0, q0, q0, q0, q0, q0, q0, q0, q0, q0, q0, q0, q0, q0, q0, q0, q0, q0, q0, q0, q0, q0, q0, q0, q0, q0, q0])), (32006, (ce [(U 32004 0 258 1), ns, (I 0), ff, (I 12), (I 51), (I 0), (I 50), (I 1), (I 1), (I 1), (U 29349 0 1 6)]))] (del [29268, 29351, 29354, 26538, 29355, 30572, 29356, 30573, 30574, 30575, 26613, 31230] g51)
/-- the state behind piece 52; its texts -/
def s52 : St :=
⟨⟨⟨16, 45, false, none⟩,
  (n z3 (n (A 2436 0) (n (U 29274 0 9 3) (n (I 0) (n (U 2457 0 9 3) (o (U 29274 0 9 3)) e) (n tt (o (I 0)) e)) (n (.tup [(U 2457 0 9 3), (I 0)]) (n tt (o (U 29274 0 9 3)) e) (n (U 26538 0 9 3) (o z83) e))) (n (I 10) (n z3 (n (I 10) (o z90) e) (n (I 10) (o ff) e)) (n (I 0) (n (I 0) (o z90) e) (o (I 20))))) (n (A 2437 0) (n (I 0) (n (.tup [(U 2457 0 9 3), (I 0)]) (n z5 (o (I 0)) e) (n (I 9) (o (I 0)) e)) (n (U 2457 0 9 3) (n (A 2436 6) (o z86) e) (o (I 10)))) (n (A 32006 0) (n (S 777 0 9 9) (n tt (o z83) e) (o (.tup [(U 29274 0 9 3), (I 0)]))) (n z3 (n tt (o z89) e) (o (.tup [(U 29274 0 9 3), (I 0)])))))),
  [.code (c 16 7318), .inBlock 1, .code (c 16 918), .inLoop (c 16 150), .inBlock 0, .code (c 16 30)], [], .run⟩,
 [⟨⟨14, 85, false, none⟩,
  y0,
  [.reg (r 14 46 1), .code (c 14 62)], [], .run⟩,
 ⟨⟨4, 120, false, none⟩,
  (o ff),
  [.reg (r 4 8 0), .code (c 4 12), .code (c 4 6)], [], .run⟩],
 ⟨(p 32007), g52⟩,
 []⟩
def k52 : List (IC Blk) := [(c 16 7318), .skip, (c 16 918), (c 16 150), .skip, (c 16 30), (.region (r 14 46 1)), (c 14 62), (.region (r 4 8 0)), (c 4 12), (c 4 6)]
theorem h52 : codesSt s52.fr s52.cs s52.ls = k52 := by kernel_rfl
def y44 : T V := (n z94 (n (I 0) (n (A 32091 0) (n (I 0) (m (o (A 32091 0)) e) e) (m (m (o (I 0)) e) (o (A 32091 3)))) (m (m (m (o (A 32091 5)) e) e) (m (m (o (A 32091 11)) e) e))) (n (I 0) (m (m (m (o z91) e) e) (m (m (o (I 0)) e) (o ff))) (n (A 32092 0) (m (m (o (I 51)) e) (o (A 32091 0))) (m (m (o (U 32085 0 1 6)) e) e))))
def y45 : T V := (n z94 (n z94 (o (A 32089 0)) (n (I 0) (o z94) e)) (n (A 32088 0) (o (A 32090 0)) e))
def y46 : T V := (n z94 (n (A 32086 0) (o (I 0)) (o z94)) (n (A 32087 0) (o z94) e))
def y47 : T V := (n z3 (n (A 2436 0) (n (U 32010 0 9 3) (n (I 0) (n (U 2457 0 9 3) (o (U 32010 0 9 3)) e) (n tt (o (I 0)) e)) (n (.tup [(U 2457 0 9 3), (I 0)]) (n tt (o (U 32010 0 9 3)) e) (n (U 29274 0 9 3) (o z89) e))) (n (I 11) (n z3 (n (I 11) (o z90) e) (n (I 11) (o ff) e)) (n (I 0) (n (I 0) (o z90) e) (o (I 21))))) (n (A 2437 0) (n (I 0) (n (.tup [(U 2457 0 9 3), (I 0)]) (n z5 (o (I 0)) e) (n (I 10) (o (I 0)) e)) (n (U 2457 0 9 3) (n (A 2436 6) (o z94) e) (o (I 11)))) (n (A 32006 0) (n (S 777 0 9 9) (n tt (o z89) e) (o (.tup [(U 32010 0 9 3), (I 0)]))) (n z3 (n tt (o z89) e) (o (.tup [(U 32010 0 9 3), (I 0)]))))))
/-- the memory behind piece 53 -/
def g53 : T Blk := upd [(32095, (ce [ns, ns, ns, ns, (I 0), (I 0), ff])), (32087, (ce [ns, ns, (I 0), ff, (I 0), (I 0), (I 0), (I 0), (I 0), (I 0), (I 0), ns])), (32567, (ce [(I 48), (I 12), (I 7), (I 2), (I 8), (I 2)])), (32183, (ce [(I 51), (I 12), (I 50), (I 12)])), (32587, (ce [ff, tt, tt, ff, ff, ff, ff, ff, ff, ff])), (32091, (ce [(U 32004 0 258 1), ns, (I 0), ff, (I 12), (I 51), (I 0), (I 50), (I 1), (I 1), (I 1), (U 32085 0 1 6)])), (32225, (ce [(I 49), (I 12)])), (32089, (ce [(U 32004 0 258 1), ns, (I 0), ff, (I 12), (I 51), (I 0), (I 50), (I 1), (I 1), (I 1), (U 32085 0 1 6)])), (32085, (ce [(I 1), (I 0), (I 0), (I 0), (I 0), (U 32010 0 9 3)])), (32565, (ce [(I 1), (I 0), q114, (I 1), (I 1), q2, (I 2), (I 0), q3])), (32093, (ce [(U 32004 0 258 1), ns, (I 0), ff])), (32088, (ce [(U 32004 0 258 1), ns, (I 0), ff, (I 12), (I 51), (I 0), (I 50), (I 1), (I 1), (I 1), (U 32085 0 1 6)])), (32568, (ce [(I 2), (I 20), q2, (I 1), (I 6), q1, (I 0), (I 0), q1, (I 0), (I 0), q1, (I 0), (I 0), q1, (I 0), (I 0), q1, (I 0), (I 0), q1, (I 0), (I 0), q1, (I 0), (I 0), q1])), (32184, (ce [(I 1), (I 1), ns, ns, ns, ns, (U 32183 0 2 2)])), (2436, (ce [(U 32004 0 258 1), ns, (I 0), ff, (I 12), (I 51), (I 0), (I 50), (I 1), (I 1), (I 1), (U 29349 0 1 6)])), (32292, (ce [(I 1), (I 0), (I 0), (I 0), (I 0)])), (32092, (ce [ns, ns, (I 0), ff, (I 0), (I 0), (I 0), (I 0), (I 0), (I 0), (I 0), ns])), (32572, (ce [(I 0), (I 0), (I 1), (I 0), (I 0), (I 0), (I 0), (I 0), (I 0), (I 0)])), (32098, (ce [(I 0), (I 0), ns, ns, ns, ns, ns])), (32010, (ce [(I 2), (I 21), q2, (I 1), (I 6), q1, (I 0), (I 0), q1, (I 0), (I 0), q1, (I 0), (I 0), q1, (I 0), (I 0), q1, (I 0), (I 0), q1, (I 0), (I 0), q1, (I 0), (I 0), q1])), (32090, (ce [ns, ns, (I 0), ff, (I 0), (I 0), (I 0), (I 0), (I 0), (I 0), (I 0), ns])), (32086, (ce [(U 32004 0 258 1), ns, (I 0), ff, (I 12), (I 51), (I 0), (I 50), (I 1), (I 1), (I 1), (U 32085 0 1 6)])), (32094, (ce [ns, ns]))] (del [] g52)
/-- the state behind piece 53; its texts -/
def s53 : St :=
⟨⟨⟨90, 180, false, none⟩,
  (n (S 32568 0 9 9) (m (n (S 32572 0 10 10) (n tt (m (n (I 8) (o (U 32575 0 1 2)) (o (I 1))) (n tt (o ff) (o (I 1)))) (n (I 2) (n tt (o (A 32572 2)) (o ff)) (n ff (o (S 32587 0 10 10)) e))) (n (I 2) (n ff (n (A 32568 24) (o (I 2)) (o ns)) (n (.tup [(U 32575 0 1 2), tt]) (o (I 0)) (o (A 32594 0)))) (n (I 9) (n ff (o ff) (o tn)) (n ff (o (I 0)) e)))) (n (A 32586 0) (n (S 32587 0 10 10) (n (I 9) (n (S 32568 0 9 9) (o (A 32575 0)) (o (S 32568 0 9 9))) (n (A 32573 2) (o (A 32579 2)) (o (U 32594 0 1 2)))) (n ff (n (.agg [(I 0), (I 0), q1]) (o (I 6)) (o tn)) (n (U 32575 0 1 2) (o (I 1)) e))) (n (I 0) (n (A 32568 0) (n (A 32586 0) (o (I 0)) (o ns)) (n tt (o ff) (o (I 2)))) (n (I 9) (n tt (o (I 6)) (o ff)) (n (I 1) (o (I 2)) e))))) (n ff (n (I 9) (n (I 1) (n (S 32568 0 9 9) (n (I 9) (o (I 0)) (o (I 2))) (n (.tup [(U 32575 0 1 2), tt]) (o ff) (o (S 32587 0 10 10)))) (n ff (n tt (o (A 32579 1)) (o ff)) (n (I 1) (o (A 32587 1)) e))) (n ns (n (S 32568 0 9 9) (n (.agg [(I 0), (I 0), q1]) (o (A 32572 2)) (o (I 0))) (n (U 32575 0 1 2) (o ff) (o (A 32594 1)))) (n (S 32568 0 9 9) (n tt (o (A 32579 1)) (o tn)) (n (I 0) (o (I 1)) e)))) (n (U 32575 0 1 2) (n (I 1) (n ff (n (I 8) (o (A 32575 1)) (o (I 2))) (n q2 (o q1) (o (I 0)))) (n (S 32572 0 10 10) (n (.agg [(I 0), (I 0), q1]) (o ff) (o tn)) (n (I 1) (o tt) e))) (m (n (A 32568 0) (n (I 0) (o (I 1)) (o (I 0))) (n tt (o (S 32587 0 10 10)) (o (A 32587 2)))) (n ff (n tt (o ff) (o (I 0))) (n (S 32572 0 10 10) (o tt) e)))))),
  [.code (c 90 51979454), .code (c 90 26813630), .inLoop (c 90 10036414), .inBlock 9, .inBlock 8, .code (c 90 468158), .inLoop (c 90 74942), .inBlock 7, .inBlock 6, .code (c 90 7358), .inLoop (c 90 1214), .inBlock 5, .code (c 90 254)], [], .run⟩,
 [⟨⟨195, 80, false, none⟩,
  (n (U 32565 0 3 3) (m (n ff (n (S 32568 0 9 9) (n (I 2) (n (I 3) (o q1) e) (o (u8 6))) (n (I 2) (o (I 2)) (o (I 1)))) (n ff (n (I 2) (n (I 2) (o (A 32568 0)) e) (o (A 32568 3))) (n (I 0) (o (u8 1)) (o (I 1))))) (n (I 3) (n (U 32565 0 3 3) (n (.agg [(I 2), (I 0), q3]) (n (S 32568 0 9 9) (o q2) e) (o (A 32568 3))) (n ff (o (A 32571 2)) (o (S 32568 0 9 9)))) (n (I 3) (n ff (n (S 32568 0 9 9) (o (S 32568 0 9 9)) e) (o (S 32568 0 9 9))) (n (A 32571 2) (o (A 32571 2)) (o (A 32568 0)))))) (n ns (n (S 32568 0 9 9) (n (I 3) (n (A 32565 6) (n ff (o (A 32570 2)) e) (o (I 6))) (n ff (o (I 1)) (o (I 0)))) (n (I 2) (n ff (n (I 1) (o (A 32568 2)) e) (o (A 32568 4))) (n tt (o (I 1)) (o (I 0))))) (n (A 32571 0) (n (I 3) (n (A 32571 0) (n (A 32571 0) (o q2) e) (o (A 32568 3))) (n (A 32571 1) (o q3) (o (A 32570 0)))) (n (U 32565 0 3 3) (n (A 32571 0) (o (A 32571 0)) (o (A 32570 0))) (n q3 (o q3) (o (A 32568 2))))))),
  [.reg (r 195 38 1), .code (c 195 54), .code (c 195 30)], [], .run⟩,
 ⟨⟨123, 134, false, none⟩,
  (n z91 (n (I 51) (m (n tt (n (A 32292 0) (n (.agg [(I 4), (I 12), q14]) (o (U 32137 0 1 2)) (o (U 32565 0 3 3))) (n (U 32137 0 1 2) (o tt) e)) (n (I 51) (m (o tt) e) (m (o (U 32566 0 3 3)) e))) (n (A 32184 0) (n (U 32565 0 3 3) (n (U 32137 0 1 2) (o (I 12)) e) (n (U 32137 0 1 2) (o (.tup [(U 32566 0 3 3), (U 32567 0 3 2), (U 32565 0 3 3), tt])) e)) (n tt (n (A 32131 1) (o (.agg [(I 3), (I 12), q59])) e) (n (I 0) (o tt) e)))) (n ff (n (I 1) (n (U 32566 0 3 3) (n (I 1) (o (A 32137 0)) e) (n (.agg [(I 1), (I 1), ns, ns, ns, ns, (U 32183 0 2 2)]) (o ff) e)) (n (.agg [(I 4), (I 12), q14]) (o (I 1)) (n z91 (o (U 32565 0 3 3)) e))) (n (A 32185 0) (n z92 (n tt (o (.agg [(I 3), (I 12), q59])) e) (n tt (o (U 32225 0 1 2)) e)) (m (n (.agg [(I 51), (I 12)]) (o z2) e) (o (A 32137 0)))))) (n (A 32097 0) (n (A 32098 0) (n (I 1) (n (U 32225 0 1 2) (n (.tup [(I 1), (I 1), (U 32137 0 1 2), tt]) (o (I 0)) e) (n (U 32183 0 2 2) (o tt) e)) (n z92 (n (I 1) (o ff) e) (n z93 (o (U 32567 0 3 2)) e))) (n (I 0) (m (n tt (o z93) e) (n (I 1) (o z91) e)) (n ff (n (I 12) (o (.tup [z2, (U 32225 0 1 2), tt])) e) (n (A 32137 0) (o ff) e)))) (n (A 32131 0) (n (U 32137 0 1 2) (n (U 32567 0 3 2) (n (I 1) (o (A 32137 1)) e) (o (I 0))) (n tt (n (I 51) (o (.tup [z2, (U 32225 0 1 2), tt])) e) (n (U 32137 0 1 2) (o tt) e))) (n tt (n z91 (n ff (o tt) e) (m (o (.tup [(U 32566 0 3 3), (U 32567 0 3 2), (U 32565 0 3 3), tt])) e)) (n (.tup [(I 1), (I 1), (U 32137 0 1 2), tt]) (n (S 32182 0 1 1) (o (U 32225 0 1 2)) e) (o (I 50))))))),
  [.reg (r 123 1565886 1), .code (c 123 2090174), .inBlock 1, .code (c 123 7358), .inLoop (c 123 1214), .inBlock 0, .code (c 123 254)], [], .run⟩,
 ⟨⟨63, 33, false, none⟩,
  (n z91 (n (I 51) (m e (o z91)) (o ff)) (n (A 32096 0) (n ns e (o (I 51))) e)),
  [.reg (r 63 4 2), .code (c 63 6)], [], .run⟩,
 ⟨⟨119, 207, false, none⟩,
  (n z91 (n (I 51) (n (I 0) (n (A 32093 0) (n ff (o (I 1)) e) (m (o (I 0)) e)) (m (m (o tt) e) (m (o (I 0)) e))) (n (I 0) (m (m (o ff) (o (I 51))) (m (o ff) e)) (m (m (o ff) e) (m (o z9) e)))) (n (I 0) (n (I 0) (m (n (A 32095 0) (o ff) (o z91)) (m (o ff) e)) (m (m (o ff) e) (m (o (I 0)) e))) (n (U 32085 0 1 6) (m (m (o (I 0)) e) e) (n (A 32094 0) (m (o ff) e) (n (U 32085 0 1 6) (o (A 32095 0)) e))))),
  [.reg (r 119 22 2), .code (c 119 30)], [], .run⟩,
 ⟨⟨56, 300, false, none⟩,
  y44,
  [.reg (r 56 10 8), .code (c 56 14)], [], .run⟩,
 ⟨⟨132, 25, false, none⟩,
  y45,
  [.reg (r 132 4 1), .code (c 132 6)], [], .run⟩,
 ⟨⟨60, 9, false, none⟩,
  y46,
  [.reg (r 60 4 2), .code .ret], [], .run⟩,
 ⟨⟨16, 45, false, none⟩,
  y47,
  [.reg (r 16 5270 3), .code (c 16 7318), .inBlock 1, .code (c 16 918), .inLoop (c 16 150), .inBlock 0, .code (c 16 30)], [], .run⟩,
 ⟨⟨14, 85, false, none⟩,
  y0,
  [.reg (r 14 46 1), .code (c 14 62)], [], .run⟩,
 ⟨⟨4, 120, false, none⟩,
  (o ff),
  [.reg (r 4 8 0), .code (c 4 12), .code (c 4 6)], [], .run⟩],
 ⟨(p 32598), g53⟩,
 []⟩
def k53 : List (IC Blk) := [(c 90 51979454), (c 90 26813630), (c 90 10036414), .skip, .skip, (c 90 468158), (c 90 74942), .skip, .skip, (c 90 7358), (c 90 1214), .skip, (c 90 254), (.region (r 195 38 1)), (c 195 54), (c 195 30), (.region (r 123 1565886 1)), (c 123 2090174), .skip, (c 123 7358), (c 123 1214), .skip, (c 123 254), (.region (r 63 4 2)), (c 63 6), (.region (r 119 22 2)), (c 119 30), (.region (r 56 10 8)), (c 56 14), (.region (r 132 4 1)), (c 132 6), (.region (r 60 4 2)), .ret, (.region (r 16 5270 3)), (c 16 7318), .skip, (c 16 918), (c 16 150), .skip, (c 16 30), (.region (r 14 46 1)), (c 14 62), (.region (r 4 8 0)), (c 4 12), (c 4 6)]
theorem h53 : codesSt s53.fr s53.cs s53.ls = k53 := by kernel_rfl
/-- the memory behind piece 54 -/
def g54 : T Blk := upd [(32095, (ce [ns, ns, (U 32971 0 6 2), (U 32972 0 6 3), (I 0), (I 0), ff])), (32971, (ce [(I 7), (I 2), (I 8), (I 2), (I 48), (I 12), (I 49), (I 12), (I 50), (I 12), (I 51), (I 12)])), (32972, (ce [(I 1), (I 2), q26, (I 1), (I 2), q27, (I 1), (I 12), q99, (I 2), (I 12), q115, (I 3), (I 12), q59, (I 4), (I 12), q14]))] (del [32587, 32093, 32225, 32098, 32292, 32565, 32183, 32567, 32184, 32568, 32572] g53)
/-- the state behind piece 54; its texts -/
def s54 : St :=
⟨⟨⟨119, 207, false, none⟩,
  (n z91 (n (I 51) (n (I 0) (n (A 32093 0) (n ff (n (I 1) (n (A 32750 10) (o tt) e) (o (A 32095 0))) (n (.tup [(U 32750 0 6 2), tt]) (o (A 32750 10)) (o (U 32972 0 6 3)))) (m (n (I 0) (o z92) (o (S 32969 0 1 1))) (n (I 6) (o (A 32750 10)) (o tt)))) (m (n (I 6) (n tt (o (I 5)) (o (U 32750 0 6 2))) (n (U 32750 0 6 2) (o ff) (o (A 32095 3)))) (m (n (I 0) (o tt) (o (A 32095 3))) (n z92 (o tt) (o (I 0)))))) (n (I 0) (m (n (U 32750 0 6 2) (n ff (o (I 51)) (o (A 32095 2))) (n (I 51) (o (I 0)) (o (A 32095 2)))) (m (n ff (o tt) (o (A 32095 0))) (n (I 5) (o (I 0)) e))) (m (n tt (n ff (o (A 32750 11)) (o (A 32750 10))) (n (I 6) (o (I 5)) (o (U 32085 0 1 6)))) (m (n z9 (o (I 5)) (o (.agg [(I 4), (I 12), q14]))) (n (U 32750 0 6 2) (o (A 32095 0)) (o (A 32085 5))))))) (n (I 0) (n (I 0) (m (n (A 32095 0) (n ff (n (A 32750 10) (o ff) e) (o (A 32095 0))) (n z91 (o (I 51)) (o (A 32095 0)))) (m (n ff (o (.agg [(I 4), (I 12), q14])) (o (U 32971 0 6 2))) (n ff (o (I 51)) e))) (m (n (A 32936 0) (n ff (o (A 32750 10)) (o (I 5))) (n tt (o (U 32750 0 6 2)) (o (I 0)))) (m (n (I 0) (o (U 32750 0 6 2)) (o (U 32935 0 5 3))) (n z91 (o tt) (o (A 32085 0)))))) (n (U 32085 0 1 6) (m (n tt (n (I 0) (o (U 32750 0 6 2)) (o (U 32934 0 5 2))) (n (.tup [(U 32750 0 6 2), tt]) (o ff) (o (A 32095 0)))) (m (m (o tt) (o (A 32095 0))) (n (I 6) (o tt) (o (U 32085 0 1 6))))) (n (A 32094 0) (n (I 0) (n ff (o (I 12)) (o (.agg [(I 51), (I 12)]))) (n (U 32750 0 6 2) (o (A 32750 10)) (o (I 1)))) (n (U 32085 0 1 6) (n (A 32095 0) (o (A 32750 10)) (o (S 32970 0 1 1))) (n (I 5) (o (A 32095 0)) (o (U 32010 0 9 3)))))))),
  [.code (c 119 25182), .code (c 119 12894), .inBlock 3, .code (c 119 3678), .inLoop (c 119 606), .inBlock 2, .code (c 119 126)], [], .run⟩,
 [⟨⟨56, 300, false, none⟩,
  y44,
  [.reg (r 56 10 8), .code (c 56 14)], [], .run⟩,
 ⟨⟨132, 25, false, none⟩,
  y45,
  [.reg (r 132 4 1), .code (c 132 6)], [], .run⟩,
 ⟨⟨60, 9, false, none⟩,
  y46,
  [.reg (r 60 4 2), .code .ret], [], .run⟩,
 ⟨⟨16, 45, false, none⟩,
  y47,
  [.reg (r 16 5270 3), .code (c 16 7318), .inBlock 1, .code (c 16 918), .inLoop (c 16 150), .inBlock 0, .code (c 16 30)], [], .run⟩,
 ⟨⟨14, 85, false, none⟩,
  y0,
  [.reg (r 14 46 1), .code (c 14 62)], [], .run⟩,
 ⟨⟨4, 120, false, none⟩,
  (o ff),
  [.reg (r 4 8 0), .code (c 4 12), .code (c 4 6)], [], .run⟩],
 ⟨(p 33034), g54⟩,
 []⟩
def k54 : List (IC Blk) := [(c 119 25182), (c 119 12894), .skip, (c 119 3678), (c 119 606), .skip, (c 119 126), (.region (r 56 10 8)), (c 56 14), (.region (r 132 4 1)), (c 132 6), (.region (r 60 4 2)), .ret, (.region (r 16 5270 3)), (c 16 7318), .skip, (c 16 918), (c 16 150), .skip, (c 16 30), (.region (r 14 46 1)), (c 14 62), (.region (r 4 8 0)), (c 4 12), (c 4 6)]
theorem h54 : codesSt s54.fr s54.cs s54.ls = k54 := by kernel_rfl
def y48 : T V := (n z94 (n (I 0) (n (A 32091 0) (n (I 0) (m (n (A 32091 0) (o (I 52)) e) (o (I 13))) (m (o z97) (o (A 32091 5)))) (n (A 33307 0) (m (n (I 0) (o (U 32085 0 1 6)) e) (o z94)) (n (A 32091 3) (o ff) (o (I 0))))) (m (n tt (m (n (A 32091 5) (o (I 0)) e) (o ff)) (m (o tt) (o (I 13)))) (m (m (o (A 32091 11)) (o (A 32091 0))) (m (o (A 32091 4)) (o (A 32091 7)))))) (n (I 0) (m (n (A 33306 0) (m (n z91 (o (I 0)) e) (o (I 13))) (m (o z96) (o (I 51)))) (n (A 33308 0) (m (o (I 0)) e) (n ff e (o (I 2))))) (n (A 32092 0) (n (I 13) (m (n (I 51) (o (A 32091 11)) e) e) (n (A 32091 0) (o tt) (o (A 32091 6)))) (m (m (o (U 32085 0 1 6)) (o z91)) (n z97 (o (I 12)) (o (I 50)))))))
/-- the memory behind piece 55 -/
def g55 : T Blk := upd [(33311, (ce [ns, ns, ns, ns, (I 13), (I 52), ff])), (33303, (ce [(I 1), (I 0), q130, (I 2), (I 0), q36, (I 3), (I 0), q37])), (33399, (ce [(I 51), (I 12), (I 50), (I 12)])), (33783, (ce [(I 48), (I 12), (I 7), (I 2), (I 8), (I 2)])), (33307, (ce [(U 32004 0 258 1), ns, (I 0), ff, (I 12), (I 51), (I 0), (I 50), (I 1), (I 1), (I 1), (U 32085 0 1 6)])), (33441, (ce [(I 49), (I 12)])), (33305, (ce [(I 2), (I 0)])), (33781, (ce [(I 1), (I 0), q114, (I 1), (I 1), q2, (I 2), (I 0), q3])), (33309, (ce [(U 32004 0 258 1), ns, (I 0), ff])), (33400, (ce [(I 1), (I 1), ns, ns, ns, ns, (U 33399 0 2 2)])), (33508, (ce [(I 1), (I 0), (I 0), (I 0), (I 0)])), (33308, (ce [ns, ns])), (33314, (ce [(I 0), (I 0), ns, ns, ns, ns, ns])), (33306, (ce [(U 33303 0 3 3), (U 33305 0 1 2)])), (33310, (ce [ns, ns]))] (del [32971, 32972, 32094, 32095] g54)
/-- the state behind piece 55; its texts -/
def s55 : St :=
⟨⟨⟨123, 134, false, none⟩,
  (n z91 (n (I 51) (m (n tt (n (A 33508 0) (n (.agg [(I 4), (I 12), q14]) (o (U 33353 0 1 2)) e) (n (U 33353 0 1 2) (o tt) e)) (n (I 51) (m (o tt) e) (m (o (U 33782 0 3 3)) e))) (n (A 33400 0) (n (U 33781 0 3 3) (n (U 33353 0 1 2) (o (I 12)) e) (n (U 33353 0 1 2) (o (.tup [(U 33782 0 3 3), (U 33783 0 3 2), (U 33781 0 3 3), tt])) e)) (n tt (n (A 33347 1) (o (.agg [(I 3), (I 12), q59])) e) (o (I 0))))) (n ff (n (I 1) (n (U 33782 0 3 3) (n (I 1) (o (A 33353 0)) e) (n (.agg [(I 1), (I 1), ns, ns, ns, ns, (U 33399 0 2 2)]) (o ff) e)) (n (.agg [(I 4), (I 12), q14]) (o (I 1)) (n z91 (o (U 33781 0 3 3)) e))) (n (A 33401 0) (n z92 (n tt (o (.agg [(I 3), (I 12), q59])) e) (n tt (o (U 33441 0 1 2)) e)) (m (n (.agg [(I 51), (I 12)]) (o z2) e) (o (A 33353 0)))))) (n (A 33313 0) (n (A 33314 0) (n (I 1) (n (U 33441 0 1 2) (n (.tup [(I 1), (I 1), (U 33353 0 1 2), tt]) (o (I 0)) e) (n (U 33399 0 2 2) (o tt) e)) (n z92 (n (I 1) (o ff) e) (n z93 (o (U 33783 0 3 2)) e))) (n (I 0) (m (n tt (o z93) e) (n (I 1) (o z91) e)) (n ff (n (I 12) (o (.tup [z2, (U 33441 0 1 2), tt])) e) (o (A 33353 0))))) (n (A 33347 0) (n (U 33353 0 1 2) (n (U 33783 0 3 2) (n (I 1) (o (A 33353 1)) e) (o (I 0))) (n tt (n (I 51) (o (.tup [z2, (U 33441 0 1 2), tt])) e) (n (U 33353 0 1 2) (o tt) e))) (n tt (n z91 (n ff (o tt) e) (m (o (.tup [(U 33782 0 3 3), (U 33783 0 3 2), (U 33781 0 3 3), tt])) e)) (n (.tup [(I 1), (I 1), (U 33353 0 1 2), tt]) (n (S 33398 0 1 1) (o (U 33441 0 1 2)) e) (o (I 50))))))),
  [.code (c 123 517310), .inBlock 1, .code (c 123 7358), .inLoop (c 123 1214), .inBlock 0, .code (c 123 254)], [], .run⟩,
 [⟨⟨63, 33, false, none⟩,
  (n z91 (n (I 51) (m e (o z91)) (o ff)) (n (A 33312 0) (n ns e (o (I 51))) e)),
  [.reg (r 63 4 2), .code (c 63 6)], [], .run⟩,
 ⟨⟨119, 207, false, none⟩,
  (n z91 (n (I 51) (n (I 52) (n (A 33309 0) (n ff (o (I 1)) e) (m (o (I 52)) e)) (m (m (o tt) e) (m (o (I 13)) e))) (n (I 0) (m (m (o ff) (o (I 51))) (m (o ff) e)) (m (m (o ff) e) (m (o z95) e)))) (n (I 13) (n (I 0) (m (n (A 33311 0) (o ff) (o z91)) (m (o ff) e)) (m (m (o ff) e) (m (o (I 52)) e))) (n (U 32085 0 1 6) (m (m (o (I 13)) e) e) (n (A 33310 0) (m (o ff) e) (n (U 32085 0 1 6) (o (A 33311 0)) e))))),
  [.reg (r 119 22 2), .code (c 119 30)], [], .run⟩,
 ⟨⟨56, 300, false, none⟩,
  y48,
  [.reg (r 56 382 21), .code (c 56 510)], [], .run⟩,
 ⟨⟨132, 25, false, none⟩,
  y45,
  [.reg (r 132 4 1), .code (c 132 6)], [], .run⟩,
 ⟨⟨60, 9, false, none⟩,
  y46,
  [.reg (r 60 4 2), .code .ret], [], .run⟩,
 ⟨⟨16, 45, false, none⟩,
  y47,
  [.reg (r 16 5270 3), .code (c 16 7318), .inBlock 1, .code (c 16 918), .inLoop (c 16 150), .inBlock 0, .code (c 16 30)], [], .run⟩,
 ⟨⟨14, 85, false, none⟩,
  y0,
  [.reg (r 14 46 1), .code (c 14 62)], [], .run⟩,
 ⟨⟨4, 120, false, none⟩,
  (o ff),
  [.reg (r 4 8 0), .code (c 4 12), .code (c 4 6)], [], .run⟩],
 ⟨(p 33784), g55⟩,
 []⟩
def k55 : List (IC Blk) := [(c 123 517310), .skip, (c 123 7358), (c 123 1214), .skip, (c 123 254), (.region (r 63 4 2)), (c 63 6), (.region (r 119 22 2)), (c 119 30), (.region (r 56 382 21)), (c 56 510), (.region (r 132 4 1)), (c 132 6), (.region (r 60 4 2)), .ret, (.region (r 16 5270 3)), (c 16 7318), .skip, (c 16 918), (c 16 150), .skip, (c 16 30), (.region (r 14 46 1)), (c 14 62), (.region (r 4 8 0)), (c 4 12), (c 4 6)]
theorem h55 : codesSt s55.fr s55.cs s55.ls = k55 := by kernel_rfl
/-- the memory behind piece 56 -/
def g56 : T Blk := upd [(33311, (ce [ns, ns, (U 34187 0 6 2), (U 34188 0 6 3), (I 13), (I 52), ff])), (34187, (ce [(I 7), (I 2), (I 8), (I 2), (I 48), (I 12), (I 49), (I 12), (I 50), (I 12), (I 51), (I 12)])), (34188, (ce [(I 1), (I 2), q26, (I 1), (I 2), q27, (I 1), (I 12), q99, (I 2), (I 12), q115, (I 3), (I 12), q59, (I 4), (I 12), q14]))] (del [32006, 32086, 33303, 32088, 33305, 32089, 33306, 29274, 33307, 33309, 33441, 33314, 33508, 29349, 33781, 33783, 33399, 33400] g55)
/-- the state behind piece 56; its texts -/
def s56 : St :=
⟨⟨⟨119, 207, false, none⟩,
  (n z91 (n (I 51) (n (I 52) (n (A 33309 0) (n ff (n (I 1) (n (A 33966 10) (o tt) e) (o (A 33311 0))) (n (.tup [(U 33966 0 6 2), tt]) (o (A 33966 10)) (o (U 34188 0 6 3)))) (m (n (I 52) (o z92) (o (S 34185 0 1 1))) (n (I 6) (o (A 33966 10)) (o tt)))) (m (n (I 6) (n tt (o (I 5)) (o (U 33966 0 6 2))) (n (U 33966 0 6 2) (o ff) (o (A 33311 3)))) (m (n (I 13) (o tt) (o (A 33311 3))) (n z92 (o tt) (o (I 0)))))) (n (I 0) (m (n (U 33966 0 6 2) (n ff (o (I 51)) (o (A 33311 2))) (n (I 51) (o (I 0)) (o (A 33311 2)))) (m (n ff (o tt) (o (A 33311 0))) (n (I 5) (o (I 0)) e))) (m (n tt (n ff (o (A 33966 11)) (o (A 33966 10))) (n (I 6) (o (I 5)) (o (U 32085 0 1 6)))) (m (n z95 (o (I 5)) (o (.agg [(I 4), (I 12), q14]))) (n (U 33966 0 6 2) (o (A 33311 0)) (o (A 32085 5))))))) (n (I 13) (n (I 0) (m (n (A 33311 0) (n ff (n (A 33966 10) (o ff) e) (o (A 33311 0))) (n z91 (o (I 51)) (o (A 33311 0)))) (m (n ff (o (.agg [(I 4), (I 12), q14])) (o (U 34187 0 6 2))) (n ff (o (I 51)) e))) (m (n (A 34152 0) (n ff (o (A 33966 10)) (o (I 5))) (n tt (o (U 33966 0 6 2)) (o (I 0)))) (m (n (I 52) (o (U 33966 0 6 2)) (o (U 34151 0 5 3))) (n z91 (o tt) (o (A 32085 0)))))) (n (U 32085 0 1 6) (m (n tt (n (I 13) (o (U 33966 0 6 2)) (o (U 34150 0 5 2))) (n (.tup [(U 33966 0 6 2), tt]) (o ff) (o (A 33311 0)))) (m (m (o tt) (o (A 33311 0))) (n (I 6) (o tt) (o (U 32085 0 1 6))))) (n (A 33310 0) (n (I 0) (n ff (o (I 12)) (o (.agg [(I 51), (I 12)]))) (n (U 33966 0 6 2) (o (A 33966 10)) (o (I 1)))) (n (U 32085 0 1 6) (n (A 33311 0) (o (A 33966 10)) (o (S 34186 0 1 1))) (n (I 5) (o (A 33311 0)) (o (U 32010 0 9 3)))))))),
  [.code (c 119 25182), .code (c 119 12894), .inBlock 3, .code (c 119 3678), .inLoop (c 119 606), .inBlock 2, .code (c 119 126)], [], .run⟩,
 [⟨⟨56, 300, false, none⟩,
  y48,
  [.reg (r 56 382 21), .code (c 56 510)], [], .run⟩,
 ⟨⟨132, 25, false, none⟩,
  y45,
  [.reg (r 132 4 1), .code (c 132 6)], [], .run⟩,
 ⟨⟨60, 9, false, none⟩,
  y46,
  [.reg (r 60 4 2), .code .ret], [], .run⟩,
 ⟨⟨16, 45, false, none⟩,
  y47,
  [.reg (r 16 5270 3), .code (c 16 7318), .inBlock 1, .code (c 16 918), .inLoop (c 16 150), .inBlock 0, .code (c 16 30)], [], .run⟩,
 ⟨⟨14, 85, false, none⟩,
  y0,
  [.reg (r 14 46 1), .code (c 14 62)], [], .run⟩,
 ⟨⟨4, 120, false, none⟩,
  (o ff),
  [.reg (r 4 8 0), .code (c 4 12), .code (c 4 6)], [], .run⟩],
 ⟨(p 34250), g56⟩,
 []⟩
def k56 : List (IC Blk) := [(c 119 25182), (c 119 12894), .skip, (c 119 3678), (c 119 606), .skip, (c 119 126), (.region (r 56 382 21)), (c 56 510), (.region (r 132 4 1)), (c 132 6), (.region (r 60 4 2)), .ret, (.region (r 16 5270 3)), (c 16 7318), .skip, (c 16 918), (c 16 150), .skip, (c 16 30), (.region (r 14 46 1)), (c 14 62), (.region (r 4 8 0)), (c 4 12), (c 4 6)]
theorem h56 : codesSt s56.fr s56.cs s56.ls = k56 := by kernel_rfl
/-- the memory behind piece 57 -/
def g57 : T Blk := upd [(34747, (ce [(U 34740 0 258 1), ns, (I 0), ff, (I 13), (I 55), (I 0), (I 54), (I 1), (I 1), (I 1), (U 32085 0 1 6)])), (2436, (ce [(U 34740 0 258 1), ns, (I 0), ff, (I 13), (I 55), (I 0), (I 54), (I 1), (I 1), (I 1), (U 32085 0 1 6)])), (34740, (ce [q0, q4, q5, q6, q7, q8, q16, q17, q18, q19, q20, q21, q22, q23, q24, q25, q28, q29, q30, q31, q32, q33, q34, q35, q38, q39, q40, q41, q42, q43, q44, q45, q46, q47, q48, q49, q50, q51, q52, q53, q61, q62, q63, q64, q65, q66, q67, q68, q69, q70, q71, q72, q74, q75, q76, q77, q0, q0, q0, q0, q0, q0, q0, q0, q0, q0, q0, q0, q0, q0, q0, q0, q0, q0, q0, q0, q0, q0, q0, q0, q0, q0, q0, q0, q0, q0, q0, q0, q0, q0, q0, q0, q0, q0, q0, q0, q0, q0, q0, q0, q0, q0, q0, q0, q0, q0, q0, q0, q0, q0, q0, q0, q0, q0, q0, q0, q0, q0, q0, q0, q0, q0, q0, q0, q0, q0, q0, q0, q0, q0, q0, q0, q0, q0, q0, q0, q0, q0, q0, q0, q0, q0, q0, q0, q0, q0, q0, q0, q0, q0, q0, q0, q0, q0, q0, q0, q0, q0, q0, q0, q0, q0, q0, q0, q0, q0, q0, q0, q0, q0, q0, q0, q0, q0, q0, q0, q0, q0, q0, q0, q0, q0, q0, q0, q0, q0, q0, q0, q0, q0, q0, q0, q0, q0, q0, q0, q0, q0, q0, q0, q0, q0, q0, q0, q0, q0, q0, q0, q0, q0, q0, q0, q0, q0, q0, q0, q0, q0, q0, q0, q0, q0, q0, q0, q0, q0, q0, q0, q0, q0, q0, q0, q0, q0, q0, q0, q0, q0, q0, q0, q0, q0, q0, q0, q0, q0, q0, q0, q0, q0, q0, q0, q0, q0, q0, q0, q0, q0])), (34748, (ce [ns, ns, (I 0), ff, (I 0), (I 0), (I 0), (I 0), (I 0), (I 0), (I 0), ns])), (34746, (ce [(I 2), (I 22), q2, (I 1), (I 6), q1, (I 0), (I 0), q1, (I 0), (I 0), q1, (I 0), (I 0), q1, (I 0), (I 0), q1, (I 0), (I 0), q1, (I 0), (I 0), q1, (I 0), (I 0), q1])), (34742, (ce [(U 34740 0 258 1), ns, (I 0), ff, (I 13), (I 55), (I 0), (I 54), (I 1), (I 1), (I 1), (U 32085 0 1 6)]))] (del [32004, 34187, 34188, 32087, 32090, 32091, 33308, 32092, 33310, 33311] g56)
/-- the state behind piece 57; its texts -/
def s57 : St :=
⟨⟨⟨37, 26, false, none⟩,
  (n z98 (n (U 34746 0 9 3) (m (o (U 34746 0 9 3)) e) (m (o ff) e)) (n (A 34747 0) (n (A 34748 0) (o tt) e) e)),
  [.code (c 37 12), .code (c 37 6)], [], .run⟩,
 [⟨⟨16, 45, false, none⟩,
  (n z3 (n (A 2436 0) (n (U 34746 0 9 3) (n (I 0) (n (U 2457 0 9 3) (o (U 34746 0 9 3)) e) (n tt (o (I 0)) e)) (n (.tup [(U 2457 0 9 3), (I 0)]) (n tt (o (U 34746 0 9 3)) e) (n (U 32010 0 9 3) (o z98) e))) (n (I 12) (n z3 (n (I 12) (o z99) e) (n (I 12) (o ff) e)) (n (I 0) (n (I 0) (o z99) e) (o (I 22))))) (n (A 2437 0) (n (I 0) (n (.tup [(U 2457 0 9 3), (I 0)]) (n z5 (o (I 0)) e) (n (I 11) (o (I 0)) e)) (n (U 2457 0 9 3) (n (A 2436 6) (o z94) e) (o (I 12)))) (n (A 34742 0) (n (S 777 0 9 9) (n tt (o z98) e) (o (.tup [(U 34746 0 9 3), (I 0)]))) (n z3 (n tt (o z98) e) (o (.tup [(U 34746 0 9 3), (I 0)])))))),
  [.reg (r 16 5270 2), .code (c 16 7318), .inBlock 1, .code (c 16 918), .inLoop (c 16 150), .inBlock 0, .code (c 16 30)], [], .run⟩,
 ⟨⟨14, 85, false, none⟩,
  y0,
  [.reg (r 14 46 1), .code (c 14 62)], [], .run⟩,
 ⟨⟨4, 120, false, none⟩,
  (o ff),
  [.reg (r 4 8 0), .code (c 4 12), .code (c 4 6)], [], .run⟩],
 ⟨(p 34810), g57⟩,
 []⟩
def k57 : List (IC Blk) := [(c 37 12), (c 37 6), (.region (r 16 5270 2)), (c 16 7318), .skip, (c 16 918), (c 16 150), .skip, (c 16 30), (.region (r 14 46 1)), (c 14 62), (.region (r 4 8 0)), (c 4 12), (c 4 6)]
theorem h57 : codesSt s57.fr s57.cs s57.ls = k57 := by kernel_rfl
def y49 : T V := (n z101 (n z101 (o (A 34825 0)) (n (I 0) (o z101) e)) (n (A 34824 0) (o (A 34826 0)) e))
def y50 : T V := (n z101 (n (A 34822 0) (o (I 0)) (o z101)) (n (A 34823 0) (o z101) e))
def y51 : T V := (n z3 (n (A 2436 0) (n (U 34746 0 9 3) (n (I 0) (n (U 2457 0 9 3) (o (U 34746 0 9 3)) e) (n tt (o (I 0)) e)) (n (.tup [(U 2457 0 9 3), (I 0)]) (n tt (o (U 34746 0 9 3)) e) (n (U 32010 0 9 3) (o z98) e))) (n (I 12) (n z3 (n (I 12) (o z99) e) (n (I 12) (o ff) e)) (n (I 0) (n (I 0) (o z99) e) (o (I 22))))) (n (A 2437 0) (n (I 0) (n (.tup [(U 2457 0 9 3), (I 0)]) (n z5 (o (I 0)) e) (n (I 11) (o (I 0)) e)) (n (U 2457 0 9 3) (n (A 2436 6) (o z101) e) (o (I 12)))) (n (A 34742 0) (n (S 777 0 9 9) (n tt (o z98) e) (o (.tup [(U 34746 0 9 3), (I 0)]))) (n z3 (n tt (o z98) e) (o (.tup [(U 34746 0 9 3), (I 0)]))))))
/-- the memory behind piece 58 -/
def g58 : T Blk := upd [(34831, (ce [ns, ns, ns, ns, (I 0), (I 0), ff])), (34823, (ce [ns, ns, (I 0), ff, (I 0), (I 0), (I 0), (I 0), (I 0), (I 0), (I 0), ns])), (34827, (ce [(U 34740 0 258 1), ns, (I 0), ff, (I 13), (I 55), (I 0), (I 54), (I 1), (I 1), (I 1), (U 34821 0 1 6)])), (34825, (ce [(U 34740 0 258 1), ns, (I 0), ff, (I 13), (I 55), (I 0), (I 54), (I 1), (I 1), (I 1), (U 34821 0 1 6)])), (34821, (ce [(I 1), (I 0), (I 0), (I 0), (I 0), (U 34746 0 9 3)])), (34829, (ce [(U 34740 0 258 1), ns, (I 0), ff])), (34824, (ce [(U 34740 0 258 1), ns, (I 0), ff, (I 13), (I 55), (I 0), (I 54), (I 1), (I 1), (I 1), (U 34821 0 1 6)])), (34828, (ce [ns, ns, (I 0), ff, (I 0), (I 0), (I 0), (I 0), (I 0), (I 0), (I 0), ns])), (34826, (ce [ns, ns, (I 0), ff, (I 0), (I 0), (I 0), (I 0), (I 0), (I 0), (I 0), ns])), (34822, (ce [(U 34740 0 258 1), ns, (I 0), ff, (I 13), (I 55), (I 0), (I 54), (I 1), (I 1), (I 1), (U 34821 0 1 6)])), (34830, (ce [ns, ns])), (35486, (ce [(I 7), (I 2), (I 8), (I 2), (I 52), (I 13), (I 53), (I 13), (I 54), (I 13), (I 55), (I 13)]))] (del [34747, 34748] g57)
/-- the state behind piece 58; its texts -/
def s58 : St :=
⟨⟨⟨119, 207, false, none⟩,
  (n z100 (n (I 55) (n (I 0) (n (A 34829 0) (n ff (o (I 1)) (o (.tup [(U 35486 0 6 2), tt]))) (m (o (I 0)) e)) (m (m (o tt) (o (U 35486 0 6 2))) (m (o (I 0)) e))) (n (I 0) (m (n (U 35486 0 6 2) (o ff) (o (I 55))) (m (o ff) e)) (m (m (o ff) e) (m (o z9) e)))) (n (I 0) (n (I 0) (m (n (A 34831 0) (o ff) (o z100)) (m (o ff) e)) (m (m (o ff) (o tt)) (m (o (I 0)) e))) (n (U 34821 0 1 6) (m (n tt (o (I 0)) (o (.tup [(U 35486 0 6 2), tt]))) e) (n (A 34830 0) (m (o ff) e) (n (U 34821 0 1 6) (o (A 34831 0)) e))))),
  [.code (c 119 30)], [], .run⟩,
 [⟨⟨56, 300, false, none⟩,
  (n z101 (n (I 0) (n (A 34827 0) (n (I 0) (m (o (A 34827 0)) e) e) (m (m (o (I 0)) e) (o (A 34827 3)))) (m (m (m (o (A 34827 5)) e) e) (m (m (o (A 34827 11)) e) e))) (n (I 0) (m (m (m (o z100) e) e) (m (m (o (I 0)) e) (o ff))) (n (A 34828 0) (m (m (o (I 55)) e) (o (A 34827 0))) (m (m (o (U 34821 0 1 6)) e) e)))),
  [.reg (r 56 10 8), .code (c 56 14)], [], .run⟩,
 ⟨⟨132, 25, false, none⟩,
  y49,
  [.reg (r 132 4 1), .code (c 132 6)], [], .run⟩,
 ⟨⟨60, 9, false, none⟩,
  y50,
  [.reg (r 60 4 2), .code .ret], [], .run⟩,
 ⟨⟨16, 45, false, none⟩,
  y51,
  [.reg (r 16 5270 3), .code (c 16 7318), .inBlock 1, .code (c 16 918), .inLoop (c 16 150), .inBlock 0, .code (c 16 30)], [], .run⟩,
 ⟨⟨14, 85, false, none⟩,
  y0,
  [.reg (r 14 46 1), .code (c 14 62)], [], .run⟩,
 ⟨⟨4, 120, false, none⟩,
  (o ff),
  [.reg (r 4 8 0), .code (c 4 12), .code (c 4 6)], [], .run⟩],
 ⟨(p 35487), g58⟩,
 []⟩
def k58 : List (IC Blk) := [(c 119 30), (.region (r 56 10 8)), (c 56 14), (.region (r 132 4 1)), (c 132 6), (.region (r 60 4 2)), .ret, (.region (r 16 5270 3)), (c 16 7318), .skip, (c 16 918), (c 16 150), .skip, (c 16 30), (.region (r 14 46 1)), (c 14 62), (.region (r 4 8 0)), (c 4 12), (c 4 6)]
theorem h58 : codesSt s58.fr s58.cs s58.ls = k58 := by kernel_rfl
/-- the memory behind piece 59 -/
def g59 : T Blk := upd [(36039, (ce [(I 1), (I 0), q100, (I 2), (I 0), q36, (I 3), (I 0), q37])), (36041, (ce [(I 2), (I 0)])), (36042, (ce [(U 36039 0 3 3), (U 36041 0 1 2)]))] (del [34829, 34830, 34831, 35486] g58)
/-- the state behind piece 59; its texts -/
def s59 : St :=
⟨⟨⟨56, 300, false, none⟩,
  (n z101 (n (I 0) (n (A 34827 0) (n (I 0) (m (o (A 34827 0)) e) (m (o z103) e)) (m (m (o (I 0)) e) (o (A 34827 3)))) (m (n tt (m (o (A 34827 5)) e) (m (o tt) e)) (m (m (o (A 34827 11)) e) e))) (n (I 0) (m (n (A 36042 0) (m (o z100) e) (m (o z102) e)) (m (m (o (I 0)) e) (o ff))) (n (A 34828 0) (m (m (o (I 55)) e) (o (A 34827 0))) (m (m (o (U 34821 0 1 6)) e) (o z103))))),
  [.code (c 56 14)], [], .run⟩,
 [⟨⟨132, 25, false, none⟩,
  y49,
  [.reg (r 132 4 1), .code (c 132 6)], [], .run⟩,
 ⟨⟨60, 9, false, none⟩,
  y50,
  [.reg (r 60 4 2), .code .ret], [], .run⟩,
 ⟨⟨16, 45, false, none⟩,
  y51,
  [.reg (r 16 5270 3), .code (c 16 7318), .inBlock 1, .code (c 16 918), .inLoop (c 16 150), .inBlock 0, .code (c 16 30)], [], .run⟩,
 ⟨⟨14, 85, false, none⟩,
  y0,
  [.reg (r 14 46 1), .code (c 14 62)], [], .run⟩,
 ⟨⟨4, 120, false, none⟩,
  (o ff),
  [.reg (r 4 8 0), .code (c 4 12), .code (c 4 6)], [], .run⟩],
 ⟨(p 36043), g59⟩,
 []⟩
def k59 : List (IC Blk) := [(c 56 14), (.region (r 132 4 1)), (c 132 6), (.region (r 60 4 2)), .ret, (.region (r 16 5270 3)), (c 16 7318), .skip, (c 16 918), (c 16 150), .skip, (c 16 30), (.region (r 14 46 1)), (c 14 62), (.region (r 4 8 0)), (c 4 12), (c 4 6)]
theorem h59 : codesSt s59.fr s59.cs s59.ls = k59 := by kernel_rfl
/-- the memory behind piece 60 -/
def g60 : T Blk := upd [(36047, (ce [ns, ns, ns, ns, (I 14), (I 56), ff])), (36045, (ce [(U 34740 0 258 1), ns, (I 0), ff])), (36044, (ce [ns, ns])), (36046, (ce [ns, ns])), (36702, (ce [(I 7), (I 2), (I 8), (I 2), (I 52), (I 13), (I 53), (I 13), (I 54), (I 13), (I 55), (I 13)]))] (del [34822, 36039, 34824, 36041, 34825, 36042, 34742] g59)
/-- the state behind piece 60; its texts -/
def s60 : St :=
⟨⟨⟨119, 207, false, none⟩,
  (n z100 (n (I 55) (n (I 56) (n (A 36045 0) (n ff (o (I 1)) (o (.tup [(U 36702 0 6 2), tt]))) (m (o (I 56)) e)) (m (m (o tt) (o (U 36702 0 6 2))) (m (o (I 14)) e))) (n (I 0) (m (n (U 36702 0 6 2) (o ff) (o (I 55))) (m (o ff) e)) (m (m (o ff) e) (m (o (.agg [ns, ns, ns, ns, (I 14), (I 56), ff])) e)))) (n (I 14) (n (I 0) (m (n (A 36047 0) (o ff) (o z100)) (m (o ff) e)) (m (m (o ff) (o tt)) (m (o (I 56)) e))) (n (U 34821 0 1 6) (m (n tt (o (I 14)) (o (.tup [(U 36702 0 6 2), tt]))) e) (n (A 36046 0) (m (o ff) e) (n (U 34821 0 1 6) (o (A 36047 0)) e))))),
  [.code (c 119 30)], [], .run⟩,
 [⟨⟨56, 300, false, none⟩,
  (n z101 (n (I 0) (n (A 34827 0) (n (I 0) (m (n (A 34827 0) (o (I 56)) e) (o (I 14))) (m (o z103) (o (A 34827 5)))) (n (A 36043 0) (m (n (I 0) (o (U 34821 0 1 6)) e) (o z101)) (n (A 34827 3) (o ff) (o (I 0))))) (m (n tt (m (n (A 34827 5) (o (I 0)) e) (o ff)) (m (o tt) (o (I 14)))) (m (m (o (A 34827 11)) (o (A 34827 0))) (m (o (A 34827 4)) (o (A 34827 7)))))) (n (I 0) (m (n (A 36042 0) (m (n z100 (o (I 0)) e) (o (I 14))) (m (o z102) (o (I 55)))) (n (A 36044 0) (m (o (I 0)) e) (n ff e (o (I 2))))) (n (A 34828 0) (n (I 14) (m (n (I 55) (o (A 34827 11)) e) e) (n (A 34827 0) (o tt) (o (A 34827 6)))) (m (m (o (U 34821 0 1 6)) (o z100)) (n z103 (o (I 13)) (o (I 54))))))),
  [.reg (r 56 382 21), .code (c 56 510)], [], .run⟩,
 ⟨⟨132, 25, false, none⟩,
  y49,
  [.reg (r 132 4 1), .code (c 132 6)], [], .run⟩,
 ⟨⟨60, 9, false, none⟩,
  y50,
  [.reg (r 60 4 2), .code .ret], [], .run⟩,
 ⟨⟨16, 45, false, none⟩,
  y51,
  [.reg (r 16 5270 3), .code (c 16 7318), .inBlock 1, .code (c 16 918), .inLoop (c 16 150), .inBlock 0, .code (c 16 30)], [], .run⟩,
 ⟨⟨14, 85, false, none⟩,
  y0,
  [.reg (r 14 46 1), .code (c 14 62)], [], .run⟩,
 ⟨⟨4, 120, false, none⟩,
  (o ff),
  [.reg (r 4 8 0), .code (c 4 12), .code (c 4 6)], [], .run⟩],
 ⟨(p 36703), g60⟩,
 []⟩
def k60 : List (IC Blk) := [(c 119 30), (.region (r 56 382 21)), (c 56 510), (.region (r 132 4 1)), (c 132 6), (.region (r 60 4 2)), .ret, (.region (r 16 5270 3)), (c 16 7318), .skip, (c 16 918), (c 16 150), .skip, (c 16 30), (.region (r 14 46 1)), (c 14 62), (.region (r 4 8 0)), (c 4 12), (c 4 6)]
theorem h60 : codesSt s60.fr s60.cs s60.ls = k60 := by kernel_rfl
/-- the memory behind piece 61 -/
def g61 : T Blk := upd [(37476, (ce [q0, q4, q5, q6, q7, q8, q16, q17, q18, q19, q20, q21, q22, q23, q24, q25, q28, q29, q30, q31, q32, q33, q34, q35, q38, q39, q40, q41, q42, q43, q44, q45, q46, q47, q48, q49, q50, q51, q52, q53, q61, q62, q63, q64, q65, q66, q67, q68, q69, q70, q71, q72, q74, q75, q76, q77, q78, q79, q80, q81, q0, q0, q0, q0, q0, q0, q0, q0, q0, q0, q0, q0, q0, q0, q0, q0, q0, q0, q0, q0, q0, q0, q0, q0, q0, q0, q0, q0, q0, q0, q0, q0, q0, q0, q0, q0, q0, q0, q0, q0, q0, q0, q0, q0, q0, q0, q0, q0, q0, q0, q0, q0, q0, q0, q0, q0, q0, q0, q0, q0, q0, q0, q0, q0, q0, q0, q0, q0, q0, q0, q0, q0, q0, q0, q0, q0, q0, q0, q0, q0, q0, q0, q0, q0, q0, q0, q0, q0, q0, q0, q0, q0, q0, q0, q0, q0, q0, q0, q0, q0, q0, q0, q0, q0, q0, q0, q0, q0, q0, q0, q0, q0, q0, q0, q0, q0, q0, q0, q0, q0, q0, q0, q0, q0, q0, q0, q0, q0, q0, q0, q0, q0, q0, q0, q0, q0, q0, q0, q0, q0, q0, q0, q0, q0, q0, q0, q0, q0, q0, q0, q0, q0, q0, q0, q0, q0, q0, q0, q0, q0, q0, q0, q0, q0, q0, q0, q0, q0, q0, q0, q0, q0, q0, q0, q0, q0, q0, q0, q0, q0, q0, q0, q0, q0, q0, q0, q0, q0, q0, q0, q0, q0, q0, q0, q0, q0, q0, q0])), (37478, (ce [(U 37476 0 258 1), ns, (I 0), ff, (I 14), (I 59), (I 0), (I 58), (I 1), (I 1), (I 1), (U 34821 0 1 6)]))] (del [34823, 34826, 32010, 34827, 36044, 34828, 36045, 36046, 36047, 32085, 36702, 34740] g60)
/-- the state behind piece 61; its texts -/
def s61 : St :=
⟨⟨⟨16, 45, false, none⟩,
  (n z3 (n (A 2436 0) (n (U 34746 0 9 3) (n (I 0) (n (U 2457 0 9 3) (o (U 34746 0 9 3)) e) (n tt (o (I 0)) e)) (n (.tup [(U 2457 0 9 3), (I 0)]) (n tt (o (U 34746 0 9 3)) e) (n (U 32010 0 9 3) (o z98) e))) (n (I 12) (n z3 (n (I 12) (o z105) e) (n (I 12) (o ff) e)) (n (I 0) (n (I 0) (o z105) e) (o (I 22))))) (n (A 2437 0) (n (I 0) (n (.tup [(U 2457 0 9 3), (I 0)]) (n z5 (o (I 0)) e) (n (I 11) (o (I 0)) e)) (n (U 2457 0 9 3) (n (A 2436 6) (o z101) e) (o (I 12)))) (n (A 37478 0) (n (S 777 0 9 9) (n tt (o z98) e) (o (.tup [(U 34746 0 9 3), (I 0)]))) (n z3 (n tt (o z104) e) (o (.tup [(U 34746 0 9 3), (I 0)])))))),
  [.code (c 16 7318), .inBlock 1, .code (c 16 918), .inLoop (c 16 150), .inBlock 0, .code (c 16 30)], [], .run⟩,
 [⟨⟨14, 85, false, none⟩,
  y0,
  [.reg (r 14 46 1), .code (c 14 62)], [], .run⟩,
 ⟨⟨4, 120, false, none⟩,
  (o ff),
  [.reg (r 4 8 0), .code (c 4 12), .code (c 4 6)], [], .run⟩],
 ⟨(p 37479), g61⟩,
 []⟩
def k61 : List (IC Blk) := [(c 16 7318), .skip, (c 16 918), (c 16 150), .skip, (c 16 30), (.region (r 14 46 1)), (c 14 62), (.region (r 4 8 0)), (c 4 12), (c 4 6)]
theorem h61 : codesSt s61.fr s61.cs s61.ls = k61 := by kernel_rfl
def y52 : T V := (n z109 (n (I 0) (n (A 37563 0) (n (I 0) (m (o (A 37563 0)) e) e) (m (m (o (I 0)) e) (o (A 37563 3)))) (m (m (m (o (A 37563 5)) e) e) (m (m (o (A 37563 11)) e) e))) (n (I 0) (m (m (m (o z106) e) e) (m (m (o (I 0)) e) (o ff))) (n (A 37564 0) (m (m (o (I 59)) e) (o (A 37563 0))) (m (m (o (U 37557 0 1 6)) e) e))))
def y53 : T V := (n z109 (n z109 (o (A 37561 0)) (n (I 0) (o z109) e)) (n (A 37560 0) (o (A 37562 0)) e))
def y54 : T V := (n z109 (n (A 37558 0) (o (I 0)) (o z109)) (n (A 37559 0) (o z109) e))
def y55 : T V := (n z3 (n (A 2436 0) (n (U 37482 0 9 3) (n (I 0) (n (U 2457 0 9 3) (o (U 37482 0 9 3)) e) (n tt (o (I 0)) e)) (n (.tup [(U 2457 0 9 3), (I 0)]) (n tt (o (U 37482 0 9 3)) e) (n (U 34746 0 9 3) (o z104) e))) (n (I 13) (n z3 (n (I 13) (o z105) e) (n (I 13) (o ff) e)) (n (I 0) (n (I 0) (o z105) e) (o (I 23))))) (n (A 2437 0) (n (I 0) (n (.tup [(U 2457 0 9 3), (I 0)]) (n z5 (o (I 0)) e) (n (I 12) (o (I 0)) e)) (n (U 2457 0 9 3) (n (A 2436 6) (o z109) e) (o (I 13)))) (n (A 37478 0) (n (S 777 0 9 9) (n tt (o z104) e) (o (.tup [(U 37482 0 9 3), (I 0)]))) (n z3 (n tt (o z104) e) (o (.tup [(U 37482 0 9 3), (I 0)]))))))
/-- the memory behind piece 62 -/
def g62 : T Blk := upd [(37567, (ce [ns, ns, ns, ns, (I 0), (I 0), ff])), (37655, (ce [(I 59), (I 14), (I 58), (I 14)])), (38039, (ce [(I 56), (I 14), (I 7), (I 2), (I 8), (I 2)])), (37559, (ce [ns, ns, (I 0), ff, (I 0), (I 0), (I 0), (I 0), (I 0), (I 0), (I 0), ns])), (38059, (ce [ff, tt, tt, ff, ff, ff, ff, ff, ff, ff])), (37563, (ce [(U 37476 0 258 1), ns, (I 0), ff, (I 14), (I 59), (I 0), (I 58), (I 1), (I 1), (I 1), (U 37557 0 1 6)])), (37697, (ce [(I 57), (I 14)])), (37561, (ce [(U 37476 0 258 1), ns, (I 0), ff, (I 14), (I 59), (I 0), (I 58), (I 1), (I 1), (I 1), (U 37557 0 1 6)])), (38037, (ce [(I 1), (I 0), q116, (I 1), (I 1), q2, (I 2), (I 0), q3])), (37557, (ce [(I 1), (I 0), (I 0), (I 0), (I 0), (U 37482 0 9 3)])), (37565, (ce [(U 37476 0 258 1), ns, (I 0), ff])), (37656, (ce [(I 1), (I 1), ns, ns, ns, ns, (U 37655 0 2 2)])), (38040, (ce [(I 2), (I 22), q2, (I 1), (I 6), q1, (I 0), (I 0), q1, (I 0), (I 0), q1, (I 0), (I 0), q1, (I 0), (I 0), q1, (I 0), (I 0), q1, (I 0), (I 0), q1, (I 0), (I 0), q1])), (37560, (ce [(U 37476 0 258 1), ns, (I 0), ff, (I 14), (I 59), (I 0), (I 58), (I 1), (I 1), (I 1), (U 37557 0 1 6)])), (2436, (ce [(U 37476 0 258 1), ns, (I 0), ff, (I 14), (I 59), (I 0), (I 58), (I 1), (I 1), (I 1), (U 34821 0 1 6)])), (37764, (ce [(I 1), (I 0), (I 0), (I 0), (I 0)])), (38044, (ce [(I 0), (I 0), (I 1), (I 0), (I 0), (I 0), (I 0), (I 0), (I 0), (I 0)])), (37564, (ce [ns, ns, (I 0), ff, (I 0), (I 0), (I 0), (I 0), (I 0), (I 0), (I 0), ns])), (37570, (ce [(I 0), (I 0), ns, ns, ns, ns, ns])), (37482, (ce [(I 2), (I 23), q2, (I 1), (I 6), q1, (I 0), (I 0), q1, (I 0), (I 0), q1, (I 0), (I 0), q1, (I 0), (I 0), q1, (I 0), (I 0), q1, (I 0), (I 0), q1, (I 0), (I 0), q1])), (37562, (ce [ns, ns, (I 0), ff, (I 0), (I 0), (I 0), (I 0), (I 0), (I 0), (I 0), ns])), (37558, (ce [(U 37476 0 258 1), ns, (I 0), ff, (I 14), (I 59), (I 0), (I 58), (I 1), (I 1), (I 1), (U 37557 0 1 6)])), (37566, (ce [ns, ns]))] (del [] g61)
/-- the state behind piece 62; its texts -/
def s62 : St :=
⟨⟨⟨90, 180, false, none⟩,
  (n (S 38040 0 9 9) (m (n (S 38044 0 10 10) (n tt (m (n (I 8) (o (U 38047 0 1 2)) (o (I 1))) (n tt (o ff) (o (I 1)))) (n (I 2) (n tt (o (A 38044 2)) (o ff)) (n ff (o (S 38059 0 10 10)) e))) (n (I 2) (n ff (n (A 38040 24) (o (I 2)) (o ns)) (n (.tup [(U 38047 0 1 2), tt]) (o (I 0)) (o (A 38066 0)))) (n (I 9) (n ff (o ff) (o tn)) (n ff (o (I 0)) e)))) (n (A 38058 0) (n (S 38059 0 10 10) (n (I 9) (n (S 38040 0 9 9) (o (A 38047 0)) (o (S 38040 0 9 9))) (n (A 38045 2) (o (A 38051 2)) (o (U 38066 0 1 2)))) (n ff (n (.agg [(I 0), (I 0), q1]) (o (I 6)) (o tn)) (n (U 38047 0 1 2) (o (I 1)) e))) (n (I 0) (n (A 38040 0) (n (A 38058 0) (o (I 0)) (o ns)) (n tt (o ff) (o (I 2)))) (n (I 9) (n tt (o (I 6)) (o ff)) (n (I 1) (o (I 2)) e))))) (n ff (n (I 9) (n (I 1) (n (S 38040 0 9 9) (n (I 9) (o (I 0)) (o (I 2))) (n (.tup [(U 38047 0 1 2), tt]) (o ff) (o (S 38059 0 10 10)))) (n ff (n tt (o (A 38051 1)) (o ff)) (n (I 1) (o (A 38059 1)) e))) (n ns (n (S 38040 0 9 9) (n (.agg [(I 0), (I 0), q1]) (o (A 38044 2)) (o (I 0))) (n (U 38047 0 1 2) (o ff) (o (A 38066 1)))) (n (S 38040 0 9 9) (n tt (o (A 38051 1)) (o tn)) (n (I 0) (o (I 1)) e)))) (n (U 38047 0 1 2) (n (I 1) (n ff (n (I 8) (o (A 38047 1)) (o (I 2))) (n q2 (o q1) (o (I 0)))) (n (S 38044 0 10 10) (n (.agg [(I 0), (I 0), q1]) (o ff) (o tn)) (n (I 1) (o tt) e))) (m (n (A 38040 0) (n (I 0) (o (I 1)) (o (I 0))) (n tt (o (S 38059 0 10 10)) (o (A 38059 2)))) (n ff (n tt (o ff) (o (I 0))) (n (S 38044 0 10 10) (o tt) e)))))),
  [.code (c 90 51979454), .code (c 90 26813630), .inLoop (c 90 10036414), .inBlock 9, .inBlock 8, .code (c 90 468158), .inLoop (c 90 74942), .inBlock 7, .inBlock 6, .code (c 90 7358), .inLoop (c 90 1214), .inBlock 5, .code (c 90 254)], [], .run⟩,
 [⟨⟨195, 80, false, none⟩,
  (n (U 38037 0 3 3) (m (n ff (n (S 38040 0 9 9) (n (I 2) (n (I 3) (o q1) e) (o (u8 6))) (n (I 2) (o (I 2)) (o (I 1)))) (n ff (n (I 2) (n (I 2) (o (A 38040 0)) e) (o (A 38040 3))) (n (I 0) (o (u8 1)) (o (I 1))))) (n (I 3) (n (U 38037 0 3 3) (n (.agg [(I 2), (I 0), q3]) (n (S 38040 0 9 9) (o q2) e) (o (A 38040 3))) (n ff (o (A 38043 2)) (o (S 38040 0 9 9)))) (n (I 3) (n ff (n (S 38040 0 9 9) (o (S 38040 0 9 9)) e) (o (S 38040 0 9 9))) (n (A 38043 2) (o (A 38043 2)) (o (A 38040 0)))))) (n ns (n (S 38040 0 9 9) (n (I 3) (n (A 38037 6) (n ff (o (A 38042 2)) e) (o (I 6))) (n ff (o (I 1)) (o (I 0)))) (n (I 2) (n ff (n (I 1) (o (A 38040 2)) e) (o (A 38040 4))) (n tt (o (I 1)) (o (I 0))))) (n (A 38043 0) (n (I 3) (n (A 38043 0) (n (A 38043 0) (o q2) e) (o (A 38040 3))) (n (A 38043 1) (o q3) (o (A 38042 0)))) (n (U 38037 0 3 3) (n (A 38043 0) (o (A 38043 0)) (o (A 38042 0))) (n q3 (o q3) (o (A 38040 2))))))),
  [.reg (r 195 38 1), .code (c 195 54), .code (c 195 30)], [], .run⟩,
 ⟨⟨123, 134, false, none⟩,
  (n z106 (n (I 59) (m (n tt (n (A 37764 0) (n (.agg [(I 4), (I 14), q15]) (o (U 37609 0 1 2)) (o (U 38037 0 3 3))) (n (U 37609 0 1 2) (o tt) e)) (n (I 59) (m (o tt) e) (m (o (U 38038 0 3 3)) e))) (n (A 37656 0) (n (U 38037 0 3 3) (n (U 37609 0 1 2) (o (I 14)) e) (n (U 37609 0 1 2) (o (.tup [(U 38038 0 3 3), (U 38039 0 3 2), (U 38037 0 3 3), tt])) e)) (n tt (n (A 37603 1) (o (.agg [(I 3), (I 14), q60])) e) (n (I 0) (o tt) e)))) (n ff (n (I 1) (n (U 38038 0 3 3) (n (I 1) (o (A 37609 0)) e) (n (.agg [(I 1), (I 1), ns, ns, ns, ns, (U 37655 0 2 2)]) (o ff) e)) (n (.agg [(I 4), (I 14), q15]) (o (I 1)) (n z106 (o (U 38037 0 3 3)) e))) (n (A 37657 0) (n z107 (n tt (o (.agg [(I 3), (I 14), q60])) e) (n tt (o (U 37697 0 1 2)) e)) (m (n (.agg [(I 59), (I 14)]) (o z2) e) (o (A 37609 0)))))) (n (A 37569 0) (n (A 37570 0) (n (I 1) (n (U 37697 0 1 2) (n (.tup [(I 1), (I 1), (U 37609 0 1 2), tt]) (o (I 0)) e) (n (U 37655 0 2 2) (o tt) e)) (n z107 (n (I 1) (o ff) e) (n z108 (o (U 38039 0 3 2)) e))) (n (I 0) (m (n tt (o z108) e) (n (I 1) (o z106) e)) (n ff (n (I 14) (o (.tup [z2, (U 37697 0 1 2), tt])) e) (n (A 37609 0) (o ff) e)))) (n (A 37603 0) (n (U 37609 0 1 2) (n (U 38039 0 3 2) (n (I 1) (o (A 37609 1)) e) (o (I 0))) (n tt (n (I 59) (o (.tup [z2, (U 37697 0 1 2), tt])) e) (n (U 37609 0 1 2) (o tt) e))) (n tt (n z106 (n ff (o tt) e) (m (o (.tup [(U 38038 0 3 3), (U 38039 0 3 2), (U 38037 0 3 3), tt])) e)) (n (.tup [(I 1), (I 1), (U 37609 0 1 2), tt]) (n (S 37654 0 1 1) (o (U 37697 0 1 2)) e) (o (I 58))))))),
  [.reg (r 123 1565886 1), .code (c 123 2090174), .inBlock 1, .code (c 123 7358), .inLoop (c 123 1214), .inBlock 0, .code (c 123 254)], [], .run⟩,
 ⟨⟨63, 33, false, none⟩,
  (n z106 (n (I 59) (m e (o z106)) (o ff)) (n (A 37568 0) (n ns e (o (I 59))) e)),
  [.reg (r 63 4 2), .code (c 63 6)], [], .run⟩,
 ⟨⟨119, 207, false, none⟩,
  (n z106 (n (I 59) (n (I 0) (n (A 37565 0) (n ff (o (I 1)) e) (m (o (I 0)) e)) (m (m (o tt) e) (m (o (I 0)) e))) (n (I 0) (m (m (o ff) (o (I 59))) (m (o ff) e)) (m (m (o ff) e) (m (o z9) e)))) (n (I 0) (n (I 0) (m (n (A 37567 0) (o ff) (o z106)) (m (o ff) e)) (m (m (o ff) e) (m (o (I 0)) e))) (n (U 37557 0 1 6) (m (m (o (I 0)) e) e) (n (A 37566 0) (m (o ff) e) (n (U 37557 0 1 6) (o (A 37567 0)) e))))),
  [.reg (r 119 22 2), .code (c 119 30)], [], .run⟩,
 ⟨⟨56, 300, false, none⟩,
  y52,
  [.reg (r 56 10 8), .code (c 56 14)], [], .run⟩,
 ⟨⟨132, 25, false, none⟩,
  y53,
  [.reg (r 132 4 1), .code (c 132 6)], [], .run⟩,
 ⟨⟨60, 9, false, none⟩,
  y54,
  [.reg (r 60 4 2), .code .ret], [], .run⟩,
 ⟨⟨16, 45, false, none⟩,
  y55,
  [.reg (r 16 5270 3), .code (c 16 7318), .inBlock 1, .code (c 16 918), .inLoop (c 16 150), .inBlock 0, .code (c 16 30)], [], .run⟩,
 ⟨⟨14, 85, false, none⟩,
  y0,
  [.reg (r 14 46 1), .code (c 14 62)], [], .run⟩,
 ⟨⟨4, 120, false, none⟩,
  (o ff),
  [.reg (r 4 8 0), .code (c 4 12), .code (c 4 6)], [], .run⟩],
 ⟨(p 38070), g62⟩,
 []⟩
def k62 : List (IC Blk) := [(c 90 51979454), (c 90 26813630), (c 90 10036414), .skip, .skip, (c 90 468158), (c 90 74942), .skip, .skip, (c 90 7358), (c 90 1214), .skip, (c 90 254), (.region (r 195 38 1)), (c 195 54), (c 195 30), (.region (r 123 1565886 1)), (c 123 2090174), .skip, (c 123 7358), (c 123 1214), .skip, (c 123 254), (.region (r 63 4 2)), (c 63 6), (.region (r 119 22 2)), (c 119 30), (.region (r 56 10 8)), (c 56 14), (.region (r 132 4 1)), (c 132 6), (.region (r 60 4 2)), .ret, (.region (r 16 5270 3)), (c 16 7318), .skip, (c 16 918), (c 16 150), .skip, (c 16 30), (.region (r 14 46 1)), (c 14 62), (.region (r 4 8 0)), (c 4 12), (c 4 6)]
theorem h62 : codesSt s62.fr s62.cs s62.ls = k62 := by kernel_rfl
/-- the memory behind piece 63 -/
def g63 : T Blk := upd [(37567, (ce [ns, ns, (U 38443 0 6 2), (U 38444 0 6 3), (I 0), (I 0), ff])), (38443, (ce [(I 7), (I 2), (I 8), (I 2), (I 56), (I 14), (I 57), (I 14), (I 58), (I 14), (I 59), (I 14)])), (38444, (ce [(I 1), (I 2), q26, (I 1), (I 2), q27, (I 1), (I 14), q100, (I 2), (I 14), q117, (I 3), (I 14), q60, (I 4), (I 14), q15]))] (del [37697, 37570, 37764, 38037, 38039, 37655, 38040, 37656, 38044, 38059, 37565] g62)
/-- the state behind piece 63; its texts -/
def s63 : St :=
⟨⟨⟨119, 207, false, none⟩,
  (n z106 (n (I 59) (n (I 0) (n (A 37565 0) (n ff (n (I 1) (n (A 38222 10) (o tt) e) (o (A 37567 0))) (n (.tup [(U 38222 0 6 2), tt]) (o (A 38222 10)) (o (U 38444 0 6 3)))) (m (n (I 0) (o z107) (o (S 38441 0 1 1))) (n (I 6) (o (A 38222 10)) (o tt)))) (m (n (I 6) (n tt (o (I 5)) (o (U 38222 0 6 2))) (n (U 38222 0 6 2) (o ff) (o (A 37567 3)))) (m (n (I 0) (o tt) (o (A 37567 3))) (n z107 (o tt) (o (I 0)))))) (n (I 0) (m (n (U 38222 0 6 2) (n ff (o (I 59)) (o (A 37567 2))) (n (I 59) (o (I 0)) (o (A 37567 2)))) (m (n ff (o tt) (o (A 37567 0))) (n (I 5) (o (I 0)) e))) (m (n tt (n ff (o (A 38222 11)) (o (A 38222 10))) (n (I 6) (o (I 5)) (o (U 37557 0 1 6)))) (m (n z9 (o (I 5)) (o (.agg [(I 4), (I 14), q15]))) (n (U 38222 0 6 2) (o (A 37567 0)) (o (A 37557 5))))))) (n (I 0) (n (I 0) (m (n (A 37567 0) (n ff (n (A 38222 10) (o ff) e) (o (A 37567 0))) (n z106 (o (I 59)) (o (A 37567 0)))) (m (n ff (o (.agg [(I 4), (I 14), q15])) (o (U 38443 0 6 2))) (n ff (o (I 59)) e))) (m (n (A 38408 0) (n ff (o (A 38222 10)) (o (I 5))) (n tt (o (U 38222 0 6 2)) (o (I 0)))) (m (n (I 0) (o (U 38222 0 6 2)) (o (U 38407 0 5 3))) (n z106 (o tt) (o (A 37557 0)))))) (n (U 37557 0 1 6) (m (n tt (n (I 0) (o (U 38222 0 6 2)) (o (U 38406 0 5 2))) (n (.tup [(U 38222 0 6 2), tt]) (o ff) (o (A 37567 0)))) (m (m (o tt) (o (A 37567 0))) (n (I 6) (o tt) (o (U 37557 0 1 6))))) (n (A 37566 0) (n (I 0) (n ff (o (I 14)) (o (.agg [(I 59), (I 14)]))) (n (U 38222 0 6 2) (o (A 38222 10)) (o (I 1)))) (n (U 37557 0 1 6) (n (A 37567 0) (o (A 38222 10)) (o (S 38442 0 1 1))) (n (I 5) (o (A 37567 0)) (o (U 37482 0 9 3)))))))),
  [.code (c 119 25182), .code (c 119 12894), .inBlock 3, .code (c 119 3678), .inLoop (c 119 606), .inBlock 2, .code (c 119 126)], [], .run⟩,
 [⟨⟨56, 300, false, none⟩,
  y52,
  [.reg (r 56 10 8), .code (c 56 14)], [], .run⟩,
 ⟨⟨132, 25, false, none⟩,
  y53,
  [.reg (r 132 4 1), .code (c 132 6)], [], .run⟩,
 ⟨⟨60, 9, false, none⟩,
  y54,
  [.reg (r 60 4 2), .code .ret], [], .run⟩,
 ⟨⟨16, 45, false, none⟩,
  y55,
  [.reg (r 16 5270 3), .code (c 16 7318), .inBlock 1, .code (c 16 918), .inLoop (c 16 150), .inBlock 0, .code (c 16 30)], [], .run⟩,
 ⟨⟨14, 85, false, none⟩,
  y0,
  [.reg (r 14 46 1), .code (c 14 62)], [], .run⟩,
 ⟨⟨4, 120, false, none⟩,
  (o ff),
  [.reg (r 4 8 0), .code (c 4 12), .code (c 4 6)], [], .run⟩],
 ⟨(p 38506), g63⟩,
 []⟩
def k63 : List (IC Blk) := [(c 119 25182), (c 119 12894), .skip, (c 119 3678), (c 119 606), .skip, (c 119 126), (.region (r 56 10 8)), (c 56 14), (.region (r 132 4 1)), (c 132 6), (.region (r 60 4 2)), .ret, (.region (r 16 5270 3)), (c 16 7318), .skip, (c 16 918), (c 16 150), .skip, (c 16 30), (.region (r 14 46 1)), (c 14 62), (.region (r 4 8 0)), (c 4 12), (c 4 6)]
theorem h63 : codesSt s63.fr s63.cs s63.ls = k63 := by kernel_rfl
def y56 : T V := (n z109 (n (I 0) (n (A 37563 0) (n (I 0) (m (n (A 37563 0) (o (I 60)) e) (o (I 15))) (m (o z112) (o (A 37563 5)))) (n (A 38779 0) (m (n (I 0) (o (U 37557 0 1 6)) e) (o z109)) (n (A 37563 3) (o ff) (o (I 0))))) (m (n tt (m (n (A 37563 5) (o (I 0)) e) (o ff)) (m (o tt) (o (I 15)))) (m (m (o (A 37563 11)) (o (A 37563 0))) (m (o (A 37563 4)) (o (A 37563 7)))))) (n (I 0) (m (n (A 38778 0) (m (n z106 (o (I 0)) e) (o (I 15))) (m (o z111) (o (I 59)))) (n (A 38780 0) (m (o (I 0)) e) (n ff e (o (I 2))))) (n (A 37564 0) (n (I 15) (m (n (I 59) (o (A 37563 11)) e) e) (n (A 37563 0) (o tt) (o (A 37563 6)))) (m (m (o (U 37557 0 1 6)) (o z106)) (n z112 (o (I 14)) (o (I 58)))))))
/-- the memory behind piece 64 -/
def g64 : T Blk := upd [(38783, (ce [ns, ns, ns, ns, (I 15), (I 60), ff])), (39255, (ce [(I 56), (I 14), (I 7), (I 2), (I 8), (I 2)])), (38871, (ce [(I 59), (I 14), (I 58), (I 14)])), (38775, (ce [(I 1), (I 0), q131, (I 2), (I 0), q36, (I 3), (I 0), q37])), (38779, (ce [(U 37476 0 258 1), ns, (I 0), ff, (I 14), (I 59), (I 0), (I 58), (I 1), (I 1), (I 1), (U 37557 0 1 6)])), (38913, (ce [(I 57), (I 14)])), (38777, (ce [(I 2), (I 0)])), (39253, (ce [(I 1), (I 0), q116, (I 1), (I 1), q2, (I 2), (I 0), q3])), (38781, (ce [(U 37476 0 258 1), ns, (I 0), ff])), (38872, (ce [(I 1), (I 1), ns, ns, ns, ns, (U 38871 0 2 2)])), (38980, (ce [(I 1), (I 0), (I 0), (I 0), (I 0)])), (38780, (ce [ns, ns])), (38786, (ce [(I 0), (I 0), ns, ns, ns, ns, ns])), (38778, (ce [(U 38775 0 3 3), (U 38777 0 1 2)])), (38782, (ce [ns, ns]))] (del [38443, 38444, 37566, 37567] g63)
/-- the state behind piece 64; its texts -/
def s64 : St :=
⟨⟨⟨123, 134, false, none⟩,
  (n z106 (n (I 59) (m (n tt (n (A 38980 0) (n (.agg [(I 4), (I 14), q15]) (o (U 38825 0 1 2)) e) (n (U 38825 0 1 2) (o tt) e)) (n (I 59) (m (o tt) e) (m (o (U 39254 0 3 3)) e))) (n (A 38872 0) (n (U 39253 0 3 3) (n (U 38825 0 1 2) (o (I 14)) e) (n (U 38825 0 1 2) (o (.tup [(U 39254 0 3 3), (U 39255 0 3 2), (U 39253 0 3 3), tt])) e)) (n tt (n (A 38819 1) (o (.agg [(I 3), (I 14), q60])) e) (o (I 0))))) (n ff (n (I 1) (n (U 39254 0 3 3) (n (I 1) (o (A 38825 0)) e) (n (.agg [(I 1), (I 1), ns, ns, ns, ns, (U 38871 0 2 2)]) (o ff) e)) (n (.agg [(I 4), (I 14), q15]) (o (I 1)) (n z106 (o (U 39253 0 3 3)) e))) (n (A 38873 0) (n z107 (n tt (o (.agg [(I 3), (I 14), q60])) e) (n tt (o (U 38913 0 1 2)) e)) (m (n (.agg [(I 59), (I 14)]) (o z2) e) (o (A 38825 0)))))) (n (A 38785 0) (n (A 38786 0) (n (I 1) (n (U 38913 0 1 2) (n (.tup [(I 1), (I 1), (U 38825 0 1 2), tt]) (o (I 0)) e) (n (U 38871 0 2 2) (o tt) e)) (n z107 (n (I 1) (o ff) e) (n z108 (o (U 39255 0 3 2)) e))) (n (I 0) (m (n tt (o z108) e) (n (I 1) (o z106) e)) (n ff (n (I 14) (o (.tup [z2, (U 38913 0 1 2), tt])) e) (o (A 38825 0))))) (n (A 38819 0) (n (U 38825 0 1 2) (n (U 39255 0 3 2) (n (I 1) (o (A 38825 1)) e) (o (I 0))) (n tt (n (I 59) (o (.tup [z2, (U 38913 0 1 2), tt])) e) (n (U 38825 0 1 2) (o tt) e))) (n tt (n z106 (n ff (o tt) e) (m (o (.tup [(U 39254 0 3 3), (U 39255 0 3 2), (U 39253 0 3 3), tt])) e)) (n (.tup [(I 1), (I 1), (U 38825 0 1 2), tt]) (n (S 38870 0 1 1) (o (U 38913 0 1 2)) e) (o (I 58))))))),
  [.code (c 123 517310), .inBlock 1, .code (c 123 7358), .inLoop (c 123 1214), .inBlock 0, .code (c 123 254)], [], .run⟩,
 [⟨⟨63, 33, false, none⟩,
  (n z106 (n (I 59) (m e (o z106)) (o ff)) (n (A 38784 0) (n ns e (o (I 59))) e)),
  [.reg (r 63 4 2), .code (c 63 6)], [], .run⟩,
 ⟨⟨119, 207, false, none⟩,
  (n z106 (n (I 59) (n (I 60) (n (A 38781 0) (n ff (o (I 1)) e) (m (o (I 60)) e)) (m (m (o tt) e) (m (o (I 15)) e))) (n (I 0) (m (m (o ff) (o (I 59))) (m (o ff) e)) (m (m (o ff) e) (m (o z110) e)))) (n (I 15) (n (I 0) (m (n (A 38783 0) (o ff) (o z106)) (m (o ff) e)) (m (m (o ff) e) (m (o (I 60)) e))) (n (U 37557 0 1 6) (m (m (o (I 15)) e) e) (n (A 38782 0) (m (o ff) e) (n (U 37557 0 1 6) (o (A 38783 0)) e))))),
  [.reg (r 119 22 2), .code (c 119 30)], [], .run⟩,
 ⟨⟨56, 300, false, none⟩,
  y56,
  [.reg (r 56 382 21), .code (c 56 510)], [], .run⟩,
 ⟨⟨132, 25, false, none⟩,
  y53,
  [.reg (r 132 4 1), .code (c 132 6)], [], .run⟩,
 ⟨⟨60, 9, false, none⟩,
  y54,
  [.reg (r 60 4 2), .code .ret], [], .run⟩,
 ⟨⟨16, 45, false, none⟩,
  y55,
  [.reg (r 16 5270 3), .code (c 16 7318), .inBlock 1, .code (c 16 918), .inLoop (c 16 150), .inBlock 0, .code (c 16 30)], [], .run⟩,
 ⟨⟨14, 85, false, none⟩,
  y0,
  [.reg (r 14 46 1), .code (c 14 62)], [], .run⟩,
 ⟨⟨4, 120, false, none⟩,
  (o ff),
  [.reg (r 4 8 0), .code (c 4 12), .code (c 4 6)], [], .run⟩],
 ⟨(p 39256), g64⟩,
 []⟩
def k64 : List (IC Blk) := [(c 123 517310), .skip, (c 123 7358), (c 123 1214), .skip, (c 123 254), (.region (r 63 4 2)), (c 63 6), (.region (r 119 22 2)), (c 119 30), (.region (r 56 382 21)), (c 56 510), (.region (r 132 4 1)), (c 132 6), (.region (r 60 4 2)), .ret, (.region (r 16 5270 3)), (c 16 7318), .skip, (c 16 918), (c 16 150), .skip, (c 16 30), (.region (r 14 46 1)), (c 14 62), (.region (r 4 8 0)), (c 4 12), (c 4 6)]
theorem h64 : codesSt s64.fr s64.cs s64.ls = k64 := by kernel_rfl
/-- the memory behind piece 65 -/
def g65 : T Blk := upd [(38783, (ce [ns, ns, (U 39659 0 6 2), (U 39660 0 6 3), (I 15), (I 60), ff])), (39659, (ce [(I 7), (I 2), (I 8), (I 2), (I 56), (I 14), (I 57), (I 14), (I 58), (I 14), (I 59), (I 14)])), (39660, (ce [(I 1), (I 2), q26, (I 1), (I 2), q27, (I 1), (I 14), q100, (I 2), (I 14), q117, (I 3), (I 14), q60, (I 4), (I 14), q15]))] (del [38913, 38786, 38980, 34821, 39253, 38871, 39255, 38872, 37478, 37558, 38775, 37560, 38777, 37561, 38778, 34746, 38779, 38781] g64)
/-- the state behind piece 65; its texts -/
def s65 : St :=
⟨⟨⟨119, 207, false, none⟩,
  (n z106 (n (I 59) (n (I 60) (n (A 38781 0) (n ff (n (I 1) (n (A 39438 10) (o tt) e) (o (A 38783 0))) (n (.tup [(U 39438 0 6 2), tt]) (o (A 39438 10)) (o (U 39660 0 6 3)))) (m (n (I 60) (o z107) (o (S 39657 0 1 1))) (n (I 6) (o (A 39438 10)) (o tt)))) (m (n (I 6) (n tt (o (I 5)) (o (U 39438 0 6 2))) (n (U 39438 0 6 2) (o ff) (o (A 38783 3)))) (m (n (I 15) (o tt) (o (A 38783 3))) (n z107 (o tt) (o (I 0)))))) (n (I 0) (m (n (U 39438 0 6 2) (n ff (o (I 59)) (o (A 38783 2))) (n (I 59) (o (I 0)) (o (A 38783 2)))) (m (n ff (o tt) (o (A 38783 0))) (n (I 5) (o (I 0)) e))) (m (n tt (n ff (o (A 39438 11)) (o (A 39438 10))) (n (I 6) (o (I 5)) (o (U 37557 0 1 6)))) (m (n z110 (o (I 5)) (o (.agg [(I 4), (I 14), q15]))) (n (U 39438 0 6 2) (o (A 38783 0)) (o (A 37557 5))))))) (n (I 15) (n (I 0) (m (n (A 38783 0) (n ff (n (A 39438 10) (o ff) e) (o (A 38783 0))) (n z106 (o (I 59)) (o (A 38783 0)))) (m (n ff (o (.agg [(I 4), (I 14), q15])) (o (U 39659 0 6 2))) (n ff (o (I 59)) e))) (m (n (A 39624 0) (n ff (o (A 39438 10)) (o (I 5))) (n tt (o (U 39438 0 6 2)) (o (I 0)))) (m (n (I 60) (o (U 39438 0 6 2)) (o (U 39623 0 5 3))) (n z106 (o tt) (o (A 37557 0)))))) (n (U 37557 0 1 6) (m (n tt (n (I 15) (o (U 39438 0 6 2)) (o (U 39622 0 5 2))) (n (.tup [(U 39438 0 6 2), tt]) (o ff) (o (A 38783 0)))) (m (m (o tt) (o (A 38783 0))) (n (I 6) (o tt) (o (U 37557 0 1 6))))) (n (A 38782 0) (n (I 0) (n ff (o (I 14)) (o (.agg [(I 59), (I 14)]))) (n (U 39438 0 6 2) (o (A 39438 10)) (o (I 1)))) (n (U 37557 0 1 6) (n (A 38783 0) (o (A 39438 10)) (o (S 39658 0 1 1))) (n (I 5) (o (A 38783 0)) (o (U 37482 0 9 3)))))))),
  [.code (c 119 25182), .code (c 119 12894), .inBlock 3, .code (c 119 3678), .inLoop (c 119 606), .inBlock 2, .code (c 119 126)], [], .run⟩,
 [⟨⟨56, 300, false, none⟩,
  y56,
  [.reg (r 56 382 21), .code (c 56 510)], [], .run⟩,
 ⟨⟨132, 25, false, none⟩,
  y53,
  [.reg (r 132 4 1), .code (c 132 6)], [], .run⟩,
 ⟨⟨60, 9, false, none⟩,
  y54,
  [.reg (r 60 4 2), .code .ret], [], .run⟩,
 ⟨⟨16, 45, false, none⟩,
  y55,
  [.reg (r 16 5270 3), .code (c 16 7318), .inBlock 1, .code (c 16 918), .inLoop (c 16 150), .inBlock 0, .code (c 16 30)], [], .run⟩,
 ⟨⟨14, 85, false, none⟩,
  y0,
  [.reg (r 14 46 1), .code (c 14 62)], [], .run⟩,
 ⟨⟨4, 120, false, none⟩,
  (o ff),
  [.reg (r 4 8 0), .code (c 4 12), .code (c 4 6)], [], .run⟩],
 ⟨(p 39722), g65⟩,
 []⟩
def k65 : List (IC Blk) := [(c 119 25182), (c 119 12894), .skip, (c 119 3678), (c 119 606), .skip, (c 119 126), (.region (r 56 382 21)), (c 56 510), (.region (r 132 4 1)), (c 132 6), (.region (r 60 4 2)), .ret, (.region (r 16 5270 3)), (c 16 7318), .skip, (c 16 918), (c 16 150), .skip, (c 16 30), (.region (r 14 46 1)), (c 14 62), (.region (r 4 8 0)), (c 4 12), (c 4 6)]
theorem h65 : codesSt s65.fr s65.cs s65.ls = k65 := by kernel_rfl
/-- the memory behind piece 66 -/
def g66 : T Blk := upd [(40219, (ce [(U 40212 0 258 1), ns, (I 0), ff, (I 15), (I 63), (I 0), (I 62), (I 1), (I 1), (I 1), (U 37557 0 1 6)])), (2436, (ce [(U 40212 0 258 1), ns, (I 0), ff, (I 15), (I 63), (I 0), (I 62), (I 1), (I 1), (I 1), (U 37557 0 1 6)])), (40212, (ce [q0, q4, q5, q6, q7, q8, q16, q17, q18, q19, q20, q21, q22, q23, q24, q25, q28, q29, q30, q31, q32, q33, q34, q35, q38, q39, q40, q41, q42, q43, q44, q45, q46, q47, q48, q49, q50, q51, q52, q53, q61, q62, q63, q64, q65, q66, q67, q68, q69, q70, q71, q72, q74, q75, q76, q77, q78, q79, q80, q81, q82, q83, q84, q85, q0, q0, q0, q0, q0, q0, q0, q0, q0, q0, q0, q0, q0, q0, q0, q0, q0, q0, q0, q0, q0, q0, q0, q0, q0, q0, q0, q0, q0, q0, q0, q0, q0, q0, q0, q0, q0, q0, q0, q0, q0, q0, q0, q0, q0, q0, q0, q0, q0, q0, q0, q0, q0, q0, q0, q0, q0, q0, q0, q0, q0, q0, q0, q0, q0, q0, q0, q0, q0, q0, q0, q0, q0, q0, q0, q0, q0, q0, q0, q0, q0, q0, q0, q0, q0, q0, q0, q0, q0, q0, q0, q0, q0, q0, q0, q0, q0, q0, q0, q0, q0, q0, q0, q0, q0, q0, q0, q0, q0, q0, q0, q0, q0, q0, q0, q0, q0, q0, q0, q0, q0, q0, q0, q0, q0, q0, q0, q0, q0, q0, q0, q0, q0, q0, q0, q0, q0, q0, q0, q0, q0, q0, q0, q0, q0, q0, q0, q0, q0, q0, q0, q0, q0, q0, q0, q0, q0, q0, q0, q0, q0, q0, q0, q0, q0, q0, q0, q0, q0, q0, q0, q0, q0, q0, q0, q0, q0, q0, q0, q0, q0, q0, q0, q0, q0, q0, q0, q0, q0, q0, q0, q0, q0, q0])), (40220, (ce [ns, ns, (I 0), ff, (I 0), (I 0), (I 0), (I 0), (I 0), (I 0), (I 0), ns])), (40218, (ce [(I 2), (I 24), q2, (I 1), (I 6), q1, (I 0), (I 0), q1, (I 0), (I 0), q1, (I 0), (I 0), q1, (I 0), (I 0), q1, (I 0), (I 0), q1, (I 0), (I 0), q1, (I 0), (I 0), q1])), (40214, (ce [(U 40212 0 258 1), ns, (I 0), ff, (I 15), (I 63), (I 0), (I 62), (I 1), (I 1), (I 1), (U 37557 0 1 6)]))] (del [37476, 39659, 39660, 37559, 37562, 37563, 38780, 37564, 38782, 38783] g65)
/-- the state behind piece 66; its texts -/
def s66 : St :=
⟨⟨⟨37, 26, false, none⟩,
  (n z113 (n (U 40218 0 9 3) (m (o (U 40218 0 9 3)) e) (m (o ff) e)) (n (A 40219 0) (n (A 40220 0) (o tt) e) e)),
  [.code (c 37 12), .code (c 37 6)], [], .run⟩,
 [⟨⟨16, 45, false, none⟩,
  (n z3 (n (A 2436 0) (n (U 40218 0 9 3) (n (I 0) (n (U 2457 0 9 3) (o (U 40218 0 9 3)) e) (n tt (o (I 0)) e)) (n (.tup [(U 2457 0 9 3), (I 0)]) (n tt (o (U 40218 0 9 3)) e) (n (U 37482 0 9 3) (o z113) e))) (n (I 14) (n z3 (n (I 14) (o z114) e) (n (I 14) (o ff) e)) (n (I 0) (n (I 0) (o z114) e) (o (I 24))))) (n (A 2437 0) (n (I 0) (n (.tup [(U 2457 0 9 3), (I 0)]) (n z5 (o (I 0)) e) (n (I 13) (o (I 0)) e)) (n (U 2457 0 9 3) (n (A 2436 6) (o z109) e) (o (I 14)))) (n (A 40214 0) (n (S 777 0 9 9) (n tt (o z113) e) (o (.tup [(U 40218 0 9 3), (I 0)]))) (n z3 (n tt (o z113) e) (o (.tup [(U 40218 0 9 3), (I 0)])))))),
  [.reg (r 16 5270 2), .code (c 16 7318), .inBlock 1, .code (c 16 918), .inLoop (c 16 150), .inBlock 0, .code (c 16 30)], [], .run⟩,
 ⟨⟨14, 85, false, none⟩,
  y0,
  [.reg (r 14 46 1), .code (c 14 62)], [], .run⟩,
 ⟨⟨4, 120, false, none⟩,
  (o ff),
  [.reg (r 4 8 0), .code (c 4 12), .code (c 4 6)], [], .run⟩],
 ⟨(p 40282), g66⟩,
 []⟩
def k66 : List (IC Blk) := [(c 37 12), (c 37 6), (.region (r 16 5270 2)), (c 16 7318), .skip, (c 16 918), (c 16 150), .skip, (c 16 30), (.region (r 14 46 1)), (c 14 62), (.region (r 4 8 0)), (c 4 12), (c 4 6)]
theorem h66 : codesSt s66.fr s66.cs s66.ls = k66 := by kernel_rfl
def y57 : T V := (n z116 (n z116 (o (A 40297 0)) (n (I 0) (o z116) e)) (n (A 40296 0) (o (A 40298 0)) e))
def y58 : T V := (n z116 (n (A 40294 0) (o (I 0)) (o z116)) (n (A 40295 0) (o z116) e))
def y59 : T V := (n z3 (n (A 2436 0) (n (U 40218 0 9 3) (n (I 0) (n (U 2457 0 9 3) (o (U 40218 0 9 3)) e) (n tt (o (I 0)) e)) (n (.tup [(U 2457 0 9 3), (I 0)]) (n tt (o (U 40218 0 9 3)) e) (n (U 37482 0 9 3) (o z113) e))) (n (I 14) (n z3 (n (I 14) (o z114) e) (n (I 14) (o ff) e)) (n (I 0) (n (I 0) (o z114) e) (o (I 24))))) (n (A 2437 0) (n (I 0) (n (.tup [(U 2457 0 9 3), (I 0)]) (n z5 (o (I 0)) e) (n (I 13) (o (I 0)) e)) (n (U 2457 0 9 3) (n (A 2436 6) (o z116) e) (o (I 14)))) (n (A 40214 0) (n (S 777 0 9 9) (n tt (o z113) e) (o (.tup [(U 40218 0 9 3), (I 0)]))) (n z3 (n tt (o z113) e) (o (.tup [(U 40218 0 9 3), (I 0)]))))))
/-- the memory behind piece 67 -/
def g67 : T Blk := upd [(40303, (ce [ns, ns, ns, ns, (I 0), (I 0), ff])), (40295, (ce [ns, ns, (I 0), ff, (I 0), (I 0), (I 0), (I 0), (I 0), (I 0), (I 0), ns])), (40299, (ce [(U 40212 0 258 1), ns, (I 0), ff, (I 15), (I 63), (I 0), (I 62), (I 1), (I 1), (I 1), (U 40293 0 1 6)])), (40297, (ce [(U 40212 0 258 1), ns, (I 0), ff, (I 15), (I 63), (I 0), (I 62), (I 1), (I 1), (I 1), (U 40293 0 1 6)])), (40293, (ce [(I 1), (I 0), (I 0), (I 0), (I 0), (U 40218 0 9 3)])), (40301, (ce [(U 40212 0 258 1), ns, (I 0), ff])), (40296, (ce [(U 40212 0 258 1), ns, (I 0), ff, (I 15), (I 63), (I 0), (I 62), (I 1), (I 1), (I 1), (U 40293 0 1 6)])), (40300, (ce [ns, ns, (I 0), ff, (I 0), (I 0), (I 0), (I 0), (I 0), (I 0), (I 0), ns])), (40298, (ce [ns, ns, (I 0), ff, (I 0), (I 0), (I 0), (I 0), (I 0), (I 0), (I 0), ns])), (40294, (ce [(U 40212 0 258 1), ns, (I 0), ff, (I 15), (I 63), (I 0), (I 62), (I 1), (I 1), (I 1), (U 40293 0 1 6)])), (40302, (ce [ns, ns])), (40958, (ce [(I 7), (I 2), (I 8), (I 2), (I 60), (I 15), (I 61), (I 15), (I 62), (I 15), (I 63), (I 15)]))] (del [40219, 40220] g66)
/-- the state behind piece 67; its texts -/
def s67 : St :=
⟨⟨⟨119, 207, false, none⟩,
  (n z115 (n (I 63) (n (I 0) (n (A 40301 0) (n ff (o (I 1)) (o (.tup [(U 40958 0 6 2), tt]))) (m (o (I 0)) e)) (m (m (o tt) (o (U 40958 0 6 2))) (m (o (I 0)) e))) (n (I 0) (m (n (U 40958 0 6 2) (o ff) (o (I 63))) (m (o ff) e)) (m (m (o ff) e) (m (o z9) e)))) (n (I 0) (n (I 0) (m (n (A 40303 0) (o ff) (o z115)) (m (o ff) e)) (m (m (o ff) (o tt)) (m (o (I 0)) e))) (n (U 40293 0 1 6) (m (n tt (o (I 0)) (o (.tup [(U 40958 0 6 2), tt]))) e) (n (A 40302 0) (m (o ff) e) (n (U 40293 0 1 6) (o (A 40303 0)) e))))),
  [.code (c 119 30)], [], .run⟩,
 [⟨⟨56, 300, false, none⟩,
  (n z116 (n (I 0) (n (A 40299 0) (n (I 0) (m (o (A 40299 0)) e) e) (m (m (o (I 0)) e) (o (A 40299 3)))) (m (m (m (o (A 40299 5)) e) e) (m (m (o (A 40299 11)) e) e))) (n (I 0) (m (m (m (o z115) e) e) (m (m (o (I 0)) e) (o ff))) (n (A 40300 0) (m (m (o (I 63)) e) (o (A 40299 0))) (m (m (o (U 40293 0 1 6)) e) e)))),
  [.reg (r 56 10 8), .code (c 56 14)], [], .run⟩,
 ⟨⟨132, 25, false, none⟩,
  y57,
  [.reg (r 132 4 1), .code (c 132 6)], [], .run⟩,
 ⟨⟨60, 9, false, none⟩,
  y58,
  [.reg (r 60 4 2), .code .ret], [], .run⟩,
 ⟨⟨16, 45, false, none⟩,
  y59,
  [.reg (r 16 5270 3), .code (c 16 7318), .inBlock 1, .code (c 16 918), .inLoop (c 16 150), .inBlock 0, .code (c 16 30)], [], .run⟩,
 ⟨⟨14, 85, false, none⟩,
  y0,
  [.reg (r 14 46 1), .code (c 14 62)], [], .run⟩,
 ⟨⟨4, 120, false, none⟩,
  (o ff),
  [.reg (r 4 8 0), .code (c 4 12), .code (c 4 6)], [], .run⟩],
 ⟨(p 40959), g67⟩,
 []⟩
def k67 : List (IC Blk) := [(c 119 30), (.region (r 56 10 8)), (c 56 14), (.region (r 132 4 1)), (c 132 6), (.region (r 60 4 2)), .ret, (.region (r 16 5270 3)), (c 16 7318), .skip, (c 16 918), (c 16 150), .skip, (c 16 30), (.region (r 14 46 1)), (c 14 62), (.region (r 4 8 0)), (c 4 12), (c 4 6)]
theorem h67 : codesSt s67.fr s67.cs s67.ls = k67 := by kernel_rfl
/-- the memory behind piece 68 -/
def g68 : T Blk := upd [(41511, (ce [(I 1), (I 0), q93, (I 2), (I 0), q36, (I 3), (I 0), q37])), (41513, (ce [(I 2), (I 0)])), (41514, (ce [(U 41511 0 3 3), (U 41513 0 1 2)]))] (del [40301, 40302, 40303, 40958] g67)
/-- the state behind piece 68; its texts -/
def s68 : St :=
⟨⟨⟨56, 300, false, none⟩,
  (n z116 (n (I 0) (n (A 40299 0) (n (I 0) (m (o (A 40299 0)) e) (m (o z118) e)) (m (m (o (I 0)) e) (o (A 40299 3)))) (m (n tt (m (o (A 40299 5)) e) (m (o tt) e)) (m (m (o (A 40299 11)) e) e))) (n (I 0) (m (n (A 41514 0) (m (o z115) e) (m (o z117) e)) (m (m (o (I 0)) e) (o ff))) (n (A 40300 0) (m (m (o (I 63)) e) (o (A 40299 0))) (m (m (o (U 40293 0 1 6)) e) (o z118))))),
  [.code (c 56 14)], [], .run⟩,
 [⟨⟨132, 25, false, none⟩,
  y57,
  [.reg (r 132 4 1), .code (c 132 6)], [], .run⟩,
 ⟨⟨60, 9, false, none⟩,
  y58,
  [.reg (r 60 4 2), .code .ret], [], .run⟩,
 ⟨⟨16, 45, false, none⟩,
  y59,
  [.reg (r 16 5270 3), .code (c 16 7318), .inBlock 1, .code (c 16 918), .inLoop (c 16 150), .inBlock 0, .code (c 16 30)], [], .run⟩,
 ⟨⟨14, 85, false, none⟩,
  y0,
  [.reg (r 14 46 1), .code (c 14 62)], [], .run⟩,
 ⟨⟨4, 120, false, none⟩,
  (o ff),
  [.reg (r 4 8 0), .code (c 4 12), .code (c 4 6)], [], .run⟩],
 ⟨(p 41515), g68⟩,
 []⟩
def k68 : List (IC Blk) := [(c 56 14), (.region (r 132 4 1)), (c 132 6), (.region (r 60 4 2)), .ret, (.region (r 16 5270 3)), (c 16 7318), .skip, (c 16 918), (c 16 150), .skip, (c 16 30), (.region (r 14 46 1)), (c 14 62), (.region (r 4 8 0)), (c 4 12), (c 4 6)]
theorem h68 : codesSt s68.fr s68.cs s68.ls = k68 := by kernel_rfl
/-- the memory behind piece 69 -/
def g69 : T Blk := upd [(41519, (ce [ns, ns, ns, ns, (I 16), (I 64), ff])), (41515, (ce [(U 40212 0 258 1), ns, (I 0), ff, (I 15), (I 63), (I 0), (I 62), (I 1), (I 1), (I 1), (U 40293 0 1 6)])), (41517, (ce [(U 40212 0 258 1), ns, (I 0), ff])), (41516, (ce [ns, ns])), (41518, (ce [ns, ns])), (42174, (ce [(I 7), (I 2), (I 8), (I 2), (I 60), (I 15), (I 61), (I 15), (I 62), (I 15), (I 63), (I 15)]))] (del [] g68)
/-- the state behind piece 69; its texts -/
def s69 : St :=
⟨⟨⟨119, 207, false, none⟩,
  (n z115 (n (I 63) (n (I 64) (n (A 41517 0) (n ff (o (I 1)) (o (.tup [(U 42174 0 6 2), tt]))) (m (o (I 64)) e)) (m (m (o tt) (o (U 42174 0 6 2))) (m (o (I 16)) e))) (n (I 0) (m (n (U 42174 0 6 2) (o ff) (o (I 63))) (m (o ff) e)) (m (m (o ff) e) (m (o (.agg [ns, ns, ns, ns, (I 16), (I 64), ff])) e)))) (n (I 16) (n (I 0) (m (n (A 41519 0) (o ff) (o z115)) (m (o ff) e)) (m (m (o ff) (o tt)) (m (o (I 64)) e))) (n (U 40293 0 1 6) (m (n tt (o (I 16)) (o (.tup [(U 42174 0 6 2), tt]))) e) (n (A 41518 0) (m (o ff) e) (n (U 40293 0 1 6) (o (A 41519 0)) e))))),
  [.code (c 119 30)], [], .run⟩,
 [⟨⟨56, 300, false, none⟩,
  (n z116 (n (I 0) (n (A 40299 0) (n (I 0) (m (n (A 40299 0) (o (I 64)) e) (o (I 16))) (m (o z118) (o (A 40299 5)))) (n (A 41515 0) (m (n (I 0) (o (U 40293 0 1 6)) e) (o z116)) (n (A 40299 3) (o ff) (o (I 0))))) (m (n tt (m (n (A 40299 5) (o (I 0)) e) (o ff)) (m (o tt) (o (I 16)))) (m (m (o (A 40299 11)) (o (A 40299 0))) (m (o (A 40299 4)) (o (A 40299 7)))))) (n (I 0) (m (n (A 41514 0) (m (n z115 (o (I 0)) e) (o (I 16))) (m (o z117) (o (I 63)))) (n (A 41516 0) (m (o (I 0)) e) (n ff e (o (I 2))))) (n (A 40300 0) (n (I 16) (m (n (I 63) (o (A 40299 11)) e) e) (n (A 40299 0) (o tt) (o (A 40299 6)))) (m (m (o (U 40293 0 1 6)) (o z115)) (n z118 (o (I 15)) (o (I 62))))))),
  [.reg (r 56 382 21), .code (c 56 510)], [], .run⟩,
 ⟨⟨132, 25, false, none⟩,
  y57,
  [.reg (r 132 4 1), .code (c 132 6)], [], .run⟩,
 ⟨⟨60, 9, false, none⟩,
  y58,
  [.reg (r 60 4 2), .code .ret], [], .run⟩,
 ⟨⟨16, 45, false, none⟩,
  y59,
  [.reg (r 16 5270 3), .code (c 16 7318), .inBlock 1, .code (c 16 918), .inLoop (c 16 150), .inBlock 0, .code (c 16 30)], [], .run⟩,
 ⟨⟨14, 85, false, none⟩,
  y0,
  [.reg (r 14 46 1), .code (c 14 62)], [], .run⟩,
 ⟨⟨4, 120, false, none⟩,
  (o ff),
  [.reg (r 4 8 0), .code (c 4 12), .code (c 4 6)], [], .run⟩],
 ⟨(p 42175), g69⟩,
 []⟩
def k69 : List (IC Blk) := [(c 119 30), (.region (r 56 382 21)), (c 56 510), (.region (r 132 4 1)), (c 132 6), (.region (r 60 4 2)), .ret, (.region (r 16 5270 3)), (c 16 7318), .skip, (c 16 918), (c 16 150), .skip, (c 16 30), (.region (r 14 46 1)), (c 14 62), (.region (r 4 8 0)), (c 4 12), (c 4 6)]
theorem h69 : codesSt s69.fr s69.cs s69.ls = k69 := by kernel_rfl
/-- the memory behind piece 70 -/
def g70 : T Blk := upd [(42727, (ce [(I 1), (I 16), q93, (I 2), (I 16), q132, (I 3), (I 16), q133])), (42729, (ce [(I 66), (I 16)])), (41516, (ce [(U 42727 0 3 3), (U 42729 0 1 2)]))] (del [41517, 41518, 41519, 42174] g69)
/-- the state behind piece 70; its texts -/
def s70 : St :=
⟨⟨⟨56, 300, false, none⟩,
  (n z116 (n (I 0) (n (A 40299 0) (n (I 0) (m (n (A 40299 0) (o (I 64)) e) (o (I 16))) (m (o z118) (o (A 40299 5)))) (n (A 41515 0) (m (n (I 0) (o (U 40293 0 1 6)) e) (o z116)) (n (A 40299 3) (o ff) (o (I 0))))) (m (n tt (m (n (A 40299 5) (o (I 0)) e) (o ff)) (m (o tt) (o (I 16)))) (m (m (n (A 40299 11) (o z119) e) (o (A 40299 0))) (m (o (A 40299 4)) (o (A 40299 7)))))) (n (I 0) (m (n (A 41514 0) (m (n z115 (o (I 0)) e) (o (I 16))) (m (o z117) (o (I 63)))) (n (A 41516 0) (m (n (I 0) (o z120) e) (o z120)) (n ff e (o (I 2))))) (n (A 40300 0) (n (I 16) (m (n (I 63) (o (A 40299 11)) e) e) (n (A 40299 0) (o tt) (o (A 40299 6)))) (m (m (n (U 40293 0 1 6) (o tt) e) (o z115)) (n z118 (o (I 15)) (o (I 62))))))),
  [.code (c 56 510)], [], .run⟩,
 [⟨⟨132, 25, false, none⟩,
  y57,
  [.reg (r 132 4 1), .code (c 132 6)], [], .run⟩,
 ⟨⟨60, 9, false, none⟩,
  y58,
  [.reg (r 60 4 2), .code .ret], [], .run⟩,
 ⟨⟨16, 45, false, none⟩,
  y59,
  [.reg (r 16 5270 3), .code (c 16 7318), .inBlock 1, .code (c 16 918), .inLoop (c 16 150), .inBlock 0, .code (c 16 30)], [], .run⟩,
 ⟨⟨14, 85, false, none⟩,
  y0,
  [.reg (r 14 46 1), .code (c 14 62)], [], .run⟩,
 ⟨⟨4, 120, false, none⟩,
  (o ff),
  [.reg (r 4 8 0), .code (c 4 12), .code (c 4 6)], [], .run⟩],
 ⟨(p 42730), g70⟩,
 []⟩
def k70 : List (IC Blk) := [(c 56 510), (.region (r 132 4 1)), (c 132 6), (.region (r 60 4 2)), .ret, (.region (r 16 5270 3)), (c 16 7318), .skip, (c 16 918), (c 16 150), .skip, (c 16 30), (.region (r 14 46 1)), (c 14 62), (.region (r 4 8 0)), (c 4 12), (c 4 6)]
theorem h70 : codesSt s70.fr s70.cs s70.ls = k70 := by kernel_rfl
/-- the memory behind piece 71 -/
def g71 : T Blk := upd [(42762, (ce [(I 4), (I 15), q73]))] (del [] g70)
/-- the state behind piece 71; its texts -/
def s71 : St :=
⟨⟨⟨56, 300, false, none⟩,
  (n z116 (n (I 0) (n (A 40299 0) (n (I 0) (m (n (A 40299 0) (o (I 64)) (o tn)) (n (I 16) (n z121 (o (I 3)) e) e)) (m (n z118 (o tt) e) (n (A 40299 5) (n ff (o (I 63)) e) e))) (n (A 41515 0) (m (n (I 0) (o (U 40293 0 1 6)) (o tn)) (n z116 (n tt (o (.tup [(I 1), tt])) e) e)) (n (A 40299 3) (n ff (n (A 40299 0) (o (A 40299 7)) e) e) (n (I 0) (n tn (o (I 1)) e) e)))) (m (n tt (m (n (A 40299 5) (o (I 0)) (o tn)) (n ff (n tt (o (I 66)) e) e)) (m (o tt) (n (I 16) (n ff (o (I 0)) e) e))) (n (A 42762 0) (n (I 1) (n (A 40299 11) (o z119) e) (n (A 40299 0) (n (U 42727 0 3 3) (o z115) e) e)) (m (n (A 40299 4) (n (A 40299 5) (o (A 41516 0)) e) e) (n (A 40299 7) (o tn) e))))) (n (I 0) (m (n (A 41514 0) (m (n z115 (o (I 0)) (o tn)) (n (I 16) (n (.agg [(I 4), (I 15), q73]) (o (I 65)) e) e)) (m (n z117 (o ff) e) (n (I 63) (n ff (o (A 40299 6)) e) e))) (n (A 41516 0) (m (n (I 0) (o z120) (o ff)) (n z120 (n (A 41516 0) (o (A 40299 0)) e) e)) (n ff (m (n z115 (o (I 62)) e) e) (n (I 2) (n tn (o tt) e) e)))) (n (A 40300 0) (n (I 16) (m (n (I 63) (o (A 40299 11)) (o tn)) (m (n tt (o tt) e) e)) (n (A 40299 0) (n tt (o z121) e) (n (A 40299 6) (n tn (o (.tup [(I 1), tt])) e) e))) (n tt (n tt (n (U 40293 0 1 6) (o tt) e) (n z115 (n (I 3) (o (A 40299 5)) e) e)) (n z118 (n (I 15) (n (I 63) (o (U 42727 0 3 3)) e) e) (n (I 62) (o tn) e)))))),
  [.code (c 56 55294), .code (c 56 8190)], [], .run⟩,
 [⟨⟨132, 25, false, none⟩,
  y57,
  [.reg (r 132 4 1), .code (c 132 6)], [], .run⟩,
 ⟨⟨60, 9, false, none⟩,
  y58,
  [.reg (r 60 4 2), .code .ret], [], .run⟩,
 ⟨⟨16, 45, false, none⟩,
  y59,
  [.reg (r 16 5270 3), .code (c 16 7318), .inBlock 1, .code (c 16 918), .inLoop (c 16 150), .inBlock 0, .code (c 16 30)], [], .run⟩,
 ⟨⟨14, 85, false, none⟩,
  y0,
  [.reg (r 14 46 1), .code (c 14 62)], [], .run⟩,
 ⟨⟨4, 120, false, none⟩,
  (o ff),
  [.reg (r 4 8 0), .code (c 4 12), .code (c 4 6)], [], .run⟩],
 ⟨(p 43422), g71⟩,
 []⟩
def k71 : List (IC Blk) := [(c 56 55294), (c 56 8190), (.region (r 132 4 1)), (c 132 6), (.region (r 60 4 2)), .ret, (.region (r 16 5270 3)), (c 16 7318), .skip, (c 16 918), (c 16 150), .skip, (c 16 30), (.region (r 14 46 1)), (c 14 62), (.region (r 4 8 0)), (c 4 12), (c 4 6)]
theorem h71 : codesSt s71.fr s71.cs s71.ls = k71 := by kernel_rfl
/-- the memory behind piece 72 -/
def g72 : T Blk := upd [(43423, (ce [ns, ns])), (44079, (ce [(I 7), (I 2), (I 8), (I 2), (I 60), (I 15), (I 61), (I 15), (I 62), (I 15), (I 63), (I 15)])), (43424, (ce [ns, ns, ns, ns, (I 16), (I 66), ff])), (43422, (ce [(U 40212 0 258 1), ns, (I 0), ff]))] (del [42762, 40214, 2457, 2532, 40294, 42727, 41511, 40296, 42729, 41513, 40297, 41514, 37482, 41515, 37557] g71)
/-- the state behind piece 72; its texts -/
def s72 : St :=
⟨⟨⟨119, 207, false, none⟩,
  (n z115 (n (I 63) (n (I 66) (n (A 43422 0) (n ff (o (I 1)) (o (.tup [(U 44079 0 6 2), tt]))) (m (o (I 66)) e)) (m (m (o tt) (o (U 44079 0 6 2))) (m (o (I 16)) e))) (n (I 0) (m (n (U 44079 0 6 2) (o ff) (o (I 63))) (m (o ff) e)) (m (m (o ff) e) (m (o (.agg [ns, ns, ns, ns, (I 16), (I 66), ff])) e)))) (n (I 16) (n (I 0) (m (n (A 43424 0) (o ff) (o z115)) (m (o ff) e)) (m (m (o ff) (o tt)) (m (o (I 66)) e))) (n (U 40293 0 1 6) (m (n tt (o (I 16)) (o (.tup [(U 44079 0 6 2), tt]))) e) (n (A 43423 0) (m (o ff) e) (n (U 40293 0 1 6) (o (A 43424 0)) e))))),
  [.code (c 119 30)], [], .run⟩,
 [⟨⟨56, 300, false, none⟩,
  (n z116 (n (I 0) (n (A 40299 0) (n (I 0) (m (n (A 40299 0) (o (I 64)) (n tn (o ff) e)) (n (I 16) (n z121 (o (I 3)) e) (m (o ff) e))) (m (n z118 (o tt) (m (o tn) e)) (n (A 40299 5) (n ff (o (I 63)) e) (m (o (I 16)) e)))) (n (A 41515 0) (m (n (I 0) (o (U 40293 0 1 6)) (n tn (o ff) e)) (n z116 (n tt (o (.tup [(I 1), tt])) e) (m (o (A 40299 0)) e))) (n (A 40299 3) (n ff (n (A 40299 0) (o (A 40299 7)) e) (m (o ff) e)) (n (I 0) (n tn (o (I 1)) e) (m (o (I 0)) e))))) (m (n tt (m (n (A 40299 5) (o (I 0)) (n tn (o (I 66)) e)) (n ff (n tt (o (I 66)) e) e)) (m (n tt e (m (o tn) e)) (n (I 16) (n ff (o (I 0)) e) (m (o (I 66)) e)))) (n (A 42762 0) (n (I 1) (n (A 40299 11) (o z119) (m (o tn) e)) (n (A 40299 0) (n (U 42727 0 3 3) (o z115) e) (m (o (A 40299 5)) e))) (m (n (A 40299 4) (n (A 40299 5) (o (A 41516 0)) e) (m (o tn) e)) (n (A 40299 7) (n tn (o tt) e) (m (o (U 40293 0 1 6)) e)))))) (n (I 0) (m (n (A 41514 0) (m (n z115 (o (I 0)) (n tn (o (I 1)) e)) (n (I 16) (n (.agg [(I 4), (I 15), q73]) (o (I 65)) e) (m (o ff) e))) (m (n z117 (o ff) (m (o tn) e)) (n (I 63) (n ff (o (A 40299 6)) e) (m (o (I 1)) e)))) (n (A 41516 0) (m (n (I 0) (o z120) (n ff (o ff) e)) (n z120 (n (A 41516 0) (o (A 40299 0)) e) (m (o z115) e))) (n ff (m (n z115 (o (I 62)) e) (m (o tn) e)) (n (I 2) (n tn (o tt) e) (m (o (A 40299 11)) e))))) (n (A 40300 0) (n (I 16) (m (n (I 63) (o (A 40299 11)) (n tn (o (I 0)) e)) (m (n tt (o tt) e) e)) (n (A 40299 0) (n tt (o z121) (m (o ff) e)) (n (A 40299 6) (n tn (o (.tup [(I 1), tt])) e) (m (o (I 0)) e)))) (n tt (n tt (n (U 40293 0 1 6) (o tt) (m (o tn) e)) (n z115 (n (I 3) (o (A 40299 5)) e) (m (o (I 63)) e))) (n z118 (n (I 15) (n (I 63) (o (U 42727 0 3 3)) e) (m (o tn) e)) (n (I 62) (n tn (o ff) e) e)))))),
  [.reg (r 56 186366 14), .code (c 56 251902), .code (c 56 8190)], [], .run⟩,
 ⟨⟨132, 25, false, none⟩,
  y57,
  [.reg (r 132 4 1), .code (c 132 6)], [], .run⟩,
 ⟨⟨60, 9, false, none⟩,
  y58,
  [.reg (r 60 4 2), .code .ret], [], .run⟩,
 ⟨⟨16, 45, false, none⟩,
  y59,
  [.reg (r 16 5270 3), .code (c 16 7318), .inBlock 1, .code (c 16 918), .inLoop (c 16 150), .inBlock 0, .code (c 16 30)], [], .run⟩,
 ⟨⟨14, 85, false, none⟩,
  y0,
  [.reg (r 14 46 1), .code (c 14 62)], [], .run⟩,
 ⟨⟨4, 120, false, none⟩,
  (o ff),
  [.reg (r 4 8 0), .code (c 4 12), .code (c 4 6)], [], .run⟩],
 ⟨(p 44080), g72⟩,
 []⟩
def k72 : List (IC Blk) := [(c 119 30), (.region (r 56 186366 14)), (c 56 251902), (c 56 8190), (.region (r 132 4 1)), (c 132 6), (.region (r 60 4 2)), .ret, (.region (r 16 5270 3)), (c 16 7318), .skip, (c 16 918), (c 16 150), .skip, (c 16 30), (.region (r 14 46 1)), (c 14 62), (.region (r 4 8 0)), (c 4 12), (c 4 6)]
theorem h72 : codesSt s72.fr s72.cs s72.ls = k72 := by kernel_rfl
/-- the memory behind piece 73 -/
def g73 : T Blk := upd [(44899, (ce [(U 44896 0 258 1), ns, (I 0), ff, (I 16), (I 69), (I 1), (I 4), (I 2), (I 1), (I 1), (U 40293 0 1 6)])), (44896, (ce [q87, q4, q5, q6, q7, q8, q16, q17, q18, q19, q20, q21, q22, q23, q24, q25, q28, q29, q30, q31, q32, q33, q34, q35, q38, q39, q40, q41, q42, q43, q44, q45, q46, q47, q48, q49, q50, q51, q52, q53, q61, q62, q63, q64, q65, q66, q67, q68, q69, q70, q71, q72, q74, q75, q76, q77, q78, q79, q80, q81, q82, q83, q84, q85, q0, q0, q88, q89, q90, q91, q0, q0, q0, q0, q0, q0, q0, q0, q0, q0, q0, q0, q0, q0, q0, q0, q0, q0, q0, q0, q0, q0, q0, q0, q0, q0, q0, q0, q0, q0, q0, q0, q0, q0, q0, q0, q0, q0, q0, q0, q0, q0, q0, q0, q0, q0, q0, q0, q0, q0, q0, q0, q0, q0, q0, q0, q0, q0, q0, q0, q0, q0, q0, q0, q0, q0, q0, q0, q0, q0, q0, q0, q0, q0, q0, q0, q0, q0, q0, q0, q0, q0, q0, q0, q0, q0, q0, q0, q0, q0, q0, q0, q0, q0, q0, q0, q0, q0, q0, q0, q0, q0, q0, q0, q0, q0, q0, q0, q0, q0, q0, q0, q0, q0, q0, q0, q0, q0, q0, q0, q0, q0, q0, q0, q0, q0, q0, q0, q0, q0, q0, q0, q0, q0, q0, q0, q0, q0, q0, q0, q0, q0, q0, q0, q0, q0, q0, q0, q0, q0, q0, q0, q0, q0, q0, q0, q0, q0, q0, q0, q0, q0, q0, q0, q0, q0, q0, q0, q0, q0, q0, q0, q0, q0, q0, q0, q0, q0, q0, q0, q0, q0, q0, q0, q0, q0, q0, q0]))] (del [2436, 2437, 40212, 43422, 43423, 43424, 40295, 40298, 40299, 41516, 40300, 44079] g72)
/-- the state behind piece 73; its texts -/
def s73 : St :=
⟨⟨⟨14, 85, false, none⟩,
  (n ff (n (A 1402 0) (n (I 0) (n (I 2) (n z4 (o z122) e) (o ff)) (m (o (.tup [(I 0), ff])) (o z6))) (n (A 2435 0) (m (o z3) (o z3)) (m (o (.tup [(I 0), ff])) (o (I 2))))) (n tt (n ff (n (A 44899 0) (o z4) (o z7)) (m (o z3) (o (I 0)))) (n (I 0) (m (o tt) (o z7)) (m (o (I 0)) (o z3))))),
  [.code (c 14 62)], [], .run⟩,
 [⟨⟨4, 120, false, none⟩,
  (o ff),
  [.reg (r 4 8 0), .code (c 4 12), .code (c 4 6)], [], .run⟩],
 ⟨(p 44900), g73⟩,
 []⟩
def k73 : List (IC Blk) := [(c 14 62), (.region (r 4 8 0)), (c 4 12), (c 4 6)]
theorem h73 : codesSt s73.fr s73.cs s73.ls = k73 := by kernel_rfl
def y60 : T V := (n ff (n (A 1402 0) (n (I 0) (n (I 2) (n z4 (o z122) e) (o ff)) (m (n (.tup [(I 0), ff]) (o (I 0)) e) (o z6))) (n (A 2435 0) (n (I 0) (n z3 (o z122) e) (o z3)) (m (o (.tup [(I 0), ff])) (o (I 2))))) (n tt (n ff (n (A 44899 0) (n z4 (o (.tup [(I 0), tt])) e) (o z7)) (m (n z3 (o tt) e) (o (I 0)))) (n (I 0) (n tt (n tt (o (.tup [(I 0), tt])) e) (o z7)) (m (n (I 0) (o z122) e) (o z3)))))
/-- the memory behind piece 74 -/
def g74 : T Blk := upd [(45743, (ce [(I 69), (I 16)])), (45697, (ce [ns, ns, (I 0), ff, (I 0), (I 0), (I 0), (I 0), (I 0), (I 0), (I 0), ns])), (45705, (ce [ff])), (45701, (ce [(I 0), (I 0), (I 0), (I 0), (I 0), (I 0), (I 0), (I 0)])), (45749, (ce [(I 68), (I 16)])), (45696, (ce [(U 44896 0 258 1), ns, (I 0), ff, (I 16), (I 69), (I 1), (I 4), (I 2), (I 1), (I 1), (U 40293 0 1 6)])), (45704, (ce [(A 45706 0)])), (45698, (ce [(U 44896 0 258 1), ns, (I 0), ff, (I 16), (I 69), (I 1), (I 4), (I 2), (I 1), (I 1), (U 40293 0 1 6)])), (45706, (ce [(U 44896 0 258 1), ns, (I 0), ff, (I 0), (I 0), ns, ns, ns, ns, (U 45743 0 1 2)]))] (del [] g73)
/-- the state behind piece 74; its texts -/
def s74 : St :=
⟨⟨⟨215, 42, false, none⟩,
  (n (A 45706 0) (n (I 69) (m (n tt (o (.tup [(I 1), (I 1), (U 45749 0 1 2), tt])) e) (n (A 45706 0) (o tt) e)) (n (I 1) (m (o (I 1)) e) (o z123))) (m (n (I 1) (m (o (I 1)) e) (o (I 69))) (n (U 45749 0 1 2) (n (.tup [(I 1), (I 1), (U 45749 0 1 2), tt]) (o (U 45749 0 1 2)) e) (o (.agg [(I 4), (I 16), q92]))))),
  [.code (c 215 2)], [], .run⟩,
 [⟨⟨167, 14, false, none⟩,
  (n z124 (n (I 69) (m (o z124) (o (I 69))) (n (A 45705 0) (o (A 45706 0)) e)) (n (A 45703 0) (n (A 45704 0) (o (.agg [(U 44896 0 258 1), ns, (I 0), ff, (I 0), (I 0), ns, ns, ns, ns, ns])) e) (n (.fn 214 [(A 45704 0), (A 45705 0)]) (o (A 45706 0)) e))),
  [.reg (r 167 22 2), .code (c 167 30)], [.call 214 [(A 45704 0), (A 45705 0)]], .run⟩,
 ⟨⟨183, 24, false, none⟩,
  (n z124 (n (I 69) (m e (o (I 69))) (o ff)) (n (A 45702 0) (o ns) (m (o z124) e))),
  [.reg (r 183 4 2), .code (c 183 6)], [], .run⟩,
 ⟨⟨117, 60, false, none⟩,
  (n z122 (n (A 45699 0) (n (S 45701 0 4 4) (m (o z124) e) (o (I 4))) (m (n (A 45699 0) (o (I 69)) e) e)) (n ns (m (m (o (A 45699 5)) e) (o (S 45701 0 4 4))) (m (o z124) (o (A 45699 0))))),
  [.reg (r 117 10 4), .code (c 117 14)], [], .run⟩,
 ⟨⟨55, 44, false, none⟩,
  (n z122 (n (A 45698 0) (o ff) (o (I 0))) (n (I 0) (o (I 0)) (n ff (o z122) e))),
  [.reg (r 55 18 1), .code (c 55 26), .code (c 55 14)], [], .run⟩,
 ⟨⟨17, 35, false, none⟩,
  (n z122 (n (A 45696 0) (n (I 0) e (o z122)) e) (n (A 45697 0) (o (I 0)) e)),
  [.reg (r 17 4 1), .code (c 17 6)], [], .run⟩,
 ⟨⟨14, 85, false, none⟩,
  y60,
  [.reg (r 14 190 1), .code (c 14 254)], [], .run⟩,
 ⟨⟨4, 120, false, none⟩,
  (o ff),
  [.reg (r 4 8 0), .code (c 4 12), .code (c 4 6)], [], .run⟩],
 ⟨(p 45799), g74⟩,
 []⟩
def k74 : List (IC Blk) := [(c 215 2), (.region (r 167 22 2)), (c 167 30), (.region (r 183 4 2)), (c 183 6), (.region (r 117 10 4)), (c 117 14), (.region (r 55 18 1)), (c 55 26), (c 55 14), (.region (r 17 4 1)), (c 17 6), (.region (r 14 190 1)), (c 14 254), (.region (r 4 8 0)), (c 4 12), (c 4 6)]
theorem h74 : codesSt s74.fr s74.cs s74.ls = k74 := by kernel_rfl
def y61 : T V := (n z122 (n (I 2) (n (A 46494 0) (n (A 46496 0) (o (I 2)) e) (o z126)) (m (o z122) (o z127))) (n (I 66) (m (n (A 46506 0) (o (I 66)) e) (o (A 46505 0))) (n (A 46495 0) (o z126) (o (A 46505 0)))))
def y62 : T V := (n z122 (n (A 45696 0) (n (I 0) (n (I 2) (o tt) (o (I 2))) (n z122 (o (I 0)) e)) (n (I 0) (m e (o (I 66))) (o (I 0)))) (n (A 45697 0) (n (I 0) (m (o ff) (o (I 2))) (n (.tup [(I 0), tt]) (o (I 2)) e)) (n tt (o (.tup [(I 0), tt])) (n tt (o z122) e))))
/-- the memory behind piece 75 -/
def g75 : T Blk := upd [(46495, (ce [ns, ns, (I 0), ff, (I 0), (I 0), (I 0), (I 0), (I 0), (I 0), (I 0), ns])), (46511, (.map [] 0)), (46507, (ce [ns, ns])), (46513, (ce [(U 46500 0 258 1), ns, (I 0), ff])), (46729, (ce [(I 1), (I 0), (I 0), (I 0), (I 0)])), (46505, (ce [(U 46500 0 258 1), ns, (I 0), ff, (I 16), (I 69), (I 1), (I 4), (I 2), (I 1), (I 1), (U 46502 0 1 6)])), (46649, (ce [(I 69), (I 16), (I 68), (I 16)])), (46517, (ce [ff])), (46656, (ce [(I 67), (I 16)])), (46496, (ce [(I 0)])), (46512, (ce [ns, ns, (I 0), (I 0), (.map (p 46511)), ff])), (46504, (ce [(I 2), (I 24), q2, (I 1), (I 6), q1, (I 0), (I 0), q1, (I 0), (I 0), q1, (I 0), (I 0), q1, (I 0), (I 0), q1, (I 0), (I 0), q1, (I 0), (I 0), q1, (I 0), (I 0), q1])), (46500, (ce [q87, q4, q5, q6, q7, q8, q16, q17, q18, q19, q20, q21, q22, q23, q24, q25, q28, q29, q30, q31, q32, q33, q34, q35, q38, q39, q40, q41, q42, q43, q44, q45, q46, q47, q48, q49, q50, q51, q52, q53, q61, q62, q63, q64, q65, q66, q67, q68, q69, q70, q71, q72, q74, q75, q76, q77, q78, q79, q80, q81, q82, q83, q84, q85, q0, q0, q88, q89, q90, q91, q0, q0, q0, q0, q0, q0, q0, q0, q0, q0, q0, q0, q0, q0, q0, q0, q0, q0, q0, q0, q0, q0, q0, q0, q0, q0, q0, q0, q0, q0, q0, q0, q0, q0, q0, q0, q0, q0, q0, q0, q0, q0, q0, q0, q0, q0, q0, q0, q0, q0, q0, q0, q0, q0, q0, q0, q0, q0, q0, q0, q0, q0, q0, q0, q0, q0, q0, q0, q0, q0, q0, q0, q0, q0, q0, q0, q0, q0, q0, q0, q0, q0, q0, q0, q0, q0, q0, q0, q0, q0, q0, q0, q0, q0, q0, q0, q0, q0, q0, q0, q0, q0, q0, q0, q0, q0, q0, q0, q0, q0, q0, q0, q0, q0, q0, q0, q0, q0, q0, q0, q0, q0, q0, q0, q0, q0, q0, q0, q0, q0, q0, q0, q0, q0, q0, q0, q0, q0, q0, q0, q0, q0, q0, q0, q0, q0, q0, q0, q0, q0, q0, q0, q0, q0, q0, q0, q0, q0, q0, q0, q0, q0, q0, q0, q0, q0, q0, q0, q0, q0, q0, q0, q0, q0, q0, q0, q0, q0, q0, q0, q0, q0, q0, q0, q0, q0, q0, q0])), (46516, (ce [(A 46518 0)])), (46508, (ce [ns, ns])), (46506, (ce [(A 46505 0)])), (46502, (ce [(I 1), (I 0), (I 0), (I 0), (I 0), (U 46504 0 9 3)])), (46518, (ce [(U 46500 0 258 1), ns, (I 0), ff, (I 1), (I 1), ns, ns, ns, ns, (U 46649 0 2 2)])), (46510, (ce [ns, ns])), (46494, (ce [(U 44896 0 258 1), ns, (I 0), ff, (I 16), (I 69), (I 1), (I 4), (I 2), (I 1), (I 1), (U 40293 0 1 6)]))] (del [45698, 45701, 45704, 45705, 45706, 45743, 45749] g74)
/-- the state behind piece 75; its texts -/
def s75 : St :=
⟨⟨⟨234, 124, false, none⟩,
  (n (A 46518 0) (n (.agg [(I 68), (I 16)]) (n (A 46612 0) (m e (o z2)) (m (o (A 46518 0)) e)) (n (U 46656 0 1 2) (m e (o tt)) (m (o (.agg [(I 3), (I 16), q103])) e))) (m (n (A 46729 0) (m e (o (U 46656 0 1 2))) (m (o (.agg [(I 68), (I 16)])) e)) (n tt (m (o (.tup [z2, (U 46656 0 1 2), tt])) e) (m (o (.tup [z2, (U 46656 0 1 2), tt])) e)))),
  [.code (c 234 6)], [], .run⟩,
 [⟨⟨215, 42, false, none⟩,
  (n (A 46518 0) (n (I 69) (m (n tt (n (.tup [(I 1), (I 1), (U 46561 0 1 2), tt]) (o (A 46518 5)) e) (n (A 46518 0) (o (.agg [(I 68), (I 16)])) e)) (n (A 46518 0) (n tt (o tt) e) (o (A 46518 4)))) (n (I 1) (n (A 46611 0) (n (I 1) (o (I 1)) e) (o (I 1))) (n z123 (n tn (o (.agg [(I 68), (I 16)])) e) (o (A 46518 0))))) (m (n (I 1) (m (n (I 1) (o (U 46561 0 1 2)) e) (o (I 1))) (n (I 69) (n tt (o (A 46561 0)) e) (o (A 46518 4)))) (n (U 46561 0 1 2) (n (.tup [(I 1), (I 1), (U 46561 0 1 2), tt]) (n (U 46561 0 1 2) (o (I 0)) e) (o (A 46518 0))) (n (.agg [(I 4), (I 16), q92]) (n (A 46518 0) (o (A 46518 0)) e) (o (A 46518 4)))))),
  [.reg (r 215 3278 2), .inBlock 1, .code (c 215 974), .inLoop (c 215 78), .inBlock 0], [], .run⟩,
 ⟨⟨167, 14, false, none⟩,
  (n z125 (n (I 69) (m (o z125) (o (I 69))) (n (A 46517 0) (o (A 46518 0)) e)) (n (A 46515 0) (n (A 46516 0) (o (.agg [(U 46500 0 258 1), ns, (I 0), ff, (I 0), (I 0), ns, ns, ns, ns, ns])) e) (n (.fn 214 [(A 46516 0), (A 46517 0)]) (o (A 46518 0)) e))),
  [.reg (r 167 22 2), .code (c 167 30)], [.call 214 [(A 46516 0), (A 46517 0)]], .run⟩,
 ⟨⟨183, 24, false, none⟩,
  (n z125 (n (I 69) (m e (o (I 69))) (o ff)) (n (A 46514 0) (o ns) (m (o z125) e))),
  [.reg (r 183 4 2), .code (c 183 6)], [], .run⟩,
 ⟨⟨216, 83, false, none⟩,
  (n (A 46512 0) (n z125 (n (I 2) (m e (o (I 69))) e) e) (n (I 69) (o (I 66)) (n (A 46513 0) e (m (o z125) e)))),
  [.reg (r 216 4 2), .code (c 216 6)], [], .run⟩,
 ⟨⟨168, 70, false, none⟩,
  (n z125 (n (I 69) (n (I 0) (n (A 46509 0) (n ff (o (I 0)) e) (n (I 0) (o (A 46512 0)) e)) (m (n (U 46502 0 1 6) (o (I 0)) e) (n (I 0) (o (I 2)) e))) (n (I 66) (m (m (o ff) e) (n ff (o z125) e)) (m (n ff (o (.map (p 46511))) e) (o ff)))) (n (I 0) (n (I 2) (m (n (A 46512 0) (o ff) e) (n ff (o (A 46512 0)) e)) (m (n (I 1) (o (I 0)) e) (n ff (o (I 66)) e))) (n (U 46502 0 1 6) (m e (n ff (o (I 69)) e)) (n (A 46510 0) (n ff (o (.agg [ns, ns, (I 0), (I 0), (.map (p 46511)), ff])) e) (o ff))))),
  [.reg (r 168 22 5), .code (c 168 30)], [], .run⟩,
 ⟨⟨107, 40, false, none⟩,
  (n (A 46505 0) (n (I 0) (n (I 2) (m (n (A 46505 0) (o (A 46505 11)) e) (o (I 69))) (n (A 46508 0) (o (A 46505 0)) (o (I 66)))) (m (m (o (A 46505 0)) (o (I 0))) (m (o (A 46505 0)) (o (A 46505 0))))) (n (I 0) (n (I 66) (m (n (A 46505 0) (o (U 46502 0 1 6)) e) (o (I 0))) (m (o (A 46505 0)) (o (A 46505 0)))) (m (n (A 46507 0) (o z125) (o (I 2))) (n (A 46505 0) (o (A 46505 5)) (o (A 46505 0)))))),
  [.reg (r 107 4 20), .code (c 107 6)], [], .run⟩,
 ⟨⟨50, 164, false, none⟩,
  (n (A 46505 0) (n (I 2) (m (m (o (A 46505 3)) e) (n (A 46505 0) (o (I 2)) e)) (m (m (o tn) e) (o (A 46505 0)))) (n (I 66) (m (m (o ff) e) (n (A 46505 0) (o (I 66)) e)) (m (m (o (A 46505 0)) e) (o (A 46505 0))))),
  [.reg (r 50 4 3), .code (c 50 6)], [], .run⟩,
 ⟨⟨11, 22, false, none⟩,
  y61,
  [.reg (r 11 22 3), .code (c 11 30)], [.call 49 [(A 46494 0), (A 46495 0), (A 46496 0), (A 46506 0)]], .run⟩,
 ⟨⟨17, 35, false, none⟩,
  y62,
  [.reg (r 17 46 4), .code (c 17 62)], [], .run⟩,
 ⟨⟨14, 85, false, none⟩,
  y60,
  [.reg (r 14 190 1), .code (c 14 254)], [], .run⟩,
 ⟨⟨4, 120, false, none⟩,
  (o ff),
  [.reg (r 4 8 0), .code (c 4 12), .code (c 4 6)], [], .run⟩],
 ⟨(p 46730), g75⟩,
 []⟩
def k75 : List (IC Blk) := [(c 234 6), (.region (r 215 3278 2)), .skip, (c 215 974), (c 215 78), .skip, (.region (r 167 22 2)), (c 167 30), (.region (r 183 4 2)), (c 183 6), (.region (r 216 4 2)), (c 216 6), (.region (r 168 22 5)), (c 168 30), (.region (r 107 4 20)), (c 107 6), (.region (r 50 4 3)), (c 50 6), (.region (r 11 22 3)), (c 11 30), (.region (r 17 46 4)), (c 17 62), (.region (r 14 190 1)), (c 14 254), (.region (r 4 8 0)), (c 4 12), (c 4 6)]
theorem h75 : codesSt s75.fr s75.cs s75.ls = k75 := by kernel_rfl
/-- the memory behind piece 76 -/
def g76 : T Blk := upd [(48048, (ce [(I 3), (I 0)])), (48046, (ce [(I 1), (I 0), q26, (I 1), (I 0), q27, (I 2), (I 0), q118, (I 3), (I 0), q119]))] (del [46656, 46729, 46507, 46508, 46510, 46511, 46512, 46513, 46516, 46517, 46518, 46649] g75)
/-- the state behind piece 76; its texts -/
def s76 : St :=
⟨⟨⟨50, 164, false, none⟩,
  (n (A 46505 0) (n (I 2) (m (m (o (A 46505 3)) e) (n (A 46505 0) (o (I 2)) e)) (m (m (o tn) e) (n (A 46505 0) (o (.agg [(U 48046 0 4 3), (U 48048 0 1 2)])) e))) (n (I 66) (m (m (o ff) e) (n (A 46505 0) (o (I 66)) e)) (m (m (o (A 46505 0)) e) (o (A 46505 0))))),
  [.code (c 50 6)], [], .run⟩,
 [⟨⟨11, 22, false, none⟩,
  y61,
  [.reg (r 11 22 3), .code (c 11 30)], [.call 49 [(A 46494 0), (A 46495 0), (A 46496 0), (A 46506 0)]], .run⟩,
 ⟨⟨17, 35, false, none⟩,
  y62,
  [.reg (r 17 46 4), .code (c 17 62)], [], .run⟩,
 ⟨⟨14, 85, false, none⟩,
  y60,
  [.reg (r 14 190 1), .code (c 14 254)], [], .run⟩,
 ⟨⟨4, 120, false, none⟩,
  (o ff),
  [.reg (r 4 8 0), .code (c 4 12), .code (c 4 6)], [], .run⟩],
 ⟨(p 48049), g76⟩,
 []⟩
def k76 : List (IC Blk) := [(c 50 6), (.region (r 11 22 3)), (c 11 30), (.region (r 17 46 4)), (c 17 62), (.region (r 14 190 1)), (c 14 254), (.region (r 4 8 0)), (c 4 12), (c 4 6)]
theorem h76 : codesSt s76.fr s76.cs s76.ls = k76 := by kernel_rfl
/-- the memory behind piece 77 -/
def g77 : T Blk := upd [(48055, (ce [ns, ns, (I 17), (I 70), (.map (p 48054)), ff])), (48051, (ce [ns, ns])), (48049, (ce [ns, ns])), (48053, (ce [ns, ns])), (48050, (ce [ns, ns])), (48054, (.map [((.agg [(I 1), q93]), (.agg [(I 66), (I 16)]), 0), ((.agg [(I 2), q120]), (.agg [(I 67), (I 16)]), 1), ((.agg [(I 3), q103]), (.agg [(I 68), (I 16)]), 2), ((.agg [(I 4), q92]), (.agg [(I 69), (I 16)]), 3)] 4))] (del [45696, 46494, 48046, 48048] g76)
/-- the state behind piece 77; its texts -/
def s77 : St :=
⟨⟨⟨168, 70, false, none⟩,
  (n z125 (n (I 69) (n (I 70) (n (A 48052 0) (n ff (o (I 70)) e) (n (I 17) (o (A 48055 0)) e)) (m (n (U 46502 0 1 6) (o (I 17)) e) (n (I 17) (o (I 2)) e))) (n (I 66) (m (m (o ff) e) (n ff (o z125) e)) (m (n ff (o (.map (p 48054))) e) (n ff (o tn) e)))) (n (I 17) (n (I 2) (m (n (A 48055 0) (o ff) e) (n ff (o (A 48055 0)) e)) (m (n (I 1) (o (I 70)) e) (n ff (o (I 66)) e))) (n (U 46502 0 1 6) (m e (n ff (o (I 69)) e)) (n (A 48053 0) (n ff (o (.agg [ns, ns, (I 17), (I 70), (.map (p 48054)), ff])) e) (o ff))))),
  [.code (c 168 30)], [], .run⟩,
 [⟨⟨107, 40, false, none⟩,
  (n (A 46505 0) (n (I 17) (n (I 2) (m (n (A 46505 0) (o (A 46505 11)) e) (o (I 69))) (n (A 48051 0) (o (A 46505 0)) (o (I 66)))) (m (m (o (A 46505 0)) (o (I 70))) (m (o (A 46505 0)) (o (A 46505 0))))) (n (I 70) (n (I 66) (m (n (A 46505 0) (o (U 46502 0 1 6)) e) (o (I 17))) (m (o (A 46505 0)) (o (A 46505 0)))) (m (n (A 48050 0) (o z125) (o (I 2))) (n (A 46505 0) (o (A 46505 5)) (o (A 46505 0)))))),
  [.reg (r 107 4 20), .code (c 107 6)], [], .run⟩,
 ⟨⟨50, 164, false, none⟩,
  (n (A 46505 0) (n (I 2) (m (n (A 48049 0) (n (A 46505 3) (o (A 46505 0)) e) (n (A 46505 0) (o (A 46505 0)) e)) (n (A 46505 0) (n (I 2) (o (A 46505 0)) e) (n (I 17) (o (I 4)) e))) (m (m (n tn (o (A 46505 0)) e) (n (A 46505 4) (o (A 46505 0)) e)) (n (A 46505 0) (n (.agg [(U 48046 0 4 3), (U 48048 0 1 2)]) (o (I 1)) e) (n ff (o (I 2)) e)))) (n (I 66) (m (m (n ff (o (I 17)) e) (n (A 46505 0) (o (A 46505 0)) e)) (n (A 46505 0) (n (I 66) (o (A 46505 6)) e) (n (I 17) (o (I 70)) e))) (n (I 17) (m (n (A 46505 0) (o (A 46505 0)) e) (n (I 16) (o (A 46505 7)) e)) (n (A 46505 0) (n (A 46505 0) (o (I 66)) e) (n tn (o (I 66)) e))))),
  [.reg (r 50 46 19), .code (c 50 62)], [], .run⟩,
 ⟨⟨11, 22, false, none⟩,
  y61,
  [.reg (r 11 22 3), .code (c 11 30)], [.call 49 [(A 46494 0), (A 46495 0), (A 46496 0), (A 46506 0)]], .run⟩,
 ⟨⟨17, 35, false, none⟩,
  y62,
  [.reg (r 17 46 4), .code (c 17 62)], [], .run⟩,
 ⟨⟨14, 85, false, none⟩,
  y60,
  [.reg (r 14 190 1), .code (c 14 254)], [], .run⟩,
 ⟨⟨4, 120, false, none⟩,
  (o ff),
  [.reg (r 4 8 0), .code (c 4 12), .code (c 4 6)], [], .run⟩],
 ⟨(p 49054), g77⟩,
 []⟩
def k77 : List (IC Blk) := [(c 168 30), (.region (r 107 4 20)), (c 107 6), (.region (r 50 46 19)), (c 50 62), (.region (r 11 22 3)), (c 11 30), (.region (r 17 46 4)), (c 17 62), (.region (r 14 190 1)), (c 14 254), (.region (r 4 8 0)), (c 4 12), (c 4 6)]
theorem h77 : codesSt s77.fr s77.cs s77.ls = k77 := by kernel_rfl
/-- the memory behind piece 78 -/
def g78 : T Blk := upd [(50561, (ce [q87, q4, q5, q6, q7, q8, q16, q17, q18, q19, q20, q21, q22, q23, q24, q25, q28, q29, q30, q31, q32, q33, q34, q35, q38, q39, q40, q41, q42, q43, q44, q45, q46, q47, q48, q49, q50, q51, q52, q53, q61, q62, q63, q64, q65, q66, q67, q68, q69, q70, q71, q72, q74, q75, q76, q77, q78, q79, q80, q81, q82, q83, q84, q85, q0, q0, q88, q89, q90, q91, q121, q134, q135, q136, q137, q0, q0, q0, q0, q0, q0, q0, q0, q0, q0, q0, q0, q0, q0, q0, q0, q0, q0, q0, q0, q0, q0, q0, q0, q0, q0, q0, q0, q0, q0, q0, q0, q0, q0, q0, q0, q0, q0, q0, q0, q0, q0, q0, q0, q0, q0, q0, q0, q0, q0, q0, q0, q0, q0, q0, q0, q0, q0, q0, q0, q0, q0, q0, q0, q0, q0, q0, q0, q0, q0, q0, q0, q0, q0, q0, q0, q0, q0, q0, q0, q0, q0, q0, q0, q0, q0, q0, q0, q0, q0, q0, q0, q0, q0, q0, q0, q0, q0, q0, q0, q0, q0, q0, q0, q0, q0, q0, q0, q0, q0, q0, q0, q0, q0, q0, q0, q0, q0, q0, q0, q0, q0, q0, q0, q0, q0, q0, q0, q0, q0, q0, q0, q0, q0, q0, q0, q0, q0, q0, q0, q0, q0, q0, q0, q0, q0, q0, q0, q0, q0, q0, q0, q0, q0, q0, q0, q0, q0, q0, q0, q0, q0, q0, q0, q0, q0, q0, q0, q0, q0, q0, q0, q0, q0, q0, q0, q0, q0, q0, q0, q0, q0, q0])), (50569, (ce [(U 50561 0 258 1), ns, (I 0), ff, (I 17), (I 74), (I 1), (I 9), (I 2), (I 1), (I 1), (U 46502 0 1 6)]))] (del [45697, 2433, 2435, 777, 778, 46495, 46496, 46500, 46505, 46506, 48049, 48050, 48051, 48053, 48054, 48055, 1402, 2429, 2431] g77)
/-- the state behind piece 78; its texts -/
def s78 : St :=
⟨⟨⟨14, 85, false, none⟩,
  (n ff (n (A 1402 0) (n (I 0) (n (I 2) (n z4 (o z122) e) (n ff (o (.tup [z128, (I 0), (I 0)])) e)) (n (A 50569 0) (n (.tup [(I 0), ff]) (o (I 0)) e) (o z6))) (n (A 2435 0) (n (I 0) (n z3 (o z122) e) (n z3 (o (I 0)) e)) (n (I 0) (n (.tup [(I 0), ff]) (o (.tup [z128, (I 0), (I 0)])) e) (o (I 2))))) (n tt (n ff (n (A 44899 0) (n z4 (o (.tup [(I 0), tt])) e) (n z7 (o z128) e)) (n (I 0) (n z3 (o tt) e) (o (I 0)))) (n (I 0) (n tt (n tt (o (.tup [(I 0), tt])) e) (n z7 (o (I 0)) e)) (m (n (I 0) (o z122) e) (o z3))))),
  [.code (c 14 254)], [], .run⟩,
 [⟨⟨4, 120, false, none⟩,
  (o ff),
  [.reg (r 4 8 0), .code (c 4 12), .code (c 4 6)], [], .run⟩],
 ⟨(p 50570), g78⟩,
 []⟩
def k78 : List (IC Blk) := [(c 14 254), (.region (r 4 8 0)), (c 4 12), (c 4 6)]
theorem h78 : codesSt s78.fr s78.cs s78.ls = k78 := by kernel_rfl
def y63 : T V := (n ff (m (m e (m (o ff) e)) e) (m e (m (m (o tt) e) e)))
/-- the memory behind piece 79 -/
def g79 : T Blk := upd [] (del [50561, 50569, 40218, 44896, 44899, 40293, 46502, 46504, 1400] g78)
/-- the state behind piece 79; its texts -/
def s79 : St :=
⟨⟨⟨4, 120, false, none⟩,
  y63,
  [.code (c 4 12), .code (c 4 6)], [], .run⟩,
 [],
 ⟨(p 51231), g79⟩,
 []⟩
def k79 : List (IC Blk) := [(c 4 12), (c 4 6)]
theorem h79 : codesSt s79.fr s79.cs s79.ls = k79 := by kernel_rfl
/-- the memory behind piece 80 -/
def g80 : T Blk := upd [(51231, (ce [ns, ns, (I 0), ff, (I 0), (I 0), (I 0), (I 0), (I 0), (I 0), (I 0), ns])), (52007, (ce [q0, q0, q0, q0, q0, q0, q0, q0, q0, q0, q0, q0, q0, q0, q0, q0, q0, q0, q0, q0, q0, q0, q0, q0, q0, q0, q0, q0, q0, q0, q0, q0, q0, q0, q0, q0, q0, q0, q0, q0, q0, q0, q0, q0, q0, q0, q0, q0, q0, q0, q0, q0, q0, q0, q0, q0, q0, q0, q0, q0, q0, q0, q0, q0, q0, q0, q0, q0, q0, q0, q0, q0, q0, q0, q0, q0, q0, q0, q0, q0, q0, q0, q0, q0, q0, q0, q0, q0, q0, q0, q0, q0, q0, q0, q0, q0, q0, q0, q0, q0, q0, q0, q0, q0, q0, q0, q0, q0, q0, q0, q0, q0, q0, q0, q0, q0, q0, q0, q0, q0, q0, q0, q0, q0, q0, q0, q0, q0, q0, q0, q0, q0, q0, q0, q0, q0, q0, q0, q0, q0, q0, q0, q0, q0, q0, q0, q0, q0, q0, q0, q0, q0, q0, q0, q0, q0, q0, q0, q0, q0, q0, q0, q0, q0, q0, q0, q0, q0, q0, q0, q0, q0, q0, q0, q0, q0, q0, q0, q0, q0, q0, q0, q0, q0, q0, q0, q0, q0, q0, q0, q0, q0, q0, q0, q0, q0, q0, q0, q0, q0, q0, q0, q0, q0, q0, q0, q0, q0, q0, q0, q0, q0, q0, q0, q0, q0, q0, q0, q0, q0, q0, q0, q0, q0, q0, q0, q0, q0, q0, q0, q0, q0, q0, q0, q0, q0, q0, q0, q0, q0, q0, q0, q0, q0, q0, q0, q0, q0, q0, q0, q0, q0, q0, q0, q0, q0, q0, q0])), (52011, (ce [(U 52007 0 258 1), ns, (I 0), ff, (I 0), (I 0), (I 0), (I 0), (I 0), (I 1), (I 1), (S 52009 0 1 1)])), (52009, (ce [(I 1), (I 0), (I 0), (I 0), (I 0), (S 52008 0 9 9)])), (52008, (ce [(I 2), (I 7), q1, (I 0), (I 0), q1, (I 0), (I 0), q1, (I 0), (I 0), q1, (I 0), (I 0), q1, (I 0), (I 0), q1, (I 0), (I 0), q1, (I 0), (I 0), q1, (I 0), (I 0), q1])), (52012, (ce [ns, ns, (I 0), ff, (I 0), (I 0), (I 0), (I 0), (I 0), (I 0), (I 0), ns])), (52010, (ce [(U 52007 0 258 1), ns, (I 0), ff, (I 0), (I 0), (I 0), (I 0), (I 0), (I 1), (I 1), (S 52009 0 1 1)]))] (del [] g79)
/-- the state behind piece 80; its texts -/
def s80 : St :=
⟨⟨⟨56, 300, false, none⟩,
  (n z129 (n (I 0) (n (A 52011 0) (n (I 0) (m (o (A 52011 0)) e) (m (o (.tup [z130, tt])) e)) (m (m (o (I 0)) e) (o (A 52011 3)))) (m (n tt (m (o (A 52011 5)) e) (m (o tt) e)) (m (m (o (A 52011 11)) e) e))) (n (I 0) (m (n (A 52185 0) (m (o (.agg [(U 52007 0 258 1), ns, (I 0), ff])) e) (m (o z130) e)) (m (m (o (I 0)) e) (o ff))) (n (A 52012 0) (m (m (o (I 0)) e) (o (A 52011 0))) (m (m (o (S 52009 0 1 1)) e) (o (.tup [z130, tt])))))),
  [.code (c 56 14)], [], .run⟩,
 [⟨⟨15, 63, false, none⟩,
  (n (I 4) (n (I 1) (m (m (n ff (o (S 52008 0 9 9)) e) (o ff)) (n ff (o ff) (o (I 258)))) (n ff (m (n (I 1) (o (S 52009 0 1 1)) e) (o (I 4))) (n (I 4) (o (I 1)) (o (I 1))))) (m (n (A 51231 0) (m (n ff (o (.agg [(I 1), (I 0), (I 0), (I 0), (I 0), (S 52008 0 9 9)])) e) e) (n ff (n ff (o z129) e) (o (.agg [(U 52007 0 258 1), ns, (I 0), ff])))) (n (A 52010 0) (n (I 4) (n ff (o z129) e) (o (I 256))) (n ff (o ff) (o z2))))),
  [.reg (r 15 22 1), .code (c 15 30)], [], .run⟩,
 ⟨⟨4, 120, false, none⟩,
  y63,
  [.reg (r 4 10 0), .code (c 4 14)], [], .run⟩],
 ⟨(p 52186), g80⟩,
 []⟩
def k80 : List (IC Blk) := [(c 56 14), (.region (r 15 22 1)), (c 15 30), (.region (r 4 10 0)), (c 4 14)]
theorem h80 : codesSt s80.fr s80.cs s80.ls = k80 := by kernel_rfl
def y64 : T V := (n ff (n (A 52633 0) (m (m e (o tt)) (m (o ff) e)) (m e (m (o z133) e))) (n tt (m (m e (o z131)) (m (o z133) e)) (m (m (o tt) e) (m (o z131) e))))
/-- the memory behind piece 81 -/
def g81 : T Blk := upd [(52655, (ce [(I 2), (I 7), q2, (I 1), (I 6), q1, (I 0), (I 0), q1, (I 0), (I 0), q1, (I 0), (I 0), q1, (I 0), (I 0), q1, (I 0), (I 0), q1, (I 0), (I 0), q1, (I 0), (I 0), q1])), (52631, (ce [q0, q4, q5, q6, q7, q8, q0, q0, q0, q0, q0, q0, q0, q0, q0, q0, q0, q0, q0, q0, q0, q0, q0, q0, q0, q0, q0, q0, q0, q0, q0, q0, q0, q0, q0, q0, q0, q0, q0, q0, q0, q0, q0, q0, q0, q0, q0, q0, q0, q0, q0, q0, q0, q0, q0, q0, q0, q0, q0, q0, q0, q0, q0, q0, q0, q0, q0, q0, q0, q0, q0, q0, q0, q0, q0, q0, q0, q0, q0, q0, q0, q0, q0, q0, q0, q0, q0, q0, q0, q0, q0, q0, q0, q0, q0, q0, q0, q0, q0, q0, q0, q0, q0, q0, q0, q0, q0, q0, q0, q0, q0, q0, q0, q0, q0, q0, q0, q0, q0, q0, q0, q0, q0, q0, q0, q0, q0, q0, q0, q0, q0, q0, q0, q0, q0, q0, q0, q0, q0, q0, q0, q0, q0, q0, q0, q0, q0, q0, q0, q0, q0, q0, q0, q0, q0, q0, q0, q0, q0, q0, q0, q0, q0, q0, q0, q0, q0, q0, q0, q0, q0, q0, q0, q0, q0, q0, q0, q0, q0, q0, q0, q0, q0, q0, q0, q0, q0, q0, q0, q0, q0, q0, q0, q0, q0, q0, q0, q0, q0, q0, q0, q0, q0, q0, q0, q0, q0, q0, q0, q0, q0, q0, q0, q0, q0, q0, q0, q0, q0, q0, q0, q0, q0, q0, q0, q0, q0, q0, q0, q0, q0, q0, q0, q0, q0, q0, q0, q0, q0, q0, q0, q0, q0, q0, q0, q0, q0, q0, q0, q0, q0, q0, q0, q0, q0, q0, q0, q0])), (52635, (ce [ns, ns, (I 0), ff, (I 0), (I 0), (I 0), (I 0), (I 0), (I 0), (I 0), ns])), (52633, (ce [(U 52631 0 258 1), ns, (I 0), ff, (I 1), (I 5), (I 0), (I 4), (I 1), (I 1), (I 1), (S 52009 0 1 1)])), (52634, (ce [(U 52631 0 258 1), ns, (I 0), ff, (I 1), (I 5), (I 0), (I 4), (I 1), (I 1), (I 1), (U 52730 0 1 6)])), (52730, (ce [(I 1), (I 0), (I 0), (I 0), (I 0), (U 52655 0 9 3)]))] (del [51231, 52007, 52010, 52011, 52012] g80)
/-- the state behind piece 81; its texts -/
def s81 : St :=
⟨⟨⟨16, 45, false, none⟩,
  (n z131 (n (A 52634 0) (n (U 52655 0 9 3) (m (o (U 52655 0 9 3)) e) (o (.tup [(U 52655 0 9 3), (I 0)]))) (m (o z131) (o (I 0)))) (n (A 52635 0) (n (I 0) (n (.tup [(U 52655 0 9 3), (I 0)]) (o z132) e) (o (U 52655 0 9 3))) (m (o (S 52008 0 9 9)) (o z131)))),
  [.code (c 16 14)], [], .run⟩,
 [⟨⟨4, 120, false, none⟩,
  y64,
  [.reg (r 4 22 1), .code (c 4 30)], [], .run⟩],
 ⟨(p 52731), g81⟩,
 []⟩
def k81 : List (IC Blk) := [(c 16 14), (.region (r 4 22 1)), (c 4 30)]
theorem h81 : codesSt s81.fr s81.cs s81.ls = k81 := by kernel_rfl
def y65 : T V := (n z135 (n z135 (o (A 52813 0)) (n (I 0) (o z135) e)) (n (A 52812 0) (o (A 52814 0)) e))
def y66 : T V := (n z135 (n (A 52810 0) (o (I 0)) (o z135)) (n (A 52811 0) (o z135) e))
def y67 : T V := (n z131 (n (A 52634 0) (n (U 52734 0 9 3) (m (n (U 52655 0 9 3) (o (U 52734 0 9 3)) e) (o tt)) (n (.tup [(U 52655 0 9 3), (I 0)]) (n tt (o (U 52734 0 9 3)) e) (o (U 52655 0 9 3)))) (n (I 0) (n z131 (o (I 0)) e) (n (I 0) (o (I 0)) (o (I 10))))) (n (A 52635 0) (n (I 0) (n (.tup [(U 52655 0 9 3), (I 0)]) (n z132 (o (I 0)) e) e) (n (U 52655 0 9 3) (n (A 52634 6) (o z135) e) (o (I 0)))) (m (n (S 52008 0 9 9) (n tt (o z132) e) (o (.tup [(U 52734 0 9 3), (I 0)]))) (n z131 (o tt) (o (.tup [(U 52734 0 9 3), (I 0)]))))))
/-- the memory behind piece 82 -/
def g82 : T Blk := upd [(52815, (ce [(U 52631 0 258 1), ns, (I 0), ff, (I 1), (I 5), (I 0), (I 4), (I 1), (I 1), (I 1), (U 52809 0 1 6)])), (52819, (ce [ns, ns, ns, ns, (I 0), (I 0), ff])), (52811, (ce [ns, ns, (I 0), ff, (I 0), (I 0), (I 0), (I 0), (I 0), (I 0), (I 0), ns])), (52817, (ce [(U 52631 0 258 1), ns, (I 0), ff])), (52809, (ce [(I 1), (I 0), (I 0), (I 0), (I 0), (U 52734 0 9 3)])), (52813, (ce [(U 52631 0 258 1), ns, (I 0), ff, (I 1), (I 5), (I 0), (I 4), (I 1), (I 1), (I 1), (U 52809 0 1 6)])), (52816, (ce [ns, ns, (I 0), ff, (I 0), (I 0), (I 0), (I 0), (I 0), (I 0), (I 0), ns])), (53200, (ce [(I 2), (I 1), (I 3), (I 1), (I 4), (I 1), (I 5), (I 1)])), (52812, (ce [(U 52631 0 258 1), ns, (I 0), ff, (I 1), (I 5), (I 0), (I 4), (I 1), (I 1), (I 1), (U 52809 0 1 6)])), (52818, (ce [ns, ns])), (52810, (ce [(U 52631 0 258 1), ns, (I 0), ff, (I 1), (I 5), (I 0), (I 4), (I 1), (I 1), (I 1), (U 52809 0 1 6)])), (52814, (ce [ns, ns, (I 0), ff, (I 0), (I 0), (I 0), (I 0), (I 0), (I 0), (I 0), ns])), (52734, (ce [(I 2), (I 10), q2, (I 1), (I 6), q1, (I 0), (I 0), q1, (I 0), (I 0), q1, (I 0), (I 0), q1, (I 0), (I 0), q1, (I 0), (I 0), q1, (I 0), (I 0), q1, (I 0), (I 0), q1]))] (del [] g81)
/-- the state behind piece 82; its texts -/
def s82 : St :=
⟨⟨⟨119, 207, false, none⟩,
  (n z134 (n (I 5) (n (I 0) (n (A 52817 0) (n ff (o (I 1)) (o (.tup [(U 53200 0 4 2), tt]))) (m (o (I 0)) e)) (m (m (o tt) (o (U 53200 0 4 2))) (m (o (I 0)) e))) (n (I 0) (m (n (U 53200 0 4 2) (o ff) (o (I 5))) (m (o ff) e)) (m (m (o ff) e) (m (o z9) e)))) (n (I 0) (n (I 0) (m (n (A 52819 0) (o ff) (o z134)) (m (o ff) e)) (m (m (o ff) (o tt)) (m (o (I 0)) e))) (n (U 52809 0 1 6) (m (n tt (o (I 0)) (o (.tup [(U 53200 0 4 2), tt]))) e) (n (A 52818 0) (m (o ff) e) (n (U 52809 0 1 6) (o (A 52819 0)) e))))),
  [.code (c 119 30)], [], .run⟩,
 [⟨⟨56, 300, false, none⟩,
  (n z135 (n (I 0) (n (A 52815 0) (n (I 0) (m (o (A 52815 0)) e) e) (m (m (o (I 0)) e) (o (A 52815 3)))) (m (m (m (o (A 52815 5)) e) e) (m (m (o (A 52815 11)) e) e))) (n (I 0) (m (m (m (o z134) e) e) (m (m (o (I 0)) e) (o ff))) (n (A 52816 0) (m (m (o (I 5)) e) (o (A 52815 0))) (m (m (o (U 52809 0 1 6)) e) e)))),
  [.reg (r 56 10 8), .code (c 56 14)], [], .run⟩,
 ⟨⟨132, 25, false, none⟩,
  y65,
  [.reg (r 132 4 1), .code (c 132 6)], [], .run⟩,
 ⟨⟨60, 9, false, none⟩,
  y66,
  [.reg (r 60 4 2), .code .ret], [], .run⟩,
 ⟨⟨16, 45, false, none⟩,
  y67,
  [.reg (r 16 5270 3), .code (c 16 7318), .inBlock 1, .code (c 16 918), .inLoop (c 16 150), .inBlock 0, .code (c 16 30)], [], .run⟩,
 ⟨⟨4, 120, false, none⟩,
  y64,
  [.reg (r 4 22 1), .code (c 4 30)], [], .run⟩],
 ⟨(p 53201), g82⟩,
 []⟩
def k82 : List (IC Blk) := [(c 119 30), (.region (r 56 10 8)), (c 56 14), (.region (r 132 4 1)), (c 132 6), (.region (r 60 4 2)), .ret, (.region (r 16 5270 3)), (c 16 7318), .skip, (c 16 918), (c 16 150), .skip, (c 16 30), (.region (r 4 22 1)), (c 4 30)]
theorem h82 : codesSt s82.fr s82.cs s82.ls = k82 := by kernel_rfl
/-- the memory behind piece 83 -/
def g83 : T Blk := upd [(53683, (ce [(I 1), (I 0), q94, (I 1), (I 0), q26, (I 1), (I 0), q27, (I 2), (I 0), q122, (I 3), (I 0), q123])), (53685, (ce [(I 4), (I 0)])), (53686, (ce [(U 53683 0 5 3), (U 53685 0 1 2)]))] (del [53200, 52817, 52818, 52819] g82)
/-- the state behind piece 83; its texts -/
def s83 : St :=
⟨⟨⟨56, 300, false, none⟩,
  (n z135 (n (I 0) (n (A 52815 0) (n (I 0) (m (o (A 52815 0)) e) (m (o z137) e)) (m (m (o (I 0)) e) (o (A 52815 3)))) (m (n tt (m (o (A 52815 5)) e) (m (o tt) e)) (m (m (o (A 52815 11)) e) e))) (n (I 0) (m (n (A 53686 0) (m (o z134) e) (m (o z136) e)) (m (m (o (I 0)) e) (o ff))) (n (A 52816 0) (m (m (o (I 5)) e) (o (A 52815 0))) (m (m (o (U 52809 0 1 6)) e) (o z137))))),
  [.code (c 56 14)], [], .run⟩,
 [⟨⟨132, 25, false, none⟩,
  y65,
  [.reg (r 132 4 1), .code (c 132 6)], [], .run⟩,
 ⟨⟨60, 9, false, none⟩,
  y66,
  [.reg (r 60 4 2), .code .ret], [], .run⟩,
 ⟨⟨16, 45, false, none⟩,
  y67,
  [.reg (r 16 5270 3), .code (c 16 7318), .inBlock 1, .code (c 16 918), .inLoop (c 16 150), .inBlock 0, .code (c 16 30)], [], .run⟩,
 ⟨⟨4, 120, false, none⟩,
  y64,
  [.reg (r 4 22 1), .code (c 4 30)], [], .run⟩],
 ⟨(p 53687), g83⟩,
 []⟩
def k83 : List (IC Blk) := [(c 56 14), (.region (r 132 4 1)), (c 132 6), (.region (r 60 4 2)), .ret, (.region (r 16 5270 3)), (c 16 7318), .skip, (c 16 918), (c 16 150), .skip, (c 16 30), (.region (r 4 22 1)), (c 4 30)]
theorem h83 : codesSt s83.fr s83.cs s83.ls = k83 := by kernel_rfl
/-- the memory behind piece 84 -/
def g84 : T Blk := upd [(54147, (ce [(I 3), (I 1), q86])), (53691, (ce [ns, ns, (U 54145 0 2 2), (U 54146 0 2 3), (I 2), (I 6), ff])), (54145, (ce [(I 2), (I 1), (I 3), (I 1)])), (53689, (ce [(U 52631 0 258 1), ns, (I 0), ff])), (54072, (ce [(I 2), (I 1), (I 3), (I 1), (I 4), (I 1), (I 5), (I 1)])), (53688, (ce [ns, ns])), (54146, (ce [(I 1), (I 1), q124, (I 2), (I 1), q102])), (53690, (ce [ns, ns]))] (del [52810, 52812, 52813, 53683, 53685, 53686] g83)
/-- the state behind piece 84; its texts -/
def s84 : St :=
⟨⟨⟨119, 207, false, none⟩,
  (n z134 (n (I 5) (n (I 6) (n (A 53689 0) (n ff (n (I 1) (o (A 54072 4)) (o (A 53691 0))) (n (.tup [(U 54072 0 4 2), tt]) (o (A 54072 4)) (o (U 54146 0 2 3)))) (m (n (I 6) (o z13) (o (S 54143 0 1 1))) (n (I 4) (o (A 54072 4)) e))) (m (n (I 2) (n tt (o (I 2)) (o (U 54072 0 4 2))) (n (U 54072 0 4 2) (o ff) (o (A 53691 3)))) (m (n (I 2) (o tt) (o (A 53691 3))) (n z13 (o tt) e)))) (n (I 0) (m (n (U 54072 0 4 2) (n ff (o (I 4)) (o (A 53691 2))) (n (I 5) (o (I 0)) (o (A 53691 2)))) (m (n ff (o tt) (o (A 53691 0))) (n (I 1) (o (I 0)) e))) (m (n tt (n ff (o (A 54072 5)) (o (A 54072 2))) (n (I 2) (o (I 2)) e)) (m (n (.agg [ns, ns, ns, ns, (I 2), (I 6), ff]) (o (I 2)) (o (.agg [(I 2), (I 1), q102]))) (n (U 54072 0 4 2) (o (A 53691 0)) e))))) (n (I 2) (n (I 0) (m (n (A 53691 0) (n ff (o (A 54072 4)) (o (A 53691 0))) (n z134 (o (I 4)) (o (A 53691 0)))) (m (n ff (o (.agg [(I 3), (I 1), q86])) (o (U 54145 0 2 2))) (n tt (o (I 4)) e))) (m (n (A 54147 0) (n ff (o (A 54072 4)) (o (I 1))) (n tt (o (U 54072 0 4 2)) e)) (m (n (I 6) (o (U 54072 0 4 2)) (o (U 54109 0 1 3))) (n z134 (o tt) e)))) (n (U 52809 0 1 6) (m (n tt (n (I 2) (o (U 54072 0 4 2)) (o (U 54108 0 1 2))) (n (.tup [(U 54072 0 4 2), tt]) (o ff) (o (A 53691 0)))) (m (m (o tt) (o (A 53691 0))) (n (I 2) (o tt) e))) (n (A 53690 0) (m (n ff (o (I 1)) (o (.agg [(I 3), (I 1)]))) (n (U 54072 0 4 2) (o (A 54072 4)) e)) (n (U 52809 0 1 6) (n (A 53691 0) (o (A 54072 4)) (o (S 54144 0 1 1))) (n (I 2) (o (A 53691 0)) e)))))),
  [.code (c 119 14638), .inBlock 1, .code (c 119 1838), .inLoop (c 119 302), .inBlock 0, .code (c 119 62)], [], .run⟩,
 [⟨⟨56, 300, false, none⟩,
  (n z135 (n (I 0) (n (A 52815 0) (n (I 0) (m (n (A 52815 0) (o (I 6)) e) (o (I 2))) (m (o z137) (o (A 52815 5)))) (n (A 53687 0) (m (n (I 0) (o (U 52809 0 1 6)) e) (o z135)) (n (A 52815 3) (o ff) (o (I 0))))) (m (n tt (m (n (A 52815 5) (o (I 0)) e) (o ff)) (m (o tt) (o (I 2)))) (m (m (o (A 52815 11)) (o (A 52815 0))) (m (o (A 52815 4)) (o (A 52815 7)))))) (n (I 0) (m (n (A 53686 0) (m (n z134 (o (I 0)) e) (o (I 2))) (m (o z136) (o (I 5)))) (n (A 53688 0) (m (o (I 0)) e) (n ff e (o (I 2))))) (n (A 52816 0) (n (I 2) (m (n (I 5) (o (A 52815 11)) e) e) (n (A 52815 0) (o tt) (o (A 52815 6)))) (m (m (o (U 52809 0 1 6)) (o z134)) (n z137 (o (I 1)) (o (I 4))))))),
  [.reg (r 56 382 21), .code (c 56 510)], [], .run⟩,
 ⟨⟨132, 25, false, none⟩,
  y65,
  [.reg (r 132 4 1), .code (c 132 6)], [], .run⟩,
 ⟨⟨60, 9, false, none⟩,
  y66,
  [.reg (r 60 4 2), .code .ret], [], .run⟩,
 ⟨⟨16, 45, false, none⟩,
  y67,
  [.reg (r 16 5270 3), .code (c 16 7318), .inBlock 1, .code (c 16 918), .inLoop (c 16 150), .inBlock 0, .code (c 16 30)], [], .run⟩,
 ⟨⟨4, 120, false, none⟩,
  y64,
  [.reg (r 4 22 1), .code (c 4 30)], [], .run⟩],
 ⟨(p 54180), g84⟩,
 []⟩
def k84 : List (IC Blk) := [(c 119 14638), .skip, (c 119 1838), (c 119 302), .skip, (c 119 62), (.region (r 56 382 21)), (c 56 510), (.region (r 132 4 1)), (c 132 6), (.region (r 60 4 2)), .ret, (.region (r 16 5270 3)), (c 16 7318), .skip, (c 16 918), (c 16 150), .skip, (c 16 30), (.region (r 4 22 1)), (c 4 30)]
theorem h84 : codesSt s84.fr s84.cs s84.ls = k84 := by kernel_rfl
/-- the memory behind piece 85 -/
def g85 : T Blk := upd [(54840, (ce [q0, q4, q5, q6, q7, q8, q16, q17, q18, q19, q20, q21, q0, q0, q0, q0, q0, q0, q0, q0, q0, q0, q0, q0, q0, q0, q0, q0, q0, q0, q0, q0, q0, q0, q0, q0, q0, q0, q0, q0, q0, q0, q0, q0, q0, q0, q0, q0, q0, q0, q0, q0, q0, q0, q0, q0, q0, q0, q0, q0, q0, q0, q0, q0, q0, q0, q0, q0, q0, q0, q0, q0, q0, q0, q0, q0, q0, q0, q0, q0, q0, q0, q0, q0, q0, q0, q0, q0, q0, q0, q0, q0, q0, q0, q0, q0, q0, q0, q0, q0, q0, q0, q0, q0, q0, q0, q0, q0, q0, q0, q0, q0, q0, q0, q0, q0, q0, q0, q0, q0, q0, q0, q0, q0, q0, q0, q0, q0, q0, q0, q0, q0, q0, q0, q0, q0, q0, q0, q0, q0, q0, q0, q0, q0, q0, q0, q0, q0, q0, q0, q0, q0, q0, q0, q0, q0, q0, q0, q0, q0, q0, q0, q0, q0, q0, q0, q0, q0, q0, q0, q0, q0, q0, q0, q0, q0, q0, q0, q0, q0, q0, q0, q0, q0, q0, q0, q0, q0, q0, q0, q0, q0, q0, q0, q0, q0, q0, q0, q0, q0, q0, q0, q0, q0, q0, q0, q0, q0, q0, q0, q0, q0, q0, q0, q0, q0, q0, q0, q0, q0, q0, q0, q0, q0, q0, q0, q0, q0, q0, q0, q0, q0, q0, q0, q0, q0, q0, q0, q0, q0, q0, q0, q0, q0, q0, q0, q0, q0, q0, q0, q0, q0, q0, q0, q0, q0, q0, q0])), (54842, (ce [(U 54840 0 258 1), ns, (I 0), ff, (I 2), (I 11), (I 0), (I 10), (I 1), (I 1), (I 1), (U 52809 0 1 6)]))] (del [54145, 54146, 54147, 52811, 52814, 52815, 52816, 53688, 54072, 53689, 53690, 53691] g84)
/-- the state behind piece 85; its texts -/
def s85 : St :=
⟨⟨⟨16, 45, false, none⟩,
  (n z131 (n (A 52634 0) (n (U 52734 0 9 3) (n (I 0) (n (U 52655 0 9 3) (o (U 52734 0 9 3)) e) (n tt (o (I 0)) e)) (n (.tup [(U 52655 0 9 3), (I 0)]) (n tt (o (U 52734 0 9 3)) e) (o (U 52655 0 9 3)))) (n (I 0) (n z131 (n (I 0) (o z139) e) e) (n (I 0) (n (I 0) (o z139) e) (o (I 10))))) (n (A 52635 0) (n (I 0) (n (.tup [(U 52655 0 9 3), (I 0)]) (n z132 (o (I 0)) e) e) (n (U 52655 0 9 3) (n (A 52634 6) (o z135) e) (o (I 0)))) (n (A 54842 0) (n (S 52008 0 9 9) (n tt (o z132) e) (o (.tup [(U 52734 0 9 3), (I 0)]))) (n z131 (n tt (o z138) e) (o (.tup [(U 52734 0 9 3), (I 0)])))))),
  [.code (c 16 7318), .inBlock 1, .code (c 16 918), .inLoop (c 16 150), .inBlock 0, .code (c 16 30)], [], .run⟩,
 [⟨⟨4, 120, false, none⟩,
  y64,
  [.reg (r 4 22 1), .code (c 4 30)], [], .run⟩],
 ⟨(p 54843), g85⟩,
 []⟩
def k85 : List (IC Blk) := [(c 16 7318), .skip, (c 16 918), (c 16 150), .skip, (c 16 30), (.region (r 4 22 1)), (c 4 30)]
theorem h85 : codesSt s85.fr s85.cs s85.ls = k85 := by kernel_rfl
def y68 : T V := (n z141 (n (I 0) (n (A 54927 0) (n (I 0) (m (o (A 54927 0)) e) e) (m (m (o (I 0)) e) (o (A 54927 3)))) (m (m (m (o (A 54927 5)) e) e) (m (m (o (A 54927 11)) e) e))) (n (I 0) (m (m (m (o z140) e) e) (m (m (o (I 0)) e) (o ff))) (n (A 54928 0) (m (m (o (I 11)) e) (o (A 54927 0))) (m (m (o (U 54921 0 1 6)) e) e))))
def y69 : T V := (n z141 (n z141 (o (A 54925 0)) (n (I 0) (o z141) e)) (n (A 54924 0) (o (A 54926 0)) e))
def y70 : T V := (n z141 (n (A 54922 0) (o (I 0)) (o z141)) (n (A 54923 0) (o z141) e))
def y71 : T V := (n z131 (n (A 52634 0) (n (U 54846 0 9 3) (n (I 0) (n (U 52655 0 9 3) (o (U 54846 0 9 3)) e) (n tt (o (I 0)) e)) (n (.tup [(U 52655 0 9 3), (I 0)]) (n tt (o (U 54846 0 9 3)) e) (n (U 52734 0 9 3) (o z138) e))) (n (I 1) (n z131 (n (I 1) (o z139) e) (n (I 1) (o ff) e)) (n (I 0) (n (I 0) (o z139) e) (o (I 11))))) (n (A 52635 0) (n (I 0) (n (.tup [(U 52655 0 9 3), (I 0)]) (n z132 (o (I 0)) e) (n (I 0) (o (I 0)) e)) (n (U 52655 0 9 3) (n (A 52634 6) (o z141) e) (o (I 1)))) (n (A 54842 0) (n (S 52008 0 9 9) (n tt (o z138) e) (o (.tup [(U 54846 0 9 3), (I 0)]))) (n z131 (n tt (o z138) e) (o (.tup [(U 54846 0 9 3), (I 0)]))))))
/-- the memory behind piece 86 -/
def g86 : T Blk := upd [(55423, (ce [ff, tt, tt, ff, ff, ff, ff, ff, ff, ff])), (54927, (ce [(U 54840 0 258 1), ns, (I 0), ff, (I 2), (I 11), (I 0), (I 10), (I 1), (I 1), (I 1), (U 54921 0 1 6)])), (54931, (ce [ns, ns, ns, ns, (I 0), (I 0), ff])), (54923, (ce [ns, ns, (I 0), ff, (I 0), (I 0), (I 0), (I 0), (I 0), (I 0), (I 0), ns])), (55403, (ce [(I 6), (I 2), (I 7), (I 2), (I 8), (I 2)])), (55019, (ce [(I 11), (I 2), (I 10), (I 2)])), (54929, (ce [(U 54840 0 258 1), ns, (I 0), ff])), (54921, (ce [(I 1), (I 0), (I 0), (I 0), (I 0), (U 54846 0 9 3)])), (55401, (ce [(I 1), (I 0), q104, (I 1), (I 1), q2, (I 2), (I 0), q3])), (55061, (ce [(I 9), (I 2)])), (54925, (ce [(U 54840 0 258 1), ns, (I 0), ff, (I 2), (I 11), (I 0), (I 10), (I 1), (I 1), (I 1), (U 54921 0 1 6)])), (54928, (ce [ns, ns, (I 0), ff, (I 0), (I 0), (I 0), (I 0), (I 0), (I 0), (I 0), ns])), (55408, (ce [(I 0), (I 0), (I 1), (I 0), (I 0), (I 0), (I 0), (I 0), (I 0), (I 0)])), (55128, (ce [(I 1), (I 0), (I 0), (I 0), (I 0)])), (54924, (ce [(U 54840 0 258 1), ns, (I 0), ff, (I 2), (I 11), (I 0), (I 10), (I 1), (I 1), (I 1), (U 54921 0 1 6)])), (55404, (ce [(I 2), (I 10), q2, (I 1), (I 6), q1, (I 0), (I 0), q1, (I 0), (I 0), q1, (I 0), (I 0), q1, (I 0), (I 0), q1, (I 0), (I 0), q1, (I 0), (I 0), q1, (I 0), (I 0), q1])), (55020, (ce [(I 1), (I 1), ns, ns, ns, ns, (U 55019 0 2 2)])), (54930, (ce [ns, ns])), (54922, (ce [(U 54840 0 258 1), ns, (I 0), ff, (I 2), (I 11), (I 0), (I 10), (I 1), (I 1), (I 1), (U 54921 0 1 6)])), (52634, (ce [(U 54840 0 258 1), ns, (I 0), ff, (I 2), (I 11), (I 0), (I 10), (I 1), (I 1), (I 1), (U 52809 0 1 6)])), (54934, (ce [(I 0), (I 0), ns, ns, ns, ns, ns])), (54926, (ce [ns, ns, (I 0), ff, (I 0), (I 0), (I 0), (I 0), (I 0), (I 0), (I 0), ns])), (54846, (ce [(I 2), (I 11), q2, (I 1), (I 6), q1, (I 0), (I 0), q1, (I 0), (I 0), q1, (I 0), (I 0), q1, (I 0), (I 0), q1, (I 0), (I 0), q1, (I 0), (I 0), q1, (I 0), (I 0), q1]))] (del [] g85)
/-- the state behind piece 86; its texts -/
def s86 : St :=
⟨⟨⟨90, 180, false, none⟩,
  (n (S 55404 0 9 9) (m (n (S 55408 0 10 10) (n tt (m (n (I 8) (o (U 55411 0 1 2)) (o (I 1))) (n tt (o ff) (o (I 1)))) (n (I 2) (n tt (o (A 55408 2)) (o ff)) (n ff (o (S 55423 0 10 10)) e))) (n (I 2) (n ff (n (A 55404 24) (o (I 2)) (o ns)) (n (.tup [(U 55411 0 1 2), tt]) (o (I 0)) (o (A 55430 0)))) (n (I 9) (n ff (o ff) (o tn)) (n ff (o (I 0)) e)))) (n (A 55422 0) (n (S 55423 0 10 10) (n (I 9) (n (S 55404 0 9 9) (o (A 55411 0)) (o (S 55404 0 9 9))) (n (A 55409 2) (o (A 55415 2)) (o (U 55430 0 1 2)))) (n ff (n (.agg [(I 0), (I 0), q1]) (o (I 6)) (o tn)) (n (U 55411 0 1 2) (o (I 1)) e))) (n (I 0) (n (A 55404 0) (n (A 55422 0) (o (I 0)) (o ns)) (n tt (o ff) (o (I 2)))) (n (I 9) (n tt (o (I 6)) (o ff)) (n (I 1) (o (I 2)) e))))) (n ff (n (I 9) (n (I 1) (n (S 55404 0 9 9) (n (I 9) (o (I 0)) (o (I 2))) (n (.tup [(U 55411 0 1 2), tt]) (o ff) (o (S 55423 0 10 10)))) (n ff (n tt (o (A 55415 1)) (o ff)) (n (I 1) (o (A 55423 1)) e))) (n ns (n (S 55404 0 9 9) (n (.agg [(I 0), (I 0), q1]) (o (A 55408 2)) (o (I 0))) (n (U 55411 0 1 2) (o ff) (o (A 55430 1)))) (n (S 55404 0 9 9) (n tt (o (A 55415 1)) (o tn)) (n (I 0) (o (I 1)) e)))) (n (U 55411 0 1 2) (n (I 1) (n ff (n (I 8) (o (A 55411 1)) (o (I 2))) (n q2 (o q1) (o (I 0)))) (n (S 55408 0 10 10) (n (.agg [(I 0), (I 0), q1]) (o ff) (o tn)) (n (I 1) (o tt) e))) (m (n (A 55404 0) (n (I 0) (o (I 1)) (o (I 0))) (n tt (o (S 55423 0 10 10)) (o (A 55423 2)))) (n ff (n tt (o ff) (o (I 0))) (n (S 55408 0 10 10) (o tt) e)))))),
  [.code (c 90 51979454), .code (c 90 26813630), .inLoop (c 90 10036414), .inBlock 9, .inBlock 8, .code (c 90 468158), .inLoop (c 90 74942), .inBlock 7, .inBlock 6, .code (c 90 7358), .inLoop (c 90 1214), .inBlock 5, .code (c 90 254)], [], .run⟩,
 [⟨⟨195, 80, false, none⟩,
  (n (U 55401 0 3 3) (m (n ff (n (S 55404 0 9 9) (n (I 2) (n (I 3) (o q1) e) (o (u8 6))) (n (I 2) (o (I 2)) (o (I 1)))) (n ff (n (I 2) (n (I 2) (o (A 55404 0)) e) (o (A 55404 3))) (n (I 0) (o (u8 1)) (o (I 1))))) (n (I 3) (n (U 55401 0 3 3) (n (.agg [(I 2), (I 0), q3]) (n (S 55404 0 9 9) (o q2) e) (o (A 55404 3))) (n ff (o (A 55407 2)) (o (S 55404 0 9 9)))) (n (I 3) (n ff (n (S 55404 0 9 9) (o (S 55404 0 9 9)) e) (o (S 55404 0 9 9))) (n (A 55407 2) (o (A 55407 2)) (o (A 55404 0)))))) (n ns (n (S 55404 0 9 9) (n (I 3) (n (A 55401 6) (n ff (o (A 55406 2)) e) (o (I 6))) (n ff (o (I 1)) (o (I 0)))) (n (I 2) (n ff (n (I 1) (o (A 55404 2)) e) (o (A 55404 4))) (n tt (o (I 1)) (o (I 0))))) (n (A 55407 0) (n (I 3) (n (A 55407 0) (n (A 55407 0) (o q2) e) (o (A 55404 3))) (n (A 55407 1) (o q3) (o (A 55406 0)))) (n (U 55401 0 3 3) (n (A 55407 0) (o (A 55407 0)) (o (A 55406 0))) (n q3 (o q3) (o (A 55404 2))))))),
  [.reg (r 195 38 1), .code (c 195 54), .code (c 195 30)], [], .run⟩,
 ⟨⟨123, 134, false, none⟩,
  (n z140 (n (I 11) (m (n tt (n (A 55128 0) (n (.agg [(I 4), (I 2), q9]) (o (U 54973 0 1 2)) (o (U 55401 0 3 3))) (n (U 54973 0 1 2) (o tt) e)) (n (I 11) (m (o tt) e) (m (o (U 55402 0 3 3)) e))) (n (A 55020 0) (n (U 55401 0 3 3) (n (U 54973 0 1 2) (o (I 2)) e) (n (U 54973 0 1 2) (o (.tup [(U 55402 0 3 3), (U 55403 0 3 2), (U 55401 0 3 3), tt])) e)) (n tt (n (A 54967 1) (o (.agg [(I 3), (I 2), q54])) e) (n (I 0) (o tt) e)))) (n ff (n (I 1) (n (U 55402 0 3 3) (n (I 1) (o (A 54973 0)) e) (n (.agg [(I 1), (I 1), ns, ns, ns, ns, (U 55019 0 2 2)]) (o ff) e)) (n (.agg [(I 4), (I 2), q9]) (o (I 1)) (n z140 (o (U 55401 0 3 3)) e))) (n (A 55021 0) (n z17 (n tt (o (.agg [(I 3), (I 2), q54])) e) (n tt (o (U 55061 0 1 2)) e)) (m (n (.agg [(I 11), (I 2)]) (o z2) e) (o (A 54973 0)))))) (n (A 54933 0) (n (A 54934 0) (n (I 1) (n (U 55061 0 1 2) (n (.tup [(I 1), (I 1), (U 54973 0 1 2), tt]) (o (I 0)) e) (n (U 55019 0 2 2) (o tt) e)) (n z17 (n (I 1) (o ff) e) (n z18 (o (U 55403 0 3 2)) e))) (n (I 0) (m (n tt (o z18) e) (n (I 1) (o z140) e)) (n ff (n (I 2) (o (.tup [z2, (U 55061 0 1 2), tt])) e) (n (A 54973 0) (o ff) e)))) (n (A 54967 0) (n (U 54973 0 1 2) (n (U 55403 0 3 2) (n (I 1) (o (A 54973 1)) e) (o (I 0))) (n tt (n (I 11) (o (.tup [z2, (U 55061 0 1 2), tt])) e) (n (U 54973 0 1 2) (o tt) e))) (n tt (n z140 (n ff (o tt) e) (m (o (.tup [(U 55402 0 3 3), (U 55403 0 3 2), (U 55401 0 3 3), tt])) e)) (n (.tup [(I 1), (I 1), (U 54973 0 1 2), tt]) (n (S 55018 0 1 1) (o (U 55061 0 1 2)) e) (o (I 10))))))),
  [.reg (r 123 1565886 1), .code (c 123 2090174), .inBlock 1, .code (c 123 7358), .inLoop (c 123 1214), .inBlock 0, .code (c 123 254)], [], .run⟩,
 ⟨⟨63, 33, false, none⟩,
  (n z140 (n (I 11) (m e (o z140)) (o ff)) (n (A 54932 0) (n ns e (o (I 11))) e)),
  [.reg (r 63 4 2), .code (c 63 6)], [], .run⟩,
 ⟨⟨119, 207, false, none⟩,
  (n z140 (n (I 11) (n (I 0) (n (A 54929 0) (n ff (o (I 1)) e) (m (o (I 0)) e)) (m (m (o tt) e) (m (o (I 0)) e))) (n (I 0) (m (m (o ff) (o (I 11))) (m (o ff) e)) (m (m (o ff) e) (m (o z9) e)))) (n (I 0) (n (I 0) (m (n (A 54931 0) (o ff) (o z140)) (m (o ff) e)) (m (m (o ff) e) (m (o (I 0)) e))) (n (U 54921 0 1 6) (m (m (o (I 0)) e) e) (n (A 54930 0) (m (o ff) e) (n (U 54921 0 1 6) (o (A 54931 0)) e))))),
  [.reg (r 119 22 2), .code (c 119 30)], [], .run⟩,
 ⟨⟨56, 300, false, none⟩,
  y68,
  [.reg (r 56 10 8), .code (c 56 14)], [], .run⟩,
 ⟨⟨132, 25, false, none⟩,
  y69,
  [.reg (r 132 4 1), .code (c 132 6)], [], .run⟩,
 ⟨⟨60, 9, false, none⟩,
  y70,
  [.reg (r 60 4 2), .code .ret], [], .run⟩,
 ⟨⟨16, 45, false, none⟩,
  y71,
  [.reg (r 16 5270 3), .code (c 16 7318), .inBlock 1, .code (c 16 918), .inLoop (c 16 150), .inBlock 0, .code (c 16 30)], [], .run⟩,
 ⟨⟨4, 120, false, none⟩,
  y64,
  [.reg (r 4 22 1), .code (c 4 30)], [], .run⟩],
 ⟨(p 55434), g86⟩,
 []⟩
def k86 : List (IC Blk) := [(c 90 51979454), (c 90 26813630), (c 90 10036414), .skip, .skip, (c 90 468158), (c 90 74942), .skip, .skip, (c 90 7358), (c 90 1214), .skip, (c 90 254), (.region (r 195 38 1)), (c 195 54), (c 195 30), (.region (r 123 1565886 1)), (c 123 2090174), .skip, (c 123 7358), (c 123 1214), .skip, (c 123 254), (.region (r 63 4 2)), (c 63 6), (.region (r 119 22 2)), (c 119 30), (.region (r 56 10 8)), (c 56 14), (.region (r 132 4 1)), (c 132 6), (.region (r 60 4 2)), .ret, (.region (r 16 5270 3)), (c 16 7318), .skip, (c 16 918), (c 16 150), .skip, (c 16 30), (.region (r 4 22 1)), (c 4 30)]
theorem h86 : codesSt s86.fr s86.cs s86.ls = k86 := by kernel_rfl
/-- the memory behind piece 87 -/
def g87 : T Blk := upd [(54931, (ce [ns, ns, (U 55808 0 6 2), (U 55809 0 6 3), (I 0), (I 0), ff])), (55809, (ce [(I 1), (I 2), q94, (I 1), (I 2), q26, (I 1), (I 2), q27, (I 2), (I 2), q105, (I 3), (I 2), q54, (I 4), (I 2), q9])), (55808, (ce [(I 6), (I 2), (I 7), (I 2), (I 8), (I 2), (I 9), (I 2), (I 10), (I 2), (I 11), (I 2)]))] (del [54929, 55061, 54934, 55128, 55401, 55019, 55403, 55020, 55404, 55408, 55423] g86)
/-- the state behind piece 87; its texts -/
def s87 : St :=
⟨⟨⟨119, 207, false, none⟩,
  (n z140 (n (I 11) (n (I 0) (n (A 54929 0) (n ff (n (I 1) (n (A 55587 10) (o tt) e) (o (A 54931 0))) (n (.tup [(U 55587 0 6 2), tt]) (o (A 55587 10)) (o (U 55809 0 6 3)))) (m (n (I 0) (o z17) (o (S 55806 0 1 1))) (n (I 6) (o (A 55587 10)) (o tt)))) (m (n (I 6) (n tt (o (I 5)) (o (U 55587 0 6 2))) (n (U 55587 0 6 2) (o ff) (o (A 54931 3)))) (m (n (I 0) (o tt) (o (A 54931 3))) (n z17 (o tt) (o (I 0)))))) (n (I 0) (m (n (U 55587 0 6 2) (n ff (o (I 11)) (o (A 54931 2))) (n (I 11) (o (I 0)) (o (A 54931 2)))) (m (n ff (o tt) (o (A 54931 0))) (n (I 5) (o (I 0)) e))) (m (n tt (n ff (o (A 55587 11)) (o (A 55587 10))) (n (I 6) (o (I 5)) (o (U 54921 0 1 6)))) (m (n z9 (o (I 5)) (o (.agg [(I 4), (I 2), q9]))) (n (U 55587 0 6 2) (o (A 54931 0)) (o (A 54921 5))))))) (n (I 0) (n (I 0) (m (n (A 54931 0) (n ff (n (A 55587 10) (o ff) e) (o (A 54931 0))) (n z140 (o (I 11)) (o (A 54931 0)))) (m (n ff (o (.agg [(I 4), (I 2), q9])) (o (U 55808 0 6 2))) (n ff (o (I 11)) e))) (m (n (A 55773 0) (n ff (o (A 55587 10)) (o (I 5))) (n tt (o (U 55587 0 6 2)) (o (I 0)))) (m (n (I 0) (o (U 55587 0 6 2)) (o (U 55772 0 5 3))) (n z140 (o tt) (o (A 54921 0)))))) (n (U 54921 0 1 6) (m (n tt (n (I 0) (o (U 55587 0 6 2)) (o (U 55771 0 5 2))) (n (.tup [(U 55587 0 6 2), tt]) (o ff) (o (A 54931 0)))) (m (m (o tt) (o (A 54931 0))) (n (I 6) (o tt) (o (U 54921 0 1 6))))) (n (A 54930 0) (n (I 0) (n ff (o (I 2)) (o (.agg [(I 11), (I 2)]))) (n (U 55587 0 6 2) (o (A 55587 10)) (o (I 1)))) (n (U 54921 0 1 6) (n (A 54931 0) (o (A 55587 10)) (o (S 55807 0 1 1))) (n (I 5) (o (A 54931 0)) (o (U 54846 0 9 3)))))))),
  [.code (c 119 25182), .code (c 119 12894), .inBlock 3, .code (c 119 3678), .inLoop (c 119 606), .inBlock 2, .code (c 119 126)], [], .run⟩,
 [⟨⟨56, 300, false, none⟩,
  y68,
  [.reg (r 56 10 8), .code (c 56 14)], [], .run⟩,
 ⟨⟨132, 25, false, none⟩,
  y69,
  [.reg (r 132 4 1), .code (c 132 6)], [], .run⟩,
 ⟨⟨60, 9, false, none⟩,
  y70,
  [.reg (r 60 4 2), .code .ret], [], .run⟩,
 ⟨⟨16, 45, false, none⟩,
  y71,
  [.reg (r 16 5270 3), .code (c 16 7318), .inBlock 1, .code (c 16 918), .inLoop (c 16 150), .inBlock 0, .code (c 16 30)], [], .run⟩,
 ⟨⟨4, 120, false, none⟩,
  y64,
  [.reg (r 4 22 1), .code (c 4 30)], [], .run⟩],
 ⟨(p 55871), g87⟩,
 []⟩
def k87 : List (IC Blk) := [(c 119 25182), (c 119 12894), .skip, (c 119 3678), (c 119 606), .skip, (c 119 126), (.region (r 56 10 8)), (c 56 14), (.region (r 132 4 1)), (c 132 6), (.region (r 60 4 2)), .ret, (.region (r 16 5270 3)), (c 16 7318), .skip, (c 16 918), (c 16 150), .skip, (c 16 30), (.region (r 4 22 1)), (c 4 30)]
theorem h87 : codesSt s87.fr s87.cs s87.ls = k87 := by kernel_rfl
def y72 : T V := (n z141 (n (I 0) (n (A 54927 0) (n (I 0) (m (n (A 54927 0) (o (I 12)) e) (o (I 3))) (m (o z143) (o (A 54927 5)))) (n (A 56144 0) (m (n (I 0) (o (U 54921 0 1 6)) e) (o z141)) (n (A 54927 3) (o ff) (o (I 0))))) (m (n tt (m (n (A 54927 5) (o (I 0)) e) (o ff)) (m (o tt) (o (I 3)))) (m (m (o (A 54927 11)) (o (A 54927 0))) (m (o (A 54927 4)) (o (A 54927 7)))))) (n (I 0) (m (n (A 56143 0) (m (n z140 (o (I 0)) e) (o (I 3))) (m (o z142) (o (I 11)))) (n (A 56145 0) (m (o (I 0)) e) (n ff e (o (I 2))))) (n (A 54928 0) (n (I 3) (m (n (I 11) (o (A 54927 11)) e) e) (n (A 54927 0) (o tt) (o (A 54927 6)))) (m (m (o (U 54921 0 1 6)) (o z140)) (n z143 (o (I 2)) (o (I 10)))))))
/-- the memory behind piece 88 -/
def g88 : T Blk := upd [(56143, (ce [(U 56140 0 3 3), (U 56142 0 1 2)])), (56151, (ce [(I 0), (I 0), ns, ns, ns, ns, ns])), (56147, (ce [ns, ns])), (56145, (ce [ns, ns])), (56345, (ce [(I 1), (I 0), (I 0), (I 0), (I 0)])), (56237, (ce [(I 1), (I 1), ns, ns, ns, ns, (U 56236 0 2 2)])), (56144, (ce [(U 54840 0 258 1), ns, (I 0), ff, (I 2), (I 11), (I 0), (I 10), (I 1), (I 1), (I 1), (U 54921 0 1 6)])), (56148, (ce [ns, ns, ns, ns, (I 3), (I 12), ff])), (56140, (ce [(I 1), (I 0), q125, (I 2), (I 0), q36, (I 3), (I 0), q37])), (56620, (ce [(I 6), (I 2), (I 7), (I 2), (I 8), (I 2)])), (56236, (ce [(I 11), (I 2), (I 10), (I 2)])), (56146, (ce [(U 54840 0 258 1), ns, (I 0), ff])), (56618, (ce [(I 1), (I 0), q104, (I 1), (I 1), q2, (I 2), (I 0), q3])), (56278, (ce [(I 9), (I 2)])), (56142, (ce [(I 2), (I 0)]))] (del [55808, 55809, 54930, 54931] g87)
/-- the state behind piece 88; its texts -/
def s88 : St :=
⟨⟨⟨123, 134, false, none⟩,
  (n z140 (n (I 11) (m (n tt (n (A 56345 0) (n (.agg [(I 4), (I 2), q9]) (o (U 56190 0 1 2)) e) (n (U 56190 0 1 2) (o tt) e)) (n (I 11) (m (o tt) e) (m (o (U 56619 0 3 3)) e))) (n (A 56237 0) (n (U 56618 0 3 3) (n (U 56190 0 1 2) (o (I 2)) e) (n (U 56190 0 1 2) (o (.tup [(U 56619 0 3 3), (U 56620 0 3 2), (U 56618 0 3 3), tt])) e)) (n tt (n (A 56184 1) (o (.agg [(I 3), (I 2), q54])) e) (o (I 0))))) (n ff (n (I 1) (n (U 56619 0 3 3) (n (I 1) (o (A 56190 0)) e) (n (.agg [(I 1), (I 1), ns, ns, ns, ns, (U 56236 0 2 2)]) (o ff) e)) (n (.agg [(I 4), (I 2), q9]) (o (I 1)) (n z140 (o (U 56618 0 3 3)) e))) (n (A 56238 0) (n z17 (n tt (o (.agg [(I 3), (I 2), q54])) e) (n tt (o (U 56278 0 1 2)) e)) (m (n (.agg [(I 11), (I 2)]) (o z2) e) (o (A 56190 0)))))) (n (A 56150 0) (n (A 56151 0) (n (I 1) (n (U 56278 0 1 2) (n (.tup [(I 1), (I 1), (U 56190 0 1 2), tt]) (o (I 0)) e) (n (U 56236 0 2 2) (o tt) e)) (n z17 (n (I 1) (o ff) e) (n z18 (o (U 56620 0 3 2)) e))) (n (I 0) (m (n tt (o z18) e) (n (I 1) (o z140) e)) (n ff (n (I 2) (o (.tup [z2, (U 56278 0 1 2), tt])) e) (o (A 56190 0))))) (n (A 56184 0) (n (U 56190 0 1 2) (n (U 56620 0 3 2) (n (I 1) (o (A 56190 1)) e) (o (I 0))) (n tt (n (I 11) (o (.tup [z2, (U 56278 0 1 2), tt])) e) (n (U 56190 0 1 2) (o tt) e))) (n tt (n z140 (n ff (o tt) e) (m (o (.tup [(U 56619 0 3 3), (U 56620 0 3 2), (U 56618 0 3 3), tt])) e)) (n (.tup [(I 1), (I 1), (U 56190 0 1 2), tt]) (n (S 56235 0 1 1) (o (U 56278 0 1 2)) e) (o (I 10))))))),
  [.code (c 123 517310), .inBlock 1, .code (c 123 7358), .inLoop (c 123 1214), .inBlock 0, .code (c 123 254)], [], .run⟩,
 [⟨⟨63, 33, false, none⟩,
  (n z140 (n (I 11) (m e (o z140)) (o ff)) (n (A 56149 0) (n ns e (o (I 11))) e)),
  [.reg (r 63 4 2), .code (c 63 6)], [], .run⟩,
 ⟨⟨119, 207, false, none⟩,
  (n z140 (n (I 11) (n (I 12) (n (A 56146 0) (n ff (o (I 1)) e) (m (o (I 12)) e)) (m (m (o tt) e) (m (o (I 3)) e))) (n (I 0) (m (m (o ff) (o (I 11))) (m (o ff) e)) (m (m (o ff) e) (m (o z20) e)))) (n (I 3) (n (I 0) (m (n (A 56148 0) (o ff) (o z140)) (m (o ff) e)) (m (m (o ff) e) (m (o (I 12)) e))) (n (U 54921 0 1 6) (m (m (o (I 3)) e) e) (n (A 56147 0) (m (o ff) e) (n (U 54921 0 1 6) (o (A 56148 0)) e))))),
  [.reg (r 119 22 2), .code (c 119 30)], [], .run⟩,
 ⟨⟨56, 300, false, none⟩,
  y72,
  [.reg (r 56 382 21), .code (c 56 510)], [], .run⟩,
 ⟨⟨132, 25, false, none⟩,
  y69,
  [.reg (r 132 4 1), .code (c 132 6)], [], .run⟩,
 ⟨⟨60, 9, false, none⟩,
  y70,
  [.reg (r 60 4 2), .code .ret], [], .run⟩,
 ⟨⟨16, 45, false, none⟩,
  y71,
  [.reg (r 16 5270 3), .code (c 16 7318), .inBlock 1, .code (c 16 918), .inLoop (c 16 150), .inBlock 0, .code (c 16 30)], [], .run⟩,
 ⟨⟨4, 120, false, none⟩,
  y64,
  [.reg (r 4 22 1), .code (c 4 30)], [], .run⟩],
 ⟨(p 56621), g88⟩,
 []⟩
def k88 : List (IC Blk) := [(c 123 517310), .skip, (c 123 7358), (c 123 1214), .skip, (c 123 254), (.region (r 63 4 2)), (c 63 6), (.region (r 119 22 2)), (c 119 30), (.region (r 56 382 21)), (c 56 510), (.region (r 132 4 1)), (c 132 6), (.region (r 60 4 2)), .ret, (.region (r 16 5270 3)), (c 16 7318), .skip, (c 16 918), (c 16 150), .skip, (c 16 30), (.region (r 4 22 1)), (c 4 30)]
theorem h88 : codesSt s88.fr s88.cs s88.ls = k88 := by kernel_rfl
/-- the memory behind piece 89 -/
def g89 : T Blk := upd [(57025, (ce [(I 6), (I 2), (I 7), (I 2), (I 8), (I 2), (I 9), (I 2), (I 10), (I 2), (I 11), (I 2)])), (56148, (ce [ns, ns, (U 57025 0 6 2), (U 57026 0 6 3), (I 3), (I 12), ff])), (57026, (ce [(I 1), (I 2), q94, (I 1), (I 2), q26, (I 1), (I 2), q27, (I 2), (I 2), q105, (I 3), (I 2), q54, (I 4), (I 2), q9]))] (del [52809, 54922, 56140, 54924, 54925, 56142, 56143, 56144, 56146, 56278, 56151, 56345, 56618, 56236, 56620, 56237, 54842, 52734] g88)
/-- the state behind piece 89; its texts -/
def s89 : St :=
⟨⟨⟨119, 207, false, none⟩,
  (n z140 (n (I 11) (n (I 12) (n (A 56146 0) (n ff (n (I 1) (n (A 56804 10) (o tt) e) (o (A 56148 0))) (n (.tup [(U 56804 0 6 2), tt]) (o (A 56804 10)) (o (U 57026 0 6 3)))) (m (n (I 12) (o z17) (o (S 57023 0 1 1))) (n (I 6) (o (A 56804 10)) (o tt)))) (m (n (I 6) (n tt (o (I 5)) (o (U 56804 0 6 2))) (n (U 56804 0 6 2) (o ff) (o (A 56148 3)))) (m (n (I 3) (o tt) (o (A 56148 3))) (n z17 (o tt) (o (I 0)))))) (n (I 0) (m (n (U 56804 0 6 2) (n ff (o (I 11)) (o (A 56148 2))) (n (I 11) (o (I 0)) (o (A 56148 2)))) (m (n ff (o tt) (o (A 56148 0))) (n (I 5) (o (I 0)) e))) (m (n tt (n ff (o (A 56804 11)) (o (A 56804 10))) (n (I 6) (o (I 5)) (o (U 54921 0 1 6)))) (m (n z20 (o (I 5)) (o (.agg [(I 4), (I 2), q9]))) (n (U 56804 0 6 2) (o (A 56148 0)) (o (A 54921 5))))))) (n (I 3) (n (I 0) (m (n (A 56148 0) (n ff (n (A 56804 10) (o ff) e) (o (A 56148 0))) (n z140 (o (I 11)) (o (A 56148 0)))) (m (n ff (o (.agg [(I 4), (I 2), q9])) (o (U 57025 0 6 2))) (n ff (o (I 11)) e))) (m (n (A 56990 0) (n ff (o (A 56804 10)) (o (I 5))) (n tt (o (U 56804 0 6 2)) (o (I 0)))) (m (n (I 12) (o (U 56804 0 6 2)) (o (U 56989 0 5 3))) (n z140 (o tt) (o (A 54921 0)))))) (n (U 54921 0 1 6) (m (n tt (n (I 3) (o (U 56804 0 6 2)) (o (U 56988 0 5 2))) (n (.tup [(U 56804 0 6 2), tt]) (o ff) (o (A 56148 0)))) (m (m (o tt) (o (A 56148 0))) (n (I 6) (o tt) (o (U 54921 0 1 6))))) (n (A 56147 0) (n (I 0) (n ff (o (I 2)) (o (.agg [(I 11), (I 2)]))) (n (U 56804 0 6 2) (o (A 56804 10)) (o (I 1)))) (n (U 54921 0 1 6) (n (A 56148 0) (o (A 56804 10)) (o (S 57024 0 1 1))) (n (I 5) (o (A 56148 0)) (o (U 54846 0 9 3)))))))),
  [.code (c 119 25182), .code (c 119 12894), .inBlock 3, .code (c 119 3678), .inLoop (c 119 606), .inBlock 2, .code (c 119 126)], [], .run⟩,
 [⟨⟨56, 300, false, none⟩,
  y72,
  [.reg (r 56 382 21), .code (c 56 510)], [], .run⟩,
 ⟨⟨132, 25, false, none⟩,
  y69,
  [.reg (r 132 4 1), .code (c 132 6)], [], .run⟩,
 ⟨⟨60, 9, false, none⟩,
  y70,
  [.reg (r 60 4 2), .code .ret], [], .run⟩,
 ⟨⟨16, 45, false, none⟩,
  y71,
  [.reg (r 16 5270 3), .code (c 16 7318), .inBlock 1, .code (c 16 918), .inLoop (c 16 150), .inBlock 0, .code (c 16 30)], [], .run⟩,
 ⟨⟨4, 120, false, none⟩,
  y64,
  [.reg (r 4 22 1), .code (c 4 30)], [], .run⟩],
 ⟨(p 57088), g89⟩,
 []⟩
def k89 : List (IC Blk) := [(c 119 25182), (c 119 12894), .skip, (c 119 3678), (c 119 606), .skip, (c 119 126), (.region (r 56 382 21)), (c 56 510), (.region (r 132 4 1)), (c 132 6), (.region (r 60 4 2)), .ret, (.region (r 16 5270 3)), (c 16 7318), .skip, (c 16 918), (c 16 150), .skip, (c 16 30), (.region (r 4 22 1)), (c 4 30)]
theorem h89 : codesSt s89.fr s89.cs s89.ls = k89 := by kernel_rfl
/-- the memory behind piece 90 -/
def g90 : T Blk := upd [(57585, (ce [(U 57578 0 258 1), ns, (I 0), ff, (I 3), (I 15), (I 0), (I 14), (I 1), (I 1), (I 1), (U 54921 0 1 6)])), (57584, (ce [(I 2), (I 12), q2, (I 1), (I 6), q1, (I 0), (I 0), q1, (I 0), (I 0), q1, (I 0), (I 0), q1, (I 0), (I 0), q1, (I 0), (I 0), q1, (I 0), (I 0), q1, (I 0), (I 0), q1])), (57580, (ce [(U 57578 0 258 1), ns, (I 0), ff, (I 3), (I 15), (I 0), (I 14), (I 1), (I 1), (I 1), (U 54921 0 1 6)])), (57586, (ce [ns, ns, (I 0), ff, (I 0), (I 0), (I 0), (I 0), (I 0), (I 0), (I 0), ns])), (57578, (ce [q0, q4, q5, q6, q7, q8, q16, q17, q18, q19, q20, q21, q22, q23, q24, q25, q0, q0, q0, q0, q0, q0, q0, q0, q0, q0, q0, q0, q0, q0, q0, q0, q0, q0, q0, q0, q0, q0, q0, q0, q0, q0, q0, q0, q0, q0, q0, q0, q0, q0, q0, q0, q0, q0, q0, q0, q0, q0, q0, q0, q0, q0, q0, q0, q0, q0, q0, q0, q0, q0, q0, q0, q0, q0, q0, q0, q0, q0, q0, q0, q0, q0, q0, q0, q0, q0, q0, q0, q0, q0, q0, q0, q0, q0, q0, q0, q0, q0, q0, q0, q0, q0, q0, q0, q0, q0, q0, q0, q0, q0, q0, q0, q0, q0, q0, q0, q0, q0, q0, q0, q0, q0, q0, q0, q0, q0, q0, q0, q0, q0, q0, q0, q0, q0, q0, q0, q0, q0, q0, q0, q0, q0, q0, q0, q0, q0, q0, q0, q0, q0, q0, q0, q0, q0, q0, q0, q0, q0, q0, q0, q0, q0, q0, q0, q0, q0, q0, q0, q0, q0, q0, q0, q0, q0, q0, q0, q0, q0, q0, q0, q0, q0, q0, q0, q0, q0, q0, q0, q0, q0, q0, q0, q0, q0, q0, q0, q0, q0, q0, q0, q0, q0, q0, q0, q0, q0, q0, q0, q0, q0, q0, q0, q0, q0, q0, q0, q0, q0, q0, q0, q0, q0, q0, q0, q0, q0, q0, q0, q0, q0, q0, q0, q0, q0, q0, q0, q0, q0, q0, q0, q0, q0, q0, q0, q0, q0, q0, q0, q0, q0, q0, q0, q0, q0, q0, q0, q0, q0])), (52634, (ce [(U 57578 0 258 1), ns, (I 0), ff, (I 3), (I 15), (I 0), (I 14), (I 1), (I 1), (I 1), (U 54921 0 1 6)]))] (del [57025, 57026, 54923, 54926, 54927, 54928, 56145, 56147, 56148, 54840] g89)
/-- the state behind piece 90; its texts -/
def s90 : St :=
⟨⟨⟨37, 26, false, none⟩,
  (n z144 (n (U 57584 0 9 3) (m (o (U 57584 0 9 3)) e) (m (o ff) e)) (n (A 57585 0) (n (A 57586 0) (o tt) e) e)),
  [.code (c 37 12), .code (c 37 6)], [], .run⟩,
 [⟨⟨16, 45, false, none⟩,
  (n z131 (n (A 52634 0) (n (U 57584 0 9 3) (n (I 0) (n (U 52655 0 9 3) (o (U 57584 0 9 3)) e) (n tt (o (I 0)) e)) (n (.tup [(U 52655 0 9 3), (I 0)]) (n tt (o (U 57584 0 9 3)) e) (n (U 54846 0 9 3) (o z144) e))) (n (I 2) (n z131 (n (I 2) (o z145) e) (n (I 2) (o ff) e)) (n (I 0) (n (I 0) (o z145) e) (o (I 12))))) (n (A 52635 0) (n (I 0) (n (.tup [(U 52655 0 9 3), (I 0)]) (n z132 (o (I 0)) e) (n (I 1) (o (I 0)) e)) (n (U 52655 0 9 3) (n (A 52634 6) (o z141) e) (o (I 2)))) (n (A 57580 0) (n (S 52008 0 9 9) (n tt (o z144) e) (o (.tup [(U 57584 0 9 3), (I 0)]))) (n z131 (n tt (o z144) e) (o (.tup [(U 57584 0 9 3), (I 0)])))))),
  [.reg (r 16 5270 2), .code (c 16 7318), .inBlock 1, .code (c 16 918), .inLoop (c 16 150), .inBlock 0, .code (c 16 30)], [], .run⟩,
 ⟨⟨4, 120, false, none⟩,
  y64,
  [.reg (r 4 22 1), .code (c 4 30)], [], .run⟩],
 ⟨(p 57648), g90⟩,
 []⟩
def k90 : List (IC Blk) := [(c 37 12), (c 37 6), (.region (r 16 5270 2)), (c 16 7318), .skip, (c 16 918), (c 16 150), .skip, (c 16 30), (.region (r 4 22 1)), (c 4 30)]
theorem h90 : codesSt s90.fr s90.cs s90.ls = k90 := by kernel_rfl
def y73 : T V := (n z147 (n z147 (o (A 57663 0)) (n (I 0) (o z147) e)) (n (A 57662 0) (o (A 57664 0)) e))
def y74 : T V := (n z147 (n (A 57660 0) (o (I 0)) (o z147)) (n (A 57661 0) (o z147) e))
def y75 : T V := (n z131 (n (A 52634 0) (n (U 57584 0 9 3) (n (I 0) (n (U 52655 0 9 3) (o (U 57584 0 9 3)) e) (n tt (o (I 0)) e)) (n (.tup [(U 52655 0 9 3), (I 0)]) (n tt (o (U 57584 0 9 3)) e) (n (U 54846 0 9 3) (o z144) e))) (n (I 2) (n z131 (n (I 2) (o z145) e) (n (I 2) (o ff) e)) (n (I 0) (n (I 0) (o z145) e) (o (I 12))))) (n (A 52635 0) (n (I 0) (n (.tup [(U 52655 0 9 3), (I 0)]) (n z132 (o (I 0)) e) (n (I 1) (o (I 0)) e)) (n (U 52655 0 9 3) (n (A 52634 6) (o z147) e) (o (I 2)))) (n (A 57580 0) (n (S 52008 0 9 9) (n tt (o z144) e) (o (.tup [(U 57584 0 9 3), (I 0)]))) (n z131 (n tt (o z144) e) (o (.tup [(U 57584 0 9 3), (I 0)]))))))
/-- the memory behind piece 91 -/
def g91 : T Blk := upd [(57663, (ce [(U 57578 0 258 1), ns, (I 0), ff, (I 3), (I 15), (I 0), (I 14), (I 1), (I 1), (I 1), (U 57659 0 1 6)])), (57667, (ce [(U 57578 0 258 1), ns, (I 0), ff])), (57659, (ce [(I 1), (I 0), (I 0), (I 0), (I 0), (U 57584 0 9 3)])), (57665, (ce [(U 57578 0 258 1), ns, (I 0), ff, (I 3), (I 15), (I 0), (I 14), (I 1), (I 1), (I 1), (U 57659 0 1 6)])), (57669, (ce [ns, ns, ns, ns, (I 0), (I 0), ff])), (57661, (ce [ns, ns, (I 0), ff, (I 0), (I 0), (I 0), (I 0), (I 0), (I 0), (I 0), ns])), (57664, (ce [ns, ns, (I 0), ff, (I 0), (I 0), (I 0), (I 0), (I 0), (I 0), (I 0), ns])), (57668, (ce [ns, ns])), (58324, (ce [(I 7), (I 2), (I 8), (I 2), (I 12), (I 3), (I 13), (I 3), (I 14), (I 3), (I 15), (I 3)])), (57660, (ce [(U 57578 0 258 1), ns, (I 0), ff, (I 3), (I 15), (I 0), (I 14), (I 1), (I 1), (I 1), (U 57659 0 1 6)])), (57666, (ce [ns, ns, (I 0), ff, (I 0), (I 0), (I 0), (I 0), (I 0), (I 0), (I 0), ns])), (57662, (ce [(U 57578 0 258 1), ns, (I 0), ff, (I 3), (I 15), (I 0), (I 14), (I 1), (I 1), (I 1), (U 57659 0 1 6)]))] (del [57585, 57586] g90)
/-- the state behind piece 91; its texts -/
def s91 : St :=
⟨⟨⟨119, 207, false, none⟩,
  (n z146 (n (I 15) (n (I 0) (n (A 57667 0) (n ff (o (I 1)) (o (.tup [(U 58324 0 6 2), tt]))) (m (o (I 0)) e)) (m (m (o tt) (o (U 58324 0 6 2))) (m (o (I 0)) e))) (n (I 0) (m (n (U 58324 0 6 2) (o ff) (o (I 15))) (m (o ff) e)) (m (m (o ff) e) (m (o z9) e)))) (n (I 0) (n (I 0) (m (n (A 57669 0) (o ff) (o z146)) (m (o ff) e)) (m (m (o ff) (o tt)) (m (o (I 0)) e))) (n (U 57659 0 1 6) (m (n tt (o (I 0)) (o (.tup [(U 58324 0 6 2), tt]))) e) (n (A 57668 0) (m (o ff) e) (n (U 57659 0 1 6) (o (A 57669 0)) e))))),
  [.code (c 119 30)], [], .run⟩,
 [⟨⟨56, 300, false, none⟩,
  (n z147 (n (I 0) (n (A 57665 0) (n (I 0) (m (o (A 57665 0)) e) e) (m (m (o (I 0)) e) (o (A 57665 3)))) (m (m (m (o (A 57665 5)) e) e) (m (m (o (A 57665 11)) e) e))) (n (I 0) (m (m (m (o z146) e) e) (m (m (o (I 0)) e) (o ff))) (n (A 57666 0) (m (m (o (I 15)) e) (o (A 57665 0))) (m (m (o (U 57659 0 1 6)) e) e)))),
  [.reg (r 56 10 8), .code (c 56 14)], [], .run⟩,
 ⟨⟨132, 25, false, none⟩,
  y73,
  [.reg (r 132 4 1), .code (c 132 6)], [], .run⟩,
 ⟨⟨60, 9, false, none⟩,
  y74,
  [.reg (r 60 4 2), .code .ret], [], .run⟩,
 ⟨⟨16, 45, false, none⟩,
  y75,
  [.reg (r 16 5270 3), .code (c 16 7318), .inBlock 1, .code (c 16 918), .inLoop (c 16 150), .inBlock 0, .code (c 16 30)], [], .run⟩,
 ⟨⟨4, 120, false, none⟩,
  y64,
  [.reg (r 4 22 1), .code (c 4 30)], [], .run⟩],
 ⟨(p 58325), g91⟩,
 []⟩
def k91 : List (IC Blk) := [(c 119 30), (.region (r 56 10 8)), (c 56 14), (.region (r 132 4 1)), (c 132 6), (.region (r 60 4 2)), .ret, (.region (r 16 5270 3)), (c 16 7318), .skip, (c 16 918), (c 16 150), .skip, (c 16 30), (.region (r 4 22 1)), (c 4 30)]
theorem h91 : codesSt s91.fr s91.cs s91.ls = k91 := by kernel_rfl
/-- the memory behind piece 92 -/
def g92 : T Blk := upd [(58879, (ce [(I 2), (I 0)])), (58877, (ce [(I 1), (I 0), q95, (I 2), (I 0), q36, (I 3), (I 0), q37])), (58880, (ce [(U 58877 0 3 3), (U 58879 0 1 2)]))] (del [57667, 57668, 57669, 58324] g91)
/-- the state behind piece 92; its texts -/
def s92 : St :=
⟨⟨⟨56, 300, false, none⟩,
  (n z147 (n (I 0) (n (A 57665 0) (n (I 0) (m (o (A 57665 0)) e) (m (o z149) e)) (m (m (o (I 0)) e) (o (A 57665 3)))) (m (n tt (m (o (A 57665 5)) e) (m (o tt) e)) (m (m (o (A 57665 11)) e) e))) (n (I 0) (m (n (A 58880 0) (m (o z146) e) (m (o z148) e)) (m (m (o (I 0)) e) (o ff))) (n (A 57666 0) (m (m (o (I 15)) e) (o (A 57665 0))) (m (m (o (U 57659 0 1 6)) e) (o z149))))),
  [.code (c 56 14)], [], .run⟩,
 [⟨⟨132, 25, false, none⟩,
  y73,
  [.reg (r 132 4 1), .code (c 132 6)], [], .run⟩,
 ⟨⟨60, 9, false, none⟩,
  y74,
  [.reg (r 60 4 2), .code .ret], [], .run⟩,
 ⟨⟨16, 45, false, none⟩,
  y75,
  [.reg (r 16 5270 3), .code (c 16 7318), .inBlock 1, .code (c 16 918), .inLoop (c 16 150), .inBlock 0, .code (c 16 30)], [], .run⟩,
 ⟨⟨4, 120, false, none⟩,
  y64,
  [.reg (r 4 22 1), .code (c 4 30)], [], .run⟩],
 ⟨(p 58881), g92⟩,
 []⟩
def k92 : List (IC Blk) := [(c 56 14), (.region (r 132 4 1)), (c 132 6), (.region (r 60 4 2)), .ret, (.region (r 16 5270 3)), (c 16 7318), .skip, (c 16 918), (c 16 150), .skip, (c 16 30), (.region (r 4 22 1)), (c 4 30)]
theorem h92 : codesSt s92.fr s92.cs s92.ls = k92 := by kernel_rfl
/-- the memory behind piece 93 -/
def g93 : T Blk := upd [(58883, (ce [(U 57578 0 258 1), ns, (I 0), ff])), (58885, (ce [ns, ns, ns, ns, (I 4), (I 16), ff])), (58884, (ce [ns, ns])), (59540, (ce [(I 7), (I 2), (I 8), (I 2), (I 12), (I 3), (I 13), (I 3), (I 14), (I 3), (I 15), (I 3)])), (58882, (ce [ns, ns]))] (del [58880, 57580, 57660, 58877, 57662, 58879, 57663] g92)
/-- the state behind piece 93; its texts -/
def s93 : St :=
⟨⟨⟨119, 207, false, none⟩,
  (n z146 (n (I 15) (n (I 16) (n (A 58883 0) (n ff (o (I 1)) (o (.tup [(U 59540 0 6 2), tt]))) (m (o (I 16)) e)) (m (m (o tt) (o (U 59540 0 6 2))) (m (o (I 4)) e))) (n (I 0) (m (n (U 59540 0 6 2) (o ff) (o (I 15))) (m (o ff) e)) (m (m (o ff) e) (m (o (.agg [ns, ns, ns, ns, (I 4), (I 16), ff])) e)))) (n (I 4) (n (I 0) (m (n (A 58885 0) (o ff) (o z146)) (m (o ff) e)) (m (m (o ff) (o tt)) (m (o (I 16)) e))) (n (U 57659 0 1 6) (m (n tt (o (I 4)) (o (.tup [(U 59540 0 6 2), tt]))) e) (n (A 58884 0) (m (o ff) e) (n (U 57659 0 1 6) (o (A 58885 0)) e))))),
  [.code (c 119 30)], [], .run⟩,
 [⟨⟨56, 300, false, none⟩,
  (n z147 (n (I 0) (n (A 57665 0) (n (I 0) (m (n (A 57665 0) (o (I 16)) e) (o (I 4))) (m (o z149) (o (A 57665 5)))) (n (A 58881 0) (m (n (I 0) (o (U 57659 0 1 6)) e) (o z147)) (n (A 57665 3) (o ff) (o (I 0))))) (m (n tt (m (n (A 57665 5) (o (I 0)) e) (o ff)) (m (o tt) (o (I 4)))) (m (m (o (A 57665 11)) (o (A 57665 0))) (m (o (A 57665 4)) (o (A 57665 7)))))) (n (I 0) (m (n (A 58880 0) (m (n z146 (o (I 0)) e) (o (I 4))) (m (o z148) (o (I 15)))) (n (A 58882 0) (m (o (I 0)) e) (n ff e (o (I 2))))) (n (A 57666 0) (n (I 4) (m (n (I 15) (o (A 57665 11)) e) e) (n (A 57665 0) (o tt) (o (A 57665 6)))) (m (m (o (U 57659 0 1 6)) (o z146)) (n z149 (o (I 3)) (o (I 14))))))),
  [.reg (r 56 382 21), .code (c 56 510)], [], .run⟩,
 ⟨⟨132, 25, false, none⟩,
  y73,
  [.reg (r 132 4 1), .code (c 132 6)], [], .run⟩,
 ⟨⟨60, 9, false, none⟩,
  y74,
  [.reg (r 60 4 2), .code .ret], [], .run⟩,
 ⟨⟨16, 45, false, none⟩,
  y75,
  [.reg (r 16 5270 3), .code (c 16 7318), .inBlock 1, .code (c 16 918), .inLoop (c 16 150), .inBlock 0, .code (c 16 30)], [], .run⟩,
 ⟨⟨4, 120, false, none⟩,
  y64,
  [.reg (r 4 22 1), .code (c 4 30)], [], .run⟩],
 ⟨(p 59541), g93⟩,
 []⟩
def k93 : List (IC Blk) := [(c 119 30), (.region (r 56 382 21)), (c 56 510), (.region (r 132 4 1)), (c 132 6), (.region (r 60 4 2)), .ret, (.region (r 16 5270 3)), (c 16 7318), .skip, (c 16 918), (c 16 150), .skip, (c 16 30), (.region (r 4 22 1)), (c 4 30)]
theorem h93 : codesSt s93.fr s93.cs s93.ls = k93 := by kernel_rfl
/-- the memory behind piece 94 -/
def g94 : T Blk := upd [(60316, (ce [(U 60314 0 258 1), ns, (I 0), ff, (I 4), (I 19), (I 0), (I 18), (I 1), (I 1), (I 1), (U 57659 0 1 6)])), (60314, (ce [q0, q4, q5, q6, q7, q8, q16, q17, q18, q19, q20, q21, q22, q23, q24, q25, q28, q29, q30, q31, q0, q0, q0, q0, q0, q0, q0, q0, q0, q0, q0, q0, q0, q0, q0, q0, q0, q0, q0, q0, q0, q0, q0, q0, q0, q0, q0, q0, q0, q0, q0, q0, q0, q0, q0, q0, q0, q0, q0, q0, q0, q0, q0, q0, q0, q0, q0, q0, q0, q0, q0, q0, q0, q0, q0, q0, q0, q0, q0, q0, q0, q0, q0, q0, q0, q0, q0, q0, q0, q0, q0, q0, q0, q0, q0, q0, q0, q0, q0, q0, q0, q0, q0, q0, q0, q0, q0, q0, q0, q0, q0, q0, q0, q0, q0, q0, q0, q0, q0, q0, q0, q0, q0, q0, q0, q0, q0, q0, q0, q0, q0, q0, q0, q0, q0, q0, q0, q0, q0, q0, q0, q0, q0, q0, q0, q0, q0, q0, q0, q0, q0, q0, q0, q0, q0, q0, q0, q0, q0, q0, q0, q0, q0, q0, q0, q0, q0, q0, q0, q0, q0, q0, q0, q0, q0, q0, q0, q0, q0, q0, q0, q0, q0, q0, q0, q0, q0, q0, q0, q0, q0, q0, q0, q0, q0, q0, q0, q0, q0, q0, q0, q0, q0, q0, q0, q0, q0, q0, q0, q0, q0, q0, q0, q0, q0, q0, q0, q0, q0, q0, q0, q0, q0, q0, q0, q0, q0, q0, q0, q0, q0, q0, q0, q0, q0, q0, q0, q0, q0, q0, q0, q0, q0, q0, q0, q0, q0, q0, q0, q0, q0, q0, q0, q0, q0, q0, q0, q0]))] (del [57664, 57665, 58882, 57666, 58883, 58884, 58885, 54921, 59540, 57578, 57661, 54846] g93)
/-- the state behind piece 94; its texts -/
def s94 : St :=
⟨⟨⟨16, 45, false, none⟩,
  (n z131 (n (A 52634 0) (n (U 57584 0 9 3) (n (I 0) (n (U 52655 0 9 3) (o (U 57584 0 9 3)) e) (n tt (o (I 0)) e)) (n (.tup [(U 52655 0 9 3), (I 0)]) (n tt (o (U 57584 0 9 3)) e) (n (U 54846 0 9 3) (o z144) e))) (n (I 2) (n z131 (n (I 2) (o z151) e) (n (I 2) (o ff) e)) (n (I 0) (n (I 0) (o z151) e) (o (I 12))))) (n (A 52635 0) (n (I 0) (n (.tup [(U 52655 0 9 3), (I 0)]) (n z132 (o (I 0)) e) (n (I 1) (o (I 0)) e)) (n (U 52655 0 9 3) (n (A 52634 6) (o z147) e) (o (I 2)))) (n (A 60316 0) (n (S 52008 0 9 9) (n tt (o z144) e) (o (.tup [(U 57584 0 9 3), (I 0)]))) (n z131 (n tt (o z150) e) (o (.tup [(U 57584 0 9 3), (I 0)])))))),
  [.code (c 16 7318), .inBlock 1, .code (c 16 918), .inLoop (c 16 150), .inBlock 0, .code (c 16 30)], [], .run⟩,
 [⟨⟨4, 120, false, none⟩,
  y64,
  [.reg (r 4 22 1), .code (c 4 30)], [], .run⟩],
 ⟨(p 60317), g94⟩,
 []⟩
def k94 : List (IC Blk) := [(c 16 7318), .skip, (c 16 918), (c 16 150), .skip, (c 16 30), (.region (r 4 22 1)), (c 4 30)]
theorem h94 : codesSt s94.fr s94.cs s94.ls = k94 := by kernel_rfl
def y76 : T V := (n z153 (n (I 0) (n (A 60401 0) (n (I 0) (m (o (A 60401 0)) e) e) (m (m (o (I 0)) e) (o (A 60401 3)))) (m (m (m (o (A 60401 5)) e) e) (m (m (o (A 60401 11)) e) e))) (n (I 0) (m (m (m (o z152) e) e) (m (m (o (I 0)) e) (o ff))) (n (A 60402 0) (m (m (o (I 19)) e) (o (A 60401 0))) (m (m (o (U 60395 0 1 6)) e) e))))
def y77 : T V := (n z153 (n z153 (o (A 60399 0)) (n (I 0) (o z153) e)) (n (A 60398 0) (o (A 60400 0)) e))
def y78 : T V := (n z153 (n (A 60396 0) (o (I 0)) (o z153)) (n (A 60397 0) (o z153) e))
def y79 : T V := (n z131 (n (A 52634 0) (n (U 60320 0 9 3) (n (I 0) (n (U 52655 0 9 3) (o (U 60320 0 9 3)) e) (n tt (o (I 0)) e)) (n (.tup [(U 52655 0 9 3), (I 0)]) (n tt (o (U 60320 0 9 3)) e) (n (U 57584 0 9 3) (o z150) e))) (n (I 3) (n z131 (n (I 3) (o z151) e) (n (I 3) (o ff) e)) (n (I 0) (n (I 0) (o z151) e) (o (I 13))))) (n (A 52635 0) (n (I 0) (n (.tup [(U 52655 0 9 3), (I 0)]) (n z132 (o (I 0)) e) (n (I 2) (o (I 0)) e)) (n (U 52655 0 9 3) (n (A 52634 6) (o z153) e) (o (I 3)))) (n (A 60316 0) (n (S 52008 0 9 9) (n tt (o z150) e) (o (.tup [(U 60320 0 9 3), (I 0)]))) (n z131 (n tt (o z150) e) (o (.tup [(U 60320 0 9 3), (I 0)]))))))
/-- the memory behind piece 95 -/
def g95 : T Blk := upd [(60399, (ce [(U 60314 0 258 1), ns, (I 0), ff, (I 4), (I 19), (I 0), (I 18), (I 1), (I 1), (I 1), (U 60395 0 1 6)])), (60535, (ce [(I 17), (I 4)])), (60403, (ce [(U 60314 0 258 1), ns, (I 0), ff])), (60875, (ce [(I 1), (I 0), q106, (I 1), (I 1), q2, (I 2), (I 0), q3])), (60395, (ce [(I 1), (I 0), (I 0), (I 0), (I 0), (U 60320 0 9 3)])), (60897, (ce [ff, tt, tt, ff, ff, ff, ff, ff, ff, ff])), (60401, (ce [(U 60314 0 258 1), ns, (I 0), ff, (I 4), (I 19), (I 0), (I 18), (I 1), (I 1), (I 1), (U 60395 0 1 6)])), (60405, (ce [ns, ns, ns, ns, (I 0), (I 0), ff])), (60493, (ce [(I 19), (I 4), (I 18), (I 4)])), (60877, (ce [(I 16), (I 4), (I 7), (I 2), (I 8), (I 2)])), (60397, (ce [ns, ns, (I 0), ff, (I 0), (I 0), (I 0), (I 0), (I 0), (I 0), (I 0), ns])), (60320, (ce [(I 2), (I 13), q2, (I 1), (I 6), q1, (I 0), (I 0), q1, (I 0), (I 0), q1, (I 0), (I 0), q1, (I 0), (I 0), q1, (I 0), (I 0), q1, (I 0), (I 0), q1, (I 0), (I 0), q1])), (60400, (ce [ns, ns, (I 0), ff, (I 0), (I 0), (I 0), (I 0), (I 0), (I 0), (I 0), ns])), (60408, (ce [(I 0), (I 0), ns, ns, ns, ns, ns])), (60404, (ce [ns, ns])), (60396, (ce [(U 60314 0 258 1), ns, (I 0), ff, (I 4), (I 19), (I 0), (I 18), (I 1), (I 1), (I 1), (U 60395 0 1 6)])), (60882, (ce [(I 0), (I 0), (I 1), (I 0), (I 0), (I 0), (I 0), (I 0), (I 0), (I 0)])), (60402, (ce [ns, ns, (I 0), ff, (I 0), (I 0), (I 0), (I 0), (I 0), (I 0), (I 0), ns])), (52634, (ce [(U 60314 0 258 1), ns, (I 0), ff, (I 4), (I 19), (I 0), (I 18), (I 1), (I 1), (I 1), (U 57659 0 1 6)])), (60602, (ce [(I 1), (I 0), (I 0), (I 0), (I 0)])), (60494, (ce [(I 1), (I 1), ns, ns, ns, ns, (U 60493 0 2 2)])), (60878, (ce [(I 2), (I 12), q2, (I 1), (I 6), q1, (I 0), (I 0), q1, (I 0), (I 0), q1, (I 0), (I 0), q1, (I 0), (I 0), q1, (I 0), (I 0), q1, (I 0), (I 0), q1, (I 0), (I 0), q1])), (60398, (ce [(U 60314 0 258 1), ns, (I 0), ff, (I 4), (I 19), (I 0), (I 18), (I 1), (I 1), (I 1), (U 60395 0 1 6)]))] (del [] g94)
/-- the state behind piece 95; its texts -/
def s95 : St :=
⟨⟨⟨90, 180, false, none⟩,
  (n (S 60878 0 9 9) (m (n (S 60882 0 10 10) (n tt (m (n (I 8) (o (U 60885 0 1 2)) (o (I 1))) (n tt (o ff) (o (I 1)))) (n (I 2) (n tt (o (A 60882 2)) (o ff)) (n ff (o (S 60897 0 10 10)) e))) (n (I 2) (n ff (n (A 60878 24) (o (I 2)) (o ns)) (n (.tup [(U 60885 0 1 2), tt]) (o (I 0)) (o (A 60904 0)))) (n (I 9) (n ff (o ff) (o tn)) (n ff (o (I 0)) e)))) (n (A 60896 0) (n (S 60897 0 10 10) (n (I 9) (n (S 60878 0 9 9) (o (A 60885 0)) (o (S 60878 0 9 9))) (n (A 60883 2) (o (A 60889 2)) (o (U 60904 0 1 2)))) (n ff (n (.agg [(I 0), (I 0), q1]) (o (I 6)) (o tn)) (n (U 60885 0 1 2) (o (I 1)) e))) (n (I 0) (n (A 60878 0) (n (A 60896 0) (o (I 0)) (o ns)) (n tt (o ff) (o (I 2)))) (n (I 9) (n tt (o (I 6)) (o ff)) (n (I 1) (o (I 2)) e))))) (n ff (n (I 9) (n (I 1) (n (S 60878 0 9 9) (n (I 9) (o (I 0)) (o (I 2))) (n (.tup [(U 60885 0 1 2), tt]) (o ff) (o (S 60897 0 10 10)))) (n ff (n tt (o (A 60889 1)) (o ff)) (n (I 1) (o (A 60897 1)) e))) (n ns (n (S 60878 0 9 9) (n (.agg [(I 0), (I 0), q1]) (o (A 60882 2)) (o (I 0))) (n (U 60885 0 1 2) (o ff) (o (A 60904 1)))) (n (S 60878 0 9 9) (n tt (o (A 60889 1)) (o tn)) (n (I 0) (o (I 1)) e)))) (n (U 60885 0 1 2) (n (I 1) (n ff (n (I 8) (o (A 60885 1)) (o (I 2))) (n q2 (o q1) (o (I 0)))) (n (S 60882 0 10 10) (n (.agg [(I 0), (I 0), q1]) (o ff) (o tn)) (n (I 1) (o tt) e))) (m (n (A 60878 0) (n (I 0) (o (I 1)) (o (I 0))) (n tt (o (S 60897 0 10 10)) (o (A 60897 2)))) (n ff (n tt (o ff) (o (I 0))) (n (S 60882 0 10 10) (o tt) e)))))),
  [.code (c 90 51979454), .code (c 90 26813630), .inLoop (c 90 10036414), .inBlock 9, .inBlock 8, .code (c 90 468158), .inLoop (c 90 74942), .inBlock 7, .inBlock 6, .code (c 90 7358), .inLoop (c 90 1214), .inBlock 5, .code (c 90 254)], [], .run⟩,
 [⟨⟨195, 80, false, none⟩,
  (n (U 60875 0 3 3) (m (n ff (n (S 60878 0 9 9) (n (I 2) (n (I 3) (o q1) e) (o (u8 6))) (n (I 2) (o (I 2)) (o (I 1)))) (n ff (n (I 2) (n (I 2) (o (A 60878 0)) e) (o (A 60878 3))) (n (I 0) (o (u8 1)) (o (I 1))))) (n (I 3) (n (U 60875 0 3 3) (n (.agg [(I 2), (I 0), q3]) (n (S 60878 0 9 9) (o q2) e) (o (A 60878 3))) (n ff (o (A 60881 2)) (o (S 60878 0 9 9)))) (n (I 3) (n ff (n (S 60878 0 9 9) (o (S 60878 0 9 9)) e) (o (S 60878 0 9 9))) (n (A 60881 2) (o (A 60881 2)) (o (A 60878 0)))))) (n ns (n (S 60878 0 9 9) (n (I 3) (n (A 60875 6) (n ff (o (A 60880 2)) e) (o (I 6))) (n ff (o (I 1)) (o (I 0)))) (n (I 2) (n ff (n (I 1) (o (A 60878 2)) e) (o (A 60878 4))) (n tt (o (I 1)) (o (I 0))))) (n (A 60881 0) (n (I 3) (n (A 60881 0) (n (A 60881 0) (o q2) e) (o (A 60878 3))) (n (A 60881 1) (o q3) (o (A 60880 0)))) (n (U 60875 0 3 3) (n (A 60881 0) (o (A 60881 0)) (o (A 60880 0))) (n q3 (o q3) (o (A 60878 2))))))),
  [.reg (r 195 38 1), .code (c 195 54), .code (c 195 30)], [], .run⟩,
 ⟨⟨123, 134, false, none⟩,
  (n z152 (n (I 19) (m (n tt (n (A 60602 0) (n (.agg [(I 4), (I 4), q10]) (o (U 60447 0 1 2)) (o (U 60875 0 3 3))) (n (U 60447 0 1 2) (o tt) e)) (n (I 19) (m (o tt) e) (m (o (U 60876 0 3 3)) e))) (n (A 60494 0) (n (U 60875 0 3 3) (n (U 60447 0 1 2) (o (I 4)) e) (n (U 60447 0 1 2) (o (.tup [(U 60876 0 3 3), (U 60877 0 3 2), (U 60875 0 3 3), tt])) e)) (n tt (n (A 60441 1) (o (.agg [(I 3), (I 4), q55])) e) (n (I 0) (o tt) e)))) (n ff (n (I 1) (n (U 60876 0 3 3) (n (I 1) (o (A 60447 0)) e) (n (.agg [(I 1), (I 1), ns, ns, ns, ns, (U 60493 0 2 2)]) (o ff) e)) (n (.agg [(I 4), (I 4), q10]) (o (I 1)) (n z152 (o (U 60875 0 3 3)) e))) (n (A 60495 0) (n z32 (n tt (o (.agg [(I 3), (I 4), q55])) e) (n tt (o (U 60535 0 1 2)) e)) (m (n (.agg [(I 19), (I 4)]) (o z2) e) (o (A 60447 0)))))) (n (A 60407 0) (n (A 60408 0) (n (I 1) (n (U 60535 0 1 2) (n (.tup [(I 1), (I 1), (U 60447 0 1 2), tt]) (o (I 0)) e) (n (U 60493 0 2 2) (o tt) e)) (n z32 (n (I 1) (o ff) e) (n z33 (o (U 60877 0 3 2)) e))) (n (I 0) (m (n tt (o z33) e) (n (I 1) (o z152) e)) (n ff (n (I 4) (o (.tup [z2, (U 60535 0 1 2), tt])) e) (n (A 60447 0) (o ff) e)))) (n (A 60441 0) (n (U 60447 0 1 2) (n (U 60877 0 3 2) (n (I 1) (o (A 60447 1)) e) (o (I 0))) (n tt (n (I 19) (o (.tup [z2, (U 60535 0 1 2), tt])) e) (n (U 60447 0 1 2) (o tt) e))) (n tt (n z152 (n ff (o tt) e) (m (o (.tup [(U 60876 0 3 3), (U 60877 0 3 2), (U 60875 0 3 3), tt])) e)) (n (.tup [(I 1), (I 1), (U 60447 0 1 2), tt]) (n (S 60492 0 1 1) (o (U 60535 0 1 2)) e) (o (I 18))))))),
  [.reg (r 123 1565886 1), .code (c 123 2090174), .inBlock 1, .code (c 123 7358), .inLoop (c 123 1214), .inBlock 0, .code (c 123 254)], [], .run⟩,
 ⟨⟨63, 33, false, none⟩,
  (n z152 (n (I 19) (m e (o z152)) (o ff)) (n (A 60406 0) (n ns e (o (I 19))) e)),
  [.reg (r 63 4 2), .code (c 63 6)], [], .run⟩,
 ⟨⟨119, 207, false, none⟩,
  (n z152 (n (I 19) (n (I 0) (n (A 60403 0) (n ff (o (I 1)) e) (m (o (I 0)) e)) (m (m (o tt) e) (m (o (I 0)) e))) (n (I 0) (m (m (o ff) (o (I 19))) (m (o ff) e)) (m (m (o ff) e) (m (o z9) e)))) (n (I 0) (n (I 0) (m (n (A 60405 0) (o ff) (o z152)) (m (o ff) e)) (m (m (o ff) e) (m (o (I 0)) e))) (n (U 60395 0 1 6) (m (m (o (I 0)) e) e) (n (A 60404 0) (m (o ff) e) (n (U 60395 0 1 6) (o (A 60405 0)) e))))),
  [.reg (r 119 22 2), .code (c 119 30)], [], .run⟩,
 ⟨⟨56, 300, false, none⟩,
  y76,
  [.reg (r 56 10 8), .code (c 56 14)], [], .run⟩,
 ⟨⟨132, 25, false, none⟩,
  y77,
  [.reg (r 132 4 1), .code (c 132 6)], [], .run⟩,
 ⟨⟨60, 9, false, none⟩,
  y78,
  [.reg (r 60 4 2), .code .ret], [], .run⟩,
 ⟨⟨16, 45, false, none⟩,
  y79,
  [.reg (r 16 5270 3), .code (c 16 7318), .inBlock 1, .code (c 16 918), .inLoop (c 16 150), .inBlock 0, .code (c 16 30)], [], .run⟩,
 ⟨⟨4, 120, false, none⟩,
  y64,
  [.reg (r 4 22 1), .code (c 4 30)], [], .run⟩],
 ⟨(p 60908), g95⟩,
 []⟩
def k95 : List (IC Blk) := [(c 90 51979454), (c 90 26813630), (c 90 10036414), .skip, .skip, (c 90 468158), (c 90 74942), .skip, .skip, (c 90 7358), (c 90 1214), .skip, (c 90 254), (.region (r 195 38 1)), (c 195 54), (c 195 30), (.region (r 123 1565886 1)), (c 123 2090174), .skip, (c 123 7358), (c 123 1214), .skip, (c 123 254), (.region (r 63 4 2)), (c 63 6), (.region (r 119 22 2)), (c 119 30), (.region (r 56 10 8)), (c 56 14), (.region (r 132 4 1)), (c 132 6), (.region (r 60 4 2)), .ret, (.region (r 16 5270 3)), (c 16 7318), .skip, (c 16 918), (c 16 150), .skip, (c 16 30), (.region (r 4 22 1)), (c 4 30)]
theorem h95 : codesSt s95.fr s95.cs s95.ls = k95 := by kernel_rfl
/-- the memory behind piece 96 -/
def g96 : T Blk := upd [(61281, (ce [(I 7), (I 2), (I 8), (I 2), (I 16), (I 4), (I 17), (I 4), (I 18), (I 4), (I 19), (I 4)])), (60405, (ce [ns, ns, (U 61281 0 6 2), (U 61282 0 6 3), (I 0), (I 0), ff])), (61282, (ce [(I 1), (I 2), q26, (I 1), (I 2), q27, (I 1), (I 4), q95, (I 2), (I 4), q107, (I 3), (I 4), q55, (I 4), (I 4), q10]))] (del [60875, 60877, 60493, 60878, 60494, 60882, 60897, 60403, 60535, 60408, 60602] g95)
/-- the state behind piece 96; its texts -/
def s96 : St :=
⟨⟨⟨119, 207, false, none⟩,
  (n z152 (n (I 19) (n (I 0) (n (A 60403 0) (n ff (n (I 1) (n (A 61060 10) (o tt) e) (o (A 60405 0))) (n (.tup [(U 61060 0 6 2), tt]) (o (A 61060 10)) (o (U 61282 0 6 3)))) (m (n (I 0) (o z32) (o (S 61279 0 1 1))) (n (I 6) (o (A 61060 10)) (o tt)))) (m (n (I 6) (n tt (o (I 5)) (o (U 61060 0 6 2))) (n (U 61060 0 6 2) (o ff) (o (A 60405 3)))) (m (n (I 0) (o tt) (o (A 60405 3))) (n z32 (o tt) (o (I 0)))))) (n (I 0) (m (n (U 61060 0 6 2) (n ff (o (I 19)) (o (A 60405 2))) (n (I 19) (o (I 0)) (o (A 60405 2)))) (m (n ff (o tt) (o (A 60405 0))) (n (I 5) (o (I 0)) e))) (m (n tt (n ff (o (A 61060 11)) (o (A 61060 10))) (n (I 6) (o (I 5)) (o (U 60395 0 1 6)))) (m (n z9 (o (I 5)) (o (.agg [(I 4), (I 4), q10]))) (n (U 61060 0 6 2) (o (A 60405 0)) (o (A 60395 5))))))) (n (I 0) (n (I 0) (m (n (A 60405 0) (n ff (n (A 61060 10) (o ff) e) (o (A 60405 0))) (n z152 (o (I 19)) (o (A 60405 0)))) (m (n ff (o (.agg [(I 4), (I 4), q10])) (o (U 61281 0 6 2))) (n ff (o (I 19)) e))) (m (n (A 61246 0) (n ff (o (A 61060 10)) (o (I 5))) (n tt (o (U 61060 0 6 2)) (o (I 0)))) (m (n (I 0) (o (U 61060 0 6 2)) (o (U 61245 0 5 3))) (n z152 (o tt) (o (A 60395 0)))))) (n (U 60395 0 1 6) (m (n tt (n (I 0) (o (U 61060 0 6 2)) (o (U 61244 0 5 2))) (n (.tup [(U 61060 0 6 2), tt]) (o ff) (o (A 60405 0)))) (m (m (o tt) (o (A 60405 0))) (n (I 6) (o tt) (o (U 60395 0 1 6))))) (n (A 60404 0) (n (I 0) (n ff (o (I 4)) (o (.agg [(I 19), (I 4)]))) (n (U 61060 0 6 2) (o (A 61060 10)) (o (I 1)))) (n (U 60395 0 1 6) (n (A 60405 0) (o (A 61060 10)) (o (S 61280 0 1 1))) (n (I 5) (o (A 60405 0)) (o (U 60320 0 9 3)))))))),
  [.code (c 119 25182), .code (c 119 12894), .inBlock 3, .code (c 119 3678), .inLoop (c 119 606), .inBlock 2, .code (c 119 126)], [], .run⟩,
 [⟨⟨56, 300, false, none⟩,
  y76,
  [.reg (r 56 10 8), .code (c 56 14)], [], .run⟩,
 ⟨⟨132, 25, false, none⟩,
  y77,
  [.reg (r 132 4 1), .code (c 132 6)], [], .run⟩,
 ⟨⟨60, 9, false, none⟩,
  y78,
  [.reg (r 60 4 2), .code .ret], [], .run⟩,
 ⟨⟨16, 45, false, none⟩,
  y79,
  [.reg (r 16 5270 3), .code (c 16 7318), .inBlock 1, .code (c 16 918), .inLoop (c 16 150), .inBlock 0, .code (c 16 30)], [], .run⟩,
 ⟨⟨4, 120, false, none⟩,
  y64,
  [.reg (r 4 22 1), .code (c 4 30)], [], .run⟩],
 ⟨(p 61344), g96⟩,
 []⟩
def k96 : List (IC Blk) := [(c 119 25182), (c 119 12894), .skip, (c 119 3678), (c 119 606), .skip, (c 119 126), (.region (r 56 10 8)), (c 56 14), (.region (r 132 4 1)), (c 132 6), (.region (r 60 4 2)), .ret, (.region (r 16 5270 3)), (c 16 7318), .skip, (c 16 918), (c 16 150), .skip, (c 16 30), (.region (r 4 22 1)), (c 4 30)]
theorem h96 : codesSt s96.fr s96.cs s96.ls = k96 := by kernel_rfl
def y80 : T V := (n z153 (n (I 0) (n (A 60401 0) (n (I 0) (m (n (A 60401 0) (o (I 20)) e) (o (I 5))) (m (o z155) (o (A 60401 5)))) (n (A 61617 0) (m (n (I 0) (o (U 60395 0 1 6)) e) (o z153)) (n (A 60401 3) (o ff) (o (I 0))))) (m (n tt (m (n (A 60401 5) (o (I 0)) e) (o ff)) (m (o tt) (o (I 5)))) (m (m (o (A 60401 11)) (o (A 60401 0))) (m (o (A 60401 4)) (o (A 60401 7)))))) (n (I 0) (m (n (A 61616 0) (m (n z152 (o (I 0)) e) (o (I 5))) (m (o z154) (o (I 19)))) (n (A 61618 0) (m (o (I 0)) e) (n ff e (o (I 2))))) (n (A 60402 0) (n (I 5) (m (n (I 19) (o (A 60401 11)) e) e) (n (A 60401 0) (o tt) (o (A 60401 6)))) (m (m (o (U 60395 0 1 6)) (o z152)) (n z155 (o (I 4)) (o (I 18)))))))
/-- the memory behind piece 97 -/
def g97 : T Blk := upd [(61615, (ce [(I 2), (I 0)])), (61751, (ce [(I 17), (I 4)])), (61619, (ce [(U 60314 0 258 1), ns, (I 0), ff])), (62091, (ce [(I 1), (I 0), q106, (I 1), (I 1), q2, (I 2), (I 0), q3])), (61617, (ce [(U 60314 0 258 1), ns, (I 0), ff, (I 4), (I 19), (I 0), (I 18), (I 1), (I 1), (I 1), (U 60395 0 1 6)])), (61621, (ce [ns, ns, ns, ns, (I 5), (I 20), ff])), (61709, (ce [(I 19), (I 4), (I 18), (I 4)])), (62093, (ce [(I 16), (I 4), (I 7), (I 2), (I 8), (I 2)])), (61613, (ce [(I 1), (I 0), q126, (I 2), (I 0), q36, (I 3), (I 0), q37])), (61616, (ce [(U 61613 0 3 3), (U 61615 0 1 2)])), (61624, (ce [(I 0), (I 0), ns, ns, ns, ns, ns])), (61620, (ce [ns, ns])), (61618, (ce [ns, ns])), (61818, (ce [(I 1), (I 0), (I 0), (I 0), (I 0)])), (61710, (ce [(I 1), (I 1), ns, ns, ns, ns, (U 61709 0 2 2)]))] (del [61281, 61282, 60404, 60405] g96)
/-- the state behind piece 97; its texts -/
def s97 : St :=
⟨⟨⟨123, 134, false, none⟩,
  (n z152 (n (I 19) (m (n tt (n (A 61818 0) (n (.agg [(I 4), (I 4), q10]) (o (U 61663 0 1 2)) e) (n (U 61663 0 1 2) (o tt) e)) (n (I 19) (m (o tt) e) (m (o (U 62092 0 3 3)) e))) (n (A 61710 0) (n (U 62091 0 3 3) (n (U 61663 0 1 2) (o (I 4)) e) (n (U 61663 0 1 2) (o (.tup [(U 62092 0 3 3), (U 62093 0 3 2), (U 62091 0 3 3), tt])) e)) (n tt (n (A 61657 1) (o (.agg [(I 3), (I 4), q55])) e) (o (I 0))))) (n ff (n (I 1) (n (U 62092 0 3 3) (n (I 1) (o (A 61663 0)) e) (n (.agg [(I 1), (I 1), ns, ns, ns, ns, (U 61709 0 2 2)]) (o ff) e)) (n (.agg [(I 4), (I 4), q10]) (o (I 1)) (n z152 (o (U 62091 0 3 3)) e))) (n (A 61711 0) (n z32 (n tt (o (.agg [(I 3), (I 4), q55])) e) (n tt (o (U 61751 0 1 2)) e)) (m (n (.agg [(I 19), (I 4)]) (o z2) e) (o (A 61663 0)))))) (n (A 61623 0) (n (A 61624 0) (n (I 1) (n (U 61751 0 1 2) (n (.tup [(I 1), (I 1), (U 61663 0 1 2), tt]) (o (I 0)) e) (n (U 61709 0 2 2) (o tt) e)) (n z32 (n (I 1) (o ff) e) (n z33 (o (U 62093 0 3 2)) e))) (n (I 0) (m (n tt (o z33) e) (n (I 1) (o z152) e)) (n ff (n (I 4) (o (.tup [z2, (U 61751 0 1 2), tt])) e) (o (A 61663 0))))) (n (A 61657 0) (n (U 61663 0 1 2) (n (U 62093 0 3 2) (n (I 1) (o (A 61663 1)) e) (o (I 0))) (n tt (n (I 19) (o (.tup [z2, (U 61751 0 1 2), tt])) e) (n (U 61663 0 1 2) (o tt) e))) (n tt (n z152 (n ff (o tt) e) (m (o (.tup [(U 62092 0 3 3), (U 62093 0 3 2), (U 62091 0 3 3), tt])) e)) (n (.tup [(I 1), (I 1), (U 61663 0 1 2), tt]) (n (S 61708 0 1 1) (o (U 61751 0 1 2)) e) (o (I 18))))))),
  [.code (c 123 517310), .inBlock 1, .code (c 123 7358), .inLoop (c 123 1214), .inBlock 0, .code (c 123 254)], [], .run⟩,
 [⟨⟨63, 33, false, none⟩,
  (n z152 (n (I 19) (m e (o z152)) (o ff)) (n (A 61622 0) (n ns e (o (I 19))) e)),
  [.reg (r 63 4 2), .code (c 63 6)], [], .run⟩,
 ⟨⟨119, 207, false, none⟩,
  (n z152 (n (I 19) (n (I 20) (n (A 61619 0) (n ff (o (I 1)) e) (m (o (I 20)) e)) (m (m (o tt) e) (m (o (I 5)) e))) (n (I 0) (m (m (o ff) (o (I 19))) (m (o ff) e)) (m (m (o ff) e) (m (o z35) e)))) (n (I 5) (n (I 0) (m (n (A 61621 0) (o ff) (o z152)) (m (o ff) e)) (m (m (o ff) e) (m (o (I 20)) e))) (n (U 60395 0 1 6) (m (m (o (I 5)) e) e) (n (A 61620 0) (m (o ff) e) (n (U 60395 0 1 6) (o (A 61621 0)) e))))),
  [.reg (r 119 22 2), .code (c 119 30)], [], .run⟩,
 ⟨⟨56, 300, false, none⟩,
  y80,
  [.reg (r 56 382 21), .code (c 56 510)], [], .run⟩,
 ⟨⟨132, 25, false, none⟩,
  y77,
  [.reg (r 132 4 1), .code (c 132 6)], [], .run⟩,
 ⟨⟨60, 9, false, none⟩,
  y78,
  [.reg (r 60 4 2), .code .ret], [], .run⟩,
 ⟨⟨16, 45, false, none⟩,
  y79,
  [.reg (r 16 5270 3), .code (c 16 7318), .inBlock 1, .code (c 16 918), .inLoop (c 16 150), .inBlock 0, .code (c 16 30)], [], .run⟩,
 ⟨⟨4, 120, false, none⟩,
  y64,
  [.reg (r 4 22 1), .code (c 4 30)], [], .run⟩],
 ⟨(p 62094), g97⟩,
 []⟩
def k97 : List (IC Blk) := [(c 123 517310), .skip, (c 123 7358), (c 123 1214), .skip, (c 123 254), (.region (r 63 4 2)), (c 63 6), (.region (r 119 22 2)), (c 119 30), (.region (r 56 382 21)), (c 56 510), (.region (r 132 4 1)), (c 132 6), (.region (r 60 4 2)), .ret, (.region (r 16 5270 3)), (c 16 7318), .skip, (c 16 918), (c 16 150), .skip, (c 16 30), (.region (r 4 22 1)), (c 4 30)]
theorem h97 : codesSt s97.fr s97.cs s97.ls = k97 := by kernel_rfl
/-- the memory behind piece 98 -/
def g98 : T Blk := upd [(62497, (ce [(I 7), (I 2), (I 8), (I 2), (I 16), (I 4), (I 17), (I 4), (I 18), (I 4), (I 19), (I 4)])), (61621, (ce [ns, ns, (U 62497 0 6 2), (U 62498 0 6 3), (I 5), (I 20), ff])), (62498, (ce [(I 1), (I 2), q26, (I 1), (I 2), q27, (I 1), (I 4), q95, (I 2), (I 4), q107, (I 3), (I 4), q55, (I 4), (I 4), q10]))] (del [62091, 62093, 61709, 61710, 60316, 60396, 61613, 60398, 61615, 60399, 61616, 57584, 61617, 61619, 61751, 61624, 61818, 57659] g97)
/-- the state behind piece 98; its texts -/
def s98 : St :=
⟨⟨⟨119, 207, false, none⟩,
  (n z152 (n (I 19) (n (I 20) (n (A 61619 0) (n ff (n (I 1) (n (A 62276 10) (o tt) e) (o (A 61621 0))) (n (.tup [(U 62276 0 6 2), tt]) (o (A 62276 10)) (o (U 62498 0 6 3)))) (m (n (I 20) (o z32) (o (S 62495 0 1 1))) (n (I 6) (o (A 62276 10)) (o tt)))) (m (n (I 6) (n tt (o (I 5)) (o (U 62276 0 6 2))) (n (U 62276 0 6 2) (o ff) (o (A 61621 3)))) (m (n (I 5) (o tt) (o (A 61621 3))) (n z32 (o tt) (o (I 0)))))) (n (I 0) (m (n (U 62276 0 6 2) (n ff (o (I 19)) (o (A 61621 2))) (n (I 19) (o (I 0)) (o (A 61621 2)))) (m (n ff (o tt) (o (A 61621 0))) (n (I 5) (o (I 0)) e))) (m (n tt (n ff (o (A 62276 11)) (o (A 62276 10))) (n (I 6) (o (I 5)) (o (U 60395 0 1 6)))) (m (n z35 (o (I 5)) (o (.agg [(I 4), (I 4), q10]))) (n (U 62276 0 6 2) (o (A 61621 0)) (o (A 60395 5))))))) (n (I 5) (n (I 0) (m (n (A 61621 0) (n ff (n (A 62276 10) (o ff) e) (o (A 61621 0))) (n z152 (o (I 19)) (o (A 61621 0)))) (m (n ff (o (.agg [(I 4), (I 4), q10])) (o (U 62497 0 6 2))) (n ff (o (I 19)) e))) (m (n (A 62462 0) (n ff (o (A 62276 10)) (o (I 5))) (n tt (o (U 62276 0 6 2)) (o (I 0)))) (m (n (I 20) (o (U 62276 0 6 2)) (o (U 62461 0 5 3))) (n z152 (o tt) (o (A 60395 0)))))) (n (U 60395 0 1 6) (m (n tt (n (I 5) (o (U 62276 0 6 2)) (o (U 62460 0 5 2))) (n (.tup [(U 62276 0 6 2), tt]) (o ff) (o (A 61621 0)))) (m (m (o tt) (o (A 61621 0))) (n (I 6) (o tt) (o (U 60395 0 1 6))))) (n (A 61620 0) (n (I 0) (n ff (o (I 4)) (o (.agg [(I 19), (I 4)]))) (n (U 62276 0 6 2) (o (A 62276 10)) (o (I 1)))) (n (U 60395 0 1 6) (n (A 61621 0) (o (A 62276 10)) (o (S 62496 0 1 1))) (n (I 5) (o (A 61621 0)) (o (U 60320 0 9 3)))))))),
  [.code (c 119 25182), .code (c 119 12894), .inBlock 3, .code (c 119 3678), .inLoop (c 119 606), .inBlock 2, .code (c 119 126)], [], .run⟩,
 [⟨⟨56, 300, false, none⟩,
  y80,
  [.reg (r 56 382 21), .code (c 56 510)], [], .run⟩,
 ⟨⟨132, 25, false, none⟩,
  y77,
  [.reg (r 132 4 1), .code (c 132 6)], [], .run⟩,
 ⟨⟨60, 9, false, none⟩,
  y78,
  [.reg (r 60 4 2), .code .ret], [], .run⟩,
 ⟨⟨16, 45, false, none⟩,
  y79,
  [.reg (r 16 5270 3), .code (c 16 7318), .inBlock 1, .code (c 16 918), .inLoop (c 16 150), .inBlock 0, .code (c 16 30)], [], .run⟩,
 ⟨⟨4, 120, false, none⟩,
  y64,
  [.reg (r 4 22 1), .code (c 4 30)], [], .run⟩],
 ⟨(p 62560), g98⟩,
 []⟩
def k98 : List (IC Blk) := [(c 119 25182), (c 119 12894), .skip, (c 119 3678), (c 119 606), .skip, (c 119 126), (.region (r 56 382 21)), (c 56 510), (.region (r 132 4 1)), (c 132 6), (.region (r 60 4 2)), .ret, (.region (r 16 5270 3)), (c 16 7318), .skip, (c 16 918), (c 16 150), .skip, (c 16 30), (.region (r 4 22 1)), (c 4 30)]
theorem h98 : codesSt s98.fr s98.cs s98.ls = k98 := by kernel_rfl
end
end Go.Proofs.YtgmnkagomhadcaaGreat.cleanForms
