/- The states between the pieces of the run of 'playForms', part 1. -/
import Derived.Test.YtdaojpbjbfbnaaaGreatDoorPlayFormsD0
namespace Go.Proofs.YtdaojpbjbfbnaaaGreatDoor.playForms
open Go.Ev Go.Ev.Lit
set_option maxRecDepth 100000
noncomputable section
def y41 : T V := (n (A 29067 0) (n (I 3) (n (I 0) (m (n (A 29067 0) (o (A 29067 11)) e) (o (I 12))) (n (A 31382 0) (o (A 29067 0)) (o (I 0)))) (m (m (o (A 29067 0)) (o (I 13))) (m (o (A 29067 0)) (o (A 29067 0))))) (n (I 13) (n (I 0) (m (n (A 29067 0) (o (U 29064 0 1 6)) e) (o (I 3))) (m (o (A 29067 0)) (o (A 29067 0)))) (m (n (A 31381 0) (o z92) (o (I 0))) (n (A 29067 0) (o (A 29067 5)) (o (A 29067 0))))))
def y42 : T V := (n (A 29067 0) (n (I 0) (m (n (A 31380 0) (n (A 29067 3) (o (A 29067 0)) e) (n (A 29067 0) (o (A 29067 0)) e)) (n (A 29067 0) (n (I 0) (o (A 29067 0)) e) (n (I 3) (o (I 11)) e))) (m (m (n tn (o (A 29067 0)) e) (n (A 29067 4) (o (A 29067 0)) e)) (n (A 29067 0) (n (.agg [ns, (U 31379 0 1 2)]) (o (I 0)) e) (n ff (o (I 0)) e)))) (n (I 0) (m (m (n ff (o (I 3)) e) (n (A 29067 0) (o (A 29067 0)) e)) (n (A 29067 0) (n (I 0) (o (A 29067 6)) e) (n (I 3) (o (I 13)) e))) (n (I 3) (m (n (A 29067 0) (o (A 29067 0)) e) (n (I 2) (o (A 29067 7)) e)) (n (A 29067 0) (n (A 29067 0) (o (I 2)) e) (n tn (o (I 0)) e)))))
/-- the memory behind piece 25 -/
def g25 : T Blk := upd [(31391, (ce [ff])), (32143, (ce [(U 31778 0 3 3)])), (31383, (ce [(U 29062 0 258 1), ns, (I 1), ff])), (31379, (ce [(I 10), (I 2)])), (32147, (ce [(S 31960 0 9 9)])), (31387, (ce [(U 29062 0 258 1), ns, (I 1), ff])), (31385, (.map [] 0)), (31381, (ce [ns, ns])), (31392, (ce [(U 29062 0 258 1), ns, (I 1), ff, (I 2), (I 1), (U 32142 0 1 5), (U 32143 0 1 1), (U 32146 0 1 1), (U 32147 0 1 1), (U 31940 0 6 2)])), (31384, (ce [ns, ns])), (31960, (ce [(I 2), (I 7), q8, (I 1), (I 6), q1, (I 0), (I 0), q1, (I 0), (I 0), q1, (I 0), (I 0), q1, (I 0), (I 0), q1, (I 0), (I 0), q1, (I 0), (I 0), q1, (I 0), (I 0), q1])), (31940, (ce [(I 12), (I 2), (I 10), (I 2), (I 9), (I 2), (I 6), (I 2), (I 7), (I 2), (I 8), (I 2)])), (31380, (ce [ns, ns])), (32146, (ce [(U 31779 0 3 2)])), (31386, (ce [ns, ns, (I 3), (I 13), (.map (p 31385)), ff])), (31382, (ce [ns, ns])), (32142, (ce [(I 1), (I 0), (I 0), (I 0), (I 0)])), (31438, (ce [(I 10), (I 2), (I 11), (I 2)])), (31390, (ce [(A 31392 0)]))] (del [29069, 29070, 29072, 29073, 29074] g24)
/-- the state behind piece 25; its texts -/
def s25 : St :=
⟨⟨⟨235, 42, false, none⟩,
  (n (A 31392 0) (n (I 12) (m (n tt (n (.tup [(I 2), (I 1), (U 31438 0 2 2), tt]) (o (A 31392 5)) e) (n (A 31392 0) (o (.agg [(I 10), (I 2)])) e)) (n (A 31392 0) (n tt (o tt) e) (o (A 31392 4)))) (n (I 1) (n (A 31509 0) (n (I 1) (o (I 2)) e) (o (I 1))) (n z91 (n tn (o (.agg [(I 10), (I 2)])) e) (o (A 31392 0))))) (m (n (I 2) (m (n (I 2) (o (U 31438 0 2 2)) e) (n (I 2) (o tn) e)) (n (I 12) (n tt (o (A 31438 0)) e) (o (A 31392 4)))) (n (U 31438 0 2 2) (n (.tup [(I 2), (I 1), (U 31438 0 2 2), tt]) (n (U 31438 0 2 2) (o (I 0)) e) (o (A 31392 0))) (n (.agg [(I 4), (I 2), q25]) (n (A 31392 0) (o (A 31392 0)) e) (o (A 31392 4)))))),
  [.inBlock 1, .code (c 235 974), .inLoop (c 235 78), .inBlock 0], [], .run⟩,
 [⟨⟨201, 14, false, none⟩,
  (n z92 (n (I 12) (m (o z92) (o (I 12))) (n (A 31391 0) (o (A 31392 0)) e)) (n (A 31389 0) (n (A 31390 0) (o z93) e) (n (.fn 234 [(A 31390 0), (A 31391 0)]) (o (A 31392 0)) e))),
  [.reg (r 201 22 2), .code (c 201 30)], [.call 234 [(A 31390 0), (A 31391 0)]], .run⟩,
 ⟨⟨156, 24, false, none⟩,
  (n z92 (n (I 12) (m e (o (I 12))) (o ff)) (n (A 31388 0) (o ns) (m (o z92) e))),
  [.reg (r 156 4 2), .code (c 156 6)], [], .run⟩,
 ⟨⟨228, 83, false, none⟩,
  (n (A 31386 0) (n z92 (n (I 0) (m e (o (I 12))) e) e) (n (I 12) (o (I 0)) (n (A 31387 0) e (m (o z92) e)))),
  [.reg (r 228 4 2), .code (c 228 6)], [], .run⟩,
 ⟨⟨185, 70, false, none⟩,
  (n z92 (n (I 12) (n (I 13) (n (A 31383 0) (n ff (o (I 13)) e) (n (I 3) (o (A 31386 0)) e)) (m (n (U 29064 0 1 6) (o (I 3)) e) (n (I 3) (o (I 0)) e))) (n (I 0) (m (m (o ff) e) (n ff (o z92) e)) (m (n ff (o (.map (p 31385))) e) (o ff)))) (n (I 3) (n (I 0) (m (n (A 31386 0) (o ff) e) (n ff (o (A 31386 0)) e)) (m (n (I 1) (o (I 13)) e) (n ff (o (I 0)) e))) (n (U 29064 0 1 6) (m e (n ff (o (I 12)) e)) (n (A 31384 0) (n ff (o (.agg [ns, ns, (I 3), (I 13), (.map (p 31385)), ff])) e) (o ff))))),
  [.reg (r 185 22 5), .code (c 185 30)], [], .run⟩,
 ⟨⟨136, 40, false, none⟩,
  y41,
  [.reg (r 136 4 20), .code (c 136 6)], [], .run⟩,
 ⟨⟨75, 164, false, none⟩,
  y42,
  [.reg (r 75 46 19), .code (c 75 62)], [], .run⟩,
 ⟨⟨36, 22, false, none⟩,
  y34,
  [.reg (r 36 22 3), .code (c 36 30)], [.call 74 [(A 29056 0), (A 29057 0), (A 29058 0), (A 29068 0)]], .run⟩,
 ⟨⟨17, 8, false, none⟩,
  y35,
  [.reg (r 17 4 1), .code .ret], [], .run⟩,
 ⟨⟨49, 31, false, none⟩,
  y36,
  [.reg (r 49 4 4), .code (c 49 6)], [], .run⟩,
 ⟨⟨21, 31, false, none⟩,
  y37,
  [.reg (r 21 94 1), .code .ret], [], .run⟩,
 ⟨⟨11, 135, false, none⟩,
  y38,
  [.reg (r 11 1532 11), .inBlock 0], [], .run⟩,
 ⟨⟨6, 43, false, none⟩,
  y39,
  [.reg (r 6 46 1), .code (c 6 62)], [], .run⟩,
 ⟨⟨3, 107, false, none⟩,
  y40,
  [.reg (r 3 17598 7), .code (c 3 25790), .inBlock 1, .code (c 3 7358), .inLoop (c 3 1214), .inBlock 0, .code (c 3 254)], [], .run⟩],
 ⟨(p 32148), g25⟩,
 []⟩
def k25 : List (IC Blk) := [.skip, (c 235 974), (c 235 78), .skip, (.region (r 201 22 2)), (c 201 30), (.region (r 156 4 2)), (c 156 6), (.region (r 228 4 2)), (c 228 6), (.region (r 185 22 5)), (c 185 30), (.region (r 136 4 20)), (c 136 6), (.region (r 75 46 19)), (c 75 62), (.region (r 36 22 3)), (c 36 30), (.region (r 17 4 1)), .ret, (.region (r 49 4 4)), (c 49 6), (.region (r 21 94 1)), .ret, (.region (r 11 1532 11)), .skip, (.region (r 6 46 1)), (c 6 62), (.region (r 3 17598 7)), (c 3 25790), .skip, (c 3 7358), (c 3 1214), .skip, (c 3 254)]
theorem h25 : codesSt s25.fr s25.cs s25.ls = k25 := by kernel_rfl
/-- the memory behind piece 26 -/
def g26 : T Blk := upd [(31385, (.map [((.agg [(I 1), q29]), (.agg [(I 6), (I 2)]), 0), ((.agg [(I 1), q30]), (.agg [(I 7), (I 2)]), 1), ((.agg [(I 1), q31]), (.agg [(I 8), (I 2)]), 2), ((.agg [(I 2), q44]), (.agg [(I 9), (I 2)]), 3), ((.agg [(I 3), q39]), (.agg [(I 10), (I 2)]), 4), ((.agg [(I 3), q45]), (.agg [(I 11), (I 2)]), 5), ((.agg [(I 4), q25]), (.agg [(I 12), (I 2)]), 6)] 7))] (del [32142, 32143, 32146, 32147, 31383, 31387, 31390, 31391, 31392, 31940, 31438, 31960] g25)
/-- the state behind piece 26; its texts -/
def s26 : St :=
⟨⟨⟨185, 70, false, none⟩,
  (n z92 (n (I 12) (n (I 13) (n (A 31383 0) (n ff (o (I 13)) e) (n (I 3) (o (A 31386 0)) e)) (m (n (U 29064 0 1 6) (o (I 3)) e) (n (I 3) (o (I 0)) e))) (n (I 0) (m (m (o ff) e) (n ff (o z92) e)) (m (n ff (o (.map (p 31385))) e) (n ff (o tn) e)))) (n (I 3) (n (I 0) (m (n (A 31386 0) (o ff) e) (n ff (o (A 31386 0)) e)) (m (n (I 1) (o (I 13)) e) (n ff (o (I 0)) e))) (n (U 29064 0 1 6) (m e (n ff (o (I 12)) e)) (n (A 31384 0) (n ff (o (.agg [ns, ns, (I 3), (I 13), (.map (p 31385)), ff])) e) (o ff))))),
  [.code (c 185 30)], [], .run⟩,
 [⟨⟨136, 40, false, none⟩,
  y41,
  [.reg (r 136 4 20), .code (c 136 6)], [], .run⟩,
 ⟨⟨75, 164, false, none⟩,
  y42,
  [.reg (r 75 46 19), .code (c 75 62)], [], .run⟩,
 ⟨⟨36, 22, false, none⟩,
  y34,
  [.reg (r 36 22 3), .code (c 36 30)], [.call 74 [(A 29056 0), (A 29057 0), (A 29058 0), (A 29068 0)]], .run⟩,
 ⟨⟨17, 8, false, none⟩,
  y35,
  [.reg (r 17 4 1), .code .ret], [], .run⟩,
 ⟨⟨49, 31, false, none⟩,
  y36,
  [.reg (r 49 4 4), .code (c 49 6)], [], .run⟩,
 ⟨⟨21, 31, false, none⟩,
  y37,
  [.reg (r 21 94 1), .code .ret], [], .run⟩,
 ⟨⟨11, 135, false, none⟩,
  y38,
  [.reg (r 11 1532 11), .inBlock 0], [], .run⟩,
 ⟨⟨6, 43, false, none⟩,
  y39,
  [.reg (r 6 46 1), .code (c 6 62)], [], .run⟩,
 ⟨⟨3, 107, false, none⟩,
  y40,
  [.reg (r 3 17598 7), .code (c 3 25790), .inBlock 1, .code (c 3 7358), .inLoop (c 3 1214), .inBlock 0, .code (c 3 254)], [], .run⟩],
 ⟨(p 33162), g26⟩,
 []⟩
def k26 : List (IC Blk) := [(c 185 30), (.region (r 136 4 20)), (c 136 6), (.region (r 75 46 19)), (c 75 62), (.region (r 36 22 3)), (c 36 30), (.region (r 17 4 1)), .ret, (.region (r 49 4 4)), (c 49 6), (.region (r 21 94 1)), .ret, (.region (r 11 1532 11)), .skip, (.region (r 6 46 1)), (c 6 62), (.region (r 3 17598 7)), (c 3 25790), .skip, (c 3 7358), (c 3 1214), .skip, (c 3 254)]
theorem h26 : codesSt s26.fr s26.cs s26.ls = k26 := by kernel_rfl
/-- the memory behind piece 27 -/
def g27 : T Blk := upd [(33695, (ce [(I 0), (I 0), ns, ns, ns, ns])), (34247, (ce [(I 12), (I 2), (I 10), (I 2), (I 9), (I 2), (I 6), (I 2), (I 7), (I 2), (I 8), (I 2)])), (33699, (ce [(U 29062 0 258 1), ns, (I 1), ff, (I 2), (I 1), (U 34449 0 1 5), (U 34450 0 1 1), (U 34453 0 1 1), (U 34454 0 1 1), (U 34247 0 6 2)])), (33691, (ce [(I 10), (I 2)])), (34267, (ce [(I 2), (I 7), q8, (I 1), (I 6), q1, (I 0), (I 0), q1, (I 0), (I 0), q1, (I 0), (I 0), q1, (I 0), (I 0), q1, (I 0), (I 0), q1, (I 0), (I 0), q1, (I 0), (I 0), q1])), (33697, (ce [(A 33699 0)])), (34449, (ce [(I 1), (I 0), (I 0), (I 0), (I 0)])), (33745, (ce [(I 10), (I 2), (I 11), (I 2)])), (34453, (ce [(U 34086 0 3 2)])), (33693, (ce [(I 0), (I 0), ns, ns, ns, ns])), (31380, (ce [ns, (U 33691 0 1 2)])), (33692, (ce [ns, (U 33691 0 1 2)])), (33698, (ce [ff])), (34450, (ce [(U 34085 0 3 3)])), (34454, (ce [(S 34267 0 9 9)]))] (del [28934, 29064, 28945, 31379, 28947, 31381, 28949, 31382, 28951, 31384, 31385, 31386, 28957, 28959, 28961, 28963, 28968, 28969, 28978, 28980, 28982, 28984, 28999, 29018, 29052, 29054] g26)
/-- the state behind piece 27; its texts -/
def s27 : St :=
⟨⟨⟨235, 42, false, none⟩,
  (n (A 33699 0) (n (I 12) (m (n tt (n (.tup [(I 2), (I 1), (U 33745 0 2 2), tt]) (o (A 33699 5)) e) (n (A 33699 0) (o (.agg [(I 10), (I 2)])) e)) (n (A 33699 0) (n tt (o tt) e) (o (A 33699 4)))) (n (I 1) (n (A 33816 0) (n (I 1) (o (I 2)) e) (o (I 1))) (n z91 (n tn (o (.agg [(I 10), (I 2)])) e) (o (A 33699 0))))) (m (n (I 2) (m (n (I 2) (o (U 33745 0 2 2)) e) (n (I 2) (o tn) e)) (n (I 12) (n tt (o (A 33745 0)) e) (o (A 33699 4)))) (n (U 33745 0 2 2) (n (.tup [(I 2), (I 1), (U 33745 0 2 2), tt]) (n (U 33745 0 2 2) (o (I 0)) e) (o (A 33699 0))) (n (.agg [(I 4), (I 2), q25]) (n (A 33699 0) (o (A 33699 0)) e) (o (A 33699 4)))))),
  [.inBlock 1, .code (c 235 974), .inLoop (c 235 78), .inBlock 0], [], .run⟩,
 [⟨⟨201, 14, false, none⟩,
  (n z92 (n (I 12) (m (o z92) (o (I 12))) (n (A 33698 0) (o (A 33699 0)) e)) (n (A 33696 0) (n (A 33697 0) (o z93) e) (n (.fn 234 [(A 33697 0), (A 33698 0)]) (o (A 33699 0)) e))),
  [.reg (r 201 22 2), .code (c 201 30)], [.call 234 [(A 33697 0), (A 33698 0)]], .run⟩,
 ⟨⟨168, 19, false, none⟩,
  (n z92 (n (I 12) e (n ff (o z92) e)) (n (A 33694 0) (o (A 33695 0)) (m (o (I 12)) e))),
  [.reg (r 168 4 2), .code (c 168 6)], [], .run⟩,
 ⟨⟨137, 72, false, none⟩,
  (n (A 29067 0) (n (.agg [ns, (U 33691 0 1 2)]) (n (A 33692 0) (m (o (A 29067 0)) e) (m (o (A 29067 0)) e)) (n (A 33693 0) (m (o (A 29067 0)) e) (n (A 29067 0) (o (I 12)) e))) (m (n ff (m (o z92) e) (n (A 29067 0) (o (A 29067 5)) e)) (m (m (o (A 29067 0)) e) (o (A 29067 0))))),
  [.reg (r 137 8 11), .code (c 137 12), .code (c 137 6)], [], .run⟩,
 ⟨⟨75, 164, false, none⟩,
  (n (A 29067 0) (n (I 0) (m (n (A 31380 0) (n (A 29067 3) (n (A 29067 0) (o tt) e) (o (.agg [ns, (U 33691 0 1 2)]))) (n (A 29067 0) (o (A 29067 0)) (o ff))) (n (A 29067 0) (n (I 0) (o (A 29067 0)) (o (A 29067 5))) (n (I 3) (o (I 11)) (o (A 29067 5))))) (m (m (n tn (n (A 29067 0) (o (A 29067 0)) e) (o (A 29067 0))) (n (A 29067 4) (o (A 29067 0)) (o (A 29067 0)))) (n (A 29067 0) (n (.agg [ns, (U 31379 0 1 2)]) (o (I 0)) (o (I 0))) (n ff (o (I 0)) (o (I 0)))))) (n (I 0) (m (m (n ff (n (I 3) (o tt) e) (o (A 29067 0))) (n (A 29067 0) (o (A 29067 0)) (o (A 29067 0)))) (n (A 29067 0) (n (I 0) (o (A 29067 6)) (o (I 12))) (n (I 3) (o (I 13)) (o (I 12))))) (n (I 3) (m (n (A 29067 0) (n (A 29067 0) (o (.agg [ns, (U 33691 0 1 2)])) e) (o (A 29067 0))) (n (I 2) (o (A 29067 7)) (o (A 29067 0)))) (n (A 29067 0) (n (A 29067 0) (o (I 2)) (o ff)) (n tn (o (I 0)) (o tt)))))),
  [.reg (r 75 158 19), .code (c 75 222), .code (c 75 126)], [], .run⟩,
 ⟨⟨36, 22, false, none⟩,
  y34,
  [.reg (r 36 22 3), .code (c 36 30)], [.call 74 [(A 29056 0), (A 29057 0), (A 29058 0), (A 29068 0)]], .run⟩,
 ⟨⟨17, 8, false, none⟩,
  y35,
  [.reg (r 17 4 1), .code .ret], [], .run⟩,
 ⟨⟨49, 31, false, none⟩,
  y36,
  [.reg (r 49 4 4), .code (c 49 6)], [], .run⟩,
 ⟨⟨21, 31, false, none⟩,
  y37,
  [.reg (r 21 94 1), .code .ret], [], .run⟩,
 ⟨⟨11, 135, false, none⟩,
  y38,
  [.reg (r 11 1532 11), .inBlock 0], [], .run⟩,
 ⟨⟨6, 43, false, none⟩,
  y39,
  [.reg (r 6 46 1), .code (c 6 62)], [], .run⟩,
 ⟨⟨3, 107, false, none⟩,
  y40,
  [.reg (r 3 17598 7), .code (c 3 25790), .inBlock 1, .code (c 3 7358), .inLoop (c 3 1214), .inBlock 0, .code (c 3 254)], [], .run⟩],
 ⟨(p 34455), g27⟩,
 []⟩
def k27 : List (IC Blk) := [.skip, (c 235 974), (c 235 78), .skip, (.region (r 201 22 2)), (c 201 30), (.region (r 168 4 2)), (c 168 6), (.region (r 137 8 11)), (c 137 12), (c 137 6), (.region (r 75 158 19)), (c 75 222), (c 75 126), (.region (r 36 22 3)), (c 36 30), (.region (r 17 4 1)), .ret, (.region (r 49 4 4)), (c 49 6), (.region (r 21 94 1)), .ret, (.region (r 11 1532 11)), .skip, (.region (r 6 46 1)), (c 6 62), (.region (r 3 17598 7)), (c 3 25790), .skip, (c 3 7358), (c 3 1214), .skip, (c 3 254)]
theorem h27 : codesSt s27.fr s27.cs s27.ls = k27 := by kernel_rfl
def y43 : T V := (n (A 35485 0) (m (n (A 35485 0) (m (o ff) (m (n ff (o ff) e) (n ff (o ff) e))) (n ff (m (m (m (o tt) e) e) (m (o ff) e)) (n ff e (m (o ff) e)))) (n (A 35485 25) (o ff) (m (m (m (m (o (A 35485 0)) e) (o ff)) e) e))) (n (A 35485 0) (n (A 35485 25) (m (o ff) e) (n ff (m (m (m (o tt) e) e) e) e)) (n (I 20) (n ff (m e (m (o ff) e)) (n ff e (m (o ff) e))) (m (m (n ff (o ff) (o ff)) (n ff (o ff) e)) e))))
def y44 : T V := (n z105 (n z34 (n (A 35454 0) (n z105 (n ff (o z106) e) (o (A 35454 1))) (n ff (o (I 0)) e)) (n (A 35456 0) (n (A 35454 0) (n ff (o (A 35485 0)) e) (o ff)) (n (A 35454 0) (o ff) (o z107)))) (n (A 35453 0) (n (A 35455 0) (n z107 (n ff (o (A 35485 0)) e) (o (I 0))) (n ff (o ff) e)) (n (A 35485 0) (n (I 20) (o (A 35454 1)) (o ff)) (n (I 20) (o ff) (o z34)))))
def y45 : T V := (n ff (n (A 6908 0) (n (S 6909 0 33 33) (n (A 35452 0) (n ff (n z17 (o z108) e) (n z20 (o z105) e)) (n z21 (n z22 (o z5) e) (o tt))) (n z24 (n z25 (n z26 (o (A 6909 261)) e) (o (I 29))) (n z27 (n z28 (o (I 28)) e) (o tt)))) (n (I 29) (n ff (n z29 (n z30 (o (S 6909 0 33 33)) e) (o (S 6909 0 33 33))) (n z21 (n z31 (o (I 0)) e) (o (S 6910 0 33 33)))) (n tt (n z32 (n z26 (o z108) e) (o (I 33))) (n z33 (n z34 (o (I 0)) e) (o (I 28)))))) (n tt (n (S 6910 0 33 33) (n tt (n z13 (n z35 (o z105) e) (o z36)) (n z37 (n z38 (o (A 35374 0)) e) (o (I 29)))) (n z23 (n z9 (n z39 (o z34) e) (o (S 6909 0 33 33))) (n z40 (n z41 (o (A 6910 28)) e) (o tt)))) (n (A 35451 0) (n z24 (n z42 (n z43 (o (I 29)) e) (o (S 6910 0 33 33))) (n z44 (n z20 (o (S 6910 0 33 33)) e) (o (I 33)))) (n tt (n z27 (n z22 (o z105) e) (o tt)) (n z27 (n z20 (o ff) e) (o (I 29)))))))
/-- the memory behind piece 28 -/
def g28 : T Blk := upd [(35455, (ce [ns, ns, (I 0), ff, (I 0), (I 0), (I 0), (I 0), (I 0), (I 0), (I 0), ns, ns, ns, (I 0), ff, (I 0), (I 0), (I 0), (I 0), (I 0), (I 0), (I 0), ns, q1])), (35391, (ce [(I 2), (I 7), q8, (I 1), (I 6), q1, (I 0), (I 0), q1, (I 0), (I 0), q1, (I 0), (I 0), q1, (I 0), (I 0), q1, (I 0), (I 0), q1, (I 0), (I 0), q1, (I 0), (I 0), q1])), (35471, (ce [(I 2), (I 7), q8, (I 1), (I 6), q1, (I 0), (I 0), q1, (I 0), (I 0), q1, (I 0), (I 0), q1, (I 0), (I 0), q1, (I 0), (I 0), q1, (I 0), (I 0), q1, (I 0), (I 0), q1])), (35463, (ce [q0, q4, q5, q6, q7, q11, q13, q14, q15, q9, q16, q17, q18, q0, q0, q0, q0, q0, q0, q0, q0, q0, q0, q0, q0, q0, q0, q0, q0, q0, q0, q0, q0, q0, q0, q0, q0, q0, q0, q0, q0, q0, q0, q0, q0, q0, q0, q0, q0, q0, q0, q0, q0, q0, q0, q0, q0, q0, q0, q0, q0, q0, q0, q0, q0, q0, q0, q0, q0, q0, q0, q0, q0, q0, q0, q0, q0, q0, q0, q0, q0, q0, q0, q0, q0, q0, q0, q0, q0, q0, q0, q0, q0, q0, q0, q0, q0, q0, q0, q0, q0, q0, q0, q0, q0, q0, q0, q0, q0, q0, q0, q0, q0, q0, q0, q0, q0, q0, q0, q0, q0, q0, q0, q0, q0, q0, q0, q0, q0, q0, q0, q0, q0, q0, q0, q0, q0, q0, q0, q0, q0, q0, q0, q0, q0, q0, q0, q0, q0, q0, q0, q0, q0, q0, q0, q0, q0, q0, q0, q0, q0, q0, q0, q0, q0, q0, q0, q0, q0, q0, q0, q0, q0, q0, q0, q0, q0, q0, q0, q0, q0, q0, q0, q0, q0, q0, q0, q0, q0, q0, q0, q0, q0, q0, q0, q0, q0, q0, q0, q0, q0, q0, q0, q0, q0, q0, q0, q0, q0, q0, q0, q0, q0, q0, q0, q0, q0, q0, q0, q0, q0, q0, q0, q0, q0, q0, q0, q0, q0, q0, q0, q0, q0, q0, q0, q0, q0, q0, q0, q0, q0, q0, q0, q0, q0, q0, q0, q0, q0, q0, q0, q0, q0, q0, q0, q0, q0, q0])), (35399, (ce [q0, q4, q5, q6, q7, q12, q19, q20, q21, q9, q22, q23, q24, q32, q33, q34, q35, q36, q37, q0, q0, q0, q0, q0, q0, q0, q0, q0, q0, q0, q0, q0, q0, q0, q0, q0, q0, q0, q0, q0, q0, q0, q0, q0, q0, q0, q0, q0, q0, q0, q0, q0, q0, q0, q0, q0, q0, q0, q0, q0, q0, q0, q0, q0, q0, q0, q0, q0, q0, q0, q0, q0, q0, q0, q0, q0, q0, q0, q0, q0, q0, q0, q0, q0, q0, q0, q0, q0, q0, q0, q0, q0, q0, q0, q0, q0, q0, q0, q0, q0, q0, q0, q0, q0, q0, q0, q0, q0, q0, q0, q0, q0, q0, q0, q0, q0, q0, q0, q0, q0, q0, q0, q0, q0, q0, q0, q0, q0, q0, q0, q0, q0, q0, q0, q0, q0, q0, q0, q0, q0, q0, q0, q0, q0, q0, q0, q0, q0, q0, q0, q0, q0, q0, q0, q0, q0, q0, q0, q0, q0, q0, q0, q0, q0, q0, q0, q0, q0, q0, q0, q0, q0, q0, q0, q0, q0, q0, q0, q0, q0, q0, q0, q0, q0, q0, q0, q0, q0, q0, q0, q0, q0, q0, q0, q0, q0, q0, q0, q0, q0, q0, q0, q0, q0, q0, q0, q0, q0, q0, q0, q0, q0, q0, q0, q0, q0, q0, q0, q0, q0, q0, q0, q0, q0, q0, q0, q0, q0, q0, q0, q0, q0, q0, q0, q0, q0, q0, q0, q0, q0, q0, q0, q0, q0, q0, q0, q0, q0, q0, q0, q0, q0, q0, q0, q0, q0, q0, q0])), (35479, (ce [(I 1), (I 0), (I 0), (I 0), (I 0), (U 35481 0 9 3), (I 3), (I 1), (I 65537), (I 0), (I 0), (U 35483 0 9 3)])), (35491, (ce [q0, q4, q5, q6, q7, q11, q13, q14, q15, q9, q16, q17, q18, q0, q0, q0, q0, q0, q0, q0, q0, q0, q0, q0, q0, q0, q0, q0, q0, q0, q0, q0, q0, q0, q0, q0, q0, q0, q0, q0, q0, q0, q0, q0, q0, q0, q0, q0, q0, q0, q0, q0, q0, q0, q0, q0, q0, q0, q0, q0, q0, q0, q0, q0, q0, q0, q0, q0, q0, q0, q0, q0, q0, q0, q0, q0, q0, q0, q0, q0, q0, q0, q0, q0, q0, q0, q0, q0, q0, q0, q0, q0, q0, q0, q0, q0, q0, q0, q0, q0, q0, q0, q0, q0, q0, q0, q0, q0, q0, q0, q0, q0, q0, q0, q0, q0, q0, q0, q0, q0, q0, q0, q0, q0, q0, q0, q0, q0, q0, q0, q0, q0, q0, q0, q0, q0, q0, q0, q0, q0, q0, q0, q0, q0, q0, q0, q0, q0, q0, q0, q0, q0, q0, q0, q0, q0, q0, q0, q0, q0, q0, q0, q0, q0, q0, q0, q0, q0, q0, q0, q0, q0, q0, q0, q0, q0, q0, q0, q0, q0, q0, q0, q0, q0, q0, q0, q0, q0, q0, q0, q0, q0, q0, q0, q0, q0, q0, q0, q0, q0, q0, q0, q0, q0, q0, q0, q0, q0, q0, q0, q0, q0, q0, q0, q0, q0, q0, q0, q0, q0, q0, q0, q0, q0, q0, q0, q0, q0, q0, q0, q0, q0, q0, q0, q0, q0, q0, q0, q0, q0, q0, q0, q0, q0, q0, q0, q0, q0, q0, q0, q0, q0, q0, q0, q0, q0, q0, q0])), (35467, (ce [(I 1), (I 0), (I 0), (I 0), (I 0), (U 35469 0 9 3), (I 3), (I 1), (I 65537), (I 0), (I 0), (U 35471 0 9 3)])), (35403, (ce [(I 2), (I 7), q1, (I 0), (I 0), q1, (I 0), (I 0), q1, (I 0), (I 0), q1, (I 0), (I 0), q1, (I 0), (I 0), q1, (I 0), (I 0), q1, (I 0), (I 0), q1, (I 0), (I 0), q1])), (35483, (ce [(I 2), (I 7), q8, (I 1), (I 6), q1, (I 0), (I 0), q1, (I 0), (I 0), q1, (I 0), (I 0), q1, (I 0), (I 0), q1, (I 0), (I 0), q1, (I 0), (I 0), q1, (I 0), (I 0), q1])), (35387, (ce [(I 13), q46])), (35451, (ce [ns, ns, (I 0), ff, (I 0), (I 0), (I 0), (I 0), (I 0), (I 0), (I 0), ns, ns, ns, (I 0), ff, (I 0), (I 0), (I 0), (I 0), (I 0), (I 0), (I 0), ns, q1])), (35393, (ce [(I 2), (I 7), q8, (I 1), (I 6), q1, (I 0), (I 0), q1, (I 0), (I 0), q1, (I 0), (I 0), q1, (I 0), (I 0), q1, (I 0), (I 0), q1, (I 0), (I 0), q1, (I 0), (I 0), q1])), (35465, (ce [(I 13), q46])), (35401, (ce [(I 1), (I 0), (I 0), (I 0), (I 0), (U 35403 0 9 3), (I 3), (I 1), (I 65537), (I 0), (I 0), (U 35405 0 9 3)])), (35481, (ce [(I 2), (I 7), q1, (I 0), (I 0), q1, (I 0), (I 0), q1, (I 0), (I 0), q1, (I 0), (I 0), q1, (I 0), (I 0), q1, (I 0), (I 0), q1, (I 0), (I 0), q1, (I 0), (I 0), q1])), (35385, (ce [q0, q4, q5, q6, q7, q11, q13, q14, q15, q9, q16, q17, q18, q0, q0, q0, q0, q0, q0, q0, q0, q0, q0, q0, q0, q0, q0, q0, q0, q0, q0, q0, q0, q0, q0, q0, q0, q0, q0, q0, q0, q0, q0, q0, q0, q0, q0, q0, q0, q0, q0, q0, q0, q0, q0, q0, q0, q0, q0, q0, q0, q0, q0, q0, q0, q0, q0, q0, q0, q0, q0, q0, q0, q0, q0, q0, q0, q0, q0, q0, q0, q0, q0, q0, q0, q0, q0, q0, q0, q0, q0, q0, q0, q0, q0, q0, q0, q0, q0, q0, q0, q0, q0, q0, q0, q0, q0, q0, q0, q0, q0, q0, q0, q0, q0, q0, q0, q0, q0, q0, q0, q0, q0, q0, q0, q0, q0, q0, q0, q0, q0, q0, q0, q0, q0, q0, q0, q0, q0, q0, q0, q0, q0, q0, q0, q0, q0, q0, q0, q0, q0, q0, q0, q0, q0, q0, q0, q0, q0, q0, q0, q0, q0, q0, q0, q0, q0, q0, q0, q0, q0, q0, q0, q0, q0, q0, q0, q0, q0, q0, q0, q0, q0, q0, q0, q0, q0, q0, q0, q0, q0, q0, q0, q0, q0, q0, q0, q0, q0, q0, q0, q0, q0, q0, q0, q0, q0, q0, q0, q0, q0, q0, q0, q0, q0, q0, q0, q0, q0, q0, q0, q0, q0, q0, q0, q0, q0, q0, q0, q0, q0, q0, q0, q0, q0, q0, q0, q0, q0, q0, q0, q0, q0, q0, q0, q0, q0, q0, q0, q0, q0, q0, q0, q0, q0, q0, q0, q0])), (35477, (ce [q0, q4, q5, q6, q7, q12, q19, q20, q21, q9, q22, q23, q24, q32, q33, q34, q35, q36, q37, q0, q0, q0, q0, q0, q0, q0, q0, q0, q0, q0, q0, q0, q0, q0, q0, q0, q0, q0, q0, q0, q0, q0, q0, q0, q0, q0, q0, q0, q0, q0, q0, q0, q0, q0, q0, q0, q0, q0, q0, q0, q0, q0, q0, q0, q0, q0, q0, q0, q0, q0, q0, q0, q0, q0, q0, q0, q0, q0, q0, q0, q0, q0, q0, q0, q0, q0, q0, q0, q0, q0, q0, q0, q0, q0, q0, q0, q0, q0, q0, q0, q0, q0, q0, q0, q0, q0, q0, q0, q0, q0, q0, q0, q0, q0, q0, q0, q0, q0, q0, q0, q0, q0, q0, q0, q0, q0, q0, q0, q0, q0, q0, q0, q0, q0, q0, q0, q0, q0, q0, q0, q0, q0, q0, q0, q0, q0, q0, q0, q0, q0, q0, q0, q0, q0, q0, q0, q0, q0, q0, q0, q0, q0, q0, q0, q0, q0, q0, q0, q0, q0, q0, q0, q0, q0, q0, q0, q0, q0, q0, q0, q0, q0, q0, q0, q0, q0, q0, q0, q0, q0, q0, q0, q0, q0, q0, q0, q0, q0, q0, q0, q0, q0, q0, q0, q0, q0, q0, q0, q0, q0, q0, q0, q0, q0, q0, q0, q0, q0, q0, q0, q0, q0, q0, q0, q0, q0, q0, q0, q0, q0, q0, q0, q0, q0, q0, q0, q0, q0, q0, q0, q0, q0, q0, q0, q0, q0, q0, q0, q0, q0, q0, q0, q0, q0, q0, q0, q0, q0])), (35469, (ce [(I 2), (I 7), q8, (I 1), (I 6), q1, (I 0), (I 0), q1, (I 0), (I 0), q1, (I 0), (I 0), q1, (I 0), (I 0), q1, (I 0), (I 0), q1, (I 0), (I 0), q1, (I 0), (I 0), q1])), (35405, (ce [(I 2), (I 7), q8, (I 1), (I 6), q1, (I 0), (I 0), q1, (I 0), (I 0), q1, (I 0), (I 0), q1, (I 0), (I 0), q1, (I 0), (I 0), q1, (I 0), (I 0), q1, (I 0), (I 0), q1])), (35485, (ce [(U 35463 0 258 1), (U 35465 0 1 2), (I 0), tt, (I 2), (I 12), (I 0), (I 11), (I 1), (I 2), (I 1), (U 35467 0 2 6), (U 35477 0 258 1), ns, (I 0), ff, (I 4), (I 18), (I 0), (I 17), (I 1), (I 2), (I 2), (U 35479 0 2 6), q2, (I 20), (I 0), (I 0), (I 0), (I 0), q1, q1, q1, ns, (I 0), q1, (I 0), (I 0), (I 0), (I 0), (I 0), ns, (I 0)])), (35389, (ce [(I 1), (I 0), (I 0), (I 0), (I 0), (U 35391 0 9 3), (I 3), (I 1), (I 65537), (I 0), (I 0), (U 35393 0 9 3)])), (35453, (ce [(U 35463 0 258 1), (U 35465 0 1 2), (I 0), tt, (I 2), (I 12), (I 0), (I 11), (I 1), (I 2), (I 1), (U 35467 0 2 6), (U 35477 0 258 1), ns, (I 0), ff, (I 4), (I 18), (I 0), (I 17), (I 1), (I 2), (I 2), (U 35479 0 2 6), q2])), (35456, (ce [(I 0), q1, (I 0), (I 0), (I 0), (I 0), (I 0), ns, (I 0)])), (35452, (ce [(I 0), q1, (I 0), (I 0), (I 0), (I 0), (I 0), ns, (I 0)])), (6908, (ce [(U 35385 0 258 1), (U 35387 0 1 2), (I 0), tt, (I 2), (I 12), (I 0), (I 11), (I 1), (I 2), (I 1), (U 35389 0 2 6), (U 35399 0 258 1), ns, (I 0), ff, (I 4), (I 18), (I 0), (I 17), (I 1), (I 2), (I 2), (U 35401 0 2 6), q2])), (35374, (ce [(I 0), q1, (I 0), (I 0), (I 0), (I 0), (I 0), ns, (I 0)])), (35486, (ce [(U 35491 0 258 1), ns, (I 0), ff])), (35454, (ce [(I 20), (I 0), (I 0), (I 0), (I 0), q1, q1, q1, ns]))] (del [29056, 29057, 29058, 29062, 29066, 29067, 29068, 34449, 34450, 31380, 34453, 34454, 33691, 33692, 33693, 33695, 33697, 33698, 33699, 28966, 28967, 28970, 28971, 28990, 28992, 28994, 28996, 28998, 34247, 29000, 33745, 34267, 29020, 29022, 29024, 29026, 29031, 29033, 29035, 29053, 29055] g27)
/-- the state behind piece 28; its texts -/
def s28 : St :=
⟨⟨⟨27, 33, false, none⟩,
  (n (A 35485 0) (m (m (n (A 35485 0) (o z103) e) (o (A 35485 0))) (n (A 35485 0) (o z104) (o (A 35485 33)))) (n (A 35486 0) (m (o (A 35485 0)) (o (A 35485 25))) (n (A 35485 0) (o (A 35485 0)) (o ns)))),
  [.code (c 27 2)], [], .run⟩,
 [⟨⟨11, 135, false, none⟩,
  y43,
  [.reg (r 11 25165820 1), .inBlock 0], [], .run⟩,
 ⟨⟨6, 43, false, none⟩,
  y44,
  [.reg (r 6 46 1), .code (c 6 62)], [], .run⟩,
 ⟨⟨3, 107, false, none⟩,
  y45,
  [.reg (r 3 17598 7), .code (c 3 25790), .inBlock 1, .code (c 3 7358), .inLoop (c 3 1214), .inBlock 0, .code (c 3 254)], [], .run⟩],
 ⟨(p 35496), g28⟩,
 []⟩
def k28 : List (IC Blk) := [(c 27 2), (.region (r 11 25165820 1)), .skip, (.region (r 6 46 1)), (c 6 62), (.region (r 3 17598 7)), (c 3 25790), .skip, (c 3 7358), (c 3 1214), .skip, (c 3 254)]
theorem h28 : codesSt s28.fr s28.cs s28.ls = k28 := by kernel_rfl
def y46 : T V := (n z103 (n (A 35496 0) (n (I 0) (n tt (n z103 (n z103 (o (A 35620 0)) e) (o (A 35615 3))) (n tt (o (A 35615 4)) (o (A 35615 2)))) (n (A 35496 3) (n (.tup [q4, tt]) (o (A 35615 0)) (o ff)) (n (S 35514 0 2 2) (o (A 35620 0)) (o tt)))) (n tt (n tt (n q0 (o (.agg [(U 35619 0 258 1), ns, (I 0), ff, (I 0), (I 0), (I 0), (I 0), (I 0), (I 0), (I 0), ns])) (o z103)) (n q0 (o (.agg [(U 35619 0 258 1), ns, (I 0), ff, (I 0), (I 0), (I 0), (I 4), (I 1), (I 0), (I 0), ns])) (o (A 35615 1)))) (m (n (.tup [q4, tt]) (o (A 35615 3)) (o ff)) (n z110 (o ff) (o ff))))) (n (A 35497 0) (n q0 (n (A 35615 0) (n (.tup [q0, tt]) (o (.agg [(U 35491 0 258 1), ns, (I 0), ff, (I 0), (I 0), (I 0), (I 0), (I 0), (I 0), (I 0), ns])) (o (I 0))) (n z111 (o (I 4)) (o (I 5)))) (n ff (n z103 (o (I 1)) (o ff)) (n z111 (o tt) (o ff)))) (n q4 (n (A 35620 0) (n tt (o z109) (o (I 4))) (n q4 (o (.agg [(U 35619 0 258 1), ns, (I 0), ff, (I 0), (I 0), (I 0), (I 4), (I 1), (I 0), (I 0), ns, (I 0), (I 0), ns, ns, ns, ns])) (o (I 1)))) (n (.tup [q0, tt]) (n q4 (o (I 0)) (o (A 35620 0))) (n tt (o ff) e)))))
def y47 : T V := (n (A 35485 0) (m (m (n (A 35485 0) (o z103) e) (o (A 35485 0))) (n (A 35485 0) (n z104 (o z103) e) (o (A 35485 33)))) (n (A 35486 0) (m (o (A 35485 0)) (o (A 35485 25))) (n (A 35485 0) (o (A 35485 0)) (o ns))))
/-- the memory behind piece 29 -/
def g29 : T Blk := upd [(35615, (ce [(I 1), (I 1), (I 5), (I 0), (I 4)])), (36551, (ce [(I 9), (I 2)])), (36387, (ce [(A 36389 0)])), (35619, (ce [q0, q4, q5, q6, q7, q11, q13, q14, q15, q9, q16, q17, q18, q0, q0, q0, q0, q0, q0, q0, q0, q0, q0, q0, q0, q0, q0, q0, q0, q0, q0, q0, q0, q0, q0, q0, q0, q0, q0, q0, q0, q0, q0, q0, q0, q0, q0, q0, q0, q0, q0, q0, q0, q0, q0, q0, q0, q0, q0, q0, q0, q0, q0, q0, q0, q0, q0, q0, q0, q0, q0, q0, q0, q0, q0, q0, q0, q0, q0, q0, q0, q0, q0, q0, q0, q0, q0, q0, q0, q0, q0, q0, q0, q0, q0, q0, q0, q0, q0, q0, q0, q0, q0, q0, q0, q0, q0, q0, q0, q0, q0, q0, q0, q0, q0, q0, q0, q0, q0, q0, q0, q0, q0, q0, q0, q0, q0, q0, q0, q0, q0, q0, q0, q0, q0, q0, q0, q0, q0, q0, q0, q0, q0, q0, q0, q0, q0, q0, q0, q0, q0, q0, q0, q0, q0, q0, q0, q0, q0, q0, q0, q0, q0, q0, q0, q0, q0, q0, q0, q0, q0, q0, q0, q0, q0, q0, q0, q0, q0, q0, q0, q0, q0, q0, q0, q0, q0, q0, q0, q0, q0, q0, q0, q0, q0, q0, q0, q0, q0, q0, q0, q0, q0, q0, q0, q0, q0, q0, q0, q0, q0, q0, q0, q0, q0, q0, q0, q0, q0, q0, q0, q0, q0, q0, q0, q0, q0, q0, q0, q0, q0, q0, q0, q0, q0, q0, q0, q0, q0, q0, q0, q0, q0, q0, q0, q0, q0, q0, q0, q0, q0, q0, q0, q0, q0, q0, q0, q0])), (36435, (ce [(I 10), (I 2), (I 11), (I 2)])), (36385, (ce [(I 0), (I 0), ns, ns, ns, ns])), (35497, (ce [ns, ns, (I 0), ff, (I 0), (I 0), (I 0), (I 0), (I 0), (I 0), (I 0), ns])), (36389, (ce [(U 35619 0 258 1), ns, (I 0), ff, (I 2), (I 1), ns, ns, ns, ns, (U 36544 0 2 2)])), (35981, (ce [(I 2), (I 7), q1, (I 0), (I 0), q1, (I 0), (I 0), q1, (I 0), (I 0), q1, (I 0), (I 0), q1, (I 0), (I 0), q1, (I 0), (I 0), q1, (I 0), (I 0), q1, (I 0), (I 0), q1])), (36544, (ce [(I 12), (I 2), (I 10), (I 2)])), (36624, (ce [(I 1), (I 0), (I 0), (I 0), (I 0)])), (35496, (ce [(U 35491 0 258 1), ns, (I 0), ff])), (36388, (ce [ff])), (35620, (ce [(U 35619 0 258 1), ns, (I 0), ff, (I 1), (I 5), (I 0), (I 4), (I 1), (I 0), (I 0), ns, (I 1), (I 1), (U 36097 0 1 5), (U 36098 0 1 1), (U 36101 0 1 1), (U 36102 0 1 1)])), (35514, (ce [q0, q4]))] (del [] g28)
/-- the state behind piece 29; its texts -/
def s29 : St :=
⟨⟨⟨273, 124, false, none⟩,
  (n (A 36389 0) (n (.agg [(I 10), (I 2)]) (n (A 36507 0) (m e (o z1)) (m (o (A 36389 0)) e)) (n (U 36551 0 1 2) (m e (o tt)) (m (o (.agg [(I 3), (I 2), q39])) e))) (m (n (A 36624 0) (m e (o (U 36551 0 1 2))) (m (o (.agg [(I 10), (I 2)])) e)) (n tt (m (o (.tup [z1, (U 36551 0 1 2), tt])) e) (m (o (.tup [z1, (U 36551 0 1 2), tt])) e)))),
  [.code (c 273 6)], [], .run⟩,
 [⟨⟨235, 42, false, none⟩,
  (n (A 36389 0) (n (I 12) (m (n tt (n (.tup [(I 2), (I 1), (U 36435 0 2 2), tt]) (o (A 36389 5)) e) (n (A 36389 0) (o (.agg [(I 10), (I 2)])) e)) (n (A 36389 0) (n tt (o tt) e) (o (A 36389 4)))) (n (I 1) (n (A 36506 0) (n (I 1) (o (I 2)) e) (o (I 1))) (n z91 (n tn (o (.agg [(I 10), (I 2)])) e) (o (A 36389 0))))) (m (n (I 2) (m (n (I 2) (o (U 36435 0 2 2)) e) (o (I 2))) (n (I 12) (n tt (o (A 36435 0)) e) (o (A 36389 4)))) (n (U 36435 0 2 2) (n (.tup [(I 2), (I 1), (U 36435 0 2 2), tt]) (n (U 36435 0 2 2) (o (I 0)) e) (o (A 36389 0))) (n (.agg [(I 4), (I 2), q25]) (n (A 36389 0) (o (A 36389 0)) e) (o (A 36389 4)))))),
  [.reg (r 235 3278 2), .inBlock 1, .code (c 235 974), .inLoop (c 235 78), .inBlock 0], [], .run⟩,
 ⟨⟨201, 14, false, none⟩,
  (n z109 (n (I 12) (m (o z109) (o (I 12))) (n (A 36388 0) (o (A 36389 0)) e)) (n (A 36386 0) (n (A 36387 0) (o (.agg [(U 35619 0 258 1), ns, (I 0), ff, (I 0), (I 0), ns, ns, ns, ns, ns])) e) (n (.fn 234 [(A 36387 0), (A 36388 0)]) (o (A 36389 0)) e))),
  [.reg (r 201 22 2), .code (c 201 30)], [.call 234 [(A 36387 0), (A 36388 0)]], .run⟩,
 ⟨⟨168, 19, false, none⟩,
  (n z109 (n (I 12) e (n ff (o z109) e)) (n (A 36384 0) (o (A 36385 0)) (m (o (I 12)) e))),
  [.reg (r 168 4 2), .code (c 168 6)], [], .run⟩,
 ⟨⟨109, 47, false, none⟩,
  (n (A 35620 0) (n (I 12) (m (m (o (I 12)) e) (o (A 35620 0))) (m e (o (A 35620 0)))) (n (I 2) (m e (o (A 35620 0))) (n ff (o (A 35620 0)) (o z109)))),
  [.reg (r 109 4 6), .code (c 109 6)], [], .run⟩,
 ⟨⟨110, 46, false, none⟩,
  (n (A 35620 0) (m (n (I 12) (n (A 35620 7) (n (A 35620 0) (o (I 12)) e) (o (A 35620 0))) (n (I 9) (n (I 10) (o (A 35620 4)) e) (o (.agg [(I 4), (I 2), q25])))) (n (A 35620 0) (n (I 10) (n (I 0) (o (A 35620 0)) e) (o z109)) (n (A 35620 0) (n (A 35620 0) (o (I 2)) e) (o ff)))) (n (I 10) (n (A 35620 0) (n (I 4) (n (A 35620 6) (o (A 35620 0)) e) (o (A 35620 0))) (n (I 10) (n (I 12) (o (I 1)) e) (o (I 4)))) (n (A 35620 0) (n tt (n (I 2) (o (A 35620 0)) e) (o (I 12))) (n (A 35620 0) (o (A 35620 0)) (o (A 35620 0)))))),
  [.reg (r 110 1224 8), .code (c 110 1736), .code (c 110 968), .inBlock 1, .code (c 110 56), .inLoop (c 110 8), .inBlock 0], [], .run⟩,
 ⟨⟨60, 67, false, none⟩,
  y46,
  [.reg (r 60 382 1), .code (c 60 510)], [], .run⟩,
 ⟨⟨27, 33, false, none⟩,
  y47,
  [.reg (r 27 4 1), .code (c 27 6)], [], .run⟩,
 ⟨⟨11, 135, false, none⟩,
  y43,
  [.reg (r 11 25165820 1), .inBlock 0], [], .run⟩,
 ⟨⟨6, 43, false, none⟩,
  y44,
  [.reg (r 6 46 1), .code (c 6 62)], [], .run⟩,
 ⟨⟨3, 107, false, none⟩,
  y45,
  [.reg (r 3 17598 7), .code (c 3 25790), .inBlock 1, .code (c 3 7358), .inLoop (c 3 1214), .inBlock 0, .code (c 3 254)], [], .run⟩],
 ⟨(p 36625), g29⟩,
 []⟩
def k29 : List (IC Blk) := [(c 273 6), (.region (r 235 3278 2)), .skip, (c 235 974), (c 235 78), .skip, (.region (r 201 22 2)), (c 201 30), (.region (r 168 4 2)), (c 168 6), (.region (r 109 4 6)), (c 109 6), (.region (r 110 1224 8)), (c 110 1736), (c 110 968), .skip, (c 110 56), (c 110 8), .skip, (.region (r 60 382 1)), (c 60 510), (.region (r 27 4 1)), (c 27 6), (.region (r 11 25165820 1)), .skip, (.region (r 6 46 1)), (c 6 62), (.region (r 3 17598 7)), (c 3 25790), .skip, (c 3 7358), (c 3 1214), .skip, (c 3 254)]
theorem h29 : codesSt s29.fr s29.cs s29.ls = k29 := by kernel_rfl
/-- the memory behind piece 30 -/
def g30 : T Blk := upd [(37783, (ce [(S 36957 0 9 9), (S 37596 0 9 9)])), (36957, (ce [(I 2), (I 7), q8, (I 1), (I 6), q1, (I 0), (I 0), q1, (I 0), (I 0), q1, (I 0), (I 0), q1, (I 0), (I 0), q1, (I 0), (I 0), q1, (I 0), (I 0), q1, (I 0), (I 0), q1])), (35620, (ce [(U 35619 0 258 1), ns, (I 0), ff, (I 2), (I 12), (I 0), (I 4), (I 1), (I 0), (I 0), ns, (I 2), (I 1), (U 37778 0 2 5), (U 37779 0 2 1), (U 37782 0 2 1), (U 37783 0 2 1)])), (37596, (ce [(I 2), (I 7), q8, (I 1), (I 6), q1, (I 0), (I 0), q1, (I 0), (I 0), q1, (I 0), (I 0), q1, (I 0), (I 0), q1, (I 0), (I 0), q1, (I 0), (I 0), q1, (I 0), (I 0), q1])), (37778, (ce [(I 1), (I 0), (I 0), (I 0), (I 0), (I 3), (I 1), (I 65537), (I 0), (I 0)]))] (del [35463, 35465, 35467, 35981, 35469, 35471, 36624, 35486, 35615, 36385, 36387, 36388, 36389, 35496, 35374, 35385, 35514, 35387, 35389, 35391, 36544, 35393, 36551, 35399, 35401, 35403, 35405, 36435, 35453, 35454] g29)
/-- the state behind piece 30; its texts -/
def s30 : St :=
⟨⟨⟨110, 46, false, none⟩,
  (n (A 35620 0) (m (n (I 12) (n (A 35620 7) (n (A 35620 0) (o (I 12)) e) (n (A 35620 0) (o ff) e)) (n (I 9) (n (I 10) (o (A 35620 4)) e) (o (.agg [(I 4), (I 2), q25])))) (n (A 35620 0) (n (I 10) (n (I 0) (o (A 35620 0)) e) (o z109)) (n (A 35620 0) (n (A 35620 0) (o (I 2)) e) (o ff)))) (n (I 10) (n (A 35620 0) (n (I 4) (n (A 35620 6) (o (A 35620 0)) e) (o (A 35620 0))) (n (I 10) (n (I 12) (o (I 1)) e) (o (I 4)))) (n (A 35620 0) (n tt (n (I 2) (o (A 35620 0)) e) (o (I 12))) (n (A 35620 0) (n (A 35620 0) (o tt) e) (o (A 35620 0)))))),
  [.code (c 110 1736), .code (c 110 968), .inBlock 1, .code (c 110 56), .inLoop (c 110 8), .inBlock 0], [], .run⟩,
 [⟨⟨60, 67, false, none⟩,
  y46,
  [.reg (r 60 382 1), .code (c 60 510)], [], .run⟩,
 ⟨⟨27, 33, false, none⟩,
  y47,
  [.reg (r 27 4 1), .code (c 27 6)], [], .run⟩,
 ⟨⟨11, 135, false, none⟩,
  y43,
  [.reg (r 11 25165820 1), .inBlock 0], [], .run⟩,
 ⟨⟨6, 43, false, none⟩,
  y44,
  [.reg (r 6 46 1), .code (c 6 62)], [], .run⟩,
 ⟨⟨3, 107, false, none⟩,
  y45,
  [.reg (r 3 17598 7), .code (c 3 25790), .inBlock 1, .code (c 3 7358), .inLoop (c 3 1214), .inBlock 0, .code (c 3 254)], [], .run⟩],
 ⟨(p 37820), g30⟩,
 []⟩
def k30 : List (IC Blk) := [(c 110 1736), (c 110 968), .skip, (c 110 56), (c 110 8), .skip, (.region (r 60 382 1)), (c 60 510), (.region (r 27 4 1)), (c 27 6), (.region (r 11 25165820 1)), .skip, (.region (r 6 46 1)), (c 6 62), (.region (r 3 17598 7)), (c 3 25790), .skip, (c 3 7358), (c 3 1214), .skip, (c 3 254)]
theorem h30 : codesSt s30.fr s30.cs s30.ls = k30 := by kernel_rfl
def y48 : T V := (n ff (n (A 6908 0) (n (S 6909 0 33 33) (n (A 38678 0) (n ff (n z17 (o z114) e) (n z20 (o z112) e)) (n z21 (n z22 (o z5) e) (o tt))) (n z24 (n z25 (n z26 (o (A 6909 270)) e) (o (I 30))) (n z27 (n z28 (o (I 29)) e) (o tt)))) (n (I 30) (n ff (n z29 (n z30 (o (S 6909 0 33 33)) e) (o (S 6909 0 33 33))) (n z21 (n z31 (o (I 0)) e) (o (S 6910 0 33 33)))) (n tt (n z32 (n z26 (o z114) e) (o (I 33))) (n z33 (n z34 (o (I 0)) e) (o (I 29)))))) (n tt (n (S 6910 0 33 33) (n tt (n z13 (n z35 (o z112) e) (o z36)) (n z37 (n z38 (o (A 35452 0)) e) (o (I 30)))) (n z23 (n z9 (n z39 (o z20) e) (o (S 6909 0 33 33))) (n z40 (n z41 (o (A 6910 29)) e) (o tt)))) (n (A 38677 0) (n z24 (n z42 (n z43 (o (I 30)) e) (o (S 6910 0 33 33))) (n z44 (n z20 (o (S 6910 0 33 33)) e) (o (I 33)))) (n tt (n z27 (n z22 (o z112) e) (o tt)) (n z27 (n z20 (o ff) e) (o (I 30)))))))
/-- the memory behind piece 31 -/
def g31 : T Blk := upd [(38703, (ce [(I 1), (I 0), (I 0), (I 0), (I 0), (U 38705 0 9 3), (I 3), (I 1), (I 65537), (I 0), (I 0), (U 38707 0 9 3)])), (38695, (ce [(I 2), (I 7), q8, (I 1), (I 6), q1, (I 0), (I 0), q1, (I 0), (I 0), q1, (I 0), (I 0), q1, (I 0), (I 0), q1, (I 0), (I 0), q1, (I 0), (I 0), q1, (I 0), (I 0), q1])), (38679, (ce [(U 38689 0 258 1), ns, (I 0), ff, (I 2), (I 12), (I 0), (I 11), (I 1), (I 2), (I 1), (U 38691 0 2 6), (U 38701 0 258 1), ns, (I 0), ff, (I 4), (I 18), (I 0), (I 17), (I 1), (I 2), (I 2), (U 38703 0 2 6), q2])), (38691, (ce [(I 1), (I 0), (I 0), (I 0), (I 0), (U 38693 0 9 3), (I 3), (I 1), (I 65537), (I 0), (I 0), (U 38695 0 9 3)])), (38707, (ce [(I 2), (I 7), q8, (I 1), (I 6), q1, (I 0), (I 0), q1, (I 0), (I 0), q1, (I 0), (I 0), q1, (I 0), (I 0), q1, (I 0), (I 0), q1, (I 0), (I 0), q1, (I 0), (I 0), q1])), (38689, (ce [q0, q4, q5, q6, q7, q11, q13, q14, q15, q9, q16, q17, q18, q0, q0, q0, q0, q0, q0, q0, q0, q0, q0, q0, q0, q0, q0, q0, q0, q0, q0, q0, q0, q0, q0, q0, q0, q0, q0, q0, q0, q0, q0, q0, q0, q0, q0, q0, q0, q0, q0, q0, q0, q0, q0, q0, q0, q0, q0, q0, q0, q0, q0, q0, q0, q0, q0, q0, q0, q0, q0, q0, q0, q0, q0, q0, q0, q0, q0, q0, q0, q0, q0, q0, q0, q0, q0, q0, q0, q0, q0, q0, q0, q0, q0, q0, q0, q0, q0, q0, q0, q0, q0, q0, q0, q0, q0, q0, q0, q0, q0, q0, q0, q0, q0, q0, q0, q0, q0, q0, q0, q0, q0, q0, q0, q0, q0, q0, q0, q0, q0, q0, q0, q0, q0, q0, q0, q0, q0, q0, q0, q0, q0, q0, q0, q0, q0, q0, q0, q0, q0, q0, q0, q0, q0, q0, q0, q0, q0, q0, q0, q0, q0, q0, q0, q0, q0, q0, q0, q0, q0, q0, q0, q0, q0, q0, q0, q0, q0, q0, q0, q0, q0, q0, q0, q0, q0, q0, q0, q0, q0, q0, q0, q0, q0, q0, q0, q0, q0, q0, q0, q0, q0, q0, q0, q0, q0, q0, q0, q0, q0, q0, q0, q0, q0, q0, q0, q0, q0, q0, q0, q0, q0, q0, q0, q0, q0, q0, q0, q0, q0, q0, q0, q0, q0, q0, q0, q0, q0, q0, q0, q0, q0, q0, q0, q0, q0, q0, q0, q0, q0, q0, q0, q0, q0, q0, q0, q0])), (38705, (ce [(I 2), (I 7), q1, (I 0), (I 0), q1, (I 0), (I 0), q1, (I 0), (I 0), q1, (I 0), (I 0), q1, (I 0), (I 0), q1, (I 0), (I 0), q1, (I 0), (I 0), q1, (I 0), (I 0), q1])), (38681, (ce [ns, ns, (I 0), ff, (I 0), (I 0), (I 0), (I 0), (I 0), (I 0), (I 0), ns, ns, ns, (I 0), ff, (I 0), (I 0), (I 0), (I 0), (I 0), (I 0), (I 0), ns, q1])), (38693, (ce [(I 2), (I 7), q8, (I 1), (I 6), q1, (I 0), (I 0), q1, (I 0), (I 0), q1, (I 0), (I 0), q1, (I 0), (I 0), q1, (I 0), (I 0), q1, (I 0), (I 0), q1, (I 0), (I 0), q1])), (38677, (ce [ns, ns, (I 0), ff, (I 0), (I 0), (I 0), (I 0), (I 0), (I 0), (I 0), ns, ns, ns, (I 0), ff, (I 0), (I 0), (I 0), (I 0), (I 0), (I 0), (I 0), ns, q1])), (38701, (ce [q0, q4, q5, q6, q7, q12, q19, q20, q21, q9, q22, q23, q24, q32, q33, q34, q35, q36, q37, q0, q0, q0, q0, q0, q0, q0, q0, q0, q0, q0, q0, q0, q0, q0, q0, q0, q0, q0, q0, q0, q0, q0, q0, q0, q0, q0, q0, q0, q0, q0, q0, q0, q0, q0, q0, q0, q0, q0, q0, q0, q0, q0, q0, q0, q0, q0, q0, q0, q0, q0, q0, q0, q0, q0, q0, q0, q0, q0, q0, q0, q0, q0, q0, q0, q0, q0, q0, q0, q0, q0, q0, q0, q0, q0, q0, q0, q0, q0, q0, q0, q0, q0, q0, q0, q0, q0, q0, q0, q0, q0, q0, q0, q0, q0, q0, q0, q0, q0, q0, q0, q0, q0, q0, q0, q0, q0, q0, q0, q0, q0, q0, q0, q0, q0, q0, q0, q0, q0, q0, q0, q0, q0, q0, q0, q0, q0, q0, q0, q0, q0, q0, q0, q0, q0, q0, q0, q0, q0, q0, q0, q0, q0, q0, q0, q0, q0, q0, q0, q0, q0, q0, q0, q0, q0, q0, q0, q0, q0, q0, q0, q0, q0, q0, q0, q0, q0, q0, q0, q0, q0, q0, q0, q0, q0, q0, q0, q0, q0, q0, q0, q0, q0, q0, q0, q0, q0, q0, q0, q0, q0, q0, q0, q0, q0, q0, q0, q0, q0, q0, q0, q0, q0, q0, q0, q0, q0, q0, q0, q0, q0, q0, q0, q0, q0, q0, q0, q0, q0, q0, q0, q0, q0, q0, q0, q0, q0, q0, q0, q0, q0, q0, q0, q0, q0, q0, q0, q0, q0])), (38680, (ce [(I 13), (I 0), (I 1), (I 0), (I 0), q1, q1, q1, ns])), (6908, (ce [(U 35619 0 258 1), ns, (I 0), ff, (I 2), (I 12), (I 0), (I 11), (I 1), (I 2), (I 1), (U 38674 0 2 6), (U 35477 0 258 1), ns, (I 0), ff, (I 4), (I 18), (I 0), (I 17), (I 1), (I 2), (I 2), (U 35479 0 2 6), q2])), (38674, (ce [(I 1), (I 0), (I 0), (I 0), (I 0), (S 36957 0 9 9), (I 3), (I 1), (I 65537), (I 0), (I 0), (S 37596 0 9 9)])), (38682, (ce [(I 0), q1, (I 0), (I 0), (I 0), (I 0), (I 0), ns, (I 0)])), (38678, (ce [(I 0), q1, (I 0), (I 0), (I 0), (I 0), (I 0), ns, (I 0)]))] (del [35456, 37778, 37783, 35485, 35491, 35620, 35497, 35451, 35455] g30)
/-- the state behind piece 31; its texts -/
def s31 : St :=
⟨⟨⟨6, 43, false, none⟩,
  (n z112 (n z20 (n (A 38680 0) (o z112) e) (o (A 38682 0))) (n (A 38679 0) (n (A 38681 0) (o z113) e) e)),
  [.code (c 6 6)], [], .run⟩,
 [⟨⟨3, 107, false, none⟩,
  y48,
  [.reg (r 3 17598 7), .code (c 3 25790), .inBlock 1, .code (c 3 7358), .inLoop (c 3 1214), .inBlock 0, .code (c 3 254)], [], .run⟩],
 ⟨(p 38709), g31⟩,
 []⟩
def k31 : List (IC Blk) := [(c 6 6), (.region (r 3 17598 7)), (c 3 25790), .skip, (c 3 7358), (c 3 1214), .skip, (c 3 254)]
theorem h31 : codesSt s31.fr s31.cs s31.ls = k31 := by kernel_rfl
def y49 : T V := (n z116 (n (I 0) (n (A 38767 0) (n (A 38769 0) (o (I 0)) e) (o z117)) (m (o z116) (o z118))) (n (I 0) (m (n (A 38779 0) (o (I 0)) e) (o (A 38778 0))) (n (A 38768 0) (o z117) (o (A 38778 0)))))
def y50 : T V := (n z116 (n (A 38765 0) (o (I 0)) e) (n (A 38766 0) (o z116) e))
def y51 : T V := (n (A 38737 0) (m (n (I 0) (o (A 38737 0)) e) (m (o (A 38737 0)) e)) (n (A 38764 0) (m (o (A 38737 0)) e) (m (o z116) e)))
def y52 : T V := (n z119 (n (I 1) (m (n (A 38763 0) (o z116) (o (A 38737 0))) (n z120 e (o (A 38737 0)))) (n (I 0) (n z119 (o tt) (o (A 38737 0))) (o (I 1)))) (n (A 38710 0) (n (A 38711 0) (n tt (o tt) (o z116)) (o z119)) (n (A 38737 0) (n (A 38737 0) (o ff) (o (A 38737 0))) (o z120))))
def y53 : T V := (n (A 38709 0) (m (n (A 38709 0) (m (n ff e (o (A 38709 25))) (m (o tt) e)) (n ff e (n ff (o (A 38709 0)) e))) (n (A 38709 25) (n ff (m e (o (I 1))) (m (o (A 38709 0)) e)) (m e (m (o (A 38709 0)) e)))) (n (A 38709 0) (n (A 38709 25) (m (n ff e (o (A 38709 27))) (m (o (A 38709 0)) e)) (n ff e (m (o z119) e))) (n (I 13) (n ff e (n ff (o (A 38709 0)) e)) (m (m (o tt) e) (m (o (A 38709 0)) e)))))
def y54 : T V := (n z112 (n z20 (n (A 38680 0) (n z112 (n ff (o z121) e) (o (A 38680 1))) (n ff (o (I 0)) e)) (n (A 38682 0) (n (A 38680 0) (n ff (o (A 38709 0)) e) (o ff)) (n (A 38680 0) (o ff) (o z113)))) (n (A 38679 0) (n (A 38681 0) (n z113 (n ff (o (A 38709 0)) e) (o (I 0))) (n ff (o ff) e)) (n (A 38709 0) (n (I 13) (o (A 38680 1)) (o ff)) (n (I 13) (o ff) (o z20)))))
/-- the memory behind piece 32 -/
def g32 : T Blk := upd [(38783, (ce [ns, ns])), (39359, (ce [(I 2), (I 7), q8, (I 1), (I 6), q1, (I 0), (I 0), q1, (I 0), (I 0), q1, (I 0), (I 0), q1, (I 0), (I 0), q1, (I 0), (I 0), q1, (I 0), (I 0), q1, (I 0), (I 0), q1])), (38735, (ce [(I 2), (I 7), q8, (I 1), (I 6), q1, (I 0), (I 0), q1, (I 0), (I 0), q1, (I 0), (I 0), q1, (I 0), (I 0), q1, (I 0), (I 0), q1, (I 0), (I 0), q1, (I 0), (I 0), q1])), (38767, (ce [(U 38742 0 258 1), ns, (I 0), ff, (I 2), (I 12), (I 0), (I 11), (I 1), (I 2), (I 1), (U 38744 0 1 6)])), (38791, (ce [(U 38773 0 258 1), ns, (I 0), ff, (I 2), (I 1), (U 40180 0 2 5), (U 40181 0 2 1), (U 40184 0 2 1), (U 40185 0 2 1), (U 39978 0 11 2)])), (38711, (ce [ns, ns, (I 0), ff, (I 0), (I 0), (I 0), (I 0), (I 0), (I 0), (I 0), ns])), (38775, (ce [(I 1), (I 0), (I 0), (I 0), (I 0), (U 38777 0 9 3)])), (38731, (ce [(I 1), (I 0), (I 0), (I 0), (I 0), (U 38733 0 9 3), (I 3), (I 1), (I 65537), (I 0), (I 0), (U 38735 0 9 3)])), (38763, (ce [(U 38742 0 258 1), ns, (I 0), ff, (I 2), (I 12), (I 0), (I 11), (I 1), (I 2), (I 1), (U 38744 0 1 6)])), (38779, (ce [(A 38778 0)])), (38785, (ce [ns, ns, (I 0), (I 0), (.map (p 38784)), ff])), (38737, (ce [(U 38742 0 258 1), ns, (I 0), ff, (I 2), (I 12), (I 0), (I 11), (I 1), (I 2), (I 1), (U 38744 0 1 6), (U 38729 0 258 1), ns, (I 0), ff, (I 2), (I 12), (I 0), (I 11), (I 1), (I 2), (I 1), (U 38731 0 2 6)])), (38769, (ce [(I 0)])), (38729, (ce [q0, q4, q5, q6, q7, q11, q13, q14, q15, q9, q16, q17, q18, q0, q0, q0, q0, q0, q0, q0, q0, q0, q0, q0, q0, q0, q0, q0, q0, q0, q0, q0, q0, q0, q0, q0, q0, q0, q0, q0, q0, q0, q0, q0, q0, q0, q0, q0, q0, q0, q0, q0, q0, q0, q0, q0, q0, q0, q0, q0, q0, q0, q0, q0, q0, q0, q0, q0, q0, q0, q0, q0, q0, q0, q0, q0, q0, q0, q0, q0, q0, q0, q0, q0, q0, q0, q0, q0, q0, q0, q0, q0, q0, q0, q0, q0, q0, q0, q0, q0, q0, q0, q0, q0, q0, q0, q0, q0, q0, q0, q0, q0, q0, q0, q0, q0, q0, q0, q0, q0, q0, q0, q0, q0, q0, q0, q0, q0, q0, q0, q0, q0, q0, q0, q0, q0, q0, q0, q0, q0, q0, q0, q0, q0, q0, q0, q0, q0, q0, q0, q0, q0, q0, q0, q0, q0, q0, q0, q0, q0, q0, q0, q0, q0, q0, q0, q0, q0, q0, q0, q0, q0, q0, q0, q0, q0, q0, q0, q0, q0, q0, q0, q0, q0, q0, q0, q0, q0, q0, q0, q0, q0, q0, q0, q0, q0, q0, q0, q0, q0, q0, q0, q0, q0, q0, q0, q0, q0, q0, q0, q0, q0, q0, q0, q0, q0, q0, q0, q0, q0, q0, q0, q0, q0, q0, q0, q0, q0, q0, q0, q0, q0, q0, q0, q0, q0, q0, q0, q0, q0, q0, q0, q0, q0, q0, q0, q0, q0, q0, q0, q0, q0, q0, q0, q0, q0, q0, q0])), (38777, (ce [(I 2), (I 7), q8, (I 1), (I 6), q1, (I 0), (I 0), q1, (I 0), (I 0), q1, (I 0), (I 0), q1, (I 0), (I 0), q1, (I 0), (I 0), q1, (I 0), (I 0), q1, (I 0), (I 0), q1])), (38709, (ce [(U 38689 0 258 1), ns, (I 0), ff, (I 2), (I 12), (I 0), (I 11), (I 1), (I 2), (I 1), (U 38691 0 2 6), (U 38701 0 258 1), ns, (I 0), ff, (I 4), (I 18), (I 0), (I 17), (I 1), (I 2), (I 2), (U 38703 0 2 6), q2, (I 13), (I 0), (I 1), (I 0), (I 0), q1, q1, q1, ns, (I 0), q1, (I 0), (I 0), (I 0), (I 0), (I 0), ns, (I 0)])), (38773, (ce [q0, q4, q5, q6, q7, q11, q13, q14, q15, q9, q16, q17, q18, q0, q0, q0, q0, q0, q0, q0, q0, q0, q0, q0, q0, q0, q0, q0, q0, q0, q0, q0, q0, q0, q0, q0, q0, q0, q0, q0, q0, q0, q0, q0, q0, q0, q0, q0, q0, q0, q0, q0, q0, q0, q0, q0, q0, q0, q0, q0, q0, q0, q0, q0, q0, q0, q0, q0, q0, q0, q0, q0, q0, q0, q0, q0, q0, q0, q0, q0, q0, q0, q0, q0, q0, q0, q0, q0, q0, q0, q0, q0, q0, q0, q0, q0, q0, q0, q0, q0, q0, q0, q0, q0, q0, q0, q0, q0, q0, q0, q0, q0, q0, q0, q0, q0, q0, q0, q0, q0, q0, q0, q0, q0, q0, q0, q0, q0, q0, q0, q0, q0, q0, q0, q0, q0, q0, q0, q0, q0, q0, q0, q0, q0, q0, q0, q0, q0, q0, q0, q0, q0, q0, q0, q0, q0, q0, q0, q0, q0, q0, q0, q0, q0, q0, q0, q0, q0, q0, q0, q0, q0, q0, q0, q0, q0, q0, q0, q0, q0, q0, q0, q0, q0, q0, q0, q0, q0, q0, q0, q0, q0, q0, q0, q0, q0, q0, q0, q0, q0, q0, q0, q0, q0, q0, q0, q0, q0, q0, q0, q0, q0, q0, q0, q0, q0, q0, q0, q0, q0, q0, q0, q0, q0, q0, q0, q0, q0, q0, q0, q0, q0, q0, q0, q0, q0, q0, q0, q0, q0, q0, q0, q0, q0, q0, q0, q0, q0, q0, q0, q0, q0, q0, q0, q0, q0, q0, q0])), (38733, (ce [(I 2), (I 7), q8, (I 1), (I 6), q1, (I 0), (I 0), q1, (I 0), (I 0), q1, (I 0), (I 0), q1, (I 0), (I 0), q1, (I 0), (I 0), q1, (I 0), (I 0), q1, (I 0), (I 0), q1])), (38765, (ce [(U 38742 0 258 1), ns, (I 0), ff, (I 2), (I 12), (I 0), (I 11), (I 1), (I 2), (I 1), (U 38744 0 1 6)])), (38781, (ce [ns, ns])), (38784, (.map [] 0)), (38768, (ce [ns, ns, (I 0), ff, (I 0), (I 0), (I 0), (I 0), (I 0), (I 0), (I 0), ns])), (38744, (ce [(I 1), (I 0), (I 0), (I 0), (I 0), (U 38746 0 9 3), (I 0), (I 0), (I 0), (I 0), (I 0), ns])), (38764, (ce [ns, ns, (I 0), ff, (I 0), (I 0), (I 0), (I 0), (I 0), (I 0), (I 0), ns])), (38780, (ce [ns, ns])), (38786, (ce [(U 38773 0 258 1), ns, (I 0), ff])), (39978, (ce [(I 12), (I 2), (I 10), (I 2), (I 9), (I 2), (I 6), (I 2), (I 7), (I 2), (I 8), (I 2), (I 11), (I 2), (I 9), (I 2), (I 6), (I 2), (I 7), (I 2), (I 8), (I 2)])), (38746, (ce [(I 2), (I 7), q8, (I 1), (I 6), q1, (I 0), (I 0), q1, (I 0), (I 0), q1, (I 0), (I 0), q1, (I 0), (I 0), q1, (I 0), (I 0), q1, (I 0), (I 0), q1, (I 0), (I 0), q1])), (38778, (ce [(U 38773 0 258 1), ns, (I 0), ff, (I 2), (I 12), (I 0), (I 11), (I 1), (I 2), (I 1), (U 38775 0 1 6)])), (38742, (ce [q0, q4, q5, q6, q7, q11, q13, q14, q15, q9, q16, q17, q18, q0, q0, q0, q0, q0, q0, q0, q0, q0, q0, q0, q0, q0, q0, q0, q0, q0, q0, q0, q0, q0, q0, q0, q0, q0, q0, q0, q0, q0, q0, q0, q0, q0, q0, q0, q0, q0, q0, q0, q0, q0, q0, q0, q0, q0, q0, q0, q0, q0, q0, q0, q0, q0, q0, q0, q0, q0, q0, q0, q0, q0, q0, q0, q0, q0, q0, q0, q0, q0, q0, q0, q0, q0, q0, q0, q0, q0, q0, q0, q0, q0, q0, q0, q0, q0, q0, q0, q0, q0, q0, q0, q0, q0, q0, q0, q0, q0, q0, q0, q0, q0, q0, q0, q0, q0, q0, q0, q0, q0, q0, q0, q0, q0, q0, q0, q0, q0, q0, q0, q0, q0, q0, q0, q0, q0, q0, q0, q0, q0, q0, q0, q0, q0, q0, q0, q0, q0, q0, q0, q0, q0, q0, q0, q0, q0, q0, q0, q0, q0, q0, q0, q0, q0, q0, q0, q0, q0, q0, q0, q0, q0, q0, q0, q0, q0, q0, q0, q0, q0, q0, q0, q0, q0, q0, q0, q0, q0, q0, q0, q0, q0, q0, q0, q0, q0, q0, q0, q0, q0, q0, q0, q0, q0, q0, q0, q0, q0, q0, q0, q0, q0, q0, q0, q0, q0, q0, q0, q0, q0, q0, q0, q0, q0, q0, q0, q0, q0, q0, q0, q0, q0, q0, q0, q0, q0, q0, q0, q0, q0, q0, q0, q0, q0, q0, q0, q0, q0, q0, q0, q0, q0, q0, q0, q0, q0])), (38710, (ce [(U 38689 0 258 1), ns, (I 0), ff, (I 2), (I 12), (I 0), (I 11), (I 1), (I 2), (I 1), (U 38691 0 2 6)])), (38766, (ce [ns, ns, (I 0), ff, (I 0), (I 0), (I 0), (I 0), (I 0), (I 0), (I 0), ns])), (39998, (ce [(I 2), (I 7), q8, (I 1), (I 6), q1, (I 0), (I 0), q1, (I 0), (I 0), q1, (I 0), (I 0), q1, (I 0), (I 0), q1, (I 0), (I 0), q1, (I 0), (I 0), q1, (I 0), (I 0), q1]))] (del [] g31)
/-- the state behind piece 32; its texts -/
def s32 : St :=
⟨⟨⟨156, 24, false, none⟩,
  (n z115 (n (I 12) (m (o tt) (o (I 12))) (n ff (o (.tup [(A 38791 0), tt])) (o (A 38791 0)))) (n (A 38787 0) (n ns e (o (.tup [(A 38791 0), tt]))) (n (A 38791 0) (o z115) (o tt)))),
  [.code (c 156 6)], [], .run⟩,
 [⟨⟨228, 83, false, none⟩,
  (n (A 38785 0) (n z115 (n (I 0) (m e (o (I 12))) e) e) (n (I 12) (o (I 0)) (n (A 38786 0) e (m (o z115) e)))),
  [.reg (r 228 4 2), .code (c 228 6)], [], .run⟩,
 ⟨⟨185, 70, false, none⟩,
  (n z115 (n (I 12) (n (I 0) (n (A 38782 0) (n ff (o (I 0)) e) (n (I 0) (o (A 38785 0)) e)) (m (n (U 38775 0 1 6) (o (I 0)) e) (n (I 0) (o (I 0)) e))) (n (I 0) (m (m (o ff) e) (n ff (o z115) e)) (m (n ff (o (.map (p 38784))) e) (o ff)))) (n (I 0) (n (I 0) (m (n (A 38785 0) (o ff) e) (n ff (o (A 38785 0)) e)) (m (n (I 1) (o (I 0)) e) (n ff (o (I 0)) e))) (n (U 38775 0 1 6) (m e (n ff (o (I 12)) e)) (n (A 38783 0) (n ff (o (.agg [ns, ns, (I 0), (I 0), (.map (p 38784)), ff])) e) (o ff))))),
  [.reg (r 185 22 5), .code (c 185 30)], [], .run⟩,
 ⟨⟨136, 40, false, none⟩,
  (n (A 38778 0) (n (I 0) (n (I 0) (m (n (A 38778 0) (o (A 38778 11)) e) (o (I 12))) (n (A 38781 0) (o (A 38778 0)) (o (I 0)))) (m (m (o (A 38778 0)) (o (I 0))) (m (o (A 38778 0)) (o (A 38778 0))))) (n (I 0) (n (I 0) (m (n (A 38778 0) (o (U 38775 0 1 6)) e) (o (I 0))) (m (o (A 38778 0)) (o (A 38778 0)))) (m (n (A 38780 0) (o z115) (o (I 0))) (n (A 38778 0) (o (A 38778 5)) (o (A 38778 0)))))),
  [.reg (r 136 4 20), .code (c 136 6)], [], .run⟩,
 ⟨⟨75, 164, false, none⟩,
  (n (A 38778 0) (n (I 0) (m (m (o (A 38778 3)) e) (n (A 38778 0) (o (I 0)) e)) (m (m (o tn) e) (o (A 38778 0)))) (n (I 0) (m (m (o ff) e) (n (A 38778 0) (o (I 0)) e)) (m (m (o (A 38778 0)) e) (o (A 38778 0))))),
  [.reg (r 75 4 3), .code (c 75 6)], [], .run⟩,
 ⟨⟨36, 22, false, none⟩,
  y49,
  [.reg (r 36 22 3), .code (c 36 30)], [.call 74 [(A 38767 0), (A 38768 0), (A 38769 0), (A 38779 0)]], .run⟩,
 ⟨⟨17, 8, false, none⟩,
  y50,
  [.reg (r 17 4 1), .code .ret], [], .run⟩,
 ⟨⟨49, 31, false, none⟩,
  y51,
  [.reg (r 49 4 4), .code (c 49 6)], [], .run⟩,
 ⟨⟨21, 31, false, none⟩,
  y52,
  [.reg (r 21 94 1), .code .ret], [], .run⟩,
 ⟨⟨11, 135, false, none⟩,
  y53,
  [.reg (r 11 1532 11), .inBlock 0], [], .run⟩,
 ⟨⟨6, 43, false, none⟩,
  y54,
  [.reg (r 6 46 1), .code (c 6 62)], [], .run⟩,
 ⟨⟨3, 107, false, none⟩,
  y48,
  [.reg (r 3 17598 7), .code (c 3 25790), .inBlock 1, .code (c 3 7358), .inLoop (c 3 1214), .inBlock 0, .code (c 3 254)], [], .run⟩],
 ⟨(p 40186), g32⟩,
 []⟩
def k32 : List (IC Blk) := [(c 156 6), (.region (r 228 4 2)), (c 228 6), (.region (r 185 22 5)), (c 185 30), (.region (r 136 4 20)), (c 136 6), (.region (r 75 4 3)), (c 75 6), (.region (r 36 22 3)), (c 36 30), (.region (r 17 4 1)), .ret, (.region (r 49 4 4)), (c 49 6), (.region (r 21 94 1)), .ret, (.region (r 11 1532 11)), .skip, (.region (r 6 46 1)), (c 6 62), (.region (r 3 17598 7)), (c 3 25790), .skip, (c 3 7358), (c 3 1214), .skip, (c 3 254)]
theorem h32 : codesSt s32.fr s32.cs s32.ls = k32 := by kernel_rfl
def y55 : T V := (n (A 41097 0) (n z115 (n (I 0) (m e (o (I 12))) e) e) (n (I 12) (o (I 0)) (n (A 41098 0) e (m (o z115) e))))
def y56 : T V := (n z115 (n (I 12) (n (I 13) (n (A 41094 0) (n ff (o (I 13)) e) (n (I 3) (o (A 41097 0)) e)) (m (n (U 38775 0 1 6) (o (I 3)) e) (n (I 3) (o (I 0)) e))) (n (I 0) (m (m (o ff) e) (n ff (o z115) e)) (m (n ff (o (.map (p 41096))) e) (o ff)))) (n (I 3) (n (I 0) (m (n (A 41097 0) (o ff) e) (n ff (o (A 41097 0)) e)) (m (n (I 1) (o (I 13)) e) (n ff (o (I 0)) e))) (n (U 38775 0 1 6) (m e (n ff (o (I 12)) e)) (n (A 41095 0) (n ff (o (.agg [ns, ns, (I 3), (I 13), (.map (p 41096)), ff])) e) (o ff)))))
def y57 : T V := (n (A 38778 0) (n (I 3) (n (I 0) (m (n (A 38778 0) (o (A 38778 11)) e) (o (I 12))) (n (A 41093 0) (o (A 38778 0)) (o (I 0)))) (m (m (o (A 38778 0)) (o (I 13))) (m (o (A 38778 0)) (o (A 38778 0))))) (n (I 13) (n (I 0) (m (n (A 38778 0) (o (U 38775 0 1 6)) e) (o (I 3))) (m (o (A 38778 0)) (o (A 38778 0)))) (m (n (A 41092 0) (o z115) (o (I 0))) (n (A 38778 0) (o (A 38778 5)) (o (A 38778 0))))))
def y58 : T V := (n (A 38778 0) (n (I 0) (m (n (A 41091 0) (n (A 38778 3) (o (A 38778 0)) e) (n (A 38778 0) (o (A 38778 0)) e)) (n (A 38778 0) (n (I 0) (o (A 38778 0)) e) (n (I 3) (o (I 11)) e))) (m (m (n tn (o (A 38778 0)) e) (n (A 38778 4) (o (A 38778 0)) e)) (n (A 38778 0) (n (.agg [ns, (U 41090 0 1 2)]) (o (I 0)) e) (n ff (o (I 0)) e)))) (n (I 0) (m (m (n ff (o (I 3)) e) (n (A 38778 0) (o (A 38778 0)) e)) (n (A 38778 0) (n (I 0) (o (A 38778 6)) e) (n (I 3) (o (I 13)) e))) (n (I 3) (m (n (A 38778 0) (o (A 38778 0)) e) (n (I 2) (o (A 38778 7)) e)) (n (A 38778 0) (n (A 38778 0) (o (I 2)) e) (n tn (o (I 0)) e)))))
/-- the memory behind piece 33 -/
def g33 : T Blk := upd [(41103, (ce [(U 38773 0 258 1), ns, (I 0), ff, (I 0), (I 0), ns, ns, ns, ns, (U 41140 0 1 2)])), (41095, (ce [ns, ns])), (41091, (ce [ns, ns])), (41099, (ce [(U 38773 0 258 1), ns, (I 0), ff])), (41097, (ce [ns, ns, (I 3), (I 13), (.map (p 41096)), ff])), (41093, (ce [ns, ns])), (41101, (ce [(A 41103 0)])), (41149, (ce [(I 10), (I 2), (I 11), (I 2)])), (41096, (.map [] 0)), (41092, (ce [ns, ns])), (41140, (ce [(I 12), (I 2)])), (41090, (ce [(I 10), (I 2)])), (41098, (ce [(U 38773 0 258 1), ns, (I 0), ff])), (41094, (ce [(U 38773 0 258 1), ns, (I 0), ff])), (41102, (ce [ff]))] (del [38784, 38785, 38786, 38791, 39978, 39998, 39359, 38780, 38781, 38783] g32)
/-- the state behind piece 33; its texts -/
def s33 : St :=
⟨⟨⟨235, 42, false, none⟩,
  (n (A 41103 0) (n (I 12) (m (n tt (o (.tup [(I 2), (I 1), (U 41149 0 2 2), tt])) e) (n (A 41103 0) (o tt) e)) (n (I 1) (m (o (I 1)) e) (o z91))) (m (n (I 2) (m (o (I 2)) e) (o (I 12))) (n (U 41149 0 2 2) (n (.tup [(I 2), (I 1), (U 41149 0 2 2), tt]) (o (U 41149 0 2 2)) e) (o (.agg [(I 4), (I 2), q25]))))),
  [.code (c 235 2)], [], .run⟩,
 [⟨⟨201, 14, false, none⟩,
  (n z115 (n (I 12) (m (o z115) (o (I 12))) (n (A 41102 0) (o (A 41103 0)) e)) (n (A 41100 0) (n (A 41101 0) (o (.agg [(U 38773 0 258 1), ns, (I 0), ff, (I 0), (I 0), ns, ns, ns, ns, ns])) e) (n (.fn 234 [(A 41101 0), (A 41102 0)]) (o (A 41103 0)) e))),
  [.reg (r 201 22 2), .code (c 201 30)], [.call 234 [(A 41101 0), (A 41102 0)]], .run⟩,
 ⟨⟨156, 24, false, none⟩,
  (n z115 (n (I 12) (m e (o (I 12))) (o ff)) (n (A 41099 0) (o ns) (m (o z115) e))),
  [.reg (r 156 4 2), .code (c 156 6)], [], .run⟩,
 ⟨⟨228, 83, false, none⟩,
  y55,
  [.reg (r 228 4 2), .code (c 228 6)], [], .run⟩,
 ⟨⟨185, 70, false, none⟩,
  y56,
  [.reg (r 185 22 5), .code (c 185 30)], [], .run⟩,
 ⟨⟨136, 40, false, none⟩,
  y57,
  [.reg (r 136 4 20), .code (c 136 6)], [], .run⟩,
 ⟨⟨75, 164, false, none⟩,
  y58,
  [.reg (r 75 46 19), .code (c 75 62)], [], .run⟩,
 ⟨⟨36, 22, false, none⟩,
  y49,
  [.reg (r 36 22 3), .code (c 36 30)], [.call 74 [(A 38767 0), (A 38768 0), (A 38769 0), (A 38779 0)]], .run⟩,
 ⟨⟨17, 8, false, none⟩,
  y50,
  [.reg (r 17 4 1), .code .ret], [], .run⟩,
 ⟨⟨49, 31, false, none⟩,
  y51,
  [.reg (r 49 4 4), .code (c 49 6)], [], .run⟩,
 ⟨⟨21, 31, false, none⟩,
  y52,
  [.reg (r 21 94 1), .code .ret], [], .run⟩,
 ⟨⟨11, 135, false, none⟩,
  y53,
  [.reg (r 11 1532 11), .inBlock 0], [], .run⟩,
 ⟨⟨6, 43, false, none⟩,
  y54,
  [.reg (r 6 46 1), .code (c 6 62)], [], .run⟩,
 ⟨⟨3, 107, false, none⟩,
  y48,
  [.reg (r 3 17598 7), .code (c 3 25790), .inBlock 1, .code (c 3 7358), .inLoop (c 3 1214), .inBlock 0, .code (c 3 254)], [], .run⟩],
 ⟨(p 41220), g33⟩,
 []⟩
def k33 : List (IC Blk) := [(c 235 2), (.region (r 201 22 2)), (c 201 30), (.region (r 156 4 2)), (c 156 6), (.region (r 228 4 2)), (c 228 6), (.region (r 185 22 5)), (c 185 30), (.region (r 136 4 20)), (c 136 6), (.region (r 75 46 19)), (c 75 62), (.region (r 36 22 3)), (c 36 30), (.region (r 17 4 1)), .ret, (.region (r 49 4 4)), (c 49 6), (.region (r 21 94 1)), .ret, (.region (r 11 1532 11)), .skip, (.region (r 6 46 1)), (c 6 62), (.region (r 3 17598 7)), (c 3 25790), .skip, (c 3 7358), (c 3 1214), .skip, (c 3 254)]
theorem h33 : codesSt s33.fr s33.cs s33.ls = k33 := by kernel_rfl
/-- the memory behind piece 34 -/
def g34 : T Blk := upd [(41103, (ce [(U 38773 0 258 1), ns, (I 0), ff, (I 2), (I 1), (U 42492 0 2 5), (U 42493 0 2 1), (U 42496 0 2 1), (U 42497 0 2 1), (U 42290 0 11 2)])), (41671, (ce [(I 2), (I 7), q8, (I 1), (I 6), q1, (I 0), (I 0), q1, (I 0), (I 0), q1, (I 0), (I 0), q1, (I 0), (I 0), q1, (I 0), (I 0), q1, (I 0), (I 0), q1, (I 0), (I 0), q1])), (42290, (ce [(I 12), (I 2), (I 10), (I 2), (I 9), (I 2), (I 6), (I 2), (I 7), (I 2), (I 8), (I 2), (I 11), (I 2), (I 9), (I 2), (I 6), (I 2), (I 7), (I 2), (I 8), (I 2)])), (42310, (ce [(I 2), (I 7), q8, (I 1), (I 6), q1, (I 0), (I 0), q1, (I 0), (I 0), q1, (I 0), (I 0), q1, (I 0), (I 0), q1, (I 0), (I 0), q1, (I 0), (I 0), q1, (I 0), (I 0), q1]))] (del [41094, 41099, 41101, 41102, 41140, 41149] g33)
/-- the state behind piece 34; its texts -/
def s34 : St :=
⟨⟨⟨156, 24, false, none⟩,
  (n z115 (n (I 12) (m (o tt) (o (I 12))) (n ff (o (.tup [(A 41103 0), tt])) (o (A 41103 0)))) (n (A 41099 0) (n ns e (o (.tup [(A 41103 0), tt]))) (n (A 41103 0) (o z115) (o tt)))),
  [.code (c 156 6)], [], .run⟩,
 [⟨⟨228, 83, false, none⟩,
  y55,
  [.reg (r 228 4 2), .code (c 228 6)], [], .run⟩,
 ⟨⟨185, 70, false, none⟩,
  y56,
  [.reg (r 185 22 5), .code (c 185 30)], [], .run⟩,
 ⟨⟨136, 40, false, none⟩,
  y57,
  [.reg (r 136 4 20), .code (c 136 6)], [], .run⟩,
 ⟨⟨75, 164, false, none⟩,
  y58,
  [.reg (r 75 46 19), .code (c 75 62)], [], .run⟩,
 ⟨⟨36, 22, false, none⟩,
  y49,
  [.reg (r 36 22 3), .code (c 36 30)], [.call 74 [(A 38767 0), (A 38768 0), (A 38769 0), (A 38779 0)]], .run⟩,
 ⟨⟨17, 8, false, none⟩,
  y50,
  [.reg (r 17 4 1), .code .ret], [], .run⟩,
 ⟨⟨49, 31, false, none⟩,
  y51,
  [.reg (r 49 4 4), .code (c 49 6)], [], .run⟩,
 ⟨⟨21, 31, false, none⟩,
  y52,
  [.reg (r 21 94 1), .code .ret], [], .run⟩,
 ⟨⟨11, 135, false, none⟩,
  y53,
  [.reg (r 11 1532 11), .inBlock 0], [], .run⟩,
 ⟨⟨6, 43, false, none⟩,
  y54,
  [.reg (r 6 46 1), .code (c 6 62)], [], .run⟩,
 ⟨⟨3, 107, false, none⟩,
  y48,
  [.reg (r 3 17598 7), .code (c 3 25790), .inBlock 1, .code (c 3 7358), .inLoop (c 3 1214), .inBlock 0, .code (c 3 254)], [], .run⟩],
 ⟨(p 42498), g34⟩,
 []⟩
def k34 : List (IC Blk) := [(c 156 6), (.region (r 228 4 2)), (c 228 6), (.region (r 185 22 5)), (c 185 30), (.region (r 136 4 20)), (c 136 6), (.region (r 75 46 19)), (c 75 62), (.region (r 36 22 3)), (c 36 30), (.region (r 17 4 1)), .ret, (.region (r 49 4 4)), (c 49 6), (.region (r 21 94 1)), .ret, (.region (r 11 1532 11)), .skip, (.region (r 6 46 1)), (c 6 62), (.region (r 3 17598 7)), (c 3 25790), .skip, (c 3 7358), (c 3 1214), .skip, (c 3 254)]
theorem h34 : codesSt s34.fr s34.cs s34.ls = k34 := by kernel_rfl
/-- the memory behind piece 35 -/
def g35 : T Blk := upd [(43447, (ce [(I 12), (I 2)])), (41091, (ce [ns, (U 43402 0 1 2)])), (43403, (ce [ns, (U 43402 0 1 2)])), (43409, (ce [ff])), (43456, (ce [(I 10), (I 2), (I 11), (I 2)])), (43408, (ce [(A 43410 0)])), (43404, (ce [(I 0), (I 0), ns, ns, ns, ns])), (43410, (ce [(U 38773 0 258 1), ns, (I 0), ff, (I 0), (I 0), ns, ns, ns, ns, (U 43447 0 1 2)])), (43402, (ce [(I 10), (I 2)])), (43406, (ce [(I 0), (I 0), ns, ns, ns, ns]))] (del [41090, 41092, 41093, 41095, 41096, 41097, 41098, 41103, 38679, 38680, 38689, 38691, 38693, 38695, 42290, 38710, 42310, 41671, 38729, 38731, 38733, 38735, 38737, 38742, 38744, 38746, 38763, 38765, 38767] g34)
/-- the state behind piece 35; its texts -/
def s35 : St :=
⟨⟨⟨235, 42, false, none⟩,
  (n (A 43410 0) (n (I 12) (m (n tt (o (.tup [(I 2), (I 1), (U 43456 0 2 2), tt])) e) (n (A 43410 0) (o tt) e)) (n (I 1) (m (o (I 1)) e) (o z91))) (m (n (I 2) (m (o (I 2)) e) (o (I 12))) (n (U 43456 0 2 2) (n (.tup [(I 2), (I 1), (U 43456 0 2 2), tt]) (o (U 43456 0 2 2)) e) (o (.agg [(I 4), (I 2), q25]))))),
  [.code (c 235 2)], [], .run⟩,
 [⟨⟨201, 14, false, none⟩,
  (n z115 (n (I 12) (m (o z115) (o (I 12))) (n (A 43409 0) (o (A 43410 0)) e)) (n (A 43407 0) (n (A 43408 0) (o (.agg [(U 38773 0 258 1), ns, (I 0), ff, (I 0), (I 0), ns, ns, ns, ns, ns])) e) (n (.fn 234 [(A 43408 0), (A 43409 0)]) (o (A 43410 0)) e))),
  [.reg (r 201 22 2), .code (c 201 30)], [.call 234 [(A 43408 0), (A 43409 0)]], .run⟩,
 ⟨⟨168, 19, false, none⟩,
  (n z115 (n (I 12) e (n ff (o z115) e)) (n (A 43405 0) (o (A 43406 0)) (m (o (I 12)) e))),
  [.reg (r 168 4 2), .code (c 168 6)], [], .run⟩,
 ⟨⟨137, 72, false, none⟩,
  (n (A 38778 0) (n (.agg [ns, (U 43402 0 1 2)]) (n (A 43403 0) (m (o (A 38778 0)) e) (m (o (A 38778 0)) e)) (n (A 43404 0) (m (o (A 38778 0)) e) (n (A 38778 0) (o (I 12)) e))) (m (n ff (m (o z115) e) (n (A 38778 0) (o (A 38778 5)) e)) (m (m (o (A 38778 0)) e) (o (A 38778 0))))),
  [.reg (r 137 8 11), .code (c 137 12), .code (c 137 6)], [], .run⟩,
 ⟨⟨75, 164, false, none⟩,
  (n (A 38778 0) (n (I 0) (m (n (A 41091 0) (n (A 38778 3) (n (A 38778 0) (o tt) e) (o (.agg [ns, (U 43402 0 1 2)]))) (n (A 38778 0) (o (A 38778 0)) (o ff))) (n (A 38778 0) (n (I 0) (o (A 38778 0)) (o (A 38778 5))) (n (I 3) (o (I 11)) (o (A 38778 5))))) (m (m (n tn (n (A 38778 0) (o (A 38778 0)) e) (o (A 38778 0))) (n (A 38778 4) (o (A 38778 0)) (o (A 38778 0)))) (n (A 38778 0) (n (.agg [ns, (U 41090 0 1 2)]) (o (I 0)) (o (I 0))) (n ff (o (I 0)) (o (I 0)))))) (n (I 0) (m (m (n ff (n (I 3) (o tt) e) (o (A 38778 0))) (n (A 38778 0) (o (A 38778 0)) (o (A 38778 0)))) (n (A 38778 0) (n (I 0) (o (A 38778 6)) (o (I 12))) (n (I 3) (o (I 13)) (o (I 12))))) (n (I 3) (m (n (A 38778 0) (n (A 38778 0) (o (.agg [ns, (U 43402 0 1 2)])) e) (o (A 38778 0))) (n (I 2) (o (A 38778 7)) (o (A 38778 0)))) (n (A 38778 0) (n (A 38778 0) (o (I 2)) (o ff)) (n tn (o (I 0)) (o tt)))))),
  [.reg (r 75 158 19), .code (c 75 222), .code (c 75 126)], [], .run⟩,
 ⟨⟨36, 22, false, none⟩,
  y49,
  [.reg (r 36 22 3), .code (c 36 30)], [.call 74 [(A 38767 0), (A 38768 0), (A 38769 0), (A 38779 0)]], .run⟩,
 ⟨⟨17, 8, false, none⟩,
  y50,
  [.reg (r 17 4 1), .code .ret], [], .run⟩,
 ⟨⟨49, 31, false, none⟩,
  y51,
  [.reg (r 49 4 4), .code (c 49 6)], [], .run⟩,
 ⟨⟨21, 31, false, none⟩,
  y52,
  [.reg (r 21 94 1), .code .ret], [], .run⟩,
 ⟨⟨11, 135, false, none⟩,
  y53,
  [.reg (r 11 1532 11), .inBlock 0], [], .run⟩,
 ⟨⟨6, 43, false, none⟩,
  y54,
  [.reg (r 6 46 1), .code (c 6 62)], [], .run⟩,
 ⟨⟨3, 107, false, none⟩,
  y48,
  [.reg (r 3 17598 7), .code (c 3 25790), .inBlock 1, .code (c 3 7358), .inLoop (c 3 1214), .inBlock 0, .code (c 3 254)], [], .run⟩],
 ⟨(p 43527), g35⟩,
 []⟩
def k35 : List (IC Blk) := [(c 235 2), (.region (r 201 22 2)), (c 201 30), (.region (r 168 4 2)), (c 168 6), (.region (r 137 8 11)), (c 137 12), (c 137 6), (.region (r 75 158 19)), (c 75 222), (c 75 126), (.region (r 36 22 3)), (c 36 30), (.region (r 17 4 1)), .ret, (.region (r 49 4 4)), (c 49 6), (.region (r 21 94 1)), .ret, (.region (r 11 1532 11)), .skip, (.region (r 6 46 1)), (c 6 62), (.region (r 3 17598 7)), (c 3 25790), .skip, (c 3 7358), (c 3 1214), .skip, (c 3 254)]
theorem h35 : codesSt s35.fr s35.cs s35.ls = k35 := by kernel_rfl
/-- the memory behind piece 36 -/
def g36 : T Blk := upd [(45009, (ce [q0, q4, q5, q6, q7, q11, q13, q14, q15, q9, q16, q17, q18, q46, q0, q0, q0, q0, q0, q0, q0, q0, q0, q0, q0, q0, q0, q0, q0, q0, q0, q0, q0, q0, q0, q0, q0, q0, q0, q0, q0, q0, q0, q0, q0, q0, q0, q0, q0, q0, q0, q0, q0, q0, q0, q0, q0, q0, q0, q0, q0, q0, q0, q0, q0, q0, q0, q0, q0, q0, q0, q0, q0, q0, q0, q0, q0, q0, q0, q0, q0, q0, q0, q0, q0, q0, q0, q0, q0, q0, q0, q0, q0, q0, q0, q0, q0, q0, q0, q0, q0, q0, q0, q0, q0, q0, q0, q0, q0, q0, q0, q0, q0, q0, q0, q0, q0, q0, q0, q0, q0, q0, q0, q0, q0, q0, q0, q0, q0, q0, q0, q0, q0, q0, q0, q0, q0, q0, q0, q0, q0, q0, q0, q0, q0, q0, q0, q0, q0, q0, q0, q0, q0, q0, q0, q0, q0, q0, q0, q0, q0, q0, q0, q0, q0, q0, q0, q0, q0, q0, q0, q0, q0, q0, q0, q0, q0, q0, q0, q0, q0, q0, q0, q0, q0, q0, q0, q0, q0, q0, q0, q0, q0, q0, q0, q0, q0, q0, q0, q0, q0, q0, q0, q0, q0, q0, q0, q0, q0, q0, q0, q0, q0, q0, q0, q0, q0, q0, q0, q0, q0, q0, q0, q0, q0, q0, q0, q0, q0, q0, q0, q0, q0, q0, q0, q0, q0, q0, q0, q0, q0, q0, q0, q0, q0, q0, q0, q0, q0, q0, q0, q0, q0, q0, q0, q0, q0, q0])), (38677, (ce [(U 45009 0 258 1), ns, (I 0), ff, (I 3), (I 13), (I 0), (I 12), (I 1), (I 2), (I 1), (U 38775 0 1 6), (U 38701 0 258 1), ns, (I 0), ff, (I 4), (I 18), (I 0), (I 17), (I 1), (I 2), (I 2), (U 38703 0 2 6), q2]))] (del [41091, 43402, 43403, 43404, 43406, 43408, 43409, 43410, 38674, 35477, 35479, 38681, 35481, 38682, 35483, 35619, 38709, 43447, 38711, 43456, 4822, 4824, 5849, 37596, 36957, 38764, 38766, 38768, 38769, 5873, 5875, 6900, 38773, 38778, 38779, 35452] g35)
/-- the state behind piece 36; its texts -/
def s36 : St :=
⟨⟨⟨3, 107, false, none⟩,
  (n ff (n (A 6908 0) (n (S 6909 0 33 33) (n (A 38678 0) (n ff (n z17 (o (.tup [z122, z5])) e) (n z20 (o z112) e)) (n z21 (n z22 (o z5) e) (o tt))) (n z24 (n z25 (n z26 (o (A 6909 270)) e) (o (I 30))) (n z27 (n z28 (o (I 29)) e) (o tt)))) (n (I 30) (n ff (n z29 (n z30 (o (S 6909 0 33 33)) e) (o (S 6909 0 33 33))) (n z21 (n z31 (o (I 0)) e) (o (S 6910 0 33 33)))) (n tt (n z32 (n z26 (o (.tup [z122, z5])) e) (o (I 33))) (n z33 (n z34 (o (I 0)) e) (o (I 29)))))) (n tt (n (S 6910 0 33 33) (n tt (n z13 (n z35 (o z112) e) (o z36)) (n z37 (n z38 (o (A 35452 0)) e) (o (I 30)))) (n z23 (n z9 (n z39 (o z20) e) (o (S 6909 0 33 33))) (n z40 (n z41 (o (A 6910 29)) e) (o tt)))) (n (A 38677 0) (n z24 (n z42 (n z43 (o (I 30)) e) (o (S 6910 0 33 33))) (n z44 (n z20 (o (S 6910 0 33 33)) e) (o (I 33)))) (n tt (n z27 (n z22 (o z122) e) (o tt)) (n z27 (n z20 (o ff) e) (o (I 30))))))),
  [.code (c 3 25790), .inBlock 1, .code (c 3 7358), .inLoop (c 3 1214), .inBlock 0, .code (c 3 254)], [], .run⟩,
 [],
 ⟨(p 45018), g36⟩,
 []⟩
def k36 : List (IC Blk) := [(c 3 25790), .skip, (c 3 7358), (c 3 1214), .skip, (c 3 254)]
theorem h36 : codesSt s36.fr s36.cs s36.ls = k36 := by kernel_rfl
end
end Go.Proofs.YtdaojpbjbfbnaaaGreatDoor.playForms
