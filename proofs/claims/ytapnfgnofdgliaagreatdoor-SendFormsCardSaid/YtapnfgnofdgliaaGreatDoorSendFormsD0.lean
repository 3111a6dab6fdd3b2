/- The run of 'sendForms' is cut into 25 pieces; this text names what the states between them are made of. It holds for this program alone. -/
import Derived.Test.YtapnfgnofdgliaaGreatDoorEvI
import Derived.WalkKit
import Derived.Test.YtapnfgnofdgliaaGreatDoorProg
namespace Go.Proofs.YtapnfgnofdgliaaGreatDoor.sendForms
open Go.Ev Go.Ev.Lit
set_option maxRecDepth 100000
noncomputable section
/-- a piece of the program's text -/
def c (f q : Nat) : IC Blk := codeAt Tryz.prog f (pa! q)
def r (f q n : Nat) : List (RS Blk) := regAt Tryz.prog f (pa! q) n
def F : Nat → Option FnI := fnsOf Tryz.prog [(182, repI), (221, insI 2), (257, cntI), (258, idxI), (192, joinI), (214, rowI crcTab)]
def A (a o : Nat) : V := .ptr (pa! a) o
def S (a o n c : Nat) : V := .sl (pa! a) o n (.ex c)
def U (a o n s : Nat) : V := .sl (pa! a) o n (.un s)
def I (n : Nat) : V := .int .i64 (.ofNat n)
def ns : V := .no .sl
def nf : V := .no .fn
def nm : V := .no .map
def np : V := .no .ptr
def ni : V := .no .iface
end
noncomputable section
def q0 : V := .str (st 64 0)
def q1 : V := .str (st 0 0)
def q2 : V := .str (st 21 174239193371474746385129941889714023825410)
def q3 : V := .str (st 15 309503917734020625310154753)
def q4 : V := .str (st 24 2923204068480878543775890133520991435791630598403)
def q5 : V := .str (st 24 2923204068480878543775890133520919377098081042433)
def q6 : V := .str (st 5 83951618)
def q7 : V := .str (st 5 13002473473)
def q8 : V := .str (st 5 10217390337)
def q9 : V := .str (st 7 31362935228465410)
def q10 : V := .str (st 5 478560413032)
def q11 : V := .str (st 24 2923181681303958815392843670355575645610705289217)
def q12 : V := .str (st 3 155905)
def q13 : V := .str (st 24 66989347881523629671253778717447617180073985)
def q14 : V := .str (st 3 1281)
def q15 : V := .str (st 64 89202980794122492572187502188965659060207877)
def q16 : V := .str (st 64 33093459155207470448897)
def q17 : V := .str (st 64 1208962713393047663542530)
def q18 : V := .str (st 64 411394995155436324435255536741159683649879211374862176134103299)
def q19 : V := .str (st 64 87117608036040246053868963173866938564868)
def q20 : V := .str (st 24 4384861811028171176341565716265110935284555448321)
def q21 : V := .str (st 5 10234167553)
def q22 : V := .str (st 5 21558788098)
def q23 : V := .str (st 3 3309103)
def q24 : V := .str (st 24 44602170961795088161212029927353159077855233)
def q25 : V := .str (st 5 117571585)
def q26 : V := .str (st 8 4295098369)
def q27 : V := .str (st 24 1461568626678784441833356086495000467273112616961)
def q28 : V := .str (st 32 824371770908332784736855650713127295445189726356551829566128129)
def q29 : V := .str (st 3 198402)
def q30 : V := .str (st 2 24879)
def q31 : V := .str (st 32 80886012263034121640807580588233206190297667014976224620323558260737)
def q32 : V := .str (st 64 3659870917999094994567681)
def q33 : V := .str (st 64 2875939707156254217470465)
def q34 : V := .str (st 64 23630279726869447180801)
def q35 : V := .str (st 64 822802495666048057176435258596904277714669742632575900084863490)
def q36 : V := .str (st 64 822808797096150155058580847117036555894059791915923926178333187)
def q37 : V := .str (st 64 822808797096150155058580847117056838613148453480313486145749507)
def q38 : V := .str (st 64 49043972896319341527959294517359553486697340345574752772)
def q39 : V := .str (st 3 156161)
def q40 : V := .str (st 2 25135)
def z0 : V := .agg [(U 776 0 258 1), ns, (I 0), ff]
def z1 : V := .agg [(U 776 0 258 1), ns, (I 0), ff, (I 0), (I 0), (I 0), (I 0), (I 0), (I 1), (I 1), (S 778 0 1 1)]
def z2 : V := .agg [(U 951 0 3 3), (U 953 0 1 2)]
def z3 : V := .agg [(I 1), (I 0), (I 0), (I 0), (I 0)]
def z4 : V := .agg [(U 1400 0 258 1), ns, (I 0), ff]
def z5 : V := .agg [ns, ns, ns, ns, (I 0), (I 0), ff]
def z6 : V := .agg [(U 1400 0 258 1), ns, (I 0), ff, (I 1), (I 5), (I 0), (I 4), (I 1), (I 2), (I 1), (U 1423 0 2 6)]
def z7 : V := .agg [(U 1400 0 258 1), ns, (I 0), ff, (I 1), (I 5), (I 0), (I 4), (I 1), (I 1), (I 1), (S 778 0 1 1)]
def z8 : V := .agg [(I 3), (I 1), (I 65537), (I 0), (I 0), (S 777 0 9 9)]
def z9 : V := .agg [(I 3), (I 1), (I 65537), (I 0), (I 0)]
def z10 : V := .agg [(U 1400 0 258 1), ns, (I 0), ff, (I 1), (I 5), (I 0), (I 4), (I 1), (I 1), (I 1), (U 1423 0 2 6)]
def z11 : V := .tup [z7, tt]
def z12 : V := .agg [(U 2256 0 1 3), (U 2258 0 2 2)]
def z13 : V := .tup [z12, tt]
def z14 : V := .tup [(.agg [(I 4), (I 1), q3]), tt]
def z15 : V := .agg [ns, ns, ns, ns, (I 2), (I 6), ff]
def z16 : V := .agg [(U 3266 0 258 1), ns, (I 0), ff, (I 2), (I 7), (I 0), (I 6), (I 1), (I 2), (I 1), (U 1423 0 2 6)]
def z17 : V := .agg [(U 5805 0 386 1), ns, (I 0), ff, (I 1), (I 5), (I 0), (I 4), (I 1), (I 1), (I 1), (S 5183 0 1 1)]
def z18 : V := .tup [z17, tt]
def z19 : V := .agg [(U 5805 0 386 1), ns, (I 0), ff]
def z20 : V := .agg [(U 5805 0 386 1), ns, (I 0), ff, (I 1), (I 5), (I 0), (I 4), (I 1), (I 2), (I 1), (U 5920 0 2 6)]
def z21 : V := .agg [(U 5805 0 386 1), ns, (I 0), ff, (I 1), (I 5), (I 0), (I 4), (I 1), (I 1), (I 1), (U 5899 0 1 6)]
def z22 : V := .agg [(I 3), (I 1), (I 65537), (I 0), (I 0), (U 5824 0 9 3)]
def z23 : V := .agg [(U 5805 0 386 1), ns, (I 0), ff, (I 1), (I 5), (I 0), (I 4), (I 1), (I 1), (I 1), (U 5920 0 2 6)]
def z24 : V := .agg [(U 7121 0 6 3), (U 7123 0 2 2)]
def z25 : V := .tup [z24, tt]
def z26 : V := .agg [(U 8322 0 6 3), (U 8324 0 2 2)]
def z27 : V := .agg [(U 8659 0 386 1), ns, (I 0), ff]
def z28 : V := .tup [(.agg [(I 4), (I 2), q2]), tt]
def z29 : V := .tup [(I 2), (I 1), (U 8870 0 2 2), tt]
def z30 : V := .tup [(.agg [(I 3), (I 2), q5]), tt]
def z31 : V := .tup [z3, (U 8978 0 1 2), tt]
def z32 : V := .agg [(U 8659 0 386 1), ns, (I 0), ff, (I 2), (I 12), (I 0), (I 11), (I 1), (I 3), (I 1), (U 8817 0 3 6)]
def z33 : V := .agg [(U 8659 0 386 1), ns, (I 0), ff, (I 2), (I 12), (I 0), (I 11), (I 1), (I 2), (I 1), (U 8790 0 2 6)]
def z34 : V := .agg [(I 3), (I 2), (I 65538), (I 0), (I 0), (U 8710 0 9 3)]
def z35 : V := .agg [(I 3), (I 2), (I 65538), (I 0), (I 0)]
def z36 : V := .agg [(U 8659 0 386 1), ns, (I 0), ff, (I 2), (I 12), (I 0), (I 11), (I 1), (I 2), (I 1), (U 8817 0 3 6)]
def z37 : V := .agg [(U 8659 0 386 1), ns, (I 0), ff, (I 2), (I 12), (I 0), (I 11), (I 1), (I 2), (I 1), (U 5920 0 2 6)]
def z38 : V := .tup [z37, (I 1), (I 0)]
def z39 : V := .tup [(.agg [(I 3), (I 2), q4]), tt]
def z40 : V := .tup [(I 2), (I 1), (U 11431 0 2 2), tt]
def z41 : V := .agg [ns, ns, ns, ns, (I 3), (I 13), ff]
def z42 : V := .agg [(U 11378 0 6 3), (U 11380 0 3 2)]
def z43 : V := .tup [z42, tt]
def z44 : V := .agg [(U 14296 0 386 1), ns, (I 0), ff, (I 3), (I 19), (I 0), (I 18), (I 1), (I 3), (I 1), (U 8817 0 3 6)]
def z45 : V := .tup [z44, (I 2), (I 0)]
def z46 : V := .agg [(U 14948 0 9 3), (I 65538)]
def z47 : V := .agg [(U 14983 0 9 3), (I 65537)]
/-- the memory behind piece 1 -/
def g1 : T Blk := upd [(0, (ce [ns, ns, (I 0), ff, (I 0), (I 0), (I 0), (I 0), (I 0), (I 0), (I 0), ns])), (959, (ce [ns, ns, ns, ns, (I 1), (I 2), ff])), (779, (ce [(U 776 0 258 1), ns, (I 0), ff, (I 0), (I 0), (I 0), (I 0), (I 0), (I 1), (I 1), (S 778 0 1 1)])), (777, (ce [(I 2), (I 7), q1, (I 0), (I 0), q1, (I 0), (I 0), q1, (I 0), (I 0), q1, (I 0), (I 0), q1, (I 0), (I 0), q1, (I 0), (I 0), q1, (I 0), (I 0), q1, (I 0), (I 0), q1])), (781, (ce [ns, ns, (I 0), ff, (I 0), (I 0), (I 0), (I 0), (I 0), (I 0), (I 0), ns])), (776, (ce [q0, q0, q0, q0, q0, q0, q0, q0, q0, q0, q0, q0, q0, q0, q0, q0, q0, q0, q0, q0, q0, q0, q0, q0, q0, q0, q0, q0, q0, q0, q0, q0, q0, q0, q0, q0, q0, q0, q0, q0, q0, q0, q0, q0, q0, q0, q0, q0, q0, q0, q0, q0, q0, q0, q0, q0, q0, q0, q0, q0, q0, q0, q0, q0, q0, q0, q0, q0, q0, q0, q0, q0, q0, q0, q0, q0, q0, q0, q0, q0, q0, q0, q0, q0, q0, q0, q0, q0, q0, q0, q0, q0, q0, q0, q0, q0, q0, q0, q0, q0, q0, q0, q0, q0, q0, q0, q0, q0, q0, q0, q0, q0, q0, q0, q0, q0, q0, q0, q0, q0, q0, q0, q0, q0, q0, q0, q0, q0, q0, q0, q0, q0, q0, q0, q0, q0, q0, q0, q0, q0, q0, q0, q0, q0, q0, q0, q0, q0, q0, q0, q0, q0, q0, q0, q0, q0, q0, q0, q0, q0, q0, q0, q0, q0, q0, q0, q0, q0, q0, q0, q0, q0, q0, q0, q0, q0, q0, q0, q0, q0, q0, q0, q0, q0, q0, q0, q0, q0, q0, q0, q0, q0, q0, q0, q0, q0, q0, q0, q0, q0, q0, q0, q0, q0, q0, q0, q0, q0, q0, q0, q0, q0, q0, q0, q0, q0, q0, q0, q0, q0, q0, q0, q0, q0, q0, q0, q0, q0, q0, q0, q0, q0, q0, q0, q0, q0, q0, q0, q0, q0, q0, q0, q0, q0, q0, q0, q0, q0, q0, q0, q0, q0, q0, q0, q0, q0, q0, q0])), (780, (ce [(U 776 0 258 1), ns, (I 0), ff, (I 0), (I 0), (I 0), (I 0), (I 0), (I 1), (I 1), (S 778 0 1 1)])), (956, (ce [ns, ns])), (778, (ce [(I 1), (I 0), (I 0), (I 0), (I 0), (S 777 0 9 9)])), (958, (ce [ns, ns]))] (del [] .E)
/-- the state behind piece 1; its texts -/
def s1 : St :=
⟨⟨⟨79, 207, false, none⟩,
  (n z0 (n (I 0) (n (I 2) (n (A 957 0) (n ff (n (I 1) (m (o tt) e) e) (o (.tup [ns, ff]))) (m (o (I 2)) (n (I 0) e (o tt)))) (m (n (I 0) (o tt) (o ns)) (m (o (I 1)) (m e (o (I 0)))))) (n (I 0) (m (n ns (o ff) (o (I 0))) (m (o ff) e)) (m (m (o ff) (n (I 0) e (o (S 778 0 1 1)))) (m (o (.agg [ns, ns, ns, ns, (I 1), (I 2), ff])) (m e (o (A 778 5))))))) (n (I 1) (n (I 0) (m (n (A 959 0) (n ff (m (o ff) e) e) (o z0)) (m (o ff) (o ff))) (m (m (o ff) (n ff e (o (I 0)))) (m (o (I 2)) (m e (o (A 778 0)))))) (n (S 778 0 1 1) (m (n ff (o (I 1)) (o (.tup [ns, ff]))) (m e (m e (o (S 778 0 1 1))))) (n (A 958 0) (n (I 0) (o ff) (n ns e (o (I 1)))) (n (S 778 0 1 1) (o (A 959 0)) (m e (o (S 777 0 9 9)))))))),
  [.code (c 79 25182), .code (c 79 12894), .inBlock 3, .code (c 79 3678), .inLoop (c 79 606), .inBlock 2, .code (c 79 126)], [], .run⟩,
 [⟨⟨38, 300, false, none⟩,
  (n z1 (n (I 0) (n (A 780 0) (n (I 0) (m (n (A 780 0) (o (I 2)) e) (o (I 1))) (m (o (.tup [z2, tt])) (o (A 780 5)))) (n (A 955 0) (m (n (I 0) (o (S 778 0 1 1)) e) (o z1)) (n (A 780 3) (o ff) (o (I 0))))) (m (n tt (m (n (A 780 5) (o (I 0)) e) (o ff)) (m (o tt) (o (I 1)))) (m (m (o (A 780 11)) (o (A 780 0))) (m (o (A 780 4)) (o (A 780 7)))))) (n (I 0) (m (n (A 954 0) (m (n z0 (o (I 0)) e) (o (I 1))) (m (o z2) (o (I 0)))) (n (A 956 0) (m (o (I 0)) e) (n ff e (o (I 2))))) (n (A 781 0) (n (I 1) (m (n (I 0) (o (A 780 11)) e) e) (n (A 780 0) (o tt) (o (A 780 6)))) (m (m (o (S 778 0 1 1)) (o z0)) (n (.tup [z2, tt]) (o (I 0)) (o (I 0))))))),
  [.reg (r 38 382 21), .code (c 38 510)], [], .run⟩,
 ⟨⟨14, 63, false, none⟩,
  (n (I 4) (n (I 1) (m (m (n ff (o (S 777 0 9 9)) e) (o ff)) (n ff (o ff) (o (I 258)))) (n ff (m (n (I 1) (o (S 778 0 1 1)) e) (o (I 4))) (n (I 4) (o (I 1)) (o (I 1))))) (m (n (A 0 0) (m (n ff (o (.agg [(I 1), (I 0), (I 0), (I 0), (I 0), (S 777 0 9 9)])) e) e) (n ff (n ff (o z1) e) (o z0))) (n (A 779 0) (n (I 4) (n ff (o z1) e) (o (I 256))) (n ff (o ff) (o z3))))),
  [.reg (r 14 22 1), .code (c 14 30)], [], .run⟩,
 ⟨⟨13, 68, false, none⟩,
  (o ff),
  [.reg (r 13 4 0), .code (c 13 6)], [], .run⟩,
 ⟨⟨4, 141, false, none⟩,
  (o ff),
  [.reg (r 4 8 0), .code (c 4 12), .code (c 4 6)], [], .run⟩],
 ⟨(p 986), g1⟩,
 []⟩
def k1 : List (IC Blk) := [(c 79 25182), (c 79 12894), .skip, (c 79 3678), (c 79 606), .skip, (c 79 126), (.region (r 38 382 21)), (c 38 510), (.region (r 14 22 1)), (c 14 30), (.region (r 13 4 0)), (c 13 6), (.region (r 4 8 0)), (c 4 12), (c 4 6)]
theorem h1 : codesSt s1.fr s1.cs s1.ls = k1 := by kernel_rfl
def y0 : T V := (n z7 (n z6 (o (A 1425 0)) (n (I 0) (o z6) e)) (n (A 1424 0) (o (A 1426 0)) e))
def y1 : T V := (n z7 (n (A 1403 0) (n (I 0) (m (n ff (o (A 1407 9)) e) (o (A 1403 9))) (n ff (o (I 1)) (o z7))) (n (A 1407 0) (n (I 0) (n z7 (o (I 2)) e) (o (I 65537))) (n (I 1) (n (I 1) (o z6) e) (o z8)))) (n (A 1404 0) (n (I 0) (n z7 (m (o (I 1)) e) (o (I 1))) (n (A 1403 9) (n (A 1403 10) (o z7) e) (o (S 777 0 9 9)))) (m (n ff (n (A 1403 9) (o (A 1407 9)) e) (o z9)) (n ff (o (I 65536)) (o z10)))))
def y2 : T V := (n ff (n (A 1402 0) (m e (o z7)) (m (o z11) e)) (n tt (m e (o tt)) (m (o z11) (o z7))))
/-- the memory behind piece 2 -/
def g2 : T Blk := upd [(1407, (ce [(U 1400 0 258 1), ns, (I 0), ff, (I 1), (I 5), (I 0), (I 4), (I 1), (I 2), (I 1), (U 1423 0 2 6)])), (1423, (ce [(I 1), (I 0), (I 0), (I 0), (I 0), (S 777 0 9 9), (I 3), (I 1), (I 65537), (I 0), (I 0), (S 777 0 9 9)])), (1431, (ce [ns, ns, ns, ns, (I 0), (I 0), ff])), (1427, (ce [(U 1400 0 258 1), ns, (I 0), ff, (I 1), (I 5), (I 0), (I 4), (I 1), (I 2), (I 1), (U 1423 0 2 6)])), (1403, (ce [(U 1400 0 258 1), ns, (I 0), ff, (I 1), (I 5), (I 0), (I 4), (I 1), (I 1), (I 1), (S 778 0 1 1)])), (1425, (ce [(U 1400 0 258 1), ns, (I 0), ff, (I 1), (I 5), (I 0), (I 4), (I 1), (I 2), (I 1), (U 1423 0 2 6)])), (1429, (ce [(U 1400 0 258 1), ns, (I 0), ff])), (1424, (ce [(U 1400 0 258 1), ns, (I 0), ff, (I 1), (I 5), (I 0), (I 4), (I 1), (I 1), (I 1), (S 778 0 1 1)])), (1400, (ce [q0, q15, q16, q17, q18, q19, q0, q0, q0, q0, q0, q0, q0, q0, q0, q0, q0, q0, q0, q0, q0, q0, q0, q0, q0, q0, q0, q0, q0, q0, q0, q0, q0, q0, q0, q0, q0, q0, q0, q0, q0, q0, q0, q0, q0, q0, q0, q0, q0, q0, q0, q0, q0, q0, q0, q0, q0, q0, q0, q0, q0, q0, q0, q0, q0, q0, q0, q0, q0, q0, q0, q0, q0, q0, q0, q0, q0, q0, q0, q0, q0, q0, q0, q0, q0, q0, q0, q0, q0, q0, q0, q0, q0, q0, q0, q0, q0, q0, q0, q0, q0, q0, q0, q0, q0, q0, q0, q0, q0, q0, q0, q0, q0, q0, q0, q0, q0, q0, q0, q0, q0, q0, q0, q0, q0, q0, q0, q0, q0, q0, q0, q0, q0, q0, q0, q0, q0, q0, q0, q0, q0, q0, q0, q0, q0, q0, q0, q0, q0, q0, q0, q0, q0, q0, q0, q0, q0, q0, q0, q0, q0, q0, q0, q0, q0, q0, q0, q0, q0, q0, q0, q0, q0, q0, q0, q0, q0, q0, q0, q0, q0, q0, q0, q0, q0, q0, q0, q0, q0, q0, q0, q0, q0, q0, q0, q0, q0, q0, q0, q0, q0, q0, q0, q0, q0, q0, q0, q0, q0, q0, q0, q0, q0, q0, q0, q0, q0, q0, q0, q0, q0, q0, q0, q0, q0, q0, q0, q0, q0, q0, q0, q0, q0, q0, q0, q0, q0, q0, q0, q0, q0, q0, q0, q0, q0, q0, q0, q0, q0, q0, q0, q0, q0, q0, q0, q0, q0, q0])), (1812, (ce [(I 2), (I 1), (I 3), (I 1), (I 4), (I 1), (I 5), (I 1)])), (1428, (ce [ns, ns, (I 0), ff, (I 0), (I 0), (I 0), (I 0), (I 0), (I 0), (I 0), ns])), (1404, (ce [ns, ns, (I 0), ff, (I 0), (I 0), (I 0), (I 0), (I 0), (I 0), (I 0), ns])), (1426, (ce [ns, ns, (I 0), ff, (I 0), (I 0), (I 0), (I 0), (I 0), (I 0), (I 0), ns])), (1402, (ce [(U 1400 0 258 1), ns, (I 0), ff, (I 1), (I 5), (I 0), (I 4), (I 1), (I 1), (I 1), (S 778 0 1 1)])), (1430, (ce [ns, ns]))] (del [0, 776, 779, 780, 781, 956, 958, 959] g1)
/-- the state behind piece 2; its texts -/
def s2 : St :=
⟨⟨⟨79, 207, false, none⟩,
  (n z4 (n (I 5) (n (I 0) (n (A 1429 0) (n ff (o (I 2)) (o (.tup [(U 1812 0 4 2), tt]))) (m (o (I 0)) e)) (m (m (o tt) (o (U 1812 0 4 2))) (m (o (I 0)) e))) (n (I 0) (m (n (U 1812 0 4 2) (o ff) (o (I 5))) (m (o ff) e)) (m (m (o ff) e) (m (o z5) e)))) (n (I 0) (n (I 0) (m (n (A 1431 0) (o ff) (o z4)) (m (o ff) e)) (m (m (o ff) (o tt)) (m (o (I 0)) e))) (n (U 1423 0 2 6) (m (n tt (o (I 0)) (o (.tup [(U 1812 0 4 2), tt]))) e) (n (A 1430 0) (m (o ff) e) (n (U 1423 0 2 6) (o (A 1431 0)) e))))),
  [.code (c 79 30)], [], .run⟩,
 [⟨⟨38, 300, false, none⟩,
  (n z6 (n (I 0) (n (A 1427 0) (n (I 0) (m (o (A 1427 0)) e) e) (m (m (o (I 0)) e) (o (A 1427 3)))) (m (m (m (o (A 1427 5)) e) e) (m (m (o (A 1427 11)) e) e))) (n (I 0) (m (m (m (o z4) e) e) (m (m (o (I 0)) e) (o ff))) (n (A 1428 0) (m (m (o (I 5)) e) (o (A 1427 0))) (m (m (o (U 1423 0 2 6)) e) e)))),
  [.reg (r 38 10 8), .code (c 38 14)], [], .run⟩,
 ⟨⟨43, 25, false, none⟩,
  y0,
  [.reg (r 43 4 1), .code (c 43 6)], [], .run⟩,
 ⟨⟨15, 48, false, none⟩,
  y1,
  [.reg (r 15 46 2), .code (c 15 62)], [], .run⟩,
 ⟨⟨13, 68, false, none⟩,
  y2,
  [.reg (r 13 10 1), .code (c 13 14)], [], .run⟩,
 ⟨⟨4, 141, false, none⟩,
  (o ff),
  [.reg (r 4 8 0), .code (c 4 12), .code (c 4 6)], [], .run⟩],
 ⟨(p 1813), g2⟩,
 []⟩
def k2 : List (IC Blk) := [(c 79 30), (.region (r 38 10 8)), (c 38 14), (.region (r 43 4 1)), (c 43 6), (.region (r 15 46 2)), (c 15 62), (.region (r 13 10 1)), (c 13 14), (.region (r 4 8 0)), (c 4 12), (c 4 6)]
theorem h2 : codesSt s2.fr s2.cs s2.ls = k2 := by kernel_rfl
/-- the memory behind piece 3 -/
def g3 : T Blk := upd [(2259, (ce [(U 2256 0 1 3), (U 2258 0 2 2)])), (2256, (ce [(I 3), (I 0), (.str (st 24 1461568626678784441833356086495072525966662172931))])), (2258, (ce [(I 4), (I 1), (I 0), (I 0)]))] (del [1812, 1429, 1430, 1431] g2)
/-- the state behind piece 3; its texts -/
def s3 : St :=
⟨⟨⟨38, 300, false, none⟩,
  (n z6 (n (I 0) (n (A 1427 0) (n (I 0) (m (o (A 1427 0)) e) (m (o z13) e)) (m (m (o (I 0)) e) (o (A 1427 3)))) (m (n tt (m (o (A 1427 5)) e) (m (o tt) e)) (m (m (o (A 1427 11)) e) e))) (n (I 0) (m (n (A 2259 0) (m (o z4) e) (m (o z12) e)) (m (m (o (I 0)) e) (o ff))) (n (A 1428 0) (m (m (o (I 5)) e) (o (A 1427 0))) (m (m (o (U 1423 0 2 6)) e) (o z13))))),
  [.code (c 38 14)], [], .run⟩,
 [⟨⟨43, 25, false, none⟩,
  y0,
  [.reg (r 43 4 1), .code (c 43 6)], [], .run⟩,
 ⟨⟨15, 48, false, none⟩,
  y1,
  [.reg (r 15 46 2), .code (c 15 62)], [], .run⟩,
 ⟨⟨13, 68, false, none⟩,
  y2,
  [.reg (r 13 10 1), .code (c 13 14)], [], .run⟩,
 ⟨⟨4, 141, false, none⟩,
  (o ff),
  [.reg (r 4 8 0), .code (c 4 12), .code (c 4 6)], [], .run⟩],
 ⟨(p 2260), g3⟩,
 []⟩
def k3 : List (IC Blk) := [(c 38 14), (.region (r 43 4 1)), (c 43 6), (.region (r 15 46 2)), (c 15 62), (.region (r 13 10 1)), (c 13 14), (.region (r 4 8 0)), (c 4 12), (c 4 6)]
theorem h3 : codesSt s3.fr s3.cs s3.ls = k3 := by kernel_rfl
/-- the memory behind piece 4 -/
def g4 : T Blk := upd [(2263, (ce [ns, ns])), (2793, (ce [(I 1), (I 1), q25, (I 2), (I 1), q26, (I 3), (I 1), q27, (I 4), (I 1), q3])), (2261, (ce [ns, ns])), (2792, (ce [(I 2), (I 1), (I 3), (I 1), (I 4), (I 1), (I 5), (I 1)])), (2264, (ce [ns, ns, (U 2792 0 4 2), (U 2793 0 4 3), (I 2), (I 6), ff]))] (del [2256, 1424, 1425, 2258, 2259, 1407] g3)
/-- the state behind piece 4; its texts -/
def s4 : St :=
⟨⟨⟨79, 207, false, none⟩,
  (n z4 (n (I 5) (n (I 6) (n (A 2262 0) (n ff (n (I 2) (n (A 2645 6) (o tt) e) (o (A 2264 0))) (n (.tup [(U 2645 0 4 2), tt]) (o (A 2645 6)) (o (U 2793 0 4 3)))) (m (n (I 6) (o z14) (o (S 2790 0 1 1))) (n (I 4) (o (A 2645 6)) (o tt)))) (m (n (I 4) (n tt (o (I 3)) (o (U 2645 0 4 2))) (n (U 2645 0 4 2) (o ff) (o (A 2264 3)))) (m (n (I 2) (o tt) (o (A 2264 3))) (n z14 (o tt) (o (I 0)))))) (n (I 0) (m (n (U 2645 0 4 2) (n ff (o (I 5)) (o (A 2264 2))) (n (I 5) (o (I 0)) (o (A 2264 2)))) (m (n ff (o tt) (o (A 2264 0))) (n (I 3) (o (I 0)) e))) (m (n tt (n ff (o (A 2645 7)) (o (A 2645 6))) (n (I 4) (o (I 3)) (o (U 1423 0 2 6)))) (m (n z15 (o (I 3)) (o (.agg [(I 4), (I 1), q3]))) (n (U 2645 0 4 2) (o (A 2264 0)) (o (A 1423 5))))))) (n (I 2) (n (I 0) (m (n (A 2264 0) (n ff (n (A 2645 6) (o ff) e) (o (A 2264 0))) (n z4 (o (I 5)) (o (A 2264 0)))) (m (n ff (o (.agg [(I 4), (I 1), q3])) (o (U 2792 0 4 2))) (n ff (o (I 5)) e))) (m (n (A 2757 0) (n ff (o (A 2645 6)) (o (I 3))) (n tt (o (U 2645 0 4 2)) (o (I 0)))) (m (n (I 6) (o (U 2645 0 4 2)) (o (U 2756 0 3 3))) (n z4 (o tt) (o (A 1423 0)))))) (n (U 1423 0 2 6) (m (n tt (n (I 2) (o (U 2645 0 4 2)) (o (U 2755 0 3 2))) (n (.tup [(U 2645 0 4 2), tt]) (o ff) (o (A 2264 0)))) (m (m (o tt) (o (A 2264 0))) (n (I 4) (o tt) (o (U 1423 0 2 6))))) (n (A 2263 0) (n (I 0) (n ff (o (I 1)) (o (.agg [(I 5), (I 1)]))) (n (U 2645 0 4 2) (o (A 2645 6)) (o (I 2)))) (n (U 1423 0 2 6) (n (A 2264 0) (o (A 2645 6)) (o (S 2791 0 1 1))) (n (I 3) (o (A 2264 0)) (o (S 777 0 9 9)))))))),
  [.code (c 79 25182), .code (c 79 12894), .inBlock 3, .code (c 79 3678), .inLoop (c 79 606), .inBlock 2, .code (c 79 126)], [], .run⟩,
 [⟨⟨38, 300, false, none⟩,
  (n z6 (n (I 0) (n (A 1427 0) (n (I 0) (m (n (A 1427 0) (o (I 6)) e) (o (I 2))) (m (o z13) (o (A 1427 5)))) (n (A 2260 0) (m (n (I 0) (o (U 1423 0 2 6)) e) (o z6)) (n (A 1427 3) (o ff) (o (I 0))))) (m (n tt (m (n (A 1427 5) (o (I 0)) e) (o ff)) (m (o tt) (o (I 2)))) (m (m (o (A 1427 11)) (o (A 1427 0))) (m (o (A 1427 4)) (o (A 1427 7)))))) (n (I 0) (m (n (A 2259 0) (m (n z4 (o (I 0)) e) (o (I 2))) (m (o z12) (o (I 5)))) (n (A 2261 0) (m (o (I 0)) e) (n ff e (o (I 2))))) (n (A 1428 0) (n (I 2) (m (n (I 5) (o (A 1427 11)) e) e) (n (A 1427 0) (o tt) (o (A 1427 6)))) (m (m (o (U 1423 0 2 6)) (o z4)) (n z13 (o (I 1)) (o (I 4))))))),
  [.reg (r 38 382 21), .code (c 38 510)], [], .run⟩,
 ⟨⟨43, 25, false, none⟩,
  y0,
  [.reg (r 43 4 1), .code (c 43 6)], [], .run⟩,
 ⟨⟨15, 48, false, none⟩,
  y1,
  [.reg (r 15 46 2), .code (c 15 62)], [], .run⟩,
 ⟨⟨13, 68, false, none⟩,
  y2,
  [.reg (r 13 10 1), .code (c 13 14)], [], .run⟩,
 ⟨⟨4, 141, false, none⟩,
  (o ff),
  [.reg (r 4 8 0), .code (c 4 12), .code (c 4 6)], [], .run⟩],
 ⟨(p 2805), g4⟩,
 []⟩
def k4 : List (IC Blk) := [(c 79 25182), (c 79 12894), .skip, (c 79 3678), (c 79 606), .skip, (c 79 126), (.region (r 38 382 21)), (c 38 510), (.region (r 43 4 1)), (c 43 6), (.region (r 15 46 2)), (c 15 62), (.region (r 13 10 1)), (c 13 14), (.region (r 4 8 0)), (c 4 12), (c 4 6)]
theorem h4 : codesSt s4.fr s4.cs s4.ls = k4 := by kernel_rfl
/-- the memory behind piece 5 -/
def g5 : T Blk := upd [(3266, (ce [q0, q15, q16, q17, q18, q19, (.str (st 64 411394995155436324435255536741179966368967872939251736101519875)), (.str (st 64 49042102174223470851962694065817534783109835857575543300)), q0, q0, q0, q0, q0, q0, q0, q0, q0, q0, q0, q0, q0, q0, q0, q0, q0, q0, q0, q0, q0, q0, q0, q0, q0, q0, q0, q0, q0, q0, q0, q0, q0, q0, q0, q0, q0, q0, q0, q0, q0, q0, q0, q0, q0, q0, q0, q0, q0, q0, q0, q0, q0, q0, q0, q0, q0, q0, q0, q0, q0, q0, q0, q0, q0, q0, q0, q0, q0, q0, q0, q0, q0, q0, q0, q0, q0, q0, q0, q0, q0, q0, q0, q0, q0, q0, q0, q0, q0, q0, q0, q0, q0, q0, q0, q0, q0, q0, q0, q0, q0, q0, q0, q0, q0, q0, q0, q0, q0, q0, q0, q0, q0, q0, q0, q0, q0, q0, q0, q0, q0, q0, q0, q0, q0, q0, q0, q0, q0, q0, q0, q0, q0, q0, q0, q0, q0, q0, q0, q0, q0, q0, q0, q0, q0, q0, q0, q0, q0, q0, q0, q0, q0, q0, q0, q0, q0, q0, q0, q0, q0, q0, q0, q0, q0, q0, q0, q0, q0, q0, q0, q0, q0, q0, q0, q0, q0, q0, q0, q0, q0, q0, q0, q0, q0, q0, q0, q0, q0, q0, q0, q0, q0, q0, q0, q0, q0, q0, q0, q0, q0, q0, q0, q0, q0, q0, q0, q0, q0, q0, q0, q0, q0, q0, q0, q0, q0, q0, q0, q0, q0, q0, q0, q0, q0, q0, q0, q0, q0, q0, q0, q0, q0, q0, q0, q0, q0, q0, q0, q0, q0, q0, q0, q0, q0, q0, q0, q0, q0, q0])), (1402, (ce [(U 3266 0 258 1), ns, (I 0), ff, (I 2), (I 7), (I 0), (I 6), (I 1), (I 2), (I 1), (U 1423 0 2 6)]))] (del [778, 1426, 1427, 1428, 2261, 2263, 2264, 2792, 2793, 1400, 1403, 1404] g4)
/-- the state behind piece 5; its texts -/
def s5 : St :=
⟨⟨⟨13, 68, false, none⟩,
  (n ff (n (A 1402 0) (m (m (o (.tup [z16, (I 1), (I 0)])) e) (o z7)) (m (n z11 (o (I 1)) e) (o (.tup [z16, (I 1), (I 0)])))) (n tt (m (m (o z16) e) (o tt)) (m (n z11 (o (I 0)) e) (o z7)))),
  [.code (c 13 14)], [], .run⟩,
 [⟨⟨4, 141, false, none⟩,
  (o ff),
  [.reg (r 4 8 0), .code (c 4 12), .code (c 4 6)], [], .run⟩],
 ⟨(p 3269), g5⟩,
 []⟩
def k5 : List (IC Blk) := [(c 13 14), (.region (r 4 8 0)), (c 4 12), (c 4 6)]
theorem h5 : codesSt s5.fr s5.cs s5.ls = k5 := by kernel_rfl
/-- the memory behind piece 6 -/
def g6 : T Blk := upd [(5183, (ce [(I 1), (I 0), (I 0), (I 0), (I 0), (S 5182 0 9 9)])), (4021, (ce [ns, ns, (I 0), ff, (I 0), (I 0), (I 0), (I 0), (I 0), (I 0), (I 0), ns])), (5181, (ce [q0, q0, q0, q0, q0, q0, q0, q0, q0, q0, q0, q0, q0, q0, q0, q0, q0, q0, q0, q0, q0, q0, q0, q0, q0, q0, q0, q0, q0, q0, q0, q0, q0, q0, q0, q0, q0, q0, q0, q0, q0, q0, q0, q0, q0, q0, q0, q0, q0, q0, q0, q0, q0, q0, q0, q0, q0, q0, q0, q0, q0, q0, q0, q0, q0, q0, q0, q0, q0, q0, q0, q0, q0, q0, q0, q0, q0, q0, q0, q0, q0, q0, q0, q0, q0, q0, q0, q0, q0, q0, q0, q0, q0, q0, q0, q0, q0, q0, q0, q0, q0, q0, q0, q0, q0, q0, q0, q0, q0, q0, q0, q0, q0, q0, q0, q0, q0, q0, q0, q0, q0, q0, q0, q0, q0, q0, q0, q0, q0, q0, q0, q0, q0, q0, q0, q0, q0, q0, q0, q0, q0, q0, q0, q0, q0, q0, q0, q0, q0, q0, q0, q0, q0, q0, q0, q0, q0, q0, q0, q0, q0, q0, q0, q0, q0, q0, q0, q0, q0, q0, q0, q0, q0, q0, q0, q0, q0, q0, q0, q0, q0, q0, q0, q0, q0, q0, q0, q0, q0, q0, q0, q0, q0, q0, q0, q0, q0, q0, q0, q0, q0, q0, q0, q0, q0, q0, q0, q0, q0, q0, q0, q0, q0, q0, q0, q0, q0, q0, q0, q0, q0, q0, q0, q0, q0, q0, q0, q0, q0, q0, q0, q0, q0, q0, q0, q0, q0, q0, q0, q0, q0, q0, q0, q0, q0, q0, q0, q0, q0, q0, q0, q0, q0, q0, q0, q0, q0, q0, q0, q0, q0, q0, q0, q0, q0, q0, q0, q0, q0, q0, q0, q0, q0, q0, q0, q0, q0, q0, q0, q0, q0, q0, q0, q0, q0, q0, q0, q0, q0, q0, q0, q0, q0, q0, q0, q0, q0, q0, q0, q0, q0, q0, q0, q0, q0, q0, q0, q0, q0, q0, q0, q0, q0, q0, q0, q0, q0, q0, q0, q0, q0, q0, q0, q0, q0, q0, q0, q0, q0, q0, q0, q0, q0, q0, q0, q0, q0, q0, q0, q0, q0, q0, q0, q0, q0, q0, q0, q0, q0, q0, q0, q0, q0, q0, q0, q0, q0, q0, q0, q0, q0, q0, q0, q0, q0, q0, q0, q0, q0, q0, q0, q0, q0, q0, q0, q0, q0, q0, q0, q0, q0, q0, q0, q0, q0, q0])), (5184, (ce [(U 5181 0 386 1), ns, (I 0), ff, (I 0), (I 0), (I 0), (I 0), (I 0), (I 1), (I 1), (S 5183 0 1 1)])), (5182, (ce [(I 2), (I 7), q1, (I 0), (I 0), q1, (I 0), (I 0), q1, (I 0), (I 0), q1, (I 0), (I 0), q1, (I 0), (I 0), q1, (I 0), (I 0), q1, (I 0), (I 0), q1, (I 0), (I 0), q1]))] (del [3266, 777, 1423, 1402] g5)
/-- the state behind piece 6; its texts -/
def s6 : St :=
⟨⟨⟨14, 63, false, none⟩,
  (n (I 6) (n (I 1) (m (m (n ff (o (S 5182 0 9 9)) e) (o ff)) (n ff (o ff) (o (I 386)))) (n ff (m (n (I 1) (o (S 5183 0 1 1)) e) (o (I 6))) (n (I 6) (o (I 1)) (o (I 1))))) (m (n (A 4021 0) (m (n ff (o (.agg [(I 1), (I 0), (I 0), (I 0), (I 0), (S 5182 0 9 9)])) e) e) (n ff (o ff) (o (.agg [(U 5181 0 386 1), ns, (I 0), ff])))) (n (A 5184 0) (n (I 6) (n ff (o (.agg [(U 5181 0 386 1), ns, (I 0), ff, (I 0), (I 0), (I 0), (I 0), (I 0), (I 1), (I 1), (S 5183 0 1 1)])) e) (o (I 384))) (n ff (o ff) (o z3))))),
  [.code (c 14 14)], [], .run⟩,
 [⟨⟨4, 141, false, none⟩,
  (n ff (m (m (m e (o ff)) e) e) (m e (m e (m (o tt) e)))),
  [.reg (r 4 10 0), .code (c 4 14)], [], .run⟩],
 ⟨(p 5185), g6⟩,
 []⟩
def k6 : List (IC Blk) := [(c 14 14), (.region (r 4 10 0)), (c 4 14)]
theorem h6 : codesSt s6.fr s6.cs s6.ls = k6 := by kernel_rfl
/-- the memory behind piece 7 -/
def g7 : T Blk := upd [(5807, (ce [(U 5805 0 386 1), ns, (I 0), ff, (I 1), (I 5), (I 0), (I 4), (I 1), (I 1), (I 1), (S 5183 0 1 1)])), (5805, (ce [q0, q15, q16, q17, q18, q19, q0, q0, q0, q0, q0, q0, q0, q0, q0, q0, q0, q0, q0, q0, q0, q0, q0, q0, q0, q0, q0, q0, q0, q0, q0, q0, q0, q0, q0, q0, q0, q0, q0, q0, q0, q0, q0, q0, q0, q0, q0, q0, q0, q0, q0, q0, q0, q0, q0, q0, q0, q0, q0, q0, q0, q0, q0, q0, q0, q0, q0, q0, q0, q0, q0, q0, q0, q0, q0, q0, q0, q0, q0, q0, q0, q0, q0, q0, q0, q0, q0, q0, q0, q0, q0, q0, q0, q0, q0, q0, q0, q0, q0, q0, q0, q0, q0, q0, q0, q0, q0, q0, q0, q0, q0, q0, q0, q0, q0, q0, q0, q0, q0, q0, q0, q0, q0, q0, q0, q0, q0, q0, q0, q0, q0, q0, q0, q0, q0, q0, q0, q0, q0, q0, q0, q0, q0, q0, q0, q0, q0, q0, q0, q0, q0, q0, q0, q0, q0, q0, q0, q0, q0, q0, q0, q0, q0, q0, q0, q0, q0, q0, q0, q0, q0, q0, q0, q0, q0, q0, q0, q0, q0, q0, q0, q0, q0, q0, q0, q0, q0, q0, q0, q0, q0, q0, q0, q0, q0, q0, q0, q0, q0, q0, q0, q0, q0, q0, q0, q0, q0, q0, q0, q0, q0, q0, q0, q0, q0, q0, q0, q0, q0, q0, q0, q0, q0, q0, q0, q0, q0, q0, q0, q0, q0, q0, q0, q0, q0, q0, q0, q0, q0, q0, q0, q0, q0, q0, q0, q0, q0, q0, q0, q0, q0, q0, q0, q0, q0, q0, q0, q0, q0, q0, q0, q0, q0, q0, q0, q0, q0, q0, q0, q0, q0, q0, q0, q0, q0, q0, q0, q0, q0, q0, q0, q0, q0, q0, q0, q0, q0, q0, q0, q0, q0, q0, q0, q0, q0, q0, q0, q0, q0, q0, q0, q0, q0, q0, q0, q0, q0, q0, q0, q0, q0, q0, q0, q0, q0, q0, q0, q0, q0, q0, q0, q0, q0, q0, q0, q0, q0, q0, q0, q0, q0, q0, q0, q0, q0, q0, q0, q0, q0, q0, q0, q0, q0, q0, q0, q0, q0, q0, q0, q0, q0, q0, q0, q0, q0, q0, q0, q0, q0, q0, q0, q0, q0, q0, q0, q0, q0, q0, q0, q0, q0, q0, q0, q0, q0, q0, q0, q0, q0, q0, q0, q0, q0, q0, q0, q0]))] (del [5184, 4021, 5181] g6)
/-- the state behind piece 7; its texts -/
def s7 : St :=
⟨⟨⟨4, 141, false, none⟩,
  (n ff (n (A 5807 0) (m (m e (o ff)) (m e (o tt))) (m (m e (o z18)) e)) (n tt (m (m e (o z18)) e) (m (m e (o z17)) (m (o tt) e)))),
  [.code (c 4 14)], [], .run⟩,
 [],
 ⟨(p 5808), g7⟩,
 []⟩
def k7 : List (IC Blk) := [(c 4 14)]
theorem h7 : codesSt s7.fr s7.cs s7.ls = k7 := by kernel_rfl
def y3 : T V := (n z20 (n (I 0) (n (A 5924 0) (n (I 0) (m (o (A 5924 0)) e) e) (m (m (o (I 0)) e) (o (A 5924 3)))) (m (m (m (o (A 5924 5)) e) e) (m (m (o (A 5924 11)) e) e))) (n (I 0) (m (m (m (o z19) e) e) (m (m (o (I 0)) e) (o ff))) (n (A 5925 0) (m (m (o (I 5)) e) (o (A 5924 0))) (m (m (o (U 5920 0 2 6)) e) e))))
def y4 : T V := (n z21 (n z20 (o (A 5922 0)) (n (I 0) (o z20) e)) (n (A 5921 0) (o (A 5923 0)) e))
def y5 : T V := (n z21 (n (A 5900 0) (n (I 0) (m (n ff (o (A 5904 9)) e) (o (A 5900 9))) (n ff (o (I 1)) (o z21))) (n (A 5904 0) (n (I 0) (n z21 (o (I 2)) e) (o (I 65537))) (n (I 1) (n (I 1) (o z20) e) (o z22)))) (n (A 5901 0) (n (I 0) (n z21 (m (o (I 1)) e) (o (I 1))) (n (A 5900 9) (n (A 5900 10) (o z21) e) (o (U 5824 0 9 3)))) (m (n ff (n (A 5900 9) (o (A 5904 9)) e) (o z9)) (n ff (o (I 65536)) (o z23)))))
def y6 : T V := (n ff (n (A 5807 0) (n (U 5824 0 9 3) (m (m (o (U 5824 0 9 3)) e) (o ff)) (m (m (o (U 5824 0 9 3)) e) (o tt))) (m (m e (o z18)) (m e (o (S 5808 0 9 9))))) (n tt (n (I 0) (m (m (o (I 0)) e) (o z18)) (m (m (o z21) e) (o (.tup [(U 5824 0 9 3), (I 0)])))) (m (m (m (o z17) e) (o z17)) (m (o tt) (o (.tup [(U 5824 0 9 3), (I 0)]))))))
/-- the memory behind piece 8 -/
def g8 : T Blk := upd [(5927, (ce [ns, ns])), (5923, (ce [ns, ns, (I 0), ff, (I 0), (I 0), (I 0), (I 0), (I 0), (I 0), (I 0), ns])), (5899, (ce [(I 1), (I 0), (I 0), (I 0), (I 0), (U 5824 0 9 3)])), (5921, (ce [(U 5805 0 386 1), ns, (I 0), ff, (I 1), (I 5), (I 0), (I 4), (I 1), (I 1), (I 1), (U 5899 0 1 6)])), (5925, (ce [ns, ns, (I 0), ff, (I 0), (I 0), (I 0), (I 0), (I 0), (I 0), (I 0), ns])), (6309, (ce [(I 2), (I 1), (I 3), (I 1), (I 4), (I 1), (I 5), (I 1)])), (5901, (ce [ns, ns, (I 0), ff, (I 0), (I 0), (I 0), (I 0), (I 0), (I 0), (I 0), ns])), (5824, (ce [(I 2), (I 7), q12, (I 1), (I 5), q1, (I 0), (I 0), q1, (I 0), (I 0), q1, (I 0), (I 0), q1, (I 0), (I 0), q1, (I 0), (I 0), q1, (I 0), (I 0), q1, (I 0), (I 0), q1])), (5920, (ce [(I 1), (I 0), (I 0), (I 0), (I 0), (U 5824 0 9 3), (I 3), (I 1), (I 65537), (I 0), (I 0), (U 5824 0 9 3)])), (5904, (ce [(U 5805 0 386 1), ns, (I 0), ff, (I 1), (I 5), (I 0), (I 4), (I 1), (I 2), (I 1), (U 5920 0 2 6)])), (5808, (ce [(I 2), (I 7), q1, (I 0), (I 0), q1, (I 0), (I 0), q1, (I 0), (I 0), q1, (I 0), (I 0), q1, (I 0), (I 0), q1, (I 0), (I 0), q1, (I 0), (I 0), q1, (I 0), (I 0), q1])), (5928, (ce [ns, ns, ns, ns, (I 0), (I 0), ff])), (5924, (ce [(U 5805 0 386 1), ns, (I 0), ff, (I 1), (I 5), (I 0), (I 4), (I 1), (I 2), (I 1), (U 5920 0 2 6)])), (5900, (ce [(U 5805 0 386 1), ns, (I 0), ff, (I 1), (I 5), (I 0), (I 4), (I 1), (I 1), (I 1), (U 5899 0 1 6)])), (5922, (ce [(U 5805 0 386 1), ns, (I 0), ff, (I 1), (I 5), (I 0), (I 4), (I 1), (I 2), (I 1), (U 5920 0 2 6)])), (5926, (ce [(U 5805 0 386 1), ns, (I 0), ff]))] (del [] g7)
/-- the state behind piece 8; its texts -/
def s8 : St :=
⟨⟨⟨79, 207, false, none⟩,
  (n z19 (n (I 5) (n (I 0) (n (A 5926 0) (n ff (o (I 2)) (o (.tup [(U 6309 0 4 2), tt]))) (m (o (I 0)) e)) (m (m (o tt) (o (U 6309 0 4 2))) (m (o (I 0)) e))) (n (I 0) (m (n (U 6309 0 4 2) (o ff) (o (I 5))) (m (o ff) e)) (m (m (o ff) e) (m (o z5) e)))) (n (I 0) (n (I 0) (m (n (A 5928 0) (o ff) (o z19)) (m (o ff) e)) (m (m (o ff) (o tt)) (m (o (I 0)) e))) (n (U 5920 0 2 6) (m (n tt (o (I 0)) (o (.tup [(U 6309 0 4 2), tt]))) e) (n (A 5927 0) (m (o ff) e) (n (U 5920 0 2 6) (o (A 5928 0)) e))))),
  [.code (c 79 30)], [], .run⟩,
 [⟨⟨38, 300, false, none⟩,
  y3,
  [.reg (r 38 10 8), .code (c 38 14)], [], .run⟩,
 ⟨⟨43, 25, false, none⟩,
  y4,
  [.reg (r 43 4 1), .code (c 43 6)], [], .run⟩,
 ⟨⟨15, 48, false, none⟩,
  y5,
  [.reg (r 15 46 2), .code (c 15 62)], [], .run⟩,
 ⟨⟨4, 141, false, none⟩,
  y6,
  [.reg (r 4 46 3), .code (c 4 62)], [], .run⟩],
 ⟨(p 6310), g8⟩,
 []⟩
def k8 : List (IC Blk) := [(c 79 30), (.region (r 38 10 8)), (c 38 14), (.region (r 43 4 1)), (c 43 6), (.region (r 15 46 2)), (c 15 62), (.region (r 4 46 3)), (c 4 62)]
theorem h8 : codesSt s8.fr s8.cs s8.ls = k8 := by kernel_rfl
/-- the memory behind piece 9 -/
def g9 : T Blk := upd [(6719, (ce [(I 1), (I 0), q7, (I 1), (I 0), q8, (I 1), (I 0), q6, (I 2), (I 0), q24])), (6457, (ce [(I 1), (I 1), q25, (I 2), (I 1), q26, (I 3), (I 1), q27, (I 4), (I 1), q3])), (5928, (ce [(U 6719 0 4 3), ns, (U 6456 0 4 2), (U 6457 0 4 3), (I 0), (I 0), ff])), (6788, (ce [(I 3), (I 0), q13]))] (del [6309, 5926] g8)
/-- the state behind piece 9; its texts -/
def s9 : St :=
⟨⟨⟨79, 207, false, none⟩,
  (n z19 (n (I 5) (n (I 0) (n (A 5926 0) (n ff (n (I 2) (n (A 6309 6) (o tt) e) (n (A 5928 0) (o (I 1)) e)) (n (.tup [(U 6309 0 4 2), tt]) (n (A 6309 6) (o (A 5928 0)) e) (n (U 6457 0 4 3) (o (A 5920 0)) e))) (n (U 6589 0 3 3) (n (I 0) (n z14 (o (U 6589 0 3 3)) e) (n (S 6454 0 1 1) (o (A 6715 0)) e)) (n (I 4) (n (A 6309 6) (o (S 6622 0 1 1)) e) (o tt)))) (m (n (I 4) (n tt (n (I 3) (o (I 0)) e) (n (U 6309 0 4 2) (o ns) e)) (n (U 6309 0 4 2) (n ff (o (A 6589 6)) e) (n (A 5928 3) (o (.agg [(I 3), (I 0), q13])) e))) (n (U 6715 0 1 3) (n (I 0) (n tt (o ff) e) (n (A 5928 3) (o (U 6721 0 1 2)) e)) (n z14 (n tt (o (U 6623 0 3 2)) e) (o (I 0)))))) (n (I 0) (m (n (U 6309 0 4 2) (n ff (o (I 5)) (n (A 5928 2) (o (I 0)) e)) (n (I 5) (n (I 0) (o (U 6589 0 3 3)) e) (n (A 5928 2) (o z3) e))) (n (U 6721 0 1 2) (n ff (n tt (o (U 6589 0 3 3)) e) (n (A 5928 0) (o (.agg [(I 3), (I 0)])) e)) (n (I 3) (n (I 0) (o (I 0)) e) e))) (m (n tt (n ff (n (A 6309 7) (o (A 5920 5)) e) (n (A 6309 6) (o (U 6715 0 1 3)) e)) (n (I 4) (n (I 3) (o (.agg [(I 1), (I 0), q6])) e) (o (U 5920 0 2 6)))) (n (A 6788 0) (n z5 (n (I 3) (o (I 3)) e) (n (.agg [(I 4), (I 1), q3]) (o (U 5920 0 2 6)) e)) (n (U 6309 0 4 2) (n (A 5928 0) (o (I 1)) e) (o (A 5920 5))))))) (n (I 0) (n (I 0) (m (n (A 5928 0) (n ff (n (A 6309 6) (o ff) e) (n (A 5928 0) (o ff) e)) (n z19 (n (I 5) (o (I 0)) e) (n (A 5928 0) (o (A 5920 0)) e))) (n (U 6623 0 3 2) (n ff (n (.agg [(I 4), (I 1), q3]) (o (I 3)) e) (n (U 6456 0 4 2) (o (.agg [(I 2), (I 0), q24])) e)) (n ff (n (I 5) (o (U 6623 0 3 2)) e) e))) (m (n (A 6421 0) (n ff (n (A 6309 6) (o (A 5920 0)) e) (n (I 3) (o (A 5928 0)) e)) (n tt (n (U 6309 0 4 2) (o (.agg [(I 2), (I 0), q14])) e) (o (I 0)))) (n (I 1) (n (I 0) (n (U 6309 0 4 2) (o (I 2)) e) (n (U 6420 0 3 3) (o (I 0)) e)) (n z19 (n tt (o (U 6715 0 1 3)) e) (o (A 5920 0)))))) (n (U 5920 0 2 6) (m (n tt (n (I 0) (n (U 6309 0 4 2) (o (U 5920 0 2 6)) e) (n (U 6419 0 3 2) (o (I 1)) e)) (n (.tup [(U 6309 0 4 2), tt]) (n ff (o (I 2)) e) (n (A 5928 0) (o (U 6721 0 1 2)) e))) (n (I 3) (m (n tt (o (I 3)) e) (n (A 5928 0) (o (S 6720 0 1 1)) e)) (n (I 4) (n tt (o (U 6589 0 3 3)) e) (o (U 5920 0 2 6))))) (n (A 5927 0) (n (I 0) (n ff (n (I 1) (o (U 5824 0 9 3)) e) (n (.agg [(I 5), (I 1)]) (o (I 0)) e)) (n (U 6309 0 4 2) (n (A 6309 6) (o (.agg [(I 2), (I 0)])) e) (o (I 2)))) (n (U 5920 0 2 6) (n (A 5928 0) (n (A 6309 6) (o (U 6614 0 2 2)) e) (n (S 6455 0 1 1) (o (I 0)) e)) (n (I 3) (n (A 5928 0) (o (U 6715 0 1 3)) e) (o (U 5824 0 9 3)))))))),
  [.code (c 79 1045086), .inBlock 3, .code (c 79 3678), .inLoop (c 79 606), .inBlock 2, .code (c 79 126)], [], .run⟩,
 [⟨⟨38, 300, false, none⟩,
  y3,
  [.reg (r 38 10 8), .code (c 38 14)], [], .run⟩,
 ⟨⟨43, 25, false, none⟩,
  y4,
  [.reg (r 43 4 1), .code (c 43 6)], [], .run⟩,
 ⟨⟨15, 48, false, none⟩,
  y5,
  [.reg (r 15 46 2), .code (c 15 62)], [], .run⟩,
 ⟨⟨4, 141, false, none⟩,
  y6,
  [.reg (r 4 46 3), .code (c 4 62)], [], .run⟩],
 ⟨(p 6789), g9⟩,
 []⟩
def k9 : List (IC Blk) := [(c 79 1045086), .skip, (c 79 3678), (c 79 606), .skip, (c 79 126), (.region (r 38 10 8)), (c 38 14), (.region (r 43 4 1)), (c 43 6), (.region (r 15 46 2)), (c 15 62), (.region (r 4 46 3)), (c 4 62)]
theorem h9 : codesSt s9.fr s9.cs s9.ls = k9 := by kernel_rfl
def y7 : T V := (n z20 (n (I 0) (n (A 5924 0) (n (I 0) (m (n (A 5924 0) (o (I 6)) e) (o (I 2))) (m (o z25) (o (A 5924 5)))) (n (A 7125 0) (m (n (I 0) (o (U 5920 0 2 6)) e) (o z20)) (n (A 5924 3) (o ff) (o (I 0))))) (m (n tt (m (n (A 5924 5) (o (I 0)) e) (o ff)) (m (o tt) (o (I 2)))) (m (m (o (A 5924 11)) (o (A 5924 0))) (m (o (A 5924 4)) (o (A 5924 7)))))) (n (I 0) (m (n (A 7124 0) (m (n z19 (o (I 0)) e) (o (I 2))) (m (o z24) (o (I 5)))) (n (A 7126 0) (m (o (I 0)) e) (n ff e (o (I 2))))) (n (A 5925 0) (n (I 2) (m (n (I 5) (o (A 5924 11)) e) e) (n (A 5924 0) (o tt) (o (A 5924 6)))) (m (m (o (U 5920 0 2 6)) (o z19)) (n z25 (o (I 1)) (o (I 4)))))))
/-- the memory behind piece 10 -/
def g10 : T Blk := upd [(7127, (ce [(U 5805 0 386 1), ns, (I 0), ff])), (7171, (ce [(I 4), (I 1)])), (7123, (ce [(I 4), (I 0), (I 5), (I 0)])), (7131, (ce [(U 5805 0 386 1), ns, (I 0), ff])), (7121, (ce [(I 1), (I 0), q7, (I 1), (I 0), q8, (I 1), (I 0), q6, (I 2), (I 0), q24, (I 3), (I 0), q13, (I 3), (I 0), (.str (st 24 66989347881523629671253778789506310729629955))])), (7129, (ce [ns, ns, ns, ns, (I 2), (I 6), ff])), (7125, (ce [(U 5805 0 386 1), ns, (I 0), ff, (I 1), (I 5), (I 0), (I 4), (I 1), (I 2), (I 1), (U 5920 0 2 6)])), (7165, (ce [(I 4), (I 1), q3])), (7128, (ce [ns, ns])), (7124, (ce [(U 7121 0 6 3), (U 7123 0 2 2)])), (7132, (ce [(I 0), (I 0), ns, ns, ns, ns, ns])), (7126, (ce [ns, ns]))] (del [6788, 5927, 5928, 6457, 6719] g9)
/-- the state behind piece 10; its texts -/
def s10 : St :=
⟨⟨⟨83, 134, false, none⟩,
  (n z19 (n (I 5) (m (n tt (m (o (.agg [(I 4), (I 1), q3])) e) (o (I 5))) (m (m (o (U 7171 0 1 2)) e) (o tt))) (n ff (n (I 1) (m (o (I 1)) e) (o (.agg [(I 4), (I 1), q3]))) (m (o z14) e))) (n (A 7131 0) (n (A 7132 0) (n (I 1) (m (o (.tup [(I 1), (I 1), (U 7171 0 1 2), tt])) e) (o z14)) (m (m (o tt) e) (o ff))) (n (A 7165 0) (n (U 7171 0 1 2) (m (o (I 1)) e) (o tt)) (m (o z19) (o (.tup [(I 1), (I 1), (U 7171 0 1 2), tt])))))),
  [.code (c 83 30)], [], .run⟩,
 [⟨⟨144, 33, false, none⟩,
  (n z19 (n (I 5) (m e (o z19)) (o ff)) (n (A 7130 0) (n ns e (o (I 5))) e)),
  [.reg (r 144 4 2), .code (c 144 6)], [], .run⟩,
 ⟨⟨79, 207, false, none⟩,
  (n z19 (n (I 5) (n (I 6) (n (A 7127 0) (n ff (o (I 2)) e) (m (o (I 6)) e)) (m (m (o tt) e) (m (o (I 2)) e))) (n (I 0) (m (m (o ff) (o (I 5))) (m (o ff) e)) (m (m (o ff) e) (m (o z15) e)))) (n (I 2) (n (I 0) (m (n (A 7129 0) (o ff) (o z19)) (m (o ff) e)) (m (m (o ff) e) (m (o (I 6)) e))) (n (U 5920 0 2 6) (m (m (o (I 2)) e) e) (n (A 7128 0) (m (o ff) e) (n (U 5920 0 2 6) (o (A 7129 0)) e))))),
  [.reg (r 79 22 2), .code (c 79 30)], [], .run⟩,
 ⟨⟨38, 300, false, none⟩,
  y7,
  [.reg (r 38 382 21), .code (c 38 510)], [], .run⟩,
 ⟨⟨43, 25, false, none⟩,
  y4,
  [.reg (r 43 4 1), .code (c 43 6)], [], .run⟩,
 ⟨⟨15, 48, false, none⟩,
  y5,
  [.reg (r 15 46 2), .code (c 15 62)], [], .run⟩,
 ⟨⟨4, 141, false, none⟩,
  y6,
  [.reg (r 4 46 3), .code (c 4 62)], [], .run⟩],
 ⟨(p 7216), g10⟩,
 []⟩
def k10 : List (IC Blk) := [(c 83 30), (.region (r 144 4 2)), (c 144 6), (.region (r 79 22 2)), (c 79 30), (.region (r 38 382 21)), (c 38 510), (.region (r 43 4 1)), (c 43 6), (.region (r 15 46 2)), (c 15 62), (.region (r 4 46 3)), (c 4 62)]
theorem h10 : codesSt s10.fr s10.cs s10.ls = k10 := by kernel_rfl
/-- the memory behind piece 11 -/
def g11 : T Blk := upd [(7129, (ce [ns, ns, (U 7657 0 4 2), (U 7658 0 4 3), (I 2), (I 6), ff])), (7658, (ce [(I 1), (I 1), q25, (I 2), (I 1), q26, (I 3), (I 1), q27, (I 4), (I 1), q3]))] (del [7171, 7127, 7131, 7132, 7165] g10)
/-- the state behind piece 11; its texts -/
def s11 : St :=
⟨⟨⟨79, 207, false, none⟩,
  (n z19 (n (I 5) (n (I 6) (n (A 7127 0) (n ff (n (I 2) (n (A 7510 6) (o tt) e) (o (A 7129 0))) (n (.tup [(U 7510 0 4 2), tt]) (o (A 7510 6)) (o (U 7658 0 4 3)))) (m (n (I 6) (o z14) (o (S 7655 0 1 1))) (n (I 4) (o (A 7510 6)) (o tt)))) (m (n (I 4) (n tt (o (I 3)) (o (U 7510 0 4 2))) (n (U 7510 0 4 2) (o ff) (o (A 7129 3)))) (m (n (I 2) (o tt) (o (A 7129 3))) (n z14 (o tt) (o (I 0)))))) (n (I 0) (m (n (U 7510 0 4 2) (n ff (o (I 5)) (o (A 7129 2))) (n (I 5) (o (I 0)) (o (A 7129 2)))) (m (n ff (o tt) (o (A 7129 0))) (n (I 3) (o (I 0)) e))) (m (n tt (n ff (o (A 7510 7)) (o (A 7510 6))) (n (I 4) (o (I 3)) (o (U 5920 0 2 6)))) (m (n z15 (o (I 3)) (o (.agg [(I 4), (I 1), q3]))) (n (U 7510 0 4 2) (o (A 7129 0)) (o (A 5920 5))))))) (n (I 2) (n (I 0) (m (n (A 7129 0) (n ff (n (A 7510 6) (o ff) e) (o (A 7129 0))) (n z19 (o (I 5)) (o (A 7129 0)))) (m (n ff (o (.agg [(I 4), (I 1), q3])) (o (U 7657 0 4 2))) (n ff (o (I 5)) e))) (m (n (A 7622 0) (n ff (o (A 7510 6)) (o (I 3))) (n tt (o (U 7510 0 4 2)) (o (I 0)))) (m (n (I 6) (o (U 7510 0 4 2)) (o (U 7621 0 3 3))) (n z19 (o tt) (o (A 5920 0)))))) (n (U 5920 0 2 6) (m (n tt (n (I 2) (o (U 7510 0 4 2)) (o (U 7620 0 3 2))) (n (.tup [(U 7510 0 4 2), tt]) (o ff) (o (A 7129 0)))) (m (m (o tt) (o (A 7129 0))) (n (I 4) (o tt) (o (U 5920 0 2 6))))) (n (A 7128 0) (n (I 0) (n ff (o (I 1)) (o (.agg [(I 5), (I 1)]))) (n (U 7510 0 4 2) (o (A 7510 6)) (o (I 2)))) (n (U 5920 0 2 6) (n (A 7129 0) (o (A 7510 6)) (o (S 7656 0 1 1))) (n (I 3) (o (A 7129 0)) (o (U 5824 0 9 3)))))))),
  [.code (c 79 25182), .code (c 79 12894), .inBlock 3, .code (c 79 3678), .inLoop (c 79 606), .inBlock 2, .code (c 79 126)], [], .run⟩,
 [⟨⟨38, 300, false, none⟩,
  y7,
  [.reg (r 38 382 21), .code (c 38 510)], [], .run⟩,
 ⟨⟨43, 25, false, none⟩,
  y4,
  [.reg (r 43 4 1), .code (c 43 6)], [], .run⟩,
 ⟨⟨15, 48, false, none⟩,
  y5,
  [.reg (r 15 46 2), .code (c 15 62)], [], .run⟩,
 ⟨⟨4, 141, false, none⟩,
  y6,
  [.reg (r 4 46 3), .code (c 4 62)], [], .run⟩],
 ⟨(p 7720), g11⟩,
 []⟩
def k11 : List (IC Blk) := [(c 79 25182), (c 79 12894), .skip, (c 79 3678), (c 79 606), .skip, (c 79 126), (.region (r 38 382 21)), (c 38 510), (.region (r 43 4 1)), (c 43 6), (.region (r 15 46 2)), (c 15 62), (.region (r 4 46 3)), (c 4 62)]
theorem h11 : codesSt s11.fr s11.cs s11.ls = k11 := by kernel_rfl
/-- the memory behind piece 12 -/
def g12 : T Blk := upd [(8324, (ce [(I 10), (I 2), (I 11), (I 2)])), (8322, (ce [(I 1), (I 2), q7, (I 1), (I 2), q8, (I 1), (I 2), q6, (I 2), (I 2), q11, (I 3), (I 2), q5, (I 3), (I 2), q4])), (7126, (ce [(U 8322 0 6 3), (U 8324 0 2 2)]))] (del [5904, 7121, 7123, 7124, 7125, 7128, 7129, 5921, 5922, 7658] g11)
/-- the state behind piece 12; its texts -/
def s12 : St :=
⟨⟨⟨38, 300, false, none⟩,
  (n z20 (n (I 0) (n (A 5924 0) (n (I 0) (m (n (A 5924 0) (o (I 6)) e) (o (I 2))) (m (o z25) (o (A 5924 5)))) (n (A 7125 0) (m (n (I 0) (o (U 5920 0 2 6)) e) (o z20)) (n (A 5924 3) (o ff) (o (I 0))))) (m (n tt (m (n (A 5924 5) (o (I 0)) e) (o ff)) (m (o tt) (o (I 2)))) (m (m (n (A 5924 11) (o z26) e) (o (A 5924 0))) (m (o (A 5924 4)) (o (A 5924 7)))))) (n (I 0) (m (n (A 7124 0) (m (n z19 (o (I 0)) e) (o (I 2))) (m (o z24) (o (I 5)))) (n (A 7126 0) (m (n (I 0) (o (.tup [z26, tt])) e) (o (.tup [z26, tt]))) (n ff e (o (I 2))))) (n (A 5925 0) (n (I 2) (m (n (I 5) (o (A 5924 11)) e) e) (n (A 5924 0) (o tt) (o (A 5924 6)))) (m (m (n (U 5920 0 2 6) (o tt) e) (o z19)) (n z25 (o (I 1)) (o (I 4))))))),
  [.code (c 38 510)], [], .run⟩,
 [⟨⟨43, 25, false, none⟩,
  y4,
  [.reg (r 43 4 1), .code (c 43 6)], [], .run⟩,
 ⟨⟨15, 48, false, none⟩,
  y5,
  [.reg (r 15 46 2), .code (c 15 62)], [], .run⟩,
 ⟨⟨4, 141, false, none⟩,
  y6,
  [.reg (r 4 46 3), .code (c 4 62)], [], .run⟩],
 ⟨(p 8325), g12⟩,
 []⟩
def k12 : List (IC Blk) := [(c 38 510), (.region (r 43 4 1)), (c 43 6), (.region (r 15 46 2)), (c 15 62), (.region (r 4 46 3)), (c 4 62)]
theorem h12 : codesSt s12.fr s12.cs s12.ls = k12 := by kernel_rfl
def y8 : T V := (n z27 (n (I 12) (m e (o z27)) (o ff)) (n (A 8826 0) (n ns e (o (I 12))) e))
def y9 : T V := (n z27 (n (I 12) (n (I 0) (n (A 8823 0) (n ff (o (I 3)) e) (m (o (I 0)) e)) (m (m (o tt) e) (m (o (I 0)) e))) (n (I 0) (m (m (o ff) (o (I 12))) (m (o ff) e)) (m (m (o ff) e) (m (o z5) e)))) (n (I 0) (n (I 0) (m (n (A 8825 0) (o ff) (o z27)) (m (o ff) e)) (m (m (o ff) e) (m (o (I 0)) e))) (n (U 8817 0 3 6) (m (m (o (I 0)) e) e) (n (A 8824 0) (m (o ff) e) (n (U 8817 0 3 6) (o (A 8825 0)) e)))))
def y10 : T V := (n z32 (n (I 0) (n (A 8821 0) (n (I 0) (m (o (A 8821 0)) e) e) (m (m (o (I 0)) e) (o (A 8821 3)))) (m (m (m (o (A 8821 5)) e) e) (m (m (o (A 8821 11)) e) e))) (n (I 0) (m (m (m (o z27) e) e) (m (m (o (I 0)) e) (o ff))) (n (A 8822 0) (m (m (o (I 12)) e) (o (A 8821 0))) (m (m (o (U 8817 0 3 6)) e) e))))
def y11 : T V := (n z33 (n z32 (o (A 8819 0)) (n (I 0) (o z32) e)) (n (A 8818 0) (o (A 8820 0)) e))
def y12 : T V := (n z33 (n (A 8791 0) (n (I 0) (m (n ff (o (A 8797 9)) e) (o (A 8791 9))) (n ff (o (I 2)) (o z33))) (n (A 8797 0) (n (I 1) (n z33 (o (I 3)) e) (o (I 65538))) (n (I 2) (n (I 1) (o z32) e) (o z34)))) (n (A 8792 0) (n (I 0) (n z33 (m (o (I 2)) e) (o (I 2))) (n (A 8791 9) (n (A 8791 10) (o z33) e) (o (U 8710 0 9 3)))) (m (n ff (n (A 8791 9) (o (A 8797 9)) e) (o z35)) (n ff (o (I 65536)) (o z36)))))
def y13 : T V := (n ff (n (A 5807 0) (n (U 5824 0 9 3) (m (m (o (U 5824 0 9 3)) (o (U 8674 0 9 3))) (n ff (o (I 1)) e)) (m (m (o (U 5824 0 9 3)) e) (n tt (o (.tup [(U 8674 0 9 3), (I 0)])) e))) (n (U 8710 0 9 3) (m (m (o z38) (o (U 8710 0 9 3))) (n z18 (o (.tup [(U 8674 0 9 3), (I 0)])) e)) (m (m (o z38) (o (U 8710 0 9 3))) (n (S 5808 0 9 9) (o (I 0)) e)))) (n tt (n (I 0) (m (m (o (I 0)) (o (.tup [(U 8710 0 9 3), (I 0)]))) (n z18 (o (I 0)) e)) (m (m (o z21) (o z37)) (n (.tup [(U 5824 0 9 3), (I 0)]) (o (U 8674 0 9 3)) e))) (n (I 0) (m (m (o z17) (o (I 0))) (n z17 (o (U 5824 0 9 3)) e)) (m (n tt (o z37) (o z33)) (n (.tup [(U 5824 0 9 3), (I 0)]) (o (.tup [(U 8710 0 9 3), (I 0)])) e)))))
/-- the memory behind piece 13 -/
def g13 : T Blk := upd [(5807, (ce [(U 8659 0 386 1), ns, (I 0), ff, (I 2), (I 12), (I 0), (I 11), (I 1), (I 2), (I 1), (U 5920 0 2 6)])), (8935, (ce [(I 12), (I 2)])), (8791, (ce [(U 8659 0 386 1), ns, (I 0), ff, (I 2), (I 12), (I 0), (I 11), (I 1), (I 2), (I 1), (U 8790 0 2 6)])), (8823, (ce [(U 8659 0 386 1), ns, (I 0), ff])), (8659, (ce [q0, q15, q16, q17, q18, q19, q32, q33, q34, q35, q36, q37, q38, q0, q0, q0, q0, q0, q0, q0, q0, q0, q0, q0, q0, q0, q0, q0, q0, q0, q0, q0, q0, q0, q0, q0, q0, q0, q0, q0, q0, q0, q0, q0, q0, q0, q0, q0, q0, q0, q0, q0, q0, q0, q0, q0, q0, q0, q0, q0, q0, q0, q0, q0, q0, q0, q0, q0, q0, q0, q0, q0, q0, q0, q0, q0, q0, q0, q0, q0, q0, q0, q0, q0, q0, q0, q0, q0, q0, q0, q0, q0, q0, q0, q0, q0, q0, q0, q0, q0, q0, q0, q0, q0, q0, q0, q0, q0, q0, q0, q0, q0, q0, q0, q0, q0, q0, q0, q0, q0, q0, q0, q0, q0, q0, q0, q0, q0, q0, q0, q0, q0, q0, q0, q0, q0, q0, q0, q0, q0, q0, q0, q0, q0, q0, q0, q0, q0, q0, q0, q0, q0, q0, q0, q0, q0, q0, q0, q0, q0, q0, q0, q0, q0, q0, q0, q0, q0, q0, q0, q0, q0, q0, q0, q0, q0, q0, q0, q0, q0, q0, q0, q0, q0, q0, q0, q0, q0, q0, q0, q0, q0, q0, q0, q0, q0, q0, q0, q0, q0, q0, q0, q0, q0, q0, q0, q0, q0, q0, q0, q0, q0, q0, q0, q0, q0, q0, q0, q0, q0, q0, q0, q0, q0, q0, q0, q0, q0, q0, q0, q0, q0, q0, q0, q0, q0, q0, q0, q0, q0, q0, q0, q0, q0, q0, q0, q0, q0, q0, q0, q0, q0, q0, q0, q0, q0, q0, q0, q0, q0, q0, q0, q0, q0, q0, q0, q0, q0, q0, q0, q0, q0, q0, q0, q0, q0, q0, q0, q0, q0, q0, q0, q0, q0, q0, q0, q0, q0, q0, q0, q0, q0, q0, q0, q0, q0, q0, q0, q0, q0, q0, q0, q0, q0, q0, q0, q0, q0, q0, q0, q0, q0, q0, q0, q0, q0, q0, q0, q0, q0, q0, q0, q0, q0, q0, q0, q0, q0, q0, q0, q0, q0, q0, q0, q0, q0, q0, q0, q0, q0, q0, q0, q0, q0, q0, q0, q0, q0, q0, q0, q0, q0, q0, q0, q0, q0, q0, q0, q0, q0, q0, q0, q0, q0, q0, q0, q0, q0, q0, q0, q0, q0, q0, q0, q0, q0, q0, q0, q0, q0, q0, q0, q0, q0, q0, q0])), (8819, (ce [(U 8659 0 386 1), ns, (I 0), ff, (I 2), (I 12), (I 0), (I 11), (I 1), (I 3), (I 1), (U 8817 0 3 6)])), (8827, (ce [(U 8659 0 386 1), ns, (I 0), ff])), (8817, (ce [(I 1), (I 0), (I 0), (I 0), (I 0), (U 8710 0 9 3), (I 3), (I 1), (I 65537), (I 0), (I 0), (U 5824 0 9 3), (I 3), (I 2), (I 65538), (I 0), (I 0), (U 8710 0 9 3)])), (8937, (ce [(I 2), (I 1), ns, ns, ns, ns, (U 8936 0 3 2)])), (8825, (ce [ns, ns, ns, ns, (I 0), (I 0), ff])), (9045, (ce [(I 1), (I 0), (I 0), (I 0), (I 0)])), (8821, (ce [(U 8659 0 386 1), ns, (I 0), ff, (I 2), (I 12), (I 0), (I 11), (I 1), (I 3), (I 1), (U 8817 0 3 6)])), (8861, (ce [(I 4), (I 2), q2])), (8797, (ce [(U 8659 0 386 1), ns, (I 0), ff, (I 2), (I 12), (I 0), (I 11), (I 1), (I 3), (I 1), (U 8817 0 3 6)])), (8936, (ce [(I 12), (I 2), (I 10), (I 2), (I 11), (I 2)])), (8792, (ce [ns, ns, (I 0), ff, (I 0), (I 0), (I 0), (I 0), (I 0), (I 0), (I 0), ns])), (8824, (ce [ns, ns])), (8820, (ce [ns, ns, (I 0), ff, (I 0), (I 0), (I 0), (I 0), (I 0), (I 0), (I 0), ns])), (8828, (ce [(I 0), (I 0), ns, ns, ns, ns, ns])), (8674, (ce [(I 2), (I 7), q12, (I 1), (I 5), q10, (I 0), (I 0), q1, (I 0), (I 0), q1, (I 0), (I 0), q1, (I 0), (I 0), q1, (I 0), (I 0), q1, (I 0), (I 0), q1, (I 0), (I 0), q1])), (8978, (ce [(I 9), (I 2)])), (8818, (ce [(U 8659 0 386 1), ns, (I 0), ff, (I 2), (I 12), (I 0), (I 11), (I 1), (I 2), (I 1), (U 8790 0 2 6)])), (8826, (ce [(U 8659 0 386 1), ns, (I 0), ff])), (8710, (ce [(I 2), (I 7), q39, (I 1), (I 5), q10, (I 0), (I 0), q1, (I 0), (I 0), q1, (I 0), (I 0), q1, (I 0), (I 0), q1, (I 0), (I 0), q1, (I 0), (I 0), q1, (I 0), (I 0), q1])), (8870, (ce [(I 10), (I 2), (I 11), (I 2)])), (8790, (ce [(I 1), (I 0), (I 0), (I 0), (I 0), (U 8710 0 9 3), (I 3), (I 1), (I 65537), (I 0), (I 0), (U 5824 0 9 3)])), (8822, (ce [ns, ns, (I 0), ff, (I 0), (I 0), (I 0), (I 0), (I 0), (I 0), (I 0), ns]))] (del [8322, 8324, 5900, 5901, 7126, 5923, 5924, 5925] g12)
/-- the state behind piece 13; its texts -/
def s13 : St :=
⟨⟨⟨83, 134, false, none⟩,
  (n z27 (n (I 12) (m (n tt (n (A 9045 0) (n (.agg [(I 4), (I 2), q2]) (o (U 8870 0 2 2)) e) (n (U 8870 0 2 2) (o tt) e)) (n (I 12) (m (o tt) e) e)) (n (A 8937 0) (m (n (U 8870 0 2 2) (o (I 2)) e) (o (U 8870 0 2 2))) (n tt (n (A 8861 1) (o (.agg [(I 3), (I 2), q5])) e) (o (I 0))))) (n ff (n (I 1) (m (n (I 2) (o (A 8870 0)) e) (o (.agg [(I 2), (I 1), ns, ns, ns, ns, (U 8936 0 3 2)]))) (n (.agg [(I 4), (I 2), q2]) (o (I 1)) (o z27))) (n (A 8938 0) (n z28 (n tt (o (.agg [(I 3), (I 2), q5])) e) (o tt)) (m (n (.agg [(I 12), (I 2)]) (o z3) e) (o (A 8870 0)))))) (n (A 8827 0) (n (A 8828 0) (n (I 2) (n (U 8978 0 1 2) (n z29 (o (I 0)) e) (o (U 8936 0 3 2))) (n z28 (n (I 2) (o ff) e) (o z30))) (n (I 0) (m (n tt (o z30) e) (o (I 2))) (n ff (n (I 2) (o z31) e) (o (A 8870 0))))) (n (A 8861 0) (n (U 8870 0 2 2) (m (n (I 1) (o (A 8870 1)) e) (o (I 0))) (n tt (n (I 12) (o z31) e) (o (U 8870 0 2 2)))) (n tt (n z27 (n ff (o tt) e) e) (n z29 (n (S 8935 0 1 1) (o (U 8978 0 1 2)) e) (o (I 10))))))),
  [.code (c 83 124094), .inBlock 1, .code (c 83 7358), .inLoop (c 83 1214), .inBlock 0, .code (c 83 254)], [], .run⟩,
 [⟨⟨144, 33, false, none⟩,
  y8,
  [.reg (r 144 4 2), .code (c 144 6)], [], .run⟩,
 ⟨⟨79, 207, false, none⟩,
  y9,
  [.reg (r 79 22 2), .code (c 79 30)], [], .run⟩,
 ⟨⟨38, 300, false, none⟩,
  y10,
  [.reg (r 38 10 8), .code (c 38 14)], [], .run⟩,
 ⟨⟨43, 25, false, none⟩,
  y11,
  [.reg (r 43 4 1), .code (c 43 6)], [], .run⟩,
 ⟨⟨15, 48, false, none⟩,
  y12,
  [.reg (r 15 46 2), .code (c 15 62)], [], .run⟩,
 ⟨⟨4, 141, false, none⟩,
  y13,
  [.reg (r 4 382 3), .code (c 4 510)], [], .run⟩],
 ⟨(p 9046), g13⟩,
 []⟩
def k13 : List (IC Blk) := [(c 83 124094), .skip, (c 83 7358), (c 83 1214), .skip, (c 83 254), (.region (r 144 4 2)), (c 144 6), (.region (r 79 22 2)), (c 79 30), (.region (r 38 10 8)), (c 38 14), (.region (r 43 4 1)), (c 43 6), (.region (r 15 46 2)), (c 15 62), (.region (r 4 382 3)), (c 4 510)]
theorem h13 : codesSt s13.fr s13.cs s13.ls = k13 := by kernel_rfl
/-- the memory behind piece 14 -/
def g14 : T Blk := upd [(9471, (ce [(S 9321 0 9 9)])), (9473, (ce [(I 12), (I 2), (I 10), (I 2), (I 11), (I 2), (I 9), (I 2), (I 6), (I 2), (I 7), (I 2), (I 8), (I 2)])), (8937, (ce [(I 2), (I 1), (U 9468 0 1 5), (U 9469 0 1 1), (U 9470 0 1 1), (U 9471 0 1 1), (U 9473 0 7 2)])), (9469, (ce [(U 9319 0 3 3)])), (9468, (ce [(I 1), (I 0), (I 0), (I 0), (I 0)])), (9474, (ce [(I 3), (I 2), q4])), (9470, (ce [(U 9320 0 3 2)]))] (del [8978, 9045, 8861, 8870, 8935, 8936, 8826] g13)
/-- the state behind piece 14; its texts -/
def s14 : St :=
⟨⟨⟨83, 134, false, none⟩,
  (n z27 (n (I 12) (m (n tt (n (A 9045 0) (n (.agg [(I 4), (I 2), q2]) (n (U 8870 0 2 2) (o (U 8936 0 3 2)) e) (o (U 9318 0 3 3))) (n (U 8870 0 2 2) (o tt) (o (U 9469 0 1 1)))) (n (I 12) (m (o tt) (o ns)) (n (I 1) (o (U 9319 0 3 3)) (o (S 9321 0 9 9))))) (n (A 8937 0) (n (U 9318 0 3 3) (n (U 8870 0 2 2) (n (I 2) (o (U 9473 0 7 2)) e) (o tt)) (n (U 8870 0 2 2) (o (.tup [(U 9319 0 3 3), (U 9320 0 3 2), (U 9318 0 3 3), tt])) (o (S 9466 0 1 1)))) (n tt (n (A 8861 1) (o (.agg [(I 3), (I 2), q5])) (o (A 8937 3))) (n (I 1) (o tt) (o (A 8937 3)))))) (n ff (n (I 1) (n (U 9319 0 3 3) (n (I 2) (n (A 8870 2) (o (U 9472 0 4 2)) e) (o (S 9321 0 9 9))) (n (.agg [(I 2), (I 1), ns, ns, ns, ns, (U 8936 0 3 2)]) (o ff) (o ns))) (n (.agg [(I 4), (I 2), q2]) (n (I 1) e (o (S 9464 0 1 1))) (n z27 (o (U 9318 0 3 3)) (o (U 9471 0 1 1))))) (n (A 9474 0) (n z28 (n tt (o (.agg [(I 3), (I 2), q4])) e) (n tt (o (U 8978 0 1 2)) (o (A 8937 5)))) (m (n (.agg [(I 12), (I 2)]) (o z3) (o (U 9319 0 3 3))) (n (A 8870 2) e (o (A 8937 5))))))) (n (A 8827 0) (n (A 8828 0) (n (I 2) (n (U 8978 0 1 2) (n z29 (n (I 1) (o (U 8978 0 1 2)) e) (o (.tup [(S 9321 0 9 9), tt]))) (n (U 8936 0 3 2) (o tt) (o (A 8937 4)))) (n z28 (n (I 2) (o ff) (o z3)) (n z39 (o (U 9320 0 3 2)) (o (S 9467 0 1 1))))) (n (I 1) (n (S 9321 0 9 9) (n tt (n z39 (o (A 8937 6)) e) (o ff)) (n (I 2) (o z27) (o (U 9470 0 1 1)))) (n ff (n (I 2) (o z31) (o ns)) (n (A 8870 2) (o ff) (o (A 8937 4)))))) (n (A 8861 0) (n (U 8870 0 2 2) (n (U 9320 0 3 2) (n (I 1) (n (A 8870 3) (o (U 9320 0 3 2)) e) (o tt)) (n (I 1) e (o (U 9320 0 3 2)))) (n tt (n (I 12) (o z31) (o (U 9468 0 1 5))) (n (U 8870 0 2 2) (o tt) (o (A 8937 2))))) (n tt (n z27 (n ff (o tt) (o (A 8937 2))) (n (I 0) (o (.tup [(U 9319 0 3 3), (U 9320 0 3 2), (U 9318 0 3 3), tt])) (o ns))) (n z29 (n (S 8935 0 1 1) (o (U 8978 0 1 2)) (o (S 9465 0 1 1))) (n (I 11) (o (.tup [(S 9321 0 9 9), tt])) (o (A 8937 6)))))))),
  [.code (c 83 25790), .inBlock 1, .code (c 83 7358), .inLoop (c 83 1214), .inBlock 0, .code (c 83 254)], [], .run⟩,
 [⟨⟨144, 33, false, none⟩,
  y8,
  [.reg (r 144 4 2), .code (c 144 6)], [], .run⟩,
 ⟨⟨79, 207, false, none⟩,
  y9,
  [.reg (r 79 22 2), .code (c 79 30)], [], .run⟩,
 ⟨⟨38, 300, false, none⟩,
  y10,
  [.reg (r 38 10 8), .code (c 38 14)], [], .run⟩,
 ⟨⟨43, 25, false, none⟩,
  y11,
  [.reg (r 43 4 1), .code (c 43 6)], [], .run⟩,
 ⟨⟨15, 48, false, none⟩,
  y12,
  [.reg (r 15 46 2), .code (c 15 62)], [], .run⟩,
 ⟨⟨4, 141, false, none⟩,
  y13,
  [.reg (r 4 382 3), .code (c 4 510)], [], .run⟩],
 ⟨(p 9507), g14⟩,
 []⟩
def k14 : List (IC Blk) := [(c 83 25790), .skip, (c 83 7358), (c 83 1214), .skip, (c 83 254), (.region (r 144 4 2)), (c 144 6), (.region (r 79 22 2)), (c 79 30), (.region (r 38 10 8)), (c 38 14), (.region (r 43 4 1)), (c 43 6), (.region (r 15 46 2)), (c 15 62), (.region (r 4 382 3)), (c 4 510)]
theorem h14 : codesSt s14.fr s14.cs s14.ls = k14 := by kernel_rfl
/-- the memory behind piece 15 -/
def g15 : T Blk := upd [(10046, (ce [(I 6), (I 2), (I 7), (I 2), (I 8), (I 2), (I 9), (I 2), (I 10), (I 2), (I 11), (I 2), (I 12), (I 2)]))] (del [9473, 9474, 8937, 8827, 9468, 8828, 9469, 9470, 9471] g14)
/-- the state behind piece 15; its texts -/
def s15 : St :=
⟨⟨⟨79, 207, false, none⟩,
  (n z27 (n (I 12) (n (I 0) (n (A 8823 0) (n ff (o (I 3)) (o (.tup [(U 10046 0 7 2), tt]))) (m (o (I 0)) e)) (m (m (o tt) (o (U 10046 0 7 2))) (m (o (I 0)) e))) (n (I 0) (m (n (U 10046 0 7 2) (o ff) (o (I 12))) (m (o ff) e)) (m (m (o ff) e) (m (o z5) e)))) (n (I 0) (n (I 0) (m (n (A 8825 0) (o ff) (o z27)) (m (o ff) e)) (m (m (o ff) (o tt)) (m (o (I 0)) e))) (n (U 8817 0 3 6) (m (n tt (o (I 0)) (o (.tup [(U 10046 0 7 2), tt]))) e) (n (A 8824 0) (m (o ff) e) (n (U 8817 0 3 6) (o (A 8825 0)) e))))),
  [.code (c 79 30)], [], .run⟩,
 [⟨⟨38, 300, false, none⟩,
  y10,
  [.reg (r 38 10 8), .code (c 38 14)], [], .run⟩,
 ⟨⟨43, 25, false, none⟩,
  y11,
  [.reg (r 43 4 1), .code (c 43 6)], [], .run⟩,
 ⟨⟨15, 48, false, none⟩,
  y12,
  [.reg (r 15 46 2), .code (c 15 62)], [], .run⟩,
 ⟨⟨4, 141, false, none⟩,
  y13,
  [.reg (r 4 382 3), .code (c 4 510)], [], .run⟩],
 ⟨(p 10051), g15⟩,
 []⟩
def k15 : List (IC Blk) := [(c 79 30), (.region (r 38 10 8)), (c 38 14), (.region (r 43 4 1)), (c 43 6), (.region (r 15 46 2)), (c 15 62), (.region (r 4 382 3)), (c 4 510)]
theorem h15 : codesSt s15.fr s15.cs s15.ls = k15 := by kernel_rfl
/-- the memory behind piece 16 -/
def g16 : T Blk := upd [(10271, (.cells [(I 6), (I 2), (I 7), (I 2), (I 8), (I 2), (I 9), (I 2), (I 10), (I 2), (I 11), (I 2)] true)), (10307, (ce [(I 4), (I 2), q2])), (10273, (ce [(I 4), (I 2), q2])), (8825, (ce [(U 10482 0 3 3), ns, (U 10308 0 7 2), (U 10309 0 7 3), (I 0), (I 0), ff])), (10309, (ce [(I 1), (I 2), q7, (I 1), (I 2), q8, (I 1), (I 2), q6, (I 2), (I 2), q11, (I 3), (I 2), q5, (I 3), (I 2), q4, (I 4), (I 2), q2])), (10272, (.cells [(I 1), (I 2), q7, (I 1), (I 2), q8, (I 1), (I 2), q6, (I 2), (I 2), q11, (I 3), (I 2), q5, (I 3), (I 2), q4] true)), (10308, (ce [(I 6), (I 2), (I 7), (I 2), (I 8), (I 2), (I 9), (I 2), (I 10), (I 2), (I 11), (I 2), (I 12), (I 2)])), (10306, (ce [(I 12), (I 2)])), (10482, (ce [(I 1), (I 0), q21, (I 1), (I 0), q22, (I 1), (I 0), q9])), (10606, (ce [(I 2), (I 0), q28]))] (del [] g15)
/-- the state behind piece 16; its texts -/
def s16 : St :=
⟨⟨⟨79, 207, false, none⟩,
  (n z27 (n (I 12) (n (I 0) (n (A 8823 0) (n ff (n (I 3) (n (A 10046 12) (o tt) e) (o (A 8825 0))) (n (.tup [(U 10046 0 7 2), tt]) (n (A 10046 12) (o (A 8825 0)) e) (o (U 10309 0 7 3)))) (n (U 10443 0 4 3) (n (I 0) (n z28 (o (U 10443 0 4 3)) e) (o (S 10306 0 1 1))) (n (I 7) (n (A 10046 12) (o (S 10483 0 1 1)) e) (o tt)))) (m (n (I 7) (n tt (n (I 6) (o (I 0)) e) (o (U 10046 0 7 2))) (n (U 10046 0 7 2) (n ff (o (A 10443 9)) e) (o (A 8825 3)))) (n (U 10606 0 1 3) (n (I 0) (n tt (o ff) e) (o (A 8825 3))) (n z28 (n tt (o (U 10484 0 4 2)) e) (o (I 0)))))) (n (I 0) (m (n (U 10046 0 7 2) (n ff (o (I 12)) (o (A 8825 2))) (n (I 12) (n (I 0) (o (U 10443 0 4 3)) e) (o (A 8825 2)))) (n ns (n ff (n tt (o (U 10443 0 4 3)) e) (o (A 8825 0))) (n (I 6) (n (I 0) (o (I 0)) e) e))) (m (n tt (n ff (n (A 10046 13) (o (A 8817 5)) e) (o (A 10046 12))) (n (I 7) (n (I 6) (o (.agg [(I 1), (I 0), q9])) e) (o (U 8817 0 3 6)))) (m (n z5 (n (I 6) (o (I 4)) e) (o (.agg [(I 4), (I 2), q2]))) (n (U 10046 0 7 2) (o (A 8825 0)) (o (A 8817 5))))))) (n (I 0) (n (I 0) (m (n (A 8825 0) (n ff (n (A 10046 12) (o ff) e) (o (A 8825 0))) (n z27 (n (I 12) (o (I 0)) e) (o (A 8825 0)))) (n (U 10484 0 4 2) (n ff (n (.agg [(I 4), (I 2), q2]) (o (I 4)) e) (o (U 10308 0 7 2))) (n ff (n (I 12) (o (U 10484 0 4 2)) e) e))) (m (n (A 10273 0) (n ff (n (A 10046 12) (o (A 8817 0)) e) (o (I 6))) (n tt (n (U 10046 0 7 2) (o (.agg [(I 2), (I 1), q10])) e) (o (I 0)))) (m (n (I 0) (n (U 10046 0 7 2) (o (I 3)) e) (o (U 10272 0 6 3))) (n z27 (n tt (o (U 10606 0 1 3)) e) (o (A 8817 0)))))) (n (U 8817 0 3 6) (m (n tt (n (I 0) (n (U 10046 0 7 2) (o (U 8817 0 3 6)) e) (o (U 10271 0 6 2))) (n (.tup [(U 10046 0 7 2), tt]) (n ff (o (I 3)) e) (o (A 8825 0)))) (n (I 4) (m (n tt (o (I 4)) e) (o (A 8825 0))) (n (I 7) (n tt (o (U 10443 0 4 3)) e) (o (U 8817 0 3 6))))) (n (A 8824 0) (n (I 0) (n ff (n (I 2) (o (U 8710 0 9 3)) e) (o (.agg [(I 12), (I 2)]))) (n (U 10046 0 7 2) (n (A 10046 12) (o (.agg [(I 2), (I 0)])) e) (o (I 3)))) (n (U 8817 0 3 6) (n (A 8825 0) (n (A 10046 12) (o (U 10475 0 3 2)) e) (o (S 10307 0 1 1))) (n (I 6) (o (A 8825 0)) (o (U 8710 0 9 3)))))))),
  [.code (c 79 258654), .inBlock 3, .code (c 79 3678), .inLoop (c 79 606), .inBlock 2, .code (c 79 126)], [], .run⟩,
 [⟨⟨38, 300, false, none⟩,
  y10,
  [.reg (r 38 10 8), .code (c 38 14)], [], .run⟩,
 ⟨⟨43, 25, false, none⟩,
  y11,
  [.reg (r 43 4 1), .code (c 43 6)], [], .run⟩,
 ⟨⟨15, 48, false, none⟩,
  y12,
  [.reg (r 15 46 2), .code (c 15 62)], [], .run⟩,
 ⟨⟨4, 141, false, none⟩,
  y13,
  [.reg (r 4 382 3), .code (c 4 510)], [], .run⟩],
 ⟨(p 10607), g16⟩,
 []⟩
def k16 : List (IC Blk) := [(c 79 258654), .skip, (c 79 3678), (c 79 606), .skip, (c 79 126), (.region (r 38 10 8)), (c 38 14), (.region (r 43 4 1)), (c 43 6), (.region (r 15 46 2)), (c 15 62), (.region (r 4 382 3)), (c 4 510)]
theorem h16 : codesSt s16.fr s16.cs s16.ls = k16 := by kernel_rfl
/-- the memory behind piece 17 -/
def g17 : T Blk := upd [(10683, (ce [(I 1), (I 0), q21, (I 1), (I 0), q22, (I 1), (I 0), q9, (I 2), (I 0), q28, (I 3), (I 0), q13])), (8825, (ce [(U 10683 0 5 3), (U 11012 0 2 2), (U 10308 0 7 2), (U 10309 0 7 3), (I 0), (I 0), ff])), (11012, (ce [(I 4), (I 0), (I 11), (I 2)]))] (del [10306, 10307, 10271, 10272, 10273, 10606, 10482, 8823, 10046] g16)
/-- the state behind piece 17; its texts -/
def s17 : St :=
⟨⟨⟨79, 207, false, none⟩,
  (n z27 (n (I 12) (n (I 0) (n (A 8823 0) (n ff (n (I 3) (n (A 10046 12) (o tt) (o (.agg [(I 3), (I 0), q4]))) (n (A 8825 0) (o (I 1)) e)) (n (.tup [(U 10046 0 7 2), tt]) (n (A 10046 12) (o (A 8825 0)) e) (n (U 10309 0 7 3) (o (A 8817 6)) e))) (n (U 10817 0 3 3) (n (I 0) (n z28 (o (U 10817 0 3 3)) e) (n (S 10306 0 1 1) (o (A 10937 0)) e)) (n (I 7) (n (A 10046 12) (o (S 10844 0 1 1)) e) (o tt)))) (m (n (I 7) (n tt (n (I 6) (o (I 1)) (o (A 8825 0))) (n (U 10046 0 7 2) (o ns) e)) (n (U 10046 0 7 2) (n ff (o (A 10817 6)) e) (n (A 8825 3) (o (.agg [(I 3), (I 0), q4])) e))) (n (U 10937 0 1 3) (n (I 0) (n tt (o ff) e) (n (A 8825 3) (o (U 10941 0 1 2)) e)) (n z28 (n tt (o (U 10845 0 3 2)) e) (n (I 2) (o (A 8825 0)) e))))) (n (I 0) (m (n (U 10046 0 7 2) (n ff (n (I 12) e (o (S 11011 0 1 1))) (n (A 8825 2) (o (I 0)) e)) (n (I 12) (n (I 0) (o (U 10817 0 3 3)) e) (n (A 8825 2) (o z9) e))) (n (U 10941 0 1 2) (n ff (n tt (o (U 10817 0 3 3)) e) (n (A 8825 0) (o (.agg [(I 9), (I 2)])) e)) (n (I 6) (n (I 0) (o (I 0)) e) (n (I 2) (o (A 8825 0)) e)))) (m (n tt (n ff (n (A 10046 13) (o (A 8817 11)) (o (A 8825 1))) (n (A 10046 12) (o (U 10937 0 1 3)) e)) (n (I 7) (n (I 6) (o (.agg [(I 1), (I 0), q6])) e) (n (U 8817 0 3 6) (o (.agg [(I 0), (I 0), q1])) e))) (n (A 11008 0) (n z5 (n (I 6) (o (I 3)) e) (n (.agg [(I 4), (I 2), q2]) (o (U 8817 0 3 6)) e)) (n (U 10046 0 7 2) (n (A 8825 0) (o (I 1)) e) (n (A 8817 17) (o (U 10685 0 1 2)) e)))))) (n (I 0) (n (I 0) (m (n (A 8825 0) (n ff (n (A 10046 12) (o ff) (o (.agg [(I 11), (I 2)]))) (n (A 8825 0) (o ff) e)) (n z27 (n (I 12) (o (I 0)) e) (n (A 8825 0) (o (A 8817 6)) e))) (n (U 10845 0 3 2) (n ff (n (.agg [(I 4), (I 2), q2]) (o (I 3)) e) (n (U 10308 0 7 2) (o (.agg [(I 2), (I 0), q11])) e)) (n ff (n (I 12) (o (U 10845 0 3 2)) e) (n (I 1) (o (A 8825 0)) e)))) (m (n (A 10273 0) (n ff (n (A 10046 12) (o (A 8817 6)) (o (A 8825 0))) (n (I 6) (o (A 8825 0)) e)) (n tt (n (U 10046 0 7 2) (o (.agg [(I 2), (I 0), q14])) e) (n (I 2) (o (.agg [(I 3), (I 0), q4])) e))) (n (I 1) (n (I 0) (n (U 10046 0 7 2) (o (I 2)) e) (n (U 10272 0 6 3) (o (I 0)) e)) (n z27 (n tt (o (U 10937 0 1 3)) e) (n (A 8817 12) (o (A 8825 1)) e))))) (n (U 8817 0 3 6) (m (n tt (n (I 0) (n (U 10046 0 7 2) (o (U 8817 0 3 6)) (o (U 11012 0 2 2))) (n (U 10271 0 6 2) (o (I 1)) e)) (n (.tup [(U 10046 0 7 2), tt]) (n ff (o (I 2)) e) (n (A 8825 0) (o (U 10941 0 1 2)) e))) (n (I 3) (m (n tt (o (I 3)) e) (n (A 8825 0) (o (S 10940 0 1 1)) e)) (n (I 7) (n tt (o (U 10817 0 3 3)) e) (n (U 8817 0 3 6) (o (A 8825 0)) e)))) (n (A 8824 0) (n (I 2) (n ff (n (I 2) (o (U 5824 0 9 3)) e) (n (.agg [(I 12), (I 2)]) (o (I 0)) e)) (n (U 10046 0 7 2) (n (A 10046 12) (o (.agg [(I 8), (I 2)])) e) (n (I 3) (o ff) e))) (n (U 8817 0 3 6) (n (A 8825 0) (n (A 10046 12) (o (U 10838 0 2 2)) e) (n (S 10307 0 1 1) (o (I 1)) e)) (n (I 6) (n (A 8825 0) (o (U 10937 0 1 3)) e) (n (U 8710 0 9 3) (o (A 8825 0)) e))))))),
  [.code (c 79 25182), .code (c 79 12894), .inBlock 3, .code (c 79 3678), .inLoop (c 79 606), .inBlock 2, .code (c 79 126)], [], .run⟩,
 [⟨⟨38, 300, false, none⟩,
  y10,
  [.reg (r 38 10 8), .code (c 38 14)], [], .run⟩,
 ⟨⟨43, 25, false, none⟩,
  y11,
  [.reg (r 43 4 1), .code (c 43 6)], [], .run⟩,
 ⟨⟨15, 48, false, none⟩,
  y12,
  [.reg (r 15 46 2), .code (c 15 62)], [], .run⟩,
 ⟨⟨4, 141, false, none⟩,
  y13,
  [.reg (r 4 382 3), .code (c 4 510)], [], .run⟩],
 ⟨(p 11074), g17⟩,
 []⟩
def k17 : List (IC Blk) := [(c 79 25182), (c 79 12894), .skip, (c 79 3678), (c 79 606), .skip, (c 79 126), (.region (r 38 10 8)), (c 38 14), (.region (r 43 4 1)), (c 43 6), (.region (r 15 46 2)), (c 15 62), (.region (r 4 382 3)), (c 4 510)]
theorem h17 : codesSt s17.fr s17.cs s17.ls = k17 := by kernel_rfl
def y14 : T V := (n z27 (n (I 12) (m e (o z27)) (o ff)) (n (A 11387 0) (n ns e (o (I 12))) e))
def y15 : T V := (n z27 (n (I 12) (n (I 13) (n (A 11384 0) (n ff (o (I 3)) e) (m (o (I 13)) e)) (m (m (o tt) e) (m (o (I 3)) e))) (n (I 0) (m (m (o ff) (o (I 12))) (m (o ff) e)) (m (m (o ff) e) (m (o z41) e)))) (n (I 3) (n (I 0) (m (n (A 11386 0) (o ff) (o z27)) (m (o ff) e)) (m (m (o ff) e) (m (o (I 13)) e))) (n (U 8817 0 3 6) (m (m (o (I 3)) e) e) (n (A 11385 0) (m (o ff) e) (n (U 8817 0 3 6) (o (A 11386 0)) e)))))
def y16 : T V := (n z32 (n (I 0) (n (A 8821 0) (n (I 0) (m (n (A 8821 0) (o (I 13)) e) (o (I 3))) (m (o z43) (o (A 8821 5)))) (n (A 11382 0) (m (n (I 0) (o (U 8817 0 3 6)) e) (o z32)) (n (A 8821 3) (o ff) (o (I 0))))) (m (n tt (m (n (A 8821 5) (o (I 0)) e) (o ff)) (m (o tt) (o (I 3)))) (m (m (o (A 8821 11)) (o (A 8821 0))) (m (o (A 8821 4)) (o (A 8821 7)))))) (n (I 0) (m (n (A 11381 0) (m (n z27 (o (I 0)) e) (o (I 3))) (m (o z42) (o (I 12)))) (n (A 11383 0) (m (o (I 0)) e) (n ff e (o (I 2))))) (n (A 8822 0) (n (I 3) (m (n (I 12) (o (A 8821 11)) e) e) (n (A 8821 0) (o tt) (o (A 8821 6)))) (m (m (o (U 8817 0 3 6)) (o z27)) (n z43 (o (I 2)) (o (I 11)))))))
/-- the memory behind piece 18 -/
def g18 : T Blk := upd [(11431, (ce [(I 10), (I 2), (I 11), (I 2)])), (11879, (ce [(I 1), (I 0), q29, (I 1), (I 1), q12, (I 2), (I 0), q14])), (11383, (ce [ns, ns])), (11539, (ce [(I 9), (I 2)])), (11387, (ce [(U 8659 0 386 1), ns, (I 0), ff])), (11881, (ce [(I 6), (I 2), (I 7), (I 2), (I 8), (I 2)])), (11497, (ce [(I 12), (I 2), (I 10), (I 2), (I 11), (I 2)])), (11385, (ce [ns, ns])), (11381, (ce [(U 11378 0 6 3), (U 11380 0 3 2)])), (11389, (ce [(I 0), (I 0), ns, ns, ns, ns, ns])), (11880, (ce [(I 1), (I 0), q1, (I 1), (I 1), q1, (I 2), (I 0), q1])), (11496, (ce [(I 12), (I 2)])), (11384, (ce [(U 8659 0 386 1), ns, (I 0), ff])), (11380, (ce [(I 4), (I 0), (I 11), (I 2), (I 5), (I 0)])), (11388, (ce [(U 8659 0 386 1), ns, (I 0), ff])), (11378, (ce [(I 1), (I 0), q21, (I 1), (I 0), q22, (I 1), (I 0), q9, (I 2), (I 0), q28, (I 3), (I 0), q13, (I 3), (I 0), (.str (st 24 66989347881523629671253778789507410241257987))])), (11498, (ce [(I 2), (I 1), ns, ns, ns, ns, (U 11497 0 3 2)])), (11386, (ce [ns, ns, ns, ns, (I 3), (I 13), ff])), (11606, (ce [(I 1), (I 0), (I 0), (I 0), (I 0)])), (11382, (ce [(U 8659 0 386 1), ns, (I 0), ff, (I 2), (I 12), (I 0), (I 11), (I 1), (I 3), (I 1), (U 8817 0 3 6)])), (11422, (ce [(I 4), (I 2), q2]))] (del [11012, 10308, 10309, 8824, 8825, 10683] g17)
/-- the state behind piece 18; its texts -/
def s18 : St :=
⟨⟨⟨83, 134, false, none⟩,
  (n z27 (n (I 12) (m (n tt (n (A 11606 0) (n (.agg [(I 4), (I 2), q2]) (o (U 11431 0 2 2)) e) (n (U 11431 0 2 2) (o tt) e)) (n (I 12) (m (o tt) e) (m (o (U 11880 0 3 3)) e))) (n (A 11498 0) (n (U 11879 0 3 3) (n (U 11431 0 2 2) (o (I 2)) e) (n (U 11431 0 2 2) (o (.tup [(U 11880 0 3 3), (U 11881 0 3 2), (U 11879 0 3 3), tt])) e)) (n tt (n (A 11422 1) (o (.agg [(I 3), (I 2), q5])) e) (o (I 0))))) (n ff (n (I 1) (n (U 11880 0 3 3) (n (I 2) (o (A 11431 0)) e) (n (.agg [(I 2), (I 1), ns, ns, ns, ns, (U 11497 0 3 2)]) (o ff) e)) (n (.agg [(I 4), (I 2), q2]) (o (I 1)) (n z27 (o (U 11879 0 3 3)) e))) (n (A 11499 0) (n z28 (n tt (o (.agg [(I 3), (I 2), q5])) e) (n tt (o (U 11539 0 1 2)) e)) (m (n (.agg [(I 12), (I 2)]) (o z3) e) (o (A 11431 0)))))) (n (A 11388 0) (n (A 11389 0) (n (I 2) (n (U 11539 0 1 2) (n z40 (o (I 0)) e) (n (U 11497 0 3 2) (o tt) e)) (n z28 (n (I 2) (o ff) e) (n z30 (o (U 11881 0 3 2)) e))) (n (I 0) (m (n tt (o z30) e) (n (I 2) (o z27) e)) (n ff (n (I 2) (o (.tup [z3, (U 11539 0 1 2), tt])) e) (o (A 11431 0))))) (n (A 11422 0) (n (U 11431 0 2 2) (n (U 11881 0 3 2) (n (I 1) (o (A 11431 1)) e) (o (I 0))) (n tt (n (I 12) (o (.tup [z3, (U 11539 0 1 2), tt])) e) (n (U 11431 0 2 2) (o tt) e))) (n tt (n z27 (n ff (o tt) e) (m (o (.tup [(U 11880 0 3 3), (U 11881 0 3 2), (U 11879 0 3 3), tt])) e)) (n z40 (n (S 11496 0 1 1) (o (U 11539 0 1 2)) e) (o (I 10))))))),
  [.code (c 83 517310), .inBlock 1, .code (c 83 7358), .inLoop (c 83 1214), .inBlock 0, .code (c 83 254)], [], .run⟩,
 [⟨⟨144, 33, false, none⟩,
  y14,
  [.reg (r 144 4 2), .code (c 144 6)], [], .run⟩,
 ⟨⟨79, 207, false, none⟩,
  y15,
  [.reg (r 79 22 2), .code (c 79 30)], [], .run⟩,
 ⟨⟨38, 300, false, none⟩,
  y16,
  [.reg (r 38 382 21), .code (c 38 510)], [], .run⟩,
 ⟨⟨43, 25, false, none⟩,
  y11,
  [.reg (r 43 4 1), .code (c 43 6)], [], .run⟩,
 ⟨⟨15, 48, false, none⟩,
  y12,
  [.reg (r 15 46 2), .code (c 15 62)], [], .run⟩,
 ⟨⟨4, 141, false, none⟩,
  y13,
  [.reg (r 4 382 3), .code (c 4 510)], [], .run⟩],
 ⟨(p 11882), g18⟩,
 []⟩
def k18 : List (IC Blk) := [(c 83 517310), .skip, (c 83 7358), (c 83 1214), .skip, (c 83 254), (.region (r 144 4 2)), (c 144 6), (.region (r 79 22 2)), (c 79 30), (.region (r 38 382 21)), (c 38 510), (.region (r 43 4 1)), (c 43 6), (.region (r 15 46 2)), (c 15 62), (.region (r 4 382 3)), (c 4 510)]
theorem h18 : codesSt s18.fr s18.cs s18.ls = k18 := by kernel_rfl
/-- the memory behind piece 19 -/
def g19 : T Blk := upd [(12031, (ce [(U 11881 0 3 2)])), (12415, (ce [(I 1), (I 0), q29, (I 1), (I 1), q12, (I 2), (I 0), q14])), (12075, (ce [(I 9), (I 2)])), (12417, (ce [(I 6), (I 2), (I 7), (I 2), (I 8), (I 2)])), (12029, (ce [(I 1), (I 0), (I 0), (I 0), (I 0)])), (12032, (ce [(S 11882 0 9 9)])), (12034, (ce [(I 12), (I 2), (I 10), (I 2), (I 11), (I 2), (I 9), (I 2), (I 6), (I 2), (I 7), (I 2), (I 8), (I 2)])), (11498, (ce [(I 2), (I 1), (U 12029 0 1 5), (U 12030 0 1 1), (U 12031 0 1 1), (U 12032 0 1 1), (U 12034 0 7 2)])), (12142, (ce [(I 3), (I 1), (I 65537), (I 0), (I 0)])), (12030, (ce [(U 11880 0 3 3)]))] (del [11539, 11422, 11431, 11606, 11879, 11880, 11496, 11881, 11497, 11387, 11388] g18)
/-- the state behind piece 19; its texts -/
def s19 : St :=
⟨⟨⟨83, 134, false, none⟩,
  (n z27 (n (I 12) (m (n tt (n (A 12142 0) (n (.agg [(I 4), (I 2), q2]) (n (U 11431 0 2 2) (o (U 11497 0 3 2)) e) (o (U 11879 0 3 3))) (n (U 11431 0 2 2) (o tt) (o (U 12030 0 1 1)))) (n (I 12) (m (o tt) (o ns)) (n (I 1) (o (U 12416 0 3 3)) (o (S 11882 0 9 9))))) (n (A 11498 0) (n (U 12415 0 3 3) (n (U 11431 0 2 2) (n (I 2) (o (U 12034 0 7 2)) e) (o tt)) (n (U 11431 0 2 2) (o (.tup [(U 12416 0 3 3), (U 12417 0 3 2), (U 12415 0 3 3), tt])) (o (S 12027 0 1 1)))) (n tt (n (A 11422 1) (o (.agg [(I 3), (I 2), q4])) (o (A 11498 3))) (n (I 1) (o tt) (o (A 11498 3)))))) (n ff (n (I 1) (n (U 12416 0 3 3) (n (I 2) (n (A 11431 2) (o (U 12033 0 4 2)) e) (o (S 11882 0 9 9))) (n (.agg [(I 2), (I 1), ns, ns, ns, ns, (U 11497 0 3 2)]) (o ff) (o ns))) (n (.agg [(I 4), (I 2), q2]) (n (I 1) e (o (S 12025 0 1 1))) (n z27 (o (U 12415 0 3 3)) (o (U 12032 0 1 1))))) (n (A 12035 0) (n z28 (n tt (o (.agg [(I 3), (I 2), q4])) e) (n tt (o (U 12075 0 1 2)) (o (A 11498 5)))) (m (n (.agg [(I 12), (I 2)]) (o z9) (o (U 11880 0 3 3))) (n (A 11431 2) e (o (A 11498 5))))))) (n (A 11388 0) (n (A 11389 0) (n (I 2) (n (U 12075 0 1 2) (n z40 (n (I 1) (o (U 11539 0 1 2)) e) (o (.tup [(S 11882 0 9 9), tt]))) (n (U 11497 0 3 2) (o tt) (o (A 11498 4)))) (n z28 (n (I 2) (o ff) (o z3)) (n z39 (o (U 12417 0 3 2)) (o (S 12028 0 1 1))))) (n (I 1) (n (S 11882 0 9 9) (n tt (n z39 (o (A 11498 6)) e) (o ff)) (n (I 2) (o z27) (o (U 12031 0 1 1)))) (n ff (n (I 2) (o (.tup [z9, (U 12075 0 1 2), tt])) (o ns)) (n (A 11431 2) (o ff) (o (A 11498 4)))))) (n (A 11422 0) (n (U 11431 0 2 2) (n (U 12417 0 3 2) (n (I 1) (n (A 11431 3) (o (U 11881 0 3 2)) e) (o tt)) (n (I 1) e (o (U 11881 0 3 2)))) (n tt (n (I 12) (o (.tup [z9, (U 12075 0 1 2), tt])) (o (U 12029 0 1 5))) (n (U 11431 0 2 2) (o tt) (o (A 11498 2))))) (n tt (n z27 (n ff (o tt) (o (A 11498 2))) (n (I 0) (o (.tup [(U 12416 0 3 3), (U 12417 0 3 2), (U 12415 0 3 3), tt])) (o ns))) (n z40 (n (S 11496 0 1 1) (o (U 12075 0 1 2)) (o (S 12026 0 1 1))) (n (I 11) (o (.tup [(S 11882 0 9 9), tt])) (o (A 11498 6)))))))),
  [.code (c 83 517310), .inBlock 1, .code (c 83 7358), .inLoop (c 83 1214), .inBlock 0, .code (c 83 254)], [], .run⟩,
 [⟨⟨144, 33, false, none⟩,
  y14,
  [.reg (r 144 4 2), .code (c 144 6)], [], .run⟩,
 ⟨⟨79, 207, false, none⟩,
  y15,
  [.reg (r 79 22 2), .code (c 79 30)], [], .run⟩,
 ⟨⟨38, 300, false, none⟩,
  y16,
  [.reg (r 38 382 21), .code (c 38 510)], [], .run⟩,
 ⟨⟨43, 25, false, none⟩,
  y11,
  [.reg (r 43 4 1), .code (c 43 6)], [], .run⟩,
 ⟨⟨15, 48, false, none⟩,
  y12,
  [.reg (r 15 46 2), .code (c 15 62)], [], .run⟩,
 ⟨⟨4, 141, false, none⟩,
  y13,
  [.reg (r 4 382 3), .code (c 4 510)], [], .run⟩],
 ⟨(p 12418), g19⟩,
 []⟩
def k19 : List (IC Blk) := [(c 83 517310), .skip, (c 83 7358), (c 83 1214), .skip, (c 83 254), (.region (r 144 4 2)), (c 144 6), (.region (r 79 22 2)), (c 79 30), (.region (r 38 382 21)), (c 38 510), (.region (r 43 4 1)), (c 43 6), (.region (r 15 46 2)), (c 15 62), (.region (r 4 382 3)), (c 4 510)]
theorem h19 : codesSt s19.fr s19.cs s19.ls = k19 := by kernel_rfl
/-- the memory behind piece 20 -/
def g20 : T Blk := upd [(12607, (ce [(I 6), (I 2), (I 7), (I 2), (I 8), (I 2), (I 9), (I 2), (I 10), (I 2), (I 11), (I 2), (I 12), (I 2)])), (12867, (ce [(I 12), (I 2)])), (12833, (.cells [(I 1), (I 2), q7, (I 1), (I 2), q8, (I 1), (I 2), q6, (I 2), (I 2), q11, (I 3), (I 2), q5, (I 3), (I 2), q4] true)), (12869, (ce [(I 6), (I 2), (I 7), (I 2), (I 8), (I 2), (I 9), (I 2), (I 10), (I 2), (I 11), (I 2), (I 12), (I 2)])), (12832, (.cells [(I 6), (I 2), (I 7), (I 2), (I 8), (I 2), (I 9), (I 2), (I 10), (I 2), (I 11), (I 2)] true)), (12868, (ce [(I 4), (I 2), q2])), (12834, (ce [(I 4), (I 2), q2])), (11386, (ce [ns, ns, (U 12869 0 7 2), (U 12870 0 7 3), (I 3), (I 13), ff])), (12870, (ce [(I 1), (I 2), q7, (I 1), (I 2), q8, (I 1), (I 2), q6, (I 2), (I 2), q11, (I 3), (I 2), q5, (I 3), (I 2), q4, (I 4), (I 2), q2]))] (del [12032, 12417, 12034, 12075, 11498, 12142, 11389, 12029, 12030, 12031, 12415] g19)
/-- the state behind piece 20; its texts -/
def s20 : St :=
⟨⟨⟨79, 207, false, none⟩,
  (n z27 (n (I 12) (n (I 13) (n (A 11384 0) (n ff (n (I 3) (n (A 12607 12) (o tt) e) (o (A 11386 0))) (n (.tup [(U 12607 0 7 2), tt]) (o (A 12607 12)) (o (U 12870 0 7 3)))) (m (n (I 13) (o z28) (o (S 12867 0 1 1))) (n (I 7) (o (A 12607 12)) (o tt)))) (m (n (I 7) (n tt (o (I 6)) (o (U 12607 0 7 2))) (n (U 12607 0 7 2) (o ff) (o (A 11386 3)))) (m (n (I 3) (o tt) (o (A 11386 3))) (n z28 (o tt) (o (I 0)))))) (n (I 0) (m (n (U 12607 0 7 2) (n ff (o (I 12)) (o (A 11386 2))) (n (I 12) (o (I 0)) (o (A 11386 2)))) (m (n ff (o tt) (o (A 11386 0))) (n (I 6) (o (I 0)) e))) (m (n tt (n ff (o (A 12607 13)) (o (A 12607 12))) (n (I 7) (o (I 6)) (o (U 8817 0 3 6)))) (m (n z41 (o (I 6)) (o (.agg [(I 4), (I 2), q2]))) (n (U 12607 0 7 2) (o (A 11386 0)) (o (A 8817 5))))))) (n (I 3) (n (I 0) (m (n (A 11386 0) (n ff (n (A 12607 12) (o ff) e) (o (A 11386 0))) (n z27 (o (I 12)) (o (A 11386 0)))) (m (n ff (o (.agg [(I 4), (I 2), q2])) (o (U 12869 0 7 2))) (n ff (o (I 12)) e))) (m (n (A 12834 0) (n ff (o (A 12607 12)) (o (I 6))) (n tt (o (U 12607 0 7 2)) (o (I 0)))) (m (n (I 13) (o (U 12607 0 7 2)) (o (U 12833 0 6 3))) (n z27 (o tt) (o (A 8817 0)))))) (n (U 8817 0 3 6) (m (n tt (n (I 3) (o (U 12607 0 7 2)) (o (U 12832 0 6 2))) (n (.tup [(U 12607 0 7 2), tt]) (o ff) (o (A 11386 0)))) (m (m (o tt) (o (A 11386 0))) (n (I 7) (o tt) (o (U 8817 0 3 6))))) (n (A 11385 0) (n (I 0) (n ff (o (I 2)) (o (.agg [(I 12), (I 2)]))) (n (U 12607 0 7 2) (o (A 12607 12)) (o (I 3)))) (n (U 8817 0 3 6) (n (A 11386 0) (o (A 12607 12)) (o (S 12868 0 1 1))) (n (I 6) (o (A 11386 0)) (o (U 8710 0 9 3)))))))),
  [.code (c 79 25182), .code (c 79 12894), .inBlock 3, .code (c 79 3678), .inLoop (c 79 606), .inBlock 2, .code (c 79 126)], [], .run⟩,
 [⟨⟨38, 300, false, none⟩,
  y16,
  [.reg (r 38 382 21), .code (c 38 510)], [], .run⟩,
 ⟨⟨43, 25, false, none⟩,
  y11,
  [.reg (r 43 4 1), .code (c 43 6)], [], .run⟩,
 ⟨⟨15, 48, false, none⟩,
  y12,
  [.reg (r 15 46 2), .code (c 15 62)], [], .run⟩,
 ⟨⟨4, 141, false, none⟩,
  y13,
  [.reg (r 4 382 3), .code (c 4 510)], [], .run⟩],
 ⟨(p 12932), g20⟩,
 []⟩
def k20 : List (IC Blk) := [(c 79 25182), (c 79 12894), .skip, (c 79 3678), (c 79 606), .skip, (c 79 126), (.region (r 38 382 21)), (c 38 510), (.region (r 43 4 1)), (c 43 6), (.region (r 15 46 2)), (c 15 62), (.region (r 4 382 3)), (c 4 510)]
theorem h20 : codesSt s20.fr s20.cs s20.ls = k20 := by kernel_rfl
/-- the memory behind piece 21 -/
def g21 : T Blk := upd [(13244, (ce [(I 1), (I 3), q21, (I 1), (I 3), q22, (I 1), (I 3), q9, (I 2), (I 3), q31, (I 3), (I 3), q20])), (13378, (ce [(I 1), (I 0), q29, (I 1), (I 1), q12, (I 2), (I 0), q14])), (11386, (ce [(U 13244 0 5 3), (U 13246 0 1 2), (U 12869 0 7 2), (U 12870 0 7 3), (I 3), (I 13), ff])), (13246, (ce [(I 17), (I 3)]))] (del [12832, 12833, 12834, 12607, 12867, 12868, 8797, 8818, 11378, 8819, 11380, 11381, 11382, 11384] g20)
/-- the state behind piece 21; its texts -/
def s21 : St :=
⟨⟨⟨79, 207, false, none⟩,
  (n z27 (n (I 12) (n (I 13) (n (A 11384 0) (n ff (n (I 3) (n (A 12607 12) (o tt) (o (.agg [(I 3), (I 3), q20]))) (n (A 11386 0) (o (I 1)) e)) (n (.tup [(U 12607 0 7 2), tt]) (n (A 12607 12) (o (A 11386 0)) e) (n (U 12870 0 7 3) (o (A 8817 0)) e))) (n (U 13378 0 3 3) (n (I 13) (n z28 (o (U 13378 0 3 3)) e) (n (S 12867 0 1 1) (o (A 13167 0)) e)) (n (I 7) (n (A 12607 12) (o (S 13044 0 1 1)) e) (o tt)))) (m (n (I 7) (n tt (n (I 6) (o (I 1)) (o (A 11386 0))) (n (U 12607 0 7 2) (o ns) e)) (n (U 12607 0 7 2) (n ff (o (A 13004 9)) e) (n (A 11386 3) (o (.agg [(I 3), (I 3), q20])) e))) (n (U 13167 0 1 3) (n (I 3) (n tt (o ff) e) (n (A 11386 3) (o (U 13173 0 1 2)) e)) (n z28 (n tt (o (U 13045 0 4 2)) e) (n (I 1) (o (A 11386 0)) e))))) (n (I 0) (m (n (U 12607 0 7 2) (n ff (n (I 12) e (o (S 13245 0 1 1))) (n (A 11386 2) (o (I 0)) e)) (n (I 12) (n (I 0) (o (U 13004 0 4 3)) e) (n (A 11386 2) (o z3) e))) (n (U 13173 0 1 2) (n ff (n tt (o (U 13004 0 4 3)) e) (n (A 11386 0) (o (.agg [(I 16), (I 3)])) e)) (n (I 6) (n (I 0) (o (I 3)) e) (n (I 1) (o (A 11386 0)) e)))) (m (n tt (n ff (n (A 12607 13) (o (A 8817 11)) (o (A 11386 1))) (n (A 12607 12) (o (U 13167 0 1 3)) e)) (n (I 7) (n (I 6) (o (.agg [(I 1), (I 3), q9])) e) (n (U 8817 0 3 6) (o (.agg [(I 0), (I 0), q1])) e))) (n (A 13240 0) (n z41 (n (I 6) (o (I 4)) e) (n (.agg [(I 4), (I 2), q2]) (o (U 8817 0 3 6)) e)) (n (U 12607 0 7 2) (n (A 11386 0) (o (I 1)) e) (n (A 8817 11) (o ns) e)))))) (n (I 3) (n (I 0) (m (n (A 11386 0) (n ff (n (A 12607 12) (o ff) (o (.agg [(I 17), (I 3)]))) (n (A 11386 0) (o ff) e)) (n z27 (n (I 12) (o (I 3)) e) (n (A 11386 0) (o (A 8817 0)) e))) (n (U 13045 0 4 2) (n ff (n (.agg [(I 4), (I 2), q2]) (o (I 4)) e) (n (U 12869 0 7 2) (o (.agg [(I 2), (I 3), q31])) e)) (n ff (n (I 12) (o (U 13045 0 4 2)) e) (n (I 0) (o (A 11386 0)) e)))) (m (n (A 12834 0) (n ff (n (A 12607 12) (o (A 8817 6)) (o (A 11386 0))) (n (I 6) (o (A 11386 0)) e)) (n tt (n (U 12607 0 7 2) (o (.agg [(I 2), (I 1), q10])) e) (n (I 1) (o (.agg [(I 3), (I 3), q20])) e))) (n (I 1) (n (I 13) (n (U 12607 0 7 2) (o (I 3)) e) (n (U 12833 0 6 3) (o (I 3)) e)) (n z27 (n tt (o (U 13167 0 1 3)) e) (n (A 8817 6) (o (A 11386 1)) e))))) (n (U 8817 0 3 6) (m (n tt (n (I 3) (n (U 12607 0 7 2) (o (U 8817 0 3 6)) (o (U 13246 0 1 2))) (n (U 12832 0 6 2) (o (I 1)) e)) (n (.tup [(U 12607 0 7 2), tt]) (n ff (o (I 3)) e) (n (A 11386 0) (o (U 13173 0 1 2)) e))) (n (I 4) (m (n tt (o (I 4)) e) (n (A 11386 0) (o (S 13172 0 1 1)) e)) (n (I 7) (n tt (o (U 13004 0 4 3)) e) (n (U 8817 0 3 6) (o (A 11386 0)) e)))) (n (A 11385 0) (n (I 1) (n ff (n (I 2) (o (U 5824 0 9 3)) e) (n (.agg [(I 12), (I 2)]) (o (I 0)) e)) (n (U 12607 0 7 2) (n (A 12607 12) (o (.agg [(I 15), (I 3)])) e) (n (I 3) (o ff) e))) (n (U 8817 0 3 6) (n (A 11386 0) (n (A 12607 12) (o (U 13036 0 3 2)) e) (n (S 12868 0 1 1) (o (I 0)) e)) (n (I 6) (n (A 11386 0) (o (U 13167 0 1 3)) e) (n (U 5824 0 9 3) (o (A 11386 0)) e))))))),
  [.code (c 79 29278), .inBlock 3, .code (c 79 3678), .inLoop (c 79 606), .inBlock 2, .code (c 79 126)], [], .run⟩,
 [⟨⟨38, 300, false, none⟩,
  y16,
  [.reg (r 38 382 21), .code (c 38 510)], [], .run⟩,
 ⟨⟨43, 25, false, none⟩,
  y11,
  [.reg (r 43 4 1), .code (c 43 6)], [], .run⟩,
 ⟨⟨15, 48, false, none⟩,
  y12,
  [.reg (r 15 46 2), .code (c 15 62)], [], .run⟩,
 ⟨⟨4, 141, false, none⟩,
  y13,
  [.reg (r 4 382 3), .code (c 4 510)], [], .run⟩],
 ⟨(p 13386), g21⟩,
 []⟩
def k21 : List (IC Blk) := [(c 79 29278), .skip, (c 79 3678), (c 79 606), .skip, (c 79 126), (.region (r 38 382 21)), (c 38 510), (.region (r 43 4 1)), (c 43 6), (.region (r 15 46 2)), (c 15 62), (.region (r 4 382 3)), (c 4 510)]
theorem h21 : codesSt s21.fr s21.cs s21.ls = k21 := by kernel_rfl
/-- the memory behind piece 22 -/
def g22 : T Blk := upd [(5807, (ce [(U 14296 0 386 1), ns, (I 0), ff, (I 3), (I 19), (I 0), (I 18), (I 1), (I 3), (I 1), (U 8817 0 3 6)])), (14296, (ce [q0, q15, q16, q17, q18, q19, q32, q33, q34, q35, q36, q37, q38, (.str (st 64 2880662073639123862684417)), (.str (st 64 6068259377800015320711937)), (.str (st 64 8827881463010113901997055804161)), (.str (st 64 22767388417955365006826171115460759585328544634268603315771126557456242621026403074)), (.str (st 64 1234228876138599372362669993282336635804656474812430140257075971)), (.str (st 64 1234228876138599372362669993282356918833230146270222362987201283)), (.str (st 64 20707134661621774435637726430758031980149611987374418101801018843988740)), q0, q0, q0, q0, q0, q0, q0, q0, q0, q0, q0, q0, q0, q0, q0, q0, q0, q0, q0, q0, q0, q0, q0, q0, q0, q0, q0, q0, q0, q0, q0, q0, q0, q0, q0, q0, q0, q0, q0, q0, q0, q0, q0, q0, q0, q0, q0, q0, q0, q0, q0, q0, q0, q0, q0, q0, q0, q0, q0, q0, q0, q0, q0, q0, q0, q0, q0, q0, q0, q0, q0, q0, q0, q0, q0, q0, q0, q0, q0, q0, q0, q0, q0, q0, q0, q0, q0, q0, q0, q0, q0, q0, q0, q0, q0, q0, q0, q0, q0, q0, q0, q0, q0, q0, q0, q0, q0, q0, q0, q0, q0, q0, q0, q0, q0, q0, q0, q0, q0, q0, q0, q0, q0, q0, q0, q0, q0, q0, q0, q0, q0, q0, q0, q0, q0, q0, q0, q0, q0, q0, q0, q0, q0, q0, q0, q0, q0, q0, q0, q0, q0, q0, q0, q0, q0, q0, q0, q0, q0, q0, q0, q0, q0, q0, q0, q0, q0, q0, q0, q0, q0, q0, q0, q0, q0, q0, q0, q0, q0, q0, q0, q0, q0, q0, q0, q0, q0, q0, q0, q0, q0, q0, q0, q0, q0, q0, q0, q0, q0, q0, q0, q0, q0, q0, q0, q0, q0, q0, q0, q0, q0, q0, q0, q0, q0, q0, q0, q0, q0, q0, q0, q0, q0, q0, q0, q0, q0, q0, q0, q0, q0, q0, q0, q0, q0, q0, q0, q0, q0, q0, q0, q0, q0, q0, q0, q0, q0, q0, q0, q0, q0, q0, q0, q0, q0, q0, q0, q0, q0, q0, q0, q0, q0, q0, q0, q0, q0, q0, q0, q0, q0, q0, q0, q0, q0, q0, q0, q0, q0, q0, q0, q0, q0, q0, q0, q0, q0, q0, q0, q0, q0, q0, q0, q0, q0, q0, q0, q0, q0, q0, q0, q0, q0, q0, q0, q0, q0, q0, q0, q0, q0, q0, q0, q0, q0, q0, q0, q0, q0, q0, q0, q0, q0, q0, q0, q0, q0, q0, q0, q0, q0, q0, q0, q0, q0, q0, q0, q0, q0, q0, q0, q0, q0, q0, q0, q0, q0, q0, q0, q0, q0, q0, q0, q0, q0, q0, q0, q0, q0, q0, q0, q0, q0, q0, q0, q0]))] (del [13244, 13246, 13378, 12869, 12870, 8791, 8792, 8820, 8821, 8822, 11383, 11385, 11386] g21)
/-- the state behind piece 22; its texts -/
def s22 : St :=
⟨⟨⟨4, 141, false, none⟩,
  (n ff (n (A 5807 0) (n (U 5824 0 9 3) (m (m (o (U 5824 0 9 3)) (o (U 8674 0 9 3))) (n ff (o (I 1)) (o z45))) (m (m (o (U 5824 0 9 3)) (o z45)) (n tt (o (.tup [(U 8674 0 9 3), (I 0)])) e))) (n (U 8710 0 9 3) (m (m (o z38) (o (U 8710 0 9 3))) (n z18 (o (.tup [(U 8674 0 9 3), (I 0)])) (o (I 2)))) (m (m (o z38) (o (U 8710 0 9 3))) (n (S 5808 0 9 9) (o (I 0)) e)))) (n tt (n (I 0) (m (m (o (I 0)) (o (.tup [(U 8710 0 9 3), (I 0)]))) (n z18 (o (I 0)) (o z44))) (m (m (o z21) (o z37)) (n (.tup [(U 5824 0 9 3), (I 0)]) (o (U 8674 0 9 3)) e))) (n (I 0) (m (m (o z17) (o (I 0))) (n z17 (o (U 5824 0 9 3)) (o (I 0)))) (m (n tt (o z37) (o z33)) (n (.tup [(U 5824 0 9 3), (I 0)]) (o (.tup [(U 8710 0 9 3), (I 0)])) e))))),
  [.code (c 4 510)], [], .run⟩,
 [],
 ⟨(p 14299), g22⟩,
 []⟩
def k22 : List (IC Blk) := [(c 4 510)]
theorem h22 : codesSt s22.fr s22.cs s22.ls = k22 := by kernel_rfl
/-- the memory behind piece 23 -/
def g23 : T Blk := upd [(14983, (ce [(I 2), (I 7), q12, (I 1), (I 5), q1, (I 0), (I 0), q1, (I 0), (I 0), q1, (I 0), (I 0), q1, (I 0), (I 0), q1, (I 0), (I 0), q1, (I 0), (I 0), q1, (I 0), (I 0), q1])), (15003, (ce [(I 0)])), (15001, (ce [(U 14983 0 9 3), (I 65537)])), (14948, (ce [(I 2), (I 7), q39, (I 1), (I 5), q10, (I 0), (I 0), q1, (I 0), (I 0), q1, (I 0), (I 0), q1, (I 0), (I 0), q1, (I 0), (I 0), q1, (I 0), (I 0), q1, (I 0), (I 0), q1])), (14932, (ce [(I 1), (I 0), (I 65537), (I 0), (I 0), (I 0), q1, q1, q1, (I 2), (I 0), (I 0), (I 2), (I 1), (I 0), q1, q23, q1, (I 3), (I 0), (I 0), (I 0), (I 0), (I 0), q23, q30, q1, (I 8), (I 0), (I 0), (I 0), (I 5), (I 0), q30, q1, q1, (I 9), (I 0), (I 0), (I 0), (I 0), (I 3), q1, q1, q1])), (15002, (ce [ns])), (14970, (ce [(U 14948 0 9 3), (I 65538)]))] (del [] g22)
/-- the state behind piece 23; its texts -/
def s23 : St :=
⟨⟨⟨9, 27, false, none⟩,
  (n (U 14983 0 9 3) (n (U 14948 0 9 3) (m (n (.fn 31 [(A 15002 0), (A 15003 0)]) (o ff) e) (o ff)) (n (A 15003 0) (o tt) (o tt))) (m (n (A 15002 0) (o (U 14983 0 9 3)) (o (U 14948 0 9 3))) (m (o ff) (o ff)))),
  [.code (c 9 26), .code (c 9 14)], [.call 31 [(A 15002 0), (A 15003 0)]], .run⟩,
 [⟨⟨17, 58, false, none⟩,
  (n z44 (n (I 1) (n (A 14933 0) (n (I 0) (n (.tup [z46, tt]) (o ff) e) (o (I 1))) (n tt (n z46 (o (U 14983 0 9 3)) e) (o tt))) (m (n tt (o (I 2)) (o z47)) (m (n (.tup [z47, tt]) (o (U 14948 0 9 3)) e) (o ff)))) (n (I 2) (m (n (A 14970 0) (n z44 (o ff) e) (o (.tup [z47, tt]))) (m (n tt (o (A 14970 0)) e) (o ff))) (n ns (n (A 15001 0) (n (.tup [z46, tt]) (o (A 15001 0)) e) (o tt)) (m (o z44) (o tt))))),
  [.reg (r 17 46 4), .code (c 17 62)], [], .run⟩,
 ⟨⟨4, 141, false, none⟩,
  (n ff (n (A 5807 0) (n (U 5824 0 9 3) (n (U 14932 0 5 9) (m (n (U 5824 0 9 3) (o (I 0)) e) (o (U 8674 0 9 3))) (n ff (o (I 1)) (o z45))) (m (m (o (U 5824 0 9 3)) (o z45)) (n tt (o (.tup [(U 8674 0 9 3), (I 0)])) (o (.tup [(U 14932 0 5 9), (I 0)]))))) (n (U 8710 0 9 3) (m (m (n z38 (o z44) e) (o (U 8710 0 9 3))) (n z18 (o (.tup [(U 8674 0 9 3), (I 0)])) (o (I 2)))) (m (m (o z38) (o (U 8710 0 9 3))) (n (S 5808 0 9 9) (o (I 0)) (o (.tup [(U 14932 0 5 9), (I 0)])))))) (n tt (n (I 0) (n (I 0) (m (o (I 0)) (o (.tup [(U 8710 0 9 3), (I 0)]))) (n z18 (o (I 0)) (o z44))) (m (m (o z21) (o z37)) (n (.tup [(U 5824 0 9 3), (I 0)]) (o (U 8674 0 9 3)) (o z44)))) (n (I 0) (m (m (o z17) (o (I 0))) (n z17 (o (U 5824 0 9 3)) (o (I 0)))) (m (n tt (o z37) (o z33)) (n (.tup [(U 5824 0 9 3), (I 0)]) (o (.tup [(U 8710 0 9 3), (I 0)])) (o (U 14932 0 5 9))))))),
  [.reg (r 4 1534 1), .code (c 4 2046)], [], .run⟩],
 ⟨(p 15240), g23⟩,
 []⟩
def k23 : List (IC Blk) := [(c 9 26), (c 9 14), (.region (r 17 46 4)), (c 17 62), (.region (r 4 1534 1)), (c 4 2046)]
theorem h23 : codesSt s23.fr s23.cs s23.ls = k23 := by kernel_rfl
/-- the memory behind piece 24 -/
def g24 : T Blk := upd [(16269, (ce [(I 1), (I 65538), (I 65538), (I 0), (I 0), (I 0), q1, q1, q1, (I 9), (I 0), (I 0), (I 0), (I 0), (I 0), q1, q1, q1])), (15758, (ce [(I 1), (I 65537), (I 65538), (I 0), (I 0), (I 0), q1, q1, q1, (I 3), (I 0), (I 0), (I 0), (I 0), (I 0), q30, q23, q1, (I 3), (I 0), (I 0), (I 0), (I 0), (I 0), q23, q40, q1, (I 6), (I 0), (I 0), (I 0), (I 0), (I 0), q40, q1, q10, (I 9), (I 0), (I 0), (I 0), (I 0), (I 3), q1, q1, q1]))] (del [14983, 5899, 15001, 15002, 15003, 5920, 5805, 5808, 5182, 5183, 8659, 8790, 8674, 14948, 14970] g23)
/-- the state behind piece 24; its texts -/
def s24 : St :=
⟨⟨⟨4, 141, false, none⟩,
  (n ff (n (A 5807 0) (n (U 5824 0 9 3) (n (U 14932 0 5 9) (m (n (U 5824 0 9 3) (o (I 0)) e) (o (U 8674 0 9 3))) (n ff (n (I 1) (o (.tup [(U 16269 0 2 9), (I 0)])) e) (o z45))) (n (U 16269 0 2 9) (m (n (U 5824 0 9 3) (o (U 15758 0 5 9)) e) (o z45)) (n tt (o (.tup [(U 8674 0 9 3), (I 0)])) (o (.tup [(U 14932 0 5 9), (I 0)]))))) (n (U 8710 0 9 3) (n (U 15758 0 5 9) (m (n z38 (o z44) e) (o (U 8710 0 9 3))) (n z18 (n (.tup [(U 8674 0 9 3), (I 0)]) (o (I 0)) e) (o (I 2)))) (m (m (n z38 (o (.tup [(U 16269 0 2 9), (I 0)])) e) (o (U 8710 0 9 3))) (n (S 5808 0 9 9) (o (I 0)) (o (.tup [(U 14932 0 5 9), (I 0)])))))) (n tt (n (I 0) (n (I 0) (m (n (I 0) (o (.tup [(U 15758 0 5 9), (I 0)])) e) (o (.tup [(U 8710 0 9 3), (I 0)]))) (n z18 (n (I 0) (o (U 16269 0 2 9)) e) (o z44))) (n (I 0) (m (n z21 (o (I 0)) e) (o z37)) (n (.tup [(U 5824 0 9 3), (I 0)]) (o (U 8674 0 9 3)) (o z44)))) (n (I 0) (n (I 0) (m (n z17 (o (.tup [(U 15758 0 5 9), (I 0)])) e) (o (I 0))) (n z17 (o (U 5824 0 9 3)) (o (I 0)))) (m (n tt (n z37 (o z44) e) (o z33)) (n (.tup [(U 5824 0 9 3), (I 0)]) (o (.tup [(U 8710 0 9 3), (I 0)])) (o (U 14932 0 5 9))))))),
  [.code (c 4 4094)], [], .run⟩,
 [],
 ⟨(p 16270), g24⟩,
 []⟩
def k24 : List (IC Blk) := [(c 4 4094)]
theorem h24 : codesSt s24.fr s24.cs s24.ls = k24 := by kernel_rfl
end
end Go.Proofs.YtapnfgnofdgliaaGreatDoor.sendForms
