/- The run of 'recvForms' is cut into 42 pieces; this text names what the states between them are made of. It holds for this program alone. -/
import Derived.Test.YtkjckoefkcmjhaaGreatDoorEvI
import Derived.WalkKit
import Derived.Test.YtkjckoefkcmjhaaGreatDoorProg
namespace Go.Proofs.YtkjckoefkcmjhaaGreatDoor.recvForms
open Go.Ev Go.Ev.Lit
set_option maxRecDepth 100000
noncomputable section
/-- a piece of the program's text -/
def c (f q : Nat) : IC Blk := codeAt Tryz.prog f (pa! q)
def r (f q n : Nat) : List (RS Blk) := regAt Tryz.prog f (pa! q) n
def F : Nat → Option FnI := fnsOf Tryz.prog [(247, repI), (145, insI 6), (275, insI 2), (333, cntI), (334, idxI), (272, joinI), (235, rowI crcTab)]
def A (a o : Nat) : V := .ptr (pa! a) o
def S (a o n c : Nat) : V := .sl (pa! a) o n (.ex c)
def U (a o n s : Nat) : V := .sl (pa! a) o n (.un s)
def I (n : Nat) : V := .int .i64 (.ofNat n)
def ns : V := .no .sl
def nf : V := .no .fn
def nm : V := .no .map
def np : V := .no .ptr
def ni : V := .no .iface
end
noncomputable section
def q0 : V := .str (st 64 0)
def q1 : V := .str (st 0 0)
def q2 : V := .str (st 2 24879)
def q3 : V := .str (st 64 89202980794122492572187502188965659060207877)
def q4 : V := .str (st 64 33093459155207470448897)
def q5 : V := .str (st 64 1208962713393047663542530)
def q6 : V := .str (st 64 411394995155436324435255536741159683649879211374862176134103299)
def q7 : V := .str (st 64 87117608036040247262794782788496113271044)
def q8 : V := .str (st 3 3309103)
def q9 : V := .str (st 1 47)
def q10 : V := .str (st 3 7302703)
def q11 : V := .str (st 15 309503917734020625310154753)
def q12 : V := .str (st 64 3659870917999094994567681)
def q13 : V := .str (st 64 2875939707156254217470465)
def q14 : V := .str (st 64 28352646209739092394497)
def q15 : V := .str (st 64 822802495666048057176435258596904277714669742632575900084863490)
def q16 : V := .str (st 64 822808797096150805883528721034762601191550522665986983815283203)
def q17 : V := .str (st 64 49043598751900097696550934639087445182741296686697546244)
def q18 : V := .str (st 3 155905)
def q19 : V := .str (st 5 13002473473)
def q20 : V := .str (st 21 174237864143478651955913017840371442384897)
def q21 : V := .str (st 5 117571585)
def q22 : V := .str (st 8 4295098369)
def q23 : V := .str (st 24 1461568626678784441833356086495000467273112616961)
def q24 : V := .str (st 5 10217390337)
def q25 : V := .str (st 5 100728834)
def q26 : V := .str (st 24 2923181681303958815392843670355575645610705289217)
def q27 : V := .str (st 24 2923204068480878543775890133520991435791630598403)
def q28 : V := .str (st 3 221441)
def q29 : V := .str (st 64 87117608036040246053868963173866938564868)
def q30 : V := .str (st 24 44602170961795088161212029927353159077855233)
def q31 : V := .str (st 24 2923204068480880855970584949811419765778277204994)
def q32 : V := .str (st 5 14512357633)
def q33 : V := .str (st 5 65539)
def q34 : V := .str (st 64 4084865526770883392176641)
def q35 : V := .str (st 64 18447593996197822977)
def q36 : V := .str (st 64 822802495761829028480553312244300966911564066608747095221338626)
def q37 : V := .str (st 64 822808797096150155058580847117036586533075764301706273923006979)
def q38 : V := .str (st 64 49043598751900097696550934639087445182741578161674256900)
def q39 : V := .str (st 15 309503917734020629605122049)
def q40 : V := .str (st 24 1461568626678784441833356086495000576124763767043)
def z0 : V := .agg [(U 776 0 258 1), ns, (I 0), ff]
def z1 : V := .agg [(U 776 0 258 1), ns, (I 0), ff, (I 0), (I 0), (I 0), (I 0), (I 0), (I 1), (I 1), (S 778 0 1 1)]
def z2 : V := .agg [(U 951 0 3 3), (U 953 0 1 2)]
def z3 : V := .agg [(I 1), (I 0), (I 0), (I 0), (I 0)]
def z4 : V := .agg [(U 1400 0 258 1), ns, (I 0), ff]
def z5 : V := .tup [(.agg [(I 4), (I 1), q11]), tt]
def z6 : V := .agg [ns, ns, ns, ns, (I 0), (I 0), ff]
def z7 : V := .agg [(U 1400 0 258 1), ns, (I 0), ff, (I 1), (I 5), (I 0), (I 4), (I 1), (I 2), (I 1), (U 1515 0 2 6)]
def z8 : V := .agg [(U 1400 0 258 1), ns, (I 0), ff, (I 1), (I 5), (I 0), (I 4), (I 1), (I 1), (I 1), (U 1494 0 1 6)]
def z9 : V := .agg [(I 3), (I 1), (I 65537), (I 0), (I 0), (U 1419 0 9 3)]
def z10 : V := .agg [(I 3), (I 1), (I 65537), (I 0), (I 0)]
def z11 : V := .agg [(U 1400 0 258 1), ns, (I 0), ff, (I 1), (I 5), (I 0), (I 4), (I 1), (I 1), (I 1), (U 1515 0 2 6)]
def z12 : V := .agg [(U 1400 0 258 1), ns, (I 0), ff, (I 1), (I 5), (I 0), (I 4), (I 1), (I 1), (I 1), (S 778 0 1 1)]
def z13 : V := .tup [z12, tt]
def z14 : V := .agg [(U 2716 0 6 3), (U 2718 0 2 2)]
def z15 : V := .tup [z14, tt]
def z16 : V := .agg [(U 3917 0 6 3), (U 3919 0 2 2)]
def z17 : V := .agg [(I 2), (I 0), (I 0), (I 2), (I 1), (I 0), q1, q8, q1]
def z18 : V := .agg [(U 4254 0 258 1), ns, (I 0), ff, (I 2), (I 12), (I 0), (I 11), (I 1), (I 2), (I 1), (U 1515 0 2 6)]
def z19 : V := .tup [z18, (I 1), (I 0)]
def z20 : V := .agg [(U 5602 0 258 1), ns, (I 0), ff]
def z21 : V := .agg [(U 5602 0 258 1), ns, (I 0), ff, (I 0), (I 0), (I 0), (I 0), (I 0), (I 1), (I 2), (S 5604 0 1 1)]
def z22 : V := .agg [(U 6226 0 258 1), ns, (I 0), ff, (I 1), (I 5), (I 0), (I 4), (I 1), (I 1), (I 2), (S 5604 0 1 1)]
def z23 : V := .tup [z22, tt]
def z24 : V := .agg [(U 7090 0 258 1), ns, (I 0), ff, (I 1), (I 5), (I 0), (I 4), (I 1), (I 1), (I 2), (U 7092 0 2 6)]
def z25 : V := .agg [(U 7151 0 258 1), ns, (I 0), ff, (I 1), (I 5), (I 0), (I 4), (I 1), (I 1), (I 2), (U 7153 0 2 6)]
def z26 : V := .agg [(U 11246 0 258 1), ns, (I 0), ff]
def z27 : V := .agg [(U 11214 0 258 1), ns, (I 0), ff, (I 2), (I 11), (I 0), (I 10), (I 1), (I 2), (I 2), (U 11236 0 2 6)]
def z28 : V := .agg [(U 11246 0 258 1), ns, (I 0), ff, (I 2), (I 11), (I 0), (I 10), (I 1), (I 2), (I 2), (U 11248 0 2 6)]
def z29 : V := .fn 165 [(A 11240 0), (A 11241 0), (A 11242 0), (A 11254 0)]
def z30 : V := .agg [(U 10958 0 258 1), ns, (I 0), ff, (I 2), (I 11), (I 0), (I 10), (I 1), (I 1), (I 2), (U 7153 0 2 6)]
def z31 : V := .tup [z30, (I 114), (I 0)]
def z32 : V := .agg [(I 11), (.int .i64 (.negSucc 0))]
def z33 : V := .agg [(U 13652 0 1 3), (U 13654 0 2 2)]
def z34 : V := .agg [(U 16053 0 1 3), (U 16055 0 2 2)]
def z35 : V := .agg [(U 17422 0 258 1), ns, (I 0), ff]
def z36 : V := .agg [(U 17391 0 258 1), ns, (I 0), ff, (I 2), (I 11), (I 0), (I 10), (I 1), (I 1), (I 2), (U 17393 0 1 6)]
def z37 : V := .agg [(U 17422 0 258 1), ns, (I 0), ff, (I 2), (I 11), (I 0), (I 10), (I 1), (I 1), (I 2), (U 17424 0 1 6)]
def z38 : V := .fn 165 [(A 17416 0), (A 17417 0), (A 17418 0), (A 17428 0)]
def z39 : V := .tup [z36, tt]
def z40 : V := .agg [(I 3), (I 1), (I 65537), (I 0), (I 0), (U 11252 0 9 3)]
def z41 : V := .agg [(U 17348 0 258 1), ns, (I 0), ff, (I 3), (I 13), (I 0), (I 12), (I 1), (I 2), (I 2), (U 11248 0 2 6)]
def z42 : V := .tup [z41, (I 26), (I 0)]
def z43 : V := .tup [z40, tt]
def z44 : V := .agg [(U 23816 0 386 1), ns, (I 0), ff, (I 0), (I 0), (I 0), (I 0), (I 0), (I 1), (I 2), (S 23818 0 1 1)]
def z45 : V := .agg [(U 23991 0 3 3), (U 23993 0 1 2)]
def z46 : V := .agg [(I 9), (I 0), (I 0), (I 0), (I 0), (I 0), q1, q1, q1]
def z47 : V := .agg [(I 1), (I 0), (I 99), (I 0), (I 0), (I 0), q1, q1, q1]
def z48 : V := .agg [(I 1), (I 0), (I 0), (I 0), (I 0), (I 0), q1, q1, q1]
def z49 : V := .agg [(I 9), (I 0), (I 0), (I 0), (I 0), (I 1), q1, q1, q1]
def z50 : V := .agg [(I 1), (I 5), (I 6), (I 0), (I 0), (I 0), q1, q1, q1]
def z51 : V := .agg [(I 2), (I 0), (I 0), (I 0), (I 1), (I 0), q1, q2, q1]
def z52 : V := .agg [(U 24440 0 386 1), ns, (I 0), ff, (I 1), (I 5), (I 0), (I 4), (I 1), (I 1), (I 2), (S 23818 0 1 1)]
def z53 : V := .tup [z52, tt]
def z54 : V := .agg [(I 2), (I 0), (I 0), (I 3), (I 1), (I 0), q1, q2, q1]
def z55 : V := .agg [(I 8), (I 0), (I 0), (I 0), (I 3), (I 0), q9, q1, q1]
def z56 : V := .agg [(I 5), (I 0), (I 0), (I 0), (I 0), (I 0), q10, q1, q1]
def z57 : V := .agg [(I 0), (I 0), (I 0), (I 0), (I 0), ns]
def z58 : V := .tup [z57, ff]
def z59 : V := .agg [(U 24834 0 386 1), ns, (I 0), ff, (I 1), (I 5), (I 0), (I 4), (I 1), (I 1), (I 2), (U 24836 0 1 6)]
def z60 : V := .agg [(U 25111 0 386 1), ns, (I 0), ff, (I 1), (I 5), (I 0), (I 4), (I 1), (I 1), (I 2), (U 25113 0 1 6)]
def z61 : V := .agg [(U 25484 0 386 1), ns, (I 0), ff, (I 1), (I 5), (I 0), (I 4), (I 1), (I 1), (I 2), (U 25486 0 1 6)]
def z62 : V := .agg [(U 26028 0 386 1), ns, (I 0), ff, (I 1), (I 5), (I 0), (I 4), (I 1), (I 1), (I 2), (U 26030 0 1 6)]
def z63 : V := .agg [(U 26575 0 386 1), ns, (I 0), ff, (I 1), (I 5), (I 0), (I 4), (I 1), (I 1), (I 2), (U 26577 0 1 6)]
def z64 : V := .agg [(U 27228 0 386 1), ns, (I 0), ff, (I 1), (I 5), (I 0), (I 4), (I 1), (I 1), (I 2), (U 27230 0 1 6)]
def z65 : V := .agg [(U 28008 0 386 1), ns, (I 0), ff, (I 1), (I 5), (I 0), (I 4), (I 1), (I 1), (I 2), (U 28010 0 1 6)]
def z66 : V := .tup [z65, (I 0), (I 1)]
def z67 : V := .agg [(U 29256 0 386 1), ns, (I 0), ff, (I 1), (I 5), (I 0), (I 4), (I 1), (I 2), (I 2), (U 29278 0 2 6)]
def z68 : V := .agg [(U 29288 0 386 1), ns, (I 0), ff, (I 1), (I 5), (I 0), (I 4), (I 1), (I 2), (I 2), (U 29290 0 2 6)]
def z69 : V := .agg [(I 3), (I 1), (I 99), (I 0), (I 0), (U 29294 0 9 3)]
def z70 : V := .tup [z69, tt]
def z71 : V := .agg [(U 33095 0 386 1), ns, (I 0), ff, (I 2), (I 11), (I 0), (I 10), (I 1), (I 2), (I 2), (U 29290 0 2 6)]
def z72 : V := .tup [z71, (I 80), (I 0)]
def z73 : V := .agg [(U 33126 0 386 1), ns, (I 0), ff, (I 2), (I 11), (I 0), (I 10), (I 1), (I 2), (I 2), (U 33128 0 2 6)]
def z74 : V := .tup [z73, (I 0), (I 3)]
def z75 : V := .agg [(I 3), (I 1), (I 99), (I 0), (I 0)]
def z76 : V := .agg [(U 33930 0 386 1), ns, (I 0), ff]
def z77 : V := .agg [(U 33869 0 386 1), ns, (I 0), ff, (I 1), (I 5), (I 0), (I 4), (I 1), (I 1), (I 2), (U 33871 0 2 6)]
def z78 : V := .agg [(U 33930 0 386 1), ns, (I 0), ff, (I 1), (I 5), (I 0), (I 4), (I 1), (I 1), (I 2), (U 33932 0 2 6)]
def z79 : V := .agg [(U 37249 0 386 1), ns, (I 0), ff, (I 2), (I 9), (I 0), (I 8), (I 1), (I 1), (I 2), (U 33932 0 2 6)]
def z80 : V := .tup [z79, (I 53), (I 0)]
def z81 : V := .agg [(U 37947 0 386 1), ns, (I 0), ff, (I 1), (I 5), (I 0), (I 4), (I 1), (I 2), (I 2), (U 37969 0 2 6)]
def z82 : V := .agg [(U 37979 0 386 1), ns, (I 0), ff, (I 1), (I 5), (I 0), (I 4), (I 1), (I 2), (I 2), (U 37981 0 2 6)]
/-- the memory behind piece 1 -/
def g1 : T Blk := upd [(0, (ce [ns, ns, (I 0), ff, (I 0), (I 0), (I 0), (I 0), (I 0), (I 0), (I 0), ns])), (959, (ce [ns, ns, ns, ns, (I 1), (I 2), ff])), (779, (ce [(U 776 0 258 1), ns, (I 0), ff, (I 0), (I 0), (I 0), (I 0), (I 0), (I 1), (I 1), (S 778 0 1 1)])), (777, (ce [(I 2), (I 7), q1, (I 0), (I 0), q1, (I 0), (I 0), q1, (I 0), (I 0), q1, (I 0), (I 0), q1, (I 0), (I 0), q1, (I 0), (I 0), q1, (I 0), (I 0), q1, (I 0), (I 0), q1])), (781, (ce [ns, ns, (I 0), ff, (I 0), (I 0), (I 0), (I 0), (I 0), (I 0), (I 0), ns])), (776, (ce [q0, q0, q0, q0, q0, q0, q0, q0, q0, q0, q0, q0, q0, q0, q0, q0, q0, q0, q0, q0, q0, q0, q0, q0, q0, q0, q0, q0, q0, q0, q0, q0, q0, q0, q0, q0, q0, q0, q0, q0, q0, q0, q0, q0, q0, q0, q0, q0, q0, q0, q0, q0, q0, q0, q0, q0, q0, q0, q0, q0, q0, q0, q0, q0, q0, q0, q0, q0, q0, q0, q0, q0, q0, q0, q0, q0, q0, q0, q0, q0, q0, q0, q0, q0, q0, q0, q0, q0, q0, q0, q0, q0, q0, q0, q0, q0, q0, q0, q0, q0, q0, q0, q0, q0, q0, q0, q0, q0, q0, q0, q0, q0, q0, q0, q0, q0, q0, q0, q0, q0, q0, q0, q0, q0, q0, q0, q0, q0, q0, q0, q0, q0, q0, q0, q0, q0, q0, q0, q0, q0, q0, q0, q0, q0, q0, q0, q0, q0, q0, q0, q0, q0, q0, q0, q0, q0, q0, q0, q0, q0, q0, q0, q0, q0, q0, q0, q0, q0, q0, q0, q0, q0, q0, q0, q0, q0, q0, q0, q0, q0, q0, q0, q0, q0, q0, q0, q0, q0, q0, q0, q0, q0, q0, q0, q0, q0, q0, q0, q0, q0, q0, q0, q0, q0, q0, q0, q0, q0, q0, q0, q0, q0, q0, q0, q0, q0, q0, q0, q0, q0, q0, q0, q0, q0, q0, q0, q0, q0, q0, q0, q0, q0, q0, q0, q0, q0, q0, q0, q0, q0, q0, q0, q0, q0, q0, q0, q0, q0, q0, q0, q0, q0, q0, q0, q0, q0, q0, q0])), (780, (ce [(U 776 0 258 1), ns, (I 0), ff, (I 0), (I 0), (I 0), (I 0), (I 0), (I 1), (I 1), (S 778 0 1 1)])), (956, (ce [ns, ns])), (778, (ce [(I 1), (I 0), (I 0), (I 0), (I 0), (S 777 0 9 9)])), (958, (ce [ns, ns]))] (del [] .E)
/-- the state behind piece 1; its texts -/
def s1 : St :=
⟨⟨⟨45, 207, false, none⟩,
  (n z0 (n (I 0) (n (I 2) (n (A 957 0) (n ff (n (I 1) (m (o tt) e) e) (o (.tup [ns, ff]))) (m (o (I 2)) (n (I 0) e (o tt)))) (m (n (I 0) (o tt) (o ns)) (m (o (I 1)) (m e (o (I 0)))))) (n (I 0) (m (n ns (o ff) (o (I 0))) (m (o ff) e)) (m (m (o ff) (n (I 0) e (o (S 778 0 1 1)))) (m (o (.agg [ns, ns, ns, ns, (I 1), (I 2), ff])) (m e (o (A 778 5))))))) (n (I 1) (n (I 0) (m (n (A 959 0) (n ff (m (o ff) e) e) (o z0)) (m (o ff) (o ff))) (m (m (o ff) (n ff e (o (I 0)))) (m (o (I 2)) (m e (o (A 778 0)))))) (n (S 778 0 1 1) (m (n ff (o (I 1)) (o (.tup [ns, ff]))) (m e (m e (o (S 778 0 1 1))))) (n (A 958 0) (n (I 0) (o ff) (n ns e (o (I 1)))) (n (S 778 0 1 1) (o (A 959 0)) (m e (o (S 777 0 9 9)))))))),
  [.code (c 45 25182), .code (c 45 12894), .inBlock 3, .code (c 45 3678), .inLoop (c 45 606), .inBlock 2, .code (c 45 126)], [], .run⟩,
 [⟨⟨20, 300, false, none⟩,
  (n z1 (n (I 0) (n (A 780 0) (n (I 0) (m (n (A 780 0) (o (I 2)) e) (o (I 1))) (m (o (.tup [z2, tt])) (o (A 780 5)))) (n (A 955 0) (m (n (I 0) (o (S 778 0 1 1)) e) (o z1)) (n (A 780 3) (o ff) (o (I 0))))) (m (n tt (m (n (A 780 5) (o (I 0)) e) (o ff)) (m (o tt) (o (I 1)))) (m (m (o (A 780 11)) (o (A 780 0))) (m (o (A 780 4)) (o (A 780 7)))))) (n (I 0) (m (n (A 954 0) (m (n z0 (o (I 0)) e) (o (I 1))) (m (o z2) (o (I 0)))) (n (A 956 0) (m (o (I 0)) e) (n ff e (o (I 2))))) (n (A 781 0) (n (I 1) (m (n (I 0) (o (A 780 11)) e) e) (n (A 780 0) (o tt) (o (A 780 6)))) (m (m (o (S 778 0 1 1)) (o z0)) (n (.tup [z2, tt]) (o (I 0)) (o (I 0))))))),
  [.reg (r 20 382 21), .code (c 20 510)], [], .run⟩,
 ⟨⟨5, 63, false, none⟩,
  (n (I 4) (n (I 1) (m (m (n ff (o (S 777 0 9 9)) e) (o ff)) (n ff (o ff) (o (I 258)))) (n ff (m (n (I 1) (o (S 778 0 1 1)) e) (o (I 4))) (n (I 4) (o (I 1)) (o (I 1))))) (m (n (A 0 0) (m (n ff (o (.agg [(I 1), (I 0), (I 0), (I 0), (I 0), (S 777 0 9 9)])) e) e) (n ff (n ff (o z1) e) (o z0))) (n (A 779 0) (n (I 4) (n ff (o z1) e) (o (I 256))) (n ff (o ff) (o z3))))),
  [.reg (r 5 22 1), .code (c 5 30)], [], .run⟩,
 ⟨⟨4, 143, false, none⟩,
  (o ff),
  [.reg (r 4 4 0), .code (c 4 6)], [], .run⟩,
 ⟨⟨3, 237, false, none⟩,
  (o ff),
  [.reg (r 3 8 0), .code (c 3 12), .code (c 3 6)], [], .run⟩],
 ⟨(p 986), g1⟩,
 []⟩
def k1 : List (IC Blk) := [(c 45 25182), (c 45 12894), .skip, (c 45 3678), (c 45 606), .skip, (c 45 126), (.region (r 20 382 21)), (c 20 510), (.region (r 5 22 1)), (c 5 30), (.region (r 4 4 0)), (c 4 6), (.region (r 3 8 0)), (c 3 12), (c 3 6)]
theorem h1 : codesSt s1.fr s1.cs s1.ls = k1 := by kernel_rfl
def y0 : T V := (n z7 (n (I 0) (n (A 1519 0) (n (I 0) (m (o (A 1519 0)) e) e) (m (m (o (I 0)) e) (o (A 1519 3)))) (m (m (m (o (A 1519 5)) e) e) (m (m (o (A 1519 11)) e) e))) (n (I 0) (m (m (m (o z4) e) e) (m (m (o (I 0)) e) (o ff))) (n (A 1520 0) (m (m (o (I 5)) e) (o (A 1519 0))) (m (m (o (U 1515 0 2 6)) e) e))))
def y1 : T V := (n z8 (n z7 (o (A 1517 0)) (n (I 0) (o z7) e)) (n (A 1516 0) (o (A 1518 0)) e))
def y2 : T V := (n z8 (n (A 1495 0) (n (I 0) (m (n ff (o (A 1499 9)) e) (o (A 1495 9))) (n ff (o (I 1)) (o z8))) (n (A 1499 0) (n (I 0) (n z8 (o (I 2)) e) (o (I 65537))) (n (I 1) (n (I 1) (o z7) e) (o z9)))) (n (A 1496 0) (n (I 0) (n z8 (m (o (I 1)) e) (o (I 1))) (n (A 1495 9) (n (A 1495 10) (o z8) e) (o (U 1419 0 9 3)))) (m (n ff (n (A 1495 9) (o (A 1499 9)) e) (o z10)) (n ff (o (I 65536)) (o z11)))))
def y3 : T V := (n ff (n (A 1402 0) (n (U 1419 0 9 3) (m e (o z13)) (m e (o (S 1403 0 9 9)))) (m (m (m (o (U 1419 0 9 3)) e) (o tt)) (m e (o (U 1419 0 9 3))))) (n tt (n (I 0) (m (m (o z12) e) (o z12)) (m e (o (.tup [(U 1419 0 9 3), (I 0)])))) (m (m (m (o z8) e) (o (.tup [(U 1419 0 9 3), (I 0)]))) (m (o z13) (o (I 0))))))
/-- the memory behind piece 2 -/
def g2 : T Blk := upd [(1519, (ce [(U 1400 0 258 1), ns, (I 0), ff, (I 1), (I 5), (I 0), (I 4), (I 1), (I 2), (I 1), (U 1515 0 2 6)])), (1559, (ce [(I 4), (I 1), q11])), (1495, (ce [(U 1400 0 258 1), ns, (I 0), ff, (I 1), (I 5), (I 0), (I 4), (I 1), (I 1), (I 1), (U 1494 0 1 6)])), (1523, (ce [ns, ns, ns, ns, (I 0), (I 0), ff])), (1419, (ce [(I 2), (I 7), q18, (I 1), (I 6), q1, (I 0), (I 0), q1, (I 0), (I 0), q1, (I 0), (I 0), q1, (I 0), (I 0), q1, (I 0), (I 0), q1, (I 0), (I 0), q1, (I 0), (I 0), q1])), (1515, (ce [(I 1), (I 0), (I 0), (I 0), (I 0), (U 1419 0 9 3), (I 3), (I 1), (I 65537), (I 0), (I 0), (U 1419 0 9 3)])), (1499, (ce [(U 1400 0 258 1), ns, (I 0), ff, (I 1), (I 5), (I 0), (I 4), (I 1), (I 2), (I 1), (U 1515 0 2 6)])), (1403, (ce [(I 2), (I 7), q1, (I 0), (I 0), q1, (I 0), (I 0), q1, (I 0), (I 0), q1, (I 0), (I 0), q1, (I 0), (I 0), q1, (I 0), (I 0), q1, (I 0), (I 0), q1, (I 0), (I 0), q1])), (1521, (ce [(U 1400 0 258 1), ns, (I 0), ff])), (1525, (ce [(U 1400 0 258 1), ns, (I 0), ff])), (1517, (ce [(U 1400 0 258 1), ns, (I 0), ff, (I 1), (I 5), (I 0), (I 4), (I 1), (I 2), (I 1), (U 1515 0 2 6)])), (1565, (ce [(I 4), (I 1)])), (1520, (ce [ns, ns, (I 0), ff, (I 0), (I 0), (I 0), (I 0), (I 0), (I 0), (I 0), ns])), (1496, (ce [ns, ns, (I 0), ff, (I 0), (I 0), (I 0), (I 0), (I 0), (I 0), (I 0), ns])), (1400, (ce [q0, q3, q4, q5, q6, q29, q0, q0, q0, q0, q0, q0, q0, q0, q0, q0, q0, q0, q0, q0, q0, q0, q0, q0, q0, q0, q0, q0, q0, q0, q0, q0, q0, q0, q0, q0, q0, q0, q0, q0, q0, q0, q0, q0, q0, q0, q0, q0, q0, q0, q0, q0, q0, q0, q0, q0, q0, q0, q0, q0, q0, q0, q0, q0, q0, q0, q0, q0, q0, q0, q0, q0, q0, q0, q0, q0, q0, q0, q0, q0, q0, q0, q0, q0, q0, q0, q0, q0, q0, q0, q0, q0, q0, q0, q0, q0, q0, q0, q0, q0, q0, q0, q0, q0, q0, q0, q0, q0, q0, q0, q0, q0, q0, q0, q0, q0, q0, q0, q0, q0, q0, q0, q0, q0, q0, q0, q0, q0, q0, q0, q0, q0, q0, q0, q0, q0, q0, q0, q0, q0, q0, q0, q0, q0, q0, q0, q0, q0, q0, q0, q0, q0, q0, q0, q0, q0, q0, q0, q0, q0, q0, q0, q0, q0, q0, q0, q0, q0, q0, q0, q0, q0, q0, q0, q0, q0, q0, q0, q0, q0, q0, q0, q0, q0, q0, q0, q0, q0, q0, q0, q0, q0, q0, q0, q0, q0, q0, q0, q0, q0, q0, q0, q0, q0, q0, q0, q0, q0, q0, q0, q0, q0, q0, q0, q0, q0, q0, q0, q0, q0, q0, q0, q0, q0, q0, q0, q0, q0, q0, q0, q0, q0, q0, q0, q0, q0, q0, q0, q0, q0, q0, q0, q0, q0, q0, q0, q0, q0, q0, q0, q0, q0, q0, q0, q0, q0, q0, q0])), (1516, (ce [(U 1400 0 258 1), ns, (I 0), ff, (I 1), (I 5), (I 0), (I 4), (I 1), (I 1), (I 1), (U 1494 0 1 6)])), (1522, (ce [ns, ns])), (1402, (ce [(U 1400 0 258 1), ns, (I 0), ff, (I 1), (I 5), (I 0), (I 4), (I 1), (I 1), (I 1), (S 778 0 1 1)])), (1494, (ce [(I 1), (I 0), (I 0), (I 0), (I 0), (U 1419 0 9 3)])), (1526, (ce [(I 0), (I 0), ns, ns, ns, ns, ns])), (1518, (ce [ns, ns, (I 0), ff, (I 0), (I 0), (I 0), (I 0), (I 0), (I 0), (I 0), ns]))] (del [0, 776, 779, 780, 781, 956, 958, 959] g1)
/-- the state behind piece 2; its texts -/
def s2 : St :=
⟨⟨⟨49, 134, false, none⟩,
  (n z4 (n (I 5) (m (n tt (m (o (.agg [(I 4), (I 1), q11])) e) (o (I 5))) (m (m (o (U 1565 0 1 2)) e) (o tt))) (n ff (n (I 1) (m (o (I 1)) e) (o (.agg [(I 4), (I 1), q11]))) (m (o z5) e))) (n (A 1525 0) (n (A 1526 0) (n (I 1) (m (o (.tup [(I 1), (I 1), (U 1565 0 1 2), tt])) e) (o z5)) (m (m (o tt) e) (o ff))) (n (A 1559 0) (n (U 1565 0 1 2) (m (o (I 1)) e) (o tt)) (m (o z4) (o (.tup [(I 1), (I 1), (U 1565 0 1 2), tt])))))),
  [.code (c 49 30)], [], .run⟩,
 [⟨⟨83, 33, false, none⟩,
  (n z4 (n (I 5) (m e (o z4)) (o ff)) (n (A 1524 0) (n ns e (o (I 5))) e)),
  [.reg (r 83 4 2), .code (c 83 6)], [], .run⟩,
 ⟨⟨45, 207, false, none⟩,
  (n z4 (n (I 5) (n (I 0) (n (A 1521 0) (n ff (o (I 2)) e) (m (o (I 0)) e)) (m (m (o tt) e) (m (o (I 0)) e))) (n (I 0) (m (m (o ff) (o (I 5))) (m (o ff) e)) (m (m (o ff) e) (m (o z6) e)))) (n (I 0) (n (I 0) (m (n (A 1523 0) (o ff) (o z4)) (m (o ff) e)) (m (m (o ff) e) (m (o (I 0)) e))) (n (U 1515 0 2 6) (m (m (o (I 0)) e) e) (n (A 1522 0) (m (o ff) e) (n (U 1515 0 2 6) (o (A 1523 0)) e))))),
  [.reg (r 45 22 2), .code (c 45 30)], [], .run⟩,
 ⟨⟨20, 300, false, none⟩,
  y0,
  [.reg (r 20 10 8), .code (c 20 14)], [], .run⟩,
 ⟨⟨39, 25, false, none⟩,
  y1,
  [.reg (r 39 4 1), .code (c 39 6)], [], .run⟩,
 ⟨⟨14, 48, false, none⟩,
  y2,
  [.reg (r 14 46 2), .code (c 14 62)], [], .run⟩,
 ⟨⟨4, 143, false, none⟩,
  y3,
  [.reg (r 4 22 3), .code (c 4 30)], [], .run⟩,
 ⟨⟨3, 237, false, none⟩,
  (o ff),
  [.reg (r 3 8 0), .code (c 3 12), .code (c 3 6)], [], .run⟩],
 ⟨(p 1610), g2⟩,
 []⟩
def k2 : List (IC Blk) := [(c 49 30), (.region (r 83 4 2)), (c 83 6), (.region (r 45 22 2)), (c 45 30), (.region (r 20 10 8)), (c 20 14), (.region (r 39 4 1)), (c 39 6), (.region (r 14 46 2)), (c 14 62), (.region (r 4 22 3)), (c 4 30), (.region (r 3 8 0)), (c 3 12), (c 3 6)]
theorem h2 : codesSt s2.fr s2.cs s2.ls = k2 := by kernel_rfl
/-- the memory behind piece 3 -/
def g3 : T Blk := upd [(1523, (ce [ns, ns, (U 2051 0 4 2), (U 2052 0 4 3), (I 0), (I 0), ff])), (2052, (ce [(I 1), (I 1), q21, (I 2), (I 1), q22, (I 3), (I 1), q23, (I 4), (I 1), q11]))] (del [1559, 1565, 1521, 1525, 1526] g2)
/-- the state behind piece 3; its texts -/
def s3 : St :=
⟨⟨⟨45, 207, false, none⟩,
  (n z4 (n (I 5) (n (I 0) (n (A 1521 0) (n ff (n (I 2) (n (A 1904 6) (o tt) e) (o (A 1523 0))) (n (.tup [(U 1904 0 4 2), tt]) (o (A 1904 6)) (o (U 2052 0 4 3)))) (m (n (I 0) (o z5) (o (S 2049 0 1 1))) (n (I 4) (o (A 1904 6)) (o tt)))) (m (n (I 4) (n tt (o (I 3)) (o (U 1904 0 4 2))) (n (U 1904 0 4 2) (o ff) (o (A 1523 3)))) (m (n (I 0) (o tt) (o (A 1523 3))) (n z5 (o tt) (o (I 0)))))) (n (I 0) (m (n (U 1904 0 4 2) (n ff (o (I 5)) (o (A 1523 2))) (n (I 5) (o (I 0)) (o (A 1523 2)))) (m (n ff (o tt) (o (A 1523 0))) (n (I 3) (o (I 0)) e))) (m (n tt (n ff (o (A 1904 7)) (o (A 1904 6))) (n (I 4) (o (I 3)) (o (U 1515 0 2 6)))) (m (n z6 (o (I 3)) (o (.agg [(I 4), (I 1), q11]))) (n (U 1904 0 4 2) (o (A 1523 0)) (o (A 1515 5))))))) (n (I 0) (n (I 0) (m (n (A 1523 0) (n ff (n (A 1904 6) (o ff) e) (o (A 1523 0))) (n z4 (o (I 5)) (o (A 1523 0)))) (m (n ff (o (.agg [(I 4), (I 1), q11])) (o (U 2051 0 4 2))) (n ff (o (I 5)) e))) (m (n (A 2016 0) (n ff (o (A 1904 6)) (o (I 3))) (n tt (o (U 1904 0 4 2)) (o (I 0)))) (m (n (I 0) (o (U 1904 0 4 2)) (o (U 2015 0 3 3))) (n z4 (o tt) (o (A 1515 0)))))) (n (U 1515 0 2 6) (m (n tt (n (I 0) (o (U 1904 0 4 2)) (o (U 2014 0 3 2))) (n (.tup [(U 1904 0 4 2), tt]) (o ff) (o (A 1523 0)))) (m (m (o tt) (o (A 1523 0))) (n (I 4) (o tt) (o (U 1515 0 2 6))))) (n (A 1522 0) (n (I 0) (n ff (o (I 1)) (o (.agg [(I 5), (I 1)]))) (n (U 1904 0 4 2) (o (A 1904 6)) (o (I 2)))) (n (U 1515 0 2 6) (n (A 1523 0) (o (A 1904 6)) (o (S 2050 0 1 1))) (n (I 3) (o (A 1523 0)) (o (U 1419 0 9 3)))))))),
  [.code (c 45 25182), .code (c 45 12894), .inBlock 3, .code (c 45 3678), .inLoop (c 45 606), .inBlock 2, .code (c 45 126)], [], .run⟩,
 [⟨⟨20, 300, false, none⟩,
  y0,
  [.reg (r 20 10 8), .code (c 20 14)], [], .run⟩,
 ⟨⟨39, 25, false, none⟩,
  y1,
  [.reg (r 39 4 1), .code (c 39 6)], [], .run⟩,
 ⟨⟨14, 48, false, none⟩,
  y2,
  [.reg (r 14 46 2), .code (c 14 62)], [], .run⟩,
 ⟨⟨4, 143, false, none⟩,
  y3,
  [.reg (r 4 22 3), .code (c 4 30)], [], .run⟩,
 ⟨⟨3, 237, false, none⟩,
  (o ff),
  [.reg (r 3 8 0), .code (c 3 12), .code (c 3 6)], [], .run⟩],
 ⟨(p 2114), g3⟩,
 []⟩
def k3 : List (IC Blk) := [(c 45 25182), (c 45 12894), .skip, (c 45 3678), (c 45 606), .skip, (c 45 126), (.region (r 20 10 8)), (c 20 14), (.region (r 39 4 1)), (c 39 6), (.region (r 14 46 2)), (c 14 62), (.region (r 4 22 3)), (c 4 30), (.region (r 3 8 0)), (c 3 12), (c 3 6)]
theorem h3 : codesSt s3.fr s3.cs s3.ls = k3 := by kernel_rfl
/-- the memory behind piece 4 -/
def g4 : T Blk := upd [(2719, (ce [(U 2716 0 6 3), (U 2718 0 2 2)])), (2716, (ce [(I 1), (I 0), q19, (I 1), (I 0), q24, (I 1), (I 0), q25, (I 2), (I 0), q30, (I 3), (I 0), (.str (st 24 66989347881523629671253778717447617180073985)), (I 3), (I 0), (.str (st 24 66989347881523629671253778789506310729629955))])), (2718, (ce [(I 4), (I 0), (I 5), (I 0)]))] (del [2052, 1522, 1523] g3)
/-- the state behind piece 4; its texts -/
def s4 : St :=
⟨⟨⟨20, 300, false, none⟩,
  (n z7 (n (I 0) (n (A 1519 0) (n (I 0) (m (o (A 1519 0)) e) (m (o z15) e)) (m (m (o (I 0)) e) (o (A 1519 3)))) (m (n tt (m (o (A 1519 5)) e) (m (o tt) e)) (m (m (o (A 1519 11)) e) e))) (n (I 0) (m (n (A 2719 0) (m (o z4) e) (m (o z14) e)) (m (m (o (I 0)) e) (o ff))) (n (A 1520 0) (m (m (o (I 5)) e) (o (A 1519 0))) (m (m (o (U 1515 0 2 6)) e) (o z15))))),
  [.code (c 20 14)], [], .run⟩,
 [⟨⟨39, 25, false, none⟩,
  y1,
  [.reg (r 39 4 1), .code (c 39 6)], [], .run⟩,
 ⟨⟨14, 48, false, none⟩,
  y2,
  [.reg (r 14 46 2), .code (c 14 62)], [], .run⟩,
 ⟨⟨4, 143, false, none⟩,
  y3,
  [.reg (r 4 22 3), .code (c 4 30)], [], .run⟩,
 ⟨⟨3, 237, false, none⟩,
  (o ff),
  [.reg (r 3 8 0), .code (c 3 12), .code (c 3 6)], [], .run⟩],
 ⟨(p 2720), g4⟩,
 []⟩
def k4 : List (IC Blk) := [(c 20 14), (.region (r 39 4 1)), (c 39 6), (.region (r 14 46 2)), (c 14 62), (.region (r 4 22 3)), (c 4 30), (.region (r 3 8 0)), (c 3 12), (c 3 6)]
theorem h4 : codesSt s4.fr s4.cs s4.ls = k4 := by kernel_rfl
/-- the memory behind piece 5 -/
def g5 : T Blk := upd [(2723, (ce [ns, ns])), (2721, (ce [ns, ns])), (3253, (ce [(I 1), (I 1), q21, (I 2), (I 1), q22, (I 3), (I 1), q23, (I 4), (I 1), q11])), (2720, (ce [(U 1400 0 258 1), ns, (I 0), ff, (I 1), (I 5), (I 0), (I 4), (I 1), (I 2), (I 1), (U 1515 0 2 6)])), (2724, (ce [ns, ns, (U 3252 0 4 2), (U 3253 0 4 3), (I 2), (I 6), ff]))] (del [] g4)
/-- the state behind piece 5; its texts -/
def s5 : St :=
⟨⟨⟨45, 207, false, none⟩,
  (n z4 (n (I 5) (n (I 6) (n (A 2722 0) (n ff (n (I 2) (n (A 3105 6) (o tt) e) (o (A 2724 0))) (n (.tup [(U 3105 0 4 2), tt]) (o (A 3105 6)) (o (U 3253 0 4 3)))) (m (n (I 6) (o z5) (o (S 3250 0 1 1))) (n (I 4) (o (A 3105 6)) (o tt)))) (m (n (I 4) (n tt (o (I 3)) (o (U 3105 0 4 2))) (n (U 3105 0 4 2) (o ff) (o (A 2724 3)))) (m (n (I 2) (o tt) (o (A 2724 3))) (n z5 (o tt) (o (I 0)))))) (n (I 0) (m (n (U 3105 0 4 2) (n ff (o (I 5)) (o (A 2724 2))) (n (I 5) (o (I 0)) (o (A 2724 2)))) (m (n ff (o tt) (o (A 2724 0))) (n (I 3) (o (I 0)) e))) (m (n tt (n ff (o (A 3105 7)) (o (A 3105 6))) (n (I 4) (o (I 3)) (o (U 1515 0 2 6)))) (m (n (.agg [ns, ns, ns, ns, (I 2), (I 6), ff]) (o (I 3)) (o (.agg [(I 4), (I 1), q11]))) (n (U 3105 0 4 2) (o (A 2724 0)) (o (A 1515 5))))))) (n (I 2) (n (I 0) (m (n (A 2724 0) (n ff (n (A 3105 6) (o ff) e) (o (A 2724 0))) (n z4 (o (I 5)) (o (A 2724 0)))) (m (n ff (o (.agg [(I 4), (I 1), q11])) (o (U 3252 0 4 2))) (n ff (o (I 5)) e))) (m (n (A 3217 0) (n ff (o (A 3105 6)) (o (I 3))) (n tt (o (U 3105 0 4 2)) (o (I 0)))) (m (n (I 6) (o (U 3105 0 4 2)) (o (U 3216 0 3 3))) (n z4 (o tt) (o (A 1515 0)))))) (n (U 1515 0 2 6) (m (n tt (n (I 2) (o (U 3105 0 4 2)) (o (U 3215 0 3 2))) (n (.tup [(U 3105 0 4 2), tt]) (o ff) (o (A 2724 0)))) (m (m (o tt) (o (A 2724 0))) (n (I 4) (o tt) (o (U 1515 0 2 6))))) (n (A 2723 0) (n (I 0) (n ff (o (I 1)) (o (.agg [(I 5), (I 1)]))) (n (U 3105 0 4 2) (o (A 3105 6)) (o (I 2)))) (n (U 1515 0 2 6) (n (A 2724 0) (o (A 3105 6)) (o (S 3251 0 1 1))) (n (I 3) (o (A 2724 0)) (o (U 1419 0 9 3)))))))),
  [.code (c 45 25182), .code (c 45 12894), .inBlock 3, .code (c 45 3678), .inLoop (c 45 606), .inBlock 2, .code (c 45 126)], [], .run⟩,
 [⟨⟨20, 300, false, none⟩,
  (n z7 (n (I 0) (n (A 1519 0) (n (I 0) (m (n (A 1519 0) (o (I 6)) e) (o (I 2))) (m (o z15) (o (A 1519 5)))) (n (A 2720 0) (m (n (I 0) (o (U 1515 0 2 6)) e) (o z7)) (n (A 1519 3) (o ff) (o (I 0))))) (m (n tt (m (n (A 1519 5) (o (I 0)) e) (o ff)) (m (o tt) (o (I 2)))) (m (m (o (A 1519 11)) (o (A 1519 0))) (m (o (A 1519 4)) (o (A 1519 7)))))) (n (I 0) (m (n (A 2719 0) (m (n z4 (o (I 0)) e) (o (I 2))) (m (o z14) (o (I 5)))) (n (A 2721 0) (m (o (I 0)) e) (n ff e (o (I 2))))) (n (A 1520 0) (n (I 2) (m (n (I 5) (o (A 1519 11)) e) e) (n (A 1519 0) (o tt) (o (A 1519 6)))) (m (m (o (U 1515 0 2 6)) (o z4)) (n z15 (o (I 1)) (o (I 4))))))),
  [.reg (r 20 382 21), .code (c 20 510)], [], .run⟩,
 ⟨⟨39, 25, false, none⟩,
  y1,
  [.reg (r 39 4 1), .code (c 39 6)], [], .run⟩,
 ⟨⟨14, 48, false, none⟩,
  y2,
  [.reg (r 14 46 2), .code (c 14 62)], [], .run⟩,
 ⟨⟨4, 143, false, none⟩,
  y3,
  [.reg (r 4 22 3), .code (c 4 30)], [], .run⟩,
 ⟨⟨3, 237, false, none⟩,
  (o ff),
  [.reg (r 3 8 0), .code (c 3 12), .code (c 3 6)], [], .run⟩],
 ⟨(p 3315), g5⟩,
 []⟩
def k5 : List (IC Blk) := [(c 45 25182), (c 45 12894), .skip, (c 45 3678), (c 45 606), .skip, (c 45 126), (.region (r 20 382 21)), (c 20 510), (.region (r 39 4 1)), (c 39 6), (.region (r 14 46 2)), (c 14 62), (.region (r 4 22 3)), (c 4 30), (.region (r 3 8 0)), (c 3 12), (c 3 6)]
theorem h5 : codesSt s5.fr s5.cs s5.ls = k5 := by kernel_rfl
/-- the memory behind piece 6 -/
def g6 : T Blk := upd [(3919, (ce [(I 10), (I 2), (I 11), (I 2)])), (2721, (ce [(U 3917 0 6 3), (U 3919 0 2 2)])), (3917, (ce [(I 1), (I 2), q19, (I 1), (I 2), q24, (I 1), (I 2), q25, (I 2), (I 2), q26, (I 3), (I 2), (.str (st 24 2923204068480878543775890133520919377098081042433)), (I 3), (I 2), q27]))] (del [1499, 2716, 2718, 2719, 2720, 2723, 2724, 1516, 1517, 3253] g5)
/-- the state behind piece 6; its texts -/
def s6 : St :=
⟨⟨⟨20, 300, false, none⟩,
  (n z7 (n (I 0) (n (A 1519 0) (n (I 0) (m (n (A 1519 0) (o (I 6)) e) (o (I 2))) (m (o z15) (o (A 1519 5)))) (n (A 2720 0) (m (n (I 0) (o (U 1515 0 2 6)) e) (o z7)) (n (A 1519 3) (o ff) (o (I 0))))) (m (n tt (m (n (A 1519 5) (o (I 0)) e) (o ff)) (m (o tt) (o (I 2)))) (m (m (n (A 1519 11) (o z16) e) (o (A 1519 0))) (m (o (A 1519 4)) (o (A 1519 7)))))) (n (I 0) (m (n (A 2719 0) (m (n z4 (o (I 0)) e) (o (I 2))) (m (o z14) (o (I 5)))) (n (A 2721 0) (m (n (I 0) (o (.tup [z16, tt])) e) (o (.tup [z16, tt]))) (n ff e (o (I 2))))) (n (A 1520 0) (n (I 2) (m (n (I 5) (o (A 1519 11)) e) e) (n (A 1519 0) (o tt) (o (A 1519 6)))) (m (m (n (U 1515 0 2 6) (o tt) e) (o z4)) (n z15 (o (I 1)) (o (I 4))))))),
  [.code (c 20 510)], [], .run⟩,
 [⟨⟨39, 25, false, none⟩,
  y1,
  [.reg (r 39 4 1), .code (c 39 6)], [], .run⟩,
 ⟨⟨14, 48, false, none⟩,
  y2,
  [.reg (r 14 46 2), .code (c 14 62)], [], .run⟩,
 ⟨⟨4, 143, false, none⟩,
  y3,
  [.reg (r 4 22 3), .code (c 4 30)], [], .run⟩,
 ⟨⟨3, 237, false, none⟩,
  (o ff),
  [.reg (r 3 8 0), .code (c 3 12), .code (c 3 6)], [], .run⟩],
 ⟨(p 3920), g6⟩,
 []⟩
def k6 : List (IC Blk) := [(c 20 510), (.region (r 39 4 1)), (c 39 6), (.region (r 14 46 2)), (c 14 62), (.region (r 4 22 3)), (c 4 30), (.region (r 3 8 0)), (c 3 12), (c 3 6)]
theorem h6 : codesSt s6.fr s6.cs s6.ls = k6 := by kernel_rfl
/-- the memory behind piece 7 -/
def g7 : T Blk := upd [(4489, (ce (us 26 261619537677852614898077561310525200011853294543499058221154328))), (4572, (ce (us 29 5572792339652927497853107015929925143932547851963100932196431862759451))), (1402, (ce [(U 4254 0 258 1), ns, (I 0), ff, (I 2), (I 12), (I 0), (I 11), (I 1), (I 2), (I 1), (U 1515 0 2 6)])), (4406, (ce [(I 1), (I 0), (I 65537), (I 0), (I 0), (I 0), q1, q1, q1, (I 2), (I 0), (I 0), (I 2), (I 1), (I 0), q1, q8, q1, (I 3), (I 0), (I 0), (I 0), (I 0), (I 0), q8, q2, q1, (I 8), (I 0), (I 0), (I 0), (I 6), (I 0), q2, q1, q1, (I 9), (I 0), (I 0), (I 0), (I 0), (I 3), q1, q1, q1])), (4254, (ce [q0, q3, q4, q5, q6, q29, q12, q13, q14, q15, (.str (st 64 822808797096150155058580847117036555894059791915923926178333187)), (.str (st 64 822808797096150155058580847117056838613148453480313486145749507)), (.str (st 64 49043972896319341527959294517359553486697340345574752772)), q0, q0, q0, q0, q0, q0, q0, q0, q0, q0, q0, q0, q0, q0, q0, q0, q0, q0, q0, q0, q0, q0, q0, q0, q0, q0, q0, q0, q0, q0, q0, q0, q0, q0, q0, q0, q0, q0, q0, q0, q0, q0, q0, q0, q0, q0, q0, q0, q0, q0, q0, q0, q0, q0, q0, q0, q0, q0, q0, q0, q0, q0, q0, q0, q0, q0, q0, q0, q0, q0, q0, q0, q0, q0, q0, q0, q0, q0, q0, q0, q0, q0, q0, q0, q0, q0, q0, q0, q0, q0, q0, q0, q0, q0, q0, q0, q0, q0, q0, q0, q0, q0, q0, q0, q0, q0, q0, q0, q0, q0, q0, q0, q0, q0, q0, q0, q0, q0, q0, q0, q0, q0, q0, q0, q0, q0, q0, q0, q0, q0, q0, q0, q0, q0, q0, q0, q0, q0, q0, q0, q0, q0, q0, q0, q0, q0, q0, q0, q0, q0, q0, q0, q0, q0, q0, q0, q0, q0, q0, q0, q0, q0, q0, q0, q0, q0, q0, q0, q0, q0, q0, q0, q0, q0, q0, q0, q0, q0, q0, q0, q0, q0, q0, q0, q0, q0, q0, q0, q0, q0, q0, q0, q0, q0, q0, q0, q0, q0, q0, q0, q0, q0, q0, q0, q0, q0, q0, q0, q0, q0, q0, q0, q0, q0, q0, q0, q0, q0, q0, q0, q0, q0, q0, q0, q0, q0, q0, q0, q0, q0, q0, q0, q0, q0, q0, q0, q0, q0, q0, q0, q0, q0, q0, q0, q0]))] (del [3917, 3919, 1495, 1496, 2721, 1518, 1519, 1520] g6)
/-- the state behind piece 7; its texts -/
def s7 : St :=
⟨⟨⟨6, 29, false, none⟩,
  (n (U 4406 0 5 9) (m (n (I 0) (n tt (o (I 1)) (o tt)) (n tt (o z17) (o (U 4489 0 26 1)))) (n (I 1) (n (U 4406 0 5 9) (o (I 1)) (o ns)) (n (I 1) (o (U 4572 0 29 1)) e))) (n ns (n (U 4489 0 26 1) (n (I 1) (o (U 4406 0 5 9)) (o ff)) (n (I 0) (o (.tup [(U 4572 0 29 1), tt])) e)) (n (U 4572 0 29 1) (n (I 5) (o (A 4406 9)) (o (U 4488 0 26 1))) (n (.tup [(U 4572 0 29 1), tt]) (o tt) e)))),
  [.code (c 6 1610), .inBlock 1, .code (c 6 458), .inLoop (c 6 74), .inBlock 0, .code (c 6 14)], [], .run⟩,
 [⟨⟨16, 24, false, none⟩,
  (n z18 (n (I 0) (n (A 4257 0) (n (I 0) (o (U 4406 0 5 9)) e) (o z18)) (m (n (I 0) (o (I 0)) e) (o (I 1)))) (n (I 1) (m (n (U 4406 0 5 9) (o (I 0)) e) (n (I 0) (o (U 4406 0 5 9)) e)) (n ns (n (.tup [(U 4406 0 5 9), (I 0)]) (o ff) e) (o (.tup [(U 4406 0 5 9), (I 0)]))))),
  [.reg (r 16 22 1), .code .ret], [], .run⟩,
 ⟨⟨4, 143, false, none⟩,
  (n ff (n (A 1402 0) (n (U 1419 0 9 3) (m (m (o z19) e) (o z13)) (m (m (o z19) e) (o (S 1403 0 9 9)))) (m (m (m (o (U 1419 0 9 3)) e) (o tt)) (m (m (o (I 1)) e) (o (U 1419 0 9 3))))) (n tt (n (I 0) (m (m (o z12) e) (n z12 (o z18) e)) (m (m (o z18) e) (o (.tup [(U 1419 0 9 3), (I 0)])))) (m (m (m (o z8) e) (o (.tup [(U 1419 0 9 3), (I 0)]))) (m (n z13 (o (I 0)) e) (o (I 0)))))),
  [.reg (r 4 46 1), .code (c 4 62)], [], .run⟩,
 ⟨⟨3, 237, false, none⟩,
  (o ff),
  [.reg (r 3 8 0), .code (c 3 12), .code (c 3 6)], [], .run⟩],
 ⟨(p 4573), g7⟩,
 []⟩
def k7 : List (IC Blk) := [(c 6 1610), .skip, (c 6 458), (c 6 74), .skip, (c 6 14), (.region (r 16 22 1)), .ret, (.region (r 4 46 1)), (c 4 62), (.region (r 3 8 0)), (c 3 12), (c 3 6)]
theorem h7 : codesSt s7.fr s7.cs s7.ls = k7 := by kernel_rfl
/-- the memory behind piece 8 -/
def g8 : T Blk := upd [(5607, (ce [ns, ns, (I 0), ff, (I 0), (I 0), (I 0), (I 0), (I 0), (I 0), (I 0), ns])), (5603, (ce [(I 2), (I 7), q1, (I 0), (I 0), q1, (I 0), (I 0), q1, (I 0), (I 0), q1, (I 0), (I 0), q1, (I 0), (I 0), q1, (I 0), (I 0), q1, (I 0), (I 0), q1, (I 0), (I 0), q1])), (5609, (ce [ns, ns])), (4825, (ce (us 140 10377273195951430271841147527035200455206216897869091944843997976345465082484549460029870563339803993517931086072771586215639101838173077824342017685681195506042955745419915039380433819454460364044897924866446229815357029386575780700043622820856531909077381658317604641195905773120588770038505090789098232315851620451425932646732424806424))), (5605, (ce [(U 5602 0 258 1), ns, (I 0), ff, (I 0), (I 0), (I 0), (I 0), (I 0), (I 1), (I 2), (S 5604 0 1 1)])), (5604, (ce [(I 1), (I 0), (I 0), (I 0), (I 0), (S 5603 0 9 9)])), (5602, (ce [q0, q0, q0, q0, q0, q0, q0, q0, q0, q0, q0, q0, q0, q0, q0, q0, q0, q0, q0, q0, q0, q0, q0, q0, q0, q0, q0, q0, q0, q0, q0, q0, q0, q0, q0, q0, q0, q0, q0, q0, q0, q0, q0, q0, q0, q0, q0, q0, q0, q0, q0, q0, q0, q0, q0, q0, q0, q0, q0, q0, q0, q0, q0, q0, q0, q0, q0, q0, q0, q0, q0, q0, q0, q0, q0, q0, q0, q0, q0, q0, q0, q0, q0, q0, q0, q0, q0, q0, q0, q0, q0, q0, q0, q0, q0, q0, q0, q0, q0, q0, q0, q0, q0, q0, q0, q0, q0, q0, q0, q0, q0, q0, q0, q0, q0, q0, q0, q0, q0, q0, q0, q0, q0, q0, q0, q0, q0, q0, q0, q0, q0, q0, q0, q0, q0, q0, q0, q0, q0, q0, q0, q0, q0, q0, q0, q0, q0, q0, q0, q0, q0, q0, q0, q0, q0, q0, q0, q0, q0, q0, q0, q0, q0, q0, q0, q0, q0, q0, q0, q0, q0, q0, q0, q0, q0, q0, q0, q0, q0, q0, q0, q0, q0, q0, q0, q0, q0, q0, q0, q0, q0, q0, q0, q0, q0, q0, q0, q0, q0, q0, q0, q0, q0, q0, q0, q0, q0, q0, q0, q0, q0, q0, q0, q0, q0, q0, q0, q0, q0, q0, q0, q0, q0, q0, q0, q0, q0, q0, q0, q0, q0, q0, q0, q0, q0, q0, q0, q0, q0, q0, q0, q0, q0, q0, q0, q0, q0, q0, q0, q0, q0, q0, q0, q0, q0, q0, q0, q0])), (5610, (ce [ns, ns, ns, ns, (I 0), (I 0), ff])), (4826, (ce [ns, ns, (I 0), ff, (I 0), (I 0), (I 0), (I 0), (I 0), (I 0), (I 0), ns])), (5606, (ce [(U 5602 0 258 1), ns, (I 0), ff, (I 0), (I 0), (I 0), (I 0), (I 0), (I 1), (I 2), (S 5604 0 1 1)]))] (del [4489, 4572, 4406] g7)
/-- the state behind piece 8; its texts -/
def s8 : St :=
⟨⟨⟨45, 207, false, none⟩,
  (n z20 (n (I 0) (n (I 0) (n (A 5608 0) (n ff (o (I 1)) (o (.tup [ns, ff]))) (m (o (I 0)) e)) (m (m (o tt) (o ns)) (m (o (I 0)) e))) (n (I 0) (m (n ns (o ff) (o (I 0))) (m (o ff) e)) (m (m (o ff) e) (m (o z6) e)))) (n (I 0) (n (I 0) (m (n (A 5610 0) (o ff) (o z20)) (m (o ff) e)) (m (m (o ff) (o ff)) (m (o (I 0)) e))) (n (S 5604 0 1 1) (m (n ff (o (I 0)) (o (.tup [ns, ff]))) e) (n (A 5609 0) (m (o ff) e) (n (S 5604 0 1 1) (o (A 5610 0)) e))))),
  [.code (c 45 30)], [], .run⟩,
 [⟨⟨20, 300, false, none⟩,
  (n z21 (n (I 0) (n (A 5606 0) (n (I 0) (m (o (A 5606 0)) e) e) (m (m (o (I 0)) e) (o (A 5606 3)))) (m (m (m (o (A 5606 5)) e) e) (m (m (o (A 5606 11)) e) e))) (n (I 0) (m (m (m (o z20) e) e) (m (m (o (I 0)) e) (o ff))) (n (A 5607 0) (m (m (o (I 0)) e) (o (A 5606 0))) (m (m (o (S 5604 0 1 1)) e) e)))),
  [.reg (r 20 10 8), .code (c 20 14)], [], .run⟩,
 ⟨⟨5, 63, false, none⟩,
  (n (I 4) (n (I 2) (m (m (n ff (o (S 5603 0 9 9)) e) (o ff)) (n ff (o ff) (o (I 258)))) (n ff (m (n (I 2) (o (S 5604 0 1 1)) e) (o (I 4))) (n (I 4) (o (I 2)) (o (I 2))))) (m (n (A 4826 0) (m (n ff (o (.agg [(I 1), (I 0), (I 0), (I 0), (I 0), (S 5603 0 9 9)])) e) e) (n ff (n ff (o z21) e) (o z20))) (n (A 5605 0) (n (I 4) (n ff (o z21) e) (o (I 256))) (n ff (o ff) (o z3))))),
  [.reg (r 5 22 1), .code (c 5 30)], [], .run⟩,
 ⟨⟨4, 143, false, none⟩,
  (n ff (n (A 1402 0) (n (U 1419 0 9 3) (m (m (o z19) e) (n z13 (o (.tup [(U 4825 0 140 1), (I 0)])) e)) (m (m (o z19) e) (n (S 1403 0 9 9) (o (I 0)) e))) (n (U 4825 0 140 1) (m (m (o (U 1419 0 9 3)) e) (n tt (o (.tup [(U 4825 0 140 1), (I 0)])) e)) (m (m (o (I 1)) e) (o (U 1419 0 9 3))))) (n tt (n (I 0) (m (m (o z12) e) (n z12 (o z18) e)) (m (m (o z18) e) (o (.tup [(U 1419 0 9 3), (I 0)])))) (n (I 0) (m (m (o z8) e) (n (.tup [(U 1419 0 9 3), (I 0)]) (o (U 4825 0 140 1)) e)) (m (n z13 (o (I 0)) e) (o (I 0)))))),
  [.reg (r 4 94 0), .code (c 4 126)], [], .run⟩,
 ⟨⟨3, 237, false, none⟩,
  (o ff),
  [.reg (r 3 8 0), .code (c 3 12), .code (c 3 6)], [], .run⟩],
 ⟨(p 5626), g8⟩,
 []⟩
def k8 : List (IC Blk) := [(c 45 30), (.region (r 20 10 8)), (c 20 14), (.region (r 5 22 1)), (c 5 30), (.region (r 4 94 0)), (c 4 126), (.region (r 3 8 0)), (c 3 12), (c 3 6)]
theorem h8 : codesSt s8.fr s8.cs s8.ls = k8 := by kernel_rfl
/-- the memory behind piece 9 -/
def g9 : T Blk := upd [(6228, (ce [(U 6226 0 258 1), ns, (I 0), ff, (I 1), (I 5), (I 0), (I 4), (I 1), (I 1), (I 2), (S 5604 0 1 1)])), (6226, (ce [q0, q3, q4, q5, q6, q7, q0, q0, q0, q0, q0, q0, q0, q0, q0, q0, q0, q0, q0, q0, q0, q0, q0, q0, q0, q0, q0, q0, q0, q0, q0, q0, q0, q0, q0, q0, q0, q0, q0, q0, q0, q0, q0, q0, q0, q0, q0, q0, q0, q0, q0, q0, q0, q0, q0, q0, q0, q0, q0, q0, q0, q0, q0, q0, q0, q0, q0, q0, q0, q0, q0, q0, q0, q0, q0, q0, q0, q0, q0, q0, q0, q0, q0, q0, q0, q0, q0, q0, q0, q0, q0, q0, q0, q0, q0, q0, q0, q0, q0, q0, q0, q0, q0, q0, q0, q0, q0, q0, q0, q0, q0, q0, q0, q0, q0, q0, q0, q0, q0, q0, q0, q0, q0, q0, q0, q0, q0, q0, q0, q0, q0, q0, q0, q0, q0, q0, q0, q0, q0, q0, q0, q0, q0, q0, q0, q0, q0, q0, q0, q0, q0, q0, q0, q0, q0, q0, q0, q0, q0, q0, q0, q0, q0, q0, q0, q0, q0, q0, q0, q0, q0, q0, q0, q0, q0, q0, q0, q0, q0, q0, q0, q0, q0, q0, q0, q0, q0, q0, q0, q0, q0, q0, q0, q0, q0, q0, q0, q0, q0, q0, q0, q0, q0, q0, q0, q0, q0, q0, q0, q0, q0, q0, q0, q0, q0, q0, q0, q0, q0, q0, q0, q0, q0, q0, q0, q0, q0, q0, q0, q0, q0, q0, q0, q0, q0, q0, q0, q0, q0, q0, q0, q0, q0, q0, q0, q0, q0, q0, q0, q0, q0, q0, q0, q0, q0, q0, q0, q0]))] (del [4826, 5602, 5605, 5606, 5607, 5609, 5610] g8)
/-- the state behind piece 9; its texts -/
def s9 : St :=
⟨⟨⟨4, 143, false, none⟩,
  (n ff (n (A 1402 0) (n (U 1419 0 9 3) (n (A 6228 0) (m (o z19) (o tt)) (n z13 (o (.tup [(U 4825 0 140 1), (I 0)])) e)) (m (m (o z19) e) (n (S 1403 0 9 9) (o (I 0)) e))) (n (U 4825 0 140 1) (m (m (o (U 1419 0 9 3)) e) (n tt (o (.tup [(U 4825 0 140 1), (I 0)])) e)) (m (m (o (I 1)) e) (n (U 1419 0 9 3) (o z23) e)))) (n tt (n (I 0) (n tt (m (o z12) e) (n z12 (o z18) e)) (m (m (o z18) e) (n (.tup [(U 1419 0 9 3), (I 0)]) (o z23) e))) (n (I 0) (m (m (o z8) e) (n (.tup [(U 1419 0 9 3), (I 0)]) (o (U 4825 0 140 1)) e)) (m (n z13 (o (I 0)) e) (n (I 0) (o z22) e))))),
  [.code (c 4 126)], [], .run⟩,
 [⟨⟨3, 237, false, none⟩,
  (o ff),
  [.reg (r 3 8 0), .code (c 3 12), .code (c 3 6)], [], .run⟩],
 ⟨(p 6229), g9⟩,
 []⟩
def k9 : List (IC Blk) := [(c 4 126), (.region (r 3 8 0)), (c 3 12), (c 3 6)]
theorem h9 : codesSt s9.fr s9.cs s9.ls = k9 := by kernel_rfl
def y4 : T V := (n ff (n (A 1402 0) (n (U 1419 0 9 3) (n (A 6228 0) (m (o z19) (o tt)) (n z13 (o (.tup [(U 4825 0 140 1), (I 0)])) e)) (m (m (o z19) (o (U 4825 0 140 1))) (n (S 1403 0 9 9) (o (I 0)) e))) (n (U 4825 0 140 1) (n (A 6229 0) (m (o (U 1419 0 9 3)) (o z22)) (n tt (o (.tup [(U 4825 0 140 1), (I 0)])) e)) (m (m (o (I 1)) (o (I 139))) (n (U 1419 0 9 3) (o z23) e)))) (n tt (n (I 0) (n tt (m (o z12) e) (n z12 (o z18) e)) (m (m (o z18) (o (I 140))) (n (.tup [(U 1419 0 9 3), (I 0)]) (o z23) e))) (n (I 0) (m (m (o z8) (o (U 4825 0 140 1))) (n (.tup [(U 1419 0 9 3), (I 0)]) (o (U 4825 0 140 1)) e)) (m (n z13 (o (I 0)) (o (U 4825 0 139 1))) (n (I 0) (o z22) e)))))
/-- the memory behind piece 10 -/
def g10 : T Blk := upd [(6247, (ce [q0, q3, q4, q5, q6, q7, q0, q0, q0, q0, q0, q0, q0, q0, q0, q0, q0, q0, q0, q0, q0, q0, q0, q0, q0, q0, q0, q0, q0, q0, q0, q0, q0, q0, q0, q0, q0, q0, q0, q0, q0, q0, q0, q0, q0, q0, q0, q0, q0, q0, q0, q0, q0, q0, q0, q0, q0, q0, q0, q0, q0, q0, q0, q0, q0, q0, q0, q0, q0, q0, q0, q0, q0, q0, q0, q0, q0, q0, q0, q0, q0, q0, q0, q0, q0, q0, q0, q0, q0, q0, q0, q0, q0, q0, q0, q0, q0, q0, q0, q0, q0, q0, q0, q0, q0, q0, q0, q0, q0, q0, q0, q0, q0, q0, q0, q0, q0, q0, q0, q0, q0, q0, q0, q0, q0, q0, q0, q0, q0, q0, q0, q0, q0, q0, q0, q0, q0, q0, q0, q0, q0, q0, q0, q0, q0, q0, q0, q0, q0, q0, q0, q0, q0, q0, q0, q0, q0, q0, q0, q0, q0, q0, q0, q0, q0, q0, q0, q0, q0, q0, q0, q0, q0, q0, q0, q0, q0, q0, q0, q0, q0, q0, q0, q0, q0, q0, q0, q0, q0, q0, q0, q0, q0, q0, q0, q0, q0, q0, q0, q0, q0, q0, q0, q0, q0, q0, q0, q0, q0, q0, q0, q0, q0, q0, q0, q0, q0, q0, q0, q0, q0, q0, q0, q0, q0, q0, q0, q0, q0, q0, q0, q0, q0, q0, q0, q0, q0, q0, q0, q0, q0, q0, q0, q0, q0, q0, q0, q0, q0, q0, q0, q0, q0, q0, q0, q0, q0, q0])), (6231, (ce [ns, ns, (I 0), ff, (I 0), (I 0), (I 0), (I 0), (I 0), (I 0), (I 0), ns])), (6251, (ce [(I 2), (I 7), q1, (I 0), (I 0), q1, (I 0), (I 0), q1, (I 0), (I 0), q1, (I 0), (I 0), q1, (I 0), (I 0), q1, (I 0), (I 0), q1, (I 0), (I 0), q1, (I 0), (I 0), q1])), (7099, (ce [(I 2), (I 7), q18, (I 1), (I 6), q1, (I 0), (I 0), q1, (I 0), (I 0), q1, (I 0), (I 0), q1, (I 0), (I 0), q1, (I 0), (I 0), q1, (I 0), (I 0), q1, (I 0), (I 0), q1])), (6249, (ce [(I 1), (I 0), (I 0), (I 0), (I 0), (U 6251 0 9 3)])), (6229, (ce [ns, ns, (I 0), ff, (I 0), (I 0), (I 0), (I 0), (I 0), (I 0), (I 0), ns])), (6253, (ce [(U 7090 0 258 1), ns, (I 0), ff, (I 1), (I 5), (I 0), (I 4), (I 1), (I 1), (I 2), (U 7092 0 2 6), (U 6247 0 258 1), ns, (I 0), ff, (I 1), (I 5), (I 0), (I 4), (I 1), (I 1), (I 2), (U 6249 0 1 6)])), (7092, (ce [(I 1), (I 0), (I 0), (I 0), (I 0), (U 7094 0 9 3), (I 2), (I 4), (I 65537), (I 0), (I 114), (U 7099 0 9 3)])), (7090, (ce [q0, q3, q4, q5, q6, q7, q0, q0, q0, q0, q0, q0, q0, q0, q0, q0, q0, q0, q0, q0, q0, q0, q0, q0, q0, q0, q0, q0, q0, q0, q0, q0, q0, q0, q0, q0, q0, q0, q0, q0, q0, q0, q0, q0, q0, q0, q0, q0, q0, q0, q0, q0, q0, q0, q0, q0, q0, q0, q0, q0, q0, q0, q0, q0, q0, q0, q0, q0, q0, q0, q0, q0, q0, q0, q0, q0, q0, q0, q0, q0, q0, q0, q0, q0, q0, q0, q0, q0, q0, q0, q0, q0, q0, q0, q0, q0, q0, q0, q0, q0, q0, q0, q0, q0, q0, q0, q0, q0, q0, q0, q0, q0, q0, q0, q0, q0, q0, q0, q0, q0, q0, q0, q0, q0, q0, q0, q0, q0, q0, q0, q0, q0, q0, q0, q0, q0, q0, q0, q0, q0, q0, q0, q0, q0, q0, q0, q0, q0, q0, q0, q0, q0, q0, q0, q0, q0, q0, q0, q0, q0, q0, q0, q0, q0, q0, q0, q0, q0, q0, q0, q0, q0, q0, q0, q0, q0, q0, q0, q0, q0, q0, q0, q0, q0, q0, q0, q0, q0, q0, q0, q0, q0, q0, q0, q0, q0, q0, q0, q0, q0, q0, q0, q0, q0, q0, q0, q0, q0, q0, q0, q0, q0, q0, q0, q0, q0, q0, q0, q0, q0, q0, q0, q0, q0, q0, q0, q0, q0, q0, q0, q0, q0, q0, q0, q0, q0, q0, q0, q0, q0, q0, q0, q0, q0, q0, q0, q0, q0, q0, q0, q0, q0, q0, q0, q0, q0, q0, q0])), (6230, (ce [(U 6226 0 258 1), ns, (I 0), ff, (I 1), (I 5), (I 0), (I 4), (I 1), (I 1), (I 2), (S 5604 0 1 1)])), (7094, (ce [(I 2), (I 7), q1, (I 0), (I 0), q1, (I 0), (I 0), q1, (I 0), (I 0), q1, (I 0), (I 0), q1, (I 0), (I 0), q1, (I 0), (I 0), q1, (I 0), (I 0), q1, (I 0), (I 0), q1]))] (del [] g9)
/-- the state behind piece 10; its texts -/
def s10 : St :=
⟨⟨⟨7, 49, false, none⟩,
  (n z22 (n (U 4825 0 139 1) (m (o (A 6253 0)) (n (A 6230 3) (o (U 4825 0 139 1)) e)) (n (I 114) (n (A 6253 0) (o (.tup [(I 114), (I 0)])) e) (m (o (I 114)) e))) (n (A 6230 0) (n (A 6231 0) (o z22) (n ff (o (.tup [(I 114), (I 0)])) e)) (n (I 0) (n (A 6230 0) (o (A 6253 0)) e) (m (o (I 0)) e)))),
  [.code (c 7 30)], [], .run⟩,
 [⟨⟨4, 143, false, none⟩,
  y4,
  [.reg (r 4 190 7), .code (c 4 254)], [], .run⟩,
 ⟨⟨3, 237, false, none⟩,
  (o ff),
  [.reg (r 3 8 0), .code (c 3 12), .code (c 3 6)], [], .run⟩],
 ⟨(p 7142), g10⟩,
 []⟩
def k10 : List (IC Blk) := [(c 7 30), (.region (r 4 190 7)), (c 4 254), (.region (r 3 8 0)), (c 3 12), (c 3 6)]
theorem h10 : codesSt s10.fr s10.cs s10.ls = k10 := by kernel_rfl
def y5 : T V := (n z24 (n (I 0) (n (A 7145 0) (n (A 7147 0) (o (I 0)) e) (o z25)) (m (o z24) (o (.fn 165 [(A 7145 0), (A 7146 0), (A 7147 0), (A 7159 0)])))) (n (I 0) (m (n (A 7159 0) (o (I 0)) e) (o (A 7158 0))) (n (A 7146 0) (o z25) (o (A 7158 0)))))
def y6 : T V := (n z24 (n (A 7143 0) (o (I 0)) e) (n (A 7144 0) (o z24) e))
def y7 : T V := (n (A 6253 0) (m (n (I 0) (o (A 6253 0)) e) (m (o (A 6253 0)) e)) (n (A 7142 0) (m (o (A 6253 0)) e) (m (o z24) e)))
def y8 : T V := (n z22 (n (U 4825 0 139 1) (m (n (A 6253 0) e (o ff)) (n (A 6230 3) (o (U 4825 0 139 1)) e)) (n (I 114) (n (A 6253 0) (n (.tup [(I 114), (I 0)]) (o (I 114)) e) (o ff)) (m (o (I 114)) e))) (n (A 6230 0) (n (A 6231 0) (n z22 (m (o ff) e) (n (I 0) (o (A 6253 0)) e)) (n ff (o (.tup [(I 114), (I 0)])) e)) (n (I 0) (n (A 6230 0) (n (A 6253 0) (o ff) e) e) (m (o (I 0)) e))))
/-- the memory behind piece 11 -/
def g11 : T Blk := upd [(8671, (ce [(I 1), (I 0), q19, (I 1), (I 0), q24, (I 1), (I 0), q25, (I 2), (I 0), q30, (I 3), (I 0), (.str (st 24 66989347883835824366070069217836297376236546))])), (7151, (ce [q0, q3, q4, q5, q6, q7, q0, q0, q0, q0, q0, q0, q0, q0, q0, q0, q0, q0, q0, q0, q0, q0, q0, q0, q0, q0, q0, q0, q0, q0, q0, q0, q0, q0, q0, q0, q0, q0, q0, q0, q0, q0, q0, q0, q0, q0, q0, q0, q0, q0, q0, q0, q0, q0, q0, q0, q0, q0, q0, q0, q0, q0, q0, q0, q0, q0, q0, q0, q0, q0, q0, q0, q0, q0, q0, q0, q0, q0, q0, q0, q0, q0, q0, q0, q0, q0, q0, q0, q0, q0, q0, q0, q0, q0, q0, q0, q0, q0, q0, q0, q0, q0, q0, q0, q0, q0, q0, q0, q0, q0, q0, q0, q0, q0, q0, q0, q0, q0, q0, q0, q0, q0, q0, q0, q0, q0, q0, q0, q0, q0, q0, q0, q0, q0, q0, q0, q0, q0, q0, q0, q0, q0, q0, q0, q0, q0, q0, q0, q0, q0, q0, q0, q0, q0, q0, q0, q0, q0, q0, q0, q0, q0, q0, q0, q0, q0, q0, q0, q0, q0, q0, q0, q0, q0, q0, q0, q0, q0, q0, q0, q0, q0, q0, q0, q0, q0, q0, q0, q0, q0, q0, q0, q0, q0, q0, q0, q0, q0, q0, q0, q0, q0, q0, q0, q0, q0, q0, q0, q0, q0, q0, q0, q0, q0, q0, q0, q0, q0, q0, q0, q0, q0, q0, q0, q0, q0, q0, q0, q0, q0, q0, q0, q0, q0, q0, q0, q0, q0, q0, q0, q0, q0, q0, q0, q0, q0, q0, q0, q0, q0, q0, q0, q0, q0, q0, q0, q0, q0])), (7143, (ce [(U 7090 0 258 1), ns, (I 0), ff, (I 1), (I 5), (I 0), (I 4), (I 1), (I 1), (I 2), (U 7092 0 2 6)])), (7159, (ce [(A 7158 0)])), (7155, (ce [(I 2), (I 7), q1, (I 0), (I 0), q1, (I 0), (I 0), q1, (I 0), (I 0), q1, (I 0), (I 0), q1, (I 0), (I 0), q1, (I 0), (I 0), q1, (I 0), (I 0), q1, (I 0), (I 0), q1])), (7147, (ce [(I 0)])), (8673, (ce [(I 4), (I 1), (I 4), (I 0)])), (7153, (ce [(I 1), (I 0), (I 0), (I 0), (I 0), (U 7155 0 9 3), (I 2), (I 4), (I 65537), (I 0), (I 114), (U 7157 0 9 3)])), (7145, (ce [(U 7090 0 258 1), ns, (I 0), ff, (I 1), (I 5), (I 0), (I 4), (I 1), (I 1), (I 2), (U 7092 0 2 6)])), (7157, (ce [(I 2), (I 7), q18, (I 1), (I 6), q1, (I 0), (I 0), q1, (I 0), (I 0), q1, (I 0), (I 0), q1, (I 0), (I 0), q1, (I 0), (I 0), q1, (I 0), (I 0), q1, (I 0), (I 0), q1])), (7144, (ce [ns, ns, (I 0), ff, (I 0), (I 0), (I 0), (I 0), (I 0), (I 0), (I 0), ns])), (7146, (ce [ns, ns, (I 0), ff, (I 0), (I 0), (I 0), (I 0), (I 0), (I 0), (I 0), ns])), (7142, (ce [ns, ns, (I 0), ff, (I 0), (I 0), (I 0), (I 0), (I 0), (I 0), (I 0), ns])), (7158, (ce [(U 7151 0 258 1), ns, (I 0), ff, (I 1), (I 5), (I 0), (I 4), (I 1), (I 1), (I 2), (U 7153 0 2 6)]))] (del [] g10)
/-- the state behind piece 11; its texts -/
def s11 : St :=
⟨⟨⟨166, 164, false, none⟩,
  (n (A 7158 0) (n (I 0) (m (m (o (A 7158 3)) e) (n (A 7158 0) (o (I 0)) e)) (m (m (o tn) e) (n (A 7158 0) (o (.agg [(U 8671 0 5 3), (U 8673 0 2 2)])) e))) (n (I 0) (m (m (o ff) e) (n (A 7158 0) (o (I 0)) e)) (m (m (o (A 7158 0)) e) (o (A 7158 0))))),
  [.code (c 166 6)], [], .run⟩,
 [⟨⟨114, 22, false, none⟩,
  y5,
  [.reg (r 114 22 3), .code (c 114 30)], [.call 165 [(A 7145 0), (A 7146 0), (A 7147 0), (A 7159 0)]], .run⟩,
 ⟨⟨67, 8, false, none⟩,
  y6,
  [.reg (r 67 4 1), .code .ret], [], .run⟩,
 ⟨⟨26, 31, false, none⟩,
  y7,
  [.reg (r 26 4 4), .code (c 26 6)], [], .run⟩,
 ⟨⟨7, 49, false, none⟩,
  y8,
  [.reg (r 7 94 1), .code (c 7 126)], [], .run⟩,
 ⟨⟨4, 143, false, none⟩,
  y4,
  [.reg (r 4 190 7), .code (c 4 254)], [], .run⟩,
 ⟨⟨3, 237, false, none⟩,
  (o ff),
  [.reg (r 3 8 0), .code (c 3 12), .code (c 3 6)], [], .run⟩],
 ⟨(p 8674), g11⟩,
 []⟩
def k11 : List (IC Blk) := [(c 166 6), (.region (r 114 22 3)), (c 114 30), (.region (r 67 4 1)), .ret, (.region (r 26 4 4)), (c 26 6), (.region (r 7 94 1)), (c 7 126), (.region (r 4 190 7)), (c 4 254), (.region (r 3 8 0)), (c 3 12), (c 3 6)]
theorem h11 : codesSt s11.fr s11.cs s11.ls = k11 := by kernel_rfl
/-- the memory behind piece 12 -/
def g12 : T Blk := upd [(10188, (ce [(I 4), (I 1), (I 10), (I 2)])), (8674, (ce [(U 10186 0 5 3), (U 10188 0 2 2)])), (10186, (ce [(I 1), (I 2), q19, (I 1), (I 2), q24, (I 1), (I 2), q25, (I 2), (I 2), q26, (I 3), (I 2), q31]))] (del [6230, 8671, 8673, 7143, 6247, 7145, 6249, 6251, 6253, 7090, 7092, 7094, 7099] g11)
/-- the state behind piece 12; its texts -/
def s12 : St :=
⟨⟨⟨166, 164, false, none⟩,
  (n (A 7158 0) (n (I 0) (m (n (A 8674 0) (n (A 7158 3) (o (A 7158 0)) (o (.agg [(U 10186 0 5 3), (U 10188 0 2 2)]))) (n (A 7158 0) (o (A 7158 0)) e)) (n (A 7158 0) (n (I 0) (o (A 7158 0)) e) (n (I 2) (o (I 4)) e))) (m (m (n tn (o (A 7158 0)) e) (n (A 7158 4) (o (A 7158 0)) e)) (n (A 7158 0) (n (.agg [(U 8671 0 5 3), (U 8673 0 2 2)]) (o (I 0)) e) (n ff (o (I 0)) e)))) (n (I 0) (m (m (n ff (o (I 2)) e) (n (A 7158 0) (o (A 7158 0)) e)) (n (A 7158 0) (n (I 0) (o (A 7158 6)) e) (n (I 2) (o (I 6)) e))) (n (I 2) (m (n (A 7158 0) (o (A 7158 0)) e) (n (I 1) (o (A 7158 7)) e)) (n (A 7158 0) (n (A 7158 0) (o (I 2)) e) (n tn (o (I 0)) e))))),
  [.code (c 166 62)], [], .run⟩,
 [⟨⟨114, 22, false, none⟩,
  y5,
  [.reg (r 114 22 3), .code (c 114 30)], [.call 165 [(A 7145 0), (A 7146 0), (A 7147 0), (A 7159 0)]], .run⟩,
 ⟨⟨67, 8, false, none⟩,
  y6,
  [.reg (r 67 4 1), .code .ret], [], .run⟩,
 ⟨⟨26, 31, false, none⟩,
  y7,
  [.reg (r 26 4 4), .code (c 26 6)], [], .run⟩,
 ⟨⟨7, 49, false, none⟩,
  y8,
  [.reg (r 7 94 1), .code (c 7 126)], [], .run⟩,
 ⟨⟨4, 143, false, none⟩,
  y4,
  [.reg (r 4 190 7), .code (c 4 254)], [], .run⟩,
 ⟨⟨3, 237, false, none⟩,
  (o ff),
  [.reg (r 3 8 0), .code (c 3 12), .code (c 3 6)], [], .run⟩],
 ⟨(p 10189), g12⟩,
 []⟩
def k12 : List (IC Blk) := [(c 166 62), (.region (r 114 22 3)), (c 114 30), (.region (r 67 4 1)), .ret, (.region (r 26 4 4)), (c 26 6), (.region (r 7 94 1)), (c 7 126), (.region (r 4 190 7)), (c 4 254), (.region (r 3 8 0)), (c 3 12), (c 3 6)]
theorem h12 : codesSt s12.fr s12.cs s12.ls = k12 := by kernel_rfl
def y9 : T V := (n (A 11253 0) (n (I 0) (n (I 0) (m (n (A 11253 0) (o (A 11253 11)) e) (o (I 11))) (n (A 11256 0) (o (A 11253 0)) (o (I 0)))) (m (m (o (A 11253 0)) (o (I 0))) (m (o (A 11253 0)) (o (A 11253 0))))) (n (I 0) (n (I 0) (m (n (A 11253 0) (o (U 11248 0 2 6)) e) (o (I 0))) (m (o (A 11253 0)) (o (A 11253 0)))) (m (n (A 11255 0) (o z26) (o (I 0))) (n (A 11253 0) (o (A 11253 5)) (o (A 11253 0))))))
def y10 : T V := (n (A 11253 0) (n (I 0) (m (m (o (A 11253 3)) e) (n (A 11253 0) (o (I 0)) e)) (m (m (o tn) e) (o (A 11253 0)))) (n (I 0) (m (m (o ff) e) (n (A 11253 0) (o (I 0)) e)) (m (m (o (A 11253 0)) e) (o (A 11253 0)))))
def y11 : T V := (n z27 (n (I 0) (n (A 11240 0) (n (A 11242 0) (o (I 0)) e) (o z28)) (m (o z27) (o z29))) (n (I 0) (m (n (A 11254 0) (o (I 0)) e) (o (A 11253 0))) (n (A 11241 0) (o z28) (o (A 11253 0)))))
def y12 : T V := (n z27 (n (A 11238 0) (o (I 0)) e) (n (A 11239 0) (o z27) e))
def y13 : T V := (n (A 10994 0) (m (n (I 0) (o (A 10994 0)) e) (m (o (A 10994 0)) e)) (n (A 11237 0) (m (o (A 10994 0)) e) (m (o z27) e)))
def y14 : T V := (n z30 (n (U 4825 114 26 1) (m (n (A 10994 0) e (o ff)) (n (A 10967 3) (o (U 4825 114 26 1)) e)) (n (I 26) (n (A 10994 0) (n (.tup [(I 26), (I 0)]) (o (I 26)) e) (o ff)) (m (o (I 26)) e))) (n (A 10967 0) (n (A 10968 0) (n z30 (m (o ff) e) (n (I 0) (o (A 10994 0)) e)) (n ff (o (.tup [(I 26), (I 0)])) e)) (n (I 0) (n (A 10967 0) (n (A 10994 0) (o ff) e) e) (m (o (I 0)) e))))
def y15 : T V := (n ff (n (A 1402 0) (n (U 1419 0 9 3) (n (A 6228 0) (m (n z19 (o (U 4825 114 26 1)) e) (o tt)) (n z13 (o (.tup [(U 4825 0 140 1), (I 0)])) (o z31))) (n (I 0) (m (o z19) (o (U 4825 0 140 1))) (n (S 1403 0 9 9) (o (I 0)) e))) (n (U 4825 0 140 1) (n (A 6229 0) (m (o (U 1419 0 9 3)) (o z22)) (n tt (o (.tup [(U 4825 0 140 1), (I 0)])) (o (I 114)))) (m (m (o (I 1)) (o (I 139))) (n (U 1419 0 9 3) (o z23) (o (U 4825 0 140 1)))))) (n tt (n (I 0) (n tt (m (o z12) (o z31)) (n z12 (o z18) (o z30))) (n (A 10966 0) (m (o z18) (o (I 140))) (n (.tup [(U 1419 0 9 3), (I 0)]) (o z23) (o z30)))) (n (I 0) (n (I 114) (m (o z8) (o (U 4825 0 140 1))) (n (.tup [(U 1419 0 9 3), (I 0)]) (o (U 4825 0 140 1)) (o (I 0)))) (m (n z13 (o (I 0)) (o (U 4825 0 139 1))) (n (I 0) (o z22) (o (I 114)))))))
/-- the memory behind piece 13 -/
def g13 : T Blk := upd [(11239, (ce [ns, ns, (I 0), ff, (I 0), (I 0), (I 0), (I 0), (I 0), (I 0), (I 0), ns])), (10967, (ce [(U 10958 0 258 1), ns, (I 0), ff, (I 2), (I 11), (I 0), (I 10), (I 1), (I 1), (I 2), (U 7153 0 2 6)])), (11255, (ce [ns, ns])), (11241, (ce [ns, ns, (I 0), ff, (I 0), (I 0), (I 0), (I 0), (I 0), (I 0), (I 0), ns])), (11257, (ce [(U 11246 0 258 1), ns, (I 0), ff])), (11237, (ce [ns, ns, (I 0), ff, (I 0), (I 0), (I 0), (I 0), (I 0), (I 0), (I 0), ns])), (6229, (ce [(U 10958 0 258 1), ns, (I 0), ff, (I 2), (I 11), (I 0), (I 10), (I 1), (I 1), (I 2), (U 7153 0 2 6)])), (11221, (ce [(I 2), (I 7), q18, (I 1), (I 6), q1, (I 0), (I 0), q1, (I 0), (I 0), q1, (I 0), (I 0), q1, (I 0), (I 0), q1, (I 0), (I 0), q1, (I 0), (I 0), q1, (I 0), (I 0), q1])), (11253, (ce [(U 11246 0 258 1), ns, (I 0), ff, (I 2), (I 11), (I 0), (I 10), (I 1), (I 2), (I 2), (U 11248 0 2 6)])), (10992, (ce [(I 2), (I 7), q18, (I 1), (I 6), q1, (I 0), (I 0), q1, (I 0), (I 0), q1, (I 0), (I 0), q1, (I 0), (I 0), q1, (I 0), (I 0), q1, (I 0), (I 0), q1, (I 0), (I 0), q1])), (11248, (ce [(I 1), (I 0), (I 0), (I 0), (I 0), (U 11250 0 9 3), (I 3), (I 1), (I 65537), (I 0), (I 0), (U 11252 0 9 3)])), (11240, (ce [(U 11214 0 258 1), ns, (I 0), ff, (I 2), (I 11), (I 0), (I 10), (I 1), (I 2), (I 2), (U 11236 0 2 6)])), (10968, (ce [ns, ns, (I 0), ff, (I 0), (I 0), (I 0), (I 0), (I 0), (I 0), (I 0), ns])), (11256, (ce [ns, ns])), (11236, (ce [(I 1), (I 0), (I 0), (I 0), (I 0), (U 11218 0 9 3), (I 3), (I 1), (I 65537), (I 0), (I 0), (U 11221 0 9 3)])), (11252, (ce [(I 2), (I 7), q18, (I 1), (I 6), q1, (I 0), (I 0), q1, (I 0), (I 0), q1, (I 0), (I 0), q1, (I 0), (I 0), q1, (I 0), (I 0), q1, (I 0), (I 0), q1, (I 0), (I 0), q1])), (10988, (ce [(I 1), (I 0), (I 0), (I 0), (I 0), (U 10990 0 9 3), (I 2), (I 4), (I 65537), (I 0), (I 114), (U 10992 0 9 3)])), (11218, (ce [(I 2), (I 7), q1, (I 0), (I 0), q1, (I 0), (I 0), q1, (I 0), (I 0), q1, (I 0), (I 0), q1, (I 0), (I 0), q1, (I 0), (I 0), q1, (I 0), (I 0), q1, (I 0), (I 0), q1])), (10994, (ce [(U 11214 0 258 1), ns, (I 0), ff, (I 2), (I 11), (I 0), (I 10), (I 1), (I 2), (I 2), (U 11236 0 2 6), (U 10986 0 258 1), ns, (I 0), ff, (I 2), (I 11), (I 0), (I 10), (I 1), (I 1), (I 2), (U 10988 0 2 6)])), (11250, (ce [(I 2), (I 7), q1, (I 0), (I 0), q1, (I 0), (I 0), q1, (I 0), (I 0), q1, (I 0), (I 0), q1, (I 0), (I 0), q1, (I 0), (I 0), q1, (I 0), (I 0), q1, (I 0), (I 0), q1])), (10986, (ce [q0, q3, q4, q5, q6, q7, q12, q13, q14, q15, q16, q17, q0, q0, q0, q0, q0, q0, q0, q0, q0, q0, q0, q0, q0, q0, q0, q0, q0, q0, q0, q0, q0, q0, q0, q0, q0, q0, q0, q0, q0, q0, q0, q0, q0, q0, q0, q0, q0, q0, q0, q0, q0, q0, q0, q0, q0, q0, q0, q0, q0, q0, q0, q0, q0, q0, q0, q0, q0, q0, q0, q0, q0, q0, q0, q0, q0, q0, q0, q0, q0, q0, q0, q0, q0, q0, q0, q0, q0, q0, q0, q0, q0, q0, q0, q0, q0, q0, q0, q0, q0, q0, q0, q0, q0, q0, q0, q0, q0, q0, q0, q0, q0, q0, q0, q0, q0, q0, q0, q0, q0, q0, q0, q0, q0, q0, q0, q0, q0, q0, q0, q0, q0, q0, q0, q0, q0, q0, q0, q0, q0, q0, q0, q0, q0, q0, q0, q0, q0, q0, q0, q0, q0, q0, q0, q0, q0, q0, q0, q0, q0, q0, q0, q0, q0, q0, q0, q0, q0, q0, q0, q0, q0, q0, q0, q0, q0, q0, q0, q0, q0, q0, q0, q0, q0, q0, q0, q0, q0, q0, q0, q0, q0, q0, q0, q0, q0, q0, q0, q0, q0, q0, q0, q0, q0, q0, q0, q0, q0, q0, q0, q0, q0, q0, q0, q0, q0, q0, q0, q0, q0, q0, q0, q0, q0, q0, q0, q0, q0, q0, q0, q0, q0, q0, q0, q0, q0, q0, q0, q0, q0, q0, q0, q0, q0, q0, q0, q0, q0, q0, q0, q0, q0, q0, q0, q0, q0, q0])), (11242, (ce [(I 0)])), (11258, (ce [ns, ns])), (11238, (ce [(U 11214 0 258 1), ns, (I 0), ff, (I 2), (I 11), (I 0), (I 10), (I 1), (I 2), (I 2), (U 11236 0 2 6)])), (10966, (ce [ns, ns, (I 0), ff, (I 0), (I 0), (I 0), (I 0), (I 0), (I 0), (I 0), ns])), (11254, (ce [(A 11253 0)])), (10958, (ce [q0, q3, q4, q5, q6, q7, q12, q13, q14, q15, q16, q17, q0, q0, q0, q0, q0, q0, q0, q0, q0, q0, q0, q0, q0, q0, q0, q0, q0, q0, q0, q0, q0, q0, q0, q0, q0, q0, q0, q0, q0, q0, q0, q0, q0, q0, q0, q0, q0, q0, q0, q0, q0, q0, q0, q0, q0, q0, q0, q0, q0, q0, q0, q0, q0, q0, q0, q0, q0, q0, q0, q0, q0, q0, q0, q0, q0, q0, q0, q0, q0, q0, q0, q0, q0, q0, q0, q0, q0, q0, q0, q0, q0, q0, q0, q0, q0, q0, q0, q0, q0, q0, q0, q0, q0, q0, q0, q0, q0, q0, q0, q0, q0, q0, q0, q0, q0, q0, q0, q0, q0, q0, q0, q0, q0, q0, q0, q0, q0, q0, q0, q0, q0, q0, q0, q0, q0, q0, q0, q0, q0, q0, q0, q0, q0, q0, q0, q0, q0, q0, q0, q0, q0, q0, q0, q0, q0, q0, q0, q0, q0, q0, q0, q0, q0, q0, q0, q0, q0, q0, q0, q0, q0, q0, q0, q0, q0, q0, q0, q0, q0, q0, q0, q0, q0, q0, q0, q0, q0, q0, q0, q0, q0, q0, q0, q0, q0, q0, q0, q0, q0, q0, q0, q0, q0, q0, q0, q0, q0, q0, q0, q0, q0, q0, q0, q0, q0, q0, q0, q0, q0, q0, q0, q0, q0, q0, q0, q0, q0, q0, q0, q0, q0, q0, q0, q0, q0, q0, q0, q0, q0, q0, q0, q0, q0, q0, q0, q0, q0, q0, q0, q0, q0, q0, q0, q0, q0, q0])), (11214, (ce [q0, q3, q4, q5, q6, q7, q12, q13, q14, q15, q16, q17, q0, q0, q0, q0, q0, q0, q0, q0, q0, q0, q0, q0, q0, q0, q0, q0, q0, q0, q0, q0, q0, q0, q0, q0, q0, q0, q0, q0, q0, q0, q0, q0, q0, q0, q0, q0, q0, q0, q0, q0, q0, q0, q0, q0, q0, q0, q0, q0, q0, q0, q0, q0, q0, q0, q0, q0, q0, q0, q0, q0, q0, q0, q0, q0, q0, q0, q0, q0, q0, q0, q0, q0, q0, q0, q0, q0, q0, q0, q0, q0, q0, q0, q0, q0, q0, q0, q0, q0, q0, q0, q0, q0, q0, q0, q0, q0, q0, q0, q0, q0, q0, q0, q0, q0, q0, q0, q0, q0, q0, q0, q0, q0, q0, q0, q0, q0, q0, q0, q0, q0, q0, q0, q0, q0, q0, q0, q0, q0, q0, q0, q0, q0, q0, q0, q0, q0, q0, q0, q0, q0, q0, q0, q0, q0, q0, q0, q0, q0, q0, q0, q0, q0, q0, q0, q0, q0, q0, q0, q0, q0, q0, q0, q0, q0, q0, q0, q0, q0, q0, q0, q0, q0, q0, q0, q0, q0, q0, q0, q0, q0, q0, q0, q0, q0, q0, q0, q0, q0, q0, q0, q0, q0, q0, q0, q0, q0, q0, q0, q0, q0, q0, q0, q0, q0, q0, q0, q0, q0, q0, q0, q0, q0, q0, q0, q0, q0, q0, q0, q0, q0, q0, q0, q0, q0, q0, q0, q0, q0, q0, q0, q0, q0, q0, q0, q0, q0, q0, q0, q0, q0, q0, q0, q0, q0, q0, q0])), (10990, (ce [(I 2), (I 7), q1, (I 0), (I 0), q1, (I 0), (I 0), q1, (I 0), (I 0), q1, (I 0), (I 0), q1, (I 0), (I 0), q1, (I 0), (I 0), q1, (I 0), (I 0), q1, (I 0), (I 0), q1])), (11246, (ce [q0, q3, q4, q5, q6, q7, q12, q13, q14, q15, q16, q17, q0, q0, q0, q0, q0, q0, q0, q0, q0, q0, q0, q0, q0, q0, q0, q0, q0, q0, q0, q0, q0, q0, q0, q0, q0, q0, q0, q0, q0, q0, q0, q0, q0, q0, q0, q0, q0, q0, q0, q0, q0, q0, q0, q0, q0, q0, q0, q0, q0, q0, q0, q0, q0, q0, q0, q0, q0, q0, q0, q0, q0, q0, q0, q0, q0, q0, q0, q0, q0, q0, q0, q0, q0, q0, q0, q0, q0, q0, q0, q0, q0, q0, q0, q0, q0, q0, q0, q0, q0, q0, q0, q0, q0, q0, q0, q0, q0, q0, q0, q0, q0, q0, q0, q0, q0, q0, q0, q0, q0, q0, q0, q0, q0, q0, q0, q0, q0, q0, q0, q0, q0, q0, q0, q0, q0, q0, q0, q0, q0, q0, q0, q0, q0, q0, q0, q0, q0, q0, q0, q0, q0, q0, q0, q0, q0, q0, q0, q0, q0, q0, q0, q0, q0, q0, q0, q0, q0, q0, q0, q0, q0, q0, q0, q0, q0, q0, q0, q0, q0, q0, q0, q0, q0, q0, q0, q0, q0, q0, q0, q0, q0, q0, q0, q0, q0, q0, q0, q0, q0, q0, q0, q0, q0, q0, q0, q0, q0, q0, q0, q0, q0, q0, q0, q0, q0, q0, q0, q0, q0, q0, q0, q0, q0, q0, q0, q0, q0, q0, q0, q0, q0, q0, q0, q0, q0, q0, q0, q0, q0, q0, q0, q0, q0, q0, q0, q0, q0, q0, q0, q0, q0, q0, q0, q0, q0, q0]))] (del [10186, 10188, 6231, 8674, 7142, 7144, 7146, 7147, 7151, 7158, 7159] g12)
/-- the state behind piece 13; its texts -/
def s13 : St :=
⟨⟨⟨248, 70, false, none⟩,
  (n z26 (n (I 11) (n (I 0) (n (A 11257 0) (n ff (o (I 0)) e) (o (I 0))) (m (o (U 11248 0 2 6)) (o (I 0)))) (n (I 0) (m (m (o ff) e) (o ff)) (m (o ff) (o ff)))) (n (I 0) (n (I 0) (m (m (o ff) e) (o ff)) (m (o (I 2)) (o ff))) (n (U 11248 0 2 6) (m e (o ff)) (n (A 11258 0) (o ff) (o ff))))),
  [.code (c 248 12), .code (c 248 6)], [], .run⟩,
 [⟨⟨214, 40, false, none⟩,
  y9,
  [.reg (r 214 4 20), .code (c 214 6)], [], .run⟩,
 ⟨⟨166, 164, false, none⟩,
  y10,
  [.reg (r 166 4 3), .code (c 166 6)], [], .run⟩,
 ⟨⟨114, 22, false, none⟩,
  y11,
  [.reg (r 114 22 3), .code (c 114 30)], [.call 165 [(A 11240 0), (A 11241 0), (A 11242 0), (A 11254 0)]], .run⟩,
 ⟨⟨67, 8, false, none⟩,
  y12,
  [.reg (r 67 4 1), .code .ret], [], .run⟩,
 ⟨⟨26, 31, false, none⟩,
  y13,
  [.reg (r 26 4 4), .code (c 26 6)], [], .run⟩,
 ⟨⟨7, 49, false, none⟩,
  y14,
  [.reg (r 7 94 1), .code (c 7 126)], [], .run⟩,
 ⟨⟨4, 143, false, none⟩,
  y15,
  [.reg (r 4 382 5), .code (c 4 510)], [], .run⟩,
 ⟨⟨3, 237, false, none⟩,
  (o ff),
  [.reg (r 3 8 0), .code (c 3 12), .code (c 3 6)], [], .run⟩],
 ⟨(p 11259), g13⟩,
 []⟩
def k13 : List (IC Blk) := [(c 248 12), (c 248 6), (.region (r 214 4 20)), (c 214 6), (.region (r 166 4 3)), (c 166 6), (.region (r 114 22 3)), (c 114 30), (.region (r 67 4 1)), .ret, (.region (r 26 4 4)), (c 26 6), (.region (r 7 94 1)), (c 7 126), (.region (r 4 382 5)), (c 4 510), (.region (r 3 8 0)), (c 3 12), (c 3 6)]
theorem h13 : codesSt s13.fr s13.cs s13.ls = k13 := by kernel_rfl
/-- the memory behind piece 14 -/
def g14 : T Blk := upd [(11259, (.map [] 0)), (12197, (ce [(I 2), (I 1), (I 3), (I 1), (I 4), (I 1), (I 6), (I 2), (I 7), (I 2), (I 8), (I 2), (I 9), (I 2), (I 10), (I 2), (I 11), (I 2)])), (11261, (ce [(U 11246 0 258 1), ns, (I 0), ff])), (11260, (ce [ns, ns, (I 0), (I 0), (.map (p 11259)), ff]))] (del [11257] g13)
/-- the state behind piece 14; its texts -/
def s14 : St :=
⟨⟨⟨284, 83, false, none⟩,
  (n (A 11260 0) (n z26 (n (I 0) (m e (o (I 11))) (o tt)) (m (m e (o (U 12197 0 9 2))) (m (o (.tup [(U 12197 0 9 2), tt])) e))) (n (I 11) (n (I 0) (m e (o (.tup [(U 12197 0 9 2), tt]))) e) (n (A 11261 0) (n (U 12197 0 9 2) e (o tt)) (m (o z26) e)))),
  [.code (c 284 6)], [], .run⟩,
 [⟨⟨248, 70, false, none⟩,
  (n z26 (n (I 11) (n (I 0) (n (A 11257 0) (n ff (o (I 0)) e) (n (I 0) (o (A 11260 0)) e)) (m (n (U 11248 0 2 6) (o (I 0)) e) (n (I 0) (o (I 0)) e))) (n (I 0) (m (m (o ff) e) (n ff (o z26) e)) (m (n ff (o (.map (p 11259))) e) (o ff)))) (n (I 0) (n (I 0) (m (n (A 11260 0) (o ff) e) (n ff (o (A 11260 0)) e)) (m (n (I 2) (o (I 0)) e) (n ff (o (I 0)) e))) (n (U 11248 0 2 6) (m e (n ff (o (I 11)) e)) (n (A 11258 0) (n ff (o (.agg [ns, ns, (I 0), (I 0), (.map (p 11259)), ff])) e) (o ff))))),
  [.reg (r 248 22 5), .code (c 248 30)], [], .run⟩,
 ⟨⟨214, 40, false, none⟩,
  y9,
  [.reg (r 214 4 20), .code (c 214 6)], [], .run⟩,
 ⟨⟨166, 164, false, none⟩,
  y10,
  [.reg (r 166 4 3), .code (c 166 6)], [], .run⟩,
 ⟨⟨114, 22, false, none⟩,
  y11,
  [.reg (r 114 22 3), .code (c 114 30)], [.call 165 [(A 11240 0), (A 11241 0), (A 11242 0), (A 11254 0)]], .run⟩,
 ⟨⟨67, 8, false, none⟩,
  y12,
  [.reg (r 67 4 1), .code .ret], [], .run⟩,
 ⟨⟨26, 31, false, none⟩,
  y13,
  [.reg (r 26 4 4), .code (c 26 6)], [], .run⟩,
 ⟨⟨7, 49, false, none⟩,
  y14,
  [.reg (r 7 94 1), .code (c 7 126)], [], .run⟩,
 ⟨⟨4, 143, false, none⟩,
  y15,
  [.reg (r 4 382 5), .code (c 4 510)], [], .run⟩,
 ⟨⟨3, 237, false, none⟩,
  (o ff),
  [.reg (r 3 8 0), .code (c 3 12), .code (c 3 6)], [], .run⟩],
 ⟨(p 12474), g14⟩,
 []⟩
def k14 : List (IC Blk) := [(c 284 6), (.region (r 248 22 5)), (c 248 30), (.region (r 214 4 20)), (c 214 6), (.region (r 166 4 3)), (c 166 6), (.region (r 114 22 3)), (c 114 30), (.region (r 67 4 1)), .ret, (.region (r 26 4 4)), (c 26 6), (.region (r 7 94 1)), (c 7 126), (.region (r 4 382 5)), (c 4 510), (.region (r 3 8 0)), (c 3 12), (c 3 6)]
theorem h14 : codesSt s14.fr s14.cs s14.ls = k14 := by kernel_rfl
def y16 : T V := (n (A 11253 0) (n (I 3) (n (I 0) (m (n (A 11253 0) (o (A 11253 11)) e) (o (I 11))) (n (A 13657 0) (o (A 11253 0)) (o (I 0)))) (m (m (o (A 11253 0)) (o (I 12))) (m (o (A 11253 0)) (o (A 11253 0))))) (n (I 12) (n (I 0) (m (n (A 11253 0) (o (U 11248 0 2 6)) e) (o (I 3))) (m (o (A 11253 0)) (o (A 11253 0)))) (m (n (A 13656 0) (o z26) (o (I 0))) (n (A 11253 0) (o (A 11253 5)) (o (A 11253 0))))))
def y17 : T V := (n (A 11253 0) (n (I 0) (m (n (A 13655 0) (n (A 11253 3) (o (A 11253 0)) e) (n (A 11253 0) (o (A 11253 0)) e)) (n (A 11253 0) (n (I 0) (o (A 11253 0)) e) (n (I 3) (o (I 10)) e))) (m (m (n tn (o (A 11253 0)) e) (n (A 11253 4) (o (A 11253 0)) e)) (n (A 11253 0) (n z33 (o (I 0)) e) (n ff (o (I 0)) e)))) (n (I 0) (m (m (n ff (o (I 3)) e) (n (A 11253 0) (o (A 11253 0)) e)) (n (A 11253 0) (n (I 0) (o (A 11253 6)) e) (n (I 3) (o (I 12)) e))) (n (I 3) (m (n (A 11253 0) (o (A 11253 0)) e) (n (I 2) (o (A 11253 7)) e)) (n (A 11253 0) (n (A 11253 0) (o (I 2)) e) (n tn (o (I 0)) e)))))
/-- the memory behind piece 15 -/
def g15 : T Blk := upd [(13655, (ce [ns, ns])), (13667, (ce [(U 11246 0 258 1), ns, (I 0), ff, (I 0), (I 0), ns, ns, ns, ns, (U 13704 0 1 2)])), (13659, (ce [ns, ns])), (13665, (ce [(A 13667 0)])), (13713, (ce [(I 4), (I 1), (I 10), (I 2)])), (13657, (ce [ns, ns])), (13661, (ce [ns, ns, (I 3), (I 12), (.map (p 13660)), ff])), (13704, (ce [(I 11), (I 2)])), (13656, (ce [ns, ns])), (13652, (ce [(I 3), (I 0), q27])), (13660, (.map [] 0)), (13666, (ce [ff])), (13658, (ce [(U 11246 0 258 1), ns, (I 0), ff])), (13654, (ce [(I 4), (I 1), (I 0), (I 0)])), (13662, (ce [(U 11246 0 258 1), ns, (I 0), ff]))] (del [12197, 11255, 11256, 11258, 11259, 11260, 11261] g14)
/-- the state behind piece 15; its texts -/
def s15 : St :=
⟨⟨⟨321, 42, false, none⟩,
  (n (A 13667 0) (n (I 11) (m (n tt (o (.tup [(I 1), (I 2), (U 13713 0 2 2), tt])) e) (n (A 13667 0) (o tt) e)) (n (I 2) (m (o (I 2)) e) (o z32))) (m (n (I 1) (m (o (I 1)) e) (o (I 11))) (n (U 13713 0 2 2) (n (.tup [(I 1), (I 2), (U 13713 0 2 2), tt]) (o (U 13713 0 2 2)) e) (o (.agg [(I 4), (I 2), q20]))))),
  [.code (c 321 2)], [], .run⟩,
 [⟨⟨286, 14, false, none⟩,
  (n z26 (n (I 11) (m (o z26) (o (I 11))) (n (A 13666 0) (o (A 13667 0)) e)) (n (A 13664 0) (n (A 13665 0) (o (.agg [(U 11246 0 258 1), ns, (I 0), ff, (I 0), (I 0), ns, ns, ns, ns, ns])) e) (n (.fn 320 [(A 13665 0), (A 13666 0)]) (o (A 13667 0)) e))),
  [.reg (r 286 22 2), .code (c 286 30)], [.call 320 [(A 13665 0), (A 13666 0)]], .run⟩,
 ⟨⟨313, 24, false, none⟩,
  (n z26 (n (I 11) (m e (o (I 11))) (o ff)) (n (A 13663 0) (o ns) (m (o z26) e))),
  [.reg (r 313 4 2), .code (c 313 6)], [], .run⟩,
 ⟨⟨284, 83, false, none⟩,
  (n (A 13661 0) (n z26 (n (I 0) (m e (o (I 11))) e) e) (n (I 11) (o (I 0)) (n (A 13662 0) e (m (o z26) e)))),
  [.reg (r 284 4 2), .code (c 284 6)], [], .run⟩,
 ⟨⟨248, 70, false, none⟩,
  (n z26 (n (I 11) (n (I 12) (n (A 13658 0) (n ff (o (I 12)) e) (n (I 3) (o (A 13661 0)) e)) (m (n (U 11248 0 2 6) (o (I 3)) e) (n (I 3) (o (I 0)) e))) (n (I 0) (m (m (o ff) e) (n ff (o z26) e)) (m (n ff (o (.map (p 13660))) e) (o ff)))) (n (I 3) (n (I 0) (m (n (A 13661 0) (o ff) e) (n ff (o (A 13661 0)) e)) (m (n (I 2) (o (I 12)) e) (n ff (o (I 0)) e))) (n (U 11248 0 2 6) (m e (n ff (o (I 11)) e)) (n (A 13659 0) (n ff (o (.agg [ns, ns, (I 3), (I 12), (.map (p 13660)), ff])) e) (o ff))))),
  [.reg (r 248 22 5), .code (c 248 30)], [], .run⟩,
 ⟨⟨214, 40, false, none⟩,
  y16,
  [.reg (r 214 4 20), .code (c 214 6)], [], .run⟩,
 ⟨⟨166, 164, false, none⟩,
  y17,
  [.reg (r 166 46 19), .code (c 166 62)], [], .run⟩,
 ⟨⟨114, 22, false, none⟩,
  y11,
  [.reg (r 114 22 3), .code (c 114 30)], [.call 165 [(A 11240 0), (A 11241 0), (A 11242 0), (A 11254 0)]], .run⟩,
 ⟨⟨67, 8, false, none⟩,
  y12,
  [.reg (r 67 4 1), .code .ret], [], .run⟩,
 ⟨⟨26, 31, false, none⟩,
  y13,
  [.reg (r 26 4 4), .code (c 26 6)], [], .run⟩,
 ⟨⟨7, 49, false, none⟩,
  y14,
  [.reg (r 7 94 1), .code (c 7 126)], [], .run⟩,
 ⟨⟨4, 143, false, none⟩,
  y15,
  [.reg (r 4 382 5), .code (c 4 510)], [], .run⟩,
 ⟨⟨3, 237, false, none⟩,
  (o ff),
  [.reg (r 3 8 0), .code (c 3 12), .code (c 3 6)], [], .run⟩],
 ⟨(p 13784), g15⟩,
 []⟩
def k15 : List (IC Blk) := [(c 321 2), (.region (r 286 22 2)), (c 286 30), (.region (r 313 4 2)), (c 313 6), (.region (r 284 4 2)), (c 284 6), (.region (r 248 22 5)), (c 248 30), (.region (r 214 4 20)), (c 214 6), (.region (r 166 46 19)), (c 166 62), (.region (r 114 22 3)), (c 114 30), (.region (r 67 4 1)), .ret, (.region (r 26 4 4)), (c 26 6), (.region (r 7 94 1)), (c 7 126), (.region (r 4 382 5)), (c 4 510), (.region (r 3 8 0)), (c 3 12), (c 3 6)]
theorem h15 : codesSt s15.fr s15.cs s15.ls = k15 := by kernel_rfl
/-- the memory behind piece 16 -/
def g16 : T Blk := upd [(13660, (.map [((.agg [(I 1), q21]), (.agg [(I 2), (I 1)]), 0), ((.agg [(I 2), q22]), (.agg [(I 3), (I 1)]), 1), ((.agg [(I 3), q23]), (.agg [(I 4), (I 1)]), 2), ((.agg [(I 1), q19]), (.agg [(I 6), (I 2)]), 3), ((.agg [(I 1), q24]), (.agg [(I 7), (I 2)]), 4), ((.agg [(I 1), q25]), (.agg [(I 8), (I 2)]), 5), ((.agg [(I 2), q26]), (.agg [(I 9), (I 2)]), 6), ((.agg [(I 3), q31]), (.agg [(I 10), (I 2)]), 7), ((.agg [(I 4), q20]), (.agg [(I 11), (I 2)]), 8)] 9))] (del [13704, 13713, 13658, 13662, 13665, 13666, 13667] g15)
/-- the state behind piece 16; its texts -/
def s16 : St :=
⟨⟨⟨248, 70, false, none⟩,
  (n z26 (n (I 11) (n (I 12) (n (A 13658 0) (n ff (o (I 12)) e) (n (I 3) (o (A 13661 0)) e)) (m (n (U 11248 0 2 6) (o (I 3)) e) (n (I 3) (o (I 0)) e))) (n (I 0) (m (m (o ff) e) (n ff (o z26) e)) (m (n ff (o (.map (p 13660))) e) (n ff (o tn) e)))) (n (I 3) (n (I 0) (m (n (A 13661 0) (o ff) e) (n ff (o (A 13661 0)) e)) (m (n (I 2) (o (I 12)) e) (n ff (o (I 0)) e))) (n (U 11248 0 2 6) (m e (n ff (o (I 11)) e)) (n (A 13659 0) (n ff (o (.agg [ns, ns, (I 3), (I 12), (.map (p 13660)), ff])) e) (o ff))))),
  [.code (c 248 30)], [], .run⟩,
 [⟨⟨214, 40, false, none⟩,
  y16,
  [.reg (r 214 4 20), .code (c 214 6)], [], .run⟩,
 ⟨⟨166, 164, false, none⟩,
  y17,
  [.reg (r 166 46 19), .code (c 166 62)], [], .run⟩,
 ⟨⟨114, 22, false, none⟩,
  y11,
  [.reg (r 114 22 3), .code (c 114 30)], [.call 165 [(A 11240 0), (A 11241 0), (A 11242 0), (A 11254 0)]], .run⟩,
 ⟨⟨67, 8, false, none⟩,
  y12,
  [.reg (r 67 4 1), .code .ret], [], .run⟩,
 ⟨⟨26, 31, false, none⟩,
  y13,
  [.reg (r 26 4 4), .code (c 26 6)], [], .run⟩,
 ⟨⟨7, 49, false, none⟩,
  y14,
  [.reg (r 7 94 1), .code (c 7 126)], [], .run⟩,
 ⟨⟨4, 143, false, none⟩,
  y15,
  [.reg (r 4 382 5), .code (c 4 510)], [], .run⟩,
 ⟨⟨3, 237, false, none⟩,
  (o ff),
  [.reg (r 3 8 0), .code (c 3 12), .code (c 3 6)], [], .run⟩],
 ⟨(p 15199), g16⟩,
 []⟩
def k16 : List (IC Blk) := [(c 248 30), (.region (r 214 4 20)), (c 214 6), (.region (r 166 46 19)), (c 166 62), (.region (r 114 22 3)), (c 114 30), (.region (r 67 4 1)), .ret, (.region (r 26 4 4)), (c 26 6), (.region (r 7 94 1)), (c 7 126), (.region (r 4 382 5)), (c 4 510), (.region (r 3 8 0)), (c 3 12), (c 3 6)]
theorem h16 : codesSt s16.fr s16.cs s16.ls = k16 := by kernel_rfl
/-- the memory behind piece 17 -/
def g17 : T Blk := upd [(16063, (ce [(U 11246 0 258 1), ns, (I 0), ff, (I 1), (I 2), (U 16557 0 1 5), (U 16558 0 1 1), (U 16561 0 1 1), (U 16562 0 1 1), (U 16421 0 4 2)])), (13655, (ce [(U 16053 0 1 3), (U 16055 0 2 2)])), (16055, (ce [(I 4), (I 1), (I 12), (I 3)])), (16059, (ce [(I 0), (I 0), ns, ns, ns, ns])), (16561, (ce [(U 16380 0 1 2)])), (16441, (ce [(I 2), (I 7), q1, (I 0), (I 0), q1, (I 0), (I 0), q1, (I 0), (I 0), q1, (I 0), (I 0), q1, (I 0), (I 0), q1, (I 0), (I 0), q1, (I 0), (I 0), q1, (I 0), (I 0), q1])), (16057, (ce [(I 0), (I 0), ns, ns, ns, ns])), (16421, (ce [(I 11), (I 2), (I 4), (I 1), (I 3), (I 1), (I 2), (I 1)])), (16053, (ce [(I 3), (I 3), q27])), (16557, (ce [(I 1), (I 0), (I 0), (I 0), (I 0)])), (16109, (ce [(I 4), (I 1), (I 10), (I 2)])), (16061, (ce [(A 16063 0)])), (16056, (ce [(U 16053 0 1 3), (U 16055 0 2 2)])), (16562, (ce [(S 16441 0 9 9)])), (16558, (ce [(U 16379 0 1 3)])), (16062, (ce [ff]))] (del [11214, 11218, 13652, 11221, 13654, 10967, 13656, 13657, 13659, 13660, 13661, 11236, 11238, 11240, 10986, 10988, 10990, 10992, 10994] g16)
/-- the state behind piece 17; its texts -/
def s17 : St :=
⟨⟨⟨321, 42, false, none⟩,
  (n (A 16063 0) (n (I 11) (m (n tt (n (.tup [(I 1), (I 2), (U 16109 0 2 2), tt]) (o (A 16063 5)) e) (n (A 16063 0) (o (.agg [(I 4), (I 1)])) e)) (n (A 16063 0) (n tt (o tt) e) (o (A 16063 4)))) (n (I 2) (n (A 16180 0) (n (I 2) (o (I 2)) e) (o (I 2))) (n z32 (n tn (o (.agg [(I 4), (I 1)])) e) (o (A 16063 0))))) (m (n (I 1) (m (n (I 1) (o (U 16109 0 2 2)) e) (n (I 1) (o tn) e)) (n (I 11) (n tt (o (A 16109 0)) e) (o (A 16063 4)))) (n (U 16109 0 2 2) (n (.tup [(I 1), (I 2), (U 16109 0 2 2), tt]) (n (U 16109 0 2 2) (o (I 0)) e) (o (A 16063 0))) (n (.agg [(I 4), (I 2), q20]) (n (A 16063 0) (o (A 16063 0)) e) (o (A 16063 4)))))),
  [.inBlock 1, .code (c 321 974), .inLoop (c 321 78), .inBlock 0], [], .run⟩,
 [⟨⟨286, 14, false, none⟩,
  (n z26 (n (I 11) (m (o z26) (o (I 11))) (n (A 16062 0) (o (A 16063 0)) e)) (n (A 16060 0) (n (A 16061 0) (o (.agg [(U 11246 0 258 1), ns, (I 0), ff, (I 0), (I 0), ns, ns, ns, ns, ns])) e) (n (.fn 320 [(A 16061 0), (A 16062 0)]) (o (A 16063 0)) e))),
  [.reg (r 286 22 2), .code (c 286 30)], [.call 320 [(A 16061 0), (A 16062 0)]], .run⟩,
 ⟨⟨249, 19, false, none⟩,
  (n z26 (n (I 11) e (n ff (o z26) e)) (n (A 16058 0) (o (A 16059 0)) (m (o (I 11)) e))),
  [.reg (r 249 4 2), .code (c 249 6)], [], .run⟩,
 ⟨⟨216, 72, false, none⟩,
  (n (A 11253 0) (n z34 (n (A 16056 0) (m (o (A 11253 0)) e) (m (o (A 11253 0)) e)) (n (A 16057 0) (m (o (A 11253 0)) e) (n (A 11253 0) (o (I 11)) e))) (m (n ff (m (o z26) e) (n (A 11253 0) (o (A 11253 5)) e)) (m (m (o (A 11253 0)) e) (o (A 11253 0))))),
  [.reg (r 216 8 11), .code (c 216 12), .code (c 216 6)], [], .run⟩,
 ⟨⟨166, 164, false, none⟩,
  (n (A 11253 0) (n (I 0) (m (n (A 13655 0) (n (A 11253 3) (n (A 11253 0) (o tt) e) (o z34)) (n (A 11253 0) (o (A 11253 0)) (o ff))) (n (A 11253 0) (n (I 0) (o (A 11253 0)) (o (A 11253 5))) (n (I 3) (o (I 10)) (o (A 11253 5))))) (m (m (n tn (n (A 11253 0) (o (A 11253 0)) e) (o (A 11253 0))) (n (A 11253 4) (o (A 11253 0)) (o (A 11253 0)))) (n (A 11253 0) (n z33 (o (I 0)) (o (I 0))) (n ff (o (I 0)) (o (I 0)))))) (n (I 0) (m (m (n ff (n (I 3) (o tt) e) (o (A 11253 0))) (n (A 11253 0) (o (A 11253 0)) (o (A 11253 0)))) (n (A 11253 0) (n (I 0) (o (A 11253 6)) (o (I 11))) (n (I 3) (o (I 12)) (o (I 11))))) (n (I 3) (m (n (A 11253 0) (n (A 11253 0) (o z34) e) (o (A 11253 0))) (n (I 2) (o (A 11253 7)) (o (A 11253 0)))) (n (A 11253 0) (n (A 11253 0) (o (I 2)) (o ff)) (n tn (o (I 0)) (o tt)))))),
  [.reg (r 166 158 19), .code (c 166 222), .code (c 166 126)], [], .run⟩,
 ⟨⟨114, 22, false, none⟩,
  y11,
  [.reg (r 114 22 3), .code (c 114 30)], [.call 165 [(A 11240 0), (A 11241 0), (A 11242 0), (A 11254 0)]], .run⟩,
 ⟨⟨67, 8, false, none⟩,
  y12,
  [.reg (r 67 4 1), .code .ret], [], .run⟩,
 ⟨⟨26, 31, false, none⟩,
  y13,
  [.reg (r 26 4 4), .code (c 26 6)], [], .run⟩,
 ⟨⟨7, 49, false, none⟩,
  y14,
  [.reg (r 7 94 1), .code (c 7 126)], [], .run⟩,
 ⟨⟨4, 143, false, none⟩,
  y15,
  [.reg (r 4 382 5), .code (c 4 510)], [], .run⟩,
 ⟨⟨3, 237, false, none⟩,
  (o ff),
  [.reg (r 3 8 0), .code (c 3 12), .code (c 3 6)], [], .run⟩],
 ⟨(p 16563), g17⟩,
 []⟩
def k17 : List (IC Blk) := [.skip, (c 321 974), (c 321 78), .skip, (.region (r 286 22 2)), (c 286 30), (.region (r 249 4 2)), (c 249 6), (.region (r 216 8 11)), (c 216 12), (c 216 6), (.region (r 166 158 19)), (c 166 222), (c 166 126), (.region (r 114 22 3)), (c 114 30), (.region (r 67 4 1)), .ret, (.region (r 26 4 4)), (c 26 6), (.region (r 7 94 1)), (c 7 126), (.region (r 4 382 5)), (c 4 510), (.region (r 3 8 0)), (c 3 12), (c 3 6)]
theorem h17 : codesSt s17.fr s17.cs s17.ls = k17 := by kernel_rfl
def y18 : T V := (n z36 (n (I 0) (n (A 17416 0) (n (A 17418 0) (o (I 0)) e) (o z37)) (m (o z36) (o z38))) (n (I 0) (m (n (A 17428 0) (o (I 0)) e) (o (A 17427 0))) (n (A 17417 0) (o z37) (o (A 17427 0)))))
def y19 : T V := (n z36 (n (A 17414 0) (o (I 0)) e) (n (A 17415 0) (o z36) e))
def y20 : T V := (n (A 17386 0) (m (n (I 0) (o (A 17386 0)) e) (m (o (A 17386 0)) e)) (n (A 17413 0) (m (o (A 17386 0)) e) (m (o z36) e)))
def y21 : T V := (n z30 (n (A 17359 0) (n (I 0) (n z30 (o ff) (o (A 17386 0))) (o z39)) (n (A 17412 0) (o z39) (n tt (o z36) e))) (n (A 17360 0) (n (A 17386 0) (n (A 17386 0) e (o (A 17386 0))) (n z36 (o (A 17386 0)) e)) (n tt (o z30) (n tt (o (A 17386 0)) e))))
def y22 : T V := (n ff (n (A 1402 0) (n (U 1419 0 9 3) (n (A 6228 0) (n (A 17358 0) (n z19 (o (U 4825 114 26 1)) e) (o tt)) (n z13 (n (.tup [(U 4825 0 140 1), (I 0)]) (o z40) e) (o z31))) (n (I 0) (m (n z19 (o (I 0)) e) (o (U 4825 0 140 1))) (n (S 1403 0 9 9) (o (I 0)) (o z42)))) (n (U 4825 0 140 1) (n (A 6229 0) (m (n (U 1419 0 9 3) (o z41) e) (o z22)) (n tt (o (.tup [(U 4825 0 140 1), (I 0)])) (o (I 114)))) (n (I 26) (m (n (I 1) (o z41) e) (o (I 139))) (n (U 1419 0 9 3) (o z23) (o (U 4825 0 140 1)))))) (n tt (n (I 0) (n tt (n tt (n z12 (o z42) e) (o z31)) (n z12 (n z18 (o tt) e) (o z30))) (n (A 10966 0) (m (n z18 (o z43) e) (o (I 140))) (n (.tup [(U 1419 0 9 3), (I 0)]) (o z23) (o z30)))) (n (I 0) (n (I 114) (m (n z8 (o (I 26)) e) (o (U 4825 0 140 1))) (n (.tup [(U 1419 0 9 3), (I 0)]) (n (U 4825 0 140 1) (o z30) e) (o (I 0)))) (n (I 0) (n z13 (n (I 0) (o z43) e) (o (U 4825 0 139 1))) (n (I 0) (o z22) (o (I 114)))))))
/-- the memory behind piece 18 -/
def g18 : T Blk := upd [(17439, (ce [ff])), (17935, (ce [(U 17756 0 1 3)])), (17359, (ce [(U 10958 0 258 1), ns, (I 0), ff, (I 2), (I 11), (I 0), (I 10), (I 1), (I 1), (I 2), (U 7153 0 2 6)])), (17391, (ce [q0, q3, q4, q5, q6, q7, q12, q13, q14, q15, q16, q17, q0, q0, q0, q0, q0, q0, q0, q0, q0, q0, q0, q0, q0, q0, q0, q0, q0, q0, q0, q0, q0, q0, q0, q0, q0, q0, q0, q0, q0, q0, q0, q0, q0, q0, q0, q0, q0, q0, q0, q0, q0, q0, q0, q0, q0, q0, q0, q0, q0, q0, q0, q0, q0, q0, q0, q0, q0, q0, q0, q0, q0, q0, q0, q0, q0, q0, q0, q0, q0, q0, q0, q0, q0, q0, q0, q0, q0, q0, q0, q0, q0, q0, q0, q0, q0, q0, q0, q0, q0, q0, q0, q0, q0, q0, q0, q0, q0, q0, q0, q0, q0, q0, q0, q0, q0, q0, q0, q0, q0, q0, q0, q0, q0, q0, q0, q0, q0, q0, q0, q0, q0, q0, q0, q0, q0, q0, q0, q0, q0, q0, q0, q0, q0, q0, q0, q0, q0, q0, q0, q0, q0, q0, q0, q0, q0, q0, q0, q0, q0, q0, q0, q0, q0, q0, q0, q0, q0, q0, q0, q0, q0, q0, q0, q0, q0, q0, q0, q0, q0, q0, q0, q0, q0, q0, q0, q0, q0, q0, q0, q0, q0, q0, q0, q0, q0, q0, q0, q0, q0, q0, q0, q0, q0, q0, q0, q0, q0, q0, q0, q0, q0, q0, q0, q0, q0, q0, q0, q0, q0, q0, q0, q0, q0, q0, q0, q0, q0, q0, q0, q0, q0, q0, q0, q0, q0, q0, q0, q0, q0, q0, q0, q0, q0, q0, q0, q0, q0, q0, q0, q0, q0, q0, q0, q0, q0, q0])), (17415, (ce [ns, ns, (I 0), ff, (I 0), (I 0), (I 0), (I 0), (I 0), (I 0), (I 0), ns])), (17427, (ce [(U 17422 0 258 1), ns, (I 0), ff, (I 2), (I 11), (I 0), (I 10), (I 1), (I 1), (I 2), (U 17424 0 1 6)])), (17939, (ce [(S 17818 0 9 9)])), (17395, (ce [(I 2), (I 7), q1, (I 0), (I 0), q1, (I 0), (I 0), q1, (I 0), (I 0), q1, (I 0), (I 0), q1, (I 0), (I 0), q1, (I 0), (I 0), q1, (I 0), (I 0), q1, (I 0), (I 0), q1])), (17435, (ce [(U 17422 0 258 1), ns, (I 0), ff])), (17393, (ce [(I 1), (I 0), (I 0), (I 0), (I 0), (U 17395 0 9 3), (I 0), (I 0), (I 0), (I 0), (I 0), ns])), (17417, (ce [ns, ns, (I 0), ff, (I 0), (I 0), (I 0), (I 0), (I 0), (I 0), (I 0), ns])), (17433, (.map [] 0)), (17413, (ce [ns, ns, (I 0), ff, (I 0), (I 0), (I 0), (I 0), (I 0), (I 0), (I 0), ns])), (17429, (ce [ns, ns])), (17440, (ce [(U 17422 0 258 1), ns, (I 0), ff, (I 1), (I 2), (U 17934 0 1 5), (U 17935 0 1 1), (U 17938 0 1 1), (U 17939 0 1 1), (U 17798 0 4 2)])), (17424, (ce [(I 1), (I 0), (I 0), (I 0), (I 0), (U 17426 0 9 3)])), (17360, (ce [ns, ns, (I 0), ff, (I 0), (I 0), (I 0), (I 0), (I 0), (I 0), (I 0), ns])), (17416, (ce [(U 17391 0 258 1), ns, (I 0), ff, (I 2), (I 11), (I 0), (I 10), (I 1), (I 1), (I 2), (U 17393 0 1 6)])), (17384, (ce [(I 2), (I 7), q18, (I 1), (I 6), q1, (I 0), (I 0), q1, (I 0), (I 0), q1, (I 0), (I 0), q1, (I 0), (I 0), q1, (I 0), (I 0), q1, (I 0), (I 0), q1, (I 0), (I 0), q1])), (17432, (ce [ns, ns])), (17412, (ce [(U 17391 0 258 1), ns, (I 0), ff, (I 2), (I 11), (I 0), (I 10), (I 1), (I 1), (I 2), (U 17393 0 1 6)])), (17348, (ce [q0, q3, q4, q5, q6, q7, q12, q13, q14, q15, q16, q17, (.str (st 64 822808797096150155058580847117056838613148453480313486145749763)), (.str (st 64 73564275694592632852578607360126742857547467954073895684)), q0, q0, q0, q0, q0, q0, q0, q0, q0, q0, q0, q0, q0, q0, q0, q0, q0, q0, q0, q0, q0, q0, q0, q0, q0, q0, q0, q0, q0, q0, q0, q0, q0, q0, q0, q0, q0, q0, q0, q0, q0, q0, q0, q0, q0, q0, q0, q0, q0, q0, q0, q0, q0, q0, q0, q0, q0, q0, q0, q0, q0, q0, q0, q0, q0, q0, q0, q0, q0, q0, q0, q0, q0, q0, q0, q0, q0, q0, q0, q0, q0, q0, q0, q0, q0, q0, q0, q0, q0, q0, q0, q0, q0, q0, q0, q0, q0, q0, q0, q0, q0, q0, q0, q0, q0, q0, q0, q0, q0, q0, q0, q0, q0, q0, q0, q0, q0, q0, q0, q0, q0, q0, q0, q0, q0, q0, q0, q0, q0, q0, q0, q0, q0, q0, q0, q0, q0, q0, q0, q0, q0, q0, q0, q0, q0, q0, q0, q0, q0, q0, q0, q0, q0, q0, q0, q0, q0, q0, q0, q0, q0, q0, q0, q0, q0, q0, q0, q0, q0, q0, q0, q0, q0, q0, q0, q0, q0, q0, q0, q0, q0, q0, q0, q0, q0, q0, q0, q0, q0, q0, q0, q0, q0, q0, q0, q0, q0, q0, q0, q0, q0, q0, q0, q0, q0, q0, q0, q0, q0, q0, q0, q0, q0, q0, q0, q0, q0, q0, q0, q0, q0, q0, q0, q0, q0, q0, q0, q0, q0, q0, q0, q0, q0, q0, q0, q0, q0, q0, q0, q0, q0, q0, q0, q0])), (17380, (ce [(I 1), (I 0), (I 0), (I 0), (I 0), (U 17382 0 9 3), (I 2), (I 4), (I 65537), (I 0), (I 114), (U 17384 0 9 3)])), (17428, (ce [(A 17427 0)])), (17378, (ce [q0, q3, q4, q5, q6, q7, q12, q13, q14, q15, q16, q17, q0, q0, q0, q0, q0, q0, q0, q0, q0, q0, q0, q0, q0, q0, q0, q0, q0, q0, q0, q0, q0, q0, q0, q0, q0, q0, q0, q0, q0, q0, q0, q0, q0, q0, q0, q0, q0, q0, q0, q0, q0, q0, q0, q0, q0, q0, q0, q0, q0, q0, q0, q0, q0, q0, q0, q0, q0, q0, q0, q0, q0, q0, q0, q0, q0, q0, q0, q0, q0, q0, q0, q0, q0, q0, q0, q0, q0, q0, q0, q0, q0, q0, q0, q0, q0, q0, q0, q0, q0, q0, q0, q0, q0, q0, q0, q0, q0, q0, q0, q0, q0, q0, q0, q0, q0, q0, q0, q0, q0, q0, q0, q0, q0, q0, q0, q0, q0, q0, q0, q0, q0, q0, q0, q0, q0, q0, q0, q0, q0, q0, q0, q0, q0, q0, q0, q0, q0, q0, q0, q0, q0, q0, q0, q0, q0, q0, q0, q0, q0, q0, q0, q0, q0, q0, q0, q0, q0, q0, q0, q0, q0, q0, q0, q0, q0, q0, q0, q0, q0, q0, q0, q0, q0, q0, q0, q0, q0, q0, q0, q0, q0, q0, q0, q0, q0, q0, q0, q0, q0, q0, q0, q0, q0, q0, q0, q0, q0, q0, q0, q0, q0, q0, q0, q0, q0, q0, q0, q0, q0, q0, q0, q0, q0, q0, q0, q0, q0, q0, q0, q0, q0, q0, q0, q0, q0, q0, q0, q0, q0, q0, q0, q0, q0, q0, q0, q0, q0, q0, q0, q0, q0, q0, q0, q0, q0, q0])), (17426, (ce [(I 2), (I 7), q1, (I 0), (I 0), q1, (I 0), (I 0), q1, (I 0), (I 0), q1, (I 0), (I 0), q1, (I 0), (I 0), q1, (I 0), (I 0), q1, (I 0), (I 0), q1, (I 0), (I 0), q1])), (17938, (ce [(U 17757 0 1 2)])), (17418, (ce [(I 0)])), (17386, (ce [(U 17391 0 258 1), ns, (I 0), ff, (I 2), (I 11), (I 0), (I 10), (I 1), (I 1), (I 2), (U 17393 0 1 6), (U 17378 0 258 1), ns, (I 0), ff, (I 2), (I 11), (I 0), (I 10), (I 1), (I 1), (I 2), (U 17380 0 2 6)])), (17434, (ce [ns, ns, (I 0), (I 0), (.map (p 17433)), ff])), (17818, (ce [(I 2), (I 7), q1, (I 0), (I 0), q1, (I 0), (I 0), q1, (I 0), (I 0), q1, (I 0), (I 0), q1, (I 0), (I 0), q1, (I 0), (I 0), q1, (I 0), (I 0), q1, (I 0), (I 0), q1])), (17414, (ce [(U 17391 0 258 1), ns, (I 0), ff, (I 2), (I 11), (I 0), (I 10), (I 1), (I 1), (I 2), (U 17393 0 1 6)])), (17798, (ce [(I 11), (I 2), (I 4), (I 1), (I 3), (I 1), (I 2), (I 1)])), (17382, (ce [(I 2), (I 7), q1, (I 0), (I 0), q1, (I 0), (I 0), q1, (I 0), (I 0), q1, (I 0), (I 0), q1, (I 0), (I 0), q1, (I 0), (I 0), q1, (I 0), (I 0), q1, (I 0), (I 0), q1])), (17430, (ce [ns, ns])), (10966, (ce [(U 17348 0 258 1), ns, (I 0), ff, (I 3), (I 13), (I 0), (I 12), (I 1), (I 2), (I 2), (U 11248 0 2 6)])), (17422, (ce [q0, q3, q4, q5, q6, q7, q12, q13, q14, q15, q16, q17, q0, q0, q0, q0, q0, q0, q0, q0, q0, q0, q0, q0, q0, q0, q0, q0, q0, q0, q0, q0, q0, q0, q0, q0, q0, q0, q0, q0, q0, q0, q0, q0, q0, q0, q0, q0, q0, q0, q0, q0, q0, q0, q0, q0, q0, q0, q0, q0, q0, q0, q0, q0, q0, q0, q0, q0, q0, q0, q0, q0, q0, q0, q0, q0, q0, q0, q0, q0, q0, q0, q0, q0, q0, q0, q0, q0, q0, q0, q0, q0, q0, q0, q0, q0, q0, q0, q0, q0, q0, q0, q0, q0, q0, q0, q0, q0, q0, q0, q0, q0, q0, q0, q0, q0, q0, q0, q0, q0, q0, q0, q0, q0, q0, q0, q0, q0, q0, q0, q0, q0, q0, q0, q0, q0, q0, q0, q0, q0, q0, q0, q0, q0, q0, q0, q0, q0, q0, q0, q0, q0, q0, q0, q0, q0, q0, q0, q0, q0, q0, q0, q0, q0, q0, q0, q0, q0, q0, q0, q0, q0, q0, q0, q0, q0, q0, q0, q0, q0, q0, q0, q0, q0, q0, q0, q0, q0, q0, q0, q0, q0, q0, q0, q0, q0, q0, q0, q0, q0, q0, q0, q0, q0, q0, q0, q0, q0, q0, q0, q0, q0, q0, q0, q0, q0, q0, q0, q0, q0, q0, q0, q0, q0, q0, q0, q0, q0, q0, q0, q0, q0, q0, q0, q0, q0, q0, q0, q0, q0, q0, q0, q0, q0, q0, q0, q0, q0, q0, q0, q0, q0, q0, q0, q0, q0, q0, q0])), (17934, (ce [(I 1), (I 0), (I 0), (I 0), (I 0)])), (17486, (ce [(I 4), (I 1), (I 10), (I 2)])), (17358, (ce [(I 3), (I 1), (I 65537), (I 0), (I 0), (U 11252 0 9 3)])), (17438, (ce [(A 17440 0)]))] (del [16421, 16557, 16558, 16561, 16562, 16053, 16055, 16056, 16057, 16441, 16059, 16061, 16062, 16063, 13655, 10968, 11237, 11239, 11241, 11242, 16109, 11246, 11253, 11254] g17)
/-- the state behind piece 18; its texts -/
def s18 : St :=
⟨⟨⟨321, 42, false, none⟩,
  (n (A 17440 0) (n (I 11) (m (n tt (n (.tup [(I 1), (I 2), (U 17486 0 2 2), tt]) (o (A 17440 5)) e) (n (A 17440 0) (o (.agg [(I 4), (I 1)])) e)) (n (A 17440 0) (n tt (o tt) e) (o (A 17440 4)))) (n (I 2) (n (A 17557 0) (n (I 2) (o (I 2)) e) (o (I 2))) (n z32 (n tn (o (.agg [(I 4), (I 1)])) e) (o (A 17440 0))))) (m (n (I 1) (m (n (I 1) (o (U 17486 0 2 2)) e) (n (I 1) (o tn) e)) (n (I 11) (n tt (o (A 17486 0)) e) (o (A 17440 4)))) (n (U 17486 0 2 2) (n (.tup [(I 1), (I 2), (U 17486 0 2 2), tt]) (n (U 17486 0 2 2) (o (I 0)) e) (o (A 17440 0))) (n (.agg [(I 4), (I 2), q20]) (n (A 17440 0) (o (A 17440 0)) e) (o (A 17440 4)))))),
  [.inBlock 1, .code (c 321 974), .inLoop (c 321 78), .inBlock 0], [], .run⟩,
 [⟨⟨286, 14, false, none⟩,
  (n z35 (n (I 11) (m (o z35) (o (I 11))) (n (A 17439 0) (o (A 17440 0)) e)) (n (A 17437 0) (n (A 17438 0) (o (.agg [(U 17422 0 258 1), ns, (I 0), ff, (I 0), (I 0), ns, ns, ns, ns, ns])) e) (n (.fn 320 [(A 17438 0), (A 17439 0)]) (o (A 17440 0)) e))),
  [.reg (r 286 22 2), .code (c 286 30)], [.call 320 [(A 17438 0), (A 17439 0)]], .run⟩,
 ⟨⟨313, 24, false, none⟩,
  (n z35 (n (I 11) (m e (o (I 11))) (o ff)) (n (A 17436 0) (o ns) (m (o z35) e))),
  [.reg (r 313 4 2), .code (c 313 6)], [], .run⟩,
 ⟨⟨284, 83, false, none⟩,
  (n (A 17434 0) (n z35 (n (I 0) (m e (o (I 11))) e) e) (n (I 11) (o (I 0)) (n (A 17435 0) e (m (o z35) e)))),
  [.reg (r 284 4 2), .code (c 284 6)], [], .run⟩,
 ⟨⟨248, 70, false, none⟩,
  (n z35 (n (I 11) (n (I 0) (n (A 17431 0) (n ff (o (I 0)) e) (n (I 0) (o (A 17434 0)) e)) (m (n (U 17424 0 1 6) (o (I 0)) e) (n (I 0) (o (I 0)) e))) (n (I 0) (m (m (o ff) e) (n ff (o z35) e)) (m (n ff (o (.map (p 17433))) e) (o ff)))) (n (I 0) (n (I 0) (m (n (A 17434 0) (o ff) e) (n ff (o (A 17434 0)) e)) (m (n (I 1) (o (I 0)) e) (n ff (o (I 0)) e))) (n (U 17424 0 1 6) (m e (n ff (o (I 11)) e)) (n (A 17432 0) (n ff (o (.agg [ns, ns, (I 0), (I 0), (.map (p 17433)), ff])) e) (o ff))))),
  [.reg (r 248 22 5), .code (c 248 30)], [], .run⟩,
 ⟨⟨214, 40, false, none⟩,
  (n (A 17427 0) (n (I 0) (n (I 0) (m (n (A 17427 0) (o (A 17427 11)) e) (o (I 11))) (n (A 17430 0) (o (A 17427 0)) (o (I 0)))) (m (m (o (A 17427 0)) (o (I 0))) (m (o (A 17427 0)) (o (A 17427 0))))) (n (I 0) (n (I 0) (m (n (A 17427 0) (o (U 17424 0 1 6)) e) (o (I 0))) (m (o (A 17427 0)) (o (A 17427 0)))) (m (n (A 17429 0) (o z35) (o (I 0))) (n (A 17427 0) (o (A 17427 5)) (o (A 17427 0)))))),
  [.reg (r 214 4 20), .code (c 214 6)], [], .run⟩,
 ⟨⟨166, 164, false, none⟩,
  (n (A 17427 0) (n (I 0) (m (m (o (A 17427 3)) e) (n (A 17427 0) (o (I 0)) e)) (m (m (o tn) e) (o (A 17427 0)))) (n (I 0) (m (m (o ff) e) (n (A 17427 0) (o (I 0)) e)) (m (m (o (A 17427 0)) e) (o (A 17427 0))))),
  [.reg (r 166 4 3), .code (c 166 6)], [], .run⟩,
 ⟨⟨114, 22, false, none⟩,
  y18,
  [.reg (r 114 22 3), .code (c 114 30)], [.call 165 [(A 17416 0), (A 17417 0), (A 17418 0), (A 17428 0)]], .run⟩,
 ⟨⟨67, 8, false, none⟩,
  y19,
  [.reg (r 67 4 1), .code .ret], [], .run⟩,
 ⟨⟨26, 31, false, none⟩,
  y20,
  [.reg (r 26 4 4), .code (c 26 6)], [], .run⟩,
 ⟨⟨11, 28, false, none⟩,
  y21,
  [.reg (r 11 94 1), .code .ret], [], .run⟩,
 ⟨⟨4, 143, false, none⟩,
  y22,
  [.reg (r 4 1534 1), .code (c 4 2046)], [], .run⟩,
 ⟨⟨3, 237, false, none⟩,
  (o ff),
  [.reg (r 3 8 0), .code (c 3 12), .code (c 3 6)], [], .run⟩],
 ⟨(p 17940), g18⟩,
 []⟩
def k18 : List (IC Blk) := [.skip, (c 321 974), (c 321 78), .skip, (.region (r 286 22 2)), (c 286 30), (.region (r 313 4 2)), (c 313 6), (.region (r 284 4 2)), (c 284 6), (.region (r 248 22 5)), (c 248 30), (.region (r 214 4 20)), (c 214 6), (.region (r 166 4 3)), (c 166 6), (.region (r 114 22 3)), (c 114 30), (.region (r 67 4 1)), .ret, (.region (r 26 4 4)), (c 26 6), (.region (r 11 94 1)), .ret, (.region (r 4 1534 1)), (c 4 2046), (.region (r 3 8 0)), (c 3 12), (c 3 6)]
theorem h18 : codesSt s18.fr s18.cs s18.ls = k18 := by kernel_rfl
/-- the memory behind piece 19 -/
def g19 : T Blk := upd [(19296, (ce [(I 4), (I 1)]))] (del [17798, 17934, 17935, 17938, 17939, 17429, 17430, 17432, 17433, 17818, 17434, 17435, 17438, 17439, 17440, 17486] g18)
/-- the state behind piece 19; its texts -/
def s19 : St :=
⟨⟨⟨166, 164, false, none⟩,
  (n (A 17427 0) (n (I 0) (m (m (o (A 17427 3)) e) (n (A 17427 0) (o (I 0)) e)) (m (m (o tn) e) (n (A 17427 0) (o (.agg [ns, (U 19296 0 1 2)])) e))) (n (I 0) (m (m (o ff) e) (n (A 17427 0) (o (I 0)) e)) (m (m (o (A 17427 0)) e) (o (A 17427 0))))),
  [.code (c 166 6)], [], .run⟩,
 [⟨⟨114, 22, false, none⟩,
  y18,
  [.reg (r 114 22 3), .code (c 114 30)], [.call 165 [(A 17416 0), (A 17417 0), (A 17418 0), (A 17428 0)]], .run⟩,
 ⟨⟨67, 8, false, none⟩,
  y19,
  [.reg (r 67 4 1), .code .ret], [], .run⟩,
 ⟨⟨26, 31, false, none⟩,
  y20,
  [.reg (r 26 4 4), .code (c 26 6)], [], .run⟩,
 ⟨⟨11, 28, false, none⟩,
  y21,
  [.reg (r 11 94 1), .code .ret], [], .run⟩,
 ⟨⟨4, 143, false, none⟩,
  y22,
  [.reg (r 4 1534 1), .code (c 4 2046)], [], .run⟩,
 ⟨⟨3, 237, false, none⟩,
  (o ff),
  [.reg (r 3 8 0), .code (c 3 12), .code (c 3 6)], [], .run⟩],
 ⟨(p 19297), g19⟩,
 []⟩
def k19 : List (IC Blk) := [(c 166 6), (.region (r 114 22 3)), (c 114 30), (.region (r 67 4 1)), .ret, (.region (r 26 4 4)), (c 26 6), (.region (r 11 94 1)), .ret, (.region (r 4 1534 1)), (c 4 2046), (.region (r 3 8 0)), (c 3 12), (c 3 6)]
theorem h19 : codesSt s19.fr s19.cs s19.ls = k19 := by kernel_rfl
/-- the memory behind piece 20 -/
def g20 : T Blk := upd [(19303, (ce [ns, ns, (I 3), (I 12), (.map (p 19302)), ff])), (19299, (ce [ns, ns])), (19297, (ce [ns, ns])), (19301, (ce [ns, ns])), (20240, (ce [(I 2), (I 1), (I 3), (I 1), (I 4), (I 1), (I 6), (I 2), (I 7), (I 2), (I 8), (I 2), (I 9), (I 2), (I 10), (I 2), (I 11), (I 2)])), (19304, (ce [(U 17422 0 258 1), ns, (I 0), ff])), (19298, (ce [ns, ns])), (19302, (.map [] 0))] (del [] g19)
/-- the state behind piece 20; its texts -/
def s20 : St :=
⟨⟨⟨284, 83, false, none⟩,
  (n (A 19303 0) (n z35 (n (I 0) (m e (o (I 11))) (o tt)) (m (m e (o (U 20240 0 9 2))) (m (o (.tup [(U 20240 0 9 2), tt])) e))) (n (I 11) (n (I 0) (m e (o (.tup [(U 20240 0 9 2), tt]))) e) (n (A 19304 0) (n (U 20240 0 9 2) e (o tt)) (m (o z35) e)))),
  [.code (c 284 6)], [], .run⟩,
 [⟨⟨248, 70, false, none⟩,
  (n z35 (n (I 11) (n (I 12) (n (A 19300 0) (n ff (o (I 12)) e) (n (I 3) (o (A 19303 0)) e)) (m (n (U 17424 0 1 6) (o (I 3)) e) (n (I 3) (o (I 0)) e))) (n (I 0) (m (m (o ff) e) (n ff (o z35) e)) (m (n ff (o (.map (p 19302))) e) (o ff)))) (n (I 3) (n (I 0) (m (n (A 19303 0) (o ff) e) (n ff (o (A 19303 0)) e)) (m (n (I 1) (o (I 12)) e) (n ff (o (I 0)) e))) (n (U 17424 0 1 6) (m e (n ff (o (I 11)) e)) (n (A 19301 0) (n ff (o (.agg [ns, ns, (I 3), (I 12), (.map (p 19302)), ff])) e) (o ff))))),
  [.reg (r 248 22 5), .code (c 248 30)], [], .run⟩,
 ⟨⟨214, 40, false, none⟩,
  (n (A 17427 0) (n (I 3) (n (I 0) (m (n (A 17427 0) (o (A 17427 11)) e) (o (I 11))) (n (A 19299 0) (o (A 17427 0)) (o (I 0)))) (m (m (o (A 17427 0)) (o (I 12))) (m (o (A 17427 0)) (o (A 17427 0))))) (n (I 12) (n (I 0) (m (n (A 17427 0) (o (U 17424 0 1 6)) e) (o (I 3))) (m (o (A 17427 0)) (o (A 17427 0)))) (m (n (A 19298 0) (o z35) (o (I 0))) (n (A 17427 0) (o (A 17427 5)) (o (A 17427 0)))))),
  [.reg (r 214 4 20), .code (c 214 6)], [], .run⟩,
 ⟨⟨166, 164, false, none⟩,
  (n (A 17427 0) (n (I 0) (m (n (A 19297 0) (n (A 17427 3) (o (A 17427 0)) e) (n (A 17427 0) (o (A 17427 0)) e)) (n (A 17427 0) (n (I 0) (o (A 17427 0)) e) (n (I 3) (o (I 10)) e))) (m (m (n tn (o (A 17427 0)) e) (n (A 17427 4) (o (A 17427 0)) e)) (n (A 17427 0) (n (.agg [ns, (U 19296 0 1 2)]) (o (I 0)) e) (n ff (o (I 0)) e)))) (n (I 0) (m (m (n ff (o (I 3)) e) (n (A 17427 0) (o (A 17427 0)) e)) (n (A 17427 0) (n (I 0) (o (A 17427 6)) e) (n (I 3) (o (I 12)) e))) (n (I 3) (m (n (A 17427 0) (o (A 17427 0)) e) (n (I 2) (o (A 17427 7)) e)) (n (A 17427 0) (n (A 17427 0) (o (I 2)) e) (n tn (o (I 0)) e))))),
  [.reg (r 166 46 19), .code (c 166 62)], [], .run⟩,
 ⟨⟨114, 22, false, none⟩,
  y18,
  [.reg (r 114 22 3), .code (c 114 30)], [.call 165 [(A 17416 0), (A 17417 0), (A 17418 0), (A 17428 0)]], .run⟩,
 ⟨⟨67, 8, false, none⟩,
  y19,
  [.reg (r 67 4 1), .code .ret], [], .run⟩,
 ⟨⟨26, 31, false, none⟩,
  y20,
  [.reg (r 26 4 4), .code (c 26 6)], [], .run⟩,
 ⟨⟨11, 28, false, none⟩,
  y21,
  [.reg (r 11 94 1), .code .ret], [], .run⟩,
 ⟨⟨4, 143, false, none⟩,
  y22,
  [.reg (r 4 1534 1), .code (c 4 2046)], [], .run⟩,
 ⟨⟨3, 237, false, none⟩,
  (o ff),
  [.reg (r 3 8 0), .code (c 3 12), .code (c 3 6)], [], .run⟩],
 ⟨(p 20517), g20⟩,
 []⟩
def k20 : List (IC Blk) := [(c 284 6), (.region (r 248 22 5)), (c 248 30), (.region (r 214 4 20)), (c 214 6), (.region (r 166 46 19)), (c 166 62), (.region (r 114 22 3)), (c 114 30), (.region (r 67 4 1)), .ret, (.region (r 26 4 4)), (c 26 6), (.region (r 11 94 1)), .ret, (.region (r 4 1534 1)), (c 4 2046), (.region (r 3 8 0)), (c 3 12), (c 3 6)]
theorem h20 : codesSt s20.fr s20.cs s20.ls = k20 := by kernel_rfl
/-- the memory behind piece 21 -/
def g21 : T Blk := upd [(21551, (ce [(I 2), (I 7), q1, (I 0), (I 0), q1, (I 0), (I 0), q1, (I 0), (I 0), q1, (I 0), (I 0), q1, (I 0), (I 0), q1, (I 0), (I 0), q1, (I 0), (I 0), q1, (I 0), (I 0), q1])), (21167, (ce [(I 0), (I 0), ns, ns, ns, ns])), (21671, (ce [(U 21490 0 1 2)])), (21667, (ce [(I 1), (I 0), (I 0), (I 0), (I 0)])), (21219, (ce [(I 4), (I 1), (I 10), (I 2)])), (21171, (ce [(A 21173 0)])), (21531, (ce [(I 11), (I 2), (I 4), (I 1), (I 3), (I 1), (I 2), (I 1)])), (19297, (ce [ns, (U 21165 0 1 2)])), (21169, (ce [(I 0), (I 0), ns, ns, ns, ns])), (21173, (ce [(U 17422 0 258 1), ns, (I 0), ff, (I 1), (I 2), (U 21667 0 1 5), (U 21668 0 1 1), (U 21671 0 1 1), (U 21672 0 1 1), (U 21531 0 4 2)])), (21165, (ce [(I 4), (I 1)])), (21672, (ce [(S 21551 0 9 9)])), (21668, (ce [(U 21489 0 1 3)])), (21172, (ce [ff])), (21166, (ce [ns, (U 21165 0 1 2)]))] (del [17412, 17414, 17416, 777, 778, 20240, 4254, 17359, 1494, 4825, 19296, 19298, 17378, 19299, 17380, 19301, 19302, 17382, 19303, 19304, 17384, 17386, 1515, 17391, 17393, 17395, 1400, 1402, 1403] g20)
/-- the state behind piece 21; its texts -/
def s21 : St :=
⟨⟨⟨321, 42, false, none⟩,
  (n (A 21173 0) (n (I 11) (m (n tt (n (.tup [(I 1), (I 2), (U 21219 0 2 2), tt]) (o (A 21173 5)) e) (n (A 21173 0) (o (.agg [(I 4), (I 1)])) e)) (n (A 21173 0) (n tt (o tt) e) (o (A 21173 4)))) (n (I 2) (n (A 21290 0) (n (I 2) (o (I 2)) e) (o (I 2))) (n z32 (n tn (o (.agg [(I 4), (I 1)])) e) (o (A 21173 0))))) (m (n (I 1) (m (n (I 1) (o (U 21219 0 2 2)) e) (n (I 1) (o tn) e)) (n (I 11) (n tt (o (A 21219 0)) e) (o (A 21173 4)))) (n (U 21219 0 2 2) (n (.tup [(I 1), (I 2), (U 21219 0 2 2), tt]) (n (U 21219 0 2 2) (o (I 0)) e) (o (A 21173 0))) (n (.agg [(I 4), (I 2), q20]) (n (A 21173 0) (o (A 21173 0)) e) (o (A 21173 4)))))),
  [.inBlock 1, .code (c 321 974), .inLoop (c 321 78), .inBlock 0], [], .run⟩,
 [⟨⟨286, 14, false, none⟩,
  (n z35 (n (I 11) (m (o z35) (o (I 11))) (n (A 21172 0) (o (A 21173 0)) e)) (n (A 21170 0) (n (A 21171 0) (o (.agg [(U 17422 0 258 1), ns, (I 0), ff, (I 0), (I 0), ns, ns, ns, ns, ns])) e) (n (.fn 320 [(A 21171 0), (A 21172 0)]) (o (A 21173 0)) e))),
  [.reg (r 286 22 2), .code (c 286 30)], [.call 320 [(A 21171 0), (A 21172 0)]], .run⟩,
 ⟨⟨249, 19, false, none⟩,
  (n z35 (n (I 11) e (n ff (o z35) e)) (n (A 21168 0) (o (A 21169 0)) (m (o (I 11)) e))),
  [.reg (r 249 4 2), .code (c 249 6)], [], .run⟩,
 ⟨⟨216, 72, false, none⟩,
  (n (A 17427 0) (n (.agg [ns, (U 21165 0 1 2)]) (n (A 21166 0) (m (o (A 17427 0)) e) (m (o (A 17427 0)) e)) (n (A 21167 0) (m (o (A 17427 0)) e) (n (A 17427 0) (o (I 11)) e))) (m (n ff (m (o z35) e) (n (A 17427 0) (o (A 17427 5)) e)) (m (m (o (A 17427 0)) e) (o (A 17427 0))))),
  [.reg (r 216 8 11), .code (c 216 12), .code (c 216 6)], [], .run⟩,
 ⟨⟨166, 164, false, none⟩,
  (n (A 17427 0) (n (I 0) (m (n (A 19297 0) (n (A 17427 3) (n (A 17427 0) (o tt) e) (o (.agg [ns, (U 21165 0 1 2)]))) (n (A 17427 0) (o (A 17427 0)) (o ff))) (n (A 17427 0) (n (I 0) (o (A 17427 0)) (o (A 17427 5))) (n (I 3) (o (I 10)) (o (A 17427 5))))) (m (m (n tn (n (A 17427 0) (o (A 17427 0)) e) (o (A 17427 0))) (n (A 17427 4) (o (A 17427 0)) (o (A 17427 0)))) (n (A 17427 0) (n (.agg [ns, (U 19296 0 1 2)]) (o (I 0)) (o (I 0))) (n ff (o (I 0)) (o (I 0)))))) (n (I 0) (m (m (n ff (n (I 3) (o tt) e) (o (A 17427 0))) (n (A 17427 0) (o (A 17427 0)) (o (A 17427 0)))) (n (A 17427 0) (n (I 0) (o (A 17427 6)) (o (I 11))) (n (I 3) (o (I 12)) (o (I 11))))) (n (I 3) (m (n (A 17427 0) (n (A 17427 0) (o (.agg [ns, (U 21165 0 1 2)])) e) (o (A 17427 0))) (n (I 2) (o (A 17427 7)) (o (A 17427 0)))) (n (A 17427 0) (n (A 17427 0) (o (I 2)) (o ff)) (n tn (o (I 0)) (o tt)))))),
  [.reg (r 166 158 19), .code (c 166 222), .code (c 166 126)], [], .run⟩,
 ⟨⟨114, 22, false, none⟩,
  y18,
  [.reg (r 114 22 3), .code (c 114 30)], [.call 165 [(A 17416 0), (A 17417 0), (A 17418 0), (A 17428 0)]], .run⟩,
 ⟨⟨67, 8, false, none⟩,
  y19,
  [.reg (r 67 4 1), .code .ret], [], .run⟩,
 ⟨⟨26, 31, false, none⟩,
  y20,
  [.reg (r 26 4 4), .code (c 26 6)], [], .run⟩,
 ⟨⟨11, 28, false, none⟩,
  y21,
  [.reg (r 11 94 1), .code .ret], [], .run⟩,
 ⟨⟨4, 143, false, none⟩,
  y22,
  [.reg (r 4 1534 1), .code (c 4 2046)], [], .run⟩,
 ⟨⟨3, 237, false, none⟩,
  (o ff),
  [.reg (r 3 8 0), .code (c 3 12), .code (c 3 6)], [], .run⟩],
 ⟨(p 21673), g21⟩,
 []⟩
def k21 : List (IC Blk) := [.skip, (c 321 974), (c 321 78), .skip, (.region (r 286 22 2)), (c 286 30), (.region (r 249 4 2)), (c 249 6), (.region (r 216 8 11)), (c 216 12), (c 216 6), (.region (r 166 158 19)), (c 166 222), (c 166 126), (.region (r 114 22 3)), (c 114 30), (.region (r 67 4 1)), .ret, (.region (r 26 4 4)), (c 26 6), (.region (r 11 94 1)), .ret, (.region (r 4 1534 1)), (c 4 2046), (.region (r 3 8 0)), (c 3 12), (c 3 6)]
theorem h21 : codesSt s21.fr s21.cs s21.ls = k21 := by kernel_rfl
def y23 : T V := (n ff (m (m e (m e (o ff))) e) (m e (m (m e (o tt)) e)))
/-- the memory behind piece 22 -/
def g22 : T Blk := upd [] (del [17413, 17415, 17417, 17418, 1419, 17422, 17424, 17426, 17427, 17428, 21531, 21667, 21668, 21671, 21672, 21165, 21166, 21167, 21551, 21169, 21171, 21172, 21173, 17348, 17358, 10958, 17360, 6226, 6228, 6229, 10966, 19297, 21219, 5603, 5604, 11248, 7153, 11250, 7155, 11252, 7157] g21)
/-- the state behind piece 22; its texts -/
def s22 : St :=
⟨⟨⟨3, 237, false, none⟩,
  y23,
  [.code (c 3 12), .code (c 3 6)], [], .run⟩,
 [],
 ⟨(p 22656), g22⟩,
 []⟩
def k22 : List (IC Blk) := [(c 3 12), (c 3 6)]
theorem h22 : codesSt s22.fr s22.cs s22.ls = k22 := by kernel_rfl
/-- the memory behind piece 23 -/
def g23 : T Blk := upd [(23819, (ce [(U 23816 0 386 1), ns, (I 0), ff, (I 0), (I 0), (I 0), (I 0), (I 0), (I 1), (I 2), (S 23818 0 1 1)])), (23817, (ce [(I 2), (I 7), q1, (I 0), (I 0), q1, (I 0), (I 0), q1, (I 0), (I 0), q1, (I 0), (I 0), q1, (I 0), (I 0), q1, (I 0), (I 0), q1, (I 0), (I 0), q1, (I 0), (I 0), q1])), (23821, (ce [ns, ns, (I 0), ff, (I 0), (I 0), (I 0), (I 0), (I 0), (I 0), (I 0), ns])), (22656, (ce [ns, ns, (I 0), ff, (I 0), (I 0), (I 0), (I 0), (I 0), (I 0), (I 0), ns])), (23816, (ce [q0, q0, q0, q0, q0, q0, q0, q0, q0, q0, q0, q0, q0, q0, q0, q0, q0, q0, q0, q0, q0, q0, q0, q0, q0, q0, q0, q0, q0, q0, q0, q0, q0, q0, q0, q0, q0, q0, q0, q0, q0, q0, q0, q0, q0, q0, q0, q0, q0, q0, q0, q0, q0, q0, q0, q0, q0, q0, q0, q0, q0, q0, q0, q0, q0, q0, q0, q0, q0, q0, q0, q0, q0, q0, q0, q0, q0, q0, q0, q0, q0, q0, q0, q0, q0, q0, q0, q0, q0, q0, q0, q0, q0, q0, q0, q0, q0, q0, q0, q0, q0, q0, q0, q0, q0, q0, q0, q0, q0, q0, q0, q0, q0, q0, q0, q0, q0, q0, q0, q0, q0, q0, q0, q0, q0, q0, q0, q0, q0, q0, q0, q0, q0, q0, q0, q0, q0, q0, q0, q0, q0, q0, q0, q0, q0, q0, q0, q0, q0, q0, q0, q0, q0, q0, q0, q0, q0, q0, q0, q0, q0, q0, q0, q0, q0, q0, q0, q0, q0, q0, q0, q0, q0, q0, q0, q0, q0, q0, q0, q0, q0, q0, q0, q0, q0, q0, q0, q0, q0, q0, q0, q0, q0, q0, q0, q0, q0, q0, q0, q0, q0, q0, q0, q0, q0, q0, q0, q0, q0, q0, q0, q0, q0, q0, q0, q0, q0, q0, q0, q0, q0, q0, q0, q0, q0, q0, q0, q0, q0, q0, q0, q0, q0, q0, q0, q0, q0, q0, q0, q0, q0, q0, q0, q0, q0, q0, q0, q0, q0, q0, q0, q0, q0, q0, q0, q0, q0, q0, q0, q0, q0, q0, q0, q0, q0, q0, q0, q0, q0, q0, q0, q0, q0, q0, q0, q0, q0, q0, q0, q0, q0, q0, q0, q0, q0, q0, q0, q0, q0, q0, q0, q0, q0, q0, q0, q0, q0, q0, q0, q0, q0, q0, q0, q0, q0, q0, q0, q0, q0, q0, q0, q0, q0, q0, q0, q0, q0, q0, q0, q0, q0, q0, q0, q0, q0, q0, q0, q0, q0, q0, q0, q0, q0, q0, q0, q0, q0, q0, q0, q0, q0, q0, q0, q0, q0, q0, q0, q0, q0, q0, q0, q0, q0, q0, q0, q0, q0, q0, q0, q0, q0, q0, q0, q0, q0, q0, q0, q0, q0, q0, q0, q0, q0, q0, q0, q0, q0, q0, q0, q0, q0, q0, q0, q0, q0, q0])), (23820, (ce [(U 23816 0 386 1), ns, (I 0), ff, (I 0), (I 0), (I 0), (I 0), (I 0), (I 1), (I 2), (S 23818 0 1 1)])), (23818, (ce [(I 1), (I 0), (I 0), (I 0), (I 0), (S 23817 0 9 9)]))] (del [] g22)
/-- the state behind piece 23; its texts -/
def s23 : St :=
⟨⟨⟨20, 300, false, none⟩,
  (n z44 (n (I 0) (n (A 23820 0) (n (I 0) (m (o (A 23820 0)) e) (m (o (.tup [z45, tt])) e)) (m (m (o (I 0)) e) (o (A 23820 3)))) (m (n tt (m (o (A 23820 5)) e) (m (o tt) e)) (m (m (o (A 23820 11)) e) e))) (n (I 0) (m (n (A 23994 0) (m (o (.agg [(U 23816 0 386 1), ns, (I 0), ff])) e) (m (o z45) e)) (m (m (o (I 0)) e) (o ff))) (n (A 23821 0) (m (m (o (I 0)) e) (o (A 23820 0))) (m (m (o (S 23818 0 1 1)) e) (o (.tup [z45, tt])))))),
  [.code (c 20 14)], [], .run⟩,
 [⟨⟨5, 63, false, none⟩,
  (n (I 6) (n (I 2) (m (m (n ff (o (S 23817 0 9 9)) e) (o ff)) (n ff (o ff) (o (I 386)))) (n ff (m (n (I 2) (o (S 23818 0 1 1)) e) (o (I 6))) (n (I 6) (o (I 2)) (o (I 2))))) (m (n (A 22656 0) (m (n ff (o (.agg [(I 1), (I 0), (I 0), (I 0), (I 0), (S 23817 0 9 9)])) e) e) (n ff (n ff (o z44) e) (o (.agg [(U 23816 0 386 1), ns, (I 0), ff])))) (n (A 23819 0) (n (I 6) (n ff (o z44) e) (o (I 384))) (n ff (o ff) (o z3))))),
  [.reg (r 5 22 1), .code (c 5 30)], [], .run⟩,
 ⟨⟨3, 237, false, none⟩,
  y23,
  [.reg (r 3 10 0), .code (c 3 14)], [], .run⟩],
 ⟨(p 23995), g23⟩,
 []⟩
def k23 : List (IC Blk) := [(c 20 14), (.region (r 5 22 1)), (c 5 30), (.region (r 3 10 0)), (c 3 14)]
theorem h23 : codesSt s23.fr s23.cs s23.ls = k23 := by kernel_rfl
/-- the memory behind piece 24 -/
def g24 : T Blk := upd [(24447, (ce [(I 1), (I 0), (I 99), (I 0), (I 0), (I 0), q1, q1, q1, (I 1), (I 0), (I 99), (I 0), (I 0), (I 0), q1, q1, q1])), (24455, (ce [(S 24444 0 1 1), (S 24445 0 1 1), (S 24446 0 1 1), (S 24447 0 2 2), (S 24448 0 2 2), (S 24449 0 2 2), (S 24450 0 3 3), (S 24451 0 2 2), (S 24452 0 3 3), (S 24453 0 2 2), (S 24454 0 3 3)])), (24451, (ce [(I 1), (I 0), (I 99), (I 0), (I 0), (I 0), q1, q1, q1, (I 2), (I 0), (I 0), (I 0), (I 1), (I 0), q1, q2, q1])), (24539, (ce (us 26 202711040858254569145464559815429257399020177324136606755455000))), (24443, (ce [(I 1), (I 0), (I 99), (I 0), (I 0), (I 0), q1, q1, q1])), (24449, (ce [(I 1), (I 0), (I 99), (I 0), (I 0), (I 0), q1, q1, q1, (I 5), (I 0), (I 0), (I 0), (I 0), (I 0), q10, q1, q1])), (24453, (ce [(I 1), (I 0), (I 99), (I 0), (I 0), (I 0), q1, q1, q1, (I 8), (I 0), (I 0), (I 0), (I 3), (I 0), q9, q1, q1])), (24445, (ce [(I 1), (I 0), (I 0), (I 0), (I 0), (I 0), q1, q1, q1])), (24448, (ce [(I 1), (I 0), (I 99), (I 0), (I 0), (I 0), q1, q1, q1, (I 9), (I 0), (I 0), (I 0), (I 0), (I 1), q1, q1, q1])), (24456, (ce [(I 9), (I 3), (I 10), (I 9), (I 9), (I 2), (I 9), (I 1), (I 0), (I 0), (I 0)])), (24440, (ce [q0, q3, q4, q5, q6, q7, q0, q0, q0, q0, q0, q0, q0, q0, q0, q0, q0, q0, q0, q0, q0, q0, q0, q0, q0, q0, q0, q0, q0, q0, q0, q0, q0, q0, q0, q0, q0, q0, q0, q0, q0, q0, q0, q0, q0, q0, q0, q0, q0, q0, q0, q0, q0, q0, q0, q0, q0, q0, q0, q0, q0, q0, q0, q0, q0, q0, q0, q0, q0, q0, q0, q0, q0, q0, q0, q0, q0, q0, q0, q0, q0, q0, q0, q0, q0, q0, q0, q0, q0, q0, q0, q0, q0, q0, q0, q0, q0, q0, q0, q0, q0, q0, q0, q0, q0, q0, q0, q0, q0, q0, q0, q0, q0, q0, q0, q0, q0, q0, q0, q0, q0, q0, q0, q0, q0, q0, q0, q0, q0, q0, q0, q0, q0, q0, q0, q0, q0, q0, q0, q0, q0, q0, q0, q0, q0, q0, q0, q0, q0, q0, q0, q0, q0, q0, q0, q0, q0, q0, q0, q0, q0, q0, q0, q0, q0, q0, q0, q0, q0, q0, q0, q0, q0, q0, q0, q0, q0, q0, q0, q0, q0, q0, q0, q0, q0, q0, q0, q0, q0, q0, q0, q0, q0, q0, q0, q0, q0, q0, q0, q0, q0, q0, q0, q0, q0, q0, q0, q0, q0, q0, q0, q0, q0, q0, q0, q0, q0, q0, q0, q0, q0, q0, q0, q0, q0, q0, q0, q0, q0, q0, q0, q0, q0, q0, q0, q0, q0, q0, q0, q0, q0, q0, q0, q0, q0, q0, q0, q0, q0, q0, q0, q0, q0, q0, q0, q0, q0, q0, q0, q0, q0, q0, q0, q0, q0, q0, q0, q0, q0, q0, q0, q0, q0, q0, q0, q0, q0, q0, q0, q0, q0, q0, q0, q0, q0, q0, q0, q0, q0, q0, q0, q0, q0, q0, q0, q0, q0, q0, q0, q0, q0, q0, q0, q0, q0, q0, q0, q0, q0, q0, q0, q0, q0, q0, q0, q0, q0, q0, q0, q0, q0, q0, q0, q0, q0, q0, q0, q0, q0, q0, q0, q0, q0, q0, q0, q0, q0, q0, q0, q0, q0, q0, q0, q0, q0, q0, q0, q0, q0, q0, q0, q0, q0, q0, q0, q0, q0, q0, q0, q0, q0, q0, q0, q0, q0, q0, q0, q0, q0, q0, q0, q0, q0, q0, q0, q0, q0, q0, q0, q0, q0, q0, q0, q0, q0, q0])), (24452, (ce [(I 1), (I 0), (I 99), (I 0), (I 0), (I 0), q1, q1, q1, (I 2), (I 0), (I 0), (I 3), (I 1), (I 0), q1, q2, q1, (I 9), (I 0), (I 0), (I 0), (I 0), (I 1), q1, q1, q1])), (24444, (ce [(I 9), (I 0), (I 0), (I 0), (I 0), (I 0), q1, q1, q1])), (24450, (ce [(I 1), (I 0), (I 99), (I 0), (I 0), (I 0), q1, q1, q1, (I 2), (I 0), (I 0), (I 2), (I 1), (I 0), q1, q8, q1, (I 9), (I 0), (I 0), (I 0), (I 0), (I 1), q1, q1, q1])), (24442, (ce [(U 24440 0 386 1), ns, (I 0), ff, (I 1), (I 5), (I 0), (I 4), (I 1), (I 1), (I 2), (S 23818 0 1 1)])), (24454, (ce [(I 1), (I 0), (I 99), (I 0), (I 0), (I 0), q1, q1, q1, (I 9), (I 0), (I 0), (I 0), (I 0), (I 0), q1, q1, q1, (I 1), (I 0), (I 99), (I 0), (I 0), (I 0), q1, q1, q1])), (24446, (ce [(I 1), (I 5), (I 6), (I 0), (I 0), (I 0), q1, q1, q1]))] (del [22656, 23816, 23819, 23820, 23821] g23)
/-- the state behind piece 24; its texts -/
def s24 : St :=
⟨⟨⟨3, 237, false, none⟩,
  (n ff (n (A 24442 0) (n (A 24443 0) (n (U 24539 0 26 1) (m (n tt (o z46) e) (o (S 24449 0 2 2))) (m (n z47 (o tt) e) (n z47 (o (I 0)) e))) (m (m (n z48 (o (S 24456 0 11 11)) e) (n (S 24450 0 3 3) (o (A 24455 0)) e)) (n ff (n z49 (o (I 11)) e) (o z47)))) (n (S 24456 0 11 11) (m (m (n z46 (o (S 24454 0 3 3)) e) (n z17 (o (S 24455 0 11 11)) e)) (m (n (S 24447 0 2 2) (o (I 0)) e) (o z49))) (m (m (n z50 (o (S 24455 0 11 11)) e) (n z51 (o (.tup [(U 24539 0 26 1), (I 0)])) e)) (n z53 (n z47 (o tt) e) (o (S 24453 0 2 2)))))) (n tt (n (S 24455 0 11 11) (n (I 0) (m (n z47 (o z47) e) (n z47 (o (.tup [(U 24539 0 26 1), (I 0)])) e)) (m (n z47 (o tt) e) (o z54))) (m (m (n (S 24445 0 1 1) (o (I 0)) e) (n z47 (o (S 24444 0 1 1)) e)) (n z53 (n (S 24448 0 2 2) (o tt) e) (o z55)))) (n (I 0) (m (m (n (S 24444 0 1 1) (o (S 24455 0 11 11)) e) (n z49 (o (I 0)) e)) (n tt (n z47 (o (S 24456 0 11 11)) e) (o (S 24452 0 3 3)))) (m (m (n (S 24446 0 1 1) (o (I 11)) e) (n (S 24451 0 2 2) (o (U 24539 0 26 1)) e)) (n z52 (o z56) (o z47)))))),
  [.code (c 3 25790), .inBlock 1, .code (c 3 7358), .inLoop (c 3 1214), .inBlock 0, .code (c 3 254)], [], .run⟩,
 [],
 ⟨(p 24540), g24⟩,
 []⟩
def k24 : List (IC Blk) := [(c 3 25790), .skip, (c 3 7358), (c 3 1214), .skip, (c 3 254)]
theorem h24 : codesSt s24.fr s24.cs s24.ls = k24 := by kernel_rfl
/-- the memory behind piece 25 -/
def g25 : T Blk := upd [(25001, (ce [(U 24834 0 386 1), ns, (I 0), ff, (I 1), (I 5), (I 0), (I 4), (I 1), (I 1), (I 2), (U 24836 0 1 6)])), (24836, (ce [(I 1), (I 0), (I 0), (I 0), (I 0), (U 24838 0 9 3)]))] (del [24539] g24)
/-- the state behind piece 25; its texts -/
def s25 : St :=
⟨⟨⟨3, 237, false, none⟩,
  (n ff (n (A 24442 0) (n (A 24443 0) (n (U 24816 0 26 1) (m (n tt (n z46 (o ff) e) (n (I 3) (o tn) e)) (n (S 24449 0 2 2) (n (I 1) (o tn) e) (n ff (o (I 0)) e))) (m (n z47 (n tt (o tn) e) (n tt (o ff) e)) (n z47 (n (I 0) (o ff) e) (o ff)))) (n (I 3) (m (n z48 (n (S 24456 0 11 11) (o ff) e) (n (I 3) (o ff) e)) (n (S 24450 0 3 3) (n (A 24455 1) (o ff) e) (o z58))) (n ff (n z49 (n (I 11) (o tn) e) (n ff (o tn) e)) (n z47 (n (.tup [z59, (I 0), (I 3)]) (o tn) e) (o ff))))) (n (S 24456 0 11 11) (n (A 25001 0) (m (n z46 (n (S 24454 0 3 3) (o (I 0)) e) (n (I 1) (o tn) e)) (n z17 (n (S 24455 0 11 11) (o tn) e) (o ff))) (m (n (S 24447 0 2 2) (n (I 1) (o tn) e) (n (I 0) (o tn) e)) (n z49 (n z52 (o tn) e) (o (I 0))))) (n ff (m (n z50 (n (S 24455 0 11 11) (o tn) e) (n ff (o ff) e)) (n z51 (n (.tup [(U 24816 0 26 1), (I 0)]) (o ff) e) (o z58))) (n z53 (n z47 (n tt (o tn) e) (n z52 (o ff) e)) (n (S 24453 0 2 2) (n (I 0) (o tn) e) (o ff)))))) (n tt (n (S 24455 0 11 11) (n (I 0) (m (n z47 (n z47 (o ff) e) (n (S 24456 0 11 11) (o tn) e)) (n z47 (n (.tup [(U 24816 0 26 1), (I 0)]) (o tn) e) (n ff (o ff) e))) (m (n z47 (n tt (o tn) e) (n tt (o ff) e)) (n z54 (n (.tup [z59, (I 0), (I 3)]) (o ff) e) (o ff)))) (n (A 24733 0) (m (n (S 24445 0 1 1) (n (I 1) (o tn) e) (n ff (o ff) e)) (n z47 (n (S 24445 0 1 1) (o ff) e) (o (.agg [(U 24557 0 386 1), ns, (I 0), ff, (I 1), (I 5), (I 0), (I 4), (I 1), (I 1), (I 2), (U 24559 0 1 6)])))) (n z53 (n (S 24448 0 2 2) (n tt (o tn) e) (n z59 (o tn) e)) (n z55 (n z59 (o tn) e) (o (I 0)))))) (n (I 1) (n (I 0) (m (n (S 24444 0 1 1) (n (S 24455 0 11 11) (o ff) e) (n (A 24456 1) (o tn) e)) (n z49 (n (I 1) (o tn) e) (o ff))) (n tt (n z47 (n (S 24456 0 11 11) (o tn) e) (n ff (o tn) e)) (n (S 24452 0 3 3) (n (U 24816 0 26 1) (o tn) e) (o ff)))) (m (m (n (S 24446 0 1 1) (n (I 11) (o tn) e) (n (I 3) (o (I 0)) e)) (n (S 24451 0 2 2) (n (U 24816 0 26 1) (o (I 0)) e) (o z57))) (n z52 (n z56 (n (I 0) (o tn) e) (n tt (o ff) e)) (n z47 (n (I 3) (o tn) e) (o ff))))))),
  [.code (c 3 222398), .code (c 3 124094), .inBlock 1, .code (c 3 7358), .inLoop (c 3 1214), .inBlock 0, .code (c 3 254)], [], .run⟩,
 [],
 ⟨(p 25008), g25⟩,
 []⟩
def k25 : List (IC Blk) := [(c 3 222398), (c 3 124094), .skip, (c 3 7358), (c 3 1214), .skip, (c 3 254)]
theorem h25 : codesSt s25.fr s25.cs s25.ls = k25 := by kernel_rfl
/-- the memory behind piece 26 -/
def g26 : T Blk := upd [(25466, (ce (us 52 69520245383801515599028860034674449112880555229909518426150215743712456179099238790302132839448282807972682591967129106382872)))] (del [24836, 25001] g25)
/-- the state behind piece 26; its texts -/
def s26 : St :=
⟨⟨⟨3, 237, false, none⟩,
  (n ff (n (A 24442 0) (n (A 24443 0) (n (U 25466 0 52 1) (m (n tt (n z46 (o ff) e) (n (I 10) (o tn) e)) (n (S 24449 0 2 2) (n (I 3) (o tn) e) (n ff (o (I 2)) e))) (m (n z47 (n tt (o tn) e) (n tt (o ff) e)) (n z47 (n (I 0) (o ff) e) (o ff)))) (n (I 10) (m (n z48 (n (S 24456 0 11 11) (o ff) e) (n (I 10) (o ff) e)) (n (S 24450 0 3 3) (n (A 24455 3) (o ff) e) (o z58))) (n ff (n z49 (n (I 11) (o tn) e) (n ff (o tn) e)) (n z47 (n (.tup [z60, (I 0), (I 10)]) (o tn) e) (o ff))))) (n (S 24456 0 11 11) (n (A 25291 0) (m (n z46 (n (S 24454 0 3 3) (o (I 2)) e) (n (I 2) (o tn) e)) (n z17 (n (S 24455 0 11 11) (o tn) e) (o ff))) (m (n (S 24447 0 2 2) (n (I 3) (o tn) e) (n (I 0) (o tn) e)) (n z49 (n z52 (o tn) e) (o (I 2))))) (n ff (m (n z50 (n (S 24455 0 11 11) (o tn) e) (n ff (o ff) e)) (n z51 (n (.tup [(U 25466 0 52 1), (I 0)]) (o ff) e) (o z58))) (n z53 (n z47 (n tt (o tn) e) (n z52 (o ff) e)) (n (S 24453 0 2 2) (n (I 0) (o tn) e) (o ff)))))) (n tt (n (S 24455 0 11 11) (n (I 0) (m (n z47 (n z47 (o ff) e) (n (S 24456 0 11 11) (o tn) e)) (n z47 (n (.tup [(U 25466 0 52 1), (I 0)]) (o tn) e) (n ff (o ff) e))) (m (n z47 (n tt (o tn) e) (n tt (o ff) e)) (n z54 (n (.tup [z60, (I 0), (I 10)]) (o ff) e) (o ff)))) (n (A 25300 0) (m (n (S 24445 0 1 1) (n (I 3) (o tn) e) (n ff (o ff) e)) (n z47 (n (S 24447 0 2 2) (o ff) e) (o z60))) (n z53 (n (S 24448 0 2 2) (n tt (o tn) e) (n z60 (o tn) e)) (n z55 (n z60 (o tn) e) (o (I 2)))))) (n (I 3) (n (I 0) (m (n (S 24444 0 1 1) (n (S 24455 0 11 11) (o ff) e) (n (A 24456 2) (o tn) e)) (n z49 (n (I 3) (o tn) e) (o ff))) (n tt (n z47 (n (S 24456 0 11 11) (o tn) e) (n ff (o tn) e)) (n (S 24452 0 3 3) (n (U 25093 0 26 1) (o tn) e) (o ff)))) (m (m (n (S 24446 0 1 1) (n (I 11) (o tn) e) (n (I 10) (o (I 2)) e)) (n (S 24451 0 2 2) (n (U 25466 0 52 1) (o (I 2)) e) (o z57))) (n z52 (n z56 (n (I 2) (o tn) e) (n tt (o ff) e)) (n z47 (n (I 10) (o tn) e) (o ff))))))),
  [.code (c 3 25790), .inBlock 1, .code (c 3 7358), .inLoop (c 3 1214), .inBlock 0, .code (c 3 254)], [], .run⟩,
 [],
 ⟨(p 25467), g26⟩,
 []⟩
def k26 : List (IC Blk) := [(c 3 25790), .skip, (c 3 7358), (c 3 1214), .skip, (c 3 254)]
theorem h26 : codesSt s26.fr s26.cs s26.ls = k26 := by kernel_rfl
/-- the memory behind piece 27 -/
def g27 : T Blk := upd [(26010, (ce (us 52 125168375306817836880133102411513178154954059860469904427773542169921508449436151056570480104135912918561695669049488796811288)))] (del [25466] g26)
/-- the state behind piece 27; its texts -/
def s27 : St :=
⟨⟨⟨3, 237, false, none⟩,
  (n ff (n (A 24442 0) (n (A 24443 0) (n (U 26010 0 52 1) (m (n tt (n z46 (o ff) e) (n (I 9) (o tn) e)) (n (S 24449 0 2 2) (n (I 4) (o tn) e) (n ff (o (I 3)) e))) (m (n z47 (n tt (o tn) e) (n tt (o ff) e)) (n z47 (n (I 0) (o ff) e) (o ff)))) (n (I 9) (m (n z48 (n (S 24456 0 11 11) (o ff) e) (n (I 9) (o ff) e)) (n (S 24450 0 3 3) (n (A 24455 4) (o ff) e) (o z58))) (n ff (n z49 (n (I 11) (o tn) e) (n ff (o tn) e)) (n z47 (n (.tup [z61, (I 0), (I 9)]) (o tn) e) (o ff))))) (n (S 24456 0 11 11) (n (A 25835 0) (m (n z46 (n (S 24454 0 3 3) (o (I 3)) e) (n (I 3) (o tn) e)) (n z17 (n (S 24455 0 11 11) (o tn) e) (o ff))) (m (n (S 24447 0 2 2) (n (I 4) (o tn) e) (n (I 0) (o tn) e)) (n z49 (n z52 (o tn) e) (o (I 3))))) (n ff (m (n z50 (n (S 24455 0 11 11) (o tn) e) (n ff (o ff) e)) (n z51 (n (.tup [(U 26010 0 52 1), (I 0)]) (o ff) e) (o z58))) (n z53 (n z47 (n tt (o tn) e) (n z52 (o ff) e)) (n (S 24453 0 2 2) (n (I 0) (o tn) e) (o ff)))))) (n tt (n (S 24455 0 11 11) (n (I 0) (m (n z47 (n z47 (o ff) e) (n (S 24456 0 11 11) (o tn) e)) (n z47 (n (.tup [(U 26010 0 52 1), (I 0)]) (o tn) e) (n ff (o ff) e))) (m (n z47 (n tt (o tn) e) (n tt (o ff) e)) (n z54 (n (.tup [z61, (I 0), (I 9)]) (o ff) e) (o ff)))) (n (A 25844 0) (m (n (S 24445 0 1 1) (n (I 4) (o tn) e) (n ff (o ff) e)) (n z47 (n (S 24448 0 2 2) (o ff) e) (o z61))) (n z53 (n (S 24448 0 2 2) (n tt (o tn) e) (n z61 (o tn) e)) (n z55 (n z61 (o tn) e) (o (I 3)))))) (n (I 4) (n (I 0) (m (n (S 24444 0 1 1) (n (S 24455 0 11 11) (o ff) e) (n (A 24456 3) (o tn) e)) (n z49 (n (I 4) (o tn) e) (o ff))) (n tt (n z47 (n (S 24456 0 11 11) (o tn) e) (n ff (o tn) e)) (n (S 24452 0 3 3) (n (U 25466 0 52 1) (o tn) e) (o ff)))) (m (m (n (S 24446 0 1 1) (n (I 11) (o tn) e) (n (I 9) (o (I 3)) e)) (n (S 24451 0 2 2) (n (U 26010 0 52 1) (o (I 3)) e) (o z57))) (n z52 (n z56 (n (I 3) (o tn) e) (n tt (o ff) e)) (n z47 (n (I 9) (o tn) e) (o ff))))))),
  [.code (c 3 25790), .inBlock 1, .code (c 3 7358), .inLoop (c 3 1214), .inBlock 0, .code (c 3 254)], [], .run⟩,
 [],
 ⟨(p 26011), g27⟩,
 []⟩
def k27 : List (IC Blk) := [(c 3 25790), .skip, (c 3 7358), (c 3 1214), .skip, (c 3 254)]
theorem h27 : codesSt s27.fr s27.cs s27.ls = k27 := by kernel_rfl
/-- the memory behind piece 28 -/
def g28 : T Blk := upd [(26557, (ce (us 55 2415234878194995344849544163203369110708474042404249779904465766035636631548952838497577204220892946204916707131869163029365501460504)))] (del [26010] g27)
/-- the state behind piece 28; its texts -/
def s28 : St :=
⟨⟨⟨3, 237, false, none⟩,
  (n ff (n (A 24442 0) (n (A 24443 0) (n (U 26557 0 55 1) (m (n tt (n z46 (o ff) e) (n (I 9) (o tn) e)) (n (S 24449 0 2 2) (n (I 5) (o tn) e) (n ff (o (I 4)) e))) (m (n z47 (n tt (o tn) e) (n tt (o ff) e)) (n z47 (n (I 0) (o ff) e) (o ff)))) (n (I 9) (m (n z48 (n (S 24456 0 11 11) (o ff) e) (n (I 9) (o ff) e)) (n (S 24450 0 3 3) (n (A 24455 5) (o ff) e) (o z58))) (n ff (n z49 (n (I 11) (o tn) e) (n ff (o tn) e)) (n z47 (n (.tup [z62, (I 0), (I 9)]) (o tn) e) (o ff))))) (n (S 24456 0 11 11) (n (A 26381 0) (m (n z46 (n (S 24454 0 3 3) (o (I 4)) e) (n (I 4) (o tn) e)) (n z17 (n (S 24455 0 11 11) (o tn) e) (o ff))) (m (n (S 24447 0 2 2) (n (I 5) (o tn) e) (n (I 0) (o tn) e)) (n z49 (n z52 (o tn) e) (o (I 4))))) (n ff (m (n z50 (n (S 24455 0 11 11) (o tn) e) (n ff (o ff) e)) (n z51 (n (.tup [(U 26557 0 55 1), (I 0)]) (o ff) e) (o z58))) (n z53 (n z47 (n tt (o tn) e) (n z52 (o ff) e)) (n (S 24453 0 2 2) (n (I 0) (o tn) e) (o ff)))))) (n tt (n (S 24455 0 11 11) (n (I 0) (m (n z47 (n z47 (o ff) e) (n (S 24456 0 11 11) (o tn) e)) (n z47 (n (.tup [(U 26557 0 55 1), (I 0)]) (o tn) e) (n ff (o ff) e))) (m (n z47 (n tt (o tn) e) (n tt (o ff) e)) (n z54 (n (.tup [z62, (I 0), (I 9)]) (o ff) e) (o ff)))) (n (A 26390 0) (m (n (S 24445 0 1 1) (n (I 5) (o tn) e) (n ff (o ff) e)) (n z47 (n (S 24449 0 2 2) (o ff) e) (o z62))) (n z53 (n (S 24448 0 2 2) (n tt (o tn) e) (n z62 (o tn) e)) (n z55 (n z62 (o tn) e) (o (I 4)))))) (n (I 5) (n (I 0) (m (n (S 24444 0 1 1) (n (S 24455 0 11 11) (o ff) e) (n (A 24456 4) (o tn) e)) (n z49 (n (I 5) (o tn) e) (o ff))) (n tt (n z47 (n (S 24456 0 11 11) (o tn) e) (n ff (o tn) e)) (n (S 24452 0 3 3) (n (U 26010 0 52 1) (o tn) e) (o ff)))) (m (m (n (S 24446 0 1 1) (n (I 11) (o tn) e) (n (I 9) (o (I 4)) e)) (n (S 24451 0 2 2) (n (U 26557 0 55 1) (o (I 4)) e) (o z57))) (n z52 (n z56 (n (I 4) (o tn) e) (n tt (o ff) e)) (n z47 (n (I 9) (o tn) e) (o ff))))))),
  [.code (c 3 25790), .inBlock 1, .code (c 3 7358), .inLoop (c 3 1214), .inBlock 0, .code (c 3 254)], [], .run⟩,
 [],
 ⟨(p 26558), g28⟩,
 []⟩
def k28 : List (IC Blk) := [(c 3 25790), .skip, (c 3 7358), (c 3 1214), .skip, (c 3 254)]
theorem h28 : codesSt s28.fr s28.cs s28.ls = k28 := by kernel_rfl
/-- the memory behind piece 29 -/
def g29 : T Blk := upd [(26575, (ce [q0, q3, q4, q5, q6, q7, q0, q0, q0, q0, q0, q0, q0, q0, q0, q0, q0, q0, q0, q0, q0, q0, q0, q0, q0, q0, q0, q0, q0, q0, q0, q0, q0, q0, q0, q0, q0, q0, q0, q0, q0, q0, q0, q0, q0, q0, q0, q0, q0, q0, q0, q0, q0, q0, q0, q0, q0, q0, q0, q0, q0, q0, q0, q0, q0, q0, q0, q0, q0, q0, q0, q0, q0, q0, q0, q0, q0, q0, q0, q0, q0, q0, q0, q0, q0, q0, q0, q0, q0, q0, q0, q0, q0, q0, q0, q0, q0, q0, q0, q0, q0, q0, q0, q0, q0, q0, q0, q0, q0, q0, q0, q0, q0, q0, q0, q0, q0, q0, q0, q0, q0, q0, q0, q0, q0, q0, q0, q0, q0, q0, q0, q0, q0, q0, q0, q0, q0, q0, q0, q0, q0, q0, q0, q0, q0, q0, q0, q0, q0, q0, q0, q0, q0, q0, q0, q0, q0, q0, q0, q0, q0, q0, q0, q0, q0, q0, q0, q0, q0, q0, q0, q0, q0, q0, q0, q0, q0, q0, q0, q0, q0, q0, q0, q0, q0, q0, q0, q0, q0, q0, q0, q0, q0, q0, q0, q0, q0, q0, q0, q0, q0, q0, q0, q0, q0, q0, q0, q0, q0, q0, q0, q0, q0, q0, q0, q0, q0, q0, q0, q0, q0, q0, q0, q0, q0, q0, q0, q0, q0, q0, q0, q0, q0, q0, q0, q0, q0, q0, q0, q0, q0, q0, q0, q0, q0, q0, q0, q0, q0, q0, q0, q0, q0, q0, q0, q0, q0, q0, q0, q0, q0, q0, q0, q0, q0, q0, q0, q0, q0, q0, q0, q0, q0, q0, q0, q0, q0, q0, q0, q0, q0, q0, q0, q0, q0, q0, q0, q0, q0, q0, q0, q0, q0, q0, q0, q0, q0, q0, q0, q0, q0, q0, q0, q0, q0, q0, q0, q0, q0, q0, q0, q0, q0, q0, q0, q0, q0, q0, q0, q0, q0, q0, q0, q0, q0, q0, q0, q0, q0, q0, q0, q0, q0, q0, q0, q0, q0, q0, q0, q0, q0, q0, q0, q0, q0, q0, q0, q0, q0, q0, q0, q0, q0, q0, q0, q0, q0, q0, q0, q0, q0, q0, q0, q0, q0, q0, q0, q0, q0, q0, q0, q0, q0, q0, q0, q0, q0, q0, q0, q0, q0, q0, q0, q0, q0, q0])), (26579, (ce [(I 2), (I 7), q1, (I 0), (I 0), q1, (I 0), (I 0), q1, (I 0), (I 0), q1, (I 0), (I 0), q1, (I 0), (I 0), q1, (I 0), (I 0), q1, (I 0), (I 0), q1, (I 0), (I 0), q1])), (26577, (ce [(I 1), (I 0), (I 0), (I 0), (I 0), (U 26579 0 9 3)])), (26960, (ce [(I 0), (I 0), (I 0), (I 0), (I 0), ns])), (27210, (ce (us 81 1043025770891933460111511943381391250723869625462151944228615149960557360370746421421285903001079136762773068338968895964502051194003112349008227947266507985399833741459043379716669340300454395928)))] (del [26557] g28)
/-- the state behind piece 29; its texts -/
def s29 : St :=
⟨⟨⟨3, 237, false, none⟩,
  (n ff (n (A 24442 0) (n (A 24443 0) (n (U 27210 0 81 1) (m (n tt (n z46 (o ff) e) (n (I 2) (o tn) e)) (n (S 24449 0 2 2) (n (I 6) (o tn) e) (n ff (o (I 5)) e))) (m (n z47 (n tt (o tn) e) (n tt (o ff) e)) (n z47 (n (I 0) (o ff) e) (o ff)))) (n (I 2) (m (n z48 (n (S 24456 0 11 11) (o ff) e) (n (I 2) (o ff) e)) (n (S 24450 0 3 3) (n (A 24455 6) (o ff) e) (o z58))) (n ff (n z49 (n (I 11) (o tn) e) (n ff (o tn) e)) (n z47 (n (.tup [z63, (I 0), (I 2)]) (o tn) e) (o ff))))) (n (S 24456 0 11 11) (n (A 26951 0) (m (n z46 (n (S 24454 0 3 3) (o (I 5)) e) (n (I 5) (o tn) e)) (n z17 (n (S 24455 0 11 11) (o tn) e) (o ff))) (m (n (S 24447 0 2 2) (n (I 6) (o tn) e) (n (I 0) (o tn) e)) (n z49 (n z52 (o tn) e) (o (I 5))))) (n ff (m (n z50 (n (S 24455 0 11 11) (o tn) e) (n ff (o ff) e)) (n z51 (n (.tup [(U 27210 0 81 1), (I 0)]) (o ff) e) (o z58))) (n z53 (n z47 (n tt (o tn) e) (n z52 (o ff) e)) (n (S 24453 0 2 2) (n (I 0) (o tn) e) (o ff)))))) (n tt (n (S 24455 0 11 11) (n (I 0) (m (n z47 (n z47 (o ff) e) (n (S 24456 0 11 11) (o tn) e)) (n z47 (n (.tup [(U 27210 0 81 1), (I 0)]) (o tn) e) (n ff (o ff) e))) (m (n z47 (n tt (o tn) e) (n tt (o ff) e)) (n z54 (n (.tup [z63, (I 0), (I 2)]) (o ff) e) (o ff)))) (n (A 26960 0) (m (n (S 24445 0 1 1) (n (I 6) (o tn) e) (n ff (o ff) e)) (n z47 (n (S 24450 0 3 3) (o ff) e) (o z63))) (n z53 (n (S 24448 0 2 2) (n tt (o tn) e) (n z63 (o tn) e)) (n z55 (n z63 (o tn) e) (o (I 5)))))) (n (I 6) (n (I 0) (m (n (S 24444 0 1 1) (n (S 24455 0 11 11) (o ff) e) (n (A 24456 5) (o tn) e)) (n z49 (n (I 6) (o tn) e) (o ff))) (n tt (n z47 (n (S 24456 0 11 11) (o tn) e) (n ff (o tn) e)) (n (S 24452 0 3 3) (n (U 26557 0 55 1) (o tn) e) (o ff)))) (m (m (n (S 24446 0 1 1) (n (I 11) (o tn) e) (n (I 2) (o (I 5)) e)) (n (S 24451 0 2 2) (n (U 27210 0 81 1) (o (I 5)) e) (o z57))) (n z52 (n z56 (n (I 5) (o tn) e) (n tt (o ff) e)) (n z47 (n (I 2) (o tn) e) (o ff))))))),
  [.code (c 3 25790), .inBlock 1, .code (c 3 7358), .inLoop (c 3 1214), .inBlock 0, .code (c 3 254)], [], .run⟩,
 [],
 ⟨(p 27211), g29⟩,
 []⟩
def k29 : List (IC Blk) := [(c 3 25790), .skip, (c 3 7358), (c 3 1214), .skip, (c 3 254)]
theorem h29 : codesSt s29.fr s29.cs s29.ls = k29 := by kernel_rfl
/-- the memory behind piece 30 -/
def g30 : T Blk := upd [(27232, (ce [(I 2), (I 7), q1, (I 0), (I 0), q1, (I 0), (I 0), q1, (I 0), (I 0), q1, (I 0), (I 0), q1, (I 0), (I 0), q1, (I 0), (I 0), q1, (I 0), (I 0), q1, (I 0), (I 0), q1])), (27228, (ce [q0, q3, q4, q5, q6, q7, q0, q0, q0, q0, q0, q0, q0, q0, q0, q0, q0, q0, q0, q0, q0, q0, q0, q0, q0, q0, q0, q0, q0, q0, q0, q0, q0, q0, q0, q0, q0, q0, q0, q0, q0, q0, q0, q0, q0, q0, q0, q0, q0, q0, q0, q0, q0, q0, q0, q0, q0, q0, q0, q0, q0, q0, q0, q0, q0, q0, q0, q0, q0, q0, q0, q0, q0, q0, q0, q0, q0, q0, q0, q0, q0, q0, q0, q0, q0, q0, q0, q0, q0, q0, q0, q0, q0, q0, q0, q0, q0, q0, q0, q0, q0, q0, q0, q0, q0, q0, q0, q0, q0, q0, q0, q0, q0, q0, q0, q0, q0, q0, q0, q0, q0, q0, q0, q0, q0, q0, q0, q0, q0, q0, q0, q0, q0, q0, q0, q0, q0, q0, q0, q0, q0, q0, q0, q0, q0, q0, q0, q0, q0, q0, q0, q0, q0, q0, q0, q0, q0, q0, q0, q0, q0, q0, q0, q0, q0, q0, q0, q0, q0, q0, q0, q0, q0, q0, q0, q0, q0, q0, q0, q0, q0, q0, q0, q0, q0, q0, q0, q0, q0, q0, q0, q0, q0, q0, q0, q0, q0, q0, q0, q0, q0, q0, q0, q0, q0, q0, q0, q0, q0, q0, q0, q0, q0, q0, q0, q0, q0, q0, q0, q0, q0, q0, q0, q0, q0, q0, q0, q0, q0, q0, q0, q0, q0, q0, q0, q0, q0, q0, q0, q0, q0, q0, q0, q0, q0, q0, q0, q0, q0, q0, q0, q0, q0, q0, q0, q0, q0, q0, q0, q0, q0, q0, q0, q0, q0, q0, q0, q0, q0, q0, q0, q0, q0, q0, q0, q0, q0, q0, q0, q0, q0, q0, q0, q0, q0, q0, q0, q0, q0, q0, q0, q0, q0, q0, q0, q0, q0, q0, q0, q0, q0, q0, q0, q0, q0, q0, q0, q0, q0, q0, q0, q0, q0, q0, q0, q0, q0, q0, q0, q0, q0, q0, q0, q0, q0, q0, q0, q0, q0, q0, q0, q0, q0, q0, q0, q0, q0, q0, q0, q0, q0, q0, q0, q0, q0, q0, q0, q0, q0, q0, q0, q0, q0, q0, q0, q0, q0, q0, q0, q0, q0, q0, q0, q0, q0, q0, q0, q0, q0, q0, q0, q0, q0, q0, q0, q0, q0, q0, q0, q0, q0, q0, q0, q0, q0, q0])), (27814, (ce [(U 27228 0 386 1), ns, (I 0), ff, (I 1), (I 5), (I 0), (I 4), (I 1), (I 1), (I 2), (U 27230 0 1 6)])), (27230, (ce [(I 1), (I 0), (I 0), (I 0), (I 0), (U 27232 0 9 3)]))] (del [27210, 26575, 26960, 26577, 26579] g29)
/-- the state behind piece 30; its texts -/
def s30 : St :=
⟨⟨⟨3, 237, false, none⟩,
  (n ff (n (A 24442 0) (n (A 24443 0) (n (U 27210 0 81 1) (m (n tt (n z46 (o ff) e) (n (I 9) (o tn) e)) (n (S 24449 0 2 2) (n (I 6) (o tn) e) (n ff (o (I 5)) e))) (m (n z47 (n tt (o tn) e) (n tt (o ff) e)) (n z47 (n (I 0) (o ff) e) (o ff)))) (n (I 9) (m (n z48 (n (S 24456 0 11 11) (o ff) e) (n (I 9) (o ff) e)) (n (S 24450 0 3 3) (n (A 24455 6) (o ff) e) (o z58))) (n ff (n z49 (n (I 11) (o tn) e) (n ff (o tn) e)) (n z47 (n (.tup [z64, (I 0), (I 9)]) (o tn) e) (o ff))))) (n (S 24456 0 11 11) (n (A 27814 0) (m (n z46 (n (S 24454 0 3 3) (o (I 5)) e) (n (I 6) (o tn) e)) (n z17 (n (S 24455 0 11 11) (o tn) e) (o ff))) (m (n (S 24447 0 2 2) (n (I 6) (o tn) e) (n (I 0) (o tn) e)) (n z49 (n z52 (o tn) e) (o (I 5))))) (n ff (m (n z50 (n (S 24455 0 11 11) (o tn) e) (n ff (o ff) e)) (n z51 (n (.tup [(U 27210 0 81 1), (I 0)]) (o ff) e) (o z58))) (n z53 (n z47 (n tt (o tn) e) (n z52 (o ff) e)) (n (S 24453 0 2 2) (n (I 0) (o tn) e) (o ff)))))) (n tt (n (S 24455 0 11 11) (n (I 0) (m (n z47 (n z47 (o ff) e) (n (S 24456 0 11 11) (o tn) e)) (n z47 (n (.tup [(U 27210 0 81 1), (I 0)]) (o tn) e) (n ff (o ff) e))) (m (n z47 (n tt (o tn) e) (n tt (o ff) e)) (n z54 (n (.tup [z64, (I 0), (I 9)]) (o ff) e) (o ff)))) (n (A 26960 0) (m (n (S 24445 0 1 1) (n (I 6) (o tn) e) (n ff (o ff) e)) (n z47 (n (S 24450 0 3 3) (o ff) e) (o z63))) (n z53 (n (S 24448 0 2 2) (n tt (o tn) e) (n z64 (o tn) e)) (n z55 (n z64 (o tn) e) (o (I 5)))))) (n (I 6) (n (I 0) (m (n (S 24444 0 1 1) (n (S 24455 0 11 11) (o ff) e) (n (A 24456 6) (o tn) e)) (n z49 (n (I 6) (o tn) e) (o ff))) (n tt (n z47 (n (S 24456 0 11 11) (o tn) e) (n ff (o tn) e)) (n (S 24452 0 3 3) (n (U 27210 0 81 1) (o tn) e) (o ff)))) (m (m (n (S 24446 0 1 1) (n (I 11) (o tn) e) (n (I 9) (o (I 5)) e)) (n (S 24451 0 2 2) (n (U 27210 0 81 1) (o (I 5)) e) (o z57))) (n z52 (n z56 (n (I 5) (o tn) e) (n tt (o ff) e)) (n z47 (n (I 9) (o tn) e) (o ff))))))),
  [.code (c 3 222398), .code (c 3 124094), .inBlock 1, .code (c 3 7358), .inLoop (c 3 1214), .inBlock 0, .code (c 3 254)], [], .run⟩,
 [],
 ⟨(p 27821), g30⟩,
 []⟩
def k30 : List (IC Blk) := [(c 3 222398), (c 3 124094), .skip, (c 3 7358), (c 3 1214), .skip, (c 3 254)]
theorem h30 : codesSt s30.fr s30.cs s30.ls = k30 := by kernel_rfl
/-- the memory behind piece 31 -/
def g31 : T Blk := upd [(28363, (ce [(U 28008 0 386 1), ns, (I 0), ff, (I 1), (I 5), (I 0), (I 4), (I 1), (I 1), (I 2), (U 28010 0 1 6)])), (28008, (ce [q0, q3, q4, q5, q6, q7, q0, q0, q0, q0, q0, q0, q0, q0, q0, q0, q0, q0, q0, q0, q0, q0, q0, q0, q0, q0, q0, q0, q0, q0, q0, q0, q0, q0, q0, q0, q0, q0, q0, q0, q0, q0, q0, q0, q0, q0, q0, q0, q0, q0, q0, q0, q0, q0, q0, q0, q0, q0, q0, q0, q0, q0, q0, q0, q0, q0, q0, q0, q0, q0, q0, q0, q0, q0, q0, q0, q0, q0, q0, q0, q0, q0, q0, q0, q0, q0, q0, q0, q0, q0, q0, q0, q0, q0, q0, q0, q0, q0, q0, q0, q0, q0, q0, q0, q0, q0, q0, q0, q0, q0, q0, q0, q0, q0, q0, q0, q0, q0, q0, q0, q0, q0, q0, q0, q0, q0, q0, q0, q0, q0, q0, q0, q0, q0, q0, q0, q0, q0, q0, q0, q0, q0, q0, q0, q0, q0, q0, q0, q0, q0, q0, q0, q0, q0, q0, q0, q0, q0, q0, q0, q0, q0, q0, q0, q0, q0, q0, q0, q0, q0, q0, q0, q0, q0, q0, q0, q0, q0, q0, q0, q0, q0, q0, q0, q0, q0, q0, q0, q0, q0, q0, q0, q0, q0, q0, q0, q0, q0, q0, q0, q0, q0, q0, q0, q0, q0, q0, q0, q0, q0, q0, q0, q0, q0, q0, q0, q0, q0, q0, q0, q0, q0, q0, q0, q0, q0, q0, q0, q0, q0, q0, q0, q0, q0, q0, q0, q0, q0, q0, q0, q0, q0, q0, q0, q0, q0, q0, q0, q0, q0, q0, q0, q0, q0, q0, q0, q0, q0, q0, q0, q0, q0, q0, q0, q0, q0, q0, q0, q0, q0, q0, q0, q0, q0, q0, q0, q0, q0, q0, q0, q0, q0, q0, q0, q0, q0, q0, q0, q0, q0, q0, q0, q0, q0, q0, q0, q0, q0, q0, q0, q0, q0, q0, q0, q0, q0, q0, q0, q0, q0, q0, q0, q0, q0, q0, q0, q0, q0, q0, q0, q0, q0, q0, q0, q0, q0, q0, q0, q0, q0, q0, q0, q0, q0, q0, q0, q0, q0, q0, q0, q0, q0, q0, q0, q0, q0, q0, q0, q0, q0, q0, q0, q0, q0, q0, q0, q0, q0, q0, q0, q0, q0, q0, q0, q0, q0, q0, q0, q0, q0, q0, q0, q0, q0, q0, q0, q0, q0, q0, q0, q0, q0, q0, q0, q0, q0])), (28012, (ce [(I 2), (I 7), q1, (I 0), (I 0), q1, (I 0), (I 0), q1, (I 0), (I 0), q1, (I 0), (I 0), q1, (I 0), (I 0), q1, (I 0), (I 0), q1, (I 0), (I 0), q1, (I 0), (I 0), q1])), (28010, (ce [(I 1), (I 0), (I 0), (I 0), (I 0), (U 28012 0 9 3)]))] (del [27814, 27228, 27230, 27232] g30)
/-- the state behind piece 31; its texts -/
def s31 : St :=
⟨⟨⟨3, 237, false, none⟩,
  (n ff (n (A 24442 0) (n (A 24443 0) (n (U 27990 0 54 1) (m (n tt (n z46 (o ff) e) (n (I 1) (o tn) e)) (n (S 24449 0 2 2) (n (I 7) (o tn) e) (n ff (o (I 6)) e))) (m (n z47 (n tt (o tn) e) (n tt (o ff) e)) (n z47 (n (I 0) (o ff) e) (o ff)))) (n (I 1) (m (n z48 (n (S 24456 0 11 11) (o ff) e) (n (I 1) (o ff) e)) (n (S 24450 0 3 3) (n (A 24455 7) (o ff) e) (o z58))) (n ff (n z49 (n (I 11) (o tn) e) (n ff (o tn) e)) (n z47 (n z66 (o tn) e) (o ff))))) (n (S 24456 0 11 11) (n (A 28363 0) (m (n z46 (n (S 24454 0 3 3) (o (I 6)) e) (n (I 7) (o tn) e)) (n z17 (n (S 24455 0 11 11) (o tn) e) (o ff))) (m (n (S 24447 0 2 2) (n (I 7) (o tn) e) (n (I 0) (o tn) e)) (n z49 (n z52 (o tn) e) (o (I 6))))) (n ff (m (n z50 (n (S 24455 0 11 11) (o tn) e) (n ff (o ff) e)) (n z51 (n (.tup [(U 27990 0 54 1), (I 0)]) (o ff) e) (o z58))) (n z53 (n z47 (n tt (o tn) e) (n z52 (o ff) e)) (n (S 24453 0 2 2) (n (I 0) (o tn) e) (o ff)))))) (n tt (n (S 24455 0 11 11) (n (I 0) (m (n z47 (n z47 (o ff) e) (n (S 24456 0 11 11) (o tn) e)) (n z47 (n (.tup [(U 27990 0 54 1), (I 0)]) (o tn) e) (n ff (o ff) e))) (m (n z47 (n tt (o tn) e) (n tt (o ff) e)) (n z54 (n z66 (o ff) e) (o ff)))) (n (A 27823 0) (m (n (S 24445 0 1 1) (n (I 7) (o tn) e) (n ff (o ff) e)) (n z47 (n (S 24451 0 2 2) (o ff) e) (o z64))) (n z53 (n (S 24448 0 2 2) (n tt (o tn) e) (n z65 (o tn) e)) (n z55 (n z65 (o tn) e) (o (I 6)))))) (n (I 7) (n (I 0) (m (n (S 24444 0 1 1) (n (S 24455 0 11 11) (o ff) e) (n (A 24456 7) (o tn) e)) (n z49 (n (I 7) (o tn) e) (o ff))) (n tt (n z47 (n (S 24456 0 11 11) (o tn) e) (n ff (o tn) e)) (n (S 24452 0 3 3) (n (U 27990 0 54 1) (o tn) e) (o ff)))) (m (m (n (S 24446 0 1 1) (n (I 11) (o tn) e) (n (I 1) (o (I 6)) e)) (n (S 24451 0 2 2) (n (U 27990 0 54 1) (o (I 6)) e) (o z57))) (n z52 (n z56 (n (I 6) (o tn) e) (n tt (o ff) e)) (n z47 (n (I 1) (o tn) e) (o ff))))))),
  [.code (c 3 222398), .code (c 3 124094), .inBlock 1, .code (c 3 7358), .inLoop (c 3 1214), .inBlock 0, .code (c 3 254)], [], .run⟩,
 [],
 ⟨(p 28370), g31⟩,
 []⟩
def k31 : List (IC Blk) := [(c 3 222398), (c 3 124094), .skip, (c 3 7358), (c 3 1214), .skip, (c 3 254)]
theorem h31 : codesSt s31.fr s31.cs s31.ls = k31 := by kernel_rfl
def y24 : T V := (n ff (n (A 24442 0) (n (A 24443 0) (n (U 28622 0 80 1) (m (n tt (n z46 (o ff) e) (n (I 1) (o tn) e)) (n (S 24449 0 2 2) (n (I 8) (o tn) e) (n ff (o (I 7)) e))) (m (n z47 (n tt (o tn) e) (n tt (o ff) e)) (n z47 (n (I 0) (o ff) e) (o ff)))) (n (I 1) (m (n z48 (n (S 24456 0 11 11) (o ff) e) (n (I 1) (o ff) e)) (n (S 24450 0 3 3) (n (A 24455 8) (o ff) e) (o z58))) (n ff (n z49 (n (I 11) (o tn) e) (n ff (o tn) e)) (n z47 (n z66 (o tn) e) (o ff))))) (n (S 24456 0 11 11) (n (A 28363 0) (m (n z46 (n (S 24454 0 3 3) (o (I 7)) e) (n (I 7) (o tn) e)) (n z17 (n (S 24455 0 11 11) (o tn) e) (o ff))) (m (n (S 24447 0 2 2) (n (I 8) (o tn) e) (n (I 0) (o tn) e)) (n z49 (n z52 (o tn) e) (o (I 7))))) (n ff (m (n z50 (n (S 24455 0 11 11) (o tn) e) (n ff (o ff) e)) (n z51 (n (.tup [(U 28622 0 80 1), (I 0)]) (o ff) e) (o z58))) (n z53 (n z47 (n tt (o tn) e) (n z52 (o ff) e)) (n (S 24453 0 2 2) (n (I 0) (o tn) e) (o ff)))))) (n tt (n (S 24455 0 11 11) (n (I 0) (m (n z47 (n z47 (o ff) e) (n (S 24456 0 11 11) (o tn) e)) (n z47 (n (.tup [(U 28622 0 80 1), (I 0)]) (o tn) e) (n ff (o ff) e))) (m (n z47 (n tt (o tn) e) (n tt (o ff) e)) (n z54 (n z66 (o ff) e) (o ff)))) (n (A 28372 0) (m (n (S 24445 0 1 1) (n (I 8) (o tn) e) (n ff (o ff) e)) (n z47 (n (S 24452 0 3 3) (o ff) e) (o z65))) (n z53 (n (S 24448 0 2 2) (n tt (o tn) e) (n z65 (o tn) e)) (n z55 (n z65 (o tn) e) (o (I 7)))))) (n (I 8) (n (I 0) (m (n (S 24444 0 1 1) (n (S 24455 0 11 11) (o ff) e) (n (A 24456 7) (o tn) e)) (n z49 (n (I 8) (o tn) e) (o ff))) (n tt (n z47 (n (S 24456 0 11 11) (o tn) e) (n ff (o tn) e)) (n (S 24452 0 3 3) (n (U 28622 0 80 1) (o tn) e) (o ff)))) (m (m (n (S 24446 0 1 1) (n (I 11) (o tn) e) (n (I 1) (o (I 7)) e)) (n (S 24451 0 2 2) (n (U 28622 0 80 1) (o (I 7)) e) (o z57))) (n z52 (n z56 (n (I 7) (o tn) e) (n tt (o ff) e)) (n z47 (n (I 1) (o tn) e) (o ff)))))))
/-- the memory behind piece 32 -/
def g32 : T Blk := upd [(29263, (ce [(I 2), (I 7), q28, (I 0), (I 0), q1, (I 1), (I 0), q1, (I 0), (I 0), q1, (I 0), (I 0), q1, (I 0), (I 0), q1, (I 0), (I 0), q1, (I 0), (I 0), q1, (I 0), (I 0), q1])), (28623, (ce [(U 24440 0 386 1), ns, (I 0), ff, (I 1), (I 5), (I 0), (I 4), (I 1), (I 1), (I 2), (S 23818 0 1 1)])), (28640, (ce [q0, q3, q4, q5, q6, q7, q0, q0, q0, q0, q0, q0, q0, q0, q0, q0, q0, q0, q0, q0, q0, q0, q0, q0, q0, q0, q0, q0, q0, q0, q0, q0, q0, q0, q0, q0, q0, q0, q0, q0, q0, q0, q0, q0, q0, q0, q0, q0, q0, q0, q0, q0, q0, q0, q0, q0, q0, q0, q0, q0, q0, q0, q0, q0, q0, q0, q0, q0, q0, q0, q0, q0, q0, q0, q0, q0, q0, q0, q0, q0, q0, q0, q0, q0, q0, q0, q0, q0, q0, q0, q0, q0, q0, q0, q0, q0, q0, q0, q0, q0, q0, q0, q0, q0, q0, q0, q0, q0, q0, q0, q0, q0, q0, q0, q0, q0, q0, q0, q0, q0, q0, q0, q0, q0, q0, q0, q0, q0, q0, q0, q0, q0, q0, q0, q0, q0, q0, q0, q0, q0, q0, q0, q0, q0, q0, q0, q0, q0, q0, q0, q0, q0, q0, q0, q0, q0, q0, q0, q0, q0, q0, q0, q0, q0, q0, q0, q0, q0, q0, q0, q0, q0, q0, q0, q0, q0, q0, q0, q0, q0, q0, q0, q0, q0, q0, q0, q0, q0, q0, q0, q0, q0, q0, q0, q0, q0, q0, q0, q0, q0, q0, q0, q0, q0, q0, q0, q0, q0, q0, q0, q0, q0, q0, q0, q0, q0, q0, q0, q0, q0, q0, q0, q0, q0, q0, q0, q0, q0, q0, q0, q0, q0, q0, q0, q0, q0, q0, q0, q0, q0, q0, q0, q0, q0, q0, q0, q0, q0, q0, q0, q0, q0, q0, q0, q0, q0, q0, q0, q0, q0, q0, q0, q0, q0, q0, q0, q0, q0, q0, q0, q0, q0, q0, q0, q0, q0, q0, q0, q0, q0, q0, q0, q0, q0, q0, q0, q0, q0, q0, q0, q0, q0, q0, q0, q0, q0, q0, q0, q0, q0, q0, q0, q0, q0, q0, q0, q0, q0, q0, q0, q0, q0, q0, q0, q0, q0, q0, q0, q0, q0, q0, q0, q0, q0, q0, q0, q0, q0, q0, q0, q0, q0, q0, q0, q0, q0, q0, q0, q0, q0, q0, q0, q0, q0, q0, q0, q0, q0, q0, q0, q0, q0, q0, q0, q0, q0, q0, q0, q0, q0, q0, q0, q0, q0, q0, q0, q0, q0, q0, q0, q0, q0, q0, q0, q0, q0, q0, q0, q0, q0, q0, q0, q0, q0, q0, q0])), (28624, (ce [ns, ns, (I 0), ff, (I 0), (I 0), (I 0), (I 0), (I 0), (I 0), (I 0), ns])), (29256, (ce [q0, q3, q4, q5, q6, q7, q0, q0, q0, q0, q0, q0, q0, q0, q0, q0, q0, q0, q0, q0, q0, q0, q0, q0, q0, q0, q0, q0, q0, q0, q0, q0, q0, q0, q0, q0, q0, q0, q0, q0, q0, q0, q0, q0, q0, q0, q0, q0, q0, q0, q0, q0, q0, q0, q0, q0, q0, q0, q0, q0, q0, q0, q0, q0, q0, q0, q0, q0, q0, q0, q0, q0, q0, q0, q0, q0, q0, q0, q0, q0, q0, q0, q0, q0, q0, q0, q0, q0, q0, q0, q0, q0, q0, q0, q0, q0, q0, q0, q0, q0, q0, q0, q0, q0, q0, q0, q0, q0, q0, q0, q0, q0, q0, q0, q0, q0, q0, q0, q0, q0, q0, q0, q0, q0, q0, q0, q0, q0, q0, q0, q0, q0, q0, q0, q0, q0, q0, q0, q0, q0, q0, q0, q0, q0, q0, q0, q0, q0, q0, q0, q0, q0, q0, q0, q0, q0, q0, q0, q0, q0, q0, q0, q0, q0, q0, q0, q0, q0, q0, q0, q0, q0, q0, q0, q0, q0, q0, q0, q0, q0, q0, q0, q0, q0, q0, q0, q0, q0, q0, q0, q0, q0, q0, q0, q0, q0, q0, q0, q0, q0, q0, q0, q0, q0, q0, q0, q0, q0, q0, q0, q0, q0, q0, q0, q0, q0, q0, q0, q0, q0, q0, q0, q0, q0, q0, q0, q0, q0, q0, q0, q0, q0, q0, q0, q0, q0, q0, q0, q0, q0, q0, q0, q0, q0, q0, q0, q0, q0, q0, q0, q0, q0, q0, q0, q0, q0, q0, q0, q0, q0, q0, q0, q0, q0, q0, q0, q0, q0, q0, q0, q0, q0, q0, q0, q0, q0, q0, q0, q0, q0, q0, q0, q0, q0, q0, q0, q0, q0, q0, q0, q0, q0, q0, q0, q0, q0, q0, q0, q0, q0, q0, q0, q0, q0, q0, q0, q0, q0, q0, q0, q0, q0, q0, q0, q0, q0, q0, q0, q0, q0, q0, q0, q0, q0, q0, q0, q0, q0, q0, q0, q0, q0, q0, q0, q0, q0, q0, q0, q0, q0, q0, q0, q0, q0, q0, q0, q0, q0, q0, q0, q0, q0, q0, q0, q0, q0, q0, q0, q0, q0, q0, q0, q0, q0, q0, q0, q0, q0, q0, q0, q0, q0, q0, q0, q0, q0, q0, q0, q0, q0, q0, q0, q0, q0, q0, q0])), (28644, (ce [(I 2), (I 7), q1, (I 0), (I 0), q1, (I 0), (I 0), q1, (I 0), (I 0), q1, (I 0), (I 0), q1, (I 0), (I 0), q1, (I 0), (I 0), q1, (I 0), (I 0), q1, (I 0), (I 0), q1])), (28372, (ce [(I 0), (I 0), (I 0), (I 0), (I 0), ns])), (29260, (ce [(I 2), (I 7), q1, (I 0), (I 0), q1, (I 0), (I 0), q1, (I 0), (I 0), q1, (I 0), (I 0), q1, (I 0), (I 0), q1, (I 0), (I 0), q1, (I 0), (I 0), q1, (I 0), (I 0), q1])), (28642, (ce [(I 1), (I 0), (I 0), (I 0), (I 0), (U 28644 0 9 3)])), (28646, (ce [(U 29256 0 386 1), ns, (I 0), ff, (I 1), (I 5), (I 0), (I 4), (I 1), (I 2), (I 2), (U 29278 0 2 6), (U 28640 0 386 1), ns, (I 0), ff, (I 1), (I 5), (I 0), (I 4), (I 1), (I 1), (I 2), (U 28642 0 1 6)])), (28622, (ce (us 80 4074319417546615078560593528833559573140115724461531032143027924222079940836959418141388663223393330810048740150139856914575300666591234571194662124023356800129543112681209454202103623978057752))), (29278, (ce [(I 1), (I 0), (I 0), (I 0), (I 0), (U 29260 0 9 3), (I 3), (I 1), (I 99), (I 0), (I 0), (U 29263 0 9 3)]))] (del [] g31)
/-- the state behind piece 32; its texts -/
def s32 : St :=
⟨⟨⟨7, 49, false, none⟩,
  (n z52 (n (U 28622 0 80 1) (m (o (A 28646 0)) (n (A 28623 3) (o (U 28622 0 80 1)) e)) (n (I 80) (n (A 28646 0) (o (.tup [(I 80), (I 0)])) e) (m (o (I 80)) e))) (n (A 28623 0) (n (A 28624 0) (o z52) (n ff (o (.tup [(I 80), (I 0)])) e)) (n (I 0) (n (A 28623 0) (o (A 28646 0)) e) (m (o (I 0)) e)))),
  [.code (c 7 30)], [], .run⟩,
 [⟨⟨3, 237, false, none⟩,
  y24,
  [.reg (r 3 42174 2), .code (c 3 58558), .inBlock 1, .code (c 3 7358), .inLoop (c 3 1214), .inBlock 0, .code (c 3 254)], [], .run⟩],
 ⟨(p 29279), g32⟩,
 []⟩
def k32 : List (IC Blk) := [(c 7 30), (.region (r 3 42174 2)), (c 3 58558), .skip, (c 3 7358), (c 3 1214), .skip, (c 3 254)]
theorem h32 : codesSt s32.fr s32.cs s32.ls = k32 := by kernel_rfl
def y25 : T V := (n z67 (n (I 0) (n (A 29282 0) (n (A 29284 0) (o (I 0)) e) (o z68)) (m (o z67) (o (.fn 165 [(A 29282 0), (A 29283 0), (A 29284 0), (A 29296 0)])))) (n (I 0) (m (n (A 29296 0) (o (I 0)) e) (o (A 29295 0))) (n (A 29283 0) (o z68) (o (A 29295 0)))))
def y26 : T V := (n z67 (n (A 29280 0) (o (I 0)) e) (n (A 29281 0) (o z67) e))
def y27 : T V := (n (A 28646 0) (m (n (I 0) (o (A 28646 0)) e) (m (o (A 28646 0)) e)) (n (A 29279 0) (m (o (A 28646 0)) e) (m (o z67) e)))
def y28 : T V := (n z52 (n (U 28622 0 80 1) (m (n (A 28646 0) e (o ff)) (n (A 28623 3) (o (U 28622 0 80 1)) e)) (n (I 80) (n (A 28646 0) (n (.tup [(I 80), (I 0)]) (o (I 80)) e) (o ff)) (m (o (I 80)) e))) (n (A 28623 0) (n (A 28624 0) (n z52 (m (o ff) e) (n (I 0) (o (A 28646 0)) e)) (n ff (o (.tup [(I 80), (I 0)])) e)) (n (I 0) (n (A 28623 0) (n (A 28646 0) (o ff) e) e) (m (o (I 0)) e))))
/-- the memory behind piece 33 -/
def g33 : T Blk := upd [(29279, (ce [ns, ns, (I 0), ff, (I 0), (I 0), (I 0), (I 0), (I 0), (I 0), (I 0), ns])), (29295, (ce [(U 29288 0 386 1), ns, (I 0), ff, (I 1), (I 5), (I 0), (I 4), (I 1), (I 2), (I 2), (U 29290 0 2 6)])), (29283, (ce [ns, ns, (I 0), ff, (I 0), (I 0), (I 0), (I 0), (I 0), (I 0), (I 0), ns])), (29281, (ce [ns, ns, (I 0), ff, (I 0), (I 0), (I 0), (I 0), (I 0), (I 0), (I 0), ns])), (29280, (ce [(U 29256 0 386 1), ns, (I 0), ff, (I 1), (I 5), (I 0), (I 4), (I 1), (I 2), (I 2), (U 29278 0 2 6)])), (29296, (ce [(A 29295 0)])), (29288, (ce [q0, q3, q4, q5, q6, q7, q0, q0, q0, q0, q0, q0, q0, q0, q0, q0, q0, q0, q0, q0, q0, q0, q0, q0, q0, q0, q0, q0, q0, q0, q0, q0, q0, q0, q0, q0, q0, q0, q0, q0, q0, q0, q0, q0, q0, q0, q0, q0, q0, q0, q0, q0, q0, q0, q0, q0, q0, q0, q0, q0, q0, q0, q0, q0, q0, q0, q0, q0, q0, q0, q0, q0, q0, q0, q0, q0, q0, q0, q0, q0, q0, q0, q0, q0, q0, q0, q0, q0, q0, q0, q0, q0, q0, q0, q0, q0, q0, q0, q0, q0, q0, q0, q0, q0, q0, q0, q0, q0, q0, q0, q0, q0, q0, q0, q0, q0, q0, q0, q0, q0, q0, q0, q0, q0, q0, q0, q0, q0, q0, q0, q0, q0, q0, q0, q0, q0, q0, q0, q0, q0, q0, q0, q0, q0, q0, q0, q0, q0, q0, q0, q0, q0, q0, q0, q0, q0, q0, q0, q0, q0, q0, q0, q0, q0, q0, q0, q0, q0, q0, q0, q0, q0, q0, q0, q0, q0, q0, q0, q0, q0, q0, q0, q0, q0, q0, q0, q0, q0, q0, q0, q0, q0, q0, q0, q0, q0, q0, q0, q0, q0, q0, q0, q0, q0, q0, q0, q0, q0, q0, q0, q0, q0, q0, q0, q0, q0, q0, q0, q0, q0, q0, q0, q0, q0, q0, q0, q0, q0, q0, q0, q0, q0, q0, q0, q0, q0, q0, q0, q0, q0, q0, q0, q0, q0, q0, q0, q0, q0, q0, q0, q0, q0, q0, q0, q0, q0, q0, q0, q0, q0, q0, q0, q0, q0, q0, q0, q0, q0, q0, q0, q0, q0, q0, q0, q0, q0, q0, q0, q0, q0, q0, q0, q0, q0, q0, q0, q0, q0, q0, q0, q0, q0, q0, q0, q0, q0, q0, q0, q0, q0, q0, q0, q0, q0, q0, q0, q0, q0, q0, q0, q0, q0, q0, q0, q0, q0, q0, q0, q0, q0, q0, q0, q0, q0, q0, q0, q0, q0, q0, q0, q0, q0, q0, q0, q0, q0, q0, q0, q0, q0, q0, q0, q0, q0, q0, q0, q0, q0, q0, q0, q0, q0, q0, q0, q0, q0, q0, q0, q0, q0, q0, q0, q0, q0, q0, q0, q0, q0, q0, q0, q0, q0, q0, q0, q0, q0, q0, q0, q0, q0, q0, q0, q0, q0, q0, q0])), (30808, (ce [(I 1), (I 0), q19, (I 1), (I 0), q32, (I 1), (I 0), q33, (I 2), (I 0), (.str (st 24 44602511244162009099675493301960590846066689)), (I 3), (I 0), (.str (st 24 66989347881523629671253778717556468831224067))])), (29284, (ce [(I 0)])), (29292, (ce [(I 2), (I 7), q1, (I 0), (I 0), q1, (I 0), (I 0), q1, (I 0), (I 0), q1, (I 0), (I 0), q1, (I 0), (I 0), q1, (I 0), (I 0), q1, (I 0), (I 0), q1, (I 0), (I 0), q1])), (29282, (ce [(U 29256 0 386 1), ns, (I 0), ff, (I 1), (I 5), (I 0), (I 4), (I 1), (I 2), (I 2), (U 29278 0 2 6)])), (29290, (ce [(I 1), (I 0), (I 0), (I 0), (I 0), (U 29292 0 9 3), (I 3), (I 1), (I 99), (I 0), (I 0), (U 29294 0 9 3)])), (30810, (ce [(I 4), (I 1), (I 4), (I 0)])), (29294, (ce [(I 2), (I 7), q28, (I 0), (I 0), q1, (I 1), (I 0), q1, (I 0), (I 0), q1, (I 0), (I 0), q1, (I 0), (I 0), q1, (I 0), (I 0), q1, (I 0), (I 0), q1, (I 0), (I 0), q1]))] (del [] g32)
/-- the state behind piece 33; its texts -/
def s33 : St :=
⟨⟨⟨166, 164, false, none⟩,
  (n (A 29295 0) (n (I 0) (m (m (o (A 29295 3)) e) (n (A 29295 0) (o (I 0)) e)) (m (m (o tn) e) (n (A 29295 0) (o (.agg [(U 30808 0 5 3), (U 30810 0 2 2)])) e))) (n (I 0) (m (m (o ff) e) (n (A 29295 0) (o (I 0)) e)) (m (m (o (A 29295 0)) e) (o (A 29295 0))))),
  [.code (c 166 6)], [], .run⟩,
 [⟨⟨114, 22, false, none⟩,
  y25,
  [.reg (r 114 22 3), .code (c 114 30)], [.call 165 [(A 29282 0), (A 29283 0), (A 29284 0), (A 29296 0)]], .run⟩,
 ⟨⟨67, 8, false, none⟩,
  y26,
  [.reg (r 67 4 1), .code .ret], [], .run⟩,
 ⟨⟨26, 31, false, none⟩,
  y27,
  [.reg (r 26 4 4), .code (c 26 6)], [], .run⟩,
 ⟨⟨7, 49, false, none⟩,
  y28,
  [.reg (r 7 94 1), .code (c 7 126)], [], .run⟩,
 ⟨⟨3, 237, false, none⟩,
  y24,
  [.reg (r 3 42174 2), .code (c 3 58558), .inBlock 1, .code (c 3 7358), .inLoop (c 3 1214), .inBlock 0, .code (c 3 254)], [], .run⟩],
 ⟨(p 30811), g33⟩,
 []⟩
def k33 : List (IC Blk) := [(c 166 6), (.region (r 114 22 3)), (c 114 30), (.region (r 67 4 1)), .ret, (.region (r 26 4 4)), (c 26 6), (.region (r 7 94 1)), (c 7 126), (.region (r 3 42174 2)), (c 3 58558), .skip, (c 3 7358), (c 3 1214), .skip, (c 3 254)]
theorem h33 : codesSt s33.fr s33.cs s33.ls = k33 := by kernel_rfl
/-- the memory behind piece 34 -/
def g34 : T Blk := upd [(32323, (ce [(I 1), (I 2), q19, (I 1), (I 2), q32, (I 1), (I 2), q33, (I 2), (I 2), (.str (st 24 2923181681644241182313782133818950253042473500673)), (I 3), (I 2), (.str (st 24 2923204068480878543775890133520919485949732192515))])), (30811, (ce [(U 32323 0 5 3), (U 32325 0 2 2)])), (32325, (ce [(I 4), (I 1), (I 10), (I 2)]))] (del [29256, 28363, 29260, 28623, 29263, 28372, 30808, 30810, 29278, 29280, 28640, 29282, 28642, 28644, 28646, 28008, 28010, 28012] g33)
/-- the state behind piece 34; its texts -/
def s34 : St :=
⟨⟨⟨166, 164, false, none⟩,
  (n (A 29295 0) (n (I 0) (m (n (A 30811 0) (n (A 29295 3) (o (A 29295 0)) (o (.agg [(U 32323 0 5 3), (U 32325 0 2 2)]))) (n (A 29295 0) (o (A 29295 0)) e)) (n (A 29295 0) (n (I 0) (o (A 29295 0)) e) (n (I 2) (o (I 4)) e))) (m (m (n tn (o (A 29295 0)) e) (n (A 29295 4) (o (A 29295 0)) e)) (n (A 29295 0) (n (.agg [(U 30808 0 5 3), (U 30810 0 2 2)]) (o (I 0)) e) (n ff (o (I 0)) e)))) (n (I 0) (m (m (n ff (o (I 2)) e) (n (A 29295 0) (o (A 29295 0)) e)) (n (A 29295 0) (n (I 0) (o (A 29295 6)) e) (n (I 2) (o (I 6)) e))) (n (I 2) (m (n (A 29295 0) (o (A 29295 0)) e) (n (I 1) (o (A 29295 7)) e)) (n (A 29295 0) (n (A 29295 0) (o (I 2)) e) (n tn (o (I 0)) e))))),
  [.code (c 166 62)], [], .run⟩,
 [⟨⟨114, 22, false, none⟩,
  y25,
  [.reg (r 114 22 3), .code (c 114 30)], [.call 165 [(A 29282 0), (A 29283 0), (A 29284 0), (A 29296 0)]], .run⟩,
 ⟨⟨67, 8, false, none⟩,
  y26,
  [.reg (r 67 4 1), .code .ret], [], .run⟩,
 ⟨⟨26, 31, false, none⟩,
  y27,
  [.reg (r 26 4 4), .code (c 26 6)], [], .run⟩,
 ⟨⟨7, 49, false, none⟩,
  y28,
  [.reg (r 7 94 1), .code (c 7 126)], [], .run⟩,
 ⟨⟨3, 237, false, none⟩,
  y24,
  [.reg (r 3 42174 2), .code (c 3 58558), .inBlock 1, .code (c 3 7358), .inLoop (c 3 1214), .inBlock 0, .code (c 3 254)], [], .run⟩],
 ⟨(p 32326), g34⟩,
 []⟩
def k34 : List (IC Blk) := [(c 166 62), (.region (r 114 22 3)), (c 114 30), (.region (r 67 4 1)), .ret, (.region (r 26 4 4)), (c 26 6), (.region (r 7 94 1)), (c 7 126), (.region (r 3 42174 2)), (c 3 58558), .skip, (c 3 7358), (c 3 1214), .skip, (c 3 254)]
theorem h34 : codesSt s34.fr s34.cs s34.ls = k34 := by kernel_rfl
/-- the memory behind piece 35 -/
def g35 : T Blk := upd [(33103, (ce [(U 33095 0 386 1), ns, (I 0), ff, (I 2), (I 11), (I 0), (I 10), (I 1), (I 2), (I 2), (U 29290 0 2 6)])), (33095, (ce [q0, q3, q4, q5, q6, q7, q12, q34, q35, q36, q37, q38, q0, q0, q0, q0, q0, q0, q0, q0, q0, q0, q0, q0, q0, q0, q0, q0, q0, q0, q0, q0, q0, q0, q0, q0, q0, q0, q0, q0, q0, q0, q0, q0, q0, q0, q0, q0, q0, q0, q0, q0, q0, q0, q0, q0, q0, q0, q0, q0, q0, q0, q0, q0, q0, q0, q0, q0, q0, q0, q0, q0, q0, q0, q0, q0, q0, q0, q0, q0, q0, q0, q0, q0, q0, q0, q0, q0, q0, q0, q0, q0, q0, q0, q0, q0, q0, q0, q0, q0, q0, q0, q0, q0, q0, q0, q0, q0, q0, q0, q0, q0, q0, q0, q0, q0, q0, q0, q0, q0, q0, q0, q0, q0, q0, q0, q0, q0, q0, q0, q0, q0, q0, q0, q0, q0, q0, q0, q0, q0, q0, q0, q0, q0, q0, q0, q0, q0, q0, q0, q0, q0, q0, q0, q0, q0, q0, q0, q0, q0, q0, q0, q0, q0, q0, q0, q0, q0, q0, q0, q0, q0, q0, q0, q0, q0, q0, q0, q0, q0, q0, q0, q0, q0, q0, q0, q0, q0, q0, q0, q0, q0, q0, q0, q0, q0, q0, q0, q0, q0, q0, q0, q0, q0, q0, q0, q0, q0, q0, q0, q0, q0, q0, q0, q0, q0, q0, q0, q0, q0, q0, q0, q0, q0, q0, q0, q0, q0, q0, q0, q0, q0, q0, q0, q0, q0, q0, q0, q0, q0, q0, q0, q0, q0, q0, q0, q0, q0, q0, q0, q0, q0, q0, q0, q0, q0, q0, q0, q0, q0, q0, q0, q0, q0, q0, q0, q0, q0, q0, q0, q0, q0, q0, q0, q0, q0, q0, q0, q0, q0, q0, q0, q0, q0, q0, q0, q0, q0, q0, q0, q0, q0, q0, q0, q0, q0, q0, q0, q0, q0, q0, q0, q0, q0, q0, q0, q0, q0, q0, q0, q0, q0, q0, q0, q0, q0, q0, q0, q0, q0, q0, q0, q0, q0, q0, q0, q0, q0, q0, q0, q0, q0, q0, q0, q0, q0, q0, q0, q0, q0, q0, q0, q0, q0, q0, q0, q0, q0, q0, q0, q0, q0, q0, q0, q0, q0, q0, q0, q0, q0, q0, q0, q0, q0, q0, q0, q0, q0, q0, q0, q0, q0, q0, q0, q0, q0, q0, q0, q0, q0, q0, q0, q0, q0, q0, q0])), (33505, (ce (us 53 9624386929306190188949840068757480159484491353607065458250919069751701018587449865423042365491355116105285596077450224147103768))), (33128, (ce [(I 1), (I 0), (I 0), (I 0), (I 0), (U 33130 0 9 3), (I 3), (I 1), (I 99), (I 0), (I 0), (U 33132 0 9 3)])), (33132, (ce [(I 2), (I 7), q28, (I 0), (I 0), q1, (I 1), (I 0), q1, (I 0), (I 0), q1, (I 0), (I 0), q1, (I 0), (I 0), q1, (I 0), (I 0), q1, (I 0), (I 0), q1, (I 0), (I 0), q1])), (33106, (ce [(I 3), (I 1), (I 99), (I 0), (I 0), (U 29294 0 9 3)])), (33130, (ce [(I 2), (I 7), q1, (I 0), (I 0), q1, (I 0), (I 0), q1, (I 0), (I 0), q1, (I 0), (I 0), q1, (I 0), (I 0), q1, (I 0), (I 0), q1, (I 0), (I 0), q1, (I 0), (I 0), q1])), (33338, (ce [(U 33126 0 386 1), ns, (I 0), ff, (I 2), (I 11), (I 0), (I 10), (I 1), (I 2), (I 2), (U 33128 0 2 6)])), (33126, (ce [q0, q3, q4, q5, q6, q7, q12, q34, q35, q36, q37, q38, q0, q0, q0, q0, q0, q0, q0, q0, q0, q0, q0, q0, q0, q0, q0, q0, q0, q0, q0, q0, q0, q0, q0, q0, q0, q0, q0, q0, q0, q0, q0, q0, q0, q0, q0, q0, q0, q0, q0, q0, q0, q0, q0, q0, q0, q0, q0, q0, q0, q0, q0, q0, q0, q0, q0, q0, q0, q0, q0, q0, q0, q0, q0, q0, q0, q0, q0, q0, q0, q0, q0, q0, q0, q0, q0, q0, q0, q0, q0, q0, q0, q0, q0, q0, q0, q0, q0, q0, q0, q0, q0, q0, q0, q0, q0, q0, q0, q0, q0, q0, q0, q0, q0, q0, q0, q0, q0, q0, q0, q0, q0, q0, q0, q0, q0, q0, q0, q0, q0, q0, q0, q0, q0, q0, q0, q0, q0, q0, q0, q0, q0, q0, q0, q0, q0, q0, q0, q0, q0, q0, q0, q0, q0, q0, q0, q0, q0, q0, q0, q0, q0, q0, q0, q0, q0, q0, q0, q0, q0, q0, q0, q0, q0, q0, q0, q0, q0, q0, q0, q0, q0, q0, q0, q0, q0, q0, q0, q0, q0, q0, q0, q0, q0, q0, q0, q0, q0, q0, q0, q0, q0, q0, q0, q0, q0, q0, q0, q0, q0, q0, q0, q0, q0, q0, q0, q0, q0, q0, q0, q0, q0, q0, q0, q0, q0, q0, q0, q0, q0, q0, q0, q0, q0, q0, q0, q0, q0, q0, q0, q0, q0, q0, q0, q0, q0, q0, q0, q0, q0, q0, q0, q0, q0, q0, q0, q0, q0, q0, q0, q0, q0, q0, q0, q0, q0, q0, q0, q0, q0, q0, q0, q0, q0, q0, q0, q0, q0, q0, q0, q0, q0, q0, q0, q0, q0, q0, q0, q0, q0, q0, q0, q0, q0, q0, q0, q0, q0, q0, q0, q0, q0, q0, q0, q0, q0, q0, q0, q0, q0, q0, q0, q0, q0, q0, q0, q0, q0, q0, q0, q0, q0, q0, q0, q0, q0, q0, q0, q0, q0, q0, q0, q0, q0, q0, q0, q0, q0, q0, q0, q0, q0, q0, q0, q0, q0, q0, q0, q0, q0, q0, q0, q0, q0, q0, q0, q0, q0, q0, q0, q0, q0, q0, q0, q0, q0, q0, q0, q0, q0, q0, q0, q0, q0, q0, q0, q0, q0, q0, q0, q0, q0, q0, q0, q0]))] (del [32323, 32325, 28624, 30811, 29279, 29281, 29283, 29284, 29288, 29295, 29296] g34)
/-- the state behind piece 35; its texts -/
def s35 : St :=
⟨⟨⟨3, 237, false, none⟩,
  (n ff (n (A 24442 0) (n (A 24443 0) (n (U 33505 0 53 1) (n (I 0) (n tt (n z46 (o ff) e) (n (I 0) (o tn) e)) (n (S 24449 0 2 2) (n (I 9) (o (A 33103 9)) e) (n tn (o (I 8)) e))) (m (n z47 (n tt (o ff) e) (n ff (o ff) e)) (n z47 (n (I 0) (o ff) e) (n tt (o (I 3)) e)))) (n (I 0) (m (n z48 (n (S 24456 0 11 11) (o tt) e) (n (I 0) (o ff) e)) (n (S 24450 0 3 3) (n (A 24455 9) (o ff) e) (n z70 (o (U 28622 0 80 1)) e))) (n ff (n z49 (n (I 11) (o (I 80)) e) (n tn (o tn) e)) (n z47 (n z72 (o tn) e) (o tt))))) (n (S 24456 0 11 11) (n (A 33103 0) (m (n z46 (n (S 24454 0 3 3) (o (I 8)) e) (n (I 8) (o tn) e)) (n z17 (n (S 24455 0 11 11) (o ff) e) (n ff (o z74) e))) (m (n (S 24447 0 2 2) (n (I 9) (o (I 80)) e) (n tn (o tn) e)) (n z49 (n z52 (o tn) e) (n (I 8) (o ff) e)))) (n tt (m (n z50 (n (S 24455 0 11 11) (o z75) e) (n ff (o ff) e)) (n z51 (n (.tup [(U 33505 0 53 1), (I 0)]) (o ff) e) (n z70 (o z73) e))) (n z53 (n z47 (n tt (o ff) e) (n tn (o ff) e)) (n (S 24453 0 2 2) (n (I 80) (o tn) e) (o tn)))))) (n tt (n (S 24455 0 11 11) (n (I 0) (n (I 3) (n z47 (n z47 (o ff) e) (n (S 24456 0 11 11) (o tn) e)) (n z47 (n (.tup [(U 33505 0 53 1), (I 0)]) (o (I 2)) e) (n tn (o tt) e))) (m (n z47 (n tt (o ff) e) (n ff (o ff) e)) (n z54 (n z72 (o ff) e) (n tt (o (I 3)) e)))) (n (A 33106 0) (m (n (S 24445 0 1 1) (n (I 9) (o (A 33106 0)) e) (n ff (o ff) e)) (n z47 (n (S 24453 0 2 2) (o ff) e) (n z71 (o z74) e))) (n z53 (n (S 24448 0 2 2) (n tt (o ff) e) (n tn (o tn) e)) (n z55 (n z71 (o tn) e) (o tn))))) (n (I 9) (n (I 80) (m (n (S 24444 0 1 1) (n (S 24455 0 11 11) (o tt) e) (n (A 24456 8) (o tn) e)) (n z49 (n (I 9) (o ff) e) (n ff (o z71) e))) (n tt (n z47 (n (S 24456 0 11 11) (o (U 28622 0 80 1)) e) (n tn (o tn) e)) (n (S 24452 0 3 3) (n (U 28622 0 80 1) (o tn) e) (o tt)))) (n (A 33338 0) (m (n (S 24446 0 1 1) (n (I 11) (o z75) e) (n (I 0) (o (I 8)) e)) (n (S 24451 0 2 2) (n (U 33505 0 53 1) (o (I 8)) e) (n z69 (o (I 0)) e))) (n z52 (n z56 (n (I 8) (o ff) e) (n tn (o ff) e)) (n z47 (n (I 0) (o tn) e) (o tt))))))),
  [.code (c 3 25790), .inBlock 1, .code (c 3 7358), .inLoop (c 3 1214), .inBlock 0, .code (c 3 254)], [], .run⟩,
 [],
 ⟨(p 33506), g35⟩,
 []⟩
def k35 : List (IC Blk) := [(c 3 25790), .skip, (c 3 7358), (c 3 1214), .skip, (c 3 254)]
theorem h35 : codesSt s35.fr s35.cs s35.ls = k35 := by kernel_rfl
def y29 : T V := (n z77 (n (I 0) (n (A 33924 0) (n (A 33926 0) (o (I 0)) e) (o z78)) (m (o z77) (o (.fn 165 [(A 33924 0), (A 33925 0), (A 33926 0), (A 33938 0)])))) (n (I 0) (m (n (A 33938 0) (o (I 0)) e) (o (A 33937 0))) (n (A 33925 0) (o z78) (o (A 33937 0)))))
def y30 : T V := (n z77 (n (A 33922 0) (o (I 0)) e) (n (A 33923 0) (o z77) e))
def y31 : T V := (n (A 33529 0) (m (n (I 0) (o (A 33529 0)) e) (m (o (A 33529 0)) e)) (n (A 33921 0) (m (o (A 33529 0)) e) (m (o z77) e)))
def y32 : T V := (n z52 (n (U 33505 0 53 1) (m (n (A 33529 0) e (o ff)) (n (A 33506 3) (o (U 33505 0 53 1)) e)) (n (I 53) (n (A 33529 0) (n (.tup [(I 53), (I 0)]) (o (I 53)) e) (o ff)) (m (o (I 53)) e))) (n (A 33506 0) (n (A 33507 0) (n z52 (m (o ff) e) (n (I 0) (o (A 33529 0)) e)) (n ff (o (.tup [(I 53), (I 0)])) e)) (n (I 0) (n (A 33506 0) (n (A 33529 0) (o ff) e) e) (m (o (I 0)) e))))
def y33 : T V := (n ff (n (A 24442 0) (n (A 24443 0) (n (U 33505 0 53 1) (n (I 0) (n tt (n z46 (o ff) e) (n (I 0) (o tn) e)) (n (S 24449 0 2 2) (n (I 9) (o (A 33103 9)) e) (n tn (o (I 8)) e))) (m (n z47 (n tt (o ff) e) (n ff (o ff) e)) (n z47 (n (I 0) (o ff) e) (n tt (o (I 3)) e)))) (n (I 0) (m (n z48 (n (S 24456 0 11 11) (o tt) e) (n (I 0) (o ff) e)) (n (S 24450 0 3 3) (n (A 24455 9) (o ff) e) (n z70 (o (U 28622 0 80 1)) e))) (n ff (n z49 (n (I 11) (o (I 80)) e) (n tn (o tn) e)) (n z47 (n z72 (o tn) e) (o tt))))) (n (S 24456 0 11 11) (n (A 33103 0) (m (n z46 (n (S 24454 0 3 3) (o (I 8)) e) (n (I 8) (o tn) e)) (n z17 (n (S 24455 0 11 11) (o ff) e) (n ff (o z74) e))) (m (n (S 24447 0 2 2) (n (I 9) (o (I 80)) e) (n tn (o tn) e)) (n z49 (n z52 (o tn) e) (n (I 8) (o ff) e)))) (n tt (m (n z50 (n (S 24455 0 11 11) (o z75) e) (n ff (o ff) e)) (n z51 (n (.tup [(U 33505 0 53 1), (I 0)]) (o ff) e) (n z70 (o z73) e))) (n z53 (n z47 (n tt (o ff) e) (n tn (o ff) e)) (n (S 24453 0 2 2) (n (I 80) (o tn) e) (o tn)))))) (n tt (n (S 24455 0 11 11) (n (I 0) (n (I 3) (n z47 (n z47 (o ff) e) (n (S 24456 0 11 11) (o tn) e)) (n z47 (n (.tup [(U 33505 0 53 1), (I 0)]) (o (I 2)) e) (n tn (o tt) e))) (m (n z47 (n tt (o ff) e) (n ff (o ff) e)) (n z54 (n z72 (o ff) e) (n tt (o (I 3)) e)))) (n (A 33106 0) (m (n (S 24445 0 1 1) (n (I 9) (o (A 33106 0)) e) (n ff (o ff) e)) (n z47 (n (S 24453 0 2 2) (o ff) e) (n z71 (o z74) e))) (n z53 (n (S 24448 0 2 2) (n tt (o ff) e) (n tn (o tn) e)) (n z55 (n z71 (o tn) e) (o tn))))) (n (I 9) (n (I 80) (m (n (S 24444 0 1 1) (n (S 24455 0 11 11) (o tt) e) (n (A 24456 8) (o tn) e)) (n z49 (n (I 9) (o ff) e) (n ff (o z71) e))) (n tt (n z47 (n (S 24456 0 11 11) (o (U 28622 0 80 1)) e) (n tn (o tn) e)) (n (S 24452 0 3 3) (n (U 33505 0 53 1) (o tn) e) (o tt)))) (n (A 33338 0) (m (n (S 24446 0 1 1) (n (I 11) (o z75) e) (n (I 0) (o (I 8)) e)) (n (S 24451 0 2 2) (n (U 33505 0 53 1) (o (I 8)) e) (n z69 (o (I 0)) e))) (n z52 (n z56 (n (I 8) (o ff) e) (n tn (o ff) e)) (n z47 (n (I 0) (o tn) e) (o tt)))))))
/-- the memory behind piece 36 -/
def g36 : T Blk := upd [(33871, (ce [(I 1), (I 0), (I 0), (I 0), (I 0), (U 33873 0 9 3), (I 2), (I 2), (I 99), (I 0), (I 53), (U 33878 0 9 3)])), (33943, (.map [((.agg [(I 1), q21]), (.agg [(I 2), (I 1)]), 0), ((.agg [(I 2), q22]), (.agg [(I 3), (I 1)]), 1), ((.agg [(I 3), q23]), (.agg [(I 4), (I 1)]), 2), ((.agg [(I 4), q39]), (.agg [(I 5), (I 1)]), 3)] 4)), (33527, (ce [(I 2), (I 7), q1, (I 0), (I 0), q1, (I 0), (I 0), q1, (I 0), (I 0), q1, (I 0), (I 0), q1, (I 0), (I 0), q1, (I 0), (I 0), q1, (I 0), (I 0), q1, (I 0), (I 0), q1])), (33923, (ce [ns, ns, (I 0), ff, (I 0), (I 0), (I 0), (I 0), (I 0), (I 0), (I 0), ns])), (33507, (ce [ns, ns, (I 0), ff, (I 0), (I 0), (I 0), (I 0), (I 0), (I 0), (I 0), ns])), (33939, (ce [ns, ns])), (33523, (ce [q0, q3, q4, q5, q6, q7, q0, q0, q0, q0, q0, q0, q0, q0, q0, q0, q0, q0, q0, q0, q0, q0, q0, q0, q0, q0, q0, q0, q0, q0, q0, q0, q0, q0, q0, q0, q0, q0, q0, q0, q0, q0, q0, q0, q0, q0, q0, q0, q0, q0, q0, q0, q0, q0, q0, q0, q0, q0, q0, q0, q0, q0, q0, q0, q0, q0, q0, q0, q0, q0, q0, q0, q0, q0, q0, q0, q0, q0, q0, q0, q0, q0, q0, q0, q0, q0, q0, q0, q0, q0, q0, q0, q0, q0, q0, q0, q0, q0, q0, q0, q0, q0, q0, q0, q0, q0, q0, q0, q0, q0, q0, q0, q0, q0, q0, q0, q0, q0, q0, q0, q0, q0, q0, q0, q0, q0, q0, q0, q0, q0, q0, q0, q0, q0, q0, q0, q0, q0, q0, q0, q0, q0, q0, q0, q0, q0, q0, q0, q0, q0, q0, q0, q0, q0, q0, q0, q0, q0, q0, q0, q0, q0, q0, q0, q0, q0, q0, q0, q0, q0, q0, q0, q0, q0, q0, q0, q0, q0, q0, q0, q0, q0, q0, q0, q0, q0, q0, q0, q0, q0, q0, q0, q0, q0, q0, q0, q0, q0, q0, q0, q0, q0, q0, q0, q0, q0, q0, q0, q0, q0, q0, q0, q0, q0, q0, q0, q0, q0, q0, q0, q0, q0, q0, q0, q0, q0, q0, q0, q0, q0, q0, q0, q0, q0, q0, q0, q0, q0, q0, q0, q0, q0, q0, q0, q0, q0, q0, q0, q0, q0, q0, q0, q0, q0, q0, q0, q0, q0, q0, q0, q0, q0, q0, q0, q0, q0, q0, q0, q0, q0, q0, q0, q0, q0, q0, q0, q0, q0, q0, q0, q0, q0, q0, q0, q0, q0, q0, q0, q0, q0, q0, q0, q0, q0, q0, q0, q0, q0, q0, q0, q0, q0, q0, q0, q0, q0, q0, q0, q0, q0, q0, q0, q0, q0, q0, q0, q0, q0, q0, q0, q0, q0, q0, q0, q0, q0, q0, q0, q0, q0, q0, q0, q0, q0, q0, q0, q0, q0, q0, q0, q0, q0, q0, q0, q0, q0, q0, q0, q0, q0, q0, q0, q0, q0, q0, q0, q0, q0, q0, q0, q0, q0, q0, q0, q0, q0, q0, q0, q0, q0, q0, q0, q0, q0, q0, q0, q0, q0, q0, q0, q0, q0, q0, q0, q0, q0])), (33921, (ce [ns, ns, (I 0), ff, (I 0), (I 0), (I 0), (I 0), (I 0), (I 0), (I 0), ns])), (33937, (ce [(U 33930 0 386 1), ns, (I 0), ff, (I 1), (I 5), (I 0), (I 4), (I 1), (I 1), (I 2), (U 33932 0 2 6)])), (33873, (ce [(I 2), (I 7), q1, (I 0), (I 0), q1, (I 0), (I 0), q1, (I 0), (I 0), q1, (I 0), (I 0), q1, (I 0), (I 0), q1, (I 0), (I 0), q1, (I 0), (I 0), q1, (I 0), (I 0), q1])), (33529, (ce [(U 33869 0 386 1), ns, (I 0), ff, (I 1), (I 5), (I 0), (I 4), (I 1), (I 1), (I 2), (U 33871 0 2 6), (U 33523 0 386 1), ns, (I 0), ff, (I 1), (I 5), (I 0), (I 4), (I 1), (I 1), (I 2), (U 33525 0 1 6)])), (33925, (ce [ns, ns, (I 0), ff, (I 0), (I 0), (I 0), (I 0), (I 0), (I 0), (I 0), ns])), (33525, (ce [(I 1), (I 0), (I 0), (I 0), (I 0), (U 33527 0 9 3)])), (33869, (ce [q0, q3, q4, q5, q6, q7, q0, q0, q0, q0, q0, q0, q0, q0, q0, q0, q0, q0, q0, q0, q0, q0, q0, q0, q0, q0, q0, q0, q0, q0, q0, q0, q0, q0, q0, q0, q0, q0, q0, q0, q0, q0, q0, q0, q0, q0, q0, q0, q0, q0, q0, q0, q0, q0, q0, q0, q0, q0, q0, q0, q0, q0, q0, q0, q0, q0, q0, q0, q0, q0, q0, q0, q0, q0, q0, q0, q0, q0, q0, q0, q0, q0, q0, q0, q0, q0, q0, q0, q0, q0, q0, q0, q0, q0, q0, q0, q0, q0, q0, q0, q0, q0, q0, q0, q0, q0, q0, q0, q0, q0, q0, q0, q0, q0, q0, q0, q0, q0, q0, q0, q0, q0, q0, q0, q0, q0, q0, q0, q0, q0, q0, q0, q0, q0, q0, q0, q0, q0, q0, q0, q0, q0, q0, q0, q0, q0, q0, q0, q0, q0, q0, q0, q0, q0, q0, q0, q0, q0, q0, q0, q0, q0, q0, q0, q0, q0, q0, q0, q0, q0, q0, q0, q0, q0, q0, q0, q0, q0, q0, q0, q0, q0, q0, q0, q0, q0, q0, q0, q0, q0, q0, q0, q0, q0, q0, q0, q0, q0, q0, q0, q0, q0, q0, q0, q0, q0, q0, q0, q0, q0, q0, q0, q0, q0, q0, q0, q0, q0, q0, q0, q0, q0, q0, q0, q0, q0, q0, q0, q0, q0, q0, q0, q0, q0, q0, q0, q0, q0, q0, q0, q0, q0, q0, q0, q0, q0, q0, q0, q0, q0, q0, q0, q0, q0, q0, q0, q0, q0, q0, q0, q0, q0, q0, q0, q0, q0, q0, q0, q0, q0, q0, q0, q0, q0, q0, q0, q0, q0, q0, q0, q0, q0, q0, q0, q0, q0, q0, q0, q0, q0, q0, q0, q0, q0, q0, q0, q0, q0, q0, q0, q0, q0, q0, q0, q0, q0, q0, q0, q0, q0, q0, q0, q0, q0, q0, q0, q0, q0, q0, q0, q0, q0, q0, q0, q0, q0, q0, q0, q0, q0, q0, q0, q0, q0, q0, q0, q0, q0, q0, q0, q0, q0, q0, q0, q0, q0, q0, q0, q0, q0, q0, q0, q0, q0, q0, q0, q0, q0, q0, q0, q0, q0, q0, q0, q0, q0, q0, q0, q0, q0, q0, q0, q0, q0, q0, q0, q0, q0, q0, q0, q0, q0, q0, q0, q0, q0])), (33936, (ce [(I 2), (I 3), q1, (I 0), (I 0), q1, (I 0), (I 0), q1, (I 0), (I 0), q1, (I 0), (I 0), q1, (I 0), (I 0), q1, (I 0), (I 0), q1, (I 0), (I 0), q1, (I 0), (I 0), q1])), (33944, (ce [ns, ns, (I 0), (I 0), (.map (p 33943)), ff])), (33924, (ce [(U 33869 0 386 1), ns, (I 0), ff, (I 1), (I 5), (I 0), (I 4), (I 1), (I 1), (I 2), (U 33871 0 2 6)])), (33940, (ce [ns, ns])), (33932, (ce [(I 1), (I 0), (I 0), (I 0), (I 0), (U 33934 0 9 3), (I 2), (I 2), (I 99), (I 0), (I 53), (U 33936 0 9 3)])), (33922, (ce [(U 33869 0 386 1), ns, (I 0), ff, (I 1), (I 5), (I 0), (I 4), (I 1), (I 1), (I 2), (U 33871 0 2 6)])), (33506, (ce [(U 24440 0 386 1), ns, (I 0), ff, (I 1), (I 5), (I 0), (I 4), (I 1), (I 1), (I 2), (S 23818 0 1 1)])), (33938, (ce [(A 33937 0)])), (33930, (ce [q0, q3, q4, q5, q6, q7, q0, q0, q0, q0, q0, q0, q0, q0, q0, q0, q0, q0, q0, q0, q0, q0, q0, q0, q0, q0, q0, q0, q0, q0, q0, q0, q0, q0, q0, q0, q0, q0, q0, q0, q0, q0, q0, q0, q0, q0, q0, q0, q0, q0, q0, q0, q0, q0, q0, q0, q0, q0, q0, q0, q0, q0, q0, q0, q0, q0, q0, q0, q0, q0, q0, q0, q0, q0, q0, q0, q0, q0, q0, q0, q0, q0, q0, q0, q0, q0, q0, q0, q0, q0, q0, q0, q0, q0, q0, q0, q0, q0, q0, q0, q0, q0, q0, q0, q0, q0, q0, q0, q0, q0, q0, q0, q0, q0, q0, q0, q0, q0, q0, q0, q0, q0, q0, q0, q0, q0, q0, q0, q0, q0, q0, q0, q0, q0, q0, q0, q0, q0, q0, q0, q0, q0, q0, q0, q0, q0, q0, q0, q0, q0, q0, q0, q0, q0, q0, q0, q0, q0, q0, q0, q0, q0, q0, q0, q0, q0, q0, q0, q0, q0, q0, q0, q0, q0, q0, q0, q0, q0, q0, q0, q0, q0, q0, q0, q0, q0, q0, q0, q0, q0, q0, q0, q0, q0, q0, q0, q0, q0, q0, q0, q0, q0, q0, q0, q0, q0, q0, q0, q0, q0, q0, q0, q0, q0, q0, q0, q0, q0, q0, q0, q0, q0, q0, q0, q0, q0, q0, q0, q0, q0, q0, q0, q0, q0, q0, q0, q0, q0, q0, q0, q0, q0, q0, q0, q0, q0, q0, q0, q0, q0, q0, q0, q0, q0, q0, q0, q0, q0, q0, q0, q0, q0, q0, q0, q0, q0, q0, q0, q0, q0, q0, q0, q0, q0, q0, q0, q0, q0, q0, q0, q0, q0, q0, q0, q0, q0, q0, q0, q0, q0, q0, q0, q0, q0, q0, q0, q0, q0, q0, q0, q0, q0, q0, q0, q0, q0, q0, q0, q0, q0, q0, q0, q0, q0, q0, q0, q0, q0, q0, q0, q0, q0, q0, q0, q0, q0, q0, q0, q0, q0, q0, q0, q0, q0, q0, q0, q0, q0, q0, q0, q0, q0, q0, q0, q0, q0, q0, q0, q0, q0, q0, q0, q0, q0, q0, q0, q0, q0, q0, q0, q0, q0, q0, q0, q0, q0, q0, q0, q0, q0, q0, q0, q0, q0, q0, q0, q0, q0, q0, q0, q0, q0, q0, q0, q0, q0])), (33926, (ce [(I 0)])), (33942, (ce [ns, ns])), (33878, (ce [(I 2), (I 3), q1, (I 0), (I 0), q1, (I 0), (I 0), q1, (I 0), (I 0), q1, (I 0), (I 0), q1, (I 0), (I 0), q1, (I 0), (I 0), q1, (I 0), (I 0), q1, (I 0), (I 0), q1])), (33934, (ce [(I 2), (I 7), q1, (I 0), (I 0), q1, (I 0), (I 0), q1, (I 0), (I 0), q1, (I 0), (I 0), q1, (I 0), (I 0), q1, (I 0), (I 0), q1, (I 0), (I 0), q1, (I 0), (I 0), q1]))] (del [] g35)
/-- the state behind piece 36; its texts -/
def s36 : St :=
⟨⟨⟨248, 70, false, none⟩,
  (n z76 (n (I 5) (n (I 0) (n (A 33941 0) (n ff (o (I 0)) e) (n (I 0) (o (A 33944 0)) e)) (m (n (U 33932 0 2 6) (o (I 0)) e) (n (I 0) (o (I 0)) e))) (n (I 0) (m (m (o ff) e) (n ff (o z76) e)) (m (n ff (o (.map (p 33943))) e) (n ff (o tn) e)))) (n (I 0) (n (I 0) (m (n (A 33944 0) (o ff) e) (n ff (o (A 33944 0)) e)) (m (n (I 2) (o (I 0)) e) (n ff (o (I 0)) e))) (n (U 33932 0 2 6) (m e (n ff (o (I 5)) e)) (n (A 33942 0) (n ff (o (.agg [ns, ns, (I 0), (I 0), (.map (p 33943)), ff])) e) (o ff))))),
  [.code (c 248 30)], [], .run⟩,
 [⟨⟨214, 40, false, none⟩,
  (n (A 33937 0) (n (I 0) (n (I 0) (m (n (A 33937 0) (o (A 33937 11)) e) (o (I 5))) (n (A 33940 0) (o (A 33937 0)) (o (I 0)))) (m (m (o (A 33937 0)) (o (I 0))) (m (o (A 33937 0)) (o (A 33937 0))))) (n (I 0) (n (I 0) (m (n (A 33937 0) (o (U 33932 0 2 6)) e) (o (I 0))) (m (o (A 33937 0)) (o (A 33937 0)))) (m (n (A 33939 0) (o z76) (o (I 0))) (n (A 33937 0) (o (A 33937 5)) (o (A 33937 0)))))),
  [.reg (r 214 4 20), .code (c 214 6)], [], .run⟩,
 ⟨⟨166, 164, false, none⟩,
  (n (A 33937 0) (n (I 0) (m (m (o (A 33937 3)) e) (n (A 33937 0) (o (I 0)) e)) (m (m (o tn) e) (o (A 33937 0)))) (n (I 0) (m (m (o ff) e) (n (A 33937 0) (o (I 0)) e)) (m (m (o (A 33937 0)) e) (o (A 33937 0))))),
  [.reg (r 166 4 3), .code (c 166 6)], [], .run⟩,
 ⟨⟨114, 22, false, none⟩,
  y29,
  [.reg (r 114 22 3), .code (c 114 30)], [.call 165 [(A 33924 0), (A 33925 0), (A 33926 0), (A 33938 0)]], .run⟩,
 ⟨⟨67, 8, false, none⟩,
  y30,
  [.reg (r 67 4 1), .code .ret], [], .run⟩,
 ⟨⟨26, 31, false, none⟩,
  y31,
  [.reg (r 26 4 4), .code (c 26 6)], [], .run⟩,
 ⟨⟨7, 49, false, none⟩,
  y32,
  [.reg (r 7 94 1), .code (c 7 126)], [], .run⟩,
 ⟨⟨3, 237, false, none⟩,
  y33,
  [.reg (r 3 42174 2), .code (c 3 58558), .inBlock 1, .code (c 3 7358), .inLoop (c 3 1214), .inBlock 0, .code (c 3 254)], [], .run⟩],
 ⟨(p 34588), g36⟩,
 []⟩
def k36 : List (IC Blk) := [(c 248 30), (.region (r 214 4 20)), (c 214 6), (.region (r 166 4 3)), (c 166 6), (.region (r 114 22 3)), (c 114 30), (.region (r 67 4 1)), .ret, (.region (r 26 4 4)), (c 26 6), (.region (r 7 94 1)), (c 7 126), (.region (r 3 42174 2)), (c 3 58558), .skip, (c 3 7358), (c 3 1214), .skip, (c 3 254)]
theorem h36 : codesSt s36.fr s36.cs s36.ls = k36 := by kernel_rfl
/-- the memory behind piece 37 -/
def g37 : T Blk := upd [(35249, (.map [((.agg [(I 1), q21]), (.agg [(I 2), (I 1)]), 0), ((.agg [(I 2), q22]), (.agg [(I 3), (I 1)]), 1), ((.agg [(I 3), q23]), (.agg [(I 4), (I 1)]), 2), ((.agg [(I 4), q39]), (.agg [(I 5), (I 1)]), 3)] 4)), (35245, (ce [ns, ns])), (35248, (ce [ns, ns])), (35244, (ce [ns, ns])), (35250, (ce [ns, ns, (I 2), (I 6), (.map (p 35249)), ff])), (35246, (ce [ns, ns]))] (del [33922, 33924, 33939, 33940, 33942, 33943, 33944, 33869, 33871, 33873, 33878, 33506, 33523, 33525, 33527, 33529] g36)
/-- the state behind piece 37; its texts -/
def s37 : St :=
⟨⟨⟨248, 70, false, none⟩,
  (n z76 (n (I 5) (n (I 6) (n (A 35247 0) (n ff (o (I 6)) e) (n (I 2) (o (A 35250 0)) e)) (m (n (U 33932 0 2 6) (o (I 2)) e) (n (I 2) (o (I 0)) e))) (n (I 0) (m (m (o ff) e) (n ff (o z76) e)) (m (n ff (o (.map (p 35249))) e) (n ff (o tn) e)))) (n (I 2) (n (I 0) (m (n (A 35250 0) (o ff) e) (n ff (o (A 35250 0)) e)) (m (n (I 2) (o (I 6)) e) (n ff (o (I 0)) e))) (n (U 33932 0 2 6) (m e (n ff (o (I 5)) e)) (n (A 35248 0) (n ff (o (.agg [ns, ns, (I 2), (I 6), (.map (p 35249)), ff])) e) (o ff))))),
  [.code (c 248 30)], [], .run⟩,
 [⟨⟨214, 40, false, none⟩,
  (n (A 33937 0) (n (I 2) (n (I 0) (m (n (A 33937 0) (o (A 33937 11)) e) (o (I 5))) (n (A 35246 0) (o (A 33937 0)) (o (I 0)))) (m (m (o (A 33937 0)) (o (I 6))) (m (o (A 33937 0)) (o (A 33937 0))))) (n (I 6) (n (I 0) (m (n (A 33937 0) (o (U 33932 0 2 6)) e) (o (I 2))) (m (o (A 33937 0)) (o (A 33937 0)))) (m (n (A 35245 0) (o z76) (o (I 0))) (n (A 33937 0) (o (A 33937 5)) (o (A 33937 0)))))),
  [.reg (r 214 4 20), .code (c 214 6)], [], .run⟩,
 ⟨⟨166, 164, false, none⟩,
  (n (A 33937 0) (n (I 0) (m (n (A 35244 0) (n (A 33937 3) (o (A 33937 0)) e) (n (A 33937 0) (o (A 33937 0)) e)) (n (A 33937 0) (n (I 0) (o (A 33937 0)) e) (n (I 2) (o (I 4)) e))) (m (m (n tn (o (A 33937 0)) e) (n (A 33937 4) (o (A 33937 0)) e)) (n (A 33937 0) (n (.agg [(U 35241 0 3 3), (U 35243 0 2 2)]) (o (I 0)) e) (n ff (o (I 0)) e)))) (n (I 0) (m (m (n ff (o (I 2)) e) (n (A 33937 0) (o (A 33937 0)) e)) (n (A 33937 0) (n (I 0) (o (A 33937 6)) e) (n (I 2) (o (I 6)) e))) (n (I 2) (m (n (A 33937 0) (o (A 33937 0)) e) (n (I 1) (o (A 33937 7)) e)) (n (A 33937 0) (n (A 33937 0) (o (I 2)) e) (n tn (o (I 0)) e))))),
  [.reg (r 166 46 19), .code (c 166 62)], [], .run⟩,
 ⟨⟨114, 22, false, none⟩,
  y29,
  [.reg (r 114 22 3), .code (c 114 30)], [.call 165 [(A 33924 0), (A 33925 0), (A 33926 0), (A 33938 0)]], .run⟩,
 ⟨⟨67, 8, false, none⟩,
  y30,
  [.reg (r 67 4 1), .code .ret], [], .run⟩,
 ⟨⟨26, 31, false, none⟩,
  y31,
  [.reg (r 26 4 4), .code (c 26 6)], [], .run⟩,
 ⟨⟨7, 49, false, none⟩,
  y32,
  [.reg (r 7 94 1), .code (c 7 126)], [], .run⟩,
 ⟨⟨3, 237, false, none⟩,
  y33,
  [.reg (r 3 42174 2), .code (c 3 58558), .inBlock 1, .code (c 3 7358), .inLoop (c 3 1214), .inBlock 0, .code (c 3 254)], [], .run⟩],
 ⟨(p 35894), g37⟩,
 []⟩
def k37 : List (IC Blk) := [(c 248 30), (.region (r 214 4 20)), (c 214 6), (.region (r 166 46 19)), (c 166 62), (.region (r 114 22 3)), (c 114 30), (.region (r 67 4 1)), .ret, (.region (r 26 4 4)), (c 26 6), (.region (r 7 94 1)), (c 7 126), (.region (r 3 42174 2)), (c 3 58558), .skip, (c 3 7358), (c 3 1214), .skip, (c 3 254)]
theorem h37 : codesSt s37.fr s37.cs s37.ls = k37 := by kernel_rfl
/-- the memory behind piece 38 -/
def g38 : T Blk := upd [(37249, (ce [q0, q3, q4, q5, q6, q7, (.str (st 64 14203993223728889594369)), (.str (st 64 2417962319983971676455426)), (.str (st 64 822796242892679684273564029201684955556869082955562378057482755)), (.str (st 64 49042850463061784274256814352453094445835232849235542532)), q0, q0, q0, q0, q0, q0, q0, q0, q0, q0, q0, q0, q0, q0, q0, q0, q0, q0, q0, q0, q0, q0, q0, q0, q0, q0, q0, q0, q0, q0, q0, q0, q0, q0, q0, q0, q0, q0, q0, q0, q0, q0, q0, q0, q0, q0, q0, q0, q0, q0, q0, q0, q0, q0, q0, q0, q0, q0, q0, q0, q0, q0, q0, q0, q0, q0, q0, q0, q0, q0, q0, q0, q0, q0, q0, q0, q0, q0, q0, q0, q0, q0, q0, q0, q0, q0, q0, q0, q0, q0, q0, q0, q0, q0, q0, q0, q0, q0, q0, q0, q0, q0, q0, q0, q0, q0, q0, q0, q0, q0, q0, q0, q0, q0, q0, q0, q0, q0, q0, q0, q0, q0, q0, q0, q0, q0, q0, q0, q0, q0, q0, q0, q0, q0, q0, q0, q0, q0, q0, q0, q0, q0, q0, q0, q0, q0, q0, q0, q0, q0, q0, q0, q0, q0, q0, q0, q0, q0, q0, q0, q0, q0, q0, q0, q0, q0, q0, q0, q0, q0, q0, q0, q0, q0, q0, q0, q0, q0, q0, q0, q0, q0, q0, q0, q0, q0, q0, q0, q0, q0, q0, q0, q0, q0, q0, q0, q0, q0, q0, q0, q0, q0, q0, q0, q0, q0, q0, q0, q0, q0, q0, q0, q0, q0, q0, q0, q0, q0, q0, q0, q0, q0, q0, q0, q0, q0, q0, q0, q0, q0, q0, q0, q0, q0, q0, q0, q0, q0, q0, q0, q0, q0, q0, q0, q0, q0, q0, q0, q0, q0, q0, q0, q0, q0, q0, q0, q0, q0, q0, q0, q0, q0, q0, q0, q0, q0, q0, q0, q0, q0, q0, q0, q0, q0, q0, q0, q0, q0, q0, q0, q0, q0, q0, q0, q0, q0, q0, q0, q0, q0, q0, q0, q0, q0, q0, q0, q0, q0, q0, q0, q0, q0, q0, q0, q0, q0, q0, q0, q0, q0, q0, q0, q0, q0, q0, q0, q0, q0, q0, q0, q0, q0, q0, q0, q0, q0, q0, q0, q0, q0, q0, q0, q0, q0, q0, q0, q0, q0, q0, q0, q0, q0, q0, q0, q0, q0, q0, q0, q0, q0, q0, q0, q0, q0, q0, q0, q0, q0, q0, q0, q0, q0, q0, q0, q0, q0, q0, q0, q0, q0, q0, q0, q0, q0, q0, q0])), (37257, (ce [(U 37249 0 386 1), ns, (I 0), ff, (I 2), (I 9), (I 0), (I 8), (I 1), (I 1), (I 2), (U 33932 0 2 6)]))] (del [33921, 33923, 33925, 33926, 33930, 33937, 33938, 35244, 35245, 35246, 35248, 35249, 35250, 33103, 33106, 33507] g37)
/-- the state behind piece 38; its texts -/
def s38 : St :=
⟨⟨⟨3, 237, false, none⟩,
  (n ff (n (A 24442 0) (n (A 24443 0) (n (U 33505 0 53 1) (n (I 0) (n tt (n z46 (o ff) e) (n (I 0) (o tn) e)) (n (S 24449 0 2 2) (n (I 9) (o (A 33103 9)) e) (n tn (o (I 8)) e))) (m (n z47 (n tt (o ff) e) (n ff (o ff) e)) (n z47 (n (I 0) (o ff) e) (n tt (o (I 3)) e)))) (n (I 0) (m (n z48 (n (S 24456 0 11 11) (o tt) e) (n (I 0) (o ff) e)) (n (S 24450 0 3 3) (n (A 24455 9) (o ff) e) (n z70 (o (U 28622 0 80 1)) e))) (n ff (n z49 (n (I 11) (o (I 80)) e) (n tn (o tn) e)) (n z47 (n z80 (o tn) e) (o tt))))) (n (S 24456 0 11 11) (n (A 37257 0) (m (n z46 (n (S 24454 0 3 3) (o (I 8)) e) (n (I 8) (o tn) e)) (n z17 (n (S 24455 0 11 11) (o ff) e) (n ff (o z74) e))) (m (n (S 24447 0 2 2) (n (I 9) (o (I 80)) e) (n tn (o tn) e)) (n z49 (n z52 (o tn) e) (n (I 8) (o ff) e)))) (n tt (m (n z50 (n (S 24455 0 11 11) (o z75) e) (n ff (o ff) e)) (n z51 (n (.tup [(U 33505 0 53 1), (I 0)]) (o ff) e) (n z70 (o z73) e))) (n z53 (n z47 (n tt (o ff) e) (n tn (o ff) e)) (n (S 24453 0 2 2) (n (I 53) (o tn) e) (o tn)))))) (n tt (n (S 24455 0 11 11) (n (I 0) (n (I 3) (n z47 (n z47 (o ff) e) (n (S 24456 0 11 11) (o tn) e)) (n z47 (n (.tup [(U 33505 0 53 1), (I 0)]) (o (I 2)) e) (n tn (o tt) e))) (m (n z47 (n tt (o ff) e) (n ff (o ff) e)) (n z54 (n z80 (o ff) e) (n tt (o (I 3)) e)))) (n (A 33106 0) (m (n (S 24445 0 1 1) (n (I 9) (o (A 33106 0)) e) (n ff (o ff) e)) (n z47 (n (S 24453 0 2 2) (o ff) e) (n z71 (o z74) e))) (n z53 (n (S 24448 0 2 2) (n tt (o ff) e) (n tn (o tn) e)) (n z55 (n z79 (o tn) e) (o tn))))) (n (I 9) (n (I 53) (m (n (S 24444 0 1 1) (n (S 24455 0 11 11) (o tt) e) (n (A 24456 8) (o tn) e)) (n z49 (n (I 9) (o ff) e) (n ff (o z71) e))) (n tt (n z47 (n (S 24456 0 11 11) (o (U 28622 0 80 1)) e) (n tn (o tn) e)) (n (S 24452 0 3 3) (n (U 33505 0 53 1) (o tn) e) (o tt)))) (n (A 33338 0) (m (n (S 24446 0 1 1) (n (I 11) (o z75) e) (n (I 0) (o (I 8)) e)) (n (S 24451 0 2 2) (n (U 33505 0 53 1) (o (I 8)) e) (n z69 (o (I 0)) e))) (n z52 (n z56 (n (I 8) (o ff) e) (n tn (o ff) e)) (n z47 (n (I 0) (o tn) e) (o tt))))))),
  [.code (c 3 58558), .inBlock 1, .code (c 3 7358), .inLoop (c 3 1214), .inBlock 0, .code (c 3 254)], [], .run⟩,
 [],
 ⟨(p 37258), g38⟩,
 []⟩
def k38 : List (IC Blk) := [(c 3 58558), .skip, (c 3 7358), (c 3 1214), .skip, (c 3 254)]
theorem h38 : codesSt s38.fr s38.cs s38.ls = k38 := by kernel_rfl
def y34 : T V := (n ff (n (A 24442 0) (n (A 24443 0) (n (U 37536 0 78 1) (n (I 0) (n tt (n z46 (o ff) e) (n (I 0) (o (I 53)) e)) (n (S 24449 0 2 2) (n (I 10) (o tn) e) (n tn (o (I 9)) e))) (m (n z47 (n tt (o tn) e) (n ff (o ff) e)) (n z47 (n (I 0) (o tt) e) (n ff (o (I 3)) e)))) (n (I 0) (m (n z48 (n (S 24456 0 11 11) (o ff) e) (n (I 0) (o ff) e)) (n (S 24450 0 3 3) (n (A 24455 10) (o ff) e) (n z58 (o (U 28622 0 80 1)) e))) (n ff (n z49 (n (I 11) (o tn) e) (n tn (o tn) e)) (n z47 (n z80 (o (I 53)) e) (o ff))))) (n (S 24456 0 11 11) (n (A 37257 0) (m (n z46 (n (S 24454 0 3 3) (o (I 9)) e) (n (I 9) (o ff) e)) (n z17 (n (S 24455 0 11 11) (o tn) e) (n ff (o z74) e))) (m (n (S 24447 0 2 2) (n (I 10) (o tn) e) (n tn (o tn) e)) (n z49 (n z52 (o (I 53)) e) (n (I 9) (o ff) e)))) (n ff (m (n z50 (n (S 24455 0 11 11) (o tn) e) (n ff (o ff) e)) (n z51 (n (.tup [(U 37536 0 78 1), (I 0)]) (o ff) e) (n z58 (o z73) e))) (n z53 (n z47 (n tt (o tn) e) (n tn (o ff) e)) (n (S 24453 0 2 2) (n (I 53) (o ff) e) (o ff)))))) (n tt (n (S 24455 0 11 11) (n (I 0) (n (I 3) (n z47 (n z47 (o ff) e) (n (S 24456 0 11 11) (o (I 53)) e)) (n z47 (n (.tup [(U 37536 0 78 1), (I 0)]) (o tn) e) (n tn (o ff) e))) (m (n z47 (n tt (o tn) e) (n ff (o ff) e)) (n z54 (n z80 (o tt) e) (n ff (o (I 3)) e)))) (n (A 37260 0) (m (n (S 24445 0 1 1) (n (I 10) (o tn) e) (n ff (o ff) e)) (n z47 (n (S 24454 0 3 3) (o ff) e) (n z79 (o z74) e))) (n z53 (n (S 24448 0 2 2) (n tt (o tn) e) (n tn (o tn) e)) (n z55 (n z79 (o ff) e) (o (I 9)))))) (n (I 10) (n (I 53) (m (n (S 24444 0 1 1) (n (S 24455 0 11 11) (o ff) e) (n (A 24456 9) (o ff) e)) (n z49 (n (I 10) (o tn) e) (n ff (o z71) e))) (n tt (n z47 (n (S 24456 0 11 11) (o tn) e) (n tn (o tn) e)) (n (S 24452 0 3 3) (n (U 37536 0 78 1) (o (U 33505 0 53 1)) e) (o ff)))) (n (A 33338 0) (m (n (S 24446 0 1 1) (n (I 11) (o tn) e) (n (I 0) (o (I 9)) e)) (n (S 24451 0 2 2) (n (U 37536 0 78 1) (o (I 9)) e) (n z57 (o (I 0)) e))) (n z52 (n z56 (n (I 9) (o tn) e) (n tn (o ff) e)) (n z47 (n (I 0) (o z79) e) (o ff)))))))
/-- the memory behind piece 39 -/
def g39 : T Blk := upd [(37951, (ce [(I 2), (I 7), q1, (I 0), (I 0), q1, (I 0), (I 0), q1, (I 0), (I 0), q1, (I 0), (I 0), q1, (I 0), (I 0), q1, (I 0), (I 0), q1, (I 0), (I 0), q1, (I 0), (I 0), q1])), (37947, (ce [q0, q3, q4, q5, q6, q7, q0, q0, q0, q0, q0, q0, q0, q0, q0, q0, q0, q0, q0, q0, q0, q0, q0, q0, q0, q0, q0, q0, q0, q0, q0, q0, q0, q0, q0, q0, q0, q0, q0, q0, q0, q0, q0, q0, q0, q0, q0, q0, q0, q0, q0, q0, q0, q0, q0, q0, q0, q0, q0, q0, q0, q0, q0, q0, q0, q0, q0, q0, q0, q0, q0, q0, q0, q0, q0, q0, q0, q0, q0, q0, q0, q0, q0, q0, q0, q0, q0, q0, q0, q0, q0, q0, q0, q0, q0, q0, q0, q0, q0, q0, q0, q0, q0, q0, q0, q0, q0, q0, q0, q0, q0, q0, q0, q0, q0, q0, q0, q0, q0, q0, q0, q0, q0, q0, q0, q0, q0, q0, q0, q0, q0, q0, q0, q0, q0, q0, q0, q0, q0, q0, q0, q0, q0, q0, q0, q0, q0, q0, q0, q0, q0, q0, q0, q0, q0, q0, q0, q0, q0, q0, q0, q0, q0, q0, q0, q0, q0, q0, q0, q0, q0, q0, q0, q0, q0, q0, q0, q0, q0, q0, q0, q0, q0, q0, q0, q0, q0, q0, q0, q0, q0, q0, q0, q0, q0, q0, q0, q0, q0, q0, q0, q0, q0, q0, q0, q0, q0, q0, q0, q0, q0, q0, q0, q0, q0, q0, q0, q0, q0, q0, q0, q0, q0, q0, q0, q0, q0, q0, q0, q0, q0, q0, q0, q0, q0, q0, q0, q0, q0, q0, q0, q0, q0, q0, q0, q0, q0, q0, q0, q0, q0, q0, q0, q0, q0, q0, q0, q0, q0, q0, q0, q0, q0, q0, q0, q0, q0, q0, q0, q0, q0, q0, q0, q0, q0, q0, q0, q0, q0, q0, q0, q0, q0, q0, q0, q0, q0, q0, q0, q0, q0, q0, q0, q0, q0, q0, q0, q0, q0, q0, q0, q0, q0, q0, q0, q0, q0, q0, q0, q0, q0, q0, q0, q0, q0, q0, q0, q0, q0, q0, q0, q0, q0, q0, q0, q0, q0, q0, q0, q0, q0, q0, q0, q0, q0, q0, q0, q0, q0, q0, q0, q0, q0, q0, q0, q0, q0, q0, q0, q0, q0, q0, q0, q0, q0, q0, q0, q0, q0, q0, q0, q0, q0, q0, q0, q0, q0, q0, q0, q0, q0, q0, q0, q0, q0, q0, q0, q0, q0, q0, q0, q0, q0, q0, q0, q0])), (37537, (ce [(U 24440 0 386 1), ns, (I 0), ff, (I 1), (I 5), (I 0), (I 4), (I 1), (I 1), (I 2), (S 23818 0 1 1)])), (37969, (ce [(I 1), (I 0), (I 0), (I 0), (I 0), (U 37951 0 9 3), (I 3), (I 1), (I 99), (I 0), (I 0), (U 37954 0 9 3)])), (37536, (ce (us 78 13306344517395804977927457476758955858023072308529686633896871569000844668806755475150485618338130796313691504248842963888719858081773478449040086183641236581354756444096249106525186949144))), (37560, (ce [(U 37947 0 386 1), ns, (I 0), ff, (I 1), (I 5), (I 0), (I 4), (I 1), (I 2), (I 2), (U 37969 0 2 6), (U 37554 0 386 1), ns, (I 0), ff, (I 1), (I 5), (I 0), (I 4), (I 1), (I 1), (I 2), (U 37556 0 1 6)])), (37556, (ce [(I 1), (I 0), (I 0), (I 0), (I 0), (U 37558 0 9 3)])), (37260, (ce [(I 0), (I 0), (I 0), (I 0), (I 0), ns])), (37954, (ce [(I 2), (I 7), q1, (I 0), (I 0), q1, (I 0), (I 0), q1, (I 0), (I 0), q1, (I 0), (I 0), q1, (I 0), (I 0), q1, (I 0), (I 0), q1, (I 0), (I 0), q1, (I 0), (I 0), q1])), (37538, (ce [ns, ns, (I 0), ff, (I 0), (I 0), (I 0), (I 0), (I 0), (I 0), (I 0), ns])), (37554, (ce [q0, q3, q4, q5, q6, q7, q0, q0, q0, q0, q0, q0, q0, q0, q0, q0, q0, q0, q0, q0, q0, q0, q0, q0, q0, q0, q0, q0, q0, q0, q0, q0, q0, q0, q0, q0, q0, q0, q0, q0, q0, q0, q0, q0, q0, q0, q0, q0, q0, q0, q0, q0, q0, q0, q0, q0, q0, q0, q0, q0, q0, q0, q0, q0, q0, q0, q0, q0, q0, q0, q0, q0, q0, q0, q0, q0, q0, q0, q0, q0, q0, q0, q0, q0, q0, q0, q0, q0, q0, q0, q0, q0, q0, q0, q0, q0, q0, q0, q0, q0, q0, q0, q0, q0, q0, q0, q0, q0, q0, q0, q0, q0, q0, q0, q0, q0, q0, q0, q0, q0, q0, q0, q0, q0, q0, q0, q0, q0, q0, q0, q0, q0, q0, q0, q0, q0, q0, q0, q0, q0, q0, q0, q0, q0, q0, q0, q0, q0, q0, q0, q0, q0, q0, q0, q0, q0, q0, q0, q0, q0, q0, q0, q0, q0, q0, q0, q0, q0, q0, q0, q0, q0, q0, q0, q0, q0, q0, q0, q0, q0, q0, q0, q0, q0, q0, q0, q0, q0, q0, q0, q0, q0, q0, q0, q0, q0, q0, q0, q0, q0, q0, q0, q0, q0, q0, q0, q0, q0, q0, q0, q0, q0, q0, q0, q0, q0, q0, q0, q0, q0, q0, q0, q0, q0, q0, q0, q0, q0, q0, q0, q0, q0, q0, q0, q0, q0, q0, q0, q0, q0, q0, q0, q0, q0, q0, q0, q0, q0, q0, q0, q0, q0, q0, q0, q0, q0, q0, q0, q0, q0, q0, q0, q0, q0, q0, q0, q0, q0, q0, q0, q0, q0, q0, q0, q0, q0, q0, q0, q0, q0, q0, q0, q0, q0, q0, q0, q0, q0, q0, q0, q0, q0, q0, q0, q0, q0, q0, q0, q0, q0, q0, q0, q0, q0, q0, q0, q0, q0, q0, q0, q0, q0, q0, q0, q0, q0, q0, q0, q0, q0, q0, q0, q0, q0, q0, q0, q0, q0, q0, q0, q0, q0, q0, q0, q0, q0, q0, q0, q0, q0, q0, q0, q0, q0, q0, q0, q0, q0, q0, q0, q0, q0, q0, q0, q0, q0, q0, q0, q0, q0, q0, q0, q0, q0, q0, q0, q0, q0, q0, q0, q0, q0, q0, q0, q0, q0, q0, q0, q0, q0, q0, q0, q0, q0, q0, q0])), (37558, (ce [(I 2), (I 7), q1, (I 0), (I 0), q1, (I 0), (I 0), q1, (I 0), (I 0), q1, (I 0), (I 0), q1, (I 0), (I 0), q1, (I 0), (I 0), q1, (I 0), (I 0), q1, (I 0), (I 0), q1]))] (del [] g38)
/-- the state behind piece 39; its texts -/
def s39 : St :=
⟨⟨⟨7, 49, false, none⟩,
  (n z52 (n (U 37536 0 78 1) (m (o (A 37560 0)) (n (A 37537 3) (o (U 37536 0 78 1)) e)) (n (I 52) (n (A 37560 0) (o (.tup [(I 52), (I 0)])) e) (m (o (I 52)) e))) (n (A 37537 0) (n (A 37538 0) (o z52) (n ff (o (.tup [(I 52), (I 0)])) e)) (n (I 0) (n (A 37537 0) (o (A 37560 0)) e) (m (o (I 0)) e)))),
  [.code (c 7 30)], [], .run⟩,
 [⟨⟨3, 237, false, none⟩,
  y34,
  [.reg (r 3 42174 2), .code (c 3 58558), .inBlock 1, .code (c 3 7358), .inLoop (c 3 1214), .inBlock 0, .code (c 3 254)], [], .run⟩],
 ⟨(p 37970), g39⟩,
 []⟩
def k39 : List (IC Blk) := [(c 7 30), (.region (r 3 42174 2)), (c 3 58558), .skip, (c 3 7358), (c 3 1214), .skip, (c 3 254)]
theorem h39 : codesSt s39.fr s39.cs s39.ls = k39 := by kernel_rfl
def y35 : T V := (n z81 (n (I 0) (n (A 37973 0) (n (A 37975 0) (o (I 0)) e) (o z82)) (m (o z81) (o (.fn 165 [(A 37973 0), (A 37974 0), (A 37975 0), (A 37987 0)])))) (n (I 0) (m (n (A 37987 0) (o (I 0)) e) (o (A 37986 0))) (n (A 37974 0) (o z82) (o (A 37986 0)))))
def y36 : T V := (n z81 (n (A 37971 0) (o (I 0)) e) (n (A 37972 0) (o z81) e))
def y37 : T V := (n (A 37560 0) (m (n (I 0) (o (A 37560 0)) e) (m (o (A 37560 0)) e)) (n (A 37970 0) (m (o (A 37560 0)) e) (m (o z81) e)))
def y38 : T V := (n z52 (n (U 37536 0 78 1) (m (n (A 37560 0) e (o ff)) (n (A 37537 3) (o (U 37536 0 78 1)) e)) (n (I 52) (n (A 37560 0) (n (.tup [(I 52), (I 0)]) (o (I 52)) e) (o ff)) (m (o (I 52)) e))) (n (A 37537 0) (n (A 37538 0) (n z52 (m (o ff) e) (n (I 0) (o (A 37560 0)) e)) (n ff (o (.tup [(I 52), (I 0)])) e)) (n (I 0) (n (A 37537 0) (n (A 37560 0) (o ff) e) e) (m (o (I 0)) e))))
/-- the memory behind piece 40 -/
def g40 : T Blk := upd [(37983, (ce [(I 2), (I 7), q1, (I 0), (I 0), q1, (I 0), (I 0), q1, (I 0), (I 0), q1, (I 0), (I 0), q1, (I 0), (I 0), q1, (I 0), (I 0), q1, (I 0), (I 0), q1, (I 0), (I 0), q1])), (37975, (ce [(I 0)])), (37987, (ce [(A 37986 0)])), (37971, (ce [(U 37947 0 386 1), ns, (I 0), ff, (I 1), (I 5), (I 0), (I 4), (I 1), (I 2), (I 2), (U 37969 0 2 6)])), (37979, (ce [q0, q3, q4, q5, q6, q7, q0, q0, q0, q0, q0, q0, q0, q0, q0, q0, q0, q0, q0, q0, q0, q0, q0, q0, q0, q0, q0, q0, q0, q0, q0, q0, q0, q0, q0, q0, q0, q0, q0, q0, q0, q0, q0, q0, q0, q0, q0, q0, q0, q0, q0, q0, q0, q0, q0, q0, q0, q0, q0, q0, q0, q0, q0, q0, q0, q0, q0, q0, q0, q0, q0, q0, q0, q0, q0, q0, q0, q0, q0, q0, q0, q0, q0, q0, q0, q0, q0, q0, q0, q0, q0, q0, q0, q0, q0, q0, q0, q0, q0, q0, q0, q0, q0, q0, q0, q0, q0, q0, q0, q0, q0, q0, q0, q0, q0, q0, q0, q0, q0, q0, q0, q0, q0, q0, q0, q0, q0, q0, q0, q0, q0, q0, q0, q0, q0, q0, q0, q0, q0, q0, q0, q0, q0, q0, q0, q0, q0, q0, q0, q0, q0, q0, q0, q0, q0, q0, q0, q0, q0, q0, q0, q0, q0, q0, q0, q0, q0, q0, q0, q0, q0, q0, q0, q0, q0, q0, q0, q0, q0, q0, q0, q0, q0, q0, q0, q0, q0, q0, q0, q0, q0, q0, q0, q0, q0, q0, q0, q0, q0, q0, q0, q0, q0, q0, q0, q0, q0, q0, q0, q0, q0, q0, q0, q0, q0, q0, q0, q0, q0, q0, q0, q0, q0, q0, q0, q0, q0, q0, q0, q0, q0, q0, q0, q0, q0, q0, q0, q0, q0, q0, q0, q0, q0, q0, q0, q0, q0, q0, q0, q0, q0, q0, q0, q0, q0, q0, q0, q0, q0, q0, q0, q0, q0, q0, q0, q0, q0, q0, q0, q0, q0, q0, q0, q0, q0, q0, q0, q0, q0, q0, q0, q0, q0, q0, q0, q0, q0, q0, q0, q0, q0, q0, q0, q0, q0, q0, q0, q0, q0, q0, q0, q0, q0, q0, q0, q0, q0, q0, q0, q0, q0, q0, q0, q0, q0, q0, q0, q0, q0, q0, q0, q0, q0, q0, q0, q0, q0, q0, q0, q0, q0, q0, q0, q0, q0, q0, q0, q0, q0, q0, q0, q0, q0, q0, q0, q0, q0, q0, q0, q0, q0, q0, q0, q0, q0, q0, q0, q0, q0, q0, q0, q0, q0, q0, q0, q0, q0, q0, q0, q0, q0, q0, q0, q0, q0, q0, q0, q0, q0, q0, q0, q0, q0, q0, q0, q0])), (37985, (ce [(I 2), (I 7), q1, (I 0), (I 0), q1, (I 0), (I 0), q1, (I 0), (I 0), q1, (I 0), (I 0), q1, (I 0), (I 0), q1, (I 0), (I 0), q1, (I 0), (I 0), q1, (I 0), (I 0), q1])), (37973, (ce [(U 37947 0 386 1), ns, (I 0), ff, (I 1), (I 5), (I 0), (I 4), (I 1), (I 2), (I 2), (U 37969 0 2 6)])), (37981, (ce [(I 1), (I 0), (I 0), (I 0), (I 0), (U 37983 0 9 3), (I 3), (I 1), (I 99), (I 0), (I 0), (U 37985 0 9 3)])), (39288, (ce [(I 4), (I 1), (I 0), (I 0)])), (37972, (ce [ns, ns, (I 0), ff, (I 0), (I 0), (I 0), (I 0), (I 0), (I 0), (I 0), ns])), (37986, (ce [(U 37979 0 386 1), ns, (I 0), ff, (I 1), (I 5), (I 0), (I 4), (I 1), (I 2), (I 2), (U 37981 0 2 6)])), (37970, (ce [ns, ns, (I 0), ff, (I 0), (I 0), (I 0), (I 0), (I 0), (I 0), (I 0), ns])), (37974, (ce [ns, ns, (I 0), ff, (I 0), (I 0), (I 0), (I 0), (I 0), (I 0), (I 0), ns])), (39286, (ce [(I 3), (I 0), q40]))] (del [] g39)
/-- the state behind piece 40; its texts -/
def s40 : St :=
⟨⟨⟨166, 164, false, none⟩,
  (n (A 37986 0) (n (I 0) (m (m (o (A 37986 3)) e) (n (A 37986 0) (o (I 0)) e)) (m (m (o tn) e) (n (A 37986 0) (o (.agg [(U 39286 0 1 3), (U 39288 0 2 2)])) e))) (n (I 0) (m (m (o ff) e) (n (A 37986 0) (o (I 0)) e)) (m (m (o (A 37986 0)) e) (o (A 37986 0))))),
  [.code (c 166 6)], [], .run⟩,
 [⟨⟨114, 22, false, none⟩,
  y35,
  [.reg (r 114 22 3), .code (c 114 30)], [.call 165 [(A 37973 0), (A 37974 0), (A 37975 0), (A 37987 0)]], .run⟩,
 ⟨⟨67, 8, false, none⟩,
  y36,
  [.reg (r 67 4 1), .code .ret], [], .run⟩,
 ⟨⟨26, 31, false, none⟩,
  y37,
  [.reg (r 26 4 4), .code (c 26 6)], [], .run⟩,
 ⟨⟨7, 49, false, none⟩,
  y38,
  [.reg (r 7 94 1), .code (c 7 126)], [], .run⟩,
 ⟨⟨3, 237, false, none⟩,
  y34,
  [.reg (r 3 42174 2), .code (c 3 58558), .inBlock 1, .code (c 3 7358), .inLoop (c 3 1214), .inBlock 0, .code (c 3 254)], [], .run⟩],
 ⟨(p 39289), g40⟩,
 []⟩
def k40 : List (IC Blk) := [(c 166 6), (.region (r 114 22 3)), (c 114 30), (.region (r 67 4 1)), .ret, (.region (r 26 4 4)), (c 26 6), (.region (r 7 94 1)), (c 7 126), (.region (r 3 42174 2)), (c 3 58558), .skip, (c 3 7358), (c 3 1214), .skip, (c 3 254)]
theorem h40 : codesSt s40.fr s40.cs s40.ls = k40 := by kernel_rfl
/-- the memory behind piece 41 -/
def g41 : T Blk := upd [(39289, (ce [(U 40588 0 1 3), (U 40590 0 2 2)])), (40588, (ce [(I 3), (I 2), q40])), (40590, (ce [(I 4), (I 1), (I 6), (I 2)]))] (del [24448, 37249, 24449, 24450, 24451, 24452, 24453, 24454, 24455, 37257, 37260, 33932, 33934, 33936, 37536, 37537, 37554, 37556, 37558, 37560, 33338, 37947, 37951, 37954, 33095, 28622, 37969, 37971, 37973, 37983, 37985, 33505, 33126, 33128, 33130, 29290, 33132, 29292, 29294, 39286, 39288, 24443, 24444, 24445, 24446, 24447] g40)
/-- the state behind piece 41; its texts -/
def s41 : St :=
⟨⟨⟨166, 164, false, none⟩,
  (n (A 37986 0) (n (I 0) (m (n (A 39289 0) (n (A 37986 3) (o (A 37986 0)) (o (.agg [(U 40588 0 1 3), (U 40590 0 2 2)]))) (n (A 37986 0) (o (A 37986 0)) e)) (n (A 37986 0) (n (I 0) (o (A 37986 0)) e) (n (I 2) (o (I 4)) e))) (m (m (n tn (o (A 37986 0)) e) (n (A 37986 4) (o (A 37986 0)) e)) (n (A 37986 0) (n (.agg [(U 39286 0 1 3), (U 39288 0 2 2)]) (o (I 0)) e) (n ff (o (I 0)) e)))) (n (I 0) (m (m (n ff (o (I 2)) e) (n (A 37986 0) (o (A 37986 0)) e)) (n (A 37986 0) (n (I 0) (o (A 37986 6)) e) (n (I 2) (o (I 6)) e))) (n (I 2) (m (n (A 37986 0) (o (A 37986 0)) e) (n (I 1) (o (A 37986 7)) e)) (n (A 37986 0) (n (A 37986 0) (o (I 2)) e) (n tn (o (I 0)) e))))),
  [.code (c 166 62)], [], .run⟩,
 [⟨⟨114, 22, false, none⟩,
  y35,
  [.reg (r 114 22 3), .code (c 114 30)], [.call 165 [(A 37973 0), (A 37974 0), (A 37975 0), (A 37987 0)]], .run⟩,
 ⟨⟨67, 8, false, none⟩,
  y36,
  [.reg (r 67 4 1), .code .ret], [], .run⟩,
 ⟨⟨26, 31, false, none⟩,
  y37,
  [.reg (r 26 4 4), .code (c 26 6)], [], .run⟩,
 ⟨⟨7, 49, false, none⟩,
  y38,
  [.reg (r 7 94 1), .code (c 7 126)], [], .run⟩,
 ⟨⟨3, 237, false, none⟩,
  y34,
  [.reg (r 3 42174 2), .code (c 3 58558), .inBlock 1, .code (c 3 7358), .inLoop (c 3 1214), .inBlock 0, .code (c 3 254)], [], .run⟩],
 ⟨(p 40591), g41⟩,
 []⟩
def k41 : List (IC Blk) := [(c 166 62), (.region (r 114 22 3)), (c 114 30), (.region (r 67 4 1)), .ret, (.region (r 26 4 4)), (c 26 6), (.region (r 7 94 1)), (c 7 126), (.region (r 3 42174 2)), (c 3 58558), .skip, (c 3 7358), (c 3 1214), .skip, (c 3 254)]
theorem h41 : codesSt s41.fr s41.cs s41.ls = k41 := by kernel_rfl
end
end Go.Proofs.YtkjckoefkcmjhaaGreatDoor.recvForms
