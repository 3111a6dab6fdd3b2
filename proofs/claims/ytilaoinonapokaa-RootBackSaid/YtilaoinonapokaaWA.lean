/- RootBack: what the functions do, said for all arguments -/
import Derived.Test.YtilaoinonapokaaEvJ
namespace Go.Ev.Root
open Go.Ev
noncomputable section
def b4 : IC Blk :=
 (.seq
  (.region [.op ⟨some (pa 6), smMv (.c (.bool false)), none⟩])
  (.seq
   (.seq
    (.region [.op ⟨some (pa 31), smCallF 5 [], none⟩,
      .op ⟨some (pa 32), smUn .not (.t (pa 31)), none⟩])
    (.cond (.t (pa 32))
     (.seq
      (.region [.op ⟨some (pa 6), smMv (.c (.bool false)), none⟩])
      .ret)
     .skip))
   (.seq
    (.seq
     (.region [.op ⟨some (pa 33), smMv (.t (pa 0)), none⟩,
       .op ⟨some (pa 34), smLenSl (.t (pa 33)), none⟩,
       .op ⟨some (pa 35), smBin .gtr (.flat .i) (.t (pa 34)) (.c (.int .i64 20)), none⟩,
       .op ⟨some (pa 36), smMv (.t (pa 35)), none⟩,
       .op ⟨some (pa 37), smMv (.t (pa 1)), some (pa 36, false)⟩,
       .op ⟨some (pa 38), smLenSl (.t (pa 37)), some (pa 36, false)⟩,
       .op ⟨some (pa 39), smBin .gtr (.flat .i) (.t (pa 38)) (.c (.int .i64 60)), some (pa 36, false)⟩,
       .op ⟨some (pa 40), smPick (.t (pa 36)) (.c (.bool true)) (.t (pa 39)), none⟩,
       .op ⟨some (pa 41), smMv (.t (pa 40)), none⟩,
       .op ⟨some (pa 42), smMv (.t (pa 2)), some (pa 41, false)⟩,
       .op ⟨some (pa 43), smLenSl (.t (pa 42)), some (pa 41, false)⟩,
       .op ⟨some (pa 44), smBin .gtr (.flat .i) (.t (pa 43)) (.c (.int .i64 8)), some (pa 41, false)⟩,
       .op ⟨some (pa 45), smPick (.t (pa 41)) (.c (.bool true)) (.t (pa 44)), none⟩])
     (.cond (.t (pa 45))
      (.seq
       (.region [.op ⟨some (pa 6), smMv (.c (.bool true)), none⟩])
       .ret)
      .skip))
    (.seq
     (.region [.op ⟨some (pa 46), smMv (.t (pa 0)), none⟩,
       .op ⟨some (pa 47), smCallF 10 [(.t (pa 46))], none⟩,
       .op ⟨some (pa 7), smMv (.t (pa 47)), none⟩])
     (.seq
      (.region [.op ⟨some (pa 48), smMv (.t (pa 1)), none⟩,
        .op ⟨some (pa 49), smCallF 11 [(.t (pa 48))], none⟩,
        .op ⟨some (pa 50), smCallF 12 [(.t (pa 49)), (.c (.int .i64 20))], none⟩,
        .op ⟨some (pa 8), smMv (.t (pa 50)), none⟩])
      (.seq
       (.block 0
        (.loop
         (.seq
          (.seq
           (.region [.op ⟨some (pa 51), smMv (.t (pa 8)), none⟩,
             .op ⟨some (pa 52), smLenSl (.t (pa 51)), none⟩,
             .op ⟨some (pa 53), smMv (.t (pa 7)), none⟩,
             .op ⟨some (pa 54), smLenSl (.t (pa 53)), none⟩,
             .op ⟨some (pa 55), smBin .lss (.flat .i) (.t (pa 52)) (.t (pa 54)), none⟩])
           (.cond (.t (pa 55))
            .skip
            (.exit 0)))
          (.block 1
           (.region [.op ⟨some (pa 56), smMv (.t (pa 8)), none⟩,
             .op ⟨some (pa 57), smMv (.t (pa 8)), none⟩,
             .op ⟨some (pa 58), smLenSl (.t (pa 57)), none⟩,
             .op ⟨some (pa 59), smBuild [(.int .i64 0), (.int .i64 0)] [(0, 1, (.t (pa 58))), (1, 1, (.c (.int .i64 1)))], none⟩,
             .op ⟨some (pa 60), smBuildSl [(.int .i64 0), (.int .i64 0)] 1 [(0, 2, (.t (pa 59)))], none⟩,
             .op ⟨some (pa 61), smApp 2 (.t (pa 56)) (.t (pa 60)), none⟩,
             .op ⟨some (pa 8), smMv (.t (pa 61)), none⟩])))))
       (.seq
        (.region [.op ⟨some (pa 62), smMv (.t (pa 8)), none⟩,
          .op ⟨some (pa 63), smMv (.t (pa 7)), none⟩,
          .op ⟨some (pa 64), smLenSl (.t (pa 63)), none⟩,
          .op ⟨some (pa 65), smSlice 2 (.t (pa 62)) none (some (.t (pa 64))) none, none⟩,
          .op ⟨some (pa 8), smMv (.t (pa 65)), none⟩])
        (.seq
         (.region [.op ⟨some (pa 66), smMv (.t (pa 2)), none⟩,
           .op ⟨some (pa 67), smCallF 11 [(.t (pa 66))], none⟩,
           .op ⟨some (pa 68), smCallF 13 [(.t (pa 67))], none⟩,
           .op ⟨some (pa 9), smAlloc [(.int .i64 0), (.int .i64 0), (.int .i64 0), (.int .i64 0), (.int .i64 0)], none⟩,
           .op ⟨none, smStore 5 (.t (pa 9)) (.t (pa 68)), none⟩])
         (.seq
          (.region [.op ⟨some (pa 69), smMv (.t (pa 7)), none⟩,
            .op ⟨some (pa 70), smMv (.t (pa 8)), none⟩,
            .op ⟨some (pa 71), smCallF 9 [(.c (.int .i64 9)), (.t (pa 69)), (.t (pa 70))], none⟩,
            .op ⟨some (pa 10), smMv (.t (pa 71)), none⟩])
          (.seq
           (.region [.op ⟨some (pa 11), smMv (.c (.int .i64 0)), none⟩])
           (.seq
            (.seq
             (.region [.op ⟨some (pa 12), smMv (.c (.int .i64 0)), none⟩])
             (.block 2
              (.loop
               (.seq
                (.seq
                 (.region [.op ⟨some (pa 72), smMv (.t (pa 12)), none⟩,
                   .op ⟨some (pa 73), smMv (.t (pa 10)), none⟩,
                   .op ⟨some (pa 74), smLenSl (.t (pa 73)), none⟩,
                   .op ⟨some (pa 75), smBin .lss (.flat .i) (.t (pa 72)) (.t (pa 74)), none⟩])
                 (.cond (.t (pa 75))
                  .skip
                  (.exit 2)))
                (.seq
                 (.block 3
                  (.seq
                   (.region [.op ⟨some (pa 79), smMv (.t (pa 10)), none⟩,
                     .op ⟨some (pa 80), smMv (.t (pa 12)), none⟩,
                     .op ⟨some (pa 81), smIAddr none 3 (.t (pa 79)) (.t (pa 80)), none⟩,
                     .op ⟨some (pa 82), smLoad (some 3) (.t (pa 81)), none⟩,
                     .op ⟨some (pa 83), smCallF 14 [(.t (pa 82))], none⟩,
                     .op ⟨some (pa 78), smMv (.t (pa 83)), none⟩,
                     .op ⟨some (pa 84), smExt (.t (pa 78)) 0, none⟩,
                     .op ⟨some (pa 85), smExt (.t (pa 78)) 1, none⟩,
                     .op ⟨some (pa 86), smExt (.t (pa 78)) 2, none⟩,
                     .op ⟨some (pa 13), smMv (.t (pa 84)), none⟩,
                     .op ⟨some (pa 14), smMv (.t (pa 85)), none⟩,
                     .op ⟨some (pa 15), smMv (.t (pa 86)), none⟩])
                   (.seq
                    (.region [.op ⟨some (pa 88), smMv (.t (pa 10)), none⟩,
                      .op ⟨some (pa 89), smMv (.t (pa 12)), none⟩,
                      .op ⟨some (pa 90), smIAddr none 3 (.t (pa 88)) (.t (pa 89)), none⟩,
                      .op ⟨some (pa 91), smLoad (some 3) (.t (pa 90)), none⟩,
                      .op ⟨some (pa 92), smCallF 15 [(.t (pa 91))], none⟩,
                      .op ⟨some (pa 87), smMv (.t (pa 92)), none⟩,
                      .op ⟨some (pa 93), smExt (.t (pa 87)) 0, none⟩,
                      .op ⟨some (pa 94), smExt (.t (pa 87)) 1, none⟩,
                      .op ⟨some (pa 16), smAlloc [(.int .i64 0), (.int .i64 0), (.str [])], none⟩,
                      .op ⟨none, smStore 3 (.t (pa 16)) (.t (pa 93)), none⟩,
                      .op ⟨some (pa 17), smMv (.t (pa 94)), none⟩])
                    (.seq
                     (.seq
                      (.region [.op ⟨some (pa 95), smMv (.t (pa 15)), none⟩,
                        .op ⟨some (pa 96), smUn .not (.t (pa 95)), none⟩,
                        .op ⟨some (pa 97), smMv (.t (pa 96)), none⟩,
                        .op ⟨some (pa 98), smMv (.t (pa 17)), some (pa 97, false)⟩,
                        .op ⟨some (pa 99), smPick (.t (pa 97)) (.c (.bool true)) (.t (pa 98)), none⟩,
                        .op ⟨some (pa 100), smMv (.t (pa 99)), none⟩,
                        .op ⟨some (pa 101), smMv (.t (pa 13)), some (pa 100, false)⟩,
                        .op ⟨some (pa 102), smLenSl (.t (pa 101)), some (pa 100, false)⟩,
                        .op ⟨some (pa 103), smMv (.t (pa 14)), some (pa 100, false)⟩,
                        .op ⟨some (pa 104), smLenSl (.t (pa 103)), some (pa 100, false)⟩,
                        .op ⟨some (pa 105), smBin .neq (.flat .i) (.t (pa 102)) (.t (pa 104)), some (pa 100, false)⟩,
                        .op ⟨some (pa 106), smPick (.t (pa 100)) (.c (.bool true)) (.t (pa 105)), none⟩,
                        .op ⟨some (pa 107), smMv (.t (pa 106)), none⟩,
                        .op ⟨some (pa 108), smMv (.t (pa 13)), some (pa 107, false)⟩,
                        .op ⟨some (pa 109), smLenSl (.t (pa 108)), some (pa 107, false)⟩,
                        .op ⟨some (pa 110), smBin .gtr (.flat .i) (.t (pa 109)) (.c (.int .i64 6)), some (pa 107, false)⟩,
                        .op ⟨some (pa 111), smPick (.t (pa 107)) (.c (.bool true)) (.t (pa 110)), none⟩,
                        .op ⟨some (pa 112), smMv (.t (pa 111)), none⟩,
                        .op ⟨some (pa 113), smMv (.t (pa 12)), some (pa 112, false)⟩,
                        .op ⟨some (pa 114), smMv (.t (pa 10)), some (pa 112, false)⟩,
                        .op ⟨some (pa 115), smLenSl (.t (pa 114)), some (pa 112, false)⟩,
                        .op ⟨some (pa 116), smBin .sub (.flat .i) (.t (pa 115)) (.c (.int .i64 1)), some (pa 112, false)⟩,
                        .op ⟨some (pa 117), smBin .lss (.flat .i) (.t (pa 113)) (.t (pa 116)), some (pa 112, false)⟩,
                        .op ⟨some (pa 118), smMv (.t (pa 117)), some (pa 112, false)⟩,
                        .op ⟨some (pa 119), smMv (.t (pa 13)), some (pa 118, true)⟩,
                        .op ⟨some (pa 120), smLenSl (.t (pa 119)), some (pa 118, true)⟩,
                        .op ⟨some (pa 121), smBin .neq (.flat .i) (.t (pa 120)) (.c (.int .i64 6)), some (pa 118, true)⟩,
                        .op ⟨some (pa 122), smPick (.t (pa 118)) (.t (pa 121)) (.c (.bool false)), some (pa 112, false)⟩,
                        .op ⟨some (pa 123), smPick (.t (pa 112)) (.c (.bool true)) (.t (pa 122)), none⟩])
                      (.cond (.t (pa 123))
                       (.seq
                        (.region [.op ⟨some (pa 6), smMv (.c (.bool false)), none⟩])
                        .ret)
                       .skip))
                     (.seq
                      (.region [.op ⟨some (pa 18), smMv (.c (.int .i64 0)), none⟩])
                      (.block 4
                       (.loop
                        (.seq
                         (.seq
                          (.region [.op ⟨some (pa 124), smMv (.t (pa 18)), none⟩,
                            .op ⟨some (pa 125), smMv (.t (pa 13)), none⟩,
                            .op ⟨some (pa 126), smLenSl (.t (pa 125)), none⟩,
                            .op ⟨some (pa 127), smBin .lss (.flat .i) (.t (pa 124)) (.t (pa 126)), none⟩])
                          (.cond (.t (pa 127))
                           .skip
                           (.exit 4)))
                         (.seq
                          (.block 5
                           (.seq
                            (.seq
                             (.region [.op ⟨some (pa 130), smMv (.t (pa 11)), none⟩,
                               .op ⟨some (pa 131), smMv (.t (pa 7)), none⟩,
                               .op ⟨some (pa 132), smLenSl (.t (pa 131)), none⟩,
                               .op ⟨some (pa 133), smBin .geq (.flat .i) (.t (pa 130)) (.t (pa 132)), none⟩,
                               .op ⟨some (pa 134), smMv (.t (pa 133)), none⟩,
                               .op ⟨some (pa 135), smMv (.t (pa 13)), some (pa 134, false)⟩,
                               .op ⟨some (pa 136), smMv (.t (pa 18)), some (pa 134, false)⟩,
                               .op ⟨some (pa 137), smIAddr none 3 (.t (pa 135)) (.t (pa 136)), some (pa 134, false)⟩,
                               .op ⟨some (pa 138), smFAddr 0 (.t (pa 137)), some (pa 134, false)⟩,
                               .op ⟨some (pa 139), smLoad none (.t (pa 138)), some (pa 134, false)⟩,
                               .op ⟨some (pa 140), smMv (.t (pa 7)), some (pa 134, false)⟩,
                               .op ⟨some (pa 141), smMv (.t (pa 11)), some (pa 134, false)⟩,
                               .op ⟨some (pa 142), smIAddr none 3 (.t (pa 140)) (.t (pa 141)), some (pa 134, false)⟩,
                               .op ⟨some (pa 143), smFAddr 0 (.t (pa 142)), some (pa 134, false)⟩,
                               .op ⟨some (pa 144), smLoad none (.t (pa 143)), some (pa 134, false)⟩,
                               .op ⟨some (pa 145), smBin .neq (.flat .i) (.t (pa 139)) (.t (pa 144)), some (pa 134, false)⟩,
                               .op ⟨some (pa 146), smPick (.t (pa 134)) (.c (.bool true)) (.t (pa 145)), none⟩,
                               .op ⟨some (pa 147), smMv (.t (pa 146)), none⟩,
                               .op ⟨some (pa 148), smMv (.t (pa 13)), some (pa 147, false)⟩,
                               .op ⟨some (pa 149), smMv (.t (pa 18)), some (pa 147, false)⟩,
                               .op ⟨some (pa 150), smIAddr none 3 (.t (pa 148)) (.t (pa 149)), some (pa 147, false)⟩,
                               .op ⟨some (pa 151), smFAddr 1 (.t (pa 150)), some (pa 147, false)⟩,
                               .op ⟨some (pa 152), smLoad none (.t (pa 151)), some (pa 147, false)⟩,
                               .op ⟨some (pa 153), smMv (.t (pa 7)), some (pa 147, false)⟩,
                               .op ⟨some (pa 154), smMv (.t (pa 11)), some (pa 147, false)⟩,
                               .op ⟨some (pa 155), smIAddr none 3 (.t (pa 153)) (.t (pa 154)), some (pa 147, false)⟩,
                               .op ⟨some (pa 156), smFAddr 1 (.t (pa 155)), some (pa 147, false)⟩,
                               .op ⟨some (pa 157), smLoad none (.t (pa 156)), some (pa 147, false)⟩,
                               .op ⟨some (pa 158), smBin .neq (.flat .i) (.t (pa 152)) (.t (pa 157)), some (pa 147, false)⟩,
                               .op ⟨some (pa 159), smPick (.t (pa 147)) (.c (.bool true)) (.t (pa 158)), none⟩,
                               .op ⟨some (pa 160), smMv (.t (pa 159)), none⟩,
                               .op ⟨some (pa 161), smMv (.t (pa 13)), some (pa 160, false)⟩,
                               .op ⟨some (pa 162), smMv (.t (pa 18)), some (pa 160, false)⟩,
                               .op ⟨some (pa 163), smIAddr none 3 (.t (pa 161)) (.t (pa 162)), some (pa 160, false)⟩,
                               .op ⟨some (pa 164), smFAddr 2 (.t (pa 163)), some (pa 160, false)⟩,
                               .op ⟨some (pa 165), smLoad none (.t (pa 164)), some (pa 160, false)⟩,
                               .op ⟨some (pa 166), smBin .neq (.flat .s) (.t (pa 165)) (.c (.str [])), some (pa 160, false)⟩,
                               .op ⟨some (pa 167), smPick (.t (pa 160)) (.c (.bool true)) (.t (pa 166)), none⟩,
                               .op ⟨some (pa 168), smMv (.t (pa 167)), none⟩,
                               .op ⟨some (pa 169), smMv (.t (pa 14)), some (pa 168, false)⟩,
                               .op ⟨some (pa 170), smMv (.t (pa 18)), some (pa 168, false)⟩,
                               .op ⟨some (pa 171), smIAddr none 2 (.t (pa 169)) (.t (pa 170)), some (pa 168, false)⟩,
                               .op ⟨some (pa 172), smLoad (some 2) (.t (pa 171)), some (pa 168, false)⟩,
                               .op ⟨some (pa 173), smMv (.t (pa 8)), some (pa 168, false)⟩,
                               .op ⟨some (pa 174), smMv (.t (pa 11)), some (pa 168, false)⟩,
                               .op ⟨some (pa 175), smIAddr none 2 (.t (pa 173)) (.t (pa 174)), some (pa 168, false)⟩,
                               .op ⟨some (pa 176), smLoad (some 2) (.t (pa 175)), some (pa 168, false)⟩,
                               .op ⟨some (pa 177), smBin .neq (.agg [(0, .i), (1, .i)]) (.t (pa 172)) (.t (pa 176)), some (pa 168, false)⟩,
                               .op ⟨some (pa 178), smPick (.t (pa 168)) (.c (.bool true)) (.t (pa 177)), none⟩])
                             (.cond (.t (pa 178))
                              (.seq
                               (.region [.op ⟨some (pa 6), smMv (.c (.bool false)), none⟩])
                               .ret)
                              .skip))
                            (.region [.op ⟨some (pa 179), smMv (.t (pa 11)), none⟩,
                              .op ⟨some (pa 180), smBin .add (.flat .i) (.t (pa 179)) (.c (.int .i64 1)), none⟩,
                              .op ⟨some (pa 11), smMv (.t (pa 180)), none⟩])))
                          (.region [.op ⟨some (pa 128), smMv (.t (pa 18)), none⟩,
                            .op ⟨some (pa 129), smBin .add (.flat .i) (.t (pa 128)) (.c (.int .i64 1)), none⟩,
                            .op ⟨some (pa 18), smMv (.t (pa 129)), none⟩]))))))))))
                 (.region [.op ⟨some (pa 76), smMv (.t (pa 12)), none⟩,
                   .op ⟨some (pa 77), smBin .add (.flat .i) (.t (pa 76)) (.c (.int .i64 1)), none⟩,
                   .op ⟨some (pa 12), smMv (.t (pa 77)), none⟩]))))))
            (.seq
             (.region [.op ⟨some (pa 181), smMv (.t (pa 8)), none⟩,
               .op ⟨some (pa 182), smMv (.t (pa 8)), none⟩,
               .op ⟨some (pa 183), smLenSl (.t (pa 182)), none⟩,
               .op ⟨some (pa 184), smMM false (.t (pa 183)) [(.c (.int .i64 6))], none⟩,
               .op ⟨some (pa 185), smSlice 2 (.t (pa 181)) none (some (.t (pa 184))) none, none⟩,
               .op ⟨some (pa 19), smMv (.t (pa 185)), none⟩])
             (.seq
              (.region [.op ⟨some (pa 187), smLoad (some 5) (.t (pa 9)), none⟩,
                .op ⟨some (pa 188), smMv (.t (pa 19)), none⟩,
                .op ⟨some (pa 189), smCallF 7 [(.c (.int .i64 9)), (.t (pa 187)), (.t (pa 188))], none⟩,
                .op ⟨some (pa 190), smCallF 16 [(.t (pa 189))], none⟩,
                .op ⟨some (pa 186), smMv (.t (pa 190)), none⟩,
                .op ⟨some (pa 191), smExt (.t (pa 186)) 0, none⟩,
                .op ⟨some (pa 192), smExt (.t (pa 186)) 1, none⟩,
                .op ⟨some (pa 193), smExt (.t (pa 186)) 2, none⟩,
                .op ⟨some (pa 20), smAlloc [(.int .i64 0), (.int .i64 0), (.int .i64 0), (.int .i64 0), (.int .i64 0)], none⟩,
                .op ⟨none, smStore 5 (.t (pa 20)) (.t (pa 191)), none⟩,
                .op ⟨some (pa 21), smMv (.t (pa 192)), none⟩,
                .op ⟨some (pa 22), smMv (.t (pa 193)), none⟩])
              (.seq
               (.region [.op ⟨some (pa 195), smMv (.t (pa 19)), none⟩,
                 .op ⟨some (pa 196), smCallF 8 [(.c (.int .i64 9)), (.c (.int .i64 4)), (.c (.int .i64 2)), (.t (pa 195))], none⟩,
                 .op ⟨some (pa 197), smCallF 17 [(.t (pa 196))], none⟩,
                 .op ⟨some (pa 194), smMv (.t (pa 197)), none⟩,
                 .op ⟨some (pa 198), smExt (.t (pa 194)) 0, none⟩,
                 .op ⟨some (pa 199), smExt (.t (pa 194)) 1, none⟩,
                 .op ⟨some (pa 200), smExt (.t (pa 194)) 2, none⟩,
                 .op ⟨some (pa 201), smExt (.t (pa 194)) 3, none⟩,
                 .op ⟨some (pa 23), smMv (.t (pa 198)), none⟩,
                 .op ⟨some (pa 24), smMv (.t (pa 199)), none⟩,
                 .op ⟨some (pa 25), smMv (.t (pa 200)), none⟩,
                 .op ⟨some (pa 26), smMv (.t (pa 201)), none⟩])
               (.seq
                (.region [.op ⟨some (pa 203), smLoad (some 5) (.t (pa 9)), none⟩,
                  .op ⟨some (pa 204), smMv (.t (pa 19)), none⟩,
                  .op ⟨some (pa 205), smCallF 7 [(.c (.int .i64 9)), (.t (pa 203)), (.t (pa 204))], none⟩,
                  .op ⟨some (pa 206), smCallF 17 [(.t (pa 205))], none⟩,
                  .op ⟨some (pa 202), smMv (.t (pa 206)), none⟩,
                  .op ⟨some (pa 207), smExt (.t (pa 202)) 0, none⟩,
                  .op ⟨some (pa 208), smExt (.t (pa 202)) 1, none⟩,
                  .op ⟨some (pa 209), smExt (.t (pa 202)) 2, none⟩,
                  .op ⟨some (pa 210), smExt (.t (pa 202)) 3, none⟩,
                  .op ⟨some (pa 27), smMv (.t (pa 207)), none⟩,
                  .op ⟨some (pa 28), smMv (.t (pa 208)), none⟩,
                  .op ⟨some (pa 29), smMv (.t (pa 209)), none⟩,
                  .op ⟨some (pa 30), smMv (.t (pa 210)), none⟩])
                (.seq
                 (.region [.op ⟨some (pa 211), smMv (.t (pa 11)), none⟩,
                   .op ⟨some (pa 212), smMv (.t (pa 7)), none⟩,
                   .op ⟨some (pa 213), smLenSl (.t (pa 212)), none⟩,
                   .op ⟨some (pa 214), smBin .eql (.flat .i) (.t (pa 211)) (.t (pa 213)), none⟩,
                   .op ⟨some (pa 215), smMv (.t (pa 214)), none⟩,
                   .op ⟨some (pa 216), smMv (.t (pa 22)), some (pa 215, true)⟩,
                   .op ⟨some (pa 217), smPick (.t (pa 215)) (.t (pa 216)) (.c (.bool false)), none⟩,
                   .op ⟨some (pa 218), smMv (.t (pa 217)), none⟩,
                   .op ⟨some (pa 219), smLoad (some 5) (.t (pa 20)), some (pa 218, true)⟩,
                   .op ⟨some (pa 220), smLoad (some 5) (.t (pa 9)), some (pa 218, true)⟩,
                   .op ⟨some (pa 221), smBin .eql (.agg [(0, .i), (1, .i), (2, .i), (3, .i), (4, .i)]) (.t (pa 219)) (.t (pa 220)), some (pa 218, true)⟩,
                   .op ⟨some (pa 222), smPick (.t (pa 218)) (.t (pa 221)) (.c (.bool false)), none⟩,
                   .op ⟨some (pa 223), smMv (.t (pa 222)), none⟩,
                   .op ⟨some (pa 224), smMv (.t (pa 21)), some (pa 223, true)⟩,
                   .op ⟨some (pa 225), smMv (.t (pa 19)), some (pa 223, true)⟩,
                   .op ⟨some (pa 226), smCallF 18 [(.t (pa 224)), (.t (pa 225))], some (pa 223, true)⟩,
                   .op ⟨some (pa 227), smPick (.t (pa 223)) (.t (pa 226)) (.c (.bool false)), none⟩,
                   .op ⟨some (pa 228), smMv (.t (pa 227)), none⟩,
                   .op ⟨some (pa 229), smMv (.t (pa 26)), some (pa 228, true)⟩,
                   .op ⟨some (pa 230), smPick (.t (pa 228)) (.t (pa 229)) (.c (.bool false)), none⟩,
                   .op ⟨some (pa 231), smMv (.t (pa 230)), none⟩,
                   .op ⟨some (pa 232), smMv (.t (pa 23)), some (pa 231, true)⟩,
                   .op ⟨some (pa 233), smBin .eql (.flat .i) (.t (pa 232)) (.c (.int .i64 4)), some (pa 231, true)⟩,
                   .op ⟨some (pa 234), smPick (.t (pa 231)) (.t (pa 233)) (.c (.bool false)), none⟩,
                   .op ⟨some (pa 235), smMv (.t (pa 234)), none⟩,
                   .op ⟨some (pa 236), smMv (.t (pa 24)), some (pa 235, true)⟩,
                   .op ⟨some (pa 237), smBin .eql (.flat .i) (.t (pa 236)) (.c (.int .i64 2)), some (pa 235, true)⟩,
                   .op ⟨some (pa 238), smPick (.t (pa 235)) (.t (pa 237)) (.c (.bool false)), none⟩,
                   .op ⟨some (pa 239), smMv (.t (pa 238)), none⟩,
                   .op ⟨some (pa 240), smMv (.t (pa 25)), some (pa 239, true)⟩,
                   .op ⟨some (pa 241), smMv (.t (pa 19)), some (pa 239, true)⟩,
                   .op ⟨some (pa 242), smCallF 18 [(.t (pa 240)), (.t (pa 241))], some (pa 239, true)⟩,
                   .op ⟨some (pa 243), smPick (.t (pa 239)) (.t (pa 242)) (.c (.bool false)), none⟩,
                   .op ⟨some (pa 244), smMv (.t (pa 243)), none⟩,
                   .op ⟨some (pa 245), smMv (.t (pa 30)), some (pa 244, true)⟩,
                   .op ⟨some (pa 246), smUn .not (.t (pa 245)), some (pa 244, true)⟩,
                   .op ⟨some (pa 247), smPick (.t (pa 244)) (.t (pa 246)) (.c (.bool false)), none⟩,
                   .op ⟨some (pa 6), smMv (.t (pa 247)), none⟩])
                 .ret))))))))))))))))
def b6 : IC Blk :=
 (.seq
  (.region [.op ⟨some (pa 3), smBox (.t (pa 1)), none⟩,
    .op ⟨some (pa 4), smAlloc [(.int .i64 0), (.int .i64 0), (.str [])], none⟩])
  (.seq
   (.region [.op ⟨some (pa 6), smMv (.t (pa 0)), none⟩,
     .op ⟨some (pa 7), smCallF 19 [(.c (.int .i64 1)), (.t (pa 6))], none⟩,
     .op ⟨some (pa 5), smMv (.t (pa 7)), none⟩])
   (.seq
    (.region [.op ⟨some (pa 8), smMv (.t (pa 5)), none⟩,
      .op ⟨some (pa 9), smFAddr 0 (.t (pa 3)), none⟩,
      .op ⟨some (pa 10), smLoad none (.t (pa 9)), none⟩,
      .op ⟨some (pa 11), smFAddr 1 (.t (pa 3)), none⟩,
      .op ⟨some (pa 12), smLoad none (.t (pa 11)), none⟩,
      .op ⟨some (pa 13), smBuildSl [(.int .i64 0), (.int .i64 0)] 2 [(0, 1, (.t (pa 10))), (1, 1, (.t (pa 12)))], none⟩,
      .op ⟨some (pa 14), smCallF 20 [(.t (pa 8)), (.c (.int .i64 1)), (.c (.int .i64 255)), (.t (pa 13))], none⟩])
    (.seq
     (.region [.op ⟨some (pa 15), smMv (.t (pa 5)), none⟩,
       .op ⟨some (pa 16), smNil (.t (pa 15)), none⟩,
       .op ⟨some (pa 17), smFAddr 0 (.t (pa 16)), none⟩,
       .op ⟨some (pa 18), smFAddr 2 (.t (pa 17)), none⟩,
       .op ⟨some (pa 19), smLoad none (.t (pa 18)), none⟩,
       .op ⟨some (pa 20), smFAddr 2 (.t (pa 3)), none⟩,
       .op ⟨some (pa 21), smLoad none (.t (pa 20)), none⟩,
       .op ⟨some (pa 22), smBin .add (.flat .s) (.t (pa 19)) (.t (pa 21)), none⟩,
       .op ⟨some (pa 23), smNil (.t (pa 15)), none⟩,
       .op ⟨some (pa 24), smFAddr 0 (.t (pa 23)), none⟩,
       .op ⟨some (pa 25), smFAddr 2 (.t (pa 24)), none⟩,
       .op ⟨none, smStore 1 (.t (pa 25)) (.t (pa 22)), none⟩])
     (.seq
      (.region [.op ⟨some (pa 26), smMv (.t (pa 5)), none⟩,
        .op ⟨some (pa 27), smCallF 21 [(.t (pa 26))], none⟩,
        .op ⟨none, smStore 3 (.t (pa 4)) (.t (pa 27)), none⟩])
      .ret)))))
def b7 : IC Blk :=
 (.seq
  (.region [.op ⟨some (pa 4), smBox (.t (pa 1)), none⟩,
    .op ⟨some (pa 6), smAlloc [(.int .i64 0), (.int .i64 0), (.str [])], none⟩])
  (.seq
   (.region [.op ⟨some (pa 8), smMv (.t (pa 0)), none⟩,
     .op ⟨some (pa 9), smCallF 19 [(.c (.int .i64 3)), (.t (pa 8))], none⟩,
     .op ⟨some (pa 10), smMv (.t (pa 2)), none⟩,
     .op ⟨some (pa 11), smLenSl (.t (pa 10)), none⟩,
     .op ⟨some (pa 12), smCallF 22 [(.t (pa 9)), (.t (pa 11)), (.c (.int .i64 6))], none⟩,
     .op ⟨some (pa 7), smMv (.t (pa 12)), none⟩])
   (.seq
    (.region [.op ⟨some (pa 13), smMv (.t (pa 7)), none⟩,
      .op ⟨some (pa 14), smFAddr 0 (.t (pa 4)), none⟩,
      .op ⟨some (pa 15), smLoad none (.t (pa 14)), none⟩,
      .op ⟨some (pa 16), smBuildSl [(.int .i64 0)] 1 [(0, 1, (.t (pa 15)))], none⟩,
      .op ⟨some (pa 17), smCallF 20 [(.t (pa 13)), (.c (.int .i64 1)), (.c (.int .i64 255)), (.t (pa 16))], none⟩])
    (.seq
     (.region [.op ⟨some (pa 18), smMv (.t (pa 7)), none⟩,
       .op ⟨some (pa 19), smFAddr 1 (.t (pa 4)), none⟩,
       .op ⟨some (pa 20), smLoad none (.t (pa 19)), none⟩,
       .op ⟨some (pa 21), smFAddr 2 (.t (pa 4)), none⟩,
       .op ⟨some (pa 22), smLoad none (.t (pa 21)), none⟩,
       .op ⟨some (pa 23), smFAddr 3 (.t (pa 4)), none⟩,
       .op ⟨some (pa 24), smLoad none (.t (pa 23)), none⟩,
       .op ⟨some (pa 25), smFAddr 4 (.t (pa 4)), none⟩,
       .op ⟨some (pa 26), smLoad none (.t (pa 25)), none⟩,
       .op ⟨some (pa 27), smBuildSl [(.int .i64 0), (.int .i64 0), (.int .i64 0), (.int .i64 0)] 4 [(0, 1, (.t (pa 20))), (1, 1, (.t (pa 22))), (2, 1, (.t (pa 24))), (3, 1, (.t (pa 26)))], none⟩,
       .op ⟨some (pa 28), smCallF 20 [(.t (pa 18)), (.c (.int .i64 4)), (.c (.int .i64 1073741824)), (.t (pa 27))], none⟩])
     (.seq
      (.region [.op ⟨some (pa 29), smMv (.t (pa 7)), none⟩,
        .op ⟨some (pa 30), smMv (.t (pa 2)), none⟩,
        .op ⟨some (pa 31), smLenSl (.t (pa 30)), none⟩,
        .op ⟨some (pa 32), smBuildSl [(.int .i64 0)] 1 [(0, 1, (.t (pa 31)))], none⟩,
        .op ⟨some (pa 33), smCallF 20 [(.t (pa 29)), (.c (.int .i64 1)), (.c (.int .i64 255)), (.t (pa 32))], none⟩])
      (.seq
       (.region [.op ⟨some (pa 34), smMv (.t (pa 7)), none⟩,
         .op ⟨some (pa 35), smMv (.t (pa 2)), none⟩,
         .op ⟨some (pa 36), smCallF 23 [(.t (pa 34)), (.t (pa 35))], none⟩])
       (.seq
        (.region [.op ⟨some (pa 37), smMv (.t (pa 7)), none⟩,
          .op ⟨some (pa 38), smCallF 21 [(.t (pa 37))], none⟩,
          .op ⟨none, smStore 3 (.t (pa 6)) (.t (pa 38)), none⟩])
        .ret)))))))
def b8 : IC Blk :=
 (.seq
  (.region [.op ⟨some (pa 8), smAlloc [(.int .i64 0), (.int .i64 0), (.str [])], none⟩])
  (.seq
   (.region [.op ⟨some (pa 10), smMv (.t (pa 0)), none⟩,
     .op ⟨some (pa 11), smCallF 19 [(.c (.int .i64 4)), (.t (pa 10))], none⟩,
     .op ⟨some (pa 12), smMv (.t (pa 3)), none⟩,
     .op ⟨some (pa 13), smLenSl (.t (pa 12)), none⟩,
     .op ⟨some (pa 14), smCallF 22 [(.t (pa 11)), (.t (pa 13)), (.c (.int .i64 7))], none⟩,
     .op ⟨some (pa 9), smMv (.t (pa 14)), none⟩])
   (.seq
    (.region [.op ⟨some (pa 15), smMv (.t (pa 9)), none⟩,
      .op ⟨some (pa 16), smMv (.t (pa 1)), none⟩,
      .op ⟨some (pa 17), smMv (.t (pa 2)), none⟩,
      .op ⟨some (pa 18), smBuildSl [(.int .i64 0), (.int .i64 0)] 2 [(0, 1, (.t (pa 16))), (1, 1, (.t (pa 17)))], none⟩,
      .op ⟨some (pa 19), smCallF 20 [(.t (pa 15)), (.c (.int .i64 4)), (.c (.int .i64 1073741824)), (.t (pa 18))], none⟩])
    (.seq
     (.region [.op ⟨some (pa 20), smMv (.t (pa 9)), none⟩,
       .op ⟨some (pa 21), smMv (.t (pa 3)), none⟩,
       .op ⟨some (pa 22), smLenSl (.t (pa 21)), none⟩,
       .op ⟨some (pa 23), smBuildSl [(.int .i64 0)] 1 [(0, 1, (.t (pa 22)))], none⟩,
       .op ⟨some (pa 24), smCallF 20 [(.t (pa 20)), (.c (.int .i64 1)), (.c (.int .i64 255)), (.t (pa 23))], none⟩])
     (.seq
      (.region [.op ⟨some (pa 25), smMv (.t (pa 9)), none⟩,
        .op ⟨some (pa 26), smMv (.t (pa 3)), none⟩,
        .op ⟨some (pa 27), smCallF 23 [(.t (pa 25)), (.t (pa 26))], none⟩])
      (.seq
       (.region [.op ⟨some (pa 28), smMv (.t (pa 9)), none⟩,
         .op ⟨some (pa 29), smCallF 21 [(.t (pa 28))], none⟩,
         .op ⟨none, smStore 3 (.t (pa 8)) (.t (pa 29)), none⟩])
       .ret))))))
def b9 : IC Blk :=
 (.seq
  (.region [.op ⟨some (pa 6), smMv (.c (.no .sl)), none⟩])
  (.seq
   (.region [.op ⟨some (pa 7), smMv (.c (.no .sl)), none⟩])
   (.seq
    (.region [.op ⟨some (pa 11), smMv (.t (pa 1)), none⟩,
      .op ⟨some (pa 12), smMv (.t (pa 1)), none⟩,
      .op ⟨some (pa 13), smLenSl (.t (pa 12)), none⟩,
      .op ⟨some (pa 14), smMv (.t (pa 2)), none⟩,
      .op ⟨some (pa 15), smLenSl (.t (pa 14)), none⟩,
      .op ⟨some (pa 16), smMM false (.t (pa 13)) [(.t (pa 15))], none⟩,
      .op ⟨some (pa 17), smSlice 3 (.t (pa 11)) none (some (.t (pa 16))) none, none⟩,
      .op ⟨some (pa 1), smMv (.t (pa 17)), none⟩])
    (.seq
     (.seq
      (.region [.op ⟨some (pa 8), smMv (.c (.int .i64 0)), none⟩])
      (.block 0
       (.loop
        (.seq
         (.seq
          (.region [.op ⟨some (pa 18), smMv (.t (pa 8)), none⟩,
            .op ⟨some (pa 19), smMv (.t (pa 1)), none⟩,
            .op ⟨some (pa 20), smLenSl (.t (pa 19)), none⟩,
            .op ⟨some (pa 21), smBin .lss (.flat .i) (.t (pa 18)) (.t (pa 20)), none⟩])
          (.cond (.t (pa 21))
           .skip
           (.exit 0)))
         (.seq
          (.block 1
           (.seq
            (.region [.op ⟨some (pa 24), smMv (.t (pa 0)), none⟩,
              .op ⟨some (pa 25), smCallF 19 [(.c (.int .i64 2)), (.t (pa 24))], none⟩,
              .op ⟨some (pa 9), smMv (.t (pa 25)), none⟩])
            (.seq
             (.seq
              (.region [.op ⟨some (pa 26), smMv (.t (pa 8)), none⟩,
                .op ⟨some (pa 10), smMv (.t (pa 26)), none⟩])
              (.block 2
               (.loop
                (.seq
                 (.seq
                  (.region [.op ⟨some (pa 27), smMv (.t (pa 10)), none⟩,
                    .op ⟨some (pa 28), smMv (.t (pa 8)), none⟩,
                    .op ⟨some (pa 29), smBin .add (.flat .i) (.t (pa 28)) (.c (.int .i64 6)), none⟩,
                    .op ⟨some (pa 30), smMv (.t (pa 1)), none⟩,
                    .op ⟨some (pa 31), smLenSl (.t (pa 30)), none⟩,
                    .op ⟨some (pa 32), smMM false (.t (pa 29)) [(.t (pa 31))], none⟩,
                    .op ⟨some (pa 33), smBin .lss (.flat .i) (.t (pa 27)) (.t (pa 32)), none⟩])
                  (.cond (.t (pa 33))
                   .skip
                   (.exit 2)))
                 (.seq
                  (.block 3
                   (.seq
                    (.region [.op ⟨some (pa 36), smMv (.t (pa 9)), none⟩,
                      .op ⟨some (pa 37), smMv (.t (pa 1)), none⟩,
                      .op ⟨some (pa 38), smMv (.t (pa 10)), none⟩,
                      .op ⟨some (pa 39), smIAddr none 3 (.t (pa 37)) (.t (pa 38)), none⟩,
                      .op ⟨some (pa 40), smFAddr 0 (.t (pa 39)), none⟩,
                      .op ⟨some (pa 41), smLoad none (.t (pa 40)), none⟩,
                      .op ⟨some (pa 42), smMv (.t (pa 1)), none⟩,
                      .op ⟨some (pa 43), smMv (.t (pa 10)), none⟩,
                      .op ⟨some (pa 44), smIAddr none 3 (.t (pa 42)) (.t (pa 43)), none⟩,
                      .op ⟨some (pa 45), smFAddr 1 (.t (pa 44)), none⟩,
                      .op ⟨some (pa 46), smLoad none (.t (pa 45)), none⟩,
                      .op ⟨some (pa 47), smBuildSl [(.int .i64 0), (.int .i64 0)] 2 [(0, 1, (.t (pa 41))), (1, 1, (.t (pa 46)))], none⟩,
                      .op ⟨some (pa 48), smCallF 20 [(.t (pa 36)), (.c (.int .i64 1)), (.c (.int .i64 255)), (.t (pa 47))], none⟩])
                    (.region [.op ⟨some (pa 49), smMv (.t (pa 9)), none⟩,
                      .op ⟨some (pa 50), smMv (.t (pa 2)), none⟩,
                      .op ⟨some (pa 51), smMv (.t (pa 10)), none⟩,
                      .op ⟨some (pa 52), smIAddr none 2 (.t (pa 50)) (.t (pa 51)), none⟩,
                      .op ⟨some (pa 53), smLoad (some 2) (.t (pa 52)), none⟩,
                      .op ⟨some (pa 54), smBuildSl [(.int .i64 0), (.int .i64 0)] 1 [(0, 2, (.t (pa 53)))], none⟩,
                      .op ⟨some (pa 55), smCallF 23 [(.t (pa 49)), (.t (pa 54))], none⟩])))
                  (.region [.op ⟨some (pa 34), smMv (.t (pa 10)), none⟩,
                    .op ⟨some (pa 35), smBin .add (.flat .i) (.t (pa 34)) (.c (.int .i64 1)), none⟩,
                    .op ⟨some (pa 10), smMv (.t (pa 35)), none⟩]))))))
             (.region [.op ⟨some (pa 56), smMv (.t (pa 7)), none⟩,
               .op ⟨some (pa 57), smMv (.t (pa 9)), none⟩,
               .op ⟨some (pa 58), smCallF 21 [(.t (pa 57))], none⟩,
               .op ⟨some (pa 59), smBuildSl [(.int .i64 0), (.int .i64 0), (.str [])] 1 [(0, 3, (.t (pa 58)))], none⟩,
               .op ⟨some (pa 60), smApp 3 (.t (pa 56)) (.t (pa 59)), none⟩,
               .op ⟨some (pa 7), smMv (.t (pa 60)), none⟩]))))
          (.region [.op ⟨some (pa 22), smMv (.t (pa 8)), none⟩,
            .op ⟨some (pa 23), smBin .add (.flat .i) (.t (pa 22)) (.c (.int .i64 6)), none⟩,
            .op ⟨some (pa 8), smMv (.t (pa 23)), none⟩]))))))
     (.seq
      (.region [.op ⟨some (pa 61), smMv (.t (pa 7)), none⟩,
        .op ⟨some (pa 6), smMv (.t (pa 61)), none⟩])
      .ret)))))
def b10 : IC Blk :=
 (.seq
  (.region [.op ⟨some (pa 2), smMv (.c (.no .sl)), none⟩])
  (.seq
   (.region [.op ⟨some (pa 3), smMv (.c (.no .sl)), none⟩])
   (.seq
    (.seq
     (.region [.op ⟨some (pa 4), smMv (.c (.int .i64 0)), none⟩])
     (.block 0
      (.loop
       (.seq
        (.seq
         (.region [.op ⟨some (pa 5), smMv (.t (pa 4)), none⟩,
           .op ⟨some (pa 6), smMv (.t (pa 0)), none⟩,
           .op ⟨some (pa 7), smLenSl (.t (pa 6)), none⟩,
           .op ⟨some (pa 8), smBin .lss (.flat .i) (.t (pa 5)) (.t (pa 7)), none⟩])
         (.cond (.t (pa 8))
          .skip
          (.exit 0)))
        (.seq
         (.block 1
          (.region [.op ⟨some (pa 11), smMv (.t (pa 3)), none⟩,
            .op ⟨some (pa 12), smMv (.t (pa 0)), none⟩,
            .op ⟨some (pa 13), smMv (.t (pa 4)), none⟩,
            .op ⟨some (pa 14), smIAddr none 1 (.t (pa 12)) (.t (pa 13)), none⟩,
            .op ⟨some (pa 15), smLoad none (.t (pa 14)), none⟩,
            .op ⟨some (pa 16), smBin .rem (.flat .i) (.t (pa 15)) (.c (.int .u8 9)), none⟩,
            .op ⟨some (pa 17), smConvInt .i64 (.t (pa 16)), none⟩,
            .op ⟨some (pa 18), smBin .add (.flat .i) (.c (.int .i64 1)) (.t (pa 17)), none⟩,
            .op ⟨some (pa 19), smMv (.t (pa 0)), none⟩,
            .op ⟨some (pa 20), smMv (.t (pa 4)), none⟩,
            .op ⟨some (pa 21), smIAddr none 1 (.t (pa 19)) (.t (pa 20)), none⟩,
            .op ⟨some (pa 22), smLoad none (.t (pa 21)), none⟩,
            .op ⟨some (pa 23), smBin .quo (.flat .i) (.t (pa 22)) (.c (.int .u8 64)), none⟩,
            .op ⟨some (pa 24), smConvInt .i64 (.t (pa 23)), none⟩,
            .op ⟨some (pa 25), smMv (.t (pa 0)), none⟩,
            .op ⟨some (pa 26), smMv (.t (pa 4)), none⟩,
            .op ⟨some (pa 27), smIAddr none 1 (.t (pa 25)) (.t (pa 26)), none⟩,
            .op ⟨some (pa 28), smLoad none (.t (pa 27)), none⟩,
            .op ⟨some (pa 29), smBuildSl [(.int .u8 0), (.int .u8 0)] 2 [(0, 1, (.t (pa 28))), (1, 1, (.c (.int .u8 120)))], none⟩,
            .op ⟨some (pa 30), smConvStr (.t (pa 29)), none⟩,
            .op ⟨some (pa 31), smBuild [(.int .i64 0), (.int .i64 0), (.str [])] [(0, 1, (.t (pa 18))), (1, 1, (.t (pa 24))), (2, 1, (.t (pa 30)))], none⟩,
            .op ⟨some (pa 32), smBuildSl [(.int .i64 0), (.int .i64 0), (.str [])] 1 [(0, 3, (.t (pa 31)))], none⟩,
            .op ⟨some (pa 33), smApp 3 (.t (pa 11)) (.t (pa 32)), none⟩,
            .op ⟨some (pa 3), smMv (.t (pa 33)), none⟩]))
         (.region [.op ⟨some (pa 9), smMv (.t (pa 4)), none⟩,
           .op ⟨some (pa 10), smBin .add (.flat .i) (.t (pa 9)) (.c (.int .i64 1)), none⟩,
           .op ⟨some (pa 4), smMv (.t (pa 10)), none⟩]))))))
    (.seq
     (.region [.op ⟨some (pa 34), smMv (.t (pa 3)), none⟩,
       .op ⟨some (pa 2), smMv (.t (pa 34)), none⟩])
     .ret))))
def b11 : IC Blk :=
 (.seq
  (.region [.op ⟨some (pa 2), smMv (.c (.no .ptr)), none⟩])
  (.seq
   (.region [.op ⟨some (pa 3), smMv (.t (pa 0)), none⟩,
     .op ⟨some (pa 4), smBuild [(.no .sl), (.int .i64 0)] [(0, 1, (.t (pa 3)))], none⟩,
     .op ⟨some (pa 5), smBox (.t (pa 4)), none⟩,
     .op ⟨some (pa 2), smMv (.t (pa 5)), none⟩])
   .ret))
def b12 : IC Blk :=
 (.seq
  (.region [.op ⟨some (pa 4), smMv (.c (.no .sl)), none⟩])
  (.seq
   (.region [.op ⟨some (pa 5), smMv (.c (.no .sl)), none⟩])
   (.seq
    (.seq
     (.region [.op ⟨some (pa 7), smMv (.t (pa 0)), none⟩,
       .op ⟨some (pa 8), smMv (.t (pa 1)), none⟩,
       .op ⟨some (pa 9), smBin .add (.flat .i) (.t (pa 8)) (.c (.int .i64 1)), none⟩,
       .op ⟨some (pa 10), smCallF 24 [(.t (pa 7)), (.t (pa 9))], none⟩,
       .op ⟨some (pa 6), smMv (.t (pa 10)), none⟩])
     (.block 0
      (.loop
       (.seq
        (.seq
         (.region [.op ⟨some (pa 11), smMv (.t (pa 6)), none⟩,
           .op ⟨some (pa 12), smBin .gtr (.flat .i) (.t (pa 11)) (.c (.int .i64 0)), none⟩])
         (.cond (.t (pa 12))
          .skip
          (.exit 0)))
        (.seq
         (.block 1
          (.region [.op ⟨some (pa 15), smMv (.t (pa 5)), none⟩,
            .op ⟨some (pa 16), smMv (.t (pa 0)), none⟩,
            .op ⟨some (pa 17), smCallF 24 [(.t (pa 16)), (.c (.int .i64 250))], none⟩,
            .op ⟨some (pa 18), smBin .mul (.flat .i) (.t (pa 17)) (.c (.int .i64 3)), none⟩,
            .op ⟨some (pa 19), smBin .add (.flat .i) (.c (.int .i64 2)) (.t (pa 18)), none⟩,
            .op ⟨some (pa 20), smMv (.t (pa 0)), none⟩,
            .op ⟨some (pa 21), smCallF 24 [(.t (pa 20)), (.c (.int .i64 99))], none⟩,
            .op ⟨some (pa 22), smBuild [(.int .i64 0), (.int .i64 0)] [(0, 1, (.t (pa 19))), (1, 1, (.t (pa 21)))], none⟩,
            .op ⟨some (pa 23), smBuildSl [(.int .i64 0), (.int .i64 0)] 1 [(0, 2, (.t (pa 22)))], none⟩,
            .op ⟨some (pa 24), smApp 2 (.t (pa 15)) (.t (pa 23)), none⟩,
            .op ⟨some (pa 5), smMv (.t (pa 24)), none⟩]))
         (.region [.op ⟨some (pa 13), smMv (.t (pa 6)), none⟩,
           .op ⟨some (pa 14), smBin .sub (.flat .i) (.t (pa 13)) (.c (.int .i64 1)), none⟩,
           .op ⟨some (pa 6), smMv (.t (pa 14)), none⟩]))))))
    (.seq
     (.region [.op ⟨some (pa 25), smMv (.t (pa 5)), none⟩,
       .op ⟨some (pa 4), smMv (.t (pa 25)), none⟩])
     .ret))))
def b13 : IC Blk :=
 (.seq
  (.region [.op ⟨some (pa 2), smAlloc [(.int .i64 0), (.int .i64 0), (.int .i64 0), (.int .i64 0), (.int .i64 0)], none⟩])
  (.seq
   (.region [.op ⟨some (pa 3), smMv (.t (pa 0)), none⟩,
     .op ⟨some (pa 4), smCallF 24 [(.t (pa 3)), (.c (.int .i64 3))], none⟩,
     .op ⟨some (pa 5), smBin .add (.flat .i) (.c (.int .i64 1)) (.t (pa 4)), none⟩,
     .op ⟨some (pa 6), smMv (.t (pa 0)), none⟩,
     .op ⟨some (pa 7), smCallF 24 [(.t (pa 6)), (.c (.int .i64 300))], none⟩,
     .op ⟨some (pa 8), smMv (.t (pa 0)), none⟩,
     .op ⟨some (pa 9), smCallF 24 [(.t (pa 8)), (.c (.int .i64 9))], none⟩,
     .op ⟨some (pa 10), smBin .add (.flat .i) (.c (.int .i64 65536)) (.t (pa 9)), none⟩,
     .op ⟨some (pa 11), smMv (.t (pa 0)), none⟩,
     .op ⟨some (pa 12), smCallF 24 [(.t (pa 11)), (.c (.int .i64 2))], none⟩,
     .op ⟨some (pa 13), smBin .mul (.flat .i) (.t (pa 12)) (.c (.int .i64 65537)), none⟩,
     .op ⟨some (pa 14), smMv (.t (pa 0)), none⟩,
     .op ⟨some (pa 15), smCallF 24 [(.t (pa 14)), (.c (.int .i64 200))], none⟩,
     .op ⟨some (pa 16), smBuild [(.int .i64 0), (.int .i64 0), (.int .i64 0), (.int .i64 0), (.int .i64 0)] [(0, 1, (.t (pa 5))), (1, 1, (.t (pa 7))), (2, 1, (.t (pa 10))), (3, 1, (.t (pa 13))), (4, 1, (.t (pa 15)))], none⟩,
     .op ⟨none, smStore 5 (.t (pa 2)) (.t (pa 16)), none⟩])
   .ret))
def b14 : IC Blk :=
 (.seq
  (.region [.op ⟨some (pa 1), smBox (.t (pa 0)), none⟩,
    .op ⟨some (pa 2), smMv (.c (.no .sl)), none⟩,
    .op ⟨some (pa 3), smMv (.c (.no .sl)), none⟩,
    .op ⟨some (pa 4), smMv (.c (.bool false)), none⟩])
  (.seq
   (.region [.op ⟨some (pa 8), smFAddr 2 (.t (pa 1)), none⟩,
     .op ⟨some (pa 9), smLoad none (.t (pa 8)), none⟩,
     .op ⟨some (pa 10), smConvBytes (.t (pa 9)), none⟩,
     .op ⟨some (pa 11), smBuild [(.no .sl), (.bool false)] [(0, 1, (.t (pa 10)))], none⟩,
     .op ⟨some (pa 12), smBox (.t (pa 11)), none⟩,
     .op ⟨some (pa 5), smMv (.t (pa 12)), none⟩])
   (.seq
    (.block 0
     (.loop
      (.seq
       (.seq
        (.region [.op ⟨some (pa 13), smMv (.t (pa 5)), none⟩,
          .op ⟨some (pa 14), smNil (.t (pa 13)), none⟩,
          .op ⟨some (pa 15), smFAddr 0 (.t (pa 14)), none⟩,
          .op ⟨some (pa 16), smLoad none (.t (pa 15)), none⟩,
          .op ⟨some (pa 17), smLenSl (.t (pa 16)), none⟩,
          .op ⟨some (pa 18), smBin .gtr (.flat .i) (.t (pa 17)) (.c (.int .i64 0)), none⟩,
          .op ⟨some (pa 19), smMv (.t (pa 18)), none⟩,
          .op ⟨some (pa 20), smMv (.t (pa 5)), some (pa 19, true)⟩,
          .op ⟨some (pa 21), smNil (.t (pa 20)), some (pa 19, true)⟩,
          .op ⟨some (pa 22), smFAddr 1 (.t (pa 21)), some (pa 19, true)⟩,
          .op ⟨some (pa 23), smLoad none (.t (pa 22)), some (pa 19, true)⟩,
          .op ⟨some (pa 24), smUn .not (.t (pa 23)), some (pa 19, true)⟩,
          .op ⟨some (pa 25), smPick (.t (pa 19)) (.t (pa 24)) (.c (.bool false)), none⟩])
        (.cond (.t (pa 25))
         .skip
         (.exit 0)))
       (.block 1
        (.seq
         (.region [.op ⟨some (pa 26), smMv (.t (pa 5)), none⟩,
           .op ⟨some (pa 27), smCallF 25 [(.t (pa 26)), (.c (.int .i64 1))], none⟩,
           .op ⟨some (pa 28), smMv (.t (pa 5)), none⟩,
           .op ⟨some (pa 29), smCallF 25 [(.t (pa 28)), (.c (.int .i64 1))], none⟩,
           .op ⟨some (pa 6), smMv (.t (pa 27)), none⟩,
           .op ⟨some (pa 7), smMv (.t (pa 29)), none⟩])
         (.region [.op ⟨some (pa 30), smMv (.t (pa 2)), none⟩,
           .op ⟨some (pa 31), smMv (.t (pa 6)), none⟩,
           .op ⟨some (pa 32), smMv (.t (pa 7)), none⟩,
           .op ⟨some (pa 33), smBuild [(.int .i64 0), (.int .i64 0), (.str [])] [(0, 1, (.t (pa 31))), (1, 1, (.t (pa 32)))], none⟩,
           .op ⟨some (pa 34), smBuildSl [(.int .i64 0), (.int .i64 0), (.str [])] 1 [(0, 3, (.t (pa 33)))], none⟩,
           .op ⟨some (pa 35), smApp 3 (.t (pa 30)) (.t (pa 34)), none⟩,
           .op ⟨some (pa 36), smMv (.t (pa 3)), none⟩,
           .op ⟨some (pa 37), smMv (.t (pa 5)), none⟩,
           .op ⟨some (pa 38), smCallF 26 [(.t (pa 37))], none⟩,
           .op ⟨some (pa 39), smBuildSl [(.int .i64 0), (.int .i64 0)] 1 [(0, 2, (.t (pa 38)))], none⟩,
           .op ⟨some (pa 40), smApp 2 (.t (pa 36)) (.t (pa 39)), none⟩,
           .op ⟨some (pa 2), smMv (.t (pa 35)), none⟩,
           .op ⟨some (pa 3), smMv (.t (pa 40)), none⟩]))))))
    (.seq
     (.seq
      (.region [.op ⟨some (pa 41), smMv (.t (pa 5)), none⟩,
        .op ⟨some (pa 42), smNil (.t (pa 41)), none⟩,
        .op ⟨some (pa 43), smFAddr 1 (.t (pa 42)), none⟩,
        .op ⟨some (pa 44), smLoad none (.t (pa 43)), none⟩,
        .op ⟨some (pa 45), smMv (.t (pa 44)), none⟩,
        .op ⟨some (pa 46), smFAddr 0 (.t (pa 1)), some (pa 45, false)⟩,
        .op ⟨some (pa 47), smLoad none (.t (pa 46)), some (pa 45, false)⟩,
        .op ⟨some (pa 48), smBin .neq (.flat .i) (.t (pa 47)) (.c (.int .i64 2)), some (pa 45, false)⟩,
        .op ⟨some (pa 49), smPick (.t (pa 45)) (.c (.bool true)) (.t (pa 48)), none⟩,
        .op ⟨some (pa 50), smMv (.t (pa 49)), none⟩,
        .op ⟨some (pa 51), smFAddr 1 (.t (pa 1)), some (pa 50, false)⟩,
        .op ⟨some (pa 52), smLoad none (.t (pa 51)), some (pa 50, false)⟩,
        .op ⟨some (pa 53), smMv (.t (pa 2)), some (pa 50, false)⟩,
        .op ⟨some (pa 54), smMv (.t (pa 3)), some (pa 50, false)⟩,
        .op ⟨some (pa 56), smLoad (some 3) (.t (pa 1)), some (pa 50, false)⟩,
        .op ⟨some (pa 57), smBuildSl [(.int .i64 0), (.int .i64 0), (.str [])] 1 [(0, 3, (.t (pa 56)))], some (pa 50, false)⟩,
        .op ⟨some (pa 55), smCallF 9 [(.t (pa 52)), (.t (pa 53)), (.t (pa 54))], some (pa 50, false)⟩,
        .chk ⟨some (pa 57), smBuildSl [(.int .i64 0), (.int .i64 0), (.str [])] 1 [(0, 3, (.t (pa 56)))], some (pa 50, false)⟩,
        .chk ⟨some (pa 56), smLoad (some 3) (.t (pa 1)), some (pa 50, false)⟩,
        .op ⟨some (pa 58), smCallF 27 [(.t (pa 55)), (.t (pa 57))], some (pa 50, false)⟩,
        .op ⟨some (pa 59), smUn .not (.t (pa 58)), some (pa 50, false)⟩,
        .op ⟨some (pa 60), smPick (.t (pa 50)) (.c (.bool true)) (.t (pa 59)), none⟩])
      (.cond (.t (pa 60))
       (.seq
        (.region [.op ⟨some (pa 2), smMv (.c (.no .sl)), none⟩,
          .op ⟨some (pa 3), smMv (.c (.no .sl)), none⟩,
          .op ⟨some (pa 4), smMv (.c (.bool false)), none⟩])
        .ret)
       .skip))
     (.seq
      (.region [.op ⟨some (pa 61), smMv (.t (pa 2)), none⟩,
        .op ⟨some (pa 62), smMv (.t (pa 3)), none⟩,
        .op ⟨some (pa 2), smMv (.t (pa 61)), none⟩,
        .op ⟨some (pa 3), smMv (.t (pa 62)), none⟩,
        .op ⟨some (pa 4), smMv (.c (.bool true)), none⟩])
      .ret)))))
def b15 : IC Blk :=
 (.seq
  (.region [.op ⟨some (pa 1), smBox (.t (pa 0)), none⟩,
    .op ⟨some (pa 2), smAlloc [(.int .i64 0), (.int .i64 0), (.str [])], none⟩,
    .op ⟨some (pa 3), smMv (.c (.bool false)), none⟩])
  (.seq
   (.region [.op ⟨some (pa 8), smFAddr 2 (.t (pa 1)), none⟩,
     .op ⟨some (pa 9), smLoad none (.t (pa 8)), none⟩,
     .op ⟨some (pa 10), smConvBytes (.t (pa 9)), none⟩,
     .op ⟨some (pa 11), smBuild [(.no .sl), (.bool false)] [(0, 1, (.t (pa 10)))], none⟩,
     .op ⟨some (pa 12), smBox (.t (pa 11)), none⟩,
     .op ⟨some (pa 4), smMv (.t (pa 12)), none⟩])
   (.seq
    (.region [.op ⟨some (pa 13), smMv (.t (pa 4)), none⟩,
      .op ⟨some (pa 14), smCallF 25 [(.t (pa 13)), (.c (.int .i64 1))], none⟩,
      .op ⟨some (pa 15), smMv (.t (pa 4)), none⟩,
      .op ⟨some (pa 16), smCallF 25 [(.t (pa 15)), (.c (.int .i64 1))], none⟩,
      .op ⟨some (pa 5), smMv (.t (pa 14)), none⟩,
      .op ⟨some (pa 6), smMv (.t (pa 16)), none⟩])
    (.seq
     (.region [.op ⟨some (pa 17), smMv (.t (pa 5)), none⟩,
       .op ⟨some (pa 18), smMv (.t (pa 6)), none⟩,
       .op ⟨some (pa 19), smMv (.t (pa 4)), none⟩,
       .op ⟨some (pa 20), smNil (.t (pa 19)), none⟩,
       .op ⟨some (pa 21), smFAddr 0 (.t (pa 20)), none⟩,
       .op ⟨some (pa 22), smLoad none (.t (pa 21)), none⟩,
       .op ⟨some (pa 23), smConvStr (.t (pa 22)), none⟩,
       .op ⟨some (pa 24), smBuild [(.int .i64 0), (.int .i64 0), (.str [])] [(0, 1, (.t (pa 17))), (1, 1, (.t (pa 18))), (2, 1, (.t (pa 23)))], none⟩,
       .op ⟨some (pa 7), smAlloc [(.int .i64 0), (.int .i64 0), (.str [])], none⟩,
       .op ⟨none, smStore 3 (.t (pa 7)) (.t (pa 24)), none⟩])
     (.seq
      (.seq
       (.region [.op ⟨some (pa 25), smMv (.t (pa 4)), none⟩,
         .op ⟨some (pa 26), smNil (.t (pa 25)), none⟩,
         .op ⟨some (pa 27), smFAddr 1 (.t (pa 26)), none⟩,
         .op ⟨some (pa 28), smLoad none (.t (pa 27)), none⟩,
         .op ⟨some (pa 29), smMv (.t (pa 28)), none⟩,
         .op ⟨some (pa 30), smFAddr 0 (.t (pa 1)), some (pa 29, false)⟩,
         .op ⟨some (pa 31), smLoad none (.t (pa 30)), some (pa 29, false)⟩,
         .op ⟨some (pa 32), smBin .neq (.flat .i) (.t (pa 31)) (.c (.int .i64 1)), some (pa 29, false)⟩,
         .op ⟨some (pa 33), smPick (.t (pa 29)) (.c (.bool true)) (.t (pa 32)), none⟩,
         .op ⟨some (pa 34), smMv (.t (pa 33)), none⟩,
         .op ⟨some (pa 35), smFAddr 1 (.t (pa 1)), some (pa 34, false)⟩,
         .op ⟨some (pa 36), smLoad none (.t (pa 35)), some (pa 34, false)⟩,
         .op ⟨some (pa 37), smLoad (some 3) (.t (pa 7)), some (pa 34, false)⟩,
         .op ⟨some (pa 39), smLoad (some 3) (.t (pa 1)), some (pa 34, false)⟩,
         .op ⟨some (pa 38), smCallF 6 [(.t (pa 36)), (.t (pa 37))], some (pa 34, false)⟩,
         .chk ⟨some (pa 39), smLoad (some 3) (.t (pa 1)), some (pa 34, false)⟩,
         .op ⟨some (pa 40), smBin .neq (.agg [(0, .i), (1, .i), (2, .s)]) (.t (pa 38)) (.t (pa 39)), some (pa 34, false)⟩,
         .op ⟨some (pa 41), smPick (.t (pa 34)) (.c (.bool true)) (.t (pa 40)), none⟩])
       (.cond (.t (pa 41))
        (.seq
         (.region [.op ⟨some (pa 42), smBuild [(.int .i64 0), (.int .i64 0), (.str [])] [], none⟩,
           .op ⟨none, smStore 3 (.t (pa 2)) (.t (pa 42)), none⟩,
           .op ⟨some (pa 3), smMv (.c (.bool false)), none⟩])
         .ret)
        .skip))
      (.seq
       (.region [.op ⟨some (pa 43), smLoad (some 3) (.t (pa 7)), none⟩,
         .op ⟨none, smStore 3 (.t (pa 2)) (.t (pa 43)), none⟩,
         .op ⟨some (pa 3), smMv (.c (.bool true)), none⟩])
       .ret))))))
def b16 : IC Blk :=
 (.seq
  (.region [.op ⟨some (pa 1), smBox (.t (pa 0)), none⟩,
    .op ⟨some (pa 2), smAlloc [(.int .i64 0), (.int .i64 0), (.int .i64 0), (.int .i64 0), (.int .i64 0)], none⟩,
    .op ⟨some (pa 3), smMv (.c (.no .sl)), none⟩,
    .op ⟨some (pa 4), smMv (.c (.bool false)), none⟩])
  (.seq
   (.region [.op ⟨some (pa 11), smFAddr 2 (.t (pa 1)), none⟩,
     .op ⟨some (pa 12), smLoad none (.t (pa 11)), none⟩,
     .op ⟨some (pa 13), smConvBytes (.t (pa 12)), none⟩,
     .op ⟨some (pa 14), smBuild [(.no .sl), (.bool false)] [(0, 1, (.t (pa 13)))], none⟩,
     .op ⟨some (pa 15), smBox (.t (pa 14)), none⟩,
     .op ⟨some (pa 5), smMv (.t (pa 15)), none⟩])
   (.seq
    (.region [.op ⟨some (pa 16), smMv (.t (pa 5)), none⟩,
      .op ⟨some (pa 17), smCallF 25 [(.t (pa 16)), (.c (.int .i64 1))], none⟩,
      .op ⟨some (pa 18), smMv (.t (pa 5)), none⟩,
      .op ⟨some (pa 19), smCallF 25 [(.t (pa 18)), (.c (.int .i64 4))], none⟩,
      .op ⟨some (pa 20), smMv (.t (pa 5)), none⟩,
      .op ⟨some (pa 21), smCallF 25 [(.t (pa 20)), (.c (.int .i64 4))], none⟩,
      .op ⟨some (pa 22), smMv (.t (pa 5)), none⟩,
      .op ⟨some (pa 23), smCallF 25 [(.t (pa 22)), (.c (.int .i64 4))], none⟩,
      .op ⟨some (pa 24), smMv (.t (pa 5)), none⟩,
      .op ⟨some (pa 25), smCallF 25 [(.t (pa 24)), (.c (.int .i64 4))], none⟩,
      .op ⟨some (pa 6), smMv (.t (pa 17)), none⟩,
      .op ⟨some (pa 7), smMv (.t (pa 19)), none⟩,
      .op ⟨some (pa 8), smMv (.t (pa 21)), none⟩,
      .op ⟨some (pa 9), smMv (.t (pa 23)), none⟩,
      .op ⟨some (pa 10), smMv (.t (pa 25)), none⟩])
    (.seq
     (.region [.op ⟨some (pa 26), smMv (.t (pa 6)), none⟩,
       .op ⟨some (pa 27), smMv (.t (pa 7)), none⟩,
       .op ⟨some (pa 28), smMv (.t (pa 8)), none⟩,
       .op ⟨some (pa 29), smMv (.t (pa 9)), none⟩,
       .op ⟨some (pa 30), smMv (.t (pa 10)), none⟩,
       .op ⟨some (pa 31), smBuild [(.int .i64 0), (.int .i64 0), (.int .i64 0), (.int .i64 0), (.int .i64 0)] [(0, 1, (.t (pa 26))), (1, 1, (.t (pa 27))), (2, 1, (.t (pa 28))), (3, 1, (.t (pa 29))), (4, 1, (.t (pa 30)))], none⟩,
       .op ⟨none, smStore 5 (.t (pa 2)) (.t (pa 31)), none⟩])
     (.seq
      (.region [.op ⟨some (pa 32), smMv (.t (pa 5)), none⟩,
        .op ⟨some (pa 33), smCallF 28 [(.t (pa 32))], none⟩,
        .op ⟨some (pa 3), smMv (.t (pa 33)), none⟩])
      (.seq
       (.seq
        (.region [.op ⟨some (pa 34), smMv (.t (pa 5)), none⟩,
          .op ⟨some (pa 35), smNil (.t (pa 34)), none⟩,
          .op ⟨some (pa 36), smFAddr 1 (.t (pa 35)), none⟩,
          .op ⟨some (pa 37), smLoad none (.t (pa 36)), none⟩,
          .op ⟨some (pa 38), smMv (.t (pa 37)), none⟩,
          .op ⟨some (pa 39), smFAddr 0 (.t (pa 1)), some (pa 38, false)⟩,
          .op ⟨some (pa 40), smLoad none (.t (pa 39)), some (pa 38, false)⟩,
          .op ⟨some (pa 41), smBin .neq (.flat .i) (.t (pa 40)) (.c (.int .i64 3)), some (pa 38, false)⟩,
          .op ⟨some (pa 42), smPick (.t (pa 38)) (.c (.bool true)) (.t (pa 41)), none⟩,
          .op ⟨some (pa 43), smMv (.t (pa 42)), none⟩,
          .op ⟨some (pa 44), smFAddr 1 (.t (pa 1)), some (pa 43, false)⟩,
          .op ⟨some (pa 45), smLoad none (.t (pa 44)), some (pa 43, false)⟩,
          .op ⟨some (pa 46), smLoad (some 5) (.t (pa 2)), some (pa 43, false)⟩,
          .op ⟨some (pa 47), smMv (.t (pa 3)), some (pa 43, false)⟩,
          .op ⟨some (pa 49), smLoad (some 3) (.t (pa 1)), some (pa 43, false)⟩,
          .op ⟨some (pa 48), smCallF 7 [(.t (pa 45)), (.t (pa 46)), (.t (pa 47))], some (pa 43, false)⟩,
          .chk ⟨some (pa 49), smLoad (some 3) (.t (pa 1)), some (pa 43, false)⟩,
          .op ⟨some (pa 50), smBin .neq (.agg [(0, .i), (1, .i), (2, .s)]) (.t (pa 48)) (.t (pa 49)), some (pa 43, false)⟩,
          .op ⟨some (pa 51), smPick (.t (pa 43)) (.c (.bool true)) (.t (pa 50)), none⟩])
        (.cond (.t (pa 51))
         (.seq
          (.region [.op ⟨some (pa 52), smBuild [(.int .i64 0), (.int .i64 0), (.int .i64 0), (.int .i64 0), (.int .i64 0)] [], none⟩,
            .op ⟨none, smStore 5 (.t (pa 2)) (.t (pa 52)), none⟩,
            .op ⟨some (pa 3), smMv (.c (.no .sl)), none⟩,
            .op ⟨some (pa 4), smMv (.c (.bool false)), none⟩])
          .ret)
         .skip))
       (.seq
        (.region [.op ⟨some (pa 53), smLoad (some 5) (.t (pa 2)), none⟩,
          .op ⟨some (pa 54), smMv (.t (pa 3)), none⟩,
          .op ⟨none, smStore 5 (.t (pa 2)) (.t (pa 53)), none⟩,
          .op ⟨some (pa 3), smMv (.t (pa 54)), none⟩,
          .op ⟨some (pa 4), smMv (.c (.bool true)), none⟩])
        .ret)))))))
def b17 : IC Blk :=
 (.seq
  (.region [.op ⟨some (pa 1), smBox (.t (pa 0)), none⟩,
    .op ⟨some (pa 2), smMv (.c (.int .i64 0)), none⟩,
    .op ⟨some (pa 3), smMv (.c (.int .i64 0)), none⟩,
    .op ⟨some (pa 4), smMv (.c (.no .sl)), none⟩,
    .op ⟨some (pa 5), smMv (.c (.bool false)), none⟩])
  (.seq
   (.region [.op ⟨some (pa 7), smFAddr 2 (.t (pa 1)), none⟩,
     .op ⟨some (pa 8), smLoad none (.t (pa 7)), none⟩,
     .op ⟨some (pa 9), smConvBytes (.t (pa 8)), none⟩,
     .op ⟨some (pa 10), smBuild [(.no .sl), (.bool false)] [(0, 1, (.t (pa 9)))], none⟩,
     .op ⟨some (pa 11), smBox (.t (pa 10)), none⟩,
     .op ⟨some (pa 6), smMv (.t (pa 11)), none⟩])
   (.seq
    (.region [.op ⟨some (pa 12), smMv (.t (pa 6)), none⟩,
      .op ⟨some (pa 13), smCallF 25 [(.t (pa 12)), (.c (.int .i64 4))], none⟩,
      .op ⟨some (pa 14), smMv (.t (pa 6)), none⟩,
      .op ⟨some (pa 15), smCallF 25 [(.t (pa 14)), (.c (.int .i64 4))], none⟩,
      .op ⟨some (pa 2), smMv (.t (pa 13)), none⟩,
      .op ⟨some (pa 3), smMv (.t (pa 15)), none⟩])
    (.seq
     (.region [.op ⟨some (pa 16), smMv (.t (pa 6)), none⟩,
       .op ⟨some (pa 17), smCallF 28 [(.t (pa 16))], none⟩,
       .op ⟨some (pa 4), smMv (.t (pa 17)), none⟩])
     (.seq
      (.seq
       (.region [.op ⟨some (pa 18), smMv (.t (pa 6)), none⟩,
         .op ⟨some (pa 19), smNil (.t (pa 18)), none⟩,
         .op ⟨some (pa 20), smFAddr 1 (.t (pa 19)), none⟩,
         .op ⟨some (pa 21), smLoad none (.t (pa 20)), none⟩,
         .op ⟨some (pa 22), smMv (.t (pa 21)), none⟩,
         .op ⟨some (pa 23), smFAddr 0 (.t (pa 1)), some (pa 22, false)⟩,
         .op ⟨some (pa 24), smLoad none (.t (pa 23)), some (pa 22, false)⟩,
         .op ⟨some (pa 25), smBin .neq (.flat .i) (.t (pa 24)) (.c (.int .i64 4)), some (pa 22, false)⟩,
         .op ⟨some (pa 26), smPick (.t (pa 22)) (.c (.bool true)) (.t (pa 25)), none⟩,
         .op ⟨some (pa 27), smMv (.t (pa 26)), none⟩,
         .op ⟨some (pa 28), smFAddr 1 (.t (pa 1)), some (pa 27, false)⟩,
         .op ⟨some (pa 29), smLoad none (.t (pa 28)), some (pa 27, false)⟩,
         .op ⟨some (pa 30), smMv (.t (pa 2)), some (pa 27, false)⟩,
         .op ⟨some (pa 31), smMv (.t (pa 3)), some (pa 27, false)⟩,
         .op ⟨some (pa 32), smMv (.t (pa 4)), some (pa 27, false)⟩,
         .op ⟨some (pa 34), smLoad (some 3) (.t (pa 1)), some (pa 27, false)⟩,
         .op ⟨some (pa 33), smCallF 8 [(.t (pa 29)), (.t (pa 30)), (.t (pa 31)), (.t (pa 32))], some (pa 27, false)⟩,
         .chk ⟨some (pa 34), smLoad (some 3) (.t (pa 1)), some (pa 27, false)⟩,
         .op ⟨some (pa 35), smBin .neq (.agg [(0, .i), (1, .i), (2, .s)]) (.t (pa 33)) (.t (pa 34)), some (pa 27, false)⟩,
         .op ⟨some (pa 36), smPick (.t (pa 27)) (.c (.bool true)) (.t (pa 35)), none⟩])
       (.cond (.t (pa 36))
        (.seq
         (.region [.op ⟨some (pa 2), smMv (.c (.int .i64 0)), none⟩,
           .op ⟨some (pa 3), smMv (.c (.int .i64 0)), none⟩,
           .op ⟨some (pa 4), smMv (.c (.no .sl)), none⟩,
           .op ⟨some (pa 5), smMv (.c (.bool false)), none⟩])
         .ret)
        .skip))
      (.seq
       (.region [.op ⟨some (pa 37), smMv (.t (pa 2)), none⟩,
         .op ⟨some (pa 38), smMv (.t (pa 3)), none⟩,
         .op ⟨some (pa 39), smMv (.t (pa 4)), none⟩,
         .op ⟨some (pa 2), smMv (.t (pa 37)), none⟩,
         .op ⟨some (pa 3), smMv (.t (pa 38)), none⟩,
         .op ⟨some (pa 4), smMv (.t (pa 39)), none⟩,
         .op ⟨some (pa 5), smMv (.c (.bool true)), none⟩])
       .ret))))))
def b18 : IC Blk :=
 (.seq
  (.region [.op ⟨some (pa 4), smMv (.c (.bool false)), none⟩])
  (.seq
   (.seq
    (.region [.op ⟨some (pa 6), smMv (.t (pa 0)), none⟩,
      .op ⟨some (pa 7), smLenSl (.t (pa 6)), none⟩,
      .op ⟨some (pa 8), smMv (.t (pa 1)), none⟩,
      .op ⟨some (pa 9), smLenSl (.t (pa 8)), none⟩,
      .op ⟨some (pa 10), smBin .neq (.flat .i) (.t (pa 7)) (.t (pa 9)), none⟩])
    (.cond (.t (pa 10))
     (.seq
      (.region [.op ⟨some (pa 4), smMv (.c (.bool false)), none⟩])
      .ret)
     .skip))
   (.seq
    (.seq
     (.region [.op ⟨some (pa 5), smMv (.c (.int .i64 0)), none⟩])
     (.block 0
      (.loop
       (.seq
        (.seq
         (.region [.op ⟨some (pa 11), smMv (.t (pa 5)), none⟩,
           .op ⟨some (pa 12), smMv (.t (pa 0)), none⟩,
           .op ⟨some (pa 13), smLenSl (.t (pa 12)), none⟩,
           .op ⟨some (pa 14), smBin .lss (.flat .i) (.t (pa 11)) (.t (pa 13)), none⟩])
         (.cond (.t (pa 14))
          .skip
          (.exit 0)))
        (.seq
         (.block 1
          (.seq
           (.region [.op ⟨some (pa 17), smMv (.t (pa 0)), none⟩,
             .op ⟨some (pa 18), smMv (.t (pa 5)), none⟩,
             .op ⟨some (pa 19), smIAddr none 2 (.t (pa 17)) (.t (pa 18)), none⟩,
             .op ⟨some (pa 20), smLoad (some 2) (.t (pa 19)), none⟩,
             .op ⟨some (pa 21), smMv (.t (pa 1)), none⟩,
             .op ⟨some (pa 22), smMv (.t (pa 5)), none⟩,
             .op ⟨some (pa 23), smIAddr none 2 (.t (pa 21)) (.t (pa 22)), none⟩,
             .op ⟨some (pa 24), smLoad (some 2) (.t (pa 23)), none⟩,
             .op ⟨some (pa 25), smBin .neq (.agg [(0, .i), (1, .i)]) (.t (pa 20)) (.t (pa 24)), none⟩])
           (.cond (.t (pa 25))
            (.seq
             (.region [.op ⟨some (pa 4), smMv (.c (.bool false)), none⟩])
             .ret)
            .skip)))
         (.region [.op ⟨some (pa 15), smMv (.t (pa 5)), none⟩,
           .op ⟨some (pa 16), smBin .add (.flat .i) (.t (pa 15)) (.c (.int .i64 1)), none⟩,
           .op ⟨some (pa 5), smMv (.t (pa 16)), none⟩]))))))
    (.seq
     (.region [.op ⟨some (pa 4), smMv (.c (.bool true)), none⟩])
     .ret))))
def b19 : IC Blk :=
 (.seq
  (.region [.op ⟨some (pa 4), smMv (.c (.no .ptr)), none⟩])
  (.seq
   (.region [.op ⟨some (pa 6), smMv (.t (pa 0)), none⟩,
     .op ⟨some (pa 7), smMv (.t (pa 1)), none⟩,
     .op ⟨some (pa 8), smBuild [(.int .i64 0), (.int .i64 0), (.str [])] [(0, 1, (.t (pa 6))), (1, 1, (.t (pa 7)))], none⟩,
     .op ⟨some (pa 9), smBuild [(.int .i64 0), (.int .i64 0), (.str []), (.bool false)] [(0, 3, (.t (pa 8)))], none⟩,
     .op ⟨some (pa 10), smBox (.t (pa 9)), none⟩,
     .op ⟨some (pa 5), smMv (.t (pa 10)), none⟩])
   (.seq
    (.region [.op ⟨some (pa 11), smMv (.t (pa 5)), none⟩,
      .op ⟨some (pa 12), smMv (.t (pa 1)), none⟩,
      .op ⟨some (pa 13), smCallF 22 [(.t (pa 11)), (.t (pa 12)), (.c (.int .i64 1073741824))], none⟩,
      .op ⟨some (pa 4), smMv (.t (pa 13)), none⟩])
    .ret)))
def b20 : IC Blk :=
 (.seq
  (.seq
   (.region [.op ⟨some (pa 10), smMv (.t (pa 3)), none⟩,
     .op ⟨some (pa 11), smLenSl (.t (pa 10)), none⟩,
     .op ⟨some (pa 12), smMv (.c (.int .i64 0)), none⟩])
   (.block 0
    (.loop
     (.seq
      (.region [.op ⟨some (pa 13), smBin .lss (.flat .i) (.t (pa 12)) (.t (pa 11)), none⟩])
      (.seq
       (.cond (.t (pa 13))
        .skip
        (.exit 0))
       (.seq
        (.block 1
         (.seq
          (.region [.op ⟨some (pa 14), smIAddr none 1 (.t (pa 10)) (.t (pa 12)), none⟩,
            .op ⟨some (pa 15), smLoad none (.t (pa 14)), none⟩,
            .op ⟨some (pa 9), smMv (.t (pa 15)), none⟩])
          (.region [.op ⟨some (pa 16), smMv (.t (pa 0)), none⟩,
            .op ⟨some (pa 17), smMv (.t (pa 9)), none⟩,
            .op ⟨some (pa 18), smMv (.t (pa 2)), none⟩,
            .op ⟨some (pa 19), smCallF 22 [(.t (pa 16)), (.t (pa 17)), (.t (pa 18))], none⟩])))
        (.region [.op ⟨some (pa 20), smBin .add (.flat .i) (.t (pa 12)) (.c (.int .i64 1)), none⟩,
          .op ⟨some (pa 12), smMv (.t (pa 20)), none⟩])))))))
  (.region [.op ⟨some (pa 21), smMv (.t (pa 0)), none⟩,
    .op ⟨some (pa 22), smMv (.t (pa 0)), none⟩,
    .op ⟨some (pa 23), smNil (.t (pa 22)), none⟩,
    .op ⟨some (pa 24), smFAddr 0 (.t (pa 23)), none⟩,
    .op ⟨some (pa 25), smFAddr 2 (.t (pa 24)), none⟩,
    .op ⟨some (pa 26), smLoad none (.t (pa 25)), none⟩,
    .op ⟨some (pa 27), smConvBytes (.t (pa 26)), none⟩,
    .op ⟨some (pa 28), smMv (.t (pa 1)), none⟩,
    .op ⟨some (pa 29), smMv (.t (pa 3)), none⟩,
    .op ⟨some (pa 30), smCallF 29 [(.t (pa 27)), (.t (pa 28)), (.t (pa 29))], none⟩,
    .op ⟨some (pa 31), smConvStr (.t (pa 30)), none⟩,
    .op ⟨some (pa 32), smNil (.t (pa 21)), none⟩,
    .op ⟨some (pa 33), smFAddr 0 (.t (pa 32)), none⟩,
    .op ⟨some (pa 34), smFAddr 2 (.t (pa 33)), none⟩,
    .op ⟨none, smStore 1 (.t (pa 34)) (.t (pa 31)), none⟩]))
def b21 : IC Blk :=
 (.seq
  (.region [.op ⟨some (pa 2), smAlloc [(.int .i64 0), (.int .i64 0), (.str [])], none⟩])
  (.seq
   (.seq
    (.region [.op ⟨some (pa 3), smMv (.t (pa 0)), none⟩,
      .op ⟨some (pa 4), smNil (.t (pa 3)), none⟩,
      .op ⟨some (pa 5), smFAddr 3 (.t (pa 4)), none⟩,
      .op ⟨some (pa 6), smLoad none (.t (pa 5)), none⟩,
      .op ⟨some (pa 7), smMv (.t (pa 6)), none⟩,
      .op ⟨some (pa 8), smMv (.t (pa 0)), some (pa 7, false)⟩,
      .op ⟨some (pa 9), smNil (.t (pa 8)), some (pa 7, false)⟩,
      .op ⟨some (pa 10), smFAddr 0 (.t (pa 9)), some (pa 7, false)⟩,
      .op ⟨some (pa 11), smFAddr 2 (.t (pa 10)), some (pa 7, false)⟩,
      .op ⟨some (pa 12), smLoad none (.t (pa 11)), some (pa 7, false)⟩,
      .op ⟨some (pa 13), smLenStr (.t (pa 12)), some (pa 7, false)⟩,
      .op ⟨some (pa 14), smBin .gtr (.flat .i) (.t (pa 13)) (.c (.int .i64 55)), some (pa 7, false)⟩,
      .op ⟨some (pa 15), smPick (.t (pa 7)) (.c (.bool true)) (.t (pa 14)), none⟩])
    (.cond (.t (pa 15))
     (.seq
      (.region [.op ⟨some (pa 16), smBuild [(.int .i64 0), (.int .i64 0), (.str [])] [], none⟩,
        .op ⟨none, smStore 3 (.t (pa 2)) (.t (pa 16)), none⟩])
      .ret)
     .skip))
   (.seq
    (.region [.op ⟨some (pa 17), smMv (.t (pa 0)), none⟩,
      .op ⟨some (pa 18), smNil (.t (pa 17)), none⟩,
      .op ⟨some (pa 19), smFAddr 0 (.t (pa 18)), none⟩,
      .op ⟨some (pa 20), smLoad (some 3) (.t (pa 19)), none⟩,
      .op ⟨none, smStore 3 (.t (pa 2)) (.t (pa 20)), none⟩])
    .ret)))
def b22 : IC Blk :=
 (.seq
  (.region [.op ⟨some (pa 6), smMv (.c (.no .ptr)), none⟩])
  (.seq
   (.region [.op ⟨some (pa 7), smMv (.t (pa 0)), none⟩,
     .op ⟨some (pa 8), smMv (.t (pa 0)), none⟩,
     .op ⟨some (pa 9), smNil (.t (pa 8)), none⟩,
     .op ⟨some (pa 10), smFAddr 3 (.t (pa 9)), none⟩,
     .op ⟨some (pa 11), smLoad none (.t (pa 10)), none⟩,
     .op ⟨some (pa 12), smMv (.t (pa 11)), none⟩,
     .op ⟨some (pa 13), smMv (.t (pa 1)), some (pa 12, false)⟩,
     .op ⟨some (pa 14), smBin .lss (.flat .i) (.t (pa 13)) (.c (.int .i64 0)), some (pa 12, false)⟩,
     .op ⟨some (pa 15), smPick (.t (pa 12)) (.c (.bool true)) (.t (pa 14)), none⟩,
     .op ⟨some (pa 16), smMv (.t (pa 15)), none⟩,
     .op ⟨some (pa 17), smMv (.t (pa 1)), some (pa 16, false)⟩,
     .op ⟨some (pa 18), smMv (.t (pa 2)), some (pa 16, false)⟩,
     .op ⟨some (pa 19), smBin .gtr (.flat .i) (.t (pa 17)) (.t (pa 18)), some (pa 16, false)⟩,
     .op ⟨some (pa 20), smPick (.t (pa 16)) (.c (.bool true)) (.t (pa 19)), none⟩,
     .op ⟨some (pa 21), smNil (.t (pa 7)), none⟩,
     .op ⟨some (pa 22), smFAddr 3 (.t (pa 21)), none⟩,
     .op ⟨none, smStore 1 (.t (pa 22)) (.t (pa 20)), none⟩])
   (.seq
    (.region [.op ⟨some (pa 23), smMv (.t (pa 0)), none⟩,
      .op ⟨some (pa 6), smMv (.t (pa 23)), none⟩])
    .ret)))
def b23 : IC Blk :=
 (.seq
  (.region [.op ⟨some (pa 6), smMv (.t (pa 1)), none⟩,
    .op ⟨some (pa 7), smLenSl (.t (pa 6)), none⟩,
    .op ⟨some (pa 8), smMv (.c (.int .i64 0)), none⟩])
  (.block 0
   (.loop
    (.seq
     (.region [.op ⟨some (pa 9), smBin .lss (.flat .i) (.t (pa 8)) (.t (pa 7)), none⟩])
     (.seq
      (.cond (.t (pa 9))
       .skip
       (.exit 0))
      (.seq
       (.block 1
        (.seq
         (.region [.op ⟨some (pa 10), smIAddr none 2 (.t (pa 6)) (.t (pa 8)), none⟩,
           .op ⟨some (pa 11), smLoad (some 2) (.t (pa 10)), none⟩,
           .op ⟨some (pa 5), smAlloc [(.int .i64 0), (.int .i64 0)], none⟩,
           .op ⟨none, smStore 2 (.t (pa 5)) (.t (pa 11)), none⟩])
         (.seq
          (.region [.op ⟨some (pa 12), smMv (.t (pa 0)), none⟩,
            .op ⟨some (pa 13), smFAddr 0 (.t (pa 5)), none⟩,
            .op ⟨some (pa 14), smLoad none (.t (pa 13)), none⟩,
            .op ⟨some (pa 15), smBuildSl [(.int .i64 0)] 1 [(0, 1, (.t (pa 14)))], none⟩,
            .op ⟨some (pa 16), smCallF 20 [(.t (pa 12)), (.c (.int .i64 2)), (.c (.int .i64 65535)), (.t (pa 15))], none⟩])
          (.region [.op ⟨some (pa 17), smMv (.t (pa 0)), none⟩,
            .op ⟨some (pa 18), smFAddr 1 (.t (pa 5)), none⟩,
            .op ⟨some (pa 19), smLoad none (.t (pa 18)), none⟩,
            .op ⟨some (pa 20), smBuildSl [(.int .i64 0)] 1 [(0, 1, (.t (pa 19)))], none⟩,
            .op ⟨some (pa 21), smCallF 20 [(.t (pa 17)), (.c (.int .i64 4)), (.c (.int .i64 1073741824)), (.t (pa 20))], none⟩]))))
       (.region [.op ⟨some (pa 22), smBin .add (.flat .i) (.t (pa 8)) (.c (.int .i64 1)), none⟩,
         .op ⟨some (pa 8), smMv (.t (pa 22)), none⟩])))))))
def b24 : IC Blk :=
 (.seq
  (.region [.op ⟨some (pa 4), smMv (.c (.int .i64 0)), none⟩])
  (.seq
   (.seq
    (.region [.op ⟨some (pa 5), smMv (.t (pa 0)), none⟩,
      .op ⟨some (pa 6), smNil (.t (pa 5)), none⟩,
      .op ⟨some (pa 7), smFAddr 1 (.t (pa 6)), none⟩,
      .op ⟨some (pa 8), smLoad none (.t (pa 7)), none⟩,
      .op ⟨some (pa 9), smMv (.t (pa 0)), none⟩,
      .op ⟨some (pa 10), smNil (.t (pa 9)), none⟩,
      .op ⟨some (pa 11), smFAddr 0 (.t (pa 10)), none⟩,
      .op ⟨some (pa 12), smLoad none (.t (pa 11)), none⟩,
      .op ⟨some (pa 13), smLenSl (.t (pa 12)), none⟩,
      .op ⟨some (pa 14), smBin .geq (.flat .i) (.t (pa 8)) (.t (pa 13)), none⟩,
      .op ⟨some (pa 15), smMv (.t (pa 14)), none⟩,
      .op ⟨some (pa 16), smMv (.t (pa 1)), some (pa 15, false)⟩,
      .op ⟨some (pa 17), smBin .lss (.flat .i) (.t (pa 16)) (.c (.int .i64 1)), some (pa 15, false)⟩,
      .op ⟨some (pa 18), smPick (.t (pa 15)) (.c (.bool true)) (.t (pa 17)), none⟩])
    (.cond (.t (pa 18))
     (.seq
      (.region [.op ⟨some (pa 4), smMv (.c (.int .i64 0)), none⟩])
      .ret)
     .skip))
   (.seq
    (.region [.op ⟨some (pa 19), smMv (.t (pa 0)), none⟩,
      .op ⟨some (pa 20), smNil (.t (pa 19)), none⟩,
      .op ⟨some (pa 21), smFAddr 1 (.t (pa 20)), none⟩,
      .op ⟨some (pa 22), smLoad none (.t (pa 21)), none⟩,
      .op ⟨some (pa 23), smBin .add (.flat .i) (.t (pa 22)) (.c (.int .i64 1)), none⟩,
      .op ⟨some (pa 24), smNil (.t (pa 19)), none⟩,
      .op ⟨some (pa 25), smFAddr 1 (.t (pa 24)), none⟩,
      .op ⟨none, smStore 1 (.t (pa 25)) (.t (pa 23)), none⟩])
    (.seq
     (.region [.op ⟨some (pa 26), smMv (.t (pa 0)), none⟩,
       .op ⟨some (pa 27), smNil (.t (pa 26)), none⟩,
       .op ⟨some (pa 28), smFAddr 0 (.t (pa 27)), none⟩,
       .op ⟨some (pa 29), smLoad none (.t (pa 28)), none⟩,
       .op ⟨some (pa 30), smMv (.t (pa 0)), none⟩,
       .op ⟨some (pa 31), smNil (.t (pa 30)), none⟩,
       .op ⟨some (pa 32), smFAddr 1 (.t (pa 31)), none⟩,
       .op ⟨some (pa 33), smLoad none (.t (pa 32)), none⟩,
       .op ⟨some (pa 34), smBin .sub (.flat .i) (.t (pa 33)) (.c (.int .i64 1)), none⟩,
       .op ⟨some (pa 35), smIAddr none 1 (.t (pa 29)) (.t (pa 34)), none⟩,
       .op ⟨some (pa 36), smLoad none (.t (pa 35)), none⟩,
       .op ⟨some (pa 37), smConvInt .i64 (.t (pa 36)), none⟩,
       .op ⟨some (pa 38), smMv (.t (pa 1)), none⟩,
       .op ⟨some (pa 39), smBin .rem (.flat .i) (.t (pa 37)) (.t (pa 38)), none⟩,
       .op ⟨some (pa 4), smMv (.t (pa 39)), none⟩])
     .ret))))
def b25 : IC Blk :=
 (.seq
  (.region [.op ⟨some (pa 4), smMv (.c (.int .i64 0)), none⟩])
  (.seq
   (.region [.op ⟨some (pa 8), smMv (.t (pa 0)), none⟩,
     .op ⟨some (pa 9), smNil (.t (pa 8)), none⟩,
     .op ⟨some (pa 10), smFAddr 0 (.t (pa 9)), none⟩,
     .op ⟨some (pa 11), smLoad none (.t (pa 10)), none⟩,
     .op ⟨some (pa 12), smMv (.t (pa 1)), none⟩,
     .op ⟨some (pa 13), smCallF 30 [(.t (pa 11)), (.t (pa 12))], none⟩,
     .op ⟨some (pa 7), smMv (.t (pa 13)), none⟩,
     .op ⟨some (pa 14), smExt (.t (pa 7)) 0, none⟩,
     .op ⟨some (pa 15), smExt (.t (pa 7)) 1, none⟩,
     .op ⟨some (pa 5), smMv (.t (pa 14)), none⟩,
     .op ⟨some (pa 6), smMv (.t (pa 15)), none⟩])
   (.seq
    (.seq
     (.region [.op ⟨some (pa 16), smMv (.t (pa 0)), none⟩,
       .op ⟨some (pa 17), smMv (.t (pa 0)), none⟩,
       .op ⟨some (pa 18), smNil (.t (pa 17)), none⟩,
       .op ⟨some (pa 19), smFAddr 1 (.t (pa 18)), none⟩,
       .op ⟨some (pa 20), smLoad none (.t (pa 19)), none⟩,
       .op ⟨some (pa 21), smMv (.t (pa 20)), none⟩,
       .op ⟨some (pa 22), smMv (.t (pa 6)), some (pa 21, false)⟩,
       .op ⟨some (pa 23), smUn .not (.t (pa 22)), some (pa 21, false)⟩,
       .op ⟨some (pa 24), smPick (.t (pa 21)) (.c (.bool true)) (.t (pa 23)), none⟩,
       .op ⟨some (pa 25), smNil (.t (pa 16)), none⟩,
       .op ⟨some (pa 26), smFAddr 1 (.t (pa 25)), none⟩,
       .op ⟨none, smStore 1 (.t (pa 26)) (.t (pa 24)), none⟩])
     (.seq
      (.region [.op ⟨some (pa 27), smMv (.t (pa 0)), none⟩,
        .op ⟨some (pa 28), smNil (.t (pa 27)), none⟩,
        .op ⟨some (pa 29), smFAddr 1 (.t (pa 28)), none⟩,
        .op ⟨some (pa 30), smLoad none (.t (pa 29)), none⟩])
      (.cond (.t (pa 30))
       (.seq
        (.region [.op ⟨some (pa 4), smMv (.c (.int .i64 0)), none⟩])
        .ret)
       .skip)))
    (.seq
     (.region [.op ⟨some (pa 31), smMv (.t (pa 0)), none⟩,
       .op ⟨some (pa 32), smMv (.t (pa 0)), none⟩,
       .op ⟨some (pa 33), smNil (.t (pa 32)), none⟩,
       .op ⟨some (pa 34), smFAddr 0 (.t (pa 33)), none⟩,
       .op ⟨some (pa 35), smLoad none (.t (pa 34)), none⟩,
       .op ⟨some (pa 36), smMv (.t (pa 1)), none⟩,
       .op ⟨some (pa 37), smSlice 1 (.t (pa 35)) (some (.t (pa 36))) none none, none⟩,
       .op ⟨some (pa 38), smNil (.t (pa 31)), none⟩,
       .op ⟨some (pa 39), smFAddr 0 (.t (pa 38)), none⟩,
       .op ⟨none, smStore 1 (.t (pa 39)) (.t (pa 37)), none⟩])
     (.seq
      (.region [.op ⟨some (pa 40), smMv (.t (pa 5)), none⟩,
        .op ⟨some (pa 4), smMv (.t (pa 40)), none⟩])
      .ret)))))
def b26 : IC Blk :=
 (.seq
  (.region [.op ⟨some (pa 2), smAlloc [(.int .i64 0), (.int .i64 0)], none⟩])
  (.seq
   (.region [.op ⟨some (pa 4), smMv (.t (pa 0)), none⟩,
     .op ⟨some (pa 5), smCallF 25 [(.t (pa 4)), (.c (.int .i64 2))], none⟩,
     .op ⟨some (pa 3), smMv (.t (pa 5)), none⟩])
   (.seq
    (.region [.op ⟨some (pa 6), smMv (.t (pa 3)), none⟩,
      .op ⟨some (pa 7), smMv (.t (pa 0)), none⟩,
      .op ⟨some (pa 8), smCallF 25 [(.t (pa 7)), (.c (.int .i64 4))], none⟩,
      .op ⟨some (pa 9), smBuild [(.int .i64 0), (.int .i64 0)] [(0, 1, (.t (pa 6))), (1, 1, (.t (pa 8)))], none⟩,
      .op ⟨none, smStore 2 (.t (pa 2)) (.t (pa 9)), none⟩])
    .ret)))
def b27 : IC Blk :=
 (.seq
  (.region [.op ⟨some (pa 4), smMv (.c (.bool false)), none⟩])
  (.seq
   (.seq
    (.region [.op ⟨some (pa 6), smMv (.t (pa 0)), none⟩,
      .op ⟨some (pa 7), smLenSl (.t (pa 6)), none⟩,
      .op ⟨some (pa 8), smMv (.t (pa 1)), none⟩,
      .op ⟨some (pa 9), smLenSl (.t (pa 8)), none⟩,
      .op ⟨some (pa 10), smBin .neq (.flat .i) (.t (pa 7)) (.t (pa 9)), none⟩])
    (.cond (.t (pa 10))
     (.seq
      (.region [.op ⟨some (pa 4), smMv (.c (.bool false)), none⟩])
      .ret)
     .skip))
   (.seq
    (.seq
     (.region [.op ⟨some (pa 11), smMv (.t (pa 0)), none⟩,
       .op ⟨some (pa 12), smLenSl (.t (pa 11)), none⟩,
       .op ⟨some (pa 13), smMv (.c (.int .i64 0)), none⟩])
     (.block 0
      (.loop
       (.seq
        (.region [.op ⟨some (pa 14), smBin .lss (.flat .i) (.t (pa 13)) (.t (pa 12)), none⟩])
        (.seq
         (.cond (.t (pa 14))
          .skip
          (.exit 0))
         (.seq
          (.block 1
           (.seq
            (.region [.op ⟨some (pa 15), smMv (.t (pa 13)), none⟩,
              .op ⟨some (pa 5), smMv (.t (pa 15)), none⟩])
            (.seq
             (.region [.op ⟨some (pa 16), smMv (.t (pa 0)), none⟩,
               .op ⟨some (pa 17), smMv (.t (pa 5)), none⟩,
               .op ⟨some (pa 18), smIAddr none 3 (.t (pa 16)) (.t (pa 17)), none⟩,
               .op ⟨some (pa 19), smLoad (some 3) (.t (pa 18)), none⟩,
               .op ⟨some (pa 20), smMv (.t (pa 1)), none⟩,
               .op ⟨some (pa 21), smMv (.t (pa 5)), none⟩,
               .op ⟨some (pa 22), smIAddr none 3 (.t (pa 20)) (.t (pa 21)), none⟩,
               .op ⟨some (pa 23), smLoad (some 3) (.t (pa 22)), none⟩,
               .op ⟨some (pa 24), smBin .neq (.agg [(0, .i), (1, .i), (2, .s)]) (.t (pa 19)) (.t (pa 23)), none⟩])
             (.cond (.t (pa 24))
              (.seq
               (.region [.op ⟨some (pa 4), smMv (.c (.bool false)), none⟩])
               .ret)
              .skip))))
          (.region [.op ⟨some (pa 25), smBin .add (.flat .i) (.t (pa 13)) (.c (.int .i64 1)), none⟩,
            .op ⟨some (pa 13), smMv (.t (pa 25)), none⟩])))))))
    (.seq
     (.region [.op ⟨some (pa 4), smMv (.c (.bool true)), none⟩])
     .ret))))
def b28 : IC Blk :=
 (.seq
  (.region [.op ⟨some (pa 2), smMv (.c (.no .sl)), none⟩])
  (.seq
   (.region [.op ⟨some (pa 3), smMv (.c (.no .sl)), none⟩])
   (.seq
    (.seq
     (.region [.op ⟨some (pa 5), smMv (.t (pa 0)), none⟩,
       .op ⟨some (pa 6), smCallF 25 [(.t (pa 5)), (.c (.int .i64 1))], none⟩,
       .op ⟨some (pa 4), smMv (.t (pa 6)), none⟩])
     (.block 0
      (.loop
       (.seq
        (.seq
         (.region [.op ⟨some (pa 7), smMv (.t (pa 4)), none⟩,
           .op ⟨some (pa 8), smBin .gtr (.flat .i) (.t (pa 7)) (.c (.int .i64 0)), none⟩,
           .op ⟨some (pa 9), smMv (.t (pa 8)), none⟩,
           .op ⟨some (pa 10), smMv (.t (pa 0)), some (pa 9, true)⟩,
           .op ⟨some (pa 11), smNil (.t (pa 10)), some (pa 9, true)⟩,
           .op ⟨some (pa 12), smFAddr 1 (.t (pa 11)), some (pa 9, true)⟩,
           .op ⟨some (pa 13), smLoad none (.t (pa 12)), some (pa 9, true)⟩,
           .op ⟨some (pa 14), smUn .not (.t (pa 13)), some (pa 9, true)⟩,
           .op ⟨some (pa 15), smPick (.t (pa 9)) (.t (pa 14)) (.c (.bool false)), none⟩])
         (.cond (.t (pa 15))
          .skip
          (.exit 0)))
        (.seq
         (.block 1
          (.region [.op ⟨some (pa 18), smMv (.t (pa 3)), none⟩,
            .op ⟨some (pa 19), smMv (.t (pa 0)), none⟩,
            .op ⟨some (pa 20), smCallF 26 [(.t (pa 19))], none⟩,
            .op ⟨some (pa 21), smBuildSl [(.int .i64 0), (.int .i64 0)] 1 [(0, 2, (.t (pa 20)))], none⟩,
            .op ⟨some (pa 22), smApp 2 (.t (pa 18)) (.t (pa 21)), none⟩,
            .op ⟨some (pa 3), smMv (.t (pa 22)), none⟩]))
         (.region [.op ⟨some (pa 16), smMv (.t (pa 4)), none⟩,
           .op ⟨some (pa 17), smBin .sub (.flat .i) (.t (pa 16)) (.c (.int .i64 1)), none⟩,
           .op ⟨some (pa 4), smMv (.t (pa 17)), none⟩]))))))
    (.seq
     (.region [.op ⟨some (pa 23), smMv (.t (pa 3)), none⟩,
       .op ⟨some (pa 2), smMv (.t (pa 23)), none⟩])
     .ret))))
def b29 : IC Blk :=
 (.seq
  (.region [.op ⟨some (pa 6), smMv (.c (.no .sl)), none⟩])
  (.seq
   (.region [.op ⟨some (pa 10), smMv (.t (pa 0)), none⟩,
     .op ⟨some (pa 11), smCallF 31 [(.t (pa 10))], none⟩,
     .op ⟨some (pa 0), smMv (.t (pa 11)), none⟩])
   (.seq
    (.seq
     (.region [.op ⟨some (pa 12), smMv (.t (pa 1)), none⟩,
       .op ⟨some (pa 13), smBin .lss (.flat .i) (.t (pa 12)) (.c (.int .i64 1)), none⟩,
       .op ⟨some (pa 14), smMv (.t (pa 13)), none⟩,
       .op ⟨some (pa 15), smMv (.t (pa 1)), some (pa 14, false)⟩,
       .op ⟨some (pa 16), smBin .gtr (.flat .i) (.t (pa 15)) (.c (.int .i64 4)), some (pa 14, false)⟩,
       .op ⟨some (pa 17), smPick (.t (pa 14)) (.c (.bool true)) (.t (pa 16)), none⟩])
     (.cond (.t (pa 17))
      (.seq
       (.region [.op ⟨some (pa 18), smMv (.t (pa 0)), none⟩,
         .op ⟨some (pa 6), smMv (.t (pa 18)), none⟩])
       .ret)
      .skip))
    (.seq
     (.seq
      (.region [.op ⟨some (pa 19), smMv (.t (pa 2)), none⟩,
        .op ⟨some (pa 20), smLenSl (.t (pa 19)), none⟩,
        .op ⟨some (pa 21), smMv (.c (.int .i64 0)), none⟩])
      (.block 0
       (.loop
        (.seq
         (.region [.op ⟨some (pa 22), smBin .lss (.flat .i) (.t (pa 21)) (.t (pa 20)), none⟩])
         (.seq
          (.cond (.t (pa 22))
           .skip
           (.exit 0))
          (.seq
           (.block 1
            (.seq
             (.region [.op ⟨some (pa 23), smIAddr none 1 (.t (pa 19)) (.t (pa 21)), none⟩,
               .op ⟨some (pa 24), smLoad none (.t (pa 23)), none⟩,
               .op ⟨some (pa 8), smMv (.t (pa 24)), none⟩])
             (.seq
              (.region [.op ⟨some (pa 25), smMv (.t (pa 1)), none⟩,
                .op ⟨some (pa 26), smMv (.c (.int .i64 0)), none⟩])
              (.block 2
               (.loop
                (.seq
                 (.region [.op ⟨some (pa 27), smBin .lss (.flat .i) (.t (pa 26)) (.t (pa 25)), none⟩])
                 (.seq
                  (.cond (.t (pa 27))
                   .skip
                   (.exit 2))
                  (.seq
                   (.block 3
                    (.seq
                     (.region [.op ⟨some (pa 28), smMv (.t (pa 26)), none⟩,
                       .op ⟨some (pa 9), smMv (.t (pa 28)), none⟩])
                     (.region [.op ⟨some (pa 29), smMv (.t (pa 0)), none⟩,
                       .op ⟨some (pa 30), smMv (.t (pa 8)), none⟩,
                       .op ⟨some (pa 31), smMv (.t (pa 9)), none⟩,
                       .op ⟨some (pa 32), smBin .mul (.flat .i) (.c (.int .i64 8)) (.t (pa 31)), none⟩,
                       .op ⟨some (pa 33), smBin .shr (.flat .i) (.t (pa 30)) (.t (pa 32)), none⟩,
                       .op ⟨some (pa 34), smConvInt .u8 (.t (pa 33)), none⟩,
                       .op ⟨some (pa 35), smBuildSl [(.int .u8 0)] 1 [(0, 1, (.t (pa 34)))], none⟩,
                       .op ⟨some (pa 36), smApp 1 (.t (pa 29)) (.t (pa 35)), none⟩,
                       .op ⟨some (pa 0), smMv (.t (pa 36)), none⟩])))
                   (.region [.op ⟨some (pa 37), smBin .add (.flat .i) (.t (pa 26)) (.c (.int .i64 1)), none⟩,
                     .op ⟨some (pa 26), smMv (.t (pa 37)), none⟩])))))))))
           (.region [.op ⟨some (pa 38), smBin .add (.flat .i) (.t (pa 21)) (.c (.int .i64 1)), none⟩,
             .op ⟨some (pa 21), smMv (.t (pa 38)), none⟩])))))))
     (.seq
      (.region [.op ⟨some (pa 39), smMv (.t (pa 0)), none⟩,
        .op ⟨some (pa 6), smMv (.t (pa 39)), none⟩])
      .ret)))))
def b30 : IC Blk :=
 (.seq
  (.region [.op ⟨some (pa 4), smMv (.c (.int .i64 0)), none⟩,
    .op ⟨some (pa 5), smMv (.c (.bool false)), none⟩])
  (.seq
   (.seq
    (.region [.op ⟨some (pa 9), smMv (.t (pa 1)), none⟩,
      .op ⟨some (pa 10), smBin .lss (.flat .i) (.t (pa 9)) (.c (.int .i64 1)), none⟩,
      .op ⟨some (pa 11), smMv (.t (pa 10)), none⟩,
      .op ⟨some (pa 12), smMv (.t (pa 1)), some (pa 11, false)⟩,
      .op ⟨some (pa 13), smBin .gtr (.flat .i) (.t (pa 12)) (.c (.int .i64 4)), some (pa 11, false)⟩,
      .op ⟨some (pa 14), smPick (.t (pa 11)) (.c (.bool true)) (.t (pa 13)), none⟩,
      .op ⟨some (pa 15), smMv (.t (pa 14)), none⟩,
      .op ⟨some (pa 16), smMv (.t (pa 0)), some (pa 15, false)⟩,
      .op ⟨some (pa 17), smLenSl (.t (pa 16)), some (pa 15, false)⟩,
      .op ⟨some (pa 18), smMv (.t (pa 1)), some (pa 15, false)⟩,
      .op ⟨some (pa 19), smBin .lss (.flat .i) (.t (pa 17)) (.t (pa 18)), some (pa 15, false)⟩,
      .op ⟨some (pa 20), smPick (.t (pa 15)) (.c (.bool true)) (.t (pa 19)), none⟩])
    (.cond (.t (pa 20))
     (.seq
      (.region [.op ⟨some (pa 4), smMv (.c (.int .i64 0)), none⟩,
        .op ⟨some (pa 5), smMv (.c (.bool false)), none⟩])
      .ret)
     .skip))
   (.seq
    (.region [.op ⟨some (pa 6), smMv (.c (.int .i64 0)), none⟩])
    (.seq
     (.seq
      (.region [.op ⟨some (pa 21), smMv (.t (pa 0)), none⟩,
        .op ⟨some (pa 22), smMv (.t (pa 1)), none⟩,
        .op ⟨some (pa 23), smSlice 1 (.t (pa 21)) none (some (.t (pa 22))) none, none⟩,
        .op ⟨some (pa 24), smLenSl (.t (pa 23)), none⟩,
        .op ⟨some (pa 25), smMv (.c (.int .i64 0)), none⟩])
      (.block 0
       (.loop
        (.seq
         (.region [.op ⟨some (pa 26), smBin .lss (.flat .i) (.t (pa 25)) (.t (pa 24)), none⟩])
         (.seq
          (.cond (.t (pa 26))
           .skip
           (.exit 0))
          (.seq
           (.block 1
            (.seq
             (.region [.op ⟨some (pa 27), smMv (.t (pa 25)), none⟩,
               .op ⟨some (pa 28), smIAddr none 1 (.t (pa 23)) (.t (pa 25)), none⟩,
               .op ⟨some (pa 29), smLoad none (.t (pa 28)), none⟩,
               .op ⟨some (pa 7), smMv (.t (pa 27)), none⟩,
               .op ⟨some (pa 8), smMv (.t (pa 29)), none⟩])
             (.region [.op ⟨some (pa 30), smMv (.t (pa 6)), none⟩,
               .op ⟨some (pa 31), smMv (.t (pa 8)), none⟩,
               .op ⟨some (pa 32), smConvInt .i64 (.t (pa 31)), none⟩,
               .op ⟨some (pa 33), smMv (.t (pa 7)), none⟩,
               .op ⟨some (pa 34), smBin .mul (.flat .i) (.c (.int .i64 8)) (.t (pa 33)), none⟩,
               .op ⟨some (pa 35), smBin .shl (.flat .i) (.t (pa 32)) (.t (pa 34)), none⟩,
               .op ⟨some (pa 36), smBin .or (.flat .i) (.t (pa 30)) (.t (pa 35)), none⟩,
               .op ⟨some (pa 6), smMv (.t (pa 36)), none⟩])))
           (.region [.op ⟨some (pa 37), smBin .add (.flat .i) (.t (pa 25)) (.c (.int .i64 1)), none⟩,
             .op ⟨some (pa 25), smMv (.t (pa 37)), none⟩])))))))
     (.seq
      (.region [.op ⟨some (pa 38), smMv (.t (pa 6)), none⟩,
        .op ⟨some (pa 4), smMv (.t (pa 38)), none⟩,
        .op ⟨some (pa 5), smMv (.c (.bool true)), none⟩])
      .ret)))))
def b31 : IC Blk :=
 (.seq
  (.region [.op ⟨some (pa 2), smMv (.c (.no .sl)), none⟩])
  (.seq
   (.seq
    (.region [.op ⟨some (pa 3), smMv (.t (pa 0)), none⟩,
      .op ⟨some (pa 4), smBin .eql .slice (.t (pa 3)) (.c (.no .sl)), none⟩])
    (.cond (.t (pa 4))
     (.seq
      (.region [.op ⟨some (pa 2), smMv (.c (.no .sl)), none⟩])
      .ret)
     .skip))
   (.seq
    (.region [.op ⟨some (pa 5), smBuildSl [] 0 [], none⟩,
      .op ⟨some (pa 6), smMv (.t (pa 0)), none⟩,
      .op ⟨some (pa 7), smApp 1 (.t (pa 5)) (.t (pa 6)), none⟩,
      .op ⟨some (pa 2), smMv (.t (pa 7)), none⟩])
    .ret)))
end
structure Fs (F : Nat → Option FnI) : Prop where
  h4 : F 4 = some (.code ⟨b4, 248, [(pa 6, none)]⟩)
  h6 : F 6 = some (.code ⟨b6, 28, [(pa 4, some (some 3))]⟩)
  h7 : F 7 = some (.code ⟨b7, 39, [(pa 6, some (some 3))]⟩)
  h8 : F 8 = some (.code ⟨b8, 30, [(pa 8, some (some 3))]⟩)
  h9 : F 9 = some (.code ⟨b9, 62, [(pa 6, none)]⟩)
  h10 : F 10 = some (.code ⟨b10, 35, [(pa 2, none)]⟩)
  h11 : F 11 = some (.code ⟨b11, 6, [(pa 2, none)]⟩)
  h12 : F 12 = some (.code ⟨b12, 26, [(pa 4, none)]⟩)
  h13 : F 13 = some (.code ⟨b13, 17, [(pa 2, some (some 5))]⟩)
  h14 : F 14 = some (.code ⟨b14, 63, [(pa 2, none), (pa 3, none), (pa 4, none)]⟩)
  h15 : F 15 = some (.code ⟨b15, 44, [(pa 2, some (some 3)), (pa 3, none)]⟩)
  h16 : F 16 = some (.code ⟨b16, 55, [(pa 2, some (some 5)), (pa 3, none), (pa 4, none)]⟩)
  h17 : F 17 = some (.code ⟨b17, 40, [(pa 2, none), (pa 3, none), (pa 4, none), (pa 5, none)]⟩)
  h18 : F 18 = some (.code ⟨b18, 26, [(pa 4, none)]⟩)
  h19 : F 19 = some (.code ⟨b19, 14, [(pa 4, none)]⟩)
  h20 : F 20 = some (.code ⟨b20, 35, []⟩)
  h21 : F 21 = some (.code ⟨b21, 21, [(pa 2, some (some 3))]⟩)
  h22 : F 22 = some (.code ⟨b22, 24, [(pa 6, none)]⟩)
  h23 : F 23 = some (.code ⟨b23, 23, []⟩)
  h24 : F 24 = some (.code ⟨b24, 40, [(pa 4, none)]⟩)
  h25 : F 25 = some (.code ⟨b25, 41, [(pa 4, none)]⟩)
  h26 : F 26 = some (.code ⟨b26, 10, [(pa 2, some (some 2))]⟩)
  h27 : F 27 = some (.code ⟨b27, 26, [(pa 4, none)]⟩)
  h28 : F 28 = some (.code ⟨b28, 24, [(pa 2, none)]⟩)
  h29 : F 29 = some (.code ⟨b29, 40, [(pa 6, none)]⟩)
  h30 : F 30 = some (.code ⟨b30, 39, [(pa 4, none), (pa 5, none)]⟩)
  h31 : F 31 = some (.code ⟨b31, 8, [(pa 2, none)]⟩)
  h5 : F 5 = some (.intr yesI)
end Go.Ev.Root
