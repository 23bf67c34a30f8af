/-
  PROVED: the given statement of the law FnExactSetTurn: at every input the law answers true and its arguments read as they did.
  Conditions: those of the given row alone.
-/
import Derived.Test.YtdeglehhabdkdaaRows
import Derived.Test.YtdeglehhabdkdaaLSetTurnp0
import Derived.Test.YtdeglehhabdkdaaLSetTurnp1
import Derived.Test.YtdeglehhabdkdaaLSetTurnp2
import Derived.Test.YtdeglehhabdkdaaLSetTurnp3
import Derived.Test.YtdeglehhabdkdaaLSetTurnp4
import Derived.Test.YtdeglehhabdkdaaLSetTurnp5
import Derived.Test.YtdeglehhabdkdaaLSetTurnp6
import Derived.Test.YtdeglehhabdkdaaLSetTurnp7
import Derived.Test.YtdeglehhabdkdaaLSetTurnp8
import Derived.Test.YtdeglehhabdkdaaLSetTurnp9
import Derived.Test.YtdeglehhabdkdaaLSetTurnp10
import Derived.Test.YtdeglehhabdkdaaLSetTurnp11
import Derived.Test.YtdeglehhabdkdaaLSetTurnp12
import Derived.Test.YtdeglehhabdkdaaLSetTurnp13
import Derived.Test.YtdeglehhabdkdaaLSetTurnp14
import Derived.Test.YtdeglehhabdkdaaLSetTurnp15
import Derived.Test.YtdeglehhabdkdaaLSetTurnp16
import Derived.Test.YtdeglehhabdkdaaLSetTurnp17
import Derived.Test.YtdeglehhabdkdaaLSetTurnp18
import Derived.Test.YtdeglehhabdkdaaLSetTurnp19
import Derived.Test.YtdeglehhabdkdaaJuns
set_option maxRecDepth 100000
namespace Go.Proofs.Ytdeglehhabdkdaa.lSetTurn
open Go.Sx
theorem own : ownKnob Try.prog.godebug = none := by kernel_rfl
theorem c3 : CutOk Try.prog 13 ((((((pats Try.prog 8 Try.f13.params.toList 0).getD [])).map (putSV 0 (1 + 0))).map (putSV 1 (1 + 0))).map (putSV 22 (0 + 0))) ([]) := cutOk_num 23 0 1 (fun j hj => match j, hj with
  | 0, _ => c4
  | k + 1, h => absurd h (by omega)) c5 c6
theorem c2 : CutOk Try.prog 13 (((((pats Try.prog 8 Try.f13.params.toList 0).getD [])).map (putSV 0 (1 + 0))).map (putSV 1 (1 + 0))) ([]) := cutOk_num 22 0 1 (fun j hj => match j, hj with
  | 0, _ => c3
  | k + 1, h => absurd h (by omega)) c7 c8
theorem c10 : CutOk Try.prog 13 ((((((pats Try.prog 8 Try.f13.params.toList 0).getD [])).map (putSV 0 (1 + 0))).map (putSV 1 (1 + 1))).map (putSV 22 (0 + 0))) ([]) := cutOk_num 23 0 2 (fun j hj => match j, hj with
  | 0, _ => c11
  | 1, _ => c12
  | k + 2, h => absurd h (by omega)) c13 c14
theorem c9 : CutOk Try.prog 13 (((((pats Try.prog 8 Try.f13.params.toList 0).getD [])).map (putSV 0 (1 + 0))).map (putSV 1 (1 + 1))) ([]) := cutOk_num 22 0 1 (fun j hj => match j, hj with
  | 0, _ => c10
  | k + 1, h => absurd h (by omega)) c15 c16
theorem c18 : CutOk Try.prog 13 ((((((pats Try.prog 8 Try.f13.params.toList 0).getD [])).map (putSV 0 (1 + 0))).map (putSV 1 (1 + 2))).map (putSV 22 (0 + 0))) ([]) := cutOk_num 23 0 3 (fun j hj => match j, hj with
  | 0, _ => c19
  | 1, _ => c20
  | 2, _ => c21
  | k + 3, h => absurd h (by omega)) c22 c23
theorem c17 : CutOk Try.prog 13 (((((pats Try.prog 8 Try.f13.params.toList 0).getD [])).map (putSV 0 (1 + 0))).map (putSV 1 (1 + 2))) ([]) := cutOk_num 22 0 1 (fun j hj => match j, hj with
  | 0, _ => c18
  | k + 1, h => absurd h (by omega)) c24 c25
theorem c27 : CutOk Try.prog 13 ((((((pats Try.prog 8 Try.f13.params.toList 0).getD [])).map (putSV 0 (1 + 0))).map (putSV 1 (1 + 3))).map (putSV 22 (0 + 0))) ([]) := cutOk_num 23 0 4 (fun j hj => match j, hj with
  | 0, _ => c28
  | 1, _ => c29
  | 2, _ => c30
  | 3, _ => c31
  | k + 4, h => absurd h (by omega)) c32 c33
theorem c26 : CutOk Try.prog 13 (((((pats Try.prog 8 Try.f13.params.toList 0).getD [])).map (putSV 0 (1 + 0))).map (putSV 1 (1 + 3))) ([]) := cutOk_num 22 0 1 (fun j hj => match j, hj with
  | 0, _ => c27
  | k + 1, h => absurd h (by omega)) c34 c35
theorem c1 : CutOk Try.prog 13 ((((pats Try.prog 8 Try.f13.params.toList 0).getD [])).map (putSV 0 (1 + 0))) ([]) := cutOk_num 1 1 4 (fun j hj => match j, hj with
  | 0, _ => c2
  | 1, _ => c9
  | 2, _ => c17
  | 3, _ => c26
  | k + 4, h => absurd h (by omega)) c36 c37
theorem c40 : CutOk Try.prog 13 ((((((pats Try.prog 8 Try.f13.params.toList 0).getD [])).map (putSV 0 (1 + 1))).map (putSV 1 (1 + 0))).map (putSV 22 (0 + 0))) ([]) := cutOk_num 23 0 1 (fun j hj => match j, hj with
  | 0, _ => c41
  | k + 1, h => absurd h (by omega)) c42 c43
theorem c44 : CutOk Try.prog 13 ((((((pats Try.prog 8 Try.f13.params.toList 0).getD [])).map (putSV 0 (1 + 1))).map (putSV 1 (1 + 0))).map (putSV 22 (0 + 1))) ([]) := cutOk_num 23 0 1 (fun j hj => match j, hj with
  | 0, _ => c45
  | k + 1, h => absurd h (by omega)) c46 c47
theorem c39 : CutOk Try.prog 13 (((((pats Try.prog 8 Try.f13.params.toList 0).getD [])).map (putSV 0 (1 + 1))).map (putSV 1 (1 + 0))) ([]) := cutOk_num 22 0 2 (fun j hj => match j, hj with
  | 0, _ => c40
  | 1, _ => c44
  | k + 2, h => absurd h (by omega)) c48 c49
theorem c51 : CutOk Try.prog 13 ((((((pats Try.prog 8 Try.f13.params.toList 0).getD [])).map (putSV 0 (1 + 1))).map (putSV 1 (1 + 1))).map (putSV 22 (0 + 0))) ([]) := cutOk_num 23 0 2 (fun j hj => match j, hj with
  | 0, _ => c52
  | 1, _ => c53
  | k + 2, h => absurd h (by omega)) c54 c55
theorem c56 : CutOk Try.prog 13 ((((((pats Try.prog 8 Try.f13.params.toList 0).getD [])).map (putSV 0 (1 + 1))).map (putSV 1 (1 + 1))).map (putSV 22 (0 + 1))) ([]) := cutOk_num 23 0 2 (fun j hj => match j, hj with
  | 0, _ => c57
  | 1, _ => c58
  | k + 2, h => absurd h (by omega)) c59 c60
theorem c50 : CutOk Try.prog 13 (((((pats Try.prog 8 Try.f13.params.toList 0).getD [])).map (putSV 0 (1 + 1))).map (putSV 1 (1 + 1))) ([]) := cutOk_num 22 0 2 (fun j hj => match j, hj with
  | 0, _ => c51
  | 1, _ => c56
  | k + 2, h => absurd h (by omega)) c61 c62
theorem c64 : CutOk Try.prog 13 ((((((pats Try.prog 8 Try.f13.params.toList 0).getD [])).map (putSV 0 (1 + 1))).map (putSV 1 (1 + 2))).map (putSV 22 (0 + 0))) ([]) := cutOk_num 23 0 3 (fun j hj => match j, hj with
  | 0, _ => c65
  | 1, _ => c66
  | 2, _ => c67
  | k + 3, h => absurd h (by omega)) c68 c69
theorem c70 : CutOk Try.prog 13 ((((((pats Try.prog 8 Try.f13.params.toList 0).getD [])).map (putSV 0 (1 + 1))).map (putSV 1 (1 + 2))).map (putSV 22 (0 + 1))) ([]) := cutOk_num 23 0 3 (fun j hj => match j, hj with
  | 0, _ => c71
  | 1, _ => c72
  | 2, _ => c73
  | k + 3, h => absurd h (by omega)) c74 c75
theorem c63 : CutOk Try.prog 13 (((((pats Try.prog 8 Try.f13.params.toList 0).getD [])).map (putSV 0 (1 + 1))).map (putSV 1 (1 + 2))) ([]) := cutOk_num 22 0 2 (fun j hj => match j, hj with
  | 0, _ => c64
  | 1, _ => c70
  | k + 2, h => absurd h (by omega)) c76 c77
theorem c79 : CutOk Try.prog 13 ((((((pats Try.prog 8 Try.f13.params.toList 0).getD [])).map (putSV 0 (1 + 1))).map (putSV 1 (1 + 3))).map (putSV 22 (0 + 0))) ([]) := cutOk_num 23 0 4 (fun j hj => match j, hj with
  | 0, _ => c80
  | 1, _ => c81
  | 2, _ => c82
  | 3, _ => c83
  | k + 4, h => absurd h (by omega)) c84 c85
theorem c86 : CutOk Try.prog 13 ((((((pats Try.prog 8 Try.f13.params.toList 0).getD [])).map (putSV 0 (1 + 1))).map (putSV 1 (1 + 3))).map (putSV 22 (0 + 1))) ([]) := cutOk_num 23 0 4 (fun j hj => match j, hj with
  | 0, _ => c87
  | 1, _ => c88
  | 2, _ => c89
  | 3, _ => c90
  | k + 4, h => absurd h (by omega)) c91 c92
theorem c78 : CutOk Try.prog 13 (((((pats Try.prog 8 Try.f13.params.toList 0).getD [])).map (putSV 0 (1 + 1))).map (putSV 1 (1 + 3))) ([]) := cutOk_num 22 0 2 (fun j hj => match j, hj with
  | 0, _ => c79
  | 1, _ => c86
  | k + 2, h => absurd h (by omega)) c93 c94
theorem c38 : CutOk Try.prog 13 ((((pats Try.prog 8 Try.f13.params.toList 0).getD [])).map (putSV 0 (1 + 1))) ([]) := cutOk_num 1 1 4 (fun j hj => match j, hj with
  | 0, _ => c39
  | 1, _ => c50
  | 2, _ => c63
  | 3, _ => c78
  | k + 4, h => absurd h (by omega)) c95 c96
theorem c99 : CutOk Try.prog 13 ((((((pats Try.prog 8 Try.f13.params.toList 0).getD [])).map (putSV 0 (1 + 2))).map (putSV 1 (1 + 0))).map (putSV 22 (0 + 0))) ([]) := cutOk_num 23 0 1 (fun j hj => match j, hj with
  | 0, _ => c100
  | k + 1, h => absurd h (by omega)) c101 c102
theorem c103 : CutOk Try.prog 13 ((((((pats Try.prog 8 Try.f13.params.toList 0).getD [])).map (putSV 0 (1 + 2))).map (putSV 1 (1 + 0))).map (putSV 22 (0 + 1))) ([]) := cutOk_num 23 0 1 (fun j hj => match j, hj with
  | 0, _ => c104
  | k + 1, h => absurd h (by omega)) c105 c106
theorem c107 : CutOk Try.prog 13 ((((((pats Try.prog 8 Try.f13.params.toList 0).getD [])).map (putSV 0 (1 + 2))).map (putSV 1 (1 + 0))).map (putSV 22 (0 + 2))) ([]) := cutOk_num 23 0 1 (fun j hj => match j, hj with
  | 0, _ => c108
  | k + 1, h => absurd h (by omega)) c109 c110
theorem c98 : CutOk Try.prog 13 (((((pats Try.prog 8 Try.f13.params.toList 0).getD [])).map (putSV 0 (1 + 2))).map (putSV 1 (1 + 0))) ([]) := cutOk_num 22 0 3 (fun j hj => match j, hj with
  | 0, _ => c99
  | 1, _ => c103
  | 2, _ => c107
  | k + 3, h => absurd h (by omega)) c111 c112
theorem c114 : CutOk Try.prog 13 ((((((pats Try.prog 8 Try.f13.params.toList 0).getD [])).map (putSV 0 (1 + 2))).map (putSV 1 (1 + 1))).map (putSV 22 (0 + 0))) ([]) := cutOk_num 23 0 2 (fun j hj => match j, hj with
  | 0, _ => c115
  | 1, _ => c116
  | k + 2, h => absurd h (by omega)) c117 c118
theorem c119 : CutOk Try.prog 13 ((((((pats Try.prog 8 Try.f13.params.toList 0).getD [])).map (putSV 0 (1 + 2))).map (putSV 1 (1 + 1))).map (putSV 22 (0 + 1))) ([]) := cutOk_num 23 0 2 (fun j hj => match j, hj with
  | 0, _ => c120
  | 1, _ => c121
  | k + 2, h => absurd h (by omega)) c122 c123
theorem c124 : CutOk Try.prog 13 ((((((pats Try.prog 8 Try.f13.params.toList 0).getD [])).map (putSV 0 (1 + 2))).map (putSV 1 (1 + 1))).map (putSV 22 (0 + 2))) ([]) := cutOk_num 23 0 2 (fun j hj => match j, hj with
  | 0, _ => c125
  | 1, _ => c126
  | k + 2, h => absurd h (by omega)) c127 c128
theorem c113 : CutOk Try.prog 13 (((((pats Try.prog 8 Try.f13.params.toList 0).getD [])).map (putSV 0 (1 + 2))).map (putSV 1 (1 + 1))) ([]) := cutOk_num 22 0 3 (fun j hj => match j, hj with
  | 0, _ => c114
  | 1, _ => c119
  | 2, _ => c124
  | k + 3, h => absurd h (by omega)) c129 c130
theorem c132 : CutOk Try.prog 13 ((((((pats Try.prog 8 Try.f13.params.toList 0).getD [])).map (putSV 0 (1 + 2))).map (putSV 1 (1 + 2))).map (putSV 22 (0 + 0))) ([]) := cutOk_num 23 0 3 (fun j hj => match j, hj with
  | 0, _ => c133
  | 1, _ => c134
  | 2, _ => c135
  | k + 3, h => absurd h (by omega)) c136 c137
theorem c138 : CutOk Try.prog 13 ((((((pats Try.prog 8 Try.f13.params.toList 0).getD [])).map (putSV 0 (1 + 2))).map (putSV 1 (1 + 2))).map (putSV 22 (0 + 1))) ([]) := cutOk_num 23 0 3 (fun j hj => match j, hj with
  | 0, _ => c139
  | 1, _ => c140
  | 2, _ => c141
  | k + 3, h => absurd h (by omega)) c142 c143
theorem c144 : CutOk Try.prog 13 ((((((pats Try.prog 8 Try.f13.params.toList 0).getD [])).map (putSV 0 (1 + 2))).map (putSV 1 (1 + 2))).map (putSV 22 (0 + 2))) ([]) := cutOk_num 23 0 3 (fun j hj => match j, hj with
  | 0, _ => c145
  | 1, _ => c146
  | 2, _ => c147
  | k + 3, h => absurd h (by omega)) c148 c149
theorem c131 : CutOk Try.prog 13 (((((pats Try.prog 8 Try.f13.params.toList 0).getD [])).map (putSV 0 (1 + 2))).map (putSV 1 (1 + 2))) ([]) := cutOk_num 22 0 3 (fun j hj => match j, hj with
  | 0, _ => c132
  | 1, _ => c138
  | 2, _ => c144
  | k + 3, h => absurd h (by omega)) c150 c151
theorem c153 : CutOk Try.prog 13 ((((((pats Try.prog 8 Try.f13.params.toList 0).getD [])).map (putSV 0 (1 + 2))).map (putSV 1 (1 + 3))).map (putSV 22 (0 + 0))) ([]) := cutOk_num 23 0 4 (fun j hj => match j, hj with
  | 0, _ => c154
  | 1, _ => c155
  | 2, _ => c156
  | 3, _ => c157
  | k + 4, h => absurd h (by omega)) c158 c159
theorem c160 : CutOk Try.prog 13 ((((((pats Try.prog 8 Try.f13.params.toList 0).getD [])).map (putSV 0 (1 + 2))).map (putSV 1 (1 + 3))).map (putSV 22 (0 + 1))) ([]) := cutOk_num 23 0 4 (fun j hj => match j, hj with
  | 0, _ => c161
  | 1, _ => c162
  | 2, _ => c163
  | 3, _ => c164
  | k + 4, h => absurd h (by omega)) c165 c166
theorem c167 : CutOk Try.prog 13 ((((((pats Try.prog 8 Try.f13.params.toList 0).getD [])).map (putSV 0 (1 + 2))).map (putSV 1 (1 + 3))).map (putSV 22 (0 + 2))) ([]) := cutOk_num 23 0 4 (fun j hj => match j, hj with
  | 0, _ => c168
  | 1, _ => c169
  | 2, _ => c170
  | 3, _ => c171
  | k + 4, h => absurd h (by omega)) c172 c173
theorem c152 : CutOk Try.prog 13 (((((pats Try.prog 8 Try.f13.params.toList 0).getD [])).map (putSV 0 (1 + 2))).map (putSV 1 (1 + 3))) ([]) := cutOk_num 22 0 3 (fun j hj => match j, hj with
  | 0, _ => c153
  | 1, _ => c160
  | 2, _ => c167
  | k + 3, h => absurd h (by omega)) c174 c175
theorem c97 : CutOk Try.prog 13 ((((pats Try.prog 8 Try.f13.params.toList 0).getD [])).map (putSV 0 (1 + 2))) ([]) := cutOk_num 1 1 4 (fun j hj => match j, hj with
  | 0, _ => c98
  | 1, _ => c113
  | 2, _ => c131
  | 3, _ => c152
  | k + 4, h => absurd h (by omega)) c176 c177
theorem c180 : CutOk Try.prog 13 ((((((pats Try.prog 8 Try.f13.params.toList 0).getD [])).map (putSV 0 (1 + 3))).map (putSV 1 (1 + 0))).map (putSV 22 (0 + 0))) ([]) := cutOk_num 23 0 1 (fun j hj => match j, hj with
  | 0, _ => c181
  | k + 1, h => absurd h (by omega)) c182 c183
theorem c184 : CutOk Try.prog 13 ((((((pats Try.prog 8 Try.f13.params.toList 0).getD [])).map (putSV 0 (1 + 3))).map (putSV 1 (1 + 0))).map (putSV 22 (0 + 1))) ([]) := cutOk_num 23 0 1 (fun j hj => match j, hj with
  | 0, _ => c185
  | k + 1, h => absurd h (by omega)) c186 c187
theorem c188 : CutOk Try.prog 13 ((((((pats Try.prog 8 Try.f13.params.toList 0).getD [])).map (putSV 0 (1 + 3))).map (putSV 1 (1 + 0))).map (putSV 22 (0 + 2))) ([]) := cutOk_num 23 0 1 (fun j hj => match j, hj with
  | 0, _ => c189
  | k + 1, h => absurd h (by omega)) c190 c191
theorem c192 : CutOk Try.prog 13 ((((((pats Try.prog 8 Try.f13.params.toList 0).getD [])).map (putSV 0 (1 + 3))).map (putSV 1 (1 + 0))).map (putSV 22 (0 + 3))) ([]) := cutOk_num 23 0 1 (fun j hj => match j, hj with
  | 0, _ => c193
  | k + 1, h => absurd h (by omega)) c194 c195
theorem c179 : CutOk Try.prog 13 (((((pats Try.prog 8 Try.f13.params.toList 0).getD [])).map (putSV 0 (1 + 3))).map (putSV 1 (1 + 0))) ([]) := cutOk_num 22 0 4 (fun j hj => match j, hj with
  | 0, _ => c180
  | 1, _ => c184
  | 2, _ => c188
  | 3, _ => c192
  | k + 4, h => absurd h (by omega)) c196 c197
theorem c199 : CutOk Try.prog 13 ((((((pats Try.prog 8 Try.f13.params.toList 0).getD [])).map (putSV 0 (1 + 3))).map (putSV 1 (1 + 1))).map (putSV 22 (0 + 0))) ([]) := cutOk_num 23 0 2 (fun j hj => match j, hj with
  | 0, _ => c200
  | 1, _ => c201
  | k + 2, h => absurd h (by omega)) c202 c203
theorem c204 : CutOk Try.prog 13 ((((((pats Try.prog 8 Try.f13.params.toList 0).getD [])).map (putSV 0 (1 + 3))).map (putSV 1 (1 + 1))).map (putSV 22 (0 + 1))) ([]) := cutOk_num 23 0 2 (fun j hj => match j, hj with
  | 0, _ => c205
  | 1, _ => c206
  | k + 2, h => absurd h (by omega)) c207 c208
theorem c209 : CutOk Try.prog 13 ((((((pats Try.prog 8 Try.f13.params.toList 0).getD [])).map (putSV 0 (1 + 3))).map (putSV 1 (1 + 1))).map (putSV 22 (0 + 2))) ([]) := cutOk_num 23 0 2 (fun j hj => match j, hj with
  | 0, _ => c210
  | 1, _ => c211
  | k + 2, h => absurd h (by omega)) c212 c213
theorem c214 : CutOk Try.prog 13 ((((((pats Try.prog 8 Try.f13.params.toList 0).getD [])).map (putSV 0 (1 + 3))).map (putSV 1 (1 + 1))).map (putSV 22 (0 + 3))) ([]) := cutOk_num 23 0 2 (fun j hj => match j, hj with
  | 0, _ => c215
  | 1, _ => c216
  | k + 2, h => absurd h (by omega)) c217 c218
theorem c198 : CutOk Try.prog 13 (((((pats Try.prog 8 Try.f13.params.toList 0).getD [])).map (putSV 0 (1 + 3))).map (putSV 1 (1 + 1))) ([]) := cutOk_num 22 0 4 (fun j hj => match j, hj with
  | 0, _ => c199
  | 1, _ => c204
  | 2, _ => c209
  | 3, _ => c214
  | k + 4, h => absurd h (by omega)) c219 c220
theorem c222 : CutOk Try.prog 13 ((((((pats Try.prog 8 Try.f13.params.toList 0).getD [])).map (putSV 0 (1 + 3))).map (putSV 1 (1 + 2))).map (putSV 22 (0 + 0))) ([]) := cutOk_num 23 0 3 (fun j hj => match j, hj with
  | 0, _ => c223
  | 1, _ => c224
  | 2, _ => c225
  | k + 3, h => absurd h (by omega)) c226 c227
theorem c228 : CutOk Try.prog 13 ((((((pats Try.prog 8 Try.f13.params.toList 0).getD [])).map (putSV 0 (1 + 3))).map (putSV 1 (1 + 2))).map (putSV 22 (0 + 1))) ([]) := cutOk_num 23 0 3 (fun j hj => match j, hj with
  | 0, _ => c229
  | 1, _ => c230
  | 2, _ => c231
  | k + 3, h => absurd h (by omega)) c232 c233
theorem c234 : CutOk Try.prog 13 ((((((pats Try.prog 8 Try.f13.params.toList 0).getD [])).map (putSV 0 (1 + 3))).map (putSV 1 (1 + 2))).map (putSV 22 (0 + 2))) ([]) := cutOk_num 23 0 3 (fun j hj => match j, hj with
  | 0, _ => c235
  | 1, _ => c236
  | 2, _ => c237
  | k + 3, h => absurd h (by omega)) c238 c239
theorem c240 : CutOk Try.prog 13 ((((((pats Try.prog 8 Try.f13.params.toList 0).getD [])).map (putSV 0 (1 + 3))).map (putSV 1 (1 + 2))).map (putSV 22 (0 + 3))) ([]) := cutOk_num 23 0 3 (fun j hj => match j, hj with
  | 0, _ => c241
  | 1, _ => c242
  | 2, _ => c243
  | k + 3, h => absurd h (by omega)) c244 c245
theorem c221 : CutOk Try.prog 13 (((((pats Try.prog 8 Try.f13.params.toList 0).getD [])).map (putSV 0 (1 + 3))).map (putSV 1 (1 + 2))) ([]) := cutOk_num 22 0 4 (fun j hj => match j, hj with
  | 0, _ => c222
  | 1, _ => c228
  | 2, _ => c234
  | 3, _ => c240
  | k + 4, h => absurd h (by omega)) c246 c247
theorem c249 : CutOk Try.prog 13 ((((((pats Try.prog 8 Try.f13.params.toList 0).getD [])).map (putSV 0 (1 + 3))).map (putSV 1 (1 + 3))).map (putSV 22 (0 + 0))) ([]) := cutOk_num 23 0 4 (fun j hj => match j, hj with
  | 0, _ => c250
  | 1, _ => c251
  | 2, _ => c252
  | 3, _ => c253
  | k + 4, h => absurd h (by omega)) c254 c255
theorem c256 : CutOk Try.prog 13 ((((((pats Try.prog 8 Try.f13.params.toList 0).getD [])).map (putSV 0 (1 + 3))).map (putSV 1 (1 + 3))).map (putSV 22 (0 + 1))) ([]) := cutOk_num 23 0 4 (fun j hj => match j, hj with
  | 0, _ => c257
  | 1, _ => c258
  | 2, _ => c259
  | 3, _ => c260
  | k + 4, h => absurd h (by omega)) c261 c262
theorem c263 : CutOk Try.prog 13 ((((((pats Try.prog 8 Try.f13.params.toList 0).getD [])).map (putSV 0 (1 + 3))).map (putSV 1 (1 + 3))).map (putSV 22 (0 + 2))) ([]) := cutOk_num 23 0 4 (fun j hj => match j, hj with
  | 0, _ => c264
  | 1, _ => c265
  | 2, _ => c266
  | 3, _ => c267
  | k + 4, h => absurd h (by omega)) c268 c269
theorem c270 : CutOk Try.prog 13 ((((((pats Try.prog 8 Try.f13.params.toList 0).getD [])).map (putSV 0 (1 + 3))).map (putSV 1 (1 + 3))).map (putSV 22 (0 + 3))) ([]) := cutOk_num 23 0 4 (fun j hj => match j, hj with
  | 0, _ => c271
  | 1, _ => c272
  | 2, _ => c273
  | 3, _ => c274
  | k + 4, h => absurd h (by omega)) c275 c276
theorem c248 : CutOk Try.prog 13 (((((pats Try.prog 8 Try.f13.params.toList 0).getD [])).map (putSV 0 (1 + 3))).map (putSV 1 (1 + 3))) ([]) := cutOk_num 22 0 4 (fun j hj => match j, hj with
  | 0, _ => c249
  | 1, _ => c256
  | 2, _ => c263
  | 3, _ => c270
  | k + 4, h => absurd h (by omega)) c277 c278
theorem c178 : CutOk Try.prog 13 ((((pats Try.prog 8 Try.f13.params.toList 0).getD [])).map (putSV 0 (1 + 3))) ([]) := cutOk_num 1 1 4 (fun j hj => match j, hj with
  | 0, _ => c179
  | 1, _ => c198
  | 2, _ => c221
  | 3, _ => c248
  | k + 4, h => absurd h (by omega)) c279 c280
theorem c0 : CutOk Try.prog 13 (((pats Try.prog 8 Try.f13.params.toList 0).getD [])) ([]) := cutOk_num 0 1 4 (fun j hj => match j, hj with
  | 0, _ => c1
  | 1, _ => c38
  | 2, _ => c97
  | 3, _ => c178
  | k + 4, h => absurd h (by omega)) c281 c282
theorem walked : LawOk Try.prog 13 ((pats Try.prog 8 Try.f13.params.toList 0).getD []) := lawOk_of c0
theorem lifted (os : Os) (started : os.Started) (H : Type) (enc : TypeId × Value → H) :
    ReturnsInHanded {} Try.checked os 13 .any (Rows.fnExactSetTurnSpec.pre6 enc Try.prog Try.f13 Rows.fnExactSetTurnRow.domain false) (Rows.fnExactSetTurnSpec.post enc Try.prog Try.f13 false true false false) :=
  lifted_law (C := Try.checked) (tb := 4) (n := 8) own started (by kernel_rfl) Try.func13 rfl (by kernel_rfl) (by kernel_rfl) (args := (pats Try.prog 8 Try.f13.params.toList 0).getD []) (by kernel_rfl)
    (fun ds h => by
      have h' : ds.length = 4 := h
      match ds, h' with
      | [_, _, _, _], _ => rfl)
    walked
    (ChangeSpec.witness6 (enc := enc) (C := Try.checked) false ⟨#[], (Try.f13.params.toList.map (zeroV Try.prog 8)).toArray, []⟩ 8 (by kernel_rfl) (by kernel_rfl) (by kernel_rfl) (by kernel_rfl))
theorem proved : Rows.FnExactSetTurnSaid :=
  OpenClaim.holds_of_wide 13 Try.f13 rfl rfl rfl rfl rfl rfl rfl ⟨rfl, rfl, rfl, rfl, rfl⟩ rfl rfl rfl rfl rfl (by kernel_rfl) Try.func13 (by kernel_rfl)
    (of_decide_eq_true (by kernel_rfl)) (by unfold Func.isWrapper; first | (rw [if_pos (by decide +kernel)]; kernel_rfl) | (rw [if_neg (by decide +kernel)]; exact ⟨rfl, rfl⟩))
    (fun os started H enc _ => lifted os started H enc)
end Go.Proofs.Ytdeglehhabdkdaa.lSetTurn
