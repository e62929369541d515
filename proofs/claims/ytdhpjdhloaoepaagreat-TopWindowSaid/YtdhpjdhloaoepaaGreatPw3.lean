/- Part 3 of the proof: lemmas that the walk of TopWindow needs. -/
import Derived.Test.YtdhpjdhloaoepaaGreatProg
import Derived.Laws.Bits64
import Derived.Test.YtdhpjdhloaoepaaGreatPw2
set_option linter.unusedSimpArgs false
set_option linter.unusedVariables false
/- What the types and functions of the program are, as instances. -/
namespace Go.Proofs.YtdhpjdhloaoepaaGreat
open Go Go.Proofs
abbrev ui2 := UI.mk Tryz.underlying2
abbrev si2 := SI.mk Tryz.sizeOf2
abbrev ai2 := AI.mk Tryz.isAgg2
abbrev zi2 := ZI.mk Tryz.zeroValue2
abbrev ui3 := UI.mk Tryz.underlying3
abbrev si3 := SI.mk Tryz.sizeOf3
abbrev ai3 := AI.mk Tryz.isAgg3
abbrev zi3 := ZI.mk Tryz.zeroValue3
abbrev ui4 := UI.mk Tryz.underlying4
abbrev si4 := SI.mk Tryz.sizeOf4
abbrev ai4 := AI.mk Tryz.isAgg4
abbrev zi4 := ZI.mk Tryz.zeroValue4
abbrev ui5 := UI.mk Tryz.underlying5
abbrev si5 := SI.mk Tryz.sizeOf5
abbrev ai5 := AI.mk Tryz.isAgg5
abbrev zi5 := ZI.mk Tryz.zeroValue5
abbrev ui9 := UI.mk Tryz.underlying9
abbrev si9 := SI.mk Tryz.sizeOf9
abbrev ai9 := AI.mk Tryz.isAgg9
abbrev zi9 := ZI.mk Tryz.zeroValue9
abbrev ui12 := UI.mk Tryz.underlying12
abbrev si12 := SI.mk Tryz.sizeOf12
abbrev ai12 := AI.mk Tryz.isAgg12
abbrev zi12 := ZI.mk Tryz.zeroValue12
abbrev ui13 := UI.mk Tryz.underlying13
abbrev si13 := SI.mk Tryz.sizeOf13
abbrev ai13 := AI.mk Tryz.isAgg13
abbrev zi13 := ZI.mk Tryz.zeroValue13
abbrev ui19 := UI.mk Tryz.underlying19
abbrev si19 := SI.mk Tryz.sizeOf19
abbrev ai19 := AI.mk Tryz.isAgg19
abbrev zi19 := ZI.mk Tryz.zeroValue19
abbrev ui21 := UI.mk Tryz.underlying21
abbrev si21 := SI.mk Tryz.sizeOf21
abbrev ai21 := AI.mk Tryz.isAgg21
abbrev zi21 := ZI.mk Tryz.zeroValue21
abbrev ui22 := UI.mk Tryz.underlying22
abbrev si22 := SI.mk Tryz.sizeOf22
abbrev ai22 := AI.mk Tryz.isAgg22
abbrev zi22 := ZI.mk Tryz.zeroValue22
abbrev ui23 := UI.mk Tryz.underlying23
abbrev si23 := SI.mk Tryz.sizeOf23
abbrev ai23 := AI.mk Tryz.isAgg23
abbrev zi23 := ZI.mk Tryz.zeroValue23
abbrev ui25 := UI.mk Tryz.underlying25
abbrev si25 := SI.mk Tryz.sizeOf25
abbrev ai25 := AI.mk Tryz.isAgg25
abbrev zi25 := ZI.mk Tryz.zeroValue25
abbrev ui26 := UI.mk Tryz.underlying26
abbrev si26 := SI.mk Tryz.sizeOf26
abbrev ai26 := AI.mk Tryz.isAgg26
abbrev zi26 := ZI.mk Tryz.zeroValue26
abbrev ui29 := UI.mk Tryz.underlying29
abbrev si29 := SI.mk Tryz.sizeOf29
abbrev ai29 := AI.mk Tryz.isAgg29
abbrev zi29 := ZI.mk Tryz.zeroValue29
abbrev ui31 := UI.mk Tryz.underlying31
abbrev si31 := SI.mk Tryz.sizeOf31
abbrev ai31 := AI.mk Tryz.isAgg31
abbrev zi31 := ZI.mk Tryz.zeroValue31
abbrev ui35 := UI.mk Tryz.underlying35
abbrev si35 := SI.mk Tryz.sizeOf35
abbrev ai35 := AI.mk Tryz.isAgg35
abbrev zi35 := ZI.mk Tryz.zeroValue35
abbrev ui36 := UI.mk Tryz.underlying36
abbrev si36 := SI.mk Tryz.sizeOf36
abbrev ai36 := AI.mk Tryz.isAgg36
abbrev zi36 := ZI.mk Tryz.zeroValue36
abbrev ui37 := UI.mk Tryz.underlying37
abbrev si37 := SI.mk Tryz.sizeOf37
abbrev ai37 := AI.mk Tryz.isAgg37
abbrev zi37 := ZI.mk Tryz.zeroValue37
abbrev ui38 := UI.mk Tryz.underlying38
abbrev si38 := SI.mk Tryz.sizeOf38
abbrev ai38 := AI.mk Tryz.isAgg38
abbrev zi38 := ZI.mk Tryz.zeroValue38
abbrev ui39 := UI.mk Tryz.underlying39
abbrev si39 := SI.mk Tryz.sizeOf39
abbrev ai39 := AI.mk Tryz.isAgg39
abbrev zi39 := ZI.mk Tryz.zeroValue39
abbrev ui40 := UI.mk Tryz.underlying40
abbrev si40 := SI.mk Tryz.sizeOf40
abbrev ai40 := AI.mk Tryz.isAgg40
abbrev zi40 := ZI.mk Tryz.zeroValue40
abbrev ui41 := UI.mk Tryz.underlying41
abbrev si41 := SI.mk Tryz.sizeOf41
abbrev ai41 := AI.mk Tryz.isAgg41
abbrev zi41 := ZI.mk Tryz.zeroValue41
abbrev ui42 := UI.mk Tryz.underlying42
abbrev si42 := SI.mk Tryz.sizeOf42
abbrev ai42 := AI.mk Tryz.isAgg42
abbrev zi42 := ZI.mk Tryz.zeroValue42
abbrev ui43 := UI.mk Tryz.underlying43
abbrev si43 := SI.mk Tryz.sizeOf43
abbrev ai43 := AI.mk Tryz.isAgg43
abbrev zi43 := ZI.mk Tryz.zeroValue43
abbrev ui44 := UI.mk Tryz.underlying44
abbrev si44 := SI.mk Tryz.sizeOf44
abbrev ai44 := AI.mk Tryz.isAgg44
abbrev zi44 := ZI.mk Tryz.zeroValue44
abbrev ui45 := UI.mk Tryz.underlying45
abbrev si45 := SI.mk Tryz.sizeOf45
abbrev ai45 := AI.mk Tryz.isAgg45
abbrev zi45 := ZI.mk Tryz.zeroValue45
abbrev ui46 := UI.mk Tryz.underlying46
abbrev si46 := SI.mk Tryz.sizeOf46
abbrev ai46 := AI.mk Tryz.isAgg46
abbrev zi46 := ZI.mk Tryz.zeroValue46
abbrev ui47 := UI.mk Tryz.underlying47
abbrev si47 := SI.mk Tryz.sizeOf47
abbrev ai47 := AI.mk Tryz.isAgg47
abbrev zi47 := ZI.mk Tryz.zeroValue47
abbrev ui48 := UI.mk Tryz.underlying48
abbrev si48 := SI.mk Tryz.sizeOf48
abbrev ai48 := AI.mk Tryz.isAgg48
abbrev zi48 := ZI.mk Tryz.zeroValue48
abbrev ui49 := UI.mk Tryz.underlying49
abbrev si49 := SI.mk Tryz.sizeOf49
abbrev ai49 := AI.mk Tryz.isAgg49
abbrev zi49 := ZI.mk Tryz.zeroValue49
abbrev ui51 := UI.mk Tryz.underlying51
abbrev si51 := SI.mk Tryz.sizeOf51
abbrev ai51 := AI.mk Tryz.isAgg51
abbrev zi51 := ZI.mk Tryz.zeroValue51
abbrev ui53 := UI.mk Tryz.underlying53
abbrev si53 := SI.mk Tryz.sizeOf53
abbrev ai53 := AI.mk Tryz.isAgg53
abbrev zi53 := ZI.mk Tryz.zeroValue53
abbrev ui55 := UI.mk Tryz.underlying55
abbrev si55 := SI.mk Tryz.sizeOf55
abbrev ai55 := AI.mk Tryz.isAgg55
abbrev zi55 := ZI.mk Tryz.zeroValue55
abbrev ui59 := UI.mk Tryz.underlying59
abbrev si59 := SI.mk Tryz.sizeOf59
abbrev ai59 := AI.mk Tryz.isAgg59
abbrev zi59 := ZI.mk Tryz.zeroValue59
abbrev ui60 := UI.mk Tryz.underlying60
abbrev si60 := SI.mk Tryz.sizeOf60
abbrev ai60 := AI.mk Tryz.isAgg60
abbrev zi60 := ZI.mk Tryz.zeroValue60
abbrev ui62 := UI.mk Tryz.underlying62
abbrev si62 := SI.mk Tryz.sizeOf62
abbrev ai62 := AI.mk Tryz.isAgg62
abbrev zi62 := ZI.mk Tryz.zeroValue62
abbrev ui71 := UI.mk Tryz.underlying71
abbrev si71 := SI.mk Tryz.sizeOf71
abbrev ai71 := AI.mk Tryz.isAgg71
abbrev zi71 := ZI.mk Tryz.zeroValue71
abbrev ui72 := UI.mk Tryz.underlying72
abbrev si72 := SI.mk Tryz.sizeOf72
abbrev ai72 := AI.mk Tryz.isAgg72
abbrev zi72 := ZI.mk Tryz.zeroValue72
abbrev ui76 := UI.mk Tryz.underlying76
abbrev si76 := SI.mk Tryz.sizeOf76
abbrev ai76 := AI.mk Tryz.isAgg76
abbrev zi76 := ZI.mk Tryz.zeroValue76
abbrev ui78 := UI.mk Tryz.underlying78
abbrev si78 := SI.mk Tryz.sizeOf78
abbrev ai78 := AI.mk Tryz.isAgg78
abbrev zi78 := ZI.mk Tryz.zeroValue78
abbrev ui81 := UI.mk Tryz.underlying81
abbrev si81 := SI.mk Tryz.sizeOf81
abbrev ai81 := AI.mk Tryz.isAgg81
abbrev zi81 := ZI.mk Tryz.zeroValue81
abbrev ui82 := UI.mk Tryz.underlying82
abbrev si82 := SI.mk Tryz.sizeOf82
abbrev ai82 := AI.mk Tryz.isAgg82
abbrev zi82 := ZI.mk Tryz.zeroValue82
abbrev ui83 := UI.mk Tryz.underlying83
abbrev si83 := SI.mk Tryz.sizeOf83
abbrev ai83 := AI.mk Tryz.isAgg83
abbrev zi83 := ZI.mk Tryz.zeroValue83
abbrev ui84 := UI.mk Tryz.underlying84
abbrev si84 := SI.mk Tryz.sizeOf84
abbrev ai84 := AI.mk Tryz.isAgg84
abbrev zi84 := ZI.mk Tryz.zeroValue84
abbrev ui85 := UI.mk Tryz.underlying85
abbrev si85 := SI.mk Tryz.sizeOf85
abbrev ai85 := AI.mk Tryz.isAgg85
abbrev zi85 := ZI.mk Tryz.zeroValue85
abbrev ui86 := UI.mk Tryz.underlying86
abbrev si86 := SI.mk Tryz.sizeOf86
abbrev ai86 := AI.mk Tryz.isAgg86
abbrev zi86 := ZI.mk Tryz.zeroValue86
abbrev ui87 := UI.mk Tryz.underlying87
abbrev si87 := SI.mk Tryz.sizeOf87
abbrev ai87 := AI.mk Tryz.isAgg87
abbrev zi87 := ZI.mk Tryz.zeroValue87
abbrev ui88 := UI.mk Tryz.underlying88
abbrev si88 := SI.mk Tryz.sizeOf88
abbrev ai88 := AI.mk Tryz.isAgg88
abbrev zi88 := ZI.mk Tryz.zeroValue88
abbrev ui89 := UI.mk Tryz.underlying89
abbrev si89 := SI.mk Tryz.sizeOf89
abbrev ai89 := AI.mk Tryz.isAgg89
abbrev zi89 := ZI.mk Tryz.zeroValue89
abbrev ui90 := UI.mk Tryz.underlying90
abbrev si90 := SI.mk Tryz.sizeOf90
abbrev ai90 := AI.mk Tryz.isAgg90
abbrev zi90 := ZI.mk Tryz.zeroValue90
abbrev ui91 := UI.mk Tryz.underlying91
abbrev si91 := SI.mk Tryz.sizeOf91
abbrev ai91 := AI.mk Tryz.isAgg91
abbrev zi91 := ZI.mk Tryz.zeroValue91
abbrev ui92 := UI.mk Tryz.underlying92
abbrev si92 := SI.mk Tryz.sizeOf92
abbrev ai92 := AI.mk Tryz.isAgg92
abbrev zi92 := ZI.mk Tryz.zeroValue92
abbrev ui93 := UI.mk Tryz.underlying93
abbrev si93 := SI.mk Tryz.sizeOf93
abbrev ai93 := AI.mk Tryz.isAgg93
abbrev zi93 := ZI.mk Tryz.zeroValue93
abbrev ui94 := UI.mk Tryz.underlying94
abbrev si94 := SI.mk Tryz.sizeOf94
abbrev ai94 := AI.mk Tryz.isAgg94
abbrev zi94 := ZI.mk Tryz.zeroValue94
abbrev ui95 := UI.mk Tryz.underlying95
abbrev si95 := SI.mk Tryz.sizeOf95
abbrev ai95 := AI.mk Tryz.isAgg95
abbrev zi95 := ZI.mk Tryz.zeroValue95
abbrev ui96 := UI.mk Tryz.underlying96
abbrev si96 := SI.mk Tryz.sizeOf96
abbrev ai96 := AI.mk Tryz.isAgg96
abbrev zi96 := ZI.mk Tryz.zeroValue96
abbrev ui97 := UI.mk Tryz.underlying97
abbrev si97 := SI.mk Tryz.sizeOf97
abbrev ai97 := AI.mk Tryz.isAgg97
abbrev zi97 := ZI.mk Tryz.zeroValue97
abbrev ui98 := UI.mk Tryz.underlying98
abbrev si98 := SI.mk Tryz.sizeOf98
abbrev ai98 := AI.mk Tryz.isAgg98
abbrev zi98 := ZI.mk Tryz.zeroValue98
abbrev ui99 := UI.mk Tryz.underlying99
abbrev si99 := SI.mk Tryz.sizeOf99
abbrev ai99 := AI.mk Tryz.isAgg99
abbrev zi99 := ZI.mk Tryz.zeroValue99
abbrev ui100 := UI.mk Tryz.underlying100
abbrev si100 := SI.mk Tryz.sizeOf100
abbrev ai100 := AI.mk Tryz.isAgg100
abbrev zi100 := ZI.mk Tryz.zeroValue100
abbrev ui101 := UI.mk Tryz.underlying101
abbrev si101 := SI.mk Tryz.sizeOf101
abbrev ai101 := AI.mk Tryz.isAgg101
abbrev zi101 := ZI.mk Tryz.zeroValue101
abbrev ui102 := UI.mk Tryz.underlying102
abbrev si102 := SI.mk Tryz.sizeOf102
abbrev ai102 := AI.mk Tryz.isAgg102
abbrev zi102 := ZI.mk Tryz.zeroValue102
abbrev ui103 := UI.mk Tryz.underlying103
abbrev si103 := SI.mk Tryz.sizeOf103
abbrev ai103 := AI.mk Tryz.isAgg103
abbrev zi103 := ZI.mk Tryz.zeroValue103
abbrev ui104 := UI.mk Tryz.underlying104
abbrev si104 := SI.mk Tryz.sizeOf104
abbrev ai104 := AI.mk Tryz.isAgg104
abbrev zi104 := ZI.mk Tryz.zeroValue104
abbrev ui108 := UI.mk Tryz.underlying108
abbrev si108 := SI.mk Tryz.sizeOf108
abbrev ai108 := AI.mk Tryz.isAgg108
abbrev zi108 := ZI.mk Tryz.zeroValue108
abbrev ui117 := UI.mk Tryz.underlying117
abbrev si117 := SI.mk Tryz.sizeOf117
abbrev ai117 := AI.mk Tryz.isAgg117
abbrev zi117 := ZI.mk Tryz.zeroValue117
abbrev ui118 := UI.mk Tryz.underlying118
abbrev si118 := SI.mk Tryz.sizeOf118
abbrev ai118 := AI.mk Tryz.isAgg118
abbrev zi118 := ZI.mk Tryz.zeroValue118
abbrev ui119 := UI.mk Tryz.underlying119
abbrev si119 := SI.mk Tryz.sizeOf119
abbrev ai119 := AI.mk Tryz.isAgg119
abbrev zi119 := ZI.mk Tryz.zeroValue119
abbrev ui120 := UI.mk Tryz.underlying120
abbrev si120 := SI.mk Tryz.sizeOf120
abbrev ai120 := AI.mk Tryz.isAgg120
abbrev zi120 := ZI.mk Tryz.zeroValue120
abbrev ui121 := UI.mk Tryz.underlying121
abbrev si121 := SI.mk Tryz.sizeOf121
abbrev ai121 := AI.mk Tryz.isAgg121
abbrev zi121 := ZI.mk Tryz.zeroValue121
abbrev ui131 := UI.mk Tryz.underlying131
abbrev si131 := SI.mk Tryz.sizeOf131
abbrev ai131 := AI.mk Tryz.isAgg131
abbrev zi131 := ZI.mk Tryz.zeroValue131
abbrev ui132 := UI.mk Tryz.underlying132
abbrev si132 := SI.mk Tryz.sizeOf132
abbrev ai132 := AI.mk Tryz.isAgg132
abbrev zi132 := ZI.mk Tryz.zeroValue132
abbrev ui133 := UI.mk Tryz.underlying133
abbrev si133 := SI.mk Tryz.sizeOf133
abbrev ai133 := AI.mk Tryz.isAgg133
abbrev zi133 := ZI.mk Tryz.zeroValue133
abbrev ui134 := UI.mk Tryz.underlying134
abbrev si134 := SI.mk Tryz.sizeOf134
abbrev ai134 := AI.mk Tryz.isAgg134
abbrev zi134 := ZI.mk Tryz.zeroValue134
abbrev ui135 := UI.mk Tryz.underlying135
abbrev si135 := SI.mk Tryz.sizeOf135
abbrev ai135 := AI.mk Tryz.isAgg135
abbrev zi135 := ZI.mk Tryz.zeroValue135
abbrev ui136 := UI.mk Tryz.underlying136
abbrev si136 := SI.mk Tryz.sizeOf136
abbrev ai136 := AI.mk Tryz.isAgg136
abbrev zi136 := ZI.mk Tryz.zeroValue136
abbrev ui137 := UI.mk Tryz.underlying137
abbrev si137 := SI.mk Tryz.sizeOf137
abbrev ai137 := AI.mk Tryz.isAgg137
abbrev zi137 := ZI.mk Tryz.zeroValue137
abbrev ui140 := UI.mk Tryz.underlying140
abbrev si140 := SI.mk Tryz.sizeOf140
abbrev ai140 := AI.mk Tryz.isAgg140
abbrev zi140 := ZI.mk Tryz.zeroValue140
abbrev ui141 := UI.mk Tryz.underlying141
abbrev si141 := SI.mk Tryz.sizeOf141
abbrev ai141 := AI.mk Tryz.isAgg141
abbrev zi141 := ZI.mk Tryz.zeroValue141
abbrev ui143 := UI.mk Tryz.underlying143
abbrev si143 := SI.mk Tryz.sizeOf143
abbrev ai143 := AI.mk Tryz.isAgg143
abbrev zi143 := ZI.mk Tryz.zeroValue143
abbrev ui144 := UI.mk Tryz.underlying144
abbrev si144 := SI.mk Tryz.sizeOf144
abbrev ai144 := AI.mk Tryz.isAgg144
abbrev zi144 := ZI.mk Tryz.zeroValue144
abbrev ui145 := UI.mk Tryz.underlying145
abbrev si145 := SI.mk Tryz.sizeOf145
abbrev ai145 := AI.mk Tryz.isAgg145
abbrev zi145 := ZI.mk Tryz.zeroValue145
abbrev ui146 := UI.mk Tryz.underlying146
abbrev si146 := SI.mk Tryz.sizeOf146
abbrev ai146 := AI.mk Tryz.isAgg146
abbrev zi146 := ZI.mk Tryz.zeroValue146
abbrev ui148 := UI.mk Tryz.underlying148
abbrev si148 := SI.mk Tryz.sizeOf148
abbrev ai148 := AI.mk Tryz.isAgg148
abbrev zi148 := ZI.mk Tryz.zeroValue148
abbrev ui149 := UI.mk Tryz.underlying149
abbrev si149 := SI.mk Tryz.sizeOf149
abbrev ai149 := AI.mk Tryz.isAgg149
abbrev zi149 := ZI.mk Tryz.zeroValue149
abbrev ui153 := UI.mk Tryz.underlying153
abbrev si153 := SI.mk Tryz.sizeOf153
abbrev ai153 := AI.mk Tryz.isAgg153
abbrev zi153 := ZI.mk Tryz.zeroValue153
abbrev ui154 := UI.mk Tryz.underlying154
abbrev si154 := SI.mk Tryz.sizeOf154
abbrev ai154 := AI.mk Tryz.isAgg154
abbrev zi154 := ZI.mk Tryz.zeroValue154
abbrev ui155 := UI.mk Tryz.underlying155
abbrev si155 := SI.mk Tryz.sizeOf155
abbrev ai155 := AI.mk Tryz.isAgg155
abbrev zi155 := ZI.mk Tryz.zeroValue155
abbrev ui156 := UI.mk Tryz.underlying156
abbrev si156 := SI.mk Tryz.sizeOf156
abbrev ai156 := AI.mk Tryz.isAgg156
abbrev zi156 := ZI.mk Tryz.zeroValue156
abbrev ui157 := UI.mk Tryz.underlying157
abbrev si157 := SI.mk Tryz.sizeOf157
abbrev ai157 := AI.mk Tryz.isAgg157
abbrev zi157 := ZI.mk Tryz.zeroValue157
abbrev ui158 := UI.mk Tryz.underlying158
abbrev si158 := SI.mk Tryz.sizeOf158
abbrev ai158 := AI.mk Tryz.isAgg158
abbrev zi158 := ZI.mk Tryz.zeroValue158
abbrev ui159 := UI.mk Tryz.underlying159
abbrev si159 := SI.mk Tryz.sizeOf159
abbrev ai159 := AI.mk Tryz.isAgg159
abbrev zi159 := ZI.mk Tryz.zeroValue159
abbrev ui162 := UI.mk Tryz.underlying162
abbrev si162 := SI.mk Tryz.sizeOf162
abbrev ai162 := AI.mk Tryz.isAgg162
abbrev zi162 := ZI.mk Tryz.zeroValue162
abbrev ui163 := UI.mk Tryz.underlying163
abbrev si163 := SI.mk Tryz.sizeOf163
abbrev ai163 := AI.mk Tryz.isAgg163
abbrev zi163 := ZI.mk Tryz.zeroValue163
abbrev ui164 := UI.mk Tryz.underlying164
abbrev si164 := SI.mk Tryz.sizeOf164
abbrev ai164 := AI.mk Tryz.isAgg164
abbrev zi164 := ZI.mk Tryz.zeroValue164
abbrev ui165 := UI.mk Tryz.underlying165
abbrev si165 := SI.mk Tryz.sizeOf165
abbrev ai165 := AI.mk Tryz.isAgg165
abbrev zi165 := ZI.mk Tryz.zeroValue165
abbrev ui166 := UI.mk Tryz.underlying166
abbrev si166 := SI.mk Tryz.sizeOf166
abbrev ai166 := AI.mk Tryz.isAgg166
abbrev zi166 := ZI.mk Tryz.zeroValue166
abbrev ui167 := UI.mk Tryz.underlying167
abbrev si167 := SI.mk Tryz.sizeOf167
abbrev ai167 := AI.mk Tryz.isAgg167
abbrev zi167 := ZI.mk Tryz.zeroValue167
abbrev ui168 := UI.mk Tryz.underlying168
abbrev si168 := SI.mk Tryz.sizeOf168
abbrev ai168 := AI.mk Tryz.isAgg168
abbrev zi168 := ZI.mk Tryz.zeroValue168
abbrev ui169 := UI.mk Tryz.underlying169
abbrev si169 := SI.mk Tryz.sizeOf169
abbrev ai169 := AI.mk Tryz.isAgg169
abbrev zi169 := ZI.mk Tryz.zeroValue169
abbrev ui170 := UI.mk Tryz.underlying170
abbrev si170 := SI.mk Tryz.sizeOf170
abbrev ai170 := AI.mk Tryz.isAgg170
abbrev zi170 := ZI.mk Tryz.zeroValue170
abbrev ui171 := UI.mk Tryz.underlying171
abbrev si171 := SI.mk Tryz.sizeOf171
abbrev ai171 := AI.mk Tryz.isAgg171
abbrev zi171 := ZI.mk Tryz.zeroValue171
abbrev ui172 := UI.mk Tryz.underlying172
abbrev si172 := SI.mk Tryz.sizeOf172
abbrev ai172 := AI.mk Tryz.isAgg172
abbrev zi172 := ZI.mk Tryz.zeroValue172
abbrev ui173 := UI.mk Tryz.underlying173
abbrev si173 := SI.mk Tryz.sizeOf173
abbrev ai173 := AI.mk Tryz.isAgg173
abbrev zi173 := ZI.mk Tryz.zeroValue173
abbrev ui174 := UI.mk Tryz.underlying174
abbrev si174 := SI.mk Tryz.sizeOf174
abbrev ai174 := AI.mk Tryz.isAgg174
abbrev zi174 := ZI.mk Tryz.zeroValue174
abbrev ui181 := UI.mk Tryz.underlying181
abbrev si181 := SI.mk Tryz.sizeOf181
abbrev ai181 := AI.mk Tryz.isAgg181
abbrev zi181 := ZI.mk Tryz.zeroValue181
abbrev ui182 := UI.mk Tryz.underlying182
abbrev si182 := SI.mk Tryz.sizeOf182
abbrev ai182 := AI.mk Tryz.isAgg182
abbrev zi182 := ZI.mk Tryz.zeroValue182
abbrev ui183 := UI.mk Tryz.underlying183
abbrev si183 := SI.mk Tryz.sizeOf183
abbrev ai183 := AI.mk Tryz.isAgg183
abbrev zi183 := ZI.mk Tryz.zeroValue183
abbrev ui190 := UI.mk Tryz.underlying190
abbrev si190 := SI.mk Tryz.sizeOf190
abbrev ai190 := AI.mk Tryz.isAgg190
abbrev zi190 := ZI.mk Tryz.zeroValue190
abbrev ui215 := UI.mk Tryz.underlying215
abbrev si215 := SI.mk Tryz.sizeOf215
abbrev ai215 := AI.mk Tryz.isAgg215
abbrev zi215 := ZI.mk Tryz.zeroValue215
abbrev ui220 := UI.mk Tryz.underlying220
abbrev si220 := SI.mk Tryz.sizeOf220
abbrev ai220 := AI.mk Tryz.isAgg220
abbrev zi220 := ZI.mk Tryz.zeroValue220
abbrev ui221 := UI.mk Tryz.underlying221
abbrev si221 := SI.mk Tryz.sizeOf221
abbrev ai221 := AI.mk Tryz.isAgg221
abbrev zi221 := ZI.mk Tryz.zeroValue221
abbrev ui222 := UI.mk Tryz.underlying222
abbrev si222 := SI.mk Tryz.sizeOf222
abbrev ai222 := AI.mk Tryz.isAgg222
abbrev zi222 := ZI.mk Tryz.zeroValue222
abbrev ui223 := UI.mk Tryz.underlying223
abbrev si223 := SI.mk Tryz.sizeOf223
abbrev ai223 := AI.mk Tryz.isAgg223
abbrev zi223 := ZI.mk Tryz.zeroValue223
abbrev ui225 := UI.mk Tryz.underlying225
abbrev si225 := SI.mk Tryz.sizeOf225
abbrev ai225 := AI.mk Tryz.isAgg225
abbrev zi225 := ZI.mk Tryz.zeroValue225
abbrev ui226 := UI.mk Tryz.underlying226
abbrev si226 := SI.mk Tryz.sizeOf226
abbrev ai226 := AI.mk Tryz.isAgg226
abbrev zi226 := ZI.mk Tryz.zeroValue226
abbrev ui246 := UI.mk Tryz.underlying246
abbrev si246 := SI.mk Tryz.sizeOf246
abbrev ai246 := AI.mk Tryz.isAgg246
abbrev zi246 := ZI.mk Tryz.zeroValue246
abbrev ui247 := UI.mk Tryz.underlying247
abbrev si247 := SI.mk Tryz.sizeOf247
abbrev ai247 := AI.mk Tryz.isAgg247
abbrev zi247 := ZI.mk Tryz.zeroValue247
abbrev ui248 := UI.mk Tryz.underlying248
abbrev si248 := SI.mk Tryz.sizeOf248
abbrev ai248 := AI.mk Tryz.isAgg248
abbrev zi248 := ZI.mk Tryz.zeroValue248
abbrev ui250 := UI.mk Tryz.underlying250
abbrev si250 := SI.mk Tryz.sizeOf250
abbrev ai250 := AI.mk Tryz.isAgg250
abbrev zi250 := ZI.mk Tryz.zeroValue250
abbrev ui251 := UI.mk Tryz.underlying251
abbrev si251 := SI.mk Tryz.sizeOf251
abbrev ai251 := AI.mk Tryz.isAgg251
abbrev zi251 := ZI.mk Tryz.zeroValue251
abbrev ui272 := UI.mk Tryz.underlying272
abbrev si272 := SI.mk Tryz.sizeOf272
abbrev ai272 := AI.mk Tryz.isAgg272
abbrev zi272 := ZI.mk Tryz.zeroValue272
abbrev ui273 := UI.mk Tryz.underlying273
abbrev si273 := SI.mk Tryz.sizeOf273
abbrev ai273 := AI.mk Tryz.isAgg273
abbrev zi273 := ZI.mk Tryz.zeroValue273
abbrev ui276 := UI.mk Tryz.underlying276
abbrev si276 := SI.mk Tryz.sizeOf276
abbrev ai276 := AI.mk Tryz.isAgg276
abbrev zi276 := ZI.mk Tryz.zeroValue276
abbrev ui277 := UI.mk Tryz.underlying277
abbrev si277 := SI.mk Tryz.sizeOf277
abbrev ai277 := AI.mk Tryz.isAgg277
abbrev zi277 := ZI.mk Tryz.zeroValue277
abbrev ui278 := UI.mk Tryz.underlying278
abbrev si278 := SI.mk Tryz.sizeOf278
abbrev ai278 := AI.mk Tryz.isAgg278
abbrev zi278 := ZI.mk Tryz.zeroValue278
abbrev ui281 := UI.mk Tryz.underlying281
abbrev si281 := SI.mk Tryz.sizeOf281
abbrev ai281 := AI.mk Tryz.isAgg281
abbrev zi281 := ZI.mk Tryz.zeroValue281
abbrev ui282 := UI.mk Tryz.underlying282
abbrev si282 := SI.mk Tryz.sizeOf282
abbrev ai282 := AI.mk Tryz.isAgg282
abbrev zi282 := ZI.mk Tryz.zeroValue282
abbrev ui283 := UI.mk Tryz.underlying283
abbrev si283 := SI.mk Tryz.sizeOf283
abbrev ai283 := AI.mk Tryz.isAgg283
abbrev zi283 := ZI.mk Tryz.zeroValue283
abbrev ui284 := UI.mk Tryz.underlying284
abbrev si284 := SI.mk Tryz.sizeOf284
abbrev ai284 := AI.mk Tryz.isAgg284
abbrev zi284 := ZI.mk Tryz.zeroValue284
abbrev ui285 := UI.mk Tryz.underlying285
abbrev si285 := SI.mk Tryz.sizeOf285
abbrev ai285 := AI.mk Tryz.isAgg285
abbrev zi285 := ZI.mk Tryz.zeroValue285
abbrev ui287 := UI.mk Tryz.underlying287
abbrev si287 := SI.mk Tryz.sizeOf287
abbrev ai287 := AI.mk Tryz.isAgg287
abbrev zi287 := ZI.mk Tryz.zeroValue287
abbrev ui295 := UI.mk Tryz.underlying295
abbrev si295 := SI.mk Tryz.sizeOf295
abbrev ai295 := AI.mk Tryz.isAgg295
abbrev zi295 := ZI.mk Tryz.zeroValue295
abbrev ui300 := UI.mk Tryz.underlying300
abbrev si300 := SI.mk Tryz.sizeOf300
abbrev ai300 := AI.mk Tryz.isAgg300
abbrev zi300 := ZI.mk Tryz.zeroValue300
abbrev ui301 := UI.mk Tryz.underlying301
abbrev si301 := SI.mk Tryz.sizeOf301
abbrev ai301 := AI.mk Tryz.isAgg301
abbrev zi301 := ZI.mk Tryz.zeroValue301
abbrev ui308 := UI.mk Tryz.underlying308
abbrev si308 := SI.mk Tryz.sizeOf308
abbrev ai308 := AI.mk Tryz.isAgg308
abbrev zi308 := ZI.mk Tryz.zeroValue308
abbrev ui319 := UI.mk Tryz.underlying319
abbrev si319 := SI.mk Tryz.sizeOf319
abbrev ai319 := AI.mk Tryz.isAgg319
abbrev zi319 := ZI.mk Tryz.zeroValue319
abbrev ui320 := UI.mk Tryz.underlying320
abbrev si320 := SI.mk Tryz.sizeOf320
abbrev ai320 := AI.mk Tryz.isAgg320
abbrev zi320 := ZI.mk Tryz.zeroValue320
abbrev ui321 := UI.mk Tryz.underlying321
abbrev si321 := SI.mk Tryz.sizeOf321
abbrev ai321 := AI.mk Tryz.isAgg321
abbrev zi321 := ZI.mk Tryz.zeroValue321
abbrev ui325 := UI.mk Tryz.underlying325
abbrev si325 := SI.mk Tryz.sizeOf325
abbrev ai325 := AI.mk Tryz.isAgg325
abbrev zi325 := ZI.mk Tryz.zeroValue325
abbrev ui329 := UI.mk Tryz.underlying329
abbrev si329 := SI.mk Tryz.sizeOf329
abbrev ai329 := AI.mk Tryz.isAgg329
abbrev zi329 := ZI.mk Tryz.zeroValue329
abbrev ui333 := UI.mk Tryz.underlying333
abbrev si333 := SI.mk Tryz.sizeOf333
abbrev ai333 := AI.mk Tryz.isAgg333
abbrev zi333 := ZI.mk Tryz.zeroValue333
abbrev ui338 := UI.mk Tryz.underlying338
abbrev si338 := SI.mk Tryz.sizeOf338
abbrev ai338 := AI.mk Tryz.isAgg338
abbrev zi338 := ZI.mk Tryz.zeroValue338
abbrev ui339 := UI.mk Tryz.underlying339
abbrev si339 := SI.mk Tryz.sizeOf339
abbrev ai339 := AI.mk Tryz.isAgg339
abbrev zi339 := ZI.mk Tryz.zeroValue339
abbrev ui347 := UI.mk Tryz.underlying347
abbrev si347 := SI.mk Tryz.sizeOf347
abbrev ai347 := AI.mk Tryz.isAgg347
abbrev zi347 := ZI.mk Tryz.zeroValue347
abbrev ui348 := UI.mk Tryz.underlying348
abbrev si348 := SI.mk Tryz.sizeOf348
abbrev ai348 := AI.mk Tryz.isAgg348
abbrev zi348 := ZI.mk Tryz.zeroValue348
abbrev ui364 := UI.mk Tryz.underlying364
abbrev si364 := SI.mk Tryz.sizeOf364
abbrev ai364 := AI.mk Tryz.isAgg364
abbrev zi364 := ZI.mk Tryz.zeroValue364
abbrev ui384 := UI.mk Tryz.underlying384
abbrev si384 := SI.mk Tryz.sizeOf384
abbrev ai384 := AI.mk Tryz.isAgg384
abbrev zi384 := ZI.mk Tryz.zeroValue384
abbrev ci3 := CI.mk Tryz.call3
abbrev ci4 := CI.mk Tryz.call4
abbrev ci5 := CI.mk Tryz.call5
abbrev ci6 := CI.mk Tryz.call6
abbrev ci7 := CI.mk Tryz.call7
abbrev ci8 := CI.mk Tryz.call8
abbrev ci9 := CI.mk Tryz.call9
abbrev ci10 := CI.mk Tryz.call10
abbrev ci11 := CI.mk Tryz.call11
abbrev ci12 := CI.mk Tryz.call12
abbrev ci13 := CI.mk Tryz.call13
abbrev ci14 := CI.mk Tryz.call14
abbrev ci15 := CI.mk Tryz.call15
abbrev ci16 := CI.mk Tryz.call16
abbrev ci17 := CI.mk Tryz.call17
abbrev ci18 := CI.mk Tryz.call18
abbrev ci19 := CI.mk Tryz.call19
abbrev ci20 := CI.mk Tryz.call20
abbrev ci21 := CI.mk Tryz.call21
abbrev ci22 := CI.mk Tryz.call22
abbrev ci23 := CI.mk Tryz.call23
abbrev ci24 := CI.mk Tryz.call24
abbrev ci25 := CI.mk Tryz.call25
abbrev ci26 := CI.mk Tryz.call26
abbrev ci27 := CI.mk Tryz.call27
abbrev ci28 := CI.mk Tryz.call28
abbrev ci29 := CI.mk Tryz.call29
abbrev ci30 := CI.mk Tryz.call30
abbrev ci31 := CI.mk Tryz.call31
abbrev ci32 := CI.mk Tryz.call32
abbrev ci33 := CI.mk Tryz.call33
abbrev ci34 := CI.mk Tryz.call34
abbrev ci35 := CI.mk Tryz.call35
abbrev ci36 := CI.mk Tryz.call36
abbrev ci37 := CI.mk Tryz.call37
abbrev ci38 := CI.mk Tryz.call38
abbrev ci39 := CI.mk Tryz.call39
abbrev ci40 := CI.mk Tryz.call40
abbrev ci41 := CI.mk Tryz.call41
abbrev ci42 := CI.mk Tryz.call42
abbrev ci43 := CI.mk Tryz.call43
abbrev ci44 := CI.mk Tryz.call44
abbrev ci45 := CI.mk Tryz.call45
abbrev ci46 := CI.mk Tryz.call46
abbrev ci47 := CI.mk Tryz.call47
abbrev ci48 := CI.mk Tryz.call48
abbrev ci49 := CI.mk Tryz.call49
abbrev ci50 := CI.mk Tryz.call50
abbrev ci51 := CI.mk Tryz.call51
abbrev ci52 := CI.mk Tryz.call52
abbrev ci53 := CI.mk Tryz.call53
abbrev ci54 := CI.mk Tryz.call54
abbrev ci55 := CI.mk Tryz.call55
abbrev ci56 := CI.mk Tryz.call56
abbrev ci57 := CI.mk Tryz.call57
abbrev ci58 := CI.mk Tryz.call58
abbrev ci59 := CI.mk Tryz.call59
abbrev ci60 := CI.mk Tryz.call60
abbrev ci61 := CI.mk Tryz.call61
abbrev ci62 := CI.mk Tryz.call62
abbrev ci63 := CI.mk Tryz.call63
abbrev ci64 := CI.mk Tryz.call64
abbrev ci65 := CI.mk Tryz.call65
abbrev ci66 := CI.mk Tryz.call66
abbrev ci67 := CI.mk Tryz.call67
abbrev ci68 := CI.mk Tryz.call68
abbrev ci69 := CI.mk Tryz.call69
abbrev ci70 := CI.mk Tryz.call70
abbrev ci71 := CI.mk Tryz.call71
abbrev ci72 := CI.mk Tryz.call72
abbrev ci73 := CI.mk Tryz.call73
abbrev ci74 := CI.mk Tryz.call74
abbrev ci75 := CI.mk Tryz.call75
abbrev ci76 := CI.mk Tryz.call76
abbrev ci77 := CI.mk Tryz.call77
abbrev ci78 := CI.mk Tryz.call78
abbrev ci79 := CI.mk Tryz.call79
abbrev ci80 := CI.mk Tryz.call80
abbrev ci81 := CI.mk Tryz.call81
abbrev ci82 := CI.mk Tryz.call82
abbrev ci83 := CI.mk Tryz.call83
abbrev ci84 := CI.mk Tryz.call84
abbrev ci85 := CI.mk Tryz.call85
abbrev ci86 := CI.mk Tryz.call86
abbrev ci87 := CI.mk Tryz.call87
abbrev ci88 := CI.mk Tryz.call88
abbrev ci89 := CI.mk Tryz.call89
abbrev ci90 := CI.mk Tryz.call90
abbrev ci91 := CI.mk Tryz.call91
abbrev ci92 := CI.mk Tryz.call92
abbrev ci93 := CI.mk Tryz.call93
abbrev ci94 := CI.mk Tryz.call94
abbrev ci95 := CI.mk Tryz.call95
abbrev ci96 := CI.mk Tryz.call96
abbrev ci97 := CI.mk Tryz.call97
abbrev ci98 := CI.mk Tryz.call98
abbrev ci99 := CI.mk Tryz.call99
abbrev ci100 := CI.mk Tryz.call100
abbrev ci101 := CI.mk Tryz.call101
abbrev ci102 := CI.mk Tryz.call102
abbrev ci103 := CI.mk Tryz.call103
abbrev ci104 := CI.mk Tryz.call104
abbrev ci105 := CI.mk Tryz.call105
abbrev ci106 := CI.mk Tryz.call106
abbrev ci107 := CI.mk Tryz.call107
abbrev ci108 := CI.mk Tryz.call108
abbrev ci109 := CI.mk Tryz.call109
abbrev ci110 := CI.mk Tryz.call110
abbrev ci111 := CI.mk Tryz.call111
abbrev ci112 := CI.mk Tryz.call112
abbrev ci113 := CI.mk Tryz.call113
abbrev ci114 := CI.mk Tryz.call114
abbrev ci115 := CI.mk Tryz.call115
abbrev ci116 := CI.mk Tryz.call116
abbrev ci117 := CI.mk Tryz.call117
abbrev ci118 := CI.mk Tryz.call118
abbrev ci119 := CI.mk Tryz.call119
abbrev ci120 := CI.mk Tryz.call120
abbrev ci121 := CI.mk Tryz.call121
abbrev ci122 := CI.mk Tryz.call122
abbrev ci123 := CI.mk Tryz.call123
abbrev ci124 := CI.mk Tryz.call124
abbrev ci125 := CI.mk Tryz.call125
abbrev ci126 := CI.mk Tryz.call126
abbrev ci127 := CI.mk Tryz.call127
abbrev ci128 := CI.mk Tryz.call128
abbrev ci129 := CI.mk Tryz.call129
abbrev ci130 := CI.mk Tryz.call130
abbrev ci131 := CI.mk Tryz.call131
abbrev ci132 := CI.mk Tryz.call132
abbrev ci133 := CI.mk Tryz.call133
abbrev ci134 := CI.mk Tryz.call134
abbrev ci135 := CI.mk Tryz.call135
abbrev ci136 := CI.mk Tryz.call136
abbrev ci137 := CI.mk Tryz.call137
abbrev ci138 := CI.mk Tryz.call138
abbrev ci139 := CI.mk Tryz.call139
abbrev ci140 := CI.mk Tryz.call140
abbrev ci141 := CI.mk Tryz.call141
abbrev ci142 := CI.mk Tryz.call142
abbrev ci143 := CI.mk Tryz.call143
abbrev ci144 := CI.mk Tryz.call144
abbrev ci145 := CI.mk Tryz.call145
abbrev ci146 := CI.mk Tryz.call146
abbrev ci147 := CI.mk Tryz.call147
abbrev ci148 := CI.mk Tryz.call148
abbrev ci149 := CI.mk Tryz.call149
abbrev ci150 := CI.mk Tryz.call150
abbrev ci151 := CI.mk Tryz.call151
abbrev ci152 := CI.mk Tryz.call152
abbrev ci153 := CI.mk Tryz.call153
abbrev ci154 := CI.mk Tryz.call154
abbrev ci155 := CI.mk Tryz.call155
abbrev ci156 := CI.mk Tryz.call156
abbrev ci157 := CI.mk Tryz.call157
abbrev ci158 := CI.mk Tryz.call158
abbrev ci159 := CI.mk Tryz.call159
abbrev ci160 := CI.mk Tryz.call160
abbrev ci161 := CI.mk Tryz.call161
abbrev ci162 := CI.mk Tryz.call162
abbrev ci163 := CI.mk Tryz.call163
abbrev ci164 := CI.mk Tryz.call164
abbrev ci165 := CI.mk Tryz.call165
abbrev ci166 := CI.mk Tryz.call166
abbrev ci167 := CI.mk Tryz.call167
abbrev ci169 := CI.mk Tryz.call169
abbrev ci170 := CI.mk Tryz.call170
abbrev ci171 := CI.mk Tryz.call171
abbrev ci172 := CI.mk Tryz.call172
abbrev ci173 := CI.mk Tryz.call173
abbrev ci174 := CI.mk Tryz.call174
abbrev ci175 := CI.mk Tryz.call175
abbrev ci176 := CI.mk Tryz.call176
abbrev ci177 := CI.mk Tryz.call177
abbrev ci178 := CI.mk Tryz.call178
abbrev ci179 := CI.mk Tryz.call179
abbrev ci180 := CI.mk Tryz.call180
abbrev ci181 := CI.mk Tryz.call181
abbrev ci182 := CI.mk Tryz.call182
abbrev ci183 := CI.mk Tryz.call183
abbrev ci184 := CI.mk Tryz.call184
abbrev ci185 := CI.mk Tryz.call185
abbrev ci186 := CI.mk Tryz.call186
abbrev ci187 := CI.mk Tryz.call187
abbrev ci188 := CI.mk Tryz.call188
abbrev ci189 := CI.mk Tryz.call189
abbrev ci190 := CI.mk Tryz.call190
abbrev ci191 := CI.mk Tryz.call191
abbrev ci192 := CI.mk Tryz.call192
abbrev ci193 := CI.mk Tryz.call193
abbrev ci194 := CI.mk Tryz.call194
abbrev ci195 := CI.mk Tryz.call195
abbrev ci196 := CI.mk Tryz.call196
abbrev ci197 := CI.mk Tryz.call197
abbrev ci198 := CI.mk Tryz.call198
abbrev ci199 := CI.mk Tryz.call199
abbrev ci200 := CI.mk Tryz.call200
abbrev ci201 := CI.mk Tryz.call201
abbrev ci202 := CI.mk Tryz.call202
abbrev ci203 := CI.mk Tryz.call203
abbrev ci204 := CI.mk Tryz.call204
abbrev ci205 := CI.mk Tryz.call205
abbrev ci206 := CI.mk Tryz.call206
abbrev ci207 := CI.mk Tryz.call207
abbrev ci208 := CI.mk Tryz.call208
abbrev ci209 := CI.mk Tryz.call209
abbrev ci210 := CI.mk Tryz.call210
abbrev ci211 := CI.mk Tryz.call211
abbrev ci212 := CI.mk Tryz.call212
abbrev ci213 := CI.mk Tryz.call213
abbrev ci214 := CI.mk Tryz.call214
abbrev ci215 := CI.mk Tryz.call215
abbrev ci216 := CI.mk Tryz.call216
abbrev ci217 := CI.mk Tryz.call217
abbrev ci218 := CI.mk Tryz.call218
abbrev ci219 := CI.mk Tryz.call219
abbrev ci220 := CI.mk Tryz.call220
abbrev ci221 := CI.mk Tryz.call221
abbrev ci222 := CI.mk Tryz.call222
abbrev ci223 := CI.mk Tryz.call223
abbrev ci224 := CI.mk Tryz.call224
abbrev ci225 := CI.mk Tryz.call225
abbrev ci226 := CI.mk Tryz.call226
abbrev ci227 := CI.mk Tryz.call227
abbrev ci228 := CI.mk Tryz.call228
abbrev ci229 := CI.mk Tryz.call229
abbrev ci230 := CI.mk Tryz.call230
abbrev ci231 := CI.mk Tryz.call231
abbrev ci232 := CI.mk Tryz.call232
abbrev ci233 := CI.mk Tryz.call233
abbrev ci234 := CI.mk Tryz.call234
abbrev ci235 := CI.mk Tryz.call235
abbrev ci236 := CI.mk Tryz.call236
abbrev ci237 := CI.mk Tryz.call237
abbrev ci238 := CI.mk Tryz.call238
abbrev ci239 := CI.mk Tryz.call239
abbrev ci240 := CI.mk Tryz.call240
abbrev ci241 := CI.mk Tryz.call241
abbrev ci242 := CI.mk Tryz.call242
abbrev ci243 := CI.mk Tryz.call243
abbrev ci244 := CI.mk Tryz.call244
abbrev ci245 := CI.mk Tryz.call245
abbrev ci246 := CI.mk Tryz.call246
abbrev ci247 := CI.mk Tryz.call247
abbrev ci248 := CI.mk Tryz.call248
abbrev ci249 := CI.mk Tryz.call249
abbrev ci250 := CI.mk Tryz.call250
abbrev ci251 := CI.mk Tryz.call251
abbrev ci252 := CI.mk Tryz.call252
abbrev ci253 := CI.mk Tryz.call253
abbrev ci254 := CI.mk Tryz.call254
abbrev ci255 := CI.mk Tryz.call255
abbrev ci256 := CI.mk Tryz.call256
abbrev ci257 := CI.mk Tryz.call257
abbrev ci258 := CI.mk Tryz.call258
abbrev ci259 := CI.mk Tryz.call259
abbrev ci260 := CI.mk Tryz.call260
abbrev ci261 := CI.mk Tryz.call261
abbrev ci262 := CI.mk Tryz.call262
abbrev ci263 := CI.mk Tryz.call263
abbrev ci264 := CI.mk Tryz.call264
abbrev ci265 := CI.mk Tryz.call265
abbrev ci266 := CI.mk Tryz.call266
abbrev ci267 := CI.mk Tryz.call267
abbrev ci268 := CI.mk Tryz.call268
abbrev ci269 := CI.mk Tryz.call269
abbrev ci270 := CI.mk Tryz.call270
abbrev ci271 := CI.mk Tryz.call271
abbrev ci272 := CI.mk Tryz.call272
abbrev ci273 := CI.mk Tryz.call273
abbrev ci274 := CI.mk Tryz.call274
abbrev ci275 := CI.mk Tryz.call275
abbrev ci276 := CI.mk Tryz.call276
abbrev ci277 := CI.mk Tryz.call277
abbrev ci278 := CI.mk Tryz.call278
abbrev ci279 := CI.mk Tryz.call279
abbrev ci280 := CI.mk Tryz.call280
abbrev ci281 := CI.mk Tryz.call281
abbrev ci282 := CI.mk Tryz.call282
abbrev ci283 := CI.mk Tryz.call283
abbrev ci284 := CI.mk Tryz.call284
abbrev ci285 := CI.mk Tryz.call285
abbrev ci286 := CI.mk Tryz.call286
abbrev ci287 := CI.mk Tryz.call287
abbrev ci288 := CI.mk Tryz.call288
abbrev ci289 := CI.mk Tryz.call289
abbrev ci290 := CI.mk Tryz.call290
abbrev ci291 := CI.mk Tryz.call291
abbrev ci292 := CI.mk Tryz.call292
abbrev ci293 := CI.mk Tryz.call293
abbrev ci294 := CI.mk Tryz.call294
abbrev ci295 := CI.mk Tryz.call295
abbrev ci296 := CI.mk Tryz.call296
abbrev ci297 := CI.mk Tryz.call297
abbrev ci298 := CI.mk Tryz.call298
abbrev ci327 := CI.mk Tryz.call327
abbrev ci328 := CI.mk Tryz.call328
abbrev ci329 := CI.mk Tryz.call329
abbrev ci330 := CI.mk Tryz.call330
abbrev ci331 := CI.mk Tryz.call331
abbrev ci332 := CI.mk Tryz.call332
abbrev ci333 := CI.mk Tryz.call333
abbrev ci334 := CI.mk Tryz.call334
abbrev ci335 := CI.mk Tryz.call335
attribute [instance] ui2 si2 ai2 zi2 ui3 si3 ai3 zi3 ui4 si4 ai4 zi4 ui5 si5 ai5 zi5 ui9 si9 ai9 zi9
attribute [instance] ui12 si12 ai12 zi12 ui13 si13 ai13 zi13 ui19 si19 ai19 zi19 ui21 si21 ai21 zi21 ui22 si22 ai22 zi22
attribute [instance] ui23 si23 ai23 zi23 ui25 si25 ai25 zi25 ui26 si26 ai26 zi26 ui29 si29 ai29 zi29 ui31 si31 ai31 zi31
attribute [instance] ui35 si35 ai35 zi35 ui36 si36 ai36 zi36 ui37 si37 ai37 zi37 ui38 si38 ai38 zi38 ui39 si39 ai39 zi39
attribute [instance] ui40 si40 ai40 zi40 ui41 si41 ai41 zi41 ui42 si42 ai42 zi42 ui43 si43 ai43 zi43 ui44 si44 ai44 zi44
attribute [instance] ui45 si45 ai45 zi45 ui46 si46 ai46 zi46 ui47 si47 ai47 zi47 ui48 si48 ai48 zi48 ui49 si49 ai49 zi49
attribute [instance] ui51 si51 ai51 zi51 ui53 si53 ai53 zi53 ui55 si55 ai55 zi55 ui59 si59 ai59 zi59 ui60 si60 ai60 zi60
attribute [instance] ui62 si62 ai62 zi62 ui71 si71 ai71 zi71 ui72 si72 ai72 zi72 ui76 si76 ai76 zi76 ui78 si78 ai78 zi78
attribute [instance] ui81 si81 ai81 zi81 ui82 si82 ai82 zi82 ui83 si83 ai83 zi83 ui84 si84 ai84 zi84 ui85 si85 ai85 zi85
attribute [instance] ui86 si86 ai86 zi86 ui87 si87 ai87 zi87 ui88 si88 ai88 zi88 ui89 si89 ai89 zi89 ui90 si90 ai90 zi90
attribute [instance] ui91 si91 ai91 zi91 ui92 si92 ai92 zi92 ui93 si93 ai93 zi93 ui94 si94 ai94 zi94 ui95 si95 ai95 zi95
attribute [instance] ui96 si96 ai96 zi96 ui97 si97 ai97 zi97 ui98 si98 ai98 zi98 ui99 si99 ai99 zi99 ui100 si100 ai100 zi100
attribute [instance] ui101 si101 ai101 zi101 ui102 si102 ai102 zi102 ui103 si103 ai103 zi103 ui104 si104 ai104 zi104 ui108 si108 ai108 zi108
attribute [instance] ui117 si117 ai117 zi117 ui118 si118 ai118 zi118 ui119 si119 ai119 zi119 ui120 si120 ai120 zi120 ui121 si121 ai121 zi121
attribute [instance] ui131 si131 ai131 zi131 ui132 si132 ai132 zi132 ui133 si133 ai133 zi133 ui134 si134 ai134 zi134 ui135 si135 ai135 zi135
attribute [instance] ui136 si136 ai136 zi136 ui137 si137 ai137 zi137 ui140 si140 ai140 zi140 ui141 si141 ai141 zi141 ui143 si143 ai143 zi143
attribute [instance] ui144 si144 ai144 zi144 ui145 si145 ai145 zi145 ui146 si146 ai146 zi146 ui148 si148 ai148 zi148 ui149 si149 ai149 zi149
attribute [instance] ui153 si153 ai153 zi153 ui154 si154 ai154 zi154 ui155 si155 ai155 zi155 ui156 si156 ai156 zi156 ui157 si157 ai157 zi157
attribute [instance] ui158 si158 ai158 zi158 ui159 si159 ai159 zi159 ui162 si162 ai162 zi162 ui163 si163 ai163 zi163 ui164 si164 ai164 zi164
attribute [instance] ui165 si165 ai165 zi165 ui166 si166 ai166 zi166 ui167 si167 ai167 zi167 ui168 si168 ai168 zi168 ui169 si169 ai169 zi169
attribute [instance] ui170 si170 ai170 zi170 ui171 si171 ai171 zi171 ui172 si172 ai172 zi172 ui173 si173 ai173 zi173 ui174 si174 ai174 zi174
attribute [instance] ui181 si181 ai181 zi181 ui182 si182 ai182 zi182 ui183 si183 ai183 zi183 ui190 si190 ai190 zi190 ui215 si215 ai215 zi215
attribute [instance] ui220 si220 ai220 zi220 ui221 si221 ai221 zi221 ui222 si222 ai222 zi222 ui223 si223 ai223 zi223 ui225 si225 ai225 zi225
attribute [instance] ui226 si226 ai226 zi226 ui246 si246 ai246 zi246 ui247 si247 ai247 zi247 ui248 si248 ai248 zi248 ui250 si250 ai250 zi250
attribute [instance] ui251 si251 ai251 zi251 ui272 si272 ai272 zi272 ui273 si273 ai273 zi273 ui276 si276 ai276 zi276 ui277 si277 ai277 zi277
attribute [instance] ui278 si278 ai278 zi278 ui281 si281 ai281 zi281 ui282 si282 ai282 zi282 ui283 si283 ai283 zi283 ui284 si284 ai284 zi284
attribute [instance] ui285 si285 ai285 zi285 ui287 si287 ai287 zi287 ui295 si295 ai295 zi295 ui300 si300 ai300 zi300 ui301 si301 ai301 zi301
attribute [instance] ui308 si308 ai308 zi308 ui319 si319 ai319 zi319 ui320 si320 ai320 zi320 ui321 si321 ai321 zi321 ui325 si325 ai325 zi325
attribute [instance] ui329 si329 ai329 zi329 ui333 si333 ai333 zi333 ui338 si338 ai338 zi338 ui339 si339 ai339 zi339 ui347 si347 ai347 zi347
attribute [instance] ui348 si348 ai348 zi348 ui364 si364 ai364 zi364 ui384 si384 ai384 zi384 ci3 ci4 ci5 ci6 ci7 ci8 ci9 ci10
attribute [instance] ci11 ci12 ci13 ci14 ci15 ci16 ci17 ci18 ci19 ci20 ci21 ci22 ci23 ci24 ci25 ci26 ci27 ci28 ci29 ci30
attribute [instance] ci31 ci32 ci33 ci34 ci35 ci36 ci37 ci38 ci39 ci40 ci41 ci42 ci43 ci44 ci45 ci46 ci47 ci48 ci49 ci50
attribute [instance] ci51 ci52 ci53 ci54 ci55 ci56 ci57 ci58 ci59 ci60 ci61 ci62 ci63 ci64 ci65 ci66 ci67 ci68 ci69 ci70
attribute [instance] ci71 ci72 ci73 ci74 ci75 ci76 ci77 ci78 ci79 ci80 ci81 ci82 ci83 ci84 ci85 ci86 ci87 ci88 ci89 ci90
attribute [instance] ci91 ci92 ci93 ci94 ci95 ci96 ci97 ci98 ci99 ci100 ci101 ci102 ci103 ci104 ci105 ci106 ci107 ci108 ci109 ci110
attribute [instance] ci111 ci112 ci113 ci114 ci115 ci116 ci117 ci118 ci119 ci120 ci121 ci122 ci123 ci124 ci125 ci126 ci127 ci128 ci129 ci130
attribute [instance] ci131 ci132 ci133 ci134 ci135 ci136 ci137 ci138 ci139 ci140 ci141 ci142 ci143 ci144 ci145 ci146 ci147 ci148 ci149 ci150
attribute [instance] ci151 ci152 ci153 ci154 ci155 ci156 ci157 ci158 ci159 ci160 ci161 ci162 ci163 ci164 ci165 ci166 ci167 ci169 ci170 ci171
attribute [instance] ci172 ci173 ci174 ci175 ci176 ci177 ci178 ci179 ci180 ci181 ci182 ci183 ci184 ci185 ci186 ci187 ci188 ci189 ci190 ci191
attribute [instance] ci192 ci193 ci194 ci195 ci196 ci197 ci198 ci199 ci200 ci201 ci202 ci203 ci204 ci205 ci206 ci207 ci208 ci209 ci210 ci211
attribute [instance] ci212 ci213 ci214 ci215 ci216 ci217 ci218 ci219 ci220 ci221 ci222 ci223 ci224 ci225 ci226 ci227 ci228 ci229 ci230 ci231
attribute [instance] ci232 ci233 ci234 ci235 ci236 ci237 ci238 ci239 ci240 ci241 ci242 ci243 ci244 ci245 ci246 ci247 ci248 ci249 ci250 ci251
attribute [instance] ci252 ci253 ci254 ci255 ci256 ci257 ci258 ci259 ci260 ci261 ci262 ci263 ci264 ci265 ci266 ci267 ci268 ci269 ci270 ci271
attribute [instance] ci272 ci273 ci274 ci275 ci276 ci277 ci278 ci279 ci280 ci281 ci282 ci283 ci284 ci285 ci286 ci287 ci288 ci289 ci290 ci291
attribute [instance] ci292 ci293 ci294 ci295 ci296 ci297 ci298 ci327 ci328 ci329 ci330 ci331 ci332 ci333 ci334 ci335
end Go.Proofs.YtdhpjdhloaoepaaGreat

/- The walk's own steps, one rule an operation; a script takes what needs no thought. (Printed by gen_gy.py.) -/
namespace Go.Proofs.YtdhpjdhloaoepaaGreat
open Go
class GetA (vs : Array Value) (i : Nat) (v : outParam Value) : Prop where
  h : vs[i]? = some v
instance GetA.zero {x : Value} {r : List Value} : GetA (x :: r).toArray 0 x := ⟨by simp⟩
instance GetA.succ {x f : Value} {r : List Value} {i : Nat} [g : GetA r.toArray i f] : GetA (x :: r).toArray (i + 1) f := ⟨by simpa using g.h⟩
/-- The one that comes next, looked at. -/
def SO (W : World) (P : Program) (n : Nat) (ops : Array Oper) (i : Nat) (o : Oper) (r : Ord) (Ts : Facts) (k : Kont) (l : Env) (L : List HProp) : Prop := ops[i]? = some o → SQ W P n ops (.cons i true r) Ts k l L
theorem see {W : World} {P : Program} {n : Nat} {ops : Array Oper} {i : Nat} {o : Oper} {r : Ord} {Ts : Facts} {k : Kont} {l : Env} {L : List HProp} (hi : ops[i]? = some o) (h : SO W P n ops i o r Ts k l L) : SQ W P n ops (.cons i true r) Ts k l L := h hi
section
variable {W : World} {P : Program} {n : Nat} {k : Kont} {l : Env} {L R : List HProp} {ops : Array Oper} {os : List Oper} {ty : TypeId} {pos : String} {after : Array Edge} {v : Value} {d i_ : Nat} {r_ : Ord} {Ts : Facts}
theorem R_mv {x : Operand} (hx : ev l x = some v) (hd : Nat.blt d n = true) (h : SR W P n ops os k ((d, v) :: l) L) : SR W P n ops (⟨some d, .move x, ty, pos, after, none⟩ :: os) k l L := SR_pu (RD_move hx) hd h
theorem Q_mv {x : Operand} (hx : ev l x = some v) (hd : Nat.blt d n = true) (h : SQ W P n ops r_ Ts k ((d, v) :: l) L) : SO W P n ops i_ ⟨some d, .move x, ty, pos, after, none⟩ r_ Ts k l L := fun hi => SQ_pu hi (RD_move hx) hd h
theorem R_nc {x : Operand} {a : Addr} (hx : ev l x = some (.pointer (some a))) (hd : Nat.blt d n = true) (h : SR W P n ops os k ((d, .pointer (some a)) :: l) L) : SR W P n ops (⟨some d, .nilCheck x, ty, pos, after, none⟩ :: os) k l L := SR_pu (RD_nilCheck hx) hd h
theorem Q_nc {x : Operand} {a : Addr} (hx : ev l x = some (.pointer (some a))) (hd : Nat.blt d n = true) (h : SQ W P n ops r_ Ts k ((d, .pointer (some a)) :: l) L) : SO W P n ops i_ ⟨some d, .nilCheck x, ty, pos, after, none⟩ r_ Ts k l L := fun hi => SQ_pu hi (RD_nilCheck hx) hd h
theorem R_ncF {x : Operand} {f : FuncId} {vs : Array Value} (hx : ev l x = some (.func (.func f) #[] vs)) (hd : Nat.blt d n = true) (h : SR W P n ops os k ((d, .func (.func f) #[] vs) :: l) L) : SR W P n ops (⟨some d, .nilCheck x, ty, pos, after, none⟩ :: os) k l L := SR_pu (RD_nilCheckF hx) hd h
theorem Q_ncF {x : Operand} {f : FuncId} {vs : Array Value} (hx : ev l x = some (.func (.func f) #[] vs)) (hd : Nat.blt d n = true) (h : SQ W P n ops r_ Ts k ((d, .func (.func f) #[] vs) :: l) L) : SO W P n ops i_ ⟨some d, .nilCheck x, ty, pos, after, none⟩ r_ Ts k l L := fun hi => SQ_pu hi (RD_nilCheckF hx) hd h
theorem R_fa0 {x : Operand} {s i b off m : Nat} {t : TypeId} [f : FI P s i 0 t (m + 1)] (hx : ev l x = some (.pointer (some ⟨b, off, none⟩))) (hd : Nat.blt d n = true) (h : SR W P n ops os k ((d, .pointer (some ⟨b, off, none⟩)) :: l) L) : SR W P n ops (⟨some d, .fieldAddr s x i, ty, pos, after, none⟩ :: os) k l L := SR_pu (RD_fa0 hx) hd h
theorem Q_fa0 {x : Operand} {s i b off m : Nat} {t : TypeId} [f : FI P s i 0 t (m + 1)] (hx : ev l x = some (.pointer (some ⟨b, off, none⟩))) (hd : Nat.blt d n = true) (h : SQ W P n ops r_ Ts k ((d, .pointer (some ⟨b, off, none⟩)) :: l) L) : SO W P n ops i_ ⟨some d, .fieldAddr s x i, ty, pos, after, none⟩ r_ Ts k l L := fun hi => SQ_pu hi (RD_fa0 hx) hd h
theorem R_fa {x : Operand} {s i b off o m : Nat} {t : TypeId} [f : FI P s i o t (m + 1)] (hx : ev l x = some (.pointer (some ⟨b, off, none⟩))) (hd : Nat.blt d n = true) (h : SR W P n ops os k ((d, .pointer (some ⟨b, off + o, none⟩)) :: l) L) : SR W P n ops (⟨some d, .fieldAddr s x i, ty, pos, after, none⟩ :: os) k l L := SR_pu (RD_fa hx) hd h
theorem Q_fa {x : Operand} {s i b off o m : Nat} {t : TypeId} [f : FI P s i o t (m + 1)] (hx : ev l x = some (.pointer (some ⟨b, off, none⟩))) (hd : Nat.blt d n = true) (h : SQ W P n ops r_ Ts k ((d, .pointer (some ⟨b, off + o, none⟩)) :: l) L) : SO W P n ops i_ ⟨some d, .fieldAddr s x i, ty, pos, after, none⟩ r_ Ts k l L := fun hi => SQ_pu hi (RD_fa hx) hd h
theorem R_ld {x : Operand} {t b off : Nat} {cs : List Value} {E : TypeId} {fz : Nat × Nat} [a : AI P t false] (hx : ev l x = some (.pointer (some ⟨b, off, none⟩))) [tp : TakePt L b (.cells cs.toArray E fz) R] (hv : cs[off]? = some v) (hd : Nat.blt d n = true) (h : SR W P n ops os k ((d, v) :: l) L) : SR W P n ops (⟨some d, .load t x, ty, pos, after, none⟩ :: os) k l L := SR_rd (RD_load a.h hx) (Has.ce hv) hd h
theorem Q_ld {x : Operand} {t b off : Nat} {cs : List Value} {E : TypeId} {fz : Nat × Nat} [a : AI P t false] (hx : ev l x = some (.pointer (some ⟨b, off, none⟩))) [tp : TakePt L b (.cells cs.toArray E fz) R] (hv : cs[off]? = some v) (hd : Nat.blt d n = true) (h : SQ W P n ops r_ ((i_, (cellR b off v)) :: Ts) k ((d, v) :: l) L) : SO W P n ops i_ ⟨some d, .load t x, ty, pos, after, none⟩ r_ Ts k l L := fun hi => SQ_rd hi (RD_load a.h hx) (Has.ce hv) hd h
theorem R_lda {x : Operand} {t b m : Nat} {cs : List Value} {E : TypeId} {fz : Nat × Nat} [a : AI P t true] [z : SI P t m] (hx : ev l x = some (.pointer (some ⟨b, 0, none⟩))) [tp : TakePt L b (.cells cs.toArray E fz) R] (hm : cs.length = m) (hd : Nat.blt d n = true) (h : SR W P n ops os k ((d, .agg cs.toArray) :: l) L) : SR W P n ops (⟨some d, .load t x, ty, pos, after, none⟩ :: os) k l L := SR_rd (RD_loadA a.h z.h hm hx) (Has.wh) hd h
theorem Q_lda {x : Operand} {t b m : Nat} {cs : List Value} {E : TypeId} {fz : Nat × Nat} [a : AI P t true] [z : SI P t m] (hx : ev l x = some (.pointer (some ⟨b, 0, none⟩))) [tp : TakePt L b (.cells cs.toArray E fz) R] (hm : cs.length = m) (hd : Nat.blt d n = true) (h : SQ W P n ops r_ ((i_, (cellsR b 0 cs)) :: Ts) k ((d, .agg cs.toArray) :: l) L) : SO W P n ops i_ ⟨some d, .load t x, ty, pos, after, none⟩ r_ Ts k l L := fun hi => SQ_rd hi (RD_loadA a.h z.h hm hx) (Has.wh) hd h
theorem R_as {x : Operand} (hx : ev l x = some v) (hd : Nat.blt d n = true) (h : SR W P n ops os k ((d, v) :: l) L) : SR W P n ops (⟨some d, .assign x, ty, pos, after, none⟩ :: os) k l L := SR_pu (RD_assign hx) hd h
theorem Q_as {x : Operand} (hx : ev l x = some v) (hd : Nat.blt d n = true) (h : SQ W P n ops r_ Ts k ((d, v) :: l) L) : SO W P n ops i_ ⟨some d, .assign x, ty, pos, after, none⟩ r_ Ts k l L := fun hi => SQ_pu hi (RD_assign hx) hd h
theorem R_xt {x : Operand} {i : Nat} {vs : Array Value} (hx : ev l x = some (.tuple vs)) [ga : GetA vs i v] (hd : Nat.blt d n = true) (h : SR W P n ops os k ((d, v) :: l) L) : SR W P n ops (⟨some d, .extract x i, ty, pos, after, none⟩ :: os) k l L := SR_pu (RD_extract hx ga.h) hd h
theorem Q_xt {x : Operand} {i : Nat} {vs : Array Value} (hx : ev l x = some (.tuple vs)) [ga : GetA vs i v] (hd : Nat.blt d n = true) (h : SQ W P n ops r_ Ts k ((d, v) :: l) L) : SO W P n ops i_ ⟨some d, .extract x i, ty, pos, after, none⟩ r_ Ts k l L := fun hi => SQ_pu hi (RD_extract hx ga.h) hd h
theorem R_lss {x y : Operand} {t yt : TypeId} {q : IntKind} {a b : Int} (hx : ev l x = some (.int q a)) (hy : ev l y = some (.int q b)) (hd : Nat.blt d n = true) (h : SR W P n ops os k ((d, .bool (decide (a < b))) :: l) L) : SR W P n ops (⟨some d, .binOp .lss t x y yt, ty, pos, after, none⟩ :: os) k l L := SR_pu (RD_lss hx hy) hd h
theorem Q_lss {x y : Operand} {t yt : TypeId} {q : IntKind} {a b : Int} (hx : ev l x = some (.int q a)) (hy : ev l y = some (.int q b)) (hd : Nat.blt d n = true) (h : SQ W P n ops r_ Ts k ((d, .bool (decide (a < b))) :: l) L) : SO W P n ops i_ ⟨some d, .binOp .lss t x y yt, ty, pos, after, none⟩ r_ Ts k l L := fun hi => SQ_pu hi (RD_lss hx hy) hd h
theorem R_leq {x y : Operand} {t yt : TypeId} {q : IntKind} {a b : Int} (hx : ev l x = some (.int q a)) (hy : ev l y = some (.int q b)) (hd : Nat.blt d n = true) (h : SR W P n ops os k ((d, .bool (decide (a ≤ b))) :: l) L) : SR W P n ops (⟨some d, .binOp .leq t x y yt, ty, pos, after, none⟩ :: os) k l L := SR_pu (RD_leq hx hy) hd h
theorem Q_leq {x y : Operand} {t yt : TypeId} {q : IntKind} {a b : Int} (hx : ev l x = some (.int q a)) (hy : ev l y = some (.int q b)) (hd : Nat.blt d n = true) (h : SQ W P n ops r_ Ts k ((d, .bool (decide (a ≤ b))) :: l) L) : SO W P n ops i_ ⟨some d, .binOp .leq t x y yt, ty, pos, after, none⟩ r_ Ts k l L := fun hi => SQ_pu hi (RD_leq hx hy) hd h
theorem R_gtr {x y : Operand} {t yt : TypeId} {q : IntKind} {a b : Int} (hx : ev l x = some (.int q a)) (hy : ev l y = some (.int q b)) (hd : Nat.blt d n = true) (h : SR W P n ops os k ((d, .bool (decide (b < a))) :: l) L) : SR W P n ops (⟨some d, .binOp .gtr t x y yt, ty, pos, after, none⟩ :: os) k l L := SR_pu (RD_gtr hx hy) hd h
theorem Q_gtr {x y : Operand} {t yt : TypeId} {q : IntKind} {a b : Int} (hx : ev l x = some (.int q a)) (hy : ev l y = some (.int q b)) (hd : Nat.blt d n = true) (h : SQ W P n ops r_ Ts k ((d, .bool (decide (b < a))) :: l) L) : SO W P n ops i_ ⟨some d, .binOp .gtr t x y yt, ty, pos, after, none⟩ r_ Ts k l L := fun hi => SQ_pu hi (RD_gtr hx hy) hd h
theorem R_geq {x y : Operand} {t yt : TypeId} {q : IntKind} {a b : Int} (hx : ev l x = some (.int q a)) (hy : ev l y = some (.int q b)) (hd : Nat.blt d n = true) (h : SR W P n ops os k ((d, .bool (decide (b ≤ a))) :: l) L) : SR W P n ops (⟨some d, .binOp .geq t x y yt, ty, pos, after, none⟩ :: os) k l L := SR_pu (RD_geq hx hy) hd h
theorem Q_geq {x y : Operand} {t yt : TypeId} {q : IntKind} {a b : Int} (hx : ev l x = some (.int q a)) (hy : ev l y = some (.int q b)) (hd : Nat.blt d n = true) (h : SQ W P n ops r_ Ts k ((d, .bool (decide (b ≤ a))) :: l) L) : SO W P n ops i_ ⟨some d, .binOp .geq t x y yt, ty, pos, after, none⟩ r_ Ts k l L := fun hi => SQ_pu hi (RD_geq hx hy) hd h
theorem R_eql {x y : Operand} {t yt : TypeId} {q : IntKind} {a b : Int} (hx : ev l x = some (.int q a)) (hy : ev l y = some (.int q b)) (hd : Nat.blt d n = true) (h : SR W P n ops os k ((d, .bool (decide (a = b))) :: l) L) : SR W P n ops (⟨some d, .binOp .eql t x y yt, ty, pos, after, none⟩ :: os) k l L := SR_pu (RD_eql hx hy) hd h
theorem Q_eql {x y : Operand} {t yt : TypeId} {q : IntKind} {a b : Int} (hx : ev l x = some (.int q a)) (hy : ev l y = some (.int q b)) (hd : Nat.blt d n = true) (h : SQ W P n ops r_ Ts k ((d, .bool (decide (a = b))) :: l) L) : SO W P n ops i_ ⟨some d, .binOp .eql t x y yt, ty, pos, after, none⟩ r_ Ts k l L := fun hi => SQ_pu hi (RD_eql hx hy) hd h
theorem R_neq {x y : Operand} {t yt : TypeId} {q : IntKind} {a b : Int} (hx : ev l x = some (.int q a)) (hy : ev l y = some (.int q b)) (hd : Nat.blt d n = true) (h : SR W P n ops os k ((d, .bool (!decide (a = b))) :: l) L) : SR W P n ops (⟨some d, .binOp .neq t x y yt, ty, pos, after, none⟩ :: os) k l L := SR_pu (RD_neq hx hy) hd h
theorem Q_neq {x y : Operand} {t yt : TypeId} {q : IntKind} {a b : Int} (hx : ev l x = some (.int q a)) (hy : ev l y = some (.int q b)) (hd : Nat.blt d n = true) (h : SQ W P n ops r_ Ts k ((d, .bool (!decide (a = b))) :: l) L) : SO W P n ops i_ ⟨some d, .binOp .neq t x y yt, ty, pos, after, none⟩ r_ Ts k l L := fun hi => SQ_pu hi (RD_neq hx hy) hd h
theorem R_not {x : Operand} {t : TypeId} {a : Bool} (hx : ev l x = some (.bool a)) (hd : Nat.blt d n = true) (h : SR W P n ops os k ((d, .bool (!a)) :: l) L) : SR W P n ops (⟨some d, .unOp .not t x, ty, pos, after, none⟩ :: os) k l L := SR_pu (RD_not hx) hd h
theorem Q_not {x : Operand} {t : TypeId} {a : Bool} (hx : ev l x = some (.bool a)) (hd : Nat.blt d n = true) (h : SQ W P n ops r_ Ts k ((d, .bool (!a)) :: l) L) : SO W P n ops i_ ⟨some d, .unOp .not t x, ty, pos, after, none⟩ r_ Ts k l L := fun hi => SQ_pu hi (RD_not hx) hd h
theorem R_len {x : Operand} {t e : TypeId} {a : Option Addr} {m c : Nat} [u : UI P t (.slice e)] (hx : ev l x = some (.slice a m c)) (hd : Nat.blt d n = true) (h : SR W P n ops os k ((d, .int .i64 m) :: l) L) : SR W P n ops (⟨some d, .call ⟨.builtin .len, #[x], #[t]⟩, ty, pos, after, none⟩ :: os) k l L := SR_pu (RD_len UI.r hx) hd h
theorem Q_len {x : Operand} {t e : TypeId} {a : Option Addr} {m c : Nat} [u : UI P t (.slice e)] (hx : ev l x = some (.slice a m c)) (hd : Nat.blt d n = true) (h : SQ W P n ops r_ Ts k ((d, .int .i64 m) :: l) L) : SO W P n ops i_ ⟨some d, .call ⟨.builtin .len, #[x], #[t]⟩, ty, pos, after, none⟩ r_ Ts k l L := fun hi => SQ_pu hi (RD_len UI.r hx) hd h
theorem R_eqlP {x y : Operand} {t yt e : TypeId} {a : Option Addr} [u : UI P t (.pointer e)] (hx : ev l x = some (.pointer a)) (hy : ev l y = some (.pointer none)) (hd : Nat.blt d n = true) (h : SR W P n ops os k ((d, .bool a.isNone) :: l) L) : SR W P n ops (⟨some d, .binOp .eql t x y yt, ty, pos, after, none⟩ :: os) k l L := SR_pu (RD_eqlP u.h hx hy) hd h
theorem Q_eqlP {x y : Operand} {t yt e : TypeId} {a : Option Addr} [u : UI P t (.pointer e)] (hx : ev l x = some (.pointer a)) (hy : ev l y = some (.pointer none)) (hd : Nat.blt d n = true) (h : SQ W P n ops r_ Ts k ((d, .bool a.isNone) :: l) L) : SO W P n ops i_ ⟨some d, .binOp .eql t x y yt, ty, pos, after, none⟩ r_ Ts k l L := fun hi => SQ_pu hi (RD_eqlP u.h hx hy) hd h
theorem R_neqP {x y : Operand} {t yt e : TypeId} {a : Option Addr} [u : UI P t (.pointer e)] (hx : ev l x = some (.pointer a)) (hy : ev l y = some (.pointer none)) (hd : Nat.blt d n = true) (h : SR W P n ops os k ((d, .bool (!a.isNone)) :: l) L) : SR W P n ops (⟨some d, .binOp .neq t x y yt, ty, pos, after, none⟩ :: os) k l L := SR_pu (RD_neqP u.h hx hy) hd h
theorem Q_neqP {x y : Operand} {t yt e : TypeId} {a : Option Addr} [u : UI P t (.pointer e)] (hx : ev l x = some (.pointer a)) (hy : ev l y = some (.pointer none)) (hd : Nat.blt d n = true) (h : SQ W P n ops r_ Ts k ((d, .bool (!a.isNone)) :: l) L) : SO W P n ops i_ ⟨some d, .binOp .neq t x y yt, ty, pos, after, none⟩ r_ Ts k l L := fun hi => SQ_pu hi (RD_neqP u.h hx hy) hd h
theorem R_min {x y : Operand} {ts : Array TypeId} {q q2 : IntKind} {a b : Int} (hx : ev l x = some (.int q a)) (hy : ev l y = some (.int q2 b)) (hd : Nat.blt d n = true) (h : SR W P n ops os k ((d, .int q (if b < a then b else a)) :: l) L) : SR W P n ops (⟨some d, .call ⟨.builtin .min, #[x, y], ts⟩, ty, pos, after, none⟩ :: os) k l L := SR_pu (RD_min hx hy) hd h
theorem Q_min {x y : Operand} {ts : Array TypeId} {q q2 : IntKind} {a b : Int} (hx : ev l x = some (.int q a)) (hy : ev l y = some (.int q2 b)) (hd : Nat.blt d n = true) (h : SQ W P n ops r_ Ts k ((d, .int q (if b < a then b else a)) :: l) L) : SO W P n ops i_ ⟨some d, .call ⟨.builtin .min, #[x, y], ts⟩, ty, pos, after, none⟩ r_ Ts k l L := fun hi => SQ_pu hi (RD_min hx hy) hd h
theorem R_max {x y : Operand} {ts : Array TypeId} {q q2 : IntKind} {a b : Int} (hx : ev l x = some (.int q a)) (hy : ev l y = some (.int q2 b)) (hd : Nat.blt d n = true) (h : SR W P n ops os k ((d, .int q (if b > a then b else a)) :: l) L) : SR W P n ops (⟨some d, .call ⟨.builtin .max, #[x, y], ts⟩, ty, pos, after, none⟩ :: os) k l L := SR_pu (RD_max hx hy) hd h
theorem Q_max {x y : Operand} {ts : Array TypeId} {q q2 : IntKind} {a b : Int} (hx : ev l x = some (.int q a)) (hy : ev l y = some (.int q2 b)) (hd : Nat.blt d n = true) (h : SQ W P n ops r_ Ts k ((d, .int q (if b > a then b else a)) :: l) L) : SO W P n ops i_ ⟨some d, .call ⟨.builtin .max, #[x, y], ts⟩, ty, pos, after, none⟩ r_ Ts k l L := fun hi => SQ_pu hi (RD_max hx hy) hd h
theorem R_fld {x : Operand} {s i o m : Nat} {t : TypeId} {cs : Array Value} [f : FI P s i o t m] [a : AI P t false] (hx : ev l x = some (.agg cs)) (hv : cs[o]? = some v) (hd : Nat.blt d n = true) (h : SR W P n ops os k ((d, v) :: l) L) : SR W P n ops (⟨some d, .field s x i, ty, pos, after, none⟩ :: os) k l L := SR_pu (RD_fld hx hv) hd h
theorem Q_fld {x : Operand} {s i o m : Nat} {t : TypeId} {cs : Array Value} [f : FI P s i o t m] [a : AI P t false] (hx : ev l x = some (.agg cs)) (hv : cs[o]? = some v) (hd : Nat.blt d n = true) (h : SQ W P n ops r_ Ts k ((d, v) :: l) L) : SO W P n ops i_ ⟨some d, .field s x i, ty, pos, after, none⟩ r_ Ts k l L := fun hi => SQ_pu hi (RD_fld hx hv) hd h
theorem R_add {x y : Operand} {t yt : TypeId} {q : IntKind} {a b : Int} (hx : ev l x = some (.int q a)) (hy : ev l y = some (.int q b)) (hd : Nat.blt d n = true) (h : SR W P n ops os k ((d, .int q (q.wrap (a + b))) :: l) L) : SR W P n ops (⟨some d, .binOp .add t x y yt, ty, pos, after, none⟩ :: os) k l L := SR_pu (RD_add hx hy) hd h
theorem Q_mul {x y : Operand} {t yt : TypeId} {q : IntKind} {a b : Int} (hx : ev l x = some (.int q a)) (hy : ev l y = some (.int q b)) (hd : Nat.blt d n = true) (h : SQ W P n ops r_ Ts k ((d, .int q (q.wrap (a * b))) :: l) L) : SO W P n ops i_ ⟨some d, .binOp .mul t x y yt, ty, pos, after, none⟩ r_ Ts k l L := fun hi => SQ_pu hi (RD_mul hx hy) hd h
theorem R_faO {x : Operand} {s i j o m : Nat} {t : TypeId} {a : Option Addr} {cs : List Value} [f : FI P s i o t (m + 1)] [hr : HasRow L a cs] (hx : ev l x = some (.pointer (some (elA a j)))) (hj : j + o < cs.length) (hd : Nat.blt d n = true) (h : SR W P n ops os k ((d, .pointer (some (elA a (j + o)))) :: l) L) : SR W P n ops (⟨some d, .fieldAddr s x i, ty, pos, after, none⟩ :: os) k l L := SR_rd (RD_faO hx hj) (Has.ro) hd h
theorem Q_faO {x : Operand} {s i j o m : Nat} {t : TypeId} {a : Option Addr} {cs : List Value} [f : FI P s i o t (m + 1)] [hr : HasRow L a cs] (hx : ev l x = some (.pointer (some (elA a j)))) (hj : j + o < cs.length) (hd : Nat.blt d n = true) (h : SQ W P n ops r_ ((i_, (rowR a cs)) :: Ts) k ((d, .pointer (some (elA a (j + o)))) :: l) L) : SO W P n ops i_ ⟨some d, .fieldAddr s x i, ty, pos, after, none⟩ r_ Ts k l L := fun hi => SQ_rd hi (RD_faO hx hj) (Has.ro) hd h
theorem SO_pu {op : Op} (hr : RD P l op ty RU v) (hd : Nat.blt d n = true) (h : SQ W P n ops r_ Ts k ((d, v) :: l) L) : SO W P n ops i_ ⟨some d, op, ty, pos, after, none⟩ r_ Ts k l L := fun hi => SQ_pu hi hr hd h
theorem SO_rd {op : Op} {Q : Hp → Prop} (hr : RD P l op ty Q v) (hR : Has W L Q) (hd : Nat.blt d n = true) (h : SQ W P n ops r_ ((i_, Q) :: Ts) k ((d, v) :: l) L) : SO W P n ops i_ ⟨some d, op, ty, pos, after, none⟩ r_ Ts k l L := fun hi => SQ_rd hi hr hR hd h
end
/-- As far as no thought is needed. -/
theorem Wg {A B : Prop} (b : B) (h : B → A := by
  intro hgo
  repeat (first
    | refine R_mv rfl rfl ?_
    | refine R_nc rfl rfl ?_
    | refine R_ncF rfl rfl ?_
    | refine R_fa0 rfl rfl ?_
    | refine R_fa rfl rfl ?_
    | refine SC_seq ?_
    | refine SN_seq ?_
    | refine SC_region ?_
    | refine SR_nil ?_
    | refine SQ_nil ?_
    | refine SC_skip ?_
    | refine SN_block ?_
    | refine SC_block ?_
    | refine SC_exit rfl ?_
    | refine SR_st rfl rfl ?_
    | refine R_ld rfl rfl rfl ?_
    | refine R_lda rfl rfl rfl ?_
    | refine R_as rfl rfl ?_
    | refine R_xt rfl rfl ?_
    | refine R_lss rfl rfl rfl ?_
    | refine R_leq rfl rfl rfl ?_
    | refine R_gtr rfl rfl rfl ?_
    | refine R_geq rfl rfl rfl ?_
    | refine R_eql rfl rfl rfl ?_
    | refine R_neq rfl rfl rfl ?_
    | refine R_not rfl rfl ?_
    | refine R_len rfl rfl ?_
    | refine R_eqlP rfl rfl rfl ?_
    | refine R_neqP rfl rfl rfl ?_
    | refine R_min rfl rfl rfl ?_
    | refine R_max rfl rfl rfl ?_
    | refine R_fld rfl rfl rfl ?_)
  exact hgo) : A := h b
/-- .. in a drawn region. -/
theorem Wh {A B : Prop} (b : B) (h : B → A := by
  intro hgo
  repeat (refine see rfl ?_; first
    | refine Q_mv rfl rfl ?_
    | refine Q_nc rfl rfl ?_
    | refine Q_ncF rfl rfl ?_
    | refine Q_fa0 rfl rfl ?_
    | refine Q_fa rfl rfl ?_
    | refine Q_ld rfl rfl rfl ?_
    | refine Q_lda rfl rfl rfl ?_
    | refine Q_as rfl rfl ?_
    | refine Q_xt rfl rfl ?_
    | refine Q_lss rfl rfl rfl ?_
    | refine Q_leq rfl rfl rfl ?_
    | refine Q_gtr rfl rfl rfl ?_
    | refine Q_geq rfl rfl rfl ?_
    | refine Q_eql rfl rfl rfl ?_
    | refine Q_neq rfl rfl rfl ?_
    | refine Q_not rfl rfl ?_
    | refine Q_len rfl rfl ?_
    | refine Q_eqlP rfl rfl rfl ?_
    | refine Q_neqP rfl rfl rfl ?_
    | refine Q_min rfl rfl rfl ?_
    | refine Q_max rfl rfl rfl ?_
    | refine Q_fld rfl rfl rfl ?_)
  exact hgo) : A := h b
/-- One step. -/
theorem Ws {A B : Prop} (b : B) (h : B → A := by
  intro hgo
  first
    | refine R_mv rfl rfl ?_
    | refine R_nc rfl rfl ?_
    | refine R_ncF rfl rfl ?_
    | refine R_fa0 rfl rfl ?_
    | refine R_fa rfl rfl ?_
    | refine SC_seq ?_
    | refine SN_seq ?_
    | refine SC_region ?_
    | refine SR_nil ?_
    | refine SQ_nil ?_
    | refine SC_skip ?_
    | refine SN_block ?_
    | refine SC_block ?_
    | refine SC_exit rfl ?_
    | refine SR_st rfl rfl ?_
    | refine R_ld rfl rfl rfl ?_
    | refine R_lda rfl rfl rfl ?_
    | refine R_as rfl rfl ?_
    | refine R_xt rfl rfl ?_
    | refine R_lss rfl rfl rfl ?_
    | refine R_leq rfl rfl rfl ?_
    | refine R_gtr rfl rfl rfl ?_
    | refine R_geq rfl rfl rfl ?_
    | refine R_eql rfl rfl rfl ?_
    | refine R_neq rfl rfl rfl ?_
    | refine R_not rfl rfl ?_
    | refine R_len rfl rfl ?_
    | refine R_eqlP rfl rfl rfl ?_
    | refine R_neqP rfl rfl rfl ?_
    | refine R_min rfl rfl rfl ?_
    | refine R_max rfl rfl rfl ?_
    | refine R_fld rfl rfl rfl ?_
    | refine SR_pu (RD_addi rfl rfl (by clear hgo; omega) (by clear hgo; omega)) rfl ?_
    | refine SR_pu (RD_subi rfl rfl (by clear hgo; omega) (by clear hgo; omega)) rfl ?_
    | refine SR_pu (RD_muli rfl rfl (by clear hgo; omega) (by clear hgo; omega)) rfl ?_
    | refine R_faO rfl (by clear hgo; simp <;> omega) rfl ?_
    | refine SR_rd (RD_ixO UI.r SI.h rfl rfl (by clear hgo; first | assumption | (simp; done) | (simp; omega)) (by clear hgo; omega) (by clear hgo; omega)) Has.ro rfl ?_
    | refine SR_pu (RD_convI UI.r UI.r rfl) rfl ?_
    | refine SR_pu (RD_remi rfl rfl (by clear hgo; omega) (by clear hgo; omega)) rfl ?_
    | refine SR_pu (RD_pick rfl rfl rfl) rfl ?_
    | refine SR_pu (RD_eqlM UI.h rfl rfl) rfl ?_
  exact hgo) : A := h b
/-- .. in a drawn region. -/
theorem Wq {A B : Prop} (b : B) (h : B → A := by
  intro hgo
  refine see rfl ?_
  first
    | refine Q_mv rfl rfl ?_
    | refine Q_nc rfl rfl ?_
    | refine Q_ncF rfl rfl ?_
    | refine Q_fa0 rfl rfl ?_
    | refine Q_fa rfl rfl ?_
    | refine Q_ld rfl rfl rfl ?_
    | refine Q_lda rfl rfl rfl ?_
    | refine Q_as rfl rfl ?_
    | refine Q_xt rfl rfl ?_
    | refine Q_lss rfl rfl rfl ?_
    | refine Q_leq rfl rfl rfl ?_
    | refine Q_gtr rfl rfl rfl ?_
    | refine Q_geq rfl rfl rfl ?_
    | refine Q_eql rfl rfl rfl ?_
    | refine Q_neq rfl rfl rfl ?_
    | refine Q_not rfl rfl ?_
    | refine Q_len rfl rfl ?_
    | refine Q_eqlP rfl rfl rfl ?_
    | refine Q_neqP rfl rfl rfl ?_
    | refine Q_min rfl rfl rfl ?_
    | refine Q_max rfl rfl rfl ?_
    | refine Q_fld rfl rfl rfl ?_
    | refine SO_pu (RD_addi rfl rfl (by clear hgo; omega) (by clear hgo; omega)) rfl ?_
    | refine SO_pu (RD_subi rfl rfl (by clear hgo; omega) (by clear hgo; omega)) rfl ?_
    | refine SO_pu (RD_muli rfl rfl (by clear hgo; omega) (by clear hgo; omega)) rfl ?_
    | refine Q_faO rfl (by clear hgo; simp <;> omega) rfl ?_
    | refine SO_rd (RD_ixO UI.r SI.h rfl rfl (by clear hgo; first | assumption | (simp; done) | (simp; omega)) (by clear hgo; omega) (by clear hgo; omega)) Has.ro rfl ?_
    | refine SO_pu (RD_convI UI.r UI.r rfl) rfl ?_
    | refine SO_pu (RD_remi rfl rfl (by clear hgo; omega) (by clear hgo; omega)) rfl ?_
    | refine SO_pu (RD_pick rfl rfl rfl) rfl ?_
    | refine SO_pu (RD_eqlM UI.h rfl rfl) rfl ?_
  exact hgo) : A := h b
/-- The slots that are still wanted. -/
inductive EnvT (l : Env) : List Nat → Env → Prop where
  | nil : EnvT l [] []
  | cons {t : Nat} {ts : List Nat} {v : Value} {l' : Env} (h : look l t = some v) (r : EnvT l ts l') : EnvT l (t :: ts) ((t, v) :: l')
theorem EnvT.le {l l' : Env} : ∀ {ts : List Nat}, EnvT l ts l' → EnvLe l' l
  | _, .nil => .nil
  | _, .cons h r => .cons h r.le
theorem Wa {W : World} {P : Program} {n : Nat} {k : Kont} {l : Env} {L : List HProp} {ops : Array Oper} {os : List Oper} {ty : TypeId} {pos : String} {after : Array Edge} {d : Nat} {t : TypeId} {z : Value} {cs : List Value} [zi : ZI P t z] (h : ∀ b, SR W P n ops os k ((d, .pointer (some ⟨b, 0, none⟩)) :: l) (pt b (.cells cs.toArray t) :: L)) (hc : z.cells = cs.toArray := by rfl) (hd : Nat.blt d n = true := by rfl) :
    SR W P n ops (⟨some d, .alloc t, ty, pos, after, none⟩ :: os) k l L := SR_al hc hd h
theorem Wb {W : World} {P : Program} {n : Nat} {k : Kont} {l : Env} {L : List HProp} {ops : Array Oper} {os : List Oper} {ty : TypeId} {pos : String} {after : Array Edge} {d : Nat} {v : Value} {x : Operand} {t : TypeId} {cs : List Value} (h : ∀ b, SR W P n ops os k ((d, .pointer (some ⟨b, 0, none⟩)) :: l) (pt b (.cells cs.toArray t) :: L)) (hx : ev l x = some v := by rfl) (hc : v.cells = cs.toArray := by rfl) (hd : Nat.blt d n = true := by rfl) :
    SR W P n ops (⟨some d, .box t x, ty, pos, after, none⟩ :: os) k l L := SR_box hx hc hd h
theorem Wc {W : World} {P : Program} {n : Nat} {k : Kont} {l : Env} {L M : List HProp} {ops : Array Oper} {os : List Oper} {ty : TypeId} {pos : String} {after : Array Edge} {u : Value} {f : FuncId} {xs : Array Operand} {ats : Array TypeId} {args : Array Value} {dst : Option Tmp} [c : CI P f] (hc : CallsK W P f args L (fun v L' => v = u ∧ Lands L' M)) (h : SR W P n ops os k (putE dst u l) M)
    (hargs : EvA l xs.toList args.toList := by repeat (first | exact EvA.nil | refine EvA.cons rfl ?_)) (hd : ∀ d, dst = some d → d < n := by first | exact lts rfl | exact ltn) : SR W P n ops (⟨dst, .call ⟨.value (.func f), xs, ats⟩, ty, pos, after, none⟩ :: os) k l L := SR_cl hargs hc hd h
theorem We {W : World} {P : Program} {n : Nat} {k : Kont} {l : Env} {L : List HProp} {ops : Array Oper} {os : List Oper} {ty : TypeId} {pos : String} {after : Array Edge} {f : FuncId} {xs : Array Operand} {ats : Array TypeId} {args : Array Value} {K : Value → List HProp → Prop} {dst : Option Tmp} [c : CI P f] (hc : CallsK W P f args L K) (h : ∀ v L', K v L' → SR W P n ops os k (putE dst v l) L')
    (hargs : EvA l xs.toList args.toList := by repeat (first | exact EvA.nil | refine EvA.cons rfl ?_)) (hd : ∀ d, dst = some d → d < n := by first | exact lts rfl | exact ltn) : SR W P n ops (⟨dst, .call ⟨.value (.func f), xs, ats⟩, ty, pos, after, none⟩ :: os) k l L := SR_ce hargs hc hd h
theorem Wd {W : World} {P : Program} {n : Nat} {k : Kont} {l : Env} {L : List HProp} {id : Nat} {os : List Oper} (p : List PO) (h : SQ W P n os.toArray (pl p) [] k l L) (hm : P.follows .mixedOrders = true := by kernel_rfl) (hc : (Region.noSelect os.toArray && chkOrd os.toArray (pl p) (Array.replicate os.toArray.size false) os.toArray.size) = true := by kernel_rfl) : SC W P n (.region id os.toArray true) k l L := SC_drawn (pl p) hm hc h
theorem Wqs {W : World} {P : Program} {n : Nat} {k : Kont} {l : Env} {L R : List HProp} {ops : Array Oper} {ty : TypeId} {pos : String} {after : Array Edge} {v : Value} {i : Nat} {r : Ord} {Ts : Facts} {x y : Operand} {t b off : Nat} {cs cs' : List Value} {T : TypeId} [z : SI P t 1] (h : SQ W P n ops r Ts k l (pt b (.cells cs'.toArray T) :: R)) (hi : ops[i]? = some ⟨none, .store t x y, ty, pos, after, none⟩ := by rfl) (hx : ev l x = some (.pointer (some ⟨b, off, none⟩)) := by rfl) (hy : ev l y = some v := by rfl) [ho : One v] [tp : TakePt L b (.cells cs.toArray T) R] [s : SetAt cs off v cs']
    (hk : Keeps W ops i (pt b (.cells cs'.toArray T) :: R) Ts := by repeat (first | exact Keeps.nil | refine Keeps.w rfl ?_ | refine Keeps.h (Has.ce rfl) ?_ | refine Keeps.h Has.wh ?_ | refine Keeps.h Has.ro ?_)) : SQ W P n ops (.cons i false r) Ts k l L := SQ_st hi hx hy hk h
end Go.Proofs.YtdhpjdhloaoepaaGreat

/- The writer of bytes and what it holds. -/
namespace Go.Proofs.YtdhpjdhloaoepaaGreat
open Go Go.Proofs
attribute [local irreducible] SC SN SR SQ SA SO

/-- A writer holds bytes. -/
def writerI (p : Nat) (bs : List UInt8) : HProp := fun h => ∃ a n c, Den [pt p (.cells [.slice a n c].toArray 247), rowP 5 1 a n c (bs.map byteV)] h
theorem Den_app {L R : List HProp} {m m1 m2 : Hp} (d : disj m1 m2) (e : m = join m1 m2) (h : Den L m1) (r : Den R m2) : Den (L ++ R) m := Den_append.2 ⟨m1, m2, d, e, h, r⟩
theorem open_writer {p : Nat} {bs : List UInt8} : Opens writerI p bs (fun x : (Option Addr) × (Nat) × (Nat) => (bs.length = x.2.1)) (fun x R => (pt p (.cells [.slice x.1 x.2.1 x.2.2].toArray 247)) :: (rowP 5 1 x.1 x.2.1 x.2.2 (bs.map byteV)) :: R) := by
  rintro R m ⟨m1, m2, d, e, ⟨a, n, c, h⟩, r⟩
  refine ⟨(a, n, c), ?_, Den_app d e h r⟩
  obtain ⟨_, _, _, _, _, h1, h2, _, _, hr, _⟩ := h
  simpa using (rowP_len hr).1
theorem SC.op_writer {W : World} {P : Program} {L R : List HProp} {n_ : Nat} {c_ : Code} {k_ : Kont} {l_ : Env} {p : Nat} {bs : List UInt8} [t_ : TakeAt L writerI p bs R] (h_ : ∀ (a : Option Addr) (n : Nat) (c : Nat), (bs.length = n) → SC W P n_ c_ k_ l_ ((pt p (.cells [.slice a n c].toArray 247)) :: (rowP 5 1 a n c (bs.map byteV)) :: R)) : SC W P n_ c_ k_ l_ L := SC.opn (open_writer) fun x hx => h_ x.1 x.2.1 x.2.2 hx
theorem SN.op_writer {W : World} {P : Program} {L R : List HProp} {n_ : Nat} {k_ : Kont} {l_ : Env} {p : Nat} {bs : List UInt8} [t_ : TakeAt L writerI p bs R] (h_ : ∀ (a : Option Addr) (n : Nat) (c : Nat), (bs.length = n) → SN W P n_ k_ l_ ((pt p (.cells [.slice a n c].toArray 247)) :: (rowP 5 1 a n c (bs.map byteV)) :: R)) : SN W P n_ k_ l_ L := SN.opn (open_writer) fun x hx => h_ x.1 x.2.1 x.2.2 hx
theorem SR.op_writer {W : World} {P : Program} {L R : List HProp} {n_ : Nat} {ops_ : Array Oper} {os_ : List Oper} {k_ : Kont} {l_ : Env} {p : Nat} {bs : List UInt8} [t_ : TakeAt L writerI p bs R] (h_ : ∀ (a : Option Addr) (n : Nat) (c : Nat), (bs.length = n) → SR W P n_ ops_ os_ k_ l_ ((pt p (.cells [.slice a n c].toArray 247)) :: (rowP 5 1 a n c (bs.map byteV)) :: R)) : SR W P n_ ops_ os_ k_ l_ L := SR.opn (open_writer) fun x hx => h_ x.1 x.2.1 x.2.2 hx
theorem SQ.op_writer {W : World} {P : Program} {L R : List HProp} {n_ : Nat} {ops_ : Array Oper} {r_ : Ord} {Ts_ : Facts} {k_ : Kont} {l_ : Env} {p : Nat} {bs : List UInt8} [t_ : TakeAt L writerI p bs R] (h_ : ∀ (a : Option Addr) (n : Nat) (c : Nat), (bs.length = n) → SQ W P n_ ops_ r_ Ts_ k_ l_ ((pt p (.cells [.slice a n c].toArray 247)) :: (rowP 5 1 a n c (bs.map byteV)) :: R)) : SQ W P n_ ops_ r_ Ts_ k_ l_ L := SQ.opn (open_writer) fun x hx => h_ x.1 x.2.1 x.2.2 hx
theorem CallsK.op_writer {W : World} {P : Program} {L R : List HProp} {f_ : FuncId} {args_ : Array Value} {K_ : Value → List HProp → Prop} {p : Nat} {bs : List UInt8} [t_ : TakeAt L writerI p bs R] (h_ : ∀ (a : Option Addr) (n : Nat) (c : Nat), (bs.length = n) → CallsK W P f_ args_ ((pt p (.cells [.slice a n c].toArray 247)) :: (rowP 5 1 a n c (bs.map byteV)) :: R) K_) : CallsK W P f_ args_ L K_ := CallsK.opn (open_writer) fun x hx => h_ x.1 x.2.1 x.2.2 hx
theorem close_writer {L R R1 : List HProp} {p n c : Nat} {a : Option Addr} {cs : List Value} {bs : List UInt8} [t : TakePt L p (.cells [.slice a n c].toArray 247) R1] [u : TakeRow R1 a 5 1 n c cs R] (h : cs = bs.map byteV) : Lands L (At writerI p bs :: R) := fun m H => by
  subst h
  have H1 := Den_perm t.perm m H
  obtain ⟨m1, m2, d, e, hp, hr⟩ := H1
  have H2 : Den ([pt p (.cells [.slice a n c].toArray 247), rowP 5 1 a n c (bs.map byteV)] ++ R) m := ⟨m1, m2, d, e, hp, Den_perm u.perm m2 hr⟩
  obtain ⟨k1, k2, d2, e2, x, y⟩ := Den_append.1 H2
  exact ⟨k1, k2, d2, e2, ⟨a, n, c, x⟩, y⟩
/-- Eight bytes of a number, the highest first. -/
def be (x : Nat) : List UInt8 := (List.range 8).map fun i => UInt8.ofNat (x / 2 ^ (56 - 8 * i))
theorem be_length (x : Nat) : (be x).length = 8 := rfl
/-- .. of any integer. -/
def bei (x : Int) : List UInt8 := be (x % 18446744073709551616).toNat
theorem bei_length (x : Int) : (bei x).length = 8 := rfl
theorem bei_in {x : Int} (h0 : 0 ≤ x) (h1 : x < 18446744073709551616) : bei x = be x.toNat := by unfold bei; rw [Int.emod_eq_of_lt h0 h1]
theorem bei_wrap (x : Int) : bei (IntKind.u64.wrap x) = bei x := by unfold bei; rw [IntKind.wrap_u64, Int.emod_emod]
theorem be_take (x i : Nat) (hi : i < 8) : (be x).take (i + 1) = (be x).take i ++ [UInt8.ofNat (x / 2 ^ (56 - 8 * i))] := by
  rw [List.take_add_one]
  congr 1
  simp [be, hi]
theorem be_all (x : Nat) : (be x).take 8 = be x := rfl
theorem num_byte (x : Int) (h0 : 0 ≤ x) (i : Nat) (hi : i < 8) : Value.int .u8 (IntKind.u8.wrap (x.fdiv (2 ^ min (56 - 8 * (i : Int)).toNat IntKind.u64.bits))) = byteV (UInt8.ofNat (x.toNat / 2 ^ (56 - 8 * i))) := by
  have e1 : min (56 - 8 * (i : Int)).toNat IntKind.u64.bits = 56 - 8 * i := by
    have : IntKind.u64.bits = 64 := rfl
    rw [this]; omega
  rw [e1]
  obtain ⟨y, rfl⟩ := Int.eq_ofNat_of_zero_le h0
  rw [Int.fdiv_eq_ediv_of_nonneg _ (by exact Int.le_of_lt (Int.pow_pos (by decide)))]
  unfold byteV
  rw [IntKind.wrap_u8]
  congr 1
/-- A reader and what is left to read. -/
def readerI (p : Nat) (s : List UInt8 × Bool) : HProp := fun h => ∃ a n c, Den [pt p (.cells [.slice a n c, .bool s.2].toArray 339), rowP 5 1 a n c (s.1.map byteV)] h

theorem open_reader {p : Nat} {s : List UInt8 × Bool} : Opens readerI p s (fun x : (Option Addr) × (Nat) × (Nat) => (s.1.length = x.2.1) ∧ (x.2.1 ≤ x.2.2)) (fun x R => (pt p (.cells [.slice x.1 x.2.1 x.2.2, .bool s.2].toArray 339)) :: (rowP 5 1 x.1 x.2.1 x.2.2 (s.1.map byteV)) :: R) := by
  rintro R m ⟨m1, m2, d, e, ⟨a, n, c, h⟩, r⟩
  refine ⟨(a, n, c), ?_, Den_app d e h r⟩
  obtain ⟨_, _, _, _, _, h1, h2, _, _, hr, _⟩ := h
  exact ⟨by simpa using (rowP_len hr).1, (rowP_len hr).2⟩
theorem SC.op_reader {W : World} {P : Program} {L R : List HProp} {n_ : Nat} {c_ : Code} {k_ : Kont} {l_ : Env} {p : Nat} {s : List UInt8 × Bool} [t_ : TakeAt L readerI p s R] (h_ : ∀ (a : Option Addr) (n : Nat) (c : Nat), (s.1.length = n) → (n ≤ c) → SC W P n_ c_ k_ l_ ((pt p (.cells [.slice a n c, .bool s.2].toArray 339)) :: (rowP 5 1 a n c (s.1.map byteV)) :: R)) : SC W P n_ c_ k_ l_ L := SC.opn (open_reader) fun x hx => h_ x.1 x.2.1 x.2.2 hx.1 hx.2
theorem SN.op_reader {W : World} {P : Program} {L R : List HProp} {n_ : Nat} {k_ : Kont} {l_ : Env} {p : Nat} {s : List UInt8 × Bool} [t_ : TakeAt L readerI p s R] (h_ : ∀ (a : Option Addr) (n : Nat) (c : Nat), (s.1.length = n) → (n ≤ c) → SN W P n_ k_ l_ ((pt p (.cells [.slice a n c, .bool s.2].toArray 339)) :: (rowP 5 1 a n c (s.1.map byteV)) :: R)) : SN W P n_ k_ l_ L := SN.opn (open_reader) fun x hx => h_ x.1 x.2.1 x.2.2 hx.1 hx.2
theorem SR.op_reader {W : World} {P : Program} {L R : List HProp} {n_ : Nat} {ops_ : Array Oper} {os_ : List Oper} {k_ : Kont} {l_ : Env} {p : Nat} {s : List UInt8 × Bool} [t_ : TakeAt L readerI p s R] (h_ : ∀ (a : Option Addr) (n : Nat) (c : Nat), (s.1.length = n) → (n ≤ c) → SR W P n_ ops_ os_ k_ l_ ((pt p (.cells [.slice a n c, .bool s.2].toArray 339)) :: (rowP 5 1 a n c (s.1.map byteV)) :: R)) : SR W P n_ ops_ os_ k_ l_ L := SR.opn (open_reader) fun x hx => h_ x.1 x.2.1 x.2.2 hx.1 hx.2
theorem SQ.op_reader {W : World} {P : Program} {L R : List HProp} {n_ : Nat} {ops_ : Array Oper} {r_ : Ord} {Ts_ : Facts} {k_ : Kont} {l_ : Env} {p : Nat} {s : List UInt8 × Bool} [t_ : TakeAt L readerI p s R] (h_ : ∀ (a : Option Addr) (n : Nat) (c : Nat), (s.1.length = n) → (n ≤ c) → SQ W P n_ ops_ r_ Ts_ k_ l_ ((pt p (.cells [.slice a n c, .bool s.2].toArray 339)) :: (rowP 5 1 a n c (s.1.map byteV)) :: R)) : SQ W P n_ ops_ r_ Ts_ k_ l_ L := SQ.opn (open_reader) fun x hx => h_ x.1 x.2.1 x.2.2 hx.1 hx.2
theorem CallsK.op_reader {W : World} {P : Program} {L R : List HProp} {f_ : FuncId} {args_ : Array Value} {K_ : Value → List HProp → Prop} {p : Nat} {s : List UInt8 × Bool} [t_ : TakeAt L readerI p s R] (h_ : ∀ (a : Option Addr) (n : Nat) (c : Nat), (s.1.length = n) → (n ≤ c) → CallsK W P f_ args_ ((pt p (.cells [.slice a n c, .bool s.2].toArray 339)) :: (rowP 5 1 a n c (s.1.map byteV)) :: R) K_) : CallsK W P f_ args_ L K_ := CallsK.opn (open_reader) fun x hx => h_ x.1 x.2.1 x.2.2 hx.1 hx.2
theorem close_reader {L R R1 : List HProp} {p n c : Nat} {a : Option Addr} {cs : List Value} {b : Bool} {bs : List UInt8} [t : TakePt L p (.cells [.slice a n c, .bool b].toArray 339) R1] [u : TakeRow R1 a 5 1 n c cs R] (h : cs = bs.map byteV) : Lands L (At readerI p (bs, b) :: R) := fun m H => by
  subst h
  have H1 := Den_perm t.perm m H
  obtain ⟨m1, m2, d, e, hp, hr⟩ := H1
  have H2 : Den ([pt p (.cells [.slice a n c, .bool b].toArray 339), rowP 5 1 a n c (bs.map byteV)] ++ R) m := ⟨m1, m2, d, e, hp, Den_perm u.perm m2 hr⟩
  obtain ⟨k1, k2, d2, e2, x, y⟩ := Den_append.1 H2
  exact ⟨k1, k2, d2, e2, ⟨a, n, c, x⟩, y⟩
/-- The number of a row of bytes. -/
def unbe (bs : List UInt8) : Nat := bs.foldl (fun r c => r * 256 + c.toNat) 0
theorem unbe_snoc (bs : List UInt8) (c : UInt8) : unbe (bs ++ [c]) = unbe bs * 256 + c.toNat := by simp [unbe]
theorem unbe_lt : ∀ (k : Nat) (bs : List UInt8), bs.length = k → unbe bs < 256 ^ k
  | 0, bs, h => by have : bs = [] := by simpa using h
                   subst this; decide
  | k + 1, bs, h => by
    have hne : bs ≠ [] := by intro e; subst e; simp at h
    rw [← List.dropLast_concat_getLast hne, unbe_snoc]
    have := unbe_lt k bs.dropLast (by simp [h])
    have h2 := (bs.getLast hne).toNat_lt
    rw [Nat.pow_succ]; omega
theorem or_byte (x : Nat) (c : UInt8) (h : x < 72057594037927936) : bor .u64 (IntKind.u64.wrap ((x : Int) * 2 ^ (min (8 : Int).toNat IntKind.u64.bits))) (c.toNat : Int) = ((x * 256 + c.toNat : Nat) : Int) := by
  have e1 : (min (8 : Int).toNat IntKind.u64.bits) = 8 := rfl
  have hc := c.toNat_lt
  rw [e1, IntKind.wrap_u64]
  have e2 : ((x : Int) * 2 ^ 8) % 18446744073709551616 = ((x * 256 : Nat) : Int) := by omega
  rw [e2]
  unfold bor
  have e3 : ∀ y : Nat, BitVec.ofInt IntKind.u64.bits (y : Int) = BitVec.ofNat 64 y := fun y => by apply BitVec.eq_of_toNat_eq; simp [IntKind.bits]
  rw [e3, e3]
  have e4 : (BitVec.ofNat 64 (x * 256) ||| BitVec.ofNat 64 c.toNat).toNat = x * 256 + c.toNat := by
    simp only [BitVec.toNat_or, BitVec.toNat_ofNat]
    rw [Nat.mod_eq_of_lt (show x * 256 < 2 ^ 64 by omega), Nat.mod_eq_of_lt (show c.toNat < 2 ^ 64 by omega)]
    have := Nat.two_pow_add_eq_or_of_lt (show c.toNat < 2 ^ 8 from hc) x
    rw [Nat.mul_comm x 256]; exact this.symm
  have e5 : IntKind.u64.wrap ((BitVec.ofNat 64 (x * 256) ||| BitVec.ofNat 64 c.toNat).toNat : Int) = ((x * 256 + c.toNat : Nat) : Int) := by
    rw [e4, IntWalk.u64_in _ ⟨by omega, by omega⟩]
  exact e5
end Go.Proofs.YtdhpjdhloaoepaaGreat

/- The writer's and the reader's functions. -/
namespace Go.Proofs.YtdhpjdhloaoepaaGreat
open Go Go.Proofs
attribute [local irreducible] SC SN SR SQ SA SO
set_option maxRecDepth 100000

theorem wire_New {W : World} {F : List HProp} [Abs F] :
    CallsK W Tryz.prog 131 #[] (F) (fun v L => ∃ p, v = .pointer (some ⟨p, 0, none⟩) ∧ Lands L (At writerI p [] :: F)) := by
  refine CallsK_enter (n := 3) Tryz.func131 rfl rfl rfl ?_
  iterate 7 refine Ws ?_
  refine SR_pu (RD_build (.nil) built247) rfl ?_
  refine Wb fun b2 => ?_
  iterate 3 refine Ws ?_
  refine SC_ret1 rfl rfl ?_
  refine ⟨_, rfl, ?_⟩
  refine (row_new 5 1 none).trans ?_
  exact (close_writer (p := b2) (bs := []) rfl).trans .fin

theorem wire_Num {W : World} {F : List HProp} [Abs F] (p : Nat) (bs : List UInt8) (x : Int) (hx : 0 ≤ x ∧ x < 18446744073709551616) (hb : bs.length ≤ 1000000000000) :
    CallsK W Tryz.prog 166 #[.pointer (some ⟨p, 0, none⟩), .int .u64 x] (At writerI p bs :: F) (fun v L => v = .tuple #[] ∧ Lands L (At writerI p (bs ++ bei x) :: F)) := by
  refine CallsK_enter (n := 22) Tryz.func166 rfl rfl rfl ?_
  iterate 6 refine Ws ?_
  refine SC_ind (X := Nat) (fun i => i ≤ 8) (fun i => 8 - i) (fun i => [(0, .pointer (some ⟨p, 0, none⟩)), (1, .int .u64 x), (4, .int .i64 (56 - 8 * i))]) (fun i => At writerI p (bs ++ (be x.toNat).take i) :: F) (0) (by omega) (.cons rfl (.cons rfl (.cons rfl (.nil)))) (by simpa using Lands.fin) ?_
  intro i hi ih
  iterate 7 refine Ws ?_
  refine SC_cond rfl (fun hc6 => ?_) (fun hc6 => ?_)
  · have hi8 : i < 8 := by simp at hc6; omega
    iterate 4 refine Ws ?_
    refine SC.op_writer (p := p) fun a n c hn => ?_
    have hn2 : n = bs.length + i := by rw [← hn]; simp [be_length]; omega
    refine Wd [.r 0, .r 1, .r 2, .r 3, .r 4, .r 5, .r 6, .r 7, .r 8, .e 9, .e 10, .r 11, .r 12, .e 13] ?_
    iterate 7 refine Wq ?_
    refine SQ_pu rfl (RD_shr rfl rfl (by omega)) rfl ?_
    refine Wq ?_
    refine SQ_ox rfl (OX_lit1 Tryz.underlying36 Tryz.type5 rfl rfl rfl rfl (.cons rfl (.nil)) (.cons rfl (.nil))) rfl ?_
    rintro _ _ ⟨b18, rfl, rfl⟩
    refine ⟨.h (Has.ce rfl) (.nil), ?_⟩
    refine SQ_ox rfl (OX_app 1 Tryz.underlying36 Tryz.underlying36 Tryz.type5 rfl rfl rfl rfl rfl (by first | rfl | simp; done | (simp; omega)) 1 rfl (by omega) (by omega)) rfl ?_
    rintro _ _ ⟨a19, c19, rfl, rfl⟩
    refine ⟨.w rfl (.nil), ?_⟩
    iterate 2 refine Wq ?_
    refine SQ_ox0 rfl (OX_st Tryz.sizeOf36 rfl rfl) ?_
    rintro _ _ rfl
    refine ⟨.w rfl (.nil), ?_⟩
    iterate 8 refine Ws ?_
    refine SC_again (ih (i + 1) (by omega) (by omega)) (?_) (.cons rfl (.cons rfl (.cons' rfl (ie (by omega)) (.nil))))
    refine (close_writer (p := p) (bs := bs ++ (be x.toNat).take (i + 1)) ?_).trans .fin
    rw [be_take _ i hi8, num_byte x hx.1 i hi8]; simp
  · have hi8 : i = 8 := by simp at hc6; omega
    subst hi8
    refine Ws ?_
    refine SN_stop0 rfl ?_
    exact ⟨rfl, by rw [bei_in hx.1 hx.2, be_all]; exact .fin⟩

theorem wire_Int {W : World} {F : List HProp} [Abs F] (p : Nat) (bs : List UInt8) (x : Int) (hb : bs.length ≤ 1000000000000) :
    CallsK W Tryz.prog 133 #[.pointer (some ⟨p, 0, none⟩), .int .i64 x] (At writerI p bs :: F) (fun v L => v = .tuple #[] ∧ Lands L (At writerI p (bs ++ bei x) :: F)) := by
  refine CallsK_enter (n := 8) Tryz.func133 rfl rfl rfl ?_
  iterate 4 refine Ws ?_
  refine We (CallsK.at (wire_Num p bs (IntKind.u64.wrap x) (by rw [IntKind.wrap_u64]; omega) hb)) ?_
  rintro _ L1 ⟨rfl, hL1⟩
  refine Ws ?_
  refine SN_stop0 rfl ?_
  exact ⟨rfl, by rw [bei_wrap] at hL1; exact hL1⟩

theorem wire_Text {W : World} {F : List HProp} [Abs F] (p : Nat) (bs ds : List UInt8) (a : Option Addr) (n c : Nat) {cs : List Value} [HasRow F a cs] (hcs : cs = ds.map byteV) (hn : ds.length = n) (hb : bs.length + n ≤ 1000000000000 - 8) :
    CallsK W Tryz.prog 132 #[.pointer (some ⟨p, 0, none⟩), .slice a n c] (At writerI p bs :: F) (fun v L => v = .tuple #[] ∧ Lands L (At writerI p (bs ++ (bei n ++ ds)) :: F)) := by
  refine CallsK_enter (n := 17) Tryz.func132 rfl rfl rfl ?_
  subst hcs
  iterate 5 refine Ws ?_
  refine Wc (CallsK.at (wire_Int p bs n (by omega))) ?_
  iterate 2 refine Ws ?_
  refine SC.op_writer (p := p) fun a1 n1 c1 hn1 => ?_
  have hn2 : n1 = bs.length + 8 := by rw [← hn1]; simp [bei_length]
  iterate 7 refine Ws ?_
  refine SR_ox (OX_app 1 Tryz.underlying36 Tryz.underlying36 Tryz.type5 rfl rfl rfl rfl rfl (by simpa using hn) 1 rfl (by omega) (by omega)) rfl ?_
  rintro _ _ ⟨a14, c14, rfl, rfl⟩
  iterate 4 refine Ws ?_
  refine SN_stop0 rfl ?_
  refine ⟨rfl, (close_writer (p := p) (bs := bs ++ (bei n ++ ds)) ?_).trans .fin⟩
  simp

theorem clone_bytes {W : World} {F : List HProp} [Abs F] (cs : List Value) [Ones cs] (a : Option Addr) (n c : Nat) [HasRow F a cs] (hn : cs.length = n * 1) (hb : n ≤ 1000000000000) :
    CallsK W Tryz.prog 97 #[.slice a n c] (F) (fun v L => ∃ a1 c1, v = .slice a1 n c1 ∧ Lands L (rowP 5 1 a1 n c1 cs :: F)) := by
  refine CallsK_enter (n := 8) Tryz.func97 rfl rfl rfl ?_
  iterate 9 refine Ws ?_
  refine SR_pu (RD_eqlSl Tryz.underlying36 rfl rfl) rfl ?_
  iterate 2 refine Ws ?_
  refine SC_cond rfl (fun hc4 => ?_) (fun hc4 => ?_)
  · obtain rfl : a = none := by simpa using hc4
    refine SC.row_none (cs := cs) fun hcs => ?_
    subst hcs
    obtain rfl : n = 0 := by simp at hn; omega
    iterate 5 refine Ws ?_
    refine SC_ret1 rfl rfl ?_
    exact ⟨_, _, rfl, (row_new 5 1 none).trans .fin⟩
  · iterate 4 refine Ws ?_
    refine SR_ox (OX_buildSlice0 Tryz.runUnderlying36 Tryz.sizeOf5) rfl ?_
    rintro _ _ ⟨b5, rfl, rfl⟩
    refine Ws ?_
    refine SR_ox (OX_app0 1 Tryz.underlying36 Tryz.underlying36 Tryz.type5 rfl rfl rfl rfl rfl (by simpa using hn) 1 rfl (by omega) (by omega)) rfl ?_
    rintro _ _ ⟨a7, c7, rfl, rfl⟩
    iterate 3 refine Ws ?_
    refine SC_ret1 rfl rfl ?_
    exact ⟨_, _, rfl, .fin⟩

theorem wire_Bytes {W : World} {F : List HProp} [Abs F] (p : Nat) (bs : List UInt8) (hb : bs.length ≤ 1000000000000) :
    CallsK W Tryz.prog 135 #[.pointer (some ⟨p, 0, none⟩)] (At writerI p bs :: F) (fun v L => ∃ a c, v = .slice a bs.length c ∧ Lands L (rowP 5 1 a bs.length c (bs.map byteV) :: At writerI p bs :: F)) := by
  refine CallsK_enter (n := 8) Tryz.func135 rfl rfl rfl ?_
  iterate 6 refine Ws ?_
  refine SC.op_writer (p := p) fun a n c hn => ?_
  subst hn
  iterate 5 refine Ws ?_
  refine We (clone_bytes (bs.map byteV) _ _ _ (by simp) hb) ?_
  rintro _ L1 ⟨a7, c7, rfl, hL1⟩
  iterate 3 refine Ws ?_
  refine SC_ret1 rfl rfl ?_
  refine ⟨_, _, rfl, hL1.trans (Lands.cons ?_)⟩
  exact (close_writer (p := p) (bs := bs) rfl).trans .fin

theorem wire_Read {W : World} {F : List HProp} [Abs F] (bs : List UInt8) (a : Option Addr) (n c : Nat) {cs : List Value} [HasRow F a cs] (hcs : cs = bs.map byteV) (hn : bs.length = n) (hb : n ≤ 1000000000000) :
    CallsK W Tryz.prog 246 #[.slice a n c] (F) (fun v L => ∃ p, v = .pointer (some ⟨p, 0, none⟩) ∧ Lands L (At readerI p (bs, false) :: F)) := by
  refine CallsK_enter (n := 7) Tryz.func246 rfl rfl rfl ?_
  subst hcs
  iterate 8 refine Ws ?_
  refine We (clone_bytes (bs.map byteV) _ _ _ (by simpa using hn) hb) ?_
  rintro _ L1 ⟨a4, c4, rfl, hL1⟩
  refine SR.lands hL1 ?_
  refine SR_pu (RD_build (.cons rfl (.nil)) built339_0) rfl ?_
  refine Wb fun b6 => ?_
  iterate 3 refine Ws ?_
  refine SC_ret1 rfl rfl ?_
  refine ⟨_, rfl, ?_⟩
  exact (close_reader (p := b6) (bs := bs) rfl).trans .fin

theorem wire_take_bad {W : World} {F : List HProp} [Abs F] (p : Nat) (bs : List UInt8) (k : Nat) (hx : k < 18446744073709551616) (hb : bs.length ≤ 1000000000000)  :
    CallsK W Tryz.prog 256 #[.pointer (some ⟨p, 0, none⟩), .int .u64 k] (At readerI p (bs, true) :: F) (fun v L => v = .slice none 0 0 ∧ Lands L (At readerI p (bs, true) :: F)) := by
  refine CallsK_enter (n := 40) Tryz.func256 rfl rfl rfl ?_
  iterate 7 refine Ws ?_
  refine SC.op_reader (p := p) fun a n c hn hc => ?_
  have hn : bs.length = n := hn
  iterate 6 refine Ws ?_
  refine SR_no rfl rfl (rfl) (lts rfl) ?_
  refine SR_no rfl rfl (rfl) (lts rfl) ?_
  refine SR_no rfl rfl (rfl) (lts rfl) ?_
  refine SR_no rfl rfl (rfl) (lts rfl) ?_
  refine SR_no rfl rfl (rfl) (lts rfl) ?_
  refine SR_no rfl rfl (rfl) (lts rfl) ?_
  refine SR_no rfl rfl (rfl) (lts rfl) ?_
  refine SR_no rfl rfl (rfl) (lts rfl) ?_
  refine SR_pu (RD_pick_t rfl (rfl) rfl) rfl ?_
  iterate 2 refine Ws ?_
  refine SC_cond_true rfl (rfl) ?_
  iterate 13 refine Ws ?_
  refine SC_ret1 rfl rfl ?_
  refine ⟨rfl, ?_⟩
  exact (close_reader (p := p) (bs := bs) rfl).trans .fin

theorem wire_take_short {W : World} {F : List HProp} [Abs F] (p : Nat) (bs : List UInt8) (k : Nat) (hx : k < 18446744073709551616) (hb : bs.length ≤ 1000000000000) (hs : bs.length < k) :
    CallsK W Tryz.prog 256 #[.pointer (some ⟨p, 0, none⟩), .int .u64 k] (At readerI p (bs, false) :: F) (fun v L => v = .slice none 0 0 ∧ Lands L (At readerI p (bs, true) :: F)) := by
  refine CallsK_enter (n := 40) Tryz.func256 rfl rfl rfl ?_
  iterate 7 refine Ws ?_
  refine SC.op_reader (p := p) fun a n c hn hc => ?_
  have hn : bs.length = n := hn
  iterate 6 refine Ws ?_
  refine SR_yes rfl rfl (rfl) ?_
  refine Ws ?_
  refine SR_yes rfl rfl (rfl) ?_
  refine Ws ?_
  refine SR_yes rfl rfl (rfl) ?_
  refine Ws ?_
  refine SR_yes rfl rfl (rfl) ?_
  refine Ws ?_
  refine SR_yes rfl rfl (rfl) ?_
  refine Ws ?_
  refine SR_yes rfl rfl (rfl) ?_
  refine Ws ?_
  refine SR_yes rfl rfl (rfl) ?_
  first
    | refine SR_pu (RD_conv64 Tryz.runUnderlying3 Tryz.runUnderlying35 rfl (by omega) (by omega)) rfl ?_
    | refine SR_pu (RD_convI Tryz.runUnderlying3 Tryz.runUnderlying35 rfl) rfl ?_
  refine SR_yes rfl rfl (rfl) ?_
  refine Ws ?_
  refine SR_pu (RD_pick_f rfl (rfl) rfl) rfl ?_
  iterate 2 refine Ws ?_
  refine SC_cond_true rfl (by simp; omega) ?_
  iterate 13 refine Ws ?_
  refine SC_ret1 rfl rfl ?_
  refine ⟨rfl, ?_⟩
  exact (close_reader (p := p) (bs := bs) rfl).trans .fin

theorem wire_take_ok {W : World} {F : List HProp} [Abs F] (p : Nat) (bs : List UInt8) (k : Nat) (hx : k < 18446744073709551616) (hb : bs.length ≤ 1000000000000) (hs : k ≤ bs.length) :
    CallsK W Tryz.prog 256 #[.pointer (some ⟨p, 0, none⟩), .int .u64 k] (At readerI p (bs, false) :: F) (fun v L => ∃ a c, v = .slice a k k ∧ bs.length ≤ c ∧ Lands L (pt p (.cells [.slice (sBase a k 1 c) (bs.length - k) (c - k), .bool false].toArray 339) :: rowP 5 1 a bs.length c (bs.map byteV) :: F)) := by
  refine CallsK_enter (n := 40) Tryz.func256 rfl rfl rfl ?_
  iterate 7 refine Ws ?_
  refine SC.op_reader (p := p) fun a n c hn hc => ?_
  have hn : bs.length = n := hn
  iterate 6 refine Ws ?_
  refine SR_yes rfl rfl (rfl) ?_
  refine Ws ?_
  refine SR_yes rfl rfl (rfl) ?_
  refine Ws ?_
  refine SR_yes rfl rfl (rfl) ?_
  refine Ws ?_
  refine SR_yes rfl rfl (rfl) ?_
  refine Ws ?_
  refine SR_yes rfl rfl (rfl) ?_
  refine Ws ?_
  refine SR_yes rfl rfl (rfl) ?_
  refine Ws ?_
  refine SR_yes rfl rfl (rfl) ?_
  first
    | refine SR_pu (RD_conv64 Tryz.runUnderlying3 Tryz.runUnderlying35 rfl (by omega) (by omega)) rfl ?_
    | refine SR_pu (RD_convI Tryz.runUnderlying3 Tryz.runUnderlying35 rfl) rfl ?_
  refine SR_yes rfl rfl (rfl) ?_
  refine Ws ?_
  refine SR_pu (RD_pick_f rfl (rfl) rfl) rfl ?_
  iterate 2 refine Ws ?_
  refine SC_cond_false rfl (by simp; omega) ?_
  iterate 10 refine Ws ?_
  refine SR_pu (RD_cutHMn Tryz.runUnderlying36 Tryz.sizeOf5 rfl rfl rfl (by omega)) rfl ?_
  iterate 11 refine Ws ?_
  refine SR_pu (RD_cutLn Tryz.runUnderlying36 Tryz.sizeOf5 rfl rfl (by omega) (by omega)) rfl ?_
  iterate 11 refine Ws ?_
  refine SC_ret1 rfl rfl ?_
  subst hn
  exact ⟨_, _, rfl, hc, .fin⟩

theorem reader_Num_ok {W : World} {F : List HProp} [Abs F] (p : Nat) (bs : List UInt8) (h8 : 8 ≤ bs.length) (hb : bs.length ≤ 1000000000000) :
    CallsK W Tryz.prog 248 #[.pointer (some ⟨p, 0, none⟩)] (At readerI p (bs, false) :: F) (fun v L => v = .int .u64 (unbe (bs.take 8) : Nat) ∧ Lands L (At readerI p (bs.drop 8, false) :: F)) := by
  refine CallsK_enter (n := 20) Tryz.func248 rfl rfl rfl ?_
  iterate 14 refine Ws ?_
  refine We (CallsK.at (wire_take_ok p bs 8 (by omega) hb h8)) ?_
  rintro _ L1 ⟨a7, c7, rfl, hc, hL1⟩
  refine SR.lands hL1 ?_
  iterate 5 refine Ws ?_
  refine SC_ind (X := Nat) (fun i => i ≤ 8) (fun i => 8 - i) (fun i => [(3, .int .u64 (unbe (bs.take i) : Nat)), (7, .slice a7 8 8), (8, .int .i64 8), (9, .int .i64 i)]) (fun i => pt p (.cells [.slice (sBase a7 8 1 c7) (bs.length - 8) (c7 - 8), .bool false].toArray 339) :: rowP 5 1 a7 bs.length c7 (bs.map byteV) :: F) (0) (by omega) (.cons rfl (.cons rfl (.cons rfl (.cons rfl (.nil))))) (.fin) ?_
  intro i hi ih
  iterate 6 refine Ws ?_
  refine SC_cond rfl (fun hc10 => ?_) (fun hc10 => ?_)
  · have hi8 : i < 8 := by simp at hc10; omega
    have hib : i < bs.length := by omega
    have hby := (bs[i]).toNat_lt
    have hlt := unbe_lt i (bs.take i) (by simp; omega)
    have hlt2 : unbe (bs.take i) < 72057594037927936 := Nat.lt_of_lt_of_le hlt (by have := Nat.pow_le_pow_right (show 0 < 256 by decide) (show i ≤ 7 by omega); simpa using this)
    iterate 6 refine Ws ?_
    refine SR_rd (RD_ix8 (cs := bs.map byteV) Tryz.runUnderlying36 Tryz.sizeOf5 rfl rfl (by simp; omega) (by omega) (by omega)) Has.ro rfl ?_
    refine SR_rd (RD_loadO (v := byteV bs[i]) Tryz.isAgg5 rfl (by simp [hib])) Has.ro rfl ?_
    iterate 5 refine Ws ?_
    refine SR_pu (RD_shl rfl rfl (by omega)) rfl ?_
    refine Ws ?_
    first
      | refine SR_pu (RD_conv64 Tryz.runUnderlying5 Tryz.runUnderlying35 rfl (by omega) (by omega)) rfl ?_
      | refine SR_pu (RD_convI Tryz.runUnderlying5 Tryz.runUnderlying35 rfl) rfl ?_
    refine SR_pu (RD_or rfl rfl) rfl ?_
    iterate 8 refine Ws ?_
    refine SC_again (ih (i + 1) (by omega) (by omega)) (.fin) (.cons' rfl (ie ?_) (.cons rfl (.cons rfl (.cons' rfl (ie (by omega)) (.nil)))))
    rw [List.take_add_one, List.getElem?_eq_getElem hib]; exact (or_byte _ _ hlt2).trans (by rw [← unbe_snoc]; rfl)
  · obtain rfl : i = 8 := by simp at hc10; omega
    iterate 8 refine Ws ?_
    refine SC_ret1 rfl rfl ?_
    refine ⟨rfl, ?_⟩
    refine Lands.trans (Lands.cons (row_cut 8 h8)) ?_
    exact (close_reader (p := p) (bs := bs.drop 8) (by simp)).trans .fin

theorem reader_Num_bad {W : World} {F : List HProp} [Abs F] (p : Nat) (bs : List UInt8) (hb : bs.length ≤ 1000000000000) :
    CallsK W Tryz.prog 248 #[.pointer (some ⟨p, 0, none⟩)] (At readerI p (bs, true) :: F) (fun v L => v = .int .u64 0 ∧ Lands L (At readerI p (bs, true) :: F)) := by
  refine CallsK_enter (n := 20) Tryz.func248 rfl rfl rfl ?_
  iterate 14 refine Ws ?_
  refine Wc (CallsK.at (wire_take_bad p bs 8 (by omega) hb)) ?_
  iterate 5 refine Ws ?_
  refine SC_loop ?_
  iterate 6 refine Ws ?_
  refine SC_cond_false rfl (rfl) ?_
  iterate 8 refine Ws ?_
  refine SC_ret1 rfl rfl ?_
  exact ⟨rfl, .fin⟩

theorem reader_Num_short {W : World} {F : List HProp} [Abs F] (p : Nat) (bs : List UInt8) (h8 : bs.length < 8) (hb : bs.length ≤ 1000000000000) :
    CallsK W Tryz.prog 248 #[.pointer (some ⟨p, 0, none⟩)] (At readerI p (bs, false) :: F) (fun v L => v = .int .u64 0 ∧ Lands L (At readerI p (bs, true) :: F)) := by
  refine CallsK_enter (n := 20) Tryz.func248 rfl rfl rfl ?_
  iterate 14 refine Ws ?_
  refine Wc (CallsK.at (wire_take_short p bs 8 (by omega) hb h8)) ?_
  iterate 5 refine Ws ?_
  refine SC_loop ?_
  iterate 6 refine Ws ?_
  refine SC_cond_false rfl (rfl) ?_
  iterate 8 refine Ws ?_
  refine SC_ret1 rfl rfl ?_
  exact ⟨rfl, .fin⟩

/-- What a reader answers when asked for a number, and what is left. -/
def rdNum (s : List UInt8 × Bool) : Nat × (List UInt8 × Bool) := if s.2 = true ∨ s.1.length < 8 then (0, (s.1, true)) else (unbe (s.1.take 8), (s.1.drop 8, false))
theorem reader_Num {W : World} {F : List HProp} [Abs F] (p : Nat) (s : List UInt8 × Bool) (hb : s.1.length ≤ 1000000000000) :
    CallsK W Tryz.prog 248 #[.pointer (some ⟨p, 0, none⟩)] (At readerI p s :: F) (fun v L => v = .int .u64 ((rdNum s).1 : Nat) ∧ Lands L (At readerI p (rdNum s).2 :: F)) := by
  obtain ⟨bs, b⟩ := s
  cases b with
  | true => exact (reader_Num_bad p bs hb).imp fun v L h => by simpa [rdNum] using h
  | false =>
    by_cases h8 : bs.length < 8
    · exact (reader_Num_short p bs h8 hb).imp fun v L h => by simpa [rdNum, h8] using h
    · exact (reader_Num_ok p bs (by omega) hb).imp fun v L h => by simpa [rdNum, h8] using h
theorem rdNum_lt (s : List UInt8 × Bool) : (rdNum s).1 < 18446744073709551616 := by
  unfold rdNum; split
  · show 0 < _; omega
  · rename_i h
    have := unbe_lt 8 (s.1.take 8) (by simp; omega)
    simpa using this
theorem rdNum_len (s : List UInt8 × Bool) : (rdNum s).2.1.length ≤ s.1.length := by unfold rdNum; split <;> simp

theorem reader_Int {W : World} {F : List HProp} [Abs F] (p : Nat) (s : List UInt8 × Bool) (hb : s.1.length ≤ 1000000000000) :
    CallsK W Tryz.prog 247 #[.pointer (some ⟨p, 0, none⟩)] (At readerI p s :: F) (fun v L => v = .int .i64 (IntKind.i64.wrap (rdNum s).1) ∧ Lands L (At readerI p (rdNum s).2 :: F)) := by
  refine CallsK_enter (n := 6) Tryz.func247 rfl rfl rfl ?_
  iterate 8 refine Ws ?_
  refine We (CallsK.at (reader_Num p s hb)) ?_
  rintro _ L1 ⟨rfl, hL1⟩
  iterate 4 refine Ws ?_
  refine SC_ret1 rfl rfl ?_
  exact ⟨rfl, hL1⟩

end Go.Proofs.YtdhpjdhloaoepaaGreat
