/- Rules,facts and contracts that the statement's proof leans on. Conditions: none. -/
import Derived.KernelRfl
import Derived.Test.YtopgldaekcmekaaGreatDoorProg
import Derived.Test.YtopgldaekcmekaaGreatDoorP7
set_option linter.unusedVariables false
set_option linter.unusedSimpArgs false
set_option linter.unusedSectionVars false
set_option maxRecDepth 100000
namespace Cp
open Go Go.Proofs
def ti1 : TI := ⟨.func,1,8,.nilf,false⟩
def ti2 : TI := ⟨.int .i64,1,8,.int .i64 0,false⟩
def ti3 : TI := ⟨.int .i64,1,8,.int .i64 0,false⟩
def ti4 : TI := ⟨.bool,1,1,.bool false,false⟩
def ti5 : TI := ⟨.int .u8,1,1,.int .u8 0,false⟩
def ti6 : TI := ⟨.int .u8,1,1,.int .u8 0,false⟩
def ti7 : TI := ⟨.struct [(0,2),(1,3),(2,4),(3,6)],4,24,.agg [.int .i64 0,.int .i64 0,.bool false,.int .u8 0],false⟩
def ti8 : TI := ⟨.struct [(0,2),(1,3),(2,4),(3,6)],4,24,.agg [.int .i64 0,.int .i64 0,.bool false,.int .u8 0],false⟩
def ti9 : TI := ⟨.str,1,16,.str ByteArray.empty,false⟩
def ti10 : TI := ⟨.str,1,16,.str ByteArray.empty,false⟩
def ti11 : TI := ⟨.str,1,16,.str ByteArray.empty,false⟩
def ti12 : TI := ⟨.int .u64,1,8,.int .u64 0,false⟩
def ti13 : TI := ⟨.struct [(0,9),(1,12)],2,24,.agg [.str ByteArray.empty,.int .u64 0],false⟩
def ti14 : TI := ⟨.struct [(0,9),(1,12)],2,24,.agg [.str ByteArray.empty,.int .u64 0],false⟩
def ti15 : TI := ⟨.ptr,1,8,.nilp,false⟩
def ti16 : TI := ⟨.ptr,1,8,.nilp,false⟩
def ti17 : TI := ⟨.ptr,1,8,.nilp,false⟩
def ti18 : TI := ⟨.struct [(0,17)],1,8,.agg [.nilp],false⟩
def ti19 : TI := ⟨.struct [(0,17)],1,8,.agg [.nilp],false⟩
def ti20 : TI := ⟨.iface,1,16,.nili,false⟩
def ti21 : TI := ⟨.int .i32,1,4,.int .i32 0,false⟩
def ti22 : TI := ⟨.slice 139,1,24,.nils,false⟩
def ti23 : TI := ⟨.slice 136,1,24,.nils,false⟩
def ti24 : TI := ⟨.slice 126,1,24,.nils,false⟩
def ti25 : TI := ⟨.struct [(0,3),(1,3)],2,16,.agg [.int .i64 0,.int .i64 0],true⟩
def ti26 : TI := ⟨.struct [(0,3),(1,3)],2,16,.agg [.int .i64 0,.int .i64 0],true⟩
def ti27 : TI := ⟨.struct [(0,3),(1,22),(2,23),(3,24),(4,26)],6,96,.agg [.int .i64 0,.nils,.nils,.nils,.int .i64 0,.int .i64 0],false⟩
def ti28 : TI := ⟨.struct [(0,3),(1,22),(2,23),(3,24),(4,26)],6,96,.agg [.int .i64 0,.nils,.nils,.nils,.int .i64 0,.int .i64 0],false⟩
def ti29 : TI := ⟨.slice 66,1,24,.nils,false⟩
def ti30 : TI := ⟨.struct [(0,29),(1,3),(2,3),(3,26),(5,3)],6,64,.agg [.nils,.int .i64 0,.int .i64 0,.int .i64 0,.int .i64 0,.int .i64 0],false⟩
def ti31 : TI := ⟨.struct [(0,29),(1,3),(2,3),(3,26),(5,3)],6,64,.agg [.nils,.int .i64 0,.int .i64 0,.int .i64 0,.int .i64 0,.int .i64 0],false⟩
def ti32 : TI := ⟨.array 6 3,6,48,.agg [.int .i64 0,.int .i64 0,.int .i64 0,.int .i64 0,.int .i64 0,.int .i64 0],true⟩
def ti33 : TI := ⟨.slice 70,1,24,.nils,false⟩
def ti34 : TI := ⟨.struct [(0,3),(1,28),(7,31),(13,26),(15,3),(16,32),(22,33)],23,264,.agg [.int .i64 0,.int .i64 0,.nils,.nils,.nils,.int .i64 0,.int .i64 0,.nils,.int .i64 0,.int .i64 0,.int .i64 0,.int .i64 0,.int .i64 0,.int .i64 0,.int .i64 0,.int .i64 0,.int .i64 0,.int .i64 0,.int .i64 0,.int .i64 0,.int .i64 0,.int .i64 0,.nils],false⟩
def ti35 : TI := ⟨.struct [(0,3),(1,28),(7,31),(13,26),(15,3),(16,32),(22,33)],23,264,.agg [.int .i64 0,.int .i64 0,.nils,.nils,.nils,.int .i64 0,.int .i64 0,.nils,.int .i64 0,.int .i64 0,.int .i64 0,.int .i64 0,.int .i64 0,.int .i64 0,.int .i64 0,.int .i64 0,.int .i64 0,.int .i64 0,.int .i64 0,.int .i64 0,.int .i64 0,.int .i64 0,.nils],false⟩
def ti36 : TI := ⟨.func,1,8,.nilf,false⟩
def ti37 : TI := ⟨.func,1,8,.nilf,false⟩
def ti38 : TI := ⟨.int .i64,1,8,.int .i64 0,false⟩
def ti40 : TI := ⟨.func,1,8,.nilf,false⟩
def ti42 : TI := ⟨.func,1,8,.nilf,false⟩
def ti43 : TI := ⟨.slice 5,1,24,.nils,false⟩
def ti45 : TI := ⟨.func,1,8,.nilf,false⟩
def ti47 : TI := ⟨.func,1,8,.nilf,false⟩
def ti48 : TI := ⟨.func,1,8,.nilf,false⟩
def ti49 : TI := ⟨.func,1,8,.nilf,false⟩
def ti50 : TI := ⟨.func,1,8,.nilf,false⟩
def ti51 : TI := ⟨.func,1,8,.nilf,false⟩
def ti52 : TI := ⟨.struct [(0,5),(1,26)],3,24,.agg [.int .u8 0,.int .i64 0,.int .i64 0],true⟩
def ti53 : TI := ⟨.struct [(0,5),(1,26)],3,24,.agg [.int .u8 0,.int .i64 0,.int .i64 0],true⟩
def ti55 : TI := ⟨.func,1,8,.nilf,false⟩
def ti57 : TI := ⟨.func,1,8,.nilf,false⟩
def ti58 : TI := ⟨.func,1,8,.nilf,false⟩
def ti60 : TI := ⟨.func,1,8,.nilf,false⟩
def ti61 : TI := ⟨.func,1,8,.nilf,false⟩
def ti62 : TI := ⟨.func,1,8,.nilf,false⟩
def ti63 : TI := ⟨.slice 122,1,24,.nils,false⟩
def ti64 : TI := ⟨.ptr,1,8,.nilp,false⟩
def ti65 : TI := ⟨.struct [(0,3),(1,3)],2,16,.agg [.int .i64 0,.int .i64 0],true⟩
def ti66 : TI := ⟨.struct [(0,3),(1,3)],2,16,.agg [.int .i64 0,.int .i64 0],true⟩
def ti67 : TI := ⟨.func,1,8,.nilf,false⟩
def ti68 : TI := ⟨.func,1,8,.nilf,false⟩
def ti69 : TI := ⟨.struct [(0,3),(1,5),(2,3),(3,26)],5,40,.agg [.int .i64 0,.int .u8 0,.int .i64 0,.int .i64 0,.int .i64 0],true⟩
def ti70 : TI := ⟨.struct [(0,3),(1,5),(2,3),(3,26)],5,40,.agg [.int .i64 0,.int .u8 0,.int .i64 0,.int .i64 0,.int .i64 0],true⟩
def ti71 : TI := ⟨.func,1,8,.nilf,false⟩
def ti72 : TI := ⟨.func,1,8,.nilf,false⟩
def ti73 : TI := ⟨.ptr,1,8,.nilp,false⟩
def ti74 : TI := ⟨.func,1,8,.nilf,false⟩
def ti75 : TI := ⟨.slice 3,1,24,.nils,false⟩
def ti76 : TI := ⟨.func,1,8,.nilf,false⟩
def ti77 : TI := ⟨.map 5 4,1,8,.nilm,false⟩
def ti79 : TI := ⟨.func,1,8,.nilf,false⟩
def ti80 : TI := ⟨.func,1,8,.nilf,false⟩
def ti81 : TI := ⟨.func,1,8,.nilf,false⟩
def ti82 : TI := ⟨.func,1,8,.nilf,false⟩
def ti83 : TI := ⟨.ptr,1,8,.nilp,false⟩
def ti85 : TI := ⟨.func,1,8,.nilf,false⟩
def ti86 : TI := ⟨.iface,1,16,.nili,false⟩
def ti87 : TI := ⟨.iface,1,16,.nili,false⟩
def ti88 : TI := ⟨.func,1,8,.nilf,false⟩
def ti89 : TI := ⟨.func,1,8,.nilf,false⟩
def ti91 : TI := ⟨.func,1,8,.nilf,false⟩
def ti92 : TI := ⟨.map 131 3,1,8,.nilm,false⟩
def ti93 : TI := ⟨.struct [(0,35),(23,92)],24,272,.agg [.int .i64 0,.int .i64 0,.nils,.nils,.nils,.int .i64 0,.int .i64 0,.nils,.int .i64 0,.int .i64 0,.int .i64 0,.int .i64 0,.int .i64 0,.int .i64 0,.int .i64 0,.int .i64 0,.int .i64 0,.int .i64 0,.int .i64 0,.int .i64 0,.int .i64 0,.int .i64 0,.nils,.nilm],false⟩
def ti94 : TI := ⟨.struct [(0,35),(23,92)],24,272,.agg [.int .i64 0,.int .i64 0,.nils,.nils,.nils,.int .i64 0,.int .i64 0,.nils,.int .i64 0,.int .i64 0,.int .i64 0,.int .i64 0,.int .i64 0,.int .i64 0,.int .i64 0,.int .i64 0,.int .i64 0,.int .i64 0,.int .i64 0,.int .i64 0,.int .i64 0,.int .i64 0,.nils,.nilm],false⟩
def ti95 : TI := ⟨.func,1,8,.nilf,false⟩
def ti96 : TI := ⟨.func,1,8,.nilf,false⟩
def ti97 : TI := ⟨.func,1,8,.nilf,false⟩
def ti98 : TI := ⟨.func,1,8,.nilf,false⟩
def ti99 : TI := ⟨.func,1,8,.nilf,false⟩
def ti101 : TI := ⟨.func,1,8,.nilf,false⟩
def ti102 : TI := ⟨.func,1,8,.nilf,false⟩
def ti103 : TI := ⟨.struct [(0,26),(2,4)],3,24,.agg [.int .i64 0,.int .i64 0,.bool false],true⟩
def ti104 : TI := ⟨.struct [(0,26),(2,4)],3,24,.agg [.int .i64 0,.int .i64 0,.bool false],true⟩
def ti106 : TI := ⟨.func,1,8,.nilf,false⟩
def ti108 : TI := ⟨.func,1,8,.nilf,false⟩
def ti109 : TI := ⟨.func,1,8,.nilf,false⟩
def ti110 : TI := ⟨.func,1,8,.nilf,false⟩
def ti111 : TI := ⟨.func,1,8,.nilf,false⟩
def ti112 : TI := ⟨.func,1,8,.nilf,false⟩
def ti113 : TI := ⟨.func,1,8,.nilf,false⟩
def ti114 : TI := ⟨.func,1,8,.nilf,false⟩
def ti115 : TI := ⟨.func,1,8,.nilf,false⟩
def ti116 : TI := ⟨.slice 120,1,24,.nils,false⟩
def ti117 : TI := ⟨.func,1,8,.nilf,false⟩
def ti118 : TI := ⟨.func,1,8,.nilf,false⟩
def ti119 : TI := ⟨.struct [(0,3),(1,5),(2,3),(3,5)],4,32,.agg [.int .i64 0,.int .u8 0,.int .i64 0,.int .u8 0],true⟩
def ti120 : TI := ⟨.struct [(0,3),(1,5),(2,3),(3,5)],4,32,.agg [.int .i64 0,.int .u8 0,.int .i64 0,.int .u8 0],true⟩
def ti121 : TI := ⟨.func,1,8,.nilf,false⟩
def ti122 : TI := ⟨.int .u32,1,4,.int .u32 0,false⟩
def ti123 : TI := ⟨.func,1,8,.nilf,false⟩
def ti124 : TI := ⟨.func,1,8,.nilf,false⟩
def ti125 : TI := ⟨.struct [(0,75),(1,3)],2,32,.agg [.nils,.int .i64 0],false⟩
def ti126 : TI := ⟨.struct [(0,75),(1,3)],2,32,.agg [.nils,.int .i64 0],false⟩
def ti127 : TI := ⟨.slice 87,1,24,.nils,false⟩
def ti128 : TI := ⟨.func,1,8,.nilf,false⟩
def ti129 : TI := ⟨.func,1,8,.nilf,false⟩
def ti130 : TI := ⟨.struct [(0,5),(1,3)],2,16,.agg [.int .u8 0,.int .i64 0],true⟩
def ti131 : TI := ⟨.struct [(0,5),(1,3)],2,16,.agg [.int .u8 0,.int .i64 0],true⟩
def ti132 : TI := ⟨.struct [],0,0,.agg [],true⟩
def ti133 : TI := ⟨.struct [],0,0,.agg [],true⟩
def ti134 : TI := ⟨.func,1,8,.nilf,false⟩
def ti135 : TI := ⟨.struct [(0,3),(1,26),(3,26),(5,3)],6,48,.agg [.int .i64 0,.int .i64 0,.int .i64 0,.int .i64 0,.int .i64 0,.int .i64 0],true⟩
def ti136 : TI := ⟨.struct [(0,3),(1,26),(3,26),(5,3)],6,48,.agg [.int .i64 0,.int .i64 0,.int .i64 0,.int .i64 0,.int .i64 0,.int .i64 0],true⟩
def ti137 : TI := ⟨.func,1,8,.nilf,false⟩
def ti138 : TI := ⟨.struct [(0,3),(1,3)],2,16,.agg [.int .i64 0,.int .i64 0],true⟩
def ti139 : TI := ⟨.struct [(0,3),(1,3)],2,16,.agg [.int .i64 0,.int .i64 0],true⟩
def ti140 : TI := ⟨.func,1,8,.nilf,false⟩
def ti141 : TI := ⟨.func,1,8,.nilf,false⟩
def ti142 : TI := ⟨.func,1,8,.nilf,false⟩
def ti143 : TI := ⟨.func,1,8,.nilf,false⟩
def ti144 : TI := ⟨.ptr,1,8,.nilp,false⟩
def ti145 : TI := ⟨.func,1,8,.nilf,false⟩
def ti146 : TI := ⟨.func,1,8,.nilf,false⟩
def ti147 : TI := ⟨.func,1,8,.nilf,false⟩
def ti148 : TI := ⟨.func,1,8,.nilf,false⟩
def ti149 : TI := ⟨.struct [(0,3),(1,3),(2,26)],4,32,.agg [.int .i64 0,.int .i64 0,.int .i64 0,.int .i64 0],true⟩
def ti150 : TI := ⟨.struct [(0,3),(1,3),(2,26)],4,32,.agg [.int .i64 0,.int .i64 0,.int .i64 0,.int .i64 0],true⟩
def ti151 : TI := ⟨.slice 155,1,24,.nils,false⟩
def ti152 : TI := ⟨.func,1,8,.nilf,false⟩
def ti153 : TI := ⟨.func,1,8,.nilf,false⟩
def ti154 : TI := ⟨.struct [(0,5),(1,153)],2,16,.agg [.int .u8 0,.nilf],false⟩
def ti155 : TI := ⟨.struct [(0,5),(1,153)],2,16,.agg [.int .u8 0,.nilf],false⟩
def ti156 : TI := ⟨.map 3 5,1,8,.nilm,false⟩
def ti157 : TI := ⟨.func,1,8,.nilf,false⟩
def ti158 : TI := ⟨.func,1,8,.nilf,false⟩
def ti159 : TI := ⟨.func,1,8,.nilf,false⟩
def ti160 : TI := ⟨.func,1,8,.nilf,false⟩
def ti161 : TI := ⟨.func,1,8,.nilf,false⟩
def ti162 : TI := ⟨.func,1,8,.nilf,false⟩
def ti163 : TI := ⟨.func,1,8,.nilf,false⟩
def ti164 : TI := ⟨.func,1,8,.nilf,false⟩
def ti165 : TI := ⟨.struct [(0,164)],1,8,.agg [.nilf],false⟩
def ti166 : TI := ⟨.array 2 165,2,16,.agg [.nilf,.nilf],false⟩
def ti167 : TI := ⟨.slice 104,1,24,.nils,false⟩
def ti168 : TI := ⟨.func,1,8,.nilf,false⟩
def ti169 : TI := ⟨.func,1,8,.nilf,false⟩
def ti170 : TI := ⟨.func,1,8,.nilf,false⟩
def ti171 : TI := ⟨.func,1,8,.nilf,false⟩
def ti172 : TI := ⟨.func,1,8,.nilf,false⟩
def ti173 : TI := ⟨.func,1,8,.nilf,false⟩
def ti174 : TI := ⟨.func,1,8,.nilf,false⟩
def ti175 : TI := ⟨.func,1,8,.nilf,false⟩
def ti176 : TI := ⟨.array 61 26,122,976,.agg [.int .i64 0,.int .i64 0,.int .i64 0,.int .i64 0,.int .i64 0,.int .i64 0,.int .i64 0,.int .i64 0,.int .i64 0,.int .i64 0,.int .i64 0,.int .i64 0,.int .i64 0,.int .i64 0,.int .i64 0,.int .i64 0,.int .i64 0,.int .i64 0,.int .i64 0,.int .i64 0,.int .i64 0,.int .i64 0,.int .i64 0,.int .i64 0,.int .i64 0,.int .i64 0,.int .i64 0,.int .i64 0,.int .i64 0,.int .i64 0,.int .i64 0,.int .i64 0,.int .i64 0,.int .i64 0,.int .i64 0,.int .i64 0,.int .i64 0,.int .i64 0,.int .i64 0,.int .i64 0,.int .i64 0,.int .i64 0,.int .i64 0,.int .i64 0,.int .i64 0,.int .i64 0,.int .i64 0,.int .i64 0,.int .i64 0,.int .i64 0,.int .i64 0,.int .i64 0,.int .i64 0,.int .i64 0,.int .i64 0,.int .i64 0,.int .i64 0,.int .i64 0,.int .i64 0,.int .i64 0,.int .i64 0,.int .i64 0,.int .i64 0,.int .i64 0,.int .i64 0,.int .i64 0,.int .i64 0,.int .i64 0,.int .i64 0,.int .i64 0,.int .i64 0,.int .i64 0,.int .i64 0,.int .i64 0,.int .i64 0,.int .i64 0,.int .i64 0,.int .i64 0,.int .i64 0,.int .i64 0,.int .i64 0,.int .i64 0,.int .i64 0,.int .i64 0,.int .i64 0,.int .i64 0,.int .i64 0,.int .i64 0,.int .i64 0,.int .i64 0,.int .i64 0,.int .i64 0,.int .i64 0,.int .i64 0,.int .i64 0,.int .i64 0,.int .i64 0,.int .i64 0,.int .i64 0,.int .i64 0,.int .i64 0,.int .i64 0,.int .i64 0,.int .i64 0,.int .i64 0,.int .i64 0,.int .i64 0,.int .i64 0,.int .i64 0,.int .i64 0,.int .i64 0,.int .i64 0,.int .i64 0,.int .i64 0,.int .i64 0,.int .i64 0,.int .i64 0,.int .i64 0,.int .i64 0,.int .i64 0,.int .i64 0,.int .i64 0],true⟩
def ti177 : TI := ⟨.array 61 4,61,61,.agg [.bool false,.bool false,.bool false,.bool false,.bool false,.bool false,.bool false,.bool false,.bool false,.bool false,.bool false,.bool false,.bool false,.bool false,.bool false,.bool false,.bool false,.bool false,.bool false,.bool false,.bool false,.bool false,.bool false,.bool false,.bool false,.bool false,.bool false,.bool false,.bool false,.bool false,.bool false,.bool false,.bool false,.bool false,.bool false,.bool false,.bool false,.bool false,.bool false,.bool false,.bool false,.bool false,.bool false,.bool false,.bool false,.bool false,.bool false,.bool false,.bool false,.bool false,.bool false,.bool false,.bool false,.bool false,.bool false,.bool false,.bool false,.bool false,.bool false,.bool false,.bool false],true⟩
def ti178 : TI := ⟨.struct [(0,28),(6,176),(128,177)],189,1136,.agg [.int .i64 0,.nils,.nils,.nils,.int .i64 0,.int .i64 0,.int .i64 0,.int .i64 0,.int .i64 0,.int .i64 0,.int .i64 0,.int .i64 0,.int .i64 0,.int .i64 0,.int .i64 0,.int .i64 0,.int .i64 0,.int .i64 0,.int .i64 0,.int .i64 0,.int .i64 0,.int .i64 0,.int .i64 0,.int .i64 0,.int .i64 0,.int .i64 0,.int .i64 0,.int .i64 0,.int .i64 0,.int .i64 0,.int .i64 0,.int .i64 0,.int .i64 0,.int .i64 0,.int .i64 0,.int .i64 0,.int .i64 0,.int .i64 0,.int .i64 0,.int .i64 0,.int .i64 0,.int .i64 0,.int .i64 0,.int .i64 0,.int .i64 0,.int .i64 0,.int .i64 0,.int .i64 0,.int .i64 0,.int .i64 0,.int .i64 0,.int .i64 0,.int .i64 0,.int .i64 0,.int .i64 0,.int .i64 0,.int .i64 0,.int .i64 0,.int .i64 0,.int .i64 0,.int .i64 0,.int .i64 0,.int .i64 0,.int .i64 0,.int .i64 0,.int .i64 0,.int .i64 0,.int .i64 0,.int .i64 0,.int .i64 0,.int .i64 0,.int .i64 0,.int .i64 0,.int .i64 0,.int .i64 0,.int .i64 0,.int .i64 0,.int .i64 0,.int .i64 0,.int .i64 0,.int .i64 0,.int .i64 0,.int .i64 0,.int .i64 0,.int .i64 0,.int .i64 0,.int .i64 0,.int .i64 0,.int .i64 0,.int .i64 0,.int .i64 0,.int .i64 0,.int .i64 0,.int .i64 0,.int .i64 0,.int .i64 0,.int .i64 0,.int .i64 0,.int .i64 0,.int .i64 0,.int .i64 0,.int .i64 0,.int .i64 0,.int .i64 0,.int .i64 0,.int .i64 0,.int .i64 0,.int .i64 0,.int .i64 0,.int .i64 0,.int .i64 0,.int .i64 0,.int .i64 0,.int .i64 0,.int .i64 0,.int .i64 0,.int .i64 0,.int .i64 0,.int .i64 0,.int .i64 0,.int .i64 0,.int .i64 0,.int .i64 0,.int .i64 0,.int .i64 0,.int .i64 0,.int .i64 0,.int .i64 0,.bool false,.bool false,.bool false,.bool false,.bool false,.bool false,.bool false,.bool false,.bool false,.bool false,.bool false,.bool false,.bool false,.bool false,.bool false,.bool false,.bool false,.bool false,.bool false,.bool false,.bool false,.bool false,.bool false,.bool false,.bool false,.bool false,.bool false,.bool false,.bool false,.bool false,.bool false,.bool false,.bool false,.bool false,.bool false,.bool false,.bool false,.bool false,.bool false,.bool false,.bool false,.bool false,.bool false,.bool false,.bool false,.bool false,.bool false,.bool false,.bool false,.bool false,.bool false,.bool false,.bool false,.bool false,.bool false,.bool false,.bool false,.bool false,.bool false,.bool false,.bool false],false⟩
def ti179 : TI := ⟨.struct [(0,28),(6,176),(128,177)],189,1136,.agg [.int .i64 0,.nils,.nils,.nils,.int .i64 0,.int .i64 0,.int .i64 0,.int .i64 0,.int .i64 0,.int .i64 0,.int .i64 0,.int .i64 0,.int .i64 0,.int .i64 0,.int .i64 0,.int .i64 0,.int .i64 0,.int .i64 0,.int .i64 0,.int .i64 0,.int .i64 0,.int .i64 0,.int .i64 0,.int .i64 0,.int .i64 0,.int .i64 0,.int .i64 0,.int .i64 0,.int .i64 0,.int .i64 0,.int .i64 0,.int .i64 0,.int .i64 0,.int .i64 0,.int .i64 0,.int .i64 0,.int .i64 0,.int .i64 0,.int .i64 0,.int .i64 0,.int .i64 0,.int .i64 0,.int .i64 0,.int .i64 0,.int .i64 0,.int .i64 0,.int .i64 0,.int .i64 0,.int .i64 0,.int .i64 0,.int .i64 0,.int .i64 0,.int .i64 0,.int .i64 0,.int .i64 0,.int .i64 0,.int .i64 0,.int .i64 0,.int .i64 0,.int .i64 0,.int .i64 0,.int .i64 0,.int .i64 0,.int .i64 0,.int .i64 0,.int .i64 0,.int .i64 0,.int .i64 0,.int .i64 0,.int .i64 0,.int .i64 0,.int .i64 0,.int .i64 0,.int .i64 0,.int .i64 0,.int .i64 0,.int .i64 0,.int .i64 0,.int .i64 0,.int .i64 0,.int .i64 0,.int .i64 0,.int .i64 0,.int .i64 0,.int .i64 0,.int .i64 0,.int .i64 0,.int .i64 0,.int .i64 0,.int .i64 0,.int .i64 0,.int .i64 0,.int .i64 0,.int .i64 0,.int .i64 0,.int .i64 0,.int .i64 0,.int .i64 0,.int .i64 0,.int .i64 0,.int .i64 0,.int .i64 0,.int .i64 0,.int .i64 0,.int .i64 0,.int .i64 0,.int .i64 0,.int .i64 0,.int .i64 0,.int .i64 0,.int .i64 0,.int .i64 0,.int .i64 0,.int .i64 0,.int .i64 0,.int .i64 0,.int .i64 0,.int .i64 0,.int .i64 0,.int .i64 0,.int .i64 0,.int .i64 0,.int .i64 0,.int .i64 0,.int .i64 0,.int .i64 0,.int .i64 0,.int .i64 0,.bool false,.bool false,.bool false,.bool false,.bool false,.bool false,.bool false,.bool false,.bool false,.bool false,.bool false,.bool false,.bool false,.bool false,.bool false,.bool false,.bool false,.bool false,.bool false,.bool false,.bool false,.bool false,.bool false,.bool false,.bool false,.bool false,.bool false,.bool false,.bool false,.bool false,.bool false,.bool false,.bool false,.bool false,.bool false,.bool false,.bool false,.bool false,.bool false,.bool false,.bool false,.bool false,.bool false,.bool false,.bool false,.bool false,.bool false,.bool false,.bool false,.bool false,.bool false,.bool false,.bool false,.bool false,.bool false,.bool false,.bool false,.bool false,.bool false,.bool false,.bool false],false⟩
def ti180 : TI := ⟨.map 3 4,1,8,.nilm,false⟩
def ti181 : TI := ⟨.func,1,8,.nilf,false⟩
def ti182 : TI := ⟨.func,1,8,.nilf,false⟩
def ti183 : TI := ⟨.func,1,8,.nilf,false⟩
def ti184 : TI := ⟨.func,1,8,.nilf,false⟩
def ti185 : TI := ⟨.func,1,8,.nilf,false⟩
def ti186 : TI := ⟨.func,1,8,.nilf,false⟩
def ti187 : TI := ⟨.func,1,8,.nilf,false⟩
def ti188 : TI := ⟨.func,1,8,.nilf,false⟩
def ti189 : TI := ⟨.func,1,8,.nilf,false⟩
def ti190 : TI := ⟨.int .u64,1,8,.int .u64 0,false⟩
def ti191 : TI := ⟨.slice 159,1,24,.nils,false⟩
def ti192 : TI := ⟨.func,1,8,.nilf,false⟩
def ti193 : TI := ⟨.func,1,8,.nilf,false⟩
def ti194 : TI := ⟨.func,1,8,.nilf,false⟩
def ti195 : TI := ⟨.slice 26,1,24,.nils,false⟩
def ti196 : TI := ⟨.func,1,8,.nilf,false⟩
def ti197 : TI := ⟨.func,1,8,.nilf,false⟩
def ti198 : TI := ⟨.func,1,8,.nilf,false⟩
def ti199 : TI := ⟨.func,1,8,.nilf,false⟩
def ti200 : TI := ⟨.int .i64,1,8,.int .i64 0,false⟩
def ti202 : TI := ⟨.func,1,8,.nilf,false⟩
def ti203 : TI := ⟨.func,1,8,.nilf,false⟩
def ti204 : TI := ⟨.func,1,8,.nilf,false⟩
def ti205 : TI := ⟨.func,1,8,.nilf,false⟩
def ti206 : TI := ⟨.func,1,8,.nilf,false⟩
def ti207 : TI := ⟨.func,1,8,.nilf,false⟩
def ti208 : TI := ⟨.int .u64,1,8,.int .u64 0,false⟩
def ti209 : TI := ⟨.int .u64,1,8,.int .u64 0,false⟩
def ti210 : TI := ⟨.func,1,8,.nilf,false⟩
def ti211 : TI := ⟨.func,1,8,.nilf,false⟩
def ti212 : TI := ⟨.func,1,8,.nilf,false⟩
def ti213 : TI := ⟨.ptr,1,8,.nilp,false⟩
def ti214 : TI := ⟨.func,1,8,.nilf,false⟩
def ti215 : TI := ⟨.ptr,1,8,.nilp,false⟩
def ti217 : TI := ⟨.func,1,8,.nilf,false⟩
def ti218 : TI := ⟨.func,1,8,.nilf,false⟩
def ti219 : TI := ⟨.struct [(0,17),(1,17),(2,17),(3,9)],4,40,.agg [.nilp,.nilp,.nilp,.str ByteArray.empty],false⟩
def ti220 : TI := ⟨.struct [(0,17),(1,17),(2,17),(3,9)],4,40,.agg [.nilp,.nilp,.nilp,.str ByteArray.empty],false⟩
def ti221 : TI := ⟨.array 0 16,0,0,.agg [],false⟩
def ti224 : TI := ⟨.func,1,8,.nilf,false⟩
def ti225 : TI := ⟨.int .u8,1,1,.int .u8 0,false⟩
def ti226 : TI := ⟨.int .u8,1,1,.int .u8 0,false⟩
def ti227 : TI := ⟨.func,1,8,.nilf,false⟩
def ti228 : TI := ⟨.ptr,1,8,.nilp,false⟩
def ti229 : TI := ⟨.int .i32,1,4,.int .i32 0,false⟩
def ti230 : TI := ⟨.int .i32,1,4,.int .i32 0,false⟩
def ti231 : TI := ⟨.struct [(0,12),(1,12),(2,122),(3,225),(4,5),(5,5),(6,226),(7,227),(8,228),(9,229),(10,230)],11,48,.agg [.int .u64 0,.int .u64 0,.int .u32 0,.int .u8 0,.int .u8 0,.int .u8 0,.int .u8 0,.nilf,.nilp,.int .i32 0,.int .i32 0],false⟩
def ti232 : TI := ⟨.struct [(0,12),(1,12),(2,122),(3,225),(4,5),(5,5),(6,226),(7,227),(8,228),(9,229),(10,230)],11,48,.agg [.int .u64 0,.int .u64 0,.int .u32 0,.int .u8 0,.int .u8 0,.int .u8 0,.int .u8 0,.nilf,.nilp,.int .i32 0,.int .i32 0],false⟩
theorem tka {P : Program} {t : TypeId} {ti : TI} (h1 : (P.underlying t).map kindOf = some ti.kind := by kernel_rfl) (h2 : (P.info? t).map (fun i => (i.size,i.bytes,i.zero.map absV)) = some (ti.sz,ti.bytes,some ti.zero) := by kernel_rfl) (h3 : (!ti.plain || (!P.stoodInHeld t && !P.eqGuardType P.depth t)) = true := by kernel_rfl) (h4 : (match ti.kind with | .struct fs => fs.all (fun p => (P.info? p.2).isSome) | _ => true) = true := by kernel_rfl) : TIok P t ti :=
  ⟨h1,h2,fun e => by rw [e] at h3; simpa using h3,fun fs e p hp => by rw [e] at h4; exact List.all_eq_true.1 h4 p hp⟩
theorem sma {α : Type} {p : α → Prop} {x : α} (h : p x) : ∀ a,some x = some a → p a := fun a e => by cases e; exact h
theorem nna {α : Type} {p : α → Prop} : ∀ a,none = some a → p a := fun a e => by cases e
theorem tok1 : TIok Tryz.prog 1 ti1 := tka
theorem tok2 : TIok Tryz.prog 2 ti2 := tka
theorem tok3 : TIok Tryz.prog 3 ti3 := tka
theorem tok4 : TIok Tryz.prog 4 ti4 := tka
theorem tok5 : TIok Tryz.prog 5 ti5 := tka
theorem tok6 : TIok Tryz.prog 6 ti6 := tka
theorem tok7 : TIok Tryz.prog 7 ti7 := tka
theorem tok8 : TIok Tryz.prog 8 ti8 := tka
theorem tok9 : TIok Tryz.prog 9 ti9 := tka
theorem tok10 : TIok Tryz.prog 10 ti10 := tka
theorem tok11 : TIok Tryz.prog 11 ti11 := tka
theorem tok12 : TIok Tryz.prog 12 ti12 := tka
theorem tok13 : TIok Tryz.prog 13 ti13 := tka
theorem tok14 : TIok Tryz.prog 14 ti14 := tka
theorem tok15 : TIok Tryz.prog 15 ti15 := tka
theorem tok16 : TIok Tryz.prog 16 ti16 := tka
theorem tok17 : TIok Tryz.prog 17 ti17 := tka
theorem tok18 : TIok Tryz.prog 18 ti18 := tka
theorem tok19 : TIok Tryz.prog 19 ti19 := tka
theorem tok20 : TIok Tryz.prog 20 ti20 := tka
theorem tok21 : TIok Tryz.prog 21 ti21 := tka
theorem tok22 : TIok Tryz.prog 22 ti22 := tka
theorem tok23 : TIok Tryz.prog 23 ti23 := tka
theorem tok24 : TIok Tryz.prog 24 ti24 := tka
theorem tok25 : TIok Tryz.prog 25 ti25 := tka
theorem tok26 : TIok Tryz.prog 26 ti26 := tka
theorem tok27 : TIok Tryz.prog 27 ti27 := tka
theorem tok28 : TIok Tryz.prog 28 ti28 := tka
theorem tok29 : TIok Tryz.prog 29 ti29 := tka
theorem tok30 : TIok Tryz.prog 30 ti30 := tka
theorem tok31 : TIok Tryz.prog 31 ti31 := tka
theorem tok32 : TIok Tryz.prog 32 ti32 := tka
theorem tok33 : TIok Tryz.prog 33 ti33 := tka
theorem tok34 : TIok Tryz.prog 34 ti34 := tka
theorem tok35 : TIok Tryz.prog 35 ti35 := tka
theorem tok36 : TIok Tryz.prog 36 ti36 := tka
theorem tok37 : TIok Tryz.prog 37 ti37 := tka
theorem tok38 : TIok Tryz.prog 38 ti38 := tka
theorem tok40 : TIok Tryz.prog 40 ti40 := tka
theorem tok42 : TIok Tryz.prog 42 ti42 := tka
theorem tok43 : TIok Tryz.prog 43 ti43 := tka
theorem tok45 : TIok Tryz.prog 45 ti45 := tka
theorem tok47 : TIok Tryz.prog 47 ti47 := tka
theorem tok48 : TIok Tryz.prog 48 ti48 := tka
theorem tok49 : TIok Tryz.prog 49 ti49 := tka
theorem tok50 : TIok Tryz.prog 50 ti50 := tka
theorem tok51 : TIok Tryz.prog 51 ti51 := tka
theorem tok52 : TIok Tryz.prog 52 ti52 := tka
theorem tok53 : TIok Tryz.prog 53 ti53 := tka
theorem tok55 : TIok Tryz.prog 55 ti55 := tka
theorem tok57 : TIok Tryz.prog 57 ti57 := tka
theorem tok58 : TIok Tryz.prog 58 ti58 := tka
theorem tok60 : TIok Tryz.prog 60 ti60 := tka
theorem tok61 : TIok Tryz.prog 61 ti61 := tka
theorem tok62 : TIok Tryz.prog 62 ti62 := tka
theorem tok63 : TIok Tryz.prog 63 ti63 := tka
theorem tok64 : TIok Tryz.prog 64 ti64 := tka
theorem tok65 : TIok Tryz.prog 65 ti65 := tka
theorem tok66 : TIok Tryz.prog 66 ti66 := tka
theorem tok67 : TIok Tryz.prog 67 ti67 := tka
theorem tok68 : TIok Tryz.prog 68 ti68 := tka
theorem tok69 : TIok Tryz.prog 69 ti69 := tka
theorem tok70 : TIok Tryz.prog 70 ti70 := tka
theorem tok71 : TIok Tryz.prog 71 ti71 := tka
theorem tok72 : TIok Tryz.prog 72 ti72 := tka
theorem tok73 : TIok Tryz.prog 73 ti73 := tka
theorem tok74 : TIok Tryz.prog 74 ti74 := tka
theorem tok75 : TIok Tryz.prog 75 ti75 := tka
theorem tok76 : TIok Tryz.prog 76 ti76 := tka
theorem tok77 : TIok Tryz.prog 77 ti77 := tka
theorem tok79 : TIok Tryz.prog 79 ti79 := tka
theorem tok80 : TIok Tryz.prog 80 ti80 := tka
theorem tok81 : TIok Tryz.prog 81 ti81 := tka
theorem tok82 : TIok Tryz.prog 82 ti82 := tka
theorem tok83 : TIok Tryz.prog 83 ti83 := tka
theorem tok85 : TIok Tryz.prog 85 ti85 := tka
theorem tok86 : TIok Tryz.prog 86 ti86 := tka
theorem tok87 : TIok Tryz.prog 87 ti87 := tka
theorem tok88 : TIok Tryz.prog 88 ti88 := tka
theorem tok89 : TIok Tryz.prog 89 ti89 := tka
theorem tok91 : TIok Tryz.prog 91 ti91 := tka
theorem tok92 : TIok Tryz.prog 92 ti92 := tka
theorem tok93 : TIok Tryz.prog 93 ti93 := tka
theorem tok94 : TIok Tryz.prog 94 ti94 := tka
theorem tok95 : TIok Tryz.prog 95 ti95 := tka
theorem tok96 : TIok Tryz.prog 96 ti96 := tka
theorem tok97 : TIok Tryz.prog 97 ti97 := tka
theorem tok98 : TIok Tryz.prog 98 ti98 := tka
theorem tok99 : TIok Tryz.prog 99 ti99 := tka
theorem tok101 : TIok Tryz.prog 101 ti101 := tka
theorem tok102 : TIok Tryz.prog 102 ti102 := tka
theorem tok103 : TIok Tryz.prog 103 ti103 := tka
theorem tok104 : TIok Tryz.prog 104 ti104 := tka
theorem tok106 : TIok Tryz.prog 106 ti106 := tka
theorem tok108 : TIok Tryz.prog 108 ti108 := tka
theorem tok109 : TIok Tryz.prog 109 ti109 := tka
theorem tok110 : TIok Tryz.prog 110 ti110 := tka
theorem tok111 : TIok Tryz.prog 111 ti111 := tka
theorem tok112 : TIok Tryz.prog 112 ti112 := tka
theorem tok113 : TIok Tryz.prog 113 ti113 := tka
theorem tok114 : TIok Tryz.prog 114 ti114 := tka
theorem tok115 : TIok Tryz.prog 115 ti115 := tka
theorem tok116 : TIok Tryz.prog 116 ti116 := tka
theorem tok117 : TIok Tryz.prog 117 ti117 := tka
theorem tok118 : TIok Tryz.prog 118 ti118 := tka
theorem tok119 : TIok Tryz.prog 119 ti119 := tka
theorem tok120 : TIok Tryz.prog 120 ti120 := tka
theorem tok121 : TIok Tryz.prog 121 ti121 := tka
theorem tok122 : TIok Tryz.prog 122 ti122 := tka
theorem tok123 : TIok Tryz.prog 123 ti123 := tka
theorem tok124 : TIok Tryz.prog 124 ti124 := tka
theorem tok125 : TIok Tryz.prog 125 ti125 := tka
theorem tok126 : TIok Tryz.prog 126 ti126 := tka
theorem tok127 : TIok Tryz.prog 127 ti127 := tka
theorem tok128 : TIok Tryz.prog 128 ti128 := tka
theorem tok129 : TIok Tryz.prog 129 ti129 := tka
theorem tok130 : TIok Tryz.prog 130 ti130 := tka
theorem tok131 : TIok Tryz.prog 131 ti131 := tka
theorem tok132 : TIok Tryz.prog 132 ti132 := tka
theorem tok133 : TIok Tryz.prog 133 ti133 := tka
theorem tok134 : TIok Tryz.prog 134 ti134 := tka
theorem tok135 : TIok Tryz.prog 135 ti135 := tka
theorem tok136 : TIok Tryz.prog 136 ti136 := tka
theorem tok137 : TIok Tryz.prog 137 ti137 := tka
theorem tok138 : TIok Tryz.prog 138 ti138 := tka
theorem tok139 : TIok Tryz.prog 139 ti139 := tka
theorem tok140 : TIok Tryz.prog 140 ti140 := tka
theorem tok141 : TIok Tryz.prog 141 ti141 := tka
theorem tok142 : TIok Tryz.prog 142 ti142 := tka
theorem tok143 : TIok Tryz.prog 143 ti143 := tka
theorem tok144 : TIok Tryz.prog 144 ti144 := tka
theorem tok145 : TIok Tryz.prog 145 ti145 := tka
theorem tok146 : TIok Tryz.prog 146 ti146 := tka
theorem tok147 : TIok Tryz.prog 147 ti147 := tka
theorem tok148 : TIok Tryz.prog 148 ti148 := tka
theorem tok149 : TIok Tryz.prog 149 ti149 := tka
theorem tok150 : TIok Tryz.prog 150 ti150 := tka
theorem tok151 : TIok Tryz.prog 151 ti151 := tka
theorem tok152 : TIok Tryz.prog 152 ti152 := tka
theorem tok153 : TIok Tryz.prog 153 ti153 := tka
theorem tok154 : TIok Tryz.prog 154 ti154 := tka
theorem tok155 : TIok Tryz.prog 155 ti155 := tka
theorem tok156 : TIok Tryz.prog 156 ti156 := tka
theorem tok157 : TIok Tryz.prog 157 ti157 := tka
theorem tok158 : TIok Tryz.prog 158 ti158 := tka
theorem tok159 : TIok Tryz.prog 159 ti159 := tka
theorem tok160 : TIok Tryz.prog 160 ti160 := tka
theorem tok161 : TIok Tryz.prog 161 ti161 := tka
theorem tok162 : TIok Tryz.prog 162 ti162 := tka
theorem tok163 : TIok Tryz.prog 163 ti163 := tka
theorem tok164 : TIok Tryz.prog 164 ti164 := tka
theorem tok165 : TIok Tryz.prog 165 ti165 := tka
theorem tok166 : TIok Tryz.prog 166 ti166 := tka
theorem tok167 : TIok Tryz.prog 167 ti167 := tka
theorem tok168 : TIok Tryz.prog 168 ti168 := tka
theorem tok169 : TIok Tryz.prog 169 ti169 := tka
theorem tok170 : TIok Tryz.prog 170 ti170 := tka
theorem tok171 : TIok Tryz.prog 171 ti171 := tka
theorem tok172 : TIok Tryz.prog 172 ti172 := tka
theorem tok173 : TIok Tryz.prog 173 ti173 := tka
theorem tok174 : TIok Tryz.prog 174 ti174 := tka
theorem tok175 : TIok Tryz.prog 175 ti175 := tka
theorem tok176 : TIok Tryz.prog 176 ti176 := tka
theorem tok177 : TIok Tryz.prog 177 ti177 := tka
theorem tok178 : TIok Tryz.prog 178 ti178 := tka
theorem tok179 : TIok Tryz.prog 179 ti179 := tka
theorem tok180 : TIok Tryz.prog 180 ti180 := tka
theorem tok181 : TIok Tryz.prog 181 ti181 := tka
theorem tok182 : TIok Tryz.prog 182 ti182 := tka
theorem tok183 : TIok Tryz.prog 183 ti183 := tka
theorem tok184 : TIok Tryz.prog 184 ti184 := tka
theorem tok185 : TIok Tryz.prog 185 ti185 := tka
theorem tok186 : TIok Tryz.prog 186 ti186 := tka
theorem tok187 : TIok Tryz.prog 187 ti187 := tka
theorem tok188 : TIok Tryz.prog 188 ti188 := tka
theorem tok189 : TIok Tryz.prog 189 ti189 := tka
theorem tok190 : TIok Tryz.prog 190 ti190 := tka
theorem tok191 : TIok Tryz.prog 191 ti191 := tka
theorem tok192 : TIok Tryz.prog 192 ti192 := tka
theorem tok193 : TIok Tryz.prog 193 ti193 := tka
theorem tok194 : TIok Tryz.prog 194 ti194 := tka
theorem tok195 : TIok Tryz.prog 195 ti195 := tka
theorem tok196 : TIok Tryz.prog 196 ti196 := tka
theorem tok197 : TIok Tryz.prog 197 ti197 := tka
theorem tok198 : TIok Tryz.prog 198 ti198 := tka
theorem tok199 : TIok Tryz.prog 199 ti199 := tka
theorem tok200 : TIok Tryz.prog 200 ti200 := tka
theorem tok202 : TIok Tryz.prog 202 ti202 := tka
theorem tok203 : TIok Tryz.prog 203 ti203 := tka
theorem tok204 : TIok Tryz.prog 204 ti204 := tka
theorem tok205 : TIok Tryz.prog 205 ti205 := tka
theorem tok206 : TIok Tryz.prog 206 ti206 := tka
theorem tok207 : TIok Tryz.prog 207 ti207 := tka
theorem tok208 : TIok Tryz.prog 208 ti208 := tka
theorem tok209 : TIok Tryz.prog 209 ti209 := tka
theorem tok210 : TIok Tryz.prog 210 ti210 := tka
theorem tok211 : TIok Tryz.prog 211 ti211 := tka
theorem tok212 : TIok Tryz.prog 212 ti212 := tka
theorem tok213 : TIok Tryz.prog 213 ti213 := tka
theorem tok214 : TIok Tryz.prog 214 ti214 := tka
theorem tok215 : TIok Tryz.prog 215 ti215 := tka
theorem tok217 : TIok Tryz.prog 217 ti217 := tka
theorem tok218 : TIok Tryz.prog 218 ti218 := tka
theorem tok219 : TIok Tryz.prog 219 ti219 := tka
theorem tok220 : TIok Tryz.prog 220 ti220 := tka
theorem tok221 : TIok Tryz.prog 221 ti221 := tka
theorem tok224 : TIok Tryz.prog 224 ti224 := tka
theorem tok225 : TIok Tryz.prog 225 ti225 := tka
theorem tok226 : TIok Tryz.prog 226 ti226 := tka
theorem tok227 : TIok Tryz.prog 227 ti227 := tka
theorem tok228 : TIok Tryz.prog 228 ti228 := tka
theorem tok229 : TIok Tryz.prog 229 ti229 := tka
theorem tok230 : TIok Tryz.prog 230 ti230 := tka
theorem tok231 : TIok Tryz.prog 231 ti231 := tka
theorem tok232 : TIok Tryz.prog 232 ti232 := tka
def tabT : Bt TI := (.node (.node (.node (.node (.node (.node (.node (.node .nil (some ti127) .nil) (some ti63) (.node .nil (some ti191) .nil)) (some ti31) (.node (.node .nil (some ti159) .nil) (some ti95) .nil)) (some ti15) (.node (.node (.node .nil (some ti143) .nil) (some ti79) (.node .nil (some ti207) .nil)) (some ti47) (.node (.node .nil (some ti175) .nil) (some ti111) .nil))) (some ti7) (.node (.node (.node (.node .nil (some ti135) .nil) (some ti71) (.node .nil (some ti199) .nil)) none (.node (.node .nil (some ti167) .nil) (some ti103) (.node .nil (some ti231) .nil))) (some ti23) (.node (.node (.node .nil (some ti151) .nil) (some ti87) (.node .nil (some ti215) .nil)) (some ti55) (.node (.node .nil (some ti183) .nil) (some ti119) .nil)))) (some ti3) (.node (.node (.node (.node (.node .nil (some ti131) .nil) (some ti67) (.node .nil (some ti195) .nil)) (some ti35) (.node (.node .nil (some ti163) .nil) (some ti99) (.node .nil (some ti227) .nil))) (some ti19) (.node (.node (.node .nil (some ti147) .nil) (some ti83) (.node .nil (some ti211) .nil)) (some ti51) (.node (.node .nil (some ti179) .nil) (some ti115) .nil))) (some ti11) (.node (.node (.node (.node .nil (some ti139) .nil) (some ti75) (.node .nil (some ti203) .nil)) (some ti43) (.node (.node .nil (some ti171) .nil) none .nil)) (some ti27) (.node (.node (.node .nil (some ti155) .nil) (some ti91) (.node .nil (some ti219) .nil)) none (.node (.node .nil (some ti187) .nil) (some ti123) .nil))))) (some ti1) (.node (.node (.node (.node (.node (.node .nil (some ti129) .nil) (some ti65) (.node .nil (some ti193) .nil)) (some ti33) (.node (.node .nil (some ti161) .nil) (some ti97) (.node .nil (some ti225) .nil))) (some ti17) (.node (.node (.node .nil (some ti145) .nil) (some ti81) (.node .nil (some ti209) .nil)) (some ti49) (.node (.node .nil (some ti177) .nil) (some ti113) .nil))) (some ti9) (.node (.node (.node (.node .nil (some ti137) .nil) (some ti73) .nil) none (.node (.node .nil (some ti169) .nil) none .nil)) (some ti25) (.node (.node (.node .nil (some ti153) .nil) (some ti89) (.node .nil (some ti217) .nil)) (some ti57) (.node (.node .nil (some ti185) .nil) (some ti121) .nil)))) (some ti5) (.node (.node (.node (.node (.node .nil (some ti133) .nil) (some ti69) (.node .nil (some ti197) .nil)) (some ti37) (.node (.node .nil (some ti165) .nil) (some ti101) (.node .nil (some ti229) .nil))) (some ti21) (.node (.node (.node .nil (some ti149) .nil) (some ti85) (.node .nil (some ti213) .nil)) (some ti53) (.node (.node .nil (some ti181) .nil) (some ti117) .nil))) (some ti13) (.node (.node (.node (.node .nil (some ti141) .nil) (some ti77) (.node .nil (some ti205) .nil)) (some ti45) (.node (.node .nil (some ti173) .nil) (some ti109) .nil)) (some ti29) (.node (.node (.node .nil (some ti157) .nil) (some ti93) (.node .nil (some ti221) .nil)) (some ti61) (.node (.node .nil (some ti189) .nil) (some ti125) .nil)))))) none (.node (.node (.node (.node (.node (.node (.node .nil (some ti128) .nil) (some ti64) (.node .nil (some ti192) .nil)) (some ti32) (.node (.node .nil (some ti160) .nil) (some ti96) (.node .nil (some ti224) .nil))) (some ti16) (.node (.node (.node .nil (some ti144) .nil) (some ti80) (.node .nil (some ti208) .nil)) (some ti48) (.node (.node .nil (some ti176) .nil) (some ti112) .nil))) (some ti8) (.node (.node (.node (.node .nil (some ti136) .nil) (some ti72) (.node .nil (some ti200) .nil)) (some ti40) (.node (.node .nil (some ti168) .nil) (some ti104) (.node .nil (some ti232) .nil))) (some ti24) (.node (.node (.node .nil (some ti152) .nil) (some ti88) .nil) none (.node (.node .nil (some ti184) .nil) (some ti120) .nil)))) (some ti4) (.node (.node (.node (.node (.node .nil (some ti132) .nil) (some ti68) (.node .nil (some ti196) .nil)) (some ti36) (.node (.node .nil (some ti164) .nil) none (.node .nil (some ti228) .nil))) (some ti20) (.node (.node (.node .nil (some ti148) .nil) none (.node .nil (some ti212) .nil)) (some ti52) (.node (.node .nil (some ti180) .nil) (some ti116) .nil))) (some ti12) (.node (.node (.node (.node .nil (some ti140) .nil) (some ti76) (.node .nil (some ti204) .nil)) none (.node (.node .nil (some ti172) .nil) (some ti108) .nil)) (some ti28) (.node (.node (.node .nil (some ti156) .nil) (some ti92) (.node .nil (some ti220) .nil)) (some ti60) (.node (.node .nil (some ti188) .nil) (some ti124) .nil))))) (some ti2) (.node (.node (.node (.node (.node (.node .nil (some ti130) .nil) (some ti66) (.node .nil (some ti194) .nil)) (some ti34) (.node (.node .nil (some ti162) .nil) (some ti98) (.node .nil (some ti226) .nil))) (some ti18) (.node (.node (.node .nil (some ti146) .nil) (some ti82) (.node .nil (some ti210) .nil)) (some ti50) (.node (.node .nil (some ti178) .nil) (some ti114) .nil))) (some ti10) (.node (.node (.node (.node .nil (some ti138) .nil) (some ti74) (.node .nil (some ti202) .nil)) (some ti42) (.node (.node .nil (some ti170) .nil) (some ti106) .nil)) (some ti26) (.node (.node (.node .nil (some ti154) .nil) none (.node .nil (some ti218) .nil)) (some ti58) (.node (.node .nil (some ti186) .nil) (some ti122) .nil)))) (some ti6) (.node (.node (.node (.node (.node .nil (some ti134) .nil) (some ti70) (.node .nil (some ti198) .nil)) (some ti38) (.node (.node .nil (some ti166) .nil) (some ti102) (.node .nil (some ti230) .nil))) (some ti22) (.node (.node (.node .nil (some ti150) .nil) (some ti86) (.node .nil (some ti214) .nil)) none (.node (.node .nil (some ti182) .nil) (some ti118) .nil))) (some ti14) (.node (.node (.node (.node .nil (some ti142) .nil) none (.node .nil (some ti206) .nil)) none (.node (.node .nil (some ti174) .nil) (some ti110) .nil)) (some ti30) (.node (.node (.node .nil (some ti158) .nil) (some ti94) .nil) (some ti62) (.node (.node .nil (some ti190) .nil) (some ti126) .nil)))))))
noncomputable def tab : Tab := fun t => tabT.get t
theorem tabT_ok : Bt.A (fun t ti => TIok Tryz.prog t ti) tabT := ⟨nna,⟨sma tok1,⟨sma tok3,⟨sma tok7,⟨sma tok15,⟨sma tok31,⟨sma tok63,⟨sma tok127,trivial,trivial⟩,⟨sma tok191,trivial,trivial⟩⟩,⟨sma tok95,⟨sma tok159,trivial,trivial⟩,trivial⟩⟩,⟨sma tok47,⟨sma tok79,⟨sma tok143,trivial,trivial⟩,⟨sma tok207,trivial,trivial⟩⟩,⟨sma tok111,⟨sma tok175,trivial,trivial⟩,trivial⟩⟩⟩,⟨sma tok23,⟨nna,⟨sma tok71,⟨sma tok135,trivial,trivial⟩,⟨sma tok199,trivial,trivial⟩⟩,⟨sma tok103,⟨sma tok167,trivial,trivial⟩,⟨sma tok231,trivial,trivial⟩⟩⟩,⟨sma tok55,⟨sma tok87,⟨sma tok151,trivial,trivial⟩,⟨sma tok215,trivial,trivial⟩⟩,⟨sma tok119,⟨sma tok183,trivial,trivial⟩,trivial⟩⟩⟩⟩,⟨sma tok11,⟨sma tok19,⟨sma tok35,⟨sma tok67,⟨sma tok131,trivial,trivial⟩,⟨sma tok195,trivial,trivial⟩⟩,⟨sma tok99,⟨sma tok163,trivial,trivial⟩,⟨sma tok227,trivial,trivial⟩⟩⟩,⟨sma tok51,⟨sma tok83,⟨sma tok147,trivial,trivial⟩,⟨sma tok211,trivial,trivial⟩⟩,⟨sma tok115,⟨sma tok179,trivial,trivial⟩,trivial⟩⟩⟩,⟨sma tok27,⟨sma tok43,⟨sma tok75,⟨sma tok139,trivial,trivial⟩,⟨sma tok203,trivial,trivial⟩⟩,⟨nna,⟨sma tok171,trivial,trivial⟩,trivial⟩⟩,⟨nna,⟨sma tok91,⟨sma tok155,trivial,trivial⟩,⟨sma tok219,trivial,trivial⟩⟩,⟨sma tok123,⟨sma tok187,trivial,trivial⟩,trivial⟩⟩⟩⟩⟩,⟨sma tok5,⟨sma tok9,⟨sma tok17,⟨sma tok33,⟨sma tok65,⟨sma tok129,trivial,trivial⟩,⟨sma tok193,trivial,trivial⟩⟩,⟨sma tok97,⟨sma tok161,trivial,trivial⟩,⟨sma tok225,trivial,trivial⟩⟩⟩,⟨sma tok49,⟨sma tok81,⟨sma tok145,trivial,trivial⟩,⟨sma tok209,trivial,trivial⟩⟩,⟨sma tok113,⟨sma tok177,trivial,trivial⟩,trivial⟩⟩⟩,⟨sma tok25,⟨nna,⟨sma tok73,⟨sma tok137,trivial,trivial⟩,trivial⟩,⟨nna,⟨sma tok169,trivial,trivial⟩,trivial⟩⟩,⟨sma tok57,⟨sma tok89,⟨sma tok153,trivial,trivial⟩,⟨sma tok217,trivial,trivial⟩⟩,⟨sma tok121,⟨sma tok185,trivial,trivial⟩,trivial⟩⟩⟩⟩,⟨sma tok13,⟨sma tok21,⟨sma tok37,⟨sma tok69,⟨sma tok133,trivial,trivial⟩,⟨sma tok197,trivial,trivial⟩⟩,⟨sma tok101,⟨sma tok165,trivial,trivial⟩,⟨sma tok229,trivial,trivial⟩⟩⟩,⟨sma tok53,⟨sma tok85,⟨sma tok149,trivial,trivial⟩,⟨sma tok213,trivial,trivial⟩⟩,⟨sma tok117,⟨sma tok181,trivial,trivial⟩,trivial⟩⟩⟩,⟨sma tok29,⟨sma tok45,⟨sma tok77,⟨sma tok141,trivial,trivial⟩,⟨sma tok205,trivial,trivial⟩⟩,⟨sma tok109,⟨sma tok173,trivial,trivial⟩,trivial⟩⟩,⟨sma tok61,⟨sma tok93,⟨sma tok157,trivial,trivial⟩,⟨sma tok221,trivial,trivial⟩⟩,⟨sma tok125,⟨sma tok189,trivial,trivial⟩,trivial⟩⟩⟩⟩⟩⟩,⟨sma tok2,⟨sma tok4,⟨sma tok8,⟨sma tok16,⟨sma tok32,⟨sma tok64,⟨sma tok128,trivial,trivial⟩,⟨sma tok192,trivial,trivial⟩⟩,⟨sma tok96,⟨sma tok160,trivial,trivial⟩,⟨sma tok224,trivial,trivial⟩⟩⟩,⟨sma tok48,⟨sma tok80,⟨sma tok144,trivial,trivial⟩,⟨sma tok208,trivial,trivial⟩⟩,⟨sma tok112,⟨sma tok176,trivial,trivial⟩,trivial⟩⟩⟩,⟨sma tok24,⟨sma tok40,⟨sma tok72,⟨sma tok136,trivial,trivial⟩,⟨sma tok200,trivial,trivial⟩⟩,⟨sma tok104,⟨sma tok168,trivial,trivial⟩,⟨sma tok232,trivial,trivial⟩⟩⟩,⟨nna,⟨sma tok88,⟨sma tok152,trivial,trivial⟩,trivial⟩,⟨sma tok120,⟨sma tok184,trivial,trivial⟩,trivial⟩⟩⟩⟩,⟨sma tok12,⟨sma tok20,⟨sma tok36,⟨sma tok68,⟨sma tok132,trivial,trivial⟩,⟨sma tok196,trivial,trivial⟩⟩,⟨nna,⟨sma tok164,trivial,trivial⟩,⟨sma tok228,trivial,trivial⟩⟩⟩,⟨sma tok52,⟨nna,⟨sma tok148,trivial,trivial⟩,⟨sma tok212,trivial,trivial⟩⟩,⟨sma tok116,⟨sma tok180,trivial,trivial⟩,trivial⟩⟩⟩,⟨sma tok28,⟨nna,⟨sma tok76,⟨sma tok140,trivial,trivial⟩,⟨sma tok204,trivial,trivial⟩⟩,⟨sma tok108,⟨sma tok172,trivial,trivial⟩,trivial⟩⟩,⟨sma tok60,⟨sma tok92,⟨sma tok156,trivial,trivial⟩,⟨sma tok220,trivial,trivial⟩⟩,⟨sma tok124,⟨sma tok188,trivial,trivial⟩,trivial⟩⟩⟩⟩⟩,⟨sma tok6,⟨sma tok10,⟨sma tok18,⟨sma tok34,⟨sma tok66,⟨sma tok130,trivial,trivial⟩,⟨sma tok194,trivial,trivial⟩⟩,⟨sma tok98,⟨sma tok162,trivial,trivial⟩,⟨sma tok226,trivial,trivial⟩⟩⟩,⟨sma tok50,⟨sma tok82,⟨sma tok146,trivial,trivial⟩,⟨sma tok210,trivial,trivial⟩⟩,⟨sma tok114,⟨sma tok178,trivial,trivial⟩,trivial⟩⟩⟩,⟨sma tok26,⟨sma tok42,⟨sma tok74,⟨sma tok138,trivial,trivial⟩,⟨sma tok202,trivial,trivial⟩⟩,⟨sma tok106,⟨sma tok170,trivial,trivial⟩,trivial⟩⟩,⟨sma tok58,⟨nna,⟨sma tok154,trivial,trivial⟩,⟨sma tok218,trivial,trivial⟩⟩,⟨sma tok122,⟨sma tok186,trivial,trivial⟩,trivial⟩⟩⟩⟩,⟨sma tok14,⟨sma tok22,⟨sma tok38,⟨sma tok70,⟨sma tok134,trivial,trivial⟩,⟨sma tok198,trivial,trivial⟩⟩,⟨sma tok102,⟨sma tok166,trivial,trivial⟩,⟨sma tok230,trivial,trivial⟩⟩⟩,⟨nna,⟨sma tok86,⟨sma tok150,trivial,trivial⟩,⟨sma tok214,trivial,trivial⟩⟩,⟨sma tok118,⟨sma tok182,trivial,trivial⟩,trivial⟩⟩⟩,⟨sma tok30,⟨nna,⟨nna,⟨sma tok142,trivial,trivial⟩,⟨sma tok206,trivial,trivial⟩⟩,⟨sma tok110,⟨sma tok174,trivial,trivial⟩,trivial⟩⟩,⟨sma tok62,⟨sma tok94,⟨sma tok158,trivial,trivial⟩,trivial⟩,⟨sma tok126,⟨sma tok190,trivial,trivial⟩,trivial⟩⟩⟩⟩⟩⟩⟩
theorem tabOK : Ad Tryz.prog tab := fun t ti h => Bt.A_get tabT_ok h
theorem fun3 : Tryz.prog.funcs[3]? = some Tryz.f3 := by kernel_rfl
theorem fun4 : Tryz.prog.funcs[4]? = some Tryz.f4 := by kernel_rfl
theorem fun5 : Tryz.prog.funcs[5]? = some Tryz.f5 := by kernel_rfl
theorem fun6 : Tryz.prog.funcs[6]? = some Tryz.f6 := by kernel_rfl
theorem fun7 : Tryz.prog.funcs[7]? = some Tryz.f7 := by kernel_rfl
theorem fun8 : Tryz.prog.funcs[8]? = some Tryz.f8 := by kernel_rfl
theorem fun9 : Tryz.prog.funcs[9]? = some Tryz.f9 := by kernel_rfl
theorem fun10 : Tryz.prog.funcs[10]? = some Tryz.f10 := by kernel_rfl
theorem fun11 : Tryz.prog.funcs[11]? = some Tryz.f11 := by kernel_rfl
theorem fun12 : Tryz.prog.funcs[12]? = some Tryz.f12 := by kernel_rfl
theorem fun13 : Tryz.prog.funcs[13]? = some Tryz.f13 := by kernel_rfl
theorem fun14 : Tryz.prog.funcs[14]? = some Tryz.f14 := by kernel_rfl
theorem fun15 : Tryz.prog.funcs[15]? = some Tryz.f15 := by kernel_rfl
theorem fun16 : Tryz.prog.funcs[16]? = some Tryz.f16 := by kernel_rfl
theorem fun17 : Tryz.prog.funcs[17]? = some Tryz.f17 := by kernel_rfl
theorem fun18 : Tryz.prog.funcs[18]? = some Tryz.f18 := by kernel_rfl
theorem fun19 : Tryz.prog.funcs[19]? = some Tryz.f19 := by kernel_rfl
theorem fun20 : Tryz.prog.funcs[20]? = some Tryz.f20 := by kernel_rfl
theorem fun21 : Tryz.prog.funcs[21]? = some Tryz.f21 := by kernel_rfl
theorem fun22 : Tryz.prog.funcs[22]? = some Tryz.f22 := by kernel_rfl
theorem fun23 : Tryz.prog.funcs[23]? = some Tryz.f23 := by kernel_rfl
theorem fun24 : Tryz.prog.funcs[24]? = some Tryz.f24 := by kernel_rfl
theorem fun25 : Tryz.prog.funcs[25]? = some Tryz.f25 := by kernel_rfl
theorem fun26 : Tryz.prog.funcs[26]? = some Tryz.f26 := by kernel_rfl
theorem fun27 : Tryz.prog.funcs[27]? = some Tryz.f27 := by kernel_rfl
theorem fun28 : Tryz.prog.funcs[28]? = some Tryz.f28 := by kernel_rfl
theorem fun29 : Tryz.prog.funcs[29]? = some Tryz.f29 := by kernel_rfl
theorem fun30 : Tryz.prog.funcs[30]? = some Tryz.f30 := by kernel_rfl
theorem fun31 : Tryz.prog.funcs[31]? = some Tryz.f31 := by kernel_rfl
theorem fun32 : Tryz.prog.funcs[32]? = some Tryz.f32 := by kernel_rfl
theorem fun33 : Tryz.prog.funcs[33]? = some Tryz.f33 := by kernel_rfl
theorem fun34 : Tryz.prog.funcs[34]? = some Tryz.f34 := by kernel_rfl
theorem fun35 : Tryz.prog.funcs[35]? = some Tryz.f35 := by kernel_rfl
theorem fun36 : Tryz.prog.funcs[36]? = some Tryz.f36 := by kernel_rfl
theorem fun37 : Tryz.prog.funcs[37]? = some Tryz.f37 := by kernel_rfl
theorem fun38 : Tryz.prog.funcs[38]? = some Tryz.f38 := by kernel_rfl
theorem fun39 : Tryz.prog.funcs[39]? = some Tryz.f39 := by kernel_rfl
theorem fun40 : Tryz.prog.funcs[40]? = some Tryz.f40 := by kernel_rfl
theorem fun41 : Tryz.prog.funcs[41]? = some Tryz.f41 := by kernel_rfl
theorem fun42 : Tryz.prog.funcs[42]? = some Tryz.f42 := by kernel_rfl
theorem fun43 : Tryz.prog.funcs[43]? = some Tryz.f43 := by kernel_rfl
theorem fun44 : Tryz.prog.funcs[44]? = some Tryz.f44 := by kernel_rfl
theorem fun45 : Tryz.prog.funcs[45]? = some Tryz.f45 := by kernel_rfl
theorem fun46 : Tryz.prog.funcs[46]? = some Tryz.f46 := by kernel_rfl
theorem fun47 : Tryz.prog.funcs[47]? = some Tryz.f47 := by kernel_rfl
theorem fun48 : Tryz.prog.funcs[48]? = some Tryz.f48 := by kernel_rfl
theorem fun49 : Tryz.prog.funcs[49]? = some Tryz.f49 := by kernel_rfl
theorem fun50 : Tryz.prog.funcs[50]? = some Tryz.f50 := by kernel_rfl
theorem fun51 : Tryz.prog.funcs[51]? = some Tryz.f51 := by kernel_rfl
theorem fun52 : Tryz.prog.funcs[52]? = some Tryz.f52 := by kernel_rfl
theorem fun53 : Tryz.prog.funcs[53]? = some Tryz.f53 := by kernel_rfl
theorem fun54 : Tryz.prog.funcs[54]? = some Tryz.f54 := by kernel_rfl
theorem fun55 : Tryz.prog.funcs[55]? = some Tryz.f55 := by kernel_rfl
theorem fun56 : Tryz.prog.funcs[56]? = some Tryz.f56 := by kernel_rfl
theorem fun57 : Tryz.prog.funcs[57]? = some Tryz.f57 := by kernel_rfl
theorem fun58 : Tryz.prog.funcs[58]? = some Tryz.f58 := by kernel_rfl
theorem fun59 : Tryz.prog.funcs[59]? = some Tryz.f59 := by kernel_rfl
theorem fun60 : Tryz.prog.funcs[60]? = some Tryz.f60 := by kernel_rfl
theorem fun61 : Tryz.prog.funcs[61]? = some Tryz.f61 := by kernel_rfl
theorem fun62 : Tryz.prog.funcs[62]? = some Tryz.f62 := by kernel_rfl
theorem fun63 : Tryz.prog.funcs[63]? = some Tryz.f63 := by kernel_rfl
theorem fun64 : Tryz.prog.funcs[64]? = some Tryz.f64 := by kernel_rfl
theorem fun65 : Tryz.prog.funcs[65]? = some Tryz.f65 := by kernel_rfl
theorem fun66 : Tryz.prog.funcs[66]? = some Tryz.f66 := by kernel_rfl
theorem fun67 : Tryz.prog.funcs[67]? = some Tryz.f67 := by kernel_rfl
theorem fun68 : Tryz.prog.funcs[68]? = some Tryz.f68 := by kernel_rfl
theorem fun69 : Tryz.prog.funcs[69]? = some Tryz.f69 := by kernel_rfl
theorem fun70 : Tryz.prog.funcs[70]? = some Tryz.f70 := by kernel_rfl
theorem fun71 : Tryz.prog.funcs[71]? = some Tryz.f71 := by kernel_rfl
theorem fun72 : Tryz.prog.funcs[72]? = some Tryz.f72 := by kernel_rfl
theorem fun73 : Tryz.prog.funcs[73]? = some Tryz.f73 := by kernel_rfl
theorem fun74 : Tryz.prog.funcs[74]? = some Tryz.f74 := by kernel_rfl
theorem fun75 : Tryz.prog.funcs[75]? = some Tryz.f75 := by kernel_rfl
theorem fun76 : Tryz.prog.funcs[76]? = some Tryz.f76 := by kernel_rfl
theorem fun77 : Tryz.prog.funcs[77]? = some Tryz.f77 := by kernel_rfl
theorem fun78 : Tryz.prog.funcs[78]? = some Tryz.f78 := by kernel_rfl
theorem fun79 : Tryz.prog.funcs[79]? = some Tryz.f79 := by kernel_rfl
theorem fun80 : Tryz.prog.funcs[80]? = some Tryz.f80 := by kernel_rfl
theorem fun81 : Tryz.prog.funcs[81]? = some Tryz.f81 := by kernel_rfl
theorem fun82 : Tryz.prog.funcs[82]? = some Tryz.f82 := by kernel_rfl
theorem fun83 : Tryz.prog.funcs[83]? = some Tryz.f83 := by kernel_rfl
theorem fun84 : Tryz.prog.funcs[84]? = some Tryz.f84 := by kernel_rfl
theorem fun85 : Tryz.prog.funcs[85]? = some Tryz.f85 := by kernel_rfl
theorem fun86 : Tryz.prog.funcs[86]? = some Tryz.f86 := by kernel_rfl
theorem fun87 : Tryz.prog.funcs[87]? = some Tryz.f87 := by kernel_rfl
theorem fun88 : Tryz.prog.funcs[88]? = some Tryz.f88 := by kernel_rfl
theorem fun89 : Tryz.prog.funcs[89]? = some Tryz.f89 := by kernel_rfl
theorem fun90 : Tryz.prog.funcs[90]? = some Tryz.f90 := by kernel_rfl
theorem fun91 : Tryz.prog.funcs[91]? = some Tryz.f91 := by kernel_rfl
theorem fun92 : Tryz.prog.funcs[92]? = some Tryz.f92 := by kernel_rfl
theorem fun93 : Tryz.prog.funcs[93]? = some Tryz.f93 := by kernel_rfl
theorem fun94 : Tryz.prog.funcs[94]? = some Tryz.f94 := by kernel_rfl
theorem fun95 : Tryz.prog.funcs[95]? = some Tryz.f95 := by kernel_rfl
theorem fun96 : Tryz.prog.funcs[96]? = some Tryz.f96 := by kernel_rfl
theorem fun97 : Tryz.prog.funcs[97]? = some Tryz.f97 := by kernel_rfl
theorem fun98 : Tryz.prog.funcs[98]? = some Tryz.f98 := by kernel_rfl
theorem fun99 : Tryz.prog.funcs[99]? = some Tryz.f99 := by kernel_rfl
theorem fun100 : Tryz.prog.funcs[100]? = some Tryz.f100 := by kernel_rfl
theorem fun101 : Tryz.prog.funcs[101]? = some Tryz.f101 := by kernel_rfl
theorem fun102 : Tryz.prog.funcs[102]? = some Tryz.f102 := by kernel_rfl
theorem fun103 : Tryz.prog.funcs[103]? = some Tryz.f103 := by kernel_rfl
theorem fun104 : Tryz.prog.funcs[104]? = some Tryz.f104 := by kernel_rfl
theorem fun105 : Tryz.prog.funcs[105]? = some Tryz.f105 := by kernel_rfl
theorem fun106 : Tryz.prog.funcs[106]? = some Tryz.f106 := by kernel_rfl
theorem fun107 : Tryz.prog.funcs[107]? = some Tryz.f107 := by kernel_rfl
theorem fun108 : Tryz.prog.funcs[108]? = some Tryz.f108 := by kernel_rfl
theorem fun109 : Tryz.prog.funcs[109]? = some Tryz.f109 := by kernel_rfl
theorem fun110 : Tryz.prog.funcs[110]? = some Tryz.f110 := by kernel_rfl
theorem fun111 : Tryz.prog.funcs[111]? = some Tryz.f111 := by kernel_rfl
theorem fun112 : Tryz.prog.funcs[112]? = some Tryz.f112 := by kernel_rfl
theorem fun113 : Tryz.prog.funcs[113]? = some Tryz.f113 := by kernel_rfl
theorem fun114 : Tryz.prog.funcs[114]? = some Tryz.f114 := by kernel_rfl
theorem fun115 : Tryz.prog.funcs[115]? = some Tryz.f115 := by kernel_rfl
theorem fun116 : Tryz.prog.funcs[116]? = some Tryz.f116 := by kernel_rfl
theorem fun117 : Tryz.prog.funcs[117]? = some Tryz.f117 := by kernel_rfl
theorem fun118 : Tryz.prog.funcs[118]? = some Tryz.f118 := by kernel_rfl
theorem fun119 : Tryz.prog.funcs[119]? = some Tryz.f119 := by kernel_rfl
theorem fun120 : Tryz.prog.funcs[120]? = some Tryz.f120 := by kernel_rfl
theorem fun121 : Tryz.prog.funcs[121]? = some Tryz.f121 := by kernel_rfl
theorem fun122 : Tryz.prog.funcs[122]? = some Tryz.f122 := by kernel_rfl
theorem fun123 : Tryz.prog.funcs[123]? = some Tryz.f123 := by kernel_rfl
theorem fun124 : Tryz.prog.funcs[124]? = some Tryz.f124 := by kernel_rfl
theorem fun125 : Tryz.prog.funcs[125]? = some Tryz.f125 := by kernel_rfl
theorem fun126 : Tryz.prog.funcs[126]? = some Tryz.f126 := by kernel_rfl
theorem fun127 : Tryz.prog.funcs[127]? = some Tryz.f127 := by kernel_rfl
theorem fun128 : Tryz.prog.funcs[128]? = some Tryz.f128 := by kernel_rfl
theorem fun129 : Tryz.prog.funcs[129]? = some Tryz.f129 := by kernel_rfl
theorem fun130 : Tryz.prog.funcs[130]? = some Tryz.f130 := by kernel_rfl
theorem fun131 : Tryz.prog.funcs[131]? = some Tryz.f131 := by kernel_rfl
theorem fun132 : Tryz.prog.funcs[132]? = some Tryz.f132 := by kernel_rfl
theorem fun133 : Tryz.prog.funcs[133]? = some Tryz.f133 := by kernel_rfl
theorem fun134 : Tryz.prog.funcs[134]? = some Tryz.f134 := by kernel_rfl
theorem fun135 : Tryz.prog.funcs[135]? = some Tryz.f135 := by kernel_rfl
theorem fun136 : Tryz.prog.funcs[136]? = some Tryz.f136 := by kernel_rfl
theorem fun137 : Tryz.prog.funcs[137]? = some Tryz.f137 := by kernel_rfl
theorem fun138 : Tryz.prog.funcs[138]? = some Tryz.f138 := by kernel_rfl
theorem fun139 : Tryz.prog.funcs[139]? = some Tryz.f139 := by kernel_rfl
theorem fun140 : Tryz.prog.funcs[140]? = some Tryz.f140 := by kernel_rfl
theorem fun141 : Tryz.prog.funcs[141]? = some Tryz.f141 := by kernel_rfl
theorem fun142 : Tryz.prog.funcs[142]? = some Tryz.f142 := by kernel_rfl
theorem fun143 : Tryz.prog.funcs[143]? = some Tryz.f143 := by kernel_rfl
theorem fun144 : Tryz.prog.funcs[144]? = some Tryz.f144 := by kernel_rfl
theorem fun145 : Tryz.prog.funcs[145]? = some Tryz.f145 := by kernel_rfl
theorem fun146 : Tryz.prog.funcs[146]? = some Tryz.f146 := by kernel_rfl
theorem fun147 : Tryz.prog.funcs[147]? = some Tryz.f147 := by kernel_rfl
theorem fun148 : Tryz.prog.funcs[148]? = some Tryz.f148 := by kernel_rfl
theorem fun149 : Tryz.prog.funcs[149]? = some Tryz.f149 := by kernel_rfl
theorem fun150 : Tryz.prog.funcs[150]? = some Tryz.f150 := by kernel_rfl
theorem fun151 : Tryz.prog.funcs[151]? = some Tryz.f151 := by kernel_rfl
theorem fun152 : Tryz.prog.funcs[152]? = some Tryz.f152 := by kernel_rfl
theorem fun153 : Tryz.prog.funcs[153]? = some Tryz.f153 := by kernel_rfl
theorem fun154 : Tryz.prog.funcs[154]? = some Tryz.f154 := by kernel_rfl
theorem fun155 : Tryz.prog.funcs[155]? = some Tryz.f155 := by kernel_rfl
theorem fun156 : Tryz.prog.funcs[156]? = some Tryz.f156 := by kernel_rfl
theorem fun157 : Tryz.prog.funcs[157]? = some Tryz.f157 := by kernel_rfl
theorem fun158 : Tryz.prog.funcs[158]? = some Tryz.f158 := by kernel_rfl
theorem fun159 : Tryz.prog.funcs[159]? = some Tryz.f159 := by kernel_rfl
theorem fun160 : Tryz.prog.funcs[160]? = some Tryz.f160 := by kernel_rfl
theorem fun161 : Tryz.prog.funcs[161]? = some Tryz.f161 := by kernel_rfl
noncomputable def lookT : Bt Func := (.node (.node (.node (.node (.node (.node (.node (.node .nil (some Tryz.f127) .nil) (some Tryz.f63) .nil) (some Tryz.f31) (.node (.node .nil (some Tryz.f159) .nil) (some Tryz.f95) .nil)) (some Tryz.f15) (.node (.node (.node .nil (some Tryz.f143) .nil) (some Tryz.f79) .nil) (some Tryz.f47) (.node .nil (some Tryz.f111) .nil))) (some Tryz.f7) (.node (.node (.node (.node .nil (some Tryz.f135) .nil) (some Tryz.f71) .nil) (some Tryz.f39) (.node .nil (some Tryz.f103) .nil)) (some Tryz.f23) (.node (.node (.node .nil (some Tryz.f151) .nil) (some Tryz.f87) .nil) (some Tryz.f55) (.node .nil (some Tryz.f119) .nil)))) (some Tryz.f3) (.node (.node (.node (.node (.node .nil (some Tryz.f131) .nil) (some Tryz.f67) .nil) (some Tryz.f35) (.node .nil (some Tryz.f99) .nil)) (some Tryz.f19) (.node (.node (.node .nil (some Tryz.f147) .nil) (some Tryz.f83) .nil) (some Tryz.f51) (.node .nil (some Tryz.f115) .nil))) (some Tryz.f11) (.node (.node (.node (.node .nil (some Tryz.f139) .nil) (some Tryz.f75) .nil) (some Tryz.f43) (.node .nil (some Tryz.f107) .nil)) (some Tryz.f27) (.node (.node (.node .nil (some Tryz.f155) .nil) (some Tryz.f91) .nil) (some Tryz.f59) (.node .nil (some Tryz.f123) .nil))))) none (.node (.node (.node (.node (.node (.node .nil (some Tryz.f129) .nil) (some Tryz.f65) .nil) (some Tryz.f33) (.node (.node .nil (some Tryz.f161) .nil) (some Tryz.f97) .nil)) (some Tryz.f17) (.node (.node (.node .nil (some Tryz.f145) .nil) (some Tryz.f81) .nil) (some Tryz.f49) (.node .nil (some Tryz.f113) .nil))) (some Tryz.f9) (.node (.node (.node (.node .nil (some Tryz.f137) .nil) (some Tryz.f73) .nil) (some Tryz.f41) (.node .nil (some Tryz.f105) .nil)) (some Tryz.f25) (.node (.node (.node .nil (some Tryz.f153) .nil) (some Tryz.f89) .nil) (some Tryz.f57) (.node .nil (some Tryz.f121) .nil)))) (some Tryz.f5) (.node (.node (.node (.node (.node .nil (some Tryz.f133) .nil) (some Tryz.f69) .nil) (some Tryz.f37) (.node .nil (some Tryz.f101) .nil)) (some Tryz.f21) (.node (.node (.node .nil (some Tryz.f149) .nil) (some Tryz.f85) .nil) (some Tryz.f53) (.node .nil (some Tryz.f117) .nil))) (some Tryz.f13) (.node (.node (.node (.node .nil (some Tryz.f141) .nil) (some Tryz.f77) .nil) (some Tryz.f45) (.node .nil (some Tryz.f109) .nil)) (some Tryz.f29) (.node (.node (.node .nil (some Tryz.f157) .nil) (some Tryz.f93) .nil) (some Tryz.f61) (.node .nil (some Tryz.f125) .nil)))))) none (.node (.node (.node (.node (.node (.node (.node .nil (some Tryz.f128) .nil) (some Tryz.f64) .nil) (some Tryz.f32) (.node (.node .nil (some Tryz.f160) .nil) (some Tryz.f96) .nil)) (some Tryz.f16) (.node (.node (.node .nil (some Tryz.f144) .nil) (some Tryz.f80) .nil) (some Tryz.f48) (.node .nil (some Tryz.f112) .nil))) (some Tryz.f8) (.node (.node (.node (.node .nil (some Tryz.f136) .nil) (some Tryz.f72) .nil) (some Tryz.f40) (.node .nil (some Tryz.f104) .nil)) (some Tryz.f24) (.node (.node (.node .nil (some Tryz.f152) .nil) (some Tryz.f88) .nil) (some Tryz.f56) (.node .nil (some Tryz.f120) .nil)))) (some Tryz.f4) (.node (.node (.node (.node (.node .nil (some Tryz.f132) .nil) (some Tryz.f68) .nil) (some Tryz.f36) (.node .nil (some Tryz.f100) .nil)) (some Tryz.f20) (.node (.node (.node .nil (some Tryz.f148) .nil) (some Tryz.f84) .nil) (some Tryz.f52) (.node .nil (some Tryz.f116) .nil))) (some Tryz.f12) (.node (.node (.node (.node .nil (some Tryz.f140) .nil) (some Tryz.f76) .nil) (some Tryz.f44) (.node .nil (some Tryz.f108) .nil)) (some Tryz.f28) (.node (.node (.node .nil (some Tryz.f156) .nil) (some Tryz.f92) .nil) (some Tryz.f60) (.node .nil (some Tryz.f124) .nil))))) none (.node (.node (.node (.node (.node (.node .nil (some Tryz.f130) .nil) (some Tryz.f66) .nil) (some Tryz.f34) (.node .nil (some Tryz.f98) .nil)) (some Tryz.f18) (.node (.node (.node .nil (some Tryz.f146) .nil) (some Tryz.f82) .nil) (some Tryz.f50) (.node .nil (some Tryz.f114) .nil))) (some Tryz.f10) (.node (.node (.node (.node .nil (some Tryz.f138) .nil) (some Tryz.f74) .nil) (some Tryz.f42) (.node .nil (some Tryz.f106) .nil)) (some Tryz.f26) (.node (.node (.node .nil (some Tryz.f154) .nil) (some Tryz.f90) .nil) (some Tryz.f58) (.node .nil (some Tryz.f122) .nil)))) (some Tryz.f6) (.node (.node (.node (.node (.node .nil (some Tryz.f134) .nil) (some Tryz.f70) .nil) (some Tryz.f38) (.node .nil (some Tryz.f102) .nil)) (some Tryz.f22) (.node (.node (.node .nil (some Tryz.f150) .nil) (some Tryz.f86) .nil) (some Tryz.f54) (.node .nil (some Tryz.f118) .nil))) (some Tryz.f14) (.node (.node (.node (.node .nil (some Tryz.f142) .nil) (some Tryz.f78) .nil) (some Tryz.f46) (.node .nil (some Tryz.f110) .nil)) (some Tryz.f30) (.node (.node (.node .nil (some Tryz.f158) .nil) (some Tryz.f94) .nil) (some Tryz.f62) (.node .nil (some Tryz.f126) .nil)))))))
noncomputable def look : Look := { fn := fun f => lookT.get f }
theorem lookT_ok : Bt.A (fun f fn => Tryz.prog.funcs[f]? = some fn) lookT := ⟨nna,⟨nna,⟨sma fun3,⟨sma fun7,⟨sma fun15,⟨sma fun31,⟨sma fun63,⟨sma fun127,trivial,trivial⟩,trivial⟩,⟨sma fun95,⟨sma fun159,trivial,trivial⟩,trivial⟩⟩,⟨sma fun47,⟨sma fun79,⟨sma fun143,trivial,trivial⟩,trivial⟩,⟨sma fun111,trivial,trivial⟩⟩⟩,⟨sma fun23,⟨sma fun39,⟨sma fun71,⟨sma fun135,trivial,trivial⟩,trivial⟩,⟨sma fun103,trivial,trivial⟩⟩,⟨sma fun55,⟨sma fun87,⟨sma fun151,trivial,trivial⟩,trivial⟩,⟨sma fun119,trivial,trivial⟩⟩⟩⟩,⟨sma fun11,⟨sma fun19,⟨sma fun35,⟨sma fun67,⟨sma fun131,trivial,trivial⟩,trivial⟩,⟨sma fun99,trivial,trivial⟩⟩,⟨sma fun51,⟨sma fun83,⟨sma fun147,trivial,trivial⟩,trivial⟩,⟨sma fun115,trivial,trivial⟩⟩⟩,⟨sma fun27,⟨sma fun43,⟨sma fun75,⟨sma fun139,trivial,trivial⟩,trivial⟩,⟨sma fun107,trivial,trivial⟩⟩,⟨sma fun59,⟨sma fun91,⟨sma fun155,trivial,trivial⟩,trivial⟩,⟨sma fun123,trivial,trivial⟩⟩⟩⟩⟩,⟨sma fun5,⟨sma fun9,⟨sma fun17,⟨sma fun33,⟨sma fun65,⟨sma fun129,trivial,trivial⟩,trivial⟩,⟨sma fun97,⟨sma fun161,trivial,trivial⟩,trivial⟩⟩,⟨sma fun49,⟨sma fun81,⟨sma fun145,trivial,trivial⟩,trivial⟩,⟨sma fun113,trivial,trivial⟩⟩⟩,⟨sma fun25,⟨sma fun41,⟨sma fun73,⟨sma fun137,trivial,trivial⟩,trivial⟩,⟨sma fun105,trivial,trivial⟩⟩,⟨sma fun57,⟨sma fun89,⟨sma fun153,trivial,trivial⟩,trivial⟩,⟨sma fun121,trivial,trivial⟩⟩⟩⟩,⟨sma fun13,⟨sma fun21,⟨sma fun37,⟨sma fun69,⟨sma fun133,trivial,trivial⟩,trivial⟩,⟨sma fun101,trivial,trivial⟩⟩,⟨sma fun53,⟨sma fun85,⟨sma fun149,trivial,trivial⟩,trivial⟩,⟨sma fun117,trivial,trivial⟩⟩⟩,⟨sma fun29,⟨sma fun45,⟨sma fun77,⟨sma fun141,trivial,trivial⟩,trivial⟩,⟨sma fun109,trivial,trivial⟩⟩,⟨sma fun61,⟨sma fun93,⟨sma fun157,trivial,trivial⟩,trivial⟩,⟨sma fun125,trivial,trivial⟩⟩⟩⟩⟩⟩,⟨nna,⟨sma fun4,⟨sma fun8,⟨sma fun16,⟨sma fun32,⟨sma fun64,⟨sma fun128,trivial,trivial⟩,trivial⟩,⟨sma fun96,⟨sma fun160,trivial,trivial⟩,trivial⟩⟩,⟨sma fun48,⟨sma fun80,⟨sma fun144,trivial,trivial⟩,trivial⟩,⟨sma fun112,trivial,trivial⟩⟩⟩,⟨sma fun24,⟨sma fun40,⟨sma fun72,⟨sma fun136,trivial,trivial⟩,trivial⟩,⟨sma fun104,trivial,trivial⟩⟩,⟨sma fun56,⟨sma fun88,⟨sma fun152,trivial,trivial⟩,trivial⟩,⟨sma fun120,trivial,trivial⟩⟩⟩⟩,⟨sma fun12,⟨sma fun20,⟨sma fun36,⟨sma fun68,⟨sma fun132,trivial,trivial⟩,trivial⟩,⟨sma fun100,trivial,trivial⟩⟩,⟨sma fun52,⟨sma fun84,⟨sma fun148,trivial,trivial⟩,trivial⟩,⟨sma fun116,trivial,trivial⟩⟩⟩,⟨sma fun28,⟨sma fun44,⟨sma fun76,⟨sma fun140,trivial,trivial⟩,trivial⟩,⟨sma fun108,trivial,trivial⟩⟩,⟨sma fun60,⟨sma fun92,⟨sma fun156,trivial,trivial⟩,trivial⟩,⟨sma fun124,trivial,trivial⟩⟩⟩⟩⟩,⟨sma fun6,⟨sma fun10,⟨sma fun18,⟨sma fun34,⟨sma fun66,⟨sma fun130,trivial,trivial⟩,trivial⟩,⟨sma fun98,trivial,trivial⟩⟩,⟨sma fun50,⟨sma fun82,⟨sma fun146,trivial,trivial⟩,trivial⟩,⟨sma fun114,trivial,trivial⟩⟩⟩,⟨sma fun26,⟨sma fun42,⟨sma fun74,⟨sma fun138,trivial,trivial⟩,trivial⟩,⟨sma fun106,trivial,trivial⟩⟩,⟨sma fun58,⟨sma fun90,⟨sma fun154,trivial,trivial⟩,trivial⟩,⟨sma fun122,trivial,trivial⟩⟩⟩⟩,⟨sma fun14,⟨sma fun22,⟨sma fun38,⟨sma fun70,⟨sma fun134,trivial,trivial⟩,trivial⟩,⟨sma fun102,trivial,trivial⟩⟩,⟨sma fun54,⟨sma fun86,⟨sma fun150,trivial,trivial⟩,trivial⟩,⟨sma fun118,trivial,trivial⟩⟩⟩,⟨sma fun30,⟨sma fun46,⟨sma fun78,⟨sma fun142,trivial,trivial⟩,trivial⟩,⟨sma fun110,trivial,trivial⟩⟩,⟨sma fun62,⟨sma fun94,⟨sma fun158,trivial,trivial⟩,trivial⟩,⟨sma fun126,trivial,trivial⟩⟩⟩⟩⟩⟩⟩
theorem look_ok : LookOK Tryz.prog look := ⟨fun f fn h => Bt.A_get lookT_ok h,(fun _ _ _ h => by cases h),(fun _ _ _ h => by cases h)⟩
theorem mix : Tryz.prog.follows .mixedOrders = true := by kernel_rfl
end Cp
namespace Cp
open Go Go.Proofs
instance : Tb Tryz.prog tab := ⟨tabOK,mix⟩
@[go_sem] theorem tab_1 : tab 1 = some ⟨.func,1,8,.nilf,false⟩ := rfl
@[go_sem] theorem tab_2 : tab 2 = some ⟨.int .i64,1,8,.int .i64 0,false⟩ := rfl
@[go_sem] theorem tab_3 : tab 3 = some ⟨.int .i64,1,8,.int .i64 0,false⟩ := rfl
@[go_sem] theorem tab_4 : tab 4 = some ⟨.bool,1,1,.bool false,false⟩ := rfl
@[go_sem] theorem tab_5 : tab 5 = some ⟨.int .u8,1,1,.int .u8 0,false⟩ := rfl
@[go_sem] theorem tab_6 : tab 6 = some ⟨.int .u8,1,1,.int .u8 0,false⟩ := rfl
@[go_sem] theorem tab_7 : tab 7 = some ⟨.struct [(0,2),(1,3),(2,4),(3,6)],4,24,.agg [.int .i64 0,.int .i64 0,.bool false,.int .u8 0],false⟩ := rfl
@[go_sem] theorem tab_8 : tab 8 = some ⟨.struct [(0,2),(1,3),(2,4),(3,6)],4,24,.agg [.int .i64 0,.int .i64 0,.bool false,.int .u8 0],false⟩ := rfl
@[go_sem] theorem tab_9 : tab 9 = some ⟨.str,1,16,.str ByteArray.empty,false⟩ := rfl
@[go_sem] theorem tab_12 : tab 12 = some ⟨.int .u64,1,8,.int .u64 0,false⟩ := rfl
@[go_sem] theorem tab_13 : tab 13 = some ⟨.struct [(0,9),(1,12)],2,24,.agg [.str ByteArray.empty,.int .u64 0],false⟩ := rfl
@[go_sem] theorem tab_14 : tab 14 = some ⟨.struct [(0,9),(1,12)],2,24,.agg [.str ByteArray.empty,.int .u64 0],false⟩ := rfl
@[go_sem] theorem tab_15 : tab 15 = some ⟨.ptr,1,8,.nilp,false⟩ := rfl
@[go_sem] theorem tab_16 : tab 16 = some ⟨.ptr,1,8,.nilp,false⟩ := rfl
@[go_sem] theorem tab_17 : tab 17 = some ⟨.ptr,1,8,.nilp,false⟩ := rfl
@[go_sem] theorem tab_18 : tab 18 = some ⟨.struct [(0,17)],1,8,.agg [.nilp],false⟩ := rfl
@[go_sem] theorem tab_19 : tab 19 = some ⟨.struct [(0,17)],1,8,.agg [.nilp],false⟩ := rfl
@[go_sem] theorem tab_20 : tab 20 = some ⟨.iface,1,16,.nili,false⟩ := rfl
@[go_sem] theorem tab_22 : tab 22 = some ⟨.slice 139,1,24,.nils,false⟩ := rfl
@[go_sem] theorem tab_23 : tab 23 = some ⟨.slice 136,1,24,.nils,false⟩ := rfl
@[go_sem] theorem tab_24 : tab 24 = some ⟨.slice 126,1,24,.nils,false⟩ := rfl
@[go_sem] theorem tab_25 : tab 25 = some ⟨.struct [(0,3),(1,3)],2,16,.agg [.int .i64 0,.int .i64 0],true⟩ := rfl
@[go_sem] theorem tab_26 : tab 26 = some ⟨.struct [(0,3),(1,3)],2,16,.agg [.int .i64 0,.int .i64 0],true⟩ := rfl
@[go_sem] theorem tab_28 : tab 28 = some ⟨.struct [(0,3),(1,22),(2,23),(3,24),(4,26)],6,96,.agg [.int .i64 0,.nils,.nils,.nils,.int .i64 0,.int .i64 0],false⟩ := rfl
@[go_sem] theorem tab_29 : tab 29 = some ⟨.slice 66,1,24,.nils,false⟩ := rfl
@[go_sem] theorem tab_30 : tab 30 = some ⟨.struct [(0,29),(1,3),(2,3),(3,26),(5,3)],6,64,.agg [.nils,.int .i64 0,.int .i64 0,.int .i64 0,.int .i64 0,.int .i64 0],false⟩ := rfl
@[go_sem] theorem tab_31 : tab 31 = some ⟨.struct [(0,29),(1,3),(2,3),(3,26),(5,3)],6,64,.agg [.nils,.int .i64 0,.int .i64 0,.int .i64 0,.int .i64 0,.int .i64 0],false⟩ := rfl
@[go_sem] theorem tab_32 : tab 32 = some ⟨.array 6 3,6,48,.agg [.int .i64 0,.int .i64 0,.int .i64 0,.int .i64 0,.int .i64 0,.int .i64 0],true⟩ := rfl
@[go_sem] theorem tab_33 : tab 33 = some ⟨.slice 70,1,24,.nils,false⟩ := rfl
@[go_sem] theorem tab_35 : tab 35 = some ⟨.struct [(0,3),(1,28),(7,31),(13,26),(15,3),(16,32),(22,33)],23,264,.agg [.int .i64 0,.int .i64 0,.nils,.nils,.nils,.int .i64 0,.int .i64 0,.nils,.int .i64 0,.int .i64 0,.int .i64 0,.int .i64 0,.int .i64 0,.int .i64 0,.int .i64 0,.int .i64 0,.int .i64 0,.int .i64 0,.int .i64 0,.int .i64 0,.int .i64 0,.int .i64 0,.nils],false⟩ := rfl
@[go_sem] theorem tab_38 : tab 38 = some ⟨.int .i64,1,8,.int .i64 0,false⟩ := rfl
@[go_sem] theorem tab_40 : tab 40 = some ⟨.func,1,8,.nilf,false⟩ := rfl
@[go_sem] theorem tab_42 : tab 42 = some ⟨.func,1,8,.nilf,false⟩ := rfl
@[go_sem] theorem tab_43 : tab 43 = some ⟨.slice 5,1,24,.nils,false⟩ := rfl
@[go_sem] theorem tab_45 : tab 45 = some ⟨.func,1,8,.nilf,false⟩ := rfl
@[go_sem] theorem tab_48 : tab 48 = some ⟨.func,1,8,.nilf,false⟩ := rfl
@[go_sem] theorem tab_49 : tab 49 = some ⟨.func,1,8,.nilf,false⟩ := rfl
@[go_sem] theorem tab_50 : tab 50 = some ⟨.func,1,8,.nilf,false⟩ := rfl
@[go_sem] theorem tab_53 : tab 53 = some ⟨.struct [(0,5),(1,26)],3,24,.agg [.int .u8 0,.int .i64 0,.int .i64 0],true⟩ := rfl
@[go_sem] theorem tab_57 : tab 57 = some ⟨.func,1,8,.nilf,false⟩ := rfl
@[go_sem] theorem tab_58 : tab 58 = some ⟨.func,1,8,.nilf,false⟩ := rfl
@[go_sem] theorem tab_60 : tab 60 = some ⟨.func,1,8,.nilf,false⟩ := rfl
@[go_sem] theorem tab_61 : tab 61 = some ⟨.func,1,8,.nilf,false⟩ := rfl
@[go_sem] theorem tab_62 : tab 62 = some ⟨.func,1,8,.nilf,false⟩ := rfl
@[go_sem] theorem tab_63 : tab 63 = some ⟨.slice 122,1,24,.nils,false⟩ := rfl
@[go_sem] theorem tab_64 : tab 64 = some ⟨.ptr,1,8,.nilp,false⟩ := rfl
@[go_sem] theorem tab_65 : tab 65 = some ⟨.struct [(0,3),(1,3)],2,16,.agg [.int .i64 0,.int .i64 0],true⟩ := rfl
@[go_sem] theorem tab_66 : tab 66 = some ⟨.struct [(0,3),(1,3)],2,16,.agg [.int .i64 0,.int .i64 0],true⟩ := rfl
@[go_sem] theorem tab_67 : tab 67 = some ⟨.func,1,8,.nilf,false⟩ := rfl
@[go_sem] theorem tab_68 : tab 68 = some ⟨.func,1,8,.nilf,false⟩ := rfl
@[go_sem] theorem tab_69 : tab 69 = some ⟨.struct [(0,3),(1,5),(2,3),(3,26)],5,40,.agg [.int .i64 0,.int .u8 0,.int .i64 0,.int .i64 0,.int .i64 0],true⟩ := rfl
@[go_sem] theorem tab_70 : tab 70 = some ⟨.struct [(0,3),(1,5),(2,3),(3,26)],5,40,.agg [.int .i64 0,.int .u8 0,.int .i64 0,.int .i64 0,.int .i64 0],true⟩ := rfl
@[go_sem] theorem tab_71 : tab 71 = some ⟨.func,1,8,.nilf,false⟩ := rfl
@[go_sem] theorem tab_75 : tab 75 = some ⟨.slice 3,1,24,.nils,false⟩ := rfl
@[go_sem] theorem tab_76 : tab 76 = some ⟨.func,1,8,.nilf,false⟩ := rfl
@[go_sem] theorem tab_77 : tab 77 = some ⟨.map 5 4,1,8,.nilm,false⟩ := rfl
@[go_sem] theorem tab_79 : tab 79 = some ⟨.func,1,8,.nilf,false⟩ := rfl
@[go_sem] theorem tab_80 : tab 80 = some ⟨.func,1,8,.nilf,false⟩ := rfl
@[go_sem] theorem tab_81 : tab 81 = some ⟨.func,1,8,.nilf,false⟩ := rfl
@[go_sem] theorem tab_82 : tab 82 = some ⟨.func,1,8,.nilf,false⟩ := rfl
@[go_sem] theorem tab_83 : tab 83 = some ⟨.ptr,1,8,.nilp,false⟩ := rfl
@[go_sem] theorem tab_85 : tab 85 = some ⟨.func,1,8,.nilf,false⟩ := rfl
@[go_sem] theorem tab_86 : tab 86 = some ⟨.iface,1,16,.nili,false⟩ := rfl
@[go_sem] theorem tab_87 : tab 87 = some ⟨.iface,1,16,.nili,false⟩ := rfl
@[go_sem] theorem tab_88 : tab 88 = some ⟨.func,1,8,.nilf,false⟩ := rfl
@[go_sem] theorem tab_89 : tab 89 = some ⟨.func,1,8,.nilf,false⟩ := rfl
@[go_sem] theorem tab_91 : tab 91 = some ⟨.func,1,8,.nilf,false⟩ := rfl
@[go_sem] theorem tab_92 : tab 92 = some ⟨.map 131 3,1,8,.nilm,false⟩ := rfl
@[go_sem] theorem tab_93 : tab 93 = some ⟨.struct [(0,35),(23,92)],24,272,.agg [.int .i64 0,.int .i64 0,.nils,.nils,.nils,.int .i64 0,.int .i64 0,.nils,.int .i64 0,.int .i64 0,.int .i64 0,.int .i64 0,.int .i64 0,.int .i64 0,.int .i64 0,.int .i64 0,.int .i64 0,.int .i64 0,.int .i64 0,.int .i64 0,.int .i64 0,.int .i64 0,.nils,.nilm],false⟩ := rfl
@[go_sem] theorem tab_94 : tab 94 = some ⟨.struct [(0,35),(23,92)],24,272,.agg [.int .i64 0,.int .i64 0,.nils,.nils,.nils,.int .i64 0,.int .i64 0,.nils,.int .i64 0,.int .i64 0,.int .i64 0,.int .i64 0,.int .i64 0,.int .i64 0,.int .i64 0,.int .i64 0,.int .i64 0,.int .i64 0,.int .i64 0,.int .i64 0,.int .i64 0,.int .i64 0,.nils,.nilm],false⟩ := rfl
@[go_sem] theorem tab_96 : tab 96 = some ⟨.func,1,8,.nilf,false⟩ := rfl
@[go_sem] theorem tab_101 : tab 101 = some ⟨.func,1,8,.nilf,false⟩ := rfl
@[go_sem] theorem tab_102 : tab 102 = some ⟨.func,1,8,.nilf,false⟩ := rfl
@[go_sem] theorem tab_103 : tab 103 = some ⟨.struct [(0,26),(2,4)],3,24,.agg [.int .i64 0,.int .i64 0,.bool false],true⟩ := rfl
@[go_sem] theorem tab_104 : tab 104 = some ⟨.struct [(0,26),(2,4)],3,24,.agg [.int .i64 0,.int .i64 0,.bool false],true⟩ := rfl
@[go_sem] theorem tab_106 : tab 106 = some ⟨.func,1,8,.nilf,false⟩ := rfl
@[go_sem] theorem tab_108 : tab 108 = some ⟨.func,1,8,.nilf,false⟩ := rfl
@[go_sem] theorem tab_109 : tab 109 = some ⟨.func,1,8,.nilf,false⟩ := rfl
@[go_sem] theorem tab_110 : tab 110 = some ⟨.func,1,8,.nilf,false⟩ := rfl
@[go_sem] theorem tab_111 : tab 111 = some ⟨.func,1,8,.nilf,false⟩ := rfl
@[go_sem] theorem tab_112 : tab 112 = some ⟨.func,1,8,.nilf,false⟩ := rfl
@[go_sem] theorem tab_113 : tab 113 = some ⟨.func,1,8,.nilf,false⟩ := rfl
@[go_sem] theorem tab_114 : tab 114 = some ⟨.func,1,8,.nilf,false⟩ := rfl
@[go_sem] theorem tab_116 : tab 116 = some ⟨.slice 120,1,24,.nils,false⟩ := rfl
@[go_sem] theorem tab_117 : tab 117 = some ⟨.func,1,8,.nilf,false⟩ := rfl
@[go_sem] theorem tab_118 : tab 118 = some ⟨.func,1,8,.nilf,false⟩ := rfl
@[go_sem] theorem tab_119 : tab 119 = some ⟨.struct [(0,3),(1,5),(2,3),(3,5)],4,32,.agg [.int .i64 0,.int .u8 0,.int .i64 0,.int .u8 0],true⟩ := rfl
@[go_sem] theorem tab_120 : tab 120 = some ⟨.struct [(0,3),(1,5),(2,3),(3,5)],4,32,.agg [.int .i64 0,.int .u8 0,.int .i64 0,.int .u8 0],true⟩ := rfl
@[go_sem] theorem tab_121 : tab 121 = some ⟨.func,1,8,.nilf,false⟩ := rfl
@[go_sem] theorem tab_122 : tab 122 = some ⟨.int .u32,1,4,.int .u32 0,false⟩ := rfl
@[go_sem] theorem tab_123 : tab 123 = some ⟨.func,1,8,.nilf,false⟩ := rfl
@[go_sem] theorem tab_124 : tab 124 = some ⟨.func,1,8,.nilf,false⟩ := rfl
@[go_sem] theorem tab_125 : tab 125 = some ⟨.struct [(0,75),(1,3)],2,32,.agg [.nils,.int .i64 0],false⟩ := rfl
@[go_sem] theorem tab_126 : tab 126 = some ⟨.struct [(0,75),(1,3)],2,32,.agg [.nils,.int .i64 0],false⟩ := rfl
@[go_sem] theorem tab_127 : tab 127 = some ⟨.slice 87,1,24,.nils,false⟩ := rfl
@[go_sem] theorem tab_128 : tab 128 = some ⟨.func,1,8,.nilf,false⟩ := rfl
@[go_sem] theorem tab_129 : tab 129 = some ⟨.func,1,8,.nilf,false⟩ := rfl
@[go_sem] theorem tab_130 : tab 130 = some ⟨.struct [(0,5),(1,3)],2,16,.agg [.int .u8 0,.int .i64 0],true⟩ := rfl
@[go_sem] theorem tab_131 : tab 131 = some ⟨.struct [(0,5),(1,3)],2,16,.agg [.int .u8 0,.int .i64 0],true⟩ := rfl
@[go_sem] theorem tab_133 : tab 133 = some ⟨.struct [],0,0,.agg [],true⟩ := rfl
@[go_sem] theorem tab_134 : tab 134 = some ⟨.func,1,8,.nilf,false⟩ := rfl
@[go_sem] theorem tab_135 : tab 135 = some ⟨.struct [(0,3),(1,26),(3,26),(5,3)],6,48,.agg [.int .i64 0,.int .i64 0,.int .i64 0,.int .i64 0,.int .i64 0,.int .i64 0],true⟩ := rfl
@[go_sem] theorem tab_136 : tab 136 = some ⟨.struct [(0,3),(1,26),(3,26),(5,3)],6,48,.agg [.int .i64 0,.int .i64 0,.int .i64 0,.int .i64 0,.int .i64 0,.int .i64 0],true⟩ := rfl
@[go_sem] theorem tab_138 : tab 138 = some ⟨.struct [(0,3),(1,3)],2,16,.agg [.int .i64 0,.int .i64 0],true⟩ := rfl
@[go_sem] theorem tab_139 : tab 139 = some ⟨.struct [(0,3),(1,3)],2,16,.agg [.int .i64 0,.int .i64 0],true⟩ := rfl
@[go_sem] theorem tab_140 : tab 140 = some ⟨.func,1,8,.nilf,false⟩ := rfl
@[go_sem] theorem tab_144 : tab 144 = some ⟨.ptr,1,8,.nilp,false⟩ := rfl
@[go_sem] theorem tab_146 : tab 146 = some ⟨.func,1,8,.nilf,false⟩ := rfl
@[go_sem] theorem tab_147 : tab 147 = some ⟨.func,1,8,.nilf,false⟩ := rfl
@[go_sem] theorem tab_150 : tab 150 = some ⟨.struct [(0,3),(1,3),(2,26)],4,32,.agg [.int .i64 0,.int .i64 0,.int .i64 0,.int .i64 0],true⟩ := rfl
@[go_sem] theorem tab_151 : tab 151 = some ⟨.slice 155,1,24,.nils,false⟩ := rfl
@[go_sem] theorem tab_153 : tab 153 = some ⟨.func,1,8,.nilf,false⟩ := rfl
@[go_sem] theorem tab_155 : tab 155 = some ⟨.struct [(0,5),(1,153)],2,16,.agg [.int .u8 0,.nilf],false⟩ := rfl
@[go_sem] theorem tab_156 : tab 156 = some ⟨.map 3 5,1,8,.nilm,false⟩ := rfl
@[go_sem] theorem tab_157 : tab 157 = some ⟨.func,1,8,.nilf,false⟩ := rfl
@[go_sem] theorem tab_158 : tab 158 = some ⟨.func,1,8,.nilf,false⟩ := rfl
@[go_sem] theorem tab_159 : tab 159 = some ⟨.func,1,8,.nilf,false⟩ := rfl
@[go_sem] theorem tab_160 : tab 160 = some ⟨.func,1,8,.nilf,false⟩ := rfl
@[go_sem] theorem tab_161 : tab 161 = some ⟨.func,1,8,.nilf,false⟩ := rfl
@[go_sem] theorem tab_162 : tab 162 = some ⟨.func,1,8,.nilf,false⟩ := rfl
@[go_sem] theorem tab_164 : tab 164 = some ⟨.func,1,8,.nilf,false⟩ := rfl
@[go_sem] theorem tab_165 : tab 165 = some ⟨.struct [(0,164)],1,8,.agg [.nilf],false⟩ := rfl
@[go_sem] theorem tab_166 : tab 166 = some ⟨.array 2 165,2,16,.agg [.nilf,.nilf],false⟩ := rfl
@[go_sem] theorem tab_167 : tab 167 = some ⟨.slice 104,1,24,.nils,false⟩ := rfl
@[go_sem] theorem tab_176 : tab 176 = some ⟨.array 61 26,122,976,.agg [.int .i64 0,.int .i64 0,.int .i64 0,.int .i64 0,.int .i64 0,.int .i64 0,.int .i64 0,.int .i64 0,.int .i64 0,.int .i64 0,.int .i64 0,.int .i64 0,.int .i64 0,.int .i64 0,.int .i64 0,.int .i64 0,.int .i64 0,.int .i64 0,.int .i64 0,.int .i64 0,.int .i64 0,.int .i64 0,.int .i64 0,.int .i64 0,.int .i64 0,.int .i64 0,.int .i64 0,.int .i64 0,.int .i64 0,.int .i64 0,.int .i64 0,.int .i64 0,.int .i64 0,.int .i64 0,.int .i64 0,.int .i64 0,.int .i64 0,.int .i64 0,.int .i64 0,.int .i64 0,.int .i64 0,.int .i64 0,.int .i64 0,.int .i64 0,.int .i64 0,.int .i64 0,.int .i64 0,.int .i64 0,.int .i64 0,.int .i64 0,.int .i64 0,.int .i64 0,.int .i64 0,.int .i64 0,.int .i64 0,.int .i64 0,.int .i64 0,.int .i64 0,.int .i64 0,.int .i64 0,.int .i64 0,.int .i64 0,.int .i64 0,.int .i64 0,.int .i64 0,.int .i64 0,.int .i64 0,.int .i64 0,.int .i64 0,.int .i64 0,.int .i64 0,.int .i64 0,.int .i64 0,.int .i64 0,.int .i64 0,.int .i64 0,.int .i64 0,.int .i64 0,.int .i64 0,.int .i64 0,.int .i64 0,.int .i64 0,.int .i64 0,.int .i64 0,.int .i64 0,.int .i64 0,.int .i64 0,.int .i64 0,.int .i64 0,.int .i64 0,.int .i64 0,.int .i64 0,.int .i64 0,.int .i64 0,.int .i64 0,.int .i64 0,.int .i64 0,.int .i64 0,.int .i64 0,.int .i64 0,.int .i64 0,.int .i64 0,.int .i64 0,.int .i64 0,.int .i64 0,.int .i64 0,.int .i64 0,.int .i64 0,.int .i64 0,.int .i64 0,.int .i64 0,.int .i64 0,.int .i64 0,.int .i64 0,.int .i64 0,.int .i64 0,.int .i64 0,.int .i64 0,.int .i64 0,.int .i64 0,.int .i64 0,.int .i64 0],true⟩ := rfl
@[go_sem] theorem tab_177 : tab 177 = some ⟨.array 61 4,61,61,.agg [.bool false,.bool false,.bool false,.bool false,.bool false,.bool false,.bool false,.bool false,.bool false,.bool false,.bool false,.bool false,.bool false,.bool false,.bool false,.bool false,.bool false,.bool false,.bool false,.bool false,.bool false,.bool false,.bool false,.bool false,.bool false,.bool false,.bool false,.bool false,.bool false,.bool false,.bool false,.bool false,.bool false,.bool false,.bool false,.bool false,.bool false,.bool false,.bool false,.bool false,.bool false,.bool false,.bool false,.bool false,.bool false,.bool false,.bool false,.bool false,.bool false,.bool false,.bool false,.bool false,.bool false,.bool false,.bool false,.bool false,.bool false,.bool false,.bool false,.bool false,.bool false],true⟩ := rfl
@[go_sem] theorem tab_179 : tab 179 = some ⟨.struct [(0,28),(6,176),(128,177)],189,1136,.agg [.int .i64 0,.nils,.nils,.nils,.int .i64 0,.int .i64 0,.int .i64 0,.int .i64 0,.int .i64 0,.int .i64 0,.int .i64 0,.int .i64 0,.int .i64 0,.int .i64 0,.int .i64 0,.int .i64 0,.int .i64 0,.int .i64 0,.int .i64 0,.int .i64 0,.int .i64 0,.int .i64 0,.int .i64 0,.int .i64 0,.int .i64 0,.int .i64 0,.int .i64 0,.int .i64 0,.int .i64 0,.int .i64 0,.int .i64 0,.int .i64 0,.int .i64 0,.int .i64 0,.int .i64 0,.int .i64 0,.int .i64 0,.int .i64 0,.int .i64 0,.int .i64 0,.int .i64 0,.int .i64 0,.int .i64 0,.int .i64 0,.int .i64 0,.int .i64 0,.int .i64 0,.int .i64 0,.int .i64 0,.int .i64 0,.int .i64 0,.int .i64 0,.int .i64 0,.int .i64 0,.int .i64 0,.int .i64 0,.int .i64 0,.int .i64 0,.int .i64 0,.int .i64 0,.int .i64 0,.int .i64 0,.int .i64 0,.int .i64 0,.int .i64 0,.int .i64 0,.int .i64 0,.int .i64 0,.int .i64 0,.int .i64 0,.int .i64 0,.int .i64 0,.int .i64 0,.int .i64 0,.int .i64 0,.int .i64 0,.int .i64 0,.int .i64 0,.int .i64 0,.int .i64 0,.int .i64 0,.int .i64 0,.int .i64 0,.int .i64 0,.int .i64 0,.int .i64 0,.int .i64 0,.int .i64 0,.int .i64 0,.int .i64 0,.int .i64 0,.int .i64 0,.int .i64 0,.int .i64 0,.int .i64 0,.int .i64 0,.int .i64 0,.int .i64 0,.int .i64 0,.int .i64 0,.int .i64 0,.int .i64 0,.int .i64 0,.int .i64 0,.int .i64 0,.int .i64 0,.int .i64 0,.int .i64 0,.int .i64 0,.int .i64 0,.int .i64 0,.int .i64 0,.int .i64 0,.int .i64 0,.int .i64 0,.int .i64 0,.int .i64 0,.int .i64 0,.int .i64 0,.int .i64 0,.int .i64 0,.int .i64 0,.int .i64 0,.int .i64 0,.int .i64 0,.int .i64 0,.int .i64 0,.int .i64 0,.bool false,.bool false,.bool false,.bool false,.bool false,.bool false,.bool false,.bool false,.bool false,.bool false,.bool false,.bool false,.bool false,.bool false,.bool false,.bool false,.bool false,.bool false,.bool false,.bool false,.bool false,.bool false,.bool false,.bool false,.bool false,.bool false,.bool false,.bool false,.bool false,.bool false,.bool false,.bool false,.bool false,.bool false,.bool false,.bool false,.bool false,.bool false,.bool false,.bool false,.bool false,.bool false,.bool false,.bool false,.bool false,.bool false,.bool false,.bool false,.bool false,.bool false,.bool false,.bool false,.bool false,.bool false,.bool false,.bool false,.bool false,.bool false,.bool false,.bool false,.bool false],false⟩ := rfl
@[go_sem] theorem tab_180 : tab 180 = some ⟨.map 3 4,1,8,.nilm,false⟩ := rfl
@[go_sem] theorem tab_184 : tab 184 = some ⟨.func,1,8,.nilf,false⟩ := rfl
@[go_sem] theorem tab_186 : tab 186 = some ⟨.func,1,8,.nilf,false⟩ := rfl
@[go_sem] theorem tab_190 : tab 190 = some ⟨.int .u64,1,8,.int .u64 0,false⟩ := rfl
@[go_sem] theorem tab_191 : tab 191 = some ⟨.slice 159,1,24,.nils,false⟩ := rfl
@[go_sem] theorem tab_193 : tab 193 = some ⟨.func,1,8,.nilf,false⟩ := rfl
@[go_sem] theorem tab_195 : tab 195 = some ⟨.slice 26,1,24,.nils,false⟩ := rfl
@[go_sem] theorem tab_196 : tab 196 = some ⟨.func,1,8,.nilf,false⟩ := rfl
@[go_sem] theorem tab_198 : tab 198 = some ⟨.func,1,8,.nilf,false⟩ := rfl
@[go_sem] theorem tab_200 : tab 200 = some ⟨.int .i64,1,8,.int .i64 0,false⟩ := rfl
@[go_sem] theorem tab_208 : tab 208 = some ⟨.int .u64,1,8,.int .u64 0,false⟩ := rfl
@[go_sem] theorem tab_209 : tab 209 = some ⟨.int .u64,1,8,.int .u64 0,false⟩ := rfl
@[go_sem] theorem tab_213 : tab 213 = some ⟨.ptr,1,8,.nilp,false⟩ := rfl
end Cp
namespace Cp
open Go
structure Span where
 lo : Int
 hi : Int
 deriving DecidableEq
structure Pt where
 m : Int
 d : Int
 deriving DecidableEq
structure Cpl where
 id : Int
 err : Span
 lag : Span
 brk : Int
 deriving DecidableEq
structure RowT where
 deg : List Int
 press : Int
 deriving DecidableEq
structure RunT where
 id : Int
 curve : List Pt
 cpls : List Cpl
 rows : List RowT
 gauge : Span
 deriving DecidableEq
structure StepT where
 frm : Int
 part : Int
 deriving DecidableEq
structure RulesT where
 steps : List StepT
 single : Int
 sfrom : Int
 press : Span
 pfrom : Int
 deriving DecidableEq
def A6 (s : Span) : Val := .agg [.int .i64 s.lo,.int .i64 s.hi]
def cPt (p : Pt) : List Val := [.int .i64 p.m,.int .i64 p.d]
def cCpl (c : Cpl) : List Val := [.int .i64 c.id,.int .i64 c.err.lo,.int .i64 c.err.hi,.int .i64 c.lag.lo,.int .i64 c.lag.hi,.int .i64 c.brk]
def cRow (r : RowT) : List Val := [.lst 1 (Cv r.deg),.int .i64 r.press]
def cStep (s : StepT) : List Val := [.int .i64 s.frm,.int .i64 s.part]
def A7 (r : RunT) : List Val := [.int .i64 r.id,.lst 2 (r.curve.map cPt),.lst 6 (r.cpls.map cCpl),.lst 2 (r.rows.map cRow),.int .i64 r.gauge.lo,.int .i64 r.gauge.hi]
def A9 (r : RunT) : Val := .agg (A7 r)
def A5 (u : RulesT) : List Val := [.lst 2 (u.steps.map cStep),.int .i64 u.single,.int .i64 u.sfrom,.int .i64 u.press.lo,.int .i64 u.press.hi,.int .i64 u.pfrom]
def A1 (u : RulesT) : Val := .agg (A5 u)
@[go_sem] theorem S1 {l : List Pt} : noidss (l.map cPt) = true := Bl fun _ => rfl
@[go_sem] theorem Qu {l : List Cpl} : noidss (l.map cCpl) = true := Bl fun _ => rfl
@[go_sem] theorem PP {l : List RowT} : noidss (l.map cRow) = true := Bl fun r => by simp only [cRow,noids,noid,Qx,Bool.and_self]
@[go_sem] theorem Xz {l : List StepT} : noidss (l.map cStep) = true := Bl fun _ => rfl
@[go_sem] theorem Tt {H : Hp} {n : Nat} {l : List Pt} : ((l.map cPt).map fun es => es.map (fzd H (n + 1))) = l.map cPt := CF (fun _ => rfl) l
@[go_sem] theorem Rg {H : Hp} {n : Nat} {l : List Cpl} : ((l.map cCpl).map fun es => es.map (fzd H (n + 1))) = l.map cCpl := CF (fun _ => rfl) l
@[go_sem] theorem Y1 {H : Hp} {n : Nat} {l : List StepT} : ((l.map cStep).map fun es => es.map (fzd H (n + 1))) = l.map cStep := CF (fun _ => rfl) l
@[go_sem] theorem Sf {H : Hp} {n : Nat} {l : List RowT} : ((l.map cRow).map fun es => es.map (fzd H (n + 2))) = l.map cRow := CF (fun r => by
 simp only [cRow,List.map_cons,List.map_nil,JE,SH,Tz]) l
theorem Bg {α : Type} {l : List α} {k : Nat} (h : l.length ≤ k) : l.drop k = [] := List.drop_of_length_le h
def AY (a : Pt) : List Pt → Bool
 | [] => true
 | p :: l => decide (a.m + 1 ≤ p.m ∧ p.m ≤ 600 ∧ a.d ≤ p.d ∧ p.d ≤ 2000) && AY p l
def BX (l : List Pt) : Bool := decide (2 ≤ l.length ∧ l.length ≤ 10) && (match l with | [] => false | p :: _ => decide (p.m = 0)) && AY ⟨-1,0⟩ l
def G3 (a : Pt) : List Pt → Int → Int
 | [],_ => a.d
 | b :: l,m => if m < b.m then a.d + ((b.d - a.d) * (m - a.m)).tdiv (b.m - a.m) else G3 b l m
theorem E3 {l : List Pt} {p : Pt} (h : l[0]? = some p) : BX l = (decide (2 ≤ l.length ∧ l.length ≤ 10) && decide (p.m = 0) && AY ⟨-1,0⟩ l) := by
 cases l with
 | nil => cases h
 | cons q l => cases h; rfl
def Bv (l : List Pt) (m : Int) : Int := match l with | [] => 0 | p :: l => G3 p l m
def Gq (l : List Pt) : Int := (l.getLast?.map (·.m)).getD 0
end Cp
namespace Cp
open Go
theorem curveFrom_facts : ∀ (l : List Pt) (a : Pt),-1 ≤ a.m → 0 ≤ a.d → AY a l = true →
  (∀ (i : Nat) (p : Pt),l[i]? = some p → a.m < p.m ∧ a.d ≤ p.d ∧ p.m ≤ 600 ∧ p.d ≤ 2000) ∧ (∀ (i j : Nat) (p q : Pt),i < j → l[i]? = some p → l[j]? = some q → p.m < q.m ∧ p.d ≤ q.d)
 | [],a,_,_,_ => ⟨fun i p h => by simp at h,fun i j p q _ h => by simp at h⟩
 | b :: l,a,h1,h2,h => by
  simp only [AY,Bool.and_eq_true,decide_eq_true_eq] at h
  obtain ⟨hb,hl⟩ := h
  obtain ⟨f1,f2⟩ := curveFrom_facts l b (by omega) (by omega) hl
  refine ⟨fun i p hi => ?_,fun i j p q hij hi hj => ?_⟩
  ·cases i with
   | zero => simp at hi; subst hi; omega
   | succ i => have := f1 i p (by simpa using hi); omega
  ·cases j with
   | zero => omega
   | succ j =>
    cases i with
    | zero => simp at hi; subst hi; have := f1 j q (by simpa using hj); omega
    | succ i => exact f2 i j p q (by omega) (by simpa using hi) (by simpa using hj)
theorem Gg {l : List Pt} (h : AY ⟨-1,0⟩ l = false) : false = BX l := by unfold BX; rw [h]; simp
structure CurveF (l : List Pt) : Prop where
 len : 2 ≤ l.length ∧ l.length ≤ 10
 zero : ∃ p,l[0]? = some p ∧ p.m = 0
 all : ∀ (i : Nat) (p : Pt),l[i]? = some p → 0 ≤ p.m ∧ p.m ≤ 600 ∧ 0 ≤ p.d ∧ p.d ≤ 2000
 inc : ∀ (i j : Nat) (p q : Pt),i < j → l[i]? = some p → l[j]? = some q → p.m < q.m ∧ p.d ≤ q.d
theorem FG {l : List Pt} (h : BX l = true) : CurveF l := by
 cases l with
 | nil => simp [BX] at h
 | cons a l =>
  rw [E3 (p := a) rfl] at h
  simp only [Bool.and_eq_true,decide_eq_true_eq] at h
  obtain ⟨⟨h1,h2⟩,h3⟩ := h
  obtain ⟨f1,f2⟩ := curveFrom_facts _ _ (by simp) (by simp) h3
  exact ⟨h1,⟨a,rfl,h2⟩,fun i p hi => by have := f1 i p hi; simp at this; omega,f2⟩
def F5 (a b : Pt) (m : Int) : Int := a.d + ((b.d - a.d) * (m - a.m)).tdiv (b.m - a.m)
theorem degFrom_at : ∀ (l : List Pt) (a : Pt) (i : Nat) (b : Pt) (m : Int),(∀ (i j : Nat) (p q : Pt),i < j → (a :: l)[i]? = some p → (a :: l)[j]? = some q → p.m < q.m) →
  (∀ j p,j < i → (a :: l)[j]? = some p → p.m < m) → (a :: l)[i]? = some b → (b.m = m → G3 a l m = b.d) ∧ (∀ k c,i = k + 1 → (a :: l)[k]? = some c → m < b.m → G3 a l m = F5 c b m)
 | [],a,i,b,m,hs,hlt,hb => by
  cases i with
  | zero => simp at hb; subst hb; exact ⟨fun _ => rfl,fun k c h => by omega⟩
  | succ i => simp at hb
 | c :: l,a,i,b,m,hs,hlt,hb => by
  have ih := degFrom_at l c
  have hs' : ∀ (i j : Nat) (p q : Pt),i < j → (c :: l)[i]? = some p → (c :: l)[j]? = some q → p.m < q.m := fun i j p q hij hi hj => hs (i + 1) (j + 1) p q (by omega) (by simpa using hi) (by simpa using hj)
  have hac : a.m < c.m := hs 0 1 a c (by omega) rfl rfl
  cases i with
  | zero =>
   simp at hb; subst hb
   refine ⟨fun hm => ?_,fun k c h => by omega⟩
   simp only [G3]
   rw [if_pos (by omega)]
   have : m - a.m = 0 := by omega
   simp [this]
  | succ i =>
   have ham := hlt 0 a (by omega) rfl
   have hb' : (c :: l)[i]? = some b := by simpa using hb
   have hlt' : ∀ j p,j < i → (c :: l)[j]? = some p → p.m < m := fun j p hj hp => hlt (j + 1) p (by omega) (by simpa using hp)
   obtain ⟨q1,q2⟩ := ih i b m hs' hlt' hb'
   simp only [G3]
   by_cases hc : m < c.m
   ·rw [if_pos hc]
    cases i with
    | zero =>
     simp at hb'; subst hb'
     refine ⟨fun hm => by omega,fun k d hk hd _ => ?_⟩
     obtain rfl : k = 0 := by omega
     simp at hd; subst hd; rfl
    | succ i => have := hlt' 0 c (by omega) rfl; omega
   ·rw [if_neg hc]
    refine ⟨q1,fun k d hk hd hm => ?_⟩
    obtain rfl : k = i := by omega
    cases k with
    | zero => simp at hb'; subst hb'; omega
    | succ k => exact q2 k d rfl (by simpa using hd) hm
theorem I5 {l : List Pt} (hc : CurveF l) {i : Nat} {b : Pt} {m : Int} (hlt : ∀ j p,j < i → l[j]? = some p → p.m < m) (hb : l[i]? = some b) :
  (b.m = m → Bv l m = b.d) ∧ (∀ k c,i = k + 1 → l[k]? = some c → m < b.m → Bv l m = F5 c b m) := by
 cases l with
 | nil => simp at hb
 | cons a l => exact degFrom_at l a i b m (fun i j p q hij hi hj => (hc.inc i j p q hij hi hj).1) hlt hb
theorem Et {l : List Pt} {p : Pt} (h : l[l.length - 1]? = some p) : Gq l = p.m := by
 unfold Gq; rw [List.getLast?_eq_getElem?,h]; rfl
theorem Ej {a b : Pt} {m : Int} (ha : 0 ≤ a.m ∧ a.m ≤ 600 ∧ 0 ≤ a.d ∧ a.d ≤ 2000) (hb : 0 ≤ b.m ∧ b.m ≤ 600 ∧ 0 ≤ b.d ∧ b.d ≤ 2000) (hd : a.d ≤ b.d) (h1 : a.m ≤ m) (h2 : m < b.m) :
  (0 ≤ (b.d - a.d) * (m - a.m) ∧ (b.d - a.d) * (m - a.m) ≤ 1200000) ∧ (0 ≤ ((b.d - a.d) * (m - a.m)).tdiv (b.m - a.m) ∧ ((b.d - a.d) * (m - a.m)).tdiv (b.m - a.m) ≤ b.d - a.d) := by
 have e1 : 0 ≤ (b.d - a.d) * (m - a.m) := Int.mul_nonneg (by omega) (by omega)
 have e2 : (b.d - a.d) * (m - a.m) ≤ 2000 * 600 := Int.mul_le_mul (by omega) (by omega) (by omega) (by omega)
 rw [Int.tdiv_eq_ediv_of_nonneg e1]
 refine ⟨⟨e1,by omega⟩,Int.ediv_nonneg e1 (by omega),?_⟩
 refine Int.le_trans (Int.ediv_le_ediv (by omega) (Int.mul_le_mul_of_nonneg_left (show m - a.m ≤ b.m - a.m by omega) (show 0 ≤ b.d - a.d by omega))) ?_
 rw [Int.mul_ediv_cancel _ (by omega)]; exact Int.le_refl _
end Cp
namespace Cp
open Go
def Gu (last : Int) (c : Cpl) : Bool := decide ((last + 1 ≤ c.id ∧ c.id ≤ 9999) ∧ (-50 ≤ c.err.lo ∧ c.err.lo ≤ c.err.hi ∧ c.err.hi ≤ 50) ∧ (0 ≤ c.lag.lo ∧ c.lag.lo ≤ c.lag.hi ∧ c.lag.hi ≤ 3) ∧ 0 ≤ c.brk ∧ c.brk ≤ 600)
def Bi (last : Int) : List Cpl → Bool
 | [] => true
 | c :: l => Gu last c && Bi c.id l
def EL (l : List Int) : Bool := l.all fun d => decide (0 ≤ d ∧ d ≤ 2000)
def C8 (n : Nat) (r : RowT) : Bool := decide (r.deg.length = n ∧ -100 ≤ r.press ∧ r.press ≤ 100) && EL r.deg
def Ei (r : RunT) : Bool := decide ((0 ≤ r.id ∧ r.id ≤ 9999) ∧ (-20 ≤ r.gauge.lo ∧ r.gauge.lo ≤ r.gauge.hi ∧ r.gauge.hi ≤ 20) ∧ (1 ≤ r.cpls.length ∧ r.cpls.length ≤ 8) ∧ (1 ≤ r.rows.length ∧ r.rows.length ≤ 60 ∧ r.rows.length ≤ Gq r.curve))
def CK (r : RunT) : Bool := BX r.curve && Ei r && Bi (-1) r.cpls && r.rows.all (C8 r.cpls.length)
theorem ND {r : RunT} (h1 : BX r.curve = true) (h2 : Ei r = true) : CK r = (Bi (-1) r.cpls && r.rows.all (C8 r.cpls.length)) := by simp [CK,h1,h2]
theorem J5 {r : RunT} (h : BX r.curve = false) : CK r = false := by simp [CK,h]
theorem JP {r : RunT} (h : Ei r = false) : CK r = false := by simp [CK,h]
def De (last : Int) (s : StepT) : Bool := decide ((last + 1 ≤ s.frm ∧ s.frm ≤ 600) ∧ 0 ≤ s.part ∧ s.part ≤ 1000)
def Az (last : Int) : List StepT → Bool
 | [] => true
 | s :: l => De last s && Az s.frm l
def DJ (u : RulesT) : Bool := decide (u.steps.length ≤ 5 ∧ (0 ≤ u.single ∧ u.single ≤ 2000) ∧ (1 ≤ u.sfrom ∧ u.sfrom ≤ 600) ∧ (-100 ≤ u.press.lo ∧ u.press.lo ≤ u.press.hi ∧ u.press.hi ≤ 100) ∧ 1 ≤ u.pfrom ∧ u.pfrom ≤ 600)
def Bz (u : RulesT) : Bool := DJ u && Az 0 u.steps
structure RunB (r : RunT) : Prop where
 curve : r.curve.length ≤ 4611686018427387904
 cpls : r.cpls.length ≤ 4611686018427387904
 rows : r.rows.length ≤ 4611686018427387904
 degs : ∀ x ∈ r.rows,x.deg.length ≤ 4611686018427387904
structure RulesB (u : RulesT) : Prop where
 steps : u.steps.length ≤ 4611686018427387904
end Cp
