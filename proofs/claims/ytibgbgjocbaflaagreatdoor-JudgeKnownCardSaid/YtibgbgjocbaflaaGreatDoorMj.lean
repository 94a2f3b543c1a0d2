/- Calls of the program, evaluated: part 1. -/
import Derived.Test.YtibgbgjocbaflaaGreatDoorMh
namespace Go.VC.Tz
open Go Go.VC
theorem c411 : K.kchk xp [e15, e53, e54, e59, e63, e64, e162, e172, e189, e212, e213, e214, e216, e217, e218, e220, e224, e225, e226, e228, e239, e240, e245, e246, e260, e261, e262, e263, e264, e266, e268, e321, e350, e351, e354, e390, e391, e392, e404, e405, e406, e407, e410] 100000 60 9 e411 = true := by kernel_rfl
theorem c402 : K.kchk xp [e52, e58, e64, e182, e185, e216, e244, e266, e355, e359, e360, e362, e364, e368, e369, e370, e377, e378, e379, e380, e396, e399, e400, e401] 100000 60 7 e402 = true := by kernel_rfl
theorem c146 : K.kchk xp [e100, e104, e107, e108, e109, e111, e112, e114, e115, e116] 100000 60 5 e146 = true := by kernel_rfl
theorem c329 : K.kchk xp [e100, e104, e107, e108, e109, e111, e112, e114, e115, e116] 100000 60 5 e329 = true := by kernel_rfl
theorem c385 : K.kchk xp [e182, e185, e360, e362, e364, e368, e369, e370] 100000 60 6 e385 = true := by kernel_rfl
theorem c429 : K.kchk xp [e15, e29, e64, e68, e74, e158, e419, e420, e422, e423, e425, e426, e428] 100000 60 4 e429 = true := by kernel_rfl
theorem c75 : K.kchk xp [e15, e29, e44, e47, e50, e53, e56, e59, e61, e64, e68, e74] 100000 60 4 e75 = true := by kernel_rfl
theorem c242 : K.kchk xp [] 100000 60 3 e242 = true := by kernel_rfl
theorem c346 : K.kchk xp [] 100000 60 3 e346 = true := by kernel_rfl
theorem c260 : K.kchk xp [e258, e259] 100000 60 4 e260 = true := by kernel_rfl
theorem c214 : K.kchk xp [e53, e189, e212, e213] 100000 60 4 e214 = true := by kernel_rfl
theorem c52 : K.kchk xp [e51] 100000 60 4 e52 = true := by kernel_rfl
theorem c225 : K.kchk xp [e171] 100000 60 3 e225 = true := by kernel_rfl
theorem c324 : K.kchk xp [e171] 100000 60 3 e324 = true := by kernel_rfl
theorem c369 : K.kchk xp [] 100000 60 3 e369 = true := by kernel_rfl
theorem c376 : K.kchk xp [] 100000 60 3 e376 = true := by kernel_rfl
theorem c283 : K.kchk xp [e183, e275] 100000 60 3 e283 = true := by kernel_rfl
theorem c204 : K.kchk xp [e198, e203] 100000 60 3 e204 = true := by kernel_rfl
theorem c281 : K.kchk xp [e277, e280] 100000 60 3 e281 = true := by kernel_rfl
theorem c27 : K.kchk xp [e26] 100000 60 3 e27 = true := by kernel_rfl
theorem c328 : K.kchk xp [] 100000 60 3 e328 = true := by kernel_rfl
theorem c62 : K.kchk xp [] 100000 60 3 e62 = true := by kernel_rfl
theorem c267 : K.kchk xp [] 100000 60 3 e267 = true := by kernel_rfl
theorem c243 : K.kchk xp [e15, e131, e141, e242] 100000 60 3 e243 = true := by kernel_rfl
theorem c161 : K.kchk xp [e64, e148, e151, e156, e159, e160] 100000 60 3 e161 = true := by kernel_rfl
theorem c209 : K.kchk xp [e184, e201, e208] 100000 60 3 e209 = true := by kernel_rfl
theorem c176 : K.kchk xp [e174, e175] 100000 60 3 e176 = true := by kernel_rfl
theorem c191 : K.kchk xp [e174, e190] 100000 60 3 e191 = true := by kernel_rfl
theorem c29 : K.kchk xp [e19, e22, e25, e28] 100000 60 3 e29 = true := by kernel_rfl
theorem c73 : K.kchk xp [e71, e72] 100000 60 3 e73 = true := by kernel_rfl
theorem c18 : K.kchk xp [e17] 100000 60 3 e18 = true := by kernel_rfl
theorem c194 : K.kchk xp [] 100000 60 3 e194 = true := by kernel_rfl
theorem c430 : K.kchk xp [] 100000 60 3 e430 = true := by kernel_rfl
theorem c246 : K.kchk xp [e52] 100000 60 3 e246 = true := by kernel_rfl
theorem c368 : K.kchk xp [e367] 100000 60 3 e368 = true := by kernel_rfl
theorem c158 : K.kchk xp [e69, e157] 100000 60 3 e158 = true := by kernel_rfl
theorem c79 : K.kchk xp [e78] 100000 60 3 e79 = true := by kernel_rfl
theorem c187 : K.kchk xp [] 100000 60 3 e187 = true := by kernel_rfl
theorem c227 : K.kchk xp [] 100000 60 3 e227 = true := by kernel_rfl
theorem c259 : K.kchk xp [] 100000 60 3 e259 = true := by kernel_rfl
theorem c288 : K.kchk xp [] 100000 60 3 e288 = true := by kernel_rfl
theorem c307 : K.kchk xp [] 100000 60 3 e307 = true := by kernel_rfl
theorem c353 : K.kchk xp [e171, e222, e352] 100000 60 3 e353 = true := by kernel_rfl
theorem c71 : K.kchk xp [e69, e70] 100000 60 3 e71 = true := by kernel_rfl
theorem c86 : K.kchk xp [e46] 100000 60 3 e86 = true := by kernel_rfl
theorem c235 : K.kchk xp [e223, e234] 100000 60 3 e235 = true := by kernel_rfl
theorem c320 : K.kchk xp [e223, e319] 100000 60 3 e320 = true := by kernel_rfl
theorem c347 : K.kchk xp [e223, e346] 100000 60 3 e347 = true := by kernel_rfl
theorem c76 : K.kchk xp [] 100000 60 3 e76 = true := by kernel_rfl
theorem c351 : K.kchk xp [] 100000 60 3 e351 = true := by kernel_rfl
theorem c164 : K.kchk xp [e64, e148] 100000 60 3 e164 = true := by kernel_rfl
theorem c193 : K.kchk xp [] 100000 60 3 e193 = true := by kernel_rfl
theorem c45 : K.kchk xp [e15] 100000 60 3 e45 = true := by kernel_rfl
theorem c414 : K.kchk xp [e158, e213, e413] 100000 60 3 e414 = true := by kernel_rfl
theorem c10 : K.kchk xp [e9] 100000 60 3 e10 = true := by kernel_rfl
theorem c12 : K.kchk xp [e11] 100000 60 3 e12 = true := by kernel_rfl
theorem c66 : K.kchk xp [e65] 100000 60 3 e66 = true := by kernel_rfl
theorem c129 : K.kchk xp [e128] 100000 60 3 e129 = true := by kernel_rfl
theorem c133 : K.kchk xp [e132] 100000 60 3 e133 = true := by kernel_rfl
theorem c381 : K.kchk xp [e131] 100000 60 3 e381 = true := by kernel_rfl
theorem c255 : K.kchk xp [e38, e199, e248, e254] 100000 60 3 e255 = true := by kernel_rfl
theorem c300 : K.kchk xp [e36, e193, e290, e299] 100000 60 3 e300 = true := by kernel_rfl
theorem c387 : K.kchk xp [e384, e386] 100000 60 3 e387 = true := by kernel_rfl
theorem c199 : K.kchk xp [] 100000 60 3 e199 = true := by kernel_rfl
theorem c81 : K.kchk xp [e80] 100000 60 3 e81 = true := by kernel_rfl
theorem c162 : K.kchk xp [e146, e161] 100000 60 3 e162 = true := by kernel_rfl
theorem c340 : K.kchk xp [e339] 100000 60 3 e340 = true := by kernel_rfl
theorem c362 : K.kchk xp [e124, e361] 100000 60 3 e362 = true := by kernel_rfl
theorem c16 : K.kchk xp [] 100000 60 3 e16 = true := by kernel_rfl
theorem c30 : K.kchk xp [] 100000 60 3 e30 = true := by kernel_rfl
theorem c70 : K.kchk xp [] 100000 60 3 e70 = true := by kernel_rfl
theorem c190 : K.kchk xp [] 100000 60 3 e190 = true := by kernel_rfl
theorem c373 : K.kchk xp [] 100000 60 3 e373 = true := by kernel_rfl
theorem c303 : K.kchk xp [] 100000 60 3 e303 = true := by kernel_rfl
theorem c8 : K.kchk xp [e7] 100000 60 3 e8 = true := by kernel_rfl
theorem c211 : K.kchk xp [] 100000 60 3 e211 = true := by kernel_rfl
theorem c274 : K.kchk xp [e194] 100000 60 3 e274 = true := by kernel_rfl
theorem c9 : K.kchk xp [] 100000 60 3 e9 = true := by kernel_rfl
theorem c123 : K.kchk xp [e122] 100000 60 3 e123 = true := by kernel_rfl
theorem c221 : K.kchk xp [] 100000 60 3 e221 = true := by kernel_rfl
theorem c78 : K.kchk xp [] 100000 60 3 e78 = true := by kernel_rfl
theorem c206 : K.kchk xp [] 100000 60 3 e206 = true := by kernel_rfl
theorem c276 : K.kchk xp [] 100000 60 3 e276 = true := by kernel_rfl
theorem c301 : K.kchk xp [] 100000 60 3 e301 = true := by kernel_rfl
theorem c371 : K.kchk xp [e72, e141] 100000 60 3 e371 = true := by kernel_rfl
theorem c395 : K.kchk xp [e394] 100000 60 3 e395 = true := by kernel_rfl
theorem c96 : K.kchk xp [] 100000 60 3 e96 = true := by kernel_rfl
theorem c99 : K.kchk xp [] 100000 60 3 e99 = true := by kernel_rfl
theorem c105 : K.kchk xp [] 100000 60 3 e105 = true := by kernel_rfl
theorem c144 : K.kchk xp [e143] 100000 60 3 e144 = true := by kernel_rfl
theorem c406 : K.kchk xp [] 100000 60 3 e406 = true := by kernel_rfl
theorem c240 : K.kchk xp [] 100000 60 3 e240 = true := by kernel_rfl
theorem c316 : K.kchk xp [] 100000 60 3 e316 = true := by kernel_rfl
theorem c33 : K.kchk xp [e32] 100000 60 3 e33 = true := by kernel_rfl
theorem c68 : K.kchk xp [e67] 100000 60 3 e68 = true := by kernel_rfl
theorem c119 : K.kchk xp [] 100000 60 3 e119 = true := by kernel_rfl
theorem c155 : K.kchk xp [e67] 100000 60 3 e155 = true := by kernel_rfl
theorem c5 : K.kchk xp [] 100000 60 3 e5 = true := by kernel_rfl
theorem c43 : K.kchk xp [e42] 100000 60 3 e43 = true := by kernel_rfl
theorem c74 : K.kchk xp [e73] 100000 60 3 e74 = true := by kernel_rfl
theorem c126 : K.kchk xp [e125] 100000 60 3 e126 = true := by kernel_rfl
theorem c150 : K.kchk xp [e149] 100000 60 3 e150 = true := by kernel_rfl
theorem c248 : K.kchk xp [e247] 100000 60 3 e248 = true := by kernel_rfl
theorem c382 : K.kchk xp [e381] 100000 60 3 e382 = true := by kernel_rfl
theorem c422 : K.kchk xp [e421] 100000 60 3 e422 = true := by kernel_rfl
theorem c154 : K.kchk xp [e153] 100000 60 3 e154 = true := by kernel_rfl
theorem c266 : K.kchk xp [e265] 100000 60 3 e266 = true := by kernel_rfl
theorem c0 : K.kchk xp [] 100000 60 3 e0 = true := by kernel_rfl
end Go.VC.Tz

