/- Calls of the program, evaluated: part 2. -/
import Derived.Test.YtibgbgjocbaflaaGreatDoorMh
namespace Go.VC.Tz
open Go Go.VC
theorem c85 : K.kchk xp [e68, e77, e80, e81, e82, e84] 100000 60 8 e85 = true := by kernel_rfl
theorem c142 : K.kchk xp [] 100000 60 3 e142 = true := by kernel_rfl
theorem c118 : K.kchk xp [] 100000 60 3 e118 = true := by kernel_rfl
theorem c168 : K.kchk xp [e162] 100000 60 7 e168 = true := by kernel_rfl
theorem c163 : K.kchk xp [e100, e104, e107, e108, e109, e111, e112, e114, e115, e116] 100000 60 5 e163 = true := by kernel_rfl
theorem c335 : K.kchk xp [e100, e104, e107, e108, e109, e111, e112, e114, e115, e116] 100000 60 5 e335 = true := by kernel_rfl
theorem c377 : K.kchk xp [e198, e203, e207, e209, e371, e372, e374, e375, e376] 100000 60 5 e377 = true := by kernel_rfl
theorem c431 : K.kchk xp [e0, e1, e2, e3, e4, e158, e189, e212, e213, e411, e413, e414, e415, e416, e429, e430] 100000 60 6 e431 = true := by kernel_rfl
theorem c212 : K.kchk xp [e204, e205, e210, e211] 100000 60 5 e212 = true := by kernel_rfl
theorem c147 : K.kchk xp [] 100000 60 3 e147 = true := by kernel_rfl
theorem c310 : K.kchk xp [e273, e287, e298, e308, e309] 100000 60 4 e310 = true := by kernel_rfl
theorem c308 : K.kchk xp [e306, e307] 100000 60 4 e308 = true := by kernel_rfl
theorem c315 : K.kchk xp [e287, e298, e313, e314] 100000 60 4 e315 = true := by kernel_rfl
theorem c179 : K.kchk xp [] 100000 60 3 e179 = true := by kernel_rfl
theorem c321 : K.kchk xp [e171] 100000 60 3 e321 = true := by kernel_rfl
theorem c229 : K.kchk xp [e171] 100000 60 3 e229 = true := by kernel_rfl
theorem c391 : K.kchk xp [e353] 100000 60 3 e391 = true := by kernel_rfl
theorem c207 : K.kchk xp [e196, e206] 100000 60 3 e207 = true := by kernel_rfl
theorem c354 : K.kchk xp [e353] 100000 60 3 e354 = true := by kernel_rfl
theorem c405 : K.kchk xp [e353] 100000 60 3 e405 = true := by kernel_rfl
theorem c210 : K.kchk xp [e207, e209] 100000 60 3 e210 = true := by kernel_rfl
theorem c297 : K.kchk xp [e294, e296] 100000 60 3 e297 = true := by kernel_rfl
theorem c218 : K.kchk xp [e59, e189, e217] 100000 60 3 e218 = true := by kernel_rfl
theorem c188 : K.kchk xp [] 100000 60 3 e188 = true := by kernel_rfl
theorem c143 : K.kchk xp [e15, e131, e141, e142] 100000 60 3 e143 = true := by kernel_rfl
theorem c261 : K.kchk xp [e189, e212, e260] 100000 60 3 e261 = true := by kernel_rfl
theorem c131 : K.kchk xp [e22, e123, e126, e130] 100000 60 3 e131 = true := by kernel_rfl
theorem c341 : K.kchk xp [e64, e156, e160, e243, e338, e340] 100000 60 3 e341 = true := by kernel_rfl
theorem c330 : K.kchk xp [e15, e141] 100000 60 3 e330 = true := by kernel_rfl
theorem c393 : K.kchk xp [e131, e141] 100000 60 3 e393 = true := by kernel_rfl
theorem c44 : K.kchk xp [e33, e36, e38, e41, e43] 100000 60 3 e44 = true := by kernel_rfl
theorem c219 : K.kchk xp [] 100000 60 3 e219 = true := by kernel_rfl
theorem c32 : K.kchk xp [e31] 100000 60 3 e32 = true := by kernel_rfl
theorem c213 : K.kchk xp [e189, e212] 100000 60 3 e213 = true := by kernel_rfl
theorem c53 : K.kchk xp [e52] 100000 60 3 e53 = true := by kernel_rfl
theorem c89 : K.kchk xp [e52] 100000 60 3 e89 = true := by kernel_rfl
theorem c263 : K.kchk xp [e58] 100000 60 3 e263 = true := by kernel_rfl
theorem c423 : K.kchk xp [e52] 100000 60 3 e423 = true := by kernel_rfl
theorem c156 : K.kchk xp [e154, e155] 100000 60 3 e156 = true := by kernel_rfl
theorem c205 : K.kchk xp [] 100000 60 3 e205 = true := by kernel_rfl
theorem c247 : K.kchk xp [e174, e190] 100000 60 3 e247 = true := by kernel_rfl
theorem c280 : K.kchk xp [e181, e279] 100000 60 3 e280 = true := by kernel_rfl
theorem c296 : K.kchk xp [e292, e295] 100000 60 3 e296 = true := by kernel_rfl
theorem c412 : K.kchk xp [e29, e44] 100000 60 3 e412 = true := by kernel_rfl
theorem c108 : K.kchk xp [e103] 100000 60 3 e108 = true := by kernel_rfl
theorem c111 : K.kchk xp [e110] 100000 60 3 e111 = true := by kernel_rfl
theorem c47 : K.kchk xp [e46] 100000 60 3 e47 = true := by kernel_rfl
theorem c232 : K.kchk xp [e216, e221] 100000 60 3 e232 = true := by kernel_rfl
theorem c271 : K.kchk xp [e223, e270] 100000 60 3 e271 = true := by kernel_rfl
theorem c333 : K.kchk xp [e221, e223] 100000 60 3 e333 = true := by kernel_rfl
theorem c217 : K.kchk xp [e189] 100000 60 3 e217 = true := by kernel_rfl
theorem c336 : K.kchk xp [] 100000 60 3 e336 = true := by kernel_rfl
theorem c403 : K.kchk xp [e392, e402] 100000 60 3 e403 = true := by kernel_rfl
theorem c359 : K.kchk xp [e158, e358] 100000 60 3 e359 = true := by kernel_rfl
theorem c51 : K.kchk xp [e15] 100000 60 3 e51 = true := by kernel_rfl
theorem c49 : K.kchk xp [e48] 100000 60 3 e49 = true := by kernel_rfl
theorem c134 : K.kchk xp [e118, e121, e133] 100000 60 3 e134 = true := by kernel_rfl
theorem c14 : K.kchk xp [e13] 100000 60 3 e14 = true := by kernel_rfl
theorem c109 : K.kchk xp [] 100000 60 3 e109 = true := by kernel_rfl
theorem c349 : K.kchk xp [e221] 100000 60 3 e349 = true := by kernel_rfl
theorem c137 : K.kchk xp [e136] 100000 60 3 e137 = true := by kernel_rfl
theorem c180 : K.kchk xp [e22, e177, e178, e179] 100000 60 3 e180 = true := by kernel_rfl
theorem c196 : K.kchk xp [e36, e192, e193, e195] 100000 60 3 e196 = true := by kernel_rfl
theorem c275 : K.kchk xp [e36, e177, e193, e274] 100000 60 3 e275 = true := by kernel_rfl
theorem c304 : K.kchk xp [e38, e199, e290, e303] 100000 60 3 e304 = true := by kernel_rfl
theorem c238 : K.kchk xp [] 100000 60 3 e238 = true := by kernel_rfl
theorem c116 : K.kchk xp [] 100000 60 3 e116 = true := by kernel_rfl
theorem c165 : K.kchk xp [e163, e164] 100000 60 3 e165 = true := by kernel_rfl
theorem c342 : K.kchk xp [e335, e341] 100000 60 3 e342 = true := by kernel_rfl
theorem c374 : K.kchk xp [e136, e373] 100000 60 3 e374 = true := by kernel_rfl
theorem c20 : K.kchk xp [] 100000 60 3 e20 = true := by kernel_rfl
theorem c34 : K.kchk xp [] 100000 60 3 e34 = true := by kernel_rfl
theorem c157 : K.kchk xp [] 100000 60 3 e157 = true := by kernel_rfl
theorem c124 : K.kchk xp [] 100000 60 3 e124 = true := by kernel_rfl
theorem c171 : K.kchk xp [e36, e170] 100000 60 3 e171 = true := by kernel_rfl
theorem c200 : K.kchk xp [] 100000 60 3 e200 = true := by kernel_rfl
theorem c344 : K.kchk xp [] 100000 60 3 e344 = true := by kernel_rfl
theorem c226 : K.kchk xp [] 100000 60 3 e226 = true := by kernel_rfl
theorem c299 : K.kchk xp [e249] 100000 60 3 e299 = true := by kernel_rfl
theorem c11 : K.kchk xp [] 100000 60 3 e11 = true := by kernel_rfl
theorem c135 : K.kchk xp [e134] 100000 60 3 e135 = true := by kernel_rfl
theorem c222 : K.kchk xp [] 100000 60 3 e222 = true := by kernel_rfl
theorem c82 : K.kchk xp [e77] 100000 60 3 e82 = true := by kernel_rfl
theorem c183 : K.kchk xp [] 100000 60 3 e183 = true := by kernel_rfl
theorem c208 : K.kchk xp [] 100000 60 3 e208 = true := by kernel_rfl
theorem c284 : K.kchk xp [] 100000 60 3 e284 = true := by kernel_rfl
theorem c339 : K.kchk xp [] 100000 60 3 e339 = true := by kernel_rfl
theorem c375 : K.kchk xp [] 100000 60 3 e375 = true := by kernel_rfl
theorem c397 : K.kchk xp [e71, e141] 100000 60 3 e397 = true := by kernel_rfl
theorem c101 : K.kchk xp [] 100000 60 3 e101 = true := by kernel_rfl
theorem c106 : K.kchk xp [] 100000 60 3 e106 = true := by kernel_rfl
theorem c331 : K.kchk xp [e330] 100000 60 3 e331 = true := by kernel_rfl
theorem c48 : K.kchk xp [] 100000 60 3 e48 = true := by kernel_rfl
theorem c54 : K.kchk xp [] 100000 60 3 e54 = true := by kernel_rfl
theorem c326 : K.kchk xp [] 100000 60 3 e326 = true := by kernel_rfl
theorem c42 : K.kchk xp [] 100000 60 3 e42 = true := by kernel_rfl
theorem c80 : K.kchk xp [e79] 100000 60 3 e80 = true := by kernel_rfl
theorem c121 : K.kchk xp [] 100000 60 3 e121 = true := by kernel_rfl
theorem c417 : K.kchk xp [] 100000 60 3 e417 = true := by kernel_rfl
theorem c25 : K.kchk xp [e24] 100000 60 3 e25 = true := by kernel_rfl
theorem c50 : K.kchk xp [e49] 100000 60 3 e50 = true := by kernel_rfl
theorem c84 : K.kchk xp [e83] 100000 60 3 e84 = true := by kernel_rfl
theorem c130 : K.kchk xp [e129] 100000 60 3 e130 = true := by kernel_rfl
theorem c153 : K.kchk xp [e152] 100000 60 3 e153 = true := by kernel_rfl
theorem c290 : K.kchk xp [e289] 100000 60 3 e290 = true := by kernel_rfl
theorem c394 : K.kchk xp [e393] 100000 60 3 e394 = true := by kernel_rfl
theorem c425 : K.kchk xp [e424] 100000 60 3 e425 = true := by kernel_rfl
theorem c216 : K.kchk xp [e215] 100000 60 3 e216 = true := by kernel_rfl
theorem c312 : K.kchk xp [e311] 100000 60 3 e312 = true := by kernel_rfl
theorem c1 : K.kchk xp [] 100000 60 3 e1 = true := by kernel_rfl
end Go.VC.Tz

