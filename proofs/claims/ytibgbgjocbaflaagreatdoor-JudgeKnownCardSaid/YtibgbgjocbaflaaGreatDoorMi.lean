/- Calls of the program, evaluated: part 0. -/
import Derived.Test.YtibgbgjocbaflaaGreatDoorMh
namespace Go.VC.Tz
open Go Go.VC
theorem c432 : K.kchk xp [e0, e1, e2, e3, e4, e6, e8, e15, e48, e53, e54, e59, e63, e64, e75, e76, e85, e93, e94, e145, e162, e166, e167, e168, e172, e189, e212, e213, e214, e216, e217, e218, e220, e224, e225, e226, e228, e229, e230, e231, e232, e233, e235, e236, e237, e238, e239, e240, e245, e246, e260, e261, e262, e263, e264, e266, e268, e269, e271, e272, e318, e320, e321, e322, e323, e324, e325, e326, e327, e328, e332, e333, e334, e342, e343, e344, e345, e347, e348, e349, e431] 100000 60 10 e432 = true := by kernel_rfl
theorem c378 : K.kchk xp [e182, e185, e360, e362, e364, e368, e369, e370, e377] 100000 60 6 e378 = true := by kernel_rfl
theorem c416 : K.kchk xp [e15, e29, e44, e47, e50, e53, e56, e59, e61, e64, e68, e74, e158] 100000 60 3 e416 = true := by kernel_rfl
theorem c189 : K.kchk xp [e173, e186, e187, e188] 100000 60 5 e189 = true := by kernel_rfl
theorem c398 : K.kchk xp [e253, e257, e372, e374, e397] 100000 60 5 e398 = true := by kernel_rfl
theorem c262 : K.kchk xp [e189, e212, e246, e260, e261] 100000 60 4 e262 = true := by kernel_rfl
theorem c15 : K.kchk xp [e10, e12, e14] 100000 60 3 e15 = true := by kernel_rfl
theorem c409 : K.kchk xp [e408] 100000 60 4 e409 = true := by kernel_rfl
theorem c172 : K.kchk xp [e171] 100000 60 3 e172 = true := by kernel_rfl
theorem c272 : K.kchk xp [e171] 100000 60 3 e272 = true := by kernel_rfl
theorem c233 : K.kchk xp [e171] 100000 60 3 e233 = true := by kernel_rfl
theorem c343 : K.kchk xp [e171] 100000 60 3 e343 = true := by kernel_rfl
theorem c198 : K.kchk xp [e196, e197] 100000 60 3 e198 = true := by kernel_rfl
theorem c334 : K.kchk xp [e171] 100000 60 3 e334 = true := by kernel_rfl
theorem c186 : K.kchk xp [e182, e185] 100000 60 3 e186 = true := by kernel_rfl
theorem c258 : K.kchk xp [e253, e257] 100000 60 3 e258 = true := by kernel_rfl
theorem c306 : K.kchk xp [e302, e305] 100000 60 3 e306 = true := by kernel_rfl
theorem c253 : K.kchk xp [e251, e252] 100000 60 3 e253 = true := by kernel_rfl
theorem c302 : K.kchk xp [e300, e301] 100000 60 3 e302 = true := by kernel_rfl
theorem c148 : K.kchk xp [e15, e131, e141, e147] 100000 60 3 e148 = true := by kernel_rfl
theorem c291 : K.kchk xp [] 100000 60 3 e291 = true := by kernel_rfl
theorem c104 : K.kchk xp [e96, e101, e102, e103] 100000 60 3 e104 = true := by kernel_rfl
theorem c244 : K.kchk xp [e64, e151, e156, e159, e160, e243] 100000 60 3 e244 = true := by kernel_rfl
theorem c285 : K.kchk xp [e184, e279, e284] 100000 60 3 e285 = true := by kernel_rfl
theorem c36 : K.kchk xp [e35] 100000 60 3 e36 = true := by kernel_rfl
theorem c128 : K.kchk xp [e127] 100000 60 3 e128 = true := by kernel_rfl
theorem c419 : K.kchk xp [e19, e36, e38, e41, e418] 100000 60 3 e419 = true := by kernel_rfl
theorem c67 : K.kchk xp [e66] 100000 60 3 e67 = true := by kernel_rfl
theorem c314 : K.kchk xp [e287, e298] 100000 60 3 e314 = true := by kernel_rfl
theorem c59 : K.kchk xp [e58] 100000 60 3 e59 = true := by kernel_rfl
theorem c152 : K.kchk xp [] 100000 60 3 e152 = true := by kernel_rfl
theorem c313 : K.kchk xp [e58] 100000 60 3 e313 = true := by kernel_rfl
theorem c72 : K.kchk xp [e69, e70] 100000 60 3 e72 = true := by kernel_rfl
theorem c35 : K.kchk xp [e34] 100000 60 3 e35 = true := by kernel_rfl
theorem c203 : K.kchk xp [e201, e202] 100000 60 3 e203 = true := by kernel_rfl
theorem c234 : K.kchk xp [] 100000 60 3 e234 = true := by kernel_rfl
theorem c270 : K.kchk xp [] 100000 60 3 e270 = true := by kernel_rfl
theorem c289 : K.kchk xp [e174, e175] 100000 60 3 e289 = true := by kernel_rfl
theorem c356 : K.kchk xp [e131, e141] 100000 60 3 e356 = true := by kernel_rfl
theorem c311 : K.kchk xp [] 100000 60 3 e311 = true := by kernel_rfl
theorem c114 : K.kchk xp [e113] 100000 60 3 e114 = true := by kernel_rfl
theorem c228 : K.kchk xp [e223, e227] 100000 60 3 e228 = true := by kernel_rfl
theorem c268 : K.kchk xp [e223, e267] 100000 60 3 e268 = true := by kernel_rfl
theorem c327 : K.kchk xp [e221, e223] 100000 60 3 e327 = true := by kernel_rfl
theorem c167 : K.kchk xp [e162] 100000 60 3 e167 = true := by kernel_rfl
theorem c404 : K.kchk xp [e403] 100000 60 3 e404 = true := by kernel_rfl
theorem c389 : K.kchk xp [e350, e388] 100000 60 3 e389 = true := by kernel_rfl
theorem c410 : K.kchk xp [e409] 100000 60 3 e410 = true := by kernel_rfl
theorem c396 : K.kchk xp [e158, e395] 100000 60 3 e396 = true := by kernel_rfl
theorem c166 : K.kchk xp [e165] 100000 60 3 e166 = true := by kernel_rfl
theorem c122 : K.kchk xp [e118, e120, e121] 100000 60 3 e122 = true := by kernel_rfl
theorem c421 : K.kchk xp [e48] 100000 60 3 e421 = true := by kernel_rfl
theorem c31 : K.kchk xp [e30] 100000 60 3 e31 = true := by kernel_rfl
theorem c115 : K.kchk xp [] 100000 60 3 e115 = true := by kernel_rfl
theorem c40 : K.kchk xp [e39] 100000 60 3 e40 = true := by kernel_rfl
theorem c125 : K.kchk xp [e124] 100000 60 3 e125 = true := by kernel_rfl
theorem c372 : K.kchk xp [e136, e361] 100000 60 3 e372 = true := by kernel_rfl
theorem c251 : K.kchk xp [e36, e193, e248, e250] 100000 60 3 e251 = true := by kernel_rfl
theorem c292 : K.kchk xp [e22, e178, e290, e291] 100000 60 3 e292 = true := by kernel_rfl
theorem c380 : K.kchk xp [e359, e379] 100000 60 3 e380 = true := by kernel_rfl
theorem c401 : K.kchk xp [e396, e400] 100000 60 3 e401 = true := by kernel_rfl
theorem c159 : K.kchk xp [e158] 100000 60 3 e159 = true := by kernel_rfl
theorem c332 : K.kchk xp [e329, e331] 100000 60 3 e332 = true := by kernel_rfl
theorem c379 : K.kchk xp [e378] 100000 60 3 e379 = true := by kernel_rfl
theorem c400 : K.kchk xp [e399] 100000 60 3 e400 = true := by kernel_rfl
theorem c26 : K.kchk xp [] 100000 60 3 e26 = true := by kernel_rfl
theorem c69 : K.kchk xp [] 100000 60 3 e69 = true := by kernel_rfl
theorem c175 : K.kchk xp [] 100000 60 3 e175 = true := by kernel_rfl
theorem c136 : K.kchk xp [] 100000 60 3 e136 = true := by kernel_rfl
theorem c363 : K.kchk xp [] 100000 60 3 e363 = true := by kernel_rfl
theorem c278 : K.kchk xp [] 100000 60 3 e278 = true := by kernel_rfl
theorem c6 : K.kchk xp [e5] 100000 60 3 e6 = true := by kernel_rfl
theorem c195 : K.kchk xp [e194] 100000 60 3 e195 = true := by kernel_rfl
theorem c269 : K.kchk xp [] 100000 60 3 e269 = true := by kernel_rfl
theorem c3 : K.kchk xp [] 100000 60 3 e3 = true := by kernel_rfl
theorem c65 : K.kchk xp [] 100000 60 3 e65 = true := by kernel_rfl
theorem c169 : K.kchk xp [] 100000 60 3 e169 = true := by kernel_rfl
theorem c64 : K.kchk xp [e15, e63] 100000 60 3 e64 = true := by kernel_rfl
theorem c202 : K.kchk xp [] 100000 60 3 e202 = true := by kernel_rfl
theorem c256 : K.kchk xp [] 100000 60 3 e256 = true := by kernel_rfl
theorem c295 : K.kchk xp [] 100000 60 3 e295 = true := by kernel_rfl
theorem c360 : K.kchk xp [e131, e158] 100000 60 3 e360 = true := by kernel_rfl
theorem c390 : K.kchk xp [e389] 100000 60 3 e390 = true := by kernel_rfl
theorem c95 : K.kchk xp [] 100000 60 3 e95 = true := by kernel_rfl
theorem c98 : K.kchk xp [] 100000 60 3 e98 = true := by kernel_rfl
theorem c103 : K.kchk xp [] 100000 60 3 e103 = true := by kernel_rfl
theorem c113 : K.kchk xp [] 100000 60 3 e113 = true := by kernel_rfl
theorem c392 : K.kchk xp [] 100000 60 3 e392 = true := by kernel_rfl
theorem c231 : K.kchk xp [] 100000 60 3 e231 = true := by kernel_rfl
theorem c265 : K.kchk xp [] 100000 60 3 e265 = true := by kernel_rfl
theorem c19 : K.kchk xp [e18] 100000 60 3 e19 = true := by kernel_rfl
theorem c60 : K.kchk xp [] 100000 60 3 e60 = true := by kernel_rfl
theorem c91 : K.kchk xp [] 100000 60 3 e91 = true := by kernel_rfl
theorem c139 : K.kchk xp [] 100000 60 3 e139 = true := by kernel_rfl
theorem c4 : K.kchk xp [] 100000 60 3 e4 = true := by kernel_rfl
theorem c41 : K.kchk xp [e40] 100000 60 3 e41 = true := by kernel_rfl
theorem c61 : K.kchk xp [e60] 100000 60 3 e61 = true := by kernel_rfl
theorem c92 : K.kchk xp [e91] 100000 60 3 e92 = true := by kernel_rfl
theorem c140 : K.kchk xp [e139] 100000 60 3 e140 = true := by kernel_rfl
theorem c192 : K.kchk xp [e191] 100000 60 3 e192 = true := by kernel_rfl
theorem c357 : K.kchk xp [e356] 100000 60 3 e357 = true := by kernel_rfl
theorem c418 : K.kchk xp [e417] 100000 60 3 e418 = true := by kernel_rfl
theorem c151 : K.kchk xp [e150] 100000 60 3 e151 = true := by kernel_rfl
theorem c223 : K.kchk xp [e222] 100000 60 3 e223 = true := by kernel_rfl
theorem c338 : K.kchk xp [e337] 100000 60 3 e338 = true := by kernel_rfl
end Go.VC.Tz

