/- Calls of the program, evaluated: part 3. -/
import Derived.Test.YtibgbgjocbaflaaGreatDoorMh
namespace Go.VC.Tz
open Go Go.VC
theorem c388 : K.kchk xp [e52, e58, e64, e161, e182, e185, e216, e220, e355, e359, e360, e362, e364, e368, e369, e370, e377, e378, e379, e380, e384, e385, e386, e387] 100000 60 7 e388 = true := by kernel_rfl
theorem c408 : K.kchk xp [e52, e58, e64, e161, e182, e185, e216, e220, e355, e359, e360, e362, e364, e368, e369, e370, e377, e378, e379, e380, e384, e385, e386, e387] 100000 60 7 e408 = true := by kernel_rfl
theorem c87 : K.kchk xp [e48] 100000 60 3 e87 = true := by kernel_rfl
theorem c318 : K.kchk xp [e15, e63, e64, e216, e230, e240, e262, e273, e287, e298, e308, e309, e310, e312, e313, e314, e315, e317] 100000 60 7 e318 = true := by kernel_rfl
theorem c117 : K.kchk xp [e100, e104, e107, e108, e109, e111, e112, e114, e115, e116] 100000 60 5 e117 = true := by kernel_rfl
theorem c241 : K.kchk xp [e100, e104, e107, e108, e109, e111, e112, e114, e115, e116] 100000 60 5 e241 = true := by kernel_rfl
theorem c399 : K.kchk xp [e182, e185, e360, e362, e364, e368, e369, e370, e377, e398] 100000 60 6 e399 = true := by kernel_rfl
theorem c370 : K.kchk xp [e182, e185, e360, e362, e364, e368, e369] 100000 60 5 e370 = true := by kernel_rfl
theorem c93 : K.kchk xp [e15, e29, e44, e64, e86, e88, e89, e90, e92] 100000 60 3 e93 = true := by kernel_rfl
theorem c287 : K.kchk xp [e211, e281, e282, e286] 100000 60 5 e287 = true := by kernel_rfl
theorem c355 : K.kchk xp [] 100000 60 4 e355 = true := by kernel_rfl
theorem c298 : K.kchk xp [e288, e297] 100000 60 4 e298 = true := by kernel_rfl
theorem c264 : K.kchk xp [e189, e212, e213, e263] 100000 60 4 e264 = true := by kernel_rfl
theorem c58 : K.kchk xp [e57] 100000 60 4 e58 = true := by kernel_rfl
theorem c322 : K.kchk xp [e171] 100000 60 3 e322 = true := by kernel_rfl
theorem c325 : K.kchk xp [e171] 100000 60 3 e325 = true := by kernel_rfl
theorem c239 : K.kchk xp [e171] 100000 60 3 e239 = true := by kernel_rfl
theorem c182 : K.kchk xp [e180, e181] 100000 60 3 e182 = true := by kernel_rfl
theorem c277 : K.kchk xp [e275, e276] 100000 60 3 e277 = true := by kernel_rfl
theorem c407 : K.kchk xp [e353] 100000 60 3 e407 = true := by kernel_rfl
theorem c286 : K.kchk xp [e283, e285] 100000 60 3 e286 = true := by kernel_rfl
theorem c100 : K.kchk xp [e95, e96, e97, e98, e99] 100000 60 3 e100 = true := by kernel_rfl
theorem c107 : K.kchk xp [e95, e96, e99, e105, e106] 100000 60 3 e107 = true := by kernel_rfl
theorem c294 : K.kchk xp [e292, e293] 100000 60 3 e294 = true := by kernel_rfl
theorem c319 : K.kchk xp [] 100000 60 3 e319 = true := by kernel_rfl
theorem c309 : K.kchk xp [e287, e298, e308] 100000 60 3 e309 = true := by kernel_rfl
theorem c141 : K.kchk xp [e36, e38, e135, e138, e140] 100000 60 3 e141 = true := by kernel_rfl
theorem c185 : K.kchk xp [e180, e183, e184] 100000 60 3 e185 = true := by kernel_rfl
theorem c46 : K.kchk xp [e45] 100000 60 3 e46 = true := by kernel_rfl
theorem c22 : K.kchk xp [e21] 100000 60 3 e22 = true := by kernel_rfl
theorem c38 : K.kchk xp [e37] 100000 60 3 e38 = true := by kernel_rfl
theorem c21 : K.kchk xp [e20] 100000 60 3 e21 = true := by kernel_rfl
theorem c63 : K.kchk xp [e62] 100000 60 3 e63 = true := by kernel_rfl
theorem c37 : K.kchk xp [e34] 100000 60 3 e37 = true := by kernel_rfl
theorem c415 : K.kchk xp [] 100000 60 3 e415 = true := by kernel_rfl
theorem c90 : K.kchk xp [e58] 100000 60 3 e90 = true := by kernel_rfl
theorem c273 : K.kchk xp [e52] 100000 60 3 e273 = true := by kernel_rfl
theorem c426 : K.kchk xp [e58] 100000 60 3 e426 = true := by kernel_rfl
theorem c173 : K.kchk xp [] 100000 60 3 e173 = true := by kernel_rfl
theorem c215 : K.kchk xp [] 100000 60 3 e215 = true := by kernel_rfl
theorem c257 : K.kchk xp [e255, e256] 100000 60 3 e257 = true := by kernel_rfl
theorem c282 : K.kchk xp [] 100000 60 3 e282 = true := by kernel_rfl
theorem c305 : K.kchk xp [e293, e304] 100000 60 3 e305 = true := by kernel_rfl
theorem c170 : K.kchk xp [e169] 100000 60 3 e170 = true := by kernel_rfl
theorem c249 : K.kchk xp [] 100000 60 3 e249 = true := by kernel_rfl
theorem c160 : K.kchk xp [e71, e72] 100000 60 3 e160 = true := by kernel_rfl
theorem c224 : K.kchk xp [e221, e223] 100000 60 3 e224 = true := by kernel_rfl
theorem c237 : K.kchk xp [e221, e223] 100000 60 3 e237 = true := by kernel_rfl
theorem c323 : K.kchk xp [e221, e223] 100000 60 3 e323 = true := by kernel_rfl
theorem c420 : K.kchk xp [e46] 100000 60 3 e420 = true := by kernel_rfl
theorem c94 : K.kchk xp [] 100000 60 3 e94 = true := by kernel_rfl
theorem c367 : K.kchk xp [e127, e363, e365, e366] 100000 60 3 e367 = true := by kernel_rfl
theorem c236 : K.kchk xp [] 100000 60 3 e236 = true := by kernel_rfl
theorem c384 : K.kchk xp [e158, e383] 100000 60 3 e384 = true := by kernel_rfl
theorem c57 : K.kchk xp [e15] 100000 60 3 e57 = true := by kernel_rfl
theorem c55 : K.kchk xp [e54] 100000 60 3 e55 = true := by kernel_rfl
theorem c149 : K.kchk xp [] 100000 60 3 e149 = true := by kernel_rfl
theorem c17 : K.kchk xp [e16] 100000 60 3 e17 = true := by kernel_rfl
theorem c112 : K.kchk xp [] 100000 60 3 e112 = true := by kernel_rfl
theorem c24 : K.kchk xp [e23] 100000 60 3 e24 = true := by kernel_rfl
theorem c120 : K.kchk xp [e119] 100000 60 3 e120 = true := by kernel_rfl
theorem c364 : K.kchk xp [e124, e363] 100000 60 3 e364 = true := by kernel_rfl
theorem c201 : K.kchk xp [e38, e192, e199, e200] 100000 60 3 e201 = true := by kernel_rfl
theorem c279 : K.kchk xp [e38, e177, e199, e278] 100000 60 3 e279 = true := by kernel_rfl
theorem c424 : K.kchk xp [e326] 100000 60 3 e424 = true := by kernel_rfl
theorem c366 : K.kchk xp [] 100000 60 3 e366 = true := by kernel_rfl
theorem c145 : K.kchk xp [e117, e144] 100000 60 3 e145 = true := by kernel_rfl
theorem c245 : K.kchk xp [e241, e244] 100000 60 3 e245 = true := by kernel_rfl
theorem c178 : K.kchk xp [] 100000 60 3 e178 = true := by kernel_rfl
theorem c386 : K.kchk xp [e385] 100000 60 3 e386 = true := by kernel_rfl
theorem c23 : K.kchk xp [] 100000 60 3 e23 = true := by kernel_rfl
theorem c39 : K.kchk xp [] 100000 60 3 e39 = true := by kernel_rfl
theorem c174 : K.kchk xp [] 100000 60 3 e174 = true := by kernel_rfl
theorem c127 : K.kchk xp [] 100000 60 3 e127 = true := by kernel_rfl
theorem c361 : K.kchk xp [] 100000 60 3 e361 = true := by kernel_rfl
theorem c254 : K.kchk xp [] 100000 60 3 e254 = true := by kernel_rfl
theorem c345 : K.kchk xp [] 100000 60 3 e345 = true := by kernel_rfl
theorem c250 : K.kchk xp [e249] 100000 60 3 e250 = true := by kernel_rfl
theorem c348 : K.kchk xp [] 100000 60 3 e348 = true := by kernel_rfl
theorem c13 : K.kchk xp [] 100000 60 3 e13 = true := by kernel_rfl
theorem c184 : K.kchk xp [] 100000 60 3 e184 = true := by kernel_rfl
theorem c352 : K.kchk xp [] 100000 60 3 e352 = true := by kernel_rfl
theorem c181 : K.kchk xp [] 100000 60 3 e181 = true := by kernel_rfl
theorem c197 : K.kchk xp [] 100000 60 3 e197 = true := by kernel_rfl
theorem c252 : K.kchk xp [] 100000 60 3 e252 = true := by kernel_rfl
theorem c293 : K.kchk xp [] 100000 60 3 e293 = true := by kernel_rfl
theorem c358 : K.kchk xp [e357] 100000 60 3 e358 = true := by kernel_rfl
theorem c383 : K.kchk xp [e382] 100000 60 3 e383 = true := by kernel_rfl
theorem c7 : K.kchk xp [] 100000 60 3 e7 = true := by kernel_rfl
theorem c97 : K.kchk xp [] 100000 60 3 e97 = true := by kernel_rfl
theorem c102 : K.kchk xp [] 100000 60 3 e102 = true := by kernel_rfl
theorem c110 : K.kchk xp [] 100000 60 3 e110 = true := by kernel_rfl
theorem c350 : K.kchk xp [] 100000 60 3 e350 = true := by kernel_rfl
theorem c230 : K.kchk xp [] 100000 60 3 e230 = true := by kernel_rfl
theorem c77 : K.kchk xp [] 100000 60 3 e77 = true := by kernel_rfl
theorem c365 : K.kchk xp [] 100000 60 3 e365 = true := by kernel_rfl
theorem c83 : K.kchk xp [] 100000 60 3 e83 = true := by kernel_rfl
theorem c132 : K.kchk xp [] 100000 60 3 e132 = true := by kernel_rfl
theorem c427 : K.kchk xp [] 100000 60 3 e427 = true := by kernel_rfl
theorem c28 : K.kchk xp [e27] 100000 60 3 e28 = true := by kernel_rfl
theorem c56 : K.kchk xp [e55] 100000 60 3 e56 = true := by kernel_rfl
theorem c88 : K.kchk xp [e87] 100000 60 3 e88 = true := by kernel_rfl
theorem c138 : K.kchk xp [e137] 100000 60 3 e138 = true := by kernel_rfl
theorem c177 : K.kchk xp [e176] 100000 60 3 e177 = true := by kernel_rfl
theorem c337 : K.kchk xp [e336] 100000 60 3 e337 = true := by kernel_rfl
theorem c413 : K.kchk xp [e412] 100000 60 3 e413 = true := by kernel_rfl
theorem c428 : K.kchk xp [e427] 100000 60 3 e428 = true := by kernel_rfl
theorem c220 : K.kchk xp [e219] 100000 60 3 e220 = true := by kernel_rfl
theorem c317 : K.kchk xp [e316] 100000 60 3 e317 = true := by kernel_rfl
theorem c2 : K.kchk xp [] 100000 60 3 e2 = true := by kernel_rfl
end Go.VC.Tz

