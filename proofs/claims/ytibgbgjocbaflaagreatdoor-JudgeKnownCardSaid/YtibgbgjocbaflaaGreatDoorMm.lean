/- Calls of the program: they are as they are told. -/
import Derived.Test.YtibgbgjocbaflaaGreatDoorMf
import Derived.Test.YtibgbgjocbaflaaGreatDoorMi
import Derived.Test.YtibgbgjocbaflaaGreatDoorMj
import Derived.Test.YtibgbgjocbaflaaGreatDoorMk
import Derived.Test.YtibgbgjocbaflaaGreatDoorMl
import Derived.Test.YtibgbgjocbaflaaGreatDoorMd
import Derived.ProofKit
import Derived.LaidMore
import Derived.OpenShut
import Derived.LaidHandle
import Derived.WideKeyMaps
import Derived.Test.YtibgbgjocbaflaaGreatDoorMh
import Derived.Test.YtibgbgjocbaflaaGreatDoorRows
namespace Go.VC.Tz
open Go Go.VC
theorem hn {P : XP} {L : Nat} : ∀ x ∈ ([] : List XEnt), x.holds P L := fun _ h => by cases h
theorem hc {P : XP} {L : Nat} {a : XEnt} {T : List XEnt} (h : a.holds P L) (hT : ∀ x ∈ T, x.holds P L) : ∀ x ∈ a :: T, x.holds P L := fun x hx => by
  rcases List.mem_cons.1 hx with rfl | hx
  · exact h
  · exact hT x hx
theorem h0 : e0.holds xp 100000 := K.kchk_holds c0 (hn)
theorem h1 : e1.holds xp 100000 := K.kchk_holds c1 (hn)
theorem h2 : e2.holds xp 100000 := K.kchk_holds c2 (hn)
theorem h3 : e3.holds xp 100000 := K.kchk_holds c3 (hn)
theorem h4 : e4.holds xp 100000 := K.kchk_holds c4 (hn)
theorem h5 : e5.holds xp 100000 := K.kchk_holds c5 (hn)
theorem h6 : e6.holds xp 100000 := K.kchk_holds c6 (hc h5 hn)
theorem h7 : e7.holds xp 100000 := K.kchk_holds c7 (hn)
theorem h8 : e8.holds xp 100000 := K.kchk_holds c8 (hc h7 hn)
theorem h9 : e9.holds xp 100000 := K.kchk_holds c9 (hn)
theorem h10 : e10.holds xp 100000 := K.kchk_holds c10 (hc h9 hn)
theorem h11 : e11.holds xp 100000 := K.kchk_holds c11 (hn)
theorem h12 : e12.holds xp 100000 := K.kchk_holds c12 (hc h11 hn)
theorem h13 : e13.holds xp 100000 := K.kchk_holds c13 (hn)
theorem h14 : e14.holds xp 100000 := K.kchk_holds c14 (hc h13 hn)
theorem h15 : e15.holds xp 100000 := K.kchk_holds c15 (hc h10 (hc h12 (hc h14 hn)))
theorem h16 : e16.holds xp 100000 := K.kchk_holds c16 (hn)
theorem h17 : e17.holds xp 100000 := K.kchk_holds c17 (hc h16 hn)
theorem h18 : e18.holds xp 100000 := K.kchk_holds c18 (hc h17 hn)
theorem h19 : e19.holds xp 100000 := K.kchk_holds c19 (hc h18 hn)
theorem h20 : e20.holds xp 100000 := K.kchk_holds c20 (hn)
theorem h21 : e21.holds xp 100000 := K.kchk_holds c21 (hc h20 hn)
theorem h22 : e22.holds xp 100000 := K.kchk_holds c22 (hc h21 hn)
theorem h23 : e23.holds xp 100000 := K.kchk_holds c23 (hn)
theorem h24 : e24.holds xp 100000 := K.kchk_holds c24 (hc h23 hn)
theorem h25 : e25.holds xp 100000 := K.kchk_holds c25 (hc h24 hn)
theorem h26 : e26.holds xp 100000 := K.kchk_holds c26 (hn)
theorem h27 : e27.holds xp 100000 := K.kchk_holds c27 (hc h26 hn)
theorem h28 : e28.holds xp 100000 := K.kchk_holds c28 (hc h27 hn)
theorem h29 : e29.holds xp 100000 := K.kchk_holds c29 (hc h19 (hc h22 (hc h25 (hc h28 hn))))
theorem h30 : e30.holds xp 100000 := K.kchk_holds c30 (hn)
theorem h31 : e31.holds xp 100000 := K.kchk_holds c31 (hc h30 hn)
theorem h32 : e32.holds xp 100000 := K.kchk_holds c32 (hc h31 hn)
theorem h33 : e33.holds xp 100000 := K.kchk_holds c33 (hc h32 hn)
theorem h34 : e34.holds xp 100000 := K.kchk_holds c34 (hn)
theorem h35 : e35.holds xp 100000 := K.kchk_holds c35 (hc h34 hn)
theorem h36 : e36.holds xp 100000 := K.kchk_holds c36 (hc h35 hn)
theorem h37 : e37.holds xp 100000 := K.kchk_holds c37 (hc h34 hn)
theorem h38 : e38.holds xp 100000 := K.kchk_holds c38 (hc h37 hn)
theorem h39 : e39.holds xp 100000 := K.kchk_holds c39 (hn)
theorem h40 : e40.holds xp 100000 := K.kchk_holds c40 (hc h39 hn)
theorem h41 : e41.holds xp 100000 := K.kchk_holds c41 (hc h40 hn)
theorem h42 : e42.holds xp 100000 := K.kchk_holds c42 (hn)
theorem h43 : e43.holds xp 100000 := K.kchk_holds c43 (hc h42 hn)
theorem h44 : e44.holds xp 100000 := K.kchk_holds c44 (hc h33 (hc h36 (hc h38 (hc h41 (hc h43 hn)))))
theorem h45 : e45.holds xp 100000 := K.kchk_holds c45 (hc h15 hn)
theorem h46 : e46.holds xp 100000 := K.kchk_holds c46 (hc h45 hn)
theorem h47 : e47.holds xp 100000 := K.kchk_holds c47 (hc h46 hn)
theorem h48 : e48.holds xp 100000 := K.kchk_holds c48 (hn)
theorem h49 : e49.holds xp 100000 := K.kchk_holds c49 (hc h48 hn)
theorem h50 : e50.holds xp 100000 := K.kchk_holds c50 (hc h49 hn)
theorem h51 : e51.holds xp 100000 := K.kchk_holds c51 (hc h15 hn)
theorem h52 : e52.holds xp 100000 := K.kchk_holds c52 (hc h51 hn)
theorem h53 : e53.holds xp 100000 := K.kchk_holds c53 (hc h52 hn)
theorem h54 : e54.holds xp 100000 := K.kchk_holds c54 (hn)
theorem h55 : e55.holds xp 100000 := K.kchk_holds c55 (hc h54 hn)
theorem h56 : e56.holds xp 100000 := K.kchk_holds c56 (hc h55 hn)
theorem h57 : e57.holds xp 100000 := K.kchk_holds c57 (hc h15 hn)
theorem h58 : e58.holds xp 100000 := K.kchk_holds c58 (hc h57 hn)
theorem h59 : e59.holds xp 100000 := K.kchk_holds c59 (hc h58 hn)
theorem h60 : e60.holds xp 100000 := K.kchk_holds c60 (hn)
theorem h61 : e61.holds xp 100000 := K.kchk_holds c61 (hc h60 hn)
theorem h62 : e62.holds xp 100000 := K.kchk_holds c62 (hn)
theorem h63 : e63.holds xp 100000 := K.kchk_holds c63 (hc h62 hn)
theorem h64 : e64.holds xp 100000 := K.kchk_holds c64 (hc h15 (hc h63 hn))
theorem h65 : e65.holds xp 100000 := K.kchk_holds c65 (hn)
theorem h66 : e66.holds xp 100000 := K.kchk_holds c66 (hc h65 hn)
theorem h67 : e67.holds xp 100000 := K.kchk_holds c67 (hc h66 hn)
theorem h68 : e68.holds xp 100000 := K.kchk_holds c68 (hc h67 hn)
theorem h69 : e69.holds xp 100000 := K.kchk_holds c69 (hn)
theorem h70 : e70.holds xp 100000 := K.kchk_holds c70 (hn)
theorem h71 : e71.holds xp 100000 := K.kchk_holds c71 (hc h69 (hc h70 hn))
theorem h72 : e72.holds xp 100000 := K.kchk_holds c72 (hc h69 (hc h70 hn))
theorem h73 : e73.holds xp 100000 := K.kchk_holds c73 (hc h71 (hc h72 hn))
theorem h74 : e74.holds xp 100000 := K.kchk_holds c74 (hc h73 hn)
theorem h75 : e75.holds xp 100000 := K.kchk_holds c75 (hc h15 (hc h29 (hc h44 (hc h47 (hc h50 (hc h53 (hc h56 (hc h59 (hc h61 (hc h64 (hc h68 (hc h74 hn))))))))))))
theorem h76 : e76.holds xp 100000 := K.kchk_holds c76 (hn)
theorem h77 : e77.holds xp 100000 := K.kchk_holds c77 (hn)
theorem h78 : e78.holds xp 100000 := K.kchk_holds c78 (hn)
theorem h79 : e79.holds xp 100000 := K.kchk_holds c79 (hc h78 hn)
theorem h80 : e80.holds xp 100000 := K.kchk_holds c80 (hc h79 hn)
theorem h81 : e81.holds xp 100000 := K.kchk_holds c81 (hc h80 hn)
theorem h82 : e82.holds xp 100000 := K.kchk_holds c82 (hc h77 hn)
theorem h83 : e83.holds xp 100000 := K.kchk_holds c83 (hn)
theorem h84 : e84.holds xp 100000 := K.kchk_holds c84 (hc h83 hn)
theorem h85 : e85.holds xp 100000 := K.kchk_holds c85 (hc h68 (hc h77 (hc h80 (hc h81 (hc h82 (hc h84 hn))))))
theorem h86 : e86.holds xp 100000 := K.kchk_holds c86 (hc h46 hn)
theorem h87 : e87.holds xp 100000 := K.kchk_holds c87 (hc h48 hn)
theorem h88 : e88.holds xp 100000 := K.kchk_holds c88 (hc h87 hn)
theorem h89 : e89.holds xp 100000 := K.kchk_holds c89 (hc h52 hn)
theorem h90 : e90.holds xp 100000 := K.kchk_holds c90 (hc h58 hn)
theorem h91 : e91.holds xp 100000 := K.kchk_holds c91 (hn)
theorem h92 : e92.holds xp 100000 := K.kchk_holds c92 (hc h91 hn)
theorem h93 : e93.holds xp 100000 := K.kchk_holds c93 (hc h15 (hc h29 (hc h44 (hc h64 (hc h86 (hc h88 (hc h89 (hc h90 (hc h92 hn)))))))))
theorem h94 : e94.holds xp 100000 := K.kchk_holds c94 (hn)
theorem h95 : e95.holds xp 100000 := K.kchk_holds c95 (hn)
theorem h96 : e96.holds xp 100000 := K.kchk_holds c96 (hn)
theorem h97 : e97.holds xp 100000 := K.kchk_holds c97 (hn)
theorem h98 : e98.holds xp 100000 := K.kchk_holds c98 (hn)
theorem h99 : e99.holds xp 100000 := K.kchk_holds c99 (hn)
theorem h100 : e100.holds xp 100000 := K.kchk_holds c100 (hc h95 (hc h96 (hc h97 (hc h98 (hc h99 hn)))))
theorem h101 : e101.holds xp 100000 := K.kchk_holds c101 (hn)
theorem h102 : e102.holds xp 100000 := K.kchk_holds c102 (hn)
theorem h103 : e103.holds xp 100000 := K.kchk_holds c103 (hn)
theorem h104 : e104.holds xp 100000 := K.kchk_holds c104 (hc h96 (hc h101 (hc h102 (hc h103 hn))))
theorem h105 : e105.holds xp 100000 := K.kchk_holds c105 (hn)
theorem h106 : e106.holds xp 100000 := K.kchk_holds c106 (hn)
theorem h107 : e107.holds xp 100000 := K.kchk_holds c107 (hc h95 (hc h96 (hc h99 (hc h105 (hc h106 hn)))))
theorem h108 : e108.holds xp 100000 := K.kchk_holds c108 (hc h103 hn)
theorem h109 : e109.holds xp 100000 := K.kchk_holds c109 (hn)
theorem h110 : e110.holds xp 100000 := K.kchk_holds c110 (hn)
theorem h111 : e111.holds xp 100000 := K.kchk_holds c111 (hc h110 hn)
theorem h112 : e112.holds xp 100000 := K.kchk_holds c112 (hn)
theorem h113 : e113.holds xp 100000 := K.kchk_holds c113 (hn)
theorem h114 : e114.holds xp 100000 := K.kchk_holds c114 (hc h113 hn)
theorem h115 : e115.holds xp 100000 := K.kchk_holds c115 (hn)
theorem h116 : e116.holds xp 100000 := K.kchk_holds c116 (hn)
theorem h117 : e117.holds xp 100000 := K.kchk_holds c117 (hc h100 (hc h104 (hc h107 (hc h108 (hc h109 (hc h111 (hc h112 (hc h114 (hc h115 (hc h116 hn))))))))))
theorem h118 : e118.holds xp 100000 := K.kchk_holds c118 (hn)
theorem h119 : e119.holds xp 100000 := K.kchk_holds c119 (hn)
theorem h120 : e120.holds xp 100000 := K.kchk_holds c120 (hc h119 hn)
theorem h121 : e121.holds xp 100000 := K.kchk_holds c121 (hn)
theorem h122 : e122.holds xp 100000 := K.kchk_holds c122 (hc h118 (hc h120 (hc h121 hn)))
theorem h123 : e123.holds xp 100000 := K.kchk_holds c123 (hc h122 hn)
theorem h124 : e124.holds xp 100000 := K.kchk_holds c124 (hn)
theorem h125 : e125.holds xp 100000 := K.kchk_holds c125 (hc h124 hn)
theorem h126 : e126.holds xp 100000 := K.kchk_holds c126 (hc h125 hn)
theorem h127 : e127.holds xp 100000 := K.kchk_holds c127 (hn)
theorem h128 : e128.holds xp 100000 := K.kchk_holds c128 (hc h127 hn)
theorem h129 : e129.holds xp 100000 := K.kchk_holds c129 (hc h128 hn)
theorem h130 : e130.holds xp 100000 := K.kchk_holds c130 (hc h129 hn)
theorem h131 : e131.holds xp 100000 := K.kchk_holds c131 (hc h22 (hc h123 (hc h126 (hc h130 hn))))
theorem h132 : e132.holds xp 100000 := K.kchk_holds c132 (hn)
theorem h133 : e133.holds xp 100000 := K.kchk_holds c133 (hc h132 hn)
theorem h134 : e134.holds xp 100000 := K.kchk_holds c134 (hc h118 (hc h121 (hc h133 hn)))
theorem h135 : e135.holds xp 100000 := K.kchk_holds c135 (hc h134 hn)
theorem h136 : e136.holds xp 100000 := K.kchk_holds c136 (hn)
theorem h137 : e137.holds xp 100000 := K.kchk_holds c137 (hc h136 hn)
theorem h138 : e138.holds xp 100000 := K.kchk_holds c138 (hc h137 hn)
theorem h139 : e139.holds xp 100000 := K.kchk_holds c139 (hn)
theorem h140 : e140.holds xp 100000 := K.kchk_holds c140 (hc h139 hn)
theorem h141 : e141.holds xp 100000 := K.kchk_holds c141 (hc h36 (hc h38 (hc h135 (hc h138 (hc h140 hn)))))
theorem h142 : e142.holds xp 100000 := K.kchk_holds c142 (hn)
theorem h143 : e143.holds xp 100000 := K.kchk_holds c143 (hc h15 (hc h131 (hc h141 (hc h142 hn))))
theorem h144 : e144.holds xp 100000 := K.kchk_holds c144 (hc h143 hn)
theorem h145 : e145.holds xp 100000 := K.kchk_holds c145 (hc h117 (hc h144 hn))
theorem h146 : e146.holds xp 100000 := K.kchk_holds c146 (hc h100 (hc h104 (hc h107 (hc h108 (hc h109 (hc h111 (hc h112 (hc h114 (hc h115 (hc h116 hn))))))))))
theorem h147 : e147.holds xp 100000 := K.kchk_holds c147 (hn)
theorem h148 : e148.holds xp 100000 := K.kchk_holds c148 (hc h15 (hc h131 (hc h141 (hc h147 hn))))
theorem h149 : e149.holds xp 100000 := K.kchk_holds c149 (hn)
theorem h150 : e150.holds xp 100000 := K.kchk_holds c150 (hc h149 hn)
theorem h151 : e151.holds xp 100000 := K.kchk_holds c151 (hc h150 hn)
theorem h152 : e152.holds xp 100000 := K.kchk_holds c152 (hn)
theorem h153 : e153.holds xp 100000 := K.kchk_holds c153 (hc h152 hn)
theorem h154 : e154.holds xp 100000 := K.kchk_holds c154 (hc h153 hn)
theorem h155 : e155.holds xp 100000 := K.kchk_holds c155 (hc h67 hn)
theorem h156 : e156.holds xp 100000 := K.kchk_holds c156 (hc h154 (hc h155 hn))
theorem h157 : e157.holds xp 100000 := K.kchk_holds c157 (hn)
theorem h158 : e158.holds xp 100000 := K.kchk_holds c158 (hc h69 (hc h157 hn))
theorem h159 : e159.holds xp 100000 := K.kchk_holds c159 (hc h158 hn)
theorem h160 : e160.holds xp 100000 := K.kchk_holds c160 (hc h71 (hc h72 hn))
theorem h161 : e161.holds xp 100000 := K.kchk_holds c161 (hc h64 (hc h148 (hc h151 (hc h156 (hc h159 (hc h160 hn))))))
theorem h162 : e162.holds xp 100000 := K.kchk_holds c162 (hc h146 (hc h161 hn))
theorem h163 : e163.holds xp 100000 := K.kchk_holds c163 (hc h100 (hc h104 (hc h107 (hc h108 (hc h109 (hc h111 (hc h112 (hc h114 (hc h115 (hc h116 hn))))))))))
theorem h164 : e164.holds xp 100000 := K.kchk_holds c164 (hc h64 (hc h148 hn))
theorem h165 : e165.holds xp 100000 := K.kchk_holds c165 (hc h163 (hc h164 hn))
theorem h166 : e166.holds xp 100000 := K.kchk_holds c166 (hc h165 hn)
theorem h167 : e167.holds xp 100000 := K.kchk_holds c167 (hc h162 hn)
theorem h168 : e168.holds xp 100000 := K.kchk_holds c168 (hc h162 hn)
theorem h169 : e169.holds xp 100000 := K.kchk_holds c169 (hn)
theorem h170 : e170.holds xp 100000 := K.kchk_holds c170 (hc h169 hn)
theorem h171 : e171.holds xp 100000 := K.kchk_holds c171 (hc h36 (hc h170 hn))
theorem h172 : e172.holds xp 100000 := K.kchk_holds c172 (hc h171 hn)
theorem h173 : e173.holds xp 100000 := K.kchk_holds c173 (hn)
theorem h174 : e174.holds xp 100000 := K.kchk_holds c174 (hn)
theorem h175 : e175.holds xp 100000 := K.kchk_holds c175 (hn)
theorem h176 : e176.holds xp 100000 := K.kchk_holds c176 (hc h174 (hc h175 hn))
theorem h177 : e177.holds xp 100000 := K.kchk_holds c177 (hc h176 hn)
theorem h178 : e178.holds xp 100000 := K.kchk_holds c178 (hn)
theorem h179 : e179.holds xp 100000 := K.kchk_holds c179 (hn)
theorem h180 : e180.holds xp 100000 := K.kchk_holds c180 (hc h22 (hc h177 (hc h178 (hc h179 hn))))
theorem h181 : e181.holds xp 100000 := K.kchk_holds c181 (hn)
theorem h182 : e182.holds xp 100000 := K.kchk_holds c182 (hc h180 (hc h181 hn))
theorem h183 : e183.holds xp 100000 := K.kchk_holds c183 (hn)
theorem h184 : e184.holds xp 100000 := K.kchk_holds c184 (hn)
theorem h185 : e185.holds xp 100000 := K.kchk_holds c185 (hc h180 (hc h183 (hc h184 hn)))
theorem h186 : e186.holds xp 100000 := K.kchk_holds c186 (hc h182 (hc h185 hn))
theorem h187 : e187.holds xp 100000 := K.kchk_holds c187 (hn)
theorem h188 : e188.holds xp 100000 := K.kchk_holds c188 (hn)
theorem h189 : e189.holds xp 100000 := K.kchk_holds c189 (hc h173 (hc h186 (hc h187 (hc h188 hn))))
theorem h190 : e190.holds xp 100000 := K.kchk_holds c190 (hn)
theorem h191 : e191.holds xp 100000 := K.kchk_holds c191 (hc h174 (hc h190 hn))
theorem h192 : e192.holds xp 100000 := K.kchk_holds c192 (hc h191 hn)
theorem h193 : e193.holds xp 100000 := K.kchk_holds c193 (hn)
theorem h194 : e194.holds xp 100000 := K.kchk_holds c194 (hn)
theorem h195 : e195.holds xp 100000 := K.kchk_holds c195 (hc h194 hn)
theorem h196 : e196.holds xp 100000 := K.kchk_holds c196 (hc h36 (hc h192 (hc h193 (hc h195 hn))))
theorem h197 : e197.holds xp 100000 := K.kchk_holds c197 (hn)
theorem h198 : e198.holds xp 100000 := K.kchk_holds c198 (hc h196 (hc h197 hn))
theorem h199 : e199.holds xp 100000 := K.kchk_holds c199 (hn)
theorem h200 : e200.holds xp 100000 := K.kchk_holds c200 (hn)
theorem h201 : e201.holds xp 100000 := K.kchk_holds c201 (hc h38 (hc h192 (hc h199 (hc h200 hn))))
theorem h202 : e202.holds xp 100000 := K.kchk_holds c202 (hn)
theorem h203 : e203.holds xp 100000 := K.kchk_holds c203 (hc h201 (hc h202 hn))
theorem h204 : e204.holds xp 100000 := K.kchk_holds c204 (hc h198 (hc h203 hn))
theorem h205 : e205.holds xp 100000 := K.kchk_holds c205 (hn)
theorem h206 : e206.holds xp 100000 := K.kchk_holds c206 (hn)
theorem h207 : e207.holds xp 100000 := K.kchk_holds c207 (hc h196 (hc h206 hn))
theorem h208 : e208.holds xp 100000 := K.kchk_holds c208 (hn)
theorem h209 : e209.holds xp 100000 := K.kchk_holds c209 (hc h184 (hc h201 (hc h208 hn)))
theorem h210 : e210.holds xp 100000 := K.kchk_holds c210 (hc h207 (hc h209 hn))
theorem h211 : e211.holds xp 100000 := K.kchk_holds c211 (hn)
theorem h212 : e212.holds xp 100000 := K.kchk_holds c212 (hc h204 (hc h205 (hc h210 (hc h211 hn))))
theorem h213 : e213.holds xp 100000 := K.kchk_holds c213 (hc h189 (hc h212 hn))
theorem h214 : e214.holds xp 100000 := K.kchk_holds c214 (hc h53 (hc h189 (hc h212 (hc h213 hn))))
theorem h215 : e215.holds xp 100000 := K.kchk_holds c215 (hn)
theorem h216 : e216.holds xp 100000 := K.kchk_holds c216 (hc h215 hn)
theorem h217 : e217.holds xp 100000 := K.kchk_holds c217 (hc h189 hn)
theorem h218 : e218.holds xp 100000 := K.kchk_holds c218 (hc h59 (hc h189 (hc h217 hn)))
theorem h219 : e219.holds xp 100000 := K.kchk_holds c219 (hn)
theorem h220 : e220.holds xp 100000 := K.kchk_holds c220 (hc h219 hn)
theorem h221 : e221.holds xp 100000 := K.kchk_holds c221 (hn)
theorem h222 : e222.holds xp 100000 := K.kchk_holds c222 (hn)
theorem h223 : e223.holds xp 100000 := K.kchk_holds c223 (hc h222 hn)
theorem h224 : e224.holds xp 100000 := K.kchk_holds c224 (hc h221 (hc h223 hn))
theorem h225 : e225.holds xp 100000 := K.kchk_holds c225 (hc h171 hn)
theorem h226 : e226.holds xp 100000 := K.kchk_holds c226 (hn)
theorem h227 : e227.holds xp 100000 := K.kchk_holds c227 (hn)
theorem h228 : e228.holds xp 100000 := K.kchk_holds c228 (hc h223 (hc h227 hn))
theorem h229 : e229.holds xp 100000 := K.kchk_holds c229 (hc h171 hn)
theorem h230 : e230.holds xp 100000 := K.kchk_holds c230 (hn)
theorem h231 : e231.holds xp 100000 := K.kchk_holds c231 (hn)
theorem h232 : e232.holds xp 100000 := K.kchk_holds c232 (hc h216 (hc h221 hn))
theorem h233 : e233.holds xp 100000 := K.kchk_holds c233 (hc h171 hn)
theorem h234 : e234.holds xp 100000 := K.kchk_holds c234 (hn)
theorem h235 : e235.holds xp 100000 := K.kchk_holds c235 (hc h223 (hc h234 hn))
theorem h236 : e236.holds xp 100000 := K.kchk_holds c236 (hn)
theorem h237 : e237.holds xp 100000 := K.kchk_holds c237 (hc h221 (hc h223 hn))
theorem h238 : e238.holds xp 100000 := K.kchk_holds c238 (hn)
theorem h239 : e239.holds xp 100000 := K.kchk_holds c239 (hc h171 hn)
theorem h240 : e240.holds xp 100000 := K.kchk_holds c240 (hn)
theorem h241 : e241.holds xp 100000 := K.kchk_holds c241 (hc h100 (hc h104 (hc h107 (hc h108 (hc h109 (hc h111 (hc h112 (hc h114 (hc h115 (hc h116 hn))))))))))
theorem h242 : e242.holds xp 100000 := K.kchk_holds c242 (hn)
theorem h243 : e243.holds xp 100000 := K.kchk_holds c243 (hc h15 (hc h131 (hc h141 (hc h242 hn))))
theorem h244 : e244.holds xp 100000 := K.kchk_holds c244 (hc h64 (hc h151 (hc h156 (hc h159 (hc h160 (hc h243 hn))))))
theorem h245 : e245.holds xp 100000 := K.kchk_holds c245 (hc h241 (hc h244 hn))
theorem h246 : e246.holds xp 100000 := K.kchk_holds c246 (hc h52 hn)
theorem h247 : e247.holds xp 100000 := K.kchk_holds c247 (hc h174 (hc h190 hn))
theorem h248 : e248.holds xp 100000 := K.kchk_holds c248 (hc h247 hn)
theorem h249 : e249.holds xp 100000 := K.kchk_holds c249 (hn)
theorem h250 : e250.holds xp 100000 := K.kchk_holds c250 (hc h249 hn)
theorem h251 : e251.holds xp 100000 := K.kchk_holds c251 (hc h36 (hc h193 (hc h248 (hc h250 hn))))
theorem h252 : e252.holds xp 100000 := K.kchk_holds c252 (hn)
theorem h253 : e253.holds xp 100000 := K.kchk_holds c253 (hc h251 (hc h252 hn))
theorem h254 : e254.holds xp 100000 := K.kchk_holds c254 (hn)
theorem h255 : e255.holds xp 100000 := K.kchk_holds c255 (hc h38 (hc h199 (hc h248 (hc h254 hn))))
theorem h256 : e256.holds xp 100000 := K.kchk_holds c256 (hn)
theorem h257 : e257.holds xp 100000 := K.kchk_holds c257 (hc h255 (hc h256 hn))
theorem h258 : e258.holds xp 100000 := K.kchk_holds c258 (hc h253 (hc h257 hn))
theorem h259 : e259.holds xp 100000 := K.kchk_holds c259 (hn)
theorem h260 : e260.holds xp 100000 := K.kchk_holds c260 (hc h258 (hc h259 hn))
theorem h261 : e261.holds xp 100000 := K.kchk_holds c261 (hc h189 (hc h212 (hc h260 hn)))
theorem h262 : e262.holds xp 100000 := K.kchk_holds c262 (hc h189 (hc h212 (hc h246 (hc h260 (hc h261 hn)))))
theorem h263 : e263.holds xp 100000 := K.kchk_holds c263 (hc h58 hn)
theorem h264 : e264.holds xp 100000 := K.kchk_holds c264 (hc h189 (hc h212 (hc h213 (hc h263 hn))))
theorem h265 : e265.holds xp 100000 := K.kchk_holds c265 (hn)
theorem h266 : e266.holds xp 100000 := K.kchk_holds c266 (hc h265 hn)
theorem h267 : e267.holds xp 100000 := K.kchk_holds c267 (hn)
theorem h268 : e268.holds xp 100000 := K.kchk_holds c268 (hc h223 (hc h267 hn))
theorem h269 : e269.holds xp 100000 := K.kchk_holds c269 (hn)
theorem h270 : e270.holds xp 100000 := K.kchk_holds c270 (hn)
theorem h271 : e271.holds xp 100000 := K.kchk_holds c271 (hc h223 (hc h270 hn))
theorem h272 : e272.holds xp 100000 := K.kchk_holds c272 (hc h171 hn)
theorem h273 : e273.holds xp 100000 := K.kchk_holds c273 (hc h52 hn)
theorem h274 : e274.holds xp 100000 := K.kchk_holds c274 (hc h194 hn)
theorem h275 : e275.holds xp 100000 := K.kchk_holds c275 (hc h36 (hc h177 (hc h193 (hc h274 hn))))
theorem h276 : e276.holds xp 100000 := K.kchk_holds c276 (hn)
theorem h277 : e277.holds xp 100000 := K.kchk_holds c277 (hc h275 (hc h276 hn))
theorem h278 : e278.holds xp 100000 := K.kchk_holds c278 (hn)
theorem h279 : e279.holds xp 100000 := K.kchk_holds c279 (hc h38 (hc h177 (hc h199 (hc h278 hn))))
theorem h280 : e280.holds xp 100000 := K.kchk_holds c280 (hc h181 (hc h279 hn))
theorem h281 : e281.holds xp 100000 := K.kchk_holds c281 (hc h277 (hc h280 hn))
theorem h282 : e282.holds xp 100000 := K.kchk_holds c282 (hn)
theorem h283 : e283.holds xp 100000 := K.kchk_holds c283 (hc h183 (hc h275 hn))
theorem h284 : e284.holds xp 100000 := K.kchk_holds c284 (hn)
theorem h285 : e285.holds xp 100000 := K.kchk_holds c285 (hc h184 (hc h279 (hc h284 hn)))
theorem h286 : e286.holds xp 100000 := K.kchk_holds c286 (hc h283 (hc h285 hn))
theorem h287 : e287.holds xp 100000 := K.kchk_holds c287 (hc h211 (hc h281 (hc h282 (hc h286 hn))))
theorem h288 : e288.holds xp 100000 := K.kchk_holds c288 (hn)
theorem h289 : e289.holds xp 100000 := K.kchk_holds c289 (hc h174 (hc h175 hn))
theorem h290 : e290.holds xp 100000 := K.kchk_holds c290 (hc h289 hn)
theorem h291 : e291.holds xp 100000 := K.kchk_holds c291 (hn)
theorem h292 : e292.holds xp 100000 := K.kchk_holds c292 (hc h22 (hc h178 (hc h290 (hc h291 hn))))
theorem h293 : e293.holds xp 100000 := K.kchk_holds c293 (hn)
theorem h294 : e294.holds xp 100000 := K.kchk_holds c294 (hc h292 (hc h293 hn))
theorem h295 : e295.holds xp 100000 := K.kchk_holds c295 (hn)
theorem h296 : e296.holds xp 100000 := K.kchk_holds c296 (hc h292 (hc h295 hn))
theorem h297 : e297.holds xp 100000 := K.kchk_holds c297 (hc h294 (hc h296 hn))
theorem h298 : e298.holds xp 100000 := K.kchk_holds c298 (hc h288 (hc h297 hn))
theorem h299 : e299.holds xp 100000 := K.kchk_holds c299 (hc h249 hn)
theorem h300 : e300.holds xp 100000 := K.kchk_holds c300 (hc h36 (hc h193 (hc h290 (hc h299 hn))))
theorem h301 : e301.holds xp 100000 := K.kchk_holds c301 (hn)
theorem h302 : e302.holds xp 100000 := K.kchk_holds c302 (hc h300 (hc h301 hn))
theorem h303 : e303.holds xp 100000 := K.kchk_holds c303 (hn)
theorem h304 : e304.holds xp 100000 := K.kchk_holds c304 (hc h38 (hc h199 (hc h290 (hc h303 hn))))
theorem h305 : e305.holds xp 100000 := K.kchk_holds c305 (hc h293 (hc h304 hn))
theorem h306 : e306.holds xp 100000 := K.kchk_holds c306 (hc h302 (hc h305 hn))
theorem h307 : e307.holds xp 100000 := K.kchk_holds c307 (hn)
theorem h308 : e308.holds xp 100000 := K.kchk_holds c308 (hc h306 (hc h307 hn))
theorem h309 : e309.holds xp 100000 := K.kchk_holds c309 (hc h287 (hc h298 (hc h308 hn)))
theorem h310 : e310.holds xp 100000 := K.kchk_holds c310 (hc h273 (hc h287 (hc h298 (hc h308 (hc h309 hn)))))
theorem h311 : e311.holds xp 100000 := K.kchk_holds c311 (hn)
theorem h312 : e312.holds xp 100000 := K.kchk_holds c312 (hc h311 hn)
theorem h313 : e313.holds xp 100000 := K.kchk_holds c313 (hc h58 hn)
theorem h314 : e314.holds xp 100000 := K.kchk_holds c314 (hc h287 (hc h298 hn))
theorem h315 : e315.holds xp 100000 := K.kchk_holds c315 (hc h287 (hc h298 (hc h313 (hc h314 hn))))
theorem h316 : e316.holds xp 100000 := K.kchk_holds c316 (hn)
theorem h317 : e317.holds xp 100000 := K.kchk_holds c317 (hc h316 hn)
theorem h318 : e318.holds xp 100000 := K.kchk_holds c318 (hc h15 (hc h63 (hc h64 (hc h216 (hc h230 (hc h240 (hc h262 (hc h273 (hc h287 (hc h298 (hc h308 (hc h309 (hc h310 (hc h312 (hc h313 (hc h314 (hc h315 (hc h317 hn))))))))))))))))))
theorem h319 : e319.holds xp 100000 := K.kchk_holds c319 (hn)
theorem h320 : e320.holds xp 100000 := K.kchk_holds c320 (hc h223 (hc h319 hn))
theorem h321 : e321.holds xp 100000 := K.kchk_holds c321 (hc h171 hn)
theorem h322 : e322.holds xp 100000 := K.kchk_holds c322 (hc h171 hn)
theorem h323 : e323.holds xp 100000 := K.kchk_holds c323 (hc h221 (hc h223 hn))
theorem h324 : e324.holds xp 100000 := K.kchk_holds c324 (hc h171 hn)
theorem h325 : e325.holds xp 100000 := K.kchk_holds c325 (hc h171 hn)
theorem h326 : e326.holds xp 100000 := K.kchk_holds c326 (hn)
theorem h327 : e327.holds xp 100000 := K.kchk_holds c327 (hc h221 (hc h223 hn))
theorem h328 : e328.holds xp 100000 := K.kchk_holds c328 (hn)
theorem h329 : e329.holds xp 100000 := K.kchk_holds c329 (hc h100 (hc h104 (hc h107 (hc h108 (hc h109 (hc h111 (hc h112 (hc h114 (hc h115 (hc h116 hn))))))))))
theorem h330 : e330.holds xp 100000 := K.kchk_holds c330 (hc h15 (hc h141 hn))
theorem h331 : e331.holds xp 100000 := K.kchk_holds c331 (hc h330 hn)
theorem h332 : e332.holds xp 100000 := K.kchk_holds c332 (hc h329 (hc h331 hn))
theorem h333 : e333.holds xp 100000 := K.kchk_holds c333 (hc h221 (hc h223 hn))
theorem h334 : e334.holds xp 100000 := K.kchk_holds c334 (hc h171 hn)
theorem h335 : e335.holds xp 100000 := K.kchk_holds c335 (hc h100 (hc h104 (hc h107 (hc h108 (hc h109 (hc h111 (hc h112 (hc h114 (hc h115 (hc h116 hn))))))))))
theorem h336 : e336.holds xp 100000 := K.kchk_holds c336 (hn)
theorem h337 : e337.holds xp 100000 := K.kchk_holds c337 (hc h336 hn)
theorem h338 : e338.holds xp 100000 := K.kchk_holds c338 (hc h337 hn)
theorem h339 : e339.holds xp 100000 := K.kchk_holds c339 (hn)
theorem h340 : e340.holds xp 100000 := K.kchk_holds c340 (hc h339 hn)
theorem h341 : e341.holds xp 100000 := K.kchk_holds c341 (hc h64 (hc h156 (hc h160 (hc h243 (hc h338 (hc h340 hn))))))
theorem h342 : e342.holds xp 100000 := K.kchk_holds c342 (hc h335 (hc h341 hn))
theorem h343 : e343.holds xp 100000 := K.kchk_holds c343 (hc h171 hn)
theorem h344 : e344.holds xp 100000 := K.kchk_holds c344 (hn)
theorem h345 : e345.holds xp 100000 := K.kchk_holds c345 (hn)
theorem h346 : e346.holds xp 100000 := K.kchk_holds c346 (hn)
theorem h347 : e347.holds xp 100000 := K.kchk_holds c347 (hc h223 (hc h346 hn))
theorem h348 : e348.holds xp 100000 := K.kchk_holds c348 (hn)
theorem h349 : e349.holds xp 100000 := K.kchk_holds c349 (hc h221 hn)
theorem h350 : e350.holds xp 100000 := K.kchk_holds c350 (hn)
theorem h351 : e351.holds xp 100000 := K.kchk_holds c351 (hn)
theorem h352 : e352.holds xp 100000 := K.kchk_holds c352 (hn)
theorem h353 : e353.holds xp 100000 := K.kchk_holds c353 (hc h171 (hc h222 (hc h352 hn)))
theorem h354 : e354.holds xp 100000 := K.kchk_holds c354 (hc h353 hn)
theorem h355 : e355.holds xp 100000 := K.kchk_holds c355 (hn)
theorem h356 : e356.holds xp 100000 := K.kchk_holds c356 (hc h131 (hc h141 hn))
theorem h357 : e357.holds xp 100000 := K.kchk_holds c357 (hc h356 hn)
theorem h358 : e358.holds xp 100000 := K.kchk_holds c358 (hc h357 hn)
theorem h359 : e359.holds xp 100000 := K.kchk_holds c359 (hc h158 (hc h358 hn))
theorem h360 : e360.holds xp 100000 := K.kchk_holds c360 (hc h131 (hc h158 hn))
theorem h361 : e361.holds xp 100000 := K.kchk_holds c361 (hn)
theorem h362 : e362.holds xp 100000 := K.kchk_holds c362 (hc h124 (hc h361 hn))
theorem h363 : e363.holds xp 100000 := K.kchk_holds c363 (hn)
theorem h364 : e364.holds xp 100000 := K.kchk_holds c364 (hc h124 (hc h363 hn))
theorem h365 : e365.holds xp 100000 := K.kchk_holds c365 (hn)
theorem h366 : e366.holds xp 100000 := K.kchk_holds c366 (hn)
theorem h367 : e367.holds xp 100000 := K.kchk_holds c367 (hc h127 (hc h363 (hc h365 (hc h366 hn))))
theorem h368 : e368.holds xp 100000 := K.kchk_holds c368 (hc h367 hn)
theorem h369 : e369.holds xp 100000 := K.kchk_holds c369 (hn)
theorem h370 : e370.holds xp 100000 := K.kchk_holds c370 (hc h182 (hc h185 (hc h360 (hc h362 (hc h364 (hc h368 (hc h369 hn)))))))
theorem h371 : e371.holds xp 100000 := K.kchk_holds c371 (hc h72 (hc h141 hn))
theorem h372 : e372.holds xp 100000 := K.kchk_holds c372 (hc h136 (hc h361 hn))
theorem h373 : e373.holds xp 100000 := K.kchk_holds c373 (hn)
theorem h374 : e374.holds xp 100000 := K.kchk_holds c374 (hc h136 (hc h373 hn))
theorem h375 : e375.holds xp 100000 := K.kchk_holds c375 (hn)
theorem h376 : e376.holds xp 100000 := K.kchk_holds c376 (hn)
theorem h377 : e377.holds xp 100000 := K.kchk_holds c377 (hc h198 (hc h203 (hc h207 (hc h209 (hc h371 (hc h372 (hc h374 (hc h375 (hc h376 hn)))))))))
theorem h378 : e378.holds xp 100000 := K.kchk_holds c378 (hc h182 (hc h185 (hc h360 (hc h362 (hc h364 (hc h368 (hc h369 (hc h370 (hc h377 hn)))))))))
theorem h379 : e379.holds xp 100000 := K.kchk_holds c379 (hc h378 hn)
theorem h380 : e380.holds xp 100000 := K.kchk_holds c380 (hc h359 (hc h379 hn))
theorem h381 : e381.holds xp 100000 := K.kchk_holds c381 (hc h131 hn)
theorem h382 : e382.holds xp 100000 := K.kchk_holds c382 (hc h381 hn)
theorem h383 : e383.holds xp 100000 := K.kchk_holds c383 (hc h382 hn)
theorem h384 : e384.holds xp 100000 := K.kchk_holds c384 (hc h158 (hc h383 hn))
theorem h385 : e385.holds xp 100000 := K.kchk_holds c385 (hc h182 (hc h185 (hc h360 (hc h362 (hc h364 (hc h368 (hc h369 (hc h370 hn))))))))
theorem h386 : e386.holds xp 100000 := K.kchk_holds c386 (hc h385 hn)
theorem h387 : e387.holds xp 100000 := K.kchk_holds c387 (hc h384 (hc h386 hn))
theorem h388 : e388.holds xp 100000 := K.kchk_holds c388 (hc h52 (hc h58 (hc h64 (hc h161 (hc h182 (hc h185 (hc h216 (hc h220 (hc h355 (hc h359 (hc h360 (hc h362 (hc h364 (hc h368 (hc h369 (hc h370 (hc h377 (hc h378 (hc h379 (hc h380 (hc h384 (hc h385 (hc h386 (hc h387 hn))))))))))))))))))))))))
theorem h389 : e389.holds xp 100000 := K.kchk_holds c389 (hc h350 (hc h388 hn))
theorem h390 : e390.holds xp 100000 := K.kchk_holds c390 (hc h389 hn)
theorem h391 : e391.holds xp 100000 := K.kchk_holds c391 (hc h353 hn)
theorem h392 : e392.holds xp 100000 := K.kchk_holds c392 (hn)
theorem h393 : e393.holds xp 100000 := K.kchk_holds c393 (hc h131 (hc h141 hn))
theorem h394 : e394.holds xp 100000 := K.kchk_holds c394 (hc h393 hn)
theorem h395 : e395.holds xp 100000 := K.kchk_holds c395 (hc h394 hn)
theorem h396 : e396.holds xp 100000 := K.kchk_holds c396 (hc h158 (hc h395 hn))
theorem h397 : e397.holds xp 100000 := K.kchk_holds c397 (hc h71 (hc h141 hn))
theorem h398 : e398.holds xp 100000 := K.kchk_holds c398 (hc h253 (hc h257 (hc h372 (hc h374 (hc h397 hn)))))
theorem h399 : e399.holds xp 100000 := K.kchk_holds c399 (hc h182 (hc h185 (hc h360 (hc h362 (hc h364 (hc h368 (hc h369 (hc h370 (hc h377 (hc h398 hn))))))))))
theorem h400 : e400.holds xp 100000 := K.kchk_holds c400 (hc h399 hn)
theorem h401 : e401.holds xp 100000 := K.kchk_holds c401 (hc h396 (hc h400 hn))
theorem h402 : e402.holds xp 100000 := K.kchk_holds c402 (hc h52 (hc h58 (hc h64 (hc h182 (hc h185 (hc h216 (hc h244 (hc h266 (hc h355 (hc h359 (hc h360 (hc h362 (hc h364 (hc h368 (hc h369 (hc h370 (hc h377 (hc h378 (hc h379 (hc h380 (hc h396 (hc h399 (hc h400 (hc h401 hn))))))))))))))))))))))))
theorem h403 : e403.holds xp 100000 := K.kchk_holds c403 (hc h392 (hc h402 hn))
theorem h404 : e404.holds xp 100000 := K.kchk_holds c404 (hc h403 hn)
theorem h405 : e405.holds xp 100000 := K.kchk_holds c405 (hc h353 hn)
theorem h406 : e406.holds xp 100000 := K.kchk_holds c406 (hn)
theorem h407 : e407.holds xp 100000 := K.kchk_holds c407 (hc h353 hn)
theorem h408 : e408.holds xp 100000 := K.kchk_holds c408 (hc h52 (hc h58 (hc h64 (hc h161 (hc h182 (hc h185 (hc h216 (hc h220 (hc h355 (hc h359 (hc h360 (hc h362 (hc h364 (hc h368 (hc h369 (hc h370 (hc h377 (hc h378 (hc h379 (hc h380 (hc h384 (hc h385 (hc h386 (hc h387 hn))))))))))))))))))))))))
theorem h409 : e409.holds xp 100000 := K.kchk_holds c409 (hc h408 hn)
theorem h410 : e410.holds xp 100000 := K.kchk_holds c410 (hc h409 hn)
theorem h411 : e411.holds xp 100000 := K.kchk_holds c411 (hc h15 (hc h53 (hc h54 (hc h59 (hc h63 (hc h64 (hc h162 (hc h172 (hc h189 (hc h212 (hc h213 (hc h214 (hc h216 (hc h217 (hc h218 (hc h220 (hc h224 (hc h225 (hc h226 (hc h228 (hc h239 (hc h240 (hc h245 (hc h246 (hc h260 (hc h261 (hc h262 (hc h263 (hc h264 (hc h266 (hc h268 (hc h321 (hc h350 (hc h351 (hc h354 (hc h390 (hc h391 (hc h392 (hc h404 (hc h405 (hc h406 (hc h407 (hc h410 hn)))))))))))))))))))))))))))))))))))))))))))
theorem h412 : e412.holds xp 100000 := K.kchk_holds c412 (hc h29 (hc h44 hn))
theorem h413 : e413.holds xp 100000 := K.kchk_holds c413 (hc h412 hn)
theorem h414 : e414.holds xp 100000 := K.kchk_holds c414 (hc h158 (hc h213 (hc h413 hn)))
theorem h415 : e415.holds xp 100000 := K.kchk_holds c415 (hn)
theorem h416 : e416.holds xp 100000 := K.kchk_holds c416 (hc h15 (hc h29 (hc h44 (hc h47 (hc h50 (hc h53 (hc h56 (hc h59 (hc h61 (hc h64 (hc h68 (hc h74 (hc h158 hn)))))))))))))
theorem h417 : e417.holds xp 100000 := K.kchk_holds c417 (hn)
theorem h418 : e418.holds xp 100000 := K.kchk_holds c418 (hc h417 hn)
theorem h419 : e419.holds xp 100000 := K.kchk_holds c419 (hc h19 (hc h36 (hc h38 (hc h41 (hc h418 hn)))))
theorem h420 : e420.holds xp 100000 := K.kchk_holds c420 (hc h46 hn)
theorem h421 : e421.holds xp 100000 := K.kchk_holds c421 (hc h48 hn)
theorem h422 : e422.holds xp 100000 := K.kchk_holds c422 (hc h421 hn)
theorem h423 : e423.holds xp 100000 := K.kchk_holds c423 (hc h52 hn)
theorem h424 : e424.holds xp 100000 := K.kchk_holds c424 (hc h326 hn)
theorem h425 : e425.holds xp 100000 := K.kchk_holds c425 (hc h424 hn)
theorem h426 : e426.holds xp 100000 := K.kchk_holds c426 (hc h58 hn)
theorem h427 : e427.holds xp 100000 := K.kchk_holds c427 (hn)
theorem h428 : e428.holds xp 100000 := K.kchk_holds c428 (hc h427 hn)
theorem h429 : e429.holds xp 100000 := K.kchk_holds c429 (hc h15 (hc h29 (hc h64 (hc h68 (hc h74 (hc h158 (hc h419 (hc h420 (hc h422 (hc h423 (hc h425 (hc h426 (hc h428 hn)))))))))))))
theorem h430 : e430.holds xp 100000 := K.kchk_holds c430 (hn)
theorem h431 : e431.holds xp 100000 := K.kchk_holds c431 (hc h0 (hc h1 (hc h2 (hc h3 (hc h4 (hc h158 (hc h189 (hc h212 (hc h213 (hc h411 (hc h413 (hc h414 (hc h415 (hc h416 (hc h429 (hc h430 hn))))))))))))))))
theorem h432 : e432.holds xp 100000 := K.kchk_holds c432 (hc h0 (hc h1 (hc h2 (hc h3 (hc h4 (hc h6 (hc h8 (hc h15 (hc h48 (hc h53 (hc h54 (hc h59 (hc h63 (hc h64 (hc h75 (hc h76 (hc h85 (hc h93 (hc h94 (hc h145 (hc h162 (hc h166 (hc h167 (hc h168 (hc h172 (hc h189 (hc h212 (hc h213 (hc h214 (hc h216 (hc h217 (hc h218 (hc h220 (hc h224 (hc h225 (hc h226 (hc h228 (hc h229 (hc h230 (hc h231 (hc h232 (hc h233 (hc h235 (hc h236 (hc h237 (hc h238 (hc h239 (hc h240 (hc h245 (hc h246 (hc h260 (hc h261 (hc h262 (hc h263 (hc h264 (hc h266 (hc h268 (hc h269 (hc h271 (hc h272 (hc h318 (hc h320 (hc h321 (hc h322 (hc h323 (hc h324 (hc h325 (hc h326 (hc h327 (hc h328 (hc h332 (hc h333 (hc h334 (hc h342 (hc h343 (hc h344 (hc h345 (hc h347 (hc h348 (hc h349 (hc h431 hn)))))))))))))))))))))))))))))))))))))))))))))))))))))))))))))))))))))))))))))))))
end Go.VC.Tz

/- What a row's laid variables are to the machine: tables of numbers. -/
namespace Go.VC
open Go Go.RowKit Go.ChangeShapes

section
variable {H : Type} {enc : TypeId × Value → H} {P : Program} {w : World} {base fuel : Nat} {sp : Nat → Bool} {held : Bool} {t e : TypeId} {cs : List Value} {d : DataW H} {p : List MemPlace}

/-- A number that is laid, as a value of the machine. -/
def litV : DataW H → V
  | .lit (.int k n) => .int k n
  | _ => .und

theorem laid_one (he : ∃ k, P.underlying e = some (.int k)) (h : DataW.trod enc P w base sp held fuel e cs = some (d, p)) : ∃ k n, cs = [.int k n] ∧ litV d = .int k n := by
  obtain ⟨k, he⟩ := he
  obtain ⟨n, h1, h2, _⟩ := DataW.trod_int he h
  simp only [Prod.mk.injEq] at h2
  obtain ⟨rfl, _⟩ := h2
  exact ⟨k, n, h1, rfl⟩

/-- A table of numbers. -/
theorem laid_ints {n : Nat} {ds : List (DataW H)} (ht : P.underlying t = some (.array n e)) (he : ∃ k, P.underlying e = some (.int k)) (h1 : P.cellsOf e = 1)
    (h : DataW.trod enc P w base sp held fuel t cs = some (.agg ds, p)) (g : G) : ∀ (j : Nat) (c : V), (ds.map litV)[j]? = some c → ∃ v : Value, cs[j]? = some v ∧ VR w g c v := by
  obtain ⟨xs, m, _, hx, hl, hn, hel⟩ := DataW.trod_array ht h
  simp only [Prod.mk.injEq, DataW.agg.injEq] at hx
  obtain ⟨rfl, _⟩ := hx
  intro j c hj
  simp only [List.getElem?_map, Option.map_eq_some_iff] at hj
  obtain ⟨d, ⟨x, hxj, rfl⟩, rfl⟩ := hj
  have hjn : j < n := by rw [← hn]; exact (List.getElem?_eq_some_iff.1 hxj).1
  have h2 := hel j hjn
  rw [hxj, h1] at h2
  obtain ⟨k, v, h3, h4⟩ := laid_one he (d := x.1) (p := x.2) h2
  rw [Nat.mul_one] at h3
  have : cs[j]? = some (.int k v) := by
    have h5 : ((cs.drop j).take 1)[0]? = some (.int k v) := by rw [h3]; rfl
    rw [List.getElem?_take_of_lt (by omega), List.getElem?_drop] at h5
    simpa using h5
  exact ⟨_, this, by rw [h4]; exact .int _ _⟩

/-- The numbers of a struct of two, one after the other. -/
def litVs : DataW H → List V
  | .agg ds => ds.map litV
  | _ => []

/-- A table of pairs of numbers. -/
theorem laid_pairs {n : Nat} {ds : List (DataW H)} {fs : Array Field} {f0 f1 : Field} (ht : P.underlying t = some (.array n e)) (hs : P.underlying e = some (.struct fs)) (hf : fs = #[f0, f1]) (o0 : f0.offset = 0) (o1 : f1.offset = 1)
    (he0 : ∃ k, P.underlying f0.type = some (.int k)) (he1 : ∃ k, P.underlying f1.type = some (.int k)) (h0 : P.cellsOf f0.type = 1) (h1 : P.cellsOf f1.type = 1) (h2 : P.cellsOf e = 2)
    (h : DataW.trod enc P w base sp held fuel t cs = some (.agg ds, p)) (g : G) : ∀ (j : Nat) (c : V), ((ds.map litVs).flatten)[j]? = some c → ∃ v : Value, cs[j]? = some v ∧ VR w g c v := by
  obtain ⟨xs, m, _, hx, hl, hn, hel⟩ := DataW.trod_array ht h
  simp only [Prod.mk.injEq, DataW.agg.injEq] at hx
  obtain ⟨rfl, _⟩ := hx
  have key : ∀ (i : Nat) x, xs[i]? = some x → ∃ a b, litVs x.1 = [a, b] ∧ (∃ v : Value, cs[i * 2]? = some v ∧ VR w g a v) ∧ ∃ v : Value, cs[i * 2 + 1]? = some v ∧ VR w g b v := by
    intro i x hi
    have hin : i < n := by rw [← hn]; exact (List.getElem?_eq_some_iff.1 hi).1
    have h3 := hel i hin
    rw [hi, h2] at h3
    obtain ⟨ys, m2, _, hy, hyl, hyn, hye⟩ := DataW.trod_struct hs h3
    subst hf
    have hlen : ys.length = 2 := by simpa using hyn
    match ys, hlen, hy, hye with
    | [y0, y1], _, hy, hye =>
      have e0 := hye 0 f0 rfl
      have e1 := hye 1 f1 rfl
      rw [o0, h0] at e0
      rw [o1, h1] at e1
      obtain ⟨k0, v0, c0, l0⟩ := laid_one he0 (d := y0.1) (p := y0.2) e0
      obtain ⟨k1, v1, c1, l1⟩ := laid_one he1 (d := y1.1) (p := y1.2) e1
      have hx1 : x.1 = .agg [y0.1, y1.1] := by rw [hy]; rfl
      refine ⟨litV y0.1, litV y1.1, by rw [hx1]; rfl, ⟨.int k0 v0, ?_, by rw [l0]; exact .int _ _⟩, ⟨.int k1 v1, ?_, by rw [l1]; exact .int _ _⟩⟩
      · have h5 : ((((cs.drop (i * 2)).take 2).drop 0).take 1)[0]? = some (.int k0 v0) := by rw [c0]; rfl
        rw [List.drop_zero, List.getElem?_take_of_lt (by omega), List.getElem?_take_of_lt (by omega), List.getElem?_drop] at h5
        simpa using h5
      · have h5 : ((((cs.drop (i * 2)).take 2).drop 1).take 1)[0]? = some (.int k1 v1) := by rw [c1]; rfl
        rw [List.getElem?_take_of_lt (by omega), List.getElem?_drop, List.getElem?_take_of_lt (by omega), List.getElem?_drop] at h5
        simpa using h5
  clear hel hn h ht
  intro j c hj
  have main : ∀ (xs : List (DataW H × List MemPlace)) (o j : Nat), (∀ (i : Nat) x, xs[i]? = some x → ∃ a b, litVs x.1 = [a, b] ∧ (∃ v : Value, cs[(o + i) * 2]? = some v ∧ VR w g a v) ∧ ∃ v : Value, cs[(o + i) * 2 + 1]? = some v ∧ VR w g b v) →
      (((xs.map (·.1)).map litVs).flatten)[j]? = some c → ∃ v : Value, cs[o * 2 + j]? = some v ∧ VR w g c v := by
    intro xs
    induction xs with
    | nil => intro o j _ hj; simp at hj
    | cons x xs ih =>
      intro o j hk hj
      obtain ⟨a, b, h3, h4, h5⟩ := hk 0 x rfl
      simp only [List.map_cons, List.flatten_cons, h3] at hj
      match j, hj with
      | 0, hj =>
        simp only [List.cons_append, List.getElem?_cons_zero, Option.some.injEq] at hj
        subst hj
        simpa using h4
      | 1, hj =>
        simp only [List.cons_append, List.nil_append, List.getElem?_cons_succ, List.getElem?_cons_zero, Option.some.injEq] at hj
        subst hj
        simpa using h5
      | j + 2, hj =>
        simp only [List.cons_append, List.nil_append, List.getElem?_cons_succ] at hj
        obtain ⟨v, h6, h7⟩ := ih (o + 1) j (fun i x hx => by
          have := hk (i + 1) x (by simpa using hx)
          simpa only [Nat.add_assoc, Nat.add_comm 1 i] using this) hj
        exact ⟨v, by rw [← h6]; congr 1; omega, h7⟩
  simpa using main xs 0 j (fun i x hx => by simpa using key i x hx) hj

end
end Go.VC

/- What a row's laid variables are to the machine: a table of numbers and functions; a map. -/
namespace Go.VC
open Go Go.RowKit Go.ChangeShapes

section
variable {P : Program} {w : World} {base fuel : Nat} {sp : Nat → Bool} {t e : TypeId} {cs : List Value} {p : List MemPlace}

theorem funcToken_some {ty : TypeId} {v : Value} {b : UInt8} {r : List UInt8} (h : funcToken P (ty, v) = b :: r) : ∃ f fn, v = .func (.func f) #[] #[] ∧ P.funcs[f]? = some fn ∧ P.funcNamed fn.name = some f ∧ fn.name.toUTF8.data.toList = b :: r := by
  cases v <;> simp only [funcToken, reduceCtorEq] at h
  rename_i f first caps
  cases f <;> simp only [reduceCtorEq] at h
  rename_i f
  split at h <;> first | (cases h; done) | skip
  rename_i hc
  split at h <;> first | (cases h; done) | skip
  rename_i fn hf
  split at h <;> first | (cases h; done) | skip
  rename_i hn
  simp only [Bool.and_eq_true, Array.isEmpty_iff] at hc
  obtain ⟨rfl, rfl⟩ := hc
  exact ⟨f, fn, rfl, hf, by simpa using hn, h⟩

theorem laid_func {ps rs : Array TypeId} {vd : Bool} {cs : List Value} {tok : List UInt8} (ht : P.underlying t = some (.func ps rs vd)) (h : DataW.trod (funcToken P) P w base sp true fuel t cs = some (.held tok, p)) : ∃ v, cs = [v] ∧ tok = funcToken P (t, v) := by
  cases fuel with
  | zero => simp [DataW.trod] at h
  | succ n =>
    unfold DataW.trod at h
    rw [ht] at h
    split at h <;> simp_all

theorem plain_addr {a : Addr} {v : Value} (h : w.cell? a = some v) : a = ⟨a.block, a.off, none⟩ := by
  obtain ⟨b, o, s⟩ := a
  cases s with
  | none => rfl
  | some k =>
    unfold World.cell? at h
    split at h <;> first | (cases h; done) | (simp at h)

theorem laid_rows {fs : Array Field} {f0 f1 : Field} {ps rs : Array TypeId} {vd : Bool} {ds sps : List (DataW (List UInt8))} (ht : P.underlying t = some (.slice e)) (hs : P.underlying e = some (.struct fs)) (hf : fs = #[f0, f1]) (o0 : f0.offset = 0) (o1 : f1.offset = 1)
    (he0 : ∃ k, P.underlying f0.type = some (.int k)) (he1 : P.underlying f1.type = some (.func ps rs vd)) (h0 : P.cellsOf f0.type = 1) (h1 : P.cellsOf f1.type = 1) (h2 : P.cellsOf e = 2) (hne : ds ≠ [])
    (hd : ∀ d ∈ ds, ∃ x tok, d = .agg [x, .held tok])
    (h : DataW.trod (funcToken P) P w base sp true fuel t cs = some (.slice ds sps, p)) :
    ∃ blk off cap, cs = [.slice (some ⟨blk, off, none⟩) ds.length cap] ∧ ds.length ≤ cap ∧ ∀ (i : Nat) d, ds[i]? = some d → ∃ k n fv tok x, d = .agg [x, .held tok] ∧ litV x = .int k n ∧ w.cell? ⟨blk, off + i * 2, none⟩ = some (.int k n) ∧ w.cell? ⟨blk, off + i * 2 + 1, none⟩ = some fv ∧ tok = funcToken P (f1.type, fv) := by
  rcases DataW.trod_slice ht h with ⟨_, hx⟩ | ⟨a, len, cap, elems, rest, n, rfl, rfl, hx, _, hlc, _, hel, hes, _⟩
  · cases hx
  simp only [Prod.mk.injEq, DataW.slice.injEq] at hx
  obtain ⟨⟨rfl, rfl⟩, _⟩ := hx
  have key : ∀ (i : Nat) x, elems[i]? = some x → ∃ k n fv tok y, x.1 = .agg [y, .held tok] ∧ litV y = .int k n ∧ w.cell? (a.add (i * 2)) = some (.int k n) ∧ w.cell? ((a.add (i * 2)).add 1) = some fv ∧ tok = funcToken P (f1.type, fv) := by
    intro i x hi
    have hin : i < len := by rw [← hel]; exact (List.getElem?_eq_some_iff.1 hi).1
    have h3 := hes i hin
    rw [hi, h2] at h3
    obtain ⟨cl, hcl, h4⟩ := Option.bind_eq_some_iff.1 h3
    obtain ⟨_, hclen, hce⟩ := World.cells?_some hcl
    obtain ⟨ys, m2, _, hy, hyl, hyn, hye⟩ := DataW.trod_struct hs h4
    subst hf
    have hlen : ys.length = 2 := by simpa using hyn
    match ys, hlen, hy, hye with
    | [y0, y1], _, hy, hye =>
      have e0 := hye 0 f0 rfl
      have e1 := hye 1 f1 rfl
      rw [o0, h0] at e0
      rw [o1, h1] at e1
      obtain ⟨k0, v0, c0, l0⟩ := laid_one he0 (d := y0.1) (p := y0.2) e0
      obtain ⟨y, tok, hxd⟩ := hd x.1 (List.mem_map.2 ⟨x, List.mem_of_getElem? hi, rfl⟩)
      have hx1 : x.1 = .agg [y0.1, y1.1] := by rw [hy]; rfl
      rw [hx1] at hxd
      simp only [DataW.agg.injEq, List.cons.injEq, and_true] at hxd
      obtain ⟨rfl, hy1⟩ := hxd
      have e1' : DataW.trod (funcToken P) P w base sp true m2 f1.type ((cl.drop 1).take 1) = some (.held tok, y1.2) := by
        rw [← hy1]; exact e1
      obtain ⟨fv, c1, htok⟩ := laid_func he1 e1'
      have g0 : cl[0]? = some (.int k0 v0) := by
        have : ((cl.drop 0).take 1)[0]? = some (.int k0 v0) := by rw [c0]; rfl
        rw [List.getElem?_take_of_lt (by omega), List.getElem?_drop] at this
        simpa using this
      have g1 : cl[1]? = some fv := by
        have : ((cl.drop 1).take 1)[0]? = some fv := by rw [c1]; rfl
        rw [List.getElem?_take_of_lt (by omega), List.getElem?_drop] at this
        simpa using this
      refine ⟨k0, v0, fv, tok, y0.1, by rw [hx1, hy1], l0, ?_, ?_, htok⟩
      · have := hce 0 (by omega)
        rw [g0] at this
        simpa [Addr.add] using this
      · have := hce 1 (by omega)
        rw [g1] at this
        exact this
  have hlen : 0 < elems.length := by
    cases elems with
    | nil => simp at hne
    | cons x xs => simp
  obtain ⟨k, n2, fv, tok, y, _, _, hc0, _⟩ := key 0 elems[0] (by simp [hlen])
  have ha := plain_addr (a := a) (v := .int k n2) (by simpa [Addr.add] using hc0)
  refine ⟨a.block, a.off, cap, ?_, by simpa [hel] using hlc, fun i d hi => ?_⟩
  · rw [List.length_map, hel, ← ha]
  · simp only [List.getElem?_map, Option.map_eq_some_iff] at hi
    obtain ⟨x, hx, rfl⟩ := hi
    obtain ⟨k, n, fv, tok, y, g1, g2, g3, g4, g5⟩ := key i x hx
    have e1 : a.add (i * 2) = ⟨a.block, a.off + i * 2, none⟩ := by
      unfold Addr.add
      by_cases hz : i * 2 = 0
      · rw [if_pos hz, hz]; exact ha
      · rw [if_neg hz]
    rw [e1] at g3 g4
    exact ⟨k, n, fv, tok, y, g1, g2, g3, by simpa [Addr.add] using g4, g5⟩

end
end Go.VC

/- What a row's laid variables are to the machine: a map from numbers to numbers. -/
namespace Go.VC
open Go Go.RowKit Go.ChangeShapes Go.WideMaps

section
variable {H : Type} {enc : TypeId × Value → H} {P : Program} {w : World} {base fuel : Nat} {sp : Nat → Bool} {held : Bool} {t k e : TypeId} {kk kd : IntKind} {cs : List Value} {p : List MemPlace}

/-- A map of numbers that is laid: some block holds it, in whatever order. -/
theorem laid_map {U : List (Lit × DataW H)} (ht : P.underlying t = some (.map k e)) (hk : P.underlying k = some (.int kk)) (he : P.underlying e = some (.int kd)) (h : DataW.trod enc P w base sp held fuel t cs = some (.map U, p)) :
    ∃ r, cs = [.map (some r)] ∧ r < w.heap.size ∧ ∀ g : G, g.I r 0 → VR w g (.pmap (U.map fun p => litV (H := H) (.lit p.1)) (U.map fun p => litV p.2)) (.map (some r)) := by
  rcases open_map ht he h with ⟨_, hx⟩ | ⟨b, es, clock, rfl, hb, _, F, hx⟩
  · cases hx
  simp only [Prod.mk.injEq, DataW.map.injEq] at hx
  obtain ⟨rfl, _⟩ := hx
  have hlt : b < w.heap.size := (Array.getElem?_eq_some_iff.1 hb).1
  have hperm := Go.WideShapes.sorted_perm (es.toList.map (rg H P k kd))
  have key : ∀ x ∈ es.toList, ∃ a n, x.key = .int kk a ∧ x.val = .int kd n ∧ rg H P k kd x = (.int kk a, .lit (.int kd n)) := by
    intro x hx
    obtain ⟨y, hy⟩ := F.reads x hx
    have h1 := rd_key hy
    obtain ⟨n, h2, h3, _⟩ := rd_val hy
    have hmk : keyOf P k x.key = mapKey P k x.key := by unfold keyOf; rw [hk]
    rw [hmk] at h1
    unfold mapKey at h1
    rw [hk] at h1
    split at h1 <;> first | (cases h1; done) | skip
    · rename_i e1 _; cases e1
    · rename_i q q' m e1 e2
      cases e1
      split at h1 <;> first | (cases h1; done) | skip
      rename_i hc
      simp only [Option.some.injEq] at h1
      refine ⟨m, n, by rw [e2, hc.1], h2, ?_⟩
      show (rd P k kd x).getD _ = _
      rw [hy]
      show y = _
      obtain ⟨y1, y2⟩ := y
      simp only at h1 h3
      rw [← h1, h3]
    · rename_i e1 _; cases e1
  refine ⟨b, rfl, hlt, fun g hI => ?_⟩
  refine .pmap _ _ b clock es ((es.toList.map (rg H P k kd)).map fun p => litV (H := H) (.lit p.1)) ((es.toList.map (rg H P k kd)).map fun p => litV p.2) ?_ ?_ (by simp) hI hb (by simp) (by simp) ?_ ?_
  · rw [List.zip_map', List.zip_map']
    exact (hperm.symm).map _
  · simp only [List.length_map]
    have := hperm.length_eq
    simpa using this.symm
  · intro i x kv hx hkv
    simp only [List.map_map, List.getElem?_map, Option.map_eq_some_iff] at hkv
    obtain ⟨y, hy, rfl⟩ := hkv
    have hxy : y = x := by
      rw [Array.getElem?_toList] at hy
      exact (Option.some.inj (hx.symm.trans hy)).symm
    subst hxy
    obtain ⟨a, n, h1, h2, h3⟩ := key y (List.mem_of_getElem? hy)
    show VR w _ (litV (H := H) (.lit (rg H P k kd y).1)) y.key
    rw [h3, h1]
    exact .int _ _
  · intro i x kv hx hkv
    simp only [List.map_map, List.getElem?_map, Option.map_eq_some_iff] at hkv
    obtain ⟨y, hy, rfl⟩ := hkv
    have hxy : y = x := by
      rw [Array.getElem?_toList] at hy
      exact (Option.some.inj (hx.symm.trans hy)).symm
    subst hxy
    obtain ⟨a, n, h1, h2, h3⟩ := key y (List.mem_of_getElem? hy)
    show VR w _ (litV (rg H P k kd y).2) y.val
    rw [h3, h2]
    exact .int _ _

end
end Go.VC

/- The variables that JudgeKnown's row lists are to the machine what its tables say. -/
namespace Go.VC.Tz
open Go Go.VC Go.RowKit Go.ChangeShapes Go.Proofs Go.Proofs.YtibgbgjocbaflaaGreatDoor

section
variable {W : World} {g : G}

theorem pref_of {cs : Array Value} {n : Nat} {l : List V} (hv : ∀ i, W.cell? ⟨n, i, none⟩ = cs[i]?) (hI : ∀ o, g.I n o) (h : ∀ (j : Nat) (c : V), l[j]? = some c → ∃ v : Value, cs.toList[j]? = some v ∧ VR W (pureG g.I) c v) : VR W g (.pref l) (.pointer (some ⟨n, 0, none⟩)) := by
  refine .pref l n 0 (fun j => (cs[j]?).getD undef) (fun j c _ => hI _) (fun j c hj => ?_) (fun j c hj => ?_)
  · obtain ⟨v, h1, _⟩ := h j c hj
    rw [Nat.zero_add, hv]
    rw [Array.getElem?_toList] at h1
    simp [h1]
  · obtain ⟨v, h1, h2⟩ := h j c hj
    rw [Array.getElem?_toList] at h1
    simpa [h1] using h2

theorem knownLaid : (Rows.judgeKnownRow.laid.filter fun x => x.2.handleName?.isSome) = [("ablaut/judge.questions", Rows.laid_ablaut_judge_questions)] := by kernel_rfl
theorem knownPlain : (Rows.judgeKnownRow.laid.filter fun x => x.2.handleName?.isNone) = [("math/bits.deBruijn64tab", Rows.laid_math_bits_deBruijn64tab), ("unicode/utf8.acceptRanges", Rows.laid_unicode_utf8_acceptRanges), ("ablaut/judge.uses", Rows.laid_ablaut_judge_uses), ("unicode/utf8.first", Rows.laid_unicode_utf8_first)] := by kernel_rfl

theorem g0 : Tryz.prog.globalNamed "ablaut/judge.questions" = some 0 := by kernel_rfl
theorem g1 : Tryz.prog.globalNamed "ablaut/judge.uses" = some 1 := by kernel_rfl
theorem g2 : Tryz.prog.globalNamed "math/bits.deBruijn64tab" = some 2 := by kernel_rfl
theorem g4 : Tryz.prog.globalNamed "unicode/utf8.first" = some 4 := by kernel_rfl
theorem g5 : Tryz.prog.globalNamed "unicode/utf8.acceptRanges" = some 5 := by kernel_rfl
theorem t0 : (Tryz.prog.globals[0]?).map (·.type) = some 147 := by kernel_rfl
theorem t1 : (Tryz.prog.globals[1]?).map (·.type) = some 205 := by kernel_rfl
theorem t2 : (Tryz.prog.globals[2]?).map (·.type) = some 370 := by kernel_rfl
theorem t4 : (Tryz.prog.globals[4]?).map (·.type) = some 382 := by kernel_rfl
theorem t5 : (Tryz.prog.globals[5]?).map (·.type) = some 385 := by kernel_rfl

def dbl : List (DataW Unit) := match (Rows.laid_math_bits_deBruijn64tab : DataW Unit) with | .agg l => l | _ => []
def acl : List (DataW Unit) := match (Rows.laid_unicode_utf8_acceptRanges : DataW Unit) with | .agg l => l | _ => []
def fsl : List (DataW Unit) := match (Rows.laid_unicode_utf8_first : DataW Unit) with | .agg l => l | _ => []
def usl : List (Lit × DataW Unit) := match (Rows.laid_ablaut_judge_uses : DataW Unit) with | .map l => l | _ => []
def qul : List (DataW (List UInt8)) := match (Rows.laid_ablaut_judge_questions : DataW Unit) with
  | .iface _ d => (match d.funcsOut with | .slice l _ => l | _ => [])
  | _ => []

theorem dbl_eq : dbl.map litV = debr := by kernel_rfl
theorem acl_eq : (acl.map litVs).flatten = accr := by kernel_rfl
theorem fsl_eq : fsl.map litV = fst8 := by kernel_rfl
theorem usl_eq : V.pmap (usl.map fun p => litV (H := Unit) (.lit p.1)) (usl.map fun p => litV p.2) = usesV := by kernel_rfl

theorem plain_of_laid (hL : laidMetH Tryz.prog Rows.judgeKnownRow.laid W) (hI : ∀ b o, b < W.heap.size → g.I b o) :
    VR W g (.pref debr) (.pointer (some ⟨2, 0, none⟩)) ∧ VR W g (.pref accr) (.pointer (some ⟨5, 0, none⟩)) ∧ VR W g (.pref fst8) (.pointer (some ⟨4, 0, none⟩)) ∧ VR W g (.pref [usesV]) (.pointer (some ⟨1, 0, none⟩)) := by
  unfold laidMetH at hL
  rw [knownLaid, knownPlain] at hL
  obtain ⟨⟨ps, ⟨n2, ty2, cs2, f2, p2, q2, hg2, ht2, hv2, hd2, ⟨n5, ty5, cs5, f5, p5, q5, hg5, ht5, hv5, hd5, ⟨n1, ty1, cs1, f1, p1, q1, hg1, ht1, hv1, hd1, ⟨n4, ty4, cs4, f4, p4, q4, hg4, ht4, hv4, hd4, _, _⟩, _⟩, _⟩, _⟩, _, _⟩, _⟩ := hL
  obtain rfl := Option.some.inj (g2.symm.trans hg2)
  obtain rfl := Option.some.inj (g5.symm.trans hg5)
  obtain rfl := Option.some.inj (g1.symm.trans hg1)
  obtain rfl := Option.some.inj (g4.symm.trans hg4)
  obtain rfl := Option.some.inj (t2.symm.trans ht2)
  obtain rfl := Option.some.inj (t5.symm.trans ht5)
  obtain rfl := Option.some.inj (t1.symm.trans ht1)
  obtain rfl := Option.some.inj (t4.symm.trans ht4)
  have lt : ∀ {n : Nat} {nm : String} {cs : Array Value}, Tryz.prog.globalNamed nm = some n → W.var? Tryz.prog nm = some cs → 0 < cs.size → n < W.heap.size := by
    intro n nm cs hg hv hs
    have := World.var?_cell hg hv 0
    rw [Array.getElem?_eq_getElem hs] at this
    unfold World.cell? at this
    split at this <;> first | (cases this; done) | skip
    rename_i hh
    exact (Array.getElem?_eq_some_iff.1 hh).1
  have sz : ∀ {cs : Array Value} {l : List V} {g : G}, 0 < l.length → (∀ (j : Nat) (c : V), l[j]? = some c → ∃ v : Value, cs.toList[j]? = some v ∧ VR W g c v) → 0 < cs.size := by
    intro cs l g hl h
    obtain ⟨v, h1, _⟩ := h 0 l[0] (by simp [hl])
    rw [Array.getElem?_toList] at h1
    exact (Array.getElem?_eq_some_iff.1 h1).1
  have d2 : ∀ (j : Nat) (c : V), debr[j]? = some c → ∃ v : Value, cs2.toList[j]? = some v ∧ VR W (pureG g.I) c v := by
    rw [← dbl_eq]
    exact laid_ints (n := 64) (e := 5) (ds := dbl) (by kernel_rfl) ⟨.u8, by kernel_rfl⟩ (by kernel_rfl) hd2 _
  have d4 : ∀ (j : Nat) (c : V), fst8[j]? = some c → ∃ v : Value, cs4.toList[j]? = some v ∧ VR W (pureG g.I) c v := by
    rw [← fsl_eq]
    exact laid_ints (n := 256) (e := 5) (ds := fsl) (by kernel_rfl) ⟨.u8, by kernel_rfl⟩ (by kernel_rfl) hd4 _
  have d5 : ∀ (j : Nat) (c : V), accr[j]? = some c → ∃ v : Value, cs5.toList[j]? = some v ∧ VR W (pureG g.I) c v := by
    rw [← acl_eq]
    exact laid_pairs (n := 16) (e := 384) (ds := acl) (f0 := { name := "lo", type := 5, offset := 0, embedded := false, tag := "", pkgPath := "unicode/utf8", byteOffset := 0 }) (f1 := { name := "hi", type := 5, offset := 1, embedded := false, tag := "", pkgPath := "unicode/utf8", byteOffset := 1 }) (by kernel_rfl) (by kernel_rfl) rfl rfl rfl ⟨.u8, by kernel_rfl⟩ ⟨.u8, by kernel_rfl⟩ (by kernel_rfl) (by kernel_rfl) (by kernel_rfl) hd5 _
  have d1 : ∀ (j : Nat) (c : V), [usesV][j]? = some c → ∃ v : Value, cs1.toList[j]? = some v ∧ VR W (pureG g.I) c v := by
    obtain ⟨r, h1, h2, h3⟩ := laid_map (U := usl) (k := 3) (e := 3) (kk := .i64) (kd := .i64) (by kernel_rfl) (by kernel_rfl) (by kernel_rfl) hd1
    intro j c hj
    rw [h1]
    cases j with
    | zero =>
      simp only [List.getElem?_cons_zero, Option.some.injEq] at hj
      subst hj
      rw [← usl_eq]
      exact ⟨_, rfl, h3 _ (hI _ _ h2)⟩
    | succ j => simp at hj
  have l2 := lt g2 hv2 (sz (by decide) d2)
  have l4 := lt g4 hv4 (sz (l := fst8) (by decide +kernel) d4)
  have l5 := lt g5 hv5 (sz (by decide) d5)
  have l1 := lt g1 hv1 (sz (l := [usesV]) (by decide) d1)
  exact ⟨pref_of (fun i => World.var?_cell g2 hv2 i) (fun o => hI _ o l2) d2, pref_of (fun i => World.var?_cell g5 hv5 i) (fun o => hI _ o l5) d5,
    pref_of (fun i => World.var?_cell g4 hv4 i) (fun o => hI _ o l4) d4, pref_of (fun i => World.var?_cell g1 hv1 i) (fun o => hI _ o l1) d1⟩

end
end Go.VC.Tz

