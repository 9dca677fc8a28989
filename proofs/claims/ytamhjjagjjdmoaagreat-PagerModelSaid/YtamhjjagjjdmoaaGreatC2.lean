/- the library's functions, pages and blocks -/
import Derived.Shelf.SlIterI.Nil
import Derived.Shelf.SlIter.Nil
import Derived.Shelf.SortM.Plain
import Derived.Shelf.SortM.SortNone
import Derived.Shelf.SlMaps.Clone
import Derived.Shelf.SlMaps.Copy
import Derived.Shelf.SlicesE.Equal
import Derived.Shelf.SlicesE.Index
import Derived.Ground.GgzProg
import Derived.Ground.SlgmProg
import Derived.Ground.SlgnProg
import Derived.Ground.SlmcProg
import Derived.Ground.SlmpProg
import Derived.Test.YtamhjjagjjdmoaaGreatProg
import Derived.Test.YtamhjjagjjdmoaaGreatC1
import Derived.Deep.RegionHeld3
import Derived.ScopeJumps
section
namespace Go.Proofs
open Go.Shelf
def Tryz.keysI_ren : Go.Shelf.Ren := ⟨fun | 7 => 176 | 10 => 204 | n => n, fun | 23 => 137 | 26 => 3 | 3 => 48 | 28 => 240 | 0 => 0 | 27 => 239 | 33 => 136 | 4 => 4 | n => n, fun | n => n⟩
theorem Tryz.keysI : Go.Proofs.SlLaysZI.n7 Tryz.prog Tryz.keysI_ren := {
  mixed := by kernel_rfl
  f7 := ⟨Tryz.f176.name, by decide, Tryz.func176.trans (congrArg some (by kernel_rfl))⟩
  f10 := ⟨Tryz.f204.name, by decide, Tryz.func204.trans (congrArg some (by kernel_rfl))⟩
  t0 := Tryz.underlying0
  a0 := Tryz.isAgg0
  z0 := Tryz.sizeOf0
  v0 := Tryz.zeroValue0
  t4 := Tryz.underlying4
  a4 := Tryz.isAgg4
  z4 := Tryz.sizeOf4
  v4 := Tryz.zeroValue4
  t23 := Tryz.underlying137
  a23 := Tryz.isAgg137
  z23 := Tryz.sizeOf137
  v23 := Tryz.zeroValue137
  t26 := Tryz.underlying3
  a26 := Tryz.isAgg3
  z26 := Tryz.sizeOf3
  v26 := Tryz.zeroValue3
  t27 := Tryz.underlying239
  a27 := Tryz.isAgg239
  z27 := Tryz.sizeOf239
  v27 := Tryz.zeroValue239
  t28 := Tryz.underlying240
  a28 := Tryz.isAgg240
  z28 := Tryz.sizeOf240
  v28 := Tryz.zeroValue240
  t33 := Tryz.underlying136
  a33 := Tryz.isAgg136
  z33 := Tryz.sizeOf136
  v33 := Tryz.zeroValue136 }
def Tryz.sortedI_ren : Go.Shelf.Ren := ⟨fun | 6 => 175 | 8 => 203 | 9 => 153 | 11 => 226 | 13 => 200 | 12 => 199 | 23 => 223 | 24 => 224 | 14 => 214 | 15 => 215 | 16 => 216 | 17 => 217 | 18 => 218 | 19 => 219 | 20 => 220 | 21 => 221 | 22 => 222 | 25 => 240 | 26 => 241 | 27 => 242 | 28 => 243 | 29 => 244 | 30 => 245 | 31 => 251 | n => n, fun | 26 => 3 | 28 => 240 | 24 => 60 | 0 => 0 | 3 => 3 | 37 => 142 | 48 => 275 | 50 => 220 | 4 => 4 | 40 => 268 | 39 => 267 | 45 => 118 | 5 => 5 | 9 => 9 | 51 => 288 | 55 => 292 | 57 => 296 | 58 => 189 | 33 => 136 | n => n, fun | n => n⟩
theorem Tryz.sortedI : Go.Proofs.SlLaysZI.n6 Tryz.prog Tryz.sortedI_ren := {
  mixed := by kernel_rfl
  f6 := ⟨Tryz.f175.name, by decide, Tryz.func175.trans (congrArg some (by kernel_rfl))⟩
  f8 := ⟨Tryz.f203.name, by decide, Tryz.func203.trans (congrArg some (by kernel_rfl))⟩
  f11 := ⟨Tryz.f226.name, by decide, Tryz.func226.trans (congrArg some (by kernel_rfl))⟩
  t0 := Tryz.underlying0
  a0 := Tryz.isAgg0
  z0 := Tryz.sizeOf0
  v0 := Tryz.zeroValue0
  t24 := Tryz.underlying60
  a24 := Tryz.isAgg60
  z24 := Tryz.sizeOf60
  v24 := Tryz.zeroValue60
  t26 := Tryz.underlying3
  a26 := Tryz.isAgg3
  z26 := Tryz.sizeOf3
  v26 := Tryz.zeroValue3
  t28 := Tryz.underlying240
  a28 := Tryz.isAgg240
  z28 := Tryz.sizeOf240
  v28 := Tryz.zeroValue240
  i26 := by kernel_rfl }
def Tryz.sortI_ren : Go.Shelf.Ren := ⟨fun | 5 => 153 | 8 => 200 | 7 => 199 | 19 => 223 | 20 => 224 | 10 => 214 | 11 => 215 | 12 => 216 | 13 => 217 | 14 => 218 | 15 => 219 | 16 => 220 | 17 => 221 | 18 => 222 | 30 => 240 | 31 => 241 | 32 => 242 | 33 => 243 | 34 => 244 | 35 => 245 | 40 => 251 | n => n, fun | 23 => 60 | 25 => 3 | 3 => 3 | 32 => 142 | 22 => 60 | 0 => 0 | 44 => 275 | 46 => 220 | 4 => 4 | 36 => 268 | 35 => 267 | 41 => 118 | 5 => 5 | 9 => 9 | 53 => 288 | 57 => 292 | 63 => 296 | 64 => 189 | n => n, fun | n => n⟩
theorem Tryz.sortI : Go.Proofs.SlLaysM.n5 Tryz.prog Tryz.sortI_ren := {
  mixed := by kernel_rfl
  f5 := ⟨Tryz.f153.name, by decide, Tryz.func153.trans (congrArg some (by kernel_rfl))⟩
  f7 := ⟨Tryz.f199.name, by decide, Tryz.func199.trans (congrArg some (by kernel_rfl))⟩
  f8 := Tryz.func200.trans (congrArg some (by kernel_rfl))
  f10 := ⟨Tryz.f214.name, by decide, Tryz.func214.trans (congrArg some (by kernel_rfl))⟩
  f11 := ⟨Tryz.f215.name, by decide, Tryz.func215.trans (congrArg some (by kernel_rfl))⟩
  f12 := ⟨Tryz.f216.name, by decide, Tryz.func216.trans (congrArg some (by kernel_rfl))⟩
  f13 := ⟨Tryz.f217.name, by decide, Tryz.func217.trans (congrArg some (by kernel_rfl))⟩
  f14 := ⟨Tryz.f218.name, by decide, Tryz.func218.trans (congrArg some (by kernel_rfl))⟩
  f15 := ⟨Tryz.f219.name, by decide, Tryz.func219.trans (congrArg some (by kernel_rfl))⟩
  f16 := ⟨Tryz.f220.name, by decide, Tryz.func220.trans (congrArg some (by kernel_rfl))⟩
  f17 := ⟨Tryz.f221.name, by decide, Tryz.func221.trans (congrArg some (by kernel_rfl))⟩
  f18 := ⟨Tryz.f222.name, by decide, Tryz.func222.trans (congrArg some (by kernel_rfl))⟩
  f19 := Tryz.func223.trans (congrArg some (by kernel_rfl))
  f20 := Tryz.func224.trans (congrArg some (by kernel_rfl))
  f30 := ⟨Tryz.f240.name, by decide, Tryz.func240.trans (congrArg some (by kernel_rfl))⟩
  f31 := Tryz.func241.trans (congrArg some (by kernel_rfl))
  f32 := Tryz.func242.trans (congrArg some (by kernel_rfl))
  f33 := ⟨Tryz.f243.name, by decide, Tryz.func243.trans (congrArg some (by kernel_rfl))⟩
  f34 := ⟨Tryz.f244.name, by decide, Tryz.func244.trans (congrArg some (by kernel_rfl))⟩
  f35 := ⟨Tryz.f245.name, by decide, Tryz.func245.trans (congrArg some (by kernel_rfl))⟩
  f40 := ⟨Tryz.f251.name, by decide, Tryz.func251.trans (congrArg some (by kernel_rfl))⟩
  t0 := Tryz.underlying0
  a0 := Tryz.isAgg0
  z0 := Tryz.sizeOf0
  v0 := Tryz.zeroValue0
  t3 := Tryz.underlying3
  a3 := Tryz.isAgg3
  z3 := Tryz.sizeOf3
  v3 := Tryz.zeroValue3
  t4 := Tryz.underlying4
  a4 := Tryz.isAgg4
  z4 := Tryz.sizeOf4
  v4 := Tryz.zeroValue4
  t5 := Tryz.underlying5
  a5 := Tryz.isAgg5
  z5 := Tryz.sizeOf5
  v5 := Tryz.zeroValue5
  t9 := Tryz.underlying9
  a9 := Tryz.isAgg9
  z9 := Tryz.sizeOf9
  v9 := Tryz.zeroValue9
  t22 := Tryz.underlying60
  a22 := Tryz.isAgg60
  z22 := Tryz.sizeOf60
  v22 := Tryz.zeroValue60
  t23 := Tryz.underlying60
  a23 := Tryz.isAgg60
  z23 := Tryz.sizeOf60
  v23 := Tryz.zeroValue60
  t25 := Tryz.underlying3
  a25 := Tryz.isAgg3
  z25 := Tryz.sizeOf3
  v25 := Tryz.zeroValue3
  t32 := Tryz.underlying142
  a32 := Tryz.isAgg142
  z32 := Tryz.sizeOf142
  v32 := Tryz.zeroValue142
  t35 := Tryz.underlying267
  a35 := Tryz.isAgg267
  z35 := Tryz.sizeOf267
  v35 := Tryz.zeroValue267
  t36 := Tryz.underlying268
  a36 := Tryz.isAgg268
  z36 := Tryz.sizeOf268
  v36 := Tryz.zeroValue268
  t41 := Tryz.underlying118
  a41 := Tryz.isAgg118
  z41 := Tryz.sizeOf118
  v41 := Tryz.zeroValue118
  t44 := Tryz.underlying275
  a44 := Tryz.isAgg275
  z44 := Tryz.sizeOf275
  v44 := Tryz.zeroValue275
  t46 := Tryz.underlying220
  a46 := Tryz.isAgg220
  z46 := Tryz.sizeOf220
  v46 := Tryz.zeroValue220
  t53 := Tryz.underlying288
  a53 := Tryz.isAgg288
  z53 := Tryz.sizeOf288
  v53 := Tryz.zeroValue288
  t57 := Tryz.underlying292
  a57 := Tryz.isAgg292
  z57 := Tryz.sizeOf292
  v57 := Tryz.zeroValue292
  t63 := Tryz.underlying296
  a63 := Tryz.isAgg296
  z63 := Tryz.sizeOf296
  v63 := Tryz.zeroValue296
  t64 := Tryz.underlying189
  a64 := Tryz.isAgg189
  z64 := Tryz.sizeOf189
  v64 := Tryz.zeroValue189 }
def Tryz.keysS_ren : Go.Shelf.Ren := ⟨fun | 7 => 128 | 10 => 182 | n => n, fun | 23 => 124 | 26 => 9 | 3 => 129 | 28 => 187 | 0 => 0 | 27 => 186 | 33 => 128 | 4 => 4 | n => n, fun | n => n⟩
theorem Tryz.keysS : Go.Proofs.SlLaysZ.n7 Tryz.prog Tryz.keysS_ren := {
  mixed := by kernel_rfl
  f7 := ⟨Tryz.f128.name, by decide, Tryz.func128.trans (congrArg some (by kernel_rfl))⟩
  f10 := ⟨Tryz.f182.name, by decide, Tryz.func182.trans (congrArg some (by kernel_rfl))⟩
  t0 := Tryz.underlying0
  a0 := Tryz.isAgg0
  z0 := Tryz.sizeOf0
  v0 := Tryz.zeroValue0
  t4 := Tryz.underlying4
  a4 := Tryz.isAgg4
  z4 := Tryz.sizeOf4
  v4 := Tryz.zeroValue4
  t23 := Tryz.underlying124
  a23 := Tryz.isAgg124
  z23 := Tryz.sizeOf124
  v23 := Tryz.zeroValue124
  t26 := Tryz.underlying9
  a26 := Tryz.isAgg9
  z26 := Tryz.sizeOf9
  v26 := Tryz.zeroValue9
  t27 := Tryz.underlying186
  a27 := Tryz.isAgg186
  z27 := Tryz.sizeOf186
  v27 := Tryz.zeroValue186
  t28 := Tryz.underlying187
  a28 := Tryz.isAgg187
  z28 := Tryz.sizeOf187
  v28 := Tryz.zeroValue187
  t33 := Tryz.underlying128
  a33 := Tryz.isAgg128
  z33 := Tryz.sizeOf128
  v33 := Tryz.zeroValue128 }
def Tryz.sortedS_ren : Go.Shelf.Ren := ⟨fun | 6 => 127 | 8 => 180 | 9 => 181 | 11 => 205 | 13 => 200 | 12 => 206 | 23 => 223 | 24 => 224 | 14 => 227 | 15 => 228 | 16 => 229 | 17 => 230 | 18 => 231 | 19 => 232 | 20 => 233 | 21 => 234 | 22 => 235 | 25 => 246 | 26 => 241 | 27 => 242 | 28 => 247 | 29 => 248 | 30 => 249 | 31 => 252 | n => n, fun | 26 => 9 | 28 => 187 | 24 => 153 | 0 => 0 | 3 => 3 | 37 => 142 | 48 => 275 | 50 => 220 | 4 => 4 | 40 => 268 | 39 => 267 | 45 => 118 | 5 => 5 | 9 => 9 | 51 => 288 | 55 => 292 | 57 => 296 | 58 => 189 | 33 => 128 | n => n, fun | n => n⟩
theorem Tryz.sortedS : Go.Proofs.SlLaysZ.n6 Tryz.prog Tryz.sortedS_ren := {
  mixed := by kernel_rfl
  f6 := ⟨Tryz.f127.name, by decide, Tryz.func127.trans (congrArg some (by kernel_rfl))⟩
  f8 := ⟨Tryz.f180.name, by decide, Tryz.func180.trans (congrArg some (by kernel_rfl))⟩
  f11 := ⟨Tryz.f205.name, by decide, Tryz.func205.trans (congrArg some (by kernel_rfl))⟩
  t0 := Tryz.underlying0
  a0 := Tryz.isAgg0
  z0 := Tryz.sizeOf0
  v0 := Tryz.zeroValue0
  t24 := Tryz.underlying153
  a24 := Tryz.isAgg153
  z24 := Tryz.sizeOf153
  v24 := Tryz.zeroValue153
  t26 := Tryz.underlying9
  a26 := Tryz.isAgg9
  z26 := Tryz.sizeOf9
  v26 := Tryz.zeroValue9
  t28 := Tryz.underlying187
  a28 := Tryz.isAgg187
  z28 := Tryz.sizeOf187
  v28 := Tryz.zeroValue187
  i26 := by kernel_rfl }
def Tryz.sortS_ren : Go.Shelf.Ren := ⟨fun | 6 => 181 | 8 => 200 | 9 => 206 | 19 => 223 | 20 => 224 | 21 => 227 | 22 => 228 | 23 => 229 | 24 => 230 | 25 => 231 | 26 => 232 | 27 => 233 | 28 => 234 | 29 => 235 | 36 => 246 | 31 => 241 | 32 => 242 | 37 => 247 | 38 => 248 | 39 => 249 | 41 => 252 | n => n, fun | 27 => 153 | 29 => 9 | 3 => 3 | 32 => 142 | 26 => 153 | 0 => 0 | 44 => 275 | 46 => 220 | 4 => 4 | 36 => 268 | 35 => 267 | 41 => 118 | 5 => 5 | 9 => 9 | 53 => 288 | 57 => 292 | 63 => 296 | 64 => 189 | n => n, fun | n => n⟩
theorem Tryz.sortS : Go.Proofs.SlLaysM.n6 Tryz.prog Tryz.sortS_ren := {
  mixed := by kernel_rfl
  f6 := ⟨Tryz.f181.name, by decide, Tryz.func181.trans (congrArg some (by kernel_rfl))⟩
  f8 := Tryz.func200.trans (congrArg some (by kernel_rfl))
  f9 := ⟨Tryz.f206.name, by decide, Tryz.func206.trans (congrArg some (by kernel_rfl))⟩
  f19 := Tryz.func223.trans (congrArg some (by kernel_rfl))
  f20 := Tryz.func224.trans (congrArg some (by kernel_rfl))
  f21 := ⟨Tryz.f227.name, by decide, Tryz.func227.trans (congrArg some (by kernel_rfl))⟩
  f22 := ⟨Tryz.f228.name, by decide, Tryz.func228.trans (congrArg some (by kernel_rfl))⟩
  f23 := ⟨Tryz.f229.name, by decide, Tryz.func229.trans (congrArg some (by kernel_rfl))⟩
  f24 := ⟨Tryz.f230.name, by decide, Tryz.func230.trans (congrArg some (by kernel_rfl))⟩
  f25 := ⟨Tryz.f231.name, by decide, Tryz.func231.trans (congrArg some (by kernel_rfl))⟩
  f26 := ⟨Tryz.f232.name, by decide, Tryz.func232.trans (congrArg some (by kernel_rfl))⟩
  f27 := ⟨Tryz.f233.name, by decide, Tryz.func233.trans (congrArg some (by kernel_rfl))⟩
  f28 := ⟨Tryz.f234.name, by decide, Tryz.func234.trans (congrArg some (by kernel_rfl))⟩
  f29 := ⟨Tryz.f235.name, by decide, Tryz.func235.trans (congrArg some (by kernel_rfl))⟩
  f31 := Tryz.func241.trans (congrArg some (by kernel_rfl))
  f32 := Tryz.func242.trans (congrArg some (by kernel_rfl))
  f36 := ⟨Tryz.f246.name, by decide, Tryz.func246.trans (congrArg some (by kernel_rfl))⟩
  f37 := ⟨Tryz.f247.name, by decide, Tryz.func247.trans (congrArg some (by kernel_rfl))⟩
  f38 := ⟨Tryz.f248.name, by decide, Tryz.func248.trans (congrArg some (by kernel_rfl))⟩
  f39 := ⟨Tryz.f249.name, by decide, Tryz.func249.trans (congrArg some (by kernel_rfl))⟩
  f41 := ⟨Tryz.f252.name, by decide, Tryz.func252.trans (congrArg some (by kernel_rfl))⟩
  t0 := Tryz.underlying0
  a0 := Tryz.isAgg0
  z0 := Tryz.sizeOf0
  v0 := Tryz.zeroValue0
  t3 := Tryz.underlying3
  a3 := Tryz.isAgg3
  z3 := Tryz.sizeOf3
  v3 := Tryz.zeroValue3
  t4 := Tryz.underlying4
  a4 := Tryz.isAgg4
  z4 := Tryz.sizeOf4
  v4 := Tryz.zeroValue4
  t5 := Tryz.underlying5
  a5 := Tryz.isAgg5
  z5 := Tryz.sizeOf5
  v5 := Tryz.zeroValue5
  t9 := Tryz.underlying9
  a9 := Tryz.isAgg9
  z9 := Tryz.sizeOf9
  v9 := Tryz.zeroValue9
  t26 := Tryz.underlying153
  a26 := Tryz.isAgg153
  z26 := Tryz.sizeOf153
  v26 := Tryz.zeroValue153
  t27 := Tryz.underlying153
  a27 := Tryz.isAgg153
  z27 := Tryz.sizeOf153
  v27 := Tryz.zeroValue153
  t29 := Tryz.underlying9
  a29 := Tryz.isAgg9
  z29 := Tryz.sizeOf9
  v29 := Tryz.zeroValue9
  t32 := Tryz.underlying142
  a32 := Tryz.isAgg142
  z32 := Tryz.sizeOf142
  v32 := Tryz.zeroValue142
  t35 := Tryz.underlying267
  a35 := Tryz.isAgg267
  z35 := Tryz.sizeOf267
  v35 := Tryz.zeroValue267
  t36 := Tryz.underlying268
  a36 := Tryz.isAgg268
  z36 := Tryz.sizeOf268
  v36 := Tryz.zeroValue268
  t41 := Tryz.underlying118
  a41 := Tryz.isAgg118
  z41 := Tryz.sizeOf118
  v41 := Tryz.zeroValue118
  t44 := Tryz.underlying275
  a44 := Tryz.isAgg275
  z44 := Tryz.sizeOf275
  v44 := Tryz.zeroValue275
  t46 := Tryz.underlying220
  a46 := Tryz.isAgg220
  z46 := Tryz.sizeOf220
  v46 := Tryz.zeroValue220
  t53 := Tryz.underlying288
  a53 := Tryz.isAgg288
  z53 := Tryz.sizeOf288
  v53 := Tryz.zeroValue288
  t57 := Tryz.underlying292
  a57 := Tryz.isAgg292
  z57 := Tryz.sizeOf292
  v57 := Tryz.zeroValue292
  t63 := Tryz.underlying296
  a63 := Tryz.isAgg296
  z63 := Tryz.sizeOf296
  v63 := Tryz.zeroValue296
  t64 := Tryz.underlying189
  a64 := Tryz.isAgg189
  z64 := Tryz.sizeOf189
  v64 := Tryz.zeroValue189 }
def Tryz.cloneM_ren : Go.Shelf.Ren := ⟨fun | 5 => 81 | 7 => 126 | n => n, fun | 23 => 137 | 25 => 3 | 3 => 48 | 4 => 4 | 20 => 20 | n => n, fun | n => n⟩
theorem Tryz.cloneM : Go.Proofs.SlLaysW.n5 Tryz.prog Tryz.cloneM_ren := {
  mixed := by kernel_rfl
  f5 := ⟨Tryz.f81.name, by decide, Tryz.func81.trans (congrArg some (by kernel_rfl))⟩
  f7 := Tryz.func126.trans (congrArg some (by kernel_rfl))
  t4 := Tryz.underlying4
  a4 := Tryz.isAgg4
  z4 := Tryz.sizeOf4
  v4 := Tryz.zeroValue4
  t20 := Tryz.underlying20
  a20 := Tryz.isAgg20
  z20 := Tryz.sizeOf20
  v20 := Tryz.zeroValue20
  t23 := Tryz.underlying137
  a23 := Tryz.isAgg137
  z23 := Tryz.sizeOf137
  v23 := Tryz.zeroValue137 }
def Tryz.copyM_ren : Go.Shelf.Ren := ⟨fun | 5 => 164 | n => n, fun | 23 => 137 | 24 => 137 | 26 => 3 | 27 => 48 | 0 => 0 | 4 => 4 | n => n, fun | n => n⟩
theorem Tryz.copyM : Go.Proofs.SlLaysX.n5 Tryz.prog Tryz.copyM_ren := {
  mixed := by kernel_rfl
  f5 := ⟨Tryz.f164.name, by decide, Tryz.func164.trans (congrArg some (by kernel_rfl))⟩
  t0 := Tryz.underlying0
  a0 := Tryz.isAgg0
  z0 := Tryz.sizeOf0
  v0 := Tryz.zeroValue0
  t4 := Tryz.underlying4
  a4 := Tryz.isAgg4
  z4 := Tryz.sizeOf4
  v4 := Tryz.zeroValue4
  t23 := Tryz.underlying137
  a23 := Tryz.isAgg137
  z23 := Tryz.sizeOf137
  v23 := Tryz.zeroValue137
  t24 := Tryz.underlying137
  a24 := Tryz.isAgg137
  z24 := Tryz.sizeOf137
  v24 := Tryz.zeroValue137
  a26 := Tryz.isAgg3
  z26 := Tryz.sizeOf3
  a27 := Tryz.isAgg48
  z27 := Tryz.sizeOf48 }
def Tryz.equalB_ren : Go.Shelf.Ren := ⟨fun | 33 => 120 | n => n, fun | 22 => 48 | 23 => 5 | 4 => 4 | 3 => 3 | 0 => 0 | n => n, fun | n => n⟩
theorem Tryz.equalB : Go.Proofs.SlLaysE.n33 Tryz.prog Tryz.equalB_ren := {
  mixed := by kernel_rfl
  f33 := ⟨Tryz.f120.name, by decide, Tryz.func120.trans (congrArg some (by kernel_rfl))⟩
  t0 := Tryz.underlying0
  a0 := Tryz.isAgg0
  z0 := Tryz.sizeOf0
  v0 := Tryz.zeroValue0
  t3 := Tryz.underlying3
  a3 := Tryz.isAgg3
  z3 := Tryz.sizeOf3
  v3 := Tryz.zeroValue3
  t4 := Tryz.underlying4
  a4 := Tryz.isAgg4
  z4 := Tryz.sizeOf4
  v4 := Tryz.zeroValue4
  t22 := Tryz.underlying48
  a22 := Tryz.isAgg48
  z22 := Tryz.sizeOf48
  v22 := Tryz.zeroValue48
  a23 := Tryz.isAgg5
  z23 := Tryz.sizeOf5 }
def Tryz.containsS_ren : Go.Shelf.Ren := ⟨fun | 31 => 134 | 29 => 184 | n => n, fun | 22 => 153 | 23 => 9 | 4 => 4 | 3 => 3 | 0 => 0 | n => n, fun | n => n⟩
theorem Tryz.containsS : Go.Proofs.SlLaysE.n31 Tryz.prog Tryz.containsS_ren := {
  mixed := by kernel_rfl
  f29 := ⟨Tryz.f184.name, by decide, Tryz.func184.trans (congrArg some (by kernel_rfl))⟩
  f31 := ⟨Tryz.f134.name, by decide, Tryz.func134.trans (congrArg some (by kernel_rfl))⟩
  t0 := Tryz.underlying0
  a0 := Tryz.isAgg0
  z0 := Tryz.sizeOf0
  v0 := Tryz.zeroValue0
  t3 := Tryz.underlying3
  a3 := Tryz.isAgg3
  z3 := Tryz.sizeOf3
  v3 := Tryz.zeroValue3
  t4 := Tryz.underlying4
  a4 := Tryz.isAgg4
  z4 := Tryz.sizeOf4
  v4 := Tryz.zeroValue4
  t22 := Tryz.underlying153
  a22 := Tryz.isAgg153
  z22 := Tryz.sizeOf153
  v22 := Tryz.zeroValue153
  a23 := Tryz.isAgg9
  z23 := Tryz.sizeOf9 }
end Go.Proofs
end

section
namespace Go.Proofs.YtamhjjagjjdmoaaGreat
open Go.RowKit Go.Maps Go.Shelf Go.Sort

def ikeys (m : MList) : List Int := m.map fun p => Go.intOf p.1
def skeys (m : MList) : List Bts := m.map fun p => Go.strOf p.1

theorem MapW.rising {k : TypeId} {w : World} {b : Nat} {m : MList} (h : MapW Tryz.prog k w b m) (K : Keyed Tryz.prog k) : m.Pairwise fun p q => p.1.before q.1 = true := by
  obtain ⟨es, he, hp, _⟩ := World.ownsMap.canon h K
  simp only [MList.data] at he
  injection he with he
  rw [← he, List.pairwise_map] at hp
  exact hp
theorem MapW.keysOf {k : TypeId} {w : World} {b : Nat} {m : MList} (h : MapW Tryz.prog k w b m) (K : Keyed Tryz.prog k) : ∀ p ∈ m, ∃ v, keyOf Tryz.prog k v = some p.1 := by
  obtain ⟨es, he, _, hk⟩ := World.ownsMap.canonK h K
  simp only [MList.data] at he
  injection he with he
  subst he
  intro p hp
  exact hk _ (List.mem_map.2 ⟨p, hp, rfl⟩)
theorem MapW.intKeys {w : World} {b : Nat} {m : MList} (h : MapW Tryz.prog 3 w b m) : ∀ p ∈ m, ∃ i, p.1 = .int .i64 i ∧ (Lit.int .i64 i).wf = true := fun p hp => by
  obtain ⟨v, hv⟩ := h.keysOf keyI p hp
  obtain ⟨x, _, h1, h2⟩ := Maps.keyOf_i64 Tryz.underlying3 hv
  exact ⟨x, h1, h2⟩
theorem MapW.strKeys {w : World} {b : Nat} {m : MList} (h : MapW Tryz.prog 9 w b m) : ∀ p ∈ m, ∃ s, p.1 = .string s ∧ s.length ≤ maxLen := fun p hp => by
  obtain ⟨v, hv⟩ := h.keysOf keyS p hp
  obtain ⟨x, _, h1, h2⟩ := Go.Maps.keyOf_str Tryz.underlying9 hv
  exact ⟨x, h1, h2⟩

theorem bytesBefore_lt : ∀ a b : Bts, bytesBefore a b = true → a < b
  | [], [], h => by simp [bytesBefore] at h
  | [], b :: s, _ => by simp
  | a :: r, [], h => by simp [bytesBefore] at h
  | a :: r, b :: s, h => by
    simp only [bytesBefore, Bool.or_eq_true, decide_eq_true_eq, Bool.and_eq_true, beq_iff_eq] at h
    rw [List.cons_lt_cons_iff]
    exact h.imp id fun h => ⟨h.1, bytesBefore_lt r s h.2⟩
theorem sortsI (m : Nat) : AnyZI.SortsIn Tryz.prog Tryz.sortedI_ren Fence.wide m :=
  ⟨fun blk off cap ss W hH hblk hsz => callsIn_wide.2 (AnyM.slices_Sort_int Tryz.sortI blk off cap ss W hH hblk hsz),
   fun p cap W => callsIn_wide.2 (AnyM.slices_Sort_int_none Tryz.sortI p cap W)⟩
theorem sortsS (m : Nat) : AnyZ.SortsIn Tryz.prog Tryz.sortedS_ren Fence.wide m :=
  ⟨fun blk off cap ss W hH hblk hsz => callsIn_wide.2 (AnyM.slices_Sort_string Tryz.sortS blk off cap ss W hH hblk hsz),
   fun p cap W => callsIn_wide.2 (AnyM.slices_Sort_string_none Tryz.sortS p cap W)⟩

theorem keysI_any (w : World) (mb : Option Nat) : Calls Tryz.prog 176 #[.map mb] w fun e w' => e = .returned (.func (.func 204) #[] #[ptr w.heap.size]) ∧ w' = w.alloc (.cells #[.map mb] 137) :=
  callsIn_wide.1 (AnyZI.keys_in Tryz.keysI Fence.wide 5 trivial rfl mb w)
theorem keysS_any (w : World) (mb : Option Nat) : Calls Tryz.prog 128 #[.map mb] w fun e w' => e = .returned (.func (.func 182) #[] #[ptr w.heap.size]) ∧ w' = w.alloc (.cells #[.map mb] 124) :=
  callsIn_wide.1 (AnyZ.keys_in Tryz.keysS Fence.wide 5 trivial rfl mb w)

theorem sortedI_any (w : World) (b : Nat) (m : MList) (h : MapW Tryz.prog 3 w b m) (hm : m.length ≤ 1000000) :
    Calls Tryz.prog 175 #[.func (.func 204) #[] #[ptr w.heap.size]] (w.alloc (.cells #[.map (some b)] 137)) fun e w' =>
      ∃ v, e = .returned v ∧ w'.ownsRow w.heap.size 3 1 v m.length ((ikeys m).map encZ) ∧ (v = .slice none 0 0 ↔ m = []) ∧ Below w.heap.size w w' := by
  have hown := h
  have hbl := h.lt
  have hsz : Maps.size m.data = m.length := by simp [MList.data, Maps.size_eq]
  have hseq : SeqGives Fence.wide 2 Tryz.prog 204 #[.pointer (some ⟨w.heap.size, 0, none⟩)] encZ (fun ss => ss.Perm (Go.intKeys m.data)) (Maps.size m.data) (w.alloc (.cells #[.map (some b)] 137)) :=
    AnyZI.keys_gives (ρ := Tryz.keysI_ren) { Tryz.keysI with } Fence.wide _ trivial rfl (by omega) w.heap.size b m.length m.data _ (by simp) (by simp) (by
      obtain ⟨es, clock, hb, Ft, hs, hD⟩ := hown
      exact ⟨es, clock, (Below.heap_alloc _ _ b hbl).trans hb, Ft, hs, hD⟩)
  have cS := AnyZI.sorted_in Tryz.sortedI Fence.wide 5 trivial trivial trivial trivial rfl (by omega) (sortsI _) (enters_of Tryz.func153 (by kernel_rfl) rfl) 204 #[.pointer (some ⟨w.heap.size, 0, none⟩)] trivial (enters_of Tryz.func204 (by kernel_rfl) rfl) _ _ (by rw [hsz]; unfold maxLen; omega) (by rw [hsz]; omega) _ hseq
  refine (callsIn_wide.1 cS).mono ?_
  rintro e w' ⟨v, ss, rfl, hS, hrow, hnil, hb⟩
  have hlen : ss.length = m.length := by rw [hS.length_eq]; simp [MList.data, Go.intKeys]
  have hk : Go.intKeys m.data = ikeys m := by simp [MList.data, Go.intKeys, ikeys, Function.comp_def]
  have hsort : ss.mergeSort (fun x y => decide (x ≤ y)) = ikeys m := by
    have := mergeSort_of_perm_i hS
    rw [hk] at this
    refine this.trans (List.mergeSort_of_pairwise ?_)
    have hp := h.rising keyI
    have hi := h.intKeys
    rw [ikeys, List.pairwise_map]
    refine hp.imp_of_mem fun {p q} hpm hqm hbf => ?_
    obtain ⟨i, hi1, _⟩ := hi p hpm
    obtain ⟨j, hj1, _⟩ := hi q hqm
    rw [hi1, hj1] at hbf ⊢
    simp [Lit.before] at hbf
    simp [Go.intOf]; omega
  rw [hsort, hlen] at hrow
  refine ⟨v, rfl, ownsRow_base_a hrow (by simp), ?_, ((Below.refl _ w).alloc (Nat.le_refl _) _).trans (hb.mono (by simp))⟩
  rw [hnil, ← List.length_eq_zero_iff, hlen, List.length_eq_zero_iff]
theorem sortedS_any (w : World) (b : Nat) (m : MList) (h : MapW Tryz.prog 9 w b m) (hm : m.length ≤ 1000000) :
    Calls Tryz.prog 127 #[.func (.func 182) #[] #[ptr w.heap.size]] (w.alloc (.cells #[.map (some b)] 124)) fun e w' =>
      ∃ v, e = .returned v ∧ w'.ownsRow w.heap.size 9 1 v m.length ((skeys m).map encStr) ∧ (v = .slice none 0 0 ↔ m = []) ∧ Below w.heap.size w w' := by
  have hown := h
  have hbl := h.lt
  have hsz : Maps.size m.data = m.length := by simp [MList.data, Maps.size_eq]
  have hseq : SeqGives Fence.wide 2 Tryz.prog 182 #[.pointer (some ⟨w.heap.size, 0, none⟩)] encStr (fun ss => ss.Perm (Go.strKeys m.data)) (Maps.size m.data) (w.alloc (.cells #[.map (some b)] 124)) :=
    AnyZ.keys_gives (ρ := Tryz.keysS_ren) { Tryz.keysS with } Fence.wide _ trivial rfl (by omega) w.heap.size b m.length m.data _ (by simp) (by simp) (by
      obtain ⟨es, clock, hb, Ft, hs, hD⟩ := hown
      exact ⟨es, clock, (Below.heap_alloc _ _ b hbl).trans hb, Ft, hs, hD⟩)
  have cS := AnyZ.sorted_in Tryz.sortedS Fence.wide 5 trivial trivial trivial trivial rfl (by omega) (sortsS _) (enters_of Tryz.func181 (by kernel_rfl) rfl) 182 #[.pointer (some ⟨w.heap.size, 0, none⟩)] trivial (enters_of Tryz.func182 (by kernel_rfl) rfl) _ _ (by rw [hsz]; unfold maxLen; omega) (by rw [hsz]; omega) _ hseq
  refine (callsIn_wide.1 cS).mono ?_
  rintro e w' ⟨v, ss, rfl, hS, hrow, hnil, hb⟩
  have hlen : ss.length = m.length := by rw [hS.length_eq]; simp [MList.data, Go.strKeys]
  have hk : Go.strKeys m.data = skeys m := by simp [MList.data, Go.strKeys, skeys, Function.comp_def]
  have hsort : ss.mergeSort (fun x y => decide (x ≤ y)) = skeys m := by
    have := mergeSort_of_perm hS
    rw [hk] at this
    refine this.trans (List.mergeSort_of_pairwise ?_)
    have hp := h.rising keyS
    have hi := h.strKeys
    rw [skeys, List.pairwise_map]
    refine hp.imp_of_mem fun {p q} hpm hqm hbf => ?_
    obtain ⟨i, hi1, _⟩ := hi p hpm
    obtain ⟨j, hj1, _⟩ := hi q hqm
    rw [hi1, hj1] at hbf ⊢
    simp [Lit.before] at hbf
    simpa [Go.strOf] using List.le_of_lt (bytesBefore_lt _ _ hbf)
  rw [hsort, hlen] at hrow
  refine ⟨v, rfl, ownsRow_base_a hrow (by simp), ?_, ((Below.refl _ w).alloc (Nat.le_refl _) _).trans (hb.mono (by simp))⟩
  rw [hnil, ← List.length_eq_zero_iff, hlen, List.length_eq_zero_iff]

/-- maps.Clone -/
theorem cloneM_any (w : World) (b : Nat) (m : MList) (h : MapW Tryz.prog 3 w b m) :
    Calls Tryz.prog 81 #[.map (some b)] w fun e w' => e = .returned (.map (some w.heap.size)) ∧ MapW Tryz.prog 3 w' w.heap.size m ∧ Below w.heap.size w w' ∧ w.heap.size < w'.heap.size :=
  (AnyW.maps_Clone_owns Tryz.cloneM 3 hr b m.length m.data w h).mono fun _ _ ⟨h1, h2, _, h4⟩ => ⟨h1, h2, h4, MapW.lt h2⟩

def mover (m l : MList) : MList := l.foldl (fun m p => mput m p.1 p.2) m
theorem mover_data (m l : MList) : (mover m l).data = Lib.mergeD m.data l.data := by
  have : ∀ (l m : MList), (mover m l).data = (l.map fun p => (p.1, DataW.held p.2)).foldl (fun D p => D.put p.1 p.2) m.data := by
    intro l
    induction l with
    | nil => intro m; rfl
    | cons a r ih => intro m; simp only [mover, List.foldl_cons, List.map_cons] at ih ⊢; rw [ih, mput_data]
  exact this l m
/-- maps.Copy -/
theorem copyM_any (w : World) (b b2 : Nat) (m l : MList) (h : MapW Tryz.prog 3 w b m) (h2 : MapW Tryz.prog 3 w b2 l) (hne : b2 ≠ b) (hl : m.length + l.length ≤ maxLen) :
    Calls Tryz.prog 164 #[.map (some b), .map (some b2)] w fun e w' => e = .returned (.tuple #[]) ∧ MapW Tryz.prog 3 w' b (mover m l) ∧ w.grownBy w' (some b) :=
  (AnyX.maps_Copy_opt Tryz.copyM keyI hr b m.length (some b2) m.data l.data w h (.inr ⟨b2, l.length, rfl, h2⟩) (by simpa using hne) (by simpa [MList.data, Maps.size_eq] using hl)).mono fun _ _ ⟨h1, h3, h4⟩ => ⟨h1, MapW.exact_ (by rw [mover_data]; exact h3), h4⟩

theorem neqB : NeqAt Tryz.prog 5 B (fun x y => x == y) := by
  obtain ⟨h1, h2⟩ := NeqAt.int Tryz.prog 5 .u8
  refine ⟨fun x y w => ?_, fun op a b x y w => h2 op a b _ _ w⟩
  have e : ((x.toNat : Int) == (y.toNat : Int)) = (x == y) := by
    rw [Bool.eq_iff_iff, beq_iff_eq, beq_iff_eq]
    exact ⟨fun h => UInt8.toNat_inj.1 (by omega), fun h => by rw [h]⟩
  simp only [B, h1, e]
theorem allEq_beq : ∀ x y : Bts, Lib.allEq (fun x y => x == y) x y = (x == y)
  | [], [] => rfl
  | [], _ :: _ => rfl
  | _ :: _, [] => rfl
  | a :: r, b :: s => by simp [Lib.allEq, allEq_beq r s]
/-- slices.Equal -/
theorem equal_any (w : World) (v1 v2 : Value) (l1 l2 : Bts) (h1 : Sl w v1 l1) (h2 : Sl w v2 l2) (n1 : 0 < l1.length) (n2 : 0 < l2.length) (b1 : l1.length ≤ 4194304) (b2 : l2.length ≤ 4194304) :
    Calls Tryz.prog 120 #[v1, v2] w fun e w' => e = .returned (.bool (l1 == l2)) ∧ ∃ q, w' = w.drewN q := by
  obtain ⟨g1, o1, c1, rfl, _, _, hc1⟩ := h1.cells_at n1
  obtain ⟨g2, o2, c2, rfl, _, _, hc2⟩ := h2.cells_at n2
  have := AnyE.slices_Equal Tryz.equalB B (fun x y => x == y) neqB g1 o1 l1.length c1 g2 o2 l2.length c2 l1 l2 w (Nat.le_refl _) (Nat.le_refl _) (by omega) (by omega) (fun j hj => by rw [hc1 j hj]; simp [hj]) (fun j hj => by rw [hc2 j hj]; simp [hj])
  rw [List.take_length, List.take_length, allEq_beq] at this
  exact this

theorem eqlS : EqlAt Tryz.prog 9 encStr (fun x y => x == y) := by
  obtain ⟨h1, h2⟩ := EqlAt.string Tryz.prog 9
  refine ⟨fun x y w => ?_, fun op a b x y w => h2 op a b _ _ w⟩
  rw [h1]; simp [ByteArray.toList_eq]
/-- slices.Contains over names -/
theorem containsS_any (w : World) (v : Value) (l : List Bts) (base : Nat) (x : Bts) (h : w.ownsRow base 9 1 v l.length (l.map encStr)) (hl : l.length ≤ 1000) :
    Calls Tryz.prog 134 #[v, encStr x] w fun e w' => e = .returned (.bool (l.any fun y => x == y)) ∧ w' = w := by
  rcases h.2 with ⟨rfl, h0⟩ | ⟨g, cap, cur, rfl, _, hg, hn, hm, hs, ht⟩
  · have : l = [] := List.eq_nil_of_length_eq_zero h0
    subst this
    exact AnyE.slices_Contains_empty Tryz.containsS none 0 _ w
  · have := AnyE.slices_Contains Tryz.containsS encStr (fun x y => x == y) eqlS g 0 l.length cap l x w (Nat.le_refl _) (by omega) (fun j hj => by
      have h2 : cur[j]? = some (encStr l[j]) := by
        have : (cur.toList.take l.length)[j]? = some (encStr l[j]) := by
          rw [show l.length = l.length * 1 by omega, ht]; simp [hj]
        rw [List.getElem?_take] at this
        simpa [hj] using this
      rw [Nat.zero_add, cell_of_row w g j cur _ (0, 0) hg, h2]; simp [hj])
    rw [List.take_length] at this
    exact this
end Go.Proofs.YtamhjjagjjdmoaaGreat
end

section
namespace Go.Proofs.YtamhjjagjjdmoaaGreat
open Go.RowKit Go.Maps Go.Shelf Go.Sort

theorem skeys_fmap (names : List Bts) (bx : Bts → Nat) : skeys (fmapOf names bx) = names := by
  simp [skeys, fmapOf, Function.comp_def, Go.strOf]
theorem length_fmap (names : List Bts) (bx : Bts → Nat) : (fmapOf names bx).length = names.length := by simp [fmapOf]

/-- a new slice that holds names -/
def NewS (w w' : World) (v : Value) (l : List Bts) : Prop := w'.ownsRow w.heap.size 9 1 v l.length (l.map encStr) ∧ Below w.heap.size w w'

set_option maxHeartbeats 1000000 in
set_option maxRecDepth 100000 in
theorem names_any (w : World) (bd : Nat) (M : DiskM) (G : DG) (h : DiskAt w bd M G) :
    Calls Tryz.prog 83 #[ptr bd] w fun e w' => ∃ v, e = .returned v ∧ NewS w w' v M.names := by
  have d0 : w.cell? ⟨bd, 0, none⟩ = some (.map (some G.bf)) := h.disk.cell 0
  have cS := sortedS_any w G.bf (fmapOf M.names G.bx) h.fm (by rw [length_fmap]; have := h.count; omega)
  rw [skeys_fmap, length_fmap] at cS
  have S := Lib.hid cS
  clear cS h
  go_enter Tryz.func83, Tryz.ntmps83
  go_wp2_with (first | (go_at_call 128; refine (keysS_any _ _).mono ?_; rintro e w' ⟨rfl, rfl⟩) | (go_at_call 127; refine S.out.mono ?_; rintro e w' ⟨v, rfl, h1, _, h3⟩; have FIN : Hid (NewS w w' v M.names) := ⟨h1, h3⟩; clear h1 h3))
  go_ret
  exact ⟨_, rfl, FIN.out⟩

def listM (M : DiskM) : Int := if M.off then 9 else 0
set_option maxHeartbeats 1000000 in
set_option maxRecDepth 100000 in
theorem list_any (w : World) (bd : Nat) (M : DiskM) (G : DG) (h : DiskAt w bd M G) (ho : M.off = false) :
    Calls Tryz.prog 133 #[ptr bd] w fun e w' => ∃ v, e = .returned (.tuple #[v, I 0]) ∧ NewS w w' v M.names := by
  have d3 : w.cell? ⟨bd, 3, none⟩ = some (.bool M.off) := h.disk.cell 3
  rw [ho] at d3
  have S := Lib.hid h
  clear h ho
  go_enter Tryz.func133, Tryz.ntmps133
  go_wp2_with (go_at_call 83; refine (names_any _ _ _ _ S.out).mono ?_; rintro e w' ⟨v, rfl, h1⟩; have FIN := Lib.hid h1; clear h1)
  go_ret2
  exact ⟨_, rfl, FIN.out⟩
end Go.Proofs.YtamhjjagjjdmoaaGreat
end

section
namespace Go.Proofs.YtamhjjagjjdmoaaGreat
open Go.RowKit Go.Maps Go.Shelf Go.Sort

/-- two lists, element by element -/
def All2 {α β : Type} (R : α → β → Prop) : List α → List β → Prop
  | [], [] => True
  | a :: r, b :: s => R a b ∧ All2 R r s
  | _, _ => False
theorem All2.imp' {α β : Type} {R R' : α → β → Prop} : ∀ {a : List α} {b : List β}, All2 R a b → (∀ x y, R x y → R' x y) → All2 R' a b
  | [], [], _, _ => True.intro
  | _ :: _, _ :: _, ⟨h, t⟩, f => ⟨f _ _ h, All2.imp' t f⟩
theorem All2.length {α β : Type} {R : α → β → Prop} : ∀ {a : List α} {b : List β}, All2 R a b → a.length = b.length
  | [], [], _ => rfl
  | _ :: _, _ :: _, ⟨_, t⟩ => by simp [All2.length t]
abbrev PgL := List (Int × Bts)
/-- a value that is a slice of bytes in a block of F, which never changes -/
def PgV (w : World) (F : Nat → Prop) (v : Value) (x : Bts) : Prop := Sl w v x ∧ ∀ g, v.ownBlock = some g → F g ∧ g < w.heap.size
def PgE (w : World) (F : Nat → Prop) (p : Lit × Value) (q : Int × Bts) : Prop := p.1 = .int .i64 q.1 ∧ PgV w F p.2 q.2
/-- block b is a map that reads as the pages l -/
def PgW (w : World) (F : Nat → Prop) (b : Nat) (l : PgL) : Prop := ∃ m : MList, MapW Tryz.prog 3 w b m ∧ All2 (PgE w F) m l

def pfind (l : PgL) (k : Int) : Option Bts := (l.find? fun p => p.1 == k).map (·.2)
def pins (x : Int × Bts) : PgL → PgL
  | [] => [x]
  | y :: r => if x.1 < y.1 then x :: y :: r else y :: pins x r
def pdel (l : PgL) (k : Int) : PgL := l.filter fun p => !(p.1 == k)
def pput (l : PgL) (k : Int) (x : Bts) : PgL := pins (k, x) (pdel l k)
def pover (m l : PgL) : PgL := l.foldl (fun m p => pput m p.1 p.2) m

section
variable {w w' : World} {F F' : Nat → Prop} {b : Nat} {l : PgL} {S : Nat → Prop}
theorem PgV.chg {v : Value} {x : Bts} (h : PgV w F v x) (c : Chg S w w') (hn : ∀ g, F g → ¬ S g) : PgV w' F v x :=
  ⟨h.1.chg c fun g hg => hn g (h.2 g hg).1, fun g hg => ⟨(h.2 g hg).1, Nat.lt_of_lt_of_le (h.2 g hg).2 c.size⟩⟩
theorem PgV.mono {v : Value} {x : Bts} (h : PgV w F v x) (hF : ∀ g, F g → F' g) : PgV w F' v x := ⟨h.1, fun g hg => ⟨hF g (h.2 g hg).1, (h.2 g hg).2⟩⟩
theorem PgV.put_ {v : Value} {x : Bts} {k : TypeId} {m : MList} (h : PgV w F v x) (hg : w.grownBy w' (some b)) (hm : MapW Tryz.prog k w b m) : PgV w' F v x := by
  refine ⟨?_, fun g hgo => ⟨(h.2 g hgo).1, Nat.lt_of_lt_of_le (h.2 g hgo).2 hg.size⟩⟩
  rcases h.1 with h1 | ⟨g, o, cap, rfl, h1, h2, hc⟩
  · exact .inl h1
  · refine .inr ⟨g, o, cap, rfl, h1, h2, fun j u hu => ?_⟩
    have hcell := hc j u hu
    have hne : g ≠ b := fun e => by
      obtain ⟨es, clock, hb, _⟩ := hm
      subst e
      simp [World.cell?, hb] at hcell
    rw [World.grownBy.cell_far hg _ (World.block_lt_of_cell? w _ hcell) (by simpa using hne)]
    exact hcell
theorem PgW.chg (h : PgW w F b l) (c : Chg S w w') (hb : ¬ S b) (hn : ∀ g, F g → ¬ S g) : PgW w' F b l := by
  obtain ⟨m, h1, h2⟩ := h
  exact ⟨m, h1.chg c hb, All2.imp' h2 fun x y hxy => ⟨hxy.1, hxy.2.chg c hn⟩⟩
theorem PgW.mono (h : PgW w F b l) (hF : ∀ g, F g → F' g) : PgW w F' b l := by
  obtain ⟨m, h1, h2⟩ := h
  exact ⟨m, h1, All2.imp' h2 fun x y hxy => ⟨hxy.1, hxy.2.mono hF⟩⟩
theorem PgW.lt (h : PgW w F b l) : b < w.heap.size := by obtain ⟨m, h1, _⟩ := h; exact h1.lt
theorem PgW.made (w : World) (F : Nat → Prop) : PgW (w.alloc (.map #[] 0)) F w.heap.size [] := ⟨[], MapW.made _ _ _, True.intro⟩

theorem PgE.find : ∀ {m : MList} {l : PgL}, All2 (PgE w F) m l → ∀ k : Int, (pfind l k = none ∧ mfind m (.int .i64 k) = none) ∨ ∃ x v, pfind l k = some x ∧ mfind m (.int .i64 k) = some v ∧ PgV w F v x
  | [], [], _, _ => .inl ⟨rfl, rfl⟩
  | p :: ms, q :: ls, ⟨⟨h1, h2⟩, ht⟩, k => by
    have ih := PgE.find ht k
    have hk : (p.1.sameKey (.int .i64 k)) = (q.1 == k) := by rw [h1]; simp only [Lit.sameKey, true_and]; rfl
    simp only [pfind, mfind, List.find?_cons, hk] at ih ⊢
    cases e : q.1 == k
    · exact ih
    · exact .inr ⟨_, _, rfl, rfl, h2⟩
theorem PgE.insert : ∀ {m : MList} {l : PgL}, All2 (PgE w F) m l → ∀ (k : Int) (v : Value) (x : Bts), PgV w F v x → All2 (PgE w F) (mins (.int .i64 k, v) m) (pins (k, x) l)
  | [], [], _, _, _, _, hx => ⟨⟨rfl, hx⟩, True.intro⟩
  | p :: ms, q :: ls, ⟨hpq, ht⟩, k, v, x, hx => by
    simp only [mins, pins, hpq.1, Lit.before]
    by_cases e : k < q.1
    · simp only [e, decide_true, if_true]; exact ⟨⟨rfl, hx⟩, hpq, ht⟩
    · simp only [e, decide_false, Bool.false_eq_true, if_false]; exact ⟨hpq, PgE.insert ht k v x hx⟩
theorem PgE.del : ∀ {m : MList} {l : PgL}, All2 (PgE w F) m l → ∀ k : Int, All2 (PgE w F) (mdel m (.int .i64 k)) (pdel l k)
  | [], [], _, _ => True.intro
  | p :: ms, q :: ls, ⟨hpq, ht⟩, k => by
    have ih := PgE.del ht k
    simp only [mdel, pdel, List.filter_cons, hpq.1, Lit.sameKey] at ih ⊢
    by_cases e : q.1 = k
    · simpa [e] using ih
    · simp only [e, and_false, decide_false, Bool.not_false, if_true, beq_eq_false_iff_ne.2 e]; exact ⟨hpq, ih⟩
theorem PgE.put {m : MList} (h : All2 (PgE w F) m l) (k : Int) (v : Value) (x : Bts) (hx : PgV w F v x) : All2 (PgE w F) (mput m (.int .i64 k) v) (pput l k x) :=
  PgE.insert (PgE.del h k) k v x hx
theorem PgE.over : ∀ {m' : MList} {l' : PgL}, All2 (PgE w F) m' l' → ∀ {m : MList} {l : PgL}, All2 (PgE w F) m l → All2 (PgE w F) (mover m m') (pover l l')
  | [], [], _, _, _, h => h
  | p :: ms, q :: ls, ⟨hpq, ht⟩, m, l, h => by
    have := PgE.over ht (PgE.put h q.1 p.2 q.2 hpq.2)
    simp only [mover, pover, List.foldl_cons] at this ⊢
    rw [hpq.1]
    exact this
theorem PgE.keys : ∀ {m : MList} {l : PgL}, All2 (PgE w F) m l → ikeys m = l.map (·.1)
  | [], [], _ => rfl
  | p :: ms, q :: ls, ⟨hpq, ht⟩ => by
    have ih := PgE.keys ht
    simp only [ikeys, List.map_cons, hpq.1] at ih ⊢; rw [ih]; rfl

theorem zeroBytes (w : World) : (zeroValue 48).run Tryz.prog w = .ok (.slice none 0 0) w := by kernel_rfl
theorem keyOfI (k : Int) (h : (Lit.int .i64 k).wf = true) : keyOf Tryz.prog 3 (I k) = some (.int .i64 k) := keyOf_int_mk Tryz.underlying3 h
/-- m[k], there -/
theorem PgW.look (h : PgW w F b l) (k : Int) (hk : (Lit.int .i64 k).wf = true) (x : Bts) (hx : pfind l k = some x) : ∃ v, (Instr.lookup 137 (.map (some b)) (I k) false).run Tryz.prog w = .ok v w ∧ PgV w F v x := by
  obtain ⟨m, h1, h2⟩ := h
  rcases PgE.find h2 k with ⟨e, _⟩ | ⟨x', v, e1, e2, e3⟩
  · rw [hx] at e; cases e
  · rw [hx] at e1; injection e1 with e1; subst e1
    exact ⟨v, by rw [h1.look keyI Tryz.underlying137 (zeroBytes w) (keyOfI k hk), e2]; rfl, e3⟩
theorem PgW.pair (h : PgW w F b l) : l.Pairwise fun p q => p.1 < q.1 := by
  obtain ⟨m, h1, h2⟩ := h
  have hp := h1.rising keyI
  clear h1
  revert hp h2
  induction m generalizing l with
  | nil => cases l with
    | nil => intro _ _; exact .nil
    | cons q ls => intro h; exact h.elim
  | cons p ms ih => cases l with
    | nil => intro h; exact h.elim
    | cons q ls =>
      intro ⟨hpq, ht⟩ hp
      rw [List.pairwise_cons] at hp
      refine List.Pairwise.cons ?_ (ih ht hp.2)
      have hh := hp.1
      clear ih hp
      revert hh ht
      induction ms generalizing ls with
      | nil => cases ls with
        | nil => intro _ _ x hx; cases hx
        | cons y ys => intro h; exact h.elim
      | cons a rest ih2 => cases ls with
        | nil => intro h; exact h.elim
        | cons y ys =>
          intro ⟨hay, ht⟩ hh x hx
          rcases List.mem_cons.1 hx with rfl | hx
          · have := hh a (by simp)
            rw [hpq.1, hay.1] at this
            simpa [Lit.before] using this
          · exact ih2 ys ht (fun z hz => hh z (List.mem_cons_of_mem _ hz)) x hx
theorem pfind_at {l : PgL} (hp : l.Pairwise fun p q => p.1 < q.1) (k : Nat) (hk : k < l.length) : pfind l l[k].1 = some l[k].2 := by
  induction l generalizing k with
  | nil => simp at hk
  | cons a r ih =>
    rw [List.pairwise_cons] at hp
    cases k with
    | zero => simp [pfind]
    | succ k =>
      have hk' : k < r.length := by simpa using hk
      have hne : ¬ (a.1 = r[k].1) := by have := hp.1 r[k] (List.getElem_mem _); omega
      have := ih hp.2 k hk'
      simpa [pfind, List.find?_cons, hne] using this
/-- m[k], there, in every world in which the map stands as it did -/
theorem PgW.look_all (h : PgW w F b l) (k : Int) (hk : (Lit.int .i64 k).wf = true) (x : Bts) (hx : pfind l k = some x) : ∃ v, PgV w F v x ∧ ∀ w', Chg Non w w' → (Instr.lookup 137 (.map (some b)) (I k) false).run Tryz.prog w' = .ok v w' := by
  obtain ⟨m, h1, h2⟩ := h
  rcases PgE.find h2 k with ⟨e, _⟩ | ⟨x', v, e1, e2, e3⟩
  · rw [hx] at e; cases e
  · rw [hx] at e1; injection e1 with e1; subst e1
    exact ⟨v, e3, fun w' c => by rw [(h1.chg c id).look keyI Tryz.underlying137 (zeroBytes w') (keyOfI k hk), e2]; rfl⟩
theorem PgW.look_any (h : PgW w F b l) (k : Int) (hk : (Lit.int .i64 k).wf = true) (x : Bts) (hx : pfind l k = some x) : ∃ v, PgV w F v x ∧ ∀ S w', Chg S w w' → ¬ S b → (Instr.lookup 137 (.map (some b)) (I k) false).run Tryz.prog w' = .ok v w' := by
  obtain ⟨m, h1, h2⟩ := h
  rcases PgE.find h2 k with ⟨e, _⟩ | ⟨x', v, e1, e2, e3⟩
  · rw [hx] at e; cases e
  · rw [hx] at e1; injection e1 with e1; subst e1
    exact ⟨v, e3, fun S w' c hS => by rw [(h1.chg c hS).look keyI Tryz.underlying137 (zeroBytes w') (keyOfI k hk), e2]; rfl⟩
theorem PgW.len (h : PgW w F b l) (ty : TypeId) : (Builtin.len_ #[137] ty #[.map (some b)]).run Tryz.prog w = .ok (I l.length) w := by
  obtain ⟨m, h1, h2⟩ := h
  have := World.ownsMap.len h1 Tryz.underlying137 ty
  rw [this, ← All2.length h2]
  simp [MList.data, Maps.size_eq]
end
end Go.Proofs.YtamhjjagjjdmoaaGreat
end

section
namespace Go.Proofs.YtamhjjagjjdmoaaGreat
open Go.RowKit Go.Maps Go.Shelf Go.Sort

theorem step_append_run {P : Program} {ops : Array Oper} {o : Oper} {a : Act} {w : World} {K : Act → World → Prop} {Q : Exit → Act → World → Prop} {E : Prop}
    (hg : o.guard = none) (s x : Operand) (t tn : TypeId) (ho : o.op = .call { callee := .builtin .append, args := #[s, x], argTypes := #[t, tn] }) (vs vx : Value) (hs : a.eval s = vs) (hx : a.eval x = vx)
    (v' : Value) (w' : World) (hr : (Builtin.append_ #[t, tn] o.type #[vs, vx]).run P w = .ok v' w') (hK : K (a.put o.dst v') w') :
    if Region.wanted o (yielded ops a.tmps) = true then Oper.wp P o a w K Q else E := by
  have hw : Region.wanted o (yielded ops a.tmps) = true := by simp [Region.wanted, hg]
  rw [if_pos hw]
  exact Lib.wp_append_run w s x t tn ho vs vx hs hx v' w' hr hK

theorem ownsRow_form {w : World} {base : Nat} {t : TypeId} {sz : Nat} {v : Value} {n : Nat} {xs : List Value} (h : w.ownsRow base t sz v n xs) : ∃ A c, v = .slice A n c ∧ n ≤ c := by
  rcases h.2 with ⟨rfl, rfl⟩ | ⟨g, cap, cur, rfl, _, hg, hn, _⟩
  · exact ⟨_, _, rfl, Nat.le_refl _⟩
  · exact ⟨_, _, rfl, hn⟩
theorem ownsRow_some {w : World} {base : Nat} {t : TypeId} {v : Value} {n : Nat} {xs : List Value} (h : w.ownsRow base t 1 v n xs) (h0 : 0 < n) : ∃ g c cur, v = .slice (some ⟨g, 0, none⟩) n c ∧ base ≤ g ∧ Blk w g t cur ∧ ∀ j (hj : j < xs.length), cur[j]? = some xs[j] := by
  rcases h.2 with ⟨rfl, rfl⟩ | ⟨g, cap, cur, rfl, hb, hg, hn, hm, hs, ht⟩
  · omega
  · refine ⟨g, cap, cur, rfl, hb, hg, fun j hj => ?_⟩
    have : (cur.toList.take (n * 1))[j]? = some xs[j] := by rw [ht]; simp [hj]
    rw [List.getElem?_take] at this
    split at this
    · simpa using this
    · cases this
theorem World.ownsRow.keep_ {w w' : World} {base : Nat} {t : TypeId} {sz : Nat} {v : Value} {n : Nat} {xs : List Value} (h : w.ownsRow base t sz v n xs) (hk : ∀ g, v.ownBlock = some g → w'.heap[g]? = w.heap[g]?) : w'.ownsRow base t sz v n xs := by
  refine ⟨h.1, ?_⟩
  rcases h.2 with h | ⟨g, cap, cur, rfl, hb, hg, r⟩
  · exact .inl h
  · exact .inr ⟨g, cap, cur, rfl, hb, (hk g rfl).trans hg, r⟩
def pgBytes (p : Int × Bts) : Bts := bytes4 p.1.toNat ++ p.2
def blockPre (count : Nat) (l : PgL) (k : Nat) : Bts := (0 :: bytes4 count) ++ bytes4 l.length ++ (l.take k).flatMap pgBytes
def blockM (count : Nat) (l : PgL) : Bts := (0 :: bytes4 count) ++ bytes4 l.length ++ l.flatMap pgBytes
/-- pages that may be: numbers from 0 on, 512 bytes each -/
def PgOk (l : PgL) : Prop := l.length ≤ 4096 ∧ ∀ p ∈ l, 0 ≤ p.1 ∧ p.1 < 4096 ∧ p.2.length = 512
theorem length_flat (l : PgL) (h : ∀ p ∈ l, 0 ≤ p.1 ∧ p.1 < 4096 ∧ p.2.length = 512) : (l.flatMap pgBytes).length = l.length * 516 := by
  induction l with
  | nil => rfl
  | cons a r ih =>
    rw [List.flatMap_cons, List.length_append, ih fun p hp => h p (List.mem_cons_of_mem _ hp)]
    have := (h a (by simp)).2.2
    simp [pgBytes, bytes4, this]; omega
theorem length_blockPre (count : Nat) (l : PgL) (k : Nat) (h : PgOk l) (hk : k ≤ l.length) : (blockPre count l k).length = 9 + k * 516 := by
  rw [blockPre, List.length_append, length_flat _ fun p hp => h.2 p (List.mem_of_mem_take hp), List.length_take, Nat.min_eq_left hk]
  simp [bytes4]
theorem blockPre_succ (count : Nat) (l : PgL) (k : Nat) (hk : k < l.length) : blockPre count l (k + 1) = blockPre count l k ++ bytes4 (l[k]).1.toNat ++ (l[k]).2 := by
  simp only [blockPre, List.take_succ_eq_append_getElem hk, List.flatMap_append, List.flatMap_cons, List.flatMap_nil, pgBytes, List.append_nil, List.append_assoc]
theorem blockPre_all (count : Nat) (l : PgL) : blockPre count l l.length = blockM count l := by simp [blockPre, blockM]

set_option maxHeartbeats 2000000 in
set_option maxRecDepth 100000 in
theorem block_any (w : World) (F : Nat → Prop) (b : Nat) (l : PgL) (h : PgW w F b l) (hl : PgOk l) (count : Nat) (hc : count ≤ 4096) :
    Calls Tryz.prog 122 #[I count, .map (some b)] w fun e w' => ∃ v, e = .returned v ∧ OwnB w' v (blockM count l) ∧ Chg Non w w' ∧ ∀ g, v.ownBlock = some g → w.heap.size ≤ g := by
  obtain ⟨n, hn⟩ : ∃ n, n = l.length := ⟨_, rfl⟩
  have hn4 := hl.1
  rw [← hn] at hn4
  have HN := Lib.hid hn
  have HH := Lib.hid h
  have HL := Lib.hid hl
  clear hn h hl
  go_enter Tryz.func122, Tryz.ntmps122
  go_wp2_with fail
  -- the first put
  have ho1 : OwnB (w.alloc (.cells #[.int .u8 0] 5)) (.slice (some ⟨w.heap.size, 0, none⟩) 1 1) [0] := .inr ⟨w.heap.size, 1, _, rfl, Blk.new w _ _, Nat.le_refl _, by simp, by decide, rfl⟩
  refine (put_any _ _ _ ho1 count (by omega) (by simp)).mono ?_
  rintro e w1 ⟨v1, rfl, ho1', hc1, hf1⟩
  have cw1 : Chg Non w w1 := ((Chg.refl Non w).alloc _).trans hc1 fun g hg => .inr (by simp [Value.ownBlock] at hg; omega)
  have fr1 : ∀ g, v1.ownBlock = some g → w.heap.size ≤ g := fun g hg => by
    rcases hf1 with e | e
    · rw [e] at hg; simp [Value.ownBlock] at hg; omega
    · have := e g hg; simp at this; omega
  clear ho1 hc1 hf1
  have hlen : ∀ ty, (Builtin.len_ #[137] ty #[.map (some b)]).run Tryz.prog w1 = .ok (I n) w1 := fun ty => by
    rw [(HH.out.chg cw1 id fun _ _ => id).len, ← HN.out]
  have HO := Lib.hid ho1'
  have HW := Lib.hid (And.intro cw1 fr1)
  clear ho1' cw1 fr1
  obtain ⟨A1, c1, rfl, _⟩ := HO.out.form
  go_wp2_with fail
  refine (put_any _ _ _ HO.out n (by omega) (by simp [bytes4])).mono ?_
  rintro e w2 ⟨v2, rfl, ho2, hc2, hf2⟩
  have cw2 : Chg Non w w2 := HW.out.1.trans hc2 fun g hg => .inr (HW.out.2 g hg)
  have fr2 : ∀ g, v2.ownBlock = some g → w.heap.size ≤ g := fun g hg => by
    rcases hf2 with e | e
    · rw [e] at hg; exact HW.out.2 g hg
    · have := e g hg; have := HW.out.1.size; omega
  clear hc2 hf2 HO HW hlen
  obtain ⟨m, h1, h2⟩ := HH.out.chg cw2 id fun _ _ => id
  have hml : m.length = n := by rw [HN.out]; exact All2.length h2
  have cS := sortedI_any w2 b m h1 (by omega)
  rw [PgE.keys h2, hml] at cS
  have S := Lib.hid cS
  have HO := Lib.hid ho2
  have HW := Lib.hid (And.intro cw2 fr2)
  clear h1 h2 ho2 cw2 fr2 cS hml
  obtain ⟨A2, c2, rfl, _⟩ := HO.out.form
  go_wp2_with (first | (go_at_call 176; refine (keysI_any _ _).mono ?_; rintro e w' ⟨rfl, rfl⟩) | (go_at_call 175; refine S.out.mono ?_; rintro e w3 ⟨v, rfl, h3, _, h4⟩; obtain ⟨A3, c3, rfl, hn3⟩ := ownsRow_form h3; have KR := Lib.hid (And.intro h3 h4); clear h3 h4))
  have cw3 : Chg Non w w3 := HW.out.1.tr (Chg.of_below KR.out.2)
  have ho3 : OwnB w3 (.slice A2 (blockPre count l 0).length c2) (blockPre count l 0) := by
    have := HO.out.chg (Chg.of_below (S := Non) KR.out.2) fun _ _ => id
    simpa [blockPre, HN.out] using this
  have hk3 := KR.out.1
  have hp0 : (0 :: bytes4 count ++ bytes4 n).length = (blockPre count l 0).length := by simp [blockPre, HN.out]
  have hp1 : (bytes4 count).length + (bytes4 n).length + 1 = (blockPre count l 0).length := by simp [blockPre, HN.out]
  go_loopw [5, 7, 18] (fun v5 _ v18 wr => ∃ k, k ≤ n ∧ v18 = I k ∧ OwnB wr v5 (blockPre count l k) ∧ Chg Non w wr ∧ (∀ g, v5.ownBlock = some g → w.heap.size ≤ g) ∧ wr.ownsRow w2.heap.size 3 1 (.slice A3 n c3) n ((l.map (·.1)).map encZ)) (fun _ _ v18 _ => n - (intOf v18).toNat)
  case atStart =>
    refine ⟨0, Nat.zero_le _, rfl, ?_, cw3, ?_, hk3⟩
    · rw [hp1]; exact ho3
    · exact fun g hg => HW.out.2 g hg
  case round =>
    obtain ⟨k, hk, rfl, ho, hchg, hfr, hrow⟩ := hrel
    obtain ⟨A5, c5, rfl, hc5⟩ := ho.form
    have hlk := length_blockPre count l k HL.out (by rw [← HN.out]; exact hk)
    by_cases hlt : k < n
    · obtain ⟨gk, ck, cur, hv3, hgb, hblk, hcells⟩ := ownsRow_some hrow (by omega)
      injection hv3 with hA3 _ hck
      subst hA3
      subst hck
      have hkl : k < l.length := by rw [← HN.out]; exact hlt
      have hcell : wr.cell? ⟨gk, k, none⟩ = some (I (l[k]).1) := by rw [hblk.cell, hcells k (by simpa using hkl)]; simp
      obtain ⟨hk0, hk1, hk2⟩ := HL.out.2 _ (List.getElem_mem hkl)
      have hwf : (Lit.int .i64 (l[k]).1).wf = true := WalkArith.wf_i64 (by omega)
      obtain ⟨vp, hvp, hlook⟩ := HH.out.look_all _ hwf _ (pfind_at HH.out.pair k hkl)
      have hl0 := hlook wr.drew hchg.drew
      have hsucc := blockPre_succ count l k hkl
      generalize hkey : (l[k]).1 = key at *
      generalize hpage : (l[k]).2 = page at *
      obtain ⟨q, rfl⟩ : ∃ q : Nat, key = (q : Int) := ⟨key.toNat, by omega⟩
      have HP := Lib.hid (And.intro hvp (And.intro hlook (And.intro hsucc hlk)))
      have HRo := Lib.hid (And.intro ho (And.intro hchg (And.intro hfr (And.intro hrow hblk))))
      clear hvp hlook hsucc hlk ho hchg hfr hrow hblk hkey hpage hcells hwf ho3 hk3 hp0 hp1 cw3
      have i1 : (k : Int) < (n : Int) := by omega
      have i2 : (0 : Int) ≤ (k : Int) := by omega
      go_wp2_with fail
      have OUT : Hid (∀ v4 w5, OwnB w5 v4 (blockPre count l k ++ bytes4 q) → Chg (fun b => (Value.slice A5 (blockPre count l k).length c5).ownBlock = some b) wr.drew w5 → (v4.ownBlock = (Value.slice A5 (blockPre count l k).length c5).ownBlock ∨ ∀ g, v4.ownBlock = some g → wr.heap.size ≤ g) →
          (Instr.lookup 137 (.map (some b)) (I q) false).run Tryz.prog w5 = .ok vp w5 ∧
          ∃ v6 w6, (Builtin.append_ #[48, 48] 48 #[v4, vp]).run Tryz.prog w5 = .ok v6 w6 ∧ OwnB w6 v6 (blockPre count l (k + 1)) ∧ Chg Non w w6 ∧ (∀ g, v6.ownBlock = some g → w.heap.size ≤ g) ∧ w6.ownsRow w2.heap.size 3 1 (.slice (some ⟨gk, 0, none⟩) n c3) n ((l.map (·.1)).map encZ)) := by
        intro v4 w5 ho4 hc4 hf4
        obtain ⟨hvp, hlook, hsucc, hlk⟩ := HP.out
        obtain ⟨ho, hchg, hfr, hrow, hblk⟩ := HRo.out
        have c5' : Chg Non w w5 := hchg.trans ((Chg.refl _ wr).drew.tr hc4) fun g hg => .inr (hfr g hg)
        refine ⟨hlook _ c5', ?_⟩
        obtain ⟨v6, w6, hr, h6, h7, h8⟩ := appendB_run w5 48 v4 _ ho4 vp page (hvp.1.chg c5' fun _ _ => id) (by simp [hlk, bytes4, hk2]; omega)
        have fr4 : ∀ g, v4.ownBlock = some g → w.heap.size ≤ g := fun g hg => by
          rcases hf4 with e | e
          · exact hfr g (by rw [← e]; exact hg)
          · exact Nat.le_trans hchg.size (e g hg)
        have hrow5 : w5.ownsRow w2.heap.size 3 1 (.slice (some ⟨gk, 0, none⟩) n c3) n ((l.map (·.1)).map encZ) := by
          refine World.ownsRow.keep_ hrow fun g hg => ?_
          simp [Value.ownBlock] at hg; subst hg
          refine hc4.block gk hblk.lt fun e => ?_
          rcases ho with ⟨e', _⟩ | ⟨g5, cap5, cur5, e', hb5, _⟩
          · rw [e'] at e; simp [Value.ownBlock] at e
          · rw [e'] at e; simp [Value.ownBlock] at e; subst e
            exact Blk.ne_ hb5 hblk (by decide) rfl
        refine ⟨v6, w6, hr, by rw [hsucc]; simpa using h6, Chg.grown c5' h7 fun g hg => .inr (fr4 g hg), fun g hg => ?_, World.ownsRow.keep_ hrow5 fun g hg => ?_⟩
        · rcases h8 with e | e
          · exact fr4 g (by rw [← e]; exact hg)
          · rw [e] at hg; injection hg with hg; have := c5'.size; omega
        · simp [Value.ownBlock] at hg; subst hg
          have hb5 : Blk w5 gk 3 cur := by
            obtain ⟨g9, c9, cur9, e9, _, hb9, _⟩ := ownsRow_some hrow5 (by omega)
            injection e9 with e9; injection e9 with e9; injection e9 with e9; subst e9
            have : w5.heap[gk]? = wr.heap[gk]? := by
              refine hc4.block gk hblk.lt fun e => ?_
              rcases ho with ⟨e', _⟩ | ⟨g5, cap5, cur5, e', hb5, _⟩
              · rw [e'] at e; simp [Value.ownBlock] at e
              · rw [e'] at e; simp [Value.ownBlock] at e; subst e
                exact Blk.ne_ hb5 hblk (by decide) rfl
            exact this.trans hblk
          refine h7.block gk hb5.lt fun e => ?_
          rcases ho4 with ⟨e', _⟩ | ⟨g5, cap5, cur5, e', hb6, _⟩
          · rw [e'] at e; simp [Value.ownBlock] at e
          · rw [e'] at e; simp [Value.ownBlock] at e; subst e
            exact Blk.ne_ hb6 hb5 (by decide) rfl
      have HB5 : Hid (OwnB wr.drew (.slice A5 (blockPre count l k).length c5) (blockPre count l k)) := HRo.out.1
      have HQ : Hid (q < 2147483648 ∧ (blockPre count l k).length ≤ 4194304) := ⟨by omega, by rw [HP.out.2.2.2]; omega⟩
      clear HP HRo HW HO KR
      go_region_held3 (fun _ => True) (exact trivial) (first | (go_at_call 174; refine (put_any _ _ _ HB5.out q HQ.out.1 HQ.out.2).mono ?_; rintro e w5 ⟨v4, rfl, h4, h5, h6⟩; obtain ⟨hl5, v6, w6, hr, h7⟩ := OUT.out v4 w5 h4 h5 h6; have RUN := Lib.hid hr; have FIN := Lib.hid h7; clear h4 h5 h6 hr h7) | (refine step_append_run rfl (.tmp 24) (.tmp 27) _ _ rfl _ _ rfl rfl _ _ RUN.out ?_))
      all_goals
        clear hl5 hl0 hcell
        go_wp2_with fail
        go_roundw
        case measure => simp [intOf]; omega
        case rel => exact ⟨k + 1, by omega, by simp, FIN.out⟩
    · obtain rfl : k = n := by omega
      have e : blockPre count l k = blockM count l := by rw [HN.out, blockPre_all]
      rw [e] at ho hlk
      rw [e]
      have FIN : Hid (OwnB wr (.slice A5 (blockM count l).length c5) (blockM count l) ∧ Chg Non w wr ∧ ∀ g, (Value.slice A5 (blockM count l).length c5).ownBlock = some g → w.heap.size ≤ g) := ⟨ho, hchg, by rw [e] at hfr; exact hfr⟩
      clear ho hchg hfr hrow ho3 hk3 hp0 hp1 cw3
      go_wp2_with fail
      go_ret
      exact ⟨_, rfl, FIN.out⟩
end Go.Proofs.YtamhjjagjjdmoaaGreat
end

section
namespace Go.Proofs.YtamhjjagjjdmoaaGreat
open Go.RowKit Go.Maps Go.Shelf Go.Sort

theorem jump_imp {l : Nat} {J J' : Act → World → Prop} {Q : Exit → Act → World → Prop} (h : ∀ a w, J a w → J' a w) : ∀ e a w, Exit.jump l J Q e a w → Exit.jump l J' Q e a w := by
  intro e a w hx
  cases e <;> first | exact ⟨hx.1, h _ _ hx.2⟩ | exact hx
/-- jumps back to a label: the code behind the label is walked once -/
theorem wp_scope_once {P : Program} {a : Act} {w : World} {Q : Exit → Act → World → Prop} {c rest : Code} (l : Nat) (J : Act → World → Prop) (μ : Act → World → Nat) (hf : findLabel c l = some (Code.skip.seq rest))
    (pass : ∀ a w, J a w → rest.wp P (Exit.jump l (fun a' w' => J a' w' ∧ μ a' w' < μ a w) Q) a w)
    (first : (∀ a w, J a w → rest.wp P (Exit.jump l J Q) a w) → c.wp P (Exit.jump l J Q) a w) : (Code.scope c).wp P Q a w :=
  wp_scope_jumps l J μ hf (first fun a w hJ => Code.wp_mono (jump_imp fun _ _ h => h.1) (pass a w hJ)) fun a w hJ => wp_seq (wp_skip (pass a w hJ))
theorem be4_bytes4 (n : Nat) (h : n < 2147483648) (r : Bts) : be4 (bytes4 n ++ r) = n := by
  simp [be4, bytes4, UInt8.toNat_ofNat']
  omega
/-- a block that is whole, and said to be so -/
def blockOn (count : Nat) (l : PgL) : Bts := 1 :: (bytes4 count ++ (bytes4 l.length ++ l.flatMap pgBytes))

set_option maxHeartbeats 1000000 in
set_option maxRecDepth 100000 in
theorem parse_short (w : World) (A : Option Addr) (n c : Nat) (hl : n < 9) :
    Calls Tryz.prog 131 #[.slice A n c] w fun e w' => e = .returned (.tuple #[I 0, .map none, I 0]) ∧ w' = w := by
  have b1 : decide ((n : Int) < 9) = true := by simp; omega
  go_enter Tryz.func131, Tryz.ntmps131
  go_wp2_with fail
  go_step3
  go_wp2_with fail

  simp only [Exit.noGoto]
  go_ret3
  exact ⟨rfl, rfl⟩

theorem Sl.sub {w : World} {g o N c : Nat} {x : Bts} (h : Sl w (.slice (some ⟨g, o, none⟩) N c) x) (i j : Nat) (hij : i ≤ j) (hj : j ≤ N) : Sl w (.slice (some ⟨g, o + i, none⟩) (j - i) (c - i)) ((x.take j).drop i) := by
  rcases h with ⟨h, _⟩ | ⟨g', o', c', e, h1, h2, h3⟩
  · cases h
  · injection e with e1 e2 e3
    injection e1 with e1; injection e1 with e1 e4
    subst e1; subst e4; subst e2; subst e3
    refine .inr ⟨g, o + i, c - i, ?_, ?_, by omega, fun k u hu => ?_⟩
    · rw [List.length_drop, List.length_take, Nat.min_eq_left hj]
    · rw [List.length_drop, List.length_take, Nat.min_eq_left hj]; omega
    · rw [Nat.add_assoc]
      refine h3 (i + k) u ?_
      rw [List.getElem?_map] at hu ⊢
      rw [List.getElem?_drop, List.getElem?_take] at hu
      split at hu
      · exact hu
      · cases hu
theorem Sl.lt {w : World} {g o N c : Nat} {x : Bts} (h : Sl w (.slice (some ⟨g, o, none⟩) N c) x) (h0 : 0 < x.length) : g < w.heap.size := by
  obtain ⟨g', o', c', e, _, _, hc⟩ := h.cells_at h0
  injection e with e1; injection e1 with e1; injection e1 with e1; subst e1
  exact World.block_lt_of_cell? w _ (hc 0 h0)
theorem PgW.put {w : World} {F : Nat → Prop} {b : Nat} {l : PgL} (h : PgW w F b l) (k : Int) (hk : (Lit.int .i64 k).wf = true) (v : Value) (x : Bts) (hx : PgV w F v x) (hl : l.length < maxLen) :
    ∃ w', (Instr.mapUpdate 137 (.map (some b)) (I k) v).run Tryz.prog w = .ok () w' ∧ PgW w' F b (pput l k x) ∧ w.grownBy w' (some b) := by
  obtain ⟨m, h1, h2⟩ := h
  obtain ⟨w', hr, h3, h4⟩ := h1.put keyI Tryz.underlying137 (by rw [All2.length h2]; exact hl) (keyOfI k hk) (val := v)
  refine ⟨w', hr, ⟨mput m (.int .i64 k) v, h3, All2.imp' (PgE.put h2 k v x hx) fun p q hpq => ⟨hpq.1, hpq.2.put_ h4 h1⟩⟩, h4⟩
theorem blockOn_drop (count : Nat) (l : PgL) (rest : Bts) (k : Nat) (hk : k < l.length) (hl : ∀ p ∈ l, 0 ≤ p.1 ∧ p.1 < 4096 ∧ p.2.length = 512) : (blockOn count l ++ rest).drop (9 + k * 516) = bytes4 (l[k]).1.toNat ++ ((l[k]).2 ++ ((l.drop (k + 1)).flatMap pgBytes ++ rest)) := by
  rw [← List.drop_drop]
  have e : (blockOn count l ++ rest).drop 9 = l.flatMap pgBytes ++ rest := rfl
  rw [e]
  have e2 : l.flatMap pgBytes = (l.take k).flatMap pgBytes ++ (pgBytes l[k] ++ (l.drop (k + 1)).flatMap pgBytes) := by
    conv => lhs; rw [← List.take_append_drop k l, List.drop_eq_getElem_cons hk]
    rw [List.flatMap_append, List.flatMap_cons]
  have e3 : ((l.take k).flatMap pgBytes).length = k * 516 := by
    rw [length_flat _ fun p hp => hl p (List.mem_of_mem_take hp), List.length_take, Nat.min_eq_left (by omega)]
  rw [e2, List.append_assoc, List.drop_left' e3, pgBytes]
  simp only [List.append_assoc]
theorem pins_end (l : PgL) (k : Int) (x : Bts) (h : ∀ p ∈ l, p.1 < k) : pins (k, x) l = l ++ [(k, x)] := by
  induction l with
  | nil => rfl
  | cons a r ih =>
    have := h a (by simp)
    simp only [pins]
    rw [if_neg (by simp; omega), ih fun p hp => h p (List.mem_cons_of_mem _ hp)]
    rfl
theorem pput_end (l : PgL) (k : Int) (x : Bts) (h : ∀ p ∈ l, p.1 < k) : pput l k x = l ++ [(k, x)] := by
  have e : pdel l k = l := by
    rw [pdel, List.filter_eq_self]
    intro p hp
    have := h p hp
    simp; omega
  rw [pput, e, pins_end l k x h]
theorem take_pput {l : PgL} (hp : l.Pairwise fun p q => p.1 < q.1) (k : Nat) (hk : k < l.length) : l.take (k + 1) = pput (l.take k) (l[k]).1 (l[k]).2 := by
  rw [pput_end, List.take_succ_eq_append_getElem hk]
  intro p hpm
  have h2 : (l.take k ++ l.drop k).Pairwise fun p q => p.1 < q.1 := by rw [List.take_append_drop]; exact hp
  rw [List.pairwise_append] at h2
  exact h2.2.2 p hpm _ (by rw [List.drop_eq_getElem_cons hk]; exact List.mem_cons_self)
theorem makeMap_run (w : World) : (Instr.makeMap 137 none).run Tryz.prog w = .ok (.map (some w.heap.size)) (w.alloc (.map #[] 0)) := by
  simp [Instr.makeMap, go_sem]
set_option maxRecDepth 100000 in
theorem slice_mid (w : World) (g o N c p : Nat) (h3 : (p : Int) + 516 ≤ (c : Int)) (h4 : ¬ c = p + 4) :
    (Instr.slice 48 (.slice (some ⟨g, o, none⟩) N c) (some (I ((p : Int) + 4))) (some (I ((p : Int) + 516))) none).run Tryz.prog w = .ok (.slice (some ⟨g, o + (p + 4), none⟩) 512 (c - (p + 4))) w := by
  have e1 : ((p : Int) + 4).toNat = p + 4 := by omega
  have e2 : ((p : Int) + 516).toNat - (p + 4) = 512 := by omega
  have h5 : (0 : Int) ≤ (p : Int) + 516 := by omega
  have h6 : (0 : Int) ≤ (p : Int) + 4 ∧ (p : Int) + 4 ≤ max ((p : Int) + 516) 0 := by omega
  go_simp
def ParseJ (w : World) (g o N c n : Nat) (l : PgL) : Act → World → Prop := fun a' w' => ∃ (k p : Nat) (u7 u8 u9 u10 u11 u12 u13 u14 u15 u16 u17 u18 u19 u20 u21 u22 u23 u24 u25 u26 u27 u28 u29 u30 u31 u32 u33 u34 u35 u36 u37 u38 u39 u40 u41 u42 u43 u44 u45 u46 u47 u48 u49 u50 u51 u52 u53 u54 : Value), a' = { tmps := #[.slice (some ⟨g, o, none⟩) N c, undef, I 0, .map (some w.heap.size), I 0, I n, I p, u7, u8, u9, u10, u11, u12, u13, u14, u15, u16, u17, u18, u19, u20, u21, u22, u23, u24, u25, u26, u27, u28, u29, u30, u31, u32, u33, u34, u35, u36, u37, u38, u39, u40, u41, u42, u43, u44, u45, u46, u47, u48, u49, u50, u51, u52, u53, u54], defers := [] } ∧ k ≤ n ∧ p = 9 + k * 516 ∧ PgW w' (fun x => x = g) w.heap.size (l.take k) ∧ Chg Non w w'

set_option maxHeartbeats 1000000 in
set_option maxRecDepth 100000 in
theorem parse_block (w : World) (v : Value) (count : Nat) (l : PgL) (rest : Bts) (h : Sl w v (blockOn count l ++ rest)) (hl : PgOk l) (hp : l.Pairwise fun p q => p.1 < q.1) (hc : count ≤ 4096) (hb : (blockOn count l ++ rest).length ≤ 4194304) :
    Calls Tryz.prog 131 #[v] w fun e w' => ∃ bm, e = .returned (.tuple #[I count, .map (some bm), I (blockOn count l).length]) ∧ PgW w' (fun g => v.ownBlock = some g) bm l ∧ Chg Non w w' ∧ w.heap.size ≤ bm := by
  have hlen : (blockOn count l).length = 9 + l.length * 516 := by
    simp [blockOn, bytes4, length_flat l hl.2]; omega
  obtain ⟨g, o, c, rfl, hc1, hc2, hcell⟩ := h.cells_at (by simp [blockOn])
  have hcell0 : w.cell? ⟨g, o, none⟩ = some (.int .u8 1) := hcell 0 (by simp [blockOn])
  obtain ⟨N, hN⟩ : ∃ N, N = (blockOn count l ++ rest).length := ⟨_, rfl⟩
  obtain ⟨n, hn⟩ : ∃ n, n = l.length := ⟨_, rfl⟩
  have hNn : 9 + n * 516 ≤ N := by rw [hN, List.length_append, hlen, hn]; omega
  have hn4 := hl.1
  rw [← hn] at hn4
  rw [← hN] at hc1 hb ⊢
  have S5 : Hid (Sl w (.slice (some ⟨g, o + 5, none⟩) (N - 5) (c - 5)) (bytes4 n ++ (l.flatMap pgBytes ++ rest))) := by
    have := Sl.sub h 5 N (by omega) (by rw [← hN]; exact Nat.le_refl _)
    rw [hN, List.take_length] at this
    rw [← hN] at this
    have e : List.drop 5 (blockOn count l ++ rest) = bytes4 n ++ (l.flatMap pgBytes ++ rest) := by rw [hn]; simp [blockOn, bytes4]
    rw [e] at this
    exact this
  have b1 : decide ((N : Int) < 9) = false := by simp; omega
  have i1 : (5 : Int) ≤ (N : Int) := by omega
  have i3 : ¬ c = 5 := by omega
  have H := Lib.hid (And.intro h (And.intro hl (And.intro hp (And.intro hlen (And.intro hcell (And.intro hN hn))))))
  have HB : Hid (4 ≤ (bytes4 n ++ (l.flatMap pgBytes ++ rest)).length ∧ be4 (bytes4 n ++ (l.flatMap pgBytes ++ rest)) = n) := ⟨by simp [bytes4], be4_bytes4 n (by omega) _⟩
  clear h hl hp hlen hcell hN hn
  go_enter Tryz.func131, Tryz.ntmps131
  go_wp2_with fail
  refine wp_scope_once 0 (ParseJ w g o N c n l) (fun a' _ => N - (intOf (a'.tmps.getD 6 undef)).toNat) rfl ?_ ?_
  · rintro a wr ⟨k, p, u7, u8, u9, u10, u11, u12, u13, u14, u15, u16, u17, u18, u19, u20, u21, u22, u23, u24, u25, u26, u27, u28, u29, u30, u31, u32, u33, u34, u35, u36, u37, u38, u39, u40, u41, u42, u43, u44, u45, u46, u47, u48, u49, u50, u51, u52, u53, u54, rfl, hk, hpk, hpg, hchg⟩
    have hlenm : ∀ ty, (Builtin.len_ #[137] ty #[.map (some w.heap.size)]).run Tryz.prog wr = .ok (I k) wr := fun ty => by
      rw [hpg.len, List.length_take, Nat.min_eq_left (by rw [← H.out.2.2.2.2.2.2]; exact hk)]
    by_cases hlt : k < n
    · have b3 : decide ((k : Int) < (n : Int)) = true := by simp; omega
      have hpN : p + 516 ≤ N := by omega
      have b4 : decide ((p : Int) + 516 ≤ (N : Int)) = true := by simp; omega
      obtain ⟨hsl, hl, hpr, hlen, _, hN, hn⟩ := H.out
      have hkl : k < l.length := by omega
      obtain ⟨hk0, hk1, hk2⟩ := hl.2 _ (List.getElem_mem hkl)
      have hdrop := blockOn_drop count l rest k hkl hl.2
      rw [← hpk] at hdrop
      have htake := take_pput hpr k hkl
      generalize hkey : (l[k]).1 = key at *
      generalize hpage : (l[k]).2 = page at *
      obtain ⟨q, rfl⟩ : ∃ q : Nat, key = (q : Int) := ⟨key.toNat, by omega⟩
      rw [Int.toNat_natCast] at hdrop
      have SN : Hid (Sl wr.drew (.slice (some ⟨g, o + p, none⟩) (N - p) (c - p)) (bytes4 q ++ (page ++ ((l.drop (k + 1)).flatMap pgBytes ++ rest)))) := by
        have := Sl.sub (hsl.chg hchg.drew fun _ _ => id) p N (by omega) (by rw [← hN]; exact Nat.le_refl _)
        rw [hN, List.take_length, hdrop] at this
        rw [← hN] at this
        exact this
      have SP : Hid (Sl wr.drew (.slice (some ⟨g, o + (p + 4), none⟩) 512 (c - (p + 4))) page) := by
        have := Sl.sub (hsl.chg hchg.drew fun _ _ => id) (p + 4) (p + 516) (by omega) (by omega)
        rw [List.drop_take, show p + 516 - (p + 4) = 512 by omega, ← List.drop_drop, hdrop] at this
        rw [show List.drop 4 (bytes4 q ++ (page ++ ((l.drop (k + 1)).flatMap pgBytes ++ rest))) = page ++ ((l.drop (k + 1)).flatMap pgBytes ++ rest) from rfl, List.take_left' hk2] at this
        exact this
      have HB4 : Hid (4 ≤ (bytes4 q ++ (page ++ ((l.drop (k + 1)).flatMap pgBytes ++ rest))).length ∧ be4 (bytes4 q ++ (page ++ ((l.drop (k + 1)).flatMap pgBytes ++ rest))) = q) := ⟨by simp [bytes4], be4_bytes4 q (by omega) _⟩
      have MUT : Hid (∀ m, ∃ w6, (Instr.mapUpdate 137 (.map (some w.heap.size)) (I q) (.slice (some ⟨g, o + (p + 4), none⟩) 512 (c - (p + 4)))).run Tryz.prog (wr.drewN m) = .ok () w6 ∧ PgW w6 (fun x => x = g) w.heap.size (l.take (k + 1)) ∧ Chg Non w w6) := by
        intro m
        obtain ⟨w6, h1, h2, h3⟩ := (hpg.chg ((Chg.refl Non wr).drewN m) id fun _ _ => id).put q (WalkArith.wf_i64 (by omega)) (.slice (some ⟨g, o + (p + 4), none⟩) 512 (c - (p + 4))) page
          ⟨SP.out.drewN m, fun x hx => by simp [Value.ownBlock] at hx; subst hx; exact ⟨rfl, (Sl.lt (SP.out.drewN m) (by omega))⟩⟩ (by rw [List.length_take]; unfold maxLen; omega)
        exact ⟨w6, h1, by rw [htake]; exact h2, Chg.grown (hchg.drewN m) h3 fun x hx => .inr (by injection hx with hx; omega)⟩
      have HPK := Lib.hid hpk
      clear hpk hpg hchg hdrop htake hkey hpage hsl hl hpr hlen hN hn hcell0
      have j1 : (p : Int) ≤ (N : Int) := by omega
      have j2 : (p : Int) + 4 ≤ (p : Int) + 516 := by omega
      have j3 : (p : Int) + 516 ≤ (c : Int) := by omega
      have j5 : ¬ c = p := by omega
      have j6 : ¬ c = p + 4 := by omega
      have hw4 : IntKind.i64.wrap ((p : Int) + 4) = (p : Int) + 4 := by rw [IntKind.wrap_i64]; omega
      have hw5 : IntKind.i64.wrap ((p : Int) + 516) = (p : Int) + 516 := by rw [IntKind.wrap_i64]; omega
      have hsm := fun w => slice_mid w g o N c p j3 j6
      go_wp2_with fail
      go_region_held3 (fun _ => True) (exact trivial) (first | (go_at_call 183; refine (number_any _ _ _ SN.out HB4.out.1).mono ?_; rintro e w5 ⟨rfl, m, rfl⟩; rw [HB4.out.2]; obtain ⟨w6, hmu, h6⟩ := MUT.out (1 + m); have FIN := Lib.hid h6; clear h6))
      all_goals
        clear hmu hlenm hw4 hw5 hsm
        go_wp2_with fail
        go_step3
        refine ⟨rfl, ⟨k + 1, p + 516, _, _, _, _, _, _, _, _, _, _, _, _, _, _, _, _, _, _, _, _, _, _, _, _, _, _, _, _, _, _, _, _, _, _, _, _, _, _, _, _, _, _, _, _, _, _, _, _, rfl, by omega, by rw [HPK.out]; omega, FIN.out.1, FIN.out.2⟩, ?_⟩
        · simp [intOf]; omega
    · have b3 : decide ((k : Int) < (n : Int)) = false := by simp; omega
      obtain ⟨hsl, hl, hpr, hlen, _, hN, hn⟩ := H.out
      obtain rfl : k = n := by omega
      have FIN : Hid (PgW wr (fun x => x = g) w.heap.size l ∧ Chg Non w wr ∧ p = (blockOn count l).length) := ⟨by rw [hn, List.take_length] at hpg; exact hpg, hchg, by rw [hlen, hpk, hn]⟩
      have S1 : Hid (Sl wr (.slice (some ⟨g, o + 1, none⟩) (N - 1) (c - 1)) (bytes4 count ++ (bytes4 l.length ++ (l.flatMap pgBytes ++ rest)))) := by
        have := Sl.sub (hsl.chg hchg fun _ _ => id) 1 N (by omega) (by rw [← hN]; exact Nat.le_refl _)
        rw [hN, List.take_length] at this
        rw [← hN] at this
        have e : List.drop 1 (blockOn count l ++ rest) = bytes4 count ++ (bytes4 l.length ++ (l.flatMap pgBytes ++ rest)) := by simp [blockOn]
        rw [e] at this
        exact this
      have HB1 : Hid (4 ≤ (bytes4 count ++ (bytes4 l.length ++ (l.flatMap pgBytes ++ rest))).length ∧ be4 (bytes4 count ++ (bytes4 l.length ++ (l.flatMap pgBytes ++ rest))) = count) := ⟨by simp [bytes4], be4_bytes4 count (by omega) _⟩
      have j1 : (1 : Int) ≤ (N : Int) := by omega
      have j2 : ¬ c = 1 := by omega
      clear hsl hl hpr hlen hN hn hpg hchg hpk
      go_wp2_with fail
      refine (number_any _ _ _ S1.out HB1.out.1).mono ?_
      rintro e w2 ⟨rfl, m, rfl⟩
      rw [HB1.out.2]
      go_wp2_with fail
      simp only [Exit.jump]
      go_ret3
      refine ⟨w.heap.size, ?_, PgW.mono (FIN.out.1.chg ((Chg.refl Non wr).drewN m) id fun _ _ => id) fun x hx => by rw [hx]; rfl, FIN.out.2.1.drewN m, Nat.le_refl _⟩
      rw [← FIN.out.2.2]
      rfl
  · intro HP
    have HPH := Lib.hid HP
    clear HP
    go_wp2_with fail
    refine (number_any _ _ _ S5.out HB.out.1).mono ?_
    rintro e w2 ⟨rfl, m, rfl⟩
    rw [HB.out.2]
    have hmk := fun w => makeMap_run w
    have b2 : decide (((N : Int) - 9) / 516 < (n : Int)) = false := by simp; omega
    go_wp2_with fail
    go_step3
    rename_i hK
    refine hK _ _ (HPH.out _ _ ⟨0, 9, _, _, _, _, _, _, _, _, _, _, _, _, _, _, _, _, _, _, _, _, _, _, _, _, _, _, _, _, _, _, _, _, _, _, _, _, _, _, _, _, _, _, _, _, _, _, _, _, rfl, Nat.zero_le _, rfl, ?_, ?_⟩)
    · exact PgW.made (w.drewN m) _
    · exact ((Chg.refl Non w).drewN m).alloc _
end Go.Proofs.YtamhjjagjjdmoaaGreat
end
