/-
  DERIVED: THE SHELF's CONTRACTS AT THIS DUMP, IN PLAIN WORDS (tools/lay-plain.mjs out of 'YtjpjidgfcljpcaaShelf.lean', which tools/lay-shelf.mjs wrote): THE SAME DECLARATIONS UNDER THE SAME NAMES: 'import', 'namespace', 'open', 'def', 'theorem' AND NOTHING ELSE: no command of the shelf's: FOR A HAND-IN. Each laying: the table of numbers ('.._ren') and one theorem, a field a fact of the dump's own or the kernel's comparison; each contract: ONE APPLICATION.
-/
import Derived.Shelf.Sort.Plain
import Derived.Shelf.Slices.In.SortNone
import Derived.Shelf.Slices.CompactI
import Derived.Sort.OwnSortedInts
import Derived.Test.YtjpjidgfcljpcaaProg
namespace Go.Proofs
open Go.Shelf
def Try.lays189_ren : Go.Shelf.Ren := ⟨fun | 189 => 97 | 125 => 173 | 257 => 172 | 128 => 214 | 129 => 215 | 294 => 205 | 295 => 206 | 296 => 207 | 297 => 208 | 298 => 209 | 299 => 210 | 216 => 211 | 300 => 212 | 301 => 213 | 328 => 228 | 329 => 229 | 330 => 230 | 331 => 231 | 332 => 232 | 215 => 233 | 343 => 241 | n => n, fun | 28 => 39 | 3 => 3 | 46 => 198 | 0 => 0 | 51 => 243 | 53 => 245 | 4 => 4 | 183 => 235 | 182 => 234 | 131 => 240 | 5 => 5 | 9 => 9 | 218 => 264 | 222 => 268 | 228 => 279 | 229 => 280 | n => n, fun | n => n⟩
theorem Try.lays189 : Go.Proofs.Lays.n189 Try.prog Try.lays189_ren := {
  mixed := by kernel_rfl
  f125 := Try.func173.trans (congrArg some (by kernel_rfl))
  f128 := Try.func214.trans (congrArg some (by kernel_rfl))
  f129 := Try.func215.trans (congrArg some (by kernel_rfl))
  f189 := Try.func97.trans (congrArg some (by kernel_rfl))
  f215 := Try.func233.trans (congrArg some (by kernel_rfl))
  f216 := Try.func211.trans (congrArg some (by kernel_rfl))
  f257 := Try.func172.trans (congrArg some (by kernel_rfl))
  f294 := Try.func205.trans (congrArg some (by kernel_rfl))
  f295 := Try.func206.trans (congrArg some (by kernel_rfl))
  f296 := Try.func207.trans (congrArg some (by kernel_rfl))
  f297 := Try.func208.trans (congrArg some (by kernel_rfl))
  f298 := Try.func209.trans (congrArg some (by kernel_rfl))
  f299 := Try.func210.trans (congrArg some (by kernel_rfl))
  f300 := Try.func212.trans (congrArg some (by kernel_rfl))
  f301 := Try.func213.trans (congrArg some (by kernel_rfl))
  f328 := Try.func228.trans (congrArg some (by kernel_rfl))
  f329 := Try.func229.trans (congrArg some (by kernel_rfl))
  f330 := Try.func230.trans (congrArg some (by kernel_rfl))
  f331 := Try.func231.trans (congrArg some (by kernel_rfl))
  f332 := Try.func232.trans (congrArg some (by kernel_rfl))
  f343 := Try.func241.trans (congrArg some (by kernel_rfl))
  t0 := Try.underlying0
  a0 := Try.isAgg0
  z0 := Try.sizeOf0
  v0 := Try.zeroValue0
  t3 := Try.underlying3
  a3 := Try.isAgg3
  z3 := Try.sizeOf3
  v3 := Try.zeroValue3
  t4 := Try.underlying4
  a4 := Try.isAgg4
  z4 := Try.sizeOf4
  v4 := Try.zeroValue4
  t5 := Try.underlying5
  a5 := Try.isAgg5
  z5 := Try.sizeOf5
  v5 := Try.zeroValue5
  t9 := Try.underlying9
  a9 := Try.isAgg9
  z9 := Try.sizeOf9
  v9 := Try.zeroValue9
  t28 := Try.underlying39
  a28 := Try.isAgg39
  z28 := Try.sizeOf39
  v28 := Try.zeroValue39
  t46 := Try.underlying198
  a46 := Try.isAgg198
  z46 := Try.sizeOf198
  v46 := Try.zeroValue198
  t51 := Try.underlying243
  a51 := Try.isAgg243
  z51 := Try.sizeOf243
  v51 := Try.zeroValue243
  t53 := Try.underlying245
  a53 := Try.isAgg245
  z53 := Try.sizeOf245
  v53 := Try.zeroValue245
  t131 := Try.underlying240
  a131 := Try.isAgg240
  z131 := Try.sizeOf240
  v131 := Try.zeroValue240
  t182 := Try.underlying234
  a182 := Try.isAgg234
  z182 := Try.sizeOf234
  v182 := Try.zeroValue234
  t183 := Try.underlying235
  a183 := Try.isAgg235
  z183 := Try.sizeOf235
  v183 := Try.zeroValue235
  t218 := Try.underlying264
  a218 := Try.isAgg264
  z218 := Try.sizeOf264
  v218 := Try.zeroValue264
  t222 := Try.underlying268
  a222 := Try.isAgg268
  z222 := Try.sizeOf268
  v222 := Try.zeroValue268
  t228 := Try.underlying279
  a228 := Try.isAgg279
  z228 := Try.sizeOf279
  v228 := Try.zeroValue279
  t229 := Try.underlying280
  a229 := Try.isAgg280
  z229 := Try.sizeOf280
  v229 := Try.zeroValue280 }
def Try.lays20_ren : Go.Shelf.Ren := ⟨fun | 20 => 98 | n => n, fun | 22 => 39 | 3 => 3 | 4 => 4 | 0 => 0 | n => n, fun | n => n⟩
theorem Try.lays20 : Go.Proofs.Lays2.n20 Try.prog Try.lays20_ren := {
  mixed := by kernel_rfl
  f20 := Try.func98.trans (congrArg some (by kernel_rfl))
  t0 := Try.underlying0
  a0 := Try.isAgg0
  z0 := Try.sizeOf0
  v0 := Try.zeroValue0
  t3 := Try.underlying3
  a3 := Try.isAgg3
  z3 := Try.sizeOf3
  v3 := Try.zeroValue3
  t4 := Try.underlying4
  a4 := Try.isAgg4
  z4 := Try.sizeOf4
  v4 := Try.zeroValue4
  t22 := Try.underlying39
  a22 := Try.isAgg39
  z22 := Try.sizeOf39
  v22 := Try.zeroValue39
  i3 := by kernel_rfl }
end Go.Proofs
