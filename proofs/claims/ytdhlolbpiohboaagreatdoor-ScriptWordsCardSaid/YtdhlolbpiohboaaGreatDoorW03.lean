/- A part of a proof: for every string the law ScriptWords returns true, and its argument reads as it did (no condition) -/
import Derived.KernelRfl
import Derived.Test.YtdhlolbpiohboaaGreatDoorProg
import Derived.Lib.Bytealg
import Derived.Lib.Join
import Derived.Laws.Externs
import Derived.Shelf.Strings.OnBuilder
import Derived.Test.YtdhlolbpiohboaaGreatDoorW02
set_option linter.all false
section
/- Printed by tools/rxgen.py: what the run that reckons is told of the program. -/
namespace Go.Rm
open Go.Proofs
set_option maxRecDepth 20000
def td1 : TD := ⟨.func, 1, [.v .nilFunc], false⟩
def td2 : TD := ⟨.int .i64, 1, [.v (.int .i64 0)], false⟩
def td3 : TD := ⟨.int .i64, 1, [.v (.int .i64 0)], false⟩
def td4 : TD := ⟨.bool, 1, [.v (.bool false)], false⟩
def td5 : TD := ⟨.int .u8, 1, [.v (.int .u8 0)], false⟩
def td9 : TD := ⟨.string, 1, [.v (.string ByteArray.empty)], false⟩
def td20 : TD := ⟨.iface, 1, [.v .nilIface], false⟩
def td21 : TD := ⟨.int .i32, 1, [.v (.int .i32 0)], false⟩
def td27 : TD := ⟨.slice 9, 1, [.v (.slice none 0 0)], false⟩
def td29 : TD := ⟨.ptr, 1, [.v (.pointer none)], false⟩
def td30 : TD := ⟨.ptr, 1, [.v (.pointer none)], false⟩
def td32 : TD := ⟨.struct [(0, 30)], 1, [.v (.pointer none)], false⟩
def td33 : TD := ⟨.map 9 43, 1, [.v (.map none)], false⟩
def td37 : TD := ⟨.func, 1, [.v .nilFunc], false⟩
def td40 : TD := ⟨.func, 1, [.v .nilFunc], false⟩
def td43 : TD := ⟨.struct [(0, 3), (1, 40)], 2, [.v (.int .i64 0), .v .nilFunc], false⟩
def td44 : TD := ⟨.slice 3, 1, [.v (.slice none 0 0)], false⟩
def td46 : TD := ⟨.int .u64, 1, [.v (.int .u64 0)], false⟩
def td48 : TD := ⟨.struct [(0, 3), (1, 3), (2, 3), (3, 46), (4, 5), (5, 3)], 6, [.v (.int .i64 0), .v (.int .i64 0), .v (.int .i64 0), .v (.int .u64 0), .v (.int .u8 0), .v (.int .i64 0)], false⟩
def td51 : TD := ⟨.int .i64, 1, [.v (.int .i64 0)], false⟩
def td54 : TD := ⟨.slice 56, 1, [.v (.slice none 0 0)], false⟩
def td56 : TD := ⟨.struct [(0, 3), (1, 3)], 2, [.v (.int .i64 0), .v (.int .i64 0)], false⟩
def td59 : TD := ⟨.slice 68, 1, [.v (.slice none 0 0)], false⟩
def td61 : TD := ⟨.struct [(0, 51), (1, 46), (2, 59)], 3, [.v (.int .i64 0), .v (.int .u64 0), .v (.slice none 0 0)], false⟩
def td65 : TD := ⟨.slice 20, 1, [.v (.slice none 0 0)], false⟩
def td66 : TD := ⟨.int .u32, 1, [.v (.int .u32 0)], false⟩
def td68 : TD := ⟨.struct [(0, 66), (1, 46), (2, 46), (3, 46), (4, 4)], 5, [.v (.int .u32 0), .v (.int .u64 0), .v (.int .u64 0), .v (.int .u64 0), .v (.bool false)], false⟩
def td74 : TD := ⟨.slice 81, 1, [.v (.slice none 0 0)], false⟩
def td75 : TD := ⟨.slice 79, 1, [.v (.slice none 0 0)], false⟩
def td76 : TD := ⟨.slice 48, 1, [.v (.slice none 0 0)], false⟩
def td78 : TD := ⟨.struct [(0, 74), (1, 75), (2, 76)], 3, [.v (.slice none 0 0), .v (.slice none 0 0), .v (.slice none 0 0)], false⟩
def td79 : TD := ⟨.arr 2 9, 2, [.v (.string ByteArray.empty), .v (.string ByteArray.empty)], false⟩
def td80 : TD := ⟨.arr 2 51, 2, [.v (.int .i64 0), .v (.int .i64 0)], false⟩
def td81 : TD := ⟨.ptr, 1, [.v (.pointer none)], false⟩
def td82 : TD := ⟨.ptr, 1, [.v (.pointer none)], false⟩
def td83 : TD := ⟨.arr 8 4, 8, [.v (.bool false), .v (.bool false), .v (.bool false), .v (.bool false), .v (.bool false), .v (.bool false), .v (.bool false), .v (.bool false)], false⟩
def td85 : TD := ⟨.struct [(0, 82), (1, 46), (2, 4), (3, 83), (11, 83)], 19, [.v (.pointer none), .v (.int .u64 0), .v (.bool false), .v (.bool false), .v (.bool false), .v (.bool false), .v (.bool false), .v (.bool false), .v (.bool false), .v (.bool false), .v (.bool false), .v (.bool false), .v (.bool false), .v (.bool false), .v (.bool false), .v (.bool false), .v (.bool false), .v (.bool false), .v (.bool false)], false⟩
def td88 : TD := ⟨.slice 51, 1, [.v (.slice none 0 0)], false⟩
def td96 : TD := ⟨.arr 32 5, 32, [.bytes 32 (Vector.replicate 32 0)], false⟩
def td97 : TD := ⟨.arr 32 5, 32, [.bytes 32 (Vector.replicate 32 0)], false⟩
def td99 : TD := ⟨.struct [(0, 66), (1, 46), (2, 46), (3, 97), (35, 9), (36, 9)], 37, [.v (.int .u32 0), .v (.int .u64 0), .v (.int .u64 0), .bytes 32 (Vector.replicate 32 0), .v (.string ByteArray.empty), .v (.string ByteArray.empty)], false⟩
def td102 : TD := ⟨.func, 1, [.v .nilFunc], false⟩
def td104 : TD := ⟨.map 3 102, 1, [.v (.map none)], false⟩
def td106 : TD := ⟨.arr 4 46, 4, [.v (.int .u64 0), .v (.int .u64 0), .v (.int .u64 0), .v (.int .u64 0)], false⟩
def td107 : TD := ⟨.ptr, 1, [.v (.pointer none)], false⟩
def td108 : TD := ⟨.slice 5, 1, [.v (.slice none 0 0)], false⟩
def td110 : TD := ⟨.struct [(0, 107), (1, 108)], 2, [.v (.pointer none), .v (.slice none 0 0)], false⟩
def td113 : TD := ⟨.iface, 1, [.v .nilIface], false⟩
def td117 : TD := ⟨.ptr, 1, [.v (.pointer none)], false⟩
def td120 : TD := ⟨.func, 1, [.v .nilFunc], false⟩
def td122 : TD := ⟨.map 46 3, 1, [.v (.map none)], false⟩
def td123 : TD := ⟨.slice 130, 1, [.v (.slice none 0 0)], false⟩
def td124 : TD := ⟨.ptr, 1, [.v (.pointer none)], false⟩
def td128 : TD := ⟨.struct [(0, 46), (1, 46), (2, 97), (34, 3)], 35, [.v (.int .u64 0), .v (.int .u64 0), .bytes 32 (Vector.replicate 32 0), .v (.int .i64 0)], false⟩
def td130 : TD := ⟨.struct [(0, 128), (35, 4), (36, 3), (37, 4)], 38, [.v (.int .u64 0), .v (.int .u64 0), .bytes 32 (Vector.replicate 32 0), .v (.int .i64 0), .v (.bool false), .v (.int .i64 0), .v (.bool false)], false⟩
def td131 : TD := ⟨.slice 145, 1, [.v (.slice none 0 0)], false⟩
def td132 : TD := ⟨.ptr, 1, [.v (.pointer none)], false⟩
def td133 : TD := ⟨.slice 147, 1, [.v (.slice none 0 0)], false⟩
def td134 : TD := ⟨.map 97 97, 1, [.v (.map none)], false⟩
def td135 : TD := ⟨.map 97 292, 1, [.v (.map none)], false⟩
def td136 : TD := ⟨.map 153 150, 1, [.v (.map none)], false⟩
def td138 : TD := ⟨.struct [(0, 132), (1, 133), (2, 134), (3, 134), (4, 135), (5, 136), (6, 4)], 7, [.v (.pointer none), .v (.slice none 0 0), .v (.map none), .v (.map none), .v (.map none), .v (.map none), .v (.bool false)], false⟩
def td141 : TD := ⟨.struct [(0, 66), (1, 46)], 2, [.v (.int .u32 0), .v (.int .u64 0)], false⟩
def td143 : TD := ⟨.struct [(0, 141), (2, 46), (3, 3)], 4, [.v (.int .u32 0), .v (.int .u64 0), .v (.int .u64 0), .v (.int .i64 0)], false⟩
def td145 : TD := ⟨.struct [(0, 143), (4, 143), (8, 97)], 40, [.v (.int .u32 0), .v (.int .u64 0), .v (.int .u64 0), .v (.int .i64 0), .v (.int .u32 0), .v (.int .u64 0), .v (.int .u64 0), .v (.int .i64 0), .bytes 32 (Vector.replicate 32 0)], false⟩
def td147 : TD := ⟨.struct [(0, 66), (1, 117)], 2, [.v (.int .u32 0), .v (.pointer none)], false⟩
def td150 : TD := ⟨.struct [(0, 3), (1, 97)], 33, [.v (.int .i64 0), .bytes 32 (Vector.replicate 32 0)], false⟩
def td151 : TD := ⟨.func, 1, [.v .nilFunc], false⟩
def td153 : TD := ⟨.struct [(0, 3), (1, 46)], 2, [.v (.int .i64 0), .v (.int .u64 0)], false⟩
def td155 : TD := ⟨.struct [(0, 46), (1, 46)], 2, [.v (.int .u64 0), .v (.int .u64 0)], false⟩
def td158 : TD := ⟨.slice 46, 1, [.v (.slice none 0 0)], false⟩
def td168 : TD := ⟨.arr 24 5, 24, [.bytes 24 (Vector.replicate 24 0)], false⟩
def td173 : TD := ⟨.ptr, 1, [.v (.pointer none)], false⟩
def td174 : TD := ⟨.ptr, 1, [.v (.pointer none)], false⟩
def td175 : TD := ⟨.ptr, 1, [.v (.pointer none)], false⟩
def td176 : TD := ⟨.slice 190, 1, [.v (.slice none 0 0)], false⟩
def td178 : TD := ⟨.struct [(0, 174), (1, 124), (2, 175), (3, 9), (4, 176), (5, 3), (6, 4), (7, 4), (8, 4)], 9, [.v (.pointer none), .v (.pointer none), .v (.pointer none), .v (.string ByteArray.empty), .v (.slice none 0 0), .v (.int .i64 0), .v (.bool false), .v (.bool false), .v (.bool false)], false⟩
def td182 : TD := ⟨.struct [(0, 3), (1, 66), (2, 46), (3, 46), (4, 97), (36, 3), (37, 3)], 38, [.v (.int .i64 0), .v (.int .u32 0), .v (.int .u64 0), .v (.int .u64 0), .bytes 32 (Vector.replicate 32 0), .v (.int .i64 0), .v (.int .i64 0)], false⟩
def td185 : TD := ⟨.func, 1, [.v .nilFunc], false⟩
def td186 : TD := ⟨.map 3 192, 1, [.v (.map none)], false⟩
def td190 : TD := ⟨.struct [(0, 3), (1, 128), (36, 97)], 68, [.v (.int .i64 0), .v (.int .u64 0), .v (.int .u64 0), .bytes 32 (Vector.replicate 32 0), .v (.int .i64 0), .bytes 32 (Vector.replicate 32 0)], false⟩
def td192 : TD := ⟨.func, 1, [.v .nilFunc], false⟩
def td195 : TD := ⟨.slice 128, 1, [.v (.slice none 0 0)], false⟩
def td197 : TD := ⟨.struct [(0, 195), (1, 158)], 2, [.v (.slice none 0 0), .v (.slice none 0 0)], false⟩
def td204 : TD := ⟨.struct [(0, 3), (1, 3), (2, 4), (3, 46), (4, 46), (5, 4), (6, 4), (7, 4)], 8, [.v (.int .i64 0), .v (.int .i64 0), .v (.bool false), .v (.int .u64 0), .v (.int .u64 0), .v (.bool false), .v (.bool false), .v (.bool false)], false⟩
def td206 : TD := ⟨.struct [(0, 4), (1, 3), (2, 97)], 34, [.v (.bool false), .v (.int .i64 0), .bytes 32 (Vector.replicate 32 0)], false⟩
def td207 : TD := ⟨.arr 17 206, 578, [.v (.bool false), .v (.int .i64 0), .bytes 32 (Vector.replicate 32 0), .v (.bool false), .v (.int .i64 0), .bytes 32 (Vector.replicate 32 0), .v (.bool false), .v (.int .i64 0), .bytes 32 (Vector.replicate 32 0), .v (.bool false), .v (.int .i64 0), .bytes 32 (Vector.replicate 32 0), .v (.bool false), .v (.int .i64 0), .bytes 32 (Vector.replicate 32 0), .v (.bool false), .v (.int .i64 0), .bytes 32 (Vector.replicate 32 0), .v (.bool false), .v (.int .i64 0), .bytes 32 (Vector.replicate 32 0), .v (.bool false), .v (.int .i64 0), .bytes 32 (Vector.replicate 32 0), .v (.bool false), .v (.int .i64 0), .bytes 32 (Vector.replicate 32 0), .v (.bool false), .v (.int .i64 0), .bytes 32 (Vector.replicate 32 0), .v (.bool false), .v (.int .i64 0), .bytes 32 (Vector.replicate 32 0), .v (.bool false), .v (.int .i64 0), .bytes 32 (Vector.replicate 32 0), .v (.bool false), .v (.int .i64 0), .bytes 32 (Vector.replicate 32 0), .v (.bool false), .v (.int .i64 0), .bytes 32 (Vector.replicate 32 0), .v (.bool false), .v (.int .i64 0), .bytes 32 (Vector.replicate 32 0), .v (.bool false), .v (.int .i64 0), .bytes 32 (Vector.replicate 32 0), .v (.bool false), .v (.int .i64 0), .bytes 32 (Vector.replicate 32 0)], false⟩
def td209 : TD := ⟨.struct [(0, 207)], 578, [.v (.bool false), .v (.int .i64 0), .bytes 32 (Vector.replicate 32 0), .v (.bool false), .v (.int .i64 0), .bytes 32 (Vector.replicate 32 0), .v (.bool false), .v (.int .i64 0), .bytes 32 (Vector.replicate 32 0), .v (.bool false), .v (.int .i64 0), .bytes 32 (Vector.replicate 32 0), .v (.bool false), .v (.int .i64 0), .bytes 32 (Vector.replicate 32 0), .v (.bool false), .v (.int .i64 0), .bytes 32 (Vector.replicate 32 0), .v (.bool false), .v (.int .i64 0), .bytes 32 (Vector.replicate 32 0), .v (.bool false), .v (.int .i64 0), .bytes 32 (Vector.replicate 32 0), .v (.bool false), .v (.int .i64 0), .bytes 32 (Vector.replicate 32 0), .v (.bool false), .v (.int .i64 0), .bytes 32 (Vector.replicate 32 0), .v (.bool false), .v (.int .i64 0), .bytes 32 (Vector.replicate 32 0), .v (.bool false), .v (.int .i64 0), .bytes 32 (Vector.replicate 32 0), .v (.bool false), .v (.int .i64 0), .bytes 32 (Vector.replicate 32 0), .v (.bool false), .v (.int .i64 0), .bytes 32 (Vector.replicate 32 0), .v (.bool false), .v (.int .i64 0), .bytes 32 (Vector.replicate 32 0), .v (.bool false), .v (.int .i64 0), .bytes 32 (Vector.replicate 32 0), .v (.bool false), .v (.int .i64 0), .bytes 32 (Vector.replicate 32 0)], false⟩
def td210 : TD := ⟨.slice 182, 1, [.v (.slice none 0 0)], false⟩
def td212 : TD := ⟨.struct [(0, 99), (37, 204), (45, 155), (47, 123), (48, 209), (626, 210), (627, 210)], 628, [.v (.int .u32 0), .v (.int .u64 0), .v (.int .u64 0), .bytes 32 (Vector.replicate 32 0), .v (.string ByteArray.empty), .v (.string ByteArray.empty), .v (.int .i64 0), .v (.int .i64 0), .v (.bool false), .v (.int .u64 0), .v (.int .u64 0), .v (.bool false), .v (.bool false), .v (.bool false), .v (.int .u64 0), .v (.int .u64 0), .v (.slice none 0 0), .v (.bool false), .v (.int .i64 0), .bytes 32 (Vector.replicate 32 0), .v (.bool false), .v (.int .i64 0), .bytes 32 (Vector.replicate 32 0), .v (.bool false), .v (.int .i64 0), .bytes 32 (Vector.replicate 32 0), .v (.bool false), .v (.int .i64 0), .bytes 32 (Vector.replicate 32 0), .v (.bool false), .v (.int .i64 0), .bytes 32 (Vector.replicate 32 0), .v (.bool false), .v (.int .i64 0), .bytes 32 (Vector.replicate 32 0), .v (.bool false), .v (.int .i64 0), .bytes 32 (Vector.replicate 32 0), .v (.bool false), .v (.int .i64 0), .bytes 32 (Vector.replicate 32 0), .v (.bool false), .v (.int .i64 0), .bytes 32 (Vector.replicate 32 0), .v (.bool false), .v (.int .i64 0), .bytes 32 (Vector.replicate 32 0), .v (.bool false), .v (.int .i64 0), .bytes 32 (Vector.replicate 32 0), .v (.bool false), .v (.int .i64 0), .bytes 32 (Vector.replicate 32 0), .v (.bool false), .v (.int .i64 0), .bytes 32 (Vector.replicate 32 0), .v (.bool false), .v (.int .i64 0), .bytes 32 (Vector.replicate 32 0), .v (.bool false), .v (.int .i64 0), .bytes 32 (Vector.replicate 32 0), .v (.bool false), .v (.int .i64 0), .bytes 32 (Vector.replicate 32 0), .v (.bool false), .v (.int .i64 0), .bytes 32 (Vector.replicate 32 0), .v (.slice none 0 0), .v (.slice none 0 0)], false⟩
def td214 : TD := ⟨.func, 1, [.v .nilFunc], false⟩
def td223 : TD := ⟨.int .u64, 1, [.v (.int .u64 0)], false⟩
def td237 : TD := ⟨.arr 20 46, 20, [.v (.int .u64 0), .v (.int .u64 0), .v (.int .u64 0), .v (.int .u64 0), .v (.int .u64 0), .v (.int .u64 0), .v (.int .u64 0), .v (.int .u64 0), .v (.int .u64 0), .v (.int .u64 0), .v (.int .u64 0), .v (.int .u64 0), .v (.int .u64 0), .v (.int .u64 0), .v (.int .u64 0), .v (.int .u64 0), .v (.int .u64 0), .v (.int .u64 0), .v (.int .u64 0), .v (.int .u64 0)], false⟩
def td238 : TD := ⟨.arr 65 5, 65, [.bytes 65 (Vector.replicate 65 0)], false⟩
def td239 : TD := ⟨.func, 1, [.v .nilFunc], false⟩
def td246 : TD := ⟨.struct [(0, 9)], 1, [.v (.string ByteArray.empty)], false⟩
def td248 : TD := ⟨.struct [(0, 246)], 1, [.v (.string ByteArray.empty)], false⟩
def td256 : TD := ⟨.slice 323, 1, [.v (.slice none 0 0)], false⟩
def td258 : TD := ⟨.struct [(0, 46), (1, 46), (2, 256)], 3, [.v (.int .u64 0), .v (.int .u64 0), .v (.slice none 0 0)], false⟩
def td261 : TD := ⟨.ptr, 1, [.v (.pointer none)], false⟩
def td263 : TD := ⟨.struct [(0, 9)], 1, [.v (.string ByteArray.empty)], false⟩
def td265 : TD := ⟨.slice 120, 1, [.v (.slice none 0 0)], false⟩
def td266 : TD := ⟨.func, 1, [.v .nilFunc], false⟩
def td271 : TD := ⟨.map 141 145, 1, [.v (.map none)], false⟩
def td272 : TD := ⟨.map 141 141, 1, [.v (.map none)], false⟩
def td274 : TD := ⟨.struct [(0, 46), (1, 46), (2, 271), (3, 272)], 4, [.v (.int .u64 0), .v (.int .u64 0), .v (.map none), .v (.map none)], false⟩
def td277 : TD := ⟨.func, 1, [.v .nilFunc], false⟩
def td280 : TD := ⟨.arr 256 5, 256, [.bytes 256 (Vector.replicate 256 0)], false⟩
def td282 : TD := ⟨.struct [(0, 5), (1, 5)], 2, [.v (.int .u8 0), .v (.int .u8 0)], false⟩
def td283 : TD := ⟨.arr 16 282, 32, [.v (.int .u8 0), .v (.int .u8 0), .v (.int .u8 0), .v (.int .u8 0), .v (.int .u8 0), .v (.int .u8 0), .v (.int .u8 0), .v (.int .u8 0), .v (.int .u8 0), .v (.int .u8 0), .v (.int .u8 0), .v (.int .u8 0), .v (.int .u8 0), .v (.int .u8 0), .v (.int .u8 0), .v (.int .u8 0), .v (.int .u8 0), .v (.int .u8 0), .v (.int .u8 0), .v (.int .u8 0), .v (.int .u8 0), .v (.int .u8 0), .v (.int .u8 0), .v (.int .u8 0), .v (.int .u8 0), .v (.int .u8 0), .v (.int .u8 0), .v (.int .u8 0), .v (.int .u8 0), .v (.int .u8 0), .v (.int .u8 0), .v (.int .u8 0)], false⟩
def td292 : TD := ⟨.struct [(0, 3), (1, 46), (2, 3)], 3, [.v (.int .i64 0), .v (.int .u64 0), .v (.int .i64 0)], false⟩
def td295 : TD := ⟨.ptr, 1, [.v (.pointer none)], false⟩
def td296 : TD := ⟨.slice 353, 1, [.v (.slice none 0 0)], false⟩
def td297 : TD := ⟨.ptr, 1, [.v (.pointer none)], false⟩
def td305 : TD := ⟨.struct [(0, 261), (1, 297)], 2, [.v (.pointer none), .v (.pointer none)], false⟩
def td307 : TD := ⟨.ptr, 1, [.v (.pointer none)], false⟩
def td310 : TD := ⟨.func, 1, [.v .nilFunc], false⟩
def td312 : TD := ⟨.map 3 310, 1, [.v (.map none)], false⟩
def td323 : TD := ⟨.struct [(0, 4), (1, 128)], 36, [.v (.bool false), .v (.int .u64 0), .v (.int .u64 0), .bytes 32 (Vector.replicate 32 0), .v (.int .i64 0)], false⟩
def td325 : TD := ⟨.func, 1, [.v .nilFunc], false⟩
def td330 : TD := ⟨.struct [(0, 110), (2, 3), (3, 4), (4, 3), (5, 4)], 6, [.v (.pointer none), .v (.slice none 0 0), .v (.int .i64 0), .v (.bool false), .v (.int .i64 0), .v (.bool false)], false⟩
def td342 : TD := ⟨.arr 64 5, 64, [.bytes 64 (Vector.replicate 64 0)], false⟩
def td344 : TD := ⟨.struct [(0, 9)], 1, [.v (.string ByteArray.empty)], false⟩
def td345 : TD := ⟨.slice 1, 1, [.v (.slice none 0 0)], false⟩
def td347 : TD := ⟨.struct [(0, 51)], 1, [.v (.int .i64 0)], false⟩
def td350 : TD := ⟨.ptr, 1, [.v (.pointer none)], false⟩
def td352 : TD := ⟨.func, 1, [.v .nilFunc], false⟩
def td353 : TD := ⟨.func, 1, [.v .nilFunc], false⟩
def td355 : TD := ⟨.ptr, 1, [.v (.pointer none)], false⟩
def td356 : TD := ⟨.func, 1, [.v .nilFunc], false⟩
def td358 : TD := ⟨.ptr, 1, [.v (.pointer none)], false⟩
def td359 : TD := ⟨.func, 1, [.v .nilFunc], false⟩
def td362 : TD := ⟨.func, 1, [.v .nilFunc], false⟩
def td363 : TD := ⟨.arr 10 3, 10, [.v (.int .i64 0), .v (.int .i64 0), .v (.int .i64 0), .v (.int .i64 0), .v (.int .i64 0), .v (.int .i64 0), .v (.int .i64 0), .v (.int .i64 0), .v (.int .i64 0), .v (.int .i64 0)], false⟩
def td364 : TD := ⟨.arr 2 363, 20, [.v (.int .i64 0), .v (.int .i64 0), .v (.int .i64 0), .v (.int .i64 0), .v (.int .i64 0), .v (.int .i64 0), .v (.int .i64 0), .v (.int .i64 0), .v (.int .i64 0), .v (.int .i64 0), .v (.int .i64 0), .v (.int .i64 0), .v (.int .i64 0), .v (.int .i64 0), .v (.int .i64 0), .v (.int .i64 0), .v (.int .i64 0), .v (.int .i64 0), .v (.int .i64 0), .v (.int .i64 0)], false⟩
def td365 : TD := ⟨.func, 1, [.v .nilFunc], false⟩
def td372 : TD := ⟨.arr 2 46, 2, [.v (.int .u64 0), .v (.int .u64 0)], false⟩
def td379 : TD := ⟨.int .i64, 1, [.v (.int .i64 0)], false⟩
def td388 : TD := ⟨.arr 8 66, 8, [.v (.int .u32 0), .v (.int .u32 0), .v (.int .u32 0), .v (.int .u32 0), .v (.int .u32 0), .v (.int .u32 0), .v (.int .u32 0), .v (.int .u32 0)], false⟩
def td392 : TD := ⟨.ptr, 1, [.v (.pointer none)], false⟩
def td393 : TD := ⟨.func, 1, [.v .nilFunc], false⟩
def td397 : TD := ⟨.arr 2 3, 2, [.v (.int .i64 0), .v (.int .i64 0)], false⟩
def td398 : TD := ⟨.arr 2 397, 4, [.v (.int .i64 0), .v (.int .i64 0), .v (.int .i64 0), .v (.int .i64 0)], false⟩
def td399 : TD := ⟨.func, 1, [.v .nilFunc], false⟩
def td402 : TD := ⟨.slice 372, 1, [.v (.slice none 0 0)], false⟩
def td404 : TD := ⟨.int .u64, 1, [.v (.int .u64 0)], false⟩
def td411 : TD := ⟨.ptr, 1, [.v (.pointer none)], false⟩
def td416 : TD := ⟨.func, 1, [.v .nilFunc], false⟩
def td418 : TD := ⟨.ptr, 1, [.v (.pointer none)], false⟩
def td421 : TD := ⟨.arr 64 66, 64, [.v (.int .u32 0), .v (.int .u32 0), .v (.int .u32 0), .v (.int .u32 0), .v (.int .u32 0), .v (.int .u32 0), .v (.int .u32 0), .v (.int .u32 0), .v (.int .u32 0), .v (.int .u32 0), .v (.int .u32 0), .v (.int .u32 0), .v (.int .u32 0), .v (.int .u32 0), .v (.int .u32 0), .v (.int .u32 0), .v (.int .u32 0), .v (.int .u32 0), .v (.int .u32 0), .v (.int .u32 0), .v (.int .u32 0), .v (.int .u32 0), .v (.int .u32 0), .v (.int .u32 0), .v (.int .u32 0), .v (.int .u32 0), .v (.int .u32 0), .v (.int .u32 0), .v (.int .u32 0), .v (.int .u32 0), .v (.int .u32 0), .v (.int .u32 0), .v (.int .u32 0), .v (.int .u32 0), .v (.int .u32 0), .v (.int .u32 0), .v (.int .u32 0), .v (.int .u32 0), .v (.int .u32 0), .v (.int .u32 0), .v (.int .u32 0), .v (.int .u32 0), .v (.int .u32 0), .v (.int .u32 0), .v (.int .u32 0), .v (.int .u32 0), .v (.int .u32 0), .v (.int .u32 0), .v (.int .u32 0), .v (.int .u32 0), .v (.int .u32 0), .v (.int .u32 0), .v (.int .u32 0), .v (.int .u32 0), .v (.int .u32 0), .v (.int .u32 0), .v (.int .u32 0), .v (.int .u32 0), .v (.int .u32 0), .v (.int .u32 0), .v (.int .u32 0), .v (.int .u32 0), .v (.int .u32 0), .v (.int .u32 0)], false⟩
def td424 : TD := ⟨.slice 206, 1, [.v (.slice none 0 0)], false⟩
def td430 : TD := ⟨.slice 223, 1, [.v (.slice none 0 0)], false⟩
def td431 : TD := ⟨.func, 1, [.v .nilFunc], false⟩
def td432 : TD := ⟨.func, 1, [.v .nilFunc], false⟩
def DT : BT TD := (.node (.node (.node (.node (.node (.node (.node (.node .nil 1 td1 .nil) 2 td2 .nil) 3 td3 (.node .nil 4 td4 .nil)) 5 td5 (.node (.node (.node .nil 9 td9 .nil) 20 td20 .nil) 21 td21 (.node .nil 27 td27 .nil))) 29 td29 (.node (.node (.node (.node .nil 30 td30 .nil) 32 td32 .nil) 33 td33 (.node .nil 37 td37 .nil)) 40 td40 (.node (.node (.node .nil 43 td43 .nil) 44 td44 .nil) 46 td46 (.node .nil 48 td48 .nil)))) 51 td51 (.node (.node (.node (.node (.node .nil 54 td54 .nil) 56 td56 .nil) 59 td59 (.node .nil 61 td61 .nil)) 65 td65 (.node (.node (.node .nil 66 td66 .nil) 68 td68 .nil) 74 td74 (.node .nil 75 td75 .nil))) 76 td76 (.node (.node (.node (.node .nil 78 td78 .nil) 79 td79 .nil) 80 td80 (.node .nil 81 td81 .nil)) 82 td82 (.node (.node .nil 83 td83 .nil) 85 td85 (.node .nil 88 td88 .nil))))) 96 td96 (.node (.node (.node (.node (.node (.node .nil 97 td97 .nil) 99 td99 .nil) 102 td102 (.node .nil 104 td104 .nil)) 106 td106 (.node (.node (.node .nil 107 td107 .nil) 108 td108 .nil) 110 td110 (.node .nil 113 td113 .nil))) 117 td117 (.node (.node (.node (.node .nil 120 td120 .nil) 122 td122 .nil) 123 td123 (.node .nil 124 td124 .nil)) 128 td128 (.node (.node (.node .nil 130 td130 .nil) 131 td131 .nil) 132 td132 (.node .nil 133 td133 .nil)))) 134 td134 (.node (.node (.node (.node (.node .nil 135 td135 .nil) 136 td136 .nil) 138 td138 (.node .nil 141 td141 .nil)) 143 td143 (.node (.node (.node .nil 145 td145 .nil) 147 td147 .nil) 150 td150 (.node .nil 151 td151 .nil))) 153 td153 (.node (.node (.node (.node .nil 155 td155 .nil) 158 td158 .nil) 168 td168 (.node .nil 173 td173 .nil)) 174 td174 (.node (.node .nil 175 td175 .nil) 176 td176 (.node .nil 178 td178 .nil)))))) 182 td182 (.node (.node (.node (.node (.node (.node (.node .nil 185 td185 .nil) 186 td186 .nil) 190 td190 (.node .nil 192 td192 .nil)) 195 td195 (.node (.node (.node .nil 197 td197 .nil) 204 td204 .nil) 206 td206 (.node .nil 207 td207 .nil))) 209 td209 (.node (.node (.node (.node .nil 210 td210 .nil) 212 td212 .nil) 214 td214 (.node .nil 223 td223 .nil)) 237 td237 (.node (.node (.node .nil 238 td238 .nil) 239 td239 .nil) 246 td246 (.node .nil 248 td248 .nil)))) 256 td256 (.node (.node (.node (.node (.node .nil 258 td258 .nil) 261 td261 .nil) 263 td263 (.node .nil 265 td265 .nil)) 266 td266 (.node (.node (.node .nil 271 td271 .nil) 272 td272 .nil) 274 td274 (.node .nil 277 td277 .nil))) 280 td280 (.node (.node (.node (.node .nil 282 td282 .nil) 283 td283 .nil) 292 td292 (.node .nil 295 td295 .nil)) 296 td296 (.node (.node .nil 297 td297 .nil) 305 td305 (.node .nil 307 td307 .nil))))) 310 td310 (.node (.node (.node (.node (.node (.node .nil 312 td312 .nil) 323 td323 .nil) 325 td325 (.node .nil 330 td330 .nil)) 342 td342 (.node (.node (.node .nil 344 td344 .nil) 345 td345 .nil) 347 td347 (.node .nil 350 td350 .nil))) 352 td352 (.node (.node (.node (.node .nil 353 td353 .nil) 355 td355 .nil) 356 td356 (.node .nil 358 td358 .nil)) 359 td359 (.node (.node .nil 362 td362 .nil) 363 td363 (.node .nil 364 td364 .nil)))) 365 td365 (.node (.node (.node (.node (.node .nil 372 td372 .nil) 379 td379 .nil) 388 td388 (.node .nil 392 td392 .nil)) 393 td393 (.node (.node (.node .nil 397 td397 .nil) 398 td398 .nil) 399 td399 (.node .nil 402 td402 .nil))) 404 td404 (.node (.node (.node (.node .nil 411 td411 .nil) 416 td416 .nil) 418 td418 (.node .nil 421 td421 .nil)) 424 td424 (.node (.node .nil 430 td430 .nil) 431 td431 (.node .nil 432 td432 .nil)))))))
def D (t : TypeId) : Option TD := DT.get t
noncomputable def d2 : FnD := ⟨bodyOf Tryz.f2, 1, []⟩
def p2 : BT (List (Nat × List Nat)) := .nil
noncomputable def d3 : FnD := ⟨bodyOf Tryz.f3, 33, [.tmp 2]⟩
def p3 : BT (List (Nat × List Nat)) := .nil
noncomputable def d4 : FnD := ⟨bodyOf Tryz.f4, 4, [.tmp 0]⟩
def p4 : BT (List (Nat × List Nat)) := .nil
noncomputable def d5 : FnD := ⟨bodyOf Tryz.f5, 38, [.tmp 2, .tmp 3]⟩
def p5 : BT (List (Nat × List Nat)) := .nil
noncomputable def d6 : FnD := ⟨bodyOf Tryz.f6, 39, [.tmp 2, .tmp 3]⟩
def p6 : BT (List (Nat × List Nat)) := .nil
noncomputable def d7 : FnD := ⟨bodyOf Tryz.f7, 26, [.tmp 4]⟩
def p7 : BT (List (Nat × List Nat)) := (.node .nil 6 [(0, []), (1, []), (2, []), (3, []), (4, []), (5, []), (6, []), (7, []), (8, [])] .nil)
noncomputable def d8 : FnD := ⟨bodyOf Tryz.f8, 40, [.tmp 2]⟩
def p8 : BT (List (Nat × List Nat)) := .nil
noncomputable def d9 : FnD := ⟨bodyOf Tryz.f9, 16, [.tmp 0]⟩
def p9 : BT (List (Nat × List Nat)) := .nil
noncomputable def d10 : FnD := ⟨bodyOf Tryz.f10, 8, [.tmp 4]⟩
def p10 : BT (List (Nat × List Nat)) := .nil
noncomputable def d11 : FnD := ⟨bodyOf Tryz.f11, 65, [.tmp 4]⟩
def p11 : BT (List (Nat × List Nat)) := .nil
noncomputable def d12 : FnD := ⟨bodyOf Tryz.f12, 13, [.tmp 2]⟩
def p12 : BT (List (Nat × List Nat)) := .nil
noncomputable def d13 : FnD := ⟨bodyOf Tryz.f13, 8, [.tmp 4]⟩
def p13 : BT (List (Nat × List Nat)) := .nil
noncomputable def d14 : FnD := ⟨bodyOf Tryz.f14, 76, [.tmp 6]⟩
def p14 : BT (List (Nat × List Nat)) := .nil
noncomputable def d15 : FnD := ⟨bodyOf Tryz.f15, 30, [.tmp 4]⟩
def p15 : BT (List (Nat × List Nat)) := (.node .nil 1 [(0, []), (1, []), (2, []), (3, []), (4, []), (5, []), (6, []), (7, []), (8, []), (9, []), (10, []), (11, []), (12, [])] .nil)
noncomputable def d16 : FnD := ⟨bodyOf Tryz.f16, 15, [.tmp 4]⟩
def p16 : BT (List (Nat × List Nat)) := (.node .nil 1 [(0, []), (1, []), (2, []), (3, []), (4, []), (5, []), (6, []), (7, []), (8, []), (9, []), (10, [])] .nil)
noncomputable def d17 : FnD := ⟨bodyOf Tryz.f17, 15, [.tmp 4]⟩
def p17 : BT (List (Nat × List Nat)) := (.node .nil 1 [(0, []), (1, []), (2, []), (3, []), (4, []), (5, []), (6, []), (7, []), (8, []), (9, []), (10, [])] .nil)
noncomputable def d18 : FnD := ⟨bodyOf Tryz.f18, 9, [.tmp 4]⟩
def p18 : BT (List (Nat × List Nat)) := .nil
noncomputable def d19 : FnD := ⟨bodyOf Tryz.f19, 24, [.cell 4 48]⟩
def p19 : BT (List (Nat × List Nat)) := (.node .nil 1 [(0, []), (1, []), (2, []), (3, []), (4, []), (5, []), (6, []), (7, []), (8, []), (9, []), (10, []), (11, []), (12, []), (13, []), (14, []), (15, []), (16, []), (17, []), (18, []), (19, [])] .nil)
noncomputable def d20 : FnD := ⟨bodyOf Tryz.f20, 14, [.tmp 4]⟩
def p20 : BT (List (Nat × List Nat)) := (.node .nil 1 [(0, []), (1, []), (2, []), (3, []), (4, []), (5, []), (6, []), (7, []), (8, []), (9, [])] .nil)
noncomputable def d21 : FnD := ⟨bodyOf Tryz.f21, 11, [.tmp 4]⟩
def p21 : BT (List (Nat × List Nat)) := .nil
noncomputable def d22 : FnD := ⟨bodyOf Tryz.f22, 20, [.tmp 4]⟩
def p22 : BT (List (Nat × List Nat)) := (.node .nil 1 [(0, []), (1, []), (2, []), (3, []), (4, []), (5, [0, 1, 2, 3]), (6, []), (7, [0, 1, 2, 3, 4]), (8, [])] .nil)
noncomputable def d23 : FnD := ⟨bodyOf Tryz.f23, 29, [.tmp 4]⟩
def p23 : BT (List (Nat × List Nat)) := (.node (.node .nil 1 [(0, []), (1, []), (2, []), (3, []), (4, []), (5, []), (6, []), (7, []), (8, []), (9, []), (10, []), (11, []), (12, []), (13, []), (14, []), (15, []), (16, [0, 1, 2, 3, 4, 5, 6, 7, 8, 9, 10, 11, 12, 13, 14]), (17, [])] .nil) 2 [(0, []), (1, []), (2, []), (3, [0]), (4, [0]), (5, [0]), (6, []), (7, [])] .nil)
noncomputable def d24 : FnD := ⟨bodyOf Tryz.f24, 34, [.tmp 4]⟩
def p24 : BT (List (Nat × List Nat)) := (.node .nil 1 [(0, []), (1, []), (2, []), (3, []), (4, []), (5, []), (6, []), (7, []), (8, []), (9, [0, 1, 2, 3, 4, 5, 6, 7]), (10, [])] .nil)
noncomputable def d25 : FnD := ⟨bodyOf Tryz.f25, 22, [.tmp 4]⟩
def p25 : BT (List (Nat × List Nat)) := (.node .nil 1 [(0, []), (1, []), (2, []), (3, []), (4, []), (5, []), (6, []), (7, []), (8, []), (9, [0, 1, 2, 3, 4, 5, 6, 7]), (10, [])] .nil)
noncomputable def d26 : FnD := ⟨bodyOf Tryz.f26, 16, [.tmp 4]⟩
def p26 : BT (List (Nat × List Nat)) := (.node .nil 1 [(0, []), (1, []), (2, []), (3, []), (4, []), (5, []), (6, []), (7, []), (8, []), (9, []), (10, []), (11, [])] .nil)
noncomputable def d27 : FnD := ⟨bodyOf Tryz.f27, 57, [.tmp 2]⟩
def p27 : BT (List (Nat × List Nat)) := .nil
noncomputable def d28 : FnD := ⟨bodyOf Tryz.f28, 20, [.tmp 4]⟩
def p28 : BT (List (Nat × List Nat)) := .nil
noncomputable def d29 : FnD := ⟨bodyOf Tryz.f29, 16, [.tmp 4]⟩
def p29 : BT (List (Nat × List Nat)) := (.node .nil 1 [(0, []), (1, []), (2, []), (3, []), (4, []), (5, []), (6, []), (7, []), (8, []), (9, []), (10, []), (11, [])] .nil)
noncomputable def d30 : FnD := ⟨bodyOf Tryz.f30, 51, [.tmp 4]⟩
def p30 : BT (List (Nat × List Nat)) := (.node .nil 8 [(0, []), (1, []), (2, []), (3, []), (4, []), (5, []), (6, []), (7, []), (8, []), (9, []), (10, []), (11, []), (12, []), (13, []), (14, []), (15, [0, 1, 2, 3, 4, 5, 6, 7, 8, 9, 10, 11, 12]), (16, [0]), (17, []), (18, [])] .nil)
noncomputable def d31 : FnD := ⟨bodyOf Tryz.f31, 17, [.tmp 4]⟩
def p31 : BT (List (Nat × List Nat)) := (.node .nil 1 [(0, []), (1, []), (2, []), (3, []), (4, []), (5, []), (6, []), (7, []), (8, []), (9, []), (10, []), (11, []), (12, [])] .nil)
noncomputable def d32 : FnD := ⟨bodyOf Tryz.f32, 29, [.tmp 4]⟩
def p32 : BT (List (Nat × List Nat)) := .nil
noncomputable def d33 : FnD := ⟨bodyOf Tryz.f33, 24, [.tmp 4]⟩
def p33 : BT (List (Nat × List Nat)) := (.node .nil 1 [(0, []), (1, []), (2, []), (3, []), (4, []), (5, []), (6, []), (7, []), (8, [])] .nil)
noncomputable def d34 : FnD := ⟨bodyOf Tryz.f34, 66, [.tmp 8]⟩
def p34 : BT (List (Nat × List Nat)) := .nil
noncomputable def d35 : FnD := ⟨bodyOf Tryz.f35, 18, [.tmp 4]⟩
def p35 : BT (List (Nat × List Nat)) := .nil
noncomputable def d36 : FnD := ⟨bodyOf Tryz.f36, 77, [.tmp 8]⟩
def p36 : BT (List (Nat × List Nat)) := (.node (.node .nil 6 [(0, []), (1, []), (2, []), (3, []), (4, []), (5, []), (6, []), (7, []), (8, []), (9, [0, 1, 2, 3, 4]), (10, [0, 1, 2, 3, 4]), (11, [0]), (12, []), (13, []), (14, [])] .nil) 14 [(0, []), (1, []), (2, []), (3, []), (4, []), (5, []), (6, []), (7, []), (8, []), (9, []), (10, []), (11, []), (12, [0, 1, 2, 3, 4, 5, 6, 7, 8]), (13, [])] .nil)
noncomputable def d37 : FnD := ⟨bodyOf Tryz.f37, 41, [.cell 4 61]⟩
def p37 : BT (List (Nat × List Nat)) := (.node (.node .nil 1 [(0, []), (1, []), (2, []), (3, []), (4, []), (5, []), (6, [0, 1, 2, 3, 4]), (7, [0]), (8, []), (9, []), (10, [])] .nil) 4 [(1, []), (2, []), (0, [1, 2]), (3, []), (4, []), (5, []), (6, []), (7, []), (8, [])] .nil)
noncomputable def d38 : FnD := ⟨bodyOf Tryz.f38, 15, [.tmp 4]⟩
def p38 : BT (List (Nat × List Nat)) := .nil
noncomputable def d39 : FnD := ⟨bodyOf Tryz.f39, 10, [.tmp 2]⟩
def p39 : BT (List (Nat × List Nat)) := .nil
noncomputable def d40 : FnD := ⟨bodyOf Tryz.f40, 5, [.tmp 2]⟩
def p40 : BT (List (Nat × List Nat)) := .nil
noncomputable def d41 : FnD := ⟨bodyOf Tryz.f41, 8, [.tmp 4]⟩
def p41 : BT (List (Nat × List Nat)) := .nil
noncomputable def d42 : FnD := ⟨bodyOf Tryz.f42, 35, [.tmp 2]⟩
def p42 : BT (List (Nat × List Nat)) := .nil
noncomputable def d43 : FnD := ⟨bodyOf Tryz.f43, 75, [.tmp 4]⟩
def p43 : BT (List (Nat × List Nat)) := .nil
noncomputable def d44 : FnD := ⟨bodyOf Tryz.f44, 15, [.tmp 2]⟩
def p44 : BT (List (Nat × List Nat)) := (.node .nil 1 [(0, []), (1, []), (2, []), (3, []), (4, []), (5, []), (6, []), (7, []), (8, []), (9, []), (10, []), (11, []), (12, [])] .nil)
noncomputable def d45 : FnD := ⟨bodyOf Tryz.f45, 74, [.tmp 4]⟩
def p45 : BT (List (Nat × List Nat)) := .nil
noncomputable def d46 : FnD := ⟨bodyOf Tryz.f46, 35, []⟩
def p46 : BT (List (Nat × List Nat)) := (.node .nil 6 [(0, []), (1, []), (2, []), (3, []), (4, []), (5, []), (6, []), (7, []), (8, []), (9, []), (10, []), (11, []), (12, []), (16, []), (13, [0, 1, 2, 3, 4, 5, 6, 7, 8, 9, 16]), (14, [0, 1, 2, 3, 4, 5, 6, 7, 8, 9, 16]), (15, []), (17, []), (18, [])] .nil)
noncomputable def d47 : FnD := ⟨bodyOf Tryz.f47, 117, [.tmp 4]⟩
def p47 : BT (List (Nat × List Nat)) := (.node (.node .nil 18 [(0, []), (1, []), (2, []), (3, []), (4, []), (5, []), (6, []), (7, []), (8, []), (9, []), (10, []), (11, []), (12, []), (13, []), (14, []), (15, []), (16, []), (17, []), (18, []), (19, []), (20, []), (21, [])] .nil) 25 [(0, []), (1, []), (2, []), (3, []), (4, []), (5, []), (6, [])] .nil)
noncomputable def d48 : FnD := ⟨bodyOf Tryz.f48, 11, [.tmp 4]⟩
def p48 : BT (List (Nat × List Nat)) := .nil
noncomputable def d49 : FnD := ⟨bodyOf Tryz.f49, 15, [.tmp 2]⟩
def p49 : BT (List (Nat × List Nat)) := .nil
noncomputable def d50 : FnD := ⟨bodyOf Tryz.f50, 23, [.tmp 4]⟩
def p50 : BT (List (Nat × List Nat)) := .nil
noncomputable def d51 : FnD := ⟨bodyOf Tryz.f51, 43, [.tmp 2]⟩
def p51 : BT (List (Nat × List Nat)) := .nil
noncomputable def d52 : FnD := ⟨bodyOf Tryz.f52, 50, [.tmp 4]⟩
def p52 : BT (List (Nat × List Nat)) := .nil
noncomputable def d53 : FnD := ⟨bodyOf Tryz.f53, 34, [.tmp 4]⟩
def p53 : BT (List (Nat × List Nat)) := .nil
noncomputable def d54 : FnD := ⟨bodyOf Tryz.f54, 8, [.tmp 4]⟩
def p54 : BT (List (Nat × List Nat)) := .nil
noncomputable def d55 : FnD := ⟨bodyOf Tryz.f55, 15, [.tmp 6]⟩
def p55 : BT (List (Nat × List Nat)) := .nil
noncomputable def d56 : FnD := ⟨bodyOf Tryz.f56, 50, [.tmp 4, .tmp 5]⟩
def p56 : BT (List (Nat × List Nat)) := (.node (.node .nil 5 [(0, []), (1, []), (2, []), (3, []), (4, []), (5, []), (6, []), (7, []), (8, []), (9, []), (10, []), (11, [])] .nil) 8 [(0, []), (1, []), (2, []), (3, []), (4, []), (5, []), (6, []), (7, []), (8, []), (9, []), (10, [])] .nil)
noncomputable def d57 : FnD := ⟨bodyOf Tryz.f57, 34, [.cell 6 99]⟩
def p57 : BT (List (Nat × List Nat)) := .nil
noncomputable def d58 : FnD := ⟨bodyOf Tryz.f58, 3, [.tmp 0]⟩
def p58 : BT (List (Nat × List Nat)) := .nil
noncomputable def d59 : FnD := ⟨bodyOf Tryz.f59, 5, [.tmp 2]⟩
def p59 : BT (List (Nat × List Nat)) := .nil
noncomputable def d60 : FnD := ⟨bodyOf Tryz.f60, 32, [.tmp 4]⟩
def p60 : BT (List (Nat × List Nat)) := .nil
noncomputable def d61 : FnD := ⟨bodyOf Tryz.f61, 25, []⟩
def p61 : BT (List (Nat × List Nat)) := (.node .nil 3 [(0, []), (1, []), (2, []), (3, []), (5, []), (6, []), (7, []), (8, []), (9, []), (11, []), (4, [5, 6, 7, 8, 9, 11]), (10, []), (12, [])] .nil)
noncomputable def d62 : FnD := ⟨bodyOf Tryz.f62, 19, [.tmp 4, .tmp 5]⟩
def p62 : BT (List (Nat × List Nat)) := .nil
noncomputable def d63 : FnD := ⟨bodyOf Tryz.f63, 14, [.tmp 2]⟩
def p63 : BT (List (Nat × List Nat)) := (.node .nil 1 [(0, []), (1, []), (2, []), (3, []), (5, []), (6, []), (7, []), (8, []), (9, []), (4, [5, 6, 7, 8, 9]), (10, []), (11, [])] .nil)
noncomputable def d64 : FnD := ⟨bodyOf Tryz.f64, 23, [.tmp 6]⟩
def p64 : BT (List (Nat × List Nat)) := (.node .nil 1 [(0, []), (1, []), (2, []), (3, []), (4, []), (5, []), (6, []), (7, []), (8, []), (9, []), (10, []), (11, []), (12, []), (13, []), (14, [0, 1, 2, 3, 4, 5, 6, 7, 8, 9, 10, 11]), (15, []), (16, [])] .nil)
noncomputable def d65 : FnD := ⟨bodyOf Tryz.f65, 62, [.tmp 4]⟩
def p65 : BT (List (Nat × List Nat)) := .nil
noncomputable def d66 : FnD := ⟨bodyOf Tryz.f66, 50, [.tmp 2]⟩
def p66 : BT (List (Nat × List Nat)) := (.node .nil 6 [(0, []), (1, []), (2, []), (3, []), (4, []), (5, []), (6, [0, 1, 2, 3, 4, 5]), (7, [0, 1, 2, 3, 4, 5]), (8, []), (9, []), (10, []), (11, []), (12, [0, 1, 2, 3, 4, 5, 9, 10, 11]), (13, [11]), (14, [])] .nil)
noncomputable def d67 : FnD := ⟨bodyOf Tryz.f67, 54, [.tmp 2]⟩
def p67 : BT (List (Nat × List Nat)) := .nil
noncomputable def d68 : FnD := ⟨bodyOf Tryz.f68, 16, [.tmp 2]⟩
def p68 : BT (List (Nat × List Nat)) := .nil
noncomputable def d69 : FnD := ⟨bodyOf Tryz.f69, 24, [.tmp 4]⟩
def p69 : BT (List (Nat × List Nat)) := .nil
noncomputable def d70 : FnD := ⟨bodyOf Tryz.f70, 14, [.tmp 2]⟩
def p70 : BT (List (Nat × List Nat)) := (.node .nil 1 [(0, []), (1, []), (2, []), (6, []), (7, []), (8, []), (3, [0, 1, 2, 6, 7, 8]), (4, [0, 1, 2, 6, 7, 8]), (5, [0, 1, 6, 7, 8]), (9, [0]), (10, []), (11, [])] .nil)
noncomputable def d71 : FnD := ⟨bodyOf Tryz.f71, 7, [.tmp 2]⟩
def p71 : BT (List (Nat × List Nat)) := .nil
noncomputable def d72 : FnD := ⟨bodyOf Tryz.f72, 8, [.tmp 2]⟩
def p72 : BT (List (Nat × List Nat)) := .nil
noncomputable def d73 : FnD := ⟨bodyOf Tryz.f73, 5, [.tmp 2]⟩
def p73 : BT (List (Nat × List Nat)) := .nil
noncomputable def d74 : FnD := ⟨bodyOf Tryz.f74, 67, []⟩
def p74 : BT (List (Nat × List Nat)) := (.node (.node (.node .nil 1 [(0, []), (1, []), (2, []), (3, []), (4, []), (5, []), (6, []), (7, [0, 1, 2, 3]), (8, []), (9, []), (10, []), (11, []), (12, [0, 1, 2, 3, 4, 5, 6, 9, 10, 11]), (13, [11]), (14, [])] .nil) 6 [(0, []), (1, []), (2, []), (3, []), (4, []), (5, []), (6, []), (7, [])] .nil) 8 [(0, []), (1, []), (2, []), (3, []), (4, []), (5, []), (6, []), (7, [])] (.node .nil 9 [(0, []), (1, []), (2, []), (3, []), (4, []), (5, []), (6, [])] .nil))
noncomputable def d75 : FnD := ⟨bodyOf Tryz.f75, 7, []⟩
def p75 : BT (List (Nat × List Nat)) := .nil
noncomputable def d76 : FnD := ⟨bodyOf Tryz.f76, 8, [.tmp 2]⟩
def p76 : BT (List (Nat × List Nat)) := .nil
noncomputable def d77 : FnD := ⟨bodyOf Tryz.f77, 7, [.cell 2 155]⟩
def p77 : BT (List (Nat × List Nat)) := .nil
noncomputable def d78 : FnD := ⟨bodyOf Tryz.f78, 17, [.tmp 2]⟩
def p78 : BT (List (Nat × List Nat)) := .nil
noncomputable def d79 : FnD := ⟨bodyOf Tryz.f79, 43, [.tmp 6]⟩
def p79 : BT (List (Nat × List Nat)) := .nil
noncomputable def d80 : FnD := ⟨bodyOf Tryz.f80, 10, [.tmp 2]⟩
def p80 : BT (List (Nat × List Nat)) := .nil
noncomputable def d81 : FnD := ⟨bodyOf Tryz.f81, 19, [.tmp 2, .tmp 3]⟩
def p81 : BT (List (Nat × List Nat)) := .nil
noncomputable def d83 : FnD := ⟨bodyOf Tryz.f83, 143, [.tmp 4]⟩
def p83 : BT (List (Nat × List Nat)) := .nil
noncomputable def d84 : FnD := ⟨bodyOf Tryz.f84, 14, [.tmp 4]⟩
def p84 : BT (List (Nat × List Nat)) := .nil
noncomputable def d85 : FnD := ⟨bodyOf Tryz.f85, 12, [.tmp 4, .tmp 5]⟩
def p85 : BT (List (Nat × List Nat)) := .nil
noncomputable def d86 : FnD := ⟨bodyOf Tryz.f86, 48, [.tmp 4, .tmp 5]⟩
def p86 : BT (List (Nat × List Nat)) := (.node .nil 10 [(0, []), (1, []), (2, []), (3, []), (4, []), (5, []), (6, []), (7, []), (8, []), (9, [0, 1, 2, 3, 4]), (10, [0]), (11, []), (12, []), (13, [])] .nil)
noncomputable def d87 : FnD := ⟨bodyOf Tryz.f87, 25, [.cell 4 61]⟩
def p87 : BT (List (Nat × List Nat)) := (.node .nil 1 [(0, []), (1, []), (2, []), (3, []), (4, []), (5, []), (6, []), (7, []), (9, []), (10, []), (8, [9, 10]), (11, []), (12, []), (13, []), (14, []), (15, []), (16, [0, 1, 2, 3, 4, 5, 6, 7, 9, 10, 13, 14, 15]), (17, [15]), (18, [])] .nil)
noncomputable def d88 : FnD := ⟨bodyOf Tryz.f88, 24, [.cell 4 61]⟩
def p88 : BT (List (Nat × List Nat)) := (.node .nil 1 [(0, []), (1, []), (2, []), (3, []), (4, []), (5, []), (6, []), (7, []), (9, []), (11, []), (12, []), (13, []), (14, []), (15, []), (16, []), (8, [9, 11, 12, 13, 14, 15, 16]), (10, [11, 12, 13, 14, 15, 16]), (17, []), (18, []), (19, [])] .nil)
noncomputable def d89 : FnD := ⟨bodyOf Tryz.f89, 30, [.cell 4 61]⟩
def p89 : BT (List (Nat × List Nat)) := (.node .nil 1 [(0, []), (1, []), (2, []), (3, []), (4, []), (5, []), (6, []), (7, []), (8, []), (9, []), (10, []), (11, []), (12, []), (14, []), (15, []), (13, [0, 1, 2, 3, 4, 5, 6, 7, 8, 9, 10, 11, 14, 15]), (16, []), (17, []), (18, []), (19, []), (20, []), (21, [])] .nil)
noncomputable def d90 : FnD := ⟨bodyOf Tryz.f90, 17, [.cell 4 61]⟩
def p90 : BT (List (Nat × List Nat)) := (.node .nil 1 [(0, []), (1, []), (2, []), (3, []), (4, []), (5, []), (6, []), (7, []), (8, []), (9, []), (10, []), (11, []), (12, [])] .nil)
noncomputable def d91 : FnD := ⟨bodyOf Tryz.f91, 15, [.cell 4 61]⟩
def p91 : BT (List (Nat × List Nat)) := (.node .nil 1 [(0, []), (1, []), (2, []), (3, []), (4, []), (5, []), (6, []), (7, []), (8, []), (9, []), (10, [])] .nil)
noncomputable def d92 : FnD := ⟨bodyOf Tryz.f92, 15, [.cell 4 61]⟩
def p92 : BT (List (Nat × List Nat)) := (.node .nil 1 [(0, []), (1, []), (2, []), (3, []), (4, []), (5, []), (6, []), (7, []), (8, []), (9, []), (10, [])] .nil)
noncomputable def d93 : FnD := ⟨bodyOf Tryz.f93, 16, [.cell 4 61]⟩
def p93 : BT (List (Nat × List Nat)) := (.node .nil 1 [(0, []), (1, []), (2, []), (3, []), (4, []), (5, []), (6, []), (7, []), (8, []), (9, []), (10, []), (11, [])] .nil)
noncomputable def d94 : FnD := ⟨bodyOf Tryz.f94, 27, [.cell 4 61]⟩
def p94 : BT (List (Nat × List Nat)) := (.node .nil 1 [(0, []), (1, []), (2, []), (3, []), (4, []), (5, []), (6, []), (7, []), (9, []), (10, []), (11, []), (12, []), (8, [9, 10, 11, 12]), (13, []), (14, []), (15, []), (16, []), (17, [0, 1, 2, 3, 4, 5, 6, 7, 9, 10, 11, 12, 14, 15, 16]), (18, []), (19, [])] .nil)
noncomputable def d95 : FnD := ⟨bodyOf Tryz.f95, 54, [.tmp 4]⟩
def p95 : BT (List (Nat × List Nat)) := .nil
noncomputable def d96 : FnD := ⟨bodyOf Tryz.f96, 15, [.tmp 2]⟩
def p96 : BT (List (Nat × List Nat)) := .nil
noncomputable def d97 : FnD := ⟨bodyOf Tryz.f97, 15, [.tmp 2]⟩
def p97 : BT (List (Nat × List Nat)) := .nil
noncomputable def d98 : FnD := ⟨bodyOf Tryz.f98, 167, []⟩
def p98 : BT (List (Nat × List Nat)) := (.node (.node (.node .nil 7 [(0, []), (1, []), (2, []), (3, []), (4, []), (5, []), (6, []), (7, []), (8, []), (9, []), (10, []), (11, []), (12, [3, 4, 5, 9, 10]), (13, []), (14, [])] .nil) 8 [(0, []), (1, []), (2, []), (3, []), (4, []), (5, []), (6, []), (7, []), (8, []), (9, []), (10, []), (11, []), (12, [3, 4, 5, 9, 10]), (13, []), (14, [])] (.node .nil 9 [(0, []), (1, []), (2, []), (3, []), (4, []), (5, []), (6, []), (7, []), (8, []), (9, []), (10, []), (11, []), (12, [3, 4, 5, 9, 10]), (13, []), (14, [])] .nil)) 10 [(0, []), (1, []), (2, []), (3, []), (4, []), (5, []), (6, []), (7, []), (8, []), (9, []), (10, []), (11, []), (12, [3, 4, 5, 9, 10]), (13, []), (14, [])] (.node (.node .nil 17 [(0, []), (1, []), (2, []), (3, []), (4, []), (5, []), (6, []), (7, []), (8, []), (9, []), (10, []), (11, []), (12, [3, 4, 5, 9, 10]), (13, []), (14, [])] .nil) 18 [(0, []), (1, []), (2, []), (3, []), (4, []), (5, []), (6, []), (7, []), (8, []), (9, []), (10, []), (11, []), (12, [3, 4, 5, 9, 10]), (13, []), (14, [])] (.node .nil 23 [(0, []), (1, []), (2, []), (3, []), (4, []), (5, []), (6, []), (7, []), (8, []), (9, []), (10, []), (11, []), (12, [3, 4, 5, 9, 10]), (13, []), (14, [])] .nil)))
noncomputable def d99 : FnD := ⟨bodyOf Tryz.f99, 102, [.tmp 10, .tmp 11]⟩
def p99 : BT (List (Nat × List Nat)) := .nil
noncomputable def d100 : FnD := ⟨bodyOf Tryz.f100, 20, []⟩
def p100 : BT (List (Nat × List Nat)) := .nil
noncomputable def d101 : FnD := ⟨bodyOf Tryz.f101, 30, []⟩
def p101 : BT (List (Nat × List Nat)) := (.node .nil 0 [(0, []), (1, []), (2, []), (3, []), (6, []), (9, []), (10, []), (11, []), (12, []), (13, []), (4, [6, 9, 10, 11, 12, 13]), (5, []), (7, []), (8, [9, 10, 11, 12, 13]), (14, []), (15, [])] .nil)
noncomputable def d102 : FnD := ⟨bodyOf Tryz.f102, 21, [.tmp 2]⟩
def p102 : BT (List (Nat × List Nat)) := .nil
noncomputable def d103 : FnD := ⟨bodyOf Tryz.f103, 12, [.tmp 4]⟩
def p103 : BT (List (Nat × List Nat)) := .nil
noncomputable def d104 : FnD := ⟨bodyOf Tryz.f104, 35, [.tmp 2, .tmp 3]⟩
def p104 : BT (List (Nat × List Nat)) := .nil
noncomputable def d105 : FnD := ⟨bodyOf Tryz.f105, 33, [.tmp 4]⟩
def p105 : BT (List (Nat × List Nat)) := (.node .nil 6 [(0, []), (1, []), (2, []), (4, []), (7, []), (8, []), (3, [0, 1, 2, 4, 7, 8]), (5, [0, 1, 2, 7, 8]), (6, [0, 1, 7, 8]), (9, [0]), (10, []), (11, [])] .nil)
noncomputable def d106 : FnD := ⟨bodyOf Tryz.f106, 25, [.cell 6 182, .tmp 7]⟩
def p106 : BT (List (Nat × List Nat)) := (.node .nil 2 [(0, []), (1, []), (2, []), (3, []), (4, []), (5, []), (7, []), (6, [0, 1, 2, 3, 7]), (8, [0]), (9, []), (10, [])] .nil)
noncomputable def d107 : FnD := ⟨bodyOf Tryz.f107, 93, [.cell 2 182, .tmp 3]⟩
def p107 : BT (List (Nat × List Nat)) := (.node (.node .nil 8 [(0, []), (1, []), (2, []), (3, []), (4, []), (5, []), (6, []), (7, []), (8, []), (9, []), (10, []), (11, []), (12, []), (13, []), (14, []), (15, []), (16, []), (17, []), (18, []), (19, []), (20, []), (21, []), (22, []), (23, [0, 1, 2, 3, 4, 5, 6, 7, 8, 9, 10, 11, 12, 13, 14]), (24, []), (25, [0, 1, 2, 3, 4, 5, 6, 7, 8, 9, 10, 11, 12, 13, 14, 15, 16, 17, 18, 19, 20, 21, 22]), (26, [])] .nil) 9 [(0, []), (1, []), (2, []), (3, []), (4, []), (5, []), (6, []), (7, []), (8, []), (9, [0, 1, 2, 3, 4, 5, 6, 7]), (10, [])] .nil)
noncomputable def d108 : FnD := ⟨bodyOf Tryz.f108, 14, [.tmp 4]⟩
def p108 : BT (List (Nat × List Nat)) := .nil
noncomputable def d109 : FnD := ⟨bodyOf Tryz.f109, 3, [.tmp 0]⟩
def p109 : BT (List (Nat × List Nat)) := .nil
noncomputable def d110 : FnD := ⟨bodyOf Tryz.f110, 16, [.tmp 2]⟩
def p110 : BT (List (Nat × List Nat)) := .nil
noncomputable def d111 : FnD := ⟨bodyOf Tryz.f111, 24, [.tmp 4]⟩
def p111 : BT (List (Nat × List Nat)) := .nil
noncomputable def d112 : FnD := ⟨bodyOf Tryz.f112, 7, [.tmp 1]⟩
def p112 : BT (List (Nat × List Nat)) := .nil
noncomputable def d113 : FnD := ⟨bodyOf Tryz.f113, 86, [.cell 2 197]⟩
def p113 : BT (List (Nat × List Nat)) := .nil
noncomputable def d114 : FnD := ⟨bodyOf Tryz.f114, 6, [.tmp 4]⟩
def p114 : BT (List (Nat × List Nat)) := .nil
noncomputable def d115 : FnD := ⟨bodyOf Tryz.f115, 20, [.tmp 2]⟩
def p115 : BT (List (Nat × List Nat)) := .nil
noncomputable def d116 : FnD := ⟨bodyOf Tryz.f116, 10, [.tmp 1]⟩
def p116 : BT (List (Nat × List Nat)) := (.node .nil 1 [(0, []), (1, []), (2, []), (3, []), (4, []), (5, [0]), (6, [0]), (7, []), (8, [])] .nil)
noncomputable def d117 : FnD := ⟨bodyOf Tryz.f117, 36, [.tmp 4]⟩
def p117 : BT (List (Nat × List Nat)) := .nil
noncomputable def d118 : FnD := ⟨bodyOf Tryz.f118, 30, [.cell 2 182]⟩
def p118 : BT (List (Nat × List Nat)) := (.node .nil 4 [(0, []), (1, []), (2, []), (3, []), (4, []), (5, []), (6, []), (7, []), (8, []), (9, []), (10, []), (11, []), (12, []), (13, []), (14, [])] .nil)
noncomputable def d119 : FnD := ⟨bodyOf Tryz.f119, 8, [.tmp 2]⟩
def p119 : BT (List (Nat × List Nat)) := .nil
noncomputable def d120 : FnD := ⟨bodyOf Tryz.f120, 27, [.tmp 4]⟩
def p120 : BT (List (Nat × List Nat)) := .nil
noncomputable def d121 : FnD := ⟨bodyOf Tryz.f121, 3, [.tmp 2]⟩
def p121 : BT (List (Nat × List Nat)) := .nil
noncomputable def d122 : FnD := ⟨bodyOf Tryz.f122, 25, [.cell 4 145, .tmp 5]⟩
def p122 : BT (List (Nat × List Nat)) := (.node .nil 1 [(0, []), (1, []), (2, []), (3, []), (4, []), (5, []), (6, []), (7, []), (8, []), (9, [0, 1, 2, 3, 4, 6, 7, 8]), (10, [8]), (11, [])] .nil)
noncomputable def d123 : FnD := ⟨bodyOf Tryz.f123, 17, [.cell 6 141]⟩
def p123 : BT (List (Nat × List Nat)) := .nil
noncomputable def d124 : FnD := ⟨bodyOf Tryz.f124, 23, [.tmp 4]⟩
def p124 : BT (List (Nat × List Nat)) := .nil
noncomputable def d125 : FnD := ⟨bodyOf Tryz.f125, 33, [.cell 4 145, .tmp 5]⟩
def p125 : BT (List (Nat × List Nat)) := (.node (.node .nil 1 [(0, []), (1, []), (2, []), (3, []), (4, []), (5, []), (6, []), (7, []), (8, []), (9, [0, 1, 2, 3, 4, 6, 7, 8]), (10, [8]), (11, [])] .nil) 4 [(0, []), (1, []), (2, []), (3, []), (4, []), (5, [])] (.node .nil 5 [(0, []), (1, []), (2, []), (3, []), (4, []), (5, []), (6, []), (7, [])] .nil))
noncomputable def d126 : FnD := ⟨bodyOf Tryz.f126, 23, [.tmp 6]⟩
def p126 : BT (List (Nat × List Nat)) := (.node .nil 1 [(0, []), (1, []), (3, []), (5, []), (6, []), (2, [0, 1, 3, 5, 6]), (4, [0, 1, 5, 6]), (7, [0, 1]), (8, [0, 1]), (9, []), (10, []), (11, []), (12, []), (13, [0, 1, 3, 5, 6, 10, 11, 12]), (14, [12]), (15, [])] .nil)
noncomputable def d127 : FnD := ⟨bodyOf Tryz.f127, 117, [.tmp 2, .tmp 3]⟩
def p127 : BT (List (Nat × List Nat)) := .nil
noncomputable def d128 : FnD := ⟨bodyOf Tryz.f128, 8, [.tmp 4]⟩
def p128 : BT (List (Nat × List Nat)) := .nil
noncomputable def d130 : FnD := ⟨bodyOf Tryz.f130, 6, [.tmp 2]⟩
def p130 : BT (List (Nat × List Nat)) := .nil
noncomputable def d131 : FnD := ⟨bodyOf Tryz.f131, 81, [.tmp 4]⟩
def p131 : BT (List (Nat × List Nat)) := .nil
noncomputable def d132 : FnD := ⟨bodyOf Tryz.f132, 11, [.tmp 4]⟩
def p132 : BT (List (Nat × List Nat)) := .nil
noncomputable def d133 : FnD := ⟨bodyOf Tryz.f133, 20, [.tmp 2]⟩
def p133 : BT (List (Nat × List Nat)) := .nil
noncomputable def d134 : FnD := ⟨bodyOf Tryz.f134, 7, [.tmp 2]⟩
def p134 : BT (List (Nat × List Nat)) := .nil
noncomputable def d135 : FnD := ⟨bodyOf Tryz.f135, 29, [.cell 4 97, .tmp 5]⟩
def p135 : BT (List (Nat × List Nat)) := (.node (.node .nil 2 [(0, []), (1, []), (2, []), (3, []), (4, []), (5, []), (6, []), (7, []), (8, []), (9, [0, 1, 2, 3, 4, 6, 7, 8]), (10, [8]), (11, [])] .nil) 5 [(0, []), (1, []), (2, []), (3, []), (4, []), (5, []), (6, [])] .nil)
noncomputable def d136 : FnD := ⟨bodyOf Tryz.f136, 14, [.cell 2 97]⟩
def p136 : BT (List (Nat × List Nat)) := .nil
noncomputable def d137 : FnD := ⟨bodyOf Tryz.f137, 36, [.tmp 10]⟩
def p137 : BT (List (Nat × List Nat)) := (.node (.node .nil 3 [(0, []), (1, []), (2, []), (3, []), (4, []), (5, []), (6, []), (7, []), (8, []), (9, [0, 1, 2, 3, 4, 6, 7, 8]), (10, [8]), (11, [])] .nil) 6 [(0, []), (1, []), (2, []), (3, []), (4, []), (5, []), (6, []), (7, []), (8, []), (9, [])] .nil)
noncomputable def d138 : FnD := ⟨bodyOf Tryz.f138, 7, [.cell 2 97]⟩
def p138 : BT (List (Nat × List Nat)) := .nil
noncomputable def d139 : FnD := ⟨bodyOf Tryz.f139, 46, [.tmp 10, .tmp 11]⟩
def p139 : BT (List (Nat × List Nat)) := (.node .nil 1 [(0, []), (1, []), (2, []), (3, []), (4, []), (5, []), (6, []), (7, []), (8, []), (9, []), (10, []), (11, []), (12, []), (13, [])] .nil)
noncomputable def d140 : FnD := ⟨bodyOf Tryz.f140, 25, [.tmp 4]⟩
def p140 : BT (List (Nat × List Nat)) := .nil
noncomputable def d141 : FnD := ⟨bodyOf Tryz.f141, 54, [.tmp 2]⟩
def p141 : BT (List (Nat × List Nat)) := (.node (.node .nil 6 [(0, []), (3, []), (4, []), (5, []), (6, []), (7, []), (8, []), (1, [3, 4, 5, 6, 7, 8]), (2, []), (9, []), (10, [0, 2, 3, 4, 5, 6, 7, 8, 9]), (11, [])] .nil) 9 [(0, []), (1, []), (2, []), (3, []), (4, []), (5, [2, 3]), (6, []), (7, [])] .nil)
noncomputable def d142 : FnD := ⟨bodyOf Tryz.f142, 15, [.tmp 2]⟩
def p142 : BT (List (Nat × List Nat)) := .nil
noncomputable def d143 : FnD := ⟨bodyOf Tryz.f143, 51, [.tmp 2]⟩
def p143 : BT (List (Nat × List Nat)) := (.node .nil 7 [(0, []), (1, []), (2, []), (3, []), (4, []), (5, [0, 1, 2, 3]), (6, []), (7, []), (8, []), (9, []), (10, [])] .nil)
noncomputable def d144 : FnD := ⟨bodyOf Tryz.f144, 21, [.tmp 6, .cell 7 97]⟩
def p144 : BT (List (Nat × List Nat)) := (.node .nil 2 [(0, []), (1, []), (2, []), (3, []), (4, []), (5, [])] .nil)
noncomputable def d145 : FnD := ⟨bodyOf Tryz.f145, 6, [.tmp 2]⟩
def p145 : BT (List (Nat × List Nat)) := .nil
noncomputable def d146 : FnD := ⟨bodyOf Tryz.f146, 25, [.tmp 2]⟩
def p146 : BT (List (Nat × List Nat)) := .nil
noncomputable def d147 : FnD := ⟨bodyOf Tryz.f147, 4, [.tmp 2]⟩
def p147 : BT (List (Nat × List Nat)) := .nil
noncomputable def d148 : FnD := ⟨bodyOf Tryz.f148, 8, [.tmp 2]⟩
def p148 : BT (List (Nat × List Nat)) := .nil
noncomputable def d149 : FnD := ⟨bodyOf Tryz.f149, 8, [.tmp 2]⟩
def p149 : BT (List (Nat × List Nat)) := .nil
noncomputable def d152 : FnD := ⟨bodyOf Tryz.f152, 24, [.tmp 2, .tmp 3]⟩
def p152 : BT (List (Nat × List Nat)) := (.node .nil 3 [(0, []), (1, []), (2, []), (3, []), (4, []), (5, []), (6, []), (7, []), (8, []), (9, []), (10, []), (11, []), (12, []), (13, []), (14, []), (15, [])] .nil)
noncomputable def d153 : FnD := ⟨bodyOf Tryz.f153, 12, []⟩
def p153 : BT (List (Nat × List Nat)) := .nil
noncomputable def d154 : FnD := ⟨bodyOf Tryz.f154, 8, [.tmp 2]⟩
def p154 : BT (List (Nat × List Nat)) := .nil
noncomputable def d155 : FnD := ⟨bodyOf Tryz.f155, 22, [.tmp 4]⟩
def p155 : BT (List (Nat × List Nat)) := .nil
noncomputable def d156 : FnD := ⟨bodyOf Tryz.f156, 22, [.cell 2 182, .tmp 3]⟩
def p156 : BT (List (Nat × List Nat)) := .nil
noncomputable def d157 : FnD := ⟨bodyOf Tryz.f157, 14, [.tmp 3]⟩
def p157 : BT (List (Nat × List Nat)) := (.node .nil 1 [(0, []), (1, []), (2, []), (3, []), (4, []), (5, []), (6, []), (7, []), (8, []), (9, [8]), (10, [])] .nil)
noncomputable def d158 : FnD := ⟨bodyOf Tryz.f158, 36, [.tmp 4, .tmp 5]⟩
def p158 : BT (List (Nat × List Nat)) := (.node (.node .nil 1 [(0, []), (1, []), (2, []), (3, []), (4, []), (5, []), (6, []), (7, []), (8, []), (9, []), (10, []), (11, []), (12, [])] .nil) 3 [(1, []), (2, []), (0, [1, 2]), (3, []), (4, []), (5, []), (6, []), (7, []), (8, [])] .nil)
noncomputable def d159 : FnD := ⟨bodyOf Tryz.f159, 6, [.tmp 2]⟩
def p159 : BT (List (Nat × List Nat)) := .nil
noncomputable def d160 : FnD := ⟨bodyOf Tryz.f160, 8, [.tmp 3]⟩
def p160 : BT (List (Nat × List Nat)) := .nil
noncomputable def d161 : FnD := ⟨bodyOf Tryz.f161, 61, [.tmp 6]⟩
def p161 : BT (List (Nat × List Nat)) := (.node .nil 8 [(0, []), (1, []), (2, []), (3, []), (4, []), (5, []), (6, []), (7, []), (8, []), (9, []), (10, []), (11, []), (12, []), (13, [0, 1, 2, 3, 4]), (14, [0]), (15, []), (16, []), (17, [])] .nil)
noncomputable def d162 : FnD := ⟨bodyOf Tryz.f162, 7, [.tmp 2]⟩
def p162 : BT (List (Nat × List Nat)) := .nil
noncomputable def d163 : FnD := ⟨bodyOf Tryz.f163, 9, [.tmp 2]⟩
def p163 : BT (List (Nat × List Nat)) := .nil
noncomputable def d164 : FnD := ⟨bodyOf Tryz.f164, 7, [.tmp 2]⟩
def p164 : BT (List (Nat × List Nat)) := .nil
noncomputable def d165 : FnD := ⟨bodyOf Tryz.f165, 23, [.tmp 4]⟩
def p165 : BT (List (Nat × List Nat)) := (.node .nil 4 [(0, []), (1, []), (2, []), (3, []), (4, []), (6, []), (7, []), (5, [6, 7]), (8, [])] .nil)
noncomputable def d166 : FnD := ⟨bodyOf Tryz.f166, 40, []⟩
def p166 : BT (List (Nat × List Nat)) := .nil
noncomputable def d167 : FnD := ⟨bodyOf Tryz.f167, 15, [.cell 8 97]⟩
def p167 : BT (List (Nat × List Nat)) := .nil
noncomputable def d168 : FnD := ⟨bodyOf Tryz.f168, 77, [.cell 6 258]⟩
def p168 : BT (List (Nat × List Nat)) := (.node .nil 1 [(0, []), (1, []), (2, []), (3, []), (4, [0, 1, 2, 3]), (5, [0, 1, 2, 3]), (6, [2, 3]), (7, [])] .nil)
noncomputable def d169 : FnD := ⟨bodyOf Tryz.f169, 22, [.cell 4 182]⟩
def p169 : BT (List (Nat × List Nat)) := (.node .nil 2 [(0, []), (1, []), (2, []), (3, []), (4, []), (5, []), (6, [0, 1, 2, 3, 4]), (7, [0]), (8, []), (9, []), (10, [])] .nil)
noncomputable def d170 : FnD := ⟨bodyOf Tryz.f170, 45, [.tmp 6]⟩
def p170 : BT (List (Nat × List Nat)) := (.node .nil 8 [(0, []), (1, []), (2, []), (3, []), (4, []), (5, []), (6, []), (7, []), (8, []), (9, [])] .nil)
noncomputable def d171 : FnD := ⟨bodyOf Tryz.f171, 7, [.tmp 2]⟩
def p171 : BT (List (Nat × List Nat)) := .nil
noncomputable def d172 : FnD := ⟨bodyOf Tryz.f172, 79, []⟩
def p172 : BT (List (Nat × List Nat)) := (.node (.node (.node .nil 1 [(0, []), (1, []), (2, []), (3, []), (4, []), (6, []), (7, []), (8, []), (9, []), (10, []), (11, []), (5, [6, 7, 8, 9, 10, 11]), (12, []), (13, [0, 1, 2, 3, 4, 6, 7, 8, 9, 10, 11, 12]), (14, [])] .nil) 2 [(0, []), (1, []), (2, []), (3, []), (4, []), (5, []), (6, []), (7, []), (8, []), (9, []), (10, [0, 1, 2, 3, 4, 5, 7, 8, 9]), (11, [9]), (12, [])] .nil) 6 [(0, []), (1, []), (2, []), (3, []), (4, []), (5, []), (6, []), (7, []), (8, []), (9, []), (10, []), (11, []), (12, [])] (.node .nil 9 [(0, []), (1, []), (2, []), (3, []), (4, []), (5, []), (6, []), (7, []), (8, []), (9, []), (10, []), (11, []), (12, [])] .nil))
noncomputable def d173 : FnD := ⟨bodyOf Tryz.f173, 25, []⟩
def p173 : BT (List (Nat × List Nat)) := (.node .nil 1 [(0, []), (1, []), (2, []), (3, []), (4, []), (5, []), (6, []), (7, []), (8, []), (9, [])] .nil)
noncomputable def d174 : FnD := ⟨bodyOf Tryz.f174, 13, []⟩
def p174 : BT (List (Nat × List Nat)) := .nil
noncomputable def d175 : FnD := ⟨bodyOf Tryz.f175, 27, []⟩
def p175 : BT (List (Nat × List Nat)) := .nil
noncomputable def d176 : FnD := ⟨bodyOf Tryz.f176, 18, [.tmp 2]⟩
def p176 : BT (List (Nat × List Nat)) := (.node .nil 1 [(0, []), (1, []), (2, []), (3, []), (4, []), (5, [0, 1, 2, 3]), (6, [0, 1, 2, 3]), (7, []), (8, [])] .nil)
noncomputable def d177 : FnD := ⟨bodyOf Tryz.f177, 53, [.tmp 4]⟩
def p177 : BT (List (Nat × List Nat)) := .nil
noncomputable def d178 : FnD := ⟨bodyOf Tryz.f178, 28, [.tmp 2, .tmp 3]⟩
def p178 : BT (List (Nat × List Nat)) := .nil
noncomputable def d179 : FnD := ⟨bodyOf Tryz.f179, 20, [.tmp 2, .tmp 3]⟩
def p179 : BT (List (Nat × List Nat)) := .nil
noncomputable def d180 : FnD := ⟨bodyOf Tryz.f180, 14, []⟩
def p180 : BT (List (Nat × List Nat)) := .nil
noncomputable def d181 : FnD := ⟨bodyOf Tryz.f181, 12, [.tmp 4]⟩
def p181 : BT (List (Nat × List Nat)) := .nil
noncomputable def d182 : FnD := ⟨bodyOf Tryz.f182, 17, [.tmp 4]⟩
def p182 : BT (List (Nat × List Nat)) := (.node .nil 1 [(0, []), (1, []), (2, []), (3, []), (5, []), (6, []), (7, []), (8, []), (4, [5, 6, 7, 8]), (9, []), (10, []), (11, []), (12, [])] .nil)
noncomputable def d183 : FnD := ⟨bodyOf Tryz.f183, 19, [.cell 4 145, .tmp 5]⟩
def p183 : BT (List (Nat × List Nat)) := (.node .nil 1 [(0, []), (1, []), (2, []), (3, []), (4, []), (5, []), (6, []), (7, []), (8, []), (9, [0, 1, 2, 3, 4, 6, 7, 8]), (10, [8]), (11, [])] .nil)
noncomputable def d184 : FnD := ⟨bodyOf Tryz.f184, 14, [.cell 3 182, .tmp 4]⟩
def p184 : BT (List (Nat × List Nat)) := (.node .nil 1 [(0, []), (1, []), (2, []), (3, []), (4, []), (5, []), (6, []), (7, []), (8, []), (9, []), (10, [])] .nil)
noncomputable def d185 : FnD := ⟨bodyOf Tryz.f185, 32, [.cell 6 182, .tmp 7]⟩
def p185 : BT (List (Nat × List Nat)) := .nil
noncomputable def d187 : FnD := ⟨bodyOf Tryz.f187, 39, [.tmp 2, .tmp 3]⟩
def p187 : BT (List (Nat × List Nat)) := .nil
noncomputable def d188 : FnD := ⟨bodyOf Tryz.f188, 39, [.tmp 2]⟩
def p188 : BT (List (Nat × List Nat)) := .nil
noncomputable def d189 : FnD := ⟨bodyOf Tryz.f189, 53, [.tmp 2, .tmp 3]⟩
def p189 : BT (List (Nat × List Nat)) := (.node .nil 6 [(0, []), (1, []), (2, []), (3, []), (4, []), (5, []), (6, [])] .nil)
noncomputable def d190 : FnD := ⟨bodyOf Tryz.f190, 6, [.cell 2 97]⟩
def p190 : BT (List (Nat × List Nat)) := .nil
noncomputable def d191 : FnD := ⟨bodyOf Tryz.f191, 44, [.tmp 10, .tmp 11]⟩
def p191 : BT (List (Nat × List Nat)) := .nil
noncomputable def d192 : FnD := ⟨bodyOf Tryz.f192, 18, [.tmp 2]⟩
def p192 : BT (List (Nat × List Nat)) := (.node .nil 1 [(0, []), (1, []), (2, []), (3, []), (4, []), (5, []), (6, [0, 1, 2, 3, 4, 5]), (7, [0, 1, 2, 3, 4, 5]), (8, []), (9, []), (10, []), (11, []), (12, [0, 1, 2, 3, 4, 5, 9, 10, 11]), (13, [11]), (14, [])] .nil)
noncomputable def d193 : FnD := ⟨bodyOf Tryz.f193, 5, []⟩
def p193 : BT (List (Nat × List Nat)) := .nil
noncomputable def d194 : FnD := ⟨bodyOf Tryz.f194, 23, [.tmp 2]⟩
def p194 : BT (List (Nat × List Nat)) := .nil
noncomputable def d195 : FnD := ⟨bodyOf Tryz.f195, 14, [.tmp 2]⟩
def p195 : BT (List (Nat × List Nat)) := .nil
noncomputable def d196 : FnD := ⟨bodyOf Tryz.f196, 14, [.tmp 2]⟩
def p196 : BT (List (Nat × List Nat)) := .nil
noncomputable def d197 : FnD := ⟨bodyOf Tryz.f197, 6, [.tmp 2]⟩
def p197 : BT (List (Nat × List Nat)) := .nil
noncomputable def d198 : FnD := ⟨bodyOf Tryz.f198, 15, [.cell 2 51]⟩
def p198 : BT (List (Nat × List Nat)) := .nil
noncomputable def d199 : FnD := ⟨bodyOf Tryz.f199, 14, []⟩
def p199 : BT (List (Nat × List Nat)) := .nil
noncomputable def d200 : FnD := ⟨bodyOf Tryz.f200, 39, [.tmp 4, .cell 5 51]⟩
def p200 : BT (List (Nat × List Nat)) := (.node .nil 6 [(0, []), (1, []), (2, [])] .nil)
noncomputable def d201 : FnD := ⟨bodyOf Tryz.f201, 7, []⟩
def p201 : BT (List (Nat × List Nat)) := .nil
noncomputable def d202 : FnD := ⟨bodyOf Tryz.f202, 12, []⟩
def p202 : BT (List (Nat × List Nat)) := .nil
noncomputable def d203 : FnD := ⟨bodyOf Tryz.f203, 66, [.tmp 2, .tmp 3]⟩
def p203 : BT (List (Nat × List Nat)) := .nil
noncomputable def d204 : FnD := ⟨bodyOf Tryz.f204, 7, []⟩
def p204 : BT (List (Nat × List Nat)) := .nil
noncomputable def d205 : FnD := ⟨bodyOf Tryz.f205, 19, []⟩
def p205 : BT (List (Nat × List Nat)) := .nil
noncomputable def d206 : FnD := ⟨bodyOf Tryz.f206, 4, []⟩
def p206 : BT (List (Nat × List Nat)) := .nil
noncomputable def d207 : FnD := ⟨bodyOf Tryz.f207, 8, [.tmp 2]⟩
def p207 : BT (List (Nat × List Nat)) := .nil
noncomputable def d208 : FnD := ⟨bodyOf Tryz.f208, 5, []⟩
def p208 : BT (List (Nat × List Nat)) := .nil
noncomputable def d209 : FnD := ⟨bodyOf Tryz.f209, 46, [.tmp 2]⟩
def p209 : BT (List (Nat × List Nat)) := .nil
noncomputable def d210 : FnD := ⟨bodyOf Tryz.f210, 3, [.tmp 0]⟩
def p210 : BT (List (Nat × List Nat)) := .nil
noncomputable def d211 : FnD := ⟨bodyOf Tryz.f211, 10, [.tmp 6]⟩
def p211 : BT (List (Nat × List Nat)) := .nil
noncomputable def d212 : FnD := ⟨bodyOf Tryz.f212, 50, []⟩
def p212 : BT (List (Nat × List Nat)) := (.node .nil 6 [(0, []), (1, []), (2, []), (3, []), (4, []), (5, []), (6, []), (7, []), (8, [0, 1, 2, 3, 4]), (9, [0]), (10, []), (11, []), (12, [])] .nil)
noncomputable def d213 : FnD := ⟨bodyOf Tryz.f213, 42, []⟩
def p213 : BT (List (Nat × List Nat)) := (.node .nil 4 [(0, []), (1, []), (2, []), (3, []), (4, []), (5, []), (6, []), (7, []), (8, [0, 1, 2, 3, 4]), (9, [0]), (10, []), (11, []), (12, [])] .nil)
noncomputable def d214 : FnD := ⟨bodyOf Tryz.f214, 27, [.tmp 6]⟩
def p214 : BT (List (Nat × List Nat)) := .nil
noncomputable def d215 : FnD := ⟨bodyOf Tryz.f215, 29, [.tmp 4]⟩
def p215 : BT (List (Nat × List Nat)) := .nil
noncomputable def d216 : FnD := ⟨bodyOf Tryz.f216, 31, [.cell 4 97]⟩
def p216 : BT (List (Nat × List Nat)) := (.node .nil 8 [(0, []), (2, []), (3, []), (1, [2, 3]), (4, []), (5, []), (6, [])] .nil)
noncomputable def d217 : FnD := ⟨bodyOf Tryz.f217, 71, [.tmp 6]⟩
def p217 : BT (List (Nat × List Nat)) := .nil
noncomputable def d218 : FnD := ⟨bodyOf Tryz.f218, 13, []⟩
def p218 : BT (List (Nat × List Nat)) := .nil
noncomputable def d219 : FnD := ⟨bodyOf Tryz.f219, 29, [.tmp 4, .tmp 5]⟩
def p219 : BT (List (Nat × List Nat)) := .nil
noncomputable def d220 : FnD := ⟨bodyOf Tryz.f220, 9, []⟩
def p220 : BT (List (Nat × List Nat)) := .nil
noncomputable def d221 : FnD := ⟨bodyOf Tryz.f221, 19, [.tmp 4]⟩
def p221 : BT (List (Nat × List Nat)) := (.node .nil 1 [(0, []), (2, []), (5, []), (6, []), (7, []), (8, []), (9, []), (10, []), (11, []), (1, [2, 5, 6, 7, 8, 9, 10, 11]), (3, [5, 6, 7, 8, 9, 10, 11]), (4, []), (12, []), (13, []), (14, [])] .nil)
noncomputable def d222 : FnD := ⟨bodyOf Tryz.f222, 32, [.cell 4 97, .tmp 5]⟩
def p222 : BT (List (Nat × List Nat)) := (.node (.node .nil 1 [(0, []), (1, []), (2, []), (3, []), (4, []), (5, []), (6, []), (7, []), (8, []), (9, [0, 1, 2, 3, 4, 6, 7, 8]), (10, [8]), (11, [])] .nil) 4 [(0, []), (1, []), (2, []), (3, []), (4, []), (5, []), (6, []), (7, []), (8, []), (9, [0, 1, 2, 3, 4, 6, 7, 8]), (10, [8]), (11, [])] .nil)
noncomputable def d223 : FnD := ⟨bodyOf Tryz.f223, 22, [.tmp 6]⟩
def p223 : BT (List (Nat × List Nat)) := (.node .nil 1 [(0, []), (1, []), (3, []), (5, []), (2, [0, 1, 3, 5]), (4, [0, 1, 5]), (6, [0, 1]), (7, [0, 1]), (8, []), (9, []), (10, []), (11, []), (12, [0, 1, 3, 5, 9, 10, 11]), (13, [11]), (14, [])] .nil)
noncomputable def d224 : FnD := ⟨bodyOf Tryz.f224, 80, [.tmp 6]⟩
def p224 : BT (List (Nat × List Nat)) := (.node (.node (.node .nil 3 [(0, []), (1, []), (2, []), (3, []), (4, []), (5, []), (6, []), (7, []), (8, []), (9, [0, 1, 2, 3, 4, 6, 7, 8]), (10, [8]), (11, [])] .nil) 6 [(0, []), (1, []), (2, []), (4, []), (5, []), (6, []), (7, []), (3, [4, 5, 6, 7]), (8, []), (9, [0, 1, 2, 4, 5, 6, 7, 8]), (10, [])] .nil) 7 [(0, []), (1, []), (2, []), (3, []), (4, []), (5, []), (6, []), (7, [])] (.node (.node .nil 10 [(0, []), (1, []), (2, []), (3, []), (4, []), (5, []), (6, []), (7, []), (8, []), (9, []), (10, []), (11, []), (12, []), (13, []), (14, []), (15, []), (16, []), (17, []), (18, []), (19, [])] .nil) 14 [(0, []), (1, []), (2, []), (3, []), (4, []), (5, []), (6, []), (7, []), (8, [])] .nil))
noncomputable def d225 : FnD := ⟨bodyOf Tryz.f225, 10, []⟩
def p225 : BT (List (Nat × List Nat)) := .nil
noncomputable def d226 : FnD := ⟨bodyOf Tryz.f226, 29, [.tmp 4, .tmp 5]⟩
def p226 : BT (List (Nat × List Nat)) := .nil
noncomputable def d227 : FnD := ⟨bodyOf Tryz.f227, 52, [.tmp 4]⟩
def p227 : BT (List (Nat × List Nat)) := (.node .nil 2 [(0, []), (1, []), (2, []), (3, []), (4, []), (5, []), (6, []), (7, []), (8, []), (9, [])] .nil)
noncomputable def d228 : FnD := ⟨bodyOf Tryz.f228, 8, []⟩
def p228 : BT (List (Nat × List Nat)) := .nil
noncomputable def d229 : FnD := ⟨bodyOf Tryz.f229, 7, []⟩
def p229 : BT (List (Nat × List Nat)) := .nil
noncomputable def d230 : FnD := ⟨bodyOf Tryz.f230, 148, []⟩
def p230 : BT (List (Nat × List Nat)) := (.node .nil 17 [(0, []), (1, []), (2, []), (3, []), (4, []), (5, []), (6, []), (7, []), (8, []), (9, []), (10, []), (11, []), (12, []), (13, []), (14, []), (15, []), (16, [])] .nil)
noncomputable def d231 : FnD := ⟨bodyOf Tryz.f231, 8, [.tmp 2]⟩
def p231 : BT (List (Nat × List Nat)) := .nil
noncomputable def d232 : FnD := ⟨bodyOf Tryz.f232, 18, [.tmp 2]⟩
def p232 : BT (List (Nat × List Nat)) := .nil
noncomputable def d233 : FnD := ⟨bodyOf Tryz.f233, 20, [.tmp 4]⟩
def p233 : BT (List (Nat × List Nat)) := .nil
noncomputable def d234 : FnD := ⟨bodyOf Tryz.f234, 20, [.tmp 4]⟩
def p234 : BT (List (Nat × List Nat)) := .nil
noncomputable def d235 : FnD := ⟨bodyOf Tryz.f235, 13, [.tmp 6]⟩
def p235 : BT (List (Nat × List Nat)) := .nil
noncomputable def d236 : FnD := ⟨bodyOf Tryz.f236, 21, []⟩
def p236 : BT (List (Nat × List Nat)) := (.node .nil 0 [(0, []), (1, []), (2, []), (3, []), (4, []), (5, []), (6, []), (7, []), (8, []), (9, []), (10, []), (11, []), (12, []), (13, [9, 10]), (14, []), (15, []), (16, [])] .nil)
noncomputable def d237 : FnD := ⟨bodyOf Tryz.f237, 57, [.tmp 2, .tmp 3, .tmp 4, .tmp 5]⟩
def p237 : BT (List (Nat × List Nat)) := (.node (.node .nil 13 [(0, []), (1, []), (2, []), (3, []), (4, []), (5, []), (6, []), (7, []), (8, [0, 1, 2, 3, 4]), (9, [])] .nil) 15 [(0, []), (1, []), (2, []), (3, []), (4, []), (5, []), (6, []), (7, []), (8, []), (9, [])] .nil)
noncomputable def d238 : FnD := ⟨bodyOf Tryz.f238, 8, [.cell 2 97]⟩
def p238 : BT (List (Nat × List Nat)) := (.node .nil 1 [(0, []), (1, []), (2, [0]), (3, []), (4, []), (5, [])] .nil)
noncomputable def d239 : FnD := ⟨bodyOf Tryz.f239, 30, [.tmp 8, .tmp 9]⟩
def p239 : BT (List (Nat × List Nat)) := (.node .nil 1 [(0, []), (1, []), (3, []), (5, []), (7, []), (8, []), (2, [0, 1, 3, 5, 7, 8]), (4, [0, 1, 5, 7, 8]), (6, [0, 1, 7, 8]), (9, [0, 1]), (10, [0, 1]), (11, []), (12, []), (13, []), (14, []), (15, [0, 1, 3, 5, 7, 8, 12, 13, 14]), (16, [14]), (17, [])] .nil)
noncomputable def d240 : FnD := ⟨bodyOf Tryz.f240, 16, [.cell 2 182, .tmp 3]⟩
def p240 : BT (List (Nat × List Nat)) := .nil
noncomputable def d241 : FnD := ⟨bodyOf Tryz.f241, 11, []⟩
def p241 : BT (List (Nat × List Nat)) := .nil
noncomputable def d242 : FnD := ⟨bodyOf Tryz.f242, 11, [.tmp 4]⟩
def p242 : BT (List (Nat × List Nat)) := .nil
noncomputable def d243 : FnD := ⟨bodyOf Tryz.f243, 30, [.tmp 4, .tmp 5]⟩
def p243 : BT (List (Nat × List Nat)) := .nil
noncomputable def d244 : FnD := ⟨bodyOf Tryz.f244, 6, [.tmp 4]⟩
def p244 : BT (List (Nat × List Nat)) := .nil
noncomputable def d245 : FnD := ⟨bodyOf Tryz.f245, 6, [.tmp 2]⟩
def p245 : BT (List (Nat × List Nat)) := .nil
noncomputable def d246 : FnD := ⟨bodyOf Tryz.f246, 6, [.tmp 2]⟩
def p246 : BT (List (Nat × List Nat)) := .nil
noncomputable def d247 : FnD := ⟨bodyOf Tryz.f247, 6, [.tmp 4]⟩
def p247 : BT (List (Nat × List Nat)) := .nil
noncomputable def d248 : FnD := ⟨bodyOf Tryz.f248, 6, [.tmp 2]⟩
def p248 : BT (List (Nat × List Nat)) := .nil
noncomputable def d249 : FnD := ⟨bodyOf Tryz.f249, 6, [.tmp 2]⟩
def p249 : BT (List (Nat × List Nat)) := .nil
noncomputable def d250 : FnD := ⟨bodyOf Tryz.f250, 10, [.tmp 2, .tmp 3]⟩
def p250 : BT (List (Nat × List Nat)) := .nil
noncomputable def d251 : FnD := ⟨bodyOf Tryz.f251, 37, []⟩
def p251 : BT (List (Nat × List Nat)) := (.node .nil 3 [(0, []), (1, []), (2, []), (3, []), (4, []), (5, []), (6, [])] .nil)
noncomputable def d252 : FnD := ⟨bodyOf Tryz.f252, 84, [.tmp 4, .tmp 5]⟩
def p252 : BT (List (Nat × List Nat)) := (.node (.node (.node .nil 3 [(0, []), (1, []), (2, []), (3, []), (4, []), (5, []), (6, []), (7, []), (8, []), (9, []), (10, []), (11, []), (12, []), (13, [])] .nil) 9 [(0, []), (1, []), (2, []), (3, []), (4, []), (5, []), (6, []), (7, []), (8, [])] .nil) 12 [(0, []), (1, []), (2, []), (3, []), (4, []), (5, []), (6, []), (7, []), (8, []), (9, []), (10, []), (11, [])] (.node .nil 14 [(0, []), (1, []), (2, []), (3, []), (4, []), (5, []), (6, []), (7, [0, 1, 2, 3, 4]), (8, [0]), (9, []), (10, []), (11, [])] .nil))
noncomputable def d253 : FnD := ⟨bodyOf Tryz.f253, 31, [.tmp 4, .tmp 5]⟩
def p253 : BT (List (Nat × List Nat)) := (.node .nil 4 [(0, []), (1, []), (2, []), (3, []), (4, []), (5, []), (6, []), (7, []), (8, []), (9, []), (10, []), (11, []), (12, []), (13, [])] .nil)
noncomputable def d254 : FnD := ⟨bodyOf Tryz.f254, 16, [.tmp 4, .tmp 5]⟩
def p254 : BT (List (Nat × List Nat)) := .nil
noncomputable def d255 : FnD := ⟨bodyOf Tryz.f255, 71, [.tmp 4, .tmp 5]⟩
def p255 : BT (List (Nat × List Nat)) := (.node (.node .nil 3 [(0, []), (1, []), (2, []), (3, []), (4, []), (5, []), (6, []), (7, []), (8, []), (9, [])] .nil) 5 [(0, []), (1, []), (2, []), (3, []), (4, []), (5, []), (6, []), (7, []), (8, [0, 1, 2, 3]), (9, []), (10, [0, 1, 2, 3, 4, 5, 6, 7]), (11, [])] (.node .nil 6 [(0, []), (1, []), (2, []), (3, []), (4, []), (5, []), (6, []), (7, []), (8, []), (9, []), (10, []), (11, []), (12, []), (13, []), (14, []), (15, [0, 1]), (16, [])] .nil))
noncomputable def d256 : FnD := ⟨bodyOf Tryz.f256, 40, [.tmp 4, .tmp 5]⟩
def p256 : BT (List (Nat × List Nat)) := (.node (.node .nil 3 [(0, []), (1, []), (2, []), (3, []), (4, []), (5, []), (6, []), (7, []), (8, []), (9, [])] .nil) 5 [(0, []), (1, []), (2, []), (3, []), (4, []), (5, []), (6, []), (7, []), (8, []), (9, []), (10, [])] .nil)
noncomputable def d257 : FnD := ⟨bodyOf Tryz.f257, 15, [.tmp 4, .tmp 5]⟩
def p257 : BT (List (Nat × List Nat)) := .nil
noncomputable def d258 : FnD := ⟨bodyOf Tryz.f258, 113, [.tmp 4, .tmp 5]⟩
def p258 : BT (List (Nat × List Nat)) := (.node (.node (.node .nil 1 [(0, []), (1, []), (2, []), (3, []), (4, []), (5, []), (6, []), (7, []), (8, []), (9, []), (10, []), (11, []), (12, []), (13, []), (14, []), (15, [])] .nil) 2 [(0, []), (1, []), (2, []), (3, []), (4, []), (5, []), (6, []), (7, []), (8, []), (9, []), (10, []), (11, []), (12, []), (13, []), (14, []), (15, []), (16, []), (17, []), (18, [])] .nil) 3 [(0, []), (1, []), (2, []), (3, []), (4, []), (5, []), (6, []), (7, []), (8, []), (9, []), (10, []), (11, []), (12, [])] (.node .nil 5 [(0, []), (1, []), (2, []), (3, []), (4, []), (5, []), (6, []), (7, []), (8, []), (9, []), (10, []), (11, []), (12, [])] .nil))
noncomputable def d259 : FnD := ⟨bodyOf Tryz.f259, 19, [.tmp 4]⟩
def p259 : BT (List (Nat × List Nat)) := .nil
noncomputable def d260 : FnD := ⟨bodyOf Tryz.f260, 16, [.tmp 4]⟩
def p260 : BT (List (Nat × List Nat)) := .nil
noncomputable def d261 : FnD := ⟨bodyOf Tryz.f261, 9, [.tmp 2]⟩
def p261 : BT (List (Nat × List Nat)) := .nil
noncomputable def d262 : FnD := ⟨bodyOf Tryz.f262, 4, [.tmp 2]⟩
def p262 : BT (List (Nat × List Nat)) := .nil
noncomputable def d263 : FnD := ⟨bodyOf Tryz.f263, 19, [.tmp 3]⟩
def p263 : BT (List (Nat × List Nat)) := .nil
noncomputable def d264 : FnD := ⟨bodyOf Tryz.f264, 5, [.tmp 2]⟩
def p264 : BT (List (Nat × List Nat)) := .nil
noncomputable def d265 : FnD := ⟨bodyOf Tryz.f265, 13, []⟩
def p265 : BT (List (Nat × List Nat)) := (.node .nil 1 [(0, []), (1, []), (2, []), (3, []), (4, []), (5, []), (6, []), (7, []), (8, []), (9, [])] .nil)
noncomputable def d266 : FnD := ⟨bodyOf Tryz.f266, 15, [.tmp 4, .tmp 5]⟩
def p266 : BT (List (Nat × List Nat)) := .nil
noncomputable def d267 : FnD := ⟨bodyOf Tryz.f267, 20, [.tmp 4]⟩
def p267 : BT (List (Nat × List Nat)) := .nil
noncomputable def d268 : FnD := ⟨bodyOf Tryz.f268, 9, [.tmp 4]⟩
def p268 : BT (List (Nat × List Nat)) := .nil
noncomputable def d269 : FnD := ⟨bodyOf Tryz.f269, 63, []⟩
def p269 : BT (List (Nat × List Nat)) := .nil
noncomputable def d270 : FnD := ⟨bodyOf Tryz.f270, 21, [.tmp 2]⟩
def p270 : BT (List (Nat × List Nat)) := .nil
noncomputable def d271 : FnD := ⟨bodyOf Tryz.f271, 14, [.cell 3 182, .tmp 4]⟩
def p271 : BT (List (Nat × List Nat)) := (.node .nil 1 [(0, []), (1, []), (2, []), (3, []), (4, []), (5, []), (6, []), (7, []), (8, []), (9, []), (10, [])] .nil)
noncomputable def d272 : FnD := ⟨bodyOf Tryz.f272, 38, [.cell 6 182, .tmp 7]⟩
def p272 : BT (List (Nat × List Nat)) := (.node .nil 4 [(0, []), (1, []), (2, []), (3, []), (4, []), (5, []), (6, []), (7, []), (8, []), (9, []), (10, []), (11, []), (12, [])] .nil)
noncomputable def d273 : FnD := ⟨bodyOf Tryz.f273, 5, [.tmp 2]⟩
def p273 : BT (List (Nat × List Nat)) := .nil
noncomputable def d274 : FnD := ⟨bodyOf Tryz.f274, 57, [.tmp 6]⟩
def p274 : BT (List (Nat × List Nat)) := (.node .nil 3 [(0, []), (1, []), (2, []), (3, []), (4, []), (5, []), (6, []), (7, []), (8, []), (9, []), (10, []), (11, []), (12, []), (13, []), (14, [])] .nil)
noncomputable def d275 : FnD := ⟨bodyOf Tryz.f275, 71, [.tmp 4]⟩
def p275 : BT (List (Nat × List Nat)) := (.node (.node (.node .nil 4 [(0, []), (1, []), (2, []), (3, []), (4, []), (5, []), (6, []), (7, []), (8, []), (9, []), (10, []), (11, [0, 1, 2, 3, 4, 5, 6, 8, 9, 10]), (12, [10]), (13, [])] .nil) 5 [(0, []), (1, []), (2, []), (3, []), (4, []), (5, []), (6, []), (7, []), (8, []), (9, []), (10, []), (11, [0, 1, 2, 3, 4, 5, 6, 8, 9, 10]), (12, [10]), (13, [])] .nil) 10 [(0, []), (1, []), (2, []), (3, []), (4, []), (5, []), (6, []), (7, []), (8, [])] (.node .nil 11 [(0, []), (1, []), (2, []), (3, []), (4, []), (5, []), (6, []), (7, []), (8, []), (9, []), (10, [])] .nil))
noncomputable def d276 : FnD := ⟨bodyOf Tryz.f276, 8, [.tmp 2]⟩
def p276 : BT (List (Nat × List Nat)) := .nil
noncomputable def d277 : FnD := ⟨bodyOf Tryz.f277, 53, []⟩
def p277 : BT (List (Nat × List Nat)) := (.node (.node .nil 4 [(0, []), (1, []), (2, []), (3, []), (4, []), (5, []), (6, []), (7, []), (8, []), (9, []), (10, []), (11, []), (12, []), (13, []), (14, []), (15, []), (16, [])] .nil) 6 [(0, []), (1, []), (2, []), (3, []), (4, []), (5, []), (6, []), (7, []), (8, []), (9, []), (10, []), (11, []), (12, []), (13, []), (14, []), (15, [2, 3, 4]), (16, []), (17, [])] .nil)
noncomputable def d278 : FnD := ⟨bodyOf Tryz.f278, 60, []⟩
def p278 : BT (List (Nat × List Nat)) := (.node .nil 10 [(0, []), (1, []), (2, []), (3, []), (4, []), (5, []), (6, []), (7, []), (8, []), (9, []), (10, []), (11, []), (12, []), (13, []), (14, []), (15, []), (16, []), (17, [2, 3, 4, 5]), (18, []), (19, [])] .nil)
noncomputable def d279 : FnD := ⟨bodyOf Tryz.f279, 67, []⟩
def p279 : BT (List (Nat × List Nat)) := (.node .nil 10 [(0, []), (1, []), (2, []), (3, []), (4, []), (5, []), (6, []), (7, []), (8, []), (9, []), (10, []), (11, []), (12, []), (13, []), (14, []), (15, []), (16, []), (17, [2, 3, 4, 5]), (18, []), (19, [])] .nil)
noncomputable def d280 : FnD := ⟨bodyOf Tryz.f280, 63, [.tmp 8, .tmp 9]⟩
def p280 : BT (List (Nat × List Nat)) := .nil
noncomputable def d281 : FnD := ⟨bodyOf Tryz.f281, 34, []⟩
def p281 : BT (List (Nat × List Nat)) := (.node .nil 3 [(0, []), (1, []), (2, []), (3, []), (4, []), (5, []), (6, []), (7, []), (8, []), (9, []), (10, []), (11, []), (12, []), (13, [2, 3]), (14, []), (15, [])] .nil)
noncomputable def d282 : FnD := ⟨bodyOf Tryz.f282, 141, [.tmp 8]⟩
def p282 : BT (List (Nat × List Nat)) := (.node (.node (.node .nil 5 [(0, []), (1, []), (2, []), (3, []), (4, []), (5, []), (6, []), (7, []), (8, []), (9, []), (10, []), (11, []), (12, []), (13, []), (14, []), (15, []), (16, []), (17, [])] .nil) 11 [(0, []), (1, []), (2, []), (3, []), (4, []), (5, []), (6, []), (7, []), (8, []), (9, []), (10, []), (11, []), (12, []), (13, []), (14, []), (15, [2, 3, 4]), (16, []), (17, [])] (.node .nil 16 [(0, []), (1, []), (2, []), (3, []), (4, []), (5, []), (6, []), (7, []), (8, []), (9, []), (10, []), (11, []), (12, [])] .nil)) 17 [(0, []), (1, []), (2, []), (3, []), (4, []), (5, []), (6, []), (7, []), (8, []), (9, []), (10, []), (11, []), (12, []), (13, []), (14, []), (15, [2, 3, 4]), (16, []), (17, [])] (.node (.node .nil 22 [(0, []), (1, []), (2, []), (3, []), (4, []), (5, []), (6, []), (7, []), (8, []), (9, []), (10, []), (11, []), (12, [])] .nil) 23 [(0, []), (1, []), (2, []), (3, []), (4, []), (5, []), (6, []), (7, []), (8, []), (9, []), (10, []), (11, []), (12, []), (13, []), (14, []), (15, [2, 3, 4]), (16, []), (17, [])] .nil))
noncomputable def d283 : FnD := ⟨bodyOf Tryz.f283, 90, [.tmp 10]⟩
def p283 : BT (List (Nat × List Nat)) := (.node (.node (.node .nil 1 [(0, []), (1, []), (2, []), (3, []), (4, []), (5, []), (6, []), (7, []), (8, []), (9, []), (10, []), (11, []), (12, []), (13, [2, 3]), (14, []), (15, [])] .nil) 3 [(0, []), (1, []), (2, []), (3, []), (4, []), (5, []), (6, []), (7, []), (8, []), (9, []), (10, []), (11, []), (12, []), (13, []), (14, []), (15, []), (16, [])] .nil) 5 [(0, []), (1, []), (2, []), (3, []), (4, []), (5, []), (6, []), (7, []), (8, []), (9, []), (10, []), (11, []), (12, []), (13, []), (14, []), (15, [])] (.node .nil 8 [(0, []), (1, []), (2, []), (3, []), (4, []), (5, []), (6, []), (7, []), (8, []), (9, []), (10, []), (11, []), (12, []), (13, [2, 3]), (14, []), (15, [])] .nil))
noncomputable def d284 : FnD := ⟨bodyOf Tryz.f284, 178, [.tmp 10, .tmp 11]⟩
def p284 : BT (List (Nat × List Nat)) := (.node (.node (.node (.node .nil 1 [(0, []), (1, []), (2, []), (3, []), (4, []), (5, []), (6, []), (7, []), (8, []), (9, []), (10, []), (11, []), (12, []), (13, [2, 3]), (14, []), (15, [])] .nil) 3 [(0, []), (1, []), (2, []), (3, []), (4, []), (5, []), (6, []), (7, []), (8, []), (9, []), (10, []), (11, []), (12, []), (13, []), (14, []), (15, [])] .nil) 5 [(0, []), (1, []), (2, []), (3, []), (4, []), (5, []), (6, []), (7, []), (8, []), (9, []), (10, []), (11, []), (12, []), (13, []), (14, []), (15, []), (16, [])] (.node .nil 8 [(0, []), (1, []), (2, []), (3, []), (4, []), (5, []), (6, []), (7, []), (8, []), (9, []), (10, []), (11, []), (12, []), (13, [2, 3]), (14, []), (15, [])] .nil)) 10 [(0, []), (1, []), (2, []), (3, []), (4, []), (5, []), (6, []), (7, []), (8, []), (9, []), (10, []), (11, []), (12, []), (13, [2, 3]), (14, []), (15, [])] (.node (.node (.node .nil 13 [(0, []), (1, []), (2, []), (3, []), (4, []), (5, []), (6, []), (7, []), (8, []), (9, []), (10, []), (11, []), (12, []), (13, []), (14, []), (15, [])] .nil) 15 [(0, []), (1, []), (2, []), (3, []), (4, []), (5, []), (6, []), (7, []), (8, []), (9, []), (10, []), (11, []), (12, []), (13, []), (14, []), (15, []), (16, [])] .nil) 18 [(0, []), (1, []), (2, []), (3, []), (4, []), (5, []), (6, []), (7, []), (8, []), (9, []), (10, []), (11, []), (12, []), (13, [2, 3]), (14, []), (15, [])] (.node .nil 21 [(0, []), (1, []), (2, []), (3, []), (4, []), (5, []), (6, []), (7, []), (8, []), (9, []), (10, []), (11, []), (12, []), (13, [2, 3]), (14, []), (15, [])] .nil)))
noncomputable def d285 : FnD := ⟨bodyOf Tryz.f285, 19, [.tmp 2]⟩
def p285 : BT (List (Nat × List Nat)) := .nil
noncomputable def d286 : FnD := ⟨bodyOf Tryz.f286, 6, [.tmp 2]⟩
def p286 : BT (List (Nat × List Nat)) := .nil
noncomputable def d287 : FnD := ⟨bodyOf Tryz.f287, 6, [.tmp 2]⟩
def p287 : BT (List (Nat × List Nat)) := .nil
noncomputable def d288 : FnD := ⟨bodyOf Tryz.f288, 21, [.tmp 4]⟩
def p288 : BT (List (Nat × List Nat)) := .nil
noncomputable def d289 : FnD := ⟨bodyOf Tryz.f289, 22, [.cell 2 97]⟩
def p289 : BT (List (Nat × List Nat)) := .nil
noncomputable def d290 : FnD := ⟨bodyOf Tryz.f290, 18, [.cell 4 388]⟩
def p290 : BT (List (Nat × List Nat)) := (.node .nil 3 [(0, []), (1, []), (2, []), (3, []), (4, []), (5, []), (6, []), (7, [6])] .nil)
noncomputable def d291 : FnD := ⟨bodyOf Tryz.f291, 9, [.tmp 2]⟩
def p291 : BT (List (Nat × List Nat)) := .nil
noncomputable def d292 : FnD := ⟨bodyOf Tryz.f292, 16, [.cell 4 182, .tmp 5]⟩
def p292 : BT (List (Nat × List Nat)) := (.node .nil 1 [(0, []), (1, []), (2, []), (3, []), (4, []), (5, []), (6, []), (7, []), (8, []), (9, []), (10, []), (11, [])] .nil)
noncomputable def d293 : FnD := ⟨bodyOf Tryz.f293, 91, [.cell 8 182, .tmp 9]⟩
def p293 : BT (List (Nat × List Nat)) := (.node (.node .nil 11 [(0, []), (1, []), (2, []), (3, []), (4, []), (5, []), (6, []), (7, []), (8, []), (9, [0, 1, 2, 3, 4, 5, 6, 7, 8]), (10, [])] .nil) 14 [(0, []), (1, []), (2, []), (3, []), (4, []), (5, []), (6, []), (7, [0, 1, 2, 3, 4]), (8, [0]), (9, []), (10, []), (11, [])] .nil)
noncomputable def d294 : FnD := ⟨bodyOf Tryz.f294, 9, [.cell 2 182]⟩
def p294 : BT (List (Nat × List Nat)) := .nil
noncomputable def d295 : FnD := ⟨bodyOf Tryz.f295, 11, []⟩
def p295 : BT (List (Nat × List Nat)) := .nil
noncomputable def d296 : FnD := ⟨bodyOf Tryz.f296, 42, []⟩
def p296 : BT (List (Nat × List Nat)) := (.node .nil 4 [(0, []), (1, []), (2, []), (3, []), (4, []), (5, []), (6, []), (7, [])] .nil)
noncomputable def d297 : FnD := ⟨bodyOf Tryz.f297, 44, []⟩
def p297 : BT (List (Nat × List Nat)) := (.node .nil 4 [(0, []), (1, []), (2, []), (3, []), (4, []), (5, []), (6, []), (7, []), (8, [])] .nil)
noncomputable def d298 : FnD := ⟨bodyOf Tryz.f298, 6, [.tmp 4]⟩
def p298 : BT (List (Nat × List Nat)) := .nil
noncomputable def d299 : FnD := ⟨bodyOf Tryz.f299, 6, [.tmp 2]⟩
def p299 : BT (List (Nat × List Nat)) := .nil
noncomputable def d300 : FnD := ⟨bodyOf Tryz.f300, 20, [.cell 2 97, .cell 3 51]⟩
def p300 : BT (List (Nat × List Nat)) := .nil
noncomputable def d301 : FnD := ⟨bodyOf Tryz.f301, 25, [.tmp 4]⟩
def p301 : BT (List (Nat × List Nat)) := .nil
noncomputable def d302 : FnD := ⟨bodyOf Tryz.f302, 9, [.tmp 4]⟩
def p302 : BT (List (Nat × List Nat)) := (.node .nil 1 [(0, []), (2, []), (1, [2]), (3, []), (4, [])] .nil)
noncomputable def d303 : FnD := ⟨bodyOf Tryz.f303, 29, [.cell 2 182]⟩
def p303 : BT (List (Nat × List Nat)) := (.node .nil 2 [(0, []), (1, []), (2, []), (3, []), (4, []), (5, []), (6, []), (7, []), (8, []), (9, []), (10, []), (11, []), (12, []), (13, [])] .nil)
noncomputable def d304 : FnD := ⟨bodyOf Tryz.f304, 32, [.tmp 6]⟩
def p304 : BT (List (Nat × List Nat)) := (.node .nil 7 [(0, []), (1, []), (2, []), (3, []), (4, []), (5, []), (6, []), (7, []), (8, [])] .nil)
noncomputable def d305 : FnD := ⟨bodyOf Tryz.f305, 15, [.tmp 3]⟩
def p305 : BT (List (Nat × List Nat)) := (.node .nil 1 [(0, []), (1, []), (2, []), (3, []), (4, []), (5, [3]), (6, []), (7, []), (8, []), (9, []), (10, []), (11, [])] .nil)
noncomputable def d306 : FnD := ⟨bodyOf Tryz.f306, 53, []⟩
def p306 : BT (List (Nat × List Nat)) := (.node (.node .nil 4 [(0, []), (1, []), (2, []), (3, []), (4, []), (5, []), (6, []), (7, []), (8, []), (9, []), (10, []), (11, []), (12, []), (13, []), (14, []), (15, []), (16, [])] .nil) 6 [(0, []), (1, []), (2, []), (3, []), (4, []), (5, []), (6, []), (7, []), (8, []), (9, []), (10, []), (11, []), (12, []), (13, []), (14, []), (15, [2, 3, 4]), (16, []), (17, [])] .nil)
noncomputable def d307 : FnD := ⟨bodyOf Tryz.f307, 220, []⟩
def p307 : BT (List (Nat × List Nat)) := (.node (.node (.node .nil 5 [(0, []), (1, []), (2, []), (3, []), (4, []), (5, []), (6, []), (7, []), (8, []), (9, []), (10, [])] .nil) 11 [(0, []), (1, []), (2, []), (3, []), (4, []), (5, []), (6, []), (7, []), (8, []), (9, []), (10, []), (11, []), (12, []), (13, []), (14, []), (15, [2, 3, 4]), (16, []), (17, [])] .nil) 17 [(0, []), (1, []), (2, []), (3, []), (4, []), (5, []), (6, []), (7, []), (8, []), (9, []), (10, []), (11, [])] (.node (.node .nil 23 [(0, []), (1, []), (2, []), (3, []), (4, []), (5, []), (6, []), (7, []), (8, []), (9, []), (10, []), (11, []), (12, []), (13, []), (14, []), (15, [2, 3, 4]), (16, []), (17, [])] .nil) 35 [(0, []), (1, []), (2, []), (3, []), (4, []), (5, []), (6, []), (7, []), (8, []), (9, []), (10, []), (11, []), (12, []), (13, [])] .nil))
noncomputable def d308 : FnD := ⟨bodyOf Tryz.f308, 32, [.tmp 8]⟩
def p308 : BT (List (Nat × List Nat)) := .nil
noncomputable def d309 : FnD := ⟨bodyOf Tryz.f309, 82, []⟩
def p309 : BT (List (Nat × List Nat)) := (.node (.node .nil 3 [(0, []), (1, []), (2, []), (3, []), (4, []), (5, []), (6, []), (7, []), (8, []), (9, []), (10, []), (11, []), (12, []), (13, []), (14, []), (15, []), (16, []), (17, []), (18, []), (19, []), (20, []), (21, [])] .nil) 5 [(0, []), (1, []), (2, []), (3, []), (4, []), (5, []), (6, []), (7, []), (8, []), (9, []), (10, []), (11, []), (12, []), (13, []), (14, []), (15, [])] (.node .nil 6 [(0, []), (1, []), (2, []), (3, []), (4, []), (5, []), (6, []), (7, []), (8, []), (9, []), (10, []), (11, []), (12, []), (13, []), (14, []), (15, []), (16, []), (17, []), (18, []), (19, []), (20, []), (21, [4, 5, 6, 7]), (22, []), (23, [])] .nil))
noncomputable def d310 : FnD := ⟨bodyOf Tryz.f310, 7, [.tmp 2]⟩
def p310 : BT (List (Nat × List Nat)) := .nil
noncomputable def d311 : FnD := ⟨bodyOf Tryz.f311, 33, [.tmp 2]⟩
def p311 : BT (List (Nat × List Nat)) := (.node (.node .nil 1 [(0, []), (1, []), (2, []), (3, []), (4, []), (5, []), (6, []), (7, []), (8, []), (9, [])] .nil) 2 [(0, []), (1, []), (2, []), (3, []), (4, []), (5, []), (6, []), (7, []), (8, []), (9, [])] (.node .nil 3 [(0, []), (1, []), (2, []), (3, []), (4, []), (5, []), (6, []), (7, []), (8, []), (9, [])] .nil))
noncomputable def d312 : FnD := ⟨bodyOf Tryz.f312, 18, [.tmp 8]⟩
def p312 : BT (List (Nat × List Nat)) := .nil
noncomputable def d313 : FnD := ⟨bodyOf Tryz.f313, 41, [.tmp 12]⟩
def p313 : BT (List (Nat × List Nat)) := .nil
noncomputable def d314 : FnD := ⟨bodyOf Tryz.f314, 169, [.cell 4 388, .tmp 5]⟩
def p314 : BT (List (Nat × List Nat)) := (.node (.node (.node .nil 7 [(0, []), (1, []), (2, []), (3, []), (4, []), (5, []), (6, []), (7, []), (8, []), (9, []), (10, []), (11, []), (12, []), (13, [])] .nil) 12 [(0, []), (1, []), (2, []), (3, []), (4, []), (5, []), (6, []), (7, []), (8, []), (9, [])] (.node .nil 15 [(0, []), (1, []), (2, []), (3, []), (4, []), (5, []), (6, []), (7, []), (8, []), (9, []), (10, []), (11, []), (12, []), (13, []), (14, []), (15, [])] .nil)) 20 [(0, []), (1, []), (2, []), (3, []), (4, []), (5, []), (6, []), (7, []), (8, []), (9, []), (10, []), (11, []), (12, []), (13, []), (14, []), (15, []), (16, []), (17, []), (18, []), (19, []), (20, [])] (.node (.node .nil 21 [(0, []), (1, []), (2, []), (6, []), (7, []), (8, []), (9, []), (10, []), (11, []), (12, []), (13, []), (15, []), (16, []), (17, []), (19, []), (3, [0, 1, 2, 6, 7, 8, 9, 10, 11, 12, 13, 15, 16, 17, 19]), (4, [0, 1, 6, 7, 8, 9, 10, 11, 12, 13, 15, 16, 17, 19]), (5, []), (14, []), (18, []), (20, []), (21, [])] .nil) 28 [(0, []), (1, []), (2, []), (3, []), (4, []), (5, []), (6, []), (7, []), (8, [])] .nil))
noncomputable def d315 : FnD := ⟨bodyOf Tryz.f315, 33, [.tmp 2]⟩
def p315 : BT (List (Nat × List Nat)) := .nil
noncomputable def d316 : FnD := ⟨bodyOf Tryz.f316, 44, []⟩
def p316 : BT (List (Nat × List Nat)) := (.node .nil 4 [(0, []), (1, []), (2, []), (3, []), (4, []), (5, []), (6, []), (7, []), (8, [])] .nil)
noncomputable def d317 : FnD := ⟨bodyOf Tryz.f317, 28, [.cell 4 97, .tmp 5]⟩
def p317 : BT (List (Nat × List Nat)) := .nil
noncomputable def d318 : FnD := ⟨bodyOf Tryz.f318, 23, [.tmp 4]⟩
def p318 : BT (List (Nat × List Nat)) := (.node .nil 2 [(0, []), (1, []), (2, []), (3, []), (4, []), (5, []), (6, []), (7, []), (8, []), (9, []), (10, []), (11, []), (12, []), (13, []), (14, []), (15, [])] .nil)
noncomputable def d319 : FnD := ⟨bodyOf Tryz.f319, 10, [.tmp 2]⟩
def p319 : BT (List (Nat × List Nat)) := .nil
noncomputable def d320 : FnD := ⟨bodyOf Tryz.f320, 30, [.cell 6 206, .tmp 7]⟩
def p320 : BT (List (Nat × List Nat)) := .nil
noncomputable def d321 : FnD := ⟨bodyOf Tryz.f321, 23, [.tmp 4]⟩
def p321 : BT (List (Nat × List Nat)) := .nil
noncomputable def d322 : FnD := ⟨bodyOf Tryz.f322, 18, [.cell 6 97, .tmp 7]⟩
def p322 : BT (List (Nat × List Nat)) := (.node .nil 3 [(0, []), (1, []), (2, []), (3, [0, 1]), (4, []), (5, []), (6, [])] .nil)
noncomputable def d323 : FnD := ⟨bodyOf Tryz.f323, 58, []⟩
def p323 : BT (List (Nat × List Nat)) := .nil
noncomputable def d324 : FnD := ⟨bodyOf Tryz.f324, 32, [.tmp 6, .tmp 7]⟩
def p324 : BT (List (Nat × List Nat)) := .nil
noncomputable def d325 : FnD := ⟨bodyOf Tryz.f325, 32, [.tmp 10, .tmp 11]⟩
def p325 : BT (List (Nat × List Nat)) := (.node .nil 1 [(0, []), (1, []), (2, []), (3, []), (4, []), (5, []), (6, []), (7, []), (8, []), (9, []), (10, [])] .nil)
noncomputable def d326 : FnD := ⟨bodyOf Tryz.f326, 26, [.tmp 4]⟩
def p326 : BT (List (Nat × List Nat)) := .nil
noncomputable def d327 : FnD := ⟨bodyOf Tryz.f327, 13, [.cell 4 97, .tmp 5]⟩
def p327 : BT (List (Nat × List Nat)) := .nil
noncomputable def d328 : FnD := ⟨bodyOf Tryz.f328, 9, [.tmp 2]⟩
def p328 : BT (List (Nat × List Nat)) := .nil
noncomputable def d329 : FnD := ⟨bodyOf Tryz.f329, 25, [.cell 6 97]⟩
def p329 : BT (List (Nat × List Nat)) := (.node .nil 3 [(0, []), (1, []), (2, []), (3, []), (4, []), (5, []), (6, []), (7, []), (8, []), (9, [])] .nil)
noncomputable def d330 : FnD := ⟨bodyOf Tryz.f330, 38, []⟩
def p330 : BT (List (Nat × List Nat)) := (.node .nil 3 [(0, []), (1, []), (2, []), (3, []), (4, []), (5, []), (6, []), (7, []), (8, []), (9, []), (10, []), (11, []), (12, []), (13, []), (14, []), (15, []), (16, []), (17, []), (18, []), (19, []), (20, []), (21, [4, 5, 6, 7]), (22, []), (23, [])] .nil)
noncomputable def d331 : FnD := ⟨bodyOf Tryz.f331, 51, [.tmp 4, .tmp 5]⟩
def p331 : BT (List (Nat × List Nat)) := .nil
noncomputable def d332 : FnD := ⟨bodyOf Tryz.f332, 135, [.tmp 6, .tmp 7]⟩
def p332 : BT (List (Nat × List Nat)) := (.node .nil 6 [(0, []), (1, []), (2, []), (3, []), (4, []), (5, []), (6, []), (7, [])] .nil)
noncomputable def d333 : FnD := ⟨bodyOf Tryz.f333, 22, [.tmp 2, .tmp 3]⟩
def p333 : BT (List (Nat × List Nat)) := .nil
noncomputable def d334 : FnD := ⟨bodyOf Tryz.f334, 6, [.tmp 4]⟩
def p334 : BT (List (Nat × List Nat)) := .nil
noncomputable def d335 : FnD := ⟨bodyOf Tryz.f335, 6, [.tmp 2]⟩
def p335 : BT (List (Nat × List Nat)) := .nil
noncomputable def d336 : FnD := ⟨bodyOf Tryz.f336, 22, []⟩
def p336 : BT (List (Nat × List Nat)) := .nil
noncomputable def d371 : FnD := ⟨bodyOf Tryz.f371, 17, []⟩
def p371 : BT (List (Nat × List Nat)) := .nil
noncomputable def FT : BT FnD := (.node (.node (.node (.node (.node (.node (.node (.node (.node .nil 2 d2 .nil) 3 d3 .nil) 4 d4 (.node (.node .nil 5 d5 .nil) 6 d6 .nil)) 7 d7 (.node (.node (.node .nil 8 d8 .nil) 9 d9 .nil) 10 d10 (.node .nil 11 d11 .nil))) 12 d12 (.node (.node (.node (.node .nil 13 d13 .nil) 14 d14 .nil) 15 d15 (.node .nil 16 d16 .nil)) 17 d17 (.node (.node (.node .nil 18 d18 .nil) 19 d19 .nil) 20 d20 (.node .nil 21 d21 .nil)))) 22 d22 (.node (.node (.node (.node (.node .nil 23 d23 .nil) 24 d24 .nil) 25 d25 (.node (.node .nil 26 d26 .nil) 27 d27 .nil)) 28 d28 (.node (.node (.node .nil 29 d29 .nil) 30 d30 .nil) 31 d31 (.node .nil 32 d32 .nil))) 33 d33 (.node (.node (.node (.node .nil 34 d34 .nil) 35 d35 .nil) 36 d36 (.node .nil 37 d37 .nil)) 38 d38 (.node (.node (.node .nil 39 d39 .nil) 40 d40 .nil) 41 d41 (.node .nil 42 d42 .nil))))) 43 d43 (.node (.node (.node (.node (.node (.node .nil 44 d44 .nil) 45 d45 .nil) 46 d46 (.node (.node .nil 47 d47 .nil) 48 d48 .nil)) 49 d49 (.node (.node (.node .nil 50 d50 .nil) 51 d51 .nil) 52 d52 (.node .nil 53 d53 .nil))) 54 d54 (.node (.node (.node (.node .nil 55 d55 .nil) 56 d56 .nil) 57 d57 (.node .nil 58 d58 .nil)) 59 d59 (.node (.node (.node .nil 60 d60 .nil) 61 d61 .nil) 62 d62 (.node .nil 63 d63 .nil)))) 64 d64 (.node (.node (.node (.node (.node .nil 65 d65 .nil) 66 d66 .nil) 67 d67 (.node .nil 68 d68 .nil)) 69 d69 (.node (.node (.node .nil 70 d70 .nil) 71 d71 .nil) 72 d72 (.node .nil 73 d73 .nil))) 74 d74 (.node (.node (.node (.node .nil 75 d75 .nil) 76 d76 .nil) 77 d77 (.node .nil 78 d78 .nil)) 79 d79 (.node (.node (.node .nil 80 d80 .nil) 81 d81 .nil) 83 d83 (.node .nil 84 d84 .nil)))))) 85 d85 (.node (.node (.node (.node (.node (.node (.node .nil 86 d86 .nil) 87 d87 .nil) 88 d88 (.node (.node .nil 89 d89 .nil) 90 d90 .nil)) 91 d91 (.node (.node (.node .nil 92 d92 .nil) 93 d93 .nil) 94 d94 (.node .nil 95 d95 .nil))) 96 d96 (.node (.node (.node (.node .nil 97 d97 .nil) 98 d98 .nil) 99 d99 (.node .nil 100 d100 .nil)) 101 d101 (.node (.node (.node .nil 102 d102 .nil) 103 d103 .nil) 104 d104 (.node .nil 105 d105 .nil)))) 106 d106 (.node (.node (.node (.node (.node .nil 107 d107 .nil) 108 d108 .nil) 109 d109 (.node (.node .nil 110 d110 .nil) 111 d111 .nil)) 112 d112 (.node (.node (.node .nil 113 d113 .nil) 114 d114 .nil) 115 d115 (.node .nil 116 d116 .nil))) 117 d117 (.node (.node (.node (.node .nil 118 d118 .nil) 119 d119 .nil) 120 d120 (.node .nil 121 d121 .nil)) 122 d122 (.node (.node (.node .nil 123 d123 .nil) 124 d124 .nil) 125 d125 (.node .nil 126 d126 .nil))))) 127 d127 (.node (.node (.node (.node (.node (.node .nil 128 d128 .nil) 130 d130 .nil) 131 d131 (.node (.node .nil 132 d132 .nil) 133 d133 .nil)) 134 d134 (.node (.node (.node .nil 135 d135 .nil) 136 d136 .nil) 137 d137 (.node .nil 138 d138 .nil))) 139 d139 (.node (.node (.node (.node .nil 140 d140 .nil) 141 d141 .nil) 142 d142 (.node .nil 143 d143 .nil)) 144 d144 (.node (.node (.node .nil 145 d145 .nil) 146 d146 .nil) 147 d147 (.node .nil 148 d148 .nil)))) 149 d149 (.node (.node (.node (.node (.node .nil 152 d152 .nil) 153 d153 .nil) 154 d154 (.node .nil 155 d155 .nil)) 156 d156 (.node (.node (.node .nil 157 d157 .nil) 158 d158 .nil) 159 d159 (.node .nil 160 d160 .nil))) 161 d161 (.node (.node (.node (.node .nil 162 d162 .nil) 163 d163 .nil) 164 d164 (.node .nil 165 d165 .nil)) 166 d166 (.node (.node (.node .nil 167 d167 .nil) 168 d168 .nil) 169 d169 (.node .nil 170 d170 .nil))))))) 171 d171 (.node (.node (.node (.node (.node (.node (.node (.node .nil 172 d172 .nil) 173 d173 .nil) 174 d174 (.node (.node .nil 175 d175 .nil) 176 d176 .nil)) 177 d177 (.node (.node (.node .nil 178 d178 .nil) 179 d179 .nil) 180 d180 (.node .nil 181 d181 .nil))) 182 d182 (.node (.node (.node (.node .nil 183 d183 .nil) 184 d184 .nil) 185 d185 (.node .nil 187 d187 .nil)) 188 d188 (.node (.node (.node .nil 189 d189 .nil) 190 d190 .nil) 191 d191 (.node .nil 192 d192 .nil)))) 193 d193 (.node (.node (.node (.node (.node .nil 194 d194 .nil) 195 d195 .nil) 196 d196 (.node (.node .nil 197 d197 .nil) 198 d198 .nil)) 199 d199 (.node (.node (.node .nil 200 d200 .nil) 201 d201 .nil) 202 d202 (.node .nil 203 d203 .nil))) 204 d204 (.node (.node (.node (.node .nil 205 d205 .nil) 206 d206 .nil) 207 d207 (.node .nil 208 d208 .nil)) 209 d209 (.node (.node (.node .nil 210 d210 .nil) 211 d211 .nil) 212 d212 (.node .nil 213 d213 .nil))))) 214 d214 (.node (.node (.node (.node (.node (.node .nil 215 d215 .nil) 216 d216 .nil) 217 d217 (.node (.node .nil 218 d218 .nil) 219 d219 .nil)) 220 d220 (.node (.node (.node .nil 221 d221 .nil) 222 d222 .nil) 223 d223 (.node .nil 224 d224 .nil))) 225 d225 (.node (.node (.node (.node .nil 226 d226 .nil) 227 d227 .nil) 228 d228 (.node .nil 229 d229 .nil)) 230 d230 (.node (.node (.node .nil 231 d231 .nil) 232 d232 .nil) 233 d233 (.node .nil 234 d234 .nil)))) 235 d235 (.node (.node (.node (.node (.node .nil 236 d236 .nil) 237 d237 .nil) 238 d238 (.node .nil 239 d239 .nil)) 240 d240 (.node (.node (.node .nil 241 d241 .nil) 242 d242 .nil) 243 d243 (.node .nil 244 d244 .nil))) 245 d245 (.node (.node (.node (.node .nil 246 d246 .nil) 247 d247 .nil) 248 d248 (.node .nil 249 d249 .nil)) 250 d250 (.node (.node (.node .nil 251 d251 .nil) 252 d252 .nil) 253 d253 (.node .nil 254 d254 .nil)))))) 255 d255 (.node (.node (.node (.node (.node (.node (.node .nil 256 d256 .nil) 257 d257 .nil) 258 d258 (.node (.node .nil 259 d259 .nil) 260 d260 .nil)) 261 d261 (.node (.node (.node .nil 262 d262 .nil) 263 d263 .nil) 264 d264 (.node .nil 265 d265 .nil))) 266 d266 (.node (.node (.node (.node .nil 267 d267 .nil) 268 d268 .nil) 269 d269 (.node .nil 270 d270 .nil)) 271 d271 (.node (.node (.node .nil 272 d272 .nil) 273 d273 .nil) 274 d274 (.node .nil 275 d275 .nil)))) 276 d276 (.node (.node (.node (.node (.node .nil 277 d277 .nil) 278 d278 .nil) 279 d279 (.node (.node .nil 280 d280 .nil) 281 d281 .nil)) 282 d282 (.node (.node (.node .nil 283 d283 .nil) 284 d284 .nil) 285 d285 (.node .nil 286 d286 .nil))) 287 d287 (.node (.node (.node (.node .nil 288 d288 .nil) 289 d289 .nil) 290 d290 (.node .nil 291 d291 .nil)) 292 d292 (.node (.node (.node .nil 293 d293 .nil) 294 d294 .nil) 295 d295 (.node .nil 296 d296 .nil))))) 297 d297 (.node (.node (.node (.node (.node (.node .nil 298 d298 .nil) 299 d299 .nil) 300 d300 (.node (.node .nil 301 d301 .nil) 302 d302 .nil)) 303 d303 (.node (.node (.node .nil 304 d304 .nil) 305 d305 .nil) 306 d306 (.node .nil 307 d307 .nil))) 308 d308 (.node (.node (.node (.node .nil 309 d309 .nil) 310 d310 .nil) 311 d311 (.node .nil 312 d312 .nil)) 313 d313 (.node (.node (.node .nil 314 d314 .nil) 315 d315 .nil) 316 d316 (.node .nil 317 d317 .nil)))) 318 d318 (.node (.node (.node (.node (.node .nil 319 d319 .nil) 320 d320 .nil) 321 d321 (.node .nil 322 d322 .nil)) 323 d323 (.node (.node (.node .nil 324 d324 .nil) 325 d325 .nil) 326 d326 (.node .nil 327 d327 .nil))) 328 d328 (.node (.node (.node (.node .nil 329 d329 .nil) 330 d330 .nil) 331 d331 (.node .nil 332 d332 .nil)) 333 d333 (.node (.node (.node .nil 334 d334 .nil) 335 d335 .nil) 336 d336 (.node .nil 371 d371 .nil))))))))
noncomputable def fnT (f : FuncId) : Option FnD := FT.get f
def PT : BT (BT (List (Nat × List Nat))) := (.node (.node (.node (.node (.node (.node (.node (.node (.node .nil 2 p2 .nil) 3 p3 .nil) 4 p4 (.node (.node .nil 5 p5 .nil) 6 p6 .nil)) 7 p7 (.node (.node (.node .nil 8 p8 .nil) 9 p9 .nil) 10 p10 (.node .nil 11 p11 .nil))) 12 p12 (.node (.node (.node (.node .nil 13 p13 .nil) 14 p14 .nil) 15 p15 (.node .nil 16 p16 .nil)) 17 p17 (.node (.node (.node .nil 18 p18 .nil) 19 p19 .nil) 20 p20 (.node .nil 21 p21 .nil)))) 22 p22 (.node (.node (.node (.node (.node .nil 23 p23 .nil) 24 p24 .nil) 25 p25 (.node (.node .nil 26 p26 .nil) 27 p27 .nil)) 28 p28 (.node (.node (.node .nil 29 p29 .nil) 30 p30 .nil) 31 p31 (.node .nil 32 p32 .nil))) 33 p33 (.node (.node (.node (.node .nil 34 p34 .nil) 35 p35 .nil) 36 p36 (.node .nil 37 p37 .nil)) 38 p38 (.node (.node (.node .nil 39 p39 .nil) 40 p40 .nil) 41 p41 (.node .nil 42 p42 .nil))))) 43 p43 (.node (.node (.node (.node (.node (.node .nil 44 p44 .nil) 45 p45 .nil) 46 p46 (.node (.node .nil 47 p47 .nil) 48 p48 .nil)) 49 p49 (.node (.node (.node .nil 50 p50 .nil) 51 p51 .nil) 52 p52 (.node .nil 53 p53 .nil))) 54 p54 (.node (.node (.node (.node .nil 55 p55 .nil) 56 p56 .nil) 57 p57 (.node .nil 58 p58 .nil)) 59 p59 (.node (.node (.node .nil 60 p60 .nil) 61 p61 .nil) 62 p62 (.node .nil 63 p63 .nil)))) 64 p64 (.node (.node (.node (.node (.node .nil 65 p65 .nil) 66 p66 .nil) 67 p67 (.node .nil 68 p68 .nil)) 69 p69 (.node (.node (.node .nil 70 p70 .nil) 71 p71 .nil) 72 p72 (.node .nil 73 p73 .nil))) 74 p74 (.node (.node (.node (.node .nil 75 p75 .nil) 76 p76 .nil) 77 p77 (.node .nil 78 p78 .nil)) 79 p79 (.node (.node (.node .nil 80 p80 .nil) 81 p81 .nil) 83 p83 (.node .nil 84 p84 .nil)))))) 85 p85 (.node (.node (.node (.node (.node (.node (.node .nil 86 p86 .nil) 87 p87 .nil) 88 p88 (.node (.node .nil 89 p89 .nil) 90 p90 .nil)) 91 p91 (.node (.node (.node .nil 92 p92 .nil) 93 p93 .nil) 94 p94 (.node .nil 95 p95 .nil))) 96 p96 (.node (.node (.node (.node .nil 97 p97 .nil) 98 p98 .nil) 99 p99 (.node .nil 100 p100 .nil)) 101 p101 (.node (.node (.node .nil 102 p102 .nil) 103 p103 .nil) 104 p104 (.node .nil 105 p105 .nil)))) 106 p106 (.node (.node (.node (.node (.node .nil 107 p107 .nil) 108 p108 .nil) 109 p109 (.node (.node .nil 110 p110 .nil) 111 p111 .nil)) 112 p112 (.node (.node (.node .nil 113 p113 .nil) 114 p114 .nil) 115 p115 (.node .nil 116 p116 .nil))) 117 p117 (.node (.node (.node (.node .nil 118 p118 .nil) 119 p119 .nil) 120 p120 (.node .nil 121 p121 .nil)) 122 p122 (.node (.node (.node .nil 123 p123 .nil) 124 p124 .nil) 125 p125 (.node .nil 126 p126 .nil))))) 127 p127 (.node (.node (.node (.node (.node (.node .nil 128 p128 .nil) 130 p130 .nil) 131 p131 (.node (.node .nil 132 p132 .nil) 133 p133 .nil)) 134 p134 (.node (.node (.node .nil 135 p135 .nil) 136 p136 .nil) 137 p137 (.node .nil 138 p138 .nil))) 139 p139 (.node (.node (.node (.node .nil 140 p140 .nil) 141 p141 .nil) 142 p142 (.node .nil 143 p143 .nil)) 144 p144 (.node (.node (.node .nil 145 p145 .nil) 146 p146 .nil) 147 p147 (.node .nil 148 p148 .nil)))) 149 p149 (.node (.node (.node (.node (.node .nil 152 p152 .nil) 153 p153 .nil) 154 p154 (.node .nil 155 p155 .nil)) 156 p156 (.node (.node (.node .nil 157 p157 .nil) 158 p158 .nil) 159 p159 (.node .nil 160 p160 .nil))) 161 p161 (.node (.node (.node (.node .nil 162 p162 .nil) 163 p163 .nil) 164 p164 (.node .nil 165 p165 .nil)) 166 p166 (.node (.node (.node .nil 167 p167 .nil) 168 p168 .nil) 169 p169 (.node .nil 170 p170 .nil))))))) 171 p171 (.node (.node (.node (.node (.node (.node (.node (.node .nil 172 p172 .nil) 173 p173 .nil) 174 p174 (.node (.node .nil 175 p175 .nil) 176 p176 .nil)) 177 p177 (.node (.node (.node .nil 178 p178 .nil) 179 p179 .nil) 180 p180 (.node .nil 181 p181 .nil))) 182 p182 (.node (.node (.node (.node .nil 183 p183 .nil) 184 p184 .nil) 185 p185 (.node .nil 187 p187 .nil)) 188 p188 (.node (.node (.node .nil 189 p189 .nil) 190 p190 .nil) 191 p191 (.node .nil 192 p192 .nil)))) 193 p193 (.node (.node (.node (.node (.node .nil 194 p194 .nil) 195 p195 .nil) 196 p196 (.node (.node .nil 197 p197 .nil) 198 p198 .nil)) 199 p199 (.node (.node (.node .nil 200 p200 .nil) 201 p201 .nil) 202 p202 (.node .nil 203 p203 .nil))) 204 p204 (.node (.node (.node (.node .nil 205 p205 .nil) 206 p206 .nil) 207 p207 (.node .nil 208 p208 .nil)) 209 p209 (.node (.node (.node .nil 210 p210 .nil) 211 p211 .nil) 212 p212 (.node .nil 213 p213 .nil))))) 214 p214 (.node (.node (.node (.node (.node (.node .nil 215 p215 .nil) 216 p216 .nil) 217 p217 (.node (.node .nil 218 p218 .nil) 219 p219 .nil)) 220 p220 (.node (.node (.node .nil 221 p221 .nil) 222 p222 .nil) 223 p223 (.node .nil 224 p224 .nil))) 225 p225 (.node (.node (.node (.node .nil 226 p226 .nil) 227 p227 .nil) 228 p228 (.node .nil 229 p229 .nil)) 230 p230 (.node (.node (.node .nil 231 p231 .nil) 232 p232 .nil) 233 p233 (.node .nil 234 p234 .nil)))) 235 p235 (.node (.node (.node (.node (.node .nil 236 p236 .nil) 237 p237 .nil) 238 p238 (.node .nil 239 p239 .nil)) 240 p240 (.node (.node (.node .nil 241 p241 .nil) 242 p242 .nil) 243 p243 (.node .nil 244 p244 .nil))) 245 p245 (.node (.node (.node (.node .nil 246 p246 .nil) 247 p247 .nil) 248 p248 (.node .nil 249 p249 .nil)) 250 p250 (.node (.node (.node .nil 251 p251 .nil) 252 p252 .nil) 253 p253 (.node .nil 254 p254 .nil)))))) 255 p255 (.node (.node (.node (.node (.node (.node (.node .nil 256 p256 .nil) 257 p257 .nil) 258 p258 (.node (.node .nil 259 p259 .nil) 260 p260 .nil)) 261 p261 (.node (.node (.node .nil 262 p262 .nil) 263 p263 .nil) 264 p264 (.node .nil 265 p265 .nil))) 266 p266 (.node (.node (.node (.node .nil 267 p267 .nil) 268 p268 .nil) 269 p269 (.node .nil 270 p270 .nil)) 271 p271 (.node (.node (.node .nil 272 p272 .nil) 273 p273 .nil) 274 p274 (.node .nil 275 p275 .nil)))) 276 p276 (.node (.node (.node (.node (.node .nil 277 p277 .nil) 278 p278 .nil) 279 p279 (.node (.node .nil 280 p280 .nil) 281 p281 .nil)) 282 p282 (.node (.node (.node .nil 283 p283 .nil) 284 p284 .nil) 285 p285 (.node .nil 286 p286 .nil))) 287 p287 (.node (.node (.node (.node .nil 288 p288 .nil) 289 p289 .nil) 290 p290 (.node .nil 291 p291 .nil)) 292 p292 (.node (.node (.node .nil 293 p293 .nil) 294 p294 .nil) 295 p295 (.node .nil 296 p296 .nil))))) 297 p297 (.node (.node (.node (.node (.node (.node .nil 298 p298 .nil) 299 p299 .nil) 300 p300 (.node (.node .nil 301 p301 .nil) 302 p302 .nil)) 303 p303 (.node (.node (.node .nil 304 p304 .nil) 305 p305 .nil) 306 p306 (.node .nil 307 p307 .nil))) 308 p308 (.node (.node (.node (.node .nil 309 p309 .nil) 310 p310 .nil) 311 p311 (.node .nil 312 p312 .nil)) 313 p313 (.node (.node (.node .nil 314 p314 .nil) 315 p315 .nil) 316 p316 (.node .nil 317 p317 .nil)))) 318 p318 (.node (.node (.node (.node (.node .nil 319 p319 .nil) 320 p320 .nil) 321 p321 (.node .nil 322 p322 .nil)) 323 p323 (.node (.node (.node .nil 324 p324 .nil) 325 p325 .nil) 326 p326 (.node .nil 327 p327 .nil))) 328 p328 (.node (.node (.node (.node .nil 329 p329 .nil) 330 p330 .nil) 331 p331 (.node .nil 332 p332 .nil)) 333 p333 (.node (.node (.node .nil 334 p334 .nil) 335 p335 .nil) 336 p336 (.node .nil 371 p371 .nil))))))))
def plT (f : FuncId) (id : Nat) : List (Nat × List Nat) := match PT.get f with | some x => (x.get id).getD [] | none => []
-- bad: []
end Go.Rm
end

section
/- ScriptWords: the run of shown(). -/
namespace Go.Rm
open Go.Proofs

def extW (g : FuncId) (args : List AV) : Option AV :=
  match args with
  | [.v (.string b), .v (.int .u8 c)] => bif Nat.beq g 82 then some (.v (.int .i64 (Lib.countByte b.data.toList c.toNat.toUInt8))) else bif Nat.beq g 186 then some (.v (.int .i64 (Lib.indexByte b.data.toList c.toNat.toUInt8))) else none
  | _ => none

def allStr : List (List AV) → Option (List ByteArray)
  | [] => some []
  | [.v (.string b)] :: r => match allStr r with
    | some l => some (b :: l)
    | none => none
  | _ => none

def joinX : CallX := fun g args H => bif Nat.beq g 43 then match args with
    | [.hnd n, .v (.string sep)] => match H[n]? with
      | some (.row sz xs) => bif Nat.beq sz 1 then match allStr xs with
        | some l => bif Nat.ble l.length 140737488355328 && Nat.ble (Lib.join (l.map (·.data.toList)) sep.data.toList).length 140737488355328 then some (.v (.string ⟨(Lib.join (l.map (·.data.toList)) sep.data.toList).toArray⟩), H) else none
        | none => none
        else none
      | _ => none
    | [.v (.slice none 0 0), .v (.string _)] => some (.v (.string ⟨#[]⟩), H)
    | _ => none
  else none

noncomputable def E : Env := ⟨Tryz.prog, 0, fun _ => True, fun _ _ => none, D, extW⟩

set_option maxRecDepth 100000 in
theorem t1 : (match callT E fnT plT joinX 24 40 4 [] [] with | some (.v (.bool b), _) => b | _ => false) = true := by kernel_rfl
end Go.Rm
end

section
/- ScriptWords: the tables are right. -/
namespace Go.Rm
open Go.Proofs
set_option maxRecDepth 100000
theorem tdAll : DT.allB (fun t d => tdB Tryz.prog t d && !d.beq) = true := by kernel_rfl

theorem td_ok {T : TypeId} {d : TD} (h : D T = some d) : TDok Tryz.prog T d ∧ d.beq = false := by
  have := BT.allB_get tdAll h
  simp only [Bool.and_eq_true, Bool.not_eq_true'] at this
  exact ⟨tdB_ok this.1, this.2⟩

theorem okE0 (hext : ∀ g args x, extW g args = some x → (∀ m, x.lt m = true) ∧ ∀ (ρ : Nat → Hnd) (w : World), (callFunc g (AV.vals ρ args).toArray).run Tryz.prog w = .ok (.value (x.val ρ)) w)
    (f : FuncId) (N k0 : Nat) (res : List ResultVar) (Q : AV → List Chunk → Prop) : CfgOk (E.cfg f N k0 res Q) where
  D T d h := (td_ok h).1
  beq T d h hb := by rw [(td_ok h).2] at hb; simp at hb
  key T d h hb := by rw [(td_ok h).2] at hb; simp at hb
  gl _ _ _ _ _ _ _ := trivial
  glob _ _ _ _ _ h := by simp [Env.cfg, E] at h
  mixed := by kernel_rfl
  ext := hext

theorem extW_ok (g : FuncId) (args : List AV) (x : AV) (h : extW g args = some x) : (∀ m, x.lt m = true) ∧ ∀ (ρ : Nat → Hnd) (w : World), (callFunc g (AV.vals ρ args).toArray).run Tryz.prog w = .ok (.value (x.val ρ)) w := by
  unfold extW at h
  split at h
  · rename_i b c
    simp only [cond_eq_ite] at h
    split at h
    · rename_i hg
      cases h
      rw [Nat.eq_of_beq_eq_true hg]
      refine ⟨fun m => by simp [AV.lt], fun ρ w => ?_⟩
      rw [run_callFunc_extern (e := Extern.BytealgCount.count) Tryz.func82 (by rfl) (by rfl) (by rfl) (by rfl)]
      simp only [AV.vals, AV.val, Lib.run_countString, Result.andThen_ok]
    · split at h
      · rename_i hg
        cases h
        rw [Nat.eq_of_beq_eq_true hg]
        refine ⟨fun m => by simp [AV.lt], fun ρ w => ?_⟩
        rw [run_callFunc_extern (e := Extern.BytealgIndexByte.indexByte) Tryz.func186 (by rfl) (by rfl) (by rfl) (by rfl)]
        simp only [AV.vals, AV.val, Lib.run_indexByteString, Result.andThen_ok]
      · simp at h
  · simp at h

theorem okE (f : FuncId) (N k0 : Nat) (res : List ResultVar) (Q : AV → List Chunk → Prop) : CfgOk (E.cfg f N k0 res Q) := okE0 extW_ok f N k0 res Q
end Go.Rm
end

section
/- Printed: each function's row of the table is right. -/
namespace Go.Rm
open Go.Proofs
set_option maxRecDepth 100000
theorem e2 : Entry E 2 d2 (plT 2) := ⟨⟨Tryz.f2, Tryz.func2, rfl, Tryz.ntmps2, congrArg Array.toList Tryz.results2⟩, Tryz.call2, by kernel_rfl⟩
theorem e3 : Entry E 3 d3 (plT 3) := ⟨⟨Tryz.f3, Tryz.func3, rfl, Tryz.ntmps3, congrArg Array.toList Tryz.results3⟩, Tryz.call3, by kernel_rfl⟩
theorem e4 : Entry E 4 d4 (plT 4) := ⟨⟨Tryz.f4, Tryz.func4, rfl, Tryz.ntmps4, congrArg Array.toList Tryz.results4⟩, Tryz.call4, by kernel_rfl⟩
theorem e5 : Entry E 5 d5 (plT 5) := ⟨⟨Tryz.f5, Tryz.func5, rfl, Tryz.ntmps5, congrArg Array.toList Tryz.results5⟩, Tryz.call5, by kernel_rfl⟩
theorem e6 : Entry E 6 d6 (plT 6) := ⟨⟨Tryz.f6, Tryz.func6, rfl, Tryz.ntmps6, congrArg Array.toList Tryz.results6⟩, Tryz.call6, by kernel_rfl⟩
theorem e7 : Entry E 7 d7 (plT 7) := ⟨⟨Tryz.f7, Tryz.func7, rfl, Tryz.ntmps7, congrArg Array.toList Tryz.results7⟩, Tryz.call7, by kernel_rfl⟩
theorem e8 : Entry E 8 d8 (plT 8) := ⟨⟨Tryz.f8, Tryz.func8, rfl, Tryz.ntmps8, congrArg Array.toList Tryz.results8⟩, Tryz.call8, by kernel_rfl⟩
theorem e9 : Entry E 9 d9 (plT 9) := ⟨⟨Tryz.f9, Tryz.func9, rfl, Tryz.ntmps9, congrArg Array.toList Tryz.results9⟩, Tryz.call9, by kernel_rfl⟩
theorem e10 : Entry E 10 d10 (plT 10) := ⟨⟨Tryz.f10, Tryz.func10, rfl, Tryz.ntmps10, congrArg Array.toList Tryz.results10⟩, Tryz.call10, by kernel_rfl⟩
theorem e11 : Entry E 11 d11 (plT 11) := ⟨⟨Tryz.f11, Tryz.func11, rfl, Tryz.ntmps11, congrArg Array.toList Tryz.results11⟩, Tryz.call11, by kernel_rfl⟩
theorem e12 : Entry E 12 d12 (plT 12) := ⟨⟨Tryz.f12, Tryz.func12, rfl, Tryz.ntmps12, congrArg Array.toList Tryz.results12⟩, Tryz.call12, by kernel_rfl⟩
theorem e13 : Entry E 13 d13 (plT 13) := ⟨⟨Tryz.f13, Tryz.func13, rfl, Tryz.ntmps13, congrArg Array.toList Tryz.results13⟩, Tryz.call13, by kernel_rfl⟩
theorem e14 : Entry E 14 d14 (plT 14) := ⟨⟨Tryz.f14, Tryz.func14, rfl, Tryz.ntmps14, congrArg Array.toList Tryz.results14⟩, Tryz.call14, by kernel_rfl⟩
theorem e15 : Entry E 15 d15 (plT 15) := ⟨⟨Tryz.f15, Tryz.func15, rfl, Tryz.ntmps15, congrArg Array.toList Tryz.results15⟩, Tryz.call15, by kernel_rfl⟩
theorem e16 : Entry E 16 d16 (plT 16) := ⟨⟨Tryz.f16, Tryz.func16, rfl, Tryz.ntmps16, congrArg Array.toList Tryz.results16⟩, Tryz.call16, by kernel_rfl⟩
theorem e17 : Entry E 17 d17 (plT 17) := ⟨⟨Tryz.f17, Tryz.func17, rfl, Tryz.ntmps17, congrArg Array.toList Tryz.results17⟩, Tryz.call17, by kernel_rfl⟩
theorem e18 : Entry E 18 d18 (plT 18) := ⟨⟨Tryz.f18, Tryz.func18, rfl, Tryz.ntmps18, congrArg Array.toList Tryz.results18⟩, Tryz.call18, by kernel_rfl⟩
theorem e19 : Entry E 19 d19 (plT 19) := ⟨⟨Tryz.f19, Tryz.func19, rfl, Tryz.ntmps19, congrArg Array.toList Tryz.results19⟩, Tryz.call19, by kernel_rfl⟩
theorem e20 : Entry E 20 d20 (plT 20) := ⟨⟨Tryz.f20, Tryz.func20, rfl, Tryz.ntmps20, congrArg Array.toList Tryz.results20⟩, Tryz.call20, by kernel_rfl⟩
theorem e21 : Entry E 21 d21 (plT 21) := ⟨⟨Tryz.f21, Tryz.func21, rfl, Tryz.ntmps21, congrArg Array.toList Tryz.results21⟩, Tryz.call21, by kernel_rfl⟩
theorem e22 : Entry E 22 d22 (plT 22) := ⟨⟨Tryz.f22, Tryz.func22, rfl, Tryz.ntmps22, congrArg Array.toList Tryz.results22⟩, Tryz.call22, by kernel_rfl⟩
theorem e23 : Entry E 23 d23 (plT 23) := ⟨⟨Tryz.f23, Tryz.func23, rfl, Tryz.ntmps23, congrArg Array.toList Tryz.results23⟩, Tryz.call23, by kernel_rfl⟩
theorem e24 : Entry E 24 d24 (plT 24) := ⟨⟨Tryz.f24, Tryz.func24, rfl, Tryz.ntmps24, congrArg Array.toList Tryz.results24⟩, Tryz.call24, by kernel_rfl⟩
theorem e25 : Entry E 25 d25 (plT 25) := ⟨⟨Tryz.f25, Tryz.func25, rfl, Tryz.ntmps25, congrArg Array.toList Tryz.results25⟩, Tryz.call25, by kernel_rfl⟩
theorem e26 : Entry E 26 d26 (plT 26) := ⟨⟨Tryz.f26, Tryz.func26, rfl, Tryz.ntmps26, congrArg Array.toList Tryz.results26⟩, Tryz.call26, by kernel_rfl⟩
theorem e27 : Entry E 27 d27 (plT 27) := ⟨⟨Tryz.f27, Tryz.func27, rfl, Tryz.ntmps27, congrArg Array.toList Tryz.results27⟩, Tryz.call27, by kernel_rfl⟩
theorem e28 : Entry E 28 d28 (plT 28) := ⟨⟨Tryz.f28, Tryz.func28, rfl, Tryz.ntmps28, congrArg Array.toList Tryz.results28⟩, Tryz.call28, by kernel_rfl⟩
theorem e29 : Entry E 29 d29 (plT 29) := ⟨⟨Tryz.f29, Tryz.func29, rfl, Tryz.ntmps29, congrArg Array.toList Tryz.results29⟩, Tryz.call29, by kernel_rfl⟩
theorem e30 : Entry E 30 d30 (plT 30) := ⟨⟨Tryz.f30, Tryz.func30, rfl, Tryz.ntmps30, congrArg Array.toList Tryz.results30⟩, Tryz.call30, by kernel_rfl⟩
theorem e31 : Entry E 31 d31 (plT 31) := ⟨⟨Tryz.f31, Tryz.func31, rfl, Tryz.ntmps31, congrArg Array.toList Tryz.results31⟩, Tryz.call31, by kernel_rfl⟩
theorem e32 : Entry E 32 d32 (plT 32) := ⟨⟨Tryz.f32, Tryz.func32, rfl, Tryz.ntmps32, congrArg Array.toList Tryz.results32⟩, Tryz.call32, by kernel_rfl⟩
theorem e33 : Entry E 33 d33 (plT 33) := ⟨⟨Tryz.f33, Tryz.func33, rfl, Tryz.ntmps33, congrArg Array.toList Tryz.results33⟩, Tryz.call33, by kernel_rfl⟩
theorem e34 : Entry E 34 d34 (plT 34) := ⟨⟨Tryz.f34, Tryz.func34, rfl, Tryz.ntmps34, congrArg Array.toList Tryz.results34⟩, Tryz.call34, by kernel_rfl⟩
theorem e35 : Entry E 35 d35 (plT 35) := ⟨⟨Tryz.f35, Tryz.func35, rfl, Tryz.ntmps35, congrArg Array.toList Tryz.results35⟩, Tryz.call35, by kernel_rfl⟩
theorem e36 : Entry E 36 d36 (plT 36) := ⟨⟨Tryz.f36, Tryz.func36, rfl, Tryz.ntmps36, congrArg Array.toList Tryz.results36⟩, Tryz.call36, by kernel_rfl⟩
theorem e37 : Entry E 37 d37 (plT 37) := ⟨⟨Tryz.f37, Tryz.func37, rfl, Tryz.ntmps37, congrArg Array.toList Tryz.results37⟩, Tryz.call37, by kernel_rfl⟩
theorem e38 : Entry E 38 d38 (plT 38) := ⟨⟨Tryz.f38, Tryz.func38, rfl, Tryz.ntmps38, congrArg Array.toList Tryz.results38⟩, Tryz.call38, by kernel_rfl⟩
theorem e39 : Entry E 39 d39 (plT 39) := ⟨⟨Tryz.f39, Tryz.func39, rfl, Tryz.ntmps39, congrArg Array.toList Tryz.results39⟩, Tryz.call39, by kernel_rfl⟩
theorem e40 : Entry E 40 d40 (plT 40) := ⟨⟨Tryz.f40, Tryz.func40, rfl, Tryz.ntmps40, congrArg Array.toList Tryz.results40⟩, Tryz.call40, by kernel_rfl⟩
theorem e41 : Entry E 41 d41 (plT 41) := ⟨⟨Tryz.f41, Tryz.func41, rfl, Tryz.ntmps41, congrArg Array.toList Tryz.results41⟩, Tryz.call41, by kernel_rfl⟩
theorem e42 : Entry E 42 d42 (plT 42) := ⟨⟨Tryz.f42, Tryz.func42, rfl, Tryz.ntmps42, congrArg Array.toList Tryz.results42⟩, Tryz.call42, by kernel_rfl⟩
theorem e43 : Entry E 43 d43 (plT 43) := ⟨⟨Tryz.f43, Tryz.func43, rfl, Tryz.ntmps43, congrArg Array.toList Tryz.results43⟩, Tryz.call43, by kernel_rfl⟩
theorem e44 : Entry E 44 d44 (plT 44) := ⟨⟨Tryz.f44, Tryz.func44, rfl, Tryz.ntmps44, congrArg Array.toList Tryz.results44⟩, Tryz.call44, by kernel_rfl⟩
theorem e45 : Entry E 45 d45 (plT 45) := ⟨⟨Tryz.f45, Tryz.func45, rfl, Tryz.ntmps45, congrArg Array.toList Tryz.results45⟩, Tryz.call45, by kernel_rfl⟩
theorem e46 : Entry E 46 d46 (plT 46) := ⟨⟨Tryz.f46, Tryz.func46, rfl, Tryz.ntmps46, congrArg Array.toList Tryz.results46⟩, Tryz.call46, by kernel_rfl⟩
theorem e47 : Entry E 47 d47 (plT 47) := ⟨⟨Tryz.f47, Tryz.func47, rfl, Tryz.ntmps47, congrArg Array.toList Tryz.results47⟩, Tryz.call47, by kernel_rfl⟩
theorem e48 : Entry E 48 d48 (plT 48) := ⟨⟨Tryz.f48, Tryz.func48, rfl, Tryz.ntmps48, congrArg Array.toList Tryz.results48⟩, Tryz.call48, by kernel_rfl⟩
theorem e49 : Entry E 49 d49 (plT 49) := ⟨⟨Tryz.f49, Tryz.func49, rfl, Tryz.ntmps49, congrArg Array.toList Tryz.results49⟩, Tryz.call49, by kernel_rfl⟩
theorem e50 : Entry E 50 d50 (plT 50) := ⟨⟨Tryz.f50, Tryz.func50, rfl, Tryz.ntmps50, congrArg Array.toList Tryz.results50⟩, Tryz.call50, by kernel_rfl⟩
theorem e51 : Entry E 51 d51 (plT 51) := ⟨⟨Tryz.f51, Tryz.func51, rfl, Tryz.ntmps51, congrArg Array.toList Tryz.results51⟩, Tryz.call51, by kernel_rfl⟩
theorem e52 : Entry E 52 d52 (plT 52) := ⟨⟨Tryz.f52, Tryz.func52, rfl, Tryz.ntmps52, congrArg Array.toList Tryz.results52⟩, Tryz.call52, by kernel_rfl⟩
theorem e53 : Entry E 53 d53 (plT 53) := ⟨⟨Tryz.f53, Tryz.func53, rfl, Tryz.ntmps53, congrArg Array.toList Tryz.results53⟩, Tryz.call53, by kernel_rfl⟩
theorem e54 : Entry E 54 d54 (plT 54) := ⟨⟨Tryz.f54, Tryz.func54, rfl, Tryz.ntmps54, congrArg Array.toList Tryz.results54⟩, Tryz.call54, by kernel_rfl⟩
theorem e55 : Entry E 55 d55 (plT 55) := ⟨⟨Tryz.f55, Tryz.func55, rfl, Tryz.ntmps55, congrArg Array.toList Tryz.results55⟩, Tryz.call55, by kernel_rfl⟩
theorem e56 : Entry E 56 d56 (plT 56) := ⟨⟨Tryz.f56, Tryz.func56, rfl, Tryz.ntmps56, congrArg Array.toList Tryz.results56⟩, Tryz.call56, by kernel_rfl⟩
theorem e57 : Entry E 57 d57 (plT 57) := ⟨⟨Tryz.f57, Tryz.func57, rfl, Tryz.ntmps57, congrArg Array.toList Tryz.results57⟩, Tryz.call57, by kernel_rfl⟩
theorem e58 : Entry E 58 d58 (plT 58) := ⟨⟨Tryz.f58, Tryz.func58, rfl, Tryz.ntmps58, congrArg Array.toList Tryz.results58⟩, Tryz.call58, by kernel_rfl⟩
theorem e59 : Entry E 59 d59 (plT 59) := ⟨⟨Tryz.f59, Tryz.func59, rfl, Tryz.ntmps59, congrArg Array.toList Tryz.results59⟩, Tryz.call59, by kernel_rfl⟩
theorem e60 : Entry E 60 d60 (plT 60) := ⟨⟨Tryz.f60, Tryz.func60, rfl, Tryz.ntmps60, congrArg Array.toList Tryz.results60⟩, Tryz.call60, by kernel_rfl⟩
theorem e61 : Entry E 61 d61 (plT 61) := ⟨⟨Tryz.f61, Tryz.func61, rfl, Tryz.ntmps61, congrArg Array.toList Tryz.results61⟩, Tryz.call61, by kernel_rfl⟩
theorem e62 : Entry E 62 d62 (plT 62) := ⟨⟨Tryz.f62, Tryz.func62, rfl, Tryz.ntmps62, congrArg Array.toList Tryz.results62⟩, Tryz.call62, by kernel_rfl⟩
theorem e63 : Entry E 63 d63 (plT 63) := ⟨⟨Tryz.f63, Tryz.func63, rfl, Tryz.ntmps63, congrArg Array.toList Tryz.results63⟩, Tryz.call63, by kernel_rfl⟩
theorem e64 : Entry E 64 d64 (plT 64) := ⟨⟨Tryz.f64, Tryz.func64, rfl, Tryz.ntmps64, congrArg Array.toList Tryz.results64⟩, Tryz.call64, by kernel_rfl⟩
theorem e65 : Entry E 65 d65 (plT 65) := ⟨⟨Tryz.f65, Tryz.func65, rfl, Tryz.ntmps65, congrArg Array.toList Tryz.results65⟩, Tryz.call65, by kernel_rfl⟩
theorem e66 : Entry E 66 d66 (plT 66) := ⟨⟨Tryz.f66, Tryz.func66, rfl, Tryz.ntmps66, congrArg Array.toList Tryz.results66⟩, Tryz.call66, by kernel_rfl⟩
theorem e67 : Entry E 67 d67 (plT 67) := ⟨⟨Tryz.f67, Tryz.func67, rfl, Tryz.ntmps67, congrArg Array.toList Tryz.results67⟩, Tryz.call67, by kernel_rfl⟩
theorem e68 : Entry E 68 d68 (plT 68) := ⟨⟨Tryz.f68, Tryz.func68, rfl, Tryz.ntmps68, congrArg Array.toList Tryz.results68⟩, Tryz.call68, by kernel_rfl⟩
theorem e69 : Entry E 69 d69 (plT 69) := ⟨⟨Tryz.f69, Tryz.func69, rfl, Tryz.ntmps69, congrArg Array.toList Tryz.results69⟩, Tryz.call69, by kernel_rfl⟩
theorem e70 : Entry E 70 d70 (plT 70) := ⟨⟨Tryz.f70, Tryz.func70, rfl, Tryz.ntmps70, congrArg Array.toList Tryz.results70⟩, Tryz.call70, by kernel_rfl⟩
theorem e71 : Entry E 71 d71 (plT 71) := ⟨⟨Tryz.f71, Tryz.func71, rfl, Tryz.ntmps71, congrArg Array.toList Tryz.results71⟩, Tryz.call71, by kernel_rfl⟩
theorem e72 : Entry E 72 d72 (plT 72) := ⟨⟨Tryz.f72, Tryz.func72, rfl, Tryz.ntmps72, congrArg Array.toList Tryz.results72⟩, Tryz.call72, by kernel_rfl⟩
theorem e73 : Entry E 73 d73 (plT 73) := ⟨⟨Tryz.f73, Tryz.func73, rfl, Tryz.ntmps73, congrArg Array.toList Tryz.results73⟩, Tryz.call73, by kernel_rfl⟩
theorem e74 : Entry E 74 d74 (plT 74) := ⟨⟨Tryz.f74, Tryz.func74, rfl, Tryz.ntmps74, congrArg Array.toList Tryz.results74⟩, Tryz.call74, by kernel_rfl⟩
theorem e75 : Entry E 75 d75 (plT 75) := ⟨⟨Tryz.f75, Tryz.func75, rfl, Tryz.ntmps75, congrArg Array.toList Tryz.results75⟩, Tryz.call75, by kernel_rfl⟩
theorem e76 : Entry E 76 d76 (plT 76) := ⟨⟨Tryz.f76, Tryz.func76, rfl, Tryz.ntmps76, congrArg Array.toList Tryz.results76⟩, Tryz.call76, by kernel_rfl⟩
theorem e77 : Entry E 77 d77 (plT 77) := ⟨⟨Tryz.f77, Tryz.func77, rfl, Tryz.ntmps77, congrArg Array.toList Tryz.results77⟩, Tryz.call77, by kernel_rfl⟩
theorem e78 : Entry E 78 d78 (plT 78) := ⟨⟨Tryz.f78, Tryz.func78, rfl, Tryz.ntmps78, congrArg Array.toList Tryz.results78⟩, Tryz.call78, by kernel_rfl⟩
theorem e79 : Entry E 79 d79 (plT 79) := ⟨⟨Tryz.f79, Tryz.func79, rfl, Tryz.ntmps79, congrArg Array.toList Tryz.results79⟩, Tryz.call79, by kernel_rfl⟩
theorem e80 : Entry E 80 d80 (plT 80) := ⟨⟨Tryz.f80, Tryz.func80, rfl, Tryz.ntmps80, congrArg Array.toList Tryz.results80⟩, Tryz.call80, by kernel_rfl⟩
theorem e81 : Entry E 81 d81 (plT 81) := ⟨⟨Tryz.f81, Tryz.func81, rfl, Tryz.ntmps81, congrArg Array.toList Tryz.results81⟩, Tryz.call81, by kernel_rfl⟩
theorem e83 : Entry E 83 d83 (plT 83) := ⟨⟨Tryz.f83, Tryz.func83, rfl, Tryz.ntmps83, congrArg Array.toList Tryz.results83⟩, Tryz.call83, by kernel_rfl⟩
theorem e84 : Entry E 84 d84 (plT 84) := ⟨⟨Tryz.f84, Tryz.func84, rfl, Tryz.ntmps84, congrArg Array.toList Tryz.results84⟩, Tryz.call84, by kernel_rfl⟩
theorem e85 : Entry E 85 d85 (plT 85) := ⟨⟨Tryz.f85, Tryz.func85, rfl, Tryz.ntmps85, congrArg Array.toList Tryz.results85⟩, Tryz.call85, by kernel_rfl⟩
theorem e86 : Entry E 86 d86 (plT 86) := ⟨⟨Tryz.f86, Tryz.func86, rfl, Tryz.ntmps86, congrArg Array.toList Tryz.results86⟩, Tryz.call86, by kernel_rfl⟩
theorem e87 : Entry E 87 d87 (plT 87) := ⟨⟨Tryz.f87, Tryz.func87, rfl, Tryz.ntmps87, congrArg Array.toList Tryz.results87⟩, Tryz.call87, by kernel_rfl⟩
theorem e88 : Entry E 88 d88 (plT 88) := ⟨⟨Tryz.f88, Tryz.func88, rfl, Tryz.ntmps88, congrArg Array.toList Tryz.results88⟩, Tryz.call88, by kernel_rfl⟩
theorem e89 : Entry E 89 d89 (plT 89) := ⟨⟨Tryz.f89, Tryz.func89, rfl, Tryz.ntmps89, congrArg Array.toList Tryz.results89⟩, Tryz.call89, by kernel_rfl⟩
theorem e90 : Entry E 90 d90 (plT 90) := ⟨⟨Tryz.f90, Tryz.func90, rfl, Tryz.ntmps90, congrArg Array.toList Tryz.results90⟩, Tryz.call90, by kernel_rfl⟩
theorem e91 : Entry E 91 d91 (plT 91) := ⟨⟨Tryz.f91, Tryz.func91, rfl, Tryz.ntmps91, congrArg Array.toList Tryz.results91⟩, Tryz.call91, by kernel_rfl⟩
theorem e92 : Entry E 92 d92 (plT 92) := ⟨⟨Tryz.f92, Tryz.func92, rfl, Tryz.ntmps92, congrArg Array.toList Tryz.results92⟩, Tryz.call92, by kernel_rfl⟩
theorem e93 : Entry E 93 d93 (plT 93) := ⟨⟨Tryz.f93, Tryz.func93, rfl, Tryz.ntmps93, congrArg Array.toList Tryz.results93⟩, Tryz.call93, by kernel_rfl⟩
theorem e94 : Entry E 94 d94 (plT 94) := ⟨⟨Tryz.f94, Tryz.func94, rfl, Tryz.ntmps94, congrArg Array.toList Tryz.results94⟩, Tryz.call94, by kernel_rfl⟩
theorem e95 : Entry E 95 d95 (plT 95) := ⟨⟨Tryz.f95, Tryz.func95, rfl, Tryz.ntmps95, congrArg Array.toList Tryz.results95⟩, Tryz.call95, by kernel_rfl⟩
theorem e96 : Entry E 96 d96 (plT 96) := ⟨⟨Tryz.f96, Tryz.func96, rfl, Tryz.ntmps96, congrArg Array.toList Tryz.results96⟩, Tryz.call96, by kernel_rfl⟩
theorem e97 : Entry E 97 d97 (plT 97) := ⟨⟨Tryz.f97, Tryz.func97, rfl, Tryz.ntmps97, congrArg Array.toList Tryz.results97⟩, Tryz.call97, by kernel_rfl⟩
theorem e98 : Entry E 98 d98 (plT 98) := ⟨⟨Tryz.f98, Tryz.func98, rfl, Tryz.ntmps98, congrArg Array.toList Tryz.results98⟩, Tryz.call98, by kernel_rfl⟩
theorem e99 : Entry E 99 d99 (plT 99) := ⟨⟨Tryz.f99, Tryz.func99, rfl, Tryz.ntmps99, congrArg Array.toList Tryz.results99⟩, Tryz.call99, by kernel_rfl⟩
theorem e100 : Entry E 100 d100 (plT 100) := ⟨⟨Tryz.f100, Tryz.func100, rfl, Tryz.ntmps100, congrArg Array.toList Tryz.results100⟩, Tryz.call100, by kernel_rfl⟩
theorem e101 : Entry E 101 d101 (plT 101) := ⟨⟨Tryz.f101, Tryz.func101, rfl, Tryz.ntmps101, congrArg Array.toList Tryz.results101⟩, Tryz.call101, by kernel_rfl⟩
theorem e102 : Entry E 102 d102 (plT 102) := ⟨⟨Tryz.f102, Tryz.func102, rfl, Tryz.ntmps102, congrArg Array.toList Tryz.results102⟩, Tryz.call102, by kernel_rfl⟩
theorem e103 : Entry E 103 d103 (plT 103) := ⟨⟨Tryz.f103, Tryz.func103, rfl, Tryz.ntmps103, congrArg Array.toList Tryz.results103⟩, Tryz.call103, by kernel_rfl⟩
theorem e104 : Entry E 104 d104 (plT 104) := ⟨⟨Tryz.f104, Tryz.func104, rfl, Tryz.ntmps104, congrArg Array.toList Tryz.results104⟩, Tryz.call104, by kernel_rfl⟩
theorem e105 : Entry E 105 d105 (plT 105) := ⟨⟨Tryz.f105, Tryz.func105, rfl, Tryz.ntmps105, congrArg Array.toList Tryz.results105⟩, Tryz.call105, by kernel_rfl⟩
theorem e106 : Entry E 106 d106 (plT 106) := ⟨⟨Tryz.f106, Tryz.func106, rfl, Tryz.ntmps106, congrArg Array.toList Tryz.results106⟩, Tryz.call106, by kernel_rfl⟩
theorem e107 : Entry E 107 d107 (plT 107) := ⟨⟨Tryz.f107, Tryz.func107, rfl, Tryz.ntmps107, congrArg Array.toList Tryz.results107⟩, Tryz.call107, by kernel_rfl⟩
theorem e108 : Entry E 108 d108 (plT 108) := ⟨⟨Tryz.f108, Tryz.func108, rfl, Tryz.ntmps108, congrArg Array.toList Tryz.results108⟩, Tryz.call108, by kernel_rfl⟩
theorem e109 : Entry E 109 d109 (plT 109) := ⟨⟨Tryz.f109, Tryz.func109, rfl, Tryz.ntmps109, congrArg Array.toList Tryz.results109⟩, Tryz.call109, by kernel_rfl⟩
theorem e110 : Entry E 110 d110 (plT 110) := ⟨⟨Tryz.f110, Tryz.func110, rfl, Tryz.ntmps110, congrArg Array.toList Tryz.results110⟩, Tryz.call110, by kernel_rfl⟩
theorem e111 : Entry E 111 d111 (plT 111) := ⟨⟨Tryz.f111, Tryz.func111, rfl, Tryz.ntmps111, congrArg Array.toList Tryz.results111⟩, Tryz.call111, by kernel_rfl⟩
theorem e112 : Entry E 112 d112 (plT 112) := ⟨⟨Tryz.f112, Tryz.func112, rfl, Tryz.ntmps112, congrArg Array.toList Tryz.results112⟩, Tryz.call112, by kernel_rfl⟩
theorem e113 : Entry E 113 d113 (plT 113) := ⟨⟨Tryz.f113, Tryz.func113, rfl, Tryz.ntmps113, congrArg Array.toList Tryz.results113⟩, Tryz.call113, by kernel_rfl⟩
theorem e114 : Entry E 114 d114 (plT 114) := ⟨⟨Tryz.f114, Tryz.func114, rfl, Tryz.ntmps114, congrArg Array.toList Tryz.results114⟩, Tryz.call114, by kernel_rfl⟩
theorem e115 : Entry E 115 d115 (plT 115) := ⟨⟨Tryz.f115, Tryz.func115, rfl, Tryz.ntmps115, congrArg Array.toList Tryz.results115⟩, Tryz.call115, by kernel_rfl⟩
theorem e116 : Entry E 116 d116 (plT 116) := ⟨⟨Tryz.f116, Tryz.func116, rfl, Tryz.ntmps116, congrArg Array.toList Tryz.results116⟩, Tryz.call116, by kernel_rfl⟩
theorem e117 : Entry E 117 d117 (plT 117) := ⟨⟨Tryz.f117, Tryz.func117, rfl, Tryz.ntmps117, congrArg Array.toList Tryz.results117⟩, Tryz.call117, by kernel_rfl⟩
theorem e118 : Entry E 118 d118 (plT 118) := ⟨⟨Tryz.f118, Tryz.func118, rfl, Tryz.ntmps118, congrArg Array.toList Tryz.results118⟩, Tryz.call118, by kernel_rfl⟩
theorem e119 : Entry E 119 d119 (plT 119) := ⟨⟨Tryz.f119, Tryz.func119, rfl, Tryz.ntmps119, congrArg Array.toList Tryz.results119⟩, Tryz.call119, by kernel_rfl⟩
theorem e120 : Entry E 120 d120 (plT 120) := ⟨⟨Tryz.f120, Tryz.func120, rfl, Tryz.ntmps120, congrArg Array.toList Tryz.results120⟩, Tryz.call120, by kernel_rfl⟩
theorem e121 : Entry E 121 d121 (plT 121) := ⟨⟨Tryz.f121, Tryz.func121, rfl, Tryz.ntmps121, congrArg Array.toList Tryz.results121⟩, Tryz.call121, by kernel_rfl⟩
theorem e122 : Entry E 122 d122 (plT 122) := ⟨⟨Tryz.f122, Tryz.func122, rfl, Tryz.ntmps122, congrArg Array.toList Tryz.results122⟩, Tryz.call122, by kernel_rfl⟩
theorem e123 : Entry E 123 d123 (plT 123) := ⟨⟨Tryz.f123, Tryz.func123, rfl, Tryz.ntmps123, congrArg Array.toList Tryz.results123⟩, Tryz.call123, by kernel_rfl⟩
theorem e124 : Entry E 124 d124 (plT 124) := ⟨⟨Tryz.f124, Tryz.func124, rfl, Tryz.ntmps124, congrArg Array.toList Tryz.results124⟩, Tryz.call124, by kernel_rfl⟩
theorem e125 : Entry E 125 d125 (plT 125) := ⟨⟨Tryz.f125, Tryz.func125, rfl, Tryz.ntmps125, congrArg Array.toList Tryz.results125⟩, Tryz.call125, by kernel_rfl⟩
theorem e126 : Entry E 126 d126 (plT 126) := ⟨⟨Tryz.f126, Tryz.func126, rfl, Tryz.ntmps126, congrArg Array.toList Tryz.results126⟩, Tryz.call126, by kernel_rfl⟩
theorem e127 : Entry E 127 d127 (plT 127) := ⟨⟨Tryz.f127, Tryz.func127, rfl, Tryz.ntmps127, congrArg Array.toList Tryz.results127⟩, Tryz.call127, by kernel_rfl⟩
theorem e128 : Entry E 128 d128 (plT 128) := ⟨⟨Tryz.f128, Tryz.func128, rfl, Tryz.ntmps128, congrArg Array.toList Tryz.results128⟩, Tryz.call128, by kernel_rfl⟩
theorem e130 : Entry E 130 d130 (plT 130) := ⟨⟨Tryz.f130, Tryz.func130, rfl, Tryz.ntmps130, congrArg Array.toList Tryz.results130⟩, Tryz.call130, by kernel_rfl⟩
theorem e131 : Entry E 131 d131 (plT 131) := ⟨⟨Tryz.f131, Tryz.func131, rfl, Tryz.ntmps131, congrArg Array.toList Tryz.results131⟩, Tryz.call131, by kernel_rfl⟩
theorem e132 : Entry E 132 d132 (plT 132) := ⟨⟨Tryz.f132, Tryz.func132, rfl, Tryz.ntmps132, congrArg Array.toList Tryz.results132⟩, Tryz.call132, by kernel_rfl⟩
theorem e133 : Entry E 133 d133 (plT 133) := ⟨⟨Tryz.f133, Tryz.func133, rfl, Tryz.ntmps133, congrArg Array.toList Tryz.results133⟩, Tryz.call133, by kernel_rfl⟩
theorem e134 : Entry E 134 d134 (plT 134) := ⟨⟨Tryz.f134, Tryz.func134, rfl, Tryz.ntmps134, congrArg Array.toList Tryz.results134⟩, Tryz.call134, by kernel_rfl⟩
theorem e135 : Entry E 135 d135 (plT 135) := ⟨⟨Tryz.f135, Tryz.func135, rfl, Tryz.ntmps135, congrArg Array.toList Tryz.results135⟩, Tryz.call135, by kernel_rfl⟩
theorem e136 : Entry E 136 d136 (plT 136) := ⟨⟨Tryz.f136, Tryz.func136, rfl, Tryz.ntmps136, congrArg Array.toList Tryz.results136⟩, Tryz.call136, by kernel_rfl⟩
theorem e137 : Entry E 137 d137 (plT 137) := ⟨⟨Tryz.f137, Tryz.func137, rfl, Tryz.ntmps137, congrArg Array.toList Tryz.results137⟩, Tryz.call137, by kernel_rfl⟩
theorem e138 : Entry E 138 d138 (plT 138) := ⟨⟨Tryz.f138, Tryz.func138, rfl, Tryz.ntmps138, congrArg Array.toList Tryz.results138⟩, Tryz.call138, by kernel_rfl⟩
theorem e139 : Entry E 139 d139 (plT 139) := ⟨⟨Tryz.f139, Tryz.func139, rfl, Tryz.ntmps139, congrArg Array.toList Tryz.results139⟩, Tryz.call139, by kernel_rfl⟩
theorem e140 : Entry E 140 d140 (plT 140) := ⟨⟨Tryz.f140, Tryz.func140, rfl, Tryz.ntmps140, congrArg Array.toList Tryz.results140⟩, Tryz.call140, by kernel_rfl⟩
theorem e141 : Entry E 141 d141 (plT 141) := ⟨⟨Tryz.f141, Tryz.func141, rfl, Tryz.ntmps141, congrArg Array.toList Tryz.results141⟩, Tryz.call141, by kernel_rfl⟩
theorem e142 : Entry E 142 d142 (plT 142) := ⟨⟨Tryz.f142, Tryz.func142, rfl, Tryz.ntmps142, congrArg Array.toList Tryz.results142⟩, Tryz.call142, by kernel_rfl⟩
theorem e143 : Entry E 143 d143 (plT 143) := ⟨⟨Tryz.f143, Tryz.func143, rfl, Tryz.ntmps143, congrArg Array.toList Tryz.results143⟩, Tryz.call143, by kernel_rfl⟩
theorem e144 : Entry E 144 d144 (plT 144) := ⟨⟨Tryz.f144, Tryz.func144, rfl, Tryz.ntmps144, congrArg Array.toList Tryz.results144⟩, Tryz.call144, by kernel_rfl⟩
theorem e145 : Entry E 145 d145 (plT 145) := ⟨⟨Tryz.f145, Tryz.func145, rfl, Tryz.ntmps145, congrArg Array.toList Tryz.results145⟩, Tryz.call145, by kernel_rfl⟩
theorem e146 : Entry E 146 d146 (plT 146) := ⟨⟨Tryz.f146, Tryz.func146, rfl, Tryz.ntmps146, congrArg Array.toList Tryz.results146⟩, Tryz.call146, by kernel_rfl⟩
theorem e147 : Entry E 147 d147 (plT 147) := ⟨⟨Tryz.f147, Tryz.func147, rfl, Tryz.ntmps147, congrArg Array.toList Tryz.results147⟩, Tryz.call147, by kernel_rfl⟩
theorem e148 : Entry E 148 d148 (plT 148) := ⟨⟨Tryz.f148, Tryz.func148, rfl, Tryz.ntmps148, congrArg Array.toList Tryz.results148⟩, Tryz.call148, by kernel_rfl⟩
theorem e149 : Entry E 149 d149 (plT 149) := ⟨⟨Tryz.f149, Tryz.func149, rfl, Tryz.ntmps149, congrArg Array.toList Tryz.results149⟩, Tryz.call149, by kernel_rfl⟩
theorem e152 : Entry E 152 d152 (plT 152) := ⟨⟨Tryz.f152, Tryz.func152, rfl, Tryz.ntmps152, congrArg Array.toList Tryz.results152⟩, Tryz.call152, by kernel_rfl⟩
theorem e153 : Entry E 153 d153 (plT 153) := ⟨⟨Tryz.f153, Tryz.func153, rfl, Tryz.ntmps153, congrArg Array.toList Tryz.results153⟩, Tryz.call153, by kernel_rfl⟩
theorem e154 : Entry E 154 d154 (plT 154) := ⟨⟨Tryz.f154, Tryz.func154, rfl, Tryz.ntmps154, congrArg Array.toList Tryz.results154⟩, Tryz.call154, by kernel_rfl⟩
theorem e155 : Entry E 155 d155 (plT 155) := ⟨⟨Tryz.f155, Tryz.func155, rfl, Tryz.ntmps155, congrArg Array.toList Tryz.results155⟩, Tryz.call155, by kernel_rfl⟩
theorem e156 : Entry E 156 d156 (plT 156) := ⟨⟨Tryz.f156, Tryz.func156, rfl, Tryz.ntmps156, congrArg Array.toList Tryz.results156⟩, Tryz.call156, by kernel_rfl⟩
theorem e157 : Entry E 157 d157 (plT 157) := ⟨⟨Tryz.f157, Tryz.func157, rfl, Tryz.ntmps157, congrArg Array.toList Tryz.results157⟩, Tryz.call157, by kernel_rfl⟩
theorem e158 : Entry E 158 d158 (plT 158) := ⟨⟨Tryz.f158, Tryz.func158, rfl, Tryz.ntmps158, congrArg Array.toList Tryz.results158⟩, Tryz.call158, by kernel_rfl⟩
theorem e159 : Entry E 159 d159 (plT 159) := ⟨⟨Tryz.f159, Tryz.func159, rfl, Tryz.ntmps159, congrArg Array.toList Tryz.results159⟩, Tryz.call159, by kernel_rfl⟩
theorem e160 : Entry E 160 d160 (plT 160) := ⟨⟨Tryz.f160, Tryz.func160, rfl, Tryz.ntmps160, congrArg Array.toList Tryz.results160⟩, Tryz.call160, by kernel_rfl⟩
theorem e161 : Entry E 161 d161 (plT 161) := ⟨⟨Tryz.f161, Tryz.func161, rfl, Tryz.ntmps161, congrArg Array.toList Tryz.results161⟩, Tryz.call161, by kernel_rfl⟩
theorem e162 : Entry E 162 d162 (plT 162) := ⟨⟨Tryz.f162, Tryz.func162, rfl, Tryz.ntmps162, congrArg Array.toList Tryz.results162⟩, Tryz.call162, by kernel_rfl⟩
theorem e163 : Entry E 163 d163 (plT 163) := ⟨⟨Tryz.f163, Tryz.func163, rfl, Tryz.ntmps163, congrArg Array.toList Tryz.results163⟩, Tryz.call163, by kernel_rfl⟩
theorem e164 : Entry E 164 d164 (plT 164) := ⟨⟨Tryz.f164, Tryz.func164, rfl, Tryz.ntmps164, congrArg Array.toList Tryz.results164⟩, Tryz.call164, by kernel_rfl⟩
theorem e165 : Entry E 165 d165 (plT 165) := ⟨⟨Tryz.f165, Tryz.func165, rfl, Tryz.ntmps165, congrArg Array.toList Tryz.results165⟩, Tryz.call165, by kernel_rfl⟩
theorem e166 : Entry E 166 d166 (plT 166) := ⟨⟨Tryz.f166, Tryz.func166, rfl, Tryz.ntmps166, congrArg Array.toList Tryz.results166⟩, Tryz.call166, by kernel_rfl⟩
theorem e167 : Entry E 167 d167 (plT 167) := ⟨⟨Tryz.f167, Tryz.func167, rfl, Tryz.ntmps167, congrArg Array.toList Tryz.results167⟩, Tryz.call167, by kernel_rfl⟩
theorem e168 : Entry E 168 d168 (plT 168) := ⟨⟨Tryz.f168, Tryz.func168, rfl, Tryz.ntmps168, congrArg Array.toList Tryz.results168⟩, Tryz.call168, by kernel_rfl⟩
theorem e169 : Entry E 169 d169 (plT 169) := ⟨⟨Tryz.f169, Tryz.func169, rfl, Tryz.ntmps169, congrArg Array.toList Tryz.results169⟩, Tryz.call169, by kernel_rfl⟩
theorem e170 : Entry E 170 d170 (plT 170) := ⟨⟨Tryz.f170, Tryz.func170, rfl, Tryz.ntmps170, congrArg Array.toList Tryz.results170⟩, Tryz.call170, by kernel_rfl⟩
theorem e171 : Entry E 171 d171 (plT 171) := ⟨⟨Tryz.f171, Tryz.func171, rfl, Tryz.ntmps171, congrArg Array.toList Tryz.results171⟩, Tryz.call171, by kernel_rfl⟩
theorem e172 : Entry E 172 d172 (plT 172) := ⟨⟨Tryz.f172, Tryz.func172, rfl, Tryz.ntmps172, congrArg Array.toList Tryz.results172⟩, Tryz.call172, by kernel_rfl⟩
theorem e173 : Entry E 173 d173 (plT 173) := ⟨⟨Tryz.f173, Tryz.func173, rfl, Tryz.ntmps173, congrArg Array.toList Tryz.results173⟩, Tryz.call173, by kernel_rfl⟩
theorem e174 : Entry E 174 d174 (plT 174) := ⟨⟨Tryz.f174, Tryz.func174, rfl, Tryz.ntmps174, congrArg Array.toList Tryz.results174⟩, Tryz.call174, by kernel_rfl⟩
theorem e175 : Entry E 175 d175 (plT 175) := ⟨⟨Tryz.f175, Tryz.func175, rfl, Tryz.ntmps175, congrArg Array.toList Tryz.results175⟩, Tryz.call175, by kernel_rfl⟩
theorem e176 : Entry E 176 d176 (plT 176) := ⟨⟨Tryz.f176, Tryz.func176, rfl, Tryz.ntmps176, congrArg Array.toList Tryz.results176⟩, Tryz.call176, by kernel_rfl⟩
theorem e177 : Entry E 177 d177 (plT 177) := ⟨⟨Tryz.f177, Tryz.func177, rfl, Tryz.ntmps177, congrArg Array.toList Tryz.results177⟩, Tryz.call177, by kernel_rfl⟩
theorem e178 : Entry E 178 d178 (plT 178) := ⟨⟨Tryz.f178, Tryz.func178, rfl, Tryz.ntmps178, congrArg Array.toList Tryz.results178⟩, Tryz.call178, by kernel_rfl⟩
theorem e179 : Entry E 179 d179 (plT 179) := ⟨⟨Tryz.f179, Tryz.func179, rfl, Tryz.ntmps179, congrArg Array.toList Tryz.results179⟩, Tryz.call179, by kernel_rfl⟩
theorem e180 : Entry E 180 d180 (plT 180) := ⟨⟨Tryz.f180, Tryz.func180, rfl, Tryz.ntmps180, congrArg Array.toList Tryz.results180⟩, Tryz.call180, by kernel_rfl⟩
theorem e181 : Entry E 181 d181 (plT 181) := ⟨⟨Tryz.f181, Tryz.func181, rfl, Tryz.ntmps181, congrArg Array.toList Tryz.results181⟩, Tryz.call181, by kernel_rfl⟩
theorem e182 : Entry E 182 d182 (plT 182) := ⟨⟨Tryz.f182, Tryz.func182, rfl, Tryz.ntmps182, congrArg Array.toList Tryz.results182⟩, Tryz.call182, by kernel_rfl⟩
theorem e183 : Entry E 183 d183 (plT 183) := ⟨⟨Tryz.f183, Tryz.func183, rfl, Tryz.ntmps183, congrArg Array.toList Tryz.results183⟩, Tryz.call183, by kernel_rfl⟩
theorem e184 : Entry E 184 d184 (plT 184) := ⟨⟨Tryz.f184, Tryz.func184, rfl, Tryz.ntmps184, congrArg Array.toList Tryz.results184⟩, Tryz.call184, by kernel_rfl⟩
theorem e185 : Entry E 185 d185 (plT 185) := ⟨⟨Tryz.f185, Tryz.func185, rfl, Tryz.ntmps185, congrArg Array.toList Tryz.results185⟩, Tryz.call185, by kernel_rfl⟩
theorem e187 : Entry E 187 d187 (plT 187) := ⟨⟨Tryz.f187, Tryz.func187, rfl, Tryz.ntmps187, congrArg Array.toList Tryz.results187⟩, Tryz.call187, by kernel_rfl⟩
theorem e188 : Entry E 188 d188 (plT 188) := ⟨⟨Tryz.f188, Tryz.func188, rfl, Tryz.ntmps188, congrArg Array.toList Tryz.results188⟩, Tryz.call188, by kernel_rfl⟩
theorem e189 : Entry E 189 d189 (plT 189) := ⟨⟨Tryz.f189, Tryz.func189, rfl, Tryz.ntmps189, congrArg Array.toList Tryz.results189⟩, Tryz.call189, by kernel_rfl⟩
theorem e190 : Entry E 190 d190 (plT 190) := ⟨⟨Tryz.f190, Tryz.func190, rfl, Tryz.ntmps190, congrArg Array.toList Tryz.results190⟩, Tryz.call190, by kernel_rfl⟩
theorem e191 : Entry E 191 d191 (plT 191) := ⟨⟨Tryz.f191, Tryz.func191, rfl, Tryz.ntmps191, congrArg Array.toList Tryz.results191⟩, Tryz.call191, by kernel_rfl⟩
theorem e192 : Entry E 192 d192 (plT 192) := ⟨⟨Tryz.f192, Tryz.func192, rfl, Tryz.ntmps192, congrArg Array.toList Tryz.results192⟩, Tryz.call192, by kernel_rfl⟩
theorem e193 : Entry E 193 d193 (plT 193) := ⟨⟨Tryz.f193, Tryz.func193, rfl, Tryz.ntmps193, congrArg Array.toList Tryz.results193⟩, Tryz.call193, by kernel_rfl⟩
theorem e194 : Entry E 194 d194 (plT 194) := ⟨⟨Tryz.f194, Tryz.func194, rfl, Tryz.ntmps194, congrArg Array.toList Tryz.results194⟩, Tryz.call194, by kernel_rfl⟩
theorem e195 : Entry E 195 d195 (plT 195) := ⟨⟨Tryz.f195, Tryz.func195, rfl, Tryz.ntmps195, congrArg Array.toList Tryz.results195⟩, Tryz.call195, by kernel_rfl⟩
theorem e196 : Entry E 196 d196 (plT 196) := ⟨⟨Tryz.f196, Tryz.func196, rfl, Tryz.ntmps196, congrArg Array.toList Tryz.results196⟩, Tryz.call196, by kernel_rfl⟩
theorem e197 : Entry E 197 d197 (plT 197) := ⟨⟨Tryz.f197, Tryz.func197, rfl, Tryz.ntmps197, congrArg Array.toList Tryz.results197⟩, Tryz.call197, by kernel_rfl⟩
theorem e198 : Entry E 198 d198 (plT 198) := ⟨⟨Tryz.f198, Tryz.func198, rfl, Tryz.ntmps198, congrArg Array.toList Tryz.results198⟩, Tryz.call198, by kernel_rfl⟩
theorem e199 : Entry E 199 d199 (plT 199) := ⟨⟨Tryz.f199, Tryz.func199, rfl, Tryz.ntmps199, congrArg Array.toList Tryz.results199⟩, Tryz.call199, by kernel_rfl⟩
theorem e200 : Entry E 200 d200 (plT 200) := ⟨⟨Tryz.f200, Tryz.func200, rfl, Tryz.ntmps200, congrArg Array.toList Tryz.results200⟩, Tryz.call200, by kernel_rfl⟩
theorem e201 : Entry E 201 d201 (plT 201) := ⟨⟨Tryz.f201, Tryz.func201, rfl, Tryz.ntmps201, congrArg Array.toList Tryz.results201⟩, Tryz.call201, by kernel_rfl⟩
theorem e202 : Entry E 202 d202 (plT 202) := ⟨⟨Tryz.f202, Tryz.func202, rfl, Tryz.ntmps202, congrArg Array.toList Tryz.results202⟩, Tryz.call202, by kernel_rfl⟩
theorem e203 : Entry E 203 d203 (plT 203) := ⟨⟨Tryz.f203, Tryz.func203, rfl, Tryz.ntmps203, congrArg Array.toList Tryz.results203⟩, Tryz.call203, by kernel_rfl⟩
theorem e204 : Entry E 204 d204 (plT 204) := ⟨⟨Tryz.f204, Tryz.func204, rfl, Tryz.ntmps204, congrArg Array.toList Tryz.results204⟩, Tryz.call204, by kernel_rfl⟩
theorem e205 : Entry E 205 d205 (plT 205) := ⟨⟨Tryz.f205, Tryz.func205, rfl, Tryz.ntmps205, congrArg Array.toList Tryz.results205⟩, Tryz.call205, by kernel_rfl⟩
theorem e206 : Entry E 206 d206 (plT 206) := ⟨⟨Tryz.f206, Tryz.func206, rfl, Tryz.ntmps206, congrArg Array.toList Tryz.results206⟩, Tryz.call206, by kernel_rfl⟩
theorem e207 : Entry E 207 d207 (plT 207) := ⟨⟨Tryz.f207, Tryz.func207, rfl, Tryz.ntmps207, congrArg Array.toList Tryz.results207⟩, Tryz.call207, by kernel_rfl⟩
theorem e208 : Entry E 208 d208 (plT 208) := ⟨⟨Tryz.f208, Tryz.func208, rfl, Tryz.ntmps208, congrArg Array.toList Tryz.results208⟩, Tryz.call208, by kernel_rfl⟩
theorem e209 : Entry E 209 d209 (plT 209) := ⟨⟨Tryz.f209, Tryz.func209, rfl, Tryz.ntmps209, congrArg Array.toList Tryz.results209⟩, Tryz.call209, by kernel_rfl⟩
theorem e210 : Entry E 210 d210 (plT 210) := ⟨⟨Tryz.f210, Tryz.func210, rfl, Tryz.ntmps210, congrArg Array.toList Tryz.results210⟩, Tryz.call210, by kernel_rfl⟩
theorem e211 : Entry E 211 d211 (plT 211) := ⟨⟨Tryz.f211, Tryz.func211, rfl, Tryz.ntmps211, congrArg Array.toList Tryz.results211⟩, Tryz.call211, by kernel_rfl⟩
theorem e212 : Entry E 212 d212 (plT 212) := ⟨⟨Tryz.f212, Tryz.func212, rfl, Tryz.ntmps212, congrArg Array.toList Tryz.results212⟩, Tryz.call212, by kernel_rfl⟩
theorem e213 : Entry E 213 d213 (plT 213) := ⟨⟨Tryz.f213, Tryz.func213, rfl, Tryz.ntmps213, congrArg Array.toList Tryz.results213⟩, Tryz.call213, by kernel_rfl⟩
theorem e214 : Entry E 214 d214 (plT 214) := ⟨⟨Tryz.f214, Tryz.func214, rfl, Tryz.ntmps214, congrArg Array.toList Tryz.results214⟩, Tryz.call214, by kernel_rfl⟩
theorem e215 : Entry E 215 d215 (plT 215) := ⟨⟨Tryz.f215, Tryz.func215, rfl, Tryz.ntmps215, congrArg Array.toList Tryz.results215⟩, Tryz.call215, by kernel_rfl⟩
theorem e216 : Entry E 216 d216 (plT 216) := ⟨⟨Tryz.f216, Tryz.func216, rfl, Tryz.ntmps216, congrArg Array.toList Tryz.results216⟩, Tryz.call216, by kernel_rfl⟩
theorem e217 : Entry E 217 d217 (plT 217) := ⟨⟨Tryz.f217, Tryz.func217, rfl, Tryz.ntmps217, congrArg Array.toList Tryz.results217⟩, Tryz.call217, by kernel_rfl⟩
theorem e218 : Entry E 218 d218 (plT 218) := ⟨⟨Tryz.f218, Tryz.func218, rfl, Tryz.ntmps218, congrArg Array.toList Tryz.results218⟩, Tryz.call218, by kernel_rfl⟩
theorem e219 : Entry E 219 d219 (plT 219) := ⟨⟨Tryz.f219, Tryz.func219, rfl, Tryz.ntmps219, congrArg Array.toList Tryz.results219⟩, Tryz.call219, by kernel_rfl⟩
theorem e220 : Entry E 220 d220 (plT 220) := ⟨⟨Tryz.f220, Tryz.func220, rfl, Tryz.ntmps220, congrArg Array.toList Tryz.results220⟩, Tryz.call220, by kernel_rfl⟩
theorem e221 : Entry E 221 d221 (plT 221) := ⟨⟨Tryz.f221, Tryz.func221, rfl, Tryz.ntmps221, congrArg Array.toList Tryz.results221⟩, Tryz.call221, by kernel_rfl⟩
theorem e222 : Entry E 222 d222 (plT 222) := ⟨⟨Tryz.f222, Tryz.func222, rfl, Tryz.ntmps222, congrArg Array.toList Tryz.results222⟩, Tryz.call222, by kernel_rfl⟩
theorem e223 : Entry E 223 d223 (plT 223) := ⟨⟨Tryz.f223, Tryz.func223, rfl, Tryz.ntmps223, congrArg Array.toList Tryz.results223⟩, Tryz.call223, by kernel_rfl⟩
theorem e224 : Entry E 224 d224 (plT 224) := ⟨⟨Tryz.f224, Tryz.func224, rfl, Tryz.ntmps224, congrArg Array.toList Tryz.results224⟩, Tryz.call224, by kernel_rfl⟩
theorem e225 : Entry E 225 d225 (plT 225) := ⟨⟨Tryz.f225, Tryz.func225, rfl, Tryz.ntmps225, congrArg Array.toList Tryz.results225⟩, Tryz.call225, by kernel_rfl⟩
theorem e226 : Entry E 226 d226 (plT 226) := ⟨⟨Tryz.f226, Tryz.func226, rfl, Tryz.ntmps226, congrArg Array.toList Tryz.results226⟩, Tryz.call226, by kernel_rfl⟩
theorem e227 : Entry E 227 d227 (plT 227) := ⟨⟨Tryz.f227, Tryz.func227, rfl, Tryz.ntmps227, congrArg Array.toList Tryz.results227⟩, Tryz.call227, by kernel_rfl⟩
theorem e228 : Entry E 228 d228 (plT 228) := ⟨⟨Tryz.f228, Tryz.func228, rfl, Tryz.ntmps228, congrArg Array.toList Tryz.results228⟩, Tryz.call228, by kernel_rfl⟩
theorem e229 : Entry E 229 d229 (plT 229) := ⟨⟨Tryz.f229, Tryz.func229, rfl, Tryz.ntmps229, congrArg Array.toList Tryz.results229⟩, Tryz.call229, by kernel_rfl⟩
theorem e230 : Entry E 230 d230 (plT 230) := ⟨⟨Tryz.f230, Tryz.func230, rfl, Tryz.ntmps230, congrArg Array.toList Tryz.results230⟩, Tryz.call230, by kernel_rfl⟩
theorem e231 : Entry E 231 d231 (plT 231) := ⟨⟨Tryz.f231, Tryz.func231, rfl, Tryz.ntmps231, congrArg Array.toList Tryz.results231⟩, Tryz.call231, by kernel_rfl⟩
theorem e232 : Entry E 232 d232 (plT 232) := ⟨⟨Tryz.f232, Tryz.func232, rfl, Tryz.ntmps232, congrArg Array.toList Tryz.results232⟩, Tryz.call232, by kernel_rfl⟩
theorem e233 : Entry E 233 d233 (plT 233) := ⟨⟨Tryz.f233, Tryz.func233, rfl, Tryz.ntmps233, congrArg Array.toList Tryz.results233⟩, Tryz.call233, by kernel_rfl⟩
theorem e234 : Entry E 234 d234 (plT 234) := ⟨⟨Tryz.f234, Tryz.func234, rfl, Tryz.ntmps234, congrArg Array.toList Tryz.results234⟩, Tryz.call234, by kernel_rfl⟩
theorem e235 : Entry E 235 d235 (plT 235) := ⟨⟨Tryz.f235, Tryz.func235, rfl, Tryz.ntmps235, congrArg Array.toList Tryz.results235⟩, Tryz.call235, by kernel_rfl⟩
theorem e236 : Entry E 236 d236 (plT 236) := ⟨⟨Tryz.f236, Tryz.func236, rfl, Tryz.ntmps236, congrArg Array.toList Tryz.results236⟩, Tryz.call236, by kernel_rfl⟩
theorem e237 : Entry E 237 d237 (plT 237) := ⟨⟨Tryz.f237, Tryz.func237, rfl, Tryz.ntmps237, congrArg Array.toList Tryz.results237⟩, Tryz.call237, by kernel_rfl⟩
theorem e238 : Entry E 238 d238 (plT 238) := ⟨⟨Tryz.f238, Tryz.func238, rfl, Tryz.ntmps238, congrArg Array.toList Tryz.results238⟩, Tryz.call238, by kernel_rfl⟩
theorem e239 : Entry E 239 d239 (plT 239) := ⟨⟨Tryz.f239, Tryz.func239, rfl, Tryz.ntmps239, congrArg Array.toList Tryz.results239⟩, Tryz.call239, by kernel_rfl⟩
theorem e240 : Entry E 240 d240 (plT 240) := ⟨⟨Tryz.f240, Tryz.func240, rfl, Tryz.ntmps240, congrArg Array.toList Tryz.results240⟩, Tryz.call240, by kernel_rfl⟩
theorem e241 : Entry E 241 d241 (plT 241) := ⟨⟨Tryz.f241, Tryz.func241, rfl, Tryz.ntmps241, congrArg Array.toList Tryz.results241⟩, Tryz.call241, by kernel_rfl⟩
theorem e242 : Entry E 242 d242 (plT 242) := ⟨⟨Tryz.f242, Tryz.func242, rfl, Tryz.ntmps242, congrArg Array.toList Tryz.results242⟩, Tryz.call242, by kernel_rfl⟩
theorem e243 : Entry E 243 d243 (plT 243) := ⟨⟨Tryz.f243, Tryz.func243, rfl, Tryz.ntmps243, congrArg Array.toList Tryz.results243⟩, Tryz.call243, by kernel_rfl⟩
theorem e244 : Entry E 244 d244 (plT 244) := ⟨⟨Tryz.f244, Tryz.func244, rfl, Tryz.ntmps244, congrArg Array.toList Tryz.results244⟩, Tryz.call244, by kernel_rfl⟩
theorem e245 : Entry E 245 d245 (plT 245) := ⟨⟨Tryz.f245, Tryz.func245, rfl, Tryz.ntmps245, congrArg Array.toList Tryz.results245⟩, Tryz.call245, by kernel_rfl⟩
theorem e246 : Entry E 246 d246 (plT 246) := ⟨⟨Tryz.f246, Tryz.func246, rfl, Tryz.ntmps246, congrArg Array.toList Tryz.results246⟩, Tryz.call246, by kernel_rfl⟩
theorem e247 : Entry E 247 d247 (plT 247) := ⟨⟨Tryz.f247, Tryz.func247, rfl, Tryz.ntmps247, congrArg Array.toList Tryz.results247⟩, Tryz.call247, by kernel_rfl⟩
theorem e248 : Entry E 248 d248 (plT 248) := ⟨⟨Tryz.f248, Tryz.func248, rfl, Tryz.ntmps248, congrArg Array.toList Tryz.results248⟩, Tryz.call248, by kernel_rfl⟩
theorem e249 : Entry E 249 d249 (plT 249) := ⟨⟨Tryz.f249, Tryz.func249, rfl, Tryz.ntmps249, congrArg Array.toList Tryz.results249⟩, Tryz.call249, by kernel_rfl⟩
theorem e250 : Entry E 250 d250 (plT 250) := ⟨⟨Tryz.f250, Tryz.func250, rfl, Tryz.ntmps250, congrArg Array.toList Tryz.results250⟩, Tryz.call250, by kernel_rfl⟩
theorem e251 : Entry E 251 d251 (plT 251) := ⟨⟨Tryz.f251, Tryz.func251, rfl, Tryz.ntmps251, congrArg Array.toList Tryz.results251⟩, Tryz.call251, by kernel_rfl⟩
theorem e252 : Entry E 252 d252 (plT 252) := ⟨⟨Tryz.f252, Tryz.func252, rfl, Tryz.ntmps252, congrArg Array.toList Tryz.results252⟩, Tryz.call252, by kernel_rfl⟩
theorem e253 : Entry E 253 d253 (plT 253) := ⟨⟨Tryz.f253, Tryz.func253, rfl, Tryz.ntmps253, congrArg Array.toList Tryz.results253⟩, Tryz.call253, by kernel_rfl⟩
theorem e254 : Entry E 254 d254 (plT 254) := ⟨⟨Tryz.f254, Tryz.func254, rfl, Tryz.ntmps254, congrArg Array.toList Tryz.results254⟩, Tryz.call254, by kernel_rfl⟩
theorem e255 : Entry E 255 d255 (plT 255) := ⟨⟨Tryz.f255, Tryz.func255, rfl, Tryz.ntmps255, congrArg Array.toList Tryz.results255⟩, Tryz.call255, by kernel_rfl⟩
theorem e256 : Entry E 256 d256 (plT 256) := ⟨⟨Tryz.f256, Tryz.func256, rfl, Tryz.ntmps256, congrArg Array.toList Tryz.results256⟩, Tryz.call256, by kernel_rfl⟩
theorem e257 : Entry E 257 d257 (plT 257) := ⟨⟨Tryz.f257, Tryz.func257, rfl, Tryz.ntmps257, congrArg Array.toList Tryz.results257⟩, Tryz.call257, by kernel_rfl⟩
theorem e258 : Entry E 258 d258 (plT 258) := ⟨⟨Tryz.f258, Tryz.func258, rfl, Tryz.ntmps258, congrArg Array.toList Tryz.results258⟩, Tryz.call258, by kernel_rfl⟩
theorem e259 : Entry E 259 d259 (plT 259) := ⟨⟨Tryz.f259, Tryz.func259, rfl, Tryz.ntmps259, congrArg Array.toList Tryz.results259⟩, Tryz.call259, by kernel_rfl⟩
theorem e260 : Entry E 260 d260 (plT 260) := ⟨⟨Tryz.f260, Tryz.func260, rfl, Tryz.ntmps260, congrArg Array.toList Tryz.results260⟩, Tryz.call260, by kernel_rfl⟩
theorem e261 : Entry E 261 d261 (plT 261) := ⟨⟨Tryz.f261, Tryz.func261, rfl, Tryz.ntmps261, congrArg Array.toList Tryz.results261⟩, Tryz.call261, by kernel_rfl⟩
theorem e262 : Entry E 262 d262 (plT 262) := ⟨⟨Tryz.f262, Tryz.func262, rfl, Tryz.ntmps262, congrArg Array.toList Tryz.results262⟩, Tryz.call262, by kernel_rfl⟩
theorem e263 : Entry E 263 d263 (plT 263) := ⟨⟨Tryz.f263, Tryz.func263, rfl, Tryz.ntmps263, congrArg Array.toList Tryz.results263⟩, Tryz.call263, by kernel_rfl⟩
theorem e264 : Entry E 264 d264 (plT 264) := ⟨⟨Tryz.f264, Tryz.func264, rfl, Tryz.ntmps264, congrArg Array.toList Tryz.results264⟩, Tryz.call264, by kernel_rfl⟩
theorem e265 : Entry E 265 d265 (plT 265) := ⟨⟨Tryz.f265, Tryz.func265, rfl, Tryz.ntmps265, congrArg Array.toList Tryz.results265⟩, Tryz.call265, by kernel_rfl⟩
theorem e266 : Entry E 266 d266 (plT 266) := ⟨⟨Tryz.f266, Tryz.func266, rfl, Tryz.ntmps266, congrArg Array.toList Tryz.results266⟩, Tryz.call266, by kernel_rfl⟩
theorem e267 : Entry E 267 d267 (plT 267) := ⟨⟨Tryz.f267, Tryz.func267, rfl, Tryz.ntmps267, congrArg Array.toList Tryz.results267⟩, Tryz.call267, by kernel_rfl⟩
theorem e268 : Entry E 268 d268 (plT 268) := ⟨⟨Tryz.f268, Tryz.func268, rfl, Tryz.ntmps268, congrArg Array.toList Tryz.results268⟩, Tryz.call268, by kernel_rfl⟩
theorem e269 : Entry E 269 d269 (plT 269) := ⟨⟨Tryz.f269, Tryz.func269, rfl, Tryz.ntmps269, congrArg Array.toList Tryz.results269⟩, Tryz.call269, by kernel_rfl⟩
theorem e270 : Entry E 270 d270 (plT 270) := ⟨⟨Tryz.f270, Tryz.func270, rfl, Tryz.ntmps270, congrArg Array.toList Tryz.results270⟩, Tryz.call270, by kernel_rfl⟩
theorem e271 : Entry E 271 d271 (plT 271) := ⟨⟨Tryz.f271, Tryz.func271, rfl, Tryz.ntmps271, congrArg Array.toList Tryz.results271⟩, Tryz.call271, by kernel_rfl⟩
theorem e272 : Entry E 272 d272 (plT 272) := ⟨⟨Tryz.f272, Tryz.func272, rfl, Tryz.ntmps272, congrArg Array.toList Tryz.results272⟩, Tryz.call272, by kernel_rfl⟩
theorem e273 : Entry E 273 d273 (plT 273) := ⟨⟨Tryz.f273, Tryz.func273, rfl, Tryz.ntmps273, congrArg Array.toList Tryz.results273⟩, Tryz.call273, by kernel_rfl⟩
theorem e274 : Entry E 274 d274 (plT 274) := ⟨⟨Tryz.f274, Tryz.func274, rfl, Tryz.ntmps274, congrArg Array.toList Tryz.results274⟩, Tryz.call274, by kernel_rfl⟩
theorem e275 : Entry E 275 d275 (plT 275) := ⟨⟨Tryz.f275, Tryz.func275, rfl, Tryz.ntmps275, congrArg Array.toList Tryz.results275⟩, Tryz.call275, by kernel_rfl⟩
theorem e276 : Entry E 276 d276 (plT 276) := ⟨⟨Tryz.f276, Tryz.func276, rfl, Tryz.ntmps276, congrArg Array.toList Tryz.results276⟩, Tryz.call276, by kernel_rfl⟩
theorem e277 : Entry E 277 d277 (plT 277) := ⟨⟨Tryz.f277, Tryz.func277, rfl, Tryz.ntmps277, congrArg Array.toList Tryz.results277⟩, Tryz.call277, by kernel_rfl⟩
theorem e278 : Entry E 278 d278 (plT 278) := ⟨⟨Tryz.f278, Tryz.func278, rfl, Tryz.ntmps278, congrArg Array.toList Tryz.results278⟩, Tryz.call278, by kernel_rfl⟩
theorem e279 : Entry E 279 d279 (plT 279) := ⟨⟨Tryz.f279, Tryz.func279, rfl, Tryz.ntmps279, congrArg Array.toList Tryz.results279⟩, Tryz.call279, by kernel_rfl⟩
theorem e280 : Entry E 280 d280 (plT 280) := ⟨⟨Tryz.f280, Tryz.func280, rfl, Tryz.ntmps280, congrArg Array.toList Tryz.results280⟩, Tryz.call280, by kernel_rfl⟩
theorem e281 : Entry E 281 d281 (plT 281) := ⟨⟨Tryz.f281, Tryz.func281, rfl, Tryz.ntmps281, congrArg Array.toList Tryz.results281⟩, Tryz.call281, by kernel_rfl⟩
theorem e282 : Entry E 282 d282 (plT 282) := ⟨⟨Tryz.f282, Tryz.func282, rfl, Tryz.ntmps282, congrArg Array.toList Tryz.results282⟩, Tryz.call282, by kernel_rfl⟩
theorem e283 : Entry E 283 d283 (plT 283) := ⟨⟨Tryz.f283, Tryz.func283, rfl, Tryz.ntmps283, congrArg Array.toList Tryz.results283⟩, Tryz.call283, by kernel_rfl⟩
theorem e284 : Entry E 284 d284 (plT 284) := ⟨⟨Tryz.f284, Tryz.func284, rfl, Tryz.ntmps284, congrArg Array.toList Tryz.results284⟩, Tryz.call284, by kernel_rfl⟩
theorem e285 : Entry E 285 d285 (plT 285) := ⟨⟨Tryz.f285, Tryz.func285, rfl, Tryz.ntmps285, congrArg Array.toList Tryz.results285⟩, Tryz.call285, by kernel_rfl⟩
theorem e286 : Entry E 286 d286 (plT 286) := ⟨⟨Tryz.f286, Tryz.func286, rfl, Tryz.ntmps286, congrArg Array.toList Tryz.results286⟩, Tryz.call286, by kernel_rfl⟩
theorem e287 : Entry E 287 d287 (plT 287) := ⟨⟨Tryz.f287, Tryz.func287, rfl, Tryz.ntmps287, congrArg Array.toList Tryz.results287⟩, Tryz.call287, by kernel_rfl⟩
theorem e288 : Entry E 288 d288 (plT 288) := ⟨⟨Tryz.f288, Tryz.func288, rfl, Tryz.ntmps288, congrArg Array.toList Tryz.results288⟩, Tryz.call288, by kernel_rfl⟩
theorem e289 : Entry E 289 d289 (plT 289) := ⟨⟨Tryz.f289, Tryz.func289, rfl, Tryz.ntmps289, congrArg Array.toList Tryz.results289⟩, Tryz.call289, by kernel_rfl⟩
theorem e290 : Entry E 290 d290 (plT 290) := ⟨⟨Tryz.f290, Tryz.func290, rfl, Tryz.ntmps290, congrArg Array.toList Tryz.results290⟩, Tryz.call290, by kernel_rfl⟩
theorem e291 : Entry E 291 d291 (plT 291) := ⟨⟨Tryz.f291, Tryz.func291, rfl, Tryz.ntmps291, congrArg Array.toList Tryz.results291⟩, Tryz.call291, by kernel_rfl⟩
theorem e292 : Entry E 292 d292 (plT 292) := ⟨⟨Tryz.f292, Tryz.func292, rfl, Tryz.ntmps292, congrArg Array.toList Tryz.results292⟩, Tryz.call292, by kernel_rfl⟩
theorem e293 : Entry E 293 d293 (plT 293) := ⟨⟨Tryz.f293, Tryz.func293, rfl, Tryz.ntmps293, congrArg Array.toList Tryz.results293⟩, Tryz.call293, by kernel_rfl⟩
theorem e294 : Entry E 294 d294 (plT 294) := ⟨⟨Tryz.f294, Tryz.func294, rfl, Tryz.ntmps294, congrArg Array.toList Tryz.results294⟩, Tryz.call294, by kernel_rfl⟩
theorem e295 : Entry E 295 d295 (plT 295) := ⟨⟨Tryz.f295, Tryz.func295, rfl, Tryz.ntmps295, congrArg Array.toList Tryz.results295⟩, Tryz.call295, by kernel_rfl⟩
theorem e296 : Entry E 296 d296 (plT 296) := ⟨⟨Tryz.f296, Tryz.func296, rfl, Tryz.ntmps296, congrArg Array.toList Tryz.results296⟩, Tryz.call296, by kernel_rfl⟩
theorem e297 : Entry E 297 d297 (plT 297) := ⟨⟨Tryz.f297, Tryz.func297, rfl, Tryz.ntmps297, congrArg Array.toList Tryz.results297⟩, Tryz.call297, by kernel_rfl⟩
theorem e298 : Entry E 298 d298 (plT 298) := ⟨⟨Tryz.f298, Tryz.func298, rfl, Tryz.ntmps298, congrArg Array.toList Tryz.results298⟩, Tryz.call298, by kernel_rfl⟩
theorem e299 : Entry E 299 d299 (plT 299) := ⟨⟨Tryz.f299, Tryz.func299, rfl, Tryz.ntmps299, congrArg Array.toList Tryz.results299⟩, Tryz.call299, by kernel_rfl⟩
theorem e300 : Entry E 300 d300 (plT 300) := ⟨⟨Tryz.f300, Tryz.func300, rfl, Tryz.ntmps300, congrArg Array.toList Tryz.results300⟩, Tryz.call300, by kernel_rfl⟩
theorem e301 : Entry E 301 d301 (plT 301) := ⟨⟨Tryz.f301, Tryz.func301, rfl, Tryz.ntmps301, congrArg Array.toList Tryz.results301⟩, Tryz.call301, by kernel_rfl⟩
theorem e302 : Entry E 302 d302 (plT 302) := ⟨⟨Tryz.f302, Tryz.func302, rfl, Tryz.ntmps302, congrArg Array.toList Tryz.results302⟩, Tryz.call302, by kernel_rfl⟩
theorem e303 : Entry E 303 d303 (plT 303) := ⟨⟨Tryz.f303, Tryz.func303, rfl, Tryz.ntmps303, congrArg Array.toList Tryz.results303⟩, Tryz.call303, by kernel_rfl⟩
theorem e304 : Entry E 304 d304 (plT 304) := ⟨⟨Tryz.f304, Tryz.func304, rfl, Tryz.ntmps304, congrArg Array.toList Tryz.results304⟩, Tryz.call304, by kernel_rfl⟩
theorem e305 : Entry E 305 d305 (plT 305) := ⟨⟨Tryz.f305, Tryz.func305, rfl, Tryz.ntmps305, congrArg Array.toList Tryz.results305⟩, Tryz.call305, by kernel_rfl⟩
theorem e306 : Entry E 306 d306 (plT 306) := ⟨⟨Tryz.f306, Tryz.func306, rfl, Tryz.ntmps306, congrArg Array.toList Tryz.results306⟩, Tryz.call306, by kernel_rfl⟩
theorem e307 : Entry E 307 d307 (plT 307) := ⟨⟨Tryz.f307, Tryz.func307, rfl, Tryz.ntmps307, congrArg Array.toList Tryz.results307⟩, Tryz.call307, by kernel_rfl⟩
theorem e308 : Entry E 308 d308 (plT 308) := ⟨⟨Tryz.f308, Tryz.func308, rfl, Tryz.ntmps308, congrArg Array.toList Tryz.results308⟩, Tryz.call308, by kernel_rfl⟩
theorem e309 : Entry E 309 d309 (plT 309) := ⟨⟨Tryz.f309, Tryz.func309, rfl, Tryz.ntmps309, congrArg Array.toList Tryz.results309⟩, Tryz.call309, by kernel_rfl⟩
theorem e310 : Entry E 310 d310 (plT 310) := ⟨⟨Tryz.f310, Tryz.func310, rfl, Tryz.ntmps310, congrArg Array.toList Tryz.results310⟩, Tryz.call310, by kernel_rfl⟩
theorem e311 : Entry E 311 d311 (plT 311) := ⟨⟨Tryz.f311, Tryz.func311, rfl, Tryz.ntmps311, congrArg Array.toList Tryz.results311⟩, Tryz.call311, by kernel_rfl⟩
theorem e312 : Entry E 312 d312 (plT 312) := ⟨⟨Tryz.f312, Tryz.func312, rfl, Tryz.ntmps312, congrArg Array.toList Tryz.results312⟩, Tryz.call312, by kernel_rfl⟩
theorem e313 : Entry E 313 d313 (plT 313) := ⟨⟨Tryz.f313, Tryz.func313, rfl, Tryz.ntmps313, congrArg Array.toList Tryz.results313⟩, Tryz.call313, by kernel_rfl⟩
theorem e314 : Entry E 314 d314 (plT 314) := ⟨⟨Tryz.f314, Tryz.func314, rfl, Tryz.ntmps314, congrArg Array.toList Tryz.results314⟩, Tryz.call314, by kernel_rfl⟩
theorem e315 : Entry E 315 d315 (plT 315) := ⟨⟨Tryz.f315, Tryz.func315, rfl, Tryz.ntmps315, congrArg Array.toList Tryz.results315⟩, Tryz.call315, by kernel_rfl⟩
theorem e316 : Entry E 316 d316 (plT 316) := ⟨⟨Tryz.f316, Tryz.func316, rfl, Tryz.ntmps316, congrArg Array.toList Tryz.results316⟩, Tryz.call316, by kernel_rfl⟩
theorem e317 : Entry E 317 d317 (plT 317) := ⟨⟨Tryz.f317, Tryz.func317, rfl, Tryz.ntmps317, congrArg Array.toList Tryz.results317⟩, Tryz.call317, by kernel_rfl⟩
theorem e318 : Entry E 318 d318 (plT 318) := ⟨⟨Tryz.f318, Tryz.func318, rfl, Tryz.ntmps318, congrArg Array.toList Tryz.results318⟩, Tryz.call318, by kernel_rfl⟩
theorem e319 : Entry E 319 d319 (plT 319) := ⟨⟨Tryz.f319, Tryz.func319, rfl, Tryz.ntmps319, congrArg Array.toList Tryz.results319⟩, Tryz.call319, by kernel_rfl⟩
theorem e320 : Entry E 320 d320 (plT 320) := ⟨⟨Tryz.f320, Tryz.func320, rfl, Tryz.ntmps320, congrArg Array.toList Tryz.results320⟩, Tryz.call320, by kernel_rfl⟩
theorem e321 : Entry E 321 d321 (plT 321) := ⟨⟨Tryz.f321, Tryz.func321, rfl, Tryz.ntmps321, congrArg Array.toList Tryz.results321⟩, Tryz.call321, by kernel_rfl⟩
theorem e322 : Entry E 322 d322 (plT 322) := ⟨⟨Tryz.f322, Tryz.func322, rfl, Tryz.ntmps322, congrArg Array.toList Tryz.results322⟩, Tryz.call322, by kernel_rfl⟩
theorem e323 : Entry E 323 d323 (plT 323) := ⟨⟨Tryz.f323, Tryz.func323, rfl, Tryz.ntmps323, congrArg Array.toList Tryz.results323⟩, Tryz.call323, by kernel_rfl⟩
theorem e324 : Entry E 324 d324 (plT 324) := ⟨⟨Tryz.f324, Tryz.func324, rfl, Tryz.ntmps324, congrArg Array.toList Tryz.results324⟩, Tryz.call324, by kernel_rfl⟩
theorem e325 : Entry E 325 d325 (plT 325) := ⟨⟨Tryz.f325, Tryz.func325, rfl, Tryz.ntmps325, congrArg Array.toList Tryz.results325⟩, Tryz.call325, by kernel_rfl⟩
theorem e326 : Entry E 326 d326 (plT 326) := ⟨⟨Tryz.f326, Tryz.func326, rfl, Tryz.ntmps326, congrArg Array.toList Tryz.results326⟩, Tryz.call326, by kernel_rfl⟩
theorem e327 : Entry E 327 d327 (plT 327) := ⟨⟨Tryz.f327, Tryz.func327, rfl, Tryz.ntmps327, congrArg Array.toList Tryz.results327⟩, Tryz.call327, by kernel_rfl⟩
theorem e328 : Entry E 328 d328 (plT 328) := ⟨⟨Tryz.f328, Tryz.func328, rfl, Tryz.ntmps328, congrArg Array.toList Tryz.results328⟩, Tryz.call328, by kernel_rfl⟩
theorem e329 : Entry E 329 d329 (plT 329) := ⟨⟨Tryz.f329, Tryz.func329, rfl, Tryz.ntmps329, congrArg Array.toList Tryz.results329⟩, Tryz.call329, by kernel_rfl⟩
theorem e330 : Entry E 330 d330 (plT 330) := ⟨⟨Tryz.f330, Tryz.func330, rfl, Tryz.ntmps330, congrArg Array.toList Tryz.results330⟩, Tryz.call330, by kernel_rfl⟩
theorem e331 : Entry E 331 d331 (plT 331) := ⟨⟨Tryz.f331, Tryz.func331, rfl, Tryz.ntmps331, congrArg Array.toList Tryz.results331⟩, Tryz.call331, by kernel_rfl⟩
theorem e332 : Entry E 332 d332 (plT 332) := ⟨⟨Tryz.f332, Tryz.func332, rfl, Tryz.ntmps332, congrArg Array.toList Tryz.results332⟩, Tryz.call332, by kernel_rfl⟩
theorem e333 : Entry E 333 d333 (plT 333) := ⟨⟨Tryz.f333, Tryz.func333, rfl, Tryz.ntmps333, congrArg Array.toList Tryz.results333⟩, Tryz.call333, by kernel_rfl⟩
theorem e334 : Entry E 334 d334 (plT 334) := ⟨⟨Tryz.f334, Tryz.func334, rfl, Tryz.ntmps334, congrArg Array.toList Tryz.results334⟩, Tryz.call334, by kernel_rfl⟩
theorem e335 : Entry E 335 d335 (plT 335) := ⟨⟨Tryz.f335, Tryz.func335, rfl, Tryz.ntmps335, congrArg Array.toList Tryz.results335⟩, Tryz.call335, by kernel_rfl⟩
theorem e336 : Entry E 336 d336 (plT 336) := ⟨⟨Tryz.f336, Tryz.func336, rfl, Tryz.ntmps336, congrArg Array.toList Tryz.results336⟩, Tryz.call336, by kernel_rfl⟩
theorem e371 : Entry E 371 d371 (plT 371) := ⟨⟨Tryz.f371, Tryz.func371, rfl, Tryz.ntmps371, congrArg Array.toList Tryz.results371⟩, Tryz.call371, by kernel_rfl⟩
theorem entAll : FT.AllP fun g d => Entry E g d (plT g) := ⟨⟨⟨⟨⟨⟨⟨⟨⟨trivial, e2, trivial⟩, e3, trivial⟩, e4, ⟨⟨trivial, e5, trivial⟩, e6, trivial⟩⟩, e7, ⟨⟨⟨trivial, e8, trivial⟩, e9, trivial⟩, e10, ⟨trivial, e11, trivial⟩⟩⟩, e12, ⟨⟨⟨⟨trivial, e13, trivial⟩, e14, trivial⟩, e15, ⟨trivial, e16, trivial⟩⟩, e17, ⟨⟨⟨trivial, e18, trivial⟩, e19, trivial⟩, e20, ⟨trivial, e21, trivial⟩⟩⟩⟩, e22, ⟨⟨⟨⟨⟨trivial, e23, trivial⟩, e24, trivial⟩, e25, ⟨⟨trivial, e26, trivial⟩, e27, trivial⟩⟩, e28, ⟨⟨⟨trivial, e29, trivial⟩, e30, trivial⟩, e31, ⟨trivial, e32, trivial⟩⟩⟩, e33, ⟨⟨⟨⟨trivial, e34, trivial⟩, e35, trivial⟩, e36, ⟨trivial, e37, trivial⟩⟩, e38, ⟨⟨⟨trivial, e39, trivial⟩, e40, trivial⟩, e41, ⟨trivial, e42, trivial⟩⟩⟩⟩⟩, e43, ⟨⟨⟨⟨⟨⟨trivial, e44, trivial⟩, e45, trivial⟩, e46, ⟨⟨trivial, e47, trivial⟩, e48, trivial⟩⟩, e49, ⟨⟨⟨trivial, e50, trivial⟩, e51, trivial⟩, e52, ⟨trivial, e53, trivial⟩⟩⟩, e54, ⟨⟨⟨⟨trivial, e55, trivial⟩, e56, trivial⟩, e57, ⟨trivial, e58, trivial⟩⟩, e59, ⟨⟨⟨trivial, e60, trivial⟩, e61, trivial⟩, e62, ⟨trivial, e63, trivial⟩⟩⟩⟩, e64, ⟨⟨⟨⟨⟨trivial, e65, trivial⟩, e66, trivial⟩, e67, ⟨trivial, e68, trivial⟩⟩, e69, ⟨⟨⟨trivial, e70, trivial⟩, e71, trivial⟩, e72, ⟨trivial, e73, trivial⟩⟩⟩, e74, ⟨⟨⟨⟨trivial, e75, trivial⟩, e76, trivial⟩, e77, ⟨trivial, e78, trivial⟩⟩, e79, ⟨⟨⟨trivial, e80, trivial⟩, e81, trivial⟩, e83, ⟨trivial, e84, trivial⟩⟩⟩⟩⟩⟩, e85, ⟨⟨⟨⟨⟨⟨⟨trivial, e86, trivial⟩, e87, trivial⟩, e88, ⟨⟨trivial, e89, trivial⟩, e90, trivial⟩⟩, e91, ⟨⟨⟨trivial, e92, trivial⟩, e93, trivial⟩, e94, ⟨trivial, e95, trivial⟩⟩⟩, e96, ⟨⟨⟨⟨trivial, e97, trivial⟩, e98, trivial⟩, e99, ⟨trivial, e100, trivial⟩⟩, e101, ⟨⟨⟨trivial, e102, trivial⟩, e103, trivial⟩, e104, ⟨trivial, e105, trivial⟩⟩⟩⟩, e106, ⟨⟨⟨⟨⟨trivial, e107, trivial⟩, e108, trivial⟩, e109, ⟨⟨trivial, e110, trivial⟩, e111, trivial⟩⟩, e112, ⟨⟨⟨trivial, e113, trivial⟩, e114, trivial⟩, e115, ⟨trivial, e116, trivial⟩⟩⟩, e117, ⟨⟨⟨⟨trivial, e118, trivial⟩, e119, trivial⟩, e120, ⟨trivial, e121, trivial⟩⟩, e122, ⟨⟨⟨trivial, e123, trivial⟩, e124, trivial⟩, e125, ⟨trivial, e126, trivial⟩⟩⟩⟩⟩, e127, ⟨⟨⟨⟨⟨⟨trivial, e128, trivial⟩, e130, trivial⟩, e131, ⟨⟨trivial, e132, trivial⟩, e133, trivial⟩⟩, e134, ⟨⟨⟨trivial, e135, trivial⟩, e136, trivial⟩, e137, ⟨trivial, e138, trivial⟩⟩⟩, e139, ⟨⟨⟨⟨trivial, e140, trivial⟩, e141, trivial⟩, e142, ⟨trivial, e143, trivial⟩⟩, e144, ⟨⟨⟨trivial, e145, trivial⟩, e146, trivial⟩, e147, ⟨trivial, e148, trivial⟩⟩⟩⟩, e149, ⟨⟨⟨⟨⟨trivial, e152, trivial⟩, e153, trivial⟩, e154, ⟨trivial, e155, trivial⟩⟩, e156, ⟨⟨⟨trivial, e157, trivial⟩, e158, trivial⟩, e159, ⟨trivial, e160, trivial⟩⟩⟩, e161, ⟨⟨⟨⟨trivial, e162, trivial⟩, e163, trivial⟩, e164, ⟨trivial, e165, trivial⟩⟩, e166, ⟨⟨⟨trivial, e167, trivial⟩, e168, trivial⟩, e169, ⟨trivial, e170, trivial⟩⟩⟩⟩⟩⟩⟩, e171, ⟨⟨⟨⟨⟨⟨⟨⟨trivial, e172, trivial⟩, e173, trivial⟩, e174, ⟨⟨trivial, e175, trivial⟩, e176, trivial⟩⟩, e177, ⟨⟨⟨trivial, e178, trivial⟩, e179, trivial⟩, e180, ⟨trivial, e181, trivial⟩⟩⟩, e182, ⟨⟨⟨⟨trivial, e183, trivial⟩, e184, trivial⟩, e185, ⟨trivial, e187, trivial⟩⟩, e188, ⟨⟨⟨trivial, e189, trivial⟩, e190, trivial⟩, e191, ⟨trivial, e192, trivial⟩⟩⟩⟩, e193, ⟨⟨⟨⟨⟨trivial, e194, trivial⟩, e195, trivial⟩, e196, ⟨⟨trivial, e197, trivial⟩, e198, trivial⟩⟩, e199, ⟨⟨⟨trivial, e200, trivial⟩, e201, trivial⟩, e202, ⟨trivial, e203, trivial⟩⟩⟩, e204, ⟨⟨⟨⟨trivial, e205, trivial⟩, e206, trivial⟩, e207, ⟨trivial, e208, trivial⟩⟩, e209, ⟨⟨⟨trivial, e210, trivial⟩, e211, trivial⟩, e212, ⟨trivial, e213, trivial⟩⟩⟩⟩⟩, e214, ⟨⟨⟨⟨⟨⟨trivial, e215, trivial⟩, e216, trivial⟩, e217, ⟨⟨trivial, e218, trivial⟩, e219, trivial⟩⟩, e220, ⟨⟨⟨trivial, e221, trivial⟩, e222, trivial⟩, e223, ⟨trivial, e224, trivial⟩⟩⟩, e225, ⟨⟨⟨⟨trivial, e226, trivial⟩, e227, trivial⟩, e228, ⟨trivial, e229, trivial⟩⟩, e230, ⟨⟨⟨trivial, e231, trivial⟩, e232, trivial⟩, e233, ⟨trivial, e234, trivial⟩⟩⟩⟩, e235, ⟨⟨⟨⟨⟨trivial, e236, trivial⟩, e237, trivial⟩, e238, ⟨trivial, e239, trivial⟩⟩, e240, ⟨⟨⟨trivial, e241, trivial⟩, e242, trivial⟩, e243, ⟨trivial, e244, trivial⟩⟩⟩, e245, ⟨⟨⟨⟨trivial, e246, trivial⟩, e247, trivial⟩, e248, ⟨trivial, e249, trivial⟩⟩, e250, ⟨⟨⟨trivial, e251, trivial⟩, e252, trivial⟩, e253, ⟨trivial, e254, trivial⟩⟩⟩⟩⟩⟩, e255, ⟨⟨⟨⟨⟨⟨⟨trivial, e256, trivial⟩, e257, trivial⟩, e258, ⟨⟨trivial, e259, trivial⟩, e260, trivial⟩⟩, e261, ⟨⟨⟨trivial, e262, trivial⟩, e263, trivial⟩, e264, ⟨trivial, e265, trivial⟩⟩⟩, e266, ⟨⟨⟨⟨trivial, e267, trivial⟩, e268, trivial⟩, e269, ⟨trivial, e270, trivial⟩⟩, e271, ⟨⟨⟨trivial, e272, trivial⟩, e273, trivial⟩, e274, ⟨trivial, e275, trivial⟩⟩⟩⟩, e276, ⟨⟨⟨⟨⟨trivial, e277, trivial⟩, e278, trivial⟩, e279, ⟨⟨trivial, e280, trivial⟩, e281, trivial⟩⟩, e282, ⟨⟨⟨trivial, e283, trivial⟩, e284, trivial⟩, e285, ⟨trivial, e286, trivial⟩⟩⟩, e287, ⟨⟨⟨⟨trivial, e288, trivial⟩, e289, trivial⟩, e290, ⟨trivial, e291, trivial⟩⟩, e292, ⟨⟨⟨trivial, e293, trivial⟩, e294, trivial⟩, e295, ⟨trivial, e296, trivial⟩⟩⟩⟩⟩, e297, ⟨⟨⟨⟨⟨⟨trivial, e298, trivial⟩, e299, trivial⟩, e300, ⟨⟨trivial, e301, trivial⟩, e302, trivial⟩⟩, e303, ⟨⟨⟨trivial, e304, trivial⟩, e305, trivial⟩, e306, ⟨trivial, e307, trivial⟩⟩⟩, e308, ⟨⟨⟨⟨trivial, e309, trivial⟩, e310, trivial⟩, e311, ⟨trivial, e312, trivial⟩⟩, e313, ⟨⟨⟨trivial, e314, trivial⟩, e315, trivial⟩, e316, ⟨trivial, e317, trivial⟩⟩⟩⟩, e318, ⟨⟨⟨⟨⟨trivial, e319, trivial⟩, e320, trivial⟩, e321, ⟨trivial, e322, trivial⟩⟩, e323, ⟨⟨⟨trivial, e324, trivial⟩, e325, trivial⟩, e326, ⟨trivial, e327, trivial⟩⟩⟩, e328, ⟨⟨⟨⟨trivial, e329, trivial⟩, e330, trivial⟩, e331, ⟨trivial, e332, trivial⟩⟩, e333, ⟨⟨⟨trivial, e334, trivial⟩, e335, trivial⟩, e336, ⟨trivial, e371, trivial⟩⟩⟩⟩⟩⟩⟩⟩
end Go.Rm
end

section
/- ScriptWords: the program's Number and the document's, walked. -/
namespace Go.Rm
open Go.Proofs
set_option maxRecDepth 20000
set_option maxHeartbeats 2000000
set_option linter.unusedSimpArgs false

def numG : List UInt8 → Nat → Option Nat
  | [], a => some a
  | d :: r, a => if d.toNat < 48 ∨ 57 < d.toNat then none else numG r (10 * a + (d.toNat - 48))

def numX : Option Nat → AV
  | some n => .tup [.v (.int .i64 n), .v (.bool true)]
  | none => .tup [.v (.int .i64 0), .v (.bool false)]

def numR (s : ByteArray) : AV :=
  if s.size < 1 ∨ 9 < s.size then numX none else numX (numG s.data.toList 0)

theorem numX_lt (o : Option Nat) : (numX o).lt 0 = true := by cases o <;> simp [numX]
theorem numR_lt (s : ByteArray) : (numR s).lt 0 = true := by unfold numR; split <;> exact numX_lt _

theorem numG_step {l : List UInt8} {i : Nat} (h : i < l.length) (a : Nat) :
    numG (l.drop i) a = if (l[i]?.getD 0).toNat < 48 ∨ 57 < (l[i]?.getD 0).toNat then none else numG (l.drop (i + 1)) (10 * a + ((l[i]?.getD 0).toNat - 48)) := by
  rw [List.drop_eq_getElem_cons h, numG]
  simp [h]

theorem number_sp (s : ByteArray) : Sp E 5 0 [] [.v (.string s)] (fun x H => x = numR s ∧ H = []) := by
  refine e5.sp okE 400 (Nat.le_refl _) rfl rfl ?_
  have hcf := e5.cfg (k0 := 0) (Q := Clean 0 fun x H => x = numR s ∧ H = []) okE
  have D4 : E.D 4 = some td4 := rfl
  have D3 : E.D 3 = some td3 := rfl
  have D5 : E.D 5 = some td5 := rfl
  have D9 : E.D 9 = some td9 := rfl
  simp only [d5, bodyOf, Tryz.f5] at hcf ⊢
  simp [D4, td4, D3, td3, D5, td5, D9, td9]
  refine ⟨fun h => ?_, fun h0 => ⟨fun h => ?_, fun h1 => ?_⟩⟩
  · refine Clean.v' rfl ⟨?_, rfl⟩
    rw [numR, if_pos (.inl (by have : s.size = 0 := by rw [ByteArray.size, h]; rfl
                               omega))]; rfl
  · refine Clean.v' rfl ⟨?_, rfl⟩
    rw [numR, if_pos (.inr (by omega))]; rfl
  have hs : s.data.toList.length = s.size := Array.length_toList
  have hR : numR s = numX (numG s.data.toList 0) := by
    rw [numR, if_neg]
    rintro (h | h)
    · exact h0 (by apply Array.toList_inj.1; exact List.length_eq_zero_iff.1 (by omega))
    · omega
  rw [hR] at hcf ⊢
  refine LoopV.by hcf (X := Nat × Nat) (fun i => ⟨[(0, .v (.string s)), (14, .v (.int .i64 s.size)), (4, .v (.int .i64 i.2)), (15, .v (.int .i64 i.1))], []⟩)
    (fun i => i.1 ≤ s.size ∧ i.2 < 10 ^ i.1 ∧ numG (s.data.toList.drop i.1) i.2 = numG s.data.toList 0) (fun i => s.size - i.1) (0, 0) [] 400 ?_ ?_ ?_
  · simp
  · simp [Weak, Sub]
  rintro ⟨i, a⟩ ⟨h2, h3, h4⟩ ih
  simp only [] at h2 h3 h4
  have hp : 10 ^ i ≤ 10 ^ 9 := Nat.pow_le_pow_right (by omega) (by omega)
  have hp2 : 10 ^ (i + 1) = 10 * 10 ^ i := by rw [Nat.pow_succ, Nat.mul_comm]
  simp [D4, td4, D3, td3, D5, td5, D9, td9]
  refine ⟨fun h => ?_, fun h => ?_⟩
  rotate_left
  · refine Clean.v' rfl ⟨?_, rfl⟩
    rw [← h4, List.drop_eq_nil_of_le (by omega)]; rfl
  have hst := numG_step (l := s.data.toList) (i := i) (by omega) a
  rw [h4] at hst
  have hget : s.data.toList[i]?.getD 0 = s.data[i]?.getD 0 := by simp
  rw [hget] at hst
  generalize s.data[i]?.getD 0 = d at *
  have hd := UInt8.toNat_lt d
  refine ⟨h, fun h5 => ?_, fun h5 => ⟨h, fun h6 => ?_, fun h6 => ⟨h, ?_⟩⟩⟩
  · refine Clean.v' rfl ⟨?_, rfl⟩
    rw [hst, if_pos (.inl (by omega))]; rfl
  · refine Clean.v' rfl ⟨?_, rfl⟩
    rw [hst, if_pos (.inr (by omega))]; rfl
  · rw [if_neg (by omega)] at hst
    refine (ih (i + 1, 10 * a + (d.toNat - 48)) ⟨by simp only []; omega, by simp only []; omega, by simp only []; exact hst.symm⟩ (by simp only []; omega)).to [] ?_
    simp [Weak, Sub]
    rw [wrapU8 (by omega) (by omega), wrapI (n := d.toNat - 48) (by omega) (by omega), wrapI (n := 10 * a) (by omega) (by omega), wrapI (by omega) (by omega), wrapI (by omega) (by omega)]
    omega
theorem refNumber_sp (s : ByteArray) : Sp E 6 0 [] [.v (.string s)] (fun x H => x = numR s ∧ H = []) := by
  refine e6.sp okE 400 (Nat.le_refl _) rfl rfl ?_
  have hcf := e6.cfg (k0 := 0) (Q := Clean 0 fun x H => x = numR s ∧ H = []) okE
  have D4 : E.D 4 = some td4 := rfl
  have D3 : E.D 3 = some td3 := rfl
  have D5 : E.D 5 = some td5 := rfl
  have D9 : E.D 9 = some td9 := rfl
  simp only [d6, bodyOf, Tryz.f6] at hcf ⊢
  simp [D4, td4, D3, td3, D5, td5, D9, td9]
  refine ⟨fun h => ?_, fun h0 => ⟨fun h => ?_, fun h1 => ?_⟩⟩
  · refine Clean.v' rfl ⟨?_, rfl⟩
    rw [numR, if_pos (.inl (by omega))]; rfl
  · refine Clean.v' rfl ⟨?_, rfl⟩
    rw [numR, if_pos (.inr (by omega))]; rfl
  have hs : s.data.toList.length = s.size := Array.length_toList
  have hR : numR s = numX (numG s.data.toList 0) := by
    rw [numR, if_neg]
    rintro (h | h) <;> omega
  rw [hR] at hcf ⊢
  refine LoopV.by hcf (X := Nat × Nat) (fun i => ⟨[(0, .v (.string s)), (4, .v (.int .i64 i.2)), (5, .v (.int .i64 i.1))], []⟩)
    (fun i => i.1 ≤ s.size ∧ i.2 < 10 ^ i.1 ∧ numG (s.data.toList.drop i.1) i.2 = numG s.data.toList 0) (fun i => s.size - i.1) (0, 0) [] 400 ?_ ?_ ?_
  · simp
  · simp [Weak, Sub]
  rintro ⟨i, a⟩ ⟨h2, h3, h4⟩ ih
  simp only [] at h2 h3 h4
  have hp : 10 ^ i ≤ 10 ^ 9 := Nat.pow_le_pow_right (by omega) (by omega)
  have hp2 : 10 ^ (i + 1) = 10 * 10 ^ i := by rw [Nat.pow_succ, Nat.mul_comm]
  simp [D4, td4, D3, td3, D5, td5, D9, td9]
  refine ⟨fun h => ?_, fun h => ?_⟩
  rotate_left
  · refine Clean.v' rfl ⟨?_, rfl⟩
    rw [← h4, List.drop_eq_nil_of_le (by omega)]; rfl
  have hst := numG_step (l := s.data.toList) (i := i) (by omega) a
  rw [h4] at hst
  have hget : s.data.toList[i]?.getD 0 = s.data[i]?.getD 0 := by simp
  rw [hget] at hst
  generalize s.data[i]?.getD 0 = d at *
  have hd := UInt8.toNat_lt d
  refine ⟨h, fun h5 => ?_, fun h5 => ⟨h, fun h6 => ?_, fun h6 => ⟨h, ?_⟩⟩⟩
  · refine Clean.v' rfl ⟨?_, rfl⟩
    rw [hst, if_pos (.inl (by omega))]; rfl
  · refine Clean.v' rfl ⟨?_, rfl⟩
    rw [hst, if_pos (.inr (by omega))]; rfl
  · rw [if_neg (by omega)] at hst
    refine (ih (i + 1, 10 * a + (d.toNat - 48)) ⟨by simp only []; omega, by simp only []; omega, by simp only []; exact hst.symm⟩ (by simp only []; omega)).to [] ?_
    simp [Weak, Sub]
    rw [wrapU8 (by omega) (by omega), wrapI (n := d.toNat - 48) (by omega) (by omega), wrapI (n := a * 10) (by omega) (by omega), wrapI (by omega) (by omega), wrapI (by omega) (by omega)]
    omega
end Go.Rm
end

section
/- ScriptWords: strings.Join by the shelf's contract, laid at this program by the kit's own tool. -/
namespace Go.Proofs
open Go.Shelf
def Tryz.lays156_ren : Go.Shelf.Ren := ⟨fun | 156 => 43 | 165 => 61 | 166 => 62 | 169 => 63 | 240 => 100 | 241 => 101 | 276 => 150 | 277 => 151 | n => n, fun | 31 => 27 | 9 => 9 | 3 => 3 | 4 => 4 | 0 => 0 | 20 => 20 | 72 => 110 | 76 => 114 | 70 => 107 | 37 => 108 | 75 => 113 | 127 => 173 | 164 => 241 | 5 => 5 | 80 => 116 | n => n, fun | n => n⟩
theorem Tryz.lays156 : Go.Proofs.Lays.n156 Tryz.prog Tryz.lays156_ren := {
  mixed := by kernel_rfl
  f156 := Tryz.func43.trans (congrArg some (by kernel_rfl))
  f165 := Tryz.func61.trans (congrArg some (by kernel_rfl))
  f166 := Tryz.func62.trans (congrArg some (by kernel_rfl))
  f169 := Tryz.func63.trans (congrArg some (by kernel_rfl))
  f240 := Tryz.func100.trans (congrArg some (by kernel_rfl))
  f241 := Tryz.func101.trans (congrArg some (by kernel_rfl))
  f276 := Tryz.func150.trans (congrArg some (by kernel_rfl))
  f277 := Tryz.func151.trans (congrArg some (by kernel_rfl))
  t0 := Tryz.underlying0
  a0 := Tryz.isAgg0
  z0 := Tryz.sizeOf0
  v0 := Tryz.zeroValue0
  t3 := Tryz.underlying3
  a3 := Tryz.isAgg3
  z3 := Tryz.sizeOf3
  v3 := Tryz.zeroValue3
  t4 := Tryz.underlying4
  a4 := Tryz.isAgg4
  z4 := Tryz.sizeOf4
  v4 := Tryz.zeroValue4
  t9 := Tryz.underlying9
  a9 := Tryz.isAgg9
  z9 := Tryz.sizeOf9
  v9 := Tryz.zeroValue9
  t20 := Tryz.underlying20
  a20 := Tryz.isAgg20
  z20 := Tryz.sizeOf20
  v20 := Tryz.zeroValue20
  t31 := Tryz.underlying27
  a31 := Tryz.isAgg27
  z31 := Tryz.sizeOf27
  v31 := Tryz.zeroValue27
  t37 := Tryz.underlying108
  a37 := Tryz.isAgg108
  z37 := Tryz.sizeOf108
  v37 := Tryz.zeroValue108
  t70 := Tryz.underlying107
  a70 := Tryz.isAgg107
  z70 := Tryz.sizeOf107
  v70 := Tryz.zeroValue107
  t72 := Tryz.underlying110
  a72 := Tryz.isAgg110
  z72 := Tryz.sizeOf110
  v72 := Tryz.zeroValue110
  t75 := Tryz.underlying113
  a75 := Tryz.isAgg113
  z75 := Tryz.sizeOf113
  v75 := Tryz.zeroValue113
  t76 := Tryz.underlying114
  a76 := Tryz.isAgg114
  z76 := Tryz.sizeOf114
  v76 := Tryz.zeroValue114
  t127 := Tryz.underlying173
  a127 := Tryz.isAgg173
  z127 := Tryz.sizeOf173
  v127 := Tryz.zeroValue173
  t164 := Tryz.underlying241
  a164 := Tryz.isAgg241
  z164 := Tryz.sizeOf241
  v164 := Tryz.zeroValue241 }
theorem Tryz.Builder_Extra_156 : Builder.Extra Tryz.prog Tryz.lays156_ren := {
  sizeBuilder := by kernel_rfl
  liesBuilder := by kernel_rfl
  t5 := Tryz.underlying5
  a5 := Tryz.isAgg5
  z5 := Tryz.sizeOf5
  v5 := Tryz.zeroValue5
  infoByte := by kernel_rfl
  cellsByte := by kernel_rfl
  sizeByte := by kernel_rfl
  neB5 := by decide }
open Go.RowKit in
/-- No element: the empty string; the world is as it was. (Whatever the slice's address and capacity: a nil slice too.) (LAID: no walk: one application.) -/
theorem Tryz.strings_Join_none (a : Option Addr) (c : Nat) (sep : ByteArray) (w : World) :
    Calls Tryz.prog 43 #[.slice a 0 c, .string sep] w fun e w' => e = .returned (.string ⟨#[]⟩) ∧ w' = w := Any.strings_Join_none Tryz.lays156 Tryz.Builder_Extra_156 a c sep w
open Go.RowKit in
/-- strings.Join: "Join concatenates the elements of its first argument to create a single string. The separator string sep is placed between elements in the resulting string.": HOWEVER MANY ELEMENTS. Below the heap's end the world is as it was. (LAID: no walk: one application.) -/
theorem Tryz.strings_Join (bk o c : Nat) (xs : List ByteArray) (sep : ByteArray) (w : World) (hcells : ∀ (j : Nat) x, xs[j]? = some x → w.cell? ⟨bk, o + j, none⟩ = some (.string x)) (hbk : bk < w.heap.size) (hN : xs.length ≤ 140737488355328) (hcap : xs.length ≤ c) (hlen : (Lib.join (xs.map (·.data.toList)) sep.data.toList).length ≤ 140737488355328) :
    Calls Tryz.prog 43 #[.slice (some ⟨bk, o, none⟩) xs.length c, .string sep] w fun e w' => e = .returned (.string ⟨(Lib.join (xs.map (·.data.toList)) sep.data.toList).toArray⟩) ∧ Below w.heap.size w w' := Any.strings_Join Tryz.lays156 Tryz.Builder_Extra_156 bk o c xs sep w hcells hbk hN hcap hlen

end Go.Proofs
end

section
/- ScriptWords: the law's walk. -/
namespace Go.Rm
open Go.Proofs
set_option maxRecDepth 20000
set_option maxHeartbeats 2000000
set_option linter.unusedSimpArgs false

theorem allStr_row : ∀ {xs : List (List AV)} {l : List ByteArray}, allStr xs = some l → xs = strRow l
  | [], l, h => by simp only [allStr, Option.some.injEq] at h; subst h; rfl
  | x :: r, l, h => by
    unfold allStr at h
    split at h
    · rename_i h0; simp at h0
    · rename_i b r' h0
      split at h
      · rename_i l' hl
        cases h
        cases h0
        rw [allStr_row hl]; rfl
      · simp at h
    · simp at h

theorem joinX_ok : CallOK E joinX := by
  intro g args H x H' h
  unfold joinX at h
  simp only [cond_eq_ite] at h
  split at h
  rotate_left
  · simp at h
  rename_i hg
  rw [Nat.eq_of_beq_eq_true hg]
  split at h
  · rename_i n sep
    split at h
    rotate_left
    · simp at h
    rename_i sz xs hn
    split at h
    rotate_left
    · simp at h
    rename_i hsz
    rw [Nat.eq_of_beq_eq_true hsz] at hn
    split at h
    rotate_left
    · simp at h
    rename_i l hl
    split at h
    rotate_left
    · simp at h
    rename_i hb
    simp only [Bool.and_eq_true] at hb
    cases h
    have hlen : n < H.length := (List.getElem?_eq_some_iff.1 hn).1
    rw [allStr_row hl] at hn
    refine ⟨by simp [AV.ltL, AV.lt, hlen], Sp.lift okE Tryz.call43 (Nat.le_refl _) rfl fun ρ w Fs hs _ => ?_⟩
    simp only [AV.vals, AV.val]
    rcases strRow_cells hs hn with ⟨rfl, hv⟩ | ⟨b, o, cap, hv, hcap, hbk, hcells⟩
    · rw [hv]
      refine (Tryz.strings_Join_none none 0 sep w).mono ?_
      rintro e w' ⟨rfl, rfl⟩
      exact ⟨rfl, .refl _ _⟩
    · rw [hv]
      exact Tryz.strings_Join b o cap l sep w hcells hbk (Nat.le_of_ble_eq_true hb.1) hcap (Nat.le_of_ble_eq_true hb.2)
  · cases h
    refine ⟨rfl, Sp.lift okE Tryz.call43 (Nat.le_refl _) rfl fun ρ w Fs hs _ => ?_⟩
    simp only [AV.vals, AV.val]
    refine (Tryz.strings_Join_none none 0 _ w).mono ?_
    rintro e w' ⟨rfl, rfl⟩
    exact ⟨rfl, .refl _ _⟩
  · simp at h

theorem entOf {t : FuncId} {d : FnD} (h : fnT t = some d) : Entry E t d (plT t) := BT.AllP_get (p := fun t d => Entry E t d (plT t)) entAll h

theorem shown_sp : Sp E 4 0 [] [] (fun x H => x = .v (.bool true)) := by
  have h := callT_ok (plT := plT) (grow := 24) okE (fun g d h => entOf h) joinX_ok 40
  have ht := t1
  split at ht
  · rename_i b H' hc
    subst ht
    exact (h 4 [] [] _ _ hc).2.mono fun x H h => h.1
  · simp at ht

theorem numX_tup (o : Option Nat) : ∃ n b, numX o = .tup [.v (.int .i64 n), .v (.bool b)] := by cases o <;> exact ⟨_, _, rfl⟩
theorem numR_tup (s : ByteArray) : ∃ n b, numR s = .tup [.v (.int .i64 n), .v (.bool b)] := by unfold numR; split <;> exact numX_tup _

theorem CallK.pure {E : Env} {g : FuncId} {args : List AV} {H : List Chunk} {K Qc : AV → List Chunk → Prop} (h : Sp E g 0 [] args Qc) (ha : ∀ m, AV.ltL m args = true)
    (hK : ∀ x H', Qc x H' → K (x.ren fun n => H.length + n) (H ++ H'.map (Chunk.ren fun n => H.length + n))) : CallK E g args H K := by
  refine .of [] h ?_ ⟨List.nodup_nil, trivial⟩ (Nat.le_refl _) fun x H' hq _ => ?_
  · rw [AV.renL_congr (g := fun n => n) (m := 0) (fun n hn => by omega) args (ha 0), AV.renL_id]
  · have := hK x H' hq
    have e1 : tau [] 0 H.length = fun n => H.length + n := by funext n; simp [tau]
    have e2 : ∀ (f : Nat → Nat) (l : List Chunk) (i : Nat), mergeAt [] 0 H' f i l = l := by
      intro f l
      induction l with
      | nil => intro i; rfl
      | cons x r ih => intro i; simp [mergeAt, posN, ih]
    simpa [e1, e2, mergeH, renH] using this

theorem words_sp (s : ByteArray) : Sp E 3 0 [] [.v (.string s)] (fun x _ => x = .v (.bool true)) := by
  refine e3.sp okE 400 (Nat.le_refl _) rfl rfl ?_
  have D4 : E.D 4 = some td4 := rfl
  have D3 : E.D 3 = some td3 := rfl
  have D5 : E.D 5 = some td5 := rfl
  have D9 : E.D 9 = some td9 := rfl
  simp only [d3, bodyOf, Tryz.f3]
  simp [D4, td4, D3, td3, D5, td5, D9, td9]
  have fine : ∀ (H : List Chunk), (Clean 0 fun x _ => x = .v (.bool true)) (.v (.bool true)) H := fun H => Clean.v' rfl rfl
  refine ⟨fun h => ?_, fun h => ?_⟩
  · refine .call (.pure shown_sp (fun _ => rfl) ?_)
    rintro x H rfl
    simp
    exact fine _
  · refine .call (.pure shown_sp (fun _ => rfl) ?_)
    rintro x H rfl
    simp
    refine .call (.pure (number_sp s) (fun _ => rfl) ?_)
    rintro x H' ⟨rfl, rfl⟩
    obtain ⟨n, b, hn⟩ := numR_tup s
    rw [hn]
    simp
    refine .call (.pure (refNumber_sp s) (fun _ => rfl) ?_)
    rintro x H' ⟨rfl, rfl⟩
    rw [hn]
    simp [D4, td4, D3, td3, D5, td5, D9, td9]
    exact fine _
end Go.Rm
end
