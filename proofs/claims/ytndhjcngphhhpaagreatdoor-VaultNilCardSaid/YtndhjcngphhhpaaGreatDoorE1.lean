/-
  a part of the proof: contracts of functions, and the engine by which they are walked.
-/
import Derived.Test.YtndhjcngphhhpaaGreatDoorE0
import Derived.Test.YtndhjcngphhhpaaGreatDoorProg
import Derived.KernelRfl
import Derived.Maps.RangeRun
import Derived.MapKept
import Derived.Laws.ResultCell
import Derived.Laws.CopyRow
import Derived.Laws.IdiomCopy
import Derived.Lib.MakeNoZero
import Derived.Laws.BytesArg
import Derived.Lib.SlBytesConst
import Derived.ChangeKeysEq
import Derived.Lib.ConvBytes
set_option linter.unusedVariables false
set_option linter.unusedSimpArgs false
namespace Go.Ent
open Go Go.Proofs
inductive Tr where
  | l
  | n (a : Tr) (k : Nat) (v : TI) (b : Tr)
def Tr.find : Tr → Nat → Option TI
  | .l, _ => none
  | .n a k v b, x => bif Nat.beq x k then some v else bif Nat.blt x k then a.find x else b.find x
def Tr.all (p : Nat → TI → Bool) : Tr → Bool
  | .l => true
  | .n a k v b => p k v && a.all p && b.all p
theorem Tr.all_find {p : Nat → TI → Bool} : ∀ {t : Tr} {x : Nat} {v : TI}, t.all p = true → t.find x = some v → p x v = true
  | .l, _, _, _, h => by simp [Tr.find] at h
  | .n a k v b, x, u, h, hf => by
    simp only [Tr.all, Bool.and_eq_true] at h
    simp only [Tr.find] at hf
    cases hb : Nat.beq x k with
    | true =>
      rw [hb] at hf
      have := Nat.eq_of_beq_eq_true hb
      subst this
      cases hf
      exact h.1.1
    | false =>
      rw [hb] at hf
      cases hl : Nat.blt x k with
      | true => rw [hl] at hf; exact Tr.all_find h.1.2 hf
      | false => rw [hl] at hf; exact Tr.all_find h.2 hf
def tr0 : Tr := (.n (.n (.n (.n (.n (.n .l 1 ⟨.func, 1, 8⟩ .l) 2 ⟨.int .i64, 1, 8⟩ (.n .l 3 ⟨.int .i64, 1, 8⟩ .l)) 4 ⟨.bool, 1, 1⟩ (.n (.n .l 5 ⟨.int .u8, 1, 1⟩ .l) 6 ⟨.int .u8, 1, 1⟩ (.n .l 7 ⟨.str [(0, 2, 1), (1, 3, 1), (2, 4, 1), (3, 6, 1)], 4, 24⟩ .l))) 8 ⟨.str [(0, 2, 1), (1, 3, 1), (2, 4, 1), (3, 6, 1)], 4, 24⟩ (.n (.n (.n .l 9 ⟨.string, 1, 16⟩ .l) 10 ⟨.string, 1, 16⟩ (.n .l 11 ⟨.string, 1, 16⟩ .l)) 12 ⟨.int .u64, 1, 8⟩ (.n (.n .l 13 ⟨.str [(0, 9, 1), (1, 12, 1)], 2, 24⟩ .l) 14 ⟨.str [(0, 9, 1), (1, 12, 1)], 2, 24⟩ (.n .l 15 ⟨.ptr 492, 1, 8⟩ .l)))) 16 ⟨.ptr 495, 1, 8⟩ (.n (.n (.n (.n .l 17 ⟨.ptr 503, 1, 8⟩ .l) 18 ⟨.str [(0, 17, 1)], 1, 8⟩ (.n .l 19 ⟨.str [(0, 17, 1)], 1, 8⟩ .l)) 20 ⟨.iface, 1, 16⟩ (.n (.n .l 21 ⟨.int .i32, 1, 4⟩ .l) 22 ⟨.int .u64, 1, 8⟩ (.n .l 23 ⟨.slice 94, 1, 24⟩ .l))) 24 ⟨.func, 1, 8⟩ (.n (.n (.n .l 25 ⟨.func, 1, 8⟩ .l) 26 ⟨.ptr 136, 1, 8⟩ (.n .l 27 ⟨.slice 234, 1, 24⟩ .l)) 28 ⟨.str [(0, 22, 1), (1, 27, 1)], 2, 32⟩ (.n (.n .l 29 ⟨.str [(0, 22, 1), (1, 27, 1)], 2, 32⟩ .l) 30 ⟨.slice 224, 1, 24⟩ .l)))) 31 ⟨.str [(0, 29, 2), (2, 22, 1), (3, 22, 1), (4, 30, 1)], 5, 72⟩ (.n (.n (.n (.n (.n .l 32 ⟨.str [(0, 29, 2), (2, 22, 1), (3, 22, 1), (4, 30, 1)], 5, 72⟩ .l) 34 ⟨.func, 1, 8⟩ (.n .l 35 ⟨.func, 1, 8⟩ .l)) 36 ⟨.func, 1, 8⟩ (.n (.n .l 37 ⟨.slice 22, 1, 24⟩ .l) 38 ⟨.str [(0, 22, 1), (1, 37, 1), (2, 22, 1), (3, 3, 1)], 4, 48⟩ (.n .l 39 ⟨.str [(0, 22, 1), (1, 37, 1), (2, 22, 1), (3, 3, 1)], 4, 48⟩ .l))) 40 ⟨.slice 153, 1, 24⟩ (.n (.n (.n .l 41 ⟨.slice 70, 1, 24⟩ .l) 42 ⟨.iface, 1, 16⟩ (.n .l 43 ⟨.iface, 1, 16⟩ .l)) 45 ⟨.func, 1, 8⟩ (.n (.n .l 46 ⟨.slice 147, 1, 24⟩ .l) 48 ⟨.func, 1, 8⟩ .l))) 49 ⟨.func, 1, 8⟩ (.n (.n (.n (.n .l 50 ⟨.func, 1, 8⟩ .l) 51 ⟨.func, 1, 8⟩ (.n .l 52 ⟨.str [(0, 41, 1), (1, 41, 1)], 2, 48⟩ .l)) 53 ⟨.str [(0, 41, 1), (1, 41, 1)], 2, 48⟩ (.n (.n .l 55 ⟨.func, 1, 8⟩ .l) 57 ⟨.func, 1, 8⟩ (.n .l 58 ⟨.func, 1, 8⟩ .l))) 60 ⟨.func, 1, 8⟩ (.n (.n (.n .l 61 ⟨.slice 151, 1, 24⟩ .l) 62 ⟨.str [(0, 3, 1), (1, 37, 1), (2, 61, 1), (3, 22, 1)], 4, 64⟩ (.n .l 63 ⟨.str [(0, 3, 1), (1, 37, 1), (2, 61, 1), (3, 22, 1)], 4, 64⟩ .l)) 64 ⟨.arr 16 5, 16, 16⟩ (.n (.n .l 65 ⟨.str [(0, 22, 1), (1, 22, 1), (2, 63, 4), (6, 64, 16)], 22, 96⟩ .l) 66 ⟨.str [(0, 22, 1), (1, 22, 1), (2, 63, 4), (6, 64, 16)], 22, 96⟩ .l)))))
def tr1 : Tr := (.n (.n (.n (.n (.n (.n .l 68 ⟨.func, 1, 8⟩ .l) 69 ⟨.arr 32 5, 32, 32⟩ (.n .l 70 ⟨.arr 32 5, 32, 32⟩ .l)) 72 ⟨.func, 1, 8⟩ (.n (.n .l 74 ⟨.func, 1, 8⟩ .l) 75 ⟨.float .f64, 1, 8⟩ (.n .l 76 ⟨.func, 1, 8⟩ .l))) 77 ⟨.func, 1, 8⟩ (.n (.n (.n .l 78 ⟨.slice 43, 1, 24⟩ .l) 79 ⟨.func, 1, 8⟩ (.n .l 80 ⟨.int .i64, 1, 8⟩ .l)) 81 ⟨.func, 1, 8⟩ (.n (.n .l 82 ⟨.func, 1, 8⟩ .l) 83 ⟨.ptr 196, 1, 8⟩ (.n .l 85 ⟨.func, 1, 8⟩ .l)))) 86 ⟨.int .u64, 1, 8⟩ (.n (.n (.n (.n .l 87 ⟨.func, 1, 8⟩ .l) 89 ⟨.func, 1, 8⟩ (.n .l 90 ⟨.func, 1, 8⟩ .l)) 91 ⟨.func, 1, 8⟩ (.n (.n .l 92 ⟨.map 22 22, 1, 8⟩ .l) 93 ⟨.str [(0, 3, 1), (1, 4, 1), (2, 66, 22), (24, 22, 1)], 25, 120⟩ (.n .l 94 ⟨.str [(0, 3, 1), (1, 4, 1), (2, 66, 22), (24, 22, 1)], 25, 120⟩ .l))) 96 ⟨.func, 1, 8⟩ (.n (.n (.n .l 98 ⟨.func, 1, 8⟩ .l) 100 ⟨.func, 1, 8⟩ (.n .l 101 ⟨.func, 1, 8⟩ .l)) 102 ⟨.func, 1, 8⟩ (.n (.n .l 103 ⟨.func, 1, 8⟩ .l) 104 ⟨.func, 1, 8⟩ .l)))) 105 ⟨.arr 33 70, 1056, 1056⟩ (.n (.n (.n (.n (.n .l 106 ⟨.func, 1, 8⟩ .l) 107 ⟨.func, 1, 8⟩ (.n .l 109 ⟨.func, 1, 8⟩ .l)) 110 ⟨.func, 1, 8⟩ (.n (.n .l 111 ⟨.slice 145, 1, 24⟩ .l) 112 ⟨.str [(0, 3, 1), (1, 37, 1), (2, 111, 1), (3, 22, 1)], 4, 64⟩ (.n .l 113 ⟨.str [(0, 3, 1), (1, 37, 1), (2, 111, 1), (3, 22, 1)], 4, 64⟩ .l))) 114 ⟨.str [(0, 22, 1), (1, 22, 1), (2, 113, 4), (6, 64, 16)], 22, 96⟩ (.n (.n (.n .l 115 ⟨.str [(0, 22, 1), (1, 22, 1), (2, 113, 4), (6, 64, 16)], 22, 96⟩ .l) 116 ⟨.func, 1, 8⟩ (.n .l 118 ⟨.func, 1, 8⟩ .l)) 119 ⟨.func, 1, 8⟩ (.n (.n .l 120 ⟨.slice 237, 1, 24⟩ .l) 121 ⟨.str [(0, 3, 1), (1, 120, 1), (2, 41, 1)], 3, 56⟩ .l))) 122 ⟨.str [(0, 3, 1), (1, 120, 1), (2, 41, 1)], 3, 56⟩ (.n (.n (.n (.n .l 123 ⟨.func, 1, 8⟩ .l) 125 ⟨.func, 1, 8⟩ (.n .l 127 ⟨.func, 1, 8⟩ .l)) 128 ⟨.func, 1, 8⟩ (.n (.n .l 129 ⟨.ptr 242, 1, 8⟩ .l) 130 ⟨.map 22 151, 1, 8⟩ (.n .l 131 ⟨.ptr 265, 1, 8⟩ .l))) 132 ⟨.str [(0, 22, 1), (1, 130, 1), (2, 131, 1)], 3, 24⟩ (.n (.n (.n .l 133 ⟨.str [(0, 22, 1), (1, 130, 1), (2, 131, 1)], 3, 24⟩ .l) 134 ⟨.slice 165, 1, 24⟩ (.n .l 135 ⟨.str [(0, 129, 1), (1, 133, 3), (4, 22, 1), (5, 22, 1), (6, 134, 1)], 7, 72⟩ .l)) 136 ⟨.str [(0, 129, 1), (1, 133, 3), (4, 22, 1), (5, 22, 1), (6, 134, 1)], 7, 72⟩ (.n (.n .l 138 ⟨.func, 1, 8⟩ .l) 139 ⟨.func, 1, 8⟩ .l)))))
def tr2 : Tr := (.n (.n (.n (.n (.n (.n .l 141 ⟨.func, 1, 8⟩ .l) 142 ⟨.func, 1, 8⟩ (.n .l 143 ⟨.arr 32 5, 32, 32⟩ .l)) 144 ⟨.str [(0, 22, 1), (1, 143, 32), (33, 64, 16)], 49, 56⟩ (.n (.n .l 145 ⟨.str [(0, 22, 1), (1, 143, 32), (33, 64, 16)], 49, 56⟩ .l) 146 ⟨.str [(0, 4, 1), (1, 145, 49)], 50, 64⟩ (.n .l 147 ⟨.str [(0, 4, 1), (1, 145, 49)], 50, 64⟩ .l))) 148 ⟨.func, 1, 8⟩ (.n (.n (.n .l 149 ⟨.func, 1, 8⟩ .l) 151 ⟨.str [(0, 22, 1), (1, 143, 32), (33, 64, 16)], 49, 56⟩ (.n .l 152 ⟨.str [(0, 4, 1), (1, 151, 49)], 50, 64⟩ .l)) 153 ⟨.str [(0, 4, 1), (1, 151, 49)], 50, 64⟩ (.n (.n .l 154 ⟨.func, 1, 8⟩ .l) 155 ⟨.func, 1, 8⟩ (.n .l 157 ⟨.func, 1, 8⟩ .l)))) 158 ⟨.slice 258, 1, 24⟩ (.n (.n (.n (.n .l 160 ⟨.func, 1, 8⟩ .l) 161 ⟨.func, 1, 8⟩ (.n .l 162 ⟨.func, 1, 8⟩ .l)) 163 ⟨.slice 288, 1, 24⟩ (.n (.n .l 164 ⟨.str [(0, 66, 22), (22, 22, 1), (23, 163, 1)], 24, 128⟩ .l) 165 ⟨.str [(0, 66, 22), (22, 22, 1), (23, 163, 1)], 24, 128⟩ (.n .l 166 ⟨.func, 1, 8⟩ .l))) 167 ⟨.str [(0, 37, 1), (1, 41, 1), (2, 41, 1)], 3, 72⟩ (.n (.n (.n .l 168 ⟨.str [(0, 37, 1), (1, 41, 1), (2, 41, 1)], 3, 72⟩ .l) 170 ⟨.func, 1, 8⟩ (.n .l 171 ⟨.str [(0, 70, 32), (32, 41, 1)], 33, 56⟩ .l)) 172 ⟨.str [(0, 70, 32), (32, 41, 1)], 33, 56⟩ (.n (.n .l 174 ⟨.func, 1, 8⟩ .l) 175 ⟨.func, 1, 8⟩ .l)))) 176 ⟨.func, 1, 8⟩ (.n (.n (.n (.n (.n .l 177 ⟨.slice 5, 1, 24⟩ .l) 178 ⟨.str [(0, 177, 1), (1, 177, 1), (2, 4, 1)], 3, 56⟩ (.n .l 179 ⟨.str [(0, 177, 1), (1, 177, 1), (2, 4, 1)], 3, 56⟩ .l)) 180 ⟨.func, 1, 8⟩ (.n (.n .l 181 ⟨.slice 179, 1, 24⟩ .l) 182 ⟨.func, 1, 8⟩ (.n .l 183 ⟨.func, 1, 8⟩ .l))) 184 ⟨.func, 1, 8⟩ (.n (.n (.n .l 185 ⟨.func, 1, 8⟩ .l) 186 ⟨.func, 1, 8⟩ (.n .l 187 ⟨.func, 1, 8⟩ .l)) 188 ⟨.func, 1, 8⟩ (.n (.n .l 189 ⟨.func, 1, 8⟩ .l) 190 ⟨.func, 1, 8⟩ .l))) 192 ⟨.func, 1, 8⟩ (.n (.n (.n (.n .l 193 ⟨.map 3 298, 1, 8⟩ .l) 194 ⟨.slice 3, 1, 24⟩ (.n .l 195 ⟨.str [(0, 3, 1), (1, 193, 1), (2, 193, 1), (3, 194, 1), (4, 3, 1), (5, 4, 1)], 6, 64⟩ .l)) 196 ⟨.str [(0, 3, 1), (1, 193, 1), (2, 193, 1), (3, 194, 1), (4, 3, 1), (5, 4, 1)], 6, 64⟩ (.n (.n .l 197 ⟨.func, 1, 8⟩ .l) 199 ⟨.func, 1, 8⟩ (.n .l 201 ⟨.func, 1, 8⟩ .l))) 202 ⟨.ptr 312, 1, 8⟩ (.n (.n (.n .l 203 ⟨.func, 1, 8⟩ .l) 204 ⟨.func, 1, 8⟩ (.n .l 205 ⟨.func, 1, 8⟩ .l)) 206 ⟨.ptr 323, 1, 8⟩ (.n (.n .l 207 ⟨.func, 1, 8⟩ .l) 208 ⟨.func, 1, 8⟩ .l)))))
def tr3 : Tr := (.n (.n (.n (.n (.n (.n .l 209 ⟨.func, 1, 8⟩ .l) 210 ⟨.func, 1, 8⟩ (.n .l 211 ⟨.func, 1, 8⟩ .l)) 212 ⟨.func, 1, 8⟩ (.n (.n .l 213 ⟨.func, 1, 8⟩ .l) 214 ⟨.func, 1, 8⟩ (.n .l 215 ⟨.func, 1, 8⟩ .l))) 216 ⟨.func, 1, 8⟩ (.n (.n (.n .l 217 ⟨.func, 1, 8⟩ .l) 218 ⟨.func, 1, 8⟩ (.n .l 219 ⟨.func, 1, 8⟩ .l)) 220 ⟨.func, 1, 8⟩ (.n (.n .l 221 ⟨.func, 1, 8⟩ .l) 222 ⟨.func, 1, 8⟩ (.n .l 223 ⟨.str [(0, 115, 22), (22, 29, 2)], 24, 128⟩ .l)))) 224 ⟨.str [(0, 115, 22), (22, 29, 2)], 24, 128⟩ (.n (.n (.n (.n .l 225 ⟨.func, 1, 8⟩ .l) 226 ⟨.func, 1, 8⟩ (.n .l 227 ⟨.func, 1, 8⟩ .l)) 228 ⟨.func, 1, 8⟩ (.n (.n .l 229 ⟨.func, 1, 8⟩ .l) 231 ⟨.func, 1, 8⟩ (.n .l 232 ⟨.func, 1, 8⟩ .l))) 233 ⟨.str [(0, 22, 1), (1, 145, 49)], 50, 64⟩ (.n (.n (.n .l 234 ⟨.str [(0, 22, 1), (1, 145, 49)], 50, 64⟩ .l) 235 ⟨.func, 1, 8⟩ (.n .l 236 ⟨.str [(0, 22, 1), (1, 70, 32)], 33, 40⟩ .l)) 237 ⟨.str [(0, 22, 1), (1, 70, 32)], 33, 40⟩ (.n (.n .l 238 ⟨.func, 1, 8⟩ .l) 239 ⟨.ptr 422, 1, 8⟩ .l)))) 240 ⟨.int .u32, 1, 4⟩ (.n (.n (.n (.n (.n .l 241 ⟨.str [(0, 83, 1), (1, 239, 1), (2, 206, 1), (3, 240, 1), (4, 4, 1)], 5, 32⟩ .l) 242 ⟨.str [(0, 83, 1), (1, 239, 1), (2, 206, 1), (3, 240, 1), (4, 4, 1)], 5, 32⟩ (.n .l 243 ⟨.func, 1, 8⟩ .l)) 244 ⟨.func, 1, 8⟩ (.n (.n .l 245 ⟨.func, 1, 8⟩ .l) 246 ⟨.func, 1, 8⟩ (.n .l 247 ⟨.func, 1, 8⟩ .l))) 248 ⟨.func, 1, 8⟩ (.n (.n (.n .l 249 ⟨.func, 1, 8⟩ .l) 250 ⟨.func, 1, 8⟩ (.n .l 251 ⟨.slice 254, 1, 24⟩ .l)) 252 ⟨.func, 1, 8⟩ (.n (.n .l 253 ⟨.str [(0, 3, 1), (1, 22, 1)], 2, 16⟩ .l) 254 ⟨.str [(0, 3, 1), (1, 22, 1)], 2, 16⟩ .l))) 255 ⟨.ptr 41, 1, 8⟩ (.n (.n (.n (.n .l 256 ⟨.func, 1, 8⟩ .l) 257 ⟨.func, 1, 8⟩ (.n .l 258 ⟨.str [(0, 3, 1), (1, 22, 1)], 2, 16⟩ .l)) 259 ⟨.func, 1, 8⟩ (.n (.n .l 260 ⟨.func, 1, 8⟩ .l) 261 ⟨.func, 1, 8⟩ (.n .l 262 ⟨.func, 1, 8⟩ .l))) 263 ⟨.map 267 70, 1, 8⟩ (.n (.n (.n .l 264 ⟨.str [(0, 3, 1), (1, 263, 1), (2, 105, 1056)], 1058, 1072⟩ .l) 265 ⟨.str [(0, 3, 1), (1, 263, 1), (2, 105, 1056)], 1058, 1072⟩ (.n .l 266 ⟨.str [(0, 3, 1), (1, 22, 1)], 2, 16⟩ .l)) 267 ⟨.str [(0, 3, 1), (1, 22, 1)], 2, 16⟩ (.n (.n .l 268 ⟨.func, 1, 8⟩ .l) 269 ⟨.func, 1, 8⟩ .l)))))
def tr4 : Tr := (.n (.n (.n (.n (.n (.n .l 270 ⟨.func, 1, 8⟩ .l) 271 ⟨.ptr 275, 1, 8⟩ (.n .l 272 ⟨.str [(0, 43, 1)], 1, 16⟩ .l)) 273 ⟨.str [(0, 43, 1)], 1, 16⟩ (.n (.n .l 274 ⟨.str [(0, 273, 1), (1, 177, 1)], 2, 40⟩ .l) 275 ⟨.str [(0, 273, 1), (1, 177, 1)], 2, 40⟩ (.n .l 277 ⟨.func, 1, 8⟩ .l))) 278 ⟨.func, 1, 8⟩ (.n (.n (.n .l 279 ⟨.func, 1, 8⟩ .l) 280 ⟨.func, 1, 8⟩ (.n .l 281 ⟨.func, 1, 8⟩ .l)) 282 ⟨.func, 1, 8⟩ (.n (.n .l 283 ⟨.func, 1, 8⟩ .l) 284 ⟨.func, 1, 8⟩ (.n .l 285 ⟨.func, 1, 8⟩ .l)))) 286 ⟨.func, 1, 8⟩ (.n (.n (.n (.n .l 287 ⟨.str [(0, 22, 1), (1, 153, 50)], 51, 72⟩ .l) 288 ⟨.str [(0, 22, 1), (1, 153, 50)], 51, 72⟩ (.n .l 289 ⟨.func, 1, 8⟩ .l)) 290 ⟨.func, 1, 8⟩ (.n (.n .l 291 ⟨.ptr 133, 1, 8⟩ .l) 292 ⟨.func, 1, 8⟩ (.n .l 293 ⟨.func, 1, 8⟩ .l))) 295 ⟨.func, 1, 8⟩ (.n (.n (.n .l 296 ⟨.func, 1, 8⟩ .l) 297 ⟨.arr 64 5, 64, 64⟩ (.n .l 298 ⟨.arr 64 5, 64, 64⟩ .l)) 300 ⟨.func, 1, 8⟩ (.n (.n .l 302 ⟨.func, 1, 8⟩ .l) 303 ⟨.func, 1, 8⟩ .l)))) 305 ⟨.func, 1, 8⟩ (.n (.n (.n (.n (.n .l 306 ⟨.slice 177, 1, 24⟩ .l) 308 ⟨.func, 1, 8⟩ (.n .l 309 ⟨.func, 1, 8⟩ .l)) 310 ⟨.func, 1, 8⟩ (.n (.n .l 311 ⟨.str [(0, 273, 1), (1, 177, 1)], 2, 40⟩ .l) 312 ⟨.str [(0, 273, 1), (1, 177, 1)], 2, 40⟩ (.n .l 313 ⟨.func, 1, 8⟩ .l))) 314 ⟨.func, 1, 8⟩ (.n (.n (.n .l 315 ⟨.func, 1, 8⟩ .l) 317 ⟨.func, 1, 8⟩ (.n .l 318 ⟨.func, 1, 8⟩ .l)) 319 ⟨.slice 9, 1, 24⟩ (.n (.n .l 320 ⟨.func, 1, 8⟩ .l) 321 ⟨.map 9 177, 1, 8⟩ .l))) 322 ⟨.str [(0, 321, 1)], 1, 8⟩ (.n (.n (.n (.n .l 323 ⟨.str [(0, 321, 1)], 1, 8⟩ .l) 325 ⟨.func, 1, 8⟩ (.n .l 326 ⟨.func, 1, 8⟩ .l)) 328 ⟨.func, 1, 8⟩ (.n (.n .l 329 ⟨.func, 1, 8⟩ .l) 330 ⟨.func, 1, 8⟩ (.n .l 332 ⟨.func, 1, 8⟩ .l))) 334 ⟨.func, 1, 8⟩ (.n (.n (.n .l 335 ⟨.func, 1, 8⟩ .l) 336 ⟨.func, 1, 8⟩ (.n .l 337 ⟨.func, 1, 8⟩ .l)) 338 ⟨.func, 1, 8⟩ (.n (.n .l 339 ⟨.func, 1, 8⟩ .l) 340 ⟨.func, 1, 8⟩ .l)))))
def tr5 : Tr := (.n (.n (.n (.n (.n (.n .l 341 ⟨.func, 1, 8⟩ .l) 342 ⟨.func, 1, 8⟩ (.n .l 343 ⟨.arr 8 240, 8, 32⟩ .l)) 344 ⟨.func, 1, 8⟩ (.n (.n .l 345 ⟨.func, 1, 8⟩ .l) 346 ⟨.func, 1, 8⟩ (.n .l 347 ⟨.func, 1, 8⟩ .l))) 348 ⟨.func, 1, 8⟩ (.n (.n (.n .l 349 ⟨.func, 1, 8⟩ .l) 350 ⟨.func, 1, 8⟩ (.n .l 351 ⟨.func, 1, 8⟩ .l)) 352 ⟨.func, 1, 8⟩ (.n (.n .l 353 ⟨.func, 1, 8⟩ .l) 354 ⟨.func, 1, 8⟩ (.n .l 355 ⟨.func, 1, 8⟩ .l)))) 357 ⟨.func, 1, 8⟩ (.n (.n (.n (.n .l 358 ⟨.func, 1, 8⟩ .l) 359 ⟨.func, 1, 8⟩ (.n .l 361 ⟨.slice 181, 1, 24⟩ .l)) 362 ⟨.func, 1, 8⟩ (.n (.n .l 363 ⟨.func, 1, 8⟩ .l) 364 ⟨.func, 1, 8⟩ (.n .l 365 ⟨.func, 1, 8⟩ .l))) 366 ⟨.func, 1, 8⟩ (.n (.n (.n .l 367 ⟨.func, 1, 8⟩ .l) 368 ⟨.func, 1, 8⟩ (.n .l 369 ⟨.func, 1, 8⟩ .l)) 370 ⟨.func, 1, 8⟩ (.n (.n .l 371 ⟨.func, 1, 8⟩ .l) 372 ⟨.func, 1, 8⟩ .l)))) 373 ⟨.func, 1, 8⟩ (.n (.n (.n (.n (.n .l 374 ⟨.func, 1, 8⟩ .l) 375 ⟨.func, 1, 8⟩ (.n .l 376 ⟨.func, 1, 8⟩ .l)) 377 ⟨.func, 1, 8⟩ (.n (.n .l 378 ⟨.func, 1, 8⟩ .l) 379 ⟨.func, 1, 8⟩ (.n .l 380 ⟨.func, 1, 8⟩ .l))) 381 ⟨.func, 1, 8⟩ (.n (.n (.n .l 382 ⟨.func, 1, 8⟩ .l) 385 ⟨.func, 1, 8⟩ (.n .l 386 ⟨.func, 1, 8⟩ .l)) 387 ⟨.func, 1, 8⟩ (.n (.n .l 388 ⟨.func, 1, 8⟩ .l) 389 ⟨.func, 1, 8⟩ .l))) 390 ⟨.func, 1, 8⟩ (.n (.n (.n (.n .l 391 ⟨.func, 1, 8⟩ .l) 392 ⟨.func, 1, 8⟩ (.n .l 393 ⟨.func, 1, 8⟩ .l)) 394 ⟨.func, 1, 8⟩ (.n (.n .l 395 ⟨.func, 1, 8⟩ .l) 396 ⟨.ptr 398, 1, 8⟩ (.n .l 397 ⟨.str [(0, 41, 1), (1, 41, 1), (2, 306, 1)], 3, 72⟩ .l))) 398 ⟨.str [(0, 41, 1), (1, 41, 1), (2, 306, 1)], 3, 72⟩ (.n (.n (.n .l 399 ⟨.func, 1, 8⟩ .l) 400 ⟨.func, 1, 8⟩ (.n .l 401 ⟨.func, 1, 8⟩ .l)) 402 ⟨.func, 1, 8⟩ (.n (.n .l 403 ⟨.func, 1, 8⟩ .l) 404 ⟨.func, 1, 8⟩ .l)))))
def tr6 : Tr := (.n (.n (.n (.n (.n (.n .l 405 ⟨.func, 1, 8⟩ .l) 407 ⟨.func, 1, 8⟩ (.n .l 408 ⟨.func, 1, 8⟩ .l)) 409 ⟨.arr 64 240, 64, 256⟩ (.n (.n .l 410 ⟨.func, 1, 8⟩ .l) 411 ⟨.func, 1, 8⟩ (.n .l 412 ⟨.func, 1, 8⟩ .l))) 413 ⟨.func, 1, 8⟩ (.n (.n (.n .l 414 ⟨.func, 1, 8⟩ .l) 415 ⟨.func, 1, 8⟩ (.n .l 416 ⟨.func, 1, 8⟩ .l)) 417 ⟨.func, 1, 8⟩ (.n (.n .l 418 ⟨.func, 1, 8⟩ .l) 419 ⟨.func, 1, 8⟩ (.n .l 420 ⟨.func, 1, 8⟩ .l)))) 421 ⟨.str [(0, 83, 1), (1, 3, 1), (2, 3, 1), (3, 240, 1), (4, 3, 1), (5, 64, 16), (21, 4, 1)], 22, 64⟩ (.n (.n (.n (.n .l 422 ⟨.str [(0, 83, 1), (1, 3, 1), (2, 3, 1), (3, 240, 1), (4, 3, 1), (5, 64, 16), (21, 4, 1)], 22, 64⟩ .l) 423 ⟨.ptr 273, 1, 8⟩ (.n .l 424 ⟨.func, 1, 8⟩ .l)) 425 ⟨.func, 1, 8⟩ (.n (.n .l 426 ⟨.func, 1, 8⟩ .l) 427 ⟨.iface, 1, 16⟩ (.n .l 428 ⟨.iface, 1, 16⟩ .l))) 429 ⟨.func, 1, 8⟩ (.n (.n (.n .l 430 ⟨.func, 1, 8⟩ .l) 431 ⟨.func, 1, 8⟩ (.n .l 432 ⟨.int .i64, 1, 8⟩ .l)) 434 ⟨.func, 1, 8⟩ (.n (.n .l 435 ⟨.func, 1, 8⟩ .l) 436 ⟨.func, 1, 8⟩ .l)))) 437 ⟨.func, 1, 8⟩ (.n (.n (.n (.n (.n .l 438 ⟨.func, 1, 8⟩ .l) 439 ⟨.func, 1, 8⟩ (.n .l 440 ⟨.func, 1, 8⟩ .l)) 441 ⟨.func, 1, 8⟩ (.n (.n .l 442 ⟨.func, 1, 8⟩ .l) 443 ⟨.func, 1, 8⟩ (.n .l 444 ⟨.func, 1, 8⟩ .l))) 445 ⟨.func, 1, 8⟩ (.n (.n (.n .l 446 ⟨.func, 1, 8⟩ .l) 447 ⟨.func, 1, 8⟩ (.n .l 448 ⟨.func, 1, 8⟩ .l)) 449 ⟨.func, 1, 8⟩ (.n (.n .l 450 ⟨.func, 1, 8⟩ .l) 452 ⟨.func, 1, 8⟩ .l))) 454 ⟨.func, 1, 8⟩ (.n (.n (.n (.n .l 455 ⟨.func, 1, 8⟩ .l) 456 ⟨.func, 1, 8⟩ (.n .l 457 ⟨.func, 1, 8⟩ .l)) 458 ⟨.func, 1, 8⟩ (.n (.n .l 459 ⟨.str [(0, 17, 1)], 1, 8⟩ .l) 460 ⟨.str [(0, 17, 1)], 1, 8⟩ (.n .l 461 ⟨.ptr 512, 1, 8⟩ .l))) 462 ⟨.iface, 1, 16⟩ (.n (.n (.n .l 464 ⟨.func, 1, 8⟩ .l) 465 ⟨.iface, 1, 16⟩ (.n .l 466 ⟨.iface, 1, 16⟩ .l)) 467 ⟨.func, 1, 8⟩ (.n (.n .l 468 ⟨.int .u64, 1, 8⟩ .l) 469 ⟨.func, 1, 8⟩ .l)))))
def tr7 : Tr := (.n (.n (.n (.n (.n (.n .l 470 ⟨.func, 1, 8⟩ .l) 471 ⟨.ptr 3, 1, 8⟩ (.n .l 472 ⟨.func, 1, 8⟩ .l)) 473 ⟨.func, 1, 8⟩ (.n (.n .l 474 ⟨.func, 1, 8⟩ .l) 475 ⟨.func, 1, 8⟩ .l)) 476 ⟨.func, 1, 8⟩ (.n (.n (.n .l 477 ⟨.func, 1, 8⟩ .l) 478 ⟨.func, 1, 8⟩ (.n .l 479 ⟨.ptr 468, 1, 8⟩ .l)) 480 ⟨.func, 1, 8⟩ (.n (.n .l 481 ⟨.func, 1, 8⟩ .l) 482 ⟨.func, 1, 8⟩ .l))) 483 ⟨.func, 1, 8⟩ (.n (.n (.n (.n .l 484 ⟨.func, 1, 8⟩ .l) 485 ⟨.func, 1, 8⟩ (.n .l 486 ⟨.func, 1, 8⟩ .l)) 487 ⟨.func, 1, 8⟩ (.n (.n .l 488 ⟨.func, 1, 8⟩ .l) 489 ⟨.func, 1, 8⟩ .l)) 490 ⟨.func, 1, 8⟩ (.n (.n (.n .l 491 ⟨.str [(0, 17, 1), (1, 17, 1), (2, 17, 1), (3, 9, 1)], 4, 40⟩ .l) 492 ⟨.str [(0, 17, 1), (1, 17, 1), (2, 17, 1), (3, 9, 1)], 4, 40⟩ .l) 493 ⟨.arr 0 16, 0, 0⟩ (.n (.n .l 494 ⟨.str [(0, 493, 0)], 0, 0⟩ .l) 495 ⟨.str [(0, 493, 0)], 0, 0⟩ .l)))) 496 ⟨.int .u8, 1, 1⟩ (.n (.n (.n (.n (.n .l 497 ⟨.int .u8, 1, 1⟩ .l) 498 ⟨.func, 1, 8⟩ (.n .l 499 ⟨.ptr 5, 1, 8⟩ .l)) 500 ⟨.int .i32, 1, 4⟩ (.n (.n .l 501 ⟨.int .i32, 1, 4⟩ .l) 502 ⟨.str [(0, 12, 1), (1, 12, 1), (2, 240, 1), (3, 496, 1), (4, 5, 1), (5, 5, 1), (6, 497, 1), (7, 498, 1), (8, 499, 1), (9, 500, 1), (10, 501, 1)], 11, 48⟩ .l)) 503 ⟨.str [(0, 12, 1), (1, 12, 1), (2, 240, 1), (3, 496, 1), (4, 5, 1), (5, 5, 1), (6, 497, 1), (7, 498, 1), (8, 499, 1), (9, 500, 1), (10, 501, 1)], 11, 48⟩ (.n (.n (.n .l 504 ⟨.func, 1, 8⟩ .l) 505 ⟨.func, 1, 8⟩ .l) 506 ⟨.func, 1, 8⟩ (.n (.n .l 507 ⟨.func, 1, 8⟩ .l) 508 ⟨.func, 1, 8⟩ .l))) 509 ⟨.func, 1, 8⟩ (.n (.n (.n (.n .l 510 ⟨.func, 1, 8⟩ .l) 511 ⟨.str [(0, 9, 1), (1, 497, 1)], 2, 24⟩ (.n .l 512 ⟨.str [(0, 9, 1), (1, 497, 1)], 2, 24⟩ .l)) 514 ⟨.ptr 518, 1, 8⟩ (.n (.n .l 515 ⟨.func, 1, 8⟩ .l) 516 ⟨.int .u16, 1, 2⟩ .l)) 517 ⟨.str [(0, 500, 1), (1, 516, 1), (2, 516, 1), (3, 240, 1), (4, 240, 1)], 5, 16⟩ (.n (.n (.n .l 518 ⟨.str [(0, 500, 1), (1, 516, 1), (2, 516, 1), (3, 240, 1), (4, 240, 1)], 5, 16⟩ .l) 519 ⟨.slice 522, 1, 24⟩ .l) 520 ⟨.int .i32, 1, 4⟩ (.n (.n .l 521 ⟨.str [(0, 500, 1), (1, 501, 1), (2, 520, 1), (3, 520, 1)], 4, 16⟩ .l) 522 ⟨.str [(0, 500, 1), (1, 501, 1), (2, 520, 1), (3, 520, 1)], 4, 16⟩ .l)))))
def tab : Tab := fun x => bif Nat.blt x 270 then (bif Nat.blt x 141 then (bif Nat.blt x 68 then (tr0.find x) else (tr1.find x)) else (bif Nat.blt x 209 then (tr2.find x) else (tr3.find x))) else (bif Nat.blt x 405 then (bif Nat.blt x 341 then (tr4.find x) else (tr5.find x)) else (bif Nat.blt x 470 then (tr6.find x) else (tr7.find x)))
theorem tr0_ok : tr0.all (fun t i => i.ok Tryz.prog t) = true := by kernel_rfl
theorem tr1_ok : tr1.all (fun t i => i.ok Tryz.prog t) = true := by kernel_rfl
theorem tr2_ok : tr2.all (fun t i => i.ok Tryz.prog t) = true := by kernel_rfl
theorem tr3_ok : tr3.all (fun t i => i.ok Tryz.prog t) = true := by kernel_rfl
theorem tr4_ok : tr4.all (fun t i => i.ok Tryz.prog t) = true := by kernel_rfl
theorem tr5_ok : tr5.all (fun t i => i.ok Tryz.prog t) = true := by kernel_rfl
theorem tr6_ok : tr6.all (fun t i => i.ok Tryz.prog t) = true := by kernel_rfl
theorem tr7_ok : tr7.all (fun t i => i.ok Tryz.prog t) = true := by kernel_rfl
theorem tab_ok : TabOk Tryz.prog tab := by
  intro t i h
  unfold tab at h
  simp only [Bool.cond_eq_ite] at h
  repeat' split at h
  · exact Tr.all_find (p := fun t i => i.ok Tryz.prog t) tr0_ok h
  · exact Tr.all_find (p := fun t i => i.ok Tryz.prog t) tr1_ok h
  · exact Tr.all_find (p := fun t i => i.ok Tryz.prog t) tr2_ok h
  · exact Tr.all_find (p := fun t i => i.ok Tryz.prog t) tr3_ok h
  · exact Tr.all_find (p := fun t i => i.ok Tryz.prog t) tr4_ok h
  · exact Tr.all_find (p := fun t i => i.ok Tryz.prog t) tr5_ok h
  · exact Tr.all_find (p := fun t i => i.ok Tryz.prog t) tr6_ok h
  · exact Tr.all_find (p := fun t i => i.ok Tryz.prog t) tr7_ok h
theorem tr0_zero : tr0.all (fun t _ => zeroB Tryz.prog tab t) = true := by kernel_rfl
theorem tr1_zero : tr1.all (fun t _ => zeroB Tryz.prog tab t) = true := by kernel_rfl
theorem tr2_zero : tr2.all (fun t _ => zeroB Tryz.prog tab t) = true := by kernel_rfl
theorem tr3_zero : tr3.all (fun t _ => zeroB Tryz.prog tab t) = true := by kernel_rfl
theorem tr4_zero : tr4.all (fun t _ => zeroB Tryz.prog tab t) = true := by kernel_rfl
theorem tr5_zero : tr5.all (fun t _ => zeroB Tryz.prog tab t) = true := by kernel_rfl
theorem tr6_zero : tr6.all (fun t _ => zeroB Tryz.prog tab t) = true := by kernel_rfl
theorem tr7_zero : tr7.all (fun t _ => zeroB Tryz.prog tab t) = true := by kernel_rfl
theorem tab_zero : ZeroOk Tryz.prog tab := by
  intro t z hz
  refine zeroB_sound ?_ hz
  have h : ∃ i, tab t = some i := by
    unfold zeroOf at hz
    split at hz <;> first | exact ⟨_, by assumption⟩ | cases hz
  obtain ⟨i, h⟩ := h
  unfold tab at h
  simp only [Bool.cond_eq_ite] at h
  repeat' split at h
  · exact Tr.all_find (p := fun t _ => zeroB Tryz.prog tab t) tr0_zero h
  · exact Tr.all_find (p := fun t _ => zeroB Tryz.prog tab t) tr1_zero h
  · exact Tr.all_find (p := fun t _ => zeroB Tryz.prog tab t) tr2_zero h
  · exact Tr.all_find (p := fun t _ => zeroB Tryz.prog tab t) tr3_zero h
  · exact Tr.all_find (p := fun t _ => zeroB Tryz.prog tab t) tr4_zero h
  · exact Tr.all_find (p := fun t _ => zeroB Tryz.prog tab t) tr5_zero h
  · exact Tr.all_find (p := fun t _ => zeroB Tryz.prog tab t) tr6_zero h
  · exact Tr.all_find (p := fun t _ => zeroB Tryz.prog tab t) tr7_zero h
end Go.Ent
namespace Go.Ent
open Go Go.Proofs
section
variable {n : Nat} {ds : Fz} {w0 : World} {E : Env} {G : List Assn} {Q : Exit → Act → World → Prop}
/-- reckoned by the table. -/
theorem Seq.pv {ops : Array Oper} {o : Oper} {rest : List Oper} {v : Value} (hg : gv ops E o = some true) (hd : fits n o.dst = true) (hv : pv tab E o.op = some v)
    (h : Seq Tryz.prog n ds w0 ops (put E o.dst v) G Q rest) : Seq Tryz.prog n ds w0 ops E G Q (o :: rest) :=
  Seq.yield hg hd (fun a w ha _ => pv_sound tab_ok hv a w ha) h
theorem Ord.pv {l : List Oper} {A : Array Nat} {F : List Early} {i : Nat} {o : Oper} {ord rest : List Nat} {v : Value} (hR : Right l A ord) (hQ : NP Q) (ho : nth l i = some o) (hk : acts o.op = false) (hg : gv l.toArray E o = some true) (hd : fits n o.dst = true)
    (hv : pv tab E o.op = some v) (h : Ord Tryz.prog n ds w0 l A F (put E o.dst v) G Q rest) : Ord Tryz.prog n ds w0 l A F E G Q (i :: rest) :=
  Ord.pure hR hQ ho hk hg hd (fun a w ha => pv_sound tab_ok hv a w ha) h
def runPv (n : Nat) (ops : Array Oper) (K : List Oper → Env → Prop) : Nat → List Oper → Env → Prop
  | 0, l, E => K l E
  | _, [], E => K [] E
  | k + 1, o :: rest, E => match gv ops E o with
    | some true => match pv tab E o.op with
      | some v => match fits n o.dst with
        | true => runPv n ops K k rest (put E o.dst v)
        | false => False
      | none => K (o :: rest) E
    | some false => match fits n o.dst with
      | true => runPv n ops K k rest (put E o.dst undef)
      | false => False
    | none => K (o :: rest) E
theorem Seq.go {ops : Array Oper} : ∀ (k : Nat) {l : List Oper} {E : Env}, runPv n ops (fun l E => Seq Tryz.prog n ds w0 ops E G Q l) k l E → Seq Tryz.prog n ds w0 ops E G Q l
  | 0, _, _, h => h
  | k + 1, [], _, h => h
  | k + 1, o :: rest, E, h => by
    simp only [runPv] at h
    split at h
    · rename_i hg
      split at h
      · rename_i v hv
        split at h
        · rename_i hd; exact Seq.pv hg hd hv (Seq.go k h)
        · exact h.elim
      · exact h
    · rename_i hg
      split at h
      · rename_i hd; exact Seq.skip hg hd (Seq.go k h)
      · exact h.elim
    · exact h
def runPvO (n : Nat) (l : List Oper) (K : List Nat → Env → Prop) : Nat → List Nat → Env → Prop
  | 0, r, E => K r E
  | _, [], E => K [] E
  | k + 1, i :: rest, E => match nth l i with
    | none => K (i :: rest) E
    | some o => match gv l.toArray E o with
      | some true => match acts o.op with
        | true => K (i :: rest) E
        | false => match pv tab E o.op with
          | some v => match fits n o.dst with
            | true => runPvO n l K k rest (put E o.dst v)
            | false => False
          | none => K (i :: rest) E
      | some false => match acts o.op with
        | true => K (i :: rest) E
        | false => match fits n o.dst with
          | true => runPvO n l K k rest (put E o.dst undef)
          | false => False
      | none => K (i :: rest) E
theorem Ord.go {l : List Oper} {A : Array Nat} {F : List Early} {ord : List Nat} (hR : Right l A ord) (hQ : NP Q) : ∀ (k : Nat) {r : List Nat} {E : Env},
    runPvO n l (fun r E => Ord Tryz.prog n ds w0 l A F E G Q r) k r E → Ord Tryz.prog n ds w0 l A F E G Q r
  | 0, _, _, h => h
  | k + 1, [], _, h => h
  | k + 1, i :: rest, E, h => by
    simp only [runPvO] at h
    split at h
    · exact h
    · rename_i o ho
      split at h
      · rename_i hg
        split at h
        · exact h
        · rename_i hk
          split at h
          · rename_i v hv
            split at h
            · rename_i hd; exact Ord.pv hR hQ ho hk hg hd hv (Ord.go hR hQ k h)
            · exact h.elim
          · exact h
      · rename_i hg
        split at h
        · exact h
        · rename_i hk
          split at h
          · rename_i hd; exact Ord.skip hR hQ ho hk hg hd (Ord.go hR hQ k h)
          · exact h.elim
      · exact h
/-- known by the longer list, but for the slot d. -/
inductive Ext (d : Nat) (E : Env) : Env → Prop
  | refl : Ext d E E
  | push {E' : Env} {k : Nat} {v : Value} (h : (Nat.beq k d || (look E k).isNone) = true) (t : Ext d E E') : Ext d E ((k, v) :: E')
theorem Ext.look {d : Nat} {E E' : Env} (x : Ext d E E') : ∀ j v, Nat.beq d j = false → look E j = some v → look E' j = some v := by
  induction x with
  | refl => exact fun _ _ _ h => h
  | push h _ ih =>
    rename_i E' k u _
    intro j v hd hj
    simp only [Ent.look]
    cases hb : Nat.beq k j with
    | false => exact ih j v hd hj
    | true =>
      have := Nat.eq_of_beq_eq_true hb
      subst this
      rw [hj] at h
      simp only [Option.isNone_some, Bool.or_false] at h
      have := Nat.eq_of_beq_eq_true h
      subst this
      simp at hd
/-- a piece of code whose end is said: one slot more is known, memory is as it was. -/
theorem J.cut1 {P : Program} {x y : Code} (d : Nat) (v : Value) (h1 : J P n ds w0 E G (Exit.then (fun a w => Agree n ds ((d, v) :: E) a ∧ St w0 G w) Q) x) (h2 : J P n ds w0 ((d, v) :: E) G Q y) : J P n ds w0 E G Q (.seq x y) :=
  ⟨fun a w ha hw => wpIn_seq (wpIn_mono (h1.run a w ha hw) (fun e a' w' he => by cases e <;> first | exact h2.run a' w' he.1 he.2 | exact he))⟩
theorem At.cut1 {E' : Env} {d : Nat} {v : Value} (hx : Ext d E E') (hv : look E' d = some v) : At n ds w0 E' G (fun a w => Agree n ds ((d, v) :: E) a ∧ St w0 G w) := ⟨fun a w ha hw => by
  refine ⟨⟨ha.size, ha.defers, fun j u hj => ?_⟩, hw⟩
  simp only [Ent.look] at hj
  cases hb : Nat.beq d j with
  | true =>
    rw [hb] at hj
    have := Nat.eq_of_beq_eq_true hb
    subst this
    cases hj
    exact ha.get _ _ hv
  | false =>
    rw [hb] at hj
    exact ha.get _ _ (hx.look j u hb hj)⟩
/-- a whole region that only reckons, then what follows; or as far as it goes. -/
def JorSeq (P : Program) (n : Nat) (ds : Fz) (w0 : World) (ops : Array Oper) (G : List Assn) (Q : Exit → Act → World → Prop) (y : Code) (l : List Oper) (E : Env) : Prop :=
  match l with
  | [] => J P n ds w0 E G Q y
  | o :: rest => Seq P n ds w0 ops E G (Exit.then (y.wpIn (fen ds) 0 P Q) Q) (o :: rest)
theorem runPv_mono {ops : Array Oper} {K K' : List Oper → Env → Prop} (hK : ∀ l E, K l E → K' l E) : ∀ (k : Nat) (l : List Oper) (E : Env), runPv n ops K k l E → runPv n ops K' k l E
  | 0, _, _, h => hK _ _ h
  | k + 1, [], _, h => hK _ _ h
  | k + 1, o :: rest, E, h => by
    simp only [runPv] at h ⊢
    split at h
    · split at h
      · split at h
        · exact runPv_mono hK k _ _ h
        · exact h.elim
      · exact hK _ _ h
    · split at h
      · exact runPv_mono hK k _ _ h
      · exact h.elim
    · exact hK _ _ h
theorem JorSeq.seq {P : Program} {ops : Array Oper} {y : Code} (l : List Oper) (E : Env) (h : JorSeq P n ds w0 ops G Q y l E) : Seq P n ds w0 ops E G (Exit.then (y.wpIn (fen ds) 0 P Q) Q) l := by
  cases l with
  | nil => exact Seq.nil (At.then_normal (J.at h))
  | cons o r => exact h
theorem J.go {id : Nat} {l : List Oper} {y : Code} (k : Nat) (h : runPv n l.toArray (JorSeq Tryz.prog n ds w0 l.toArray G Q y) k l E) : J Tryz.prog n ds w0 E G Q (.seq (.region id l.toArray false) y) :=
  J.seq (J.region (Seq.go k (runPv_mono JorSeq.seq _ _ _ h)))
/-- behind an act in a region: reckon on. -/
theorem Seq.more {l : List Oper} {rest : List Oper} {y : Code} (k : Nat) (h : runPv n l.toArray (JorSeq Tryz.prog n ds w0 l.toArray G Q y) k rest E) :
    Seq Tryz.prog n ds w0 l.toArray E G (Exit.then (y.wpIn (fen ds) 0 Tryz.prog Q) Q) rest := Seq.go k (runPv_mono JorSeq.seq _ _ _ h)
/-- assertions out of assertions. -/
inductive Gives : List Assn → List Assn → Prop
  | nil {G : List Assn} : Gives G []
  | cons {A : Assn} {G G' L : List Assn} (p : Pick A G G') (t : Gives G' L) : Gives G (A :: L)
  | ex {X : Type} {A : X → List Assn} {G L : List Assn} (x : X) (t : Gives G (A x ++ L)) : Gives G ((fun h => ∃ x, sep (A x) h) :: L)
theorem Gives.sound {G L : List Assn} (g : Gives G L) : ∀ h, sep G h → sep L h := by
  induction g with
  | nil => exact fun _ _ => trivial
  | cons p _ ih => exact fun h s => star_mono (fun _ h => h) (fun h s => ih h s) (p.out s)
  | ex x _ ih =>
    intro h s
    obtain ⟨h1, h2, d, l1, l2, a, b⟩ := sep_append (ih h s)
    exact ⟨h1, h2, d, l1, l2, ⟨x, a⟩, b⟩
/-- an assertion that holds of some x. -/
def exA {X : Type} (A : X → List Assn) : Assn := fun h => ∃ x, sep (A x) h
theorem exA_out {X : Type} {A : X → List Assn} {G : List Assn} {h : Part} (s : sep (exA A :: G) h) : ∃ x, sep (A x ++ G) h := by
  obtain ⟨h1, h2, d, l1, l2, ⟨x, a⟩, b⟩ := s
  exact ⟨x, append_sep ⟨h1, h2, d, l1, l2, a, b⟩⟩
theorem exA_in {X : Type} {A : X → List Assn} {G : List Assn} {h : Part} (x : X) (s : sep (A x ++ G) h) : sep (exA A :: G) h := by
  obtain ⟨h1, h2, d, l1, l2, a, b⟩ := sep_append s
  exact ⟨h1, h2, d, l1, l2, ⟨x, a⟩, b⟩
theorem Yl.build {o : Oper} {t : TypeId} {parts : List (Nat × Operand)} {vs : List (Nat × Value)} {fs : List (Nat × TypeId × Nat)} {s b : Nat} {z out : List Value}
    (ho : o.op = .build t parts.toArray) (hv : evps E parts = some vs) (ht : tab t = some ⟨.str fs, s, b⟩) (hz : zeroOf tab 8 t = some z) (hf : fillL (placesOf fs) z vs = some out) :
    Yl Tryz.prog n ds w0 E G o (.agg out.toArray) := fun a w ha _ => Yp.build_str tab_ok tab_zero ho hv ht hz hf a w ha
theorem Seq.load {ops : Array Oper} {o : Oper} {rest : List Oper} {t : TypeId} {i : TI} {x : Operand} {b off : Nat} {cs : List Value} {v : Value} (hg : gv ops E o = some true) (hd : fits n o.dst = true) (ho : o.op = .load t x)
    (hx : ev E x = some (.pointer (some ⟨b, off, none⟩))) (ht : tab t = some i) (hG : Tells G (CellsAt b off cs)) (hl : cs.length = i.size) (hv : valOf (aggK i.k) cs = some v)
    (h : Seq Tryz.prog n ds w0 ops (put E o.dst v) G Q rest) : Seq Tryz.prog n ds w0 ops E G Q (o :: rest) := Seq.yield hg hd (Yl.load tab_ok ho hx ht hG hl hv) h
/-- cells of a block written out. -/
theorem Tells.lit {b off k : Nat} {c : List Value} {T : TypeId} {fr : Nat × Nat} {G G' : List Assn} (p : Pick (pt b (.cells c.toArray T fr)) G G') : Tells G (CellsAt b off (sub c off k)) :=
  Tells.cells p (fun j v hj => by
    unfold sub at hj
    rw [List.getElem?_take] at hj
    split at hj
    · rw [List.getElem?_drop] at hj; simpa using hj
    · cases hj)
theorem Seq.loadLit {ops : Array Oper} {o : Oper} {rest : List Oper} {t : TypeId} {i : TI} {x : Operand} {b off : Nat} {c : List Value} {v : Value} {T : TypeId} {fr : Nat × Nat} {G' : List Assn} (hg : gv ops E o = some true) (hd : fits n o.dst = true) (ho : o.op = .load t x)
    (hx : ev E x = some (.pointer (some ⟨b, off, none⟩))) (ht : tab t = some i) (p : Pick (pt b (.cells c.toArray T fr)) G G') (hl : (sub c off i.size).length = i.size) (hv : valOf (aggK i.k) (sub c off i.size) = some v)
    (h : Seq Tryz.prog n ds w0 ops (put E o.dst v) G Q rest) : Seq Tryz.prog n ds w0 ops E G Q (o :: rest) := Seq.yield hg hd (Yl.load tab_ok ho hx ht (Tells.lit p) hl hv) h
theorem Ord.loadLit {l : List Oper} {A : Array Nat} {F : List Early} {q : Nat} {ord rest : List Nat} {o : Oper} {t : TypeId} {i : TI} {x : Operand} {b off : Nat} {c : List Value} {v : Value} {T : TypeId} {fr : Nat × Nat} {G' : List Assn} (hR : Right l A ord) (hQ : NP Q) (hn : nth l q = some o) (hk : acts o.op = false)
    (hg : gv l.toArray E o = some true) (hd : fits n o.dst = true) (ho : o.op = .load t x)
    (hx : ev E x = some (.pointer (some ⟨b, off, none⟩))) (ht : tab t = some i) (p : Pick (pt b (.cells c.toArray T fr)) G G') (hl : (sub c off i.size).length = i.size) (hv : valOf (aggK i.k) (sub c off i.size) = some v)
    (h : Ord Tryz.prog n ds w0 l A (⟨q, o, E, v⟩ :: F) (put E o.dst v) G Q rest) : Ord Tryz.prog n ds w0 l A F E G Q (q :: rest) := Ord.look hR hQ hn hk hg hd (Yl.load tab_ok ho hx ht (Tells.lit p) hl hv) h
theorem Seq.storeLit {ops : Array Oper} {o : Oper} {rest : List Oper} {t : TypeId} {i : TI} {x y : Operand} {b off : Nat} {c : List Value} {ty : TypeId} {v : Value} {G' : List Assn} (hg : gv ops E o = some true) (hd : fits n o.dst = true) (ho : o.op = .store t x y)
    (hx : ev E x = some (.pointer (some ⟨b, off, none⟩))) (hy : ev E y = some v) (ht : tab t = some i) (p : Pick (pt b (.cells c.toArray ty (0, 0))) G G')
    (hsz : v.cells.size = i.size) (hone : v.cells.toList.all (fun u => u.oneCell') = true) (hfit : Nat.ble (off + i.size) c.length = true)
    (h : Seq Tryz.prog n ds w0 ops (put E o.dst undef) (pt b (.cells (over c off v.cells.toList).toArray ty (0, 0)) :: G') Q rest) : Seq Tryz.prog n ds w0 ops E G Q (o :: rest) :=
  Seq.eff hg hd (Ef.store tab_ok ho hx hy ht p hsz (fun u hu => List.all_eq_true.1 hone u hu) (Nat.le_of_ble_eq_true hfit)) fun _ => h
theorem Ord.storeLit {l : List Oper} {A : Array Nat} {F : List Early} {q : Nat} {ord rest : List Nat} {o : Oper} {t : TypeId} {i : TI} {x y : Operand} {b off : Nat} {c : List Value} {ty : TypeId} {v : Value} {G' : List Assn} (hR : Right l A ord) (hn : nth l q = some o) (hk : acts o.op = true)
    (hg : gv l.toArray E o = some true) (hd : fits n o.dst = true) (ho : o.op = .store t x y)
    (hx : ev E x = some (.pointer (some ⟨b, off, none⟩))) (hy : ev E y = some v) (ht : tab t = some i) (p : Pick (pt b (.cells c.toArray ty (0, 0))) G G')
    (hsz : v.cells.size = i.size) (hone : v.cells.toList.all (fun u => u.oneCell') = true) (hfit : Nat.ble (off + i.size) c.length = true)
    (hF : Keep Tryz.prog n ds w0 A q (pt b (.cells (over c off v.cells.toList).toArray ty (0, 0)) :: G') F)
    (h : Ord Tryz.prog n ds w0 l A F (put E o.dst undef) (pt b (.cells (over c off v.cells.toList).toArray ty (0, 0)) :: G') Q rest) : Ord Tryz.prog n ds w0 l A F E G Q (q :: rest) :=
  Ord.eff hR hn hk hg hd (Ef.store tab_ok ho hx hy ht p hsz (fun u hu => List.all_eq_true.1 hone u hu) (Nat.le_of_ble_eq_true hfit)) (fun _ => hF) fun _ => h
theorem J.open {P : Program} {X : Type} {A : X → List Assn} {c : Code} (h : ∀ x, J P n ds w0 E (A x ++ G) Q c) : J P n ds w0 E (exA A :: G) Q c := ⟨fun a w ha hw => by
  obtain ⟨x, hx⟩ := exA_out hw.sep
  exact (h x).run a w ha ⟨hx, hw.same⟩⟩
theorem Seq.open {P : Program} {ops : Array Oper} {l : List Oper} {X : Type} {A : X → List Assn} (h : ∀ x, Seq P n ds w0 ops E (A x ++ G) Q l) : Seq P n ds w0 ops E (exA A :: G) Q l := ⟨fun a w ha hw => by
  obtain ⟨x, hx⟩ := exA_out hw.sep
  exact (h x).run a w ha ⟨hx, hw.same⟩⟩
theorem J.perm {P : Program} {G' : List Assn} {c : Code} (g : Gives G G') (h : J P n ds w0 E G' Q c) : J P n ds w0 E G Q c := J.weaken h (fun _ _ h => h) g.sound
theorem Seq.perm {P : Program} {ops : Array Oper} {l : List Oper} {G' : List Assn} (g : Gives G G') (h : Seq P n ds w0 ops E G' Q l) : Seq P n ds w0 ops E G Q l :=
  ⟨fun a w ha hw => h.run a w ha ⟨g.sound _ hw.sep, hw.same⟩⟩
theorem Seq.call {ops : Array Oper} {o : Oper} {rest : List Oper} {fo : Operand} {args : List Operand} {ats : Array TypeId} {fv : Value} {vs vs' : List Value} {f : FuncId} {D : Assn} {A G' : List Assn} {X : Type} {r : X → Value} {B : X → List Assn}
    (hT : Trip Tryz.prog f vs' D A r B) (hg : gv ops E o = some true) (hd : fits n o.dst = true)
    (ho : o.op = .call { callee := .value fo, args := args.toArray, argTypes := ats }) (hfv : ev E fo = some fv) (hvs : evs E args = some vs) (ht : target fv vs = some (f, vs'))
    (hp : Picks A G G') (hD : Tells G' D) (h : ∀ x, Seq Tryz.prog n ds w0 ops (put E o.dst (r x)) (B x ++ G') Q rest) : Seq Tryz.prog n ds w0 ops E G Q (o :: rest) :=
  Seq.eff hg hd (Ef.call ho hfv hvs ht hT hp hD) h
theorem Seq.append {ops : Array Oper} {o : Oper} {rest : List Oper} {s x : Operand} {t e : TypeId} {ts tb k bytes : Nat} {tk : TK} {z : List Value} {a a2 : Option Addr} {m cap m2 c2 : Nat} {xs ys : List Value} {G' : List Assn}
    (hg : gv ops E o = some true) (hd : fits n o.dst = true)
    (ho : o.op = .call { callee := .builtin .append, args := #[s, x], argTypes := #[t, t] }) (hs : ev E s = some (.slice a m cap)) (hx : ev E x = some (.slice a2 m2 c2))
    (ht : tab t = some ⟨.slice e, ts, tb⟩) (he : tab e = some ⟨tk, k + 1, bytes⟩) (hz : zeroOf tab 8 e = some z) (hzk : z.length = k + 1)
    (p : Pick (SlOwn e (k + 1) a m cap xs) G G') (hy : Tells G (SlIn (k + 1) a2 m2 ys)) (h1 : Ones ys)
    (h63 : m + m2 ≤ maxLen) (hbytes : (m + m2) * bytes ≤ 140737488355328)
    (h : ∀ a' cap', Seq Tryz.prog n ds w0 ops (put E o.dst (.slice a' (m + m2) cap')) (SlOwn e (k + 1) a' (m + m2) cap' (xs ++ ys) :: G') Q rest) : Seq Tryz.prog n ds w0 ops E G Q (o :: rest) :=
  Seq.eff hg hd (Ef.append tab_ok tab_zero ho hs hx ht he hz hzk p hy h1 h63 hbytes) fun r => h r.1 r.2
theorem Seq.bslice {ops : Array Oper} {o : Oper} {rest : List Oper} {t e : TypeId} {ts tb k bytes m : Nat} {tk : TK} {z : List Value} {parts : List (Nat × Operand)} {vs : List (Nat × Value)} {out : List Value}
    (hg : gv ops E o = some true) (hd : fits n o.dst = true)
    (ho : o.op = .buildSlice t m parts.toArray) (hv : evps E parts = some vs) (ht : tab t = some ⟨.slice e, ts, tb⟩) (he : tab e = some ⟨tk, k + 1, bytes⟩) (hz : zeroOf tab 8 e = some z) (hzk : z.length = k + 1)
    (hc : catParts (k + 1) 0 vs = some out) (hm : parts.length = m) (hsmall : Nat.ble (m * (k + 1)) 16777216 = true)
    (h : ∀ b, Seq Tryz.prog n ds w0 ops (put E o.dst (.slice (some ⟨b, 0, none⟩) m m)) (SlOwn e (k + 1) (some ⟨b, 0, none⟩) m m out :: G) Q rest) : Seq Tryz.prog n ds w0 ops E G Q (o :: rest) :=
  Seq.eff hg hd (Ef.buildSlice tab_ok tab_zero ho hv ht he hz hzk hc hm (Nat.le_of_ble_eq_true hsmall)) h
def none_ : Assn := fun _ => True
theorem Tells.none : Tells G none_ := fun _ _ => trivial
/-! ### a region whose order is open -/
def seqL : Nat → Nat → List Nat
  | _, 0 => []
  | i, k + 1 => i :: seqL (i + 1) k
def befA (l : List Oper) : Array Nat := Region.before l.toArray
theorem mixed : Tryz.prog.follows .mixedOrders = true := by kernel_rfl
/-- without panics. -/
def nop (Q : Exit → Act → World → Prop) : Exit → Act → World → Prop
  | .panic _, _, _ => False
  | e, a, w => Q e a w
theorem NP.nop : NP (Ent.nop Q) := fun _ _ _ _ _ h => h
theorem nop_mono {e : Exit} {a : Act} {w : World} (h : nop Q e a w) : Q e a w := by cases e <;> first | exact h | exact h.elim
theorem J.draw {id : Nat} {l : List Oper} {y : Code} (ord : List Nat) (hR : rightB l (befA l) ord = true)
    (h : Right l (befA l) ord → Ord Tryz.prog n ds w0 l (befA l) [] E G (nop (Exit.then (y.wpIn (fen ds) 0 Tryz.prog Q) Q)) ord) : J Tryz.prog n ds w0 E G Q (.seq (.region id l.toArray true) y) :=
  J.seq ⟨fun a w ha hw => wpIn_mono ((J.region_any mixed (Right.of hR) (h (Right.of hR))).run a w ha hw) fun _ _ _ h => nop_mono h⟩
theorem J.drawEnd {id : Nat} {l : List Oper} (ord : List Nat) (hR : rightB l (befA l) ord = true)
    (h : Right l (befA l) ord → Ord Tryz.prog n ds w0 l (befA l) [] E G (nop Q) ord) : J Tryz.prog n ds w0 E G Q (.region id l.toArray true) :=
  ⟨fun a w ha hw => wpIn_mono ((J.region_any mixed (Right.of hR) (h (Right.of hR))).run a w ha hw) fun _ _ _ h => nop_mono h⟩
theorem At.nop {K : Act → World → Prop} (h : At n ds w0 E G (Q .normal)) : At n ds w0 E G (Ent.nop Q .normal) := ⟨h.run⟩
def JorOrd (P : Program) (n : Nat) (ds : Fz) (w0 : World) (l : List Oper) (F : List Early) (G : List Assn) (Q : Exit → Act → World → Prop) (y : Code) (r : List Nat) (E : Env) : Prop :=
  match r with
  | [] => J P n ds w0 E G Q y
  | i :: rest => Ord P n ds w0 l (befA l) F E G (nop (Exit.then (y.wpIn (fen ds) 0 P Q) Q)) (i :: rest)
theorem runPvO_mono {l : List Oper} {K K' : List Nat → Env → Prop} (hK : ∀ r E, K r E → K' r E) : ∀ (k : Nat) (r : List Nat) (E : Env), runPvO n l K k r E → runPvO n l K' k r E
  | 0, _, _, h => hK _ _ h
  | k + 1, [], _, h => hK _ _ h
  | k + 1, i :: rest, E, h => by
    simp only [runPvO] at h ⊢
    split at h
    · exact hK _ _ h
    · split at h
      · split at h
        · exact hK _ _ h
        · split at h
          · split at h
            · exact runPvO_mono hK k _ _ h
            · exact h.elim
          · exact hK _ _ h
      · split at h
        · exact hK _ _ h
        · split at h
          · exact runPvO_mono hK k _ _ h
          · exact h.elim
      · exact hK _ _ h
theorem JorOrd.ord {l : List Oper} {F : List Early} {y : Code} (r : List Nat) (E : Env) (h : JorOrd Tryz.prog n ds w0 l F G Q y r E) : Ord Tryz.prog n ds w0 l (befA l) F E G (nop (Exit.then (y.wpIn (fen ds) 0 Tryz.prog Q) Q)) r := by
  cases r with
  | nil => exact Ord.nil ⟨(J.at h).run⟩
  | cons i r => exact h
theorem Ord.more {l : List Oper} {F : List Early} {y : Code} {ord r : List Nat} (hR : Right l (befA l) ord) (k : Nat) (h : runPvO n l (JorOrd Tryz.prog n ds w0 l F G Q y) k r E) :
    Ord Tryz.prog n ds w0 l (befA l) F E G (nop (Exit.then (y.wpIn (fen ds) 0 Tryz.prog Q) Q)) r := Ord.go hR NP.nop k (runPvO_mono JorOrd.ord _ _ _ h)
theorem Ord.append {l : List Oper} {F : List Early} {q : Nat} {ord rest : List Nat} {o : Oper} {s x : Operand} {t e : TypeId} {ts tb k bytes : Nat} {tk : TK} {z : List Value} {a a2 : Option Addr} {m cap m2 c2 : Nat} {xs ys : List Value} {G' : List Assn}
    (hR : Right l (befA l) ord) (hn : nth l q = some o) (hk : acts o.op = true) (hg : gv l.toArray E o = some true) (hd : fits n o.dst = true)
    (ho : o.op = .call { callee := .builtin .append, args := #[s, x], argTypes := #[t, t] }) (hs : ev E s = some (.slice a m cap)) (hx : ev E x = some (.slice a2 m2 c2))
    (ht : tab t = some ⟨.slice e, ts, tb⟩) (he : tab e = some ⟨tk, k + 1, bytes⟩) (hz : zeroOf tab 8 e = some z) (hzk : z.length = k + 1)
    (p : Pick (SlOwn e (k + 1) a m cap xs) G G') (hy : Tells G (SlIn (k + 1) a2 m2 ys)) (h1 : Ones ys)
    (h63 : m + m2 ≤ maxLen) (hbytes : (m + m2) * bytes ≤ 140737488355328) (hF : ∀ a' cap', Keep Tryz.prog n ds w0 (befA l) q (SlOwn e (k + 1) a' (m + m2) cap' (xs ++ ys) :: G') F)
    (h : ∀ a' cap', Ord Tryz.prog n ds w0 l (befA l) F (put E o.dst (.slice a' (m + m2) cap')) (SlOwn e (k + 1) a' (m + m2) cap' (xs ++ ys) :: G') Q rest) : Ord Tryz.prog n ds w0 l (befA l) F E G Q (q :: rest) :=
  Ord.eff hR hn hk hg hd (Ef.append tab_ok tab_zero ho hs hx ht he hz hzk p hy h1 h63 hbytes) (fun r => hF r.1 r.2) fun r => h r.1 r.2
theorem Ord.bslice {l : List Oper} {F : List Early} {q : Nat} {ord rest : List Nat} {o : Oper} {t e : TypeId} {ts tb k bytes m : Nat} {tk : TK} {z : List Value} {parts : List (Nat × Operand)} {vs : List (Nat × Value)} {out : List Value}
    (hR : Right l (befA l) ord) (hn : nth l q = some o) (hk : acts o.op = true) (hg : gv l.toArray E o = some true) (hd : fits n o.dst = true)
    (ho : o.op = .buildSlice t m parts.toArray) (hv : evps E parts = some vs) (ht : tab t = some ⟨.slice e, ts, tb⟩) (he : tab e = some ⟨tk, k + 1, bytes⟩) (hz : zeroOf tab 8 e = some z) (hzk : z.length = k + 1)
    (hc : catParts (k + 1) 0 vs = some out) (hm : parts.length = m) (hsmall : Nat.ble (m * (k + 1)) 16777216 = true) (hF : ∀ b, Keep Tryz.prog n ds w0 (befA l) q (SlOwn e (k + 1) (some ⟨b, 0, none⟩) m m out :: G) F)
    (h : ∀ b, Ord Tryz.prog n ds w0 l (befA l) F (put E o.dst (.slice (some ⟨b, 0, none⟩) m m)) (SlOwn e (k + 1) (some ⟨b, 0, none⟩) m m out :: G) Q rest) : Ord Tryz.prog n ds w0 l (befA l) F E G Q (q :: rest) :=
  Ord.eff hR hn hk hg hd (Ef.buildSlice tab_ok tab_zero ho hv ht he hz hzk hc hm (Nat.le_of_ble_eq_true hsmall)) hF h
theorem Ord.call {l : List Oper} {F : List Early} {q : Nat} {ord rest : List Nat} {o : Oper} {fo : Operand} {args : List Operand} {ats : Array TypeId} {fv : Value} {vs vs' : List Value} {f : FuncId} {D : Assn} {A G' : List Assn} {X : Type} {r : X → Value} {B : X → List Assn}
    (hT : Trip Tryz.prog f vs' D A r B) (hR : Right l (befA l) ord) (hn : nth l q = some o) (hk : acts o.op = true) (hg : gv l.toArray E o = some true) (hd : fits n o.dst = true)
    (ho : o.op = .call { callee := .value fo, args := args.toArray, argTypes := ats }) (hfv : ev E fo = some fv) (hvs : evs E args = some vs) (ht : target fv vs = some (f, vs'))
    (hp : Picks A G G') (hD : Tells G' D) (hF : ∀ x, Keep Tryz.prog n ds w0 (befA l) q (B x ++ G') F) (h : ∀ x, Ord Tryz.prog n ds w0 l (befA l) F (put E o.dst (r x)) (B x ++ G') Q rest) : Ord Tryz.prog n ds w0 l (befA l) F E G Q (q :: rest) :=
  Ord.eff hR hn hk hg hd (Ef.call ho hfv hvs ht hT hp hD) hF h
/-- what was loaded early is still there. -/
theorem Keep.load {A : Array Nat} {k i : Nat} {F : List Early} {o : Oper} {E' : Env} {v : Value} {t : TypeId} {ti : TI} {x : Operand} {b off : Nat} {c : List Value} {T : TypeId} {fr : Nat × Nat} {G' : List Assn} (ho : o.op = .load t x)
    (hx : ev E' x = some (.pointer (some ⟨b, off, none⟩))) (ht : tab t = some ti) (p : Pick (pt b (.cells c.toArray T fr)) G G') (hl : (sub c off ti.size).length = ti.size) (hv : valOf (aggK ti.k) (sub c off ti.size) = some v)
    (h : Keep Tryz.prog n ds w0 A k G F) : Keep Tryz.prog n ds w0 A k G (⟨i, o, E', v⟩ :: F) := Keep.again (Yl.load tab_ok ho hx ht (Tells.lit p) hl hv) h
/-- what memory tells of numbers. -/
theorem J.fact {P : Program} {c : Code} {p : Prop} (hp : ∀ h, sep G h → p) (h : p → J P n ds w0 E G Q c) : J P n ds w0 E G Q c := ⟨fun a w ha hw => (h (hp _ hw.sep)).run a w ha hw⟩
theorem Seq.fact {P : Program} {ops : Array Oper} {l : List Oper} {p : Prop} (hp : ∀ h, sep G h → p) (h : p → Seq P n ds w0 ops E G Q l) : Seq P n ds w0 ops E G Q l := ⟨fun a w ha hw => (h (hp _ hw.sep)).run a w ha hw⟩
theorem Tells.fact {D : Assn} {p : Prop} (t : Tells G D) (hp : ∀ h, D h → p) : ∀ h, sep G h → p := fun h s => hp h (t h s)
end
end Go.Ent
namespace Go.Ent
open Go Go.Proofs
section
variable {P : Program} {n : Nat} {ds : Fz} {w0 : World} {E : Env} {G : List Assn} {Q : Exit → Act → World → Prop}
theorem Agree.set {d : Nat} {v v' : Value} {a : Act} (h : look E d = some v) (e : v = v') (ha : Agree n ds E a) : Agree n ds ((d, v') :: E) a := by
  refine ⟨ha.size, ha.defers, fun j u hj => ?_⟩
  simp only [Ent.look] at hj
  cases hb : Nat.beq d j with
  | true =>
    rw [hb] at hj
    have := Nat.eq_of_beq_eq_true hb
    subst this
    cases hj
    exact e ▸ ha.get _ _ h
  | false => rw [hb] at hj; exact ha.get _ _ hj
theorem Seq.set {ops : Array Oper} {l : List Oper} (d : Nat) (v' : Value) {v : Value} (h : look E d = some v) (e : v = v') (k : Seq P n ds w0 ops ((d, v') :: E) G Q l) : Seq P n ds w0 ops E G Q l :=
  ⟨fun a w ha hw => k.run a w (ha.set h e) hw⟩
theorem J.set {c : Code} (d : Nat) (v' : Value) {v : Value} (h : look E d = some v) (e : v = v') (k : J P n ds w0 ((d, v') :: E) G Q c) : J P n ds w0 E G Q c :=
  ⟨fun a w ha hw => k.run a w (ha.set h e) hw⟩
theorem Ord.set {l : List Oper} {A : Array Nat} {F : List Early} {r : List Nat} (d : Nat) (v' : Value) {v : Value} (h : Ent.look E d = some v) (e : v = v') (k : Ord P n ds w0 l A F ((d, v') :: E) G Q r) : Ord P n ds w0 l A F E G Q r :=
  ⟨fun listed a w hc hcl ha hw hH => k.run listed a w hc hcl (ha.set h e) hw hH⟩
/-- less is known. -/
theorem J.forget {c : Code} (E' : Env) (hE : ∀ j v, look E' j = some v → look E j = some v) (k : J P n ds w0 E' G Q c) : J P n ds w0 E G Q c := ⟨fun a w ha hw => k.run a w (ha.weaken hE) hw⟩
/-- slots of a list, one by one. -/
inductive Sub : Env → Env → Prop
  | nil {E : Env} : Sub [] E
  | cons {E E' : Env} {d : Nat} {v : Value} (h : look E d = some v) (t : Sub E' E) : Sub ((d, v) :: E') E
theorem Sub.look {E E' : Env} (s : Sub E' E) : ∀ j v, look E' j = some v → look E j = some v := by
  induction s with
  | nil => intro j v h; cases h
  | cons h _ ih =>
    rename_i d u _
    intro j v hj
    simp only [Ent.look] at hj
    cases hb : Nat.beq d j with
    | true => rw [hb] at hj; have := Nat.eq_of_beq_eq_true hb; subst this; cases hj; exact h
    | false => rw [hb] at hj; exact ih j v hj
theorem sep_pure {A : Assn} {G : List Assn} {h : Part} (hA : ∀ h, A h) (s : sep G h) : sep (A :: G) h :=
  ⟨fun _ => none, h, fun _ _ _ e => by simp at e, fun _ _ e => by simp at e, Part.le_refl _, hA _, s⟩
/-! ### code as a list -/
def wpL (ds : Fz) (P : Program) (Q : Exit → Act → World → Prop) : List Code → Act → World → Prop
  | [] => Q .normal
  | c :: cs => c.wpIn (fen ds) 0 P (Exit.then (wpL ds P Q cs) Q)
variable (P n ds w0) in
/-- pieces of code, one behind the other. -/
structure JL (E : Env) (G : List Assn) (Q : Exit → Act → World → Prop) (cs : List Code) : Prop where
  run : ∀ a w, Agree n ds E a → St w0 G w → wpL ds P Q cs a w
theorem JL.of {c : Code} {cs : List Code} (h : J P n ds w0 E G (Exit.then (wpL ds P Q cs) Q) c) : JL P n ds w0 E G Q (c :: cs) := ⟨h.run⟩
theorem JL.start {c : Code} (h : JL P n ds w0 E G Q [c]) : J P n ds w0 E G Q c := ⟨fun a w ha hw => wpIn_mono (h.run a w ha hw) fun e a' w' he => by cases e <;> exact he⟩
theorem JL.at {cs : List Code} (h : JL P n ds w0 E G Q cs) : At n ds w0 E G (wpL ds P Q cs) := ⟨h.run⟩
theorem JL.nil (h : At n ds w0 E G (Q .normal)) : JL P n ds w0 E G Q [] := ⟨h.run⟩
theorem JL.flat {x y : Code} {cs : List Code} (h : JL P n ds w0 E G Q (x :: y :: cs)) : JL P n ds w0 E G Q (.seq x y :: cs) := ⟨fun a w ha hw => by
  refine wpIn_seq (wpIn_mono (h.run a w ha hw) fun e a' w' he => ?_)
  cases e <;> exact he⟩
theorem JL.ifF {c : Operand} {x y : Code} {cs : List Code} (hc : ev E c = some (.bool false)) (h : JL P n ds w0 E G Q (y :: cs)) : JL P n ds w0 E G Q (.cond c x y :: cs) := JL.of (J.cond_false hc ⟨h.run⟩)
theorem JL.ifT {c : Operand} {x y : Code} {cs : List Code} (hc : ev E c = some (.bool true)) (h : JL P n ds w0 E G Q (x :: cs)) : JL P n ds w0 E G Q (.cond c x y :: cs) := JL.of (J.cond_true hc ⟨h.run⟩)
theorem JL.ifB {c : Operand} {x y : Code} {cs : List Code} {b : Bool} (hc : ev E c = some (.bool b)) (hx : b = true → JL P n ds w0 E G Q (x :: cs)) (hy : b = false → JL P n ds w0 E G Q (y :: cs)) : JL P n ds w0 E G Q (.cond c x y :: cs) :=
  JL.of (J.cond hc (fun e => ⟨(hx e).run⟩) fun e => ⟨(hy e).run⟩)
theorem JL.skip {cs : List Code} (h : JL P n ds w0 E G Q cs) : JL P n ds w0 E G Q (.skip :: cs) := JL.of (J.skip (At.then_normal h.at))
theorem JL.ret {cs : List Code} (h : At n ds w0 E G (Q .ret)) : JL P n ds w0 E G Q (.ret :: cs) := JL.of (J.ret (At.then_ret h))
theorem JL.exit {id : Nat} {cs : List Code} (h : At n ds w0 E G (Q (.exit id))) : JL P n ds w0 E G Q (.exit id :: cs) := JL.of (J.exit (At.then_exit h))
theorem JL.block {id : Nat} {c : Code} {cs : List Code} (h : JL P n ds w0 E G (Exit.inBlock id (Exit.then (wpL ds P Q cs) Q)) [c]) : JL P n ds w0 E G Q (.block id c :: cs) := JL.of (J.block h.start)
theorem JL.loop {c : Code} {cs : List Code} {X : Type} (x0 : X) (EI : X → Env) (GI : X → List Assn) (μ : X → Nat)
    (hE : Sub (EI x0) E) (hG : ∀ h, sep G h → sep (GI x0) h)
    (round : ∀ x, JL P n ds w0 (EI x) (GI x) (Exit.then (fun a w => ∃ x', μ x' < μ x ∧ Agree n ds (EI x') a ∧ St w0 (GI x') w) (Exit.then (wpL ds P Q cs) Q)) [c]) : JL P n ds w0 E G Q (.loop c :: cs) :=
  JL.of (J.loop x0 EI GI μ hE.look hG fun x => (round x).start)
theorem JL.open {X : Type} {A : X → List Assn} {cs : List Code} (h : ∀ x, JL P n ds w0 E (A x ++ G) Q cs) : JL P n ds w0 E (exA A :: G) Q cs := ⟨fun a w ha hw => by
  obtain ⟨x, hx⟩ := exA_out hw.sep
  exact (h x).run a w ha ⟨hx, hw.same⟩⟩
theorem JL.perm {G' : List Assn} {cs : List Code} (g : Gives G G') (h : JL P n ds w0 E G' Q cs) : JL P n ds w0 E G Q cs := ⟨fun a w ha hw => h.run a w ha ⟨g.sound _ hw.sep, hw.same⟩⟩
theorem JL.fact {cs : List Code} {p : Prop} (hp : ∀ h, sep G h → p) (h : p → JL P n ds w0 E G Q cs) : JL P n ds w0 E G Q cs := ⟨fun a w ha hw => (h (hp _ hw.sep)).run a w ha hw⟩
theorem JL.set {cs : List Code} (d : Nat) (v' : Value) {v : Value} (h : look E d = some v) (e : v = v') (k : JL P n ds w0 ((d, v') :: E) G Q cs) : JL P n ds w0 E G Q cs :=
  ⟨fun a w ha hw => k.run a w (ha.set h e) hw⟩
theorem JL.cut1 {c : Code} {cs : List Code} (d : Nat) (v : Value) (h1 : J P n ds w0 E G (Exit.then (fun a w => Agree n ds ((d, v) :: E) a ∧ St w0 G w) (Exit.then (wpL ds P Q cs) Q)) c) (h2 : JL P n ds w0 ((d, v) :: E) G Q cs) : JL P n ds w0 E G Q (c :: cs) :=
  ⟨fun a w ha hw => wpIn_mono (h1.run a w ha hw) (fun e a' w' he => by cases e <;> first | exact h2.run a' w' he.1 he.2 | exact he)⟩
def LorSeq (P : Program) (n : Nat) (ds : Fz) (w0 : World) (ops : Array Oper) (G : List Assn) (Q : Exit → Act → World → Prop) (cs : List Code) (l : List Oper) (E : Env) : Prop :=
  match l with
  | [] => JL P n ds w0 E G Q cs
  | o :: rest => Seq P n ds w0 ops E G (Exit.then (wpL ds P Q cs) Q) (o :: rest)
theorem LorSeq.seq {ops : Array Oper} {cs : List Code} (l : List Oper) (E : Env) (h : LorSeq P n ds w0 ops G Q cs l E) : Seq P n ds w0 ops E G (Exit.then (wpL ds P Q cs) Q) l := by
  cases l with
  | nil => exact Seq.nil (At.then_normal h.at)
  | cons o r => exact h
theorem JL.go {id : Nat} {l : List Oper} {cs : List Code} (k : Nat) (h : runPv n l.toArray (LorSeq Tryz.prog n ds w0 l.toArray G Q cs) k l E) : JL Tryz.prog n ds w0 E G Q (.region id l.toArray false :: cs) :=
  JL.of (J.region (Seq.go k (runPv_mono LorSeq.seq _ _ _ h)))
theorem Seq.on {l : List Oper} {rest : List Oper} {cs : List Code} (k : Nat) (h : runPv n l.toArray (LorSeq Tryz.prog n ds w0 l.toArray G Q cs) k rest E) :
    Seq Tryz.prog n ds w0 l.toArray E G (Exit.then (wpL ds Tryz.prog Q cs) Q) rest := Seq.go k (runPv_mono LorSeq.seq _ _ _ h)
theorem JL.draw {id : Nat} {l : List Oper} {cs : List Code} (ord : List Nat) (hR : rightB l (befA l) ord = true)
    (h : Right l (befA l) ord → Ord Tryz.prog n ds w0 l (befA l) [] E G (nop (Exit.then (wpL ds Tryz.prog Q cs) Q)) ord) : JL Tryz.prog n ds w0 E G Q (.region id l.toArray true :: cs) := JL.of (J.drawEnd ord hR h)
theorem JL.draws {id : Nat} {l : List Oper} {cs : List Code} (hR : rightB l (befA l) (seqL 0 l.length) = true)
    (h : Right l (befA l) (seqL 0 l.length) → Ord Tryz.prog n ds w0 l (befA l) [] E G (nop (Exit.then (wpL ds Tryz.prog Q cs) Q)) (seqL 0 l.length)) : JL Tryz.prog n ds w0 E G Q (.region id l.toArray true :: cs) := JL.of (J.drawEnd _ hR h)
def LorOrd (P : Program) (n : Nat) (ds : Fz) (w0 : World) (l : List Oper) (F : List Early) (G : List Assn) (Q : Exit → Act → World → Prop) (cs : List Code) (r : List Nat) (E : Env) : Prop :=
  match r with
  | [] => JL P n ds w0 E G Q cs
  | i :: rest => Ord P n ds w0 l (befA l) F E G (nop (Exit.then (wpL ds P Q cs) Q)) (i :: rest)
theorem LorOrd.ord {l : List Oper} {F : List Early} {cs : List Code} (r : List Nat) (E : Env) (h : LorOrd Tryz.prog n ds w0 l F G Q cs r E) : Ord Tryz.prog n ds w0 l (befA l) F E G (nop (Exit.then (wpL ds Tryz.prog Q cs) Q)) r := by
  cases r with
  | nil => exact Ord.nil ⟨h.at.run⟩
  | cons i r => exact h
theorem Ord.on {l : List Oper} {F : List Early} {cs : List Code} {ord r : List Nat} (hR : Right l (befA l) ord) (k : Nat) (h : runPvO n l (LorOrd Tryz.prog n ds w0 l F G Q cs) k r E) :
    Ord Tryz.prog n ds w0 l (befA l) F E G (nop (Exit.then (wpL ds Tryz.prog Q cs) Q)) r := Ord.go hR NP.nop k (runPvO_mono LorOrd.ord _ _ _ h)
theorem Trip.start {f : FuncId} {fn : Func} {c : Code} {args : List Value} {D : Assn} {A : List Assn} {X : Type} {r : X → Value} {B : X → List Assn}
    (hf : P.funcs[f]? = some fn) (hn : (fn.name == "runtime.NumGoroutine") = false) (hb : fn.body = some c) (hk : fn.ntmps = n) (hle : Nat.ble args.length n = true)
    (h : ∀ (F : Assn) (w : World), (∀ h, F h → D h) → JL P n fz0 w (envOf 0 args) (A ++ [F]) (bodyPost P fn fun e w' => ∃ x, e = .returned (r x) ∧ St w (B x ++ [F]) w') [c]) :
    Trip P f args D A r B := Trip.intro hf hn hb hk hle fun F w hD => (h F w hD).start
end
/-! ### bytes -/
def bval (b : UInt8) : Value := .int .u8 (b.toNat : Int)
def bytesV (l : List UInt8) : List Value := l.map bval
theorem bytesV_append (l m : List UInt8) : bytesV (l ++ m) = bytesV l ++ bytesV m := by simp [bytesV]
theorem bytesV_length (l : List UInt8) : (bytesV l).length = l.length := by simp [bytesV]
theorem Ones_bytesV (l : List UInt8) : Ones (bytesV l) := fun u hu => by
  obtain ⟨b, _, rfl⟩ := List.mem_map.1 hu
  rfl
theorem bytesV_drop (l : List UInt8) (k : Nat) : bytesV (l.drop k) = (bytesV l).drop k := by simp [bytesV, List.map_drop]
theorem bytesV_take (l : List UInt8) (k : Nat) : bytesV (l.take k) = (bytesV l).take k := by simp [bytesV, List.map_take]
/-- byte k of a number, from below. -/
def byteAt (n k : Nat) : UInt8 := UInt8.ofNat (n / 2 ^ (8 * k))
/-- a number's bytes. -/
def beB (n : Nat) : Nat → List UInt8
  | 0 => []
  | k + 1 => byteAt n k :: beB n k
theorem beB_length (n : Nat) : ∀ k, (beB n k).length = k
  | 0 => rfl
  | k + 1 => by simp [beB, beB_length n k]
/-- the number of bytes. -/
def numB : List UInt8 → Nat := List.foldl (fun n b => n * 256 + b.toNat) 0
theorem conv_shr (n k : Nat) : IntKind.u8.wrap (Int.fdiv (n : Int) (2 ^ k)) = ((UInt8.ofNat (n / 2 ^ k)).toNat : Int) := by
  have : Int.fdiv (n : Int) (2 ^ k) = ((n / 2 ^ k : Nat) : Int) := by
    rw [show ((2 : Int) ^ k) = ((2 ^ k : Nat) : Int) by simp, Int.ofNat_fdiv]
  rw [this]
  simp [IntKind.wrap, UInt8.toNat_ofNat', IntKind.signed, IntKind.bits]
theorem shr_zero {n k : Nat} (h : n < 2 ^ k) : Int.fdiv (n : Int) (2 ^ k) = 0 := by
  rw [show ((2 : Int) ^ k) = ((2 ^ k : Nat) : Int) by simp, ← Int.ofNat_fdiv, Nat.div_eq_of_lt h]
  rfl
theorem wrap64 {n : Nat} (h : n < 2 ^ 64) : IntKind.u64.wrap (n : Int) = (n : Int) := by
  simp only [IntKind.wrap, IntKind.signed, IntKind.bits, Bool.false_and, Bool.false_eq_true, if_false]
  omega
theorem wrapI {n : Nat} (h : n < 2 ^ 63) : IntKind.i64.wrap (n : Int) = (n : Int) := by
  simp only [IntKind.wrap, IntKind.signed, IntKind.bits, Bool.true_and]
  rw [if_neg (by simp; omega)]
  omega
def ptrV (p : Nat) : Value := .pointer (some ⟨p, 0, none⟩)
/-- a slice of bytes that can be read. -/
def BIn (a : Option Addr) (l : List UInt8) : Assn := SlIn 1 a l.length (bytesV l)
section
variable {n : Nat} {ds : Fz} {w0 : World} {E : Env} {G : List Assn} {Q : Exit → Act → World → Prop}
theorem app_bound {m m2 bytes : Nat} (hl : m + m2 ≤ 100000000) (hb : Nat.ble bytes 1 = true) : m + m2 ≤ maxLen ∧ (m + m2) * bytes ≤ 140737488355328 := by
  have := Nat.le_of_ble_eq_true hb
  refine ⟨by unfold maxLen; omega, ?_⟩
  have := Nat.mul_le_mul_left (m + m2) this
  omega
/-- bytes behind bytes. -/
theorem Seq.appendB {ops : Array Oper} {o : Oper} {rest : List Oper} {s x : Operand} {t e : TypeId} {ts tb bytes : Nat} {tk : TK} {z : List Value} {a a2 : Option Addr} {cap m2 c2 : Nat} {l ys : List UInt8} {G' : List Assn}
    (hg : gv ops E o = some true) (hd : fits n o.dst = true)
    (ho : o.op = .call { callee := .builtin .append, args := #[s, x], argTypes := #[t, t] }) (hs : ev E s = some (.slice a l.length cap)) (hx : ev E x = some (.slice a2 m2 c2)) (hm : m2 = ys.length)
    (ht : tab t = some ⟨.slice e, ts, tb⟩) (he : tab e = some ⟨tk, 1, bytes⟩) (hz : zeroOf tab 8 e = some z) (hzk : z.length = 1) (hb : Nat.ble bytes 1 = true)
    (p : Pick (SlOwn e 1 a l.length cap (bytesV l)) G G') (hy : Tells G (BIn a2 ys)) (hl : l.length + ys.length ≤ 100000000)
    (h : ∀ a' cap', Seq Tryz.prog n ds w0 ops (put E o.dst (.slice a' (l ++ ys).length cap')) (SlOwn e 1 a' (l ++ ys).length cap' (bytesV (l ++ ys)) :: G') Q rest) : Seq Tryz.prog n ds w0 ops E G Q (o :: rest) := by
  subst hm
  obtain ⟨h1, h2⟩ := app_bound hl hb
  refine Seq.append hg hd ho hs hx ht he hz hzk p hy (Ones_bytesV _) h1 h2 fun a' cap' => ?_
  have := h a' cap'
  rw [bytesV_append, List.length_append] at this
  exact this
theorem Ord.appendB {lo : List Oper} {F : List Early} {q : Nat} {ord rest : List Nat} {o : Oper} {s x : Operand} {t e : TypeId} {ts tb bytes : Nat} {tk : TK} {z : List Value} {a a2 : Option Addr} {cap m2 c2 : Nat} {l ys : List UInt8} {G' : List Assn}
    (hR : Right lo (befA lo) ord) (hn : nth lo q = some o) (hk : acts o.op = true) (hg : gv lo.toArray E o = some true) (hd : fits n o.dst = true)
    (ho : o.op = .call { callee := .builtin .append, args := #[s, x], argTypes := #[t, t] }) (hs : ev E s = some (.slice a l.length cap)) (hx : ev E x = some (.slice a2 m2 c2)) (hm : m2 = ys.length)
    (ht : tab t = some ⟨.slice e, ts, tb⟩) (he : tab e = some ⟨tk, 1, bytes⟩) (hz : zeroOf tab 8 e = some z) (hzk : z.length = 1) (hb : Nat.ble bytes 1 = true)
    (p : Pick (SlOwn e 1 a l.length cap (bytesV l)) G G') (hy : Tells G (BIn a2 ys)) (hl : l.length + ys.length ≤ 100000000)
    (hF : ∀ a' cap', Keep Tryz.prog n ds w0 (befA lo) q (SlOwn e 1 a' (l ++ ys).length cap' (bytesV (l ++ ys)) :: G') F)
    (h : ∀ a' cap', Ord Tryz.prog n ds w0 lo (befA lo) F (put E o.dst (.slice a' (l ++ ys).length cap')) (SlOwn e 1 a' (l ++ ys).length cap' (bytesV (l ++ ys)) :: G') Q rest) : Ord Tryz.prog n ds w0 lo (befA lo) F E G Q (q :: rest) := by
  subst hm
  obtain ⟨h1, h2⟩ := app_bound hl hb
  refine Ord.append hR hn hk hg hd ho hs hx ht he hz hzk p hy (Ones_bytesV _) h1 h2 (fun a' cap' => ?_) fun a' cap' => ?_
  · have := hF a' cap'
    rw [bytesV_append, List.length_append] at this
    exact this
  · have := h a' cap'
    rw [bytesV_append, List.length_append] at this
    exact this
/-- a slice of a slice. -/
theorem slAddr_in {k : Nat} {a : Option Addr} {m cap lo hi : Nat} {xs : List Value} {h : Part} (x : SlIn k a m xs h) (hmc : m ≤ cap) (h0 : lo ≤ hi) (h1 : hi ≤ m) :
    SlIn k (slAddr a cap lo k) (hi - lo) ((xs.drop (lo * k)).take ((hi - lo) * k)) h := by
  refine ⟨?_, ?_⟩
  · have h2 : hi * k ≤ m * k := Nat.mul_le_mul_right _ h1
    have h3 : (hi - lo) * k = hi * k - lo * k := Nat.sub_mul ..
    simp only [List.length_take, List.length_drop, x.1]
    omega
  · rcases Nat.lt_or_ge lo hi with hlt | hge
    · obtain ⟨b, off, rfl, hc⟩ := x.cells (by omega)
      refine .inr ⟨b, off + lo * k, ?_, ?_⟩
      · have : ¬ cap = lo := by omega
        simp [slAddr, this, Addr.add_plain]
      · exact hc.sub (lo * k) ((hi - lo) * k)
    · exact .inl (by omega)
theorem Yl.sliceB {o : Oper} {x : Operand} {lo hi : Option Operand} {t e : TypeId} {ts tb : Nat} {ei : TI} {ad : Option Addr} {m cap : Nat} {vl vh : Option Value} (l h : Nat) (ho : o.op = .slice t x lo hi none)
    (hx : ev E x = some (.slice ad m cap)) (hlo : evo E lo = some vl) (hhi : evo E hi = some vh) (ht : tab t = some ⟨.slice e, ts, tb⟩) (he : tab e = some ei) (hl : loOf vl = some (l : Int)) (hh : hiOf m vh = some (h : Int))
    (h1 : l ≤ h) (h2 : h ≤ m) (hmc : m ≤ cap) : Yl Tryz.prog n ds w0 E G o (.slice (slAddr ad cap l ei.size) (h - l) (cap - l)) := by
  have := Yl.slice (P := Tryz.prog) (n := n) (ds := ds) (w0 := w0) (G := G) tab_ok ho hx hlo hhi ht he hl hh (by omega) (by omega) (by omega) hmc
  simpa using this
theorem Seq.sliceB {ops : Array Oper} {o : Oper} {rest : List Oper} {x : Operand} {lo hi : Option Operand} {t e : TypeId} {ts tb : Nat} {ei : TI} {ad : Option Addr} {m cap : Nat} {vl vh : Option Value} (l h : Nat) (ys : List UInt8)
    (hg : gv ops E o = some true) (hd : fits n o.dst = true) (ho : o.op = .slice t x lo hi none)
    (hx : ev E x = some (.slice ad m cap)) (hlo : evo E lo = some vl) (hhi : evo E hi = some vh) (ht : tab t = some ⟨.slice e, ts, tb⟩) (he : tab e = some ei) (hs : ei.size = 1) (hl : loOf vl = some (l : Int)) (hh : hiOf m vh = some (h : Int))
    (hm : m = ys.length) (h1 : l ≤ h) (h2 : h ≤ m) (hmc : m ≤ cap)
    (k : ∀ a', (∀ p, BIn ad ys p → BIn a' ((ys.drop l).take (h - l)) p) → Seq Tryz.prog n ds w0 ops (put E o.dst (.slice a' ((ys.drop l).take (h - l)).length (cap - l))) G Q rest) : Seq Tryz.prog n ds w0 ops E G Q (o :: rest) := by
  refine Seq.yield hg hd (Yl.sliceB l h ho hx hlo hhi ht he hl hh h1 h2 hmc) ?_
  have hlen : ((ys.drop l).take (h - l)).length = h - l := by simp; omega
  have := k (slAddr ad cap l ei.size) fun p hp => by
    have h3 := slAddr_in (k := 1) hp (lo := l) (hi := h) (cap := cap) (by omega) h1 (by omega)
    rw [hs]
    unfold BIn
    rw [hlen, bytesV_take, bytesV_drop]
    simpa using h3
  rw [hlen] at this
  exact this
/-- bytes that are owned, as they are read. -/
theorem BOwn_BIn {e : TypeId} {a : Option Addr} {cap : Nat} {l : List UInt8} {h : Part} (x : SlOwn e 1 a l.length cap (bytesV l) h) : BIn a l h := x.read
theorem pure_of {p : Prop} {G' : List Assn} (k : Pick (fun _ => p) G G') : ∀ h, sep G h → p := fun h s => by
  obtain ⟨_, _, _, _, _, a, _⟩ := k.out s
  exact a
theorem JL.know {P : Program} {p : Prop} {cs : List Code} {G' : List Assn} (k : Pick (fun _ => p) G G') (h : p → JL P n ds w0 E G Q cs) : JL P n ds w0 E G Q cs := JL.fact (pure_of k) h
theorem Tells.at {D D' : Assn} (t : Tells G D) (h : ∀ p, D p → D' p) : Tells G D' := fun p s => h p (t p s)
/-- an element's place. -/
theorem Seq.idx {ops : Array Oper} {o : Oper} {rest : List Oper} {x ix : Operand} {t e : TypeId} {ts tb : Nat} {ei : TI} {ad : Option Addr} {m cap : Nat} {ik : IntKind} {xs : List Value} (i : Nat)
    (hg : gv ops E o = some true) (hd : fits n o.dst = true) (ho : o.op = .indexAddr t x ix) (hx : ev E x = some (.slice ad m cap)) (hi : ev E ix = some (.int ik (i : Int))) (ht : tab t = some ⟨.slice e, ts, tb⟩) (he : tab e = some ei)
    (hT : Tells G (SlIn ei.size ad m xs)) (hlt : i < m)
    (k : ∀ b off, Tells G (CellsAt b off (sub xs (i * ei.size) ei.size)) → Seq Tryz.prog n ds w0 ops (put E o.dst (.pointer (some ⟨b, off, none⟩))) G Q rest) : Seq Tryz.prog n ds w0 ops E G Q (o :: rest) := ⟨fun a w ha hw => by
  obtain ⟨b, off, had, _⟩ := (hT _ hw.sep).cells (by omega)
  subst had
  have hy : Yl Tryz.prog n ds w0 E G o (.pointer (some ⟨b, off + (i : Int).toNat * ei.size, none⟩)) := Yl.indexAddr tab_ok ho hx hi ht he (by omega) (by omega)
  refine (Seq.yield hg hd hy (k b _ fun p hp => ?_)).run a w ha hw
  obtain ⟨b', off', e', c'⟩ := (hT p hp).cells (by omega)
  cases e'
  exact c'.sub (i * ei.size) ei.size⟩
theorem sub_bytes {l : List UInt8} {i : Nat} (h : i < l.length) : Ent.sub (bytesV l) (i * 1) 1 = [bval l[i]] := by
  unfold Ent.sub bytesV
  rw [Nat.mul_one, ← List.map_drop, ← List.map_take, List.drop_eq_getElem_cons h]
  rfl
theorem Seq.idxB {ops : Array Oper} {o : Oper} {rest : List Oper} {x ix : Operand} {t e : TypeId} {ts tb b1 : Nat} {tk : TK} {ad : Option Addr} {m cap : Nat} {ik : IntKind} {l : List UInt8} (i : Nat)
    (hg : gv ops E o = some true) (hd : fits n o.dst = true) (ho : o.op = .indexAddr t x ix) (hx : ev E x = some (.slice ad m cap)) (hi : ev E ix = some (.int ik (i : Int))) (ht : tab t = some ⟨.slice e, ts, tb⟩) (he : tab e = some ⟨tk, 1, b1⟩)
    (hT : Tells G (BIn ad l)) (hm : m = l.length) (hlt : i < l.length)
    (k : ∀ b off, Tells G (CellsAt b off [bval l[i]]) → Seq Tryz.prog n ds w0 ops (put E o.dst (.pointer (some ⟨b, off, none⟩))) G Q rest) : Seq Tryz.prog n ds w0 ops E G Q (o :: rest) := by
  subst hm
  refine Seq.idx i hg hd ho hx hi ht he hT hlt fun b off h => k b off ?_
  rw [sub_bytes hlt] at h
  exact h
end
section
variable {n : Nat} {ds : Fz} {w0 : World} {E : Env} {G : List Assn} {Q : Exit → Act → World → Prop}
theorem Ord.idx {l : List Oper} {A : Array Nat} {F : List Early} {q : Nat} {ord rest : List Nat} {o : Oper} {x ix : Operand} {t e : TypeId} {ts tb : Nat} {ei : TI} {b off m cap : Nat} {ik : IntKind} (i : Nat)
    (hR : Right l A ord) (hQ : NP Q) (hn : nth l q = some o) (hk : acts o.op = false) (hg : gv l.toArray E o = some true) (hd : fits n o.dst = true)
    (ho : o.op = .indexAddr t x ix) (hx : ev E x = some (.slice (some ⟨b, off, none⟩) m cap)) (hi : ev E ix = some (.int ik (i : Int))) (ht : tab t = some ⟨.slice e, ts, tb⟩) (he : tab e = some ei) (hlt : i < m)
    (h : Ord Tryz.prog n ds w0 l A F (put E o.dst (.pointer (some ⟨b, off + i * ei.size, none⟩))) G Q rest) : Ord Tryz.prog n ds w0 l A F E G Q (q :: rest) := by
  refine Ord.pure (v := .pointer (some ⟨b, off + (i : Int).toNat * ei.size, none⟩)) hR hQ hn hk hg hd (fun a w ha => ?_) h
  have h0 : (0 : Int) ≤ i := by omega
  have h1 : (i : Int) < m := by omega
  simp [execOp, ho, Instr.indexAt, ha.eval hx, ha.eval hi, asIntOf, run_underlying (tab_ok.slice ht), h0, h1, run_sizeOf_tab tab_ok he, Addr.add_plain]
  intro hmi; omega
theorem Ord.load {l : List Oper} {A : Array Nat} {F : List Early} {q : Nat} {ord rest : List Nat} {o : Oper} {t : TypeId} {i : TI} {x : Operand} {b off : Nat} {cs : List Value} {v : Value}
    (hR : Right l A ord) (hQ : NP Q) (hn : nth l q = some o) (hk : acts o.op = false) (hg : gv l.toArray E o = some true) (hd : fits n o.dst = true) (ho : o.op = .load t x)
    (hx : ev E x = some (.pointer (some ⟨b, off, none⟩))) (ht : tab t = some i) (hG : Tells G (CellsAt b off cs)) (hl : cs.length = i.size) (hv : valOf (aggK i.k) cs = some v)
    (h : Ord Tryz.prog n ds w0 l A (⟨q, o, E, v⟩ :: F) (put E o.dst v) G Q rest) : Ord Tryz.prog n ds w0 l A F E G Q (q :: rest) := Ord.look hR hQ hn hk hg hd (Yl.load tab_ok ho hx ht hG hl hv) h
theorem BIn.cell {b off : Nat} {l : List UInt8} (i : Nat) (hi : i < l.length) (h : Part) (x : BIn (some ⟨b, off, none⟩) l h) : CellsAt b (off + i * 1) [bval l[i]] h := by
  obtain ⟨b', off', e', c'⟩ := SlIn.cells x (by omega)
  cases e'
  have := c'.sub (i * 1) 1
  rw [sub_bytes hi] at this
  exact this
theorem Tells.shape {k m : Nat} {a : Option Addr} {xs : List Value} (t : Tells G (SlIn k a m xs)) (hm : 0 < m) : ∀ h, sep G h → ∃ b off, a = some ⟨b, off, Option.none⟩ := fun h s => by
  obtain ⟨b, off, e, _⟩ := (t h s).cells hm
  exact ⟨b, off, e⟩
end
theorem wrap_int {n : Int} (h0 : 0 ≤ n) (h : n < 18446744073709551616) : IntKind.u64.wrap n = n := by
  simp only [IntKind.wrap, IntKind.signed, IntKind.bits, Bool.false_and, Bool.false_eq_true, if_false]
  omega
theorem int_beq (k m : Nat) : ((k : Int) == (m : Int)) = (k == m) := by
  rw [Bool.eq_iff_iff]; simp; omega
theorem two64 : 18446744073709551616 = 2 ^ 64 := by simp
theorem or_byte (n b : Nat) (h : n * 256 + b < 18446744073709551616) (hb : b < 256) : ibits .or .u64 (shl .u64 (n : Int) 8) (IntKind.u64.wrap (b : Int)) = ((n * 256 + b : Nat) : Int) := by
  have hn1 : n * 256 < 18446744073709551616 := Nat.lt_of_le_of_lt (Nat.le_add_right _ _) h
  have hb1 : b < 18446744073709551616 := Nat.lt_of_le_of_lt (Nat.le_add_left _ _) h
  have h1 : shl .u64 (n : Int) 8 = ((n * 256 : Nat) : Int) := by
    unfold shl
    have : ((2 : Int) ^ Nat.min 8 IntKind.u64.bits) = 256 := rfl
    rw [this, wrap_int (by omega) (by omega)]
    omega
  rw [h1, wrap_int (n := (b : Int)) (by omega) (by omega)]
  unfold ibits
  show IntKind.u64.wrap ((BitVec.ofInt 64 ((n * 256 : Nat) : Int) ||| BitVec.ofInt 64 ((b : Nat) : Int)).toNat : Int) = _
  have h2 : (BitVec.ofInt 64 ((n * 256 : Nat) : Int) ||| BitVec.ofInt 64 ((b : Nat) : Int)).toNat = n * 256 + b := by
    have e1 : (BitVec.ofInt 64 ((n * 256 : Nat) : Int)).toNat = n * 256 := by
      rw [BitVec.ofInt_natCast, BitVec.toNat_ofNat]
      exact Nat.mod_eq_of_lt (Nat.lt_of_lt_of_eq hn1 two64)
    have e2 : (BitVec.ofInt 64 ((b : Nat) : Int)).toNat = b := by
      rw [BitVec.ofInt_natCast, BitVec.toNat_ofNat]
      exact Nat.mod_eq_of_lt (Nat.lt_of_lt_of_eq hb1 two64)
    rw [BitVec.toNat_or, e1, e2]
    have := Nat.shiftLeft_add_eq_or_of_lt (b := b) (i := 8) hb n
    rw [Nat.shiftLeft_eq, show (2 : Nat) ^ 8 = 256 from rfl] at this
    exact this.symm
  rw [h2]
  exact wrap_int (by omega) (by omega)
theorem two63 : 9223372036854775808 = 2 ^ 63 := by simp
theorem byteAt_toNat (n k : Nat) : (byteAt n k).toNat = n / 2 ^ (8 * k) % 256 := by
  unfold byteAt
  rw [UInt8.toNat_ofNat']
theorem or_i64 (x b : Nat) (hx : x < 65536) (hb : b < 256) : ibits .or .i64 (shl .i64 (IntKind.i64.wrap (x : Int)) 8) (IntKind.i64.wrap (b : Int)) = ((x * 256 + b : Nat) : Int) := by
  have big : ∀ k : Nat, k < 16777216 + 256 → k < 2 ^ 63 := fun k hk => Nat.lt_of_lt_of_eq (Nat.lt_trans hk (by decide)) two63
  have big2 : ∀ k : Nat, k < 16777216 + 256 → k < 2 ^ 64 := fun k hk => Nat.lt_of_lt_of_eq (Nat.lt_trans hk (by decide)) two64
  have h1 : shl .i64 (IntKind.i64.wrap (x : Int)) 8 = ((x * 256 : Nat) : Int) := by
    rw [wrapI (big _ (by omega))]
    unfold shl
    have : ((2 : Int) ^ Nat.min 8 IntKind.i64.bits) = 256 := rfl
    rw [this, show (x : Int) * 256 = ((x * 256 : Nat) : Int) by omega]
    exact wrapI (big _ (by omega))
  rw [h1, wrapI (n := b) (big _ (by omega))]
  unfold ibits
  show IntKind.i64.wrap ((BitVec.ofInt 64 ((x * 256 : Nat) : Int) ||| BitVec.ofInt 64 ((b : Nat) : Int)).toNat : Int) = _
  have h2 : (BitVec.ofInt 64 ((x * 256 : Nat) : Int) ||| BitVec.ofInt 64 ((b : Nat) : Int)).toNat = x * 256 + b := by
    have e1 : (BitVec.ofInt 64 ((x * 256 : Nat) : Int)).toNat = x * 256 := by
      rw [BitVec.ofInt_natCast, BitVec.toNat_ofNat]
      exact Nat.mod_eq_of_lt (big2 _ (by omega))
    have e2 : (BitVec.ofInt 64 ((b : Nat) : Int)).toNat = b := by
      rw [BitVec.ofInt_natCast, BitVec.toNat_ofNat]
      exact Nat.mod_eq_of_lt (big2 _ (by omega))
    rw [BitVec.toNat_or, e1, e2]
    have := Nat.shiftLeft_add_eq_or_of_lt (b := b) (i := 8) hb x
    rw [Nat.shiftLeft_eq, show (2 : Nat) ^ 8 = 256 from rfl] at this
    exact this.symm
  rw [h2]
  exact wrapI (big _ (by omega))
theorem or_two (n : Nat) (h : n < 65536) : ibits .or .i64 (shl .i64 (IntKind.i64.wrap ((byteAt n 1).toNat : Int)) 8) (IntKind.i64.wrap ((byteAt n 0).toNat : Int)) = (n : Int) := by
  rw [byteAt_toNat, byteAt_toNat, or_i64 _ _ (by omega) (by omega)]
  congr 1
  omega
theorem numB_snoc (l : List UInt8) (b : UInt8) : numB (l ++ [b]) = numB l * 256 + b.toNat := by simp [numB, List.foldl_append]
theorem numB_lt_aux (l : List UInt8) : ∀ n k, n < 256 ^ k → l.foldl (fun n (b : UInt8) => n * 256 + b.toNat) n < 256 ^ (k + l.length) := by
  induction l with
  | nil => intro n k h; simpa using h
  | cons b l ih =>
    intro n k h
    have hb := b.toNat_lt
    have := ih (n * 256 + b.toNat) (k + 1) (by rw [Nat.pow_succ]; omega)
    simp only [List.foldl_cons, List.length_cons]
    rw [show k + (l.length + 1) = k + 1 + l.length by omega]
    exact this
theorem numB_lt (l : List UInt8) : numB l < 256 ^ l.length := by
  have := numB_lt_aux l 0 0 (by simp)
  simpa [numB] using this
theorem numB_take (l : List UInt8) (i : Nat) (h : i < l.length) : numB (l.take (i + 1)) = numB (l.take i) * 256 + l[i].toNat := by
  rw [List.take_succ_eq_append_getElem h, numB_snoc]
end Go.Ent
namespace Go.Ent
open Go Go.Proofs Go.MapKept
/-- keys of a type, as the map takes them. -/
def KeyAt (kt : TypeId) {K : Type} (mk : K → Value) : Prop := ∃ d, Tryz.prog.underlying kt = some d ∧ (∀ k, IsKey d (mk k)) ∧ ∀ a b, mk a = mk b → a = b
theorem keyInt {kt : TypeId} {q : IntKind} {s b : Nat} (h : tab kt = some ⟨.int q, s, b⟩) : KeyAt kt (fun n : Int => Value.int q n) :=
  ⟨_, tab_ok.int h, fun _ => rfl, fun _ _ e => by cases e; rfl⟩
theorem keyStr {kt : TypeId} {s b : Nat} (h : tab kt = some ⟨.string, s, b⟩) : KeyAt kt Value.string := ⟨_, tab_ok.string h, fun _ => trivial, fun _ _ e => by cases e; rfl⟩
/-- the entries of a map that says f. -/
structure Says {K : Type} (mk : K → Value) (f : K → Option Value) (es : Array MapEntry) (clock : Nat) : Prop where
  st : Stamped es clock
  keys : ∀ x ∈ es.toList, ∃ k, x.key = mk k
  is : ∀ k v, f k = some v ↔ ∃ e ∈ es.toList, e.key = mk k ∧ e.val = v
def MapOf {K : Type} (mk : K → Value) (b : Nat) (f : K → Option Value) : Assn := fun h => ∃ es clock, h b = some (.map es clock) ∧ Says mk f es clock
theorem MapOf.mono {K : Type} {mk : K → Value} {b : Nat} {f : K → Option Value} {h k : Part} (hk : Part.le h k) (x : MapOf mk b f h) : MapOf mk b f k := by
  obtain ⟨es, c, e, s⟩ := x; exact ⟨es, c, hk _ _ e, s⟩
theorem Tells.map {K : Type} {mk : K → Value} {b : Nat} {f : K → Option Value} {G G' : List Assn} (p : Pick (MapOf mk b f) G G') : Tells G (MapOf mk b f) := Tells.pick p (fun _ _ => MapOf.mono) (fun _ h => h)
theorem Says.empty {K : Type} (mk : K → Value) (c : Nat) : Says mk (fun _ => Option.none) #[] c := ⟨stamped_empty c, by simp, by simp⟩
theorem MapOf.made {K : Type} (mk : K → Value) {b : Nat} {h : Part} (x : pt b (.map #[] 0) h) : MapOf mk b (fun _ => Option.none) h := ⟨_, _, x, Says.empty mk 0⟩
def upd {K : Type} [DecidableEq K] (f : K → Option Value) (k : K) (v : Value) : K → Option Value := fun j => if j = k then some v else f j
section
variable {n : Nat} {ds : Fz} {w0 : World} {E : Env} {G : List Assn} {Q : Exit → Act → World → Prop} {K : Type} {mk : K → Value}
theorem Says.look {kt : TypeId} {f : K → Option Value} {es : Array MapEntry} {c : Nat} (hk : KeyAt kt mk) (s : Says mk f es c) (k : K) (w : World) :
    (f k = none ∧ (Instr.findKey kt (mk k) es.toList).run Tryz.prog w = .ok none w ∧ ∀ x ∈ es.toList, x.key ≠ mk k) ∨
    ∃ j e, f k = some e.val ∧ (Instr.findKey kt (mk k) es.toList).run Tryz.prog w = .ok (some (j, e.val)) w ∧ es[j]? = some e ∧ e.key = mk k := by
  obtain ⟨d, hd, hi, hinj⟩ := hk
  have hall : ∀ x ∈ es.toList, IsKey d x.key := fun x hx => by obtain ⟨k', e⟩ := s.keys x hx; rw [e]; exact hi k'
  rcases findNow_spec (hi k) es.toList 0 hall with ⟨h1, h2⟩ | ⟨j, e, h1, h2, h3⟩
  · refine .inl ⟨?_, run_findKey hd h1, h2⟩
    cases hf : f k with
    | none => rfl
    | some v =>
      obtain ⟨e, he, h3, _⟩ := (s.is k v).1 hf
      exact (h2 e he h3).elim
  · refine .inr ⟨j, e, (s.is k e.val).2 ⟨e, List.mem_of_getElem? h2, h3, rfl⟩, ?_, by simpa using h2, h3⟩
    have := run_findKey (P := Tryz.prog) (w := w) hd h1
    simpa using this
def found (f : Option Value) (z : Value) (c : Bool) : Value := match c, f with
  | true, some v => .tuple #[v, .bool true]
  | true, none => .tuple #[z, .bool false]
  | false, some v => v
  | false, none => z
theorem Yl.lookup {o : Oper} {t kt et : TypeId} {s1 b1 : Nat} {x i : Operand} {c : Bool} {b : Nat} {f : K → Option Value} {zi : TI} {z : List Value} {zv : Value} (k : K) (ho : o.op = .lookup t x i c) (hx : ev E x = some (.map (some b))) (hi : ev E i = some (mk k))
    (ht : tab t = some ⟨.map kt et, s1, b1⟩) (hk : KeyAt kt mk) (hT : Tells G (MapOf mk b f)) (he : tab et = some zi) (hz : zeroOf tab 8 et = some z) (hzv : valOf (aggK zi.k) z = some zv) : Yl Tryz.prog n ds w0 E G o (found (f k) zv c) := fun a w ha hw => by
  obtain ⟨es, clock, hb, hs⟩ := hT _ hw.sep
  have hb' : w.heap[b]? = some (.map es clock) := hb
  obtain ⟨v, hzr, _, i', hi', hv'⟩ := tab_zero et z hz
  rw [he] at hi'
  cases hi'
  rw [hzv] at hv'
  cases hv'
  have hk' := hk
  obtain ⟨d, hd, hik, _⟩ := hk'
  have hck := fun e => run_checkKey (P := Tryz.prog) (w := w) hd (hik k) e 9999
  have hu := tab_ok.map ht
  rcases hs.look hk k w with ⟨h1, h2, _⟩ | ⟨j, e, h1, h2, _, _⟩
  · simp [execOp, ho, Instr.lookup, ha.eval hx, ha.eval hi, run_underlying hu, MapKept.run_getObj_map hb', hck, h2, hzr, h1, found]
    cases c <;> rfl
  · simp [execOp, ho, Instr.lookup, ha.eval hx, ha.eval hi, run_underlying hu, MapKept.run_getObj_map hb', hck, h2, h1, found]
    cases c <;> rfl
theorem Says.push [DecidableEq K] {f : K → Option Value} {es : Array MapEntry} {c : Nat} (hinj : ∀ a b, mk a = mk b → a = b) (s : Says mk f es c) (k : K) (v : Value) (h : ∀ x ∈ es.toList, x.key ≠ mk k) :
    Says mk (upd f k v) (es.push ⟨mk k, v, c⟩) (c + 1) := by
  refine ⟨stamped_push s.st h, ?_, ?_⟩
  · intro x hx
    simp only [Array.toList_push, List.mem_append, List.mem_singleton] at hx
    rcases hx with hx | rfl
    · exact s.keys x hx
    · exact ⟨k, rfl⟩
  · intro j u
    simp only [upd, Array.toList_push, List.mem_append, List.mem_singleton]
    by_cases hj : j = k
    · subst hj
      rw [if_pos rfl]
      constructor
      · intro e; cases e; exact ⟨_, .inr rfl, rfl, rfl⟩
      · rintro ⟨e, he | rfl, h1, h2⟩
        · exact (h e he h1).elim
        · rw [← h2]
    · rw [if_neg hj, s.is]
      constructor
      · rintro ⟨e, he, h1, h2⟩; exact ⟨e, .inl he, h1, h2⟩
      · rintro ⟨e, he | rfl, h1, h2⟩
        · exact ⟨e, he, h1, h2⟩
        · exact (hj (hinj _ _ h1).symm).elim
theorem Says.modify [DecidableEq K] {f : K → Option Value} {es : Array MapEntry} {c : Nat} (hinj : ∀ a b, mk a = mk b → a = b) (s : Says mk f es c) (k : K) (v : Value) {j : Nat} {e : MapEntry} (h : es[j]? = some e) (he : e.key = mk k) :
    Says mk (upd f k v) (es.modify j fun e => { e with key := mk k, val := v }) c := by
  have hkeys : ∀ x, es[j]? = some x → ({ x with key := mk k, val := v } : MapEntry).key = x.key := fun x hx => by rw [h] at hx; cases hx; exact he.symm
  have hget : ∀ i, (es.modify j fun e => { e with key := mk k, val := v })[i]? = if j = i then some { e with key := mk k, val := v } else es[i]? := by
    intro i
    rw [Array.getElem?_modify]
    split
    · rename_i hi; subst hi; simp [h]
    · rfl
  have hmem : ∀ x, x ∈ (es.modify j fun e => { e with key := mk k, val := v }).toList ↔ x = { e with key := mk k, val := v } ∨ ∃ i, i ≠ j ∧ es[i]? = some x := by
    intro x
    rw [List.mem_iff_getElem?]
    constructor
    · rintro ⟨i, hi⟩
      rw [Array.getElem?_toList, hget] at hi
      split at hi
      · cases hi; exact .inl rfl
      · rename_i hne; exact .inr ⟨i, fun q => hne q.symm, hi⟩
    · rintro (rfl | ⟨i, hne, hi⟩)
      · exact ⟨j, by rw [Array.getElem?_toList, hget, if_pos rfl]⟩
      · exact ⟨i, by rw [Array.getElem?_toList, hget, if_neg (fun q => hne q.symm)]; exact hi⟩
  have huniq : ∀ i x, es[i]? = some x → x.key = mk k → i = j := by
    intro i x hx hxk
    have hn := s.st.2.2
    have h1 : (es.toList.map (·.key))[i]? = some (mk k) := by simp [hx, hxk]
    have h2 : (es.toList.map (·.key))[j]? = some (mk k) := by simp [h, he]
    obtain ⟨l1, e1⟩ := List.getElem?_eq_some_iff.1 h1
    obtain ⟨l2, e2⟩ := List.getElem?_eq_some_iff.1 h2
    have hp := List.pairwise_iff_getElem.1 hn
    rcases Nat.lt_trichotomy i j with hlt | heq | hgt
    · exact (hp i j l1 l2 hlt (e1.trans e2.symm)).elim
    · exact heq
    · exact (hp j i l2 l1 hgt (e2.trans e1.symm)).elim
  refine ⟨stamped_modify s.st j _ (fun _ _ => rfl) (fun x _ => hkeys x), ?_, ?_⟩
  · intro x hx
    rcases (hmem x).1 hx with rfl | ⟨i, _, hi⟩
    · exact ⟨k, rfl⟩
    · exact s.keys x (List.mem_of_getElem? (by simpa using hi))
  · intro q u
    by_cases hq : q = k
    · subst hq
      simp only [upd, if_pos]
      constructor
      · intro e'; cases e'; exact ⟨_, (hmem _).2 (.inl rfl), rfl, rfl⟩
      · rintro ⟨x, hx, h1, h2⟩
        rcases (hmem x).1 hx with rfl | ⟨i, hne, hi⟩
        · rw [← h2]
        · exact (hne (huniq i x hi h1)).elim
    · simp only [upd, if_neg hq]
      rw [s.is]
      constructor
      · rintro ⟨x, hx, h1, h2⟩
        obtain ⟨i, hi⟩ := List.mem_iff_getElem?.1 hx
        refine ⟨x, (hmem x).2 (.inr ⟨i, ?_, by simpa using hi⟩), h1, h2⟩
        rintro rfl
        have hi' : es[i]? = some x := by simpa using hi
        rw [h] at hi'; cases hi'
        exact hq (hinj _ _ (h1.symm.trans he))
      · rintro ⟨x, hx, h1, h2⟩
        rcases (hmem x).1 hx with rfl | ⟨i, hne, hi⟩
        · exact (hq (hinj _ _ h1).symm).elim
        · exact ⟨x, List.mem_of_getElem? (by simpa using hi), h1, h2⟩
theorem Ef.mapUpdate [DecidableEq K] {o : Oper} {t kt et : TypeId} {s1 b1 : Nat} {x i y : Operand} {b : Nat} {f : K → Option Value} {v : Value} {G' : List Assn} (k : K) (ho : o.op = .mapUpdate t x i y) (hx : ev E x = some (.map (some b))) (hi : ev E i = some (mk k)) (hy : ev E y = some v)
    (ht : tab t = some ⟨.map kt et, s1, b1⟩) (hk : KeyAt kt mk) (p : Pick (MapOf mk b f) G G') : Ef Tryz.prog n ds w0 E G o (X := Unit) (fun _ => undef) (fun _ => MapOf mk b (upd f k v) :: G') := fun a w ha hw C R hK => by
  obtain ⟨es, clock, hb, hs⟩ := Tells.map p _ hw.sep
  have hb' : w.heap[b]? = some (.map es clock) := hb
  have hk' := hk
  obtain ⟨d, hd, hik, hinj⟩ := hk'
  have hck := run_checkKey (P := Tryz.prog) (w := w) hd (hik k) false 9999
  have hu := tab_ok.map ht
  have goal : ∃ es' c', (execOp a.eval o).run Tryz.prog w = .ok .skip { w with heap := w.heap.setIfInBounds b (.map es' c') } ∧ Says mk (upd f k v) es' c' := by
    rcases hs.look hk k w with ⟨h1, h2, h3⟩ | ⟨j, e, h1, h2, h3, h4⟩
    · refine ⟨_, _, ?_, hs.push hinj k v h3⟩
      simp [execOp, ho, Instr.mapUpdate, ha.eval hx, ha.eval hi, ha.eval hy, run_underlying hu, MapKept.run_getObj_map hb', hck, h2, run_setObj_map _ hb']
    · refine ⟨_, _, ?_, hs.modify hinj k v h3 h4⟩
      have hkts := run_keyThatStays (P := Tryz.prog) (w := w) (hik k)
      simp [execOp, ho, Instr.mapUpdate, ha.eval hx, ha.eval hi, ha.eval hy, run_underlying hu, MapKept.run_getObj_map hb', hck, h2, h3, h4, hkts, run_setObj_map _ hb']
  obtain ⟨es', c', hrun, hs'⟩ := goal
  refine wpIn_of hrun (fun _ e => by cases e) ?_
  obtain ⟨hset, hoth⟩ := heap_set (w := w) (o' := .map es' c') hb'
  obtain ⟨h1, h2, dj, l1, l2, hm, hrest⟩ := p.out hw.sep
  obtain ⟨es0, c0, hb0, _⟩ := hm
  have hs0 : sep (pt b (.map es0 c0) :: G') (hpart w) := ⟨h1, h2, dj, l1, l2, hb0, hrest⟩
  refine hK () _ ⟨star_mono (fun h hp => ⟨_, _, hp, hs'⟩) (fun _ h => h) (sep_set Pick.here hs0 hset (fun q hq => hoth q hq)), hw.same.trans ⟨rfl, rfl, rfl, by simp⟩⟩
theorem Ef.clearMap {o : Oper} {t kt et : TypeId} {s1 b1 : Nat} {x : Operand} {b : Nat} {f : K → Option Value} {G' : List Assn} (ho : o.op = .call { callee := .builtin .clear, args := #[x], argTypes := #[t] }) (hx : ev E x = some (.map (some b)))
    (ht : tab t = some ⟨.map kt et, s1, b1⟩) (p : Pick (MapOf mk b f) G G') : Ef Tryz.prog n ds w0 E G o (X := Unit) (fun _ => .tuple #[]) (fun _ => MapOf mk b (fun _ => none) :: G') := fun a w ha hw C R hK => by
  obtain ⟨es, clock, hb, hs⟩ := Tells.map p _ hw.sep
  have hb' : w.heap[b]? = some (.map es clock) := hb
  have hu := tab_ok.map ht
  have hrun : (execOp a.eval o).run Tryz.prog w = .ok (.value (.tuple #[])) { w with heap := w.heap.setIfInBounds b (.map #[] clock) } := by
    simp [execOp, ho, resolve, invoke, builtin, Builtin.clear_, ha.eval hx, run_underlying hu, MapKept.run_getObj_map hb', run_setObj_map _ hb']
  refine wpIn_of hrun (fun _ e => by cases e) ?_
  obtain ⟨hset, hoth⟩ := heap_set (w := w) (o' := .map #[] clock) hb'
  obtain ⟨h1, h2, dj, l1, l2, hm, hrest⟩ := p.out hw.sep
  obtain ⟨es0, c0, hb0, _⟩ := hm
  have hs0 : sep (pt b (.map es0 c0) :: G') (hpart w) := ⟨h1, h2, dj, l1, l2, hb0, hrest⟩
  refine hK () _ ⟨star_mono (fun h hp => ⟨_, _, hp, Says.empty mk clock⟩) (fun _ h => h) (sep_set Pick.here hs0 hset (fun q hq => hoth q hq)), hw.same.trans ⟨rfl, rfl, rfl, by simp⟩⟩
end
end Go.Ent
namespace Go.Ent
open Go Go.Proofs Go.MapKept
open Go.ChangeMaps (setBlock)
/-- the keys whose entries have not come out yet. -/
structure Left {K : Type} (mk : K → Value) (left : List K) (es : Array MapEntry) (seen : Array Nat) : Prop where
  nd : left.Nodup
  is : ∀ k, k ∈ left ↔ ∃ e ∈ es.toList, e.key = mk k ∧ seen.contains e.born = false
/-- an iterator at r over the map at b: these keys are left. -/
def Iter {K : Type} (mk : K → Value) (r b : Nat) (f : K → Option Value) (left : List K) : Assn := fun h => ∃ (es : Array MapEntry) (clock since : Nat) (seen : Array Nat) (c0 : Nat), h b = some (.map es clock) ∧ Says mk f es clock ∧ h r = some (.mapIter (some b) since seen c0) ∧
  (∀ x ∈ es.toList, x.born < since) ∧ since ≤ clock ∧ since ≤ c0 ∧ Left mk left es seen
/-- likewise; and k's entry has just come out. -/
def IterAt {K : Type} (mk : K → Value) (r b : Nat) (f : K → Option Value) (left : List K) (k : K) : Assn := fun h => ∃ (es : Array MapEntry) (clock since : Nat) (seen : Array Nat) (e : MapEntry), h b = some (.map es clock) ∧ Says mk f es clock ∧ h r = some (.mapIter (some b) since (seen.push e.born) clock) ∧
  (∀ x ∈ es.toList, x.born < since) ∧ since ≤ clock ∧ Left mk left es (seen.push e.born) ∧ e ∈ es.toList ∧ e.key = mk k
section
variable {n : Nat} {ds : Fz} {w0 : World} {E : Env} {G : List Assn} {Q : Exit → Act → World → Prop} {K : Type} {mk : K → Value}
theorem IterAt.iter {r b : Nat} {f : K → Option Value} {left : List K} {k : K} (h : Part) (x : IterAt mk r b f left k h) : Iter mk r b f left h := by
  obtain ⟨es, c, s, seen, e, h1, h2, h3, h4, h5, h6, _⟩ := x
  exact ⟨es, c, s, _, c, h1, h2, h3, h4, h5, h5, h6⟩
theorem IterAt.mono {r b : Nat} {f : K → Option Value} {left : List K} {k : K} {h h' : Part} (hk : Part.le h h') (x : IterAt mk r b f left k h) : IterAt mk r b f left k h' := by
  obtain ⟨es, c, s, seen, e, h1, h2, h3, r⟩ := x
  exact ⟨es, c, s, seen, e, hk _ _ h1, h2, hk _ _ h3, r⟩
theorem Iter.map {r b : Nat} {f : K → Option Value} {left : List K} (h : Part) (x : Iter mk r b f left h) : MapOf mk b f h := by
  obtain ⟨es, c, s, seen, c0, h1, h2, _⟩ := x
  exact ⟨es, c, h1, h2⟩
theorem keys_of {es : List MapEntry} (h : ∀ x ∈ es, ∃ k, x.key = mk k) : ∃ l : List K, l.map mk = es.map (·.key) := by
  induction es with
  | nil => exact ⟨[], rfl⟩
  | cons e es ih =>
    obtain ⟨k, hk⟩ := h e (by simp)
    obtain ⟨l, hl⟩ := ih fun x hx => h x (by simp [hx])
    exact ⟨k :: l, by simp [hk, hl]⟩
theorem Ef.range {o : Oper} {t kt et : TypeId} {s1 b1 : Nat} {x : Operand} {b : Nat} {f : K → Option Value} {G' : List Assn} (hinj : ∀ a b, mk a = mk b → a = b) (ho : o.op = .range t x) (hx : ev E x = some (.map (some b)))
    (ht : tab t = some ⟨.map kt et, s1, b1⟩) (p : Pick (MapOf mk b f) G G') :
    Ef Tryz.prog n ds w0 E G o (X := {p : Nat × List K // p.2.Nodup ∧ ∀ k, k ∈ p.2 ↔ ∃ v, f k = some v}) (fun r => .pointer (some ⟨r.1.1, 0, none⟩)) (fun r => Iter mk r.1.1 b f r.1.2 :: G') := fun a w ha hw C R hK => by
  obtain ⟨h1, h2, dj, l1, l2, ⟨es, clock, hb, hs⟩, hrest⟩ := p.out hw.sep
  have hb' : w.heap[b]? = some (.map es clock) := l1 _ _ hb
  have hu := tab_ok.map ht
  have hrun : (execOp a.eval o).run Tryz.prog w = .ok (.value (.pointer (some ⟨w.heap.size, 0, none⟩))) (w.alloc (.mapIter (some b) clock #[] clock)) := by
    simp [execOp, ho, Instr.range, ha.eval hx, run_underlying hu, MapKept.run_getObj_map hb', newObj, Sem.run]
  refine wpIn_of hrun (fun _ e => by cases e) ?_
  obtain ⟨left, hleft⟩ := keys_of hs.keys
  have hmem : ∀ k, k ∈ left ↔ ∃ e ∈ es.toList, e.key = mk k := fun k => by
    constructor
    · intro hk
      have : mk k ∈ es.toList.map (·.key) := by rw [← hleft]; exact List.mem_map.2 ⟨k, hk, rfl⟩
      obtain ⟨e, he, hek⟩ := List.mem_map.1 this
      exact ⟨e, he, hek⟩
    · rintro ⟨e, he, hek⟩
      have : mk k ∈ left.map mk := by rw [hleft]; exact List.mem_map.2 ⟨e, he, hek⟩
      obtain ⟨k', hk', e'⟩ := List.mem_map.1 this
      rw [← hinj _ _ e']; exact hk'
  have hnd : left.Nodup := by
    have := hs.st.2.2
    rw [← hleft] at this
    exact (List.pairwise_map.1 this).imp fun h e => h (by rw [e])
  refine hK ⟨(w.heap.size, left), hnd, fun k => (hmem k).trans ⟨fun ⟨e, he, hk⟩ => ⟨e.val, (hs.is k _).2 ⟨e, he, hk, rfl⟩⟩, fun ⟨v, hv⟩ => ?_⟩⟩ _ ⟨?_, hw.same.trans (Same.alloc w _)⟩
  · obtain ⟨e, he, hk, _⟩ := (hs.is k v).1 hv
    exact ⟨e, he, hk⟩
  · have hlt : b < w.heap.size := (Array.getElem?_eq_some_iff.1 hb').1
    refine ⟨fun q => if q = w.heap.size then some (.mapIter (some b) clock #[] clock) else h1 q, h2, ?_, ?_, ?_, ?_, hrest⟩
    · intro q u u' e e'
      simp only at e
      split at e
      · rename_i hq; subst hq
        have : w.heap[w.heap.size]? = some u' := l2 _ _ e'
        simp at this
      · exact dj _ _ _ e e'
    · intro q u e
      simp only at e
      split at e
      · rename_i hq; subst hq; cases e; exact heap_alloc_new w _
      · have h3 : w.heap[q]? = some u := l1 _ _ e
        have hq : q < w.heap.size := (Array.getElem?_eq_some_iff.1 h3).1
        show (w.alloc _).heap[q]? = some u
        rw [heap_alloc_old w _ hq]; exact h3
    · intro q u e
      have h3 : w.heap[q]? = some u := l2 _ _ e
      have hq : q < w.heap.size := (Array.getElem?_eq_some_iff.1 h3).1
      show (w.alloc _).heap[q]? = some u
      rw [heap_alloc_old w _ hq]; exact h3
    · refine ⟨es, clock, clock, #[], clock, ?_, hs, by simp, hs.st.1, Nat.le_refl _, Nat.le_refl _, hnd, fun k => ?_⟩
      · have : ¬ b = w.heap.size := by omega
        simp only [this, if_false]; exact hb
      · rw [hmem]; simp
theorem contains_push_no {seen : Array Nat} {x b : Nat} (h : seen.contains x = false) (hb : ¬ x = b) : (seen.push b).contains x = false := by
  cases hc : (seen.push b).contains x with
  | false => rfl
  | true =>
    rw [Array.contains_iff_mem, Array.mem_push] at hc
    rcases hc with hc | hc
    · rw [← Array.contains_iff_mem, h] at hc; cases hc
    · exact (hb hc).elim
theorem contains_push_no' {seen : Array Nat} {x b : Nat} (h : (seen.push b).contains x = false) : seen.contains x = false ∧ ¬ x = b := by
  constructor
  · cases hc : seen.contains x with
    | false => rfl
    | true =>
      have : (seen.push b).contains x = true := by rw [Array.contains_iff_mem, Array.mem_push]; exact .inl (Array.contains_iff_mem.1 hc)
      rw [h] at this; cases this
  · rintro rfl
    have : (seen.push x).contains x = true := by rw [Array.contains_iff_mem, Array.mem_push]; exact .inr rfl
    rw [h] at this; cases this
theorem inj_of_nodup {α β : Type} {g : α → β} {l : List α} (hn : (l.map g).Nodup) {x y : α} (hx : x ∈ l) (hy : y ∈ l) (h : g x = g y) : x = y := by
  obtain ⟨i, hi⟩ := List.mem_iff_getElem?.1 hx
  obtain ⟨j, hj⟩ := List.mem_iff_getElem?.1 hy
  obtain ⟨l1, e1⟩ := List.getElem?_eq_some_iff.1 (show (l.map g)[i]? = some (g x) by simp [hi])
  obtain ⟨l2, e2⟩ := List.getElem?_eq_some_iff.1 (show (l.map g)[j]? = some (g y) by simp [hj])
  have hp := List.pairwise_iff_getElem.1 hn
  rcases Nat.lt_trichotomy i j with hlt | heq | hgt
  · exact (hp i j l1 l2 hlt (e1.trans (h.trans e2.symm))).elim
  · subst heq; rw [hi] at hj; cases hj; rfl
  · exact (hp j i l2 l1 hgt (e2.trans (h.symm.trans e1.symm))).elim
theorem born_inj {es : List MapEntry} (hn : (es.map (·.born)).Nodup) {x y : MapEntry} (hx : x ∈ es) (hy : y ∈ es) (h : x.born = y.born) : x = y := inj_of_nodup hn hx hy h
theorem key_inj {es : List MapEntry} (hn : (es.map (·.key)).Nodup) {x y : MapEntry} (hx : x ∈ es) (hy : y ∈ es) (h : x.key = y.key) : x.born = y.born := by rw [inj_of_nodup hn hx hy h]
theorem Ef.next [DecidableEq K] {o : Oper} {x : Operand} {r b : Nat} {f : K → Option Value} {left : List K} {G' : List Assn} (hinj : ∀ a b, mk a = mk b → a = b) (ho : o.op = .next x false) (hx : ev E x = some (.pointer (some ⟨r, 0, none⟩)))
    (p : Pick (Iter mk r b f left) G G') :
    Ef Tryz.prog n ds w0 E G o (X := {q : Option K // match q with | none => left = [] | some k => k ∈ left ∧ ∃ v, f k = some v}) (fun q => match q.1 with | none => .tuple #[.bool false] | some k => .tuple #[.bool true, mk k, (f k).getD undef])
      (fun q => (match q.1 with | none => Iter mk r b f [] | some k => IterAt mk r b f (left.erase k) k) :: G') := fun a w ha hw C R hK => by
  obtain ⟨h1, h2, dj, l1, l2, ⟨es, clock, since, seen, c0, hb, hs, hr, hold, hbs, hsc, hl⟩, hrest⟩ := p.out hw.sep
  have hb' : w.heap[b]? = some (.map es clock) := l1 _ _ hb
  have hr' : w.heap[r]? = some (.mapIter (some b) since seen c0) := l1 _ _ hr
  rcases run_next_at (P := Tryz.prog) w o.type r b since c0 seen es clock hr' hb' hold hsc with ⟨h0, hrun⟩ | ⟨e, he, w1, hw1, hrun⟩
  · have hnil : left = [] := by
      cases left with
      | nil => rfl
      | cons k l =>
        obtain ⟨e, he, hk, hsn⟩ := (hl.is k).1 (by simp)
        have : e ∈ (leftOf es seen).toList := by
          rw [Array.mem_toList_iff]; unfold leftOf
          exact Array.mem_filter.2 ⟨Array.mem_toList_iff.1 he, by rw [hsn]; rfl⟩
        rw [Array.eq_empty_of_size_eq_zero h0] at this
        simp at this
    have hrun2 : (execOp a.eval o).run Tryz.prog w = .ok (.value (.tuple #[.bool false])) w := by
      simp [execOp, ho, ha.eval hx, hrun]
    refine wpIn_of hrun2 (fun _ e => by cases e) ?_
    refine hK ⟨none, hnil⟩ w ⟨⟨h1, h2, dj, l1, l2, ?_, hrest⟩, hw.same⟩
    subst hnil
    exact ⟨es, clock, since, seen, c0, hb, hs, hr, hold, hbs, hsc, hl⟩
  · obtain ⟨hes, hseen⟩ := mem_left he
    obtain ⟨k, hk⟩ := hs.keys e hes
    have hfk : f k = some e.val := (hs.is k _).2 ⟨e, hes, hk, rfl⟩
    have hkl : k ∈ left := (hl.is k).2 ⟨e, hes, hk, hseen⟩
    have hrun2 : (execOp a.eval o).run Tryz.prog w = .ok (.value (.tuple #[.bool true, mk k, (f k).getD undef])) (setBlock w1 r (.mapIter (some b) since (seen.push e.born) clock)) := by
      simp [execOp, ho, ha.eval hx, hrun, hk, hfk]
    refine wpIn_of hrun2 (fun _ e => by cases e) ?_
    have hheap : w1.heap = w.heap := by rcases hw1 with rfl | rfl <;> rfl
    have hrb : r ≠ b := fun q => by subst q; rw [hb'] at hr'; cases hr'
    refine hK ⟨some k, hkl, _, hfk⟩ _ ⟨?_, ?_⟩
    · refine ⟨fun q => if q = r then some (.mapIter (some b) since (seen.push e.born) clock) else h1 q, h2, ?_, ?_, ?_, ?_, hrest⟩
      · intro q u u' e1 e2
        simp only at e1
        split at e1
        · rename_i hq; subst hq; exact dj _ _ _ hr e2
        · exact dj _ _ _ e1 e2
      · intro q u e1
        simp only at e1
        show (setBlock w1 r _).heap[q]? = some u
        simp only [setBlock, hheap]
        split at e1
        · rename_i hq; subst hq; cases e1
          have : q < w.heap.size := (Array.getElem?_eq_some_iff.1 hr').1
          simp [this]
        · rename_i hq
          rw [Array.getElem?_setIfInBounds_ne (fun e => hq e.symm)]; exact l1 _ _ e1
      · intro q u e1
        have hq : ¬ q = r := fun hq => by subst hq; exact dj _ _ _ hr e1
        show (setBlock w1 r _).heap[q]? = some u
        simp only [setBlock, hheap]
        rw [Array.getElem?_setIfInBounds_ne (fun e => hq e.symm)]; exact l2 _ _ e1
      · refine ⟨es, clock, since, seen, e, ?_, hs, by simp, hold, hbs, ⟨hl.nd.erase k, fun j => ?_⟩, hes, hk⟩
        · simp only [Ne.symm hrb, if_false]; exact hb
        · rw [hl.nd.mem_erase_iff, hl.is]
          constructor
          · rintro ⟨hne, x, hx, hxk, hxs⟩
            refine ⟨x, hx, hxk, ?_⟩
            refine contains_push_no hxs fun hbe => hne ?_
            have : x = e := born_inj hs.st.2.1 hx hes hbe
            subst this
            exact hinj _ _ (hxk.symm.trans hk)
          · rintro ⟨x, hx, hxk, hxs⟩
            have := contains_push_no' hxs
            refine ⟨fun hj => ?_, x, hx, hxk, this.1⟩
            subst hj
            exact this.2 (key_inj hs.st.2.2 hx hes (hxk.trans hk.symm))
    · refine hw.same.trans ⟨?_, ?_, ?_, ?_⟩
      · rcases hw1 with rfl | rfl <;> rfl
      · rcases hw1 with rfl | rfl <;> rfl
      · rcases hw1 with rfl | rfl <;> rfl
      · simp [setBlock, hheap]
theorem Yl.entry {o : Oper} {x : Operand} {r b : Nat} {f : K → Option Value} {left : List K} {k : K} {v : Value} {G' : List Assn} (ho : o.op = .entry x) (hx : ev E x = some (.pointer (some ⟨r, 0, none⟩)))
    (p : Pick (IterAt mk r b f left k) G G') (hv : f k = some v) : Yl Tryz.prog n ds w0 E G o (.tuple #[mk k, v]) := fun a w ha hw => by
  obtain ⟨h1, h2, dj, l1, l2, ⟨es, clock, since, seen, e, hb, hs, hr, hold, hsc, hl, he, hk⟩, hrest⟩ := p.out hw.sep
  have hb' : w.heap[b]? = some (.map es clock) := l1 _ _ hb
  have hr' : w.heap[r]? = some (.mapIter (some b) since (seen.push e.born) clock) := l1 _ _ hr
  have := run_entry_at (P := Tryz.prog) w r b since seen es clock e hr' hb' he hs.st.2.1
  have hev : e.val = v := by
    have := (hs.is k e.val).2 ⟨e, he, hk, rfl⟩
    rw [hv] at this; cases this; rfl
  simp [execOp, ho, ha.eval hx, this, hk, hev]
end
end Go.Ent
namespace Go.Ent
open Go Go.Proofs
section
variable {n : Nat} {ds : Fz} {w0 : World} {E : Env} {G : List Assn} {Q : Exit → Act → World → Prop} {K : Type} {mk : K → Value}
theorem At.doneC {fn : Func} {p : Tmp} {ty : TypeId} {i : TI} {b off : Nat} {cs : List Value} {v1 : Value} {X : Type} {r : X → Value} {B : X → List Assn} {F : Assn} (hr : fn.results = #[.cell p ty]) (x : X) (hp : look E p = some (.pointer (some ⟨b, off, none⟩)))
    (ht : tab ty = some i) (hT : Tells G (CellsAt b off cs)) (hl : cs.length = i.size) (hv1 : valOf (aggK i.k) cs = some v1) (hv : v1 = r x) (hG : ∀ h, sep G h → sep (B x ++ [F]) h) :
    At n fz0 w0 E G (bodyPost Tryz.prog fn (fun e w' => ∃ x, e = .returned (r x) ∧ St w0 (B x ++ [F]) w') .ret) := ⟨fun a w ha hw => by
  refine ⟨ha.defers, r x, ?_, x, rfl, hG _ hw.sep, hw.same⟩
  have := run_loadVar_cells (P := Tryz.prog) tab_ok ht (hT _ hw.sep) hl hv1
  simp [results, hr, ha.get p _ hp, asAddr, this, hv]⟩
theorem At.doneC2 {fn : Func} {p u : Tmp} {ty : TypeId} {i : TI} {b off : Nat} {cs : List Value} {v1 v2 : Value} {X : Type} {r : X → Value} {B : X → List Assn} {F : Assn} (hr : fn.results = #[.cell p ty, .tmp u]) (x : X) (hp : look E p = some (.pointer (some ⟨b, off, none⟩)))
    (ht : tab ty = some i) (hT : Tells G (CellsAt b off cs)) (hl : cs.length = i.size) (hv1 : valOf (aggK i.k) cs = some v1) (hu : look E u = some v2) (hv : Value.tuple #[v1, v2] = r x) (hG : ∀ h, sep G h → sep (B x ++ [F]) h) :
    At n fz0 w0 E G (bodyPost Tryz.prog fn (fun e w' => ∃ x, e = .returned (r x) ∧ St w0 (B x ++ [F]) w') .ret) := ⟨fun a w ha hw => by
  refine ⟨ha.defers, r x, ?_, x, rfl, hG _ hw.sep, hw.same⟩
  have := run_loadVar_cells (P := Tryz.prog) tab_ok ht (hT _ hw.sep) hl hv1
  rw [results_cell_tmp hr]
  simp [ha.get p _ hp, ha.get u _ hu, asAddr, this, hv]⟩
/-- a block that is stored over as a whole. -/
theorem over_all {c vs : List Value} (h : vs.length = c.length) : over c 0 vs = vs := by simp [over, h]
theorem Seq.storeAll {ops : Array Oper} {o : Oper} {rest : List Oper} {t : TypeId} {i : TI} {x y : Operand} {b : Nat} {c : Array Value} {ty : TypeId} {v : Value} {G' : List Assn} (hg : gv ops E o = some true) (hd : fits n o.dst = true) (ho : o.op = .store t x y)
    (hx : ev E x = some (.pointer (some ⟨b, 0, none⟩))) (hy : ev E y = some v) (ht : tab t = some i) (p : Pick (pt b (.cells c ty (0, 0))) G G') (hsz : v.cells.size = i.size) (hone : Ones v.cells.toList) (hc : c.size = i.size)
    (h : Seq Tryz.prog n ds w0 ops (put E o.dst undef) (pt b (.cells v.cells ty (0, 0)) :: G') Q rest) : Seq Tryz.prog n ds w0 ops E G Q (o :: rest) := by
  refine Seq.eff hg hd (Ef.store (c := c.toList) tab_ok ho hx hy ht p hsz hone (by simp [hc])) fun _ => ?_
  rw [over_all (by simp [hsz, hc])]
  exact h
theorem Ord.storeAll {l : List Oper} {A : Array Nat} {F : List Early} {q : Nat} {ord rest : List Nat} {o : Oper} {t : TypeId} {i : TI} {x y : Operand} {b : Nat} {c : Array Value} {ty : TypeId} {v : Value} {G' : List Assn} (hR : Right l A ord) (hn : nth l q = some o) (hk : acts o.op = true)
    (hg : gv l.toArray E o = some true) (hd : fits n o.dst = true) (ho : o.op = .store t x y)
    (hx : ev E x = some (.pointer (some ⟨b, 0, none⟩))) (hy : ev E y = some v) (ht : tab t = some i) (p : Pick (pt b (.cells c ty (0, 0))) G G') (hsz : v.cells.size = i.size) (hone : Ones v.cells.toList) (hc : c.size = i.size)
    (hF : Keep Tryz.prog n ds w0 A q (pt b (.cells v.cells ty (0, 0)) :: G') F)
    (h : Ord Tryz.prog n ds w0 l A F (put E o.dst undef) (pt b (.cells v.cells ty (0, 0)) :: G') Q rest) : Ord Tryz.prog n ds w0 l A F E G Q (q :: rest) := by
  refine Ord.eff hR hn hk hg hd (Ef.store (c := c.toList) tab_ok ho hx hy ht p hsz hone (by simp [hc])) (fun _ => ?_) fun _ => ?_
  · rw [over_all (by simp [hsz, hc])]; exact hF
  · rw [over_all (by simp [hsz, hc])]; exact h
theorem Tells.all {b : Nat} {c : Array Value} {T : TypeId} {fr : Nat × Nat} {G' : List Assn} (p : Pick (pt b (.cells c T fr)) G G') : Tells G (CellsAt b 0 c.toList) := Tells.cells p fun j v h => by simpa using h
theorem Yl.loadAll {o : Oper} {t : TypeId} {i : TI} {x : Operand} {b : Nat} {c : Array Value} {T : TypeId} {fr : Nat × Nat} {G' : List Assn} (ho : o.op = .load t x) (hx : ev E x = some (.pointer (some ⟨b, 0, none⟩)))
    (ht : tab t = some i) (hk : aggK i.k = true) (p : Pick (pt b (.cells c T fr)) G G') (hc : c.size = i.size) : Yl Tryz.prog n ds w0 E G o (.agg c) := by
  have := Yl.load (P := Tryz.prog) (n := n) (ds := ds) (w0 := w0) (v := .agg c) tab_ok ho hx ht (Tells.all p) (by simpa using hc) (by rw [hk]; simp [valOf])
  exact this
theorem Seq.loadAll {ops : Array Oper} {o : Oper} {rest : List Oper} {t : TypeId} {i : TI} {x : Operand} {b : Nat} {c : Array Value} {T : TypeId} {fr : Nat × Nat} {G' : List Assn} (hg : gv ops E o = some true) (hd : fits n o.dst = true) (ho : o.op = .load t x) (hx : ev E x = some (.pointer (some ⟨b, 0, none⟩)))
    (ht : tab t = some i) (hk : aggK i.k = true) (p : Pick (pt b (.cells c T fr)) G G') (hc : c.size = i.size) (h : Seq Tryz.prog n ds w0 ops (put E o.dst (.agg c)) G Q rest) : Seq Tryz.prog n ds w0 ops E G Q (o :: rest) :=
  Seq.yield hg hd (Yl.loadAll ho hx ht hk p hc) h
theorem Ord.loadAll {l : List Oper} {A : Array Nat} {F : List Early} {q : Nat} {ord rest : List Nat} {o : Oper} {t : TypeId} {i : TI} {x : Operand} {b : Nat} {c : Array Value} {T : TypeId} {fr : Nat × Nat} {G' : List Assn} (hR : Right l A ord) (hQ : NP Q) (hn : nth l q = some o) (hk0 : acts o.op = false) (hg : gv l.toArray E o = some true) (hd : fits n o.dst = true) (ho : o.op = .load t x) (hx : ev E x = some (.pointer (some ⟨b, 0, none⟩)))
    (ht : tab t = some i) (hk : aggK i.k = true) (p : Pick (pt b (.cells c T fr)) G G') (hc : c.size = i.size) (h : Ord Tryz.prog n ds w0 l A (⟨q, o, E, .agg c⟩ :: F) (put E o.dst (.agg c)) G Q rest) : Ord Tryz.prog n ds w0 l A F E G Q (q :: rest) :=
  Ord.look hR hQ hn hk0 hg hd (Yl.loadAll ho hx ht hk p hc) h
theorem Seq.lookup {ops : Array Oper} {o : Oper} {rest : List Oper} {t kt et : TypeId} {s1 b1 : Nat} {x i : Operand} {c : Bool} {b : Nat} {f : K → Option Value} {zi : TI} {z : List Value} {zv : Value} (k : K) (hg : gv ops E o = some true) (hd : fits n o.dst = true)
    (ho : o.op = .lookup t x i c) (hx : ev E x = some (.map (some b))) (hi : ev E i = some (mk k))
    (ht : tab t = some ⟨.map kt et, s1, b1⟩) (hk : KeyAt kt mk) (hT : Tells G (MapOf mk b f)) (he : tab et = some zi) (hz : zeroOf tab 8 et = some z) (hzv : valOf (aggK zi.k) z = some zv)
    (h : Seq Tryz.prog n ds w0 ops (put E o.dst (found (f k) zv c)) G Q rest) : Seq Tryz.prog n ds w0 ops E G Q (o :: rest) := Seq.yield hg hd (Yl.lookup k ho hx hi ht hk hT he hz hzv) h
theorem Ord.mapUpdate [DecidableEq K] {l : List Oper} {A : Array Nat} {F : List Early} {q : Nat} {ord rest : List Nat} {o : Oper} {t kt et : TypeId} {s1 b1 : Nat} {x i y : Operand} {b : Nat} {f : K → Option Value} {v : Value} {G' : List Assn} (k : K) (hR : Right l A ord) (hn : nth l q = some o) (hk0 : acts o.op = true)
    (hg : gv l.toArray E o = some true) (hd : fits n o.dst = true) (ho : o.op = .mapUpdate t x i y) (hx : ev E x = some (.map (some b))) (hi : ev E i = some (mk k)) (hy : ev E y = some v)
    (ht : tab t = some ⟨.map kt et, s1, b1⟩) (hk : KeyAt kt mk) (p : Pick (MapOf mk b f) G G') (hF : Keep Tryz.prog n ds w0 A q (MapOf mk b (upd f k v) :: G') F)
    (h : Ord Tryz.prog n ds w0 l A F (put E o.dst undef) (MapOf mk b (upd f k v) :: G') Q rest) : Ord Tryz.prog n ds w0 l A F E G Q (q :: rest) :=
  Ord.eff hR hn hk0 hg hd (Ef.mapUpdate k ho hx hi hy ht hk p) (fun _ => hF) fun _ => h
theorem Seq.mapUpdate [DecidableEq K] {ops : Array Oper} {o : Oper} {rest : List Oper} {t kt et : TypeId} {s1 b1 : Nat} {x i y : Operand} {b : Nat} {f : K → Option Value} {v : Value} {G' : List Assn} (k : K) (hg : gv ops E o = some true) (hd : fits n o.dst = true)
    (ho : o.op = .mapUpdate t x i y) (hx : ev E x = some (.map (some b))) (hi : ev E i = some (mk k)) (hy : ev E y = some v)
    (ht : tab t = some ⟨.map kt et, s1, b1⟩) (hk : KeyAt kt mk) (p : Pick (MapOf mk b f) G G')
    (h : Seq Tryz.prog n ds w0 ops (put E o.dst undef) (MapOf mk b (upd f k v) :: G') Q rest) : Seq Tryz.prog n ds w0 ops E G Q (o :: rest) := Seq.eff hg hd (Ef.mapUpdate k ho hx hi hy ht hk p) fun _ => h
theorem Seq.lookupV {ops : Array Oper} {o : Oper} {rest : List Oper} {t kt et : TypeId} {s1 b1 : Nat} {x i : Operand} {c : Bool} {b : Nat} {f : K → Option Value} {zi : TI} {z : List Value} {zv : Value} (v : Value) (k : K) (hv : found (f k) zv c = v) (hg : gv ops E o = some true) (hd : fits n o.dst = true)
    (ho : o.op = .lookup t x i c) (hx : ev E x = some (.map (some b))) (hi : ev E i = some (mk k))
    (ht : tab t = some ⟨.map kt et, s1, b1⟩) (hk : KeyAt kt mk) (hT : Tells G (MapOf mk b f)) (he : tab et = some zi) (hz : zeroOf tab 8 et = some z) (hzv : valOf (aggK zi.k) z = some zv)
    (h : Seq Tryz.prog n ds w0 ops (put E o.dst v) G Q rest) : Seq Tryz.prog n ds w0 ops E G Q (o :: rest) := Seq.lookup k hg hd ho hx hi ht hk hT he hz hzv (hv ▸ h)
theorem JL.fold {P : Program} {X : Type} (A : X → List Assn) (x : X) {G' : List Assn} {cs : List Code} (hg : ∀ h, sep G h → sep (A x ++ G') h) (h : JL P n ds w0 E (exA A :: G') Q cs) : JL P n ds w0 E G Q cs :=
  ⟨fun a w ha hw => h.run a w ha ⟨exA_in x (hg _ hw.sep), hw.same⟩⟩
end
end Go.Ent
namespace Go.Ent
open Go Go.Proofs
section
variable {n : Nat} {ds : Fz} {w0 : World} {E : Env} {G : List Assn} {Q : Exit → Act → World → Prop}
theorem run_idxArr {o : Oper} {x ix : Operand} {t e : TypeId} {ts tb m : Nat} {ei : TI} {b off : Nat} {ik : IntKind} (i : Nat) (ho : o.op = .indexAddr t x ix) (hx : ev E x = some (.pointer (some ⟨b, off, none⟩))) (hi : ev E ix = some (.int ik (i : Int)))
    (ht : tab t = some ⟨.arr m e, ts, tb⟩) (he : tab e = some ei) (hlt : i < m) (a : Act) (w : World) (ha : Agree n ds E a) : (execOp a.eval o).run Tryz.prog w = .ok (.value (.pointer (some ⟨b, off + i * ei.size, none⟩))) w := by
  have h0 : (0 : Int) ≤ i := by omega
  have h1 : (i : Int) < m := by omega
  simp [execOp, ho, Instr.indexAt, ha.eval hx, ha.eval hi, asIntOf, run_underlying (tab_ok.arr ht), run_sizeOf_tab tab_ok he, Addr.add_plain, Instr.sureAddr]
  intro h; omega
theorem Seq.idxArr {ops : Array Oper} {o : Oper} {rest : List Oper} {x ix : Operand} {t e : TypeId} {ts tb m : Nat} {ei : TI} {b off : Nat} {ik : IntKind} (i : Nat) (hg : gv ops E o = some true) (hd : fits n o.dst = true) (ho : o.op = .indexAddr t x ix) (hx : ev E x = some (.pointer (some ⟨b, off, none⟩))) (hi : ev E ix = some (.int ik (i : Int)))
    (ht : tab t = some ⟨.arr m e, ts, tb⟩) (he : tab e = some ei) (hlt : i < m) (h : Seq Tryz.prog n ds w0 ops (put E o.dst (.pointer (some ⟨b, off + i * ei.size, none⟩))) G Q rest) : Seq Tryz.prog n ds w0 ops E G Q (o :: rest) :=
  Seq.yield hg hd (fun a w ha _ => run_idxArr i ho hx hi ht he hlt a w ha) h
theorem Ord.idxArr {l : List Oper} {A : Array Nat} {F : List Early} {q : Nat} {ord rest : List Nat} {o : Oper} {x ix : Operand} {t e : TypeId} {ts tb m : Nat} {ei : TI} {b off : Nat} {ik : IntKind} (i : Nat) (hR : Right l A ord) (hQ : NP Q) (hn : nth l q = some o) (hk : acts o.op = false) (hg : gv l.toArray E o = some true) (hd : fits n o.dst = true)
    (ho : o.op = .indexAddr t x ix) (hx : ev E x = some (.pointer (some ⟨b, off, none⟩))) (hi : ev E ix = some (.int ik (i : Int)))
    (ht : tab t = some ⟨.arr m e, ts, tb⟩) (he : tab e = some ei) (hlt : i < m) (h : Ord Tryz.prog n ds w0 l A F (put E o.dst (.pointer (some ⟨b, off + i * ei.size, none⟩))) G Q rest) : Ord Tryz.prog n ds w0 l A F E G Q (q :: rest) :=
  Ord.pure hR hQ hn hk hg hd (fun a w ha => run_idxArr i ho hx hi ht he hlt a w ha) h
theorem Tells.one {b j : Nat} {c : List Value} {T : TypeId} {fr : Nat × Nat} {v : Value} {G' : List Assn} (p : Pick (pt b (.cells c.toArray T fr)) G G') (hv : c[j]? = some v) : Tells G (CellsAt b j [v]) := Tells.cells p fun i u hi => by
  cases i with
  | zero => simp at hi; subst hi; simpa using hv
  | succ i => simp at hi
theorem Seq.loadAt {ops : Array Oper} {o : Oper} {rest : List Oper} {t : TypeId} {i : TI} {x : Operand} {b j : Nat} {c : List Value} {T : TypeId} {fr : Nat × Nat} (v : Value) {G' : List Assn} (hg : gv ops E o = some true) (hd : fits n o.dst = true) (ho : o.op = .load t x)
    (hx : ev E x = some (.pointer (some ⟨b, j, none⟩))) (ht : tab t = some i) (hs : i.size = 1) (hk : aggK i.k = false) (p : Pick (pt b (.cells c.toArray T fr)) G G') (hv : c[j]? = some v)
    (h : Seq Tryz.prog n ds w0 ops (put E o.dst v) G Q rest) : Seq Tryz.prog n ds w0 ops E G Q (o :: rest) := Seq.yield hg hd (Yl.load tab_ok ho hx ht (Tells.one p hv) (by simp [hs]) (by rw [hk]; rfl)) h
theorem Ord.loadAt {l : List Oper} {A : Array Nat} {F : List Early} {q : Nat} {ord rest : List Nat} {o : Oper} {t : TypeId} {i : TI} {x : Operand} {b j : Nat} {c : List Value} {T : TypeId} {fr : Nat × Nat} (v : Value) {G' : List Assn} (hR : Right l A ord) (hQ : NP Q) (hn : nth l q = some o) (hk0 : acts o.op = false) (hg : gv l.toArray E o = some true) (hd : fits n o.dst = true) (ho : o.op = .load t x)
    (hx : ev E x = some (.pointer (some ⟨b, j, none⟩))) (ht : tab t = some i) (hs : i.size = 1) (hk : aggK i.k = false) (p : Pick (pt b (.cells c.toArray T fr)) G G') (hv : c[j]? = some v)
    (h : Ord Tryz.prog n ds w0 l A (⟨q, o, E, v⟩ :: F) (put E o.dst v) G Q rest) : Ord Tryz.prog n ds w0 l A F E G Q (q :: rest) := Ord.look hR hQ hn hk0 hg hd (Yl.load tab_ok ho hx ht (Tells.one p hv) (by simp [hs]) (by rw [hk]; rfl)) h
/-- what was loaded early is still there. -/
theorem Keep.loadAt {A : Array Nat} {k i : Nat} {F : List Early} {o : Oper} {E' : Env} {v : Value} {t : TypeId} {ti : TI} {x : Operand} {b j : Nat} {c : List Value} {T : TypeId} {fr : Nat × Nat} {G' : List Assn} (ho : o.op = .load t x)
    (hx : ev E' x = some (.pointer (some ⟨b, j, none⟩))) (ht : tab t = some ti) (hs : ti.size = 1) (hk : aggK ti.k = false) (p : Pick (pt b (.cells c.toArray T fr)) G G') (hv : c[j]? = some v)
    (h : Keep Tryz.prog n ds w0 A k G F) : Keep Tryz.prog n ds w0 A k G (⟨i, o, E', v⟩ :: F) := Keep.again (Yl.load tab_ok ho hx ht (Tells.one p hv) (by simp [hs]) (by rw [hk]; rfl)) h
theorem over_one {c : List Value} {j : Nat} (h : j < c.length) (v : Value) : over c j [v] = c.set j v := by
  unfold over
  rw [List.set_eq_take_append_cons_drop, if_pos h]
  simp
theorem Seq.storeAt {ops : Array Oper} {o : Oper} {rest : List Oper} {t : TypeId} {i : TI} {x y : Operand} {b j : Nat} {c : List Value} {ty : TypeId} {v : Value} {G' : List Assn} (hg : gv ops E o = some true) (hd : fits n o.dst = true) (ho : o.op = .store t x y)
    (hx : ev E x = some (.pointer (some ⟨b, j, none⟩))) (hy : ev E y = some v) (ht : tab t = some i) (hs : i.size = 1) (p : Pick (pt b (.cells c.toArray ty (0, 0))) G G') (hc : v.cells = #[v]) (hone : v.oneCell' = true) (hj : j < c.length)
    (h : Seq Tryz.prog n ds w0 ops (put E o.dst undef) (pt b (.cells (c.set j v).toArray ty (0, 0)) :: G') Q rest) : Seq Tryz.prog n ds w0 ops E G Q (o :: rest) := by
  refine Seq.eff hg hd (Ef.store tab_ok ho hx hy ht p (by simp [hc, hs]) (fun u hu => by rw [hc] at hu; simp at hu; subst hu; exact hone) (by omega)) fun _ => ?_
  rw [hc, show (#[v] : Array Value).toList = [v] from rfl, over_one hj]
  exact h
theorem Ord.storeAt {l : List Oper} {A : Array Nat} {F : List Early} {q : Nat} {ord rest : List Nat} {o : Oper} {t : TypeId} {i : TI} {x y : Operand} {b j : Nat} {c : List Value} {ty : TypeId} {v : Value} {G' : List Assn} (hR : Right l A ord) (hn : nth l q = some o) (hk : acts o.op = true)
    (hg : gv l.toArray E o = some true) (hd : fits n o.dst = true) (ho : o.op = .store t x y)
    (hx : ev E x = some (.pointer (some ⟨b, j, none⟩))) (hy : ev E y = some v) (ht : tab t = some i) (hs : i.size = 1) (p : Pick (pt b (.cells c.toArray ty (0, 0))) G G') (hc : v.cells = #[v]) (hone : v.oneCell' = true) (hj : j < c.length)
    (hF : Keep Tryz.prog n ds w0 A q (pt b (.cells (c.set j v).toArray ty (0, 0)) :: G') F)
    (h : Ord Tryz.prog n ds w0 l A F (put E o.dst undef) (pt b (.cells (c.set j v).toArray ty (0, 0)) :: G') Q rest) : Ord Tryz.prog n ds w0 l A F E G Q (q :: rest) := by
  have e : over c j v.cells.toList = c.set j v := by rw [hc, show (#[v] : Array Value).toList = [v] from rfl, over_one hj]
  refine Ord.eff hR hn hk hg hd (Ef.store tab_ok ho hx hy ht p (by simp [hc, hs]) (fun u hu => by rw [hc] at hu; simp at hu; subst hu; exact hone) (by omega)) (fun _ => ?_) fun _ => ?_
  · rw [e]; exact hF
  · rw [e]; exact h
theorem Seq.index {ops : Array Oper} {o : Oper} {rest : List Oper} {x ix : Operand} {t e : TypeId} {ts tb m : Nat} {ei : TI} {cs : List Value} {ik : IntKind} (i : Nat) (v : Value) (hg : gv ops E o = some true) (hd : fits n o.dst = true) (ho : o.op = .index t x ix) (hx : ev E x = some (.agg cs.toArray)) (hi : ev E ix = some (.int ik (i : Int)))
    (ht : tab t = some ⟨.arr m e, ts, tb⟩) (he : tab e = some ei) (hs : ei.size = 1) (hk : aggK ei.k = false) (hlt : i < m) (hv : cs[i]? = some v) (h : Seq Tryz.prog n ds w0 ops (put E o.dst v) G Q rest) : Seq Tryz.prog n ds w0 ops E G Q (o :: rest) :=
  Seq.yield hg hd (fun a w ha _ => by
    have h0 : (0 : Int) ≤ i := by omega
    have h1 : (i : Int) < m := by omega
    have hsz := fun w => run_sizeOf_tab tab_ok he w
    rw [hs] at hsz
    have hagg := fun w => run_isAgg_tab tab_ok he w
    rw [hk] at hagg
    simp [execOp, ho, ha.eval hx, ha.eval hi, Instr.index, asIntOf, run_underlying (tab_ok.arr ht), hsz, Go.part, hagg, hv, hlt]) h
theorem run_sliceArr {o : Oper} {x : Operand} {lo hi : Option Operand} {t e : TypeId} {ts tb m : Nat} {ei : TI} {b off : Nat} {vl vh : Option Value} (l h : Nat) (ho : o.op = .slice t x lo hi none)
    (hx : ev E x = some (.pointer (some ⟨b, off, none⟩))) (hlo : evo E lo = some vl) (hhi : evo E hi = some vh) (ht : tab t = some ⟨.arr m e, ts, tb⟩) (he : tab e = some ei) (hl : loOf vl = some (l : Int)) (hh : hiOf m vh = some (h : Int))
    (h1 : l ≤ h) (h2 : h ≤ m) (a : Act) (w : World) (ha : Agree n ds E a) : (execOp a.eval o).run Tryz.prog w = .ok (.value (.slice (some ⟨b, off + (if m = l then 0 else l * ei.size), none⟩) (h - l) (m - l))) w := by
  have el := evo_sound ha hlo
  have eh := evo_sound ha hhi
  have hr : (Instr.sliceBounds false m m vl vh none).run Tryz.prog w = .ok (l, h, m) w := by
    unfold hiOf at hh
    unfold loOf at hl
    have hI1 : ∀ (k : IntKind) (y : Nat) (c : BoundsCode) (z : Nat), z ≤ y → (Instr.sliceBound (.int k (z : Int)) y c).run Tryz.prog w = .ok z w := fun k y c z hz => by
      simp [Instr.sliceBound, asIntOf]
      intro hlt; omega
    split at hh
    · have : m = h := by simp at hh; omega
      subst this
      split at hl
      · have : 0 = l := by simp at hl; omega
        subst this
        simp [Instr.sliceBounds]
      · simp only [Option.some.injEq] at hl; subst hl
        simp [Instr.sliceBounds, hI1 _ _ _ _ h1]
      · cases hl
    · simp only [Option.some.injEq] at hh; subst hh
      split at hl
      · have : 0 = l := by simp at hl; omega
        subst this
        simp [Instr.sliceBounds, hI1 _ _ _ _ h2]
      · simp only [Option.some.injEq] at hl; subst hl
        simp [Instr.sliceBounds, hI1 _ _ _ _ h1, hI1 _ _ _ _ h2]
      · cases hl
    · cases hh
  simp [execOp, ho, Instr.sliceAt, ha.eval hx, el, eh, run_underlying (tab_ok.arr ht), hr, run_sizeOf_tab tab_ok he, Instr.sureAddr]
  split
  · simp
  · simp [Addr.add_plain]
theorem Seq.s2ap {ops : Array Oper} {o : Oper} {rest : List Oper} {x : Operand} {t e : TypeId} {ts tb m : Nat} {ad : Option Addr} {k cap : Nat} (hg : gv ops E o = some true) (hd : fits n o.dst = true) (ho : o.op = .sliceToArrayPointer t x) (hx : ev E x = some (.slice ad k cap)) (ht : tab t = some ⟨.arr m e, ts, tb⟩) (hm : m ≤ k)
    (h : Seq Tryz.prog n ds w0 ops (put E o.dst (.pointer ad)) G Q rest) : Seq Tryz.prog n ds w0 ops E G Q (o :: rest) := Seq.yield hg hd (fun a w ha _ => by
  have : ¬ k < m := by omega
  simp [execOp, ho, ha.eval hx, Instr.arrayAt, run_underlying (tab_ok.arr ht), this]) h
theorem Ord.s2ap {l : List Oper} {A : Array Nat} {F : List Early} {q : Nat} {ord rest : List Nat} {o : Oper} {x : Operand} {t e : TypeId} {ts tb m : Nat} {ad : Option Addr} {k cap : Nat} (hR : Right l A ord) (hQ : NP Q) (hn : nth l q = some o) (hk : acts o.op = false) (hg : gv l.toArray E o = some true) (hd : fits n o.dst = true)
    (ho : o.op = .sliceToArrayPointer t x) (hx : ev E x = some (.slice ad k cap)) (ht : tab t = some ⟨.arr m e, ts, tb⟩) (hm : m ≤ k)
    (h : Ord Tryz.prog n ds w0 l A F (put E o.dst (.pointer ad)) G Q rest) : Ord Tryz.prog n ds w0 l A F E G Q (q :: rest) := Ord.pure hR hQ hn hk hg hd (fun a w ha => by
  have : ¬ k < m := by omega
  simp [execOp, ho, ha.eval hx, Instr.arrayAt, run_underlying (tab_ok.arr ht), this]) h
/-- bytes that are copied into a block. -/
theorem Ef.copyB {o : Oper} {x y : Operand} {t t2 e : TypeId} {ts tb bytes : Nat} {tk : TK} {b off dl dc c2 : Nat} {c : List Value} {ty : TypeId} {a2 : Option Addr} {ys : List UInt8} {G' : List Assn} (ho : o.op = .call { callee := .builtin .copy, args := #[x, y], argTypes := #[t, t2] })
    (hx : ev E x = some (.slice (some ⟨b, off, none⟩) dl dc)) (hy : ev E y = some (.slice a2 ys.length c2)) (ht : tab t = some ⟨.slice e, ts, tb⟩) (he : tab e = some ⟨tk, 1, bytes⟩)
    (p : Pick (pt b (.cells c.toArray ty (0, 0))) G G') (hT : Tells G (BIn a2 ys)) (hdl : ys.length ≤ dl) (hfit : off + ys.length ≤ c.length) :
    Ef Tryz.prog n ds w0 E G o (X := Unit) (fun _ => goInt ys.length) (fun _ => pt b (.cells (over c off (bytesV ys)).toArray ty (0, 0)) :: G') := fun a w ha hw K R hK => by
  obtain ⟨d, j, _, hj, _, hs, _⟩ := tab_ok.und he
  obtain ⟨h1, _, _, l1, _, hp, _⟩ := p.out hw.sep
  have hb : w.heap[b]? = some (.cells c.toArray ty (0, 0)) := l1 _ _ hp
  have hu := tab_ok.slice ht
  have hbin := hT _ hw.sep
  have goal : ∃ w', (Builtin.copy_ #[t, t2] o.type #[.slice (some ⟨b, off, none⟩) dl dc, .slice a2 ys.length c2]).run Tryz.prog w = .ok (goInt ys.length) w' ∧ w' = w.setRow b (over c off (bytesV ys)).toArray := by
    rcases Nat.eq_zero_or_pos ys.length with h0 | hpos
    · have hy0 : ys = [] := List.eq_nil_of_length_eq_zero h0
      subst hy0
      refine ⟨w, ?_, ?_⟩
      · exact run_copy_none w t t2 o.type e (some ⟨b, off, none⟩) a2 dl dc 0 c2 hu (by simp only [hj, Option.map_some]; rw [hs]) (by simp)
      · have : over c off (bytesV []) = c := by simp [over, bytesV]
        rw [this]
        exact (setRow_self w b c.toArray _ _ hb).symm
    · obtain ⟨b2, off2, rfl, hc⟩ := SlIn.cells hbin hpos
      refine ⟨_, ?_, rfl⟩
      have := run_copy_row (P := Tryz.prog) w t t2 o.type e b off dl dc ⟨b2, off2, none⟩ ys.length c2 c.toArray ty (bytesV ys) hu (by simp only [hj, Option.map_some]; rw [hs]) hb (by rw [bytesV_length]; exact (Nat.min_eq_left hdl).symm)
        (fun j v hv => by rw [Addr.add_plain]; exact cell_of_CellsAt hc hv) (by rw [bytesV_length]; simpa using hfit) (Ones_bytesV ys)
      rw [bytesV_length] at this
      rw [this]
      simp [over, bytesV_length]
  obtain ⟨w', hrun, rfl⟩ := goal
  have hr2 : (execOp a.eval o).run Tryz.prog w = .ok (.value (goInt ys.length)) (w.setRow b (over c off (bytesV ys)).toArray) := by
    simp [execOp, ho, resolve, invoke, builtin, ha.eval hx, ha.eval hy, hrun]
  refine wpIn_of hr2 (fun _ e => by cases e) ?_
  refine hK () _ ⟨sep_set p hw.sep (setRow_heap w b c.toArray _ ty (0, 0) hb) (fun k hk => setRow_other w b k _ hk), hw.same.trans ⟨rfl, rfl, rfl, ?_⟩⟩
  rw [setRow_size]; exact Nat.le_refl _
theorem CellsAt.of_bytes {b lo k : Nat} {l : List UInt8} {T : TypeId} {fr : Nat × Nat} (h : Part) (x : pt b (.cells (bytesV l).toArray T fr) h) : CellsAt b lo (bytesV ((l.drop lo).take k)) h :=
  ⟨_, T, fr, x, fun j v hj => by
    rw [bytesV_take, bytesV_drop, List.getElem?_take] at hj
    split at hj
    · rw [List.getElem?_drop] at hj; simpa using hj
    · cases hj⟩
theorem Seq.sliceArrB {ops : Array Oper} {o : Oper} {rest : List Oper} {x : Operand} {lo hi : Option Operand} {t e : TypeId} {ts tb m : Nat} {ei : TI} {b : Nat} {vl vh : Option Value} (l k : Nat) (hg : gv ops E o = some true) (hd : fits n o.dst = true) (ho : o.op = .slice t x lo hi none)
    (hx : ev E x = some (.pointer (some ⟨b, 0, none⟩))) (hlo : evo E lo = some vl) (hhi : evo E hi = some vh) (ht : tab t = some ⟨.arr m e, ts, tb⟩) (he : tab e = some ei) (hs : ei.size = 1) (hl : loOf vl = some (l : Int)) (hh : hiOf m vh = some ((l + k : Nat) : Int))
    (h2 : l + k ≤ m) (hlm : l < m) (h : Seq Tryz.prog n ds w0 ops (put E o.dst (.slice (some ⟨b, l, none⟩) k (m - l))) G Q rest) : Seq Tryz.prog n ds w0 ops E G Q (o :: rest) := by
  refine Seq.yield hg hd (fun a w ha _ => run_sliceArr l (l + k) ho hx hlo hhi ht he hl hh (by omega) h2 a w ha) ?_
  rw [if_neg (by omega), hs, Nat.zero_add, Nat.mul_one, show l + k - l = k by omega]
  exact h
theorem BIn.of_pt {b lo k : Nat} {l : List UInt8} {T : TypeId} {fr : Nat × Nat} (hlk : lo + k ≤ l.length) (h : Part) (x : pt b (.cells (bytesV l).toArray T fr) h) : BIn (some ⟨b, lo, none⟩) ((l.drop lo).take k) h := by
  refine ⟨by simp [bytesV], ?_⟩
  exact .inr ⟨b, lo, rfl, CellsAt.of_bytes h x⟩
theorem BIn.mono {a : Option Addr} {l : List UInt8} {h k : Part} (hk : Part.le h k) (x : BIn a l h) : BIn a l k := SlIn.mono hk x
theorem take_four (l : List UInt8) {i : Nat} (h : i + 4 ≤ l.length) : (l.drop i).take 4 = [l.getD i 0, l.getD (i + 1) 0, l.getD (i + 2) 0, l.getD (i + 3) 0] := by
  rw [List.drop_eq_getElem_cons (i := i) (by omega), List.drop_eq_getElem_cons (i := i + 1) (by omega), List.drop_eq_getElem_cons (i := i + 1 + 1) (by omega), List.drop_eq_getElem_cons (i := i + 1 + 1 + 1) (by omega)]
  have g : ∀ (j : Nat) (hj : j < l.length), l.getD j 0 = l[j] := fun j hj => by simp [hj]
  rw [g i (by omega), g (i + 1) (by omega), g (i + 2) (by omega), g (i + 3) (by omega)]
  rfl
end
end Go.Ent
namespace Go.Ent
open Go Go.Proofs
def placesArr (m k : Nat) (i : Nat) : Option (Nat × Nat) := if i < m then some (i * k, k) else none
section
variable {n : Nat} {ds : Fz} {w0 : World} {E : Env} {G : List Assn} {Q : Exit → Act → World → Prop}
theorem run_buildArr {o : Oper} {t e : TypeId} {ei : TI} {parts : List (Nat × Operand)} {vs : List (Nat × Value)} {m s b : Nat} {z out : List Value}
    (ho : o.op = .build t parts.toArray) (hv : evps E parts = some vs) (ht : tab t = some ⟨.arr m e, s, b⟩) (he : tab e = some ei) (hz : zeroOf tab 8 t = some z) (hf : fillL (fun i => some (i * ei.size, ei.size)) z vs = some out)
    (a : Act) (w : World) (ha : Agree n ds E a) : (execOp a.eval o).run Tryz.prog w = .ok (.value (.agg out.toArray)) w := by
  obtain ⟨d, j, hu, hj, hfit, _⟩ := tab_ok.und ht
  obtain ⟨v, hzv, hc, _⟩ := tab_zero t z hz
  cases d <;> simp only [TK.fits, Bool.false_eq_true, Bool.and_eq_true, beq_iff_eq] at hfit
  rename_i m' e'
  obtain ⟨rfl, rfl⟩ := hfit
  have hzr := hzv w
  simp only [zeroValue, typeInfo, Sem.run_bind] at hzr
  have hjz : j.zero = some v := by
    simp [hj] at hzr
    cases hjz : j.zero with
    | none => simp [hjz, unsupported] at hzr
    | some u => simp [hjz] at hzr; rw [hzr]
  obtain ⟨d2, j2, hu2, hj2, _, hs2, _⟩ := tab_ok.und he
  have hb : Tryz.prog.built t vs = some out.toArray := by
    unfold Program.built
    simp only [hj, hu, hjz, hj2, hs2]
    have := fill_eq _ _ _ _ hf
    rw [← hc] at this
    simpa using this
  have hvs := evps_sound ha hv
  have e : (parts.toArray.map fun (x : Nat × Operand) => (x.1, a.eval x.2)) = vs.toArray := by
    apply Array.ext'; simpa using hvs
  have hrun := run_build (P := Tryz.prog) w t vs.toArray out.toArray (by simpa using hb)
  simp only [execOp, ho, Sem.run_bind]
  rw [show (parts.toArray.map fun (i, x) => (i, a.eval x)) = vs.toArray from e, hrun]
  rfl
theorem Seq.buildArr {ops : Array Oper} {o : Oper} {rest : List Oper} {t e : TypeId} {ei : TI} {parts : List (Nat × Operand)} {vs : List (Nat × Value)} {m s b : Nat} {z out : List Value} (hg : gv ops E o = some true) (hd : fits n o.dst = true)
    (ho : o.op = .build t parts.toArray) (hv : evps E parts = some vs) (ht : tab t = some ⟨.arr m e, s, b⟩) (he : tab e = some ei) (hz : zeroOf tab 8 t = some z) (hf : fillL (fun i => some (i * ei.size, ei.size)) z vs = some out)
    (h : Seq Tryz.prog n ds w0 ops (put E o.dst (.agg out.toArray)) G Q rest) : Seq Tryz.prog n ds w0 ops E G Q (o :: rest) := Seq.yield hg hd (fun a w ha _ => run_buildArr ho hv ht he hz hf a w ha) h
theorem Keep.loadT {A : Array Nat} {k i : Nat} {F : List Early} {o : Oper} {E' : Env} {v : Value} {t : TypeId} {ti : TI} {x : Operand} {b off : Nat} {cs : List Value} (ho : o.op = .load t x)
    (hx : ev E' x = some (.pointer (some ⟨b, off, none⟩))) (ht : tab t = some ti) (hG : Tells G (CellsAt b off cs)) (hl : cs.length = ti.size) (hv : valOf (aggK ti.k) cs = some v)
    (h : Keep Tryz.prog n ds w0 A k G F) : Keep Tryz.prog n ds w0 A k G (⟨i, o, E', v⟩ :: F) := Keep.again (Yl.load tab_ok ho hx ht hG hl hv) h
end
end Go.Ent
namespace Go.Ent
open Go Go.Proofs
section
variable {n : Nat} {ds : Fz} {w0 : World} {E : Env} {G : List Assn} {Q : Exit → Act → World → Prop}
theorem Ef.makeNoZero {o : Oper} {fo x : Operand} {ats : Array TypeId} {f : FuncId} {fn : Func} {m : Nat} {ps : Array TypeId} {t e : TypeId} {ts tb : Nat} (ho : o.op = .call { callee := .value fo, args := #[x], argTypes := ats })
    (hfv : ev E fo = some (.func (.func f) #[] #[])) (hx : ev E x = some (.int .i64 (m : Int))) (hf : Tryz.prog.funcs[f]? = some fn) (hname : (fn.name == "runtime.NumGoroutine") = false) (hb : fn.body.isNone = true)
    (hnx : Extern.findNext fn = none) (hfd : Extern.find fn = some (Extern.BytealgMakeNoZero.makeNoZero ps #[t])) (ht : tab t = some ⟨.slice e, ts, tb⟩) (hm : m ≤ 50000000) :
    Ef Tryz.prog n ds w0 E G o (X := {r : Nat × Array Value // m ≤ r.2.size ∧ r.2.size ≤ maxLen}) (fun r => .slice (some ⟨r.1.1, 0, none⟩) m r.1.2.size) (fun r => pt r.1.1 (.cells r.1.2 e (0, 0)) :: G) := fun a w ha hw K R hK => by
  obtain ⟨cs, hrun, hle, hmax⟩ := Lib.run_makeNoZero (P := Tryz.prog) w ps t e (tab_ok.slice ht) m (by omega)
  have hcall := run_callFunc_extern (P := Tryz.prog) hf hname hb hnx hfd #[.int .i64 (m : Int)] w
  rw [hrun, Result.andThen_ok] at hcall
  have hrun2 : (execOp a.eval o).run Tryz.prog w = .ok (.value (.slice (some ⟨w.heap.size, 0, none⟩) m cs.size)) (w.drew.drew.alloc (.cells cs e)) := by
    simp [execOp, ho, resolve, ha.eval hfv, ha.eval hx, Deferred.ofValue, invoke, hcall]
  refine wpIn_of hrun2 (fun _ e => by cases e) ?_
  have hs : sep (pt w.heap.size (.cells cs e (0, 0)) :: G) (hpart (w.drew.drew.alloc (.cells cs e))) := sep_new (w := w.drew.drew) hw.sep
  exact hK ⟨(w.heap.size, cs), hle, hmax (by unfold maxLen; omega)⟩ _ ⟨hs, hw.same.trans ⟨rfl, rfl, rfl, by simp⟩⟩
theorem run_slice30 {o : Oper} {x hi mx : Operand} {t e : TypeId} {ts tb : Nat} {ei : TI} {b m cap : Nat} {k2 k3 : IntKind} (h : Nat) (ho : o.op = .slice t x none (some hi) (some mx))
    (hx : ev E x = some (.slice (some ⟨b, 0, none⟩) m cap)) (hhi : ev E hi = some (.int k2 (h : Int))) (hmx : ev E mx = some (.int k3 (h : Int))) (ht : tab t = some ⟨.slice e, ts, tb⟩) (he : tab e = some ei)
    (h2 : h ≤ cap) (a : Act) (w : World) (ha : Agree n ds E a) : (execOp a.eval o).run Tryz.prog w = .ok (.value (.slice (some ⟨b, 0, none⟩) h h)) w := by
  have hI1 : ∀ (k : IntKind) (y : Nat) (c : BoundsCode) (z : Nat), z ≤ y → (Instr.sliceBound (.int k (z : Int)) y c).run Tryz.prog w = .ok z w := fun k y c z hz => by
    simp [Instr.sliceBound, asIntOf]
    intro hlt; omega
  have hr : (Instr.sliceBounds true m cap none (some (.int k2 (h : Int))) (some (.int k3 (h : Int)))).run Tryz.prog w = .ok (0, h, h) w := by
    simp [Instr.sliceBounds, hI1 _ _ _ _ h2, hI1 _ _ _ _ (Nat.le_refl h)]
  simp [execOp, ho, Instr.sliceAt, Instr.slice, ha.eval hx, ha.eval hhi, ha.eval hmx, run_underlying (tab_ok.slice ht), hr, run_sizeOf_tab tab_ok he, Addr.add_plain]
end
end Go.Ent
namespace Go.Ent
open Go Go.Proofs Go.MapKept
open Go.ChangeMaps (setBlock)
/-- bytes as a string. -/
def strB (l : List UInt8) : ByteArray := ⟨l.toArray⟩
def mkS (l : List UInt8) : Value := .string (strB l)
theorem strB_inj {a b : List UInt8} (h : strB a = strB b) : a = b := by
  have := congrArg (fun x : ByteArray => x.data.toList) h
  simpa [strB] using this
theorem mkS_inj (a b : List UInt8) (h : mkS a = mkS b) : a = b := by
  unfold mkS at h
  simp only [Value.string.injEq] at h
  exact strB_inj h
theorem keyBytes {kt : TypeId} {s b : Nat} (h : tab kt = some ⟨.string, s, b⟩) : KeyAt kt mkS := ⟨_, tab_ok.string h, fun _ => trivial, mkS_inj⟩
section
variable {n : Nat} {ds : Fz} {w0 : World} {E : Env} {G : List Assn} {Q : Exit → Act → World → Prop}
theorem Yl.convStr {o : Oper} {s d e : TypeId} {x : Operand} {ts tb b1 sd bd : Nat} {a : Option Addr} {m c : Nat} {l : List UInt8} (ho : o.op = .convert s d x) (hx : ev E x = some (.slice a m c)) (hs : tab s = some ⟨.slice e, ts, tb⟩) (he : tab e = some ⟨.int .u8, 1, b1⟩) (hd : tab d = some ⟨.string, sd, bd⟩)
    (hm : m = l.length) (hT : Tells G (BIn a l)) : Yl Tryz.prog n ds w0 E G o (mkS l) := fun act w ha hw => by
  subst hm
  have hb := hT _ hw.sep
  have hconv : (convert s d (.slice a l.length c)).run Tryz.prog w = .ok (mkS l) w := by
    rcases Nat.eq_zero_or_pos l.length with h0 | hpos
    · have : l = [] := List.eq_nil_of_length_eq_zero h0
      subst this
      cases a with
      | none => exact run_convert_bytes_nil w s e (tab_ok.slice hs) (tab_ok.int he) _ c d (tab_ok.string hd)
      | some a =>
        rw [run_convert_bytes_string w s d e (some a) _ c (tab_ok.slice hs) (tab_ok.int he) (tab_ok.string hd)]
        have := run_bytesToString (P := Tryz.prog) w a 0 c [] (by simp [loadCells, loadCellsFrom])
        rw [show mkS [] = .string ByteArray.empty from rfl]
        simpa using this
    · obtain ⟨b, off, rfl, hc⟩ := SlIn.cells hb hpos
      have := run_convert_bytes_arg (P := Tryz.prog) w s e (tab_ok.slice hs) (tab_ok.int he) b off l.length c (l.map fun b => (b.toNat : Int)) (by simp) (fun i hi => by
        refine cell_of_CellsAt hc ?_
        simp [bytesV, bval, List.getD, hi]) d (tab_ok.string hd)
      have e : List.map (fun n : Int => UInt8.ofNat n.toNat) (l.map fun b => (b.toNat : Int)) = l := by
        rw [List.map_map]
        conv => rhs; rw [← List.map_id l]
        apply List.map_congr_left
        intro b _
        simp
      have e2 : strOfNums (l.map fun b => (b.toNat : Int)) = strB l := by unfold strOfNums strB; rw [e]
      rw [e2] at this
      exact this
  simp [execOp, ho, ha.eval hx, hconv]
theorem World.freeze_own {w : World} {b : Nat} {c : Array Value} {T : TypeId} (hb : w.heap[b]? = some (.cells c T (0, 0))) (k : Nat) :
    (w.freeze ⟨b, k, none⟩ 1).heap[b]? = some (.cells c T (k, k + 1)) ∧ (∀ j, j ≠ b → (w.freeze ⟨b, k, none⟩ 1).heap[j]? = w.heap[j]?) ∧ (w.freeze ⟨b, k, none⟩ 1).heap.size = w.heap.size := by
  unfold World.freeze
  rw [if_neg (by decide)]
  refine ⟨?_, fun j hj => ?_, by simp⟩
  · simp [Array.getElem?_modify, hb]
  · simp only [Array.getElem?_modify]
    rw [if_neg (fun e => hj e.symm)]
/-- a constant's bytes get their mark. -/
theorem Ef.markS {o : Oper} {t e : TypeId} {x : Operand} {ts tb b1 : Nat} {b m c : Nat} {l : List UInt8} {G' : List Assn} (ho : o.op = .convert t t x) (hx : ev E x = some (.slice (some ⟨b, 0, none⟩) m c)) (ht : tab t = some ⟨.slice e, ts, tb⟩) (he : tab e = some ⟨.int .u8, 1, b1⟩)
    (hm : m = l.length) (hpos : 0 < l.length) (p : Pick (SlOwn e 1 (some ⟨b, 0, none⟩) m c (bytesV l)) G G') : Ef Tryz.prog n ds w0 E G o (X := Unit) (fun _ => .slice (some ⟨b, 0, none⟩) m c) (fun _ => BIn (some ⟨b, 0, none⟩) l :: G') := fun act w ha hw C R hK => by
  subst hm
  obtain ⟨h1, h2, dj, l1, l2, ⟨_, hmc, _, hown⟩, hrest⟩ := p.out hw.sep
  rcases hown with ⟨h, _⟩ | ⟨b', cs, hbb, hb, hsz, htk⟩
  · cases h
  simp only [Option.some.injEq, Addr.mk.injEq, and_true] at hbb
  subst hbb
  have hb' : w.heap[b]? = some (.cells cs e (0, 0)) := l1 _ _ hb
  have hsh : w.shape? b = some (e, cs.size) := by unfold World.shape?; rw [hb']
  have hrun : (execOp act.eval o).run Tryz.prog w = .ok (.value (.slice (some ⟨b, 0, none⟩) l.length c)) (w.freeze ⟨b, cs.size, none⟩ 1) := by
    simp [execOp, ho, ha.eval hx, convert, run_underlying (tab_ok.slice ht), run_underlying (tab_ok.int he), markStringish, hsh]
  obtain ⟨f1, f2, f3⟩ := World.freeze_own hb' cs.size
  refine wpIn_of hrun (fun _ e => by cases e) ?_
  refine hK () _ ⟨?_, hw.same.trans ⟨rfl, rfl, rfl, by rw [f3]; exact Nat.le_refl _⟩⟩
  refine sep_write (A := fun h => h b = some (.cells cs e (0, 0))) (B := BIn (some ⟨b, 0, none⟩) l) (b := b) (o := .cells cs e (0, 0)) (o' := .cells cs e (cs.size, cs.size + 1)) ⟨h1, h2, dj, l1, l2, hb, hrest⟩ (fun _ h => h) f2 f1 ?_
  refine ⟨by rw [bytesV_length, Nat.mul_one], .inr ⟨b, 0, rfl, cs, e, (cs.size, cs.size + 1), by simp, fun j v hj => ?_⟩⟩
  rw [← htk, List.getElem?_take] at hj
  split at hj
  · simpa using hj
  · cases hj
/-! ### arrays of bytes, compared -/
theorem run_eqItems_bytes (d : Nat) {e : TypeId} {b1 : Nat} (he : tab e = some ⟨.int .u8, 1, b1⟩) (hce : Tryz.prog.cellsOf e = 1) (l m : List UInt8) (w : World) : ∀ (is : List Nat), (∀ i ∈ is, i < l.length ∧ i < m.length) →
    (Op.eqItems (d + 1) e (Tryz.prog.cellsOf e) (bytesV l).toArray (bytesV m).toArray is).run Tryz.prog w = .ok (is.all fun i => l[i]? == m[i]?) w
  | [], _ => by simp [Op.eqItems]
  | i :: is, h => by
    obtain ⟨h1, h2⟩ := h i (by simp)
    have hp : Tryz.prog.plainKey e = true := by simp [Program.plainKey, tab_ok.int he]
    have p1 : (part e (bytesV l).toArray i).run Tryz.prog w = .ok (bval l[i]) w := run_part_plain w hp (by simp [bytesV, h1])
    have p2 : (part e (bytesV m).toArray i).run Tryz.prog w = .ok (bval m[i]) w := run_part_plain w hp (by simp [bytesV, h2])
    have p3 : (Op.equalIn (d + 1) e (bval l[i]) (bval m[i])).run Tryz.prog w = .ok (l[i] == m[i]) w := by
      have := run_equalIn_int (P := Tryz.prog) w d e .u8 .u8 (l[i].toNat : Int) (m[i].toNat : Int) (tab_ok.int he)
      rw [show (Op.equalIn (d + 1) e (bval l[i]) (bval m[i])) = Op.equalIn (d + 1) e (.int .u8 (l[i].toNat : Int)) (.int .u8 (m[i].toNat : Int)) from rfl, this]
      have e : ((l[i].toNat : Int) == (m[i].toNat : Int)) = (l[i] == m[i]) := by
        rw [Bool.eq_iff_iff]
        simp only [beq_iff_eq]
        exact ⟨fun e => UInt8.toNat_inj.1 (by omega), fun e => by rw [e]⟩
      rw [e]
    have ih := run_eqItems_bytes d he hce l m w is fun j hj => h j (by simp [hj])
    rw [hce] at ih ⊢
    simp only [Op.eqItems, Nat.mul_one, Sem.run_bind, p1, p2, p3, Result.andThen_ok]
    have hl : l[i]? = some l[i] := by simp [h1]
    have hm : m[i]? = some m[i] := by simp [h2]
    have hb : (l[i]? == m[i]?) = (l[i] == m[i]) := by rw [hl, hm]; rfl
    rw [List.all_cons, hb]
    cases l[i] == m[i] with
    | false => simp
    | true => simpa using ih
theorem all_eq {l m : List UInt8} (h : l.length = m.length) : ((List.range l.length).all fun i => l[i]? == m[i]?) = decide (l = m) := by
  rw [Bool.eq_iff_iff]
  simp only [List.all_eq_true, List.mem_range, beq_iff_eq, decide_eq_true_eq]
  refine ⟨fun hh => List.ext_getElem? fun i => ?_, fun e i _ => by rw [e]⟩
  rcases Nat.lt_or_ge i l.length with hl | hl
  · exact hh i hl
  · rw [List.getElem?_eq_none hl, List.getElem?_eq_none (by omega)]
theorem run_eqB {o : Oper} {x y : Operand} {t e : TypeId} {ts tb m b1 : Nat} {cc : TypeId} {l1 l2 : List UInt8} (ho : o.op = .binOp .eql t x y cc) (hx : ev E x = some (.agg (bytesV l1).toArray)) (hy : ev E y = some (.agg (bytesV l2).toArray))
    (ht : tab t = some ⟨.arr m e, ts, tb⟩) (he : tab e = some ⟨.int .u8, 1, b1⟩) (hce : Tryz.prog.cellsOf e = 1) (hgt : Tryz.prog.eqGuardType Tryz.prog.depth t = false) (h1 : l1.length = m) (h2 : l2.length = m) (a : Act) (w : World) (ha : Agree n ds E a) :
    (execOp a.eval o).run Tryz.prog w = .ok (.value (.bool (decide (l1 = l2)))) w := by
  obtain ⟨d, j, hu, hj, hfit, hs, _⟩ := tab_ok.und he
  have heq : (Op.equal t (.agg (bytesV l1).toArray) (.agg (bytesV l2).toArray)).run Tryz.prog w = .ok (decide (l1 = l2)) w := by
    unfold Op.equal
    rw [show Op.maxDepth = 9998 + 1 + 1 from rfl, run_equalIn_array w (9998 + 1) _ _ (tab_ok.arr ht) hj, run_eqItems_bytes 9998 he hce l1 l2 w (List.range m) (fun i hi => by simp at hi; omega), ← h1, all_eq (by omega)]
  simp [execOp, ho, ha.eval hx, ha.eval hy, eqGuard, hgt, binOp, heq, program, Sem.run]
theorem run_neB {o : Oper} {x y : Operand} {t e : TypeId} {ts tb m b1 : Nat} {cc : TypeId} {l1 l2 : List UInt8} (ho : o.op = .binOp .neq t x y cc) (hx : ev E x = some (.agg (bytesV l1).toArray)) (hy : ev E y = some (.agg (bytesV l2).toArray))
    (ht : tab t = some ⟨.arr m e, ts, tb⟩) (he : tab e = some ⟨.int .u8, 1, b1⟩) (hce : Tryz.prog.cellsOf e = 1) (hgt : Tryz.prog.eqGuardType Tryz.prog.depth t = false) (h1 : l1.length = m) (h2 : l2.length = m) (a : Act) (w : World) (ha : Agree n ds E a) :
    (execOp a.eval o).run Tryz.prog w = .ok (.value (.bool (!decide (l1 = l2)))) w := by
  obtain ⟨d, j, hu, hj, hfit, hs, _⟩ := tab_ok.und he
  have heq : (Op.equal t (.agg (bytesV l1).toArray) (.agg (bytesV l2).toArray)).run Tryz.prog w = .ok (decide (l1 = l2)) w := by
    unfold Op.equal
    rw [show Op.maxDepth = 9998 + 1 + 1 from rfl, run_equalIn_array w (9998 + 1) _ _ (tab_ok.arr ht) hj, run_eqItems_bytes 9998 he hce l1 l2 w (List.range m) (fun i hi => by simp at hi; omega), ← h1, all_eq (by omega)]
  simp [execOp, ho, ha.eval hx, ha.eval hy, eqGuard, hgt, binOp, heq, program, Sem.run]
/-! ### keys that are dropped -/
def del {K : Type} [DecidableEq K] (f : K → Option Value) (k : K) : K → Option Value := fun j => if j = k then none else f j
variable {K : Type} {mk : K → Value}
theorem Says.erase [DecidableEq K] {f : K → Option Value} {es : Array MapEntry} {c : Nat} (hinj : ∀ a b, mk a = mk b → a = b) (s : Says mk f es c) (k : K) {j : Nat} {e : MapEntry} (h : es[j]? = some e) (he : e.key = mk k) :
    Says mk (del f k) (es.eraseIdxIfInBounds j) c := by
  have hlt : j < es.size := (Array.getElem?_eq_some_iff.1 h).1
  have hj : es.toList[j]? = some e := by simpa using h
  have hl : (es.eraseIdxIfInBounds j).toList = es.toList.eraseIdx j := by
    unfold Array.eraseIdxIfInBounds; rw [dif_pos hlt]; simp
  have hmem : ∀ x, x ∈ (es.eraseIdxIfInBounds j).toList ↔ x ∈ es.toList ∧ x.key ≠ mk k := fun x => by
    rw [hl, List.mem_eraseIdx_iff_getElem?]
    constructor
    · rintro ⟨i, hne, hi⟩
      refine ⟨List.mem_of_getElem? hi, fun hk => hne ?_⟩
      have hil := (List.getElem?_eq_some_iff.1 hi).1
      have hjl := (List.getElem?_eq_some_iff.1 hj).1
      have e1 : (es.toList.map (·.key))[i]? = (es.toList.map (·.key))[j]? := by
        rw [List.getElem?_map, List.getElem?_map, hi, hj]
        simp [hk, he]
      exact (List.getElem?_inj (by simpa using hil) s.st.2.2).1 e1
    · rintro ⟨hx, hk⟩
      obtain ⟨i, hi⟩ := List.mem_iff_getElem?.1 hx
      refine ⟨i, fun q => ?_, hi⟩
      subst q
      rw [hj] at hi; cases hi
      exact hk he
  refine ⟨stamped_erase s.st j, fun x hx => s.keys x ((hmem x).1 hx).1, fun k' v => ?_⟩
  unfold del
  by_cases hk : k' = k
  · subst hk
    simp only [if_true]
    constructor
    · intro h; cases h
    · rintro ⟨x, hx, h1, _⟩
      exact (((hmem x).1 hx).2 h1).elim
  · rw [if_neg hk, s.is]
    constructor
    · rintro ⟨x, hx, h1, h2⟩
      exact ⟨x, (hmem x).2 ⟨hx, fun q => hk (hinj _ _ (h1.symm.trans q))⟩, h1, h2⟩
    · rintro ⟨x, hx, h1, h2⟩
      exact ⟨x, ((hmem x).1 hx).1, h1, h2⟩
theorem Ef.delete [DecidableEq K] {o : Oper} {t kt et k2 : TypeId} {s1 b1 : Nat} {x i : Operand} {b : Nat} {f : K → Option Value} {G' : List Assn} (k : K) (ho : o.op = .call { callee := .builtin .delete, args := #[x, i], argTypes := #[t, k2] }) (hx : ev E x = some (.map (some b))) (hi : ev E i = some (mk k))
    (ht : tab t = some ⟨.map kt et, s1, b1⟩) (hk : KeyAt kt mk) (p : Pick (MapOf mk b f) G G') : Ef Tryz.prog n ds w0 E G o (X := Unit) (fun _ => .tuple #[]) (fun _ => MapOf mk b (del f k) :: G') := fun a w ha hw C R hK => by
  obtain ⟨es, clock, hb, hs⟩ := Tells.map p _ hw.sep
  have hb' : w.heap[b]? = some (.map es clock) := hb
  have hk' := hk
  obtain ⟨d, hd, hik, hinj⟩ := hk'
  have hck := run_checkKey (P := Tryz.prog) (w := w) hd (hik k) es.isEmpty 9999
  have hu := tab_ok.map ht
  have goal : ∃ es' c', (execOp a.eval o).run Tryz.prog w = .ok (.value (.tuple #[])) { w with heap := w.heap.setIfInBounds b (.map es' c') } ∧ Says mk (del f k) es' c' := by
    rcases hs.look hk k w with ⟨h1, h2, h3⟩ | ⟨j, e, h1, h2, h3, h4⟩
    · refine ⟨es, clock, ?_, ?_⟩
      · have hself : ({ w with heap := w.heap.setIfInBounds b (.map es clock) } : World) = w := by
          have : w.heap.setIfInBounds b (.map es clock) = w.heap := by
            apply Array.ext_getElem?
            intro q
            rw [Array.getElem?_setIfInBounds]
            split
            · rename_i e; subst e
              have hlt := (Array.getElem?_eq_some_iff.1 hb').1
              rw [if_pos hlt, hb']
            · rfl
          rw [this]
        rw [hself]
        simp [execOp, ho, resolve, invoke, builtin, Builtin.delete_, ha.eval hx, ha.eval hi, run_underlying hu, MapKept.run_getObj_map hb', hck, h2, run_setObj_map _ hb', hself]
      · have : del f k = f := by
          funext q; unfold del; split
          · rename_i e; subst e; exact h1.symm
          · rfl
        rw [this]; exact hs
    · refine ⟨_, _, ?_, hs.erase hinj k h3 h4⟩
      simp [execOp, ho, resolve, invoke, builtin, Builtin.delete_, ha.eval hx, ha.eval hi, run_underlying hu, MapKept.run_getObj_map hb', hck, h2, run_setObj_map _ hb']
  obtain ⟨es', c', hrun, hs'⟩ := goal
  refine wpIn_of hrun (fun _ e => by cases e) ?_
  obtain ⟨hset, hoth⟩ := heap_set (w := w) (o' := .map es' c') hb'
  obtain ⟨h1, h2, dj, l1, l2, hm, hrest⟩ := p.out hw.sep
  obtain ⟨es0, c0, hb0, _⟩ := hm
  have hs0 : sep (pt b (.map es0 c0) :: G') (hpart w) := ⟨h1, h2, dj, l1, l2, hb0, hrest⟩
  refine hK () _ ⟨star_mono (fun h hp => ⟨_, _, hp, hs'⟩) (fun _ h => h) (sep_set Pick.here hs0 hset (fun q hq => hoth q hq)), hw.same.trans ⟨rfl, rfl, rfl, by simp⟩⟩
end
end Go.Ent
namespace Go.Ent
open Go Go.Proofs Go.MapKept
section
variable {n : Nat} {ds : Fz} {w0 : World} {E : Env} {G : List Assn} {Q : Exit → Act → World → Prop} {K : Type} {mk : K → Value}
theorem Ef.mapsClone {o : Oper} {fo x : Operand} {ats : Array TypeId} {f : FuncId} {fn : Func} {t : TypeId} {b : Nat} {g : K → Option Value} (ho : o.op = .call { callee := .value fo, args := #[x], argTypes := ats })
    (hfv : ev E fo = some (.func (.func f) #[] #[])) (hx : ev E x = some (.iface t (.map (some b)))) (hf : Tryz.prog.funcs[f]? = some fn) (hname : (fn.name == "runtime.NumGoroutine") = false) (hb : fn.body.isNone = true)
    (hnx : Extern.findNext fn = none) (hfd : Extern.find fn = some Extern.MapsClone.clone) (hT : Tells G (MapOf mk b g)) :
    Ef Tryz.prog n ds w0 E G o (X := Nat) (fun r => .iface t (.map (some r))) (fun r => MapOf mk r g :: G) := fun a w ha hw C R hK => by
  obtain ⟨es, clock, hbb, hs⟩ := hT _ hw.sep
  have hb' : w.heap[b]? = some (.map es clock) := hbb
  have hrun : (Extern.MapsClone.clone #[.iface t (.map (some b))]).run Tryz.prog w = .ok (.iface t (.map (some w.heap.size))) (w.alloc (.map es clock)) := by
    have e : Extern.MapsClone.clone #[.iface t (.map (some b))] = (getObj b >>= fun o => match o with
      | .map entries clock => (newObj (.map entries clock) >>= fun n => pure (.iface t (.map (some n))))
      | _ => stuck "maps.clone: a map expected") := rfl
    rw [e]
    simp [MapKept.run_getObj_map hb', Result.andThen, newObj, Sem.run]
  have hcall := run_callFunc_extern (P := Tryz.prog) hf hname hb hnx hfd #[.iface t (.map (some b))] w
  rw [hrun, Result.andThen_ok] at hcall
  have hrun2 : (execOp a.eval o).run Tryz.prog w = .ok (.value (.iface t (.map (some w.heap.size)))) (w.alloc (.map es clock)) := by
    simp [execOp, ho, resolve, ha.eval hfv, ha.eval hx, Deferred.ofValue, invoke, hcall]
  refine wpIn_of hrun2 (fun _ e => by cases e) ?_
  exact hK w.heap.size _ ⟨star_mono (fun h hp => ⟨es, clock, hp, hs⟩) (fun _ h => h) (sep_new hw.sep), hw.same.trans (Same.alloc w _)⟩
theorem run_assertT {o : Oper} {x : Operand} {xt t : TypeId} {v : Value} {d : TypeDesc} (ho : o.op = .typeAssert x xt t false) (hx : ev E x = some (.iface t v)) (hd : Tryz.prog.underlying t = some d) (hn : (match d with | .interface _ => false | _ => true) = true) (a : Act) (w : World) (ha : Agree n ds E a) :
    (execOp a.eval o).run Tryz.prog w = .ok (.value v) w := by
  cases d <;> simp at hn <;> simp [execOp, ho, Instr.typeAssert, ha.eval hx, run_underlying hd]
theorem run_strDrop {o : Oper} {x lo : Operand} {t : TypeId} {s b : Nat} {k : IntKind} {l : List UInt8} (i : Nat) (ho : o.op = .slice t x (some lo) none none) (hx : ev E x = some (mkS l)) (hlo : ev E lo = some (.int k (i : Int))) (ht : tab t = some ⟨.string, s, b⟩) (hi : i ≤ l.length) (a : Act) (w : World) (ha : Agree n ds E a) :
    (execOp a.eval o).run Tryz.prog w = .ok (.value (mkS (l.drop i))) w := by
  have hsz : (strB l).size = l.length := by simp [strB, ByteArray.size]
  have h := run_slice_string_l (P := Tryz.prog) w t (strB l) (tab_ok.string ht) k (i : Int) (by omega) (by omega)
  have e : (strB l).extract (i : Int).toNat (strB l).size = strB (l.drop i) := by
    apply ByteArray.ext
    rw [ByteArray.data_extract, hsz]
    show l.toArray.extract i l.length = (l.drop i).toArray
    apply Array.ext'
    simp only [List.extract_toArray, List.extract_eq_drop_take', Int.toNat_natCast]
    first | rfl | (rw [List.take_of_length_le (by simp)])
  rw [e] at h
  simp [execOp, ho, Instr.sliceAt, ha.eval hx, ha.eval hlo, run_underlying (tab_ok.string ht), mkS, h]
theorem run_strIdx {o : Oper} {x ix : Operand} {t : TypeId} {s b : Nat} {k : IntKind} {l : List UInt8} (i : Nat) (ho : o.op = .index t x ix) (hx : ev E x = some (mkS l)) (hi : ev E ix = some (.int k (i : Int))) (ht : tab t = some ⟨.string, s, b⟩) (hlt : i < l.length) (a : Act) (w : World) (ha : Agree n ds E a) :
    (execOp a.eval o).run Tryz.prog w = .ok (.value (bval l[i])) w := by
  have hsz : (strB l).size = l.length := by simp [strB, ByteArray.size]
  have h := run_index_string (P := Tryz.prog) w t (strB l) k (i : Int) (tab_ok.string ht)
  rw [dif_pos (show (0 : Int) ≤ i ∧ (i : Int) < (strB l).size by omega)] at h
  have e : (strB l)[(i : Int).toNat]'(by rw [hsz]; exact hlt) = l[i] := by
    show (strB l).data[i]'_ = _
    simp [strB]
  simp only [e] at h
  simp [execOp, ho, ha.eval hx, ha.eval hi, mkS, h, bval]
/-- the bytes of a string, anew. -/
theorem Ef.strBytes {o : Oper} {s d e : TypeId} {x : Operand} {ts tb b1 ss sb : Nat} {l : List UInt8} (ho : o.op = .convert s d x) (hx : ev E x = some (mkS l)) (hs : tab s = some ⟨.string, ss, sb⟩) (hd : tab d = some ⟨.slice e, ts, tb⟩) (he : tab e = some ⟨.int .u8, 1, b1⟩) :
    Ef Tryz.prog n ds w0 E G o (X := {r : Option Addr × Nat // r.1.isSome = true ∧ l.length ≤ r.2}) (fun r => .slice r.1.1 l.length r.1.2) (fun r => BIn r.1.1 l :: G) := fun a w ha hw C R hK => by
  have hsz : (strB l).size = l.length := by simp [strB, ByteArray.size]
  have hconv := Lib.run_convert_string_bytes (P := Tryz.prog) w s d e (strB l) (tab_ok.string hs) (tab_ok.slice hd) (tab_ok.int he)
  rw [hsz] at hconv
  have hrun : (execOp a.eval o).run Tryz.prog w = .ok (.value (.slice (some ⟨w.heap.size, 0, none⟩) l.length (grownCap w l.length 0 e))) (Lib.bytesWorld w e (strB l)) := by
    simp [execOp, ho, ha.eval hx, mkS, hconv]
  refine wpIn_of hrun (fun _ e => by cases e) ?_
  have hgc : l.length ≤ grownCap w l.length 0 e := by simpa using grownCap_ge w l.length 0 e
  refine hK ⟨(some ⟨w.heap.size, 0, none⟩, grownCap w l.length 0 e), rfl, hgc⟩ _ ⟨?_, hw.same.trans ⟨rfl, rfl, rfl, ?_⟩⟩
  · have hs0 : sep ((fun _ => True) :: G) (hpart w) := sep_pure (fun _ => trivial) hw.sep
    refine sep_grow (A := fun _ => True) (B := BIn (some ⟨w.heap.size, 0, none⟩) l) (b := w.heap.size) (o' := .cells (Lib.bytesCells w e (strB l)) e ((Lib.bytesCells w e (strB l)).size, (Lib.bytesCells w e (strB l)).size + 1)) hs0 (fun k hk => Lib.bytesWorld_at_old w e (strB l) k hk) (Nat.le_refl _) (Lib.bytesWorld_at_new w e (strB l)) ?_
    refine ⟨by rw [bytesV_length, Nat.mul_one], .inr ⟨w.heap.size, 0, rfl, _, e, _, if_pos rfl, fun j v hj => ?_⟩⟩
    have hlt : j < (bytesV l).length := (List.getElem?_eq_some_iff.1 hj).1
    rw [bytesV_length] at hlt
    simp only [Lib.bytesCells, Nat.zero_add]
    rw [Array.getElem?_append_left (by simp [strB, hlt])]
    simp only [bytesV, List.getElem?_map, List.getElem?_eq_getElem hlt, Option.map_some, Option.some.injEq] at hj
    simp [strB, hlt, ← hj, bval]
  · rw [Lib.bytesWorld_size]; omega
end
end Go.Ent
