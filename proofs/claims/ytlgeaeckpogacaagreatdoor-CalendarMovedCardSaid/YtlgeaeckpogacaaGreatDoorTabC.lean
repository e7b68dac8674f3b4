/-
  The types and functions of the program as the interpreter has them, checked against the program: printed by a program of this session.
-/
import Derived.Test.YtlgeaeckpogacaaGreatDoorDd
import Derived.KernelRfl
import Derived.Test.YtlgeaeckpogacaaGreatDoorProg
namespace DG
open Go
set_option maxRecDepth 100000
noncomputable def tyT255 : Tree (Option TI) := Tree.node Tree.leaf (some { k := TK.ptr 180, size := 1, bytes := 8, zero := [DV.nilptr], eqc := false }) Tree.leaf
noncomputable def tyT383 : Tree (Option TI) := Tree.node Tree.leaf (some { k := TK.func, size := 1, bytes := 8, zero := [DV.nilfunc], eqc := false }) Tree.leaf
noncomputable def tyT127 : Tree (Option TI) := Tree.node tyT255 (some { k := TK.func, size := 1, bytes := 8, zero := [DV.nilfunc], eqc := false }) tyT383
noncomputable def tyT319 : Tree (Option TI) := Tree.node Tree.leaf (some { k := TK.ptr 3, size := 1, bytes := 8, zero := [DV.nilptr], eqc := false }) Tree.leaf
noncomputable def tyT191 : Tree (Option TI) := Tree.node tyT319 (some { k := TK.func, size := 1, bytes := 8, zero := [DV.nilfunc], eqc := false }) Tree.leaf
noncomputable def tyT63 : Tree (Option TI) := Tree.node tyT127 (some { k := TK.struct [(0, 3), (1, 3), (2, 3), (3, 62), (6, 62)], size := 9, bytes := 72, zero := [DV.int IntKind.i64 (0), DV.int IntKind.i64 (0), DV.int IntKind.i64 (0), DV.int IntKind.i64 (0), DV.int IntKind.i64 (0), DV.int IntKind.i64 (0), DV.int IntKind.i64 (0), DV.int IntKind.i64 (0), DV.int IntKind.i64 (0)], eqc := false }) tyT191
noncomputable def tyT287 : Tree (Option TI) := Tree.node Tree.leaf (some { k := TK.func, size := 1, bytes := 8, zero := [DV.nilfunc], eqc := false }) Tree.leaf
noncomputable def tyT415 : Tree (Option TI) := Tree.node Tree.leaf (some { k := TK.array 0 16, size := 0, bytes := 0, zero := [], eqc := false }) Tree.leaf
noncomputable def tyT159 : Tree (Option TI) := Tree.node tyT287 (some { k := TK.func, size := 1, bytes := 8, zero := [DV.nilfunc], eqc := false }) tyT415
noncomputable def tyT351 : Tree (Option TI) := Tree.node Tree.leaf (some { k := TK.func, size := 1, bytes := 8, zero := [DV.nilfunc], eqc := false }) Tree.leaf
noncomputable def tyT223 : Tree (Option TI) := Tree.node tyT351 (some { k := TK.array 4 146, size := 4, bytes := 32, zero := [DV.nilfunc, DV.nilfunc, DV.nilfunc, DV.nilfunc], eqc := false }) Tree.leaf
noncomputable def tyT95 : Tree (Option TI) := Tree.node tyT159 (some { k := TK.func, size := 1, bytes := 8, zero := [DV.nilfunc], eqc := false }) tyT223
noncomputable def tyT31 : Tree (Option TI) := Tree.node tyT63 (some { k := TK.slice 60, size := 1, bytes := 24, zero := [DV.nsl], eqc := false }) tyT95
noncomputable def tyT271 : Tree (Option TI) := Tree.node Tree.leaf (some { k := TK.func, size := 1, bytes := 8, zero := [DV.nilfunc], eqc := false }) Tree.leaf
noncomputable def tyT399 : Tree (Option TI) := Tree.node Tree.leaf (some { k := TK.func, size := 1, bytes := 8, zero := [DV.nilfunc], eqc := false }) Tree.leaf
noncomputable def tyT143 : Tree (Option TI) := Tree.node tyT271 (some { k := TK.func, size := 1, bytes := 8, zero := [DV.nilfunc], eqc := false }) tyT399
noncomputable def tyT335 : Tree (Option TI) := Tree.node Tree.leaf (some { k := TK.func, size := 1, bytes := 8, zero := [DV.nilfunc], eqc := false }) Tree.leaf
noncomputable def tyT207 : Tree (Option TI) := Tree.node tyT335 (some { k := TK.struct [(0, 34), (15, 35), (16, 36)], size := 17, bytes := 336, zero := [DV.str ⟨⟨[]⟩⟩, DV.nsl, DV.nsl, DV.nsl, DV.nsl, DV.nsl, DV.nsl, DV.nsl, DV.int IntKind.i64 (0), DV.int IntKind.i64 (0), DV.int IntKind.i64 (0), DV.int IntKind.i64 (0), DV.nsl, DV.nsl, DV.nsl, DV.nsl, DV.nsl], eqc := false }) Tree.leaf
noncomputable def tyT79 : Tree (Option TI) := Tree.node tyT143 (some { k := TK.func, size := 1, bytes := 8, zero := [DV.nilfunc], eqc := false }) tyT207
noncomputable def tyT303 : Tree (Option TI) := Tree.node Tree.leaf (some { k := TK.func, size := 1, bytes := 8, zero := [DV.nilfunc], eqc := false }) Tree.leaf
noncomputable def tyT175 : Tree (Option TI) := Tree.node tyT303 (some { k := TK.array 11 154, size := 22, bytes := 176, zero := [DV.int IntKind.i64 (0), DV.int IntKind.i64 (0), DV.int IntKind.i64 (0), DV.int IntKind.i64 (0), DV.int IntKind.i64 (0), DV.int IntKind.i64 (0), DV.int IntKind.i64 (0), DV.int IntKind.i64 (0), DV.int IntKind.i64 (0), DV.int IntKind.i64 (0), DV.int IntKind.i64 (0), DV.int IntKind.i64 (0), DV.int IntKind.i64 (0), DV.int IntKind.i64 (0), DV.int IntKind.i64 (0), DV.int IntKind.i64 (0), DV.int IntKind.i64 (0), DV.int IntKind.i64 (0), DV.int IntKind.i64 (0), DV.int IntKind.i64 (0), DV.int IntKind.i64 (0), DV.int IntKind.i64 (0)], eqc := false }) Tree.leaf
noncomputable def tyT367 : Tree (Option TI) := Tree.node Tree.leaf (some { k := TK.func, size := 1, bytes := 8, zero := [DV.nilfunc], eqc := false }) Tree.leaf
noncomputable def tyT239 : Tree (Option TI) := Tree.node tyT367 (some { k := TK.func, size := 1, bytes := 8, zero := [DV.nilfunc], eqc := false }) Tree.leaf
noncomputable def tyT111 : Tree (Option TI) := Tree.node tyT175 none tyT239
noncomputable def tyT47 : Tree (Option TI) := Tree.node tyT79 (some { k := TK.func, size := 1, bytes := 8, zero := [DV.nilfunc], eqc := false }) tyT111
noncomputable def tyT15 : Tree (Option TI) := Tree.node tyT31 (some { k := TK.ptr 414, size := 1, bytes := 8, zero := [DV.nilptr], eqc := false }) tyT47
noncomputable def tyT263 : Tree (Option TI) := Tree.node Tree.leaf (some { k := TK.func, size := 1, bytes := 8, zero := [DV.nilfunc], eqc := false }) Tree.leaf
noncomputable def tyT391 : Tree (Option TI) := Tree.node Tree.leaf (some { k := TK.func, size := 1, bytes := 8, zero := [DV.nilfunc], eqc := false }) Tree.leaf
noncomputable def tyT135 : Tree (Option TI) := Tree.node tyT263 none tyT391
noncomputable def tyT327 : Tree (Option TI) := Tree.node Tree.leaf (some { k := TK.func, size := 1, bytes := 8, zero := [DV.nilfunc], eqc := false }) Tree.leaf
noncomputable def tyT199 : Tree (Option TI) := Tree.node tyT327 (some { k := TK.struct [(0, 3), (1, 62), (4, 62)], size := 7, bytes := 56, zero := [DV.int IntKind.i64 (0), DV.int IntKind.i64 (0), DV.int IntKind.i64 (0), DV.int IntKind.i64 (0), DV.int IntKind.i64 (0), DV.int IntKind.i64 (0), DV.int IntKind.i64 (0)], eqc := false }) Tree.leaf
noncomputable def tyT71 : Tree (Option TI) := Tree.node tyT135 (some { k := TK.func, size := 1, bytes := 8, zero := [DV.nilfunc], eqc := false }) tyT199
noncomputable def tyT295 : Tree (Option TI) := Tree.node Tree.leaf (some { k := TK.func, size := 1, bytes := 8, zero := [DV.nilfunc], eqc := false }) Tree.leaf
noncomputable def tyT423 : Tree (Option TI) := Tree.node Tree.leaf (some { k := TK.int IntKind.i32, size := 1, bytes := 4, zero := [DV.int IntKind.i32 (0)], eqc := false }) Tree.leaf
noncomputable def tyT167 : Tree (Option TI) := Tree.node tyT295 (some { k := TK.func, size := 1, bytes := 8, zero := [DV.nilfunc], eqc := false }) tyT423
noncomputable def tyT359 : Tree (Option TI) := Tree.node Tree.leaf (some { k := TK.func, size := 1, bytes := 8, zero := [DV.nilfunc], eqc := false }) Tree.leaf
noncomputable def tyT231 : Tree (Option TI) := Tree.node tyT359 (some { k := TK.slice 186, size := 1, bytes := 24, zero := [DV.nsl], eqc := false }) Tree.leaf
noncomputable def tyT103 : Tree (Option TI) := Tree.node tyT167 (some { k := TK.struct [(0, 9), (1, 101), (4, 101), (7, 102)], size := 14, bytes := 72, zero := [DV.str ⟨⟨[]⟩⟩, DV.int IntKind.i64 (0), DV.int IntKind.i64 (0), DV.int IntKind.i64 (0), DV.int IntKind.i64 (0), DV.int IntKind.i64 (0), DV.int IntKind.i64 (0), DV.bool false, DV.bool false, DV.bool false, DV.bool false, DV.bool false, DV.bool false, DV.bool false], eqc := false }) tyT231
noncomputable def tyT39 : Tree (Option TI) := Tree.node tyT71 (some { k := TK.func, size := 1, bytes := 8, zero := [DV.nilfunc], eqc := false }) tyT103
noncomputable def tyT279 : Tree (Option TI) := Tree.node Tree.leaf (some { k := TK.func, size := 1, bytes := 8, zero := [DV.nilfunc], eqc := false }) Tree.leaf
noncomputable def tyT407 : Tree (Option TI) := Tree.node Tree.leaf (some { k := TK.func, size := 1, bytes := 8, zero := [DV.nilfunc], eqc := false }) Tree.leaf
noncomputable def tyT151 : Tree (Option TI) := Tree.node tyT279 (some { k := TK.slice 154, size := 1, bytes := 24, zero := [DV.nsl], eqc := false }) tyT407
noncomputable def tyT343 : Tree (Option TI) := Tree.node Tree.leaf (some { k := TK.func, size := 1, bytes := 8, zero := [DV.nilfunc], eqc := false }) Tree.leaf
noncomputable def tyT215 : Tree (Option TI) := Tree.node tyT343 (some { k := TK.slice 62, size := 1, bytes := 24, zero := [DV.nsl], eqc := false }) Tree.leaf
noncomputable def tyT87 : Tree (Option TI) := Tree.node tyT151 (some { k := TK.func, size := 1, bytes := 8, zero := [DV.nilfunc], eqc := false }) tyT215
noncomputable def tyT311 : Tree (Option TI) := Tree.node Tree.leaf (some { k := TK.func, size := 1, bytes := 8, zero := [DV.nilfunc], eqc := false }) Tree.leaf
noncomputable def tyT183 : Tree (Option TI) := Tree.node tyT311 (some { k := TK.int IntKind.u64, size := 1, bytes := 8, zero := [DV.int IntKind.u64 (0)], eqc := false }) Tree.leaf
noncomputable def tyT375 : Tree (Option TI) := Tree.node Tree.leaf (some { k := TK.func, size := 1, bytes := 8, zero := [DV.nilfunc], eqc := false }) Tree.leaf
noncomputable def tyT247 : Tree (Option TI) := Tree.node tyT375 (some { k := TK.func, size := 1, bytes := 8, zero := [DV.nilfunc], eqc := false }) Tree.leaf
noncomputable def tyT119 : Tree (Option TI) := Tree.node tyT183 (some { k := TK.struct [(0, 9), (1, 3), (2, 57), (4, 57), (6, 3), (7, 101), (10, 101), (13, 102), (20, 3)], size := 21, bytes := 144, zero := [DV.str ⟨⟨[]⟩⟩, DV.int IntKind.i64 (0), DV.str ⟨⟨[]⟩⟩, DV.int IntKind.i64 (0), DV.str ⟨⟨[]⟩⟩, DV.int IntKind.i64 (0), DV.int IntKind.i64 (0), DV.int IntKind.i64 (0), DV.int IntKind.i64 (0), DV.int IntKind.i64 (0), DV.int IntKind.i64 (0), DV.int IntKind.i64 (0), DV.int IntKind.i64 (0), DV.bool false, DV.bool false, DV.bool false, DV.bool false, DV.bool false, DV.bool false, DV.bool false, DV.int IntKind.i64 (0)], eqc := false }) tyT247
noncomputable def tyT55 : Tree (Option TI) := Tree.node tyT87 (some { k := TK.func, size := 1, bytes := 8, zero := [DV.nilfunc], eqc := false }) tyT119
noncomputable def tyT23 : Tree (Option TI) := Tree.node tyT39 (some { k := TK.slice 170, size := 1, bytes := 24, zero := [DV.nsl], eqc := false }) tyT55
noncomputable def tyT7 : Tree (Option TI) := Tree.node tyT15 (some { k := TK.struct [(0, 2), (1, 3), (2, 4), (3, 6)], size := 4, bytes := 24, zero := [DV.int IntKind.i64 (0), DV.int IntKind.i64 (0), DV.bool false, DV.int IntKind.u8 (0)], eqc := false }) tyT23
noncomputable def tyT259 : Tree (Option TI) := Tree.node Tree.leaf (some { k := TK.func, size := 1, bytes := 8, zero := [DV.nilfunc], eqc := false }) Tree.leaf
noncomputable def tyT387 : Tree (Option TI) := Tree.node Tree.leaf (some { k := TK.func, size := 1, bytes := 8, zero := [DV.nilfunc], eqc := false }) Tree.leaf
noncomputable def tyT131 : Tree (Option TI) := Tree.node tyT259 (some { k := TK.func, size := 1, bytes := 8, zero := [DV.nilfunc], eqc := false }) tyT387
noncomputable def tyT323 : Tree (Option TI) := Tree.node Tree.leaf none Tree.leaf
noncomputable def tyT195 : Tree (Option TI) := Tree.node tyT323 (some { k := TK.func, size := 1, bytes := 8, zero := [DV.nilfunc], eqc := false }) Tree.leaf
noncomputable def tyT67 : Tree (Option TI) := Tree.node tyT131 none tyT195
noncomputable def tyT291 : Tree (Option TI) := Tree.node Tree.leaf (some { k := TK.array 4 4, size := 4, bytes := 4, zero := [DV.bool false, DV.bool false, DV.bool false, DV.bool false], eqc := false }) Tree.leaf
noncomputable def tyT419 : Tree (Option TI) := Tree.node Tree.leaf (some { k := TK.int IntKind.u8, size := 1, bytes := 1, zero := [DV.int IntKind.u8 (0)], eqc := false }) Tree.leaf
noncomputable def tyT163 : Tree (Option TI) := Tree.node tyT291 (some { k := TK.ptr 34, size := 1, bytes := 8, zero := [DV.nilptr], eqc := false }) tyT419
noncomputable def tyT355 : Tree (Option TI) := Tree.node Tree.leaf (some { k := TK.func, size := 1, bytes := 8, zero := [DV.nilfunc], eqc := false }) Tree.leaf
noncomputable def tyT227 : Tree (Option TI) := Tree.node tyT355 (some { k := TK.func, size := 1, bytes := 8, zero := [DV.nilfunc], eqc := false }) Tree.leaf
noncomputable def tyT99 : Tree (Option TI) := Tree.node tyT163 (some { k := TK.func, size := 1, bytes := 8, zero := [DV.nilfunc], eqc := false }) tyT227
noncomputable def tyT35 : Tree (Option TI) := Tree.node tyT67 (some { k := TK.slice 64, size := 1, bytes := 24, zero := [DV.nsl], eqc := false }) tyT99
noncomputable def tyT275 : Tree (Option TI) := Tree.node Tree.leaf (some { k := TK.struct [(0, 3), (1, 3), (2, 3)], size := 3, bytes := 24, zero := [DV.int IntKind.i64 (0), DV.int IntKind.i64 (0), DV.int IntKind.i64 (0)], eqc := false }) Tree.leaf
noncomputable def tyT403 : Tree (Option TI) := Tree.node Tree.leaf (some { k := TK.func, size := 1, bytes := 8, zero := [DV.nilfunc], eqc := false }) Tree.leaf
noncomputable def tyT147 : Tree (Option TI) := Tree.node tyT275 (some { k := TK.ptr 223, size := 1, bytes := 8, zero := [DV.nilptr], eqc := false }) tyT403
noncomputable def tyT339 : Tree (Option TI) := Tree.node Tree.leaf (some { k := TK.func, size := 1, bytes := 8, zero := [DV.nilfunc], eqc := false }) Tree.leaf
noncomputable def tyT211 : Tree (Option TI) := Tree.node tyT339 (some { k := TK.func, size := 1, bytes := 8, zero := [DV.nilfunc], eqc := false }) Tree.leaf
noncomputable def tyT83 : Tree (Option TI) := Tree.node tyT147 (some { k := TK.func, size := 1, bytes := 8, zero := [DV.nilfunc], eqc := false }) tyT211
noncomputable def tyT307 : Tree (Option TI) := Tree.node Tree.leaf (some { k := TK.func, size := 1, bytes := 8, zero := [DV.nilfunc], eqc := false }) Tree.leaf
noncomputable def tyT179 : Tree (Option TI) := Tree.node tyT307 (some { k := TK.array 8 178, size := 8, bytes := 32, zero := [DV.int IntKind.u32 (0), DV.int IntKind.u32 (0), DV.int IntKind.u32 (0), DV.int IntKind.u32 (0), DV.int IntKind.u32 (0), DV.int IntKind.u32 (0), DV.int IntKind.u32 (0), DV.int IntKind.u32 (0)], eqc := false }) Tree.leaf
noncomputable def tyT371 : Tree (Option TI) := Tree.node Tree.leaf (some { k := TK.func, size := 1, bytes := 8, zero := [DV.nilfunc], eqc := false }) Tree.leaf
noncomputable def tyT243 : Tree (Option TI) := Tree.node tyT371 (some { k := TK.func, size := 1, bytes := 8, zero := [DV.nilfunc], eqc := false }) Tree.leaf
noncomputable def tyT115 : Tree (Option TI) := Tree.node tyT179 (some { k := TK.struct [(0, 34), (15, 114)], size := 22, bytes := 344, zero := [DV.str ⟨⟨[]⟩⟩, DV.nsl, DV.nsl, DV.nsl, DV.nsl, DV.nsl, DV.nsl, DV.nsl, DV.int IntKind.i64 (0), DV.int IntKind.i64 (0), DV.int IntKind.i64 (0), DV.int IntKind.i64 (0), DV.nsl, DV.nsl, DV.nsl, DV.nilfunc, DV.nilfunc, DV.nilfunc, DV.nilfunc, DV.nilfunc, DV.nilfunc, DV.nilfunc], eqc := false }) tyT243
noncomputable def tyT51 : Tree (Option TI) := Tree.node tyT83 (some { k := TK.func, size := 1, bytes := 8, zero := [DV.nilfunc], eqc := false }) tyT115
noncomputable def tyT19 : Tree (Option TI) := Tree.node tyT35 (some { k := TK.struct [(0, 17)], size := 1, bytes := 8, zero := [DV.nilptr], eqc := false }) tyT51
noncomputable def tyT267 : Tree (Option TI) := Tree.node Tree.leaf (some { k := TK.func, size := 1, bytes := 8, zero := [DV.nilfunc], eqc := false }) Tree.leaf
noncomputable def tyT395 : Tree (Option TI) := Tree.node Tree.leaf (some { k := TK.func, size := 1, bytes := 8, zero := [DV.nilfunc], eqc := false }) Tree.leaf
noncomputable def tyT139 : Tree (Option TI) := Tree.node tyT267 (some { k := TK.struct [(0, 9), (1, 57), (3, 3), (4, 3), (5, 3), (6, 3)], size := 7, bytes := 72, zero := [DV.str ⟨⟨[]⟩⟩, DV.str ⟨⟨[]⟩⟩, DV.int IntKind.i64 (0), DV.int IntKind.i64 (0), DV.int IntKind.i64 (0), DV.int IntKind.i64 (0), DV.int IntKind.i64 (0)], eqc := false }) tyT395
noncomputable def tyT331 : Tree (Option TI) := Tree.node Tree.leaf (some { k := TK.func, size := 1, bytes := 8, zero := [DV.nilfunc], eqc := false }) Tree.leaf
noncomputable def tyT203 : Tree (Option TI) := Tree.node tyT331 none Tree.leaf
noncomputable def tyT75 : Tree (Option TI) := Tree.node tyT139 (some { k := TK.func, size := 1, bytes := 8, zero := [DV.nilfunc], eqc := false }) tyT203
noncomputable def tyT299 : Tree (Option TI) := Tree.node Tree.leaf (some { k := TK.func, size := 1, bytes := 8, zero := [DV.nilfunc], eqc := false }) Tree.leaf
noncomputable def tyT427 : Tree (Option TI) := Tree.node Tree.leaf (some { k := TK.other, size := 1, bytes := 8, zero := [DV.nilptr], eqc := false }) Tree.leaf
noncomputable def tyT171 : Tree (Option TI) := Tree.node tyT299 (some { k := TK.struct [(0, 57), (2, 3)], size := 3, bytes := 32, zero := [DV.str ⟨⟨[]⟩⟩, DV.int IntKind.i64 (0), DV.int IntKind.i64 (0)], eqc := false }) tyT427
noncomputable def tyT363 : Tree (Option TI) := Tree.node Tree.leaf (some { k := TK.func, size := 1, bytes := 8, zero := [DV.nilfunc], eqc := false }) Tree.leaf
noncomputable def tyT235 : Tree (Option TI) := Tree.node tyT363 (some { k := TK.slice 236, size := 1, bytes := 24, zero := [DV.nsl], eqc := false }) Tree.leaf
noncomputable def tyT107 : Tree (Option TI) := Tree.node tyT171 (some { k := TK.func, size := 1, bytes := 8, zero := [DV.nilfunc], eqc := false }) tyT235
noncomputable def tyT43 : Tree (Option TI) := Tree.node tyT75 (some { k := TK.func, size := 1, bytes := 8, zero := [DV.nilfunc], eqc := false }) tyT107
noncomputable def tyT283 : Tree (Option TI) := Tree.node Tree.leaf (some { k := TK.func, size := 1, bytes := 8, zero := [DV.nilfunc], eqc := false }) Tree.leaf
noncomputable def tyT411 : Tree (Option TI) := Tree.node Tree.leaf (some { k := TK.func, size := 1, bytes := 8, zero := [DV.nilfunc], eqc := false }) Tree.leaf
noncomputable def tyT155 : Tree (Option TI) := Tree.node tyT283 (some { k := TK.func, size := 1, bytes := 8, zero := [DV.nilfunc], eqc := false }) tyT411
noncomputable def tyT347 : Tree (Option TI) := Tree.node Tree.leaf (some { k := TK.func, size := 1, bytes := 8, zero := [DV.nilfunc], eqc := false }) Tree.leaf
noncomputable def tyT219 : Tree (Option TI) := Tree.node tyT347 (some { k := TK.func, size := 1, bytes := 8, zero := [DV.nilfunc], eqc := false }) Tree.leaf
noncomputable def tyT91 : Tree (Option TI) := Tree.node tyT155 (some { k := TK.func, size := 1, bytes := 8, zero := [DV.nilfunc], eqc := false }) tyT219
noncomputable def tyT315 : Tree (Option TI) := Tree.node Tree.leaf (some { k := TK.int IntKind.u64, size := 1, bytes := 8, zero := [DV.int IntKind.u64 (0)], eqc := false }) Tree.leaf
noncomputable def tyT187 : Tree (Option TI) := Tree.node tyT315 (some { k := TK.struct [(0, 186), (1, 186), (2, 186), (3, 186), (4, 186), (5, 186), (6, 186)], size := 7, bytes := 168, zero := [DV.nsl, DV.nsl, DV.nsl, DV.nsl, DV.nsl, DV.nsl, DV.nsl], eqc := false }) Tree.leaf
noncomputable def tyT379 : Tree (Option TI) := Tree.node Tree.leaf (some { k := TK.func, size := 1, bytes := 8, zero := [DV.nilfunc], eqc := false }) Tree.leaf
noncomputable def tyT251 : Tree (Option TI) := Tree.node tyT379 (some { k := TK.func, size := 1, bytes := 8, zero := [DV.nilfunc], eqc := false }) Tree.leaf
noncomputable def tyT123 : Tree (Option TI) := Tree.node tyT187 (some { k := TK.func, size := 1, bytes := 8, zero := [DV.nilfunc], eqc := false }) tyT251
noncomputable def tyT59 : Tree (Option TI) := Tree.node tyT91 (some { k := TK.struct [(0, 9), (1, 3), (2, 57), (4, 58), (5, 57), (7, 30), (8, 57), (10, 57), (12, 3), (13, 3)], size := 14, bytes := 184, zero := [DV.str ⟨⟨[]⟩⟩, DV.int IntKind.i64 (0), DV.str ⟨⟨[]⟩⟩, DV.int IntKind.i64 (0), DV.nsl, DV.str ⟨⟨[]⟩⟩, DV.int IntKind.i64 (0), DV.nsl, DV.str ⟨⟨[]⟩⟩, DV.int IntKind.i64 (0), DV.str ⟨⟨[]⟩⟩, DV.int IntKind.i64 (0), DV.int IntKind.i64 (0), DV.int IntKind.i64 (0)], eqc := false }) tyT123
noncomputable def tyT27 : Tree (Option TI) := Tree.node tyT43 (some { k := TK.slice 104, size := 1, bytes := 24, zero := [DV.nsl], eqc := false }) tyT59
noncomputable def tyT11 : Tree (Option TI) := Tree.node tyT19 (some { k := TK.string, size := 1, bytes := 16, zero := [DV.str ⟨⟨[]⟩⟩], eqc := false }) tyT27
noncomputable def tyT3 : Tree (Option TI) := Tree.node tyT7 (some { k := TK.int IntKind.i64, size := 1, bytes := 8, zero := [DV.int IntKind.i64 (0)], eqc := false }) tyT11
noncomputable def tyT257 : Tree (Option TI) := Tree.node Tree.leaf (some { k := TK.func, size := 1, bytes := 8, zero := [DV.nilfunc], eqc := false }) Tree.leaf
noncomputable def tyT385 : Tree (Option TI) := Tree.node Tree.leaf (some { k := TK.func, size := 1, bytes := 8, zero := [DV.nilfunc], eqc := false }) Tree.leaf
noncomputable def tyT129 : Tree (Option TI) := Tree.node tyT257 none tyT385
noncomputable def tyT321 : Tree (Option TI) := Tree.node Tree.leaf (some { k := TK.struct [(0, 3), (1, 3)], size := 2, bytes := 16, zero := [DV.int IntKind.i64 (0), DV.int IntKind.i64 (0)], eqc := false }) Tree.leaf
noncomputable def tyT193 : Tree (Option TI) := Tree.node tyT321 (some { k := TK.func, size := 1, bytes := 8, zero := [DV.nilfunc], eqc := false }) Tree.leaf
noncomputable def tyT65 : Tree (Option TI) := Tree.node tyT129 (some { k := TK.func, size := 1, bytes := 8, zero := [DV.nilfunc], eqc := false }) tyT193
noncomputable def tyT289 : Tree (Option TI) := Tree.node Tree.leaf (some { k := TK.func, size := 1, bytes := 8, zero := [DV.nilfunc], eqc := false }) Tree.leaf
noncomputable def tyT417 : Tree (Option TI) := Tree.node Tree.leaf (some { k := TK.struct [(0, 415)], size := 0, bytes := 0, zero := [], eqc := false }) Tree.leaf
noncomputable def tyT161 : Tree (Option TI) := Tree.node tyT289 (some { k := TK.func, size := 1, bytes := 8, zero := [DV.nilfunc], eqc := false }) tyT417
noncomputable def tyT353 : Tree (Option TI) := Tree.node Tree.leaf (some { k := TK.func, size := 1, bytes := 8, zero := [DV.nilfunc], eqc := false }) Tree.leaf
noncomputable def tyT225 : Tree (Option TI) := Tree.node tyT353 (some { k := TK.func, size := 1, bytes := 8, zero := [DV.nilfunc], eqc := false }) Tree.leaf
noncomputable def tyT97 : Tree (Option TI) := Tree.node tyT161 none tyT225
noncomputable def tyT33 : Tree (Option TI) := Tree.node tyT65 (some { k := TK.struct [(0, 9), (1, 22), (2, 23), (3, 24), (4, 25), (5, 26), (6, 27), (7, 28), (8, 3), (9, 29), (12, 30), (13, 31), (14, 32)], size := 15, bytes := 288, zero := [DV.str ⟨⟨[]⟩⟩, DV.nsl, DV.nsl, DV.nsl, DV.nsl, DV.nsl, DV.nsl, DV.nsl, DV.int IntKind.i64 (0), DV.int IntKind.i64 (0), DV.int IntKind.i64 (0), DV.int IntKind.i64 (0), DV.nsl, DV.nsl, DV.nsl], eqc := false }) tyT97
noncomputable def tyT273 : Tree (Option TI) := Tree.node Tree.leaf none Tree.leaf
noncomputable def tyT401 : Tree (Option TI) := Tree.node Tree.leaf (some { k := TK.func, size := 1, bytes := 8, zero := [DV.nilfunc], eqc := false }) Tree.leaf
noncomputable def tyT145 : Tree (Option TI) := Tree.node tyT273 (some { k := TK.struct [(0, 144)], size := 1, bytes := 8, zero := [DV.nilfunc], eqc := false }) tyT401
noncomputable def tyT337 : Tree (Option TI) := Tree.node Tree.leaf (some { k := TK.func, size := 1, bytes := 8, zero := [DV.nilfunc], eqc := false }) Tree.leaf
noncomputable def tyT209 : Tree (Option TI) := Tree.node tyT337 (some { k := TK.func, size := 1, bytes := 8, zero := [DV.nilfunc], eqc := false }) Tree.leaf
noncomputable def tyT81 : Tree (Option TI) := Tree.node tyT145 (some { k := TK.func, size := 1, bytes := 8, zero := [DV.nilfunc], eqc := false }) tyT209
noncomputable def tyT305 : Tree (Option TI) := Tree.node Tree.leaf (some { k := TK.func, size := 1, bytes := 8, zero := [DV.nilfunc], eqc := false }) Tree.leaf
noncomputable def tyT177 : Tree (Option TI) := Tree.node tyT305 (some { k := TK.func, size := 1, bytes := 8, zero := [DV.nilfunc], eqc := false }) Tree.leaf
noncomputable def tyT369 : Tree (Option TI) := Tree.node Tree.leaf (some { k := TK.func, size := 1, bytes := 8, zero := [DV.nilfunc], eqc := false }) Tree.leaf
noncomputable def tyT241 : Tree (Option TI) := Tree.node tyT369 (some { k := TK.func, size := 1, bytes := 8, zero := [DV.nilfunc], eqc := false }) Tree.leaf
noncomputable def tyT113 : Tree (Option TI) := Tree.node tyT177 (some { k := TK.func, size := 1, bytes := 8, zero := [DV.nilfunc], eqc := false }) tyT241
noncomputable def tyT49 : Tree (Option TI) := Tree.node tyT81 (some { k := TK.array 32 5, size := 32, bytes := 32, zero := [DV.int IntKind.u8 (0), DV.int IntKind.u8 (0), DV.int IntKind.u8 (0), DV.int IntKind.u8 (0), DV.int IntKind.u8 (0), DV.int IntKind.u8 (0), DV.int IntKind.u8 (0), DV.int IntKind.u8 (0), DV.int IntKind.u8 (0), DV.int IntKind.u8 (0), DV.int IntKind.u8 (0), DV.int IntKind.u8 (0), DV.int IntKind.u8 (0), DV.int IntKind.u8 (0), DV.int IntKind.u8 (0), DV.int IntKind.u8 (0), DV.int IntKind.u8 (0), DV.int IntKind.u8 (0), DV.int IntKind.u8 (0), DV.int IntKind.u8 (0), DV.int IntKind.u8 (0), DV.int IntKind.u8 (0), DV.int IntKind.u8 (0), DV.int IntKind.u8 (0), DV.int IntKind.u8 (0), DV.int IntKind.u8 (0), DV.int IntKind.u8 (0), DV.int IntKind.u8 (0), DV.int IntKind.u8 (0), DV.int IntKind.u8 (0), DV.int IntKind.u8 (0), DV.int IntKind.u8 (0)], eqc := true }) tyT113
noncomputable def tyT17 : Tree (Option TI) := Tree.node tyT33 (some { k := TK.ptr 426, size := 1, bytes := 8, zero := [DV.nilptr], eqc := false }) tyT49
noncomputable def tyT265 : Tree (Option TI) := Tree.node Tree.leaf none Tree.leaf
noncomputable def tyT393 : Tree (Option TI) := Tree.node Tree.leaf (some { k := TK.func, size := 1, bytes := 8, zero := [DV.nilfunc], eqc := false }) Tree.leaf
noncomputable def tyT137 : Tree (Option TI) := Tree.node tyT265 (some { k := TK.map 3 4, size := 1, bytes := 8, zero := [DV.nilmap], eqc := false }) tyT393
noncomputable def tyT329 : Tree (Option TI) := Tree.node Tree.leaf (some { k := TK.func, size := 1, bytes := 8, zero := [DV.nilfunc], eqc := false }) Tree.leaf
noncomputable def tyT201 : Tree (Option TI) := Tree.node tyT329 (some { k := TK.func, size := 1, bytes := 8, zero := [DV.nilfunc], eqc := false }) Tree.leaf
noncomputable def tyT73 : Tree (Option TI) := Tree.node tyT137 (some { k := TK.slice 5, size := 1, bytes := 24, zero := [DV.nsl], eqc := false }) tyT201
noncomputable def tyT297 : Tree (Option TI) := Tree.node Tree.leaf (some { k := TK.func, size := 1, bytes := 8, zero := [DV.nilfunc], eqc := false }) Tree.leaf
noncomputable def tyT425 : Tree (Option TI) := Tree.node Tree.leaf (some { k := TK.struct [(0, 12), (1, 12), (2, 178), (3, 419), (4, 5), (5, 5), (6, 420), (7, 421), (8, 422), (9, 423), (10, 424)], size := 11, bytes := 48, zero := [DV.int IntKind.u64 (0), DV.int IntKind.u64 (0), DV.int IntKind.u32 (0), DV.int IntKind.u8 (0), DV.int IntKind.u8 (0), DV.int IntKind.u8 (0), DV.int IntKind.u8 (0), DV.nilfunc, DV.nilptr, DV.int IntKind.i32 (0), DV.int IntKind.i32 (0)], eqc := false }) Tree.leaf
noncomputable def tyT169 : Tree (Option TI) := Tree.node tyT297 (some { k := TK.struct [(0, 57), (2, 57), (4, 3)], size := 5, bytes := 56, zero := [DV.str ⟨⟨[]⟩⟩, DV.int IntKind.i64 (0), DV.str ⟨⟨[]⟩⟩, DV.int IntKind.i64 (0), DV.int IntKind.i64 (0)], eqc := false }) tyT425
noncomputable def tyT361 : Tree (Option TI) := Tree.node Tree.leaf (some { k := TK.func, size := 1, bytes := 8, zero := [DV.nilfunc], eqc := false }) Tree.leaf
noncomputable def tyT233 : Tree (Option TI) := Tree.node tyT361 (some { k := TK.func, size := 1, bytes := 8, zero := [DV.nilfunc], eqc := false }) Tree.leaf
noncomputable def tyT105 : Tree (Option TI) := Tree.node tyT169 none tyT233
noncomputable def tyT41 : Tree (Option TI) := Tree.node tyT73 (some { k := TK.int IntKind.i64, size := 1, bytes := 8, zero := [DV.int IntKind.i64 (0)], eqc := false }) tyT105
noncomputable def tyT281 : Tree (Option TI) := Tree.node Tree.leaf (some { k := TK.func, size := 1, bytes := 8, zero := [DV.nilfunc], eqc := false }) Tree.leaf
noncomputable def tyT409 : Tree (Option TI) := Tree.node Tree.leaf (some { k := TK.func, size := 1, bytes := 8, zero := [DV.nilfunc], eqc := false }) Tree.leaf
noncomputable def tyT153 : Tree (Option TI) := Tree.node tyT281 (some { k := TK.struct [(0, 9), (1, 3), (2, 3), (3, 3)], size := 4, bytes := 40, zero := [DV.str ⟨⟨[]⟩⟩, DV.int IntKind.i64 (0), DV.int IntKind.i64 (0), DV.int IntKind.i64 (0)], eqc := false }) tyT409
noncomputable def tyT345 : Tree (Option TI) := Tree.node Tree.leaf (some { k := TK.func, size := 1, bytes := 8, zero := [DV.nilfunc], eqc := false }) Tree.leaf
noncomputable def tyT217 : Tree (Option TI) := Tree.node tyT345 (some { k := TK.func, size := 1, bytes := 8, zero := [DV.nilfunc], eqc := false }) Tree.leaf
noncomputable def tyT89 : Tree (Option TI) := Tree.node tyT153 (some { k := TK.func, size := 1, bytes := 8, zero := [DV.nilfunc], eqc := false }) tyT217
noncomputable def tyT313 : Tree (Option TI) := Tree.node Tree.leaf (some { k := TK.func, size := 1, bytes := 8, zero := [DV.nilfunc], eqc := false }) Tree.leaf
noncomputable def tyT185 : Tree (Option TI) := Tree.node tyT313 (some { k := TK.func, size := 1, bytes := 8, zero := [DV.nilfunc], eqc := false }) Tree.leaf
noncomputable def tyT377 : Tree (Option TI) := Tree.node Tree.leaf (some { k := TK.func, size := 1, bytes := 8, zero := [DV.nilfunc], eqc := false }) Tree.leaf
noncomputable def tyT249 : Tree (Option TI) := Tree.node tyT377 (some { k := TK.func, size := 1, bytes := 8, zero := [DV.nilfunc], eqc := false }) Tree.leaf
noncomputable def tyT121 : Tree (Option TI) := Tree.node tyT185 (some { k := TK.func, size := 1, bytes := 8, zero := [DV.nilfunc], eqc := false }) tyT249
noncomputable def tyT57 : Tree (Option TI) := Tree.node tyT89 (some { k := TK.struct [(0, 9), (1, 3)], size := 2, bytes := 24, zero := [DV.str ⟨⟨[]⟩⟩, DV.int IntKind.i64 (0)], eqc := false }) tyT121
noncomputable def tyT25 : Tree (Option TI) := Tree.node tyT41 (some { k := TK.slice 139, size := 1, bytes := 24, zero := [DV.nsl], eqc := false }) tyT57
noncomputable def tyT9 : Tree (Option TI) := Tree.node tyT17 (some { k := TK.string, size := 1, bytes := 16, zero := [DV.str ⟨⟨[]⟩⟩], eqc := false }) tyT25
noncomputable def tyT261 : Tree (Option TI) := Tree.node Tree.leaf (some { k := TK.struct [(0, 9)], size := 1, bytes := 16, zero := [DV.str ⟨⟨[]⟩⟩], eqc := false }) Tree.leaf
noncomputable def tyT389 : Tree (Option TI) := Tree.node Tree.leaf (some { k := TK.func, size := 1, bytes := 8, zero := [DV.nilfunc], eqc := false }) Tree.leaf
noncomputable def tyT133 : Tree (Option TI) := Tree.node tyT261 (some { k := TK.func, size := 1, bytes := 8, zero := [DV.nilfunc], eqc := false }) tyT389
noncomputable def tyT325 : Tree (Option TI) := Tree.node Tree.leaf (some { k := TK.func, size := 1, bytes := 8, zero := [DV.nilfunc], eqc := false }) Tree.leaf
noncomputable def tyT197 : Tree (Option TI) := Tree.node tyT325 (some { k := TK.slice 200, size := 1, bytes := 24, zero := [DV.nsl], eqc := false }) Tree.leaf
noncomputable def tyT69 : Tree (Option TI) := Tree.node tyT133 (some { k := TK.func, size := 1, bytes := 8, zero := [DV.nilfunc], eqc := false }) tyT197
noncomputable def tyT293 : Tree (Option TI) := Tree.node Tree.leaf (some { k := TK.func, size := 1, bytes := 8, zero := [DV.nilfunc], eqc := false }) Tree.leaf
noncomputable def tyT421 : Tree (Option TI) := Tree.node Tree.leaf (some { k := TK.func, size := 1, bytes := 8, zero := [DV.nilfunc], eqc := false }) Tree.leaf
noncomputable def tyT165 : Tree (Option TI) := Tree.node tyT293 (some { k := TK.struct [(0, 164), (1, 3), (2, 3)], size := 3, bytes := 24, zero := [DV.nilptr, DV.int IntKind.i64 (0), DV.int IntKind.i64 (0)], eqc := false }) tyT421
noncomputable def tyT357 : Tree (Option TI) := Tree.node Tree.leaf (some { k := TK.func, size := 1, bytes := 8, zero := [DV.nilfunc], eqc := false }) Tree.leaf
noncomputable def tyT229 : Tree (Option TI) := Tree.node tyT357 (some { k := TK.func, size := 1, bytes := 8, zero := [DV.nilfunc], eqc := false }) Tree.leaf
noncomputable def tyT101 : Tree (Option TI) := Tree.node tyT165 (some { k := TK.struct [(0, 3), (1, 3), (2, 3)], size := 3, bytes := 24, zero := [DV.int IntKind.i64 (0), DV.int IntKind.i64 (0), DV.int IntKind.i64 (0)], eqc := false }) tyT229
noncomputable def tyT37 : Tree (Option TI) := Tree.node tyT69 (some { k := TK.struct [(0, 3), (1, 36)], size := 2, bytes := 32, zero := [DV.int IntKind.i64 (0), DV.nsl], eqc := false }) tyT101
noncomputable def tyT277 : Tree (Option TI) := Tree.node Tree.leaf (some { k := TK.func, size := 1, bytes := 8, zero := [DV.nilfunc], eqc := false }) Tree.leaf
noncomputable def tyT405 : Tree (Option TI) := Tree.node Tree.leaf (some { k := TK.func, size := 1, bytes := 8, zero := [DV.nilfunc], eqc := false }) Tree.leaf
noncomputable def tyT149 : Tree (Option TI) := Tree.node tyT277 (some { k := TK.func, size := 1, bytes := 8, zero := [DV.nilfunc], eqc := false }) tyT405
noncomputable def tyT341 : Tree (Option TI) := Tree.node Tree.leaf (some { k := TK.func, size := 1, bytes := 8, zero := [DV.nilfunc], eqc := false }) Tree.leaf
noncomputable def tyT213 : Tree (Option TI) := Tree.node tyT341 (some { k := TK.func, size := 1, bytes := 8, zero := [DV.nilfunc], eqc := false }) Tree.leaf
noncomputable def tyT85 : Tree (Option TI) := Tree.node tyT149 (some { k := TK.func, size := 1, bytes := 8, zero := [DV.nilfunc], eqc := false }) tyT213
noncomputable def tyT309 : Tree (Option TI) := Tree.node Tree.leaf (some { k := TK.func, size := 1, bytes := 8, zero := [DV.nilfunc], eqc := false }) Tree.leaf
noncomputable def tyT181 : Tree (Option TI) := Tree.node tyT309 (some { k := TK.func, size := 1, bytes := 8, zero := [DV.nilfunc], eqc := false }) Tree.leaf
noncomputable def tyT373 : Tree (Option TI) := Tree.node Tree.leaf (some { k := TK.func, size := 1, bytes := 8, zero := [DV.nilfunc], eqc := false }) Tree.leaf
noncomputable def tyT245 : Tree (Option TI) := Tree.node tyT373 (some { k := TK.func, size := 1, bytes := 8, zero := [DV.nilfunc], eqc := false }) Tree.leaf
noncomputable def tyT117 : Tree (Option TI) := Tree.node tyT181 (some { k := TK.func, size := 1, bytes := 8, zero := [DV.nilfunc], eqc := false }) tyT245
noncomputable def tyT53 : Tree (Option TI) := Tree.node tyT85 (some { k := TK.struct [(0, 3), (1, 3), (2, 3)], size := 3, bytes := 24, zero := [DV.int IntKind.i64 (0), DV.int IntKind.i64 (0), DV.int IntKind.i64 (0)], eqc := false }) tyT117
noncomputable def tyT21 : Tree (Option TI) := Tree.node tyT37 (some { k := TK.int IntKind.i32, size := 1, bytes := 4, zero := [DV.int IntKind.i32 (0)], eqc := false }) tyT53
noncomputable def tyT269 : Tree (Option TI) := Tree.node Tree.leaf (some { k := TK.func, size := 1, bytes := 8, zero := [DV.nilfunc], eqc := false }) Tree.leaf
noncomputable def tyT397 : Tree (Option TI) := Tree.node Tree.leaf (some { k := TK.func, size := 1, bytes := 8, zero := [DV.nilfunc], eqc := false }) Tree.leaf
noncomputable def tyT141 : Tree (Option TI) := Tree.node tyT269 (some { k := TK.func, size := 1, bytes := 8, zero := [DV.nilfunc], eqc := false }) tyT397
noncomputable def tyT333 : Tree (Option TI) := Tree.node Tree.leaf (some { k := TK.slice 200, size := 1, bytes := 24, zero := [DV.nsl], eqc := false }) Tree.leaf
noncomputable def tyT205 : Tree (Option TI) := Tree.node tyT333 (some { k := TK.func, size := 1, bytes := 8, zero := [DV.nilfunc], eqc := false }) Tree.leaf
noncomputable def tyT77 : Tree (Option TI) := Tree.node tyT141 (some { k := TK.func, size := 1, bytes := 8, zero := [DV.nilfunc], eqc := false }) tyT205
noncomputable def tyT301 : Tree (Option TI) := Tree.node Tree.leaf (some { k := TK.func, size := 1, bytes := 8, zero := [DV.nilfunc], eqc := false }) Tree.leaf
noncomputable def tyT173 : Tree (Option TI) := Tree.node tyT301 (some { k := TK.struct [(0, 9), (1, 57), (3, 3)], size := 4, bytes := 48, zero := [DV.str ⟨⟨[]⟩⟩, DV.str ⟨⟨[]⟩⟩, DV.int IntKind.i64 (0), DV.int IntKind.i64 (0)], eqc := false }) Tree.leaf
noncomputable def tyT365 : Tree (Option TI) := Tree.node Tree.leaf (some { k := TK.ptr 315, size := 1, bytes := 8, zero := [DV.nilptr], eqc := false }) Tree.leaf
noncomputable def tyT237 : Tree (Option TI) := Tree.node tyT365 none Tree.leaf
noncomputable def tyT109 : Tree (Option TI) := Tree.node tyT173 (some { k := TK.struct [], size := 0, bytes := 0, zero := [], eqc := false }) tyT237
noncomputable def tyT45 : Tree (Option TI) := Tree.node tyT77 (some { k := TK.func, size := 1, bytes := 8, zero := [DV.nilfunc], eqc := false }) tyT109
noncomputable def tyT285 : Tree (Option TI) := Tree.node Tree.leaf (some { k := TK.func, size := 1, bytes := 8, zero := [DV.nilfunc], eqc := false }) Tree.leaf
noncomputable def tyT413 : Tree (Option TI) := Tree.node Tree.leaf (some { k := TK.struct [(0, 17), (1, 17), (2, 17), (3, 9)], size := 4, bytes := 40, zero := [DV.nilptr, DV.nilptr, DV.nilptr, DV.str ⟨⟨[]⟩⟩], eqc := false }) Tree.leaf
noncomputable def tyT157 : Tree (Option TI) := Tree.node tyT285 (some { k := TK.func, size := 1, bytes := 8, zero := [DV.nilfunc], eqc := false }) tyT413
noncomputable def tyT349 : Tree (Option TI) := Tree.node Tree.leaf (some { k := TK.func, size := 1, bytes := 8, zero := [DV.nilfunc], eqc := false }) Tree.leaf
noncomputable def tyT221 : Tree (Option TI) := Tree.node tyT349 (some { k := TK.func, size := 1, bytes := 8, zero := [DV.nilfunc], eqc := false }) Tree.leaf
noncomputable def tyT93 : Tree (Option TI) := Tree.node tyT157 (some { k := TK.struct [(0, 3), (1, 3), (2, 9), (3, 92)], size := 4, bytes := 56, zero := [DV.int IntKind.i64 (0), DV.int IntKind.i64 (0), DV.str ⟨⟨[]⟩⟩, DV.nsl], eqc := false }) tyT221
noncomputable def tyT317 : Tree (Option TI) := Tree.node Tree.leaf (some { k := TK.func, size := 1, bytes := 8, zero := [DV.nilfunc], eqc := false }) Tree.leaf
noncomputable def tyT189 : Tree (Option TI) := Tree.node tyT317 (some { k := TK.func, size := 1, bytes := 8, zero := [DV.nilfunc], eqc := false }) Tree.leaf
noncomputable def tyT381 : Tree (Option TI) := Tree.node Tree.leaf (some { k := TK.func, size := 1, bytes := 8, zero := [DV.nilfunc], eqc := false }) Tree.leaf
noncomputable def tyT253 : Tree (Option TI) := Tree.node tyT381 (some { k := TK.func, size := 1, bytes := 8, zero := [DV.nilfunc], eqc := false }) Tree.leaf
noncomputable def tyT125 : Tree (Option TI) := Tree.node tyT189 (some { k := TK.func, size := 1, bytes := 8, zero := [DV.nilfunc], eqc := false }) tyT253
noncomputable def tyT61 : Tree (Option TI) := Tree.node tyT93 (some { k := TK.struct [(0, 3), (1, 3), (2, 3)], size := 3, bytes := 24, zero := [DV.int IntKind.i64 (0), DV.int IntKind.i64 (0), DV.int IntKind.i64 (0)], eqc := false }) tyT125
noncomputable def tyT29 : Tree (Option TI) := Tree.node tyT45 (some { k := TK.array 3 3, size := 3, bytes := 24, zero := [DV.int IntKind.i64 (0), DV.int IntKind.i64 (0), DV.int IntKind.i64 (0)], eqc := false }) tyT61
noncomputable def tyT13 : Tree (Option TI) := Tree.node tyT21 (some { k := TK.struct [(0, 9), (1, 12)], size := 2, bytes := 24, zero := [DV.str ⟨⟨[]⟩⟩, DV.int IntKind.u64 (0)], eqc := false }) tyT29
noncomputable def tyT5 : Tree (Option TI) := Tree.node tyT9 (some { k := TK.int IntKind.u8, size := 1, bytes := 1, zero := [DV.int IntKind.u8 (0)], eqc := false }) tyT13
noncomputable def tyT1 : Tree (Option TI) := Tree.node tyT3 (some { k := TK.func, size := 1, bytes := 8, zero := [DV.nilfunc], eqc := false }) tyT5
noncomputable def tyT256 : Tree (Option TI) := Tree.node Tree.leaf (some { k := TK.array 64 178, size := 64, bytes := 256, zero := [DV.int IntKind.u32 (0), DV.int IntKind.u32 (0), DV.int IntKind.u32 (0), DV.int IntKind.u32 (0), DV.int IntKind.u32 (0), DV.int IntKind.u32 (0), DV.int IntKind.u32 (0), DV.int IntKind.u32 (0), DV.int IntKind.u32 (0), DV.int IntKind.u32 (0), DV.int IntKind.u32 (0), DV.int IntKind.u32 (0), DV.int IntKind.u32 (0), DV.int IntKind.u32 (0), DV.int IntKind.u32 (0), DV.int IntKind.u32 (0), DV.int IntKind.u32 (0), DV.int IntKind.u32 (0), DV.int IntKind.u32 (0), DV.int IntKind.u32 (0), DV.int IntKind.u32 (0), DV.int IntKind.u32 (0), DV.int IntKind.u32 (0), DV.int IntKind.u32 (0), DV.int IntKind.u32 (0), DV.int IntKind.u32 (0), DV.int IntKind.u32 (0), DV.int IntKind.u32 (0), DV.int IntKind.u32 (0), DV.int IntKind.u32 (0), DV.int IntKind.u32 (0), DV.int IntKind.u32 (0), DV.int IntKind.u32 (0), DV.int IntKind.u32 (0), DV.int IntKind.u32 (0), DV.int IntKind.u32 (0), DV.int IntKind.u32 (0), DV.int IntKind.u32 (0), DV.int IntKind.u32 (0), DV.int IntKind.u32 (0), DV.int IntKind.u32 (0), DV.int IntKind.u32 (0), DV.int IntKind.u32 (0), DV.int IntKind.u32 (0), DV.int IntKind.u32 (0), DV.int IntKind.u32 (0), DV.int IntKind.u32 (0), DV.int IntKind.u32 (0), DV.int IntKind.u32 (0), DV.int IntKind.u32 (0), DV.int IntKind.u32 (0), DV.int IntKind.u32 (0), DV.int IntKind.u32 (0), DV.int IntKind.u32 (0), DV.int IntKind.u32 (0), DV.int IntKind.u32 (0), DV.int IntKind.u32 (0), DV.int IntKind.u32 (0), DV.int IntKind.u32 (0), DV.int IntKind.u32 (0), DV.int IntKind.u32 (0), DV.int IntKind.u32 (0), DV.int IntKind.u32 (0), DV.int IntKind.u32 (0)], eqc := false }) Tree.leaf
noncomputable def tyT384 : Tree (Option TI) := Tree.node Tree.leaf (some { k := TK.func, size := 1, bytes := 8, zero := [DV.nilfunc], eqc := false }) Tree.leaf
noncomputable def tyT128 : Tree (Option TI) := Tree.node tyT256 (some { k := TK.func, size := 1, bytes := 8, zero := [DV.nilfunc], eqc := false }) tyT384
noncomputable def tyT320 : Tree (Option TI) := Tree.node Tree.leaf (some { k := TK.func, size := 1, bytes := 8, zero := [DV.nilfunc], eqc := false }) Tree.leaf
noncomputable def tyT192 : Tree (Option TI) := Tree.node tyT320 (some { k := TK.func, size := 1, bytes := 8, zero := [DV.nilfunc], eqc := false }) Tree.leaf
noncomputable def tyT64 : Tree (Option TI) := Tree.node tyT128 (some { k := TK.struct [(0, 3), (1, 3), (2, 3), (3, 62), (6, 62)], size := 9, bytes := 72, zero := [DV.int IntKind.i64 (0), DV.int IntKind.i64 (0), DV.int IntKind.i64 (0), DV.int IntKind.i64 (0), DV.int IntKind.i64 (0), DV.int IntKind.i64 (0), DV.int IntKind.i64 (0), DV.int IntKind.i64 (0), DV.int IntKind.i64 (0)], eqc := false }) tyT192
noncomputable def tyT288 : Tree (Option TI) := Tree.node Tree.leaf (some { k := TK.func, size := 1, bytes := 8, zero := [DV.nilfunc], eqc := false }) Tree.leaf
noncomputable def tyT416 : Tree (Option TI) := Tree.node Tree.leaf (some { k := TK.struct [(0, 415)], size := 0, bytes := 0, zero := [], eqc := false }) Tree.leaf
noncomputable def tyT160 : Tree (Option TI) := Tree.node tyT288 (some { k := TK.func, size := 1, bytes := 8, zero := [DV.nilfunc], eqc := false }) tyT416
noncomputable def tyT352 : Tree (Option TI) := Tree.node Tree.leaf (some { k := TK.func, size := 1, bytes := 8, zero := [DV.nilfunc], eqc := false }) Tree.leaf
noncomputable def tyT224 : Tree (Option TI) := Tree.node tyT352 (some { k := TK.func, size := 1, bytes := 8, zero := [DV.nilfunc], eqc := false }) Tree.leaf
noncomputable def tyT96 : Tree (Option TI) := Tree.node tyT160 (some { k := TK.func, size := 1, bytes := 8, zero := [DV.nilfunc], eqc := false }) tyT224
noncomputable def tyT32 : Tree (Option TI) := Tree.node tyT64 (some { k := TK.slice 119, size := 1, bytes := 24, zero := [DV.nsl], eqc := false }) tyT96
noncomputable def tyT272 : Tree (Option TI) := Tree.node Tree.leaf (some { k := TK.slice 276, size := 1, bytes := 24, zero := [DV.nsl], eqc := false }) Tree.leaf
noncomputable def tyT400 : Tree (Option TI) := Tree.node Tree.leaf (some { k := TK.func, size := 1, bytes := 8, zero := [DV.nilfunc], eqc := false }) Tree.leaf
noncomputable def tyT144 : Tree (Option TI) := Tree.node tyT272 (some { k := TK.func, size := 1, bytes := 8, zero := [DV.nilfunc], eqc := false }) tyT400
noncomputable def tyT336 : Tree (Option TI) := Tree.node Tree.leaf (some { k := TK.func, size := 1, bytes := 8, zero := [DV.nilfunc], eqc := false }) Tree.leaf
noncomputable def tyT208 : Tree (Option TI) := Tree.node tyT336 (some { k := TK.struct [(0, 34), (15, 35), (16, 36)], size := 17, bytes := 336, zero := [DV.str ⟨⟨[]⟩⟩, DV.nsl, DV.nsl, DV.nsl, DV.nsl, DV.nsl, DV.nsl, DV.nsl, DV.int IntKind.i64 (0), DV.int IntKind.i64 (0), DV.int IntKind.i64 (0), DV.int IntKind.i64 (0), DV.nsl, DV.nsl, DV.nsl, DV.nsl, DV.nsl], eqc := false }) Tree.leaf
noncomputable def tyT80 : Tree (Option TI) := Tree.node tyT144 (some { k := TK.func, size := 1, bytes := 8, zero := [DV.nilfunc], eqc := false }) tyT208
noncomputable def tyT304 : Tree (Option TI) := Tree.node Tree.leaf (some { k := TK.func, size := 1, bytes := 8, zero := [DV.nilfunc], eqc := false }) Tree.leaf
noncomputable def tyT176 : Tree (Option TI) := Tree.node tyT304 (some { k := TK.func, size := 1, bytes := 8, zero := [DV.nilfunc], eqc := false }) Tree.leaf
noncomputable def tyT368 : Tree (Option TI) := Tree.node Tree.leaf (some { k := TK.func, size := 1, bytes := 8, zero := [DV.nilfunc], eqc := false }) Tree.leaf
noncomputable def tyT240 : Tree (Option TI) := Tree.node tyT368 (some { k := TK.func, size := 1, bytes := 8, zero := [DV.nilfunc], eqc := false }) Tree.leaf
noncomputable def tyT112 : Tree (Option TI) := Tree.node tyT176 (some { k := TK.ptr 116, size := 1, bytes := 8, zero := [DV.nilptr], eqc := false }) tyT240
noncomputable def tyT48 : Tree (Option TI) := Tree.node tyT80 (some { k := TK.array 32 5, size := 32, bytes := 32, zero := [DV.int IntKind.u8 (0), DV.int IntKind.u8 (0), DV.int IntKind.u8 (0), DV.int IntKind.u8 (0), DV.int IntKind.u8 (0), DV.int IntKind.u8 (0), DV.int IntKind.u8 (0), DV.int IntKind.u8 (0), DV.int IntKind.u8 (0), DV.int IntKind.u8 (0), DV.int IntKind.u8 (0), DV.int IntKind.u8 (0), DV.int IntKind.u8 (0), DV.int IntKind.u8 (0), DV.int IntKind.u8 (0), DV.int IntKind.u8 (0), DV.int IntKind.u8 (0), DV.int IntKind.u8 (0), DV.int IntKind.u8 (0), DV.int IntKind.u8 (0), DV.int IntKind.u8 (0), DV.int IntKind.u8 (0), DV.int IntKind.u8 (0), DV.int IntKind.u8 (0), DV.int IntKind.u8 (0), DV.int IntKind.u8 (0), DV.int IntKind.u8 (0), DV.int IntKind.u8 (0), DV.int IntKind.u8 (0), DV.int IntKind.u8 (0), DV.int IntKind.u8 (0), DV.int IntKind.u8 (0)], eqc := false }) tyT112
noncomputable def tyT16 : Tree (Option TI) := Tree.node tyT32 (some { k := TK.ptr 417, size := 1, bytes := 8, zero := [DV.nilptr], eqc := false }) tyT48
noncomputable def tyT264 : Tree (Option TI) := Tree.node Tree.leaf (some { k := TK.int IntKind.i64, size := 1, bytes := 8, zero := [DV.int IntKind.i64 (0)], eqc := false }) Tree.leaf
noncomputable def tyT392 : Tree (Option TI) := Tree.node Tree.leaf (some { k := TK.func, size := 1, bytes := 8, zero := [DV.nilfunc], eqc := false }) Tree.leaf
noncomputable def tyT136 : Tree (Option TI) := Tree.node tyT264 (some { k := TK.func, size := 1, bytes := 8, zero := [DV.nilfunc], eqc := false }) tyT392
noncomputable def tyT328 : Tree (Option TI) := Tree.node Tree.leaf (some { k := TK.func, size := 1, bytes := 8, zero := [DV.nilfunc], eqc := false }) Tree.leaf
noncomputable def tyT200 : Tree (Option TI) := Tree.node tyT328 (some { k := TK.struct [(0, 3), (1, 62), (4, 62)], size := 7, bytes := 56, zero := [DV.int IntKind.i64 (0), DV.int IntKind.i64 (0), DV.int IntKind.i64 (0), DV.int IntKind.i64 (0), DV.int IntKind.i64 (0), DV.int IntKind.i64 (0), DV.int IntKind.i64 (0)], eqc := false }) Tree.leaf
noncomputable def tyT72 : Tree (Option TI) := Tree.node tyT136 (some { k := TK.func, size := 1, bytes := 8, zero := [DV.nilfunc], eqc := false }) tyT200
noncomputable def tyT296 : Tree (Option TI) := Tree.node Tree.leaf (some { k := TK.func, size := 1, bytes := 8, zero := [DV.nilfunc], eqc := false }) Tree.leaf
noncomputable def tyT424 : Tree (Option TI) := Tree.node Tree.leaf (some { k := TK.int IntKind.i32, size := 1, bytes := 4, zero := [DV.int IntKind.i32 (0)], eqc := false }) Tree.leaf
noncomputable def tyT168 : Tree (Option TI) := Tree.node tyT296 (some { k := TK.func, size := 1, bytes := 8, zero := [DV.nilfunc], eqc := false }) tyT424
noncomputable def tyT360 : Tree (Option TI) := Tree.node Tree.leaf (some { k := TK.func, size := 1, bytes := 8, zero := [DV.nilfunc], eqc := false }) Tree.leaf
noncomputable def tyT232 : Tree (Option TI) := Tree.node tyT360 (some { k := TK.func, size := 1, bytes := 8, zero := [DV.nilfunc], eqc := false }) Tree.leaf
noncomputable def tyT104 : Tree (Option TI) := Tree.node tyT168 (some { k := TK.struct [(0, 9), (1, 101), (4, 101), (7, 102)], size := 14, bytes := 72, zero := [DV.str ⟨⟨[]⟩⟩, DV.int IntKind.i64 (0), DV.int IntKind.i64 (0), DV.int IntKind.i64 (0), DV.int IntKind.i64 (0), DV.int IntKind.i64 (0), DV.int IntKind.i64 (0), DV.bool false, DV.bool false, DV.bool false, DV.bool false, DV.bool false, DV.bool false, DV.bool false], eqc := false }) tyT232
noncomputable def tyT40 : Tree (Option TI) := Tree.node tyT72 (some { k := TK.func, size := 1, bytes := 8, zero := [DV.nilfunc], eqc := false }) tyT104
noncomputable def tyT280 : Tree (Option TI) := Tree.node Tree.leaf (some { k := TK.func, size := 1, bytes := 8, zero := [DV.nilfunc], eqc := false }) Tree.leaf
noncomputable def tyT408 : Tree (Option TI) := Tree.node Tree.leaf (some { k := TK.func, size := 1, bytes := 8, zero := [DV.nilfunc], eqc := false }) Tree.leaf
noncomputable def tyT152 : Tree (Option TI) := Tree.node tyT280 (some { k := TK.struct [(0, 9), (1, 3), (2, 3), (3, 3)], size := 4, bytes := 40, zero := [DV.str ⟨⟨[]⟩⟩, DV.int IntKind.i64 (0), DV.int IntKind.i64 (0), DV.int IntKind.i64 (0)], eqc := false }) tyT408
noncomputable def tyT344 : Tree (Option TI) := Tree.node Tree.leaf (some { k := TK.func, size := 1, bytes := 8, zero := [DV.nilfunc], eqc := false }) Tree.leaf
noncomputable def tyT216 : Tree (Option TI) := Tree.node tyT344 (some { k := TK.func, size := 1, bytes := 8, zero := [DV.nilfunc], eqc := false }) Tree.leaf
noncomputable def tyT88 : Tree (Option TI) := Tree.node tyT152 (some { k := TK.func, size := 1, bytes := 8, zero := [DV.nilfunc], eqc := false }) tyT216
noncomputable def tyT312 : Tree (Option TI) := Tree.node Tree.leaf (some { k := TK.func, size := 1, bytes := 8, zero := [DV.nilfunc], eqc := false }) Tree.leaf
noncomputable def tyT184 : Tree (Option TI) := Tree.node tyT312 (some { k := TK.slice 73, size := 1, bytes := 24, zero := [DV.nsl], eqc := false }) Tree.leaf
noncomputable def tyT376 : Tree (Option TI) := Tree.node Tree.leaf (some { k := TK.func, size := 1, bytes := 8, zero := [DV.nilfunc], eqc := false }) Tree.leaf
noncomputable def tyT248 : Tree (Option TI) := Tree.node tyT376 (some { k := TK.ptr 60, size := 1, bytes := 8, zero := [DV.nilptr], eqc := false }) Tree.leaf
noncomputable def tyT120 : Tree (Option TI) := Tree.node tyT184 (some { k := TK.func, size := 1, bytes := 8, zero := [DV.nilfunc], eqc := false }) tyT248
noncomputable def tyT56 : Tree (Option TI) := Tree.node tyT88 (some { k := TK.struct [(0, 9), (1, 3)], size := 2, bytes := 24, zero := [DV.str ⟨⟨[]⟩⟩, DV.int IntKind.i64 (0)], eqc := false }) tyT120
noncomputable def tyT24 : Tree (Option TI) := Tree.node tyT40 (some { k := TK.slice 172, size := 1, bytes := 24, zero := [DV.nsl], eqc := false }) tyT56
noncomputable def tyT8 : Tree (Option TI) := Tree.node tyT16 (some { k := TK.struct [(0, 2), (1, 3), (2, 4), (3, 6)], size := 4, bytes := 24, zero := [DV.int IntKind.i64 (0), DV.int IntKind.i64 (0), DV.bool false, DV.int IntKind.u8 (0)], eqc := false }) tyT24
noncomputable def tyT260 : Tree (Option TI) := Tree.node Tree.leaf (some { k := TK.slice 178, size := 1, bytes := 24, zero := [DV.nsl], eqc := false }) Tree.leaf
noncomputable def tyT388 : Tree (Option TI) := Tree.node Tree.leaf (some { k := TK.func, size := 1, bytes := 8, zero := [DV.nilfunc], eqc := false }) Tree.leaf
noncomputable def tyT132 : Tree (Option TI) := Tree.node tyT260 none tyT388
noncomputable def tyT324 : Tree (Option TI) := Tree.node Tree.leaf (some { k := TK.func, size := 1, bytes := 8, zero := [DV.nilfunc], eqc := false }) Tree.leaf
noncomputable def tyT196 : Tree (Option TI) := Tree.node tyT324 (some { k := TK.func, size := 1, bytes := 8, zero := [DV.nilfunc], eqc := false }) Tree.leaf
noncomputable def tyT68 : Tree (Option TI) := Tree.node tyT132 (some { k := TK.func, size := 1, bytes := 8, zero := [DV.nilfunc], eqc := false }) tyT196
noncomputable def tyT292 : Tree (Option TI) := Tree.node Tree.leaf (some { k := TK.func, size := 1, bytes := 8, zero := [DV.nilfunc], eqc := false }) Tree.leaf
noncomputable def tyT420 : Tree (Option TI) := Tree.node Tree.leaf (some { k := TK.int IntKind.u8, size := 1, bytes := 1, zero := [DV.int IntKind.u8 (0)], eqc := false }) Tree.leaf
noncomputable def tyT164 : Tree (Option TI) := Tree.node tyT292 (some { k := TK.ptr 57, size := 1, bytes := 8, zero := [DV.nilptr], eqc := false }) tyT420
noncomputable def tyT356 : Tree (Option TI) := Tree.node Tree.leaf (some { k := TK.func, size := 1, bytes := 8, zero := [DV.nilfunc], eqc := false }) Tree.leaf
noncomputable def tyT228 : Tree (Option TI) := Tree.node tyT356 (some { k := TK.array 12 3, size := 12, bytes := 96, zero := [DV.int IntKind.i64 (0), DV.int IntKind.i64 (0), DV.int IntKind.i64 (0), DV.int IntKind.i64 (0), DV.int IntKind.i64 (0), DV.int IntKind.i64 (0), DV.int IntKind.i64 (0), DV.int IntKind.i64 (0), DV.int IntKind.i64 (0), DV.int IntKind.i64 (0), DV.int IntKind.i64 (0), DV.int IntKind.i64 (0)], eqc := false }) Tree.leaf
noncomputable def tyT100 : Tree (Option TI) := Tree.node tyT164 (some { k := TK.struct [(0, 3), (1, 3), (2, 3)], size := 3, bytes := 24, zero := [DV.int IntKind.i64 (0), DV.int IntKind.i64 (0), DV.int IntKind.i64 (0)], eqc := false }) tyT228
noncomputable def tyT36 : Tree (Option TI) := Tree.node tyT68 (some { k := TK.slice 54, size := 1, bytes := 24, zero := [DV.nsl], eqc := false }) tyT100
noncomputable def tyT276 : Tree (Option TI) := Tree.node Tree.leaf (some { k := TK.struct [(0, 3), (1, 3), (2, 3)], size := 3, bytes := 24, zero := [DV.int IntKind.i64 (0), DV.int IntKind.i64 (0), DV.int IntKind.i64 (0)], eqc := false }) Tree.leaf
noncomputable def tyT404 : Tree (Option TI) := Tree.node Tree.leaf (some { k := TK.func, size := 1, bytes := 8, zero := [DV.nilfunc], eqc := false }) Tree.leaf
noncomputable def tyT148 : Tree (Option TI) := Tree.node tyT276 (some { k := TK.func, size := 1, bytes := 8, zero := [DV.nilfunc], eqc := false }) tyT404
noncomputable def tyT340 : Tree (Option TI) := Tree.node Tree.leaf none Tree.leaf
noncomputable def tyT212 : Tree (Option TI) := Tree.node tyT340 (some { k := TK.func, size := 1, bytes := 8, zero := [DV.nilfunc], eqc := false }) Tree.leaf
noncomputable def tyT84 : Tree (Option TI) := Tree.node tyT148 (some { k := TK.map 3 30, size := 1, bytes := 8, zero := [DV.nilmap], eqc := false }) tyT212
noncomputable def tyT308 : Tree (Option TI) := Tree.node Tree.leaf (some { k := TK.func, size := 1, bytes := 8, zero := [DV.nilfunc], eqc := false }) Tree.leaf
noncomputable def tyT180 : Tree (Option TI) := Tree.node tyT308 (some { k := TK.array 8 178, size := 8, bytes := 32, zero := [DV.int IntKind.u32 (0), DV.int IntKind.u32 (0), DV.int IntKind.u32 (0), DV.int IntKind.u32 (0), DV.int IntKind.u32 (0), DV.int IntKind.u32 (0), DV.int IntKind.u32 (0), DV.int IntKind.u32 (0)], eqc := false }) Tree.leaf
noncomputable def tyT372 : Tree (Option TI) := Tree.node Tree.leaf (some { k := TK.func, size := 1, bytes := 8, zero := [DV.nilfunc], eqc := false }) Tree.leaf
noncomputable def tyT244 : Tree (Option TI) := Tree.node tyT372 (some { k := TK.func, size := 1, bytes := 8, zero := [DV.nilfunc], eqc := false }) Tree.leaf
noncomputable def tyT116 : Tree (Option TI) := Tree.node tyT180 (some { k := TK.struct [(0, 34), (15, 114)], size := 22, bytes := 344, zero := [DV.str ⟨⟨[]⟩⟩, DV.nsl, DV.nsl, DV.nsl, DV.nsl, DV.nsl, DV.nsl, DV.nsl, DV.int IntKind.i64 (0), DV.int IntKind.i64 (0), DV.int IntKind.i64 (0), DV.int IntKind.i64 (0), DV.nsl, DV.nsl, DV.nsl, DV.nilfunc, DV.nilfunc, DV.nilfunc, DV.nilfunc, DV.nilfunc, DV.nilfunc, DV.nilfunc], eqc := false }) tyT244
noncomputable def tyT52 : Tree (Option TI) := Tree.node tyT84 (some { k := TK.func, size := 1, bytes := 8, zero := [DV.nilfunc], eqc := false }) tyT116
noncomputable def tyT20 : Tree (Option TI) := Tree.node tyT36 (some { k := TK.iface, size := 1, bytes := 16, zero := [DV.niliface], eqc := false }) tyT52
noncomputable def tyT268 : Tree (Option TI) := Tree.node Tree.leaf (some { k := TK.func, size := 1, bytes := 8, zero := [DV.nilfunc], eqc := false }) Tree.leaf
noncomputable def tyT396 : Tree (Option TI) := Tree.node Tree.leaf (some { k := TK.func, size := 1, bytes := 8, zero := [DV.nilfunc], eqc := false }) Tree.leaf
noncomputable def tyT140 : Tree (Option TI) := Tree.node tyT268 (some { k := TK.func, size := 1, bytes := 8, zero := [DV.nilfunc], eqc := false }) tyT396
noncomputable def tyT332 : Tree (Option TI) := Tree.node Tree.leaf (some { k := TK.func, size := 1, bytes := 8, zero := [DV.nilfunc], eqc := false }) Tree.leaf
noncomputable def tyT204 : Tree (Option TI) := Tree.node tyT332 (some { k := TK.func, size := 1, bytes := 8, zero := [DV.nilfunc], eqc := false }) Tree.leaf
noncomputable def tyT76 : Tree (Option TI) := Tree.node tyT140 (some { k := TK.func, size := 1, bytes := 8, zero := [DV.nilfunc], eqc := false }) tyT204
noncomputable def tyT300 : Tree (Option TI) := Tree.node Tree.leaf (some { k := TK.func, size := 1, bytes := 8, zero := [DV.nilfunc], eqc := false }) Tree.leaf
noncomputable def tyT172 : Tree (Option TI) := Tree.node tyT300 (some { k := TK.struct [(0, 57), (2, 3)], size := 3, bytes := 32, zero := [DV.str ⟨⟨[]⟩⟩, DV.int IntKind.i64 (0), DV.int IntKind.i64 (0)], eqc := false }) Tree.leaf
noncomputable def tyT364 : Tree (Option TI) := Tree.node Tree.leaf (some { k := TK.func, size := 1, bytes := 8, zero := [DV.nilfunc], eqc := false }) Tree.leaf
noncomputable def tyT236 : Tree (Option TI) := Tree.node tyT364 (some { k := TK.map 9 3, size := 1, bytes := 8, zero := [DV.nilmap], eqc := false }) Tree.leaf
noncomputable def tyT108 : Tree (Option TI) := Tree.node tyT172 (some { k := TK.func, size := 1, bytes := 8, zero := [DV.nilfunc], eqc := false }) tyT236
noncomputable def tyT44 : Tree (Option TI) := Tree.node tyT76 (some { k := TK.func, size := 1, bytes := 8, zero := [DV.nilfunc], eqc := false }) tyT108
noncomputable def tyT284 : Tree (Option TI) := Tree.node Tree.leaf (some { k := TK.func, size := 1, bytes := 8, zero := [DV.nilfunc], eqc := false }) Tree.leaf
noncomputable def tyT412 : Tree (Option TI) := Tree.node Tree.leaf (some { k := TK.func, size := 1, bytes := 8, zero := [DV.nilfunc], eqc := false }) Tree.leaf
noncomputable def tyT156 : Tree (Option TI) := Tree.node tyT284 (some { k := TK.func, size := 1, bytes := 8, zero := [DV.nilfunc], eqc := false }) tyT412
noncomputable def tyT348 : Tree (Option TI) := Tree.node Tree.leaf (some { k := TK.func, size := 1, bytes := 8, zero := [DV.nilfunc], eqc := false }) Tree.leaf
noncomputable def tyT220 : Tree (Option TI) := Tree.node tyT348 (some { k := TK.func, size := 1, bytes := 8, zero := [DV.nilfunc], eqc := false }) Tree.leaf
noncomputable def tyT92 : Tree (Option TI) := Tree.node tyT156 (some { k := TK.slice 94, size := 1, bytes := 24, zero := [DV.nsl], eqc := false }) tyT220
noncomputable def tyT316 : Tree (Option TI) := Tree.node Tree.leaf (some { k := TK.func, size := 1, bytes := 8, zero := [DV.nilfunc], eqc := false }) Tree.leaf
noncomputable def tyT188 : Tree (Option TI) := Tree.node tyT316 (some { k := TK.struct [(0, 186), (1, 186), (2, 186), (3, 186), (4, 186), (5, 186), (6, 186)], size := 7, bytes := 168, zero := [DV.nsl, DV.nsl, DV.nsl, DV.nsl, DV.nsl, DV.nsl, DV.nsl], eqc := false }) Tree.leaf
noncomputable def tyT380 : Tree (Option TI) := Tree.node Tree.leaf none Tree.leaf
noncomputable def tyT252 : Tree (Option TI) := Tree.node tyT380 (some { k := TK.func, size := 1, bytes := 8, zero := [DV.nilfunc], eqc := false }) Tree.leaf
noncomputable def tyT124 : Tree (Option TI) := Tree.node tyT188 (some { k := TK.func, size := 1, bytes := 8, zero := [DV.nilfunc], eqc := false }) tyT252
noncomputable def tyT60 : Tree (Option TI) := Tree.node tyT92 (some { k := TK.struct [(0, 9), (1, 3), (2, 57), (4, 58), (5, 57), (7, 30), (8, 57), (10, 57), (12, 3), (13, 3)], size := 14, bytes := 184, zero := [DV.str ⟨⟨[]⟩⟩, DV.int IntKind.i64 (0), DV.str ⟨⟨[]⟩⟩, DV.int IntKind.i64 (0), DV.nsl, DV.str ⟨⟨[]⟩⟩, DV.int IntKind.i64 (0), DV.nsl, DV.str ⟨⟨[]⟩⟩, DV.int IntKind.i64 (0), DV.str ⟨⟨[]⟩⟩, DV.int IntKind.i64 (0), DV.int IntKind.i64 (0), DV.int IntKind.i64 (0)], eqc := false }) tyT124
noncomputable def tyT28 : Tree (Option TI) := Tree.node tyT44 (some { k := TK.slice 153, size := 1, bytes := 24, zero := [DV.nsl], eqc := false }) tyT60
noncomputable def tyT12 : Tree (Option TI) := Tree.node tyT20 (some { k := TK.int IntKind.u64, size := 1, bytes := 8, zero := [DV.int IntKind.u64 (0)], eqc := false }) tyT28
noncomputable def tyT4 : Tree (Option TI) := Tree.node tyT8 (some { k := TK.bool, size := 1, bytes := 1, zero := [DV.bool false], eqc := false }) tyT12
noncomputable def tyT258 : Tree (Option TI) := Tree.node Tree.leaf (some { k := TK.func, size := 1, bytes := 8, zero := [DV.nilfunc], eqc := false }) Tree.leaf
noncomputable def tyT386 : Tree (Option TI) := Tree.node Tree.leaf (some { k := TK.func, size := 1, bytes := 8, zero := [DV.nilfunc], eqc := false }) Tree.leaf
noncomputable def tyT130 : Tree (Option TI) := Tree.node tyT258 (some { k := TK.func, size := 1, bytes := 8, zero := [DV.nilfunc], eqc := false }) tyT386
noncomputable def tyT322 : Tree (Option TI) := Tree.node Tree.leaf (some { k := TK.struct [(0, 3), (1, 3)], size := 2, bytes := 16, zero := [DV.int IntKind.i64 (0), DV.int IntKind.i64 (0)], eqc := false }) Tree.leaf
noncomputable def tyT194 : Tree (Option TI) := Tree.node tyT322 (some { k := TK.int IntKind.u64, size := 1, bytes := 8, zero := [DV.int IntKind.u64 (0)], eqc := false }) Tree.leaf
noncomputable def tyT66 : Tree (Option TI) := Tree.node tyT130 (some { k := TK.func, size := 1, bytes := 8, zero := [DV.nilfunc], eqc := false }) tyT194
noncomputable def tyT290 : Tree (Option TI) := Tree.node Tree.leaf (some { k := TK.func, size := 1, bytes := 8, zero := [DV.nilfunc], eqc := false }) Tree.leaf
noncomputable def tyT418 : Tree (Option TI) := Tree.node Tree.leaf (some { k := TK.func, size := 1, bytes := 8, zero := [DV.nilfunc], eqc := false }) Tree.leaf
noncomputable def tyT162 : Tree (Option TI) := Tree.node tyT290 (some { k := TK.func, size := 1, bytes := 8, zero := [DV.nilfunc], eqc := false }) tyT418
noncomputable def tyT354 : Tree (Option TI) := Tree.node Tree.leaf (some { k := TK.func, size := 1, bytes := 8, zero := [DV.nilfunc], eqc := false }) Tree.leaf
noncomputable def tyT226 : Tree (Option TI) := Tree.node tyT354 (some { k := TK.func, size := 1, bytes := 8, zero := [DV.nilfunc], eqc := false }) Tree.leaf
noncomputable def tyT98 : Tree (Option TI) := Tree.node tyT162 (some { k := TK.func, size := 1, bytes := 8, zero := [DV.nilfunc], eqc := false }) tyT226
noncomputable def tyT34 : Tree (Option TI) := Tree.node tyT66 (some { k := TK.struct [(0, 9), (1, 22), (2, 23), (3, 24), (4, 25), (5, 26), (6, 27), (7, 28), (8, 3), (9, 29), (12, 30), (13, 31), (14, 32)], size := 15, bytes := 288, zero := [DV.str ⟨⟨[]⟩⟩, DV.nsl, DV.nsl, DV.nsl, DV.nsl, DV.nsl, DV.nsl, DV.nsl, DV.int IntKind.i64 (0), DV.int IntKind.i64 (0), DV.int IntKind.i64 (0), DV.int IntKind.i64 (0), DV.nsl, DV.nsl, DV.nsl], eqc := false }) tyT98
noncomputable def tyT274 : Tree (Option TI) := Tree.node Tree.leaf (some { k := TK.func, size := 1, bytes := 8, zero := [DV.nilfunc], eqc := false }) Tree.leaf
noncomputable def tyT402 : Tree (Option TI) := Tree.node Tree.leaf none Tree.leaf
noncomputable def tyT146 : Tree (Option TI) := Tree.node tyT274 (some { k := TK.struct [(0, 144)], size := 1, bytes := 8, zero := [DV.nilfunc], eqc := false }) tyT402
noncomputable def tyT338 : Tree (Option TI) := Tree.node Tree.leaf (some { k := TK.func, size := 1, bytes := 8, zero := [DV.nilfunc], eqc := false }) Tree.leaf
noncomputable def tyT210 : Tree (Option TI) := Tree.node tyT338 (some { k := TK.func, size := 1, bytes := 8, zero := [DV.nilfunc], eqc := false }) Tree.leaf
noncomputable def tyT82 : Tree (Option TI) := Tree.node tyT146 (some { k := TK.func, size := 1, bytes := 8, zero := [DV.nilfunc], eqc := false }) tyT210
noncomputable def tyT306 : Tree (Option TI) := Tree.node Tree.leaf (some { k := TK.func, size := 1, bytes := 8, zero := [DV.nilfunc], eqc := false }) Tree.leaf
noncomputable def tyT178 : Tree (Option TI) := Tree.node tyT306 (some { k := TK.int IntKind.u32, size := 1, bytes := 4, zero := [DV.int IntKind.u32 (0)], eqc := false }) Tree.leaf
noncomputable def tyT370 : Tree (Option TI) := Tree.node Tree.leaf (some { k := TK.func, size := 1, bytes := 8, zero := [DV.nilfunc], eqc := false }) Tree.leaf
noncomputable def tyT242 : Tree (Option TI) := Tree.node tyT370 (some { k := TK.func, size := 1, bytes := 8, zero := [DV.nilfunc], eqc := false }) Tree.leaf
noncomputable def tyT114 : Tree (Option TI) := Tree.node tyT178 (some { k := TK.array 7 113, size := 7, bytes := 56, zero := [DV.nilfunc, DV.nilfunc, DV.nilfunc, DV.nilfunc, DV.nilfunc, DV.nilfunc, DV.nilfunc], eqc := false }) tyT242
noncomputable def tyT50 : Tree (Option TI) := Tree.node tyT82 none tyT114
noncomputable def tyT18 : Tree (Option TI) := Tree.node tyT34 (some { k := TK.struct [(0, 17)], size := 1, bytes := 8, zero := [DV.nilptr], eqc := false }) tyT50
noncomputable def tyT266 : Tree (Option TI) := Tree.node Tree.leaf (some { k := TK.func, size := 1, bytes := 8, zero := [DV.nilfunc], eqc := false }) Tree.leaf
noncomputable def tyT394 : Tree (Option TI) := Tree.node Tree.leaf (some { k := TK.func, size := 1, bytes := 8, zero := [DV.nilfunc], eqc := false }) Tree.leaf
noncomputable def tyT138 : Tree (Option TI) := Tree.node tyT266 (some { k := TK.struct [(0, 9), (1, 57), (3, 3), (4, 3), (5, 3), (6, 3)], size := 7, bytes := 72, zero := [DV.str ⟨⟨[]⟩⟩, DV.str ⟨⟨[]⟩⟩, DV.int IntKind.i64 (0), DV.int IntKind.i64 (0), DV.int IntKind.i64 (0), DV.int IntKind.i64 (0), DV.int IntKind.i64 (0)], eqc := false }) tyT394
noncomputable def tyT330 : Tree (Option TI) := Tree.node Tree.leaf (some { k := TK.func, size := 1, bytes := 8, zero := [DV.nilfunc], eqc := false }) Tree.leaf
noncomputable def tyT202 : Tree (Option TI) := Tree.node tyT330 (some { k := TK.map 154 3, size := 1, bytes := 8, zero := [DV.nilmap], eqc := false }) Tree.leaf
noncomputable def tyT74 : Tree (Option TI) := Tree.node tyT138 (some { k := TK.func, size := 1, bytes := 8, zero := [DV.nilfunc], eqc := false }) tyT202
noncomputable def tyT298 : Tree (Option TI) := Tree.node Tree.leaf (some { k := TK.func, size := 1, bytes := 8, zero := [DV.nilfunc], eqc := false }) Tree.leaf
noncomputable def tyT426 : Tree (Option TI) := Tree.node Tree.leaf (some { k := TK.struct [(0, 12), (1, 12), (2, 178), (3, 419), (4, 5), (5, 5), (6, 420), (7, 421), (8, 422), (9, 423), (10, 424)], size := 11, bytes := 48, zero := [DV.int IntKind.u64 (0), DV.int IntKind.u64 (0), DV.int IntKind.u32 (0), DV.int IntKind.u8 (0), DV.int IntKind.u8 (0), DV.int IntKind.u8 (0), DV.int IntKind.u8 (0), DV.nilfunc, DV.nilptr, DV.int IntKind.i32 (0), DV.int IntKind.i32 (0)], eqc := false }) Tree.leaf
noncomputable def tyT170 : Tree (Option TI) := Tree.node tyT298 (some { k := TK.struct [(0, 57), (2, 57), (4, 3)], size := 5, bytes := 56, zero := [DV.str ⟨⟨[]⟩⟩, DV.int IntKind.i64 (0), DV.str ⟨⟨[]⟩⟩, DV.int IntKind.i64 (0), DV.int IntKind.i64 (0)], eqc := false }) tyT426
noncomputable def tyT362 : Tree (Option TI) := Tree.node Tree.leaf (some { k := TK.func, size := 1, bytes := 8, zero := [DV.nilfunc], eqc := false }) Tree.leaf
noncomputable def tyT234 : Tree (Option TI) := Tree.node tyT362 (some { k := TK.func, size := 1, bytes := 8, zero := [DV.nilfunc], eqc := false }) Tree.leaf
noncomputable def tyT106 : Tree (Option TI) := Tree.node tyT170 (some { k := TK.func, size := 1, bytes := 8, zero := [DV.nilfunc], eqc := false }) tyT234
noncomputable def tyT42 : Tree (Option TI) := Tree.node tyT74 none tyT106
noncomputable def tyT282 : Tree (Option TI) := Tree.node Tree.leaf (some { k := TK.array 7 277, size := 7, bytes := 56, zero := [DV.nilfunc, DV.nilfunc, DV.nilfunc, DV.nilfunc, DV.nilfunc, DV.nilfunc, DV.nilfunc], eqc := false }) Tree.leaf
noncomputable def tyT410 : Tree (Option TI) := Tree.node Tree.leaf (some { k := TK.func, size := 1, bytes := 8, zero := [DV.nilfunc], eqc := false }) Tree.leaf
noncomputable def tyT154 : Tree (Option TI) := Tree.node tyT282 (some { k := TK.array 2 3, size := 2, bytes := 16, zero := [DV.int IntKind.i64 (0), DV.int IntKind.i64 (0)], eqc := false }) tyT410
noncomputable def tyT346 : Tree (Option TI) := Tree.node Tree.leaf (some { k := TK.func, size := 1, bytes := 8, zero := [DV.nilfunc], eqc := false }) Tree.leaf
noncomputable def tyT218 : Tree (Option TI) := Tree.node tyT346 (some { k := TK.func, size := 1, bytes := 8, zero := [DV.nilfunc], eqc := false }) Tree.leaf
noncomputable def tyT90 : Tree (Option TI) := Tree.node tyT154 (some { k := TK.ptr 41, size := 1, bytes := 8, zero := [DV.nilptr], eqc := false }) tyT218
noncomputable def tyT314 : Tree (Option TI) := Tree.node Tree.leaf (some { k := TK.func, size := 1, bytes := 8, zero := [DV.nilfunc], eqc := false }) Tree.leaf
noncomputable def tyT186 : Tree (Option TI) := Tree.node tyT314 (some { k := TK.slice 9, size := 1, bytes := 24, zero := [DV.nsl], eqc := false }) Tree.leaf
noncomputable def tyT378 : Tree (Option TI) := Tree.node Tree.leaf none Tree.leaf
noncomputable def tyT250 : Tree (Option TI) := Tree.node tyT378 (some { k := TK.ptr 119, size := 1, bytes := 8, zero := [DV.nilptr], eqc := false }) Tree.leaf
noncomputable def tyT122 : Tree (Option TI) := Tree.node tyT186 (some { k := TK.func, size := 1, bytes := 8, zero := [DV.nilfunc], eqc := false }) tyT250
noncomputable def tyT58 : Tree (Option TI) := Tree.node tyT90 (some { k := TK.slice 57, size := 1, bytes := 24, zero := [DV.nsl], eqc := false }) tyT122
noncomputable def tyT26 : Tree (Option TI) := Tree.node tyT42 (some { k := TK.slice 174, size := 1, bytes := 24, zero := [DV.nsl], eqc := false }) tyT58
noncomputable def tyT10 : Tree (Option TI) := Tree.node tyT18 (some { k := TK.string, size := 1, bytes := 16, zero := [DV.str ⟨⟨[]⟩⟩], eqc := false }) tyT26
noncomputable def tyT262 : Tree (Option TI) := Tree.node Tree.leaf (some { k := TK.struct [(0, 9)], size := 1, bytes := 16, zero := [DV.str ⟨⟨[]⟩⟩], eqc := false }) Tree.leaf
noncomputable def tyT390 : Tree (Option TI) := Tree.node Tree.leaf (some { k := TK.func, size := 1, bytes := 8, zero := [DV.nilfunc], eqc := false }) Tree.leaf
noncomputable def tyT134 : Tree (Option TI) := Tree.node tyT262 (some { k := TK.func, size := 1, bytes := 8, zero := [DV.nilfunc], eqc := false }) tyT390
noncomputable def tyT326 : Tree (Option TI) := Tree.node Tree.leaf (some { k := TK.func, size := 1, bytes := 8, zero := [DV.nilfunc], eqc := false }) Tree.leaf
noncomputable def tyT198 : Tree (Option TI) := Tree.node tyT326 (some { k := TK.func, size := 1, bytes := 8, zero := [DV.nilfunc], eqc := false }) Tree.leaf
noncomputable def tyT70 : Tree (Option TI) := Tree.node tyT134 (some { k := TK.func, size := 1, bytes := 8, zero := [DV.nilfunc], eqc := false }) tyT198
noncomputable def tyT294 : Tree (Option TI) := Tree.node Tree.leaf (some { k := TK.func, size := 1, bytes := 8, zero := [DV.nilfunc], eqc := false }) Tree.leaf
noncomputable def tyT422 : Tree (Option TI) := Tree.node Tree.leaf (some { k := TK.ptr 5, size := 1, bytes := 8, zero := [DV.nilptr], eqc := false }) Tree.leaf
noncomputable def tyT166 : Tree (Option TI) := Tree.node tyT294 (some { k := TK.struct [(0, 164), (1, 3), (2, 3)], size := 3, bytes := 24, zero := [DV.nilptr, DV.int IntKind.i64 (0), DV.int IntKind.i64 (0)], eqc := false }) tyT422
noncomputable def tyT358 : Tree (Option TI) := Tree.node Tree.leaf (some { k := TK.func, size := 1, bytes := 8, zero := [DV.nilfunc], eqc := false }) Tree.leaf
noncomputable def tyT230 : Tree (Option TI) := Tree.node tyT358 (some { k := TK.func, size := 1, bytes := 8, zero := [DV.nilfunc], eqc := false }) Tree.leaf
noncomputable def tyT102 : Tree (Option TI) := Tree.node tyT166 (some { k := TK.array 7 4, size := 7, bytes := 7, zero := [DV.bool false, DV.bool false, DV.bool false, DV.bool false, DV.bool false, DV.bool false, DV.bool false], eqc := false }) tyT230
noncomputable def tyT38 : Tree (Option TI) := Tree.node tyT70 (some { k := TK.struct [(0, 3), (1, 36)], size := 2, bytes := 32, zero := [DV.int IntKind.i64 (0), DV.nsl], eqc := false }) tyT102
noncomputable def tyT278 : Tree (Option TI) := Tree.node Tree.leaf none Tree.leaf
noncomputable def tyT406 : Tree (Option TI) := Tree.node Tree.leaf (some { k := TK.func, size := 1, bytes := 8, zero := [DV.nilfunc], eqc := false }) Tree.leaf
noncomputable def tyT150 : Tree (Option TI) := Tree.node tyT278 (some { k := TK.func, size := 1, bytes := 8, zero := [DV.nilfunc], eqc := false }) tyT406
noncomputable def tyT342 : Tree (Option TI) := Tree.node Tree.leaf (some { k := TK.func, size := 1, bytes := 8, zero := [DV.nilfunc], eqc := false }) Tree.leaf
noncomputable def tyT214 : Tree (Option TI) := Tree.node tyT342 (some { k := TK.func, size := 1, bytes := 8, zero := [DV.nilfunc], eqc := false }) Tree.leaf
noncomputable def tyT86 : Tree (Option TI) := Tree.node tyT150 (some { k := TK.func, size := 1, bytes := 8, zero := [DV.nilfunc], eqc := false }) tyT214
noncomputable def tyT310 : Tree (Option TI) := Tree.node Tree.leaf (some { k := TK.func, size := 1, bytes := 8, zero := [DV.nilfunc], eqc := false }) Tree.leaf
noncomputable def tyT182 : Tree (Option TI) := Tree.node tyT310 (some { k := TK.func, size := 1, bytes := 8, zero := [DV.nilfunc], eqc := false }) Tree.leaf
noncomputable def tyT374 : Tree (Option TI) := Tree.node Tree.leaf (some { k := TK.ptr 333, size := 1, bytes := 8, zero := [DV.nilptr], eqc := false }) Tree.leaf
noncomputable def tyT246 : Tree (Option TI) := Tree.node tyT374 (some { k := TK.func, size := 1, bytes := 8, zero := [DV.nilfunc], eqc := false }) Tree.leaf
noncomputable def tyT118 : Tree (Option TI) := Tree.node tyT182 (some { k := TK.struct [(0, 9), (1, 3), (2, 57), (4, 57), (6, 3), (7, 101), (10, 101), (13, 102), (20, 3)], size := 21, bytes := 144, zero := [DV.str ⟨⟨[]⟩⟩, DV.int IntKind.i64 (0), DV.str ⟨⟨[]⟩⟩, DV.int IntKind.i64 (0), DV.str ⟨⟨[]⟩⟩, DV.int IntKind.i64 (0), DV.int IntKind.i64 (0), DV.int IntKind.i64 (0), DV.int IntKind.i64 (0), DV.int IntKind.i64 (0), DV.int IntKind.i64 (0), DV.int IntKind.i64 (0), DV.int IntKind.i64 (0), DV.bool false, DV.bool false, DV.bool false, DV.bool false, DV.bool false, DV.bool false, DV.bool false, DV.int IntKind.i64 (0)], eqc := false }) tyT246
noncomputable def tyT54 : Tree (Option TI) := Tree.node tyT86 (some { k := TK.struct [(0, 3), (1, 3), (2, 3)], size := 3, bytes := 24, zero := [DV.int IntKind.i64 (0), DV.int IntKind.i64 (0), DV.int IntKind.i64 (0)], eqc := true }) tyT118
noncomputable def tyT22 : Tree (Option TI) := Tree.node tyT38 (some { k := TK.slice 262, size := 1, bytes := 24, zero := [DV.nsl], eqc := false }) tyT54
noncomputable def tyT270 : Tree (Option TI) := Tree.node Tree.leaf (some { k := TK.func, size := 1, bytes := 8, zero := [DV.nilfunc], eqc := false }) Tree.leaf
noncomputable def tyT398 : Tree (Option TI) := Tree.node Tree.leaf (some { k := TK.func, size := 1, bytes := 8, zero := [DV.nilfunc], eqc := false }) Tree.leaf
noncomputable def tyT142 : Tree (Option TI) := Tree.node tyT270 (some { k := TK.func, size := 1, bytes := 8, zero := [DV.nilfunc], eqc := false }) tyT398
noncomputable def tyT334 : Tree (Option TI) := Tree.node Tree.leaf (some { k := TK.func, size := 1, bytes := 8, zero := [DV.nilfunc], eqc := false }) Tree.leaf
noncomputable def tyT206 : Tree (Option TI) := Tree.node tyT334 (some { k := TK.ptr 208, size := 1, bytes := 8, zero := [DV.nilptr], eqc := false }) Tree.leaf
noncomputable def tyT78 : Tree (Option TI) := Tree.node tyT142 (some { k := TK.func, size := 1, bytes := 8, zero := [DV.nilfunc], eqc := false }) tyT206
noncomputable def tyT302 : Tree (Option TI) := Tree.node Tree.leaf (some { k := TK.func, size := 1, bytes := 8, zero := [DV.nilfunc], eqc := false }) Tree.leaf
noncomputable def tyT174 : Tree (Option TI) := Tree.node tyT302 (some { k := TK.struct [(0, 9), (1, 57), (3, 3)], size := 4, bytes := 48, zero := [DV.str ⟨⟨[]⟩⟩, DV.str ⟨⟨[]⟩⟩, DV.int IntKind.i64 (0), DV.int IntKind.i64 (0)], eqc := false }) Tree.leaf
noncomputable def tyT366 : Tree (Option TI) := Tree.node Tree.leaf (some { k := TK.func, size := 1, bytes := 8, zero := [DV.nilfunc], eqc := false }) Tree.leaf
noncomputable def tyT238 : Tree (Option TI) := Tree.node tyT366 (some { k := TK.func, size := 1, bytes := 8, zero := [DV.nilfunc], eqc := false }) Tree.leaf
noncomputable def tyT110 : Tree (Option TI) := Tree.node tyT174 (some { k := TK.struct [], size := 0, bytes := 0, zero := [], eqc := false }) tyT238
noncomputable def tyT46 : Tree (Option TI) := Tree.node tyT78 (some { k := TK.func, size := 1, bytes := 8, zero := [DV.nilfunc], eqc := false }) tyT110
noncomputable def tyT286 : Tree (Option TI) := Tree.node Tree.leaf (some { k := TK.func, size := 1, bytes := 8, zero := [DV.nilfunc], eqc := false }) Tree.leaf
noncomputable def tyT414 : Tree (Option TI) := Tree.node Tree.leaf (some { k := TK.struct [(0, 17), (1, 17), (2, 17), (3, 9)], size := 4, bytes := 40, zero := [DV.nilptr, DV.nilptr, DV.nilptr, DV.str ⟨⟨[]⟩⟩], eqc := false }) Tree.leaf
noncomputable def tyT158 : Tree (Option TI) := Tree.node tyT286 none tyT414
noncomputable def tyT350 : Tree (Option TI) := Tree.node Tree.leaf (some { k := TK.func, size := 1, bytes := 8, zero := [DV.nilfunc], eqc := false }) Tree.leaf
noncomputable def tyT222 : Tree (Option TI) := Tree.node tyT350 (some { k := TK.array 4 146, size := 4, bytes := 32, zero := [DV.nilfunc, DV.nilfunc, DV.nilfunc, DV.nilfunc], eqc := false }) Tree.leaf
noncomputable def tyT94 : Tree (Option TI) := Tree.node tyT158 (some { k := TK.struct [(0, 3), (1, 3), (2, 9), (3, 92)], size := 4, bytes := 56, zero := [DV.int IntKind.i64 (0), DV.int IntKind.i64 (0), DV.str ⟨⟨[]⟩⟩, DV.nsl], eqc := false }) tyT222
noncomputable def tyT318 : Tree (Option TI) := Tree.node Tree.leaf (some { k := TK.func, size := 1, bytes := 8, zero := [DV.nilfunc], eqc := false }) Tree.leaf
noncomputable def tyT190 : Tree (Option TI) := Tree.node tyT318 (some { k := TK.func, size := 1, bytes := 8, zero := [DV.nilfunc], eqc := false }) Tree.leaf
noncomputable def tyT382 : Tree (Option TI) := Tree.node Tree.leaf none Tree.leaf
noncomputable def tyT254 : Tree (Option TI) := Tree.node tyT382 (some { k := TK.func, size := 1, bytes := 8, zero := [DV.nilfunc], eqc := false }) Tree.leaf
noncomputable def tyT126 : Tree (Option TI) := Tree.node tyT190 (some { k := TK.func, size := 1, bytes := 8, zero := [DV.nilfunc], eqc := false }) tyT254
noncomputable def tyT62 : Tree (Option TI) := Tree.node tyT94 (some { k := TK.struct [(0, 3), (1, 3), (2, 3)], size := 3, bytes := 24, zero := [DV.int IntKind.i64 (0), DV.int IntKind.i64 (0), DV.int IntKind.i64 (0)], eqc := false }) tyT126
noncomputable def tyT30 : Tree (Option TI) := Tree.node tyT46 (some { k := TK.slice 3, size := 1, bytes := 24, zero := [DV.nsl], eqc := false }) tyT62
noncomputable def tyT14 : Tree (Option TI) := Tree.node tyT22 (some { k := TK.struct [(0, 9), (1, 12)], size := 2, bytes := 24, zero := [DV.str ⟨⟨[]⟩⟩, DV.int IntKind.u64 (0)], eqc := false }) tyT30
noncomputable def tyT6 : Tree (Option TI) := Tree.node tyT10 (some { k := TK.int IntKind.u8, size := 1, bytes := 1, zero := [DV.int IntKind.u8 (0)], eqc := false }) tyT14
noncomputable def tyT2 : Tree (Option TI) := Tree.node tyT4 (some { k := TK.int IntKind.i64, size := 1, bytes := 8, zero := [DV.int IntKind.i64 (0)], eqc := false }) tyT6
noncomputable def tyT0 : Tree (Option TI) := Tree.node tyT1 none tyT2
noncomputable def fnT255 : Tree (Option FI) := Tree.node Tree.leaf (some (fiOf Go.Proofs.Tryz.f255)) Tree.leaf
noncomputable def fnT383 : Tree (Option FI) := Tree.node Tree.leaf none Tree.leaf
noncomputable def fnT127 : Tree (Option FI) := Tree.node fnT255 (some (fiOf Go.Proofs.Tryz.f127)) fnT383
noncomputable def fnT319 : Tree (Option FI) := Tree.node Tree.leaf (some (fiOf Go.Proofs.Tryz.f319)) Tree.leaf
noncomputable def fnT191 : Tree (Option FI) := Tree.node fnT319 (some (fiOf Go.Proofs.Tryz.f191)) Tree.leaf
noncomputable def fnT63 : Tree (Option FI) := Tree.node fnT127 (some (fiOf Go.Proofs.Tryz.f63)) fnT191
noncomputable def fnT287 : Tree (Option FI) := Tree.node Tree.leaf (some (fiOf Go.Proofs.Tryz.f287)) Tree.leaf
noncomputable def fnT159 : Tree (Option FI) := Tree.node fnT287 (some (fiOf Go.Proofs.Tryz.f159)) Tree.leaf
noncomputable def fnT351 : Tree (Option FI) := Tree.node Tree.leaf none Tree.leaf
noncomputable def fnT223 : Tree (Option FI) := Tree.node fnT351 (some (fiOf Go.Proofs.Tryz.f223)) Tree.leaf
noncomputable def fnT95 : Tree (Option FI) := Tree.node fnT159 (some (fiOf Go.Proofs.Tryz.f95)) fnT223
noncomputable def fnT31 : Tree (Option FI) := Tree.node fnT63 (some (fiOf Go.Proofs.Tryz.f31)) fnT95
noncomputable def fnT271 : Tree (Option FI) := Tree.node Tree.leaf (some (fiOf Go.Proofs.Tryz.f271)) Tree.leaf
noncomputable def fnT143 : Tree (Option FI) := Tree.node fnT271 (some (fiOf Go.Proofs.Tryz.f143)) Tree.leaf
noncomputable def fnT335 : Tree (Option FI) := Tree.node Tree.leaf (some (fiOf Go.Proofs.Tryz.f335)) Tree.leaf
noncomputable def fnT207 : Tree (Option FI) := Tree.node fnT335 (some (fiOf Go.Proofs.Tryz.f207)) Tree.leaf
noncomputable def fnT79 : Tree (Option FI) := Tree.node fnT143 (some (fiOf Go.Proofs.Tryz.f79)) fnT207
noncomputable def fnT303 : Tree (Option FI) := Tree.node Tree.leaf (some (fiOf Go.Proofs.Tryz.f303)) Tree.leaf
noncomputable def fnT175 : Tree (Option FI) := Tree.node fnT303 (some (fiOf Go.Proofs.Tryz.f175)) Tree.leaf
noncomputable def fnT367 : Tree (Option FI) := Tree.node Tree.leaf (some (fiOf Go.Proofs.Tryz.f367)) Tree.leaf
noncomputable def fnT239 : Tree (Option FI) := Tree.node fnT367 (some (fiOf Go.Proofs.Tryz.f239)) Tree.leaf
noncomputable def fnT111 : Tree (Option FI) := Tree.node fnT175 (some (fiOf Go.Proofs.Tryz.f111)) fnT239
noncomputable def fnT47 : Tree (Option FI) := Tree.node fnT79 (some (fiOf Go.Proofs.Tryz.f47)) fnT111
noncomputable def fnT15 : Tree (Option FI) := Tree.node fnT31 (some (fiOf Go.Proofs.Tryz.f15)) fnT47
noncomputable def fnT263 : Tree (Option FI) := Tree.node Tree.leaf (some (fiOf Go.Proofs.Tryz.f263)) Tree.leaf
noncomputable def fnT391 : Tree (Option FI) := Tree.node Tree.leaf none Tree.leaf
noncomputable def fnT135 : Tree (Option FI) := Tree.node fnT263 (some (fiOf Go.Proofs.Tryz.f135)) fnT391
noncomputable def fnT327 : Tree (Option FI) := Tree.node Tree.leaf (some (fiOf Go.Proofs.Tryz.f327)) Tree.leaf
noncomputable def fnT199 : Tree (Option FI) := Tree.node fnT327 (some (fiOf Go.Proofs.Tryz.f199)) Tree.leaf
noncomputable def fnT71 : Tree (Option FI) := Tree.node fnT135 (some (fiOf Go.Proofs.Tryz.f71)) fnT199
noncomputable def fnT295 : Tree (Option FI) := Tree.node Tree.leaf (some (fiOf Go.Proofs.Tryz.f295)) Tree.leaf
noncomputable def fnT167 : Tree (Option FI) := Tree.node fnT295 (some (fiOf Go.Proofs.Tryz.f167)) Tree.leaf
noncomputable def fnT359 : Tree (Option FI) := Tree.node Tree.leaf none Tree.leaf
noncomputable def fnT231 : Tree (Option FI) := Tree.node fnT359 (some (fiOf Go.Proofs.Tryz.f231)) Tree.leaf
noncomputable def fnT103 : Tree (Option FI) := Tree.node fnT167 (some (fiOf Go.Proofs.Tryz.f103)) fnT231
noncomputable def fnT39 : Tree (Option FI) := Tree.node fnT71 (some (fiOf Go.Proofs.Tryz.f39)) fnT103
noncomputable def fnT279 : Tree (Option FI) := Tree.node Tree.leaf (some (fiOf Go.Proofs.Tryz.f279)) Tree.leaf
noncomputable def fnT151 : Tree (Option FI) := Tree.node fnT279 (some (fiOf Go.Proofs.Tryz.f151)) Tree.leaf
noncomputable def fnT343 : Tree (Option FI) := Tree.node Tree.leaf (some (fiOf Go.Proofs.Tryz.f343)) Tree.leaf
noncomputable def fnT215 : Tree (Option FI) := Tree.node fnT343 (some (fiOf Go.Proofs.Tryz.f215)) Tree.leaf
noncomputable def fnT87 : Tree (Option FI) := Tree.node fnT151 (some (fiOf Go.Proofs.Tryz.f87)) fnT215
noncomputable def fnT311 : Tree (Option FI) := Tree.node Tree.leaf (some (fiOf Go.Proofs.Tryz.f311)) Tree.leaf
noncomputable def fnT183 : Tree (Option FI) := Tree.node fnT311 (some (fiOf Go.Proofs.Tryz.f183)) Tree.leaf
noncomputable def fnT375 : Tree (Option FI) := Tree.node Tree.leaf none Tree.leaf
noncomputable def fnT247 : Tree (Option FI) := Tree.node fnT375 (some (fiOf Go.Proofs.Tryz.f247)) Tree.leaf
noncomputable def fnT119 : Tree (Option FI) := Tree.node fnT183 (some (fiOf Go.Proofs.Tryz.f119)) fnT247
noncomputable def fnT55 : Tree (Option FI) := Tree.node fnT87 (some (fiOf Go.Proofs.Tryz.f55)) fnT119
noncomputable def fnT23 : Tree (Option FI) := Tree.node fnT39 (some (fiOf Go.Proofs.Tryz.f23)) fnT55
noncomputable def fnT7 : Tree (Option FI) := Tree.node fnT15 (some (fiOf Go.Proofs.Tryz.f7)) fnT23
noncomputable def fnT259 : Tree (Option FI) := Tree.node Tree.leaf (some (fiOf Go.Proofs.Tryz.f259)) Tree.leaf
noncomputable def fnT387 : Tree (Option FI) := Tree.node Tree.leaf none Tree.leaf
noncomputable def fnT131 : Tree (Option FI) := Tree.node fnT259 (some (fiOf Go.Proofs.Tryz.f131)) fnT387
noncomputable def fnT323 : Tree (Option FI) := Tree.node Tree.leaf (some (fiOf Go.Proofs.Tryz.f323)) Tree.leaf
noncomputable def fnT195 : Tree (Option FI) := Tree.node fnT323 (some (fiOf Go.Proofs.Tryz.f195)) Tree.leaf
noncomputable def fnT67 : Tree (Option FI) := Tree.node fnT131 (some (fiOf Go.Proofs.Tryz.f67)) fnT195
noncomputable def fnT291 : Tree (Option FI) := Tree.node Tree.leaf (some (fiOf Go.Proofs.Tryz.f291)) Tree.leaf
noncomputable def fnT163 : Tree (Option FI) := Tree.node fnT291 (some (fiOf Go.Proofs.Tryz.f163)) Tree.leaf
noncomputable def fnT355 : Tree (Option FI) := Tree.node Tree.leaf (some (fiOf Go.Proofs.Tryz.f355)) Tree.leaf
noncomputable def fnT227 : Tree (Option FI) := Tree.node fnT355 (some (fiOf Go.Proofs.Tryz.f227)) Tree.leaf
noncomputable def fnT99 : Tree (Option FI) := Tree.node fnT163 (some (fiOf Go.Proofs.Tryz.f99)) fnT227
noncomputable def fnT35 : Tree (Option FI) := Tree.node fnT67 (some (fiOf Go.Proofs.Tryz.f35)) fnT99
noncomputable def fnT275 : Tree (Option FI) := Tree.node Tree.leaf (some (fiOf Go.Proofs.Tryz.f275)) Tree.leaf
noncomputable def fnT147 : Tree (Option FI) := Tree.node fnT275 (some (fiOf Go.Proofs.Tryz.f147)) Tree.leaf
noncomputable def fnT339 : Tree (Option FI) := Tree.node Tree.leaf (some (fiOf Go.Proofs.Tryz.f339)) Tree.leaf
noncomputable def fnT211 : Tree (Option FI) := Tree.node fnT339 (some (fiOf Go.Proofs.Tryz.f211)) Tree.leaf
noncomputable def fnT83 : Tree (Option FI) := Tree.node fnT147 (some (fiOf Go.Proofs.Tryz.f83)) fnT211
noncomputable def fnT307 : Tree (Option FI) := Tree.node Tree.leaf (some (fiOf Go.Proofs.Tryz.f307)) Tree.leaf
noncomputable def fnT179 : Tree (Option FI) := Tree.node fnT307 (some (fiOf Go.Proofs.Tryz.f179)) Tree.leaf
noncomputable def fnT371 : Tree (Option FI) := Tree.node Tree.leaf (some (fiOf Go.Proofs.Tryz.f371)) Tree.leaf
noncomputable def fnT243 : Tree (Option FI) := Tree.node fnT371 (some (fiOf Go.Proofs.Tryz.f243)) Tree.leaf
noncomputable def fnT115 : Tree (Option FI) := Tree.node fnT179 (some (fiOf Go.Proofs.Tryz.f115)) fnT243
noncomputable def fnT51 : Tree (Option FI) := Tree.node fnT83 (some (fiOf Go.Proofs.Tryz.f51)) fnT115
noncomputable def fnT19 : Tree (Option FI) := Tree.node fnT35 (some (fiOf Go.Proofs.Tryz.f19)) fnT51
noncomputable def fnT267 : Tree (Option FI) := Tree.node Tree.leaf (some (fiOf Go.Proofs.Tryz.f267)) Tree.leaf
noncomputable def fnT395 : Tree (Option FI) := Tree.node Tree.leaf none Tree.leaf
noncomputable def fnT139 : Tree (Option FI) := Tree.node fnT267 (some (fiOf Go.Proofs.Tryz.f139)) fnT395
noncomputable def fnT331 : Tree (Option FI) := Tree.node Tree.leaf (some (fiOf Go.Proofs.Tryz.f331)) Tree.leaf
noncomputable def fnT203 : Tree (Option FI) := Tree.node fnT331 (some (fiOf Go.Proofs.Tryz.f203)) Tree.leaf
noncomputable def fnT75 : Tree (Option FI) := Tree.node fnT139 (some (fiOf Go.Proofs.Tryz.f75)) fnT203
noncomputable def fnT299 : Tree (Option FI) := Tree.node Tree.leaf (some (fiOf Go.Proofs.Tryz.f299)) Tree.leaf
noncomputable def fnT171 : Tree (Option FI) := Tree.node fnT299 (some (fiOf Go.Proofs.Tryz.f171)) Tree.leaf
noncomputable def fnT363 : Tree (Option FI) := Tree.node Tree.leaf (some (fiOf Go.Proofs.Tryz.f363)) Tree.leaf
noncomputable def fnT235 : Tree (Option FI) := Tree.node fnT363 (some (fiOf Go.Proofs.Tryz.f235)) Tree.leaf
noncomputable def fnT107 : Tree (Option FI) := Tree.node fnT171 (some (fiOf Go.Proofs.Tryz.f107)) fnT235
noncomputable def fnT43 : Tree (Option FI) := Tree.node fnT75 (some (fiOf Go.Proofs.Tryz.f43)) fnT107
noncomputable def fnT283 : Tree (Option FI) := Tree.node Tree.leaf (some (fiOf Go.Proofs.Tryz.f283)) Tree.leaf
noncomputable def fnT155 : Tree (Option FI) := Tree.node fnT283 (some (fiOf Go.Proofs.Tryz.f155)) Tree.leaf
noncomputable def fnT347 : Tree (Option FI) := Tree.node Tree.leaf (some (fiOf Go.Proofs.Tryz.f347)) Tree.leaf
noncomputable def fnT219 : Tree (Option FI) := Tree.node fnT347 (some (fiOf Go.Proofs.Tryz.f219)) Tree.leaf
noncomputable def fnT91 : Tree (Option FI) := Tree.node fnT155 (some (fiOf Go.Proofs.Tryz.f91)) fnT219
noncomputable def fnT315 : Tree (Option FI) := Tree.node Tree.leaf (some (fiOf Go.Proofs.Tryz.f315)) Tree.leaf
noncomputable def fnT187 : Tree (Option FI) := Tree.node fnT315 (some (fiOf Go.Proofs.Tryz.f187)) Tree.leaf
noncomputable def fnT379 : Tree (Option FI) := Tree.node Tree.leaf none Tree.leaf
noncomputable def fnT251 : Tree (Option FI) := Tree.node fnT379 (some (fiOf Go.Proofs.Tryz.f251)) Tree.leaf
noncomputable def fnT123 : Tree (Option FI) := Tree.node fnT187 (some (fiOf Go.Proofs.Tryz.f123)) fnT251
noncomputable def fnT59 : Tree (Option FI) := Tree.node fnT91 (some (fiOf Go.Proofs.Tryz.f59)) fnT123
noncomputable def fnT27 : Tree (Option FI) := Tree.node fnT43 (some (fiOf Go.Proofs.Tryz.f27)) fnT59
noncomputable def fnT11 : Tree (Option FI) := Tree.node fnT19 (some (fiOf Go.Proofs.Tryz.f11)) fnT27
noncomputable def fnT3 : Tree (Option FI) := Tree.node fnT7 (some (fiOf Go.Proofs.Tryz.f3)) fnT11
noncomputable def fnT257 : Tree (Option FI) := Tree.node Tree.leaf (some (fiOf Go.Proofs.Tryz.f257)) Tree.leaf
noncomputable def fnT385 : Tree (Option FI) := Tree.node Tree.leaf none Tree.leaf
noncomputable def fnT129 : Tree (Option FI) := Tree.node fnT257 (some (fiOf Go.Proofs.Tryz.f129)) fnT385
noncomputable def fnT321 : Tree (Option FI) := Tree.node Tree.leaf (some (fiOf Go.Proofs.Tryz.f321)) Tree.leaf
noncomputable def fnT193 : Tree (Option FI) := Tree.node fnT321 (some (fiOf Go.Proofs.Tryz.f193)) Tree.leaf
noncomputable def fnT65 : Tree (Option FI) := Tree.node fnT129 (some (fiOf Go.Proofs.Tryz.f65)) fnT193
noncomputable def fnT289 : Tree (Option FI) := Tree.node Tree.leaf (some (fiOf Go.Proofs.Tryz.f289)) Tree.leaf
noncomputable def fnT161 : Tree (Option FI) := Tree.node fnT289 (some (fiOf Go.Proofs.Tryz.f161)) Tree.leaf
noncomputable def fnT353 : Tree (Option FI) := Tree.node Tree.leaf (some (fiOf Go.Proofs.Tryz.f353)) Tree.leaf
noncomputable def fnT225 : Tree (Option FI) := Tree.node fnT353 (some (fiOf Go.Proofs.Tryz.f225)) Tree.leaf
noncomputable def fnT97 : Tree (Option FI) := Tree.node fnT161 (some (fiOf Go.Proofs.Tryz.f97)) fnT225
noncomputable def fnT33 : Tree (Option FI) := Tree.node fnT65 (some (fiOf Go.Proofs.Tryz.f33)) fnT97
noncomputable def fnT273 : Tree (Option FI) := Tree.node Tree.leaf (some (fiOf Go.Proofs.Tryz.f273)) Tree.leaf
noncomputable def fnT145 : Tree (Option FI) := Tree.node fnT273 (some (fiOf Go.Proofs.Tryz.f145)) Tree.leaf
noncomputable def fnT337 : Tree (Option FI) := Tree.node Tree.leaf (some (fiOf Go.Proofs.Tryz.f337)) Tree.leaf
noncomputable def fnT209 : Tree (Option FI) := Tree.node fnT337 (some (fiOf Go.Proofs.Tryz.f209)) Tree.leaf
noncomputable def fnT81 : Tree (Option FI) := Tree.node fnT145 (some (fiOf Go.Proofs.Tryz.f81)) fnT209
noncomputable def fnT305 : Tree (Option FI) := Tree.node Tree.leaf (some (fiOf Go.Proofs.Tryz.f305)) Tree.leaf
noncomputable def fnT177 : Tree (Option FI) := Tree.node fnT305 (some (fiOf Go.Proofs.Tryz.f177)) Tree.leaf
noncomputable def fnT369 : Tree (Option FI) := Tree.node Tree.leaf (some (fiOf Go.Proofs.Tryz.f369)) Tree.leaf
noncomputable def fnT241 : Tree (Option FI) := Tree.node fnT369 (some (fiOf Go.Proofs.Tryz.f241)) Tree.leaf
noncomputable def fnT113 : Tree (Option FI) := Tree.node fnT177 (some (fiOf Go.Proofs.Tryz.f113)) fnT241
noncomputable def fnT49 : Tree (Option FI) := Tree.node fnT81 (some (fiOf Go.Proofs.Tryz.f49)) fnT113
noncomputable def fnT17 : Tree (Option FI) := Tree.node fnT33 (some (fiOf Go.Proofs.Tryz.f17)) fnT49
noncomputable def fnT265 : Tree (Option FI) := Tree.node Tree.leaf (some (fiOf Go.Proofs.Tryz.f265)) Tree.leaf
noncomputable def fnT393 : Tree (Option FI) := Tree.node Tree.leaf none Tree.leaf
noncomputable def fnT137 : Tree (Option FI) := Tree.node fnT265 (some (fiOf Go.Proofs.Tryz.f137)) fnT393
noncomputable def fnT329 : Tree (Option FI) := Tree.node Tree.leaf (some (fiOf Go.Proofs.Tryz.f329)) Tree.leaf
noncomputable def fnT201 : Tree (Option FI) := Tree.node fnT329 (some (fiOf Go.Proofs.Tryz.f201)) Tree.leaf
noncomputable def fnT73 : Tree (Option FI) := Tree.node fnT137 (some (fiOf Go.Proofs.Tryz.f73)) fnT201
noncomputable def fnT297 : Tree (Option FI) := Tree.node Tree.leaf (some (fiOf Go.Proofs.Tryz.f297)) Tree.leaf
noncomputable def fnT169 : Tree (Option FI) := Tree.node fnT297 (some (fiOf Go.Proofs.Tryz.f169)) Tree.leaf
noncomputable def fnT361 : Tree (Option FI) := Tree.node Tree.leaf (some (fiOf Go.Proofs.Tryz.f361)) Tree.leaf
noncomputable def fnT233 : Tree (Option FI) := Tree.node fnT361 (some (fiOf Go.Proofs.Tryz.f233)) Tree.leaf
noncomputable def fnT105 : Tree (Option FI) := Tree.node fnT169 (some (fiOf Go.Proofs.Tryz.f105)) fnT233
noncomputable def fnT41 : Tree (Option FI) := Tree.node fnT73 (some (fiOf Go.Proofs.Tryz.f41)) fnT105
noncomputable def fnT281 : Tree (Option FI) := Tree.node Tree.leaf (some (fiOf Go.Proofs.Tryz.f281)) Tree.leaf
noncomputable def fnT153 : Tree (Option FI) := Tree.node fnT281 (some (fiOf Go.Proofs.Tryz.f153)) Tree.leaf
noncomputable def fnT345 : Tree (Option FI) := Tree.node Tree.leaf (some (fiOf Go.Proofs.Tryz.f345)) Tree.leaf
noncomputable def fnT217 : Tree (Option FI) := Tree.node fnT345 (some (fiOf Go.Proofs.Tryz.f217)) Tree.leaf
noncomputable def fnT89 : Tree (Option FI) := Tree.node fnT153 (some (fiOf Go.Proofs.Tryz.f89)) fnT217
noncomputable def fnT313 : Tree (Option FI) := Tree.node Tree.leaf (some (fiOf Go.Proofs.Tryz.f313)) Tree.leaf
noncomputable def fnT185 : Tree (Option FI) := Tree.node fnT313 (some (fiOf Go.Proofs.Tryz.f185)) Tree.leaf
noncomputable def fnT377 : Tree (Option FI) := Tree.node Tree.leaf none Tree.leaf
noncomputable def fnT249 : Tree (Option FI) := Tree.node fnT377 (some (fiOf Go.Proofs.Tryz.f249)) Tree.leaf
noncomputable def fnT121 : Tree (Option FI) := Tree.node fnT185 (some (fiOf Go.Proofs.Tryz.f121)) fnT249
noncomputable def fnT57 : Tree (Option FI) := Tree.node fnT89 (some (fiOf Go.Proofs.Tryz.f57)) fnT121
noncomputable def fnT25 : Tree (Option FI) := Tree.node fnT41 (some (fiOf Go.Proofs.Tryz.f25)) fnT57
noncomputable def fnT9 : Tree (Option FI) := Tree.node fnT17 (some (fiOf Go.Proofs.Tryz.f9)) fnT25
noncomputable def fnT261 : Tree (Option FI) := Tree.node Tree.leaf (some (fiOf Go.Proofs.Tryz.f261)) Tree.leaf
noncomputable def fnT389 : Tree (Option FI) := Tree.node Tree.leaf none Tree.leaf
noncomputable def fnT133 : Tree (Option FI) := Tree.node fnT261 (some (fiOf Go.Proofs.Tryz.f133)) fnT389
noncomputable def fnT325 : Tree (Option FI) := Tree.node Tree.leaf (some (fiOf Go.Proofs.Tryz.f325)) Tree.leaf
noncomputable def fnT197 : Tree (Option FI) := Tree.node fnT325 (some (fiOf Go.Proofs.Tryz.f197)) Tree.leaf
noncomputable def fnT69 : Tree (Option FI) := Tree.node fnT133 (some (fiOf Go.Proofs.Tryz.f69)) fnT197
noncomputable def fnT293 : Tree (Option FI) := Tree.node Tree.leaf (some (fiOf Go.Proofs.Tryz.f293)) Tree.leaf
noncomputable def fnT165 : Tree (Option FI) := Tree.node fnT293 (some (fiOf Go.Proofs.Tryz.f165)) Tree.leaf
noncomputable def fnT357 : Tree (Option FI) := Tree.node Tree.leaf (some (fiOf Go.Proofs.Tryz.f357)) Tree.leaf
noncomputable def fnT229 : Tree (Option FI) := Tree.node fnT357 (some (fiOf Go.Proofs.Tryz.f229)) Tree.leaf
noncomputable def fnT101 : Tree (Option FI) := Tree.node fnT165 (some (fiOf Go.Proofs.Tryz.f101)) fnT229
noncomputable def fnT37 : Tree (Option FI) := Tree.node fnT69 (some (fiOf Go.Proofs.Tryz.f37)) fnT101
noncomputable def fnT277 : Tree (Option FI) := Tree.node Tree.leaf (some (fiOf Go.Proofs.Tryz.f277)) Tree.leaf
noncomputable def fnT149 : Tree (Option FI) := Tree.node fnT277 (some (fiOf Go.Proofs.Tryz.f149)) Tree.leaf
noncomputable def fnT341 : Tree (Option FI) := Tree.node Tree.leaf (some (fiOf Go.Proofs.Tryz.f341)) Tree.leaf
noncomputable def fnT213 : Tree (Option FI) := Tree.node fnT341 (some (fiOf Go.Proofs.Tryz.f213)) Tree.leaf
noncomputable def fnT85 : Tree (Option FI) := Tree.node fnT149 (some (fiOf Go.Proofs.Tryz.f85)) fnT213
noncomputable def fnT309 : Tree (Option FI) := Tree.node Tree.leaf (some (fiOf Go.Proofs.Tryz.f309)) Tree.leaf
noncomputable def fnT181 : Tree (Option FI) := Tree.node fnT309 (some (fiOf Go.Proofs.Tryz.f181)) Tree.leaf
noncomputable def fnT373 : Tree (Option FI) := Tree.node Tree.leaf (some (fiOf Go.Proofs.Tryz.f373)) Tree.leaf
noncomputable def fnT245 : Tree (Option FI) := Tree.node fnT373 (some (fiOf Go.Proofs.Tryz.f245)) Tree.leaf
noncomputable def fnT117 : Tree (Option FI) := Tree.node fnT181 (some (fiOf Go.Proofs.Tryz.f117)) fnT245
noncomputable def fnT53 : Tree (Option FI) := Tree.node fnT85 (some (fiOf Go.Proofs.Tryz.f53)) fnT117
noncomputable def fnT21 : Tree (Option FI) := Tree.node fnT37 (some (fiOf Go.Proofs.Tryz.f21)) fnT53
noncomputable def fnT269 : Tree (Option FI) := Tree.node Tree.leaf (some (fiOf Go.Proofs.Tryz.f269)) Tree.leaf
noncomputable def fnT397 : Tree (Option FI) := Tree.node Tree.leaf (some (fiOf Go.Proofs.Tryz.f397)) Tree.leaf
noncomputable def fnT141 : Tree (Option FI) := Tree.node fnT269 (some (fiOf Go.Proofs.Tryz.f141)) fnT397
noncomputable def fnT333 : Tree (Option FI) := Tree.node Tree.leaf (some (fiOf Go.Proofs.Tryz.f333)) Tree.leaf
noncomputable def fnT205 : Tree (Option FI) := Tree.node fnT333 (some (fiOf Go.Proofs.Tryz.f205)) Tree.leaf
noncomputable def fnT77 : Tree (Option FI) := Tree.node fnT141 (some (fiOf Go.Proofs.Tryz.f77)) fnT205
noncomputable def fnT301 : Tree (Option FI) := Tree.node Tree.leaf (some (fiOf Go.Proofs.Tryz.f301)) Tree.leaf
noncomputable def fnT173 : Tree (Option FI) := Tree.node fnT301 (some (fiOf Go.Proofs.Tryz.f173)) Tree.leaf
noncomputable def fnT365 : Tree (Option FI) := Tree.node Tree.leaf (some (fiOf Go.Proofs.Tryz.f365)) Tree.leaf
noncomputable def fnT237 : Tree (Option FI) := Tree.node fnT365 (some (fiOf Go.Proofs.Tryz.f237)) Tree.leaf
noncomputable def fnT109 : Tree (Option FI) := Tree.node fnT173 (some (fiOf Go.Proofs.Tryz.f109)) fnT237
noncomputable def fnT45 : Tree (Option FI) := Tree.node fnT77 (some (fiOf Go.Proofs.Tryz.f45)) fnT109
noncomputable def fnT285 : Tree (Option FI) := Tree.node Tree.leaf (some (fiOf Go.Proofs.Tryz.f285)) Tree.leaf
noncomputable def fnT157 : Tree (Option FI) := Tree.node fnT285 (some (fiOf Go.Proofs.Tryz.f157)) Tree.leaf
noncomputable def fnT349 : Tree (Option FI) := Tree.node Tree.leaf (some (fiOf Go.Proofs.Tryz.f349)) Tree.leaf
noncomputable def fnT221 : Tree (Option FI) := Tree.node fnT349 (some (fiOf Go.Proofs.Tryz.f221)) Tree.leaf
noncomputable def fnT93 : Tree (Option FI) := Tree.node fnT157 (some (fiOf Go.Proofs.Tryz.f93)) fnT221
noncomputable def fnT317 : Tree (Option FI) := Tree.node Tree.leaf (some (fiOf Go.Proofs.Tryz.f317)) Tree.leaf
noncomputable def fnT189 : Tree (Option FI) := Tree.node fnT317 (some (fiOf Go.Proofs.Tryz.f189)) Tree.leaf
noncomputable def fnT381 : Tree (Option FI) := Tree.node Tree.leaf none Tree.leaf
noncomputable def fnT253 : Tree (Option FI) := Tree.node fnT381 (some (fiOf Go.Proofs.Tryz.f253)) Tree.leaf
noncomputable def fnT125 : Tree (Option FI) := Tree.node fnT189 (some (fiOf Go.Proofs.Tryz.f125)) fnT253
noncomputable def fnT61 : Tree (Option FI) := Tree.node fnT93 (some (fiOf Go.Proofs.Tryz.f61)) fnT125
noncomputable def fnT29 : Tree (Option FI) := Tree.node fnT45 (some (fiOf Go.Proofs.Tryz.f29)) fnT61
noncomputable def fnT13 : Tree (Option FI) := Tree.node fnT21 (some (fiOf Go.Proofs.Tryz.f13)) fnT29
noncomputable def fnT5 : Tree (Option FI) := Tree.node fnT9 (some (fiOf Go.Proofs.Tryz.f5)) fnT13
noncomputable def fnT1 : Tree (Option FI) := Tree.node fnT3 none fnT5
noncomputable def fnT256 : Tree (Option FI) := Tree.node Tree.leaf (some (fiOf Go.Proofs.Tryz.f256)) Tree.leaf
noncomputable def fnT384 : Tree (Option FI) := Tree.node Tree.leaf none Tree.leaf
noncomputable def fnT128 : Tree (Option FI) := Tree.node fnT256 (some (fiOf Go.Proofs.Tryz.f128)) fnT384
noncomputable def fnT320 : Tree (Option FI) := Tree.node Tree.leaf (some (fiOf Go.Proofs.Tryz.f320)) Tree.leaf
noncomputable def fnT192 : Tree (Option FI) := Tree.node fnT320 (some (fiOf Go.Proofs.Tryz.f192)) Tree.leaf
noncomputable def fnT64 : Tree (Option FI) := Tree.node fnT128 (some (fiOf Go.Proofs.Tryz.f64)) fnT192
noncomputable def fnT288 : Tree (Option FI) := Tree.node Tree.leaf (some (fiOf Go.Proofs.Tryz.f288)) Tree.leaf
noncomputable def fnT160 : Tree (Option FI) := Tree.node fnT288 (some (fiOf Go.Proofs.Tryz.f160)) Tree.leaf
noncomputable def fnT352 : Tree (Option FI) := Tree.node Tree.leaf (some (fiOf Go.Proofs.Tryz.f352)) Tree.leaf
noncomputable def fnT224 : Tree (Option FI) := Tree.node fnT352 (some (fiOf Go.Proofs.Tryz.f224)) Tree.leaf
noncomputable def fnT96 : Tree (Option FI) := Tree.node fnT160 (some (fiOf Go.Proofs.Tryz.f96)) fnT224
noncomputable def fnT32 : Tree (Option FI) := Tree.node fnT64 (some (fiOf Go.Proofs.Tryz.f32)) fnT96
noncomputable def fnT272 : Tree (Option FI) := Tree.node Tree.leaf (some (fiOf Go.Proofs.Tryz.f272)) Tree.leaf
noncomputable def fnT144 : Tree (Option FI) := Tree.node fnT272 (some (fiOf Go.Proofs.Tryz.f144)) Tree.leaf
noncomputable def fnT336 : Tree (Option FI) := Tree.node Tree.leaf (some (fiOf Go.Proofs.Tryz.f336)) Tree.leaf
noncomputable def fnT208 : Tree (Option FI) := Tree.node fnT336 (some (fiOf Go.Proofs.Tryz.f208)) Tree.leaf
noncomputable def fnT80 : Tree (Option FI) := Tree.node fnT144 (some (fiOf Go.Proofs.Tryz.f80)) fnT208
noncomputable def fnT304 : Tree (Option FI) := Tree.node Tree.leaf (some (fiOf Go.Proofs.Tryz.f304)) Tree.leaf
noncomputable def fnT176 : Tree (Option FI) := Tree.node fnT304 (some (fiOf Go.Proofs.Tryz.f176)) Tree.leaf
noncomputable def fnT368 : Tree (Option FI) := Tree.node Tree.leaf (some (fiOf Go.Proofs.Tryz.f368)) Tree.leaf
noncomputable def fnT240 : Tree (Option FI) := Tree.node fnT368 (some (fiOf Go.Proofs.Tryz.f240)) Tree.leaf
noncomputable def fnT112 : Tree (Option FI) := Tree.node fnT176 (some (fiOf Go.Proofs.Tryz.f112)) fnT240
noncomputable def fnT48 : Tree (Option FI) := Tree.node fnT80 (some (fiOf Go.Proofs.Tryz.f48)) fnT112
noncomputable def fnT16 : Tree (Option FI) := Tree.node fnT32 (some (fiOf Go.Proofs.Tryz.f16)) fnT48
noncomputable def fnT264 : Tree (Option FI) := Tree.node Tree.leaf (some (fiOf Go.Proofs.Tryz.f264)) Tree.leaf
noncomputable def fnT392 : Tree (Option FI) := Tree.node Tree.leaf none Tree.leaf
noncomputable def fnT136 : Tree (Option FI) := Tree.node fnT264 (some (fiOf Go.Proofs.Tryz.f136)) fnT392
noncomputable def fnT328 : Tree (Option FI) := Tree.node Tree.leaf (some (fiOf Go.Proofs.Tryz.f328)) Tree.leaf
noncomputable def fnT200 : Tree (Option FI) := Tree.node fnT328 (some (fiOf Go.Proofs.Tryz.f200)) Tree.leaf
noncomputable def fnT72 : Tree (Option FI) := Tree.node fnT136 (some (fiOf Go.Proofs.Tryz.f72)) fnT200
noncomputable def fnT296 : Tree (Option FI) := Tree.node Tree.leaf (some (fiOf Go.Proofs.Tryz.f296)) Tree.leaf
noncomputable def fnT168 : Tree (Option FI) := Tree.node fnT296 (some (fiOf Go.Proofs.Tryz.f168)) Tree.leaf
noncomputable def fnT360 : Tree (Option FI) := Tree.node Tree.leaf (some (fiOf Go.Proofs.Tryz.f360)) Tree.leaf
noncomputable def fnT232 : Tree (Option FI) := Tree.node fnT360 (some (fiOf Go.Proofs.Tryz.f232)) Tree.leaf
noncomputable def fnT104 : Tree (Option FI) := Tree.node fnT168 (some (fiOf Go.Proofs.Tryz.f104)) fnT232
noncomputable def fnT40 : Tree (Option FI) := Tree.node fnT72 (some (fiOf Go.Proofs.Tryz.f40)) fnT104
noncomputable def fnT280 : Tree (Option FI) := Tree.node Tree.leaf (some (fiOf Go.Proofs.Tryz.f280)) Tree.leaf
noncomputable def fnT152 : Tree (Option FI) := Tree.node fnT280 (some (fiOf Go.Proofs.Tryz.f152)) Tree.leaf
noncomputable def fnT344 : Tree (Option FI) := Tree.node Tree.leaf (some (fiOf Go.Proofs.Tryz.f344)) Tree.leaf
noncomputable def fnT216 : Tree (Option FI) := Tree.node fnT344 (some (fiOf Go.Proofs.Tryz.f216)) Tree.leaf
noncomputable def fnT88 : Tree (Option FI) := Tree.node fnT152 (some (fiOf Go.Proofs.Tryz.f88)) fnT216
noncomputable def fnT312 : Tree (Option FI) := Tree.node Tree.leaf (some (fiOf Go.Proofs.Tryz.f312)) Tree.leaf
noncomputable def fnT184 : Tree (Option FI) := Tree.node fnT312 (some (fiOf Go.Proofs.Tryz.f184)) Tree.leaf
noncomputable def fnT376 : Tree (Option FI) := Tree.node Tree.leaf none Tree.leaf
noncomputable def fnT248 : Tree (Option FI) := Tree.node fnT376 (some (fiOf Go.Proofs.Tryz.f248)) Tree.leaf
noncomputable def fnT120 : Tree (Option FI) := Tree.node fnT184 (some (fiOf Go.Proofs.Tryz.f120)) fnT248
noncomputable def fnT56 : Tree (Option FI) := Tree.node fnT88 (some (fiOf Go.Proofs.Tryz.f56)) fnT120
noncomputable def fnT24 : Tree (Option FI) := Tree.node fnT40 (some (fiOf Go.Proofs.Tryz.f24)) fnT56
noncomputable def fnT8 : Tree (Option FI) := Tree.node fnT16 (some (fiOf Go.Proofs.Tryz.f8)) fnT24
noncomputable def fnT260 : Tree (Option FI) := Tree.node Tree.leaf (some (fiOf Go.Proofs.Tryz.f260)) Tree.leaf
noncomputable def fnT388 : Tree (Option FI) := Tree.node Tree.leaf none Tree.leaf
noncomputable def fnT132 : Tree (Option FI) := Tree.node fnT260 (some (fiOf Go.Proofs.Tryz.f132)) fnT388
noncomputable def fnT324 : Tree (Option FI) := Tree.node Tree.leaf (some (fiOf Go.Proofs.Tryz.f324)) Tree.leaf
noncomputable def fnT196 : Tree (Option FI) := Tree.node fnT324 (some (fiOf Go.Proofs.Tryz.f196)) Tree.leaf
noncomputable def fnT68 : Tree (Option FI) := Tree.node fnT132 (some (fiOf Go.Proofs.Tryz.f68)) fnT196
noncomputable def fnT292 : Tree (Option FI) := Tree.node Tree.leaf (some (fiOf Go.Proofs.Tryz.f292)) Tree.leaf
noncomputable def fnT164 : Tree (Option FI) := Tree.node fnT292 (some (fiOf Go.Proofs.Tryz.f164)) Tree.leaf
noncomputable def fnT356 : Tree (Option FI) := Tree.node Tree.leaf (some (fiOf Go.Proofs.Tryz.f356)) Tree.leaf
noncomputable def fnT228 : Tree (Option FI) := Tree.node fnT356 (some (fiOf Go.Proofs.Tryz.f228)) Tree.leaf
noncomputable def fnT100 : Tree (Option FI) := Tree.node fnT164 (some (fiOf Go.Proofs.Tryz.f100)) fnT228
noncomputable def fnT36 : Tree (Option FI) := Tree.node fnT68 (some (fiOf Go.Proofs.Tryz.f36)) fnT100
noncomputable def fnT276 : Tree (Option FI) := Tree.node Tree.leaf (some (fiOf Go.Proofs.Tryz.f276)) Tree.leaf
noncomputable def fnT148 : Tree (Option FI) := Tree.node fnT276 (some (fiOf Go.Proofs.Tryz.f148)) Tree.leaf
noncomputable def fnT340 : Tree (Option FI) := Tree.node Tree.leaf (some (fiOf Go.Proofs.Tryz.f340)) Tree.leaf
noncomputable def fnT212 : Tree (Option FI) := Tree.node fnT340 (some (fiOf Go.Proofs.Tryz.f212)) Tree.leaf
noncomputable def fnT84 : Tree (Option FI) := Tree.node fnT148 (some (fiOf Go.Proofs.Tryz.f84)) fnT212
noncomputable def fnT308 : Tree (Option FI) := Tree.node Tree.leaf (some (fiOf Go.Proofs.Tryz.f308)) Tree.leaf
noncomputable def fnT180 : Tree (Option FI) := Tree.node fnT308 (some (fiOf Go.Proofs.Tryz.f180)) Tree.leaf
noncomputable def fnT372 : Tree (Option FI) := Tree.node Tree.leaf (some (fiOf Go.Proofs.Tryz.f372)) Tree.leaf
noncomputable def fnT244 : Tree (Option FI) := Tree.node fnT372 (some (fiOf Go.Proofs.Tryz.f244)) Tree.leaf
noncomputable def fnT116 : Tree (Option FI) := Tree.node fnT180 (some (fiOf Go.Proofs.Tryz.f116)) fnT244
noncomputable def fnT52 : Tree (Option FI) := Tree.node fnT84 (some (fiOf Go.Proofs.Tryz.f52)) fnT116
noncomputable def fnT20 : Tree (Option FI) := Tree.node fnT36 (some (fiOf Go.Proofs.Tryz.f20)) fnT52
noncomputable def fnT268 : Tree (Option FI) := Tree.node Tree.leaf (some (fiOf Go.Proofs.Tryz.f268)) Tree.leaf
noncomputable def fnT396 : Tree (Option FI) := Tree.node Tree.leaf none Tree.leaf
noncomputable def fnT140 : Tree (Option FI) := Tree.node fnT268 (some (fiOf Go.Proofs.Tryz.f140)) fnT396
noncomputable def fnT332 : Tree (Option FI) := Tree.node Tree.leaf (some (fiOf Go.Proofs.Tryz.f332)) Tree.leaf
noncomputable def fnT204 : Tree (Option FI) := Tree.node fnT332 (some (fiOf Go.Proofs.Tryz.f204)) Tree.leaf
noncomputable def fnT76 : Tree (Option FI) := Tree.node fnT140 (some (fiOf Go.Proofs.Tryz.f76)) fnT204
noncomputable def fnT300 : Tree (Option FI) := Tree.node Tree.leaf (some (fiOf Go.Proofs.Tryz.f300)) Tree.leaf
noncomputable def fnT172 : Tree (Option FI) := Tree.node fnT300 (some (fiOf Go.Proofs.Tryz.f172)) Tree.leaf
noncomputable def fnT364 : Tree (Option FI) := Tree.node Tree.leaf (some (fiOf Go.Proofs.Tryz.f364)) Tree.leaf
noncomputable def fnT236 : Tree (Option FI) := Tree.node fnT364 (some (fiOf Go.Proofs.Tryz.f236)) Tree.leaf
noncomputable def fnT108 : Tree (Option FI) := Tree.node fnT172 (some (fiOf Go.Proofs.Tryz.f108)) fnT236
noncomputable def fnT44 : Tree (Option FI) := Tree.node fnT76 (some (fiOf Go.Proofs.Tryz.f44)) fnT108
noncomputable def fnT284 : Tree (Option FI) := Tree.node Tree.leaf (some (fiOf Go.Proofs.Tryz.f284)) Tree.leaf
noncomputable def fnT156 : Tree (Option FI) := Tree.node fnT284 (some (fiOf Go.Proofs.Tryz.f156)) Tree.leaf
noncomputable def fnT348 : Tree (Option FI) := Tree.node Tree.leaf (some (fiOf Go.Proofs.Tryz.f348)) Tree.leaf
noncomputable def fnT220 : Tree (Option FI) := Tree.node fnT348 (some (fiOf Go.Proofs.Tryz.f220)) Tree.leaf
noncomputable def fnT92 : Tree (Option FI) := Tree.node fnT156 (some (fiOf Go.Proofs.Tryz.f92)) fnT220
noncomputable def fnT316 : Tree (Option FI) := Tree.node Tree.leaf (some (fiOf Go.Proofs.Tryz.f316)) Tree.leaf
noncomputable def fnT188 : Tree (Option FI) := Tree.node fnT316 (some (fiOf Go.Proofs.Tryz.f188)) Tree.leaf
noncomputable def fnT380 : Tree (Option FI) := Tree.node Tree.leaf none Tree.leaf
noncomputable def fnT252 : Tree (Option FI) := Tree.node fnT380 (some (fiOf Go.Proofs.Tryz.f252)) Tree.leaf
noncomputable def fnT124 : Tree (Option FI) := Tree.node fnT188 (some (fiOf Go.Proofs.Tryz.f124)) fnT252
noncomputable def fnT60 : Tree (Option FI) := Tree.node fnT92 (some (fiOf Go.Proofs.Tryz.f60)) fnT124
noncomputable def fnT28 : Tree (Option FI) := Tree.node fnT44 (some (fiOf Go.Proofs.Tryz.f28)) fnT60
noncomputable def fnT12 : Tree (Option FI) := Tree.node fnT20 (some (fiOf Go.Proofs.Tryz.f12)) fnT28
noncomputable def fnT4 : Tree (Option FI) := Tree.node fnT8 (some (fiOf Go.Proofs.Tryz.f4)) fnT12
noncomputable def fnT258 : Tree (Option FI) := Tree.node Tree.leaf (some (fiOf Go.Proofs.Tryz.f258)) Tree.leaf
noncomputable def fnT386 : Tree (Option FI) := Tree.node Tree.leaf none Tree.leaf
noncomputable def fnT130 : Tree (Option FI) := Tree.node fnT258 (some (fiOf Go.Proofs.Tryz.f130)) fnT386
noncomputable def fnT322 : Tree (Option FI) := Tree.node Tree.leaf (some (fiOf Go.Proofs.Tryz.f322)) Tree.leaf
noncomputable def fnT194 : Tree (Option FI) := Tree.node fnT322 (some (fiOf Go.Proofs.Tryz.f194)) Tree.leaf
noncomputable def fnT66 : Tree (Option FI) := Tree.node fnT130 (some (fiOf Go.Proofs.Tryz.f66)) fnT194
noncomputable def fnT290 : Tree (Option FI) := Tree.node Tree.leaf (some (fiOf Go.Proofs.Tryz.f290)) Tree.leaf
noncomputable def fnT162 : Tree (Option FI) := Tree.node fnT290 (some (fiOf Go.Proofs.Tryz.f162)) Tree.leaf
noncomputable def fnT354 : Tree (Option FI) := Tree.node Tree.leaf (some (fiOf Go.Proofs.Tryz.f354)) Tree.leaf
noncomputable def fnT226 : Tree (Option FI) := Tree.node fnT354 (some (fiOf Go.Proofs.Tryz.f226)) Tree.leaf
noncomputable def fnT98 : Tree (Option FI) := Tree.node fnT162 (some (fiOf Go.Proofs.Tryz.f98)) fnT226
noncomputable def fnT34 : Tree (Option FI) := Tree.node fnT66 (some (fiOf Go.Proofs.Tryz.f34)) fnT98
noncomputable def fnT274 : Tree (Option FI) := Tree.node Tree.leaf (some (fiOf Go.Proofs.Tryz.f274)) Tree.leaf
noncomputable def fnT146 : Tree (Option FI) := Tree.node fnT274 (some (fiOf Go.Proofs.Tryz.f146)) Tree.leaf
noncomputable def fnT338 : Tree (Option FI) := Tree.node Tree.leaf (some (fiOf Go.Proofs.Tryz.f338)) Tree.leaf
noncomputable def fnT210 : Tree (Option FI) := Tree.node fnT338 (some (fiOf Go.Proofs.Tryz.f210)) Tree.leaf
noncomputable def fnT82 : Tree (Option FI) := Tree.node fnT146 (some (fiOf Go.Proofs.Tryz.f82)) fnT210
noncomputable def fnT306 : Tree (Option FI) := Tree.node Tree.leaf (some (fiOf Go.Proofs.Tryz.f306)) Tree.leaf
noncomputable def fnT178 : Tree (Option FI) := Tree.node fnT306 (some (fiOf Go.Proofs.Tryz.f178)) Tree.leaf
noncomputable def fnT370 : Tree (Option FI) := Tree.node Tree.leaf (some (fiOf Go.Proofs.Tryz.f370)) Tree.leaf
noncomputable def fnT242 : Tree (Option FI) := Tree.node fnT370 (some (fiOf Go.Proofs.Tryz.f242)) Tree.leaf
noncomputable def fnT114 : Tree (Option FI) := Tree.node fnT178 (some (fiOf Go.Proofs.Tryz.f114)) fnT242
noncomputable def fnT50 : Tree (Option FI) := Tree.node fnT82 (some (fiOf Go.Proofs.Tryz.f50)) fnT114
noncomputable def fnT18 : Tree (Option FI) := Tree.node fnT34 (some (fiOf Go.Proofs.Tryz.f18)) fnT50
noncomputable def fnT266 : Tree (Option FI) := Tree.node Tree.leaf (some (fiOf Go.Proofs.Tryz.f266)) Tree.leaf
noncomputable def fnT394 : Tree (Option FI) := Tree.node Tree.leaf none Tree.leaf
noncomputable def fnT138 : Tree (Option FI) := Tree.node fnT266 (some (fiOf Go.Proofs.Tryz.f138)) fnT394
noncomputable def fnT330 : Tree (Option FI) := Tree.node Tree.leaf (some (fiOf Go.Proofs.Tryz.f330)) Tree.leaf
noncomputable def fnT202 : Tree (Option FI) := Tree.node fnT330 (some (fiOf Go.Proofs.Tryz.f202)) Tree.leaf
noncomputable def fnT74 : Tree (Option FI) := Tree.node fnT138 (some (fiOf Go.Proofs.Tryz.f74)) fnT202
noncomputable def fnT298 : Tree (Option FI) := Tree.node Tree.leaf (some (fiOf Go.Proofs.Tryz.f298)) Tree.leaf
noncomputable def fnT170 : Tree (Option FI) := Tree.node fnT298 (some (fiOf Go.Proofs.Tryz.f170)) Tree.leaf
noncomputable def fnT362 : Tree (Option FI) := Tree.node Tree.leaf (some (fiOf Go.Proofs.Tryz.f362)) Tree.leaf
noncomputable def fnT234 : Tree (Option FI) := Tree.node fnT362 (some (fiOf Go.Proofs.Tryz.f234)) Tree.leaf
noncomputable def fnT106 : Tree (Option FI) := Tree.node fnT170 (some (fiOf Go.Proofs.Tryz.f106)) fnT234
noncomputable def fnT42 : Tree (Option FI) := Tree.node fnT74 (some (fiOf Go.Proofs.Tryz.f42)) fnT106
noncomputable def fnT282 : Tree (Option FI) := Tree.node Tree.leaf (some (fiOf Go.Proofs.Tryz.f282)) Tree.leaf
noncomputable def fnT154 : Tree (Option FI) := Tree.node fnT282 (some (fiOf Go.Proofs.Tryz.f154)) Tree.leaf
noncomputable def fnT346 : Tree (Option FI) := Tree.node Tree.leaf (some (fiOf Go.Proofs.Tryz.f346)) Tree.leaf
noncomputable def fnT218 : Tree (Option FI) := Tree.node fnT346 (some (fiOf Go.Proofs.Tryz.f218)) Tree.leaf
noncomputable def fnT90 : Tree (Option FI) := Tree.node fnT154 (some (fiOf Go.Proofs.Tryz.f90)) fnT218
noncomputable def fnT314 : Tree (Option FI) := Tree.node Tree.leaf (some (fiOf Go.Proofs.Tryz.f314)) Tree.leaf
noncomputable def fnT186 : Tree (Option FI) := Tree.node fnT314 (some (fiOf Go.Proofs.Tryz.f186)) Tree.leaf
noncomputable def fnT378 : Tree (Option FI) := Tree.node Tree.leaf none Tree.leaf
noncomputable def fnT250 : Tree (Option FI) := Tree.node fnT378 (some (fiOf Go.Proofs.Tryz.f250)) Tree.leaf
noncomputable def fnT122 : Tree (Option FI) := Tree.node fnT186 (some (fiOf Go.Proofs.Tryz.f122)) fnT250
noncomputable def fnT58 : Tree (Option FI) := Tree.node fnT90 (some (fiOf Go.Proofs.Tryz.f58)) fnT122
noncomputable def fnT26 : Tree (Option FI) := Tree.node fnT42 (some (fiOf Go.Proofs.Tryz.f26)) fnT58
noncomputable def fnT10 : Tree (Option FI) := Tree.node fnT18 (some (fiOf Go.Proofs.Tryz.f10)) fnT26
noncomputable def fnT262 : Tree (Option FI) := Tree.node Tree.leaf (some (fiOf Go.Proofs.Tryz.f262)) Tree.leaf
noncomputable def fnT390 : Tree (Option FI) := Tree.node Tree.leaf none Tree.leaf
noncomputable def fnT134 : Tree (Option FI) := Tree.node fnT262 (some (fiOf Go.Proofs.Tryz.f134)) fnT390
noncomputable def fnT326 : Tree (Option FI) := Tree.node Tree.leaf (some (fiOf Go.Proofs.Tryz.f326)) Tree.leaf
noncomputable def fnT198 : Tree (Option FI) := Tree.node fnT326 (some (fiOf Go.Proofs.Tryz.f198)) Tree.leaf
noncomputable def fnT70 : Tree (Option FI) := Tree.node fnT134 (some (fiOf Go.Proofs.Tryz.f70)) fnT198
noncomputable def fnT294 : Tree (Option FI) := Tree.node Tree.leaf (some (fiOf Go.Proofs.Tryz.f294)) Tree.leaf
noncomputable def fnT166 : Tree (Option FI) := Tree.node fnT294 (some (fiOf Go.Proofs.Tryz.f166)) Tree.leaf
noncomputable def fnT358 : Tree (Option FI) := Tree.node Tree.leaf (some (fiOf Go.Proofs.Tryz.f358)) Tree.leaf
noncomputable def fnT230 : Tree (Option FI) := Tree.node fnT358 (some (fiOf Go.Proofs.Tryz.f230)) Tree.leaf
noncomputable def fnT102 : Tree (Option FI) := Tree.node fnT166 (some (fiOf Go.Proofs.Tryz.f102)) fnT230
noncomputable def fnT38 : Tree (Option FI) := Tree.node fnT70 (some (fiOf Go.Proofs.Tryz.f38)) fnT102
noncomputable def fnT278 : Tree (Option FI) := Tree.node Tree.leaf (some (fiOf Go.Proofs.Tryz.f278)) Tree.leaf
noncomputable def fnT150 : Tree (Option FI) := Tree.node fnT278 (some (fiOf Go.Proofs.Tryz.f150)) Tree.leaf
noncomputable def fnT342 : Tree (Option FI) := Tree.node Tree.leaf (some (fiOf Go.Proofs.Tryz.f342)) Tree.leaf
noncomputable def fnT214 : Tree (Option FI) := Tree.node fnT342 (some (fiOf Go.Proofs.Tryz.f214)) Tree.leaf
noncomputable def fnT86 : Tree (Option FI) := Tree.node fnT150 (some (fiOf Go.Proofs.Tryz.f86)) fnT214
noncomputable def fnT310 : Tree (Option FI) := Tree.node Tree.leaf (some (fiOf Go.Proofs.Tryz.f310)) Tree.leaf
noncomputable def fnT182 : Tree (Option FI) := Tree.node fnT310 (some (fiOf Go.Proofs.Tryz.f182)) Tree.leaf
noncomputable def fnT374 : Tree (Option FI) := Tree.node Tree.leaf (some (fiOf Go.Proofs.Tryz.f374)) Tree.leaf
noncomputable def fnT246 : Tree (Option FI) := Tree.node fnT374 (some (fiOf Go.Proofs.Tryz.f246)) Tree.leaf
noncomputable def fnT118 : Tree (Option FI) := Tree.node fnT182 (some (fiOf Go.Proofs.Tryz.f118)) fnT246
noncomputable def fnT54 : Tree (Option FI) := Tree.node fnT86 (some (fiOf Go.Proofs.Tryz.f54)) fnT118
noncomputable def fnT22 : Tree (Option FI) := Tree.node fnT38 (some (fiOf Go.Proofs.Tryz.f22)) fnT54
noncomputable def fnT270 : Tree (Option FI) := Tree.node Tree.leaf (some (fiOf Go.Proofs.Tryz.f270)) Tree.leaf
noncomputable def fnT142 : Tree (Option FI) := Tree.node fnT270 (some (fiOf Go.Proofs.Tryz.f142)) Tree.leaf
noncomputable def fnT334 : Tree (Option FI) := Tree.node Tree.leaf (some (fiOf Go.Proofs.Tryz.f334)) Tree.leaf
noncomputable def fnT206 : Tree (Option FI) := Tree.node fnT334 (some (fiOf Go.Proofs.Tryz.f206)) Tree.leaf
noncomputable def fnT78 : Tree (Option FI) := Tree.node fnT142 (some (fiOf Go.Proofs.Tryz.f78)) fnT206
noncomputable def fnT302 : Tree (Option FI) := Tree.node Tree.leaf (some (fiOf Go.Proofs.Tryz.f302)) Tree.leaf
noncomputable def fnT174 : Tree (Option FI) := Tree.node fnT302 (some (fiOf Go.Proofs.Tryz.f174)) Tree.leaf
noncomputable def fnT366 : Tree (Option FI) := Tree.node Tree.leaf (some (fiOf Go.Proofs.Tryz.f366)) Tree.leaf
noncomputable def fnT238 : Tree (Option FI) := Tree.node fnT366 (some (fiOf Go.Proofs.Tryz.f238)) Tree.leaf
noncomputable def fnT110 : Tree (Option FI) := Tree.node fnT174 (some (fiOf Go.Proofs.Tryz.f110)) fnT238
noncomputable def fnT46 : Tree (Option FI) := Tree.node fnT78 (some (fiOf Go.Proofs.Tryz.f46)) fnT110
noncomputable def fnT286 : Tree (Option FI) := Tree.node Tree.leaf (some (fiOf Go.Proofs.Tryz.f286)) Tree.leaf
noncomputable def fnT158 : Tree (Option FI) := Tree.node fnT286 (some (fiOf Go.Proofs.Tryz.f158)) Tree.leaf
noncomputable def fnT350 : Tree (Option FI) := Tree.node Tree.leaf (some (fiOf Go.Proofs.Tryz.f350)) Tree.leaf
noncomputable def fnT222 : Tree (Option FI) := Tree.node fnT350 (some (fiOf Go.Proofs.Tryz.f222)) Tree.leaf
noncomputable def fnT94 : Tree (Option FI) := Tree.node fnT158 (some (fiOf Go.Proofs.Tryz.f94)) fnT222
noncomputable def fnT318 : Tree (Option FI) := Tree.node Tree.leaf (some (fiOf Go.Proofs.Tryz.f318)) Tree.leaf
noncomputable def fnT190 : Tree (Option FI) := Tree.node fnT318 (some (fiOf Go.Proofs.Tryz.f190)) Tree.leaf
noncomputable def fnT382 : Tree (Option FI) := Tree.node Tree.leaf none Tree.leaf
noncomputable def fnT254 : Tree (Option FI) := Tree.node fnT382 (some (fiOf Go.Proofs.Tryz.f254)) Tree.leaf
noncomputable def fnT126 : Tree (Option FI) := Tree.node fnT190 (some (fiOf Go.Proofs.Tryz.f126)) fnT254
noncomputable def fnT62 : Tree (Option FI) := Tree.node fnT94 (some (fiOf Go.Proofs.Tryz.f62)) fnT126
noncomputable def fnT30 : Tree (Option FI) := Tree.node fnT46 (some (fiOf Go.Proofs.Tryz.f30)) fnT62
noncomputable def fnT14 : Tree (Option FI) := Tree.node fnT22 (some (fiOf Go.Proofs.Tryz.f14)) fnT30
noncomputable def fnT6 : Tree (Option FI) := Tree.node fnT10 (some (fiOf Go.Proofs.Tryz.f6)) fnT14
noncomputable def fnT2 : Tree (Option FI) := Tree.node fnT4 (some (fiOf Go.Proofs.Tryz.f2)) fnT6
noncomputable def fnT0 : Tree (Option FI) := Tree.node fnT1 none fnT2
noncomputable def extOf (f : Nat) : Option Ext := bif Nat.beq f 249 then some .contains else bif Nat.beq f 337 then some .indexByte else none
noncomputable def env (glob : Nat → Option Nat) : Env := { ty := fun t => (tyT0.get t).join, fn := fun f => (fnT0.get f).join, ext := extOf, glob, maxLen := 0 }
theorem tyAll : treeAll (tyCheck Go.Proofs.Tryz.prog) 0 1 tyT0 = true := by kernel_rfl
theorem fnP255 : TreeP (FnOk Go.Proofs.Tryz.prog) 255 256 fnT255 := ⟨(fnOk_of Go.Proofs.Tryz.func255 rfl rfl), trivial, trivial⟩
theorem fnP383 : TreeP (FnOk Go.Proofs.Tryz.prog) 383 256 fnT383 := ⟨(fun _ h => nomatch h), trivial, trivial⟩
theorem fnP127 : TreeP (FnOk Go.Proofs.Tryz.prog) 127 128 fnT127 := ⟨(fnOk_of Go.Proofs.Tryz.func127 rfl rfl), fnP255, fnP383⟩
theorem fnP319 : TreeP (FnOk Go.Proofs.Tryz.prog) 319 256 fnT319 := ⟨(fnOk_of Go.Proofs.Tryz.func319 rfl rfl), trivial, trivial⟩
theorem fnP191 : TreeP (FnOk Go.Proofs.Tryz.prog) 191 128 fnT191 := ⟨(fnOk_of Go.Proofs.Tryz.func191 rfl rfl), fnP319, trivial⟩
theorem fnP63 : TreeP (FnOk Go.Proofs.Tryz.prog) 63 64 fnT63 := ⟨(fnOk_of Go.Proofs.Tryz.func63 rfl rfl), fnP127, fnP191⟩
theorem fnP287 : TreeP (FnOk Go.Proofs.Tryz.prog) 287 256 fnT287 := ⟨(fnOk_of Go.Proofs.Tryz.func287 rfl rfl), trivial, trivial⟩
theorem fnP159 : TreeP (FnOk Go.Proofs.Tryz.prog) 159 128 fnT159 := ⟨(fnOk_of Go.Proofs.Tryz.func159 rfl rfl), fnP287, trivial⟩
theorem fnP351 : TreeP (FnOk Go.Proofs.Tryz.prog) 351 256 fnT351 := ⟨(fun _ h => nomatch h), trivial, trivial⟩
theorem fnP223 : TreeP (FnOk Go.Proofs.Tryz.prog) 223 128 fnT223 := ⟨(fnOk_of Go.Proofs.Tryz.func223 rfl rfl), fnP351, trivial⟩
theorem fnP95 : TreeP (FnOk Go.Proofs.Tryz.prog) 95 64 fnT95 := ⟨(fnOk_of Go.Proofs.Tryz.func95 rfl rfl), fnP159, fnP223⟩
theorem fnP31 : TreeP (FnOk Go.Proofs.Tryz.prog) 31 32 fnT31 := ⟨(fnOk_of Go.Proofs.Tryz.func31 rfl rfl), fnP63, fnP95⟩
theorem fnP271 : TreeP (FnOk Go.Proofs.Tryz.prog) 271 256 fnT271 := ⟨(fnOk_of Go.Proofs.Tryz.func271 rfl rfl), trivial, trivial⟩
theorem fnP143 : TreeP (FnOk Go.Proofs.Tryz.prog) 143 128 fnT143 := ⟨(fnOk_of Go.Proofs.Tryz.func143 rfl rfl), fnP271, trivial⟩
theorem fnP335 : TreeP (FnOk Go.Proofs.Tryz.prog) 335 256 fnT335 := ⟨(fnOk_of Go.Proofs.Tryz.func335 rfl rfl), trivial, trivial⟩
theorem fnP207 : TreeP (FnOk Go.Proofs.Tryz.prog) 207 128 fnT207 := ⟨(fnOk_of Go.Proofs.Tryz.func207 rfl rfl), fnP335, trivial⟩
theorem fnP79 : TreeP (FnOk Go.Proofs.Tryz.prog) 79 64 fnT79 := ⟨(fnOk_of Go.Proofs.Tryz.func79 rfl rfl), fnP143, fnP207⟩
theorem fnP303 : TreeP (FnOk Go.Proofs.Tryz.prog) 303 256 fnT303 := ⟨(fnOk_of Go.Proofs.Tryz.func303 rfl rfl), trivial, trivial⟩
theorem fnP175 : TreeP (FnOk Go.Proofs.Tryz.prog) 175 128 fnT175 := ⟨(fnOk_of Go.Proofs.Tryz.func175 rfl rfl), fnP303, trivial⟩
theorem fnP367 : TreeP (FnOk Go.Proofs.Tryz.prog) 367 256 fnT367 := ⟨(fnOk_of Go.Proofs.Tryz.func367 rfl rfl), trivial, trivial⟩
theorem fnP239 : TreeP (FnOk Go.Proofs.Tryz.prog) 239 128 fnT239 := ⟨(fnOk_of Go.Proofs.Tryz.func239 rfl rfl), fnP367, trivial⟩
theorem fnP111 : TreeP (FnOk Go.Proofs.Tryz.prog) 111 64 fnT111 := ⟨(fnOk_of Go.Proofs.Tryz.func111 rfl rfl), fnP175, fnP239⟩
theorem fnP47 : TreeP (FnOk Go.Proofs.Tryz.prog) 47 32 fnT47 := ⟨(fnOk_of Go.Proofs.Tryz.func47 rfl rfl), fnP79, fnP111⟩
theorem fnP15 : TreeP (FnOk Go.Proofs.Tryz.prog) 15 16 fnT15 := ⟨(fnOk_of Go.Proofs.Tryz.func15 rfl rfl), fnP31, fnP47⟩
theorem fnP263 : TreeP (FnOk Go.Proofs.Tryz.prog) 263 256 fnT263 := ⟨(fnOk_of Go.Proofs.Tryz.func263 rfl rfl), trivial, trivial⟩
theorem fnP391 : TreeP (FnOk Go.Proofs.Tryz.prog) 391 256 fnT391 := ⟨(fun _ h => nomatch h), trivial, trivial⟩
theorem fnP135 : TreeP (FnOk Go.Proofs.Tryz.prog) 135 128 fnT135 := ⟨(fnOk_of Go.Proofs.Tryz.func135 rfl rfl), fnP263, fnP391⟩
theorem fnP327 : TreeP (FnOk Go.Proofs.Tryz.prog) 327 256 fnT327 := ⟨(fnOk_of Go.Proofs.Tryz.func327 rfl rfl), trivial, trivial⟩
theorem fnP199 : TreeP (FnOk Go.Proofs.Tryz.prog) 199 128 fnT199 := ⟨(fnOk_of Go.Proofs.Tryz.func199 rfl rfl), fnP327, trivial⟩
theorem fnP71 : TreeP (FnOk Go.Proofs.Tryz.prog) 71 64 fnT71 := ⟨(fnOk_of Go.Proofs.Tryz.func71 rfl rfl), fnP135, fnP199⟩
theorem fnP295 : TreeP (FnOk Go.Proofs.Tryz.prog) 295 256 fnT295 := ⟨(fnOk_of Go.Proofs.Tryz.func295 rfl rfl), trivial, trivial⟩
theorem fnP167 : TreeP (FnOk Go.Proofs.Tryz.prog) 167 128 fnT167 := ⟨(fnOk_of Go.Proofs.Tryz.func167 rfl rfl), fnP295, trivial⟩
theorem fnP359 : TreeP (FnOk Go.Proofs.Tryz.prog) 359 256 fnT359 := ⟨(fun _ h => nomatch h), trivial, trivial⟩
theorem fnP231 : TreeP (FnOk Go.Proofs.Tryz.prog) 231 128 fnT231 := ⟨(fnOk_of Go.Proofs.Tryz.func231 rfl rfl), fnP359, trivial⟩
theorem fnP103 : TreeP (FnOk Go.Proofs.Tryz.prog) 103 64 fnT103 := ⟨(fnOk_of Go.Proofs.Tryz.func103 rfl rfl), fnP167, fnP231⟩
theorem fnP39 : TreeP (FnOk Go.Proofs.Tryz.prog) 39 32 fnT39 := ⟨(fnOk_of Go.Proofs.Tryz.func39 rfl rfl), fnP71, fnP103⟩
theorem fnP279 : TreeP (FnOk Go.Proofs.Tryz.prog) 279 256 fnT279 := ⟨(fnOk_of Go.Proofs.Tryz.func279 rfl rfl), trivial, trivial⟩
theorem fnP151 : TreeP (FnOk Go.Proofs.Tryz.prog) 151 128 fnT151 := ⟨(fnOk_of Go.Proofs.Tryz.func151 rfl rfl), fnP279, trivial⟩
theorem fnP343 : TreeP (FnOk Go.Proofs.Tryz.prog) 343 256 fnT343 := ⟨(fnOk_of Go.Proofs.Tryz.func343 rfl rfl), trivial, trivial⟩
theorem fnP215 : TreeP (FnOk Go.Proofs.Tryz.prog) 215 128 fnT215 := ⟨(fnOk_of Go.Proofs.Tryz.func215 rfl rfl), fnP343, trivial⟩
theorem fnP87 : TreeP (FnOk Go.Proofs.Tryz.prog) 87 64 fnT87 := ⟨(fnOk_of Go.Proofs.Tryz.func87 rfl rfl), fnP151, fnP215⟩
theorem fnP311 : TreeP (FnOk Go.Proofs.Tryz.prog) 311 256 fnT311 := ⟨(fnOk_of Go.Proofs.Tryz.func311 rfl rfl), trivial, trivial⟩
theorem fnP183 : TreeP (FnOk Go.Proofs.Tryz.prog) 183 128 fnT183 := ⟨(fnOk_of Go.Proofs.Tryz.func183 rfl rfl), fnP311, trivial⟩
theorem fnP375 : TreeP (FnOk Go.Proofs.Tryz.prog) 375 256 fnT375 := ⟨(fun _ h => nomatch h), trivial, trivial⟩
theorem fnP247 : TreeP (FnOk Go.Proofs.Tryz.prog) 247 128 fnT247 := ⟨(fnOk_of Go.Proofs.Tryz.func247 rfl rfl), fnP375, trivial⟩
theorem fnP119 : TreeP (FnOk Go.Proofs.Tryz.prog) 119 64 fnT119 := ⟨(fnOk_of Go.Proofs.Tryz.func119 rfl rfl), fnP183, fnP247⟩
theorem fnP55 : TreeP (FnOk Go.Proofs.Tryz.prog) 55 32 fnT55 := ⟨(fnOk_of Go.Proofs.Tryz.func55 rfl rfl), fnP87, fnP119⟩
theorem fnP23 : TreeP (FnOk Go.Proofs.Tryz.prog) 23 16 fnT23 := ⟨(fnOk_of Go.Proofs.Tryz.func23 rfl rfl), fnP39, fnP55⟩
theorem fnP7 : TreeP (FnOk Go.Proofs.Tryz.prog) 7 8 fnT7 := ⟨(fnOk_of Go.Proofs.Tryz.func7 rfl rfl), fnP15, fnP23⟩
theorem fnP259 : TreeP (FnOk Go.Proofs.Tryz.prog) 259 256 fnT259 := ⟨(fnOk_of Go.Proofs.Tryz.func259 rfl rfl), trivial, trivial⟩
theorem fnP387 : TreeP (FnOk Go.Proofs.Tryz.prog) 387 256 fnT387 := ⟨(fun _ h => nomatch h), trivial, trivial⟩
theorem fnP131 : TreeP (FnOk Go.Proofs.Tryz.prog) 131 128 fnT131 := ⟨(fnOk_of Go.Proofs.Tryz.func131 rfl rfl), fnP259, fnP387⟩
theorem fnP323 : TreeP (FnOk Go.Proofs.Tryz.prog) 323 256 fnT323 := ⟨(fnOk_of Go.Proofs.Tryz.func323 rfl rfl), trivial, trivial⟩
theorem fnP195 : TreeP (FnOk Go.Proofs.Tryz.prog) 195 128 fnT195 := ⟨(fnOk_of Go.Proofs.Tryz.func195 rfl rfl), fnP323, trivial⟩
theorem fnP67 : TreeP (FnOk Go.Proofs.Tryz.prog) 67 64 fnT67 := ⟨(fnOk_of Go.Proofs.Tryz.func67 rfl rfl), fnP131, fnP195⟩
theorem fnP291 : TreeP (FnOk Go.Proofs.Tryz.prog) 291 256 fnT291 := ⟨(fnOk_of Go.Proofs.Tryz.func291 rfl rfl), trivial, trivial⟩
theorem fnP163 : TreeP (FnOk Go.Proofs.Tryz.prog) 163 128 fnT163 := ⟨(fnOk_of Go.Proofs.Tryz.func163 rfl rfl), fnP291, trivial⟩
theorem fnP355 : TreeP (FnOk Go.Proofs.Tryz.prog) 355 256 fnT355 := ⟨(fnOk_of Go.Proofs.Tryz.func355 rfl rfl), trivial, trivial⟩
theorem fnP227 : TreeP (FnOk Go.Proofs.Tryz.prog) 227 128 fnT227 := ⟨(fnOk_of Go.Proofs.Tryz.func227 rfl rfl), fnP355, trivial⟩
theorem fnP99 : TreeP (FnOk Go.Proofs.Tryz.prog) 99 64 fnT99 := ⟨(fnOk_of Go.Proofs.Tryz.func99 rfl rfl), fnP163, fnP227⟩
theorem fnP35 : TreeP (FnOk Go.Proofs.Tryz.prog) 35 32 fnT35 := ⟨(fnOk_of Go.Proofs.Tryz.func35 rfl rfl), fnP67, fnP99⟩
theorem fnP275 : TreeP (FnOk Go.Proofs.Tryz.prog) 275 256 fnT275 := ⟨(fnOk_of Go.Proofs.Tryz.func275 rfl rfl), trivial, trivial⟩
theorem fnP147 : TreeP (FnOk Go.Proofs.Tryz.prog) 147 128 fnT147 := ⟨(fnOk_of Go.Proofs.Tryz.func147 rfl rfl), fnP275, trivial⟩
theorem fnP339 : TreeP (FnOk Go.Proofs.Tryz.prog) 339 256 fnT339 := ⟨(fnOk_of Go.Proofs.Tryz.func339 rfl rfl), trivial, trivial⟩
theorem fnP211 : TreeP (FnOk Go.Proofs.Tryz.prog) 211 128 fnT211 := ⟨(fnOk_of Go.Proofs.Tryz.func211 rfl rfl), fnP339, trivial⟩
theorem fnP83 : TreeP (FnOk Go.Proofs.Tryz.prog) 83 64 fnT83 := ⟨(fnOk_of Go.Proofs.Tryz.func83 rfl rfl), fnP147, fnP211⟩
theorem fnP307 : TreeP (FnOk Go.Proofs.Tryz.prog) 307 256 fnT307 := ⟨(fnOk_of Go.Proofs.Tryz.func307 rfl rfl), trivial, trivial⟩
theorem fnP179 : TreeP (FnOk Go.Proofs.Tryz.prog) 179 128 fnT179 := ⟨(fnOk_of Go.Proofs.Tryz.func179 rfl rfl), fnP307, trivial⟩
theorem fnP371 : TreeP (FnOk Go.Proofs.Tryz.prog) 371 256 fnT371 := ⟨(fnOk_of Go.Proofs.Tryz.func371 rfl rfl), trivial, trivial⟩
theorem fnP243 : TreeP (FnOk Go.Proofs.Tryz.prog) 243 128 fnT243 := ⟨(fnOk_of Go.Proofs.Tryz.func243 rfl rfl), fnP371, trivial⟩
theorem fnP115 : TreeP (FnOk Go.Proofs.Tryz.prog) 115 64 fnT115 := ⟨(fnOk_of Go.Proofs.Tryz.func115 rfl rfl), fnP179, fnP243⟩
theorem fnP51 : TreeP (FnOk Go.Proofs.Tryz.prog) 51 32 fnT51 := ⟨(fnOk_of Go.Proofs.Tryz.func51 rfl rfl), fnP83, fnP115⟩
theorem fnP19 : TreeP (FnOk Go.Proofs.Tryz.prog) 19 16 fnT19 := ⟨(fnOk_of Go.Proofs.Tryz.func19 rfl rfl), fnP35, fnP51⟩
theorem fnP267 : TreeP (FnOk Go.Proofs.Tryz.prog) 267 256 fnT267 := ⟨(fnOk_of Go.Proofs.Tryz.func267 rfl rfl), trivial, trivial⟩
theorem fnP395 : TreeP (FnOk Go.Proofs.Tryz.prog) 395 256 fnT395 := ⟨(fun _ h => nomatch h), trivial, trivial⟩
theorem fnP139 : TreeP (FnOk Go.Proofs.Tryz.prog) 139 128 fnT139 := ⟨(fnOk_of Go.Proofs.Tryz.func139 rfl rfl), fnP267, fnP395⟩
theorem fnP331 : TreeP (FnOk Go.Proofs.Tryz.prog) 331 256 fnT331 := ⟨(fnOk_of Go.Proofs.Tryz.func331 rfl rfl), trivial, trivial⟩
theorem fnP203 : TreeP (FnOk Go.Proofs.Tryz.prog) 203 128 fnT203 := ⟨(fnOk_of Go.Proofs.Tryz.func203 rfl rfl), fnP331, trivial⟩
theorem fnP75 : TreeP (FnOk Go.Proofs.Tryz.prog) 75 64 fnT75 := ⟨(fnOk_of Go.Proofs.Tryz.func75 rfl rfl), fnP139, fnP203⟩
theorem fnP299 : TreeP (FnOk Go.Proofs.Tryz.prog) 299 256 fnT299 := ⟨(fnOk_of Go.Proofs.Tryz.func299 rfl rfl), trivial, trivial⟩
theorem fnP171 : TreeP (FnOk Go.Proofs.Tryz.prog) 171 128 fnT171 := ⟨(fnOk_of Go.Proofs.Tryz.func171 rfl rfl), fnP299, trivial⟩
theorem fnP363 : TreeP (FnOk Go.Proofs.Tryz.prog) 363 256 fnT363 := ⟨(fnOk_of Go.Proofs.Tryz.func363 rfl rfl), trivial, trivial⟩
theorem fnP235 : TreeP (FnOk Go.Proofs.Tryz.prog) 235 128 fnT235 := ⟨(fnOk_of Go.Proofs.Tryz.func235 rfl rfl), fnP363, trivial⟩
theorem fnP107 : TreeP (FnOk Go.Proofs.Tryz.prog) 107 64 fnT107 := ⟨(fnOk_of Go.Proofs.Tryz.func107 rfl rfl), fnP171, fnP235⟩
theorem fnP43 : TreeP (FnOk Go.Proofs.Tryz.prog) 43 32 fnT43 := ⟨(fnOk_of Go.Proofs.Tryz.func43 rfl rfl), fnP75, fnP107⟩
theorem fnP283 : TreeP (FnOk Go.Proofs.Tryz.prog) 283 256 fnT283 := ⟨(fnOk_of Go.Proofs.Tryz.func283 rfl rfl), trivial, trivial⟩
theorem fnP155 : TreeP (FnOk Go.Proofs.Tryz.prog) 155 128 fnT155 := ⟨(fnOk_of Go.Proofs.Tryz.func155 rfl rfl), fnP283, trivial⟩
theorem fnP347 : TreeP (FnOk Go.Proofs.Tryz.prog) 347 256 fnT347 := ⟨(fnOk_of Go.Proofs.Tryz.func347 rfl rfl), trivial, trivial⟩
theorem fnP219 : TreeP (FnOk Go.Proofs.Tryz.prog) 219 128 fnT219 := ⟨(fnOk_of Go.Proofs.Tryz.func219 rfl rfl), fnP347, trivial⟩
theorem fnP91 : TreeP (FnOk Go.Proofs.Tryz.prog) 91 64 fnT91 := ⟨(fnOk_of Go.Proofs.Tryz.func91 rfl rfl), fnP155, fnP219⟩
theorem fnP315 : TreeP (FnOk Go.Proofs.Tryz.prog) 315 256 fnT315 := ⟨(fnOk_of Go.Proofs.Tryz.func315 rfl rfl), trivial, trivial⟩
theorem fnP187 : TreeP (FnOk Go.Proofs.Tryz.prog) 187 128 fnT187 := ⟨(fnOk_of Go.Proofs.Tryz.func187 rfl rfl), fnP315, trivial⟩
theorem fnP379 : TreeP (FnOk Go.Proofs.Tryz.prog) 379 256 fnT379 := ⟨(fun _ h => nomatch h), trivial, trivial⟩
theorem fnP251 : TreeP (FnOk Go.Proofs.Tryz.prog) 251 128 fnT251 := ⟨(fnOk_of Go.Proofs.Tryz.func251 rfl rfl), fnP379, trivial⟩
theorem fnP123 : TreeP (FnOk Go.Proofs.Tryz.prog) 123 64 fnT123 := ⟨(fnOk_of Go.Proofs.Tryz.func123 rfl rfl), fnP187, fnP251⟩
theorem fnP59 : TreeP (FnOk Go.Proofs.Tryz.prog) 59 32 fnT59 := ⟨(fnOk_of Go.Proofs.Tryz.func59 rfl rfl), fnP91, fnP123⟩
theorem fnP27 : TreeP (FnOk Go.Proofs.Tryz.prog) 27 16 fnT27 := ⟨(fnOk_of Go.Proofs.Tryz.func27 rfl rfl), fnP43, fnP59⟩
theorem fnP11 : TreeP (FnOk Go.Proofs.Tryz.prog) 11 8 fnT11 := ⟨(fnOk_of Go.Proofs.Tryz.func11 rfl rfl), fnP19, fnP27⟩
theorem fnP3 : TreeP (FnOk Go.Proofs.Tryz.prog) 3 4 fnT3 := ⟨(fnOk_of Go.Proofs.Tryz.func3 rfl rfl), fnP7, fnP11⟩
theorem fnP257 : TreeP (FnOk Go.Proofs.Tryz.prog) 257 256 fnT257 := ⟨(fnOk_of Go.Proofs.Tryz.func257 rfl rfl), trivial, trivial⟩
theorem fnP385 : TreeP (FnOk Go.Proofs.Tryz.prog) 385 256 fnT385 := ⟨(fun _ h => nomatch h), trivial, trivial⟩
theorem fnP129 : TreeP (FnOk Go.Proofs.Tryz.prog) 129 128 fnT129 := ⟨(fnOk_of Go.Proofs.Tryz.func129 rfl rfl), fnP257, fnP385⟩
theorem fnP321 : TreeP (FnOk Go.Proofs.Tryz.prog) 321 256 fnT321 := ⟨(fnOk_of Go.Proofs.Tryz.func321 rfl rfl), trivial, trivial⟩
theorem fnP193 : TreeP (FnOk Go.Proofs.Tryz.prog) 193 128 fnT193 := ⟨(fnOk_of Go.Proofs.Tryz.func193 rfl rfl), fnP321, trivial⟩
theorem fnP65 : TreeP (FnOk Go.Proofs.Tryz.prog) 65 64 fnT65 := ⟨(fnOk_of Go.Proofs.Tryz.func65 rfl rfl), fnP129, fnP193⟩
theorem fnP289 : TreeP (FnOk Go.Proofs.Tryz.prog) 289 256 fnT289 := ⟨(fnOk_of Go.Proofs.Tryz.func289 rfl rfl), trivial, trivial⟩
theorem fnP161 : TreeP (FnOk Go.Proofs.Tryz.prog) 161 128 fnT161 := ⟨(fnOk_of Go.Proofs.Tryz.func161 rfl rfl), fnP289, trivial⟩
theorem fnP353 : TreeP (FnOk Go.Proofs.Tryz.prog) 353 256 fnT353 := ⟨(fnOk_of Go.Proofs.Tryz.func353 rfl rfl), trivial, trivial⟩
theorem fnP225 : TreeP (FnOk Go.Proofs.Tryz.prog) 225 128 fnT225 := ⟨(fnOk_of Go.Proofs.Tryz.func225 rfl rfl), fnP353, trivial⟩
theorem fnP97 : TreeP (FnOk Go.Proofs.Tryz.prog) 97 64 fnT97 := ⟨(fnOk_of Go.Proofs.Tryz.func97 rfl rfl), fnP161, fnP225⟩
theorem fnP33 : TreeP (FnOk Go.Proofs.Tryz.prog) 33 32 fnT33 := ⟨(fnOk_of Go.Proofs.Tryz.func33 rfl rfl), fnP65, fnP97⟩
theorem fnP273 : TreeP (FnOk Go.Proofs.Tryz.prog) 273 256 fnT273 := ⟨(fnOk_of Go.Proofs.Tryz.func273 rfl rfl), trivial, trivial⟩
theorem fnP145 : TreeP (FnOk Go.Proofs.Tryz.prog) 145 128 fnT145 := ⟨(fnOk_of Go.Proofs.Tryz.func145 rfl rfl), fnP273, trivial⟩
theorem fnP337 : TreeP (FnOk Go.Proofs.Tryz.prog) 337 256 fnT337 := ⟨(fnOk_of Go.Proofs.Tryz.func337 rfl rfl), trivial, trivial⟩
theorem fnP209 : TreeP (FnOk Go.Proofs.Tryz.prog) 209 128 fnT209 := ⟨(fnOk_of Go.Proofs.Tryz.func209 rfl rfl), fnP337, trivial⟩
theorem fnP81 : TreeP (FnOk Go.Proofs.Tryz.prog) 81 64 fnT81 := ⟨(fnOk_of Go.Proofs.Tryz.func81 rfl rfl), fnP145, fnP209⟩
theorem fnP305 : TreeP (FnOk Go.Proofs.Tryz.prog) 305 256 fnT305 := ⟨(fnOk_of Go.Proofs.Tryz.func305 rfl rfl), trivial, trivial⟩
theorem fnP177 : TreeP (FnOk Go.Proofs.Tryz.prog) 177 128 fnT177 := ⟨(fnOk_of Go.Proofs.Tryz.func177 rfl rfl), fnP305, trivial⟩
theorem fnP369 : TreeP (FnOk Go.Proofs.Tryz.prog) 369 256 fnT369 := ⟨(fnOk_of Go.Proofs.Tryz.func369 rfl rfl), trivial, trivial⟩
theorem fnP241 : TreeP (FnOk Go.Proofs.Tryz.prog) 241 128 fnT241 := ⟨(fnOk_of Go.Proofs.Tryz.func241 rfl rfl), fnP369, trivial⟩
theorem fnP113 : TreeP (FnOk Go.Proofs.Tryz.prog) 113 64 fnT113 := ⟨(fnOk_of Go.Proofs.Tryz.func113 rfl rfl), fnP177, fnP241⟩
theorem fnP49 : TreeP (FnOk Go.Proofs.Tryz.prog) 49 32 fnT49 := ⟨(fnOk_of Go.Proofs.Tryz.func49 rfl rfl), fnP81, fnP113⟩
theorem fnP17 : TreeP (FnOk Go.Proofs.Tryz.prog) 17 16 fnT17 := ⟨(fnOk_of Go.Proofs.Tryz.func17 rfl rfl), fnP33, fnP49⟩
theorem fnP265 : TreeP (FnOk Go.Proofs.Tryz.prog) 265 256 fnT265 := ⟨(fnOk_of Go.Proofs.Tryz.func265 rfl rfl), trivial, trivial⟩
theorem fnP393 : TreeP (FnOk Go.Proofs.Tryz.prog) 393 256 fnT393 := ⟨(fun _ h => nomatch h), trivial, trivial⟩
theorem fnP137 : TreeP (FnOk Go.Proofs.Tryz.prog) 137 128 fnT137 := ⟨(fnOk_of Go.Proofs.Tryz.func137 rfl rfl), fnP265, fnP393⟩
theorem fnP329 : TreeP (FnOk Go.Proofs.Tryz.prog) 329 256 fnT329 := ⟨(fnOk_of Go.Proofs.Tryz.func329 rfl rfl), trivial, trivial⟩
theorem fnP201 : TreeP (FnOk Go.Proofs.Tryz.prog) 201 128 fnT201 := ⟨(fnOk_of Go.Proofs.Tryz.func201 rfl rfl), fnP329, trivial⟩
theorem fnP73 : TreeP (FnOk Go.Proofs.Tryz.prog) 73 64 fnT73 := ⟨(fnOk_of Go.Proofs.Tryz.func73 rfl rfl), fnP137, fnP201⟩
theorem fnP297 : TreeP (FnOk Go.Proofs.Tryz.prog) 297 256 fnT297 := ⟨(fnOk_of Go.Proofs.Tryz.func297 rfl rfl), trivial, trivial⟩
theorem fnP169 : TreeP (FnOk Go.Proofs.Tryz.prog) 169 128 fnT169 := ⟨(fnOk_of Go.Proofs.Tryz.func169 rfl rfl), fnP297, trivial⟩
theorem fnP361 : TreeP (FnOk Go.Proofs.Tryz.prog) 361 256 fnT361 := ⟨(fnOk_of Go.Proofs.Tryz.func361 rfl rfl), trivial, trivial⟩
theorem fnP233 : TreeP (FnOk Go.Proofs.Tryz.prog) 233 128 fnT233 := ⟨(fnOk_of Go.Proofs.Tryz.func233 rfl rfl), fnP361, trivial⟩
theorem fnP105 : TreeP (FnOk Go.Proofs.Tryz.prog) 105 64 fnT105 := ⟨(fnOk_of Go.Proofs.Tryz.func105 rfl rfl), fnP169, fnP233⟩
theorem fnP41 : TreeP (FnOk Go.Proofs.Tryz.prog) 41 32 fnT41 := ⟨(fnOk_of Go.Proofs.Tryz.func41 rfl rfl), fnP73, fnP105⟩
theorem fnP281 : TreeP (FnOk Go.Proofs.Tryz.prog) 281 256 fnT281 := ⟨(fnOk_of Go.Proofs.Tryz.func281 rfl rfl), trivial, trivial⟩
theorem fnP153 : TreeP (FnOk Go.Proofs.Tryz.prog) 153 128 fnT153 := ⟨(fnOk_of Go.Proofs.Tryz.func153 rfl rfl), fnP281, trivial⟩
theorem fnP345 : TreeP (FnOk Go.Proofs.Tryz.prog) 345 256 fnT345 := ⟨(fnOk_of Go.Proofs.Tryz.func345 rfl rfl), trivial, trivial⟩
theorem fnP217 : TreeP (FnOk Go.Proofs.Tryz.prog) 217 128 fnT217 := ⟨(fnOk_of Go.Proofs.Tryz.func217 rfl rfl), fnP345, trivial⟩
theorem fnP89 : TreeP (FnOk Go.Proofs.Tryz.prog) 89 64 fnT89 := ⟨(fnOk_of Go.Proofs.Tryz.func89 rfl rfl), fnP153, fnP217⟩
theorem fnP313 : TreeP (FnOk Go.Proofs.Tryz.prog) 313 256 fnT313 := ⟨(fnOk_of Go.Proofs.Tryz.func313 rfl rfl), trivial, trivial⟩
theorem fnP185 : TreeP (FnOk Go.Proofs.Tryz.prog) 185 128 fnT185 := ⟨(fnOk_of Go.Proofs.Tryz.func185 rfl rfl), fnP313, trivial⟩
theorem fnP377 : TreeP (FnOk Go.Proofs.Tryz.prog) 377 256 fnT377 := ⟨(fun _ h => nomatch h), trivial, trivial⟩
theorem fnP249 : TreeP (FnOk Go.Proofs.Tryz.prog) 249 128 fnT249 := ⟨(fnOk_of Go.Proofs.Tryz.func249 rfl rfl), fnP377, trivial⟩
theorem fnP121 : TreeP (FnOk Go.Proofs.Tryz.prog) 121 64 fnT121 := ⟨(fnOk_of Go.Proofs.Tryz.func121 rfl rfl), fnP185, fnP249⟩
theorem fnP57 : TreeP (FnOk Go.Proofs.Tryz.prog) 57 32 fnT57 := ⟨(fnOk_of Go.Proofs.Tryz.func57 rfl rfl), fnP89, fnP121⟩
theorem fnP25 : TreeP (FnOk Go.Proofs.Tryz.prog) 25 16 fnT25 := ⟨(fnOk_of Go.Proofs.Tryz.func25 rfl rfl), fnP41, fnP57⟩
theorem fnP9 : TreeP (FnOk Go.Proofs.Tryz.prog) 9 8 fnT9 := ⟨(fnOk_of Go.Proofs.Tryz.func9 rfl rfl), fnP17, fnP25⟩
theorem fnP261 : TreeP (FnOk Go.Proofs.Tryz.prog) 261 256 fnT261 := ⟨(fnOk_of Go.Proofs.Tryz.func261 rfl rfl), trivial, trivial⟩
theorem fnP389 : TreeP (FnOk Go.Proofs.Tryz.prog) 389 256 fnT389 := ⟨(fun _ h => nomatch h), trivial, trivial⟩
theorem fnP133 : TreeP (FnOk Go.Proofs.Tryz.prog) 133 128 fnT133 := ⟨(fnOk_of Go.Proofs.Tryz.func133 rfl rfl), fnP261, fnP389⟩
theorem fnP325 : TreeP (FnOk Go.Proofs.Tryz.prog) 325 256 fnT325 := ⟨(fnOk_of Go.Proofs.Tryz.func325 rfl rfl), trivial, trivial⟩
theorem fnP197 : TreeP (FnOk Go.Proofs.Tryz.prog) 197 128 fnT197 := ⟨(fnOk_of Go.Proofs.Tryz.func197 rfl rfl), fnP325, trivial⟩
theorem fnP69 : TreeP (FnOk Go.Proofs.Tryz.prog) 69 64 fnT69 := ⟨(fnOk_of Go.Proofs.Tryz.func69 rfl rfl), fnP133, fnP197⟩
theorem fnP293 : TreeP (FnOk Go.Proofs.Tryz.prog) 293 256 fnT293 := ⟨(fnOk_of Go.Proofs.Tryz.func293 rfl rfl), trivial, trivial⟩
theorem fnP165 : TreeP (FnOk Go.Proofs.Tryz.prog) 165 128 fnT165 := ⟨(fnOk_of Go.Proofs.Tryz.func165 rfl rfl), fnP293, trivial⟩
theorem fnP357 : TreeP (FnOk Go.Proofs.Tryz.prog) 357 256 fnT357 := ⟨(fnOk_of Go.Proofs.Tryz.func357 rfl rfl), trivial, trivial⟩
theorem fnP229 : TreeP (FnOk Go.Proofs.Tryz.prog) 229 128 fnT229 := ⟨(fnOk_of Go.Proofs.Tryz.func229 rfl rfl), fnP357, trivial⟩
theorem fnP101 : TreeP (FnOk Go.Proofs.Tryz.prog) 101 64 fnT101 := ⟨(fnOk_of Go.Proofs.Tryz.func101 rfl rfl), fnP165, fnP229⟩
theorem fnP37 : TreeP (FnOk Go.Proofs.Tryz.prog) 37 32 fnT37 := ⟨(fnOk_of Go.Proofs.Tryz.func37 rfl rfl), fnP69, fnP101⟩
theorem fnP277 : TreeP (FnOk Go.Proofs.Tryz.prog) 277 256 fnT277 := ⟨(fnOk_of Go.Proofs.Tryz.func277 rfl rfl), trivial, trivial⟩
theorem fnP149 : TreeP (FnOk Go.Proofs.Tryz.prog) 149 128 fnT149 := ⟨(fnOk_of Go.Proofs.Tryz.func149 rfl rfl), fnP277, trivial⟩
theorem fnP341 : TreeP (FnOk Go.Proofs.Tryz.prog) 341 256 fnT341 := ⟨(fnOk_of Go.Proofs.Tryz.func341 rfl rfl), trivial, trivial⟩
theorem fnP213 : TreeP (FnOk Go.Proofs.Tryz.prog) 213 128 fnT213 := ⟨(fnOk_of Go.Proofs.Tryz.func213 rfl rfl), fnP341, trivial⟩
theorem fnP85 : TreeP (FnOk Go.Proofs.Tryz.prog) 85 64 fnT85 := ⟨(fnOk_of Go.Proofs.Tryz.func85 rfl rfl), fnP149, fnP213⟩
theorem fnP309 : TreeP (FnOk Go.Proofs.Tryz.prog) 309 256 fnT309 := ⟨(fnOk_of Go.Proofs.Tryz.func309 rfl rfl), trivial, trivial⟩
theorem fnP181 : TreeP (FnOk Go.Proofs.Tryz.prog) 181 128 fnT181 := ⟨(fnOk_of Go.Proofs.Tryz.func181 rfl rfl), fnP309, trivial⟩
theorem fnP373 : TreeP (FnOk Go.Proofs.Tryz.prog) 373 256 fnT373 := ⟨(fnOk_of Go.Proofs.Tryz.func373 rfl rfl), trivial, trivial⟩
theorem fnP245 : TreeP (FnOk Go.Proofs.Tryz.prog) 245 128 fnT245 := ⟨(fnOk_of Go.Proofs.Tryz.func245 rfl rfl), fnP373, trivial⟩
theorem fnP117 : TreeP (FnOk Go.Proofs.Tryz.prog) 117 64 fnT117 := ⟨(fnOk_of Go.Proofs.Tryz.func117 rfl rfl), fnP181, fnP245⟩
theorem fnP53 : TreeP (FnOk Go.Proofs.Tryz.prog) 53 32 fnT53 := ⟨(fnOk_of Go.Proofs.Tryz.func53 rfl rfl), fnP85, fnP117⟩
theorem fnP21 : TreeP (FnOk Go.Proofs.Tryz.prog) 21 16 fnT21 := ⟨(fnOk_of Go.Proofs.Tryz.func21 rfl rfl), fnP37, fnP53⟩
theorem fnP269 : TreeP (FnOk Go.Proofs.Tryz.prog) 269 256 fnT269 := ⟨(fnOk_of Go.Proofs.Tryz.func269 rfl rfl), trivial, trivial⟩
theorem fnP397 : TreeP (FnOk Go.Proofs.Tryz.prog) 397 256 fnT397 := ⟨(fnOk_of Go.Proofs.Tryz.func397 rfl rfl), trivial, trivial⟩
theorem fnP141 : TreeP (FnOk Go.Proofs.Tryz.prog) 141 128 fnT141 := ⟨(fnOk_of Go.Proofs.Tryz.func141 rfl rfl), fnP269, fnP397⟩
theorem fnP333 : TreeP (FnOk Go.Proofs.Tryz.prog) 333 256 fnT333 := ⟨(fnOk_of Go.Proofs.Tryz.func333 rfl rfl), trivial, trivial⟩
theorem fnP205 : TreeP (FnOk Go.Proofs.Tryz.prog) 205 128 fnT205 := ⟨(fnOk_of Go.Proofs.Tryz.func205 rfl rfl), fnP333, trivial⟩
theorem fnP77 : TreeP (FnOk Go.Proofs.Tryz.prog) 77 64 fnT77 := ⟨(fnOk_of Go.Proofs.Tryz.func77 rfl rfl), fnP141, fnP205⟩
theorem fnP301 : TreeP (FnOk Go.Proofs.Tryz.prog) 301 256 fnT301 := ⟨(fnOk_of Go.Proofs.Tryz.func301 rfl rfl), trivial, trivial⟩
theorem fnP173 : TreeP (FnOk Go.Proofs.Tryz.prog) 173 128 fnT173 := ⟨(fnOk_of Go.Proofs.Tryz.func173 rfl rfl), fnP301, trivial⟩
theorem fnP365 : TreeP (FnOk Go.Proofs.Tryz.prog) 365 256 fnT365 := ⟨(fnOk_of Go.Proofs.Tryz.func365 rfl rfl), trivial, trivial⟩
theorem fnP237 : TreeP (FnOk Go.Proofs.Tryz.prog) 237 128 fnT237 := ⟨(fnOk_of Go.Proofs.Tryz.func237 rfl rfl), fnP365, trivial⟩
theorem fnP109 : TreeP (FnOk Go.Proofs.Tryz.prog) 109 64 fnT109 := ⟨(fnOk_of Go.Proofs.Tryz.func109 rfl rfl), fnP173, fnP237⟩
theorem fnP45 : TreeP (FnOk Go.Proofs.Tryz.prog) 45 32 fnT45 := ⟨(fnOk_of Go.Proofs.Tryz.func45 rfl rfl), fnP77, fnP109⟩
theorem fnP285 : TreeP (FnOk Go.Proofs.Tryz.prog) 285 256 fnT285 := ⟨(fnOk_of Go.Proofs.Tryz.func285 rfl rfl), trivial, trivial⟩
theorem fnP157 : TreeP (FnOk Go.Proofs.Tryz.prog) 157 128 fnT157 := ⟨(fnOk_of Go.Proofs.Tryz.func157 rfl rfl), fnP285, trivial⟩
theorem fnP349 : TreeP (FnOk Go.Proofs.Tryz.prog) 349 256 fnT349 := ⟨(fnOk_of Go.Proofs.Tryz.func349 rfl rfl), trivial, trivial⟩
theorem fnP221 : TreeP (FnOk Go.Proofs.Tryz.prog) 221 128 fnT221 := ⟨(fnOk_of Go.Proofs.Tryz.func221 rfl rfl), fnP349, trivial⟩
theorem fnP93 : TreeP (FnOk Go.Proofs.Tryz.prog) 93 64 fnT93 := ⟨(fnOk_of Go.Proofs.Tryz.func93 rfl rfl), fnP157, fnP221⟩
theorem fnP317 : TreeP (FnOk Go.Proofs.Tryz.prog) 317 256 fnT317 := ⟨(fnOk_of Go.Proofs.Tryz.func317 rfl rfl), trivial, trivial⟩
theorem fnP189 : TreeP (FnOk Go.Proofs.Tryz.prog) 189 128 fnT189 := ⟨(fnOk_of Go.Proofs.Tryz.func189 rfl rfl), fnP317, trivial⟩
theorem fnP381 : TreeP (FnOk Go.Proofs.Tryz.prog) 381 256 fnT381 := ⟨(fun _ h => nomatch h), trivial, trivial⟩
theorem fnP253 : TreeP (FnOk Go.Proofs.Tryz.prog) 253 128 fnT253 := ⟨(fnOk_of Go.Proofs.Tryz.func253 rfl rfl), fnP381, trivial⟩
theorem fnP125 : TreeP (FnOk Go.Proofs.Tryz.prog) 125 64 fnT125 := ⟨(fnOk_of Go.Proofs.Tryz.func125 rfl rfl), fnP189, fnP253⟩
theorem fnP61 : TreeP (FnOk Go.Proofs.Tryz.prog) 61 32 fnT61 := ⟨(fnOk_of Go.Proofs.Tryz.func61 rfl rfl), fnP93, fnP125⟩
theorem fnP29 : TreeP (FnOk Go.Proofs.Tryz.prog) 29 16 fnT29 := ⟨(fnOk_of Go.Proofs.Tryz.func29 rfl rfl), fnP45, fnP61⟩
theorem fnP13 : TreeP (FnOk Go.Proofs.Tryz.prog) 13 8 fnT13 := ⟨(fnOk_of Go.Proofs.Tryz.func13 rfl rfl), fnP21, fnP29⟩
theorem fnP5 : TreeP (FnOk Go.Proofs.Tryz.prog) 5 4 fnT5 := ⟨(fnOk_of Go.Proofs.Tryz.func5 rfl rfl), fnP9, fnP13⟩
theorem fnP1 : TreeP (FnOk Go.Proofs.Tryz.prog) 1 2 fnT1 := ⟨(fun _ h => nomatch h), fnP3, fnP5⟩
theorem fnP256 : TreeP (FnOk Go.Proofs.Tryz.prog) 256 256 fnT256 := ⟨(fnOk_of Go.Proofs.Tryz.func256 rfl rfl), trivial, trivial⟩
theorem fnP384 : TreeP (FnOk Go.Proofs.Tryz.prog) 384 256 fnT384 := ⟨(fun _ h => nomatch h), trivial, trivial⟩
theorem fnP128 : TreeP (FnOk Go.Proofs.Tryz.prog) 128 128 fnT128 := ⟨(fnOk_of Go.Proofs.Tryz.func128 rfl rfl), fnP256, fnP384⟩
theorem fnP320 : TreeP (FnOk Go.Proofs.Tryz.prog) 320 256 fnT320 := ⟨(fnOk_of Go.Proofs.Tryz.func320 rfl rfl), trivial, trivial⟩
theorem fnP192 : TreeP (FnOk Go.Proofs.Tryz.prog) 192 128 fnT192 := ⟨(fnOk_of Go.Proofs.Tryz.func192 rfl rfl), fnP320, trivial⟩
theorem fnP64 : TreeP (FnOk Go.Proofs.Tryz.prog) 64 64 fnT64 := ⟨(fnOk_of Go.Proofs.Tryz.func64 rfl rfl), fnP128, fnP192⟩
theorem fnP288 : TreeP (FnOk Go.Proofs.Tryz.prog) 288 256 fnT288 := ⟨(fnOk_of Go.Proofs.Tryz.func288 rfl rfl), trivial, trivial⟩
theorem fnP160 : TreeP (FnOk Go.Proofs.Tryz.prog) 160 128 fnT160 := ⟨(fnOk_of Go.Proofs.Tryz.func160 rfl rfl), fnP288, trivial⟩
theorem fnP352 : TreeP (FnOk Go.Proofs.Tryz.prog) 352 256 fnT352 := ⟨(fnOk_of Go.Proofs.Tryz.func352 rfl rfl), trivial, trivial⟩
theorem fnP224 : TreeP (FnOk Go.Proofs.Tryz.prog) 224 128 fnT224 := ⟨(fnOk_of Go.Proofs.Tryz.func224 rfl rfl), fnP352, trivial⟩
theorem fnP96 : TreeP (FnOk Go.Proofs.Tryz.prog) 96 64 fnT96 := ⟨(fnOk_of Go.Proofs.Tryz.func96 rfl rfl), fnP160, fnP224⟩
theorem fnP32 : TreeP (FnOk Go.Proofs.Tryz.prog) 32 32 fnT32 := ⟨(fnOk_of Go.Proofs.Tryz.func32 rfl rfl), fnP64, fnP96⟩
theorem fnP272 : TreeP (FnOk Go.Proofs.Tryz.prog) 272 256 fnT272 := ⟨(fnOk_of Go.Proofs.Tryz.func272 rfl rfl), trivial, trivial⟩
theorem fnP144 : TreeP (FnOk Go.Proofs.Tryz.prog) 144 128 fnT144 := ⟨(fnOk_of Go.Proofs.Tryz.func144 rfl rfl), fnP272, trivial⟩
theorem fnP336 : TreeP (FnOk Go.Proofs.Tryz.prog) 336 256 fnT336 := ⟨(fnOk_of Go.Proofs.Tryz.func336 rfl rfl), trivial, trivial⟩
theorem fnP208 : TreeP (FnOk Go.Proofs.Tryz.prog) 208 128 fnT208 := ⟨(fnOk_of Go.Proofs.Tryz.func208 rfl rfl), fnP336, trivial⟩
theorem fnP80 : TreeP (FnOk Go.Proofs.Tryz.prog) 80 64 fnT80 := ⟨(fnOk_of Go.Proofs.Tryz.func80 rfl rfl), fnP144, fnP208⟩
theorem fnP304 : TreeP (FnOk Go.Proofs.Tryz.prog) 304 256 fnT304 := ⟨(fnOk_of Go.Proofs.Tryz.func304 rfl rfl), trivial, trivial⟩
theorem fnP176 : TreeP (FnOk Go.Proofs.Tryz.prog) 176 128 fnT176 := ⟨(fnOk_of Go.Proofs.Tryz.func176 rfl rfl), fnP304, trivial⟩
theorem fnP368 : TreeP (FnOk Go.Proofs.Tryz.prog) 368 256 fnT368 := ⟨(fnOk_of Go.Proofs.Tryz.func368 rfl rfl), trivial, trivial⟩
theorem fnP240 : TreeP (FnOk Go.Proofs.Tryz.prog) 240 128 fnT240 := ⟨(fnOk_of Go.Proofs.Tryz.func240 rfl rfl), fnP368, trivial⟩
theorem fnP112 : TreeP (FnOk Go.Proofs.Tryz.prog) 112 64 fnT112 := ⟨(fnOk_of Go.Proofs.Tryz.func112 rfl rfl), fnP176, fnP240⟩
theorem fnP48 : TreeP (FnOk Go.Proofs.Tryz.prog) 48 32 fnT48 := ⟨(fnOk_of Go.Proofs.Tryz.func48 rfl rfl), fnP80, fnP112⟩
theorem fnP16 : TreeP (FnOk Go.Proofs.Tryz.prog) 16 16 fnT16 := ⟨(fnOk_of Go.Proofs.Tryz.func16 rfl rfl), fnP32, fnP48⟩
theorem fnP264 : TreeP (FnOk Go.Proofs.Tryz.prog) 264 256 fnT264 := ⟨(fnOk_of Go.Proofs.Tryz.func264 rfl rfl), trivial, trivial⟩
theorem fnP392 : TreeP (FnOk Go.Proofs.Tryz.prog) 392 256 fnT392 := ⟨(fun _ h => nomatch h), trivial, trivial⟩
theorem fnP136 : TreeP (FnOk Go.Proofs.Tryz.prog) 136 128 fnT136 := ⟨(fnOk_of Go.Proofs.Tryz.func136 rfl rfl), fnP264, fnP392⟩
theorem fnP328 : TreeP (FnOk Go.Proofs.Tryz.prog) 328 256 fnT328 := ⟨(fnOk_of Go.Proofs.Tryz.func328 rfl rfl), trivial, trivial⟩
theorem fnP200 : TreeP (FnOk Go.Proofs.Tryz.prog) 200 128 fnT200 := ⟨(fnOk_of Go.Proofs.Tryz.func200 rfl rfl), fnP328, trivial⟩
theorem fnP72 : TreeP (FnOk Go.Proofs.Tryz.prog) 72 64 fnT72 := ⟨(fnOk_of Go.Proofs.Tryz.func72 rfl rfl), fnP136, fnP200⟩
theorem fnP296 : TreeP (FnOk Go.Proofs.Tryz.prog) 296 256 fnT296 := ⟨(fnOk_of Go.Proofs.Tryz.func296 rfl rfl), trivial, trivial⟩
theorem fnP168 : TreeP (FnOk Go.Proofs.Tryz.prog) 168 128 fnT168 := ⟨(fnOk_of Go.Proofs.Tryz.func168 rfl rfl), fnP296, trivial⟩
theorem fnP360 : TreeP (FnOk Go.Proofs.Tryz.prog) 360 256 fnT360 := ⟨(fnOk_of Go.Proofs.Tryz.func360 rfl rfl), trivial, trivial⟩
theorem fnP232 : TreeP (FnOk Go.Proofs.Tryz.prog) 232 128 fnT232 := ⟨(fnOk_of Go.Proofs.Tryz.func232 rfl rfl), fnP360, trivial⟩
theorem fnP104 : TreeP (FnOk Go.Proofs.Tryz.prog) 104 64 fnT104 := ⟨(fnOk_of Go.Proofs.Tryz.func104 rfl rfl), fnP168, fnP232⟩
theorem fnP40 : TreeP (FnOk Go.Proofs.Tryz.prog) 40 32 fnT40 := ⟨(fnOk_of Go.Proofs.Tryz.func40 rfl rfl), fnP72, fnP104⟩
theorem fnP280 : TreeP (FnOk Go.Proofs.Tryz.prog) 280 256 fnT280 := ⟨(fnOk_of Go.Proofs.Tryz.func280 rfl rfl), trivial, trivial⟩
theorem fnP152 : TreeP (FnOk Go.Proofs.Tryz.prog) 152 128 fnT152 := ⟨(fnOk_of Go.Proofs.Tryz.func152 rfl rfl), fnP280, trivial⟩
theorem fnP344 : TreeP (FnOk Go.Proofs.Tryz.prog) 344 256 fnT344 := ⟨(fnOk_of Go.Proofs.Tryz.func344 rfl rfl), trivial, trivial⟩
theorem fnP216 : TreeP (FnOk Go.Proofs.Tryz.prog) 216 128 fnT216 := ⟨(fnOk_of Go.Proofs.Tryz.func216 rfl rfl), fnP344, trivial⟩
theorem fnP88 : TreeP (FnOk Go.Proofs.Tryz.prog) 88 64 fnT88 := ⟨(fnOk_of Go.Proofs.Tryz.func88 rfl rfl), fnP152, fnP216⟩
theorem fnP312 : TreeP (FnOk Go.Proofs.Tryz.prog) 312 256 fnT312 := ⟨(fnOk_of Go.Proofs.Tryz.func312 rfl rfl), trivial, trivial⟩
theorem fnP184 : TreeP (FnOk Go.Proofs.Tryz.prog) 184 128 fnT184 := ⟨(fnOk_of Go.Proofs.Tryz.func184 rfl rfl), fnP312, trivial⟩
theorem fnP376 : TreeP (FnOk Go.Proofs.Tryz.prog) 376 256 fnT376 := ⟨(fun _ h => nomatch h), trivial, trivial⟩
theorem fnP248 : TreeP (FnOk Go.Proofs.Tryz.prog) 248 128 fnT248 := ⟨(fnOk_of Go.Proofs.Tryz.func248 rfl rfl), fnP376, trivial⟩
theorem fnP120 : TreeP (FnOk Go.Proofs.Tryz.prog) 120 64 fnT120 := ⟨(fnOk_of Go.Proofs.Tryz.func120 rfl rfl), fnP184, fnP248⟩
theorem fnP56 : TreeP (FnOk Go.Proofs.Tryz.prog) 56 32 fnT56 := ⟨(fnOk_of Go.Proofs.Tryz.func56 rfl rfl), fnP88, fnP120⟩
theorem fnP24 : TreeP (FnOk Go.Proofs.Tryz.prog) 24 16 fnT24 := ⟨(fnOk_of Go.Proofs.Tryz.func24 rfl rfl), fnP40, fnP56⟩
theorem fnP8 : TreeP (FnOk Go.Proofs.Tryz.prog) 8 8 fnT8 := ⟨(fnOk_of Go.Proofs.Tryz.func8 rfl rfl), fnP16, fnP24⟩
theorem fnP260 : TreeP (FnOk Go.Proofs.Tryz.prog) 260 256 fnT260 := ⟨(fnOk_of Go.Proofs.Tryz.func260 rfl rfl), trivial, trivial⟩
theorem fnP388 : TreeP (FnOk Go.Proofs.Tryz.prog) 388 256 fnT388 := ⟨(fun _ h => nomatch h), trivial, trivial⟩
theorem fnP132 : TreeP (FnOk Go.Proofs.Tryz.prog) 132 128 fnT132 := ⟨(fnOk_of Go.Proofs.Tryz.func132 rfl rfl), fnP260, fnP388⟩
theorem fnP324 : TreeP (FnOk Go.Proofs.Tryz.prog) 324 256 fnT324 := ⟨(fnOk_of Go.Proofs.Tryz.func324 rfl rfl), trivial, trivial⟩
theorem fnP196 : TreeP (FnOk Go.Proofs.Tryz.prog) 196 128 fnT196 := ⟨(fnOk_of Go.Proofs.Tryz.func196 rfl rfl), fnP324, trivial⟩
theorem fnP68 : TreeP (FnOk Go.Proofs.Tryz.prog) 68 64 fnT68 := ⟨(fnOk_of Go.Proofs.Tryz.func68 rfl rfl), fnP132, fnP196⟩
theorem fnP292 : TreeP (FnOk Go.Proofs.Tryz.prog) 292 256 fnT292 := ⟨(fnOk_of Go.Proofs.Tryz.func292 rfl rfl), trivial, trivial⟩
theorem fnP164 : TreeP (FnOk Go.Proofs.Tryz.prog) 164 128 fnT164 := ⟨(fnOk_of Go.Proofs.Tryz.func164 rfl rfl), fnP292, trivial⟩
theorem fnP356 : TreeP (FnOk Go.Proofs.Tryz.prog) 356 256 fnT356 := ⟨(fnOk_of Go.Proofs.Tryz.func356 rfl rfl), trivial, trivial⟩
theorem fnP228 : TreeP (FnOk Go.Proofs.Tryz.prog) 228 128 fnT228 := ⟨(fnOk_of Go.Proofs.Tryz.func228 rfl rfl), fnP356, trivial⟩
theorem fnP100 : TreeP (FnOk Go.Proofs.Tryz.prog) 100 64 fnT100 := ⟨(fnOk_of Go.Proofs.Tryz.func100 rfl rfl), fnP164, fnP228⟩
theorem fnP36 : TreeP (FnOk Go.Proofs.Tryz.prog) 36 32 fnT36 := ⟨(fnOk_of Go.Proofs.Tryz.func36 rfl rfl), fnP68, fnP100⟩
theorem fnP276 : TreeP (FnOk Go.Proofs.Tryz.prog) 276 256 fnT276 := ⟨(fnOk_of Go.Proofs.Tryz.func276 rfl rfl), trivial, trivial⟩
theorem fnP148 : TreeP (FnOk Go.Proofs.Tryz.prog) 148 128 fnT148 := ⟨(fnOk_of Go.Proofs.Tryz.func148 rfl rfl), fnP276, trivial⟩
theorem fnP340 : TreeP (FnOk Go.Proofs.Tryz.prog) 340 256 fnT340 := ⟨(fnOk_of Go.Proofs.Tryz.func340 rfl rfl), trivial, trivial⟩
theorem fnP212 : TreeP (FnOk Go.Proofs.Tryz.prog) 212 128 fnT212 := ⟨(fnOk_of Go.Proofs.Tryz.func212 rfl rfl), fnP340, trivial⟩
theorem fnP84 : TreeP (FnOk Go.Proofs.Tryz.prog) 84 64 fnT84 := ⟨(fnOk_of Go.Proofs.Tryz.func84 rfl rfl), fnP148, fnP212⟩
theorem fnP308 : TreeP (FnOk Go.Proofs.Tryz.prog) 308 256 fnT308 := ⟨(fnOk_of Go.Proofs.Tryz.func308 rfl rfl), trivial, trivial⟩
theorem fnP180 : TreeP (FnOk Go.Proofs.Tryz.prog) 180 128 fnT180 := ⟨(fnOk_of Go.Proofs.Tryz.func180 rfl rfl), fnP308, trivial⟩
theorem fnP372 : TreeP (FnOk Go.Proofs.Tryz.prog) 372 256 fnT372 := ⟨(fnOk_of Go.Proofs.Tryz.func372 rfl rfl), trivial, trivial⟩
theorem fnP244 : TreeP (FnOk Go.Proofs.Tryz.prog) 244 128 fnT244 := ⟨(fnOk_of Go.Proofs.Tryz.func244 rfl rfl), fnP372, trivial⟩
theorem fnP116 : TreeP (FnOk Go.Proofs.Tryz.prog) 116 64 fnT116 := ⟨(fnOk_of Go.Proofs.Tryz.func116 rfl rfl), fnP180, fnP244⟩
theorem fnP52 : TreeP (FnOk Go.Proofs.Tryz.prog) 52 32 fnT52 := ⟨(fnOk_of Go.Proofs.Tryz.func52 rfl rfl), fnP84, fnP116⟩
theorem fnP20 : TreeP (FnOk Go.Proofs.Tryz.prog) 20 16 fnT20 := ⟨(fnOk_of Go.Proofs.Tryz.func20 rfl rfl), fnP36, fnP52⟩
theorem fnP268 : TreeP (FnOk Go.Proofs.Tryz.prog) 268 256 fnT268 := ⟨(fnOk_of Go.Proofs.Tryz.func268 rfl rfl), trivial, trivial⟩
theorem fnP396 : TreeP (FnOk Go.Proofs.Tryz.prog) 396 256 fnT396 := ⟨(fun _ h => nomatch h), trivial, trivial⟩
theorem fnP140 : TreeP (FnOk Go.Proofs.Tryz.prog) 140 128 fnT140 := ⟨(fnOk_of Go.Proofs.Tryz.func140 rfl rfl), fnP268, fnP396⟩
theorem fnP332 : TreeP (FnOk Go.Proofs.Tryz.prog) 332 256 fnT332 := ⟨(fnOk_of Go.Proofs.Tryz.func332 rfl rfl), trivial, trivial⟩
theorem fnP204 : TreeP (FnOk Go.Proofs.Tryz.prog) 204 128 fnT204 := ⟨(fnOk_of Go.Proofs.Tryz.func204 rfl rfl), fnP332, trivial⟩
theorem fnP76 : TreeP (FnOk Go.Proofs.Tryz.prog) 76 64 fnT76 := ⟨(fnOk_of Go.Proofs.Tryz.func76 rfl rfl), fnP140, fnP204⟩
theorem fnP300 : TreeP (FnOk Go.Proofs.Tryz.prog) 300 256 fnT300 := ⟨(fnOk_of Go.Proofs.Tryz.func300 rfl rfl), trivial, trivial⟩
theorem fnP172 : TreeP (FnOk Go.Proofs.Tryz.prog) 172 128 fnT172 := ⟨(fnOk_of Go.Proofs.Tryz.func172 rfl rfl), fnP300, trivial⟩
theorem fnP364 : TreeP (FnOk Go.Proofs.Tryz.prog) 364 256 fnT364 := ⟨(fnOk_of Go.Proofs.Tryz.func364 rfl rfl), trivial, trivial⟩
theorem fnP236 : TreeP (FnOk Go.Proofs.Tryz.prog) 236 128 fnT236 := ⟨(fnOk_of Go.Proofs.Tryz.func236 rfl rfl), fnP364, trivial⟩
theorem fnP108 : TreeP (FnOk Go.Proofs.Tryz.prog) 108 64 fnT108 := ⟨(fnOk_of Go.Proofs.Tryz.func108 rfl rfl), fnP172, fnP236⟩
theorem fnP44 : TreeP (FnOk Go.Proofs.Tryz.prog) 44 32 fnT44 := ⟨(fnOk_of Go.Proofs.Tryz.func44 rfl rfl), fnP76, fnP108⟩
theorem fnP284 : TreeP (FnOk Go.Proofs.Tryz.prog) 284 256 fnT284 := ⟨(fnOk_of Go.Proofs.Tryz.func284 rfl rfl), trivial, trivial⟩
theorem fnP156 : TreeP (FnOk Go.Proofs.Tryz.prog) 156 128 fnT156 := ⟨(fnOk_of Go.Proofs.Tryz.func156 rfl rfl), fnP284, trivial⟩
theorem fnP348 : TreeP (FnOk Go.Proofs.Tryz.prog) 348 256 fnT348 := ⟨(fnOk_of Go.Proofs.Tryz.func348 rfl rfl), trivial, trivial⟩
theorem fnP220 : TreeP (FnOk Go.Proofs.Tryz.prog) 220 128 fnT220 := ⟨(fnOk_of Go.Proofs.Tryz.func220 rfl rfl), fnP348, trivial⟩
theorem fnP92 : TreeP (FnOk Go.Proofs.Tryz.prog) 92 64 fnT92 := ⟨(fnOk_of Go.Proofs.Tryz.func92 rfl rfl), fnP156, fnP220⟩
theorem fnP316 : TreeP (FnOk Go.Proofs.Tryz.prog) 316 256 fnT316 := ⟨(fnOk_of Go.Proofs.Tryz.func316 rfl rfl), trivial, trivial⟩
theorem fnP188 : TreeP (FnOk Go.Proofs.Tryz.prog) 188 128 fnT188 := ⟨(fnOk_of Go.Proofs.Tryz.func188 rfl rfl), fnP316, trivial⟩
theorem fnP380 : TreeP (FnOk Go.Proofs.Tryz.prog) 380 256 fnT380 := ⟨(fun _ h => nomatch h), trivial, trivial⟩
theorem fnP252 : TreeP (FnOk Go.Proofs.Tryz.prog) 252 128 fnT252 := ⟨(fnOk_of Go.Proofs.Tryz.func252 rfl rfl), fnP380, trivial⟩
theorem fnP124 : TreeP (FnOk Go.Proofs.Tryz.prog) 124 64 fnT124 := ⟨(fnOk_of Go.Proofs.Tryz.func124 rfl rfl), fnP188, fnP252⟩
theorem fnP60 : TreeP (FnOk Go.Proofs.Tryz.prog) 60 32 fnT60 := ⟨(fnOk_of Go.Proofs.Tryz.func60 rfl rfl), fnP92, fnP124⟩
theorem fnP28 : TreeP (FnOk Go.Proofs.Tryz.prog) 28 16 fnT28 := ⟨(fnOk_of Go.Proofs.Tryz.func28 rfl rfl), fnP44, fnP60⟩
theorem fnP12 : TreeP (FnOk Go.Proofs.Tryz.prog) 12 8 fnT12 := ⟨(fnOk_of Go.Proofs.Tryz.func12 rfl rfl), fnP20, fnP28⟩
theorem fnP4 : TreeP (FnOk Go.Proofs.Tryz.prog) 4 4 fnT4 := ⟨(fnOk_of Go.Proofs.Tryz.func4 rfl rfl), fnP8, fnP12⟩
theorem fnP258 : TreeP (FnOk Go.Proofs.Tryz.prog) 258 256 fnT258 := ⟨(fnOk_of Go.Proofs.Tryz.func258 rfl rfl), trivial, trivial⟩
theorem fnP386 : TreeP (FnOk Go.Proofs.Tryz.prog) 386 256 fnT386 := ⟨(fun _ h => nomatch h), trivial, trivial⟩
theorem fnP130 : TreeP (FnOk Go.Proofs.Tryz.prog) 130 128 fnT130 := ⟨(fnOk_of Go.Proofs.Tryz.func130 rfl rfl), fnP258, fnP386⟩
theorem fnP322 : TreeP (FnOk Go.Proofs.Tryz.prog) 322 256 fnT322 := ⟨(fnOk_of Go.Proofs.Tryz.func322 rfl rfl), trivial, trivial⟩
theorem fnP194 : TreeP (FnOk Go.Proofs.Tryz.prog) 194 128 fnT194 := ⟨(fnOk_of Go.Proofs.Tryz.func194 rfl rfl), fnP322, trivial⟩
theorem fnP66 : TreeP (FnOk Go.Proofs.Tryz.prog) 66 64 fnT66 := ⟨(fnOk_of Go.Proofs.Tryz.func66 rfl rfl), fnP130, fnP194⟩
theorem fnP290 : TreeP (FnOk Go.Proofs.Tryz.prog) 290 256 fnT290 := ⟨(fnOk_of Go.Proofs.Tryz.func290 rfl rfl), trivial, trivial⟩
theorem fnP162 : TreeP (FnOk Go.Proofs.Tryz.prog) 162 128 fnT162 := ⟨(fnOk_of Go.Proofs.Tryz.func162 rfl rfl), fnP290, trivial⟩
theorem fnP354 : TreeP (FnOk Go.Proofs.Tryz.prog) 354 256 fnT354 := ⟨(fnOk_of Go.Proofs.Tryz.func354 rfl rfl), trivial, trivial⟩
theorem fnP226 : TreeP (FnOk Go.Proofs.Tryz.prog) 226 128 fnT226 := ⟨(fnOk_of Go.Proofs.Tryz.func226 rfl rfl), fnP354, trivial⟩
theorem fnP98 : TreeP (FnOk Go.Proofs.Tryz.prog) 98 64 fnT98 := ⟨(fnOk_of Go.Proofs.Tryz.func98 rfl rfl), fnP162, fnP226⟩
theorem fnP34 : TreeP (FnOk Go.Proofs.Tryz.prog) 34 32 fnT34 := ⟨(fnOk_of Go.Proofs.Tryz.func34 rfl rfl), fnP66, fnP98⟩
theorem fnP274 : TreeP (FnOk Go.Proofs.Tryz.prog) 274 256 fnT274 := ⟨(fnOk_of Go.Proofs.Tryz.func274 rfl rfl), trivial, trivial⟩
theorem fnP146 : TreeP (FnOk Go.Proofs.Tryz.prog) 146 128 fnT146 := ⟨(fnOk_of Go.Proofs.Tryz.func146 rfl rfl), fnP274, trivial⟩
theorem fnP338 : TreeP (FnOk Go.Proofs.Tryz.prog) 338 256 fnT338 := ⟨(fnOk_of Go.Proofs.Tryz.func338 rfl rfl), trivial, trivial⟩
theorem fnP210 : TreeP (FnOk Go.Proofs.Tryz.prog) 210 128 fnT210 := ⟨(fnOk_of Go.Proofs.Tryz.func210 rfl rfl), fnP338, trivial⟩
theorem fnP82 : TreeP (FnOk Go.Proofs.Tryz.prog) 82 64 fnT82 := ⟨(fnOk_of Go.Proofs.Tryz.func82 rfl rfl), fnP146, fnP210⟩
theorem fnP306 : TreeP (FnOk Go.Proofs.Tryz.prog) 306 256 fnT306 := ⟨(fnOk_of Go.Proofs.Tryz.func306 rfl rfl), trivial, trivial⟩
theorem fnP178 : TreeP (FnOk Go.Proofs.Tryz.prog) 178 128 fnT178 := ⟨(fnOk_of Go.Proofs.Tryz.func178 rfl rfl), fnP306, trivial⟩
theorem fnP370 : TreeP (FnOk Go.Proofs.Tryz.prog) 370 256 fnT370 := ⟨(fnOk_of Go.Proofs.Tryz.func370 rfl rfl), trivial, trivial⟩
theorem fnP242 : TreeP (FnOk Go.Proofs.Tryz.prog) 242 128 fnT242 := ⟨(fnOk_of Go.Proofs.Tryz.func242 rfl rfl), fnP370, trivial⟩
theorem fnP114 : TreeP (FnOk Go.Proofs.Tryz.prog) 114 64 fnT114 := ⟨(fnOk_of Go.Proofs.Tryz.func114 rfl rfl), fnP178, fnP242⟩
theorem fnP50 : TreeP (FnOk Go.Proofs.Tryz.prog) 50 32 fnT50 := ⟨(fnOk_of Go.Proofs.Tryz.func50 rfl rfl), fnP82, fnP114⟩
theorem fnP18 : TreeP (FnOk Go.Proofs.Tryz.prog) 18 16 fnT18 := ⟨(fnOk_of Go.Proofs.Tryz.func18 rfl rfl), fnP34, fnP50⟩
theorem fnP266 : TreeP (FnOk Go.Proofs.Tryz.prog) 266 256 fnT266 := ⟨(fnOk_of Go.Proofs.Tryz.func266 rfl rfl), trivial, trivial⟩
theorem fnP394 : TreeP (FnOk Go.Proofs.Tryz.prog) 394 256 fnT394 := ⟨(fun _ h => nomatch h), trivial, trivial⟩
theorem fnP138 : TreeP (FnOk Go.Proofs.Tryz.prog) 138 128 fnT138 := ⟨(fnOk_of Go.Proofs.Tryz.func138 rfl rfl), fnP266, fnP394⟩
theorem fnP330 : TreeP (FnOk Go.Proofs.Tryz.prog) 330 256 fnT330 := ⟨(fnOk_of Go.Proofs.Tryz.func330 rfl rfl), trivial, trivial⟩
theorem fnP202 : TreeP (FnOk Go.Proofs.Tryz.prog) 202 128 fnT202 := ⟨(fnOk_of Go.Proofs.Tryz.func202 rfl rfl), fnP330, trivial⟩
theorem fnP74 : TreeP (FnOk Go.Proofs.Tryz.prog) 74 64 fnT74 := ⟨(fnOk_of Go.Proofs.Tryz.func74 rfl rfl), fnP138, fnP202⟩
theorem fnP298 : TreeP (FnOk Go.Proofs.Tryz.prog) 298 256 fnT298 := ⟨(fnOk_of Go.Proofs.Tryz.func298 rfl rfl), trivial, trivial⟩
theorem fnP170 : TreeP (FnOk Go.Proofs.Tryz.prog) 170 128 fnT170 := ⟨(fnOk_of Go.Proofs.Tryz.func170 rfl rfl), fnP298, trivial⟩
theorem fnP362 : TreeP (FnOk Go.Proofs.Tryz.prog) 362 256 fnT362 := ⟨(fnOk_of Go.Proofs.Tryz.func362 rfl rfl), trivial, trivial⟩
theorem fnP234 : TreeP (FnOk Go.Proofs.Tryz.prog) 234 128 fnT234 := ⟨(fnOk_of Go.Proofs.Tryz.func234 rfl rfl), fnP362, trivial⟩
theorem fnP106 : TreeP (FnOk Go.Proofs.Tryz.prog) 106 64 fnT106 := ⟨(fnOk_of Go.Proofs.Tryz.func106 rfl rfl), fnP170, fnP234⟩
theorem fnP42 : TreeP (FnOk Go.Proofs.Tryz.prog) 42 32 fnT42 := ⟨(fnOk_of Go.Proofs.Tryz.func42 rfl rfl), fnP74, fnP106⟩
theorem fnP282 : TreeP (FnOk Go.Proofs.Tryz.prog) 282 256 fnT282 := ⟨(fnOk_of Go.Proofs.Tryz.func282 rfl rfl), trivial, trivial⟩
theorem fnP154 : TreeP (FnOk Go.Proofs.Tryz.prog) 154 128 fnT154 := ⟨(fnOk_of Go.Proofs.Tryz.func154 rfl rfl), fnP282, trivial⟩
theorem fnP346 : TreeP (FnOk Go.Proofs.Tryz.prog) 346 256 fnT346 := ⟨(fnOk_of Go.Proofs.Tryz.func346 rfl rfl), trivial, trivial⟩
theorem fnP218 : TreeP (FnOk Go.Proofs.Tryz.prog) 218 128 fnT218 := ⟨(fnOk_of Go.Proofs.Tryz.func218 rfl rfl), fnP346, trivial⟩
theorem fnP90 : TreeP (FnOk Go.Proofs.Tryz.prog) 90 64 fnT90 := ⟨(fnOk_of Go.Proofs.Tryz.func90 rfl rfl), fnP154, fnP218⟩
theorem fnP314 : TreeP (FnOk Go.Proofs.Tryz.prog) 314 256 fnT314 := ⟨(fnOk_of Go.Proofs.Tryz.func314 rfl rfl), trivial, trivial⟩
theorem fnP186 : TreeP (FnOk Go.Proofs.Tryz.prog) 186 128 fnT186 := ⟨(fnOk_of Go.Proofs.Tryz.func186 rfl rfl), fnP314, trivial⟩
theorem fnP378 : TreeP (FnOk Go.Proofs.Tryz.prog) 378 256 fnT378 := ⟨(fun _ h => nomatch h), trivial, trivial⟩
theorem fnP250 : TreeP (FnOk Go.Proofs.Tryz.prog) 250 128 fnT250 := ⟨(fnOk_of Go.Proofs.Tryz.func250 rfl rfl), fnP378, trivial⟩
theorem fnP122 : TreeP (FnOk Go.Proofs.Tryz.prog) 122 64 fnT122 := ⟨(fnOk_of Go.Proofs.Tryz.func122 rfl rfl), fnP186, fnP250⟩
theorem fnP58 : TreeP (FnOk Go.Proofs.Tryz.prog) 58 32 fnT58 := ⟨(fnOk_of Go.Proofs.Tryz.func58 rfl rfl), fnP90, fnP122⟩
theorem fnP26 : TreeP (FnOk Go.Proofs.Tryz.prog) 26 16 fnT26 := ⟨(fnOk_of Go.Proofs.Tryz.func26 rfl rfl), fnP42, fnP58⟩
theorem fnP10 : TreeP (FnOk Go.Proofs.Tryz.prog) 10 8 fnT10 := ⟨(fnOk_of Go.Proofs.Tryz.func10 rfl rfl), fnP18, fnP26⟩
theorem fnP262 : TreeP (FnOk Go.Proofs.Tryz.prog) 262 256 fnT262 := ⟨(fnOk_of Go.Proofs.Tryz.func262 rfl rfl), trivial, trivial⟩
theorem fnP390 : TreeP (FnOk Go.Proofs.Tryz.prog) 390 256 fnT390 := ⟨(fun _ h => nomatch h), trivial, trivial⟩
theorem fnP134 : TreeP (FnOk Go.Proofs.Tryz.prog) 134 128 fnT134 := ⟨(fnOk_of Go.Proofs.Tryz.func134 rfl rfl), fnP262, fnP390⟩
theorem fnP326 : TreeP (FnOk Go.Proofs.Tryz.prog) 326 256 fnT326 := ⟨(fnOk_of Go.Proofs.Tryz.func326 rfl rfl), trivial, trivial⟩
theorem fnP198 : TreeP (FnOk Go.Proofs.Tryz.prog) 198 128 fnT198 := ⟨(fnOk_of Go.Proofs.Tryz.func198 rfl rfl), fnP326, trivial⟩
theorem fnP70 : TreeP (FnOk Go.Proofs.Tryz.prog) 70 64 fnT70 := ⟨(fnOk_of Go.Proofs.Tryz.func70 rfl rfl), fnP134, fnP198⟩
theorem fnP294 : TreeP (FnOk Go.Proofs.Tryz.prog) 294 256 fnT294 := ⟨(fnOk_of Go.Proofs.Tryz.func294 rfl rfl), trivial, trivial⟩
theorem fnP166 : TreeP (FnOk Go.Proofs.Tryz.prog) 166 128 fnT166 := ⟨(fnOk_of Go.Proofs.Tryz.func166 rfl rfl), fnP294, trivial⟩
theorem fnP358 : TreeP (FnOk Go.Proofs.Tryz.prog) 358 256 fnT358 := ⟨(fnOk_of Go.Proofs.Tryz.func358 rfl rfl), trivial, trivial⟩
theorem fnP230 : TreeP (FnOk Go.Proofs.Tryz.prog) 230 128 fnT230 := ⟨(fnOk_of Go.Proofs.Tryz.func230 rfl rfl), fnP358, trivial⟩
theorem fnP102 : TreeP (FnOk Go.Proofs.Tryz.prog) 102 64 fnT102 := ⟨(fnOk_of Go.Proofs.Tryz.func102 rfl rfl), fnP166, fnP230⟩
theorem fnP38 : TreeP (FnOk Go.Proofs.Tryz.prog) 38 32 fnT38 := ⟨(fnOk_of Go.Proofs.Tryz.func38 rfl rfl), fnP70, fnP102⟩
theorem fnP278 : TreeP (FnOk Go.Proofs.Tryz.prog) 278 256 fnT278 := ⟨(fnOk_of Go.Proofs.Tryz.func278 rfl rfl), trivial, trivial⟩
theorem fnP150 : TreeP (FnOk Go.Proofs.Tryz.prog) 150 128 fnT150 := ⟨(fnOk_of Go.Proofs.Tryz.func150 rfl rfl), fnP278, trivial⟩
theorem fnP342 : TreeP (FnOk Go.Proofs.Tryz.prog) 342 256 fnT342 := ⟨(fnOk_of Go.Proofs.Tryz.func342 rfl rfl), trivial, trivial⟩
theorem fnP214 : TreeP (FnOk Go.Proofs.Tryz.prog) 214 128 fnT214 := ⟨(fnOk_of Go.Proofs.Tryz.func214 rfl rfl), fnP342, trivial⟩
theorem fnP86 : TreeP (FnOk Go.Proofs.Tryz.prog) 86 64 fnT86 := ⟨(fnOk_of Go.Proofs.Tryz.func86 rfl rfl), fnP150, fnP214⟩
theorem fnP310 : TreeP (FnOk Go.Proofs.Tryz.prog) 310 256 fnT310 := ⟨(fnOk_of Go.Proofs.Tryz.func310 rfl rfl), trivial, trivial⟩
theorem fnP182 : TreeP (FnOk Go.Proofs.Tryz.prog) 182 128 fnT182 := ⟨(fnOk_of Go.Proofs.Tryz.func182 rfl rfl), fnP310, trivial⟩
theorem fnP374 : TreeP (FnOk Go.Proofs.Tryz.prog) 374 256 fnT374 := ⟨(fnOk_of Go.Proofs.Tryz.func374 rfl rfl), trivial, trivial⟩
theorem fnP246 : TreeP (FnOk Go.Proofs.Tryz.prog) 246 128 fnT246 := ⟨(fnOk_of Go.Proofs.Tryz.func246 rfl rfl), fnP374, trivial⟩
theorem fnP118 : TreeP (FnOk Go.Proofs.Tryz.prog) 118 64 fnT118 := ⟨(fnOk_of Go.Proofs.Tryz.func118 rfl rfl), fnP182, fnP246⟩
theorem fnP54 : TreeP (FnOk Go.Proofs.Tryz.prog) 54 32 fnT54 := ⟨(fnOk_of Go.Proofs.Tryz.func54 rfl rfl), fnP86, fnP118⟩
theorem fnP22 : TreeP (FnOk Go.Proofs.Tryz.prog) 22 16 fnT22 := ⟨(fnOk_of Go.Proofs.Tryz.func22 rfl rfl), fnP38, fnP54⟩
theorem fnP270 : TreeP (FnOk Go.Proofs.Tryz.prog) 270 256 fnT270 := ⟨(fnOk_of Go.Proofs.Tryz.func270 rfl rfl), trivial, trivial⟩
theorem fnP142 : TreeP (FnOk Go.Proofs.Tryz.prog) 142 128 fnT142 := ⟨(fnOk_of Go.Proofs.Tryz.func142 rfl rfl), fnP270, trivial⟩
theorem fnP334 : TreeP (FnOk Go.Proofs.Tryz.prog) 334 256 fnT334 := ⟨(fnOk_of Go.Proofs.Tryz.func334 rfl rfl), trivial, trivial⟩
theorem fnP206 : TreeP (FnOk Go.Proofs.Tryz.prog) 206 128 fnT206 := ⟨(fnOk_of Go.Proofs.Tryz.func206 rfl rfl), fnP334, trivial⟩
theorem fnP78 : TreeP (FnOk Go.Proofs.Tryz.prog) 78 64 fnT78 := ⟨(fnOk_of Go.Proofs.Tryz.func78 rfl rfl), fnP142, fnP206⟩
theorem fnP302 : TreeP (FnOk Go.Proofs.Tryz.prog) 302 256 fnT302 := ⟨(fnOk_of Go.Proofs.Tryz.func302 rfl rfl), trivial, trivial⟩
theorem fnP174 : TreeP (FnOk Go.Proofs.Tryz.prog) 174 128 fnT174 := ⟨(fnOk_of Go.Proofs.Tryz.func174 rfl rfl), fnP302, trivial⟩
theorem fnP366 : TreeP (FnOk Go.Proofs.Tryz.prog) 366 256 fnT366 := ⟨(fnOk_of Go.Proofs.Tryz.func366 rfl rfl), trivial, trivial⟩
theorem fnP238 : TreeP (FnOk Go.Proofs.Tryz.prog) 238 128 fnT238 := ⟨(fnOk_of Go.Proofs.Tryz.func238 rfl rfl), fnP366, trivial⟩
theorem fnP110 : TreeP (FnOk Go.Proofs.Tryz.prog) 110 64 fnT110 := ⟨(fnOk_of Go.Proofs.Tryz.func110 rfl rfl), fnP174, fnP238⟩
theorem fnP46 : TreeP (FnOk Go.Proofs.Tryz.prog) 46 32 fnT46 := ⟨(fnOk_of Go.Proofs.Tryz.func46 rfl rfl), fnP78, fnP110⟩
theorem fnP286 : TreeP (FnOk Go.Proofs.Tryz.prog) 286 256 fnT286 := ⟨(fnOk_of Go.Proofs.Tryz.func286 rfl rfl), trivial, trivial⟩
theorem fnP158 : TreeP (FnOk Go.Proofs.Tryz.prog) 158 128 fnT158 := ⟨(fnOk_of Go.Proofs.Tryz.func158 rfl rfl), fnP286, trivial⟩
theorem fnP350 : TreeP (FnOk Go.Proofs.Tryz.prog) 350 256 fnT350 := ⟨(fnOk_of Go.Proofs.Tryz.func350 rfl rfl), trivial, trivial⟩
theorem fnP222 : TreeP (FnOk Go.Proofs.Tryz.prog) 222 128 fnT222 := ⟨(fnOk_of Go.Proofs.Tryz.func222 rfl rfl), fnP350, trivial⟩
theorem fnP94 : TreeP (FnOk Go.Proofs.Tryz.prog) 94 64 fnT94 := ⟨(fnOk_of Go.Proofs.Tryz.func94 rfl rfl), fnP158, fnP222⟩
theorem fnP318 : TreeP (FnOk Go.Proofs.Tryz.prog) 318 256 fnT318 := ⟨(fnOk_of Go.Proofs.Tryz.func318 rfl rfl), trivial, trivial⟩
theorem fnP190 : TreeP (FnOk Go.Proofs.Tryz.prog) 190 128 fnT190 := ⟨(fnOk_of Go.Proofs.Tryz.func190 rfl rfl), fnP318, trivial⟩
theorem fnP382 : TreeP (FnOk Go.Proofs.Tryz.prog) 382 256 fnT382 := ⟨(fun _ h => nomatch h), trivial, trivial⟩
theorem fnP254 : TreeP (FnOk Go.Proofs.Tryz.prog) 254 128 fnT254 := ⟨(fnOk_of Go.Proofs.Tryz.func254 rfl rfl), fnP382, trivial⟩
theorem fnP126 : TreeP (FnOk Go.Proofs.Tryz.prog) 126 64 fnT126 := ⟨(fnOk_of Go.Proofs.Tryz.func126 rfl rfl), fnP190, fnP254⟩
theorem fnP62 : TreeP (FnOk Go.Proofs.Tryz.prog) 62 32 fnT62 := ⟨(fnOk_of Go.Proofs.Tryz.func62 rfl rfl), fnP94, fnP126⟩
theorem fnP30 : TreeP (FnOk Go.Proofs.Tryz.prog) 30 16 fnT30 := ⟨(fnOk_of Go.Proofs.Tryz.func30 rfl rfl), fnP46, fnP62⟩
theorem fnP14 : TreeP (FnOk Go.Proofs.Tryz.prog) 14 8 fnT14 := ⟨(fnOk_of Go.Proofs.Tryz.func14 rfl rfl), fnP22, fnP30⟩
theorem fnP6 : TreeP (FnOk Go.Proofs.Tryz.prog) 6 4 fnT6 := ⟨(fnOk_of Go.Proofs.Tryz.func6 rfl rfl), fnP10, fnP14⟩
theorem fnP2 : TreeP (FnOk Go.Proofs.Tryz.prog) 2 2 fnT2 := ⟨(fnOk_of Go.Proofs.Tryz.func2 rfl rfl), fnP4, fnP6⟩
theorem fnP0 : TreeP (FnOk Go.Proofs.Tryz.prog) 0 1 fnT0 := ⟨(fun _ h => nomatch h), fnP1, fnP2⟩
end DG
